import PyProof.Rows.All
import Wide.All
import OpenK.AllK
import Wide.FinOn
import HandS.ForMost
import HandS.ForExc
import HandS.Defaults
import HandS.Wide
import HandS.Walk
import HandS.IsInst
import HandS.TupAny
import HandS.Style
import HandS.More
import HandS.Deep
import HandS.Text
import HandS.TupMul
import KE.GoesMore
import HandS.NoneIn
import HandS.EndBits
import HandS.HeadEnd
import HandS.Head0
import HandS.Head1
import HandS.Head2
import HandS.HeadHook1
import HandS.HeadHook2
import KE.KStateDown
import PySem.Challenge.RW_bentcurves_k16_whole_close_places
set_option Elab.async false
set_option linter.all false
set_option maxRecDepth 100000
set_option maxHeartbeats 2000000
/-! BcL: typed judgements over the hand layer. A type says what is true of a value over the part F of the heap that is known; the rest of the heap H (lists of callers, lists of one's own that change) is framed. -/
namespace Bc
open PySem PySem.Spec
open PyProof.Rows L2

/-! ### heaps that grow -/
def Keep : HO → Prop
  | .ins _ _ _ => False
  | .tbl _ => False
  | _ => True
def Sub (F H : Hp) : Prop := ∀ a o, F a = some o → H a = some o
/-- what is asked of a relation of instances that change -/
class GM (M : Hp → Hp → Prop) : Prop where
  refl : ∀ F, M F F
  trans : ∀ {F G H}, M F G → M G H → M F H
  new : ∀ {F p o}, F p = none → M F (upd F p o)
/-- the growth of what is known -/
structure Gw (M : Hp → Hp → Prop) (F F2 : Hp) : Prop where
  keep : ∀ a o, F a = some o → Keep o → F2 a = some o
  dom : ∀ a, F2 a = none → F a = none
  m : M F F2
structure Step (M : Hp → Hp → Prop) (F H F2 H2 : Hp) : Prop where
  sub : Sub F2 H2
  gw : Gw M F F2
  fr : ∀ a o, F a = none → H a = some o → F2 a = none ∧ H2 a = some o
section
variable {M : Hp → Hp → Prop} {F F1 F2 F3 H H1 H2 H3 : Hp}
theorem Gw.refl [g : GM M] (F : Hp) : Gw M F F := ⟨fun _ _ h _ => h, fun _ h => h, g.refl F⟩
theorem Gw.trans [g : GM M] (a : Gw M F F1) (b : Gw M F1 F2) : Gw M F F2 :=
  ⟨fun x o h k => b.keep x o (a.keep x o h k) k, fun x h => a.dom x (b.dom x h), g.trans a.m b.m⟩
theorem Gw.new [g : GM M] {p : Addr} {o : HO} (h : F p = none) : Gw M F (upd F p o) :=
  ⟨fun x u e _ => by rw [upd_ne (ne_of_none e h)]; exact e, fun x e => by
    by_cases hx : x = p
    · rw [hx]; exact h
    · rw [upd_ne hx] at e; exact e, g.new h⟩
theorem Step.refl [g : GM M] (s : Sub F H) : Step M F H F H := ⟨s, Gw.refl F, fun _ _ h e => ⟨h, e⟩⟩
theorem Step.trans [g : GM M] (a : Step M F H F1 H1) (b : Step M F1 H1 F2 H2) : Step M F H F2 H2 :=
  ⟨b.sub, a.gw.trans b.gw, fun x o h e => by
    obtain ⟨h1, e1⟩ := a.fr x o h e
    exact b.fr x o h1 e1⟩
theorem Sub.no {p : Addr} (s : Sub F H) (h : H p = none) : F p = none := by
  cases e : F p with
  | none => rfl
  | some o => rw [s p o e] at h; cases h
theorem Sub.upd {p : Addr} {o : HO} (s : Sub F H) (h : H p = none) : Sub (upd F p o) (upd H p o) := fun a u e => by
  by_cases hx : a = p
  · subst hx; rw [upd_same] at e ⊢; exact e
  · rw [upd_ne hx] at e ⊢; exact s a u e
/-- a new object that is known -/
theorem Step.new [g : GM M] {p : Addr} {o : HO} (s : Sub F H) (h : H p = none) : Step M F H (upd F p o) (upd H p o) :=
  ⟨s.upd h, Gw.new (s.no h), fun a u hf e => by
    have ne : a ≠ p := ne_of_none e h
    rw [upd_ne ne, upd_ne ne]
    exact ⟨hf, e⟩⟩
/-- a new object that is one's own -/
theorem Step.own [g : GM M] {p : Addr} {o : HO} (s : Sub F H) (h : H p = none) : Step M F H F (upd H p o) :=
  ⟨fun a u e => by rw [upd_ne (ne_of_none (s a u e) h)]; exact s a u e, Gw.refl F, fun a u hf e => ⟨hf, by rw [upd_ne (ne_of_none e h)]; exact e⟩⟩
/-- one's own becomes known -/
theorem Step.adopt [g : GM M] {p : Addr} {o : HO} (st : Step M F H F2 H2) (h0 : H p = none) (hf : F2 p = none) (hh : H2 p = some o) : Step M F H (upd F2 p o) H2 :=
  ⟨fun a u e => by
    by_cases ha : a = p
    · subst ha; rw [upd_same] at e; rw [← e]; exact hh
    · rw [upd_ne ha] at e; exact st.sub a u e, st.gw.trans (Gw.new hf), fun a u e1 e2 => by
    have ha : a ≠ p := ne_of_none e2 h0
    rw [upd_ne ha]
    exact st.fr a u e1 e2⟩
theorem Step.dom (st : Step M F H F2 H2) {a : Addr} (h : H2 a = none) : H a = none := by
  cases e : H a with
  | none => rfl
  | some o =>
    cases f : F a with
    | none =>
      have q := (st.fr a o f e).2
      rw [h] at q; cases q
    | some u =>
      cases k : F2 a with
      | none => have q := st.gw.dom a k; rw [f] at q; cases q
      | some z => have q := st.sub a z k; rw [h] at q; cases q
theorem rd_gw {a : Addr} {u : HO} (e : Gw M F F2) (k : Keep u) (h : Rd F a u) : Rd F2 a u := by
  rcases h with h | ⟨o, h⟩
  · exact Or.inl (e.keep a _ h k)
  · exact Or.inr ⟨o, e.keep a _ h True.intro⟩
theorem rd_sub {a : Addr} {u : HO} (e : Sub F H) (h : Rd F a u) : Rd H a u := by
  rcases h with h | ⟨o, h⟩
  · exact Or.inl (e a _ h)
  · exact Or.inr ⟨o, e a _ h⟩
variable {K : PySem.W.Frag} {a : Addr} {xs : List V}
theorem sqL_gw (e : Gw M F F2) (h : SqL K F a xs) : SqL K F2 a xs := by
  rcases h with h | h
  · exact Or.inl (rd_gw e True.intro h)
  · exact Or.inr h
theorem sqT_gw (e : Gw M F F2) (h : SqT K F a xs) : SqT K F2 a xs := by
  rcases h with h | h
  · exact Or.inl (rd_gw e True.intro h)
  · exact Or.inr h
theorem sqL_sub (e : Sub F H) (h : SqL K F a xs) : SqL K H a xs := by
  rcases h with h | h
  · exact Or.inl (rd_sub e h)
  · exact Or.inr h
theorem sqT_sub (e : Sub F H) (h : SqT K F a xs) : SqT K H a xs := by
  rcases h with h | h
  · exact Or.inl (rd_sub e h)
  · exact Or.inr h
theorem dp_map {K : PySem.W.Frag} {F F2 : Hp} (hl : ∀ a xs, SqL K F a xs → SqL K F2 a xs) (ht : ∀ a xs, SqT K F a xs → SqT K F2 a xs) {v : V} {d : PyData} (h : Dp K F v d) : Dp K F2 v d :=
  Dp.rec (motive_1 := fun v d _ => Dp K F2 v d) (motive_2 := fun vs ds _ => DpAll K F2 vs ds) .non .bl .int .str (fun h _ ih => .lst (hl _ _ h) ih) (fun h _ ih => .tup (ht _ _ h) ih) .nil (fun _ _ ih1 ih2 => .cons ih1 ih2) h
theorem dpAll_map {K : PySem.W.Frag} {F F2 : Hp} (hl : ∀ a xs, SqL K F a xs → SqL K F2 a xs) (ht : ∀ a xs, SqT K F a xs → SqT K F2 a xs) {vs : List V} {ds : List PyData} (h : DpAll K F vs ds) : DpAll K F2 vs ds :=
  DpAll.rec (motive_1 := fun v d _ => Dp K F2 v d) (motive_2 := fun vs ds _ => DpAll K F2 vs ds) .non .bl .int .str (fun h _ ih => .lst (hl _ _ h) ih) (fun h _ ih => .tup (ht _ _ h) ih) .nil (fun _ _ ih1 ih2 => .cons ih1 ih2) h
theorem dp_gw (e : Gw M F F2) {v : V} {d : PyData} (h : Dp K F v d) : Dp K F2 v d := dp_map (fun _ _ => sqL_gw e) (fun _ _ => sqT_gw e) h
theorem dp_sub (e : Sub F H) {v : V} {d : PyData} (h : Dp K F v d) : Dp K H v d := dp_map (fun _ _ => sqL_sub e) (fun _ _ => sqT_sub e) h
end

/-! ### types -/
structure Ty (M : Hp → Hp → Prop) where
  φ : V → Hp → Prop
  mono : ∀ {v F F2}, Gw M F F2 → φ v F → φ v F2
section
variable {M : Hp → Hp → Prop}
/-- the value is the datum d -/
def isD (K : PySem.W.Frag) (d : PyData) : Ty M := ⟨fun v F => Dp K F v d, fun e h => dp_gw e h⟩
/-- the value is v -/
def isV (v : V) : Ty M := ⟨fun x _ => x = v, fun _ h => h⟩
def anyT : Ty M := ⟨fun _ _ => True, fun _ h => h⟩
def Tys (F : Hp) : List V → List (Ty M) → Prop := Paired fun v τ => τ.φ v F
theorem Tys.mono {F F2 : Hp} (e : Gw M F F2) : ∀ {vs : List V} {τs : List (Ty M)}, Tys F vs τs → Tys F2 vs τs
  | _, _, .nil => .nil
  | _, _, .cons h t => .cons (Ty.mono _ e h) (Tys.mono e t)
theorem Tys.length {F : Hp} {vs : List V} {τs : List (Ty M)} (h : Tys F vs τs) : vs.length = τs.length := Paired.length h
/-- a list, a tuple in the known part, its items typed -/
def isLs (τs : List (Ty M)) : Ty M := ⟨fun v F => ∃ a xs, v = .ref a ∧ F a = some (.lst xs) ∧ Tys F xs τs, fun e ⟨a, xs, h1, h2, h3⟩ => ⟨a, xs, h1, e.keep a _ h2 True.intro, h3.mono e⟩⟩
def isTs (K : PySem.W.Frag) (τs : List (Ty M)) : Ty M := ⟨fun v F => ∃ a xs, v = .ref a ∧ SqT K F a xs ∧ Tys F xs τs, fun e ⟨a, xs, h1, h2, h3⟩ => ⟨a, xs, h1, sqT_gw e h2, h3.mono e⟩⟩
/-- a tuple that is tracked as such -/
def isTt (τs : List (Ty M)) : Ty M := ⟨fun v F => ∃ a xs, v = .ref a ∧ F a = some (.tup xs) ∧ Tys F xs τs, fun e ⟨a, xs, h1, h2, h3⟩ => ⟨a, xs, h1, e.keep a _ h2 True.intro, h3.mono e⟩⟩
/-- τ says at least what υ says -/
def Le (τ υ : Ty M) : Prop := ∀ v F, τ.φ v F → υ.φ v F
theorem le_tt {K : PySem.W.Frag} {τs : List (Ty M)} : Le (isTt τs) (isTs K τs) := fun _ _ ⟨a, xs, e, h, t⟩ => ⟨a, xs, e, Or.inl (Or.inl h), t⟩
theorem Le.refl (τ : Ty M) : Le τ τ := fun _ _ h => h
theorem tys_dps {K : PySem.W.Frag} {F : Hp} : ∀ {vs : List V} {ds : List PyData}, Tys F vs (ds.map (isD (M := M) K)) → DpAll K F vs ds
  | [], [], _ => .nil
  | [], _ :: _, h => by cases h
  | _ :: _, [], h => by cases h
  | v :: vs, d :: ds, h => by
    cases h with
    | cons h t => exact .cons h (tys_dps t)
theorem dps_tys {K : PySem.W.Frag} {F : Hp} : ∀ {vs : List V} {ds : List PyData}, DpAll K F vs ds → Tys F vs (ds.map (isD (M := M) K))
  | [], [], _ => .nil
  | _, _, .cons h t => .cons h (dps_tys t)
theorem le_lsD {K : PySem.W.Frag} {ds : List PyData} : Le (isLs (M := M) (ds.map (isD K))) (isD K (.list ds)) := fun _ _ ⟨_, _, e, h, t⟩ => by
  subst e; exact .lst (Or.inl (Or.inl h)) (tys_dps t)
theorem le_tsD {K : PySem.W.Frag} {ds : List PyData} : Le (isTs (M := M) K (ds.map (isD K))) (isD K (.tuple ds)) := fun _ _ ⟨_, _, e, h, t⟩ => by
  subst e; exact .tup h (tys_dps t)
theorem le_Dts {K : PySem.W.Frag} {ds : List PyData} : Le (isD (M := M) K (.tuple ds)) (isTs K (ds.map (isD K))) := fun _ _ h => by
  cases h with
  | tup h t => exact ⟨_, _, rfl, h, dps_tys t⟩

/-! ### slots -/
/-- what is true of an object of one's own -/
structure Ow (M : Hp → Hp → Prop) where
  φ : Addr → HO → Hp → Prop
  mono : ∀ {p o F F2}, Gw M F F2 → φ p o F → φ p o F2
def owL (τs : List (Ty M)) : Ow M := ⟨fun _ o F => ∃ vs, o = .lst vs ∧ Tys F vs τs, fun e ⟨vs, h1, h2⟩ => ⟨vs, h1, h2.mono e⟩⟩
/-- .. at a told place -/
def owQ (q : Option Addr) (τs : List (Ty M)) : Ow M := ⟨fun p o F => (∀ a, q = some a → p = a) ∧ ∃ vs, o = .lst vs ∧ Tys F vs τs, fun e ⟨h0, vs, h1, h2⟩ => ⟨h0, vs, h1, h2.mono e⟩⟩
inductive Slot (M : Hp → Hp → Prop) where
  | any
  | ty (τ : Ty M)
  | own (w : Ow M)
def SlotOk (F H : Hp) (x : Option V) : Slot M → Prop
  | .any => True
  | .ty τ => ∃ v, x = some v ∧ τ.φ v F
  | .own w => ∃ p o, x = some (.ref p) ∧ F p = none ∧ H p = some o ∧ w.φ p o F
def OwnAt (σ : L2.St) (Γ : List (Slot M)) (p : Addr) : Prop := ∃ (i : Nat) (w : Ow M), Γ[i]? = some (.own w) ∧ σ[i]? = some (some (.ref p))
structure Sl (F H : Hp) (σ : L2.St) (Γ : List (Slot M)) : Prop where
  len : σ.length = Γ.length
  at_ : ∀ (i : Nat) (s : Slot M), Γ[i]? = some s → ∃ x, σ[i]? = some x ∧ SlotOk F H x s
  one : ∀ (i j : Nat) (w w' : Ow M) (p : Addr), Γ[i]? = some (.own w) → Γ[j]? = some (.own w') → σ[i]? = some (some (.ref p)) → σ[j]? = some (some (.ref p)) → i = j
theorem SlotOk.step {F H F2 H2 : Hp} {x : Option V} {s : Slot M} (st : Step M F H F2 H2) (h : SlotOk F H x s) : SlotOk F2 H2 x s := by
  cases s with
  | any => trivial
  | ty τ =>
    obtain ⟨v, e, h⟩ := h
    exact ⟨v, e, τ.mono st.gw h⟩
  | own w =>
    obtain ⟨p, o, e, h1, h2, h3⟩ := h
    obtain ⟨q1, q2⟩ := st.fr p _ h1 h2
    exact ⟨p, o, e, q1, q2, w.mono st.gw h3⟩
theorem Sl.step {F H F2 H2 : Hp} {σ : L2.St} {Γ : List (Slot M)} (st : Step M F H F2 H2) (h : Sl F H σ Γ) : Sl F2 H2 σ Γ :=
  ⟨h.len, fun i s e => by
    obtain ⟨x, e1, e2⟩ := h.at_ i s e
    exact ⟨x, e1, e2.step st⟩, h.one⟩
theorem Sl.ty {F H : Hp} {σ : L2.St} {Γ : List (Slot M)} {i : Nat} {τ : Ty M} (h : Sl F H σ Γ) (e : Γ[i]? = some (.ty τ)) : ∃ v, σ[i]? = some (some v) ∧ τ.φ v F := by
  obtain ⟨x, e1, v, e2, e3⟩ := h.at_ i _ e
  subst e2
  exact ⟨v, e1, e3⟩
theorem Sl.own {F H : Hp} {σ : L2.St} {Γ : List (Slot M)} {i : Nat} {w : Ow M} (h : Sl F H σ Γ) (e : Γ[i]? = some (.own w)) : ∃ p o, σ[i]? = some (some (.ref p)) ∧ F p = none ∧ H p = some o ∧ w.φ p o F := by
  obtain ⟨x, e1, p, o, e2, e3⟩ := h.at_ i _ e
  subst e2
  exact ⟨p, o, e1, e3⟩
theorem set_own {σ : L2.St} {Γ : List (Slot M)} {i : Nat} {x : Option V} {s : Slot M} {p : Addr} (hs : ∀ w, s ≠ .own w) (h : OwnAt (σ.set i x) (Γ.set i s) p) : OwnAt σ Γ p := by
  obtain ⟨j, w, e1, e2⟩ := h
  have n1 : i ≠ j := fun z => by
    subst z
    rw [List.getElem?_set, if_pos rfl] at e1
    split at e1
    · injection e1 with e1; exact hs w e1
    · cases e1
  rw [List.getElem?_set_ne n1] at e1 e2
  exact ⟨j, w, e1, e2⟩
/-- a slot takes a value, or is forgotten -/
theorem Sl.put {F H : Hp} {σ : L2.St} {Γ : List (Slot M)} {i : Nat} {x : Option V} {s : Slot M} (h : Sl F H σ Γ) (hs : ∀ w, s ≠ .own w) (hx : SlotOk F H x s) : Sl F H (σ.set i x) (Γ.set i s) := by
  refine ⟨by rw [List.length_set, List.length_set]; exact h.len, fun j s' e => ?_, fun j k w w' p e1 e2 e3 e4 => ?_⟩
  · by_cases hj : i = j
    · subst hj
      rw [List.getElem?_set] at e ⊢
      rw [if_pos rfl] at e ⊢
      split at e
      · rename_i hl
        cases e
        rw [if_pos (by rw [h.len]; exact hl)]
        exact ⟨_, rfl, hx⟩
      · cases e
    · rw [List.getElem?_set_ne hj] at e ⊢
      exact h.at_ j s' e
  · have n : ∀ (j : Nat) (w : Ow M), (Γ.set i s)[j]? = some (.own w) → i ≠ j := fun j w e z => by
      subst z
      rw [List.getElem?_set, if_pos rfl] at e
      split at e
      · injection e with e; exact hs w e
      · cases e
    have n1 := n j w e1
    have n2 := n k w' e2
    rw [List.getElem?_set_ne n1] at e1 e3
    rw [List.getElem?_set_ne n2] at e2 e4
    exact h.one j k w w' p e1 e2 e3 e4
theorem Sl.set {F H : Hp} {σ : L2.St} {Γ : List (Slot M)} {i : Nat} {v : V} {τ : Ty M} (h : Sl F H σ Γ) (hv : τ.φ v F) : Sl F H (σ.set i (some v)) (Γ.set i (.ty τ)) :=
  h.put (fun _ z => nomatch z) ⟨v, rfl, hv⟩
theorem Sl.drop {F H : Hp} {σ : L2.St} {Γ : List (Slot M)} {i : Nat} {x : Option V} (h : Sl F H σ Γ) : Sl F H (σ.set i x) (Γ.set i .any) := h.put (fun _ z => nomatch z) trivial
/-- a slot takes an object of one's own -/
theorem Sl.setOwn {F H : Hp} {σ : L2.St} {Γ : List (Slot M)} {i : Nat} {p : Addr} {o : HO} {w : Ow M} (h : Sl F H σ Γ) (h1 : F p = none) (h2 : H p = some o) (h3 : w.φ p o F)
    (hn : ∀ (j : Nat) (w' : Ow M), j ≠ i → Γ[j]? = some (.own w') → σ[j]? ≠ some (some (.ref p))) : Sl F H (σ.set i (some (.ref p))) (Γ.set i (.own w)) := by
  refine ⟨by rw [List.length_set, List.length_set]; exact h.len, fun j s e => ?_, fun j k w1 w2 q e1 e2 e3 e4 => ?_⟩
  · by_cases hj : i = j
    · subst hj
      rw [List.getElem?_set] at e ⊢
      rw [if_pos rfl] at e ⊢
      split at e
      · rename_i hl
        cases e
        rw [if_pos (by rw [h.len]; exact hl)]
        exact ⟨_, rfl, p, o, rfl, h1, h2, h3⟩
      · cases e
    · rw [List.getElem?_set_ne hj] at e ⊢
      exact h.at_ j s e
  · have at_ : ∀ (j : Nat), i = j → (σ.set i (some (V.ref p)))[j]? = some (some (.ref q)) → q = p := fun j z e => by
      subst z
      rw [List.getElem?_set, if_pos rfl] at e
      split at e
      · injection e with e; injection e with e; injection e with e; exact e.symm
      · cases e
    by_cases hj : i = j
    · by_cases hk : i = k
      · exact hj.symm.trans hk
      · have eq := at_ j hj e3
        subst eq
        rw [List.getElem?_set_ne hk] at e2 e4
        exact absurd e4 (hn k w2 (Ne.symm hk) e2)
    · rw [List.getElem?_set_ne hj] at e1 e3
      by_cases hk : i = k
      · have eq := at_ k hk e4
        subst eq
        exact absurd e3 (hn j w1 (Ne.symm hj) e1)
      · rw [List.getElem?_set_ne hk] at e2 e4
        exact h.one j k w1 w2 q e1 e2 e3 e4
/-- weaker words of slots -/
def SlotLe : Slot M → Slot M → Prop
  | _, .any => True
  | .ty τ, .ty υ => Le τ υ
  | .own w, .own u => w = u
  | _, _ => False
theorem SlotLe.refl (s : Slot M) : SlotLe s s := by
  cases s with
  | any => trivial
  | ty τ => exact Le.refl τ
  | own w => exact rfl
theorem SlotOk.le {F H : Hp} {x : Option V} {s u : Slot M} (l : SlotLe s u) (h : SlotOk F H x s) : SlotOk F H x u := by
  cases u with
  | any => trivial
  | ty υ =>
    cases s with
    | ty τ => obtain ⟨v, e, h⟩ := h; exact ⟨v, e, l v F h⟩
    | any => exact l.elim
    | own _ => exact l.elim
  | own υ =>
    cases s with
    | own τ => cases l; exact h
    | any => exact l.elim
    | ty _ => exact l.elim
def SlsLe : List (Slot M) → List (Slot M) → Prop := Paired SlotLe
theorem SlsLe.refl : ∀ Γ : List (Slot M), SlsLe Γ Γ
  | [] => .nil
  | s :: r => .cons (SlotLe.refl s) (SlsLe.refl r)
theorem SlsLe.at_ : ∀ {Γ Δ : List (Slot M)} {i : Nat} {u : Slot M}, SlsLe Γ Δ → Δ[i]? = some u → ∃ s, Γ[i]? = some s ∧ SlotLe s u
  | _, _, _, _, .nil, e => by simp at e
  | _, _, 0, _, .cons h _, e => by
    simp at e
    subst e
    exact ⟨_, rfl, h⟩
  | _, _, i + 1, u, .cons _ t, e => by
    obtain ⟨s, e1, e2⟩ := SlsLe.at_ (i := i) (u := u) t (by simpa using e)
    exact ⟨s, by simpa using e1, e2⟩
theorem SlsLe.own {Γ Δ : List (Slot M)} {i : Nat} {w : Ow M} (l : SlsLe Γ Δ) (e : Δ[i]? = some (.own w)) : Γ[i]? = some (.own w) := by
  obtain ⟨s, e1, e2⟩ := l.at_ e
  cases s with
  | own u => cases e2; exact e1
  | any => exact e2.elim
  | ty _ => exact e2.elim
theorem Sl.le {F H : Hp} {σ : L2.St} {Γ Δ : List (Slot M)} (h : Sl F H σ Γ) (l : SlsLe Γ Δ) : Sl F H σ Δ := by
  refine ⟨h.len.trans (Paired.length l), fun i u e => ?_, fun i j w w' p e1 e2 e3 e4 => h.one i j w w' p (l.own e1) (l.own e2) e3 e4⟩
  obtain ⟨s, e1, e2⟩ := l.at_ e
  obtain ⟨x, e3, e4⟩ := h.at_ i s e1
  exact ⟨x, e3, e4.le e2⟩
/-- the state of a running body: O: what may change (all that is new since the entry, and what was lent) -/
structure Wd (O : Addr → Prop) (F H : Hp) (σ : L2.St) (Γ : List (Slot M)) : Prop where
  sub : Sub F H
  sl : Sl F H σ Γ
  own : ∀ p, OwnAt σ Γ p → O p
  fresh : ∀ p, H p = none → O p
/-- a step that may change what lies in O -/
structure StepX (M : Hp → Hp → Prop) (O : Addr → Prop) (F H F2 H2 : Hp) : Prop where
  gw : Gw M F F2
  dom : ∀ a, H2 a = none → H a = none
  fr : ∀ a o, ¬ O a → F a = none → H a = some o → F2 a = none ∧ H2 a = some o
section
variable {O : Addr → Prop} {F H F1 H1 F2 H2 : Hp} {σ : L2.St} {Γ Δ : List (Slot M)}
theorem Step.x (st : Step M F H F2 H2) : StepX M O F H F2 H2 := ⟨st.gw, fun _ h => st.dom h, fun a o _ h1 h2 => st.fr a o h1 h2⟩
theorem StepX.refl [g : GM M] : StepX M O F H F H := ⟨Gw.refl F, fun _ h => h, fun _ _ _ h1 h2 => ⟨h1, h2⟩⟩
theorem StepX.trans [g : GM M] (a : StepX M O F H F1 H1) (b : StepX M O F1 H1 F2 H2) : StepX M O F H F2 H2 :=
  ⟨a.gw.trans b.gw, fun x h => a.dom x (b.dom x h), fun x o n h1 h2 => by
    obtain ⟨e1, e2⟩ := a.fr x o n h1 h2
    exact b.fr x o n e1 e2⟩
theorem Wd.step (w : Wd O F H σ Γ) (st : Step M F H F2 H2) : Wd O F2 H2 σ Γ := ⟨st.sub, w.sl.step st, w.own, fun p h => w.fresh p (st.dom h)⟩
theorem Wd.put {i : Nat} {x : Option V} {s : Slot M} (w : Wd O F H σ Γ) (hs : ∀ w, s ≠ .own w) (hx : SlotOk F H x s) : Wd O F H (σ.set i x) (Γ.set i s) :=
  ⟨w.sub, w.sl.put hs hx, fun p h => w.own p (set_own hs h), w.fresh⟩
theorem Wd.set {i : Nat} {v : V} {τ : Ty M} (w : Wd O F H σ Γ) (hv : τ.φ v F) : Wd O F H (σ.set i (some v)) (Γ.set i (.ty τ)) := w.put (fun _ z => nomatch z) ⟨v, rfl, hv⟩
theorem Wd.setOwn {i : Nat} {p : Addr} {o : HO} {u : Ow M} (w : Wd O F H σ Γ) (h1 : F p = none) (h2 : H p = some o) (h3 : u.φ p o F) (hO : O p) (hn : ∀ q, OwnAt σ Γ q → q ≠ p) : Wd O F H (σ.set i (some (.ref p))) (Γ.set i (.own u)) :=
  ⟨w.sub, w.sl.setOwn h1 h2 h3 fun j w' _ e1 e2 => hn p ⟨j, w', e1, e2⟩ rfl, fun q ⟨j, w', e1, e2⟩ => by
    by_cases hj : i = j
    · subst hj
      rw [List.getElem?_set, if_pos rfl] at e2
      split at e2
      · injection e2 with e2; injection e2 with e2; injection e2 with e2; rw [← e2]; exact hO
      · cases e2
    · rw [List.getElem?_set_ne hj] at e1 e2
      exact w.own q ⟨j, w', e1, e2⟩, w.fresh⟩
theorem Wd.le (w : Wd O F H σ Γ) (l : SlsLe Γ Δ) : Wd O F H σ Δ := ⟨w.sub, w.sl.le l, fun p ⟨i, u, e1, e2⟩ => w.own p ⟨i, u, l.own e1, e2⟩, w.fresh⟩
/-- an object of one's own is written -/
theorem Wd.write [g : GM M] {i : Nat} {p : Addr} {o o' : HO} {u u' : Ow M} (w : Wd O F H σ Γ) (e : Γ[i]? = some (.own u)) (eσ : σ[i]? = some (some (.ref p))) (hf : F p = none) (hh : H p = some o) (hu : u'.φ p o' F) :
    Wd O F (upd H p o') σ (Γ.set i (.own u')) ∧ StepX M O F H F (upd H p o') := by
  have hO : O p := w.own p ⟨i, u, e, eσ⟩
  have hs : σ.set i (some (.ref p)) = σ := by
    refine List.ext_getElem? fun j => ?_
    by_cases hj : i = j
    · subst hj
      rw [List.getElem?_set, if_pos rfl, if_pos (List.getElem?_eq_some_iff.mp eσ).1]
      exact eσ.symm
    · rw [List.getElem?_set_ne hj]
  have sub2 : Sub F (upd H p o') := fun a z ea => by
    rw [upd_ne (fun q => by subst q; rw [hf] at ea; cases ea)]
    exact w.sub a z ea
  refine ⟨⟨sub2, ⟨?_, fun j s es => ?_, fun j k w1 w2 q e1 e2 e3 e4 => ?_⟩, fun q ⟨j, w', e1, e2⟩ => ?_, fun q hq => ?_⟩, Gw.refl F, fun a ha => ?_, fun a z n h1 h2 => ?_⟩
  · rw [List.length_set]; exact w.sl.len
  · by_cases hj : i = j
    · subst hj
      rw [List.getElem?_set, if_pos rfl] at es
      split at es
      · cases es
        exact ⟨_, eσ, p, o', rfl, hf, upd_same, hu⟩
      · cases es
    · rw [List.getElem?_set_ne hj] at es
      obtain ⟨x, e1, e2⟩ := w.sl.at_ j s es
      refine ⟨x, e1, ?_⟩
      cases s with
      | any => trivial
      | ty τ => exact e2
      | own u2 =>
        obtain ⟨q, z, a1, a2, a3, a4⟩ := e2
        refine ⟨q, z, a1, a2, ?_, a4⟩
        rw [upd_ne (fun eq => hj (w.sl.one i j u u2 p e es eσ (by rw [e1, a1, eq])))]
        exact a3
  · have back : ∀ (j : Nat) (w1 : Ow M), (Γ.set i (.own u'))[j]? = some (.own w1) → ∃ w2, Γ[j]? = some (.own w2) := fun j w1 ej => by
      by_cases hj : i = j
      · subst hj; exact ⟨u, e⟩
      · rw [List.getElem?_set_ne hj] at ej; exact ⟨w1, ej⟩
    obtain ⟨v1, f1⟩ := back j w1 e1
    obtain ⟨v2, f2⟩ := back k w2 e2
    exact w.sl.one j k v1 v2 q f1 f2 e3 e4
  · by_cases hj : i = j
    · subst hj
      rw [eσ] at e2
      injection e2 with e2; injection e2 with e2; injection e2 with e2
      rw [← e2]; exact hO
    · rw [List.getElem?_set_ne hj] at e1
      exact w.own q ⟨j, w', e1, e2⟩
  · by_cases hq2 : q = p
    · rw [hq2]; exact hO
    · rw [upd_ne hq2] at hq; exact w.fresh q hq
  · by_cases hq2 : a = p
    · subst hq2; rw [upd_same] at ha; cases ha
    · rw [upd_ne hq2] at ha; exact ha
  · have na : a ≠ p := fun q => n (q ▸ hO)
    rw [upd_ne na]
    exact ⟨h1, h2⟩
/-- one's own becomes known -/
theorem Wd.freeze [g : GM M] {i : Nat} {p : Addr} {o : HO} {u : Ow M} {τ : Ty M} (w : Wd O F H σ Γ) (e : Γ[i]? = some (.own u)) (eσ : σ[i]? = some (some (.ref p))) (hf : F p = none) (hh : H p = some o) (hτ : τ.φ (.ref p) (upd F p o)) :
    Wd O (upd F p o) H σ (Γ.set i (.ty τ)) ∧ StepX M O F H (upd F p o) H := by
  have gw : Gw M F (upd F p o) := Gw.new hf
  have sub2 : Sub (upd F p o) H := fun a z ea => by
    by_cases ha : a = p
    · subst ha; rw [upd_same] at ea; rw [← ea]; exact hh
    · rw [upd_ne ha] at ea; exact w.sub a z ea
  refine ⟨⟨sub2, ⟨?_, fun j s es => ?_, fun j k w1 w2 q e1 e2 e3 e4 => ?_⟩, fun q ⟨j, w', e1, e2⟩ => ?_, w.fresh⟩, gw, fun _ h => h, fun a z n h1 h2 => ?_⟩
  · rw [List.length_set]; exact w.sl.len
  · by_cases hj : i = j
    · subst hj
      rw [List.getElem?_set, if_pos rfl] at es
      split at es
      · cases es
        exact ⟨_, eσ, _, rfl, hτ⟩
      · cases es
    · rw [List.getElem?_set_ne hj] at es
      obtain ⟨x, e1, e2⟩ := w.sl.at_ j s es
      refine ⟨x, e1, ?_⟩
      cases s with
      | any => trivial
      | ty τ' =>
        obtain ⟨v, a1, a2⟩ := e2
        exact ⟨v, a1, τ'.mono gw a2⟩
      | own u2 =>
        obtain ⟨q, z, a1, a2, a3, a4⟩ := e2
        refine ⟨q, z, a1, ?_, a3, u2.mono gw a4⟩
        rw [upd_ne (fun eq => hj (w.sl.one i j u u2 p e es eσ (by rw [e1, a1, eq])))]
        exact a2
  · have n : ∀ (j : Nat) (w1 : Ow M), (Γ.set i (.ty τ))[j]? = some (.own w1) → i ≠ j := fun j w1 ej z => by
      subst z
      rw [List.getElem?_set, if_pos rfl] at ej
      split at ej <;> cases ej
    have n1 := n j w1 e1
    have n2 := n k w2 e2
    rw [List.getElem?_set_ne n1] at e1
    rw [List.getElem?_set_ne n2] at e2
    exact w.sl.one j k w1 w2 q e1 e2 e3 e4
  · have hj : i ≠ j := fun z => by
      subst z
      rw [List.getElem?_set, if_pos rfl] at e1
      split at e1 <;> cases e1
    rw [List.getElem?_set_ne hj] at e1
    exact w.own q ⟨j, w', e1, e2⟩
  · have na : a ≠ p := fun q => n (q ▸ w.own p ⟨i, u, e, eσ⟩)
    rw [upd_ne na]
    exact ⟨h1, h2⟩
end
end
end Bc

set_option maxRecDepth 100000
set_option maxHeartbeats 2000000
namespace Bc
open PySem PySem.Spec
open PyProof.Rows L2
variable {M : Hp → Hp → Prop} [g : GM M]

/-! ### how an expression ends: a value of a type, an exception of a class -/
inductive Re (M : Hp → Hp → Prop) where
  | val (τ : Ty M)
  | exc (C : Value)
inductive Ra (M : Hp → Hp → Prop) where
  | vals (τs : List (Ty M))
  | exc (C : Value)
def Raised (M : Hp → Hp → Prop) (E : XK) (O : Addr → Prop) (F H : Hp) (C : Value) : Prop := ∀ F2 H2, Sub F2 H2 → StepX M O F H F2 H2 → E C none H2
def Fin (E : XK) (O : Addr → Prop) (F H : Hp) (σ : L2.St) (Γ : List (Slot M)) (r : Re M) (Q : VK) : Prop := match r with
  | .val τ => ∀ v F2 H2, StepX M O F H F2 H2 → Wd O F2 H2 σ Γ → τ.φ v F2 → Q v H2
  | .exc C => Raised M E O F H C
def FinA (E : XK) (O : Addr → Prop) (F H : Hp) (σ : L2.St) (Γ : List (Slot M)) (r : Ra M) (Q : List V → Hp → Prop) : Prop := match r with
  | .vals τs => ∀ vs F2 H2, StepX M O F H F2 H2 → Wd O F2 H2 σ Γ → Tys F2 vs τs → Q vs H2
  | .exc C => Raised M E O F H C
/-- an expression's reading: from the slots Γ it ends by r, the slots then Δ -/
def Ev (E : XK) (t : TE) (Γ : List (Slot M)) (r : Re M) (Δ : List (Slot M)) : Prop := ∀ O F H σ Q, Wd O F H σ Γ → Fin E O F H σ Δ r Q → t σ H Q
def EvA (E : XK) (t : TA) (Γ : List (Slot M)) (r : Ra M) (Δ : List (Slot M)) : Prop := ∀ O F H σ Q, Wd O F H σ Γ → FinA E O F H σ Δ r Q → t σ H Q
def EvT (t : TT) (Γ : List (Slot M)) (b : Bool) (Δ : List (Slot M)) : Prop := ∀ O F H σ Q, Wd O F H σ Γ → (∀ F2 H2, StepX M O F H F2 H2 → Wd O F2 H2 σ Δ → Q b H2) → t σ H Q
/-- a new object of one's own -/
def EvO (t : TE) (Γ : List (Slot M)) (u : Ow M) (Δ : List (Slot M)) : Prop := ∀ O F H σ (Q : VK), Wd O F H σ Γ →
  (∀ p o F2 H2, StepX M O F H F2 H2 → Wd O F2 H2 σ Δ → O p → F2 p = none → H2 p = some o → u.φ p o F2 → (∀ q, OwnAt σ Δ q → q ≠ p) → Q (.ref p) H2) → t σ H Q
structure Xp (X : Cx) (E : XK) (e : Expr) (t : TE) (Γ : List (Slot M)) (r : Re M) (Δ : List (Slot M)) : Prop where
  pe : PE X e t
  ev : Ev E t Γ r Δ
structure Xo (X : Cx) (e : Expr) (t : TE) (Γ : List (Slot M)) (u : Ow M) (Δ : List (Slot M)) : Prop where
  pe : PE X e t
  ev : EvO t Γ u Δ
structure Xt (X : Cx) (e : Expr) (t : TT) (Γ : List (Slot M)) (b : Bool) (Δ : List (Slot M)) : Prop where
  pt : PT X e t
  ev : EvT t Γ b Δ
structure Xw (X : Cx) (e : Expr) (t : TT) (Γ : List (Slot M)) (b : Bool) (Δ : List (Slot M)) : Prop where
  pw : PW X e t
  ev : EvT t Γ b Δ
structure Xa (X : Cx) (E : XK) (es : List Expr) (t : TA) (Γ : List (Slot M)) (r : Ra M) (Δ : List (Slot M)) : Prop where
  pa : PA X es t
  ev : EvA E t Γ r Δ
section
variable {E : XK} {O : Addr → Prop} {F H F2 H2 : Hp} {σ : L2.St} {Γ Γ1 Γ2 Δ : List (Slot M)} {τ υ ω : Ty M} {τs : List (Ty M)} {r : Re M} {Q : VK}
theorem Raised.step {C : Value} (s : StepX M O F H F2 H2) (h : Raised M E O F H C) : Raised M E O F2 H2 C := fun F3 H3 sb s2 => h F3 H3 sb (s.trans s2)
theorem Fin.step (s : StepX M O F H F2 H2) (h : Fin E O F H σ Δ r Q) : Fin E O F2 H2 σ Δ r Q := by
  cases r with
  | val τ => exact fun v F3 H3 s2 w hv => h v F3 H3 (s.trans s2) w hv
  | exc C => exact Raised.step s h
theorem Ev.le {t : TE} (h : Ev E t Γ (.val τ) Δ) (l : Le τ υ) : Ev E t Γ (.val υ) Δ := fun O F H σ Q w q =>
  h O F H σ Q w fun v F2 H2 st w2 hv => q v F2 H2 st w2 (l v F2 hv)
theorem Ev.sub {t : TE} (h : Ev E t Γ1 r Δ) (l : SlsLe Γ Γ1) : Ev E t Γ r Δ := fun O F H σ Q w q => h O F H σ Q (w.le l) q
/-! ### names, constants -/
theorem ev_var {i : Nat} (e : Γ[i]? = some (.ty τ)) : Ev E (tVar i) Γ (.val τ) Γ := fun O F H σ Q w q => by
  obtain ⟨v, e1, hv⟩ := w.sl.ty e
  exact ⟨v, e1, q v F H .refl w hv⟩
theorem ev_c {v : V} (h : ∀ F, τ.φ v F) : Ev E (tC v) Γ (.val τ) Γ := fun O F H σ Q w q => q v F H .refl w (h F)
/-! ### operators by their types -/
def RR (r : R2) (τ υ ω : Ty M) : Prop := ∀ x y F H Q, Sub F H → τ.φ x F → υ.φ y F → (∀ v F2 H2, Step M F H F2 H2 → ω.φ v F2 → Q v H2) → r x y H Q
def RU (r : V → Hp → VK → Prop) (τ ω : Ty M) : Prop := ∀ x F H Q, Sub F H → τ.φ x F → (∀ v F2 H2, Step M F H F2 H2 → ω.φ v F2 → Q v H2) → r x H Q
def RN (r : List V → Hp → VK → Prop) (τs : List (Ty M)) (ω : Ty M) : Prop := ∀ xs F H Q, Sub F H → Tys F xs τs → (∀ v F2 H2, Step M F H F2 H2 → ω.φ v F2 → Q v H2) → r xs H Q
theorem ev_op {r : R2} {ta tb : TE} (ha : Ev E ta Γ (.val τ) Γ1) (hb : Ev E tb Γ1 (.val υ) Γ2) (hr : RR r τ υ ω) : Ev E (tOp r ta tb) Γ (.val ω) Γ2 := fun O F H σ Q w q =>
  ha O F H σ _ w fun x F1 H1 s1 w1 hx => hb O F1 H1 σ _ w1 fun y F2 H2 s2 w2 hy =>
    hr x y F2 H2 Q w2.sub (τ.mono s2.gw hx) hy fun v F3 H3 s3 hv => q v F3 H3 ((s1.trans s2).trans s3.x) (w2.step s3) hv
theorem ev_un {r : V → Hp → VK → Prop} {ta : TE} (ha : Ev E ta Γ (.val τ) Γ1) (hr : RU r τ ω) : Ev E (tUn r ta) Γ (.val ω) Γ1 := fun O F H σ Q w q =>
  ha O F H σ _ w fun x F1 H1 s1 w1 hx => hr x F1 H1 Q w1.sub hx fun v F3 H3 s3 hv => q v F3 H3 (s1.trans s3.x) (w1.step s3) hv
theorem ev_cb {r : List V → Hp → VK → Prop} {ta : TA} (ha : EvA E ta Γ (.vals τs) Γ1) (hr : RN r τs ω) : Ev E (tCB r ta) Γ (.val ω) Γ1 := fun O F H σ Q w q =>
  ha O F H σ _ w fun xs F1 H1 s1 w1 hx => hr xs F1 H1 Q w1.sub hx fun v F3 H3 s3 hv => q v F3 H3 (s1.trans s3.x) (w1.step s3) hv
theorem ea_nil : EvA E tNil Γ (.vals []) Γ := fun O F H σ Q w q => q [] F H .refl w .nil
theorem ea_cons {ta : TE} {tr : TA} (ha : Ev E ta Γ (.val τ) Γ1) (hr : EvA E tr Γ1 (.vals τs) Γ2) : EvA E (tCons ta tr) Γ (.vals (τ :: τs)) Γ2 := fun O F H σ Q w q =>
  ha O F H σ _ w fun x F1 H1 s1 w1 hx => hr O F1 H1 σ _ w1 fun xs F2 H2 s2 w2 hxs => q (x :: xs) F2 H2 (s1.trans s2) w2 (.cons (τ.mono s2.gw hx) hxs)
theorem ea_exc1 {ta : TE} {tr : TA} {C : Value} (ha : Ev (M := M) E ta Γ (.exc C) Γ1) : EvA E (tCons ta tr) Γ (.exc C) Γ1 := fun O F H σ Q w q => ha O F H σ _ w q
theorem ea_exc2 {ta : TE} {tr : TA} {C : Value} (ha : Ev E ta Γ (.val τ) Γ1) (hr : EvA E tr Γ1 (.exc C) Γ2) : EvA E (tCons ta tr) Γ (.exc C) Γ2 := fun O F H σ Q w q =>
  ha O F H σ _ w fun x F1 H1 s1 w1 hx => hr O F1 H1 σ _ w1 (Raised.step s1 q)
/-! ### displays -/
theorem ev_tup {K : PySem.W.Frag} {ta : TA} (ha : EvA E ta Γ (.vals τs) Γ1) (hl : τs.length ≤ 1000) : Ev E (tTup ta) Γ (.val (isTs K τs)) Γ1 := fun O F H σ Q w q =>
  ha O F H σ _ w fun xs F1 H1 s1 w1 hx => ⟨Nat.le_trans (by rw [hx.length]; exact hl) (by decide), fun p hp => by
    have st := Step.new (M := M) (o := .tup xs) w1.sub hp
    exact q (.ref p) _ _ (s1.trans st.x) (w1.step st) ⟨p, xs, rfl, Or.inl (Or.inl upd_same), hx.mono st.gw⟩⟩
theorem ev_tup_exc {ta : TA} {C : Value} (ha : EvA (M := M) E ta Γ (.exc C) Γ1) : Ev E (tTup ta) Γ (.exc C) Γ1 := fun O F H σ Q w q => ha O F H σ _ w q
theorem own_ne (w : Wd O F H σ Γ) {p : Addr} (hp : H p = none) : ∀ q, OwnAt σ Γ q → q ≠ p := fun q ⟨i, u, e1, e2⟩ z => by
  obtain ⟨p', o, a1, a2, a3, _⟩ := w.sl.own e1
  rw [a1] at e2
  injection e2 with e2; injection e2 with e2; injection e2 with e2
  rw [e2, z, hp] at a3
  cases a3
theorem new_own (w : Wd O F H σ Γ) {p : Addr} {o : HO} {u : Ow M} (hp : H p = none) (hu : u.φ p o F) {Q : VK} (q : ∀ p o F2 H2, StepX M O F H F2 H2 → Wd O F2 H2 σ Γ → O p → F2 p = none → H2 p = some o → u.φ p o F2 → (∀ q, OwnAt σ Γ q → q ≠ p) → Q (.ref p) H2) : Q (.ref p) (upd H p o) := by
  have st := Step.own (M := M) (o := o) w.sub hp
  exact q p o F (upd H p o) st.x (w.step st) (w.fresh p hp) (w.sub.no hp) upd_same hu (own_ne w hp)
theorem eo_lst {ta : TA} (ha : EvA E ta Γ (.vals τs) Γ1) (hl : τs.length ≤ 1000) : EvO (tLst ta) Γ (owL τs) Γ1 := fun O F H σ Q w q =>
  ha O F H σ _ w fun xs F1 H1 s1 w1 hx => ⟨Nat.le_trans (by rw [hx.length]; exact hl) (by decide), fun p hp =>
    new_own w1 hp (u := owL τs) ⟨xs, rfl, hx⟩ fun p o F2 H2 st w2 h1 h2 h3 h4 h5 => q p o F2 H2 (s1.trans st) w2 h1 h2 h3 h4 h5⟩
/-- a list of one's own may be handed out -/
theorem Wd.adopt (w : Wd O F H σ Γ) {p : Addr} {o : HO} (hO : O p) (hf : F p = none) (hh : H p = some o) (hn : ∀ q, OwnAt σ Γ q → q ≠ p) : Wd O (upd F p o) H σ Γ ∧ StepX M O F H (upd F p o) H := by
  have gw : Gw M F (upd F p o) := Gw.new hf
  refine ⟨⟨fun a u e => ?_, ⟨w.sl.len, fun i s e => ?_, w.sl.one⟩, w.own, w.fresh⟩, gw, fun _ h => h, fun a u n e1 e2 => ?_⟩
  · by_cases ha : a = p
    · subst ha; rw [upd_same] at e; rw [← e]; exact hh
    · rw [upd_ne ha] at e; exact w.sub a u e
  · obtain ⟨x, e1, e2⟩ := w.sl.at_ i s e
    refine ⟨x, e1, ?_⟩
    cases s with
    | any => trivial
    | ty τ => obtain ⟨v, a1, a2⟩ := e2; exact ⟨v, a1, τ.mono gw a2⟩
    | own u =>
      obtain ⟨q, z, a1, a2, a3, a4⟩ := e2
      subst a1
      have nq := hn q ⟨i, u, e, e1⟩
      exact ⟨q, z, rfl, by rw [upd_ne nq]; exact a2, a3, u.mono gw a4⟩
  · have ha : a ≠ p := fun z => n (z ▸ hO)
    rw [upd_ne ha]
    exact ⟨e1, e2⟩
theorem eo_ev {t : TE} (h : EvO t Γ (owL τs) Γ1) : Ev E t Γ (.val (isLs τs)) Γ1 := fun O F H σ Q w q =>
  h O F H σ Q w fun p o F2 H2 st w2 hO hf hh ⟨vs, ho, ht⟩ hn => by
    subst ho
    obtain ⟨w3, s3⟩ := w2.adopt hO hf hh hn
    exact q (.ref p) _ H2 (st.trans s3) w3 ⟨p, vs, rfl, upd_same, ht.mono s3.gw⟩
/-! ### calls of defs -/
/-- a promise: the arguments' types and the end; what is known grows, all else stands -/
def spOf (S : List (Ty M) → Re M → Prop) : Sp := fun vs H Q E => ∃ τs r F, S τs r ∧ Sub F H ∧ Tys F vs τs ∧ match r with
  | .val τ => ∀ v F2 H2, Step M F H F2 H2 → τ.φ v F2 → Q v H2
  | .exc C => ∀ F2 H2, Step M F H F2 H2 → E C none H2
theorem ev_call {S : List (Ty M) → Re M → Prop} {ta : TA} (ha : EvA E ta Γ (.vals τs) Γ1) (hs : S τs r) : Ev E (tCall (spOf S) [] E ta) Γ r Γ1 := fun O F H σ Q w q =>
  ha O F H σ _ w fun xs F1 H1 s1 w1 hx => ⟨τs, r, F1, hs, w1.sub, by rw [List.append_nil]; exact hx, by
    cases r with
    | val τ => exact fun v F2 H2 st hv => q v F2 H2 (s1.trans st.x) (w1.step st) hv
    | exc C => exact fun F2 H2 st => q F2 H2 st.sub (s1.trans st.x)⟩
theorem ev_call_exc {S : Sp} {ta : TA} {C : Value} {E' : XK} (ha : EvA (M := M) E ta Γ (.exc C) Γ1) : Ev E (tCall S [] E' ta) Γ (.exc C) Γ1 := fun O F H σ Q w q => ha O F H σ _ w q
/-! ### tests -/
theorem et_test {te : TE} {K : PySem.W.Frag} {b : Bool} (h : Ev E te Γ (.val (isD K (.bool b))) Γ1) : EvT (tTest te) Γ b Γ1 := fun O F H σ Q w q =>
  h O F H σ _ w fun v F2 H2 st w2 hv => by
    cases hv
    exact ⟨b, rfl, q F2 H2 st w2⟩
theorem et_B {te : TE} {K : PySem.W.Frag} {b : Bool} (h : Ev E te Γ (.val (isD K (.bool b))) Γ1) : EvT (tB te) Γ b Γ1 := fun O F H σ Q w q =>
  h O F H σ _ w fun v F2 H2 st w2 hv => by
    cases hv
    exact ⟨b, rfl, q F2 H2 st w2⟩
theorem et_and {t u : TT} {a b : Bool} (h1 : EvT t Γ a Γ1) (h2 : a = true → EvT u Γ1 b Γ2) (h3 : a = false → Γ1 = Γ2) : EvT (tAnd t u) Γ (a && b) Γ2 := fun O F H σ Q w q =>
  h1 O F H σ _ w fun F1 H1 s1 w1 => by
    cases a with
    | true => exact h2 rfl O F1 H1 σ Q w1 fun F2 H2 s2 w2 => q F2 H2 (s1.trans s2) w2
    | false => exact q F1 H1 s1 (h3 rfl ▸ w1)
theorem et_or {t u : TT} {a b : Bool} (h1 : EvT t Γ a Γ1) (h2 : a = false → EvT u Γ1 b Γ2) (h3 : a = true → Γ1 = Γ2) : EvT (tOr t u) Γ (a || b) Γ2 := fun O F H σ Q w q =>
  h1 O F H σ _ w fun F1 H1 s1 w1 => by
    cases a with
    | false => exact h2 rfl O F1 H1 σ Q w1 fun F2 H2 s2 w2 => q F2 H2 (s1.trans s2) w2
    | true => exact q F1 H1 s1 (h3 rfl ▸ w1)
theorem et_not {t : TT} {a : Bool} (h : EvT t Γ a Γ1) : EvT (tNot t) Γ (!a) Γ1 := fun O F H σ Q w q => h O F H σ _ w q
/-! ### values of truth -/
theorem ev_andV {K : PySem.W.Frag} {ta tb : TE} {a b : Bool} (h1 : Ev E ta Γ (.val (isD K (.bool a))) Γ1) (h2 : a = true → Ev E tb Γ1 (.val (isD K (.bool b))) Γ2) (h3 : a = false → Γ1 = Γ2) : Ev E (tAndV ta tb) Γ (.val (isD K (.bool (a && b)))) Γ2 := fun O F H σ Q w q =>
  h1 O F H σ _ w fun v F1 H1 s1 w1 hv => by
    cases hv
    refine ⟨a, rfl, ?_⟩
    cases a with
    | true => exact h2 rfl O F1 H1 σ Q w1 fun v F2 H2 s2 w2 hv => q v F2 H2 (s1.trans s2) w2 hv
    | false => exact q _ F1 H1 s1 (h3 rfl ▸ w1) (.bl false)
theorem ev_orV {K : PySem.W.Frag} {ta tb : TE} {a b : Bool} (h1 : Ev E ta Γ (.val (isD K (.bool a))) Γ1) (h2 : a = false → Ev E tb Γ1 (.val (isD K (.bool b))) Γ2) (h3 : a = true → Γ1 = Γ2) : Ev E (tOrV ta tb) Γ (.val (isD K (.bool (a || b)))) Γ2 := fun O F H σ Q w q =>
  h1 O F H σ _ w fun v F1 H1 s1 w1 hv => by
    cases hv
    refine ⟨a, rfl, ?_⟩
    cases a with
    | false => exact h2 rfl O F1 H1 σ Q w1 fun v F2 H2 s2 w2 hv => q v F2 H2 (s1.trans s2) w2 hv
    | true => exact q _ F1 H1 s1 (h3 rfl ▸ w1) (.bl true)
theorem ev_notV {K : PySem.W.Frag} {ta : TE} {a : Bool} (h1 : Ev E ta Γ (.val (isD K (.bool a))) Γ1) : Ev E (tNotV ta) Γ (.val (isD K (.bool (!a)))) Γ1 := fun O F H σ Q w q =>
  h1 O F H σ _ w fun v F1 H1 s1 w1 hv => by
    cases hv
    exact ⟨a, rfl, q _ F1 H1 s1 w1 (.bl _)⟩
theorem ev_if {t : TT} {ta tb : TE} {b : Bool} (h : EvT t Γ b Γ1) (h1 : b = true → Ev E ta Γ1 r Γ2) (h2 : b = false → Ev E tb Γ1 r Γ2) : Ev E (tIf t ta tb) Γ r Γ2 := fun O F H σ Q w q =>
  h O F H σ _ w fun F1 H1 s1 w1 => by
    cases b with
    | true => exact h1 rfl O F1 H1 σ Q w1 (Fin.step s1 q)
    | false => exact h2 rfl O F1 H1 σ Q w1 (Fin.step s1 q)
end

/-! ### statements -/
structure Po (M : Hp → Hp → Prop) where
  nx : List (Slot M) → Prop
  /-- a returned value's type, the slots behind -/
  rt : Ty M → List (Slot M) → Prop
  bk : List (Slot M) → Prop := fun _ => False
  ct : List (Slot M) → Prop := fun _ => False
  ex : Value → Prop := fun _ => False
structure OkE (P : Po M) (E : XK) (O : Addr → Prop) (F H : Hp) (D : Ends) : Prop where
  nx : ∀ Γ σ F2 H2, P.nx Γ → StepX M O F H F2 H2 → Wd O F2 H2 σ Γ → D.nx σ H2
  rt : ∀ (τ : Ty M) Γ σ v F2 H2, P.rt τ Γ → StepX M O F H F2 H2 → Wd O F2 H2 σ Γ → τ.φ v F2 → D.rt v H2
  bk : ∀ Γ σ F2 H2, P.bk Γ → StepX M O F H F2 H2 → Wd O F2 H2 σ Γ → D.bk σ H2
  ct : ∀ Γ σ F2 H2, P.ct Γ → StepX M O F H F2 H2 → Wd O F2 H2 σ Γ → D.ct σ H2
  ex : ∀ C, P.ex C → Raised M E O F H C
def EvS (E : XK) (t : TS) (Γ : List (Slot M)) (P : Po M) : Prop := ∀ O F H σ D, Wd O F H σ Γ → OkE P E O F H D → t D σ H
structure Xs (X : Cx) (E : XK) (s : Stmt) (t : TS) (Γ : List (Slot M)) (P : Po M) : Prop where
  ps : PS X s t
  ev : EvS E t Γ P
structure Xss (X : Cx) (E : XK) (ss : List Stmt) (t : TS) (Γ : List (Slot M)) (P : Po M) : Prop where
  ps : PSs X ss t
  ev : EvS E t Γ P
section
variable {E : XK} {O : Addr → Prop} {F H F2 H2 : Hp} {σ : L2.St} {Γ Γ1 Γ2 Δ : List (Slot M)} {τ υ ω : Ty M} {τs : List (Ty M)} {r : Re M} {Q : VK} {P P' : Po M} {D : Ends} {t u : TS}
theorem OkE.step (s : StepX M O F H F2 H2) (h : OkE P E O F H D) : OkE P E O F2 H2 D :=
  ⟨fun Γ σ F3 H3 p s2 w => h.nx Γ σ F3 H3 p (s.trans s2) w, fun τ Γ σ v F3 H3 p s2 w hv => h.rt τ Γ σ v F3 H3 p (s.trans s2) w hv, fun Γ σ F3 H3 p s2 w => h.bk Γ σ F3 H3 p (s.trans s2) w,
    fun Γ σ F3 H3 p s2 w => h.ct Γ σ F3 H3 p (s.trans s2) w, fun C p => Raised.step s (h.ex C p)⟩
theorem EvS.imp (h : EvS E t Γ P) (nx : ∀ Γ, P.nx Γ → P'.nx Γ) (rt : ∀ τ Γ, P.rt τ Γ → P'.rt τ Γ) (bk : ∀ Γ, P.bk Γ → P'.bk Γ) (ct : ∀ Γ, P.ct Γ → P'.ct Γ) (ex : ∀ C, P.ex C → P'.ex C) : EvS E t Γ P' :=
  fun O F H σ D w k => h O F H σ D w ⟨fun Γ σ F2 H2 p => k.nx Γ σ F2 H2 (nx Γ p), fun τ Γ σ v F2 H2 p => k.rt τ Γ σ v F2 H2 (rt τ Γ p), fun Γ σ F2 H2 p => k.bk Γ σ F2 H2 (bk Γ p), fun Γ σ F2 H2 p => k.ct Γ σ F2 H2 (ct Γ p), fun C p => k.ex C (ex C p)⟩
theorem EvS.sub (h : EvS E t Γ1 P) (l : SlsLe Γ Γ1) : EvS E t Γ P := fun O F H σ D w k => h O F H σ D (w.le l) k
theorem es_nil (p : P.nx Γ) : EvS E tNext Γ P := fun O F H σ D w k => k.nx Γ σ F H p .refl w
/-- one statement, then the rest; N: what may hold between -/
theorem es_seq (N : List (Slot M) → Prop) (h1 : EvS E t Γ { P with nx := N }) (h2 : ∀ Δ, N Δ → EvS E u Δ P) : EvS E (tSeq t u) Γ P := fun O F H σ D w k =>
  h1 O F H σ { D with nx := u D } w ⟨fun Δ σ' F2 H2 p st w' => h2 Δ p O F2 H2 σ' D w' (k.step st), k.rt, k.bk, k.ct, k.ex⟩
theorem es_seq1 (h1 : EvS E t Γ { P with nx := fun Δ' => Δ' = Δ }) (h2 : EvS E u Δ P) : EvS E (tSeq t u) Γ P := es_seq _ h1 fun _ e => e ▸ h2
theorem es_asg {te : TE} {i : Nat} (h : Ev E te Γ (.val τ) Γ1) (p : P.nx (Γ1.set i (.ty τ))) : EvS E (tAsg te (gName i)) Γ P := fun O F H σ D w k =>
  h O F H σ _ w fun v F2 H2 st w2 hv => k.nx _ _ F2 H2 p st (w2.set hv)
theorem es_asg_exc {te : TE} {G : TG} {C : Value} (h : Ev (M := M) E te Γ (.exc C) Γ1) (p : P.ex C) : EvS E (tAsg te G) Γ P := fun O F H σ D w k => h O F H σ _ w (k.ex C p)
theorem es_own {te : TE} {i : Nat} {u : Ow M} (h : EvO te Γ u Γ1) (p : P.nx (Γ1.set i (.own u))) : EvS E (tAsg te (gName i)) Γ P := fun O F H σ D w k =>
  h O F H σ _ w fun q o F2 H2 st w2 hO hf hh ht hn => k.nx _ _ F2 H2 p st (w2.setOwn hf hh ht hO hn)
theorem es_drop {te : TE} (h : Ev E te Γ (.val τ) Γ1) (p : P.nx Γ1) : EvS E (tDrop te) Γ P := fun O F H σ D w k => h O F H σ _ w fun v F2 H2 st w2 _ => k.nx Γ1 σ F2 H2 p st w2
theorem es_drop_exc {te : TE} {C : Value} (h : Ev (M := M) E te Γ (.exc C) Γ1) (p : P.ex C) : EvS E (tDrop te) Γ P := fun O F H σ D w k => h O F H σ _ w (k.ex C p)
theorem es_ret {te : TE} (h : Ev E te Γ (.val τ) Γ1) (p : P.rt τ Γ1) : EvS E (tRet te) Γ P := fun O F H σ D w k => h O F H σ _ w fun v F2 H2 st w2 hv => k.rt τ Γ1 σ v F2 H2 p st w2 hv
theorem es_ret_exc {te : TE} {C : Value} (h : Ev (M := M) E te Γ (.exc C) Γ1) (p : P.ex C) : EvS E (tRet te) Γ P := fun O F H σ D w k => h O F H σ _ w (k.ex C p)
theorem es_retN (p : P.rt (isV .non) Γ) : EvS E tRetN Γ P := fun O F H σ D w k => k.rt _ Γ σ .non F H p .refl w rfl
theorem es_if {c : TT} {b : Bool} (hc : EvT c Γ b Γ1) (h1 : b = true → EvS E t Γ1 P) (h2 : b = false → EvS E u Γ1 P) : EvS E (tIfS c t u) Γ P := fun O F H σ D w k =>
  hc O F H σ _ w fun F1 H1 s1 w1 => by
    cases b with
    | true => exact h1 rfl O F1 H1 σ D w1 (k.step s1)
    | false => exact h2 rfl O F1 H1 σ D w1 (k.step s1)
theorem es_break (p : P.bk Γ) : EvS E tBreak Γ P := fun O F H σ D w k => k.bk Γ σ F H p .refl w
theorem es_cont (p : P.ct Γ) : EvS E tCont Γ P := fun O F H σ D w k => k.ct Γ σ F H p .refl w
/-- a, b = x, y -/
theorem es_par {ta : TA} {i j : Nat} (h : EvA E ta Γ (.vals [τ, υ]) Γ1) (p : P.nx ((Γ1.set i (.ty τ)).set j (.ty υ))) : EvS E (tPar i j ta) Γ P := fun O F H σ D w k =>
  h O F H σ _ w fun vs F2 H2 st w2 hv => by
    cases hv with
    | cons h1 t1 =>
      cases t1 with
      | cons h2 t2 =>
        cases t2
        exact ⟨_, _, rfl, k.nx _ _ F2 H2 p st ((w2.set h1).set h2)⟩
/-- a while, by a word with a measure -/
theorem es_while {c : TT} (W : Nat → List (Slot M) → Prop) (m0 : Nat) (h0 : W m0 Γ)
    (hs : ∀ m Δ, W m Δ → ∃ b Δ1, EvT c Δ b Δ1 ∧ (b = true → EvS E t Δ1 { P with nx := fun Δ' => ∃ m', m' < m ∧ W m' Δ', ct := fun Δ' => ∃ m', m' < m ∧ W m' Δ', bk := P.nx }) ∧ (b = false → P.nx Δ1)) : EvS E (tWhile c t) Γ P := fun O F H σ D w k => by
  refine ⟨fun m σ' H' => ∃ Δ F', W m Δ ∧ StepX M O F H F' H' ∧ Wd O F' H' σ' Δ, ⟨m0, Γ, F, h0, .refl, w⟩, ?_⟩
  rintro m σ' H' ⟨Δ, F', wm, st, w'⟩
  obtain ⟨b, Δ1, hb, hT, hN⟩ := hs m Δ wm
  refine hb O F' H' σ' _ w' fun F1 H1 s1 w1 => ?_
  have st1 := st.trans s1
  cases b with
  | true =>
    refine ⟨fun σ2 H2 => ∃ m' Δ' F2, m' < m ∧ W m' Δ' ∧ StepX M O F H F2 H2 ∧ Wd O F2 H2 σ2 Δ', fun σ2 H2 ⟨m', Δ', F2, l, w', s2, sl2⟩ => ⟨m', l, Δ', F2, w', s2, sl2⟩, ?_⟩
    refine hT rfl O F1 H1 σ' _ w1 ⟨fun Δ' σ2 F2 H2 ⟨m', l, w'⟩ s2 sl2 => ⟨m', Δ', F2, l, w', st1.trans s2, sl2⟩, fun τ Γ σ v F2 H2 p s2 w2 hv => k.rt τ Γ σ v F2 H2 p (st1.trans s2) w2 hv,
      fun Δ' σ2 F2 H2 p s2 sl2 => k.nx Δ' σ2 F2 H2 p (st1.trans s2) sl2, fun Δ' σ2 F2 H2 ⟨m', l, w'⟩ s2 sl2 => ⟨m', Δ', F2, l, w', st1.trans s2, sl2⟩, fun C p => Raised.step st1 (k.ex C p)⟩
  | false => exact k.nx Δ1 σ' F1 H1 (hN rfl) st1 w1
end
end Bc

set_option maxRecDepth 100000
set_option maxHeartbeats 2000000
namespace Bc
open PySem PySem.Spec
open PyProof.Rows L2
variable {M : Hp → Hp → Prop} [g : GM M]
section
variable {E : XK} {O : Addr → Prop} {F H F2 H2 : Hp} {σ : L2.St} {Γ Γ1 Γ2 Δ : List (Slot M)} {τ υ ω : Ty M} {τs : List (Ty M)} {r : Re M} {Q : VK} {P P' : Po M} {D : Ends} {t u : TS} {K : PySem.W.Frag}
/-! ### walks -/
structure WkTy (J : It) (n : Nat) (ys : Nat → Ty M) (F2 : Hp) : Prop where
  go : ∀ i F H, Gw M F2 F → Sub F H → i < n → J.go i H
  stop : ∀ F H, Gw M F2 F → Sub F H → J.stop n H
  yld : ∀ i F H x H', Gw M F2 F → Sub F H → i < n → J.yld i H x H' → ∃ F', Step M F H F' H' ∧ (ys i).φ x F'
def EvI (wi : TI) (Γ : List (Slot M)) (n : Nat) (ys : Nat → Ty M) (Δ : List (Slot M)) : Prop := ∀ O F H σ R, Wd O F H σ Γ → (∀ J F2 H2, StepX M O F H F2 H2 → Wd O F2 H2 σ Δ → WkTy J n ys F2 → R J H2) → wi σ H R
/-- targets: names, pairs of names -/
def EvG (G : TG) (Γ : List (Slot M)) (τ : Ty M) (Δ : List (Slot M)) : Prop := ∀ O F H σ v (Q : L2.St → Hp → Prop), Wd O F H σ Γ → τ.φ v F → (∀ σ', Wd O F H σ' Δ → Q σ' H) → G v σ H Q
def EvGs (G : TGs) (Γ : List (Slot M)) (τs : List (Ty M)) (Δ : List (Slot M)) : Prop := ∀ O F H σ vs (Q : L2.St → Hp → Prop), Wd O F H σ Γ → Tys F vs τs → (∀ σ', Wd O F H σ' Δ → Q σ' H) → G vs σ H Q
theorem eg_name {i : Nat} : EvG (gName i) Γ τ (Γ.set i (.ty τ)) := fun O F H σ v Q w hv q => q _ (w.set hv)
theorem egs_nil : EvGs gNil Γ [] Γ := fun O F H σ vs Q w hv q => by
  cases hv
  exact ⟨rfl, q σ w⟩
theorem egs_cons {G : TG} {Gs : TGs} (h1 : EvG G Γ τ Γ1) (h2 : EvGs Gs Γ1 τs Γ2) : EvGs (gCons G Gs) Γ (τ :: τs) Γ2 := fun O F H σ vs Q w hv q => by
  cases hv with
  | cons a b => exact ⟨_, _, rfl, h1 O F H σ _ _ w a fun σ' w' => h2 O F H σ' _ Q w' b q⟩
theorem eg_tup {Gs : TGs} {n : Nat} (h : EvGs Gs Γ τs Γ1) (hn : τs.length = n) : EvG (gTup K n Gs) Γ (isTs K τs) Γ1 := fun O F H σ v Q w ⟨a, xs, e, hx, ht⟩ q =>
  ⟨a, xs, e, sqT_sub w.sub hx, ht.length.trans hn, h O F H σ xs Q w ht q⟩
theorem eg_le {G : TG} (h : EvG G Γ υ Γ1) (l : Le τ υ) : EvG G Γ τ Γ1 := fun O F H σ v Q w hv q => h O F H σ v Q w (l v F hv) q
theorem es_asgG {te : TE} {G : TG} (h : Ev E te Γ (.val τ) Γ1) (hg : EvG G Γ1 τ Γ2) (p : P.nx Γ2) : EvS E (tAsg te G) Γ P := fun O F H σ D w k =>
  h O F H σ _ w fun v F2 H2 st w2 hv => hg O F2 H2 σ v _ w2 hv fun σ' w3 => k.nx _ _ F2 H2 p st w3
/-- a for -/
theorem es_for {wi : TI} {G : TG} {n : Nat} {ys : Nat → Ty M} (hi : EvI wi Γ n ys Γ1) (Pv : Nat → List (Slot M) → Prop) (h0 : Pv 0 Γ1)
    (hs : ∀ i Δ, i < n → Pv i Δ → ∃ Δ', EvG G Δ (ys i) Δ' ∧ EvS E t Δ' { P with nx := Pv (i + 1), ct := Pv (i + 1), bk := P.nx }) (hd : ∀ Δ, Pv n Δ → P.nx Δ) : EvS E (tFor wi G t) Γ P := fun O F H σ D w k =>
  hi O F H σ _ w fun J F1 H1 s1 w1 wk => by
    refine ⟨fun i m σ' H' => m = n - i ∧ i ≤ n ∧ ∃ Δ F', Pv i Δ ∧ StepX M O F1 H1 F' H' ∧ Wd O F' H' σ' Δ, ⟨n, by simp, Nat.zero_le _, Γ1, F1, h0, .refl, w1⟩, ?_⟩
    rintro i m σ' H' ⟨rfl, hin, Δ, F', p, st, w'⟩
    by_cases hlt : i < n
    · refine .inr ⟨wk.go i F' H' st.gw w'.sub hlt, fun σ2 H2 => ∃ Δ2 F2, Pv (i + 1) Δ2 ∧ StepX M O F1 H1 F2 H2 ∧ Wd O F2 H2 σ2 Δ2, fun σ2 H2 ⟨Δ2, F2, p2, s2, w2⟩ => ⟨n - (i + 1), by omega, rfl, hlt, Δ2, F2, p2, s2, w2⟩, fun x H2 y => ?_⟩
      obtain ⟨F2, st2, hx⟩ := wk.yld i F' H' x H2 st.gw w'.sub hlt y
      obtain ⟨Δ', hG, hb⟩ := hs i Δ hlt p
      refine hG O F2 H2 σ' x _ (w'.step st2) hx fun σ3 w3 => ?_
      have s3 := st.trans st2.x
      exact hb O F2 H2 σ3 _ w3 ⟨fun Δ2 σ4 F4 H4 p4 s4 w4 => ⟨Δ2, F4, p4, s3.trans s4, w4⟩, fun τ Γ σ v F4 H4 p4 s4 w4 hv => k.rt τ Γ σ v F4 H4 p4 (s1.trans (s3.trans s4)) w4 hv, fun Δ2 σ4 F4 H4 p4 s4 w4 => k.nx Δ2 σ4 F4 H4 p4 (s1.trans (s3.trans s4)) w4,
        fun Δ2 σ4 F4 H4 p4 s4 w4 => ⟨Δ2, F4, p4, s3.trans s4, w4⟩, fun C p4 => Raised.step (s1.trans s3) (k.ex C p4)⟩
    · have e : i = n := by omega
      subst e
      exact .inl ⟨wk.stop F' H' st.gw w'.sub, k.nx Δ σ' F' H' (hd Δ p) (s1.trans st) w'⟩
/-! ### what is walked -/
def nth (τs : List (Ty M)) (i : Nat) : Ty M := τs.getD i anyT
theorem tys_nth {F : Hp} {xs : List V} {i : Nat} {x : V} (h : Tys F xs τs) (e : xs[i]? = some x) : (nth τs i).φ x F := by
  induction h generalizing i with
  | nil => simp at e
  | cons a b ih =>
    cases i with
    | zero =>
      simp at e
      subst e
      exact a
    | succ j => exact ih (by simpa using e)
theorem wk_list {a : Addr} {xs : List V} {F2 : Hp} (h : SqL K F2 a xs) (ht : Tys F2 xs τs) : WkTy (M := M) (Itl K a) τs.length (nth τs) F2 := by
  have hl := ht.length
  refine ⟨fun i F H e s hi => ?_, fun F H e s => ?_, fun i F H x H' e s hi y => ?_⟩
  · exact (walk_list (K := K) (a := a) (xs := xs)).goes i H (by omega) (sqL_sub s (sqL_gw e h))
  · exact hl ▸ (walk_list (K := K) (a := a) (xs := xs)).stops H (sqL_sub s (sqL_gw e h))
  · obtain ⟨e1, e2⟩ := (walk_list (K := K) (a := a) (xs := xs)).yields i H x H' (by omega) (sqL_sub s (sqL_gw e h)) y
    subst e1
    exact ⟨F, Step.refl s, tys_nth (ht.mono e) e2⟩
theorem wk_tup {a : Addr} {xs : List V} {F2 : Hp} (h : SqT K F2 a xs) (ht : Tys F2 xs τs) : WkTy (M := M) (Itt K a) τs.length (nth τs) F2 := by
  have hl := ht.length
  refine ⟨fun i F H e s hi => ?_, fun F H e s => ?_, fun i F H x H' e s hi y => ?_⟩
  · exact (walk_tup (K := K) (a := a) (xs := xs)).goes i H (by omega) (sqT_sub s (sqT_gw e h))
  · exact hl ▸ (walk_tup (K := K) (a := a) (xs := xs)).stops H (sqT_sub s (sqT_gw e h))
  · obtain ⟨e1, e2⟩ := (walk_tup (K := K) (a := a) (xs := xs)).yields i H x H' (by omega) (sqT_sub s (sqT_gw e h)) y
    subst e1
    exact ⟨F, Step.refl s, tys_nth (ht.mono e) e2⟩
theorem ei_list {tl : TE} (h : Ev (M := M) (fun _ _ _ => False) tl Γ (.val (isLs τs)) Γ1) : EvI (iList K tl) Γ τs.length (nth τs) Γ1 := fun O F H σ R w q =>
  h O F H σ _ w fun v F2 H2 st w2 ⟨a, xs, e, hx, ht⟩ => ⟨a, e, ⟨xs, Or.inl (Or.inl (w2.sub a _ hx))⟩, q _ F2 H2 st w2 (wk_list (Or.inl (Or.inl hx)) ht)⟩
theorem ei_tup {tl : TE} (h : Ev (M := M) (fun _ _ _ => False) tl Γ (.val (isTs K τs)) Γ1) : EvI (iTup K tl) Γ τs.length (nth τs) Γ1 := fun O F H σ R w q =>
  h O F H σ _ w fun v F2 H2 st w2 ⟨a, xs, e, hx, ht⟩ => ⟨a, e, ⟨xs, sqT_sub w2.sub hx⟩, q _ F2 H2 st w2 (wk_tup hx ht)⟩
theorem ei_enum {ta : TA} (h : EvA (M := M) (fun _ _ _ => False) ta Γ (.vals [isLs τs]) Γ1) : EvI (iEnum K ta) Γ τs.length (fun i => isTs K [isD K (.int (i : Nat)), nth τs i]) Γ1 := fun O F H σ R w q =>
  h O F H σ _ w fun vs F2 H2 st w2 hv => by
    cases hv with
    | cons h1 t1 =>
      cases t1
      obtain ⟨a, xs, e, hx', ht⟩ := h1
      have hx : SqL K F2 a xs := Or.inl (Or.inl hx')
      subst e
      have hl := ht.length
      have W := walk_enum (K := K) (a := a) (xs := xs)
      refine ⟨a, xs, rfl, sqL_sub w2.sub hx, q _ F2 H2 st w2 ⟨fun i F H e s hi => ?_, fun F H e s => ?_, fun i F H x H' e s hi y => ?_⟩⟩
      · exact W.goes i H (by omega) (sqL_sub s (sqL_gw e hx))
      · exact hl ▸ W.stops H (sqL_sub s (sqL_gw e hx))
      · obtain ⟨T, x1, x2, ev, hT, eH, ex1, ex2⟩ := W.yields i H x H' (by omega) (sqL_sub s (sqL_gw e hx)) y
        subst ev eH
        have st2 := Step.new (M := M) (o := .tup [x1, x2]) s hT
        injection ex1 with ex1
        subst ex1
        exact ⟨_, st2, T, _, rfl, Or.inl (Or.inl upd_same), .cons (.int _) (.cons (Ty.mono _ (e.trans st2.gw) (tys_nth ht ex2)) .nil)⟩
theorem ei_range1 {ta : TA} {n : Int} (h : EvA (M := M) (fun _ _ _ => False) ta Γ (.vals [isD K (.int n)]) Γ1) (hn : -(2 ^ 62) ≤ n ∧ n < 2 ^ 62) : EvI (iRng1 ta) Γ n.toNat (fun i => isD K (.int (i : Nat))) Γ1 := fun O F H σ R w q =>
  h O F H σ _ w fun vs F2 H2 st w2 hv => by
    cases hv with
    | cons h1 t1 =>
      cases t1
      cases h1
      refine ⟨n, rfl, hn.1, hn.2, q _ F2 H2 st w2 ⟨fun i F H e s hi => hi, fun F H e s => Nat.le_refl _, fun i F H x H' e s hi y => ?_⟩⟩
      obtain ⟨e1, e2⟩ := y
      subst e1 e2
      exact ⟨F, Step.refl s, by
        show Dp K F (.int ((0 : Int) + (i : Nat))) (.int (i : Nat))
        rw [Int.zero_add]
        exact .int _⟩
/-! ### comprehensions -/
theorem wipe_comm {x : Option V} {j : Nat} : ∀ {vs : List Nat} {σ : L2.St}, j ∉ vs → wipe (σ.set j x) vs = (wipe σ vs).set j x
  | [], _, _ => rfl
  | v :: vs, σ, h => by
    show (wipe (σ.set j x) vs).set v none = ((wipe σ vs).set v none).set j x
    rw [wipe_comm (fun z => h (List.mem_cons_of_mem _ z)), List.set_comm _ _ (fun z => h (by rw [z]; exact List.mem_cons_self))]
theorem wipe_set {x : Option V} {j : Nat} : ∀ {vs : List Nat} {σ : L2.St}, j ∈ vs → wipe (σ.set j x) vs = wipe σ vs
  | [], _, h => by cases h
  | v :: vs, σ, h => by
    show (wipe (σ.set j x) vs).set v none = (wipe σ vs).set v none
    by_cases hj : j ∈ vs
    · rw [wipe_set hj]
    · have e : j = v := by
        rcases List.mem_cons.mp h with z | z
        · exact z
        · exact absurd z hj
      rw [wipe_comm hj, e, List.set_set]
theorem wipe_wipe {vs : List Nat} {σ : L2.St} : ∀ us : List Nat, (∀ j ∈ us, j ∈ vs) → wipe (wipe σ us) vs = wipe σ vs
  | [], _ => rfl
  | u :: us, h => by
    show wipe ((wipe σ us).set u none) vs = _
    rw [wipe_set (h u List.mem_cons_self), wipe_wipe us fun j hj => h j (List.mem_cons_of_mem _ hj)]
/-- within a comprehension what is one's own is not seen -/
def hushS : Slot M → Slot M
  | .own _ => .any
  | s => s
def hush (Γ : List (Slot M)) : List (Slot M) := Γ.map hushS
def wipeS (Γ : List (Slot M)) : List Nat → List (Slot M)
  | [] => Γ
  | v :: vs => (wipeS Γ vs).set v .any
theorem wd_wipe (w : Wd O F H σ Γ) : ∀ vs : List Nat, Wd O F H (wipe σ vs) (wipeS Γ vs)
  | [] => w
  | v :: vs => (wd_wipe w vs).put (fun _ z => nomatch z) trivial
theorem hush_no {i : Nat} {u : Ow M} : (hush Γ)[i]? ≠ some (.own u) := fun e => by
  unfold hush at e
  rw [List.getElem?_map] at e
  cases q : Γ[i]? with
  | none => rw [q] at e; cases e
  | some s =>
    rw [q] at e
    injection e with e
    cases s <;> cases e
theorem wd_hush (w : Wd O F H σ Γ) : Wd (fun a => O a ∧ ¬ OwnAt σ Γ a) F H σ (hush Γ) := by
  refine ⟨w.sub, ⟨by unfold hush; rw [List.length_map]; exact w.sl.len, fun i s e => ?_, fun i j u u' p e => absurd e hush_no⟩, fun p ⟨i, u, e, _⟩ => absurd e hush_no, fun p hp => ⟨w.fresh p hp, fun z => own_ne w hp p z rfl⟩⟩
  unfold hush at e
  rw [List.getElem?_map] at e
  cases q : Γ[i]? with
  | none => rw [q] at e; cases e
  | some s' =>
    rw [q] at e
    injection e with e
    obtain ⟨x, e1, e2⟩ := w.sl.at_ i s' q
    refine ⟨x, e1, ?_⟩
    subst e
    cases s' with
    | own u => trivial
    | any => trivial
    | ty τ => exact e2
def EvGw (G : TG) (vs : List Nat) (Γ : List (Slot M)) (τ : Ty M) (Δ : List (Slot M)) : Prop :=
  ∀ O F H σ v (Q : L2.St → Hp → Prop), Wd O F H σ Γ → τ.φ v F → (∀ σ', wipe σ' vs = wipe σ vs → Wd O F H σ' Δ → Q σ' H) → G v σ H Q
def EvGws (G : TGs) (vs : List Nat) (Γ : List (Slot M)) (τs : List (Ty M)) (Δ : List (Slot M)) : Prop :=
  ∀ O F H σ xs (Q : L2.St → Hp → Prop), Wd O F H σ Γ → Tys F xs τs → (∀ σ', wipe σ' vs = wipe σ vs → Wd O F H σ' Δ → Q σ' H) → G xs σ H Q
theorem egw_name {i : Nat} {vs : List Nat} (h : i ∈ vs) : EvGw (gName i) vs Γ τ (Γ.set i (.ty τ)) := fun O F H σ v Q w hv q => q _ (wipe_set h) (w.set hv)
theorem egws_nil {vs : List Nat} : EvGws gNil vs Γ [] Γ := fun O F H σ xs Q w hv q => by
  cases hv
  exact ⟨rfl, q σ rfl w⟩
theorem egws_cons {G : TG} {Gs : TGs} {vs : List Nat} (h1 : EvGw G vs Γ τ Γ1) (h2 : EvGws Gs vs Γ1 τs Γ2) : EvGws (gCons G Gs) vs Γ (τ :: τs) Γ2 := fun O F H σ xs Q w hv q => by
  cases hv with
  | cons a b => exact ⟨_, _, rfl, h1 O F H σ _ _ w a fun σ' e' w' => h2 O F H σ' _ Q w' b fun σ2 e2 w2 => q σ2 (e2.trans e') w2⟩
theorem egw_tup {Gs : TGs} {vs : List Nat} {n : Nat} (h : EvGws Gs vs Γ τs Γ1) (hn : τs.length = n) : EvGw (gTup K n Gs) vs Γ (isTs K τs) Γ1 := fun O F H σ v Q w ⟨a, xs, e, hx, ht⟩ q =>
  ⟨a, xs, e, sqT_sub w.sub hx, ht.length.trans hn, h O F H σ xs Q w ht q⟩
theorem filter_succ (b : Nat → Bool) (f : Nat → Ty M) (i : Nat) : ((List.range (i + 1)).filter b).map f = ((List.range i).filter b).map f ++ (if b i = true then [f i] else []) := by
  rw [List.range_succ, List.filter_append, List.map_append]
  congr 1
  rw [List.filter_cons]
  cases b i <;> rfl
theorem tys_snoc {F : Hp} : ∀ {vs : List V} {τs : List (Ty M)} {v : V} {τ : Ty M}, Tys F vs τs → τ.φ v F → Tys F (vs ++ [v]) (τs ++ [τ])
  | _, _, _, _, .nil, h => .cons h .nil
  | _, _, _, _, .cons a b, h => .cons a (tys_snoc b h)
theorem eo_lc {wi : TI} {G : TG} {tt : TT} {te : TE} {vs : List Nat} {n : Nat} {ys : Nat → Ty M} (b : Nat → Bool) (f : Nat → Ty M) (hi : EvI wi Γ n ys Γ1) (hn : n ≤ 100000)
    (hb : ∀ i, i < n → ∃ Δ, EvGw G vs (wipeS (hush Γ1) vs) (ys i) Δ ∧ EvT tt Δ (b i) Δ ∧ (b i = true → Ev (fun _ _ _ => False) te Δ (.val (f i)) Δ)) :
    EvO (tLc wi G tt te vs) Γ (owL (((List.range n).filter b).map f)) Γ1 := fun O F H σ Q w q =>
  hi O F H σ _ w fun J F1 H1 s1 w1 wk => fun Dl hD => by
    let item (i : Nat) : List (Ty M) := ((List.range i).filter b).map f
    have hfD : F1 Dl = none := w1.sub.no hD
    have hOD : O Dl := w1.fresh Dl hD
    have hnD := own_ne w1 hD
    let O' : Addr → Prop := fun a => (O a ∧ ¬ OwnAt σ Γ1 a) ∧ a ≠ Dl
    have sO := Step.own (M := M) (o := .lst []) w1.sub hD
    have w2 : Wd O' F1 (upd H1 Dl (.lst [])) σ (hush Γ1) := by
      have z := wd_hush (w1.step sO)
      exact ⟨z.sub, z.sl, fun p ⟨i, u, e, _⟩ => absurd e hush_no, fun p hp => ⟨z.fresh p hp, fun e => by rw [e, upd_same] at hp; cases hp⟩⟩
    let O2 : Addr → Prop := fun a => O a ∧ ¬ OwnAt σ Γ1 a
    have weak : ∀ {Fa Ha Fb Hb : Hp}, StepX M O' Fa Ha Fb Hb → StepX M O2 Fa Ha Fb Hb := fun s => ⟨s.gw, s.dom, fun a o n => s.fr a o fun z => n z.1⟩
    have hO2D : O2 Dl := ⟨hOD, fun z => hnD Dl z rfl⟩
    let Pv : Nat → Hp → Prop := fun i H' => ∃ F' acc, StepX M O2 F1 (upd H1 Dl (.lst [])) F' H' ∧ Wd O' F' H' σ (hush Γ1) ∧ F' Dl = none ∧ H' Dl = some (.lst acc) ∧ Tys F' acc (item i)
    have nOD : ¬ O' Dl := fun z => z.2 rfl
    refine ⟨fun i m H' => m = n - i ∧ i ≤ n ∧ Pv i H', ⟨n, by simp, Nat.zero_le _, F1, [], .refl, w2, hfD, upd_same, .nil⟩, ?_⟩
    rintro i m H' ⟨rfl, hin, F', acc, st, w', hf', hh', ht'⟩
    by_cases hlt : i < n
    · refine .inr ⟨wk.go i F' H' st.gw w'.sub hlt, Pv (i + 1), fun H2 p2 => ⟨n - (i + 1), by omega, rfl, hlt, p2⟩, fun x H2 y => ?_⟩
      obtain ⟨F2, st2, hx⟩ := wk.yld i F' H' x H2 st.gw w'.sub hlt y
      obtain ⟨Δ, hG, hT, hE⟩ := hb i hlt
      have w3 := w'.step st2
      have s3 := st.trans st2.x
      obtain ⟨f3, h3⟩ := st2.fr Dl _ hf' hh'
      refine hG O' F2 H2 (wipe σ vs) x _ (wd_wipe w3 vs) hx fun σ2 eσ w4 => ⟨eσ.trans (wipe_wipe vs fun _ z => z), ?_⟩
      refine hT O' F2 H2 σ2 _ w4 fun F5 H5 s5 w5 => ?_
      obtain ⟨f5, h5⟩ := s5.fr Dl _ nOD f3 h3
      -- the slots outside come back
      have back : ∀ {F6 H6 : Hp}, StepX M O' F2 H2 F6 H6 → Wd O' F6 H6 σ2 Δ → Wd O' F6 H6 σ (hush Γ1) := fun {F6 H6} s6 w6 => by
        refine ⟨w6.sub, ⟨w3.sl.len, fun j s e => ?_, w3.sl.one⟩, fun p ⟨i, u, e, _⟩ => absurd e hush_no, w6.fresh⟩
        obtain ⟨x, e1, e2⟩ := w3.sl.at_ j s e
        refine ⟨x, e1, ?_⟩
        cases s with
        | any => trivial
        | ty τ => obtain ⟨v, a1, a2⟩ := e2; exact ⟨v, a1, τ.mono s6.gw a2⟩
        | own u => exact absurd e hush_no
      have ei : item (i + 1) = item i ++ (if b i = true then [f i] else []) := filter_succ b f i
      cases hbi : b i with
      | true =>
        rw [hbi] at ei
        refine hE hbi O' F5 H5 σ2 _ w5 fun v F6 H6 s6 w6 hv => ?_
        obtain ⟨f6, h6⟩ := s6.fr Dl _ nOD f5 h5
        refine ⟨acc, h6, ?_, ?_⟩
        · rw [ht'.length]
          show (((List.range i).filter b).map f).length < sizeLine
          rw [List.length_map]
          have := List.length_filter_le b (List.range i)
          rw [List.length_range] at this
          exact Nat.lt_of_le_of_lt (Nat.le_trans this (by omega : i ≤ 100000)) (by decide)
        · have wb := back (s5.trans s6) w6
          have sall := s3.trans (weak (s5.trans s6))
          refine ⟨F6, acc ++ [v], ⟨sall.gw, fun a ha => ?_, fun a o n h1 h2 => ?_⟩, ⟨fun a u e => ?_, ⟨wb.sl.len, fun j s e => ?_, wb.sl.one⟩, wb.own, fun p hp => ?_⟩, f6, upd_same, ?_⟩
          · by_cases e : a = Dl
            · rw [e, upd_same] at ha; cases ha
            · rw [upd_ne e] at ha; exact sall.dom a ha
          · by_cases e : a = Dl
            · exact absurd (e ▸ hO2D) n
            · rw [upd_ne e]; exact sall.fr a o n h1 h2
          · rw [upd_ne (fun z => by rw [z, f6] at e; cases e)]; exact wb.sub a u e
          · obtain ⟨x, e1, e2⟩ := wb.sl.at_ j s e
            refine ⟨x, e1, ?_⟩
            cases s with
            | any => trivial
            | ty τ => exact e2
            | own u => exact absurd e hush_no
          · by_cases e : p = Dl
            · rw [e, upd_same] at hp; cases hp
            · rw [upd_ne e] at hp; exact wb.fresh p hp
          · show Tys F6 (acc ++ [v]) (item (i + 1))
            rw [ei]
            exact tys_snoc (ht'.mono ((st2.gw.trans s5.gw).trans s6.gw)) hv
      | false =>
        rw [hbi] at ei
        refine ⟨F5, acc, s3.trans (weak s5), back s5 w5, f5, h5, ?_⟩
        show Tys F5 acc (item (i + 1))
        rw [ei]
        show Tys F5 acc (item i ++ [])
        rw [List.append_nil]
        exact ht'.mono (st2.gw.trans s5.gw)
    · have e : i = n := by omega
      subst e
      refine .inl ⟨wk.stop F' H' st.gw w'.sub, ?_⟩
      -- one's own objects stand as they stood
      have hw : Wd O F' H' σ Γ1 := by
        refine ⟨w'.sub, ⟨w1.sl.len, fun j s e => ?_, w1.sl.one⟩, w1.own, fun p hp => (w'.fresh p hp).1.1⟩
        obtain ⟨x, e1, e2⟩ := w1.sl.at_ j s e
        refine ⟨x, e1, ?_⟩
        cases s with
        | any => trivial
        | ty τ => obtain ⟨v, a1, a2⟩ := e2; exact ⟨v, a1, τ.mono st.gw a2⟩
        | own u =>
          obtain ⟨p, o, a1, a2, a3, a4⟩ := e2
          subst a1
          have op : OwnAt σ Γ1 p := ⟨j, u, e, e1⟩
          obtain ⟨b1, b2⟩ := st.fr p o (fun z => z.2 op) a2 (by rw [upd_ne (hnD p op)]; exact a3)
          exact ⟨p, o, rfl, b1, b2, u.mono st.gw a4⟩
      refine q Dl (.lst acc) F' H' (s1.trans ⟨st.gw, fun a ha => ?_, fun a o n h1 h2 => ?_⟩) hw hOD hf' hh' ⟨acc, rfl, ht'⟩ hnD
      · have z := st.dom a ha
        by_cases e : a = Dl
        · rw [e]; exact hD
        · rw [upd_ne e] at z; exact z
      · have na : a ≠ Dl := fun z => n (z ▸ hOD)
        exact st.fr a o (fun z => n z.1) h1 (by rw [upd_ne na]; exact h2)
end
end Bc

set_option maxRecDepth 100000
set_option maxHeartbeats 2000000
namespace Bc
open PySem PySem.Spec
open PyProof.Rows L2
variable {M : Hp → Hp → Prop} [g : GM M]
/-! ### a def keeps its promise -/
def poOf (r : Re M) : Po M where
  nx := fun _ => ∃ τ, r = .val τ ∧ ∀ F, τ.φ .non F
  rt := fun τ _ => ∃ υ, r = .val υ ∧ Le τ υ
  ex := fun C => r = .exc C
def slots0 (n : Nat) (τs : List (Ty M)) : List (Slot M) := τs.map .ty ++ List.replicate (n - τs.length) .any
theorem wd_start {F H : Hp} {N : List Str} {vs : List V} {τs : List (Ty M)} (s : Sub F H) (h : Tys F vs τs) : Wd (fun p => H p = none) F H (L2.start N vs) (slots0 N.length τs) := by
  have hl := h.length
  have noown : ∀ (i : Nat) (u : Ow M), (slots0 N.length τs)[i]? ≠ some (.own u) := fun i u e => by
    unfold slots0 at e
    rw [List.getElem?_append] at e
    split at e
    · rw [List.getElem?_map] at e
      cases q : τs[i]? with
      | none => rw [q] at e; cases e
      | some τ => rw [q] at e; cases e
    · rw [List.getElem?_replicate] at e
      split at e <;> cases e
  refine ⟨s, ⟨?_, fun i sl e => ?_, fun i j u u' p e => absurd e (noown i u)⟩, fun p ⟨i, u, e, _⟩ => absurd e (noown i u), fun p hp => hp⟩
  · unfold L2.start slots0
    rw [List.length_append, List.length_append, List.length_map, List.length_map, List.length_replicate, List.length_replicate, hl]
  · unfold slots0 at e
    unfold L2.start
    rw [List.getElem?_append] at e ⊢
    rw [List.length_map] at e ⊢
    by_cases hi : i < τs.length
    · rw [if_pos hi] at e
      rw [if_pos (by omega)]
      rw [List.getElem?_map] at e ⊢
      rw [List.getElem?_eq_getElem hi] at e
      injection e with e
      subst e
      have hv : i < vs.length := by omega
      rw [List.getElem?_eq_getElem hv]
      refine ⟨_, rfl, vs[i], rfl, ?_⟩
      have := tys_nth h (i := i) (List.getElem?_eq_getElem hv)
      unfold nth at this
      rw [List.getD_eq_getElem?_getD, List.getElem?_eq_getElem hi] at this
      exact this
    · rw [if_neg hi] at e
      rw [if_neg (by omega)]
      rw [List.getElem?_replicate] at e ⊢
      split at e
      · cases e
        rename_i hlt
        rw [if_pos (by omega)]
        exact ⟨_, rfl, trivial⟩
      · cases e
section
variable {P : Program} {w : World} {K : PySem.W.Frag} {mg : Str → Option Value} {base : Heap} {x qual : Str} {params : Arguments} {body : List Stmt} {scope : Scope} {f : Addr} {fd : FuncData}
/-- the context of the def's body -/
abbrev ctx (P : Program) (w : World) (K : PySem.W.Frag) (mg : Str → Option Value) (base : Heap) (N : List Str) (qual : Str) (scope : Scope) (f : Addr) (cdv : Value) (A : Around) (outer : List Env) (s : Shared) (H : Hp) (E : XK) : Cx :=
  cxOf (L2.CX P w) P w K mg base N qual scope f cdv A outer s H E
theorem ok_fun {N ps : List Str} {k : Nat} {S : List (Ty M) → Re M → Prop} (F : FunD K x qual params body scope [] [] f fd) (Sc : FnScope N ps scope) (hl : ∀ τs r, S τs r → τs.length = ps.length)
    (hb : ∀ (cdv : Value) (A : Around) (outer : List Env) (s : Shared) (H : Hp) (E : XK), Room k (A.deeper (envOfC qual scope s.heap.objs.size f cdv)) → ∀ τs r, S τs r →
      ∃ t, Xss (ctx P w K mg base N qual scope f cdv A outer s H E) E body t (slots0 N.length τs) (poOf r)) : FnOk P w K mg base (L2.CX P w) (k + 1) f fd ps (spOf S) := by
  refine F.ok (CX := L2.CX P w) Sc (fun vs H Q E ⟨τs, r, F, hs, _, hv, _⟩ => hv.length.trans (hl τs r hs)) fun cdv A outer s H vs Q E hr ⟨τs, r, F, hs, sub, hv, q⟩ => ?_
  obtain ⟨t, ht, he⟩ := hb cdv A outer s H E hr τs r hs
  refine ⟨t, ht, he (fun p => H p = none) F H _ _ (wd_start sub hv) ?_⟩
  have st : ∀ {F2 H2 : Hp}, Sub F2 H2 → StepX M (fun p => H p = none) F H F2 H2 → Step M F H F2 H2 := fun sb s => ⟨sb, s.gw, fun a o h1 h2 => s.fr a o (fun z => by rw [h2] at z; cases z) h1 h2⟩
  cases r with
  | val υ =>
    exact ⟨fun Γ σ F2 H2 ⟨τ, e, h⟩ s2 w2 => by cases e; exact q .non F2 H2 (st w2.sub s2) (h F2), fun τ Γ σ v F2 H2 ⟨υ', e, l⟩ s2 w2 h => by cases e; exact q v F2 H2 (st w2.sub s2) (l v F2 h), fun _ _ _ _ z => z.elim, fun _ _ _ _ z => z.elim,
      fun C z => nomatch z⟩
  | exc C => exact ⟨fun Γ σ F2 H2 ⟨τ, e, h⟩ => (nomatch e), fun τ Γ σ v F2 H2 ⟨υ', e, l⟩ => (nomatch e), fun _ _ _ _ z => z.elim, fun _ _ _ _ z => z.elim, fun C' z F2 H2 sb s2 => by cases z; exact q F2 H2 (st sb s2)⟩
end
/-! ### operators -/
section
variable {K : PySem.W.Frag} {E : XK} {O : Addr → Prop} {F H F2 H2 : Hp} {σ : L2.St} {Γ Γ1 Γ2 Δ : List (Slot M)} {τ υ ω : Ty M} {τs : List (Ty M)} {r : Re M} {Q : VK} {P P' : Po M} {D : Ends} {t u : TS}
theorem rr_i0 {gg : Int → Int → V} {i j : Int} {d : PyData} (h : ∀ F : Hp, Dp K F (gg i j) d) : RR (M := M) (rI0 gg) (isD K (.int i)) (isD K (.int j)) (isD K d) := fun x y F H Q s hx hy q => by
  cases hx
  cases hy
  exact ⟨i, j, rfl, rfl, q _ F H (Step.refl s) (h F)⟩
theorem rr_i {C : Int → Int → Prop} {gg : Int → Int → V} {i j : Int} {d : PyData} (hc : C i j) (h : ∀ F : Hp, Dp K F (gg i j) d) : RR (M := M) (rI C gg) (isD K (.int i)) (isD K (.int j)) (isD K d) := fun x y F H Q s hx hy q => by
  cases hx
  cases hy
  exact ⟨i, j, rfl, rfl, hc, q _ F H (Step.refl s) (h F)⟩
theorem rr_add {i j : Int} : RR (M := M) (rI0 fun i j => .int (i + j)) (isD K (.int i)) (isD K (.int j)) (isD K (.int (i + j))) := rr_i0 fun _ => .int _
theorem rr_sub {i j : Int} : RR (M := M) (rI0 fun i j => .int (i - j)) (isD K (.int i)) (isD K (.int j)) (isD K (.int (i - j))) := rr_i0 fun _ => .int _
theorem rr_lt {i j : Int} : RR (M := M) (rI0 fun i j => .bl (decide (i < j))) (isD K (.int i)) (isD K (.int j)) (isD K (.bool (decide (i < j)))) := rr_i0 fun _ => .bl _
theorem rr_le {i j : Int} : RR (M := M) (rI0 fun i j => .bl (decide (i ≤ j))) (isD K (.int i)) (isD K (.int j)) (isD K (.bool (decide (i ≤ j)))) := rr_i0 fun _ => .bl _
theorem rr_gt {i j : Int} : RR (M := M) (rI0 fun i j => .bl (decide (j < i))) (isD K (.int i)) (isD K (.int j)) (isD K (.bool (decide (j < i)))) := rr_i0 fun _ => .bl _
theorem rr_ge {i j : Int} : RR (M := M) (rI0 fun i j => .bl (decide (j ≤ i))) (isD K (.int i)) (isD K (.int j)) (isD K (.bool (decide (j ≤ i)))) := rr_i0 fun _ => .bl _
/-- products, quotients, rests of great ints -/
def CMulB (i j : Int) : Prop := i.natAbs.log2 + j.natAbs.log2 < 134000000
theorem CMulB.ok {i j : Int} (h : CMulB i j) : IntMulOk i j := by
  have b : ∀ x : Int, Builtin.Int.intBits x ≤ x.natAbs.log2 + 1 := fun x => by
    unfold Builtin.Int.intBits
    split <;> omega
  have h1 := b i
  have h2 := b j
  have h3 : i.natAbs.log2 + j.natAbs.log2 < 134000000 := h
  have e : bitsLine = 134217728 := by decide
  unfold IntMulOk
  intro z
  rw [Bool.and_eq_true] at z
  have z2 := z.2
  unfold Builtin.Int.intTooBig at z2
  have z3 := of_decide_eq_true z2
  rw [e] at z3
  omega
theorem op_mulB {X : Cx} : OpR X (binaryOp .Mult) (rI CMulB fun i j => .int (i * j)) := opI fun _ _ _ _ _ _ _ hc q => mul_int q hc.ok
theorem rr_mul {i j : Int} (h : CMulB i j) : RR (M := M) (rI CMulB fun i j => .int (i * j)) (isD K (.int i)) (isD K (.int j)) (isD K (.int (i * j))) := rr_i h fun _ => .int _
theorem rr_modN {i j : Int} (h : j ≠ 0) : RR (M := M) (rI (fun _ j => j ≠ 0) fun i j => .int (i.fmod j)) (isD K (.int i)) (isD K (.int j)) (isD K (.int (i.fmod j))) := rr_i h fun _ => .int _
theorem rr_mod {i j : Int} (h : 0 < j) : RR (M := M) (rI (fun _ j => 0 < j) fun i j => .int (i % j)) (isD K (.int i)) (isD K (.int j)) (isD K (.int (i % j))) := rr_i h fun _ => .int _
theorem rr_pow {i j : Int} (h : CPow i j) : RR (M := M) (rI CPow fun i j => .int (i ^ j.toNat)) (isD K (.int i)) (isD K (.int j)) (isD K (.int (i ^ j.toNat))) := rr_i h fun _ => .int _
theorem ru_neg {i : Int} : RU (M := M) (rU fun i => .int (-i)) (isD K (.int i)) (isD K (.int (-i))) := fun x F H Q s hx q => by
  cases hx
  exact ⟨i, rfl, q _ F H (Step.refl s) (.int _)⟩
theorem rr_eqI {i j : Int} : RR (M := M) rEq (isD K (.int i)) (isD K (.int j)) (isD K (.bool (decide (i = j)))) := fun x y F H Q s hx hy q => by
  cases hx
  cases hy
  refine ⟨rfl, q _ F H (Step.refl s) ?_⟩
  have e : decide (V.int i = V.int j) = decide (i = j) := by simp
  rw [e]
  exact .bl _
theorem rr_neI {i j : Int} : RR (M := M) rNe (isD K (.int i)) (isD K (.int j)) (isD K (.bool (!decide (i = j)))) := fun x y F H Q s hx hy q => by
  cases hx
  cases hy
  refine ⟨rfl, q _ F H (Step.refl s) ?_⟩
  have e : decide (V.int i = V.int j) = decide (i = j) := by simp
  rw [e]
  exact .bl _
theorem rr_eqS {i j : Str} : RR (M := M) rEq (isD K (.str i)) (isD K (.str j)) (isD K (.bool (decide (i = j)))) := fun x y F H Q s hx hy q => by
  cases hx
  cases hy
  refine ⟨rfl, q _ F H (Step.refl s) ?_⟩
  have e : decide (V.str i = V.str j) = decide (i = j) := by simp
  rw [e]
  exact .bl _
theorem rr_neS {i j : Str} : RR (M := M) rNe (isD K (.str i)) (isD K (.str j)) (isD K (.bool (!decide (i = j)))) := fun x y F H Q s hx hy q => by
  cases hx
  cases hy
  refine ⟨rfl, q _ F H (Step.refl s) ?_⟩
  have e : decide (V.str i = V.str j) = decide (i = j) := by simp
  rw [e]
  exact .bl _
theorem rr_eqD {d e : PyData} (h1 : SeqAt.shaped d = true) (h2 : SeqAt.shaped e = true) : RR (M := M) (rEqD K) (isD K d) (isD K e) (isD K (.bool (PyData.eqv d e))) := fun x y F H Q s hx hy q =>
  ⟨d, e, dp_sub s hx, dp_sub s hy, h1, h2, q _ F H (Step.refl s) (.bl _)⟩
theorem rr_neD {d e : PyData} (h1 : SeqAt.shaped d = true) (h2 : SeqAt.shaped e = true) : RR (M := M) (rNeD K) (isD K d) (isD K e) (isD K (.bool (!PyData.eqv d e))) := fun x y F H Q s hx hy q =>
  ⟨d, e, dp_sub s hx, dp_sub s hy, h1, h2, q _ F H (Step.refl s) (.bl _)⟩
/-! ### items -/
theorem tys_at {xs : List V} {i : Int} {τ : Ty M} (h : Tys F xs τs) (e : atI τs i = some τ) : ∃ v, atI xs i = some v ∧ τ.φ v F := by
  unfold atI at e ⊢
  rw [h.length]
  cases q : ixN τs.length i with
  | none => rw [q] at e; cases e
  | some j =>
    rw [q] at e
    have e2 : τs[j]? = some τ := e
    have hj := (List.getElem?_eq_some_iff.mp e2).1
    have hj2 : j < xs.length := by rw [h.length]; exact hj
    refine ⟨xs[j], List.getElem?_eq_getElem hj2, ?_⟩
    have z := tys_nth h (List.getElem?_eq_getElem hj2)
    unfold nth at z
    rw [List.getD_eq_getElem?_getD, e2] at z
    exact z
theorem atI_map {α β : Type} {f : α → β} {xs : List α} {i : Int} {x : α} (e : atI xs i = some x) : atI (xs.map f) i = some (f x) := by
  unfold atI at e ⊢
  rw [List.length_map]
  cases q : ixN xs.length i with
  | none => rw [q] at e; cases e
  | some j =>
    rw [q] at e
    have e2 : xs[j]? = some x := e
    show (xs.map f)[j]? = some (f x)
    rw [List.getElem?_map, e2]
    rfl
theorem rr_ixT {i : Int} (e : atI τs i = some τ) : RR (M := M) (rIxT K) (isTs K τs) (isD K (.int i)) τ := fun x y F H Q s ⟨a, xs, e1, hx, ht⟩ hy q => by
  cases hy
  obtain ⟨v, e2, hv⟩ := tys_at ht e
  exact ⟨a, xs, i, v, e1, rfl, sqT_sub s hx, e2, q v F H (Step.refl s) hv⟩
theorem rr_ixL {i : Int} (e : atI τs i = some τ) : RR (M := M) (rIxL K) (isLs τs) (isD K (.int i)) τ := fun x y F H Q s ⟨a, xs, e1, hx, ht⟩ hy q => by
  cases hy
  obtain ⟨v, e2, hv⟩ := tys_at ht e
  exact ⟨a, xs, i, v, e1, rfl, Or.inl (Or.inl (s a _ hx)), e2, q v F H (Step.refl s) hv⟩
theorem rr_le1 {r : R2} {τ' : Ty M} (h : RR r τ υ ω) (l : Le τ' τ) : RR r τ' υ ω := fun x y F H Q s hx hy q => h x y F H Q s (l x F hx) hy q
theorem rr_le2 {r : R2} {υ' : Ty M} (h : RR r τ υ ω) (l : Le υ' υ) : RR r τ υ' ω := fun x y F H Q s hx hy q => h x y F H Q s hx (l y F hy) q
theorem rr_ixTD {ds : List PyData} {i : Int} {d : PyData} (e : atI ds i = some d) : RR (M := M) (rIxT K) (isD K (.tuple ds)) (isD K (.int i)) (isD K d) := rr_le1 (rr_ixT (atI_map e)) le_Dts
/-! ### slices -/
def EvP (t : TO) (Γ : List (Slot M)) (o : Option Int) (Δ : List (Slot M)) : Prop := ∀ O F H σ Q, Wd O F H σ Γ → (∀ F2 H2, StepX M O F H F2 H2 → Wd O F2 H2 σ Δ → Q o H2) → t σ H Q
theorem ep_none : EvP tNoPart Γ none Γ := fun O F H σ Q w q => q F H .refl w
theorem ep_some {te : TE} {i : Int} (h : Ev (M := M) (fun _ _ _ => False) te Γ (.val (isD K (.int i))) Γ1) : EvP (tPart te) Γ (some i) Γ1 := fun O F H σ Q w q =>
  h O F H σ _ w fun v F2 H2 st w2 hv => by
    cases hv
    exact ⟨i, rfl, q F2 H2 st w2⟩
/-- a part of a list of anything, as cutV -/
def cutL {α : Type} (xs : List α) (lo hi : Option Int) : List α := (xs.drop (HT.sIx xs.length 0 lo)).take (HT.sIx xs.length xs.length hi - HT.sIx xs.length 0 lo)
theorem tys_drop : ∀ {xs : List V} {τs : List (Ty M)} (n : Nat), Tys F xs τs → Tys F (xs.drop n) (τs.drop n)
  | _, _, 0, h => h
  | _, _, _ + 1, .nil => .nil
  | _, _, n + 1, .cons _ t => tys_drop n t
theorem tys_take : ∀ {xs : List V} {τs : List (Ty M)} (n : Nat), Tys F xs τs → Tys F (xs.take n) (τs.take n)
  | _, _, 0, _ => .nil
  | _, _, _ + 1, .nil => .nil
  | _, _, n + 1, .cons a t => .cons a (tys_take n t)
theorem tys_cut {xs : List V} {lo hi : Option Int} (h : Tys F xs τs) : Tys F (cutV xs lo hi) (cutL τs lo hi) := by
  unfold cutV cutL
  rw [h.length]
  exact tys_take _ (tys_drop _ h)
theorem cutL_map {α β : Type} {f : α → β} {xs : List α} {lo hi : Option Int} : cutL (xs.map f) lo hi = (cutL xs lo hi).map f := by
  unfold cutL
  rw [List.length_map, List.map_take, List.map_drop]
theorem cutL_whole {α : Type} {xs : List α} {lo hi : Option Int} (h : HT.sIx xs.length 0 lo = 0 ∧ HT.sIx xs.length xs.length hi = xs.length) : cutL xs lo hi = xs := by
  unfold cutL
  rw [h.1, h.2]
  simp
theorem ev_sliceT {te : TE} {tl th : TO} {lo hi : Option Int} (h : Ev E te Γ (.val (isTs K τs)) Γ1) (hl : EvP tl Γ1 lo Γ2) (hh : EvP th Γ2 hi Δ) : Ev E (tSl (rSlA K) te tl th) Γ (.val (isTs K (cutL τs lo hi))) Δ := fun O F H σ Q w q =>
  h O F H σ _ w fun v F1 H1 s1 w1 hv => hl O F1 H1 σ _ w1 fun F2 H2 s2 w2 => hh O F2 H2 σ _ w2 fun F3 H3 s3 w3 => by
    obtain ⟨a, xs, e, hx, ht⟩ := Ty.mono _ (s2.gw.trans s3.gw) hv
    have hlen := ht.length
    refine ⟨a, xs, e, sqT_sub w3.sub hx, fun hw => ?_, fun hw p hp => ?_⟩
    · rw [hlen] at hw
      refine q (.ref a) F3 H3 ((s1.trans s2).trans s3) w3 ⟨a, xs, rfl, hx, ?_⟩
      rw [cutL_whole hw]
      exact ht
    · have st := Step.new (M := M) (o := .tup (cutV xs lo hi)) w3.sub hp
      exact q (.ref p) _ _ (((s1.trans s2).trans s3).trans st.x) (w3.step st) ⟨p, _, rfl, Or.inl (Or.inl upd_same), tys_cut (ht.mono st.gw)⟩
theorem eo_sliceL {te : TE} {tl th : TO} {lo hi : Option Int} (h : Ev (M := M) (fun _ _ _ => False) te Γ (.val (isLs τs)) Γ1) (hl : EvP tl Γ1 lo Γ2) (hh : EvP th Γ2 hi Δ) : EvO (tSl (rSlL K) te tl th) Γ (owL (cutL τs lo hi)) Δ := fun O F H σ Q w q =>
  h O F H σ _ w fun v F1 H1 s1 w1 hv => hl O F1 H1 σ _ w1 fun F2 H2 s2 w2 => hh O F2 H2 σ _ w2 fun F3 H3 s3 w3 => by
    obtain ⟨a, xs, e, hx, ht⟩ := Ty.mono _ (s2.gw.trans s3.gw) hv
    refine ⟨a, xs, e, Or.inl (Or.inl (w3.sub a _ hx)), fun p hp => new_own w3 hp (u := owL (cutL τs lo hi)) ⟨_, rfl, tys_cut ht⟩ fun p o F4 H4 st w4 h1 h2 h3 h4 h5 => q p o F4 H4 (((s1.trans s2).trans s3).trans st) w4 h1 h2 h3 h4 h5⟩
/-! ### built-ins -/
theorem rn_one {r : List V → Hp → VK → Prop} (h : ∀ x F H Q, Sub F H → τ.φ x F → (∀ v F2 H2, Step M F H F2 H2 → ω.φ v F2 → Q v H2) → r [x] H Q) : RN r [τ] ω := fun xs F H Q s hx q => by
  cases hx with
  | cons a b => cases b; exact h _ F H Q s a q
theorem rn_two {r : List V → Hp → VK → Prop} (h : ∀ x y F H Q, Sub F H → τ.φ x F → υ.φ y F → (∀ v F2 H2, Step M F H F2 H2 → ω.φ v F2 → Q v H2) → r [x, y] H Q) : RN r [τ, υ] ω := fun xs F H Q s hx q => by
  cases hx with
  | cons a b =>
    cases b with
    | cons b c => cases c; exact h _ _ F H Q s a b q
theorem rn_abs {i : Int} : RN (M := M) (fun xs H Q => ∃ i, xs = [.int i] ∧ Q (.int (if i < 0 then -i else i)) H) [isD K (.int i)] (isD K (.int (if i < 0 then -i else i))) := rn_one fun x F H Q s hx q => by
  cases hx
  exact ⟨i, rfl, q _ F H (Step.refl s) (.int _)⟩
theorem rn_max2 {i j : Int} : RN (M := M) (fun xs H Q => ∃ i j, xs = [.int i, .int j] ∧ Q (.int (if j > i then j else i)) H) [isD K (.int i), isD K (.int j)] (isD K (.int (if j > i then j else i))) := rn_two fun x y F H Q s hx hy q => by
  cases hx
  cases hy
  exact ⟨i, j, rfl, q _ F H (Step.refl s) (.int _)⟩
theorem rn_min2 {i j : Int} : RN (M := M) (fun xs H Q => ∃ i j, xs = [.int i, .int j] ∧ Q (.int (if j < i then j else i)) H) [isD K (.int i), isD K (.int j)] (isD K (.int (if j < i then j else i))) := rn_two fun x y F H Q s hx hy q => by
  cases hx
  cases hy
  exact ⟨i, j, rfl, q _ F H (Step.refl s) (.int _)⟩
theorem rn_intB {b : Bool} : RN (M := M) (fun xs H Q => (∃ i, xs = [.int i] ∧ Q (.int i) H) ∨ ∃ k, xs = [.bl k] ∧ Q (.int (if k then 1 else 0)) H) [isD K (.bool b)] (isD K (.int (if b then 1 else 0))) := rn_one fun x F H Q s hx q => by
  cases hx
  exact .inr ⟨b, rfl, q _ F H (Step.refl s) (.int _)⟩
def rLenQ (K : PySem.W.Frag) : List V → Hp → VK → Prop := fun xs H Q => ∃ p ys, xs = [.ref p] ∧ (SqL K H p ys ∨ SqT K H p ys) ∧ Q (.int ys.length) H
theorem rn_lenT : RN (M := M) (rLenQ K) [isTs K τs] (isD K (.int τs.length)) := rn_one fun x F H Q s ⟨a, xs, e, hx, ht⟩ q =>
  ⟨a, xs, by rw [e], .inr (sqT_sub s hx), q _ F H (Step.refl s) (by rw [ht.length]; exact .int _)⟩
theorem rn_lenL : RN (M := M) (rLenQ K) [isLs τs] (isD K (.int τs.length)) := rn_one fun x F H Q s ⟨a, xs, e, hx, ht⟩ q =>
  ⟨a, xs, by rw [e], .inl (Or.inl (Or.inl (s a _ hx))), q _ F H (Step.refl s) (by rw [ht.length]; exact .int _)⟩
theorem rn_le1 {r : List V → Hp → VK → Prop} {τ' : Ty M} (h : RN r (τ :: τs) ω) (l : Le τ' τ) : RN r (τ' :: τs) ω := fun xs F H Q s hx q => by
  cases hx with
  | cons a b => exact h _ F H Q s (.cons (l _ F a) b) q
theorem rn_lenTD {ds : List PyData} : RN (M := M) (rLenQ K) [isD K (.tuple ds)] (isD K (.int ds.length)) := by
  have h := rn_le1 (rn_lenT (M := M) (K := K) (τs := ds.map (isD K))) le_Dts
  rw [List.length_map] at h
  exact h
theorem rn_listT : ∀ {Γ : List (Slot M)} {ta : TA}, EvA (M := M) (fun _ _ _ => False) ta Γ (.vals [isTs K τs]) Γ1 → EvO (tCB (fun xs H Q => ∃ p ys, xs = [.ref p] ∧ (SqL K H p ys ∨ SqT K H p ys) ∧ ∀ l, H l = none → Q (.ref l) (upd H l (.lst ys))) ta) Γ (owL τs) Γ1 := fun {Γ ta} h O F H σ Q w q =>
  h O F H σ _ w fun xs F2 H2 st w2 hx => by
    cases hx with
    | cons a b =>
      cases b
      obtain ⟨p, ys, e, hy, ht⟩ := a
      exact ⟨p, ys, by rw [e], .inr (sqT_sub w2.sub hy), fun l hl => new_own w2 hl (u := owL τs) ⟨ys, rfl, ht⟩ fun p o F4 H4 st4 w4 h1 h2 h3 h4 h5 => q p o F4 H4 (st.trans st4) w4 h1 h2 h3 h4 h5⟩
theorem rn_listL : ∀ {Γ : List (Slot M)} {ta : TA}, EvA (M := M) (fun _ _ _ => False) ta Γ (.vals [isLs τs]) Γ1 → EvO (tCB (fun xs H Q => ∃ p ys, xs = [.ref p] ∧ (SqL K H p ys ∨ SqT K H p ys) ∧ ∀ l, H l = none → Q (.ref l) (upd H l (.lst ys))) ta) Γ (owL τs) Γ1 := fun {Γ ta} h O F H σ Q w q =>
  h O F H σ _ w fun xs F2 H2 st w2 hx => by
    cases hx with
    | cons a b =>
      cases b
      obtain ⟨p, ys, e, hy, ht⟩ := a
      exact ⟨p, ys, by rw [e], .inl (Or.inl (Or.inl (w2.sub p _ hy))), fun l hl => new_own w2 hl (u := owL τs) ⟨ys, rfl, ht⟩ fun p o F4 H4 st4 w4 h1 h2 h3 h4 h5 => q p o F4 H4 (st.trans st4) w4 h1 h2 h3 h4 h5⟩
theorem tys_ints {xs : List V} : ∀ {ns : List Int}, Tys (M := M) F xs (ns.map fun n => isD K (.int n)) → xs = ns.map V.int := by
  intro ns
  induction ns generalizing xs with
  | nil => intro h; cases h; rfl
  | cons n ns ih =>
    intro h
    cases h with
    | cons a b =>
      cases a
      rw [ih b]
      rfl
theorem tys_bools {xs : List V} : ∀ {ns : List Bool}, Tys (M := M) F xs (ns.map fun n => isD K (.bool n)) → xs = ns.map V.bl := by
  intro ns
  induction ns generalizing xs with
  | nil => intro h; cases h; rfl
  | cons n ns ih =>
    intro h
    cases h with
    | cons a b =>
      cases a
      rw [ih b]
      rfl
theorem rn_sum {ns : List Int} : RN (M := M) (rSum K) [isLs (ns.map fun n => isD K (.int n))] (isD K (.int ns.sum)) := rn_one fun x F H Q s ⟨a, xs, e, hx, ht⟩ q => by
  rw [tys_ints ht] at hx
  exact ⟨a, ns, by rw [e], Or.inl (Or.inl (s a _ hx)), q _ F H (Step.refl s) (.int _)⟩
/-- the greatest of a list -/
def maxOf : List Int → Int
  | [] => 0
  | x :: xs => xs.foldl max x
theorem foldl_max_ge : ∀ (xs : List Int) (x : Int), x ≤ xs.foldl max x ∧ ∀ y ∈ xs, y ≤ xs.foldl max x
  | [], x => ⟨Int.le_refl x, fun _ h => by cases h⟩
  | z :: xs, x => by
    obtain ⟨h1, h2⟩ := foldl_max_ge xs (max x z)
    refine ⟨Int.le_trans (Int.le_max_left x z) h1, fun y hy => ?_⟩
    rcases List.mem_cons.mp hy with e | e
    · rw [e]; exact Int.le_trans (Int.le_max_right x z) h1
    · exact h2 y e
theorem foldl_max_mem : ∀ (xs : List Int) (x : Int), xs.foldl max x = x ∨ xs.foldl max x ∈ xs
  | [], x => .inl rfl
  | z :: xs, x => by
    rcases foldl_max_mem xs (max x z) with h | h
    · show (xs.foldl max (max x z)) = x ∨ (xs.foldl max (max x z)) ∈ z :: xs
      rw [h]
      by_cases hz : x ≤ z
      · rw [Int.max_eq_right hz]; exact .inr List.mem_cons_self
      · rw [Int.max_eq_left (by omega)]; exact .inl rfl
    · exact .inr (List.mem_cons_of_mem _ h)
theorem maxOf_is {ns : List Int} {m : Int} (h : m ∈ ns) (hm : ∀ y ∈ ns, y ≤ m) : m = maxOf ns := by
  cases ns with
  | nil => cases h
  | cons x xs =>
    obtain ⟨h1, h2⟩ := foldl_max_ge xs x
    have a : m ≤ xs.foldl max x := by
      rcases List.mem_cons.mp h with e | e
      · rw [e]; exact h1
      · exact h2 m e
    have b : xs.foldl max x ≤ m := by
      rcases foldl_max_mem xs x with e | e
      · rw [e]; exact hm x List.mem_cons_self
      · exact hm _ (List.mem_cons_of_mem _ e)
    show m = xs.foldl max x
    omega
theorem rn_max {ns : List Int} (h0 : ns ≠ []) : RN (M := M) (rMax K) [isLs (ns.map fun n => isD K (.int n))] (isD K (.int (maxOf ns))) := rn_one fun x F H Q s ⟨a, xs, e, hx, ht⟩ q => by
  rw [tys_ints ht] at hx
  refine ⟨a, ns, by rw [e], Or.inl (Or.inl (s a _ hx)), List.length_pos_iff.mpr h0, fun m hm hle => ?_⟩
  rw [maxOf_is hm hle]
  exact q _ F H (Step.refl s) (.int _)
theorem rn_any {bs : List Bool} : RN (M := M) (rAny K) [isLs (bs.map fun b => isD K (.bool b))] (isD K (.bool (bs.any id))) := rn_one fun x F H Q s ⟨a, xs, e, hx, ht⟩ q => by
  rw [tys_bools ht] at hx
  exact ⟨a, bs, by rw [e], Or.inl (Or.inl (s a _ hx)), q _ F H (Step.refl s) (.bl _)⟩
theorem rn_all {bs : List Bool} : RN (M := M) (rAll K) [isLs (bs.map fun b => isD K (.bool b))] (isD K (.bool (bs.all id))) := rn_one fun x F H Q s ⟨a, xs, e, hx, ht⟩ q => by
  rw [tys_bools ht] at hx
  exact ⟨a, bs, by rw [e], Or.inl (Or.inl (s a _ hx)), q _ F H (Step.refl s) (.bl _)⟩
/-! ### isinstance of data -/
def tyName : PyData → String
  | .none => "NoneType"
  | .bool _ => "bool"
  | .int _ => "int"
  | .str _ => "str"
  | .list _ => "list"
  | .tuple _ => "tuple"
  | .dict _ => "dict"
theorem tyX_of {v : V} {d : PyData} (h : Dp K H v d) : TyX K H v (.type (tyName d)) := by
  cases h with
  | non => exact .base .non
  | bl b => exact .base (.bl b)
  | int i => exact .base (.int i)
  | str x => exact .base (.str x)
  | lst h _ =>
    rcases h with (h | ⟨o, h⟩) | ⟨o, its, n, h, hc, _⟩
    · exact .base (.lst h)
    · exact .base (.frz h)
    · exact .kList h hc
  | tup h _ =>
    rcases h with (h | ⟨o, h⟩) | ⟨o, its, n, h, hc, _⟩
    · exact .base (.tup h)
    · exact .fTuple h
    · exact .kTuple h hc
def isTN (a b : String) : Bool := a == b || (a == "bool" && b == "int")
def isT (T : String) (d : PyData) : Bool := isTN (tyName d) T
theorem kit_all : ∀ a ∈ ["NoneType", "bool", "int", "str", "list", "tuple", "dict"], ∀ b ∈ ["bool", "int", "str", "list", "tuple"], kitB a b = some (isTN a b) := by decide +kernel
theorem tyName_mem (d : PyData) : tyName d ∈ ["NoneType", "bool", "int", "str", "list", "tuple", "dict"] := by cases d <;> simp [tyName]
theorem rn_isi {d : PyData} {T : String} {b : Bool} (h : kitB (tyName d) T = some b) : RN (M := M) (rIsi K) [isD K d, isV (.ty T)] (isD K (.bool b)) := rn_two fun x y F H Q s hx hy q => by
  cases hy
  exact ⟨x, .ty T, _, _, b, rfl, .ty T, tyX_of (dp_sub s hx), kit_ty h, q _ F H (Step.refl s) (.bl _)⟩
theorem kit_int (d : PyData) : kitB (tyName d) "int" = some (isT "int" d) := kit_all _ (tyName_mem d) _ (by simp)
theorem kit_bool (d : PyData) : kitB (tyName d) "bool" = some (isT "bool" d) := kit_all _ (tyName_mem d) _ (by simp)
theorem kit_tuple (d : PyData) : kitB (tyName d) "tuple" = some (isT "tuple" d) := kit_all _ (tyName_mem d) _ (by simp)
theorem kit_str (d : PyData) : kitB (tyName d) "str" = some (isT "str" d) := kit_all _ (tyName_mem d) _ (by simp)
end
end Bc

set_option maxRecDepth 100000
set_option maxHeartbeats 2000000
namespace Bc
open PySem PySem.Spec
open PyProof.Rows L2
variable {M : Hp → Hp → Prop} [g : GM M]
/-! ### one rule an operator, whatever its operands -/
def rAddS : R2 := fun x y H Q => ∃ i j, x = .str i ∧ y = .str j ∧ i.length + j.length ≤ sizeLine ∧ Q (.str (i ++ j)) H
def rAddU (K : PySem.W.Frag) : R2 := fun x y H Q => rI0 (fun i j => .int (i + j)) x y H Q ∨ rCat x y H Q ∨ rCatA K x y H Q ∨ rAddS x y H Q
def rMulU (K : PySem.W.Frag) : R2 := fun x y H Q => rI CMulB (fun i j => .int (i * j)) x y H Q ∨ rRep x y H Q ∨ rRepT K x y H Q
def rSlU (K : PySem.W.Frag) : V → Option Int → Option Int → Hp → VK → Prop := fun x lo hi H Q => rSlL K x lo hi H Q ∨ rSlA K x lo hi H Q ∨ rSlS x lo hi H Q
def rInStr (neg : Bool) : R2 := fun x y H Q => ∃ i j, x = .str i ∧ y = .str j ∧ Q (.bl (if neg then !(!(Builtin.Str.occurrences j i 0 j.length 1).isEmpty) else !(Builtin.Str.occurrences j i 0 j.length 1).isEmpty)) H
def rInU (K : PySem.W.Frag) : R2 := fun x y H Q => rIn K false x y H Q ∨ rInD K x y H Q ∨ rInStr false x y H Q
def rNInU (K : PySem.W.Frag) : R2 := fun x y H Q => rIn K true x y H Q ∨ rNotInD K x y H Q ∨ rInStr true x y H Q
section
variable {X : Cx}
theorem op_addU : OpR X (binaryOp .Add) (rAddU X.K) := OpR.or op_add (OpR.or op_cat (OpR.or op_catA op_add_str))
theorem op_mulU : OpR X (binaryOp .Mult) (rMulU X.K) := OpR.or op_mulB (OpR.or op_rep op_repT)
theorem sl_any : SlR X (rSlU X.K) := SlR.or sl_list (SlR.or sl_tupA sl_str)
theorem op_inU (hu : X.A.units + 65 < cLine) : OpR X (compareOp .In) (rInU X.K) := OpR.or op_in_seq (OpR.or (op_inD hu) op_in_str)
theorem op_ninU (hu : X.A.units + 65 < cLine) : OpR X (compareOp .NotIn) (rNInU X.K) := OpR.or op_notIn_seq (OpR.or (op_notInD hu) op_notin_str)
end
/-! ### // by any divisor -/
/-- nobody looks on when _pylong divides -/
structure Pyl (P : Program) (K : PySem.W.Frag) : Prop where
  ns : ∀ h : Heap, K.In h → (∃ mb, h.Ns builtinsNs mb ∧ ∀ x : Str, x ≠ "__name__" → mb x = bootBuiltins x) → h.NoSeer
  tree : P.given.tree = none
section
variable {X : Cx}
theorem op_fdivP (Y : Pyl X.prog X.K) (hr : Room 40 X.A) (hs : X.stack = X.env :: X.outer) (hg : X.env.scope.isGenerator = false) (hc : X.env.scope.isCoroutine = false) : OpR X (binaryOp .FloorDiv) (rI (fun _ j => j ≠ 0) fun i j => .int (i.fdiv j)) := by
  intro pins s σ H x y v u Q I rx ry h
  obtain ⟨i, j, rfl, rfl, hj, q⟩ := h
  obtain ⟨t, rfl⟩ := rx
  obtain ⟨t', rfl⟩ := ry
  obtain ⟨mb, h1, h2⟩ := I.mod.blt
  have hN : s.heap.NoSeer := Y.ns s.heap I.kIn ⟨mb, h1.keeps I.bk, h2⟩
  have hd := hr.dp
  have e : Builtin.pylongFrames = 100 := rfl
  refine floordiv_int hj ⟨.int _, H, I.tok _, ⟨_, rfl⟩, q⟩ (.inr (PySem.PylongRoom.of I.nolimit (by rw [e]; omega) (SeerAt.of (env := X.env) (l := X.outer) hN Y.tree (by rw [I.ok.frames, hs]) hg hc I.ok.blt I.ok.glob)))
/-- a list or a tuple is walked -/
def iSeq (K : PySem.W.Frag) (tl : TE) : TI := fun σ H R => tl σ H fun x H1 => ∃ a, x = .ref a ∧ (((∃ xs, SqL K H1 a xs) ∧ R (Itl K a) H1) ∨ ((∃ xs, SqT K H1 a xs) ∧ R (Itt K a) H1))
theorem pi_seq {tg l : Expr} {tl : TE} (hl : PE X l tl) : PI X tg l (iSeq X.K tl) := by
  refine ⟨fun pins s σ H R I h => ?_⟩
  refine thn (hl.run pins s σ H _ I h) fun v s1 ⟨x, H1, I1, r1, q1⟩ => ?_
  obtain ⟨a, e, q1⟩ := q1
  subst e
  cases r1
  have fp : ∀ b ∈ [s1.heap.objs.size], FpOk X pins H1 b := fun b hb => by
    have e : b = s1.heap.objs.size := by simpa using hb
    subst e
    exact I1.fpOk (Nat.le_refl _) (I1.hok.fresh (Nat.le_refl _))
  rcases q1 with ⟨⟨xs, hq⟩, q⟩ | ⟨⟨xs, hq⟩, q⟩
  · obtain ⟨its, rv, p, hz⟩ := I1.list hq
    refine wpAny_pyIter_list p.isList ?_
    exact ⟨s1.heap.objs.size, [s1.heap.objs.size], _, _, H1, rfl, I1.kept (t' := s1.toks) fun b o e => Heap.get?_push_of_some _ e, turn_list a _, ⟨_, Heap.get?_push_size _ rfl, rfl, rfl⟩, fp, q⟩
  · obtain ⟨its, rv, p, hz⟩ := I1.tuple hq
    refine wpAny_pyIter_tuple (show s1.heap.IsTuple a its.toArray from p) ?_
    exact ⟨s1.heap.objs.size, [s1.heap.objs.size], _, _, H1, rfl, I1.kept (t' := s1.toks) fun b o e => Heap.get?_push_of_some _ e, turn_tuple a _, ⟨_, Heap.get?_push_size _ rfl, rfl, rfl⟩, fp, q⟩
end
section
variable {K : PySem.W.Frag} {Γ Γ1 : List (Slot M)} {τs : List (Ty M)}
theorem ei_seqL {tl : TE} (h : Ev (M := M) (fun _ _ _ => False) tl Γ (.val (isLs τs)) Γ1) : EvI (iSeq K tl) Γ τs.length (nth τs) Γ1 := fun O F H σ R w q =>
  h O F H σ _ w fun v F2 H2 st w2 ⟨a, xs, e, hx, ht⟩ => ⟨a, e, .inl ⟨⟨xs, Or.inl (Or.inl (w2.sub a _ hx))⟩, q _ F2 H2 st w2 (wk_list (Or.inl (Or.inl hx)) ht)⟩⟩
theorem ei_seqT {tl : TE} (h : Ev (M := M) (fun _ _ _ => False) tl Γ (.val (isTs K τs)) Γ1) : EvI (iSeq K tl) Γ τs.length (nth τs) Γ1 := fun O F H σ R w q =>
  h O F H σ _ w fun v F2 H2 st w2 ⟨a, xs, e, hx, ht⟩ => ⟨a, e, .inr ⟨⟨xs, sqT_sub w2.sub hx⟩, q _ F2 H2 st w2 (wk_tup hx ht)⟩⟩
theorem ei_seqTD {tl : TE} {ds : List PyData} (h : Ev (M := M) (fun _ _ _ => False) tl Γ (.val (isD K (.tuple ds))) Γ1) : EvI (iSeq K tl) Γ ds.length (nth (ds.map (isD K))) Γ1 := by
  have z := ei_seqT (K := K) (h.le le_Dts)
  rw [List.length_map] at z
  exact z
end
/-! ### defs by name -/
structure DefOk (P : Program) (w : World) (K : PySem.W.Frag) (mg : Str → Option Value) (base : Heap) (k : Nat) (x : Str) (ps : List Str) (sp : Sp) : Prop where
  ex : ∃ f fd, FnOk P w K mg base (L2.CX P w) k f fd ps sp ∧ mg x = some (.ref f) ∧ PySem.W.keepIn K (.ref f) = true ∧ Binds K fd ps []
/-- what the head gives of a def -/
structure DefAt (K : PySem.W.Frag) (mg : Str → Option Value) (x : Str) (st : Stmt) : Prop where
  ex : ∃ f fd, FunD K x x (defArgs st) (defBody st) (defScope st) [] [] f fd ∧ mg x = some (.ref f)
/-- a mark for rfl-checked binding of parameters -/
def BindOk (x : Str) (st : Stmt) (ps : List Str) : Prop := ∀ (kV doc pm : Value) (an : Option Addr) (cdv ct : Value) (us : List Value), us.length = ps.length → bindArgs (PySem.W.fnOf x x (defArgs st) (defBody st) (defScope st) .none kV doc pm an cdv ct) ⟨us, []⟩ = pure (ps.zip us)
section
variable {P : Program} {w : World} {K : PySem.W.Frag} {mg : Str → Option Value} {base : Heap}
theorem DefAt.ok {x : Str} {st : Stmt} {N ps : List Str} {k : Nat} {S : List (Ty M) → Re M → Prop} (D : DefAt K mg x st) (Sc : FnScope N ps (defScope st)) (hB : BindOk x st ps) (hl : ∀ τs r, S τs r → τs.length = ps.length)
    (hb : ∀ (f : Addr) (cdv : Value) (A : Around) (outer : List Env) (s : Shared) (H : Hp) (E : XK), Room k (A.deeper (envOfC x (defScope st) s.heap.objs.size f cdv)) → ∀ τs r, S τs r →
      ∃ t, PSs (ctx P w K mg base N x (defScope st) f cdv A outer s H E) (defBody st) t ∧ EvS E t (slots0 N.length τs) (poOf r)) : DefOk P w K mg base (k + 1) x ps (spOf S) := by
  obtain ⟨f, fd, F, m⟩ := D.ex
  exact ⟨f, fd, ok_fun F Sc hl (fun cdv A outer s H E hr τs r hs => by
    obtain ⟨t, h1, h2⟩ := hb f cdv A outer s H E hr τs r hs
    exact ⟨t, h1, h2⟩), m, F.kp, F.bindsN hB⟩
end
section
variable {X : Cx} {k : Nat} {ps : List Str} {sp : Sp} {E : XK} {x : Str} {p pos : Pos} {e : Expr} {es : List Expr} {t : TA}
theorem pe_def (D : DefOk X.prog X.w X.K X.mg X.base k x ps sp) (hr : Room k X.A) (hx : Passes (L2.CX X.prog X.w) X E) (ha : PA X (e :: es) t) (hg : Gl X x := by rfl)
    (hdb : (x == ("__debug__" : Str)) = false := by decide) (he : starEach (e :: es) X.env = (false, eval e X.env) :: starEach es X.env := by rfl) (hpl : (backTo pos (starEach es X.env)).any (·.1) = false := by rfl) :
    PE X (.Call (.Name x p) (e :: es) [] pos) (tCall sp [] E t) := by
  obtain ⟨f, fd, F, m, kp, b⟩ := D.ex
  exact pe_call F hr hg m kp b .nil hx ha hdb he hpl
end
/-- the built-ins' names are free -/
structure Free (mg : Str → Option Value) : Prop where
  abs : mg "abs" = none
  len : mg "len" = none
  range : mg "range" = none
  max : mg "max" = none
  min : mg "min" = none
  sum : mg "sum" = none
  any : mg "any" = none
  all : mg "all" = none
  list : mg "list" = none
  tuple : mg "tuple" = none
  enumerate : mg "enumerate" = none
  isinstance : mg "isinstance" = none
  sorted : mg "sorted" = none
  int : mg "int" = none
  bool : mg "bool" = none
  str : mg "str" = none
  ve : mg "ValueError" = none
theorem bt_len : bootBuiltins "len" = some (.builtin "len") := by decide +kernel
theorem bt_abs : bootBuiltins "abs" = some (.builtin "abs") := by decide +kernel
theorem bt_max : bootBuiltins "max" = some (.builtin "max") := by decide +kernel
theorem bt_min : bootBuiltins "min" = some (.builtin "min") := by decide +kernel
theorem bt_sum : bootBuiltins "sum" = some (.builtin "sum") := by decide +kernel
theorem bt_any : bootBuiltins "any" = some (.builtin "any") := by decide +kernel
theorem bt_all : bootBuiltins "all" = some (.builtin "all") := by decide +kernel
theorem bt_isinstance : bootBuiltins "isinstance" = some (.builtin "isinstance") := by decide +kernel
theorem bt_sorted : bootBuiltins "sorted" = some (.builtin "sorted") := by decide +kernel
theorem bt_list : bootBuiltins "list" = some (.type "list") := by decide +kernel
theorem bt_tuple : bootBuiltins "tuple" = some (.type "tuple") := by decide +kernel
theorem bt_int : bootBuiltins "int" = some (.type "int") := by decide +kernel
theorem bt_bool : bootBuiltins "bool" = some (.type "bool") := by decide +kernel
theorem bt_str : bootBuiltins "str" = some (.type "str") := by decide +kernel
theorem bt_ve : bootBuiltins "ValueError" = some (.type "ValueError") := by decide +kernel
/-! ### their types -/
section
variable {K : PySem.W.Frag} {E : XK} {F : Hp} {Γ Γ1 Γ2 Δ : List (Slot M)} {τ υ ω : Ty M} {τs υs : List (Ty M)}
theorem ru_addI {i j : Int} : RR (M := M) (rAddU K) (isD K (.int i)) (isD K (.int j)) (isD K (.int (i + j))) := fun x y F H Q s hx hy q => .inl (rr_add x y F H Q s hx hy q)
theorem tys_app {xs ys : List V} (h : Tys F xs τs) (h2 : Tys F ys υs) : Tys F (xs ++ ys) (τs ++ υs) := by
  induction h with
  | nil => exact h2
  | cons a b ih => exact .cons a ih
theorem ru_addL (hl : τs.length + υs.length ≤ 1000000) : RR (rAddU K) (isLs τs) (isLs υs) (isLs (τs ++ υs)) := fun x y F H Q s ⟨a, xs, e1, h1, t1⟩ ⟨b, ys, e2, h2, t2⟩ q =>
  .inr (.inl ⟨a, b, xs, ys, e1, e2, s a _ h1, s b _ h2, by rw [t1.length, t2.length]; exact Nat.le_trans hl (by decide), fun p hp => by
    have st := Step.new (M := M) (o := .lst (xs ++ ys)) s hp
    exact q _ _ _ st ⟨p, _, rfl, upd_same, (tys_app t1 t2).mono st.gw⟩⟩)
theorem ru_addT (hl : τs.length + υs.length ≤ 1000000) : RR (rAddU K) (isTs K τs) (isTs K υs) (isTs K (τs ++ υs)) := fun x y F H Q s ⟨a, xs, e1, h1, t1⟩ ⟨b, ys, e2, h2, t2⟩ q =>
  .inr (.inr (.inl ⟨a, b, xs, ys, e1, e2, sqT_sub s h1, sqT_sub s h2, by rw [t1.length, t2.length]; exact Nat.le_trans hl (by decide),
    fun z => by
      subst z
      cases t1
      exact q _ F H (Step.refl s) ⟨b, ys, rfl, h2, t2⟩,
    fun _ z => by
      subst z
      cases t2
      exact q _ F H (Step.refl s) ⟨a, xs, rfl, h1, by rw [List.append_nil]; exact t1⟩,
    fun _ _ p hp => by
      have st := Step.new (M := M) (o := .tup (xs ++ ys)) s hp
      exact q _ _ _ st ⟨p, _, rfl, Or.inl (Or.inl upd_same), (tys_app t1 t2).mono st.gw⟩⟩))
theorem ru_addS {i j : Str} (h : i.length + j.length ≤ 1000000) : RR (M := M) (rAddU K) (isD K (.str i)) (isD K (.str j)) (isD K (.str (i ++ j))) := fun x y F H Q s hx hy q => by
  cases hx
  cases hy
  exact .inr (.inr (.inr ⟨i, j, rfl, rfl, Nat.le_trans h (by decide), q _ F H (Step.refl s) (.str _)⟩))
theorem ru_mulI {i j : Int} (h : CMulB i j) : RR (M := M) (rMulU K) (isD K (.int i)) (isD K (.int j)) (isD K (.int (i * j))) := fun x y F H Q s hx hy q => .inl (rr_mul h x y F H Q s hx hy q)
theorem ru_ixT {i : Int} (e : atI τs i = some τ) : RR (M := M) (rIx K) (isTs K τs) (isD K (.int i)) τ := fun x y F H Q s hx hy q => .inr (.inl (rr_ixT e x y F H Q s hx hy q))
theorem ru_ixTD {ds : List PyData} {i : Int} {d : PyData} (e : atI ds i = some d) : RR (M := M) (rIx K) (isD K (.tuple ds)) (isD K (.int i)) (isD K d) := fun x y F H Q s hx hy q => .inr (.inl (rr_ixTD e x y F H Q s hx hy q))
theorem ru_ixL {i : Int} (e : atI τs i = some τ) : RR (M := M) (rIx K) (isLs τs) (isD K (.int i)) τ := fun x y F H Q s hx hy q => .inl (rr_ixL e x y F H Q s hx hy q)
theorem tys_strs : ∀ {ss : List Str} {xs : List V}, Tys (M := M) F xs ((ss.map PyData.str).map (isD K)) → xs = ss.map V.str
  | [], _, .nil => rfl
  | z :: zs, _, .cons a b => by
    cases a
    rw [tys_strs b]
    rfl
theorem inV_strs {s : Str} : ∀ ss : List Str, inV (.str s) (ss.map V.str) = decide (s ∈ ss)
  | [] => rfl
  | z :: zs => by
    have ih := inV_strs (s := s) zs
    show (z == s || inV (.str s) (zs.map V.str)) = decide (s ∈ z :: zs)
    rw [ih]
    by_cases h : z = s
    · subst h; simp
    · have h' : s ≠ z := fun q => h q.symm
      simp [h, h', List.mem_cons]
theorem flat_strs : ∀ ss : List Str, (ss.map V.str).all flatV = true
  | [] => rfl
  | z :: zs => flat_strs zs
theorem ru_inS {s : Str} {ss : List Str} : RR (M := M) (rInU K) (isD K (.str s)) (isD K (.tuple (ss.map .str))) (isD K (.bool (decide (s ∈ ss)))) := fun x y F H Q sb hx hy q => by
  cases hx
  obtain ⟨a, xs, e, h1, t1⟩ := le_Dts _ _ hy
  have ex := tys_strs t1
  subst ex
  refine .inl ⟨a, _, e, .inr (sqT_sub sb h1), rfl, flat_strs ss, ?_⟩
  show Q (.bl (inV (.str s) (ss.map V.str))) H
  rw [inV_strs]
  exact q _ F H (Step.refl sb) (.bl _)
theorem ru_ninS {s : Str} {ss : List Str} : RR (M := M) (rNInU K) (isD K (.str s)) (isD K (.tuple (ss.map .str))) (isD K (.bool (!decide (s ∈ ss)))) := fun x y F H Q sb hx hy q => by
  cases hx
  obtain ⟨a, xs, e, h1, t1⟩ := le_Dts _ _ hy
  have ex := tys_strs t1
  subst ex
  refine .inl ⟨a, _, e, .inr (sqT_sub sb h1), rfl, flat_strs ss, ?_⟩
  show Q (.bl (!inV (.str s) (ss.map V.str))) H
  rw [inV_strs]
  exact q _ F H (Step.refl sb) (.bl _)
theorem ev_slT {te : TE} {tl th : TO} {lo hi : Option Int} (h : Ev E te Γ (.val (isTs K τs)) Γ1) (hl : EvP tl Γ1 lo Γ2) (hh : EvP th Γ2 hi Δ) : Ev E (tSl (rSlU K) te tl th) Γ (.val (isTs K (cutL τs lo hi))) Δ := fun O F H σ Q w q => by
  have z := ev_sliceT h hl hh O F H σ Q w q
  exact h O F H σ _ w fun v F1 H1 s1 w1 hv => hl O F1 H1 σ _ w1 fun F2 H2 s2 w2 => hh O F2 H2 σ _ w2 fun F3 H3 s3 w3 => by
    obtain ⟨a, xs, e, hx, ht⟩ := Ty.mono _ (s2.gw.trans s3.gw) hv
    have hlen := ht.length
    refine .inr (.inl ⟨a, xs, e, sqT_sub w3.sub hx, fun hw => ?_, fun hw p hp => ?_⟩)
    · rw [hlen] at hw
      refine q (.ref a) F3 H3 ((s1.trans s2).trans s3) w3 ⟨a, xs, rfl, hx, ?_⟩
      rw [cutL_whole hw]
      exact ht
    · have st := Step.new (M := M) (o := .tup (cutV xs lo hi)) w3.sub hp
      exact q (.ref p) _ _ (((s1.trans s2).trans s3).trans st.x) (w3.step st) ⟨p, _, rfl, Or.inl (Or.inl upd_same), tys_cut (ht.mono st.gw)⟩
theorem ev_slTD {te : TE} {tl th : TO} {lo hi : Option Int} {ds : List PyData} (h : Ev E te Γ (.val (isD K (.tuple ds))) Γ1) (hl : EvP tl Γ1 lo Γ2) (hh : EvP th Γ2 hi Δ) : Ev E (tSl (rSlU K) te tl th) Γ (.val (isD K (.tuple (cutL ds lo hi)))) Δ := by
  have z := (ev_slT (h.le le_Dts) hl hh)
  rw [cutL_map] at z
  exact z.le le_tsD
theorem eo_slL {te : TE} {tl th : TO} {lo hi : Option Int} (h : Ev (M := M) (fun _ _ _ => False) te Γ (.val (isLs τs)) Γ1) (hl : EvP tl Γ1 lo Γ2) (hh : EvP th Γ2 hi Δ) : EvO (tSl (rSlU K) te tl th) Γ (owL (cutL τs lo hi)) Δ := fun O F H σ Q w q =>
  h O F H σ _ w fun v F1 H1 s1 w1 hv => hl O F1 H1 σ _ w1 fun F2 H2 s2 w2 => hh O F2 H2 σ _ w2 fun F3 H3 s3 w3 => by
    obtain ⟨a, xs, e, hx, ht⟩ := Ty.mono _ (s2.gw.trans s3.gw) hv
    exact .inl ⟨a, xs, e, Or.inl (Or.inl (w3.sub a _ hx)), fun p hp => new_own w3 hp (u := owL (cutL τs lo hi)) ⟨_, rfl, tys_cut ht⟩ fun p o F4 H4 st w4 h1 h2 h3 h4 h5 => q p o F4 H4 (((s1.trans s2).trans s3).trans st) w4 h1 h2 h3 h4 h5⟩
theorem ev_slS {te : TE} {tl th : TO} {lo hi : Option Int} {z : Str} (h : Ev (M := M) E te Γ (.val (isD K (.str z))) Γ1) (hl : EvP tl Γ1 lo Γ2) (hh : EvP th Γ2 hi Δ) (hz : z.length ≤ 1000000) : Ev E (tSl (rSlU K) te tl th) Γ (.val (isD K (.str (cutS z lo hi)))) Δ := fun O F H σ Q w q =>
  h O F H σ _ w fun v F1 H1 s1 w1 hv => hl O F1 H1 σ _ w1 fun F2 H2 s2 w2 => hh O F2 H2 σ _ w2 fun F3 H3 s3 w3 => by
    cases hv
    exact .inr (.inr ⟨z, rfl, Nat.le_trans hz (by decide), q _ F3 H3 ((s1.trans s2).trans s3) w3 (.str _)⟩)
/-- a tuple of data -/
theorem ev_tupD {ta : TA} {ds : List PyData} (ha : EvA E ta Γ (.vals (ds.map (isD K))) Γ1) (hl : ds.length ≤ 1000) : Ev E (tTup ta) Γ (.val (isD (M := M) K (.tuple ds))) Γ1 := (ev_tup ha (by rw [List.length_map]; exact hl)).le le_tsD
theorem ea_consD {ta : TE} {tr : TA} {d : PyData} {ds : List PyData} (ha : Ev E ta Γ (.val (isD (M := M) K d)) Γ1) (hr : EvA E tr Γ1 (.vals (ds.map (isD K))) Γ2) : EvA E (tCons ta tr) Γ (.vals ((d :: ds).map (isD K))) Γ2 := ea_cons ha hr
theorem ea_nilD : EvA (M := M) E tNil Γ (.vals (([] : List PyData).map (isD K))) Γ := ea_nil
theorem ev_int {i : Int} : Ev (M := M) E (tC (.int i)) Γ (.val (isD K (.int i))) Γ := ev_c fun _ => .int i
theorem ev_str {i : Str} : Ev (M := M) E (tC (.str i)) Γ (.val (isD K (.str i))) Γ := ev_c fun _ => .str i
theorem ev_bl {i : Bool} : Ev (M := M) E (tC (.bl i)) Γ (.val (isD K (.bool i))) Γ := ev_c fun _ => .bl i
theorem ev_non : Ev (M := M) E (tC .non) Γ (.val (isD K .none)) Γ := ev_c fun _ => .non
theorem ev_ty {T : String} : Ev (M := M) E (tC (.ty T)) Γ (.val (isV (.ty T))) Γ := ev_c fun _ => rfl
/-- len -/
theorem rn_lnT : RN (M := M) (rLen K) [isTs K τs] (isD K (.int τs.length)) := rn_one fun x F H Q s ⟨a, xs, e, hx, ht⟩ q =>
  ⟨x, xs.length, rfl, by rw [e]; exact .inr ⟨xs, sqT_sub s hx, rfl⟩, q _ F H (Step.refl s) (by rw [ht.length]; exact .int _)⟩
theorem rn_lnL : RN (M := M) (rLen K) [isLs τs] (isD K (.int τs.length)) := rn_one fun x F H Q s ⟨a, xs, e, hx, ht⟩ q =>
  ⟨x, xs.length, rfl, by rw [e]; exact .inl ⟨xs, Or.inl (Or.inl (s a _ hx)), rfl⟩, q _ F H (Step.refl s) (by rw [ht.length]; exact .int _)⟩
theorem rn_lnTD {ds : List PyData} : RN (M := M) (rLen K) [isD K (.tuple ds)] (isD K (.int ds.length)) := by
  have h := rn_le1 (rn_lnT (M := M) (K := K) (τs := ds.map (isD K))) le_Dts
  rw [List.length_map] at h
  exact h
theorem rn_lnS {z : Str} (hz : z.length ≤ 1000000) : RN (M := M) (rLen K) [isD K (.str z)] (isD K (.int z.length)) := rn_one fun x F H Q s hx q => by
  cases hx
  exact ⟨.str z, z.length, rfl, ⟨Nat.le_trans hz (by decide), rfl⟩, q _ F H (Step.refl s) (.int _)⟩
end
end Bc

set_option maxRecDepth 100000
set_option maxHeartbeats 4000000
/-! BdE: enumerate(tuple). -/
namespace Bc
open PySem PySem.Spec
open PyProof.Rows L2
open AutoSeq1 (wpAny_loadPart')
theorem meets_enumerate_newT (l : Addr) (items : Array Value) (dct : Option Addr) (n : Nat) (sl : Array (Option Value)) (hT : ∀ (prog : Program) (w : World) (s : Shared), s.heap.get? l = some { cls := .type "tuple", dict := dct, data := .seq items n, slots := sl } → s.heap.IsTuple l items) :
    Meets (Builtin.«enumerate.__new__» ⟨[.type "enumerate", .ref l], []⟩) (fun _ R s => s.heap.get? l = some { cls := .type "tuple", dict := dct, data := .seq items n, slots := sl } ∧
      R (.ok (.ret (.ref (s.heap.push { cls := .type "tuple_iterator", data := .fields #[.ref l, .int 0 0] }).objs.size)))
        { s with heap := (s.heap.push { cls := .type "tuple_iterator", data := .fields #[.ref l, .int 0 0] }).push { cls := .type "enumerate", data := .fields #[.none, .bool false, .ref s.heap.objs.size, rawInt 0, .none, .none] } }) :=
  .of_wp fun prog w A R s h => by
    obtain ⟨hp, g, d, tk, os⟩ := s; obtain ⟨hl, h⟩ := h
    have hsub := sub_enumerate
    have hL : Heap.IsTuple (Shared.heap ⟨hp, g, d, tk, os⟩) l items := hT prog w ⟨hp, g, d, tk, os⟩ hl
    wp_walk using wpAny_loadPart' hl
    refine wpAny_stack_any fun st => wpAny_pure ?_
    split
    · rename_i c _ _ _ _ _
      cases (c == Value.type "enumerate")
      · wp_walk using wpAny_loadPart' hl, wpAny_pyIter_tuple hL
        exact ⟨_, rfl, h⟩
      · wp_walk using wpAny_loadPart' hl, wpAny_pyIter_tuple hL
        exact ⟨_, rfl, h⟩
    · wp_walk using wpAny_loadPart' hl, wpAny_pyIter_tuple hL
      exact ⟨_, rfl, h⟩
theorem call_enumerate_tuple {prog : Program} {w : World} {A : Around} {E : Value → Shared → Prop} {s : Shared} {l : Addr} {items : Array Value} {Q : Value → Shared → Prop} (hL : s.heap.IsTuple l items)
    (h : ∀ h', IsEnum h' (s.heap.objs.size + 1) s.heap.objs.size 0 .none → h'.IsTupleIter s.heap.objs.size l 0 → h'.objs.size = s.heap.objs.size + 2 →
      (∀ b o, s.heap.get? b = some o → h'.get? b = some o) → Q (.ref (s.heap.objs.size + 1)) { s with heap := h' }) :
    wpAny (model prog w) A (call (.type "enumerate") [.ref l]) Q E s := by
  obtain ⟨⟨c, dct, dt, sl⟩, hl, hc, n, hd⟩ := hL
  replace hc : c = .type "tuple" := hc
  replace hd : dt = .seq items n := hd
  subst hc hd
  refine callType_new F.called_enumerate (by decide) (F.typeCall_enumerate_1 _) (F.newCall_enumerate_1 _) (fun obj => F.args_object_init_2 obj _) F.entry_enumerate_new
    (meets_enumerate_newT l items dct n sl fun _ _ s' e => ⟨_, e, rfl, n, rfl⟩) ⟨hl, ?_⟩
  have hz : (s.heap.push { cls := .type "tuple_iterator", data := .fields #[.ref l, .int 0 0] }).objs.size = s.heap.objs.size + 1 := Heap.size_push ..
  show _ ∧ _
  rw [hz]
  have he : IsEnum ((s.heap.push { cls := .type "tuple_iterator", data := .fields #[.ref l, .int 0 0] }).push
      { cls := .type "enumerate", data := .fields #[.none, .bool false, .ref s.heap.objs.size, rawInt 0, .none, .none] }) (s.heap.objs.size + 1) s.heap.objs.size 0 .none := by
    have := Heap.get?_push_size (s.heap.push { cls := .type "tuple_iterator", data := .fields #[.ref l, .int 0 0] })
      (o := { cls := .type "enumerate", data := .fields #[.none, .bool false, .ref s.heap.objs.size, rawInt 0, .none, .none] }) rfl
    rw [hz] at this; exact this
  refine ⟨⟨_, he, rfl⟩, h _ he ⟨_, Heap.get?_push_of_some _ (Heap.get?_push_size _ rfl), rfl, rfl⟩ (by rw [Heap.size_push, hz]) fun b o x => Heap.get?_push_of_some _ (Heap.get?_push_of_some _ x)⟩
theorem wpAny_pyNext_enumT_end {prog : Program} {w : World} {A : Around} {E : Value → Shared → Prop} {s : Shared} {e it l : Addr} {i : Nat} {items : Array Value} {old : Value} {Q : Option Value → Shared → Prop} (hh : A.handled = none)
    (he : IsEnum s.heap e it i old) (hit : s.heap.IsTupleIter it l i) (hl : s.heap.IsTuple l items) (hx : items[i]? = none)
    (hQ : ∀ h', Heap.ExtBut it s.heap h' → Q none { s with heap := h' }) : wpAny (model prog w) A (pyNext (.ref e)) Q E s := by
  have hT : s.TypeIs (.ref e) "enumerate" := ⟨_, he, rfl⟩
  unfold pyNext
  refine wpAny_bind (wpAny_attempt (wpAny_callSpecial?_slot (name := Str.ofString "__next__") hT F.slot_enumerate_next
    (wpAny_call_entry F.slot_enumerate_next hT F.entry_enumerate_next ?_ (F.args_enumerate_next_1 _))))
  show wpAny _ _ (field (.ref e) 2 >>= _) _ _ _
  refine wpAny_bind (wpAny_field he rfl (x := .ref it) rfl ?_)
  refine wpAny_bind (wpAny_nextOf_tuple_end hh hit hl hx fun h' x he' hx' => ?_)
  obtain ⟨o, ho, hc⟩ := hx'
  refine wpAny_bind (wpAny_isInstance (T := "StopIteration") (b := true) ⟨o, ho, hc⟩ isSubtype_stop ?_)
  exact wpAny_pure (hQ _ he')
/-- the tuple at a, each item in a new pair -/
def IteT (K : PySem.W.Frag) (a : Addr) : It :=
  ⟨fun i H => ∃ (xs : List V) (x : V), SqT K H a xs ∧ xs[i]? = some x, fun i H v H' => ∃ T x, v = .ref T ∧ H T = none ∧ H' = upd H T (.tup [.int (i : Nat), x]) ∧ ∀ xs, SqT K H a xs → xs[i]? = some x, fun i H => ∃ xs : List V, SqT K H a xs ∧ xs.length ≤ i⟩
theorem turn_enumT {P : Program} {w : World} {K : PySem.W.Frag} {elts : List Expr} {kk : Nat} {tpos : Pos} (a e it : Addr) (ha : a ≠ it) (hae : a ≠ e) :
    Turn P w K (.Tuple elts kk tpos) (IteT K a) [e, it] e (fun i h => (∃ old, IsEnum h e it ((i : Nat) : Int) old) ∧ h.IsTupleIter it a i ∧ e ≠ it) where
  mem := by simp
  obj := fun i h st b hb => by
    obtain ⟨⟨old, he⟩, ⟨o, ho, hc, hd⟩, _⟩ := st
    have e' : b = e ∨ b = it := by simpa using hb
    rcases e' with z | z
    · rw [z]; exact ⟨_, he, fun v q => nomatch q⟩
    · rw [z]; exact ⟨o, ho, fun v q => by rw [hd] at q; cases q⟩
  keep := fun i h h' st k => let ⟨⟨old, he⟩, hi, hne⟩ := st; ⟨⟨old, k e (by simp) _ he⟩, hi.at fun o q => k it (by simp) o q, hne⟩
  item := by
    intro X hP hw hK hc i pins s σ H E I hf st hg
    subst hP hw hK
    obtain ⟨⟨old, he⟩, hit, hne⟩ := st
    obtain ⟨xs, x, hq, hx⟩ := hg
    obtain ⟨its, rv, p, hz⟩ := I.tuple hq
    obtain ⟨u, hu, ru⟩ := rv.get hx
    have hel : e < s.heap.objs.size := Heap.lt_size he
    have hil : it < s.heap.objs.size := by obtain ⟨_, q, _⟩ := hit; exact Heap.lt_size q
    have hi : i < its.toArray.size := by
      have := (List.getElem?_eq_some_iff.mp hu).1
      simpa using this
    have hh : X.A.in1.handled = none := I.ok.hd hc
    refine wpAny_pyNext_enum_itemD (fp := [it, a]) (Draws.tuple hh it a ha its.toArray) he ⟨hit, p⟩ hi hne (by
      intro z
      have : e = it ∨ e = a := by simpa using z
      rcases this with z | z
      · exact hne z
      · exact hae z.symm) fun x' h' tk hx' ho hit' hT hsz hk => ?_
    have ex : x' = u := by
      have hx' : its.toArray[i]? = some x' := hx'
      rw [show its.toArray[i]? = its[i]? from by simp, hu] at hx'
      exact (Option.some.inj hx').symm
    subst ex
    refine ⟨_, rfl, wpAny_letOwnedTupleGo_enum (s := { s with heap := h', toks := tk + 1 }) ho fun h'' he' sb => ?_⟩
    have hT2 : h''.get? s.heap.objs.size = some { cls := .type "tuple", data := .seq #[.int i tk, x'] } := (sb.2 _ (Nat.ne_of_gt hel)).trans hT
    have new : ObjOk X.prog X.w (upd H s.heap.objs.size (.tup [.int (i : Nat), x])) h'' s.heap.objs.size (.tup [.int (i : Nat), x]) :=
      ⟨by show 2 ≤ sizeLine; decide, [.int i tk, x'], .cons ⟨_, rfl⟩ (.cons ru .nil), ⟨_, hT2, rfl, _, rfl⟩⟩
    have I1 : Inv X pins σ (upd H s.heap.objs.size (.tup [.int (i : Nat), x])) { s with heap := h'', toks := tk + 1 } :=
      I.turnedNew (ch := [e, it]) (fun b ob hb q => (sb.2 b (fun z => hb (by simp [z]))).trans (hk b ob (fun z => hb (by simp [z])) (fun z => hb (by simp [z])) q)) hf (Nat.le_refl _) new
    refine ⟨.ref s.heap.objs.size, _, I1, rfl, ⟨_, x, rfl, I.hok.fresh (Nat.le_refl _), rfl, fun ys hy => by rw [I.tuple_inj hy hq]; exact hx⟩, ⟨⟨x', ?_⟩, hit'.1.at fun o q => (sb.2 it (Ne.symm hne)).trans q, hne⟩, fun b hb => ?_⟩
    · have e1 : ((i + 1 : Nat) : Int) = (i : Int) + 1 := by omega
      rw [e1]; exact he'
    · have hb' : b < s.heap.objs.size := by
        have e' : b = e ∨ b = it := by simpa using hb
        rcases e' with z | z
        · rw [z]; exact hel
        · rw [z]; exact hil
      rw [upd_ne (Nat.ne_of_lt hb')]
      exact (hf b hb).1
  done := by
    intro X hP hw hK hc i pins s σ H E I hf st hg
    subst hP hw hK
    obtain ⟨⟨old, he⟩, hit, hne⟩ := st
    obtain ⟨xs, hq, hx⟩ := hg
    obtain ⟨its, rv, p, hz⟩ := I.tuple hq
    obtain ⟨f0, f1, f2, f3, f4, f5⟩ := hf it (by simp)
    have hl := rv.length
    exact wpAny_pyNext_enumT_end (I.ok.hd hc) he hit p (by simp; omega) fun h' eb => ⟨rfl, I.turned (t' := s.toks) (fun b o hb q => eb b o hb q) f0 f1 f3 f4 f5⟩
  self := fun A i s Q E st h => let ⟨⟨_, he⟩, _⟩ := st; wpAny_pyIter_enum he h
/-- a list's or a tuple's items in pairs with their places -/
def iEnumU (K : PySem.W.Frag) (ta : TA) : TI := fun σ H R => ta σ H fun vs H1 => ∃ a, vs = [.ref a] ∧ (((∃ xs, SqL K H1 a xs) ∧ R (Ite K a) H1) ∨ ((∃ xs, SqT K H1 a xs) ∧ R (IteT K a) H1))
theorem pi_enumU {X : Cx} {e : Expr} {ta : TA} {p pos tpos : Pos} {elts : List Expr} {kk : Nat} (hg : Gl X "enumerate") (hm : X.mg "enumerate" = none) (ha : PA X [e] ta) (hs : starEach [e] X.env = [(false, eval e X.env)] := by rfl) :
    PI X (.Tuple elts kk tpos) (.Call (.Name "enumerate" p) [e] [] pos) (iEnumU X.K ta) := by
  refine ⟨fun pins s σ H R I h => ?_⟩
  refine Call_ (ld_blt I hg hm boot_enumerate (PyProof.Rows.callWith_type1 (thn (ha.run pos pins s σ H _ I h) fun us s1 ⟨vs, H1, I1, r1, q1⟩ => ?_) hs rfl))
  obtain ⟨a, ex, q1⟩ := q1
  subst ex
  cases r1 with
  | cons r rr =>
    cases rr
    cases r
    have fp : ∀ b ∈ [s1.heap.objs.size + 1, s1.heap.objs.size], FpOk X pins H1 b := fun b hb => by
      have e' : b = s1.heap.objs.size + 1 ∨ b = s1.heap.objs.size := by simpa using hb
      have hle : s1.heap.objs.size ≤ b := by
        rcases e' with z | z
        · rw [z]; exact Nat.le_add_right _ _
        · rw [z]; exact Nat.le_refl _
      exact I1.fpOk hle (I1.hok.fresh hle)
    rcases q1 with ⟨⟨xs, hq⟩, q⟩ | ⟨⟨xs, hq⟩, q⟩
    · obtain ⟨its, rv, p', hz⟩ := I1.list hq
      refine call_enumerate_list p'.isList fun h' he hit hsz hk => wpAny_pyIter_enum he ?_
      have I2 : Inv X pins σ H1 { s1 with heap := h' } := I1.kept (t' := s1.toks) hk
      exact ⟨s1.heap.objs.size + 1, [s1.heap.objs.size + 1, s1.heap.objs.size], _, _, H1, rfl, I2, turn_enum a (s1.heap.objs.size + 1) s1.heap.objs.size, ⟨⟨.none, he⟩, hit, Nat.succ_ne_self _⟩, fp, q⟩
    · obtain ⟨its, rv, p', hz⟩ := I1.tuple hq
      have hT : s1.heap.IsTuple a its.toArray := p'
      have hlt : a < s1.heap.objs.size := by obtain ⟨o, ho, _⟩ := hT; exact Heap.lt_size ho
      refine call_enumerate_tuple hT fun h' he hit hsz hk => wpAny_pyIter_enum he ?_
      have I2 : Inv X pins σ H1 { s1 with heap := h' } := I1.kept (t' := s1.toks) hk
      exact ⟨s1.heap.objs.size + 1, [s1.heap.objs.size + 1, s1.heap.objs.size], _, _, H1, rfl, I2, turn_enumT a (s1.heap.objs.size + 1) s1.heap.objs.size (Nat.ne_of_lt hlt) (Nat.ne_of_lt (Nat.lt_succ_of_lt hlt)), ⟨⟨.none, he⟩, hit, Nat.succ_ne_self _⟩, fp, q⟩
section
variable {M : Hp → Hp → Prop} [g : GM M] {K : PySem.W.Frag} {τs : List (Ty M)} {a : Addr} {xs : List V} {F2 : Hp}
theorem wk_enumL (h : SqL K F2 a xs) (ht : Tys F2 xs τs) : WkTy (M := M) (Ite K a) τs.length (fun i => isTt [isD K (.int (i : Nat)), nth τs i]) F2 := by
  have hl := ht.length
  have W := walk_enum (K := K) (a := a) (xs := xs)
  refine ⟨fun i F H e s hi => W.goes i H (by omega) (sqL_sub s (sqL_gw e h)), fun F H e s => hl ▸ W.stops H (sqL_sub s (sqL_gw e h)), fun i F H x H' e s hi y => ?_⟩
  obtain ⟨T, x1, x2, ev, hT, eH, ex1, ex2⟩ := W.yields i H x H' (by omega) (sqL_sub s (sqL_gw e h)) y
  subst ev eH
  have st2 := Step.new (M := M) (o := .tup [x1, x2]) s hT
  injection ex1 with ex1
  subst ex1
  exact ⟨_, st2, T, _, rfl, upd_same, .cons (.int _) (.cons (Ty.mono _ (e.trans st2.gw) (tys_nth ht ex2)) .nil)⟩
theorem wk_enumT (h : SqT K F2 a xs) (ht : Tys F2 xs τs) : WkTy (M := M) (IteT K a) τs.length (fun i => isTt [isD K (.int (i : Nat)), nth τs i]) F2 := by
  have hl := ht.length
  refine ⟨fun i F H e s hi => ⟨xs, xs[i]'(by omega), sqT_sub s (sqT_gw e h), List.getElem?_eq_getElem _⟩, fun F H e s => ⟨xs, sqT_sub s (sqT_gw e h), by omega⟩, fun i F H x H' e s hi y => ?_⟩
  obtain ⟨T, x2, ev, hT, eH, h4⟩ := y
  have ex2 := h4 xs (sqT_sub s (sqT_gw e h))
  subst ev eH
  have st2 := Step.new (M := M) (o := .tup [.int (i : Nat), x2]) s hT
  exact ⟨_, st2, T, _, rfl, upd_same, .cons (.int _) (.cons (Ty.mono _ (e.trans st2.gw) (tys_nth ht ex2)) .nil)⟩
variable {Γ Γ1 : List (Slot M)}
theorem ei_enumL {ta : TA} (h : EvA (M := M) (fun _ _ _ => False) ta Γ (.vals [isLs τs]) Γ1) : EvI (iEnumU K ta) Γ τs.length (fun i => isTt [isD K (.int (i : Nat)), nth τs i]) Γ1 := fun O F H σ R w q =>
  h O F H σ _ w fun vs F2 H2 st w2 hv => by
    cases hv with
    | cons h1 t1 =>
      cases t1
      obtain ⟨a, xs, e, hx, ht⟩ := h1
      subst e
      exact ⟨a, rfl, .inl ⟨⟨xs, Or.inl (Or.inl (w2.sub a _ hx))⟩, q _ F2 H2 st w2 (wk_enumL (Or.inl (Or.inl hx)) ht)⟩⟩
theorem ei_enumT {ta : TA} (h : EvA (M := M) (fun _ _ _ => False) ta Γ (.vals [isTs K τs]) Γ1) : EvI (iEnumU K ta) Γ τs.length (fun i => isTt [isD K (.int (i : Nat)), nth τs i]) Γ1 := fun O F H σ R w q =>
  h O F H σ _ w fun vs F2 H2 st w2 hv => by
    cases hv with
    | cons h1 t1 =>
      cases t1
      obtain ⟨a, xs, e, hx, ht⟩ := h1
      subst e
      exact ⟨a, rfl, .inr ⟨⟨xs, sqT_sub w2.sub hx⟩, q _ F2 H2 st w2 (wk_enumT hx ht)⟩⟩
end
end Bc

set_option maxRecDepth 100000
set_option maxHeartbeats 4000000
/-! BdF: slices with a step. -/
namespace Bc
open PySem PySem.Spec
open PyProof.Rows L2
/-- the items of xs[lo:hi:c] -/
def stepL {α : Type} (xs : List α) (lo hi : Option Int) (c : Int) : List α :=
  let p := Builtin.Slice.sliceAdjust lo hi c (xs.length : Int)
  (List.range (Builtin.Slice.slicePlaces p.1 p.2 c)).filterMap fun (m : Nat) => xs[(p.1 + (m : Int) * c).toNat]?
theorem stepL_map {α β : Type} (f : α → β) (xs : List α) (lo hi : Option Int) (c : Int) : stepL (xs.map f) lo hi c = (stepL xs lo hi c).map f := by
  unfold stepL
  rw [List.length_map]
  simp only [List.getElem?_map, List.map_filterMap]
section
variable {prog : Program} {w : World} {A : Around} {E : Value → Shared → Prop} {s : Shared}
theorem sliceApplied_step {sl : Addr} {vl vu vs : Value} {lo hi : Option Int} {c : Int} {n : Nat} {Q : Int × Int × Nat → Shared → Prop} (hs : s.heap.IsSliceOf sl vl vu vs) (pl : IsPart vl lo) (pu : IsPart vu hi) (ps : IsPart vs (some c)) (h0 : c ≠ 0)
    (h : Q ((Builtin.Slice.sliceAdjust lo hi c (n : Int)).1, c, Builtin.Slice.slicePlaces (Builtin.Slice.sliceAdjust lo hi c (n : Int)).1 (Builtin.Slice.sliceAdjust lo hi c (n : Int)).2 c) s) : wpAny (model prog w) A (Builtin.Slice.sliceApplied (.ref sl) (pure (n : Int))) Q E s := by
  obtain ⟨os, hos, hcs, hds⟩ := id hs
  unfold Builtin.Slice.sliceApplied Builtin.Slice.sliceFields
  refine wpAny_bind (wpAny_bind (wpAny_field hos hds (x := vl) rfl (wpAny_bind (wpAny_field hos hds (x := vu) rfl (wpAny_bind (wpAny_field hos hds (x := vs) rfl (wpAny_pure ?_)))))))
  refine wpAny_bind (HT.slicePart_ ps ?_)
  show wpAny _ _ (if (c == 0) = true then _ else _) _ _ s
  rw [if_neg (by simpa using h0)]
  refine wpAny_bind (HT.slicePart_ pl (wpAny_bind (HT.slicePart_ pu (wpAny_bind (wpAny_pure ?_)))))
  exact wpAny_pure h
theorem stepL_len {α : Type} (xs : List α) (lo hi : Option Int) (c : Int) (hc : c = -1 ∨ 0 < c) : (stepL xs lo hi c).length ≤ xs.length ∨ True := .inr trivial
theorem stepL_size (xs : List Value) (lo hi : Option Int) (c : Int) (hz : xs.length ≤ 1000000) (hk : Builtin.Slice.slicePlaces (Builtin.Slice.sliceAdjust lo hi c (xs.length : Int)).1 (Builtin.Slice.sliceAdjust lo hi c (xs.length : Int)).2 c ≤ xs.length) : (stepL xs lo hi c).length ≤ sizeLine := by
  unfold stepL
  refine Nat.le_trans (List.length_filterMap_le _ _) ?_
  rw [List.length_range]
  exact Nat.le_trans hk (Nat.le_trans hz (by decide))
theorem getItem_tuple_step {t sl : Addr} {items : List Value} {vl vu vs : Value} {lo hi : Option Int} {c : Int} {Q : Value → Shared → Prop} (ht : IsTup s.heap t items.toArray) (hs : s.heap.IsSliceOf sl vl vu vs) (pl : IsPart vl lo) (pu : IsPart vu hi) (ps : IsPart vs (some c)) (h0 : c ≠ 0) (h1 : c ≠ 1)
    (h : Q (.ref s.heap.objs.size) { s with heap := s.heap.push { cls := .type "tuple", data := .seq (stepL items lo hi c).toArray } }) (hsz : (stepL items lo hi c).length ≤ sizeLine) : wpAny (model prog w) A (getItem (.ref t) (.ref sl)) Q E s := by
  have htake : sizeOk (.seq (stepL items lo hi c).toArray) := by
    show (stepL items lo hi c).toArray.size ≤ sizeLine
    rw [List.size_toArray]
    exact hsz
  obtain ⟨os, hos, hcs, hds⟩ := id hs
  have hTs : s.TypeIs (.ref sl) "slice" := ⟨os, hos, hcs⟩
  unfold getItem
  try with_reducible refine wpAny_holding ?_
  first | refine wpAny_bind (wpAny_pure ?_) | skip
  refine wpAny_bind (wpAny_sequenceKey ht.typeIs (by decide) ?_)
  refine wpAny_bind (wpAny_callSpecial?_slot (name := Str.ofString "__getitem__") ht.typeIs PyProof.Rows.slot_tuple_getitem
    (wpAny_call_entry PyProof.Rows.slot_tuple_getitem ht.typeIs entry_tuple_getitem ?_ (args_tuple_getitem _ _)))
  show wpAny _ _ (Builtin.Tuple.tupleItemsOf (.ref t) >>= _) _ _ s
  refine wpAny_bind (tupleItemsOf_ ht ?_)
  refine wpAny_bind (wpAny_typeOf hTs ?_)
  rw [if_pos (by decide)]
  refine wpAny_bind (sliceApplied_step hs pl pu ps h0 ?_)
  have e1 : (c == 1) = false := by simpa using h1
  dsimp only
  rw [e1, Bool.and_false, Bool.false_and]
  simp only [Bool.false_eq_true, if_false, List.size_toArray]
  have ep : (List.filterMap (fun (k : Nat) => items.toArray[((Builtin.Slice.sliceAdjust lo hi c (items.length : Int)).1 + (k : Int) * c).toNat]?) (List.range (Builtin.Slice.slicePlaces (Builtin.Slice.sliceAdjust lo hi c (items.length : Int)).1 (Builtin.Slice.sliceAdjust lo hi c (items.length : Int)).2 c))) = stepL items lo hi c := by
    unfold stepL
    simp only [List.getElem?_toArray]
  rw [ep]
  first
    | exact wpAny_bind (m := Builtin.Tuple.tupleExact _) (wpAny_newObj_type (wpAny_pure ⟨_, rfl, wpAny_pure h⟩) htake)
    | exact wpAny_bind (m := Builtin.Tuple.tupleExact _) (wpAny_newObj_type (wpAny_bind (wpAny_pure (wpAny_pure ⟨_, rfl, wpAny_pure h⟩))) htake)
    | exact wpAny_bind (wpAny_bind (m := Builtin.Tuple.tupleExact _) (wpAny_newObj_type (wpAny_pure (wpAny_pure ⟨_, rfl, wpAny_pure h⟩)) htake))
    | exact wpAny_bind (wpAny_bind (m := Builtin.Tuple.tupleExact _) (wpAny_newObj_type (wpAny_pure ⟨_, rfl, wpAny_pure h⟩) htake))
end
/-- .. of a list (the list's own way of counting) -/
def stepP {α : Type} (xs : List α) (lo hi : Option Int) (c : Int) : List α :=
  let b := sliceBounds lo hi (some c) xs.length
  (sliceRange b.1 b.2.1 b.2.2).filterMap (xs[·]?)
theorem stepP_map {α β : Type} (f : α → β) (xs : List α) (lo hi : Option Int) (c : Int) : stepP (xs.map f) lo hi c = (stepP xs lo hi c).map f := by
  unfold stepP
  rw [List.length_map]
  simp only [List.getElem?_map, List.map_filterMap]
theorem paired_get {α β : Type} {R : α → β → Prop} {xs : List α} {ys : List β} (h : Paired R xs ys) (i : Nat) : (xs[i]? = none ∧ ys[i]? = none) ∨ ∃ x y, xs[i]? = some x ∧ ys[i]? = some y ∧ R x y := by
  induction h generalizing i with
  | nil => exact .inl ⟨by simp, by simp⟩
  | cons a t ih =>
    cases i with
    | zero => exact .inr ⟨_, _, rfl, rfl, a⟩
    | succ j => simpa using ih j
theorem paired_pick {α β : Type} {R : α → β → Prop} {xs : List α} {ys : List β} (h : Paired R xs ys) : ∀ is : List Nat, Paired R (is.filterMap (xs[·]?)) (is.filterMap (ys[·]?))
  | [] => .nil
  | i :: is => by
    rw [List.filterMap_cons, List.filterMap_cons]
    rcases paired_get h i with ⟨a, b⟩ | ⟨x, y, a, b, r⟩
    · rw [a, b]; exact paired_pick h is
    · rw [a, b]; exact .cons r (paired_pick h is)
theorem stepL_pick {α : Type} (xs : List α) (lo hi : Option Int) (c : Int) : stepL xs lo hi c = ((List.range (Builtin.Slice.slicePlaces (Builtin.Slice.sliceAdjust lo hi c (xs.length : Int)).1 (Builtin.Slice.sliceAdjust lo hi c (xs.length : Int)).2 c)).map fun (m : Nat) => ((Builtin.Slice.sliceAdjust lo hi c (xs.length : Int)).1 + (m : Int) * c).toNat).filterMap (xs[·]?) := by
  unfold stepL
  rw [List.filterMap_map]
  rfl
theorem paired_stepL {α β : Type} {R : α → β → Prop} {xs : List α} {ys : List β} (h : Paired R xs ys) (lo hi : Option Int) (c : Int) : Paired R (stepL xs lo hi c) (stepL ys lo hi c) := by
  rw [stepL_pick, stepL_pick, Paired.length h]
  exact paired_pick h _
theorem paired_stepP {α β : Type} {R : α → β → Prop} {xs : List α} {ys : List β} (h : Paired R xs ys) (lo hi : Option Int) (c : Int) : Paired R (stepP xs lo hi c) (stepP ys lo hi c) := by
  unfold stepP
  rw [Paired.length h]
  exact paired_pick h _
/-- xs[lo:hi:c], c neither 0 nor 1 -/
def rStep (K : PySem.W.Frag) : V → Option Int → Option Int → Option Int → Hp → VK → Prop := fun x lo hi st H Q => ∃ c, st = some c ∧ c ≠ 0 ∧ c ≠ 1 ∧
  ((∃ a xs, x = .ref a ∧ SqT K H a xs ∧ (stepL xs lo hi c).length ≤ sizeLine ∧ ∀ p, H p = none → Q (.ref p) (upd H p (.tup (stepL xs lo hi c)))) ∨
   (∃ a xs, x = .ref a ∧ SqL K H a xs ∧ ∀ p, H p = none → Q (.ref p) (upd H p (.lst (stepP xs lo hi c)))))
def tSlS (r : V → Option Int → Option Int → Option Int → Hp → VK → Prop) (te : TE) (tl th ts : TO) : TE := fun σ H Q => te σ H fun x H1 => tl σ H1 fun l H2 => th σ H2 fun u H3 => ts σ H3 fun st H4 => r x l u st H4 Q
theorem pe_sliceS {X : Cx} {e : Expr} {lo hi : Option Expr} {e3 : Expr} {te : TE} {tl th ts : TO} {p2 pos : Pos} (he : PE X e te) (hl : PO X lo tl) (hu : PO X hi th) (hst : PO X (some e3) ts) : PE X (.Subscript e (.Slice lo hi (some e3) p2) pos) (tSlS (rStep X.K) te tl th ts) := by
  refine ⟨fun pins s σ H Q I h => ?_⟩
  refine Subscript_ (thn (he.run pins s σ H _ I h) fun v s1 ⟨x, H1, I1, r1, q1⟩ => ?_)
  refine wpAny_Slice (thn (hl.run pins s1 σ H1 _ I1 q1) fun vl s2 ⟨l, H2, I2, pl, q2⟩ => thn (hu.run pins s2 σ H2 _ I2 q2) fun vu s3 ⟨u, H3, I3, pu, q3⟩ => thn (hst.run pins s3 σ H3 _ I3 q3) fun vs s4 ⟨c0, H4, I4, ps, q4⟩ => ?_)
  have I5 : Inv X pins σ H4 { s4 with heap := s4.heap.push { cls := .type "slice", data := .fields #[vl, vu, vs] } } := I4.kept (t' := s4.toks) fun b ob q => Heap.get?_push_of_some _ q
  have hs := Heap.IsSliceOf.new s4.heap vl vu vs
  obtain ⟨c, e1, h0, h1, q⟩ := q4
  subst e1
  show wpAny (model X.prog X.w) X.A (subscriptTail e (.Slice lo hi (some e3) p2) v (.ref s4.heap.objs.size)) (EP X pins σ Q) X.xe { s4 with heap := s4.heap.push { cls := .type "slice", data := .fields #[vl, vu, vs] } }
  rcases q with ⟨a, xs, rfl, hx, hz, q⟩ | ⟨a, xs, rfl, hx, q⟩
  · cases r1
    obtain ⟨its, r, ht, hz0⟩ := I5.tuple hx
    have pr := paired_stepL r l u c
    refine tail_any (T := "tuple") (ops := [.ref a, .ref s4.heap.objs.size]) (by first | exact ht.typeIs | exact (show IsTup _ a its.toArray from ht).typeIs) PyProof.Rows.slot_tuple_getitem.lookup ?_ (by with_unfolding_all rfl)
    refine getItem_tuple_step ht hs pl pu ps h0 h1 ?_ (by rw [← Paired.length pr]; exact hz)
    exact ⟨.ref (s4.heap.push _).objs.size, _, I5.laid (t' := s4.toks) (o := .tup (stepL xs l u c)) (fun b ob q => Heap.get?_push_of_some _ q) (Nat.le_refl _) ⟨hz, _, pr, ⟨_, Heap.get?_push_size _ rfl, rfl, _, rfl⟩⟩, rfl, q _ (I5.hok.fresh (Nat.le_refl _))⟩
  · cases r1
    obtain ⟨its, r, ht, hz0⟩ := I5.list hx
    have pr := paired_stepP r l u c
    refine tail_any (T := "list") (ops := [.ref a, .ref s4.heap.objs.size]) ht.isList.typeIs slot_list_getitem.lookup ?_ (by with_unfolding_all rfl)
    have ep : slicePick its.toArray l u (some c) = (stepP its l u c).toArray := by
      unfold slicePick stepP
      simp only [List.size_toArray, List.getElem?_toArray]
    have hlen : xs.length ≤ sizeLine := hz0
    refine wpAny_getItem_list_slice ht.isList hs pl pu ps (fun z => h0 (Option.some.inj z)) ?_ (by rw [List.size_toArray, ← r.length]; exact hlen)
    have hz : (stepP xs l u c).length ≤ sizeLine := by
      rw [Paired.length pr]
      have z := slicePick_size_le its.toArray l u (some c)
      rw [ep, List.size_toArray, List.size_toArray, ← r.length] at z
      exact Nat.le_trans z hlen
    rw [ep]
    exact ⟨.ref (s4.heap.push _).objs.size, _, I5.laid (t' := s4.toks) (o := .lst (stepP xs l u c)) (fun b ob q => Heap.get?_push_of_some _ q) (Nat.le_refl _) ⟨hz, _, 0, pr, Heap.get?_push_size _ rfl⟩, rfl, q _ (I5.hok.fresh (Nat.le_refl _))⟩
section
variable {M : Hp → Hp → Prop} [g : GM M] {K : PySem.W.Frag} {E : XK} {Γ Γ1 Γ2 Γ3 Δ : List (Slot M)} {τs : List (Ty M)}
theorem ev_slsT {te : TE} {tl th ts : TO} {lo hi : Option Int} {c : Int} (h : Ev E te Γ (.val (isTs K τs)) Γ1) (hl : EvP tl Γ1 lo Γ2) (hh : EvP th Γ2 hi Γ3) (hs : EvP ts Γ3 (some c) Δ) (h0 : c ≠ 0) (h1 : c ≠ 1) (hz : (stepL τs lo hi c).length ≤ 1000000) : Ev E (tSlS (rStep K) te tl th ts) Γ (.val (isTt (stepL τs lo hi c))) Δ := fun O F H σ Q w q =>
  h O F H σ _ w fun v F1 H1 s1 w1 hv => hl O F1 H1 σ _ w1 fun F2 H2 s2 w2 => hh O F2 H2 σ _ w2 fun F3 H3 s3 w3 => hs O F3 H3 σ _ w3 fun F4 H4 s4 w4 => by
    obtain ⟨a, xs, e, hx, ht⟩ := Ty.mono _ ((s2.gw.trans s3.gw).trans s4.gw) hv
    have pr := paired_stepL ht lo hi c
    refine ⟨c, rfl, h0, h1, .inl ⟨a, xs, e, sqT_sub w4.sub hx, by rw [Paired.length pr]; exact Nat.le_trans hz (by decide), fun p hp => ?_⟩⟩
    have st := Step.new (M := M) (o := .tup (stepL xs lo hi c)) w4.sub hp
    exact q (.ref p) _ _ ((((s1.trans s2).trans s3).trans s4).trans st.x) (w4.step st) ⟨p, _, rfl, upd_same, Tys.mono st.gw pr⟩
theorem ev_tupt {ta : TA} (ha : EvA E ta Γ (.vals τs) Γ1) (hl : τs.length ≤ 1000) : Ev E (tTup ta) Γ (.val (isTt τs)) Γ1 := fun O F H σ Q w q =>
  ha O F H σ _ w fun xs F1 H1 s1 w1 hx => ⟨Nat.le_trans (by rw [hx.length]; exact hl) (by decide), fun p hp => by
    have st := Step.new (M := M) (o := .tup xs) w1.sub hp
    exact q (.ref p) _ _ (s1.trans st.x) (w1.step st) ⟨p, xs, rfl, upd_same, hx.mono st.gw⟩⟩
theorem rr_tt1 {r : R2} {υ ω : Ty M} (h : RR r (isTs K τs) υ ω) : RR r (isTt τs) υ ω := rr_le1 h le_tt
theorem ev_slTt {te : TE} {tl th : TO} {lo hi : Option Int} (h : Ev E te Γ (.val (isTt τs)) Γ1) (hl : EvP tl Γ1 lo Γ2) (hh : EvP th Γ2 hi Δ) : Ev E (tSl (rSlU K) te tl th) Γ (.val (isTt (cutL τs lo hi))) Δ := fun O F H σ Q w q => by
  exact h O F H σ _ w fun v F1 H1 s1 w1 hv => hl O F1 H1 σ _ w1 fun F2 H2 s2 w2 => hh O F2 H2 σ _ w2 fun F3 H3 s3 w3 => by
    obtain ⟨a, xs, e, hx, ht⟩ := Ty.mono _ (s2.gw.trans s3.gw) hv
    have hlen := ht.length
    refine .inr (.inl ⟨a, xs, e, sqT_sub w3.sub (Or.inl (Or.inl hx)), fun hw => ?_, fun hw p hp => ?_⟩)
    · rw [hlen] at hw
      refine q (.ref a) F3 H3 ((s1.trans s2).trans s3) w3 ⟨a, xs, rfl, hx, ?_⟩
      rw [cutL_whole hw]
      exact ht
    · have st := Step.new (M := M) (o := .tup (cutV xs lo hi)) w3.sub hp
      exact q (.ref p) _ _ (((s1.trans s2).trans s3).trans st.x) (w3.step st) ⟨p, _, rfl, upd_same, tys_cut (ht.mono st.gw)⟩
theorem ru_addTt {υs : List (Ty M)} (hl : τs.length + υs.length ≤ 1000000) : RR (rAddU K) (isTt τs) (isTt υs) (isTt (τs ++ υs)) := fun x y F H Q s ⟨a, xs, e1, h1, t1⟩ ⟨b, ys, e2, h2, t2⟩ q =>
  .inr (.inr (.inl ⟨a, b, xs, ys, e1, e2, sqT_sub s (Or.inl (Or.inl h1)), sqT_sub s (Or.inl (Or.inl h2)), by rw [t1.length, t2.length]; exact Nat.le_trans hl (by decide),
    fun z => by
      subst z
      cases t1
      exact q _ F H (Step.refl s) ⟨b, ys, rfl, h2, t2⟩,
    fun _ z => by
      subst z
      cases t2
      exact q _ F H (Step.refl s) ⟨a, xs, rfl, h1, by rw [List.append_nil]; exact t1⟩,
    fun _ _ p hp => by
      have st := Step.new (M := M) (o := .tup (xs ++ ys)) s hp
      exact q _ _ _ st ⟨p, _, rfl, upd_same, (tys_app t1 t2).mono st.gw⟩⟩))
theorem ru_addTk {υs : List (Ty M)} (h0 : τs ≠ []) (h1' : υs ≠ []) (hl : τs.length + υs.length ≤ 1000000) : RR (rAddU K) (isTs K τs) (isTt υs) (isTt (τs ++ υs)) := fun x y F H Q s ⟨a, xs, e1, h1, t1⟩ ⟨b, ys, e2, h2, t2⟩ q =>
  .inr (.inr (.inl ⟨a, b, xs, ys, e1, e2, sqT_sub s h1, sqT_sub s (Or.inl (Or.inl h2)), by rw [t1.length, t2.length]; exact Nat.le_trans hl (by decide),
    fun z => by
      subst z
      cases t1
      exact absurd rfl h0,
    fun _ z => by
      subst z
      cases t2
      exact absurd rfl h1',
    fun _ _ p hp => by
      have st := Step.new (M := M) (o := .tup (xs ++ ys)) s hp
      exact q _ _ _ st ⟨p, _, rfl, upd_same, (tys_app t1 t2).mono st.gw⟩⟩))
theorem eo_slsL {te : TE} {tl th ts : TO} {lo hi : Option Int} {c : Int} (h : Ev E te Γ (.val (isLs τs)) Γ1) (hl : EvP tl Γ1 lo Γ2) (hh : EvP th Γ2 hi Γ3) (hs : EvP ts Γ3 (some c) Δ) (h0 : c ≠ 0) (h1 : c ≠ 1) : EvO (tSlS (rStep K) te tl th ts) Γ (owL (stepP τs lo hi c)) Δ := fun O F H σ Q w q =>
  h O F H σ _ w fun v F1 H1 s1 w1 hv => hl O F1 H1 σ _ w1 fun F2 H2 s2 w2 => hh O F2 H2 σ _ w2 fun F3 H3 s3 w3 => hs O F3 H3 σ _ w3 fun F4 H4 s4 w4 => by
    obtain ⟨a, xs, e, hx, ht⟩ := Ty.mono _ ((s2.gw.trans s3.gw).trans s4.gw) hv
    have pr := paired_stepP ht lo hi c
    exact ⟨c, rfl, h0, h1, .inr ⟨a, xs, e, Or.inl (Or.inl (w4.sub a _ hx)), fun p hp => new_own w4 hp (u := owL (stepP τs lo hi c)) ⟨_, rfl, pr⟩ fun p o F5 H5 st w5 k1 k2 k3 k4 k5 => q p o F5 H5 ((((s1.trans s2).trans s3).trans s4).trans st) w5 k1 k2 k3 k4 k5⟩⟩
end
end Bc

set_option maxRecDepth 100000
set_option maxHeartbeats 2000000
/-! BcI: a small language of data, its evaluation, its meaning in the layer. -/
namespace Bc
open PySem PySem.Spec
open PyProof.Rows L2
/-- a datum, objects by their numbers -/
inductive Dt where
  | none
  | bool (b : Bool)
  | int (i : Int)
  | str (s : Str)
  | list (ds : List Dt)
  | tuple (ds : List Dt)
  /-- a tuple of the module's top -/
  | ktup (ds : List Dt)
  | obj (i : Nat)
/-- where the lent list lies, where the objects (and their tables) lie -/
structure Pa where
  p : Addr
  A : List (Addr × Addr)
mutual
def toPy : Dt → Option PyData
  | .none => some .none
  | .bool b => some (.bool b)
  | .int i => some (.int i)
  | .str s => some (.str s)
  | .list ds => match toPys ds with
    | some xs => some (.list xs)
    | none => none
  | .tuple ds => match toPys ds with
    | some xs => some (.tuple xs)
    | none => none
  | .ktup ds => match toPys ds with
    | some xs => some (.tuple xs)
    | none => none
  | .obj _ => none
def toPys : List Dt → Option (List PyData)
  | [] => some []
  | d :: ds => match toPy d, toPys ds with
    | some x, some xs => some (x :: xs)
    | _, _ => none
end
section
variable {M : Hp → Hp → Prop}
def isO (M : Hp → Hp → Prop) (π : Pa) (i : Nat) : Ty M := ⟨fun v _ => ∃ a dx, π.A[i]? = some (a, dx) ∧ v = .ref a, fun _ h => h⟩
/-! ### data whose lists are known objects -/
mutual
def isX (K : PySem.W.Frag) (π : Pa) : Dt → Ty M
  | .none => isD K .none
  | .bool b => isD K (.bool b)
  | .int i => isD K (.int i)
  | .str s => isD K (.str s)
  | .list ds => isLs (isXs K π ds)
  | .tuple ds => isTt (isXs K π ds)
  | .ktup ds => isTs K (isXs K π ds)
  | .obj i => isO M π i
def isXs (K : PySem.W.Frag) (π : Pa) : List Dt → List (Ty M)
  | [] => []
  | d :: ds => isX K π d :: isXs K π ds
end
variable {K : PySem.W.Frag} {π : Pa}
theorem isXs_map : ∀ ds : List Dt, isXs (M := M) K π ds = ds.map (isX K π)
  | [] => by simp [isXs]
  | d :: ds => by rw [isXs, isXs_map ds]; rfl
theorem isXs_length (ds : List Dt) : (isXs (M := M) K π ds).length = ds.length := by rw [isXs_map, List.length_map]
mutual
theorem le_XD : ∀ (d : Dt) (x : PyData) (v : V) (F : Hp), toPy d = some x → (isX (M := M) K π d).φ v F → Dp K F v x
  | .none, _, _, _, e, h => by rw [toPy] at e; cases e; rw [isX] at h; exact h
  | .bool _, _, _, _, e, h => by rw [toPy] at e; cases e; rw [isX] at h; exact h
  | .int _, _, _, _, e, h => by rw [toPy] at e; cases e; rw [isX] at h; exact h
  | .str _, _, _, _, e, h => by rw [toPy] at e; cases e; rw [isX] at h; exact h
  | .obj _, _, _, _, e, _ => by rw [toPy] at e; cases e
  | .list ds, _, _, F, e, h => by
    rw [toPy] at e
    split at e
    · rename_i xs hx
      cases e
      rw [isX] at h
      obtain ⟨a, vs, e, h1, t⟩ := h
      subst e
      exact .lst (Or.inl (Or.inl h1)) (les_XD ds xs vs F hx t)
    · cases e
  | .tuple ds, _, _, F, e, h => by
    rw [toPy] at e
    split at e
    · rename_i xs hx
      cases e
      rw [isX] at h
      obtain ⟨a, vs, e, h1, t⟩ := h
      subst e
      exact .tup (Or.inl (Or.inl h1)) (les_XD ds xs vs F hx t)
    · cases e
  | .ktup ds, _, _, F, e, h => by
    rw [toPy] at e
    split at e
    · rename_i xs hx
      cases e
      rw [isX] at h
      obtain ⟨a, vs, e, h1, t⟩ := h
      subst e
      exact .tup h1 (les_XD ds xs vs F hx t)
    · cases e
theorem les_XD : ∀ (ds : List Dt) (ys : List PyData) (xs : List V) (F : Hp), toPys ds = some ys → Tys F xs (isXs (M := M) K π ds) → DpAll K F xs ys
  | [], ys, xs, F, e, h => by rw [toPys] at e; cases e; rw [isXs] at h; cases h; exact .nil
  | d :: ds, ys, xs, F, e, h => by
    rw [toPys] at e
    split at e
    · rename_i y ys' h1 h2
      cases e
      rw [isXs] at h
      cases h with
      | cons a b => exact .cons (le_XD d _ _ F h1 a) (les_XD ds _ _ F h2 b)
    · cases e
end
mutual
/-- no list within -/
def noList : Dt → Bool
  | .none => true
  | .bool _ => true
  | .int _ => true
  | .str _ => true
  | .list _ => false
  | .tuple ds => noLists ds
  | .ktup ds => noLists ds
  | .obj _ => true
def noLists : List Dt → Bool
  | [] => true
  | d :: ds => noList d && noLists ds
end
mutual
/-- list-free data do not look at lists -/
theorem X_loose : ∀ (d : Dt) (v : V) (F F2 : Hp), noList d = true → (∀ a xs, F a = some (.tup xs) → F2 a = some (.tup xs)) → (∀ a xs, SqT K F a xs → SqT K F2 a xs) → (isX (M := M) K π d).φ v F → (isX (M := M) K π d).φ v F2
  | .none, v, F, F2, _, _, _, h => by rw [isX] at h ⊢; cases (show Dp K F v .none from h); exact Dp.non
  | .bool b, v, F, F2, _, _, _, h => by rw [isX] at h ⊢; cases (show Dp K F v (.bool b) from h); exact Dp.bl b
  | .int i, v, F, F2, _, _, _, h => by rw [isX] at h ⊢; cases (show Dp K F v (.int i) from h); exact Dp.int i
  | .str i, v, F, F2, _, _, _, h => by rw [isX] at h ⊢; cases (show Dp K F v (.str i) from h); exact Dp.str i
  | .obj _, _, _, _, _, _, _, h => by rw [isX] at h ⊢; exact h
  | .list _, _, _, _, n, _, _, _ => by simp [noList] at n
  | .tuple ds, v, F, F2, n, l0, l, h => by
    rw [isX] at h ⊢
    obtain ⟨a, xs, e, h1, t⟩ := h
    exact ⟨a, xs, e, l0 a xs h1, Xs_loose ds xs F F2 (by simpa [noList] using n) l0 l t⟩
  | .ktup ds, v, F, F2, n, l0, l, h => by
    rw [isX] at h ⊢
    obtain ⟨a, xs, e, h1, t⟩ := h
    exact ⟨a, xs, e, l a xs h1, Xs_loose ds xs F F2 (by simpa [noList] using n) l0 l t⟩
theorem Xs_loose : ∀ (ds : List Dt) (xs : List V) (F F2 : Hp), noLists ds = true → (∀ a xs, F a = some (.tup xs) → F2 a = some (.tup xs)) → (∀ a xs, SqT K F a xs → SqT K F2 a xs) → Tys F xs (isXs (M := M) K π ds) → Tys F2 xs (isXs (M := M) K π ds)
  | [], _, _, _, _, _, _, h => by rw [isXs] at h ⊢; cases h; exact .nil
  | d :: ds, _, F, F2, n, l0, l, h => by
    rw [isXs] at h ⊢
    have n2 : noList d = true ∧ noLists ds = true := by simpa [noLists] using n
    cases h with
    | cons a b => exact .cons (X_loose d _ F F2 n2.1 l0 l a) (Xs_loose ds _ F F2 n2.2 l0 l b)
end
/-- the places of objects grow -/
def PaLe (π π' : Pa) : Prop := π.A <+: π'.A
mutual
theorem X_grow {π π' : Pa} (e : PaLe π π') : ∀ (d : Dt) (v : V) (F : Hp), (isX (M := M) K π d).φ v F → (isX (M := M) K π' d).φ v F
  | .none, _, _, h => by rw [isX] at h ⊢; exact h
  | .bool _, _, _, h => by rw [isX] at h ⊢; exact h
  | .int _, _, _, h => by rw [isX] at h ⊢; exact h
  | .str _, _, _, h => by rw [isX] at h ⊢; exact h
  | .obj i, _, _, h => by
    rw [isX] at h ⊢
    obtain ⟨a, dx, h1, h2⟩ := h
    refine ⟨a, dx, ?_, h2⟩
    obtain ⟨t, ht⟩ := e
    rw [← ht, List.getElem?_append_left (List.getElem?_eq_some_iff.mp h1).1]
    exact h1
  | .list ds, v, F, h => by
    rw [isX] at h ⊢
    obtain ⟨a, xs, e1, h1, t⟩ := h
    exact ⟨a, xs, e1, h1, Xs_grow e ds xs F t⟩
  | .tuple ds, v, F, h => by
    rw [isX] at h ⊢
    obtain ⟨a, xs, e1, h1, t⟩ := h
    exact ⟨a, xs, e1, h1, Xs_grow e ds xs F t⟩
  | .ktup ds, v, F, h => by
    rw [isX] at h ⊢
    obtain ⟨a, xs, e1, h1, t⟩ := h
    exact ⟨a, xs, e1, h1, Xs_grow e ds xs F t⟩
theorem Xs_grow {π π' : Pa} (e : PaLe π π') : ∀ (ds : List Dt) (xs : List V) (F : Hp), Tys F xs (isXs (M := M) K π ds) → Tys F xs (isXs (M := M) K π' ds)
  | [], _, _, h => by rw [isXs] at h ⊢; cases h; exact .nil
  | d :: ds, _, F, h => by
    rw [isXs] at h ⊢
    cases h with
    | cons a b => exact .cons (X_grow e d _ F a) (Xs_grow e ds _ F b)
end
end

/-! ### operators, built-ins, promises as functions -/
/-- a new list is handed out -/
def RRo (M : Hp → Hp → Prop) (K : PySem.W.Frag) (π : Pa) (r : R2) (τ υ : Ty M) (ds : List Dt) : Prop := ∀ x y F H (Q : VK), Sub F H → τ.φ x F → υ.φ y F → (∀ p vs, H p = none → Tys F vs (isXs (M := M) K π ds) → Q (.ref p) (upd H p (.lst vs))) → r x y H Q
structure O2 (M : Hp → Hp → Prop) (K : PySem.W.Frag) where
  r : R2
  f : Dt → Dt → Option Dt
  h : ∀ (π : Pa) a b c, f a b = some c → RR (M := M) r (isX K π a) (isX K π b) (isX K π c)
  o : ∀ (π : Pa) a b ds, f a b = some (.list ds) → RRo M K π r (isX K π a) (isX K π b) ds
structure OU (M : Hp → Hp → Prop) (K : PySem.W.Frag) where
  r : V → Hp → VK → Prop
  f : Dt → Option Dt
  h : ∀ (π : Pa) a c, f a = some c → RU (M := M) r (isX K π a) (isX K π c)
structure ON (M : Hp → Hp → Prop) (K : PySem.W.Frag) where
  r : List V → Hp → VK → Prop
  f : List Dt → Option Dt
  h : ∀ (π : Pa) as c, f as = some c → RN (M := M) r (isXs K π as) (isX K π c)
inductive Rd where
  | ok (d : Dt)
  | exc (C : Value)
def reOf (M : Hp → Hp → Prop) (K : PySem.W.Frag) (π : Pa) : Rd → Re M
  | .ok d => .val (isX K π d)
  | .exc C => .exc C
/-- the promise of a def by a function -/
def SX (M : Hp → Hp → Prop) (K : PySem.W.Frag) (s : List Dt → Option Rd) : List (Ty M) → Re M → Prop := fun τs r => ∃ (π : Pa) (as : List Dt) (rd : Rd), s as = some rd ∧ τs = isXs K π as ∧ r = reOf M K π rd
def StepL (M : Hp → Hp → Prop) (p : Addr) (F H F2 H2 : Hp) : Prop := Sub F2 H2 ∧ StepX M (fun a => a = p) F H F2 H2
/-- .. of a def that changes the list that is its first argument -/
def spL (M : Hp → Hp → Prop) (K : PySem.W.Frag) (s : List Dt → List Dt → Option (Dt × List Dt)) : Sp := fun vs H Q _ => ∃ (π : Pa) (p : Addr) (ws os : List V) (own as : List Dt) (d : Dt) (own' : List Dt) (F : Hp),
  vs = .ref p :: ws ∧ s own as = some (d, own') ∧ Sub F H ∧ F p = none ∧ H p = some (.lst os) ∧ Tys F os (isXs (M := M) K π own) ∧ Tys F ws (isXs (M := M) K π as) ∧
  ∀ v F2 H2 os', StepL M p F H F2 H2 → F2 p = none → H2 p = some (.lst os') → Tys F2 os' (isXs (M := M) K π own') → (isX (M := M) K π d).φ v F2 → Q v H2
def spD (M : Hp → Hp → Prop) (K : PySem.W.Frag) (s : List Dt → Option Rd) : Sp := spOf (SX M K s)

/-! ### the slots -/
inductive Sv where
  | no
  | val (d : Dt)
  | own (q : Bool) (ds : List Dt)
/-- where a list that was lent lies -/
def pinOf (π : Pa) : Bool → Option Addr
  | true => some π.p
  | false => none
def slotOf (M : Hp → Hp → Prop) (K : PySem.W.Frag) (π : Pa) : Sv → Slot M
  | .no => .any
  | .val d => .ty (isX K π d)
  | .own q ds => .own (owQ (pinOf π q) (isXs K π ds))
abbrev Vs := List Sv
def ofE (M : Hp → Hp → Prop) (K : PySem.W.Frag) (π : Pa) (e : Vs) : List (Slot M) := e.map (slotOf M K π)
def borS : Sv → Sv
  | .own _ ds => .val (.list ds)
  | s => s
def hushV : Sv → Sv
  | .own _ _ => .no
  | s => s
def wipeV (e : Vs) : List Nat → Vs
  | [] => e
  | v :: vs => (wipeV e vs).set v .no

/-! ### targets -/
inductive Tg where
  | name (i : Nat)
  | tup (is : List Nat)
  /-- out of a list -/
  | unl (is : List Nat)
def gsOf : List Nat → TGs
  | [] => gNil
  | i :: is => gCons (gName i) (gsOf is)
def denG (K : PySem.W.Frag) : Tg → TG
  | .name i => gName i
  | .tup is => gTup K is.length (gsOf is)
  | .unl is => gUnl K is.length (gsOf is)
def Tg.ids : Tg → List Nat
  | .name i => [i]
  | .tup is => is
  | .unl is => is
def setAll : Vs → List Nat → List Dt → Vs
  | e, i :: is, d :: ds => setAll (e.set i (.val d)) is ds
  | e, _, _ => e
def asgT (e : Vs) (d : Dt) : Tg → Option Vs
  | .name i => some (e.set i (.val d))
  | .tup is => match d with
    | .tuple ds => if ds.length = is.length then some (setAll e is ds) else none
    | _ => none
  | .unl is => match d with
    | .list ds => if ds.length = is.length then some (setAll e is ds) else none
    | _ => none

/-! ### expressions -/
inductive Ex (M : Hp → Hp → Prop) (K : PySem.W.Frag) where
  | var (i : Nat)
  | int (i : Int)
  | str (s : Str)
  | bl (b : Bool)
  | non
  | glo (v : V) (d : Dt) (h : ∀ (π : Pa) F, (isX (M := M) K π d).φ v F)
  | op (o : O2 M K) (a b : Ex M K)
  | chain (o o' : O2 M K) (a b c : Ex M K)
  | un (o : OU M K) (a : Ex M K)
  | fn (o : ON M K) (a : Ex M K)
  | isi (a : Ex M K) (T : String)
  | lsOf (a : Ex M K)
  | call (s : List Dt → Option Rd) (a : Ex M K)
  | lend (s : List Dt → List Dt → Option (Dt × List Dt)) (i : Nat) (a : Ex M K)
  | tup (a : Ex M K)
  | lst (a : Ex M K)
  | nil
  | cons (e r : Ex M K)
  | ifx (t a b : Ex M K)
  | andV (a b : Ex M K)
  | orV (a b : Ex M K)
  | notV (a : Ex M K)
  | bor (e : Ex M K)
  | sl (a lo hi : Ex M K)
  | sls (a lo hi st : Ex M K)
  | nob
  | part (x : Ex M K)
  | lc (it : Ex M K) (tg : Tg) (tt : Ex M K) (e : Ex M K)
  | yes
  | tst (e : Ex M K)
  | tb (e : Ex M K)
  | tand (t u : Ex M K)
  | tor (t u : Ex M K)
  | tnot (t : Ex M K)
  | tbor (t : Ex M K)
  | iseq (e : Ex M K)
  | ienum (e : Ex M K)
  | irng (e : Ex M K)
  /-- not spoken of -/
  | bad
structure Dn where
  e : TE
  a : TA
  t : TT
  o : TO
  i : TI
def dn0 : Dn := ⟨tC .non, tNil, tYes, tNoPart, fun _ _ _ => False⟩
def den {M : Hp → Hp → Prop} {K : PySem.W.Frag} (E : XK) : Ex M K → Dn
  | .var i => { dn0 with e := tVar i }
  | .int i => { dn0 with e := tC (.int i) }
  | .str s => { dn0 with e := tC (.str s) }
  | .bl b => { dn0 with e := tC (.bl b) }
  | .non => { dn0 with e := tC .non }
  | .glo v _ _ => { dn0 with e := tC v }
  | .op o a b => { dn0 with e := tOp o.r (den E a).e (den E b).e }
  | .chain o o' a b c => { dn0 with e := tChain o.r o'.r (den E a).e (den E b).e (den E c).e }
  | .un o a => { dn0 with e := tUn o.r (den E a).e }
  | .fn o a => { dn0 with e := tCB o.r (den E a).a }
  | .isi a T => { dn0 with e := tCB (rIsi K) (tCons (den E a).e (tCons (tC (.ty T)) tNil)) }
  | .lsOf a => { dn0 with e := tCB (fun xs H Q => ∃ p ys, xs = [.ref p] ∧ (SqL K H p ys ∨ SqT K H p ys) ∧ ∀ l, H l = none → Q (.ref l) (upd H l (.lst ys))) (tCons (den E a).e tNil) }
  | .call s a => { dn0 with e := tCall (spD M K s) [] E (den E a).a }
  | .lend s i a => { dn0 with e := tCall (spL M K s) [] E (tCons (tVar i) (den E a).a) }
  | .tup a => { dn0 with e := tTup (den E a).a }
  | .lst a => { dn0 with e := tLst (den E a).a }
  | .nil => { dn0 with a := tNil }
  | .cons e r => { dn0 with a := tCons (den E e).e (den E r).a }
  | .ifx t a b => { dn0 with e := tIf (den E t).t (den E a).e (den E b).e }
  | .andV a b => { dn0 with e := tAndV (den E a).e (den E b).e }
  | .orV a b => { dn0 with e := tOrV (den E a).e (den E b).e }
  | .notV a => { dn0 with e := tNotV (den E a).e }
  | .bor e => { dn0 with e := (den E e).e, o := tPart (den E e).e }
  | .sl a lo hi => { dn0 with e := tSl (rSlU K) (den E a).e (den E lo).o (den E hi).o }
  | .sls a lo hi st => { dn0 with e := tSlS (rStep K) (den E a).e (den E lo).o (den E hi).o (den E st).o }
  | .nob => { dn0 with o := tNoPart }
  | .part x => { dn0 with o := tPart (den E x).e }
  | .lc it tg tt e => { dn0 with e := tLc (den E it).i (denG K tg) (den E0 tt).t (den E0 e).e tg.ids }
  | .yes => { dn0 with t := tYes }
  | .tst e => { dn0 with t := tTest (den E e).e }
  | .tb e => { dn0 with t := tB (den E e).e }
  | .tand t u => { dn0 with t := tAnd (den E t).t (den E u).t }
  | .tor t u => { dn0 with t := tOr (den E t).t (den E u).t }
  | .tnot t => { dn0 with t := tNot (den E t).t }
  | .tbor t => { dn0 with t := (den E t).t }
  | .iseq e => { dn0 with i := iSeq K (den E e).e }
  | .ienum e => { dn0 with i := iEnumU K (tCons (den E e).e tNil) }
  | .irng e => { dn0 with i := iRng1 (tCons (den E e).e tNil) }
  | .bad => ⟨fun _ _ _ => False, fun _ _ _ => False, fun _ _ _ => False, fun _ _ _ => False, fun _ _ _ => False⟩
section
variable {X : Cx}
theorem pe_bad {e : Expr} : PE X e (fun _ _ _ => False) := ⟨fun _ _ _ _ _ _ h => h.elim⟩
theorem pt_bad {e : Expr} : PT X e (fun _ _ _ => False) := ⟨fun _ _ _ _ _ _ h => h.elim⟩
theorem pi_bad {t e : Expr} : PI X t e (fun _ _ _ => False) := ⟨fun _ _ _ _ _ _ h => h.elim⟩
theorem ps_bad {s : Stmt} : PS X s (fun _ _ _ => False) := ⟨fun _ _ _ _ _ _ h => h.elim⟩
end
def boolOf : Dt → Option Bool
  | .bool b => some b
  | _ => none
def enumOf : Nat → List Dt → List Dt
  | _, [] => []
  | n, d :: ds => .tuple [.int (n : Int), d] :: enumOf (n + 1) ds
/-- a list's items, each by f, left out where f says so -/
def lcAll (f : Dt → Option (Option Dt)) : List Dt → Option (List Dt)
  | [] => some []
  | d :: ds => match f d, lcAll f ds with
    | some none, some rs => some rs
    | some (some r), some rs => some (r :: rs)
    | _, _ => none
def fresh {M : Hp → Hp → Prop} {K : PySem.W.Frag} : Ex M K → Bool
  | .lst _ => true
  | .lc _ _ _ _ => true
  | .op _ _ _ => true
  | .lsOf _ => true
  | .sl _ _ _ => true
  | .sls _ _ _ _ => true
  | .bor x => fresh x
  | _ => false
mutual
def ev {M : Hp → Hp → Prop} {K : PySem.W.Frag} (e : Vs) : Ex M K → Option (Rd × Vs)
  | .var i => match e[i]? with
    | some (.val d) => some (.ok d, e)
    | _ => none
  | .int i => some (.ok (.int i), e)
  | .str s => some (.ok (.str s), e)
  | .bl b => some (.ok (.bool b), e)
  | .non => some (.ok .none, e)
  | .glo _ d _ => some (.ok d, e)
  | .op o a b => match ev e a with
    | some (.ok x, e1) => match ev e1 b with
      | some (.ok y, e2) => (o.f x y).map fun z => (.ok z, e2)
      | _ => none
    | _ => none
  | .chain o o' a b c => match ev e a with
    | some (.ok x, e1) => match ev e1 b with
      | some (.ok y, e2) => match o.f x y with
        | some (.bool true) => match ev e2 c with
          | some (.ok z, e3) => (o'.f y z).map fun z => (.ok z, e3)
          | _ => none
        | some (.bool false) => some (.ok (.bool false), e2)
        | _ => none
      | _ => none
    | _ => none
  | .un o a => match ev e a with
    | some (.ok x, e1) => (o.f x).map fun z => (.ok z, e1)
    | _ => none
  | .fn o a => match evA e a with
    | some (.inl xs, e1) => (o.f xs).map fun z => (.ok z, e1)
    | _ => none
  | .isi a T => match ev e a with
    | some (.ok x, e1) => match toPy x with
      | some y => (kitB (tyName y) T).map fun b => (.ok (.bool b), e1)
      | none => none
    | _ => none
  | .lsOf a => match ev e a with
    | some (.ok (.list ds), e1) => some (.ok (.list ds), e1)
    | some (.ok (.tuple ds), e1) => some (.ok (.list ds), e1)
    | _ => none
  | .call s a => match evA e a with
    | some (.inl xs, e1) => (s xs).map fun r => (r, e1)
    | some (.inr C, e1) => some (.exc C, e1)
    | _ => none
  | .lend s i a => match evA e a with
    | some (.inl xs, e1) => match e[i]?, e1[i]? with
      | some (.own _ _), some (.own q ds) => match s ds xs with
        | some (r, ds') => some (.ok r, e1.set i (.own q ds'))
        | none => none
      | _, _ => none
    | _ => none
  | .tup a => match evA e a with
    | some (.inl xs, e1) => if xs.length ≤ 1000 then some (.ok (.tuple xs), e1) else none
    | some (.inr C, e1) => some (.exc C, e1)
    | _ => none
  | .lst a => match evA e a with
    | some (.inl xs, e1) => if xs.length ≤ 1000 then some (.ok (.list xs), e1) else none
    | _ => none
  | .ifx t a b => match evT e t with
    | some (true, e1) => ev e1 a
    | some (false, e1) => ev e1 b
    | none => none
  | .andV a b => match ev e a with
    | some (.ok (.bool true), e1) => match ev e1 b with
      | some (.ok (.bool c), e2) => some (.ok (.bool c), e2)
      | _ => none
    | some (.ok (.bool false), e1) => some (.ok (.bool false), e1)
    | _ => none
  | .orV a b => match ev e a with
    | some (.ok (.bool false), e1) => match ev e1 b with
      | some (.ok (.bool c), e2) => some (.ok (.bool c), e2)
      | _ => none
    | some (.ok (.bool true), e1) => some (.ok (.bool true), e1)
    | _ => none
  | .notV a => match ev e a with
    | some (.ok (.bool c), e1) => some (.ok (.bool (!c)), e1)
    | _ => none
  | .bor x => match ev (e.map borS) x with
    | some (.ok d, _) => if noList d then some (.ok d, e) else match d with
      | .list ds => if (fresh x && noLists ds) then some (.ok (.list ds), e) else none
      | _ => none
    | _ => none
  | .sl a lo hi => match ev e a with
    | some (.ok x, e1) => match evP e1 lo with
      | some (l, e2) => match evP e2 hi with
        | some (h, e3) => match x with
          | .tuple ds => some (.ok (.tuple (cutL ds l h)), e3)
          | .list ds => some (.ok (.list (cutL ds l h)), e3)
          | .str z => if z.length ≤ 1000000 then some (.ok (.str (cutS z l h)), e3) else none
          | _ => none
        | none => none
      | none => none
    | _ => none
  | .sls a lo hi st => match ev e a with
    | some (.ok x, e1) => match evP e1 lo with
      | some (l, e2) => match evP e2 hi with
        | some (h, e3) => match evP e3 st with
          | some (some c, e4) => if c ≠ 0 ∧ c ≠ 1 then match x with
            | .tuple ds => if (stepL ds l h c).length ≤ 1000000 then some (.ok (.tuple (stepL ds l h c)), e4) else none
            | .list ds => some (.ok (.list (stepP ds l h c)), e4)
            | _ => none
            else none
          | _ => none
        | none => none
      | none => none
    | _ => none
  | .lc it tg tt x => match evI e it with
    | some (ds, e0) => if ds.length ≤ 100000 then
        (lcAll (fun d => match asgT (wipeV (e0.map hushV) tg.ids) d tg with
          | some e1 => match evT e1 tt with
            | some (true, _) => match ev e1 x with
              | some (.ok r, _) => some (some r)
              | _ => none
            | some (false, _) => some none
            | none => none
          | none => none) ds).map fun rs => (.ok (.list rs), e0)
      else none
    | none => none
  | _ => none
def evA {M : Hp → Hp → Prop} {K : PySem.W.Frag} (e : Vs) : Ex M K → Option ((List Dt ⊕ Value) × Vs)
  | .nil => some (.inl [], e)
  | .cons a r => match ev e a with
    | some (.ok x, e1) => match evA e1 r with
      | some (.inl xs, e2) => some (.inl (x :: xs), e2)
      | some (.inr C, e2) => some (.inr C, e2)
      | none => none
    | some (.exc C, e1) => some (.inr C, e1)
    | none => none
  | _ => none
def evT {M : Hp → Hp → Prop} {K : PySem.W.Frag} (e : Vs) : Ex M K → Option (Bool × Vs)
  | .yes => some (true, e)
  | .tst x => match ev e x with
    | some (.ok (.bool b), e1) => some (b, e1)
    | _ => none
  | .tb x => match ev e x with
    | some (.ok (.bool b), e1) => some (b, e1)
    | _ => none
  | .tand t u => match evT e t with
    | some (true, e1) => evT e1 u
    | some (false, e1) => some (false, e1)
    | none => none
  | .tor t u => match evT e t with
    | some (false, e1) => evT e1 u
    | some (true, e1) => some (true, e1)
    | none => none
  | .tnot t => match evT e t with
    | some (b, e1) => some (!b, e1)
    | none => none
  | .tbor t => match evT (e.map borS) t with
    | some (b, _) => some (b, e)
    | none => none
  | _ => none
def evP {M : Hp → Hp → Prop} {K : PySem.W.Frag} (e : Vs) : Ex M K → Option (Option Int × Vs)
  | .nob => some (none, e)
  | .part x => match ev e x with
    | some (.ok (.int i), e1) => some (some i, e1)
    | _ => none
  | _ => none
def evI {M : Hp → Hp → Prop} {K : PySem.W.Frag} (e : Vs) : Ex M K → Option (List Dt × Vs)
  | .iseq x => match ev e x with
    | some (.ok (.list ds), e1) => some (ds, e1)
    | some (.ok (.tuple ds), e1) => some (ds, e1)
    | _ => none
  | .ienum x => match ev e x with
    | some (.ok (.list ds), e1) => some (enumOf 0 ds, e1)
    | some (.ok (.tuple ds), e1) => some (enumOf 0 ds, e1)
    | _ => none
  | .irng x => match ev e x with
    | some (.ok (.int n), e1) => if -(2 ^ 62) ≤ n ∧ n < 2 ^ 62 then some ((List.range n.toNat).map fun (i : Nat) => .int (i : Int), e1) else none
    | _ => none
  | _ => none
end
end Bc

set_option maxRecDepth 100000
set_option maxHeartbeats 2000000
/-! BcJ: the evaluation's word holds: the parts. -/
namespace Bc
open PySem PySem.Spec
open PyProof.Rows L2
/-- relations of instances that bear lists that are lent for a while -/
class GB (M : Hp → Hp → Prop) extends GM M where
  ext : ∀ {F F' : Hp}, Sub F F' → M F F'
  cut : ∀ {F F' F2' F2 : Hp}, Sub F F' → M F' F2' → Sub F2 F2' → (∀ a, F2 a = none → F2' a = none ∨ (F a = none ∧ ∃ xs, F' a = some (.lst xs) ∧ F2' a = some (.lst xs))) → M F F2
variable {M : Hp → Hp → Prop} [g : GB M]
section
variable {K : PySem.W.Frag} {π : Pa} {E : XK} {O : Addr → Prop} {F H F2 H2 : Hp} {σ : L2.St} {Γ Γ1 Γ2 Δ : List (Slot M)} {e e' : Vs}
theorem ofE_at {i : Nat} {s : Slot M} (h : (ofE M K π e)[i]? = some s) : ∃ x, e[i]? = some x ∧ s = slotOf M K π x := by
  unfold ofE at h
  rw [List.getElem?_map] at h
  cases q : e[i]? with
  | none => rw [q] at h; cases h
  | some x => rw [q] at h; injection h with h; exact ⟨x, rfl, h.symm⟩
theorem ofE_get {i : Nat} {x : Sv} (h : e[i]? = some x) : (ofE M K π e)[i]? = some (slotOf M K π x) := by
  unfold ofE
  rw [List.getElem?_map, h]
  rfl
theorem ofE_set {i : Nat} {x : Sv} : ofE M K π (e.set i x) = (ofE M K π e).set i (slotOf M K π x) := by
  unfold ofE
  rw [List.map_set]
theorem ofE_own {p : Addr} (h : OwnAt σ (ofE M K π e) p) : ∃ (i : Nat) (q : Bool) (ds : List Dt), e[i]? = some (.own q ds) ∧ σ[i]? = some (some (.ref p)) := by
  obtain ⟨i, u, h1, h2⟩ := h
  obtain ⟨x, e1, e2⟩ := ofE_at h1
  cases x with
  | own q ds => exact ⟨i, q, ds, e1, h2⟩
  | no => cases e2
  | val d => cases e2
theorem ofE_ownAt {p : Addr} {i : Nat} {q : Bool} {ds : List Dt} (h1 : e[i]? = some (.own q ds)) (h2 : σ[i]? = some (some (.ref p))) : OwnAt σ (ofE M K π e) p := ⟨i, _, ofE_get h1, h2⟩
/-! ### lists of one's own are lent to a reading -/
open Classical in
noncomputable def borF (M : Hp → Hp → Prop) (K : PySem.W.Frag) (π : Pa) (e : Vs) (σ : L2.St) (F H : Hp) : Hp := fun a => if OwnAt σ (ofE M K π e) a then H a else F a
open Classical in
noncomputable def bacF (M : Hp → Hp → Prop) (K : PySem.W.Frag) (π : Pa) (e : Vs) (σ : L2.St) (F : Hp) : Hp := fun a => if OwnAt σ (ofE M K π e) a then none else F a
theorem own_is (w : Wd O F H σ (ofE M K π e)) {p : Addr} (h : OwnAt σ (ofE M K π e) p) : F p = none ∧ ∃ (xs : List V) (ds : List Dt) (i : Nat) (q : Bool), H p = some (.lst xs) ∧ e[i]? = some (.own q ds) ∧ σ[i]? = some (some (.ref p)) ∧ Tys F xs (isXs (M := M) K π ds) := by
  obtain ⟨i, qq, ds, h1, h2⟩ := ofE_own h
  obtain ⟨q, o, a1, a2, a3, _, xs, a4, a5⟩ := w.sl.own (ofE_get h1)
  rw [h2] at a1
  injection a1 with a1; injection a1 with a1; injection a1 with a1
  subst a1 a4
  exact ⟨a2, xs, ds, i, qq, a3, h1, h2, a5⟩
theorem bor_gw (w : Wd O F H σ (ofE M K π e)) : Sub F (borF M K π e σ F H) ∧ Gw M F (borF M K π e σ F H) := by
  have s : Sub F (borF M K π e σ F H) := fun a o h => by
    unfold borF
    split
    · rename_i ho
      rw [(own_is w ho).1] at h
      cases h
    · exact h
  refine ⟨s, fun a o h _ => s a o h, fun a h => ?_, g.ext s⟩
  unfold borF at h
  split at h
  · rename_i ho; exact (own_is w ho).1
  · exact h
theorem bor_wd (w : Wd O F H σ (ofE M K π e)) : Wd O (borF M K π e σ F H) H σ (ofE M K π (e.map borS)) := by
  have gw := (bor_gw w).2
  have noown : ∀ (i : Nat) (u : Ow M), (ofE M K π (e.map borS))[i]? ≠ some (.own u) := fun i u h => by
    obtain ⟨x, e1, e2⟩ := ofE_at h
    rw [List.getElem?_map] at e1
    cases q : e[i]? with
    | none => rw [q] at e1; cases e1
    | some y =>
      rw [q] at e1
      injection e1 with e1
      subst e1
      cases y <;> cases e2
  refine ⟨fun a o h => ?_, ⟨?_, fun i s h => ?_, fun i j u u' p h => absurd h (noown i u)⟩, fun p ⟨i, u, h, _⟩ => absurd h (noown i u), w.fresh⟩
  · unfold borF at h
    split at h
    · exact h
    · exact w.sub a o h
  · unfold ofE
    rw [List.length_map, List.length_map]
    have := w.sl.len
    unfold ofE at this
    rw [List.length_map] at this
    exact this
  · obtain ⟨x, e1, e2⟩ := ofE_at h
    rw [List.getElem?_map] at e1
    cases q : e[i]? with
    | none => rw [q] at e1; cases e1
    | some y =>
      rw [q] at e1
      injection e1 with e1
      subst e1 e2
      obtain ⟨z, f1, f2⟩ := w.sl.at_ i _ (ofE_get q)
      refine ⟨z, f1, ?_⟩
      cases y with
      | no => trivial
      | val d => obtain ⟨v, a1, a2⟩ := f2; exact ⟨v, a1, Ty.mono _ gw a2⟩
      | own q ds =>
        obtain ⟨p, o, a1, a2, a3, _, xs, a4, a5⟩ := f2
        subst a1 a4
        refine ⟨.ref p, rfl, ?_⟩
        show (isX (M := M) K π (.list ds)).φ _ _
        rw [isX]
        refine ⟨p, xs, rfl, ?_, a5.mono gw⟩
        unfold borF
        rw [if_pos (ofE_ownAt q f1)]
        exact a3
section
variable {F2' : Hp}
theorem bac_sub : Sub (bacF M K π e σ F2) F2 := fun a o h => by
  unfold bacF at h
  split at h
  · cases h
  · exact h
theorem bac_lst (w : Wd O F H σ (ofE M K π e)) (st : StepX M O (borF M K π e σ F H) H F2 H2) {p : Addr} (h : OwnAt σ (ofE M K π e) p) : ∃ xs, H p = some (.lst xs) ∧ F2 p = some (.lst xs) := by
  obtain ⟨_, xs, _, _, _, h1, _⟩ := own_is w h
  refine ⟨xs, h1, st.gw.keep p _ ?_ trivial⟩
  unfold borF
  rw [if_pos h]
  exact h1
theorem bac_step (w : Wd O F H σ (ofE M K π e)) (st : StepX M O (borF M K π e σ F H) H F2 H2) : StepX M O F H (bacF M K π e σ F2) H2 := by
  have b := bor_gw w
  refine ⟨⟨fun a o h k => ?_, fun a h => ?_, ?_⟩, st.dom, fun a o n h1 h2 => ?_⟩
  · have z := st.gw.keep a o (b.1 a o h) k
    unfold bacF
    split
    · rename_i ho
      rw [(own_is w ho).1] at h
      cases h
    · exact z
  · unfold bacF at h
    split at h
    · rename_i ho; exact (own_is w ho).1
    · exact b.2.dom a (st.gw.dom a h)
  · refine g.cut b.1 st.gw.m bac_sub fun a h => ?_
    unfold bacF at h
    split at h
    · rename_i ho
      obtain ⟨xs, h1, h2⟩ := bac_lst w st ho
      refine .inr ⟨(own_is w ho).1, xs, ?_, h2⟩
      unfold borF
      rw [if_pos ho]
      exact h1
    · exact .inl h
  · have no : ¬ OwnAt σ (ofE M K π e) a := fun z => n (w.own a z)
    have f : borF M K π e σ F H a = none := by
      unfold borF
      rw [if_neg no]
      exact h1
    obtain ⟨z1, z2⟩ := st.fr a o n f h2
    refine ⟨?_, z2⟩
    unfold bacF
    rw [if_neg no]
    exact z1
theorem bac_wd (w : Wd O F H σ (ofE M K π e)) (st : StepX M O (borF M K π e σ F H) H F2 H2) (hs : Sub F2 H2) (hf : ∀ p, H2 p = none → O p) : Wd O (bacF M K π e σ F2) H2 σ (ofE M K π e) := by
  have st2 := bac_step w st
  refine ⟨fun a o h => hs a o (bac_sub a o h), ⟨w.sl.len, fun i s h => ?_, w.sl.one⟩, w.own, hf⟩
  obtain ⟨x, e1, e2⟩ := w.sl.at_ i s h
  refine ⟨x, e1, ?_⟩
  obtain ⟨y, f1, f2⟩ := ofE_at h
  subst f2
  cases y with
  | no => trivial
  | val d => obtain ⟨v, a1, a2⟩ := e2; exact ⟨v, a1, Ty.mono _ st2.gw a2⟩
  | own q ds =>
    obtain ⟨p, o, a1, a2, a3, a0, xs, a4, a5⟩ := e2
    subst a1 a4
    have ho := ofE_ownAt (M := M) (K := K) (π := π) f1 e1
    obtain ⟨ys, h1, h2⟩ := bac_lst w st ho
    rw [a3] at h1
    cases h1
    refine ⟨p, _, rfl, ?_, hs p _ h2, a0, xs, rfl, a5.mono st2.gw⟩
    unfold bacF
    rw [if_pos ho]
theorem bac_tup (w : Wd O F H σ (ofE M K π e)) (st : StepX M O (borF M K π e σ F H) H F2 H2) (a : Addr) (xs : List V) (h : F2 a = some (.tup xs)) : bacF M K π e σ F2 a = some (.tup xs) := by
  unfold bacF
  split
  · rename_i hw
    obtain ⟨ys, _, h2⟩ := bac_lst w st hw
    rw [h] at h2
    cases h2
  · exact h
theorem bac_sqT (w : Wd O F H σ (ofE M K π e)) (st : StepX M O (borF M K π e σ F H) H F2 H2) (a : Addr) (xs : List V) (h : SqT K F2 a xs) : SqT K (bacF M K π e σ F2) a xs := by
  have k : ∀ o : HO, F2 a = some o → (∀ ys, o ≠ .lst ys) → bacF M K π e σ F2 a = some o := fun o ho hn => by
    unfold bacF
    split
    · rename_i hw
      obtain ⟨ys, _, h2⟩ := bac_lst w st hw
      rw [ho] at h2
      injection h2 with h2
      exact absurd h2 (hn ys)
    · exact ho
  rcases h with (h | ⟨o, h⟩) | h
  · exact Or.inl (Or.inl (k _ h fun ys z => by cases z))
  · exact Or.inl (Or.inr ⟨o, k _ h fun ys z => by cases z⟩)
  · exact Or.inr h
end
theorem ev_bor {t : TE} {d : Dt} {Δ : List (Slot M)} (h : Ev E t (ofE M K π (e.map borS)) (.val (isX K π d)) Δ) (n : noList d = true) : Ev E t (ofE M K π e) (.val (isX K π d)) (ofE M K π e) := fun O F H σ Q w q =>
  h O _ H σ Q (bor_wd w) fun v F2 H2 st w2 hv => q v (bacF M K π e σ F2) H2 (bac_step w st) (bac_wd w st w2.sub w2.fresh) (X_loose d v F2 _ n (bac_tup w st) (bac_sqT w st) hv)
theorem eo_bor {t : TE} {ds : List Dt} {Δ : List (Slot M)} (h : EvO t (ofE M K π (e.map borS)) (owL (isXs K π ds)) Δ) (n : noLists ds = true) : EvO t (ofE M K π e) (owL (isXs K π ds)) (ofE M K π e) := fun O F H σ Q w q =>
  h O _ H σ Q (bor_wd w) fun p o F2 H2 st w2 hO hf hh ⟨vs, e1, ht⟩ _ => q p o (bacF M K π e σ F2) H2 (bac_step w st) (bac_wd w st w2.sub w2.fresh) hO (by
      unfold bacF
      split
      · rfl
      · exact hf) hh ⟨vs, e1, Xs_loose ds vs F2 _ n (bac_tup w st) (bac_sqT w st) ht⟩ fun r hr z => by
    obtain ⟨ys, _, h2⟩ := bac_lst w st hr
    rw [z, hf] at h2
    cases h2
theorem et_bor {t : TT} {b : Bool} {Δ : List (Slot M)} (h : EvT t (ofE M K π (e.map borS)) b Δ) : EvT t (ofE M K π e) b (ofE M K π e) := fun O F H σ Q w q =>
  h O _ H σ Q (bor_wd w) fun F2 H2 st w2 => q (bacF M K π e σ F2) H2 (bac_step w st) (bac_wd w st w2.sub w2.fresh)
/-! ### a list of one's own is lent to a def -/
theorem ev_anyE {E' : XK} {t : TE} {τ : Ty M} (h : Ev E t Γ (.val τ) Γ1) : Ev E' t Γ (.val τ) Γ1 := h
theorem ev_lend {s : List Dt → List Dt → Option (Dt × List Dt)} {i : Nat} {ta : TA} {q0 q1 : Bool} {own own0 as own' : List Dt} {d : Dt} {e1 : Vs} (h0 : e[i]? = some (.own q0 own0)) (ha : EvA E ta (ofE M K π e) (.vals (isXs K π as)) (ofE M K π e1)) (h1 : e1[i]? = some (.own q1 own)) (hs : s own as = some (d, own')) :
    Ev E (tCall (spL M K s) [] E (tCons (tVar i) ta)) (ofE M K π e) (.val (isX K π d)) (ofE M K π (e1.set i (.own q1 own'))) := fun O F H σ Q w q => by
  obtain ⟨p, o0, a1, a2, a3, a4⟩ := w.sl.own (ofE_get h0)
  refine ⟨.ref p, a1, ?_⟩
  refine ha O F H σ _ w fun vs F1 H1 st w1 hvs => ?_
  obtain ⟨p', o, b1, b2, b3, b0, xs, b4, b5⟩ := w1.sl.own (ofE_get h1)
  rw [a1] at b1
  injection b1 with b1; injection b1 with b1; injection b1 with b1
  subst b1 b4
  refine ⟨π, p, vs, xs, own, as, d, own', F1, by rw [List.append_nil], hs, w1.sub, b2, b3, b5, hvs, fun v F2 H2 os' sl f2 h2 t2 hv => ?_⟩
  obtain ⟨sb, sx⟩ := sl
  have hO : O p := w1.own p (ofE_ownAt h1 a1)
  have sx2 : StepX M O F1 H1 F2 H2 := ⟨sx.gw, sx.dom, fun a o n e1 e2 => sx.fr a o (fun z => n (z ▸ hO)) e1 e2⟩
  refine q v F2 H2 (st.trans sx2) ⟨sb, ⟨?_, fun j s' es => ?_, fun j k u u' r f1 f2 f3 f4 => ?_⟩, fun r ⟨j, u, f1, f2⟩ => ?_, fun r hr => w1.fresh r (sx.dom r hr)⟩ hv
  · rw [ofE_set, List.length_set]; exact w1.sl.len
  · rw [ofE_set] at es
    by_cases hj : i = j
    · subst hj
      rw [List.getElem?_set, if_pos rfl] at es
      split at es
      · cases es
        exact ⟨_, a1, p, _, rfl, f2, h2, b0, os', rfl, t2⟩
      · cases es
    · rw [List.getElem?_set_ne hj] at es
      obtain ⟨x, c1, c2⟩ := w1.sl.at_ j s' es
      refine ⟨x, c1, ?_⟩
      cases s' with
      | any => trivial
      | ty τ => obtain ⟨v, d1, d2⟩ := c2; exact ⟨v, d1, τ.mono sx.gw d2⟩
      | own u =>
        obtain ⟨r, z, d1, d2, d3, d4⟩ := c2
        subst d1
        have ne : r ≠ p := fun eq => hj (w1.sl.one i j _ u p (ofE_get h1) es a1 (by rw [c1, eq]))
        obtain ⟨g1, g2⟩ := sx.fr r z ne d2 d3
        exact ⟨r, z, rfl, g1, g2, u.mono sx.gw d4⟩
  · have back : ∀ (j : Nat) (u : Ow M), (ofE M K π (e1.set i (.own q1 own')))[j]? = some (.own u) → ∃ u2, (ofE M K π e1)[j]? = some (.own u2) := fun j u ej => by
      rw [ofE_set] at ej
      by_cases hj : i = j
      · subst hj; exact ⟨_, ofE_get h1⟩
      · rw [List.getElem?_set_ne hj] at ej; exact ⟨u, ej⟩
    obtain ⟨v1, g1⟩ := back j u f1
    obtain ⟨v2, g2⟩ := back k u' f2
    exact w1.sl.one j k v1 v2 r g1 g2 f3 f4
  · rw [ofE_set] at f1
    by_cases hj : i = j
    · subst hj
      rw [a1] at f2
      injection f2 with f2; injection f2 with f2; injection f2 with f2
      rw [← f2]; exact hO
    · rw [List.getElem?_set_ne hj] at f1
      exact w1.own r ⟨j, u, f1, f2⟩
/-! ### more readings -/
theorem ev_chainT {r r' : R2} {ta tb tc : TE} {τ υ ω : Ty M} {Γ3 : List (Slot M)} (ha : Ev E ta Γ (.val τ) Γ1) (hb : Ev E tb Γ1 (.val υ) Γ2) (hr : RR r τ υ (isD K (.bool true))) (hc : Ev E tc Γ2 (.val ω) Γ3) {d : Dt} (hr' : RR r' υ ω (isX K π d)) : Ev E (tChain r r' ta tb tc) Γ (.val (isX K π d)) Γ3 := fun O F H σ Q w q =>
  ha O F H σ _ w fun x F1 H1 s1 w1 hx => hb O F1 H1 σ _ w1 fun y F2 H2 s2 w2 hy =>
    hr x y F2 H2 _ w2.sub (τ.mono s2.gw hx) hy fun v F3 H3 s3 hv => by
      cases hv
      refine ⟨true, rfl, ?_⟩
      rw [if_pos rfl]
      exact hc O F3 H3 σ _ (w2.step s3) fun z F4 H4 s4 w4 hz => hr' y z F4 H4 Q w4.sub (υ.mono s4.gw (υ.mono s3.gw hy)) hz fun v F5 H5 s5 hv => q v F5 H5 ((((s1.trans s2).trans s3.x).trans s4).trans s5.x) (w4.step s5) hv
theorem ev_chainF {r r' : R2} {ta tb tc : TE} {τ υ : Ty M} (ha : Ev E ta Γ (.val τ) Γ1) (hb : Ev E tb Γ1 (.val υ) Γ2) (hr : RR r τ υ (isD K (.bool false))) : Ev E (tChain r r' ta tb tc) Γ (.val (isD K (.bool false))) Γ2 := fun O F H σ Q w q =>
  ha O F H σ _ w fun x F1 H1 s1 w1 hx => hb O F1 H1 σ _ w1 fun y F2 H2 s2 w2 hy =>
    hr x y F2 H2 _ w2.sub (τ.mono s2.gw hx) hy fun v F3 H3 s3 hv => by
      cases hv
      refine ⟨false, rfl, ?_⟩
      rw [if_neg Bool.false_ne_true]
      exact q _ F3 H3 ((s1.trans s2).trans s3.x) (w2.step s3) (.bl false)
theorem eo_op {r : R2} {ta tb : TE} {τ υ : Ty M} {ds : List Dt} (ha : Ev E ta Γ (.val τ) Γ1) (hb : Ev E tb Γ1 (.val υ) Γ2) (hr : RRo M K π r τ υ ds) : EvO (tOp r ta tb) Γ (owL (isXs K π ds)) Γ2 := fun O F H σ Q w q =>
  ha O F H σ _ w fun x F1 H1 s1 w1 hx => hb O F1 H1 σ _ w1 fun y F2 H2 s2 w2 hy =>
    hr x y F2 H2 Q w2.sub (τ.mono s2.gw hx) hy fun p vs hp ht => new_own w2 hp (u := owL (isXs K π ds)) ⟨vs, rfl, ht⟩ fun p o F4 H4 st w4 h1 h2 h3 h4 h5 => q p o F4 H4 ((s1.trans s2).trans st) w4 h1 h2 h3 h4 h5
theorem ei_ext {wi : TI} {n : Nat} {ys zs : Nat → Ty M} (h : EvI wi Γ n ys Γ1) (e : ∀ i, i < n → ys i = zs i) : EvI wi Γ n zs Γ1 := fun O F H σ R w q =>
  h O F H σ R w fun J F2 H2 st w2 k => q J F2 H2 st w2 ⟨k.go, k.stop, fun i F H x H' a b c d => by
    obtain ⟨F', s, z⟩ := k.yld i F H x H' a b c d
    exact ⟨F', s, e i c ▸ z⟩⟩
/-! ### targets -/
theorem gs_sound {vs : List Nat} : ∀ (is : List Nat) (ds : List Dt) (e : Vs), (∀ i ∈ is, i ∈ vs) → is.length = ds.length → EvGws (gsOf is) vs (ofE M K π e) (isXs K π ds) (ofE M K π (setAll e is ds))
  | [], [], e, _, _ => by rw [isXs]; exact egws_nil
  | [], _ :: _, _, _, h => by simp at h
  | _ :: _, [], _, _, h => by simp at h
  | i :: is, d :: ds, e, hm, hl => by
    rw [isXs]
    have z := gs_sound is ds (e.set i (.val d)) (fun j hj => hm j (List.mem_cons_of_mem _ hj)) (by simpa using hl)
    rw [ofE_set] at z
    exact egws_cons (egw_name (hm i List.mem_cons_self)) z
theorem gw_sound {tg : Tg} {d : Dt} (h : asgT e d tg = some e') : EvGw (denG K tg) tg.ids (ofE M K π e) (isX K π d) (ofE M K π e') := by
  cases tg with
  | name i =>
    simp only [asgT] at h
    cases h
    rw [ofE_set]
    exact egw_name (List.mem_singleton.mpr rfl)
  | tup is =>
    cases d with
    | tuple ds =>
      simp only [asgT] at h
      split at h
      · rename_i hl
        cases h
        rw [isX]
        exact fun O F H σ v Q w hv q => egw_tup (K := K) (gs_sound is ds e (fun _ h => h) hl.symm) (by rw [isXs_length]; exact hl) O F H σ v Q w (le_tt _ _ hv) q
      · cases h
    | _ => simp [asgT] at h
  | unl is =>
    cases d with
    | list ds =>
      simp only [asgT] at h
      split at h
      · rename_i hl
        cases h
        rw [isX]
        intro O F H σ v Q w hv q
        obtain ⟨a, xs, ee, hx, ht⟩ := hv
        exact ⟨a, xs, ee, Or.inl (Or.inl (w.sub a _ hx)), by rw [ht.length, isXs_length]; exact hl, gs_sound is ds e (fun _ h => h) hl.symm O F H σ xs Q w ht q⟩
      · cases h
    | _ => simp [asgT] at h
theorem gs_sound' : ∀ (is : List Nat) (ds : List Dt) (e : Vs), is.length = ds.length → EvGs (gsOf is) (ofE M K π e) (isXs K π ds) (ofE M K π (setAll e is ds))
  | [], [], e, _ => by rw [isXs]; exact egs_nil
  | [], _ :: _, _, h => by simp at h
  | _ :: _, [], _, h => by simp at h
  | i :: is, d :: ds, e, hl => by
    rw [isXs]
    have z := gs_sound' is ds (e.set i (.val d)) (by simpa using hl)
    rw [ofE_set] at z
    exact egs_cons eg_name z
theorem g_sound {tg : Tg} {d : Dt} (h : asgT e d tg = some e') : EvG (denG K tg) (ofE M K π e) (isX K π d) (ofE M K π e') := by
  cases tg with
  | name i =>
    simp only [asgT] at h
    cases h
    rw [ofE_set]
    exact eg_name
  | tup is =>
    cases d with
    | tuple ds =>
      simp only [asgT] at h
      split at h
      · rename_i hl
        cases h
        rw [isX]
        exact fun O F H σ v Q w hv q => eg_tup (K := K) (gs_sound' is ds e hl.symm) (by rw [isXs_length]; exact hl) O F H σ v Q w (le_tt _ _ hv) q
      · cases h
    | _ => simp [asgT] at h
  | unl is =>
    cases d with
    | list ds =>
      simp only [asgT] at h
      split at h
      · rename_i hl
        cases h
        rw [isX]
        intro O F H σ v Q w hv q
        obtain ⟨a, xs, ee, hx, ht⟩ := hv
        exact ⟨a, xs, ee, Or.inl (Or.inl (w.sub a _ hx)), by rw [ht.length, isXs_length]; exact hl, gs_sound' is ds e hl.symm O F H σ xs Q w ht q⟩
      · cases h
    | _ => simp [asgT] at h
theorem ofE_hush : hush (ofE M K π e) = ofE M K π (e.map hushV) := by
  unfold hush ofE
  rw [List.map_map, List.map_map]
  refine List.map_congr_left fun x _ => ?_
  cases x <;> rfl
theorem ofE_wipe : ∀ vs : List Nat, wipeS (ofE M K π e) vs = ofE M K π (wipeV e vs)
  | [] => rfl
  | v :: vs => by
    show (wipeS (ofE M K π e) vs).set v .any = ofE M K π ((wipeV e vs).set v .no)
    rw [ofE_wipe vs, ofE_set]
    rfl
end
end Bc

set_option maxRecDepth 100000
set_option maxHeartbeats 2000000
/-! BcS: the evaluation's word holds. -/
namespace Bc
open PySem PySem.Spec
open PyProof.Rows L2
variable {M : Hp → Hp → Prop} [g : GB M] {K : PySem.W.Frag} {π : Pa}
def raOf (M : Hp → Hp → Prop) (K : PySem.W.Frag) (π : Pa) : List Dt ⊕ Value → Ra M
  | .inl ds => .vals (isXs K π ds)
  | .inr C => .exc C
def NoOwn (e : Vs) : Prop := ∀ (i : Nat) (q : Bool) (ds : List Dt), e[i]? ≠ some (.own q ds)
structure Snd (π : Pa) (x : Ex M K) : Prop where
  e : ∀ (E : XK) (e e' : Vs) (r : Rd), ev e x = some (r, e') → Ev E (den E x).e (ofE M K π e) (reOf M K π r) (ofE M K π e')
  a : ∀ (E : XK) (e e' : Vs) (r : List Dt ⊕ Value), evA e x = some (r, e') → EvA E (den E x).a (ofE M K π e) (raOf M K π r) (ofE M K π e')
  t : ∀ (E : XK) (e e' : Vs) (b : Bool), evT e x = some (b, e') → EvT (den E x).t (ofE M K π e) b (ofE M K π e')
  p : ∀ (E : XK) (e e' : Vs) (o : Option Int), evP e x = some (o, e') → EvP (den E x).o (ofE M K π e) o (ofE M K π e')
  i : ∀ (E : XK) (e e' : Vs) (ds : List Dt), evI e x = some (ds, e') → EvI (den E x).i (ofE M K π e) ds.length (nth (isXs K π ds)) (ofE M K π e')
  o : ∀ (E : XK) (e e' : Vs) (ds : List Dt), fresh x = true → ev e x = some (.ok (.list ds), e') → EvO (den E x).e (ofE M K π e) (owL (isXs K π ds)) (ofE M K π e')
  ne : ∀ (e e' : Vs) (r : Rd), NoOwn e → ev e x = some (r, e') → e' = e
  na : ∀ (e e' : Vs) (r : List Dt ⊕ Value), NoOwn e → evA e x = some (r, e') → e' = e
  nt : ∀ (e e' : Vs) (b : Bool), NoOwn e → evT e x = some (b, e') → e' = e
theorem no_bor (e : Vs) : NoOwn (e.map borS) := fun i q ds h => by
  rw [List.getElem?_map] at h
  cases z : e[i]? with
  | none => rw [z] at h; cases h
  | some y => rw [z] at h; injection h with h; cases y <;> cases h
theorem no_hush (e : Vs) : NoOwn (e.map hushV) := fun i q ds h => by
  rw [List.getElem?_map] at h
  cases z : e[i]? with
  | none => rw [z] at h; cases h
  | some y => rw [z] at h; injection h with h; cases y <;> cases h
theorem no_set {e : Vs} {i : Nat} {s : Sv} (h : NoOwn e) (hs : ∀ q ds, s ≠ .own q ds) : NoOwn (e.set i s) := fun j q ds z => by
  rw [List.getElem?_set] at z
  split at z
  · split at z
    · injection z with z; exact hs q ds z
    · cases z
  · exact h j q ds z
theorem no_wipe {e : Vs} (h : NoOwn e) : ∀ vs : List Nat, NoOwn (wipeV e vs)
  | [] => h
  | v :: vs => no_set (no_wipe h vs) fun _ _ z => nomatch z
theorem no_setAll : ∀ (is : List Nat) (ds : List Dt) (e : Vs), NoOwn e → NoOwn (setAll e is ds)
  | [], _, _, h => by unfold setAll; exact h
  | _ :: _, [], _, h => by unfold setAll; exact h
  | i :: is, d :: ds, e, h => by
    rw [setAll]
    exact no_setAll is ds _ (no_set h fun _ _ z => nomatch z)
theorem no_asg {e e' : Vs} {d : Dt} {tg : Tg} (h : NoOwn e) (a : asgT e d tg = some e') : NoOwn e' := by
  cases tg with
  | name i => simp only [asgT] at a; cases a; exact no_set h fun _ _ z => nomatch z
  | tup is =>
    cases d with
    | tuple ds =>
      simp only [asgT] at a
      split at a
      · cases a; exact no_setAll is ds e h
      · cases a
    | _ => simp [asgT] at a
  | unl is =>
    cases d with
    | list ds =>
      simp only [asgT] at a
      split at a
      · cases a; exact no_setAll is ds e h
      · cases a
    | _ => simp [asgT] at a
section
variable {E : XK} {e e' : Vs}
/-- a field that does not apply -/
theorem snd_of {x : Ex M K} (he : ∀ (E : XK) (e e' : Vs) (r : Rd), ev e x = some (r, e') → Ev E (den E x).e (ofE M K π e) (reOf M K π r) (ofE M K π e'))
    (ne : ∀ (e e' : Vs) (r : Rd), NoOwn e → ev e x = some (r, e') → e' = e)
    (ho : ∀ (E : XK) (e e' : Vs) (ds : List Dt), fresh x = true → ev e x = some (.ok (.list ds), e') → EvO (den E x).e (ofE M K π e) (owL (isXs K π ds)) (ofE M K π e'))
    (a : ∀ e, evA e x = none) (t : ∀ e, evT e x = none) (p : ∀ e, evP e x = none) (i : ∀ e, evI e x = none) : Snd π x :=
  ⟨he, fun _ e _ _ h => (by rw [a] at h; cases h), fun _ e _ _ h => (by rw [t] at h; cases h), fun _ e _ _ h => (by rw [p] at h; cases h), fun _ e _ _ h => (by rw [i] at h; cases h), ho, ne, fun e _ _ _ h => (by rw [a] at h; cases h), fun e _ _ _ h => (by rw [t] at h; cases h)⟩
theorem snd_a {x : Ex M K} (ha : ∀ (E : XK) (e e' : Vs) (r : List Dt ⊕ Value), evA e x = some (r, e') → EvA E (den E x).a (ofE M K π e) (raOf M K π r) (ofE M K π e'))
    (na : ∀ (e e' : Vs) (r : List Dt ⊕ Value), NoOwn e → evA e x = some (r, e') → e' = e)
    (v : ∀ e, ev e x = none) (t : ∀ e, evT e x = none) (p : ∀ e, evP e x = none) (i : ∀ e, evI e x = none) : Snd π x :=
  ⟨fun _ e _ _ h => (by rw [v] at h; cases h), ha, fun _ e _ _ h => (by rw [t] at h; cases h), fun _ e _ _ h => (by rw [p] at h; cases h), fun _ e _ _ h => (by rw [i] at h; cases h), fun _ e _ _ _ h => (by rw [v] at h; cases h), fun e _ _ _ h => (by rw [v] at h; cases h), na, fun e _ _ _ h => (by rw [t] at h; cases h)⟩
theorem snd_t {x : Ex M K} (ht : ∀ (E : XK) (e e' : Vs) (b : Bool), evT e x = some (b, e') → EvT (den E x).t (ofE M K π e) b (ofE M K π e'))
    (nt : ∀ (e e' : Vs) (b : Bool), NoOwn e → evT e x = some (b, e') → e' = e)
    (v : ∀ e, ev e x = none) (a : ∀ e, evA e x = none) (p : ∀ e, evP e x = none) (i : ∀ e, evI e x = none) : Snd π x :=
  ⟨fun _ e _ _ h => (by rw [v] at h; cases h), fun _ e _ _ h => (by rw [a] at h; cases h), ht, fun _ e _ _ h => (by rw [p] at h; cases h), fun _ e _ _ h => (by rw [i] at h; cases h), fun _ e _ _ _ h => (by rw [v] at h; cases h), fun e _ _ _ h => (by rw [v] at h; cases h), fun e _ _ _ h => (by rw [a] at h; cases h), nt⟩
theorem snd_p {x : Ex M K} (hp : ∀ (E : XK) (e e' : Vs) (o : Option Int), evP e x = some (o, e') → EvP (den E x).o (ofE M K π e) o (ofE M K π e'))
    (v : ∀ e, ev e x = none) (a : ∀ e, evA e x = none) (t : ∀ e, evT e x = none) (i : ∀ e, evI e x = none) : Snd π x :=
  ⟨fun _ e _ _ h => (by rw [v] at h; cases h), fun _ e _ _ h => (by rw [a] at h; cases h), fun _ e _ _ h => (by rw [t] at h; cases h), hp, fun _ e _ _ h => (by rw [i] at h; cases h), fun _ e _ _ _ h => (by rw [v] at h; cases h), fun e _ _ _ h => (by rw [v] at h; cases h), fun e _ _ _ h => (by rw [a] at h; cases h), fun e _ _ _ h => (by rw [t] at h; cases h)⟩
theorem snd_i {x : Ex M K} (hi : ∀ (E : XK) (e e' : Vs) (ds : List Dt), evI e x = some (ds, e') → EvI (den E x).i (ofE M K π e) ds.length (nth (isXs K π ds)) (ofE M K π e'))
    (v : ∀ e, ev e x = none) (a : ∀ e, evA e x = none) (t : ∀ e, evT e x = none) (p : ∀ e, evP e x = none) : Snd π x :=
  ⟨fun _ e _ _ h => (by rw [v] at h; cases h), fun _ e _ _ h => (by rw [a] at h; cases h), fun _ e _ _ h => (by rw [t] at h; cases h), fun _ e _ _ h => (by rw [p] at h; cases h), hi, fun _ e _ _ _ h => (by rw [v] at h; cases h), fun e _ _ _ h => (by rw [v] at h; cases h), fun e _ _ _ h => (by rw [a] at h; cases h), fun e _ _ _ h => (by rw [t] at h; cases h)⟩
theorem snd_c {x : Ex M K} {v : V} {d : Dt} (hd : ∀ E : XK, (den E x).e = tC v) (h : ∀ e, ev e x = some (.ok d, e)) (hv : ∀ F, (isX (M := M) K π d).φ v F) (hf : fresh x = false) (a : ∀ e, evA e x = none) (t : ∀ e, evT e x = none) (p : ∀ e, evP e x = none) (i : ∀ e, evI e x = none) : Snd π x :=
  snd_of (fun E e e' r q => (by rw [h] at q; cases q; rw [hd]; exact ev_c hv)) (fun e e' r _ q => (by rw [h] at q; cases q; rfl)) (fun E e e' ds f => (by rw [hf] at f; cases f)) a t p i
theorem nth_enum (τs : List Dt) : ∀ (n i : Nat), i < τs.length → nth (isXs (M := M) K π (enumOf n τs)) i = isTt [isD K (.int ((n + i : Nat) : Int)), nth (isXs K π τs) i] := by
  induction τs with
  | nil => intro n i h; simp at h
  | cons d ds ih =>
    intro n i h
    rw [enumOf, isXs]
    cases i with
    | zero =>
      show isX K π _ = _
      rw [isX, isXs, isXs, isXs, isX, isXs]
      rfl
    | succ j =>
      have z := ih (n + 1) j (by simpa using h)
      show nth (isXs K π (enumOf (n + 1) ds)) j = _
      rw [z, isXs]
      have e : n + 1 + j = n + (j + 1) := by omega
      rw [e]
      rfl
theorem enum_len (τs : List Dt) : ∀ n, (enumOf n τs).length = τs.length := by
  induction τs with
  | nil => intro n; rfl
  | cons d ds ih => intro n; rw [enumOf, List.length_cons, List.length_cons, ih]
theorem nth_X (ds : List Dt) (i : Nat) (h : i < ds.length) : nth (isXs (M := M) K π ds) i = isX K π (ds.getD i .none) := by
  unfold nth
  rw [isXs_map, List.getD_eq_getElem?_getD, List.getD_eq_getElem?_getD, List.getElem?_map, List.getElem?_eq_getElem h]
  rfl
theorem lcAll_spec (f : Dt → Option (Option Dt)) : ∀ (ds rs : List Dt), lcAll f ds = some rs →
    (∀ d ∈ ds, ∃ r, f d = some r) ∧ rs = ds.filterMap fun d => (f d).join := by
  intro ds
  induction ds with
  | nil => intro rs h; rw [lcAll] at h; cases h; exact ⟨fun _ h => (by cases h), rfl⟩
  | cons d ds ih =>
    intro rs h
    rw [lcAll] at h
    split at h
    · rename_i r1 rs1 e1 e2
      cases h
      obtain ⟨a, b⟩ := ih _ e2
      refine ⟨fun x hx => ?_, ?_⟩
      · rcases List.mem_cons.mp hx with q | q
        · exact ⟨_, q ▸ e1⟩
        · exact a x q
      · rw [b, List.filterMap_cons, e1]; rfl
    · rename_i r rs1 e1 e2
      cases h
      obtain ⟨a, b⟩ := ih _ e2
      refine ⟨fun x hx => ?_, ?_⟩
      · rcases List.mem_cons.mp hx with q | q
        · exact ⟨_, q ▸ e1⟩
        · exact a x q
      · rw [b, List.filterMap_cons, e1]; rfl
    · cases h
theorem range_filter (ds : List Dt) (p : Dt → Bool) (h : Dt → Ty M) : ((List.range ds.length).filter fun i => p (ds.getD i .none)).map (fun i => h (ds.getD i .none)) = (ds.filter p).map h := by
  have e : (List.range ds.length).map (fun i => ds.getD i .none) = ds := by
    refine List.ext_getElem? fun i => ?_
    rw [List.getElem?_map]
    by_cases hi : i < ds.length
    · rw [List.getElem?_range hi, List.getElem?_eq_getElem hi]
      show some (ds.getD i .none) = _
      rw [List.getD_eq_getElem?_getD, List.getElem?_eq_getElem hi]
      rfl
    · rw [List.getElem?_eq_none (by simpa using Nat.le_of_not_lt hi), List.getElem?_eq_none (Nat.le_of_not_lt hi)]
      rfl
  have z := congrArg (fun l => (l.filter p).map h) e
  simp only [List.filter_map, List.map_map] at z
  exact z
theorem filterMap_X (ds : List Dt) (f : Dt → Option Dt) : isXs (M := M) K π (ds.filterMap f) = (ds.filter fun d => (f d).isSome).map fun d => isX K π ((f d).getD .none) := by
  rw [isXs_map]
  induction ds with
  | nil => rfl
  | cons d ds ih =>
    rw [List.filterMap_cons, List.filter_cons]
    cases q : f d with
    | none => simpa using ih
    | some r => simp [q, ih]
theorem snd_lc {it tt x : Ex M K} {tg : Tg} (hi : Snd π it) (ht : Snd π tt) (hx : Snd π x) {ds rs : List Dt} {e0 : Vs} (h1 : evI e it = some (ds, e0)) (hl : ds.length ≤ 100000)
    (h2 : lcAll (fun d => match asgT (wipeV (e0.map hushV) tg.ids) d tg with
          | some e1 => match evT e1 tt with
            | some (true, _) => match ev e1 x with
              | some (.ok r, _) => some (some r)
              | _ => none
            | some (false, _) => some none
            | none => none
          | none => none) ds = some rs) : EvO (den E (.lc it tg tt x)).e (ofE M K π e) (owL (isXs K π rs)) (ofE M K π e0) := by
  let f : Dt → Option (Option Dt) := fun d => match asgT (wipeV (e0.map hushV) tg.ids) d tg with
          | some e1 => match evT e1 tt with
            | some (true, _) => match ev e1 x with
              | some (.ok r, _) => some (some r)
              | _ => none
            | some (false, _) => some none
            | none => none
          | none => none
  obtain ⟨ha, hb⟩ := lcAll_spec f ds rs h2
  have key := eo_lc (M := M) (te := (den E0 x).e) (tt := (den E0 tt).t) (G := denG K tg) (vs := tg.ids) (fun i => ((f (ds.getD i .none)).join).isSome) (fun i => isX K π (((f (ds.getD i .none)).join).getD .none)) (hi.i E e e0 ds h1) hl fun i hi' => by
    have hm : ds.getD i .none ∈ ds := by
      rw [List.getD_eq_getElem?_getD, List.getElem?_eq_getElem hi']
      exact List.getElem_mem hi'
    obtain ⟨r, hr⟩ := ha _ hm
    rw [ofE_hush, ofE_wipe, nth_X _ _ hi']
    generalize hd : ds.getD i .none = d at hr hm ⊢
    have hr0 := hr
    simp only [f] at hr
    split at hr
    · rename_i e1 ha1
      have no1 : NoOwn e1 := no_asg (no_wipe (no_hush e0) _) ha1
      refine ⟨ofE M K π e1, gw_sound ha1, ?_⟩
      split at hr
      · rename_i e2 ht1
        have q := ht.nt _ _ _ no1 ht1
        subst q
        split at hr
        · rename_i v e3 hx1
          have q := hx.ne _ _ _ no1 hx1
          subst q
          cases hr
          rw [hr0]
          exact ⟨ht.t E0 _ _ _ ht1, fun _ => hx.e E0 _ _ _ hx1⟩
        · cases hr
      · rename_i e2 ht1
        have q := ht.nt _ _ _ no1 ht1
        subst q
        cases hr
        rw [hr0]
        exact ⟨ht.t E0 _ _ _ ht1, fun z => nomatch z⟩
      · cases hr
    · cases hr
  have e2 : isXs (M := M) K π rs = ((List.range ds.length).filter fun i => ((f (ds.getD i .none)).join).isSome).map fun i => isX K π (((f (ds.getD i .none)).join).getD .none) := by
    rw [hb, filterMap_X, range_filter ds (fun d => ((f d).join).isSome) fun d => isX K π (((f d).join).getD .none)]
  rw [e2]
  exact key
end
end Bc

set_option maxRecDepth 100000
set_option maxHeartbeats 4000000
/-! BcT: the evaluation's word holds: all expressions. -/
namespace Bc
open PySem PySem.Spec
open PyProof.Rows L2
variable {M : Hp → Hp → Prop} [g : GB M] {K : PySem.W.Frag} {π : Pa}
theorem map_some {α β : Type} {o : Option α} {f : α → β} {b : β} (h : o.map f = some b) : ∃ a, o = some a ∧ f a = b := by
  cases o with
  | none => cases h
  | some a => injection h with h; exact ⟨a, rfl, h⟩
theorem le_X1 {d : Dt} {x : PyData} (h : toPy d = some x) : Le (isX (M := M) K π d) (isD K x) := fun v F q => le_XD d x v F h q
theorem snd_op (o : O2 M K) (a b : Ex M K) (ha : Snd π a) (hb : Snd π b) : Snd π (.op o a b) := by
  refine snd_of (fun E e e' r h => ?_) (fun e e' r n h => ?_) (fun E e e' ds _ h => ?_) (fun _ => by simp only [evA]) (fun _ => by simp only [evT]) (fun _ => by simp only [evP]) (fun _ => by simp only [evI])
  · simp only [ev] at h
    split at h
    · rename_i x e1 h1
      split at h
      · rename_i y e2 h2
        obtain ⟨z, h3, h4⟩ := map_some h
        cases h4
        exact ev_op (ha.e E _ _ _ h1) (hb.e E _ _ _ h2) (o.h π _ _ _ h3)
      · cases h
    · cases h
  · simp only [ev] at h
    split at h
    · rename_i x e1 h1
      have q := ha.ne _ _ _ n h1
      subst q
      split at h
      · rename_i y e2 h2
        obtain ⟨z, h3, h4⟩ := map_some h
        cases h4
        exact hb.ne _ _ _ n h2
      · cases h
    · cases h
  · simp only [ev] at h
    split at h
    · rename_i x e1 h1
      split at h
      · rename_i y e2 h2
        obtain ⟨z, h3, h4⟩ := map_some h
        cases h4
        exact eo_op (ha.e E _ _ _ h1) (hb.e E _ _ _ h2) (o.o π _ _ _ h3)
      · cases h
    · cases h
theorem snd_chain (o o' : O2 M K) (a b c : Ex M K) (ha : Snd π a) (hb : Snd π b) (hc : Snd π c) : Snd π (.chain o o' a b c) := by
  refine snd_of (fun E e e' r h => ?_) (fun e e' r n h => ?_) (fun E e e' ds f h => by cases f) (fun _ => by simp only [evA]) (fun _ => by simp only [evT]) (fun _ => by simp only [evP]) (fun _ => by simp only [evI])
  · simp only [ev] at h
    split at h
    · rename_i x e1 h1
      split at h
      · rename_i y e2 h2
        split at h
        · rename_i h3
          split at h
          · rename_i z e3 h4
            obtain ⟨u, h5, h6⟩ := map_some h
            cases h6
            have z3 := o.h π _ _ _ h3
            rw [isX] at z3
            exact ev_chainT (ha.e E _ _ _ h1) (hb.e E _ _ _ h2) z3 (hc.e E _ _ _ h4) (o'.h π _ _ _ h5)
          · cases h
        · rename_i h3
          cases h
          have z3 := o.h π _ _ _ h3
          rw [isX] at z3
          have w := ev_chainF (r' := o'.r) (tc := (den E c).e) (ha.e E _ _ _ h1) (hb.e E _ _ _ h2) z3
          show Ev E _ _ (.val (isX K π (.bool false))) _
          rw [isX]
          exact w
        · cases h
      · cases h
    · cases h
  · simp only [ev] at h
    split at h
    · rename_i x e1 h1
      have q := ha.ne _ _ _ n h1
      subst q
      split at h
      · rename_i y e2 h2
        have q := hb.ne _ _ _ n h2
        subst q
        split at h
        · split at h
          · rename_i z e3 h4
            obtain ⟨u, h5, h6⟩ := map_some h
            cases h6
            exact hc.ne _ _ _ n h4
          · cases h
        · cases h; rfl
        · cases h
      · cases h
    · cases h
theorem snd_un (o : OU M K) (a : Ex M K) (ha : Snd π a) : Snd π (.un o a) := by
  refine snd_of (fun E e e' r h => ?_) (fun e e' r n h => ?_) (fun E e e' ds f h => by cases f) (fun _ => by simp only [evA]) (fun _ => by simp only [evT]) (fun _ => by simp only [evP]) (fun _ => by simp only [evI])
  · simp only [ev] at h
    split at h
    · rename_i x e1 h1
      obtain ⟨z, h3, h4⟩ := map_some h
      cases h4
      dsimp only [den, reOf]
      exact ev_un (ha.e E _ _ _ h1) (o.h π _ _ h3)
    · cases h
  · simp only [ev] at h
    split at h
    · rename_i x e1 h1
      obtain ⟨z, h3, h4⟩ := map_some h
      cases h4
      exact ha.ne _ _ _ n h1
    · cases h
theorem snd_fn (o : ON M K) (a : Ex M K) (ha : Snd π a) : Snd π (.fn o a) := by
  refine snd_of (fun E e e' r h => ?_) (fun e e' r n h => ?_) (fun E e e' ds f h => by cases f) (fun _ => by simp only [evA]) (fun _ => by simp only [evT]) (fun _ => by simp only [evP]) (fun _ => by simp only [evI])
  · simp only [ev] at h
    split at h
    · rename_i x e1 h1
      obtain ⟨z, h3, h4⟩ := map_some h
      cases h4
      exact ev_cb (ha.a E _ _ _ h1) (o.h π _ _ h3)
    · cases h
  · simp only [ev] at h
    split at h
    · rename_i x e1 h1
      obtain ⟨z, h3, h4⟩ := map_some h
      cases h4
      exact ha.na _ _ _ n h1
    · cases h
theorem snd_isi (a : Ex M K) (T : String) (ha : Snd π a) : Snd π (.isi a T) := by
  refine snd_of (fun E e e' r h => ?_) (fun e e' r n h => ?_) (fun E e e' ds f h => by cases f) (fun _ => by simp only [evA]) (fun _ => by simp only [evT]) (fun _ => by simp only [evP]) (fun _ => by simp only [evI])
  · simp only [ev] at h
    split at h
    · rename_i x e1 h1
      split at h
      · rename_i y hy
        obtain ⟨z, h3, h4⟩ := map_some h
        cases h4
        show Ev E _ _ (.val (isX K π (.bool z))) _
        rw [isX]
        exact ev_cb (ea_cons (Ev.le (τ := isX K π x) (υ := isD K y) (ha.e E _ _ _ h1) (le_X1 hy)) (ea_cons ev_ty ea_nil)) (rn_isi h3)
      · cases h
    · cases h
  · simp only [ev] at h
    split at h
    · rename_i x e1 h1
      split at h
      · obtain ⟨z, h3, h4⟩ := map_some h
        cases h4
        exact ha.ne _ _ _ n h1
      · cases h
    · cases h
theorem snd_lsOf (a : Ex M K) (ha : Snd π a) : Snd π (.lsOf a) := by
  have key : ∀ (E : XK) (e e' : Vs) (ds : List Dt), ev e (.lsOf a) = some (.ok (.list ds), e') → EvO (den E (.lsOf a)).e (ofE M K π e) (owL (isXs K π ds)) (ofE M K π e') := fun E e e' ds h => by
    simp only [ev] at h
    split at h
    · rename_i ds' e1 h1
      cases h
      have z := ha.e E _ _ _ h1
      dsimp only [den]
      have z2 : Ev E (den E a).e (ofE M K π e) (.val (isX K π (.list ds))) (ofE M K π e') := z
      rw [isX] at z2
      exact rn_listL (ea_cons (ev_anyE z2) ea_nil)
    · rename_i ds' e1 h1
      cases h
      have z2 : Ev E (den E a).e (ofE M K π e) (.val (isX K π (.tuple ds))) (ofE M K π e') := ha.e E _ _ _ h1
      rw [isX] at z2
      dsimp only [den]
      exact rn_listT (ea_cons (ev_anyE (z2.le le_tt)) ea_nil)
    · cases h
  refine snd_of (fun E e e' r h => ?_) (fun e e' r n h => ?_) (fun E e e' ds f h => key E e e' ds h) (fun _ => by simp only [evA]) (fun _ => by simp only [evT]) (fun _ => by simp only [evP]) (fun _ => by simp only [evI])
  · have h0 := h
    simp only [ev] at h
    have fin : ∀ ds, r = .ok (.list ds) → Ev E (den E (.lsOf a)).e (ofE M K π e) (reOf M K π r) (ofE M K π e') := fun ds q => by
      subst q
      have z := eo_ev (E := E) (key E e e' ds h0)
      show Ev E _ _ (.val (isX K π (.list ds))) _
      rw [isX]
      exact z
    split at h
    · cases h; exact fin _ rfl
    · cases h; exact fin _ rfl
    · cases h
  · simp only [ev] at h
    split at h
    · rename_i x e1 h1
      cases h
      exact ha.ne _ _ _ n h1
    · rename_i x e1 h1
      cases h
      exact ha.ne _ _ _ n h1
    · cases h
theorem snd_call (s : List Dt → Option Rd) (a : Ex M K) (ha : Snd π a) : Snd π (.call s a) := by
  refine snd_of (fun E e e' r h => ?_) (fun e e' r n h => ?_) (fun E e e' ds f h => by cases f) (fun _ => by simp only [evA]) (fun _ => by simp only [evT]) (fun _ => by simp only [evP]) (fun _ => by simp only [evI])
  · simp only [ev] at h
    split at h
    · rename_i xs e1 h1
      obtain ⟨z, h3, h4⟩ := map_some h
      cases h4
      exact ev_call (S := SX M K s) (ha.a E _ _ _ h1) ⟨π, xs, r, h3, rfl, rfl⟩
    · rename_i C e1 h1
      cases h
      exact ev_call_exc (ha.a E _ _ _ h1)
    · cases h
  · simp only [ev] at h
    split at h
    · rename_i xs e1 h1
      obtain ⟨z, h3, h4⟩ := map_some h
      cases h4
      exact ha.na _ _ _ n h1
    · rename_i C e1 h1
      cases h
      exact ha.na _ _ _ n h1
    · cases h
theorem snd_lend (s : List Dt → List Dt → Option (Dt × List Dt)) (i : Nat) (a : Ex M K) (ha : Snd π a) : Snd π (.lend s i a) := by
  refine snd_of (fun E e e' r h => ?_) (fun e e' r n h => ?_) (fun E e e' ds f h => by cases f) (fun _ => by simp only [evA]) (fun _ => by simp only [evT]) (fun _ => by simp only [evP]) (fun _ => by simp only [evI])
  · simp only [ev] at h
    split at h
    · rename_i xs e1 h1
      split at h
      · rename_i q0 ds0 q1 ds h2 h3
        split at h
        · rename_i d ds' h4
          cases h
          exact ev_lend h2 (ha.a E _ _ _ h1) h3 h4
        · cases h
      · cases h
    · cases h
  · simp only [ev] at h
    split at h
    · rename_i xs e1 h1
      split at h
      · rename_i q0 ds0 q1 ds h2 h3
        exact absurd h2 (n i q0 ds0)
      · cases h
    · cases h
theorem snd_tup (a : Ex M K) (ha : Snd π a) : Snd π (.tup a) := by
  refine snd_of (fun E e e' r h => ?_) (fun e e' r n h => ?_) (fun E e e' ds f h => by cases f) (fun _ => by simp only [evA]) (fun _ => by simp only [evT]) (fun _ => by simp only [evP]) (fun _ => by simp only [evI])
  · simp only [ev] at h
    split at h
    · rename_i xs e1 h1
      split at h
      · rename_i hl
        cases h
        show Ev E _ _ (.val (isX K π (.tuple xs))) _
        rw [isX]
        exact ev_tupt (ha.a E _ _ _ h1) (by rw [isXs_length]; exact hl)
      · cases h
    · rename_i C e1 h1
      cases h
      exact ev_tup_exc (ha.a E _ _ _ h1)
    · cases h
  · simp only [ev] at h
    split at h
    · rename_i xs e1 h1
      split at h
      · cases h
        exact ha.na _ _ _ n h1
      · cases h
    · rename_i C e1 h1
      cases h
      exact ha.na _ _ _ n h1
    · cases h
theorem snd_lst (a : Ex M K) (ha : Snd π a) : Snd π (.lst a) := by
  have key : ∀ (E : XK) (e e' : Vs) (ds : List Dt), ev e (.lst a) = some (.ok (.list ds), e') → EvO (den E (.lst a)).e (ofE M K π e) (owL (isXs K π ds)) (ofE M K π e') := fun E e e' ds h => by
    simp only [ev] at h
    split at h
    · rename_i xs e1 h1
      split at h
      · rename_i hl
        cases h
        exact eo_lst (ha.a E _ _ _ h1) (by rw [isXs_length]; exact hl)
      · cases h
    · cases h
  refine snd_of (fun E e e' r h => ?_) (fun e e' r n h => ?_) (fun E e e' ds f h => key E e e' ds h) (fun _ => by simp only [evA]) (fun _ => by simp only [evT]) (fun _ => by simp only [evP]) (fun _ => by simp only [evI])
  · have h0 := h
    simp only [ev] at h
    split at h
    · rename_i xs e1 h1
      split at h
      · cases h
        have z := eo_ev (E := E) (key E e e' xs h0)
        show Ev E _ _ (.val (isX K π (.list xs))) _
        rw [isX]
        exact z
      · cases h
    · cases h
  · simp only [ev] at h
    split at h
    · rename_i xs e1 h1
      split at h
      · cases h
        exact ha.na _ _ _ n h1
      · cases h
    · cases h
theorem snd_nil : Snd π (.nil : Ex M K) := by
  refine snd_a (fun E e e' r h => ?_) (fun e e' r n h => ?_) (fun _ => by simp only [ev]) (fun _ => by simp only [evT]) (fun _ => by simp only [evP]) (fun _ => by simp only [evI])
  · simp only [evA] at h
    cases h
    show EvA E tNil _ (.vals (isXs K π [])) _
    rw [isXs]
    exact ea_nil
  · simp only [evA] at h
    cases h
    rfl
theorem snd_cons (a b : Ex M K) (ha : Snd π a) (hb : Snd π b) : Snd π (.cons a b) := by
  refine snd_a (fun E e e' r h => ?_) (fun e e' r n h => ?_) (fun _ => by simp only [ev]) (fun _ => by simp only [evT]) (fun _ => by simp only [evP]) (fun _ => by simp only [evI])
  · simp only [evA] at h
    split at h
    · rename_i x e1 h1
      split at h
      · rename_i xs e2 h2
        cases h
        show EvA E _ _ (.vals (isXs K π (x :: xs))) _
        rw [isXs]
        exact ea_cons (ha.e E _ _ _ h1) (hb.a E _ _ _ h2)
      · rename_i C e2 h2
        cases h
        exact ea_exc2 (ha.e E _ _ _ h1) (hb.a E _ _ _ h2)
      · cases h
    · rename_i C e1 h1
      cases h
      exact ea_exc1 (ha.e E _ _ _ h1)
    · cases h
  · simp only [evA] at h
    split at h
    · rename_i x e1 h1
      have q := ha.ne _ _ _ n h1
      subst q
      split at h
      · rename_i xs e2 h2
        cases h
        exact hb.na _ _ _ n h2
      · rename_i C e2 h2
        cases h
        exact hb.na _ _ _ n h2
      · cases h
    · rename_i C e1 h1
      cases h
      exact ha.ne _ _ _ n h1
    · cases h
theorem snd_ifx (t a b : Ex M K) (ht : Snd π t) (ha : Snd π a) (hb : Snd π b) : Snd π (.ifx t a b) := by
  refine snd_of (fun E e e' r h => ?_) (fun e e' r n h => ?_) (fun E e e' ds f h => by cases f) (fun _ => by simp only [evA]) (fun _ => by simp only [evT]) (fun _ => by simp only [evP]) (fun _ => by simp only [evI])
  · simp only [ev] at h
    split at h
    · rename_i e1 h1
      exact ev_if (ht.t E _ _ _ h1) (fun _ => ha.e E _ _ _ h) (fun z => nomatch z)
    · rename_i e1 h1
      exact ev_if (ht.t E _ _ _ h1) (fun z => nomatch z) (fun _ => hb.e E _ _ _ h)
    · cases h
  · simp only [ev] at h
    split at h
    · rename_i e1 h1
      have q := ht.nt _ _ _ n h1
      subst q
      exact ha.ne _ _ _ n h
    · rename_i e1 h1
      have q := ht.nt _ _ _ n h1
      subst q
      exact hb.ne _ _ _ n h
    · cases h
theorem xb {b : Bool} : isX (M := M) K π (.bool b) = isD K (.bool b) := by rw [isX]
theorem snd_andV (a b : Ex M K) (ha : Snd π a) (hb : Snd π b) : Snd π (.andV a b) := by
  refine snd_of (fun E e e' r h => ?_) (fun e e' r n h => ?_) (fun E e e' ds f h => by cases f) (fun _ => by simp only [evA]) (fun _ => by simp only [evT]) (fun _ => by simp only [evP]) (fun _ => by simp only [evI])
  · simp only [ev] at h
    split at h
    · rename_i e1 h1
      have z1 : Ev E (den E a).e (ofE M K π e) (.val (isX K π (.bool true))) (ofE M K π e1) := ha.e E _ _ _ h1
      rw [xb] at z1
      split at h
      · rename_i c e2 h2
        cases h
        have z2 : Ev E (den E b).e (ofE M K π e1) (.val (isX K π (.bool c))) (ofE M K π e') := hb.e E _ _ _ h2
        rw [xb] at z2
        show Ev E _ _ (.val (isX K π (.bool c))) _
        rw [xb]
        exact ev_andV (a := true) z1 (fun _ => z2) (fun z => nomatch z)
      · cases h
    · rename_i e1 h1
      cases h
      have z1 : Ev E (den E a).e (ofE M K π e) (.val (isX K π (.bool false))) (ofE M K π e') := ha.e E _ _ _ h1
      rw [xb] at z1
      show Ev E _ _ (.val (isX K π (.bool false))) _
      rw [xb]
      exact ev_andV (a := false) (b := false) z1 (fun z => nomatch z) (fun _ => rfl)
    · cases h
  · simp only [ev] at h
    split at h
    · rename_i e1 h1
      have q := ha.ne _ _ _ n h1
      subst q
      split at h
      · rename_i c e2 h2
        cases h
        exact hb.ne _ _ _ n h2
      · cases h
    · rename_i e1 h1
      cases h
      exact ha.ne _ _ _ n h1
    · cases h
theorem snd_orV (a b : Ex M K) (ha : Snd π a) (hb : Snd π b) : Snd π (.orV a b) := by
  refine snd_of (fun E e e' r h => ?_) (fun e e' r n h => ?_) (fun E e e' ds f h => by cases f) (fun _ => by simp only [evA]) (fun _ => by simp only [evT]) (fun _ => by simp only [evP]) (fun _ => by simp only [evI])
  · simp only [ev] at h
    split at h
    · rename_i e1 h1
      have z1 : Ev E (den E a).e (ofE M K π e) (.val (isX K π (.bool false))) (ofE M K π e1) := ha.e E _ _ _ h1
      rw [xb] at z1
      split at h
      · rename_i c e2 h2
        cases h
        have z2 : Ev E (den E b).e (ofE M K π e1) (.val (isX K π (.bool c))) (ofE M K π e') := hb.e E _ _ _ h2
        rw [xb] at z2
        show Ev E _ _ (.val (isX K π (.bool c))) _
        rw [xb]
        exact ev_orV (a := false) z1 (fun _ => z2) (fun z => nomatch z)
      · cases h
    · rename_i e1 h1
      cases h
      have z1 : Ev E (den E a).e (ofE M K π e) (.val (isX K π (.bool true))) (ofE M K π e') := ha.e E _ _ _ h1
      rw [xb] at z1
      show Ev E _ _ (.val (isX K π (.bool true))) _
      rw [xb]
      exact ev_orV (a := true) (b := false) z1 (fun z => nomatch z) (fun _ => rfl)
    · cases h
  · simp only [ev] at h
    split at h
    · rename_i e1 h1
      have q := ha.ne _ _ _ n h1
      subst q
      split at h
      · rename_i c e2 h2
        cases h
        exact hb.ne _ _ _ n h2
      · cases h
    · rename_i e1 h1
      cases h
      exact ha.ne _ _ _ n h1
    · cases h
theorem snd_notV (a : Ex M K) (ha : Snd π a) : Snd π (.notV a) := by
  refine snd_of (fun E e e' r h => ?_) (fun e e' r n h => ?_) (fun E e e' ds f h => by cases f) (fun _ => by simp only [evA]) (fun _ => by simp only [evT]) (fun _ => by simp only [evP]) (fun _ => by simp only [evI])
  · simp only [ev] at h
    split at h
    · rename_i c e1 h1
      cases h
      have z1 : Ev E (den E a).e (ofE M K π e) (.val (isX K π (.bool c))) (ofE M K π e') := ha.e E _ _ _ h1
      rw [xb] at z1
      show Ev E _ _ (.val (isX K π (.bool (!c)))) _
      rw [xb]
      exact ev_notV z1
    · cases h
  · simp only [ev] at h
    split at h
    · rename_i c e1 h1
      cases h
      exact ha.ne _ _ _ n h1
    · cases h
theorem snd_bor (a : Ex M K) (ha : Snd π a) : Snd π (.bor a) := by
  refine snd_of (fun E e e' r h => ?_) (fun e e' r n h => ?_) (fun E e e' ds f h => ?_) (fun _ => by simp only [evA]) (fun _ => by simp only [evT]) (fun _ => by simp only [evP]) (fun _ => by simp only [evI])
  · have h0 := h
    simp only [ev] at h
    split at h
    · rename_i d e1 h1
      split at h
      · rename_i nl
        cases h
        exact ev_bor (ha.e E _ _ _ h1) nl
      · split at h
        · rename_i ds' _
          split at h
          · rename_i nl
            rw [Bool.and_eq_true] at nl
            cases h
            have z := eo_ev (E := E) (eo_bor (ha.o E _ _ _ nl.1 h1) nl.2)
            show Ev E _ _ (.val (isX K π (.list _))) _
            rw [isX]
            exact z
          · cases h
        · cases h
    · cases h
  · simp only [ev] at h
    split at h
    · rename_i d e1 h1
      split at h
      · cases h; rfl
      · split at h
        · split at h
          · cases h; rfl
          · cases h
        · cases h
    · cases h
  · simp only [ev] at h
    split at h
    · rename_i d e1 h1
      split at h
      · rename_i nl
        cases h
        simp [noList] at nl
      · split at h
        · rename_i ds' _
          split at h
          · rename_i nl
            rw [Bool.and_eq_true] at nl
            cases h
            exact eo_bor (ha.o E _ _ _ f h1) nl.2
          · cases h
        · cases h
    · cases h
theorem snd_sl (a lo hi : Ex M K) (ha : Snd π a) (hlo : Snd π lo) (hhi : Snd π hi) (nlo : ∀ (e e' : Vs) (o : Option Int), NoOwn e → evP e lo = some (o, e') → e' = e) (nhi : ∀ (e e' : Vs) (o : Option Int), NoOwn e → evP e hi = some (o, e') → e' = e) : Snd π (.sl a lo hi) := by
  have key : ∀ (E : XK) (e e' : Vs) (ds : List Dt), ev e (.sl a lo hi) = some (.ok (.list ds), e') → EvO (den E (.sl a lo hi)).e (ofE M K π e) (owL (isXs K π ds)) (ofE M K π e') := fun E e e' ds h => by
    simp only [ev] at h
    split at h
    · rename_i x e1 h1
      split at h
      · rename_i l e2 h2
        split at h
        · rename_i u e3 h3
          split at h
          · cases h
          · rename_i ds'
            cases h
            dsimp only [den]
            have z2 : Ev E (den E a).e (ofE M K π e) (.val (isX K π (.list ds'))) (ofE M K π e1) := ha.e E _ _ _ h1
            rw [isX] at z2
            have z := eo_slL (K := K) (ev_anyE (E' := fun _ _ _ => False) z2) (hlo.p E _ _ _ h2) (hhi.p E _ _ _ h3)
            rw [isXs_map, cutL_map, ← isXs_map] at z
            exact z
          · split at h
            · cases h
            · cases h
          · cases h
        · cases h
      · cases h
    · cases h
  refine snd_of (fun E e e' r h => ?_) (fun e e' r n h => ?_) (fun E e e' ds f h => key E e e' ds h) (fun _ => by simp only [evA]) (fun _ => by simp only [evT]) (fun _ => by simp only [evP]) (fun _ => by simp only [evI])
  · have h0 := h
    simp only [ev] at h
    split at h
    · rename_i x e1 h1
      split at h
      · rename_i l e2 h2
        split at h
        · rename_i u e3 h3
          split at h
          · rename_i ds'
            cases h
            have z2 : Ev E (den E a).e (ofE M K π e) (.val (isX K π (.tuple ds'))) (ofE M K π e1) := ha.e E _ _ _ h1
            rw [isX] at z2
            show Ev E _ _ (.val (isX K π (.tuple _))) _
            rw [isX]
            dsimp only [den]
            have z := ev_slTt (K := K) z2 (hlo.p E _ _ _ h2) (hhi.p E _ _ _ h3)
            rw [isXs_map, cutL_map, ← isXs_map] at z
            exact z
          · rename_i ds'
            cases h
            have z := eo_ev (E := E) (key E e e' _ h0)
            show Ev E _ _ (.val (isX K π (.list _))) _
            rw [isX]
            exact z
          · rename_i s'
            split at h
            · rename_i hl
              cases h
              have z2 : Ev E (den E a).e (ofE M K π e) (.val (isX K π (.str s'))) (ofE M K π e1) := ha.e E _ _ _ h1
              rw [isX] at z2
              show Ev E _ _ (.val (isX K π (.str _))) _
              rw [isX]
              dsimp only [den]
              exact ev_slS z2 (hlo.p E _ _ _ h2) (hhi.p E _ _ _ h3) hl
            · cases h
          · cases h
        · cases h
      · cases h
    · cases h
  · simp only [ev] at h
    split at h
    · rename_i x e1 h1
      have q := ha.ne _ _ _ n h1
      subst q
      split at h
      · rename_i l e2 h2
        have q := nlo _ _ _ n h2
        subst q
        split at h
        · rename_i u e3 h3
          have q := nhi _ _ _ n h3
          subst q
          split at h
          · cases h; rfl
          · cases h; rfl
          · split at h
            · cases h; rfl
            · cases h
          · cases h
        · cases h
      · cases h
    · cases h
theorem snd_sls (a lo hi st : Ex M K) (ha : Snd π a) (hlo : Snd π lo) (hhi : Snd π hi) (hst : Snd π st) (nlo : ∀ (e e' : Vs) (o : Option Int), NoOwn e → evP e lo = some (o, e') → e' = e) (nhi : ∀ (e e' : Vs) (o : Option Int), NoOwn e → evP e hi = some (o, e') → e' = e) (nst : ∀ (e e' : Vs) (o : Option Int), NoOwn e → evP e st = some (o, e') → e' = e) : Snd π (.sls a lo hi st) := by
  have key : ∀ (E : XK) (e e' : Vs) (ds : List Dt), ev e (.sls a lo hi st) = some (.ok (.list ds), e') → EvO (den E (.sls a lo hi st)).e (ofE M K π e) (owL (isXs K π ds)) (ofE M K π e') := fun E e e' ds h => by
    simp only [ev] at h
    split at h
    · rename_i x e1 h1
      split at h
      · rename_i l e2 h2
        split at h
        · rename_i u e3 h3
          split at h
          · rename_i c e4 h4
            split at h
            · rename_i hc
              split at h
              · split at h <;> cases h
              · rename_i ds'
                cases h
                dsimp only [den]
                have z2 : Ev E (den E a).e (ofE M K π e) (.val (isX K π (.list ds'))) (ofE M K π e1) := ha.e E _ _ _ h1
                rw [isX] at z2
                have z := eo_slsL (K := K) z2 (hlo.p E _ _ _ h2) (hhi.p E _ _ _ h3) (hst.p E _ _ _ h4) hc.1 hc.2
                rw [isXs_map, stepP_map, ← isXs_map] at z
                exact z
              · cases h
            · cases h
          · cases h
        · cases h
      · cases h
    · cases h
  refine snd_of (fun E e e' r h => ?_) (fun e e' r n h => ?_) (fun E e e' ds f h => key E e e' ds h) (fun _ => by simp only [evA]) (fun _ => by simp only [evT]) (fun _ => by simp only [evP]) (fun _ => by simp only [evI])
  · have h0 := h
    simp only [ev] at h
    split at h
    · rename_i x e1 h1
      split at h
      · rename_i l e2 h2
        split at h
        · rename_i u e3 h3
          split at h
          · rename_i c e4 h4
            split at h
            · rename_i hc
              split at h
              · rename_i ds'
                split at h
                · rename_i hz
                  cases h
                  have z2 : Ev E (den E a).e (ofE M K π e) (.val (isX K π (.tuple ds'))) (ofE M K π e1) := ha.e E _ _ _ h1
                  rw [isX] at z2
                  show Ev E _ _ (.val (isX K π (.tuple _))) _
                  rw [isX]
                  dsimp only [den]
                  have z := ev_slsT (K := K) (z2.le le_tt) (hlo.p E _ _ _ h2) (hhi.p E _ _ _ h3) (hst.p E _ _ _ h4) hc.1 hc.2 (by rw [isXs_map, stepL_map, List.length_map]; exact hz)
                  rw [isXs_map, stepL_map, ← isXs_map] at z
                  exact z
                · cases h
              · rename_i ds'
                cases h
                have z := eo_ev (E := E) (key E e e' _ h0)
                show Ev E _ _ (.val (isX K π (.list _))) _
                rw [isX]
                exact z
              · cases h
            · cases h
          · cases h
        · cases h
      · cases h
    · cases h
  · simp only [ev] at h
    split at h
    · rename_i x e1 h1
      have q := ha.ne _ _ _ n h1
      subst q
      split at h
      · rename_i l e2 h2
        have q := nlo _ _ _ n h2
        subst q
        split at h
        · rename_i u e3 h3
          have q := nhi _ _ _ n h3
          subst q
          split at h
          · rename_i c e4 h4
            have q := nst _ _ _ n h4
            subst q
            split at h
            · split at h
              · split at h
                · cases h; rfl
                · cases h
              · cases h; rfl
              · cases h
            · cases h
          · cases h
        · cases h
      · cases h
    · cases h
theorem snd_lcX (it tt x : Ex M K) (tg : Tg) (hi : Snd π it) (ht : Snd π tt) (hx : Snd π x) (ni : ∀ (e e' : Vs) (o : List Dt), NoOwn e → evI e it = some (o, e') → e' = e) : Snd π (.lc it tg tt x) := by
  have key : ∀ (E : XK) (e e' : Vs) (ds : List Dt), ev e (.lc it tg tt x) = some (.ok (.list ds), e') → EvO (den E (.lc it tg tt x)).e (ofE M K π e) (owL (isXs K π ds)) (ofE M K π e') := fun E e e' ds h => by
    simp only [ev] at h
    split at h
    · rename_i ds' e0 h1
      split at h
      · rename_i hl
        obtain ⟨rs, h2, h3⟩ := map_some h
        cases h3
        exact snd_lc hi ht hx h1 hl h2
      · cases h
    · cases h
  refine snd_of (fun E e e' r h => ?_) (fun e e' r n h => ?_) (fun E e e' ds f h => key E e e' ds h) (fun _ => by simp only [evA]) (fun _ => by simp only [evT]) (fun _ => by simp only [evP]) (fun _ => by simp only [evI])
  · have h0 := h
    simp only [ev] at h
    split at h
    · rename_i ds' e0 h1
      split at h
      · rename_i hl
        obtain ⟨rs, h2, h3⟩ := map_some h
        cases h3
        have z := eo_ev (E := E) (key E e _ _ h0)
        show Ev E _ _ (.val (isX K π (.list _))) _
        rw [isX]
        exact z
      · cases h
    · cases h
  · simp only [ev] at h
    split at h
    · rename_i ds' e0 h1
      split at h
      · obtain ⟨rs, h2, h3⟩ := map_some h
        cases h3
        exact ni _ _ _ n h1
      · cases h
    · cases h
theorem snd_test (B : Bool) (a : Ex M K) (ha : Snd π a) : Snd π (if B then .tst a else .tb a) := by
  have same : ∀ e, evT (M := M) (K := K) e (if B then .tst a else .tb a) = match ev e a with
    | some (.ok (.bool b), e1) => some (b, e1)
    | _ => none := fun e => by cases B <;> simp only [evT, if_true, Bool.false_eq_true, if_false] <;> rfl
  refine snd_t (fun E e e' b h => ?_) (fun e e' b n h => ?_) (fun _ => by cases B <;> simp [ev]) (fun _ => by cases B <;> simp [evA]) (fun _ => by cases B <;> simp [evP]) (fun _ => by cases B <;> simp [evI])
  · rw [same] at h
    split at h
    · rename_i c e1 h1
      cases h
      have z1 : Ev E (den E a).e (ofE M K π e) (.val (isX K π (.bool b))) (ofE M K π e') := ha.e E _ _ _ h1
      rw [xb] at z1
      cases B with
      | true => exact et_test z1
      | false => exact et_B z1
    · cases h
  · rw [same] at h
    split at h
    · rename_i c e1 h1
      cases h
      exact ha.ne _ _ _ n h1
    · cases h
theorem snd_tand (t u : Ex M K) (ht : Snd π t) (hu : Snd π u) : Snd π (.tand t u) := by
  refine snd_t (fun E e e' b h => ?_) (fun e e' b n h => ?_) (fun _ => by simp only [ev]) (fun _ => by simp only [evA]) (fun _ => by simp only [evP]) (fun _ => by simp only [evI])
  · simp only [evT] at h
    split at h
    · rename_i e1 h1
      exact et_and (a := true) (ht.t E _ _ _ h1) (fun _ => hu.t E _ _ _ h) (fun z => nomatch z)
    · rename_i e1 h1
      cases h
      exact et_and (a := false) (b := false) (ht.t E _ _ _ h1) (fun z => nomatch z) (fun _ => rfl)
    · cases h
  · simp only [evT] at h
    split at h
    · rename_i e1 h1
      have q := ht.nt _ _ _ n h1
      subst q
      exact hu.nt _ _ _ n h
    · rename_i e1 h1
      cases h
      exact ht.nt _ _ _ n h1
    · cases h
theorem snd_tor (t u : Ex M K) (ht : Snd π t) (hu : Snd π u) : Snd π (.tor t u) := by
  refine snd_t (fun E e e' b h => ?_) (fun e e' b n h => ?_) (fun _ => by simp only [ev]) (fun _ => by simp only [evA]) (fun _ => by simp only [evP]) (fun _ => by simp only [evI])
  · simp only [evT] at h
    split at h
    · rename_i e1 h1
      exact et_or (a := false) (ht.t E _ _ _ h1) (fun _ => hu.t E _ _ _ h) (fun z => nomatch z)
    · rename_i e1 h1
      cases h
      exact et_or (a := true) (b := false) (ht.t E _ _ _ h1) (fun z => nomatch z) (fun _ => rfl)
    · cases h
  · simp only [evT] at h
    split at h
    · rename_i e1 h1
      have q := ht.nt _ _ _ n h1
      subst q
      exact hu.nt _ _ _ n h
    · rename_i e1 h1
      cases h
      exact ht.nt _ _ _ n h1
    · cases h
theorem snd_tnot (t : Ex M K) (ht : Snd π t) : Snd π (.tnot t) := by
  refine snd_t (fun E e e' b h => ?_) (fun e e' b n h => ?_) (fun _ => by simp only [ev]) (fun _ => by simp only [evA]) (fun _ => by simp only [evP]) (fun _ => by simp only [evI])
  · simp only [evT] at h
    split at h
    · rename_i c e1 h1
      cases h
      exact et_not (ht.t E _ _ _ h1)
    · cases h
  · simp only [evT] at h
    split at h
    · rename_i c e1 h1
      cases h
      exact ht.nt _ _ _ n h1
    · cases h
theorem snd_tbor (t : Ex M K) (ht : Snd π t) : Snd π (.tbor t) := by
  refine snd_t (fun E e e' b h => ?_) (fun e e' b n h => ?_) (fun _ => by simp only [ev]) (fun _ => by simp only [evA]) (fun _ => by simp only [evP]) (fun _ => by simp only [evI])
  · simp only [evT] at h
    split at h
    · rename_i c e1 h1
      cases h
      exact et_bor (ht.t E _ _ _ h1)
    · cases h
  · simp only [evT] at h
    split at h
    · cases h; rfl
    · cases h
theorem snd_yes : Snd π (.yes : Ex M K) := by
  refine snd_t (fun E e e' b h => ?_) (fun e e' b n h => ?_) (fun _ => by simp only [ev]) (fun _ => by simp only [evA]) (fun _ => by simp only [evP]) (fun _ => by simp only [evI])
  · simp only [evT] at h
    cases h
    exact fun O F H σ Q w q => q F H .refl w
  · simp only [evT] at h
    cases h
    rfl
theorem snd_nob : Snd π (.nob : Ex M K) := by
  refine snd_p (fun E e e' b h => ?_) (fun _ => by simp only [ev]) (fun _ => by simp only [evA]) (fun _ => by simp only [evT]) (fun _ => by simp only [evI])
  simp only [evP] at h
  cases h
  exact ep_none
theorem snd_part (x : Ex M K) (hx : Snd π x) : Snd π (.part x) := by
  refine snd_p (fun E e e' b h => ?_) (fun _ => by simp only [ev]) (fun _ => by simp only [evA]) (fun _ => by simp only [evT]) (fun _ => by simp only [evI])
  simp only [evP] at h
  split at h
  · rename_i i e1 h1
    cases h
    have z1 : Ev E (den E x).e (ofE M K π e) (.val (isX K π (.int i))) (ofE M K π e') := hx.e E _ _ _ h1
    rw [isX] at z1
    exact ep_some (ev_anyE z1)
  · cases h
theorem snd_iseq (x : Ex M K) (hx : Snd π x) : Snd π (.iseq x) := by
  refine snd_i (fun E e e' ds h => ?_) (fun _ => by simp only [ev]) (fun _ => by simp only [evA]) (fun _ => by simp only [evT]) (fun _ => by simp only [evP])
  simp only [evI] at h
  split at h
  · rename_i ds' e1 h1
    cases h
    have z1 : Ev E (den E x).e (ofE M K π e) (.val (isX K π (.list ds))) (ofE M K π e') := hx.e E _ _ _ h1
    rw [isX] at z1
    have z := ei_seqL (K := K) (ev_anyE (E' := fun _ _ _ => False) z1)
    rw [isXs_length] at z
    exact z
  · rename_i ds' e1 h1
    cases h
    have z1 : Ev E (den E x).e (ofE M K π e) (.val (isX K π (.tuple ds))) (ofE M K π e') := hx.e E _ _ _ h1
    rw [isX] at z1
    have z := ei_seqT (K := K) (ev_anyE (E' := fun _ _ _ => False) (z1.le le_tt))
    rw [isXs_length] at z
    exact z
  · cases h
theorem snd_ienum (x : Ex M K) (hx : Snd π x) : Snd π (.ienum x) := by
  refine snd_i (fun E e e' ds h => ?_) (fun _ => by simp only [ev]) (fun _ => by simp only [evA]) (fun _ => by simp only [evT]) (fun _ => by simp only [evP])
  simp only [evI] at h
  split at h
  · rename_i ds' e1 h1
    cases h
    have z1 : Ev E (den E x).e (ofE M K π e) (.val (isX K π (.list ds'))) (ofE M K π e') := hx.e E _ _ _ h1
    rw [isX] at z1
    have z := ei_enumL (K := K) (ea_cons (ev_anyE (E' := fun _ _ _ => False) z1) ea_nil)
    rw [isXs_length] at z
    rw [enum_len]
    refine ei_ext z fun i hi => ?_
    have q := nth_enum (M := M) (K := K) (π := π) ds' 0 i hi
    rw [Nat.zero_add] at q
    exact q.symm
  · rename_i ds' e1 h1
    cases h
    have z1 : Ev E (den E x).e (ofE M K π e) (.val (isX K π (.tuple ds'))) (ofE M K π e') := hx.e E _ _ _ h1
    rw [isX] at z1
    have z := ei_enumT (K := K) (ea_cons (ev_anyE (E' := fun _ _ _ => False) (z1.le le_tt)) ea_nil)
    rw [isXs_length] at z
    rw [enum_len]
    refine ei_ext z fun i hi => ?_
    have q := nth_enum (M := M) (K := K) (π := π) ds' 0 i hi
    rw [Nat.zero_add] at q
    exact q.symm
  · cases h
theorem snd_irng (x : Ex M K) (hx : Snd π x) : Snd π (.irng x) := by
  refine snd_i (fun E e e' ds h => ?_) (fun _ => by simp only [ev]) (fun _ => by simp only [evA]) (fun _ => by simp only [evT]) (fun _ => by simp only [evP])
  simp only [evI] at h
  split at h
  · rename_i n e1 h1
    split at h
    · rename_i hn
      cases h
      have z1 : Ev E (den E x).e (ofE M K π e) (.val (isX K π (.int n))) (ofE M K π e') := hx.e E _ _ _ h1
      rw [isX] at z1
      have z := ei_range1 (K := K) (ea_cons (ev_anyE (E' := fun _ _ _ => False) z1) ea_nil) hn
      rw [List.length_map, List.length_range]
      refine ei_ext z fun i hi => ?_
      rw [nth_X _ _ (by rw [List.length_map, List.length_range]; exact hi), List.getD_eq_getElem?_getD, List.getElem?_map, List.getElem?_range hi]
      show _ = isX K π (.int _)
      rw [isX]
    · cases h
  · cases h
structure SndX (π : Pa) (x : Ex M K) : Prop extends Snd π x where
  np : ∀ (e e' : Vs) (o : Option Int), NoOwn e → evP e x = some (o, e') → e' = e
  ni : ∀ (e e' : Vs) (o : List Dt), NoOwn e → evI e x = some (o, e') → e' = e
theorem sndX_of {x : Ex M K} (h : Snd π x) (p : ∀ e, evP e x = none) (i : ∀ e, evI e x = none) : SndX π x := ⟨h, fun e _ _ _ q => (by rw [p] at q; cases q), fun e _ _ _ q => (by rw [i] at q; cases q)⟩
theorem snd_all : ∀ x : Ex M K, SndX π x := by
  intro x
  induction x with
  | var i =>
    refine sndX_of (snd_of (fun E e e' r h => ?_) (fun e e' r n h => ?_) (fun E e e' ds f h => by cases f) (fun _ => by simp only [evA]) (fun _ => by simp only [evT]) (fun _ => by simp only [evP]) (fun _ => by simp only [evI])) (fun _ => by simp only [evP]) (fun _ => by simp only [evI])
    · simp only [ev] at h
      split at h
      · rename_i d h1
        cases h
        exact ev_var (ofE_get h1)
      · cases h
    · simp only [ev] at h
      split at h
      · cases h; rfl
      · cases h
  | int i => exact sndX_of (snd_c (d := .int i) (fun E => rfl) (fun e => by simp only [ev]) (fun F => by rw [isX]; exact Dp.int i) rfl (fun _ => by simp only [evA]) (fun _ => by simp only [evT]) (fun _ => by simp only [evP]) (fun _ => by simp only [evI])) (fun _ => by simp only [evP]) (fun _ => by simp only [evI])
  | str i => exact sndX_of (snd_c (d := .str i) (fun E => rfl) (fun e => by simp only [ev]) (fun F => by rw [isX]; exact Dp.str i) rfl (fun _ => by simp only [evA]) (fun _ => by simp only [evT]) (fun _ => by simp only [evP]) (fun _ => by simp only [evI])) (fun _ => by simp only [evP]) (fun _ => by simp only [evI])
  | bl i => exact sndX_of (snd_c (d := .bool i) (fun E => rfl) (fun e => by simp only [ev]) (fun F => by rw [isX]; exact Dp.bl i) rfl (fun _ => by simp only [evA]) (fun _ => by simp only [evT]) (fun _ => by simp only [evP]) (fun _ => by simp only [evI])) (fun _ => by simp only [evP]) (fun _ => by simp only [evI])
  | non => exact sndX_of (snd_c (d := .none) (fun E => rfl) (fun e => by simp only [ev]) (fun F => by rw [isX]; exact Dp.non) rfl (fun _ => by simp only [evA]) (fun _ => by simp only [evT]) (fun _ => by simp only [evP]) (fun _ => by simp only [evI])) (fun _ => by simp only [evP]) (fun _ => by simp only [evI])
  | glo v d h => exact sndX_of (snd_c (d := d) (fun E => rfl) (fun e => by simp only [ev]) (h π) rfl (fun _ => by simp only [evA]) (fun _ => by simp only [evT]) (fun _ => by simp only [evP]) (fun _ => by simp only [evI])) (fun _ => by simp only [evP]) (fun _ => by simp only [evI])
  | op o a b ha hb => exact sndX_of (snd_op o a b ha.toSnd hb.toSnd) (fun _ => by simp only [evP]) (fun _ => by simp only [evI])
  | chain o o' a b c ha hb hc => exact sndX_of (snd_chain o o' a b c ha.toSnd hb.toSnd hc.toSnd) (fun _ => by simp only [evP]) (fun _ => by simp only [evI])
  | un o a ha => exact sndX_of (snd_un o a ha.toSnd) (fun _ => by simp only [evP]) (fun _ => by simp only [evI])
  | fn o a ha => exact sndX_of (snd_fn o a ha.toSnd) (fun _ => by simp only [evP]) (fun _ => by simp only [evI])
  | isi a T ha => exact sndX_of (snd_isi a T ha.toSnd) (fun _ => by simp only [evP]) (fun _ => by simp only [evI])
  | lsOf a ha => exact sndX_of (snd_lsOf a ha.toSnd) (fun _ => by simp only [evP]) (fun _ => by simp only [evI])
  | call s a ha => exact sndX_of (snd_call s a ha.toSnd) (fun _ => by simp only [evP]) (fun _ => by simp only [evI])
  | lend s i a ha => exact sndX_of (snd_lend s i a ha.toSnd) (fun _ => by simp only [evP]) (fun _ => by simp only [evI])
  | tup a ha => exact sndX_of (snd_tup a ha.toSnd) (fun _ => by simp only [evP]) (fun _ => by simp only [evI])
  | lst a ha => exact sndX_of (snd_lst a ha.toSnd) (fun _ => by simp only [evP]) (fun _ => by simp only [evI])
  | nil => exact sndX_of snd_nil (fun _ => by simp only [evP]) (fun _ => by simp only [evI])
  | cons a b ha hb => exact sndX_of (snd_cons a b ha.toSnd hb.toSnd) (fun _ => by simp only [evP]) (fun _ => by simp only [evI])
  | ifx t a b ht ha hb => exact sndX_of (snd_ifx t a b ht.toSnd ha.toSnd hb.toSnd) (fun _ => by simp only [evP]) (fun _ => by simp only [evI])
  | andV a b ha hb => exact sndX_of (snd_andV a b ha.toSnd hb.toSnd) (fun _ => by simp only [evP]) (fun _ => by simp only [evI])
  | orV a b ha hb => exact sndX_of (snd_orV a b ha.toSnd hb.toSnd) (fun _ => by simp only [evP]) (fun _ => by simp only [evI])
  | notV a ha => exact sndX_of (snd_notV a ha.toSnd) (fun _ => by simp only [evP]) (fun _ => by simp only [evI])
  | bor a ha => exact sndX_of (snd_bor a ha.toSnd) (fun _ => by simp only [evP]) (fun _ => by simp only [evI])
  | sl a lo hi ha hlo hhi => exact sndX_of (snd_sl a lo hi ha.toSnd hlo.toSnd hhi.toSnd hlo.np hhi.np) (fun _ => by simp only [evP]) (fun _ => by simp only [evI])
  | bad => exact ⟨snd_of (fun E e e' r h => by simp only [ev] at h; cases h) (fun e e' r n h => by simp only [ev] at h; cases h) (fun E e e' ds f h => by cases f) (fun _ => by simp only [evA]) (fun _ => by simp only [evT]) (fun _ => by simp only [evP]) (fun _ => by simp only [evI]), fun e e' o n h => (by simp only [evP] at h; cases h), fun e e' o n h => (by simp only [evI] at h; cases h)⟩
  | sls a lo hi st ha hlo hhi hst => exact sndX_of (snd_sls a lo hi st ha.toSnd hlo.toSnd hhi.toSnd hst.toSnd hlo.np hhi.np hst.np) (fun _ => by simp only [evP]) (fun _ => by simp only [evI])
  | lc it tg tt e hi ht he => exact sndX_of (snd_lcX it tt e tg hi.toSnd ht.toSnd he.toSnd hi.ni) (fun _ => by simp only [evP]) (fun _ => by simp only [evI])
  | yes => exact sndX_of snd_yes (fun _ => by simp only [evP]) (fun _ => by simp only [evI])
  | tst a ha => exact sndX_of (snd_test true a ha.toSnd) (fun _ => by simp only [evP]) (fun _ => by simp only [evI])
  | tb a ha => exact sndX_of (snd_test false a ha.toSnd) (fun _ => by simp only [evP]) (fun _ => by simp only [evI])
  | tand t u ht hu => exact sndX_of (snd_tand t u ht.toSnd hu.toSnd) (fun _ => by simp only [evP]) (fun _ => by simp only [evI])
  | tor t u ht hu => exact sndX_of (snd_tor t u ht.toSnd hu.toSnd) (fun _ => by simp only [evP]) (fun _ => by simp only [evI])
  | tnot t ht => exact sndX_of (snd_tnot t ht.toSnd) (fun _ => by simp only [evP]) (fun _ => by simp only [evI])
  | tbor t ht => exact sndX_of (snd_tbor t ht.toSnd) (fun _ => by simp only [evP]) (fun _ => by simp only [evI])
  | nob => exact ⟨snd_nob, fun e e' o n h => (by simp only [evP] at h; cases h; rfl), fun e e' o n h => (by simp only [evI] at h; cases h)⟩
  | part x hx => exact ⟨snd_part x hx.toSnd, fun e e' o n h => (by
      simp only [evP] at h
      split at h
      · rename_i i e1 h1
        cases h
        exact hx.ne _ _ _ n h1
      · cases h), fun e e' o n h => (by simp only [evI] at h; cases h)⟩
  | iseq x hx => exact ⟨snd_iseq x hx.toSnd, fun e e' o n h => (by simp only [evP] at h; cases h), fun e e' o n h => (by
      simp only [evI] at h
      split at h
      · rename_i ds e1 h1
        cases h
        exact hx.ne _ _ _ n h1
      · rename_i ds e1 h1
        cases h
        exact hx.ne _ _ _ n h1
      · cases h)⟩
  | ienum x hx => exact ⟨snd_ienum x hx.toSnd, fun e e' o n h => (by simp only [evP] at h; cases h), fun e e' o n h => (by
      simp only [evI] at h
      split at h
      · rename_i ds e1 h1
        cases h
        exact hx.ne _ _ _ n h1
      · rename_i ds e1 h1
        cases h
        exact hx.ne _ _ _ n h1
      · cases h)⟩
  | irng x hx => exact ⟨snd_irng x hx.toSnd, fun e e' o n h => (by simp only [evP] at h; cases h), fun e e' o n h => (by
      simp only [evI] at h
      split at h
      · rename_i ds e1 h1
        split at h
        · cases h
          exact hx.ne _ _ _ n h1
        · cases h
      · cases h)⟩
end Bc

set_option maxRecDepth 100000
set_option maxHeartbeats 4000000
/-! BcU: statements of the data language. -/
namespace Bc
open PySem PySem.Spec
open PyProof.Rows L2
variable {M : Hp → Hp → Prop} {K : PySem.W.Frag} {π : Pa}
inductive St (M : Hp → Hp → Prop) (K : PySem.W.Frag) where
  | nx
  | seq (s t : St M K)
  | ret (e : Ex M K)
  | retN
  /-- a list of one's own is returned -/
  | retO (i : Nat)
  | asg (tg : Tg) (e : Ex M K)
  | own (i : Nat) (e : Ex M K)
  | par (i j : Nat) (a b : Ex M K)
  | drop (e : Ex M K)
  | app (i : Nat) (e : Ex M K)
  | pop (i : Nat)
  | setO (i : Nat) (ix e : Ex M K)
  | ife (t : Ex M K) (a b : St M K)
  | wh (n : Nat) (t : Ex M K) (b : St M K)
  | fr (it : Ex M K) (tg : Tg) (b : St M K)
  | brk
  | cnt
  | rais (C : Value)
  | bad
def rMethV (K : PySem.W.Frag) (T : String) (r : V → List V → Hp → VK → Prop) (to : TE) (t : TA) : TE := fun σ H Q => to σ H fun x H1 => tyV K T x H1 ∧ t σ H1 fun xs H2 => r x xs H2 Q
def denS {M : Hp → Hp → Prop} {K : PySem.W.Frag} (E : XK) : St M K → TS
  | .nx => tNext
  | .seq s t => tSeq (denS E s) (denS E t)
  | .ret e => tRet (den E e).e
  | .retN => tRetN
  | .retO i => tRet (tVar i)
  | .asg tg e => tAsg (den E e).e (denG K tg)
  | .own i e => tAsg (den E e).e (gName i)
  | .par i j a b => tPar i j (tCons (den E a).e (tCons (den E b).e tNil))
  | .drop e => tDrop (den E e).e
  | .app i e => tDrop (tBM K "list" rAppend (tVar i) (tCons (den E e).e tNil))
  | .pop i => tDrop (tBM0 K "list" rPop (tVar i))
  | .setO i ix e => tAsg (den E e).e (gSub (tVar i) (den E ix).e rSetL)
  | .ife t a b => tIfS (den E t).t (denS E a) (denS E b)
  | .wh _ t b => tWhile (den E t).t (denS E b)
  | .fr it tg b => tFor (den E it).i (denG K tg) (denS E b)
  | .brk => tBreak
  | .cnt => tCont
  | .rais C => fun _ _ H => E C none H
  | .bad => fun _ _ _ => False
inductive Out where
  | nx (e : Vs)
  | rt (d : Dt) (e : Vs)
  | bk (e : Vs)
  | ct (e : Vs)
  | exc (C : Value)
def whl (t : Vs → Option (Bool × Vs)) (b : Vs → Option Out) : Nat → Vs → Option Out
  | 0, _ => none
  | n + 1, e => match t e with
    | some (true, e1) => match b e1 with
      | some (.nx e2) => whl t b n e2
      | some (.ct e2) => whl t b n e2
      | some (.bk e2) => some (.nx e2)
      | o => o
    | some (false, e1) => some (.nx e1)
    | none => none
def forl (tg : Tg) (b : Vs → Option Out) : List Dt → Vs → Option Out
  | [], e => some (.nx e)
  | d :: ds, e => match asgT e d tg with
    | some e1 => match b e1 with
      | some (.nx e2) => forl tg b ds e2
      | some (.ct e2) => forl tg b ds e2
      | some (.bk e2) => some (.nx e2)
      | o => o
    | none => none
def run {M : Hp → Hp → Prop} {K : PySem.W.Frag} : St M K → Vs → Option Out
  | .nx, e => some (.nx e)
  | .seq s t, e => match run s e with
    | some (.nx e1) => run t e1
    | o => o
  | .ret x, e => match ev e x with
    | some (.ok d, e1) => some (.rt d e1)
    | some (.exc C, _) => some (.exc C)
    | none => none
  | .retN, e => some (.rt .none e)
  | .retO i, e => match e[i]? with
    | some (.own _ ds) => some (.rt (.list ds) (e.set i .no))
    | _ => none
  | .asg tg x, e => match ev e x with
    | some (.ok d, e1) => match asgT e1 d tg with
      | some e2 => some (.nx e2)
      | none => none
    | some (.exc C, _) => some (.exc C)
    | none => none
  | .own i x, e => if fresh x then match ev e x with
    | some (.ok (.list ds), e1) => some (.nx (e1.set i (.own false ds)))
    | _ => none else none
  | .par i j a b, e => match ev e a with
    | some (.ok x, e1) => match ev e1 b with
      | some (.ok y, e2) => some (.nx ((e2.set i (.val x)).set j (.val y)))
      | _ => none
    | _ => none
  | .drop x, e => match ev e x with
    | some (.ok _, e1) => some (.nx e1)
    | some (.exc C, _) => some (.exc C)
    | none => none
  | .app i x, e => match ev e x with
    | some (.ok d, e1) => match e[i]?, e1[i]? with
      | some (.own _ _), some (.own q ds) => if ds.length < 1000000 then some (.nx (e1.set i (.own q (ds ++ [d])))) else none
      | _, _ => none
    | _ => none
  | .pop i, e => match e[i]? with
    | some (.own q ds) => if ds.length = 0 then none else some (.nx (e.set i (.own q ds.dropLast)))
    | _ => none
  | .setO i ix x, e => match ev e x with
    | some (.ok d, e1) => match ev e1 ix with
      | some (.ok (.int k), e2) => match e1[i]?, e2[i]? with
        | some (.own _ _), some (.own q ds) => match ixN ds.length k with
          | some j => some (.nx (e2.set i (.own q (ds.set j d))))
          | none => none
        | _, _ => none
      | _ => none
    | _ => none
  | .ife t a b, e => match evT e t with
    | some (true, e1) => run a e1
    | some (false, e1) => run b e1
    | none => none
  | .wh n t b, e => whl (fun e => evT e t) (run b) n e
  | .fr it tg b, e => match evI e it with
    | some (ds, e1) => forl tg (run b) ds e1
    | none => none
  | .brk, e => some (.bk e)
  | .cnt, e => some (.ct e)
  | .rais C, _ => some (.exc C)
  | .bad, _ => none
variable [g : GB M]
def poS (M : Hp → Hp → Prop) (K : PySem.W.Frag) (π : Pa) : Out → Po M
  | .nx e => { nx := fun Δ => Δ = ofE M K π e, rt := fun _ _ => False }
  | .rt d e => { nx := fun _ => False, rt := fun τ Δ => τ = isX K π d ∧ Δ = ofE M K π e }
  | .bk e => { nx := fun _ => False, rt := fun _ _ => False, bk := fun Δ => Δ = ofE M K π e }
  | .ct e => { nx := fun _ => False, rt := fun _ _ => False, ct := fun Δ => Δ = ofE M K π e }
  | .exc C => { nx := fun _ => False, rt := fun _ _ => False, ex := fun D => D = C }
section
variable {E : XK} {O : Addr → Prop} {F H F2 H2 : Hp} {σ : L2.St} {Γ Γ1 Γ2 Δ : List (Slot M)} {e e' : Vs} {P : Po M}
/-- own lists: append, pop, an item set, handed out -/
theorem own_of {i : Nat} {q : Bool} {ds : List Dt} (w : Wd O F H σ (ofE M K π e)) (h : e[i]? = some (.own q ds)) : ∃ p xs, σ[i]? = some (some (.ref p)) ∧ F p = none ∧ H p = some (.lst xs) ∧ Tys F xs (isXs (M := M) K π ds) ∧ ∀ a, pinOf π q = some a → p = a := by
  obtain ⟨p, o, a1, a2, a3, a0, xs, a4, a5⟩ := w.sl.own (ofE_get h)
  subst a4
  exact ⟨p, xs, a1, a2, a3, a5, a0⟩
theorem own_write {i : Nat} {q : Bool} {ds ds' : List Dt} {p : Addr} {xs xs' : List V} (w : Wd O F H σ (ofE M K π e)) (h : e[i]? = some (.own q ds)) (hp : σ[i]? = some (some (.ref p))) (hf : F p = none) (hh : H p = some (.lst xs)) (ht : Tys F xs' (isXs (M := M) K π ds')) (h0 : ∀ a, pinOf π q = some a → p = a) :
    Wd O F (upd H p (.lst xs')) σ (ofE M K π (e.set i (.own q ds'))) ∧ StepX M O F H F (upd H p (.lst xs')) := by
  rw [ofE_set]
  exact w.write (ofE_get h) hp hf hh (o' := .lst xs') (u' := owQ (pinOf π q) (isXs K π ds')) ⟨h0, xs', rfl, ht⟩
theorem es_ownQ {te : TE} {i : Nat} {ds : List Dt} {e1 : Vs} (h : EvO te (ofE M K π e) (owL (isXs K π ds)) (ofE M K π e1)) (p : P.nx (ofE M K π (e1.set i (.own false ds)))) : EvS E (tAsg te (gName i)) (ofE M K π e) P := fun O F H σ D w k =>
  h O F H σ _ w fun q o F2 H2 st w2 hO hf hh ht hn => k.nx _ _ F2 H2 p st (by
    rw [ofE_set]
    exact w2.setOwn hf hh (u := owQ (pinOf π false) (isXs K π ds)) ⟨(fun _ z => nomatch z), ht⟩ hO hn)
theorem tys_x {F : Hp} {xs : List V} {v : V} {ds : List Dt} {d : Dt} (h : Tys F xs (isXs (M := M) K π ds)) (hv : (isX (M := M) K π d).φ v F) : Tys F (xs ++ [v]) (isXs (M := M) K π (ds ++ [d])) := by
  rw [isXs_map, List.map_append, ← isXs_map]
  exact tys_snoc h hv
theorem es_app {te : TE} {i : Nat} {d : Dt} {q0 q1 : Bool} {ds0 ds : List Dt} {e1 : Vs} (h0 : e[i]? = some (.own q0 ds0)) (ha : Ev E te (ofE M K π e) (.val (isX K π d)) (ofE M K π e1)) (h1 : e1[i]? = some (.own q1 ds)) (hl : ds.length < 1000000) (p : P.nx (ofE M K π (e1.set i (.own q1 (ds ++ [d]))))) :
    EvS E (tDrop (tBM K "list" rAppend (tVar i) (tCons te tNil))) (ofE M K π e) P := fun O F H σ D w k => by
  obtain ⟨q, xs, a1, a2, a3, a4, a0⟩ := own_of w h0
  refine ⟨.ref q, a1, .inl ⟨rfl, xs, Or.inl (Or.inl a3)⟩, ?_⟩
  refine ha O F H σ _ w fun v F2 H2 st w2 hv => ?_
  obtain ⟨q', xs', b1, b2, b3, b4, b0⟩ := own_of w2 h1
  rw [a1] at b1
  injection b1 with b1; injection b1 with b1; injection b1 with b1
  subst b1
  refine ⟨q, xs', v, rfl, rfl, b3, ?_, ?_⟩
  · rw [b4.length, isXs_length]; exact Nat.lt_of_lt_of_le hl (by decide)
  · obtain ⟨w3, s3⟩ := own_write (ds' := ds ++ [d]) (xs' := xs' ++ [v]) w2 h1 a1 b2 b3 (tys_x b4 hv) b0
    exact k.nx _ _ _ _ p (st.trans s3) w3
theorem tys_dropLast {F : Hp} : ∀ {xs : List V} {τs : List (Ty M)}, Tys F xs τs → Tys F xs.dropLast τs.dropLast
  | _, _, .nil => .nil
  | _, _, .cons a .nil => .nil
  | _, _, .cons a (.cons b t) => .cons a (tys_dropLast (.cons b t))
theorem es_pop {i : Nat} {q1 : Bool} {ds : List Dt} (h0 : e[i]? = some (.own q1 ds)) (hl : ds.length ≠ 0) (p : P.nx (ofE M K π (e.set i (.own q1 ds.dropLast)))) :
    EvS E (tDrop (tBM0 K "list" rPop (tVar i))) (ofE M K π e) P := fun O F H σ D w k => by
  obtain ⟨q, xs, a1, a2, a3, a4, a0⟩ := own_of w h0
  have hx : xs.length = ds.length := by rw [a4.length, isXs_length]
  refine ⟨.ref q, a1, .inl ⟨rfl, xs, Or.inl (Or.inl a3)⟩, q, xs, xs[xs.length - 1]'(by omega), rfl, rfl, a3, List.getElem?_eq_getElem _, ?_⟩
  have t2 : Tys F xs.dropLast (isXs (M := M) K π ds.dropLast) := by
    rw [isXs_map, List.map_dropLast, ← isXs_map]
    exact tys_dropLast a4
  obtain ⟨w3, s3⟩ := own_write (ds' := ds.dropLast) (xs' := xs.dropLast) w h0 a1 a2 a3 t2 a0
  exact k.nx _ _ _ _ p s3 w3
theorem tys_set {F : Hp} {v : V} {τ : Ty M} (hv : τ.φ v F) : ∀ {xs : List V} {τs : List (Ty M)} (j : Nat), Tys F xs τs → Tys F (xs.set j v) (τs.set j τ)
  | _, _, _, .nil => .nil
  | _, _, 0, .cons a t => .cons hv t
  | _, _, j + 1, .cons a t => .cons a (tys_set hv j t)
theorem es_setO {te ti : TE} {i j : Nat} {k : Int} {d : Dt} {q0 q1 : Bool} {ds0 ds : List Dt} {e1 e2 : Vs} (ha : Ev E te (ofE M K π e) (.val (isX K π d)) (ofE M K π e1)) (hi : Ev E ti (ofE M K π e1) (.val (isX K π (.int k))) (ofE M K π e2)) (h0 : e1[i]? = some (.own q0 ds0)) (h1 : e2[i]? = some (.own q1 ds)) (hj : ixN ds.length k = some j)
    (p : P.nx (ofE M K π (e2.set i (.own q1 (ds.set j d))))) : EvS E (tAsg te (gSub (tVar i) ti rSetL)) (ofE M K π e) P := fun O F H σ D w kk => by
  refine ha O F H σ _ w fun v F1 H1 s1 w1 hv => ?_
  obtain ⟨q, xs, a1, a2, a3, a4, a0⟩ := own_of w1 h0
  refine ⟨.ref q, a1, ?_⟩
  refine hi O F1 H1 σ _ w1 fun u F2 H2 s2 w2 hu => ?_
  rw [isX] at hu
  cases (show Dp K F2 u (.int k) from hu)
  obtain ⟨q', xs', b1, b2, b3, b4, b0⟩ := own_of w2 h1
  rw [a1] at b1
  injection b1 with b1; injection b1 with b1; injection b1 with b1
  subst b1
  refine ⟨q, xs', k, j, rfl, rfl, b3, by rw [b4.length, isXs_length]; exact hj, ?_⟩
  have t2 : Tys F2 (xs'.set j v) (isXs (M := M) K π (ds.set j d)) := by
    rw [isXs_map, List.map_set, ← isXs_map]
    exact tys_set (Ty.mono _ s2.gw hv) j b4
  obtain ⟨w3, s3⟩ := own_write (ds' := ds.set j d) (xs' := xs'.set j v) w2 h1 a1 b2 b3 t2 b0
  exact kk.nx _ _ _ _ p ((s1.trans s2).trans s3) w3
theorem es_retO {i : Nat} {q1 : Bool} {ds : List Dt} (h0 : e[i]? = some (.own q1 ds)) (p : P.rt (isX K π (.list ds)) (ofE M K π (e.set i .no))) : EvS E (tRet (tVar i)) (ofE M K π e) P := fun O F H σ D w k => by
  obtain ⟨q, xs, a1, a2, a3, a4, a0⟩ := own_of w h0
  refine ⟨.ref q, a1, ?_⟩
  have hτ : (isX (M := M) K π (.list ds)).φ (.ref q) (upd F q (.lst xs)) := by
    rw [isX]
    exact ⟨q, xs, rfl, upd_same, a4.mono (Gw.new a2)⟩
  obtain ⟨w2, s2⟩ := w.freeze (ofE_get h0) a1 a2 a3 hτ
  have w3 : Wd O (upd F q (.lst xs)) H σ (ofE M K π (e.set i .no)) := by
    rw [ofE_set]
    have z := w2.le (Δ := (ofE M K π e).set i .any) (by
      have : ∀ (Γ : List (Slot M)) (i : Nat) (s : Slot M), SlsLe (Γ.set i s) (Γ.set i .any) := fun Γ => by
        induction Γ with
        | nil => intro i s; exact .nil
        | cons x r ih =>
          intro i s
          cases i with
          | zero => exact .cons trivial (SlsLe.refl r)
          | succ j => exact .cons (SlotLe.refl x) (ih j s)
      exact this _ _ _)
    exact z
  exact k.rt _ _ _ _ _ _ p s2 w3 hτ
def fitS (M : Hp → Hp → Prop) (K : PySem.W.Frag) (π : Pa) (E : XK) (s : St M K) : Prop := ∀ e o, run s e = some o → EvS E (denS E s) (ofE M K π e) (poS M K π o)
theorem es_of {t : TS} {o : Out} (h : EvS E t Γ (poS M K π o)) (nx : ∀ e, o = .nx e → P.nx (ofE M K π e)) (rt : ∀ d e, o = .rt d e → P.rt (isX K π d) (ofE M K π e)) (bk : ∀ e, o = .bk e → P.bk (ofE M K π e)) (ct : ∀ e, o = .ct e → P.ct (ofE M K π e)) (ex : ∀ C, o = .exc C → P.ex C) : EvS E t Γ P := by
  refine h.imp (fun Δ q => ?_) (fun τ Δ q => ?_) (fun Δ q => ?_) (fun Δ q => ?_) (fun C q => ?_)
  · cases o with
    | nx e => cases q; exact nx e rfl
    | _ => exact q.elim
  · cases o with
    | rt d e => obtain ⟨q1, q2⟩ := q; subst q1 q2; exact rt d e rfl
    | _ => exact q.elim
  · cases o with
    | bk e => cases q; exact bk e rfl
    | _ => exact q.elim
  · cases o with
    | ct e => cases q; exact ct e rfl
    | _ => exact q.elim
  · cases o with
    | exc C => cases q; exact ex _ rfl
    | _ => exact q.elim
theorem whl_sound {t : Ex M K} {b : St M K} (hb : fitS M K π E b) (n : Nat) (e : Vs) (o : Out) (h : whl (fun e => evT e t) (run b) n e = some o) : EvS E (tWhile (den E t).t (denS E b)) (ofE M K π e) (poS M K π o) := by
  refine es_while (fun m Δ => ∃ e, Δ = ofE M K π e ∧ whl (fun e => evT e t) (run b) m e = some o) n ⟨e, rfl, h⟩ ?_
  rintro m Δ ⟨e, rfl, h⟩
  cases m with
  | zero => cases h
  | succ m =>
    rw [whl] at h
    split at h
    · rename_i e1 h1
      refine ⟨true, _, (snd_all t).t E _ _ _ h1, fun _ => ?_, fun z => nomatch z⟩
      split at h
      · rename_i e2 h2
        refine es_of (hb _ _ h2) (fun e q => ?_) (fun _ _ q => nomatch q) (fun _ q => nomatch q) (fun _ q => nomatch q) (fun _ q => nomatch q)
        cases q
        exact ⟨m, Nat.lt_succ_self m, e2, rfl, h⟩
      · rename_i e2 h2
        refine es_of (hb _ _ h2) (fun e q => nomatch q) (fun _ _ q => nomatch q) (fun _ q => nomatch q) (fun _ q => ?_) (fun _ q => nomatch q)
        cases q
        exact ⟨m, Nat.lt_succ_self m, e2, rfl, h⟩
      · rename_i e2 h2
        cases h
        refine es_of (hb _ _ h2) (fun e q => nomatch q) (fun _ _ q => nomatch q) (fun _ q => ?_) (fun _ q => nomatch q) (fun _ q => nomatch q)
        cases q
        exact rfl
      · rename_i n1 n2 n3
        refine es_of (hb _ _ h) (fun e q => ?_) (fun _ _ q => ?_) (fun _ q => ?_) (fun _ q => ?_) (fun _ q => ?_)
        · subst q; exact absurd h (n1 _)
        · subst q; exact ⟨rfl, rfl⟩
        · subst q; exact absurd h (n3 _)
        · subst q; exact absurd h (n2 _)
        · subst q; exact rfl
    · rename_i e1 h1
      cases h
      exact ⟨false, _, (snd_all t).t E _ _ _ h1, (fun z => nomatch z), fun _ => rfl⟩
    · cases h
theorem forl_sound {tg : Tg} {b : St M K} (hb : fitS M K π E b) {wi : TI} {ds : List Dt} {e e1 : Vs} {o : Out} (hi : EvI wi (ofE M K π e) ds.length (nth (isXs K π ds)) (ofE M K π e1)) (h : forl tg (run b) ds e1 = some o) : EvS E (tFor wi (denG K tg) (denS E b)) (ofE M K π e) (poS M K π o) := by
  have dr : ∀ i, i < ds.length → ds.drop i = ds.getD i .none :: ds.drop (i + 1) := fun i hi => by
    rw [List.drop_eq_getElem_cons hi, List.getD_eq_getElem?_getD, List.getElem?_eq_getElem hi]
    rfl
  refine es_for hi (fun i Δ => (∃ e, Δ = ofE M K π e ∧ forl tg (run b) (ds.drop i) e = some o)) ⟨e1, rfl, h⟩ (fun i Δ hi ⟨e, q, h⟩ => ?_) (fun Δ ⟨e, q, h⟩ => ?_)
  · subst q
    rw [dr i hi, forl] at h
    split at h
    · rename_i e2 h1
      refine ⟨ofE M K π e2, by rw [nth_X _ _ hi]; exact g_sound h1, ?_⟩
      split at h
      · rename_i e3 h2
        refine es_of (hb _ _ h2) (fun e q => ?_) (fun _ _ q => nomatch q) (fun _ q => nomatch q) (fun _ q => nomatch q) (fun _ q => nomatch q)
        cases q
        exact ⟨e3, rfl, h⟩
      · rename_i e3 h2
        refine es_of (hb _ _ h2) (fun e q => nomatch q) (fun _ _ q => nomatch q) (fun _ q => nomatch q) (fun _ q => ?_) (fun _ q => nomatch q)
        cases q
        exact ⟨e3, rfl, h⟩
      · rename_i e3 h2
        cases h
        refine es_of (hb _ _ h2) (fun e q => nomatch q) (fun _ _ q => nomatch q) (fun _ q => ?_) (fun _ q => nomatch q) (fun _ q => nomatch q)
        cases q
        exact rfl
      · rename_i n1 n2 n3
        refine es_of (hb _ _ h) (fun e q => ?_) (fun _ _ q => ?_) (fun _ q => ?_) (fun _ q => ?_) (fun _ q => ?_)
        · subst q; exact absurd h (n1 _)
        · subst q; exact ⟨rfl, rfl⟩
        · subst q; exact absurd h (n3 _)
        · subst q; exact absurd h (n2 _)
        · subst q; exact rfl
    · cases h
  · subst q
    rw [List.drop_eq_nil_of_le (Nat.le_refl _), forl] at h
    cases h
    exact rfl
theorem fit_all (s : St M K) : fitS M K π E s := by
  induction s with
  | nx => intro e o h; rw [run] at h; cases h; exact es_nil rfl
  | seq s t hs ht =>
    intro e o h
    rw [run] at h
    split at h
    · rename_i e1 h1
      refine es_seq (fun Δ => Δ = ofE M K π e1) ?_ (fun Δ q => q ▸ ht _ _ h)
      refine es_of (hs _ _ h1) (fun e q => ?_) (fun _ _ q => nomatch q) (fun _ q => nomatch q) (fun _ q => nomatch q) (fun _ q => nomatch q)
      cases q
      rfl
    · rename_i n1
      refine es_seq (fun _ => False) ?_ (fun Δ q => q.elim)
      refine es_of (hs _ _ h) (fun e q => ?_) (fun _ _ q => ?_) (fun _ q => ?_) (fun _ q => ?_) (fun _ q => ?_)
      · subst q; exact absurd h (n1 _)
      · subst q; exact ⟨rfl, rfl⟩
      · subst q; exact rfl
      · subst q; exact rfl
      · subst q; exact rfl
  | ret x =>
    intro e o h
    rw [run] at h
    split at h
    · rename_i d e1 h1
      cases h
      exact es_ret ((snd_all x).e E _ _ _ h1) ⟨rfl, rfl⟩
    · rename_i C e1 h1
      cases h
      exact es_ret_exc ((snd_all x).e E _ _ _ h1) rfl
    · cases h
  | retN =>
    intro e o h
    rw [run] at h
    cases h
    exact fun O F H σ D w k => k.rt (isX K π .none) _ σ .non F H ⟨rfl, rfl⟩ .refl w (by rw [isX]; exact Dp.non)
  | retO i =>
    intro e o h
    rw [run] at h
    split at h
    · rename_i q0 ds h1
      cases h
      exact es_retO h1 ⟨rfl, rfl⟩
    · cases h
  | asg tg x =>
    intro e o h
    rw [run] at h
    split at h
    · rename_i d e1 h1
      split at h
      · rename_i e2 h2
        cases h
        exact es_asgG ((snd_all x).e E _ _ _ h1) (g_sound h2) rfl
      · cases h
    · rename_i C e1 h1
      cases h
      exact es_asg_exc ((snd_all x).e E _ _ _ h1) rfl
    · cases h
  | own i x =>
    intro e o h
    rw [run] at h
    split at h
    · rename_i hf
      split at h
      · rename_i ds e1 h1
        cases h
        exact es_ownQ ((snd_all x).o E _ _ _ hf h1) rfl
      · cases h
    · cases h
  | par i j a b =>
    intro e o h
    rw [run] at h
    split at h
    · rename_i x e1 h1
      split at h
      · rename_i y e2 h2
        cases h
        refine es_par (ea_cons ((snd_all a).e E _ _ _ h1) (ea_cons ((snd_all b).e E _ _ _ h2) ea_nil)) ?_
        rw [← show slotOf M K π (.val x) = .ty (isX K π x) from rfl, ← show slotOf M K π (.val y) = .ty (isX K π y) from rfl, ← ofE_set, ← ofE_set]
        exact rfl
      · cases h
    · cases h
  | drop x =>
    intro e o h
    rw [run] at h
    split at h
    · rename_i d e1 h1
      cases h
      exact es_drop ((snd_all x).e E _ _ _ h1) rfl
    · rename_i C e1 h1
      cases h
      exact es_drop_exc ((snd_all x).e E _ _ _ h1) rfl
    · cases h
  | app i x =>
    intro e o h
    rw [run] at h
    split at h
    · rename_i d e1 h1
      split at h
      · rename_i q0 ds0 q1 ds h2 h3
        split at h
        · rename_i hl
          cases h
          exact es_app h2 ((snd_all x).e E _ _ _ h1) h3 hl rfl
        · cases h
      · cases h
    · cases h
  | pop i =>
    intro e o h
    rw [run] at h
    split at h
    · rename_i q0 ds h1
      split at h
      · cases h
      · rename_i hl
        cases h
        exact es_pop h1 hl rfl
    · cases h
  | setO i ix x =>
    intro e o h
    rw [run] at h
    split at h
    · rename_i d e1 h1
      split at h
      · rename_i k e2 h2
        split at h
        · rename_i q0 ds0 q1 ds h3 h4
          split at h
          · rename_i j hj
            cases h
            exact es_setO ((snd_all x).e E _ _ _ h1) ((snd_all ix).e E _ _ _ h2) h3 h4 hj rfl
          · cases h
        · cases h
      · cases h
    · cases h
  | ife t a b ha hb =>
    intro e o h
    rw [run] at h
    split at h
    · rename_i e1 h1
      exact es_if ((snd_all t).t E _ _ _ h1) (fun _ => ha _ _ h) (fun z => nomatch z)
    · rename_i e1 h1
      exact es_if ((snd_all t).t E _ _ _ h1) (fun z => nomatch z) (fun _ => hb _ _ h)
    · cases h
  | wh n t b hb =>
    intro e o h
    rw [run] at h
    exact whl_sound hb n e o h
  | fr it tg b hb =>
    intro e o h
    rw [run] at h
    split at h
    · rename_i ds e1 h1
      exact forl_sound hb ((snd_all it).i E _ _ _ h1) h
    · cases h
  | brk => intro e o h; rw [run] at h; cases h; exact es_break rfl
  | cnt => intro e o h; rw [run] at h; cases h; exact es_cont rfl
  | rais C => intro e o h; rw [run] at h; cases h; exact fun O F H σ D w k => k.ex C rfl F H w.sub .refl
  | bad => intro e o h; rw [run] at h; cases h
/-! ### defs -/
def retOf : Option Out → Option Rd
  | some (.rt d _) => some (.ok d)
  | some (.nx _) => some (.ok .none)
  | some (.exc C) => some (.exc C)
  | _ => none
def env0 (n : Nat) (as : List Dt) : Vs := as.map .val ++ List.replicate (n - as.length) .no
theorem ofE_env0 (n : Nat) (as : List Dt) : ofE M K π (env0 n as) = slots0 n (isXs K π as) := by
  unfold ofE env0 slots0
  rw [isXs_length, List.map_append, List.map_map, List.map_replicate, isXs_map, List.map_map]
  rfl
theorem evs_fun {π : Pa} {s : St M K} {n : Nat} {as : List Dt} {rd : Rd} (h : retOf (run s (env0 n as)) = some rd) : EvS E (denS E s) (slots0 n (isXs K π as)) (poOf (reOf M K π rd)) := by
  rw [← ofE_env0 (π := π)]
  cases q : run s (env0 n as) with
  | none => rw [q] at h; cases h
  | some o =>
    rw [q] at h
    refine es_of (fit_all (π := π) s _ _ q) (fun e z => ?_) (fun d e z => ?_) (fun _ z => ?_) (fun _ z => ?_) (fun _ z => ?_) <;> subst z <;> cases h
    · exact ⟨_, rfl, fun F => by rw [isX]; exact Dp.non⟩
    · exact ⟨_, rfl, Le.refl _⟩
    · rfl
section
variable {P : Program} {w : World} {mg : Str → Option Value} {base : Heap}
/-- a def by its text in the data language -/
theorem DefAt.okX {x : Str} {st : Stmt} {N ps : List Str} {k : Nat} {f : List Dt → Option Rd} (D : DefAt K mg x st) (Sc : FnScope N ps (defScope st)) (hB : BindOk x st ps) (hl : ∀ as r, f as = some r → as.length = ps.length)
    (hb : ∀ as r, f as = some r → ∃ s : St M K, retOf (run s (env0 N.length as)) = some r ∧ ∀ (f : Addr) (cdv : Value) (A : Around) (outer : List Env) (s' : Shared) (H : Hp) (E : XK), Room k (A.deeper (envOfC x (defScope st) s'.heap.objs.size f cdv)) →
      PSs (ctx P w K mg base N x (defScope st) f cdv A outer s' H E) (defBody st) (denS E s)) : DefOk P w K mg base (k + 1) x ps (spD M K f) :=
  D.ok Sc hB (fun τs r ⟨π, as, rd, h1, h2, h3⟩ => by rw [h2, isXs_length]; exact hl as rd h1) fun f' cdv A outer s H E hr τs r ⟨π, as, rd, h1, h2, h3⟩ => by
    obtain ⟨s', h4, h5⟩ := hb as rd h1
    subst h2 h3
    exact ⟨denS E s', h5 f' cdv A outer s H E hr, evs_fun h4⟩
end
end
end Bc

set_option maxRecDepth 100000
set_option maxHeartbeats 4000000
/-! BcV: operators and built-ins of the data language. -/
namespace Bc
open PySem PySem.Spec
open PyProof.Rows L2
variable {M : Hp → Hp → Prop} [g : GB M] {K : PySem.W.Frag} {π : Pa}
theorem xi {i : Int} : isX (M := M) K π (.int i) = isD K (.int i) := by rw [isX]
theorem xs {i : Str} : isX (M := M) K π (.str i) = isD K (.str i) := by rw [isX]
theorem xn : isX (M := M) K π .none = isD K .none := by rw [isX]
theorem rr_leX {r : R2} {a b : Dt} {x y : PyData} {ω : Ty M} (ha : toPy a = some x) (hb : toPy b = some y) (h : RR r (isD K x) (isD K y) ω) : RR r (isX K π a) (isX K π b) ω := rr_le1 (rr_le2 h fun v F q => le_XD b y v F hb q) fun v F q => le_XD a x v F ha q
theorem pI {i : Int} : toPy (.int i) = some (.int i) := by rw [toPy]
theorem pS {i : Str} : toPy (.str i) = some (.str i) := by rw [toPy]
/-- int, int to a datum without lists -/
def fI (C : Int → Int → Bool) (f : Int → Int → Dt) : Dt → Dt → Option Dt
  | .int i, .int j => if C i j then some (f i j) else none
  | _, _ => none
theorem fI_is {C : Int → Int → Bool} {f : Int → Int → Dt} {a b c : Dt} (h : fI C f a b = some c) : ∃ i j, a = .int i ∧ b = .int j ∧ C i j = true ∧ c = f i j := by
  unfold fI at h
  split at h
  · rename_i i j
    split at h
    · rename_i hc
      cases h
      exact ⟨i, j, rfl, rfl, hc, rfl⟩
    · cases h
  · cases h
def oI (M : Hp → Hp → Prop) [g : GB M] (K : PySem.W.Frag) (r : R2) (C : Int → Int → Bool) (f : Int → Int → Dt) (hr : ∀ (π : Pa) i j, C i j = true → RR (M := M) r (isD K (.int i)) (isD K (.int j)) (isX K π (f i j))) (hl : ∀ i j ds, f i j ≠ .list ds) : O2 M K where
  r := r
  f := fI C f
  h := fun π a b c h => by
    obtain ⟨i, j, rfl, rfl, hc, rfl⟩ := fI_is h
    exact rr_leX pI pI (hr π i j hc)
  o := fun π a b ds h => by
    obtain ⟨i, j, rfl, rfl, hc, e⟩ := fI_is h
    exact absurd e.symm (hl i j ds)
def tt2 : Int → Int → Bool := fun _ _ => true
variable (M K)
def o_sub : O2 M K := oI M K (rI0 fun i j => .int (i - j)) tt2 (fun i j => .int (i - j)) (fun π i j _ => by rw [isX]; exact rr_sub) (fun _ _ _ z => nomatch z)
def o_lt : O2 M K := oI M K (rI0 fun i j => .bl (decide (i < j))) tt2 (fun i j => .bool (decide (i < j))) (fun π i j _ => by rw [isX]; exact rr_lt) (fun _ _ _ z => nomatch z)
def o_le : O2 M K := oI M K (rI0 fun i j => .bl (decide (i ≤ j))) tt2 (fun i j => .bool (decide (i ≤ j))) (fun π i j _ => by rw [isX]; exact rr_i0 fun _ => .bl _) (fun _ _ _ z => nomatch z)
def o_gt : O2 M K := oI M K (rI0 fun i j => .bl (decide (j < i))) tt2 (fun i j => .bool (decide (j < i))) (fun π i j _ => by rw [isX]; exact rr_gt) (fun _ _ _ z => nomatch z)
def o_ge : O2 M K := oI M K (rI0 fun i j => .bl (decide (j ≤ i))) tt2 (fun i j => .bool (decide (j ≤ i))) (fun π i j _ => by rw [isX]; exact rr_ge) (fun _ _ _ z => nomatch z)
def nz2 : Int → Int → Bool := fun _ j => !decide (j = 0)
theorem nz2_ne {i j : Int} (h : nz2 i j = true) : j ≠ 0 := by simpa [nz2] using h
def o_fdiv : O2 M K := oI M K (rI (fun _ j => j ≠ 0) fun i j => .int (i.fdiv j)) nz2 (fun i j => .int (i.fdiv j)) (fun π i j h => by rw [isX]; exact rr_i (nz2_ne h) fun _ => .int _) (fun _ _ _ z => nomatch z)
def o_mod : O2 M K := oI M K (rI (fun _ j => j ≠ 0) fun i j => .int (i.fmod j)) nz2 (fun i j => .int (i.fmod j)) (fun π i j h => by rw [isX]; exact rr_modN (nz2_ne h)) (fun _ _ _ z => nomatch z)
instance (i j : Int) : Decidable (CMulB i j) := by unfold CMulB; infer_instance
instance (i j : Int) : Decidable (CPow i j) := by unfold CPow; infer_instance
def powOk (i j : Int) : Bool := decide (CPow i j)
def o_pow : O2 M K := oI M K (rI CPow fun i j => .int (i ^ j.toNat)) powOk (fun i j => .int (i ^ j.toNat)) (fun π i j h => by rw [isX]; exact rr_pow (of_decide_eq_true h)) (fun _ _ _ z => nomatch z)
variable {M K}
/-- + -/
def fAdd : Dt → Dt → Option Dt
  | .int i, .int j => some (.int (i + j))
  | .list a, .list b => if a.length + b.length ≤ 1000000 then some (.list (a ++ b)) else none
  | .tuple a, .tuple b => if a.length + b.length ≤ 1000000 then some (.tuple (a ++ b)) else none
  | .ktup a, .tuple b => if a.length ≠ 0 ∧ b.length ≠ 0 ∧ a.length + b.length ≤ 1000000 then some (.tuple (a ++ b)) else none
  | .str a, .str b => if a.length + b.length ≤ 1000000 then some (.str (a ++ b)) else none
  | _, _ => none
theorem isXs_app (a b : List Dt) : isXs (M := M) K π (a ++ b) = isXs K π a ++ isXs K π b := by rw [isXs_map, isXs_map, isXs_map, List.map_append]
theorem rro_add {a b : List Dt} (hl : a.length + b.length ≤ 1000000) : RRo M K π (rAddU K) (isX K π (.list a)) (isX K π (.list b)) (a ++ b) := fun x y F H Q s hx hy q => by
  rw [isX] at hx hy
  obtain ⟨p1, xs, e1, h1, t1⟩ := hx
  obtain ⟨p2, ys, e2, h2, t2⟩ := hy
  refine .inr (.inl ⟨p1, p2, xs, ys, e1, e2, s _ _ h1, s _ _ h2, by rw [t1.length, t2.length, isXs_length, isXs_length]; exact Nat.le_trans hl (by decide), fun p hp => q p (xs ++ ys) hp ?_⟩)
  rw [isXs_app]
  exact tys_app t1 t2
def o_add (M : Hp → Hp → Prop) [g : GB M] (K : PySem.W.Frag) : O2 M K where
  r := rAddU K
  f := fAdd
  h := fun π a b c h => by
    unfold fAdd at h
    split at h
    · cases h
      rw [isX]
      exact rr_leX pI pI ru_addI
    · split at h
      · rename_i hl
        cases h
        rw [isX, isX, isX, isXs_app]
        exact ru_addL (by rw [isXs_length, isXs_length]; exact hl)
      · cases h
    · split at h
      · rename_i hl
        cases h
        rw [isX, isX, isX, isXs_app]
        exact ru_addTt (by rw [isXs_length, isXs_length]; exact hl)
      · cases h
    · split at h
      · rename_i hl
        cases h
        rw [isX, isX, isX, isXs_app]
        have ne : ∀ ds : List Dt, ds.length ≠ 0 → isXs (M := M) K π ds ≠ [] := fun ds h z => h (by rw [← isXs_length (M := M) (K := K) (π := π), z]; rfl)
        exact ru_addTk (ne _ hl.1) (ne _ hl.2.1) (by rw [isXs_length, isXs_length]; exact hl.2.2)
      · cases h
    · split at h
      · rename_i hl
        cases h
        rw [isX, isX, isX]
        exact ru_addS hl
      · cases h
    · cases h
  o := fun π a b ds h => by
    unfold fAdd at h
    split at h
    · cases h
    · split at h
      · rename_i hl
        cases h
        exact rro_add hl
      · cases h
    · split at h
      · cases h
      · cases h
    · split at h
      · cases h
      · cases h
    · split at h
      · cases h
      · cases h
    · cases h
/-- * -/
def fMul : Dt → Dt → Option Dt
  | .int i, .int j => if CMulB i j then some (.int (i * j)) else none
  | .list a, .int k => if k < 100000 ∧ a.length = 1 ∧ 0 ≤ k then some (.list (List.replicate k.toNat a).flatten) else none
  | _, _ => none
theorem tys_rep {F : Hp} {xs : List V} {τs : List (Ty M)} (h : Tys F xs τs) : ∀ k : Nat, Tys F (List.replicate k xs).flatten (List.replicate k τs).flatten
  | 0 => .nil
  | k + 1 => by
    rw [List.replicate_succ, List.replicate_succ, List.flatten_cons, List.flatten_cons]
    exact tys_app h (tys_rep h k)
theorem isXs_rep (a : List Dt) : ∀ k : Nat, isXs (M := M) K π (List.replicate k a).flatten = (List.replicate k (isXs (M := M) K π a)).flatten
  | 0 => by rw [List.replicate_zero, List.replicate_zero, List.flatten_nil, List.flatten_nil, isXs]
  | k + 1 => by rw [List.replicate_succ, List.replicate_succ, List.flatten_cons, List.flatten_cons, isXs_app, isXs_rep a k]
theorem rro_mul {a : List Dt} {k : Int} (h : k < 100000 ∧ a.length = 1 ∧ 0 ≤ k) : RRo M K π (rMulU K) (isX K π (.list a)) (isX K π (.int k)) (List.replicate k.toNat a).flatten := fun x y F H Q s hx hy q => by
  rw [xi] at hy
  rw [isX] at hx
  obtain ⟨p1, xs, e1, h1, t1⟩ := hx
  cases (show Dp K F y (.int k) from hy)
  have hl : xs.length = 1 := by rw [t1.length, isXs_length]; exact h.2.1
  refine .inr (.inl ⟨p1, k, xs, e1, rfl, s _ _ h1, by omega, by omega, ?_, fun p hp => q p _ hp ?_⟩)
  · rw [hl, Nat.one_mul]
    have : k.toNat ≤ 100000 := by omega
    exact Nat.le_trans this (by decide)
  · rw [isXs_rep]
    exact tys_rep t1 _
theorem rr_of_o {r : R2} {τ υ : Ty M} {ds : List Dt} (h : RRo M K π r τ υ ds) : RR r τ υ (isX K π (.list ds)) := fun x y F H Q s hx hy q =>
  h x y F H Q s hx hy fun p vs hp ht => by
    have st := Step.new (M := M) (o := .lst vs) s hp
    refine q _ _ _ st ?_
    rw [isX]
    exact ⟨p, vs, rfl, upd_same, ht.mono st.gw⟩
def o_mul (M : Hp → Hp → Prop) [g : GB M] (K : PySem.W.Frag) : O2 M K where
  r := rMulU K
  f := fMul
  h := fun π a b c h => by
    unfold fMul at h
    split at h
    · split at h
      · rename_i hc
        cases h
        rw [isX, isX, isX]
        exact ru_mulI hc
      · cases h
    · split at h
      · rename_i hc
        cases h
        exact rr_of_o (rro_mul hc)
      · cases h
    · cases h
  o := fun π a b ds h => by
    unfold fMul at h
    split at h
    · split at h <;> cases h
    · split at h
      · rename_i hc
        cases h
        exact rro_mul hc
      · cases h
    · cases h
/-- ==, != -/
def fEq (neg : Bool) (a b : Dt) : Option Dt := match toPy a, toPy b with
  | some x, some y => if SeqAt.shaped x && SeqAt.shaped y then some (.bool (if neg then !PyData.eqv x y else PyData.eqv x y)) else none
  | _, _ => none
theorem fEq_is {neg : Bool} {a b c : Dt} (h : fEq neg a b = some c) : ∃ x y, toPy a = some x ∧ toPy b = some y ∧ SeqAt.shaped x = true ∧ SeqAt.shaped y = true ∧ c = .bool (if neg then !PyData.eqv x y else PyData.eqv x y) := by
  unfold fEq at h
  split at h
  · rename_i x y h1 h2
    split at h
    · rename_i hs
      rw [Bool.and_eq_true] at hs
      cases h
      exact ⟨x, y, h1, h2, hs.1, hs.2, rfl⟩
    · cases h
  · cases h

def o_eq (M : Hp → Hp → Prop) [g : GB M] (K : PySem.W.Frag) : O2 M K where
  r := rEqD K
  f := fEq false
  h := fun π a b c h => by
    obtain ⟨x, y, h1, h2, h3, h4, h5⟩ := fEq_is h
    subst h5
    rw [xb]
    exact rr_leX h1 h2 (rr_eqD h3 h4)
  o := fun π a b ds h => by
    obtain ⟨x, y, h1, h2, h3, h4, h5⟩ := fEq_is h
    cases h5
def o_ne (M : Hp → Hp → Prop) [g : GB M] (K : PySem.W.Frag) : O2 M K where
  r := rNeD K
  f := fEq true
  h := fun π a b c h => by
    obtain ⟨x, y, h1, h2, h3, h4, h5⟩ := fEq_is h
    subst h5
    rw [xb]
    exact rr_leX h1 h2 (rr_neD h3 h4)
  o := fun π a b ds h => by
    obtain ⟨x, y, h1, h2, h3, h4, h5⟩ := fEq_is h
    cases h5
/-- x[i] -/
def fIx : Dt → Dt → Option Dt
  | .list ds, .int i => atI ds i
  | .tuple ds, .int i => atI ds i
  | _, _ => none
theorem atI_X {ds : List Dt} {i : Int} {d : Dt} (h : atI ds i = some d) : atI (isXs (M := M) K π ds) i = some (isX K π d) := by
  rw [isXs_map]
  exact atI_map h
theorem atI_mem {α : Type} {xs : List α} {i : Int} {x : α} (h : atI xs i = some x) : x ∈ xs := by
  unfold atI at h
  cases q : ixN xs.length i with
  | none => rw [q] at h; cases h
  | some j => rw [q] at h; exact List.mem_of_getElem? h
def fIxN (a b : Dt) : Option Dt := match fIx a b with
  | some (.list _) => none
  | o => o
def o_ix (M : Hp → Hp → Prop) [g : GB M] (K : PySem.W.Frag) : O2 M K where
  r := rIx K
  f := fIxN
  h := fun π a b c h => by
    have h2 : fIx a b = some c := by
      unfold fIxN at h
      split at h
      · cases h
      · exact h
    unfold fIx at h2
    split at h2
    · rw [isX, isX]
      exact ru_ixL (atI_X h2)
    · rw [isX, isX]
      exact rr_tt1 (ru_ixT (atI_X h2))
    · cases h2
  o := fun π a b ds h => by
    unfold fIxN at h
    split at h
    · cases h
    · rename_i n
      exact absurd h (n ds)
/-- in, not in -/
def strsOf : List Dt → Option (List Str)
  | [] => some []
  | .str s :: r => match strsOf r with
    | some ss => some (s :: ss)
    | none => none
  | _ => none
theorem strsOf_is : ∀ {ds : List Dt} {ss : List Str}, strsOf ds = some ss → toPys ds = some (ss.map .str)
  | [], ss, h => by simp [strsOf] at h; subst h; rw [toPys]; rfl
  | .str s :: r, ss, h => by
    rw [strsOf] at h
    split at h
    · rename_i zs hz
      cases h
      rw [toPys, strsOf_is hz, toPy]
      rfl
    · cases h
  | .none :: _, _, h => by simp [strsOf] at h
  | .bool _ :: _, _, h => by simp [strsOf] at h
  | .int _ :: _, _, h => by simp [strsOf] at h
  | .list _ :: _, _, h => by simp [strsOf] at h
  | .tuple _ :: _, _, h => by simp [strsOf] at h
  | .ktup _ :: _, _, h => by simp [strsOf] at h
  | .obj _ :: _, _, h => by simp [strsOf] at h
def fIn (neg : Bool) (a b : Dt) : Option Dt := match b with
  | .tuple ds => match a, strsOf ds with
    | .str s, some ss => some (.bool (if neg then !decide (s ∈ ss) else decide (s ∈ ss)))
    | _, _ => none
  | .ktup ds => match a, strsOf ds with
    | .str s, some ss => some (.bool (if neg then !decide (s ∈ ss) else decide (s ∈ ss)))
    | _, _ => none
  | .list ds => match toPy a, toPys ds with
    | some d, some xs => if SeqAt.shaped d && SeqAt.shaped (.list xs) then some (.bool (if neg then !xs.any fun z => PyData.eqv z d else xs.any fun z => PyData.eqv z d)) else none
    | _, _ => none
  | .str j => match a with
    | .str i => some (.bool (if neg then !(!(Builtin.Str.occurrences j i 0 j.length 1).isEmpty) else !(Builtin.Str.occurrences j i 0 j.length 1).isEmpty))
    | _ => none
  | _ => none
def rInN (K : PySem.W.Frag) : Bool → R2
  | true => rNInU K
  | false => rInU K
theorem fIn_h (neg : Bool) (π : Pa) (a b c : Dt) (h : fIn neg a b = some c) : RR (M := M) (rInN K neg) (isX K π a) (isX K π b) (isX K π c) := by
  unfold fIn at h
  split at h
  · split at h
    · rename_i ds _ _ s ss hs
      cases h
      have e : toPy (.tuple ds) = some (.tuple (ss.map .str)) := by rw [toPy, strsOf_is hs]
      rw [xb]
      refine rr_leX pS e ?_
      cases neg with
      | true => exact ru_ninS
      | false => exact ru_inS
    · cases h
  · split at h
    · rename_i ds _ _ s ss hs
      cases h
      have e : toPy (.ktup ds) = some (.tuple (ss.map .str)) := by rw [toPy, strsOf_is hs]
      rw [xb]
      refine rr_leX pS e ?_
      cases neg with
      | true => exact ru_ninS
      | false => exact ru_inS
    · cases h
  · split at h
    · rename_i ds _ _ d xs h1 h2
      split at h
      · rename_i hs
        rw [Bool.and_eq_true] at hs
        cases h
        have e : toPy (.list ds) = some (.list xs) := by rw [toPy, h2]
        rw [xb]
        refine rr_leX h1 e fun x y F H Q s hx hy q => ?_
        cases neg with
        | true => exact .inr (.inl ⟨d, xs, dp_sub s hx, dp_sub s hy, hs.1, hs.2, q _ F H (Step.refl s) (.bl _)⟩)
        | false => exact .inr (.inl ⟨d, xs, dp_sub s hx, dp_sub s hy, hs.1, hs.2, q _ F H (Step.refl s) (.bl _)⟩)
      · cases h
    · cases h
  · split at h
    · rename_i j i
      cases h
      rw [xb]
      refine rr_leX pS pS fun x y F H Q s hx hy q => ?_
      cases hx
      cases hy
      cases neg with
      | true => exact .inr (.inr ⟨_, _, rfl, rfl, q _ F H (Step.refl s) (.bl _)⟩)
      | false => exact .inr (.inr ⟨_, _, rfl, rfl, q _ F H (Step.refl s) (.bl _)⟩)
    · cases h
  · cases h
theorem fIn_o (neg : Bool) (a b : Dt) (ds : List Dt) : fIn neg a b ≠ some (.list ds) := fun h => by
  unfold fIn at h
  split at h
  · split at h <;> cases h
  · split at h <;> cases h
  · split at h
    · split at h <;> cases h
    · cases h
  · split at h <;> cases h
  · cases h
def o_in (M : Hp → Hp → Prop) [g : GB M] (K : PySem.W.Frag) : O2 M K := ⟨rInU K, fIn false, fun π a b c h => fIn_h false π a b c h, fun π a b ds h => absurd h (fIn_o _ _ _ _)⟩
def o_nin (M : Hp → Hp → Prop) [g : GB M] (K : PySem.W.Frag) : O2 M K := ⟨rNInU K, fIn true, fun π a b c h => fIn_h true π a b c h, fun π a b ds h => absurd h (fIn_o _ _ _ _)⟩
/-- is None, is not None -/
def isNone : Dt → Bool
  | .none => true
  | _ => false
theorem non_is {v : V} {F : Hp} {d : Dt} (h : (isX (M := M) K π d).φ v F) : decide (v = .non) = isNone d := by
  cases d with
  | none => rw [isX] at h; cases (show Dp K F v .none from h); rfl
  | bool b => rw [isX] at h; cases (show Dp K F v (.bool b) from h); rfl
  | int b => rw [isX] at h; cases (show Dp K F v (.int b) from h); rfl
  | str b => rw [isX] at h; cases (show Dp K F v (.str b) from h); rfl
  | list ds => rw [isX] at h; obtain ⟨a, xs, e, _⟩ := h; subst e; rfl
  | tuple ds => rw [isX] at h; obtain ⟨a, xs, e, _⟩ := h; subst e; rfl
  | ktup ds => rw [isX] at h; obtain ⟨a, xs, e, _⟩ := h; subst e; rfl
  | obj i => rw [isX] at h; obtain ⟨a, dx, _, e⟩ := h; subst e; rfl
def fIs (neg : Bool) : Dt → Dt → Option Dt
  | d, .none => some (.bool (if neg then !isNone d else isNone d))
  | .bool a, .bool b => some (.bool (if neg then !decide (a = b) else decide (a = b)))
  | _, _ => none
def rIsU : R2 := fun x y H Q => (y = .non ∧ Q (.bl (decide (x = .non))) H) ∨ rIsB x y H Q
def rNotU : R2 := fun x y H Q => (y = .non ∧ Q (.bl (!decide (x = .non))) H) ∨ rNotB x y H Q
theorem op_isU {X : Cx} : OpR X (compareOp .Is) rIsU := OpR.or op_isN op_isBl
theorem op_notU {X : Cx} : OpR X (compareOp .IsNot) rNotU := OpR.or op_notN op_notBl
def o_is (M : Hp → Hp → Prop) [g : GB M] (K : PySem.W.Frag) : O2 M K where
  r := rIsU
  f := fIs false
  h := fun π a b c h => by
    unfold fIs at h
    split at h
    · cases h
      rw [xb]
      refine fun x y F H Q s hx hy q => ?_
      rw [isX] at hy
      cases (show Dp K F y .none from hy)
      refine .inl ⟨rfl, ?_⟩
      rw [non_is hx]
      exact q _ F H (Step.refl s) (.bl _)
    · cases h
      rw [isX, isX, xb]
      refine fun x y F H Q s hx hy q => ?_
      cases (show Dp K F x (.bool _) from hx)
      cases (show Dp K F y (.bool _) from hy)
      exact .inr ⟨_, _, rfl, rfl, q _ F H (Step.refl s) (.bl _)⟩
    · cases h
  o := fun π a b ds h => by unfold fIs at h; split at h <;> cases h
def o_isnt (M : Hp → Hp → Prop) [g : GB M] (K : PySem.W.Frag) : O2 M K where
  r := rNotU
  f := fIs true
  h := fun π a b c h => by
    unfold fIs at h
    split at h
    · cases h
      rw [xb]
      refine fun x y F H Q s hx hy q => ?_
      rw [isX] at hy
      cases (show Dp K F y .none from hy)
      refine .inl ⟨rfl, ?_⟩
      rw [non_is hx]
      exact q _ F H (Step.refl s) (.bl _)
    · cases h
      rw [isX, isX, xb]
      refine fun x y F H Q s hx hy q => ?_
      cases (show Dp K F x (.bool _) from hx)
      cases (show Dp K F y (.bool _) from hy)
      exact .inr ⟨_, _, rfl, rfl, q _ F H (Step.refl s) (.bl _)⟩
    · cases h
  o := fun π a b ds h => by unfold fIs at h; split at h <;> cases h
/-- -x -/
def fNeg : Dt → Option Dt
  | .int i => some (.int (-i))
  | _ => none
def o_neg (M : Hp → Hp → Prop) [g : GB M] (K : PySem.W.Frag) : OU M K where
  r := rU fun i => .int (-i)
  f := fNeg
  h := fun π a c h => by
    unfold fNeg at h
    split at h
    · cases h
      rw [isX, isX]
      exact ru_neg
    · cases h
/-! ### built-ins -/
def intsOf : List Dt → Option (List Int)
  | [] => some []
  | .int s :: r => match intsOf r with
    | some ss => some (s :: ss)
    | none => none
  | _ => none
theorem intsOf_is : ∀ {ds : List Dt} {ss : List Int}, intsOf ds = some ss → ds = ss.map .int
  | [], ss, h => by simp [intsOf] at h; subst h; rfl
  | .int s :: r, ss, h => by
    rw [intsOf] at h
    split at h
    · rename_i zs hz
      cases h
      rw [intsOf_is hz]
      rfl
    · cases h
  | .none :: _, _, h => by simp [intsOf] at h
  | .bool _ :: _, _, h => by simp [intsOf] at h
  | .str _ :: _, _, h => by simp [intsOf] at h
  | .list _ :: _, _, h => by simp [intsOf] at h
  | .tuple _ :: _, _, h => by simp [intsOf] at h
  | .ktup _ :: _, _, h => by simp [intsOf] at h
  | .obj _ :: _, _, h => by simp [intsOf] at h
def boolsOf : List Dt → Option (List Bool)
  | [] => some []
  | .bool s :: r => match boolsOf r with
    | some ss => some (s :: ss)
    | none => none
  | _ => none
theorem boolsOf_is : ∀ {ds : List Dt} {ss : List Bool}, boolsOf ds = some ss → ds = ss.map .bool
  | [], ss, h => by simp [boolsOf] at h; subst h; rfl
  | .bool s :: r, ss, h => by
    rw [boolsOf] at h
    split at h
    · rename_i zs hz
      cases h
      rw [boolsOf_is hz]
      rfl
    · cases h
  | .none :: _, _, h => by simp [boolsOf] at h
  | .int _ :: _, _, h => by simp [boolsOf] at h
  | .str _ :: _, _, h => by simp [boolsOf] at h
  | .list _ :: _, _, h => by simp [boolsOf] at h
  | .tuple _ :: _, _, h => by simp [boolsOf] at h
  | .ktup _ :: _, _, h => by simp [boolsOf] at h
  | .obj _ :: _, _, h => by simp [boolsOf] at h
theorem xs_ints (ns : List Int) : isXs (M := M) K π (ns.map .int) = ns.map fun n => isD K (.int n) := by
  rw [isXs_map, List.map_map]
  refine List.map_congr_left fun n _ => ?_
  show isX K π (.int n) = _
  rw [isX]
theorem xs_bools (ns : List Bool) : isXs (M := M) K π (ns.map .bool) = ns.map fun n => isD K (.bool n) := by
  rw [isXs_map, List.map_map]
  refine List.map_congr_left fun n _ => ?_
  show isX K π (.bool n) = _
  rw [isX]
theorem xs1 (a : Dt) : isXs (M := M) K π [a] = [isX K π a] := by rw [isXs, isXs]
theorem xs2 (a b : Dt) : isXs (M := M) K π [a, b] = [isX K π a, isX K π b] := by rw [isXs, isXs, isXs]
def fLen : List Dt → Option Dt
  | [.list ds] => some (.int ds.length)
  | [.tuple ds] => some (.int ds.length)
  | [.str s] => if s.length ≤ 1000000 then some (.int s.length) else none
  | _ => none
variable (M K)
def b_len : ON M K where
  r := rLen K
  f := fLen
  h := fun π as c h => by
    unfold fLen at h
    split at h
    · cases h
      rw [xs1, isX, isX, ← isXs_length (M := M) (K := K) (π := π)]
      exact rn_lnL
    · cases h
      rw [xs1, isX, isX, ← isXs_length (M := M) (K := K) (π := π)]
      exact rn_one fun x F H Q s ⟨a, ys, e, h1, t1⟩ q => (rn_lnT (K := K)) [x] F H Q s (.cons ⟨a, ys, e, Or.inl (Or.inl h1), t1⟩ .nil) q
    · split at h
      · rename_i hl
        cases h
        rw [xs1, isX, isX]
        exact rn_lnS hl
      · cases h
    · cases h
def fAbs : List Dt → Option Dt
  | [.int i] => some (.int (if i < 0 then -i else i))
  | _ => none
def b_abs : ON M K where
  r := fun xs H Q => ∃ i, xs = [.int i] ∧ Q (.int (if i < 0 then -i else i)) H
  f := fAbs
  h := fun π as c h => by
    unfold fAbs at h
    split at h
    · cases h
      rw [xs1, isX, isX]
      exact rn_abs
    · cases h
def fMax2 : List Dt → Option Dt
  | [.int i, .int j] => some (.int (if j > i then j else i))
  | _ => none
def b_max2 : ON M K where
  r := fun xs H Q => ∃ i j, xs = [.int i, .int j] ∧ Q (.int (if j > i then j else i)) H
  f := fMax2
  h := fun π as c h => by
    unfold fMax2 at h
    split at h
    · cases h
      rw [xs2, isX, isX, isX]
      exact rn_max2
    · cases h
def fMin2 : List Dt → Option Dt
  | [.int i, .int j] => some (.int (if j < i then j else i))
  | _ => none
def b_min2 : ON M K where
  r := fun xs H Q => ∃ i j, xs = [.int i, .int j] ∧ Q (.int (if j < i then j else i)) H
  f := fMin2
  h := fun π as c h => by
    unfold fMin2 at h
    split at h
    · cases h
      rw [xs2, isX, isX, isX]
      exact rn_min2
    · cases h
def fSum : List Dt → Option Dt
  | [.list ds] => match intsOf ds with
    | some ns => some (.int ns.sum)
    | none => none
  | _ => none
def b_sum : ON M K where
  r := rSum K
  f := fSum
  h := fun π as c h => by
    unfold fSum at h
    split at h
    · split at h
      · rename_i ns hn
        cases h
        rw [xs1, isX, isX, intsOf_is hn, xs_ints]
        exact rn_sum
      · cases h
    · cases h
def fMax : List Dt → Option Dt
  | [.list ds] => match intsOf ds with
    | some (n :: ns) => some (.int (maxOf (n :: ns)))
    | _ => none
  | _ => none
def b_max : ON M K where
  r := rMax K
  f := fMax
  h := fun π as c h => by
    unfold fMax at h
    split at h
    · split at h
      · rename_i n ns hn
        cases h
        rw [xs1, isX, isX, intsOf_is hn, xs_ints]
        exact rn_max (by simp)
      · cases h
    · cases h
def fAny : List Dt → Option Dt
  | [.list ds] => match boolsOf ds with
    | some ns => some (.bool (ns.any id))
    | none => none
  | _ => none
def b_any : ON M K where
  r := rAny K
  f := fAny
  h := fun π as c h => by
    unfold fAny at h
    split at h
    · split at h
      · rename_i ns hn
        cases h
        rw [xs1, isX, isX, boolsOf_is hn, xs_bools]
        exact rn_any
      · cases h
    · cases h
def fAll : List Dt → Option Dt
  | [.list ds] => match boolsOf ds with
    | some ns => some (.bool (ns.all id))
    | none => none
  | _ => none
def b_all : ON M K where
  r := rAll K
  f := fAll
  h := fun π as c h => by
    unfold fAll at h
    split at h
    · split at h
      · rename_i ns hn
        cases h
        rw [xs1, isX, isX, boolsOf_is hn, xs_bools]
        exact rn_all
      · cases h
    · cases h
def fInt : List Dt → Option Dt
  | [.int i] => some (.int i)
  | [.bool b] => some (.int (if b then 1 else 0))
  | _ => none
def b_int : ON M K where
  r := fun xs H Q => (∃ i, xs = [.int i] ∧ Q (.int i) H) ∨ ∃ k, xs = [.bl k] ∧ Q (.int (if k then 1 else 0)) H
  f := fInt
  h := fun π as c h => by
    unfold fInt at h
    split at h
    · cases h
      rw [xs1, isX]
      exact rn_one fun x F H Q s hx q => by
        cases (show Dp K F x (.int _) from hx)
        exact .inl ⟨_, rfl, q _ F H (Step.refl s) (.int _)⟩
    · cases h
      rw [xs1, isX, isX]
      exact rn_intB
    · cases h
def fStr : List Dt → Option Dt
  | [.int i] => if i.natAbs.log2 < 1920 then some (.str (toString i)) else none
  | _ => none
def b_str : ON M K where
  r := fun xs H Q => ∃ i, xs = [.int i] ∧ i.natAbs.log2 < 1920 ∧ Q (.str (toString i)) H
  f := fStr
  h := fun π as c h => by
    unfold fStr at h
    split at h
    · split at h
      · rename_i hl
        cases h
        rw [xs1, isX, isX]
        exact rn_one fun x F H Q s hx q => by
          cases (show Dp K F x (.int _) from hx)
          exact ⟨_, rfl, hl, q _ F H (Step.refl s) (.str _)⟩
      · cases h
    · cases h
def fTup : List Dt → Option Dt
  | [.list ds] => some (.tuple ds)
  | [.tuple ds] => some (.tuple ds)
  | _ => none
def b_tup : ON M K where
  r := fun xs H Q => ∃ p ys, xs = [.ref p] ∧ ((SqL K H p ys ∧ ∀ l, H l = none → Q (.ref l) (upd H l (.tup ys))) ∨ (SqT K H p ys ∧ Q (.ref p) H))
  f := fTup
  h := fun π as c h => by
    unfold fTup at h
    split at h
    · cases h
      rw [xs1, isX, isX]
      exact rn_one fun x F H Q s ⟨a, ys, e, h1, t1⟩ q => ⟨a, ys, by rw [e], .inl ⟨Or.inl (Or.inl (s _ _ h1)), fun l hl => by
        have st := Step.new (M := M) (o := .tup ys) s hl
        exact q _ _ _ st ⟨l, ys, rfl, upd_same, t1.mono st.gw⟩⟩⟩
    · cases h
      rw [xs1, isX]
      exact rn_one fun x F H Q s ⟨a, ys, e, h1, t1⟩ q => ⟨a, ys, by rw [e], .inr ⟨sqT_sub s (Or.inl (Or.inl h1)), q _ F H (Step.refl s) ⟨a, ys, rfl, h1, t1⟩⟩⟩
    · cases h
end Bc

set_option maxRecDepth 100000
set_option maxHeartbeats 4000000
/-! BcW: defs that change a list that is lent to them. -/
namespace Bc
open PySem PySem.Spec
open PyProof.Rows L2
variable {M : Hp → Hp → Prop} [g : GB M] {K : PySem.W.Frag}
def envL (n : Nat) (own as : List Dt) : Vs := .own true own :: (as.map .val ++ List.replicate (n - 1 - as.length) .no)
theorem wd_startL {F H : Hp} {N : List Str} {π : Pa} {os ws : List V} {own as : List Dt} (hN : 0 < N.length) (s : Sub F H) (f : F π.p = none) (hp : H π.p = some (.lst os)) (ho : Tys F os (isXs (M := M) K π own)) (hw : Tys F ws (isXs (M := M) K π as)) :
    Wd (fun a => H a = none ∨ a = π.p) F H (L2.start N (.ref π.p :: ws)) (ofE M K π (envL N.length own as)) := by
  have hl : ws.length = as.length := by rw [hw.length, isXs_length]
  have e0 : ofE M K π (envL N.length own as) = .own (owQ (some π.p) (isXs K π own)) :: slots0 (N.length - 1) (isXs (M := M) K π as) := by
    have z := ofE_env0 (M := M) (K := K) (π := π) (N.length - 1) as
    rw [← z]
    rfl
  have s0 : L2.start N (.ref π.p :: ws) = some (.ref π.p) :: (ws.map some ++ List.replicate (N.length - 1 - ws.length) none) := by
    unfold L2.start
    rw [List.length_cons, List.map_cons, List.cons_append]
    have : N.length - (ws.length + 1) = N.length - 1 - ws.length := by omega
    rw [this]
  have rest : ∀ (i : Nat) (sl : Slot M), (slots0 (N.length - 1) (isXs (M := M) K π as))[i]? = some sl → (∀ u, sl ≠ .own u) ∧ ∃ x, (ws.map some ++ List.replicate (N.length - 1 - ws.length) none : L2.St)[i]? = some x ∧ SlotOk F H x sl := fun i sl e => by
    unfold slots0 at e
    rw [List.getElem?_append] at e ⊢
    rw [List.length_map] at e ⊢
    rw [isXs_length] at e
    by_cases hi : i < as.length
    · rw [if_pos hi] at e
      rw [if_pos (by omega)]
      rw [List.getElem?_map] at e ⊢
      cases q : (isXs (M := M) K π as)[i]? with
      | none => rw [q] at e; cases e
      | some τ =>
        rw [q] at e
        injection e with e
        subst e
        refine ⟨(fun u z => nomatch z), ?_⟩
        have hv : i < ws.length := by omega
        rw [List.getElem?_eq_getElem hv]
        refine ⟨_, rfl, ws[i], rfl, ?_⟩
        have := tys_nth hw (i := i) (List.getElem?_eq_getElem hv)
        unfold nth at this
        rw [List.getD_eq_getElem?_getD, q] at this
        exact this
    · rw [if_neg hi] at e
      rw [if_neg (by omega)]
      rw [List.getElem?_replicate] at e ⊢
      split at e
      · cases e
        rename_i hlt
        rw [if_pos (by omega)]
        exact ⟨(fun u z => nomatch z), _, rfl, trivial⟩
      · cases e
  rw [e0, s0]
  refine ⟨s, ⟨?_, fun i sl e => ?_, fun i j u u' q h1 h2 h3 h4 => ?_⟩, fun q ⟨i, u, h1, h2⟩ => ?_, fun q hq => .inl hq⟩
  · unfold slots0
    simp only [List.length_cons, List.length_append, List.length_map, List.length_replicate, isXs_length, hl]
  · cases i with
    | zero =>
      cases e
      exact ⟨_, rfl, π.p, _, rfl, f, hp, (fun a z => by cases z; rfl), os, rfl, ho⟩
    | succ j => exact (rest j sl e).2
  · cases i with
    | zero =>
      cases j with
      | zero => rfl
      | succ j => exact absurd rfl ((rest j _ h2).1 u')
    | succ i => exact absurd rfl ((rest i _ h1).1 u)
  · cases i with
    | zero =>
      injection h2 with h2; injection h2 with h2; injection h2 with h2
      exact .inr h2.symm
    | succ i => exact absurd rfl ((rest i _ h1).1 u)
section
variable {P : Program} {w : World} {mg : Str → Option Value} {base : Heap}
theorem DefAt.okL {x : Str} {st : Stmt} {N ps : List Str} {k : Nat} {f : List Dt → List Dt → Option (Dt × List Dt)} (D : DefAt K mg x st) (Sc : FnScope N ps (defScope st)) (hB : BindOk x st ps) (hN : 0 < N.length) (hl : ∀ own as r, f own as = some r → as.length + 1 = ps.length)
    (hb : ∀ own as d own', f own as = some (d, own') → ∃ (s : St M K) (e' : Vs), run s (envL N.length own as) = some (.rt d e') ∧ e'[0]? = some (.own true own') ∧ ∀ (f : Addr) (cdv : Value) (A : Around) (outer : List Env) (s' : Shared) (H : Hp) (E : XK), Room k (A.deeper (envOfC x (defScope st) s'.heap.objs.size f cdv)) →
      PSs (ctx P w K mg base N x (defScope st) f cdv A outer s' H E) (defBody st) (denS E s)) : DefOk P w K mg base (k + 1) x ps (spL M K f) := by
  obtain ⟨g', fd, Fd, m⟩ := D.ex
  refine ⟨g', fd, Fd.ok (CX := L2.CX P w) Sc (fun vs H Q E h => ?_) (fun cdv A outer s H vs Q E hr h => ?_), m, Fd.kp, Fd.bindsN hB⟩
  · obtain ⟨π, p, ws, os, own, as, d, own', F, e, hf, _, _, _, _, hw, _⟩ := h
    subst e
    rw [List.length_cons, hw.length, isXs_length]
    exact hl own as _ hf
  · obtain ⟨π, p, ws, os, own, as, d, own', F, e, hf, sub, fp, hp, ho, hw, q⟩ := h
    subst e
    obtain ⟨s', e', h1, h2, h3⟩ := hb own as d own' hf
    refine ⟨_, h3 g' cdv A outer s H E hr, ?_⟩
    have le1 : PaLe π ⟨p, π.A⟩ := List.prefix_rfl
    have le2 : PaLe ⟨p, π.A⟩ π := List.prefix_rfl
    refine fit_all (π := ⟨p, π.A⟩) s' _ _ h1 (fun a => H a = none ∨ a = p) F H _ _ (wd_startL (π := ⟨p, π.A⟩) hN sub fp hp (Xs_grow le1 _ _ _ ho) (Xs_grow le1 _ _ _ hw)) ⟨fun _ _ _ _ z => z.elim, fun τ Γ σ v F2 H2 ⟨z1, z2⟩ s2 w2 hv => ?_, fun _ _ _ _ z => z.elim, fun _ _ _ _ z => z.elim, fun _ z => z.elim⟩
    subst z1 z2
    obtain ⟨p', o, a1, a2, a3, a0, xs, a4, a5⟩ := w2.sl.own (ofE_get h2)
    have := a0 p rfl
    subst this a4
    exact q v F2 H2 xs ⟨w2.sub, s2.gw, s2.dom, fun a o n h4 h5 => s2.fr a o (fun z => z.elim (fun z => by rw [h5] at z; cases z) n) h4 h5⟩ a2 a3 (Xs_grow le2 _ _ _ a5) (X_grow le2 _ _ _ hv)
end
/-- an own exception class of the module -/
structure ExcAt (K : PySem.W.Frag) (mg : Str → Option Value) (x : Str) (a : Addr) : Prop where
  q : PySem.W.excIn K a [.type "ValueError", .type "Exception", .type "BaseException", .type "object"] "ValueError.__new__" = true
  g : mg x = some (.ref a)
  k : PySem.W.keepIn K (.ref a) = true
  s : PySem.W.subIn K (.ref a) (.type "BaseException") = some true
  t : PySem.W.typeIn K (.ref a) = some (.type "type")
mutual
def wt : Dt → Nat
  | .int i => i.natAbs + 10
  | .list ds => wts ds + 10
  | .tuple ds => wts ds + 10
  | .ktup ds => wts ds + 10
  | .str s => s.length + 10
  | .none => 10
  | .bool _ => 10
  | .obj _ => 10
def wts : List Dt → Nat
  | [] => 10
  | d :: ds => wt d + wts ds + 10
end
/-- one def's function out of its text -/
def sOf {M : Hp → Hp → Prop} {K : PySem.W.Frag} (L : St M K) (n a : Nat) (as : List Dt) : Option Rd := if as.length = a then retOf (run L (env0 n as)) else none
def outL : Option Out → Option (Dt × List Dt)
  | some (.rt d (.own true own' :: _)) => some (d, own')
  | _ => none
def lOf {M : Hp → Hp → Prop} {K : PySem.W.Frag} (L : St M K) (n a : Nat) (own as : List Dt) : Option (Dt × List Dt) := if as.length + 1 = a then outL (run L (envL n own as)) else none
theorem outL_is {o : Option Out} {d : Dt} {own' : List Dt} (h : outL o = some (d, own')) : ∃ e', o = some (.rt d e') ∧ e'[0]? = some (.own true own') := by
  unfold outL at h
  split at h
  · rename_i d' o' r
    cases h
    exact ⟨_, rfl, rfl⟩
  · cases h
section
variable {M : Hp → Hp → Prop} [g : GB M] {K : PySem.W.Frag} {P : Program} {w : World} {mg : Str → Option Value} {base : Heap}
theorem units65 {k : Nat} {A : Around} (hr : Room k A) : A.units + 65 < cLine := by have := hr.un; omega
theorem pss_as {X : Cx} {ss : List Stmt} {t u : TS} (h : PSs X ss t) (e : t = u) : PSs X ss u := e ▸ h
/-- a def whose function is its text's -/
theorem DefAt.okS {x : Str} {st : Stmt} {N ps : List Str} {k : Nat} {L : List Dt → St M K} (D : DefAt K mg x st) (Sc : FnScope N ps (defScope st)) (hB : BindOk x st ps) 
    (hb : ∀ as, ∀ (f : Addr) (cdv : Value) (A : Around) (outer : List Env) (s' : Shared) (H : Hp) (E : XK), Room k (A.deeper (envOfC x (defScope st) s'.heap.objs.size f cdv)) →
      PSs (ctx P w K mg base N x (defScope st) f cdv A outer s' H E) (defBody st) (denS E (L as))) : DefOk P w K mg base (k + 1) x ps (spD M K fun as => sOf (L as) N.length ps.length as) :=
  D.okX Sc hB (fun as r h => by
    unfold sOf at h
    split at h
    · assumption
    · cases h) fun as r h => ⟨L as, (by
    unfold sOf at h
    split at h
    · exact h
    · cases h), hb as⟩
theorem DefAt.okLS {x : Str} {st : Stmt} {N ps : List Str} {k : Nat} {L : List Dt → St M K} (D : DefAt K mg x st) (Sc : FnScope N ps (defScope st)) (hB : BindOk x st ps) (hN : 0 < N.length)
    (hb : ∀ as, ∀ (f : Addr) (cdv : Value) (A : Around) (outer : List Env) (s' : Shared) (H : Hp) (E : XK), Room k (A.deeper (envOfC x (defScope st) s'.heap.objs.size f cdv)) →
      PSs (ctx P w K mg base N x (defScope st) f cdv A outer s' H E) (defBody st) (denS E (L as))) : DefOk P w K mg base (k + 1) x ps (spL M K fun own as => lOf (L as) N.length ps.length own as) :=
  D.okL Sc hB hN (fun own as r h => by
    unfold lOf at h
    split at h
    · assumption
    · cases h) fun own as d own' h => by
    unfold lOf at h
    split at h
    · obtain ⟨e', h1, h2⟩ := outL_is h
      exact ⟨L as, e', h1, h2, hb as⟩
    · cases h
theorem DefAt.noneS {x : Str} {st : Stmt} {N ps : List Str} {k : Nat} (D : DefAt K mg x st) (Sc : FnScope N ps (defScope st)) (hB : BindOk x st ps) : DefOk P w K mg base (k + 1) x ps (spD M K fun _ => none) :=
  D.okX Sc hB (fun _ _ h => nomatch h) (fun _ _ h => nomatch h)
theorem DefAt.noneLS {x : Str} {st : Stmt} {N ps : List Str} {k : Nat} (D : DefAt K mg x st) (Sc : FnScope N ps (defScope st)) (hB : BindOk x st ps) (hN : 0 < N.length) : DefOk P w K mg base (k + 1) x ps (spL M K fun _ _ => none) :=
  D.okL Sc hB hN (fun _ _ _ h => nomatch h) (fun _ _ _ _ h => nomatch h)
end
end Bc

set_option maxRecDepth 100000
set_option maxHeartbeats 4000000
/-! BdX: objects: their store, the judgement, its rules. -/
namespace Bc
open PySem PySem.Spec
open PyProof.Rows L2
/-- an object: its class, its fields -/
structure Cell where
  cls : Str
  fs : List (Str × Dt)
  /-- of a dict whose keys are tuples of ints: the keys -/
  ks : Option (List (List Int))
structure Zs where
  v : Vs
  s : List Cell
variable {M : Hp → Hp → Prop} [g : GB M] {K : PySem.W.Frag} {CA : Str → Addr}
def InA (π : Pa) (a : Addr) : Prop := ∃ q ∈ π.A, a = q.1 ∨ a = q.2
structure Grow (π π' : Pa) (H : Hp) : Prop where
  p : π'.p = π.p
  le : PaLe π π'
  new : ∀ a, InA π' a → InA π a ∨ H a = none
def FsOk (M : Hp → Hp → Prop) (K : PySem.W.Frag) (π : Pa) (F : Hp) : List (Str × V) → List (Str × Dt) → Prop := Paired fun p q => p.1 = q.1 ∧ (isX (M := M) K π q.2).φ p.2 F
structure CellOk (M : Hp → Hp → Prop) (K : PySem.W.Frag) (CA : Str → Addr) (π : Pa) (F H : Hp) (a dx : Addr) (c : Cell) : Prop where
  fa : F a = none
  fd : F dx = none
  ob : (c.ks = none ∧ H dx = some (.own a) ∧ ∃ fs, H a = some (.ins (CA c.cls) dx fs) ∧ FsOk M K π F fs c.fs) ∨
    (dx = a ∧ ∃ (ks : List (List Int)) (kvs : List (List Key × V)), c.ks = some ks ∧ H a = some (.dT kvs) ∧ kvs.map (·.1) = ks.map fun k => k.map Sum.inl)
structure StOk (M : Hp → Hp → Prop) (K : PySem.W.Frag) (CA : Str → Addr) (π : Pa) (S : List Cell) (F H : Hp) : Prop where
  len : π.A.length = S.length
  at_ : ∀ (i : Nat) (q : Addr × Addr) (c : Cell), π.A[i]? = some q → S[i]? = some c → CellOk M K CA π F H q.1 q.2 c
  inj : ∀ (i j : Nat) (p q : Addr × Addr), π.A[i]? = some p → π.A[j]? = some q → p.1 = q.1 → i = j
structure Wz (M : Hp → Hp → Prop) (K : PySem.W.Frag) (CA : Str → Addr) (O : Addr → Prop) (F H : Hp) (σ : L2.St) (π : Pa) (e : Zs) : Prop where
  w : Wd O F H σ (ofE M K π e.v)
  st : StOk M K CA π e.s F H
  ob : ∀ a, InA π a → O a ∧ ¬ OwnAt σ (ofE M K π e.v) a
section
variable {O : Addr → Prop} {F H F1 H1 F2 H2 : Hp} {σ : L2.St} {π π1 π2 : Pa} {e e' e1 : Zs} {S : List Cell}
theorem Grow.refl (π : Pa) (H : Hp) : Grow π π H := ⟨rfl, List.prefix_rfl, fun _ h => .inl h⟩
theorem Grow.trans (a : Grow π π1 H) (b : Grow π1 π2 H1) (d : ∀ a, H1 a = none → H a = none) : Grow π π2 H :=
  ⟨b.p.trans a.p, List.IsPrefix.trans a.le b.le, fun x h => (b.new x h).elim (a.new x) fun z => .inr (d x z)⟩
theorem FsOk.mono {fs : List (Str × V)} {gs : List (Str × Dt)} (gw : Gw M F F2) (l : PaLe π π1) (h : FsOk M K π F fs gs) : FsOk M K π1 F2 fs gs := by
  unfold FsOk at h ⊢
  induction h with
  | nil => exact .nil
  | cons a _ ih => exact .cons ⟨a.1, X_grow l _ _ _ (Ty.mono _ gw a.2)⟩ ih
theorem StOk.has (s : StOk M K CA π S F H) {a : Addr} (h : InA π a) : F a = none ∧ ∃ o, H a = some o := by
  obtain ⟨q, hq, h⟩ := h
  obtain ⟨i, hi, e⟩ := List.getElem_of_mem hq
  have h1 : π.A[i]? = some q := by rw [List.getElem?_eq_getElem hi, e]
  have hs : i < S.length := by rw [← s.len]; exact hi
  have c := s.at_ i q _ h1 (List.getElem?_eq_getElem hs)
  rcases h with h | h
  · subst h
    rcases c.ob with ⟨_, _, fs, h2, _⟩ | ⟨_, _, _, _, h2, _⟩
    · exact ⟨c.fa, _, h2⟩
    · exact ⟨c.fa, _, h2⟩
  · subst h
    rcases c.ob with ⟨_, h2, _⟩ | ⟨e2, _, _, _, h2, _⟩
    · exact ⟨c.fd, _, h2⟩
    · rw [← e2] at h2
      exact ⟨c.fd, _, h2⟩
/-- what stands of the store where its objects stand -/
theorem StOk.stay (s : StOk M K CA π S F H) (gw : Gw M F F2) (h : ∀ a o, InA π a → H a = some o → F2 a = none ∧ H2 a = some o) : StOk M K CA π S F2 H2 :=
  ⟨s.len, fun i q c h1 h2 => by
    have k := s.at_ i q c h1 h2
    have m : q ∈ π.A := List.mem_of_getElem? h1
    rcases k.ob with ⟨h0, hd, fs, h3, h4⟩ | ⟨e2, ks, kvs, h0, h3, h4⟩
    · obtain ⟨a1, a2⟩ := h q.1 _ ⟨q, m, .inl rfl⟩ h3
      obtain ⟨b1, b2⟩ := h q.2 _ ⟨q, m, .inr rfl⟩ hd
      exact ⟨a1, b1, .inl ⟨h0, b2, fs, a2, h4.mono gw List.prefix_rfl⟩⟩
    · obtain ⟨a1, a2⟩ := h q.1 _ ⟨q, m, .inl rfl⟩ h3
      exact ⟨a1, by rw [e2]; exact a1, .inr ⟨e2, ks, kvs, h0, a2, h4⟩⟩, s.inj⟩
theorem Wz.step (w : Wz M K CA O F H σ π e) (st : Step M F H F2 H2) : Wz M K CA O F2 H2 σ π e :=
  ⟨w.w.step st, w.st.stay st.gw fun a o h1 h2 => st.fr a o (w.st.has h1).1 h2, w.ob⟩
/-- the slots under more objects -/
theorem ofE_grow {v : Vs} (w : Wd O F H σ (ofE M K π v)) (gr : π1.p = π.p) (l : PaLe π π1) : Wd O F H σ (ofE M K π1 v) := by
  have own1 : ∀ {p : Addr}, OwnAt σ (ofE M K π1 v) p → OwnAt σ (ofE M K π v) p := fun {p} h => by
    obtain ⟨i, q, ds, h1, h2⟩ := ofE_own h
    exact ofE_ownAt h1 h2
  refine ⟨w.sub, ⟨?_, fun i s h => ?_, fun i j u u' p h1 h2 h3 h4 => ?_⟩, fun p h => w.own p (own1 h), w.fresh⟩
  · have := w.sl.len
    unfold ofE at this ⊢
    rw [List.length_map] at this ⊢
    exact this
  · obtain ⟨x, e1, e2⟩ := ofE_at h
    subst e2
    obtain ⟨y, h1, h2⟩ := w.sl.at_ i _ (ofE_get e1)
    refine ⟨y, h1, ?_⟩
    cases x with
    | no => trivial
    | val d => obtain ⟨v, a1, a2⟩ := h2; exact ⟨v, a1, X_grow l _ _ _ a2⟩
    | own q ds =>
      obtain ⟨p, o, a1, a2, a3, a0, xs, a4, a5⟩ := h2
      refine ⟨p, o, a1, a2, a3, fun a z => a0 a ?_, xs, a4, Xs_grow l _ _ _ a5⟩
      cases q with
      | true => rw [← z]; show some π.p = some π1.p; rw [gr]
      | false => exact z
  · obtain ⟨x, e1, e2⟩ := ofE_at h1
    obtain ⟨y, f1, f2⟩ := ofE_at h2
    cases x with
    | own q ds =>
      cases y with
      | own q' ds' => exact w.sl.one i j _ _ p (ofE_get e1) (ofE_get f1) h3 h4
      | no => cases f2
      | val d => cases f2
    | no => cases e2
    | val d => cases e2
theorem ownAt_grow {v : Vs} {p : Addr} (h : OwnAt σ (ofE M K π1 v) p) : OwnAt σ (ofE M K π v) p := by
  obtain ⟨i, q, ds, h1, h2⟩ := ofE_own h
  exact ofE_ownAt h1 h2
/-! ### readings -/
def FinZ (M : Hp → Hp → Prop) (K : PySem.W.Frag) (CA : Str → Addr) (E : XK) (O : Addr → Prop) (F H : Hp) (σ : L2.St) (π : Pa) (r : Rd) (e' : Zs) (Q : VK) : Prop := match r with
  | .ok d => ∀ π' v F2 H2, Grow π π' H → StepX M O F H F2 H2 → Wz M K CA O F2 H2 σ π' e' → (isX (M := M) K π' d).φ v F2 → Q v H2
  | .exc C => ∀ π' F2 H2, Grow π π' H → StepX M O F H F2 H2 → Sub F2 H2 → StOk M K CA π' e'.s F2 H2 → E C none H2
def EvZ (M : Hp → Hp → Prop) (K : PySem.W.Frag) (CA : Str → Addr) (E : XK) (t : TE) (e : Zs) (r : Rd) (e' : Zs) : Prop := ∀ O F H σ π Q, Wz M K CA O F H σ π e → FinZ M K CA E O F H σ π r e' Q → t σ H Q
def FinZA (M : Hp → Hp → Prop) (K : PySem.W.Frag) (CA : Str → Addr) (E : XK) (O : Addr → Prop) (F H : Hp) (σ : L2.St) (π : Pa) (r : List Dt ⊕ Value) (e' : Zs) (Q : List V → Hp → Prop) : Prop := match r with
  | .inl ds => ∀ π' vs F2 H2, Grow π π' H → StepX M O F H F2 H2 → Wz M K CA O F2 H2 σ π' e' → Tys F2 vs (isXs (M := M) K π' ds) → Q vs H2
  | .inr C => ∀ π' F2 H2, Grow π π' H → StepX M O F H F2 H2 → Sub F2 H2 → StOk M K CA π' e'.s F2 H2 → E C none H2
def EvZA (M : Hp → Hp → Prop) (K : PySem.W.Frag) (CA : Str → Addr) (E : XK) (t : TA) (e : Zs) (r : List Dt ⊕ Value) (e' : Zs) : Prop := ∀ O F H σ π Q, Wz M K CA O F H σ π e → FinZA M K CA E O F H σ π r e' Q → t σ H Q
def EvZT (M : Hp → Hp → Prop) (K : PySem.W.Frag) (CA : Str → Addr) (t : TT) (e : Zs) (b : Bool) (e' : Zs) : Prop := ∀ O F H σ π (Q : Bool → Hp → Prop), Wz M K CA O F H σ π e → (∀ π' F2 H2, Grow π π' H → StepX M O F H F2 H2 → Wz M K CA O F2 H2 σ π' e' → Q b H2) → t σ H Q
variable {E : XK} {Q : VK} {r : Rd}
theorem FinZ.step (gr : Grow π π1 H) (s : StepX M O F H F1 H1) (q : FinZ M K CA E O F H σ π r e' Q) : FinZ M K CA E O F1 H1 σ π1 r e' Q := by
  cases r with
  | ok d => exact fun π' v F2 H2 g2 s2 w hv => q π' v F2 H2 (gr.trans g2 s.dom) (s.trans s2) w hv
  | exc C => exact fun π' F2 H2 g2 s2 sb st => q π' F2 H2 (gr.trans g2 s.dom) (s.trans s2) sb st
theorem FinZA.step {r : List Dt ⊕ Value} {Q : List V → Hp → Prop} (gr : Grow π π1 H) (s : StepX M O F H F1 H1) (q : FinZA M K CA E O F H σ π r e' Q) : FinZA M K CA E O F1 H1 σ π1 r e' Q := by
  cases r with
  | inl d => exact fun π' v F2 H2 g2 s2 w hv => q π' v F2 H2 (gr.trans g2 s.dom) (s.trans s2) w hv
  | inr C => exact fun π' F2 H2 g2 s2 sb st => q π' F2 H2 (gr.trans g2 s.dom) (s.trans s2) sb st
/-- the store is out of a pure reading's reach -/
theorem Wz.pure (w : Wz M K CA O F H σ π e) : Wd (fun a => O a ∧ ¬ InA π a) F H σ (ofE M K π e.v) :=
  ⟨w.w.sub, w.w.sl, fun p h => ⟨w.w.own p h, fun z => (w.ob p z).2 h⟩, fun p h => ⟨w.w.fresh p h, fun z => by
    obtain ⟨_, o, ho⟩ := w.st.has z
    rw [ho] at h
    cases h⟩⟩
theorem StepX.weak (s : StepX M (fun a => O a ∧ ¬ InA π a) F H F2 H2) : StepX M O F H F2 H2 := ⟨s.gw, s.dom, fun a o n => s.fr a o fun z => n z.1⟩
theorem StOk.pure (st : StOk M K CA π S F H) (s : StepX M (fun a => O a ∧ ¬ InA π a) F H F2 H2) : StOk M K CA π S F2 H2 :=
  st.stay s.gw fun a o h1 h2 => s.fr a o (fun z => z.2 h1) (st.has h1).1 h2
theorem Wz.back {v : Vs} (w : Wz M K CA O F H σ π e) (s : StepX M (fun a => O a ∧ ¬ InA π a) F H F2 H2) (w2 : Wd (fun a => O a ∧ ¬ InA π a) F2 H2 σ (ofE M K π v)) : Wz M K CA O F2 H2 σ π ⟨v, e.s⟩ :=
  ⟨⟨w2.sub, w2.sl, fun p h => (w2.own p h).1, fun p h => (w2.fresh p h).1⟩, w.st.pure s, fun a h => ⟨(w.ob a h).1, fun z => (w2.own a z).2 h⟩⟩
theorem ez_pure {t : TE} {v : Vs} (h : ∀ π, Ev E t (ofE M K π e.v) (reOf M K π r) (ofE M K π v)) : EvZ M K CA E t e r ⟨v, e.s⟩ := fun O F H σ π Q w q => by
  have hh := h π (fun a => O a ∧ ¬ InA π a) F H σ Q w.pure
  refine hh ?_
  cases r with
  | ok d => exact fun x F2 H2 s w2 hx => q π x F2 H2 (Grow.refl π H) s.weak (w.back s w2) hx
  | exc C => exact fun F2 H2 sb s => q π F2 H2 (Grow.refl π H) s.weak sb (w.st.pure s)
theorem ezt_pure {t : TT} {v : Vs} {b : Bool} (h : ∀ π, EvT t (ofE M K π e.v) b (ofE M K π v)) : EvZT M K CA t e b ⟨v, e.s⟩ := fun O F H σ π Q w q =>
  h π (fun a => O a ∧ ¬ InA π a) F H σ Q w.pure fun F2 H2 s w2 => q π F2 H2 (Grow.refl π H) s.weak (w.back s w2)
theorem ez_op {o : O2 M K} {ta tb : TE} {a b c : Dt} {e2 : Zs} (ha : EvZ M K CA E ta e (.ok a) e1) (hb : EvZ M K CA E tb e1 (.ok b) e2) (h : o.f a b = some c) : EvZ M K CA E (tOp o.r ta tb) e (.ok c) e2 := fun O F H σ π Q w q =>
  ha O F H σ π _ w fun π1 x F1 H1 g1 s1 w1 hx => hb O F1 H1 σ π1 _ w1 fun π2 y F2 H2 g2 s2 w2 hy =>
    o.h π2 a b c h x y F2 H2 Q w2.w.sub (X_grow g2.le _ _ _ (Ty.mono _ s2.gw hx)) hy fun v F3 H3 s3 hv => q π2 v F3 H3 (g1.trans g2 s1.dom) ((s1.trans s2).trans s3.x) (w2.step s3) hv
theorem ez_un {o : OU M K} {ta : TE} {a c : Dt} (ha : EvZ M K CA E ta e (.ok a) e1) (h : o.f a = some c) : EvZ M K CA E (tUn o.r ta) e (.ok c) e1 := fun O F H σ π Q w q =>
  ha O F H σ π _ w fun π1 x F1 H1 g1 s1 w1 hx => o.h π1 a c h x F1 H1 Q w1.w.sub hx fun v F3 H3 s3 hv => q π1 v F3 H3 g1 (s1.trans s3.x) (w1.step s3) hv
theorem ez_fn {o : ON M K} {ta : TA} {as : List Dt} {c : Dt} (ha : EvZA M K CA E ta e (.inl as) e1) (h : o.f as = some c) : EvZ M K CA E (tCB o.r ta) e (.ok c) e1 := fun O F H σ π Q w q =>
  ha O F H σ π _ w fun π1 x F1 H1 g1 s1 w1 hx => o.h π1 as c h x F1 H1 Q w1.w.sub hx fun v F3 H3 s3 hv => q π1 v F3 H3 g1 (s1.trans s3.x) (w1.step s3) hv
theorem eza_nil : EvZA M K CA E tNil e (.inl []) e := fun O F H σ π Q w q => q π [] F H (Grow.refl π H) .refl w (by rw [isXs]; exact .nil)
theorem eza_cons {ta : TE} {tr : TA} {d : Dt} {ds : List Dt} {e2 : Zs} (ha : EvZ M K CA E ta e (.ok d) e1) (hr : EvZA M K CA E tr e1 (.inl ds) e2) : EvZA M K CA E (tCons ta tr) e (.inl (d :: ds)) e2 := fun O F H σ π Q w q =>
  ha O F H σ π _ w fun π1 x F1 H1 g1 s1 w1 hx => hr O F1 H1 σ π1 _ w1 fun π2 xs F2 H2 g2 s2 w2 hxs =>
    q π2 (x :: xs) F2 H2 (g1.trans g2 s1.dom) (s1.trans s2) w2 (by rw [isXs]; exact .cons (X_grow g2.le _ _ _ (Ty.mono _ s2.gw hx)) hxs)
theorem eza_exc1 {ta : TE} {tr : TA} {C : Value} (ha : EvZ M K CA E ta e (.exc C) e1) : EvZA M K CA E (tCons ta tr) e (.inr C) e1 := fun O F H σ π Q w q => ha O F H σ π _ w q
theorem eza_exc2 {ta : TE} {tr : TA} {d : Dt} {C : Value} {e2 : Zs} (ha : EvZ M K CA E ta e (.ok d) e1) (hr : EvZA M K CA E tr e1 (.inr C) e2) : EvZA M K CA E (tCons ta tr) e (.inr C) e2 := fun O F H σ π Q w q =>
  ha O F H σ π _ w fun π1 x F1 H1 g1 s1 w1 hx => hr O F1 H1 σ π1 _ w1 (FinZA.step (r := .inr C) g1 s1 q)
theorem ez_tup {ta : TA} {ds : List Dt} (ha : EvZA M K CA E ta e (.inl ds) e1) (hl : ds.length ≤ 1000) : EvZ M K CA E (tTup ta) e (.ok (.tuple ds)) e1 := fun O F H σ π Q w q =>
  ha O F H σ π _ w fun π1 xs F1 H1 g1 s1 w1 hx => ⟨Nat.le_trans (by rw [hx.length, isXs_length]; exact hl) (by decide), fun p hp => by
    have st := Step.new (M := M) (o := .tup xs) w1.w.sub hp
    refine q π1 (.ref p) _ _ g1 (s1.trans st.x) (w1.step st) ?_
    rw [isX]
    exact ⟨p, xs, rfl, upd_same, hx.mono st.gw⟩⟩
theorem ez_lst {ta : TA} {ds : List Dt} (ha : EvZA M K CA E ta e (.inl ds) e1) (hl : ds.length ≤ 1000) : EvZ M K CA E (tLst ta) e (.ok (.list ds)) e1 := fun O F H σ π Q w q =>
  ha O F H σ π _ w fun π1 xs F1 H1 g1 s1 w1 hx => ⟨Nat.le_trans (by rw [hx.length, isXs_length]; exact hl) (by decide), fun p hp => by
    have st := Step.new (M := M) (o := .lst xs) w1.w.sub hp
    refine q π1 (.ref p) _ _ g1 (s1.trans st.x) (w1.step st) ?_
    rw [isX]
    exact ⟨p, xs, rfl, upd_same, hx.mono st.gw⟩⟩
theorem ez_tup_exc {ta : TA} {C : Value} (ha : EvZA M K CA E ta e (.inr C) e1) : EvZ M K CA E (tTup ta) e (.exc C) e1 := fun O F H σ π Q w q => ha O F H σ π _ w q
/-! ### calls that see the store -/
def StepZ (M : Hp → Hp → Prop) (π : Pa) (F H F2 H2 : Hp) : Prop := Sub F2 H2 ∧ StepX M (InA π) F H F2 H2
def spZ (M : Hp → Hp → Prop) (K : PySem.W.Frag) (CA : Str → Addr) (s : List Cell → List Dt → Option (Rd × List Cell)) : Sp := fun vs H Q E => ∃ (π : Pa) (S : List Cell) (as : List Dt) (rd : Rd) (S' : List Cell) (F : Hp),
  s S as = some (rd, S') ∧ Sub F H ∧ StOk M K CA π S F H ∧ Tys F vs (isXs (M := M) K π as) ∧ match rd with
  | .ok d => ∀ π' v F2 H2, Grow π π' H → StepZ M π F H F2 H2 → StOk M K CA π' S' F2 H2 → (isX (M := M) K π' d).φ v F2 → Q v H2
  | .exc C => ∀ π' F2 H2, Grow π π' H → StepZ M π F H F2 H2 → StOk M K CA π' S' F2 H2 → E C none H2
theorem Wz.called (w : Wz M K CA O F H σ π e) (gr : Grow π π1 H) (s : StepZ M π F H F2 H2) {S' : List Cell} (st : StOk M K CA π1 S' F2 H2) : StepX M O F H F2 H2 ∧ Wz M K CA O F2 H2 σ π1 ⟨e.v, S'⟩ := by
  have sx : StepX M O F H F2 H2 := ⟨s.2.gw, s.2.dom, fun a o n => s.2.fr a o fun z => n (w.ob a z).1⟩
  refine ⟨sx, ofE_grow ⟨s.1, ⟨w.w.sl.len, fun i sl h => ?_, w.w.sl.one⟩, w.w.own, fun p h => w.w.fresh p (sx.dom p h)⟩ gr.p gr.le, st, fun a h => ?_⟩
  · obtain ⟨x, e1, e2⟩ := w.w.sl.at_ i sl h
    refine ⟨x, e1, ?_⟩
    cases sl with
    | any => trivial
    | ty τ => obtain ⟨v, a1, a2⟩ := e2; exact ⟨v, a1, τ.mono sx.gw a2⟩
    | own u =>
      obtain ⟨p, o, a1, a2, a3, a4⟩ := e2
      subst a1
      have ow : OwnAt σ (ofE M K π e.v) p := ⟨i, u, h, e1⟩
      obtain ⟨b1, b2⟩ := s.2.fr p o (fun z => (w.ob p z).2 ow) a2 a3
      exact ⟨p, o, rfl, b1, b2, u.mono sx.gw a4⟩
  · have key : O a ∧ ¬ OwnAt σ (ofE M K π e.v) a := by
      rcases gr.new a h with z | z
      · exact w.ob a z
      · refine ⟨w.w.fresh a z, fun ow => ?_⟩
        obtain ⟨_, xs, _, _, _, h1, _⟩ := own_is w.w ow
        rw [z] at h1
        cases h1
    exact ⟨key.1, fun z => key.2 (ownAt_grow z)⟩
theorem ez_callZ {s : List Cell → List Dt → Option (Rd × List Cell)} {ta : TA} {as : List Dt} {S' : List Cell} (ha : EvZA M K CA E ta e (.inl as) e1) (hs : s e1.s as = some (r, S')) : EvZ M K CA E (tCall (spZ M K CA s) [] E ta) e r ⟨e1.v, S'⟩ := fun O F H σ π Q w q =>
  ha O F H σ π _ w fun π1 xs F1 H1 g1 s1 w1 hx => ⟨π1, e1.s, as, r, S', F1, hs, w1.w.sub, w1.st, by rw [List.append_nil]; exact hx, by
    cases r with
    | ok d =>
      intro π' v F2 H2 gr sz st hv
      obtain ⟨sx, w2⟩ := w1.called gr sz st
      exact q π' v F2 H2 (g1.trans gr s1.dom) (s1.trans sx) w2 hv
    | exc C =>
      intro π' F2 H2 gr sz st
      obtain ⟨sx, w2⟩ := w1.called gr sz st
      exact q π' F2 H2 (g1.trans gr s1.dom) (s1.trans sx) sz.1 st⟩
theorem ez_call_exc {sp : Sp} {E' : XK} {ta : TA} {C : Value} (ha : EvZA M K CA E ta e (.inr C) e1) : EvZ M K CA E (tCall sp [] E' ta) e (.exc C) e1 := fun O F H σ π Q w q => ha O F H σ π _ w q
/-- a pure def called -/
theorem ez_callP {s : List Dt → Option Rd} {ta : TA} {as : List Dt} (ha : EvZA M K CA E ta e (.inl as) e1) (hs : s as = some r) : EvZ M K CA E (tCall (spD M K s) [] E ta) e r e1 := fun O F H σ π Q w q =>
  ha O F H σ π _ w fun π1 xs F1 H1 g1 s1 w1 hx => ⟨isXs K π1 as, reOf M K π1 r, F1, ⟨π1, as, r, hs, rfl, rfl⟩, w1.w.sub, by rw [List.append_nil]; exact hx, by
    cases r with
    | ok d => exact fun v F2 H2 st hv => q π1 v F2 H2 g1 (s1.trans st.x) (w1.step st) hv
    | exc C => exact fun F2 H2 st => q π1 F2 H2 g1 (s1.trans st.x) st.sub (w1.step st).st⟩
/-- the object of a number -/
theorem Wz.obj (w : Wz M K CA O F H σ π e) {i : Nat} {c : Cell} {x : V} (h : e.s[i]? = some c) (hk : c.ks = none) (hx : (isX (M := M) K π (.obj i)).φ x F) : ∃ a dx fs, π.A[i]? = some (a, dx) ∧ x = .ref a ∧ H a = some (.ins (CA c.cls) dx fs) ∧ FsOk M K π F fs c.fs := by
  rw [isX] at hx
  obtain ⟨a, dx, h1, h2⟩ := hx
  rcases (w.st.at_ i (a, dx) c h1 h).ob with ⟨_, _, fs, h3, h4⟩ | ⟨_, ks, kvs, h0, _⟩
  · exact ⟨a, dx, fs, h1, h2, h3, h4⟩
  · rw [hk] at h0
    cases h0
theorem fs_look {F : Hp} {f : Str} {d : Dt} {fs : List (Str × V)} {gs : List (Str × Dt)} (h : FsOk M K π F fs gs) (l : gs.lookup f = some d) : ∃ v, fs.lookup f = some v ∧ (isX (M := M) K π d).φ v F := by
  unfold FsOk at h
  induction h with
  | nil => cases l
  | @cons p q fs gs a t ih =>
    obtain ⟨n, v⟩ := p
    obtain ⟨n', d'⟩ := q
    have e : n = n' := a.1
    subst e
    rw [List.lookup_cons] at l ⊢
    split at l
    · cases l
      exact ⟨v, rfl, a.2⟩
    · exact ih l
theorem fs_none {F : Hp} {f : Str} {fs : List (Str × V)} {gs : List (Str × Dt)} (h : FsOk M K π F fs gs) (l : gs.lookup f = none) : fs.lookup f = none := by
  unfold FsOk at h
  induction h with
  | nil => rfl
  | @cons p q fs gs a t ih =>
    obtain ⟨n, v⟩ := p
    obtain ⟨n', d'⟩ := q
    have e : n = n' := a.1
    subst e
    rw [List.lookup_cons] at l ⊢
    split at l
    · cases l
    · exact ih l
theorem ez_fld {ta : TE} {i : Nat} {c : Cell} {f : Str} {d : Dt} (ha : EvZ M K CA E ta e (.ok (.obj i)) e1) (h : e1.s[i]? = some c) (hk : c.ks = none) (hc : Cls K (CA c.cls)) (hn : NoAttr K (CA c.cls) f) (l : c.fs.lookup f = some d) : EvZ M K CA E (tFld K ta f) e (.ok d) e1 := fun O F H σ π Q w q =>
  ha O F H σ π _ w fun π1 x F1 H1 g1 s1 w1 hx => by
    obtain ⟨a, dx, fs, h1, h2, h3, h4⟩ := w1.obj h hk hx
    obtain ⟨v, h5, h6⟩ := fs_look h4 l
    exact ⟨a, _, dx, fs, v, h2, h3, hc, hn, h5, q π1 v F1 H1 g1 s1 w1 h6⟩
theorem ez_meth {m : Str} {s : List Cell → List Dt → Option (Rd × List Cell)} {ta : TE} {t : TA} {i : Nat} {c : Cell} {as : List Dt} {e2 : Zs} {S' : List Cell} (ha : EvZ M K CA E ta e (.ok (.obj i)) e1) (h : e1.s[i]? = some c) (hk : c.ks = none) (l : c.fs.lookup m = none)
    (hr : EvZA M K CA E t e1 (.inl as) e2) (hs : s e2.s (.obj i :: as) = some (r, S')) : EvZ M K CA E (tMeth (CA c.cls) m (spZ M K CA s) [] E ta t) e r ⟨e2.v, S'⟩ := fun O F H σ π Q w q =>
  ha O F H σ π _ w fun π1 x F1 H1 g1 s1 w1 hx => by
    obtain ⟨a, dx, fs, h1, h2, h3, h4⟩ := w1.obj h hk hx
    refine ⟨a, dx, fs, h2, h3, fs_none h4 l, ?_⟩
    refine hr O F1 H1 σ π1 _ w1 fun π2 xs F2 H2 g2 s2 w2 hxs => ⟨π2, e2.s, .obj i :: as, r, S', F2, hs, w2.w.sub, w2.st, ?_, ?_⟩
    · rw [List.append_nil, isXs]
      exact .cons (X_grow g2.le _ _ _ (Ty.mono _ s2.gw hx)) hxs
    · cases r with
      | ok d =>
        intro π' v F3 H3 gr sz st hv
        obtain ⟨sx, w3⟩ := w2.called gr sz st
        exact q π' v F3 H3 ((g1.trans g2 s1.dom).trans gr (s1.trans s2).dom) ((s1.trans s2).trans sx) w3 hv
      | exc C =>
        intro π' F3 H3 gr sz st
        obtain ⟨sx, w3⟩ := w2.called gr sz st
        exact q π' F3 H3 ((g1.trans g2 s1.dom).trans gr (s1.trans s2).dom) ((s1.trans s2).trans sx) sz.1 st
/-! ### dicts whose keys are tuples of ints -/
def intsD : List Dt → Option (List Int)
  | [] => some []
  | .int i :: r => match intsD r with
    | some is => some (i :: is)
    | none => none
  | _ => none
def keyOf : Dt → Option (List Int)
  | .tuple ds => intsD ds
  | _ => none
theorem intsD_is : ∀ {ds : List Dt} {k : List Int}, intsD ds = some k → ds = k.map .int
  | [], k, h => by rw [intsD] at h; cases h; rfl
  | .int i :: r, k, h => by
    rw [intsD] at h
    split at h
    · rename_i is hi
      cases h
      rw [intsD_is hi]
      rfl
    · cases h
  | .none :: _, _, h => by simp [intsD] at h
  | .bool _ :: _, _, h => by simp [intsD] at h
  | .str _ :: _, _, h => by simp [intsD] at h
  | .list _ :: _, _, h => by simp [intsD] at h
  | .tuple _ :: _, _, h => by simp [intsD] at h
  | .ktup _ :: _, _, h => by simp [intsD] at h
  | .obj _ :: _, _, h => by simp [intsD] at h
theorem keyOf_is {d : Dt} {k : List Int} (h : keyOf d = some k) : d = .tuple (k.map .int) := by
  unfold keyOf at h
  split at h
  · rw [intsD_is h]
  · cases h
theorem tys_keys {F : Hp} : ∀ {k : List Int} {xs : List V}, Tys (M := M) F xs (isXs K π (k.map .int)) → xs = (k.map Sum.inl).map kV
  | [], xs, h => by rw [List.map_nil, isXs] at h; cases h; rfl
  | i :: k, _, h => by
    rw [List.map_cons, isXs] at h
    cases h with
    | cons a b =>
      rw [isX] at a
      cases (show Dp K F _ (.int i) from a)
      rw [tys_keys b]
      rfl
theorem key_at {F H : Hp} {v : V} {d : Dt} {k : List Int} (sub : Sub F H) (h : keyOf d = some k) (hv : (isX (M := M) K π d).φ v F) : ∃ b, v = .ref b ∧ H b = some (.tup ((k.map Sum.inl).map kV)) := by
  rw [keyOf_is h, isX] at hv
  obtain ⟨b, xs, e, h1, t⟩ := hv
  exact ⟨b, e, by rw [← tys_keys t]; exact sub _ _ h1⟩
def hasK (ks : List (List Int)) (k : List Int) : Bool := ks.any fun x => decide (x = k)
def addK (ks : List (List Int)) (k : List Int) : List (List Int) := if hasK ks k then ks else ks ++ [k]
theorem inl_inj {a k : List Int} : (a.map Sum.inl : List Key) = k.map Sum.inl ↔ a = k := by
  constructor
  · intro e
    have z := congrArg (List.map fun x : Key => match x with | .inl i => i | .inr _ => (0 : Int)) e
    rw [List.map_map, List.map_map] at z
    have i1 : ((fun x : Key => match x with | .inl i => i | .inr _ => (0 : Int)) ∘ (Sum.inl : Int → Key)) = id := rfl
    rw [i1, List.map_id, List.map_id] at z
    exact z
  · intro e
    rw [e]
theorem any_keys {k : List Int} : ∀ {kvs : List (List Key × V)} {ks : List (List Int)}, kvs.map (·.1) = ks.map (fun k => k.map Sum.inl) → (kvs.any fun p => decide (p.1 = (k.map Sum.inl : List Key))) = hasK ks k
  | [], [], _ => rfl
  | [], _ :: _, h => by cases h
  | _ :: _, [], h => by cases h
  | p :: kvs, a :: ks, h => by
    rw [List.map_cons, List.map_cons] at h
    injection h with h1 h2
    unfold hasK
    rw [List.any_cons, List.any_cons, any_keys h2, h1]
    have e : decide ((a.map Sum.inl : List Key) = k.map Sum.inl) = decide (a = k) := decide_eq_decide.mpr inl_inj
    rw [e]
    rfl
theorem val_any {k : List Key} : ∀ {kvs : List (List Key × V)}, (valV kvs k).isSome = kvs.any fun p => decide (p.1 = k)
  | [] => rfl
  | p :: kvs => by
    unfold valV
    rw [List.find?_cons, List.any_cons]
    cases h : decide (p.1 = k) with
    | true => rfl
    | false =>
      have z := val_any (k := k) (kvs := kvs)
      unfold valV at z
      rw [Bool.false_or, ← z]
theorem put_keys {k : List Int} {v : V} {kvs : List (List Key × V)} {ks : List (List Int)} (h : kvs.map (·.1) = ks.map (fun k => k.map Sum.inl)) : (putK kvs (k.map Sum.inl) v).map (·.1) = (addK ks k).map fun k => k.map Sum.inl := by
  unfold putK addK
  rw [any_keys h]
  cases hasK ks k with
  | true =>
    rw [if_pos rfl, if_pos rfl, List.map_map, ← h]
    refine List.map_congr_left fun p _ => ?_
    show (if p.1 = (k.map Sum.inl : List Key) then (p.1, v) else p).1 = p.1
    split <;> rfl
  | false =>
    rw [if_neg Bool.false_ne_true, if_neg Bool.false_ne_true, List.map_append, List.map_append, h]
    rfl
theorem Wz.dic (w : Wz M K CA O F H σ π e) {i : Nat} {c : Cell} {x : V} {ks : List (List Int)} (h : e.s[i]? = some c) (hk : c.ks = some ks) (hx : (isX (M := M) K π (.obj i)).φ x F) : ∃ a kvs, π.A[i]? = some (a, a) ∧ x = .ref a ∧ H a = some (.dT kvs) ∧ kvs.map (·.1) = ks.map fun k => k.map Sum.inl := by
  rw [isX] at hx
  obtain ⟨a, dx, h1, h2⟩ := hx
  rcases (w.st.at_ i (a, dx) c h1 h).ob with ⟨h0, _⟩ | ⟨e2, ks', kvs, h0, h3, h4⟩
  · rw [hk] at h0; cases h0
  · rw [hk] at h0
    cases h0
    have e2 : dx = a := e2
    subst e2
    exact ⟨_, kvs, h1, h2, h3, h4⟩
/-- k in d -/
theorem ez_din {tk td : TE} {i : Nat} {c : Cell} {k : Dt} {key : List Int} {ks : List (List Int)} {e2 : Zs} (hk : EvZ M K CA E tk e (.ok k) e1) (hd : EvZ M K CA E td e1 (.ok (.obj i)) e2) (h : e2.s[i]? = some c) (h0 : c.ks = some ks) (h1 : keyOf k = some key) :
    EvZ M K CA E (tDIn tk td) e (.ok (.bool (hasK ks key))) e2 := fun O F H σ π Q w q =>
  hk O F H σ π _ w fun π1 y F1 H1 g1 s1 w1 hy => hd O F1 H1 σ π1 _ w1 fun π2 x F2 H2 g2 s2 w2 hx => by
    obtain ⟨a, kvs, _, ex, h3, h4⟩ := w2.dic h h0 hx
    obtain ⟨b, ey, hb⟩ := key_at w2.w.sub h1 (X_grow g2.le _ _ _ (Ty.mono _ s2.gw hy))
    subst ex ey
    refine ⟨a, _, rfl, DGet.t h3 hb, ?_⟩
    rw [val_any, any_keys h4]
    exact q π2 _ F2 H2 (g1.trans g2 s1.dom) (s1.trans s2) w2 (by rw [isX]; exact Dp.bl _)
theorem ez_dnin {tk td : TE} {i : Nat} {c : Cell} {k : Dt} {key : List Int} {ks : List (List Int)} {e2 : Zs} (hk : EvZ M K CA E tk e (.ok k) e1) (hd : EvZ M K CA E td e1 (.ok (.obj i)) e2) (h : e2.s[i]? = some c) (h0 : c.ks = some ks) (h1 : keyOf k = some key) :
    EvZ M K CA E (tDNotIn tk td) e (.ok (.bool (!hasK ks key))) e2 := fun O F H σ π Q w q =>
  hk O F H σ π _ w fun π1 y F1 H1 g1 s1 w1 hy => hd O F1 H1 σ π1 _ w1 fun π2 x F2 H2 g2 s2 w2 hx => by
    obtain ⟨a, kvs, _, ex, h3, h4⟩ := w2.dic h h0 hx
    obtain ⟨b, ey, hb⟩ := key_at w2.w.sub h1 (X_grow g2.le _ _ _ (Ty.mono _ s2.gw hy))
    subst ex ey
    refine ⟨a, _, rfl, DGet.t h3 hb, ?_⟩
    rw [val_any, any_keys h4]
    exact q π2 _ F2 H2 (g1.trans g2 s1.dom) (s1.trans s2) w2 (by rw [isX]; exact Dp.bl _)
end
end Bc

set_option maxRecDepth 100000
set_option maxHeartbeats 4000000
/-! BdY: more rules: making, handing out, tests, walks, comprehensions over the store. -/
namespace Bc
open PySem PySem.Spec
open PyProof.Rows L2
variable {M : Hp → Hp → Prop} [g : GB M] {K : PySem.W.Frag} {CA : Str → Addr}
section
variable {O : Addr → Prop} {F H F1 H1 F2 H2 : Hp} {σ : L2.St} {π π1 π2 : Pa} {e e' e1 e2 : Zs} {S : List Cell} {E : XK} {Q : VK} {r : Rd}
theorem inA_snoc {q : Addr × Addr} {a : Addr} : InA ⟨π.p, π.A ++ [q]⟩ a ↔ InA π a ∨ a = q.1 ∨ a = q.2 := by
  unfold InA
  constructor
  · rintro ⟨p, hp, h⟩
    rcases List.mem_append.mp hp with z | z
    · exact .inl ⟨p, z, h⟩
    · rw [List.mem_singleton] at z
      subst z
      exact .inr h
  · rintro (⟨p, hp, h⟩ | h)
    · exact ⟨p, List.mem_append_left _ hp, h⟩
    · exact ⟨q, List.mem_append_right _ (List.mem_singleton.mpr rfl), h⟩
/-- a new object without fields -/
theorem st_new (w : Wz M K CA O F H σ π e) {x dx : Addr} {cls : Str} (hx : H x = none) (hd : H dx = none) (ne : dx ≠ x) :
    StOk M K CA ⟨π.p, π.A ++ [(x, dx)]⟩ (e.s ++ [⟨cls, [], none⟩]) F (upd (upd H dx (.own x)) x (.ins (CA cls) dx [])) := by
  have old : ∀ a o, H a = some o → upd (upd H dx (.own x)) x (.ins (CA cls) dx []) a = some o := fun a o h => by
    rw [upd_ne (ne_of_none h hx), upd_ne (ne_of_none h hd)]
    exact h
  refine ⟨by rw [List.length_append, List.length_append, w.st.len]; rfl, fun i q c h1 h2 => ?_, fun i j p q h1 h2 h3 => ?_⟩
  · rw [List.getElem?_append] at h1 h2
    rw [w.st.len] at h1
    by_cases hi : i < e.s.length
    · rw [if_pos hi] at h1 h2
      have c1 := w.st.at_ i q c h1 h2
      refine ⟨c1.fa, c1.fd, ?_⟩
      rcases c1.ob with ⟨h0, hd, fs, h3, h4⟩ | ⟨e2, ks, kvs, h0, h3, h4⟩
      · exact .inl ⟨h0, old _ _ hd, fs, old _ _ h3, h4.mono (Gw.refl F) ⟨[(x, dx)], rfl⟩⟩
      · exact .inr ⟨e2, ks, kvs, h0, old _ _ h3, h4⟩
    · rw [if_neg hi] at h1 h2
      have e0 : i - e.s.length = 0 := by
        have := (List.getElem?_eq_some_iff.mp h2).1
        simp at this
        omega
      rw [e0] at h1 h2
      cases h1
      cases h2
      exact ⟨w.w.sub.no hx, w.w.sub.no hd, .inl ⟨rfl, by rw [upd_ne ne, upd_same], [], upd_same, .nil⟩⟩
  · have n : ∀ (i : Nat) (p : Addr × Addr), (π.A ++ [(x, dx)])[i]? = some p → (i < π.A.length ∧ π.A[i]? = some p) ∨ (i = π.A.length ∧ p = (x, dx)) := fun i p h => by
      rw [List.getElem?_append] at h
      split at h
      · rename_i hi; exact .inl ⟨hi, h⟩
      · rename_i hi
        have := (List.getElem?_eq_some_iff.mp h).1
        simp at this
        have e0 : i - π.A.length = 0 := by omega
        rw [e0] at h
        cases h
        exact .inr ⟨by omega, rfl⟩
    have fr : ∀ (i : Nat) (p : Addr × Addr), π.A[i]? = some p → p.1 ≠ x := fun i p h z => by
      obtain ⟨_, o, ho⟩ := w.st.has (a := p.1) ⟨p, List.mem_of_getElem? h, .inl rfl⟩
      rw [z, hx] at ho
      cases ho
    rcases n i p h1 with ⟨_, a⟩ | ⟨a, a'⟩
    · rcases n j q h2 with ⟨_, b⟩ | ⟨b, b'⟩
      · exact w.st.inj i j p q a b h3
      · subst b'
        exact absurd h3 (fr i p a)
    · rcases n j q h2 with ⟨_, b⟩ | ⟨b, b'⟩
      · subst a'
        exact absurd h3.symm (fr j q b)
      · omega
theorem ez_make {cls : Str} {s : List Cell → List Dt → Option (Rd × List Cell)} {t : TA} {as : List Dt} {S' : List Cell} (ha : EvZA M K CA E t e (.inl as) e1) (hs : s (e1.s ++ [⟨cls, [], none⟩]) (.obj e1.s.length :: as) = some (.ok .none, S')) :
    EvZ M K CA E (tMake (CA cls) (spZ M K CA s) [] E t) e (.ok (.obj e1.s.length)) ⟨e1.v, S'⟩ := fun O F H σ π Q w q =>
  ha O F H σ π _ w fun π1 xs F1 H1 g1 s1 w1 hxs => fun x dx hx hd ne => by
    have gr0 : PaLe π1 ⟨π1.p, π1.A ++ [(x, dx)]⟩ := ⟨[(x, dx)], rfl⟩
    have old : ∀ a o, H1 a = some o → upd (upd H1 dx (.own x)) x (.ins (CA cls) dx []) a = some o := fun a o h => by
      rw [upd_ne (ne_of_none h hx), upd_ne (ne_of_none h hd)]
      exact h
    have new : ∀ a, upd (upd H1 dx (.own x)) x (.ins (CA cls) dx []) a = none → H1 a = none := fun a h => by
      cases q : H1 a with
      | none => rfl
      | some o => rw [old a o q] at h; cases h
    refine ⟨⟨π1.p, π1.A ++ [(x, dx)]⟩, e1.s ++ [⟨cls, [], none⟩], .obj e1.s.length :: as, .ok .none, S', F1, hs, fun a o h => old a o (w1.w.sub a o h), st_new w1 hx hd ne, ?_, ?_⟩
    · rw [List.append_nil, isXs]
      refine .cons ?_ (Xs_grow gr0 _ _ _ hxs)
      rw [isX]
      refine ⟨x, dx, ?_, rfl⟩
      show (π1.A ++ [(x, dx)])[e1.s.length]? = _
      rw [← w1.st.len, List.getElem?_append_right (Nat.le_refl _), Nat.sub_self]
      rfl
    · intro π' v F2 H2 gr sz st hv
      rw [isX] at hv
      cases (show Dp K F2 v .none from hv)
      refine ⟨rfl, ?_⟩
      have gr1 : Grow π1 π' H1 := ⟨gr.p, List.IsPrefix.trans gr0 gr.le, fun a h => by
        rcases gr.new a h with z | z
        · rcases inA_snoc.mp z with z | z | z
          · exact .inl z
          · exact .inr (z ▸ hx)
          · exact .inr (z ▸ hd)
        · exact .inr (new a z)⟩
      have sz1 : StepZ M π1 F1 H1 F2 H2 := ⟨sz.1, sz.2.gw, fun a h => new a (sz.2.dom a h), fun a o n h1 h2 => by
        refine sz.2.fr a o (fun z => ?_) h1 (old a o h2)
        rcases inA_snoc.mp z with z | z | z
        · exact n z
        · have z : a = x := z
          rw [z, hx] at h2; cases h2
        · have z : a = dx := z
          rw [z, hd] at h2; cases h2⟩
      obtain ⟨sx, w2⟩ := w1.called gr1 sz1 st
      refine q π' (.ref x) F2 H2 (g1.trans gr1 s1.dom) (s1.trans sx) w2 ?_
      rw [isX]
      refine ⟨x, dx, ?_, rfl⟩
      obtain ⟨t, ht⟩ := gr.le
      have ht : π1.A ++ [(x, dx)] ++ t = π'.A := ht
      rw [← ht, ← w1.st.len, List.append_assoc, List.getElem?_append_right (Nat.le_refl _), Nat.sub_self]
      rfl
/-- a new dict -/
theorem st_dict (w : Wz M K CA O F H σ π e) {x : Addr} (hx : H x = none) : StOk M K CA ⟨π.p, π.A ++ [(x, x)]⟩ (e.s ++ [⟨Str.empty, [], some []⟩]) F (upd H x (.dT [])) := by
  have old : ∀ a o, H a = some o → upd H x (.dT []) a = some o := fun a o h => by
    rw [upd_ne (ne_of_none h hx)]
    exact h
  refine ⟨by rw [List.length_append, List.length_append, w.st.len]; rfl, fun i q c h1 h2 => ?_, fun i j p q h1 h2 h3 => ?_⟩
  · rw [List.getElem?_append] at h1 h2
    rw [w.st.len] at h1
    by_cases hi : i < e.s.length
    · rw [if_pos hi] at h1 h2
      have c1 := w.st.at_ i q c h1 h2
      refine ⟨c1.fa, c1.fd, ?_⟩
      rcases c1.ob with ⟨h0, hd, fs, h3, h4⟩ | ⟨e2, ks, kvs, h0, h3, h4⟩
      · exact .inl ⟨h0, old _ _ hd, fs, old _ _ h3, h4.mono (Gw.refl F) ⟨[(x, x)], rfl⟩⟩
      · exact .inr ⟨e2, ks, kvs, h0, old _ _ h3, h4⟩
    · rw [if_neg hi] at h1 h2
      have e0 : i - e.s.length = 0 := by
        have := (List.getElem?_eq_some_iff.mp h2).1
        simp at this
        omega
      rw [e0] at h1 h2
      cases h1
      cases h2
      exact ⟨w.w.sub.no hx, w.w.sub.no hx, .inr ⟨rfl, [], [], rfl, upd_same, rfl⟩⟩
  · have n : ∀ (i : Nat) (p : Addr × Addr), (π.A ++ [(x, x)])[i]? = some p → (i < π.A.length ∧ π.A[i]? = some p) ∨ (i = π.A.length ∧ p = (x, x)) := fun i p h => by
      rw [List.getElem?_append] at h
      split at h
      · rename_i hi; exact .inl ⟨hi, h⟩
      · rename_i hi
        have := (List.getElem?_eq_some_iff.mp h).1
        simp at this
        have e0 : i - π.A.length = 0 := by omega
        rw [e0] at h
        cases h
        exact .inr ⟨by omega, rfl⟩
    have fr : ∀ (i : Nat) (p : Addr × Addr), π.A[i]? = some p → p.1 ≠ x := fun i p h z => by
      obtain ⟨_, o, ho⟩ := w.st.has (a := p.1) ⟨p, List.mem_of_getElem? h, .inl rfl⟩
      rw [z, hx] at ho
      cases ho
    rcases n i p h1 with ⟨_, a⟩ | ⟨a, a'⟩
    · rcases n j q h2 with ⟨_, b⟩ | ⟨b, b'⟩
      · exact w.st.inj i j p q a b h3
      · subst b'
        exact absurd h3 (fr i p a)
    · rcases n j q h2 with ⟨_, b⟩ | ⟨b, b'⟩
      · subst a'
        exact absurd h3.symm (fr j q b)
      · omega
theorem ez_dnew : EvZ M K CA E tDNewT e (.ok (.obj e.s.length)) ⟨e.v, e.s ++ [⟨Str.empty, [], some []⟩]⟩ := fun O F H σ π Q w q => fun x hx => by
  have gr0 : PaLe π ⟨π.p, π.A ++ [(x, x)]⟩ := ⟨[(x, x)], rfl⟩
  have st := Step.own (M := M) (o := .dT []) w.w.sub hx
  have gr1 : Grow π ⟨π.p, π.A ++ [(x, x)]⟩ H := ⟨rfl, gr0, fun a h => by
    rcases inA_snoc.mp h with z | z | z
    · exact .inl z
    · exact .inr (z ▸ hx)
    · exact .inr (z ▸ hx)⟩
  have dom : ∀ a, upd H x (.dT []) a = none → H a = none := fun a h => by
    cases z : H a with
    | none => rfl
    | some o => rw [upd_ne (ne_of_none z hx), z] at h; cases h
  have sz : StepZ M π F H F (upd H x (.dT [])) := ⟨st.sub, st.gw, dom, fun a o _ h1 h2 => st.fr a o h1 h2⟩
  obtain ⟨sx, w2⟩ := w.called gr1 sz (st_dict w hx)
  refine q _ (.ref x) F _ gr1 sx w2 ?_
  rw [isX]
  refine ⟨x, x, ?_, rfl⟩
  show (π.A ++ [(x, x)])[e.s.length]? = _
  rw [← w.st.len, List.getElem?_append_right (Nat.le_refl _), Nat.sub_self]
  rfl
/-- a list of one's own is handed out -/
theorem ez_give {i : Nat} {ds : List Dt} {q0 : Bool} (h : e.v[i]? = some (.own q0 ds)) : EvZ M K CA E (tVar i) e (.ok (.list ds)) ⟨e.v.set i (.val (.list ds)), e.s⟩ := fun O F H σ π Q w q => by
  obtain ⟨p, xs, a1, a2, a3, a4, a0⟩ := own_of w.w h
  refine ⟨.ref p, a1, ?_⟩
  have ow : OwnAt σ (ofE M K π e.v) p := ofE_ownAt h a1
  have hτ : (isX (M := M) K π (.list ds)).φ (.ref p) (upd F p (.lst xs)) := by
    rw [isX]
    exact ⟨p, xs, rfl, upd_same, a4.mono (Gw.new a2)⟩
  obtain ⟨w2, s2⟩ := w.w.freeze (ofE_get h) a1 a2 a3 hτ
  refine q π (.ref p) (upd F p (.lst xs)) H (Grow.refl π H) s2 ⟨by rw [ofE_set]; exact w2, w.st.stay s2.gw fun a o h1 h2 => ?_, fun a ha => ⟨(w.ob a ha).1, fun z => ?_⟩⟩ hτ
  · have na : a ≠ p := fun z => (w.ob a h1).2 (z ▸ ow)
    exact ⟨by rw [upd_ne na]; exact (w.st.has h1).1, h2⟩
  · obtain ⟨j, q', ds', h1, h2⟩ := ofE_own z
    rw [List.getElem?_set] at h1
    split at h1
    · split at h1 <;> cases h1
    · exact (w.ob a ha).2 (ofE_ownAt h1 h2)
/-- own lists of the slots written -/
theorem Wz.owned (w : Wz M K CA O F H σ π e) {i : Nat} {q0 : Bool} {ds ds' : List Dt} {p : Addr} {xs xs' : List V} (h : e.v[i]? = some (.own q0 ds)) (hp : σ[i]? = some (some (.ref p))) (hf : F p = none) (hh : H p = some (.lst xs)) (ht : Tys F xs' (isXs (M := M) K π ds')) (h0 : ∀ a, pinOf π q0 = some a → p = a) :
    Wz M K CA O F (upd H p (.lst xs')) σ π ⟨e.v.set i (.own q0 ds'), e.s⟩ ∧ StepX M O F H F (upd H p (.lst xs')) := by
  obtain ⟨w2, s2⟩ := own_write (ds' := ds') (xs' := xs') w.w h hp hf hh ht h0
  have ow : OwnAt σ (ofE M K π e.v) p := ofE_ownAt h hp
  refine ⟨⟨w2, w.st.stay s2.gw fun a o h1 h2 => ?_, fun a ha => ⟨(w.ob a ha).1, fun z => ?_⟩⟩, s2⟩
  · have na : a ≠ p := fun z => (w.ob a h1).2 (z ▸ ow)
    exact ⟨(w.st.has h1).1, by rw [upd_ne na]; exact h2⟩
  · obtain ⟨j, q', ds2, h1, h2⟩ := ofE_own z
    rw [List.getElem?_set] at h1
    split at h1
    · rename_i hj
      subst hj
      rw [hp] at h2
      injection h2 with h2; injection h2 with h2; injection h2 with h2
      exact (w.ob a ha).2 (h2 ▸ ow)
    · exact (w.ob a ha).2 (ofE_ownAt h1 h2)
/-- x.pop() as a value -/
theorem ez_popX {i : Nat} {q0 : Bool} {ds : List Dt} {d : Dt} (h : e.v[i]? = some (.own q0 ds)) (hd : ds[ds.length - 1]? = some d) : EvZ M K CA E (tBM0 K "list" rPop (tVar i)) e (.ok d) ⟨e.v.set i (.own q0 ds.dropLast), e.s⟩ := fun O F H σ π Q w q => by
  obtain ⟨p, xs, a1, a2, a3, a4, a0⟩ := own_of w.w h
  have hx : xs.length = ds.length := by rw [a4.length, isXs_length]
  have hl := (List.getElem?_eq_some_iff.mp hd).1
  have hl2 : ds.length - 1 < xs.length := by omega
  refine ⟨.ref p, a1, .inl ⟨rfl, xs, Or.inl (Or.inl a3)⟩, p, xs, xs[ds.length - 1], rfl, rfl, a3, by rw [hx]; exact List.getElem?_eq_getElem hl2, ?_⟩
  have t2 : Tys F xs.dropLast (isXs (M := M) K π ds.dropLast) := by
    rw [isXs_map, List.map_dropLast, ← isXs_map]
    exact tys_dropLast a4
  obtain ⟨w2, s2⟩ := w.owned (ds' := ds.dropLast) (xs' := xs.dropLast) h a1 a2 a3 t2 a0
  refine q π _ F _ (Grow.refl π H) s2 w2 ?_
  have z := tys_nth a4 (List.getElem?_eq_getElem hl2)
  rw [nth_X _ _ hl, List.getD_eq_getElem?_getD, hd] at z
  exact z
/-! ### tests -/
theorem xbz {b : Bool} : isX (M := M) K π (.bool b) = isD K (.bool b) := by rw [isX]
theorem bool_is {b : Bool} {v : V} (h : (isX (M := M) K π (.bool b)).φ v F) : v = .bl b := by
  rw [isX] at h
  cases (show Dp K F v (.bool b) from h)
  rfl
theorem is_bool {b : Bool} : (isX (M := M) K π (.bool b)).φ (.bl b) F := by
  rw [isX]
  exact Dp.bl b
theorem ezt_test {te : TE} {b : Bool} (h : EvZ M K CA E te e (.ok (.bool b)) e1) : EvZT M K CA (tTest te) e b e1 := fun O F H σ π Q w q =>
  h O F H σ π _ w fun π1 v F2 H2 g1 s1 w1 hv => ⟨b, bool_is hv, q π1 F2 H2 g1 s1 w1⟩
theorem ezt_B {te : TE} {b : Bool} (h : EvZ M K CA E te e (.ok (.bool b)) e1) : EvZT M K CA (tB te) e b e1 := fun O F H σ π Q w q =>
  h O F H σ π _ w fun π1 v F2 H2 g1 s1 w1 hv => ⟨b, bool_is hv, q π1 F2 H2 g1 s1 w1⟩
theorem ezt_andT {t u : TT} {b : Bool} (h1 : EvZT M K CA t e true e1) (h2 : EvZT M K CA u e1 b e2) : EvZT M K CA (tAnd t u) e b e2 := fun O F H σ π Q w q =>
  h1 O F H σ π _ w fun π1 F1 H1 g1 s1 w1 => h2 O F1 H1 σ π1 Q w1 fun π2 F2 H2 g2 s2 w2 => q π2 F2 H2 (g1.trans g2 s1.dom) (s1.trans s2) w2
theorem ezt_andF {t u : TT} (h1 : EvZT M K CA t e false e1) : EvZT M K CA (tAnd t u) e false e1 := fun O F H σ π Q w q =>
  h1 O F H σ π _ w fun π1 F1 H1 g1 s1 w1 => q π1 F1 H1 g1 s1 w1
theorem ezt_orF {t u : TT} {b : Bool} (h1 : EvZT M K CA t e false e1) (h2 : EvZT M K CA u e1 b e2) : EvZT M K CA (tOr t u) e b e2 := fun O F H σ π Q w q =>
  h1 O F H σ π _ w fun π1 F1 H1 g1 s1 w1 => h2 O F1 H1 σ π1 Q w1 fun π2 F2 H2 g2 s2 w2 => q π2 F2 H2 (g1.trans g2 s1.dom) (s1.trans s2) w2
theorem ezt_orT {t u : TT} (h1 : EvZT M K CA t e true e1) : EvZT M K CA (tOr t u) e true e1 := fun O F H σ π Q w q =>
  h1 O F H σ π _ w fun π1 F1 H1 g1 s1 w1 => q π1 F1 H1 g1 s1 w1
theorem ezt_not {t : TT} {b : Bool} (h1 : EvZT M K CA t e b e1) : EvZT M K CA (tNot t) e (!b) e1 := fun O F H σ π Q w q => h1 O F H σ π _ w q
theorem ez_andT {ta tb : TE} {b : Bool} (h1 : EvZ M K CA E ta e (.ok (.bool true)) e1) (h2 : EvZ M K CA E tb e1 (.ok (.bool b)) e2) : EvZ M K CA E (tAndV ta tb) e (.ok (.bool b)) e2 := fun O F H σ π Q w q =>
  h1 O F H σ π _ w fun π1 v F1 H1 g1 s1 w1 hv => ⟨true, bool_is hv, by
    rw [if_pos rfl]
    exact h2 O F1 H1 σ π1 Q w1 (FinZ.step (r := .ok _) g1 s1 q)⟩
theorem ez_andF {ta tb : TE} (h1 : EvZ M K CA E ta e (.ok (.bool false)) e1) : EvZ M K CA E (tAndV ta tb) e (.ok (.bool false)) e1 := fun O F H σ π Q w q =>
  h1 O F H σ π _ w fun π1 v F1 H1 g1 s1 w1 hv => ⟨false, bool_is hv, by
    rw [if_neg Bool.false_ne_true]
    exact q π1 _ F1 H1 g1 s1 w1 is_bool⟩
theorem ez_orF {ta tb : TE} {b : Bool} (h1 : EvZ M K CA E ta e (.ok (.bool false)) e1) (h2 : EvZ M K CA E tb e1 (.ok (.bool b)) e2) : EvZ M K CA E (tOrV ta tb) e (.ok (.bool b)) e2 := fun O F H σ π Q w q =>
  h1 O F H σ π _ w fun π1 v F1 H1 g1 s1 w1 hv => ⟨false, bool_is hv, by
    rw [if_neg Bool.false_ne_true]
    exact h2 O F1 H1 σ π1 Q w1 (FinZ.step (r := .ok _) g1 s1 q)⟩
theorem ez_orT {ta tb : TE} (h1 : EvZ M K CA E ta e (.ok (.bool true)) e1) : EvZ M K CA E (tOrV ta tb) e (.ok (.bool true)) e1 := fun O F H σ π Q w q =>
  h1 O F H σ π _ w fun π1 v F1 H1 g1 s1 w1 hv => ⟨true, bool_is hv, by
    rw [if_pos rfl]
    exact q π1 _ F1 H1 g1 s1 w1 is_bool⟩
theorem ez_notV {ta : TE} {b : Bool} (h1 : EvZ M K CA E ta e (.ok (.bool b)) e1) : EvZ M K CA E (tNotV ta) e (.ok (.bool (!b))) e1 := fun O F H σ π Q w q =>
  h1 O F H σ π _ w fun π1 v F1 H1 g1 s1 w1 hv => ⟨b, bool_is hv, q π1 _ F1 H1 g1 s1 w1 is_bool⟩
theorem ez_ifT {t : TT} {ta tb : TE} (h1 : EvZT M K CA t e true e1) (h2 : EvZ M K CA E ta e1 r e2) : EvZ M K CA E (tIf t ta tb) e r e2 := fun O F H σ π Q w q =>
  h1 O F H σ π _ w fun π1 F1 H1 g1 s1 w1 => by
    rw [if_pos rfl]
    exact h2 O F1 H1 σ π1 Q w1 (FinZ.step g1 s1 q)
theorem ez_ifF {t : TT} {ta tb : TE} (h1 : EvZT M K CA t e false e1) (h2 : EvZ M K CA E tb e1 r e2) : EvZ M K CA E (tIf t ta tb) e r e2 := fun O F H σ π Q w q =>
  h1 O F H σ π _ w fun π1 F1 H1 g1 s1 w1 => by
    rw [if_neg Bool.false_ne_true]
    exact h2 O F1 H1 σ π1 Q w1 (FinZ.step g1 s1 q)
/-! ### what is walked -/
def EvZI (M : Hp → Hp → Prop) (K : PySem.W.Frag) (CA : Str → Addr) (wi : TI) (e : Zs) (ds : List Dt) (e' : Zs) : Prop := ∀ O F H σ π R, Wz M K CA O F H σ π e →
  (∀ J π' F2 H2, Grow π π' H → StepX M O F H F2 H2 → Wz M K CA O F2 H2 σ π' e' → WkTy J ds.length (nth (isXs (M := M) K π' ds)) F2 → R J H2) → wi σ H R
theorem ezi_list {tl : TE} {ds : List Dt} (h : EvZ M K CA E0 tl e (.ok (.list ds)) e1) : EvZI M K CA (iSeq K tl) e ds e1 := fun O F H σ π R w q =>
  h O F H σ π _ w fun π1 v F2 H2 g1 s1 w1 hv => by
    rw [isX] at hv
    obtain ⟨a, xs, e, hx, ht⟩ := hv
    refine ⟨a, e, .inl ⟨⟨xs, Or.inl (Or.inl (w1.w.sub a _ hx))⟩, q _ π1 F2 H2 g1 s1 w1 ?_⟩⟩
    have z := wk_list (M := M) (K := K) (Or.inl (Or.inl hx)) ht
    rw [isXs_length] at z
    exact z
theorem ezi_tup {tl : TE} {ds : List Dt} (h : EvZ M K CA E0 tl e (.ok (.tuple ds)) e1) : EvZI M K CA (iSeq K tl) e ds e1 := fun O F H σ π R w q =>
  h O F H σ π _ w fun π1 v F2 H2 g1 s1 w1 hv => by
    rw [isX] at hv
    obtain ⟨a, xs, e, hx, ht⟩ := hv
    refine ⟨a, e, .inr ⟨⟨xs, sqT_sub w1.w.sub (Or.inl (Or.inl hx))⟩, q _ π1 F2 H2 g1 s1 w1 ?_⟩⟩
    have z := wk_tup (M := M) (K := K) (Or.inl (Or.inl hx)) ht
    rw [isXs_length] at z
    exact z
theorem enum_wk {J : It} {ds : List Dt} (k : WkTy (M := M) J ds.length (fun i => isTt [isD K (.int (i : Nat)), nth (isXs K π ds) i]) F) : WkTy (M := M) J (enumOf 0 ds).length (nth (isXs (M := M) K π (enumOf 0 ds))) F := by
  rw [enum_len]
  refine ⟨k.go, k.stop, fun i F' H' x H'' a b c d => ?_⟩
  obtain ⟨F3, s, z⟩ := k.yld i F' H' x H'' a b c d
  refine ⟨F3, s, ?_⟩
  have q := nth_enum (M := M) (K := K) (π := π) ds 0 i c
  rw [Nat.zero_add] at q
  rw [q]
  exact z
theorem ezi_enumL {tl : TE} {ds : List Dt} (h : EvZ M K CA E0 tl e (.ok (.list ds)) e1) : EvZI M K CA (iEnumU K (tCons tl tNil)) e (enumOf 0 ds) e1 := fun O F H σ π R w q =>
  h O F H σ π _ w fun π1 v F2 H2 g1 s1 w1 hv => by
    rw [isX] at hv
    obtain ⟨a, xs, e, hx, ht⟩ := hv
    refine ⟨a, by rw [e], .inl ⟨⟨xs, Or.inl (Or.inl (w1.w.sub a _ hx))⟩, q _ π1 F2 H2 g1 s1 w1 (enum_wk ?_)⟩⟩
    have z := wk_enumL (M := M) (K := K) (Or.inl (Or.inl hx)) ht
    rw [isXs_length] at z
    exact z
theorem ezi_enumT {tl : TE} {ds : List Dt} (h : EvZ M K CA E0 tl e (.ok (.tuple ds)) e1) : EvZI M K CA (iEnumU K (tCons tl tNil)) e (enumOf 0 ds) e1 := fun O F H σ π R w q =>
  h O F H σ π _ w fun π1 v F2 H2 g1 s1 w1 hv => by
    rw [isX] at hv
    obtain ⟨a, xs, e, hx, ht⟩ := hv
    refine ⟨a, by rw [e], .inr ⟨⟨xs, sqT_sub w1.w.sub (Or.inl (Or.inl hx))⟩, q _ π1 F2 H2 g1 s1 w1 (enum_wk ?_)⟩⟩
    have z := wk_enumT (M := M) (K := K) (Or.inl (Or.inl hx)) ht
    rw [isXs_length] at z
    exact z
theorem ezi_pure {wi : TI} {ds : List Dt} {v : Vs} (h : ∀ π, EvI wi (ofE M K π e.v) ds.length (nth (isXs (M := M) K π ds)) (ofE M K π v)) : EvZI M K CA wi e ds ⟨v, e.s⟩ := fun O F H σ π R w q =>
  h π (fun a => O a ∧ ¬ InA π a) F H σ R w.pure fun J F2 H2 s w2 k => q J π F2 H2 (Grow.refl π H) s.weak (w.back s w2) k
theorem ez_anyE {E' : XK} {t : TE} {d : Dt} (h : EvZ M K CA E t e (.ok d) e1) : EvZ M K CA E' t e (.ok d) e1 := h
end
end Bc

set_option maxRecDepth 100000
set_option maxHeartbeats 4000000
/-! BdL: comprehensions over the store. -/
namespace Bc
open PySem PySem.Spec
open PyProof.Rows L2
variable {M : Hp → Hp → Prop} [g : GB M] {K : PySem.W.Frag} {CA : Str → Addr}
section
variable {O : Addr → Prop} {F H F1 H1 F2 H2 : Hp} {σ : L2.St} {π π1 π2 : Pa} {e e' e0 e1 e2 : Zs} {S : List Cell} {E : XK} {Q : VK} {r : Rd}
theorem no_hushE {v : Vs} {p : Addr} : ¬ OwnAt σ (ofE M K π (v.map hushV)) p := fun h => by
  obtain ⟨i, q, ds, h1, _⟩ := ofE_own h
  exact no_hush v i q ds h1
theorem ez_lc {wi : TI} {G : TG} {tt : TT} {te : TE} {vs : List Nat} {ds : List Dt} (hi : EvZI M K CA wi e ds e0) (hn : ds.length ≤ 100000) (Ss : Nat → List Cell) (Rs : Nat → List Dt) (hS : Ss 0 = e0.s) (hR : Rs 0 = [])
    (hb : ∀ i, i < ds.length → ∃ (v1 : Vs) (b : Bool) (S1 : List Cell), (∀ π, EvGw G vs (ofE M K π (wipeV (e0.v.map hushV) vs)) (isX K π (ds.getD i .none)) (ofE M K π v1)) ∧ EvZT M K CA tt ⟨v1, Ss i⟩ b ⟨v1, S1⟩ ∧
      (b = false → Ss (i + 1) = S1 ∧ Rs (i + 1) = Rs i) ∧ (b = true → ∃ r, EvZ M K CA E0 te ⟨v1, S1⟩ (.ok r) ⟨v1, Ss (i + 1)⟩ ∧ Rs (i + 1) = Rs i ++ [r])) (hlen : ∀ i, (Rs i).length ≤ i) :
    EvZ M K CA E (tLc wi G tt te vs) e (.ok (.list (Rs ds.length))) ⟨e0.v, Ss ds.length⟩ := fun O F H σ π0 Q w q =>
  hi O F H σ π0 _ w fun J π F1 H1 g1 s1 w1 wk => fun Dl hD => by
    have hfD : F1 Dl = none := w1.w.sub.no hD
    have hOD : O Dl := w1.w.fresh Dl hD
    have hnD := own_ne w1.w hD
    let O' : Addr → Prop := fun a => (O a ∧ ¬ OwnAt σ (ofE M K π e0.v) a) ∧ a ≠ Dl
    let O2 : Addr → Prop := fun a => O a ∧ ¬ OwnAt σ (ofE M K π e0.v) a
    have sO := Step.own (M := M) (o := .lst []) w1.w.sub hD
    have ws := w1.step sO
    have w2 : Wz M K CA O' F1 (upd H1 Dl (.lst [])) σ π ⟨e0.v.map hushV, e0.s⟩ := by
      have z := wd_hush ws.w
      rw [ofE_hush] at z
      refine ⟨⟨z.sub, z.sl, fun p h => absurd h no_hushE, fun p hp => ⟨z.fresh p hp, fun e => by rw [e, upd_same] at hp; cases hp⟩⟩, ws.st, fun a h => ⟨⟨w1.ob a h, fun e => ?_⟩, no_hushE⟩⟩
      obtain ⟨_, o, ho⟩ := w1.st.has h
      rw [e, hD] at ho
      cases ho
    have weak : ∀ {Fa Ha Fb Hb : Hp}, StepX M O' Fa Ha Fb Hb → StepX M O2 Fa Ha Fb Hb := fun s => ⟨s.gw, s.dom, fun a o n => s.fr a o fun z => n z.1⟩
    have hO2D : O2 Dl := ⟨hOD, fun z => hnD Dl z rfl⟩
    let Pv : Nat → Hp → Prop := fun i H' => ∃ π' F' acc, Grow π π' H1 ∧ StepX M O2 F1 (upd H1 Dl (.lst [])) F' H' ∧ Wz M K CA O' F' H' σ π' ⟨e0.v.map hushV, Ss i⟩ ∧ F' Dl = none ∧ H' Dl = some (.lst acc) ∧ Tys F' acc (isXs (M := M) K π' (Rs i))
    have nOD : ¬ O' Dl := fun z => z.2 rfl
    have hdom : ∀ {F' H' : Hp}, StepX M O2 F1 (upd H1 Dl (.lst [])) F' H' → ∀ a, H' a = none → H1 a = none := fun s a h => by
      have z := s.dom a h
      by_cases e : a = Dl
      · rw [e]; exact hD
      · rw [upd_ne e] at z; exact z
    refine ⟨fun i m H' => m = ds.length - i ∧ i ≤ ds.length ∧ Pv i H', ⟨ds.length, by simp, Nat.zero_le _, π, F1, [], Grow.refl π H1, .refl, by rw [hS]; exact w2, hfD, upd_same, by rw [hR, isXs]; exact .nil⟩, ?_⟩
    rintro i m H' ⟨rfl, hin, π', F', acc, gr, st, w', hf', hh', ht'⟩
    by_cases hlt : i < ds.length
    · refine .inr ⟨wk.go i F' H' st.gw w'.w.sub hlt, Pv (i + 1), fun H2 p2 => ⟨ds.length - (i + 1), by omega, rfl, hlt, p2⟩, fun x H2 y => ?_⟩
      obtain ⟨F2, st2, hx⟩ := wk.yld i F' H' x H2 st.gw w'.w.sub hlt y
      obtain ⟨v1, b, S1, hG, hT, hbF, hbT⟩ := hb i hlt
      rw [nth_X _ _ hlt] at hx
      have hx2 := X_grow (M := M) (K := K) gr.le _ _ _ hx
      have w3 := w'.step st2
      have s3 := st.trans st2.x
      obtain ⟨f3, h3⟩ := st2.fr Dl _ hf' hh'
      have ww : Wz M K CA O' F2 H2 σ π' ⟨e0.v.map hushV, Ss i⟩ := w3
      have wwp : Wd O' F2 H2 (wipe σ vs) (ofE M K π' (wipeV (e0.v.map hushV) vs)) := by
        have z := wd_wipe ww.w vs
        rw [ofE_wipe] at z
        exact z
      refine hG π' O' F2 H2 (wipe σ vs) x _ wwp hx2 fun σ2 eσ w4 => ⟨eσ.trans (wipe_wipe vs fun _ z => z), ?_⟩
      have noO : ∀ p, ¬ OwnAt σ2 (ofE M K π' v1) p ∨ True := fun _ => .inr trivial
      have w4z : Wz M K CA O' F2 H2 σ2 π' ⟨v1, Ss i⟩ := ⟨w4, ww.st, fun a h => ⟨(ww.ob a h).1, fun z => by
        obtain ⟨j, qq, ds', h1', h2'⟩ := ofE_own z
        have ok := w4.sl.own (ofE_get (M := M) (K := K) (π := π') h1')
        obtain ⟨p, o, a1, a2, a3, _, xs, a4, _⟩ := ok
        rw [h2'] at a1
        injection a1 with a1; injection a1 with a1; injection a1 with a1
        subst a1 a4
        obtain ⟨k, hk⟩ := h
        obtain ⟨hk1, hk2⟩ := hk
        obtain ⟨ii, hii, ee⟩ := List.getElem_of_mem hk1
        have g1' : π'.A[ii]? = some k := by rw [List.getElem?_eq_getElem hii, ee]
        have hs' : ii < (Ss i).length := by rw [← ww.st.len]; exact hii
        have c := ww.st.at_ ii k _ g1' (List.getElem?_eq_getElem hs')
        rcases hk2 with e1 | e1
        · rcases c.ob with ⟨_, _, fs, q1, _⟩ | ⟨_, _, _, _, q1, _⟩
          · rw [← e1, a3] at q1
            cases q1
          · rw [← e1, a3] at q1
            cases q1
        · rcases c.ob with ⟨_, q1, _⟩ | ⟨e9, _, _, _, q1, _⟩
          · rw [← e1, a3] at q1
            cases q1
          · rw [← e9, ← e1, a3] at q1
            cases q1⟩⟩
      refine hT O' F2 H2 σ2 π' _ w4z fun π5 F5 H5 g5 s5 w5 => ?_
      obtain ⟨f5, h5⟩ := s5.fr Dl _ nOD f3 h3
      -- the slots outside come back
      have back : ∀ {π6 : Pa} {F6 H6 : Hp} {S6 : List Cell}, Grow π' π6 H2 → StepX M O' F2 H2 F6 H6 → Wz M K CA O' F6 H6 σ2 π6 ⟨v1, S6⟩ → Wz M K CA O' F6 H6 σ π6 ⟨e0.v.map hushV, S6⟩ := fun {π6 F6 H6 S6} g6 s6 w6 => by
        refine ⟨ofE_grow (π := π') ⟨w6.w.sub, ⟨ww.w.sl.len, fun j s e => ?_, ww.w.sl.one⟩, fun p h => absurd h no_hushE, w6.w.fresh⟩ g6.p g6.le, w6.st, fun a h => ⟨(w6.ob a h).1, no_hushE⟩⟩
        obtain ⟨x, e1, e2⟩ := ww.w.sl.at_ j s e
        refine ⟨x, e1, ?_⟩
        cases s with
        | any => trivial
        | ty τ => obtain ⟨v, a1, a2⟩ := e2; exact ⟨v, a1, τ.mono s6.gw a2⟩
        | own u =>
          obtain ⟨p, o, a1, _⟩ := e2
          subst a1
          exact absurd ⟨j, u, e, e1⟩ no_hushE
      have g3 : Grow π π5 H1 := gr.trans g5 (fun a h => hdom s3 a h)
      cases b with
      | true =>
        obtain ⟨r, hE, eR⟩ := hbT rfl
        refine hE O' F5 H5 σ2 π5 _ w5 fun π6 v F6 H6 g6 s6 w6 hv => ?_
        obtain ⟨f6, h6⟩ := s6.fr Dl _ nOD f5 h5
        refine ⟨acc, h6, ?_, ?_⟩
        · rw [ht'.length, isXs_length]
          exact Nat.lt_of_le_of_lt (Nat.le_trans (hlen i) (by omega : i ≤ 100000)) (by decide)
        · have wb := back (g5.trans g6 s5.dom) (s5.trans s6) w6
          have sall := s3.trans (weak (s5.trans s6))
          refine ⟨π6, F6, acc ++ [v], g3.trans g6 (fun a h => hdom (s3.trans (weak s5)) a h), ⟨sall.gw, fun a ha => ?_, fun a o n h1 h2 => ?_⟩, ⟨⟨fun a u e => ?_, ⟨wb.w.sl.len, fun j s e => ?_, wb.w.sl.one⟩, wb.w.own, fun p hp => ?_⟩, wb.st.stay (Gw.refl F6) fun a o h1 h2 => ?_, wb.ob⟩, f6, upd_same, ?_⟩
          · by_cases e : a = Dl
            · rw [e, upd_same] at ha; cases ha
            · rw [upd_ne e] at ha; exact sall.dom a ha
          · by_cases e : a = Dl
            · exact absurd (e ▸ hO2D) n
            · rw [upd_ne e]; exact sall.fr a o n h1 h2
          · rw [upd_ne (fun z => by rw [z, f6] at e; cases e)]; exact wb.w.sub a u e
          · obtain ⟨x, e1, e2⟩ := wb.w.sl.at_ j s e
            refine ⟨x, e1, ?_⟩
            cases s with
            | any => trivial
            | ty τ => exact e2
            | own u =>
              obtain ⟨p, o, a1, _⟩ := e2
              subst a1
              exact absurd ⟨j, u, e, e1⟩ no_hushE
          · by_cases e : p = Dl
            · rw [e, upd_same] at hp; cases hp
            · rw [upd_ne e] at hp; exact wb.w.fresh p hp
          · have na : a ≠ Dl := (wb.ob a h1).1.2
            exact ⟨(wb.st.has h1).1, by rw [upd_ne na]; exact h2⟩
          · rw [eR]
            exact tys_x (Xs_grow (g5.trans g6 s5.dom).le _ _ _ (ht'.mono ((st2.gw.trans s5.gw).trans s6.gw))) hv
      | false =>
        obtain ⟨eS, eR⟩ := hbF rfl
        have wb := back g5 s5 w5
        refine ⟨π5, F5, acc, g3, s3.trans (weak s5), by rw [eS]; exact wb, f5, h5, ?_⟩
        rw [eR]
        exact Xs_grow g5.le _ _ _ (ht'.mono (st2.gw.trans s5.gw))
    · have e : i = ds.length := by omega
      subst e
      refine .inl ⟨wk.stop F' H' st.gw w'.w.sub, ?_⟩
      -- one's own objects stand as they stood
      have hw : Wd O F' H' σ (ofE M K π e0.v) := by
        refine ⟨w'.w.sub, ⟨w1.w.sl.len, fun j s e => ?_, w1.w.sl.one⟩, w1.w.own, fun p hp => (w'.w.fresh p hp).1.1⟩
        obtain ⟨x, e1, e2⟩ := w1.w.sl.at_ j s e
        refine ⟨x, e1, ?_⟩
        cases s with
        | any => trivial
        | ty τ => obtain ⟨v, a1, a2⟩ := e2; exact ⟨v, a1, τ.mono st.gw a2⟩
        | own u =>
          obtain ⟨p, o, a1, a2, a3, a4⟩ := e2
          subst a1
          have op : OwnAt σ (ofE M K π e0.v) p := ⟨j, u, e, e1⟩
          obtain ⟨b1, b2⟩ := st.fr p o (fun z => z.2 op) a2 (by rw [upd_ne (hnD p op)]; exact a3)
          exact ⟨p, o, rfl, b1, b2, u.mono st.gw a4⟩
      have hw2 := ofE_grow hw gr.p gr.le
      obtain ⟨hw3, s3⟩ := hw2.adopt hOD hf' hh' (fun p hp => hnD p (ownAt_grow hp))
      have sa : StepX M O F1 H1 F' H' := ⟨st.gw, fun a h => hdom st a h, fun a o n h1 h2 => by
        have na : a ≠ Dl := fun z => n (z ▸ hOD)
        exact st.fr a o (fun z => n z.1) h1 (by rw [upd_ne na]; exact h2)⟩
      refine q π' (.ref Dl) (upd F' Dl (.lst acc)) H' (g1.trans gr s1.dom) ((s1.trans sa).trans s3) ⟨hw3, w'.st.stay s3.gw fun a o h1 h2 => ?_, fun a h => ⟨((w'.ob a h).1).1.1, fun z => ((w'.ob a h).1).1.2 (ownAt_grow z)⟩⟩ ?_
      · have na : a ≠ Dl := ((w'.ob a h1).1).2
        exact ⟨by rw [upd_ne na]; exact (w'.st.has h1).1, h2⟩
      · rw [isX]
        exact ⟨Dl, acc, rfl, upd_same, ht'.mono s3.gw⟩
end
end Bc

set_option maxRecDepth 100000
set_option maxHeartbeats 4000000
/-! BdM: the language with objects: expressions. -/
namespace Bc
open PySem PySem.Spec
open PyProof.Rows L2
/-- a def's function over the store -/
abbrev Zf := List Cell → List Dt → Option (Rd × List Cell)
inductive Zx (M : Hp → Hp → Prop) (K : PySem.W.Frag) (CA : Str → Addr) where
  | pu (x : Ex M K)
  | op (o : O2 M K) (a b : Zx M K CA)
  | un (o : OU M K) (a : Zx M K CA)
  | fn (o : ON M K) (a : Zx M K CA)
  | call (s : Zf) (a : Zx M K CA)
  | callP (s : List Dt → Option Rd) (a : Zx M K CA)
  | meth (cls m : Str) (s : Zf) (o a : Zx M K CA)
  | fld (cls f : Str) (hc : Cls K (CA cls)) (hn : NoAttr K (CA cls) f) (o : Zx M K CA)
  | make (cls : Str) (s : Zf) (a : Zx M K CA)
  | lsOf (a : Zx M K CA)
  | tup (a : Zx M K CA)
  | lst (a : Zx M K CA)
  | nil
  | cons (e r : Zx M K CA)
  | ifx (t a b : Zx M K CA)
  | andV (a b : Zx M K CA)
  | orV (a b : Zx M K CA)
  | notV (a : Zx M K CA)
  | give (i : Nat)
  | popX (i : Nat)
  | lc (it : Zx M K CA) (tg : Tg) (tt e : Zx M K CA)
  | tpu (t : Ex M K)
  | tst (e : Zx M K CA)
  | tb (e : Zx M K CA)
  | tand (t u : Zx M K CA)
  | tor (t u : Zx M K CA)
  | tnot (t : Zx M K CA)
  | ipu (i : Ex M K)
  | iseq (e : Zx M K CA)
  | ienum (e : Zx M K CA)
  | irng (e : Zx M K CA)
  | ix (a b : Zx M K CA)
  | sl (a : Zx M K CA) (lo hi : Ex M K)
  | sls (a : Zx M K CA) (lo hi st : Ex M K)
  | dnew
  | din (neg : Bool) (k d : Zx M K CA)
  | bad
structure Dz where
  e : TE
  a : TA
  t : TT
  i : TI
def dz0 : Dz := ⟨tC .non, tNil, tYes, fun _ _ _ => False⟩
def rLsOf (K : PySem.W.Frag) : List V → Hp → VK → Prop := fun xs H Q => ∃ p ys, xs = [.ref p] ∧ (SqL K H p ys ∨ SqT K H p ys) ∧ ∀ l, H l = none → Q (.ref l) (upd H l (.lst ys))
def denz {M : Hp → Hp → Prop} {K : PySem.W.Frag} {CA : Str → Addr} (E : XK) : Zx M K CA → Dz
  | .pu x => { dz0 with e := (den E x).e }
  | .op o a b => { dz0 with e := tOp o.r (denz E a).e (denz E b).e }
  | .un o a => { dz0 with e := tUn o.r (denz E a).e }
  | .fn o a => { dz0 with e := tCB o.r (denz E a).a }
  | .call s a => { dz0 with e := tCall (spZ M K CA s) [] E (denz E a).a }
  | .callP s a => { dz0 with e := tCall (spD M K s) [] E (denz E a).a }
  | .meth cls m s o a => { dz0 with e := tMeth (CA cls) m (spZ M K CA s) [] E (denz E o).e (denz E a).a }
  | .fld _ f _ _ o => { dz0 with e := tFld K (denz E o).e f }
  | .make cls s a => { dz0 with e := tMake (CA cls) (spZ M K CA s) [] E (denz E a).a }
  | .lsOf a => { dz0 with e := tCB (rLsOf K) (tCons (denz E a).e tNil) }
  | .tup a => { dz0 with e := tTup (denz E a).a }
  | .lst a => { dz0 with e := tLst (denz E a).a }
  | .nil => { dz0 with a := tNil }
  | .cons e r => { dz0 with a := tCons (denz E e).e (denz E r).a }
  | .ifx t a b => { dz0 with e := tIf (denz E t).t (denz E a).e (denz E b).e }
  | .andV a b => { dz0 with e := tAndV (denz E a).e (denz E b).e }
  | .orV a b => { dz0 with e := tOrV (denz E a).e (denz E b).e }
  | .notV a => { dz0 with e := tNotV (denz E a).e }
  | .give i => { dz0 with e := tVar i }
  | .popX i => { dz0 with e := tBM0 K "list" rPop (tVar i) }
  | .lc it tg tt e => { dz0 with e := tLc (denz E it).i (denG K tg) (denz E0 tt).t (denz E0 e).e tg.ids }
  | .tpu t => { dz0 with t := (den E t).t }
  | .tst e => { dz0 with t := tTest (denz E e).e }
  | .tb e => { dz0 with t := tB (denz E e).e }
  | .tand t u => { dz0 with t := tAnd (denz E t).t (denz E u).t }
  | .tor t u => { dz0 with t := tOr (denz E t).t (denz E u).t }
  | .tnot t => { dz0 with t := tNot (denz E t).t }
  | .ipu i => { dz0 with i := (den E i).i }
  | .iseq e => { dz0 with i := iSeq K (denz E e).e }
  | .ienum e => { dz0 with i := iEnumU K (tCons (denz E e).e tNil) }
  | .irng e => { dz0 with i := iRng1 (tCons (denz E e).e tNil) }
  | .ix a b => { dz0 with e := tOp (rIx K) (denz E a).e (denz E b).e }
  | .sl a lo hi => { dz0 with e := tSl (rSlU K) (denz E a).e (den E lo).o (den E hi).o }
  | .sls a lo hi st => { dz0 with e := tSlS (rStep K) (denz E a).e (den E lo).o (den E hi).o (den E st).o }
  | .dnew => { dz0 with e := tDNewT }
  | .din neg k d => { dz0 with e := match neg with
    | true => tDNotIn (denz E k).e (denz E d).e
    | false => tDIn (denz E k).e (denz E d).e }
  | .bad => ⟨fun _ _ _ => False, fun _ _ _ => False, fun _ _ _ => False, fun _ _ _ => False⟩
/-- the items of a comprehension, the store handed on -/
def lcZ (f : List Cell → Dt → Option (Option Dt × List Cell)) : List Cell → List Dt → Option (List Dt × List Cell)
  | S, [] => some ([], S)
  | S, d :: ds => match f S d with
    | some (o, S1) => match lcZ f S1 ds with
      | some (rs, S2) => some (match o with | some r => r :: rs | none => rs, S2)
      | none => none
    | none => none
mutual
def evz {M : Hp → Hp → Prop} {K : PySem.W.Frag} {CA : Str → Addr} (e : Zs) : Zx M K CA → Option (Rd × Zs)
  | .pu x => match ev e.v x with
    | some (r, v) => some (r, ⟨v, e.s⟩)
    | none => none
  | .op o a b => match evz e a with
    | some (.ok x, e1) => match evz e1 b with
      | some (.ok y, e2) => match o.f x y with
        | some z => some (.ok z, e2)
        | none => none
      | _ => none
    | _ => none
  | .ix a b => match evz e a with
    | some (.ok x, e1) => match evz e1 b with
      | some (.ok y, e2) => match fIx x y with
        | some z => some (.ok z, e2)
        | none => none
      | _ => none
    | _ => none
  | .sl a lo hi => match evz e a with
    | some (.ok x, e1) => match evP e1.v lo with
      | some (l, v2) => match evP v2 hi with
        | some (h, v3) => match x with
          | .tuple ds => some (.ok (.tuple (cutL ds l h)), ⟨v3, e1.s⟩)
          | .list ds => some (.ok (.list (cutL ds l h)), ⟨v3, e1.s⟩)
          | _ => none
        | none => none
      | none => none
    | _ => none
  | .sls a lo hi st => match evz e a with
    | some (.ok x, e1) => match evP e1.v lo with
      | some (l, v2) => match evP v2 hi with
        | some (h, v3) => match evP v3 st with
          | some (some c, v4) => if c ≠ 0 ∧ c ≠ 1 then match x with
            | .list ds => some (.ok (.list (stepP ds l h c)), ⟨v4, e1.s⟩)
            | _ => none
            else none
          | _ => none
        | none => none
      | none => none
    | _ => none
  | .dnew => some (.ok (.obj e.s.length), ⟨e.v, e.s ++ [⟨Str.empty, [], some []⟩]⟩)
  | .din neg k d => match evz e k with
    | some (.ok x, e1) => match evz e1 d with
      | some (.ok (.obj i), e2) => match e2.s[i]?, keyOf x with
        | some ⟨_, _, some ks⟩, some key => some (.ok (.bool (if neg then !hasK ks key else hasK ks key)), e2)
        | _, _ => none
      | _ => none
    | _ => none
  | .un o a => match evz e a with
    | some (.ok x, e1) => match o.f x with
      | some z => some (.ok z, e1)
      | none => none
    | _ => none
  | .fn o a => match evzA e a with
    | some (.inl xs, e1) => match o.f xs with
      | some z => some (.ok z, e1)
      | none => none
    | _ => none
  | .call s a => match evzA e a with
    | some (.inl xs, e1) => match s e1.s xs with
      | some (r, S) => some (r, ⟨e1.v, S⟩)
      | none => none
    | some (.inr C, e1) => some (.exc C, e1)
    | _ => none
  | .callP s a => match evzA e a with
    | some (.inl xs, e1) => match s xs with
      | some r => some (r, e1)
      | none => none
    | some (.inr C, e1) => some (.exc C, e1)
    | _ => none
  | .meth cls m s o a => match evz e o with
    | some (.ok (.obj i), e1) => match e1.s[i]? with
      | some c => if (c.cls = cls ∧ c.ks = none) ∧ c.fs.lookup m = none then match evzA e1 a with
          | some (.inl xs, e2) => match s e2.s (.obj i :: xs) with
            | some (r, S) => some (r, ⟨e2.v, S⟩)
            | none => none
          | _ => none
        else none
      | none => none
    | _ => none
  | .fld cls f _ _ o => match evz e o with
    | some (.ok (.obj i), e1) => match e1.s[i]? with
      | some c => if c.cls = cls ∧ c.ks = none then match c.fs.lookup f with
          | some d => some (.ok d, e1)
          | none => none
        else none
      | none => none
    | _ => none
  | .make cls s a => match evzA e a with
    | some (.inl xs, e1) => match s (e1.s ++ [⟨cls, [], none⟩]) (.obj e1.s.length :: xs) with
      | some (.ok .none, S) => some (.ok (.obj e1.s.length), ⟨e1.v, S⟩)
      | _ => none
    | _ => none
  | .lsOf a => match evz e a with
    | some (.ok (.list ds), e1) => some (.ok (.list ds), e1)
    | some (.ok (.tuple ds), e1) => some (.ok (.list ds), e1)
    | _ => none
  | .tup a => match evzA e a with
    | some (.inl xs, e1) => if xs.length ≤ 1000 then some (.ok (.tuple xs), e1) else none
    | some (.inr C, e1) => some (.exc C, e1)
    | _ => none
  | .lst a => match evzA e a with
    | some (.inl xs, e1) => if xs.length ≤ 1000 then some (.ok (.list xs), e1) else none
    | _ => none
  | .ifx t a b => match evzT e t with
    | some (true, e1) => evz e1 a
    | some (false, e1) => evz e1 b
    | none => none
  | .andV a b => match evz e a with
    | some (.ok (.bool true), e1) => match evz e1 b with
      | some (.ok (.bool c), e2) => some (.ok (.bool c), e2)
      | _ => none
    | some (.ok (.bool false), e1) => some (.ok (.bool false), e1)
    | _ => none
  | .orV a b => match evz e a with
    | some (.ok (.bool false), e1) => match evz e1 b with
      | some (.ok (.bool c), e2) => some (.ok (.bool c), e2)
      | _ => none
    | some (.ok (.bool true), e1) => some (.ok (.bool true), e1)
    | _ => none
  | .notV a => match evz e a with
    | some (.ok (.bool c), e1) => some (.ok (.bool (!c)), e1)
    | _ => none
  | .give i => match e.v[i]? with
    | some (.own false ds) => some (.ok (.list ds), ⟨e.v.set i (.val (.list ds)), e.s⟩)
    | some (.val d) => some (.ok d, e)
    | _ => none
  | .popX i => match e.v[i]? with
    | some (.own q ds) => match ds[ds.length - 1]? with
      | some d => some (.ok d, ⟨e.v.set i (.own q ds.dropLast), e.s⟩)
      | none => none
    | _ => none
  | .lc it tg tt x => match evzI e it with
    | some (ds, e0) => if ds.length ≤ 100000 then
        (match lcZ (fun S d => match asgT (wipeV (e0.v.map hushV) tg.ids) d tg with
          | some v1 => match evzT ⟨v1, S⟩ tt with
            | some (true, e2) => match evz ⟨v1, e2.s⟩ x with
              | some (.ok r, e3) => some (some r, e3.s)
              | _ => none
            | some (false, e2) => some (none, e2.s)
            | none => none
          | none => none) e0.s ds with
        | some (rs, S) => some (.ok (.list rs), ⟨e0.v, S⟩)
        | none => none)
      else none
    | none => none
  | _ => none
def evzA {M : Hp → Hp → Prop} {K : PySem.W.Frag} {CA : Str → Addr} (e : Zs) : Zx M K CA → Option ((List Dt ⊕ Value) × Zs)
  | .nil => some (.inl [], e)
  | .cons a r => match evz e a with
    | some (.ok x, e1) => match evzA e1 r with
      | some (.inl xs, e2) => some (.inl (x :: xs), e2)
      | some (.inr C, e2) => some (.inr C, e2)
      | none => none
    | some (.exc C, e1) => some (.inr C, e1)
    | none => none
  | _ => none
def evzT {M : Hp → Hp → Prop} {K : PySem.W.Frag} {CA : Str → Addr} (e : Zs) : Zx M K CA → Option (Bool × Zs)
  | .tpu t => match evT e.v t with
    | some (b, v) => some (b, ⟨v, e.s⟩)
    | none => none
  | .tst x => match evz e x with
    | some (.ok (.bool b), e1) => some (b, e1)
    | _ => none
  | .tb x => match evz e x with
    | some (.ok (.bool b), e1) => some (b, e1)
    | _ => none
  | .tand t u => match evzT e t with
    | some (true, e1) => evzT e1 u
    | some (false, e1) => some (false, e1)
    | none => none
  | .tor t u => match evzT e t with
    | some (false, e1) => evzT e1 u
    | some (true, e1) => some (true, e1)
    | none => none
  | .tnot t => match evzT e t with
    | some (b, e1) => some (!b, e1)
    | none => none
  | _ => none
def evzI {M : Hp → Hp → Prop} {K : PySem.W.Frag} {CA : Str → Addr} (e : Zs) : Zx M K CA → Option (List Dt × Zs)
  | .ipu x => match evI e.v x with
    | some (ds, v) => some (ds, ⟨v, e.s⟩)
    | none => none
  | .iseq x => match evz e x with
    | some (.ok (.list ds), e1) => some (ds, e1)
    | some (.ok (.tuple ds), e1) => some (ds, e1)
    | _ => none
  | .irng x => match evz e x with
    | some (.ok (.int n), e1) => if -(2 ^ 62) ≤ n ∧ n < 2 ^ 62 then some ((List.range n.toNat).map fun (i : Nat) => .int (i : Int), e1) else none
    | _ => none
  | .ienum x => match evz e x with
    | some (.ok (.list ds), e1) => some (enumOf 0 ds, e1)
    | some (.ok (.tuple ds), e1) => some (enumOf 0 ds, e1)
    | _ => none
  | _ => none
end
variable {M : Hp → Hp → Prop} [g : GB M] {K : PySem.W.Frag} {CA : Str → Addr}
structure SndZ (x : Zx M K CA) : Prop where
  e : ∀ (E : XK) (e e' : Zs) (r : Rd), evz e x = some (r, e') → EvZ M K CA E (denz E x).e e r e'
  a : ∀ (E : XK) (e e' : Zs) (r : List Dt ⊕ Value), evzA e x = some (r, e') → EvZA M K CA E (denz E x).a e r e'
  t : ∀ (E : XK) (e e' : Zs) (b : Bool), evzT e x = some (b, e') → EvZT M K CA (denz E x).t e b e'
  i : ∀ (E : XK) (e e' : Zs) (ds : List Dt), evzI e x = some (ds, e') → EvZI M K CA (denz E x).i e ds e'
  ne : ∀ (e e' : Zs) (r : Rd), NoOwn e.v → evz e x = some (r, e') → e'.v = e.v
  na : ∀ (e e' : Zs) (r : List Dt ⊕ Value), NoOwn e.v → evzA e x = some (r, e') → e'.v = e.v
  nt : ∀ (e e' : Zs) (b : Bool), NoOwn e.v → evzT e x = some (b, e') → e'.v = e.v
theorem sz_e {x : Zx M K CA} (he : ∀ (E : XK) (e e' : Zs) (r : Rd), evz e x = some (r, e') → EvZ M K CA E (denz E x).e e r e') (ne : ∀ (e e' : Zs) (r : Rd), NoOwn e.v → evz e x = some (r, e') → e'.v = e.v)
    (a : ∀ e, evzA e x = none) (t : ∀ e, evzT e x = none) (i : ∀ e, evzI e x = none) : SndZ x :=
  ⟨he, fun _ e _ _ h => (by rw [a] at h; cases h), fun _ e _ _ h => (by rw [t] at h; cases h), fun _ e _ _ h => (by rw [i] at h; cases h), ne, fun e _ _ _ h => (by rw [a] at h; cases h), fun e _ _ _ h => (by rw [t] at h; cases h)⟩
theorem sz_a {x : Zx M K CA} (ha : ∀ (E : XK) (e e' : Zs) (r : List Dt ⊕ Value), evzA e x = some (r, e') → EvZA M K CA E (denz E x).a e r e') (na : ∀ (e e' : Zs) (r : List Dt ⊕ Value), NoOwn e.v → evzA e x = some (r, e') → e'.v = e.v)
    (v : ∀ e, evz e x = none) (t : ∀ e, evzT e x = none) (i : ∀ e, evzI e x = none) : SndZ x :=
  ⟨fun _ e _ _ h => (by rw [v] at h; cases h), ha, fun _ e _ _ h => (by rw [t] at h; cases h), fun _ e _ _ h => (by rw [i] at h; cases h), fun e _ _ _ h => (by rw [v] at h; cases h), na, fun e _ _ _ h => (by rw [t] at h; cases h)⟩
theorem sz_t {x : Zx M K CA} (ht : ∀ (E : XK) (e e' : Zs) (b : Bool), evzT e x = some (b, e') → EvZT M K CA (denz E x).t e b e') (nt : ∀ (e e' : Zs) (b : Bool), NoOwn e.v → evzT e x = some (b, e') → e'.v = e.v)
    (v : ∀ e, evz e x = none) (a : ∀ e, evzA e x = none) (i : ∀ e, evzI e x = none) : SndZ x :=
  ⟨fun _ e _ _ h => (by rw [v] at h; cases h), fun _ e _ _ h => (by rw [a] at h; cases h), ht, fun _ e _ _ h => (by rw [i] at h; cases h), fun e _ _ _ h => (by rw [v] at h; cases h), fun e _ _ _ h => (by rw [a] at h; cases h), nt⟩
theorem sz_i {x : Zx M K CA} (hi : ∀ (E : XK) (e e' : Zs) (ds : List Dt), evzI e x = some (ds, e') → EvZI M K CA (denz E x).i e ds e')
    (v : ∀ e, evz e x = none) (a : ∀ e, evzA e x = none) (t : ∀ e, evzT e x = none) : SndZ x :=
  ⟨fun _ e _ _ h => (by rw [v] at h; cases h), fun _ e _ _ h => (by rw [a] at h; cases h), fun _ e _ _ h => (by rw [t] at h; cases h), hi, fun e _ _ _ h => (by rw [v] at h; cases h), fun e _ _ _ h => (by rw [a] at h; cases h), fun e _ _ _ h => (by rw [t] at h; cases h)⟩
end Bc

set_option maxRecDepth 100000
set_option maxHeartbeats 4000000
/-! BdN: the evaluation over objects holds. -/
namespace Bc
open PySem PySem.Spec
open PyProof.Rows L2
variable {M : Hp → Hp → Prop} [g : GB M] {K : PySem.W.Frag} {CA : Str → Addr}
theorem sz_pu (x : Ex M K) : SndZ (CA := CA) (.pu x) := by
  refine sz_e (fun E e e' r h => ?_) (fun e e' r n h => ?_) (fun _ => by simp only [evzA]) (fun _ => by simp only [evzT]) (fun _ => by simp only [evzI])
  · simp only [evz] at h
    split at h
    · rename_i r' v h1
      cases h
      exact ez_pure fun π => (snd_all x).e E _ _ _ h1
    · cases h
  · simp only [evz] at h
    split at h
    · rename_i r' v h1
      cases h
      exact (snd_all (π := ⟨0, []⟩) x).ne _ _ _ n h1
    · cases h
theorem sz_op (o : O2 M K) (a b : Zx M K CA) (ha : SndZ a) (hb : SndZ b) : SndZ (.op o a b) := by
  refine sz_e (fun E e e' r h => ?_) (fun e e' r n h => ?_) (fun _ => by simp only [evzA]) (fun _ => by simp only [evzT]) (fun _ => by simp only [evzI])
  · simp only [evz] at h
    split at h
    · rename_i x e1 h1
      split at h
      · rename_i y e2 h2
        split at h
        · rename_i z h3
          cases h
          exact ez_op (ha.e E _ _ _ h1) (hb.e E _ _ _ h2) h3
        · cases h
      · cases h
    · cases h
  · simp only [evz] at h
    split at h
    · rename_i x e1 h1
      have q := ha.ne _ _ _ n h1
      split at h
      · rename_i y e2 h2
        have q2 := hb.ne _ _ _ (by rw [q]; exact n) h2
        split at h
        · cases h
          rw [q2, q]
        · cases h
      · cases h
    · cases h
theorem rr_ixX {π : Pa} {a b c : Dt} (h : fIx a b = some c) : RR (M := M) (rIx K) (isX K π a) (isX K π b) (isX K π c) := by
  unfold fIx at h
  split at h
  · rw [isX, isX]
    exact ru_ixL (atI_X h)
  · rw [isX, isX]
    exact rr_tt1 (ru_ixT (atI_X h))
  · cases h
theorem sz_ix (a b : Zx M K CA) (ha : SndZ a) (hb : SndZ b) : SndZ (.ix a b) := by
  refine sz_e (fun E e e' r h => ?_) (fun e e' r n h => ?_) (fun _ => by simp only [evzA]) (fun _ => by simp only [evzT]) (fun _ => by simp only [evzI])
  · simp only [evz] at h
    split at h
    · rename_i x e1 h1
      split at h
      · rename_i y e2 h2
        split at h
        · rename_i z h3
          cases h
          dsimp only [denz]
          intro O F H σ π Q w q
          exact ha.e E _ _ _ h1 O F H σ π _ w fun π1 x F1 H1 g1 s1 w1 hx => hb.e E _ _ _ h2 O F1 H1 σ π1 _ w1 fun π2 y F2 H2 g2 s2 w2 hy =>
            rr_ixX h3 x y F2 H2 Q w2.w.sub (X_grow g2.le _ _ _ (Ty.mono _ s2.gw hx)) hy fun v F3 H3 s3 hv => q π2 v F3 H3 (g1.trans g2 s1.dom) ((s1.trans s2).trans s3.x) (w2.step s3) hv
        · cases h
      · cases h
    · cases h
  · simp only [evz] at h
    split at h
    · rename_i x e1 h1
      have q := ha.ne _ _ _ n h1
      split at h
      · rename_i y e2 h2
        have q2 := hb.ne _ _ _ (by rw [q]; exact n) h2
        split at h
        · cases h
          rw [q2, q]
        · cases h
      · cases h
    · cases h
theorem ez_slTL {E : XK} {te : TE} {tl th : TO} {lo hi : Option Int} {e e1 : Zs} {ds : List Dt} {b : Bool} {v2 v3 : Vs} (h : EvZ M K CA E te e (.ok (if b then .tuple ds else .list ds)) e1) (hl : ∀ π, EvP tl (ofE M K π e1.v) lo (ofE M K π v2)) (hh : ∀ π, EvP th (ofE M K π v2) hi (ofE M K π v3)) :
    EvZ M K CA E (tSl (rSlU K) te tl th) e (.ok (if b then .tuple (cutL ds lo hi) else .list (cutL ds lo hi))) ⟨v3, e1.s⟩ := fun O F H σ π Q w q =>
  h O F H σ π _ w fun π1 v F1 H1 g1 s1 w1 hv => hl π1 _ F1 H1 σ _ w1.pure fun F2 H2 s2 w2 => by
    have w2z := w1.back s2 w2
    refine hh π1 _ F2 H2 σ _ w2z.pure fun F3 H3 s3 w3 => ?_
    have w3z := w2z.back s3 w3
    have hv := Ty.mono _ (s2.gw.trans s3.gw) hv
    have sa := (s1.trans s2.weak).trans s3.weak
    cases b with
    | true =>
      simp only [if_true] at hv q
      rw [isX] at hv
      obtain ⟨a, xs, ee, hx, ht⟩ := hv
      have hlen : xs.length = ds.length := by rw [ht.length, isXs_length]
      refine .inr (.inl ⟨a, xs, ee, Or.inl (Or.inl (w3z.w.sub a _ hx)), fun hw => ?_, fun hw p hp => ?_⟩)
      · refine q π1 (.ref a) F3 H3 g1 sa w3z ?_
        rw [hlen] at hw
        rw [cutL_whole hw, isX]
        exact ⟨a, xs, rfl, hx, ht⟩
      · have st := Step.new (M := M) (o := .tup (cutV xs lo hi)) w3z.w.sub hp
        refine q π1 (.ref p) _ _ g1 (sa.trans st.x) (w3z.step st) ?_
        rw [isX, isXs_map, ← cutL_map, ← isXs_map]
        exact ⟨p, _, rfl, upd_same, tys_cut (ht.mono st.gw)⟩
    | false =>
      simp only [Bool.false_eq_true, if_false] at hv q
      rw [isX] at hv
      obtain ⟨a, xs, ee, hx, ht⟩ := hv
      refine .inl ⟨a, xs, ee, Or.inl (Or.inl (w3z.w.sub a _ hx)), fun p hp => ?_⟩
      have st := Step.new (M := M) (o := .lst (cutV xs lo hi)) w3z.w.sub hp
      refine q π1 (.ref p) _ _ g1 (sa.trans st.x) (w3z.step st) ?_
      rw [isX, isXs_map, ← cutL_map, ← isXs_map]
      exact ⟨p, _, rfl, upd_same, tys_cut (ht.mono st.gw)⟩
theorem sz_sl (a : Zx M K CA) (lo hi : Ex M K) (ha : SndZ a) : SndZ (.sl a lo hi) := by
  refine sz_e (fun E e e' r h => ?_) (fun e e' r n h => ?_) (fun _ => by simp only [evzA]) (fun _ => by simp only [evzT]) (fun _ => by simp only [evzI])
  · simp only [evz] at h
    split at h
    · rename_i x e1 h1
      split at h
      · rename_i l v2 h2
        split at h
        · rename_i u v3 h3
          split at h
          · cases h
            exact ez_slTL (b := true) (ha.e E _ _ _ h1) (fun π => (snd_all lo).p E _ _ _ h2) (fun π => (snd_all hi).p E _ _ _ h3)
          · cases h
            exact ez_slTL (b := false) (ha.e E _ _ _ h1) (fun π => (snd_all lo).p E _ _ _ h2) (fun π => (snd_all hi).p E _ _ _ h3)
          · cases h
        · cases h
      · cases h
    · cases h
  · simp only [evz] at h
    split at h
    · rename_i x e1 h1
      have q := ha.ne _ _ _ n h1
      split at h
      · rename_i l v2 h2
        have q2 := (snd_all (π := ⟨0, []⟩) lo).np _ _ _ (by rw [q]; exact n) h2
        split at h
        · rename_i u v3 h3
          have q3 := (snd_all (π := ⟨0, []⟩) hi).np _ _ _ (by rw [q2, q]; exact n) h3
          split at h
          · cases h; exact q3.trans (q2.trans q)
          · cases h; exact q3.trans (q2.trans q)
          · cases h
        · cases h
      · cases h
    · cases h
theorem sz_sls (a : Zx M K CA) (lo hi st : Ex M K) (ha : SndZ a) : SndZ (.sls a lo hi st) := by
  refine sz_e (fun E e e' r h => ?_) (fun e e' r n h => ?_) (fun _ => by simp only [evzA]) (fun _ => by simp only [evzT]) (fun _ => by simp only [evzI])
  · simp only [evz] at h
    split at h
    · rename_i x e1 h1
      split at h
      · rename_i l v2 h2
        split at h
        · rename_i u v3 h3
          split at h
          · rename_i c v4 h4
            split at h
            · rename_i hc
              split at h
              · rename_i ds
                cases h
                dsimp only [denz]
                intro O F H σ π Q w q
                refine ha.e E _ _ _ h1 O F H σ π _ w fun π1 v F1 H1 g1 s1 w1 hv => (snd_all lo).p E _ _ _ h2 _ F1 H1 σ _ w1.pure fun F2 H2 s2 w2 => ?_
                have w2z := w1.back s2 w2
                refine (snd_all hi).p E _ _ _ h3 _ F2 H2 σ _ w2z.pure fun F3 H3 s3 w3 => ?_
                have w3z := w2z.back s3 w3
                refine (snd_all st).p E _ _ _ h4 _ F3 H3 σ _ w3z.pure fun F4 H4 s4 w4 => ?_
                have w4z := w3z.back s4 w4
                have hv := Ty.mono _ ((s2.gw.trans s3.gw).trans s4.gw) hv
                have sa := ((s1.trans s2.weak).trans s3.weak).trans s4.weak
                rw [isX] at hv
                obtain ⟨b, xs, ee, hx, ht⟩ := hv
                have pr := paired_stepP ht l u c
                refine ⟨c, rfl, hc.1, hc.2, .inr ⟨b, xs, ee, Or.inl (Or.inl (w4z.w.sub b _ hx)), fun p hp => ?_⟩⟩
                have stp := Step.new (M := M) (o := .lst (stepP xs l u c)) w4z.w.sub hp
                refine q π1 (.ref p) _ _ g1 (sa.trans stp.x) (w4z.step stp) ?_
                rw [isX, isXs_map, ← stepP_map, ← isXs_map]
                exact ⟨p, _, rfl, upd_same, Tys.mono stp.gw pr⟩
              · cases h
            · cases h
          · cases h
        · cases h
      · cases h
    · cases h
  · simp only [evz] at h
    split at h
    · rename_i x e1 h1
      have q := ha.ne _ _ _ n h1
      split at h
      · rename_i l v2 h2
        have q2 := (snd_all (π := ⟨0, []⟩) lo).np _ _ _ (by rw [q]; exact n) h2
        split at h
        · rename_i u v3 h3
          have q3 := (snd_all (π := ⟨0, []⟩) hi).np _ _ _ (by rw [q2, q]; exact n) h3
          split at h
          · rename_i c v4 h4
            have q4 := (snd_all (π := ⟨0, []⟩) st).np _ _ _ (by rw [q3, q2, q]; exact n) h4
            split at h
            · split at h
              · cases h; exact q4.trans (q3.trans (q2.trans q))
              · cases h
            · cases h
          · cases h
        · cases h
      · cases h
    · cases h
theorem sz_dnew : SndZ (M := M) (K := K) (CA := CA) .dnew := by
  refine sz_e (fun E e e' r h => ?_) (fun e e' r n h => ?_) (fun _ => by simp only [evzA]) (fun _ => by simp only [evzT]) (fun _ => by simp only [evzI])
  · simp only [evz] at h
    cases h
    exact ez_dnew
  · simp only [evz] at h
    cases h
    rfl
theorem sz_din (neg : Bool) (a b : Zx M K CA) (ha : SndZ a) (hb : SndZ b) : SndZ (.din neg a b) := by
  refine sz_e (fun E e e' r h => ?_) (fun e e' r n h => ?_) (fun _ => by simp only [evzA]) (fun _ => by simp only [evzT]) (fun _ => by simp only [evzI])
  · simp only [evz] at h
    split at h
    · rename_i x e1 h1
      split at h
      · rename_i i e2 h2
        split at h
        · rename_i ks key h3 h4
          cases h
          cases neg with
          | true => exact ez_dnin (ha.e E _ _ _ h1) (hb.e E _ _ _ h2) h3 rfl h4
          | false => exact ez_din (ha.e E _ _ _ h1) (hb.e E _ _ _ h2) h3 rfl h4
        · cases h
      · cases h
    · cases h
  · simp only [evz] at h
    split at h
    · rename_i x e1 h1
      have q := ha.ne _ _ _ n h1
      split at h
      · rename_i y e2 h2
        have q2 := hb.ne _ _ _ (by rw [q]; exact n) h2
        split at h
        · cases h
          rw [q2, q]
        · cases h
      · cases h
    · cases h
theorem sz_irng (x : Zx M K CA) (hx : SndZ x) : SndZ (.irng x) := by
  refine sz_i (fun E e e' b h => ?_) (fun _ => by simp only [evz]) (fun _ => by simp only [evzA]) (fun _ => by simp only [evzT])
  simp only [evzI] at h
  split at h
  · rename_i n e1 h1
    split at h
    · rename_i hn
      cases h
      dsimp only [denz]
      intro O F H σ π R w q
      refine hx.e E _ _ _ h1 O F H σ π _ w fun π1 v F2 H2 g1 s1 w1 hv => ?_
      rw [isX] at hv
      cases (show Dp K F2 v (.int n) from hv)
      refine ⟨n, rfl, hn.1, hn.2, q _ π1 F2 H2 g1 s1 w1 ?_⟩
      rw [List.length_map, List.length_range]
      refine ⟨fun i F H e s hi => hi, fun F H e s => Nat.le_refl _, fun i F H x H' e s hi y => ?_⟩
      obtain ⟨e1, e2⟩ := y
      subst e1 e2
      refine ⟨F, Step.refl s, ?_⟩
      rw [nth_X _ _ (by rw [List.length_map, List.length_range]; exact hi), List.getD_eq_getElem?_getD, List.getElem?_map, List.getElem?_range hi]
      show (isX (M := M) K π1 (.int (i : Int))).φ _ _
      rw [isX]
      show Dp K F (.int ((0 : Int) + (i : Nat))) (.int (i : Nat))
      rw [Int.zero_add]
      exact .int _
    · cases h
  · cases h
theorem sz_un (o : OU M K) (a : Zx M K CA) (ha : SndZ a) : SndZ (.un o a) := by
  refine sz_e (fun E e e' r h => ?_) (fun e e' r n h => ?_) (fun _ => by simp only [evzA]) (fun _ => by simp only [evzT]) (fun _ => by simp only [evzI])
  · simp only [evz] at h
    split at h
    · rename_i x e1 h1
      split at h
      · rename_i z h3
        cases h
        dsimp only [denz]
        exact ez_un (ha.e E _ _ _ h1) h3
      · cases h
    · cases h
  · simp only [evz] at h
    split at h
    · rename_i x e1 h1
      split at h
      · cases h
        exact ha.ne _ _ _ n h1
      · cases h
    · cases h
theorem sz_fn (o : ON M K) (a : Zx M K CA) (ha : SndZ a) : SndZ (.fn o a) := by
  refine sz_e (fun E e e' r h => ?_) (fun e e' r n h => ?_) (fun _ => by simp only [evzA]) (fun _ => by simp only [evzT]) (fun _ => by simp only [evzI])
  · simp only [evz] at h
    split at h
    · rename_i x e1 h1
      split at h
      · rename_i z h3
        cases h
        dsimp only [denz]
        exact ez_fn (ha.a E _ _ _ h1) h3
      · cases h
    · cases h
  · simp only [evz] at h
    split at h
    · rename_i x e1 h1
      split at h
      · cases h
        exact ha.na _ _ _ n h1
      · cases h
    · cases h
theorem sz_call (s : Zf) (a : Zx M K CA) (ha : SndZ a) : SndZ (.call s a) := by
  refine sz_e (fun E e e' r h => ?_) (fun e e' r n h => ?_) (fun _ => by simp only [evzA]) (fun _ => by simp only [evzT]) (fun _ => by simp only [evzI])
  · simp only [evz] at h
    split at h
    · rename_i x e1 h1
      split at h
      · rename_i r' S h3
        cases h
        exact ez_callZ (ha.a E _ _ _ h1) h3
      · cases h
    · rename_i C e1 h1
      cases h
      exact ez_call_exc (ha.a E _ _ _ h1)
    · cases h
  · simp only [evz] at h
    split at h
    · rename_i x e1 h1
      split at h
      · cases h
        exact ha.na _ e1 _ n h1
      · cases h
    · rename_i C e1 h1
      cases h
      exact ha.na _ _ _ n h1
    · cases h
theorem sz_callP (s : List Dt → Option Rd) (a : Zx M K CA) (ha : SndZ a) : SndZ (.callP s a) := by
  refine sz_e (fun E e e' r h => ?_) (fun e e' r n h => ?_) (fun _ => by simp only [evzA]) (fun _ => by simp only [evzT]) (fun _ => by simp only [evzI])
  · simp only [evz] at h
    split at h
    · rename_i x e1 h1
      split at h
      · rename_i r' h3
        cases h
        exact ez_callP (ha.a E _ _ _ h1) h3
      · cases h
    · rename_i C e1 h1
      cases h
      exact ez_call_exc (ha.a E _ _ _ h1)
    · cases h
  · simp only [evz] at h
    split at h
    · rename_i x e1 h1
      split at h
      · cases h
        exact ha.na _ _ _ n h1
      · cases h
    · rename_i C e1 h1
      cases h
      exact ha.na _ _ _ n h1
    · cases h
theorem sz_meth (cls m : Str) (s : Zf) (o a : Zx M K CA) (ho : SndZ o) (ha : SndZ a) : SndZ (.meth cls m s o a) := by
  refine sz_e (fun E e e' r h => ?_) (fun e e' r n h => ?_) (fun _ => by simp only [evzA]) (fun _ => by simp only [evzT]) (fun _ => by simp only [evzI])
  · simp only [evz] at h
    split at h
    · rename_i i e1 h1
      split at h
      · rename_i c h2
        split at h
        · rename_i hc
          split at h
          · rename_i xs e2 h3
            split at h
            · rename_i r' S h4
              cases h
              obtain ⟨⟨c1, c0⟩, c2⟩ := hc
              subst c1
              exact ez_meth (ho.e E _ _ _ h1) h2 c0 c2 (ha.a E _ _ _ h3) h4
            · cases h
          · cases h
        · cases h
      · cases h
    · cases h
  · simp only [evz] at h
    split at h
    · rename_i i e1 h1
      have q := ho.ne _ _ _ n h1
      split at h
      · rename_i c h2
        split at h
        · split at h
          · rename_i xs e2 h3
            have q2 := ha.na _ _ _ (by rw [q]; exact n) h3
            split at h
            · cases h
              show e2.v = e.v
              rw [q2, q]
            · cases h
          · cases h
        · cases h
      · cases h
    · cases h
theorem sz_fld (cls f : Str) (hc : Cls K (CA cls)) (hn : NoAttr K (CA cls) f) (o : Zx M K CA) (ho : SndZ o) : SndZ (.fld cls f hc hn o) := by
  refine sz_e (fun E e e' r h => ?_) (fun e e' r n h => ?_) (fun _ => by simp only [evzA]) (fun _ => by simp only [evzT]) (fun _ => by simp only [evzI])
  · simp only [evz] at h
    split at h
    · rename_i i e1 h1
      split at h
      · rename_i c h2
        split at h
        · rename_i hcl
          split at h
          · rename_i d h3
            cases h
            obtain ⟨hcl, c0⟩ := hcl
            subst hcl
            exact ez_fld (ho.e E _ _ _ h1) h2 c0 hc hn h3
          · cases h
        · cases h
      · cases h
    · cases h
  · simp only [evz] at h
    split at h
    · rename_i i e1 h1
      split at h
      · split at h
        · split at h
          · cases h
            exact ho.ne _ _ _ n h1
          · cases h
        · cases h
      · cases h
    · cases h
theorem sz_make (cls : Str) (s : Zf) (a : Zx M K CA) (ha : SndZ a) : SndZ (.make cls s a) := by
  refine sz_e (fun E e e' r h => ?_) (fun e e' r n h => ?_) (fun _ => by simp only [evzA]) (fun _ => by simp only [evzT]) (fun _ => by simp only [evzI])
  · simp only [evz] at h
    split at h
    · rename_i xs e1 h1
      split at h
      · rename_i S h2
        cases h
        exact ez_make (ha.a E _ _ _ h1) h2
      · cases h
    · cases h
  · simp only [evz] at h
    split at h
    · rename_i xs e1 h1
      split at h
      · cases h
        exact ha.na _ e1 _ n h1
      · cases h
    · cases h
theorem ez_lsT {E : XK} {ta : TE} {e e1 : Zs} {ds : List Dt} (h : EvZ M K CA E ta e (.ok (.tuple ds)) e1) : EvZ M K CA E (tCB (rLsOf K) (tCons ta tNil)) e (.ok (.list ds)) e1 := fun O F H σ π Q w q =>
  h O F H σ π _ w fun π1 v F1 H1 g1 s1 w1 hv => by
    rw [isX] at hv
    obtain ⟨a, xs, ee, hx, ht⟩ := hv
    subst ee
    refine ⟨a, xs, rfl, .inr (sqT_sub w1.w.sub (Or.inl (Or.inl hx))), fun l hl => ?_⟩
    have st := Step.new (M := M) (o := .lst xs) w1.w.sub hl
    refine q π1 (.ref l) _ _ g1 (s1.trans st.x) (w1.step st) ?_
    rw [isX]
    exact ⟨l, xs, rfl, upd_same, ht.mono st.gw⟩
theorem ez_lsL {E : XK} {ta : TE} {e e1 : Zs} {ds : List Dt} (h : EvZ M K CA E ta e (.ok (.list ds)) e1) : EvZ M K CA E (tCB (rLsOf K) (tCons ta tNil)) e (.ok (.list ds)) e1 := fun O F H σ π Q w q =>
  h O F H σ π _ w fun π1 v F1 H1 g1 s1 w1 hv => by
    rw [isX] at hv
    obtain ⟨a, xs, ee, hx, ht⟩ := hv
    subst ee
    refine ⟨a, xs, rfl, .inl (Or.inl (Or.inl (w1.w.sub a _ hx))), fun l hl => ?_⟩
    have st := Step.new (M := M) (o := .lst xs) w1.w.sub hl
    refine q π1 (.ref l) _ _ g1 (s1.trans st.x) (w1.step st) ?_
    rw [isX]
    exact ⟨l, xs, rfl, upd_same, ht.mono st.gw⟩
theorem sz_lsOf (a : Zx M K CA) (ha : SndZ a) : SndZ (.lsOf a) := by
  refine sz_e (fun E e e' r h => ?_) (fun e e' r n h => ?_) (fun _ => by simp only [evzA]) (fun _ => by simp only [evzT]) (fun _ => by simp only [evzI])
  · simp only [evz] at h
    split at h
    · rename_i ds e1 h1
      cases h
      exact ez_lsL (ha.e E _ _ _ h1)
    · rename_i ds e1 h1
      cases h
      exact ez_lsT (ha.e E _ _ _ h1)
    · cases h
  · simp only [evz] at h
    split at h
    · rename_i ds e1 h1
      cases h
      exact ha.ne _ _ _ n h1
    · rename_i ds e1 h1
      cases h
      exact ha.ne _ _ _ n h1
    · cases h
theorem sz_tup (a : Zx M K CA) (ha : SndZ a) : SndZ (.tup a) := by
  refine sz_e (fun E e e' r h => ?_) (fun e e' r n h => ?_) (fun _ => by simp only [evzA]) (fun _ => by simp only [evzT]) (fun _ => by simp only [evzI])
  · simp only [evz] at h
    split at h
    · rename_i xs e1 h1
      split at h
      · rename_i hl
        cases h
        exact ez_tup (ha.a E _ _ _ h1) hl
      · cases h
    · rename_i C e1 h1
      cases h
      exact ez_tup_exc (ha.a E _ _ _ h1)
    · cases h
  · simp only [evz] at h
    split at h
    · rename_i xs e1 h1
      split at h
      · cases h
        exact ha.na _ _ _ n h1
      · cases h
    · rename_i C e1 h1
      cases h
      exact ha.na _ _ _ n h1
    · cases h
theorem sz_lst (a : Zx M K CA) (ha : SndZ a) : SndZ (.lst a) := by
  refine sz_e (fun E e e' r h => ?_) (fun e e' r n h => ?_) (fun _ => by simp only [evzA]) (fun _ => by simp only [evzT]) (fun _ => by simp only [evzI])
  · simp only [evz] at h
    split at h
    · rename_i xs e1 h1
      split at h
      · rename_i hl
        cases h
        exact ez_lst (ha.a E _ _ _ h1) hl
      · cases h
    · cases h
  · simp only [evz] at h
    split at h
    · rename_i xs e1 h1
      split at h
      · cases h
        exact ha.na _ _ _ n h1
      · cases h
    · cases h
theorem sz_nil : SndZ (.nil : Zx M K CA) := by
  refine sz_a (fun E e e' r h => ?_) (fun e e' r n h => ?_) (fun _ => by simp only [evz]) (fun _ => by simp only [evzT]) (fun _ => by simp only [evzI])
  · simp only [evzA] at h
    cases h
    exact eza_nil
  · simp only [evzA] at h
    cases h
    rfl
theorem sz_cons (a b : Zx M K CA) (ha : SndZ a) (hb : SndZ b) : SndZ (.cons a b) := by
  refine sz_a (fun E e e' r h => ?_) (fun e e' r n h => ?_) (fun _ => by simp only [evz]) (fun _ => by simp only [evzT]) (fun _ => by simp only [evzI])
  · simp only [evzA] at h
    split at h
    · rename_i x e1 h1
      split at h
      · rename_i xs e2 h2
        cases h
        exact eza_cons (ha.e E _ _ _ h1) (hb.a E _ _ _ h2)
      · rename_i C e2 h2
        cases h
        exact eza_exc2 (ha.e E _ _ _ h1) (hb.a E _ _ _ h2)
      · cases h
    · rename_i C e1 h1
      cases h
      exact eza_exc1 (ha.e E _ _ _ h1)
    · cases h
  · simp only [evzA] at h
    split at h
    · rename_i x e1 h1
      have q := ha.ne _ _ _ n h1
      split at h
      · rename_i xs e2 h2
        cases h
        rw [hb.na _ _ _ (by rw [q]; exact n) h2, q]
      · rename_i C e2 h2
        cases h
        rw [hb.na _ _ _ (by rw [q]; exact n) h2, q]
      · cases h
    · rename_i C e1 h1
      cases h
      exact ha.ne _ _ _ n h1
    · cases h
theorem sz_ifx (t a b : Zx M K CA) (ht : SndZ t) (ha : SndZ a) (hb : SndZ b) : SndZ (.ifx t a b) := by
  refine sz_e (fun E e e' r h => ?_) (fun e e' r n h => ?_) (fun _ => by simp only [evzA]) (fun _ => by simp only [evzT]) (fun _ => by simp only [evzI])
  · simp only [evz] at h
    split at h
    · rename_i e1 h1
      exact ez_ifT (ht.t E _ _ _ h1) (ha.e E _ _ _ h)
    · rename_i e1 h1
      exact ez_ifF (ht.t E _ _ _ h1) (hb.e E _ _ _ h)
    · cases h
  · simp only [evz] at h
    split at h
    · rename_i e1 h1
      have q := ht.nt _ _ _ n h1
      rw [ha.ne _ _ _ (by rw [q]; exact n) h, q]
    · rename_i e1 h1
      have q := ht.nt _ _ _ n h1
      rw [hb.ne _ _ _ (by rw [q]; exact n) h, q]
    · cases h
theorem sz_andV (a b : Zx M K CA) (ha : SndZ a) (hb : SndZ b) : SndZ (.andV a b) := by
  refine sz_e (fun E e e' r h => ?_) (fun e e' r n h => ?_) (fun _ => by simp only [evzA]) (fun _ => by simp only [evzT]) (fun _ => by simp only [evzI])
  · simp only [evz] at h
    split at h
    · rename_i e1 h1
      split at h
      · rename_i c e2 h2
        cases h
        exact ez_andT (ha.e E _ _ _ h1) (hb.e E _ _ _ h2)
      · cases h
    · rename_i e1 h1
      cases h
      exact ez_andF (ha.e E _ _ _ h1)
    · cases h
  · simp only [evz] at h
    split at h
    · rename_i e1 h1
      have q := ha.ne _ _ _ n h1
      split at h
      · rename_i c e2 h2
        cases h
        rw [hb.ne _ _ _ (by rw [q]; exact n) h2, q]
      · cases h
    · rename_i e1 h1
      cases h
      exact ha.ne _ _ _ n h1
    · cases h
theorem sz_orV (a b : Zx M K CA) (ha : SndZ a) (hb : SndZ b) : SndZ (.orV a b) := by
  refine sz_e (fun E e e' r h => ?_) (fun e e' r n h => ?_) (fun _ => by simp only [evzA]) (fun _ => by simp only [evzT]) (fun _ => by simp only [evzI])
  · simp only [evz] at h
    split at h
    · rename_i e1 h1
      split at h
      · rename_i c e2 h2
        cases h
        exact ez_orF (ha.e E _ _ _ h1) (hb.e E _ _ _ h2)
      · cases h
    · rename_i e1 h1
      cases h
      exact ez_orT (ha.e E _ _ _ h1)
    · cases h
  · simp only [evz] at h
    split at h
    · rename_i e1 h1
      have q := ha.ne _ _ _ n h1
      split at h
      · rename_i c e2 h2
        cases h
        rw [hb.ne _ _ _ (by rw [q]; exact n) h2, q]
      · cases h
    · rename_i e1 h1
      cases h
      exact ha.ne _ _ _ n h1
    · cases h
theorem sz_notV (a : Zx M K CA) (ha : SndZ a) : SndZ (.notV a) := by
  refine sz_e (fun E e e' r h => ?_) (fun e e' r n h => ?_) (fun _ => by simp only [evzA]) (fun _ => by simp only [evzT]) (fun _ => by simp only [evzI])
  · simp only [evz] at h
    split at h
    · rename_i c e1 h1
      cases h
      exact ez_notV (ha.e E _ _ _ h1)
    · cases h
  · simp only [evz] at h
    split at h
    · rename_i c e1 h1
      cases h
      exact ha.ne _ _ _ n h1
    · cases h
theorem sz_give (i : Nat) : SndZ (.give i : Zx M K CA) := by
  refine sz_e (fun E e e' r h => ?_) (fun e e' r n h => ?_) (fun _ => by simp only [evzA]) (fun _ => by simp only [evzT]) (fun _ => by simp only [evzI])
  · simp only [evz] at h
    split at h
    · rename_i ds h1
      cases h
      exact ez_give h1
    · rename_i d h1
      cases h
      exact ez_pure (t := tVar i) (v := e.v) fun π => ev_var (ofE_get h1)
    · cases h
  · simp only [evz] at h
    split at h
    · rename_i ds h1
      exact absurd h1 (n i _ _)
    · cases h; rfl
    · cases h
theorem sz_popX (i : Nat) : SndZ (.popX i : Zx M K CA) := by
  refine sz_e (fun E e e' r h => ?_) (fun e e' r n h => ?_) (fun _ => by simp only [evzA]) (fun _ => by simp only [evzT]) (fun _ => by simp only [evzI])
  · simp only [evz] at h
    split at h
    · rename_i q ds h1
      split at h
      · rename_i d h2
        cases h
        exact ez_popX h1 h2
      · cases h
    · cases h
  · simp only [evz] at h
    split at h
    · rename_i q ds h1
      exact absurd h1 (n i _ _)
    · cases h
theorem sz_tpu (t : Ex M K) : SndZ (CA := CA) (.tpu t) := by
  refine sz_t (fun E e e' b h => ?_) (fun e e' b n h => ?_) (fun _ => by simp only [evz]) (fun _ => by simp only [evzA]) (fun _ => by simp only [evzI])
  · simp only [evzT] at h
    split at h
    · rename_i c v h1
      cases h
      exact ezt_pure fun π => (snd_all t).t E _ _ _ h1
    · cases h
  · simp only [evzT] at h
    split at h
    · rename_i c v h1
      cases h
      exact (snd_all (π := ⟨0, []⟩) t).nt _ _ _ n h1
    · cases h
theorem sz_test (B : Bool) (a : Zx M K CA) (ha : SndZ a) : SndZ (if B then .tst a else .tb a) := by
  have same : ∀ e, evzT (M := M) (K := K) (CA := CA) e (if B then .tst a else .tb a) = match evz e a with
    | some (.ok (.bool b), e1) => some (b, e1)
    | _ => none := fun e => by cases B <;> simp only [evzT, if_true, Bool.false_eq_true, if_false] <;> rfl
  refine sz_t (fun E e e' b h => ?_) (fun e e' b n h => ?_) (fun _ => by cases B <;> simp [evz]) (fun _ => by cases B <;> simp [evzA]) (fun _ => by cases B <;> simp [evzI])
  · rw [same] at h
    split at h
    · rename_i c e1 h1
      cases h
      cases B with
      | true => exact ezt_test (ha.e E _ _ _ h1)
      | false => exact ezt_B (ha.e E _ _ _ h1)
    · cases h
  · rw [same] at h
    split at h
    · rename_i c e1 h1
      cases h
      exact ha.ne _ _ _ n h1
    · cases h
theorem sz_tand (t u : Zx M K CA) (ht : SndZ t) (hu : SndZ u) : SndZ (.tand t u) := by
  refine sz_t (fun E e e' b h => ?_) (fun e e' b n h => ?_) (fun _ => by simp only [evz]) (fun _ => by simp only [evzA]) (fun _ => by simp only [evzI])
  · simp only [evzT] at h
    split at h
    · rename_i e1 h1
      exact ezt_andT (ht.t E _ _ _ h1) (hu.t E _ _ _ h)
    · rename_i e1 h1
      cases h
      exact ezt_andF (ht.t E _ _ _ h1)
    · cases h
  · simp only [evzT] at h
    split at h
    · rename_i e1 h1
      have q := ht.nt _ _ _ n h1
      rw [hu.nt _ _ _ (by rw [q]; exact n) h, q]
    · rename_i e1 h1
      cases h
      exact ht.nt _ _ _ n h1
    · cases h
theorem sz_tor (t u : Zx M K CA) (ht : SndZ t) (hu : SndZ u) : SndZ (.tor t u) := by
  refine sz_t (fun E e e' b h => ?_) (fun e e' b n h => ?_) (fun _ => by simp only [evz]) (fun _ => by simp only [evzA]) (fun _ => by simp only [evzI])
  · simp only [evzT] at h
    split at h
    · rename_i e1 h1
      exact ezt_orF (ht.t E _ _ _ h1) (hu.t E _ _ _ h)
    · rename_i e1 h1
      cases h
      exact ezt_orT (ht.t E _ _ _ h1)
    · cases h
  · simp only [evzT] at h
    split at h
    · rename_i e1 h1
      have q := ht.nt _ _ _ n h1
      rw [hu.nt _ _ _ (by rw [q]; exact n) h, q]
    · rename_i e1 h1
      cases h
      exact ht.nt _ _ _ n h1
    · cases h
theorem sz_tnot (t : Zx M K CA) (ht : SndZ t) : SndZ (.tnot t) := by
  refine sz_t (fun E e e' b h => ?_) (fun e e' b n h => ?_) (fun _ => by simp only [evz]) (fun _ => by simp only [evzA]) (fun _ => by simp only [evzI])
  · simp only [evzT] at h
    split at h
    · rename_i c e1 h1
      cases h
      exact ezt_not (ht.t E _ _ _ h1)
    · cases h
  · simp only [evzT] at h
    split at h
    · rename_i c e1 h1
      cases h
      exact ht.nt _ _ _ n h1
    · cases h
theorem sz_ipu (x : Ex M K) : SndZ (CA := CA) (.ipu x) := by
  refine sz_i (fun E e e' b h => ?_) (fun _ => by simp only [evz]) (fun _ => by simp only [evzA]) (fun _ => by simp only [evzT])
  simp only [evzI] at h
  split at h
  · rename_i ds v h1
    cases h
    exact ezi_pure fun π => (snd_all x).i E _ _ _ h1
  · cases h
theorem sz_iseq (x : Zx M K CA) (hx : SndZ x) : SndZ (.iseq x) := by
  refine sz_i (fun E e e' b h => ?_) (fun _ => by simp only [evz]) (fun _ => by simp only [evzA]) (fun _ => by simp only [evzT])
  simp only [evzI] at h
  split at h
  · rename_i ds e1 h1
    cases h
    exact ezi_list (ez_anyE (hx.e E _ _ _ h1))
  · rename_i ds e1 h1
    cases h
    exact ezi_tup (ez_anyE (hx.e E _ _ _ h1))
  · cases h
theorem sz_ienum (x : Zx M K CA) (hx : SndZ x) : SndZ (.ienum x) := by
  refine sz_i (fun E e e' b h => ?_) (fun _ => by simp only [evz]) (fun _ => by simp only [evzA]) (fun _ => by simp only [evzT])
  simp only [evzI] at h
  split at h
  · rename_i ds e1 h1
    cases h
    exact ezi_enumL (ez_anyE (hx.e E _ _ _ h1))
  · rename_i ds e1 h1
    cases h
    exact ezi_enumT (ez_anyE (hx.e E _ _ _ h1))
  · cases h
/-! ### the comprehension -/
/-- stores and results, item by item -/
def lcSt (f : List Cell → Dt → Option (Option Dt × List Cell)) (S : List Cell) (ds : List Dt) : Nat → List Cell × List Dt
  | 0 => (S, [])
  | i + 1 => match f (lcSt f S ds i).1 (ds.getD i .none) with
    | some (some r, S1) => (S1, (lcSt f S ds i).2 ++ [r])
    | some (none, S1) => (S1, (lcSt f S ds i).2)
    | none => ([], [])
theorem lcSt_tail (f : List Cell → Dt → Option (Option Dt × List Cell)) (S S1 : List Cell) (d : Dt) (o : Option Dt) (ds : List Dt) (h : f S d = some (o, S1)) :
    ∀ i, (∀ j, j < i → ∃ p, f (lcSt f S1 ds j).1 (ds.getD j .none) = some p) → lcSt f S (d :: ds) (i + 1) = ((lcSt f S1 ds i).1, o.toList ++ (lcSt f S1 ds i).2) := by
  intro i
  induction i with
  | zero =>
    intro _
    rw [lcSt, lcSt, lcSt]
    show (match f S d with | some (some r, S1) => (S1, [] ++ [r]) | some (none, S1) => (S1, []) | none => ([], [])) = _
    rw [h]
    cases o <;> rfl
  | succ i ih =>
    intro hj
    have z := ih fun j hlt => hj j (Nat.lt_succ_of_lt hlt)
    obtain ⟨⟨o2, S2⟩, hp⟩ := hj i (Nat.lt_succ_self i)
    rw [lcSt, z]
    show (match f (lcSt f S1 ds i).1 (ds.getD i .none) with | some (some r, S1') => (S1', (o.toList ++ (lcSt f S1 ds i).2) ++ [r]) | some (none, S1') => (S1', o.toList ++ (lcSt f S1 ds i).2) | none => ([], [])) = _
    rw [hp, lcSt, hp]
    cases o2 with
    | none => rfl
    | some r => simp only [List.append_assoc]
theorem lcZ_spec (f : List Cell → Dt → Option (Option Dt × List Cell)) : ∀ (ds : List Dt) (S S2 : List Cell) (rs : List Dt), lcZ f S ds = some (rs, S2) →
    (∀ i, i < ds.length → ∃ p, f (lcSt f S ds i).1 (ds.getD i .none) = some p) ∧ lcSt f S ds ds.length = (S2, rs) := by
  intro ds
  induction ds with
  | nil =>
    intro S S2 rs h
    rw [lcZ] at h
    cases h
    exact ⟨fun i hi => by simp at hi, rfl⟩
  | cons d ds ih =>
    intro S S2 rs h
    rw [lcZ] at h
    split at h
    · rename_i o S1 h1
      split at h
      · rename_i rs1 S3 h2
        cases h
        obtain ⟨a, b⟩ := ih _ _ _ h2
        refine ⟨fun i hi => ?_, ?_⟩
        · cases i with
          | zero => exact ⟨(o, S1), h1⟩
          | succ i =>
            have hi' : i < ds.length := by simpa using hi
            rw [lcSt_tail f S S1 d o ds h1 i fun j hj => a j (Nat.lt_trans hj hi')]
            exact a i hi'
        · rw [List.length_cons, lcSt_tail f S S1 d o ds h1 ds.length a, b]
          cases o <;> rfl
      · cases h
    · cases h
theorem lcSt_len (f : List Cell → Dt → Option (Option Dt × List Cell)) (S : List Cell) (ds : List Dt) : ∀ i, (lcSt f S ds i).2.length ≤ i := by
  intro i
  induction i with
  | zero => exact Nat.le_refl _
  | succ i ih =>
    rw [lcSt]
    split
    · rw [List.length_append]; exact Nat.succ_le_succ ih
    · exact Nat.le_succ_of_le ih
    · exact Nat.zero_le _
theorem sz_lc (it tt x : Zx M K CA) (tg : Tg) (hi : SndZ it) (ht : SndZ tt) (hx : SndZ x) (ni : ∀ (e e' : Zs) (o : List Dt), NoOwn e.v → evzI e it = some (o, e') → e'.v = e.v) : SndZ (.lc it tg tt x) := by
  refine sz_e (fun E e e' r h => ?_) (fun e e' r n h => ?_) (fun _ => by simp only [evzA]) (fun _ => by simp only [evzT]) (fun _ => by simp only [evzI])
  · simp only [evz] at h
    split at h
    · rename_i ds e0 h1
      split at h
      · rename_i hl
        split at h
        · rename_i rs S2 h2
          cases h
          let f : List Cell → Dt → Option (Option Dt × List Cell) := fun S d => match asgT (wipeV (e0.v.map hushV) tg.ids) d tg with
            | some v1 => match evzT ⟨v1, S⟩ tt with
              | some (true, e2) => match evz ⟨v1, e2.s⟩ x with
                | some (.ok r, e3) => some (some r, e3.s)
                | _ => none
              | some (false, e2) => some (none, e2.s)
              | none => none
            | none => none
          obtain ⟨ha, hb⟩ := lcZ_spec f ds e0.s S2 rs h2
          have key := ez_lc (M := M) (K := K) (CA := CA) (E := E) (te := (denz E0 x).e) (tt := (denz E0 tt).t) (G := denG K tg) (vs := tg.ids) (hi.i E e e0 ds h1) hl (fun i => (lcSt f e0.s ds i).1) (fun i => (lcSt f e0.s ds i).2) rfl rfl (fun i hi' => ?_) (lcSt_len f e0.s ds)
          · simp only [hb] at key
            exact key
          · obtain ⟨⟨o, S1'⟩, hr⟩ := ha i hi'
            have hr0 := hr
            simp only [f] at hr
            split at hr
            · rename_i v1 ha1
              have no1 : NoOwn v1 := no_asg (no_wipe (no_hush e0.v) _) ha1
              split at hr
              · rename_i e2 ht1
                have q := ht.nt _ _ _ no1 ht1
                split at hr
                · rename_i r e3 hx1
                  have q2 := hx.ne _ _ _ no1 hx1
                  cases hr
                  refine ⟨v1, true, e2.s, fun π => gw_sound ha1, ?_, (fun z => nomatch z), fun _ => ⟨r, ?_, ?_⟩⟩
                  · have z := ht.t E0 _ _ _ ht1
                    have ee : (⟨v1, e2.s⟩ : Zs) = e2 := by cases e2; cases q; rfl
                    rw [ee]; exact z
                  · have z := hx.e E0 _ _ _ hx1
                    have ee : (⟨v1, (lcSt f e0.s ds (i + 1)).1⟩ : Zs) = e3 := by
                      rw [lcSt, hr0]
                      cases e3; cases q2; rfl
                    rw [ee]; exact z
                  · rw [lcSt, hr0]
                · cases hr
              · rename_i e2 ht1
                have q := ht.nt _ _ _ no1 ht1
                cases hr
                refine ⟨v1, false, e2.s, fun π => gw_sound ha1, ?_, (fun _ => ?_), (fun z => nomatch z)⟩
                · have z := ht.t E0 _ _ _ ht1
                  have ee : (⟨v1, e2.s⟩ : Zs) = e2 := by cases e2; cases q; rfl
                  rw [ee]; exact z
                · constructor
                  · rw [lcSt, hr0]
                  · rw [lcSt, hr0]
              · cases hr
            · cases hr
        · cases h
      · cases h
    · cases h
  · simp only [evz] at h
    split at h
    · rename_i ds e0 h1
      split at h
      · split at h
        · cases h
          exact ni _ e0 _ n h1
        · cases h
      · cases h
    · cases h
structure SndZX (x : Zx M K CA) : Prop extends SndZ x where
  ni : ∀ (e e' : Zs) (o : List Dt), NoOwn e.v → evzI e x = some (o, e') → e'.v = e.v
theorem szX_of {x : Zx M K CA} (h : SndZ x) (i : ∀ e, evzI e x = none) : SndZX x := ⟨h, fun e _ _ _ q => (by rw [i] at q; cases q)⟩
theorem sz_all (x : Zx M K CA) : SndZX x := by
  induction x with
  | pu x => exact szX_of (sz_pu x) (fun _ => by simp only [evzI])
  | op o a b ha hb => exact szX_of (sz_op o a b ha.toSndZ hb.toSndZ) (fun _ => by simp only [evzI])
  | sl a lo hi ha => exact szX_of (sz_sl a lo hi ha.toSndZ) (fun _ => by simp only [evzI])
  | sls a lo hi st ha => exact szX_of (sz_sls a lo hi st ha.toSndZ) (fun _ => by simp only [evzI])
  | dnew => exact szX_of sz_dnew (fun _ => by simp only [evzI])
  | din neg a b ha hb => exact szX_of (sz_din neg a b ha.toSndZ hb.toSndZ) (fun _ => by simp only [evzI])
  | ix a b ha hb => exact szX_of (sz_ix a b ha.toSndZ hb.toSndZ) (fun _ => by simp only [evzI])
  | bad => exact szX_of (sz_e (fun E e e' r h => by simp only [evz] at h; cases h) (fun e e' r n h => by simp only [evz] at h; cases h) (fun _ => by simp only [evzA]) (fun _ => by simp only [evzT]) (fun _ => by simp only [evzI])) (fun _ => by simp only [evzI])
  | irng x hx => exact ⟨sz_irng x hx.toSndZ, fun e e' o n h => (by
      simp only [evzI] at h
      split at h
      · rename_i ds e1 h1
        split at h
        · cases h
          exact hx.ne _ _ _ n h1
        · cases h
      · cases h)⟩
  | un o a ha => exact szX_of (sz_un o a ha.toSndZ) (fun _ => by simp only [evzI])
  | fn o a ha => exact szX_of (sz_fn o a ha.toSndZ) (fun _ => by simp only [evzI])
  | call s a ha => exact szX_of (sz_call s a ha.toSndZ) (fun _ => by simp only [evzI])
  | callP s a ha => exact szX_of (sz_callP s a ha.toSndZ) (fun _ => by simp only [evzI])
  | meth cls m s o a ho ha => exact szX_of (sz_meth cls m s o a ho.toSndZ ha.toSndZ) (fun _ => by simp only [evzI])
  | fld cls f hc hn o ho => exact szX_of (sz_fld cls f hc hn o ho.toSndZ) (fun _ => by simp only [evzI])
  | make cls s a ha => exact szX_of (sz_make cls s a ha.toSndZ) (fun _ => by simp only [evzI])
  | lsOf a ha => exact szX_of (sz_lsOf a ha.toSndZ) (fun _ => by simp only [evzI])
  | tup a ha => exact szX_of (sz_tup a ha.toSndZ) (fun _ => by simp only [evzI])
  | lst a ha => exact szX_of (sz_lst a ha.toSndZ) (fun _ => by simp only [evzI])
  | nil => exact szX_of sz_nil (fun _ => by simp only [evzI])
  | cons a b ha hb => exact szX_of (sz_cons a b ha.toSndZ hb.toSndZ) (fun _ => by simp only [evzI])
  | ifx t a b ht ha hb => exact szX_of (sz_ifx t a b ht.toSndZ ha.toSndZ hb.toSndZ) (fun _ => by simp only [evzI])
  | andV a b ha hb => exact szX_of (sz_andV a b ha.toSndZ hb.toSndZ) (fun _ => by simp only [evzI])
  | orV a b ha hb => exact szX_of (sz_orV a b ha.toSndZ hb.toSndZ) (fun _ => by simp only [evzI])
  | notV a ha => exact szX_of (sz_notV a ha.toSndZ) (fun _ => by simp only [evzI])
  | give i => exact szX_of (sz_give i) (fun _ => by simp only [evzI])
  | popX i => exact szX_of (sz_popX i) (fun _ => by simp only [evzI])
  | lc it tg tt e hi ht he => exact szX_of (sz_lc it tt e tg hi.toSndZ ht.toSndZ he.toSndZ hi.ni) (fun _ => by simp only [evzI])
  | tpu t => exact szX_of (sz_tpu t) (fun _ => by simp only [evzI])
  | tst a ha => exact szX_of (sz_test true a ha.toSndZ) (fun _ => by simp only [evzI])
  | tb a ha => exact szX_of (sz_test false a ha.toSndZ) (fun _ => by simp only [evzI])
  | tand t u ht hu => exact szX_of (sz_tand t u ht.toSndZ hu.toSndZ) (fun _ => by simp only [evzI])
  | tor t u ht hu => exact szX_of (sz_tor t u ht.toSndZ hu.toSndZ) (fun _ => by simp only [evzI])
  | tnot t ht => exact szX_of (sz_tnot t ht.toSndZ) (fun _ => by simp only [evzI])
  | ipu i => exact ⟨sz_ipu i, fun e e' o n h => (by
      simp only [evzI] at h
      split at h
      · rename_i ds v h1
        cases h
        exact (snd_all (π := ⟨0, []⟩) i).ni _ _ _ n h1
      · cases h)⟩
  | iseq x hx => exact ⟨sz_iseq x hx.toSndZ, fun e e' o n h => (by
      simp only [evzI] at h
      split at h
      · rename_i ds e1 h1
        cases h
        exact hx.ne _ _ _ n h1
      · rename_i ds e1 h1
        cases h
        exact hx.ne _ _ _ n h1
      · cases h)⟩
  | ienum x hx => exact ⟨sz_ienum x hx.toSndZ, fun e e' o n h => (by
      simp only [evzI] at h
      split at h
      · rename_i ds e1 h1
        cases h
        exact hx.ne _ _ _ n h1
      · rename_i ds e1 h1
        cases h
        exact hx.ne _ _ _ n h1
      · cases h)⟩
end Bc

set_option maxRecDepth 100000
set_option maxHeartbeats 4000000
/-! BdO: the language with objects: statements. -/
namespace Bc
open PySem PySem.Spec
open PyProof.Rows L2
/-- one of two sides of a, b = x, y -/
inductive Ag (M : Hp → Hp → Prop) (K : PySem.W.Frag) (CA : Str → Addr) where
  | v (x : Zx M K CA)
  | o (x : Ex M K)
inductive Sz (M : Hp → Hp → Prop) (K : PySem.W.Frag) (CA : Str → Addr) where
  | nx
  | seq (s t : Sz M K CA)
  | ret (e : Zx M K CA)
  | retN
  | asg (tg : Tg) (e : Zx M K CA)
  | own (i : Nat) (e : Ex M K)
  | par (i j : Nat) (a b : Ag M K CA)
  | drop (e : Zx M K CA)
  | app (i : Nat) (e : Zx M K CA)
  | pop (i : Nat)
  | ins (i : Nat) (at_ e : Zx M K CA)
  | setO (i : Nat) (ix : Ex M K) (e : Zx M K CA)
  | setF (cls f : Str) (hc : Cls K (CA cls)) (hn : NoAttr K (CA cls) f) (o e : Zx M K CA)
  | ife (t : Zx M K CA) (a b : Sz M K CA)
  | wh (n : Nat) (t : Zx M K CA) (b : Sz M K CA)
  | fr (it : Zx M K CA) (tg : Tg) (b : Sz M K CA)
  | brk
  | cnt
  | dput (d k : Zx M K CA)
  | rais (C : Value)
  | bad
def denAg {M : Hp → Hp → Prop} {K : PySem.W.Frag} {CA : Str → Addr} (E : XK) : Ag M K CA → TE
  | .v x => (denz E x).e
  | .o x => (den E x).e
/-- xs.insert(i, y) -/
def rIns : V → List V → Hp → VK → Prop := fun x vs H Q => ∃ (l : Addr) (xs : List V) (i : Int) (y : V), x = .ref l ∧ vs = [.int i, y] ∧ H l = some (.lst xs) ∧ xs.length < sizeLine ∧ 0 ≤ i ∧ i < 2 ^ 63 ∧
    Q .non (upd H l (.lst (xs.take i.toNat ++ [y] ++ xs.drop i.toNat)))
def denSz {M : Hp → Hp → Prop} {K : PySem.W.Frag} {CA : Str → Addr} (E : XK) : Sz M K CA → TS
  | .nx => tNext
  | .seq s t => tSeq (denSz E s) (denSz E t)
  | .ret e => tRet (denz E e).e
  | .retN => tRetN
  | .asg tg e => tAsg (denz E e).e (denG K tg)
  | .own i e => tAsg (den E e).e (gName i)
  | .par i j a b => tPar i j (tCons (denAg E a) (tCons (denAg E b) tNil))
  | .drop e => tDrop (denz E e).e
  | .app i e => tDrop (tBM K "list" rAppend (tVar i) (tCons (denz E e).e tNil))
  | .pop i => tDrop (tBM0 K "list" rPop (tVar i))
  | .ins i a e => tDrop (tBM K "list" rIns (tVar i) (tCons (denz E a).e (tCons (denz E e).e tNil)))
  | .setO i ix e => tAsg (denz E e).e (gSub (tVar i) (den E ix).e rSetL)
  | .setF _ f _ _ o e => sFld K (denz E o).e (denz E e).e f
  | .ife t a b => tIfS (denz E t).t (denSz E a) (denSz E b)
  | .wh _ t b => tWhile (denz E t).t (denSz E b)
  | .fr it tg b => tFor (denz E it).i (denG K tg) (denSz E b)
  | .brk => tBreak
  | .cnt => tCont
  | .dput d k => sDPut (denz E d).e (denz E k).e (tC (.bl true))
  | .rais C => fun _ _ H => E C none H
  | .bad => fun _ _ _ => False
inductive Outz where
  | nx (e : Zs)
  | rt (d : Dt) (e : Zs)
  | bk (e : Zs)
  | ct (e : Zs)
  | exc (C : Value) (e : Zs)
def whz (t : Zs → Option (Bool × Zs)) (b : Zs → Option Outz) : Nat → Zs → Option Outz
  | 0, _ => none
  | n + 1, e => match t e with
    | some (true, e1) => match b e1 with
      | some (.nx e2) => whz t b n e2
      | some (.ct e2) => whz t b n e2
      | some (.bk e2) => some (.nx e2)
      | o => o
    | some (false, e1) => some (.nx e1)
    | none => none
def asgZ (e : Zs) (d : Dt) (tg : Tg) : Option Zs := match asgT e.v d tg with
  | some v => some ⟨v, e.s⟩
  | none => none
def forz (tg : Tg) (b : Zs → Option Outz) : List Dt → Zs → Option Outz
  | [], e => some (.nx e)
  | d :: ds, e => match asgZ e d tg with
    | some e1 => match b e1 with
      | some (.nx e2) => forz tg b ds e2
      | some (.ct e2) => forz tg b ds e2
      | some (.bk e2) => some (.nx e2)
      | o => o
    | none => none
/-- a field is put, or taken -/
def putD (f : Str) (d : Dt) : List (Str × Dt) → List (Str × Dt)
  | [] => [(f, d)]
  | (k, x) :: r => if k = f then (f, d) :: r else (k, x) :: putD f d r
def evAg {M : Hp → Hp → Prop} {K : PySem.W.Frag} {CA : Str → Addr} (e : Zs) : Ag M K CA → Option (Sv × Zs)
  | .v x => match evz e x with
    | some (.ok d, e1) => some (.val d, e1)
    | _ => none
  | .o x => if fresh x then match ev e.v x with
    | some (.ok (.list ds), v) => some (.own false ds, ⟨v, e.s⟩)
    | _ => none else none
def rz {M : Hp → Hp → Prop} {K : PySem.W.Frag} {CA : Str → Addr} : Sz M K CA → Zs → Option Outz
  | .nx, e => some (.nx e)
  | .seq s t, e => match rz s e with
    | some (.nx e1) => rz t e1
    | o => o
  | .ret x, e => match evz e x with
    | some (.ok d, e1) => some (.rt d e1)
    | some (.exc C, e1) => some (.exc C e1)
    | none => none
  | .retN, e => some (.rt .none e)
  | .asg tg x, e => match evz e x with
    | some (.ok d, e1) => match asgZ e1 d tg with
      | some e2 => some (.nx e2)
      | none => none
    | some (.exc C, e1) => some (.exc C e1)
    | none => none
  | .own i x, e => if fresh x then match ev e.v x with
    | some (.ok (.list ds), v) => some (.nx ⟨v.set i (.own false ds), e.s⟩)
    | _ => none else none
  | .par i j a b, e => match evAg e a with
    | some (x, e1) => match evAg e1 b with
      | some (y, e2) => match x, b with
        | .own _ _, .v _ => none
        | _, _ => if i = j then none else some (.nx ⟨(e2.v.set i x).set j y, e2.s⟩)
      | none => none
    | none => none
  | .drop x, e => match evz e x with
    | some (.ok _, e1) => some (.nx e1)
    | some (.exc C, e1) => some (.exc C e1)
    | none => none
  | .app i x, e => match evz e x with
    | some (.ok d, e1) => match e.v[i]?, e1.v[i]? with
      | some (.own _ _), some (.own q ds) => if ds.length < 1000000 then some (.nx ⟨e1.v.set i (.own q (ds ++ [d])), e1.s⟩) else none
      | _, _ => none
    | _ => none
  | .pop i, e => match e.v[i]? with
    | some (.own q ds) => match ds[ds.length - 1]? with
      | some _ => some (.nx ⟨e.v.set i (.own q ds.dropLast), e.s⟩)
      | none => none
    | _ => none
  | .ins i a x, e => match evz e a with
    | some (.ok (.int k), e1) => match evz e1 x with
      | some (.ok d, e2) => match e.v[i]?, e2.v[i]? with
        | some (.own _ _), some (.own q ds) => if ds.length < 1000000 ∧ 0 ≤ k ∧ k < 1000000 then some (.nx ⟨e2.v.set i (.own q (ds.take k.toNat ++ [d] ++ ds.drop k.toNat)), e2.s⟩) else none
        | _, _ => none
      | _ => none
    | _ => none
  | .setO i ix x, e => match evz e x with
    | some (.ok d, e1) => match ev e1.v ix with
      | some (.ok (.int k), v2) => match e1.v[i]?, v2[i]? with
        | some (.own _ _), some (.own q ds) => match ixN ds.length k with
          | some j => some (.nx ⟨v2.set i (.own q (ds.set j d)), e1.s⟩)
          | none => none
        | _, _ => none
      | _ => none
    | _ => none
  | .setF cls f _ _ o x, e => match evz e x with
    | some (.ok d, e1) => match evz e1 o with
      | some (.ok (.obj i), e2) => match e2.s[i]? with
        | some c => if (c.cls = cls ∧ c.ks = none) ∧ c.fs.length < 1000 then some (.nx ⟨e2.v, e2.s.set i ⟨cls, putD f d c.fs, none⟩⟩) else none
        | none => none
      | _ => none
    | _ => none
  | .ife t a b, e => match evzT e t with
    | some (true, e1) => rz a e1
    | some (false, e1) => rz b e1
    | none => none
  | .wh n t b, e => whz (fun e => evzT e t) (rz b) n e
  | .fr it tg b, e => match evzI e it with
    | some (ds, e1) => forz tg (rz b) ds e1
    | none => none
  | .brk, e => some (.bk e)
  | .cnt, e => some (.ct e)
  | .dput d k, e => match evz e d with
    | some (.ok (.obj i), e1) => match evz e1 k with
      | some (.ok x, e2) => match e2.s[i]?, keyOf x with
        | some ⟨cl, fs, some ks⟩, some key => if ks.length < 1000000 then some (.nx ⟨e2.v, e2.s.set i ⟨cl, fs, some (addK ks key)⟩⟩) else none
        | _, _ => none
      | _ => none
    | _ => none
  | .rais C, e => some (.exc C e)
  | .bad, _ => none
variable {M : Hp → Hp → Prop} [g : GB M] {K : PySem.W.Frag} {CA : Str → Addr}
def OkZ (M : Hp → Hp → Prop) (K : PySem.W.Frag) (CA : Str → Addr) (E : XK) (O : Addr → Prop) (F H : Hp) (π : Pa) (D : Ends) : Outz → Prop
  | .nx e => ∀ π' σ F2 H2, Grow π π' H → StepX M O F H F2 H2 → Wz M K CA O F2 H2 σ π' e → D.nx σ H2
  | .rt d e => ∀ π' σ v F2 H2, Grow π π' H → StepX M O F H F2 H2 → Wz M K CA O F2 H2 σ π' e → (isX (M := M) K π' d).φ v F2 → D.rt v H2
  | .bk e => ∀ π' σ F2 H2, Grow π π' H → StepX M O F H F2 H2 → Wz M K CA O F2 H2 σ π' e → D.bk σ H2
  | .ct e => ∀ π' σ F2 H2, Grow π π' H → StepX M O F H F2 H2 → Wz M K CA O F2 H2 σ π' e → D.ct σ H2
  | .exc C e => ∀ π' F2 H2, Grow π π' H → StepX M O F H F2 H2 → Sub F2 H2 → StOk M K CA π' e.s F2 H2 → E C none H2
def EvSZ (M : Hp → Hp → Prop) (K : PySem.W.Frag) (CA : Str → Addr) (E : XK) (t : TS) (e : Zs) (o : Outz) : Prop := ∀ O F H σ π D, Wz M K CA O F H σ π e → OkZ M K CA E O F H π D o → t D σ H
section
variable {O : Addr → Prop} {F H F1 H1 F2 H2 : Hp} {σ : L2.St} {π π1 π2 : Pa} {e e' e1 e2 : Zs} {E : XK} {D : Ends} {o : Outz} {t u : TS}
theorem OkZ.step (gr : Grow π π1 H) (s : StepX M O F H F1 H1) (k : OkZ M K CA E O F H π D o) : OkZ M K CA E O F1 H1 π1 D o := by
  cases o with
  | nx e => exact fun π' σ F2 H2 g2 s2 w => k π' σ F2 H2 (gr.trans g2 s.dom) (s.trans s2) w
  | rt d e => exact fun π' σ v F2 H2 g2 s2 w hv => k π' σ v F2 H2 (gr.trans g2 s.dom) (s.trans s2) w hv
  | bk e => exact fun π' σ F2 H2 g2 s2 w => k π' σ F2 H2 (gr.trans g2 s.dom) (s.trans s2) w
  | ct e => exact fun π' σ F2 H2 g2 s2 w => k π' σ F2 H2 (gr.trans g2 s.dom) (s.trans s2) w
  | exc C e => exact fun π' F2 H2 g2 s2 sb st => k π' F2 H2 (gr.trans g2 s.dom) (s.trans s2) sb st
theorem esz_seq1 (h1 : EvSZ M K CA E t e (.nx e1)) (h2 : EvSZ M K CA E u e1 o) : EvSZ M K CA E (tSeq t u) e o := fun O F H σ π D w k =>
  h1 O F H σ π { D with nx := u D } w fun π' σ' F2 H2 gr s w2 => h2 O F2 H2 σ' π' D w2 (k.step gr s)
theorem esz_seq2 (h1 : EvSZ M K CA E t e o) (n : ∀ e1, o ≠ .nx e1) : EvSZ M K CA E (tSeq t u) e o := fun O F H σ π D w k =>
  h1 O F H σ π { D with nx := u D } w (by
    cases o with
    | nx e => exact absurd rfl (n e)
    | rt d e => exact k
    | bk e => exact k
    | ct e => exact k
    | exc C e => exact k)
theorem esz_if {c : TT} {b : Bool} (hc : EvZT M K CA c e b e1) (h1 : b = true → EvSZ M K CA E t e1 o) (h2 : b = false → EvSZ M K CA E u e1 o) : EvSZ M K CA E (tIfS c t u) e o := fun O F H σ π D w k =>
  hc O F H σ π _ w fun π1 F1 H1 g1 s1 w1 => by
    cases b with
    | true => exact h1 rfl O F1 H1 σ π1 D w1 (k.step g1 s1)
    | false => exact h2 rfl O F1 H1 σ π1 D w1 (k.step g1 s1)
theorem Wz.put (w : Wz M K CA O F H σ π e) {i : Nat} {v : V} {d : Dt} (hv : (isX (M := M) K π d).φ v F) : Wz M K CA O F H (σ.set i (some v)) π ⟨e.v.set i (.val d), e.s⟩ :=
  ⟨by rw [ofE_set]; exact w.w.set hv, w.st, fun a h => ⟨(w.ob a h).1, fun z => (w.ob a h).2 (by
    rw [ofE_set] at z
    exact set_own (s := .ty (isX K π d)) (fun _ q => nomatch q) z)⟩⟩
/-- a pure change of the slots alone -/
theorem Wz.slots (w : Wz M K CA O F H σ π e) {σ' : L2.St} {v : Vs} (w2 : Wd (fun a => O a ∧ ¬ InA π a) F H σ' (ofE M K π v)) : Wz M K CA O F H σ' π ⟨v, e.s⟩ :=
  ⟨⟨w2.sub, w2.sl, fun p h => (w2.own p h).1, fun p h => (w2.fresh p h).1⟩, w.st, fun a h => ⟨(w.ob a h).1, fun z => (w2.own a z).2 h⟩⟩
theorem esz_asg {te : TE} {tg : Tg} {d : Dt} (h : EvZ M K CA E te e (.ok d) e1) (ha : asgZ e1 d tg = some e2) : EvSZ M K CA E (tAsg te (denG K tg)) e (.nx e2) := fun O F H σ π D w k =>
  h O F H σ π _ w fun π1 v F1 H1 g1 s1 w1 hv => by
    unfold asgZ at ha
    split at ha
    · rename_i v2 h2
      cases ha
      exact g_sound (M := M) (K := K) (π := π1) h2 (fun a => O a ∧ ¬ InA π1 a) F1 H1 σ v _ w1.pure hv fun σ' w2 => k π1 σ' F1 H1 g1 s1 (w1.slots w2)
    · cases ha
theorem esz_own {te : TE} {i : Nat} {ds : List Dt} {v : Vs} (h : ∀ π, EvO te (ofE M K π e.v) (owL (isXs K π ds)) (ofE M K π v)) : EvSZ M K CA E (tAsg te (gName i)) e (.nx ⟨v.set i (.own false ds), e.s⟩) := fun O F H σ π D w k =>
  h π (fun a => O a ∧ ¬ InA π a) F H σ _ w.pure fun p o F2 H2 s w2 hO hf hh ht hn => k π _ F2 H2 (Grow.refl π H) s.weak (Wz.slots (e := ⟨v, e.s⟩) (w.back s w2) (by
    rw [ofE_set]
    exact w2.setOwn hf hh (u := owQ (pinOf π false) (isXs K π ds)) ⟨(fun _ z => nomatch z), ht⟩ hO hn))
theorem esz_ret {te : TE} {d : Dt} (h : EvZ M K CA E te e (.ok d) e1) : EvSZ M K CA E (tRet te) e (.rt d e1) := fun O F H σ π D w k => h O F H σ π _ w fun π1 v F1 H1 g1 s1 w1 hv => k π1 σ v F1 H1 g1 s1 w1 hv
theorem esz_ret_exc {te : TE} {C : Value} (h : EvZ M K CA E te e (.exc C) e1) : EvSZ M K CA E (tRet te) e (.exc C e1) := fun O F H σ π D w k => h O F H σ π _ w k
theorem esz_asg_exc {te : TE} {G : TG} {C : Value} (h : EvZ M K CA E te e (.exc C) e1) : EvSZ M K CA E (tAsg te G) e (.exc C e1) := fun O F H σ π D w k => h O F H σ π _ w k
theorem esz_drop {te : TE} {d : Dt} (h : EvZ M K CA E te e (.ok d) e1) : EvSZ M K CA E (tDrop te) e (.nx e1) := fun O F H σ π D w k => h O F H σ π _ w fun π1 v F1 H1 g1 s1 w1 _ => k π1 σ F1 H1 g1 s1 w1
theorem esz_drop_exc {te : TE} {C : Value} (h : EvZ M K CA E te e (.exc C) e1) : EvSZ M K CA E (tDrop te) e (.exc C e1) := fun O F H σ π D w k => h O F H σ π _ w k
theorem esz_app {te : TE} {i : Nat} {d : Dt} {q0 q1 : Bool} {ds0 ds : List Dt} (h0 : e.v[i]? = some (.own q0 ds0)) (h : EvZ M K CA E te e (.ok d) e1) (h1 : e1.v[i]? = some (.own q1 ds)) (hl : ds.length < 1000000) :
    EvSZ M K CA E (tDrop (tBM K "list" rAppend (tVar i) (tCons te tNil))) e (.nx ⟨e1.v.set i (.own q1 (ds ++ [d])), e1.s⟩) := fun O F H σ π D w k => by
  obtain ⟨q, xs, a1, a2, a3, a4, a0⟩ := own_of w.w h0
  refine ⟨.ref q, a1, .inl ⟨rfl, xs, Or.inl (Or.inl a3)⟩, ?_⟩
  refine h O F H σ π _ w fun π1 v F1 H1 g1 s1 w1 hv => ?_
  obtain ⟨q', xs', b1, b2, b3, b4, b0⟩ := own_of w1.w h1
  rw [a1] at b1
  injection b1 with b1; injection b1 with b1; injection b1 with b1
  subst b1
  refine ⟨q, xs', v, rfl, rfl, b3, ?_, ?_⟩
  · rw [b4.length, isXs_length]; exact Nat.lt_of_lt_of_le hl (by decide)
  · obtain ⟨w3, s3⟩ := w1.owned (ds' := ds ++ [d]) (xs' := xs' ++ [v]) h1 a1 b2 b3 (tys_x b4 hv) b0
    exact k π1 σ _ _ g1 (s1.trans s3) w3
theorem esz_ins {ta te : TE} {i : Nat} {k : Int} {d : Dt} {q0 q1 : Bool} {ds0 ds : List Dt} (h0 : e.v[i]? = some (.own q0 ds0)) (ha : EvZ M K CA E ta e (.ok (.int k)) e1) (h : EvZ M K CA E te e1 (.ok d) e2) (h1 : e2.v[i]? = some (.own q1 ds)) (hl : ds.length < 1000000 ∧ 0 ≤ k ∧ k < 1000000) :
    EvSZ M K CA E (tDrop (tBM K "list" rIns (tVar i) (tCons ta (tCons te tNil)))) e (.nx ⟨e2.v.set i (.own q1 (ds.take k.toNat ++ [d] ++ ds.drop k.toNat)), e2.s⟩) := fun O F H σ π D w kk => by
  obtain ⟨q, xs, a1, a2, a3, a4, a0⟩ := own_of w.w h0
  refine ⟨.ref q, a1, .inl ⟨rfl, xs, Or.inl (Or.inl a3)⟩, ?_⟩
  refine ha O F H σ π _ w fun π1 u F1 H1 g1 s1 w1 hu => ?_
  refine h O F1 H1 σ π1 _ w1 fun π2 v F2 H2 g2 s2 w2 hv => ?_
  rw [isX] at hu
  cases (show Dp K F1 u (.int k) from hu)
  obtain ⟨q', xs', b1, b2, b3, b4, b0⟩ := own_of w2.w h1
  rw [a1] at b1
  injection b1 with b1; injection b1 with b1; injection b1 with b1
  subst b1
  refine ⟨q, xs', k, v, rfl, rfl, b3, ?_, hl.2.1, by omega, ?_⟩
  · rw [b4.length, isXs_length]; exact Nat.lt_of_lt_of_le hl.1 (by decide)
  · have t2 : Tys F2 (xs'.take k.toNat ++ [v] ++ xs'.drop k.toNat) (isXs (M := M) K π2 (ds.take k.toNat ++ [d] ++ ds.drop k.toNat)) := by
      rw [isXs_map, List.map_append, List.map_append, List.map_take, List.map_drop, ← isXs_map]
      exact tys_app (tys_app (tys_take _ b4) (.cons hv .nil)) (tys_drop _ b4)
    obtain ⟨w3, s3⟩ := w2.owned h1 a1 b2 b3 t2 b0
    exact kk π2 σ _ _ (g1.trans g2 s1.dom) ((s1.trans s2).trans s3) w3
theorem esz_setO {te ti : TE} {i j : Nat} {kk : Int} {d : Dt} {q0 q1 : Bool} {ds0 ds : List Dt} {v2 : Vs} (ha : EvZ M K CA E te e (.ok d) e1) (hi : ∀ π, Ev E ti (ofE M K π e1.v) (.val (isX K π (.int kk))) (ofE M K π v2)) (h0 : e1.v[i]? = some (.own q0 ds0)) (h1 : v2[i]? = some (.own q1 ds)) (hj : ixN ds.length kk = some j) :
    EvSZ M K CA E (tAsg te (gSub (tVar i) ti rSetL)) e (.nx ⟨v2.set i (.own q1 (ds.set j d)), e1.s⟩) := fun O F H σ π D w k => by
  refine ha O F H σ π _ w fun π1 v F1 H1 g1 s1 w1 hv => ?_
  obtain ⟨q, xs, a1, a2, a3, a4, a0⟩ := own_of w1.w h0
  refine ⟨.ref q, a1, ?_⟩
  refine hi π1 (fun a => O a ∧ ¬ InA π1 a) F1 H1 σ _ w1.pure fun u F2 H2 s2 w2 hu => ?_
  rw [isX] at hu
  cases (show Dp K F2 u (.int kk) from hu)
  have w2z := w1.back s2 w2
  obtain ⟨q', xs', b1, b2, b3, b4, b0⟩ := own_of w2z.w h1
  rw [a1] at b1
  injection b1 with b1; injection b1 with b1; injection b1 with b1
  subst b1
  refine ⟨q, xs', kk, j, rfl, rfl, b3, by rw [b4.length, isXs_length]; exact hj, ?_⟩
  have t2 : Tys F2 (xs'.set j v) (isXs (M := M) K π1 (ds.set j d)) := by
    rw [isXs_map, List.map_set, ← isXs_map]
    exact tys_set (Ty.mono _ s2.gw hv) j b4
  obtain ⟨w3, s3⟩ := w2z.owned (ds' := ds.set j d) (xs' := xs'.set j v) h1 a1 b2 b3 t2 b0
  exact k π1 σ _ _ g1 ((s1.trans s2.weak).trans s3) w3
theorem fs_put {F : Hp} {f : Str} {d : Dt} {y : V} (hy : (isX (M := M) K π d).φ y F) : ∀ {fs : List (Str × V)} {gs : List (Str × Dt)}, FsOk M K π F fs gs → FsOk M K π F (putF f y fs) (putD f d gs)
  | _, _, .nil => .cons ⟨rfl, hy⟩ .nil
  | (n, v) :: fs, (n', d') :: gs, .cons a t => by
    have e : n = n' := a.1
    subst e
    unfold putF putD
    split
    · rename_i h
      exact .cons ⟨h, hy⟩ t
    · exact .cons a (fs_put hy t)
/-- an object is written -/
theorem Wz.wrote (w2 : Wz M K CA O F H σ π e) {i : Nat} {a dx : Addr} {c c' : Cell} {o : HO} (h1 : π.A[i]? = some (a, dx)) (hc : e.s[i]? = some c) (new : CellOk M K CA π F (upd H a o) a dx c') :
    Wz M K CA O F (upd H a o) σ π ⟨e.v, e.s.set i c'⟩ ∧ StepX M O F H F (upd H a o) := by
  have ina : InA π a := ⟨(a, dx), List.mem_of_getElem? h1, .inl rfl⟩
  have c0 := w2.st.at_ i (a, dx) c h1 hc
  have fa := c0.fa
  have own_ : ∀ p, OwnAt σ (ofE M K π e.v) p → p ≠ a := fun p hp z => (w2.ob a ina).2 (z ▸ hp)
  have st : StepX M O F H F (upd H a o) := ⟨Gw.refl F, fun b hb => by
    by_cases q : b = a
    · rw [q, upd_same] at hb; cases hb
    · rw [upd_ne q] at hb; exact hb, fun b o n h5 h6 => ⟨h5, by
      have nb : b ≠ a := fun z => n (z ▸ (w2.ob a ina).1)
      rw [upd_ne nb]; exact h6⟩⟩
  -- what stands at a is no dict of an instance
  have nOwn : ∀ x, H a ≠ some (.own x) := fun x z => by
    rcases c0.ob with ⟨_, _, fs, q1, _⟩ | ⟨_, _, _, _, q1, _⟩
    · have q1 : H a = _ := q1
      rw [z] at q1; cases q1
    · have q1 : H a = _ := q1
      rw [z] at q1; cases q1
  refine ⟨⟨⟨fun b u hb => ?_, ⟨w2.w.sl.len, fun j s hs => ?_, w2.w.sl.one⟩, w2.w.own, fun p hp => w2.w.fresh p (st.dom p hp)⟩, ⟨by rw [List.length_set]; exact w2.st.len, fun j q c' hj hc' => ?_, w2.st.inj⟩, w2.ob⟩, st⟩
  · rw [upd_ne (fun z => by rw [z, fa] at hb; cases hb)]
    exact w2.w.sub b u hb
  · obtain ⟨z, e1, e2⟩ := w2.w.sl.at_ j s hs
    refine ⟨z, e1, ?_⟩
    cases s with
    | any => trivial
    | ty τ => exact e2
    | own u =>
      obtain ⟨p, o, a1, a2, a3, a4⟩ := e2
      subst a1
      exact ⟨p, o, rfl, a2, by rw [upd_ne (own_ p ⟨j, u, hs, e1⟩)]; exact a3, a4⟩
  · rw [List.getElem?_set] at hc'
    by_cases hij : i = j
    · subst hij
      rw [h1] at hj
      cases hj
      rw [if_pos rfl] at hc'
      split at hc'
      · cases hc'
        exact new
      · cases hc'
    · rw [if_neg hij] at hc'
      have c1 := w2.st.at_ j q c' hj hc'
      have n1 : q.1 ≠ a := fun z => hij (w2.st.inj i j (a, dx) q h1 hj z.symm)
      refine ⟨c1.fa, c1.fd, ?_⟩
      rcases c1.ob with ⟨k0, k1, fs, k2, k3⟩ | ⟨k0, ks, kvs, k1, k2, k3⟩
      · have n2 : q.2 ≠ a := fun z => by
          rw [z] at k1
          exact nOwn _ k1
        exact .inl ⟨k0, by rw [upd_ne n2]; exact k1, fs, by rw [upd_ne n1]; exact k2, k3⟩
      · exact .inr ⟨k0, ks, kvs, k1, by rw [upd_ne n1]; exact k2, k3⟩
/-- o.f = e -/
theorem esz_setF {te to : TE} {f : Str} {d : Dt} {i : Nat} {c : Cell} (hv : EvZ M K CA E te e (.ok d) e1) (ho : EvZ M K CA E to e1 (.ok (.obj i)) e2) (hc : e2.s[i]? = some c) (hk : c.ks = none) (cl : Cls K (CA c.cls)) (hn : NoAttr K (CA c.cls) f) (hl : c.fs.length < 1000) :
    EvSZ M K CA E (sFld K to te f) e (.nx ⟨e2.v, e2.s.set i ⟨c.cls, putD f d c.fs, none⟩⟩) := fun O F H σ π D w k =>
  hv O F H σ π _ w fun π1 y F1 H1 g1 s1 w1 hy => ho O F1 H1 σ π1 _ w1 fun π2 x F2 H2 g2 s2 w2 hx => by
    obtain ⟨a, dx, fs, h1, h2, h3, h4⟩ := w2.obj hc hk hx
    have hlen : fs.length = c.fs.length := Paired.length h4
    refine ⟨a, _, dx, fs, h2, h3, cl, hn, by rw [hlen]; exact hl, ?_⟩
    have hy2 := X_grow (M := M) (K := K) g2.le _ _ _ (Ty.mono _ s2.gw hy)
    have c0 := w2.st.at_ i (a, dx) c h1 hc
    have hd : H2 dx = some (.own a) := by
      rcases c0.ob with ⟨_, q1, _⟩ | ⟨_, ks, kvs, q0, _⟩
      · exact q1
      · rw [hk] at q0; cases q0
    have ne : dx ≠ a := fun z => by
      rw [z, h3] at hd
      cases hd
    obtain ⟨w3, s3⟩ := w2.wrote (o := .ins (CA c.cls) dx (putF f y fs)) (c' := ⟨c.cls, putD f d c.fs, none⟩) h1 hc ⟨c0.fa, c0.fd, .inl ⟨rfl, by rw [upd_ne ne]; exact hd, _, upd_same, fs_put hy2 h4⟩⟩
    exact k π2 σ F2 _ (g1.trans g2 s1.dom) ((s1.trans s2).trans s3) w3
/-- d[k] = True -/
theorem esz_dput {td tk : TE} {i : Nat} {cl : Str} {fs : List (Str × Dt)} {ks : List (List Int)} {x : Dt} {key : List Int} (hd : EvZ M K CA E td e (.ok (.obj i)) e1) (hk : EvZ M K CA E tk e1 (.ok x) e2) (hc : e2.s[i]? = some ⟨cl, fs, some ks⟩) (h0 : keyOf x = some key) (hl : ks.length < 1000000) :
    EvSZ M K CA E (sDPut td tk (tC (.bl true))) e (.nx ⟨e2.v, e2.s.set i ⟨cl, fs, some (addK ks key)⟩⟩) := fun O F H σ π D w k =>
  hd O F H σ π _ w fun π1 u F1 H1 g1 s1 w1 hu => hk O F1 H1 σ π1 _ w1 fun π2 y F2 H2 g2 s2 w2 hy => by
    obtain ⟨a, kvs, h1, h2, h3, h4⟩ := w2.dic hc rfl (X_grow g2.le _ _ _ (Ty.mono _ s2.gw hu))
    obtain ⟨b, ey, hb⟩ := key_at w2.w.sub h0 hy
    have hlen : kvs.length = ks.length := by
      have := congrArg List.length h4
      rw [List.length_map, List.length_map] at this
      exact this
    have c0 := w2.st.at_ i (a, a) _ h1 hc
    obtain ⟨w3, s3⟩ := w2.wrote (o := .dT (putK kvs (key.map Sum.inl) (.bl true))) (c' := ⟨cl, fs, some (addK ks key)⟩) h1 hc ⟨c0.fa, c0.fd, .inr ⟨rfl, _, _, rfl, upd_same, put_keys h4⟩⟩
    subst ey
    exact ⟨a, _, h2, DPut.t h3 hb (by rw [hlen]; exact Nat.lt_of_lt_of_le hl (by decide)), k π2 σ F2 _ (g1.trans g2 s1.dom) ((s1.trans s2).trans s3) w3⟩
end
end Bc

set_option maxRecDepth 100000
set_option maxHeartbeats 4000000
/-! BdP: statements over objects hold; defs and methods. -/
namespace Bc
open PySem PySem.Spec
open PyProof.Rows L2
variable {M : Hp → Hp → Prop} [g : GB M] {K : PySem.W.Frag} {CA : Str → Addr}
section
variable {O : Addr → Prop} {F H F1 H1 F2 H2 : Hp} {σ : L2.St} {π π1 π2 : Pa} {e e' e1 e2 : Zs} {E : XK} {D : Ends} {o : Outz} {t u : TS}
theorem esz_parVV {i j : Nat} {ta tb : TE} {x y : Dt} (ha : EvZ M K CA E ta e (.ok x) e1) (hb : EvZ M K CA E tb e1 (.ok y) e2) : EvSZ M K CA E (tPar i j (tCons ta (tCons tb tNil))) e (.nx ⟨(e2.v.set i (.val x)).set j (.val y), e2.s⟩) := fun O F H σ π D w k =>
  ha O F H σ π _ w fun π1 v1 F1 H1 g1 s1 w1 h1 => hb O F1 H1 σ π1 _ w1 fun π2 v2 F2 H2 g2 s2 w2 h2 =>
    ⟨v1, v2, rfl, k π2 _ F2 H2 (g1.trans g2 s1.dom) (s1.trans s2) (Wz.put (e := ⟨e2.v.set i (.val x), e2.s⟩) (w2.put (X_grow g2.le _ _ _ (Ty.mono _ s2.gw h1))) h2)⟩
/-- a new list of one's own goes into a slot -/
theorem Wz.putOwn (w : Wz M K CA O F H σ π e) {i : Nat} {ds : List Dt} {p : Addr} {vs : List V} (hO : O p ∧ ¬ InA π p) (hf : F p = none) (hh : H p = some (.lst vs)) (ht : Tys F vs (isXs (M := M) K π ds)) (hn : ∀ q, OwnAt σ (ofE M K π e.v) q → q ≠ p) :
    Wz M K CA O F H (σ.set i (some (.ref p))) π ⟨e.v.set i (.own false ds), e.s⟩ := by
  refine w.slots ?_
  rw [ofE_set]
  exact w.pure.setOwn hf hh (u := owQ (pinOf π false) (isXs K π ds)) ⟨(fun _ z => nomatch z), vs, rfl, ht⟩ hO hn
theorem esz_parVO {i j : Nat} {ta tb : TE} {x : Dt} {ds : List Dt} {v2 : Vs} (ij : i ≠ j) (ha : EvZ M K CA E ta e (.ok x) e1) (hb : ∀ π, EvO tb (ofE M K π e1.v) (owL (isXs K π ds)) (ofE M K π v2)) :
    EvSZ M K CA E (tPar i j (tCons ta (tCons tb tNil))) e (.nx ⟨(v2.set i (.val x)).set j (.own false ds), e1.s⟩) := fun O F H σ π D w k =>
  ha O F H σ π _ w fun π1 v1 F1 H1 g1 s1 w1 h1 => hb π1 (fun a => O a ∧ ¬ InA π1 a) F1 H1 σ _ w1.pure fun p oo F2 H2 s2 w2 hO hf hh ⟨vs, he, ht⟩ hn => by
    subst he
    have wz := w1.back s2 w2
    have wp := Wz.put (i := i) wz (Ty.mono _ s2.gw h1)
    refine ⟨v1, .ref p, rfl, k π1 _ F2 H2 g1 (s1.trans s2.weak) (Wz.putOwn (e := ⟨v2.set i (.val x), e1.s⟩) wp hO hf hh ht fun q hq => hn q ?_)⟩
    have hq : OwnAt (σ.set i (some v1)) (ofE M K π1 (v2.set i (.val x))) q := hq
    rw [ofE_set] at hq
    exact set_own (s := .ty (isX K π1 x)) (fun _ z => nomatch z) hq
theorem esz_parOO {i j : Nat} {ta tb : TE} {as ds : List Dt} {v1 v2 : Vs} (ij : i ≠ j) (ha : ∀ π, EvO ta (ofE M K π e.v) (owL (isXs K π as)) (ofE M K π v1)) (hb : ∀ π, EvO tb (ofE M K π v1) (owL (isXs K π ds)) (ofE M K π v2)) :
    EvSZ M K CA E (tPar i j (tCons ta (tCons tb tNil))) e (.nx ⟨(v2.set i (.own false as)).set j (.own false ds), e.s⟩) := fun O F H σ π D w k =>
  ha π (fun a => O a ∧ ¬ InA π a) F H σ _ w.pure fun p1 o1 F1 H1 s1 w1 hO1 hf1 hh1 ⟨vs1, he1, ht1⟩ hn1 => by
    subst he1
    have w1' : Wd (fun a => (O a ∧ ¬ InA π a) ∧ a ≠ p1) F1 H1 σ (ofE M K π v1) := ⟨w1.sub, w1.sl, fun q hq => ⟨w1.own q hq, hn1 q hq⟩, fun q hq => ⟨w1.fresh q hq, fun z => by rw [z, hh1] at hq; cases hq⟩⟩
    refine hb π (fun a => (O a ∧ ¬ InA π a) ∧ a ≠ p1) F1 H1 σ _ w1' fun p2 o2 F2 H2 s2 w2 hO2 hf2 hh2 ⟨vs2, he2, ht2⟩ hn2 => ?_
    subst he2
    obtain ⟨k1, k2⟩ := s2.fr p1 _ (fun z => z.2 rfl) hf1 hh1
    have s2' : StepX M (fun a => O a ∧ ¬ InA π a) F1 H1 F2 H2 := ⟨s2.gw, s2.dom, fun a oo n => s2.fr a oo fun z => n z.1⟩
    have w2' : Wd (fun a => O a ∧ ¬ InA π a) F2 H2 σ (ofE M K π v2) := ⟨w2.sub, w2.sl, fun q hq => (w2.own q hq).1, fun q hq => (w2.fresh q hq).1⟩
    have wz := (w.back (s1.trans s2') w2')
    have wz1 := Wz.putOwn (i := i) wz hO1 k1 k2 (ht1.mono s2.gw) (fun q hq => (w2.own q hq).2)
    refine ⟨.ref p1, .ref p2, rfl, k π _ F2 H2 (Grow.refl π H) (s1.trans s2').weak (Wz.putOwn (e := ⟨v2.set i (.own false as), e.s⟩) wz1 hO2.1 hf2 hh2 ht2 fun q hq => ?_)⟩
    have hq : OwnAt (σ.set i (some (.ref p1))) (ofE M K π (v2.set i (.own false as))) q := hq
    obtain ⟨m, qq, ds', h1, h2⟩ := ofE_own hq
    rw [List.getElem?_set] at h1 h2
    split at h1
    · rename_i him
      subst him
      rw [if_pos rfl] at h2
      split at h2
      · injection h2 with h2; injection h2 with h2; injection h2 with h2
        rw [← h2]
        exact fun z => hO2.2 z.symm
      · cases h2
    · rename_i him
      rw [if_neg him] at h2
      exact hn2 q (ofE_ownAt h1 h2)
/-! ### loops -/
def fitZ (M : Hp → Hp → Prop) [g : GB M] (K : PySem.W.Frag) (CA : Str → Addr) (E : XK) (s : Sz M K CA) : Prop := ∀ e o, rz s e = some o → EvSZ M K CA E (denSz E s) e o
theorem whz_sound {t : Zx M K CA} {b : Sz M K CA} (hb : fitZ M K CA E b) (n : Nat) (e : Zs) (o : Outz) (h : whz (fun e => evzT e t) (rz b) n e = some o) : EvSZ M K CA E (tWhile (denz E t).t (denSz E b)) e o := fun O F H σ π D w k => by
  refine ⟨fun m σ' H' => ∃ e' π' F', whz (fun e => evzT e t) (rz b) m e' = some o ∧ Grow π π' H ∧ StepX M O F H F' H' ∧ Wz M K CA O F' H' σ' π' e', ⟨n, e, π, F, h, Grow.refl π H, .refl, w⟩, ?_⟩
  rintro m σ' H' ⟨e', π', F', hm, gr, st, w'⟩
  cases m with
  | zero => cases hm
  | succ m =>
    rw [whz] at hm
    split at hm
    · rename_i e1 h1
      refine ((sz_all t).t E _ _ _ h1) O F' H' σ' π' _ w' fun π1 F1 H1 g1 s1 w1 => ?_
      rw [if_pos rfl]
      have gr1 := gr.trans g1 st.dom
      have st1 := st.trans s1
      refine ⟨fun σ2 H2 => ∃ e2 π2 F2, whz (fun e => evzT e t) (rz b) m e2 = some o ∧ Grow π π2 H ∧ StepX M O F H F2 H2 ∧ Wz M K CA O F2 H2 σ2 π2 e2, fun σ2 H2 ⟨e2, π2, F2, a1, a2, a3, a4⟩ => ⟨m, Nat.lt_succ_self m, e2, π2, F2, a1, a2, a3, a4⟩, ?_⟩
      split at hm
      · rename_i e2 h2
        exact hb _ _ h2 O F1 H1 σ' π1 _ w1 fun π2 σ2 F2 H2 g2 s2 w2 => ⟨e2, π2, F2, hm, gr1.trans g2 st1.dom, st1.trans s2, w2⟩
      · rename_i e2 h2
        exact hb _ _ h2 O F1 H1 σ' π1 _ w1 fun π2 σ2 F2 H2 g2 s2 w2 => ⟨e2, π2, F2, hm, gr1.trans g2 st1.dom, st1.trans s2, w2⟩
      · rename_i e2 h2
        cases hm
        exact hb _ _ h2 O F1 H1 σ' π1 _ w1 fun π2 σ2 F2 H2 g2 s2 w2 => k π2 σ2 F2 H2 (gr1.trans g2 st1.dom) (st1.trans s2) w2
      · rename_i n1 n2 n3
        have k2 := k.step gr1 st1
        refine hb _ _ hm O F1 H1 σ' π1 _ w1 ?_
        cases o with
        | nx e => exact absurd hm (n1 e)
        | ct e => exact absurd hm (n2 e)
        | bk e => exact absurd hm (n3 e)
        | rt d e => exact k2
        | exc C e => exact k2
    · rename_i e1 h1
      cases hm
      refine ((sz_all t).t E _ _ _ h1) O F' H' σ' π' _ w' fun π1 F1 H1 g1 s1 w1 => ?_
      rw [if_neg Bool.false_ne_true]
      exact k π1 σ' F1 H1 (gr.trans g1 st.dom) (st.trans s1) w1
    · cases hm
theorem forz_sound {tg : Tg} {b : Sz M K CA} (hb : fitZ M K CA E b) {wi : TI} {ds : List Dt} {o : Outz} (hi : EvZI M K CA wi e ds e1) (h : forz tg (rz b) ds e1 = some o) : EvSZ M K CA E (tFor wi (denG K tg) (denSz E b)) e o := fun O F H σ π0 D w k =>
  hi O F H σ π0 _ w fun J π F1 H1 g1 s1 w1 wk => by
    have dr : ∀ i, i < ds.length → ds.drop i = ds.getD i .none :: ds.drop (i + 1) := fun i hi => by
      rw [List.drop_eq_getElem_cons hi, List.getD_eq_getElem?_getD, List.getElem?_eq_getElem hi]
      rfl
    have k1 := k.step g1 s1
    refine ⟨fun i m σ' H' => m = ds.length - i ∧ i ≤ ds.length ∧ ∃ e' π' F', forz tg (rz b) (ds.drop i) e' = some o ∧ Grow π π' H1 ∧ StepX M O F1 H1 F' H' ∧ Wz M K CA O F' H' σ' π' e', ⟨ds.length, by simp, Nat.zero_le _, e1, π, F1, h, Grow.refl π H1, .refl, w1⟩, ?_⟩
    rintro i m σ' H' ⟨rfl, hin, e', π', F', hm, gr, st, w'⟩
    by_cases hlt : i < ds.length
    · refine .inr ⟨wk.go i F' H' st.gw w'.w.sub hlt, fun σ2 H2 => ∃ e2 π2 F2, forz tg (rz b) (ds.drop (i + 1)) e2 = some o ∧ Grow π π2 H1 ∧ StepX M O F1 H1 F2 H2 ∧ Wz M K CA O F2 H2 σ2 π2 e2, fun σ2 H2 ⟨e2, π2, F2, a1, a2, a3, a4⟩ => ⟨ds.length - (i + 1), by omega, rfl, hlt, e2, π2, F2, a1, a2, a3, a4⟩, fun x H2 y => ?_⟩
      obtain ⟨F2, st2, hx⟩ := wk.yld i F' H' x H2 st.gw w'.w.sub hlt y
      rw [nth_X _ _ hlt] at hx
      have hx2 := X_grow (M := M) (K := K) gr.le _ _ _ hx
      have w3 := w'.step st2
      have s3 := st.trans st2.x
      rw [dr i hlt, forz] at hm
      split at hm
      · rename_i e3 ha
        unfold asgZ at ha
        split at ha
        · rename_i v2 h2
          cases ha
          refine g_sound (M := M) (K := K) (π := π') h2 (fun a => O a ∧ ¬ InA π' a) F2 H2 σ' x _ w3.pure hx2 fun σ3 w4 => ?_
          have w5 := w3.slots w4
          split at hm
          · rename_i e4 h4
            exact hb _ _ h4 O F2 H2 σ3 π' _ w5 fun π5 σ5 F5 H5 g5 s5 w6 => ⟨e4, π5, F5, hm, gr.trans g5 s3.dom, s3.trans s5, w6⟩
          · rename_i e4 h4
            exact hb _ _ h4 O F2 H2 σ3 π' _ w5 fun π5 σ5 F5 H5 g5 s5 w6 => ⟨e4, π5, F5, hm, gr.trans g5 s3.dom, s3.trans s5, w6⟩
          · rename_i e4 h4
            cases hm
            exact hb _ _ h4 O F2 H2 σ3 π' _ w5 fun π5 σ5 F5 H5 g5 s5 w6 => k1 π5 σ5 F5 H5 (gr.trans g5 s3.dom) (s3.trans s5) w6
          · rename_i n1 n2 n3
            have k2 := k1.step gr s3
            refine hb _ _ hm O F2 H2 σ3 π' _ w5 ?_
            cases o with
            | nx e => exact absurd hm (n1 e)
            | ct e => exact absurd hm (n2 e)
            | bk e => exact absurd hm (n3 e)
            | rt d e => exact k2
            | exc C e => exact k2
        · cases ha
      · cases hm
    · have e : i = ds.length := by omega
      subst e
      rw [List.drop_eq_nil_of_le (Nat.le_refl _), forz] at hm
      cases hm
      exact .inl ⟨wk.stop F' H' st.gw w'.w.sub, k1 π' σ' F' H' gr st w'⟩
theorem fitz_all (s : Sz M K CA) : fitZ M K CA E s := by
  induction s with
  | nx => intro e o h; rw [rz] at h; cases h; exact fun O F H σ π D w k => k π σ F H (Grow.refl π H) .refl w
  | seq s t hs ht =>
    intro e o h
    rw [rz] at h
    split at h
    · rename_i e1 h1
      exact esz_seq1 (hs _ _ h1) (ht _ _ h)
    · rename_i n1
      exact esz_seq2 (hs _ _ h) fun e1 z => n1 e1 (by rw [h, z])
  | ret x =>
    intro e o h
    rw [rz] at h
    split at h
    · rename_i d e1 h1; cases h; exact esz_ret ((sz_all x).e E _ _ _ h1)
    · rename_i C e1 h1; cases h; exact esz_ret_exc ((sz_all x).e E _ _ _ h1)
    · cases h
  | retN => intro e o h; rw [rz] at h; cases h; exact fun O F H σ π D w k => k π σ .non F H (Grow.refl π H) .refl w (by rw [isX]; exact Dp.non)
  | asg tg x =>
    intro e o h
    rw [rz] at h
    split at h
    · rename_i d e1 h1
      split at h
      · rename_i e2 h2; cases h; exact esz_asg ((sz_all x).e E _ _ _ h1) h2
      · cases h
    · rename_i C e1 h1; cases h; exact esz_asg_exc ((sz_all x).e E _ _ _ h1)
    · cases h
  | own i x =>
    intro e o h
    rw [rz] at h
    split at h
    · rename_i hf
      split at h
      · rename_i ds v h1; cases h; exact esz_own fun π => (snd_all x).o E _ _ _ hf h1
      · cases h
    · cases h
  | par i j a b =>
    intro e o h
    rw [rz] at h
    split at h
    · rename_i x e1 h1
      split at h
      · rename_i y e2 h2
        split at h
        · cases h
        · rename_i nn
          split at h
          · cases h
          · rename_i ij
            cases h
            cases a with
            | v xa =>
              simp only [evAg] at h1
              split at h1
              · rename_i d ee1 hh1
                cases h1
                cases b with
                | v xb =>
                  simp only [evAg] at h2
                  split at h2
                  · rename_i d2 ee2 hh2
                    cases h2
                    exact esz_parVV ((sz_all xa).e E _ _ _ hh1) ((sz_all xb).e E _ _ _ hh2)
                  · cases h2
                | o xb =>
                  simp only [evAg] at h2
                  split at h2
                  · rename_i hf
                    split at h2
                    · rename_i ds v hh2
                      cases h2
                      have z := esz_parVO (M := M) (i := i) (j := j) (tb := (den E xb).e) ij ((sz_all xa).e E _ _ _ hh1) (fun π => (snd_all (π := π) xb).o E _ _ _ hf hh2)
                      exact z
                    · cases h2
                  · cases h2
              · cases h1
            | o xa =>
              simp only [evAg] at h1
              split at h1
              · rename_i hf1
                split at h1
                · rename_i as v hh1
                  cases h1
                  cases b with
                  | v xb => exact absurd rfl (nn _ _ xb rfl)
                  | o xb =>
                    simp only [evAg] at h2
                    split at h2
                    · rename_i hf
                      split at h2
                      · rename_i ds v2 hh2
                        cases h2
                        exact esz_parOO ij (fun π => (snd_all xa).o E _ _ _ hf1 hh1) fun π => (snd_all xb).o E _ _ _ hf hh2
                      · cases h2
                    · cases h2
                · cases h1
              · cases h1
      · cases h
    · cases h
  | drop x =>
    intro e o h
    rw [rz] at h
    split at h
    · rename_i d e1 h1; cases h; exact esz_drop ((sz_all x).e E _ _ _ h1)
    · rename_i C e1 h1; cases h; exact esz_drop_exc ((sz_all x).e E _ _ _ h1)
    · cases h
  | app i x =>
    intro e o h
    rw [rz] at h
    split at h
    · rename_i d e1 h1
      split at h
      · rename_i q0 ds0 q1 ds h2 h3
        split at h
        · rename_i hl; cases h; exact esz_app h2 ((sz_all x).e E _ _ _ h1) h3 hl
        · cases h
      · cases h
    · cases h
  | pop i =>
    intro e o h
    rw [rz] at h
    split at h
    · rename_i q ds h1
      split at h
      · rename_i d h2; cases h; exact esz_drop (ez_popX h1 h2)
      · cases h
    · cases h
  | ins i a x =>
    intro e o h
    rw [rz] at h
    split at h
    · rename_i k e1 h1
      split at h
      · rename_i d e2 h2
        split at h
        · rename_i q0 ds0 q1 ds h3 h4
          split at h
          · rename_i hl; cases h; exact esz_ins h3 ((sz_all a).e E _ _ _ h1) ((sz_all x).e E _ _ _ h2) h4 hl
          · cases h
        · cases h
      · cases h
    · cases h
  | setO i ix x =>
    intro e o h
    rw [rz] at h
    split at h
    · rename_i d e1 h1
      split at h
      · rename_i kk v2 h2
        split at h
        · rename_i q0 ds0 q1 ds h3 h4
          split at h
          · rename_i j hj; cases h; exact esz_setO ((sz_all x).e E _ _ _ h1) (fun π => (snd_all ix).e E _ _ _ h2) h3 h4 hj
          · cases h
        · cases h
      · cases h
    · cases h
  | setF cls f hc hn oo x =>
    intro e o h
    rw [rz] at h
    split at h
    · rename_i d e1 h1
      split at h
      · rename_i i e2 h2
        split at h
        · rename_i c h3
          split at h
          · rename_i hcl
            cases h
            obtain ⟨⟨c1, c0⟩, c2⟩ := hcl
            subst c1
            exact esz_setF ((sz_all x).e E _ _ _ h1) ((sz_all oo).e E _ _ _ h2) h3 c0 hc hn c2
          · cases h
        · cases h
      · cases h
    · cases h
  | ife t a b ha hb =>
    intro e o h
    rw [rz] at h
    split at h
    · rename_i e1 h1; exact esz_if ((sz_all t).t E _ _ _ h1) (fun _ => ha _ _ h) (fun z => nomatch z)
    · rename_i e1 h1; exact esz_if ((sz_all t).t E _ _ _ h1) (fun z => nomatch z) (fun _ => hb _ _ h)
    · cases h
  | wh n t b hb => intro e o h; rw [rz] at h; exact whz_sound hb n e o h
  | fr it tg b hb =>
    intro e o h
    rw [rz] at h
    split at h
    · rename_i ds e1 h1; exact forz_sound hb ((sz_all it).i E _ _ _ h1) h
    · cases h
  | brk => intro e o h; rw [rz] at h; cases h; exact fun O F H σ π D w k => k π σ F H (Grow.refl π H) .refl w
  | cnt => intro e o h; rw [rz] at h; cases h; exact fun O F H σ π D w k => k π σ F H (Grow.refl π H) .refl w
  | dput d k =>
    intro e o h
    rw [rz] at h
    split at h
    · rename_i i e1 h1
      split at h
      · rename_i x e2 h2
        split at h
        · rename_i cl fs ks key h3 h4
          split at h
          · rename_i hl
            cases h
            exact esz_dput ((sz_all d).e E _ _ _ h1) ((sz_all k).e E _ _ _ h2) h3 h4 hl
          · cases h
        · cases h
      · cases h
    · cases h
  | rais C => intro e o h; rw [rz] at h; cases h; exact fun O F H σ π D w k => k π F H (Grow.refl π H) .refl w.w.sub w.st
  | bad => intro e o h; rw [rz] at h; cases h
end
end Bc

set_option maxRecDepth 100000
set_option maxHeartbeats 4000000
/-! BdQ: defs and methods that see the store. -/
namespace Bc
open PySem PySem.Spec
open PyProof.Rows L2
variable {M : Hp → Hp → Prop} [g : GB M] {K : PySem.W.Frag} {CA : Str → Addr}
def retz : Option Outz → Option (Rd × List Cell)
  | some (.rt d e) => some (.ok d, e.s)
  | some (.nx e) => some (.ok .none, e.s)
  | some (.exc C e) => some (.exc C, e.s)
  | _ => none
def sZ {M : Hp → Hp → Prop} {K : PySem.W.Frag} {CA : Str → Addr} (L : Sz M K CA) (n a : Nat) : Zf := fun S as => if as.length = a then retz (rz L ⟨env0 n as, S⟩) else none
theorem no_env0 (n : Nat) (as : List Dt) : NoOwn (env0 n as) := fun i q ds h => by
  unfold env0 at h
  rw [List.getElem?_append] at h
  split at h
  · rw [List.getElem?_map] at h
    cases z : as[i]? with
    | none => rw [z] at h; cases h
    | some d => rw [z] at h; cases h
  · rw [List.getElem?_replicate] at h
    split at h <;> cases h
theorem wz_start {F H : Hp} {N : List Str} {vs : List V} {as : List Dt} {π : Pa} {S : List Cell} (s : Sub F H) (st : StOk M K CA π S F H) (h : Tys F vs (isXs (M := M) K π as)) :
    Wz M K CA (fun a => H a = none ∨ InA π a) F H (L2.start N vs) π ⟨env0 N.length as, S⟩ := by
  have z := wd_start (N := N) s h
  rw [← ofE_env0 (π := π)] at z
  have no : ∀ p, ¬ OwnAt (L2.start N vs) (ofE M K π (env0 N.length as)) p := fun p q => by
    obtain ⟨i, q', ds, h1, _⟩ := ofE_own q
    exact no_env0 _ _ i q' ds h1
  exact ⟨⟨z.sub, z.sl, fun p q => absurd q (no p), fun p q => .inl q⟩, st, fun a q => ⟨.inr q, no a⟩⟩
section
variable {P : Program} {w : World} {mg : Str → Option Value} {base : Heap}
theorem okZ_run {x qual : Str} {params : Arguments} {body : List Stmt} {scope : Scope} {fa : Addr} {fd : FuncData} {N ps : List Str} {k : Nat} {L : List Cell → List Dt → Sz M K CA} (Fd : FunD K x qual params body scope [] [] fa fd) (Sc : FnScope N ps scope)
    (hb : ∀ (cdv : Value) (A : Around) (outer : List Env) (s' : Shared) (H : Hp) (E : XK), Room k (A.deeper (envOfC qual scope s'.heap.objs.size fa cdv)) → ∀ S as,
      PSs (ctx P w K mg base N qual scope fa cdv A outer s' H E) body (denSz E (L S as))) : FnOk P w K mg base (L2.CX P w) (k + 1) fa fd ps (spZ M K CA fun S as => sZ (L S as) N.length ps.length S as) := by
  refine Fd.ok (CX := L2.CX P w) Sc (fun vs H Q E h => ?_) (fun cdv A outer s H vs Q E hr h => ?_)
  · obtain ⟨π, S, as, rd, S', F, hs, _, _, hv, _⟩ := h
    rw [hv.length, isXs_length]
    have hs : sZ (L S as) N.length ps.length S as = some (rd, S') := hs
    unfold sZ at hs
    split at hs
    · assumption
    · cases hs
  · obtain ⟨π, S, as, rd, S', F, hs, sub, st, hv, q⟩ := h
    refine ⟨_, hb cdv A outer s H E hr S as, ?_⟩
    have hs : sZ (L S as) N.length ps.length S as = some (rd, S') := hs
    unfold sZ at hs
    split at hs
    · cases ho : rz (L S as) ⟨env0 N.length as, S⟩ with
      | none => rw [ho] at hs; cases hs
      | some o =>
        rw [ho] at hs
        have sz : ∀ {F2 H2 : Hp}, Sub F2 H2 → StepX M (fun a => H a = none ∨ InA π a) F H F2 H2 → StepZ M π F H F2 H2 := fun sb s => ⟨sb, s.gw, s.dom, fun a o n h1 h2 => s.fr a o (fun z => z.elim (fun z => by rw [h2] at z; cases z) n) h1 h2⟩
        refine fitz_all (L S as) _ _ ho (fun a => H a = none ∨ InA π a) F H _ π _ (wz_start sub st hv) ?_
        cases o with
        | nx e => cases hs; exact fun π' σ F2 H2 gr s2 w2 => q π' .non F2 H2 gr (sz w2.w.sub s2) w2.st (by rw [isX]; exact Dp.non)
        | rt d e => cases hs; exact fun π' σ v F2 H2 gr s2 w2 hv => q π' v F2 H2 gr (sz w2.w.sub s2) w2.st hv
        | bk e => cases hs
        | ct e => cases hs
        | exc C e => cases hs; exact fun π' F2 H2 gr s2 sb st => q π' F2 H2 gr (sz sb s2) st
    · cases hs
theorem DefAt.okZ {x : Str} {st : Stmt} {N ps : List Str} {k : Nat} {L : List Cell → List Dt → Sz M K CA} (D : DefAt K mg x st) (Sc : FnScope N ps (defScope st)) (hB : BindOk x st ps)
    (hb : ∀ S as, ∀ (f : Addr) (cdv : Value) (A : Around) (outer : List Env) (s' : Shared) (H : Hp) (E : XK), Room k (A.deeper (envOfC x (defScope st) s'.heap.objs.size f cdv)) →
      PSs (ctx P w K mg base N x (defScope st) f cdv A outer s' H E) (defBody st) (denSz E (L S as))) : DefOk P w K mg base (k + 1) x ps (spZ M K CA fun S as => sZ (L S as) N.length ps.length S as) := by
  obtain ⟨f, fd, Fd, m⟩ := D.ex
  exact ⟨f, fd, okZ_run Fd Sc fun cdv A outer s' H E hr S as => hb S as f cdv A outer s' H E hr, m, Fd.kp, Fd.bindsN hB⟩
theorem okZ_none {x qual : Str} {params : Arguments} {body : List Stmt} {scope : Scope} {fa : Addr} {fd : FuncData} {N ps : List Str} {k : Nat} (Fd : FunD K x qual params body scope [] [] fa fd) (Sc : FnScope N ps scope) :
    FnOk P w K mg base (L2.CX P w) (k + 1) fa fd ps (spZ M K CA fun _ _ => none) :=
  Fd.ok (CX := L2.CX P w) Sc (fun vs H Q E ⟨π, S, as, rd, S', F, hs, _⟩ => nomatch hs) (fun cdv A outer s H vs Q E hr ⟨π, S, as, rd, S', F, hs, _⟩ => nomatch hs)
theorem DefAt.noneZ {x : Str} {st : Stmt} {N ps : List Str} {k : Nat} (D : DefAt K mg x st) (Sc : FnScope N ps (defScope st)) (hB : BindOk x st ps) : DefOk P w K mg base (k + 1) x ps (spZ M K CA fun _ _ => none) := by
  obtain ⟨f, fd, Fd, m⟩ := D.ex
  exact ⟨f, fd, okZ_none Fd Sc, m, Fd.kp, Fd.bindsN hB⟩
/-! ### methods -/
/-- what the head gives of a method -/
structure MethAt (K : PySem.W.Frag) (C : Addr) (cls m : Str) (st : Stmt) : Prop where
  ex : ∃ f fd, FunD K m (cls ++ "." ++ m) (defArgs st) (defBody st) (defScope st) [] [] f fd ∧ Meth K C m f
def BindOkM (x q : Str) (st : Stmt) (ps : List Str) : Prop := ∀ (kV doc pm : Value) (an : Option Addr) (cdv ct : Value) (us : List Value), us.length = ps.length → bindArgs (PySem.W.fnOf x q (defArgs st) (defBody st) (defScope st) .none kV doc pm an cdv ct) ⟨us, []⟩ = pure (ps.zip us)
structure MethOk (P : Program) (w : World) (K : PySem.W.Frag) (mg : Str → Option Value) (base : Heap) (k : Nat) (C : Addr) (m : Str) (ps : List Str) (sp : Sp) : Prop where
  ex : ∃ f fd, FnOk P w K mg base (L2.CX P w) k f fd ps sp ∧ Meth K C m f ∧ Binds K fd ps []
theorem MethAt.okZ {C : Addr} {cls m : Str} {st : Stmt} {N ps : List Str} {k : Nat} {L : List Cell → List Dt → Sz M K CA} (D : MethAt K C cls m st) (Sc : FnScope N ps (defScope st)) (hB : BindOkM m (cls ++ "." ++ m) st ps)
    (hb : ∀ S as, ∀ (f : Addr) (cdv : Value) (A : Around) (outer : List Env) (s' : Shared) (H : Hp) (E : XK), Room k (A.deeper (envOfC (cls ++ "." ++ m) (defScope st) s'.heap.objs.size f cdv)) →
      PSs (ctx P w K mg base N (cls ++ "." ++ m) (defScope st) f cdv A outer s' H E) (defBody st) (denSz E (L S as))) : MethOk P w K mg base (k + 1) C m ps (spZ M K CA fun S as => sZ (L S as) N.length ps.length S as) := by
  obtain ⟨f, fd, Fd, me⟩ := D.ex
  exact ⟨f, fd, okZ_run Fd Sc fun cdv A outer s' H E hr S as => hb S as f cdv A outer s' H E hr, me, Fd.bindsN hB⟩
/-- what the head gives of a class that is made -/
structure KlsAt (K : PySem.W.Frag) (mg : Str → Option Value) (C : Addr) (cls : Str) : Prop where
  c : Cls K C
  g : mg cls = some (.ref C)
  made : ∀ f, Meth K C "__init__" f → Mk K C f
end
section
variable {X : Cx} {k : Nat} {ps : List Str} {sp : Sp} {E : XK} {C : Addr} {x m : Str} {p apos pos : Pos} {o e : Expr} {es : List Expr} {ta : TE} {t : TA}
theorem pe_methZ {pl : Sem Bool} (D : MethOk X.prog X.w X.K X.mg X.base k C m ps sp) (c : Cls X.K C) (hr : Room k X.A) (hx : Passes (L2.CX X.prog X.w) X E) (he : PE X o ta) (ha : PA X (e :: es) t)
    (hst : starEach (e :: es) X.env = (false, eval e X.env) :: starEach es X.env := by rfl) (hpl : (backTo pos (starEach es X.env)).any (·.1) = false := by rfl)
    (ht : eval (.Call (.Attribute o m apos) (e :: es) [] pos) X.env = (do
      let ov ← eval o X.env
      standAt apos.atName
      let (f, first) ← holding [ov] (getMethod ov m pl)
      callWith pos f first (backTo pos (starEach (e :: es) X.env)) (backToKw pos (keywordEach [] X.env))) := by rfl) :
    PE X (.Call (.Attribute o m apos) (e :: es) [] pos) (tMeth C m sp [] E ta t) := by
  obtain ⟨f, fd, F, me, b⟩ := D.ex
  exact pe_meth (pl := pl) he c me F hr b .nil hx ha hst hpl ht
theorem pe_methZ0 {pl : Sem Bool} (D : MethOk X.prog X.w X.K X.mg X.base k C m ps sp) (c : Cls X.K C) (hr : Room k X.A) (hx : Passes (L2.CX X.prog X.w) X E) (he : PE X o ta)
    (ht : eval (.Call (.Attribute o m apos) [] [] pos) X.env = (do
      let ov ← eval o X.env
      standAt apos.atName
      let (f, first) ← holding [ov] (getMethod ov m pl)
      callWith pos f first (backTo pos (starEach [] X.env)) (backToKw pos (keywordEach [] X.env))) := by rfl) :
    PE X (.Call (.Attribute o m apos) [] [] pos) (tMeth C m sp [] E ta tNil) := by
  obtain ⟨f, fd, F, me, b⟩ := D.ex
  exact pe_meth0 (pl := pl) he c me F hr b .nil hx ht
theorem pe_makeZ (D : MethOk X.prog X.w X.K X.mg X.base k C "__init__" ps sp) (c : KlsAt X.K X.mg C x) (hr : Room (k + 1) X.A) (hx : Passes (L2.CX X.prog X.w) X E) (ha : PA X (e :: es) t) (hg : Gl X x := by rfl)
    (hdb : (x == ("__debug__" : Str)) = false := by decide) (he : starEach (e :: es) X.env = (false, eval e X.env) :: starEach es X.env := by rfl) (hpl : (backTo pos (starEach es X.env)).any (·.1) = false := by rfl) :
    PE X (.Call (.Name x p) (e :: es) [] pos) (tMake C sp [] E t) := by
  obtain ⟨f, fd, F, me, b⟩ := D.ex
  exact pe_make (c.made f me) F hr hg c.g b .nil hx ha hdb he hpl
end
end Bc

set_option maxRecDepth 100000
set_option maxHeartbeats 4000000
/-! BdR: a def that sees the store, called where there are no objects, is a pure def. -/
namespace Bc
open PySem PySem.Spec
open PyProof.Rows L2
mutual
/-- no object within -/
def noObj : Dt → Bool
  | .none => true
  | .bool _ => true
  | .int _ => true
  | .str _ => true
  | .list ds => noObjs ds
  | .tuple ds => noObjs ds
  | .ktup ds => noObjs ds
  | .obj _ => false
def noObjs : List Dt → Bool
  | [] => true
  | d :: ds => noObj d && noObjs ds
end
variable {M : Hp → Hp → Prop} [g : GB M] {K : PySem.W.Frag} {CA : Str → Addr}
mutual
theorem X_any {π π' : Pa} : ∀ (d : Dt) (v : V) (F : Hp), noObj d = true → (isX (M := M) K π d).φ v F → (isX (M := M) K π' d).φ v F
  | .none, _, _, _, h => by rw [isX] at h ⊢; exact h
  | .bool b, _, _, _, h => by rw [isX] at h ⊢; exact h
  | .int i, _, _, _, h => by rw [isX] at h ⊢; exact h
  | .str i, _, _, _, h => by rw [isX] at h ⊢; exact h
  | .obj i, _, _, n, _ => by simp [noObj] at n
  | .list ds, v, F, n, h => by
    rw [isX] at h ⊢
    obtain ⟨a, xs, e1, h1, t⟩ := h
    exact ⟨a, xs, e1, h1, Xs_any ds xs F (by simpa [noObj] using n) t⟩
  | .tuple ds, v, F, n, h => by
    rw [isX] at h ⊢
    obtain ⟨a, xs, e1, h1, t⟩ := h
    exact ⟨a, xs, e1, h1, Xs_any ds xs F (by simpa [noObj] using n) t⟩
  | .ktup ds, v, F, n, h => by
    rw [isX] at h ⊢
    obtain ⟨a, xs, e1, h1, t⟩ := h
    exact ⟨a, xs, e1, h1, Xs_any ds xs F (by simpa [noObj] using n) t⟩
theorem Xs_any {π π' : Pa} : ∀ (ds : List Dt) (xs : List V) (F : Hp), noObjs ds = true → Tys F xs (isXs (M := M) K π ds) → Tys F xs (isXs (M := M) K π' ds)
  | [], _, _, _, h => by rw [isXs] at h ⊢; cases h; exact .nil
  | d :: ds, _, F, n, h => by
    rw [isXs] at h ⊢
    have n2 : noObj d = true ∧ noObjs ds = true := by simpa [noObjs] using n
    cases h with
    | cons a b => exact .cons (X_any d _ F n2.1 a) (Xs_any ds _ F n2.2 b)
end
def pureR : Option (Rd × List Cell) → Option Rd
  | some (.ok d, _) => if noObj d then some (.ok d) else none
  | some (.exc C, _) => some (.exc C)
  | none => none
def pZ (s : Zf) : List Dt → Option Rd := fun as => if noObjs as then pureR (s [] as) else none
theorem pz_sp {s : Zf} {vs : List V} {H : Hp} {Q : VK} {E : XK} (h : spD M K (pZ s) vs H Q E) : spZ M K CA s vs H Q E := by
  obtain ⟨τs, r, F, ⟨π, as, rd, hs, e1, e2⟩, sub, hv, q⟩ := h
  subst e1 e2
  unfold pZ at hs
  split at hs
  · rename_i na
    have st0 : StOk M K CA ⟨0, []⟩ [] F H := ⟨rfl, fun i q c h => (by cases h), fun i j p q h => (by cases h)⟩
    have none0 : ∀ a, ¬ InA ⟨0, []⟩ a := fun a ⟨q, h, _⟩ => nomatch h
    have stp : ∀ {F2 H2 : Hp}, StepZ M ⟨0, []⟩ F H F2 H2 → Step M F H F2 H2 := fun z => ⟨z.1, z.2.gw, fun a o h1 h2 => z.2.fr a o (none0 a) h1 h2⟩
    cases z : s [] as with
    | none => rw [z] at hs; cases hs
    | some p =>
      obtain ⟨rd', S'⟩ := p
      rw [z] at hs
      refine ⟨⟨0, []⟩, [], as, rd', S', F, z, sub, st0, Xs_any as vs F na hv, ?_⟩
      cases rd' with
      | ok d =>
        unfold pureR at hs
        split at hs
        · rename_i hq
          cases hq
          split at hs
          · rename_i nd
            cases hs
            exact fun π' v F2 H2 _ st _ hx => q v F2 H2 (stp st) (X_any d v F2 nd hx)
          · cases hs
        · rename_i hq; cases hq
        · rename_i hq; cases hq
      | exc C =>
        cases hs
        exact fun π' F2 H2 _ st _ => q F2 H2 (stp st)
  · cases hs
theorem fnOk_weak {P : Program} {w : World} {mg : Str → Option Value} {base : Heap} {CX : CXT} {k : Nat} {f : Addr} {fd : FuncData} {ps : List Str} {sp sp' : Sp} (F : FnOk P w K mg base CX k f fd ps sp) (h : ∀ vs H Q E, sp' vs H Q E → sp vs H Q E) : FnOk P w K mg base CX k f fd ps sp' :=
  ⟨fun vs H Q E z => F.len vs H Q E (h vs H Q E z), fun A outer s H args us vs Q E hr e0 b v z => F.run A outer s H args us vs Q E hr e0 b v (h vs H Q E z)⟩
theorem DefOk.weak {P : Program} {w : World} {mg : Str → Option Value} {base : Heap} {k : Nat} {x : Str} {ps : List Str} {sp sp' : Sp} (D : DefOk P w K mg base k x ps sp) (h : ∀ vs H Q E, sp' vs H Q E → sp vs H Q E) : DefOk P w K mg base k x ps sp' := by
  obtain ⟨f, fd, F, m, kp, b⟩ := D.ex
  exact ⟨f, fd, fnOk_weak F h, m, kp, b⟩
theorem DefOk.pureZ {P : Program} {w : World} {mg : Str → Option Value} {base : Heap} {k : Nat} {x : Str} {ps : List Str} {s : Zf} (D : DefOk P w K mg base k x ps (spZ M K CA s)) : DefOk P w K mg base k x ps (spD M K (pZ s)) :=
  D.weak fun _ _ _ _ h => pz_sp h
end Bc

set_option maxRecDepth 100000
set_option maxHeartbeats 4000000
/-! Be1: the draws of a script: _law_cell, _law_rounds, by hand. -/
namespace Bc
open PySem PySem.Spec
open PyProof.Rows L2
section
variable {P : Program} {w : World} {K : PySem.W.Frag} {mg : Str → Option Value} {base : Heap}
/-- a def whose promise is made by hand -/
theorem DefAt.okH {x : Str} {st : Stmt} {N ps : List Str} {k : Nat} {sp : Sp} (D : DefAt K mg x st) (Sc : FnScope N ps (defScope st)) (hB : BindOk x st ps) (hl : ∀ vs H Q E, sp vs H Q E → vs.length = ps.length)
    (hb : ∀ (f : Addr) (cdv : Value) (A : Around) (outer : List Env) (s : Shared) (H : Hp) (E : XK), Room k (A.deeper (envOfC x (defScope st) s.heap.objs.size f cdv)) →
      ∃ t, PSs (ctx P w K mg base N x (defScope st) f cdv A outer s H E) (defBody st) t ∧ ∀ vs Q, sp vs H Q E → t { nx := fun _ H' => Q .non H', rt := Q } (L2.start N vs) H) : DefOk P w K mg base (k + 1) x ps sp := by
  obtain ⟨f, fd, F, m⟩ := D.ex
  refine ⟨f, fd, F.ok (CX := L2.CX P w) Sc hl (fun cdv A outer s H vs Q E hr h => ?_), m, F.kp, F.bindsN hB⟩
  obtain ⟨t, h1, h2⟩ := hb f cdv A outer s H E hr
  exact ⟨t, h1, h2 vs Q h⟩
end
def Grw (H H' : Hp) : Prop := ∀ b o, H b = some o → H' b = some o
theorem Grw.refl (H : Hp) : Grw H H := fun _ _ h => h
theorem Grw.trans {H H1 H2 : Hp} (a : Grw H H1) (b : Grw H1 H2) : Grw H H2 := fun x o h => b x o (a x o h)
theorem Grw.upd {H : Hp} {p : Addr} {o : HO} (h : H p = none) : Grw H (upd H p o) := fun b u e => by rw [upd_ne (ne_of_none e h)]; exact e
theorem sqL_grw {K : PySem.W.Frag} {H H' : Hp} {a : Addr} {xs : List V} (g : Grw H H') (h : SqL K H a xs) : SqL K H' a xs := by
  rcases h with (h | ⟨o, h⟩) | h
  · exact .inl (.inl (g _ _ h))
  · exact .inl (.inr ⟨o, g _ _ h⟩)
  · exact .inr h
/-- the cell of a place -/
def cell (ns : List Int) (k : Nat) : Int := if ns = [] then (k : Int) * 7919 else ns.getD (k % ns.length) 0 + (k / ns.length : Nat) * 104729
def spCell (K : PySem.W.Frag) : Sp := fun vs H Q _ => ∃ (a : Addr) (ns : List Int) (k : Nat), vs = [.ref a, .int k] ∧ SqL K H a (ns.map V.int) ∧ k < 100 ∧ ∀ H', Grw H H' → Q (.int (cell ns k)) H'
def t_cell (K : PySem.W.Frag) : TS :=
  tSeq (tIfS (tTest (tOp (rEqD K) (tVar 0) (tLst tNil))) (tRet (tOp (rMulU K) (tVar 1) (tC (.int 7919)))) tNext)
    (tRet (tOp (rAddU K) (tOp (rIx K) (tVar 0) (tOp (rI (fun _ j => j ≠ 0) fun i j => .int (i.fmod j)) (tVar 1) (tCB (rLen K) (tCons (tVar 0) tNil))))
      (tOp (rMulU K) (tOp (rI (fun _ j => j ≠ 0) fun i j => .int (i.fdiv j)) (tVar 1) (tCB (rLen K) (tCons (tVar 0) tNil))) (tC (.int 104729)))))
theorem dp_ints {K : PySem.W.Frag} {H : Hp} : ∀ ns : List Int, DpAll K H (ns.map V.int) (ns.map PyData.int)
  | [] => .nil
  | n :: ns => .cons (.int n) (dp_ints ns)
theorem lay_ints : ∀ ns : List Int, PyData.canLayAll0 (ns.map PyData.int) = true ∧ PyData.depthAll (ns.map PyData.int) = 0
  | [] => ⟨rfl, rfl⟩
  | n :: ns => by
    obtain ⟨h1, h2⟩ := lay_ints ns
    rw [List.map_cons, PyData.canLayAll0, PyData.depthAll, h1, h2, PyData.canLay0, PyData.depth]
    exact ⟨rfl, rfl⟩
theorem shaped_ints (ns : List Int) : SeqAt.shaped (.list (ns.map PyData.int)) = true := by
  unfold SeqAt.shaped
  rw [PyData.canLay0, PyData.depth, (lay_ints ns).1, (lay_ints ns).2]
  rfl
theorem cmul {i j : Int} (hi : i.natAbs < 2 ^ 1000) (hj : j.natAbs < 2 ^ 1000) : CMulB i j := by
  unfold CMulB
  have h1 : i.natAbs.log2 < 1000 := by
    by_cases h : i.natAbs = 0
    · rw [h]; decide
    · exact (Nat.log2_lt h).mpr hi
  have h2 : j.natAbs.log2 < 1000 := by
    by_cases h : j.natAbs = 0
    · rw [h]; decide
    · exact (Nat.log2_lt h).mpr hj
  omega
theorem small {k : Nat} (h : k < 1000000) : ((k : Int)).natAbs < 2 ^ 1000 := by
  rw [Int.natAbs_natCast]
  exact Nat.lt_trans h (by decide)
theorem at_nat (ns : List Int) {j : Nat} (h : j < ns.length) : atI (ns.map V.int) (j : Int) = some (.int (ns.getD j 0)) := by
  have hx : ixN (ns.map V.int).length (j : Int) = some j := by
    rw [List.length_map]
    unfold ixN
    rw [if_pos (by omega), if_pos (by omega), Int.toNat_natCast]
  unfold atI
  rw [hx]
  show (ns.map V.int)[j]? = _
  rw [List.getElem?_map, List.getElem?_eq_getElem h, List.getD_eq_getElem?_getD, List.getElem?_eq_getElem h]
  rfl
theorem cell_ok {K : PySem.W.Frag} {N : List Str} {vs : List V} {H : Hp} {Q : VK} {E : XK} (h : spCell K vs H Q E) : t_cell K { nx := fun _ H' => Q .non H', rt := Q } (L2.start N vs) H := by
  obtain ⟨a, ns, k, rfl, hs, hk, q⟩ := h
  refine ⟨_, rfl, Nat.zero_le _, fun p hp => ?_⟩
  have g1 : Grw H (upd H p (.lst [])) := Grw.upd hp
  refine ⟨.list (ns.map PyData.int), .list [], .lst (sqL_grw g1 hs) (dp_ints ns), .lst (SqL.of upd_same) .nil, shaped_ints ns, rfl, _, rfl, ?_⟩
  by_cases hn : ns = []
  · subst hn
    rw [show PyData.eqv (.list (([] : List Int).map PyData.int)) (.list []) = true from rfl, if_pos rfl]
    refine ⟨_, rfl, .inl ⟨(k : Int), 7919, rfl, rfl, cmul (small (by omega)) (small (k := 7919) (by decide)), ?_⟩⟩
    have := q _ g1
    unfold cell at this
    rw [if_pos rfl] at this
    exact this
  · have hl : 0 < ns.length := List.length_pos_iff.mpr hn
    have e0 : PyData.eqv (.list (ns.map PyData.int)) (.list []) = false := by
      cases ns with
      | nil => exact absurd rfl hn
      | cons n ns => rfl
    rw [e0]
    simp only [Bool.false_eq_true, if_false]
    have hs2 := sqL_grw g1 hs
    have ln : LenV K (.ref a) (upd H p (.lst [])) (ns.map V.int).length := .inl ⟨_, hs2, rfl⟩
    refine ⟨_, rfl, _, rfl, _, rfl, _, _, rfl, ln, ?_⟩
    rw [List.length_map]
    refine ⟨(k : Int), (ns.length : Int), rfl, rfl, by omega, ?_⟩
    have em : (k : Int).fmod (ns.length : Int) = ((k % ns.length : Nat) : Int) := by rw [Int.fmod_eq_emod_of_nonneg _ (by omega)]; rfl
    have ed : (k : Int).fdiv (ns.length : Int) = ((k / ns.length : Nat) : Int) := by rw [Int.fdiv_eq_ediv_of_nonneg _ (by omega)]; rfl
    show rIx K (V.ref a) (.int ((k : Int).fmod (ns.length : Int))) _ _
    rw [em]
    have hm : k % ns.length < ns.length := Nat.mod_lt _ hl
    refine .inl ⟨a, ns.map V.int, ((k % ns.length : Nat) : Int), .int (ns.getD (k % ns.length) 0), rfl, rfl, hs2, ?_, ?_⟩
    · exact at_nat ns hm
    · refine ⟨_, rfl, _, rfl, _, _, rfl, ln, ?_⟩
      rw [List.length_map]
      refine ⟨(k : Int), (ns.length : Int), rfl, rfl, by omega, ?_⟩
      show rMulU K (.int ((k : Int).fdiv (ns.length : Int))) (.int 104729) _ _
      rw [ed]
      have hd : k / ns.length < 100 := Nat.lt_of_le_of_lt (Nat.div_le_self _ _) hk
      refine .inl ⟨_, 104729, rfl, rfl, cmul (small (by omega)) (small (k := 104729) (by decide)), ?_⟩
      refine .inl ⟨_, _, rfl, rfl, ?_⟩
      have := q _ g1
      unfold cell at this
      rw [if_neg hn] at this
      exact this
/-! ### the rounds -/
def spRounds (K : PySem.W.Frag) : Sp := fun vs H Q _ => ∃ (a : Addr) (ns : List Int) (m : Nat), vs = [.ref a, .int m] ∧ SqL K H a (ns.map V.int) ∧ m < 100 ∧
  ∀ (H' : Hp) (p : Addr) (ds : List Addr), Grw H H' → H p = none → H' p = some (.lst (ds.map V.ref)) → ds.length = max 1 (min m ns.length) → ds.Nodup → p ∉ ds → (∀ (i : Nat) (d : Addr), ds[i]? = some d → H d = none ∧ H' d = some (.lst [.int (cell ns i), .int 0])) → Q (.ref p) H'
def t_rounds (K : PySem.W.Frag) (E : XK) : TS :=
  tRet (tLc (iRng1 (tCons (tCB (fun xs H Q => ∃ i j, xs = [.int i, .int j] ∧ Q (.int (if j > i then j else i)) H) (tCons (tC (.int 1)) (tCons (tCB (fun xs H Q => ∃ i j, xs = [.int i, .int j] ∧ Q (.int (if j < i then j else i)) H)
      (tCons (tVar 1) (tCons (tCB (rLen K) (tCons (tVar 0) tNil)) tNil))) tNil))) tNil)) (gName 2) tYes
    (tLst (tCons (tCall (spCell K) [] E (tCons (tVar 0) (tCons (tVar 2) tNil))) (tCons (tC (.int 0)) tNil))) [2])
theorem rounds_ok {K : PySem.W.Frag} {N : List Str} {vs : List V} {H : Hp} {Q : VK} {E E' : XK} (hN : 2 < N.length) (h : spRounds K vs H Q E') : t_rounds K E { nx := fun _ H' => Q .non H', rt := Q } (L2.start N vs) H := by
  obtain ⟨a, ns, m, rfl, hs, hm, q⟩ := h
  have ln : LenV K (.ref a) H (ns.map V.int).length := .inl ⟨_, hs, rfl⟩
  refine ⟨_, rfl, _, rfl, _, _, rfl, ln, (m : Int), _, rfl, 1, _, rfl, ?_⟩
  rw [List.length_map]
  have e1 : (if (if ((ns.length : Nat) : Int) < (m : Int) then ((ns.length : Nat) : Int) else (m : Int)) > 1 then (if ((ns.length : Nat) : Int) < (m : Int) then ((ns.length : Nat) : Int) else (m : Int)) else (1 : Int)) = ((max 1 (min m ns.length) : Nat) : Int) := by
    split <;> split <;> omega
  rw [e1]
  generalize hn : max 1 (min m ns.length) = n
  have hnb : n < 100 := by omega
  refine ⟨(n : Int), rfl, by omega, by omega, ?_⟩
  rw [Int.toNat_natCast]
  intro D hD
  refine ⟨fun i t H' => t = n - i ∧ i ≤ n ∧ Grw H H' ∧ ∃ ds : List Addr, ds.length = i ∧ H' D = some (.lst (ds.map V.ref)) ∧ ds.Nodup ∧ D ∉ ds ∧ ∀ (j : Nat) (d : Addr), ds[j]? = some d → H d = none ∧ H' d = some (.lst [.int (cell ns j), .int 0]), ⟨n, rfl, Nat.zero_le _, Grw.upd hD, [], rfl, upd_same, List.nodup_nil, List.not_mem_nil, fun j d h => nomatch h⟩, ?_⟩
  rintro i t H1 ⟨rfl, hi, g1, ds, hl, hd, nd, nD, hc⟩
  by_cases hlt : i < n
  · refine .inr ⟨hlt, fun H' => i + 1 ≤ n ∧ Grw H H' ∧ ∃ ds : List Addr, ds.length = i + 1 ∧ H' D = some (.lst (ds.map V.ref)) ∧ ds.Nodup ∧ D ∉ ds ∧ ∀ (j : Nat) (d : Addr), ds[j]? = some d → H d = none ∧ H' d = some (.lst [.int (cell ns j), .int 0]), fun H' ⟨z1, z2, z3⟩ => ⟨n - (i + 1), by omega, rfl, z1, z2, z3⟩, ?_⟩
    intro x H' ⟨ey, ex⟩
    subst ey ex
    have w0 : (wipe (L2.start N [.ref a, .int (m : Int)]) [2]) = (L2.start N [.ref a, .int (m : Int)]).set 2 none := rfl
    refine ⟨?_, ?_⟩
    · show wipe (((L2.start N [.ref a, .int (m : Int)]).set 2 none).set 2 _) [2] = wipe (L2.start N [.ref a, .int (m : Int)]) [2]
      rw [w0]
      show ((List.set (List.set _ 2 none) 2 _).set 2 none) = List.set _ 2 none
      rw [List.set_set, List.set_set]
    unfold tYes
    dsimp only
    rw [if_pos rfl]
    have len : (L2.start N [.ref a, .int (m : Int)]).length = N.length := by
      unfold L2.start
      simp only [List.length_append, List.length_map, List.length_replicate, List.length_cons, List.length_nil]
      omega
    refine ⟨.ref a, by simp [wipe, L2.start], .int ((0 : Int) + (i : Nat)), ?_, a, ns, i, ?_, ?_, by omega, fun H2 g2 => ⟨show (2 : Nat) ≤ sizeLine by decide, fun p hp => ?_⟩⟩
    · rw [List.getElem?_set_self (by rw [show wipe (L2.start N [.ref a, .int (m : Int)]) [2] = (L2.start N [.ref a, .int (m : Int)]).set 2 none from rfl, List.length_set, len]; exact hN)]
    · simp
    · exact sqL_grw g1 hs
    · have nDp : D ≠ p := ne_of_none (g2 _ _ hd) hp
      refine ⟨ds.map V.ref, ?_, ?_, hlt, ?_⟩
      · rw [upd_ne nDp]; exact g2 _ _ hd
      · rw [List.length_map, hl]; exact Nat.lt_trans hlt (Nat.lt_of_lt_of_le hnb (by decide))
      · refine ⟨?_, ds ++ [p], by simp [hl], by rw [upd_same]; simp, ?_, ?_, ?_⟩
        · intro b o hb
          have nb : b ≠ D := ne_of_none hb hD
          have hb2 := g2 _ _ (g1 _ _ hb)
          rw [upd_ne nb, upd_ne (ne_of_none hb2 hp)]
          exact hb2
        · rw [List.nodup_append]
          refine ⟨nd, by simp, fun x hx y hy => ?_⟩
          have e : y = p := by simpa using hy
          subst e
          obtain ⟨j, hj, e⟩ := List.getElem_of_mem hx
          have := (hc j x (by rw [List.getElem?_eq_getElem hj, e])).2
          exact ne_of_none (g2 _ _ this) hp
        · rw [List.mem_append]
          exact fun z => z.elim nD fun z => nDp (by simpa using z)
        · intro j d hj
          rw [List.getElem?_append] at hj
          split at hj
          · obtain ⟨z1, z2⟩ := hc j d hj
            have z3 := g2 _ _ z2
            have n1 : d ≠ D := fun z => by subst z; exact nD (List.mem_of_getElem? hj)
            refine ⟨z1, ?_⟩
            rw [upd_ne n1, upd_ne (ne_of_none z3 hp)]
            exact z3
          · rename_i hge
            have hj1 : j - ds.length = 0 := by
              have := (List.getElem?_eq_some_iff.mp hj).1
              simp at this
              omega
            rw [hj1] at hj
            have e : d = p := by simpa using hj.symm
            have ej : j = i := by omega
            subst e ej
            refine ⟨?_, ?_⟩
            · cases z : H d with
              | none => rfl
              | some o => rw [g2 _ _ (g1 _ _ z)] at hp; cases hp
            · rw [upd_ne (Ne.symm nDp), upd_same]
  · have e : i = n := by omega
    subst e
    exact .inl ⟨Nat.le_refl _, q H1 D ds g1 hD hd (by rw [hl, hn]) nd nD fun j d h => hc j d h⟩
end Bc

set_option maxRecDepth 100000
set_option maxHeartbeats 4000000
/-! Be2: rules within a comprehension's block, told over the law's own K. -/
namespace Bc
open PySem PySem.Spec
open PyProof.Rows L2
section
variable {X : Cx} {K : PySem.W.Frag}
theorem kb_add (h : X.K = K) : OpR X (binaryOp .Add) (rAddU K) := by subst h; exact op_addU
theorem kb_mul (h : X.K = K) : OpR X (binaryOp .Mult) (rMulU K) := by subst h; exact op_mulU
theorem kb_in (h : X.K = K) (hu : X.A.units + 65 < cLine) : OpR X (compareOp .In) (rInU K) := by subst h; exact op_inU hu
theorem kb_nin (h : X.K = K) (hu : X.A.units + 65 < cLine) : OpR X (compareOp .NotIn) (rNInU K) := by subst h; exact op_ninU hu
theorem kb_eq (h : X.K = K) (hu : X.A.units + 64 < cLine) : OpR X (compareOp .Eq) (rEqD K) := by subst h; exact op_eqD hu
theorem kb_ne (h : X.K = K) (hu : X.A.units + 64 < cLine) : OpR X (compareOp .NotEq) (rNeD K) := by subst h; exact op_neD hu
theorem kb_sl (h : X.K = K) : SlR X (rSlU K) := by subst h; exact sl_any
theorem kb_ix (h : X.K = K) : IxR X (rIx K) := by subst h; exact ix_seq
theorem kb_len (h : X.K = K) : CallR X (.builtin "len") (rLen K) := by subst h; exact call_len
theorem kb_isi (h : X.K = K) : CallR X (.builtin "isinstance") (rIsi K) := by subst h; exact call_isi
theorem kb_sum (h : X.K = K) (hc : X.calm = true) : CallR X (.builtin "sum") (rSum K) := by subst h; exact cr_sum hc
theorem kb_any (h : X.K = K) (hc : X.calm = true) : CallR X (.builtin "any") (rAny K) := by subst h; exact cr_any hc
theorem kb_all (h : X.K = K) (hc : X.calm = true) : CallR X (.builtin "all") (rAll K) := by subst h; exact cr_all hc
theorem kb_max (h : X.K = K) (hc : X.calm = true) : CallR X (.builtin "max") (rMax K) := by subst h; exact cr_max hc
theorem kb_min (h : X.K = K) (hc : X.calm = true) : CallR X (.builtin "min") (rMin K) := by subst h; exact cr_min hc
theorem kb_list (h : X.K = K) : CallR X (.type "list") (fun xs H Q => ∃ p ys, xs = [.ref p] ∧ (SqL K H p ys ∨ SqT K H p ys) ∧ ∀ l, H l = none → Q (.ref l) (upd H l (.lst ys))) := by subst h; exact call_list_of
theorem kb_tuple (h : X.K = K) : CallR X (.type "tuple") (fun xs H Q => ∃ p ys, xs = [.ref p] ∧ ((SqL K H p ys ∧ ∀ l, H l = none → Q (.ref l) (upd H l (.tup ys))) ∨ (SqT K H p ys ∧ Q (.ref p) H))) := by subst h; exact call_tuple_of
theorem kb_fld {e : Expr} {ta : TE} {f : Str} {pos : Pos} (h : X.K = K) (he : PE X e ta) (hb : attributeBase e f X.env (eval e X.env) = eval e X.env) : PE X (.Attribute e f pos) (tFld K ta f) := by subst h; exact pe_fld he hb
theorem kb_sliceS {e : Expr} {lo hi : Option Expr} {e3 : Expr} {te : TE} {tl th ts : TO} {p2 pos : Pos} (h : X.K = K) (he : PE X e te) (hl : PO X lo tl) (hu : PO X hi th) (hst : PO X (some e3) ts) : PE X (.Subscript e (.Slice lo hi (some e3) p2) pos) (tSlS (rStep K) te tl th ts) := by subst h; exact pe_sliceS he hl hu hst
theorem kb_tup {es : List Expr} {k : Nat} {t : TGs} {n : Nat} {pos : Pos} (h : X.K = K) (hc : X.calm = true) (ht : PGs X es t) (hn : (assignEach es X.env).length = n) (hst : (assignEach es X.env).findIdx? (·.1) = none) : PG X (.Tuple es k pos) (gTup K n t) := by subst h; exact pg_tup hc ht hn hst
/-- // within a block -/
theorem kb_fdiv {env : Env} {outer : List Env} (Y : Pyl X.prog X.K) (hr : Room 40 X.A) (hs : X.stack = env :: outer) (hg : env.scope.isGenerator = false) (hc : env.scope.isCoroutine = false) (e1 : env.builtins = X.env.builtins) (e2 : env.globals = X.env.globals) : OpR X (binaryOp .FloorDiv) (rI (fun _ j => j ≠ 0) fun i j => .int (i.fdiv j)) := by
  intro pins s σ H x y v u Q I rx ry h
  obtain ⟨i, j, rfl, rfl, hj, q⟩ := h
  obtain ⟨t, rfl⟩ := rx
  obtain ⟨t', rfl⟩ := ry
  obtain ⟨mb, h1, h2⟩ := I.mod.blt
  have hN : s.heap.NoSeer := Y.ns s.heap I.kIn ⟨mb, h1.keeps I.bk, h2⟩
  have hd := hr.dp
  have e : Builtin.pylongFrames = 100 := rfl
  refine floordiv_int hj ⟨.int _, H, I.tok _, ⟨_, rfl⟩, q⟩ (.inr (PySem.PylongRoom.of I.nolimit (by rw [e]; omega) (SeerAt.of (env := env) (l := outer) hN Y.tree (by rw [I.ok.frames, hs]) hg hc (e1.trans I.ok.blt) (e2.trans I.ok.glob))))
theorem pe_def0 {k : Nat} {ps : List Str} {sp : Sp} {E : XK} {x : Str} {p pos : Pos} (D : DefOk X.prog X.w X.K X.mg X.base k x ps sp) (hr : Room k X.A) (hx : Passes (L2.CX X.prog X.w) X E) (hg : Gl X x := by rfl) (hdb : (x == ("__debug__" : Str)) = false := by decide) : PE X (.Call (.Name x p) [] [] pos) (tCall sp [] E tNil) := by
  obtain ⟨f, fd, F, m, kp, b⟩ := D.ex
  exact pe_call0 F hr hg m kp b .nil hx hdb
theorem units1 {k : Nat} {A : Around} (hr : Room k A) : A.units + 1 < cLine := by have := hr.un; omega
theorem mt_ins : MtR X "list.insert" rIns := mt_insert
end
end Bc

set_option maxRecDepth 100000
set_option maxHeartbeats 4000000
/-! BfE: the evaluations by the recursors themselves (quick in the kernel); they are the same. Printed by mkfast.py. -/
namespace Bc
open PySem PySem.Spec
open PyProof.Rows L2
section
variable {α β : Type}
noncomputable def lk (l : List α) (i : Nat) : Option α := List.rec (motive := fun _ => Nat → Option α) (fun _ => none) (fun a _ ih n => Nat.rec (some a) (fun k _ => ih k) n) l i
theorem lk_eq : ∀ (l : List α) (i : Nat), lk l i = l[i]?
  | [], i => by simp [lk]
  | a :: l, 0 => rfl
  | a :: l, i + 1 => by rw [List.getElem?_cons_succ, ← lk_eq l i]; rfl
noncomputable def stF (l : List α) (i : Nat) (v : α) : List α := List.rec (motive := fun _ => Nat → List α) (fun _ => []) (fun a as ih n => Nat.rec (v :: as) (fun k _ => a :: ih k) n) l i
theorem stF_eq (v : α) : ∀ (l : List α) (i : Nat), stF l i v = l.set i v
  | [], i => rfl
  | a :: l, 0 => rfl
  | a :: l, i + 1 => by rw [List.set_cons_succ, ← stF_eq v l i]; rfl
noncomputable def mapF (f : α → β) (l : List α) : List β := List.rec [] (fun a _ ih => f a :: ih) l
theorem mapF_eq (f : α → β) : ∀ l : List α, mapF f l = l.map f
  | [] => rfl
  | a :: l => by rw [List.map_cons, ← mapF_eq f l]; rfl
noncomputable def lenF (l : List α) : Nat := List.rec 0 (fun _ _ ih => Nat.succ ih) l
theorem lenF_eq : ∀ l : List α, lenF l = l.length
  | [] => rfl
  | a :: l => by rw [List.length_cons, ← lenF_eq l]; rfl
end
noncomputable def setAllF (e : Vs) (is : List Nat) (ds : List Dt) : Vs := List.rec (motive := fun _ => Vs → List Dt → Vs) (fun e _ => e) (fun i _ ih e ds => List.rec (motive := fun _ => Vs) e (fun d ds _ => ih (stF e i (.val d)) ds) ds) is e ds
theorem setAllF_eq : ∀ (is : List Nat) (e : Vs) (ds : List Dt), setAllF e is ds = setAll e is ds
  | [], e, ds => by cases ds <;> rfl
  | i :: is, e, [] => rfl
  | i :: is, e, d :: ds => by rw [setAll, ← setAllF_eq is, ← stF_eq]; rfl
noncomputable def asgTF (e : Vs) (d : Dt) (tg : Tg) : Option Vs := match tg with
  | .name i => some (stF e i (.val d))
  | .tup is => match d with
    | .tuple ds => if lenF ds = lenF is then some (setAllF e is ds) else none
    | _ => none
  | .unl is => match d with
    | .list ds => if lenF ds = lenF is then some (setAllF e is ds) else none
    | _ => none
theorem asgTF_eq (e : Vs) (d : Dt) (tg : Tg) : asgTF e d tg = asgT e d tg := by
  unfold asgTF asgT
  cases tg with
  | name i => simp only [stF_eq]
  | tup is => cases d <;> simp only [lenF_eq, setAllF_eq]
  | unl is => cases d <;> simp only [lenF_eq, setAllF_eq]
noncomputable def asgZF (e : Zs) (d : Dt) (tg : Tg) : Option Zs := match asgTF e.v d tg with
  | some v => some ⟨v, e.s⟩
  | none => none
theorem asgZF_eq (e : Zs) (d : Dt) (tg : Tg) : asgZF e d tg = asgZ e d tg := by unfold asgZF asgZ; rw [asgTF_eq] <;> rfl
noncomputable def wipeVF (e : Vs) (is : List Nat) : Vs := List.rec e (fun v _ ih => stF ih v .no) is
theorem wipeVF_eq (e : Vs) : ∀ is : List Nat, wipeVF e is = wipeV e is
  | [] => rfl
  | i :: is => by rw [wipeV, ← wipeVF_eq e is, ← stF_eq]; rfl
noncomputable def enumOfF (n : Nat) (ds : List Dt) : List Dt := List.rec (motive := fun _ => Nat → List Dt) (fun _ => []) (fun d _ ih n => .tuple [.int (n : Int), d] :: ih (n + 1)) ds n
theorem enumOfF_eq : ∀ (ds : List Dt) (n : Nat), enumOfF n ds = enumOf n ds
  | [], n => rfl
  | d :: ds, n => by rw [enumOf, ← enumOfF_eq ds (n + 1)]; rfl
noncomputable def lcAllF (f : Dt → Option (Option Dt)) (ds : List Dt) : Option (List Dt) := List.rec (some []) (fun d _ ih => match f d, ih with
    | some none, some rs => some rs
    | some (some r), some rs => some (r :: rs)
    | _, _ => none) ds
theorem lcAllF_eq (f : Dt → Option (Option Dt)) : ∀ ds : List Dt, lcAllF f ds = lcAll f ds
  | [] => rfl
  | d :: ds => by rw [lcAll, ← lcAllF_eq f ds]; rfl
noncomputable def noListF (d : Dt) : Bool := match d with
  | .int _ => true
  | .bool _ => true
  | .none => true
  | .obj _ => true
  | .str _ => true
  | .list _ => false
  | d => noList d
theorem noListF_eq (d : Dt) : noListF d = noList d := by cases d <;> simp only [noListF, noList]
noncomputable def lcZF (f : List Cell → Dt → Option (Option Dt × List Cell)) (S : List Cell) (ds : List Dt) : Option (List Dt × List Cell) := List.rec (motive := fun _ => List Cell → Option (List Dt × List Cell)) (fun S => some ([], S)) (fun d _ ih S => match f S d with
    | some (o, S1) => match ih S1 with
      | some (rs, S2) => some (match o with | some r => r :: rs | none => rs, S2)
      | none => none
    | none => none) ds S
theorem lcZF_eq (f : List Cell → Dt → Option (Option Dt × List Cell)) : ∀ (ds : List Dt) (S : List Cell), lcZF f S ds = lcZ f S ds
  | [], S => rfl
  | d :: ds, S => by
    have ih : (fun S => lcZF f S ds) = fun S => lcZ f S ds := funext fun S => lcZF_eq f ds S
    rw [lcZ]
    show (match f S d with
      | some (o, S1) => match (fun S => lcZF f S ds) S1 with
        | some (rs, S2) => some (match o with | some r => r :: rs | none => rs, S2)
        | none => none
      | none => none) = _
    rw [ih]
    try rfl
noncomputable def forlF (tg : Tg) (b : Vs → Option Out) (ds : List Dt) (e : Vs) : Option Out := List.rec (motive := fun _ => Vs → Option Out) (fun e => some (.nx e)) (fun d _ ih e => match asgTF e d tg with
    | some e1 => match b e1 with
      | some (.nx e2) => ih e2
      | some (.ct e2) => ih e2
      | some (.bk e2) => some (.nx e2)
      | o => o
    | none => none) ds e
theorem forlF_eq (tg : Tg) (b : Vs → Option Out) : ∀ (ds : List Dt) (e : Vs), forlF tg b ds e = forl tg b ds e
  | [], e => rfl
  | d :: ds, e => by
    have ih : (fun e => forlF tg b ds e) = fun e => forl tg b ds e := funext fun e => forlF_eq tg b ds e
    rw [forl, ← asgTF_eq]
    show (match asgTF e d tg with
    | some e1 => match b e1 with
      | some (.nx e2) => (fun e => forlF tg b ds e) e2
      | some (.ct e2) => (fun e => forlF tg b ds e) e2
      | some (.bk e2) => some (.nx e2)
      | o => o
    | none => none) = _
    rw [ih]
    try rfl
noncomputable def whlF (t : Vs → Option (Bool × Vs)) (b : Vs → Option Out) (n : Nat) (e : Vs) : Option Out := Nat.rec (motive := fun _ => Vs → Option Out) (fun _ => none) (fun _ ih e => match t e with
    | some (true, e1) => match b e1 with
      | some (.nx e2) => ih e2
      | some (.ct e2) => ih e2
      | some (.bk e2) => some (.nx e2)
      | o => o
    | some (false, e1) => some (.nx e1)
    | none => none) n e
theorem whlF_eq (t : Vs → Option (Bool × Vs)) (b : Vs → Option Out) : ∀ (n : Nat) (e : Vs), whlF t b n e = whl t b n e
  | 0, e => rfl
  | n + 1, e => by
    have ih : (fun e => whlF t b n e) = fun e => whl t b n e := funext fun e => whlF_eq t b n e
    rw [whl]
    show (match t e with
    | some (true, e1) => match b e1 with
      | some (.nx e2) => (fun e => whlF t b n e) e2
      | some (.ct e2) => (fun e => whlF t b n e) e2
      | some (.bk e2) => some (.nx e2)
      | o => o
    | some (false, e1) => some (.nx e1)
    | none => none) = _
    rw [ih]
    try rfl
noncomputable def forzF (tg : Tg) (b : Zs → Option Outz) (ds : List Dt) (e : Zs) : Option Outz := List.rec (motive := fun _ => Zs → Option Outz) (fun e => some (.nx e)) (fun d _ ih e => match asgZF e d tg with
    | some e1 => match b e1 with
      | some (.nx e2) => ih e2
      | some (.ct e2) => ih e2
      | some (.bk e2) => some (.nx e2)
      | o => o
    | none => none) ds e
theorem forzF_eq (tg : Tg) (b : Zs → Option Outz) : ∀ (ds : List Dt) (e : Zs), forzF tg b ds e = forz tg b ds e
  | [], e => rfl
  | d :: ds, e => by
    have ih : (fun e => forzF tg b ds e) = fun e => forz tg b ds e := funext fun e => forzF_eq tg b ds e
    rw [forz, ← asgZF_eq]
    show (match asgZF e d tg with
    | some e1 => match b e1 with
      | some (.nx e2) => (fun e => forzF tg b ds e) e2
      | some (.ct e2) => (fun e => forzF tg b ds e) e2
      | some (.bk e2) => some (.nx e2)
      | o => o
    | none => none) = _
    rw [ih]
    try rfl
noncomputable def whzF (t : Zs → Option (Bool × Zs)) (b : Zs → Option Outz) (n : Nat) (e : Zs) : Option Outz := Nat.rec (motive := fun _ => Zs → Option Outz) (fun _ => none) (fun _ ih e => match t e with
    | some (true, e1) => match b e1 with
      | some (.nx e2) => ih e2
      | some (.ct e2) => ih e2
      | some (.bk e2) => some (.nx e2)
      | o => o
    | some (false, e1) => some (.nx e1)
    | none => none) n e
theorem whzF_eq (t : Zs → Option (Bool × Zs)) (b : Zs → Option Outz) : ∀ (n : Nat) (e : Zs), whzF t b n e = whz t b n e
  | 0, e => rfl
  | n + 1, e => by
    have ih : (fun e => whzF t b n e) = fun e => whz t b n e := funext fun e => whzF_eq t b n e
    rw [whz]
    show (match t e with
    | some (true, e1) => match b e1 with
      | some (.nx e2) => (fun e => whzF t b n e) e2
      | some (.ct e2) => (fun e => whzF t b n e) e2
      | some (.bk e2) => some (.nx e2)
      | o => o
    | some (false, e1) => some (.nx e1)
    | none => none) = _
    rw [ih]
    try rfl
noncomputable def env0F (n : Nat) (as : List Dt) : Vs := List.rec (motive := fun _ => Nat → Vs) (fun n => Nat.rec [] (fun _ ih => .no :: ih) n) (fun d _ ih n => .val d :: ih (n - 1)) as n
theorem env0F_eq : ∀ (as : List Dt) (n : Nat), env0F n as = env0 n as
  | [], n => by
    unfold env0
    rw [List.map_nil, List.nil_append, List.length_nil, Nat.sub_zero]
    induction n with
    | zero => rfl
    | succ n ih => rw [List.replicate_succ, ← ih]; rfl
  | d :: as, n => by
    have h := env0F_eq as (n - 1)
    unfold env0 at h ⊢
    rw [List.map_cons, List.cons_append, List.length_cons, show n - (as.length + 1) = n - 1 - as.length by omega, ← h]
    rfl
structure FxS where
  e : Vs → Option (Rd × Vs)
  a : Vs → Option ((List Dt ⊕ Value) × Vs)
  t : Vs → Option (Bool × Vs)
  p : Vs → Option (Option Int × Vs)
  i : Vs → Option (List Dt × Vs)
noncomputable def fx_var {M : Hp → Hp → Prop} {K : PySem.W.Frag} : (Nat) → FxS :=
  (fun i => ⟨fun e => match (lk e i) with
    | some (.val d) => some (.ok d, e)
    | _ => none,
    fun _ => none,
    fun _ => none,
    fun _ => none,
    fun _ => none⟩)
noncomputable def fx_int {M : Hp → Hp → Prop} {K : PySem.W.Frag} : (Int) → FxS :=
  (fun i => ⟨fun e => some (.ok (.int i), e),
    fun _ => none,
    fun _ => none,
    fun _ => none,
    fun _ => none⟩)
noncomputable def fx_str {M : Hp → Hp → Prop} {K : PySem.W.Frag} : (Str) → FxS :=
  (fun s => ⟨fun e => some (.ok (.str s), e),
    fun _ => none,
    fun _ => none,
    fun _ => none,
    fun _ => none⟩)
noncomputable def fx_bl {M : Hp → Hp → Prop} {K : PySem.W.Frag} : (Bool) → FxS :=
  (fun b => ⟨fun e => some (.ok (.bool b), e),
    fun _ => none,
    fun _ => none,
    fun _ => none,
    fun _ => none⟩)
noncomputable def fx_non {M : Hp → Hp → Prop} {K : PySem.W.Frag} : FxS :=
  (⟨fun e => some (.ok .none, e),
    fun _ => none,
    fun _ => none,
    fun _ => none,
    fun _ => none⟩)
noncomputable def fx_glo {M : Hp → Hp → Prop} {K : PySem.W.Frag} : (V) → (Dt) → FxS :=
  (fun _u0 d => ⟨fun e => some (.ok d, e),
    fun _ => none,
    fun _ => none,
    fun _ => none,
    fun _ => none⟩)
noncomputable def fx_op {M : Hp → Hp → Prop} {K : PySem.W.Frag} : (O2 M K) → (Ex M K) → (Ex M K) → FxS → FxS → FxS :=
  (fun o a b i_a i_b => ⟨fun e => match (i_a).e e with
    | some (.ok x, e1) => match (i_b).e e1 with
      | some (.ok y, e2) => (o.f x y).map fun z => (.ok z, e2)
      | _ => none
    | _ => none,
    fun _ => none,
    fun _ => none,
    fun _ => none,
    fun _ => none⟩)
noncomputable def fx_chain {M : Hp → Hp → Prop} {K : PySem.W.Frag} : (O2 M K) → (O2 M K) → (Ex M K) → (Ex M K) → (Ex M K) → FxS → FxS → FxS → FxS :=
  (fun o o' a b c i_a i_b i_c => ⟨fun e => match (i_a).e e with
    | some (.ok x, e1) => match (i_b).e e1 with
      | some (.ok y, e2) => match o.f x y with
        | some (.bool true) => match (i_c).e e2 with
          | some (.ok z, e3) => (o'.f y z).map fun z => (.ok z, e3)
          | _ => none
        | some (.bool false) => some (.ok (.bool false), e2)
        | _ => none
      | _ => none
    | _ => none,
    fun _ => none,
    fun _ => none,
    fun _ => none,
    fun _ => none⟩)
noncomputable def fx_un {M : Hp → Hp → Prop} {K : PySem.W.Frag} : (OU M K) → (Ex M K) → FxS → FxS :=
  (fun o a i_a => ⟨fun e => match (i_a).e e with
    | some (.ok x, e1) => (o.f x).map fun z => (.ok z, e1)
    | _ => none,
    fun _ => none,
    fun _ => none,
    fun _ => none,
    fun _ => none⟩)
noncomputable def fx_fn {M : Hp → Hp → Prop} {K : PySem.W.Frag} : (ON M K) → (Ex M K) → FxS → FxS :=
  (fun o a i_a => ⟨fun e => match (i_a).a e with
    | some (.inl xs, e1) => (o.f xs).map fun z => (.ok z, e1)
    | _ => none,
    fun _ => none,
    fun _ => none,
    fun _ => none,
    fun _ => none⟩)
noncomputable def fx_isi {M : Hp → Hp → Prop} {K : PySem.W.Frag} : (Ex M K) → (String) → FxS → FxS :=
  (fun a T i_a => ⟨fun e => match (i_a).e e with
    | some (.ok x, e1) => match toPy x with
      | some y => (kitB (tyName y) T).map fun b => (.ok (.bool b), e1)
      | none => none
    | _ => none,
    fun _ => none,
    fun _ => none,
    fun _ => none,
    fun _ => none⟩)
noncomputable def fx_lsOf {M : Hp → Hp → Prop} {K : PySem.W.Frag} : (Ex M K) → FxS → FxS :=
  (fun a i_a => ⟨fun e => match (i_a).e e with
    | some (.ok (.list ds), e1) => some (.ok (.list ds), e1)
    | some (.ok (.tuple ds), e1) => some (.ok (.list ds), e1)
    | _ => none,
    fun _ => none,
    fun _ => none,
    fun _ => none,
    fun _ => none⟩)
noncomputable def fx_call {M : Hp → Hp → Prop} {K : PySem.W.Frag} : (List Dt → Option Rd) → (Ex M K) → FxS → FxS :=
  (fun s a i_a => ⟨fun e => match (i_a).a e with
    | some (.inl xs, e1) => (s xs).map fun r => (r, e1)
    | some (.inr C, e1) => some (.exc C, e1)
    | _ => none,
    fun _ => none,
    fun _ => none,
    fun _ => none,
    fun _ => none⟩)
noncomputable def fx_lend {M : Hp → Hp → Prop} {K : PySem.W.Frag} : (List Dt → List Dt → Option (Dt × List Dt)) → (Nat) → (Ex M K) → FxS → FxS :=
  (fun s i a i_a => ⟨fun e => match (i_a).a e with
    | some (.inl xs, e1) => match (lk e i), (lk e1 i) with
      | some (.own _ _), some (.own q ds) => match s ds xs with
        | some (r, ds') => some (.ok r, stF e1 i (.own q ds'))
        | none => none
      | _, _ => none
    | _ => none,
    fun _ => none,
    fun _ => none,
    fun _ => none,
    fun _ => none⟩)
noncomputable def fx_tup {M : Hp → Hp → Prop} {K : PySem.W.Frag} : (Ex M K) → FxS → FxS :=
  (fun a i_a => ⟨fun e => match (i_a).a e with
    | some (.inl xs, e1) => if xs.length ≤ 1000 then some (.ok (.tuple xs), e1) else none
    | some (.inr C, e1) => some (.exc C, e1)
    | _ => none,
    fun _ => none,
    fun _ => none,
    fun _ => none,
    fun _ => none⟩)
noncomputable def fx_lst {M : Hp → Hp → Prop} {K : PySem.W.Frag} : (Ex M K) → FxS → FxS :=
  (fun a i_a => ⟨fun e => match (i_a).a e with
    | some (.inl xs, e1) => if xs.length ≤ 1000 then some (.ok (.list xs), e1) else none
    | _ => none,
    fun _ => none,
    fun _ => none,
    fun _ => none,
    fun _ => none⟩)
noncomputable def fx_nil {M : Hp → Hp → Prop} {K : PySem.W.Frag} : FxS :=
  (⟨fun _ => none,
    fun e => some (.inl [], e),
    fun _ => none,
    fun _ => none,
    fun _ => none⟩)
noncomputable def fx_cons {M : Hp → Hp → Prop} {K : PySem.W.Frag} : (Ex M K) → (Ex M K) → FxS → FxS → FxS :=
  (fun a r i_a i_r => ⟨fun _ => none,
    fun e => match (i_a).e e with
    | some (.ok x, e1) => match (i_r).a e1 with
      | some (.inl xs, e2) => some (.inl (x :: xs), e2)
      | some (.inr C, e2) => some (.inr C, e2)
      | none => none
    | some (.exc C, e1) => some (.inr C, e1)
    | none => none,
    fun _ => none,
    fun _ => none,
    fun _ => none⟩)
noncomputable def fx_ifx {M : Hp → Hp → Prop} {K : PySem.W.Frag} : (Ex M K) → (Ex M K) → (Ex M K) → FxS → FxS → FxS → FxS :=
  (fun t a b i_t i_a i_b => ⟨fun e => match (i_t).t e with
    | some (true, e1) => (i_a).e e1
    | some (false, e1) => (i_b).e e1
    | none => none,
    fun _ => none,
    fun _ => none,
    fun _ => none,
    fun _ => none⟩)
noncomputable def fx_andV {M : Hp → Hp → Prop} {K : PySem.W.Frag} : (Ex M K) → (Ex M K) → FxS → FxS → FxS :=
  (fun a b i_a i_b => ⟨fun e => match (i_a).e e with
    | some (.ok (.bool true), e1) => match (i_b).e e1 with
      | some (.ok (.bool c), e2) => some (.ok (.bool c), e2)
      | _ => none
    | some (.ok (.bool false), e1) => some (.ok (.bool false), e1)
    | _ => none,
    fun _ => none,
    fun _ => none,
    fun _ => none,
    fun _ => none⟩)
noncomputable def fx_orV {M : Hp → Hp → Prop} {K : PySem.W.Frag} : (Ex M K) → (Ex M K) → FxS → FxS → FxS :=
  (fun a b i_a i_b => ⟨fun e => match (i_a).e e with
    | some (.ok (.bool false), e1) => match (i_b).e e1 with
      | some (.ok (.bool c), e2) => some (.ok (.bool c), e2)
      | _ => none
    | some (.ok (.bool true), e1) => some (.ok (.bool true), e1)
    | _ => none,
    fun _ => none,
    fun _ => none,
    fun _ => none,
    fun _ => none⟩)
noncomputable def fx_notV {M : Hp → Hp → Prop} {K : PySem.W.Frag} : (Ex M K) → FxS → FxS :=
  (fun a i_a => ⟨fun e => match (i_a).e e with
    | some (.ok (.bool c), e1) => some (.ok (.bool (!c)), e1)
    | _ => none,
    fun _ => none,
    fun _ => none,
    fun _ => none,
    fun _ => none⟩)
noncomputable def fx_bor {M : Hp → Hp → Prop} {K : PySem.W.Frag} : (Ex M K) → FxS → FxS :=
  (fun x i_x => ⟨fun e => match (i_x).e (mapF borS e) with
    | some (.ok d, _) => if noListF d then some (.ok d, e) else match d with
      | .list ds => if (fresh x && noLists ds) then some (.ok (.list ds), e) else none
      | _ => none
    | _ => none,
    fun _ => none,
    fun _ => none,
    fun _ => none,
    fun _ => none⟩)
noncomputable def fx_sl {M : Hp → Hp → Prop} {K : PySem.W.Frag} : (Ex M K) → (Ex M K) → (Ex M K) → FxS → FxS → FxS → FxS :=
  (fun a lo hi i_a i_lo i_hi => ⟨fun e => match (i_a).e e with
    | some (.ok x, e1) => match (i_lo).p e1 with
      | some (l, e2) => match (i_hi).p e2 with
        | some (h, e3) => match x with
          | .tuple ds => some (.ok (.tuple (cutL ds l h)), e3)
          | .list ds => some (.ok (.list (cutL ds l h)), e3)
          | .str z => if z.length ≤ 1000000 then some (.ok (.str (cutS z l h)), e3) else none
          | _ => none
        | none => none
      | none => none
    | _ => none,
    fun _ => none,
    fun _ => none,
    fun _ => none,
    fun _ => none⟩)
noncomputable def fx_sls {M : Hp → Hp → Prop} {K : PySem.W.Frag} : (Ex M K) → (Ex M K) → (Ex M K) → (Ex M K) → FxS → FxS → FxS → FxS → FxS :=
  (fun a lo hi st i_a i_lo i_hi i_st => ⟨fun e => match (i_a).e e with
    | some (.ok x, e1) => match (i_lo).p e1 with
      | some (l, e2) => match (i_hi).p e2 with
        | some (h, e3) => match (i_st).p e3 with
          | some (some c, e4) => if c ≠ 0 ∧ c ≠ 1 then match x with
            | .tuple ds => if (stepL ds l h c).length ≤ 1000000 then some (.ok (.tuple (stepL ds l h c)), e4) else none
            | .list ds => some (.ok (.list (stepP ds l h c)), e4)
            | _ => none
            else none
          | _ => none
        | none => none
      | none => none
    | _ => none,
    fun _ => none,
    fun _ => none,
    fun _ => none,
    fun _ => none⟩)
noncomputable def fx_nob {M : Hp → Hp → Prop} {K : PySem.W.Frag} : FxS :=
  (⟨fun _ => none,
    fun _ => none,
    fun _ => none,
    fun e => some (none, e),
    fun _ => none⟩)
noncomputable def fx_part {M : Hp → Hp → Prop} {K : PySem.W.Frag} : (Ex M K) → FxS → FxS :=
  (fun x i_x => ⟨fun _ => none,
    fun _ => none,
    fun _ => none,
    fun e => match (i_x).e e with
    | some (.ok (.int i), e1) => some (some i, e1)
    | _ => none,
    fun _ => none⟩)
noncomputable def fx_lc {M : Hp → Hp → Prop} {K : PySem.W.Frag} : (Ex M K) → (Tg) → (Ex M K) → (Ex M K) → FxS → FxS → FxS → FxS :=
  (fun it tg tt x i_it i_tt i_x => ⟨fun e => match (i_it).i e with
    | some (ds, e0) => if ds.length ≤ 100000 then
        (lcAllF (fun d => match asgTF (wipeVF (mapF hushV e0) tg.ids) d tg with
          | some e1 => match (i_tt).t e1 with
            | some (true, _) => match (i_x).e e1 with
              | some (.ok r, _) => some (some r)
              | _ => none
            | some (false, _) => some none
            | none => none
          | none => none) ds).map fun rs => (.ok (.list rs), e0)
      else none
    | none => none,
    fun _ => none,
    fun _ => none,
    fun _ => none,
    fun _ => none⟩)
noncomputable def fx_yes {M : Hp → Hp → Prop} {K : PySem.W.Frag} : FxS :=
  (⟨fun _ => none,
    fun _ => none,
    fun e => some (true, e),
    fun _ => none,
    fun _ => none⟩)
noncomputable def fx_tst {M : Hp → Hp → Prop} {K : PySem.W.Frag} : (Ex M K) → FxS → FxS :=
  (fun x i_x => ⟨fun _ => none,
    fun _ => none,
    fun e => match (i_x).e e with
    | some (.ok (.bool b), e1) => some (b, e1)
    | _ => none,
    fun _ => none,
    fun _ => none⟩)
noncomputable def fx_tb {M : Hp → Hp → Prop} {K : PySem.W.Frag} : (Ex M K) → FxS → FxS :=
  (fun x i_x => ⟨fun _ => none,
    fun _ => none,
    fun e => match (i_x).e e with
    | some (.ok (.bool b), e1) => some (b, e1)
    | _ => none,
    fun _ => none,
    fun _ => none⟩)
noncomputable def fx_tand {M : Hp → Hp → Prop} {K : PySem.W.Frag} : (Ex M K) → (Ex M K) → FxS → FxS → FxS :=
  (fun t u i_t i_u => ⟨fun _ => none,
    fun _ => none,
    fun e => match (i_t).t e with
    | some (true, e1) => (i_u).t e1
    | some (false, e1) => some (false, e1)
    | none => none,
    fun _ => none,
    fun _ => none⟩)
noncomputable def fx_tor {M : Hp → Hp → Prop} {K : PySem.W.Frag} : (Ex M K) → (Ex M K) → FxS → FxS → FxS :=
  (fun t u i_t i_u => ⟨fun _ => none,
    fun _ => none,
    fun e => match (i_t).t e with
    | some (false, e1) => (i_u).t e1
    | some (true, e1) => some (true, e1)
    | none => none,
    fun _ => none,
    fun _ => none⟩)
noncomputable def fx_tnot {M : Hp → Hp → Prop} {K : PySem.W.Frag} : (Ex M K) → FxS → FxS :=
  (fun t i_t => ⟨fun _ => none,
    fun _ => none,
    fun e => match (i_t).t e with
    | some (b, e1) => some (!b, e1)
    | none => none,
    fun _ => none,
    fun _ => none⟩)
noncomputable def fx_tbor {M : Hp → Hp → Prop} {K : PySem.W.Frag} : (Ex M K) → FxS → FxS :=
  (fun t i_t => ⟨fun _ => none,
    fun _ => none,
    fun e => match (i_t).t (mapF borS e) with
    | some (b, _) => some (b, e)
    | none => none,
    fun _ => none,
    fun _ => none⟩)
noncomputable def fx_iseq {M : Hp → Hp → Prop} {K : PySem.W.Frag} : (Ex M K) → FxS → FxS :=
  (fun x i_x => ⟨fun _ => none,
    fun _ => none,
    fun _ => none,
    fun _ => none,
    fun e => match (i_x).e e with
    | some (.ok (.list ds), e1) => some (ds, e1)
    | some (.ok (.tuple ds), e1) => some (ds, e1)
    | _ => none⟩)
noncomputable def fx_ienum {M : Hp → Hp → Prop} {K : PySem.W.Frag} : (Ex M K) → FxS → FxS :=
  (fun x i_x => ⟨fun _ => none,
    fun _ => none,
    fun _ => none,
    fun _ => none,
    fun e => match (i_x).e e with
    | some (.ok (.list ds), e1) => some (enumOfF 0 ds, e1)
    | some (.ok (.tuple ds), e1) => some (enumOfF 0 ds, e1)
    | _ => none⟩)
noncomputable def fx_irng {M : Hp → Hp → Prop} {K : PySem.W.Frag} : (Ex M K) → FxS → FxS :=
  (fun x i_x => ⟨fun _ => none,
    fun _ => none,
    fun _ => none,
    fun _ => none,
    fun e => match (i_x).e e with
    | some (.ok (.int n), e1) => if -(2 ^ 62) ≤ n ∧ n < 2 ^ 62 then some ((List.range n.toNat).map fun (i : Nat) => .int (i : Int), e1) else none
    | _ => none⟩)
noncomputable def fx_bad {M : Hp → Hp → Prop} {K : PySem.W.Frag} : FxS :=
  (⟨fun _ => none,
    fun _ => none,
    fun _ => none,
    fun _ => none,
    fun _ => none⟩)
noncomputable def evF {M : Hp → Hp → Prop} {K : PySem.W.Frag} : Ex M K → FxS := fun x => Ex.rec (motive := fun _ => FxS)
  (fx_var (M := M) (K := K))
  (fx_int (M := M) (K := K))
  (fx_str (M := M) (K := K))
  (fx_bl (M := M) (K := K))
  (fx_non (M := M) (K := K))
  (fun y_v y_d _ => fx_glo (M := M) (K := K) y_v y_d)
  (fx_op (M := M) (K := K))
  (fx_chain (M := M) (K := K))
  (fx_un (M := M) (K := K))
  (fx_fn (M := M) (K := K))
  (fx_isi (M := M) (K := K))
  (fx_lsOf (M := M) (K := K))
  (fx_call (M := M) (K := K))
  (fx_lend (M := M) (K := K))
  (fx_tup (M := M) (K := K))
  (fx_lst (M := M) (K := K))
  (fx_nil (M := M) (K := K))
  (fx_cons (M := M) (K := K))
  (fx_ifx (M := M) (K := K))
  (fx_andV (M := M) (K := K))
  (fx_orV (M := M) (K := K))
  (fx_notV (M := M) (K := K))
  (fx_bor (M := M) (K := K))
  (fx_sl (M := M) (K := K))
  (fx_sls (M := M) (K := K))
  (fx_nob (M := M) (K := K))
  (fx_part (M := M) (K := K))
  (fx_lc (M := M) (K := K))
  (fx_yes (M := M) (K := K))
  (fx_tst (M := M) (K := K))
  (fx_tb (M := M) (K := K))
  (fx_tand (M := M) (K := K))
  (fx_tor (M := M) (K := K))
  (fx_tnot (M := M) (K := K))
  (fx_tbor (M := M) (K := K))
  (fx_iseq (M := M) (K := K))
  (fx_ienum (M := M) (K := K))
  (fx_irng (M := M) (K := K))
  (fx_bad (M := M) (K := K))
  x
variable {M : Hp → Hp → Prop} {K : PySem.W.Frag}
structure SameX (x : Ex M K) : Prop where
  e : ∀ e, ev e x = (evF x).e e
  a : ∀ e, evA e x = (evF x).a e
  t : ∀ e, evT e x = (evF x).t e
  p : ∀ e, evP e x = (evF x).p e
  i : ∀ e, evI e x = (evF x).i e
theorem same_x (x : Ex M K) : SameX x := by
  induction x with
  | var i => constructor <;> intro e0 <;> simp only [ev, evA, evT, evP, evI, show evF (.var i : Ex M K) = fx_var (M := M) (K := K) i from rfl, fx_var, lk_eq, stF_eq, mapF_eq, asgTF_eq, asgZF_eq, forlF_eq, whlF_eq, lcAllF_eq, lcZF_eq, forzF_eq, whzF_eq, noListF_eq, enumOfF_eq, wipeVF_eq] <;> rfl
  | int i => constructor <;> intro e0 <;> simp only [ev, evA, evT, evP, evI, show evF (.int i : Ex M K) = fx_int (M := M) (K := K) i from rfl, fx_int, lk_eq, stF_eq, mapF_eq, asgTF_eq, asgZF_eq, forlF_eq, whlF_eq, lcAllF_eq, lcZF_eq, forzF_eq, whzF_eq, noListF_eq, enumOfF_eq, wipeVF_eq] <;> rfl
  | str s => constructor <;> intro e0 <;> simp only [ev, evA, evT, evP, evI, show evF (.str s : Ex M K) = fx_str (M := M) (K := K) s from rfl, fx_str, lk_eq, stF_eq, mapF_eq, asgTF_eq, asgZF_eq, forlF_eq, whlF_eq, lcAllF_eq, lcZF_eq, forzF_eq, whzF_eq, noListF_eq, enumOfF_eq, wipeVF_eq] <;> rfl
  | bl b => constructor <;> intro e0 <;> simp only [ev, evA, evT, evP, evI, show evF (.bl b : Ex M K) = fx_bl (M := M) (K := K) b from rfl, fx_bl, lk_eq, stF_eq, mapF_eq, asgTF_eq, asgZF_eq, forlF_eq, whlF_eq, lcAllF_eq, lcZF_eq, forzF_eq, whzF_eq, noListF_eq, enumOfF_eq, wipeVF_eq] <;> rfl
  | non => constructor <;> intro e0 <;> simp only [ev, evA, evT, evP, evI, show evF (.non : Ex M K) = fx_non (M := M) (K := K)  from rfl, fx_non, lk_eq, stF_eq, mapF_eq, asgTF_eq, asgZF_eq, forlF_eq, whlF_eq, lcAllF_eq, lcZF_eq, forzF_eq, whzF_eq, noListF_eq, enumOfF_eq, wipeVF_eq] <;> rfl
  | glo v d h => constructor <;> intro e0 <;> simp only [ev, evA, evT, evP, evI, show evF (.glo v d h : Ex M K) = fx_glo (M := M) (K := K) v d from rfl, fx_glo, lk_eq, stF_eq, mapF_eq, asgTF_eq, asgZF_eq, forlF_eq, whlF_eq, lcAllF_eq, lcZF_eq, forzF_eq, whzF_eq, noListF_eq, enumOfF_eq, wipeVF_eq] <;> rfl
  | op o a b h_a h_b => constructor <;> intro e0 <;> simp only [ev, evA, evT, evP, evI, h_a.e, h_a.a, h_a.t, h_a.p, h_a.i, h_b.e, h_b.a, h_b.t, h_b.p, h_b.i, show evF (.op o a b : Ex M K) = fx_op (M := M) (K := K) o a b (evF a) (evF b) from rfl, fx_op, lk_eq, stF_eq, mapF_eq, asgTF_eq, asgZF_eq, forlF_eq, whlF_eq, lcAllF_eq, lcZF_eq, forzF_eq, whzF_eq, noListF_eq, enumOfF_eq, wipeVF_eq] <;> rfl
  | chain o o' a b c h_a h_b h_c => constructor <;> intro e0 <;> simp only [ev, evA, evT, evP, evI, h_a.e, h_a.a, h_a.t, h_a.p, h_a.i, h_b.e, h_b.a, h_b.t, h_b.p, h_b.i, h_c.e, h_c.a, h_c.t, h_c.p, h_c.i, show evF (.chain o o' a b c : Ex M K) = fx_chain (M := M) (K := K) o o' a b c (evF a) (evF b) (evF c) from rfl, fx_chain, lk_eq, stF_eq, mapF_eq, asgTF_eq, asgZF_eq, forlF_eq, whlF_eq, lcAllF_eq, lcZF_eq, forzF_eq, whzF_eq, noListF_eq, enumOfF_eq, wipeVF_eq] <;> rfl
  | un o a h_a => constructor <;> intro e0 <;> simp only [ev, evA, evT, evP, evI, h_a.e, h_a.a, h_a.t, h_a.p, h_a.i, show evF (.un o a : Ex M K) = fx_un (M := M) (K := K) o a (evF a) from rfl, fx_un, lk_eq, stF_eq, mapF_eq, asgTF_eq, asgZF_eq, forlF_eq, whlF_eq, lcAllF_eq, lcZF_eq, forzF_eq, whzF_eq, noListF_eq, enumOfF_eq, wipeVF_eq] <;> rfl
  | fn o a h_a => constructor <;> intro e0 <;> simp only [ev, evA, evT, evP, evI, h_a.e, h_a.a, h_a.t, h_a.p, h_a.i, show evF (.fn o a : Ex M K) = fx_fn (M := M) (K := K) o a (evF a) from rfl, fx_fn, lk_eq, stF_eq, mapF_eq, asgTF_eq, asgZF_eq, forlF_eq, whlF_eq, lcAllF_eq, lcZF_eq, forzF_eq, whzF_eq, noListF_eq, enumOfF_eq, wipeVF_eq] <;> rfl
  | isi a T h_a => constructor <;> intro e0 <;> simp only [ev, evA, evT, evP, evI, h_a.e, h_a.a, h_a.t, h_a.p, h_a.i, show evF (.isi a T : Ex M K) = fx_isi (M := M) (K := K) a T (evF a) from rfl, fx_isi, lk_eq, stF_eq, mapF_eq, asgTF_eq, asgZF_eq, forlF_eq, whlF_eq, lcAllF_eq, lcZF_eq, forzF_eq, whzF_eq, noListF_eq, enumOfF_eq, wipeVF_eq] <;> rfl
  | lsOf a h_a => constructor <;> intro e0 <;> simp only [ev, evA, evT, evP, evI, h_a.e, h_a.a, h_a.t, h_a.p, h_a.i, show evF (.lsOf a : Ex M K) = fx_lsOf (M := M) (K := K) a (evF a) from rfl, fx_lsOf, lk_eq, stF_eq, mapF_eq, asgTF_eq, asgZF_eq, forlF_eq, whlF_eq, lcAllF_eq, lcZF_eq, forzF_eq, whzF_eq, noListF_eq, enumOfF_eq, wipeVF_eq] <;> rfl
  | call s a h_a => constructor <;> intro e0 <;> simp only [ev, evA, evT, evP, evI, h_a.e, h_a.a, h_a.t, h_a.p, h_a.i, show evF (.call s a : Ex M K) = fx_call (M := M) (K := K) s a (evF a) from rfl, fx_call, lk_eq, stF_eq, mapF_eq, asgTF_eq, asgZF_eq, forlF_eq, whlF_eq, lcAllF_eq, lcZF_eq, forzF_eq, whzF_eq, noListF_eq, enumOfF_eq, wipeVF_eq] <;> rfl
  | lend s i a h_a => constructor <;> intro e0 <;> simp only [ev, evA, evT, evP, evI, h_a.e, h_a.a, h_a.t, h_a.p, h_a.i, show evF (.lend s i a : Ex M K) = fx_lend (M := M) (K := K) s i a (evF a) from rfl, fx_lend, lk_eq, stF_eq, mapF_eq, asgTF_eq, asgZF_eq, forlF_eq, whlF_eq, lcAllF_eq, lcZF_eq, forzF_eq, whzF_eq, noListF_eq, enumOfF_eq, wipeVF_eq] <;> rfl
  | tup a h_a => constructor <;> intro e0 <;> simp only [ev, evA, evT, evP, evI, h_a.e, h_a.a, h_a.t, h_a.p, h_a.i, show evF (.tup a : Ex M K) = fx_tup (M := M) (K := K) a (evF a) from rfl, fx_tup, lk_eq, stF_eq, mapF_eq, asgTF_eq, asgZF_eq, forlF_eq, whlF_eq, lcAllF_eq, lcZF_eq, forzF_eq, whzF_eq, noListF_eq, enumOfF_eq, wipeVF_eq] <;> rfl
  | lst a h_a => constructor <;> intro e0 <;> simp only [ev, evA, evT, evP, evI, h_a.e, h_a.a, h_a.t, h_a.p, h_a.i, show evF (.lst a : Ex M K) = fx_lst (M := M) (K := K) a (evF a) from rfl, fx_lst, lk_eq, stF_eq, mapF_eq, asgTF_eq, asgZF_eq, forlF_eq, whlF_eq, lcAllF_eq, lcZF_eq, forzF_eq, whzF_eq, noListF_eq, enumOfF_eq, wipeVF_eq] <;> rfl
  | nil => constructor <;> intro e0 <;> simp only [ev, evA, evT, evP, evI, show evF (.nil : Ex M K) = fx_nil (M := M) (K := K)  from rfl, fx_nil, lk_eq, stF_eq, mapF_eq, asgTF_eq, asgZF_eq, forlF_eq, whlF_eq, lcAllF_eq, lcZF_eq, forzF_eq, whzF_eq, noListF_eq, enumOfF_eq, wipeVF_eq] <;> rfl
  | cons e r h_e h_r => constructor <;> intro e0 <;> simp only [ev, evA, evT, evP, evI, h_e.e, h_e.a, h_e.t, h_e.p, h_e.i, h_r.e, h_r.a, h_r.t, h_r.p, h_r.i, show evF (.cons e r : Ex M K) = fx_cons (M := M) (K := K) e r (evF e) (evF r) from rfl, fx_cons, lk_eq, stF_eq, mapF_eq, asgTF_eq, asgZF_eq, forlF_eq, whlF_eq, lcAllF_eq, lcZF_eq, forzF_eq, whzF_eq, noListF_eq, enumOfF_eq, wipeVF_eq] <;> rfl
  | ifx t a b h_t h_a h_b => constructor <;> intro e0 <;> simp only [ev, evA, evT, evP, evI, h_t.e, h_t.a, h_t.t, h_t.p, h_t.i, h_a.e, h_a.a, h_a.t, h_a.p, h_a.i, h_b.e, h_b.a, h_b.t, h_b.p, h_b.i, show evF (.ifx t a b : Ex M K) = fx_ifx (M := M) (K := K) t a b (evF t) (evF a) (evF b) from rfl, fx_ifx, lk_eq, stF_eq, mapF_eq, asgTF_eq, asgZF_eq, forlF_eq, whlF_eq, lcAllF_eq, lcZF_eq, forzF_eq, whzF_eq, noListF_eq, enumOfF_eq, wipeVF_eq] <;> rfl
  | andV a b h_a h_b => constructor <;> intro e0 <;> simp only [ev, evA, evT, evP, evI, h_a.e, h_a.a, h_a.t, h_a.p, h_a.i, h_b.e, h_b.a, h_b.t, h_b.p, h_b.i, show evF (.andV a b : Ex M K) = fx_andV (M := M) (K := K) a b (evF a) (evF b) from rfl, fx_andV, lk_eq, stF_eq, mapF_eq, asgTF_eq, asgZF_eq, forlF_eq, whlF_eq, lcAllF_eq, lcZF_eq, forzF_eq, whzF_eq, noListF_eq, enumOfF_eq, wipeVF_eq] <;> rfl
  | orV a b h_a h_b => constructor <;> intro e0 <;> simp only [ev, evA, evT, evP, evI, h_a.e, h_a.a, h_a.t, h_a.p, h_a.i, h_b.e, h_b.a, h_b.t, h_b.p, h_b.i, show evF (.orV a b : Ex M K) = fx_orV (M := M) (K := K) a b (evF a) (evF b) from rfl, fx_orV, lk_eq, stF_eq, mapF_eq, asgTF_eq, asgZF_eq, forlF_eq, whlF_eq, lcAllF_eq, lcZF_eq, forzF_eq, whzF_eq, noListF_eq, enumOfF_eq, wipeVF_eq] <;> rfl
  | notV a h_a => constructor <;> intro e0 <;> simp only [ev, evA, evT, evP, evI, h_a.e, h_a.a, h_a.t, h_a.p, h_a.i, show evF (.notV a : Ex M K) = fx_notV (M := M) (K := K) a (evF a) from rfl, fx_notV, lk_eq, stF_eq, mapF_eq, asgTF_eq, asgZF_eq, forlF_eq, whlF_eq, lcAllF_eq, lcZF_eq, forzF_eq, whzF_eq, noListF_eq, enumOfF_eq, wipeVF_eq] <;> rfl
  | bor e h_e => constructor <;> intro e0 <;> simp only [ev, evA, evT, evP, evI, h_e.e, h_e.a, h_e.t, h_e.p, h_e.i, show evF (.bor e : Ex M K) = fx_bor (M := M) (K := K) e (evF e) from rfl, fx_bor, lk_eq, stF_eq, mapF_eq, asgTF_eq, asgZF_eq, forlF_eq, whlF_eq, lcAllF_eq, lcZF_eq, forzF_eq, whzF_eq, noListF_eq, enumOfF_eq, wipeVF_eq] <;> rfl
  | sl a lo hi h_a h_lo h_hi => constructor <;> intro e0 <;> simp only [ev, evA, evT, evP, evI, h_a.e, h_a.a, h_a.t, h_a.p, h_a.i, h_lo.e, h_lo.a, h_lo.t, h_lo.p, h_lo.i, h_hi.e, h_hi.a, h_hi.t, h_hi.p, h_hi.i, show evF (.sl a lo hi : Ex M K) = fx_sl (M := M) (K := K) a lo hi (evF a) (evF lo) (evF hi) from rfl, fx_sl, lk_eq, stF_eq, mapF_eq, asgTF_eq, asgZF_eq, forlF_eq, whlF_eq, lcAllF_eq, lcZF_eq, forzF_eq, whzF_eq, noListF_eq, enumOfF_eq, wipeVF_eq] <;> rfl
  | sls a lo hi st h_a h_lo h_hi h_st => constructor <;> intro e0 <;> simp only [ev, evA, evT, evP, evI, h_a.e, h_a.a, h_a.t, h_a.p, h_a.i, h_lo.e, h_lo.a, h_lo.t, h_lo.p, h_lo.i, h_hi.e, h_hi.a, h_hi.t, h_hi.p, h_hi.i, h_st.e, h_st.a, h_st.t, h_st.p, h_st.i, show evF (.sls a lo hi st : Ex M K) = fx_sls (M := M) (K := K) a lo hi st (evF a) (evF lo) (evF hi) (evF st) from rfl, fx_sls, lk_eq, stF_eq, mapF_eq, asgTF_eq, asgZF_eq, forlF_eq, whlF_eq, lcAllF_eq, lcZF_eq, forzF_eq, whzF_eq, noListF_eq, enumOfF_eq, wipeVF_eq] <;> rfl
  | nob => constructor <;> intro e0 <;> simp only [ev, evA, evT, evP, evI, show evF (.nob : Ex M K) = fx_nob (M := M) (K := K)  from rfl, fx_nob, lk_eq, stF_eq, mapF_eq, asgTF_eq, asgZF_eq, forlF_eq, whlF_eq, lcAllF_eq, lcZF_eq, forzF_eq, whzF_eq, noListF_eq, enumOfF_eq, wipeVF_eq] <;> rfl
  | part x h_x => constructor <;> intro e0 <;> simp only [ev, evA, evT, evP, evI, h_x.e, h_x.a, h_x.t, h_x.p, h_x.i, show evF (.part x : Ex M K) = fx_part (M := M) (K := K) x (evF x) from rfl, fx_part, lk_eq, stF_eq, mapF_eq, asgTF_eq, asgZF_eq, forlF_eq, whlF_eq, lcAllF_eq, lcZF_eq, forzF_eq, whzF_eq, noListF_eq, enumOfF_eq, wipeVF_eq] <;> rfl
  | lc it tg tt e h_it h_tt h_e => constructor <;> intro e0 <;> simp only [ev, evA, evT, evP, evI, h_it.e, h_it.a, h_it.t, h_it.p, h_it.i, h_tt.e, h_tt.a, h_tt.t, h_tt.p, h_tt.i, h_e.e, h_e.a, h_e.t, h_e.p, h_e.i, show evF (.lc it tg tt e : Ex M K) = fx_lc (M := M) (K := K) it tg tt e (evF it) (evF tt) (evF e) from rfl, fx_lc, lk_eq, stF_eq, mapF_eq, asgTF_eq, asgZF_eq, forlF_eq, whlF_eq, lcAllF_eq, lcZF_eq, forzF_eq, whzF_eq, noListF_eq, enumOfF_eq, wipeVF_eq] <;> rfl
  | yes => constructor <;> intro e0 <;> simp only [ev, evA, evT, evP, evI, show evF (.yes : Ex M K) = fx_yes (M := M) (K := K)  from rfl, fx_yes, lk_eq, stF_eq, mapF_eq, asgTF_eq, asgZF_eq, forlF_eq, whlF_eq, lcAllF_eq, lcZF_eq, forzF_eq, whzF_eq, noListF_eq, enumOfF_eq, wipeVF_eq] <;> rfl
  | tst e h_e => constructor <;> intro e0 <;> simp only [ev, evA, evT, evP, evI, h_e.e, h_e.a, h_e.t, h_e.p, h_e.i, show evF (.tst e : Ex M K) = fx_tst (M := M) (K := K) e (evF e) from rfl, fx_tst, lk_eq, stF_eq, mapF_eq, asgTF_eq, asgZF_eq, forlF_eq, whlF_eq, lcAllF_eq, lcZF_eq, forzF_eq, whzF_eq, noListF_eq, enumOfF_eq, wipeVF_eq] <;> rfl
  | tb e h_e => constructor <;> intro e0 <;> simp only [ev, evA, evT, evP, evI, h_e.e, h_e.a, h_e.t, h_e.p, h_e.i, show evF (.tb e : Ex M K) = fx_tb (M := M) (K := K) e (evF e) from rfl, fx_tb, lk_eq, stF_eq, mapF_eq, asgTF_eq, asgZF_eq, forlF_eq, whlF_eq, lcAllF_eq, lcZF_eq, forzF_eq, whzF_eq, noListF_eq, enumOfF_eq, wipeVF_eq] <;> rfl
  | tand t u h_t h_u => constructor <;> intro e0 <;> simp only [ev, evA, evT, evP, evI, h_t.e, h_t.a, h_t.t, h_t.p, h_t.i, h_u.e, h_u.a, h_u.t, h_u.p, h_u.i, show evF (.tand t u : Ex M K) = fx_tand (M := M) (K := K) t u (evF t) (evF u) from rfl, fx_tand, lk_eq, stF_eq, mapF_eq, asgTF_eq, asgZF_eq, forlF_eq, whlF_eq, lcAllF_eq, lcZF_eq, forzF_eq, whzF_eq, noListF_eq, enumOfF_eq, wipeVF_eq] <;> rfl
  | tor t u h_t h_u => constructor <;> intro e0 <;> simp only [ev, evA, evT, evP, evI, h_t.e, h_t.a, h_t.t, h_t.p, h_t.i, h_u.e, h_u.a, h_u.t, h_u.p, h_u.i, show evF (.tor t u : Ex M K) = fx_tor (M := M) (K := K) t u (evF t) (evF u) from rfl, fx_tor, lk_eq, stF_eq, mapF_eq, asgTF_eq, asgZF_eq, forlF_eq, whlF_eq, lcAllF_eq, lcZF_eq, forzF_eq, whzF_eq, noListF_eq, enumOfF_eq, wipeVF_eq] <;> rfl
  | tnot t h_t => constructor <;> intro e0 <;> simp only [ev, evA, evT, evP, evI, h_t.e, h_t.a, h_t.t, h_t.p, h_t.i, show evF (.tnot t : Ex M K) = fx_tnot (M := M) (K := K) t (evF t) from rfl, fx_tnot, lk_eq, stF_eq, mapF_eq, asgTF_eq, asgZF_eq, forlF_eq, whlF_eq, lcAllF_eq, lcZF_eq, forzF_eq, whzF_eq, noListF_eq, enumOfF_eq, wipeVF_eq] <;> rfl
  | tbor t h_t => constructor <;> intro e0 <;> simp only [ev, evA, evT, evP, evI, h_t.e, h_t.a, h_t.t, h_t.p, h_t.i, show evF (.tbor t : Ex M K) = fx_tbor (M := M) (K := K) t (evF t) from rfl, fx_tbor, lk_eq, stF_eq, mapF_eq, asgTF_eq, asgZF_eq, forlF_eq, whlF_eq, lcAllF_eq, lcZF_eq, forzF_eq, whzF_eq, noListF_eq, enumOfF_eq, wipeVF_eq] <;> rfl
  | iseq e h_e => constructor <;> intro e0 <;> simp only [ev, evA, evT, evP, evI, h_e.e, h_e.a, h_e.t, h_e.p, h_e.i, show evF (.iseq e : Ex M K) = fx_iseq (M := M) (K := K) e (evF e) from rfl, fx_iseq, lk_eq, stF_eq, mapF_eq, asgTF_eq, asgZF_eq, forlF_eq, whlF_eq, lcAllF_eq, lcZF_eq, forzF_eq, whzF_eq, noListF_eq, enumOfF_eq, wipeVF_eq] <;> rfl
  | ienum e h_e => constructor <;> intro e0 <;> simp only [ev, evA, evT, evP, evI, h_e.e, h_e.a, h_e.t, h_e.p, h_e.i, show evF (.ienum e : Ex M K) = fx_ienum (M := M) (K := K) e (evF e) from rfl, fx_ienum, lk_eq, stF_eq, mapF_eq, asgTF_eq, asgZF_eq, forlF_eq, whlF_eq, lcAllF_eq, lcZF_eq, forzF_eq, whzF_eq, noListF_eq, enumOfF_eq, wipeVF_eq] <;> rfl
  | irng e h_e => constructor <;> intro e0 <;> simp only [ev, evA, evT, evP, evI, h_e.e, h_e.a, h_e.t, h_e.p, h_e.i, show evF (.irng e : Ex M K) = fx_irng (M := M) (K := K) e (evF e) from rfl, fx_irng, lk_eq, stF_eq, mapF_eq, asgTF_eq, asgZF_eq, forlF_eq, whlF_eq, lcAllF_eq, lcZF_eq, forzF_eq, whzF_eq, noListF_eq, enumOfF_eq, wipeVF_eq] <;> rfl
  | bad => constructor <;> intro e0 <;> simp only [ev, evA, evT, evP, evI, show evF (.bad : Ex M K) = fx_bad (M := M) (K := K)  from rfl, fx_bad, lk_eq, stF_eq, mapF_eq, asgTF_eq, asgZF_eq, forlF_eq, whlF_eq, lcAllF_eq, lcZF_eq, forzF_eq, whzF_eq, noListF_eq, enumOfF_eq, wipeVF_eq] <;> rfl
abbrev RnF := Vs → Option Out
noncomputable def fs_nx {M : Hp → Hp → Prop} {K : PySem.W.Frag} : (Vs → Option Out) :=
  (fun e => some (.nx e))
noncomputable def fs_seq {M : Hp → Hp → Prop} {K : PySem.W.Frag} : (St M K) → (St M K) → (Vs → Option Out) → (Vs → Option Out) → (Vs → Option Out) :=
  (fun s t i_s i_t => fun e => match i_s e with
    | some (.nx e1) => i_t e1
    | o => o)
noncomputable def fs_ret {M : Hp → Hp → Prop} {K : PySem.W.Frag} : (Ex M K) → (Vs → Option Out) :=
  (fun x => fun e => match (evF x).e e with
    | some (.ok d, e1) => some (.rt d e1)
    | some (.exc C, _) => some (.exc C)
    | none => none)
noncomputable def fs_retN {M : Hp → Hp → Prop} {K : PySem.W.Frag} : (Vs → Option Out) :=
  (fun e => some (.rt .none e))
noncomputable def fs_retO {M : Hp → Hp → Prop} {K : PySem.W.Frag} : (Nat) → (Vs → Option Out) :=
  (fun i => fun e => match (lk e i) with
    | some (.own _ ds) => some (.rt (.list ds) (stF e i .no))
    | _ => none)
noncomputable def fs_asg {M : Hp → Hp → Prop} {K : PySem.W.Frag} : (Tg) → (Ex M K) → (Vs → Option Out) :=
  (fun tg x => fun e => match (evF x).e e with
    | some (.ok d, e1) => match asgTF e1 d tg with
      | some e2 => some (.nx e2)
      | none => none
    | some (.exc C, _) => some (.exc C)
    | none => none)
noncomputable def fs_own {M : Hp → Hp → Prop} {K : PySem.W.Frag} : (Nat) → (Ex M K) → (Vs → Option Out) :=
  (fun i x => fun e => if fresh x then match (evF x).e e with
    | some (.ok (.list ds), e1) => some (.nx (stF e1 i (.own false ds)))
    | _ => none else none)
noncomputable def fs_par {M : Hp → Hp → Prop} {K : PySem.W.Frag} : (Nat) → (Nat) → (Ex M K) → (Ex M K) → (Vs → Option Out) :=
  (fun i j a b => fun e => match (evF a).e e with
    | some (.ok x, e1) => match (evF b).e e1 with
      | some (.ok y, e2) => some (.nx (stF (stF e2 i (.val x)) j (.val y)))
      | _ => none
    | _ => none)
noncomputable def fs_drop {M : Hp → Hp → Prop} {K : PySem.W.Frag} : (Ex M K) → (Vs → Option Out) :=
  (fun x => fun e => match (evF x).e e with
    | some (.ok _, e1) => some (.nx e1)
    | some (.exc C, _) => some (.exc C)
    | none => none)
noncomputable def fs_app {M : Hp → Hp → Prop} {K : PySem.W.Frag} : (Nat) → (Ex M K) → (Vs → Option Out) :=
  (fun i x => fun e => match (evF x).e e with
    | some (.ok d, e1) => match (lk e i), (lk e1 i) with
      | some (.own _ _), some (.own q ds) => if ds.length < 1000000 then some (.nx (stF e1 i (.own q (ds ++ [d])))) else none
      | _, _ => none
    | _ => none)
noncomputable def fs_pop {M : Hp → Hp → Prop} {K : PySem.W.Frag} : (Nat) → (Vs → Option Out) :=
  (fun i => fun e => match (lk e i) with
    | some (.own q ds) => if ds.length = 0 then none else some (.nx (stF e i (.own q ds.dropLast)))
    | _ => none)
noncomputable def fs_setO {M : Hp → Hp → Prop} {K : PySem.W.Frag} : (Nat) → (Ex M K) → (Ex M K) → (Vs → Option Out) :=
  (fun i ix x => fun e => match (evF x).e e with
    | some (.ok d, e1) => match (evF ix).e e1 with
      | some (.ok (.int k), e2) => match (lk e1 i), (lk e2 i) with
        | some (.own _ _), some (.own q ds) => match ixN ds.length k with
          | some j => some (.nx (stF e2 i (.own q (stF ds j d))))
          | none => none
        | _, _ => none
      | _ => none
    | _ => none)
noncomputable def fs_ife {M : Hp → Hp → Prop} {K : PySem.W.Frag} : (Ex M K) → (St M K) → (St M K) → (Vs → Option Out) → (Vs → Option Out) → (Vs → Option Out) :=
  (fun t a b i_a i_b => fun e => match (evF t).t e with
    | some (true, e1) => i_a e1
    | some (false, e1) => i_b e1
    | none => none)
noncomputable def fs_wh {M : Hp → Hp → Prop} {K : PySem.W.Frag} : (Nat) → (Ex M K) → (St M K) → (Vs → Option Out) → (Vs → Option Out) :=
  (fun n t b i_b => fun e => whlF (fun e => (evF t).t e) i_b n e)
noncomputable def fs_fr {M : Hp → Hp → Prop} {K : PySem.W.Frag} : (Ex M K) → (Tg) → (St M K) → (Vs → Option Out) → (Vs → Option Out) :=
  (fun it tg b i_b => fun e => match (evF it).i e with
    | some (ds, e1) => forlF tg i_b ds e1
    | none => none)
noncomputable def fs_brk {M : Hp → Hp → Prop} {K : PySem.W.Frag} : (Vs → Option Out) :=
  (fun e => some (.bk e))
noncomputable def fs_cnt {M : Hp → Hp → Prop} {K : PySem.W.Frag} : (Vs → Option Out) :=
  (fun e => some (.ct e))
noncomputable def fs_rais {M : Hp → Hp → Prop} {K : PySem.W.Frag} : (Value) → (Vs → Option Out) :=
  (fun C => fun e => some (.exc C))
noncomputable def fs_bad {M : Hp → Hp → Prop} {K : PySem.W.Frag} : (Vs → Option Out) :=
  (fun e => none)
noncomputable def runF {M : Hp → Hp → Prop} {K : PySem.W.Frag} : St M K → Vs → Option Out := fun s => St.rec (motive := fun _ => Vs → Option Out)
  (fs_nx (M := M) (K := K))
  (fs_seq (M := M) (K := K))
  (fs_ret (M := M) (K := K))
  (fs_retN (M := M) (K := K))
  (fs_retO (M := M) (K := K))
  (fs_asg (M := M) (K := K))
  (fs_own (M := M) (K := K))
  (fs_par (M := M) (K := K))
  (fs_drop (M := M) (K := K))
  (fs_app (M := M) (K := K))
  (fs_pop (M := M) (K := K))
  (fs_setO (M := M) (K := K))
  (fs_ife (M := M) (K := K))
  (fs_wh (M := M) (K := K))
  (fs_fr (M := M) (K := K))
  (fs_brk (M := M) (K := K))
  (fs_cnt (M := M) (K := K))
  (fs_rais (M := M) (K := K))
  (fs_bad (M := M) (K := K))
  s
theorem same_s (s : St M K) : ∀ e, run s e = runF s e := by
  induction s with
  | nx => intro e0; simp only [run, show runF (.nx : St M K) = fs_nx (M := M) (K := K)  from rfl, fs_nx, lk_eq, stF_eq, mapF_eq, asgTF_eq, asgZF_eq, forlF_eq, whlF_eq, lcAllF_eq, lcZF_eq, forzF_eq, whzF_eq, noListF_eq, enumOfF_eq, wipeVF_eq] <;> rfl
  | seq s t h_s h_t => intro e0; simp only [run, h_s, h_t, show runF (.seq s t : St M K) = fs_seq (M := M) (K := K) s t (runF s) (runF t) from rfl, fs_seq, lk_eq, stF_eq, mapF_eq, asgTF_eq, asgZF_eq, forlF_eq, whlF_eq, lcAllF_eq, lcZF_eq, forzF_eq, whzF_eq, noListF_eq, enumOfF_eq, wipeVF_eq] <;> rfl
  | ret e => intro e0; simp only [run, (same_x e).e, (same_x e).t, (same_x e).i, show runF (.ret e : St M K) = fs_ret (M := M) (K := K) e from rfl, fs_ret, lk_eq, stF_eq, mapF_eq, asgTF_eq, asgZF_eq, forlF_eq, whlF_eq, lcAllF_eq, lcZF_eq, forzF_eq, whzF_eq, noListF_eq, enumOfF_eq, wipeVF_eq] <;> rfl
  | retN => intro e0; simp only [run, show runF (.retN : St M K) = fs_retN (M := M) (K := K)  from rfl, fs_retN, lk_eq, stF_eq, mapF_eq, asgTF_eq, asgZF_eq, forlF_eq, whlF_eq, lcAllF_eq, lcZF_eq, forzF_eq, whzF_eq, noListF_eq, enumOfF_eq, wipeVF_eq] <;> rfl
  | retO i => intro e0; simp only [run, show runF (.retO i : St M K) = fs_retO (M := M) (K := K) i from rfl, fs_retO, lk_eq, stF_eq, mapF_eq, asgTF_eq, asgZF_eq, forlF_eq, whlF_eq, lcAllF_eq, lcZF_eq, forzF_eq, whzF_eq, noListF_eq, enumOfF_eq, wipeVF_eq] <;> rfl
  | asg tg e => intro e0; simp only [run, (same_x e).e, (same_x e).t, (same_x e).i, show runF (.asg tg e : St M K) = fs_asg (M := M) (K := K) tg e from rfl, fs_asg, lk_eq, stF_eq, mapF_eq, asgTF_eq, asgZF_eq, forlF_eq, whlF_eq, lcAllF_eq, lcZF_eq, forzF_eq, whzF_eq, noListF_eq, enumOfF_eq, wipeVF_eq] <;> rfl
  | own i e => intro e0; simp only [run, (same_x e).e, (same_x e).t, (same_x e).i, show runF (.own i e : St M K) = fs_own (M := M) (K := K) i e from rfl, fs_own, lk_eq, stF_eq, mapF_eq, asgTF_eq, asgZF_eq, forlF_eq, whlF_eq, lcAllF_eq, lcZF_eq, forzF_eq, whzF_eq, noListF_eq, enumOfF_eq, wipeVF_eq] <;> rfl
  | par i j a b => intro e0; simp only [run, (same_x a).e, (same_x a).t, (same_x a).i, (same_x b).e, (same_x b).t, (same_x b).i, show runF (.par i j a b : St M K) = fs_par (M := M) (K := K) i j a b from rfl, fs_par, lk_eq, stF_eq, mapF_eq, asgTF_eq, asgZF_eq, forlF_eq, whlF_eq, lcAllF_eq, lcZF_eq, forzF_eq, whzF_eq, noListF_eq, enumOfF_eq, wipeVF_eq] <;> rfl
  | drop e => intro e0; simp only [run, (same_x e).e, (same_x e).t, (same_x e).i, show runF (.drop e : St M K) = fs_drop (M := M) (K := K) e from rfl, fs_drop, lk_eq, stF_eq, mapF_eq, asgTF_eq, asgZF_eq, forlF_eq, whlF_eq, lcAllF_eq, lcZF_eq, forzF_eq, whzF_eq, noListF_eq, enumOfF_eq, wipeVF_eq] <;> rfl
  | app i e => intro e0; simp only [run, (same_x e).e, (same_x e).t, (same_x e).i, show runF (.app i e : St M K) = fs_app (M := M) (K := K) i e from rfl, fs_app, lk_eq, stF_eq, mapF_eq, asgTF_eq, asgZF_eq, forlF_eq, whlF_eq, lcAllF_eq, lcZF_eq, forzF_eq, whzF_eq, noListF_eq, enumOfF_eq, wipeVF_eq] <;> rfl
  | pop i => intro e0; simp only [run, show runF (.pop i : St M K) = fs_pop (M := M) (K := K) i from rfl, fs_pop, lk_eq, stF_eq, mapF_eq, asgTF_eq, asgZF_eq, forlF_eq, whlF_eq, lcAllF_eq, lcZF_eq, forzF_eq, whzF_eq, noListF_eq, enumOfF_eq, wipeVF_eq] <;> rfl
  | setO i ix e => intro e0; simp only [run, (same_x ix).e, (same_x ix).t, (same_x ix).i, (same_x e).e, (same_x e).t, (same_x e).i, show runF (.setO i ix e : St M K) = fs_setO (M := M) (K := K) i ix e from rfl, fs_setO, lk_eq, stF_eq, mapF_eq, asgTF_eq, asgZF_eq, forlF_eq, whlF_eq, lcAllF_eq, lcZF_eq, forzF_eq, whzF_eq, noListF_eq, enumOfF_eq, wipeVF_eq] <;> rfl
  | ife t a b h_a h_b => intro e0; simp only [run, (same_x t).e, (same_x t).t, (same_x t).i, h_a, h_b, show runF (.ife t a b : St M K) = fs_ife (M := M) (K := K) t a b (runF a) (runF b) from rfl, fs_ife, lk_eq, stF_eq, mapF_eq, asgTF_eq, asgZF_eq, forlF_eq, whlF_eq, lcAllF_eq, lcZF_eq, forzF_eq, whzF_eq, noListF_eq, enumOfF_eq, wipeVF_eq] <;> rfl
  | wh n t b h_b => intro e0; simp only [run, (same_x t).e, (same_x t).t, (same_x t).i, show runF (.wh n t b : St M K) = fs_wh (M := M) (K := K) n t b (runF b) from rfl, fs_wh, lk_eq, stF_eq, mapF_eq, asgTF_eq, asgZF_eq, forlF_eq, whlF_eq, lcAllF_eq, lcZF_eq, forzF_eq, whzF_eq, noListF_eq, enumOfF_eq, wipeVF_eq] <;> (rw [show (run b) = runF b from funext h_b] <;> first | rfl | (split <;> rfl))
  | fr it tg b h_b => intro e0; simp only [run, (same_x it).e, (same_x it).t, (same_x it).i, show runF (.fr it tg b : St M K) = fs_fr (M := M) (K := K) it tg b (runF b) from rfl, fs_fr, lk_eq, stF_eq, mapF_eq, asgTF_eq, asgZF_eq, forlF_eq, whlF_eq, lcAllF_eq, lcZF_eq, forzF_eq, whzF_eq, noListF_eq, enumOfF_eq, wipeVF_eq] <;> (rw [show (run b) = runF b from funext h_b] <;> first | rfl | (split <;> rfl))
  | brk => intro e0; simp only [run, show runF (.brk : St M K) = fs_brk (M := M) (K := K)  from rfl, fs_brk, lk_eq, stF_eq, mapF_eq, asgTF_eq, asgZF_eq, forlF_eq, whlF_eq, lcAllF_eq, lcZF_eq, forzF_eq, whzF_eq, noListF_eq, enumOfF_eq, wipeVF_eq] <;> rfl
  | cnt => intro e0; simp only [run, show runF (.cnt : St M K) = fs_cnt (M := M) (K := K)  from rfl, fs_cnt, lk_eq, stF_eq, mapF_eq, asgTF_eq, asgZF_eq, forlF_eq, whlF_eq, lcAllF_eq, lcZF_eq, forzF_eq, whzF_eq, noListF_eq, enumOfF_eq, wipeVF_eq] <;> rfl
  | rais C => intro e0; simp only [run, show runF (.rais C : St M K) = fs_rais (M := M) (K := K) C from rfl, fs_rais, lk_eq, stF_eq, mapF_eq, asgTF_eq, asgZF_eq, forlF_eq, whlF_eq, lcAllF_eq, lcZF_eq, forzF_eq, whzF_eq, noListF_eq, enumOfF_eq, wipeVF_eq] <;> rfl
  | bad => intro e0; simp only [run, show runF (.bad : St M K) = fs_bad (M := M) (K := K)  from rfl, fs_bad, lk_eq, stF_eq, mapF_eq, asgTF_eq, asgZF_eq, forlF_eq, whlF_eq, lcAllF_eq, lcZF_eq, forzF_eq, whzF_eq, noListF_eq, enumOfF_eq, wipeVF_eq] <;> rfl
structure FzS where
  e : Zs → Option (Rd × Zs)
  a : Zs → Option ((List Dt ⊕ Value) × Zs)
  t : Zs → Option (Bool × Zs)
  i : Zs → Option (List Dt × Zs)
noncomputable def fz_pu {M : Hp → Hp → Prop} {K : PySem.W.Frag} {CA : Str → Addr} : (Ex M K) → FzS :=
  (fun x => ⟨fun e => match (evF x).e e.v with
    | some (r, v) => some (r, ⟨v, e.s⟩)
    | none => none,
    fun _ => none,
    fun _ => none,
    fun _ => none⟩)
noncomputable def fz_op {M : Hp → Hp → Prop} {K : PySem.W.Frag} {CA : Str → Addr} : (O2 M K) → (Zx M K CA) → (Zx M K CA) → FzS → FzS → FzS :=
  (fun o a b i_a i_b => ⟨fun e => match (i_a).e e with
    | some (.ok x, e1) => match (i_b).e e1 with
      | some (.ok y, e2) => match o.f x y with
        | some z => some (.ok z, e2)
        | none => none
      | _ => none
    | _ => none,
    fun _ => none,
    fun _ => none,
    fun _ => none⟩)
noncomputable def fz_un {M : Hp → Hp → Prop} {K : PySem.W.Frag} {CA : Str → Addr} : (OU M K) → (Zx M K CA) → FzS → FzS :=
  (fun o a i_a => ⟨fun e => match (i_a).e e with
    | some (.ok x, e1) => match o.f x with
      | some z => some (.ok z, e1)
      | none => none
    | _ => none,
    fun _ => none,
    fun _ => none,
    fun _ => none⟩)
noncomputable def fz_fn {M : Hp → Hp → Prop} {K : PySem.W.Frag} {CA : Str → Addr} : (ON M K) → (Zx M K CA) → FzS → FzS :=
  (fun o a i_a => ⟨fun e => match (i_a).a e with
    | some (.inl xs, e1) => match o.f xs with
      | some z => some (.ok z, e1)
      | none => none
    | _ => none,
    fun _ => none,
    fun _ => none,
    fun _ => none⟩)
noncomputable def fz_call {M : Hp → Hp → Prop} {K : PySem.W.Frag} {CA : Str → Addr} : (Zf) → (Zx M K CA) → FzS → FzS :=
  (fun s a i_a => ⟨fun e => match (i_a).a e with
    | some (.inl xs, e1) => match s e1.s xs with
      | some (r, S) => some (r, ⟨e1.v, S⟩)
      | none => none
    | some (.inr C, e1) => some (.exc C, e1)
    | _ => none,
    fun _ => none,
    fun _ => none,
    fun _ => none⟩)
noncomputable def fz_callP {M : Hp → Hp → Prop} {K : PySem.W.Frag} {CA : Str → Addr} : (List Dt → Option Rd) → (Zx M K CA) → FzS → FzS :=
  (fun s a i_a => ⟨fun e => match (i_a).a e with
    | some (.inl xs, e1) => match s xs with
      | some r => some (r, e1)
      | none => none
    | some (.inr C, e1) => some (.exc C, e1)
    | _ => none,
    fun _ => none,
    fun _ => none,
    fun _ => none⟩)
noncomputable def fz_meth {M : Hp → Hp → Prop} {K : PySem.W.Frag} {CA : Str → Addr} : (Str) → (Str) → (Zf) → (Zx M K CA) → (Zx M K CA) → FzS → FzS → FzS :=
  (fun cls m s o a i_o i_a => ⟨fun e => match (i_o).e e with
    | some (.ok (.obj i), e1) => match (lk e1.s i) with
      | some c => if (c.cls = cls ∧ c.ks = none) ∧ c.fs.lookup m = none then match (i_a).a e1 with
          | some (.inl xs, e2) => match s e2.s (.obj i :: xs) with
            | some (r, S) => some (r, ⟨e2.v, S⟩)
            | none => none
          | _ => none
        else none
      | none => none
    | _ => none,
    fun _ => none,
    fun _ => none,
    fun _ => none⟩)
noncomputable def fz_fld {M : Hp → Hp → Prop} {K : PySem.W.Frag} {CA : Str → Addr} : (Str) → (Str) → (Zx M K CA) → FzS → FzS :=
  (fun cls f o i_o => ⟨fun e => match (i_o).e e with
    | some (.ok (.obj i), e1) => match (lk e1.s i) with
      | some c => if c.cls = cls ∧ c.ks = none then match c.fs.lookup f with
          | some d => some (.ok d, e1)
          | none => none
        else none
      | none => none
    | _ => none,
    fun _ => none,
    fun _ => none,
    fun _ => none⟩)
noncomputable def fz_make {M : Hp → Hp → Prop} {K : PySem.W.Frag} {CA : Str → Addr} : (Str) → (Zf) → (Zx M K CA) → FzS → FzS :=
  (fun cls s a i_a => ⟨fun e => match (i_a).a e with
    | some (.inl xs, e1) => match s (e1.s ++ [⟨cls, [], none⟩]) (.obj e1.s.length :: xs) with
      | some (.ok .none, S) => some (.ok (.obj e1.s.length), ⟨e1.v, S⟩)
      | _ => none
    | _ => none,
    fun _ => none,
    fun _ => none,
    fun _ => none⟩)
noncomputable def fz_lsOf {M : Hp → Hp → Prop} {K : PySem.W.Frag} {CA : Str → Addr} : (Zx M K CA) → FzS → FzS :=
  (fun a i_a => ⟨fun e => match (i_a).e e with
    | some (.ok (.list ds), e1) => some (.ok (.list ds), e1)
    | some (.ok (.tuple ds), e1) => some (.ok (.list ds), e1)
    | _ => none,
    fun _ => none,
    fun _ => none,
    fun _ => none⟩)
noncomputable def fz_tup {M : Hp → Hp → Prop} {K : PySem.W.Frag} {CA : Str → Addr} : (Zx M K CA) → FzS → FzS :=
  (fun a i_a => ⟨fun e => match (i_a).a e with
    | some (.inl xs, e1) => if xs.length ≤ 1000 then some (.ok (.tuple xs), e1) else none
    | some (.inr C, e1) => some (.exc C, e1)
    | _ => none,
    fun _ => none,
    fun _ => none,
    fun _ => none⟩)
noncomputable def fz_lst {M : Hp → Hp → Prop} {K : PySem.W.Frag} {CA : Str → Addr} : (Zx M K CA) → FzS → FzS :=
  (fun a i_a => ⟨fun e => match (i_a).a e with
    | some (.inl xs, e1) => if xs.length ≤ 1000 then some (.ok (.list xs), e1) else none
    | _ => none,
    fun _ => none,
    fun _ => none,
    fun _ => none⟩)
noncomputable def fz_nil {M : Hp → Hp → Prop} {K : PySem.W.Frag} {CA : Str → Addr} : FzS :=
  (⟨fun _ => none,
    fun e => some (.inl [], e),
    fun _ => none,
    fun _ => none⟩)
noncomputable def fz_cons {M : Hp → Hp → Prop} {K : PySem.W.Frag} {CA : Str → Addr} : (Zx M K CA) → (Zx M K CA) → FzS → FzS → FzS :=
  (fun a r i_a i_r => ⟨fun _ => none,
    fun e => match (i_a).e e with
    | some (.ok x, e1) => match (i_r).a e1 with
      | some (.inl xs, e2) => some (.inl (x :: xs), e2)
      | some (.inr C, e2) => some (.inr C, e2)
      | none => none
    | some (.exc C, e1) => some (.inr C, e1)
    | none => none,
    fun _ => none,
    fun _ => none⟩)
noncomputable def fz_ifx {M : Hp → Hp → Prop} {K : PySem.W.Frag} {CA : Str → Addr} : (Zx M K CA) → (Zx M K CA) → (Zx M K CA) → FzS → FzS → FzS → FzS :=
  (fun t a b i_t i_a i_b => ⟨fun e => match (i_t).t e with
    | some (true, e1) => (i_a).e e1
    | some (false, e1) => (i_b).e e1
    | none => none,
    fun _ => none,
    fun _ => none,
    fun _ => none⟩)
noncomputable def fz_andV {M : Hp → Hp → Prop} {K : PySem.W.Frag} {CA : Str → Addr} : (Zx M K CA) → (Zx M K CA) → FzS → FzS → FzS :=
  (fun a b i_a i_b => ⟨fun e => match (i_a).e e with
    | some (.ok (.bool true), e1) => match (i_b).e e1 with
      | some (.ok (.bool c), e2) => some (.ok (.bool c), e2)
      | _ => none
    | some (.ok (.bool false), e1) => some (.ok (.bool false), e1)
    | _ => none,
    fun _ => none,
    fun _ => none,
    fun _ => none⟩)
noncomputable def fz_orV {M : Hp → Hp → Prop} {K : PySem.W.Frag} {CA : Str → Addr} : (Zx M K CA) → (Zx M K CA) → FzS → FzS → FzS :=
  (fun a b i_a i_b => ⟨fun e => match (i_a).e e with
    | some (.ok (.bool false), e1) => match (i_b).e e1 with
      | some (.ok (.bool c), e2) => some (.ok (.bool c), e2)
      | _ => none
    | some (.ok (.bool true), e1) => some (.ok (.bool true), e1)
    | _ => none,
    fun _ => none,
    fun _ => none,
    fun _ => none⟩)
noncomputable def fz_notV {M : Hp → Hp → Prop} {K : PySem.W.Frag} {CA : Str → Addr} : (Zx M K CA) → FzS → FzS :=
  (fun a i_a => ⟨fun e => match (i_a).e e with
    | some (.ok (.bool c), e1) => some (.ok (.bool (!c)), e1)
    | _ => none,
    fun _ => none,
    fun _ => none,
    fun _ => none⟩)
noncomputable def fz_give {M : Hp → Hp → Prop} {K : PySem.W.Frag} {CA : Str → Addr} : (Nat) → FzS :=
  (fun i => ⟨fun e => match (lk e.v i) with
    | some (.own false ds) => some (.ok (.list ds), ⟨stF e.v i (.val (.list ds)), e.s⟩)
    | some (.val d) => some (.ok d, e)
    | _ => none,
    fun _ => none,
    fun _ => none,
    fun _ => none⟩)
noncomputable def fz_popX {M : Hp → Hp → Prop} {K : PySem.W.Frag} {CA : Str → Addr} : (Nat) → FzS :=
  (fun i => ⟨fun e => match (lk e.v i) with
    | some (.own q ds) => match ds[ds.length - 1]? with
      | some d => some (.ok d, ⟨stF e.v i (.own q ds.dropLast), e.s⟩)
      | none => none
    | _ => none,
    fun _ => none,
    fun _ => none,
    fun _ => none⟩)
noncomputable def fz_lc {M : Hp → Hp → Prop} {K : PySem.W.Frag} {CA : Str → Addr} : (Zx M K CA) → (Tg) → (Zx M K CA) → (Zx M K CA) → FzS → FzS → FzS → FzS :=
  (fun it tg tt x i_it i_tt i_x => ⟨fun e => match (i_it).i e with
    | some (ds, e0) => if ds.length ≤ 100000 then
        (match lcZF (fun S d => match asgTF (wipeVF (mapF hushV e0.v) tg.ids) d tg with
          | some v1 => match (i_tt).t ⟨v1, S⟩ with
            | some (true, e2) => match (i_x).e ⟨v1, e2.s⟩ with
              | some (.ok r, e3) => some (some r, e3.s)
              | _ => none
            | some (false, e2) => some (none, e2.s)
            | none => none
          | none => none) e0.s ds with
        | some (rs, S) => some (.ok (.list rs), ⟨e0.v, S⟩)
        | none => none)
      else none
    | none => none,
    fun _ => none,
    fun _ => none,
    fun _ => none⟩)
noncomputable def fz_tpu {M : Hp → Hp → Prop} {K : PySem.W.Frag} {CA : Str → Addr} : (Ex M K) → FzS :=
  (fun t => ⟨fun _ => none,
    fun _ => none,
    fun e => match (evF t).t e.v with
    | some (b, v) => some (b, ⟨v, e.s⟩)
    | none => none,
    fun _ => none⟩)
noncomputable def fz_tst {M : Hp → Hp → Prop} {K : PySem.W.Frag} {CA : Str → Addr} : (Zx M K CA) → FzS → FzS :=
  (fun x i_x => ⟨fun _ => none,
    fun _ => none,
    fun e => match (i_x).e e with
    | some (.ok (.bool b), e1) => some (b, e1)
    | _ => none,
    fun _ => none⟩)
noncomputable def fz_tb {M : Hp → Hp → Prop} {K : PySem.W.Frag} {CA : Str → Addr} : (Zx M K CA) → FzS → FzS :=
  (fun x i_x => ⟨fun _ => none,
    fun _ => none,
    fun e => match (i_x).e e with
    | some (.ok (.bool b), e1) => some (b, e1)
    | _ => none,
    fun _ => none⟩)
noncomputable def fz_tand {M : Hp → Hp → Prop} {K : PySem.W.Frag} {CA : Str → Addr} : (Zx M K CA) → (Zx M K CA) → FzS → FzS → FzS :=
  (fun t u i_t i_u => ⟨fun _ => none,
    fun _ => none,
    fun e => match (i_t).t e with
    | some (true, e1) => (i_u).t e1
    | some (false, e1) => some (false, e1)
    | none => none,
    fun _ => none⟩)
noncomputable def fz_tor {M : Hp → Hp → Prop} {K : PySem.W.Frag} {CA : Str → Addr} : (Zx M K CA) → (Zx M K CA) → FzS → FzS → FzS :=
  (fun t u i_t i_u => ⟨fun _ => none,
    fun _ => none,
    fun e => match (i_t).t e with
    | some (false, e1) => (i_u).t e1
    | some (true, e1) => some (true, e1)
    | none => none,
    fun _ => none⟩)
noncomputable def fz_tnot {M : Hp → Hp → Prop} {K : PySem.W.Frag} {CA : Str → Addr} : (Zx M K CA) → FzS → FzS :=
  (fun t i_t => ⟨fun _ => none,
    fun _ => none,
    fun e => match (i_t).t e with
    | some (b, e1) => some (!b, e1)
    | none => none,
    fun _ => none⟩)
noncomputable def fz_ipu {M : Hp → Hp → Prop} {K : PySem.W.Frag} {CA : Str → Addr} : (Ex M K) → FzS :=
  (fun x => ⟨fun _ => none,
    fun _ => none,
    fun _ => none,
    fun e => match (evF x).i e.v with
    | some (ds, v) => some (ds, ⟨v, e.s⟩)
    | none => none⟩)
noncomputable def fz_iseq {M : Hp → Hp → Prop} {K : PySem.W.Frag} {CA : Str → Addr} : (Zx M K CA) → FzS → FzS :=
  (fun x i_x => ⟨fun _ => none,
    fun _ => none,
    fun _ => none,
    fun e => match (i_x).e e with
    | some (.ok (.list ds), e1) => some (ds, e1)
    | some (.ok (.tuple ds), e1) => some (ds, e1)
    | _ => none⟩)
noncomputable def fz_ienum {M : Hp → Hp → Prop} {K : PySem.W.Frag} {CA : Str → Addr} : (Zx M K CA) → FzS → FzS :=
  (fun x i_x => ⟨fun _ => none,
    fun _ => none,
    fun _ => none,
    fun e => match (i_x).e e with
    | some (.ok (.list ds), e1) => some (enumOfF 0 ds, e1)
    | some (.ok (.tuple ds), e1) => some (enumOfF 0 ds, e1)
    | _ => none⟩)
noncomputable def fz_irng {M : Hp → Hp → Prop} {K : PySem.W.Frag} {CA : Str → Addr} : (Zx M K CA) → FzS → FzS :=
  (fun x i_x => ⟨fun _ => none,
    fun _ => none,
    fun _ => none,
    fun e => match (i_x).e e with
    | some (.ok (.int n), e1) => if -(2 ^ 62) ≤ n ∧ n < 2 ^ 62 then some ((List.range n.toNat).map fun (i : Nat) => .int (i : Int), e1) else none
    | _ => none⟩)
noncomputable def fz_ix {M : Hp → Hp → Prop} {K : PySem.W.Frag} {CA : Str → Addr} : (Zx M K CA) → (Zx M K CA) → FzS → FzS → FzS :=
  (fun a b i_a i_b => ⟨fun e => match (i_a).e e with
    | some (.ok x, e1) => match (i_b).e e1 with
      | some (.ok y, e2) => match fIx x y with
        | some z => some (.ok z, e2)
        | none => none
      | _ => none
    | _ => none,
    fun _ => none,
    fun _ => none,
    fun _ => none⟩)
noncomputable def fz_sl {M : Hp → Hp → Prop} {K : PySem.W.Frag} {CA : Str → Addr} : (Zx M K CA) → (Ex M K) → (Ex M K) → FzS → FzS :=
  (fun a lo hi i_a => ⟨fun e => match (i_a).e e with
    | some (.ok x, e1) => match (evF lo).p e1.v with
      | some (l, v2) => match (evF hi).p v2 with
        | some (h, v3) => match x with
          | .tuple ds => some (.ok (.tuple (cutL ds l h)), ⟨v3, e1.s⟩)
          | .list ds => some (.ok (.list (cutL ds l h)), ⟨v3, e1.s⟩)
          | _ => none
        | none => none
      | none => none
    | _ => none,
    fun _ => none,
    fun _ => none,
    fun _ => none⟩)
noncomputable def fz_sls {M : Hp → Hp → Prop} {K : PySem.W.Frag} {CA : Str → Addr} : (Zx M K CA) → (Ex M K) → (Ex M K) → (Ex M K) → FzS → FzS :=
  (fun a lo hi st i_a => ⟨fun e => match (i_a).e e with
    | some (.ok x, e1) => match (evF lo).p e1.v with
      | some (l, v2) => match (evF hi).p v2 with
        | some (h, v3) => match (evF st).p v3 with
          | some (some c, v4) => if c ≠ 0 ∧ c ≠ 1 then match x with
            | .list ds => some (.ok (.list (stepP ds l h c)), ⟨v4, e1.s⟩)
            | _ => none
            else none
          | _ => none
        | none => none
      | none => none
    | _ => none,
    fun _ => none,
    fun _ => none,
    fun _ => none⟩)
noncomputable def fz_dnew {M : Hp → Hp → Prop} {K : PySem.W.Frag} {CA : Str → Addr} : FzS :=
  (⟨fun e => some (.ok (.obj e.s.length), ⟨e.v, e.s ++ [⟨Str.empty, [], some []⟩]⟩),
    fun _ => none,
    fun _ => none,
    fun _ => none⟩)
noncomputable def fz_din {M : Hp → Hp → Prop} {K : PySem.W.Frag} {CA : Str → Addr} : (Bool) → (Zx M K CA) → (Zx M K CA) → FzS → FzS → FzS :=
  (fun neg k d i_k i_d => ⟨fun e => match (i_k).e e with
    | some (.ok x, e1) => match (i_d).e e1 with
      | some (.ok (.obj i), e2) => match (lk e2.s i), keyOf x with
        | some ⟨_, _, some ks⟩, some key => some (.ok (.bool (if neg then !hasK ks key else hasK ks key)), e2)
        | _, _ => none
      | _ => none
    | _ => none,
    fun _ => none,
    fun _ => none,
    fun _ => none⟩)
noncomputable def fz_bad {M : Hp → Hp → Prop} {K : PySem.W.Frag} {CA : Str → Addr} : FzS :=
  (⟨fun _ => none,
    fun _ => none,
    fun _ => none,
    fun _ => none⟩)
noncomputable def evzF {M : Hp → Hp → Prop} {K : PySem.W.Frag} {CA : Str → Addr} : Zx M K CA → FzS := fun x => Zx.rec (motive := fun _ => FzS)
  (fz_pu (M := M) (K := K) (CA := CA))
  (fz_op (M := M) (K := K) (CA := CA))
  (fz_un (M := M) (K := K) (CA := CA))
  (fz_fn (M := M) (K := K) (CA := CA))
  (fz_call (M := M) (K := K) (CA := CA))
  (fz_callP (M := M) (K := K) (CA := CA))
  (fz_meth (M := M) (K := K) (CA := CA))
  (fun y_cls y_f _ _ y_o i_o => fz_fld (M := M) (K := K) (CA := CA) y_cls y_f y_o i_o)
  (fz_make (M := M) (K := K) (CA := CA))
  (fz_lsOf (M := M) (K := K) (CA := CA))
  (fz_tup (M := M) (K := K) (CA := CA))
  (fz_lst (M := M) (K := K) (CA := CA))
  (fz_nil (M := M) (K := K) (CA := CA))
  (fz_cons (M := M) (K := K) (CA := CA))
  (fz_ifx (M := M) (K := K) (CA := CA))
  (fz_andV (M := M) (K := K) (CA := CA))
  (fz_orV (M := M) (K := K) (CA := CA))
  (fz_notV (M := M) (K := K) (CA := CA))
  (fz_give (M := M) (K := K) (CA := CA))
  (fz_popX (M := M) (K := K) (CA := CA))
  (fz_lc (M := M) (K := K) (CA := CA))
  (fz_tpu (M := M) (K := K) (CA := CA))
  (fz_tst (M := M) (K := K) (CA := CA))
  (fz_tb (M := M) (K := K) (CA := CA))
  (fz_tand (M := M) (K := K) (CA := CA))
  (fz_tor (M := M) (K := K) (CA := CA))
  (fz_tnot (M := M) (K := K) (CA := CA))
  (fz_ipu (M := M) (K := K) (CA := CA))
  (fz_iseq (M := M) (K := K) (CA := CA))
  (fz_ienum (M := M) (K := K) (CA := CA))
  (fz_irng (M := M) (K := K) (CA := CA))
  (fz_ix (M := M) (K := K) (CA := CA))
  (fz_sl (M := M) (K := K) (CA := CA))
  (fz_sls (M := M) (K := K) (CA := CA))
  (fz_dnew (M := M) (K := K) (CA := CA))
  (fz_din (M := M) (K := K) (CA := CA))
  (fz_bad (M := M) (K := K) (CA := CA))
  x
variable {CA : Str → Addr}
structure SameZ (x : Zx M K CA) : Prop where
  e : ∀ e, evz e x = (evzF x).e e
  a : ∀ e, evzA e x = (evzF x).a e
  t : ∀ e, evzT e x = (evzF x).t e
  i : ∀ e, evzI e x = (evzF x).i e
theorem same_z (x : Zx M K CA) : SameZ x := by
  induction x with
  | pu x => constructor <;> intro e0 <;> simp only [evz, evzA, evzT, evzI, (same_x x).e, (same_x x).a, (same_x x).t, (same_x x).p, (same_x x).i, show evzF (.pu x : Zx M K CA) = fz_pu (M := M) (K := K) (CA := CA) x from rfl, fz_pu, lk_eq, stF_eq, mapF_eq, asgTF_eq, asgZF_eq, forlF_eq, whlF_eq, lcAllF_eq, lcZF_eq, forzF_eq, whzF_eq, noListF_eq, enumOfF_eq, wipeVF_eq] <;> rfl
  | op o a b h_a h_b => constructor <;> intro e0 <;> simp only [evz, evzA, evzT, evzI, h_a.e, h_a.a, h_a.t, h_a.i, h_b.e, h_b.a, h_b.t, h_b.i, show evzF (.op o a b : Zx M K CA) = fz_op (M := M) (K := K) (CA := CA) o a b (evzF a) (evzF b) from rfl, fz_op, lk_eq, stF_eq, mapF_eq, asgTF_eq, asgZF_eq, forlF_eq, whlF_eq, lcAllF_eq, lcZF_eq, forzF_eq, whzF_eq, noListF_eq, enumOfF_eq, wipeVF_eq] <;> rfl
  | un o a h_a => constructor <;> intro e0 <;> simp only [evz, evzA, evzT, evzI, h_a.e, h_a.a, h_a.t, h_a.i, show evzF (.un o a : Zx M K CA) = fz_un (M := M) (K := K) (CA := CA) o a (evzF a) from rfl, fz_un, lk_eq, stF_eq, mapF_eq, asgTF_eq, asgZF_eq, forlF_eq, whlF_eq, lcAllF_eq, lcZF_eq, forzF_eq, whzF_eq, noListF_eq, enumOfF_eq, wipeVF_eq] <;> rfl
  | fn o a h_a => constructor <;> intro e0 <;> simp only [evz, evzA, evzT, evzI, h_a.e, h_a.a, h_a.t, h_a.i, show evzF (.fn o a : Zx M K CA) = fz_fn (M := M) (K := K) (CA := CA) o a (evzF a) from rfl, fz_fn, lk_eq, stF_eq, mapF_eq, asgTF_eq, asgZF_eq, forlF_eq, whlF_eq, lcAllF_eq, lcZF_eq, forzF_eq, whzF_eq, noListF_eq, enumOfF_eq, wipeVF_eq] <;> rfl
  | call s a h_a => constructor <;> intro e0 <;> simp only [evz, evzA, evzT, evzI, h_a.e, h_a.a, h_a.t, h_a.i, show evzF (.call s a : Zx M K CA) = fz_call (M := M) (K := K) (CA := CA) s a (evzF a) from rfl, fz_call, lk_eq, stF_eq, mapF_eq, asgTF_eq, asgZF_eq, forlF_eq, whlF_eq, lcAllF_eq, lcZF_eq, forzF_eq, whzF_eq, noListF_eq, enumOfF_eq, wipeVF_eq] <;> rfl
  | callP s a h_a => constructor <;> intro e0 <;> simp only [evz, evzA, evzT, evzI, h_a.e, h_a.a, h_a.t, h_a.i, show evzF (.callP s a : Zx M K CA) = fz_callP (M := M) (K := K) (CA := CA) s a (evzF a) from rfl, fz_callP, lk_eq, stF_eq, mapF_eq, asgTF_eq, asgZF_eq, forlF_eq, whlF_eq, lcAllF_eq, lcZF_eq, forzF_eq, whzF_eq, noListF_eq, enumOfF_eq, wipeVF_eq] <;> rfl
  | meth cls m s o a h_o h_a => constructor <;> intro e0 <;> simp only [evz, evzA, evzT, evzI, h_o.e, h_o.a, h_o.t, h_o.i, h_a.e, h_a.a, h_a.t, h_a.i, show evzF (.meth cls m s o a : Zx M K CA) = fz_meth (M := M) (K := K) (CA := CA) cls m s o a (evzF o) (evzF a) from rfl, fz_meth, lk_eq, stF_eq, mapF_eq, asgTF_eq, asgZF_eq, forlF_eq, whlF_eq, lcAllF_eq, lcZF_eq, forzF_eq, whzF_eq, noListF_eq, enumOfF_eq, wipeVF_eq] <;> rfl
  | fld cls f hc hn o h_o => constructor <;> intro e0 <;> simp only [evz, evzA, evzT, evzI, h_o.e, h_o.a, h_o.t, h_o.i, show evzF (.fld cls f hc hn o : Zx M K CA) = fz_fld (M := M) (K := K) (CA := CA) cls f o (evzF o) from rfl, fz_fld, lk_eq, stF_eq, mapF_eq, asgTF_eq, asgZF_eq, forlF_eq, whlF_eq, lcAllF_eq, lcZF_eq, forzF_eq, whzF_eq, noListF_eq, enumOfF_eq, wipeVF_eq] <;> rfl
  | make cls s a h_a => constructor <;> intro e0 <;> simp only [evz, evzA, evzT, evzI, h_a.e, h_a.a, h_a.t, h_a.i, show evzF (.make cls s a : Zx M K CA) = fz_make (M := M) (K := K) (CA := CA) cls s a (evzF a) from rfl, fz_make, lk_eq, stF_eq, mapF_eq, asgTF_eq, asgZF_eq, forlF_eq, whlF_eq, lcAllF_eq, lcZF_eq, forzF_eq, whzF_eq, noListF_eq, enumOfF_eq, wipeVF_eq] <;> rfl
  | lsOf a h_a => constructor <;> intro e0 <;> simp only [evz, evzA, evzT, evzI, h_a.e, h_a.a, h_a.t, h_a.i, show evzF (.lsOf a : Zx M K CA) = fz_lsOf (M := M) (K := K) (CA := CA) a (evzF a) from rfl, fz_lsOf, lk_eq, stF_eq, mapF_eq, asgTF_eq, asgZF_eq, forlF_eq, whlF_eq, lcAllF_eq, lcZF_eq, forzF_eq, whzF_eq, noListF_eq, enumOfF_eq, wipeVF_eq] <;> rfl
  | tup a h_a => constructor <;> intro e0 <;> simp only [evz, evzA, evzT, evzI, h_a.e, h_a.a, h_a.t, h_a.i, show evzF (.tup a : Zx M K CA) = fz_tup (M := M) (K := K) (CA := CA) a (evzF a) from rfl, fz_tup, lk_eq, stF_eq, mapF_eq, asgTF_eq, asgZF_eq, forlF_eq, whlF_eq, lcAllF_eq, lcZF_eq, forzF_eq, whzF_eq, noListF_eq, enumOfF_eq, wipeVF_eq] <;> rfl
  | lst a h_a => constructor <;> intro e0 <;> simp only [evz, evzA, evzT, evzI, h_a.e, h_a.a, h_a.t, h_a.i, show evzF (.lst a : Zx M K CA) = fz_lst (M := M) (K := K) (CA := CA) a (evzF a) from rfl, fz_lst, lk_eq, stF_eq, mapF_eq, asgTF_eq, asgZF_eq, forlF_eq, whlF_eq, lcAllF_eq, lcZF_eq, forzF_eq, whzF_eq, noListF_eq, enumOfF_eq, wipeVF_eq] <;> rfl
  | nil => constructor <;> intro e0 <;> simp only [evz, evzA, evzT, evzI, show evzF (.nil : Zx M K CA) = fz_nil (M := M) (K := K) (CA := CA)  from rfl, fz_nil, lk_eq, stF_eq, mapF_eq, asgTF_eq, asgZF_eq, forlF_eq, whlF_eq, lcAllF_eq, lcZF_eq, forzF_eq, whzF_eq, noListF_eq, enumOfF_eq, wipeVF_eq] <;> rfl
  | cons e r h_e h_r => constructor <;> intro e0 <;> simp only [evz, evzA, evzT, evzI, h_e.e, h_e.a, h_e.t, h_e.i, h_r.e, h_r.a, h_r.t, h_r.i, show evzF (.cons e r : Zx M K CA) = fz_cons (M := M) (K := K) (CA := CA) e r (evzF e) (evzF r) from rfl, fz_cons, lk_eq, stF_eq, mapF_eq, asgTF_eq, asgZF_eq, forlF_eq, whlF_eq, lcAllF_eq, lcZF_eq, forzF_eq, whzF_eq, noListF_eq, enumOfF_eq, wipeVF_eq] <;> rfl
  | ifx t a b h_t h_a h_b => constructor <;> intro e0 <;> simp only [evz, evzA, evzT, evzI, h_t.e, h_t.a, h_t.t, h_t.i, h_a.e, h_a.a, h_a.t, h_a.i, h_b.e, h_b.a, h_b.t, h_b.i, show evzF (.ifx t a b : Zx M K CA) = fz_ifx (M := M) (K := K) (CA := CA) t a b (evzF t) (evzF a) (evzF b) from rfl, fz_ifx, lk_eq, stF_eq, mapF_eq, asgTF_eq, asgZF_eq, forlF_eq, whlF_eq, lcAllF_eq, lcZF_eq, forzF_eq, whzF_eq, noListF_eq, enumOfF_eq, wipeVF_eq] <;> rfl
  | andV a b h_a h_b => constructor <;> intro e0 <;> simp only [evz, evzA, evzT, evzI, h_a.e, h_a.a, h_a.t, h_a.i, h_b.e, h_b.a, h_b.t, h_b.i, show evzF (.andV a b : Zx M K CA) = fz_andV (M := M) (K := K) (CA := CA) a b (evzF a) (evzF b) from rfl, fz_andV, lk_eq, stF_eq, mapF_eq, asgTF_eq, asgZF_eq, forlF_eq, whlF_eq, lcAllF_eq, lcZF_eq, forzF_eq, whzF_eq, noListF_eq, enumOfF_eq, wipeVF_eq] <;> rfl
  | orV a b h_a h_b => constructor <;> intro e0 <;> simp only [evz, evzA, evzT, evzI, h_a.e, h_a.a, h_a.t, h_a.i, h_b.e, h_b.a, h_b.t, h_b.i, show evzF (.orV a b : Zx M K CA) = fz_orV (M := M) (K := K) (CA := CA) a b (evzF a) (evzF b) from rfl, fz_orV, lk_eq, stF_eq, mapF_eq, asgTF_eq, asgZF_eq, forlF_eq, whlF_eq, lcAllF_eq, lcZF_eq, forzF_eq, whzF_eq, noListF_eq, enumOfF_eq, wipeVF_eq] <;> rfl
  | notV a h_a => constructor <;> intro e0 <;> simp only [evz, evzA, evzT, evzI, h_a.e, h_a.a, h_a.t, h_a.i, show evzF (.notV a : Zx M K CA) = fz_notV (M := M) (K := K) (CA := CA) a (evzF a) from rfl, fz_notV, lk_eq, stF_eq, mapF_eq, asgTF_eq, asgZF_eq, forlF_eq, whlF_eq, lcAllF_eq, lcZF_eq, forzF_eq, whzF_eq, noListF_eq, enumOfF_eq, wipeVF_eq] <;> rfl
  | give i => constructor <;> intro e0 <;> simp only [evz, evzA, evzT, evzI, show evzF (.give i : Zx M K CA) = fz_give (M := M) (K := K) (CA := CA) i from rfl, fz_give, lk_eq, stF_eq, mapF_eq, asgTF_eq, asgZF_eq, forlF_eq, whlF_eq, lcAllF_eq, lcZF_eq, forzF_eq, whzF_eq, noListF_eq, enumOfF_eq, wipeVF_eq] <;> rfl
  | popX i => constructor <;> intro e0 <;> simp only [evz, evzA, evzT, evzI, show evzF (.popX i : Zx M K CA) = fz_popX (M := M) (K := K) (CA := CA) i from rfl, fz_popX, lk_eq, stF_eq, mapF_eq, asgTF_eq, asgZF_eq, forlF_eq, whlF_eq, lcAllF_eq, lcZF_eq, forzF_eq, whzF_eq, noListF_eq, enumOfF_eq, wipeVF_eq] <;> rfl
  | lc it tg tt e h_it h_tt h_e => constructor <;> intro e0 <;> simp only [evz, evzA, evzT, evzI, h_it.e, h_it.a, h_it.t, h_it.i, h_tt.e, h_tt.a, h_tt.t, h_tt.i, h_e.e, h_e.a, h_e.t, h_e.i, show evzF (.lc it tg tt e : Zx M K CA) = fz_lc (M := M) (K := K) (CA := CA) it tg tt e (evzF it) (evzF tt) (evzF e) from rfl, fz_lc, lk_eq, stF_eq, mapF_eq, asgTF_eq, asgZF_eq, forlF_eq, whlF_eq, lcAllF_eq, lcZF_eq, forzF_eq, whzF_eq, noListF_eq, enumOfF_eq, wipeVF_eq] <;> rfl
  | tpu t => constructor <;> intro e0 <;> simp only [evz, evzA, evzT, evzI, (same_x t).e, (same_x t).a, (same_x t).t, (same_x t).p, (same_x t).i, show evzF (.tpu t : Zx M K CA) = fz_tpu (M := M) (K := K) (CA := CA) t from rfl, fz_tpu, lk_eq, stF_eq, mapF_eq, asgTF_eq, asgZF_eq, forlF_eq, whlF_eq, lcAllF_eq, lcZF_eq, forzF_eq, whzF_eq, noListF_eq, enumOfF_eq, wipeVF_eq] <;> rfl
  | tst e h_e => constructor <;> intro e0 <;> simp only [evz, evzA, evzT, evzI, h_e.e, h_e.a, h_e.t, h_e.i, show evzF (.tst e : Zx M K CA) = fz_tst (M := M) (K := K) (CA := CA) e (evzF e) from rfl, fz_tst, lk_eq, stF_eq, mapF_eq, asgTF_eq, asgZF_eq, forlF_eq, whlF_eq, lcAllF_eq, lcZF_eq, forzF_eq, whzF_eq, noListF_eq, enumOfF_eq, wipeVF_eq] <;> rfl
  | tb e h_e => constructor <;> intro e0 <;> simp only [evz, evzA, evzT, evzI, h_e.e, h_e.a, h_e.t, h_e.i, show evzF (.tb e : Zx M K CA) = fz_tb (M := M) (K := K) (CA := CA) e (evzF e) from rfl, fz_tb, lk_eq, stF_eq, mapF_eq, asgTF_eq, asgZF_eq, forlF_eq, whlF_eq, lcAllF_eq, lcZF_eq, forzF_eq, whzF_eq, noListF_eq, enumOfF_eq, wipeVF_eq] <;> rfl
  | tand t u h_t h_u => constructor <;> intro e0 <;> simp only [evz, evzA, evzT, evzI, h_t.e, h_t.a, h_t.t, h_t.i, h_u.e, h_u.a, h_u.t, h_u.i, show evzF (.tand t u : Zx M K CA) = fz_tand (M := M) (K := K) (CA := CA) t u (evzF t) (evzF u) from rfl, fz_tand, lk_eq, stF_eq, mapF_eq, asgTF_eq, asgZF_eq, forlF_eq, whlF_eq, lcAllF_eq, lcZF_eq, forzF_eq, whzF_eq, noListF_eq, enumOfF_eq, wipeVF_eq] <;> rfl
  | tor t u h_t h_u => constructor <;> intro e0 <;> simp only [evz, evzA, evzT, evzI, h_t.e, h_t.a, h_t.t, h_t.i, h_u.e, h_u.a, h_u.t, h_u.i, show evzF (.tor t u : Zx M K CA) = fz_tor (M := M) (K := K) (CA := CA) t u (evzF t) (evzF u) from rfl, fz_tor, lk_eq, stF_eq, mapF_eq, asgTF_eq, asgZF_eq, forlF_eq, whlF_eq, lcAllF_eq, lcZF_eq, forzF_eq, whzF_eq, noListF_eq, enumOfF_eq, wipeVF_eq] <;> rfl
  | tnot t h_t => constructor <;> intro e0 <;> simp only [evz, evzA, evzT, evzI, h_t.e, h_t.a, h_t.t, h_t.i, show evzF (.tnot t : Zx M K CA) = fz_tnot (M := M) (K := K) (CA := CA) t (evzF t) from rfl, fz_tnot, lk_eq, stF_eq, mapF_eq, asgTF_eq, asgZF_eq, forlF_eq, whlF_eq, lcAllF_eq, lcZF_eq, forzF_eq, whzF_eq, noListF_eq, enumOfF_eq, wipeVF_eq] <;> rfl
  | ipu i => constructor <;> intro e0 <;> simp only [evz, evzA, evzT, evzI, (same_x i).e, (same_x i).a, (same_x i).t, (same_x i).p, (same_x i).i, show evzF (.ipu i : Zx M K CA) = fz_ipu (M := M) (K := K) (CA := CA) i from rfl, fz_ipu, lk_eq, stF_eq, mapF_eq, asgTF_eq, asgZF_eq, forlF_eq, whlF_eq, lcAllF_eq, lcZF_eq, forzF_eq, whzF_eq, noListF_eq, enumOfF_eq, wipeVF_eq] <;> rfl
  | iseq e h_e => constructor <;> intro e0 <;> simp only [evz, evzA, evzT, evzI, h_e.e, h_e.a, h_e.t, h_e.i, show evzF (.iseq e : Zx M K CA) = fz_iseq (M := M) (K := K) (CA := CA) e (evzF e) from rfl, fz_iseq, lk_eq, stF_eq, mapF_eq, asgTF_eq, asgZF_eq, forlF_eq, whlF_eq, lcAllF_eq, lcZF_eq, forzF_eq, whzF_eq, noListF_eq, enumOfF_eq, wipeVF_eq] <;> rfl
  | ienum e h_e => constructor <;> intro e0 <;> simp only [evz, evzA, evzT, evzI, h_e.e, h_e.a, h_e.t, h_e.i, show evzF (.ienum e : Zx M K CA) = fz_ienum (M := M) (K := K) (CA := CA) e (evzF e) from rfl, fz_ienum, lk_eq, stF_eq, mapF_eq, asgTF_eq, asgZF_eq, forlF_eq, whlF_eq, lcAllF_eq, lcZF_eq, forzF_eq, whzF_eq, noListF_eq, enumOfF_eq, wipeVF_eq] <;> rfl
  | irng e h_e => constructor <;> intro e0 <;> simp only [evz, evzA, evzT, evzI, h_e.e, h_e.a, h_e.t, h_e.i, show evzF (.irng e : Zx M K CA) = fz_irng (M := M) (K := K) (CA := CA) e (evzF e) from rfl, fz_irng, lk_eq, stF_eq, mapF_eq, asgTF_eq, asgZF_eq, forlF_eq, whlF_eq, lcAllF_eq, lcZF_eq, forzF_eq, whzF_eq, noListF_eq, enumOfF_eq, wipeVF_eq] <;> rfl
  | ix a b h_a h_b => constructor <;> intro e0 <;> simp only [evz, evzA, evzT, evzI, h_a.e, h_a.a, h_a.t, h_a.i, h_b.e, h_b.a, h_b.t, h_b.i, show evzF (.ix a b : Zx M K CA) = fz_ix (M := M) (K := K) (CA := CA) a b (evzF a) (evzF b) from rfl, fz_ix, lk_eq, stF_eq, mapF_eq, asgTF_eq, asgZF_eq, forlF_eq, whlF_eq, lcAllF_eq, lcZF_eq, forzF_eq, whzF_eq, noListF_eq, enumOfF_eq, wipeVF_eq] <;> rfl
  | sl a lo hi h_a => constructor <;> intro e0 <;> simp only [evz, evzA, evzT, evzI, h_a.e, h_a.a, h_a.t, h_a.i, (same_x lo).e, (same_x lo).a, (same_x lo).t, (same_x lo).p, (same_x lo).i, (same_x hi).e, (same_x hi).a, (same_x hi).t, (same_x hi).p, (same_x hi).i, show evzF (.sl a lo hi : Zx M K CA) = fz_sl (M := M) (K := K) (CA := CA) a lo hi (evzF a) from rfl, fz_sl, lk_eq, stF_eq, mapF_eq, asgTF_eq, asgZF_eq, forlF_eq, whlF_eq, lcAllF_eq, lcZF_eq, forzF_eq, whzF_eq, noListF_eq, enumOfF_eq, wipeVF_eq] <;> rfl
  | sls a lo hi st h_a => constructor <;> intro e0 <;> simp only [evz, evzA, evzT, evzI, h_a.e, h_a.a, h_a.t, h_a.i, (same_x lo).e, (same_x lo).a, (same_x lo).t, (same_x lo).p, (same_x lo).i, (same_x hi).e, (same_x hi).a, (same_x hi).t, (same_x hi).p, (same_x hi).i, (same_x st).e, (same_x st).a, (same_x st).t, (same_x st).p, (same_x st).i, show evzF (.sls a lo hi st : Zx M K CA) = fz_sls (M := M) (K := K) (CA := CA) a lo hi st (evzF a) from rfl, fz_sls, lk_eq, stF_eq, mapF_eq, asgTF_eq, asgZF_eq, forlF_eq, whlF_eq, lcAllF_eq, lcZF_eq, forzF_eq, whzF_eq, noListF_eq, enumOfF_eq, wipeVF_eq] <;> rfl
  | dnew => constructor <;> intro e0 <;> simp only [evz, evzA, evzT, evzI, show evzF (.dnew : Zx M K CA) = fz_dnew (M := M) (K := K) (CA := CA)  from rfl, fz_dnew, lk_eq, stF_eq, mapF_eq, asgTF_eq, asgZF_eq, forlF_eq, whlF_eq, lcAllF_eq, lcZF_eq, forzF_eq, whzF_eq, noListF_eq, enumOfF_eq, wipeVF_eq] <;> rfl
  | din neg k d h_k h_d => constructor <;> intro e0 <;> simp only [evz, evzA, evzT, evzI, h_k.e, h_k.a, h_k.t, h_k.i, h_d.e, h_d.a, h_d.t, h_d.i, show evzF (.din neg k d : Zx M K CA) = fz_din (M := M) (K := K) (CA := CA) neg k d (evzF k) (evzF d) from rfl, fz_din, lk_eq, stF_eq, mapF_eq, asgTF_eq, asgZF_eq, forlF_eq, whlF_eq, lcAllF_eq, lcZF_eq, forzF_eq, whzF_eq, noListF_eq, enumOfF_eq, wipeVF_eq] <;> rfl
  | bad => constructor <;> intro e0 <;> simp only [evz, evzA, evzT, evzI, show evzF (.bad : Zx M K CA) = fz_bad (M := M) (K := K) (CA := CA)  from rfl, fz_bad, lk_eq, stF_eq, mapF_eq, asgTF_eq, asgZF_eq, forlF_eq, whlF_eq, lcAllF_eq, lcZF_eq, forzF_eq, whzF_eq, noListF_eq, enumOfF_eq, wipeVF_eq] <;> rfl
noncomputable def evAgF {M : Hp → Hp → Prop} {K : PySem.W.Frag} {CA : Str → Addr} (e : Zs) : Ag M K CA → Option (Sv × Zs)
  | .v x => match (evzF x).e e with
    | some (.ok d, e1) => some (.val d, e1)
    | _ => none
  | .o x => if fresh x then match (evF x).e e.v with
    | some (.ok (.list ds), v) => some (.own false ds, ⟨v, e.s⟩)
    | _ => none else none
theorem same_ag (a : Ag M K CA) : ∀ e, evAg e a = evAgF e a := by
  intro e
  cases a with
  | v x => simp only [evAg, evAgF, (same_z x).e] <;> rfl
  | o x => simp only [evAg, evAgF, (same_x x).e] <;> rfl
noncomputable def fq_nx {M : Hp → Hp → Prop} {K : PySem.W.Frag} {CA : Str → Addr} : (Zs → Option Outz) :=
  (fun e => some (.nx e))
noncomputable def fq_seq {M : Hp → Hp → Prop} {K : PySem.W.Frag} {CA : Str → Addr} : (Sz M K CA) → (Sz M K CA) → (Zs → Option Outz) → (Zs → Option Outz) → (Zs → Option Outz) :=
  (fun s t i_s i_t => fun e => match i_s e with
    | some (.nx e1) => i_t e1
    | o => o)
noncomputable def fq_ret {M : Hp → Hp → Prop} {K : PySem.W.Frag} {CA : Str → Addr} : (Zx M K CA) → (Zs → Option Outz) :=
  (fun x => fun e => match (evzF x).e e with
    | some (.ok d, e1) => some (.rt d e1)
    | some (.exc C, e1) => some (.exc C e1)
    | none => none)
noncomputable def fq_retN {M : Hp → Hp → Prop} {K : PySem.W.Frag} {CA : Str → Addr} : (Zs → Option Outz) :=
  (fun e => some (.rt .none e))
noncomputable def fq_asg {M : Hp → Hp → Prop} {K : PySem.W.Frag} {CA : Str → Addr} : (Tg) → (Zx M K CA) → (Zs → Option Outz) :=
  (fun tg x => fun e => match (evzF x).e e with
    | some (.ok d, e1) => match asgZF e1 d tg with
      | some e2 => some (.nx e2)
      | none => none
    | some (.exc C, e1) => some (.exc C e1)
    | none => none)
noncomputable def fq_own {M : Hp → Hp → Prop} {K : PySem.W.Frag} {CA : Str → Addr} : (Nat) → (Ex M K) → (Zs → Option Outz) :=
  (fun i x => fun e => if fresh x then match (evF x).e e.v with
    | some (.ok (.list ds), v) => some (.nx ⟨stF v i (.own false ds), e.s⟩)
    | _ => none else none)
noncomputable def fq_par {M : Hp → Hp → Prop} {K : PySem.W.Frag} {CA : Str → Addr} : (Nat) → (Nat) → (Ag M K CA) → (Ag M K CA) → (Zs → Option Outz) :=
  (fun i j a b => fun e => match evAgF e a with
    | some (x, e1) => match evAgF e1 b with
      | some (y, e2) => match x, b with
        | .own _ _, .v _ => none
        | _, _ => if i = j then none else some (.nx ⟨stF (stF e2.v i x) j y, e2.s⟩)
      | none => none
    | none => none)
noncomputable def fq_drop {M : Hp → Hp → Prop} {K : PySem.W.Frag} {CA : Str → Addr} : (Zx M K CA) → (Zs → Option Outz) :=
  (fun x => fun e => match (evzF x).e e with
    | some (.ok _, e1) => some (.nx e1)
    | some (.exc C, e1) => some (.exc C e1)
    | none => none)
noncomputable def fq_app {M : Hp → Hp → Prop} {K : PySem.W.Frag} {CA : Str → Addr} : (Nat) → (Zx M K CA) → (Zs → Option Outz) :=
  (fun i x => fun e => match (evzF x).e e with
    | some (.ok d, e1) => match (lk e.v i), (lk e1.v i) with
      | some (.own _ _), some (.own q ds) => if ds.length < 1000000 then some (.nx ⟨stF e1.v i (.own q (ds ++ [d])), e1.s⟩) else none
      | _, _ => none
    | _ => none)
noncomputable def fq_pop {M : Hp → Hp → Prop} {K : PySem.W.Frag} {CA : Str → Addr} : (Nat) → (Zs → Option Outz) :=
  (fun i => fun e => match (lk e.v i) with
    | some (.own q ds) => match ds[ds.length - 1]? with
      | some _ => some (.nx ⟨stF e.v i (.own q ds.dropLast), e.s⟩)
      | none => none
    | _ => none)
noncomputable def fq_ins {M : Hp → Hp → Prop} {K : PySem.W.Frag} {CA : Str → Addr} : (Nat) → (Zx M K CA) → (Zx M K CA) → (Zs → Option Outz) :=
  (fun i a x => fun e => match (evzF a).e e with
    | some (.ok (.int k), e1) => match (evzF x).e e1 with
      | some (.ok d, e2) => match (lk e.v i), (lk e2.v i) with
        | some (.own _ _), some (.own q ds) => if ds.length < 1000000 ∧ 0 ≤ k ∧ k < 1000000 then some (.nx ⟨stF e2.v i (.own q (ds.take k.toNat ++ [d] ++ ds.drop k.toNat)), e2.s⟩) else none
        | _, _ => none
      | _ => none
    | _ => none)
noncomputable def fq_setO {M : Hp → Hp → Prop} {K : PySem.W.Frag} {CA : Str → Addr} : (Nat) → (Ex M K) → (Zx M K CA) → (Zs → Option Outz) :=
  (fun i ix x => fun e => match (evzF x).e e with
    | some (.ok d, e1) => match (evF ix).e e1.v with
      | some (.ok (.int k), v2) => match (lk e1.v i), (lk v2 i) with
        | some (.own _ _), some (.own q ds) => match ixN ds.length k with
          | some j => some (.nx ⟨stF v2 i (.own q (stF ds j d)), e1.s⟩)
          | none => none
        | _, _ => none
      | _ => none
    | _ => none)
noncomputable def fq_setF {M : Hp → Hp → Prop} {K : PySem.W.Frag} {CA : Str → Addr} : (Str) → (Str) → (Zx M K CA) → (Zx M K CA) → (Zs → Option Outz) :=
  (fun cls f o x => fun e => match (evzF x).e e with
    | some (.ok d, e1) => match (evzF o).e e1 with
      | some (.ok (.obj i), e2) => match (lk e2.s i) with
        | some c => if (c.cls = cls ∧ c.ks = none) ∧ c.fs.length < 1000 then some (.nx ⟨e2.v, stF e2.s i ⟨cls, putD f d c.fs, none⟩⟩) else none
        | none => none
      | _ => none
    | _ => none)
noncomputable def fq_ife {M : Hp → Hp → Prop} {K : PySem.W.Frag} {CA : Str → Addr} : (Zx M K CA) → (Sz M K CA) → (Sz M K CA) → (Zs → Option Outz) → (Zs → Option Outz) → (Zs → Option Outz) :=
  (fun t a b i_a i_b => fun e => match (evzF t).t e with
    | some (true, e1) => i_a e1
    | some (false, e1) => i_b e1
    | none => none)
noncomputable def fq_wh {M : Hp → Hp → Prop} {K : PySem.W.Frag} {CA : Str → Addr} : (Nat) → (Zx M K CA) → (Sz M K CA) → (Zs → Option Outz) → (Zs → Option Outz) :=
  (fun n t b i_b => fun e => whzF (fun e => (evzF t).t e) i_b n e)
noncomputable def fq_fr {M : Hp → Hp → Prop} {K : PySem.W.Frag} {CA : Str → Addr} : (Zx M K CA) → (Tg) → (Sz M K CA) → (Zs → Option Outz) → (Zs → Option Outz) :=
  (fun it tg b i_b => fun e => match (evzF it).i e with
    | some (ds, e1) => forzF tg i_b ds e1
    | none => none)
noncomputable def fq_brk {M : Hp → Hp → Prop} {K : PySem.W.Frag} {CA : Str → Addr} : (Zs → Option Outz) :=
  (fun e => some (.bk e))
noncomputable def fq_cnt {M : Hp → Hp → Prop} {K : PySem.W.Frag} {CA : Str → Addr} : (Zs → Option Outz) :=
  (fun e => some (.ct e))
noncomputable def fq_dput {M : Hp → Hp → Prop} {K : PySem.W.Frag} {CA : Str → Addr} : (Zx M K CA) → (Zx M K CA) → (Zs → Option Outz) :=
  (fun d k => fun e => match (evzF d).e e with
    | some (.ok (.obj i), e1) => match (evzF k).e e1 with
      | some (.ok x, e2) => match (lk e2.s i), keyOf x with
        | some ⟨cl, fs, some ks⟩, some key => if ks.length < 1000000 then some (.nx ⟨e2.v, stF e2.s i ⟨cl, fs, some (addK ks key)⟩⟩) else none
        | _, _ => none
      | _ => none
    | _ => none)
noncomputable def fq_rais {M : Hp → Hp → Prop} {K : PySem.W.Frag} {CA : Str → Addr} : (Value) → (Zs → Option Outz) :=
  (fun C => fun e => some (.exc C e))
noncomputable def fq_bad {M : Hp → Hp → Prop} {K : PySem.W.Frag} {CA : Str → Addr} : (Zs → Option Outz) :=
  (fun e => none)
noncomputable def rzF {M : Hp → Hp → Prop} {K : PySem.W.Frag} {CA : Str → Addr} : Sz M K CA → Zs → Option Outz := fun s => Sz.rec (motive := fun _ => Zs → Option Outz)
  (fq_nx (M := M) (K := K) (CA := CA))
  (fq_seq (M := M) (K := K) (CA := CA))
  (fq_ret (M := M) (K := K) (CA := CA))
  (fq_retN (M := M) (K := K) (CA := CA))
  (fq_asg (M := M) (K := K) (CA := CA))
  (fq_own (M := M) (K := K) (CA := CA))
  (fq_par (M := M) (K := K) (CA := CA))
  (fq_drop (M := M) (K := K) (CA := CA))
  (fq_app (M := M) (K := K) (CA := CA))
  (fq_pop (M := M) (K := K) (CA := CA))
  (fq_ins (M := M) (K := K) (CA := CA))
  (fq_setO (M := M) (K := K) (CA := CA))
  (fun y_cls y_f _ _ y_o y_e => fq_setF (M := M) (K := K) (CA := CA) y_cls y_f y_o y_e)
  (fq_ife (M := M) (K := K) (CA := CA))
  (fq_wh (M := M) (K := K) (CA := CA))
  (fq_fr (M := M) (K := K) (CA := CA))
  (fq_brk (M := M) (K := K) (CA := CA))
  (fq_cnt (M := M) (K := K) (CA := CA))
  (fq_dput (M := M) (K := K) (CA := CA))
  (fq_rais (M := M) (K := K) (CA := CA))
  (fq_bad (M := M) (K := K) (CA := CA))
  s
theorem same_sz (s : Sz M K CA) : ∀ e, rz s e = rzF s e := by
  induction s with
  | nx => intro e0; simp only [rz, show rzF (.nx : Sz M K CA) = fq_nx (M := M) (K := K) (CA := CA)  from rfl, fq_nx, lk_eq, stF_eq, mapF_eq, asgTF_eq, asgZF_eq, forlF_eq, whlF_eq, lcAllF_eq, lcZF_eq, forzF_eq, whzF_eq, noListF_eq, enumOfF_eq, wipeVF_eq] <;> rfl
  | seq s t h_s h_t => intro e0; simp only [rz, h_s, h_t, show rzF (.seq s t : Sz M K CA) = fq_seq (M := M) (K := K) (CA := CA) s t (rzF s) (rzF t) from rfl, fq_seq, lk_eq, stF_eq, mapF_eq, asgTF_eq, asgZF_eq, forlF_eq, whlF_eq, lcAllF_eq, lcZF_eq, forzF_eq, whzF_eq, noListF_eq, enumOfF_eq, wipeVF_eq] <;> rfl
  | ret e => intro e0; simp only [rz, (same_z e).e, (same_z e).t, (same_z e).i, show rzF (.ret e : Sz M K CA) = fq_ret (M := M) (K := K) (CA := CA) e from rfl, fq_ret, lk_eq, stF_eq, mapF_eq, asgTF_eq, asgZF_eq, forlF_eq, whlF_eq, lcAllF_eq, lcZF_eq, forzF_eq, whzF_eq, noListF_eq, enumOfF_eq, wipeVF_eq] <;> rfl
  | retN => intro e0; simp only [rz, show rzF (.retN : Sz M K CA) = fq_retN (M := M) (K := K) (CA := CA)  from rfl, fq_retN, lk_eq, stF_eq, mapF_eq, asgTF_eq, asgZF_eq, forlF_eq, whlF_eq, lcAllF_eq, lcZF_eq, forzF_eq, whzF_eq, noListF_eq, enumOfF_eq, wipeVF_eq] <;> rfl
  | asg tg e => intro e0; simp only [rz, (same_z e).e, (same_z e).t, (same_z e).i, show rzF (.asg tg e : Sz M K CA) = fq_asg (M := M) (K := K) (CA := CA) tg e from rfl, fq_asg, lk_eq, stF_eq, mapF_eq, asgTF_eq, asgZF_eq, forlF_eq, whlF_eq, lcAllF_eq, lcZF_eq, forzF_eq, whzF_eq, noListF_eq, enumOfF_eq, wipeVF_eq] <;> rfl
  | own i e => intro e0; simp only [rz, (same_x e).e, (same_x e).t, (same_x e).i, show rzF (.own i e : Sz M K CA) = fq_own (M := M) (K := K) (CA := CA) i e from rfl, fq_own, lk_eq, stF_eq, mapF_eq, asgTF_eq, asgZF_eq, forlF_eq, whlF_eq, lcAllF_eq, lcZF_eq, forzF_eq, whzF_eq, noListF_eq, enumOfF_eq, wipeVF_eq] <;> rfl
  | par i j a b => intro e0; simp only [rz, same_ag a, same_ag b, show rzF (.par i j a b : Sz M K CA) = fq_par (M := M) (K := K) (CA := CA) i j a b from rfl, fq_par, lk_eq, stF_eq, mapF_eq, asgTF_eq, asgZF_eq, forlF_eq, whlF_eq, lcAllF_eq, lcZF_eq, forzF_eq, whzF_eq, noListF_eq, enumOfF_eq, wipeVF_eq] <;> rfl
  | drop e => intro e0; simp only [rz, (same_z e).e, (same_z e).t, (same_z e).i, show rzF (.drop e : Sz M K CA) = fq_drop (M := M) (K := K) (CA := CA) e from rfl, fq_drop, lk_eq, stF_eq, mapF_eq, asgTF_eq, asgZF_eq, forlF_eq, whlF_eq, lcAllF_eq, lcZF_eq, forzF_eq, whzF_eq, noListF_eq, enumOfF_eq, wipeVF_eq] <;> rfl
  | app i e => intro e0; simp only [rz, (same_z e).e, (same_z e).t, (same_z e).i, show rzF (.app i e : Sz M K CA) = fq_app (M := M) (K := K) (CA := CA) i e from rfl, fq_app, lk_eq, stF_eq, mapF_eq, asgTF_eq, asgZF_eq, forlF_eq, whlF_eq, lcAllF_eq, lcZF_eq, forzF_eq, whzF_eq, noListF_eq, enumOfF_eq, wipeVF_eq] <;> rfl
  | pop i => intro e0; simp only [rz, show rzF (.pop i : Sz M K CA) = fq_pop (M := M) (K := K) (CA := CA) i from rfl, fq_pop, lk_eq, stF_eq, mapF_eq, asgTF_eq, asgZF_eq, forlF_eq, whlF_eq, lcAllF_eq, lcZF_eq, forzF_eq, whzF_eq, noListF_eq, enumOfF_eq, wipeVF_eq] <;> rfl
  | ins i at_ e => intro e0; simp only [rz, (same_z at_).e, (same_z at_).t, (same_z at_).i, (same_z e).e, (same_z e).t, (same_z e).i, show rzF (.ins i at_ e : Sz M K CA) = fq_ins (M := M) (K := K) (CA := CA) i at_ e from rfl, fq_ins, lk_eq, stF_eq, mapF_eq, asgTF_eq, asgZF_eq, forlF_eq, whlF_eq, lcAllF_eq, lcZF_eq, forzF_eq, whzF_eq, noListF_eq, enumOfF_eq, wipeVF_eq] <;> rfl
  | setO i ix e => intro e0; simp only [rz, (same_z e).e, (same_z e).t, (same_z e).i, (same_x ix).e, (same_x ix).t, (same_x ix).i, show rzF (.setO i ix e : Sz M K CA) = fq_setO (M := M) (K := K) (CA := CA) i ix e from rfl, fq_setO, lk_eq, stF_eq, mapF_eq, asgTF_eq, asgZF_eq, forlF_eq, whlF_eq, lcAllF_eq, lcZF_eq, forzF_eq, whzF_eq, noListF_eq, enumOfF_eq, wipeVF_eq] <;> rfl
  | setF cls f hc hn o e => intro e0; simp only [rz, (same_z o).e, (same_z o).t, (same_z o).i, (same_z e).e, (same_z e).t, (same_z e).i, show rzF (.setF cls f hc hn o e : Sz M K CA) = fq_setF (M := M) (K := K) (CA := CA) cls f o e from rfl, fq_setF, lk_eq, stF_eq, mapF_eq, asgTF_eq, asgZF_eq, forlF_eq, whlF_eq, lcAllF_eq, lcZF_eq, forzF_eq, whzF_eq, noListF_eq, enumOfF_eq, wipeVF_eq] <;> rfl
  | ife t a b h_a h_b => intro e0; simp only [rz, (same_z t).e, (same_z t).t, (same_z t).i, h_a, h_b, show rzF (.ife t a b : Sz M K CA) = fq_ife (M := M) (K := K) (CA := CA) t a b (rzF a) (rzF b) from rfl, fq_ife, lk_eq, stF_eq, mapF_eq, asgTF_eq, asgZF_eq, forlF_eq, whlF_eq, lcAllF_eq, lcZF_eq, forzF_eq, whzF_eq, noListF_eq, enumOfF_eq, wipeVF_eq] <;> rfl
  | wh n t b h_b => intro e0; simp only [rz, (same_z t).e, (same_z t).t, (same_z t).i, show rzF (.wh n t b : Sz M K CA) = fq_wh (M := M) (K := K) (CA := CA) n t b (rzF b) from rfl, fq_wh, lk_eq, stF_eq, mapF_eq, asgTF_eq, asgZF_eq, forlF_eq, whlF_eq, lcAllF_eq, lcZF_eq, forzF_eq, whzF_eq, noListF_eq, enumOfF_eq, wipeVF_eq] <;> (rw [show (rz b) = rzF b from funext h_b] <;> first | rfl | (split <;> rfl))
  | fr it tg b h_b => intro e0; simp only [rz, (same_z it).e, (same_z it).t, (same_z it).i, show rzF (.fr it tg b : Sz M K CA) = fq_fr (M := M) (K := K) (CA := CA) it tg b (rzF b) from rfl, fq_fr, lk_eq, stF_eq, mapF_eq, asgTF_eq, asgZF_eq, forlF_eq, whlF_eq, lcAllF_eq, lcZF_eq, forzF_eq, whzF_eq, noListF_eq, enumOfF_eq, wipeVF_eq] <;> (rw [show (rz b) = rzF b from funext h_b] <;> first | rfl | (split <;> rfl))
  | brk => intro e0; simp only [rz, show rzF (.brk : Sz M K CA) = fq_brk (M := M) (K := K) (CA := CA)  from rfl, fq_brk, lk_eq, stF_eq, mapF_eq, asgTF_eq, asgZF_eq, forlF_eq, whlF_eq, lcAllF_eq, lcZF_eq, forzF_eq, whzF_eq, noListF_eq, enumOfF_eq, wipeVF_eq] <;> rfl
  | cnt => intro e0; simp only [rz, show rzF (.cnt : Sz M K CA) = fq_cnt (M := M) (K := K) (CA := CA)  from rfl, fq_cnt, lk_eq, stF_eq, mapF_eq, asgTF_eq, asgZF_eq, forlF_eq, whlF_eq, lcAllF_eq, lcZF_eq, forzF_eq, whzF_eq, noListF_eq, enumOfF_eq, wipeVF_eq] <;> rfl
  | dput d k => intro e0; simp only [rz, (same_z d).e, (same_z d).t, (same_z d).i, (same_z k).e, (same_z k).t, (same_z k).i, show rzF (.dput d k : Sz M K CA) = fq_dput (M := M) (K := K) (CA := CA) d k from rfl, fq_dput, lk_eq, stF_eq, mapF_eq, asgTF_eq, asgZF_eq, forlF_eq, whlF_eq, lcAllF_eq, lcZF_eq, forzF_eq, whzF_eq, noListF_eq, enumOfF_eq, wipeVF_eq] <;> rfl
  | rais C => intro e0; simp only [rz, show rzF (.rais C : Sz M K CA) = fq_rais (M := M) (K := K) (CA := CA) C from rfl, fq_rais, lk_eq, stF_eq, mapF_eq, asgTF_eq, asgZF_eq, forlF_eq, whlF_eq, lcAllF_eq, lcZF_eq, forzF_eq, whzF_eq, noListF_eq, enumOfF_eq, wipeVF_eq] <;> rfl
  | bad => intro e0; simp only [rz, show rzF (.bad : Sz M K CA) = fq_bad (M := M) (K := K) (CA := CA)  from rfl, fq_bad, lk_eq, stF_eq, mapF_eq, asgTF_eq, asgZF_eq, forlF_eq, whlF_eq, lcAllF_eq, lcZF_eq, forzF_eq, whzF_eq, noListF_eq, enumOfF_eq, wipeVF_eq] <;> rfl
noncomputable def sOfF {M : Hp → Hp → Prop} {K : PySem.W.Frag} (L : St M K) (n a : Nat) (as : List Dt) : Option Rd := if as.length = a then retOf (runF L (env0F n as)) else none
noncomputable def lOfF {M : Hp → Hp → Prop} {K : PySem.W.Frag} (L : St M K) (n a : Nat) (own as : List Dt) : Option (Dt × List Dt) := if as.length + 1 = a then outL (runF L (envL n own as)) else none
noncomputable def sZF {M : Hp → Hp → Prop} {K : PySem.W.Frag} {CA : Str → Addr} (L : Sz M K CA) (n a : Nat) : Zf := fun S as => if as.length = a then retz (rzF L ⟨env0F n as, S⟩) else none
theorem sOfF_eq (L : St M K) (n a : Nat) (as : List Dt) : sOfF L n a as = sOf L n a as := by unfold sOfF sOf; rw [same_s, env0F_eq]
theorem lOfF_eq (L : St M K) (n a : Nat) (own as : List Dt) : lOfF L n a own as = lOf L n a own as := by unfold lOfF lOf; rw [same_s]
theorem sZF_eq (L : Sz M K CA) (n a : Nat) (S : List Cell) (as : List Dt) : sZF L n a S as = sZ L n a S as := by unfold sZF sZ; rw [same_sz, env0F_eq]
section
variable [g : GB M] {P : Program} {w : World} {mg : Str → Option Value} {base : Heap}
theorem DefAt.okSF {x : Str} {st : Stmt} {N ps : List Str} {k : Nat} {L : List Dt → St M K} (D : DefAt K mg x st) (Sc : FnScope N ps (defScope st)) (hB : BindOk x st ps)
    (hb : ∀ as, ∀ (f : Addr) (cdv : Value) (A : Around) (outer : List Env) (s' : Shared) (H : Hp) (E : XK), Room k (A.deeper (envOfC x (defScope st) s'.heap.objs.size f cdv)) →
      PSs (ctx P w K mg base N x (defScope st) f cdv A outer s' H E) (defBody st) (denS E (L as))) : DefOk P w K mg base (k + 1) x ps (spD M K fun as => sOfF (L as) N.length ps.length as) := by
  rw [show (fun as => sOfF (L as) N.length ps.length as) = fun as => sOf (L as) N.length ps.length as from funext fun as => sOfF_eq _ _ _ _]
  exact D.okS Sc hB hb
theorem DefAt.okLF {x : Str} {st : Stmt} {N ps : List Str} {k : Nat} {L : List Dt → St M K} (D : DefAt K mg x st) (Sc : FnScope N ps (defScope st)) (hB : BindOk x st ps) (hN : 0 < N.length)
    (hb : ∀ as, ∀ (f : Addr) (cdv : Value) (A : Around) (outer : List Env) (s' : Shared) (H : Hp) (E : XK), Room k (A.deeper (envOfC x (defScope st) s'.heap.objs.size f cdv)) →
      PSs (ctx P w K mg base N x (defScope st) f cdv A outer s' H E) (defBody st) (denS E (L as))) : DefOk P w K mg base (k + 1) x ps (spL M K fun own as => lOfF (L as) N.length ps.length own as) := by
  rw [show (fun own as => lOfF (L as) N.length ps.length own as) = fun own as => lOf (L as) N.length ps.length own as from funext fun own => funext fun as => lOfF_eq _ _ _ _ _]
  exact D.okLS Sc hB hN hb
theorem DefAt.okZF {x : Str} {st : Stmt} {N ps : List Str} {k : Nat} {L : List Cell → List Dt → Sz M K CA} (D : DefAt K mg x st) (Sc : FnScope N ps (defScope st)) (hB : BindOk x st ps)
    (hb : ∀ S as, ∀ (f : Addr) (cdv : Value) (A : Around) (outer : List Env) (s' : Shared) (H : Hp) (E : XK), Room k (A.deeper (envOfC x (defScope st) s'.heap.objs.size f cdv)) →
      PSs (ctx P w K mg base N x (defScope st) f cdv A outer s' H E) (defBody st) (denSz E (L S as))) : DefOk P w K mg base (k + 1) x ps (spZ M K CA fun S as => sZF (L S as) N.length ps.length S as) := by
  rw [show (fun S as => sZF (L S as) N.length ps.length S as) = fun S as => sZ (L S as) N.length ps.length S as from funext fun S => funext fun as => sZF_eq _ _ _ _ _]
  exact D.okZ Sc hB hb
theorem MethAt.okZF {C : Addr} {cls m : Str} {st : Stmt} {N ps : List Str} {k : Nat} {L : List Cell → List Dt → Sz M K CA} (D : MethAt K C cls m st) (Sc : FnScope N ps (defScope st)) (hB : BindOkM m (cls ++ "." ++ m) st ps)
    (hb : ∀ S as, ∀ (f : Addr) (cdv : Value) (A : Around) (outer : List Env) (s' : Shared) (H : Hp) (E : XK), Room k (A.deeper (envOfC (cls ++ "." ++ m) (defScope st) s'.heap.objs.size f cdv)) →
      PSs (ctx P w K mg base N (cls ++ "." ++ m) (defScope st) f cdv A outer s' H E) (defBody st) (denSz E (L S as))) : MethOk P w K mg base (k + 1) C m ps (spZ M K CA fun S as => sZF (L S as) N.length ps.length S as) := by
  rw [show (fun S as => sZF (L S as) N.length ps.length S as) = fun S as => sZ (L S as) N.length ps.length S as from funext fun S => funext fun as => sZF_eq _ _ _ _ _]
  exact D.okZ Sc hB hb
end
end Bc

set_option maxRecDepth 100000
set_option maxHeartbeats 4000000
/-! Be3: the law's own loop over the draws; the end. -/
namespace Bc
open PySem PySem.Spec
open PyProof.Rows L2
def Mt : Hp → Hp → Prop := fun _ _ => True
instance : GM Mt := ⟨fun _ => trivial, fun _ _ => trivial, fun _ => trivial⟩
instance : GB Mt := ⟨fun _ => trivial, fun _ _ _ _ => trivial⟩
/-- the slots at the begin of a round: the dice alone -/
def envD (n : Nat) (c : Int) : Vs := .no :: .own true [.int c, .int 0] :: List.replicate (n - 2) .no
def t_law (M : Hp → Hp → Prop) (K : PySem.W.Frag) (E : XK) (m : Int) (LB : St M K) : TS :=
  tSeq (tFor (iSeq K (tCall (spRounds K) [] E (tCons (tVar 0) (tCons (tC (.int m)) tNil)))) (gName 1) (denS E LB)) (tRet (tC (.bl true)))
def spLaw (M : Hp → Hp → Prop) (K : PySem.W.Frag) (n m : Nat) (LB : St M K) : Sp := fun vs H Q _ => ∃ (a : Addr) (ns : List Int), vs = [.ref a] ∧ SqL K H a (ns.map V.int) ∧
  (∀ i, i < max 1 (min m ns.length) → ∃ e', run LB (envD n (cell ns i)) = some (.nx e') ∧ e'.length = n) ∧ ∀ H', Q (.bl true) H'
section
variable {M : Hp → Hp → Prop} [g : GB M] {K : PySem.W.Frag}
theorem wd_dice {F H : Hp} {σ : L2.St} {d : Addr} {c : Int} {n : Nat} (hn : 2 ≤ n) (hl : σ.length = n) (s : Sub F H) (f : F d = none) (hd : H d = some (.lst [.int c, .int 0])) :
    Wd (fun a => H a = none ∨ a = d) F H (σ.set 1 (some (.ref d))) (ofE M K ⟨d, []⟩ (envD n c)) := by
  have rest : ∀ (i : Nat) (u : Ow M), (ofE M K ⟨d, []⟩ (envD n c))[i]? = some (.own u) → i = 1 := fun i u h => by
    obtain ⟨x, e1, e2⟩ := ofE_at h
    unfold envD at e1
    match i, e1 with
    | 0, e1 => cases e1; cases e2
    | 1, _ => rfl
    | i + 2, e1 =>
      rw [List.getElem?_cons_succ, List.getElem?_cons_succ, List.getElem?_replicate] at e1
      split at e1
      · cases e1; cases e2
      · cases e1
  have at1 : (σ.set 1 (some (.ref d)))[1]? = some (some (.ref d)) := List.getElem?_set_self (by omega)
  refine ⟨s, ⟨?_, fun i sl e => ?_, fun i j u u' q h1 h2 h3 h4 => ?_⟩, fun q ⟨i, u, h1, h2⟩ => ?_, fun q hq => .inl hq⟩
  · unfold ofE envD
    simp only [List.length_set, List.length_map, List.length_cons, List.length_replicate]
    omega
  · obtain ⟨x, e1, e2⟩ := ofE_at e
    have hi : i < n := by
      have := (List.getElem?_eq_some_iff.mp e1).1
      unfold envD at this
      simp only [List.length_cons, List.length_replicate] at this
      omega
    by_cases h1 : i = 1
    · subst h1
      refine ⟨_, at1, ?_⟩
      cases e1
      subst e2
      refine ⟨d, _, rfl, f, hd, (fun a z => by cases z; rfl), _, rfl, ?_⟩
      rw [xs2, isX, isX]
      exact .cons (.int _) (.cons (.int _) .nil)
    · have hi2 : i < (σ.set 1 (some (V.ref d))).length := by rw [List.length_set]; omega
      refine ⟨_, List.getElem?_eq_getElem hi2, ?_⟩
      cases x with
      | no => subst e2; trivial
      | val y =>
        unfold envD at e1
        match i, e1 with
        | 0, e1 => cases e1
        | 1, e1 => cases e1
        | i + 2, e1 =>
          rw [List.getElem?_cons_succ, List.getElem?_cons_succ, List.getElem?_replicate] at e1
          split at e1 <;> cases e1
      | own q ds =>
        exact absurd (rest i _ (by rw [e, e2]; rfl)) h1
  · rw [rest i u h1, rest j u' h2]
  · have e := rest i u h1
    subst e
    rw [at1] at h2
    injection h2 with h2; injection h2 with h2; injection h2 with h2
    exact .inr h2.symm
theorem law_ok {N : List Str} {m : Nat} {LB : St M K} {vs : List V} {H : Hp} {Q : VK} {E E' : XK} (hN : 2 ≤ N.length) (hm : m < 100) (h : spLaw M K N.length m LB vs H Q E') : t_law M K E m LB { nx := fun _ H' => Q .non H', rt := Q } (L2.start N vs) H := by
  obtain ⟨a, ns, rfl, hs, hg, q⟩ := h
  have len : (L2.start N [.ref a]).length = N.length := by
    unfold L2.start
    simp only [List.length_append, List.length_map, List.length_replicate, List.length_cons, List.length_nil]
    omega
  refine ⟨.ref a, rfl, a, ns, m, rfl, hs, hm, fun H1 p ds g1 hp0 hp hl nd np hd => ⟨p, rfl, .inl ⟨⟨_, SqL.of hp⟩, ?_⟩⟩⟩
  refine for_list (xs := ds.map V.ref) (fun i σ H' => σ.length = N.length ∧ H' p = some (.lst (ds.map V.ref)) ∧ ∀ (j : Nat) (d : Addr), i ≤ j → ds[j]? = some d → H' d = some (.lst [.int (cell ns j), .int 0])) ⟨len, hp, fun j d _ h => (hd j d h).2⟩ (fun i σ H' _ h => SqL.of h.2.1) (fun i x σ H' hx ⟨hσ, hp', hd'⟩ => ?_) (fun σ H' _ => q H')
  rw [List.getElem?_map] at hx
  cases hdi : ds[i]? with
  | none => rw [hdi] at hx; cases hx
  | some d =>
    rw [hdi] at hx
    cases hx
    have hi : i < ds.length := (List.getElem?_eq_some_iff.mp hdi).1
    obtain ⟨e', he, hx⟩ := hg i (by rw [← hl]; exact hi)
    have hdd := hd' i d (Nat.le_refl _) hdi
    let F : Hp := fun b => if b = p then some (.lst (ds.map V.ref)) else none
    have ndp : d ≠ p := fun z => np (z ▸ List.mem_of_getElem? hdi)
    have sub : Sub F H' := fun b o hb => by
      by_cases z : b = p
      · have : F b = some (.lst (ds.map V.ref)) := if_pos z
        rw [this] at hb
        cases hb
        rw [z]
        exact hp'
      · have : F b = none := if_neg z
        rw [this] at hb
        cases hb
    have fd : F d = none := if_neg ndp
    have fp : F p = some (.lst (ds.map V.ref)) := if_pos rfl
    refine fit_all (π := ⟨d, []⟩) LB _ _ he (fun b => H' b = none ∨ b = d) F H' _ _ (wd_dice hN hσ sub fd hdd) ⟨fun Δ σ2 F2 H2 z s2 w2 => ?_, fun _ _ _ _ _ _ z => z.elim, fun _ _ _ _ z => z.elim, fun _ _ _ _ z => z.elim, fun _ z => z.elim⟩
    subst z
    refine ⟨?_, w2.sub _ _ (s2.gw.keep p _ fp True.intro), fun j d' hj hdj => ?_⟩
    · have l1 := w2.sl.len
      unfold ofE at l1
      rw [List.length_map, hx] at l1
      first | exact l1 | exact l1.symm
    · have n1 : d' ≠ d := fun z => by
        subst z
        have := (List.getElem?_inj hi nd).mp (hdi.trans hdj.symm)
        omega
      have n2 : d' ≠ p := fun z => np (z ▸ List.mem_of_getElem? hdj)
      have h0 := hd' j d' (by omega) hdj
      exact (s2.fr d' _ (fun z => z.elim (fun z => by rw [h0] at z; cases z) n1) (if_neg n2) h0).2
/-! ### the end -/
theorem walk_ofBE {l : PySem.W.OpenLaw} {n k : Nat} {q : Program} {loose : List Str} {XP : (Str → Option Value) → Heap → Prop} {YP : World → Heap → Prop} {d : DefRec} {CX : World → CXT} {x : Str}
    (hn : l.most = some n) (hn2 : n ≤ sizeLine) (hdf : d.params.defaults = []) (hr : Room k callerA)
    (F : ∀ (w : World) (mg : Str → Option Value) (fa : Addr) (h : Heap), YP w h → h.Ns mainGlobals mg → mg d.name = some (.ref fa) →
      ∃ (K : PySem.W.Frag) (fd : FuncData) (sp : Sp), K.In h ∧ (∀ (s : Shared) (u : Value), BindsTo s fd ⟨[u], []⟩ [(x, u)]) ∧
        (∀ (H : Hp) (a : Addr) (ns : List Int), ns.length ≤ n → (∀ z ∈ ns, Builtin.Int.intBits z ≤ 1048576) → Only H → SqL K H a (ns.map V.int) → sp [.ref a] H (fun v _ => v = .bl true) fun _ _ _ => False) ∧
        ∀ base : Heap, K.In base → base.Ns mainGlobals mg → FnOk l.prog w K mg base (CX w) k fa fd [x] sp)
    (hCX : ∀ (w : World) (H : Hp) (s : Shared) (e : Value) (s' : Shared), CX w [] H s (fun _ _ _ => False) e s' → False) :
    PySem.W.WalkO q loose XP YP l.row.toRowW d [] (fun f vs => PySem.call f vs) := by
  refine Att.attach_callB hn hdf fun w s₀ s₁ mg mb fa o pm cd doc a vs ns G Y ho hd hcd hmg hobj hints hlen hbits hg => ?_
  obtain ⟨K, fd, sp, KX, hb, hsp, hF⟩ := F w mg fa _ Y G.T.g hmg
  exact law_call KX G.T.g G.T.b G.T.builtins G.T.nolimit hg hobj hints (Nat.le_trans hlen hn2) hr hF hb (fun H hO hS => hsp H a ns hlen hbits hO hS) fun H e s' => hCX w H s₁ e s'
end
end Bc

set_option maxRecDepth 100000
set_option maxHeartbeats 4000000
/-! Be4: the head in parts; nobody looks on when _pylong divides. -/
namespace Bc
open PySem PySem.Spec
open PyProof.Rows L2
/-! ### equations over one run -/
section
variable {α β γ : Type} {E : Option α}
theorem map_pair {f : α → β} {h : α → γ} {b : β} {c : γ} (h1 : E.map f = some b) (h2 : E.map h = some c) : E.map (fun s => (f s, h s)) = some (b, c) := by
  cases E with
  | none => cases h1
  | some s =>
    injection h1 with h1
    injection h2 with h2
    show some (f s, h s) = _
    rw [h1, h2]
theorem map_cons {f : α → β} {h : α → List β} {b : β} {c : List β} (h1 : E.map f = some b) (h2 : E.map h = some c) : E.map (fun s => f s :: h s) = some (b :: c) := by
  cases E with
  | none => cases h1
  | some s =>
    injection h1 with h1
    injection h2 with h2
    show some (f s :: h s) = _
    rw [h1, h2]
theorem map_nil {f : α → γ} {b : γ} (h1 : E.map f = some b) : E.map (fun _ => ([] : List β)) = some [] := by
  cases E with
  | none => cases h1
  | some s => rfl
end
/-! ### the Hook -/
def asP (g : Addr → Option Obj) (n : Nat) : List Addr := He.asD g n ++ [cStatics, sysModules]
def frP (n : Nat) (g : Addr → Option Obj) : PySem.W.Frag := He.frG g (asP g n)
def seerB (K : PySem.W.Frag) : Bool := (K.lookup cStatics).isSome && ((K.lookup sysModules).isSome && ((K.lookup mainGlobals).isSome && (match PySem.W.nsIn K mainGlobals "__builtins__" with
  | some (some (.ref bm)) => (K.lookup bm).isSome
  | _ => false)))
def tupsB (tups : List (Str × List He.Dv)) (K : PySem.W.Frag) : Bool := tups.all fun t => He.tupB K t.1 t.2
abbrev Pts : Type := List (List He.Fa × List He.DefD)
def obsP (n : Nat) (parts : Pts) (tups : List (Str × List He.Dv)) (g : Addr → Option Obj) : Bool × List He.AlD := (seerB (frP n g) && tupsB tups (frP n g), parts.map fun p => He.obsD p.1 p.2 (frP n g))
structure SaysP (parts : Pts) (tups : List (Str × List He.Dv)) (K : PySem.W.Frag) : Prop where
  seer : seerB K = true
  tups : tupsB tups K = true
  part : ∀ p ∈ parts, He.SaysD p.1 p.2 K
theorem says_of {n : Nat} {parts : Pts} {tups : List (Str × List He.Dv)} {g : Addr → Option Obj} (e : obsP n parts tups g = (true, parts.map fun p => He.valD p.2)) : SaysP parts tups (frP n g) := by
  unfold obsP at e
  injection e with e1 e2
  rw [Bool.and_eq_true] at e1
  refine ⟨e1.1, e1.2, fun p hp => ?_⟩
  clear e1
  induction parts with
  | nil => cases hp
  | cons q qs ih =>
    rw [List.map_cons, List.map_cons] at e2
    injection e2 with e3 e4
    rcases List.mem_cons.mp hp with z | z
    · subst z; exact e3
    · exact ih e4 z
def hookP (n : Nat) (parts : Pts) (tups : List (Str × List He.Dv)) : PySem.W.Hook where
  α := Bool × List He.AlD
  obs := fun s => obsP n parts tups s.heap.get?
  val := fun _ => (true, parts.map fun p => He.valD p.2)
  says := fun _ h => ∃ K : PySem.W.Frag, K.In h ∧ SaysP parts tups K
  of := fun _ _ e => ⟨_, He.frG_in, says_of e⟩
  keeps := fun _ _ _ ⟨K, hK, c⟩ k => ⟨K, PySem.W.Frag.In.keeps hK k, c⟩
theorem obsP_eq {n : Nat} {parts : Pts} {tups : List (Str × List He.Dv)} (s : PySem.W.SharedT) : obsP n parts tups (HandSHeadRun.getT s) = (hookP n parts tups).obs s.abs := by
  have e : HandSHeadRun.getT s = s.abs.heap.get? := funext (HandSHeadRun.getT_eq s)
  rw [e] <;> rfl
/-! ### _pylong -/
theorem pyl_of {P : Program} {K : PySem.W.Frag} {h : Heap} (KX : K.In h) (hN : h.NoSeer) (sb : seerB K = true) (ht : P.given.tree = none) : Pyl P K := by
  unfold seerB at sb
  rw [Bool.and_eq_true, Bool.and_eq_true, Bool.and_eq_true] at sb
  obtain ⟨b1, b2, b3, b4⟩ := sb
  refine ⟨fun h' KX' hb => ?_, ht⟩
  have same : ∀ a, (K.lookup a).isSome = true → h'.get? a = h.get? a := fun a ha => by
    cases q : K.lookup a with
    | none => rw [q] at ha; cases ha
    | some o => rw [KX a o q, KX' a o q]
  have ns : ∀ {a : Addr} {m : Str → Option Value}, (K.lookup a).isSome = true → h.Ns a m → h'.Ns a m := fun {a m} ha ⟨o, es, ep, e, r⟩ => ⟨o, es, ep, by rw [same a ha]; exact e, r⟩
  obtain ⟨mc, c1, c2, c3⟩ := hN.statics
  obtain ⟨mm, m1, m2⟩ := hN.mods
  obtain ⟨mg, bm, ob, g1, g2, g3, g4, g5⟩ := hN.main
  refine ⟨⟨mc, ns b1 c1, c2, c3⟩, ⟨mm, ns b2 m1, m2⟩, hb, ⟨mg, bm, ob, ns b3 g1, g2, ?_, g4, g5⟩⟩
  split at b4
  · rename_i bm' q
    have z := PySem.W.mg_of KX g1 q
    rw [g2] at z
    injection z with z; injection z with z
    subst z
    rw [same _ b4]
    exact g3
  · cases b4
/-! ### the end -/
theorem walk_ofP {l : PySem.W.OpenLaw} {n k : Nat} {q : Program} {loose : List Str} {XP : (Str → Option Value) → Heap → Prop} {YP : World → Heap → Prop} {d : DefRec} {CX : World → CXT} {x : Str}
    (hn : l.most = some n) (hn2 : n ≤ sizeLine) (hdf : d.params.defaults = []) (hr : Room k callerA) (hi : importsNone q = true)
    (F : ∀ (w : World) (mg : Str → Option Value) (fa : Addr) (h : Heap), YP w h → h.Ns mainGlobals mg → h.NoSeer → mg d.name = some (.ref fa) →
      ∃ (K : PySem.W.Frag) (fd : FuncData) (sp : Sp), K.In h ∧ (∀ (s : Shared) (u : Value), BindsTo s fd ⟨[u], []⟩ [(x, u)]) ∧
        (∀ (H : Hp) (a : Addr) (ns : List Int), ns.length ≤ n → (∀ z ∈ ns, Builtin.Int.intBits z ≤ 1048576) → Only H → SqL K H a (ns.map V.int) → sp [.ref a] H (fun v _ => v = .bl true) fun _ _ _ => False) ∧
        ∀ base : Heap, K.In base → base.Ns mainGlobals mg → FnOk l.prog w K mg base (CX w) k fa fd [x] sp)
    (hCX : ∀ (w : World) (H : Hp) (s : Shared) (e : Value) (s' : Shared), CX w [] H s (fun _ _ _ => False) e s' → False) :
    PySem.W.WalkO q loose XP YP l.row.toRowW d [] (fun f vs => PySem.call f vs) := by
  refine Att.attach_callB hn hdf fun w s₀ s₁ mg mb fa o pm cd doc a vs ns G Y ho hd hcd hmg hobj hints hlen hbits hg => ?_
  obtain ⟨K, fd, sp, KX, hb, hsp, hF⟩ := F w mg fa _ Y G.T.g (G.T.seer hi) hmg
  exact law_call KX G.T.g G.T.b G.T.builtins G.T.nolimit hg hobj hints (Nat.le_trans hlen hn2) hr hF hb (fun H hO hS => hsp H a ns hlen hbits hO hS) fun H e s' => hCX w H s₁ e s'
theorem kls_of {K : PySem.W.Frag} {h : Heap} {mg : Str → Option Value} (X : K.In h) (G : h.Ns mainGlobals mg) {x : Str} (c1 : (He.Fa.cls x).ok K = true) (c2 : (He.Fa.mkr x).ok K = true) (c3 : (He.Fa.glo x).ok K = true) : KlsAt K mg (He.ga K x) x :=
  ⟨He.cls_ok c1, He.glo_ok X G c3, fun f me => by
    have m := He.mkr_ok c2
    have e := me.at_.symm.trans m.init
    injection e with e; injection e with e; injection e with e
    subst e
    exact m⟩
theorem exc_of {K : PySem.W.Frag} {h : Heap} {mg : Str → Option Value} (X : K.In h) (G : h.Ns mainGlobals mg) {x : Str} (c1 : (He.Fa.exc x).ok K = true) (c3 : (He.Fa.glo x).ok K = true) : ExcAt K mg x (He.ga K x) := by
  obtain ⟨a, b, c, d⟩ := He.exc_ok c1
  exact ⟨a, He.glo_ok X G c3, b, c, d⟩
end Bc
namespace Bc
open PySem PySem.Spec
open PyProof.Rows L2
theorem map_three {α β γ δ : Type} {E : Option α} {f : α → β} {h : α → γ} {k : α → δ} {b : β} {c : γ} {d : δ} (h1 : E.map (fun s => (f s, h s)) = some (b, c)) (h2 : E.map k = some d) : E.map (fun s => (f s, h s, k s)) = some (b, c, d) := by
  cases E with
  | none => cases h1
  | some s =>
    injection h1 with h1
    injection h1 with h0 h1
    injection h2 with h2
    show some (f s, h s, k s) = _
    rw [h0, h1, h2]
section
variable {K : PySem.W.Frag} {h : Heap} {mg : Str → Option Value} {fa0 : List He.Fa} {fn : List He.DefD}
theorem defAt_of (X : K.In h) (G : h.Ns mainGlobals mg) (cf : He.SaysD fa0 [] K) (cd : He.SaysD [] fn K) {x : Str} {st : Stmt} (i j : Nat) (hd : fn[i]? = some ⟨(x, none), x, x, defArgs st, defBody st, defScope st, [], []⟩) (hf : fa0[j]? = some (.glo x)) : DefAt K mg x st := by
  obtain ⟨fd, F⟩ := cd.def_ i hd
  exact ⟨_, fd, F, He.glo_ok X G (cf.fact j hf)⟩
theorem methAt_of (cf : He.SaysD fa0 [] K) (cd : He.SaysD [] fn K) {c m : Str} {st : Stmt} (i j : Nat) (hd : fn[i]? = some ⟨(c, some m), m, c ++ "." ++ m, defArgs st, defBody st, defScope st, [], []⟩) (hf : fa0[j]? = some (.meth c m)) : MethAt K (He.ga K c) c m st := by
  obtain ⟨fd, F⟩ := cd.def_ i hd
  exact ⟨_, fd, F, He.meth_ok (cf.fact j hf)⟩
theorem law_at (cd : He.SaysD [] fn K) {x : Str} {st : Stmt} (i : Nat) (hd : fn[i]? = some ⟨(x, none), x, x, defArgs st, defBody st, defScope st, [], []⟩) : ∃ fd, FunD K x x (defArgs st) (defBody st) (defScope st) [] [] (He.ga K x) fd := by
  obtain ⟨fd, F⟩ := cd.def_ i hd
  exact ⟨fd, F⟩
end
theorem strs_tup {M : Hp → Hp → Prop} {K : PySem.W.Frag} {π : Pa} {F : Hp} : ∀ ss : List Str, Tys (M := M) F (ss.map V.str) (isXs K π (ss.map .str))
  | [] => by rw [List.map_nil, List.map_nil, isXs]; exact .nil
  | s :: ss => by
    rw [List.map_cons, List.map_cons, isXs, isX]
    exact .cons (.str s) (strs_tup ss)
theorem cx_none {P : Program} {w : World} {H : Hp} {s : Shared} {e : Value} {s' : Shared} (h : L2.CX P w [] H s (fun _ _ _ => False) e s') : False := by
  obtain ⟨_, _, _, _, _, _, _, _, _, _, _, _, z⟩ := h
  exact z
/-! ### the draws' sizes -/
def Sm (n : Nat) (c : Int) : Prop := c.natAbs < 2 ^ n
theorem Sm.log {n : Nat} {c : Int} (h : Sm n c) : c.natAbs.log2 ≤ n := by
  by_cases z : c.natAbs = 0
  · rw [z]; exact Nat.zero_le _
  · exact Nat.le_of_lt ((Nat.log2_lt z).mpr h)
theorem Sm.cm {n m : Nat} {a b : Int} (ha : Sm n a) (hb : Sm m b) (h : n + m < 134000000) : CMulB a b := by
  unfold CMulB
  have := ha.log
  have := hb.log
  omega
theorem Sm.mul {n m : Nat} {a b : Int} (ha : Sm n a) (hb : Sm m b) : Sm (n + m) (a * b) := by
  unfold Sm at *
  rw [Int.natAbs_mul, Nat.pow_add]
  exact Nat.mul_lt_mul'' ha hb
theorem Sm.mono {n m : Nat} {a : Int} (ha : Sm n a) (h : n ≤ m) : Sm m a := Nat.lt_of_lt_of_le ha (Nat.pow_le_pow_right (by decide) h)
theorem Sm.add {n : Nat} {a b : Int} (ha : Sm n a) (hb : Sm n b) : Sm (n + 1) (a + b) := by
  unfold Sm at *
  have := Int.natAbs_add_le a b
  rw [Nat.pow_succ]
  omega
theorem Sm.of {n : Nat} {a : Int} (h0 : 0 ≤ a) (h : a < 2 ^ n) : Sm n a := by
  unfold Sm
  have e : ((a.natAbs : Nat) : Int) = a := Int.natAbs_of_nonneg h0
  have : ((a.natAbs : Nat) : Int) < ((2 ^ n : Nat) : Int) := by rw [e]; simpa using h
  omega
theorem fmod_sm {a b : Int} (hb : 0 < b) : 0 ≤ a.fmod b ∧ a.fmod b < b := by
  rw [Int.fmod_eq_emod_of_nonneg _ (Int.le_of_lt hb)]
  exact ⟨Int.emod_nonneg _ (Int.ne_of_gt hb), Int.emod_lt_of_pos _ hb⟩
theorem fdiv_sm {n : Nat} {a b : Int} (ha : Sm n a) (h0 : 0 ≤ a) (hb : 0 < b) : 0 ≤ a.fdiv b ∧ Sm n (a.fdiv b) := by
  rw [Int.fdiv_eq_ediv_of_nonneg _ (Int.le_of_lt hb)]
  have h1 : 0 ≤ a / b := Int.ediv_nonneg h0 (Int.le_of_lt hb)
  have h2 : a / b ≤ a := Int.ediv_le_self b h0
  refine ⟨h1, ?_⟩
  unfold Sm at *
  omega
theorem sm_small {n : Nat} {a : Int} (h : a.natAbs < 2 ^ 64) (hn : 64 ≤ n) : Sm n a := Nat.lt_of_lt_of_le h (Nat.pow_le_pow_right (by decide) hn)
theorem bits_sm {z : Int} (h : Builtin.Int.intBits z ≤ 1048576) : Sm 1048576 z := by
  unfold Sm
  by_cases h0 : z.natAbs = 0
  · rw [h0]; exact Nat.two_pow_pos _
  · refine (Nat.log2_lt h0).mp ?_
    have e : Builtin.Int.intBits z = z.natAbs.log2 + 1 := by
      unfold Builtin.Int.intBits
      split
      · rename_i q
        exact absurd (by have q2 : z = 0 := by simpa using q
                         rw [q2]; rfl) h0
      · rfl
    omega
theorem cell_sm {ns : List Int} {i : Nat} (hb : ∀ z ∈ ns, Builtin.Int.intBits z ≤ 1048576) (hi : i < 100) : Sm 1900000 (cell ns i) := by
  unfold cell
  split
  · refine sm_small ?_ (by decide)
    rw [Int.natAbs_mul, Int.natAbs_natCast]
    exact Nat.lt_of_lt_of_le (Nat.mul_lt_mul_of_pos_right hi (by decide)) (by decide)
  · rename_i hn
    have hl : 0 < ns.length := List.length_pos_iff.mpr hn
    have hm : i % ns.length < ns.length := Nat.mod_lt _ hl
    have e : ns.getD (i % ns.length) 0 = ns[i % ns.length] := by rw [List.getD_eq_getElem?_getD, List.getElem?_eq_getElem hm]; rfl
    rw [e]
    have h1 : Sm 1048576 ns[i % ns.length] := bits_sm (hb _ (List.getElem_mem hm))
    have h2 : Sm 1048576 (((i / ns.length : Nat) : Int) * 104729) := by
      refine sm_small ?_ (by decide)
      rw [Int.natAbs_mul, Int.natAbs_natCast]
      have : i / ns.length < 100 := Nat.lt_of_le_of_lt (Nat.div_le_self _ _) hi
      exact Nat.lt_of_lt_of_le (Nat.mul_lt_mul_of_pos_right this (by decide)) (by decide)
    exact (h1.add h2).mono (by decide)
variable {M : Hp → Hp → Prop} [g : GB M] {K : PySem.W.Frag} {CA : Str → Addr}
theorem f_mul (i j : Int) (h : CMulB i j) : (o_mul M K).f (.int i) (.int j) = some (.int (i * j)) := if_pos h
theorem f_add (i j : Int) : (o_add M K).f (.int i) (.int j) = some (.int (i + j)) := rfl
theorem f_sub (i j : Int) : (o_sub M K).f (.int i) (.int j) = some (.int (i - j)) := rfl
theorem f_mod (i j : Int) (h : j ≠ 0) : (o_mod M K).f (.int i) (.int j) = some (.int (i.fmod j)) := if_pos (by simpa [nz2] using h)
theorem f_fdiv (i j : Int) (h : j ≠ 0) : (o_fdiv M K).f (.int i) (.int j) = some (.int (i.fdiv j)) := if_pos (by simpa [nz2] using h)
theorem f_ge (i j : Int) : (o_ge M K).f (.int i) (.int j) = some (.bool (decide (j ≤ i))) := rfl
theorem f_pow18 : (o_pow M K).f (.int 10) (.int 18) = some (.int 1000000000000000000) := by
  show (if decide (CPow 10 18) = true then some (Dt.int ((10 : Int) ^ (18 : Int).toNat)) else none) = _
  rw [if_pos (by decide +kernel)]
  rfl
theorem f_ix0 (a b : Int) : (o_ix M K).f (.list [.int a, .int b]) (.int 0) = some (.int a) := rfl
theorem f_ix1 (a b : Int) : (o_ix M K).f (.list [.int a, .int b]) (.int 1) = some (.int b) := rfl
/-- what a draw keeps -/
structure Dice (n : Nat) (ds : List Dt) : Prop where
  ex : ∃ c i : Int, ds = [.int c, .int i] ∧ Sm 1900000 c ∧ 0 ≤ i ∧ i ≤ n
end Bc

set_option maxRecDepth 100000
set_option maxHeartbeats 0
namespace Bc
open PySem PySem.Spec
open PyProof.Rows L2
def top (i : Nat) : Stmt := PySem.Challenge.pw_bentcurves_k16_whole_close_places.main.body.getD i (.Pass ⟨0, 0, 0, 0⟩)
def d_PAIRS : Dt := .ktup [.str "sum", .str "times", .str "max", .str "min", .str "into"]
/-- what stands in the module -/
structure Cn (M : Hp → Hp → Prop) (K : PySem.W.Frag) where
  no : Unit
  v_PAIRS : V
  h_PAIRS : ∀ (π : Pa) F, (isX (M := M) K π d_PAIRS).φ v_PAIRS F
  a_InvalidCurve : Addr
  a_InvalidNumber : Addr
structure CnOk {M : Hp → Hp → Prop} {K : PySem.W.Frag} (mg : Str → Option Value) (C : Cn M K) : Prop where
  PAIRS : ∃ u, mg "PAIRS" = some u ∧ RelV C.v_PAIRS u
  MOST_PARTS : ∃ t, mg "MOST_PARTS" = some (.int 15 t)
  MOST_DEGREE : ∃ t, mg "MOST_DEGREE" = some (.int 6 t)
  InvalidCurve : ExcAt K mg "InvalidCurve" C.a_InvalidCurve
  InvalidNumber : ExcAt K mg "InvalidNumber" C.a_InvalidNumber
/-- the classes -/
structure Kf (K : PySem.W.Frag) (CA : Str → Addr) : Prop where
  c_Root : Cls K (CA "Root")
  c_Bent : Cls K (CA "Bent")
  n_Bent_roots : NoAttr K (CA "Bent") "roots"
  n_Bent_rows : NoAttr K (CA "Bent") "rows"
  n_Root_high : NoAttr K (CA "Root") "high"
  n_Root_low : NoAttr K (CA "Root") "low"
  n_Root_chain : NoAttr K (CA "Root") "chain"
  n_Root_row : NoAttr K (CA "Root") "row"
structure Kg (K : PySem.W.Frag) (mg : Str → Option Value) (CA : Str → Addr) : Prop extends Kf K CA where
  k_Root : KlsAt K mg (CA "Root") "Root"
  k_Bent : KlsAt K mg (CA "Bent") "Bent"
/-- the defs of the module -/
structure Df (K : PySem.W.Frag) (mg : Str → Option Value) (CA : Str → Addr) : Prop where
  turns : DefAt K mg "turns" (top 23)
  sign_of : DefAt K mg "sign_of" (top 5)
  sign_at : DefAt K mg "sign_at" (top 19)
  turns_at : DefAt K mg "turns_at" (top 24)
  count_roots : DefAt K mg "count_roots" (top 25)
  divisor : DefAt K mg "divisor" (top 1)
  lowest : DefAt K mg "lowest" (top 2)
  between : DefAt K mg "between" (top 4)
  Root_halve : MethAt K (CA "Root") "Root" "halve" (inClass (top 27) 1)
  content : DefAt K mg "content" (top 13)
  trimmed : DefAt K mg "trimmed" (top 9)
  row_rest : DefAt K mg "row_rest" (top 15)
  slope_of : DefAt K mg "slope_of" (top 18)
  chain_of : DefAt K mg "chain_of" (top 22)
  primitive : DefAt K mg "primitive" (top 14)
  row_quotient : DefAt K mg "row_quotient" (top 17)
  row_divisor : DefAt K mg "row_divisor" (top 16)
  simple : DefAt K mg "simple" (top 21)
  number_in : DefAt K mg "number_in" (top 34)
  row_sum : DefAt K mg "row_sum" (top 10)
  form_of : DefAt K mg "form_of" (top 59)
  Bent_init : MethAt K (CA "Bent") "Bent" "__init__" (inClass (top 53) 0)
  joined : DefAt K mg "joined" (top 54)
  is_less : DefAt K mg "is_less" (top 3)
  place_between : DefAt K mg "place_between" (top 32)
  places_between : DefAt K mg "places_between" (top 33)
  row_product : DefAt K mg "row_product" (top 11)
  put_in : DefAt K mg "put_in" (top 12)
  Root_against : MethAt K (CA "Root") "Root" "against" (inClass (top 27) 2)
  Bent_row_at : MethAt K (CA "Bent") "Bent" "row_at" (inClass (top 53) 1)
  value_at : DefAt K mg "value_at" (top 20)
  compared : DefAt K mg "compared" (top 30)
  sorted_roots : DefAt K mg "sorted_roots" (top 31)
  Root_init : MethAt K (CA "Root") "Root" "__init__" (inClass (top 27) 0)
  bound_of : DefAt K mg "bound_of" (top 28)
  roots_of : DefAt K mg "roots_of" (top 29)
  led_into : DefAt K mg "led_into" (top 57)
  crossings : DefAt K mg "crossings" (top 55)
  put_together : DefAt K mg "put_together" (top 56)
  bent_of : DefAt K mg "bent_of" (top 58)
  parts_of : DefAt K mg "parts_of" (top 45)
  degree_of : DefAt K mg "degree_of" (top 47)
  highest : DefAt K mg "highest" (top 49)
  size_of : DefAt K mg "size_of" (top 46)
  is_whole : DefAt K mg "is_whole" (top 6)
  is_shaped : DefAt K mg "is_shaped" (top 44)
  is_curve : DefAt K mg "is_curve" (top 48)
  need_curve : DefAt K mg "need_curve" (top 50)
  form : DefAt K mg "form" (top 60)
  without_repeats : DefAt K mg "without_repeats" (top 74)
  sign_at_root : DefAt K mg "sign_at_root" (top 35)
  cuts_of : DefAt K mg "cuts_of" (top 63)
  signs_along : DefAt K mg "signs_along" (top 64)
  signs : DefAt K mg "signs" (top 75)
  floor_of : DefAt K mg "floor_of" (top 66)
  nearest_top : DefAt K mg "nearest_top" (top 68)
  is_within : DefAt K mg "is_within" (top 67)
  simplest_in : DefAt K mg "simplest_in" (top 69)
  stretch_of : DefAt K mg "stretch_of" (top 65)
  gap_of : DefAt K mg "gap_of" (top 62)
  need_two : DefAt K mg "need_two" (top 51)
  parting : DefAt K mg "parting" (top 70)
  zeros_in : DefAt K mg "zeros_in" (top 72)
  is_fraction : DefAt K mg "is_fraction" (top 7)
  takes : DefAt K mg "takes" (top 76)
  is_convex : DefAt K mg "is_convex" (top 79)
  slopes_along : DefAt K mg "slopes_along" (top 77)
  ways : DefAt K mg "ways" (top 78)
  meetings : DefAt K mg "meetings" (top 71)
  law_drawn : DefAt K mg "_law_drawn" (top 82)
  law_roll : DefAt K mg "_law_roll" (top 83)
  law_right_near : DefAt K mg "_law_right_near" (top 85)
variable {M : Hp → Hp → Prop} [g : GB M] {K : PySem.W.Frag} {CA : Str → Addr}
noncomputable def L_turns (C : Cn M K) (Cf : Kf K CA) : St M K :=
    (.seq (.asg (.name 0) (.lc (.iseq (.var 0)) (.name 1) (.tst (.op (o_ne M K) (.var 1) (.int 0))) (.var 1)))
    (.ret (.fn (b_len M K) (.cons (.lc (.irng (.op (o_sub M K) (.fn (b_len M K) (.cons (.var 0) .nil)) (.int 1))) (.name 2) (.tst (.op (o_ne M K) (.op (o_ix M K) (.var 0) (.var 2)) (.op (o_ix M K) (.var 0) (.op (o_add M K) (.var 2) (.int 1))))) (.int 1)) .nil))))
noncomputable def s_turns (C : Cn M K) (Cf : Kf K CA) : List Dt → Option Rd := fun as => sOfF (L_turns C Cf) 3 1 as
noncomputable def L_sign_of (C : Cn M K) (Cf : Kf K CA) : St M K :=
    (.ret (.ifx (.tst (.op (o_gt M K) (.var 0) (.int 0))) (.int 1) (.ifx (.tst (.op (o_lt M K) (.var 0) (.int 0))) (.un (o_neg M K) (.int 1)) (.int 0))))
noncomputable def s_sign_of (C : Cn M K) (Cf : Kf K CA) : List Dt → Option Rd := fun as => sOfF (L_sign_of C Cf) 1 1 as
noncomputable def L_sign_at (C : Cn M K) (Cf : Kf K CA) : St M K :=
    (.seq (.asg (.tup [2, 3]) (.tup (.cons (.int 0) (.cons (.int 1) .nil))))
    (.seq (.fr (.iseq (.sls (.var 0) .nob .nob (.part (.un (o_neg M K) (.int 1))))) (.name 4) (.par 2 3 (.op (o_add M K) (.op (o_mul M K) (.var 2) (.op (o_ix M K) (.var 1) (.int 0))) (.op (o_mul M K) (.var 4) (.var 3))) (.op (o_mul M K) (.var 3) (.op (o_ix M K) (.var 1) (.int 1)))))
    (.ret (.call (s_sign_of C Cf) (.cons (.var 2) .nil)))))
noncomputable def s_sign_at (C : Cn M K) (Cf : Kf K CA) : List Dt → Option Rd := fun as => sOfF (L_sign_at C Cf) 5 2 as
noncomputable def L_turns_at (C : Cn M K) (Cf : Kf K CA) : St M K :=
    (.seq (.ife (.tst (.op (o_is M K) (.var 1) .non)) (.ret (.call (s_turns C Cf) (.cons (.lc (.iseq (.var 0)) (.name 2) .yes (.op (o_mul M K) (.call (s_sign_of C Cf) (.cons (.op (o_ix M K) (.var 2) (.un (o_neg M K) (.int 1))) .nil)) (.ifx (.tst (.op (o_eq M K) (.op (o_mod M K) (.fn (b_len M K) (.cons (.var 2) .nil)) (.int 2)) (.int 1))) (.int 1) (.un (o_neg M K) (.int 1))))) .nil))) .nx)
    (.ret (.call (s_turns C Cf) (.cons (.lc (.iseq (.var 0)) (.name 2) .yes (.call (s_sign_at C Cf) (.cons (.var 2) (.cons (.var 1) .nil)))) .nil))))
noncomputable def s_turns_at (C : Cn M K) (Cf : Kf K CA) : List Dt → Option Rd := fun as => sOfF (L_turns_at C Cf) 3 2 as
noncomputable def L_count_roots (C : Cn M K) (Cf : Kf K CA) : St M K :=
    (.ret (.op (o_sub M K) (.call (s_turns_at C Cf) (.cons (.var 0) (.cons (.var 1) .nil))) (.call (s_turns_at C Cf) (.cons (.var 0) (.cons (.var 2) .nil)))))
noncomputable def s_count_roots (C : Cn M K) (Cf : Kf K CA) : List Dt → Option Rd := fun as => sOfF (L_count_roots C Cf) 3 3 as
noncomputable def L_divisor (C : Cn M K) (Cf : Kf K CA) (fuel : Nat) : St M K :=
    (.seq (.par 0 1 (.fn (b_abs M K) (.cons (.var 0) .nil)) (.fn (b_abs M K) (.cons (.var 1) .nil)))
    (.seq (.wh fuel (.tst (.op (o_ne M K) (.var 1) (.int 0))) (.par 0 1 (.var 1) (.op (o_mod M K) (.var 0) (.var 1))))
    (.ret (.var 0))))
noncomputable def s_divisor (C : Cn M K) (Cf : Kf K CA) : List Dt → Option Rd := fun as => sOfF (L_divisor C Cf (wts as)) 2 2 as
noncomputable def L_lowest (C : Cn M K) (Cf : Kf K CA) : St M K :=
    (.seq (.asg (.name 2) (.call (s_divisor C Cf) (.cons (.var 0) (.cons (.var 1) .nil))))
    (.seq (.asg (.name 2) (.ifx (.tst (.op (o_lt M K) (.var 1) (.int 0))) (.un (o_neg M K) (.var 2)) (.var 2)))
    (.ret (.tup (.cons (.op (o_fdiv M K) (.var 0) (.var 2)) (.cons (.op (o_fdiv M K) (.var 1) (.var 2)) .nil))))))
noncomputable def s_lowest (C : Cn M K) (Cf : Kf K CA) : List Dt → Option Rd := fun as => sOfF (L_lowest C Cf) 3 2 as
noncomputable def L_between (C : Cn M K) (Cf : Kf K CA) : St M K :=
    (.ret (.call (s_lowest C Cf) (.cons (.op (o_add M K) (.op (o_mul M K) (.op (o_ix M K) (.var 0) (.int 0)) (.op (o_ix M K) (.var 1) (.int 1))) (.op (o_mul M K) (.op (o_ix M K) (.var 1) (.int 0)) (.op (o_ix M K) (.var 0) (.int 1)))) (.cons (.op (o_mul M K) (.op (o_mul M K) (.int 2) (.op (o_ix M K) (.var 0) (.int 1))) (.op (o_ix M K) (.var 1) (.int 1))) .nil))))
noncomputable def s_between (C : Cn M K) (Cf : Kf K CA) : List Dt → Option Rd := fun as => sOfF (L_between C Cf) 2 2 as
noncomputable def L_Root_halve (C : Cn M K) (Cf : Kf K CA) : Sz M K CA :=
    (.seq (.asg (.name 1) (.callP (s_between C Cf) (.cons (.fld "Root" "low" Cf.c_Root Cf.n_Root_low (.pu (.var 0))) (.cons (.fld "Root" "high" Cf.c_Root Cf.n_Root_high (.pu (.var 0))) .nil))))
    (.ife (.tst (.op (o_eq M K) (.callP (s_count_roots C Cf) (.cons (.fld "Root" "chain" Cf.c_Root Cf.n_Root_chain (.pu (.var 0))) (.cons (.fld "Root" "low" Cf.c_Root Cf.n_Root_low (.pu (.var 0))) (.cons (.pu (.var 1)) .nil)))) (.pu (.int 1)))) (.setF "Root" "high" Cf.c_Root Cf.n_Root_high (.pu (.var 0)) (.pu (.var 1))) (.setF "Root" "low" Cf.c_Root Cf.n_Root_low (.pu (.var 0)) (.pu (.var 1)))))
noncomputable def s_Root_halve (C : Cn M K) (Cf : Kf K CA) : Zf := fun S as => sZF (L_Root_halve C Cf) 2 1 S as
noncomputable def L_content (C : Cn M K) (Cf : Kf K CA) : St M K :=
    (.seq (.asg (.name 1) (.int 0))
    (.seq (.fr (.iseq (.var 0)) (.name 2) (.asg (.name 1) (.call (s_divisor C Cf) (.cons (.var 1) (.cons (.var 2) .nil)))))
    (.ret (.var 1))))
noncomputable def s_content (C : Cn M K) (Cf : Kf K CA) : List Dt → Option Rd := fun as => sOfF (L_content C Cf) 3 1 as
noncomputable def L_trimmed (C : Cn M K) (Cf : Kf K CA) (fuel : Nat) : St M K :=
    (.seq (.own 0 (.bor (.lsOf (.var 0))))
    (.seq (.wh fuel (.tbor (.tand (.tst (.op (o_ne M K) (.var 0) (.lst .nil))) (.tst (.op (o_eq M K) (.op (o_ix M K) (.var 0) (.un (o_neg M K) (.int 1))) (.int 0))))) (.pop 0))
    (.ret (.bor (.fn (b_tup M K) (.cons (.var 0) .nil))))))
noncomputable def s_trimmed (C : Cn M K) (Cf : Kf K CA) : List Dt → Option Rd := fun as => sOfF (L_trimmed C Cf (wts as)) 1 1 as
noncomputable def L_row_rest (C : Cn M K) (Cf : Kf K CA) (fuel : Nat) : St M K :=
    (.seq (.own 0 (.bor (.lsOf (.var 0))))
    (.seq (.wh fuel (.tbor (.tst (.op (o_ge M K) (.fn (b_len M K) (.cons (.var 0) .nil)) (.fn (b_len M K) (.cons (.var 1) .nil))))) (.seq (.par 2 3 (.bor (.op (o_ix M K) (.var 0) (.un (o_neg M K) (.int 1)))) (.bor (.op (o_sub M K) (.fn (b_len M K) (.cons (.var 0) .nil)) (.fn (b_len M K) (.cons (.var 1) .nil)))))
    (.seq (.own 0 (.bor (.lc (.iseq (.var 0)) (.name 4) .yes (.op (o_mul M K) (.var 4) (.op (o_ix M K) (.var 1) (.un (o_neg M K) (.int 1)))))))
    (.seq (.fr (.ienum (.var 1)) (.tup [5, 4]) (.setO 0 (.op (o_add M K) (.var 5) (.var 3)) (.bor (.op (o_sub M K) (.op (o_ix M K) (.var 0) (.op (o_add M K) (.var 5) (.var 3))) (.op (o_mul M K) (.var 2) (.var 4))))))
    (.own 0 (.bor (.lsOf (.call (s_trimmed C Cf) (.cons (.var 0) .nil)))))))))
    (.ret (.bor (.fn (b_tup M K) (.cons (.var 0) .nil))))))
noncomputable def s_row_rest (C : Cn M K) (Cf : Kf K CA) : List Dt → Option Rd := fun as => sOfF (L_row_rest C Cf (wts as)) 6 2 as
noncomputable def L_slope_of (C : Cn M K) (Cf : Kf K CA) : St M K :=
    (.ret (.fn (b_tup M K) (.cons (.sl (.lc (.ienum (.var 0)) (.tup [1, 2]) .yes (.op (o_mul M K) (.var 1) (.var 2))) (.part (.int 1)) .nob) .nil)))
noncomputable def s_slope_of (C : Cn M K) (Cf : Kf K CA) : List Dt → Option Rd := fun as => sOfF (L_slope_of C Cf) 3 1 as
noncomputable def L_chain_of (C : Cn M K) (Cf : Kf K CA) (fuel : Nat) : St M K :=
    (.seq (.own 1 (.lst (.cons (.var 0) (.cons (.call (s_slope_of C Cf) (.cons (.var 0) .nil)) .nil))))
    (.seq (.wh fuel (.tbor (.tst (.op (o_ne M K) (.op (o_ix M K) (.var 1) (.un (o_neg M K) (.int 1))) (.tup .nil)))) (.seq (.asg (.name 2) (.bor (.ifx (.tst (.op (o_gt M K) (.op (o_ix M K) (.op (o_ix M K) (.var 1) (.un (o_neg M K) (.int 1))) (.un (o_neg M K) (.int 1))) (.int 0))) (.op (o_ix M K) (.var 1) (.un (o_neg M K) (.int 1))) (.fn (b_tup M K) (.cons (.lc (.iseq (.op (o_ix M K) (.var 1) (.un (o_neg M K) (.int 1)))) (.name 3) .yes (.un (o_neg M K) (.var 3))) .nil)))))
    (.seq (.asg (.name 4) (.bor (.call (s_row_rest C Cf) (.cons (.op (o_ix M K) (.var 1) (.un (o_neg M K) (.int 2))) (.cons (.var 2) .nil)))))
    (.seq (.asg (.name 5) (.call (s_content C Cf) (.cons (.var 4) .nil)))
    (.app 1 (.fn (b_tup M K) (.cons (.lc (.iseq (.var 4)) (.name 3) .yes (.op (o_fdiv M K) (.un (o_neg M K) (.var 3)) (.var 5))) .nil)))))))
    (.ret (.bor (.sl (.var 1) .nob (.part (.un (o_neg M K) (.int 1))))))))
noncomputable def s_chain_of (C : Cn M K) (Cf : Kf K CA) : List Dt → Option Rd := fun as => sOfF (L_chain_of C Cf (wts as)) 6 1 as
noncomputable def L_primitive (C : Cn M K) (Cf : Kf K CA) : St M K :=
    (.seq (.ife (.tst (.op (o_eq M K) (.var 0) (.tup .nil))) (.ret (.tup .nil)) .nx)
    (.seq (.asg (.name 1) (.ifx (.tst (.op (o_gt M K) (.op (o_ix M K) (.var 0) (.un (o_neg M K) (.int 1))) (.int 0))) (.call (s_content C Cf) (.cons (.var 0) .nil)) (.un (o_neg M K) (.call (s_content C Cf) (.cons (.var 0) .nil)))))
    (.ret (.fn (b_tup M K) (.cons (.lc (.iseq (.var 0)) (.name 2) .yes (.op (o_fdiv M K) (.var 2) (.var 1))) .nil)))))
noncomputable def s_primitive (C : Cn M K) (Cf : Kf K CA) : List Dt → Option Rd := fun as => sOfF (L_primitive C Cf) 3 1 as
noncomputable def L_row_quotient (C : Cn M K) (Cf : Kf K CA) (fuel : Nat) : Sz M K CA :=
    (.seq (.par 0 2 (.o (.bor (.lsOf (.var 0)))) (.o (.bor (.op (o_mul M K) (.lst (.cons (.int 0) .nil)) (.fn (b_max2 M K) (.cons (.op (o_add M K) (.op (o_sub M K) (.fn (b_len M K) (.cons (.var 0) .nil)) (.fn (b_len M K) (.cons (.var 1) .nil))) (.int 1)) (.cons (.int 0) .nil)))))))
    (.seq (.wh fuel (.tpu (.tbor (.tst (.op (o_ne M K) (.var 0) (.lst .nil))))) (.seq (.asg (.name 3) (.pu (.bor (.op (o_sub M K) (.fn (b_len M K) (.cons (.var 0) .nil)) (.fn (b_len M K) (.cons (.var 1) .nil))))))
    (.seq (.setO 2 (.var 3) (.pu (.bor (.op (o_fdiv M K) (.op (o_ix M K) (.var 0) (.un (o_neg M K) (.int 1))) (.op (o_ix M K) (.var 1) (.un (o_neg M K) (.int 1)))))))
    (.seq (.fr (.ipu (.ienum (.var 1))) (.tup [4, 5]) (.setO 0 (.op (o_add M K) (.var 4) (.var 3)) (.pu (.bor (.op (o_sub M K) (.op (o_ix M K) (.var 0) (.op (o_add M K) (.var 4) (.var 3))) (.op (o_mul M K) (.op (o_ix M K) (.var 2) (.var 3)) (.var 5)))))))
    (.own 0 (.bor (.lsOf (.call (s_trimmed C Cf) (.cons (.var 0) .nil)))))))))
    (.ret (.pu (.bor (.call (s_trimmed C Cf) (.cons (.var 2) .nil)))))))
noncomputable def s_row_quotient (C : Cn M K) (Cf : Kf K CA) : Zf := fun S as => sZF (L_row_quotient C Cf 1000000000000) 6 2 S as
noncomputable def L_row_divisor (C : Cn M K) (Cf : Kf K CA) (fuel : Nat) : St M K :=
    (.seq (.par 0 1 (.call (s_primitive C Cf) (.cons (.var 0) .nil)) (.call (s_primitive C Cf) (.cons (.var 1) .nil)))
    (.seq (.wh fuel (.tst (.op (o_ne M K) (.var 1) (.tup .nil))) (.par 0 1 (.var 1) (.call (s_primitive C Cf) (.cons (.call (s_row_rest C Cf) (.cons (.var 0) (.cons (.var 1) .nil))) .nil))))
    (.ret (.var 0))))
noncomputable def s_row_divisor (C : Cn M K) (Cf : Kf K CA) : List Dt → Option Rd := fun as => sOfF (L_row_divisor C Cf (wts as)) 2 2 as
noncomputable def L_simple (C : Cn M K) (Cf : Kf K CA) : St M K :=
    (.seq (.asg (.name 1) (.call (s_row_divisor C Cf) (.cons (.var 0) (.cons (.call (s_slope_of C Cf) (.cons (.var 0) .nil)) .nil))))
    (.ret (.ifx (.tst (.op (o_gt M K) (.fn (b_len M K) (.cons (.var 1) .nil)) (.int 1))) (.call (s_primitive C Cf) (.cons (.call (pZ (s_row_quotient C Cf)) (.cons (.call (s_primitive C Cf) (.cons (.var 0) .nil)) (.cons (.var 1) .nil))) .nil)) (.call (s_primitive C Cf) (.cons (.var 0) .nil)))))
noncomputable def s_simple (C : Cn M K) (Cf : Kf K CA) : List Dt → Option Rd := fun as => sOfF (L_simple C Cf) 2 1 as
noncomputable def L_number_in (C : Cn M K) (Cf : Kf K CA) (fuel : Nat) : Sz M K CA :=
    (.seq (.asg (.name 1) (.pu (.call (s_simple C Cf) (.cons (.var 1) .nil))))
    (.seq (.asg (.name 2) (.pu (.call (s_chain_of C Cf) (.cons (.var 1) .nil))))
    (.seq (.wh fuel (.tst (.op (o_ne M K) (.callP (s_count_roots C Cf) (.cons (.pu (.var 2)) (.cons (.fld "Root" "low" Cf.c_Root Cf.n_Root_low (.pu (.var 0))) (.cons (.fld "Root" "high" Cf.c_Root Cf.n_Root_high (.pu (.var 0))) .nil)))) (.pu (.int 1)))) (.drop (.meth "Root" "halve" (s_Root_halve C Cf) (.pu (.var 0)) .nil)))
    (.ret (.callP (s_count_roots C Cf) (.cons (.pu (.var 2)) (.cons (.pu .non) (.cons (.fld "Root" "high" Cf.c_Root Cf.n_Root_high (.pu (.var 0))) .nil))))))))
noncomputable def s_number_in (C : Cn M K) (Cf : Kf K CA) : Zf := fun S as => sZF (L_number_in C Cf 1000000000000) 3 2 S as
noncomputable def L_row_sum (C : Cn M K) (Cf : Kf K CA) : St M K :=
    (.seq (.own 3 (.lst .nil))
    (.seq (.fr (.irng (.fn (b_max2 M K) (.cons (.fn (b_len M K) (.cons (.var 0) .nil)) (.cons (.fn (b_len M K) (.cons (.var 1) .nil)) .nil)))) (.name 4) (.seq (.asg (.name 5) (.ifx (.tst (.op (o_lt M K) (.var 4) (.fn (b_len M K) (.cons (.var 0) .nil)))) (.op (o_ix M K) (.var 0) (.var 4)) (.int 0)))
    (.app 3 (.op (o_add M K) (.var 5) (.op (o_mul M K) (.var 2) (.ifx (.tst (.op (o_lt M K) (.var 4) (.fn (b_len M K) (.cons (.var 1) .nil)))) (.op (o_ix M K) (.var 1) (.var 4)) (.int 0)))))))
    (.ret (.bor (.call (s_trimmed C Cf) (.cons (.var 3) .nil))))))
noncomputable def s_row_sum (C : Cn M K) (Cf : Kf K CA) : List Dt → Option Rd := fun as => sOfF (L_row_sum C Cf) 6 3 as
noncomputable def L_form_of (C : Cn M K) (Cf : Kf K CA) : Sz M K CA :=
    (.seq (.asg (.name 1) (.lst (.cons (.ix (.fld "Bent" "rows" Cf.c_Bent Cf.n_Bent_rows (.pu (.var 0))) (.pu (.int 0))) .nil)))
    (.seq (.fr (.ienum (.fld "Bent" "roots" Cf.c_Bent Cf.n_Bent_roots (.pu (.var 0)))) (.tup [2, 3]) (.seq (.asg (.name 4) (.callP (s_row_sum C Cf) (.cons (.ix (.fld "Bent" "rows" Cf.c_Bent Cf.n_Bent_rows (.pu (.var 0))) (.pu (.var 2))) (.cons (.ix (.fld "Bent" "rows" Cf.c_Bent Cf.n_Bent_rows (.pu (.var 0))) (.pu (.op (o_add M K) (.var 2) (.int 1)))) (.cons (.pu (.un (o_neg M K) (.int 1))) .nil)))))
    (.asg (.name 1) (.op (o_add M K) (.pu (.var 1)) (.lst (.cons (.call (s_number_in C Cf) (.cons (.pu (.var 3)) (.cons (.pu (.var 4)) .nil))) (.cons (.ix (.fld "Bent" "rows" Cf.c_Bent Cf.n_Bent_rows (.pu (.var 0))) (.pu (.op (o_add M K) (.var 2) (.int 1)))) .nil)))))))
    (.ret (.pu (.fn (b_tup M K) (.cons (.var 1) .nil))))))
noncomputable def s_form_of (C : Cn M K) (Cf : Kf K CA) : Zf := fun S as => sZF (L_form_of C Cf) 5 1 S as
noncomputable def L_Bent_init (C : Cn M K) (Cf : Kf K CA) : Sz M K CA :=
    (.seq (.setF "Bent" "rows" Cf.c_Bent Cf.n_Bent_rows (.pu (.var 0)) (.pu (.var 1)))
    (.setF "Bent" "roots" Cf.c_Bent Cf.n_Bent_roots (.pu (.var 0)) (.pu (.var 2))))
noncomputable def s_Bent_init (C : Cn M K) (Cf : Kf K CA) : Zf := fun S as => sZF (L_Bent_init C Cf) 3 3 S as
noncomputable def L_joined (C : Cn M K) (Cf : Kf K CA) : Sz M K CA :=
    (.seq (.par 2 3 (.o (.lst (.cons (.op (o_ix M K) (.var 0) (.int 0)) .nil))) (.o (.lst .nil)))
    (.seq (.fr (.ipu (.ienum (.var 1))) (.tup [4, 5]) (.ife (.tpu (.tbor (.tst (.op (o_ne M K) (.op (o_ix M K) (.var 0) (.op (o_add M K) (.var 4) (.int 1))) (.op (o_ix M K) (.var 2) (.un (o_neg M K) (.int 1))))))) (.seq (.app 2 (.pu (.op (o_ix M K) (.var 0) (.op (o_add M K) (.var 4) (.int 1)))))
    (.app 3 (.pu (.var 5)))) .nx))
    (.ret (.make "Bent" (s_Bent_init C Cf) (.cons (.give 2) (.cons (.give 3) .nil))))))
noncomputable def s_joined (C : Cn M K) (Cf : Kf K CA) : Zf := fun S as => sZF (L_joined C Cf) 6 2 S as
noncomputable def L_is_less (C : Cn M K) (Cf : Kf K CA) : St M K :=
    (.ret (.op (o_lt M K) (.op (o_mul M K) (.op (o_ix M K) (.var 0) (.int 0)) (.op (o_ix M K) (.var 1) (.int 1))) (.op (o_mul M K) (.op (o_ix M K) (.var 1) (.int 0)) (.op (o_ix M K) (.var 0) (.int 1)))))
noncomputable def s_is_less (C : Cn M K) (Cf : Kf K CA) : List Dt → Option Rd := fun as => sOfF (L_is_less C Cf) 2 2 as
noncomputable def L_place_between (C : Cn M K) (Cf : Kf K CA) (fuel : Nat) : Sz M K CA :=
    (.seq (.ife (.tpu (.tand (.tst (.op (o_is M K) (.var 0) .non)) (.tst (.op (o_is M K) (.var 1) .non)))) (.ret (.pu (.tup (.cons (.int 0) (.cons (.int 1) .nil))))) .nx)
    (.seq (.ife (.tpu (.tst (.op (o_is M K) (.var 0) .non))) (.ret (.tup (.cons (.op (o_sub M K) (.ix (.fld "Root" "low" Cf.c_Root Cf.n_Root_low (.pu (.var 1))) (.pu (.int 0))) (.ix (.fld "Root" "low" Cf.c_Root Cf.n_Root_low (.pu (.var 1))) (.pu (.int 1)))) (.cons (.ix (.fld "Root" "low" Cf.c_Root Cf.n_Root_low (.pu (.var 1))) (.pu (.int 1))) .nil)))) .nx)
    (.seq (.ife (.tpu (.tst (.op (o_is M K) (.var 1) .non))) (.ret (.tup (.cons (.op (o_add M K) (.ix (.fld "Root" "high" Cf.c_Root Cf.n_Root_high (.pu (.var 0))) (.pu (.int 0))) (.ix (.fld "Root" "high" Cf.c_Root Cf.n_Root_high (.pu (.var 0))) (.pu (.int 1)))) (.cons (.ix (.fld "Root" "high" Cf.c_Root Cf.n_Root_high (.pu (.var 0))) (.pu (.int 1))) .nil)))) .nx)
    (.seq (.wh fuel (.tnot (.tb (.callP (s_is_less C Cf) (.cons (.fld "Root" "high" Cf.c_Root Cf.n_Root_high (.pu (.var 0))) (.cons (.fld "Root" "low" Cf.c_Root Cf.n_Root_low (.pu (.var 1))) .nil))))) (.seq (.drop (.meth "Root" "halve" (s_Root_halve C Cf) (.pu (.var 0)) .nil))
    (.drop (.meth "Root" "halve" (s_Root_halve C Cf) (.pu (.var 1)) .nil))))
    (.ret (.callP (s_between C Cf) (.cons (.fld "Root" "high" Cf.c_Root Cf.n_Root_high (.pu (.var 0))) (.cons (.fld "Root" "low" Cf.c_Root Cf.n_Root_low (.pu (.var 1))) .nil))))))))
noncomputable def s_place_between (C : Cn M K) (Cf : Kf K CA) : Zf := fun S as => sZF (L_place_between C Cf 1000000000000) 2 2 S as
noncomputable def L_places_between (C : Cn M K) (Cf : Kf K CA) : Sz M K CA :=
    (.seq (.asg (.name 1) (.pu (.op (o_add M K) (.op (o_add M K) (.lst (.cons .non .nil)) (.var 0)) (.lst (.cons .non .nil)))))
    (.ret (.lc (.ipu (.irng (.op (o_sub M K) (.fn (b_len M K) (.cons (.var 1) .nil)) (.int 1)))) (.name 2) (.tpu .yes) (.call (s_place_between C Cf) (.cons (.pu (.op (o_ix M K) (.var 1) (.var 2))) (.cons (.pu (.op (o_ix M K) (.var 1) (.op (o_add M K) (.var 2) (.int 1)))) .nil))))))
noncomputable def s_places_between (C : Cn M K) (Cf : Kf K CA) : Zf := fun S as => sZF (L_places_between C Cf) 3 1 S as
noncomputable def L_row_product (C : Cn M K) (Cf : Kf K CA) : St M K :=
    (.seq (.ife (.tor (.tst (.op (o_eq M K) (.var 0) (.tup .nil))) (.tst (.op (o_eq M K) (.var 1) (.tup .nil)))) (.ret (.tup .nil)) .nx)
    (.seq (.own 2 (.op (o_mul M K) (.lst (.cons (.int 0) .nil)) (.op (o_sub M K) (.op (o_add M K) (.fn (b_len M K) (.cons (.var 0) .nil)) (.fn (b_len M K) (.cons (.var 1) .nil))) (.int 1))))
    (.seq (.fr (.ienum (.var 0)) (.tup [3, 4]) (.fr (.ienum (.var 1)) (.tup [5, 6]) (.setO 2 (.op (o_add M K) (.var 3) (.var 5)) (.bor (.op (o_add M K) (.op (o_ix M K) (.var 2) (.op (o_add M K) (.var 3) (.var 5))) (.op (o_mul M K) (.var 4) (.var 6)))))))
    (.ret (.bor (.call (s_trimmed C Cf) (.cons (.var 2) .nil)))))))
noncomputable def s_row_product (C : Cn M K) (Cf : Kf K CA) : List Dt → Option Rd := fun as => sOfF (L_row_product C Cf) 7 2 as
noncomputable def L_put_in (C : Cn M K) (Cf : Kf K CA) : St M K :=
    (.seq (.asg (.name 2) (.tup .nil))
    (.seq (.fr (.iseq (.sls (.var 0) .nob .nob (.part (.un (o_neg M K) (.int 1))))) (.name 3) (.asg (.name 2) (.call (s_row_sum C Cf) (.cons (.call (s_row_product C Cf) (.cons (.var 2) (.cons (.var 1) .nil))) (.cons (.tup (.cons (.var 3) .nil)) (.cons (.int 1) .nil))))))
    (.ret (.var 2))))
noncomputable def s_put_in (C : Cn M K) (Cf : Kf K CA) : List Dt → Option Rd := fun as => sOfF (L_put_in C Cf) 4 2 as
noncomputable def L_Root_against (C : Cn M K) (Cf : Kf K CA) : Sz M K CA :=
    (.seq (.ife (.tnot (.tb (.callP (s_is_less C Cf) (.cons (.fld "Root" "low" Cf.c_Root Cf.n_Root_low (.pu (.var 0))) (.cons (.pu (.var 1)) .nil))))) (.ret (.pu (.int 1))) .nx)
    (.seq (.ife (.tb (.callP (s_is_less C Cf) (.cons (.fld "Root" "high" Cf.c_Root Cf.n_Root_high (.pu (.var 0))) (.cons (.pu (.var 1)) .nil)))) (.ret (.pu (.un (o_neg M K) (.int 1)))) .nx)
    (.seq (.ife (.tst (.op (o_eq M K) (.callP (s_sign_at C Cf) (.cons (.fld "Root" "row" Cf.c_Root Cf.n_Root_row (.pu (.var 0))) (.cons (.pu (.var 1)) .nil))) (.pu (.int 0)))) (.ret (.pu (.int 0))) .nx)
    (.ret (.ifx (.tst (.op (o_eq M K) (.callP (s_count_roots C Cf) (.cons (.fld "Root" "chain" Cf.c_Root Cf.n_Root_chain (.pu (.var 0))) (.cons (.fld "Root" "low" Cf.c_Root Cf.n_Root_low (.pu (.var 0))) (.cons (.pu (.var 1)) .nil)))) (.pu (.int 1)))) (.pu (.un (o_neg M K) (.int 1))) (.pu (.int 1)))))))
noncomputable def s_Root_against (C : Cn M K) (Cf : Kf K CA) : Zf := fun S as => sZF (L_Root_against C Cf) 2 2 S as
noncomputable def L_Bent_row_at (C : Cn M K) (Cf : Kf K CA) (fuel : Nat) : Sz M K CA :=
    (.seq (.asg (.name 2) (.pu (.int 0)))
    (.seq (.wh fuel (.tand (.tst (.op (o_lt M K) (.pu (.var 2)) (.fn (b_len M K) (.cons (.fld "Bent" "roots" Cf.c_Bent Cf.n_Bent_roots (.pu (.var 0))) .nil)))) (.tst (.op (o_lt M K) (.meth "Root" "against" (s_Root_against C Cf) (.ix (.fld "Bent" "roots" Cf.c_Bent Cf.n_Bent_roots (.pu (.var 0))) (.pu (.var 2))) (.cons (.pu (.var 1)) .nil)) (.pu (.int 0))))) (.asg (.name 2) (.pu (.op (o_add M K) (.var 2) (.int 1)))))
    (.ret (.ix (.fld "Bent" "rows" Cf.c_Bent Cf.n_Bent_rows (.pu (.var 0))) (.pu (.var 2))))))
noncomputable def s_Bent_row_at (C : Cn M K) (Cf : Kf K CA) : Zf := fun S as => sZF (L_Bent_row_at C Cf 1000000000000) 3 2 S as
noncomputable def L_value_at (C : Cn M K) (Cf : Kf K CA) : St M K :=
    (.seq (.asg (.tup [2, 3, 4]) (.tup (.cons (.int 0) (.cons (.int 1) (.cons (.int 1) .nil)))))
    (.seq (.fr (.iseq (.sls (.var 0) .nob .nob (.part (.un (o_neg M K) (.int 1))))) (.name 5) (.par 2 4 (.op (o_add M K) (.op (o_mul M K) (.var 2) (.op (o_ix M K) (.var 1) (.int 0))) (.op (o_mul M K) (.var 5) (.var 4))) (.op (o_mul M K) (.var 4) (.op (o_ix M K) (.var 1) (.int 1)))))
    (.seq (.fr (.irng (.op (o_sub M K) (.fn (b_len M K) (.cons (.var 0) .nil)) (.int 1))) (.name 6) (.asg (.name 3) (.op (o_mul M K) (.var 3) (.op (o_ix M K) (.var 1) (.int 1)))))
    (.ret (.tup (.cons (.var 2) (.cons (.var 3) .nil)))))))
noncomputable def s_value_at (C : Cn M K) (Cf : Kf K CA) : List Dt → Option Rd := fun as => sOfF (L_value_at C Cf) 7 2 as
noncomputable def L_compared (C : Cn M K) (Cf : Kf K CA) (fuel : Nat) : Sz M K CA :=
    (.seq (.asg (.name 2) (.callP (s_row_divisor C Cf) (.cons (.fld "Root" "row" Cf.c_Root Cf.n_Root_row (.pu (.var 0))) (.cons (.fld "Root" "row" Cf.c_Root Cf.n_Root_row (.pu (.var 1))) .nil))))
    (.seq (.ife (.tpu (.tst (.op (o_gt M K) (.fn (b_len M K) (.cons (.var 2) .nil)) (.int 1)))) (.seq (.asg (.name 3) (.pu (.call (s_chain_of C Cf) (.cons (.call (s_simple C Cf) (.cons (.var 2) .nil)) .nil))))
    (.seq (.asg (.name 4) (.ifx (.tb (.callP (s_is_less C Cf) (.cons (.fld "Root" "low" Cf.c_Root Cf.n_Root_low (.pu (.var 0))) (.cons (.fld "Root" "low" Cf.c_Root Cf.n_Root_low (.pu (.var 1))) .nil)))) (.fld "Root" "low" Cf.c_Root Cf.n_Root_low (.pu (.var 1))) (.fld "Root" "low" Cf.c_Root Cf.n_Root_low (.pu (.var 0)))))
    (.seq (.asg (.name 5) (.ifx (.tb (.callP (s_is_less C Cf) (.cons (.fld "Root" "high" Cf.c_Root Cf.n_Root_high (.pu (.var 0))) (.cons (.fld "Root" "high" Cf.c_Root Cf.n_Root_high (.pu (.var 1))) .nil)))) (.fld "Root" "high" Cf.c_Root Cf.n_Root_high (.pu (.var 0))) (.fld "Root" "high" Cf.c_Root Cf.n_Root_high (.pu (.var 1)))))
    (.ife (.tpu (.tand (.tb (.call (s_is_less C Cf) (.cons (.var 4) (.cons (.var 5) .nil)))) (.tst (.op (o_eq M K) (.call (s_count_roots C Cf) (.cons (.var 3) (.cons (.var 4) (.cons (.var 5) .nil)))) (.int 1))))) (.ret (.pu (.int 0))) .nx)))) .nx)
    (.wh fuel (.tpu (.tb (.bl true))) (.seq (.ife (.tnot (.tb (.callP (s_is_less C Cf) (.cons (.fld "Root" "low" Cf.c_Root Cf.n_Root_low (.pu (.var 1))) (.cons (.fld "Root" "high" Cf.c_Root Cf.n_Root_high (.pu (.var 0))) .nil))))) (.ret (.pu (.un (o_neg M K) (.int 1)))) .nx)
    (.seq (.ife (.tnot (.tb (.callP (s_is_less C Cf) (.cons (.fld "Root" "low" Cf.c_Root Cf.n_Root_low (.pu (.var 0))) (.cons (.fld "Root" "high" Cf.c_Root Cf.n_Root_high (.pu (.var 1))) .nil))))) (.ret (.pu (.int 1))) .nx)
    (.seq (.drop (.meth "Root" "halve" (s_Root_halve C Cf) (.pu (.var 0)) .nil))
    (.drop (.meth "Root" "halve" (s_Root_halve C Cf) (.pu (.var 1)) .nil))))))))
noncomputable def s_compared (C : Cn M K) (Cf : Kf K CA) : Zf := fun S as => sZF (L_compared C Cf 1000000000000) 6 2 S as
noncomputable def L_sorted_roots (C : Cn M K) (Cf : Kf K CA) (fuel : Nat) : Sz M K CA :=
    (.seq (.own 1 (.lst .nil))
    (.seq (.fr (.ipu (.iseq (.var 0))) (.name 2) (.seq (.asg (.tup [3, 4]) (.pu (.tup (.cons (.int 0) (.cons (.bl true) .nil)))))
    (.seq (.wh fuel (.tpu (.tbor (.tand (.tst (.op (o_lt M K) (.var 3) (.fn (b_len M K) (.cons (.var 1) .nil)))) (.tb (.var 4))))) (.seq (.asg (.name 5) (.call (s_compared C Cf) (.cons (.pu (.var 2)) (.cons (.pu (.bor (.op (o_ix M K) (.var 1) (.var 3)))) .nil))))
    (.ife (.tpu (.tst (.op (o_eq M K) (.var 5) (.int 0)))) (.asg (.name 4) (.pu (.bl false))) (.ife (.tpu (.tst (.op (o_lt M K) (.var 5) (.int 0)))) .brk (.asg (.name 3) (.pu (.op (o_add M K) (.var 3) (.int 1))))))))
    (.ife (.tpu (.tb (.var 4))) (.ins 1 (.pu (.var 3)) (.pu (.var 2))) .nx))))
    (.ret (.give 1))))
noncomputable def s_sorted_roots (C : Cn M K) (Cf : Kf K CA) : Zf := fun S as => sZF (L_sorted_roots C Cf 1000000000000) 6 1 S as
noncomputable def L_Root_init (C : Cn M K) (Cf : Kf K CA) : Sz M K CA :=
    (.seq (.setF "Root" "row" Cf.c_Root Cf.n_Root_row (.pu (.var 0)) (.pu (.var 1)))
    (.seq (.setF "Root" "chain" Cf.c_Root Cf.n_Root_chain (.pu (.var 0)) (.pu (.var 2)))
    (.seq (.setF "Root" "low" Cf.c_Root Cf.n_Root_low (.pu (.var 0)) (.pu (.var 3)))
    (.setF "Root" "high" Cf.c_Root Cf.n_Root_high (.pu (.var 0)) (.pu (.var 4))))))
noncomputable def s_Root_init (C : Cn M K) (Cf : Kf K CA) : Zf := fun S as => sZF (L_Root_init C Cf) 5 5 S as
noncomputable def L_bound_of (C : Cn M K) (Cf : Kf K CA) : St M K :=
    (.ret (.op (o_add M K) (.int 2) (.op (o_fdiv M K) (.fn (b_max M K) (.cons (.lc (.iseq (.var 0)) (.name 1) .yes (.fn (b_abs M K) (.cons (.var 1) .nil))) .nil)) (.fn (b_abs M K) (.cons (.op (o_ix M K) (.var 0) (.un (o_neg M K) (.int 1))) .nil)))))
noncomputable def s_bound_of (C : Cn M K) (Cf : Kf K CA) : List Dt → Option Rd := fun as => sOfF (L_bound_of C Cf) 2 1 as
noncomputable def L_roots_of (C : Cn M K) (Cf : Kf K CA) (fuel : Nat) : Sz M K CA :=
    (.seq (.asg (.name 0) (.pu (.call (s_simple C Cf) (.cons (.var 0) .nil))))
    (.seq (.ife (.tpu (.tst (.op (o_lt M K) (.fn (b_len M K) (.cons (.var 0) .nil)) (.int 2)))) (.ret (.pu (.lst .nil))) .nx)
    (.seq (.par 1 2 (.v (.pu (.call (s_chain_of C Cf) (.cons (.var 0) .nil)))) (.v (.pu (.call (s_bound_of C Cf) (.cons (.var 0) .nil)))))
    (.seq (.par 3 4 (.o (.lst (.cons (.tup (.cons (.tup (.cons (.un (o_neg M K) (.var 2)) (.cons (.int 1) .nil))) (.cons (.tup (.cons (.var 2) (.cons (.int 1) .nil))) .nil))) .nil))) (.o (.lst .nil)))
    (.seq (.wh fuel (.tpu (.tbor (.tst (.op (o_ne M K) (.var 3) (.lst .nil))))) (.seq (.asg (.tup [5, 6]) (.popX 3))
    (.seq (.asg (.name 7) (.pu (.call (s_count_roots C Cf) (.cons (.var 1) (.cons (.var 5) (.cons (.var 6) .nil))))))
    (.ife (.tpu (.tst (.op (o_eq M K) (.var 7) (.int 1)))) (.app 4 (.make "Root" (s_Root_init C Cf) (.cons (.pu (.var 0)) (.cons (.pu (.var 1)) (.cons (.pu (.var 5)) (.cons (.pu (.var 6)) .nil)))))) (.ife (.tpu (.tst (.op (o_gt M K) (.var 7) (.int 1)))) (.seq (.asg (.name 8) (.pu (.call (s_between C Cf) (.cons (.var 5) (.cons (.var 6) .nil)))))
    (.own 3 (.bor (.op (o_add M K) (.var 3) (.lst (.cons (.tup (.cons (.var 8) (.cons (.var 6) .nil))) (.cons (.tup (.cons (.var 5) (.cons (.var 8) .nil))) .nil))))))) .nx)))))
    (.ret (.give 4)))))))
noncomputable def s_roots_of (C : Cn M K) (Cf : Kf K CA) : Zf := fun S as => sZF (L_roots_of C Cf 1000000000000) 9 1 S as
noncomputable def L_led_into (C : Cn M K) (Cf : Kf K CA) : Sz M K CA :=
    (.seq (.asg (.name 2) (.pu (.lst .nil)))
    (.seq (.fr (.irng (.fn (b_len M K) (.cons (.fld "Bent" "roots" Cf.c_Bent Cf.n_Bent_roots (.pu (.var 0))) .nil))) (.name 3) (.seq (.asg (.name 4) (.callP (s_row_sum C Cf) (.cons (.ix (.fld "Bent" "rows" Cf.c_Bent Cf.n_Bent_rows (.pu (.var 0))) (.pu (.var 3))) (.cons (.ix (.fld "Bent" "rows" Cf.c_Bent Cf.n_Bent_rows (.pu (.var 0))) (.pu (.op (o_add M K) (.var 3) (.int 1)))) (.cons (.pu (.un (o_neg M K) (.int 1))) .nil)))))
    (.fr (.iseq (.fld "Bent" "rows" Cf.c_Bent Cf.n_Bent_rows (.pu (.var 1)))) (.name 5) (.seq (.asg (.name 6) (.pu (.call (s_put_in C Cf) (.cons (.var 4) (.cons (.var 5) .nil)))))
    (.asg (.name 2) (.op (o_add M K) (.pu (.var 2)) (.ifx (.tpu (.tst (.op (o_ne M K) (.var 6) (.tup .nil)))) (.call (s_roots_of C Cf) (.cons (.pu (.var 6)) .nil)) (.pu (.lst .nil)))))))))
    (.seq (.par 7 8 (.v (.call (s_sorted_roots C Cf) (.cons (.op (o_add M K) (.fld "Bent" "roots" Cf.c_Bent Cf.n_Bent_roots (.pu (.var 1))) (.pu (.var 2))) .nil))) (.o (.lst .nil)))
    (.seq (.fr (.iseq (.call (s_places_between C Cf) (.cons (.pu (.var 7)) .nil))) (.name 9) (.seq (.asg (.name 5) (.meth "Bent" "row_at" (s_Bent_row_at C Cf) (.pu (.var 1)) (.cons (.pu (.var 9)) .nil)))
    (.seq (.asg (.tup [10, 11]) (.pu (.call (s_value_at C Cf) (.cons (.var 5) (.cons (.var 9) .nil)))))
    (.app 8 (.callP (s_put_in C Cf) (.cons (.meth "Bent" "row_at" (s_Bent_row_at C Cf) (.pu (.var 0)) (.cons (.pu (.call (s_lowest C Cf) (.cons (.var 10) (.cons (.var 11) .nil)))) .nil)) (.cons (.pu (.var 5)) .nil)))))))
    (.ret (.call (s_joined C Cf) (.cons (.give 8) (.cons (.pu (.var 7)) .nil))))))))
noncomputable def s_led_into (C : Cn M K) (Cf : Kf K CA) : Zf := fun S as => sZF (L_led_into C Cf) 12 2 S as
noncomputable def L_crossings (C : Cn M K) (Cf : Kf K CA) : Sz M K CA :=
    (.seq (.par 3 4 (.v (.pu (.lst .nil))) (.v .dnew))
    (.seq (.fr (.iseq (.call (s_places_between C Cf) (.cons (.pu (.var 2)) .nil))) (.name 5) (.seq (.asg (.name 6) (.callP (s_row_sum C Cf) (.cons (.meth "Bent" "row_at" (s_Bent_row_at C Cf) (.pu (.var 0)) (.cons (.pu (.var 5)) .nil)) (.cons (.meth "Bent" "row_at" (s_Bent_row_at C Cf) (.pu (.var 1)) (.cons (.pu (.var 5)) .nil)) (.cons (.pu (.un (o_neg M K) (.int 1))) .nil)))))
    (.ife (.tand (.tpu (.tst (.op (o_ne M K) (.var 6) (.tup .nil)))) (.tb (.din true (.pu (.var 6)) (.pu (.var 4))))) (.seq (.dput (.pu (.var 4)) (.pu (.var 6)))
    (.asg (.name 3) (.op (o_add M K) (.pu (.var 3)) (.call (s_roots_of C Cf) (.cons (.pu (.var 6)) .nil))))) .nx)))
    (.ret (.pu (.var 3)))))
noncomputable def s_crossings (C : Cn M K) (Cf : Kf K CA) : Zf := fun S as => sZF (L_crossings C Cf) 7 3 S as
noncomputable def L_put_together (C : Cn M K) (Cf : Kf K CA) : Sz M K CA :=
    (.seq (.asg (.name 3) (.call (s_sorted_roots C Cf) (.cons (.op (o_add M K) (.fld "Bent" "roots" Cf.c_Bent Cf.n_Bent_roots (.pu (.var 0))) (.fld "Bent" "roots" Cf.c_Bent Cf.n_Bent_roots (.pu (.var 1)))) .nil)))
    (.seq (.ife (.tpu (.tst (.op (o_in M K) (.var 2) (.tup (.cons (.str "max") (.cons (.str "min") .nil)))))) (.asg (.name 3) (.call (s_sorted_roots C Cf) (.cons (.op (o_add M K) (.pu (.var 3)) (.call (s_crossings C Cf) (.cons (.pu (.var 0)) (.cons (.pu (.var 1)) (.cons (.pu (.var 3)) .nil))))) .nil))) .nx)
    (.seq (.own 4 (.lst .nil))
    (.seq (.fr (.iseq (.call (s_places_between C Cf) (.cons (.pu (.var 3)) .nil))) (.name 5) (.seq (.par 6 7 (.v (.meth "Bent" "row_at" (s_Bent_row_at C Cf) (.pu (.var 0)) (.cons (.pu (.var 5)) .nil))) (.v (.meth "Bent" "row_at" (s_Bent_row_at C Cf) (.pu (.var 1)) (.cons (.pu (.var 5)) .nil))))
    (.ife (.tpu (.tst (.op (o_eq M K) (.var 2) (.str "sum")))) (.app 4 (.pu (.call (s_row_sum C Cf) (.cons (.var 6) (.cons (.var 7) (.cons (.int 1) .nil)))))) (.ife (.tpu (.tst (.op (o_eq M K) (.var 2) (.str "times")))) (.app 4 (.pu (.call (s_row_product C Cf) (.cons (.var 6) (.cons (.var 7) .nil))))) (.seq (.asg (.name 8) (.pu (.op (o_mul M K) (.call (s_sign_at C Cf) (.cons (.call (s_row_sum C Cf) (.cons (.var 6) (.cons (.var 7) (.cons (.un (o_neg M K) (.int 1)) .nil)))) (.cons (.var 5) .nil))) (.ifx (.tst (.op (o_eq M K) (.var 2) (.str "max"))) (.int 1) (.un (o_neg M K) (.int 1))))))
    (.app 4 (.pu (.ifx (.tst (.op (o_ge M K) (.var 8) (.int 0))) (.var 6) (.var 7)))))))))
    (.ret (.call (s_joined C Cf) (.cons (.give 4) (.cons (.pu (.var 3)) .nil))))))))
noncomputable def s_put_together (C : Cn M K) (Cf : Kf K CA) : Zf := fun S as => sZF (L_put_together C Cf) 9 3 S as
noncomputable def L_bent_of (C : Cn M K) (Cf : Kf K CA) (self : Zf) : Sz M K CA :=
    (.seq (.asg (.name 1) (.pu (.op (o_ix M K) (.var 0) (.int 0))))
    (.seq (.ife (.tpu (.tst (.op (o_eq M K) (.var 1) (.str "num")))) (.ret (.make "Bent" (s_Bent_init C Cf) (.cons (.pu (.lst (.cons (.ifx (.tst (.op (o_ne M K) (.op (o_ix M K) (.var 0) (.int 1)) (.int 0))) (.tup (.cons (.op (o_ix M K) (.var 0) (.int 1)) .nil)) (.tup .nil)) .nil))) (.cons (.pu (.lst .nil)) .nil)))) .nx)
    (.seq (.ife (.tpu (.tst (.op (o_eq M K) (.var 1) (.str "x")))) (.ret (.make "Bent" (s_Bent_init C Cf) (.cons (.pu (.lst (.cons (.tup (.cons (.int 0) (.cons (.int 1) .nil))) .nil))) (.cons (.pu (.lst .nil)) .nil)))) .nx)
    (.seq (.asg (.name 2) (.call self (.cons (.pu (.op (o_ix M K) (.var 0) (.int 1))) .nil)))
    (.seq (.ife (.tpu (.tst (.op (o_eq M K) (.var 1) (.str "abs")))) (.ret (.call (s_put_together C Cf) (.cons (.pu (.var 2)) (.cons (.make "Bent" (s_Bent_init C Cf) (.cons (.lc (.iseq (.fld "Bent" "rows" Cf.c_Bent Cf.n_Bent_rows (.pu (.var 2)))) (.name 3) (.tpu .yes) (.pu (.call (s_row_sum C Cf) (.cons (.tup .nil) (.cons (.var 3) (.cons (.un (o_neg M K) (.int 1)) .nil)))))) (.cons (.fld "Bent" "roots" Cf.c_Bent Cf.n_Bent_roots (.pu (.var 2))) .nil))) (.cons (.pu (.str "max")) .nil))))) .nx)
    (.seq (.asg (.name 4) (.call self (.cons (.pu (.op (o_ix M K) (.var 0) (.int 2))) .nil)))
    (.ret (.ifx (.tpu (.tst (.op (o_eq M K) (.var 1) (.str "into")))) (.call (s_led_into C Cf) (.cons (.pu (.var 2)) (.cons (.pu (.var 4)) .nil))) (.call (s_put_together C Cf) (.cons (.pu (.var 2)) (.cons (.pu (.var 4)) (.cons (.pu (.var 1)) .nil))))))))))))
noncomputable def s_bent_of (C : Cn M K) (Cf : Kf K CA) : Nat → Zf
  | 0 => fun _ _ => none
  | n + 1 => fun S as => sZF (L_bent_of C Cf (s_bent_of C Cf n)) 5 1 S as
noncomputable def L_parts_of (C : Cn M K) (Cf : Kf K CA) : St M K :=
    (.ret (.ifx (.tst (.op (o_in M K) (.op (o_ix M K) (.var 0) (.int 0)) (.tup (.cons (.str "num") (.cons (.str "x") .nil))))) (.lst .nil) (.lsOf (.sl (.var 0) (.part (.int 1)) .nob))))
noncomputable def s_parts_of (C : Cn M K) (Cf : Kf K CA) : List Dt → Option Rd := fun as => sOfF (L_parts_of C Cf) 1 1 as
noncomputable def L_degree_of (C : Cn M K) (Cf : Kf K CA) (self : List Dt → Option Rd) : St M K :=
    (.seq (.ife (.tst (.op (o_in M K) (.op (o_ix M K) (.var 0) (.int 0)) (.tup (.cons (.str "num") (.cons (.str "x") .nil))))) (.ret (.ifx (.tst (.op (o_eq M K) (.op (o_ix M K) (.var 0) (.int 0)) (.str "num"))) (.int 0) (.int 1))) .nx)
    (.seq (.asg (.name 1) (.lc (.iseq (.call (s_parts_of C Cf) (.cons (.var 0) .nil))) (.name 2) .yes (.call self (.cons (.var 2) .nil))))
    (.seq (.ife (.tst (.op (o_eq M K) (.op (o_ix M K) (.var 0) (.int 0)) (.str "times"))) (.ret (.op (o_add M K) (.op (o_ix M K) (.var 1) (.int 0)) (.op (o_ix M K) (.var 1) (.int 1)))) .nx)
    (.seq (.ife (.tst (.op (o_eq M K) (.op (o_ix M K) (.var 0) (.int 0)) (.str "into"))) (.ret (.op (o_mul M K) (.op (o_ix M K) (.var 1) (.int 0)) (.op (o_ix M K) (.var 1) (.int 1)))) .nx)
    (.ret (.fn (b_max M K) (.cons (.var 1) .nil)))))))
noncomputable def s_degree_of (C : Cn M K) (Cf : Kf K CA) : Nat → List Dt → Option Rd
  | 0 => fun _ => none
  | n + 1 => fun as => sOfF (L_degree_of C Cf (s_degree_of C Cf n)) 3 1 as
noncomputable def L_highest (C : Cn M K) (Cf : Kf K CA) (self : List Dt → Option Rd) : St M K :=
    (.ret (.fn (b_max M K) (.cons (.op (o_add M K) (.lst (.cons (.call (s_degree_of C Cf 20) (.cons (.var 0) .nil)) .nil)) (.lc (.iseq (.call (s_parts_of C Cf) (.cons (.var 0) .nil))) (.name 1) .yes (.call self (.cons (.var 1) .nil)))) .nil)))
noncomputable def s_highest (C : Cn M K) (Cf : Kf K CA) : Nat → List Dt → Option Rd
  | 0 => fun _ => none
  | n + 1 => fun as => sOfF (L_highest C Cf (s_highest C Cf n)) 2 1 as
noncomputable def L_size_of (C : Cn M K) (Cf : Kf K CA) (self : List Dt → Option Rd) : St M K :=
    (.ret (.op (o_add M K) (.int 1) (.fn (b_sum M K) (.cons (.lc (.iseq (.call (s_parts_of C Cf) (.cons (.var 0) .nil))) (.name 1) .yes (.call self (.cons (.var 1) .nil))) .nil))))
noncomputable def s_size_of (C : Cn M K) (Cf : Kf K CA) : Nat → List Dt → Option Rd
  | 0 => fun _ => none
  | n + 1 => fun as => sOfF (L_size_of C Cf (s_size_of C Cf n)) 2 1 as
noncomputable def L_is_whole (C : Cn M K) (Cf : Kf K CA) : St M K :=
    (.ret (.andV (.isi (.var 0) "int") (.andV (.notV (.isi (.var 0) "bool")) (.chain (o_le M K) (o_le M K) (.var 1) (.var 0) (.var 2)))))
noncomputable def s_is_whole (C : Cn M K) (Cf : Kf K CA) : List Dt → Option Rd := fun as => sOfF (L_is_whole C Cf) 3 3 as
noncomputable def L_is_shaped (C : Cn M K) (Cf : Kf K CA) (self : List Dt → Option Rd) : St M K :=
    (.seq (.ife (.tor (.tst (.op (o_eq M K) (.var 1) (.int 0))) (.tor (.tnot (.tb (.isi (.var 0) "tuple"))) (.tor (.tst (.op (o_eq M K) (.var 0) (.tup .nil))) (.tnot (.tb (.isi (.op (o_ix M K) (.var 0) (.int 0)) "str")))))) (.ret (.bl false)) .nx)
    (.seq (.ife (.tst (.op (o_eq M K) (.op (o_ix M K) (.var 0) (.int 0)) (.str "num"))) (.ret (.andV (.op (o_eq M K) (.fn (b_len M K) (.cons (.var 0) .nil)) (.int 2)) (.call (s_is_whole C Cf) (.cons (.op (o_ix M K) (.var 0) (.int 1)) (.cons (.un (o_neg M K) (.int 9)) (.cons (.int 9) .nil)))))) .nx)
    (.seq (.ife (.tst (.op (o_eq M K) (.op (o_ix M K) (.var 0) (.int 0)) (.str "x"))) (.ret (.op (o_eq M K) (.fn (b_len M K) (.cons (.var 0) .nil)) (.int 1))) .nx)
    (.seq (.ife (.tst (.op (o_eq M K) (.op (o_ix M K) (.var 0) (.int 0)) (.str "abs"))) (.ret (.andV (.op (o_eq M K) (.fn (b_len M K) (.cons (.var 0) .nil)) (.int 2)) (.call self (.cons (.op (o_ix M K) (.var 0) (.int 1)) (.cons (.op (o_sub M K) (.var 1) (.int 1)) .nil))))) .nx)
    (.ret (.andV (.op (o_in M K) (.op (o_ix M K) (.var 0) (.int 0)) (.glo C.v_PAIRS (d_PAIRS) C.h_PAIRS)) (.andV (.op (o_eq M K) (.fn (b_len M K) (.cons (.var 0) .nil)) (.int 3)) (.fn (b_all M K) (.cons (.lc (.iseq (.sl (.var 0) (.part (.int 1)) .nob)) (.name 2) .yes (.call self (.cons (.var 2) (.cons (.op (o_sub M K) (.var 1) (.int 1)) .nil)))) .nil)))))))))
noncomputable def s_is_shaped (C : Cn M K) (Cf : Kf K CA) : Nat → List Dt → Option Rd
  | 0 => fun _ => none
  | n + 1 => fun as => sOfF (L_is_shaped C Cf (s_is_shaped C Cf n)) 3 2 as
noncomputable def L_is_curve (C : Cn M K) (Cf : Kf K CA) : St M K :=
    (.ret (.andV (.call (s_is_shaped C Cf 20) (.cons (.var 0) (.cons (.int 15) .nil))) (.andV (.op (o_le M K) (.call (s_size_of C Cf 20) (.cons (.var 0) .nil)) (.int 15)) (.op (o_le M K) (.call (s_highest C Cf 20) (.cons (.var 0) .nil)) (.int 6)))))
noncomputable def s_is_curve (C : Cn M K) (Cf : Kf K CA) : List Dt → Option Rd := fun as => sOfF (L_is_curve C Cf) 1 1 as
noncomputable def L_need_curve (C : Cn M K) (Cf : Kf K CA) : St M K :=
    (.ife (.tnot (.tb (.call (s_is_curve C Cf) (.cons (.var 0) .nil)))) (.rais (.ref C.a_InvalidCurve)) .nx)
noncomputable def s_need_curve (C : Cn M K) (Cf : Kf K CA) : List Dt → Option Rd := fun as => sOfF (L_need_curve C Cf) 1 1 as
noncomputable def L_form (C : Cn M K) (Cf : Kf K CA) : Sz M K CA :=
    (.seq (.drop (.pu (.call (s_need_curve C Cf) (.cons (.var 0) .nil))))
    (.ret (.call (s_form_of C Cf) (.cons (.call (s_bent_of C Cf 20) (.cons (.pu (.var 0)) .nil)) .nil))))
noncomputable def s_form (C : Cn M K) (Cf : Kf K CA) : Zf := fun S as => sZF (L_form C Cf) 1 1 S as
noncomputable def L_without_repeats (C : Cn M K) (Cf : Kf K CA) : St M K :=
    (.seq (.own 1 (.lst .nil))
    (.seq (.fr (.iseq (.var 0)) (.name 2) (.ife (.tbor (.tor (.tst (.op (o_eq M K) (.var 1) (.lst .nil))) (.tst (.op (o_ne M K) (.op (o_ix M K) (.var 1) (.un (o_neg M K) (.int 1))) (.var 2))))) (.app 1 (.var 2)) .nx))
    (.ret (.bor (.fn (b_tup M K) (.cons (.var 1) .nil))))))
noncomputable def s_without_repeats (C : Cn M K) (Cf : Kf K CA) : List Dt → Option Rd := fun as => sOfF (L_without_repeats C Cf) 3 1 as
noncomputable def L_sign_at_root (C : Cn M K) (Cf : Kf K CA) (fuel : Nat) : Sz M K CA :=
    (.seq (.ife (.tpu (.tst (.op (o_eq M K) (.var 0) (.tup .nil)))) (.ret (.pu (.int 0))) .nx)
    (.seq (.asg (.name 2) (.callP (s_row_divisor C Cf) (.cons (.pu (.var 0)) (.cons (.fld "Root" "row" Cf.c_Root Cf.n_Root_row (.pu (.var 1))) .nil))))
    (.seq (.ife (.tand (.tpu (.tst (.op (o_gt M K) (.fn (b_len M K) (.cons (.var 2) .nil)) (.int 1)))) (.tst (.op (o_eq M K) (.callP (s_count_roots C Cf) (.cons (.pu (.call (s_chain_of C Cf) (.cons (.call (s_simple C Cf) (.cons (.var 2) .nil)) .nil))) (.cons (.fld "Root" "low" Cf.c_Root Cf.n_Root_low (.pu (.var 1))) (.cons (.fld "Root" "high" Cf.c_Root Cf.n_Root_high (.pu (.var 1))) .nil)))) (.pu (.int 1))))) (.ret (.pu (.int 0))) .nx)
    (.seq (.ife (.tpu (.tst (.op (o_eq M K) (.fn (b_len M K) (.cons (.var 0) .nil)) (.int 1)))) (.ret (.pu (.call (s_sign_of C Cf) (.cons (.op (o_ix M K) (.var 0) (.int 0)) .nil)))) .nx)
    (.seq (.asg (.name 3) (.pu (.call (s_chain_of C Cf) (.cons (.call (s_simple C Cf) (.cons (.var 0) .nil)) .nil))))
    (.seq (.wh fuel (.tst (.op (o_ne M K) (.callP (s_count_roots C Cf) (.cons (.pu (.var 3)) (.cons (.fld "Root" "low" Cf.c_Root Cf.n_Root_low (.pu (.var 1))) (.cons (.fld "Root" "high" Cf.c_Root Cf.n_Root_high (.pu (.var 1))) .nil)))) (.pu (.int 0)))) (.drop (.meth "Root" "halve" (s_Root_halve C Cf) (.pu (.var 1)) .nil)))
    (.ret (.callP (s_sign_at C Cf) (.cons (.pu (.var 0)) (.cons (.fld "Root" "high" Cf.c_Root Cf.n_Root_high (.pu (.var 1))) .nil))))))))))
noncomputable def s_sign_at_root (C : Cn M K) (Cf : Kf K CA) : Zf := fun S as => sZF (L_sign_at_root C Cf 1000000000000) 4 2 S as
noncomputable def L_cuts_of (C : Cn M K) (Cf : Kf K CA) : Sz M K CA :=
    (.seq (.par 1 2 (.v (.lsOf (.fld "Bent" "roots" Cf.c_Bent Cf.n_Bent_roots (.pu (.var 0))))) (.v .dnew))
    (.seq (.fr (.iseq (.fld "Bent" "rows" Cf.c_Bent Cf.n_Bent_rows (.pu (.var 0)))) (.name 3) (.ife (.tand (.tpu (.tst (.op (o_ne M K) (.var 3) (.tup .nil)))) (.tb (.din true (.pu (.var 3)) (.pu (.var 2))))) (.seq (.dput (.pu (.var 2)) (.pu (.var 3)))
    (.asg (.name 1) (.op (o_add M K) (.pu (.var 1)) (.call (s_roots_of C Cf) (.cons (.pu (.var 3)) .nil))))) .nx))
    (.ret (.call (s_sorted_roots C Cf) (.cons (.pu (.var 1)) .nil)))))
noncomputable def s_cuts_of (C : Cn M K) (Cf : Kf K CA) : Zf := fun S as => sZF (L_cuts_of C Cf) 4 1 S as
noncomputable def L_signs_along (C : Cn M K) (Cf : Kf K CA) : Sz M K CA :=
    (.seq (.par 1 2 (.v (.call (s_cuts_of C Cf) (.cons (.pu (.var 0)) .nil))) (.o (.lst .nil)))
    (.seq (.fr (.ienum (.call (s_places_between C Cf) (.cons (.pu (.var 1)) .nil))) (.tup [3, 4]) (.seq (.asg (.name 5) (.meth "Bent" "row_at" (s_Bent_row_at C Cf) (.pu (.var 0)) (.cons (.pu (.var 4)) .nil)))
    (.seq (.app 2 (.pu (.call (s_sign_at C Cf) (.cons (.var 5) (.cons (.var 4) .nil)))))
    (.ife (.tpu (.tst (.op (o_lt M K) (.var 3) (.fn (b_len M K) (.cons (.var 1) .nil))))) (.app 2 (.call (s_sign_at_root C Cf) (.cons (.pu (.var 5)) (.cons (.pu (.op (o_ix M K) (.var 1) (.var 3))) .nil)))) .nx))))
    (.ret (.tup (.cons (.give 2) (.cons (.pu (.var 1)) .nil))))))
noncomputable def s_signs_along (C : Cn M K) (Cf : Kf K CA) : Zf := fun S as => sZF (L_signs_along C Cf) 6 1 S as
noncomputable def L_signs (C : Cn M K) (Cf : Kf K CA) : Sz M K CA :=
    (.seq (.drop (.pu (.call (s_need_curve C Cf) (.cons (.var 0) .nil))))
    (.ret (.callP (s_without_repeats C Cf) (.cons (.ix (.call (s_signs_along C Cf) (.cons (.call (s_bent_of C Cf 20) (.cons (.pu (.var 0)) .nil)) .nil)) (.pu (.int 0))) .nil))))
noncomputable def s_signs (C : Cn M K) (Cf : Kf K CA) : Zf := fun S as => sZF (L_signs C Cf) 1 1 S as
noncomputable def L_floor_of (C : Cn M K) (Cf : Kf K CA) (fuel : Nat) : Sz M K CA :=
    (.seq (.asg (.name 2) (.op (o_fdiv M K) (.op (o_mul M K) (.ix (.fld "Root" "low" Cf.c_Root Cf.n_Root_low (.pu (.var 0))) (.pu (.int 0))) (.pu (.var 1))) (.ix (.fld "Root" "low" Cf.c_Root Cf.n_Root_low (.pu (.var 0))) (.pu (.int 1)))))
    (.seq (.wh fuel (.tst (.op (o_ge M K) (.meth "Root" "against" (s_Root_against C Cf) (.pu (.var 0)) (.cons (.pu (.tup (.cons (.op (o_add M K) (.var 2) (.int 1)) (.cons (.var 1) .nil)))) .nil)) (.pu (.int 0)))) (.ife (.tst (.op (o_gt M K) (.op (o_mul M K) (.op (o_sub M K) (.op (o_mul M K) (.ix (.fld "Root" "high" Cf.c_Root Cf.n_Root_high (.pu (.var 0))) (.pu (.int 0))) (.ix (.fld "Root" "low" Cf.c_Root Cf.n_Root_low (.pu (.var 0))) (.pu (.int 1)))) (.op (o_mul M K) (.ix (.fld "Root" "low" Cf.c_Root Cf.n_Root_low (.pu (.var 0))) (.pu (.int 0))) (.ix (.fld "Root" "high" Cf.c_Root Cf.n_Root_high (.pu (.var 0))) (.pu (.int 1))))) (.pu (.var 1))) (.op (o_mul M K) (.ix (.fld "Root" "high" Cf.c_Root Cf.n_Root_high (.pu (.var 0))) (.pu (.int 1))) (.ix (.fld "Root" "low" Cf.c_Root Cf.n_Root_low (.pu (.var 0))) (.pu (.int 1)))))) (.seq (.drop (.meth "Root" "halve" (s_Root_halve C Cf) (.pu (.var 0)) .nil))
    (.asg (.name 2) (.fn (b_max2 M K) (.cons (.pu (.var 2)) (.cons (.op (o_fdiv M K) (.op (o_mul M K) (.ix (.fld "Root" "low" Cf.c_Root Cf.n_Root_low (.pu (.var 0))) (.pu (.int 0))) (.pu (.var 1))) (.ix (.fld "Root" "low" Cf.c_Root Cf.n_Root_low (.pu (.var 0))) (.pu (.int 1)))) .nil))))) (.asg (.name 2) (.pu (.op (o_add M K) (.var 2) (.int 1))))))
    (.ret (.pu (.var 2)))))
noncomputable def s_floor_of (C : Cn M K) (Cf : Kf K CA) : Zf := fun S as => sZF (L_floor_of C Cf 1000000000000) 3 2 S as
noncomputable def L_nearest_top (C : Cn M K) (Cf : Kf K CA) : Sz M K CA :=
    (.seq (.ife (.tand (.tpu (.tst (.op (o_isnt M K) (.var 1) .non))) (.tst (.op (o_ge M K) (.meth "Root" "against" (s_Root_against C Cf) (.pu (.var 1)) (.cons (.pu (.tup (.cons (.int 0) (.cons (.int 1) .nil)))) .nil)) (.pu (.int 0))))) (.ret (.op (o_add M K) (.call (s_floor_of C Cf) (.cons (.pu (.var 1)) (.cons (.pu (.var 0)) .nil))) (.pu (.int 1)))) .nx)
    (.seq (.asg (.name 3) (.call (s_floor_of C Cf) (.cons (.pu (.var 2)) (.cons (.pu (.var 0)) .nil))))
    (.ret (.ifx (.tst (.op (o_eq M K) (.meth "Root" "against" (s_Root_against C Cf) (.pu (.var 2)) (.cons (.pu (.tup (.cons (.var 3) (.cons (.var 0) .nil)))) .nil)) (.pu (.int 0)))) (.pu (.op (o_sub M K) (.var 3) (.int 1))) (.pu (.var 3))))))
noncomputable def s_nearest_top (C : Cn M K) (Cf : Kf K CA) : Zf := fun S as => sZF (L_nearest_top C Cf) 4 3 S as
noncomputable def L_is_within (C : Cn M K) (Cf : Kf K CA) : Sz M K CA :=
    (.seq (.ife (.tand (.tpu (.tst (.op (o_isnt M K) (.var 1) .non))) (.tst (.op (o_ge M K) (.meth "Root" "against" (s_Root_against C Cf) (.pu (.var 1)) (.cons (.pu (.var 0)) .nil)) (.pu (.int 0))))) (.ret (.pu (.bl false))) .nx)
    (.ret (.orV (.pu (.op (o_is M K) (.var 2) .non)) (.op (o_gt M K) (.meth "Root" "against" (s_Root_against C Cf) (.pu (.var 2)) (.cons (.pu (.var 0)) .nil)) (.pu (.int 0))))))
noncomputable def s_is_within (C : Cn M K) (Cf : Kf K CA) : Zf := fun S as => sZF (L_is_within C Cf) 3 3 S as
noncomputable def L_simplest_in (C : Cn M K) (Cf : Kf K CA) (fuel : Nat) : Sz M K CA :=
    (.seq (.ife (.tb (.call (s_is_within C Cf) (.cons (.pu (.tup (.cons (.int 0) (.cons (.int 1) .nil)))) (.cons (.pu (.var 0)) (.cons (.pu (.var 1)) .nil))))) (.ret (.pu (.tup (.cons (.int 0) (.cons (.int 1) .nil))))) .nx)
    (.seq (.asg (.name 2) (.pu (.int 1)))
    (.seq (.wh fuel (.tnot (.tb (.call (s_is_within C Cf) (.cons (.tup (.cons (.call (s_nearest_top C Cf) (.cons (.pu (.var 2)) (.cons (.pu (.var 0)) (.cons (.pu (.var 1)) .nil)))) (.cons (.pu (.var 2)) .nil))) (.cons (.pu (.var 0)) (.cons (.pu (.var 1)) .nil)))))) (.asg (.name 2) (.pu (.op (o_add M K) (.var 2) (.int 1)))))
    (.ret (.tup (.cons (.call (s_nearest_top C Cf) (.cons (.pu (.var 2)) (.cons (.pu (.var 0)) (.cons (.pu (.var 1)) .nil)))) (.cons (.pu (.var 2)) .nil)))))))
noncomputable def s_simplest_in (C : Cn M K) (Cf : Kf K CA) : Zf := fun S as => sZF (L_simplest_in C Cf 1000000000000) 3 2 S as
noncomputable def L_stretch_of (C : Cn M K) (Cf : Kf K CA) (fuel : Nat) : St M K :=
    (.seq (.asg (.name 2) (.int 0))
    (.seq (.wh fuel (.tand (.tst (.op (o_lt M K) (.var 2) (.fn (b_len M K) (.cons (.var 0) .nil)))) (.tst (.op (o_eq M K) (.op (o_ix M K) (.var 0) (.var 2)) (.int 0)))) (.asg (.name 2) (.op (o_add M K) (.var 2) (.int 1))))
    (.seq (.ife (.tst (.op (o_eq M K) (.var 2) (.fn (b_len M K) (.cons (.var 0) .nil)))) (.ret .non) .nx)
    (.seq (.asg (.name 3) (.var 2))
    (.seq (.wh fuel (.tand (.tst (.op (o_lt M K) (.op (o_add M K) (.var 3) (.int 1)) (.fn (b_len M K) (.cons (.var 0) .nil)))) (.tst (.op (o_ne M K) (.op (o_ix M K) (.var 0) (.op (o_add M K) (.var 3) (.int 1))) (.int 0)))) (.asg (.name 3) (.op (o_add M K) (.var 3) (.int 1))))
    (.seq (.asg (.name 4) (.ifx (.tst (.op (o_gt M K) (.var 2) (.int 1))) (.op (o_ix M K) (.var 1) (.op (o_sub M K) (.op (o_fdiv M K) (.var 2) (.int 2)) (.int 1))) .non))
    (.ret (.tup (.cons (.var 4) (.cons (.ifx (.tst (.op (o_lt M K) (.var 3) (.op (o_sub M K) (.fn (b_len M K) (.cons (.var 0) .nil)) (.int 1)))) (.op (o_ix M K) (.var 1) (.op (o_fdiv M K) (.var 3) (.int 2))) .non) .nil))))))))))
noncomputable def s_stretch_of (C : Cn M K) (Cf : Kf K CA) : List Dt → Option Rd := fun as => sOfF (L_stretch_of C Cf (wts as)) 5 2 as
noncomputable def L_gap_of (C : Cn M K) (Cf : Kf K CA) : Sz M K CA :=
    (.ret (.call (s_put_together C Cf) (.cons (.pu (.var 0)) (.cons (.make "Bent" (s_Bent_init C Cf) (.cons (.lc (.iseq (.fld "Bent" "rows" Cf.c_Bent Cf.n_Bent_rows (.pu (.var 1)))) (.name 2) (.tpu .yes) (.pu (.call (s_row_sum C Cf) (.cons (.tup .nil) (.cons (.var 2) (.cons (.un (o_neg M K) (.int 1)) .nil)))))) (.cons (.fld "Bent" "roots" Cf.c_Bent Cf.n_Bent_roots (.pu (.var 1))) .nil))) (.cons (.pu (.str "sum")) .nil)))))
noncomputable def s_gap_of (C : Cn M K) (Cf : Kf K CA) : Zf := fun S as => sZF (L_gap_of C Cf) 3 2 S as
noncomputable def L_need_two (C : Cn M K) (Cf : Kf K CA) : St M K :=
    (.seq (.drop (.call (s_need_curve C Cf) (.cons (.var 0) .nil)))
    (.drop (.call (s_need_curve C Cf) (.cons (.var 1) .nil))))
noncomputable def s_need_two (C : Cn M K) (Cf : Kf K CA) : List Dt → Option Rd := fun as => sOfF (L_need_two C Cf) 2 2 as
noncomputable def L_parting (C : Cn M K) (Cf : Kf K CA) : Sz M K CA :=
    (.seq (.drop (.pu (.call (s_need_two C Cf) (.cons (.var 0) (.cons (.var 1) .nil)))))
    (.seq (.asg (.tup [2, 3]) (.call (s_signs_along C Cf) (.cons (.call (s_gap_of C Cf) (.cons (.call (s_bent_of C Cf 20) (.cons (.pu (.var 0)) .nil)) (.cons (.call (s_bent_of C Cf 20) (.cons (.pu (.var 1)) .nil)) .nil))) .nil)))
    (.seq (.asg (.name 4) (.pu (.call (s_stretch_of C Cf) (.cons (.var 2) (.cons (.var 3) .nil)))))
    (.ret (.ifx (.tpu (.tst (.op (o_is M K) (.var 4) .non))) (.pu .non) (.call (s_simplest_in C Cf) (.cons (.pu (.op (o_ix M K) (.var 4) (.int 0))) (.cons (.pu (.op (o_ix M K) (.var 4) (.int 1))) .nil))))))))
noncomputable def s_parting (C : Cn M K) (Cf : Kf K CA) : Zf := fun S as => sZF (L_parting C Cf) 5 2 S as
noncomputable def L_zeros_in (C : Cn M K) (Cf : Kf K CA) : St M K :=
    (.seq (.ife (.tb (.fn (b_any M K) (.cons (.lc (.iseq (.sls (.var 0) .nob .nob (.part (.int 2)))) (.name 1) .yes (.op (o_eq M K) (.var 1) (.int 0))) .nil))) (.ret .non) .nx)
    (.ret (.fn (b_len M K) (.cons (.lc (.iseq (.sls (.var 0) (.part (.int 1)) .nob (.part (.int 2)))) (.name 1) (.tst (.op (o_eq M K) (.var 1) (.int 0))) (.int 1)) .nil))))
noncomputable def s_zeros_in (C : Cn M K) (Cf : Kf K CA) : List Dt → Option Rd := fun as => sOfF (L_zeros_in C Cf) 2 1 as
noncomputable def L_is_fraction (C : Cn M K) (Cf : Kf K CA) : St M K :=
    (.seq (.ife (.tor (.tnot (.tb (.isi (.var 0) "tuple"))) (.tor (.tst (.op (o_ne M K) (.fn (b_len M K) (.cons (.var 0) .nil)) (.int 2))) (.tnot (.tb (.call (s_is_whole C Cf) (.cons (.op (o_ix M K) (.var 0) (.int 0)) (.cons (.un (o_neg M K) (.var 1)) (.cons (.var 1) .nil)))))))) (.ret (.bl false)) .nx)
    (.ret (.andV (.call (s_is_whole C Cf) (.cons (.op (o_ix M K) (.var 0) (.int 1)) (.cons (.int 1) (.cons (.var 1) .nil)))) (.op (o_eq M K) (.call (s_divisor C Cf) (.cons (.op (o_ix M K) (.var 0) (.int 0)) (.cons (.op (o_ix M K) (.var 0) (.int 1)) .nil))) (.int 1)))))
noncomputable def s_is_fraction (C : Cn M K) (Cf : Kf K CA) : List Dt → Option Rd := fun as => sOfF (L_is_fraction C Cf) 2 2 as
noncomputable def L_takes (C : Cn M K) (Cf : Kf K CA) : Sz M K CA :=
    (.seq (.drop (.pu (.call (s_need_curve C Cf) (.cons (.var 0) .nil))))
    (.seq (.ife (.tpu (.tnot (.tb (.call (s_is_fraction C Cf) (.cons (.var 1) (.cons (.op (o_pow M K) (.int 10) (.int 9)) .nil)))))) (.rais (.ref C.a_InvalidNumber)) .nx)
    (.seq (.asg (.name 2) (.call (s_bent_of C Cf 20) (.cons (.pu (.var 0)) .nil)))
    (.seq (.asg (.name 3) (.lc (.iseq (.fld "Bent" "rows" Cf.c_Bent Cf.n_Bent_rows (.pu (.var 2)))) (.name 4) (.tpu .yes) (.pu (.call (s_row_sum C Cf) (.cons (.call (s_row_product C Cf) (.cons (.var 4) (.cons (.tup (.cons (.op (o_ix M K) (.var 1) (.int 1)) .nil)) .nil))) (.cons (.tup (.cons (.op (o_ix M K) (.var 1) (.int 0)) .nil)) (.cons (.un (o_neg M K) (.int 1)) .nil)))))))
    (.ret (.callP (s_zeros_in C Cf) (.cons (.ix (.call (s_signs_along C Cf) (.cons (.make "Bent" (s_Bent_init C Cf) (.cons (.pu (.var 3)) (.cons (.fld "Bent" "roots" Cf.c_Bent Cf.n_Bent_roots (.pu (.var 2))) .nil))) .nil)) (.pu (.int 0))) .nil)))))))
noncomputable def s_takes (C : Cn M K) (Cf : Kf K CA) : Zf := fun S as => sZF (L_takes C Cf) 5 2 S as
noncomputable def L_is_convex (C : Cn M K) (Cf : Kf K CA) : Sz M K CA :=
    (.seq (.drop (.pu (.call (s_need_curve C Cf) (.cons (.var 0) .nil))))
    (.seq (.asg (.name 1) (.call (s_bent_of C Cf 20) (.cons (.pu (.var 0)) .nil)))
    (.seq (.fr (.ienum (.fld "Bent" "roots" Cf.c_Bent Cf.n_Bent_roots (.pu (.var 1)))) (.tup [2, 3]) (.ife (.tst (.op (o_lt M K) (.call (s_sign_at_root C Cf) (.cons (.callP (s_row_sum C Cf) (.cons (.callP (s_slope_of C Cf) (.cons (.ix (.fld "Bent" "rows" Cf.c_Bent Cf.n_Bent_rows (.pu (.var 1))) (.pu (.op (o_add M K) (.var 2) (.int 1)))) .nil)) (.cons (.callP (s_slope_of C Cf) (.cons (.ix (.fld "Bent" "rows" Cf.c_Bent Cf.n_Bent_rows (.pu (.var 1))) (.pu (.var 2))) .nil)) (.cons (.pu (.un (o_neg M K) (.int 1))) .nil)))) (.cons (.pu (.var 3)) .nil))) (.pu (.int 0)))) (.ret (.pu (.bl false))) .nx))
    (.seq (.asg (.name 4) (.make "Bent" (s_Bent_init C Cf) (.cons (.lc (.iseq (.fld "Bent" "rows" Cf.c_Bent Cf.n_Bent_rows (.pu (.var 1)))) (.name 5) (.tpu .yes) (.pu (.call (s_slope_of C Cf) (.cons (.call (s_slope_of C Cf) (.cons (.var 5) .nil)) .nil)))) (.cons (.fld "Bent" "roots" Cf.c_Bent Cf.n_Bent_roots (.pu (.var 1))) .nil))))
    (.ret (.op (o_nin M K) (.pu (.un (o_neg M K) (.int 1))) (.sls (.ix (.call (s_signs_along C Cf) (.cons (.pu (.var 4)) .nil)) (.pu (.int 0))) .nob .nob (.part (.int 2)))))))))
noncomputable def s_is_convex (C : Cn M K) (Cf : Kf K CA) : Zf := fun S as => sZF (L_is_convex C Cf) 6 1 S as
noncomputable def L_slopes_along (C : Cn M K) (Cf : Kf K CA) : Sz M K CA :=
    (.seq (.par 1 2 (.v (.lsOf (.fld "Bent" "roots" Cf.c_Bent Cf.n_Bent_roots (.pu (.var 0))))) (.v .dnew))
    (.seq (.fr (.iseq (.fld "Bent" "rows" Cf.c_Bent Cf.n_Bent_rows (.pu (.var 0)))) (.name 3) (.seq (.asg (.name 4) (.pu (.call (s_slope_of C Cf) (.cons (.var 3) .nil))))
    (.ife (.tand (.tpu (.tst (.op (o_ne M K) (.var 4) (.tup .nil)))) (.tb (.din true (.pu (.var 4)) (.pu (.var 2))))) (.seq (.dput (.pu (.var 2)) (.pu (.var 4)))
    (.asg (.name 1) (.op (o_add M K) (.pu (.var 1)) (.call (s_roots_of C Cf) (.cons (.pu (.var 4)) .nil))))) .nx)))
    (.seq (.asg (.name 5) (.call (s_sorted_roots C Cf) (.cons (.pu (.var 1)) .nil)))
    (.ret (.lc (.iseq (.call (s_places_between C Cf) (.cons (.pu (.var 5)) .nil))) (.name 6) (.tpu .yes) (.callP (s_sign_at C Cf) (.cons (.callP (s_slope_of C Cf) (.cons (.meth "Bent" "row_at" (s_Bent_row_at C Cf) (.pu (.var 0)) (.cons (.pu (.var 6)) .nil)) .nil)) (.cons (.pu (.var 6)) .nil))))))))
noncomputable def s_slopes_along (C : Cn M K) (Cf : Kf K CA) : Zf := fun S as => sZF (L_slopes_along C Cf) 7 1 S as
noncomputable def L_ways (C : Cn M K) (Cf : Kf K CA) : Sz M K CA :=
    (.seq (.drop (.pu (.call (s_need_curve C Cf) (.cons (.var 0) .nil))))
    (.ret (.callP (s_without_repeats C Cf) (.cons (.call (s_slopes_along C Cf) (.cons (.call (s_bent_of C Cf 20) (.cons (.pu (.var 0)) .nil)) .nil)) .nil))))
noncomputable def s_ways (C : Cn M K) (Cf : Kf K CA) : Zf := fun S as => sZF (L_ways C Cf) 1 1 S as
noncomputable def L_meetings (C : Cn M K) (Cf : Kf K CA) : Sz M K CA :=
    (.seq (.drop (.pu (.call (s_need_two C Cf) (.cons (.var 0) (.cons (.var 1) .nil)))))
    (.ret (.callP (s_zeros_in C Cf) (.cons (.ix (.call (s_signs_along C Cf) (.cons (.call (s_gap_of C Cf) (.cons (.call (s_bent_of C Cf 20) (.cons (.pu (.var 0)) .nil)) (.cons (.call (s_bent_of C Cf 20) (.cons (.pu (.var 1)) .nil)) .nil))) .nil)) (.pu (.int 0))) .nil))))
noncomputable def s_meetings (C : Cn M K) (Cf : Kf K CA) : Zf := fun S as => sZF (L_meetings C Cf) 2 2 S as
noncomputable def L_law_drawn (C : Cn M K) (Cf : Kf K CA) : St M K :=
    (.seq (.asg (.name 2) (.op (o_mod M K) (.op (o_add M K) (.op (o_mul M K) (.var 0) (.int 6364136223846793005)) (.op (o_mul M K) (.op (o_add M K) (.var 1) (.int 1)) (.int 1442695040888963407))) (.int 340282366920938463463374607431768211507)))
    (.seq (.asg (.name 2) (.op (o_mod M K) (.op (o_mul M K) (.var 2) (.var 2)) (.int 340282366920938463463374607431768211297)))
    (.seq (.asg (.name 2) (.op (o_mul M K) (.op (o_mul M K) (.op (o_add M K) (.op (o_mod M K) (.var 2) (.int 18446744073709551557)) (.int 1)) (.op (o_add M K) (.op (o_fdiv M K) (.var 2) (.int 18446744073709551557)) (.int 1))) (.var 2)))
    (.ret (.op (o_mod M K) (.var 2) (.int 340282366920938463463374607431768211507))))))
noncomputable def s_law_drawn (C : Cn M K) (Cf : Kf K CA) : List Dt → Option Rd := fun as => sOfF (L_law_drawn C Cf) 3 2 as
noncomputable def L_law_roll (C : Cn M K) (Cf : Kf K CA) : St M K :=
    (.seq (.ife (.tbor (.tst (.op (o_ge M K) (.op (o_ix M K) (.var 0) (.int 0)) (.op (o_pow M K) (.int 10) (.int 18))))) (.seq (.asg (.name 2) (.bor (.op (o_mod M K) (.op (o_ix M K) (.var 0) (.int 0)) (.var 1))))
    (.seq (.setO 0 (.int 0) (.bor (.op (o_fdiv M K) (.op (o_ix M K) (.var 0) (.int 0)) (.var 1))))
    (.ret (.var 2)))) .nx)
    (.seq (.setO 0 (.int 1) (.bor (.op (o_add M K) (.op (o_ix M K) (.var 0) (.int 1)) (.int 1))))
    (.ret (.bor (.op (o_mod M K) (.op (o_fdiv M K) (.call (s_law_drawn C Cf) (.cons (.op (o_ix M K) (.var 0) (.int 0)) (.cons (.op (o_ix M K) (.var 0) (.int 1)) .nil))) (.int 8)) (.var 1))))))
noncomputable def s_law_roll (C : Cn M K) (Cf : Kf K CA) : List Dt → List Dt → Option (Dt × List Dt) := fun own as => lOfF (L_law_roll C Cf) 3 2 own as
noncomputable def L_law_right_near (C : Cn M K) (Cf : Kf K CA) : St M K :=
    (.seq (.asg (.name 0) (.tup (.cons (.str "x") .nil)))
    (.seq (.asg (.unl [1, 2]) (.lc (.iseq (.tup (.cons (.int 9) (.cons (.int 8) .nil)))) (.name 3) .yes (.tup (.cons (.str "sum") (.cons (.tup (.cons (.str "times") (.cons (.tup (.cons (.str "num") (.cons (.var 3) .nil))) (.cons (.var 0) .nil)))) (.cons (.tup (.cons (.str "num") (.cons (.un (o_neg M K) (.int 1)) .nil))) .nil))))))
    (.seq (.asg (.name 4) (.tup (.cons (.str "max") (.cons (.tup (.cons (.str "times") (.cons (.var 1) (.cons (.var 2) .nil)))) (.cons (.tup (.cons (.str "num") (.cons (.int 0) .nil))) .nil)))))
    (.seq (.ife (.tor (.tst (.op (o_ne M K) (.call (pZ (s_form C Cf)) (.cons (.var 4) .nil)) (.tup (.cons (.tup (.cons (.int 1) (.cons (.un (o_neg M K) (.int 17)) (.cons (.int 72) .nil)))) (.cons (.int 1) (.cons (.tup .nil) (.cons (.int 2) (.cons (.tup (.cons (.int 1) (.cons (.un (o_neg M K) (.int 17)) (.cons (.int 72) .nil)))) .nil)))))))) (.tst (.op (o_ne M K) (.call (pZ (s_signs C Cf)) (.cons (.var 4) .nil)) (.tup (.cons (.int 1) (.cons (.int 0) (.cons (.int 1) .nil))))))) (.ret (.bl false)) .nx)
    (.seq (.ife (.tst (.op (o_ne M K) (.call (pZ (s_parting C Cf)) (.cons (.var 4) (.cons (.tup (.cons (.str "num") (.cons (.int 0) .nil))) .nil))) (.tup (.cons (.int 0) (.cons (.int 1) .nil))))) (.ret (.bl false)) .nx)
    (.seq (.ife (.tor (.tst (.op (o_ne M K) (.call (pZ (s_takes C Cf)) (.cons (.var 4) (.cons (.tup (.cons (.int 1) (.cons (.int 1) .nil))) .nil))) (.int 2))) (.tor (.tst (.op (o_isnt M K) (.call (pZ (s_is_convex C Cf)) (.cons (.var 4) .nil)) (.bl true))) (.tst (.op (o_ne M K) (.call (pZ (s_ways C Cf)) (.cons (.var 4) .nil)) (.tup (.cons (.un (o_neg M K) (.int 1)) (.cons (.int 0) (.cons (.int 1) .nil)))))))) (.ret (.bl false)) .nx)
    (.seq (.asg (.name 5) (.tup (.cons (.str "min") (.cons (.tup (.cons (.str "times") (.cons (.var 1) (.cons (.var 2) .nil)))) (.cons (.tup (.cons (.str "num") (.cons (.int 0) .nil))) .nil)))))
    (.seq (.ife (.tor (.tst (.op (o_ne M K) (.call (pZ (s_parting C Cf)) (.cons (.var 5) (.cons (.tup (.cons (.str "num") (.cons (.int 0) .nil))) .nil))) (.tup (.cons (.int 2) (.cons (.int 17) .nil))))) (.tst (.op (o_isnt M K) (.call (pZ (s_meetings C Cf)) (.cons (.var 5) (.cons (.tup (.cons (.str "num") (.cons (.int 0) .nil))) .nil))) .non))) (.ret (.bl false)) .nx)
    (.seq (.ife (.tst (.op (o_ne M K) (.call (pZ (s_signs C Cf)) (.cons (.var 5) .nil)) (.tup (.cons (.int 0) (.cons (.un (o_neg M K) (.int 1)) (.cons (.int 0) .nil)))))) (.ret (.bl false)) .nx)
    (.ret (.bl true)))))))))))
noncomputable def s_law_right_near (C : Cn M K) (Cf : Kf K CA) : List Dt → Option Rd := fun as => sOfF (L_law_right_near C Cf) 6 0 as
noncomputable def Lb0 (C : Cn M K) (Cf : Kf K CA) : St M K :=
    (.par 2 3 (.op (o_add M K) (.int 2) (.lend (s_law_roll C Cf) 1 (.cons (.int 8) .nil))) (.tup (.cons (.str "x") .nil)))
noncomputable def Lb1 (C : Cn M K) (Cf : Kf K CA) : St M K :=
    (.asg (.name 4) (.tup (.cons (.str "times") (.cons (.var 3) (.cons (.var 3) .nil)))))
noncomputable def Lb2 (C : Cn M K) (Cf : Kf K CA) : St M K :=
    (.asg (.name 5) (.tup (.cons (.str "sum") (.cons (.var 4) (.cons (.tup (.cons (.str "num") (.cons (.un (o_neg M K) (.var 2)) .nil))) .nil)))))
noncomputable def Lb3 (C : Cn M K) (Cf : Kf K CA) : St M K :=
    (.asg (.name 6) (.tup (.cons (.str "max") (.cons (.var 5) (.cons (.tup (.cons (.str "num") (.cons (.int 0) .nil))) .nil)))))
noncomputable def Lb4 (C : Cn M K) (Cf : Kf K CA) : St M K :=
    (.asg (.name 7) (.tup (.cons (.str "max") (.cons (.tup (.cons (.str "times") (.cons (.tup (.cons (.str "num") (.cons (.int 3) .nil))) (.cons (.var 5) .nil)))) (.cons (.tup (.cons (.str "num") (.cons (.int 0) .nil))) .nil)))))
noncomputable def Lb5 (C : Cn M K) (Cf : Kf K CA) : St M K :=
    (.asg (.name 8) (.tup (.cons (.op (o_mul M K) (.un (o_neg M K) (.int 3)) (.var 2)) (.cons (.int 0) (.cons (.int 3) .nil)))))
noncomputable def Lb6 (C : Cn M K) (Cf : Kf K CA) : St M K :=
    (.ife (.tst (.op (o_ne M K) (.call (pZ (s_form C Cf)) (.cons (.tup (.cons (.str "max") (.cons (.var 5) (.cons (.tup (.cons (.str "times") (.cons (.tup (.cons (.str "num") (.cons (.int 3) .nil))) (.cons (.var 5) .nil)))) .nil)))) .nil)) (.tup (.cons (.var 8) (.cons (.int 1) (.cons (.tup (.cons (.un (o_neg M K) (.var 2)) (.cons (.int 0) (.cons (.int 1) .nil)))) (.cons (.int 2) (.cons (.var 8) .nil)))))))) (.ret (.bl false)) .nx)
noncomputable def Lb7 (C : Cn M K) (Cf : Kf K CA) : St M K :=
    (.ife (.tor (.tst (.op (o_isnt M K) (.call (pZ (s_meetings C Cf)) (.cons (.var 6) (.cons (.var 7) .nil))) .non)) (.tst (.op (o_ne M K) (.call (pZ (s_takes C Cf)) (.cons (.var 5) (.cons (.tup (.cons (.int 0) (.cons (.int 1) .nil))) .nil))) (.int 2)))) (.ret (.bl false)) .nx)
noncomputable def Lb8 (C : Cn M K) (Cf : Kf K CA) : St M K :=
    (.ife (.tst (.op (o_ne M K) (.call (pZ (s_signs C Cf)) (.cons (.tup (.cons (.str "times") (.cons (.var 5) (.cons (.var 5) .nil)))) .nil)) (.tup (.cons (.int 1) (.cons (.int 0) (.cons (.int 1) (.cons (.int 0) (.cons (.int 1) .nil)))))))) (.ret (.bl false)) .nx)
noncomputable def Lb9 (C : Cn M K) (Cf : Kf K CA) : St M K :=
    (.ife (.tnot (.tb (.call (s_law_right_near C Cf) .nil))) (.ret (.bl false)) .nx)
noncomputable def Lb10 (C : Cn M K) (Cf : Kf K CA) : St M K :=
    (.asg (.name 9) (.tup (.cons (.str "into") (.cons (.tup (.cons (.str "times") (.cons (.var 4) (.cons (.var 4) .nil)))) (.cons (.tup (.cons (.str "sum") (.cons (.tup (.cons (.str "times") (.cons (.tup (.cons (.str "num") (.cons (.int 9) .nil))) (.cons (.var 3) .nil)))) (.cons (.tup (.cons (.str "num") (.cons (.un (o_neg M K) (.var 2)) .nil))) .nil)))) .nil)))))
noncomputable def Lb11 (C : Cn M K) (Cf : Kf K CA) : St M K :=
    (.ife (.tor (.tst (.op (o_ne M K) (.call (pZ (s_form C Cf)) (.cons (.tup (.cons (.str "max") (.cons (.var 9) (.cons (.tup (.cons (.str "num") (.cons (.int 0) .nil))) .nil)))) .nil)) (.call (pZ (s_form C Cf)) (.cons (.var 9) .nil)))) (.tst (.op (o_ne M K) (.call (pZ (s_takes C Cf)) (.cons (.var 9) (.cons (.tup (.cons (.int 0) (.cons (.int 1) .nil))) .nil))) (.int 1)))) (.ret (.bl false)) .nx)
noncomputable def Lb12 (C : Cn M K) (Cf : Kf K CA) : St M K :=
    (.ife (.tst (.op (o_ne M K) (.call (pZ (s_ways C Cf)) (.cons (.var 9) .nil)) (.tup (.cons (.un (o_neg M K) (.int 1)) (.cons (.int 1) .nil))))) (.ret (.bl false)) .nx)
noncomputable def LB (C : Cn M K) (Cf : Kf K CA) : St M K := .seq (Lb0 C Cf) (.seq (Lb1 C Cf) (.seq (Lb2 C Cf) (.seq (Lb3 C Cf) (.seq (Lb4 C Cf) (.seq (Lb5 C Cf) (.seq (Lb6 C Cf) (.seq (Lb7 C Cf) (.seq (Lb8 C Cf) (.seq (Lb9 C Cf) (.seq (Lb10 C Cf) (.seq (Lb11 C Cf) (Lb12 C Cf))))))))))))
end Bc

set_option maxRecDepth 100000
set_option maxHeartbeats 0
namespace Bc
open PySem PySem.Spec
open PyProof.Rows L2
def dd_turns : He.DefD := ⟨("turns", none), "turns", "turns", defArgs (top 23), defBody (top 23), defScope (top 23), [], []⟩
def dd_sign_of : He.DefD := ⟨("sign_of", none), "sign_of", "sign_of", defArgs (top 5), defBody (top 5), defScope (top 5), [], []⟩
def dd_sign_at : He.DefD := ⟨("sign_at", none), "sign_at", "sign_at", defArgs (top 19), defBody (top 19), defScope (top 19), [], []⟩
def dd_turns_at : He.DefD := ⟨("turns_at", none), "turns_at", "turns_at", defArgs (top 24), defBody (top 24), defScope (top 24), [], []⟩
def dd_count_roots : He.DefD := ⟨("count_roots", none), "count_roots", "count_roots", defArgs (top 25), defBody (top 25), defScope (top 25), [], []⟩
def dd_divisor : He.DefD := ⟨("divisor", none), "divisor", "divisor", defArgs (top 1), defBody (top 1), defScope (top 1), [], []⟩
def dd_lowest : He.DefD := ⟨("lowest", none), "lowest", "lowest", defArgs (top 2), defBody (top 2), defScope (top 2), [], []⟩
def dd_between : He.DefD := ⟨("between", none), "between", "between", defArgs (top 4), defBody (top 4), defScope (top 4), [], []⟩
def dd_Root_halve : He.DefD := ⟨("Root", some "halve"), "halve", "Root" ++ "." ++ "halve", defArgs (inClass (top 27) 1), defBody (inClass (top 27) 1), defScope (inClass (top 27) 1), [], []⟩
def dd_content : He.DefD := ⟨("content", none), "content", "content", defArgs (top 13), defBody (top 13), defScope (top 13), [], []⟩
def dd_trimmed : He.DefD := ⟨("trimmed", none), "trimmed", "trimmed", defArgs (top 9), defBody (top 9), defScope (top 9), [], []⟩
def dd_row_rest : He.DefD := ⟨("row_rest", none), "row_rest", "row_rest", defArgs (top 15), defBody (top 15), defScope (top 15), [], []⟩
def dd_slope_of : He.DefD := ⟨("slope_of", none), "slope_of", "slope_of", defArgs (top 18), defBody (top 18), defScope (top 18), [], []⟩
def dd_chain_of : He.DefD := ⟨("chain_of", none), "chain_of", "chain_of", defArgs (top 22), defBody (top 22), defScope (top 22), [], []⟩
def dd_primitive : He.DefD := ⟨("primitive", none), "primitive", "primitive", defArgs (top 14), defBody (top 14), defScope (top 14), [], []⟩
def dd_row_quotient : He.DefD := ⟨("row_quotient", none), "row_quotient", "row_quotient", defArgs (top 17), defBody (top 17), defScope (top 17), [], []⟩
def dd_row_divisor : He.DefD := ⟨("row_divisor", none), "row_divisor", "row_divisor", defArgs (top 16), defBody (top 16), defScope (top 16), [], []⟩
def dd_simple : He.DefD := ⟨("simple", none), "simple", "simple", defArgs (top 21), defBody (top 21), defScope (top 21), [], []⟩
def dd_number_in : He.DefD := ⟨("number_in", none), "number_in", "number_in", defArgs (top 34), defBody (top 34), defScope (top 34), [], []⟩
def dd_row_sum : He.DefD := ⟨("row_sum", none), "row_sum", "row_sum", defArgs (top 10), defBody (top 10), defScope (top 10), [], []⟩
def dd_form_of : He.DefD := ⟨("form_of", none), "form_of", "form_of", defArgs (top 59), defBody (top 59), defScope (top 59), [], []⟩
def dd_Bent_init : He.DefD := ⟨("Bent", some "__init__"), "__init__", "Bent" ++ "." ++ "__init__", defArgs (inClass (top 53) 0), defBody (inClass (top 53) 0), defScope (inClass (top 53) 0), [], []⟩
def dd_joined : He.DefD := ⟨("joined", none), "joined", "joined", defArgs (top 54), defBody (top 54), defScope (top 54), [], []⟩
def dd_is_less : He.DefD := ⟨("is_less", none), "is_less", "is_less", defArgs (top 3), defBody (top 3), defScope (top 3), [], []⟩
def dd_place_between : He.DefD := ⟨("place_between", none), "place_between", "place_between", defArgs (top 32), defBody (top 32), defScope (top 32), [], []⟩
def dd_places_between : He.DefD := ⟨("places_between", none), "places_between", "places_between", defArgs (top 33), defBody (top 33), defScope (top 33), [], []⟩
def dd_row_product : He.DefD := ⟨("row_product", none), "row_product", "row_product", defArgs (top 11), defBody (top 11), defScope (top 11), [], []⟩
def dd_put_in : He.DefD := ⟨("put_in", none), "put_in", "put_in", defArgs (top 12), defBody (top 12), defScope (top 12), [], []⟩
def dd_Root_against : He.DefD := ⟨("Root", some "against"), "against", "Root" ++ "." ++ "against", defArgs (inClass (top 27) 2), defBody (inClass (top 27) 2), defScope (inClass (top 27) 2), [], []⟩
def dd_Bent_row_at : He.DefD := ⟨("Bent", some "row_at"), "row_at", "Bent" ++ "." ++ "row_at", defArgs (inClass (top 53) 1), defBody (inClass (top 53) 1), defScope (inClass (top 53) 1), [], []⟩
def dd_value_at : He.DefD := ⟨("value_at", none), "value_at", "value_at", defArgs (top 20), defBody (top 20), defScope (top 20), [], []⟩
def dd_compared : He.DefD := ⟨("compared", none), "compared", "compared", defArgs (top 30), defBody (top 30), defScope (top 30), [], []⟩
def dd_sorted_roots : He.DefD := ⟨("sorted_roots", none), "sorted_roots", "sorted_roots", defArgs (top 31), defBody (top 31), defScope (top 31), [], []⟩
def dd_Root_init : He.DefD := ⟨("Root", some "__init__"), "__init__", "Root" ++ "." ++ "__init__", defArgs (inClass (top 27) 0), defBody (inClass (top 27) 0), defScope (inClass (top 27) 0), [], []⟩
def dd_bound_of : He.DefD := ⟨("bound_of", none), "bound_of", "bound_of", defArgs (top 28), defBody (top 28), defScope (top 28), [], []⟩
def dd_roots_of : He.DefD := ⟨("roots_of", none), "roots_of", "roots_of", defArgs (top 29), defBody (top 29), defScope (top 29), [], []⟩
def dd_led_into : He.DefD := ⟨("led_into", none), "led_into", "led_into", defArgs (top 57), defBody (top 57), defScope (top 57), [], []⟩
def dd_crossings : He.DefD := ⟨("crossings", none), "crossings", "crossings", defArgs (top 55), defBody (top 55), defScope (top 55), [], []⟩
def dd_put_together : He.DefD := ⟨("put_together", none), "put_together", "put_together", defArgs (top 56), defBody (top 56), defScope (top 56), [], []⟩
def dd_bent_of : He.DefD := ⟨("bent_of", none), "bent_of", "bent_of", defArgs (top 58), defBody (top 58), defScope (top 58), [], []⟩
def dd_parts_of : He.DefD := ⟨("parts_of", none), "parts_of", "parts_of", defArgs (top 45), defBody (top 45), defScope (top 45), [], []⟩
def dd_degree_of : He.DefD := ⟨("degree_of", none), "degree_of", "degree_of", defArgs (top 47), defBody (top 47), defScope (top 47), [], []⟩
def dd_highest : He.DefD := ⟨("highest", none), "highest", "highest", defArgs (top 49), defBody (top 49), defScope (top 49), [], []⟩
def dd_size_of : He.DefD := ⟨("size_of", none), "size_of", "size_of", defArgs (top 46), defBody (top 46), defScope (top 46), [], []⟩
def dd_is_whole : He.DefD := ⟨("is_whole", none), "is_whole", "is_whole", defArgs (top 6), defBody (top 6), defScope (top 6), [], []⟩
def dd_is_shaped : He.DefD := ⟨("is_shaped", none), "is_shaped", "is_shaped", defArgs (top 44), defBody (top 44), defScope (top 44), [], []⟩
def dd_is_curve : He.DefD := ⟨("is_curve", none), "is_curve", "is_curve", defArgs (top 48), defBody (top 48), defScope (top 48), [], []⟩
def dd_need_curve : He.DefD := ⟨("need_curve", none), "need_curve", "need_curve", defArgs (top 50), defBody (top 50), defScope (top 50), [], []⟩
def dd_form : He.DefD := ⟨("form", none), "form", "form", defArgs (top 60), defBody (top 60), defScope (top 60), [], []⟩
def dd_without_repeats : He.DefD := ⟨("without_repeats", none), "without_repeats", "without_repeats", defArgs (top 74), defBody (top 74), defScope (top 74), [], []⟩
def dd_sign_at_root : He.DefD := ⟨("sign_at_root", none), "sign_at_root", "sign_at_root", defArgs (top 35), defBody (top 35), defScope (top 35), [], []⟩
def dd_cuts_of : He.DefD := ⟨("cuts_of", none), "cuts_of", "cuts_of", defArgs (top 63), defBody (top 63), defScope (top 63), [], []⟩
def dd_signs_along : He.DefD := ⟨("signs_along", none), "signs_along", "signs_along", defArgs (top 64), defBody (top 64), defScope (top 64), [], []⟩
def dd_signs : He.DefD := ⟨("signs", none), "signs", "signs", defArgs (top 75), defBody (top 75), defScope (top 75), [], []⟩
def dd_floor_of : He.DefD := ⟨("floor_of", none), "floor_of", "floor_of", defArgs (top 66), defBody (top 66), defScope (top 66), [], []⟩
def dd_nearest_top : He.DefD := ⟨("nearest_top", none), "nearest_top", "nearest_top", defArgs (top 68), defBody (top 68), defScope (top 68), [], []⟩
def dd_is_within : He.DefD := ⟨("is_within", none), "is_within", "is_within", defArgs (top 67), defBody (top 67), defScope (top 67), [], []⟩
def dd_simplest_in : He.DefD := ⟨("simplest_in", none), "simplest_in", "simplest_in", defArgs (top 69), defBody (top 69), defScope (top 69), [], []⟩
def dd_stretch_of : He.DefD := ⟨("stretch_of", none), "stretch_of", "stretch_of", defArgs (top 65), defBody (top 65), defScope (top 65), [], []⟩
def dd_gap_of : He.DefD := ⟨("gap_of", none), "gap_of", "gap_of", defArgs (top 62), defBody (top 62), defScope (top 62), [], []⟩
def dd_need_two : He.DefD := ⟨("need_two", none), "need_two", "need_two", defArgs (top 51), defBody (top 51), defScope (top 51), [], []⟩
def dd_parting : He.DefD := ⟨("parting", none), "parting", "parting", defArgs (top 70), defBody (top 70), defScope (top 70), [], []⟩
def dd_zeros_in : He.DefD := ⟨("zeros_in", none), "zeros_in", "zeros_in", defArgs (top 72), defBody (top 72), defScope (top 72), [], []⟩
def dd_is_fraction : He.DefD := ⟨("is_fraction", none), "is_fraction", "is_fraction", defArgs (top 7), defBody (top 7), defScope (top 7), [], []⟩
def dd_takes : He.DefD := ⟨("takes", none), "takes", "takes", defArgs (top 76), defBody (top 76), defScope (top 76), [], []⟩
def dd_is_convex : He.DefD := ⟨("is_convex", none), "is_convex", "is_convex", defArgs (top 79), defBody (top 79), defScope (top 79), [], []⟩
def dd_slopes_along : He.DefD := ⟨("slopes_along", none), "slopes_along", "slopes_along", defArgs (top 77), defBody (top 77), defScope (top 77), [], []⟩
def dd_ways : He.DefD := ⟨("ways", none), "ways", "ways", defArgs (top 78), defBody (top 78), defScope (top 78), [], []⟩
def dd_meetings : He.DefD := ⟨("meetings", none), "meetings", "meetings", defArgs (top 71), defBody (top 71), defScope (top 71), [], []⟩
def dd_law_drawn : He.DefD := ⟨("_law_drawn", none), "_law_drawn", "_law_drawn", defArgs (top 82), defBody (top 82), defScope (top 82), [], []⟩
def dd_law_roll : He.DefD := ⟨("_law_roll", none), "_law_roll", "_law_roll", defArgs (top 83), defBody (top 83), defScope (top 83), [], []⟩
def dd_law_right_near : He.DefD := ⟨("_law_right_near", none), "_law_right_near", "_law_right_near", defArgs (top 85), defBody (top 85), defScope (top 85), [], []⟩
def dd_law_cell : He.DefD := ⟨("_law_cell", none), "_law_cell", "_law_cell", defArgs (top 81), defBody (top 81), defScope (top 81), [], []⟩
def dd_law_rounds : He.DefD := ⟨("_law_rounds", none), "_law_rounds", "_law_rounds", defArgs (top 84), defBody (top 84), defScope (top 84), [], []⟩
def dd_law : He.DefD := ⟨("law", none), "law", "law", defArgs (top 86), defBody (top 86), defScope (top 86), [], []⟩
def faL : List He.Fa := [.glo "turns", .glo "sign_of", .glo "sign_at", .glo "turns_at", .glo "count_roots", .glo "divisor", .glo "lowest", .glo "between", .glo "content", .glo "trimmed", .glo "row_rest", .glo "slope_of", .glo "chain_of", .glo "primitive", .glo "row_quotient", .glo "row_divisor", .glo "simple", .glo "number_in", .glo "row_sum", .glo "form_of", .glo "joined", .glo "is_less", .glo "place_between", .glo "places_between", .glo "row_product", .glo "put_in", .glo "value_at", .glo "compared", .glo "sorted_roots", .glo "bound_of", .glo "roots_of", .glo "led_into", .glo "crossings", .glo "put_together", .glo "bent_of", .glo "parts_of", .glo "degree_of", .glo "highest", .glo "size_of", .glo "is_whole", .glo "is_shaped", .glo "is_curve", .glo "need_curve", .glo "form", .glo "without_repeats", .glo "sign_at_root", .glo "cuts_of", .glo "signs_along", .glo "signs", .glo "floor_of", .glo "nearest_top", .glo "is_within", .glo "simplest_in", .glo "stretch_of", .glo "gap_of", .glo "need_two", .glo "parting", .glo "zeros_in", .glo "is_fraction", .glo "takes", .glo "is_convex", .glo "slopes_along", .glo "ways", .glo "meetings", .glo "_law_drawn", .glo "_law_roll", .glo "_law_right_near", .glo "_law_cell", .glo "_law_rounds", .glo "law", .glo "PAIRS", .int "MOST_PARTS" 15, .int "MOST_DEGREE" 6, .glo "InvalidCurve", .exc "InvalidCurve", .glo "InvalidNumber", .exc "InvalidNumber", .glo "Root", .cls "Root", .mkr "Root", .glo "Bent", .cls "Bent", .mkr "Bent", .meth "Root" "halve", .meth "Bent" "__init__", .meth "Root" "against", .meth "Bent" "row_at", .meth "Root" "__init__", .noat "Bent" "roots", .noat "Bent" "rows", .noat "Root" "high", .noat "Root" "low", .noat "Root" "chain", .noat "Root" "row", .free "abs", .free "len", .free "range", .free "max", .free "min", .free "sum", .free "any", .free "all", .free "list", .free "tuple", .free "enumerate", .free "isinstance", .free "sorted", .free "int", .free "bool", .free "str", .free "ValueError"]
def fnL0 : List He.DefD := [dd_turns, dd_sign_of, dd_sign_at, dd_turns_at, dd_count_roots, dd_divisor, dd_lowest, dd_between, dd_Root_halve, dd_content, dd_trimmed, dd_row_rest, dd_slope_of, dd_chain_of]
def fnL1 : List He.DefD := [dd_primitive, dd_row_quotient, dd_row_divisor, dd_simple, dd_number_in, dd_row_sum, dd_form_of, dd_Bent_init, dd_joined, dd_is_less, dd_place_between, dd_places_between, dd_row_product, dd_put_in]
def fnL2 : List He.DefD := [dd_Root_against, dd_Bent_row_at, dd_value_at, dd_compared, dd_sorted_roots, dd_Root_init, dd_bound_of, dd_roots_of, dd_led_into, dd_crossings, dd_put_together, dd_bent_of, dd_parts_of, dd_degree_of]
def fnL3 : List He.DefD := [dd_highest, dd_size_of, dd_is_whole, dd_is_shaped, dd_is_curve, dd_need_curve, dd_form, dd_without_repeats, dd_sign_at_root, dd_cuts_of, dd_signs_along, dd_signs, dd_floor_of, dd_nearest_top]
def fnL4 : List He.DefD := [dd_is_within, dd_simplest_in, dd_stretch_of, dd_gap_of, dd_need_two, dd_parting, dd_zeros_in, dd_is_fraction, dd_takes, dd_is_convex, dd_slopes_along, dd_ways, dd_meetings, dd_law_drawn]
def fnL5 : List He.DefD := [dd_law_roll, dd_law_right_near, dd_law_cell, dd_law_rounds, dd_law]
def parts : Pts := [(faL, []), ([], fnL0), ([], fnL1), ([], fnL2), ([], fnL3), ([], fnL4), ([], fnL5)]
def tups : List (Str × List He.Dv) := [("PAIRS", [.str "sum", .str "times", .str "max", .str "min", .str "into"])]
def nm0 : List PySem.Str := ["divisor", "lowest", "is_less", "between", "sign_of", "is_whole", "is_fraction", "trimmed", "row_sum", "row_product", "put_in", "content", "primitive", "row_rest", "row_divisor", "row_quotient", "slope_of", "sign_at", "value_at", "simple", "chain_of", "turns", "turns_at", "count_roots", "Root", "bound_of", "roots_of", "compared", "sorted_roots", "place_between"]
def nm1 : List PySem.Str := ["places_between", "number_in", "sign_at_root", "CurveError", "InvalidCurve", "InvalidNumber", "MOST_PARTS", "MOST_DEGREE", "PAIRS", "is_shaped", "parts_of", "size_of", "degree_of", "is_curve", "highest", "need_curve", "need_two", "Bent", "joined", "crossings", "put_together", "led_into", "bent_of", "form_of", "form", "gap_of", "cuts_of", "signs_along", "stretch_of", "floor_of"]
def nm2 : List PySem.Str := ["is_within", "nearest_top", "simplest_in", "parting", "meetings", "zeros_in", "without_repeats", "signs", "takes", "slopes_along", "ways", "is_convex", "_law_cell", "_law_drawn", "_law_roll", "_law_rounds", "_law_right_near"]
def names : List PySem.Str := nm0 ++ nm1 ++ nm2
abbrev R : PySem.W.OpenRow := PySem.W.OpenLaw.row PySem.Challenge.rw_bentcurves_k16_whole_close_places
abbrev hk : PySem.W.Hook := hookP 4 parts tups
def ob (s : PySem.W.SharedT) : Bool × List He.AlD := obsP 4 parts tups (HandSHeadRun.getT s)
theorem ob_eq (s : PySem.W.SharedT) : ob s = hk.obs s.abs := obsP_eq s
abbrev Q0 : Program := PySem.W.view R.prog [86]
theorem run_a (w : World) (os : OsState) : (HandSHeadRun.endF (HandSHeadRun.stepQ (HandSHeadRun.denQ HandSHeadRun.tabQ) R.prog w) 4000 R.prog w os).map (fun s => (HandSHeadRun.looksF R.prog (PySem.W.boot_heap w.params) s.abs, HandSHeadRun.seenQ Q0 names (importedModules R.prog.main.body) (fun s => PySem.W.xlAt Q0 [] s && PySem.W.recOk R.toRowW.records s) s.abs)) = some (true, (PySem.W.openGood Q0 names)) := by kernel_rfl
theorem run_b (w : World) (os : OsState) : (HandSHeadRun.endF (HandSHeadRun.stepQ (HandSHeadRun.denQ HandSHeadRun.tabQ) R.prog w) 4000 R.prog w os).map (fun s => ob s) = some (true, parts.map fun p => He.valD p.2) := by kernel_rfl
theorem run_eq (w : World) : HandSHeadRun.RunEq R Q0 hk ob 4000 names w := fun os => map_three (run_a w os) (run_b w os)
end Bc

set_option maxRecDepth 100000
set_option maxHeartbeats 0
namespace Bc
open PySem PySem.Spec
open PyProof.Rows L2
variable {M : Hp → Hp → Prop} [g : GB M] {K : PySem.W.Frag} {CA : Str → Addr}
theorem sc_turns : FnScope ["signs", "one", "at"] ["signs"] (defScope (top 23)) := ⟨rfl, rfl, rfl, by decide +kernel, rfl, by decide +kernel, by decide +kernel⟩
theorem d_turns {P : Program} {w : World} {mg : Str → Option Value} {base : Heap} (C : Cn M K) (Cq : CnOk mg C) (Cf : Kg K mg CA) (B : Free mg) (Y : Pyl P K) (A : Df K mg CA) : DefOk P w K mg base 1 "turns" ["signs"] (spD M K (s_turns C Cf.toKf)) := by
  refine DefAt.okSF (N := ["signs", "one", "at"]) (ps := ["signs"]) (k := 0) (L := fun as => (L_turns C Cf.toKf)) A.turns sc_turns ?_ ?_
  · exact (fun _ _ _ _ _ _ us hl => match us, hl with | [_], _ => rfl)
  · intro as f cdv Ar outer s H E hr
    have nd := sc_turns.nd
    have tk := takes_of (X := ctx P w K mg base ["signs", "one", "at"] "turns" (defScope (top 23)) f cdv Ar outer s H E) (E := E) rfl rfl rfl rfl
    have px : Passes (L2.CX P w) (ctx P w K mg base ["signs", "one", "at"] "turns" (defScope (top 23)) f cdv Ar outer s H E) E := passes_call tk fun _ _ _ _ h => h
    refine pss_as (pss_cons (ps_set (i := 0) nd rfl (by first | exact Or.inl rfl | exact Or.inr rfl) (pe_lc (own := [("one", 1)]) (by rfl) nd (pi_seq (pv 0)) (blkOk_by (own := [("one", 1)]) (by rfl)) (fun _ _ _ _ _ => (pg_name (i := 1) nd rfl (by first | exact Or.inl rfl | exact Or.inr rfl))) (fun _ _ _ _ _ => (pts_one (pt_cmpR (kb_ne (K := K) rfl hr.units) (pv 1) pe_int (nomark _)))) (fun _ _ _ _ _ => (pv 1))))
      (pss_one (ps_ret (pe_callB call_len rfl B.len bt_len (pa_cons (pe_lc (own := [("at", 2)]) (by rfl) nd (pi_range1 rfl B.range (pa_cons (pe_op op_sub (pe_callB call_len rfl B.len bt_len (pa_cons (pv 0) pa_nil)) pe_int) pa_nil)) (blkOk_by (own := [("at", 2)]) (by rfl)) (fun _ _ _ _ _ => (pg_name (i := 2) nd rfl (by first | exact Or.inl rfl | exact Or.inr rfl))) (fun _ _ _ _ _ => (pts_one (pt_cmpR (kb_ne (K := K) rfl hr.units) (pe_ix (kb_ix (K := K) rfl) (pv 0) (pv 2) (fun _ _ => rfl)) (pe_ix (kb_ix (K := K) rfl) (pv 0) (pe_op (kb_add (K := K) rfl) (pv 2) pe_int) (fun _ _ => rfl)) (nomark _)))) (fun _ _ _ _ _ => pe_int)) pa_nil))))) ?_
    dsimp only [L_turns, denS, den, denG, gsOf] <;> rfl
theorem sc_sign_of : FnScope ["number"] ["number"] (defScope (top 5)) := ⟨rfl, rfl, rfl, by decide +kernel, rfl, by decide +kernel, by decide +kernel⟩
theorem d_sign_of {P : Program} {w : World} {mg : Str → Option Value} {base : Heap} (C : Cn M K) (Cq : CnOk mg C) (Cf : Kg K mg CA) (B : Free mg) (Y : Pyl P K) (A : Df K mg CA) : DefOk P w K mg base 1 "sign_of" ["number"] (spD M K (s_sign_of C Cf.toKf)) := by
  refine DefAt.okSF (N := ["number"]) (ps := ["number"]) (k := 0) (L := fun as => (L_sign_of C Cf.toKf)) A.sign_of sc_sign_of ?_ ?_
  · exact (fun _ _ _ _ _ _ us hl => match us, hl with | [_], _ => rfl)
  · intro as f cdv Ar outer s H E hr
    have nd := sc_sign_of.nd
    have tk := takes_of (X := ctx P w K mg base ["number"] "sign_of" (defScope (top 5)) f cdv Ar outer s H E) (E := E) rfl rfl rfl rfl
    have px : Passes (L2.CX P w) (ctx P w K mg base ["number"] "sign_of" (defScope (top 5)) f cdv Ar outer s H E) E := passes_call tk fun _ _ _ _ h => h
    refine pss_as (pss_one (ps_ret (pe_ifExp (pt_cmpR op_gt (pv 0) pe_int (nomark _)) pe_int (pe_ifExp (pt_cmpR op_lt (pv 0) pe_int (nomark _)) (pe_un un_neg pe_int) pe_int)))) ?_
    dsimp only [L_sign_of, denS, den, denG, gsOf] <;> rfl
theorem sc_sign_at : FnScope ["row", "place", "found", "power", "part"] ["row", "place"] (defScope (top 19)) := ⟨rfl, rfl, rfl, by decide +kernel, rfl, by decide +kernel, by decide +kernel⟩
theorem d_sign_at {P : Program} {w : World} {mg : Str → Option Value} {base : Heap} (C : Cn M K) (Cq : CnOk mg C) (Cf : Kg K mg CA) (B : Free mg) (Y : Pyl P K) (A : Df K mg CA) : DefOk P w K mg base 2 "sign_at" ["row", "place"] (spD M K (s_sign_at C Cf.toKf)) := by
  have D_sign_of := d_sign_of (P := P) (w := w) (base := base) C Cq Cf B Y A
  refine DefAt.okSF (N := ["row", "place", "found", "power", "part"]) (ps := ["row", "place"]) (k := 1) (L := fun as => (L_sign_at C Cf.toKf)) A.sign_at sc_sign_at ?_ ?_
  · exact (fun _ _ _ _ _ _ us hl => match us, hl with | [_, _], _ => rfl)
  · intro as f cdv Ar outer s H E hr
    have nd := sc_sign_at.nd
    have tk := takes_of (X := ctx P w K mg base ["row", "place", "found", "power", "part"] "sign_at" (defScope (top 19)) f cdv Ar outer s H E) (E := E) rfl rfl rfl rfl
    have px : Passes (L2.CX P w) (ctx P w K mg base ["row", "place", "found", "power", "part"] "sign_at" (defScope (top 19)) f cdv Ar outer s H E) E := passes_call tk fun _ _ _ _ h => h
    refine pss_as (pss_cons (ps_asg (pe_tup (pa_cons pe_int (pa_cons pe_int pa_nil))) (pg_tup rfl (pgs_cons (pg_name (i := 2) nd rfl (by first | exact Or.inl rfl | exact Or.inr rfl)) (pgs_cons (pg_name (i := 3) nd rfl (by first | exact Or.inl rfl | exact Or.inr rfl)) pgs_nil))))
      (pss_cons (ps_for (passes_of rfl) rfl (pi_seq (pe_sliceS (pv 0) po_none po_none (po_some (pe_un un_neg pe_int)))) (pg_name (i := 4) nd rfl (by first | exact Or.inl rfl | exact Or.inr rfl)) (pss_one (ps_par (i := 2) (j := 3) rfl nd rfl rfl (by decide) rfl rfl (pa_cons (pe_op op_addU (pe_op op_mulU (pv 2) (pe_ix ix_seq (pv 1) pe_int (fun _ _ => rfl))) (pe_op op_mulU (pv 4) (pv 3))) (pa_cons (pe_op op_mulU (pv 3) (pe_ix ix_seq (pv 1) pe_int (fun _ _ => rfl))) pa_nil)) (by rfl))))
      (pss_one (ps_ret (pe_def D_sign_of (hr.mono (by first | decide | omega)) px (pa_cons (pv 2) pa_nil)))))) ?_
    dsimp only [L_sign_at, denS, den, denG, gsOf] <;> rfl
theorem sc_turns_at : FnScope ["chain", "place", "row"] ["chain", "place"] (defScope (top 24)) := ⟨rfl, rfl, rfl, by decide +kernel, rfl, by decide +kernel, by decide +kernel⟩
theorem d_turns_at {P : Program} {w : World} {mg : Str → Option Value} {base : Heap} (C : Cn M K) (Cq : CnOk mg C) (Cf : Kg K mg CA) (B : Free mg) (Y : Pyl P K) (A : Df K mg CA) : DefOk P w K mg base 3 "turns_at" ["chain", "place"] (spD M K (s_turns_at C Cf.toKf)) := by
  have D_turns := d_turns (P := P) (w := w) (base := base) C Cq Cf B Y A
  have D_sign_at := d_sign_at (P := P) (w := w) (base := base) C Cq Cf B Y A
  have D_sign_of := d_sign_of (P := P) (w := w) (base := base) C Cq Cf B Y A
  refine DefAt.okSF (N := ["chain", "place", "row"]) (ps := ["chain", "place"]) (k := 2) (L := fun as => (L_turns_at C Cf.toKf)) A.turns_at sc_turns_at ?_ ?_
  · exact (fun _ _ _ _ _ _ us hl => match us, hl with | [_, _], _ => rfl)
  · intro as f cdv Ar outer s H E hr
    have nd := sc_turns_at.nd
    have tk := takes_of (X := ctx P w K mg base ["chain", "place", "row"] "turns_at" (defScope (top 24)) f cdv Ar outer s H E) (E := E) rfl rfl rfl rfl
    have px : Passes (L2.CX P w) (ctx P w K mg base ["chain", "place", "row"] "turns_at" (defScope (top 24)) f cdv Ar outer s H E) E := passes_call tk fun _ _ _ _ h => h
    refine pss_as (pss_cons (ps_if (pt_cmpR op_isU (pv 1) pe_non (nomark _)) (pss_one (ps_ret (pe_def D_turns (hr.mono (by first | decide | omega)) px (pa_cons (pe_lc (own := [("row", 2)]) (by rfl) nd (pi_seq (pv 0)) (blkOk_by (own := [("row", 2)]) (by rfl)) (fun _ _ _ _ _ => (pg_name (i := 2) nd rfl (by first | exact Or.inl rfl | exact Or.inr rfl))) (fun _ _ _ _ _ => pts_nil) (fun _ _ _ _ _ => (pe_op (kb_mul (K := K) rfl) (pe_def D_sign_of (hr.mono (by first | decide | omega)) passL (pa_cons (pe_ix (kb_ix (K := K) rfl) (pv 2) (pe_un un_neg pe_int) (fun _ _ => rfl)) pa_nil)) (pe_ifExp (pt_cmpR (kb_eq (K := K) rfl hr.units) (pe_op op_modN (pe_callB (kb_len (K := K) rfl) rfl B.len bt_len (pa_cons (pv 2) pa_nil)) pe_int) pe_int (nomark _)) pe_int (pe_un un_neg pe_int))))) pa_nil)))) pss_nil)
      (pss_one (ps_ret (pe_def D_turns (hr.mono (by first | decide | omega)) px (pa_cons (pe_lc (own := [("row", 2)]) (by rfl) nd (pi_seq (pv 0)) (blkOk_by (own := [("row", 2)]) (by rfl)) (fun _ _ _ _ _ => (pg_name (i := 2) nd rfl (by first | exact Or.inl rfl | exact Or.inr rfl))) (fun _ _ _ _ _ => pts_nil) (fun _ _ _ _ _ => (pe_def D_sign_at (hr.mono (by first | decide | omega)) passL (pa_cons (pv 2) (pa_cons (pv 1) pa_nil))))) pa_nil))))) ?_
    dsimp only [L_turns_at, denS, den, denG, gsOf] <;> rfl
theorem sc_count_roots : FnScope ["chain", "low", "high"] ["chain", "low", "high"] (defScope (top 25)) := ⟨rfl, rfl, rfl, by decide +kernel, rfl, by decide +kernel, by decide +kernel⟩
theorem d_count_roots {P : Program} {w : World} {mg : Str → Option Value} {base : Heap} (C : Cn M K) (Cq : CnOk mg C) (Cf : Kg K mg CA) (B : Free mg) (Y : Pyl P K) (A : Df K mg CA) : DefOk P w K mg base 4 "count_roots" ["chain", "low", "high"] (spD M K (s_count_roots C Cf.toKf)) := by
  have D_turns_at := d_turns_at (P := P) (w := w) (base := base) C Cq Cf B Y A
  refine DefAt.okSF (N := ["chain", "low", "high"]) (ps := ["chain", "low", "high"]) (k := 3) (L := fun as => (L_count_roots C Cf.toKf)) A.count_roots sc_count_roots ?_ ?_
  · exact (fun _ _ _ _ _ _ us hl => match us, hl with | [_, _, _], _ => rfl)
  · intro as f cdv Ar outer s H E hr
    have nd := sc_count_roots.nd
    have tk := takes_of (X := ctx P w K mg base ["chain", "low", "high"] "count_roots" (defScope (top 25)) f cdv Ar outer s H E) (E := E) rfl rfl rfl rfl
    have px : Passes (L2.CX P w) (ctx P w K mg base ["chain", "low", "high"] "count_roots" (defScope (top 25)) f cdv Ar outer s H E) E := passes_call tk fun _ _ _ _ h => h
    refine pss_as (pss_one (ps_ret (pe_op op_sub (pe_def D_turns_at (hr.mono (by first | decide | omega)) px (pa_cons (pv 0) (pa_cons (pv 1) pa_nil))) (pe_def D_turns_at (hr.mono (by first | decide | omega)) px (pa_cons (pv 0) (pa_cons (pv 2) pa_nil)))))) ?_
    dsimp only [L_count_roots, denS, den, denG, gsOf] <;> rfl
theorem sc_divisor : FnScope ["one", "other"] ["one", "other"] (defScope (top 1)) := ⟨rfl, rfl, rfl, by decide +kernel, rfl, by decide +kernel, by decide +kernel⟩
theorem d_divisor {P : Program} {w : World} {mg : Str → Option Value} {base : Heap} (C : Cn M K) (Cq : CnOk mg C) (Cf : Kg K mg CA) (B : Free mg) (Y : Pyl P K) (A : Df K mg CA) : DefOk P w K mg base 1 "divisor" ["one", "other"] (spD M K (s_divisor C Cf.toKf)) := by
  refine DefAt.okSF (N := ["one", "other"]) (ps := ["one", "other"]) (k := 0) (L := fun as => (L_divisor C Cf.toKf (wts as))) A.divisor sc_divisor ?_ ?_
  · exact (fun _ _ _ _ _ _ us hl => match us, hl with | [_, _], _ => rfl)
  · intro as f cdv Ar outer s H E hr
    have nd := sc_divisor.nd
    have tk := takes_of (X := ctx P w K mg base ["one", "other"] "divisor" (defScope (top 1)) f cdv Ar outer s H E) (E := E) rfl rfl rfl rfl
    have px : Passes (L2.CX P w) (ctx P w K mg base ["one", "other"] "divisor" (defScope (top 1)) f cdv Ar outer s H E) E := passes_call tk fun _ _ _ _ h => h
    refine pss_as (pss_cons (ps_par (i := 0) (j := 1) rfl nd rfl rfl (by decide) rfl rfl (pa_cons (pe_callB call_abs rfl B.abs bt_abs (pa_cons (pv 0) pa_nil)) (pa_cons (pe_callB call_abs rfl B.abs bt_abs (pa_cons (pv 1) pa_nil)) pa_nil)) (by rfl))
      (pss_cons (ps_while (passes_of rfl) (pt_cmpR (op_neD hr.units) (pv 1) pe_int (nomark _)) (pss_one (ps_par (i := 0) (j := 1) rfl nd rfl rfl (by decide) rfl rfl (pa_cons (pv 1) (pa_cons (pe_op op_modN (pv 0) (pv 1)) pa_nil)) (by rfl))))
      (pss_one (ps_ret (pv 0))))) ?_
    dsimp only [L_divisor, denS, den, denG, gsOf] <;> rfl
theorem sc_lowest : FnScope ["top", "bottom", "common"] ["top", "bottom"] (defScope (top 2)) := ⟨rfl, rfl, rfl, by decide +kernel, rfl, by decide +kernel, by decide +kernel⟩
theorem d_lowest {P : Program} {w : World} {mg : Str → Option Value} {base : Heap} (C : Cn M K) (Cq : CnOk mg C) (Cf : Kg K mg CA) (B : Free mg) (Y : Pyl P K) (A : Df K mg CA) : DefOk P w K mg base 41 "lowest" ["top", "bottom"] (spD M K (s_lowest C Cf.toKf)) := by
  have D_divisor := d_divisor (P := P) (w := w) (base := base) C Cq Cf B Y A
  refine DefAt.okSF (N := ["top", "bottom", "common"]) (ps := ["top", "bottom"]) (k := 40) (L := fun as => (L_lowest C Cf.toKf)) A.lowest sc_lowest ?_ ?_
  · exact (fun _ _ _ _ _ _ us hl => match us, hl with | [_, _], _ => rfl)
  · intro as f cdv Ar outer s H E hr
    have nd := sc_lowest.nd
    have tk := takes_of (X := ctx P w K mg base ["top", "bottom", "common"] "lowest" (defScope (top 2)) f cdv Ar outer s H E) (E := E) rfl rfl rfl rfl
    have px : Passes (L2.CX P w) (ctx P w K mg base ["top", "bottom", "common"] "lowest" (defScope (top 2)) f cdv Ar outer s H E) E := passes_call tk fun _ _ _ _ h => h
    refine pss_as (pss_cons (ps_set (i := 2) nd rfl (by first | exact Or.inl rfl | exact Or.inr rfl) (pe_def D_divisor (hr.mono (by first | decide | omega)) px (pa_cons (pv 0) (pa_cons (pv 1) pa_nil))))
      (pss_cons (ps_set (i := 2) nd rfl (by first | exact Or.inl rfl | exact Or.inr rfl) (pe_ifExp (pt_cmpR op_lt (pv 1) pe_int (nomark _)) (pe_un un_neg (pv 2)) (pv 2)))
      (pss_one (ps_ret (pe_tup (pa_cons (pe_op (op_fdivP Y (hr.mono (by first | decide | omega)) rfl rfl rfl) (pv 0) (pv 2)) (pa_cons (pe_op (op_fdivP Y (hr.mono (by first | decide | omega)) rfl rfl rfl) (pv 1) (pv 2)) pa_nil))))))) ?_
    dsimp only [L_lowest, denS, den, denG, gsOf] <;> rfl
theorem sc_between : FnScope ["one", "other"] ["one", "other"] (defScope (top 4)) := ⟨rfl, rfl, rfl, by decide +kernel, rfl, by decide +kernel, by decide +kernel⟩
theorem d_between {P : Program} {w : World} {mg : Str → Option Value} {base : Heap} (C : Cn M K) (Cq : CnOk mg C) (Cf : Kg K mg CA) (B : Free mg) (Y : Pyl P K) (A : Df K mg CA) : DefOk P w K mg base 42 "between" ["one", "other"] (spD M K (s_between C Cf.toKf)) := by
  have D_lowest := d_lowest (P := P) (w := w) (base := base) C Cq Cf B Y A
  refine DefAt.okSF (N := ["one", "other"]) (ps := ["one", "other"]) (k := 41) (L := fun as => (L_between C Cf.toKf)) A.between sc_between ?_ ?_
  · exact (fun _ _ _ _ _ _ us hl => match us, hl with | [_, _], _ => rfl)
  · intro as f cdv Ar outer s H E hr
    have nd := sc_between.nd
    have tk := takes_of (X := ctx P w K mg base ["one", "other"] "between" (defScope (top 4)) f cdv Ar outer s H E) (E := E) rfl rfl rfl rfl
    have px : Passes (L2.CX P w) (ctx P w K mg base ["one", "other"] "between" (defScope (top 4)) f cdv Ar outer s H E) E := passes_call tk fun _ _ _ _ h => h
    refine pss_as (pss_one (ps_ret (pe_def D_lowest (hr.mono (by first | decide | omega)) px (pa_cons (pe_op op_addU (pe_op op_mulU (pe_ix ix_seq (pv 0) pe_int (fun _ _ => rfl)) (pe_ix ix_seq (pv 1) pe_int (fun _ _ => rfl))) (pe_op op_mulU (pe_ix ix_seq (pv 1) pe_int (fun _ _ => rfl)) (pe_ix ix_seq (pv 0) pe_int (fun _ _ => rfl)))) (pa_cons (pe_op op_mulU (pe_op op_mulU pe_int (pe_ix ix_seq (pv 0) pe_int (fun _ _ => rfl))) (pe_ix ix_seq (pv 1) pe_int (fun _ _ => rfl))) pa_nil))))) ?_
    dsimp only [L_between, denS, den, denG, gsOf] <;> rfl
theorem sc_Root_halve : FnScope ["self", "middle"] ["self"] (defScope (inClass (top 27) 1)) := ⟨rfl, rfl, rfl, by decide +kernel, rfl, by decide +kernel, by decide +kernel⟩
theorem d_Root_halve {P : Program} {w : World} {mg : Str → Option Value} {base : Heap} (C : Cn M K) (Cq : CnOk mg C) (Cf : Kg K mg CA) (B : Free mg) (Y : Pyl P K) (A : Df K mg CA) : MethOk P w K mg base 43 (CA "Root") "halve" ["self"] (spZ M K CA (s_Root_halve C Cf.toKf)) := by
  have D_count_roots := d_count_roots (P := P) (w := w) (base := base) C Cq Cf B Y A
  have D_between := d_between (P := P) (w := w) (base := base) C Cq Cf B Y A
  refine MethAt.okZF (N := ["self", "middle"]) (ps := ["self"]) (k := 42) (L := fun S as => (L_Root_halve C Cf.toKf)) A.Root_halve sc_Root_halve ?_ ?_
  · exact (fun _ _ _ _ _ _ us hl => match us, hl with | [_], _ => rfl)
  · intro S as f cdv Ar outer s H E hr
    have nd := sc_Root_halve.nd
    have tk := takes_of (X := ctx P w K mg base ["self", "middle"] "Root.halve" (defScope (inClass (top 27) 1)) f cdv Ar outer s H E) (E := E) rfl rfl rfl rfl
    have px : Passes (L2.CX P w) (ctx P w K mg base ["self", "middle"] "Root.halve" (defScope (inClass (top 27) 1)) f cdv Ar outer s H E) E := passes_call tk fun _ _ _ _ h => h
    refine pss_as (pss_cons (ps_set (i := 1) nd rfl (by first | exact Or.inl rfl | exact Or.inr rfl) (pe_def D_between (hr.mono (by first | decide | omega)) px (pa_cons (pe_fld (pv 0) rfl) (pa_cons (pe_fld (pv 0) rfl) pa_nil))))
      (pss_one (ps_if (pt_cmpR (op_eqD hr.units) (pe_def D_count_roots (hr.mono (by first | decide | omega)) px (pa_cons (pe_fld (pv 0) rfl) (pa_cons (pe_fld (pv 0) rfl) (pa_cons (pv 1) pa_nil)))) pe_int (nomark _)) (pss_one (ps_fld (pv 0) (pv 1) rfl)) (pss_one (ps_fld (pv 0) (pv 1) rfl))))) ?_
    dsimp only [L_Root_halve, denSz, denz, denAg, den, denG, gsOf] <;> rfl
theorem sc_content : FnScope ["row", "found", "part"] ["row"] (defScope (top 13)) := ⟨rfl, rfl, rfl, by decide +kernel, rfl, by decide +kernel, by decide +kernel⟩
theorem d_content {P : Program} {w : World} {mg : Str → Option Value} {base : Heap} (C : Cn M K) (Cq : CnOk mg C) (Cf : Kg K mg CA) (B : Free mg) (Y : Pyl P K) (A : Df K mg CA) : DefOk P w K mg base 2 "content" ["row"] (spD M K (s_content C Cf.toKf)) := by
  have D_divisor := d_divisor (P := P) (w := w) (base := base) C Cq Cf B Y A
  refine DefAt.okSF (N := ["row", "found", "part"]) (ps := ["row"]) (k := 1) (L := fun as => (L_content C Cf.toKf)) A.content sc_content ?_ ?_
  · exact (fun _ _ _ _ _ _ us hl => match us, hl with | [_], _ => rfl)
  · intro as f cdv Ar outer s H E hr
    have nd := sc_content.nd
    have tk := takes_of (X := ctx P w K mg base ["row", "found", "part"] "content" (defScope (top 13)) f cdv Ar outer s H E) (E := E) rfl rfl rfl rfl
    have px : Passes (L2.CX P w) (ctx P w K mg base ["row", "found", "part"] "content" (defScope (top 13)) f cdv Ar outer s H E) E := passes_call tk fun _ _ _ _ h => h
    refine pss_as (pss_cons (ps_set (i := 1) nd rfl (by first | exact Or.inl rfl | exact Or.inr rfl) pe_int)
      (pss_cons (ps_for (passes_of rfl) rfl (pi_seq (pv 0)) (pg_name (i := 2) nd rfl (by first | exact Or.inl rfl | exact Or.inr rfl)) (pss_one (ps_set (i := 1) nd rfl (by first | exact Or.inl rfl | exact Or.inr rfl) (pe_def D_divisor (hr.mono (by first | decide | omega)) px (pa_cons (pv 1) (pa_cons (pv 2) pa_nil))))))
      (pss_one (ps_ret (pv 1))))) ?_
    dsimp only [L_content, denS, den, denG, gsOf] <;> rfl
theorem sc_trimmed : FnScope ["row"] ["row"] (defScope (top 9)) := ⟨rfl, rfl, rfl, by decide +kernel, rfl, by decide +kernel, by decide +kernel⟩
theorem d_trimmed {P : Program} {w : World} {mg : Str → Option Value} {base : Heap} (C : Cn M K) (Cq : CnOk mg C) (Cf : Kg K mg CA) (B : Free mg) (Y : Pyl P K) (A : Df K mg CA) : DefOk P w K mg base 1 "trimmed" ["row"] (spD M K (s_trimmed C Cf.toKf)) := by
  refine DefAt.okSF (N := ["row"]) (ps := ["row"]) (k := 0) (L := fun as => (L_trimmed C Cf.toKf (wts as))) A.trimmed sc_trimmed ?_ ?_
  · exact (fun _ _ _ _ _ _ us hl => match us, hl with | [_], _ => rfl)
  · intro as f cdv Ar outer s H E hr
    have nd := sc_trimmed.nd
    have tk := takes_of (X := ctx P w K mg base ["row"] "trimmed" (defScope (top 9)) f cdv Ar outer s H E) (E := E) rfl rfl rfl rfl
    have px : Passes (L2.CX P w) (ctx P w K mg base ["row"] "trimmed" (defScope (top 9)) f cdv Ar outer s H E) E := passes_call tk fun _ _ _ _ h => h
    refine pss_as (pss_cons (ps_set (i := 0) nd rfl (by first | exact Or.inl rfl | exact Or.inr rfl) (pe_callTy call_list_of rfl B.list bt_list (pa_cons (pv 0) pa_nil)))
      (pss_cons (ps_while (passes_of rfl) (PW.pt (pw_and (pt_cmpR (op_neD hr.units) (pv 0) (pe_lst pa_nil) (nomark _)) (pw_and1 (pt_cmpR (op_eqD hr.units) (pe_ix ix_seq (pv 0) (pe_un un_neg pe_int) (fun _ _ => rfl)) pe_int (nomark _))))) (pss_one (ps_expr (pe_bm0 PySem.F.plainAttrs_list PySem.F.slot_list_pop PySem.F.type_list_pop mt_pop (pv 0)))))
      (pss_one (ps_ret (pe_callTy call_tuple_of rfl B.tuple bt_tuple (pa_cons (pv 0) pa_nil)))))) ?_
    dsimp only [L_trimmed, denS, den, denG, gsOf] <;> rfl
theorem sc_row_rest : FnScope ["one", "other", "lead", "shift", "part", "at"] ["one", "other"] (defScope (top 15)) := ⟨rfl, rfl, rfl, by decide +kernel, rfl, by decide +kernel, by decide +kernel⟩
theorem d_row_rest {P : Program} {w : World} {mg : Str → Option Value} {base : Heap} (C : Cn M K) (Cq : CnOk mg C) (Cf : Kg K mg CA) (B : Free mg) (Y : Pyl P K) (A : Df K mg CA) : DefOk P w K mg base 2 "row_rest" ["one", "other"] (spD M K (s_row_rest C Cf.toKf)) := by
  have D_trimmed := d_trimmed (P := P) (w := w) (base := base) C Cq Cf B Y A
  refine DefAt.okSF (N := ["one", "other", "lead", "shift", "part", "at"]) (ps := ["one", "other"]) (k := 1) (L := fun as => (L_row_rest C Cf.toKf (wts as))) A.row_rest sc_row_rest ?_ ?_
  · exact (fun _ _ _ _ _ _ us hl => match us, hl with | [_, _], _ => rfl)
  · intro as f cdv Ar outer s H E hr
    have nd := sc_row_rest.nd
    have tk := takes_of (X := ctx P w K mg base ["one", "other", "lead", "shift", "part", "at"] "row_rest" (defScope (top 15)) f cdv Ar outer s H E) (E := E) rfl rfl rfl rfl
    have px : Passes (L2.CX P w) (ctx P w K mg base ["one", "other", "lead", "shift", "part", "at"] "row_rest" (defScope (top 15)) f cdv Ar outer s H E) E := passes_call tk fun _ _ _ _ h => h
    refine pss_as (pss_cons (ps_set (i := 0) nd rfl (by first | exact Or.inl rfl | exact Or.inr rfl) (pe_callTy call_list_of rfl B.list bt_list (pa_cons (pv 0) pa_nil)))
      (pss_cons (ps_while (passes_of rfl) (pt_cmpR op_ge (pe_callB call_len rfl B.len bt_len (pa_cons (pv 0) pa_nil)) (pe_callB call_len rfl B.len bt_len (pa_cons (pv 1) pa_nil)) (nomark _)) (pss_cons (ps_par (i := 2) (j := 3) rfl nd rfl rfl (by decide) rfl rfl (pa_cons (pe_ix ix_seq (pv 0) (pe_un un_neg pe_int) (fun _ _ => rfl)) (pa_cons (pe_op op_sub (pe_callB call_len rfl B.len bt_len (pa_cons (pv 0) pa_nil)) (pe_callB call_len rfl B.len bt_len (pa_cons (pv 1) pa_nil))) pa_nil)) (by rfl))
      (pss_cons (ps_setLc (i := 0) rfl nd rfl rfl (by with_unfolding_all rfl) (pi_seq (pv 0)) (blkOk_by (own := [("part", 4)]) (by rfl)) (fun _ _ _ _ _ => (pg_name (i := 4) nd rfl (by first | exact Or.inl rfl | exact Or.inr rfl))) (fun _ _ _ _ _ => pts_nil) (fun _ _ _ _ _ => (pe_op (kb_mul (K := K) rfl) (pv 4) (pe_ix (kb_ix (K := K) rfl) (pv 1) (pe_un un_neg pe_int) (fun _ _ => rfl)))))
      (pss_cons (ps_for (passes_of rfl) rfl (pi_enumU rfl B.enumerate (pa_cons (pv 1) pa_nil)) (pg_tup rfl (pgs_cons (pg_name (i := 5) nd rfl (by first | exact Or.inl rfl | exact Or.inr rfl)) (pgs_cons (pg_name (i := 4) nd rfl (by first | exact Or.inl rfl | exact Or.inr rfl)) pgs_nil))) (pss_one (ps_asg (pe_op op_sub (pe_ix ix_seq (pv 0) (pe_op op_addU (pv 5) (pv 3)) (fun _ _ => rfl)) (pe_op op_mulU (pv 2) (pv 4))) (pg_sub (pv 0) (pe_op op_addU (pv 5) (pv 3)) set_list))))
      (pss_one (ps_set (i := 0) nd rfl (by first | exact Or.inl rfl | exact Or.inr rfl) (pe_callTy call_list_of rfl B.list bt_list (pa_cons (pe_def D_trimmed (hr.mono (by first | decide | omega)) px (pa_cons (pv 0) pa_nil)) pa_nil))))))))
      (pss_one (ps_ret (pe_callTy call_tuple_of rfl B.tuple bt_tuple (pa_cons (pv 0) pa_nil)))))) ?_
    dsimp only [L_row_rest, denS, den, denG, gsOf] <;> rfl
theorem sc_slope_of : FnScope ["row", "at", "part"] ["row"] (defScope (top 18)) := ⟨rfl, rfl, rfl, by decide +kernel, rfl, by decide +kernel, by decide +kernel⟩
theorem d_slope_of {P : Program} {w : World} {mg : Str → Option Value} {base : Heap} (C : Cn M K) (Cq : CnOk mg C) (Cf : Kg K mg CA) (B : Free mg) (Y : Pyl P K) (A : Df K mg CA) : DefOk P w K mg base 1 "slope_of" ["row"] (spD M K (s_slope_of C Cf.toKf)) := by
  refine DefAt.okSF (N := ["row", "at", "part"]) (ps := ["row"]) (k := 0) (L := fun as => (L_slope_of C Cf.toKf)) A.slope_of sc_slope_of ?_ ?_
  · exact (fun _ _ _ _ _ _ us hl => match us, hl with | [_], _ => rfl)
  · intro as f cdv Ar outer s H E hr
    have nd := sc_slope_of.nd
    have tk := takes_of (X := ctx P w K mg base ["row", "at", "part"] "slope_of" (defScope (top 18)) f cdv Ar outer s H E) (E := E) rfl rfl rfl rfl
    have px : Passes (L2.CX P w) (ctx P w K mg base ["row", "at", "part"] "slope_of" (defScope (top 18)) f cdv Ar outer s H E) E := passes_call tk fun _ _ _ _ h => h
    refine pss_as (pss_one (ps_ret (pe_callTy call_tuple_of rfl B.tuple bt_tuple (pa_cons (pe_slice sl_any (pe_lc (own := [("at", 1), ("part", 2)]) (by rfl) nd (pi_enumU rfl B.enumerate (pa_cons (pv 0) pa_nil)) (blkOk_by (own := [("at", 1), ("part", 2)]) (by rfl)) (fun _ _ _ _ _ => (kb_tup (K := K) (n := 2) rfl rfl (pgs_cons (pg_name (i := 1) nd rfl (by first | exact Or.inl rfl | exact Or.inr rfl)) (pgs_cons (pg_name (i := 2) nd rfl (by first | exact Or.inl rfl | exact Or.inr rfl)) pgs_nil)) rfl rfl)) (fun _ _ _ _ _ => pts_nil) (fun _ _ _ _ _ => (pe_op (kb_mul (K := K) rfl) (pv 1) (pv 2)))) (po_some pe_int) po_none) pa_nil)))) ?_
    dsimp only [L_slope_of, denS, den, denG, gsOf] <;> rfl
theorem sc_chain_of : FnScope ["row", "found", "last", "part", "left", "common"] ["row"] (defScope (top 22)) := ⟨rfl, rfl, rfl, by decide +kernel, rfl, by decide +kernel, by decide +kernel⟩
theorem d_chain_of {P : Program} {w : World} {mg : Str → Option Value} {base : Heap} (C : Cn M K) (Cq : CnOk mg C) (Cf : Kg K mg CA) (B : Free mg) (Y : Pyl P K) (A : Df K mg CA) : DefOk P w K mg base 41 "chain_of" ["row"] (spD M K (s_chain_of C Cf.toKf)) := by
  have D_content := d_content (P := P) (w := w) (base := base) C Cq Cf B Y A
  have D_row_rest := d_row_rest (P := P) (w := w) (base := base) C Cq Cf B Y A
  have D_slope_of := d_slope_of (P := P) (w := w) (base := base) C Cq Cf B Y A
  refine DefAt.okSF (N := ["row", "found", "last", "part", "left", "common"]) (ps := ["row"]) (k := 40) (L := fun as => (L_chain_of C Cf.toKf (wts as))) A.chain_of sc_chain_of ?_ ?_
  · exact (fun _ _ _ _ _ _ us hl => match us, hl with | [_], _ => rfl)
  · intro as f cdv Ar outer s H E hr
    have nd := sc_chain_of.nd
    have tk := takes_of (X := ctx P w K mg base ["row", "found", "last", "part", "left", "common"] "chain_of" (defScope (top 22)) f cdv Ar outer s H E) (E := E) rfl rfl rfl rfl
    have px : Passes (L2.CX P w) (ctx P w K mg base ["row", "found", "last", "part", "left", "common"] "chain_of" (defScope (top 22)) f cdv Ar outer s H E) E := passes_call tk fun _ _ _ _ h => h
    refine pss_as (pss_cons (ps_set (i := 1) nd rfl (by first | exact Or.inl rfl | exact Or.inr rfl) (pe_lst (pa_cons (pv 0) (pa_cons (pe_def D_slope_of (hr.mono (by first | decide | omega)) px (pa_cons (pv 0) pa_nil)) pa_nil))))
      (pss_cons (ps_while (passes_of rfl) (pt_cmpR (op_neD hr.units) (pe_ix ix_seq (pv 1) (pe_un un_neg pe_int) (fun _ _ => rfl)) (pe_tup pa_nil) (nomark _)) (pss_cons (ps_set (i := 2) nd rfl (by first | exact Or.inl rfl | exact Or.inr rfl) (pe_ifExp (pt_cmpR op_gt (pe_ix ix_seq (pe_ix ix_seq (pv 1) (pe_un un_neg pe_int) (fun _ _ => rfl)) (pe_un un_neg pe_int) (fun _ _ => rfl)) pe_int (nomark _)) (pe_ix ix_seq (pv 1) (pe_un un_neg pe_int) (fun _ _ => rfl)) (pe_callTy call_tuple_of rfl B.tuple bt_tuple (pa_cons (pe_lc (own := [("part", 3)]) (by rfl) nd (pi_seq (pe_ix ix_seq (pv 1) (pe_un un_neg pe_int) (fun _ _ => rfl))) (blkOk_by (own := [("part", 3)]) (by rfl)) (fun _ _ _ _ _ => (pg_name (i := 3) nd rfl (by first | exact Or.inl rfl | exact Or.inr rfl))) (fun _ _ _ _ _ => pts_nil) (fun _ _ _ _ _ => (pe_un un_neg (pv 3)))) pa_nil))))
      (pss_cons (ps_set (i := 4) nd rfl (by first | exact Or.inl rfl | exact Or.inr rfl) (pe_def D_row_rest (hr.mono (by first | decide | omega)) px (pa_cons (pe_ix ix_seq (pv 1) (pe_un un_neg pe_int) (fun _ _ => rfl)) (pa_cons (pv 2) pa_nil))))
      (pss_cons (ps_set (i := 5) nd rfl (by first | exact Or.inl rfl | exact Or.inr rfl) (pe_def D_content (hr.mono (by first | decide | omega)) px (pa_cons (pv 4) pa_nil)))
      (pss_one (ps_expr (pe_bm PySem.F.plainAttrs_list PySem.F.slot_list_append PySem.F.type_list_append mt_append (pv 1) (pa_cons (pe_callTy call_tuple_of rfl B.tuple bt_tuple (pa_cons (pe_lc (own := [("part", 3)]) (by rfl) nd (pi_seq (pv 4)) (blkOk_by (own := [("part", 3)]) (by rfl)) (fun _ _ _ _ _ => (pg_name (i := 3) nd rfl (by first | exact Or.inl rfl | exact Or.inr rfl))) (fun _ _ _ _ _ => pts_nil) (fun _ _ _ _ _ => (pe_op (kb_fdiv Y (hr.mono (by first | decide | omega)) rfl rfl rfl rfl rfl) (pe_un un_neg (pv 3)) (pv 5)))) pa_nil)) pa_nil))))))))
      (pss_one (ps_ret (pe_slice sl_any (pv 1) po_none (po_some (pe_un un_neg pe_int))))))) ?_
    dsimp only [L_chain_of, denS, den, denG, gsOf] <;> rfl
theorem sc_primitive : FnScope ["row", "common", "part"] ["row"] (defScope (top 14)) := ⟨rfl, rfl, rfl, by decide +kernel, rfl, by decide +kernel, by decide +kernel⟩
theorem d_primitive {P : Program} {w : World} {mg : Str → Option Value} {base : Heap} (C : Cn M K) (Cq : CnOk mg C) (Cf : Kg K mg CA) (B : Free mg) (Y : Pyl P K) (A : Df K mg CA) : DefOk P w K mg base 41 "primitive" ["row"] (spD M K (s_primitive C Cf.toKf)) := by
  have D_content := d_content (P := P) (w := w) (base := base) C Cq Cf B Y A
  refine DefAt.okSF (N := ["row", "common", "part"]) (ps := ["row"]) (k := 40) (L := fun as => (L_primitive C Cf.toKf)) A.primitive sc_primitive ?_ ?_
  · exact (fun _ _ _ _ _ _ us hl => match us, hl with | [_], _ => rfl)
  · intro as f cdv Ar outer s H E hr
    have nd := sc_primitive.nd
    have tk := takes_of (X := ctx P w K mg base ["row", "common", "part"] "primitive" (defScope (top 14)) f cdv Ar outer s H E) (E := E) rfl rfl rfl rfl
    have px : Passes (L2.CX P w) (ctx P w K mg base ["row", "common", "part"] "primitive" (defScope (top 14)) f cdv Ar outer s H E) E := passes_call tk fun _ _ _ _ h => h
    refine pss_as (pss_cons (ps_if (pt_cmpR (op_eqD hr.units) (pv 0) (pe_tup pa_nil) (nomark _)) (pss_one (ps_ret (pe_tup pa_nil))) pss_nil)
      (pss_cons (ps_set (i := 1) nd rfl (by first | exact Or.inl rfl | exact Or.inr rfl) (pe_ifExp (pt_cmpR op_gt (pe_ix ix_seq (pv 0) (pe_un un_neg pe_int) (fun _ _ => rfl)) pe_int (nomark _)) (pe_def D_content (hr.mono (by first | decide | omega)) px (pa_cons (pv 0) pa_nil)) (pe_un un_neg (pe_def D_content (hr.mono (by first | decide | omega)) px (pa_cons (pv 0) pa_nil)))))
      (pss_one (ps_ret (pe_callTy call_tuple_of rfl B.tuple bt_tuple (pa_cons (pe_lc (own := [("part", 2)]) (by rfl) nd (pi_seq (pv 0)) (blkOk_by (own := [("part", 2)]) (by rfl)) (fun _ _ _ _ _ => (pg_name (i := 2) nd rfl (by first | exact Or.inl rfl | exact Or.inr rfl))) (fun _ _ _ _ _ => pts_nil) (fun _ _ _ _ _ => (pe_op (kb_fdiv Y (hr.mono (by first | decide | omega)) rfl rfl rfl rfl rfl) (pv 2) (pv 1)))) pa_nil)))))) ?_
    dsimp only [L_primitive, denS, den, denG, gsOf] <;> rfl
theorem sc_row_quotient : FnScope ["one", "other", "found", "shift", "at", "part"] ["one", "other"] (defScope (top 17)) := ⟨rfl, rfl, rfl, by decide +kernel, rfl, by decide +kernel, by decide +kernel⟩
theorem d_row_quotient {P : Program} {w : World} {mg : Str → Option Value} {base : Heap} (C : Cn M K) (Cq : CnOk mg C) (Cf : Kg K mg CA) (B : Free mg) (Y : Pyl P K) (A : Df K mg CA) : DefOk P w K mg base 41 "row_quotient" ["one", "other"] (spZ M K CA (s_row_quotient C Cf.toKf)) := by
  have D_trimmed := d_trimmed (P := P) (w := w) (base := base) C Cq Cf B Y A
  refine DefAt.okZF (N := ["one", "other", "found", "shift", "at", "part"]) (ps := ["one", "other"]) (k := 40) (L := fun S as => (L_row_quotient C Cf.toKf 1000000000000)) A.row_quotient sc_row_quotient ?_ ?_
  · exact (fun _ _ _ _ _ _ us hl => match us, hl with | [_, _], _ => rfl)
  · intro S as f cdv Ar outer s H E hr
    have nd := sc_row_quotient.nd
    have tk := takes_of (X := ctx P w K mg base ["one", "other", "found", "shift", "at", "part"] "row_quotient" (defScope (top 17)) f cdv Ar outer s H E) (E := E) rfl rfl rfl rfl
    have px : Passes (L2.CX P w) (ctx P w K mg base ["one", "other", "found", "shift", "at", "part"] "row_quotient" (defScope (top 17)) f cdv Ar outer s H E) E := passes_call tk fun _ _ _ _ h => h
    refine pss_as (pss_cons (ps_par (i := 0) (j := 2) rfl nd rfl rfl (by decide) rfl rfl (pa_cons (pe_callTy call_list_of rfl B.list bt_list (pa_cons (pv 0) pa_nil)) (pa_cons (pe_op op_mulU (pe_lst (pa_cons pe_int pa_nil)) (pe_callB (call_max2 rfl) rfl B.max bt_max (pa_cons (pe_op op_addU (pe_op op_sub (pe_callB call_len rfl B.len bt_len (pa_cons (pv 0) pa_nil)) (pe_callB call_len rfl B.len bt_len (pa_cons (pv 1) pa_nil))) pe_int) (pa_cons pe_int pa_nil)))) pa_nil)) (by rfl))
      (pss_cons (ps_while (passes_of rfl) (pt_cmpR (op_neD hr.units) (pv 0) (pe_lst pa_nil) (nomark _)) (pss_cons (ps_set (i := 3) nd rfl (by first | exact Or.inl rfl | exact Or.inr rfl) (pe_op op_sub (pe_callB call_len rfl B.len bt_len (pa_cons (pv 0) pa_nil)) (pe_callB call_len rfl B.len bt_len (pa_cons (pv 1) pa_nil))))
      (pss_cons (ps_asg (pe_op (op_fdivP Y (hr.mono (by first | decide | omega)) rfl rfl rfl) (pe_ix ix_seq (pv 0) (pe_un un_neg pe_int) (fun _ _ => rfl)) (pe_ix ix_seq (pv 1) (pe_un un_neg pe_int) (fun _ _ => rfl))) (pg_sub (pv 2) (pv 3) set_list))
      (pss_cons (ps_for (passes_of rfl) rfl (pi_enumU rfl B.enumerate (pa_cons (pv 1) pa_nil)) (pg_tup rfl (pgs_cons (pg_name (i := 4) nd rfl (by first | exact Or.inl rfl | exact Or.inr rfl)) (pgs_cons (pg_name (i := 5) nd rfl (by first | exact Or.inl rfl | exact Or.inr rfl)) pgs_nil))) (pss_one (ps_asg (pe_op op_sub (pe_ix ix_seq (pv 0) (pe_op op_addU (pv 4) (pv 3)) (fun _ _ => rfl)) (pe_op op_mulU (pe_ix ix_seq (pv 2) (pv 3) (fun _ _ => rfl)) (pv 5))) (pg_sub (pv 0) (pe_op op_addU (pv 4) (pv 3)) set_list))))
      (pss_one (ps_set (i := 0) nd rfl (by first | exact Or.inl rfl | exact Or.inr rfl) (pe_callTy call_list_of rfl B.list bt_list (pa_cons (pe_def D_trimmed (hr.mono (by first | decide | omega)) px (pa_cons (pv 0) pa_nil)) pa_nil))))))))
      (pss_one (ps_ret (pe_def D_trimmed (hr.mono (by first | decide | omega)) px (pa_cons (pv 2) pa_nil)))))) ?_
    dsimp only [L_row_quotient, denSz, denz, denAg, den, denG, gsOf] <;> rfl
theorem sc_row_divisor : FnScope ["one", "other"] ["one", "other"] (defScope (top 16)) := ⟨rfl, rfl, rfl, by decide +kernel, rfl, by decide +kernel, by decide +kernel⟩
theorem d_row_divisor {P : Program} {w : World} {mg : Str → Option Value} {base : Heap} (C : Cn M K) (Cq : CnOk mg C) (Cf : Kg K mg CA) (B : Free mg) (Y : Pyl P K) (A : Df K mg CA) : DefOk P w K mg base 42 "row_divisor" ["one", "other"] (spD M K (s_row_divisor C Cf.toKf)) := by
  have D_primitive := d_primitive (P := P) (w := w) (base := base) C Cq Cf B Y A
  have D_row_rest := d_row_rest (P := P) (w := w) (base := base) C Cq Cf B Y A
  refine DefAt.okSF (N := ["one", "other"]) (ps := ["one", "other"]) (k := 41) (L := fun as => (L_row_divisor C Cf.toKf (wts as))) A.row_divisor sc_row_divisor ?_ ?_
  · exact (fun _ _ _ _ _ _ us hl => match us, hl with | [_, _], _ => rfl)
  · intro as f cdv Ar outer s H E hr
    have nd := sc_row_divisor.nd
    have tk := takes_of (X := ctx P w K mg base ["one", "other"] "row_divisor" (defScope (top 16)) f cdv Ar outer s H E) (E := E) rfl rfl rfl rfl
    have px : Passes (L2.CX P w) (ctx P w K mg base ["one", "other"] "row_divisor" (defScope (top 16)) f cdv Ar outer s H E) E := passes_call tk fun _ _ _ _ h => h
    refine pss_as (pss_cons (ps_par (i := 0) (j := 1) rfl nd rfl rfl (by decide) rfl rfl (pa_cons (pe_def D_primitive (hr.mono (by first | decide | omega)) px (pa_cons (pv 0) pa_nil)) (pa_cons (pe_def D_primitive (hr.mono (by first | decide | omega)) px (pa_cons (pv 1) pa_nil)) pa_nil)) (by rfl))
      (pss_cons (ps_while (passes_of rfl) (pt_cmpR (op_neD hr.units) (pv 1) (pe_tup pa_nil) (nomark _)) (pss_one (ps_par (i := 0) (j := 1) rfl nd rfl rfl (by decide) rfl rfl (pa_cons (pv 1) (pa_cons (pe_def D_primitive (hr.mono (by first | decide | omega)) px (pa_cons (pe_def D_row_rest (hr.mono (by first | decide | omega)) px (pa_cons (pv 0) (pa_cons (pv 1) pa_nil))) pa_nil)) pa_nil)) (by rfl))))
      (pss_one (ps_ret (pv 0))))) ?_
    dsimp only [L_row_divisor, denS, den, denG, gsOf] <;> rfl
theorem sc_simple : FnScope ["row", "common"] ["row"] (defScope (top 21)) := ⟨rfl, rfl, rfl, by decide +kernel, rfl, by decide +kernel, by decide +kernel⟩
theorem d_simple {P : Program} {w : World} {mg : Str → Option Value} {base : Heap} (C : Cn M K) (Cq : CnOk mg C) (Cf : Kg K mg CA) (B : Free mg) (Y : Pyl P K) (A : Df K mg CA) : DefOk P w K mg base 43 "simple" ["row"] (spD M K (s_simple C Cf.toKf)) := by
  have D_primitive := d_primitive (P := P) (w := w) (base := base) C Cq Cf B Y A
  have D_row_quotient := d_row_quotient (P := P) (w := w) (base := base) C Cq Cf B Y A
  have D_row_divisor := d_row_divisor (P := P) (w := w) (base := base) C Cq Cf B Y A
  have D_slope_of := d_slope_of (P := P) (w := w) (base := base) C Cq Cf B Y A
  refine DefAt.okSF (N := ["row", "common"]) (ps := ["row"]) (k := 42) (L := fun as => (L_simple C Cf.toKf)) A.simple sc_simple ?_ ?_
  · exact (fun _ _ _ _ _ _ us hl => match us, hl with | [_], _ => rfl)
  · intro as f cdv Ar outer s H E hr
    have nd := sc_simple.nd
    have tk := takes_of (X := ctx P w K mg base ["row", "common"] "simple" (defScope (top 21)) f cdv Ar outer s H E) (E := E) rfl rfl rfl rfl
    have px : Passes (L2.CX P w) (ctx P w K mg base ["row", "common"] "simple" (defScope (top 21)) f cdv Ar outer s H E) E := passes_call tk fun _ _ _ _ h => h
    refine pss_as (pss_cons (ps_set (i := 1) nd rfl (by first | exact Or.inl rfl | exact Or.inr rfl) (pe_def D_row_divisor (hr.mono (by first | decide | omega)) px (pa_cons (pv 0) (pa_cons (pe_def D_slope_of (hr.mono (by first | decide | omega)) px (pa_cons (pv 0) pa_nil)) pa_nil))))
      (pss_one (ps_ret (pe_ifExp (pt_cmpR op_gt (pe_callB call_len rfl B.len bt_len (pa_cons (pv 1) pa_nil)) pe_int (nomark _)) (pe_def D_primitive (hr.mono (by first | decide | omega)) px (pa_cons (pe_def D_row_quotient.pureZ (hr.mono (by first | decide | omega)) px (pa_cons (pe_def D_primitive (hr.mono (by first | decide | omega)) px (pa_cons (pv 0) pa_nil)) (pa_cons (pv 1) pa_nil))) pa_nil)) (pe_def D_primitive (hr.mono (by first | decide | omega)) px (pa_cons (pv 0) pa_nil)))))) ?_
    dsimp only [L_simple, denS, den, denG, gsOf] <;> rfl
theorem sc_number_in : FnScope ["root", "row", "chain"] ["root", "row"] (defScope (top 34)) := ⟨rfl, rfl, rfl, by decide +kernel, rfl, by decide +kernel, by decide +kernel⟩
theorem d_number_in {P : Program} {w : World} {mg : Str → Option Value} {base : Heap} (C : Cn M K) (Cq : CnOk mg C) (Cf : Kg K mg CA) (B : Free mg) (Y : Pyl P K) (A : Df K mg CA) : DefOk P w K mg base 44 "number_in" ["root", "row"] (spZ M K CA (s_number_in C Cf.toKf)) := by
  have D_count_roots := d_count_roots (P := P) (w := w) (base := base) C Cq Cf B Y A
  have D_Root_halve := d_Root_halve (P := P) (w := w) (base := base) C Cq Cf B Y A
  have D_chain_of := d_chain_of (P := P) (w := w) (base := base) C Cq Cf B Y A
  have D_simple := d_simple (P := P) (w := w) (base := base) C Cq Cf B Y A
  refine DefAt.okZF (N := ["root", "row", "chain"]) (ps := ["root", "row"]) (k := 43) (L := fun S as => (L_number_in C Cf.toKf 1000000000000)) A.number_in sc_number_in ?_ ?_
  · exact (fun _ _ _ _ _ _ us hl => match us, hl with | [_, _], _ => rfl)
  · intro S as f cdv Ar outer s H E hr
    have nd := sc_number_in.nd
    have tk := takes_of (X := ctx P w K mg base ["root", "row", "chain"] "number_in" (defScope (top 34)) f cdv Ar outer s H E) (E := E) rfl rfl rfl rfl
    have px : Passes (L2.CX P w) (ctx P w K mg base ["root", "row", "chain"] "number_in" (defScope (top 34)) f cdv Ar outer s H E) E := passes_call tk fun _ _ _ _ h => h
    refine pss_as (pss_cons (ps_set (i := 1) nd rfl (by first | exact Or.inl rfl | exact Or.inr rfl) (pe_def D_simple (hr.mono (by first | decide | omega)) px (pa_cons (pv 1) pa_nil)))
      (pss_cons (ps_set (i := 2) nd rfl (by first | exact Or.inl rfl | exact Or.inr rfl) (pe_def D_chain_of (hr.mono (by first | decide | omega)) px (pa_cons (pv 1) pa_nil)))
      (pss_cons (ps_while (passes_of rfl) (pt_cmpR (op_neD hr.units) (pe_def D_count_roots (hr.mono (by first | decide | omega)) px (pa_cons (pv 2) (pa_cons (pe_fld (pv 0) rfl) (pa_cons (pe_fld (pv 0) rfl) pa_nil)))) pe_int (nomark _)) (pss_one (ps_expr (pe_methZ0 D_Root_halve Cf.c_Root (hr.mono (by first | decide | omega)) px (pv 0)))))
      (pss_one (ps_ret (pe_def D_count_roots (hr.mono (by first | decide | omega)) px (pa_cons (pv 2) (pa_cons pe_non (pa_cons (pe_fld (pv 0) rfl) pa_nil))))))))) ?_
    dsimp only [L_number_in, denSz, denz, denAg, den, denG, gsOf] <;> rfl
theorem sc_row_sum : FnScope ["one", "other", "factor", "found", "at", "first"] ["one", "other", "factor"] (defScope (top 10)) := ⟨rfl, rfl, rfl, by decide +kernel, rfl, by decide +kernel, by decide +kernel⟩
theorem d_row_sum {P : Program} {w : World} {mg : Str → Option Value} {base : Heap} (C : Cn M K) (Cq : CnOk mg C) (Cf : Kg K mg CA) (B : Free mg) (Y : Pyl P K) (A : Df K mg CA) : DefOk P w K mg base 2 "row_sum" ["one", "other", "factor"] (spD M K (s_row_sum C Cf.toKf)) := by
  have D_trimmed := d_trimmed (P := P) (w := w) (base := base) C Cq Cf B Y A
  refine DefAt.okSF (N := ["one", "other", "factor", "found", "at", "first"]) (ps := ["one", "other", "factor"]) (k := 1) (L := fun as => (L_row_sum C Cf.toKf)) A.row_sum sc_row_sum ?_ ?_
  · exact (fun _ _ _ _ _ _ us hl => match us, hl with | [_, _, _], _ => rfl)
  · intro as f cdv Ar outer s H E hr
    have nd := sc_row_sum.nd
    have tk := takes_of (X := ctx P w K mg base ["one", "other", "factor", "found", "at", "first"] "row_sum" (defScope (top 10)) f cdv Ar outer s H E) (E := E) rfl rfl rfl rfl
    have px : Passes (L2.CX P w) (ctx P w K mg base ["one", "other", "factor", "found", "at", "first"] "row_sum" (defScope (top 10)) f cdv Ar outer s H E) E := passes_call tk fun _ _ _ _ h => h
    refine pss_as (pss_cons (ps_set (i := 3) nd rfl (by first | exact Or.inl rfl | exact Or.inr rfl) (pe_lst pa_nil))
      (pss_cons (ps_for (passes_of rfl) rfl (pi_range1 rfl B.range (pa_cons (pe_callB (call_max2 rfl) rfl B.max bt_max (pa_cons (pe_callB call_len rfl B.len bt_len (pa_cons (pv 0) pa_nil)) (pa_cons (pe_callB call_len rfl B.len bt_len (pa_cons (pv 1) pa_nil)) pa_nil))) pa_nil)) (pg_name (i := 4) nd rfl (by first | exact Or.inl rfl | exact Or.inr rfl)) (pss_cons (ps_set (i := 5) nd rfl (by first | exact Or.inl rfl | exact Or.inr rfl) (pe_ifExp (pt_cmpR op_lt (pv 4) (pe_callB call_len rfl B.len bt_len (pa_cons (pv 0) pa_nil)) (nomark _)) (pe_ix ix_seq (pv 0) (pv 4) (fun _ _ => rfl)) pe_int))
      (pss_one (ps_expr (pe_bm PySem.F.plainAttrs_list PySem.F.slot_list_append PySem.F.type_list_append mt_append (pv 3) (pa_cons (pe_op op_addU (pv 5) (pe_op op_mulU (pv 2) (pe_ifExp (pt_cmpR op_lt (pv 4) (pe_callB call_len rfl B.len bt_len (pa_cons (pv 1) pa_nil)) (nomark _)) (pe_ix ix_seq (pv 1) (pv 4) (fun _ _ => rfl)) pe_int))) pa_nil))))))
      (pss_one (ps_ret (pe_def D_trimmed (hr.mono (by first | decide | omega)) px (pa_cons (pv 3) pa_nil)))))) ?_
    dsimp only [L_row_sum, denS, den, denG, gsOf] <;> rfl
theorem sc_form_of : FnScope ["bent", "found", "at", "root", "gap"] ["bent"] (defScope (top 59)) := ⟨rfl, rfl, rfl, by decide +kernel, rfl, by decide +kernel, by decide +kernel⟩
theorem d_form_of {P : Program} {w : World} {mg : Str → Option Value} {base : Heap} (C : Cn M K) (Cq : CnOk mg C) (Cf : Kg K mg CA) (B : Free mg) (Y : Pyl P K) (A : Df K mg CA) : DefOk P w K mg base 45 "form_of" ["bent"] (spZ M K CA (s_form_of C Cf.toKf)) := by
  have D_number_in := d_number_in (P := P) (w := w) (base := base) C Cq Cf B Y A
  have D_row_sum := d_row_sum (P := P) (w := w) (base := base) C Cq Cf B Y A
  refine DefAt.okZF (N := ["bent", "found", "at", "root", "gap"]) (ps := ["bent"]) (k := 44) (L := fun S as => (L_form_of C Cf.toKf)) A.form_of sc_form_of ?_ ?_
  · exact (fun _ _ _ _ _ _ us hl => match us, hl with | [_], _ => rfl)
  · intro S as f cdv Ar outer s H E hr
    have nd := sc_form_of.nd
    have tk := takes_of (X := ctx P w K mg base ["bent", "found", "at", "root", "gap"] "form_of" (defScope (top 59)) f cdv Ar outer s H E) (E := E) rfl rfl rfl rfl
    have px : Passes (L2.CX P w) (ctx P w K mg base ["bent", "found", "at", "root", "gap"] "form_of" (defScope (top 59)) f cdv Ar outer s H E) E := passes_call tk fun _ _ _ _ h => h
    refine pss_as (pss_cons (ps_set (i := 1) nd rfl (by first | exact Or.inl rfl | exact Or.inr rfl) (pe_lst (pa_cons (pe_ix ix_seq (pe_fld (pv 0) rfl) pe_int (fun _ _ => rfl)) pa_nil)))
      (pss_cons (ps_for (passes_of rfl) rfl (pi_enumU rfl B.enumerate (pa_cons (pe_fld (pv 0) rfl) pa_nil)) (pg_tup rfl (pgs_cons (pg_name (i := 2) nd rfl (by first | exact Or.inl rfl | exact Or.inr rfl)) (pgs_cons (pg_name (i := 3) nd rfl (by first | exact Or.inl rfl | exact Or.inr rfl)) pgs_nil))) (pss_cons (ps_set (i := 4) nd rfl (by first | exact Or.inl rfl | exact Or.inr rfl) (pe_def D_row_sum (hr.mono (by first | decide | omega)) px (pa_cons (pe_ix ix_seq (pe_fld (pv 0) rfl) (pv 2) (fun _ _ => rfl)) (pa_cons (pe_ix ix_seq (pe_fld (pv 0) rfl) (pe_op op_addU (pv 2) pe_int) (fun _ _ => rfl)) (pa_cons (pe_un un_neg pe_int) pa_nil)))))
      (pss_one (ps_set (i := 1) nd rfl (by first | exact Or.inl rfl | exact Or.inr rfl) (pe_op op_addU (pv 1) (pe_lst (pa_cons (pe_def D_number_in (hr.mono (by first | decide | omega)) px (pa_cons (pv 3) (pa_cons (pv 4) pa_nil))) (pa_cons (pe_ix ix_seq (pe_fld (pv 0) rfl) (pe_op op_addU (pv 2) pe_int) (fun _ _ => rfl)) pa_nil))))))))
      (pss_one (ps_ret (pe_callTy call_tuple_of rfl B.tuple bt_tuple (pa_cons (pv 1) pa_nil)))))) ?_
    dsimp only [L_form_of, denSz, denz, denAg, den, denG, gsOf] <;> rfl
theorem sc_Bent_init : FnScope ["self", "rows", "roots"] ["self", "rows", "roots"] (defScope (inClass (top 53) 0)) := ⟨rfl, rfl, rfl, by decide +kernel, rfl, by decide +kernel, by decide +kernel⟩
theorem d_Bent_init {P : Program} {w : World} {mg : Str → Option Value} {base : Heap} (C : Cn M K) (Cq : CnOk mg C) (Cf : Kg K mg CA) (B : Free mg) (Y : Pyl P K) (A : Df K mg CA) : MethOk P w K mg base 1 (CA "Bent") "__init__" ["self", "rows", "roots"] (spZ M K CA (s_Bent_init C Cf.toKf)) := by
  refine MethAt.okZF (N := ["self", "rows", "roots"]) (ps := ["self", "rows", "roots"]) (k := 0) (L := fun S as => (L_Bent_init C Cf.toKf)) A.Bent_init sc_Bent_init ?_ ?_
  · exact (fun _ _ _ _ _ _ us hl => match us, hl with | [_, _, _], _ => rfl)
  · intro S as f cdv Ar outer s H E hr
    have nd := sc_Bent_init.nd
    have tk := takes_of (X := ctx P w K mg base ["self", "rows", "roots"] "Bent.__init__" (defScope (inClass (top 53) 0)) f cdv Ar outer s H E) (E := E) rfl rfl rfl rfl
    have px : Passes (L2.CX P w) (ctx P w K mg base ["self", "rows", "roots"] "Bent.__init__" (defScope (inClass (top 53) 0)) f cdv Ar outer s H E) E := passes_call tk fun _ _ _ _ h => h
    refine pss_as (pss_cons (ps_fld (pv 0) (pv 1) rfl)
      (pss_one (ps_fld (pv 0) (pv 2) rfl))) ?_
    dsimp only [L_Bent_init, denSz, denz, denAg, den, denG, gsOf] <;> rfl
theorem sc_joined : FnScope ["rows", "roots", "found", "kept", "at", "root"] ["rows", "roots"] (defScope (top 54)) := ⟨rfl, rfl, rfl, by decide +kernel, rfl, by decide +kernel, by decide +kernel⟩
theorem d_joined {P : Program} {w : World} {mg : Str → Option Value} {base : Heap} (C : Cn M K) (Cq : CnOk mg C) (Cf : Kg K mg CA) (B : Free mg) (Y : Pyl P K) (A : Df K mg CA) : DefOk P w K mg base 3 "joined" ["rows", "roots"] (spZ M K CA (s_joined C Cf.toKf)) := by
  have D_Bent_init := d_Bent_init (P := P) (w := w) (base := base) C Cq Cf B Y A
  refine DefAt.okZF (N := ["rows", "roots", "found", "kept", "at", "root"]) (ps := ["rows", "roots"]) (k := 2) (L := fun S as => (L_joined C Cf.toKf)) A.joined sc_joined ?_ ?_
  · exact (fun _ _ _ _ _ _ us hl => match us, hl with | [_, _], _ => rfl)
  · intro S as f cdv Ar outer s H E hr
    have nd := sc_joined.nd
    have tk := takes_of (X := ctx P w K mg base ["rows", "roots", "found", "kept", "at", "root"] "joined" (defScope (top 54)) f cdv Ar outer s H E) (E := E) rfl rfl rfl rfl
    have px : Passes (L2.CX P w) (ctx P w K mg base ["rows", "roots", "found", "kept", "at", "root"] "joined" (defScope (top 54)) f cdv Ar outer s H E) E := passes_call tk fun _ _ _ _ h => h
    refine pss_as (pss_cons (ps_par (i := 2) (j := 3) rfl nd rfl rfl (by decide) rfl rfl (pa_cons (pe_lst (pa_cons (pe_ix ix_seq (pv 0) pe_int (fun _ _ => rfl)) pa_nil)) (pa_cons (pe_lst pa_nil) pa_nil)) (by rfl))
      (pss_cons (ps_for (passes_of rfl) rfl (pi_enumU rfl B.enumerate (pa_cons (pv 1) pa_nil)) (pg_tup rfl (pgs_cons (pg_name (i := 4) nd rfl (by first | exact Or.inl rfl | exact Or.inr rfl)) (pgs_cons (pg_name (i := 5) nd rfl (by first | exact Or.inl rfl | exact Or.inr rfl)) pgs_nil))) (pss_one (ps_if (pt_cmpR (op_neD hr.units) (pe_ix ix_seq (pv 0) (pe_op op_addU (pv 4) pe_int) (fun _ _ => rfl)) (pe_ix ix_seq (pv 2) (pe_un un_neg pe_int) (fun _ _ => rfl)) (nomark _)) (pss_cons (ps_expr (pe_bm PySem.F.plainAttrs_list PySem.F.slot_list_append PySem.F.type_list_append mt_append (pv 2) (pa_cons (pe_ix ix_seq (pv 0) (pe_op op_addU (pv 4) pe_int) (fun _ _ => rfl)) pa_nil)))
      (pss_one (ps_expr (pe_bm PySem.F.plainAttrs_list PySem.F.slot_list_append PySem.F.type_list_append mt_append (pv 3) (pa_cons (pv 5) pa_nil))))) pss_nil)))
      (pss_one (ps_ret (pe_makeZ D_Bent_init Cf.k_Bent (hr.mono (by first | decide | omega)) px (pa_cons (pv 2) (pa_cons (pv 3) pa_nil))))))) ?_
    dsimp only [L_joined, denSz, denz, denAg, den, denG, gsOf] <;> rfl
theorem sc_is_less : FnScope ["one", "other"] ["one", "other"] (defScope (top 3)) := ⟨rfl, rfl, rfl, by decide +kernel, rfl, by decide +kernel, by decide +kernel⟩
theorem d_is_less {P : Program} {w : World} {mg : Str → Option Value} {base : Heap} (C : Cn M K) (Cq : CnOk mg C) (Cf : Kg K mg CA) (B : Free mg) (Y : Pyl P K) (A : Df K mg CA) : DefOk P w K mg base 1 "is_less" ["one", "other"] (spD M K (s_is_less C Cf.toKf)) := by
  refine DefAt.okSF (N := ["one", "other"]) (ps := ["one", "other"]) (k := 0) (L := fun as => (L_is_less C Cf.toKf)) A.is_less sc_is_less ?_ ?_
  · exact (fun _ _ _ _ _ _ us hl => match us, hl with | [_, _], _ => rfl)
  · intro as f cdv Ar outer s H E hr
    have nd := sc_is_less.nd
    have tk := takes_of (X := ctx P w K mg base ["one", "other"] "is_less" (defScope (top 3)) f cdv Ar outer s H E) (E := E) rfl rfl rfl rfl
    have px : Passes (L2.CX P w) (ctx P w K mg base ["one", "other"] "is_less" (defScope (top 3)) f cdv Ar outer s H E) E := passes_call tk fun _ _ _ _ h => h
    refine pss_as (pss_one (ps_ret (pe_cmpR op_lt (pe_op op_mulU (pe_ix ix_seq (pv 0) pe_int (fun _ _ => rfl)) (pe_ix ix_seq (pv 1) pe_int (fun _ _ => rfl))) (pe_op op_mulU (pe_ix ix_seq (pv 1) pe_int (fun _ _ => rfl)) (pe_ix ix_seq (pv 0) pe_int (fun _ _ => rfl))) (nomark _)))) ?_
    dsimp only [L_is_less, denS, den, denG, gsOf] <;> rfl
theorem sc_place_between : FnScope ["one", "other"] ["one", "other"] (defScope (top 32)) := ⟨rfl, rfl, rfl, by decide +kernel, rfl, by decide +kernel, by decide +kernel⟩
theorem d_place_between {P : Program} {w : World} {mg : Str → Option Value} {base : Heap} (C : Cn M K) (Cq : CnOk mg C) (Cf : Kg K mg CA) (B : Free mg) (Y : Pyl P K) (A : Df K mg CA) : DefOk P w K mg base 44 "place_between" ["one", "other"] (spZ M K CA (s_place_between C Cf.toKf)) := by
  have D_between := d_between (P := P) (w := w) (base := base) C Cq Cf B Y A
  have D_is_less := d_is_less (P := P) (w := w) (base := base) C Cq Cf B Y A
  have D_Root_halve := d_Root_halve (P := P) (w := w) (base := base) C Cq Cf B Y A
  refine DefAt.okZF (N := ["one", "other"]) (ps := ["one", "other"]) (k := 43) (L := fun S as => (L_place_between C Cf.toKf 1000000000000)) A.place_between sc_place_between ?_ ?_
  · exact (fun _ _ _ _ _ _ us hl => match us, hl with | [_, _], _ => rfl)
  · intro S as f cdv Ar outer s H E hr
    have nd := sc_place_between.nd
    have tk := takes_of (X := ctx P w K mg base ["one", "other"] "place_between" (defScope (top 32)) f cdv Ar outer s H E) (E := E) rfl rfl rfl rfl
    have px : Passes (L2.CX P w) (ctx P w K mg base ["one", "other"] "place_between" (defScope (top 32)) f cdv Ar outer s H E) E := passes_call tk fun _ _ _ _ h => h
    refine pss_as (pss_cons (ps_if (PW.pt (pw_and (pt_cmpR op_isU (pv 0) pe_non (nomark _)) (pw_and1 (pt_cmpR op_isU (pv 1) pe_non (nomark _))))) (pss_one (ps_ret (pe_tup (pa_cons pe_int (pa_cons pe_int pa_nil))))) pss_nil)
      (pss_cons (ps_if (pt_cmpR op_isU (pv 0) pe_non (nomark _)) (pss_one (ps_ret (pe_tup (pa_cons (pe_op op_sub (pe_ix ix_seq (pe_fld (pv 1) rfl) pe_int (fun _ _ => rfl)) (pe_ix ix_seq (pe_fld (pv 1) rfl) pe_int (fun _ _ => rfl))) (pa_cons (pe_ix ix_seq (pe_fld (pv 1) rfl) pe_int (fun _ _ => rfl)) pa_nil))))) pss_nil)
      (pss_cons (ps_if (pt_cmpR op_isU (pv 1) pe_non (nomark _)) (pss_one (ps_ret (pe_tup (pa_cons (pe_op op_addU (pe_ix ix_seq (pe_fld (pv 0) rfl) pe_int (fun _ _ => rfl)) (pe_ix ix_seq (pe_fld (pv 0) rfl) pe_int (fun _ _ => rfl))) (pa_cons (pe_ix ix_seq (pe_fld (pv 0) rfl) pe_int (fun _ _ => rfl)) pa_nil))))) pss_nil)
      (pss_cons (ps_while (passes_of rfl) (pt_not (pt_val (pe_def D_is_less (hr.mono (by first | decide | omega)) px (pa_cons (pe_fld (pv 0) rfl) (pa_cons (pe_fld (pv 1) rfl) pa_nil))))) (pss_cons (ps_expr (pe_methZ0 D_Root_halve Cf.c_Root (hr.mono (by first | decide | omega)) px (pv 0)))
      (pss_one (ps_expr (pe_methZ0 D_Root_halve Cf.c_Root (hr.mono (by first | decide | omega)) px (pv 1))))))
      (pss_one (ps_ret (pe_def D_between (hr.mono (by first | decide | omega)) px (pa_cons (pe_fld (pv 0) rfl) (pa_cons (pe_fld (pv 1) rfl) pa_nil))))))))) ?_
    dsimp only [L_place_between, denSz, denz, denAg, den, denG, gsOf] <;> rfl
theorem sc_places_between : FnScope ["roots", "ends", "at"] ["roots"] (defScope (top 33)) := ⟨rfl, rfl, rfl, by decide +kernel, rfl, by decide +kernel, by decide +kernel⟩
theorem d_places_between {P : Program} {w : World} {mg : Str → Option Value} {base : Heap} (C : Cn M K) (Cq : CnOk mg C) (Cf : Kg K mg CA) (B : Free mg) (Y : Pyl P K) (A : Df K mg CA) : DefOk P w K mg base 45 "places_between" ["roots"] (spZ M K CA (s_places_between C Cf.toKf)) := by
  have D_place_between := d_place_between (P := P) (w := w) (base := base) C Cq Cf B Y A
  refine DefAt.okZF (N := ["roots", "ends", "at"]) (ps := ["roots"]) (k := 44) (L := fun S as => (L_places_between C Cf.toKf)) A.places_between sc_places_between ?_ ?_
  · exact (fun _ _ _ _ _ _ us hl => match us, hl with | [_], _ => rfl)
  · intro S as f cdv Ar outer s H E hr
    have nd := sc_places_between.nd
    have tk := takes_of (X := ctx P w K mg base ["roots", "ends", "at"] "places_between" (defScope (top 33)) f cdv Ar outer s H E) (E := E) rfl rfl rfl rfl
    have px : Passes (L2.CX P w) (ctx P w K mg base ["roots", "ends", "at"] "places_between" (defScope (top 33)) f cdv Ar outer s H E) E := passes_call tk fun _ _ _ _ h => h
    refine pss_as (pss_cons (ps_set (i := 1) nd rfl (by first | exact Or.inl rfl | exact Or.inr rfl) (pe_op op_addU (pe_op op_addU (pe_lst (pa_cons pe_non pa_nil)) (pv 0)) (pe_lst (pa_cons pe_non pa_nil))))
      (pss_one (ps_ret (pe_lc (own := [("at", 2)]) (by rfl) nd (pi_range1 rfl B.range (pa_cons (pe_op op_sub (pe_callB call_len rfl B.len bt_len (pa_cons (pv 1) pa_nil)) pe_int) pa_nil)) (blkOk_by (own := [("at", 2)]) (by rfl)) (fun _ _ _ _ _ => (pg_name (i := 2) nd rfl (by first | exact Or.inl rfl | exact Or.inr rfl))) (fun _ _ _ _ _ => pts_nil) (fun _ _ _ _ _ => (pe_def D_place_between (hr.mono (by first | decide | omega)) passL (pa_cons (pe_ix (kb_ix (K := K) rfl) (pv 1) (pv 2) (fun _ _ => rfl)) (pa_cons (pe_ix (kb_ix (K := K) rfl) (pv 1) (pe_op (kb_add (K := K) rfl) (pv 2) pe_int) (fun _ _ => rfl)) pa_nil)))))))) ?_
    dsimp only [L_places_between, denSz, denz, denAg, den, denG, gsOf] <;> rfl
theorem sc_row_product : FnScope ["one", "other", "found", "at", "part", "spot", "share"] ["one", "other"] (defScope (top 11)) := ⟨rfl, rfl, rfl, by decide +kernel, rfl, by decide +kernel, by decide +kernel⟩
theorem d_row_product {P : Program} {w : World} {mg : Str → Option Value} {base : Heap} (C : Cn M K) (Cq : CnOk mg C) (Cf : Kg K mg CA) (B : Free mg) (Y : Pyl P K) (A : Df K mg CA) : DefOk P w K mg base 2 "row_product" ["one", "other"] (spD M K (s_row_product C Cf.toKf)) := by
  have D_trimmed := d_trimmed (P := P) (w := w) (base := base) C Cq Cf B Y A
  refine DefAt.okSF (N := ["one", "other", "found", "at", "part", "spot", "share"]) (ps := ["one", "other"]) (k := 1) (L := fun as => (L_row_product C Cf.toKf)) A.row_product sc_row_product ?_ ?_
  · exact (fun _ _ _ _ _ _ us hl => match us, hl with | [_, _], _ => rfl)
  · intro as f cdv Ar outer s H E hr
    have nd := sc_row_product.nd
    have tk := takes_of (X := ctx P w K mg base ["one", "other", "found", "at", "part", "spot", "share"] "row_product" (defScope (top 11)) f cdv Ar outer s H E) (E := E) rfl rfl rfl rfl
    have px : Passes (L2.CX P w) (ctx P w K mg base ["one", "other", "found", "at", "part", "spot", "share"] "row_product" (defScope (top 11)) f cdv Ar outer s H E) E := passes_call tk fun _ _ _ _ h => h
    refine pss_as (pss_cons (ps_if (PW.pt (pw_or (pt_cmpR (op_eqD hr.units) (pv 0) (pe_tup pa_nil) (nomark _)) (pw_or1 (pt_cmpR (op_eqD hr.units) (pv 1) (pe_tup pa_nil) (nomark _))))) (pss_one (ps_ret (pe_tup pa_nil))) pss_nil)
      (pss_cons (ps_set (i := 2) nd rfl (by first | exact Or.inl rfl | exact Or.inr rfl) (pe_op op_mulU (pe_lst (pa_cons pe_int pa_nil)) (pe_op op_sub (pe_op op_addU (pe_callB call_len rfl B.len bt_len (pa_cons (pv 0) pa_nil)) (pe_callB call_len rfl B.len bt_len (pa_cons (pv 1) pa_nil))) pe_int)))
      (pss_cons (ps_for (passes_of rfl) rfl (pi_enumU rfl B.enumerate (pa_cons (pv 0) pa_nil)) (pg_tup rfl (pgs_cons (pg_name (i := 3) nd rfl (by first | exact Or.inl rfl | exact Or.inr rfl)) (pgs_cons (pg_name (i := 4) nd rfl (by first | exact Or.inl rfl | exact Or.inr rfl)) pgs_nil))) (pss_one (ps_for (passes_of rfl) rfl (pi_enumU rfl B.enumerate (pa_cons (pv 1) pa_nil)) (pg_tup rfl (pgs_cons (pg_name (i := 5) nd rfl (by first | exact Or.inl rfl | exact Or.inr rfl)) (pgs_cons (pg_name (i := 6) nd rfl (by first | exact Or.inl rfl | exact Or.inr rfl)) pgs_nil))) (pss_one (ps_asg (pe_op op_addU (pe_ix ix_seq (pv 2) (pe_op op_addU (pv 3) (pv 5)) (fun _ _ => rfl)) (pe_op op_mulU (pv 4) (pv 6))) (pg_sub (pv 2) (pe_op op_addU (pv 3) (pv 5)) set_list))))))
      (pss_one (ps_ret (pe_def D_trimmed (hr.mono (by first | decide | omega)) px (pa_cons (pv 2) pa_nil))))))) ?_
    dsimp only [L_row_product, denS, den, denG, gsOf] <;> rfl
theorem sc_put_in : FnScope ["one", "other", "found", "part"] ["one", "other"] (defScope (top 12)) := ⟨rfl, rfl, rfl, by decide +kernel, rfl, by decide +kernel, by decide +kernel⟩
theorem d_put_in {P : Program} {w : World} {mg : Str → Option Value} {base : Heap} (C : Cn M K) (Cq : CnOk mg C) (Cf : Kg K mg CA) (B : Free mg) (Y : Pyl P K) (A : Df K mg CA) : DefOk P w K mg base 3 "put_in" ["one", "other"] (spD M K (s_put_in C Cf.toKf)) := by
  have D_row_sum := d_row_sum (P := P) (w := w) (base := base) C Cq Cf B Y A
  have D_row_product := d_row_product (P := P) (w := w) (base := base) C Cq Cf B Y A
  refine DefAt.okSF (N := ["one", "other", "found", "part"]) (ps := ["one", "other"]) (k := 2) (L := fun as => (L_put_in C Cf.toKf)) A.put_in sc_put_in ?_ ?_
  · exact (fun _ _ _ _ _ _ us hl => match us, hl with | [_, _], _ => rfl)
  · intro as f cdv Ar outer s H E hr
    have nd := sc_put_in.nd
    have tk := takes_of (X := ctx P w K mg base ["one", "other", "found", "part"] "put_in" (defScope (top 12)) f cdv Ar outer s H E) (E := E) rfl rfl rfl rfl
    have px : Passes (L2.CX P w) (ctx P w K mg base ["one", "other", "found", "part"] "put_in" (defScope (top 12)) f cdv Ar outer s H E) E := passes_call tk fun _ _ _ _ h => h
    refine pss_as (pss_cons (ps_set (i := 2) nd rfl (by first | exact Or.inl rfl | exact Or.inr rfl) (pe_tup pa_nil))
      (pss_cons (ps_for (passes_of rfl) rfl (pi_seq (pe_sliceS (pv 0) po_none po_none (po_some (pe_un un_neg pe_int)))) (pg_name (i := 3) nd rfl (by first | exact Or.inl rfl | exact Or.inr rfl)) (pss_one (ps_set (i := 2) nd rfl (by first | exact Or.inl rfl | exact Or.inr rfl) (pe_def D_row_sum (hr.mono (by first | decide | omega)) px (pa_cons (pe_def D_row_product (hr.mono (by first | decide | omega)) px (pa_cons (pv 2) (pa_cons (pv 1) pa_nil))) (pa_cons (pe_tup (pa_cons (pv 3) pa_nil)) (pa_cons pe_int pa_nil)))))))
      (pss_one (ps_ret (pv 2))))) ?_
    dsimp only [L_put_in, denS, den, denG, gsOf] <;> rfl
theorem sc_Root_against : FnScope ["self", "place"] ["self", "place"] (defScope (inClass (top 27) 2)) := ⟨rfl, rfl, rfl, by decide +kernel, rfl, by decide +kernel, by decide +kernel⟩
theorem d_Root_against {P : Program} {w : World} {mg : Str → Option Value} {base : Heap} (C : Cn M K) (Cq : CnOk mg C) (Cf : Kg K mg CA) (B : Free mg) (Y : Pyl P K) (A : Df K mg CA) : MethOk P w K mg base 5 (CA "Root") "against" ["self", "place"] (spZ M K CA (s_Root_against C Cf.toKf)) := by
  have D_count_roots := d_count_roots (P := P) (w := w) (base := base) C Cq Cf B Y A
  have D_sign_at := d_sign_at (P := P) (w := w) (base := base) C Cq Cf B Y A
  have D_is_less := d_is_less (P := P) (w := w) (base := base) C Cq Cf B Y A
  refine MethAt.okZF (N := ["self", "place"]) (ps := ["self", "place"]) (k := 4) (L := fun S as => (L_Root_against C Cf.toKf)) A.Root_against sc_Root_against ?_ ?_
  · exact (fun _ _ _ _ _ _ us hl => match us, hl with | [_, _], _ => rfl)
  · intro S as f cdv Ar outer s H E hr
    have nd := sc_Root_against.nd
    have tk := takes_of (X := ctx P w K mg base ["self", "place"] "Root.against" (defScope (inClass (top 27) 2)) f cdv Ar outer s H E) (E := E) rfl rfl rfl rfl
    have px : Passes (L2.CX P w) (ctx P w K mg base ["self", "place"] "Root.against" (defScope (inClass (top 27) 2)) f cdv Ar outer s H E) E := passes_call tk fun _ _ _ _ h => h
    refine pss_as (pss_cons (ps_if (pt_not (pt_val (pe_def D_is_less (hr.mono (by first | decide | omega)) px (pa_cons (pe_fld (pv 0) rfl) (pa_cons (pv 1) pa_nil))))) (pss_one (ps_ret pe_int)) pss_nil)
      (pss_cons (ps_if (pt_val (pe_def D_is_less (hr.mono (by first | decide | omega)) px (pa_cons (pe_fld (pv 0) rfl) (pa_cons (pv 1) pa_nil)))) (pss_one (ps_ret (pe_un un_neg pe_int))) pss_nil)
      (pss_cons (ps_if (pt_cmpR (op_eqD hr.units) (pe_def D_sign_at (hr.mono (by first | decide | omega)) px (pa_cons (pe_fld (pv 0) rfl) (pa_cons (pv 1) pa_nil))) pe_int (nomark _)) (pss_one (ps_ret pe_int)) pss_nil)
      (pss_one (ps_ret (pe_ifExp (pt_cmpR (op_eqD hr.units) (pe_def D_count_roots (hr.mono (by first | decide | omega)) px (pa_cons (pe_fld (pv 0) rfl) (pa_cons (pe_fld (pv 0) rfl) (pa_cons (pv 1) pa_nil)))) pe_int (nomark _)) (pe_un un_neg pe_int) pe_int)))))) ?_
    dsimp only [L_Root_against, denSz, denz, denAg, den, denG, gsOf] <;> rfl
theorem sc_Bent_row_at : FnScope ["self", "place", "at"] ["self", "place"] (defScope (inClass (top 53) 1)) := ⟨rfl, rfl, rfl, by decide +kernel, rfl, by decide +kernel, by decide +kernel⟩
theorem d_Bent_row_at {P : Program} {w : World} {mg : Str → Option Value} {base : Heap} (C : Cn M K) (Cq : CnOk mg C) (Cf : Kg K mg CA) (B : Free mg) (Y : Pyl P K) (A : Df K mg CA) : MethOk P w K mg base 6 (CA "Bent") "row_at" ["self", "place"] (spZ M K CA (s_Bent_row_at C Cf.toKf)) := by
  have D_Root_against := d_Root_against (P := P) (w := w) (base := base) C Cq Cf B Y A
  refine MethAt.okZF (N := ["self", "place", "at"]) (ps := ["self", "place"]) (k := 5) (L := fun S as => (L_Bent_row_at C Cf.toKf 1000000000000)) A.Bent_row_at sc_Bent_row_at ?_ ?_
  · exact (fun _ _ _ _ _ _ us hl => match us, hl with | [_, _], _ => rfl)
  · intro S as f cdv Ar outer s H E hr
    have nd := sc_Bent_row_at.nd
    have tk := takes_of (X := ctx P w K mg base ["self", "place", "at"] "Bent.row_at" (defScope (inClass (top 53) 1)) f cdv Ar outer s H E) (E := E) rfl rfl rfl rfl
    have px : Passes (L2.CX P w) (ctx P w K mg base ["self", "place", "at"] "Bent.row_at" (defScope (inClass (top 53) 1)) f cdv Ar outer s H E) E := passes_call tk fun _ _ _ _ h => h
    refine pss_as (pss_cons (ps_set (i := 2) nd rfl (by first | exact Or.inl rfl | exact Or.inr rfl) pe_int)
      (pss_cons (ps_while (passes_of rfl) (PW.pt (pw_and (pt_cmpR op_lt (pv 2) (pe_callB call_len rfl B.len bt_len (pa_cons (pe_fld (pv 0) rfl) pa_nil)) (nomark _)) (pw_and1 (pt_cmpR op_lt (pe_methZ D_Root_against Cf.c_Root (hr.mono (by first | decide | omega)) px (pe_ix ix_seq (pe_fld (pv 0) rfl) (pv 2) (fun _ _ => rfl)) (pa_cons (pv 1) pa_nil)) pe_int (nomark _))))) (pss_one (ps_set (i := 2) nd rfl (by first | exact Or.inl rfl | exact Or.inr rfl) (pe_op op_addU (pv 2) pe_int))))
      (pss_one (ps_ret (pe_ix ix_seq (pe_fld (pv 0) rfl) (pv 2) (fun _ _ => rfl)))))) ?_
    dsimp only [L_Bent_row_at, denSz, denz, denAg, den, denG, gsOf] <;> rfl
theorem sc_value_at : FnScope ["row", "place", "top", "bottom", "power", "part", "turn"] ["row", "place"] (defScope (top 20)) := ⟨rfl, rfl, rfl, by decide +kernel, rfl, by decide +kernel, by decide +kernel⟩
theorem d_value_at {P : Program} {w : World} {mg : Str → Option Value} {base : Heap} (C : Cn M K) (Cq : CnOk mg C) (Cf : Kg K mg CA) (B : Free mg) (Y : Pyl P K) (A : Df K mg CA) : DefOk P w K mg base 1 "value_at" ["row", "place"] (spD M K (s_value_at C Cf.toKf)) := by
  refine DefAt.okSF (N := ["row", "place", "top", "bottom", "power", "part", "turn"]) (ps := ["row", "place"]) (k := 0) (L := fun as => (L_value_at C Cf.toKf)) A.value_at sc_value_at ?_ ?_
  · exact (fun _ _ _ _ _ _ us hl => match us, hl with | [_, _], _ => rfl)
  · intro as f cdv Ar outer s H E hr
    have nd := sc_value_at.nd
    have tk := takes_of (X := ctx P w K mg base ["row", "place", "top", "bottom", "power", "part", "turn"] "value_at" (defScope (top 20)) f cdv Ar outer s H E) (E := E) rfl rfl rfl rfl
    have px : Passes (L2.CX P w) (ctx P w K mg base ["row", "place", "top", "bottom", "power", "part", "turn"] "value_at" (defScope (top 20)) f cdv Ar outer s H E) E := passes_call tk fun _ _ _ _ h => h
    refine pss_as (pss_cons (ps_asg (pe_tup (pa_cons pe_int (pa_cons pe_int (pa_cons pe_int pa_nil)))) (pg_tup rfl (pgs_cons (pg_name (i := 2) nd rfl (by first | exact Or.inl rfl | exact Or.inr rfl)) (pgs_cons (pg_name (i := 3) nd rfl (by first | exact Or.inl rfl | exact Or.inr rfl)) (pgs_cons (pg_name (i := 4) nd rfl (by first | exact Or.inl rfl | exact Or.inr rfl)) pgs_nil)))))
      (pss_cons (ps_for (passes_of rfl) rfl (pi_seq (pe_sliceS (pv 0) po_none po_none (po_some (pe_un un_neg pe_int)))) (pg_name (i := 5) nd rfl (by first | exact Or.inl rfl | exact Or.inr rfl)) (pss_one (ps_par (i := 2) (j := 4) rfl nd rfl rfl (by decide) rfl rfl (pa_cons (pe_op op_addU (pe_op op_mulU (pv 2) (pe_ix ix_seq (pv 1) pe_int (fun _ _ => rfl))) (pe_op op_mulU (pv 5) (pv 4))) (pa_cons (pe_op op_mulU (pv 4) (pe_ix ix_seq (pv 1) pe_int (fun _ _ => rfl))) pa_nil)) (by rfl))))
      (pss_cons (ps_for (passes_of rfl) rfl (pi_range1 rfl B.range (pa_cons (pe_op op_sub (pe_callB call_len rfl B.len bt_len (pa_cons (pv 0) pa_nil)) pe_int) pa_nil)) (pg_name (i := 6) nd rfl (by first | exact Or.inl rfl | exact Or.inr rfl)) (pss_one (ps_set (i := 3) nd rfl (by first | exact Or.inl rfl | exact Or.inr rfl) (pe_op op_mulU (pv 3) (pe_ix ix_seq (pv 1) pe_int (fun _ _ => rfl))))))
      (pss_one (ps_ret (pe_tup (pa_cons (pv 2) (pa_cons (pv 3) pa_nil)))))))) ?_
    dsimp only [L_value_at, denS, den, denG, gsOf] <;> rfl
theorem sc_compared : FnScope ["one", "other", "common", "chain", "low", "high"] ["one", "other"] (defScope (top 30)) := ⟨rfl, rfl, rfl, by decide +kernel, rfl, by decide +kernel, by decide +kernel⟩
theorem d_compared {P : Program} {w : World} {mg : Str → Option Value} {base : Heap} (C : Cn M K) (Cq : CnOk mg C) (Cf : Kg K mg CA) (B : Free mg) (Y : Pyl P K) (A : Df K mg CA) : DefOk P w K mg base 44 "compared" ["one", "other"] (spZ M K CA (s_compared C Cf.toKf)) := by
  have D_Root_halve := d_Root_halve (P := P) (w := w) (base := base) C Cq Cf B Y A
  have D_is_less := d_is_less (P := P) (w := w) (base := base) C Cq Cf B Y A
  have D_count_roots := d_count_roots (P := P) (w := w) (base := base) C Cq Cf B Y A
  have D_chain_of := d_chain_of (P := P) (w := w) (base := base) C Cq Cf B Y A
  have D_simple := d_simple (P := P) (w := w) (base := base) C Cq Cf B Y A
  have D_row_divisor := d_row_divisor (P := P) (w := w) (base := base) C Cq Cf B Y A
  refine DefAt.okZF (N := ["one", "other", "common", "chain", "low", "high"]) (ps := ["one", "other"]) (k := 43) (L := fun S as => (L_compared C Cf.toKf 1000000000000)) A.compared sc_compared ?_ ?_
  · exact (fun _ _ _ _ _ _ us hl => match us, hl with | [_, _], _ => rfl)
  · intro S as f cdv Ar outer s H E hr
    have nd := sc_compared.nd
    have tk := takes_of (X := ctx P w K mg base ["one", "other", "common", "chain", "low", "high"] "compared" (defScope (top 30)) f cdv Ar outer s H E) (E := E) rfl rfl rfl rfl
    have px : Passes (L2.CX P w) (ctx P w K mg base ["one", "other", "common", "chain", "low", "high"] "compared" (defScope (top 30)) f cdv Ar outer s H E) E := passes_call tk fun _ _ _ _ h => h
    refine pss_as (pss_cons (ps_set (i := 2) nd rfl (by first | exact Or.inl rfl | exact Or.inr rfl) (pe_def D_row_divisor (hr.mono (by first | decide | omega)) px (pa_cons (pe_fld (pv 0) rfl) (pa_cons (pe_fld (pv 1) rfl) pa_nil))))
      (pss_cons (ps_if (pt_cmpR op_gt (pe_callB call_len rfl B.len bt_len (pa_cons (pv 2) pa_nil)) pe_int (nomark _)) (pss_cons (ps_set (i := 3) nd rfl (by first | exact Or.inl rfl | exact Or.inr rfl) (pe_def D_chain_of (hr.mono (by first | decide | omega)) px (pa_cons (pe_def D_simple (hr.mono (by first | decide | omega)) px (pa_cons (pv 2) pa_nil)) pa_nil)))
      (pss_cons (ps_set (i := 4) nd rfl (by first | exact Or.inl rfl | exact Or.inr rfl) (pe_ifExp (pt_val (pe_def D_is_less (hr.mono (by first | decide | omega)) px (pa_cons (pe_fld (pv 0) rfl) (pa_cons (pe_fld (pv 1) rfl) pa_nil)))) (pe_fld (pv 1) rfl) (pe_fld (pv 0) rfl)))
      (pss_cons (ps_set (i := 5) nd rfl (by first | exact Or.inl rfl | exact Or.inr rfl) (pe_ifExp (pt_val (pe_def D_is_less (hr.mono (by first | decide | omega)) px (pa_cons (pe_fld (pv 0) rfl) (pa_cons (pe_fld (pv 1) rfl) pa_nil)))) (pe_fld (pv 0) rfl) (pe_fld (pv 1) rfl)))
      (pss_one (ps_if (PW.pt (pw_and (pt_val (pe_def D_is_less (hr.mono (by first | decide | omega)) px (pa_cons (pv 4) (pa_cons (pv 5) pa_nil)))) (pw_and1 (pt_cmpR (op_eqD hr.units) (pe_def D_count_roots (hr.mono (by first | decide | omega)) px (pa_cons (pv 3) (pa_cons (pv 4) (pa_cons (pv 5) pa_nil)))) pe_int (nomark _))))) (pss_one (ps_ret pe_int)) pss_nil))))) pss_nil)
      (pss_one (ps_while (passes_of rfl) (pt_val pe_bl) (pss_cons (ps_if (pt_not (pt_val (pe_def D_is_less (hr.mono (by first | decide | omega)) px (pa_cons (pe_fld (pv 1) rfl) (pa_cons (pe_fld (pv 0) rfl) pa_nil))))) (pss_one (ps_ret (pe_un un_neg pe_int))) pss_nil)
      (pss_cons (ps_if (pt_not (pt_val (pe_def D_is_less (hr.mono (by first | decide | omega)) px (pa_cons (pe_fld (pv 0) rfl) (pa_cons (pe_fld (pv 1) rfl) pa_nil))))) (pss_one (ps_ret pe_int)) pss_nil)
      (pss_cons (ps_expr (pe_methZ0 D_Root_halve Cf.c_Root (hr.mono (by first | decide | omega)) px (pv 0)))
      (pss_one (ps_expr (pe_methZ0 D_Root_halve Cf.c_Root (hr.mono (by first | decide | omega)) px (pv 1))))))))))) ?_
    dsimp only [L_compared, denSz, denz, denAg, den, denG, gsOf] <;> rfl
theorem sc_sorted_roots : FnScope ["some", "found", "root", "at", "is_new", "sign"] ["some"] (defScope (top 31)) := ⟨rfl, rfl, rfl, by decide +kernel, rfl, by decide +kernel, by decide +kernel⟩
theorem d_sorted_roots {P : Program} {w : World} {mg : Str → Option Value} {base : Heap} (C : Cn M K) (Cq : CnOk mg C) (Cf : Kg K mg CA) (B : Free mg) (Y : Pyl P K) (A : Df K mg CA) : DefOk P w K mg base 45 "sorted_roots" ["some"] (spZ M K CA (s_sorted_roots C Cf.toKf)) := by
  have D_compared := d_compared (P := P) (w := w) (base := base) C Cq Cf B Y A
  refine DefAt.okZF (N := ["some", "found", "root", "at", "is_new", "sign"]) (ps := ["some"]) (k := 44) (L := fun S as => (L_sorted_roots C Cf.toKf 1000000000000)) A.sorted_roots sc_sorted_roots ?_ ?_
  · exact (fun _ _ _ _ _ _ us hl => match us, hl with | [_], _ => rfl)
  · intro S as f cdv Ar outer s H E hr
    have nd := sc_sorted_roots.nd
    have tk := takes_of (X := ctx P w K mg base ["some", "found", "root", "at", "is_new", "sign"] "sorted_roots" (defScope (top 31)) f cdv Ar outer s H E) (E := E) rfl rfl rfl rfl
    have px : Passes (L2.CX P w) (ctx P w K mg base ["some", "found", "root", "at", "is_new", "sign"] "sorted_roots" (defScope (top 31)) f cdv Ar outer s H E) E := passes_call tk fun _ _ _ _ h => h
    refine pss_as (pss_cons (ps_set (i := 1) nd rfl (by first | exact Or.inl rfl | exact Or.inr rfl) (pe_lst pa_nil))
      (pss_cons (ps_for (passes_of rfl) rfl (pi_seq (pv 0)) (pg_name (i := 2) nd rfl (by first | exact Or.inl rfl | exact Or.inr rfl)) (pss_cons (ps_asg (pe_tup (pa_cons pe_int (pa_cons pe_bl pa_nil))) (pg_tup rfl (pgs_cons (pg_name (i := 3) nd rfl (by first | exact Or.inl rfl | exact Or.inr rfl)) (pgs_cons (pg_name (i := 4) nd rfl (by first | exact Or.inl rfl | exact Or.inr rfl)) pgs_nil))))
      (pss_cons (ps_while (passes_of rfl) (PW.pt (pw_and (pt_cmpR op_lt (pv 3) (pe_callB call_len rfl B.len bt_len (pa_cons (pv 1) pa_nil)) (nomark _)) (pw_and1 (pt_val (pv 4))))) (pss_cons (ps_set (i := 5) nd rfl (by first | exact Or.inl rfl | exact Or.inr rfl) (pe_def D_compared (hr.mono (by first | decide | omega)) px (pa_cons (pv 2) (pa_cons (pe_ix ix_seq (pv 1) (pv 3) (fun _ _ => rfl)) pa_nil))))
      (pss_one (ps_if (pt_cmpR (op_eqD hr.units) (pv 5) pe_int (nomark _)) (pss_one (ps_set (i := 4) nd rfl (by first | exact Or.inl rfl | exact Or.inr rfl) pe_bl)) (pss_one (ps_if (pt_cmpR op_lt (pv 5) pe_int (nomark _)) (pss_one ps_break) (pss_one (ps_set (i := 3) nd rfl (by first | exact Or.inl rfl | exact Or.inr rfl) (pe_op op_addU (pv 3) pe_int)))))))))
      (pss_one (ps_if (pt_val (pv 4)) (pss_one (ps_expr (pe_bm PySem.F.plainAttrs_list PySem.F.slot_list_insert PySem.F.type_list_insert mt_ins (pv 1) (pa_cons (pv 3) (pa_cons (pv 2) pa_nil))))) pss_nil)))))
      (pss_one (ps_ret (pv 1))))) ?_
    dsimp only [L_sorted_roots, denSz, denz, denAg, den, denG, gsOf] <;> rfl
theorem sc_Root_init : FnScope ["self", "row", "chain", "low", "high"] ["self", "row", "chain", "low", "high"] (defScope (inClass (top 27) 0)) := ⟨rfl, rfl, rfl, by decide +kernel, rfl, by decide +kernel, by decide +kernel⟩
theorem d_Root_init {P : Program} {w : World} {mg : Str → Option Value} {base : Heap} (C : Cn M K) (Cq : CnOk mg C) (Cf : Kg K mg CA) (B : Free mg) (Y : Pyl P K) (A : Df K mg CA) : MethOk P w K mg base 1 (CA "Root") "__init__" ["self", "row", "chain", "low", "high"] (spZ M K CA (s_Root_init C Cf.toKf)) := by
  refine MethAt.okZF (N := ["self", "row", "chain", "low", "high"]) (ps := ["self", "row", "chain", "low", "high"]) (k := 0) (L := fun S as => (L_Root_init C Cf.toKf)) A.Root_init sc_Root_init ?_ ?_
  · exact (fun _ _ _ _ _ _ us hl => match us, hl with | [_, _, _, _, _], _ => rfl)
  · intro S as f cdv Ar outer s H E hr
    have nd := sc_Root_init.nd
    have tk := takes_of (X := ctx P w K mg base ["self", "row", "chain", "low", "high"] "Root.__init__" (defScope (inClass (top 27) 0)) f cdv Ar outer s H E) (E := E) rfl rfl rfl rfl
    have px : Passes (L2.CX P w) (ctx P w K mg base ["self", "row", "chain", "low", "high"] "Root.__init__" (defScope (inClass (top 27) 0)) f cdv Ar outer s H E) E := passes_call tk fun _ _ _ _ h => h
    refine pss_as (pss_cons (ps_fld (pv 0) (pv 1) rfl)
      (pss_cons (ps_fld (pv 0) (pv 2) rfl)
      (pss_cons (ps_fld (pv 0) (pv 3) rfl)
      (pss_one (ps_fld (pv 0) (pv 4) rfl))))) ?_
    dsimp only [L_Root_init, denSz, denz, denAg, den, denG, gsOf] <;> rfl
theorem sc_bound_of : FnScope ["row", "part"] ["row"] (defScope (top 28)) := ⟨rfl, rfl, rfl, by decide +kernel, rfl, by decide +kernel, by decide +kernel⟩
theorem d_bound_of {P : Program} {w : World} {mg : Str → Option Value} {base : Heap} (C : Cn M K) (Cq : CnOk mg C) (Cf : Kg K mg CA) (B : Free mg) (Y : Pyl P K) (A : Df K mg CA) : DefOk P w K mg base 41 "bound_of" ["row"] (spD M K (s_bound_of C Cf.toKf)) := by
  refine DefAt.okSF (N := ["row", "part"]) (ps := ["row"]) (k := 40) (L := fun as => (L_bound_of C Cf.toKf)) A.bound_of sc_bound_of ?_ ?_
  · exact (fun _ _ _ _ _ _ us hl => match us, hl with | [_], _ => rfl)
  · intro as f cdv Ar outer s H E hr
    have nd := sc_bound_of.nd
    have tk := takes_of (X := ctx P w K mg base ["row", "part"] "bound_of" (defScope (top 28)) f cdv Ar outer s H E) (E := E) rfl rfl rfl rfl
    have px : Passes (L2.CX P w) (ctx P w K mg base ["row", "part"] "bound_of" (defScope (top 28)) f cdv Ar outer s H E) E := passes_call tk fun _ _ _ _ h => h
    refine pss_as (pss_one (ps_ret (pe_op op_addU pe_int (pe_op (op_fdivP Y (hr.mono (by first | decide | omega)) rfl rfl rfl) (pe_callB (cr_max rfl) rfl B.max bt_max (pa_cons (pe_lc (own := [("part", 1)]) (by rfl) nd (pi_seq (pv 0)) (blkOk_by (own := [("part", 1)]) (by rfl)) (fun _ _ _ _ _ => (pg_name (i := 1) nd rfl (by first | exact Or.inl rfl | exact Or.inr rfl))) (fun _ _ _ _ _ => pts_nil) (fun _ _ _ _ _ => (pe_callB call_abs rfl B.abs bt_abs (pa_cons (pv 1) pa_nil)))) pa_nil)) (pe_callB call_abs rfl B.abs bt_abs (pa_cons (pe_ix ix_seq (pv 0) (pe_un un_neg pe_int) (fun _ _ => rfl)) pa_nil)))))) ?_
    dsimp only [L_bound_of, denS, den, denG, gsOf] <;> rfl
theorem sc_roots_of : FnScope ["row", "chain", "far", "waiting", "found", "low", "high", "many", "middle"] ["row"] (defScope (top 29)) := ⟨rfl, rfl, rfl, by decide +kernel, rfl, by decide +kernel, by decide +kernel⟩
theorem d_roots_of {P : Program} {w : World} {mg : Str → Option Value} {base : Heap} (C : Cn M K) (Cq : CnOk mg C) (Cf : Kg K mg CA) (B : Free mg) (Y : Pyl P K) (A : Df K mg CA) : DefOk P w K mg base 44 "roots_of" ["row"] (spZ M K CA (s_roots_of C Cf.toKf)) := by
  have D_Root_init := d_Root_init (P := P) (w := w) (base := base) C Cq Cf B Y A
  have D_between := d_between (P := P) (w := w) (base := base) C Cq Cf B Y A
  have D_count_roots := d_count_roots (P := P) (w := w) (base := base) C Cq Cf B Y A
  have D_chain_of := d_chain_of (P := P) (w := w) (base := base) C Cq Cf B Y A
  have D_bound_of := d_bound_of (P := P) (w := w) (base := base) C Cq Cf B Y A
  have D_simple := d_simple (P := P) (w := w) (base := base) C Cq Cf B Y A
  refine DefAt.okZF (N := ["row", "chain", "far", "waiting", "found", "low", "high", "many", "middle"]) (ps := ["row"]) (k := 43) (L := fun S as => (L_roots_of C Cf.toKf 1000000000000)) A.roots_of sc_roots_of ?_ ?_
  · exact (fun _ _ _ _ _ _ us hl => match us, hl with | [_], _ => rfl)
  · intro S as f cdv Ar outer s H E hr
    have nd := sc_roots_of.nd
    have tk := takes_of (X := ctx P w K mg base ["row", "chain", "far", "waiting", "found", "low", "high", "many", "middle"] "roots_of" (defScope (top 29)) f cdv Ar outer s H E) (E := E) rfl rfl rfl rfl
    have px : Passes (L2.CX P w) (ctx P w K mg base ["row", "chain", "far", "waiting", "found", "low", "high", "many", "middle"] "roots_of" (defScope (top 29)) f cdv Ar outer s H E) E := passes_call tk fun _ _ _ _ h => h
    refine pss_as (pss_cons (ps_set (i := 0) nd rfl (by first | exact Or.inl rfl | exact Or.inr rfl) (pe_def D_simple (hr.mono (by first | decide | omega)) px (pa_cons (pv 0) pa_nil)))
      (pss_cons (ps_if (pt_cmpR op_lt (pe_callB call_len rfl B.len bt_len (pa_cons (pv 0) pa_nil)) pe_int (nomark _)) (pss_one (ps_ret (pe_lst pa_nil))) pss_nil)
      (pss_cons (ps_par (i := 1) (j := 2) rfl nd rfl rfl (by decide) rfl rfl (pa_cons (pe_def D_chain_of (hr.mono (by first | decide | omega)) px (pa_cons (pv 0) pa_nil)) (pa_cons (pe_def D_bound_of (hr.mono (by first | decide | omega)) px (pa_cons (pv 0) pa_nil)) pa_nil)) (by rfl))
      (pss_cons (ps_par (i := 3) (j := 4) rfl nd rfl rfl (by decide) rfl rfl (pa_cons (pe_lst (pa_cons (pe_tup (pa_cons (pe_tup (pa_cons (pe_un un_neg (pv 2)) (pa_cons pe_int pa_nil))) (pa_cons (pe_tup (pa_cons (pv 2) (pa_cons pe_int pa_nil))) pa_nil))) pa_nil)) (pa_cons (pe_lst pa_nil) pa_nil)) (by rfl))
      (pss_cons (ps_while (passes_of rfl) (pt_cmpR (op_neD hr.units) (pv 3) (pe_lst pa_nil) (nomark _)) (pss_cons (ps_asg (pe_bm0 PySem.F.plainAttrs_list PySem.F.slot_list_pop PySem.F.type_list_pop mt_pop (pv 3)) (pg_tup rfl (pgs_cons (pg_name (i := 5) nd rfl (by first | exact Or.inl rfl | exact Or.inr rfl)) (pgs_cons (pg_name (i := 6) nd rfl (by first | exact Or.inl rfl | exact Or.inr rfl)) pgs_nil))))
      (pss_cons (ps_set (i := 7) nd rfl (by first | exact Or.inl rfl | exact Or.inr rfl) (pe_def D_count_roots (hr.mono (by first | decide | omega)) px (pa_cons (pv 1) (pa_cons (pv 5) (pa_cons (pv 6) pa_nil)))))
      (pss_one (ps_if (pt_cmpR (op_eqD hr.units) (pv 7) pe_int (nomark _)) (pss_one (ps_expr (pe_bm PySem.F.plainAttrs_list PySem.F.slot_list_append PySem.F.type_list_append mt_append (pv 4) (pa_cons (pe_makeZ D_Root_init Cf.k_Root (hr.mono (by first | decide | omega)) px (pa_cons (pv 0) (pa_cons (pv 1) (pa_cons (pv 5) (pa_cons (pv 6) pa_nil))))) pa_nil)))) (pss_one (ps_if (pt_cmpR op_gt (pv 7) pe_int (nomark _)) (pss_cons (ps_set (i := 8) nd rfl (by first | exact Or.inl rfl | exact Or.inr rfl) (pe_def D_between (hr.mono (by first | decide | omega)) px (pa_cons (pv 5) (pa_cons (pv 6) pa_nil))))
      (pss_one (ps_set (i := 3) nd rfl (by first | exact Or.inl rfl | exact Or.inr rfl) (pe_op op_addU (pv 3) (pe_lst (pa_cons (pe_tup (pa_cons (pv 8) (pa_cons (pv 6) pa_nil))) (pa_cons (pe_tup (pa_cons (pv 5) (pa_cons (pv 8) pa_nil))) pa_nil))))))) pss_nil)))))))
      (pss_one (ps_ret (pv 4)))))))) ?_
    dsimp only [L_roots_of, denSz, denz, denAg, den, denG, gsOf] <;> rfl
theorem sc_led_into : FnScope ["outer", "inner", "some", "at", "gap", "row", "led", "roots", "rows", "place", "top", "bottom"] ["outer", "inner"] (defScope (top 57)) := ⟨rfl, rfl, rfl, by decide +kernel, rfl, by decide +kernel, by decide +kernel⟩
theorem d_led_into {P : Program} {w : World} {mg : Str → Option Value} {base : Heap} (C : Cn M K) (Cq : CnOk mg C) (Cf : Kg K mg CA) (B : Free mg) (Y : Pyl P K) (A : Df K mg CA) : DefOk P w K mg base 46 "led_into" ["outer", "inner"] (spZ M K CA (s_led_into C Cf.toKf)) := by
  have D_joined := d_joined (P := P) (w := w) (base := base) C Cq Cf B Y A
  have D_places_between := d_places_between (P := P) (w := w) (base := base) C Cq Cf B Y A
  have D_put_in := d_put_in (P := P) (w := w) (base := base) C Cq Cf B Y A
  have D_Bent_row_at := d_Bent_row_at (P := P) (w := w) (base := base) C Cq Cf B Y A
  have D_lowest := d_lowest (P := P) (w := w) (base := base) C Cq Cf B Y A
  have D_value_at := d_value_at (P := P) (w := w) (base := base) C Cq Cf B Y A
  have D_sorted_roots := d_sorted_roots (P := P) (w := w) (base := base) C Cq Cf B Y A
  have D_roots_of := d_roots_of (P := P) (w := w) (base := base) C Cq Cf B Y A
  have D_row_sum := d_row_sum (P := P) (w := w) (base := base) C Cq Cf B Y A
  refine DefAt.okZF (N := ["outer", "inner", "some", "at", "gap", "row", "led", "roots", "rows", "place", "top", "bottom"]) (ps := ["outer", "inner"]) (k := 45) (L := fun S as => (L_led_into C Cf.toKf)) A.led_into sc_led_into ?_ ?_
  · exact (fun _ _ _ _ _ _ us hl => match us, hl with | [_, _], _ => rfl)
  · intro S as f cdv Ar outer s H E hr
    have nd := sc_led_into.nd
    have tk := takes_of (X := ctx P w K mg base ["outer", "inner", "some", "at", "gap", "row", "led", "roots", "rows", "place", "top", "bottom"] "led_into" (defScope (top 57)) f cdv Ar outer s H E) (E := E) rfl rfl rfl rfl
    have px : Passes (L2.CX P w) (ctx P w K mg base ["outer", "inner", "some", "at", "gap", "row", "led", "roots", "rows", "place", "top", "bottom"] "led_into" (defScope (top 57)) f cdv Ar outer s H E) E := passes_call tk fun _ _ _ _ h => h
    refine pss_as (pss_cons (ps_set (i := 2) nd rfl (by first | exact Or.inl rfl | exact Or.inr rfl) (pe_lst pa_nil))
      (pss_cons (ps_for (passes_of rfl) rfl (pi_range1 rfl B.range (pa_cons (pe_callB call_len rfl B.len bt_len (pa_cons (pe_fld (pv 0) rfl) pa_nil)) pa_nil)) (pg_name (i := 3) nd rfl (by first | exact Or.inl rfl | exact Or.inr rfl)) (pss_cons (ps_set (i := 4) nd rfl (by first | exact Or.inl rfl | exact Or.inr rfl) (pe_def D_row_sum (hr.mono (by first | decide | omega)) px (pa_cons (pe_ix ix_seq (pe_fld (pv 0) rfl) (pv 3) (fun _ _ => rfl)) (pa_cons (pe_ix ix_seq (pe_fld (pv 0) rfl) (pe_op op_addU (pv 3) pe_int) (fun _ _ => rfl)) (pa_cons (pe_un un_neg pe_int) pa_nil)))))
      (pss_one (ps_for (passes_of rfl) rfl (pi_seq (pe_fld (pv 1) rfl)) (pg_name (i := 5) nd rfl (by first | exact Or.inl rfl | exact Or.inr rfl)) (pss_cons (ps_set (i := 6) nd rfl (by first | exact Or.inl rfl | exact Or.inr rfl) (pe_def D_put_in (hr.mono (by first | decide | omega)) px (pa_cons (pv 4) (pa_cons (pv 5) pa_nil))))
      (pss_one (ps_set (i := 2) nd rfl (by first | exact Or.inl rfl | exact Or.inr rfl) (pe_op op_addU (pv 2) (pe_ifExp (pt_cmpR (op_neD hr.units) (pv 6) (pe_tup pa_nil) (nomark _)) (pe_def D_roots_of (hr.mono (by first | decide | omega)) px (pa_cons (pv 6) pa_nil)) (pe_lst pa_nil))))))))))
      (pss_cons (ps_par (i := 7) (j := 8) rfl nd rfl rfl (by decide) rfl rfl (pa_cons (pe_def D_sorted_roots (hr.mono (by first | decide | omega)) px (pa_cons (pe_op op_addU (pe_fld (pv 1) rfl) (pv 2)) pa_nil)) (pa_cons (pe_lst pa_nil) pa_nil)) (by rfl))
      (pss_cons (ps_for (passes_of rfl) rfl (pi_seq (pe_def D_places_between (hr.mono (by first | decide | omega)) px (pa_cons (pv 7) pa_nil))) (pg_name (i := 9) nd rfl (by first | exact Or.inl rfl | exact Or.inr rfl)) (pss_cons (ps_set (i := 5) nd rfl (by first | exact Or.inl rfl | exact Or.inr rfl) (pe_methZ D_Bent_row_at Cf.c_Bent (hr.mono (by first | decide | omega)) px (pv 1) (pa_cons (pv 9) pa_nil)))
      (pss_cons (ps_asg (pe_def D_value_at (hr.mono (by first | decide | omega)) px (pa_cons (pv 5) (pa_cons (pv 9) pa_nil))) (pg_tup rfl (pgs_cons (pg_name (i := 10) nd rfl (by first | exact Or.inl rfl | exact Or.inr rfl)) (pgs_cons (pg_name (i := 11) nd rfl (by first | exact Or.inl rfl | exact Or.inr rfl)) pgs_nil))))
      (pss_one (ps_expr (pe_bm PySem.F.plainAttrs_list PySem.F.slot_list_append PySem.F.type_list_append mt_append (pv 8) (pa_cons (pe_def D_put_in (hr.mono (by first | decide | omega)) px (pa_cons (pe_methZ D_Bent_row_at Cf.c_Bent (hr.mono (by first | decide | omega)) px (pv 0) (pa_cons (pe_def D_lowest (hr.mono (by first | decide | omega)) px (pa_cons (pv 10) (pa_cons (pv 11) pa_nil))) pa_nil)) (pa_cons (pv 5) pa_nil))) pa_nil)))))))
      (pss_one (ps_ret (pe_def D_joined (hr.mono (by first | decide | omega)) px (pa_cons (pv 8) (pa_cons (pv 7) pa_nil))))))))) ?_
    dsimp only [L_led_into, denSz, denz, denAg, den, denG, gsOf] <;> rfl
theorem sc_crossings : FnScope ["one", "other", "roots", "found", "known", "place", "gap"] ["one", "other", "roots"] (defScope (top 55)) := ⟨rfl, rfl, rfl, by decide +kernel, rfl, by decide +kernel, by decide +kernel⟩
theorem d_crossings {P : Program} {w : World} {mg : Str → Option Value} {base : Heap} (C : Cn M K) (Cq : CnOk mg C) (Cf : Kg K mg CA) (B : Free mg) (Y : Pyl P K) (A : Df K mg CA) : DefOk P w K mg base 46 "crossings" ["one", "other", "roots"] (spZ M K CA (s_crossings C Cf.toKf)) := by
  have D_places_between := d_places_between (P := P) (w := w) (base := base) C Cq Cf B Y A
  have D_roots_of := d_roots_of (P := P) (w := w) (base := base) C Cq Cf B Y A
  have D_row_sum := d_row_sum (P := P) (w := w) (base := base) C Cq Cf B Y A
  have D_Bent_row_at := d_Bent_row_at (P := P) (w := w) (base := base) C Cq Cf B Y A
  refine DefAt.okZF (N := ["one", "other", "roots", "found", "known", "place", "gap"]) (ps := ["one", "other", "roots"]) (k := 45) (L := fun S as => (L_crossings C Cf.toKf)) A.crossings sc_crossings ?_ ?_
  · exact (fun _ _ _ _ _ _ us hl => match us, hl with | [_, _, _], _ => rfl)
  · intro S as f cdv Ar outer s H E hr
    have nd := sc_crossings.nd
    have tk := takes_of (X := ctx P w K mg base ["one", "other", "roots", "found", "known", "place", "gap"] "crossings" (defScope (top 55)) f cdv Ar outer s H E) (E := E) rfl rfl rfl rfl
    have px : Passes (L2.CX P w) (ctx P w K mg base ["one", "other", "roots", "found", "known", "place", "gap"] "crossings" (defScope (top 55)) f cdv Ar outer s H E) E := passes_call tk fun _ _ _ _ h => h
    refine pss_as (pss_cons (ps_par (i := 3) (j := 4) rfl nd rfl rfl (by decide) rfl rfl (pa_cons (pe_lst pa_nil) (pa_cons pe_dnewT pa_nil)) (by rfl))
      (pss_cons (ps_for (passes_of rfl) rfl (pi_seq (pe_def D_places_between (hr.mono (by first | decide | omega)) px (pa_cons (pv 2) pa_nil))) (pg_name (i := 5) nd rfl (by first | exact Or.inl rfl | exact Or.inr rfl)) (pss_cons (ps_set (i := 6) nd rfl (by first | exact Or.inl rfl | exact Or.inr rfl) (pe_def D_row_sum (hr.mono (by first | decide | omega)) px (pa_cons (pe_methZ D_Bent_row_at Cf.c_Bent (hr.mono (by first | decide | omega)) px (pv 0) (pa_cons (pv 5) pa_nil)) (pa_cons (pe_methZ D_Bent_row_at Cf.c_Bent (hr.mono (by first | decide | omega)) px (pv 1) (pa_cons (pv 5) pa_nil)) (pa_cons (pe_un un_neg pe_int) pa_nil)))))
      (pss_one (ps_if (PW.pt (pw_and (pt_cmpR (op_neD hr.units) (pv 6) (pe_tup pa_nil) (nomark _)) (pw_and1 (pt_cmp (pc_dnotin (units1 hr) (pv 6) (pv 4)))))) (pss_cons (ps_dput (units1 hr) (pv 4) (pv 6) pe_bl rfl)
      (pss_one (ps_set (i := 3) nd rfl (by first | exact Or.inl rfl | exact Or.inr rfl) (pe_op op_addU (pv 3) (pe_def D_roots_of (hr.mono (by first | decide | omega)) px (pa_cons (pv 6) pa_nil)))))) pss_nil))))
      (pss_one (ps_ret (pv 3))))) ?_
    dsimp only [L_crossings, denSz, denz, denAg, den, denG, gsOf] <;> rfl
theorem sc_put_together : FnScope ["one", "other", "kind", "roots", "rows", "place", "first", "second", "sign"] ["one", "other", "kind"] (defScope (top 56)) := ⟨rfl, rfl, rfl, by decide +kernel, rfl, by decide +kernel, by decide +kernel⟩
theorem d_put_together {P : Program} {w : World} {mg : Str → Option Value} {base : Heap} (C : Cn M K) (Cq : CnOk mg C) (Cf : Kg K mg CA) (B : Free mg) (Y : Pyl P K) (A : Df K mg CA) : DefOk P w K mg base 47 "put_together" ["one", "other", "kind"] (spZ M K CA (s_put_together C Cf.toKf)) := by
  have D_joined := d_joined (P := P) (w := w) (base := base) C Cq Cf B Y A
  have D_places_between := d_places_between (P := P) (w := w) (base := base) C Cq Cf B Y A
  have D_row_sum := d_row_sum (P := P) (w := w) (base := base) C Cq Cf B Y A
  have D_row_product := d_row_product (P := P) (w := w) (base := base) C Cq Cf B Y A
  have D_sign_at := d_sign_at (P := P) (w := w) (base := base) C Cq Cf B Y A
  have D_Bent_row_at := d_Bent_row_at (P := P) (w := w) (base := base) C Cq Cf B Y A
  have D_sorted_roots := d_sorted_roots (P := P) (w := w) (base := base) C Cq Cf B Y A
  have D_crossings := d_crossings (P := P) (w := w) (base := base) C Cq Cf B Y A
  refine DefAt.okZF (N := ["one", "other", "kind", "roots", "rows", "place", "first", "second", "sign"]) (ps := ["one", "other", "kind"]) (k := 46) (L := fun S as => (L_put_together C Cf.toKf)) A.put_together sc_put_together ?_ ?_
  · exact (fun _ _ _ _ _ _ us hl => match us, hl with | [_, _, _], _ => rfl)
  · intro S as f cdv Ar outer s H E hr
    have nd := sc_put_together.nd
    have tk := takes_of (X := ctx P w K mg base ["one", "other", "kind", "roots", "rows", "place", "first", "second", "sign"] "put_together" (defScope (top 56)) f cdv Ar outer s H E) (E := E) rfl rfl rfl rfl
    have px : Passes (L2.CX P w) (ctx P w K mg base ["one", "other", "kind", "roots", "rows", "place", "first", "second", "sign"] "put_together" (defScope (top 56)) f cdv Ar outer s H E) E := passes_call tk fun _ _ _ _ h => h
    refine pss_as (pss_cons (ps_set (i := 3) nd rfl (by first | exact Or.inl rfl | exact Or.inr rfl) (pe_def D_sorted_roots (hr.mono (by first | decide | omega)) px (pa_cons (pe_op op_addU (pe_fld (pv 0) rfl) (pe_fld (pv 1) rfl)) pa_nil)))
      (pss_cons (ps_if (pt_cmpR (op_inU (units65 hr)) (pv 2) (pe_tup (pa_cons pe_str (pa_cons pe_str pa_nil))) rfl) (pss_one (ps_set (i := 3) nd rfl (by first | exact Or.inl rfl | exact Or.inr rfl) (pe_def D_sorted_roots (hr.mono (by first | decide | omega)) px (pa_cons (pe_op op_addU (pv 3) (pe_def D_crossings (hr.mono (by first | decide | omega)) px (pa_cons (pv 0) (pa_cons (pv 1) (pa_cons (pv 3) pa_nil))))) pa_nil)))) pss_nil)
      (pss_cons (ps_set (i := 4) nd rfl (by first | exact Or.inl rfl | exact Or.inr rfl) (pe_lst pa_nil))
      (pss_cons (ps_for (passes_of rfl) rfl (pi_seq (pe_def D_places_between (hr.mono (by first | decide | omega)) px (pa_cons (pv 3) pa_nil))) (pg_name (i := 5) nd rfl (by first | exact Or.inl rfl | exact Or.inr rfl)) (pss_cons (ps_par (i := 6) (j := 7) rfl nd rfl rfl (by decide) rfl rfl (pa_cons (pe_methZ D_Bent_row_at Cf.c_Bent (hr.mono (by first | decide | omega)) px (pv 0) (pa_cons (pv 5) pa_nil)) (pa_cons (pe_methZ D_Bent_row_at Cf.c_Bent (hr.mono (by first | decide | omega)) px (pv 1) (pa_cons (pv 5) pa_nil)) pa_nil)) (by rfl))
      (pss_one (ps_if (pt_cmpR (op_eqD hr.units) (pv 2) pe_str (nomark _)) (pss_one (ps_expr (pe_bm PySem.F.plainAttrs_list PySem.F.slot_list_append PySem.F.type_list_append mt_append (pv 4) (pa_cons (pe_def D_row_sum (hr.mono (by first | decide | omega)) px (pa_cons (pv 6) (pa_cons (pv 7) (pa_cons pe_int pa_nil)))) pa_nil)))) (pss_one (ps_if (pt_cmpR (op_eqD hr.units) (pv 2) pe_str (nomark _)) (pss_one (ps_expr (pe_bm PySem.F.plainAttrs_list PySem.F.slot_list_append PySem.F.type_list_append mt_append (pv 4) (pa_cons (pe_def D_row_product (hr.mono (by first | decide | omega)) px (pa_cons (pv 6) (pa_cons (pv 7) pa_nil))) pa_nil)))) (pss_cons (ps_set (i := 8) nd rfl (by first | exact Or.inl rfl | exact Or.inr rfl) (pe_op op_mulU (pe_def D_sign_at (hr.mono (by first | decide | omega)) px (pa_cons (pe_def D_row_sum (hr.mono (by first | decide | omega)) px (pa_cons (pv 6) (pa_cons (pv 7) (pa_cons (pe_un un_neg pe_int) pa_nil)))) (pa_cons (pv 5) pa_nil))) (pe_ifExp (pt_cmpR (op_eqD hr.units) (pv 2) pe_str (nomark _)) pe_int (pe_un un_neg pe_int))))
      (pss_one (ps_expr (pe_bm PySem.F.plainAttrs_list PySem.F.slot_list_append PySem.F.type_list_append mt_append (pv 4) (pa_cons (pe_ifExp (pt_cmpR op_ge (pv 8) pe_int (nomark _)) (pv 6) (pv 7)) pa_nil)))))))))))
      (pss_one (ps_ret (pe_def D_joined (hr.mono (by first | decide | omega)) px (pa_cons (pv 4) (pa_cons (pv 3) pa_nil))))))))) ?_
    dsimp only [L_put_together, denSz, denz, denAg, den, denG, gsOf] <;> rfl
theorem sc_bent_of : FnScope ["curve", "kind", "one", "row", "other"] ["curve"] (defScope (top 58)) := ⟨rfl, rfl, rfl, by decide +kernel, rfl, by decide +kernel, by decide +kernel⟩
theorem d_bent_of_n {P : Program} {w : World} {mg : Str → Option Value} {base : Heap} (C : Cn M K) (Cq : CnOk mg C) (Cf : Kg K mg CA) (B : Free mg) (Y : Pyl P K) (A : Df K mg CA) : ∀ n : Nat, DefOk P w K mg base (48 + n) "bent_of" ["curve"] (spZ M K CA (s_bent_of C Cf.toKf n))
  | 0 => DefAt.noneZ (N := ["curve", "kind", "one", "row", "other"]) (k := 47) A.bent_of sc_bent_of (fun _ _ _ _ _ _ us hl => match us, hl with | [_], _ => rfl)
  | n + 1 => by
    have D_bent_of := d_bent_of_n (P := P) (w := w) (base := base) C Cq Cf B Y A n
    have D_led_into := d_led_into (P := P) (w := w) (base := base) C Cq Cf B Y A
    have D_put_together := d_put_together (P := P) (w := w) (base := base) C Cq Cf B Y A
    have D_Bent_init := d_Bent_init (P := P) (w := w) (base := base) C Cq Cf B Y A
    have D_row_sum := d_row_sum (P := P) (w := w) (base := base) C Cq Cf B Y A
    refine DefAt.okZF (N := ["curve", "kind", "one", "row", "other"]) (ps := ["curve"]) (k := 48 + n) (L := fun S as => (L_bent_of C Cf.toKf (s_bent_of C Cf.toKf n))) A.bent_of sc_bent_of ?_ ?_
    · exact (fun _ _ _ _ _ _ us hl => match us, hl with | [_], _ => rfl)
    · intro S as f cdv Ar outer s H E hr
      have nd := sc_bent_of.nd
      have tk := takes_of (X := ctx P w K mg base ["curve", "kind", "one", "row", "other"] "bent_of" (defScope (top 58)) f cdv Ar outer s H E) (E := E) rfl rfl rfl rfl
      have px : Passes (L2.CX P w) (ctx P w K mg base ["curve", "kind", "one", "row", "other"] "bent_of" (defScope (top 58)) f cdv Ar outer s H E) E := passes_call tk fun _ _ _ _ h => h
      refine pss_as (pss_cons (ps_set (i := 1) nd rfl (by first | exact Or.inl rfl | exact Or.inr rfl) (pe_ix ix_seq (pv 0) pe_int (fun _ _ => rfl)))
        (pss_cons (ps_if (pt_cmpR (op_eqD hr.units) (pv 1) pe_str (nomark _)) (pss_one (ps_ret (pe_makeZ D_Bent_init Cf.k_Bent (hr.mono (by first | decide | omega)) px (pa_cons (pe_lst (pa_cons (pe_ifExp (pt_cmpR (op_neD hr.units) (pe_ix ix_seq (pv 0) pe_int (fun _ _ => rfl)) pe_int (nomark _)) (pe_tup (pa_cons (pe_ix ix_seq (pv 0) pe_int (fun _ _ => rfl)) pa_nil)) (pe_tup pa_nil)) pa_nil)) (pa_cons (pe_lst pa_nil) pa_nil))))) pss_nil)
        (pss_cons (ps_if (pt_cmpR (op_eqD hr.units) (pv 1) pe_str (nomark _)) (pss_one (ps_ret (pe_makeZ D_Bent_init Cf.k_Bent (hr.mono (by first | decide | omega)) px (pa_cons (pe_lst (pa_cons (pe_tup (pa_cons pe_int (pa_cons pe_int pa_nil))) pa_nil)) (pa_cons (pe_lst pa_nil) pa_nil))))) pss_nil)
        (pss_cons (ps_set (i := 2) nd rfl (by first | exact Or.inl rfl | exact Or.inr rfl) (pe_def D_bent_of (hr.mono (by first | decide | omega)) px (pa_cons (pe_ix ix_seq (pv 0) pe_int (fun _ _ => rfl)) pa_nil)))
        (pss_cons (ps_if (pt_cmpR (op_eqD hr.units) (pv 1) pe_str (nomark _)) (pss_one (ps_ret (pe_def D_put_together (hr.mono (by first | decide | omega)) px (pa_cons (pv 2) (pa_cons (pe_makeZ D_Bent_init Cf.k_Bent (hr.mono (by first | decide | omega)) px (pa_cons (pe_lc (own := [("row", 3)]) (by rfl) nd (pi_seq (pe_fld (pv 2) rfl)) (blkOk_by (own := [("row", 3)]) (by rfl)) (fun _ _ _ _ _ => (pg_name (i := 3) nd rfl (by first | exact Or.inl rfl | exact Or.inr rfl))) (fun _ _ _ _ _ => pts_nil) (fun _ _ _ _ _ => (pe_def D_row_sum (hr.mono (by first | decide | omega)) passL (pa_cons (pe_tup pa_nil) (pa_cons (pv 3) (pa_cons (pe_un un_neg pe_int) pa_nil)))))) (pa_cons (pe_fld (pv 2) rfl) pa_nil))) (pa_cons pe_str pa_nil)))))) pss_nil)
        (pss_cons (ps_set (i := 4) nd rfl (by first | exact Or.inl rfl | exact Or.inr rfl) (pe_def D_bent_of (hr.mono (by first | decide | omega)) px (pa_cons (pe_ix ix_seq (pv 0) pe_int (fun _ _ => rfl)) pa_nil)))
        (pss_one (ps_ret (pe_ifExp (pt_cmpR (op_eqD hr.units) (pv 1) pe_str (nomark _)) (pe_def D_led_into (hr.mono (by first | decide | omega)) px (pa_cons (pv 2) (pa_cons (pv 4) pa_nil))) (pe_def D_put_together (hr.mono (by first | decide | omega)) px (pa_cons (pv 2) (pa_cons (pv 4) (pa_cons (pv 1) pa_nil))))))))))))) ?_
      dsimp only [L_bent_of, denSz, denz, denAg, den, denG, gsOf] <;> rfl
theorem d_bent_of {P : Program} {w : World} {mg : Str → Option Value} {base : Heap} (C : Cn M K) (Cq : CnOk mg C) (Cf : Kg K mg CA) (B : Free mg) (Y : Pyl P K) (A : Df K mg CA) : DefOk P w K mg base 68 "bent_of" ["curve"] (spZ M K CA (s_bent_of C Cf.toKf 20)) := d_bent_of_n C Cq Cf B Y A 20
theorem sc_parts_of : FnScope ["curve"] ["curve"] (defScope (top 45)) := ⟨rfl, rfl, rfl, by decide +kernel, rfl, by decide +kernel, by decide +kernel⟩
theorem d_parts_of {P : Program} {w : World} {mg : Str → Option Value} {base : Heap} (C : Cn M K) (Cq : CnOk mg C) (Cf : Kg K mg CA) (B : Free mg) (Y : Pyl P K) (A : Df K mg CA) : DefOk P w K mg base 1 "parts_of" ["curve"] (spD M K (s_parts_of C Cf.toKf)) := by
  refine DefAt.okSF (N := ["curve"]) (ps := ["curve"]) (k := 0) (L := fun as => (L_parts_of C Cf.toKf)) A.parts_of sc_parts_of ?_ ?_
  · exact (fun _ _ _ _ _ _ us hl => match us, hl with | [_], _ => rfl)
  · intro as f cdv Ar outer s H E hr
    have nd := sc_parts_of.nd
    have tk := takes_of (X := ctx P w K mg base ["curve"] "parts_of" (defScope (top 45)) f cdv Ar outer s H E) (E := E) rfl rfl rfl rfl
    have px : Passes (L2.CX P w) (ctx P w K mg base ["curve"] "parts_of" (defScope (top 45)) f cdv Ar outer s H E) E := passes_call tk fun _ _ _ _ h => h
    refine pss_as (pss_one (ps_ret (pe_ifExp (pt_cmpR (op_inU (units65 hr)) (pe_ix ix_seq (pv 0) pe_int (fun _ _ => rfl)) (pe_tup (pa_cons pe_str (pa_cons pe_str pa_nil))) rfl) (pe_lst pa_nil) (pe_callTy call_list_of rfl B.list bt_list (pa_cons (pe_slice sl_any (pv 0) (po_some pe_int) po_none) pa_nil))))) ?_
    dsimp only [L_parts_of, denS, den, denG, gsOf] <;> rfl
theorem sc_degree_of : FnScope ["curve", "degrees", "part"] ["curve"] (defScope (top 47)) := ⟨rfl, rfl, rfl, by decide +kernel, rfl, by decide +kernel, by decide +kernel⟩
theorem d_degree_of_n {P : Program} {w : World} {mg : Str → Option Value} {base : Heap} (C : Cn M K) (Cq : CnOk mg C) (Cf : Kg K mg CA) (B : Free mg) (Y : Pyl P K) (A : Df K mg CA) : ∀ n : Nat, DefOk P w K mg base (2 + n) "degree_of" ["curve"] (spD M K (s_degree_of C Cf.toKf n))
  | 0 => DefAt.noneS (N := ["curve", "degrees", "part"]) (k := 1) A.degree_of sc_degree_of (fun _ _ _ _ _ _ us hl => match us, hl with | [_], _ => rfl)
  | n + 1 => by
    have D_degree_of := d_degree_of_n (P := P) (w := w) (base := base) C Cq Cf B Y A n
    have D_parts_of := d_parts_of (P := P) (w := w) (base := base) C Cq Cf B Y A
    refine DefAt.okSF (N := ["curve", "degrees", "part"]) (ps := ["curve"]) (k := 2 + n) (L := fun as => (L_degree_of C Cf.toKf (s_degree_of C Cf.toKf n))) A.degree_of sc_degree_of ?_ ?_
    · exact (fun _ _ _ _ _ _ us hl => match us, hl with | [_], _ => rfl)
    · intro as f cdv Ar outer s H E hr
      have nd := sc_degree_of.nd
      have tk := takes_of (X := ctx P w K mg base ["curve", "degrees", "part"] "degree_of" (defScope (top 47)) f cdv Ar outer s H E) (E := E) rfl rfl rfl rfl
      have px : Passes (L2.CX P w) (ctx P w K mg base ["curve", "degrees", "part"] "degree_of" (defScope (top 47)) f cdv Ar outer s H E) E := passes_call tk fun _ _ _ _ h => h
      refine pss_as (pss_cons (ps_if (pt_cmpR (op_inU (units65 hr)) (pe_ix ix_seq (pv 0) pe_int (fun _ _ => rfl)) (pe_tup (pa_cons pe_str (pa_cons pe_str pa_nil))) rfl) (pss_one (ps_ret (pe_ifExp (pt_cmpR (op_eqD hr.units) (pe_ix ix_seq (pv 0) pe_int (fun _ _ => rfl)) pe_str (nomark _)) pe_int pe_int))) pss_nil)
        (pss_cons (ps_setLc (i := 1) rfl nd rfl rfl (by with_unfolding_all rfl) (pi_seq (pe_def D_parts_of (hr.mono (by first | decide | omega)) px (pa_cons (pv 0) pa_nil))) (blkOk_by (own := [("part", 2)]) (by rfl)) (fun _ _ _ _ _ => (pg_name (i := 2) nd rfl (by first | exact Or.inl rfl | exact Or.inr rfl))) (fun _ _ _ _ _ => pts_nil) (fun _ _ _ _ _ => (pe_def D_degree_of (hr.mono (by first | decide | omega)) passL (pa_cons (pv 2) pa_nil))))
        (pss_cons (ps_if (pt_cmpR (op_eqD hr.units) (pe_ix ix_seq (pv 0) pe_int (fun _ _ => rfl)) pe_str (nomark _)) (pss_one (ps_ret (pe_op op_addU (pe_ix ix_seq (pv 1) pe_int (fun _ _ => rfl)) (pe_ix ix_seq (pv 1) pe_int (fun _ _ => rfl))))) pss_nil)
        (pss_cons (ps_if (pt_cmpR (op_eqD hr.units) (pe_ix ix_seq (pv 0) pe_int (fun _ _ => rfl)) pe_str (nomark _)) (pss_one (ps_ret (pe_op op_mulU (pe_ix ix_seq (pv 1) pe_int (fun _ _ => rfl)) (pe_ix ix_seq (pv 1) pe_int (fun _ _ => rfl))))) pss_nil)
        (pss_one (ps_ret (pe_callB (cr_max rfl) rfl B.max bt_max (pa_cons (pv 1) pa_nil)))))))) ?_
      dsimp only [L_degree_of, denS, den, denG, gsOf] <;> rfl
theorem d_degree_of {P : Program} {w : World} {mg : Str → Option Value} {base : Heap} (C : Cn M K) (Cq : CnOk mg C) (Cf : Kg K mg CA) (B : Free mg) (Y : Pyl P K) (A : Df K mg CA) : DefOk P w K mg base 22 "degree_of" ["curve"] (spD M K (s_degree_of C Cf.toKf 20)) := d_degree_of_n C Cq Cf B Y A 20
theorem sc_highest : FnScope ["curve", "part"] ["curve"] (defScope (top 49)) := ⟨rfl, rfl, rfl, by decide +kernel, rfl, by decide +kernel, by decide +kernel⟩
theorem d_highest_n {P : Program} {w : World} {mg : Str → Option Value} {base : Heap} (C : Cn M K) (Cq : CnOk mg C) (Cf : Kg K mg CA) (B : Free mg) (Y : Pyl P K) (A : Df K mg CA) : ∀ n : Nat, DefOk P w K mg base (23 + n) "highest" ["curve"] (spD M K (s_highest C Cf.toKf n))
  | 0 => DefAt.noneS (N := ["curve", "part"]) (k := 22) A.highest sc_highest (fun _ _ _ _ _ _ us hl => match us, hl with | [_], _ => rfl)
  | n + 1 => by
    have D_highest := d_highest_n (P := P) (w := w) (base := base) C Cq Cf B Y A n
    have D_degree_of := d_degree_of (P := P) (w := w) (base := base) C Cq Cf B Y A
    have D_parts_of := d_parts_of (P := P) (w := w) (base := base) C Cq Cf B Y A
    refine DefAt.okSF (N := ["curve", "part"]) (ps := ["curve"]) (k := 23 + n) (L := fun as => (L_highest C Cf.toKf (s_highest C Cf.toKf n))) A.highest sc_highest ?_ ?_
    · exact (fun _ _ _ _ _ _ us hl => match us, hl with | [_], _ => rfl)
    · intro as f cdv Ar outer s H E hr
      have nd := sc_highest.nd
      have tk := takes_of (X := ctx P w K mg base ["curve", "part"] "highest" (defScope (top 49)) f cdv Ar outer s H E) (E := E) rfl rfl rfl rfl
      have px : Passes (L2.CX P w) (ctx P w K mg base ["curve", "part"] "highest" (defScope (top 49)) f cdv Ar outer s H E) E := passes_call tk fun _ _ _ _ h => h
      refine pss_as (pss_one (ps_ret (pe_callB (cr_max rfl) rfl B.max bt_max (pa_cons (pe_op op_addU (pe_lst (pa_cons (pe_def D_degree_of (hr.mono (by first | decide | omega)) px (pa_cons (pv 0) pa_nil)) pa_nil)) (pe_lc (own := [("part", 1)]) (by rfl) nd (pi_seq (pe_def D_parts_of (hr.mono (by first | decide | omega)) px (pa_cons (pv 0) pa_nil))) (blkOk_by (own := [("part", 1)]) (by rfl)) (fun _ _ _ _ _ => (pg_name (i := 1) nd rfl (by first | exact Or.inl rfl | exact Or.inr rfl))) (fun _ _ _ _ _ => pts_nil) (fun _ _ _ _ _ => (pe_def D_highest (hr.mono (by first | decide | omega)) passL (pa_cons (pv 1) pa_nil))))) pa_nil)))) ?_
      dsimp only [L_highest, denS, den, denG, gsOf] <;> rfl
theorem d_highest {P : Program} {w : World} {mg : Str → Option Value} {base : Heap} (C : Cn M K) (Cq : CnOk mg C) (Cf : Kg K mg CA) (B : Free mg) (Y : Pyl P K) (A : Df K mg CA) : DefOk P w K mg base 43 "highest" ["curve"] (spD M K (s_highest C Cf.toKf 20)) := d_highest_n C Cq Cf B Y A 20
theorem sc_size_of : FnScope ["curve", "part"] ["curve"] (defScope (top 46)) := ⟨rfl, rfl, rfl, by decide +kernel, rfl, by decide +kernel, by decide +kernel⟩
theorem d_size_of_n {P : Program} {w : World} {mg : Str → Option Value} {base : Heap} (C : Cn M K) (Cq : CnOk mg C) (Cf : Kg K mg CA) (B : Free mg) (Y : Pyl P K) (A : Df K mg CA) : ∀ n : Nat, DefOk P w K mg base (2 + n) "size_of" ["curve"] (spD M K (s_size_of C Cf.toKf n))
  | 0 => DefAt.noneS (N := ["curve", "part"]) (k := 1) A.size_of sc_size_of (fun _ _ _ _ _ _ us hl => match us, hl with | [_], _ => rfl)
  | n + 1 => by
    have D_size_of := d_size_of_n (P := P) (w := w) (base := base) C Cq Cf B Y A n
    have D_parts_of := d_parts_of (P := P) (w := w) (base := base) C Cq Cf B Y A
    refine DefAt.okSF (N := ["curve", "part"]) (ps := ["curve"]) (k := 2 + n) (L := fun as => (L_size_of C Cf.toKf (s_size_of C Cf.toKf n))) A.size_of sc_size_of ?_ ?_
    · exact (fun _ _ _ _ _ _ us hl => match us, hl with | [_], _ => rfl)
    · intro as f cdv Ar outer s H E hr
      have nd := sc_size_of.nd
      have tk := takes_of (X := ctx P w K mg base ["curve", "part"] "size_of" (defScope (top 46)) f cdv Ar outer s H E) (E := E) rfl rfl rfl rfl
      have px : Passes (L2.CX P w) (ctx P w K mg base ["curve", "part"] "size_of" (defScope (top 46)) f cdv Ar outer s H E) E := passes_call tk fun _ _ _ _ h => h
      refine pss_as (pss_one (ps_ret (pe_op op_addU pe_int (pe_callB (cr_sum rfl) rfl B.sum bt_sum (pa_cons (pe_lc (own := [("part", 1)]) (by rfl) nd (pi_seq (pe_def D_parts_of (hr.mono (by first | decide | omega)) px (pa_cons (pv 0) pa_nil))) (blkOk_by (own := [("part", 1)]) (by rfl)) (fun _ _ _ _ _ => (pg_name (i := 1) nd rfl (by first | exact Or.inl rfl | exact Or.inr rfl))) (fun _ _ _ _ _ => pts_nil) (fun _ _ _ _ _ => (pe_def D_size_of (hr.mono (by first | decide | omega)) passL (pa_cons (pv 1) pa_nil)))) pa_nil))))) ?_
      dsimp only [L_size_of, denS, den, denG, gsOf] <;> rfl
theorem d_size_of {P : Program} {w : World} {mg : Str → Option Value} {base : Heap} (C : Cn M K) (Cq : CnOk mg C) (Cf : Kg K mg CA) (B : Free mg) (Y : Pyl P K) (A : Df K mg CA) : DefOk P w K mg base 22 "size_of" ["curve"] (spD M K (s_size_of C Cf.toKf 20)) := d_size_of_n C Cq Cf B Y A 20
theorem sc_is_whole : FnScope ["value", "low", "high"] ["value", "low", "high"] (defScope (top 6)) := ⟨rfl, rfl, rfl, by decide +kernel, rfl, by decide +kernel, by decide +kernel⟩
theorem d_is_whole {P : Program} {w : World} {mg : Str → Option Value} {base : Heap} (C : Cn M K) (Cq : CnOk mg C) (Cf : Kg K mg CA) (B : Free mg) (Y : Pyl P K) (A : Df K mg CA) : DefOk P w K mg base 1 "is_whole" ["value", "low", "high"] (spD M K (s_is_whole C Cf.toKf)) := by
  refine DefAt.okSF (N := ["value", "low", "high"]) (ps := ["value", "low", "high"]) (k := 0) (L := fun as => (L_is_whole C Cf.toKf)) A.is_whole sc_is_whole ?_ ?_
  · exact (fun _ _ _ _ _ _ us hl => match us, hl with | [_, _, _], _ => rfl)
  · intro as f cdv Ar outer s H E hr
    have nd := sc_is_whole.nd
    have tk := takes_of (X := ctx P w K mg base ["value", "low", "high"] "is_whole" (defScope (top 6)) f cdv Ar outer s H E) (E := E) rfl rfl rfl rfl
    have px : Passes (L2.CX P w) (ctx P w K mg base ["value", "low", "high"] "is_whole" (defScope (top 6)) f cdv Ar outer s H E) E := passes_call tk fun _ _ _ _ h => h
    refine pss_as (pss_one (ps_ret (pe_and (pe_callB call_isi rfl B.isinstance bt_isinstance (pa_cons (pv 0) (pa_cons (pe_bltn (v := .ty "int") rfl B.int bt_int rfl) pa_nil))) (pe_and (pe_not (pe_callB call_isi rfl B.isinstance bt_isinstance (pa_cons (pv 0) (pa_cons (pe_bltn (v := .ty "bool") rfl B.bool bt_bool rfl) pa_nil)))) (pe_one (pe_chain op_le op_le (pv 1) (pv 0) (pv 2))))))) ?_
    dsimp only [L_is_whole, denS, den, denG, gsOf] <;> rfl
theorem sc_is_shaped : FnScope ["value", "deep", "one"] ["value", "deep"] (defScope (top 44)) := ⟨rfl, rfl, rfl, by decide +kernel, rfl, by decide +kernel, by decide +kernel⟩
theorem d_is_shaped_n {P : Program} {w : World} {mg : Str → Option Value} {base : Heap} (C : Cn M K) (Cq : CnOk mg C) (Cf : Kg K mg CA) (B : Free mg) (Y : Pyl P K) (A : Df K mg CA) : ∀ n : Nat, DefOk P w K mg base (2 + n) "is_shaped" ["value", "deep"] (spD M K (s_is_shaped C Cf.toKf n))
  | 0 => DefAt.noneS (N := ["value", "deep", "one"]) (k := 1) A.is_shaped sc_is_shaped (fun _ _ _ _ _ _ us hl => match us, hl with | [_, _], _ => rfl)
  | n + 1 => by
    have D_is_shaped := d_is_shaped_n (P := P) (w := w) (base := base) C Cq Cf B Y A n
    have D_is_whole := d_is_whole (P := P) (w := w) (base := base) C Cq Cf B Y A
    refine DefAt.okSF (N := ["value", "deep", "one"]) (ps := ["value", "deep"]) (k := 2 + n) (L := fun as => (L_is_shaped C Cf.toKf (s_is_shaped C Cf.toKf n))) A.is_shaped sc_is_shaped ?_ ?_
    · exact (fun _ _ _ _ _ _ us hl => match us, hl with | [_, _], _ => rfl)
    · intro as f cdv Ar outer s H E hr
      have nd := sc_is_shaped.nd
      have tk := takes_of (X := ctx P w K mg base ["value", "deep", "one"] "is_shaped" (defScope (top 44)) f cdv Ar outer s H E) (E := E) rfl rfl rfl rfl
      have px : Passes (L2.CX P w) (ctx P w K mg base ["value", "deep", "one"] "is_shaped" (defScope (top 44)) f cdv Ar outer s H E) E := passes_call tk fun _ _ _ _ h => h
      refine pss_as (pss_cons (ps_if (PW.pt (pw_or (pt_cmpR (op_eqD hr.units) (pv 1) pe_int (nomark _)) (pw_or (pt_not (pt_val (pe_callB call_isi rfl B.isinstance bt_isinstance (pa_cons (pv 0) (pa_cons (pe_bltn (v := .ty "tuple") rfl B.tuple bt_tuple rfl) pa_nil))))) (pw_or (pt_cmpR (op_eqD hr.units) (pv 0) (pe_tup pa_nil) (nomark _)) (pw_or1 (pt_not (pt_val (pe_callB call_isi rfl B.isinstance bt_isinstance (pa_cons (pe_ix ix_seq (pv 0) pe_int (fun _ _ => rfl)) (pa_cons (pe_bltn (v := .ty "str") rfl B.str bt_str rfl) pa_nil)))))))))) (pss_one (ps_ret pe_bl)) pss_nil)
        (pss_cons (ps_if (pt_cmpR (op_eqD hr.units) (pe_ix ix_seq (pv 0) pe_int (fun _ _ => rfl)) pe_str (nomark _)) (pss_one (ps_ret (pe_and (pe_cmpR (op_eqD hr.units) (pe_callB call_len rfl B.len bt_len (pa_cons (pv 0) pa_nil)) pe_int (nomark _)) (pe_one (pe_def D_is_whole (hr.mono (by first | decide | omega)) px (pa_cons (pe_ix ix_seq (pv 0) pe_int (fun _ _ => rfl)) (pa_cons (pe_un un_neg pe_int) (pa_cons pe_int pa_nil)))))))) pss_nil)
        (pss_cons (ps_if (pt_cmpR (op_eqD hr.units) (pe_ix ix_seq (pv 0) pe_int (fun _ _ => rfl)) pe_str (nomark _)) (pss_one (ps_ret (pe_cmpR (op_eqD hr.units) (pe_callB call_len rfl B.len bt_len (pa_cons (pv 0) pa_nil)) pe_int (nomark _)))) pss_nil)
        (pss_cons (ps_if (pt_cmpR (op_eqD hr.units) (pe_ix ix_seq (pv 0) pe_int (fun _ _ => rfl)) pe_str (nomark _)) (pss_one (ps_ret (pe_and (pe_cmpR (op_eqD hr.units) (pe_callB call_len rfl B.len bt_len (pa_cons (pv 0) pa_nil)) pe_int (nomark _)) (pe_one (pe_def D_is_shaped (hr.mono (by first | decide | omega)) px (pa_cons (pe_ix ix_seq (pv 0) pe_int (fun _ _ => rfl)) (pa_cons (pe_op op_sub (pv 1) pe_int) pa_nil))))))) pss_nil)
        (pss_one (ps_ret (pe_and (pe_cmpR (op_inU (units65 hr)) (pe_ix ix_seq (pv 0) pe_int (fun _ _ => rfl)) (pe_glob (v := C.v_PAIRS) rfl Cq.PAIRS.choose_spec.1 Cq.PAIRS.choose_spec.2) rfl) (pe_and (pe_cmpR (op_eqD hr.units) (pe_callB call_len rfl B.len bt_len (pa_cons (pv 0) pa_nil)) pe_int (nomark _)) (pe_one (pe_callB (cr_all rfl) rfl B.all bt_all (pa_cons (pe_lc (own := [("one", 2)]) (by rfl) nd (pi_seq (pe_slice sl_any (pv 0) (po_some pe_int) po_none)) (blkOk_by (own := [("one", 2)]) (by rfl)) (fun _ _ _ _ _ => (pg_name (i := 2) nd rfl (by first | exact Or.inl rfl | exact Or.inr rfl))) (fun _ _ _ _ _ => pts_nil) (fun _ _ _ _ _ => (pe_def D_is_shaped (hr.mono (by first | decide | omega)) passL (pa_cons (pv 2) (pa_cons (pe_op op_sub (pv 1) pe_int) pa_nil))))) pa_nil))))))))))) ?_
      dsimp only [L_is_shaped, denS, den, denG, gsOf] <;> rfl
theorem d_is_shaped {P : Program} {w : World} {mg : Str → Option Value} {base : Heap} (C : Cn M K) (Cq : CnOk mg C) (Cf : Kg K mg CA) (B : Free mg) (Y : Pyl P K) (A : Df K mg CA) : DefOk P w K mg base 22 "is_shaped" ["value", "deep"] (spD M K (s_is_shaped C Cf.toKf 20)) := d_is_shaped_n C Cq Cf B Y A 20
theorem sc_is_curve : FnScope ["value"] ["value"] (defScope (top 48)) := ⟨rfl, rfl, rfl, by decide +kernel, rfl, by decide +kernel, by decide +kernel⟩
theorem d_is_curve {P : Program} {w : World} {mg : Str → Option Value} {base : Heap} (C : Cn M K) (Cq : CnOk mg C) (Cf : Kg K mg CA) (B : Free mg) (Y : Pyl P K) (A : Df K mg CA) : DefOk P w K mg base 44 "is_curve" ["value"] (spD M K (s_is_curve C Cf.toKf)) := by
  have D_highest := d_highest (P := P) (w := w) (base := base) C Cq Cf B Y A
  have D_size_of := d_size_of (P := P) (w := w) (base := base) C Cq Cf B Y A
  have D_is_shaped := d_is_shaped (P := P) (w := w) (base := base) C Cq Cf B Y A
  refine DefAt.okSF (N := ["value"]) (ps := ["value"]) (k := 43) (L := fun as => (L_is_curve C Cf.toKf)) A.is_curve sc_is_curve ?_ ?_
  · exact (fun _ _ _ _ _ _ us hl => match us, hl with | [_], _ => rfl)
  · intro as f cdv Ar outer s H E hr
    have nd := sc_is_curve.nd
    have tk := takes_of (X := ctx P w K mg base ["value"] "is_curve" (defScope (top 48)) f cdv Ar outer s H E) (E := E) rfl rfl rfl rfl
    have px : Passes (L2.CX P w) (ctx P w K mg base ["value"] "is_curve" (defScope (top 48)) f cdv Ar outer s H E) E := passes_call tk fun _ _ _ _ h => h
    refine pss_as (pss_one (ps_ret (pe_and (pe_def D_is_shaped (hr.mono (by first | decide | omega)) px (pa_cons (pv 0) (pa_cons (pe_glob (v := .int 15) rfl Cq.MOST_PARTS.choose_spec ⟨_, rfl⟩) pa_nil))) (pe_and (pe_cmpR op_le (pe_def D_size_of (hr.mono (by first | decide | omega)) px (pa_cons (pv 0) pa_nil)) (pe_glob (v := .int 15) rfl Cq.MOST_PARTS.choose_spec ⟨_, rfl⟩) (nomark _)) (pe_one (pe_cmpR op_le (pe_def D_highest (hr.mono (by first | decide | omega)) px (pa_cons (pv 0) pa_nil)) (pe_glob (v := .int 6) rfl Cq.MOST_DEGREE.choose_spec ⟨_, rfl⟩) (nomark _))))))) ?_
    dsimp only [L_is_curve, denS, den, denG, gsOf] <;> rfl
theorem sc_need_curve : FnScope ["curve"] ["curve"] (defScope (top 50)) := ⟨rfl, rfl, rfl, by decide +kernel, rfl, by decide +kernel, by decide +kernel⟩
theorem d_need_curve {P : Program} {w : World} {mg : Str → Option Value} {base : Heap} (C : Cn M K) (Cq : CnOk mg C) (Cf : Kg K mg CA) (B : Free mg) (Y : Pyl P K) (A : Df K mg CA) : DefOk P w K mg base 45 "need_curve" ["curve"] (spD M K (s_need_curve C Cf.toKf)) := by
  have D_is_curve := d_is_curve (P := P) (w := w) (base := base) C Cq Cf B Y A
  refine DefAt.okSF (N := ["curve"]) (ps := ["curve"]) (k := 44) (L := fun as => (L_need_curve C Cf.toKf)) A.need_curve sc_need_curve ?_ ?_
  · exact (fun _ _ _ _ _ _ us hl => match us, hl with | [_], _ => rfl)
  · intro as f cdv Ar outer s H E hr
    have nd := sc_need_curve.nd
    have tk := takes_of (X := ctx P w K mg base ["curve"] "need_curve" (defScope (top 50)) f cdv Ar outer s H E) (E := E) rfl rfl rfl rfl
    have px : Passes (L2.CX P w) (ctx P w K mg base ["curve"] "need_curve" (defScope (top 50)) f cdv Ar outer s H E) E := passes_call tk fun _ _ _ _ h => h
    refine pss_as (pss_one (ps_if (pt_not (pt_val (pe_def D_is_curve (hr.mono (by first | decide | omega)) px (pa_cons (pv 0) pa_nil)))) (pss_one (ps_raise rfl tk (pmk_own PySem.F.excBase_ValueError Cq.InvalidCurve.q Cq.InvalidCurve.g Cq.InvalidCurve.k (raises_own Cq.InvalidCurve.s Cq.InvalidCurve.t) rfl))) pss_nil)) ?_
    dsimp only [L_need_curve, denS, den, denG, gsOf] <;> rfl
theorem sc_form : FnScope ["curve"] ["curve"] (defScope (top 60)) := ⟨rfl, rfl, rfl, by decide +kernel, rfl, by decide +kernel, by decide +kernel⟩
theorem d_form {P : Program} {w : World} {mg : Str → Option Value} {base : Heap} (C : Cn M K) (Cq : CnOk mg C) (Cf : Kg K mg CA) (B : Free mg) (Y : Pyl P K) (A : Df K mg CA) : DefOk P w K mg base 69 "form" ["curve"] (spZ M K CA (s_form C Cf.toKf)) := by
  have D_form_of := d_form_of (P := P) (w := w) (base := base) C Cq Cf B Y A
  have D_bent_of := d_bent_of (P := P) (w := w) (base := base) C Cq Cf B Y A
  have D_need_curve := d_need_curve (P := P) (w := w) (base := base) C Cq Cf B Y A
  refine DefAt.okZF (N := ["curve"]) (ps := ["curve"]) (k := 68) (L := fun S as => (L_form C Cf.toKf)) A.form sc_form ?_ ?_
  · exact (fun _ _ _ _ _ _ us hl => match us, hl with | [_], _ => rfl)
  · intro S as f cdv Ar outer s H E hr
    have nd := sc_form.nd
    have tk := takes_of (X := ctx P w K mg base ["curve"] "form" (defScope (top 60)) f cdv Ar outer s H E) (E := E) rfl rfl rfl rfl
    have px : Passes (L2.CX P w) (ctx P w K mg base ["curve"] "form" (defScope (top 60)) f cdv Ar outer s H E) E := passes_call tk fun _ _ _ _ h => h
    refine pss_as (pss_cons (ps_expr (pe_def D_need_curve (hr.mono (by first | decide | omega)) px (pa_cons (pv 0) pa_nil)))
      (pss_one (ps_ret (pe_def D_form_of (hr.mono (by first | decide | omega)) px (pa_cons (pe_def D_bent_of (hr.mono (by first | decide | omega)) px (pa_cons (pv 0) pa_nil)) pa_nil))))) ?_
    dsimp only [L_form, denSz, denz, denAg, den, denG, gsOf] <;> rfl
theorem sc_without_repeats : FnScope ["some", "found", "one"] ["some"] (defScope (top 74)) := ⟨rfl, rfl, rfl, by decide +kernel, rfl, by decide +kernel, by decide +kernel⟩
theorem d_without_repeats {P : Program} {w : World} {mg : Str → Option Value} {base : Heap} (C : Cn M K) (Cq : CnOk mg C) (Cf : Kg K mg CA) (B : Free mg) (Y : Pyl P K) (A : Df K mg CA) : DefOk P w K mg base 1 "without_repeats" ["some"] (spD M K (s_without_repeats C Cf.toKf)) := by
  refine DefAt.okSF (N := ["some", "found", "one"]) (ps := ["some"]) (k := 0) (L := fun as => (L_without_repeats C Cf.toKf)) A.without_repeats sc_without_repeats ?_ ?_
  · exact (fun _ _ _ _ _ _ us hl => match us, hl with | [_], _ => rfl)
  · intro as f cdv Ar outer s H E hr
    have nd := sc_without_repeats.nd
    have tk := takes_of (X := ctx P w K mg base ["some", "found", "one"] "without_repeats" (defScope (top 74)) f cdv Ar outer s H E) (E := E) rfl rfl rfl rfl
    have px : Passes (L2.CX P w) (ctx P w K mg base ["some", "found", "one"] "without_repeats" (defScope (top 74)) f cdv Ar outer s H E) E := passes_call tk fun _ _ _ _ h => h
    refine pss_as (pss_cons (ps_set (i := 1) nd rfl (by first | exact Or.inl rfl | exact Or.inr rfl) (pe_lst pa_nil))
      (pss_cons (ps_for (passes_of rfl) rfl (pi_seq (pv 0)) (pg_name (i := 2) nd rfl (by first | exact Or.inl rfl | exact Or.inr rfl)) (pss_one (ps_if (PW.pt (pw_or (pt_cmpR (op_eqD hr.units) (pv 1) (pe_lst pa_nil) (nomark _)) (pw_or1 (pt_cmpR (op_neD hr.units) (pe_ix ix_seq (pv 1) (pe_un un_neg pe_int) (fun _ _ => rfl)) (pv 2) (nomark _))))) (pss_one (ps_expr (pe_bm PySem.F.plainAttrs_list PySem.F.slot_list_append PySem.F.type_list_append mt_append (pv 1) (pa_cons (pv 2) pa_nil)))) pss_nil)))
      (pss_one (ps_ret (pe_callTy call_tuple_of rfl B.tuple bt_tuple (pa_cons (pv 1) pa_nil)))))) ?_
    dsimp only [L_without_repeats, denS, den, denG, gsOf] <;> rfl
theorem sc_sign_at_root : FnScope ["row", "root", "common", "chain"] ["row", "root"] (defScope (top 35)) := ⟨rfl, rfl, rfl, by decide +kernel, rfl, by decide +kernel, by decide +kernel⟩
theorem d_sign_at_root {P : Program} {w : World} {mg : Str → Option Value} {base : Heap} (C : Cn M K) (Cq : CnOk mg C) (Cf : Kg K mg CA) (B : Free mg) (Y : Pyl P K) (A : Df K mg CA) : DefOk P w K mg base 44 "sign_at_root" ["row", "root"] (spZ M K CA (s_sign_at_root C Cf.toKf)) := by
  have D_sign_at := d_sign_at (P := P) (w := w) (base := base) C Cq Cf B Y A
  have D_count_roots := d_count_roots (P := P) (w := w) (base := base) C Cq Cf B Y A
  have D_Root_halve := d_Root_halve (P := P) (w := w) (base := base) C Cq Cf B Y A
  have D_chain_of := d_chain_of (P := P) (w := w) (base := base) C Cq Cf B Y A
  have D_simple := d_simple (P := P) (w := w) (base := base) C Cq Cf B Y A
  have D_sign_of := d_sign_of (P := P) (w := w) (base := base) C Cq Cf B Y A
  have D_row_divisor := d_row_divisor (P := P) (w := w) (base := base) C Cq Cf B Y A
  refine DefAt.okZF (N := ["row", "root", "common", "chain"]) (ps := ["row", "root"]) (k := 43) (L := fun S as => (L_sign_at_root C Cf.toKf 1000000000000)) A.sign_at_root sc_sign_at_root ?_ ?_
  · exact (fun _ _ _ _ _ _ us hl => match us, hl with | [_, _], _ => rfl)
  · intro S as f cdv Ar outer s H E hr
    have nd := sc_sign_at_root.nd
    have tk := takes_of (X := ctx P w K mg base ["row", "root", "common", "chain"] "sign_at_root" (defScope (top 35)) f cdv Ar outer s H E) (E := E) rfl rfl rfl rfl
    have px : Passes (L2.CX P w) (ctx P w K mg base ["row", "root", "common", "chain"] "sign_at_root" (defScope (top 35)) f cdv Ar outer s H E) E := passes_call tk fun _ _ _ _ h => h
    refine pss_as (pss_cons (ps_if (pt_cmpR (op_eqD hr.units) (pv 0) (pe_tup pa_nil) (nomark _)) (pss_one (ps_ret pe_int)) pss_nil)
      (pss_cons (ps_set (i := 2) nd rfl (by first | exact Or.inl rfl | exact Or.inr rfl) (pe_def D_row_divisor (hr.mono (by first | decide | omega)) px (pa_cons (pv 0) (pa_cons (pe_fld (pv 1) rfl) pa_nil))))
      (pss_cons (ps_if (PW.pt (pw_and (pt_cmpR op_gt (pe_callB call_len rfl B.len bt_len (pa_cons (pv 2) pa_nil)) pe_int (nomark _)) (pw_and1 (pt_cmpR (op_eqD hr.units) (pe_def D_count_roots (hr.mono (by first | decide | omega)) px (pa_cons (pe_def D_chain_of (hr.mono (by first | decide | omega)) px (pa_cons (pe_def D_simple (hr.mono (by first | decide | omega)) px (pa_cons (pv 2) pa_nil)) pa_nil)) (pa_cons (pe_fld (pv 1) rfl) (pa_cons (pe_fld (pv 1) rfl) pa_nil)))) pe_int (nomark _))))) (pss_one (ps_ret pe_int)) pss_nil)
      (pss_cons (ps_if (pt_cmpR (op_eqD hr.units) (pe_callB call_len rfl B.len bt_len (pa_cons (pv 0) pa_nil)) pe_int (nomark _)) (pss_one (ps_ret (pe_def D_sign_of (hr.mono (by first | decide | omega)) px (pa_cons (pe_ix ix_seq (pv 0) pe_int (fun _ _ => rfl)) pa_nil)))) pss_nil)
      (pss_cons (ps_set (i := 3) nd rfl (by first | exact Or.inl rfl | exact Or.inr rfl) (pe_def D_chain_of (hr.mono (by first | decide | omega)) px (pa_cons (pe_def D_simple (hr.mono (by first | decide | omega)) px (pa_cons (pv 0) pa_nil)) pa_nil)))
      (pss_cons (ps_while (passes_of rfl) (pt_cmpR (op_neD hr.units) (pe_def D_count_roots (hr.mono (by first | decide | omega)) px (pa_cons (pv 3) (pa_cons (pe_fld (pv 1) rfl) (pa_cons (pe_fld (pv 1) rfl) pa_nil)))) pe_int (nomark _)) (pss_one (ps_expr (pe_methZ0 D_Root_halve Cf.c_Root (hr.mono (by first | decide | omega)) px (pv 1)))))
      (pss_one (ps_ret (pe_def D_sign_at (hr.mono (by first | decide | omega)) px (pa_cons (pv 0) (pa_cons (pe_fld (pv 1) rfl) pa_nil))))))))))) ?_
    dsimp only [L_sign_at_root, denSz, denz, denAg, den, denG, gsOf] <;> rfl
theorem sc_cuts_of : FnScope ["bent", "some", "known", "row"] ["bent"] (defScope (top 63)) := ⟨rfl, rfl, rfl, by decide +kernel, rfl, by decide +kernel, by decide +kernel⟩
theorem d_cuts_of {P : Program} {w : World} {mg : Str → Option Value} {base : Heap} (C : Cn M K) (Cq : CnOk mg C) (Cf : Kg K mg CA) (B : Free mg) (Y : Pyl P K) (A : Df K mg CA) : DefOk P w K mg base 46 "cuts_of" ["bent"] (spZ M K CA (s_cuts_of C Cf.toKf)) := by
  have D_sorted_roots := d_sorted_roots (P := P) (w := w) (base := base) C Cq Cf B Y A
  have D_roots_of := d_roots_of (P := P) (w := w) (base := base) C Cq Cf B Y A
  refine DefAt.okZF (N := ["bent", "some", "known", "row"]) (ps := ["bent"]) (k := 45) (L := fun S as => (L_cuts_of C Cf.toKf)) A.cuts_of sc_cuts_of ?_ ?_
  · exact (fun _ _ _ _ _ _ us hl => match us, hl with | [_], _ => rfl)
  · intro S as f cdv Ar outer s H E hr
    have nd := sc_cuts_of.nd
    have tk := takes_of (X := ctx P w K mg base ["bent", "some", "known", "row"] "cuts_of" (defScope (top 63)) f cdv Ar outer s H E) (E := E) rfl rfl rfl rfl
    have px : Passes (L2.CX P w) (ctx P w K mg base ["bent", "some", "known", "row"] "cuts_of" (defScope (top 63)) f cdv Ar outer s H E) E := passes_call tk fun _ _ _ _ h => h
    refine pss_as (pss_cons (ps_par (i := 1) (j := 2) rfl nd rfl rfl (by decide) rfl rfl (pa_cons (pe_callTy call_list_of rfl B.list bt_list (pa_cons (pe_fld (pv 0) rfl) pa_nil)) (pa_cons pe_dnewT pa_nil)) (by rfl))
      (pss_cons (ps_for (passes_of rfl) rfl (pi_seq (pe_fld (pv 0) rfl)) (pg_name (i := 3) nd rfl (by first | exact Or.inl rfl | exact Or.inr rfl)) (pss_one (ps_if (PW.pt (pw_and (pt_cmpR (op_neD hr.units) (pv 3) (pe_tup pa_nil) (nomark _)) (pw_and1 (pt_cmp (pc_dnotin (units1 hr) (pv 3) (pv 2)))))) (pss_cons (ps_dput (units1 hr) (pv 2) (pv 3) pe_bl rfl)
      (pss_one (ps_set (i := 1) nd rfl (by first | exact Or.inl rfl | exact Or.inr rfl) (pe_op op_addU (pv 1) (pe_def D_roots_of (hr.mono (by first | decide | omega)) px (pa_cons (pv 3) pa_nil)))))) pss_nil)))
      (pss_one (ps_ret (pe_def D_sorted_roots (hr.mono (by first | decide | omega)) px (pa_cons (pv 1) pa_nil)))))) ?_
    dsimp only [L_cuts_of, denSz, denz, denAg, den, denG, gsOf] <;> rfl
theorem sc_signs_along : FnScope ["bent", "cuts", "found", "at", "place", "row"] ["bent"] (defScope (top 64)) := ⟨rfl, rfl, rfl, by decide +kernel, rfl, by decide +kernel, by decide +kernel⟩
theorem d_signs_along {P : Program} {w : World} {mg : Str → Option Value} {base : Heap} (C : Cn M K) (Cq : CnOk mg C) (Cf : Kg K mg CA) (B : Free mg) (Y : Pyl P K) (A : Df K mg CA) : DefOk P w K mg base 47 "signs_along" ["bent"] (spZ M K CA (s_signs_along C Cf.toKf)) := by
  have D_places_between := d_places_between (P := P) (w := w) (base := base) C Cq Cf B Y A
  have D_sign_at_root := d_sign_at_root (P := P) (w := w) (base := base) C Cq Cf B Y A
  have D_sign_at := d_sign_at (P := P) (w := w) (base := base) C Cq Cf B Y A
  have D_Bent_row_at := d_Bent_row_at (P := P) (w := w) (base := base) C Cq Cf B Y A
  have D_cuts_of := d_cuts_of (P := P) (w := w) (base := base) C Cq Cf B Y A
  refine DefAt.okZF (N := ["bent", "cuts", "found", "at", "place", "row"]) (ps := ["bent"]) (k := 46) (L := fun S as => (L_signs_along C Cf.toKf)) A.signs_along sc_signs_along ?_ ?_
  · exact (fun _ _ _ _ _ _ us hl => match us, hl with | [_], _ => rfl)
  · intro S as f cdv Ar outer s H E hr
    have nd := sc_signs_along.nd
    have tk := takes_of (X := ctx P w K mg base ["bent", "cuts", "found", "at", "place", "row"] "signs_along" (defScope (top 64)) f cdv Ar outer s H E) (E := E) rfl rfl rfl rfl
    have px : Passes (L2.CX P w) (ctx P w K mg base ["bent", "cuts", "found", "at", "place", "row"] "signs_along" (defScope (top 64)) f cdv Ar outer s H E) E := passes_call tk fun _ _ _ _ h => h
    refine pss_as (pss_cons (ps_par (i := 1) (j := 2) rfl nd rfl rfl (by decide) rfl rfl (pa_cons (pe_def D_cuts_of (hr.mono (by first | decide | omega)) px (pa_cons (pv 0) pa_nil)) (pa_cons (pe_lst pa_nil) pa_nil)) (by rfl))
      (pss_cons (ps_for (passes_of rfl) rfl (pi_enumU rfl B.enumerate (pa_cons (pe_def D_places_between (hr.mono (by first | decide | omega)) px (pa_cons (pv 1) pa_nil)) pa_nil)) (pg_tup rfl (pgs_cons (pg_name (i := 3) nd rfl (by first | exact Or.inl rfl | exact Or.inr rfl)) (pgs_cons (pg_name (i := 4) nd rfl (by first | exact Or.inl rfl | exact Or.inr rfl)) pgs_nil))) (pss_cons (ps_set (i := 5) nd rfl (by first | exact Or.inl rfl | exact Or.inr rfl) (pe_methZ D_Bent_row_at Cf.c_Bent (hr.mono (by first | decide | omega)) px (pv 0) (pa_cons (pv 4) pa_nil)))
      (pss_cons (ps_expr (pe_bm PySem.F.plainAttrs_list PySem.F.slot_list_append PySem.F.type_list_append mt_append (pv 2) (pa_cons (pe_def D_sign_at (hr.mono (by first | decide | omega)) px (pa_cons (pv 5) (pa_cons (pv 4) pa_nil))) pa_nil)))
      (pss_one (ps_if (pt_cmpR op_lt (pv 3) (pe_callB call_len rfl B.len bt_len (pa_cons (pv 1) pa_nil)) (nomark _)) (pss_one (ps_expr (pe_bm PySem.F.plainAttrs_list PySem.F.slot_list_append PySem.F.type_list_append mt_append (pv 2) (pa_cons (pe_def D_sign_at_root (hr.mono (by first | decide | omega)) px (pa_cons (pv 5) (pa_cons (pe_ix ix_seq (pv 1) (pv 3) (fun _ _ => rfl)) pa_nil))) pa_nil)))) pss_nil)))))
      (pss_one (ps_ret (pe_tup (pa_cons (pv 2) (pa_cons (pv 1) pa_nil))))))) ?_
    dsimp only [L_signs_along, denSz, denz, denAg, den, denG, gsOf] <;> rfl
theorem sc_signs : FnScope ["curve"] ["curve"] (defScope (top 75)) := ⟨rfl, rfl, rfl, by decide +kernel, rfl, by decide +kernel, by decide +kernel⟩
theorem d_signs {P : Program} {w : World} {mg : Str → Option Value} {base : Heap} (C : Cn M K) (Cq : CnOk mg C) (Cf : Kg K mg CA) (B : Free mg) (Y : Pyl P K) (A : Df K mg CA) : DefOk P w K mg base 69 "signs" ["curve"] (spZ M K CA (s_signs C Cf.toKf)) := by
  have D_without_repeats := d_without_repeats (P := P) (w := w) (base := base) C Cq Cf B Y A
  have D_signs_along := d_signs_along (P := P) (w := w) (base := base) C Cq Cf B Y A
  have D_bent_of := d_bent_of (P := P) (w := w) (base := base) C Cq Cf B Y A
  have D_need_curve := d_need_curve (P := P) (w := w) (base := base) C Cq Cf B Y A
  refine DefAt.okZF (N := ["curve"]) (ps := ["curve"]) (k := 68) (L := fun S as => (L_signs C Cf.toKf)) A.signs sc_signs ?_ ?_
  · exact (fun _ _ _ _ _ _ us hl => match us, hl with | [_], _ => rfl)
  · intro S as f cdv Ar outer s H E hr
    have nd := sc_signs.nd
    have tk := takes_of (X := ctx P w K mg base ["curve"] "signs" (defScope (top 75)) f cdv Ar outer s H E) (E := E) rfl rfl rfl rfl
    have px : Passes (L2.CX P w) (ctx P w K mg base ["curve"] "signs" (defScope (top 75)) f cdv Ar outer s H E) E := passes_call tk fun _ _ _ _ h => h
    refine pss_as (pss_cons (ps_expr (pe_def D_need_curve (hr.mono (by first | decide | omega)) px (pa_cons (pv 0) pa_nil)))
      (pss_one (ps_ret (pe_def D_without_repeats (hr.mono (by first | decide | omega)) px (pa_cons (pe_ix ix_seq (pe_def D_signs_along (hr.mono (by first | decide | omega)) px (pa_cons (pe_def D_bent_of (hr.mono (by first | decide | omega)) px (pa_cons (pv 0) pa_nil)) pa_nil)) pe_int (fun _ _ => rfl)) pa_nil))))) ?_
    dsimp only [L_signs, denSz, denz, denAg, den, denG, gsOf] <;> rfl
theorem sc_floor_of : FnScope ["root", "bottom", "top"] ["root", "bottom"] (defScope (top 66)) := ⟨rfl, rfl, rfl, by decide +kernel, rfl, by decide +kernel, by decide +kernel⟩
theorem d_floor_of {P : Program} {w : World} {mg : Str → Option Value} {base : Heap} (C : Cn M K) (Cq : CnOk mg C) (Cf : Kg K mg CA) (B : Free mg) (Y : Pyl P K) (A : Df K mg CA) : DefOk P w K mg base 44 "floor_of" ["root", "bottom"] (spZ M K CA (s_floor_of C Cf.toKf)) := by
  have D_Root_against := d_Root_against (P := P) (w := w) (base := base) C Cq Cf B Y A
  have D_Root_halve := d_Root_halve (P := P) (w := w) (base := base) C Cq Cf B Y A
  refine DefAt.okZF (N := ["root", "bottom", "top"]) (ps := ["root", "bottom"]) (k := 43) (L := fun S as => (L_floor_of C Cf.toKf 1000000000000)) A.floor_of sc_floor_of ?_ ?_
  · exact (fun _ _ _ _ _ _ us hl => match us, hl with | [_, _], _ => rfl)
  · intro S as f cdv Ar outer s H E hr
    have nd := sc_floor_of.nd
    have tk := takes_of (X := ctx P w K mg base ["root", "bottom", "top"] "floor_of" (defScope (top 66)) f cdv Ar outer s H E) (E := E) rfl rfl rfl rfl
    have px : Passes (L2.CX P w) (ctx P w K mg base ["root", "bottom", "top"] "floor_of" (defScope (top 66)) f cdv Ar outer s H E) E := passes_call tk fun _ _ _ _ h => h
    refine pss_as (pss_cons (ps_set (i := 2) nd rfl (by first | exact Or.inl rfl | exact Or.inr rfl) (pe_op (op_fdivP Y (hr.mono (by first | decide | omega)) rfl rfl rfl) (pe_op op_mulU (pe_ix ix_seq (pe_fld (pv 0) rfl) pe_int (fun _ _ => rfl)) (pv 1)) (pe_ix ix_seq (pe_fld (pv 0) rfl) pe_int (fun _ _ => rfl))))
      (pss_cons (ps_while (passes_of rfl) (pt_cmpR op_ge (pe_methZ D_Root_against Cf.c_Root (hr.mono (by first | decide | omega)) px (pv 0) (pa_cons (pe_tup (pa_cons (pe_op op_addU (pv 2) pe_int) (pa_cons (pv 1) pa_nil))) pa_nil)) pe_int (nomark _)) (pss_one (ps_if (pt_cmpR op_gt (pe_op op_mulU (pe_op op_sub (pe_op op_mulU (pe_ix ix_seq (pe_fld (pv 0) rfl) pe_int (fun _ _ => rfl)) (pe_ix ix_seq (pe_fld (pv 0) rfl) pe_int (fun _ _ => rfl))) (pe_op op_mulU (pe_ix ix_seq (pe_fld (pv 0) rfl) pe_int (fun _ _ => rfl)) (pe_ix ix_seq (pe_fld (pv 0) rfl) pe_int (fun _ _ => rfl)))) (pv 1)) (pe_op op_mulU (pe_ix ix_seq (pe_fld (pv 0) rfl) pe_int (fun _ _ => rfl)) (pe_ix ix_seq (pe_fld (pv 0) rfl) pe_int (fun _ _ => rfl))) (nomark _)) (pss_cons (ps_expr (pe_methZ0 D_Root_halve Cf.c_Root (hr.mono (by first | decide | omega)) px (pv 0)))
      (pss_one (ps_set (i := 2) nd rfl (by first | exact Or.inl rfl | exact Or.inr rfl) (pe_callB (call_max2 rfl) rfl B.max bt_max (pa_cons (pv 2) (pa_cons (pe_op (op_fdivP Y (hr.mono (by first | decide | omega)) rfl rfl rfl) (pe_op op_mulU (pe_ix ix_seq (pe_fld (pv 0) rfl) pe_int (fun _ _ => rfl)) (pv 1)) (pe_ix ix_seq (pe_fld (pv 0) rfl) pe_int (fun _ _ => rfl))) pa_nil)))))) (pss_one (ps_set (i := 2) nd rfl (by first | exact Or.inl rfl | exact Or.inr rfl) (pe_op op_addU (pv 2) pe_int))))))
      (pss_one (ps_ret (pv 2))))) ?_
    dsimp only [L_floor_of, denSz, denz, denAg, den, denG, gsOf] <;> rfl
theorem sc_nearest_top : FnScope ["bottom", "low", "high", "top"] ["bottom", "low", "high"] (defScope (top 68)) := ⟨rfl, rfl, rfl, by decide +kernel, rfl, by decide +kernel, by decide +kernel⟩
theorem d_nearest_top {P : Program} {w : World} {mg : Str → Option Value} {base : Heap} (C : Cn M K) (Cq : CnOk mg C) (Cf : Kg K mg CA) (B : Free mg) (Y : Pyl P K) (A : Df K mg CA) : DefOk P w K mg base 45 "nearest_top" ["bottom", "low", "high"] (spZ M K CA (s_nearest_top C Cf.toKf)) := by
  have D_Root_against := d_Root_against (P := P) (w := w) (base := base) C Cq Cf B Y A
  have D_floor_of := d_floor_of (P := P) (w := w) (base := base) C Cq Cf B Y A
  refine DefAt.okZF (N := ["bottom", "low", "high", "top"]) (ps := ["bottom", "low", "high"]) (k := 44) (L := fun S as => (L_nearest_top C Cf.toKf)) A.nearest_top sc_nearest_top ?_ ?_
  · exact (fun _ _ _ _ _ _ us hl => match us, hl with | [_, _, _], _ => rfl)
  · intro S as f cdv Ar outer s H E hr
    have nd := sc_nearest_top.nd
    have tk := takes_of (X := ctx P w K mg base ["bottom", "low", "high", "top"] "nearest_top" (defScope (top 68)) f cdv Ar outer s H E) (E := E) rfl rfl rfl rfl
    have px : Passes (L2.CX P w) (ctx P w K mg base ["bottom", "low", "high", "top"] "nearest_top" (defScope (top 68)) f cdv Ar outer s H E) E := passes_call tk fun _ _ _ _ h => h
    refine pss_as (pss_cons (ps_if (PW.pt (pw_and (pt_cmpR op_notU (pv 1) pe_non (nomark _)) (pw_and1 (pt_cmpR op_ge (pe_methZ D_Root_against Cf.c_Root (hr.mono (by first | decide | omega)) px (pv 1) (pa_cons (pe_tup (pa_cons pe_int (pa_cons pe_int pa_nil))) pa_nil)) pe_int (nomark _))))) (pss_one (ps_ret (pe_op op_addU (pe_def D_floor_of (hr.mono (by first | decide | omega)) px (pa_cons (pv 1) (pa_cons (pv 0) pa_nil))) pe_int))) pss_nil)
      (pss_cons (ps_set (i := 3) nd rfl (by first | exact Or.inl rfl | exact Or.inr rfl) (pe_def D_floor_of (hr.mono (by first | decide | omega)) px (pa_cons (pv 2) (pa_cons (pv 0) pa_nil))))
      (pss_one (ps_ret (pe_ifExp (pt_cmpR (op_eqD hr.units) (pe_methZ D_Root_against Cf.c_Root (hr.mono (by first | decide | omega)) px (pv 2) (pa_cons (pe_tup (pa_cons (pv 3) (pa_cons (pv 0) pa_nil))) pa_nil)) pe_int (nomark _)) (pe_op op_sub (pv 3) pe_int) (pv 3)))))) ?_
    dsimp only [L_nearest_top, denSz, denz, denAg, den, denG, gsOf] <;> rfl
theorem sc_is_within : FnScope ["place", "low", "high"] ["place", "low", "high"] (defScope (top 67)) := ⟨rfl, rfl, rfl, by decide +kernel, rfl, by decide +kernel, by decide +kernel⟩
theorem d_is_within {P : Program} {w : World} {mg : Str → Option Value} {base : Heap} (C : Cn M K) (Cq : CnOk mg C) (Cf : Kg K mg CA) (B : Free mg) (Y : Pyl P K) (A : Df K mg CA) : DefOk P w K mg base 6 "is_within" ["place", "low", "high"] (spZ M K CA (s_is_within C Cf.toKf)) := by
  have D_Root_against := d_Root_against (P := P) (w := w) (base := base) C Cq Cf B Y A
  refine DefAt.okZF (N := ["place", "low", "high"]) (ps := ["place", "low", "high"]) (k := 5) (L := fun S as => (L_is_within C Cf.toKf)) A.is_within sc_is_within ?_ ?_
  · exact (fun _ _ _ _ _ _ us hl => match us, hl with | [_, _, _], _ => rfl)
  · intro S as f cdv Ar outer s H E hr
    have nd := sc_is_within.nd
    have tk := takes_of (X := ctx P w K mg base ["place", "low", "high"] "is_within" (defScope (top 67)) f cdv Ar outer s H E) (E := E) rfl rfl rfl rfl
    have px : Passes (L2.CX P w) (ctx P w K mg base ["place", "low", "high"] "is_within" (defScope (top 67)) f cdv Ar outer s H E) E := passes_call tk fun _ _ _ _ h => h
    refine pss_as (pss_cons (ps_if (PW.pt (pw_and (pt_cmpR op_notU (pv 1) pe_non (nomark _)) (pw_and1 (pt_cmpR op_ge (pe_methZ D_Root_against Cf.c_Root (hr.mono (by first | decide | omega)) px (pv 1) (pa_cons (pv 0) pa_nil)) pe_int (nomark _))))) (pss_one (ps_ret pe_bl)) pss_nil)
      (pss_one (ps_ret (pe_or (pe_cmpR op_isU (pv 2) pe_non (nomark _)) (pe_one (pe_cmpR op_gt (pe_methZ D_Root_against Cf.c_Root (hr.mono (by first | decide | omega)) px (pv 2) (pa_cons (pv 0) pa_nil)) pe_int (nomark _))))))) ?_
    dsimp only [L_is_within, denSz, denz, denAg, den, denG, gsOf] <;> rfl
theorem sc_simplest_in : FnScope ["low", "high", "bottom"] ["low", "high"] (defScope (top 69)) := ⟨rfl, rfl, rfl, by decide +kernel, rfl, by decide +kernel, by decide +kernel⟩
theorem d_simplest_in {P : Program} {w : World} {mg : Str → Option Value} {base : Heap} (C : Cn M K) (Cq : CnOk mg C) (Cf : Kg K mg CA) (B : Free mg) (Y : Pyl P K) (A : Df K mg CA) : DefOk P w K mg base 46 "simplest_in" ["low", "high"] (spZ M K CA (s_simplest_in C Cf.toKf)) := by
  have D_nearest_top := d_nearest_top (P := P) (w := w) (base := base) C Cq Cf B Y A
  have D_is_within := d_is_within (P := P) (w := w) (base := base) C Cq Cf B Y A
  refine DefAt.okZF (N := ["low", "high", "bottom"]) (ps := ["low", "high"]) (k := 45) (L := fun S as => (L_simplest_in C Cf.toKf 1000000000000)) A.simplest_in sc_simplest_in ?_ ?_
  · exact (fun _ _ _ _ _ _ us hl => match us, hl with | [_, _], _ => rfl)
  · intro S as f cdv Ar outer s H E hr
    have nd := sc_simplest_in.nd
    have tk := takes_of (X := ctx P w K mg base ["low", "high", "bottom"] "simplest_in" (defScope (top 69)) f cdv Ar outer s H E) (E := E) rfl rfl rfl rfl
    have px : Passes (L2.CX P w) (ctx P w K mg base ["low", "high", "bottom"] "simplest_in" (defScope (top 69)) f cdv Ar outer s H E) E := passes_call tk fun _ _ _ _ h => h
    refine pss_as (pss_cons (ps_if (pt_val (pe_def D_is_within (hr.mono (by first | decide | omega)) px (pa_cons (pe_tup (pa_cons pe_int (pa_cons pe_int pa_nil))) (pa_cons (pv 0) (pa_cons (pv 1) pa_nil))))) (pss_one (ps_ret (pe_tup (pa_cons pe_int (pa_cons pe_int pa_nil))))) pss_nil)
      (pss_cons (ps_set (i := 2) nd rfl (by first | exact Or.inl rfl | exact Or.inr rfl) pe_int)
      (pss_cons (ps_while (passes_of rfl) (pt_not (pt_val (pe_def D_is_within (hr.mono (by first | decide | omega)) px (pa_cons (pe_tup (pa_cons (pe_def D_nearest_top (hr.mono (by first | decide | omega)) px (pa_cons (pv 2) (pa_cons (pv 0) (pa_cons (pv 1) pa_nil)))) (pa_cons (pv 2) pa_nil))) (pa_cons (pv 0) (pa_cons (pv 1) pa_nil)))))) (pss_one (ps_set (i := 2) nd rfl (by first | exact Or.inl rfl | exact Or.inr rfl) (pe_op op_addU (pv 2) pe_int))))
      (pss_one (ps_ret (pe_tup (pa_cons (pe_def D_nearest_top (hr.mono (by first | decide | omega)) px (pa_cons (pv 2) (pa_cons (pv 0) (pa_cons (pv 1) pa_nil)))) (pa_cons (pv 2) pa_nil)))))))) ?_
    dsimp only [L_simplest_in, denSz, denz, denAg, den, denG, gsOf] <;> rfl
theorem sc_stretch_of : FnScope ["signs", "cuts", "at", "far", "low"] ["signs", "cuts"] (defScope (top 65)) := ⟨rfl, rfl, rfl, by decide +kernel, rfl, by decide +kernel, by decide +kernel⟩
theorem d_stretch_of {P : Program} {w : World} {mg : Str → Option Value} {base : Heap} (C : Cn M K) (Cq : CnOk mg C) (Cf : Kg K mg CA) (B : Free mg) (Y : Pyl P K) (A : Df K mg CA) : DefOk P w K mg base 41 "stretch_of" ["signs", "cuts"] (spD M K (s_stretch_of C Cf.toKf)) := by
  refine DefAt.okSF (N := ["signs", "cuts", "at", "far", "low"]) (ps := ["signs", "cuts"]) (k := 40) (L := fun as => (L_stretch_of C Cf.toKf (wts as))) A.stretch_of sc_stretch_of ?_ ?_
  · exact (fun _ _ _ _ _ _ us hl => match us, hl with | [_, _], _ => rfl)
  · intro as f cdv Ar outer s H E hr
    have nd := sc_stretch_of.nd
    have tk := takes_of (X := ctx P w K mg base ["signs", "cuts", "at", "far", "low"] "stretch_of" (defScope (top 65)) f cdv Ar outer s H E) (E := E) rfl rfl rfl rfl
    have px : Passes (L2.CX P w) (ctx P w K mg base ["signs", "cuts", "at", "far", "low"] "stretch_of" (defScope (top 65)) f cdv Ar outer s H E) E := passes_call tk fun _ _ _ _ h => h
    refine pss_as (pss_cons (ps_set (i := 2) nd rfl (by first | exact Or.inl rfl | exact Or.inr rfl) pe_int)
      (pss_cons (ps_while (passes_of rfl) (PW.pt (pw_and (pt_cmpR op_lt (pv 2) (pe_callB call_len rfl B.len bt_len (pa_cons (pv 0) pa_nil)) (nomark _)) (pw_and1 (pt_cmpR (op_eqD hr.units) (pe_ix ix_seq (pv 0) (pv 2) (fun _ _ => rfl)) pe_int (nomark _))))) (pss_one (ps_set (i := 2) nd rfl (by first | exact Or.inl rfl | exact Or.inr rfl) (pe_op op_addU (pv 2) pe_int))))
      (pss_cons (ps_if (pt_cmpR (op_eqD hr.units) (pv 2) (pe_callB call_len rfl B.len bt_len (pa_cons (pv 0) pa_nil)) (nomark _)) (pss_one (ps_ret pe_non)) pss_nil)
      (pss_cons (ps_set (i := 3) nd rfl (by first | exact Or.inl rfl | exact Or.inr rfl) (pv 2))
      (pss_cons (ps_while (passes_of rfl) (PW.pt (pw_and (pt_cmpR op_lt (pe_op op_addU (pv 3) pe_int) (pe_callB call_len rfl B.len bt_len (pa_cons (pv 0) pa_nil)) (nomark _)) (pw_and1 (pt_cmpR (op_neD hr.units) (pe_ix ix_seq (pv 0) (pe_op op_addU (pv 3) pe_int) (fun _ _ => rfl)) pe_int (nomark _))))) (pss_one (ps_set (i := 3) nd rfl (by first | exact Or.inl rfl | exact Or.inr rfl) (pe_op op_addU (pv 3) pe_int))))
      (pss_cons (ps_set (i := 4) nd rfl (by first | exact Or.inl rfl | exact Or.inr rfl) (pe_ifExp (pt_cmpR op_gt (pv 2) pe_int (nomark _)) (pe_ix ix_seq (pv 1) (pe_op op_sub (pe_op (op_fdivP Y (hr.mono (by first | decide | omega)) rfl rfl rfl) (pv 2) pe_int) pe_int) (fun _ _ => rfl)) pe_non))
      (pss_one (ps_ret (pe_tup (pa_cons (pv 4) (pa_cons (pe_ifExp (pt_cmpR op_lt (pv 3) (pe_op op_sub (pe_callB call_len rfl B.len bt_len (pa_cons (pv 0) pa_nil)) pe_int) (nomark _)) (pe_ix ix_seq (pv 1) (pe_op (op_fdivP Y (hr.mono (by first | decide | omega)) rfl rfl rfl) (pv 3) pe_int) (fun _ _ => rfl)) pe_non) pa_nil))))))))))) ?_
    dsimp only [L_stretch_of, denS, den, denG, gsOf] <;> rfl
theorem sc_gap_of : FnScope ["one", "other", "row"] ["one", "other"] (defScope (top 62)) := ⟨rfl, rfl, rfl, by decide +kernel, rfl, by decide +kernel, by decide +kernel⟩
theorem d_gap_of {P : Program} {w : World} {mg : Str → Option Value} {base : Heap} (C : Cn M K) (Cq : CnOk mg C) (Cf : Kg K mg CA) (B : Free mg) (Y : Pyl P K) (A : Df K mg CA) : DefOk P w K mg base 48 "gap_of" ["one", "other"] (spZ M K CA (s_gap_of C Cf.toKf)) := by
  have D_put_together := d_put_together (P := P) (w := w) (base := base) C Cq Cf B Y A
  have D_Bent_init := d_Bent_init (P := P) (w := w) (base := base) C Cq Cf B Y A
  have D_row_sum := d_row_sum (P := P) (w := w) (base := base) C Cq Cf B Y A
  refine DefAt.okZF (N := ["one", "other", "row"]) (ps := ["one", "other"]) (k := 47) (L := fun S as => (L_gap_of C Cf.toKf)) A.gap_of sc_gap_of ?_ ?_
  · exact (fun _ _ _ _ _ _ us hl => match us, hl with | [_, _], _ => rfl)
  · intro S as f cdv Ar outer s H E hr
    have nd := sc_gap_of.nd
    have tk := takes_of (X := ctx P w K mg base ["one", "other", "row"] "gap_of" (defScope (top 62)) f cdv Ar outer s H E) (E := E) rfl rfl rfl rfl
    have px : Passes (L2.CX P w) (ctx P w K mg base ["one", "other", "row"] "gap_of" (defScope (top 62)) f cdv Ar outer s H E) E := passes_call tk fun _ _ _ _ h => h
    refine pss_as (pss_one (ps_ret (pe_def D_put_together (hr.mono (by first | decide | omega)) px (pa_cons (pv 0) (pa_cons (pe_makeZ D_Bent_init Cf.k_Bent (hr.mono (by first | decide | omega)) px (pa_cons (pe_lc (own := [("row", 2)]) (by rfl) nd (pi_seq (pe_fld (pv 1) rfl)) (blkOk_by (own := [("row", 2)]) (by rfl)) (fun _ _ _ _ _ => (pg_name (i := 2) nd rfl (by first | exact Or.inl rfl | exact Or.inr rfl))) (fun _ _ _ _ _ => pts_nil) (fun _ _ _ _ _ => (pe_def D_row_sum (hr.mono (by first | decide | omega)) passL (pa_cons (pe_tup pa_nil) (pa_cons (pv 2) (pa_cons (pe_un un_neg pe_int) pa_nil)))))) (pa_cons (pe_fld (pv 1) rfl) pa_nil))) (pa_cons pe_str pa_nil)))))) ?_
    dsimp only [L_gap_of, denSz, denz, denAg, den, denG, gsOf] <;> rfl
theorem sc_need_two : FnScope ["curve", "other"] ["curve", "other"] (defScope (top 51)) := ⟨rfl, rfl, rfl, by decide +kernel, rfl, by decide +kernel, by decide +kernel⟩
theorem d_need_two {P : Program} {w : World} {mg : Str → Option Value} {base : Heap} (C : Cn M K) (Cq : CnOk mg C) (Cf : Kg K mg CA) (B : Free mg) (Y : Pyl P K) (A : Df K mg CA) : DefOk P w K mg base 46 "need_two" ["curve", "other"] (spD M K (s_need_two C Cf.toKf)) := by
  have D_need_curve := d_need_curve (P := P) (w := w) (base := base) C Cq Cf B Y A
  refine DefAt.okSF (N := ["curve", "other"]) (ps := ["curve", "other"]) (k := 45) (L := fun as => (L_need_two C Cf.toKf)) A.need_two sc_need_two ?_ ?_
  · exact (fun _ _ _ _ _ _ us hl => match us, hl with | [_, _], _ => rfl)
  · intro as f cdv Ar outer s H E hr
    have nd := sc_need_two.nd
    have tk := takes_of (X := ctx P w K mg base ["curve", "other"] "need_two" (defScope (top 51)) f cdv Ar outer s H E) (E := E) rfl rfl rfl rfl
    have px : Passes (L2.CX P w) (ctx P w K mg base ["curve", "other"] "need_two" (defScope (top 51)) f cdv Ar outer s H E) E := passes_call tk fun _ _ _ _ h => h
    refine pss_as (pss_cons (ps_expr (pe_def D_need_curve (hr.mono (by first | decide | omega)) px (pa_cons (pv 0) pa_nil)))
      (pss_one (ps_expr (pe_def D_need_curve (hr.mono (by first | decide | omega)) px (pa_cons (pv 1) pa_nil))))) ?_
    dsimp only [L_need_two, denS, den, denG, gsOf] <;> rfl
theorem sc_parting : FnScope ["curve", "other", "signs", "cuts", "stretch"] ["curve", "other"] (defScope (top 70)) := ⟨rfl, rfl, rfl, by decide +kernel, rfl, by decide +kernel, by decide +kernel⟩
theorem d_parting {P : Program} {w : World} {mg : Str → Option Value} {base : Heap} (C : Cn M K) (Cq : CnOk mg C) (Cf : Kg K mg CA) (B : Free mg) (Y : Pyl P K) (A : Df K mg CA) : DefOk P w K mg base 69 "parting" ["curve", "other"] (spZ M K CA (s_parting C Cf.toKf)) := by
  have D_simplest_in := d_simplest_in (P := P) (w := w) (base := base) C Cq Cf B Y A
  have D_stretch_of := d_stretch_of (P := P) (w := w) (base := base) C Cq Cf B Y A
  have D_signs_along := d_signs_along (P := P) (w := w) (base := base) C Cq Cf B Y A
  have D_gap_of := d_gap_of (P := P) (w := w) (base := base) C Cq Cf B Y A
  have D_bent_of := d_bent_of (P := P) (w := w) (base := base) C Cq Cf B Y A
  have D_need_two := d_need_two (P := P) (w := w) (base := base) C Cq Cf B Y A
  refine DefAt.okZF (N := ["curve", "other", "signs", "cuts", "stretch"]) (ps := ["curve", "other"]) (k := 68) (L := fun S as => (L_parting C Cf.toKf)) A.parting sc_parting ?_ ?_
  · exact (fun _ _ _ _ _ _ us hl => match us, hl with | [_, _], _ => rfl)
  · intro S as f cdv Ar outer s H E hr
    have nd := sc_parting.nd
    have tk := takes_of (X := ctx P w K mg base ["curve", "other", "signs", "cuts", "stretch"] "parting" (defScope (top 70)) f cdv Ar outer s H E) (E := E) rfl rfl rfl rfl
    have px : Passes (L2.CX P w) (ctx P w K mg base ["curve", "other", "signs", "cuts", "stretch"] "parting" (defScope (top 70)) f cdv Ar outer s H E) E := passes_call tk fun _ _ _ _ h => h
    refine pss_as (pss_cons (ps_expr (pe_def D_need_two (hr.mono (by first | decide | omega)) px (pa_cons (pv 0) (pa_cons (pv 1) pa_nil))))
      (pss_cons (ps_asg (pe_def D_signs_along (hr.mono (by first | decide | omega)) px (pa_cons (pe_def D_gap_of (hr.mono (by first | decide | omega)) px (pa_cons (pe_def D_bent_of (hr.mono (by first | decide | omega)) px (pa_cons (pv 0) pa_nil)) (pa_cons (pe_def D_bent_of (hr.mono (by first | decide | omega)) px (pa_cons (pv 1) pa_nil)) pa_nil))) pa_nil)) (pg_tup rfl (pgs_cons (pg_name (i := 2) nd rfl (by first | exact Or.inl rfl | exact Or.inr rfl)) (pgs_cons (pg_name (i := 3) nd rfl (by first | exact Or.inl rfl | exact Or.inr rfl)) pgs_nil))))
      (pss_cons (ps_set (i := 4) nd rfl (by first | exact Or.inl rfl | exact Or.inr rfl) (pe_def D_stretch_of (hr.mono (by first | decide | omega)) px (pa_cons (pv 2) (pa_cons (pv 3) pa_nil))))
      (pss_one (ps_ret (pe_ifExp (pt_cmpR op_isU (pv 4) pe_non (nomark _)) pe_non (pe_def D_simplest_in (hr.mono (by first | decide | omega)) px (pa_cons (pe_ix ix_seq (pv 4) pe_int (fun _ _ => rfl)) (pa_cons (pe_ix ix_seq (pv 4) pe_int (fun _ _ => rfl)) pa_nil))))))))) ?_
    dsimp only [L_parting, denSz, denz, denAg, den, denG, gsOf] <;> rfl
theorem sc_zeros_in : FnScope ["signs", "sign"] ["signs"] (defScope (top 72)) := ⟨rfl, rfl, rfl, by decide +kernel, rfl, by decide +kernel, by decide +kernel⟩
theorem d_zeros_in {P : Program} {w : World} {mg : Str → Option Value} {base : Heap} (C : Cn M K) (Cq : CnOk mg C) (Cf : Kg K mg CA) (B : Free mg) (Y : Pyl P K) (A : Df K mg CA) : DefOk P w K mg base 1 "zeros_in" ["signs"] (spD M K (s_zeros_in C Cf.toKf)) := by
  refine DefAt.okSF (N := ["signs", "sign"]) (ps := ["signs"]) (k := 0) (L := fun as => (L_zeros_in C Cf.toKf)) A.zeros_in sc_zeros_in ?_ ?_
  · exact (fun _ _ _ _ _ _ us hl => match us, hl with | [_], _ => rfl)
  · intro as f cdv Ar outer s H E hr
    have nd := sc_zeros_in.nd
    have tk := takes_of (X := ctx P w K mg base ["signs", "sign"] "zeros_in" (defScope (top 72)) f cdv Ar outer s H E) (E := E) rfl rfl rfl rfl
    have px : Passes (L2.CX P w) (ctx P w K mg base ["signs", "sign"] "zeros_in" (defScope (top 72)) f cdv Ar outer s H E) E := passes_call tk fun _ _ _ _ h => h
    refine pss_as (pss_cons (ps_if (pt_val (pe_callB (cr_any rfl) rfl B.any bt_any (pa_cons (pe_lc (own := [("sign", 1)]) (by rfl) nd (pi_seq (pe_sliceS (pv 0) po_none po_none (po_some pe_int))) (blkOk_by (own := [("sign", 1)]) (by rfl)) (fun _ _ _ _ _ => (pg_name (i := 1) nd rfl (by first | exact Or.inl rfl | exact Or.inr rfl))) (fun _ _ _ _ _ => pts_nil) (fun _ _ _ _ _ => (pe_cmpR (kb_eq (K := K) rfl hr.units) (pv 1) pe_int (nomark _)))) pa_nil))) (pss_one (ps_ret pe_non)) pss_nil)
      (pss_one (ps_ret (pe_callB call_len rfl B.len bt_len (pa_cons (pe_lc (own := [("sign", 1)]) (by rfl) nd (pi_seq (pe_sliceS (pv 0) (po_some pe_int) po_none (po_some pe_int))) (blkOk_by (own := [("sign", 1)]) (by rfl)) (fun _ _ _ _ _ => (pg_name (i := 1) nd rfl (by first | exact Or.inl rfl | exact Or.inr rfl))) (fun _ _ _ _ _ => (pts_one (pt_cmpR (kb_eq (K := K) rfl hr.units) (pv 1) pe_int (nomark _)))) (fun _ _ _ _ _ => pe_int)) pa_nil))))) ?_
    dsimp only [L_zeros_in, denS, den, denG, gsOf] <;> rfl
theorem sc_is_fraction : FnScope ["value", "far"] ["value", "far"] (defScope (top 7)) := ⟨rfl, rfl, rfl, by decide +kernel, rfl, by decide +kernel, by decide +kernel⟩
theorem d_is_fraction {P : Program} {w : World} {mg : Str → Option Value} {base : Heap} (C : Cn M K) (Cq : CnOk mg C) (Cf : Kg K mg CA) (B : Free mg) (Y : Pyl P K) (A : Df K mg CA) : DefOk P w K mg base 2 "is_fraction" ["value", "far"] (spD M K (s_is_fraction C Cf.toKf)) := by
  have D_divisor := d_divisor (P := P) (w := w) (base := base) C Cq Cf B Y A
  have D_is_whole := d_is_whole (P := P) (w := w) (base := base) C Cq Cf B Y A
  refine DefAt.okSF (N := ["value", "far"]) (ps := ["value", "far"]) (k := 1) (L := fun as => (L_is_fraction C Cf.toKf)) A.is_fraction sc_is_fraction ?_ ?_
  · exact (fun _ _ _ _ _ _ us hl => match us, hl with | [_, _], _ => rfl)
  · intro as f cdv Ar outer s H E hr
    have nd := sc_is_fraction.nd
    have tk := takes_of (X := ctx P w K mg base ["value", "far"] "is_fraction" (defScope (top 7)) f cdv Ar outer s H E) (E := E) rfl rfl rfl rfl
    have px : Passes (L2.CX P w) (ctx P w K mg base ["value", "far"] "is_fraction" (defScope (top 7)) f cdv Ar outer s H E) E := passes_call tk fun _ _ _ _ h => h
    refine pss_as (pss_cons (ps_if (PW.pt (pw_or (pt_not (pt_val (pe_callB call_isi rfl B.isinstance bt_isinstance (pa_cons (pv 0) (pa_cons (pe_bltn (v := .ty "tuple") rfl B.tuple bt_tuple rfl) pa_nil))))) (pw_or (pt_cmpR (op_neD hr.units) (pe_callB call_len rfl B.len bt_len (pa_cons (pv 0) pa_nil)) pe_int (nomark _)) (pw_or1 (pt_not (pt_val (pe_def D_is_whole (hr.mono (by first | decide | omega)) px (pa_cons (pe_ix ix_seq (pv 0) pe_int (fun _ _ => rfl)) (pa_cons (pe_un un_neg (pv 1)) (pa_cons (pv 1) pa_nil)))))))))) (pss_one (ps_ret pe_bl)) pss_nil)
      (pss_one (ps_ret (pe_and (pe_def D_is_whole (hr.mono (by first | decide | omega)) px (pa_cons (pe_ix ix_seq (pv 0) pe_int (fun _ _ => rfl)) (pa_cons pe_int (pa_cons (pv 1) pa_nil)))) (pe_one (pe_cmpR (op_eqD hr.units) (pe_def D_divisor (hr.mono (by first | decide | omega)) px (pa_cons (pe_ix ix_seq (pv 0) pe_int (fun _ _ => rfl)) (pa_cons (pe_ix ix_seq (pv 0) pe_int (fun _ _ => rfl)) pa_nil))) pe_int (nomark _))))))) ?_
    dsimp only [L_is_fraction, denS, den, denG, gsOf] <;> rfl
theorem sc_takes : FnScope ["curve", "number", "bent", "rows", "row"] ["curve", "number"] (defScope (top 76)) := ⟨rfl, rfl, rfl, by decide +kernel, rfl, by decide +kernel, by decide +kernel⟩
theorem d_takes {P : Program} {w : World} {mg : Str → Option Value} {base : Heap} (C : Cn M K) (Cq : CnOk mg C) (Cf : Kg K mg CA) (B : Free mg) (Y : Pyl P K) (A : Df K mg CA) : DefOk P w K mg base 69 "takes" ["curve", "number"] (spZ M K CA (s_takes C Cf.toKf)) := by
  have D_zeros_in := d_zeros_in (P := P) (w := w) (base := base) C Cq Cf B Y A
  have D_signs_along := d_signs_along (P := P) (w := w) (base := base) C Cq Cf B Y A
  have D_Bent_init := d_Bent_init (P := P) (w := w) (base := base) C Cq Cf B Y A
  have D_row_sum := d_row_sum (P := P) (w := w) (base := base) C Cq Cf B Y A
  have D_row_product := d_row_product (P := P) (w := w) (base := base) C Cq Cf B Y A
  have D_bent_of := d_bent_of (P := P) (w := w) (base := base) C Cq Cf B Y A
  have D_is_fraction := d_is_fraction (P := P) (w := w) (base := base) C Cq Cf B Y A
  have D_need_curve := d_need_curve (P := P) (w := w) (base := base) C Cq Cf B Y A
  refine DefAt.okZF (N := ["curve", "number", "bent", "rows", "row"]) (ps := ["curve", "number"]) (k := 68) (L := fun S as => (L_takes C Cf.toKf)) A.takes sc_takes ?_ ?_
  · exact (fun _ _ _ _ _ _ us hl => match us, hl with | [_, _], _ => rfl)
  · intro S as f cdv Ar outer s H E hr
    have nd := sc_takes.nd
    have tk := takes_of (X := ctx P w K mg base ["curve", "number", "bent", "rows", "row"] "takes" (defScope (top 76)) f cdv Ar outer s H E) (E := E) rfl rfl rfl rfl
    have px : Passes (L2.CX P w) (ctx P w K mg base ["curve", "number", "bent", "rows", "row"] "takes" (defScope (top 76)) f cdv Ar outer s H E) E := passes_call tk fun _ _ _ _ h => h
    refine pss_as (pss_cons (ps_expr (pe_def D_need_curve (hr.mono (by first | decide | omega)) px (pa_cons (pv 0) pa_nil)))
      (pss_cons (ps_if (pt_not (pt_val (pe_def D_is_fraction (hr.mono (by first | decide | omega)) px (pa_cons (pv 1) (pa_cons (pe_op op_pow pe_int pe_int) pa_nil))))) (pss_one (ps_raise rfl tk (pmk_own PySem.F.excBase_ValueError Cq.InvalidNumber.q Cq.InvalidNumber.g Cq.InvalidNumber.k (raises_own Cq.InvalidNumber.s Cq.InvalidNumber.t) rfl))) pss_nil)
      (pss_cons (ps_set (i := 2) nd rfl (by first | exact Or.inl rfl | exact Or.inr rfl) (pe_def D_bent_of (hr.mono (by first | decide | omega)) px (pa_cons (pv 0) pa_nil)))
      (pss_cons (ps_setLc (i := 3) rfl nd rfl rfl (by with_unfolding_all rfl) (pi_seq (pe_fld (pv 2) rfl)) (blkOk_by (own := [("row", 4)]) (by rfl)) (fun _ _ _ _ _ => (pg_name (i := 4) nd rfl (by first | exact Or.inl rfl | exact Or.inr rfl))) (fun _ _ _ _ _ => pts_nil) (fun _ _ _ _ _ => (pe_def D_row_sum (hr.mono (by first | decide | omega)) passL (pa_cons (pe_def D_row_product (hr.mono (by first | decide | omega)) passL (pa_cons (pv 4) (pa_cons (pe_tup (pa_cons (pe_ix (kb_ix (K := K) rfl) (pv 1) pe_int (fun _ _ => rfl)) pa_nil)) pa_nil))) (pa_cons (pe_tup (pa_cons (pe_ix (kb_ix (K := K) rfl) (pv 1) pe_int (fun _ _ => rfl)) pa_nil)) (pa_cons (pe_un un_neg pe_int) pa_nil))))))
      (pss_one (ps_ret (pe_def D_zeros_in (hr.mono (by first | decide | omega)) px (pa_cons (pe_ix ix_seq (pe_def D_signs_along (hr.mono (by first | decide | omega)) px (pa_cons (pe_makeZ D_Bent_init Cf.k_Bent (hr.mono (by first | decide | omega)) px (pa_cons (pv 3) (pa_cons (pe_fld (pv 2) rfl) pa_nil))) pa_nil)) pe_int (fun _ _ => rfl)) pa_nil)))))))) ?_
    dsimp only [L_takes, denSz, denz, denAg, den, denG, gsOf] <;> rfl
theorem sc_is_convex : FnScope ["curve", "bent", "at", "root", "bows", "row"] ["curve"] (defScope (top 79)) := ⟨rfl, rfl, rfl, by decide +kernel, rfl, by decide +kernel, by decide +kernel⟩
theorem d_is_convex {P : Program} {w : World} {mg : Str → Option Value} {base : Heap} (C : Cn M K) (Cq : CnOk mg C) (Cf : Kg K mg CA) (B : Free mg) (Y : Pyl P K) (A : Df K mg CA) : DefOk P w K mg base 69 "is_convex" ["curve"] (spZ M K CA (s_is_convex C Cf.toKf)) := by
  have D_signs_along := d_signs_along (P := P) (w := w) (base := base) C Cq Cf B Y A
  have D_Bent_init := d_Bent_init (P := P) (w := w) (base := base) C Cq Cf B Y A
  have D_slope_of := d_slope_of (P := P) (w := w) (base := base) C Cq Cf B Y A
  have D_sign_at_root := d_sign_at_root (P := P) (w := w) (base := base) C Cq Cf B Y A
  have D_row_sum := d_row_sum (P := P) (w := w) (base := base) C Cq Cf B Y A
  have D_bent_of := d_bent_of (P := P) (w := w) (base := base) C Cq Cf B Y A
  have D_need_curve := d_need_curve (P := P) (w := w) (base := base) C Cq Cf B Y A
  refine DefAt.okZF (N := ["curve", "bent", "at", "root", "bows", "row"]) (ps := ["curve"]) (k := 68) (L := fun S as => (L_is_convex C Cf.toKf)) A.is_convex sc_is_convex ?_ ?_
  · exact (fun _ _ _ _ _ _ us hl => match us, hl with | [_], _ => rfl)
  · intro S as f cdv Ar outer s H E hr
    have nd := sc_is_convex.nd
    have tk := takes_of (X := ctx P w K mg base ["curve", "bent", "at", "root", "bows", "row"] "is_convex" (defScope (top 79)) f cdv Ar outer s H E) (E := E) rfl rfl rfl rfl
    have px : Passes (L2.CX P w) (ctx P w K mg base ["curve", "bent", "at", "root", "bows", "row"] "is_convex" (defScope (top 79)) f cdv Ar outer s H E) E := passes_call tk fun _ _ _ _ h => h
    refine pss_as (pss_cons (ps_expr (pe_def D_need_curve (hr.mono (by first | decide | omega)) px (pa_cons (pv 0) pa_nil)))
      (pss_cons (ps_set (i := 1) nd rfl (by first | exact Or.inl rfl | exact Or.inr rfl) (pe_def D_bent_of (hr.mono (by first | decide | omega)) px (pa_cons (pv 0) pa_nil)))
      (pss_cons (ps_for (passes_of rfl) rfl (pi_enumU rfl B.enumerate (pa_cons (pe_fld (pv 1) rfl) pa_nil)) (pg_tup rfl (pgs_cons (pg_name (i := 2) nd rfl (by first | exact Or.inl rfl | exact Or.inr rfl)) (pgs_cons (pg_name (i := 3) nd rfl (by first | exact Or.inl rfl | exact Or.inr rfl)) pgs_nil))) (pss_one (ps_if (pt_cmpR op_lt (pe_def D_sign_at_root (hr.mono (by first | decide | omega)) px (pa_cons (pe_def D_row_sum (hr.mono (by first | decide | omega)) px (pa_cons (pe_def D_slope_of (hr.mono (by first | decide | omega)) px (pa_cons (pe_ix ix_seq (pe_fld (pv 1) rfl) (pe_op op_addU (pv 2) pe_int) (fun _ _ => rfl)) pa_nil)) (pa_cons (pe_def D_slope_of (hr.mono (by first | decide | omega)) px (pa_cons (pe_ix ix_seq (pe_fld (pv 1) rfl) (pv 2) (fun _ _ => rfl)) pa_nil)) (pa_cons (pe_un un_neg pe_int) pa_nil)))) (pa_cons (pv 3) pa_nil))) pe_int (nomark _)) (pss_one (ps_ret pe_bl)) pss_nil)))
      (pss_cons (ps_set (i := 4) nd rfl (by first | exact Or.inl rfl | exact Or.inr rfl) (pe_makeZ D_Bent_init Cf.k_Bent (hr.mono (by first | decide | omega)) px (pa_cons (pe_lc (own := [("row", 5)]) (by rfl) nd (pi_seq (pe_fld (pv 1) rfl)) (blkOk_by (own := [("row", 5)]) (by rfl)) (fun _ _ _ _ _ => (pg_name (i := 5) nd rfl (by first | exact Or.inl rfl | exact Or.inr rfl))) (fun _ _ _ _ _ => pts_nil) (fun _ _ _ _ _ => (pe_def D_slope_of (hr.mono (by first | decide | omega)) passL (pa_cons (pe_def D_slope_of (hr.mono (by first | decide | omega)) passL (pa_cons (pv 5) pa_nil)) pa_nil)))) (pa_cons (pe_fld (pv 1) rfl) pa_nil))))
      (pss_one (ps_ret (pe_cmpR (op_ninU (units65 hr)) (pe_un un_neg pe_int) (pe_sliceS (pe_ix ix_seq (pe_def D_signs_along (hr.mono (by first | decide | omega)) px (pa_cons (pv 4) pa_nil)) pe_int (fun _ _ => rfl)) po_none po_none (po_some pe_int)) rfl))))))) ?_
    dsimp only [L_is_convex, denSz, denz, denAg, den, denG, gsOf] <;> rfl
theorem sc_slopes_along : FnScope ["bent", "some", "known", "row", "slope", "cuts", "place"] ["bent"] (defScope (top 77)) := ⟨rfl, rfl, rfl, by decide +kernel, rfl, by decide +kernel, by decide +kernel⟩
theorem d_slopes_along {P : Program} {w : World} {mg : Str → Option Value} {base : Heap} (C : Cn M K) (Cq : CnOk mg C) (Cf : Kg K mg CA) (B : Free mg) (Y : Pyl P K) (A : Df K mg CA) : DefOk P w K mg base 46 "slopes_along" ["bent"] (spZ M K CA (s_slopes_along C Cf.toKf)) := by
  have D_places_between := d_places_between (P := P) (w := w) (base := base) C Cq Cf B Y A
  have D_sign_at := d_sign_at (P := P) (w := w) (base := base) C Cq Cf B Y A
  have D_slope_of := d_slope_of (P := P) (w := w) (base := base) C Cq Cf B Y A
  have D_Bent_row_at := d_Bent_row_at (P := P) (w := w) (base := base) C Cq Cf B Y A
  have D_sorted_roots := d_sorted_roots (P := P) (w := w) (base := base) C Cq Cf B Y A
  have D_roots_of := d_roots_of (P := P) (w := w) (base := base) C Cq Cf B Y A
  refine DefAt.okZF (N := ["bent", "some", "known", "row", "slope", "cuts", "place"]) (ps := ["bent"]) (k := 45) (L := fun S as => (L_slopes_along C Cf.toKf)) A.slopes_along sc_slopes_along ?_ ?_
  · exact (fun _ _ _ _ _ _ us hl => match us, hl with | [_], _ => rfl)
  · intro S as f cdv Ar outer s H E hr
    have nd := sc_slopes_along.nd
    have tk := takes_of (X := ctx P w K mg base ["bent", "some", "known", "row", "slope", "cuts", "place"] "slopes_along" (defScope (top 77)) f cdv Ar outer s H E) (E := E) rfl rfl rfl rfl
    have px : Passes (L2.CX P w) (ctx P w K mg base ["bent", "some", "known", "row", "slope", "cuts", "place"] "slopes_along" (defScope (top 77)) f cdv Ar outer s H E) E := passes_call tk fun _ _ _ _ h => h
    refine pss_as (pss_cons (ps_par (i := 1) (j := 2) rfl nd rfl rfl (by decide) rfl rfl (pa_cons (pe_callTy call_list_of rfl B.list bt_list (pa_cons (pe_fld (pv 0) rfl) pa_nil)) (pa_cons pe_dnewT pa_nil)) (by rfl))
      (pss_cons (ps_for (passes_of rfl) rfl (pi_seq (pe_fld (pv 0) rfl)) (pg_name (i := 3) nd rfl (by first | exact Or.inl rfl | exact Or.inr rfl)) (pss_cons (ps_set (i := 4) nd rfl (by first | exact Or.inl rfl | exact Or.inr rfl) (pe_def D_slope_of (hr.mono (by first | decide | omega)) px (pa_cons (pv 3) pa_nil)))
      (pss_one (ps_if (PW.pt (pw_and (pt_cmpR (op_neD hr.units) (pv 4) (pe_tup pa_nil) (nomark _)) (pw_and1 (pt_cmp (pc_dnotin (units1 hr) (pv 4) (pv 2)))))) (pss_cons (ps_dput (units1 hr) (pv 2) (pv 4) pe_bl rfl)
      (pss_one (ps_set (i := 1) nd rfl (by first | exact Or.inl rfl | exact Or.inr rfl) (pe_op op_addU (pv 1) (pe_def D_roots_of (hr.mono (by first | decide | omega)) px (pa_cons (pv 4) pa_nil)))))) pss_nil))))
      (pss_cons (ps_set (i := 5) nd rfl (by first | exact Or.inl rfl | exact Or.inr rfl) (pe_def D_sorted_roots (hr.mono (by first | decide | omega)) px (pa_cons (pv 1) pa_nil)))
      (pss_one (ps_ret (pe_lc (own := [("place", 6)]) (by rfl) nd (pi_seq (pe_def D_places_between (hr.mono (by first | decide | omega)) px (pa_cons (pv 5) pa_nil))) (blkOk_by (own := [("place", 6)]) (by rfl)) (fun _ _ _ _ _ => (pg_name (i := 6) nd rfl (by first | exact Or.inl rfl | exact Or.inr rfl))) (fun _ _ _ _ _ => pts_nil) (fun _ _ _ _ _ => (pe_def D_sign_at (hr.mono (by first | decide | omega)) passL (pa_cons (pe_def D_slope_of (hr.mono (by first | decide | omega)) passL (pa_cons (pe_methZ D_Bent_row_at Cf.c_Bent (hr.mono (by first | decide | omega)) passL (pv 0) (pa_cons (pv 6) pa_nil)) pa_nil)) (pa_cons (pv 6) pa_nil)))))))))) ?_
    dsimp only [L_slopes_along, denSz, denz, denAg, den, denG, gsOf] <;> rfl
theorem sc_ways : FnScope ["curve"] ["curve"] (defScope (top 78)) := ⟨rfl, rfl, rfl, by decide +kernel, rfl, by decide +kernel, by decide +kernel⟩
theorem d_ways {P : Program} {w : World} {mg : Str → Option Value} {base : Heap} (C : Cn M K) (Cq : CnOk mg C) (Cf : Kg K mg CA) (B : Free mg) (Y : Pyl P K) (A : Df K mg CA) : DefOk P w K mg base 69 "ways" ["curve"] (spZ M K CA (s_ways C Cf.toKf)) := by
  have D_without_repeats := d_without_repeats (P := P) (w := w) (base := base) C Cq Cf B Y A
  have D_slopes_along := d_slopes_along (P := P) (w := w) (base := base) C Cq Cf B Y A
  have D_bent_of := d_bent_of (P := P) (w := w) (base := base) C Cq Cf B Y A
  have D_need_curve := d_need_curve (P := P) (w := w) (base := base) C Cq Cf B Y A
  refine DefAt.okZF (N := ["curve"]) (ps := ["curve"]) (k := 68) (L := fun S as => (L_ways C Cf.toKf)) A.ways sc_ways ?_ ?_
  · exact (fun _ _ _ _ _ _ us hl => match us, hl with | [_], _ => rfl)
  · intro S as f cdv Ar outer s H E hr
    have nd := sc_ways.nd
    have tk := takes_of (X := ctx P w K mg base ["curve"] "ways" (defScope (top 78)) f cdv Ar outer s H E) (E := E) rfl rfl rfl rfl
    have px : Passes (L2.CX P w) (ctx P w K mg base ["curve"] "ways" (defScope (top 78)) f cdv Ar outer s H E) E := passes_call tk fun _ _ _ _ h => h
    refine pss_as (pss_cons (ps_expr (pe_def D_need_curve (hr.mono (by first | decide | omega)) px (pa_cons (pv 0) pa_nil)))
      (pss_one (ps_ret (pe_def D_without_repeats (hr.mono (by first | decide | omega)) px (pa_cons (pe_def D_slopes_along (hr.mono (by first | decide | omega)) px (pa_cons (pe_def D_bent_of (hr.mono (by first | decide | omega)) px (pa_cons (pv 0) pa_nil)) pa_nil)) pa_nil))))) ?_
    dsimp only [L_ways, denSz, denz, denAg, den, denG, gsOf] <;> rfl
theorem sc_meetings : FnScope ["curve", "other"] ["curve", "other"] (defScope (top 71)) := ⟨rfl, rfl, rfl, by decide +kernel, rfl, by decide +kernel, by decide +kernel⟩
theorem d_meetings {P : Program} {w : World} {mg : Str → Option Value} {base : Heap} (C : Cn M K) (Cq : CnOk mg C) (Cf : Kg K mg CA) (B : Free mg) (Y : Pyl P K) (A : Df K mg CA) : DefOk P w K mg base 69 "meetings" ["curve", "other"] (spZ M K CA (s_meetings C Cf.toKf)) := by
  have D_zeros_in := d_zeros_in (P := P) (w := w) (base := base) C Cq Cf B Y A
  have D_signs_along := d_signs_along (P := P) (w := w) (base := base) C Cq Cf B Y A
  have D_gap_of := d_gap_of (P := P) (w := w) (base := base) C Cq Cf B Y A
  have D_bent_of := d_bent_of (P := P) (w := w) (base := base) C Cq Cf B Y A
  have D_need_two := d_need_two (P := P) (w := w) (base := base) C Cq Cf B Y A
  refine DefAt.okZF (N := ["curve", "other"]) (ps := ["curve", "other"]) (k := 68) (L := fun S as => (L_meetings C Cf.toKf)) A.meetings sc_meetings ?_ ?_
  · exact (fun _ _ _ _ _ _ us hl => match us, hl with | [_, _], _ => rfl)
  · intro S as f cdv Ar outer s H E hr
    have nd := sc_meetings.nd
    have tk := takes_of (X := ctx P w K mg base ["curve", "other"] "meetings" (defScope (top 71)) f cdv Ar outer s H E) (E := E) rfl rfl rfl rfl
    have px : Passes (L2.CX P w) (ctx P w K mg base ["curve", "other"] "meetings" (defScope (top 71)) f cdv Ar outer s H E) E := passes_call tk fun _ _ _ _ h => h
    refine pss_as (pss_cons (ps_expr (pe_def D_need_two (hr.mono (by first | decide | omega)) px (pa_cons (pv 0) (pa_cons (pv 1) pa_nil))))
      (pss_one (ps_ret (pe_def D_zeros_in (hr.mono (by first | decide | omega)) px (pa_cons (pe_ix ix_seq (pe_def D_signs_along (hr.mono (by first | decide | omega)) px (pa_cons (pe_def D_gap_of (hr.mono (by first | decide | omega)) px (pa_cons (pe_def D_bent_of (hr.mono (by first | decide | omega)) px (pa_cons (pv 0) pa_nil)) (pa_cons (pe_def D_bent_of (hr.mono (by first | decide | omega)) px (pa_cons (pv 1) pa_nil)) pa_nil))) pa_nil)) pe_int (fun _ _ => rfl)) pa_nil))))) ?_
    dsimp only [L_meetings, denSz, denz, denAg, den, denG, gsOf] <;> rfl
theorem sc_law_drawn : FnScope ["_law_cell_here", "_law_k", "_law_more"] ["_law_cell_here", "_law_k"] (defScope (top 82)) := ⟨rfl, rfl, rfl, by decide +kernel, rfl, by decide +kernel, by decide +kernel⟩
theorem d_law_drawn {P : Program} {w : World} {mg : Str → Option Value} {base : Heap} (C : Cn M K) (Cq : CnOk mg C) (Cf : Kg K mg CA) (B : Free mg) (Y : Pyl P K) (A : Df K mg CA) : DefOk P w K mg base 41 "_law_drawn" ["_law_cell_here", "_law_k"] (spD M K (s_law_drawn C Cf.toKf)) := by
  refine DefAt.okSF (N := ["_law_cell_here", "_law_k", "_law_more"]) (ps := ["_law_cell_here", "_law_k"]) (k := 40) (L := fun as => (L_law_drawn C Cf.toKf)) A.law_drawn sc_law_drawn ?_ ?_
  · exact (fun _ _ _ _ _ _ us hl => match us, hl with | [_, _], _ => rfl)
  · intro as f cdv Ar outer s H E hr
    have nd := sc_law_drawn.nd
    have tk := takes_of (X := ctx P w K mg base ["_law_cell_here", "_law_k", "_law_more"] "_law_drawn" (defScope (top 82)) f cdv Ar outer s H E) (E := E) rfl rfl rfl rfl
    have px : Passes (L2.CX P w) (ctx P w K mg base ["_law_cell_here", "_law_k", "_law_more"] "_law_drawn" (defScope (top 82)) f cdv Ar outer s H E) E := passes_call tk fun _ _ _ _ h => h
    refine pss_as (pss_cons (ps_set (i := 2) nd rfl (by first | exact Or.inl rfl | exact Or.inr rfl) (pe_op op_modN (pe_op op_addU (pe_op op_mulU (pv 0) pe_int) (pe_op op_mulU (pe_op op_addU (pv 1) pe_int) pe_int)) pe_int))
      (pss_cons (ps_set (i := 2) nd rfl (by first | exact Or.inl rfl | exact Or.inr rfl) (pe_op op_modN (pe_op op_mulU (pv 2) (pv 2)) pe_int))
      (pss_cons (ps_set (i := 2) nd rfl (by first | exact Or.inl rfl | exact Or.inr rfl) (pe_op op_mulU (pe_op op_mulU (pe_op op_addU (pe_op op_modN (pv 2) pe_int) pe_int) (pe_op op_addU (pe_op (op_fdivP Y (hr.mono (by first | decide | omega)) rfl rfl rfl) (pv 2) pe_int) pe_int)) (pv 2)))
      (pss_one (ps_ret (pe_op op_modN (pv 2) pe_int)))))) ?_
    dsimp only [L_law_drawn, denS, den, denG, gsOf] <;> rfl
theorem sc_law_roll : FnScope ["_law_dice", "_law_many", "_law_told"] ["_law_dice", "_law_many"] (defScope (top 83)) := ⟨rfl, rfl, rfl, by decide +kernel, rfl, by decide +kernel, by decide +kernel⟩
theorem d_law_roll {P : Program} {w : World} {mg : Str → Option Value} {base : Heap} (C : Cn M K) (Cq : CnOk mg C) (Cf : Kg K mg CA) (B : Free mg) (Y : Pyl P K) (A : Df K mg CA) : DefOk P w K mg base 42 "_law_roll" ["_law_dice", "_law_many"] (spL M K (s_law_roll C Cf.toKf)) := by
  have D_law_drawn := d_law_drawn (P := P) (w := w) (base := base) C Cq Cf B Y A
  refine DefAt.okLF (N := ["_law_dice", "_law_many", "_law_told"]) (ps := ["_law_dice", "_law_many"]) (k := 41) (L := fun as => (L_law_roll C Cf.toKf)) A.law_roll sc_law_roll ?_ (by decide) ?_
  · exact (fun _ _ _ _ _ _ us hl => match us, hl with | [_, _], _ => rfl)
  · intro as f cdv Ar outer s H E hr
    have nd := sc_law_roll.nd
    have tk := takes_of (X := ctx P w K mg base ["_law_dice", "_law_many", "_law_told"] "_law_roll" (defScope (top 83)) f cdv Ar outer s H E) (E := E) rfl rfl rfl rfl
    have px : Passes (L2.CX P w) (ctx P w K mg base ["_law_dice", "_law_many", "_law_told"] "_law_roll" (defScope (top 83)) f cdv Ar outer s H E) E := passes_call tk fun _ _ _ _ h => h
    refine pss_as (pss_cons (ps_if (pt_cmpR op_ge (pe_ix ix_seq (pv 0) pe_int (fun _ _ => rfl)) (pe_op op_pow pe_int pe_int) (nomark _)) (pss_cons (ps_set (i := 2) nd rfl (by first | exact Or.inl rfl | exact Or.inr rfl) (pe_op op_modN (pe_ix ix_seq (pv 0) pe_int (fun _ _ => rfl)) (pv 1)))
      (pss_cons (ps_asg (pe_op (op_fdivP Y (hr.mono (by first | decide | omega)) rfl rfl rfl) (pe_ix ix_seq (pv 0) pe_int (fun _ _ => rfl)) (pv 1)) (pg_sub (pv 0) pe_int set_list))
      (pss_one (ps_ret (pv 2))))) pss_nil)
      (pss_cons (ps_asg (pe_op op_addU (pe_ix ix_seq (pv 0) pe_int (fun _ _ => rfl)) pe_int) (pg_sub (pv 0) pe_int set_list))
      (pss_one (ps_ret (pe_op op_modN (pe_op (op_fdivP Y (hr.mono (by first | decide | omega)) rfl rfl rfl) (pe_def D_law_drawn (hr.mono (by first | decide | omega)) px (pa_cons (pe_ix ix_seq (pv 0) pe_int (fun _ _ => rfl)) (pa_cons (pe_ix ix_seq (pv 0) pe_int (fun _ _ => rfl)) pa_nil))) pe_int) (pv 1)))))) ?_
    dsimp only [L_law_roll, denS, den, denG, gsOf] <;> rfl
theorem sc_law_right_near : FnScope ["_law_x", "_law_one", "_law_two", "_law_k", "_law_near", "_law_low"] [] (defScope (top 85)) := ⟨rfl, rfl, rfl, by decide +kernel, rfl, by decide +kernel, by decide +kernel⟩
theorem d_law_right_near {P : Program} {w : World} {mg : Str → Option Value} {base : Heap} (C : Cn M K) (Cq : CnOk mg C) (Cf : Kg K mg CA) (B : Free mg) (Y : Pyl P K) (A : Df K mg CA) : DefOk P w K mg base 70 "_law_right_near" [] (spD M K (s_law_right_near C Cf.toKf)) := by
  have D_signs := d_signs (P := P) (w := w) (base := base) C Cq Cf B Y A
  have D_meetings := d_meetings (P := P) (w := w) (base := base) C Cq Cf B Y A
  have D_parting := d_parting (P := P) (w := w) (base := base) C Cq Cf B Y A
  have D_ways := d_ways (P := P) (w := w) (base := base) C Cq Cf B Y A
  have D_is_convex := d_is_convex (P := P) (w := w) (base := base) C Cq Cf B Y A
  have D_takes := d_takes (P := P) (w := w) (base := base) C Cq Cf B Y A
  have D_form := d_form (P := P) (w := w) (base := base) C Cq Cf B Y A
  refine DefAt.okSF (N := ["_law_x", "_law_one", "_law_two", "_law_k", "_law_near", "_law_low"]) (ps := []) (k := 69) (L := fun as => (L_law_right_near C Cf.toKf)) A.law_right_near sc_law_right_near ?_ ?_
  · exact (fun _ _ _ _ _ _ us hl => match us, hl with | [], _ => rfl)
  · intro as f cdv Ar outer s H E hr
    have nd := sc_law_right_near.nd
    have tk := takes_of (X := ctx P w K mg base ["_law_x", "_law_one", "_law_two", "_law_k", "_law_near", "_law_low"] "_law_right_near" (defScope (top 85)) f cdv Ar outer s H E) (E := E) rfl rfl rfl rfl
    have px : Passes (L2.CX P w) (ctx P w K mg base ["_law_x", "_law_one", "_law_two", "_law_k", "_law_near", "_law_low"] "_law_right_near" (defScope (top 85)) f cdv Ar outer s H E) E := passes_call tk fun _ _ _ _ h => h
    refine pss_as (pss_cons (ps_set (i := 0) nd rfl (by first | exact Or.inl rfl | exact Or.inr rfl) (pe_tup (pa_cons pe_str pa_nil)))
      (pss_cons (ps_asg (pe_lc (own := [("_law_k", 3)]) (by rfl) nd (pi_seq (pe_tup (pa_cons pe_int (pa_cons pe_int pa_nil)))) (blkOk_by (own := [("_law_k", 3)]) (by rfl)) (fun _ _ _ _ _ => (pg_name (i := 3) nd rfl (by first | exact Or.inl rfl | exact Or.inr rfl))) (fun _ _ _ _ _ => pts_nil) (fun _ _ _ _ _ => (pe_tup (pa_cons pe_str (pa_cons (pe_tup (pa_cons pe_str (pa_cons (pe_tup (pa_cons pe_str (pa_cons (pv 3) pa_nil))) (pa_cons (pv 0) pa_nil)))) (pa_cons (pe_tup (pa_cons pe_str (pa_cons (pe_un un_neg pe_int) pa_nil))) pa_nil)))))) (pg_unl rfl (pgs_cons (pg_name (i := 1) nd rfl (by first | exact Or.inl rfl | exact Or.inr rfl)) (pgs_cons (pg_name (i := 2) nd rfl (by first | exact Or.inl rfl | exact Or.inr rfl)) pgs_nil))))
      (pss_cons (ps_set (i := 4) nd rfl (by first | exact Or.inl rfl | exact Or.inr rfl) (pe_tup (pa_cons pe_str (pa_cons (pe_tup (pa_cons pe_str (pa_cons (pv 1) (pa_cons (pv 2) pa_nil)))) (pa_cons (pe_tup (pa_cons pe_str (pa_cons pe_int pa_nil))) pa_nil)))))
      (pss_cons (ps_if (PW.pt (pw_or (pt_cmpR (op_neD hr.units) (pe_def D_form.pureZ (hr.mono (by first | decide | omega)) px (pa_cons (pv 4) pa_nil)) (pe_tup (pa_cons (pe_tup (pa_cons pe_int (pa_cons (pe_un un_neg pe_int) (pa_cons pe_int pa_nil)))) (pa_cons pe_int (pa_cons (pe_tup pa_nil) (pa_cons pe_int (pa_cons (pe_tup (pa_cons pe_int (pa_cons (pe_un un_neg pe_int) (pa_cons pe_int pa_nil)))) pa_nil)))))) (nomark _)) (pw_or1 (pt_cmpR (op_neD hr.units) (pe_def D_signs.pureZ (hr.mono (by first | decide | omega)) px (pa_cons (pv 4) pa_nil)) (pe_tup (pa_cons pe_int (pa_cons pe_int (pa_cons pe_int pa_nil)))) (nomark _))))) (pss_one (ps_ret pe_bl)) pss_nil)
      (pss_cons (ps_if (pt_cmpR (op_neD hr.units) (pe_def D_parting.pureZ (hr.mono (by first | decide | omega)) px (pa_cons (pv 4) (pa_cons (pe_tup (pa_cons pe_str (pa_cons pe_int pa_nil))) pa_nil))) (pe_tup (pa_cons pe_int (pa_cons pe_int pa_nil))) (nomark _)) (pss_one (ps_ret pe_bl)) pss_nil)
      (pss_cons (ps_if (PW.pt (pw_or (pt_cmpR (op_neD hr.units) (pe_def D_takes.pureZ (hr.mono (by first | decide | omega)) px (pa_cons (pv 4) (pa_cons (pe_tup (pa_cons pe_int (pa_cons pe_int pa_nil))) pa_nil))) pe_int (nomark _)) (pw_or (pt_cmpR op_notU (pe_def D_is_convex.pureZ (hr.mono (by first | decide | omega)) px (pa_cons (pv 4) pa_nil)) pe_bl (nomark _)) (pw_or1 (pt_cmpR (op_neD hr.units) (pe_def D_ways.pureZ (hr.mono (by first | decide | omega)) px (pa_cons (pv 4) pa_nil)) (pe_tup (pa_cons (pe_un un_neg pe_int) (pa_cons pe_int (pa_cons pe_int pa_nil)))) (nomark _)))))) (pss_one (ps_ret pe_bl)) pss_nil)
      (pss_cons (ps_set (i := 5) nd rfl (by first | exact Or.inl rfl | exact Or.inr rfl) (pe_tup (pa_cons pe_str (pa_cons (pe_tup (pa_cons pe_str (pa_cons (pv 1) (pa_cons (pv 2) pa_nil)))) (pa_cons (pe_tup (pa_cons pe_str (pa_cons pe_int pa_nil))) pa_nil)))))
      (pss_cons (ps_if (PW.pt (pw_or (pt_cmpR (op_neD hr.units) (pe_def D_parting.pureZ (hr.mono (by first | decide | omega)) px (pa_cons (pv 5) (pa_cons (pe_tup (pa_cons pe_str (pa_cons pe_int pa_nil))) pa_nil))) (pe_tup (pa_cons pe_int (pa_cons pe_int pa_nil))) (nomark _)) (pw_or1 (pt_cmpR op_notU (pe_def D_meetings.pureZ (hr.mono (by first | decide | omega)) px (pa_cons (pv 5) (pa_cons (pe_tup (pa_cons pe_str (pa_cons pe_int pa_nil))) pa_nil))) pe_non (nomark _))))) (pss_one (ps_ret pe_bl)) pss_nil)
      (pss_cons (ps_if (pt_cmpR (op_neD hr.units) (pe_def D_signs.pureZ (hr.mono (by first | decide | omega)) px (pa_cons (pv 5) pa_nil)) (pe_tup (pa_cons pe_int (pa_cons (pe_un un_neg pe_int) (pa_cons pe_int pa_nil)))) (nomark _)) (pss_one (ps_ret pe_bl)) pss_nil)
      (pss_one (ps_ret pe_bl))))))))))) ?_
    dsimp only [L_law_right_near, denS, den, denG, gsOf] <;> rfl
end Bc

set_option maxRecDepth 100000
set_option maxHeartbeats 0
namespace Bc
open PySem PySem.Spec
open PyProof.Rows L2
variable {M : Hp → Hp → Prop} [g : GB M] {K : PySem.W.Frag} {CA : Str → Addr}
theorem sc_law_cell : FnScope ["_law_script", "_law_k"] ["_law_script", "_law_k"] (defScope (top 81)) := ⟨rfl, rfl, rfl, by decide +kernel, rfl, by decide +kernel, by decide +kernel⟩
theorem d_law_cell {P : Program} {w : World} {mg : Str → Option Value} {base : Heap} (B : Free mg) (Y : Pyl P K) (A : DefAt K mg "_law_cell" (top 81)) : DefOk P w K mg base 41 "_law_cell" ["_law_script", "_law_k"] (spCell K) := by
  refine DefAt.okH (N := ["_law_script", "_law_k"]) (k := 40) A sc_law_cell (fun _ _ _ _ _ _ us hl => match us, hl with | [_, _], _ => rfl) (fun vs H Q E h => ?_) (fun f cdv Ar outer s H E hr => ⟨t_cell K, ?_, fun vs Q h => cell_ok h⟩)
  · obtain ⟨a, ns, k, e, _⟩ := h
    rw [e]
    rfl
  · have nd := sc_law_cell.nd
    exact pss_as (pss_cons (ps_if (pt_cmpR (op_eqD hr.units) (pv 0) (pe_lst pa_nil) (nomark _)) (pss_one (ps_ret (pe_op op_mulU (pv 1) pe_int))) pss_nil)
      (pss_one (ps_ret (pe_op op_addU (pe_ix ix_seq (pv 0) (pe_op op_modN (pv 1) (pe_callB call_len rfl B.len bt_len (pa_cons (pv 0) pa_nil))) (fun _ _ => rfl)) (pe_op op_mulU (pe_op (op_fdivP Y (hr.mono (by first | decide | omega)) rfl rfl rfl) (pv 1) (pe_callB call_len rfl B.len bt_len (pa_cons (pv 0) pa_nil))) pe_int))))) rfl
theorem sc_law_rounds : FnScope ["_law_script", "_law_most", "_law_k"] ["_law_script", "_law_most"] (defScope (top 84)) := ⟨rfl, rfl, rfl, by decide +kernel, rfl, by decide +kernel, by decide +kernel⟩
theorem d_law_rounds {P : Program} {w : World} {mg : Str → Option Value} {base : Heap} (B : Free mg) (D_law_cell : DefOk P w K mg base 41 "_law_cell" ["_law_script", "_law_k"] (spCell K)) (A : DefAt K mg "_law_rounds" (top 84)) : DefOk P w K mg base 42 "_law_rounds" ["_law_script", "_law_most"] (spRounds K) := by
  refine DefAt.okH (N := ["_law_script", "_law_most", "_law_k"]) (k := 41) A sc_law_rounds (fun _ _ _ _ _ _ us hl => match us, hl with | [_, _], _ => rfl) (fun vs H Q E h => ?_) (fun f cdv Ar outer s H E hr => ⟨t_rounds K E0, ?_, fun vs Q h => rounds_ok (by decide) h⟩)
  · obtain ⟨a, ns, k, e, _⟩ := h
    rw [e]
    rfl
  · have nd := sc_law_rounds.nd
    exact pss_as (pss_one (ps_ret (pe_lc (own := [("_law_k", 2)]) (by rfl) nd (pi_range1 rfl B.range (pa_cons (pe_callB (call_max2 rfl) rfl B.max bt_max (pa_cons pe_int (pa_cons (pe_callB (call_min2 rfl) rfl B.min bt_min (pa_cons (pv 1) (pa_cons (pe_callB call_len rfl B.len bt_len (pa_cons (pv 0) pa_nil)) pa_nil))) pa_nil))) pa_nil)) (blkOk_by (own := [("_law_k", 2)]) (by rfl)) (fun _ _ _ _ _ => (pg_name (i := 2) nd rfl (by first | exact Or.inl rfl | exact Or.inr rfl))) (fun _ _ _ _ _ => pts_nil) (fun _ _ _ _ _ => (pe_lst (pa_cons (pe_def D_law_cell (hr.mono (by first | decide | omega)) passL (pa_cons (pv 0) (pa_cons (pv 2) pa_nil))) (pa_cons pe_int pa_nil))))))) rfl
theorem sc_law : FnScope ["_law_script", "_law_dice", "_law_n", "_law_x", "_law_square", "_law_gap", "_law_one", "_law_two", "_law_three", "_law_tiny"] ["_law_script"] (defScope (top 86)) := ⟨rfl, rfl, rfl, by decide +kernel, rfl, by decide +kernel, by decide +kernel⟩
theorem fn_law {P : Program} {w : World} {mg : Str → Option Value} {base : Heap} (C : Cn M K) (Cq : CnOk mg C) (Cf : Kg K mg CA) (B : Free mg) (Y : Pyl P K) (A : Df K mg CA) (A1 : DefAt K mg "_law_cell" (top 81)) (A2 : DefAt K mg "_law_rounds" (top 84)) {f : Addr} {fd : FuncData} (F : FunD K "law" "law" (defArgs (top 86)) (defBody (top 86)) (defScope (top 86)) [] [] f fd) : FnOk P w K mg base (L2.CX P w) 71 f fd ["_law_script"] (spLaw M K 10 2 (LB C Cf.toKf)) := by
  have D_law_cell := d_law_cell (P := P) (w := w) (base := base) B Y A1
  have D_law_rounds := d_law_rounds (P := P) (w := w) (base := base) B D_law_cell A2
  have D_law_roll := d_law_roll (P := P) (w := w) (base := base) C Cq Cf B Y A
  have D_form := d_form (P := P) (w := w) (base := base) C Cq Cf B Y A
  have D_takes := d_takes (P := P) (w := w) (base := base) C Cq Cf B Y A
  have D_meetings := d_meetings (P := P) (w := w) (base := base) C Cq Cf B Y A
  have D_signs := d_signs (P := P) (w := w) (base := base) C Cq Cf B Y A
  have D_law_right_near := d_law_right_near (P := P) (w := w) (base := base) C Cq Cf B Y A
  have D_ways := d_ways (P := P) (w := w) (base := base) C Cq Cf B Y A
  refine F.ok (CX := L2.CX P w) sc_law (fun vs H Q E h => ?_) (fun cdv Ar outer s H vs Q E hr h => ?_)
  · obtain ⟨a, ns, e, _⟩ := h
    rw [e]
    rfl
  · have nd := sc_law.nd
    have tk := takes_of (X := ctx P w K mg base ["_law_script", "_law_dice", "_law_n", "_law_x", "_law_square", "_law_gap", "_law_one", "_law_two", "_law_three", "_law_tiny"] "law" (defScope (top 86)) f cdv Ar outer s H E) (E := E) rfl rfl rfl rfl
    have px : Passes (L2.CX P w) (ctx P w K mg base ["_law_script", "_law_dice", "_law_n", "_law_x", "_law_square", "_law_gap", "_law_one", "_law_two", "_law_three", "_law_tiny"] "law" (defScope (top 86)) f cdv Ar outer s H E) E := passes_call tk fun _ _ _ _ h => h
    have key : PSs (ctx P w K mg base ["_law_script", "_law_dice", "_law_n", "_law_x", "_law_square", "_law_gap", "_law_one", "_law_two", "_law_three", "_law_tiny"] "law" (defScope (top 86)) f cdv Ar outer s H E) (defBody (top 86)) (t_law M K E 2 (LB C Cf.toKf)) := by
      refine pss_as (pss_cons (ps_for (passes_of rfl) rfl (pi_seq (pe_def D_law_rounds (hr.mono (by first | decide | omega)) px (pa_cons (pv 0) (pa_cons pe_int pa_nil)))) (pg_name (i := 1) nd rfl (by first | exact Or.inl rfl | exact Or.inr rfl)) (pss_cons (ps_par (i := 2) (j := 3) rfl nd rfl rfl (by decide) rfl rfl (pa_cons (pe_op op_addU pe_int (pe_def D_law_roll (hr.mono (by first | decide | omega)) px (pa_cons (pv 1) (pa_cons pe_int pa_nil)))) (pa_cons (pe_tup (pa_cons pe_str pa_nil)) pa_nil)) (by rfl))
      (pss_cons (ps_set (i := 4) nd rfl (by first | exact Or.inl rfl | exact Or.inr rfl) (pe_tup (pa_cons pe_str (pa_cons (pv 3) (pa_cons (pv 3) pa_nil)))))
      (pss_cons (ps_set (i := 5) nd rfl (by first | exact Or.inl rfl | exact Or.inr rfl) (pe_tup (pa_cons pe_str (pa_cons (pv 4) (pa_cons (pe_tup (pa_cons pe_str (pa_cons (pe_un un_neg (pv 2)) pa_nil))) pa_nil)))))
      (pss_cons (ps_set (i := 6) nd rfl (by first | exact Or.inl rfl | exact Or.inr rfl) (pe_tup (pa_cons pe_str (pa_cons (pv 5) (pa_cons (pe_tup (pa_cons pe_str (pa_cons pe_int pa_nil))) pa_nil)))))
      (pss_cons (ps_set (i := 7) nd rfl (by first | exact Or.inl rfl | exact Or.inr rfl) (pe_tup (pa_cons pe_str (pa_cons (pe_tup (pa_cons pe_str (pa_cons (pe_tup (pa_cons pe_str (pa_cons pe_int pa_nil))) (pa_cons (pv 5) pa_nil)))) (pa_cons (pe_tup (pa_cons pe_str (pa_cons pe_int pa_nil))) pa_nil)))))
      (pss_cons (ps_set (i := 8) nd rfl (by first | exact Or.inl rfl | exact Or.inr rfl) (pe_tup (pa_cons (pe_op op_mulU (pe_un un_neg pe_int) (pv 2)) (pa_cons pe_int (pa_cons pe_int pa_nil)))))
      (pss_cons (ps_if (pt_cmpR (op_neD hr.units) (pe_def D_form.pureZ (hr.mono (by first | decide | omega)) px (pa_cons (pe_tup (pa_cons pe_str (pa_cons (pv 5) (pa_cons (pe_tup (pa_cons pe_str (pa_cons (pe_tup (pa_cons pe_str (pa_cons pe_int pa_nil))) (pa_cons (pv 5) pa_nil)))) pa_nil)))) pa_nil)) (pe_tup (pa_cons (pv 8) (pa_cons pe_int (pa_cons (pe_tup (pa_cons (pe_un un_neg (pv 2)) (pa_cons pe_int (pa_cons pe_int pa_nil)))) (pa_cons pe_int (pa_cons (pv 8) pa_nil)))))) (nomark _)) (pss_one (ps_ret pe_bl)) pss_nil)
      (pss_cons (ps_if (PW.pt (pw_or (pt_cmpR op_notU (pe_def D_meetings.pureZ (hr.mono (by first | decide | omega)) px (pa_cons (pv 6) (pa_cons (pv 7) pa_nil))) pe_non (nomark _)) (pw_or1 (pt_cmpR (op_neD hr.units) (pe_def D_takes.pureZ (hr.mono (by first | decide | omega)) px (pa_cons (pv 5) (pa_cons (pe_tup (pa_cons pe_int (pa_cons pe_int pa_nil))) pa_nil))) pe_int (nomark _))))) (pss_one (ps_ret pe_bl)) pss_nil)
      (pss_cons (ps_if (pt_cmpR (op_neD hr.units) (pe_def D_signs.pureZ (hr.mono (by first | decide | omega)) px (pa_cons (pe_tup (pa_cons pe_str (pa_cons (pv 5) (pa_cons (pv 5) pa_nil)))) pa_nil)) (pe_tup (pa_cons pe_int (pa_cons pe_int (pa_cons pe_int (pa_cons pe_int (pa_cons pe_int pa_nil)))))) (nomark _)) (pss_one (ps_ret pe_bl)) pss_nil)
      (pss_cons (ps_if (pt_not (pt_val (pe_def0 D_law_right_near (hr.mono (by first | decide | omega)) px))) (pss_one (ps_ret pe_bl)) pss_nil)
      (pss_cons (ps_set (i := 9) nd rfl (by first | exact Or.inl rfl | exact Or.inr rfl) (pe_tup (pa_cons pe_str (pa_cons (pe_tup (pa_cons pe_str (pa_cons (pv 4) (pa_cons (pv 4) pa_nil)))) (pa_cons (pe_tup (pa_cons pe_str (pa_cons (pe_tup (pa_cons pe_str (pa_cons (pe_tup (pa_cons pe_str (pa_cons pe_int pa_nil))) (pa_cons (pv 3) pa_nil)))) (pa_cons (pe_tup (pa_cons pe_str (pa_cons (pe_un un_neg (pv 2)) pa_nil))) pa_nil)))) pa_nil)))))
      (pss_cons (ps_if (PW.pt (pw_or (pt_cmpR (op_neD hr.units) (pe_def D_form.pureZ (hr.mono (by first | decide | omega)) px (pa_cons (pe_tup (pa_cons pe_str (pa_cons (pv 9) (pa_cons (pe_tup (pa_cons pe_str (pa_cons pe_int pa_nil))) pa_nil)))) pa_nil)) (pe_def D_form.pureZ (hr.mono (by first | decide | omega)) px (pa_cons (pv 9) pa_nil)) (nomark _)) (pw_or1 (pt_cmpR (op_neD hr.units) (pe_def D_takes.pureZ (hr.mono (by first | decide | omega)) px (pa_cons (pv 9) (pa_cons (pe_tup (pa_cons pe_int (pa_cons pe_int pa_nil))) pa_nil))) pe_int (nomark _))))) (pss_one (ps_ret pe_bl)) pss_nil)
      (pss_one (ps_if (pt_cmpR (op_neD hr.units) (pe_def D_ways.pureZ (hr.mono (by first | decide | omega)) px (pa_cons (pv 9) pa_nil)) (pe_tup (pa_cons (pe_un un_neg pe_int) (pa_cons pe_int pa_nil))) (nomark _)) (pss_one (ps_ret pe_bl)) pss_nil)))))))))))))))
      (pss_one (ps_ret pe_bl))) ?_
      dsimp only [t_law, LB, Lb0, Lb1, Lb2, Lb3, Lb4, Lb5, Lb6, Lb7, Lb8, Lb9, Lb10, Lb11, Lb12, denS, den, denG, gsOf] <;> rfl
    exact ⟨_, key, law_ok (by decide) (by decide) h⟩
end Bc

set_option maxRecDepth 100000
set_option maxHeartbeats 0
namespace Bc
open PySem PySem.Spec
open PyProof.Rows L2
variable {M : Hp → Hp → Prop} [g : GB M] {K : PySem.W.Frag} {CA : Str → Addr}
theorem drawn_ok (C : Cn M K) (Cf : Kf K CA) {c k : Int} (hc : Sm 2000000 c) (hk : Sm 2000000 k) : ∃ d, s_law_drawn C Cf [.int c, .int k] = some (.ok (.int d)) := by
  unfold s_law_drawn
  rw [sOfF_eq]
  unfold sOf L_law_drawn
  have m1 : CMulB c 6364136223846793005 := hc.cm (m := 100) (by unfold Sm; decide) (by decide)
  have k1 : Sm 2000001 (k + 1) := hk.add (b := 1) (by unfold Sm; exact Nat.one_lt_two_pow (by decide))
  have m2 : CMulB (k + 1) 1442695040888963407 := k1.cm (m := 100) (by unfold Sm; decide) (by decide)
  generalize h1 : (c * 6364136223846793005 + (k + 1) * 1442695040888963407).fmod 340282366920938463463374607431768211507 = x1
  have s1 : Sm 200 x1 := by
    obtain ⟨a, b⟩ := fmod_sm (a := c * 6364136223846793005 + (k + 1) * 1442695040888963407) (b := 340282366920938463463374607431768211507) (by decide)
    rw [h1] at a b
    exact Sm.of a (Int.lt_trans b (by decide))
  generalize h2 : (x1 * x1).fmod 340282366920938463463374607431768211297 = x2
  have s2 : Sm 200 x2 := by
    obtain ⟨a, b⟩ := fmod_sm (a := x1 * x1) (b := 340282366920938463463374607431768211297) (by decide)
    rw [h2] at a b
    exact Sm.of a (Int.lt_trans b (by decide))
  have p2 : 0 ≤ x2 := by
    obtain ⟨a, b⟩ := fmod_sm (a := x1 * x1) (b := 340282366920938463463374607431768211297) (by decide)
    rw [h2] at a b
    exact a
  have s3 : Sm 201 (x2.fmod 18446744073709551557 + 1) := by
    obtain ⟨a, b⟩ := fmod_sm (a := x2) (b := 18446744073709551557) (by decide)
    exact Sm.add (n := 200) (Sm.of a (Int.lt_trans b (by decide))) (by unfold Sm; decide)
  have s4 : Sm 202 (x2.fdiv 18446744073709551557 + 1) := Sm.add (n := 201) ((fdiv_sm s2 p2 (by decide)).2.mono (by decide)) (by unfold Sm; decide)
  have s5 := s3.mul s4
  refine ⟨((x2.fmod 18446744073709551557 + 1) * (x2.fdiv 18446744073709551557 + 1) * x2).fmod 340282366920938463463374607431768211507, ?_⟩
  simp only [List.length_cons, List.length_nil, if_pos, run, ev, env0, List.map_cons, List.map_nil, List.cons_append, List.nil_append, List.replicate, List.getElem?_cons_zero, List.getElem?_cons_succ, Option.map, f_mul _ _ m1, f_mul _ _ m2, f_add, f_mod _ _ (show (340282366920938463463374607431768211507 : Int) ≠ 0 by decide), asgT, List.set_cons_zero, List.set_cons_succ, h1, f_mul _ _ (s1.cm s1 (by decide)), f_mod _ _ (show (340282366920938463463374607431768211297 : Int) ≠ 0 by decide), h2, f_mod _ _ (show (18446744073709551557 : Int) ≠ 0 by decide), f_fdiv _ _ (show (18446744073709551557 : Int) ≠ 0 by decide), f_mul _ _ (s3.cm s4 (by decide)), f_mul _ _ (s5.cm s2 (by decide)), retOf]
theorem roll_ok (C : Cn M K) (Cf : Kf K CA) {n : Nat} {ds : List Dt} {m : Int} (h : Dice n ds) (hn : n < 1000000000) (hm : 0 < m) : ∃ (r : Int) (ds' : List Dt), s_law_roll C Cf ds [.int m] = some (.int r, ds') ∧ 0 ≤ r ∧ r < m ∧ Dice (n + 1) ds' := by
  obtain ⟨c, i, rfl, hc, h0, h1⟩ := h.ex
  have hm0 : m ≠ 0 := Int.ne_of_gt hm
  unfold s_law_roll
  simp only [lOfF_eq]
  unfold lOf L_law_roll
  by_cases hb : (1000000000000000000 : Int) ≤ c
  · obtain ⟨a1, a2⟩ := fmod_sm (a := c) hm
    obtain ⟨b1, b2⟩ := fdiv_sm hc (by omega) hm
    refine ⟨c.fmod m, [.int (c.fdiv m), .int i], ?_, a1, a2, ⟨_, _, rfl, b2, h0, by omega⟩⟩
    simp only [List.length_cons, List.length_nil, if_pos, run, ev, evT, evA, evP, envL, List.map_cons, List.map_nil, List.cons_append, List.nil_append, List.replicate, List.getElem?_cons_zero, List.getElem?_cons_succ, Option.map, borS, f_ix0, f_ix1, f_pow18, f_ge, hb, decide_true, f_mod _ _ hm0, f_fdiv _ _ hm0, noList, if_true, asgT, List.set_cons_zero, List.set_cons_succ, ixN, Int.le_refl, show (0 : Int) < ((0 + 1 + 1 : Nat) : Int) by decide, Int.toNat_zero, outL]
  · have hd : decide ((1000000000000000000 : Int) ≤ c) = false := decide_eq_false hb
    have hi : Sm 2000000 (i + 1) := Sm.of (by omega) (Int.lt_of_le_of_lt (b := 2 ^ 40) (by omega) (by
      have : (2 : Nat) ^ 40 < 2 ^ 2000000 := Nat.pow_lt_pow_right (by decide) (by decide)
      exact_mod_cast this))
    obtain ⟨d, hd2⟩ := drawn_ok C Cf (hc.mono (by decide)) hi
    obtain ⟨a1, a2⟩ := fmod_sm (a := d.fdiv 8) hm
    refine ⟨(d.fdiv 8).fmod m, [.int c, .int (i + 1)], ?_, a1, a2, ⟨_, _, rfl, hc, by omega, by omega⟩⟩
    simp only [List.length_cons, List.length_nil, if_pos, run, ev, evT, evA, evP, envL, List.map_cons, List.map_nil, List.cons_append, List.nil_append, List.replicate, List.getElem?_cons_zero, List.getElem?_cons_succ, Option.map, borS, f_ix0, f_ix1, f_pow18, f_ge, hd, f_add, f_mod _ _ hm0, f_fdiv _ _ (show (8 : Int) ≠ 0 by decide), noList, if_true, asgT, List.set_cons_zero, List.set_cons_succ, ixN, show (0 : Int) ≤ 1 by decide, show (1 : Int) < ((0 + 1 + 1 : Nat) : Int) by decide, show (1 : Int).toNat = 1 by decide, outL, hd2]

def dX : Dt := .tuple [.str "x"]
def dSq : Dt := .tuple [.str "times", dX, dX]
def dGap (n : Int) : Dt := .tuple [.str "sum", dSq, .tuple [.str "num", .int (-n)]]
def dOne (n : Int) : Dt := .tuple [.str "max", dGap n, .tuple [.str "num", .int 0]]
def dTwo (n : Int) : Dt := .tuple [.str "max", .tuple [.str "times", .tuple [.str "num", .int 3], dGap n], .tuple [.str "num", .int 0]]
def dThree (n : Int) : Dt := .tuple [.int (-3 * n), .int 0, .int 3]
def dTiny (n : Int) : Dt := .tuple [.str "into", .tuple [.str "times", dSq, dSq], .tuple [.str "sum", .tuple [.str "times", .tuple [.str "num", .int 9], dX], .tuple [.str "num", .int (-n)]]]
theorem ev6_2 (C : Cn M K) (Cf : Kf K CA) (ds : List Dt) (td : Sv) : runF (Lb6 C Cf) [.no, .own true ds, .val (.int (2)), .val dX, .val dSq, .val (dGap (2)), .val (dOne (2)), .val (dTwo (2)), .val (dThree (2)), td] = some (.nx [.no, .own true ds, .val (.int (2)), .val dX, .val dSq, .val (dGap (2)), .val (dOne (2)), .val (dTwo (2)), .val (dThree (2)), td]) := by kernel_rfl
theorem ev6_3 (C : Cn M K) (Cf : Kf K CA) (ds : List Dt) (td : Sv) : runF (Lb6 C Cf) [.no, .own true ds, .val (.int (3)), .val dX, .val dSq, .val (dGap (3)), .val (dOne (3)), .val (dTwo (3)), .val (dThree (3)), td] = some (.nx [.no, .own true ds, .val (.int (3)), .val dX, .val dSq, .val (dGap (3)), .val (dOne (3)), .val (dTwo (3)), .val (dThree (3)), td]) := by kernel_rfl
theorem ev6_4 (C : Cn M K) (Cf : Kf K CA) (ds : List Dt) (td : Sv) : runF (Lb6 C Cf) [.no, .own true ds, .val (.int (4)), .val dX, .val dSq, .val (dGap (4)), .val (dOne (4)), .val (dTwo (4)), .val (dThree (4)), td] = some (.nx [.no, .own true ds, .val (.int (4)), .val dX, .val dSq, .val (dGap (4)), .val (dOne (4)), .val (dTwo (4)), .val (dThree (4)), td]) := by kernel_rfl
theorem ev6_5 (C : Cn M K) (Cf : Kf K CA) (ds : List Dt) (td : Sv) : runF (Lb6 C Cf) [.no, .own true ds, .val (.int (5)), .val dX, .val dSq, .val (dGap (5)), .val (dOne (5)), .val (dTwo (5)), .val (dThree (5)), td] = some (.nx [.no, .own true ds, .val (.int (5)), .val dX, .val dSq, .val (dGap (5)), .val (dOne (5)), .val (dTwo (5)), .val (dThree (5)), td]) := by kernel_rfl
theorem ev6_6 (C : Cn M K) (Cf : Kf K CA) (ds : List Dt) (td : Sv) : runF (Lb6 C Cf) [.no, .own true ds, .val (.int (6)), .val dX, .val dSq, .val (dGap (6)), .val (dOne (6)), .val (dTwo (6)), .val (dThree (6)), td] = some (.nx [.no, .own true ds, .val (.int (6)), .val dX, .val dSq, .val (dGap (6)), .val (dOne (6)), .val (dTwo (6)), .val (dThree (6)), td]) := by kernel_rfl
theorem ev6_7 (C : Cn M K) (Cf : Kf K CA) (ds : List Dt) (td : Sv) : runF (Lb6 C Cf) [.no, .own true ds, .val (.int (7)), .val dX, .val dSq, .val (dGap (7)), .val (dOne (7)), .val (dTwo (7)), .val (dThree (7)), td] = some (.nx [.no, .own true ds, .val (.int (7)), .val dX, .val dSq, .val (dGap (7)), .val (dOne (7)), .val (dTwo (7)), .val (dThree (7)), td]) := by kernel_rfl
theorem ev6_8 (C : Cn M K) (Cf : Kf K CA) (ds : List Dt) (td : Sv) : runF (Lb6 C Cf) [.no, .own true ds, .val (.int (8)), .val dX, .val dSq, .val (dGap (8)), .val (dOne (8)), .val (dTwo (8)), .val (dThree (8)), td] = some (.nx [.no, .own true ds, .val (.int (8)), .val dX, .val dSq, .val (dGap (8)), .val (dOne (8)), .val (dTwo (8)), .val (dThree (8)), td]) := by kernel_rfl
theorem ev6_9 (C : Cn M K) (Cf : Kf K CA) (ds : List Dt) (td : Sv) : runF (Lb6 C Cf) [.no, .own true ds, .val (.int (9)), .val dX, .val dSq, .val (dGap (9)), .val (dOne (9)), .val (dTwo (9)), .val (dThree (9)), td] = some (.nx [.no, .own true ds, .val (.int (9)), .val dX, .val dSq, .val (dGap (9)), .val (dOne (9)), .val (dTwo (9)), .val (dThree (9)), td]) := by kernel_rfl
theorem ev6 {n : Int} (h1 : 2 ≤ n) (h2 : n ≤ 9) (C : Cn M K) (Cf : Kf K CA) (ds : List Dt) (td : Sv) : runF (Lb6 C Cf) [.no, .own true ds, .val (.int (n)), .val dX, .val dSq, .val (dGap (n)), .val (dOne (n)), .val (dTwo (n)), .val (dThree (n)), td] = some (.nx [.no, .own true ds, .val (.int (n)), .val dX, .val dSq, .val (dGap (n)), .val (dOne (n)), .val (dTwo (n)), .val (dThree (n)), td]) := by
  have z : n = 2 ∨ n = 3 ∨ n = 4 ∨ n = 5 ∨ n = 6 ∨ n = 7 ∨ n = 8 ∨ n = 9 := by omega
  rcases z with rfl | rfl | rfl | rfl | rfl | rfl | rfl | rfl
  · exact ev6_2 C Cf ds td
  · exact ev6_3 C Cf ds td
  · exact ev6_4 C Cf ds td
  · exact ev6_5 C Cf ds td
  · exact ev6_6 C Cf ds td
  · exact ev6_7 C Cf ds td
  · exact ev6_8 C Cf ds td
  · exact ev6_9 C Cf ds td
theorem ev7_2 (C : Cn M K) (Cf : Kf K CA) (ds : List Dt) (td : Sv) : runF (Lb7 C Cf) [.no, .own true ds, .val (.int (2)), .val dX, .val dSq, .val (dGap (2)), .val (dOne (2)), .val (dTwo (2)), .val (dThree (2)), td] = some (.nx [.no, .own true ds, .val (.int (2)), .val dX, .val dSq, .val (dGap (2)), .val (dOne (2)), .val (dTwo (2)), .val (dThree (2)), td]) := by kernel_rfl
theorem ev7_3 (C : Cn M K) (Cf : Kf K CA) (ds : List Dt) (td : Sv) : runF (Lb7 C Cf) [.no, .own true ds, .val (.int (3)), .val dX, .val dSq, .val (dGap (3)), .val (dOne (3)), .val (dTwo (3)), .val (dThree (3)), td] = some (.nx [.no, .own true ds, .val (.int (3)), .val dX, .val dSq, .val (dGap (3)), .val (dOne (3)), .val (dTwo (3)), .val (dThree (3)), td]) := by kernel_rfl
theorem ev7_4 (C : Cn M K) (Cf : Kf K CA) (ds : List Dt) (td : Sv) : runF (Lb7 C Cf) [.no, .own true ds, .val (.int (4)), .val dX, .val dSq, .val (dGap (4)), .val (dOne (4)), .val (dTwo (4)), .val (dThree (4)), td] = some (.nx [.no, .own true ds, .val (.int (4)), .val dX, .val dSq, .val (dGap (4)), .val (dOne (4)), .val (dTwo (4)), .val (dThree (4)), td]) := by kernel_rfl
theorem ev7_5 (C : Cn M K) (Cf : Kf K CA) (ds : List Dt) (td : Sv) : runF (Lb7 C Cf) [.no, .own true ds, .val (.int (5)), .val dX, .val dSq, .val (dGap (5)), .val (dOne (5)), .val (dTwo (5)), .val (dThree (5)), td] = some (.nx [.no, .own true ds, .val (.int (5)), .val dX, .val dSq, .val (dGap (5)), .val (dOne (5)), .val (dTwo (5)), .val (dThree (5)), td]) := by kernel_rfl
theorem ev7_6 (C : Cn M K) (Cf : Kf K CA) (ds : List Dt) (td : Sv) : runF (Lb7 C Cf) [.no, .own true ds, .val (.int (6)), .val dX, .val dSq, .val (dGap (6)), .val (dOne (6)), .val (dTwo (6)), .val (dThree (6)), td] = some (.nx [.no, .own true ds, .val (.int (6)), .val dX, .val dSq, .val (dGap (6)), .val (dOne (6)), .val (dTwo (6)), .val (dThree (6)), td]) := by kernel_rfl
theorem ev7_7 (C : Cn M K) (Cf : Kf K CA) (ds : List Dt) (td : Sv) : runF (Lb7 C Cf) [.no, .own true ds, .val (.int (7)), .val dX, .val dSq, .val (dGap (7)), .val (dOne (7)), .val (dTwo (7)), .val (dThree (7)), td] = some (.nx [.no, .own true ds, .val (.int (7)), .val dX, .val dSq, .val (dGap (7)), .val (dOne (7)), .val (dTwo (7)), .val (dThree (7)), td]) := by kernel_rfl
theorem ev7_8 (C : Cn M K) (Cf : Kf K CA) (ds : List Dt) (td : Sv) : runF (Lb7 C Cf) [.no, .own true ds, .val (.int (8)), .val dX, .val dSq, .val (dGap (8)), .val (dOne (8)), .val (dTwo (8)), .val (dThree (8)), td] = some (.nx [.no, .own true ds, .val (.int (8)), .val dX, .val dSq, .val (dGap (8)), .val (dOne (8)), .val (dTwo (8)), .val (dThree (8)), td]) := by kernel_rfl
theorem ev7_9 (C : Cn M K) (Cf : Kf K CA) (ds : List Dt) (td : Sv) : runF (Lb7 C Cf) [.no, .own true ds, .val (.int (9)), .val dX, .val dSq, .val (dGap (9)), .val (dOne (9)), .val (dTwo (9)), .val (dThree (9)), td] = some (.nx [.no, .own true ds, .val (.int (9)), .val dX, .val dSq, .val (dGap (9)), .val (dOne (9)), .val (dTwo (9)), .val (dThree (9)), td]) := by kernel_rfl
theorem ev7 {n : Int} (h1 : 2 ≤ n) (h2 : n ≤ 9) (C : Cn M K) (Cf : Kf K CA) (ds : List Dt) (td : Sv) : runF (Lb7 C Cf) [.no, .own true ds, .val (.int (n)), .val dX, .val dSq, .val (dGap (n)), .val (dOne (n)), .val (dTwo (n)), .val (dThree (n)), td] = some (.nx [.no, .own true ds, .val (.int (n)), .val dX, .val dSq, .val (dGap (n)), .val (dOne (n)), .val (dTwo (n)), .val (dThree (n)), td]) := by
  have z : n = 2 ∨ n = 3 ∨ n = 4 ∨ n = 5 ∨ n = 6 ∨ n = 7 ∨ n = 8 ∨ n = 9 := by omega
  rcases z with rfl | rfl | rfl | rfl | rfl | rfl | rfl | rfl
  · exact ev7_2 C Cf ds td
  · exact ev7_3 C Cf ds td
  · exact ev7_4 C Cf ds td
  · exact ev7_5 C Cf ds td
  · exact ev7_6 C Cf ds td
  · exact ev7_7 C Cf ds td
  · exact ev7_8 C Cf ds td
  · exact ev7_9 C Cf ds td
theorem ev8_2 (C : Cn M K) (Cf : Kf K CA) (ds : List Dt) (td : Sv) : runF (Lb8 C Cf) [.no, .own true ds, .val (.int (2)), .val dX, .val dSq, .val (dGap (2)), .val (dOne (2)), .val (dTwo (2)), .val (dThree (2)), td] = some (.nx [.no, .own true ds, .val (.int (2)), .val dX, .val dSq, .val (dGap (2)), .val (dOne (2)), .val (dTwo (2)), .val (dThree (2)), td]) := by kernel_rfl
theorem ev8_3 (C : Cn M K) (Cf : Kf K CA) (ds : List Dt) (td : Sv) : runF (Lb8 C Cf) [.no, .own true ds, .val (.int (3)), .val dX, .val dSq, .val (dGap (3)), .val (dOne (3)), .val (dTwo (3)), .val (dThree (3)), td] = some (.nx [.no, .own true ds, .val (.int (3)), .val dX, .val dSq, .val (dGap (3)), .val (dOne (3)), .val (dTwo (3)), .val (dThree (3)), td]) := by kernel_rfl
theorem ev8_4 (C : Cn M K) (Cf : Kf K CA) (ds : List Dt) (td : Sv) : runF (Lb8 C Cf) [.no, .own true ds, .val (.int (4)), .val dX, .val dSq, .val (dGap (4)), .val (dOne (4)), .val (dTwo (4)), .val (dThree (4)), td] = some (.nx [.no, .own true ds, .val (.int (4)), .val dX, .val dSq, .val (dGap (4)), .val (dOne (4)), .val (dTwo (4)), .val (dThree (4)), td]) := by kernel_rfl
theorem ev8_5 (C : Cn M K) (Cf : Kf K CA) (ds : List Dt) (td : Sv) : runF (Lb8 C Cf) [.no, .own true ds, .val (.int (5)), .val dX, .val dSq, .val (dGap (5)), .val (dOne (5)), .val (dTwo (5)), .val (dThree (5)), td] = some (.nx [.no, .own true ds, .val (.int (5)), .val dX, .val dSq, .val (dGap (5)), .val (dOne (5)), .val (dTwo (5)), .val (dThree (5)), td]) := by kernel_rfl
theorem ev8_6 (C : Cn M K) (Cf : Kf K CA) (ds : List Dt) (td : Sv) : runF (Lb8 C Cf) [.no, .own true ds, .val (.int (6)), .val dX, .val dSq, .val (dGap (6)), .val (dOne (6)), .val (dTwo (6)), .val (dThree (6)), td] = some (.nx [.no, .own true ds, .val (.int (6)), .val dX, .val dSq, .val (dGap (6)), .val (dOne (6)), .val (dTwo (6)), .val (dThree (6)), td]) := by kernel_rfl
theorem ev8_7 (C : Cn M K) (Cf : Kf K CA) (ds : List Dt) (td : Sv) : runF (Lb8 C Cf) [.no, .own true ds, .val (.int (7)), .val dX, .val dSq, .val (dGap (7)), .val (dOne (7)), .val (dTwo (7)), .val (dThree (7)), td] = some (.nx [.no, .own true ds, .val (.int (7)), .val dX, .val dSq, .val (dGap (7)), .val (dOne (7)), .val (dTwo (7)), .val (dThree (7)), td]) := by kernel_rfl
theorem ev8_8 (C : Cn M K) (Cf : Kf K CA) (ds : List Dt) (td : Sv) : runF (Lb8 C Cf) [.no, .own true ds, .val (.int (8)), .val dX, .val dSq, .val (dGap (8)), .val (dOne (8)), .val (dTwo (8)), .val (dThree (8)), td] = some (.nx [.no, .own true ds, .val (.int (8)), .val dX, .val dSq, .val (dGap (8)), .val (dOne (8)), .val (dTwo (8)), .val (dThree (8)), td]) := by kernel_rfl
theorem ev8_9 (C : Cn M K) (Cf : Kf K CA) (ds : List Dt) (td : Sv) : runF (Lb8 C Cf) [.no, .own true ds, .val (.int (9)), .val dX, .val dSq, .val (dGap (9)), .val (dOne (9)), .val (dTwo (9)), .val (dThree (9)), td] = some (.nx [.no, .own true ds, .val (.int (9)), .val dX, .val dSq, .val (dGap (9)), .val (dOne (9)), .val (dTwo (9)), .val (dThree (9)), td]) := by kernel_rfl
theorem ev8 {n : Int} (h1 : 2 ≤ n) (h2 : n ≤ 9) (C : Cn M K) (Cf : Kf K CA) (ds : List Dt) (td : Sv) : runF (Lb8 C Cf) [.no, .own true ds, .val (.int (n)), .val dX, .val dSq, .val (dGap (n)), .val (dOne (n)), .val (dTwo (n)), .val (dThree (n)), td] = some (.nx [.no, .own true ds, .val (.int (n)), .val dX, .val dSq, .val (dGap (n)), .val (dOne (n)), .val (dTwo (n)), .val (dThree (n)), td]) := by
  have z : n = 2 ∨ n = 3 ∨ n = 4 ∨ n = 5 ∨ n = 6 ∨ n = 7 ∨ n = 8 ∨ n = 9 := by omega
  rcases z with rfl | rfl | rfl | rfl | rfl | rfl | rfl | rfl
  · exact ev8_2 C Cf ds td
  · exact ev8_3 C Cf ds td
  · exact ev8_4 C Cf ds td
  · exact ev8_5 C Cf ds td
  · exact ev8_6 C Cf ds td
  · exact ev8_7 C Cf ds td
  · exact ev8_8 C Cf ds td
  · exact ev8_9 C Cf ds td
theorem ev11_2 (C : Cn M K) (Cf : Kf K CA) (ds : List Dt) : runF (Lb11 C Cf) [.no, .own true ds, .val (.int (2)), .val dX, .val dSq, .val (dGap (2)), .val (dOne (2)), .val (dTwo (2)), .val (dThree (2)), .val (dTiny (2))] = some (.nx [.no, .own true ds, .val (.int (2)), .val dX, .val dSq, .val (dGap (2)), .val (dOne (2)), .val (dTwo (2)), .val (dThree (2)), .val (dTiny (2))]) := by kernel_rfl
theorem ev11_3 (C : Cn M K) (Cf : Kf K CA) (ds : List Dt) : runF (Lb11 C Cf) [.no, .own true ds, .val (.int (3)), .val dX, .val dSq, .val (dGap (3)), .val (dOne (3)), .val (dTwo (3)), .val (dThree (3)), .val (dTiny (3))] = some (.nx [.no, .own true ds, .val (.int (3)), .val dX, .val dSq, .val (dGap (3)), .val (dOne (3)), .val (dTwo (3)), .val (dThree (3)), .val (dTiny (3))]) := by kernel_rfl
theorem ev11_4 (C : Cn M K) (Cf : Kf K CA) (ds : List Dt) : runF (Lb11 C Cf) [.no, .own true ds, .val (.int (4)), .val dX, .val dSq, .val (dGap (4)), .val (dOne (4)), .val (dTwo (4)), .val (dThree (4)), .val (dTiny (4))] = some (.nx [.no, .own true ds, .val (.int (4)), .val dX, .val dSq, .val (dGap (4)), .val (dOne (4)), .val (dTwo (4)), .val (dThree (4)), .val (dTiny (4))]) := by kernel_rfl
theorem ev11_5 (C : Cn M K) (Cf : Kf K CA) (ds : List Dt) : runF (Lb11 C Cf) [.no, .own true ds, .val (.int (5)), .val dX, .val dSq, .val (dGap (5)), .val (dOne (5)), .val (dTwo (5)), .val (dThree (5)), .val (dTiny (5))] = some (.nx [.no, .own true ds, .val (.int (5)), .val dX, .val dSq, .val (dGap (5)), .val (dOne (5)), .val (dTwo (5)), .val (dThree (5)), .val (dTiny (5))]) := by kernel_rfl
theorem ev11_6 (C : Cn M K) (Cf : Kf K CA) (ds : List Dt) : runF (Lb11 C Cf) [.no, .own true ds, .val (.int (6)), .val dX, .val dSq, .val (dGap (6)), .val (dOne (6)), .val (dTwo (6)), .val (dThree (6)), .val (dTiny (6))] = some (.nx [.no, .own true ds, .val (.int (6)), .val dX, .val dSq, .val (dGap (6)), .val (dOne (6)), .val (dTwo (6)), .val (dThree (6)), .val (dTiny (6))]) := by kernel_rfl
theorem ev11_7 (C : Cn M K) (Cf : Kf K CA) (ds : List Dt) : runF (Lb11 C Cf) [.no, .own true ds, .val (.int (7)), .val dX, .val dSq, .val (dGap (7)), .val (dOne (7)), .val (dTwo (7)), .val (dThree (7)), .val (dTiny (7))] = some (.nx [.no, .own true ds, .val (.int (7)), .val dX, .val dSq, .val (dGap (7)), .val (dOne (7)), .val (dTwo (7)), .val (dThree (7)), .val (dTiny (7))]) := by kernel_rfl
theorem ev11_8 (C : Cn M K) (Cf : Kf K CA) (ds : List Dt) : runF (Lb11 C Cf) [.no, .own true ds, .val (.int (8)), .val dX, .val dSq, .val (dGap (8)), .val (dOne (8)), .val (dTwo (8)), .val (dThree (8)), .val (dTiny (8))] = some (.nx [.no, .own true ds, .val (.int (8)), .val dX, .val dSq, .val (dGap (8)), .val (dOne (8)), .val (dTwo (8)), .val (dThree (8)), .val (dTiny (8))]) := by kernel_rfl
theorem ev11_9 (C : Cn M K) (Cf : Kf K CA) (ds : List Dt) : runF (Lb11 C Cf) [.no, .own true ds, .val (.int (9)), .val dX, .val dSq, .val (dGap (9)), .val (dOne (9)), .val (dTwo (9)), .val (dThree (9)), .val (dTiny (9))] = some (.nx [.no, .own true ds, .val (.int (9)), .val dX, .val dSq, .val (dGap (9)), .val (dOne (9)), .val (dTwo (9)), .val (dThree (9)), .val (dTiny (9))]) := by kernel_rfl
theorem ev11 {n : Int} (h1 : 2 ≤ n) (h2 : n ≤ 9) (C : Cn M K) (Cf : Kf K CA) (ds : List Dt) : runF (Lb11 C Cf) [.no, .own true ds, .val (.int (n)), .val dX, .val dSq, .val (dGap (n)), .val (dOne (n)), .val (dTwo (n)), .val (dThree (n)), .val (dTiny (n))] = some (.nx [.no, .own true ds, .val (.int (n)), .val dX, .val dSq, .val (dGap (n)), .val (dOne (n)), .val (dTwo (n)), .val (dThree (n)), .val (dTiny (n))]) := by
  have z : n = 2 ∨ n = 3 ∨ n = 4 ∨ n = 5 ∨ n = 6 ∨ n = 7 ∨ n = 8 ∨ n = 9 := by omega
  rcases z with rfl | rfl | rfl | rfl | rfl | rfl | rfl | rfl
  · exact ev11_2 C Cf ds
  · exact ev11_3 C Cf ds
  · exact ev11_4 C Cf ds
  · exact ev11_5 C Cf ds
  · exact ev11_6 C Cf ds
  · exact ev11_7 C Cf ds
  · exact ev11_8 C Cf ds
  · exact ev11_9 C Cf ds
theorem ev12_2 (C : Cn M K) (Cf : Kf K CA) (ds : List Dt) : runF (Lb12 C Cf) [.no, .own true ds, .val (.int (2)), .val dX, .val dSq, .val (dGap (2)), .val (dOne (2)), .val (dTwo (2)), .val (dThree (2)), .val (dTiny (2))] = some (.nx [.no, .own true ds, .val (.int (2)), .val dX, .val dSq, .val (dGap (2)), .val (dOne (2)), .val (dTwo (2)), .val (dThree (2)), .val (dTiny (2))]) := by kernel_rfl
theorem ev12_3 (C : Cn M K) (Cf : Kf K CA) (ds : List Dt) : runF (Lb12 C Cf) [.no, .own true ds, .val (.int (3)), .val dX, .val dSq, .val (dGap (3)), .val (dOne (3)), .val (dTwo (3)), .val (dThree (3)), .val (dTiny (3))] = some (.nx [.no, .own true ds, .val (.int (3)), .val dX, .val dSq, .val (dGap (3)), .val (dOne (3)), .val (dTwo (3)), .val (dThree (3)), .val (dTiny (3))]) := by kernel_rfl
theorem ev12_4 (C : Cn M K) (Cf : Kf K CA) (ds : List Dt) : runF (Lb12 C Cf) [.no, .own true ds, .val (.int (4)), .val dX, .val dSq, .val (dGap (4)), .val (dOne (4)), .val (dTwo (4)), .val (dThree (4)), .val (dTiny (4))] = some (.nx [.no, .own true ds, .val (.int (4)), .val dX, .val dSq, .val (dGap (4)), .val (dOne (4)), .val (dTwo (4)), .val (dThree (4)), .val (dTiny (4))]) := by kernel_rfl
theorem ev12_5 (C : Cn M K) (Cf : Kf K CA) (ds : List Dt) : runF (Lb12 C Cf) [.no, .own true ds, .val (.int (5)), .val dX, .val dSq, .val (dGap (5)), .val (dOne (5)), .val (dTwo (5)), .val (dThree (5)), .val (dTiny (5))] = some (.nx [.no, .own true ds, .val (.int (5)), .val dX, .val dSq, .val (dGap (5)), .val (dOne (5)), .val (dTwo (5)), .val (dThree (5)), .val (dTiny (5))]) := by kernel_rfl
theorem ev12_6 (C : Cn M K) (Cf : Kf K CA) (ds : List Dt) : runF (Lb12 C Cf) [.no, .own true ds, .val (.int (6)), .val dX, .val dSq, .val (dGap (6)), .val (dOne (6)), .val (dTwo (6)), .val (dThree (6)), .val (dTiny (6))] = some (.nx [.no, .own true ds, .val (.int (6)), .val dX, .val dSq, .val (dGap (6)), .val (dOne (6)), .val (dTwo (6)), .val (dThree (6)), .val (dTiny (6))]) := by kernel_rfl
theorem ev12_7 (C : Cn M K) (Cf : Kf K CA) (ds : List Dt) : runF (Lb12 C Cf) [.no, .own true ds, .val (.int (7)), .val dX, .val dSq, .val (dGap (7)), .val (dOne (7)), .val (dTwo (7)), .val (dThree (7)), .val (dTiny (7))] = some (.nx [.no, .own true ds, .val (.int (7)), .val dX, .val dSq, .val (dGap (7)), .val (dOne (7)), .val (dTwo (7)), .val (dThree (7)), .val (dTiny (7))]) := by kernel_rfl
theorem ev12_8 (C : Cn M K) (Cf : Kf K CA) (ds : List Dt) : runF (Lb12 C Cf) [.no, .own true ds, .val (.int (8)), .val dX, .val dSq, .val (dGap (8)), .val (dOne (8)), .val (dTwo (8)), .val (dThree (8)), .val (dTiny (8))] = some (.nx [.no, .own true ds, .val (.int (8)), .val dX, .val dSq, .val (dGap (8)), .val (dOne (8)), .val (dTwo (8)), .val (dThree (8)), .val (dTiny (8))]) := by kernel_rfl
theorem ev12_9 (C : Cn M K) (Cf : Kf K CA) (ds : List Dt) : runF (Lb12 C Cf) [.no, .own true ds, .val (.int (9)), .val dX, .val dSq, .val (dGap (9)), .val (dOne (9)), .val (dTwo (9)), .val (dThree (9)), .val (dTiny (9))] = some (.nx [.no, .own true ds, .val (.int (9)), .val dX, .val dSq, .val (dGap (9)), .val (dOne (9)), .val (dTwo (9)), .val (dThree (9)), .val (dTiny (9))]) := by kernel_rfl
theorem ev12 {n : Int} (h1 : 2 ≤ n) (h2 : n ≤ 9) (C : Cn M K) (Cf : Kf K CA) (ds : List Dt) : runF (Lb12 C Cf) [.no, .own true ds, .val (.int (n)), .val dX, .val dSq, .val (dGap (n)), .val (dOne (n)), .val (dTwo (n)), .val (dThree (n)), .val (dTiny (n))] = some (.nx [.no, .own true ds, .val (.int (n)), .val dX, .val dSq, .val (dGap (n)), .val (dOne (n)), .val (dTwo (n)), .val (dThree (n)), .val (dTiny (n))]) := by
  have z : n = 2 ∨ n = 3 ∨ n = 4 ∨ n = 5 ∨ n = 6 ∨ n = 7 ∨ n = 8 ∨ n = 9 := by omega
  rcases z with rfl | rfl | rfl | rfl | rfl | rfl | rfl | rfl
  · exact ev12_2 C Cf ds
  · exact ev12_3 C Cf ds
  · exact ev12_4 C Cf ds
  · exact ev12_5 C Cf ds
  · exact ev12_6 C Cf ds
  · exact ev12_7 C Cf ds
  · exact ev12_8 C Cf ds
  · exact ev12_9 C Cf ds
theorem evn (C : Cn M K) (Cf : Kf K CA) : s_law_right_near C Cf [] = some (.ok (.bool true)) := by kernel_rfl
end Bc

set_option maxRecDepth 100000
set_option maxHeartbeats 0
namespace Bc
open PySem PySem.Spec
open PyProof.Rows L2
variable {M : Hp → Hp → Prop} [g : GB M] {K : PySem.W.Frag} {CA : Str → Addr}
theorem seqF {s t : St M K} {e e1 : Vs} {o : Option Out} (h1 : runF s e = some (.nx e1)) (h2 : runF t e1 = o) : runF (.seq s t) e = o := by
  show (match runF s e with
    | some (.nx e1) => runF t e1
    | o => o) = o
  rw [h1]
  exact h2
theorem ev0 (C : Cn M K) (Cf : Kf K CA) {c : Int} (hc : Sm 1900000 c) : ∃ (n : Int) (ds : List Dt), 2 ≤ n ∧ n ≤ 9 ∧ runF (Lb0 C Cf) (envD 10 c) = some (.nx [.no, .own true ds, .val (.int (n)), .val dX, .no, .no, .no, .no, .no, .no]) := by
  have h0 : Dice 0 [.int c, .int 0] := ⟨c, 0, rfl, hc, Int.le_refl _, Int.le_refl _⟩
  obtain ⟨r1, d1, e1, a1, b1, h1⟩ := roll_ok C Cf h0 (by decide) (m := 8) (by decide)
  refine ⟨2 + r1, d1, by omega, by omega, ?_⟩
  rw [← same_s]
  unfold Lb0 envD
  simp only [run, ev, evA, List.replicate, List.getElem?_cons_zero, List.getElem?_cons_succ, e1, List.set_cons_zero, List.set_cons_succ, f_add, Option.map, List.length_cons, List.length_nil, if_pos, show (0 + 1 : Nat) ≤ 1000 by decide, dX]
theorem ev1 (C : Cn M K) (Cf : Kf K CA) (ds : List Dt) (n : Int) : runF (Lb1 C Cf) [.no, .own true ds, .val (.int (n)), .val dX, .no, .no, .no, .no, .no, .no] = some (.nx [.no, .own true ds, .val (.int (n)), .val dX, .val dSq, .no, .no, .no, .no, .no]) := by kernel_rfl
theorem ev2 (C : Cn M K) (Cf : Kf K CA) (ds : List Dt) (n : Int) : runF (Lb2 C Cf) [.no, .own true ds, .val (.int (n)), .val dX, .val dSq, .no, .no, .no, .no, .no] = some (.nx [.no, .own true ds, .val (.int (n)), .val dX, .val dSq, .val (dGap (n)), .no, .no, .no, .no]) := by kernel_rfl
theorem ev3 (C : Cn M K) (Cf : Kf K CA) (ds : List Dt) (n : Int) : runF (Lb3 C Cf) [.no, .own true ds, .val (.int (n)), .val dX, .val dSq, .val (dGap (n)), .no, .no, .no, .no] = some (.nx [.no, .own true ds, .val (.int (n)), .val dX, .val dSq, .val (dGap (n)), .val (dOne (n)), .no, .no, .no]) := by kernel_rfl
theorem ev4 (C : Cn M K) (Cf : Kf K CA) (ds : List Dt) (n : Int) : runF (Lb4 C Cf) [.no, .own true ds, .val (.int (n)), .val dX, .val dSq, .val (dGap (n)), .val (dOne (n)), .no, .no, .no] = some (.nx [.no, .own true ds, .val (.int (n)), .val dX, .val dSq, .val (dGap (n)), .val (dOne (n)), .val (dTwo (n)), .no, .no]) := by kernel_rfl
theorem ev5 (C : Cn M K) (Cf : Kf K CA) (ds : List Dt) {n : Int} (h1 : 2 ≤ n) (h2 : n ≤ 9) : runF (Lb5 C Cf) [.no, .own true ds, .val (.int (n)), .val dX, .val dSq, .val (dGap (n)), .val (dOne (n)), .val (dTwo (n)), .no, .no] = some (.nx [.no, .own true ds, .val (.int (n)), .val dX, .val dSq, .val (dGap (n)), .val (dOne (n)), .val (dTwo (n)), .val (dThree (n)), .no]) := by
  have z : n = 2 ∨ n = 3 ∨ n = 4 ∨ n = 5 ∨ n = 6 ∨ n = 7 ∨ n = 8 ∨ n = 9 := by omega
  rcases z with rfl | rfl | rfl | rfl | rfl | rfl | rfl | rfl <;> kernel_rfl
theorem ev9 (C : Cn M K) (Cf : Kf K CA) (e : Vs) : runF (Lb9 C Cf) e = some (.nx e) := by
  rw [← same_s]
  unfold Lb9
  simp only [run, evT, ev, evA, evn, Option.map, Bool.not_true]
theorem ev10 (C : Cn M K) (Cf : Kf K CA) (ds : List Dt) (n : Int) (td : Sv) : runF (Lb10 C Cf) [.no, .own true ds, .val (.int (n)), .val dX, .val dSq, .val (dGap (n)), .val (dOne (n)), .val (dTwo (n)), .val (dThree (n)), td] = some (.nx [.no, .own true ds, .val (.int (n)), .val dX, .val dSq, .val (dGap (n)), .val (dOne (n)), .val (dTwo (n)), .val (dThree (n)), .val (dTiny (n))]) := by kernel_rfl
theorem good (C : Cn M K) (Cf : Kf K CA) {c : Int} (hc : Sm 1900000 c) : ∃ e', run (LB C Cf) (envD 10 c) = some (.nx e') ∧ e'.length = 10 := by
  obtain ⟨n, ds, n1, n2, e0⟩ := ev0 C Cf hc
  have key : run (LB C Cf) (envD 10 c) = some (.nx [.no, .own true ds, .val (.int (n)), .val dX, .val dSq, .val (dGap (n)), .val (dOne (n)), .val (dTwo (n)), .val (dThree (n)), .val (dTiny (n))]) := by
    rw [same_s]
    unfold LB
    exact seqF e0 (seqF (ev1 C Cf ds n) (seqF (ev2 C Cf ds n) (seqF (ev3 C Cf ds n) (seqF (ev4 C Cf ds n) (seqF (ev5 C Cf ds n1 n2) (seqF (ev6 n1 n2 C Cf ds _) (seqF (ev7 n1 n2 C Cf ds _) (seqF (ev8 n1 n2 C Cf ds _) (seqF (ev9 C Cf _) (seqF (ev10 C Cf ds n _) (seqF (ev11 n1 n2 C Cf ds) (ev12 n1 n2 C Cf ds))))))))))))
  exact ⟨_, key, rfl⟩

end Bc

set_option maxRecDepth 100000
set_option maxHeartbeats 0
namespace Bc
open PySem PySem.Spec
open PyProof.Rows L2
section
variable {K : PySem.W.Frag} {h : Heap} {mg : Str → Option Value}
theorem pt_fa (c : SaysP parts tups K) : He.SaysD faL [] K := c.part _ (.head _)
theorem pt_fn0 (c : SaysP parts tups K) : He.SaysD [] fnL0 K := c.part _ (.tail _ (.head _))
theorem pt_fn1 (c : SaysP parts tups K) : He.SaysD [] fnL1 K := c.part _ (.tail _ (.tail _ (.head _)))
theorem pt_fn2 (c : SaysP parts tups K) : He.SaysD [] fnL2 K := c.part _ (.tail _ (.tail _ (.tail _ (.head _))))
theorem pt_fn3 (c : SaysP parts tups K) : He.SaysD [] fnL3 K := c.part _ (.tail _ (.tail _ (.tail _ (.tail _ (.head _)))))
theorem pt_fn4 (c : SaysP parts tups K) : He.SaysD [] fnL4 K := c.part _ (.tail _ (.tail _ (.tail _ (.tail _ (.tail _ (.head _))))))
theorem pt_fn5 (c : SaysP parts tups K) : He.SaysD [] fnL5 K := c.part _ (.tail _ (.tail _ (.tail _ (.tail _ (.tail _ (.tail _ (.head _)))))))
theorem k_PAIRS (c : SaysP parts tups K) (π : Pa) (F : Hp) : (isX (M := Mt) K π d_PAIRS).φ (.ref (He.ga K "PAIRS")) F := by
  have t := He.tupB_ok (List.all_eq_true.mp c.tups _ ((.head _))) F
  rw [show d_PAIRS = .ktup ((["sum", "times", "max", "min", "into"] : List Str).map Dt.str) from rfl, isX]
  exact ⟨_, _, rfl, t, strs_tup (["sum", "times", "max", "min", "into"] : List Str)⟩
noncomputable def mkC (c : SaysP parts tups K) : Cn Mt K := ⟨(), .ref (He.ga K "PAIRS"), k_PAIRS c, He.ga K "InvalidCurve", He.ga K "InvalidNumber"⟩
theorem mkCq (X : K.In h) (G : h.Ns mainGlobals mg) (c : SaysP parts tups K) : CnOk mg (mkC c) := ⟨⟨_, He.glo_ok X G ((pt_fa c).fact 70 rfl), rfl⟩, He.int_ok X G ((pt_fa c).fact 71 rfl), He.int_ok X G ((pt_fa c).fact 72 rfl), exc_of X G ((pt_fa c).fact 74 rfl) ((pt_fa c).fact 73 rfl), exc_of X G ((pt_fa c).fact 76 rfl) ((pt_fa c).fact 75 rfl)⟩
theorem mkKf (c : SaysP parts tups K) : Kf K (fun x => He.ga K x) := ⟨He.cls_ok ((pt_fa c).fact 78 rfl), He.cls_ok ((pt_fa c).fact 81 rfl), He.noat_ok ((pt_fa c).fact 88 rfl), He.noat_ok ((pt_fa c).fact 89 rfl), He.noat_ok ((pt_fa c).fact 90 rfl), He.noat_ok ((pt_fa c).fact 91 rfl), He.noat_ok ((pt_fa c).fact 92 rfl), He.noat_ok ((pt_fa c).fact 93 rfl)⟩
theorem mkKg (X : K.In h) (G : h.Ns mainGlobals mg) (c : SaysP parts tups K) : Kg K mg (fun x => He.ga K x) := { toKf := mkKf c, k_Root := kls_of X G ((pt_fa c).fact 78 rfl) ((pt_fa c).fact 79 rfl) ((pt_fa c).fact 77 rfl), k_Bent := kls_of X G ((pt_fa c).fact 81 rfl) ((pt_fa c).fact 82 rfl) ((pt_fa c).fact 80 rfl) }
theorem mkDf (X : K.In h) (G : h.Ns mainGlobals mg) (c : SaysP parts tups K) : Df K mg (fun x => He.ga K x) := ⟨defAt_of X G (pt_fa c) (pt_fn0 c) 0 0 rfl rfl,
  defAt_of X G (pt_fa c) (pt_fn0 c) 1 1 rfl rfl,
  defAt_of X G (pt_fa c) (pt_fn0 c) 2 2 rfl rfl,
  defAt_of X G (pt_fa c) (pt_fn0 c) 3 3 rfl rfl,
  defAt_of X G (pt_fa c) (pt_fn0 c) 4 4 rfl rfl,
  defAt_of X G (pt_fa c) (pt_fn0 c) 5 5 rfl rfl,
  defAt_of X G (pt_fa c) (pt_fn0 c) 6 6 rfl rfl,
  defAt_of X G (pt_fa c) (pt_fn0 c) 7 7 rfl rfl,
  methAt_of (pt_fa c) (pt_fn0 c) 8 83 rfl rfl,
  defAt_of X G (pt_fa c) (pt_fn0 c) 9 8 rfl rfl,
  defAt_of X G (pt_fa c) (pt_fn0 c) 10 9 rfl rfl,
  defAt_of X G (pt_fa c) (pt_fn0 c) 11 10 rfl rfl,
  defAt_of X G (pt_fa c) (pt_fn0 c) 12 11 rfl rfl,
  defAt_of X G (pt_fa c) (pt_fn0 c) 13 12 rfl rfl,
  defAt_of X G (pt_fa c) (pt_fn1 c) 0 13 rfl rfl,
  defAt_of X G (pt_fa c) (pt_fn1 c) 1 14 rfl rfl,
  defAt_of X G (pt_fa c) (pt_fn1 c) 2 15 rfl rfl,
  defAt_of X G (pt_fa c) (pt_fn1 c) 3 16 rfl rfl,
  defAt_of X G (pt_fa c) (pt_fn1 c) 4 17 rfl rfl,
  defAt_of X G (pt_fa c) (pt_fn1 c) 5 18 rfl rfl,
  defAt_of X G (pt_fa c) (pt_fn1 c) 6 19 rfl rfl,
  methAt_of (pt_fa c) (pt_fn1 c) 7 84 rfl rfl,
  defAt_of X G (pt_fa c) (pt_fn1 c) 8 20 rfl rfl,
  defAt_of X G (pt_fa c) (pt_fn1 c) 9 21 rfl rfl,
  defAt_of X G (pt_fa c) (pt_fn1 c) 10 22 rfl rfl,
  defAt_of X G (pt_fa c) (pt_fn1 c) 11 23 rfl rfl,
  defAt_of X G (pt_fa c) (pt_fn1 c) 12 24 rfl rfl,
  defAt_of X G (pt_fa c) (pt_fn1 c) 13 25 rfl rfl,
  methAt_of (pt_fa c) (pt_fn2 c) 0 85 rfl rfl,
  methAt_of (pt_fa c) (pt_fn2 c) 1 86 rfl rfl,
  defAt_of X G (pt_fa c) (pt_fn2 c) 2 26 rfl rfl,
  defAt_of X G (pt_fa c) (pt_fn2 c) 3 27 rfl rfl,
  defAt_of X G (pt_fa c) (pt_fn2 c) 4 28 rfl rfl,
  methAt_of (pt_fa c) (pt_fn2 c) 5 87 rfl rfl,
  defAt_of X G (pt_fa c) (pt_fn2 c) 6 29 rfl rfl,
  defAt_of X G (pt_fa c) (pt_fn2 c) 7 30 rfl rfl,
  defAt_of X G (pt_fa c) (pt_fn2 c) 8 31 rfl rfl,
  defAt_of X G (pt_fa c) (pt_fn2 c) 9 32 rfl rfl,
  defAt_of X G (pt_fa c) (pt_fn2 c) 10 33 rfl rfl,
  defAt_of X G (pt_fa c) (pt_fn2 c) 11 34 rfl rfl,
  defAt_of X G (pt_fa c) (pt_fn2 c) 12 35 rfl rfl,
  defAt_of X G (pt_fa c) (pt_fn2 c) 13 36 rfl rfl,
  defAt_of X G (pt_fa c) (pt_fn3 c) 0 37 rfl rfl,
  defAt_of X G (pt_fa c) (pt_fn3 c) 1 38 rfl rfl,
  defAt_of X G (pt_fa c) (pt_fn3 c) 2 39 rfl rfl,
  defAt_of X G (pt_fa c) (pt_fn3 c) 3 40 rfl rfl,
  defAt_of X G (pt_fa c) (pt_fn3 c) 4 41 rfl rfl,
  defAt_of X G (pt_fa c) (pt_fn3 c) 5 42 rfl rfl,
  defAt_of X G (pt_fa c) (pt_fn3 c) 6 43 rfl rfl,
  defAt_of X G (pt_fa c) (pt_fn3 c) 7 44 rfl rfl,
  defAt_of X G (pt_fa c) (pt_fn3 c) 8 45 rfl rfl,
  defAt_of X G (pt_fa c) (pt_fn3 c) 9 46 rfl rfl,
  defAt_of X G (pt_fa c) (pt_fn3 c) 10 47 rfl rfl,
  defAt_of X G (pt_fa c) (pt_fn3 c) 11 48 rfl rfl,
  defAt_of X G (pt_fa c) (pt_fn3 c) 12 49 rfl rfl,
  defAt_of X G (pt_fa c) (pt_fn3 c) 13 50 rfl rfl,
  defAt_of X G (pt_fa c) (pt_fn4 c) 0 51 rfl rfl,
  defAt_of X G (pt_fa c) (pt_fn4 c) 1 52 rfl rfl,
  defAt_of X G (pt_fa c) (pt_fn4 c) 2 53 rfl rfl,
  defAt_of X G (pt_fa c) (pt_fn4 c) 3 54 rfl rfl,
  defAt_of X G (pt_fa c) (pt_fn4 c) 4 55 rfl rfl,
  defAt_of X G (pt_fa c) (pt_fn4 c) 5 56 rfl rfl,
  defAt_of X G (pt_fa c) (pt_fn4 c) 6 57 rfl rfl,
  defAt_of X G (pt_fa c) (pt_fn4 c) 7 58 rfl rfl,
  defAt_of X G (pt_fa c) (pt_fn4 c) 8 59 rfl rfl,
  defAt_of X G (pt_fa c) (pt_fn4 c) 9 60 rfl rfl,
  defAt_of X G (pt_fa c) (pt_fn4 c) 10 61 rfl rfl,
  defAt_of X G (pt_fa c) (pt_fn4 c) 11 62 rfl rfl,
  defAt_of X G (pt_fa c) (pt_fn4 c) 12 63 rfl rfl,
  defAt_of X G (pt_fa c) (pt_fn4 c) 13 64 rfl rfl,
  defAt_of X G (pt_fa c) (pt_fn5 c) 0 65 rfl rfl,
  defAt_of X G (pt_fa c) (pt_fn5 c) 1 66 rfl rfl⟩
theorem mkFree (X : K.In h) (G : h.Ns mainGlobals mg) (c : SaysP parts tups K) : Free mg := ⟨He.free_ok X G ((pt_fa c).fact 94 rfl), He.free_ok X G ((pt_fa c).fact 95 rfl), He.free_ok X G ((pt_fa c).fact 96 rfl), He.free_ok X G ((pt_fa c).fact 97 rfl), He.free_ok X G ((pt_fa c).fact 98 rfl), He.free_ok X G ((pt_fa c).fact 99 rfl), He.free_ok X G ((pt_fa c).fact 100 rfl), He.free_ok X G ((pt_fa c).fact 101 rfl), He.free_ok X G ((pt_fa c).fact 102 rfl), He.free_ok X G ((pt_fa c).fact 103 rfl), He.free_ok X G ((pt_fa c).fact 104 rfl), He.free_ok X G ((pt_fa c).fact 105 rfl), He.free_ok X G ((pt_fa c).fact 106 rfl), He.free_ok X G ((pt_fa c).fact 107 rfl), He.free_ok X G ((pt_fa c).fact 108 rfl), He.free_ok X G ((pt_fa c).fact 109 rfl), He.free_ok X G ((pt_fa c).fact 110 rfl)⟩
theorem facts {w : World} {fa : Addr} (X : K.In h) (G : h.Ns mainGlobals mg) (hN : h.NoSeer) (hfa : mg ("law" : Str) = some (.ref fa)) (c : SaysP parts tups K) :
    ∃ (fd : FuncData) (sp : Sp), (∀ (s : Shared) (v : Value), BindsTo s fd ⟨[v], []⟩ [("_law_script", v)]) ∧
      (∀ (H : Hp) (a : Addr) (ns : List Int), ns.length ≤ 63 → (∀ z ∈ ns, Builtin.Int.intBits z ≤ 1048576) → Only H → SqL K H a (ns.map V.int) → sp [.ref a] H (fun v _ => v = .bl true) fun _ _ _ => False) ∧
      ∀ base : Heap, K.In base → base.Ns mainGlobals mg → FnOk R.prog w K mg base (L2.CX R.prog w) 71 fa fd ["_law_script"] sp := by
  obtain ⟨fd, F⟩ := law_at (pt_fn5 c) (x := "law") (st := top 86) 4 rfl
  have e := hfa.symm.trans (He.glo_ok X G ((pt_fa c).fact 69 (f := .glo "law") rfl))
  cases e
  have b := FunD.bindsA (ps := ["_law_script"]) F fun _ _ _ _ _ _ us hl => match us, hl with | [_], _ => rfl
  refine ⟨fd, spLaw Mt K 10 2 (LB (mkC c) (mkKf c)), fun s v => b s [v] rfl, fun H a ns hl hb hO hS => ⟨a, ns, rfl, hS, fun i hi => good (mkC c) (mkKf c) (cell_sm hb (by omega)), fun _ => rfl⟩, fun base _ _ => ?_⟩
  exact fn_law (mkC c) (mkCq X G c) (mkKg X G c) (mkFree X G c) (pyl_of X hN c.seer rfl) (mkDf X G c) (defAt_of X G (pt_fa c) (pt_fn5 c) 2 67 rfl rfl) (defAt_of X G (pt_fa c) (pt_fn5 c) 3 68 rfl rfl) F
end
end Bc
open PySem PySem.W PySem.Calls PyProof.Rows
theorem PySem.Challenge.cw_bentcurves_k16_whole_close_places_holds : PySem.Challenge.rw_bentcurves_k16_whole_close_places.Holds := by
  w_on; o_law
  refine HandSHeadRun.head_any (r := OpenLaw.row PySem.Challenge.rw_bentcurves_k16_whole_close_places) (q := Bc.Q0) (H := Bc.hk) (ob := Bc.ob) (M := 4000) (loose := Bc.names) (d := HandSHeadRun.topDef (OpenLaw.row PySem.Challenge.rw_bentcurves_k16_whole_close_places).prog 86) (kwd := []) Bc.ob_eq
    (by kernel_rfl) (fun s => by kernel_rfl) Bc.run_eq (by kernel_rfl) (by kernel_rfl) (by kernel_rfl) (by rfl) (by first | assumption | decide +kernel) (by decide +kernel) ⟨rfl, rfl, rfl, rfl, rfl, by decide +kernel⟩ ?hw ?hc
  case hw => w_witness2
  case hc =>
    refine Bc.walk_ofP (l := PySem.Challenge.rw_bentcurves_k16_whole_close_places) (n := 63) (k := 71) (x := "_law_script") (CX := fun w => L2.CX Bc.R.prog w) rfl (by decide) (by kernel_rfl) ⟨rfl, by decide, by decide⟩ (by kernel_rfl) ?F (fun _ _ _ _ _ z => Bc.cx_none z)
    intro w mg fa h Y G hN hmg0
    obtain ⟨K, KX, c⟩ := Y
    have hmg : mg ("law" : PySem.Str) = some (.ref fa) := by
      have e : (HandSHeadRun.topDef (OpenLaw.row PySem.Challenge.rw_bentcurves_k16_whole_close_places).prog 86).name = ("law" : PySem.Str) := by kernel_rfl
      rw [← e]
      exact hmg0
    obtain ⟨fd, sp, hb, hsp, hF⟩ := Bc.facts (w := w) KX G hN hmg c
    exact ⟨K, fd, sp, KX, hb, hsp, hF⟩
