/- The machine on data: what the slots hold, said with fewer words. -/
import Derived.Test.YtpecmhdepggnoaaDmG
namespace Go.Proofs.Ytpecmhdepggnoaa
open Go.RowKit

/-- What the slots hold may be said with fewer words. -/
def Weak (st st' : ASt) : Prop := ∀ (w0 : Ent) (S : Nat → Prop) (n : Lim) (β : Bt) (a : Act) (w : World), FR w0 S n st β a w → ∃ β', FR w0 S n st' β' a w
section
variable {st : ASt}
/-- What may stand for what. -/
def wk1 (st st' : ASt) (x av : AV) : Prop :=
  match x, av with
  | _, .junk => True
  | .nilsl, .own _ m xs => xs = [] ∧ 0 < m
  | .nilsl, .ro xs => xs = []
  | .nilsl, .nilsl => True
  | .own e m xs, .own e' m' ys => e = e' ∧ m = m' ∧ xs = ys
  | .own _ _ xs, .ro ys => xs = ys
  | .alias d, .ro ys => (match st d with
    | .own _ _ xs => xs = ys
    | _ => False) ∧ (st' d).isHome = false
  | .alias d, .alias d' => d = d' ∧ st' d = st d
  | .ref d o, .ref d' o' => d = d' ∧ o = o' ∧ st' d = st d
  | .into d i o, .into d' i' o' => d = d' ∧ i = i' ∧ o = o' ∧ st' d = st d
  | .clo f ds, .clo g es => f = g ∧ ds = es ∧ ∀ d ∈ ds, st' d = st d
  | .box cs, .box ds => cs = ds
  | .ro xs, .ro ys => xs = ys
  | .val v, .val u => v = u
  | .agg cs, .agg ds => cs = ds
  | .tup cs, .tup ds => cs = ds
  | .roAt cs o, .roAt ds q => cs = ds ∧ o = q
  | _, _ => False
theorem weak_of {st' : ASt} (h : ∀ k, wk1 st st' (st k) (st' k)) : Weak st st' := by
  intro w0 S n β a w hf
  let β' : Bt := fun k => if (st' k).isHome = true then β k else none
  have hβ : ∀ k g, β' k = some g → (st' k).isHome = true ∧ β k = some g := fun k g hg => by
    simp only [β'] at hg
    split at hg
    · exact ⟨by assumption, hg⟩
    · cases hg
  have hI : ∀ b, Imm S w0 w β b → Imm S w0 w β' b := fun b hb => by
    rcases hb with hb | hb
    · exact .inl hb
    · exact .inr ⟨hb.1, hb.2.1, fun k hk => hb.2.2 k (hβ k b hk).2⟩
  have free : ∀ k g, β k = some g → (st' k).isHome = false → Imm S w0 w β' g := fun k g hg hk => by
    obtain ⟨_, h2, h3⟩ := hf.home k g hg
    refine .inr ⟨h2, h3, fun j hj => ?_⟩
    obtain ⟨q1, q2⟩ := hβ j g hj
    have := hf.inj j k g q2 hg
    subst this
    rw [hk] at q1; cases q1
  refine ⟨β', hf.below, hf.base, hf.given, hf.old, hf.size, hf.pin, hf.defers, fun k g hg => ?_, fun i j g hi hj => hf.inj i j g (hβ i g hi).2 (hβ j g hj).2, fun k => ?_⟩
  · obtain ⟨q1, q2⟩ := hβ k g hg
    exact ⟨q1, (hf.home k g q2).2⟩
  · have hs := hf.slot k
    have hk := h k
    have nil : st k = .nilsl → a.tmps.getD k undef = .slice none 0 0 ∧ β k = none := fun hk => by
      rw [hk] at hs
      have hs' : Rel w (Imm S w0 w β) .nilsl (a.tmps.getD k undef) := hs
      have hnone : β k = none := by
        cases hb : β k with
        | none => rfl
        | some g => have := (hf.home k g hb).1; rw [hk] at this; cases this
      exact ⟨by revert hs'; generalize a.tmps.getD k undef = q; intro hs'; cases hs'; rfl, hnone⟩
    have conv : ∀ d e m xs, st d = .own e m xs → (st' d).isHome = false → Rel w (Imm S w0 w β') (.ro xs) (a.tmps.getD d undef) := fun d e m xs hd hd' => by
      have hs := hf.slot d
      rw [hd] at hs
      have hs' : OwnAt w w0.base (Imm S w0 w β) e m xs (a.tmps.getD d undef) (β d) := hs
      exact own_ro (OwnAt.mono (w := w) hI (fun _ _ _ => rfl) (fun _ _ => rfl) hs') fun g hg => free d g hg hd'
    have same : (st' k).isHome = true → β' k = β k := fun hh => by simp only [β', hh, if_true]
    have tgt : ∀ d, st' d = st d → (st d).isHome = true → β' d = β d := fun d hd hh => by simp only [β', hd, hh, if_true]
    revert hk
    unfold wk1
    split <;> intro hk
    case h_1 => rename_i q2; rw [q2]; exact Rel.junk _
    case h_2 =>
      rename_i e m xs q1 q2
      obtain ⟨rfl, h0⟩ := hk
      obtain ⟨n1, n2⟩ := nil q1
      rw [q2]
      simp only [SlotRel]
      rw [same (by rw [q2]; rfl), n1, n2]
      exact ⟨[], World.ownsRow_nil _ _ _ _, by simp, h0, rfl, by simp, Nat.zero_le _, by simp⟩
    case h_3 =>
      rename_i xs q1 q2
      subst hk
      rw [q2]
      show Rel w (Imm S w0 w β') (.ro []) (a.tmps.getD k undef)
      rw [(nil q1).1]; exact Rel.ro0 _ _
    case h_4 =>
      rename_i q1 q2
      rw [q2]
      show Rel w (Imm S w0 w β') .nilsl (a.tmps.getD k undef)
      rw [(nil q1).1]; exact Rel.nilsl
    case h_5 =>
      rename_i e m xs e' m' ys q1 q2
      obtain ⟨rfl, rfl, rfl⟩ := hk
      rw [q1] at hs
      rw [q2]
      simp only [SlotRel]
      rw [same (by rw [q2]; rfl)]
      have hs' : OwnAt w w0.base (Imm S w0 w β) e m xs (a.tmps.getD k undef) (β k) := hs
      exact OwnAt.mono (w := w) hI (fun _ _ _ => rfl) (fun _ _ => rfl) hs'
    case h_6 =>
      rename_i e m xs ys q1 q2
      subst hk
      rw [q2]
      exact conv k _ _ _ q1 (by rw [q2]; rfl)
    case h_7 =>
      rename_i d ys q1 q2
      obtain ⟨h1, h2⟩ := hk
      split at h1
      · rename_i e m xs hd
        subst h1
        rw [q1] at hs
        obtain ⟨_, hs2⟩ := hs
        rw [q2]
        show Rel w (Imm S w0 w β') (.ro xs) (a.tmps.getD k undef)
        rw [hs2]
        exact conv d e m xs hd h2
      · exact h1.elim
    case h_8 =>
      rename_i d d' q1 q2
      obtain ⟨rfl, hd⟩ := hk
      rw [q1] at hs
      rw [q2]
      obtain ⟨⟨e, m, xs, h1⟩, h2⟩ := hs
      exact ⟨⟨e, m, xs, hd.trans h1⟩, h2⟩
    case h_9 =>
      rename_i d o d' o' q1 q2
      obtain ⟨rfl, rfl, hd⟩ := hk
      rw [q1] at hs
      rw [q2]
      obtain ⟨⟨cs, h1⟩, g, hg, h2⟩ := hs
      exact ⟨⟨cs, hd.trans h1⟩, g, by rw [tgt d hd (by rw [h1]; rfl)]; exact hg, h2⟩
    case h_10 =>
      rename_i d i o d' i' o' q1 q2
      obtain ⟨rfl, rfl, rfl, hd⟩ := hk
      rw [q1] at hs
      rw [q2]
      obtain ⟨e, m, xs, g, h1, h2, hg, h3⟩ := hs
      exact ⟨e, m, xs, g, hd.trans h1, h2, by rw [tgt d hd (by rw [h1]; rfl)]; exact hg, h3⟩
    case h_11 =>
      rename_i f ds g es q1 q2
      obtain ⟨rfl, rfl, hd⟩ := hk
      rw [q1] at hs
      rw [q2]
      obtain ⟨h1, h2⟩ := hs
      exact ⟨fun d hm => by obtain ⟨cs, hc⟩ := h1 d hm; exact ⟨cs, (hd d hm).trans hc⟩, h2⟩
    case h_12 =>
      rename_i cs ds q1 q2
      subst hk
      rw [q1] at hs
      rw [q2]
      simp only [SlotRel]
      rw [same (by rw [q2]; rfl)]
      have hs' : BoxAt w w0.base (Imm S w0 w β) cs (a.tmps.getD k undef) (β k) := hs
      exact BoxAt.mono (w := w) hI (fun _ _ _ => rfl) (fun _ _ => rfl) hs'
    case h_18 => exact hk.elim
    case h_17 =>
      rename_i cs o ds q q1 q2
      obtain ⟨rfl, rfl⟩ := hk
      rw [q1] at hs
      rw [q2]
      exact Rel.mono hI (fun _ _ _ => rfl) hs
    all_goals
      subst hk
      rename_i q1 q2
      rw [q1] at hs
      rw [q2]
      exact Rel.mono hI (fun _ _ _ => rfl) hs
/-- A row that has just been made, and will only be read. -/
theorem weak_row {w0 : Ent} {w w' : World} {S : Nat → Prop} {n : Lim} {β β' : Bt} {a a' : Act} {d e m : Nat} {xs : List (List AV)} (h : FR w0 S n st β a w) (hd : (st d).isHome = false) (h2 : FR w0 S n (st.put d (.own e m xs)) β' a' w') : ∃ β'', FR w0 S n (st.put d (.ro xs)) β'' a' w' := by
  refine weak_of (st := st.put d (.own e m xs)) (st' := st.put d (.ro xs)) (fun k => ?_) _ _ _ _ _ _ h2
  by_cases hk : k = d
  · subst hk
    rw [put_same, put_same]
    exact rfl
  · rw [put_ne hk, put_ne hk]
    have hs := h.slot k
    have ne : ∀ {t : Nat}, (st t).isHome = true → t ≠ d := fun ht e => by rw [e, hd] at ht; cases ht
    revert hs
    cases st k <;> simp only [SlotRel] <;> intro hs
    case alias t =>
      obtain ⟨⟨e', m', ys, h1⟩, _⟩ := hs
      have := ne (t := t) (by rw [h1]; rfl)
      exact ⟨rfl, by rw [put_ne this, put_ne this]⟩
    case ref t o =>
      obtain ⟨⟨cs, h1⟩, _⟩ := hs
      have := ne (t := t) (by rw [h1]; rfl)
      exact ⟨rfl, rfl, by rw [put_ne this, put_ne this]⟩
    case into t i o =>
      obtain ⟨e', m', ys, g, h1, _⟩ := hs
      have := ne (t := t) (by rw [h1]; rfl)
      exact ⟨rfl, rfl, rfl, by rw [put_ne this, put_ne this]⟩
    case clo f ds =>
      obtain ⟨h1, _⟩ := hs
      exact ⟨rfl, rfl, fun t ht => by
        obtain ⟨cs, hc⟩ := h1 t ht
        have := ne (t := t) (by rw [hc]; rfl)
        rw [put_ne this, put_ne this]⟩
    case own => exact ⟨rfl, rfl, rfl⟩
    case roAt => exact ⟨rfl, rfl⟩
    all_goals first | exact rfl | exact trivial
end
end Go.Proofs.Ytpecmhdepggnoaa
