/- The machine on data: what the slots hold, said with fewer words. -/
import Derived.Test.YtpecmhdepggnoaaDmG
namespace Go.Proofs.Ytpecmhdepggnoaa
open Go.RowKit

/-- What the slots hold may be said with fewer words. -/
def Weak (st st' : ASt) : Prop := ∀ (w0 : Ent) (S : Nat → Prop) (n : Lim) (β : Bt) (a : Act) (w : World), FR w0 S n st β a w → ∃ β', FR w0 S n st' β' a w
section
variable {st : ASt}
/-- What may stand for what. -/
def wk1 (st st' : ASt) (x av : AV) : Prop :=
  match x, av with
  | _, .junk => True
  | .nilsl, .own _ m xs => xs = [] ∧ 0 < m
  | .nilsl, .ro xs => xs = []
  | .nilsl, .nilsl => True
  | .own e m xs, .own e' m' ys => e = e' ∧ m = m' ∧ xs = ys
  | .own _ _ xs, .ro ys => xs = ys
  | .alias d, .ro ys => (match st d with
    | .own _ _ xs => xs = ys
    | _ => False) ∧ (st' d).isHome = false
  | .alias d, .alias d' => d = d' ∧ st' d = st d
  | .ref d o, .ref d' o' => d = d' ∧ o = o' ∧ st' d = st d
  | .into d i o, .into d' i' o' => d = d' ∧ i = i' ∧ o = o' ∧ st' d = st d
  | .clo f ds, .clo g es => f = g ∧ ds = es ∧ ∀ d ∈ ds, st' d = st d
  | .box cs, .box ds => cs = ds
  | .ro xs, .ro ys => xs = ys
  | .val v, .val u => v = u
  | .agg cs, .agg ds => cs = ds
  | .tup cs, .tup ds => cs = ds
  | .roAt cs o, .roAt ds q => cs = ds ∧ o = q
  | .box cs, .roAt ds q => cs = ds ∧ q = 0
  | .ref d o, .roAt ds q => (match st d with
    | .box cs => cs = ds
    | _ => False) ∧ o = q ∧ (st' d).isHome = false
  | .fnv f cs, .fnv g ds => f = g ∧ cs = ds
  | .held e m xs v, .held e' m' ys u => e = e' ∧ m = m' ∧ xs = ys ∧ v = u
  | _, _ => False
theorem weak_of {st' : ASt} (h : ∀ k, wk1 st st' (st k) (st' k)) : Weak st st' := by
  intro w0 S n β a w hf
  let β' : Bt := fun k => if (st' k).isHome = true then β k else none
  have hβ : ∀ k g, β' k = some g → (st' k).isHome = true ∧ β k = some g := fun k g hg => by
    simp only [β'] at hg
    split at hg
    · exact ⟨by assumption, hg⟩
    · cases hg
  have hI : ∀ b, Imm S w0 w β b → Imm S w0 w β' b := fun b hb => by
    rcases hb with hb | hb
    · exact .inl hb
    · exact .inr ⟨hb.1, hb.2.1, fun k hk => hb.2.2 k (hβ k b hk).2⟩
  have free : ∀ k g, β k = some g → (st' k).isHome = false → Imm S w0 w β' g := fun k g hg hk => by
    obtain ⟨_, h2, h3⟩ := hf.home k g hg
    refine .inr ⟨h2, h3, fun j hj => ?_⟩
    obtain ⟨q1, q2⟩ := hβ j g hj
    have := hf.inj j k g q2 hg
    subst this
    rw [hk] at q1; cases q1
  refine ⟨β', hf.below, hf.base, hf.given, hf.old, hf.size, hf.pin, hf.defers, fun k g hg => ?_, fun i j g hi hj => hf.inj i j g (hβ i g hi).2 (hβ j g hj).2, fun k => ?_⟩
  · obtain ⟨q1, q2⟩ := hβ k g hg
    exact ⟨q1, (hf.home k g q2).2⟩
  · have hs := hf.slot k
    have hk := h k
    have nil : st k = .nilsl → a.tmps.getD k undef = .slice none 0 0 ∧ β k = none := fun hk => by
      rw [hk] at hs
      have hs' : Rel w (Imm S w0 w β) .nilsl (a.tmps.getD k undef) := hs
      have hnone : β k = none := by
        cases hb : β k with
        | none => rfl
        | some g => have := (hf.home k g hb).1; rw [hk] at this; cases this
      exact ⟨by revert hs'; generalize a.tmps.getD k undef = q; intro hs'; cases hs'; rfl, hnone⟩
    have conv : ∀ d e m xs, st d = .own e m xs → (st' d).isHome = false → Rel w (Imm S w0 w β') (.ro xs) (a.tmps.getD d undef) := fun d e m xs hd hd' => by
      have hs := hf.slot d
      rw [hd] at hs
      have hs' : OwnAt w w0.base (Imm S w0 w β) e m xs (a.tmps.getD d undef) (β d) := hs
      exact own_ro (OwnAt.mono (w := w) hI (fun _ _ _ => rfl) (fun _ _ => rfl) hs') fun g hg => free d g hg hd'
    have convB : ∀ d cs, st d = .box cs → (st' d).isHome = false → ∀ o v, (∀ g, β d = some g → v = .pointer (some ⟨g, o, none⟩)) → Rel w (Imm S w0 w β') (.roAt cs o) v := fun d cs hd hd' o v hv => by
      have hs := hf.slot d
      rw [hd] at hs
      have hs' : BoxAt w w0.base (Imm S w0 w β) cs (a.tmps.getD d undef) (β d) := hs
      obtain ⟨g, hg, hr⟩ := box_at (BoxAt.mono (w := w) hI (fun _ _ _ => rfl) (fun _ _ => rfl) hs') (fun g hg => free d g hg hd') o
      rw [hv g hg]; exact hr
    have same : (st' k).isHome = true → β' k = β k := fun hh => by simp only [β', hh, if_true]
    have tgt : ∀ d, st' d = st d → (st d).isHome = true → β' d = β d := fun d hd hh => by simp only [β', hd, hh, if_true]
    revert hk
    unfold wk1
    split <;> intro hk
    case h_1 => rename_i q2; rw [q2]; exact Rel.junk _
    case h_2 =>
      rename_i e m xs q1 q2
      obtain ⟨rfl, h0⟩ := hk
      obtain ⟨n1, n2⟩ := nil q1
      rw [q2]
      simp only [SlotRel]
      rw [same (by rw [q2]; rfl), n1, n2]
      exact ⟨[], World.ownsRow_nil _ _ _ _, by simp, h0, rfl, by simp, Nat.zero_le _, by simp⟩
    case h_3 =>
      rename_i xs q1 q2
      subst hk
      rw [q2]
      show Rel w (Imm S w0 w β') (.ro []) (a.tmps.getD k undef)
      rw [(nil q1).1]; exact Rel.ro0 _ _
    case h_4 =>
      rename_i q1 q2
      rw [q2]
      show Rel w (Imm S w0 w β') .nilsl (a.tmps.getD k undef)
      rw [(nil q1).1]; exact Rel.nilsl
    case h_5 =>
      rename_i e m xs e' m' ys q1 q2
      obtain ⟨rfl, rfl, rfl⟩ := hk
      rw [q1] at hs
      rw [q2]
      simp only [SlotRel]
      rw [same (by rw [q2]; rfl)]
      have hs' : OwnAt w w0.base (Imm S w0 w β) e m xs (a.tmps.getD k undef) (β k) := hs
      exact OwnAt.mono (w := w) hI (fun _ _ _ => rfl) (fun _ _ => rfl) hs'
    case h_6 =>
      rename_i e m xs ys q1 q2
      subst hk
      rw [q2]
      exact conv k _ _ _ q1 (by rw [q2]; rfl)
    case h_7 =>
      rename_i d ys q1 q2
      obtain ⟨h1, h2⟩ := hk
      split at h1
      · rename_i e m xs hd
        subst h1
        rw [q1] at hs
        obtain ⟨_, hs2⟩ := hs
        rw [q2]
        show Rel w (Imm S w0 w β') (.ro xs) (a.tmps.getD k undef)
        rw [hs2]
        exact conv d e m xs hd h2
      · exact h1.elim
    case h_8 =>
      rename_i d d' q1 q2
      obtain ⟨rfl, hd⟩ := hk
      rw [q1] at hs
      rw [q2]
      obtain ⟨⟨e, m, xs, h1⟩, h2⟩ := hs
      exact ⟨⟨e, m, xs, hd.trans h1⟩, h2⟩
    case h_9 =>
      rename_i d o d' o' q1 q2
      obtain ⟨rfl, rfl, hd⟩ := hk
      rw [q1] at hs
      rw [q2]
      obtain ⟨⟨cs, h1⟩, g, hg, h2⟩ := hs
      exact ⟨⟨cs, hd.trans h1⟩, g, by rw [tgt d hd (by rw [h1]; rfl)]; exact hg, h2⟩
    case h_10 =>
      rename_i d i o d' i' o' q1 q2
      obtain ⟨rfl, rfl, rfl, hd⟩ := hk
      rw [q1] at hs
      rw [q2]
      obtain ⟨e, m, xs, g, h1, h2, hg, h3⟩ := hs
      exact ⟨e, m, xs, g, hd.trans h1, h2, by rw [tgt d hd (by rw [h1]; rfl)]; exact hg, h3⟩
    case h_11 =>
      rename_i f ds g es q1 q2
      obtain ⟨rfl, rfl, hd⟩ := hk
      rw [q1] at hs
      rw [q2]
      obtain ⟨h1, h2⟩ := hs
      exact ⟨fun d hm => by obtain ⟨cs, hc⟩ := h1 d hm; exact ⟨cs, (hd d hm).trans hc⟩, h2⟩
    case h_12 =>
      rename_i cs ds q1 q2
      subst hk
      rw [q1] at hs
      rw [q2]
      simp only [SlotRel]
      rw [same (by rw [q2]; rfl)]
      have hs' : BoxAt w w0.base (Imm S w0 w β) cs (a.tmps.getD k undef) (β k) := hs
      exact BoxAt.mono (w := w) hI (fun _ _ _ => rfl) (fun _ _ => rfl) hs'
    case h_22 => exact hk.elim
    case h_18 =>
      rename_i cs ds q q1 q2
      obtain ⟨rfl, rfl⟩ := hk
      rw [q2]
      show Rel w (Imm S w0 w β') (.roAt cs 0) (a.tmps.getD k undef)
      exact convB k cs q1 (by rw [q2]; rfl) 0 _ (fun g hg => by
        rw [q1] at hs
        obtain ⟨g', t, cur, r1, r2, r3, _⟩ := hs
        obtain rfl : g = g' := by rw [hg] at r1; injection r1
        exact r3)
    case h_19 =>
      rename_i d o ds q q1 q2
      obtain ⟨h1, rfl, h3⟩ := hk
      split at h1
      · rename_i cs hd
        subst h1
        rw [q1] at hs
        obtain ⟨_, g, hg, hv⟩ := hs
        rw [q2]
        show Rel w (Imm S w0 w β') (.roAt cs o) (a.tmps.getD k undef)
        exact convB d cs hd h3 o _ (fun g' hg' => by
          obtain rfl : g = g' := by rw [hg] at hg'; injection hg'
          exact hv)
      · exact h1.elim
    case h_20 =>
      rename_i f cs g ds q1 q2
      obtain ⟨rfl, rfl⟩ := hk
      rw [q1] at hs
      rw [q2]
      exact Rel.mono hI (fun _ _ _ => rfl) hs
    case h_21 =>
      rename_i e m xs v e' m' ys u q1 q2
      obtain ⟨rfl, rfl, rfl, rfl⟩ := hk
      rw [q1] at hs
      rw [q2]
      simp only [SlotRel]
      rw [same (by rw [q2]; rfl)]
      have hs' : OwnAt w w0.base (Imm S w0 w β) e m xs v (β k) := hs
      exact OwnAt.mono (w := w) hI (fun _ _ _ => rfl) (fun _ _ => rfl) hs'
    case h_17 =>
      rename_i cs o ds q q1 q2
      obtain ⟨rfl, rfl⟩ := hk
      rw [q1] at hs
      rw [q2]
      exact Rel.mono hI (fun _ _ _ => rfl) hs
    all_goals
      subst hk
      rename_i q1 q2
      rw [q1] at hs
      rw [q2]
      exact Rel.mono hI (fun _ _ _ => rfl) hs
theorem Weak.trans {s1 s2 s3 : ASt} (h1 : Weak s1 s2) (h2 : Weak s2 s3) : Weak s1 s3 := fun w0 S n β a w hf => by
  obtain ⟨β1, h⟩ := h1 w0 S n β a w hf
  exact h2 w0 S n β1 a w h
/-- The same, where a value comes up that only memory knows. -/
def WeakV (st : ASt) (F : Value → ASt) : Prop := ∀ (w0 : Ent) (S : Nat → Prop) (n : Lim) (β : Bt) (a : Act) (w : World), FR w0 S n st β a w → ∃ (r : Value) (β' : Bt), r.oneCell' = true ∧ FR w0 S n (F r) β' a w
theorem WeakV.of {st st' : ASt} (h : Weak st st') : WeakV st (fun _ => st') := fun w0 S n β a w hf => by
  obtain ⟨β', h⟩ := h w0 S n β a w hf
  exact ⟨.bool false, β', rfl, h⟩
/-- A slice that slot k alone has: its value by a name, what it owns at a slot that no code knows. -/
def ASt.hold (st : ASt) (k g e m : Nat) (xs : List (List AV)) (r : Value) : ASt := ((st.free k).put g (.held e m xs r)).put k (.val r)
theorem hold_ok {st : ASt} {k g e m : Nat} {xs : List (List AV)} (hk : st k = .own e m xs) (hg : (st g).isHome = false) (hgk : g ≠ k) : WeakV st (st.hold k g e m xs) := by
  intro w0 S n β a w h
  have hβg : β g = none := by
    cases hq : β g with
    | none => rfl
    | some b => have := (h.home g b hq).1; rw [hg] at this; cases this
  have hsk := h.slot k
  rw [hk] at hsk
  have hown : OwnAt w w0.base (Imm S w0 w β) e m xs (a.tmps.getD k undef) (β k) := hsk
  let β' : Bt := fun j => if j = g then β k else if j = k then none else β j
  have hI : ∀ b, Imm S w0 w β b → Imm S w0 w β' b := fun b hb => by
    rcases hb with hb | hb
    · exact .inl hb
    · refine .inr ⟨hb.1, hb.2.1, fun j => ?_⟩
      simp only [β']
      split
      · exact hb.2.2 k
      · split
        · simp
        · exact hb.2.2 j
  have inj' : ∀ j b, β' j = some b → ∃ i, β i = some b ∧ ((j = g ∧ i = k) ∨ (j ≠ g ∧ j ≠ k ∧ i = j)) := fun j b hj => by
    simp only [β'] at hj
    split at hj
    · rename_i q; exact ⟨k, hj, .inl ⟨q, rfl⟩⟩
    · rename_i q
      split at hj
      · cases hj
      · rename_i q2; exact ⟨j, hj, .inr ⟨q, q2, rfl⟩⟩
  refine ⟨a.tmps.getD k undef, β', hown.one, h.below, h.base, h.given, h.old, h.size, h.pin, h.defers, fun j b hj => ?_, fun i j b hi hj => ?_, fun j => ?_⟩
  · obtain ⟨i, hi, q⟩ := inj' j b hj
    rcases q with ⟨rfl, rfl⟩ | ⟨q1, q2, rfl⟩
    · exact ⟨by unfold ASt.hold; rw [put_ne hgk, put_same]; rfl, (h.home i b hi).2⟩
    · refine ⟨?_, (h.home i b hi).2⟩
      unfold ASt.hold
      rw [put_ne q2, put_ne q1, free_home q2 (h.home i b hi).1]
      exact (h.home i b hi).1
  · obtain ⟨i1, h1, q1⟩ := inj' i b hi
    obtain ⟨j1, h2, q2⟩ := inj' j b hj
    have := h.inj _ _ b h1 h2
    rcases q1 with ⟨a1, a2⟩ | ⟨a1, a2, a3⟩ <;> rcases q2 with ⟨b1, b2⟩ | ⟨b1, b2, b3⟩
    · rw [a1, b1]
    · exact absurd (b3.symm.trans (this.symm.trans a2)) b2
    · exact absurd (a3.symm.trans (this.trans b2)) a2
    · rw [← a3, ← b3, this]
  · unfold ASt.hold
    by_cases hjk : j = k
    · subst hjk; rw [put_same]; exact Rel.val _
    rw [put_ne hjk]
    by_cases hjg : j = g
    · subst hjg
      rw [put_same]
      simp only [SlotRel, β', if_pos]
      exact OwnAt.mono (w := w) hI (fun _ _ _ => rfl) (fun _ _ => rfl) hown
    rw [put_ne hjg, free_ne hjk]
    have hb' : ∀ t, t ≠ k → t ≠ g → β' t = β t := fun t h1 h2 => by simp only [β', h1, h2, if_false]
    have hs := ((h.slot j).mono (w' := w) hI (fun _ _ _ => rfl) (fun _ _ => rfl)).free (d := k) (β' := β') hjk (fun t ht hh => hb' t ht (fun e => by
      rcases hh with hh | hh
      · exact hjg (hh ▸ e)
      · rw [e, hg] at hh; cases hh))
    have ng : ∀ {t : Nat}, ((st.free k) t).isHome = true → t ≠ g := fun {t} ht e => by
      subst e
      rw [free_ne hgk] at ht
      have := home_kill ht
      rw [hg] at this; cases this
    have nk : ∀ {t : Nat}, ((st.free k) t).isHome = true → t ≠ k := fun {t} ht e => by
      subst e
      rw [free_same] at ht; cases ht
    have same : ∀ {t : Nat}, ((st.free k) t).isHome = true → (((st.free k).put g (.held e m xs (a.tmps.getD k undef))).put k (.val (a.tmps.getD k undef))) t = (st.free k) t := fun {t} ht => by rw [put_ne (nk ht), put_ne (ng ht)]
    revert hs
    cases (st j).kill k <;> simp only [SlotRel] <;> intro hs
    case alias t =>
      obtain ⟨⟨e', m', ys, h1⟩, h2⟩ := hs
      exact ⟨⟨e', m', ys, by rw [same (by rw [h1]; rfl)]; exact h1⟩, h2⟩
    case ref t o =>
      obtain ⟨⟨cs, h1⟩, q, h2⟩ := hs
      exact ⟨⟨cs, by rw [same (by rw [h1]; rfl)]; exact h1⟩, q, h2⟩
    case into t i o =>
      obtain ⟨e', m', ys, q, h1, h2⟩ := hs
      exact ⟨e', m', ys, q, by rw [same (by rw [h1]; rfl)]; exact h1, h2⟩
    case clo f ds =>
      obtain ⟨h1, h2⟩ := hs
      exact ⟨fun t ht => by
        obtain ⟨cs, hc⟩ := h1 t ht
        exact ⟨cs, by rw [same (by rw [hc]; rfl)]; exact hc⟩, h2⟩
    all_goals exact hs
/-- A row that has just been made, and will only be read. -/
theorem weak_row {w0 : Ent} {w w' : World} {S : Nat → Prop} {n : Lim} {β β' : Bt} {a a' : Act} {d e m : Nat} {xs : List (List AV)} (h : FR w0 S n st β a w) (hd : (st d).isHome = false) (h2 : FR w0 S n (st.put d (.own e m xs)) β' a' w') : ∃ β'', FR w0 S n (st.put d (.ro xs)) β'' a' w' := by
  refine weak_of (st := st.put d (.own e m xs)) (st' := st.put d (.ro xs)) (fun k => ?_) _ _ _ _ _ _ h2
  by_cases hk : k = d
  · subst hk
    rw [put_same, put_same]
    exact rfl
  · rw [put_ne hk, put_ne hk]
    have hs := h.slot k
    have ne : ∀ {t : Nat}, (st t).isHome = true → t ≠ d := fun ht e => by rw [e, hd] at ht; cases ht
    revert hs
    cases st k <;> simp only [SlotRel] <;> intro hs
    case alias t =>
      obtain ⟨⟨e', m', ys, h1⟩, _⟩ := hs
      have := ne (t := t) (by rw [h1]; rfl)
      exact ⟨rfl, by rw [put_ne this, put_ne this]⟩
    case ref t o =>
      obtain ⟨⟨cs, h1⟩, _⟩ := hs
      have := ne (t := t) (by rw [h1]; rfl)
      exact ⟨rfl, rfl, by rw [put_ne this, put_ne this]⟩
    case into t i o =>
      obtain ⟨e', m', ys, g, h1, _⟩ := hs
      have := ne (t := t) (by rw [h1]; rfl)
      exact ⟨rfl, rfl, rfl, by rw [put_ne this, put_ne this]⟩
    case clo f ds =>
      obtain ⟨h1, _⟩ := hs
      exact ⟨rfl, rfl, fun t ht => by
        obtain ⟨cs, hc⟩ := h1 t ht
        have := ne (t := t) (by rw [hc]; rfl)
        rw [put_ne this, put_ne this]⟩
    case own => exact ⟨rfl, rfl, rfl⟩
    case roAt => exact ⟨rfl, rfl⟩
    case fnv => exact ⟨rfl, rfl⟩
    case held => exact ⟨rfl, rfl, rfl, rfl⟩
    all_goals first | exact rfl | exact trivial
end
end Go.Proofs.Ytpecmhdepggnoaa
