/- Places: in which bounds they are. -/
import Derived.Test.YtpecmhdepggnoaaKFind
import Derived.Test.YtpecmhdepggnoaaKSmpQ
namespace Go.Proofs.Ytpecmhdepggnoaa
open Go.RowKit
set_option linter.unusedSimpArgs false

theorem getD_at {α : Type} {l : List α} {k : Nat} {d : α} (h : k < l.length) : l.getD k d = l[k] := by rw [List.getD_eq_getElem?_getD, List.getElem?_eq_getElem h]; rfl
theorem groupsGo_mem {l : List Smp} : ∀ {u f : Nat} {g : Grp}, g ∈ groupsGo l u f → ∃ f', f ≤ f' ∧ f' < l.length ∧ g = grpAt l f'
  | 0, _, _, h => by simp [groupsGo] at h
  | u + 1, f, g, h => by
    unfold groupsGo at h
    split at h
    · rename_i hf
      rcases List.mem_cons.1 h with rfl | h
      · exact ⟨f, Nat.le_refl _, hf, rfl⟩
      · obtain ⟨f', h1, h2, h3⟩ := groupsGo_mem h
        have := toOf_bd hf
        exact ⟨f', by omega, h2, h3⟩
    · simp at h
theorem plOf_mem {gs : List Grp} {p : Int × Nat} (h : p ∈ plOf gs) : ∃ g ∈ gs, g.closed = true ∧ p = (g.beg, g.frm) := by
  unfold plOf at h
  obtain ⟨g, hg, rfl⟩ := List.mem_map.1 h
  obtain ⟨h1, h2⟩ := List.mem_filter.1 hg
  exact ⟨g, h1, h2, rfl⟩
theorem placesL_mem {l : List Smp} (hs : smpF l = 0) {p : Int × Nat} (h : p ∈ placesL l) : ∃ f, f < l.length ∧ (grpAt l f).closed = true ∧ p = ((grpAt l f).beg, f) := by
  unfold placesL groupsF at h
  rw [if_neg (by simp [hs])] at h
  obtain ⟨g, hg, hc, rfl⟩ := plOf_mem h
  obtain ⟨f, _, hf, rfl⟩ := groupsGo_mem hg
  exact ⟨f, hf, hc, rfl⟩
theorem placesL_bd {l : List Smp} (hs : smpF l = 0) : ∀ p ∈ placesL l, -2000000000000000 ≤ p.1 ∧ p.1 ≤ 2000000000000000 := by
  intro p hp
  obtain ⟨f, hf, hc, rfl⟩ := placesL_mem hs hp
  obtain ⟨t1, t2⟩ := toOf_bd hf
  have hPl := presL_len l
  have := (minOf_is (sub_ne (P := presL l) (f := f) (t := toOf l f) (by omega) (by omega))).1
  obtain ⟨i, hi, h1, h2, h3⟩ := sub_mem this
  have hb := pres_bd (smpF_0 hs).2.1 _ (List.getElem_mem (show i < (presL l).length by omega))
  simp only [grpAt]
  rw [h3]
  exact hb
theorem placesL_len (l : List Smp) : (placesL l).length ≤ 5000 := Nat.le_trans (plOf_len _) (groupsF_len l)
def scale0 : List Str → Int
  | [] => 0
  | s :: _ => s.scale
def StrOK (r : Str) : Prop := smpF r.smps = 0 ∧ 0 < r.smps.length ∧ 1 ≤ r.scale ∧ r.scale ≤ 1000000000
theorem strF_ok {r : Str} {e : List Str} (h : strF r e = 0) : StrOK r := by
  unfold strF at h
  split at h
  · cases h
  split at h
  · cases h
  unfold strF2 at h
  split at h
  · cases h
  rename_i h1
  split at h
  · rename_i h2; exact absurd h h2
  rename_i h2
  split at h
  · cases h
  rename_i h3
  have := noScale_bd (by simpa using h1)
  exact ⟨by simpa using h2, by omega, this.1, this.2⟩
theorem findF_yes {l : List (Int × Nat)} {own time scale : Int} (h : (findF l own time scale).2 = true) : (findF l own time scale).1 ∈ l ∧ cmpP (findF l own time scale).1 own time scale = 0 := by
  have hle : bsL l own time scale ≤ l.length := bsGo_le (Nat.zero_le _) (Nat.le_refl _)
  unfold findF at h ⊢
  generalize bsL l own time scale = R at *
  split at h
  · cases h
  rename_i h1
  split at h
  · cases h
  rename_i h2
  rw [if_neg h1, if_neg h2]
  have hlt : R < l.length := by omega
  refine ⟨?_, by simpa using h2⟩
  simp only [List.getD_eq_getElem?_getD, List.getElem?_eq_getElem hlt, Option.getD_some]
  exact List.getElem_mem hlt
theorem cmp3_0 {a b : Int} (h : cmp3 a b = 0) : a = b := by
  unfold cmp3 at h
  split at h
  · cases h
  · split at h
    · cases h
    · omega
theorem lastK_ge' {P : List Int} {f i : Nat} (hi : i < P.length) (h : i < f) : P[i] ≤ lastK P f := by
  have n1 : P.take f ≠ [] := fun e => by have := congrArg List.length e; rw [List.length_take, List.length_nil] at this; omega
  rw [show lastK P f = Go.Lib.maxOf (P.take f) from if_neg (by omega)]
  exact (maxOf_is n1).2 _ (List.mem_take_iff_getElem.2 ⟨i, by omega, rfl⟩)
theorem closed_beg {l : List Smp} {f : Nat} (h : (grpAt l f).closed = true) : (grpAt l f).beg = (presL l).getD f 0 ∧ (f = 0 ∨ lastK (presL l) f < (grpAt l f).beg) := by
  simp only [grpAt, closedB, Bool.and_eq_true, beq_iff_eq, Bool.or_eq_true, decide_eq_true_eq] at h ⊢
  exact ⟨h.1.1.2, h.2⟩
end Go.Proofs.Ytpecmhdepggnoaa
