/- First samples of segments rise: the plain law about fstGo. -/
import Derived.Test.YtpecmhdepggnoaaKSegs
namespace Go.Proofs.Ytpecmhdepggnoaa
open Go.RowKit
set_option linter.unusedSimpArgs false

theorem fstAt_pic {r : Str} {sc b : Int} {fr : List Int} (hso : ¬ r.sound = true) (h : (fstAt r sc b fr).2 = 0) : ∃ p ∈ placesL r.smps, p.1 * sc = b * r.scale ∧ (fstAt r sc b fr).1 = (p.2 : Int) := by
  unfold fstAt at h ⊢
  rw [if_neg hso] at h ⊢
  split at h
  · rename_i h1
    rw [if_pos h1]
    obtain ⟨h2, h3⟩ := findF_yes h1
    exact ⟨_, h2, cmp3_0 h3, rfl⟩
  · cases h
theorem fstGo_pic {r : Str} {sc : Int} (hso : ¬ r.sound = true) : ∀ {B fr cu fr' cu' : List Int}, fstGo r sc B fr cu = (fr', cu', 0) → ∃ t : List Nat, fr' = fr ++ t.map (fun (a : Nat) => (a : Int)) ∧ cu'.length = cu.length + B.length ∧ t.length = B.length ∧ ∀ k (h1 : k < B.length) (h2 : k < t.length), ∃ p ∈ placesL r.smps, p.1 * sc = B[k] * r.scale ∧ t[k] = p.2
  | [], fr, cu, fr', cu', h => by
    simp only [fstGo, Prod.mk.injEq] at h
    exact ⟨[], by simp [h.1], by simp [h.2.1], rfl, fun k h1 => by simp at h1⟩
  | b :: B, fr, cu, fr', cu', h => by
    rw [fstGo] at h
    split at h
    · simp at h
    split at h
    · rename_i h2
      simp only [Prod.mk.injEq] at h
      exact absurd h.2.2 h2
    rename_i h2
    obtain ⟨p, hp, he, ha⟩ := fstAt_pic hso (by simpa using h2)
    obtain ⟨t, e1, e2, e3, e4⟩ := fstGo_pic hso h
    refine ⟨p.2 :: t, by rw [e1, ha]; simp, by rw [e2]; simp; omega, by simp [e3], fun k h1 h2 => ?_⟩
    cases k with
    | zero => exact ⟨p, hp, he, rfl⟩
    | succ k =>
      obtain ⟨q, hq, x1, x2⟩ := e4 k (by simpa using h1) (by simpa using h2)
      exact ⟨q, hq, by simpa using x1, by simpa using x2⟩
theorem closed_lt {l : List Smp} {f g : Nat} (hg : g < l.length) (h1 : (grpAt l f).closed = true) (h2 : (grpAt l g).closed = true) (h : (grpAt l f).beg < (grpAt l g).beg) : f < g := by
  obtain ⟨a1, a2⟩ := closed_beg h1
  obtain ⟨b1, b2⟩ := closed_beg h2
  rcases Nat.lt_trichotomy f g with q | q | q
  · exact q
  · subst q; omega
  · have hgp : g < (presL l).length := by rw [presL_len]; exact hg
    have := lastK_ge' hgp q
    rw [getD_at hgp] at b1
    rcases a2 with a2 | a2
    · omega
    · omega
theorem rise_at : ∀ {B : List Int} {p : Option Int}, riseGo p B = 0 → ∀ k (h : k + 1 < B.length), B[k] < B[k + 1]
  | [], _, _, k, h => by simp at h
  | t :: r, p, hr, k, h => by
    unfold riseGo at hr
    split at hr
    · cases hr
    split at hr
    · cases hr
    cases k with
    | succ k => simpa using rise_at hr k (by simpa using h)
    | zero =>
      cases r with
      | nil => simp at h
      | cons u v =>
        unfold riseGo at hr
        split at hr
        · cases hr
        split at hr
        · cases hr
        rename_i h3
        simpa using h3
def Good (n : Nat) (fr : List Int) : Prop := ∃ F : List Nat, fr = F.map (fun (a : Nat) => (a : Int)) ∧ (∀ k (h : k < F.length), F[k] < n) ∧ ∀ k (h : k + 1 < F.length), F[k] ≤ F[k + 1]
theorem good_snoc {n : Nat} {fr : List Int} {a : Nat} (hg : Good n fr) (ha : a < n) (hl : fr.length ≠ 0 → fr.getD (fr.length - 1) 0 < a) : Good n (fr ++ [(a : Int)]) := by
  obtain ⟨F, rfl, h1, h2⟩ := hg
  refine ⟨F ++ [a], by simp, fun k h => ?_, fun k h => ?_⟩
  · rw [List.getElem_append]
    split
    · exact h1 _ _
    · simpa using ha
  · have hk : k < F.length := by simpa using h
    rw [List.getElem_append_left hk]
    by_cases q : k + 1 < F.length
    · rw [List.getElem_append_left q]
      exact h2 k q
    · rw [List.getElem_append_right (by omega)]
      have := hl (by rw [List.length_map]; omega)
      rw [List.length_map, List.getD_eq_getElem?_getD, List.getElem?_map, List.getElem?_eq_getElem (show F.length - 1 < F.length by omega)] at this
      have e : F.length - 1 = k := by omega
      simp only [e, Option.map_some, Option.getD_some] at this
      simp
      omega
theorem fstAt_snd {r : Str} {sc b : Int} {fr : List Int} (hso : r.sound = true) (hn : 0 < r.smps.length) (h : (fstAt r sc b fr).2 = 0) : ∃ a : Nat, a < r.smps.length ∧ (fstAt r sc b fr).1 = (a : Int) ∧ (fr.length ≠ 0 → fr.getD (fr.length - 1) 0 < a) := by
  unfold fstAt at h ⊢
  rw [if_pos hso] at h ⊢
  split at h
  · cases h
  rename_i h1
  rw [if_neg h1]
  have hle := lastB_le (presL r.smps) r.scale b sc ((presL r.smps).length - 1)
  rw [presL_len] at hle h1 ⊢
  refine ⟨_, ?_, rfl, fun q => ?_⟩
  · omega
  · exact Int.not_le.1 fun z => h1 ⟨q, z⟩
theorem fstGo_snd {r : Str} {sc : Int} (hso : r.sound = true) (hn : 0 < r.smps.length) : ∀ {B fr cu fr' cu' : List Int}, fstGo r sc B fr cu = (fr', cu', 0) → Good r.smps.length fr → Good r.smps.length fr' ∧ fr'.length = fr.length + B.length ∧ cu'.length = cu.length + B.length
  | [], fr, cu, fr', cu', h, hg => by
    simp only [fstGo, Prod.mk.injEq] at h
    exact ⟨h.1 ▸ hg, by simp [h.1], by simp [h.2.1]⟩
  | b :: B, fr, cu, fr', cu', h, hg => by
    rw [fstGo] at h
    split at h
    · simp at h
    split at h
    · rename_i h2
      simp only [Prod.mk.injEq] at h
      exact absurd h.2.2 h2
    rename_i h2
    obtain ⟨a, ha, he, hl⟩ := fstAt_snd hso hn (by simpa using h2)
    rw [he] at h
    obtain ⟨e1, e2, e3⟩ := fstGo_snd hso hn h (good_snoc hg ha hl)
    exact ⟨e1, by rw [e2]; simp; omega, by rw [e3]; simp; omega⟩
theorem fr_ok {r : Str} {sc : Int} {B : List Int} (hr : StrOK r) (hsc : noScale sc = false) (hB : rise B = 0) (h : (fstGo r sc B [] []).2.2 = 0) : FrOK r.smps.length B.length (fstGo r sc B [] []) := by
  obtain ⟨hs, hn, hr1, _⟩ := hr
  have hs1 := noScale_bd hsc
  obtain ⟨fr, cu, e⟩ : ∃ x y, fstGo r sc B [] [] = (x, y, 0) := ⟨_, _, Prod.ext rfl (Prod.ext rfl h)⟩
  rw [e]
  by_cases hso : r.sound = true
  · obtain ⟨⟨F, x1, x2, x3⟩, y, z⟩ := fstGo_snd hso hn e ⟨[], rfl, by simp, by simp⟩
    refine ⟨F, x1, ?_, by simpa using z, x2, x3⟩
    rw [x1] at y
    simpa using y
  · obtain ⟨t, x1, x2, x3, x4⟩ := fstGo_pic hso e
    refine ⟨t, by simpa using x1, x3, by simpa using x2, fun k hk => ?_, fun k hk => ?_⟩
    · obtain ⟨p, hp, _, e1⟩ := x4 k (by omega) hk
      obtain ⟨f, hf, _, rfl⟩ := placesL_mem hs hp
      rw [e1]; exact hf
    · obtain ⟨p, hp, he, e1⟩ := x4 k (by omega) (by omega)
      obtain ⟨q, hq, he2, e2⟩ := x4 (k + 1) (by omega) hk
      obtain ⟨f, hf, hfc, rfl⟩ := placesL_mem hs hp
      obtain ⟨g, hg, hgc, rfl⟩ := placesL_mem hs hq
      have hlt := rise_at (rise_0 hB).2.2 k (by omega)
      simp only at he he2 e1 e2
      have hm : B[k] * r.scale < B[k + 1] * r.scale := Int.mul_lt_mul_of_pos_right hlt (by omega)
      rw [← he, ← he2] at hm
      have := closed_lt hg hfc hgc (Int.lt_of_mul_lt_mul_right hm (by omega))
      rw [e1, e2]
      exact Nat.le_of_lt this
end Go.Proofs.Ytpecmhdepggnoaa
