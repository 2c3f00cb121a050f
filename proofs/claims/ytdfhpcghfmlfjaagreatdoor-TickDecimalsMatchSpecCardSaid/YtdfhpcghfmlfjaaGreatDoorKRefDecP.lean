/- The reference's decimals, in plain numbers. -/
import Derived.Test.YtdfhpcghfmlfjaaGreatDoorKNumX
import Derived.Test.YtdfhpcghfmlfjaaGreatDoorKDecR
namespace Go.Proofs.YtdfhpcghfmlfjaaGreatDoor
open Go.RowKit Go.Lib
set_option linter.unusedSimpArgs false

theorem rnd_half (neg : Bool) (t b : Nat) : rndN neg t b 2 = half t b := by
  unfold rndN half upN
  simp only [show ¬ ((2 : Int) = 1) by decide, show ¬ ((2 : Int) = 3) by decide, if_false, if_true, decide_eq_true_eq]
theorem dgs_split : ∀ (b a W R : Nat), R < 10 ^ b → dgs (a + b) (W * 10 ^ b + R) = dgs a W ++ dgs b R
  | 0, a, W, R, h => by
    have : R = 0 := by simpa using h
    subst this
    simp [dgs]
  | b + 1, a, W, R, h => by
    have e1 : (W * 10 ^ (b + 1) + R) / 10 = W * 10 ^ b + R / 10 := by rw [Nat.pow_succ, ← Nat.mul_assoc]; omega
    have e2 : (W * 10 ^ (b + 1) + R) % 10 = R % 10 := by rw [Nat.pow_succ, ← Nat.mul_assoc]; omega
    rw [← Nat.add_assoc, dgs, e1, e2, dgs_split b a W (R / 10) (by rw [Nat.pow_succ] at h; omega), dgs, List.append_assoc]
theorem nDigits_ge : ∀ (n : Nat), 1 ≤ n → 10 ^ (nDigits n - 1) ≤ n := by
  intro n
  induction n using Nat.strongRecOn with
  | ind n ih =>
    intro h
    by_cases q : n < 10
    · rw [nDigits_small q]; simpa using h
    · rw [nDigits_big q, Nat.add_sub_cancel]
      have h1 := ih (n / 10) (by omega) (by omega)
      have h2 := nDigits_pos (n / 10)
      obtain ⟨k, hk⟩ : ∃ k, nDigits (n / 10) = k + 1 := ⟨nDigits (n / 10) - 1, by omega⟩
      rw [hk] at h1 ⊢
      rw [Nat.add_sub_cancel] at h1
      rw [Nat.pow_succ]
      omega
/-- How many digits there are once zeros are put ahead. -/
theorem dig_len {W R k : Nat} (hR : R < 10 ^ k) : nDigits (W * 10 ^ k + R) ≤ k + nDigits W ∧ (nDigits (W * 10 ^ k + R) < k + nDigits W → nDigits W = 1) := by
  rcases Nat.eq_zero_or_pos W with z | z
  · subst z
    rw [Nat.zero_mul, Nat.zero_add, nDigits_small (show 0 < 10 by decide)]
    refine ⟨nDigits_le (k + 1) R (by omega) (by rw [Nat.pow_succ]; omega), fun _ => rfl⟩
  · have h1 := nDigits_ge W z
    have h2 := lt_pow_nDigits W
    have h3 := nDigits_pos W
    obtain ⟨w, hw⟩ : ∃ w, nDigits W = w + 1 := ⟨nDigits W - 1, by omega⟩
    rw [hw] at h1 h2 ⊢
    rw [Nat.add_sub_cancel] at h1
    have e : nDigits (W * 10 ^ k + R) = (w + k) + 1 := by
      refine nDigits_unique (w + k) _ ?_ ?_
      · rw [Nat.pow_add]
        have := Nat.mul_le_mul_right (10 ^ k) h1
        omega
      · rw [show w + k + 1 = w + 1 + k by omega, Nat.pow_add]
        have : (W + 1) * 10 ^ k ≤ 10 ^ (w + 1) * 10 ^ k := Nat.mul_le_mul_right _ h2
        rw [Nat.add_mul, Nat.one_mul] at this
        omega
    rw [e]
    exact ⟨by omega, fun h => by omega⟩
theorem rdN_neg0 (neg : Bool) {t b : Nat} (way : Int) (h : t = 0) (hb : 0 < b) : rndN neg t b way = 0 := by
  subst h
  unfold rndN upN
  rw [Nat.zero_mod, Nat.zero_div]
  simp
  intro _ _ _
  omega
end Go.Proofs.YtdfhpcghfmlfjaaGreatDoor
