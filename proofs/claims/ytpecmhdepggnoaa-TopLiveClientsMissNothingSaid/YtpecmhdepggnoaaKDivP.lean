/- Division of numbers of two words by Knuth's way: the plain law. -/
import Derived.Test.YtpecmhdepggnoaaDmN
namespace Go.Proofs.Ytpecmhdepggnoaa
open Go.RowKit

/-- While the test holds, the guess is too great. -/
theorem kn_great {u un y1 y0 q r : Nat} (h : q * y1 + r = u) (hu : u < y1 * 4294967296 + y0) (hn : un < 4294967296) (ht : 4294967296 ≤ q ∨ 4294967296 * r + un < q * y0) : (u * 4294967296 + un) / (y1 * 4294967296 + y0) + 1 ≤ q := by
  have hy : 0 < y1 * 4294967296 + y0 := by omega
  rcases ht with ht | ht
  · have : (u * 4294967296 + un) / (y1 * 4294967296 + y0) < 4294967296 := by
      rw [Nat.div_lt_iff_lt_mul hy]; omega
    omega
  · rw [Nat.add_one_le_iff, Nat.div_lt_iff_lt_mul hy, Nat.mul_add, ← Nat.mul_assoc]
    generalize q * y1 = A at *
    generalize q * y0 = C at *
    omega
/-- When it does not, the guess is right. -/
theorem kn_done {u un y1 y0 q r : Nat} (hy : 0 < y1) (h : q * y1 + r = u) (hq : (u * 4294967296 + un) / (y1 * 4294967296 + y0) ≤ q) (ht : q * y0 ≤ 4294967296 * r + un) : q = (u * 4294967296 + un) / (y1 * 4294967296 + y0) := by
  have hy : 0 < y1 * 4294967296 + y0 := by omega
  refine Nat.le_antisymm ?_ hq
  rw [Nat.le_div_iff_mul_le hy, Nat.mul_add, ← Nat.mul_assoc]
  generalize q * y1 = A at *
  generalize q * y0 = C at *
  omega
/-- The first guess is not too small, -/
theorem kn_first {u un y1 y0 : Nat} (hy : 0 < y1) (hn : un < 4294967296) : (u * 4294967296 + un) / (y1 * 4294967296 + y0) ≤ u / y1 := by
  rw [Nat.le_div_iff_mul_le hy]
  have h1 : (u * 4294967296 + un) / (y1 * 4294967296 + y0) * (y1 * 4294967296 + y0) ≤ u * 4294967296 + un := Nat.div_mul_le_self _ _
  rw [Nat.mul_add, ← Nat.mul_assoc] at h1
  generalize (u * 4294967296 + un) / (y1 * 4294967296 + y0) = q at *
  generalize q * y1 = A at *
  generalize q * y0 = C at *
  omega
/-- and not much too great. -/
theorem kn_near {u y1 y0 : Nat} (hu : u < y1 * 4294967296 + y0) (h1 : 2147483648 ≤ y1) (h0 : y0 < 4294967296) : u / y1 ≤ 4294967297 := by
  have : u / y1 < 4294967298 := by
    rw [Nat.div_lt_iff_lt_mul (by omega)]; omega
  omega
theorem kn_rem {u y1 : Nat} : u / y1 * y1 + (u - u / y1 * y1) = u := by
  have := Nat.div_mul_le_self u y1; omega
theorem kn_next {q y1 r u : Nat} (hq : 0 < q) (h : q * y1 + r = u) : (q - 1) * y1 + (r + y1) = u := by
  obtain ⟨p, rfl⟩ : ∃ p, q = p + 1 := ⟨q - 1, by omega⟩
  rw [Nat.add_mul] at h
  simp only [Nat.add_sub_cancel]; omega
/-- The product is small enough. -/
theorem kn_small {q y0 : Nat} (hq : q ≤ 4294967297) (h0 : y0 < 4294967296) : q * y0 ≤ 18446744073709551615 := by
  have : q * y0 ≤ 4294967297 * 4294967295 := Nat.mul_le_mul hq (by omega)
  omega
/-- When the loop is left in its middle, the test would not hold either. -/
theorem kn_break {q y0 r un : Nat} (hq : q ≤ 4294967296) (h0 : y0 < 4294967296) (hr : 4294967296 ≤ r) : q * y0 ≤ 4294967296 * r + un := by
  have : q * y0 ≤ 4294967296 * 4294967295 := Nat.mul_le_mul hq (by omega)
  omega
/-- What is left, reckoned modulo 2^64. -/
theorem kn_left {u un y q : Nat} (hq : q = (u * 4294967296 + un) / y) : ((u : Int) * 4294967296 + un - (q : Int) * y) = (((u * 4294967296 + un) % y : Nat) : Int) := by
  subst hq
  have h1 := Nat.div_add_mod (u * 4294967296 + un) y
  rw [Nat.mul_comm] at h1
  have h2 : (((u * 4294967296 + un) / y * y : Nat) : Int) = (((u * 4294967296 + un) / y : Nat) : Int) * (y : Int) := Int.natCast_mul _ _
  rw [← h2]
  generalize (u * 4294967296 + un) / y * y = P at *
  omega
/-- Two digits together. -/
theorem kn_two {N un0 y : Nat} (hy : 0 < y) : (N * 4294967296 + un0) / y = N / y * 4294967296 + (N % y * 4294967296 + un0) / y ∧ (N * 4294967296 + un0) % y = (N % y * 4294967296 + un0) % y := by
  have h1 := Nat.div_add_mod N y
  have e : N * 4294967296 + un0 = (N % y * 4294967296 + un0) + y * (N / y * 4294967296) := by
    rw [← Nat.mul_assoc]
    generalize y * (N / y) = P at *
    omega
  rw [e, Nat.add_mul_div_left _ _ hy, Nat.add_mul_mod_self_left]
  exact ⟨Nat.add_comm _ _, rfl⟩
/-- Shifted both, the quotient stays, and the rest is shifted. -/
theorem kn_shift {N y k : Nat} (hk : 0 < k) : (N * k) / (y * k) = N / y ∧ (N * k) % (y * k) / k = N % y := by
  refine ⟨Nat.mul_div_mul_right _ _ hk, ?_⟩
  rw [Nat.mul_mod_mul_right, Nat.mul_div_cancel _ hk]
end Go.Proofs.Ytpecmhdepggnoaa
