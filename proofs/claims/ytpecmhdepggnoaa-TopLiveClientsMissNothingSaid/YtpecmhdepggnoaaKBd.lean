/- Times and scales in their bounds. -/
import Derived.Test.YtpecmhdepggnoaaKNat
import Derived.Test.YtpecmhdepggnoaaDmP
namespace Go.Proofs.Ytpecmhdepggnoaa
open Go.RowKit
set_option linter.unusedSimpArgs false

theorem all_int (x : List AV) (h : HasAll [.int .i64] x) : ∃ n : Int, x = oneI n ∧ I64 n := by
  obtain ⟨v0, r, rfl, h0, h⟩ := all_cons h
  obtain rfl := all_nil h
  obtain ⟨n, rfl, hn⟩ := has_int h0
  exact ⟨n, rfl, hn⟩
theorem noTime_bd {n : Int} (h : noTime n = false) : -1000000000000000 ≤ n ∧ n ≤ 1000000000000000 := outB_f h
theorem noTime_far {n : Int} (h : noTime n = true) : n < -1000000000000000 ∨ 1000000000000000 < n := outB_t h
theorem noScale_bd {n : Int} (h : noScale n = false) : 1 ≤ n ∧ n ≤ 1000000000 := outB_f h
theorem noTime_of {n : Int} (h1 : -1000000000000000 ≤ n) (h2 : n ≤ 1000000000000000) : noTime n = false := by
  simp only [noTime, outB, Bool.or_eq_false_iff, decide_eq_false_iff_not]; omega
end Go.Proofs.Ytpecmhdepggnoaa
