/- Package kit: what its small tests return. -/
import Derived.Test.YtpkeiabifoipoaaBase
namespace Go.Proofs.Ytpkeiabifoipoaa
open Go.RowKit

/-- A number is not from a to b. -/
def outB (n a b : Int) : Bool := decide (n < a) || decide (b < n)
theorem outB_t {n a b : Int} (h : n < a ∨ b < n) : outB n a b = true := by simp [outB, h]
theorem outB_f {n a b : Int} (h : a ≤ n ∧ n ≤ b) : outB n a b = false := by simp [outB]; omega
theorem of_outB_f {n a b : Int} (h : outB n a b = false) : a ≤ n ∧ n ≤ b := by simp [outB] at h; omega
theorem of_outB_t {n a b : Int} (h : outB n a b = true) : n < a ∨ b < n := by simpa [outB] using h
/-- A number is no time. -/
def noTime (n : Int) : Bool := outB n (-1000000000000000) 1000000000000000
theorem of_noTime_f {n : Int} (h : noTime n = false) : -1000000000000000 ≤ n ∧ n ≤ 1000000000000000 := of_outB_f h
theorem noTime_f {n : Int} (h : -1000000000000000 ≤ n ∧ n ≤ 1000000000000000) : noTime n = false := outB_f h
/-- A number is no scale. -/
def noScale (n : Int) : Bool := outB n 1 1000000000
theorem of_noScale_f {n : Int} (h : noScale n = false) : 1 ≤ n ∧ n ≤ 1000000000 := of_outB_f h
theorem noScale_f {n : Int} (h : 1 ≤ n ∧ n ≤ 1000000000) : noScale n = false := outB_f h

theorem out_any (n a b : Int) (w : World) : Calls Try.prog 37 #[.int .i64 n, .int .i64 a, .int .i64 b] w fun e w' => e = .returned (.bool (outB n a b)) ∧ w = w' := by
  unfold outB
  go_enter Try.func37, Try.ntmps37
  go_wp2
  all_goals go_ret
  all_goals simp [*]
theorem out_t {n a b : Int} (h : outB n a b = true) (w : World) : Calls Try.prog 37 #[.int .i64 n, .int .i64 a, .int .i64 b] w fun e w' => e = .returned (.bool true) ∧ w = w' := h ▸ out_any n a b w
theorem out_f {n a b : Int} (h : outB n a b = false) (w : World) : Calls Try.prog 37 #[.int .i64 n, .int .i64 a, .int .i64 b] w fun e w' => e = .returned (.bool false) ∧ w = w' := h ▸ out_any n a b w

theorem notime_any (n : Int) (w : World) : Calls Try.prog 32 #[.int .i64 n] w fun e w' => e = .returned (.bool (noTime n)) ∧ w = w' := by
  go_enter Try.func32, Try.ntmps32
  go_wp2_with (go_at_call 37; refine (out_any _ _ _ _).mono ?_; rintro e w' ⟨rfl, rfl⟩)
  go_ret
  exact ⟨rfl, rfl⟩
theorem notime_t {n : Int} (h : noTime n = true) (w : World) : Calls Try.prog 32 #[.int .i64 n] w fun e w' => e = .returned (.bool true) ∧ w = w' := h ▸ notime_any n w
theorem notime_f {n : Int} (h : noTime n = false) (w : World) : Calls Try.prog 32 #[.int .i64 n] w fun e w' => e = .returned (.bool false) ∧ w = w' := h ▸ notime_any n w
theorem noscale_any (n : Int) (w : World) : Calls Try.prog 44 #[.int .i64 n] w fun e w' => e = .returned (.bool (noScale n)) ∧ w = w' := by
  go_enter Try.func44, Try.ntmps44
  go_wp2_with (go_at_call 37; refine (out_any _ _ _ _).mono ?_; rintro e w' ⟨rfl, rfl⟩)
  go_ret
  exact ⟨rfl, rfl⟩
theorem noscale_t {n : Int} (h : noScale n = true) (w : World) : Calls Try.prog 44 #[.int .i64 n] w fun e w' => e = .returned (.bool true) ∧ w = w' := h ▸ noscale_any n w
theorem noscale_f {n : Int} (h : noScale n = false) (w : World) : Calls Try.prog 44 #[.int .i64 n] w fun e w' => e = .returned (.bool false) ∧ w = w' := h ▸ noscale_any n w
end Go.Proofs.Ytpkeiabifoipoaa
