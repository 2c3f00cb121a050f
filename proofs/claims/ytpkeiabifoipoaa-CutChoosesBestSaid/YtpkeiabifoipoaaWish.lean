/- cut.wishFault: the fault of places with a wish. -/
import Derived.Test.YtpkeiabifoipoaaRise
import Derived.Test.YtpkeiabifoipoaaOwn
namespace Go.Proofs.Ytpkeiabifoipoaa
open Go.RowKit
attribute [local go_sem] cell_grow frozen_grow

def wishB (sc t m : Int) : Bool := noScale sc || outB t 1 50000000 || outB m t 50000000
def wishF (l : List Int) (sc t m : Int) : Int := if wishB sc t m then 1 else rise l
theorem wishB_f {sc t m : Int} (h : wishB sc t m = false) : noScale sc = false ∧ outB t 1 50000000 = false ∧ outB m t 50000000 = false := by
  unfold wishB at h
  cases h1 : noScale sc <;> cases h2 : outB t 1 50000000 <;> cases h3 : outB m t 50000000 <;> simp_all

set_option maxHeartbeats 400000 in
theorem wish_any (A : Option Addr) (c : Nat) (l : List Int) (sc t m : Int) (w : World) (hl : l.length ≤ maxLen) (hR : Rd w w.heap.size A (l.map (Value.int .i64))) :
   Calls Try.prog 30 #[.slice A l.length c, .agg #[.int .i64 sc, .int .i64 t, .int .i64 m]] w (Gives (.int .i64 (wishF l sc t m)) w) := by
  have hb : ∀ o, Below w.heap.size w (w.alloc o) := fun o => (Below.refl _ _).alloc (Nat.le_refl _) _
  have HR := Lib.hid (show wishF l sc t m = if wishB sc t m then 1 else rise l from rfl)
  unfold wishB at HR
  cases h1 : noScale sc
  · cases h2 : outB t 1 50000000
    · cases h3 : outB m t 50000000
      · rw [h1, h2, h3] at HR
        go_enter Try.func30, Try.ntmps30
        go_wp2_with (first
          | (go_at_call 44; refine (noscale_any _ _).mono ?_; rintro e w' ⟨rfl, rfl⟩)
          | (go_at_call 37; refine (out_any _ _ _ _).mono ?_; rintro e w' ⟨rfl, rfl⟩)
          | (go_at_call 50; refine (rise_any A c l _ hl (hR.go (hb _))).mono ?_; rintro e w' ⟨rfl, rfl⟩))
        go_ret
        exact ⟨ret_int HR.out.symm, hb _⟩
      · rw [h1, h2, h3] at HR
        go_enter Try.func30, Try.ntmps30
        go_wp2_with (first
          | (go_at_call 44; refine (noscale_any _ _).mono ?_; rintro e w' ⟨rfl, rfl⟩)
          | (go_at_call 37; refine (out_any _ _ _ _).mono ?_; rintro e w' ⟨rfl, rfl⟩))
        go_ret
        exact ⟨ret_int HR.out.symm, hb _⟩
    · rw [h1, h2] at HR
      go_enter Try.func30, Try.ntmps30
      go_wp2_with (first
        | (go_at_call 44; refine (noscale_any _ _).mono ?_; rintro e w' ⟨rfl, rfl⟩)
        | (go_at_call 37; refine (out_any _ _ _ _).mono ?_; rintro e w' ⟨rfl, rfl⟩))
      go_ret
      exact ⟨ret_int HR.out.symm, hb _⟩
  · rw [h1] at HR
    go_enter Try.func30, Try.ntmps30
    go_wp2_with (go_at_call 44; refine (noscale_any _ _).mono ?_; rintro e w' ⟨rfl, rfl⟩)
    go_ret
    exact ⟨ret_int HR.out.symm, hb _⟩
end Go.Proofs.Ytpkeiabifoipoaa
