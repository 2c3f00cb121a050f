/- The statements' own small test of package cut. -/
import Derived.Test.YtpkeiabifoipoaaGrid
namespace Go.Proofs.Ytpkeiabifoipoaa
open Go.RowKit
attribute [local go_sem] cell_grow frozen_grow

set_option maxHeartbeats 400000 in
theorem awake_any (w : World) : Calls Try.prog 12 #[] w (Gives (.bool true) w) := by
  go_enter Try.func12, Try.ntmps12
  go_wp2_with fail
  have hR : Rd (w.alloc (.cells #[.int .i64 0, .int .i64 4, .int .i64 7] 3)) (w.alloc (.cells #[.int .i64 0, .int .i64 4, .int .i64 7] 3)).heap.size (some ⟨w.heap.size, 0, none⟩) ([0, 4, 7].map (Value.int .i64)) := fun _ =>
    ⟨w.heap.size, 0, rfl, by simp, fun j u hu => by rw [Nat.zero_add]; exact new_cells _ _ _ j u hu⟩
  refine (grid_yes (some ⟨w.heap.size, 0, none⟩) 3 [0, 4, 7] 1 6 8 _ (by decide) hR).mono ?_
  rintro e w1 ⟨A, c, rfl, hown, hb⟩
  have hg : grid 6 [0, 4, 7] = [0, 7] := by decide
  rw [hg] at hown ⊢
  obtain ⟨b, off, rfl, hb1, hc⟩ := (own_rd hown).ints (k := 0) (by simp)
  have h1 := hc 1 7 rfl
  clear hc
  have hB : Below w.heap.size w w1 := ((Below.refl _ _).alloc (Nat.le_refl _) _).trans (hb.mono (by simp))
  simp only [List.length_cons, List.length_nil, Nat.zero_add, Nat.reduceAdd]
  go_wp2_with fail
  go_ret
  exact ⟨rfl, hB⟩
end Go.Proofs.Ytpkeiabifoipoaa
