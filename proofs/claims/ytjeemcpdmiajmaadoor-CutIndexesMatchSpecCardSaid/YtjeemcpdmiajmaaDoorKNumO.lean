/- The reference's numbers: headendref1's Times, Over, by the machine on data. -/
import Derived.Test.YtjeemcpdmiajmaaDoorKNumG
namespace Go.Proofs.YtjeemcpdmiajmaaDoor
open Go.RowKit
set_option linter.unusedSimpArgs false

theorem lm_prod {a b : Nat} : (lm (a * b)).length ≤ (lm a).length + (lm b).length := by
  refine lm_len ?_
  rw [Nat.pow_add]
  exact Nat.mul_lt_mul'' (lm_below a) (lm_below b)
end Go.Proofs.YtjeemcpdmiajmaaDoor
