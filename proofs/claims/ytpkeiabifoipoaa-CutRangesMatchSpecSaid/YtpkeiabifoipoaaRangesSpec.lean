/- CutRangesMatchSpec: Ranges, Seek and Fetch answer as the reference's. For every input; no condition. -/
import Derived.Test.YtpkeiabifoipoaaKRefR
import Derived.Test.YtpkeiabifoipoaaRows
namespace Go.Proofs.Ytpkeiabifoipoaa
open Go.RowKit
set_option linter.unusedSimpArgs false

theorem rangespec_c : ∀ avs, HasArgs [.one (.row [.int .i64, .int .i64, .int .i64, .int .i64, .int .i64, .int .i64, .int .i64]), .one (.int .i64), .one (.int .i64), .agg [.int .i64, .int .i64]] avs → CallOK Try.prog 8 avs (.val (.bool true)) := ranges_all

/-! ### The row -/
open Go.ChangeShapes Go.WideShapes Go.ChangeAt
set_option maxRecDepth 100000 in
theorem rangespec_lifted (os : Os) (started : os.Started) (H : Type) (enc : TypeId × Value → H) :
    ReturnsInHanded {} Try.checked os 8 .any (Rows.cutRangesMatchSpecSpec.pre6 enc Try.prog Try.f8 Rows.cutRangesMatchSpecRow.domain false) (Rows.cutRangesMatchSpecSpec.post enc Try.prog Try.f8 false true false false) := by
  refine returnsInHanded_of_change (C := Try.checked) own_knob started (by kernel_rfl) Try.func8
    (ChangeSpec.witness6 (enc := enc) (C := Try.checked) false ⟨#[], #[.slice none 0 0, .int .i64 0, .int .i64 0, .agg #[.int .i64 0, .int .i64 0]], []⟩ 8 (by kernel_rfl) (by kernel_rfl) (by kernel_rfl) (by kernel_rfl)) ?_
  intro W base args ds gs before hval hW _ _
  refine law_step rfl (by kernel_rfl) (fun ds h => ?_) ?_ hval hW ?_
  · match ds, h with | [a, b, c, d], _ => exact ⟨rfl, rfl, rfl⟩
  · rw [Try.params8]
    intro t ht
    simp only [List.mem_cons, List.not_mem_nil, or_false] at ht
    repeat' (first | (rcases ht with rfl | ht) | subst ht)
    all_goals exact ⟨by kernel_rfl, of_decide_eq_true (by kernel_rfl)⟩
  · rw [Try.params8]
    intro hin
    exact law_dm (ss := [.one (.row [.int .i64, .int .i64, .int .i64, .int .i64, .int .i64, .int .i64, .int .i64]), .one (.int .i64), .one (.int .i64), .agg [.int .i64, .int .i64]]) (by kernel_rfl) hin rangespec_c

theorem rangespec_holds : Rows.CutRangesMatchSpecSaid :=
  OpenClaim.holds_of_wide 8 Try.f8 rfl rfl rfl rfl rfl rfl rfl ⟨rfl, rfl, rfl, rfl, rfl⟩ rfl rfl rfl rfl rfl (by kernel_rfl) Try.func8 (by kernel_rfl)
    (of_decide_eq_true (by kernel_rfl)) (by unfold Func.isWrapper; first | (rw [if_pos (by decide +kernel)]; kernel_rfl) | (rw [if_neg (by decide +kernel)]; exact ⟨rfl, rfl⟩))
    (fun os started H enc _ => rangespec_lifted os started H enc)

end Go.Proofs.Ytpkeiabifoipoaa
