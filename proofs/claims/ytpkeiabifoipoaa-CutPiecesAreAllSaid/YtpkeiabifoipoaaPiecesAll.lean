/- CutPiecesAreAll: the parts of a segment have all its samples, each once, and one that is longer than the target has one sample. For every input; no condition. -/
import Derived.Test.YtpkeiabifoipoaaKPieceL
import Derived.Test.YtpkeiabifoipoaaRows
namespace Go.Proofs.Ytpkeiabifoipoaa
open Go.RowKit
set_option linter.unusedSimpArgs false

theorem piecesall_c : ∀ avs, HasArgs [.agg [.str, .int .i64, .bool, .row [.int .i64, .int .i64, .int .i64, .int .i64, .bool]], .agg [.int .i64, .int .i64, .int .i64, .int .i64, .int .i64, .int .i64, .int .i64], .one (.int .i64)] avs → CallOK Try.prog 6 avs (.val (.bool true)) := pieceslaw_all

/-! ### The row -/
open Go.ChangeShapes Go.WideShapes Go.ChangeAt
set_option maxRecDepth 100000 in
theorem piecesall_lifted (os : Os) (started : os.Started) (H : Type) (enc : TypeId × Value → H) :
    ReturnsInHanded {} Try.checked os 6 .any (Rows.cutPiecesAreAllSpec.pre6 enc Try.prog Try.f6 Rows.cutPiecesAreAllRow.domain false) (Rows.cutPiecesAreAllSpec.post enc Try.prog Try.f6 false true false false) := by
  refine returnsInHanded_of_change (C := Try.checked) own_knob started (by kernel_rfl) Try.func6
    (ChangeSpec.witness6 (enc := enc) (C := Try.checked) false ⟨#[], #[.agg #[.string ⟨#[]⟩, .int .i64 0, .bool false, .slice none 0 0], .agg #[.int .i64 0, .int .i64 0, .int .i64 0, .int .i64 0, .int .i64 0, .int .i64 0, .int .i64 0], .int .i64 0], []⟩ 8 (by kernel_rfl) (by kernel_rfl) (by kernel_rfl) (by kernel_rfl)) ?_
  intro W base args ds gs before hval hW _ _
  refine law_step rfl (by kernel_rfl) (fun ds h => ?_) ?_ hval hW ?_
  · match ds, h with | [a, b, c], _ => exact ⟨rfl, rfl, rfl⟩
  · rw [Try.params6]
    intro t ht
    simp only [List.mem_cons, List.not_mem_nil, or_false] at ht
    repeat' (first | (rcases ht with rfl | ht) | subst ht)
    all_goals exact ⟨by kernel_rfl, of_decide_eq_true (by kernel_rfl)⟩
  · rw [Try.params6]
    intro hin
    exact law_dm (ss := [.agg [.str, .int .i64, .bool, .row [.int .i64, .int .i64, .int .i64, .int .i64, .bool]], .agg [.int .i64, .int .i64, .int .i64, .int .i64, .int .i64, .int .i64, .int .i64], .one (.int .i64)]) (by kernel_rfl) hin piecesall_c

theorem piecesall_holds : Rows.CutPiecesAreAllSaid :=
  OpenClaim.holds_of_wide 6 Try.f6 rfl rfl rfl rfl rfl rfl rfl ⟨rfl, rfl, rfl, rfl, rfl⟩ rfl rfl rfl rfl rfl (by kernel_rfl) Try.func6 (by kernel_rfl)
    (of_decide_eq_true (by kernel_rfl)) (by unfold Func.isWrapper; first | (rw [if_pos (by decide +kernel)]; kernel_rfl) | (rw [if_neg (by decide +kernel)]; exact ⟨rfl, rfl⟩))
    (fun os started H enc _ => piecesall_lifted os started H enc)

end Go.Proofs.Ytpkeiabifoipoaa
