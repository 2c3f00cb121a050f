/- TopCommonCutsAreSeekable: what is needed from the beginning of each segment of pictures on, among all renditions cut in common, lies in the segment. For every input; no condition. -/
import Derived.Test.YtpecmhdepggnoaaCommonP
import Derived.Test.YtpecmhdepggnoaaDmP
import Derived.Test.YtpecmhdepggnoaaRows
namespace Go.Proofs.Ytpecmhdepggnoaa
open Go.RowKit
set_option linter.unusedSimpArgs false

theorem all_smpC (x : List AV) (h : HasAll [.int .i64, .int .i64, .int .i64, .int .i64, .bool] x) : ∃ s : Smp, x = s.av ∧ True := by
  obtain ⟨v0, r, rfl, h0, h⟩ := all_cons h
  obtain ⟨v1, r, rfl, h1, h⟩ := all_cons h
  obtain ⟨v2, r, rfl, h2, h⟩ := all_cons h
  obtain ⟨v3, r, rfl, h3, h⟩ := all_cons h
  obtain ⟨v4, r, rfl, h4, h⟩ := all_cons h
  obtain rfl := all_nil h
  obtain ⟨n0, rfl, _⟩ := has_int h0
  obtain ⟨n1, rfl, _⟩ := has_int h1
  obtain ⟨n2, rfl, _⟩ := has_int h2
  obtain ⟨n3, rfl, _⟩ := has_int h3
  obtain ⟨n4, rfl⟩ := has_bool h4
  exact ⟨⟨n0, n1, n2, n3, n4⟩, rfl, trivial⟩
theorem all_strC (x : List AV) (h : HasAll [.str, .int .i64, .bool, .row [.int .i64, .int .i64, .int .i64, .int .i64, .bool]] x) : ∃ s : Str, x = s.av ∧ s.smps.length ≤ maxLen := by
  obtain ⟨v0, r, rfl, h0, h⟩ := all_cons h
  obtain ⟨v1, r, rfl, h1, h⟩ := all_cons h
  obtain ⟨v2, r, rfl, h2, h⟩ := all_cons h
  obtain ⟨v3, r, rfl, h3, h⟩ := all_cons h
  obtain rfl := all_nil h
  obtain ⟨n0, rfl, _⟩ := has_str h0
  obtain ⟨n1, rfl, _⟩ := has_int h1
  obtain ⟨k, rfl⟩ := has_bool h2
  obtain ⟨l, rfl, hl, _⟩ := has_row h3 all_smpC
  exact ⟨⟨n0, n1, k, l⟩, rfl, hl⟩
theorem common_dd (ts : List Str) (B : List Int) : CallOK Try.prog 5 [.ro (ts.map Str.av), .ro (B.map oneI)] (.val (.bool true)) :=
  common_d ts B all_short all_laws
theorem common_c : ∀ avs, HasArgs [.one (.row [.str, .int .i64, .bool, .row [.int .i64, .int .i64, .int .i64, .int .i64, .bool]]), .one (.row [.int .i64])] avs → CallOK Try.prog 5 avs (.val (.bool true)) := by
  intro avs h
  obtain ⟨v0, r, rfl, h0, h⟩ := args_cons h
  obtain ⟨v1, r, rfl, h1, h⟩ := args_cons h
  obtain rfl := args_nil h
  obtain ⟨n0, rfl, hl0, hb0⟩ := has_row h0 all_strC
  obtain ⟨n1, rfl, hl1, hb1⟩ := has_row h1 all_int
  exact common_dd n0 n1

/-! ### The row -/
open Go.ChangeShapes Go.WideShapes Go.ChangeAt
set_option maxRecDepth 100000 in
theorem common_lifted (os : Os) (started : os.Started) (H : Type) (enc : TypeId × Value → H) :
    ReturnsInHanded {} Try.checked os 5 .any (Rows.topCommonCutsAreSeekableSpec.pre6 enc Try.prog Try.f5 Rows.topCommonCutsAreSeekableRow.domain false) (Rows.topCommonCutsAreSeekableSpec.post enc Try.prog Try.f5 false true false false) := by
  refine returnsInHanded_of_change (C := Try.checked) own_knob started (by kernel_rfl) Try.func5
    (ChangeSpec.witness6 (enc := enc) (C := Try.checked) false ⟨#[], #[.slice none 0 0, .slice none 0 0], []⟩ 8 (by kernel_rfl) (by kernel_rfl) (by kernel_rfl) (by kernel_rfl)) ?_
  intro W base args ds gs before hval hW _ _
  refine law_step rfl (by kernel_rfl) (fun ds h => ?_) ?_ hval hW ?_
  · match ds, h with | [a, b], _ => exact ⟨rfl, rfl, rfl⟩
  · rw [Try.params5]
    intro t ht
    simp only [List.mem_cons, List.not_mem_nil, or_false] at ht
    repeat' (first | (rcases ht with rfl | ht) | subst ht)
    all_goals exact ⟨by kernel_rfl, of_decide_eq_true (by kernel_rfl)⟩
  · rw [Try.params5]
    intro hin
    exact law_dm (ss := [.one (.row [.str, .int .i64, .bool, .row [.int .i64, .int .i64, .int .i64, .int .i64, .bool]]), .one (.row [.int .i64])]) (by kernel_rfl) hin common_c

theorem common_holds : Rows.TopCommonCutsAreSeekableSaid :=
  OpenClaim.holds_of_wide 5 Try.f5 rfl rfl rfl rfl rfl rfl rfl ⟨rfl, rfl, rfl, rfl, rfl⟩ rfl rfl rfl rfl rfl (by kernel_rfl) Try.func5 (by kernel_rfl)
    (of_decide_eq_true (by kernel_rfl)) (by unfold Func.isWrapper; first | (rw [if_pos (by decide +kernel)]; kernel_rfl) | (rw [if_neg (by decide +kernel)]; exact ⟨rfl, rfl⟩))
    (fun os started H enc _ => common_lifted os started H enc)

end Go.Proofs.Ytpecmhdepggnoaa
