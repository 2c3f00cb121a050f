/- TopLiveClientsMissNothing: in whatever way a live list goes on, and whenever it is loaded, lists follow those before them; and the numbers from the first one that a client got on, below Next, are played once, still in its queue, or lost. For every input; no condition. -/
import Derived.Test.YtpecmhdepggnoaaKLvV
import Derived.Test.YtpecmhdepggnoaaDmZ
import Derived.Test.YtpecmhdepggnoaaRows
namespace Go.Proofs.Ytpecmhdepggnoaa
open Go.RowKit
set_option linter.unusedSimpArgs false

theorem all_ent {x : List AV} (h : HasAllZ [.str, .int .i64, .bool, .int .i64, .str, .bool, .row [.str]] x) : ∃ e : LE, x = e.av ∧ e.ok ∧ e.extra.length * 16 ≤ 140737488355328 := by
  obtain ⟨a1, _, rfl, h1, h⟩ := allz_cons h
  obtain ⟨a2, _, rfl, h2, h⟩ := allz_cons h
  obtain ⟨a3, _, rfl, h3, h⟩ := allz_cons h
  obtain ⟨a4, _, rfl, h4, h⟩ := allz_cons h
  obtain ⟨a5, _, rfl, h5, h⟩ := allz_cons h
  obtain ⟨a6, _, rfl, h6, h⟩ := allz_cons h
  obtain ⟨a7, _, rfl, h7, h⟩ := allz_cons h
  obtain rfl := allz_nil h
  obtain ⟨u, rfl, _⟩ := hasz_str h1
  obtain ⟨m, rfl, _⟩ := hasz_int h2
  obtain ⟨b, rfl⟩ := hasz_bool h3
  obtain ⟨d, rfl, _⟩ := hasz_int h4
  obtain ⟨k, rfl, _⟩ := hasz_str h5
  obtain ⟨g, rfl⟩ := hasz_bool h6
  obtain ⟨ex, rfl, hl, hx⟩ := hasz_row (f := oneS) (p := fun s => s.size ≤ maxLen) h7 fun y hy => by
    obtain ⟨s1, _, rfl, g1, hy⟩ := allz_cons hy
    obtain rfl := allz_nil hy
    obtain ⟨s, rfl, hs⟩ := hasz_str g1
    exact ⟨s, rfl, hs⟩
  have hr : reachBytes = 140737488351232 := by decide
  rw [hr] at hl
  exact ⟨⟨u, m, b, d, k, g, ex⟩, rfl, ⟨(by omega : ex.length ≤ 9000000000000000000), fun y hy => hx y hy⟩, (by omega : ex.length * 16 ≤ 140737488355328)⟩
theorem all_chg {x : List AV} (h : HasAllZ [.str, .int .i64, .bool, .int .i64, .str, .bool, .row [.str], .bool, .int .i64] x) : ∃ c : Chg, x = c.av ∧ c.ent.ok ∧ c.ent.extra.length * 16 ≤ 140737488355328 := by
  obtain ⟨a1, _, rfl, h1, h⟩ := allz_cons h
  obtain ⟨a2, _, rfl, h2, h⟩ := allz_cons h
  obtain ⟨a3, _, rfl, h3, h⟩ := allz_cons h
  obtain ⟨a4, _, rfl, h4, h⟩ := allz_cons h
  obtain ⟨a5, _, rfl, h5, h⟩ := allz_cons h
  obtain ⟨a6, _, rfl, h6, h⟩ := allz_cons h
  obtain ⟨a7, _, rfl, h7, h⟩ := allz_cons h
  obtain ⟨a8, _, rfl, h8, h⟩ := allz_cons h
  obtain ⟨a9, _, rfl, h9, h⟩ := allz_cons h
  obtain rfl := allz_nil h
  obtain ⟨e, he, ho, hx⟩ := all_ent (.cons h1 (.cons h2 (.cons h3 (.cons h4 (.cons h5 (.cons h6 (.cons h7 .nil)))))))
  obtain ⟨b, rfl⟩ := hasz_bool h8
  obtain ⟨k, rfl, _⟩ := hasz_int h9
  simp only [LE.av, List.cons.injEq, and_true] at he
  obtain ⟨rfl, rfl, rfl, rfl, rfl, rfl, rfl⟩ := he
  exact ⟨⟨e, b, k⟩, rfl, ho, hx⟩
theorem all_list {x : List AV} (h : HasAllZ [.int .i64, .int .i64, .int .i64, .row [.str, .int .i64, .bool, .int .i64, .str, .bool, .row [.str]], .bool] x) : ∃ l : PL, x = l.av ∧ l.ok := by
  obtain ⟨a1, _, rfl, h1, h⟩ := allz_cons h
  obtain ⟨a2, _, rfl, h2, h⟩ := allz_cons h
  obtain ⟨a3, _, rfl, h3, h⟩ := allz_cons h
  obtain ⟨a4, _, rfl, h4, h⟩ := allz_cons h
  obtain ⟨a5, _, rfl, h5, h⟩ := allz_cons h
  obtain rfl := allz_nil h
  obtain ⟨t, rfl, _⟩ := hasz_int h1
  obtain ⟨f, rfl, _⟩ := hasz_int h2
  obtain ⟨b, rfl, _⟩ := hasz_int h3
  obtain ⟨en, rfl, hl, hx⟩ := hasz_row (f := LE.av) (p := LE.ok) h4 fun y hy => by
    obtain ⟨e, he, ho, _⟩ := all_ent hy
    exact ⟨e, he, ho⟩
  obtain ⟨d, rfl⟩ := hasz_bool h5
  have hr : reachBytes = 140737488351232 := by decide
  rw [hr] at hl
  exact ⟨⟨t, f, b, en, d⟩, rfl, (by omega : en.length ≤ 9000000000000000000), hx⟩
theorem livemiss_c : ∀ avs, HasArgsZ [.agg [.int .i64, .int .i64, .int .i64, .row [.str, .int .i64, .bool, .int .i64, .str, .bool, .row [.str]], .bool], .one (.row [.str, .int .i64, .bool, .int .i64, .str, .bool, .row [.str], .bool, .int .i64]), .one (.int .i64)] avs → CallOK Try.prog 3 avs (.val (.bool true)) := by
  intro avs h
  obtain ⟨v0, r, rfl, h0, h⟩ := argsz_cons h
  obtain ⟨v1, r, rfl, h1, h⟩ := argsz_cons h
  obtain ⟨v2, r, rfl, h2, h⟩ := argsz_cons h
  obtain rfl := argsz_nil h
  obtain ⟨x0, rfl, h0⟩ := h0
  obtain ⟨l, rfl, hl⟩ := all_list h0
  obtain ⟨ch, rfl, hc1, hc2⟩ := hasz_row (f := Chg.av) (p := fun c => c.ent.ok ∧ c.ent.extra.length * 16 ≤ 140737488355328) h1 fun y hy => all_chg hy
  obtain ⟨n, rfl, _⟩ := hasz_int h2
  have hr : reachBytes = 140737488351232 := by decide
  rw [hr] at hc1
  exact live_d l ch n hl hc2 (by omega)

/-! ### The row -/
open Go.ChangeShapes Go.WideShapes Go.ChangeAt
set_option maxRecDepth 100000 in
theorem livemiss_lifted (os : Os) (started : os.Started) (H : Type) (enc : TypeId × Value → H) :
    ReturnsInHanded {} Try.checked os 3 .any (Rows.topLiveClientsMissNothingSpec.pre6 enc Try.prog Try.f3 Rows.topLiveClientsMissNothingRow.domain false) (Rows.topLiveClientsMissNothingSpec.post enc Try.prog Try.f3 false true false false) := by
  refine returnsInHanded_of_change_sized (C := Try.checked) own_knob started (by kernel_rfl) Try.func3
    (ChangeSpec.witness6 (enc := enc) (C := Try.checked) false ⟨#[], #[.agg #[.int .i64 0, .int .i64 0, .int .i64 0, .slice none 0 0, .bool false], .slice none 0 0, .int .i64 0], []⟩ 8 (by kernel_rfl) (by kernel_rfl) (by kernel_rfl) (by kernel_rfl)) ?_
  intro W base args ds gs before hval hW _ hz _
  refine law_step rfl (by kernel_rfl) (fun ds h => ?_) ?_ hval hW ?_
  · match ds, h with | [a, b, c], _ => exact ⟨rfl, rfl, rfl⟩
  · rw [Try.params3]
    intro t ht
    simp only [List.mem_cons, List.not_mem_nil, or_false] at ht
    repeat' (first | (rcases ht with rfl | ht) | subst ht)
    all_goals exact ⟨by kernel_rfl, of_decide_eq_true (by kernel_rfl)⟩
  · intro hin
    exact law_dmz (P := Try.prog) rfl (ss := [.agg [.int .i64, .int .i64, .int .i64, .row [.str, .int .i64, .bool, .int .i64, .str, .bool, .row [.str]], .bool], .one (.row [.str, .int .i64, .bool, .int .i64, .str, .bool, .row [.str], .bool, .int .i64]), .one (.int .i64)]) (by kernel_rfl) (argsz_of hW hz hin.1) livemiss_c

theorem livemiss_holds : Rows.TopLiveClientsMissNothingSaid :=
  OpenClaim.holds_of_wide 3 Try.f3 rfl rfl rfl rfl rfl rfl rfl ⟨rfl, rfl, rfl, rfl, rfl⟩ rfl rfl rfl rfl rfl (by kernel_rfl) Try.func3 (by kernel_rfl)
    (of_decide_eq_true (by kernel_rfl)) (by unfold Func.isWrapper; first | (rw [if_pos (by decide +kernel)]; kernel_rfl) | (rw [if_neg (by decide +kernel)]; exact ⟨rfl, rfl⟩))
    (fun os started H enc _ => livemiss_lifted os started H enc)

end Go.Proofs.Ytpecmhdepggnoaa
