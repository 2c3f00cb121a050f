/- SampleTightsMatchSpec: Tight and Straight are as specified, with all errors. For every input; no condition. -/
import Derived.Test.YtkklgckmdnejfaaKRefStr
import Derived.Test.YtkklgckmdnejfaaRows
namespace Go.Proofs.Ytkklgckmdnejfaa
open Go.RowKit
set_option linter.unusedSimpArgs false

theorem smp0_len {l : List Smp} (h : smpF l = 0) : l.length ≤ 5000 := (smpF_0 h).1
theorem tightF_len (l : List Smp) : (tightF l).1.length ≤ 5000 := by
  unfold tightF
  split
  · simp
  · split
    · simp
    · split
      · simp
      · rename_i h; exact smp0_len (by simpa using h)
theorem strF_len (l : List Smp) (step slack : Int) : (strF l step slack).1.length ≤ 5000 := by
  unfold strF
  split
  · simp
  · split
    · simp
    · split
      · simp
      · simp only
        split
        · rename_i h; exact smp0_len h
        · simp
/-! headend/headendlaw3.SampleTightsMatchSpec -/
def r4_0 : List POp := [⟨6, .asg (.c (.bool false)), none⟩]
def r4_1 : List POp := [⟨18, .mv (.t 0), none⟩,
  ⟨19, .call 17 [.t 18], none⟩,
  ⟨17, .mv (.t 19), none⟩,
  ⟨20, .ext 0 (.t 17), none⟩,
  ⟨21, .ext 1 (.t 17), none⟩,
  ⟨22, .ext 2 (.t 17), none⟩,
  ⟨7, .asg (.t 20), none⟩,
  ⟨8, .mv (.t 21), none⟩,
  ⟨9, .mv (.t 22), none⟩]
def r4_2 : List POp := [⟨24, .mv (.t 0), none⟩,
  ⟨25, .call 18 [.t 24], none⟩,
  ⟨23, .mv (.t 25), none⟩,
  ⟨26, .ext 0 (.t 23), none⟩,
  ⟨27, .ext 1 (.t 23), none⟩,
  ⟨28, .ext 2 (.t 23), none⟩,
  ⟨10, .asg (.t 26), none⟩,
  ⟨11, .mv (.t 27), none⟩,
  ⟨12, .mv (.t 28), none⟩]
def r4_3 : List POp := [⟨30, .mv (.t 0), none⟩,
  ⟨31, .mv (.t 1), none⟩,
  ⟨32, .mv (.t 2), none⟩,
  ⟨33, .call 19 [.t 30, .t 31, .t 32], none⟩,
  ⟨29, .mv (.t 33), none⟩,
  ⟨34, .ext 0 (.t 29), none⟩,
  ⟨35, .ext 1 (.t 29), none⟩,
  ⟨13, .asg (.t 34), none⟩,
  ⟨14, .mv (.t 35), none⟩]
def r4_4 : List POp := [⟨37, .mv (.t 0), none⟩,
  ⟨38, .mv (.t 1), none⟩,
  ⟨39, .mv (.t 2), none⟩,
  ⟨40, .call 20 [.t 37, .t 38, .t 39], none⟩,
  ⟨36, .mv (.t 40), none⟩,
  ⟨41, .ext 0 (.t 36), none⟩,
  ⟨42, .ext 1 (.t 36), none⟩,
  ⟨15, .asg (.t 41), none⟩,
  ⟨16, .mv (.t 42), none⟩]
def r4_5 : List POp := [⟨43, .mv (.t 7), none⟩,
  ⟨44, .mv (.t 10), none⟩,
  ⟨45, .call 21 [.t 43, .t 44], none⟩,
  ⟨46, .mv (.t 45), none⟩,
  ⟨47, .mv (.t 8), some (46, true)⟩,
  ⟨48, .mv (.t 11), some (46, true)⟩,
  ⟨49, .bin .eql (.t 47) (.t 48), some (46, true)⟩,
  ⟨50, .pick (.t 46) (.t 49) (.c (.bool false)), none⟩,
  ⟨51, .mv (.t 50), none⟩,
  ⟨52, .mv (.t 9), some (51, true)⟩,
  ⟨53, .mv (.t 12), some (51, true)⟩,
  ⟨54, .bin .eql (.t 52) (.t 53), some (51, true)⟩,
  ⟨55, .pick (.t 51) (.t 54) (.c (.bool false)), none⟩,
  ⟨56, .mv (.t 55), none⟩,
  ⟨57, .mv (.t 13), some (56, true)⟩,
  ⟨58, .mv (.t 15), some (56, true)⟩,
  ⟨59, .call 21 [.t 57, .t 58], some (56, true)⟩,
  ⟨60, .pick (.t 56) (.t 59) (.c (.bool false)), none⟩,
  ⟨61, .mv (.t 60), none⟩,
  ⟨62, .mv (.t 14), some (61, true)⟩,
  ⟨63, .mv (.t 16), some (61, true)⟩,
  ⟨64, .bin .eql (.t 62) (.t 63), some (61, true)⟩,
  ⟨65, .pick (.t 61) (.t 64) (.c (.bool false)), none⟩,
  ⟨66, .mv (.t 65), none⟩,
  ⟨67, .call 16 [], some (66, true)⟩,
  ⟨68, .pick (.t 66) (.t 67) (.c (.bool false)), none⟩,
  ⟨6, .asg (.t 68), none⟩]
def p4 : PCode := .seq (.ops r4_0) (.seq (.ops r4_1) (.seq (.ops r4_2) (.seq (.ops r4_3) (.seq (.ops r4_4) (.seq (.ops r4_5) (.ret))))))
theorem ok4 : okFunc Try.prog 4 [.t 6] 3 p4 = true := by kernel_rfl
theorem tightspec_d (l : List Smp) (step slack : Int) : CallOK Try.prog 4 [.ro (l.map Smp.av), .val (.int .i64 step), .val (.int .i64 slack)] (.val (.bool true)) := by
  refine call_of mixed ok4 rfl ?_
  have h1 := tightF_len l
  have h2 := strF_len l step slack
  repeat' first | (with_reducible refine condD (fun h => ?_) (fun h => ?_)) | (with_reducible refine condE (fun h => ?_) (fun h => ?_)) | (with_reducible refine condN (fun h => ?_) (fun h => ?_)) | (with_reducible refine condI (fun h => ?_) (fun h => ?_)) | (with_reducible refine condS (fun h => ?_) (fun h => ?_)) | (with_reducible refine guardD (by with_unfolding_all rfl) (fun h => ?_) (fun h => ?_)) | (with_reducible refine guardE (by with_unfolding_all rfl) (fun h => ?_) (fun h => ?_)) | (with_reducible refine guardN (by with_unfolding_all rfl) (fun h => ?_) (fun h => ?_)) | (with_reducible refine guardI (by with_unfolding_all rfl) (fun h => ?_) (fun h => ?_)) | (with_reducible refine guardS (by with_unfolding_all rfl) (fun h => ?_) (fun h => ?_)) | ((refine callG (tight_c _) ?_)) | ((refine callG (reftight_c _) ?_)) | ((refine callG (straight_c _ _ _) ?_)) | ((refine callG (refstraight_c _ _ _) ?_)) | ((refine callG (eqs_c _ (by omega)) ?_)) | ((refine callG awake3_c ?_)) | (with_reducible refine And.intro ?_ ?_; omega) | (simp only [done_eq, done_eq', fin_val, fin_tup, fin_agg, fin_ro, res_one, res_more, rv_t, rv_c, rv_l, AV.tup.injEq, AV.agg.injEq, AV.ro.injEq, List.cons.injEq, int_eq, bool_eq, Int.toNat_natCast, Int.reduceToNat, Int.toNat_zero, Int.toNat_one, Int.reduceLE, Int.reduceLT, Int.reduceBEq, Int.reduceBNe, beq_self_eq_true, bne_self_eq_false, decide_true, decide_false,  Int.reduceNeg, toNat_pred, toNat_succ, List.length_map, cnd_t, cnd_f, grd_tt, grd_u, grd_tf, grd_ft, grd_ff, g_skip, g_ops, g_seq, g_block, g_exit, g_ret, x_c, x_o, x_l, x_b, g_b, g_nil, r_all, o_nil, g_cond, o_guard, o_call, o_callm, o_callv, lk, ef, o_mv, o_pick, o_bin, o_never, o_eqs, o_eqb, o_un, o_conv, o_load, o_loadr, o_idxr, o_loads, o_fld, o_idx, o_idxs, o_len, o_lens, o_ext, o_nilck, o_slc, o_slcs, o_build, o_minmax, o_mkfn, o_alloc, o_box, o_boxs, o_row, o_rowr, o_mk, o_asg, o_app, o_store, o_stores, o_eqnil, hv, eqAV, ev, view_t, view_c, view_nil, view_fn, look_own, look_box, look_junk, look_val, look_nilsl, look_ro, look_roAt, look_agg, look_tup, look_clo, look_alias, look_ref, look_into, rowOf, cellsOf, argv, vbin, vun, bnd, elemOf, putParts, setAt, zav, ASt.rid, ASt.free, AV.kill, AV.isHome, AV.noLoan, AV.cellOK, Value.oneCell', put_at, mk_at, mk_nil, initSt, true_and, and_true, and_self, implies_true, List.map_cons, List.map_nil, List.forall_mem_cons, List.not_mem_nil, false_implies, List.length_cons, List.length_nil, List.getD_cons_zero, List.getD_cons_succ, List.getD_nil, List.drop_succ_cons, List.drop_zero, List.take_succ_cons, List.take_zero, List.set_cons_zero, List.set_cons_succ, List.all_cons, List.all_nil, Bool.and_true, Bool.true_and, Bool.not_true, Bool.not_false, reduceCtorEq, if_true, if_false, Bool.false_eq_true, ↓reduceIte, Nat.reduceEqDiff, Nat.reduceAdd, Nat.reduceSub, Nat.reduceMul, Nat.reduceLeDiff, Nat.reduceLT, ne_eq, not_false_eq_true, not_true_eq_false, Nat.one_ne_zero, Nat.zero_ne_one, r4_0, r4_1, r4_2, r4_3, r4_4, r4_5, p4]) | (exfalso; omega)
theorem tightspec_c : ∀ avs, HasArgs [.one (.row [.int .i64, .int .i64, .int .i64, .int .i64, .bool]), .one (.int .i64), .one (.int .i64)] avs → CallOK Try.prog 4 avs (.val (.bool true)) := by
  intro avs h
  obtain ⟨v0, r, rfl, h0, h⟩ := args_cons h
  obtain ⟨v1, r, rfl, h1, h⟩ := args_cons h
  obtain ⟨v2, r, rfl, h2, h⟩ := args_cons h
  obtain rfl := args_nil h
  obtain ⟨n0, rfl, hl0, hb0⟩ := has_row h0 all_smp
  obtain ⟨n1, rfl, hb1⟩ := has_int h1
  obtain ⟨n2, rfl, hb2⟩ := has_int h2
  exact tightspec_d n0 n1 n2

/-! ### The row -/
open Go.ChangeShapes Go.WideShapes Go.ChangeAt
set_option maxRecDepth 100000 in
theorem tightspec_lifted (os : Os) (started : os.Started) (H : Type) (enc : TypeId × Value → H) :
    ReturnsInHanded {} Try.checked os 4 .any (Rows.sampleTightsMatchSpecSpec.pre6 enc Try.prog Try.f4 Rows.sampleTightsMatchSpecRow.domain false) (Rows.sampleTightsMatchSpecSpec.post enc Try.prog Try.f4 false true false false) := by
  refine returnsInHanded_of_change (C := Try.checked) own_knob started (by kernel_rfl) Try.func4
    (ChangeSpec.witness6 (enc := enc) (C := Try.checked) false ⟨#[], #[.slice none 0 0, .int .i64 0, .int .i64 0], []⟩ 8 (by kernel_rfl) (by kernel_rfl) (by kernel_rfl) (by kernel_rfl)) ?_
  intro W base args ds gs before hval hW _ _
  refine law_step rfl (by kernel_rfl) (fun ds h => ?_) ?_ hval hW ?_
  · match ds, h with | [a, b, c], _ => exact ⟨rfl, rfl, rfl⟩
  · rw [Try.params4]
    intro t ht
    simp only [List.mem_cons, List.not_mem_nil, or_false] at ht
    repeat' (first | (rcases ht with rfl | ht) | subst ht)
    all_goals exact ⟨by kernel_rfl, of_decide_eq_true (by kernel_rfl)⟩
  · rw [Try.params4]
    intro hin
    exact law_dm (ss := [.one (.row [.int .i64, .int .i64, .int .i64, .int .i64, .bool]), .one (.int .i64), .one (.int .i64)]) (by kernel_rfl) hin tightspec_c

theorem tightspec_holds : Rows.SampleTightsMatchSpecSaid :=
  OpenClaim.holds_of_wide 4 Try.f4 rfl rfl rfl rfl rfl rfl rfl ⟨rfl, rfl, rfl, rfl, rfl⟩ rfl rfl rfl rfl rfl (by kernel_rfl) Try.func4 (by kernel_rfl)
    (of_decide_eq_true (by kernel_rfl)) (by unfold Func.isWrapper; first | (rw [if_pos (by decide +kernel)]; kernel_rfl) | (rw [if_neg (by decide +kernel)]; exact ⟨rfl, rfl⟩))
    (fun os started H enc _ => tightspec_lifted os started H enc)

end Go.Proofs.Ytkklgckmdnejfaa
