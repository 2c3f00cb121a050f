/- One simple thing that play.Came does. -/
import Derived.Test.YtpecmhdepggnoaaKDo
import Derived.Test.YtpecmhdepggnoaaKNat
namespace Go.Proofs.Ytpecmhdepggnoaa
open Go.RowKit
set_option linter.unusedSimpArgs false

def flow1 : AV := .ro [[.val (.int .i64 0), .val (.int .i64 2)]]
/-! headend/play.CheckTrace -/
def r66_0 : List POp := [⟨2, .asg (.c (.int .i64 0)), none⟩]
def r66_1 : List POp := [⟨6, .mv (.t 0), none⟩,
  ⟨7, .len (.t 6), none⟩,
  ⟨8, .bin .eql (.t 7) (.c (.int .i64 0)), none⟩,
  ⟨5, .asg (.t 8), none⟩]
def r66_2 : List POp := [⟨2, .asg (.c (.int .i64 9)), none⟩]
def r66_3 : List POp := [⟨10, .mv (.t 0), none⟩,
  ⟨11, .len (.t 10), none⟩,
  ⟨12, .bin .gtr (.t 11) (.c (.int .i64 500)), none⟩,
  ⟨9, .asg (.t 12), none⟩]
def r66_4 : List POp := [⟨2, .asg (.c (.int .i64 2)), none⟩]
def r66_5 : List POp := [⟨13, .mv (.t 0), none⟩,
  ⟨14, .len (.t 13), none⟩,
  ⟨15, .mv (.c (.int .i64 0)), none⟩]
def r66_6 : List POp := [⟨16, .bin .lss (.t 15) (.t 14), none⟩]
def r66_7 : List POp := [⟨17, .mv (.t 15), none⟩,
  ⟨18, .idx 2 (.t 13) (.t 15), none⟩,
  ⟨19, .loads 2 (.t 18), none⟩,
  ⟨4, .alloc [.int .i64 0, .int .i64 0], none⟩,
  ⟨3, .asg (.t 17), none⟩,
  ⟨0, .stores 2 (.t 4) (.t 19), none⟩]
def r66_8 : List POp := [⟨21, .fld 0 (.t 4), none⟩,
  ⟨22, .load (.t 21), none⟩,
  ⟨23, .call 32 [.t 22, .c (.int .i64 0), .c (.int .i64 1000000000000)], none⟩,
  ⟨20, .asg (.t 23), none⟩]
def r66_9 : List POp := [⟨2, .asg (.c (.int .i64 1)), none⟩]
def r66_10 : List POp := [⟨25, .mv (.t 3), none⟩,
  ⟨26, .bin .eql (.t 25) (.c (.int .i64 0)), none⟩,
  ⟨27, .mv (.t 26), none⟩,
  ⟨28, .fld 0 (.t 4), some (27, true)⟩,
  ⟨29, .load (.t 28), some (27, true)⟩,
  ⟨30, .bin .neq (.t 29) (.c (.int .i64 0)), some (27, true)⟩,
  ⟨31, .pick (.t 27) (.t 30) (.c (.bool false)), none⟩,
  ⟨32, .mv (.t 31), none⟩,
  ⟨33, .mv (.t 3), some (32, false)⟩,
  ⟨34, .bin .gtr (.t 33) (.c (.int .i64 0)), some (32, false)⟩,
  ⟨35, .mv (.t 34), some (32, false)⟩,
  ⟨36, .fld 0 (.t 4), some (35, true)⟩,
  ⟨37, .load (.t 36), some (35, true)⟩,
  ⟨38, .mv (.t 0), some (35, true)⟩,
  ⟨39, .mv (.t 3), some (35, true)⟩,
  ⟨40, .bin .sub (.t 39) (.c (.int .i64 1)), some (35, true)⟩,
  ⟨41, .idx 2 (.t 38) (.t 40), some (35, true)⟩,
  ⟨42, .fld 0 (.t 41), some (35, true)⟩,
  ⟨43, .load (.t 42), some (35, true)⟩,
  ⟨44, .bin .leq (.t 37) (.t 43), some (35, true)⟩,
  ⟨45, .pick (.t 35) (.t 44) (.c (.bool false)), some (32, false)⟩,
  ⟨46, .pick (.t 32) (.c (.bool true)) (.t 45), none⟩,
  ⟨24, .asg (.t 46), none⟩]
def r66_11 : List POp := [⟨2, .asg (.c (.int .i64 8)), none⟩]
def r66_12 : List POp := [⟨48, .fld 1 (.t 4), none⟩,
  ⟨49, .load (.t 48), none⟩,
  ⟨50, .call 32 [.t 49, .c (.int .i64 0), .c (.int .i64 1000000)], none⟩,
  ⟨47, .asg (.t 50), none⟩]
def r66_13 : List POp := [⟨2, .asg (.c (.int .i64 1)), none⟩]
def r66_14 : List POp := [⟨51, .bin .add (.t 15) (.c (.int .i64 1)), none⟩,
  ⟨15, .mv (.t 51), none⟩]
def r66_15 : List POp := [⟨52, .mv (.t 0), none⟩,
  ⟨53, .mv (.t 0), none⟩,
  ⟨54, .len (.t 53), none⟩,
  ⟨55, .bin .sub (.t 54) (.c (.int .i64 1)), none⟩,
  ⟨56, .idx 2 (.t 52) (.t 55), none⟩,
  ⟨57, .fld 1 (.t 56), none⟩,
  ⟨58, .load (.t 57), none⟩,
  ⟨59, .bin .eql (.t 58) (.c (.int .i64 0)), none⟩]
def r66_16 : List POp := [⟨2, .asg (.c (.int .i64 13)), none⟩]
def r66_17 : List POp := [⟨2, .asg (.c (.int .i64 0)), none⟩]
def l66_0 : PCode := .seq (.ops r66_6) (.seq (.cond (.t 16) (.skip) (.exit 1)) (.seq (.block 2 (.seq (.ops r66_7) (.block 3 (.seq (.ops r66_8) (.cond (.t 20) (.seq (.ops r66_9) (.ret)) (.seq (.ops r66_10) (.cond (.t 24) (.seq (.ops r66_11) (.ret)) (.seq (.ops r66_12) (.cond (.t 47) (.seq (.ops r66_13) (.ret)) (.skip)))))))))) (.ops r66_14)))
def p66 : PCode := .seq (.ops r66_0) (.seq (.block 0 (.seq (.ops r66_1) (.cond (.t 5) (.seq (.ops r66_2) (.ret)) (.seq (.ops r66_3) (.cond (.t 9) (.seq (.ops r66_4) (.ret)) (.skip)))))) (.seq (.seq (.ops r66_5) (.block 1 (.loop l66_0))) (.seq (.seq (.ops r66_15) (.cond (.t 59) (.seq (.ops r66_16) (.ret)) (.skip))) (.seq (.ops r66_17) (.ret)))))
theorem ok66 : okFunc Try.prog 66 [.t 2] 1 p66 = true := by kernel_rfl
theorem trace_c : CallOK Try.prog 66 [.ro [[.val (.int .i64 0), .val (.int .i64 2)]]] (.val (.int .i64 0)) := by
  refine call_of mixed ok66 rfl ?_
  have o1 : outB 0 0 1000000000000 = false := by decide
  have o2 : outB 2 0 1000000 = false := by decide
  have w1 : IntKind.i64.wrap (0 + 1) = 1 := wrap_in (by decide) (by decide)
  have w2 : IntKind.i64.wrap (1 - 1) = 0 := wrap_in (by decide) (by decide)
  repeat' first | ((with_reducible (first | refine condD ?_ ?_ | refine condE ?_ ?_ | refine condN ?_ ?_ | refine condI ?_ ?_ | refine condS ?_ ?_)) <;> intro h) | ((with_reducible (first | refine guardD (by with_unfolding_all rfl) ?_ ?_ | refine guardE (by with_unfolding_all rfl) ?_ ?_ | refine guardN (by with_unfolding_all rfl) ?_ ?_ | refine guardI (by with_unfolding_all rfl) ?_ ?_ | refine guardS (by with_unfolding_all rfl) ?_ ?_)) <;> intro h) | (with_reducible refine And.intro ?_ ?_; omega) | (simp only [done_eq, done_eq', donet_eq, donet_eq', fin_val, fin_tup, fin_agg, fin_ro, res_one, res_more, rv_t, rv_c, rv_l, AV.tup.injEq, AV.agg.injEq, AV.ro.injEq, List.cons.injEq, int_eq, bool_eq, Int.toNat_natCast, Int.reduceToNat, Int.toNat_zero, Int.toNat_one, Int.reduceLE, Int.reduceLT, Int.reduceBEq, Int.reduceBNe, beq_self_eq_true, bne_self_eq_false, decide_true, decide_false,  Int.reduceNeg, toNat_pred, toNat_succ, List.length_map, cnd_t, cnd_f, grd_tt, grd_u, grd_tf, grd_ft, grd_ff, g_skip, g_ops, g_seq, g_block, g_exit, g_ret, x_c, x_o, x_l, x_b, g_b, g_nil, r_all, o_nil, g_cond, o_guard, o_call, o_callm, o_callt, o_callx, o_callv, lk, ef, o_mv, o_pick, o_bin, o_never, o_eqs, o_eqb, o_un, o_conv, o_load, o_loadr, o_idxr, o_loads, o_fld, o_idx, o_idxs, o_len, o_lens, o_ext, o_nilck, o_slc, o_slcs, o_build, o_minmax, o_mkfn, o_alloc, o_box, o_boxs, o_row, o_rowr, o_mk, o_asg, o_app, o_store, o_stores, o_eqnil, hv, eqAV, ev, view_t, view_c, view_nil, view_fn, look_own, look_box, look_junk, look_val, look_nilsl, look_ro, look_roAt, look_agg, look_tup, look_clo, look_alias, look_ref, look_into, rowOf, cellsOf, argv, vbin, vun, bnd, elemOf, putParts, setAt, zav, ASt.rid, ASt.free, AV.kill, AV.isHome, AV.noLoan, AV.cellOK, Value.oneCell', put_at, mk_at, mk_nil, initSt, true_and, and_true, and_self, implies_true, List.map_cons, List.map_nil, List.forall_mem_cons, List.not_mem_nil, false_implies, List.length_cons, List.length_nil, List.getD_cons_zero, List.getD_cons_succ, List.getD_nil, List.drop_succ_cons, List.drop_zero, List.take_succ_cons, List.take_zero, List.set_cons_zero, List.set_cons_succ, List.all_cons, List.all_nil, Bool.and_true, Bool.true_and, Bool.not_true, Bool.not_false, reduceCtorEq, if_true, if_false, Bool.false_eq_true, ↓reduceIte, Nat.reduceEqDiff, Nat.reduceAdd, Nat.reduceSub, Nat.reduceMul, Nat.reduceLeDiff, Nat.reduceLT, ne_eq, not_false_eq_true, not_true_eq_false, Nat.one_ne_zero, Nat.zero_ne_one, r66_0, r66_1, r66_2, r66_3, r66_4, r66_5, r66_6, r66_7, r66_8, r66_9, r66_10, r66_11, r66_12, r66_13, r66_14, r66_15, r66_16, r66_17, p66, Int.natCast_zero, Int.natCast_one, Nat.zero_add]) | (exfalso; omega)
  refine loopS (fun k : Nat => mk [(0, .ro [[.val (.int .i64 0), .val (.int .i64 2)]]), (13, .ro [[.val (.int .i64 0), .val (.int .i64 2)]]), (14, .val (.int .i64 1)), (15, .val (.int .i64 k))]) (fun k => k ≤ 1) (fun k => 1 - k) 0 (weak_mk ?_) (by omega) ?_
  · simp only [wk_cons, wk_nil, wk1, vint_eq, vbool_eq, AV.val.injEq, done_eq, done_eq', donet_eq, donet_eq', fin_val, fin_tup, fin_agg, fin_ro, res_one, res_more, rv_t, rv_c, rv_l, AV.tup.injEq, AV.agg.injEq, AV.ro.injEq, List.cons.injEq, int_eq, bool_eq, Int.toNat_natCast, Int.reduceToNat, Int.toNat_zero, Int.toNat_one, Int.reduceLE, Int.reduceLT, Int.reduceBEq, Int.reduceBNe, beq_self_eq_true, bne_self_eq_false, decide_true, decide_false,  Int.reduceNeg, toNat_pred, toNat_succ, List.length_map, cnd_t, cnd_f, grd_tt, grd_u, grd_tf, grd_ft, grd_ff, g_skip, g_ops, g_seq, g_block, g_exit, g_ret, x_c, x_o, x_l, x_b, g_b, g_nil, r_all, o_nil, g_cond, o_guard, o_call, o_callm, o_callt, o_callx, o_callv, lk, ef, o_mv, o_pick, o_bin, o_never, o_eqs, o_eqb, o_un, o_conv, o_load, o_loadr, o_idxr, o_loads, o_fld, o_idx, o_idxs, o_len, o_lens, o_ext, o_nilck, o_slc, o_slcs, o_build, o_minmax, o_mkfn, o_alloc, o_box, o_boxs, o_row, o_rowr, o_mk, o_asg, o_app, o_store, o_stores, o_eqnil, hv, eqAV, ev, view_t, view_c, view_nil, view_fn, look_own, look_box, look_junk, look_val, look_nilsl, look_ro, look_roAt, look_agg, look_tup, look_clo, look_alias, look_ref, look_into, rowOf, cellsOf, argv, vbin, vun, bnd, elemOf, putParts, setAt, zav, ASt.rid, ASt.free, AV.kill, AV.isHome, AV.noLoan, AV.cellOK, Value.oneCell', put_at, mk_at, mk_nil, initSt, true_and, and_true, and_self, implies_true, List.map_cons, List.map_nil, List.forall_mem_cons, List.not_mem_nil, false_implies, List.length_cons, List.length_nil, List.getD_cons_zero, List.getD_cons_succ, List.getD_nil, List.drop_succ_cons, List.drop_zero, List.take_succ_cons, List.take_zero, List.set_cons_zero, List.set_cons_succ, List.all_cons, List.all_nil, Bool.and_true, Bool.true_and, Bool.not_true, Bool.not_false, reduceCtorEq, if_true, if_false, Bool.false_eq_true, ↓reduceIte, Nat.reduceEqDiff, Nat.reduceAdd, Nat.reduceSub, Nat.reduceMul, Nat.reduceLeDiff, Nat.reduceLT, ne_eq, not_false_eq_true, not_true_eq_false, Nat.one_ne_zero, Nat.zero_ne_one]
    try simp
  · rintro J hJ k hk
    obtain rfl | rfl : k = 0 ∨ k = 1 := by omega
    · repeat' first | ((with_reducible (first | refine condD ?_ ?_ | refine condE ?_ ?_ | refine condN ?_ ?_ | refine condI ?_ ?_ | refine condS ?_ ?_)) <;> intro h) | ((with_reducible (first | refine guardD (by with_unfolding_all rfl) ?_ ?_ | refine guardE (by with_unfolding_all rfl) ?_ ?_ | refine guardN (by with_unfolding_all rfl) ?_ ?_ | refine guardI (by with_unfolding_all rfl) ?_ ?_ | refine guardS (by with_unfolding_all rfl) ?_ ?_)) <;> intro h) | ((refine callG (out_c _ _ _) ?_)) | (with_reducible refine And.intro ?_ ?_; omega) | (simp only [done_eq, done_eq', donet_eq, donet_eq', fin_val, fin_tup, fin_agg, fin_ro, res_one, res_more, rv_t, rv_c, rv_l, AV.tup.injEq, AV.agg.injEq, AV.ro.injEq, List.cons.injEq, int_eq, bool_eq, Int.toNat_natCast, Int.reduceToNat, Int.toNat_zero, Int.toNat_one, Int.reduceLE, Int.reduceLT, Int.reduceBEq, Int.reduceBNe, beq_self_eq_true, bne_self_eq_false, decide_true, decide_false,  Int.reduceNeg, toNat_pred, toNat_succ, List.length_map, cnd_t, cnd_f, grd_tt, grd_u, grd_tf, grd_ft, grd_ff, g_skip, g_ops, g_seq, g_block, g_exit, g_ret, x_c, x_o, x_l, x_b, g_b, g_nil, r_all, o_nil, g_cond, o_guard, o_call, o_callm, o_callt, o_callx, o_callv, lk, ef, o_mv, o_pick, o_bin, o_never, o_eqs, o_eqb, o_un, o_conv, o_load, o_loadr, o_idxr, o_loads, o_fld, o_idx, o_idxs, o_len, o_lens, o_ext, o_nilck, o_slc, o_slcs, o_build, o_minmax, o_mkfn, o_alloc, o_box, o_boxs, o_row, o_rowr, o_mk, o_asg, o_app, o_store, o_stores, o_eqnil, hv, eqAV, ev, view_t, view_c, view_nil, view_fn, look_own, look_box, look_junk, look_val, look_nilsl, look_ro, look_roAt, look_agg, look_tup, look_clo, look_alias, look_ref, look_into, rowOf, cellsOf, argv, vbin, vun, bnd, elemOf, putParts, setAt, zav, ASt.rid, ASt.free, AV.kill, AV.isHome, AV.noLoan, AV.cellOK, Value.oneCell', put_at, mk_at, mk_nil, initSt, true_and, and_true, and_self, implies_true, List.map_cons, List.map_nil, List.forall_mem_cons, List.not_mem_nil, false_implies, List.length_cons, List.length_nil, List.getD_cons_zero, List.getD_cons_succ, List.getD_nil, List.drop_succ_cons, List.drop_zero, List.take_succ_cons, List.take_zero, List.set_cons_zero, List.set_cons_succ, List.all_cons, List.all_nil, Bool.and_true, Bool.true_and, Bool.not_true, Bool.not_false, reduceCtorEq, if_true, if_false, Bool.false_eq_true, ↓reduceIte, Nat.reduceEqDiff, Nat.reduceAdd, Nat.reduceSub, Nat.reduceMul, Nat.reduceLeDiff, Nat.reduceLT, ne_eq, not_false_eq_true, not_true_eq_false, Nat.one_ne_zero, Nat.zero_ne_one, r66_0, r66_1, r66_2, r66_3, r66_4, r66_5, r66_6, r66_7, r66_8, r66_9, r66_10, r66_11, r66_12, r66_13, r66_14, r66_15, r66_16, r66_17, p66, l66_0, Int.natCast_zero, o1, o2, w1]) | (exfalso; omega)
      all_goals exact again hJ 1 (weak_mk (by simp only [wk_cons, wk_nil, wk1, vint_eq, vbool_eq, AV.val.injEq, done_eq, done_eq', donet_eq, donet_eq', fin_val, fin_tup, fin_agg, fin_ro, res_one, res_more, rv_t, rv_c, rv_l, AV.tup.injEq, AV.agg.injEq, AV.ro.injEq, List.cons.injEq, int_eq, bool_eq, Int.toNat_natCast, Int.reduceToNat, Int.toNat_zero, Int.toNat_one, Int.reduceLE, Int.reduceLT, Int.reduceBEq, Int.reduceBNe, beq_self_eq_true, bne_self_eq_false, decide_true, decide_false,  Int.reduceNeg, toNat_pred, toNat_succ, List.length_map, cnd_t, cnd_f, grd_tt, grd_u, grd_tf, grd_ft, grd_ff, g_skip, g_ops, g_seq, g_block, g_exit, g_ret, x_c, x_o, x_l, x_b, g_b, g_nil, r_all, o_nil, g_cond, o_guard, o_call, o_callm, o_callt, o_callx, o_callv, lk, ef, o_mv, o_pick, o_bin, o_never, o_eqs, o_eqb, o_un, o_conv, o_load, o_loadr, o_idxr, o_loads, o_fld, o_idx, o_idxs, o_len, o_lens, o_ext, o_nilck, o_slc, o_slcs, o_build, o_minmax, o_mkfn, o_alloc, o_box, o_boxs, o_row, o_rowr, o_mk, o_asg, o_app, o_store, o_stores, o_eqnil, hv, eqAV, ev, view_t, view_c, view_nil, view_fn, look_own, look_box, look_junk, look_val, look_nilsl, look_ro, look_roAt, look_agg, look_tup, look_clo, look_alias, look_ref, look_into, rowOf, cellsOf, argv, vbin, vun, bnd, elemOf, putParts, setAt, zav, ASt.rid, ASt.free, AV.kill, AV.isHome, AV.noLoan, AV.cellOK, Value.oneCell', put_at, mk_at, mk_nil, initSt, true_and, and_true, and_self, implies_true, List.map_cons, List.map_nil, List.forall_mem_cons, List.not_mem_nil, false_implies, List.length_cons, List.length_nil, List.getD_cons_zero, List.getD_cons_succ, List.getD_nil, List.drop_succ_cons, List.drop_zero, List.take_succ_cons, List.take_zero, List.set_cons_zero, List.set_cons_succ, List.all_cons, List.all_nil, Bool.and_true, Bool.true_and, Bool.not_true, Bool.not_false, reduceCtorEq, if_true, if_false, Bool.false_eq_true, ↓reduceIte, Nat.reduceEqDiff, Nat.reduceAdd, Nat.reduceSub, Nat.reduceMul, Nat.reduceLeDiff, Nat.reduceLT, ne_eq, not_false_eq_true, not_true_eq_false, Nat.one_ne_zero, Nat.zero_ne_one]; try rfl)) (by omega) (by omega)
    · clear hJ
      repeat' first | ((with_reducible (first | refine condD ?_ ?_ | refine condE ?_ ?_ | refine condN ?_ ?_ | refine condI ?_ ?_ | refine condS ?_ ?_)) <;> intro h) | ((with_reducible (first | refine guardD (by with_unfolding_all rfl) ?_ ?_ | refine guardE (by with_unfolding_all rfl) ?_ ?_ | refine guardN (by with_unfolding_all rfl) ?_ ?_ | refine guardI (by with_unfolding_all rfl) ?_ ?_ | refine guardS (by with_unfolding_all rfl) ?_ ?_)) <;> intro h) | ((refine callG (out_c _ _ _) ?_)) | (with_reducible refine And.intro ?_ ?_; omega) | (simp only [done_eq, done_eq', donet_eq, donet_eq', fin_val, fin_tup, fin_agg, fin_ro, res_one, res_more, rv_t, rv_c, rv_l, AV.tup.injEq, AV.agg.injEq, AV.ro.injEq, List.cons.injEq, int_eq, bool_eq, Int.toNat_natCast, Int.reduceToNat, Int.toNat_zero, Int.toNat_one, Int.reduceLE, Int.reduceLT, Int.reduceBEq, Int.reduceBNe, beq_self_eq_true, bne_self_eq_false, decide_true, decide_false,  Int.reduceNeg, toNat_pred, toNat_succ, List.length_map, cnd_t, cnd_f, grd_tt, grd_u, grd_tf, grd_ft, grd_ff, g_skip, g_ops, g_seq, g_block, g_exit, g_ret, x_c, x_o, x_l, x_b, g_b, g_nil, r_all, o_nil, g_cond, o_guard, o_call, o_callm, o_callt, o_callx, o_callv, lk, ef, o_mv, o_pick, o_bin, o_never, o_eqs, o_eqb, o_un, o_conv, o_load, o_loadr, o_idxr, o_loads, o_fld, o_idx, o_idxs, o_len, o_lens, o_ext, o_nilck, o_slc, o_slcs, o_build, o_minmax, o_mkfn, o_alloc, o_box, o_boxs, o_row, o_rowr, o_mk, o_asg, o_app, o_store, o_stores, o_eqnil, hv, eqAV, ev, view_t, view_c, view_nil, view_fn, look_own, look_box, look_junk, look_val, look_nilsl, look_ro, look_roAt, look_agg, look_tup, look_clo, look_alias, look_ref, look_into, rowOf, cellsOf, argv, vbin, vun, bnd, elemOf, putParts, setAt, zav, ASt.rid, ASt.free, AV.kill, AV.isHome, AV.noLoan, AV.cellOK, Value.oneCell', put_at, mk_at, mk_nil, initSt, true_and, and_true, and_self, implies_true, List.map_cons, List.map_nil, List.forall_mem_cons, List.not_mem_nil, false_implies, List.length_cons, List.length_nil, List.getD_cons_zero, List.getD_cons_succ, List.getD_nil, List.drop_succ_cons, List.drop_zero, List.take_succ_cons, List.take_zero, List.set_cons_zero, List.set_cons_succ, List.all_cons, List.all_nil, Bool.and_true, Bool.true_and, Bool.not_true, Bool.not_false, reduceCtorEq, if_true, if_false, Bool.false_eq_true, ↓reduceIte, Nat.reduceEqDiff, Nat.reduceAdd, Nat.reduceSub, Nat.reduceMul, Nat.reduceLeDiff, Nat.reduceLT, ne_eq, not_false_eq_true, not_true_eq_false, Nat.one_ne_zero, Nat.zero_ne_one, r66_0, r66_1, r66_2, r66_3, r66_4, r66_5, r66_6, r66_7, r66_8, r66_9, r66_10, r66_11, r66_12, r66_13, r66_14, r66_15, r66_16, r66_17, p66, l66_0, Int.natCast_one, Nat.zero_add, w2]) | (exfalso; omega)
/-! headend/play.endOf -/
def r86_0 : List POp := [⟨4, .asg (.c (.int .i64 0)), none⟩]
def r86_1 : List POp := [⟨5, .mv (.t 1), none⟩,
  ⟨6, .bin .add (.t 5) (.c (.int .i64 1)), none⟩,
  ⟨7, .mv (.t 0), none⟩,
  ⟨8, .len (.t 7), none⟩,
  ⟨9, .bin .lss (.t 6) (.t 8), none⟩]
def r86_2 : List POp := [⟨10, .mv (.t 0), none⟩,
  ⟨11, .mv (.t 1), none⟩,
  ⟨12, .bin .add (.t 11) (.c (.int .i64 1)), none⟩,
  ⟨13, .idx 2 (.t 10) (.t 12), none⟩,
  ⟨14, .fld 0 (.t 13), none⟩,
  ⟨15, .load (.t 14), none⟩,
  ⟨4, .asg (.t 15), none⟩]
def r86_3 : List POp := [⟨4, .asg (.c (.int .i64 1152921504606846976)), none⟩]
def p86 : PCode := .seq (.ops r86_0) (.seq (.seq (.ops r86_1) (.cond (.t 9) (.seq (.ops r86_2) (.ret)) (.skip))) (.seq (.ops r86_3) (.ret)))
theorem ok86 : okFunc Try.prog 86 [.t 4] 2 p86 = true := by kernel_rfl
theorem endof_c : CallOK Try.prog 86 [.ro [[.val (.int .i64 0), .val (.int .i64 2)]], .val (.int .i64 0)] (.val (.int .i64 1152921504606846976)) := by
  refine call_of mixed ok86 rfl ?_
  have w1 : IntKind.i64.wrap (0 + 1) = 1 := wrap_in (by decide) (by decide)
  repeat' first | ((with_reducible (first | refine condD ?_ ?_ | refine condE ?_ ?_ | refine condN ?_ ?_ | refine condI ?_ ?_ | refine condS ?_ ?_)) <;> intro h) | ((with_reducible (first | refine guardD (by with_unfolding_all rfl) ?_ ?_ | refine guardE (by with_unfolding_all rfl) ?_ ?_ | refine guardN (by with_unfolding_all rfl) ?_ ?_ | refine guardI (by with_unfolding_all rfl) ?_ ?_ | refine guardS (by with_unfolding_all rfl) ?_ ?_)) <;> intro h) | (with_reducible refine And.intro ?_ ?_; omega) | (simp only [done_eq, done_eq', donet_eq, donet_eq', fin_val, fin_tup, fin_agg, fin_ro, res_one, res_more, rv_t, rv_c, rv_l, AV.tup.injEq, AV.agg.injEq, AV.ro.injEq, List.cons.injEq, int_eq, bool_eq, Int.toNat_natCast, Int.reduceToNat, Int.toNat_zero, Int.toNat_one, Int.reduceLE, Int.reduceLT, Int.reduceBEq, Int.reduceBNe, beq_self_eq_true, bne_self_eq_false, decide_true, decide_false,  Int.reduceNeg, toNat_pred, toNat_succ, List.length_map, cnd_t, cnd_f, grd_tt, grd_u, grd_tf, grd_ft, grd_ff, g_skip, g_ops, g_seq, g_block, g_exit, g_ret, x_c, x_o, x_l, x_b, g_b, g_nil, r_all, o_nil, g_cond, o_guard, o_call, o_callm, o_callt, o_callx, o_callv, lk, ef, o_mv, o_pick, o_bin, o_never, o_eqs, o_eqb, o_un, o_conv, o_load, o_loadr, o_idxr, o_loads, o_fld, o_idx, o_idxs, o_len, o_lens, o_ext, o_nilck, o_slc, o_slcs, o_build, o_minmax, o_mkfn, o_alloc, o_box, o_boxs, o_row, o_rowr, o_mk, o_asg, o_app, o_store, o_stores, o_eqnil, hv, eqAV, ev, view_t, view_c, view_nil, view_fn, look_own, look_box, look_junk, look_val, look_nilsl, look_ro, look_roAt, look_agg, look_tup, look_clo, look_alias, look_ref, look_into, rowOf, cellsOf, argv, vbin, vun, bnd, elemOf, putParts, setAt, zav, ASt.rid, ASt.free, AV.kill, AV.isHome, AV.noLoan, AV.cellOK, Value.oneCell', put_at, mk_at, mk_nil, initSt, true_and, and_true, and_self, implies_true, List.map_cons, List.map_nil, List.forall_mem_cons, List.not_mem_nil, false_implies, List.length_cons, List.length_nil, List.getD_cons_zero, List.getD_cons_succ, List.getD_nil, List.drop_succ_cons, List.drop_zero, List.take_succ_cons, List.take_zero, List.set_cons_zero, List.set_cons_succ, List.all_cons, List.all_nil, Bool.and_true, Bool.true_and, Bool.not_true, Bool.not_false, reduceCtorEq, if_true, if_false, Bool.false_eq_true, ↓reduceIte, Nat.reduceEqDiff, Nat.reduceAdd, Nat.reduceSub, Nat.reduceMul, Nat.reduceLeDiff, Nat.reduceLT, ne_eq, not_false_eq_true, not_true_eq_false, Nat.one_ne_zero, Nat.zero_ne_one, r86_0, r86_1, r86_2, r86_3, p86, w1, Int.natCast_one, Nat.zero_add]) | (exfalso; omega)
/-! headend/play.came -/
def r67_0 : List POp := [⟨6, .asg (.c (.int .i64 0)), none⟩]
def r67_1 : List POp := [⟨7, .asg (.c (.int .i64 0)), none⟩]
def r67_2 : List POp := [⟨10, .mv (.t 0), none⟩,
  ⟨11, .len (.t 10), none⟩,
  ⟨12, .mv (.c (.int .i64 0)), none⟩]
def r67_3 : List POp := [⟨13, .bin .lss (.t 12) (.t 11), none⟩]
def r67_4 : List POp := [⟨14, .mv (.t 12), none⟩,
  ⟨15, .idx 2 (.t 10) (.t 12), none⟩,
  ⟨16, .loads 2 (.t 15), none⟩,
  ⟨9, .alloc [.int .i64 0, .int .i64 0], none⟩,
  ⟨8, .asg (.t 14), none⟩,
  ⟨0, .stores 2 (.t 9) (.t 16), none⟩]
def r67_5 : List POp := [⟨17, .mv (.t 7), none⟩,
  ⟨18, .fld 1 (.t 9), none⟩,
  ⟨19, .load (.t 18), none⟩,
  ⟨20, .mv (.t 2), none⟩,
  ⟨21, .mv (.t 0), none⟩,
  ⟨22, .mv (.t 8), none⟩,
  ⟨23, .call 86 [.t 21, .t 22], none⟩,
  ⟨24, .minmax false (.t 20) (.t 23), none⟩,
  ⟨25, .mv (.t 1), none⟩,
  ⟨26, .fld 0 (.t 9), none⟩,
  ⟨27, .load (.t 26), none⟩,
  ⟨28, .minmax true (.t 25) (.t 27), none⟩,
  ⟨29, .bin .sub (.t 24) (.t 28), none⟩,
  ⟨30, .minmax true (.c (.int .i64 0)) (.t 29), none⟩,
  ⟨31, .bin .mul (.t 19) (.t 30), none⟩,
  ⟨32, .bin .add (.t 17) (.t 31), none⟩,
  ⟨7, .asg (.t 32), none⟩]
def r67_6 : List POp := [⟨33, .bin .add (.t 12) (.c (.int .i64 1)), none⟩,
  ⟨12, .mv (.t 33), none⟩]
def r67_7 : List POp := [⟨34, .mv (.t 7), none⟩,
  ⟨6, .asg (.t 34), none⟩]
def l67_0 : PCode := .seq (.ops r67_3) (.seq (.cond (.t 13) (.skip) (.exit 0)) (.seq (.block 1 (.seq (.ops r67_4) (.ops r67_5))) (.ops r67_6)))
def p67 : PCode := .seq (.ops r67_0) (.seq (.ops r67_1) (.seq (.seq (.ops r67_2) (.block 0 (.loop l67_0))) (.seq (.ops r67_7) (.ret))))
theorem ok67 : okFunc Try.prog 67 [.t 6] 3 p67 = true := by kernel_rfl
theorem came1_c : CallOK Try.prog 67 [.ro [[.val (.int .i64 0), .val (.int .i64 2)]], .val (.int .i64 0), .val (.int .i64 3)] (.val (.int .i64 6)) := by
  refine call_of mixed ok67 rfl ?_
  have w1 : IntKind.i64.wrap (0 + 1) = 1 := wrap_in (by decide) (by decide)
  have w2 : IntKind.i64.wrap (3 - 0) = 3 := wrap_in (by decide) (by decide)
  have w3 : IntKind.i64.wrap (2 * 3) = 6 := wrap_in (by decide) (by decide)
  have w4 : IntKind.i64.wrap (0 + 6) = 6 := wrap_in (by decide) (by decide)
  have c1 : ¬ (1152921504606846976 : Int) < 3 := by decide
  have c2 : ¬ (0 : Int) < 0 := by decide
  have c3 : (0 : Int) < 3 := by decide
  repeat' first | ((with_reducible (first | refine condD ?_ ?_ | refine condE ?_ ?_ | refine condN ?_ ?_ | refine condI ?_ ?_ | refine condS ?_ ?_)) <;> intro h) | ((with_reducible (first | refine guardD (by with_unfolding_all rfl) ?_ ?_ | refine guardE (by with_unfolding_all rfl) ?_ ?_ | refine guardN (by with_unfolding_all rfl) ?_ ?_ | refine guardI (by with_unfolding_all rfl) ?_ ?_ | refine guardS (by with_unfolding_all rfl) ?_ ?_)) <;> intro h) | (with_reducible refine And.intro ?_ ?_; omega) | (simp only [done_eq, done_eq', donet_eq, donet_eq', fin_val, fin_tup, fin_agg, fin_ro, res_one, res_more, rv_t, rv_c, rv_l, AV.tup.injEq, AV.agg.injEq, AV.ro.injEq, List.cons.injEq, int_eq, bool_eq, Int.toNat_natCast, Int.reduceToNat, Int.toNat_zero, Int.toNat_one, Int.reduceLE, Int.reduceLT, Int.reduceBEq, Int.reduceBNe, beq_self_eq_true, bne_self_eq_false, decide_true, decide_false,  Int.reduceNeg, toNat_pred, toNat_succ, List.length_map, cnd_t, cnd_f, grd_tt, grd_u, grd_tf, grd_ft, grd_ff, g_skip, g_ops, g_seq, g_block, g_exit, g_ret, x_c, x_o, x_l, x_b, g_b, g_nil, r_all, o_nil, g_cond, o_guard, o_call, o_callm, o_callt, o_callx, o_callv, lk, ef, o_mv, o_pick, o_bin, o_never, o_eqs, o_eqb, o_un, o_conv, o_load, o_loadr, o_idxr, o_loads, o_fld, o_idx, o_idxs, o_len, o_lens, o_ext, o_nilck, o_slc, o_slcs, o_build, o_minmax, o_mkfn, o_alloc, o_box, o_boxs, o_row, o_rowr, o_mk, o_asg, o_app, o_store, o_stores, o_eqnil, hv, eqAV, ev, view_t, view_c, view_nil, view_fn, look_own, look_box, look_junk, look_val, look_nilsl, look_ro, look_roAt, look_agg, look_tup, look_clo, look_alias, look_ref, look_into, rowOf, cellsOf, argv, vbin, vun, bnd, elemOf, putParts, setAt, zav, ASt.rid, ASt.free, AV.kill, AV.isHome, AV.noLoan, AV.cellOK, Value.oneCell', put_at, mk_at, mk_nil, initSt, true_and, and_true, and_self, implies_true, List.map_cons, List.map_nil, List.forall_mem_cons, List.not_mem_nil, false_implies, List.length_cons, List.length_nil, List.getD_cons_zero, List.getD_cons_succ, List.getD_nil, List.drop_succ_cons, List.drop_zero, List.take_succ_cons, List.take_zero, List.set_cons_zero, List.set_cons_succ, List.all_cons, List.all_nil, Bool.and_true, Bool.true_and, Bool.not_true, Bool.not_false, reduceCtorEq, if_true, if_false, Bool.false_eq_true, ↓reduceIte, Nat.reduceEqDiff, Nat.reduceAdd, Nat.reduceSub, Nat.reduceMul, Nat.reduceLeDiff, Nat.reduceLT, ne_eq, not_false_eq_true, not_true_eq_false, Nat.one_ne_zero, Nat.zero_ne_one, r67_0, r67_1, r67_2, r67_3, r67_4, r67_5, r67_6, r67_7, p67, Int.natCast_zero, Int.natCast_one, Nat.zero_add]) | (exfalso; omega)
  refine loopS (fun k : Nat => mk [(0, .ro [[.val (.int .i64 0), .val (.int .i64 2)]]), (1, .val (.int .i64 0)), (2, .val (.int .i64 3)), (7, .val (.int .i64 (if k = 0 then 0 else 6))), (10, .ro [[.val (.int .i64 0), .val (.int .i64 2)]]), (11, .val (.int .i64 1)), (12, .val (.int .i64 k))]) (fun k => k ≤ 1) (fun k => 1 - k) 0 (weak_mk ?_) (by omega) ?_
  · simp only [wk_cons, wk_nil, wk1, vint_eq, vbool_eq, AV.val.injEq, done_eq, done_eq', donet_eq, donet_eq', fin_val, fin_tup, fin_agg, fin_ro, res_one, res_more, rv_t, rv_c, rv_l, AV.tup.injEq, AV.agg.injEq, AV.ro.injEq, List.cons.injEq, int_eq, bool_eq, Int.toNat_natCast, Int.reduceToNat, Int.toNat_zero, Int.toNat_one, Int.reduceLE, Int.reduceLT, Int.reduceBEq, Int.reduceBNe, beq_self_eq_true, bne_self_eq_false, decide_true, decide_false,  Int.reduceNeg, toNat_pred, toNat_succ, List.length_map, cnd_t, cnd_f, grd_tt, grd_u, grd_tf, grd_ft, grd_ff, g_skip, g_ops, g_seq, g_block, g_exit, g_ret, x_c, x_o, x_l, x_b, g_b, g_nil, r_all, o_nil, g_cond, o_guard, o_call, o_callm, o_callt, o_callx, o_callv, lk, ef, o_mv, o_pick, o_bin, o_never, o_eqs, o_eqb, o_un, o_conv, o_load, o_loadr, o_idxr, o_loads, o_fld, o_idx, o_idxs, o_len, o_lens, o_ext, o_nilck, o_slc, o_slcs, o_build, o_minmax, o_mkfn, o_alloc, o_box, o_boxs, o_row, o_rowr, o_mk, o_asg, o_app, o_store, o_stores, o_eqnil, hv, eqAV, ev, view_t, view_c, view_nil, view_fn, look_own, look_box, look_junk, look_val, look_nilsl, look_ro, look_roAt, look_agg, look_tup, look_clo, look_alias, look_ref, look_into, rowOf, cellsOf, argv, vbin, vun, bnd, elemOf, putParts, setAt, zav, ASt.rid, ASt.free, AV.kill, AV.isHome, AV.noLoan, AV.cellOK, Value.oneCell', put_at, mk_at, mk_nil, initSt, true_and, and_true, and_self, implies_true, List.map_cons, List.map_nil, List.forall_mem_cons, List.not_mem_nil, false_implies, List.length_cons, List.length_nil, List.getD_cons_zero, List.getD_cons_succ, List.getD_nil, List.drop_succ_cons, List.drop_zero, List.take_succ_cons, List.take_zero, List.set_cons_zero, List.set_cons_succ, List.all_cons, List.all_nil, Bool.and_true, Bool.true_and, Bool.not_true, Bool.not_false, reduceCtorEq, if_true, if_false, Bool.false_eq_true, ↓reduceIte, Nat.reduceEqDiff, Nat.reduceAdd, Nat.reduceSub, Nat.reduceMul, Nat.reduceLeDiff, Nat.reduceLT, ne_eq, not_false_eq_true, not_true_eq_false, Nat.one_ne_zero, Nat.zero_ne_one]
    try simp
  · rintro J hJ k hk
    obtain rfl | rfl : k = 0 ∨ k = 1 := by omega
    · repeat' first | ((with_reducible (first | refine condD ?_ ?_ | refine condE ?_ ?_ | refine condN ?_ ?_ | refine condI ?_ ?_ | refine condS ?_ ?_)) <;> intro h) | ((with_reducible (first | refine guardD (by with_unfolding_all rfl) ?_ ?_ | refine guardE (by with_unfolding_all rfl) ?_ ?_ | refine guardN (by with_unfolding_all rfl) ?_ ?_ | refine guardI (by with_unfolding_all rfl) ?_ ?_ | refine guardS (by with_unfolding_all rfl) ?_ ?_)) <;> intro h) | ((refine callG endof_c ?_)) | (with_reducible refine And.intro ?_ ?_; omega) | (simp only [done_eq, done_eq', donet_eq, donet_eq', fin_val, fin_tup, fin_agg, fin_ro, res_one, res_more, rv_t, rv_c, rv_l, AV.tup.injEq, AV.agg.injEq, AV.ro.injEq, List.cons.injEq, int_eq, bool_eq, Int.toNat_natCast, Int.reduceToNat, Int.toNat_zero, Int.toNat_one, Int.reduceLE, Int.reduceLT, Int.reduceBEq, Int.reduceBNe, beq_self_eq_true, bne_self_eq_false, decide_true, decide_false,  Int.reduceNeg, toNat_pred, toNat_succ, List.length_map, cnd_t, cnd_f, grd_tt, grd_u, grd_tf, grd_ft, grd_ff, g_skip, g_ops, g_seq, g_block, g_exit, g_ret, x_c, x_o, x_l, x_b, g_b, g_nil, r_all, o_nil, g_cond, o_guard, o_call, o_callm, o_callt, o_callx, o_callv, lk, ef, o_mv, o_pick, o_bin, o_never, o_eqs, o_eqb, o_un, o_conv, o_load, o_loadr, o_idxr, o_loads, o_fld, o_idx, o_idxs, o_len, o_lens, o_ext, o_nilck, o_slc, o_slcs, o_build, o_minmax, o_mkfn, o_alloc, o_box, o_boxs, o_row, o_rowr, o_mk, o_asg, o_app, o_store, o_stores, o_eqnil, hv, eqAV, ev, view_t, view_c, view_nil, view_fn, look_own, look_box, look_junk, look_val, look_nilsl, look_ro, look_roAt, look_agg, look_tup, look_clo, look_alias, look_ref, look_into, rowOf, cellsOf, argv, vbin, vun, bnd, elemOf, putParts, setAt, zav, ASt.rid, ASt.free, AV.kill, AV.isHome, AV.noLoan, AV.cellOK, Value.oneCell', put_at, mk_at, mk_nil, initSt, true_and, and_true, and_self, implies_true, List.map_cons, List.map_nil, List.forall_mem_cons, List.not_mem_nil, false_implies, List.length_cons, List.length_nil, List.getD_cons_zero, List.getD_cons_succ, List.getD_nil, List.drop_succ_cons, List.drop_zero, List.take_succ_cons, List.take_zero, List.set_cons_zero, List.set_cons_succ, List.all_cons, List.all_nil, Bool.and_true, Bool.true_and, Bool.not_true, Bool.not_false, reduceCtorEq, if_true, if_false, Bool.false_eq_true, ↓reduceIte, Nat.reduceEqDiff, Nat.reduceAdd, Nat.reduceSub, Nat.reduceMul, Nat.reduceLeDiff, Nat.reduceLT, ne_eq, not_false_eq_true, not_true_eq_false, Nat.one_ne_zero, Nat.zero_ne_one, r67_0, r67_1, r67_2, r67_3, r67_4, r67_5, r67_6, r67_7, p67, l67_0, Int.natCast_zero, w1, w2, w3, w4, c1, c2, c3]) | (exfalso; omega)
      all_goals exact again hJ 1 (weak_mk (by simp only [wk_cons, wk_nil, wk1, vint_eq, vbool_eq, AV.val.injEq, done_eq, done_eq', donet_eq, donet_eq', fin_val, fin_tup, fin_agg, fin_ro, res_one, res_more, rv_t, rv_c, rv_l, AV.tup.injEq, AV.agg.injEq, AV.ro.injEq, List.cons.injEq, int_eq, bool_eq, Int.toNat_natCast, Int.reduceToNat, Int.toNat_zero, Int.toNat_one, Int.reduceLE, Int.reduceLT, Int.reduceBEq, Int.reduceBNe, beq_self_eq_true, bne_self_eq_false, decide_true, decide_false,  Int.reduceNeg, toNat_pred, toNat_succ, List.length_map, cnd_t, cnd_f, grd_tt, grd_u, grd_tf, grd_ft, grd_ff, g_skip, g_ops, g_seq, g_block, g_exit, g_ret, x_c, x_o, x_l, x_b, g_b, g_nil, r_all, o_nil, g_cond, o_guard, o_call, o_callm, o_callt, o_callx, o_callv, lk, ef, o_mv, o_pick, o_bin, o_never, o_eqs, o_eqb, o_un, o_conv, o_load, o_loadr, o_idxr, o_loads, o_fld, o_idx, o_idxs, o_len, o_lens, o_ext, o_nilck, o_slc, o_slcs, o_build, o_minmax, o_mkfn, o_alloc, o_box, o_boxs, o_row, o_rowr, o_mk, o_asg, o_app, o_store, o_stores, o_eqnil, hv, eqAV, ev, view_t, view_c, view_nil, view_fn, look_own, look_box, look_junk, look_val, look_nilsl, look_ro, look_roAt, look_agg, look_tup, look_clo, look_alias, look_ref, look_into, rowOf, cellsOf, argv, vbin, vun, bnd, elemOf, putParts, setAt, zav, ASt.rid, ASt.free, AV.kill, AV.isHome, AV.noLoan, AV.cellOK, Value.oneCell', put_at, mk_at, mk_nil, initSt, true_and, and_true, and_self, implies_true, List.map_cons, List.map_nil, List.forall_mem_cons, List.not_mem_nil, false_implies, List.length_cons, List.length_nil, List.getD_cons_zero, List.getD_cons_succ, List.getD_nil, List.drop_succ_cons, List.drop_zero, List.take_succ_cons, List.take_zero, List.set_cons_zero, List.set_cons_succ, List.all_cons, List.all_nil, Bool.and_true, Bool.true_and, Bool.not_true, Bool.not_false, reduceCtorEq, if_true, if_false, Bool.false_eq_true, ↓reduceIte, Nat.reduceEqDiff, Nat.reduceAdd, Nat.reduceSub, Nat.reduceMul, Nat.reduceLeDiff, Nat.reduceLT, ne_eq, not_false_eq_true, not_true_eq_false, Nat.one_ne_zero, Nat.zero_ne_one]; try rfl)) (by omega) (by omega)
    · clear hJ
      repeat' first | ((with_reducible (first | refine condD ?_ ?_ | refine condE ?_ ?_ | refine condN ?_ ?_ | refine condI ?_ ?_ | refine condS ?_ ?_)) <;> intro h) | ((with_reducible (first | refine guardD (by with_unfolding_all rfl) ?_ ?_ | refine guardE (by with_unfolding_all rfl) ?_ ?_ | refine guardN (by with_unfolding_all rfl) ?_ ?_ | refine guardI (by with_unfolding_all rfl) ?_ ?_ | refine guardS (by with_unfolding_all rfl) ?_ ?_)) <;> intro h) | (with_reducible refine And.intro ?_ ?_; omega) | (simp only [done_eq, done_eq', donet_eq, donet_eq', fin_val, fin_tup, fin_agg, fin_ro, res_one, res_more, rv_t, rv_c, rv_l, AV.tup.injEq, AV.agg.injEq, AV.ro.injEq, List.cons.injEq, int_eq, bool_eq, Int.toNat_natCast, Int.reduceToNat, Int.toNat_zero, Int.toNat_one, Int.reduceLE, Int.reduceLT, Int.reduceBEq, Int.reduceBNe, beq_self_eq_true, bne_self_eq_false, decide_true, decide_false,  Int.reduceNeg, toNat_pred, toNat_succ, List.length_map, cnd_t, cnd_f, grd_tt, grd_u, grd_tf, grd_ft, grd_ff, g_skip, g_ops, g_seq, g_block, g_exit, g_ret, x_c, x_o, x_l, x_b, g_b, g_nil, r_all, o_nil, g_cond, o_guard, o_call, o_callm, o_callt, o_callx, o_callv, lk, ef, o_mv, o_pick, o_bin, o_never, o_eqs, o_eqb, o_un, o_conv, o_load, o_loadr, o_idxr, o_loads, o_fld, o_idx, o_idxs, o_len, o_lens, o_ext, o_nilck, o_slc, o_slcs, o_build, o_minmax, o_mkfn, o_alloc, o_box, o_boxs, o_row, o_rowr, o_mk, o_asg, o_app, o_store, o_stores, o_eqnil, hv, eqAV, ev, view_t, view_c, view_nil, view_fn, look_own, look_box, look_junk, look_val, look_nilsl, look_ro, look_roAt, look_agg, look_tup, look_clo, look_alias, look_ref, look_into, rowOf, cellsOf, argv, vbin, vun, bnd, elemOf, putParts, setAt, zav, ASt.rid, ASt.free, AV.kill, AV.isHome, AV.noLoan, AV.cellOK, Value.oneCell', put_at, mk_at, mk_nil, initSt, true_and, and_true, and_self, implies_true, List.map_cons, List.map_nil, List.forall_mem_cons, List.not_mem_nil, false_implies, List.length_cons, List.length_nil, List.getD_cons_zero, List.getD_cons_succ, List.getD_nil, List.drop_succ_cons, List.drop_zero, List.take_succ_cons, List.take_zero, List.set_cons_zero, List.set_cons_succ, List.all_cons, List.all_nil, Bool.and_true, Bool.true_and, Bool.not_true, Bool.not_false, reduceCtorEq, if_true, if_false, Bool.false_eq_true, ↓reduceIte, Nat.reduceEqDiff, Nat.reduceAdd, Nat.reduceSub, Nat.reduceMul, Nat.reduceLeDiff, Nat.reduceLT, ne_eq, not_false_eq_true, not_true_eq_false, Nat.one_ne_zero, Nat.zero_ne_one, r67_0, r67_1, r67_2, r67_3, r67_4, r67_5, r67_6, r67_7, p67, l67_0, Int.natCast_one, Nat.zero_add]) | (exfalso; omega)
/-! headend/play.Came -/
def r39_0 : List POp := [⟨6, .asg (.c (.int .i64 0)), none⟩,
  ⟨7, .asg (.c (.int .i64 0)), none⟩]
def r39_1 : List POp := [⟨9, .mv (.t 0), none⟩,
  ⟨10, .call 66 [.t 9], none⟩,
  ⟨8, .asg (.t 10), none⟩]
def r39_2 : List POp := [⟨11, .mv (.t 8), none⟩,
  ⟨12, .bin .neq (.t 11) (.c (.int .i64 0)), none⟩]
def r39_3 : List POp := [⟨13, .mv (.t 8), none⟩,
  ⟨6, .mv (.c (.int .i64 0)), none⟩,
  ⟨7, .mv (.t 13), none⟩]
def r39_4 : List POp := [⟨14, .mv (.t 1), none⟩,
  ⟨15, .bin .lss (.t 14) (.c (.int .i64 0)), none⟩,
  ⟨16, .mv (.t 15), none⟩,
  ⟨17, .mv (.t 1), some (16, false)⟩,
  ⟨18, .mv (.t 2), some (16, false)⟩,
  ⟨19, .bin .gtr (.t 17) (.t 18), some (16, false)⟩,
  ⟨20, .pick (.t 16) (.c (.bool true)) (.t 19), none⟩,
  ⟨21, .mv (.t 20), none⟩,
  ⟨22, .mv (.t 2), some (21, false)⟩,
  ⟨23, .bin .gtr (.t 22) (.c (.int .i64 2000000000000)), some (21, false)⟩,
  ⟨24, .pick (.t 21) (.c (.bool true)) (.t 23), none⟩]
def r39_5 : List POp := [⟨6, .asg (.c (.int .i64 0)), none⟩,
  ⟨7, .asg (.c (.int .i64 1)), none⟩]
def r39_6 : List POp := [⟨25, .mv (.t 0), none⟩,
  ⟨26, .mv (.t 1), none⟩,
  ⟨27, .mv (.t 2), none⟩,
  ⟨28, .call 67 [.t 25, .t 26, .t 27], none⟩,
  ⟨6, .asg (.t 28), none⟩,
  ⟨7, .asg (.c (.int .i64 0)), none⟩]
def p39 : PCode := .seq (.ops r39_0) (.seq (.seq (.ops r39_1) (.seq (.ops r39_2) (.cond (.t 12) (.seq (.ops r39_3) (.ret)) (.skip)))) (.seq (.seq (.ops r39_4) (.cond (.t 24) (.seq (.ops r39_5) (.ret)) (.skip))) (.seq (.ops r39_6) (.ret))))
theorem ok39 : okFunc Try.prog 39 [.t 6, .t 7] 3 p39 = true := by kernel_rfl
theorem came_c : CallOK Try.prog 39 [.ro [[.val (.int .i64 0), .val (.int .i64 2)]], .val (.int .i64 0), .val (.int .i64 3)] (.tup [.val (.int .i64 6), .val (.int .i64 0)]) := by
  refine call_of mixed ok39 rfl ?_
  repeat' first | ((with_reducible (first | refine condD ?_ ?_ | refine condE ?_ ?_ | refine condN ?_ ?_ | refine condI ?_ ?_ | refine condS ?_ ?_)) <;> intro h) | ((with_reducible (first | refine guardD (by with_unfolding_all rfl) ?_ ?_ | refine guardE (by with_unfolding_all rfl) ?_ ?_ | refine guardN (by with_unfolding_all rfl) ?_ ?_ | refine guardI (by with_unfolding_all rfl) ?_ ?_ | refine guardS (by with_unfolding_all rfl) ?_ ?_)) <;> intro h) | ((refine callG trace_c ?_)) | ((refine callG came1_c ?_)) | (with_reducible refine And.intro ?_ ?_; omega) | (simp only [done_eq, done_eq', donet_eq, donet_eq', fin_val, fin_tup, fin_agg, fin_ro, res_one, res_more, rv_t, rv_c, rv_l, AV.tup.injEq, AV.agg.injEq, AV.ro.injEq, List.cons.injEq, int_eq, bool_eq, Int.toNat_natCast, Int.reduceToNat, Int.toNat_zero, Int.toNat_one, Int.reduceLE, Int.reduceLT, Int.reduceBEq, Int.reduceBNe, beq_self_eq_true, bne_self_eq_false, decide_true, decide_false,  Int.reduceNeg, toNat_pred, toNat_succ, List.length_map, cnd_t, cnd_f, grd_tt, grd_u, grd_tf, grd_ft, grd_ff, g_skip, g_ops, g_seq, g_block, g_exit, g_ret, x_c, x_o, x_l, x_b, g_b, g_nil, r_all, o_nil, g_cond, o_guard, o_call, o_callm, o_callt, o_callx, o_callv, lk, ef, o_mv, o_pick, o_bin, o_never, o_eqs, o_eqb, o_un, o_conv, o_load, o_loadr, o_idxr, o_loads, o_fld, o_idx, o_idxs, o_len, o_lens, o_ext, o_nilck, o_slc, o_slcs, o_build, o_minmax, o_mkfn, o_alloc, o_box, o_boxs, o_row, o_rowr, o_mk, o_asg, o_app, o_store, o_stores, o_eqnil, hv, eqAV, ev, view_t, view_c, view_nil, view_fn, look_own, look_box, look_junk, look_val, look_nilsl, look_ro, look_roAt, look_agg, look_tup, look_clo, look_alias, look_ref, look_into, rowOf, cellsOf, argv, vbin, vun, bnd, elemOf, putParts, setAt, zav, ASt.rid, ASt.free, AV.kill, AV.isHome, AV.noLoan, AV.cellOK, Value.oneCell', put_at, mk_at, mk_nil, initSt, true_and, and_true, and_self, implies_true, List.map_cons, List.map_nil, List.forall_mem_cons, List.not_mem_nil, false_implies, List.length_cons, List.length_nil, List.getD_cons_zero, List.getD_cons_succ, List.getD_nil, List.drop_succ_cons, List.drop_zero, List.take_succ_cons, List.take_zero, List.set_cons_zero, List.set_cons_succ, List.all_cons, List.all_nil, Bool.and_true, Bool.true_and, Bool.not_true, Bool.not_false, reduceCtorEq, if_true, if_false, Bool.false_eq_true, ↓reduceIte, Nat.reduceEqDiff, Nat.reduceAdd, Nat.reduceSub, Nat.reduceMul, Nat.reduceLeDiff, Nat.reduceLT, ne_eq, not_false_eq_true, not_true_eq_false, Nat.one_ne_zero, Nat.zero_ne_one, r39_0, r39_1, r39_2, r39_3, r39_4, r39_5, r39_6, p39]) | (exfalso; omega)
/-! headend/headendtop.comes -/
def r14_0 : List POp := [⟨0, .asg (.c (.bool false)), none⟩]
def r14_1 : List POp := [⟨4, .build [.int .i64 0, .int .i64 0] [(1, 1, .c (.int .i64 2))], none⟩,
  ⟨5, .rowr 111 2 [.t 4], none⟩,
  ⟨6, .call 39 [.t 5, .c (.int .i64 0), .c (.int .i64 3)], none⟩,
  ⟨3, .mv (.t 6), none⟩,
  ⟨7, .ext 0 (.t 3), none⟩,
  ⟨8, .ext 1 (.t 3), none⟩,
  ⟨1, .mv (.t 7), none⟩,
  ⟨2, .mv (.t 8), none⟩]
def r14_2 : List POp := [⟨9, .mv (.t 2), none⟩,
  ⟨10, .bin .eql (.t 9) (.c (.int .i64 0)), none⟩,
  ⟨11, .mv (.t 10), none⟩,
  ⟨12, .mv (.t 1), some (11, true)⟩,
  ⟨13, .bin .eql (.t 12) (.c (.int .i64 6)), some (11, true)⟩,
  ⟨14, .pick (.t 11) (.t 13) (.c (.bool false)), none⟩,
  ⟨0, .asg (.t 14), none⟩]
def p14 : PCode := .seq (.ops r14_0) (.seq (.ops r14_1) (.seq (.ops r14_2) (.ret)))
theorem ok14 : okFunc Try.prog 14 [.t 0] 0 p14 = true := by kernel_rfl
theorem comes_c : CallOK Try.prog 14 [] (.val (.bool true)) := by
  refine call_of mixed ok14 rfl ?_
  repeat' first | ((with_reducible (first | refine condD ?_ ?_ | refine condE ?_ ?_ | refine condN ?_ ?_ | refine condI ?_ ?_ | refine condS ?_ ?_)) <;> intro h) | ((with_reducible (first | refine guardD (by with_unfolding_all rfl) ?_ ?_ | refine guardE (by with_unfolding_all rfl) ?_ ?_ | refine guardN (by with_unfolding_all rfl) ?_ ?_ | refine guardI (by with_unfolding_all rfl) ?_ ?_ | refine guardS (by with_unfolding_all rfl) ?_ ?_)) <;> intro h) | ((refine callG came_c ?_)) | (with_reducible refine And.intro ?_ ?_; omega) | (simp only [done_eq, done_eq', donet_eq, donet_eq', fin_val, fin_tup, fin_agg, fin_ro, res_one, res_more, rv_t, rv_c, rv_l, AV.tup.injEq, AV.agg.injEq, AV.ro.injEq, List.cons.injEq, int_eq, bool_eq, Int.toNat_natCast, Int.reduceToNat, Int.toNat_zero, Int.toNat_one, Int.reduceLE, Int.reduceLT, Int.reduceBEq, Int.reduceBNe, beq_self_eq_true, bne_self_eq_false, decide_true, decide_false,  Int.reduceNeg, toNat_pred, toNat_succ, List.length_map, cnd_t, cnd_f, grd_tt, grd_u, grd_tf, grd_ft, grd_ff, g_skip, g_ops, g_seq, g_block, g_exit, g_ret, x_c, x_o, x_l, x_b, g_b, g_nil, r_all, o_nil, g_cond, o_guard, o_call, o_callm, o_callt, o_callx, o_callv, lk, ef, o_mv, o_pick, o_bin, o_never, o_eqs, o_eqb, o_un, o_conv, o_load, o_loadr, o_idxr, o_loads, o_fld, o_idx, o_idxs, o_len, o_lens, o_ext, o_nilck, o_slc, o_slcs, o_build, o_minmax, o_mkfn, o_alloc, o_box, o_boxs, o_row, o_rowr, o_mk, o_asg, o_app, o_store, o_stores, o_eqnil, hv, eqAV, ev, view_t, view_c, view_nil, view_fn, look_own, look_box, look_junk, look_val, look_nilsl, look_ro, look_roAt, look_agg, look_tup, look_clo, look_alias, look_ref, look_into, rowOf, cellsOf, argv, vbin, vun, bnd, elemOf, putParts, setAt, zav, ASt.rid, ASt.free, AV.kill, AV.isHome, AV.noLoan, AV.cellOK, Value.oneCell', put_at, mk_at, mk_nil, initSt, true_and, and_true, and_self, implies_true, List.map_cons, List.map_nil, List.forall_mem_cons, List.not_mem_nil, false_implies, List.length_cons, List.length_nil, List.getD_cons_zero, List.getD_cons_succ, List.getD_nil, List.drop_succ_cons, List.drop_zero, List.take_succ_cons, List.take_zero, List.set_cons_zero, List.set_cons_succ, List.all_cons, List.all_nil, Bool.and_true, Bool.true_and, Bool.not_true, Bool.not_false, reduceCtorEq, if_true, if_false, Bool.false_eq_true, ↓reduceIte, Nat.reduceEqDiff, Nat.reduceAdd, Nat.reduceSub, Nat.reduceMul, Nat.reduceLeDiff, Nat.reduceLT, ne_eq, not_false_eq_true, not_true_eq_false, Nat.one_ne_zero, Nat.zero_ne_one, r14_0, r14_1, r14_2, p14]) | (exfalso; omega)
end Go.Proofs.Ytpecmhdepggnoaa
