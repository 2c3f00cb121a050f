/- Times: tick.noWay, Convert, by the machine on data; the house awake. -/
import Derived.Test.YtpecmhdepggnoaaKScl
import Derived.Test.YtpecmhdepggnoaaKBd
namespace Go.Proofs.Ytpecmhdepggnoaa
open Go.RowKit
set_option linter.unusedSimpArgs false

/-! headend/tick.noWay -/
def r60_0 : List POp := [⟨2, .asg (.c (.bool false)), none⟩]
def r60_1 : List POp := [⟨3, .mv (.t 0), none⟩,
  ⟨4, .call 32 [.t 3, .c (.int .i64 1), .c (.int .i64 3)], none⟩,
  ⟨2, .asg (.t 4), none⟩]
def p60 : PCode := .seq (.ops r60_0) (.seq (.ops r60_1) (.ret))
theorem ok60 : okFunc Try.prog 60 [.t 2] 1 p60 = true := by kernel_rfl
theorem noway_c (n : Int) : CallOK Try.prog 60 [.val (.int .i64 n)] (.val (.bool (outB n 1 3))) := by
  refine call_of mixed ok60 rfl ?_
  repeat' first | ((with_reducible (first | refine condD ?_ ?_ | refine condE ?_ ?_ | refine condN ?_ ?_ | refine condI ?_ ?_ | refine condS ?_ ?_)) <;> intro h) | ((with_reducible (first | refine guardD (by with_unfolding_all rfl) ?_ ?_ | refine guardE (by with_unfolding_all rfl) ?_ ?_ | refine guardN (by with_unfolding_all rfl) ?_ ?_ | refine guardI (by with_unfolding_all rfl) ?_ ?_ | refine guardS (by with_unfolding_all rfl) ?_ ?_)) <;> intro h) | ((refine callG (out_c _ _ _) ?_)) | (with_reducible refine And.intro ?_ ?_; omega) | (simp only [done_eq, done_eq', donet_eq, donet_eq', fin_val, fin_tup, fin_agg, fin_ro, res_one, res_more, rv_t, rv_c, rv_l, AV.tup.injEq, AV.agg.injEq, AV.ro.injEq, List.cons.injEq, int_eq, bool_eq, Int.toNat_natCast, Int.reduceToNat, Int.toNat_zero, Int.toNat_one, Int.reduceLE, Int.reduceLT, Int.reduceBEq, Int.reduceBNe, beq_self_eq_true, bne_self_eq_false, decide_true, decide_false,  Int.reduceNeg, toNat_pred, toNat_succ, List.length_map, cnd_t, cnd_f, grd_tt, grd_u, grd_tf, grd_ft, grd_ff, g_skip, g_ops, g_seq, g_block, g_exit, g_ret, x_c, x_o, x_l, x_b, g_b, g_nil, r_all, o_nil, g_cond, o_guard, o_call, o_callm, o_callt, o_callx, o_callv, o_callc, o_callh, o_apph, noav_alias, noav_nil, lk, ef, o_mv, o_pick, o_bin, o_never, o_eqs, o_eqb, o_un, o_conv, o_load, o_loadr, o_idxr, o_loads, o_loadsr, o_fld, o_idx, o_idxs, o_len, o_lens, o_ext, o_nilck, o_slc, o_slcs, o_build, o_minmax, o_mkfn, o_mkfnr, o_alloc, o_box, o_boxs, o_row, o_rowr, o_mk, o_asg, o_app, o_appa, o_store, o_stores, o_eqnil, hv, eqAV, ev, view_t, view_c, view_nil, view_fn, look_own, look_box, look_junk, look_val, look_nilsl, look_ro, look_roAt, look_agg, look_tup, look_clo, look_alias, look_ref, look_into, look_fnv, look_held, rowOf, cellsOf, argv, vbin, vun, bnd, elemOf, putParts, setAt, zav, ASt.rid, ASt.hold, ASt.free, AV.kill, AV.isHome, AV.noLoan, AV.cellOK, Value.oneCell', put_at, mk_at, mk_nil, initSt, true_and, and_true, and_self, implies_true, List.map_cons, List.map_nil, List.forall_mem_cons, List.not_mem_nil, false_implies, List.length_cons, List.length_nil, List.getD_cons_zero, List.getD_cons_succ, List.getD_nil, List.drop_succ_cons, List.drop_zero, List.take_succ_cons, List.take_zero, List.set_cons_zero, List.set_cons_succ, List.all_cons, List.all_nil, Bool.and_true, Bool.true_and, Bool.not_true, Bool.not_false, reduceCtorEq, if_true, if_false, Bool.false_eq_true, ↓reduceIte, Nat.reduceEqDiff, Nat.reduceBNe, Nat.reduceAdd, Nat.reduceSub, Nat.reduceMul, Nat.reduceLeDiff, Nat.reduceLT, ne_eq, not_false_eq_true, not_true_eq_false, Nat.one_ne_zero, Nat.zero_ne_one, r60_0, r60_1, p60]) | (exfalso; omega)
/-! headend/tick.Convert -/
def r36_0 : List POp := [⟨8, .asg (.c (.int .i64 0)), none⟩,
  ⟨9, .asg (.c (.int .i64 0)), none⟩]
def r36_1 : List POp := [⟨12, .mv (.t 0), none⟩,
  ⟨13, .call 41 [.t 12], none⟩,
  ⟨14, .mv (.t 13), none⟩,
  ⟨15, .mv (.t 1), some (14, false)⟩,
  ⟨16, .call 59 [.t 15], some (14, false)⟩,
  ⟨17, .pick (.t 14) (.c (.bool true)) (.t 16), none⟩,
  ⟨18, .mv (.t 17), none⟩,
  ⟨19, .mv (.t 2), some (18, false)⟩,
  ⟨20, .call 59 [.t 19], some (18, false)⟩,
  ⟨21, .pick (.t 18) (.c (.bool true)) (.t 20), none⟩,
  ⟨11, .asg (.t 21), none⟩]
def r36_2 : List POp := [⟨8, .asg (.c (.int .i64 0)), none⟩,
  ⟨9, .asg (.c (.int .i64 1)), none⟩]
def r36_3 : List POp := [⟨23, .mv (.t 3), none⟩,
  ⟨24, .call 60 [.t 23], none⟩,
  ⟨22, .asg (.t 24), none⟩]
def r36_4 : List POp := [⟨8, .asg (.c (.int .i64 0)), none⟩,
  ⟨9, .asg (.c (.int .i64 4)), none⟩]
def r36_5 : List POp := [⟨25, .mv (.t 0), none⟩,
  ⟨26, .mv (.t 2), none⟩,
  ⟨27, .mv (.t 1), none⟩,
  ⟨28, .mv (.t 3), none⟩,
  ⟨29, .call 38 [.t 25, .t 26, .t 27, .t 28], none⟩,
  ⟨10, .asg (.t 29), none⟩]
def r36_6 : List POp := [⟨30, .mv (.t 10), none⟩,
  ⟨31, .call 41 [.t 30], none⟩]
def r36_7 : List POp := [⟨8, .asg (.c (.int .i64 0)), none⟩,
  ⟨9, .asg (.c (.int .i64 1)), none⟩]
def r36_8 : List POp := [⟨32, .mv (.t 10), none⟩,
  ⟨8, .asg (.t 32), none⟩,
  ⟨9, .asg (.c (.int .i64 0)), none⟩]
def p36 : PCode := .seq (.ops r36_0) (.seq (.block 0 (.seq (.ops r36_1) (.cond (.t 11) (.seq (.ops r36_2) (.ret)) (.seq (.ops r36_3) (.cond (.t 22) (.seq (.ops r36_4) (.ret)) (.skip)))))) (.seq (.ops r36_5) (.seq (.seq (.ops r36_6) (.cond (.t 31) (.seq (.ops r36_7) (.ret)) (.skip))) (.seq (.ops r36_8) (.ret)))))
theorem ok36 : okFunc Try.prog 36 [.t 8, .t 9] 4 p36 = true := by kernel_rfl
def cvt (n frm to way : Int) : Int × Int := if noTime n || noScale frm || noScale to then (0, 1) else if outB way 1 3 then (0, 4) else if noTime (scl n to.toNat frm.toNat way) then (0, 1) else (scl n to.toNat frm.toNat way, 0)
theorem convert_c (n frm to way : Int) : CallOK Try.prog 36 [.val (.int .i64 n), .val (.int .i64 frm), .val (.int .i64 to), .val (.int .i64 way)] (.tup [.val (.int .i64 (cvt n frm to way).1), .val (.int .i64 (cvt n frm to way).2)]) := by
  refine call_of mixed ok36 rfl ?_
  repeat' first | ((with_reducible (first | refine condD ?_ ?_ | refine condE ?_ ?_ | refine condN ?_ ?_ | refine condI ?_ ?_ | refine condS ?_ ?_)) <;> intro h) | ((with_reducible (first | refine guardD (by with_unfolding_all rfl) ?_ ?_ | refine guardE (by with_unfolding_all rfl) ?_ ?_ | refine guardN (by with_unfolding_all rfl) ?_ ?_ | refine guardI (by with_unfolding_all rfl) ?_ ?_ | refine guardS (by with_unfolding_all rfl) ?_ ?_)) <;> intro h) | ((refine callG (notime_c _) ?_)) | ((refine callG (noscale_c _) ?_)) | ((refine callG (noway_c _) ?_)) | (with_reducible refine And.intro ?_ ?_; omega) | (simp only [done_eq, done_eq', donet_eq, donet_eq', fin_val, fin_tup, fin_agg, fin_ro, res_one, res_more, rv_t, rv_c, rv_l, AV.tup.injEq, AV.agg.injEq, AV.ro.injEq, List.cons.injEq, int_eq, bool_eq, Int.toNat_natCast, Int.reduceToNat, Int.toNat_zero, Int.toNat_one, Int.reduceLE, Int.reduceLT, Int.reduceBEq, Int.reduceBNe, beq_self_eq_true, bne_self_eq_false, decide_true, decide_false,  Int.reduceNeg, toNat_pred, toNat_succ, List.length_map, cnd_t, cnd_f, grd_tt, grd_u, grd_tf, grd_ft, grd_ff, g_skip, g_ops, g_seq, g_block, g_exit, g_ret, x_c, x_o, x_l, x_b, g_b, g_nil, r_all, o_nil, g_cond, o_guard, o_call, o_callm, o_callt, o_callx, o_callv, o_callc, o_callh, o_apph, noav_alias, noav_nil, lk, ef, o_mv, o_pick, o_bin, o_never, o_eqs, o_eqb, o_un, o_conv, o_load, o_loadr, o_idxr, o_loads, o_loadsr, o_fld, o_idx, o_idxs, o_len, o_lens, o_ext, o_nilck, o_slc, o_slcs, o_build, o_minmax, o_mkfn, o_mkfnr, o_alloc, o_box, o_boxs, o_row, o_rowr, o_mk, o_asg, o_app, o_appa, o_store, o_stores, o_eqnil, hv, eqAV, ev, view_t, view_c, view_nil, view_fn, look_own, look_box, look_junk, look_val, look_nilsl, look_ro, look_roAt, look_agg, look_tup, look_clo, look_alias, look_ref, look_into, look_fnv, look_held, rowOf, cellsOf, argv, vbin, vun, bnd, elemOf, putParts, setAt, zav, ASt.rid, ASt.hold, ASt.free, AV.kill, AV.isHome, AV.noLoan, AV.cellOK, Value.oneCell', put_at, mk_at, mk_nil, initSt, true_and, and_true, and_self, implies_true, List.map_cons, List.map_nil, List.forall_mem_cons, List.not_mem_nil, false_implies, List.length_cons, List.length_nil, List.getD_cons_zero, List.getD_cons_succ, List.getD_nil, List.drop_succ_cons, List.drop_zero, List.take_succ_cons, List.take_zero, List.set_cons_zero, List.set_cons_succ, List.all_cons, List.all_nil, Bool.and_true, Bool.true_and, Bool.not_true, Bool.not_false, reduceCtorEq, if_true, if_false, Bool.false_eq_true, ↓reduceIte, Nat.reduceEqDiff, Nat.reduceBNe, Nat.reduceAdd, Nat.reduceSub, Nat.reduceMul, Nat.reduceLeDiff, Nat.reduceLT, ne_eq, not_false_eq_true, not_true_eq_false, Nat.one_ne_zero, Nat.zero_ne_one, r36_0, r36_1, r36_2, r36_3, r36_4, r36_5, r36_6, r36_7, r36_8, p36]) | (exfalso; omega)
  all_goals try (simp [cvt, *]; done)
  rename_i h1 h2 h3
  have b1 := noTime_bd h1
  have b2 := noScale_bd h2
  have b3 := noScale_bd h3
  refine callG (scaledI_c n to frm way (by omega) (by omega) (by omega) (by omega) (by omega) (by omega)) ?_
  repeat' first | ((with_reducible (first | refine condD ?_ ?_ | refine condE ?_ ?_ | refine condN ?_ ?_ | refine condI ?_ ?_ | refine condS ?_ ?_)) <;> intro h) | ((with_reducible (first | refine guardD (by with_unfolding_all rfl) ?_ ?_ | refine guardE (by with_unfolding_all rfl) ?_ ?_ | refine guardN (by with_unfolding_all rfl) ?_ ?_ | refine guardI (by with_unfolding_all rfl) ?_ ?_ | refine guardS (by with_unfolding_all rfl) ?_ ?_)) <;> intro h) | ((refine callG (notime_c _) ?_)) | (with_reducible refine And.intro ?_ ?_; omega) | (simp only [done_eq, done_eq', donet_eq, donet_eq', fin_val, fin_tup, fin_agg, fin_ro, res_one, res_more, rv_t, rv_c, rv_l, AV.tup.injEq, AV.agg.injEq, AV.ro.injEq, List.cons.injEq, int_eq, bool_eq, Int.toNat_natCast, Int.reduceToNat, Int.toNat_zero, Int.toNat_one, Int.reduceLE, Int.reduceLT, Int.reduceBEq, Int.reduceBNe, beq_self_eq_true, bne_self_eq_false, decide_true, decide_false,  Int.reduceNeg, toNat_pred, toNat_succ, List.length_map, cnd_t, cnd_f, grd_tt, grd_u, grd_tf, grd_ft, grd_ff, g_skip, g_ops, g_seq, g_block, g_exit, g_ret, x_c, x_o, x_l, x_b, g_b, g_nil, r_all, o_nil, g_cond, o_guard, o_call, o_callm, o_callt, o_callx, o_callv, o_callc, o_callh, o_apph, noav_alias, noav_nil, lk, ef, o_mv, o_pick, o_bin, o_never, o_eqs, o_eqb, o_un, o_conv, o_load, o_loadr, o_idxr, o_loads, o_loadsr, o_fld, o_idx, o_idxs, o_len, o_lens, o_ext, o_nilck, o_slc, o_slcs, o_build, o_minmax, o_mkfn, o_mkfnr, o_alloc, o_box, o_boxs, o_row, o_rowr, o_mk, o_asg, o_app, o_appa, o_store, o_stores, o_eqnil, hv, eqAV, ev, view_t, view_c, view_nil, view_fn, look_own, look_box, look_junk, look_val, look_nilsl, look_ro, look_roAt, look_agg, look_tup, look_clo, look_alias, look_ref, look_into, look_fnv, look_held, rowOf, cellsOf, argv, vbin, vun, bnd, elemOf, putParts, setAt, zav, ASt.rid, ASt.hold, ASt.free, AV.kill, AV.isHome, AV.noLoan, AV.cellOK, Value.oneCell', put_at, mk_at, mk_nil, initSt, true_and, and_true, and_self, implies_true, List.map_cons, List.map_nil, List.forall_mem_cons, List.not_mem_nil, false_implies, List.length_cons, List.length_nil, List.getD_cons_zero, List.getD_cons_succ, List.getD_nil, List.drop_succ_cons, List.drop_zero, List.take_succ_cons, List.take_zero, List.set_cons_zero, List.set_cons_succ, List.all_cons, List.all_nil, Bool.and_true, Bool.true_and, Bool.not_true, Bool.not_false, reduceCtorEq, if_true, if_false, Bool.false_eq_true, ↓reduceIte, Nat.reduceEqDiff, Nat.reduceBNe, Nat.reduceAdd, Nat.reduceSub, Nat.reduceMul, Nat.reduceLeDiff, Nat.reduceLT, ne_eq, not_false_eq_true, not_true_eq_false, Nat.one_ne_zero, Nat.zero_ne_one, r36_0, r36_1, r36_2, r36_3, r36_4, r36_5, r36_6, r36_7, r36_8, p36]) | (exfalso; omega)
  all_goals simp [cvt, *]
end Go.Proofs.Ytpecmhdepggnoaa
