/- The reference's ranges, Ranges, checkTimed, Seek, Fetch answer as the program's: the same model functions. By the machine on data. -/
import Derived.Test.YtpkeiabifoipoaaKSeek
namespace Go.Proofs.Ytpkeiabifoipoaa
open Go.RowKit
set_option linter.unusedSimpArgs false

/-! headend/headendref1.IsTime -/
def r35_0 : List POp := [⟨2, .asg (.c (.bool false)), none⟩]
def r35_1 : List POp := [⟨3, .mv (.t 0), none⟩,
  ⟨4, .bin .geq (.t 3) (.c (.int .i64 (-1000000000000000))), none⟩,
  ⟨5, .mv (.t 4), none⟩,
  ⟨6, .mv (.t 0), some (5, true)⟩,
  ⟨7, .bin .leq (.t 6) (.c (.int .i64 1000000000000000)), some (5, true)⟩,
  ⟨8, .pick (.t 5) (.t 7) (.c (.bool false)), none⟩,
  ⟨2, .asg (.t 8), none⟩]
def p35 : PCode := .seq (.ops r35_0) (.seq (.ops r35_1) (.ret))
theorem ok35 : okFunc Try.prog 35 [.t 2] 1 p35 = true := by kernel_rfl
theorem istime_c (n : Int) : CallOK Try.prog 35 [.val (.int .i64 n)] (.val (.bool (!noTime n))) := by
  refine call_of mixed ok35 rfl ?_
  repeat' first | (with_reducible refine condD (fun h => ?_) (fun h => ?_)) | (with_reducible refine condS (fun h => ?_) (fun h => ?_)) | (with_reducible refine guardD (by with_unfolding_all rfl) (fun h => ?_) (fun h => ?_)) | (with_reducible refine guardS (by with_unfolding_all rfl) (fun h => ?_) (fun h => ?_)) | (with_reducible refine And.intro ?_ ?_; omega) | (simp only [done_eq, done_eq', fin_val, fin_tup, fin_agg, fin_ro, res_one, res_more, rv_t, rv_c, rv_l, AV.tup.injEq, AV.agg.injEq, AV.ro.injEq, List.cons.injEq, int_eq, bool_eq, Int.toNat_natCast, Int.reduceToNat, Int.toNat_zero, Int.toNat_one, Int.reduceLE, Int.reduceLT, Int.reduceBEq, Int.reduceBNe, beq_self_eq_true, bne_self_eq_false, decide_true, decide_false,  Int.reduceNeg, toNat_pred, toNat_succ, List.length_map, cnd_t, cnd_f, grd_tt, grd_u, grd_tf, grd_ft, grd_ff, g_skip, g_ops, g_seq, g_block, g_exit, g_ret, x_c, x_o, x_l, x_b, g_b, g_nil, r_all, o_nil, g_cond, o_guard, o_call, o_callv, lk, ef, o_mv, o_pick, o_bin, o_eqs, o_eqb, o_un, o_conv, o_load, o_loads, o_fld, o_idx, o_idxs, o_len, o_lens, o_ext, o_nilck, o_slc, o_slcs, o_build, o_minmax, o_mkfn, o_alloc, o_box, o_boxs, o_row, o_rowr, o_mk, o_asg, o_app, o_store, o_stores, hv, eqAV, ev, view, rowOf, cellsOf, argv, vbin, vun, bnd, elemOf, putParts, setAt, zav, ASt.rid, ASt.free, AV.kill, AV.isHome, AV.noLoan, AV.cellOK, Value.oneCell', put_at, mk_at, mk_nil, initSt, true_and, and_true, and_self, implies_true, List.map_cons, List.map_nil, List.forall_mem_cons, List.not_mem_nil, false_implies, List.length_cons, List.length_nil, List.getD_cons_zero, List.getD_cons_succ, List.getD_nil, List.drop_succ_cons, List.drop_zero, List.take_succ_cons, List.take_zero, List.set_cons_zero, List.set_cons_succ, List.all_cons, List.all_nil, Bool.and_true, Bool.true_and, Bool.not_true, Bool.not_false, reduceCtorEq, if_true, if_false, Bool.false_eq_true, ↓reduceIte, Nat.reduceEqDiff, Nat.reduceAdd, Nat.reduceSub, Nat.reduceMul, Nat.reduceLeDiff, Nat.reduceLT, ne_eq, not_false_eq_true, not_true_eq_false, Nat.one_ne_zero, Nat.zero_ne_one, r35_0, r35_1, p35]) | (exfalso; omega)
  all_goals
    rw [Bool.eq_iff_iff]
    simp [noTime, outB]
    omega
/-! headend/headendref4.checkTimed -/
def r43_0 : List POp := [⟨2, .asg (.c (.int .i64 0)), none⟩]
def r43_1 : List POp := [⟨5, .mv (.t 0), none⟩,
  ⟨6, .len (.t 5), none⟩,
  ⟨7, .bin .gtr (.t 6) (.c (.int .i64 1000)), none⟩]
def r43_2 : List POp := [⟨2, .asg (.c (.int .i64 2)), none⟩]
def r43_3 : List POp := [⟨3, .asg (.c (.int .i64 0)), none⟩]
def r43_4 : List POp := [⟨8, .mv (.t 3), none⟩,
  ⟨9, .mv (.t 0), none⟩,
  ⟨10, .len (.t 9), none⟩,
  ⟨11, .bin .lss (.t 8) (.t 10), none⟩]
def r43_6 : List POp := [⟨14, .mv (.t 0), none⟩,
  ⟨15, .mv (.t 3), none⟩,
  ⟨16, .idx 7 (.t 14) (.t 15), none⟩,
  ⟨17, .loads 7 (.t 16), none⟩,
  ⟨4, .alloc [.int .i64 0, .int .i64 0, .int .i64 0, .int .i64 0, .int .i64 0, .int .i64 0, .int .i64 0], none⟩,
  ⟨0, .stores 7 (.t 4) (.t 17), none⟩]
def r43_7 : List POp := [⟨18, .fld 3 (.t 4), none⟩,
  ⟨19, .load (.t 18), none⟩,
  ⟨20, .call 35 [.t 19], none⟩,
  ⟨21, .un .not (.t 20), none⟩,
  ⟨22, .mv (.t 21), none⟩,
  ⟨23, .fld 6 (.t 4), some (22, false)⟩,
  ⟨24, .load (.t 23), some (22, false)⟩,
  ⟨25, .call 35 [.t 24], some (22, false)⟩,
  ⟨26, .un .not (.t 25), some (22, false)⟩,
  ⟨27, .pick (.t 22) (.c (.bool true)) (.t 26), none⟩,
  ⟨28, .mv (.t 27), none⟩,
  ⟨29, .fld 4 (.t 4), some (28, false)⟩,
  ⟨30, .load (.t 29), some (28, false)⟩,
  ⟨31, .call 35 [.t 30], some (28, false)⟩,
  ⟨32, .un .not (.t 31), some (28, false)⟩,
  ⟨33, .pick (.t 28) (.c (.bool true)) (.t 32), none⟩,
  ⟨34, .mv (.t 33), none⟩,
  ⟨35, .fld 3 (.t 4), some (34, false)⟩,
  ⟨36, .load (.t 35), some (34, false)⟩,
  ⟨37, .fld 6 (.t 4), some (34, false)⟩,
  ⟨38, .load (.t 37), some (34, false)⟩,
  ⟨39, .bin .add (.t 36) (.t 38), some (34, false)⟩,
  ⟨40, .fld 4 (.t 4), some (34, false)⟩,
  ⟨41, .load (.t 40), some (34, false)⟩,
  ⟨42, .bin .add (.t 39) (.t 41), some (34, false)⟩,
  ⟨43, .call 35 [.t 42], some (34, false)⟩,
  ⟨44, .un .not (.t 43), some (34, false)⟩,
  ⟨45, .pick (.t 34) (.c (.bool true)) (.t 44), none⟩]
def r43_8 : List POp := [⟨2, .asg (.c (.int .i64 1)), none⟩]
def r43_9 : List POp := [⟨46, .mv (.t 3), none⟩,
  ⟨47, .bin .gtr (.t 46) (.c (.int .i64 0)), none⟩,
  ⟨48, .mv (.t 47), none⟩,
  ⟨49, .fld 3 (.t 4), some (48, true)⟩,
  ⟨50, .load (.t 49), some (48, true)⟩,
  ⟨51, .fld 6 (.t 4), some (48, true)⟩,
  ⟨52, .load (.t 51), some (48, true)⟩,
  ⟨53, .bin .add (.t 50) (.t 52), some (48, true)⟩,
  ⟨54, .mv (.t 0), some (48, true)⟩,
  ⟨55, .mv (.t 3), some (48, true)⟩,
  ⟨56, .bin .sub (.t 55) (.c (.int .i64 1)), some (48, true)⟩,
  ⟨57, .idx 7 (.t 54) (.t 56), some (48, true)⟩,
  ⟨58, .fld 3 (.t 57), some (48, true)⟩,
  ⟨59, .load (.t 58), some (48, true)⟩,
  ⟨60, .mv (.t 0), some (48, true)⟩,
  ⟨61, .mv (.t 3), some (48, true)⟩,
  ⟨62, .bin .sub (.t 61) (.c (.int .i64 1)), some (48, true)⟩,
  ⟨63, .idx 7 (.t 60) (.t 62), some (48, true)⟩,
  ⟨64, .fld 6 (.t 63), some (48, true)⟩,
  ⟨65, .load (.t 64), some (48, true)⟩,
  ⟨66, .bin .add (.t 59) (.t 65), some (48, true)⟩,
  ⟨67, .bin .lss (.t 53) (.t 66), some (48, true)⟩,
  ⟨68, .pick (.t 48) (.t 67) (.c (.bool false)), none⟩,
  ⟨69, .mv (.t 68), none⟩,
  ⟨70, .fld 4 (.t 4), some (69, false)⟩,
  ⟨71, .load (.t 70), some (69, false)⟩,
  ⟨72, .bin .lss (.t 71) (.c (.int .i64 0)), some (69, false)⟩,
  ⟨73, .pick (.t 69) (.c (.bool true)) (.t 72), none⟩]
def r43_10 : List POp := [⟨2, .asg (.c (.int .i64 8)), none⟩]
def r43_5 : List POp := [⟨12, .mv (.t 3), none⟩,
  ⟨13, .bin .add (.t 12) (.c (.int .i64 1)), none⟩,
  ⟨3, .asg (.t 13), none⟩]
def r43_11 : List POp := [⟨2, .asg (.c (.int .i64 0)), none⟩]
def l43_0 : PCode := .seq (.seq (.ops r43_4) (.cond (.t 11) (.skip) (.exit 0))) (.seq (.block 1 (.seq (.ops r43_6) (.seq (.seq (.ops r43_7) (.cond (.t 45) (.seq (.ops r43_8) (.ret)) (.skip))) (.seq (.ops r43_9) (.cond (.t 73) (.seq (.ops r43_10) (.ret)) (.skip)))))) (.ops r43_5))
def p43 : PCode := .seq (.ops r43_0) (.seq (.seq (.ops r43_1) (.cond (.t 7) (.seq (.ops r43_2) (.ret)) (.skip))) (.seq (.seq (.ops r43_3) (.block 0 (.loop l43_0))) (.seq (.ops r43_11) (.ret))))
theorem ok43 : okFunc Try.prog 43 [.t 2] 1 p43 = true := by kernel_rfl
theorem timed_c (l : List Seg) : CallOK Try.prog 43 [.ro (l.map Seg.av)] (.val (.int .i64 (row l))) := by
  refine call_of mixed ok43 rfl ?_
  repeat' first | (with_reducible refine condD (fun h => ?_) (fun h => ?_)) | (with_reducible refine condS (fun h => ?_) (fun h => ?_)) | (with_reducible refine guardD (by with_unfolding_all rfl) (fun h => ?_) (fun h => ?_)) | (with_reducible refine guardS (by with_unfolding_all rfl) (fun h => ?_) (fun h => ?_)) | (with_reducible refine And.intro ?_ ?_; omega) | (simp only [done_eq, done_eq', fin_val, fin_tup, fin_agg, fin_ro, res_one, res_more, rv_t, rv_c, rv_l, AV.tup.injEq, AV.agg.injEq, AV.ro.injEq, List.cons.injEq, int_eq, bool_eq, Int.toNat_natCast, Int.reduceToNat, Int.toNat_zero, Int.toNat_one, Int.reduceLE, Int.reduceLT, Int.reduceBEq, Int.reduceBNe, beq_self_eq_true, bne_self_eq_false, decide_true, decide_false,  Int.reduceNeg, toNat_pred, toNat_succ, List.length_map, cnd_t, cnd_f, grd_tt, grd_u, grd_tf, grd_ft, grd_ff, g_skip, g_ops, g_seq, g_block, g_exit, g_ret, x_c, x_o, x_l, x_b, g_b, g_nil, r_all, o_nil, g_cond, o_guard, o_call, o_callv, lk, ef, o_mv, o_pick, o_bin, o_eqs, o_eqb, o_un, o_conv, o_load, o_loads, o_fld, o_idx, o_idxs, o_len, o_lens, o_ext, o_nilck, o_slc, o_slcs, o_build, o_minmax, o_mkfn, o_alloc, o_box, o_boxs, o_row, o_rowr, o_mk, o_asg, o_app, o_store, o_stores, hv, eqAV, ev, view, rowOf, cellsOf, argv, vbin, vun, bnd, elemOf, putParts, setAt, zav, ASt.rid, ASt.free, AV.kill, AV.isHome, AV.noLoan, AV.cellOK, Value.oneCell', put_at, mk_at, mk_nil, initSt, true_and, and_true, and_self, implies_true, List.map_cons, List.map_nil, List.forall_mem_cons, List.not_mem_nil, false_implies, List.length_cons, List.length_nil, List.getD_cons_zero, List.getD_cons_succ, List.getD_nil, List.drop_succ_cons, List.drop_zero, List.take_succ_cons, List.take_zero, List.set_cons_zero, List.set_cons_succ, List.all_cons, List.all_nil, Bool.and_true, Bool.true_and, Bool.not_true, Bool.not_false, reduceCtorEq, if_true, if_false, Bool.false_eq_true, ↓reduceIte, Nat.reduceEqDiff, Nat.reduceAdd, Nat.reduceSub, Nat.reduceMul, Nat.reduceLeDiff, Nat.reduceLT, ne_eq, not_false_eq_true, not_true_eq_false, Nat.one_ne_zero, Nat.zero_ne_one, r43_0, r43_1, r43_2, r43_3, r43_4, r43_6, r43_7, r43_8, r43_9, r43_10, r43_5, r43_11, p43]) | (exfalso; omega)
  · rw [row, if_pos (by omega)]
  · have hl : l.length ≤ 1000 := by omega
    have hr0 : row l = rowGo none l := if_neg (by omega)
    refine loopS (fun k : Nat => mk [(0, .ro (l.map Seg.av)), (3, .val (.int .i64 k))]) (fun k => k ≤ l.length ∧ row l = rowGo (prvB l k) (l.drop k)) (fun k => l.length - k) 0 (weak_mk ?_) ?_ ?_
    · simp only [wk_cons, wk_nil, wk1, vint_eq, vbool_eq, AV.val.injEq, done_eq, done_eq', fin_val, fin_tup, fin_agg, fin_ro, res_one, res_more, rv_t, rv_c, rv_l, AV.tup.injEq, AV.agg.injEq, AV.ro.injEq, List.cons.injEq, int_eq, bool_eq, Int.toNat_natCast, Int.reduceToNat, Int.toNat_zero, Int.toNat_one, Int.reduceLE, Int.reduceLT, Int.reduceBEq, Int.reduceBNe, beq_self_eq_true, bne_self_eq_false, decide_true, decide_false,  Int.reduceNeg, toNat_pred, toNat_succ, List.length_map, cnd_t, cnd_f, grd_tt, grd_u, grd_tf, grd_ft, grd_ff, g_skip, g_ops, g_seq, g_block, g_exit, g_ret, x_c, x_o, x_l, x_b, g_b, g_nil, r_all, o_nil, g_cond, o_guard, o_call, o_callv, lk, ef, o_mv, o_pick, o_bin, o_eqs, o_eqb, o_un, o_conv, o_load, o_loads, o_fld, o_idx, o_idxs, o_len, o_lens, o_ext, o_nilck, o_slc, o_slcs, o_build, o_minmax, o_mkfn, o_alloc, o_box, o_boxs, o_row, o_rowr, o_mk, o_asg, o_app, o_store, o_stores, hv, eqAV, ev, view, rowOf, cellsOf, argv, vbin, vun, bnd, elemOf, putParts, setAt, zav, ASt.rid, ASt.free, AV.kill, AV.isHome, AV.noLoan, AV.cellOK, Value.oneCell', put_at, mk_at, mk_nil, initSt, true_and, and_true, and_self, implies_true, List.map_cons, List.map_nil, List.forall_mem_cons, List.not_mem_nil, false_implies, List.length_cons, List.length_nil, List.getD_cons_zero, List.getD_cons_succ, List.getD_nil, List.drop_succ_cons, List.drop_zero, List.take_succ_cons, List.take_zero, List.set_cons_zero, List.set_cons_succ, List.all_cons, List.all_nil, Bool.and_true, Bool.true_and, Bool.not_true, Bool.not_false, reduceCtorEq, if_true, if_false, Bool.false_eq_true, ↓reduceIte, Nat.reduceEqDiff, Nat.reduceAdd, Nat.reduceSub, Nat.reduceMul, Nat.reduceLeDiff, Nat.reduceLT, ne_eq, not_false_eq_true, not_true_eq_false, Nat.one_ne_zero, Nat.zero_ne_one]
      simp
    · exact ⟨Nat.zero_le _, by simp [prvB, hr0]⟩
    · rintro J hJ k ⟨hk, hg⟩
      simp only [done_eq, done_eq', fin_val, fin_tup, fin_agg, fin_ro, res_one, res_more, rv_t, rv_c, rv_l, AV.tup.injEq, AV.agg.injEq, AV.ro.injEq, List.cons.injEq, int_eq, bool_eq, Int.toNat_natCast, Int.reduceToNat, Int.toNat_zero, Int.toNat_one, Int.reduceLE, Int.reduceLT, Int.reduceBEq, Int.reduceBNe, beq_self_eq_true, bne_self_eq_false, decide_true, decide_false,  Int.reduceNeg, toNat_pred, toNat_succ, List.length_map, cnd_t, cnd_f, grd_tt, grd_u, grd_tf, grd_ft, grd_ff, g_skip, g_ops, g_seq, g_block, g_exit, g_ret, x_c, x_o, x_l, x_b, g_b, g_nil, r_all, o_nil, g_cond, o_guard, o_call, o_callv, lk, ef, o_mv, o_pick, o_bin, o_eqs, o_eqb, o_un, o_conv, o_load, o_loads, o_fld, o_idx, o_idxs, o_len, o_lens, o_ext, o_nilck, o_slc, o_slcs, o_build, o_minmax, o_mkfn, o_alloc, o_box, o_boxs, o_row, o_rowr, o_mk, o_asg, o_app, o_store, o_stores, hv, eqAV, ev, view, rowOf, cellsOf, argv, vbin, vun, bnd, elemOf, putParts, setAt, zav, ASt.rid, ASt.free, AV.kill, AV.isHome, AV.noLoan, AV.cellOK, Value.oneCell', put_at, mk_at, mk_nil, initSt, true_and, and_true, and_self, implies_true, List.map_cons, List.map_nil, List.forall_mem_cons, List.not_mem_nil, false_implies, List.length_cons, List.length_nil, List.getD_cons_zero, List.getD_cons_succ, List.getD_nil, List.drop_succ_cons, List.drop_zero, List.take_succ_cons, List.take_zero, List.set_cons_zero, List.set_cons_succ, List.all_cons, List.all_nil, Bool.and_true, Bool.true_and, Bool.not_true, Bool.not_false, reduceCtorEq, if_true, if_false, Bool.false_eq_true, ↓reduceIte, Nat.reduceEqDiff, Nat.reduceAdd, Nat.reduceSub, Nat.reduceMul, Nat.reduceLeDiff, Nat.reduceLT, ne_eq, not_false_eq_true, not_true_eq_false, Nat.one_ne_zero, Nat.zero_ne_one, r43_0, r43_1, r43_2, r43_3, r43_4, r43_6, r43_7, r43_8, r43_9, r43_10, r43_5, r43_11, p43, l43_0]
      refine condD (fun h => ?_) (fun h => ?_)
      · have hlt : k < l.length := by omega
        have hr : row l = if badSeg l[k] then 1 else if ((prvB l k).any fun q => decide (l[k].bw < q)) || decide (l[k].len < 0) then 8 else rowGo (prvB l (k + 1)) (l.drop (k + 1)) := by
          rw [hg, List.drop_eq_getElem_cons hlt, rowGo, prvB_succ _ _ hlt]
        have hw : IntKind.i64.wrap (k + 1 : Int) = ((k + 1 : Nat) : Int) := wrap_in (by omega) (by omega)
        have hb : IntKind.i64.wrap (l[k].beg + l[k].lead) = l[k].bw := rfl
        clear hg
        rcases Nat.eq_zero_or_pos k with rfl | hp
        · repeat' first | (with_reducible refine condD (fun h => ?_) (fun h => ?_)) | (with_reducible refine condS (fun h => ?_) (fun h => ?_)) | (with_reducible refine guardD (by with_unfolding_all rfl) (fun h => ?_) (fun h => ?_)) | (with_reducible refine guardS (by with_unfolding_all rfl) (fun h => ?_) (fun h => ?_)) | ((refine callG (istime_c _) ?_)) | (with_reducible refine And.intro ?_ ?_; omega) | (simp only [done_eq, done_eq', fin_val, fin_tup, fin_agg, fin_ro, res_one, res_more, rv_t, rv_c, rv_l, AV.tup.injEq, AV.agg.injEq, AV.ro.injEq, List.cons.injEq, int_eq, bool_eq, Int.toNat_natCast, Int.reduceToNat, Int.toNat_zero, Int.toNat_one, Int.reduceLE, Int.reduceLT, Int.reduceBEq, Int.reduceBNe, beq_self_eq_true, bne_self_eq_false, decide_true, decide_false,  Int.reduceNeg, toNat_pred, toNat_succ, List.length_map, cnd_t, cnd_f, grd_tt, grd_u, grd_tf, grd_ft, grd_ff, g_skip, g_ops, g_seq, g_block, g_exit, g_ret, x_c, x_o, x_l, x_b, g_b, g_nil, r_all, o_nil, g_cond, o_guard, o_call, o_callv, lk, ef, o_mv, o_pick, o_bin, o_eqs, o_eqb, o_un, o_conv, o_load, o_loads, o_fld, o_idx, o_idxs, o_len, o_lens, o_ext, o_nilck, o_slc, o_slcs, o_build, o_minmax, o_mkfn, o_alloc, o_box, o_boxs, o_row, o_rowr, o_mk, o_asg, o_app, o_store, o_stores, hv, eqAV, ev, view, rowOf, cellsOf, argv, vbin, vun, bnd, elemOf, putParts, setAt, zav, ASt.rid, ASt.free, AV.kill, AV.isHome, AV.noLoan, AV.cellOK, Value.oneCell', put_at, mk_at, mk_nil, initSt, true_and, and_true, and_self, implies_true, List.map_cons, List.map_nil, List.forall_mem_cons, List.not_mem_nil, false_implies, List.length_cons, List.length_nil, List.getD_cons_zero, List.getD_cons_succ, List.getD_nil, List.drop_succ_cons, List.drop_zero, List.take_succ_cons, List.take_zero, List.set_cons_zero, List.set_cons_succ, List.all_cons, List.all_nil, Bool.and_true, Bool.true_and, Bool.not_true, Bool.not_false, reduceCtorEq, if_true, if_false, Bool.false_eq_true, ↓reduceIte, Nat.reduceEqDiff, Nat.reduceAdd, Nat.reduceSub, Nat.reduceMul, Nat.reduceLeDiff, Nat.reduceLT, ne_eq, not_false_eq_true, not_true_eq_false, Nat.one_ne_zero, Nat.zero_ne_one, r43_0, r43_1, r43_2, r43_3, r43_4, r43_6, r43_7, r43_8, r43_9, r43_10, r43_5, r43_11, p43, l43_0, Seg.av, getD_map hlt, hb]) | (exfalso; omega)
          all_goals try (clear hJ; simp only [Bool.not_eq_true', Bool.not_eq_false', Bool.not_not] at *; simp [hr, badSeg, prvB, *]; done)
          exact again hJ (0 + 1) (weak_mk (by simp only [wk_cons, wk_nil, wk1, vint_eq, vbool_eq, AV.val.injEq, done_eq, done_eq', fin_val, fin_tup, fin_agg, fin_ro, res_one, res_more, rv_t, rv_c, rv_l, AV.tup.injEq, AV.agg.injEq, AV.ro.injEq, List.cons.injEq, int_eq, bool_eq, Int.toNat_natCast, Int.reduceToNat, Int.toNat_zero, Int.toNat_one, Int.reduceLE, Int.reduceLT, Int.reduceBEq, Int.reduceBNe, beq_self_eq_true, bne_self_eq_false, decide_true, decide_false,  Int.reduceNeg, toNat_pred, toNat_succ, List.length_map, cnd_t, cnd_f, grd_tt, grd_u, grd_tf, grd_ft, grd_ff, g_skip, g_ops, g_seq, g_block, g_exit, g_ret, x_c, x_o, x_l, x_b, g_b, g_nil, r_all, o_nil, g_cond, o_guard, o_call, o_callv, lk, ef, o_mv, o_pick, o_bin, o_eqs, o_eqb, o_un, o_conv, o_load, o_loads, o_fld, o_idx, o_idxs, o_len, o_lens, o_ext, o_nilck, o_slc, o_slcs, o_build, o_minmax, o_mkfn, o_alloc, o_box, o_boxs, o_row, o_rowr, o_mk, o_asg, o_app, o_store, o_stores, hv, eqAV, ev, view, rowOf, cellsOf, argv, vbin, vun, bnd, elemOf, putParts, setAt, zav, ASt.rid, ASt.free, AV.kill, AV.isHome, AV.noLoan, AV.cellOK, Value.oneCell', put_at, mk_at, mk_nil, initSt, true_and, and_true, and_self, implies_true, List.map_cons, List.map_nil, List.forall_mem_cons, List.not_mem_nil, false_implies, List.length_cons, List.length_nil, List.getD_cons_zero, List.getD_cons_succ, List.getD_nil, List.drop_succ_cons, List.drop_zero, List.take_succ_cons, List.take_zero, List.set_cons_zero, List.set_cons_succ, List.all_cons, List.all_nil, Bool.and_true, Bool.true_and, Bool.not_true, Bool.not_false, reduceCtorEq, if_true, if_false, Bool.false_eq_true, ↓reduceIte, Nat.reduceEqDiff, Nat.reduceAdd, Nat.reduceSub, Nat.reduceMul, Nat.reduceLeDiff, Nat.reduceLT, ne_eq, not_false_eq_true, not_true_eq_false, Nat.one_ne_zero, Nat.zero_ne_one]; exact hw)) ⟨by omega, by simp only [Bool.not_eq_true', Bool.not_eq_false', Bool.not_not] at *; simp [hr, badSeg, prvB, *, -hJ]⟩ (by omega)
        · have hlt1 : k - 1 < l.length := by omega
          have hw1 : IntKind.i64.wrap (k - 1 : Int) = ((k - 1 : Nat) : Int) := by rw [wrap_in (by omega) (by omega)]; omega
          have hpv : prvB l k = some l[k-1].bw := by simp [prvB, hlt1]; omega
          have hb1 : IntKind.i64.wrap (l[k-1].beg + l[k-1].lead) = l[k-1].bw := rfl
          repeat' first | (with_reducible refine condD (fun h => ?_) (fun h => ?_)) | (with_reducible refine condS (fun h => ?_) (fun h => ?_)) | (with_reducible refine guardD (by with_unfolding_all rfl) (fun h => ?_) (fun h => ?_)) | (with_reducible refine guardS (by with_unfolding_all rfl) (fun h => ?_) (fun h => ?_)) | ((refine callG (istime_c _) ?_)) | (with_reducible refine And.intro ?_ ?_; omega) | (simp only [done_eq, done_eq', fin_val, fin_tup, fin_agg, fin_ro, res_one, res_more, rv_t, rv_c, rv_l, AV.tup.injEq, AV.agg.injEq, AV.ro.injEq, List.cons.injEq, int_eq, bool_eq, Int.toNat_natCast, Int.reduceToNat, Int.toNat_zero, Int.toNat_one, Int.reduceLE, Int.reduceLT, Int.reduceBEq, Int.reduceBNe, beq_self_eq_true, bne_self_eq_false, decide_true, decide_false,  Int.reduceNeg, toNat_pred, toNat_succ, List.length_map, cnd_t, cnd_f, grd_tt, grd_u, grd_tf, grd_ft, grd_ff, g_skip, g_ops, g_seq, g_block, g_exit, g_ret, x_c, x_o, x_l, x_b, g_b, g_nil, r_all, o_nil, g_cond, o_guard, o_call, o_callv, lk, ef, o_mv, o_pick, o_bin, o_eqs, o_eqb, o_un, o_conv, o_load, o_loads, o_fld, o_idx, o_idxs, o_len, o_lens, o_ext, o_nilck, o_slc, o_slcs, o_build, o_minmax, o_mkfn, o_alloc, o_box, o_boxs, o_row, o_rowr, o_mk, o_asg, o_app, o_store, o_stores, hv, eqAV, ev, view, rowOf, cellsOf, argv, vbin, vun, bnd, elemOf, putParts, setAt, zav, ASt.rid, ASt.free, AV.kill, AV.isHome, AV.noLoan, AV.cellOK, Value.oneCell', put_at, mk_at, mk_nil, initSt, true_and, and_true, and_self, implies_true, List.map_cons, List.map_nil, List.forall_mem_cons, List.not_mem_nil, false_implies, List.length_cons, List.length_nil, List.getD_cons_zero, List.getD_cons_succ, List.getD_nil, List.drop_succ_cons, List.drop_zero, List.take_succ_cons, List.take_zero, List.set_cons_zero, List.set_cons_succ, List.all_cons, List.all_nil, Bool.and_true, Bool.true_and, Bool.not_true, Bool.not_false, reduceCtorEq, if_true, if_false, Bool.false_eq_true, ↓reduceIte, Nat.reduceEqDiff, Nat.reduceAdd, Nat.reduceSub, Nat.reduceMul, Nat.reduceLeDiff, Nat.reduceLT, ne_eq, not_false_eq_true, not_true_eq_false, Nat.one_ne_zero, Nat.zero_ne_one, r43_0, r43_1, r43_2, r43_3, r43_4, r43_6, r43_7, r43_8, r43_9, r43_10, r43_5, r43_11, p43, l43_0, Seg.av, getD_map hlt, getD_map hlt1, hw1, hb, hb1]) | (exfalso; omega)
          all_goals try (clear hJ; simp only [Bool.not_eq_true', Bool.not_eq_false', Bool.not_not] at *; simp [hr, badSeg, *]; done)
          exact again hJ (k + 1) (weak_mk (by simp only [wk_cons, wk_nil, wk1, vint_eq, vbool_eq, AV.val.injEq, done_eq, done_eq', fin_val, fin_tup, fin_agg, fin_ro, res_one, res_more, rv_t, rv_c, rv_l, AV.tup.injEq, AV.agg.injEq, AV.ro.injEq, List.cons.injEq, int_eq, bool_eq, Int.toNat_natCast, Int.reduceToNat, Int.toNat_zero, Int.toNat_one, Int.reduceLE, Int.reduceLT, Int.reduceBEq, Int.reduceBNe, beq_self_eq_true, bne_self_eq_false, decide_true, decide_false,  Int.reduceNeg, toNat_pred, toNat_succ, List.length_map, cnd_t, cnd_f, grd_tt, grd_u, grd_tf, grd_ft, grd_ff, g_skip, g_ops, g_seq, g_block, g_exit, g_ret, x_c, x_o, x_l, x_b, g_b, g_nil, r_all, o_nil, g_cond, o_guard, o_call, o_callv, lk, ef, o_mv, o_pick, o_bin, o_eqs, o_eqb, o_un, o_conv, o_load, o_loads, o_fld, o_idx, o_idxs, o_len, o_lens, o_ext, o_nilck, o_slc, o_slcs, o_build, o_minmax, o_mkfn, o_alloc, o_box, o_boxs, o_row, o_rowr, o_mk, o_asg, o_app, o_store, o_stores, hv, eqAV, ev, view, rowOf, cellsOf, argv, vbin, vun, bnd, elemOf, putParts, setAt, zav, ASt.rid, ASt.free, AV.kill, AV.isHome, AV.noLoan, AV.cellOK, Value.oneCell', put_at, mk_at, mk_nil, initSt, true_and, and_true, and_self, implies_true, List.map_cons, List.map_nil, List.forall_mem_cons, List.not_mem_nil, false_implies, List.length_cons, List.length_nil, List.getD_cons_zero, List.getD_cons_succ, List.getD_nil, List.drop_succ_cons, List.drop_zero, List.take_succ_cons, List.take_zero, List.set_cons_zero, List.set_cons_succ, List.all_cons, List.all_nil, Bool.and_true, Bool.true_and, Bool.not_true, Bool.not_false, reduceCtorEq, if_true, if_false, Bool.false_eq_true, ↓reduceIte, Nat.reduceEqDiff, Nat.reduceAdd, Nat.reduceSub, Nat.reduceMul, Nat.reduceLeDiff, Nat.reduceLT, ne_eq, not_false_eq_true, not_true_eq_false, Nat.one_ne_zero, Nat.zero_ne_one]; exact hw)) ⟨by omega, by simp only [Bool.not_eq_true', Bool.not_eq_false', Bool.not_not] at *; simp [hr, badSeg, *, -hJ]⟩ (by omega)
      · have hke : k = l.length := by omega
        subst hke
        repeat' first | (with_reducible refine condD (fun h => ?_) (fun h => ?_)) | (with_reducible refine condS (fun h => ?_) (fun h => ?_)) | (with_reducible refine guardD (by with_unfolding_all rfl) (fun h => ?_) (fun h => ?_)) | (with_reducible refine guardS (by with_unfolding_all rfl) (fun h => ?_) (fun h => ?_)) | (with_reducible refine And.intro ?_ ?_; omega) | (simp only [done_eq, done_eq', fin_val, fin_tup, fin_agg, fin_ro, res_one, res_more, rv_t, rv_c, rv_l, AV.tup.injEq, AV.agg.injEq, AV.ro.injEq, List.cons.injEq, int_eq, bool_eq, Int.toNat_natCast, Int.reduceToNat, Int.toNat_zero, Int.toNat_one, Int.reduceLE, Int.reduceLT, Int.reduceBEq, Int.reduceBNe, beq_self_eq_true, bne_self_eq_false, decide_true, decide_false,  Int.reduceNeg, toNat_pred, toNat_succ, List.length_map, cnd_t, cnd_f, grd_tt, grd_u, grd_tf, grd_ft, grd_ff, g_skip, g_ops, g_seq, g_block, g_exit, g_ret, x_c, x_o, x_l, x_b, g_b, g_nil, r_all, o_nil, g_cond, o_guard, o_call, o_callv, lk, ef, o_mv, o_pick, o_bin, o_eqs, o_eqb, o_un, o_conv, o_load, o_loads, o_fld, o_idx, o_idxs, o_len, o_lens, o_ext, o_nilck, o_slc, o_slcs, o_build, o_minmax, o_mkfn, o_alloc, o_box, o_boxs, o_row, o_rowr, o_mk, o_asg, o_app, o_store, o_stores, hv, eqAV, ev, view, rowOf, cellsOf, argv, vbin, vun, bnd, elemOf, putParts, setAt, zav, ASt.rid, ASt.free, AV.kill, AV.isHome, AV.noLoan, AV.cellOK, Value.oneCell', put_at, mk_at, mk_nil, initSt, true_and, and_true, and_self, implies_true, List.map_cons, List.map_nil, List.forall_mem_cons, List.not_mem_nil, false_implies, List.length_cons, List.length_nil, List.getD_cons_zero, List.getD_cons_succ, List.getD_nil, List.drop_succ_cons, List.drop_zero, List.take_succ_cons, List.take_zero, List.set_cons_zero, List.set_cons_succ, List.all_cons, List.all_nil, Bool.and_true, Bool.true_and, Bool.not_true, Bool.not_false, reduceCtorEq, if_true, if_false, Bool.false_eq_true, ↓reduceIte, Nat.reduceEqDiff, Nat.reduceAdd, Nat.reduceSub, Nat.reduceMul, Nat.reduceLeDiff, Nat.reduceLT, ne_eq, not_false_eq_true, not_true_eq_false, Nat.one_ne_zero, Nat.zero_ne_one, r43_0, r43_1, r43_2, r43_3, r43_4, r43_6, r43_7, r43_8, r43_9, r43_10, r43_5, r43_11, p43, l43_0]) | (exfalso; omega)
        simp [hg, rowGo]
/-! headend/headendref4.ranges -/
def r42_0 : List POp := [⟨4, .asg .nil, none⟩,
  ⟨5, .asg (.c (.int .i64 0)), none⟩]
def r42_1 : List POp := [⟨8, .mv (.t 1), none⟩,
  ⟨9, .bin .lss (.t 8) (.c (.int .i64 0)), none⟩,
  ⟨10, .mv (.t 9), none⟩,
  ⟨11, .mv (.t 1), some (10, false)⟩,
  ⟨12, .bin .gtr (.t 11) (.c (.int .i64 1000000000000000)), some (10, false)⟩,
  ⟨13, .pick (.t 10) (.c (.bool true)) (.t 12), none⟩]
def r42_2 : List POp := [⟨4, .asg .nil, none⟩,
  ⟨5, .asg (.c (.int .i64 1)), none⟩]
def r42_3 : List POp := [⟨14, .mv (.t 0), none⟩,
  ⟨15, .len (.t 14), none⟩,
  ⟨16, .bin .gtr (.t 15) (.c (.int .i64 1000)), none⟩]
def r42_4 : List POp := [⟨4, .asg .nil, none⟩,
  ⟨5, .asg (.c (.int .i64 2)), none⟩]
def r42_5 : List POp := [⟨6, .asg .nil, none⟩]
def r42_6 : List POp := [⟨7, .asg (.c (.int .i64 0)), none⟩]
def r42_7 : List POp := [⟨17, .mv (.t 7), none⟩,
  ⟨18, .mv (.t 0), none⟩,
  ⟨19, .len (.t 18), none⟩,
  ⟨20, .bin .lss (.t 17) (.t 19), none⟩]
def r42_9 : List POp := [⟨23, .mv (.t 0), none⟩,
  ⟨24, .mv (.t 7), none⟩,
  ⟨25, .idx 7 (.t 23) (.t 24), none⟩,
  ⟨26, .fld 5 (.t 25), none⟩,
  ⟨27, .load (.t 26), none⟩,
  ⟨28, .bin .lss (.t 27) (.c (.int .i64 0)), none⟩,
  ⟨29, .mv (.t 28), none⟩,
  ⟨30, .mv (.t 0), some (29, false)⟩,
  ⟨31, .mv (.t 7), some (29, false)⟩,
  ⟨32, .idx 7 (.t 30) (.t 31), some (29, false)⟩,
  ⟨33, .fld 5 (.t 32), some (29, false)⟩,
  ⟨34, .load (.t 33), some (29, false)⟩,
  ⟨35, .bin .gtr (.t 34) (.c (.int .i64 1000000000000000)), some (29, false)⟩,
  ⟨36, .pick (.t 29) (.c (.bool true)) (.t 35), none⟩,
  ⟨37, .mv (.t 36), none⟩,
  ⟨38, .mv (.t 1), some (37, false)⟩,
  ⟨39, .mv (.t 0), some (37, false)⟩,
  ⟨40, .mv (.t 7), some (37, false)⟩,
  ⟨41, .idx 7 (.t 39) (.t 40), some (37, false)⟩,
  ⟨42, .fld 5 (.t 41), some (37, false)⟩,
  ⟨43, .load (.t 42), some (37, false)⟩,
  ⟨44, .bin .add (.t 38) (.t 43), some (37, false)⟩,
  ⟨45, .bin .gtr (.t 44) (.c (.int .i64 1000000000000000)), some (37, false)⟩,
  ⟨46, .pick (.t 37) (.c (.bool true)) (.t 45), none⟩]
def r42_10 : List POp := [⟨4, .asg .nil, none⟩,
  ⟨5, .asg (.c (.int .i64 1)), none⟩]
def r42_11 : List POp := [⟨47, .mv (.t 6), none⟩,
  ⟨48, .mv (.t 1), none⟩,
  ⟨49, .mv (.t 1), none⟩,
  ⟨50, .mv (.t 0), none⟩,
  ⟨51, .mv (.t 7), none⟩,
  ⟨52, .idx 7 (.t 50) (.t 51), none⟩,
  ⟨53, .fld 5 (.t 52), none⟩,
  ⟨54, .load (.t 53), none⟩,
  ⟨55, .bin .add (.t 49) (.t 54), none⟩,
  ⟨56, .build [.int .i64 0, .int .i64 0] [(0, 1, .t 48), (1, 1, .t 55)], none⟩,
  ⟨57, .row 56 2 [.t 56], none⟩,
  ⟨58, .app 56 2 16 (.t 47) (.t 57), none⟩,
  ⟨6, .asg (.t 58), none⟩]
def r42_12 : List POp := [⟨59, .mv (.t 1), none⟩,
  ⟨60, .mv (.t 0), none⟩,
  ⟨61, .mv (.t 7), none⟩,
  ⟨62, .idx 7 (.t 60) (.t 61), none⟩,
  ⟨63, .fld 5 (.t 62), none⟩,
  ⟨64, .load (.t 63), none⟩,
  ⟨65, .bin .add (.t 59) (.t 64), none⟩,
  ⟨1, .asg (.t 65), none⟩]
def r42_8 : List POp := [⟨21, .mv (.t 7), none⟩,
  ⟨22, .bin .add (.t 21) (.c (.int .i64 1)), none⟩,
  ⟨7, .asg (.t 22), none⟩]
def r42_13 : List POp := [⟨66, .mv (.t 6), none⟩,
  ⟨4, .asg (.t 66), none⟩,
  ⟨5, .asg (.c (.int .i64 0)), none⟩]
def l42_0 : PCode := .seq (.seq (.ops r42_7) (.cond (.t 20) (.skip) (.exit 0))) (.seq (.block 1 (.seq (.seq (.ops r42_9) (.cond (.t 46) (.seq (.ops r42_10) (.ret)) (.skip))) (.seq (.ops r42_11) (.ops r42_12)))) (.ops r42_8))
def p42 : PCode := .seq (.ops r42_0) (.seq (.seq (.ops r42_1) (.cond (.t 13) (.seq (.ops r42_2) (.ret)) (.skip))) (.seq (.seq (.ops r42_3) (.cond (.t 16) (.seq (.ops r42_4) (.ret)) (.skip))) (.seq (.ops r42_5) (.seq (.seq (.ops r42_6) (.block 0 (.loop l42_0))) (.seq (.ops r42_13) (.ret))))))
theorem ok42 : okFunc Try.prog 42 [.t 4, .t 5] 2 p42 = true := by kernel_rfl
theorem rngr_c (l : List Seg) (st : Int) : CallOK Try.prog 42 [.ro (l.map Seg.av), .val (.int .i64 st)] (.tup [.ro ((rng l st).1.map Rg.av), .val (.int .i64 (rng l st).2)]) := by
  refine call_of mixed ok42 rfl ?_
  repeat' first | (with_reducible refine condD (fun h => ?_) (fun h => ?_)) | (with_reducible refine condS (fun h => ?_) (fun h => ?_)) | (with_reducible refine guardD (by with_unfolding_all rfl) (fun h => ?_) (fun h => ?_)) | (with_reducible refine guardS (by with_unfolding_all rfl) (fun h => ?_) (fun h => ?_)) | (with_reducible refine And.intro ?_ ?_; omega) | (simp only [done_eq, done_eq', fin_val, fin_tup, fin_agg, fin_ro, res_one, res_more, rv_t, rv_c, rv_l, AV.tup.injEq, AV.agg.injEq, AV.ro.injEq, List.cons.injEq, int_eq, bool_eq, Int.toNat_natCast, Int.reduceToNat, Int.toNat_zero, Int.toNat_one, Int.reduceLE, Int.reduceLT, Int.reduceBEq, Int.reduceBNe, beq_self_eq_true, bne_self_eq_false, decide_true, decide_false,  Int.reduceNeg, toNat_pred, toNat_succ, List.length_map, cnd_t, cnd_f, grd_tt, grd_u, grd_tf, grd_ft, grd_ff, g_skip, g_ops, g_seq, g_block, g_exit, g_ret, x_c, x_o, x_l, x_b, g_b, g_nil, r_all, o_nil, g_cond, o_guard, o_call, o_callv, lk, ef, o_mv, o_pick, o_bin, o_eqs, o_eqb, o_un, o_conv, o_load, o_loads, o_fld, o_idx, o_idxs, o_len, o_lens, o_ext, o_nilck, o_slc, o_slcs, o_build, o_minmax, o_mkfn, o_alloc, o_box, o_boxs, o_row, o_rowr, o_mk, o_asg, o_app, o_store, o_stores, hv, eqAV, ev, view, rowOf, cellsOf, argv, vbin, vun, bnd, elemOf, putParts, setAt, zav, ASt.rid, ASt.free, AV.kill, AV.isHome, AV.noLoan, AV.cellOK, Value.oneCell', put_at, mk_at, mk_nil, initSt, true_and, and_true, and_self, implies_true, List.map_cons, List.map_nil, List.forall_mem_cons, List.not_mem_nil, false_implies, List.length_cons, List.length_nil, List.getD_cons_zero, List.getD_cons_succ, List.getD_nil, List.drop_succ_cons, List.drop_zero, List.take_succ_cons, List.take_zero, List.set_cons_zero, List.set_cons_succ, List.all_cons, List.all_nil, Bool.and_true, Bool.true_and, Bool.not_true, Bool.not_false, reduceCtorEq, if_true, if_false, Bool.false_eq_true, ↓reduceIte, Nat.reduceEqDiff, Nat.reduceAdd, Nat.reduceSub, Nat.reduceMul, Nat.reduceLeDiff, Nat.reduceLT, ne_eq, not_false_eq_true, not_true_eq_false, Nat.one_ne_zero, Nat.zero_ne_one, r42_0, r42_1, r42_2, r42_3, r42_4, r42_5, r42_6, r42_7, r42_9, r42_10, r42_11, r42_12, r42_8, r42_13, p42]) | (exfalso; omega)
  · simp [rng, outB, *]
  · simp [rng, outB, *]
  · rename_i h1 h2
    have h3 : outB st 0 1000000000000000 = false := by simp [outB]; omega
    simp [rng, h3, show 1000 < l.length by omega]
  · rename_i h1 h2
    have h3 : outB st 0 1000000000000000 = false := by simp [outB]; omega
    have hl : l.length ≤ 1000 := by omega
    have hr0 : rng l st = rngGo st [] l := by simp [rng, h3, show ¬1000 < l.length by omega]
    refine loopS (fun p : Nat × Int × List Rg => mk [(0, .ro (l.map Seg.av)), (1, .val (.int .i64 p.2.1)), (6, .own 56 2 (p.2.2.map Rg.av)), (7, .val (.int .i64 p.1))]) (fun p => p.1 ≤ l.length ∧ p.2.2.length ≤ p.1 ∧ rng l st = rngGo p.2.1 p.2.2 (l.drop p.1)) (fun p => l.length - p.1) (0, st, []) (weak_mk ?_) ?_ ?_
    · simp only [wk_cons, wk_nil, wk1, vint_eq, vbool_eq, AV.val.injEq, done_eq, done_eq', fin_val, fin_tup, fin_agg, fin_ro, res_one, res_more, rv_t, rv_c, rv_l, AV.tup.injEq, AV.agg.injEq, AV.ro.injEq, List.cons.injEq, int_eq, bool_eq, Int.toNat_natCast, Int.reduceToNat, Int.toNat_zero, Int.toNat_one, Int.reduceLE, Int.reduceLT, Int.reduceBEq, Int.reduceBNe, beq_self_eq_true, bne_self_eq_false, decide_true, decide_false,  Int.reduceNeg, toNat_pred, toNat_succ, List.length_map, cnd_t, cnd_f, grd_tt, grd_u, grd_tf, grd_ft, grd_ff, g_skip, g_ops, g_seq, g_block, g_exit, g_ret, x_c, x_o, x_l, x_b, g_b, g_nil, r_all, o_nil, g_cond, o_guard, o_call, o_callv, lk, ef, o_mv, o_pick, o_bin, o_eqs, o_eqb, o_un, o_conv, o_load, o_loads, o_fld, o_idx, o_idxs, o_len, o_lens, o_ext, o_nilck, o_slc, o_slcs, o_build, o_minmax, o_mkfn, o_alloc, o_box, o_boxs, o_row, o_rowr, o_mk, o_asg, o_app, o_store, o_stores, hv, eqAV, ev, view, rowOf, cellsOf, argv, vbin, vun, bnd, elemOf, putParts, setAt, zav, ASt.rid, ASt.free, AV.kill, AV.isHome, AV.noLoan, AV.cellOK, Value.oneCell', put_at, mk_at, mk_nil, initSt, true_and, and_true, and_self, implies_true, List.map_cons, List.map_nil, List.forall_mem_cons, List.not_mem_nil, false_implies, List.length_cons, List.length_nil, List.getD_cons_zero, List.getD_cons_succ, List.getD_nil, List.drop_succ_cons, List.drop_zero, List.take_succ_cons, List.take_zero, List.set_cons_zero, List.set_cons_succ, List.all_cons, List.all_nil, Bool.and_true, Bool.true_and, Bool.not_true, Bool.not_false, reduceCtorEq, if_true, if_false, Bool.false_eq_true, ↓reduceIte, Nat.reduceEqDiff, Nat.reduceAdd, Nat.reduceSub, Nat.reduceMul, Nat.reduceLeDiff, Nat.reduceLT, ne_eq, not_false_eq_true, not_true_eq_false, Nat.one_ne_zero, Nat.zero_ne_one]
      simp
    · exact ⟨Nat.zero_le _, Nat.zero_le _, by simp [hr0]⟩
    · rintro J hJ ⟨k, at', out⟩ ⟨hk, ho, hg⟩
      simp only at hk ho hg
      simp only [done_eq, done_eq', fin_val, fin_tup, fin_agg, fin_ro, res_one, res_more, rv_t, rv_c, rv_l, AV.tup.injEq, AV.agg.injEq, AV.ro.injEq, List.cons.injEq, int_eq, bool_eq, Int.toNat_natCast, Int.reduceToNat, Int.toNat_zero, Int.toNat_one, Int.reduceLE, Int.reduceLT, Int.reduceBEq, Int.reduceBNe, beq_self_eq_true, bne_self_eq_false, decide_true, decide_false,  Int.reduceNeg, toNat_pred, toNat_succ, List.length_map, cnd_t, cnd_f, grd_tt, grd_u, grd_tf, grd_ft, grd_ff, g_skip, g_ops, g_seq, g_block, g_exit, g_ret, x_c, x_o, x_l, x_b, g_b, g_nil, r_all, o_nil, g_cond, o_guard, o_call, o_callv, lk, ef, o_mv, o_pick, o_bin, o_eqs, o_eqb, o_un, o_conv, o_load, o_loads, o_fld, o_idx, o_idxs, o_len, o_lens, o_ext, o_nilck, o_slc, o_slcs, o_build, o_minmax, o_mkfn, o_alloc, o_box, o_boxs, o_row, o_rowr, o_mk, o_asg, o_app, o_store, o_stores, hv, eqAV, ev, view, rowOf, cellsOf, argv, vbin, vun, bnd, elemOf, putParts, setAt, zav, ASt.rid, ASt.free, AV.kill, AV.isHome, AV.noLoan, AV.cellOK, Value.oneCell', put_at, mk_at, mk_nil, initSt, true_and, and_true, and_self, implies_true, List.map_cons, List.map_nil, List.forall_mem_cons, List.not_mem_nil, false_implies, List.length_cons, List.length_nil, List.getD_cons_zero, List.getD_cons_succ, List.getD_nil, List.drop_succ_cons, List.drop_zero, List.take_succ_cons, List.take_zero, List.set_cons_zero, List.set_cons_succ, List.all_cons, List.all_nil, Bool.and_true, Bool.true_and, Bool.not_true, Bool.not_false, reduceCtorEq, if_true, if_false, Bool.false_eq_true, ↓reduceIte, Nat.reduceEqDiff, Nat.reduceAdd, Nat.reduceSub, Nat.reduceMul, Nat.reduceLeDiff, Nat.reduceLT, ne_eq, not_false_eq_true, not_true_eq_false, Nat.one_ne_zero, Nat.zero_ne_one, r42_0, r42_1, r42_2, r42_3, r42_4, r42_5, r42_6, r42_7, r42_9, r42_10, r42_11, r42_12, r42_8, r42_13, p42, l42_0]
      refine condD (fun h => ?_) (fun h => ?_)
      · have hlt : k < l.length := by omega
        have hr : rng l st = if rngBad at' l[k] then ([], 1) else rngGo (IntKind.i64.wrap (at' + l[k].bytes)) (out ++ [⟨at', IntKind.i64.wrap (at' + l[k].bytes)⟩]) (l.drop (k + 1)) := by
          rw [hg, List.drop_eq_getElem_cons hlt, rngGo]
        have hw : IntKind.i64.wrap (k + 1 : Int) = ((k + 1 : Nat) : Int) := wrap_in (by omega) (by omega)
        clear hg
        repeat' first | (with_reducible refine condD (fun h => ?_) (fun h => ?_)) | (with_reducible refine condS (fun h => ?_) (fun h => ?_)) | (with_reducible refine guardD (by with_unfolding_all rfl) (fun h => ?_) (fun h => ?_)) | (with_reducible refine guardS (by with_unfolding_all rfl) (fun h => ?_) (fun h => ?_)) | (with_reducible refine And.intro ?_ ?_; omega) | (simp only [done_eq, done_eq', fin_val, fin_tup, fin_agg, fin_ro, res_one, res_more, rv_t, rv_c, rv_l, AV.tup.injEq, AV.agg.injEq, AV.ro.injEq, List.cons.injEq, int_eq, bool_eq, Int.toNat_natCast, Int.reduceToNat, Int.toNat_zero, Int.toNat_one, Int.reduceLE, Int.reduceLT, Int.reduceBEq, Int.reduceBNe, beq_self_eq_true, bne_self_eq_false, decide_true, decide_false,  Int.reduceNeg, toNat_pred, toNat_succ, List.length_map, cnd_t, cnd_f, grd_tt, grd_u, grd_tf, grd_ft, grd_ff, g_skip, g_ops, g_seq, g_block, g_exit, g_ret, x_c, x_o, x_l, x_b, g_b, g_nil, r_all, o_nil, g_cond, o_guard, o_call, o_callv, lk, ef, o_mv, o_pick, o_bin, o_eqs, o_eqb, o_un, o_conv, o_load, o_loads, o_fld, o_idx, o_idxs, o_len, o_lens, o_ext, o_nilck, o_slc, o_slcs, o_build, o_minmax, o_mkfn, o_alloc, o_box, o_boxs, o_row, o_rowr, o_mk, o_asg, o_app, o_store, o_stores, hv, eqAV, ev, view, rowOf, cellsOf, argv, vbin, vun, bnd, elemOf, putParts, setAt, zav, ASt.rid, ASt.free, AV.kill, AV.isHome, AV.noLoan, AV.cellOK, Value.oneCell', put_at, mk_at, mk_nil, initSt, true_and, and_true, and_self, implies_true, List.map_cons, List.map_nil, List.forall_mem_cons, List.not_mem_nil, false_implies, List.length_cons, List.length_nil, List.getD_cons_zero, List.getD_cons_succ, List.getD_nil, List.drop_succ_cons, List.drop_zero, List.take_succ_cons, List.take_zero, List.set_cons_zero, List.set_cons_succ, List.all_cons, List.all_nil, Bool.and_true, Bool.true_and, Bool.not_true, Bool.not_false, reduceCtorEq, if_true, if_false, Bool.false_eq_true, ↓reduceIte, Nat.reduceEqDiff, Nat.reduceAdd, Nat.reduceSub, Nat.reduceMul, Nat.reduceLeDiff, Nat.reduceLT, ne_eq, not_false_eq_true, not_true_eq_false, Nat.one_ne_zero, Nat.zero_ne_one, r42_0, r42_1, r42_2, r42_3, r42_4, r42_5, r42_6, r42_7, r42_9, r42_10, r42_11, r42_12, r42_8, r42_13, p42, l42_0, Seg.av, getD_map hlt]) | (exfalso; omega)
        all_goals try (clear hJ; simp [hr, rngBad, outB, *]; done)
        exact again hJ (k + 1, _, out ++ [⟨at', IntKind.i64.wrap (at' + l[k].bytes)⟩]) (weak_mk (by simp only [wk_cons, wk_nil, wk1, vint_eq, vbool_eq, AV.val.injEq, done_eq, done_eq', fin_val, fin_tup, fin_agg, fin_ro, res_one, res_more, rv_t, rv_c, rv_l, AV.tup.injEq, AV.agg.injEq, AV.ro.injEq, List.cons.injEq, int_eq, bool_eq, Int.toNat_natCast, Int.reduceToNat, Int.toNat_zero, Int.toNat_one, Int.reduceLE, Int.reduceLT, Int.reduceBEq, Int.reduceBNe, beq_self_eq_true, bne_self_eq_false, decide_true, decide_false,  Int.reduceNeg, toNat_pred, toNat_succ, List.length_map, cnd_t, cnd_f, grd_tt, grd_u, grd_tf, grd_ft, grd_ff, g_skip, g_ops, g_seq, g_block, g_exit, g_ret, x_c, x_o, x_l, x_b, g_b, g_nil, r_all, o_nil, g_cond, o_guard, o_call, o_callv, lk, ef, o_mv, o_pick, o_bin, o_eqs, o_eqb, o_un, o_conv, o_load, o_loads, o_fld, o_idx, o_idxs, o_len, o_lens, o_ext, o_nilck, o_slc, o_slcs, o_build, o_minmax, o_mkfn, o_alloc, o_box, o_boxs, o_row, o_rowr, o_mk, o_asg, o_app, o_store, o_stores, hv, eqAV, ev, view, rowOf, cellsOf, argv, vbin, vun, bnd, elemOf, putParts, setAt, zav, ASt.rid, ASt.free, AV.kill, AV.isHome, AV.noLoan, AV.cellOK, Value.oneCell', put_at, mk_at, mk_nil, initSt, true_and, and_true, and_self, implies_true, List.map_cons, List.map_nil, List.forall_mem_cons, List.not_mem_nil, false_implies, List.length_cons, List.length_nil, List.getD_cons_zero, List.getD_cons_succ, List.getD_nil, List.drop_succ_cons, List.drop_zero, List.take_succ_cons, List.take_zero, List.set_cons_zero, List.set_cons_succ, List.all_cons, List.all_nil, Bool.and_true, Bool.true_and, Bool.not_true, Bool.not_false, reduceCtorEq, if_true, if_false, Bool.false_eq_true, ↓reduceIte, Nat.reduceEqDiff, Nat.reduceAdd, Nat.reduceSub, Nat.reduceMul, Nat.reduceLeDiff, Nat.reduceLT, ne_eq, not_false_eq_true, not_true_eq_false, Nat.one_ne_zero, Nat.zero_ne_one]; exact ⟨rfl, by simp [Rg.av], hw⟩)) ⟨by omega, by simp; omega, by simp [hr, rngBad, outB, *, -hJ]⟩ (by simp only; omega)
      · have hke : k = l.length := by omega
        subst hke
        repeat' first | (with_reducible refine condD (fun h => ?_) (fun h => ?_)) | (with_reducible refine condS (fun h => ?_) (fun h => ?_)) | (with_reducible refine guardD (by with_unfolding_all rfl) (fun h => ?_) (fun h => ?_)) | (with_reducible refine guardS (by with_unfolding_all rfl) (fun h => ?_) (fun h => ?_)) | (with_reducible refine And.intro ?_ ?_; omega) | (simp only [done_eq, done_eq', fin_val, fin_tup, fin_agg, fin_ro, res_one, res_more, rv_t, rv_c, rv_l, AV.tup.injEq, AV.agg.injEq, AV.ro.injEq, List.cons.injEq, int_eq, bool_eq, Int.toNat_natCast, Int.reduceToNat, Int.toNat_zero, Int.toNat_one, Int.reduceLE, Int.reduceLT, Int.reduceBEq, Int.reduceBNe, beq_self_eq_true, bne_self_eq_false, decide_true, decide_false,  Int.reduceNeg, toNat_pred, toNat_succ, List.length_map, cnd_t, cnd_f, grd_tt, grd_u, grd_tf, grd_ft, grd_ff, g_skip, g_ops, g_seq, g_block, g_exit, g_ret, x_c, x_o, x_l, x_b, g_b, g_nil, r_all, o_nil, g_cond, o_guard, o_call, o_callv, lk, ef, o_mv, o_pick, o_bin, o_eqs, o_eqb, o_un, o_conv, o_load, o_loads, o_fld, o_idx, o_idxs, o_len, o_lens, o_ext, o_nilck, o_slc, o_slcs, o_build, o_minmax, o_mkfn, o_alloc, o_box, o_boxs, o_row, o_rowr, o_mk, o_asg, o_app, o_store, o_stores, hv, eqAV, ev, view, rowOf, cellsOf, argv, vbin, vun, bnd, elemOf, putParts, setAt, zav, ASt.rid, ASt.free, AV.kill, AV.isHome, AV.noLoan, AV.cellOK, Value.oneCell', put_at, mk_at, mk_nil, initSt, true_and, and_true, and_self, implies_true, List.map_cons, List.map_nil, List.forall_mem_cons, List.not_mem_nil, false_implies, List.length_cons, List.length_nil, List.getD_cons_zero, List.getD_cons_succ, List.getD_nil, List.drop_succ_cons, List.drop_zero, List.take_succ_cons, List.take_zero, List.set_cons_zero, List.set_cons_succ, List.all_cons, List.all_nil, Bool.and_true, Bool.true_and, Bool.not_true, Bool.not_false, reduceCtorEq, if_true, if_false, Bool.false_eq_true, ↓reduceIte, Nat.reduceEqDiff, Nat.reduceAdd, Nat.reduceSub, Nat.reduceMul, Nat.reduceLeDiff, Nat.reduceLT, ne_eq, not_false_eq_true, not_true_eq_false, Nat.one_ne_zero, Nat.zero_ne_one, r42_0, r42_1, r42_2, r42_3, r42_4, r42_5, r42_6, r42_7, r42_9, r42_10, r42_11, r42_12, r42_8, r42_13, p42, l42_0]) | (exfalso; omega)
        simp [hg, rngGo]
/-! headend/headendref4.Ranges -/
def r22_0 : List POp := [⟨4, .asg .nil, none⟩,
  ⟨5, .asg (.c (.int .i64 0)), none⟩]
def r22_1 : List POp := [⟨6, .mv (.t 0), none⟩,
  ⟨7, .mv (.t 1), none⟩,
  ⟨8, .call 42 [.t 6, .t 7], none⟩,
  ⟨9, .ext 0 (.t 8), none⟩,
  ⟨10, .ext 1 (.t 8), none⟩,
  ⟨4, .asg (.t 9), none⟩,
  ⟨5, .asg (.t 10), none⟩]
def p22 : PCode := .seq (.ops r22_0) (.seq (.ops r22_1) (.ret))
theorem ok22 : okFunc Try.prog 22 [.t 4, .t 5] 2 p22 = true := by kernel_rfl
theorem rangesr_c (l : List Seg) (st : Int) : CallOK Try.prog 22 [.ro (l.map Seg.av), .val (.int .i64 st)] (.tup [.ro ((rng l st).1.map Rg.av), .val (.int .i64 (rng l st).2)]) := by
  refine call_of mixed ok22 rfl ?_
  repeat' first | (with_reducible refine condD (fun h => ?_) (fun h => ?_)) | (with_reducible refine condS (fun h => ?_) (fun h => ?_)) | (with_reducible refine guardD (by with_unfolding_all rfl) (fun h => ?_) (fun h => ?_)) | (with_reducible refine guardS (by with_unfolding_all rfl) (fun h => ?_) (fun h => ?_)) | ((refine callG (rngr_c _ _) ?_)) | (with_reducible refine And.intro ?_ ?_; omega) | (simp only [done_eq, done_eq', fin_val, fin_tup, fin_agg, fin_ro, res_one, res_more, rv_t, rv_c, rv_l, AV.tup.injEq, AV.agg.injEq, AV.ro.injEq, List.cons.injEq, int_eq, bool_eq, Int.toNat_natCast, Int.reduceToNat, Int.toNat_zero, Int.toNat_one, Int.reduceLE, Int.reduceLT, Int.reduceBEq, Int.reduceBNe, beq_self_eq_true, bne_self_eq_false, decide_true, decide_false,  Int.reduceNeg, toNat_pred, toNat_succ, List.length_map, cnd_t, cnd_f, grd_tt, grd_u, grd_tf, grd_ft, grd_ff, g_skip, g_ops, g_seq, g_block, g_exit, g_ret, x_c, x_o, x_l, x_b, g_b, g_nil, r_all, o_nil, g_cond, o_guard, o_call, o_callv, lk, ef, o_mv, o_pick, o_bin, o_eqs, o_eqb, o_un, o_conv, o_load, o_loads, o_fld, o_idx, o_idxs, o_len, o_lens, o_ext, o_nilck, o_slc, o_slcs, o_build, o_minmax, o_mkfn, o_alloc, o_box, o_boxs, o_row, o_rowr, o_mk, o_asg, o_app, o_store, o_stores, hv, eqAV, ev, view, rowOf, cellsOf, argv, vbin, vun, bnd, elemOf, putParts, setAt, zav, ASt.rid, ASt.free, AV.kill, AV.isHome, AV.noLoan, AV.cellOK, Value.oneCell', put_at, mk_at, mk_nil, initSt, true_and, and_true, and_self, implies_true, List.map_cons, List.map_nil, List.forall_mem_cons, List.not_mem_nil, false_implies, List.length_cons, List.length_nil, List.getD_cons_zero, List.getD_cons_succ, List.getD_nil, List.drop_succ_cons, List.drop_zero, List.take_succ_cons, List.take_zero, List.set_cons_zero, List.set_cons_succ, List.all_cons, List.all_nil, Bool.and_true, Bool.true_and, Bool.not_true, Bool.not_false, reduceCtorEq, if_true, if_false, Bool.false_eq_true, ↓reduceIte, Nat.reduceEqDiff, Nat.reduceAdd, Nat.reduceSub, Nat.reduceMul, Nat.reduceLeDiff, Nat.reduceLT, ne_eq, not_false_eq_true, not_true_eq_false, Nat.one_ne_zero, Nat.zero_ne_one, r22_0, r22_1, p22]) | (exfalso; omega)
/-! headend/headendref4.Seek -/
def r24_0 : List POp := [⟨4, .asg (.c (.int .i64 0)), none⟩,
  ⟨5, .asg (.c (.int .i64 0)), none⟩,
  ⟨6, .asg (.c (.int .i64 0)), none⟩]
def r24_1 : List POp := [⟨10, .mv (.t 0), none⟩,
  ⟨11, .call 43 [.t 10], none⟩,
  ⟨7, .asg (.t 11), none⟩]
def r24_2 : List POp := [⟨12, .mv (.t 7), none⟩,
  ⟨13, .bin .neq (.t 12) (.c (.int .i64 0)), none⟩]
def r24_3 : List POp := [⟨14, .mv (.t 7), none⟩,
  ⟨4, .asg (.c (.int .i64 0)), none⟩,
  ⟨5, .asg (.c (.int .i64 0)), none⟩,
  ⟨6, .asg (.t 14), none⟩]
def r24_4 : List POp := [⟨15, .mv (.t 1), none⟩,
  ⟨16, .call 35 [.t 15], none⟩,
  ⟨17, .un .not (.t 16), none⟩]
def r24_5 : List POp := [⟨4, .asg (.c (.int .i64 0)), none⟩,
  ⟨5, .asg (.c (.int .i64 0)), none⟩,
  ⟨6, .asg (.c (.int .i64 1)), none⟩]
def r24_6 : List POp := [⟨18, .mv (.t 0), none⟩,
  ⟨19, .len (.t 18), none⟩,
  ⟨20, .bin .sub (.t 19) (.c (.int .i64 1)), none⟩,
  ⟨8, .asg (.t 20), none⟩]
def r24_7 : List POp := [⟨21, .mv (.t 8), none⟩,
  ⟨22, .bin .geq (.t 21) (.c (.int .i64 0)), none⟩]
def r24_9 : List POp := [⟨25, .mv (.t 1), none⟩,
  ⟨26, .mv (.t 0), none⟩,
  ⟨27, .mv (.t 8), none⟩,
  ⟨28, .idx 7 (.t 26) (.t 27), none⟩,
  ⟨29, .fld 3 (.t 28), none⟩,
  ⟨30, .load (.t 29), none⟩,
  ⟨31, .bin .sub (.t 25) (.t 30), none⟩,
  ⟨32, .mv (.t 0), none⟩,
  ⟨33, .mv (.t 8), none⟩,
  ⟨34, .idx 7 (.t 32) (.t 33), none⟩,
  ⟨35, .fld 6 (.t 34), none⟩,
  ⟨36, .load (.t 35), none⟩,
  ⟨37, .bin .sub (.t 31) (.t 36), none⟩,
  ⟨9, .asg (.t 37), none⟩]
def r24_10 : List POp := [⟨38, .mv (.t 9), none⟩,
  ⟨39, .bin .geq (.t 38) (.c (.int .i64 0)), none⟩,
  ⟨40, .mv (.t 39), none⟩,
  ⟨41, .mv (.t 9), some (40, true)⟩,
  ⟨42, .mv (.t 0), some (40, true)⟩,
  ⟨43, .mv (.t 8), some (40, true)⟩,
  ⟨44, .idx 7 (.t 42) (.t 43), some (40, true)⟩,
  ⟨45, .fld 4 (.t 44), some (40, true)⟩,
  ⟨46, .load (.t 45), some (40, true)⟩,
  ⟨47, .bin .lss (.t 41) (.t 46), some (40, true)⟩,
  ⟨48, .pick (.t 40) (.t 47) (.c (.bool false)), none⟩]
def r24_11 : List POp := [⟨49, .mv (.t 8), none⟩,
  ⟨50, .mv (.t 9), none⟩,
  ⟨4, .asg (.t 49), none⟩,
  ⟨5, .asg (.t 50), none⟩,
  ⟨6, .asg (.c (.int .i64 0)), none⟩]
def r24_8 : List POp := [⟨23, .mv (.t 8), none⟩,
  ⟨24, .bin .sub (.t 23) (.c (.int .i64 1)), none⟩,
  ⟨8, .asg (.t 24), none⟩]
def r24_12 : List POp := [⟨4, .asg (.c (.int .i64 0)), none⟩,
  ⟨5, .asg (.c (.int .i64 0)), none⟩,
  ⟨6, .asg (.c (.int .i64 9)), none⟩]
def l24_0 : PCode := .seq (.seq (.ops r24_7) (.cond (.t 22) (.skip) (.exit 0))) (.seq (.block 1 (.seq (.ops r24_9) (.seq (.ops r24_10) (.cond (.t 48) (.seq (.ops r24_11) (.ret)) (.skip))))) (.ops r24_8))
def p24 : PCode := .seq (.ops r24_0) (.seq (.seq (.ops r24_1) (.seq (.ops r24_2) (.cond (.t 13) (.seq (.ops r24_3) (.ret)) (.skip)))) (.seq (.seq (.ops r24_4) (.cond (.t 17) (.seq (.ops r24_5) (.ret)) (.skip))) (.seq (.seq (.ops r24_6) (.block 0 (.loop l24_0))) (.seq (.ops r24_12) (.ret)))))
theorem ok24 : okFunc Try.prog 24 [.t 4, .t 5, .t 6] 2 p24 = true := by kernel_rfl
theorem wrap_sub2 (t a b : Int) : IntKind.i64.wrap (IntKind.i64.wrap (t - a) - b) = IntKind.i64.wrap (t - IntKind.i64.wrap (a + b)) := by
  simp only [IntKind.wrap_i64]; omega
theorem seekr_c (l : List Seg) (t : Int) : CallOK Try.prog 24 [.ro (l.map Seg.av), .val (.int .i64 t)] (.tup [.val (.int .i64 (seek l t).1), .val (.int .i64 (seek l t).2.1), .val (.int .i64 (seek l t).2.2)]) := by
  refine call_of mixed ok24 rfl ?_
  repeat' first | (with_reducible refine condD (fun h => ?_) (fun h => ?_)) | (with_reducible refine condS (fun h => ?_) (fun h => ?_)) | (with_reducible refine guardD (by with_unfolding_all rfl) (fun h => ?_) (fun h => ?_)) | (with_reducible refine guardS (by with_unfolding_all rfl) (fun h => ?_) (fun h => ?_)) | ((refine callG (timed_c _) ?_)) | ((refine callG (istime_c _) ?_)) | (with_reducible refine And.intro ?_ ?_; omega) | (simp only [done_eq, done_eq', fin_val, fin_tup, fin_agg, fin_ro, res_one, res_more, rv_t, rv_c, rv_l, AV.tup.injEq, AV.agg.injEq, AV.ro.injEq, List.cons.injEq, int_eq, bool_eq, Int.toNat_natCast, Int.reduceToNat, Int.toNat_zero, Int.toNat_one, Int.reduceLE, Int.reduceLT, Int.reduceBEq, Int.reduceBNe, beq_self_eq_true, bne_self_eq_false, decide_true, decide_false,  Int.reduceNeg, toNat_pred, toNat_succ, List.length_map, cnd_t, cnd_f, grd_tt, grd_u, grd_tf, grd_ft, grd_ff, g_skip, g_ops, g_seq, g_block, g_exit, g_ret, x_c, x_o, x_l, x_b, g_b, g_nil, r_all, o_nil, g_cond, o_guard, o_call, o_callv, lk, ef, o_mv, o_pick, o_bin, o_eqs, o_eqb, o_un, o_conv, o_load, o_loads, o_fld, o_idx, o_idxs, o_len, o_lens, o_ext, o_nilck, o_slc, o_slcs, o_build, o_minmax, o_mkfn, o_alloc, o_box, o_boxs, o_row, o_rowr, o_mk, o_asg, o_app, o_store, o_stores, hv, eqAV, ev, view, rowOf, cellsOf, argv, vbin, vun, bnd, elemOf, putParts, setAt, zav, ASt.rid, ASt.free, AV.kill, AV.isHome, AV.noLoan, AV.cellOK, Value.oneCell', put_at, mk_at, mk_nil, initSt, true_and, and_true, and_self, implies_true, List.map_cons, List.map_nil, List.forall_mem_cons, List.not_mem_nil, false_implies, List.length_cons, List.length_nil, List.getD_cons_zero, List.getD_cons_succ, List.getD_nil, List.drop_succ_cons, List.drop_zero, List.take_succ_cons, List.take_zero, List.set_cons_zero, List.set_cons_succ, List.all_cons, List.all_nil, Bool.and_true, Bool.true_and, Bool.not_true, Bool.not_false, reduceCtorEq, if_true, if_false, Bool.false_eq_true, ↓reduceIte, Nat.reduceEqDiff, Nat.reduceAdd, Nat.reduceSub, Nat.reduceMul, Nat.reduceLeDiff, Nat.reduceLT, ne_eq, not_false_eq_true, not_true_eq_false, Nat.one_ne_zero, Nat.zero_ne_one, r24_0, r24_1, r24_2, r24_3, r24_4, r24_5, r24_6, r24_7, r24_9, r24_10, r24_11, r24_8, r24_12, p24]) | (exfalso; omega)
  · have h' : row l ≠ 0 := by simpa using h
    simp [seek, h']
  · rename_i h1
    have h' : row l = 0 := by simpa using h1
    have h2 : noTime t = true := by simpa using h
    simp [seek, h', h2]
  · rename_i h1
    have h' : row l = 0 := by simpa using h1
    have h2 : noTime t = false := by simpa using h
    have hl : l.length ≤ 1000 := row_len h'
    have hs : seek l t = seekGo l t l.length := by simp [seek, h', h2]
    refine loopS (fun n : Nat => mk [(0, .ro (l.map Seg.av)), (1, .val (.int .i64 t)), (8, .val (.int .i64 ((n : Int) - 1)))]) (fun n => n ≤ l.length ∧ seek l t = seekGo l t n) (fun n => n) l.length (weak_mk ?_) ⟨Nat.le_refl _, hs⟩ ?_
    · simp only [wk_cons, wk_nil, wk1, vint_eq, vbool_eq, AV.val.injEq, done_eq, done_eq', fin_val, fin_tup, fin_agg, fin_ro, res_one, res_more, rv_t, rv_c, rv_l, AV.tup.injEq, AV.agg.injEq, AV.ro.injEq, List.cons.injEq, int_eq, bool_eq, Int.toNat_natCast, Int.reduceToNat, Int.toNat_zero, Int.toNat_one, Int.reduceLE, Int.reduceLT, Int.reduceBEq, Int.reduceBNe, beq_self_eq_true, bne_self_eq_false, decide_true, decide_false,  Int.reduceNeg, toNat_pred, toNat_succ, List.length_map, cnd_t, cnd_f, grd_tt, grd_u, grd_tf, grd_ft, grd_ff, g_skip, g_ops, g_seq, g_block, g_exit, g_ret, x_c, x_o, x_l, x_b, g_b, g_nil, r_all, o_nil, g_cond, o_guard, o_call, o_callv, lk, ef, o_mv, o_pick, o_bin, o_eqs, o_eqb, o_un, o_conv, o_load, o_loads, o_fld, o_idx, o_idxs, o_len, o_lens, o_ext, o_nilck, o_slc, o_slcs, o_build, o_minmax, o_mkfn, o_alloc, o_box, o_boxs, o_row, o_rowr, o_mk, o_asg, o_app, o_store, o_stores, hv, eqAV, ev, view, rowOf, cellsOf, argv, vbin, vun, bnd, elemOf, putParts, setAt, zav, ASt.rid, ASt.free, AV.kill, AV.isHome, AV.noLoan, AV.cellOK, Value.oneCell', put_at, mk_at, mk_nil, initSt, true_and, and_true, and_self, implies_true, List.map_cons, List.map_nil, List.forall_mem_cons, List.not_mem_nil, false_implies, List.length_cons, List.length_nil, List.getD_cons_zero, List.getD_cons_succ, List.getD_nil, List.drop_succ_cons, List.drop_zero, List.take_succ_cons, List.take_zero, List.set_cons_zero, List.set_cons_succ, List.all_cons, List.all_nil, Bool.and_true, Bool.true_and, Bool.not_true, Bool.not_false, reduceCtorEq, if_true, if_false, Bool.false_eq_true, ↓reduceIte, Nat.reduceEqDiff, Nat.reduceAdd, Nat.reduceSub, Nat.reduceMul, Nat.reduceLeDiff, Nat.reduceLT, ne_eq, not_false_eq_true, not_true_eq_false, Nat.one_ne_zero, Nat.zero_ne_one]
      exact wrap_in (by omega) (by omega)
    · rintro J hJ n ⟨hn, hg⟩
      simp only [done_eq, done_eq', fin_val, fin_tup, fin_agg, fin_ro, res_one, res_more, rv_t, rv_c, rv_l, AV.tup.injEq, AV.agg.injEq, AV.ro.injEq, List.cons.injEq, int_eq, bool_eq, Int.toNat_natCast, Int.reduceToNat, Int.toNat_zero, Int.toNat_one, Int.reduceLE, Int.reduceLT, Int.reduceBEq, Int.reduceBNe, beq_self_eq_true, bne_self_eq_false, decide_true, decide_false,  Int.reduceNeg, toNat_pred, toNat_succ, List.length_map, cnd_t, cnd_f, grd_tt, grd_u, grd_tf, grd_ft, grd_ff, g_skip, g_ops, g_seq, g_block, g_exit, g_ret, x_c, x_o, x_l, x_b, g_b, g_nil, r_all, o_nil, g_cond, o_guard, o_call, o_callv, lk, ef, o_mv, o_pick, o_bin, o_eqs, o_eqb, o_un, o_conv, o_load, o_loads, o_fld, o_idx, o_idxs, o_len, o_lens, o_ext, o_nilck, o_slc, o_slcs, o_build, o_minmax, o_mkfn, o_alloc, o_box, o_boxs, o_row, o_rowr, o_mk, o_asg, o_app, o_store, o_stores, hv, eqAV, ev, view, rowOf, cellsOf, argv, vbin, vun, bnd, elemOf, putParts, setAt, zav, ASt.rid, ASt.free, AV.kill, AV.isHome, AV.noLoan, AV.cellOK, Value.oneCell', put_at, mk_at, mk_nil, initSt, true_and, and_true, and_self, implies_true, List.map_cons, List.map_nil, List.forall_mem_cons, List.not_mem_nil, false_implies, List.length_cons, List.length_nil, List.getD_cons_zero, List.getD_cons_succ, List.getD_nil, List.drop_succ_cons, List.drop_zero, List.take_succ_cons, List.take_zero, List.set_cons_zero, List.set_cons_succ, List.all_cons, List.all_nil, Bool.and_true, Bool.true_and, Bool.not_true, Bool.not_false, reduceCtorEq, if_true, if_false, Bool.false_eq_true, ↓reduceIte, Nat.reduceEqDiff, Nat.reduceAdd, Nat.reduceSub, Nat.reduceMul, Nat.reduceLeDiff, Nat.reduceLT, ne_eq, not_false_eq_true, not_true_eq_false, Nat.one_ne_zero, Nat.zero_ne_one, r24_0, r24_1, r24_2, r24_3, r24_4, r24_5, r24_6, r24_7, r24_9, r24_10, r24_11, r24_8, r24_12, p24, l24_0]
      refine condD (fun h => ?_) (fun h => ?_)
      · have hlt : n - 1 < l.length := by omega
        obtain ⟨k, rfl⟩ : ∃ k, n = k + 1 := ⟨n - 1, by omega⟩
        simp only [Nat.add_sub_cancel] at hlt
        have hk : ((k + 1 : Nat) : Int) - 1 = (k : Int) := by omega
        have hr : seek l t = if 0 ≤ IntKind.i64.wrap (t - l[k].bw) ∧ IntKind.i64.wrap (t - l[k].bw) < l[k].len then ((k : Int), IntKind.i64.wrap (t - l[k].bw), 0) else seekGo l t k := by
          rw [hg, seekGo, List.getElem?_eq_getElem hlt]
        have hw : IntKind.i64.wrap (k - 1 : Int) = (k : Int) - 1 := wrap_in (by omega) (by omega)
        have hd : IntKind.i64.wrap (IntKind.i64.wrap (t - l[k].beg) - l[k].lead) = IntKind.i64.wrap (t - l[k].bw) := wrap_sub2 _ _ _
        clear hg
        repeat' first | (with_reducible refine condD (fun h => ?_) (fun h => ?_)) | (with_reducible refine condS (fun h => ?_) (fun h => ?_)) | (with_reducible refine guardD (by with_unfolding_all rfl) (fun h => ?_) (fun h => ?_)) | (with_reducible refine guardS (by with_unfolding_all rfl) (fun h => ?_) (fun h => ?_)) | (with_reducible refine And.intro ?_ ?_; omega) | (simp only [done_eq, done_eq', fin_val, fin_tup, fin_agg, fin_ro, res_one, res_more, rv_t, rv_c, rv_l, AV.tup.injEq, AV.agg.injEq, AV.ro.injEq, List.cons.injEq, int_eq, bool_eq, Int.toNat_natCast, Int.reduceToNat, Int.toNat_zero, Int.toNat_one, Int.reduceLE, Int.reduceLT, Int.reduceBEq, Int.reduceBNe, beq_self_eq_true, bne_self_eq_false, decide_true, decide_false,  Int.reduceNeg, toNat_pred, toNat_succ, List.length_map, cnd_t, cnd_f, grd_tt, grd_u, grd_tf, grd_ft, grd_ff, g_skip, g_ops, g_seq, g_block, g_exit, g_ret, x_c, x_o, x_l, x_b, g_b, g_nil, r_all, o_nil, g_cond, o_guard, o_call, o_callv, lk, ef, o_mv, o_pick, o_bin, o_eqs, o_eqb, o_un, o_conv, o_load, o_loads, o_fld, o_idx, o_idxs, o_len, o_lens, o_ext, o_nilck, o_slc, o_slcs, o_build, o_minmax, o_mkfn, o_alloc, o_box, o_boxs, o_row, o_rowr, o_mk, o_asg, o_app, o_store, o_stores, hv, eqAV, ev, view, rowOf, cellsOf, argv, vbin, vun, bnd, elemOf, putParts, setAt, zav, ASt.rid, ASt.free, AV.kill, AV.isHome, AV.noLoan, AV.cellOK, Value.oneCell', put_at, mk_at, mk_nil, initSt, true_and, and_true, and_self, implies_true, List.map_cons, List.map_nil, List.forall_mem_cons, List.not_mem_nil, false_implies, List.length_cons, List.length_nil, List.getD_cons_zero, List.getD_cons_succ, List.getD_nil, List.drop_succ_cons, List.drop_zero, List.take_succ_cons, List.take_zero, List.set_cons_zero, List.set_cons_succ, List.all_cons, List.all_nil, Bool.and_true, Bool.true_and, Bool.not_true, Bool.not_false, reduceCtorEq, if_true, if_false, Bool.false_eq_true, ↓reduceIte, Nat.reduceEqDiff, Nat.reduceAdd, Nat.reduceSub, Nat.reduceMul, Nat.reduceLeDiff, Nat.reduceLT, ne_eq, not_false_eq_true, not_true_eq_false, Nat.one_ne_zero, Nat.zero_ne_one, r24_0, r24_1, r24_2, r24_3, r24_4, r24_5, r24_6, r24_7, r24_9, r24_10, r24_11, r24_8, r24_12, p24, l24_0, Seg.av, hk, hd, getD_map hlt]) | (exfalso; omega)
        all_goals try (clear hJ; rw [hr, if_pos (by omega)]; exact ⟨rfl, rfl, rfl⟩)
        all_goals exact again hJ k (weak_mk (by simp only [wk_cons, wk_nil, wk1, vint_eq, vbool_eq, AV.val.injEq, done_eq, done_eq', fin_val, fin_tup, fin_agg, fin_ro, res_one, res_more, rv_t, rv_c, rv_l, AV.tup.injEq, AV.agg.injEq, AV.ro.injEq, List.cons.injEq, int_eq, bool_eq, Int.toNat_natCast, Int.reduceToNat, Int.toNat_zero, Int.toNat_one, Int.reduceLE, Int.reduceLT, Int.reduceBEq, Int.reduceBNe, beq_self_eq_true, bne_self_eq_false, decide_true, decide_false,  Int.reduceNeg, toNat_pred, toNat_succ, List.length_map, cnd_t, cnd_f, grd_tt, grd_u, grd_tf, grd_ft, grd_ff, g_skip, g_ops, g_seq, g_block, g_exit, g_ret, x_c, x_o, x_l, x_b, g_b, g_nil, r_all, o_nil, g_cond, o_guard, o_call, o_callv, lk, ef, o_mv, o_pick, o_bin, o_eqs, o_eqb, o_un, o_conv, o_load, o_loads, o_fld, o_idx, o_idxs, o_len, o_lens, o_ext, o_nilck, o_slc, o_slcs, o_build, o_minmax, o_mkfn, o_alloc, o_box, o_boxs, o_row, o_rowr, o_mk, o_asg, o_app, o_store, o_stores, hv, eqAV, ev, view, rowOf, cellsOf, argv, vbin, vun, bnd, elemOf, putParts, setAt, zav, ASt.rid, ASt.free, AV.kill, AV.isHome, AV.noLoan, AV.cellOK, Value.oneCell', put_at, mk_at, mk_nil, initSt, true_and, and_true, and_self, implies_true, List.map_cons, List.map_nil, List.forall_mem_cons, List.not_mem_nil, false_implies, List.length_cons, List.length_nil, List.getD_cons_zero, List.getD_cons_succ, List.getD_nil, List.drop_succ_cons, List.drop_zero, List.take_succ_cons, List.take_zero, List.set_cons_zero, List.set_cons_succ, List.all_cons, List.all_nil, Bool.and_true, Bool.true_and, Bool.not_true, Bool.not_false, reduceCtorEq, if_true, if_false, Bool.false_eq_true, ↓reduceIte, Nat.reduceEqDiff, Nat.reduceAdd, Nat.reduceSub, Nat.reduceMul, Nat.reduceLeDiff, Nat.reduceLT, ne_eq, not_false_eq_true, not_true_eq_false, Nat.one_ne_zero, Nat.zero_ne_one]; exact hw)) ⟨by omega, by rw [hr, if_neg (by omega)]⟩ (by omega)
      · have hke : n = 0 := by omega
        subst hke
        repeat' first | (with_reducible refine condD (fun h => ?_) (fun h => ?_)) | (with_reducible refine condS (fun h => ?_) (fun h => ?_)) | (with_reducible refine guardD (by with_unfolding_all rfl) (fun h => ?_) (fun h => ?_)) | (with_reducible refine guardS (by with_unfolding_all rfl) (fun h => ?_) (fun h => ?_)) | (with_reducible refine And.intro ?_ ?_; omega) | (simp only [done_eq, done_eq', fin_val, fin_tup, fin_agg, fin_ro, res_one, res_more, rv_t, rv_c, rv_l, AV.tup.injEq, AV.agg.injEq, AV.ro.injEq, List.cons.injEq, int_eq, bool_eq, Int.toNat_natCast, Int.reduceToNat, Int.toNat_zero, Int.toNat_one, Int.reduceLE, Int.reduceLT, Int.reduceBEq, Int.reduceBNe, beq_self_eq_true, bne_self_eq_false, decide_true, decide_false,  Int.reduceNeg, toNat_pred, toNat_succ, List.length_map, cnd_t, cnd_f, grd_tt, grd_u, grd_tf, grd_ft, grd_ff, g_skip, g_ops, g_seq, g_block, g_exit, g_ret, x_c, x_o, x_l, x_b, g_b, g_nil, r_all, o_nil, g_cond, o_guard, o_call, o_callv, lk, ef, o_mv, o_pick, o_bin, o_eqs, o_eqb, o_un, o_conv, o_load, o_loads, o_fld, o_idx, o_idxs, o_len, o_lens, o_ext, o_nilck, o_slc, o_slcs, o_build, o_minmax, o_mkfn, o_alloc, o_box, o_boxs, o_row, o_rowr, o_mk, o_asg, o_app, o_store, o_stores, hv, eqAV, ev, view, rowOf, cellsOf, argv, vbin, vun, bnd, elemOf, putParts, setAt, zav, ASt.rid, ASt.free, AV.kill, AV.isHome, AV.noLoan, AV.cellOK, Value.oneCell', put_at, mk_at, mk_nil, initSt, true_and, and_true, and_self, implies_true, List.map_cons, List.map_nil, List.forall_mem_cons, List.not_mem_nil, false_implies, List.length_cons, List.length_nil, List.getD_cons_zero, List.getD_cons_succ, List.getD_nil, List.drop_succ_cons, List.drop_zero, List.take_succ_cons, List.take_zero, List.set_cons_zero, List.set_cons_succ, List.all_cons, List.all_nil, Bool.and_true, Bool.true_and, Bool.not_true, Bool.not_false, reduceCtorEq, if_true, if_false, Bool.false_eq_true, ↓reduceIte, Nat.reduceEqDiff, Nat.reduceAdd, Nat.reduceSub, Nat.reduceMul, Nat.reduceLeDiff, Nat.reduceLT, ne_eq, not_false_eq_true, not_true_eq_false, Nat.one_ne_zero, Nat.zero_ne_one, r24_0, r24_1, r24_2, r24_3, r24_4, r24_5, r24_6, r24_7, r24_9, r24_10, r24_11, r24_8, r24_12, p24, l24_0]) | (exfalso; omega)
        simp [hg, seekGo]
/-! headend/headendref4.Fetch -/
def r25_0 : List POp := [⟨4, .boxs (.t 1), none⟩,
  ⟨6, .alloc [.int .i64 0, .int .i64 0], none⟩,
  ⟨7, .asg (.c (.int .i64 0)), none⟩]
def r25_1 : List POp := [⟨16, .mv (.t 0), none⟩,
  ⟨17, .mv (.t 2), none⟩,
  ⟨18, .call 42 [.t 16, .t 17], none⟩,
  ⟨15, .mv (.t 18), none⟩,
  ⟨19, .ext 0 (.t 15), none⟩,
  ⟨20, .ext 1 (.t 15), none⟩,
  ⟨8, .asg (.t 19), none⟩,
  ⟨9, .asg (.t 20), none⟩]
def r25_2 : List POp := [⟨21, .mv (.t 9), none⟩,
  ⟨22, .bin .neq (.t 21) (.c (.int .i64 0)), none⟩]
def r25_3 : List POp := [⟨23, .build [.int .i64 0, .int .i64 0] [], none⟩,
  ⟨24, .mv (.t 9), none⟩,
  ⟨0, .stores 2 (.t 6) (.t 23), none⟩,
  ⟨7, .asg (.t 24), none⟩]
def r25_4 : List POp := [⟨25, .mv (.t 0), none⟩,
  ⟨26, .call 43 [.t 25], none⟩,
  ⟨10, .asg (.t 26), none⟩]
def r25_5 : List POp := [⟨27, .mv (.t 10), none⟩,
  ⟨28, .bin .neq (.t 27) (.c (.int .i64 0)), none⟩]
def r25_6 : List POp := [⟨29, .build [.int .i64 0, .int .i64 0] [], none⟩,
  ⟨30, .mv (.t 10), none⟩,
  ⟨0, .stores 2 (.t 6) (.t 29), none⟩,
  ⟨7, .asg (.t 30), none⟩]
def r25_7 : List POp := [⟨31, .fld 0 (.t 4), none⟩,
  ⟨32, .load (.t 31), none⟩,
  ⟨33, .call 35 [.t 32], none⟩,
  ⟨34, .un .not (.t 33), none⟩,
  ⟨35, .mv (.t 34), none⟩,
  ⟨36, .fld 1 (.t 4), some (35, false)⟩,
  ⟨37, .load (.t 36), some (35, false)⟩,
  ⟨38, .call 35 [.t 37], some (35, false)⟩,
  ⟨39, .un .not (.t 38), some (35, false)⟩,
  ⟨40, .pick (.t 35) (.c (.bool true)) (.t 39), none⟩]
def r25_8 : List POp := [⟨41, .build [.int .i64 0, .int .i64 0] [], none⟩,
  ⟨0, .stores 2 (.t 6) (.t 41), none⟩,
  ⟨7, .asg (.c (.int .i64 1)), none⟩]
def r25_9 : List POp := [⟨42, .fld 1 (.t 4), none⟩,
  ⟨43, .load (.t 42), none⟩,
  ⟨44, .fld 0 (.t 4), none⟩,
  ⟨45, .load (.t 44), none⟩,
  ⟨46, .bin .leq (.t 43) (.t 45), none⟩]
def r25_10 : List POp := [⟨47, .build [.int .i64 0, .int .i64 0] [], none⟩,
  ⟨0, .stores 2 (.t 6) (.t 47), none⟩,
  ⟨7, .asg (.c (.int .i64 8)), none⟩]
def r25_11 : List POp := [⟨11, .asg (.c (.int .i64 (-1))), none⟩,
  ⟨12, .asg (.c (.int .i64 (-1))), none⟩]
def r25_12 : List POp := [⟨13, .asg (.c (.int .i64 0)), none⟩]
def r25_13 : List POp := [⟨48, .mv (.t 13), none⟩,
  ⟨49, .mv (.t 0), none⟩,
  ⟨50, .len (.t 49), none⟩,
  ⟨51, .bin .lss (.t 48) (.t 50), none⟩]
def r25_15 : List POp := [⟨54, .mv (.t 0), none⟩,
  ⟨55, .mv (.t 13), none⟩,
  ⟨56, .idx 7 (.t 54) (.t 55), none⟩,
  ⟨57, .fld 3 (.t 56), none⟩,
  ⟨58, .load (.t 57), none⟩,
  ⟨59, .mv (.t 0), none⟩,
  ⟨60, .mv (.t 13), none⟩,
  ⟨61, .idx 7 (.t 59) (.t 60), none⟩,
  ⟨62, .fld 6 (.t 61), none⟩,
  ⟨63, .load (.t 62), none⟩,
  ⟨64, .bin .add (.t 58) (.t 63), none⟩,
  ⟨14, .asg (.t 64), none⟩]
def r25_16 : List POp := [⟨65, .mv (.t 14), none⟩,
  ⟨66, .fld 0 (.t 4), none⟩,
  ⟨67, .load (.t 66), none⟩,
  ⟨68, .minmax true (.t 65) (.t 67), none⟩,
  ⟨69, .mv (.t 14), none⟩,
  ⟨70, .mv (.t 0), none⟩,
  ⟨71, .mv (.t 13), none⟩,
  ⟨72, .idx 7 (.t 70) (.t 71), none⟩,
  ⟨73, .fld 4 (.t 72), none⟩,
  ⟨74, .load (.t 73), none⟩,
  ⟨75, .bin .add (.t 69) (.t 74), none⟩,
  ⟨76, .fld 1 (.t 4), none⟩,
  ⟨77, .load (.t 76), none⟩,
  ⟨78, .minmax false (.t 75) (.t 77), none⟩,
  ⟨79, .bin .lss (.t 68) (.t 78), none⟩]
def r25_17 : List POp := [⟨80, .mv (.t 11), none⟩,
  ⟨81, .bin .lss (.t 80) (.c (.int .i64 0)), none⟩]
def r25_18 : List POp := [⟨82, .mv (.t 13), none⟩,
  ⟨11, .asg (.t 82), none⟩]
def r25_19 : List POp := [⟨83, .mv (.t 13), none⟩,
  ⟨12, .asg (.t 83), none⟩]
def r25_14 : List POp := [⟨52, .mv (.t 13), none⟩,
  ⟨53, .bin .add (.t 52) (.c (.int .i64 1)), none⟩,
  ⟨13, .asg (.t 53), none⟩]
def r25_20 : List POp := [⟨84, .mv (.t 11), none⟩,
  ⟨85, .bin .lss (.t 84) (.c (.int .i64 0)), none⟩]
def r25_21 : List POp := [⟨86, .build [.int .i64 0, .int .i64 0] [], none⟩,
  ⟨0, .stores 2 (.t 6) (.t 86), none⟩,
  ⟨7, .asg (.c (.int .i64 9)), none⟩]
def r25_22 : List POp := [⟨87, .mv (.t 8), none⟩,
  ⟨88, .mv (.t 11), none⟩,
  ⟨89, .idx 2 (.t 87) (.t 88), none⟩,
  ⟨90, .fld 0 (.t 89), none⟩,
  ⟨91, .load (.t 90), none⟩,
  ⟨92, .mv (.t 8), none⟩,
  ⟨93, .mv (.t 12), none⟩,
  ⟨94, .idx 2 (.t 92) (.t 93), none⟩,
  ⟨95, .fld 1 (.t 94), none⟩,
  ⟨96, .load (.t 95), none⟩,
  ⟨97, .build [.int .i64 0, .int .i64 0] [(0, 1, .t 91), (1, 1, .t 96)], none⟩,
  ⟨0, .stores 2 (.t 6) (.t 97), none⟩,
  ⟨7, .asg (.c (.int .i64 0)), none⟩]
def l25_0 : PCode := .seq (.seq (.ops r25_13) (.cond (.t 51) (.skip) (.exit 0))) (.seq (.block 1 (.seq (.ops r25_15) (.seq (.ops r25_16) (.cond (.t 79) (.seq (.seq (.ops r25_17) (.cond (.t 81) (.ops r25_18) (.skip))) (.ops r25_19)) (.skip))))) (.ops r25_14))
def p25 : PCode := .seq (.ops r25_0) (.seq (.ops r25_1) (.seq (.seq (.ops r25_2) (.cond (.t 22) (.seq (.ops r25_3) (.ret)) (.skip))) (.seq (.seq (.ops r25_4) (.seq (.ops r25_5) (.cond (.t 28) (.seq (.ops r25_6) (.ret)) (.skip)))) (.seq (.seq (.ops r25_7) (.cond (.t 40) (.seq (.ops r25_8) (.ret)) (.skip))) (.seq (.seq (.ops r25_9) (.cond (.t 46) (.seq (.ops r25_10) (.ret)) (.skip))) (.seq (.ops r25_11) (.seq (.seq (.ops r25_12) (.block 0 (.loop l25_0))) (.seq (.seq (.ops r25_20) (.cond (.t 85) (.seq (.ops r25_21) (.ret)) (.skip))) (.seq (.ops r25_22) (.ret))))))))))
theorem ok25 : okFunc Try.prog 25 [.c 6 2, .t 7] 3 p25 = true := by kernel_rfl
theorem fetchr_c (l : List Seg) (a b st : Int) : CallOK Try.prog 25 [.ro (l.map Seg.av), .agg [.val (.int .i64 a), .val (.int .i64 b)], .val (.int .i64 st)] (.tup [.agg (fetch l a b st).1.av, .val (.int .i64 (fetch l a b st).2)]) := by
  refine call_of mixed ok25 rfl ?_
  repeat' first | (with_reducible refine condD (fun h => ?_) (fun h => ?_)) | (with_reducible refine condS (fun h => ?_) (fun h => ?_)) | (with_reducible refine guardD (by with_unfolding_all rfl) (fun h => ?_) (fun h => ?_)) | (with_reducible refine guardS (by with_unfolding_all rfl) (fun h => ?_) (fun h => ?_)) | ((refine callG (rngr_c _ _) ?_)) | ((refine callG (timed_c _) ?_)) | ((refine callG (istime_c _) ?_)) | (with_reducible refine And.intro ?_ ?_; omega) | (simp only [done_eq, done_eq', fin_val, fin_tup, fin_agg, fin_ro, res_one, res_more, rv_t, rv_c, rv_l, AV.tup.injEq, AV.agg.injEq, AV.ro.injEq, List.cons.injEq, int_eq, bool_eq, Int.toNat_natCast, Int.reduceToNat, Int.toNat_zero, Int.toNat_one, Int.reduceLE, Int.reduceLT, Int.reduceBEq, Int.reduceBNe, beq_self_eq_true, bne_self_eq_false, decide_true, decide_false,  Int.reduceNeg, toNat_pred, toNat_succ, List.length_map, cnd_t, cnd_f, grd_tt, grd_u, grd_tf, grd_ft, grd_ff, g_skip, g_ops, g_seq, g_block, g_exit, g_ret, x_c, x_o, x_l, x_b, g_b, g_nil, r_all, o_nil, g_cond, o_guard, o_call, o_callv, lk, ef, o_mv, o_pick, o_bin, o_eqs, o_eqb, o_un, o_conv, o_load, o_loads, o_fld, o_idx, o_idxs, o_len, o_lens, o_ext, o_nilck, o_slc, o_slcs, o_build, o_minmax, o_mkfn, o_alloc, o_box, o_boxs, o_row, o_rowr, o_mk, o_asg, o_app, o_store, o_stores, hv, eqAV, ev, view, rowOf, cellsOf, argv, vbin, vun, bnd, elemOf, putParts, setAt, zav, ASt.rid, ASt.free, AV.kill, AV.isHome, AV.noLoan, AV.cellOK, Value.oneCell', put_at, mk_at, mk_nil, initSt, true_and, and_true, and_self, implies_true, List.map_cons, List.map_nil, List.forall_mem_cons, List.not_mem_nil, false_implies, List.length_cons, List.length_nil, List.getD_cons_zero, List.getD_cons_succ, List.getD_nil, List.drop_succ_cons, List.drop_zero, List.take_succ_cons, List.take_zero, List.set_cons_zero, List.set_cons_succ, List.all_cons, List.all_nil, Bool.and_true, Bool.true_and, Bool.not_true, Bool.not_false, reduceCtorEq, if_true, if_false, Bool.false_eq_true, ↓reduceIte, Nat.reduceEqDiff, Nat.reduceAdd, Nat.reduceSub, Nat.reduceMul, Nat.reduceLeDiff, Nat.reduceLT, ne_eq, not_false_eq_true, not_true_eq_false, Nat.one_ne_zero, Nat.zero_ne_one, r25_0, r25_1, r25_2, r25_3, r25_4, r25_5, r25_6, r25_7, r25_8, r25_9, r25_10, r25_11, r25_12, r25_13, r25_15, r25_16, r25_17, r25_18, r25_19, r25_14, r25_20, r25_21, r25_22, p25]) | (exfalso; omega)
  all_goals try (simp only [bne_iff_ne, bne_eq_false_iff_eq, ne_eq, Bool.not_eq_true', Bool.not_eq_false', Bool.not_not, Bool.not_eq_true, Bool.not_eq_false] at *)
  all_goals try (simp [fetch, firstF, Rg.av, *]; done)
  rename_i h3 z1 z2 h1
  have h2 := h
  have hl := row_len z2
  have hrl := rng_len z1
  have hF : fetch l a b st = if (fetGo a b 0 (-1, -1) l).1 < 0 then (⟨0, 0⟩, 9) else (⟨((rng l st).1.getD (fetGo a b 0 (-1, -1) l).1.toNat ⟨0, 0⟩).frm, ((rng l st).1.getD (fetGo a b 0 (-1, -1) l).2.toNat ⟨0, 0⟩).to⟩, 0) := by
    simp [fetch, firstF, z1, z2, h1, h2, h3]
  refine loopS (fun p : Nat × Int × Int => mk [(0, .ro (l.map Seg.av)), (4, .box [.val (.int .i64 a), .val (.int .i64 b)]), (6, .box [.val (.int .i64 0), .val (.int .i64 0)]), (8, .ro ((rng l st).1.map Rg.av)), (11, .val (.int .i64 p.2.1)), (12, .val (.int .i64 p.2.2)), (13, .val (.int .i64 p.1))])
    (fun p => p.1 ≤ l.length ∧ ((p.2.1 = -1 ∧ p.2.2 = -1) ∨ (0 ≤ p.2.1 ∧ p.2.1 < l.length ∧ 0 ≤ p.2.2 ∧ p.2.2 < l.length)) ∧ fetGo a b 0 (-1, -1) l = fetGo a b p.1 p.2 (l.drop p.1)) (fun p => l.length - p.1) (0, -1, -1) (weak_mk ?_) ⟨Nat.zero_le _, .inl ⟨rfl, rfl⟩, by simp⟩ ?_
  · simp only [wk_cons, wk_nil, wk1, vint_eq, vbool_eq, AV.val.injEq, done_eq, done_eq', fin_val, fin_tup, fin_agg, fin_ro, res_one, res_more, rv_t, rv_c, rv_l, AV.tup.injEq, AV.agg.injEq, AV.ro.injEq, List.cons.injEq, int_eq, bool_eq, Int.toNat_natCast, Int.reduceToNat, Int.toNat_zero, Int.toNat_one, Int.reduceLE, Int.reduceLT, Int.reduceBEq, Int.reduceBNe, beq_self_eq_true, bne_self_eq_false, decide_true, decide_false,  Int.reduceNeg, toNat_pred, toNat_succ, List.length_map, cnd_t, cnd_f, grd_tt, grd_u, grd_tf, grd_ft, grd_ff, g_skip, g_ops, g_seq, g_block, g_exit, g_ret, x_c, x_o, x_l, x_b, g_b, g_nil, r_all, o_nil, g_cond, o_guard, o_call, o_callv, lk, ef, o_mv, o_pick, o_bin, o_eqs, o_eqb, o_un, o_conv, o_load, o_loads, o_fld, o_idx, o_idxs, o_len, o_lens, o_ext, o_nilck, o_slc, o_slcs, o_build, o_minmax, o_mkfn, o_alloc, o_box, o_boxs, o_row, o_rowr, o_mk, o_asg, o_app, o_store, o_stores, hv, eqAV, ev, view, rowOf, cellsOf, argv, vbin, vun, bnd, elemOf, putParts, setAt, zav, ASt.rid, ASt.free, AV.kill, AV.isHome, AV.noLoan, AV.cellOK, Value.oneCell', put_at, mk_at, mk_nil, initSt, true_and, and_true, and_self, implies_true, List.map_cons, List.map_nil, List.forall_mem_cons, List.not_mem_nil, false_implies, List.length_cons, List.length_nil, List.getD_cons_zero, List.getD_cons_succ, List.getD_nil, List.drop_succ_cons, List.drop_zero, List.take_succ_cons, List.take_zero, List.set_cons_zero, List.set_cons_succ, List.all_cons, List.all_nil, Bool.and_true, Bool.true_and, Bool.not_true, Bool.not_false, reduceCtorEq, if_true, if_false, Bool.false_eq_true, ↓reduceIte, Nat.reduceEqDiff, Nat.reduceAdd, Nat.reduceSub, Nat.reduceMul, Nat.reduceLeDiff, Nat.reduceLT, ne_eq, not_false_eq_true, not_true_eq_false, Nat.one_ne_zero, Nat.zero_ne_one]
    simp
  · rintro J hJ ⟨k, x, y⟩ ⟨hk, hxy, hg⟩
    simp only at hk hxy hg
    simp only [done_eq, done_eq', fin_val, fin_tup, fin_agg, fin_ro, res_one, res_more, rv_t, rv_c, rv_l, AV.tup.injEq, AV.agg.injEq, AV.ro.injEq, List.cons.injEq, int_eq, bool_eq, Int.toNat_natCast, Int.reduceToNat, Int.toNat_zero, Int.toNat_one, Int.reduceLE, Int.reduceLT, Int.reduceBEq, Int.reduceBNe, beq_self_eq_true, bne_self_eq_false, decide_true, decide_false,  Int.reduceNeg, toNat_pred, toNat_succ, List.length_map, cnd_t, cnd_f, grd_tt, grd_u, grd_tf, grd_ft, grd_ff, g_skip, g_ops, g_seq, g_block, g_exit, g_ret, x_c, x_o, x_l, x_b, g_b, g_nil, r_all, o_nil, g_cond, o_guard, o_call, o_callv, lk, ef, o_mv, o_pick, o_bin, o_eqs, o_eqb, o_un, o_conv, o_load, o_loads, o_fld, o_idx, o_idxs, o_len, o_lens, o_ext, o_nilck, o_slc, o_slcs, o_build, o_minmax, o_mkfn, o_alloc, o_box, o_boxs, o_row, o_rowr, o_mk, o_asg, o_app, o_store, o_stores, hv, eqAV, ev, view, rowOf, cellsOf, argv, vbin, vun, bnd, elemOf, putParts, setAt, zav, ASt.rid, ASt.free, AV.kill, AV.isHome, AV.noLoan, AV.cellOK, Value.oneCell', put_at, mk_at, mk_nil, initSt, true_and, and_true, and_self, implies_true, List.map_cons, List.map_nil, List.forall_mem_cons, List.not_mem_nil, false_implies, List.length_cons, List.length_nil, List.getD_cons_zero, List.getD_cons_succ, List.getD_nil, List.drop_succ_cons, List.drop_zero, List.take_succ_cons, List.take_zero, List.set_cons_zero, List.set_cons_succ, List.all_cons, List.all_nil, Bool.and_true, Bool.true_and, Bool.not_true, Bool.not_false, reduceCtorEq, if_true, if_false, Bool.false_eq_true, ↓reduceIte, Nat.reduceEqDiff, Nat.reduceAdd, Nat.reduceSub, Nat.reduceMul, Nat.reduceLeDiff, Nat.reduceLT, ne_eq, not_false_eq_true, not_true_eq_false, Nat.one_ne_zero, Nat.zero_ne_one, r25_0, r25_1, r25_2, r25_3, r25_4, r25_5, r25_6, r25_7, r25_8, r25_9, r25_10, r25_11, r25_12, r25_13, r25_15, r25_16, r25_17, r25_18, r25_19, r25_14, r25_20, r25_21, r25_22, p25, l25_0]
    refine condD (fun h => ?_) (fun h => ?_)
    · have hlt : k < l.length := by omega
      have hr : fetGo a b 0 (-1, -1) l = fetGo a b (k + 1) (if meets a b l[k] then (if x < 0 then k else x, k) else (x, y)) (l.drop (k + 1)) := by rw [hg, List.drop_eq_getElem_cons hlt, fetGo]
      have hw : IntKind.i64.wrap (k + 1 : Int) = ((k + 1 : Nat) : Int) := wrap_in (by omega) (by omega)
      have hb : IntKind.i64.wrap (l[k].beg + l[k].lead) = l[k].bw := rfl
      clear hg
      repeat' first | (with_reducible refine condD (fun h => ?_) (fun h => ?_)) | (with_reducible refine condS (fun h => ?_) (fun h => ?_)) | (with_reducible refine guardD (by with_unfolding_all rfl) (fun h => ?_) (fun h => ?_)) | (with_reducible refine guardS (by with_unfolding_all rfl) (fun h => ?_) (fun h => ?_)) | (with_reducible refine And.intro ?_ ?_; omega) | (simp only [done_eq, done_eq', fin_val, fin_tup, fin_agg, fin_ro, res_one, res_more, rv_t, rv_c, rv_l, AV.tup.injEq, AV.agg.injEq, AV.ro.injEq, List.cons.injEq, int_eq, bool_eq, Int.toNat_natCast, Int.reduceToNat, Int.toNat_zero, Int.toNat_one, Int.reduceLE, Int.reduceLT, Int.reduceBEq, Int.reduceBNe, beq_self_eq_true, bne_self_eq_false, decide_true, decide_false,  Int.reduceNeg, toNat_pred, toNat_succ, List.length_map, cnd_t, cnd_f, grd_tt, grd_u, grd_tf, grd_ft, grd_ff, g_skip, g_ops, g_seq, g_block, g_exit, g_ret, x_c, x_o, x_l, x_b, g_b, g_nil, r_all, o_nil, g_cond, o_guard, o_call, o_callv, lk, ef, o_mv, o_pick, o_bin, o_eqs, o_eqb, o_un, o_conv, o_load, o_loads, o_fld, o_idx, o_idxs, o_len, o_lens, o_ext, o_nilck, o_slc, o_slcs, o_build, o_minmax, o_mkfn, o_alloc, o_box, o_boxs, o_row, o_rowr, o_mk, o_asg, o_app, o_store, o_stores, hv, eqAV, ev, view, rowOf, cellsOf, argv, vbin, vun, bnd, elemOf, putParts, setAt, zav, ASt.rid, ASt.free, AV.kill, AV.isHome, AV.noLoan, AV.cellOK, Value.oneCell', put_at, mk_at, mk_nil, initSt, true_and, and_true, and_self, implies_true, List.map_cons, List.map_nil, List.forall_mem_cons, List.not_mem_nil, false_implies, List.length_cons, List.length_nil, List.getD_cons_zero, List.getD_cons_succ, List.getD_nil, List.drop_succ_cons, List.drop_zero, List.take_succ_cons, List.take_zero, List.set_cons_zero, List.set_cons_succ, List.all_cons, List.all_nil, Bool.and_true, Bool.true_and, Bool.not_true, Bool.not_false, reduceCtorEq, if_true, if_false, Bool.false_eq_true, ↓reduceIte, Nat.reduceEqDiff, Nat.reduceAdd, Nat.reduceSub, Nat.reduceMul, Nat.reduceLeDiff, Nat.reduceLT, ne_eq, not_false_eq_true, not_true_eq_false, Nat.one_ne_zero, Nat.zero_ne_one, r25_0, r25_1, r25_2, r25_3, r25_4, r25_5, r25_6, r25_7, r25_8, r25_9, r25_10, r25_11, r25_12, r25_13, r25_15, r25_16, r25_17, r25_18, r25_19, r25_14, r25_20, r25_21, r25_22, p25, l25_0, Seg.av, hb, getD_map hlt]) | (exfalso; omega)
      · exact again hJ (k + 1, k, k) (weak_mk (by simp only [wk_cons, wk_nil, wk1, vint_eq, vbool_eq, AV.val.injEq, done_eq, done_eq', fin_val, fin_tup, fin_agg, fin_ro, res_one, res_more, rv_t, rv_c, rv_l, AV.tup.injEq, AV.agg.injEq, AV.ro.injEq, List.cons.injEq, int_eq, bool_eq, Int.toNat_natCast, Int.reduceToNat, Int.toNat_zero, Int.toNat_one, Int.reduceLE, Int.reduceLT, Int.reduceBEq, Int.reduceBNe, beq_self_eq_true, bne_self_eq_false, decide_true, decide_false,  Int.reduceNeg, toNat_pred, toNat_succ, List.length_map, cnd_t, cnd_f, grd_tt, grd_u, grd_tf, grd_ft, grd_ff, g_skip, g_ops, g_seq, g_block, g_exit, g_ret, x_c, x_o, x_l, x_b, g_b, g_nil, r_all, o_nil, g_cond, o_guard, o_call, o_callv, lk, ef, o_mv, o_pick, o_bin, o_eqs, o_eqb, o_un, o_conv, o_load, o_loads, o_fld, o_idx, o_idxs, o_len, o_lens, o_ext, o_nilck, o_slc, o_slcs, o_build, o_minmax, o_mkfn, o_alloc, o_box, o_boxs, o_row, o_rowr, o_mk, o_asg, o_app, o_store, o_stores, hv, eqAV, ev, view, rowOf, cellsOf, argv, vbin, vun, bnd, elemOf, putParts, setAt, zav, ASt.rid, ASt.free, AV.kill, AV.isHome, AV.noLoan, AV.cellOK, Value.oneCell', put_at, mk_at, mk_nil, initSt, true_and, and_true, and_self, implies_true, List.map_cons, List.map_nil, List.forall_mem_cons, List.not_mem_nil, false_implies, List.length_cons, List.length_nil, List.getD_cons_zero, List.getD_cons_succ, List.getD_nil, List.drop_succ_cons, List.drop_zero, List.take_succ_cons, List.take_zero, List.set_cons_zero, List.set_cons_succ, List.all_cons, List.all_nil, Bool.and_true, Bool.true_and, Bool.not_true, Bool.not_false, reduceCtorEq, if_true, if_false, Bool.false_eq_true, ↓reduceIte, Nat.reduceEqDiff, Nat.reduceAdd, Nat.reduceSub, Nat.reduceMul, Nat.reduceLeDiff, Nat.reduceLT, ne_eq, not_false_eq_true, not_true_eq_false, Nat.one_ne_zero, Nat.zero_ne_one]; exact hw)) ⟨by omega, by simp; omega, by rw [hr, if_pos (by simp [meets, *, -hJ]), if_pos (by omega)]⟩ (by simp only; omega)
      · exact again hJ (k + 1, x, k) (weak_mk (by simp only [wk_cons, wk_nil, wk1, vint_eq, vbool_eq, AV.val.injEq, done_eq, done_eq', fin_val, fin_tup, fin_agg, fin_ro, res_one, res_more, rv_t, rv_c, rv_l, AV.tup.injEq, AV.agg.injEq, AV.ro.injEq, List.cons.injEq, int_eq, bool_eq, Int.toNat_natCast, Int.reduceToNat, Int.toNat_zero, Int.toNat_one, Int.reduceLE, Int.reduceLT, Int.reduceBEq, Int.reduceBNe, beq_self_eq_true, bne_self_eq_false, decide_true, decide_false,  Int.reduceNeg, toNat_pred, toNat_succ, List.length_map, cnd_t, cnd_f, grd_tt, grd_u, grd_tf, grd_ft, grd_ff, g_skip, g_ops, g_seq, g_block, g_exit, g_ret, x_c, x_o, x_l, x_b, g_b, g_nil, r_all, o_nil, g_cond, o_guard, o_call, o_callv, lk, ef, o_mv, o_pick, o_bin, o_eqs, o_eqb, o_un, o_conv, o_load, o_loads, o_fld, o_idx, o_idxs, o_len, o_lens, o_ext, o_nilck, o_slc, o_slcs, o_build, o_minmax, o_mkfn, o_alloc, o_box, o_boxs, o_row, o_rowr, o_mk, o_asg, o_app, o_store, o_stores, hv, eqAV, ev, view, rowOf, cellsOf, argv, vbin, vun, bnd, elemOf, putParts, setAt, zav, ASt.rid, ASt.free, AV.kill, AV.isHome, AV.noLoan, AV.cellOK, Value.oneCell', put_at, mk_at, mk_nil, initSt, true_and, and_true, and_self, implies_true, List.map_cons, List.map_nil, List.forall_mem_cons, List.not_mem_nil, false_implies, List.length_cons, List.length_nil, List.getD_cons_zero, List.getD_cons_succ, List.getD_nil, List.drop_succ_cons, List.drop_zero, List.take_succ_cons, List.take_zero, List.set_cons_zero, List.set_cons_succ, List.all_cons, List.all_nil, Bool.and_true, Bool.true_and, Bool.not_true, Bool.not_false, reduceCtorEq, if_true, if_false, Bool.false_eq_true, ↓reduceIte, Nat.reduceEqDiff, Nat.reduceAdd, Nat.reduceSub, Nat.reduceMul, Nat.reduceLeDiff, Nat.reduceLT, ne_eq, not_false_eq_true, not_true_eq_false, Nat.one_ne_zero, Nat.zero_ne_one]; exact hw)) ⟨by omega, by simp; omega, by rw [hr, if_pos (by simp [meets, *, -hJ]), if_neg (by omega)]⟩ (by simp only; omega)
      · exact again hJ (k + 1, x, y) (weak_mk (by simp only [wk_cons, wk_nil, wk1, vint_eq, vbool_eq, AV.val.injEq, done_eq, done_eq', fin_val, fin_tup, fin_agg, fin_ro, res_one, res_more, rv_t, rv_c, rv_l, AV.tup.injEq, AV.agg.injEq, AV.ro.injEq, List.cons.injEq, int_eq, bool_eq, Int.toNat_natCast, Int.reduceToNat, Int.toNat_zero, Int.toNat_one, Int.reduceLE, Int.reduceLT, Int.reduceBEq, Int.reduceBNe, beq_self_eq_true, bne_self_eq_false, decide_true, decide_false,  Int.reduceNeg, toNat_pred, toNat_succ, List.length_map, cnd_t, cnd_f, grd_tt, grd_u, grd_tf, grd_ft, grd_ff, g_skip, g_ops, g_seq, g_block, g_exit, g_ret, x_c, x_o, x_l, x_b, g_b, g_nil, r_all, o_nil, g_cond, o_guard, o_call, o_callv, lk, ef, o_mv, o_pick, o_bin, o_eqs, o_eqb, o_un, o_conv, o_load, o_loads, o_fld, o_idx, o_idxs, o_len, o_lens, o_ext, o_nilck, o_slc, o_slcs, o_build, o_minmax, o_mkfn, o_alloc, o_box, o_boxs, o_row, o_rowr, o_mk, o_asg, o_app, o_store, o_stores, hv, eqAV, ev, view, rowOf, cellsOf, argv, vbin, vun, bnd, elemOf, putParts, setAt, zav, ASt.rid, ASt.free, AV.kill, AV.isHome, AV.noLoan, AV.cellOK, Value.oneCell', put_at, mk_at, mk_nil, initSt, true_and, and_true, and_self, implies_true, List.map_cons, List.map_nil, List.forall_mem_cons, List.not_mem_nil, false_implies, List.length_cons, List.length_nil, List.getD_cons_zero, List.getD_cons_succ, List.getD_nil, List.drop_succ_cons, List.drop_zero, List.take_succ_cons, List.take_zero, List.set_cons_zero, List.set_cons_succ, List.all_cons, List.all_nil, Bool.and_true, Bool.true_and, Bool.not_true, Bool.not_false, reduceCtorEq, if_true, if_false, Bool.false_eq_true, ↓reduceIte, Nat.reduceEqDiff, Nat.reduceAdd, Nat.reduceSub, Nat.reduceMul, Nat.reduceLeDiff, Nat.reduceLT, ne_eq, not_false_eq_true, not_true_eq_false, Nat.one_ne_zero, Nat.zero_ne_one]; exact hw)) ⟨by omega, by simp; omega, by rw [hr, if_neg (by simp [meets, *, -hJ])]⟩ (by simp only; omega)
    · have hke : k = l.length := by omega
      subst hke
      have hg' : fetGo a b 0 (-1, -1) l = (x, y) := by rw [hg]; simp [fetGo]
      rw [hg'] at hF
      clear hg hg' hJ
      rcases hxy with ⟨rfl, rfl⟩ | ⟨x1, x2, y1, y2⟩
      · repeat' first | (with_reducible refine condD (fun h => ?_) (fun h => ?_)) | (with_reducible refine condS (fun h => ?_) (fun h => ?_)) | (with_reducible refine guardD (by with_unfolding_all rfl) (fun h => ?_) (fun h => ?_)) | (with_reducible refine guardS (by with_unfolding_all rfl) (fun h => ?_) (fun h => ?_)) | (with_reducible refine And.intro ?_ ?_; omega) | (simp only [done_eq, done_eq', fin_val, fin_tup, fin_agg, fin_ro, res_one, res_more, rv_t, rv_c, rv_l, AV.tup.injEq, AV.agg.injEq, AV.ro.injEq, List.cons.injEq, int_eq, bool_eq, Int.toNat_natCast, Int.reduceToNat, Int.toNat_zero, Int.toNat_one, Int.reduceLE, Int.reduceLT, Int.reduceBEq, Int.reduceBNe, beq_self_eq_true, bne_self_eq_false, decide_true, decide_false,  Int.reduceNeg, toNat_pred, toNat_succ, List.length_map, cnd_t, cnd_f, grd_tt, grd_u, grd_tf, grd_ft, grd_ff, g_skip, g_ops, g_seq, g_block, g_exit, g_ret, x_c, x_o, x_l, x_b, g_b, g_nil, r_all, o_nil, g_cond, o_guard, o_call, o_callv, lk, ef, o_mv, o_pick, o_bin, o_eqs, o_eqb, o_un, o_conv, o_load, o_loads, o_fld, o_idx, o_idxs, o_len, o_lens, o_ext, o_nilck, o_slc, o_slcs, o_build, o_minmax, o_mkfn, o_alloc, o_box, o_boxs, o_row, o_rowr, o_mk, o_asg, o_app, o_store, o_stores, hv, eqAV, ev, view, rowOf, cellsOf, argv, vbin, vun, bnd, elemOf, putParts, setAt, zav, ASt.rid, ASt.free, AV.kill, AV.isHome, AV.noLoan, AV.cellOK, Value.oneCell', put_at, mk_at, mk_nil, initSt, true_and, and_true, and_self, implies_true, List.map_cons, List.map_nil, List.forall_mem_cons, List.not_mem_nil, false_implies, List.length_cons, List.length_nil, List.getD_cons_zero, List.getD_cons_succ, List.getD_nil, List.drop_succ_cons, List.drop_zero, List.take_succ_cons, List.take_zero, List.set_cons_zero, List.set_cons_succ, List.all_cons, List.all_nil, Bool.and_true, Bool.true_and, Bool.not_true, Bool.not_false, reduceCtorEq, if_true, if_false, Bool.false_eq_true, ↓reduceIte, Nat.reduceEqDiff, Nat.reduceAdd, Nat.reduceSub, Nat.reduceMul, Nat.reduceLeDiff, Nat.reduceLT, ne_eq, not_false_eq_true, not_true_eq_false, Nat.one_ne_zero, Nat.zero_ne_one, r25_0, r25_1, r25_2, r25_3, r25_4, r25_5, r25_6, r25_7, r25_8, r25_9, r25_10, r25_11, r25_12, r25_13, r25_15, r25_16, r25_17, r25_18, r25_19, r25_14, r25_20, r25_21, r25_22, p25, l25_0]) | (exfalso; omega)
        all_goals simp [hF, Rg.av]
      · have hx : x.toNat < (rng l st).1.length := by omega
        have hy : y.toNat < (rng l st).1.length := by omega
        repeat' first | (with_reducible refine condD (fun h => ?_) (fun h => ?_)) | (with_reducible refine condS (fun h => ?_) (fun h => ?_)) | (with_reducible refine guardD (by with_unfolding_all rfl) (fun h => ?_) (fun h => ?_)) | (with_reducible refine guardS (by with_unfolding_all rfl) (fun h => ?_) (fun h => ?_)) | (with_reducible refine And.intro ?_ ?_; omega) | (simp only [done_eq, done_eq', fin_val, fin_tup, fin_agg, fin_ro, res_one, res_more, rv_t, rv_c, rv_l, AV.tup.injEq, AV.agg.injEq, AV.ro.injEq, List.cons.injEq, int_eq, bool_eq, Int.toNat_natCast, Int.reduceToNat, Int.toNat_zero, Int.toNat_one, Int.reduceLE, Int.reduceLT, Int.reduceBEq, Int.reduceBNe, beq_self_eq_true, bne_self_eq_false, decide_true, decide_false,  Int.reduceNeg, toNat_pred, toNat_succ, List.length_map, cnd_t, cnd_f, grd_tt, grd_u, grd_tf, grd_ft, grd_ff, g_skip, g_ops, g_seq, g_block, g_exit, g_ret, x_c, x_o, x_l, x_b, g_b, g_nil, r_all, o_nil, g_cond, o_guard, o_call, o_callv, lk, ef, o_mv, o_pick, o_bin, o_eqs, o_eqb, o_un, o_conv, o_load, o_loads, o_fld, o_idx, o_idxs, o_len, o_lens, o_ext, o_nilck, o_slc, o_slcs, o_build, o_minmax, o_mkfn, o_alloc, o_box, o_boxs, o_row, o_rowr, o_mk, o_asg, o_app, o_store, o_stores, hv, eqAV, ev, view, rowOf, cellsOf, argv, vbin, vun, bnd, elemOf, putParts, setAt, zav, ASt.rid, ASt.free, AV.kill, AV.isHome, AV.noLoan, AV.cellOK, Value.oneCell', put_at, mk_at, mk_nil, initSt, true_and, and_true, and_self, implies_true, List.map_cons, List.map_nil, List.forall_mem_cons, List.not_mem_nil, false_implies, List.length_cons, List.length_nil, List.getD_cons_zero, List.getD_cons_succ, List.getD_nil, List.drop_succ_cons, List.drop_zero, List.take_succ_cons, List.take_zero, List.set_cons_zero, List.set_cons_succ, List.all_cons, List.all_nil, Bool.and_true, Bool.true_and, Bool.not_true, Bool.not_false, reduceCtorEq, if_true, if_false, Bool.false_eq_true, ↓reduceIte, Nat.reduceEqDiff, Nat.reduceAdd, Nat.reduceSub, Nat.reduceMul, Nat.reduceLeDiff, Nat.reduceLT, ne_eq, not_false_eq_true, not_true_eq_false, Nat.one_ne_zero, Nat.zero_ne_one, r25_0, r25_1, r25_2, r25_3, r25_4, r25_5, r25_6, r25_7, r25_8, r25_9, r25_10, r25_11, r25_12, r25_13, r25_15, r25_16, r25_17, r25_18, r25_19, r25_14, r25_20, r25_21, r25_22, p25, l25_0, getD_map hx, getD_map hy, Rg.av, hrl]) | (exfalso; omega)
        rw [hF, if_neg (by omega)]
        simp [hx, hy]
/-! slices.Equal[[]headend/api.Range,headend/api.Range] -/
def r23_0 : List POp := [⟨4, .asg (.c (.bool false)), none⟩]
def r23_1 : List POp := [⟨6, .mv (.t 0), none⟩,
  ⟨7, .len (.t 6), none⟩,
  ⟨8, .mv (.t 1), none⟩,
  ⟨9, .len (.t 8), none⟩,
  ⟨10, .bin .neq (.t 7) (.t 9), none⟩]
def r23_2 : List POp := [⟨4, .asg (.c (.bool false)), none⟩]
def r23_3 : List POp := [⟨11, .mv (.t 0), none⟩,
  ⟨12, .len (.t 11), none⟩,
  ⟨13, .mv (.c (.int .i64 0)), none⟩]
def r23_4 : List POp := [⟨14, .bin .lss (.t 13) (.t 12), none⟩]
def r23_5 : List POp := [⟨15, .mv (.t 13), none⟩,
  ⟨5, .asg (.t 15), none⟩]
def r23_6 : List POp := [⟨16, .mv (.t 0), none⟩,
  ⟨17, .mv (.t 5), none⟩,
  ⟨18, .idx 2 (.t 16) (.t 17), none⟩,
  ⟨19, .loads 2 (.t 18), none⟩,
  ⟨20, .mv (.t 1), none⟩,
  ⟨21, .mv (.t 5), none⟩,
  ⟨22, .idx 2 (.t 20) (.t 21), none⟩,
  ⟨23, .loads 2 (.t 22), none⟩,
  ⟨24, .eqs true [0, 0] (.t 19) (.t 23), none⟩]
def r23_7 : List POp := [⟨4, .asg (.c (.bool false)), none⟩]
def r23_8 : List POp := [⟨25, .bin .add (.t 13) (.c (.int .i64 1)), none⟩,
  ⟨13, .mv (.t 25), none⟩]
def r23_9 : List POp := [⟨4, .asg (.c (.bool true)), none⟩]
def l23_0 : PCode := .seq (.ops r23_4) (.seq (.cond (.t 14) (.skip) (.exit 0)) (.seq (.block 1 (.seq (.ops r23_5) (.seq (.ops r23_6) (.cond (.t 24) (.seq (.ops r23_7) (.ret)) (.skip))))) (.ops r23_8)))
def p23 : PCode := .seq (.ops r23_0) (.seq (.seq (.ops r23_1) (.cond (.t 10) (.seq (.ops r23_2) (.ret)) (.skip))) (.seq (.seq (.ops r23_3) (.block 0 (.loop l23_0))) (.seq (.ops r23_9) (.ret))))
theorem ok23 : okFunc Try.prog 23 [.t 4] 2 p23 = true := by kernel_rfl
theorem eqrg_c (l : List Rg) (hl : l.length ≤ 1000000000) : CallOK Try.prog 23 [.ro (l.map Rg.av), .ro (l.map Rg.av)] (.val (.bool true)) := by
  refine call_of mixed ok23 rfl ?_
  repeat' first | (with_reducible refine condD (fun h => ?_) (fun h => ?_)) | (with_reducible refine condS (fun h => ?_) (fun h => ?_)) | (with_reducible refine guardD (by with_unfolding_all rfl) (fun h => ?_) (fun h => ?_)) | (with_reducible refine guardS (by with_unfolding_all rfl) (fun h => ?_) (fun h => ?_)) | (with_reducible refine And.intro ?_ ?_; omega) | (simp only [done_eq, done_eq', fin_val, fin_tup, fin_agg, fin_ro, res_one, res_more, rv_t, rv_c, rv_l, AV.tup.injEq, AV.agg.injEq, AV.ro.injEq, List.cons.injEq, int_eq, bool_eq, Int.toNat_natCast, Int.reduceToNat, Int.toNat_zero, Int.toNat_one, Int.reduceLE, Int.reduceLT, Int.reduceBEq, Int.reduceBNe, beq_self_eq_true, bne_self_eq_false, decide_true, decide_false,  Int.reduceNeg, toNat_pred, toNat_succ, List.length_map, cnd_t, cnd_f, grd_tt, grd_u, grd_tf, grd_ft, grd_ff, g_skip, g_ops, g_seq, g_block, g_exit, g_ret, x_c, x_o, x_l, x_b, g_b, g_nil, r_all, o_nil, g_cond, o_guard, o_call, o_callv, lk, ef, o_mv, o_pick, o_bin, o_eqs, o_eqb, o_un, o_conv, o_load, o_loads, o_fld, o_idx, o_idxs, o_len, o_lens, o_ext, o_nilck, o_slc, o_slcs, o_build, o_minmax, o_mkfn, o_alloc, o_box, o_boxs, o_row, o_rowr, o_mk, o_asg, o_app, o_store, o_stores, hv, eqAV, ev, view, rowOf, cellsOf, argv, vbin, vun, bnd, elemOf, putParts, setAt, zav, ASt.rid, ASt.free, AV.kill, AV.isHome, AV.noLoan, AV.cellOK, Value.oneCell', put_at, mk_at, mk_nil, initSt, true_and, and_true, and_self, implies_true, List.map_cons, List.map_nil, List.forall_mem_cons, List.not_mem_nil, false_implies, List.length_cons, List.length_nil, List.getD_cons_zero, List.getD_cons_succ, List.getD_nil, List.drop_succ_cons, List.drop_zero, List.take_succ_cons, List.take_zero, List.set_cons_zero, List.set_cons_succ, List.all_cons, List.all_nil, Bool.and_true, Bool.true_and, Bool.not_true, Bool.not_false, reduceCtorEq, if_true, if_false, Bool.false_eq_true, ↓reduceIte, Nat.reduceEqDiff, Nat.reduceAdd, Nat.reduceSub, Nat.reduceMul, Nat.reduceLeDiff, Nat.reduceLT, ne_eq, not_false_eq_true, not_true_eq_false, Nat.one_ne_zero, Nat.zero_ne_one, r23_0, r23_1, r23_2, r23_3, r23_4, r23_5, r23_6, r23_7, r23_8, r23_9, p23]) | (exfalso; omega)
  refine loopS (fun k : Nat => mk [(0, .ro (l.map Rg.av)), (1, .ro (l.map Rg.av)), (12, .val (.int .i64 l.length)), (13, .val (.int .i64 k))]) (fun k => k ≤ l.length) (fun k => l.length - k) 0 (weak_mk ?_) (Nat.zero_le _) ?_
  · simp only [wk_cons, wk_nil, wk1, vint_eq, vbool_eq, AV.val.injEq, done_eq, done_eq', fin_val, fin_tup, fin_agg, fin_ro, res_one, res_more, rv_t, rv_c, rv_l, AV.tup.injEq, AV.agg.injEq, AV.ro.injEq, List.cons.injEq, int_eq, bool_eq, Int.toNat_natCast, Int.reduceToNat, Int.toNat_zero, Int.toNat_one, Int.reduceLE, Int.reduceLT, Int.reduceBEq, Int.reduceBNe, beq_self_eq_true, bne_self_eq_false, decide_true, decide_false,  Int.reduceNeg, toNat_pred, toNat_succ, List.length_map, cnd_t, cnd_f, grd_tt, grd_u, grd_tf, grd_ft, grd_ff, g_skip, g_ops, g_seq, g_block, g_exit, g_ret, x_c, x_o, x_l, x_b, g_b, g_nil, r_all, o_nil, g_cond, o_guard, o_call, o_callv, lk, ef, o_mv, o_pick, o_bin, o_eqs, o_eqb, o_un, o_conv, o_load, o_loads, o_fld, o_idx, o_idxs, o_len, o_lens, o_ext, o_nilck, o_slc, o_slcs, o_build, o_minmax, o_mkfn, o_alloc, o_box, o_boxs, o_row, o_rowr, o_mk, o_asg, o_app, o_store, o_stores, hv, eqAV, ev, view, rowOf, cellsOf, argv, vbin, vun, bnd, elemOf, putParts, setAt, zav, ASt.rid, ASt.free, AV.kill, AV.isHome, AV.noLoan, AV.cellOK, Value.oneCell', put_at, mk_at, mk_nil, initSt, true_and, and_true, and_self, implies_true, List.map_cons, List.map_nil, List.forall_mem_cons, List.not_mem_nil, false_implies, List.length_cons, List.length_nil, List.getD_cons_zero, List.getD_cons_succ, List.getD_nil, List.drop_succ_cons, List.drop_zero, List.take_succ_cons, List.take_zero, List.set_cons_zero, List.set_cons_succ, List.all_cons, List.all_nil, Bool.and_true, Bool.true_and, Bool.not_true, Bool.not_false, reduceCtorEq, if_true, if_false, Bool.false_eq_true, ↓reduceIte, Nat.reduceEqDiff, Nat.reduceAdd, Nat.reduceSub, Nat.reduceMul, Nat.reduceLeDiff, Nat.reduceLT, ne_eq, not_false_eq_true, not_true_eq_false, Nat.one_ne_zero, Nat.zero_ne_one]
    simp
  · rintro J hJ k hk
    simp only [done_eq, done_eq', fin_val, fin_tup, fin_agg, fin_ro, res_one, res_more, rv_t, rv_c, rv_l, AV.tup.injEq, AV.agg.injEq, AV.ro.injEq, List.cons.injEq, int_eq, bool_eq, Int.toNat_natCast, Int.reduceToNat, Int.toNat_zero, Int.toNat_one, Int.reduceLE, Int.reduceLT, Int.reduceBEq, Int.reduceBNe, beq_self_eq_true, bne_self_eq_false, decide_true, decide_false,  Int.reduceNeg, toNat_pred, toNat_succ, List.length_map, cnd_t, cnd_f, grd_tt, grd_u, grd_tf, grd_ft, grd_ff, g_skip, g_ops, g_seq, g_block, g_exit, g_ret, x_c, x_o, x_l, x_b, g_b, g_nil, r_all, o_nil, g_cond, o_guard, o_call, o_callv, lk, ef, o_mv, o_pick, o_bin, o_eqs, o_eqb, o_un, o_conv, o_load, o_loads, o_fld, o_idx, o_idxs, o_len, o_lens, o_ext, o_nilck, o_slc, o_slcs, o_build, o_minmax, o_mkfn, o_alloc, o_box, o_boxs, o_row, o_rowr, o_mk, o_asg, o_app, o_store, o_stores, hv, eqAV, ev, view, rowOf, cellsOf, argv, vbin, vun, bnd, elemOf, putParts, setAt, zav, ASt.rid, ASt.free, AV.kill, AV.isHome, AV.noLoan, AV.cellOK, Value.oneCell', put_at, mk_at, mk_nil, initSt, true_and, and_true, and_self, implies_true, List.map_cons, List.map_nil, List.forall_mem_cons, List.not_mem_nil, false_implies, List.length_cons, List.length_nil, List.getD_cons_zero, List.getD_cons_succ, List.getD_nil, List.drop_succ_cons, List.drop_zero, List.take_succ_cons, List.take_zero, List.set_cons_zero, List.set_cons_succ, List.all_cons, List.all_nil, Bool.and_true, Bool.true_and, Bool.not_true, Bool.not_false, reduceCtorEq, if_true, if_false, Bool.false_eq_true, ↓reduceIte, Nat.reduceEqDiff, Nat.reduceAdd, Nat.reduceSub, Nat.reduceMul, Nat.reduceLeDiff, Nat.reduceLT, ne_eq, not_false_eq_true, not_true_eq_false, Nat.one_ne_zero, Nat.zero_ne_one, r23_0, r23_1, r23_2, r23_3, r23_4, r23_5, r23_6, r23_7, r23_8, r23_9, p23, l23_0]
    refine condD (fun h => ?_) (fun h => ?_)
    · have hlt : k < l.length := by omega
      have hw : IntKind.i64.wrap (k + 1 : Int) = ((k + 1 : Nat) : Int) := wrap_in (by omega) (by omega)
      repeat' first | (with_reducible refine condD (fun h => ?_) (fun h => ?_)) | (with_reducible refine condS (fun h => ?_) (fun h => ?_)) | (with_reducible refine guardD (by with_unfolding_all rfl) (fun h => ?_) (fun h => ?_)) | (with_reducible refine guardS (by with_unfolding_all rfl) (fun h => ?_) (fun h => ?_)) | (with_reducible refine And.intro ?_ ?_; omega) | (simp only [done_eq, done_eq', fin_val, fin_tup, fin_agg, fin_ro, res_one, res_more, rv_t, rv_c, rv_l, AV.tup.injEq, AV.agg.injEq, AV.ro.injEq, List.cons.injEq, int_eq, bool_eq, Int.toNat_natCast, Int.reduceToNat, Int.toNat_zero, Int.toNat_one, Int.reduceLE, Int.reduceLT, Int.reduceBEq, Int.reduceBNe, beq_self_eq_true, bne_self_eq_false, decide_true, decide_false,  Int.reduceNeg, toNat_pred, toNat_succ, List.length_map, cnd_t, cnd_f, grd_tt, grd_u, grd_tf, grd_ft, grd_ff, g_skip, g_ops, g_seq, g_block, g_exit, g_ret, x_c, x_o, x_l, x_b, g_b, g_nil, r_all, o_nil, g_cond, o_guard, o_call, o_callv, lk, ef, o_mv, o_pick, o_bin, o_eqs, o_eqb, o_un, o_conv, o_load, o_loads, o_fld, o_idx, o_idxs, o_len, o_lens, o_ext, o_nilck, o_slc, o_slcs, o_build, o_minmax, o_mkfn, o_alloc, o_box, o_boxs, o_row, o_rowr, o_mk, o_asg, o_app, o_store, o_stores, hv, eqAV, ev, view, rowOf, cellsOf, argv, vbin, vun, bnd, elemOf, putParts, setAt, zav, ASt.rid, ASt.free, AV.kill, AV.isHome, AV.noLoan, AV.cellOK, Value.oneCell', put_at, mk_at, mk_nil, initSt, true_and, and_true, and_self, implies_true, List.map_cons, List.map_nil, List.forall_mem_cons, List.not_mem_nil, false_implies, List.length_cons, List.length_nil, List.getD_cons_zero, List.getD_cons_succ, List.getD_nil, List.drop_succ_cons, List.drop_zero, List.take_succ_cons, List.take_zero, List.set_cons_zero, List.set_cons_succ, List.all_cons, List.all_nil, Bool.and_true, Bool.true_and, Bool.not_true, Bool.not_false, reduceCtorEq, if_true, if_false, Bool.false_eq_true, ↓reduceIte, Nat.reduceEqDiff, Nat.reduceAdd, Nat.reduceSub, Nat.reduceMul, Nat.reduceLeDiff, Nat.reduceLT, ne_eq, not_false_eq_true, not_true_eq_false, Nat.one_ne_zero, Nat.zero_ne_one, r23_0, r23_1, r23_2, r23_3, r23_4, r23_5, r23_6, r23_7, r23_8, r23_9, p23, l23_0, Rg.av, getD_map hlt]) | (exfalso; omega)
      exact again hJ (k + 1) (weak_mk (by simp only [wk_cons, wk_nil, wk1, vint_eq, vbool_eq, AV.val.injEq, done_eq, done_eq', fin_val, fin_tup, fin_agg, fin_ro, res_one, res_more, rv_t, rv_c, rv_l, AV.tup.injEq, AV.agg.injEq, AV.ro.injEq, List.cons.injEq, int_eq, bool_eq, Int.toNat_natCast, Int.reduceToNat, Int.toNat_zero, Int.toNat_one, Int.reduceLE, Int.reduceLT, Int.reduceBEq, Int.reduceBNe, beq_self_eq_true, bne_self_eq_false, decide_true, decide_false,  Int.reduceNeg, toNat_pred, toNat_succ, List.length_map, cnd_t, cnd_f, grd_tt, grd_u, grd_tf, grd_ft, grd_ff, g_skip, g_ops, g_seq, g_block, g_exit, g_ret, x_c, x_o, x_l, x_b, g_b, g_nil, r_all, o_nil, g_cond, o_guard, o_call, o_callv, lk, ef, o_mv, o_pick, o_bin, o_eqs, o_eqb, o_un, o_conv, o_load, o_loads, o_fld, o_idx, o_idxs, o_len, o_lens, o_ext, o_nilck, o_slc, o_slcs, o_build, o_minmax, o_mkfn, o_alloc, o_box, o_boxs, o_row, o_rowr, o_mk, o_asg, o_app, o_store, o_stores, hv, eqAV, ev, view, rowOf, cellsOf, argv, vbin, vun, bnd, elemOf, putParts, setAt, zav, ASt.rid, ASt.free, AV.kill, AV.isHome, AV.noLoan, AV.cellOK, Value.oneCell', put_at, mk_at, mk_nil, initSt, true_and, and_true, and_self, implies_true, List.map_cons, List.map_nil, List.forall_mem_cons, List.not_mem_nil, false_implies, List.length_cons, List.length_nil, List.getD_cons_zero, List.getD_cons_succ, List.getD_nil, List.drop_succ_cons, List.drop_zero, List.take_succ_cons, List.take_zero, List.set_cons_zero, List.set_cons_succ, List.all_cons, List.all_nil, Bool.and_true, Bool.true_and, Bool.not_true, Bool.not_false, reduceCtorEq, if_true, if_false, Bool.false_eq_true, ↓reduceIte, Nat.reduceEqDiff, Nat.reduceAdd, Nat.reduceSub, Nat.reduceMul, Nat.reduceLeDiff, Nat.reduceLT, ne_eq, not_false_eq_true, not_true_eq_false, Nat.one_ne_zero, Nat.zero_ne_one]; exact hw)) (by omega) (by omega)
    · repeat' first | (with_reducible refine condD (fun h => ?_) (fun h => ?_)) | (with_reducible refine condS (fun h => ?_) (fun h => ?_)) | (with_reducible refine guardD (by with_unfolding_all rfl) (fun h => ?_) (fun h => ?_)) | (with_reducible refine guardS (by with_unfolding_all rfl) (fun h => ?_) (fun h => ?_)) | (with_reducible refine And.intro ?_ ?_; omega) | (simp only [done_eq, done_eq', fin_val, fin_tup, fin_agg, fin_ro, res_one, res_more, rv_t, rv_c, rv_l, AV.tup.injEq, AV.agg.injEq, AV.ro.injEq, List.cons.injEq, int_eq, bool_eq, Int.toNat_natCast, Int.reduceToNat, Int.toNat_zero, Int.toNat_one, Int.reduceLE, Int.reduceLT, Int.reduceBEq, Int.reduceBNe, beq_self_eq_true, bne_self_eq_false, decide_true, decide_false,  Int.reduceNeg, toNat_pred, toNat_succ, List.length_map, cnd_t, cnd_f, grd_tt, grd_u, grd_tf, grd_ft, grd_ff, g_skip, g_ops, g_seq, g_block, g_exit, g_ret, x_c, x_o, x_l, x_b, g_b, g_nil, r_all, o_nil, g_cond, o_guard, o_call, o_callv, lk, ef, o_mv, o_pick, o_bin, o_eqs, o_eqb, o_un, o_conv, o_load, o_loads, o_fld, o_idx, o_idxs, o_len, o_lens, o_ext, o_nilck, o_slc, o_slcs, o_build, o_minmax, o_mkfn, o_alloc, o_box, o_boxs, o_row, o_rowr, o_mk, o_asg, o_app, o_store, o_stores, hv, eqAV, ev, view, rowOf, cellsOf, argv, vbin, vun, bnd, elemOf, putParts, setAt, zav, ASt.rid, ASt.free, AV.kill, AV.isHome, AV.noLoan, AV.cellOK, Value.oneCell', put_at, mk_at, mk_nil, initSt, true_and, and_true, and_self, implies_true, List.map_cons, List.map_nil, List.forall_mem_cons, List.not_mem_nil, false_implies, List.length_cons, List.length_nil, List.getD_cons_zero, List.getD_cons_succ, List.getD_nil, List.drop_succ_cons, List.drop_zero, List.take_succ_cons, List.take_zero, List.set_cons_zero, List.set_cons_succ, List.all_cons, List.all_nil, Bool.and_true, Bool.true_and, Bool.not_true, Bool.not_false, reduceCtorEq, if_true, if_false, Bool.false_eq_true, ↓reduceIte, Nat.reduceEqDiff, Nat.reduceAdd, Nat.reduceSub, Nat.reduceMul, Nat.reduceLeDiff, Nat.reduceLT, ne_eq, not_false_eq_true, not_true_eq_false, Nat.one_ne_zero, Nat.zero_ne_one, r23_0, r23_1, r23_2, r23_3, r23_4, r23_5, r23_6, r23_7, r23_8, r23_9, p23, l23_0]) | (exfalso; omega)
theorem rngGo_bad : ∀ (l : List Seg) (st : Int) (out : List Rg), (rngGo st out l).2 ≠ 0 → (rngGo st out l).1 = []
  | [], _, _, h => by simp [rngGo] at h
  | s :: r, st, out, h => by
    unfold rngGo at h ⊢
    split
    · rfl
    · rename_i hb
      rw [if_neg hb] at h
      exact rngGo_bad r _ _ h
theorem rng_short (l : List Seg) (st : Int) : (rng l st).1.length ≤ 1000 := by
  cases h : decide ((rng l st).2 = 0)
  · have h := of_decide_eq_false h
    unfold rng at h ⊢
    split
    · simp
    · rename_i h1
      split
      · simp
      · rename_i h2
        rw [if_neg h1, if_neg h2] at h
        rw [rngGo_bad l st [] h]; simp
  · have h := of_decide_eq_true h
    have hl := rng_len h
    unfold rng at h
    split at h
    · cases h
    · split at h
      · cases h
      · omega
/-! headend/headendlaw4.CutRangesMatchSpec -/
def r8_0 : List POp := [⟨7, .boxs (.t 3), none⟩,
  ⟨8, .asg (.c (.bool false)), none⟩]
def r8_1 : List POp := [⟨22, .mv (.t 0), none⟩,
  ⟨23, .mv (.t 1), none⟩,
  ⟨24, .call 20 [.t 22, .t 23], none⟩,
  ⟨21, .mv (.t 24), none⟩,
  ⟨25, .ext 0 (.t 21), none⟩,
  ⟨26, .ext 1 (.t 21), none⟩,
  ⟨9, .asg (.t 25), none⟩,
  ⟨10, .asg (.t 26), none⟩]
def r8_2 : List POp := [⟨28, .mv (.t 0), none⟩,
  ⟨29, .mv (.t 1), none⟩,
  ⟨30, .call 22 [.t 28, .t 29], none⟩,
  ⟨27, .mv (.t 30), none⟩,
  ⟨31, .ext 0 (.t 27), none⟩,
  ⟨32, .ext 1 (.t 27), none⟩,
  ⟨11, .asg (.t 31), none⟩,
  ⟨12, .asg (.t 32), none⟩]
def r8_3 : List POp := [⟨33, .mv (.t 9), none⟩,
  ⟨34, .mv (.t 11), none⟩,
  ⟨35, .call 23 [.t 33, .t 34], none⟩,
  ⟨36, .un .not (.t 35), none⟩,
  ⟨37, .mv (.t 36), none⟩,
  ⟨38, .mv (.t 10), some (37, false)⟩,
  ⟨39, .mv (.t 12), some (37, false)⟩,
  ⟨40, .bin .neq (.t 38) (.t 39), some (37, false)⟩,
  ⟨41, .pick (.t 37) (.c (.bool true)) (.t 40), none⟩]
def r8_4 : List POp := [⟨8, .asg (.c (.bool false)), none⟩]
def r8_5 : List POp := [⟨43, .mv (.t 0), none⟩,
  ⟨44, .mv (.t 2), none⟩,
  ⟨45, .call 19 [.t 43, .t 44], none⟩,
  ⟨42, .mv (.t 45), none⟩,
  ⟨46, .ext 0 (.t 42), none⟩,
  ⟨47, .ext 1 (.t 42), none⟩,
  ⟨48, .ext 2 (.t 42), none⟩,
  ⟨13, .asg (.t 46), none⟩,
  ⟨14, .asg (.t 47), none⟩,
  ⟨10, .asg (.t 48), none⟩]
def r8_6 : List POp := [⟨50, .mv (.t 0), none⟩,
  ⟨51, .mv (.t 2), none⟩,
  ⟨52, .call 24 [.t 50, .t 51], none⟩,
  ⟨49, .mv (.t 52), none⟩,
  ⟨53, .ext 0 (.t 49), none⟩,
  ⟨54, .ext 1 (.t 49), none⟩,
  ⟨55, .ext 2 (.t 49), none⟩,
  ⟨15, .asg (.t 53), none⟩,
  ⟨16, .asg (.t 54), none⟩,
  ⟨12, .asg (.t 55), none⟩]
def r8_7 : List POp := [⟨57, .mv (.t 0), none⟩,
  ⟨58, .loads 2 (.t 7), none⟩,
  ⟨59, .mv (.t 1), none⟩,
  ⟨60, .call 21 [.t 57, .t 58, .t 59], none⟩,
  ⟨56, .mv (.t 60), none⟩,
  ⟨61, .ext 0 (.t 56), none⟩,
  ⟨62, .ext 1 (.t 56), none⟩,
  ⟨17, .alloc [.int .i64 0, .int .i64 0], none⟩,
  ⟨0, .stores 2 (.t 17) (.t 61), none⟩,
  ⟨18, .asg (.t 62), none⟩]
def r8_8 : List POp := [⟨64, .mv (.t 0), none⟩,
  ⟨65, .loads 2 (.t 7), none⟩,
  ⟨66, .mv (.t 1), none⟩,
  ⟨67, .call 25 [.t 64, .t 65, .t 66], none⟩,
  ⟨63, .mv (.t 67), none⟩,
  ⟨68, .ext 0 (.t 63), none⟩,
  ⟨69, .ext 1 (.t 63), none⟩,
  ⟨19, .alloc [.int .i64 0, .int .i64 0], none⟩,
  ⟨0, .stores 2 (.t 19) (.t 68), none⟩,
  ⟨20, .asg (.t 69), none⟩]
def r8_9 : List POp := [⟨70, .mv (.t 13), none⟩,
  ⟨71, .mv (.t 15), none⟩,
  ⟨72, .bin .eql (.t 70) (.t 71), none⟩,
  ⟨73, .mv (.t 72), none⟩,
  ⟨74, .mv (.t 14), some (73, true)⟩,
  ⟨75, .mv (.t 16), some (73, true)⟩,
  ⟨76, .bin .eql (.t 74) (.t 75), some (73, true)⟩,
  ⟨77, .pick (.t 73) (.t 76) (.c (.bool false)), none⟩,
  ⟨78, .mv (.t 77), none⟩,
  ⟨79, .mv (.t 10), some (78, true)⟩,
  ⟨80, .mv (.t 12), some (78, true)⟩,
  ⟨81, .bin .eql (.t 79) (.t 80), some (78, true)⟩,
  ⟨82, .pick (.t 78) (.t 81) (.c (.bool false)), none⟩,
  ⟨83, .mv (.t 82), none⟩,
  ⟨84, .loads 2 (.t 17), some (83, true)⟩,
  ⟨85, .loads 2 (.t 19), some (83, true)⟩,
  ⟨86, .eqs false [0, 0] (.t 84) (.t 85), some (83, true)⟩,
  ⟨87, .pick (.t 83) (.t 86) (.c (.bool false)), none⟩,
  ⟨88, .mv (.t 87), none⟩,
  ⟨89, .mv (.t 18), some (88, true)⟩,
  ⟨90, .mv (.t 20), some (88, true)⟩,
  ⟨91, .bin .eql (.t 89) (.t 90), some (88, true)⟩,
  ⟨92, .pick (.t 88) (.t 91) (.c (.bool false)), none⟩,
  ⟨93, .mv (.t 92), none⟩,
  ⟨94, .call 12 [], some (93, true)⟩,
  ⟨95, .pick (.t 93) (.t 94) (.c (.bool false)), none⟩,
  ⟨8, .asg (.t 95), none⟩]
def p8 : PCode := .seq (.ops r8_0) (.seq (.ops r8_1) (.seq (.ops r8_2) (.seq (.seq (.ops r8_3) (.cond (.t 41) (.seq (.ops r8_4) (.ret)) (.skip))) (.seq (.ops r8_5) (.seq (.ops r8_6) (.seq (.ops r8_7) (.seq (.ops r8_8) (.seq (.ops r8_9) (.ret)))))))))
theorem ok8 : okFunc Try.prog 8 [.t 8] 4 p8 = true := by kernel_rfl
set_option maxRecDepth 20000 in
theorem rangesD (l : List Seg) (st t a b : Int) : CallOK Try.prog 8 [.ro (l.map Seg.av), .val (.int .i64 st), .val (.int .i64 t), .agg [.val (.int .i64 a), .val (.int .i64 b)]] (.val (.bool true)) := by
  refine call_of mixed ok8 rfl ?_
  repeat' first | (with_reducible refine condD (fun h => ?_) (fun h => ?_)) | (with_reducible refine condS (fun h => ?_) (fun h => ?_)) | (with_reducible refine guardD (by with_unfolding_all rfl) (fun h => ?_) (fun h => ?_)) | (with_reducible refine guardS (by with_unfolding_all rfl) (fun h => ?_) (fun h => ?_)) | ((refine callG (ranges_c _ _) ?_)) | ((refine callG (rangesr_c _ _) ?_)) | ((refine callG (seek_c _ _) ?_)) | ((refine callG (seekr_c _ _) ?_)) | ((refine callG (fetch_c _ _ _ _) ?_)) | ((refine callG (fetchr_c _ _ _ _) ?_)) | ((refine callG (eqrg_c _ (Nat.le_trans (rng_short _ _) (by omega))) ?_)) | ((refine callG awake_c ?_)) | (with_reducible refine And.intro ?_ ?_; omega) | (simp only [done_eq, done_eq', fin_val, fin_tup, fin_agg, fin_ro, res_one, res_more, rv_t, rv_c, rv_l, AV.tup.injEq, AV.agg.injEq, AV.ro.injEq, List.cons.injEq, int_eq, bool_eq, Int.toNat_natCast, Int.reduceToNat, Int.toNat_zero, Int.toNat_one, Int.reduceLE, Int.reduceLT, Int.reduceBEq, Int.reduceBNe, beq_self_eq_true, bne_self_eq_false, decide_true, decide_false,  Int.reduceNeg, toNat_pred, toNat_succ, List.length_map, cnd_t, cnd_f, grd_tt, grd_u, grd_tf, grd_ft, grd_ff, g_skip, g_ops, g_seq, g_block, g_exit, g_ret, x_c, x_o, x_l, x_b, g_b, g_nil, r_all, o_nil, g_cond, o_guard, o_call, o_callv, lk, ef, o_mv, o_pick, o_bin, o_eqs, o_eqb, o_un, o_conv, o_load, o_loads, o_fld, o_idx, o_idxs, o_len, o_lens, o_ext, o_nilck, o_slc, o_slcs, o_build, o_minmax, o_mkfn, o_alloc, o_box, o_boxs, o_row, o_rowr, o_mk, o_asg, o_app, o_store, o_stores, hv, eqAV, ev, view, rowOf, cellsOf, argv, vbin, vun, bnd, elemOf, putParts, setAt, zav, ASt.rid, ASt.free, AV.kill, AV.isHome, AV.noLoan, AV.cellOK, Value.oneCell', put_at, mk_at, mk_nil, initSt, true_and, and_true, and_self, implies_true, List.map_cons, List.map_nil, List.forall_mem_cons, List.not_mem_nil, false_implies, List.length_cons, List.length_nil, List.getD_cons_zero, List.getD_cons_succ, List.getD_nil, List.drop_succ_cons, List.drop_zero, List.take_succ_cons, List.take_zero, List.set_cons_zero, List.set_cons_succ, List.all_cons, List.all_nil, Bool.and_true, Bool.true_and, Bool.not_true, Bool.not_false, reduceCtorEq, if_true, if_false, Bool.false_eq_true, ↓reduceIte, Nat.reduceEqDiff, Nat.reduceAdd, Nat.reduceSub, Nat.reduceMul, Nat.reduceLeDiff, Nat.reduceLT, ne_eq, not_false_eq_true, not_true_eq_false, Nat.one_ne_zero, Nat.zero_ne_one, r8_0, r8_1, r8_2, r8_3, r8_4, r8_5, r8_6, r8_7, r8_8, r8_9, p8, Rg.av]) | (exfalso; omega)
theorem ranges_all : ∀ avs, HasArgs [.one (.row [.int .i64, .int .i64, .int .i64, .int .i64, .int .i64, .int .i64, .int .i64]), .one (.int .i64), .one (.int .i64), .agg [.int .i64, .int .i64]] avs → CallOK Try.prog 8 avs (.val (.bool true)) := by
  intro avs h
  obtain ⟨v0, r, rfl, h0, h⟩ := args_cons h
  obtain ⟨v1, r, rfl, h1, h⟩ := args_cons h
  obtain ⟨v2, r, rfl, h2, h⟩ := args_cons h
  obtain ⟨v3, r, rfl, h3, h⟩ := args_cons h
  obtain rfl := args_nil h
  obtain ⟨l, rfl, _, _⟩ := has_row h0 all_seg
  obtain ⟨n1, rfl, _⟩ := has_int h1
  obtain ⟨n2, rfl, _⟩ := has_int h2
  obtain ⟨x, rfl, h3⟩ := h3
  obtain ⟨w0, r, rfl, g0, h3⟩ := all_cons h3
  obtain ⟨w1, r, rfl, g1, h3⟩ := all_cons h3
  obtain rfl := all_nil h3
  obtain ⟨m0, rfl, _⟩ := has_int g0
  obtain ⟨m1, rfl, _⟩ := has_int g1
  exact rangesD l n1 n2 m0 m1
end Go.Proofs.Ytpkeiabifoipoaa
