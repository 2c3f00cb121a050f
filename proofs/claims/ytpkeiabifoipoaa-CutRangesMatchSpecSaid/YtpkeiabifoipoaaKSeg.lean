/- Segments: cut.boundary, cut.rowFault, by the machine on data. -/
import Derived.Test.YtpkeiabifoipoaaKDo
namespace Go.Proofs.Ytpkeiabifoipoaa
open Go.RowKit
set_option linter.unusedSimpArgs false

structure Seg where
  number : Int
  frm : Int
  to : Int
  beg : Int
  len : Int
  bytes : Int
  lead : Int
def Seg.av (s : Seg) : List AV := [.val (.int .i64 s.number), .val (.int .i64 s.frm), .val (.int .i64 s.to), .val (.int .i64 s.beg), .val (.int .i64 s.len), .val (.int .i64 s.bytes), .val (.int .i64 s.lead)]
def Seg.bnd (s : Seg) : Int := s.beg + s.lead
def Seg.bw (s : Seg) : Int := IntKind.i64.wrap s.bnd

/-! headend/cut.boundary -/
def r39_0 : List POp := [⟨1, .boxs (.t 0), none⟩,
  ⟨2, .asg (.c (.int .i64 0)), none⟩]
def r39_1 : List POp := [⟨3, .fld 3 (.t 1), none⟩,
  ⟨4, .load (.t 3), none⟩,
  ⟨5, .fld 6 (.t 1), none⟩,
  ⟨6, .load (.t 5), none⟩,
  ⟨7, .bin .add (.t 4) (.t 6), none⟩,
  ⟨2, .asg (.t 7), none⟩]
def p39 : PCode := .seq (.ops r39_0) (.seq (.ops r39_1) (.ret))
theorem ok39 : okFunc Try.prog 39 [.t 2] 1 p39 = true := by kernel_rfl
theorem boundary_c (s : Seg) : CallOK Try.prog 39 [.agg s.av] (.val (.int .i64 s.bw)) := by
  refine call_of mixed ok39 rfl ?_
  simp only [done_eq, done_eq', fin_val, fin_tup, fin_agg, fin_ro, res_one, res_more, rv_t, rv_c, rv_l, AV.tup.injEq, AV.agg.injEq, AV.ro.injEq, List.cons.injEq, int_eq, bool_eq, Int.toNat_natCast, Int.reduceToNat, Int.toNat_zero, Int.toNat_one, Int.reduceLE, Int.reduceLT, Int.reduceBEq, Int.reduceBNe, beq_self_eq_true, bne_self_eq_false, decide_true, decide_false,  Int.reduceNeg, toNat_pred, toNat_succ, List.length_map, cnd_t, cnd_f, grd_tt, grd_u, grd_tf, grd_ft, grd_ff, g_skip, g_ops, g_seq, g_block, g_exit, g_ret, x_c, x_o, x_l, x_b, g_b, g_nil, r_all, o_nil, g_cond, o_guard, o_call, o_callv, lk, ef, o_mv, o_pick, o_bin, o_eqs, o_eqb, o_un, o_conv, o_load, o_loads, o_fld, o_idx, o_idxs, o_len, o_lens, o_ext, o_nilck, o_slc, o_slcs, o_build, o_minmax, o_mkfn, o_alloc, o_box, o_boxs, o_row, o_rowr, o_mk, o_asg, o_app, o_store, o_stores, hv, eqAV, ev, view, rowOf, cellsOf, argv, vbin, vun, bnd, elemOf, putParts, setAt, zav, ASt.rid, ASt.free, AV.kill, AV.isHome, AV.noLoan, AV.cellOK, Value.oneCell', put_at, mk_at, mk_nil, initSt, true_and, and_true, and_self, implies_true, List.map_cons, List.map_nil, List.forall_mem_cons, List.not_mem_nil, false_implies, List.length_cons, List.length_nil, List.getD_cons_zero, List.getD_cons_succ, List.getD_nil, List.drop_succ_cons, List.drop_zero, List.take_succ_cons, List.take_zero, List.set_cons_zero, List.set_cons_succ, List.all_cons, List.all_nil, Bool.and_true, Bool.true_and, Bool.not_true, Bool.not_false, reduceCtorEq, if_true, if_false, Bool.false_eq_true, ↓reduceIte, Nat.reduceEqDiff, Nat.reduceAdd, Nat.reduceSub, Nat.reduceMul, Nat.reduceLeDiff, Nat.reduceLT, ne_eq, not_false_eq_true, not_true_eq_false, Nat.one_ne_zero, Nat.zero_ne_one, r39_0, r39_1, p39, Seg.av]
  rfl

def badSeg (s : Seg) : Bool := noTime s.beg || noTime s.lead || noTime s.len || noTime (IntKind.i64.wrap (s.bw + s.len))
def rowGo : Option Int → List Seg → Int
  | _, [] => 0
  | p, s :: r => if badSeg s then 1 else if (p.any fun q => decide (s.bw < q)) || decide (s.len < 0) then 8 else rowGo (some s.bw) r
def row (l : List Seg) : Int := if 1000 < l.length then 2 else rowGo none l
theorem row_len {l : List Seg} (h : row l = 0) : l.length ≤ 1000 := by
  unfold row at h; split at h
  · omega
  · omega
def prvB (l : List Seg) (k : Nat) : Option Int := if k = 0 then none else l[k-1]?.map Seg.bw
theorem prvB_succ (l : List Seg) (k : Nat) (h : k < l.length) : prvB l (k + 1) = some l[k].bw := by simp [prvB, h]

/-! headend/cut.rowFault -/
def r38_0 : List POp := [⟨2, .asg (.c (.int .i64 0)), none⟩]
def r38_1 : List POp := [⟨5, .mv (.t 0), none⟩,
  ⟨6, .len (.t 5), none⟩,
  ⟨7, .bin .gtr (.t 6) (.c (.int .i64 1000)), none⟩]
def r38_2 : List POp := [⟨2, .asg (.c (.int .i64 2)), none⟩]
def r38_3 : List POp := [⟨8, .mv (.t 0), none⟩,
  ⟨9, .len (.t 8), none⟩,
  ⟨10, .mv (.c (.int .i64 0)), none⟩]
def r38_4 : List POp := [⟨11, .bin .lss (.t 10) (.t 9), none⟩]
def r38_5 : List POp := [⟨12, .mv (.t 10), none⟩,
  ⟨13, .idx 7 (.t 8) (.t 10), none⟩,
  ⟨14, .loads 7 (.t 13), none⟩,
  ⟨4, .alloc [.int .i64 0, .int .i64 0, .int .i64 0, .int .i64 0, .int .i64 0, .int .i64 0, .int .i64 0], none⟩,
  ⟨3, .asg (.t 12), none⟩,
  ⟨0, .stores 7 (.t 4) (.t 14), none⟩]
def r38_6 : List POp := [⟨16, .fld 3 (.t 4), none⟩,
  ⟨17, .load (.t 16), none⟩,
  ⟨18, .call 32 [.t 17], none⟩,
  ⟨19, .mv (.t 18), none⟩,
  ⟨20, .fld 6 (.t 4), some (19, false)⟩,
  ⟨21, .load (.t 20), some (19, false)⟩,
  ⟨22, .call 32 [.t 21], some (19, false)⟩,
  ⟨23, .pick (.t 19) (.c (.bool true)) (.t 22), none⟩,
  ⟨24, .mv (.t 23), none⟩,
  ⟨25, .fld 4 (.t 4), some (24, false)⟩,
  ⟨26, .load (.t 25), some (24, false)⟩,
  ⟨27, .call 32 [.t 26], some (24, false)⟩,
  ⟨28, .pick (.t 24) (.c (.bool true)) (.t 27), none⟩,
  ⟨29, .mv (.t 28), none⟩,
  ⟨30, .loads 7 (.t 4), some (29, false)⟩,
  ⟨31, .call 39 [.t 30], some (29, false)⟩,
  ⟨32, .fld 4 (.t 4), some (29, false)⟩,
  ⟨33, .load (.t 32), some (29, false)⟩,
  ⟨34, .bin .add (.t 31) (.t 33), some (29, false)⟩,
  ⟨35, .call 32 [.t 34], some (29, false)⟩,
  ⟨36, .pick (.t 29) (.c (.bool true)) (.t 35), none⟩,
  ⟨15, .asg (.t 36), none⟩]
def r38_7 : List POp := [⟨2, .asg (.c (.int .i64 1)), none⟩]
def r38_8 : List POp := [⟨38, .mv (.t 3), none⟩,
  ⟨39, .bin .gtr (.t 38) (.c (.int .i64 0)), none⟩,
  ⟨40, .mv (.t 39), none⟩,
  ⟨41, .loads 7 (.t 4), some (40, true)⟩,
  ⟨42, .call 39 [.t 41], some (40, true)⟩,
  ⟨43, .mv (.t 0), some (40, true)⟩,
  ⟨44, .mv (.t 3), some (40, true)⟩,
  ⟨45, .bin .sub (.t 44) (.c (.int .i64 1)), some (40, true)⟩,
  ⟨46, .idx 7 (.t 43) (.t 45), some (40, true)⟩,
  ⟨47, .loads 7 (.t 46), some (40, true)⟩,
  ⟨48, .call 39 [.t 47], some (40, true)⟩,
  ⟨49, .bin .lss (.t 42) (.t 48), some (40, true)⟩,
  ⟨50, .pick (.t 40) (.t 49) (.c (.bool false)), none⟩,
  ⟨51, .mv (.t 50), none⟩,
  ⟨52, .fld 4 (.t 4), some (51, false)⟩,
  ⟨53, .load (.t 52), some (51, false)⟩,
  ⟨54, .bin .lss (.t 53) (.c (.int .i64 0)), some (51, false)⟩,
  ⟨55, .pick (.t 51) (.c (.bool true)) (.t 54), none⟩,
  ⟨37, .asg (.t 55), none⟩]
def r38_9 : List POp := [⟨2, .asg (.c (.int .i64 8)), none⟩]
def r38_10 : List POp := [⟨56, .bin .add (.t 10) (.c (.int .i64 1)), none⟩,
  ⟨10, .mv (.t 56), none⟩]
def r38_11 : List POp := [⟨2, .asg (.c (.int .i64 0)), none⟩]
def l38_0 : PCode := .seq (.ops r38_4) (.seq (.cond (.t 11) (.skip) (.exit 0)) (.seq (.block 1 (.seq (.ops r38_5) (.block 2 (.seq (.ops r38_6) (.cond (.t 15) (.seq (.ops r38_7) (.ret)) (.seq (.ops r38_8) (.cond (.t 37) (.seq (.ops r38_9) (.ret)) (.skip)))))))) (.ops r38_10)))
def p38 : PCode := .seq (.ops r38_0) (.seq (.seq (.ops r38_1) (.cond (.t 7) (.seq (.ops r38_2) (.ret)) (.skip))) (.seq (.seq (.ops r38_3) (.block 0 (.loop l38_0))) (.seq (.ops r38_11) (.ret))))
theorem ok38 : okFunc Try.prog 38 [.t 2] 1 p38 = true := by kernel_rfl
theorem row_c (l : List Seg) : CallOK Try.prog 38 [.ro (l.map Seg.av)] (.val (.int .i64 (row l))) := by
  refine call_of mixed ok38 rfl ?_
  simp only [done_eq, done_eq', fin_val, fin_tup, fin_agg, fin_ro, res_one, res_more, rv_t, rv_c, rv_l, AV.tup.injEq, AV.agg.injEq, AV.ro.injEq, List.cons.injEq, int_eq, bool_eq, Int.toNat_natCast, Int.reduceToNat, Int.toNat_zero, Int.toNat_one, Int.reduceLE, Int.reduceLT, Int.reduceBEq, Int.reduceBNe, beq_self_eq_true, bne_self_eq_false, decide_true, decide_false,  Int.reduceNeg, toNat_pred, toNat_succ, List.length_map, cnd_t, cnd_f, grd_tt, grd_u, grd_tf, grd_ft, grd_ff, g_skip, g_ops, g_seq, g_block, g_exit, g_ret, x_c, x_o, x_l, x_b, g_b, g_nil, r_all, o_nil, g_cond, o_guard, o_call, o_callv, lk, ef, o_mv, o_pick, o_bin, o_eqs, o_eqb, o_un, o_conv, o_load, o_loads, o_fld, o_idx, o_idxs, o_len, o_lens, o_ext, o_nilck, o_slc, o_slcs, o_build, o_minmax, o_mkfn, o_alloc, o_box, o_boxs, o_row, o_rowr, o_mk, o_asg, o_app, o_store, o_stores, hv, eqAV, ev, view, rowOf, cellsOf, argv, vbin, vun, bnd, elemOf, putParts, setAt, zav, ASt.rid, ASt.free, AV.kill, AV.isHome, AV.noLoan, AV.cellOK, Value.oneCell', put_at, mk_at, mk_nil, initSt, true_and, and_true, and_self, implies_true, List.map_cons, List.map_nil, List.forall_mem_cons, List.not_mem_nil, false_implies, List.length_cons, List.length_nil, List.getD_cons_zero, List.getD_cons_succ, List.getD_nil, List.drop_succ_cons, List.drop_zero, List.take_succ_cons, List.take_zero, List.set_cons_zero, List.set_cons_succ, List.all_cons, List.all_nil, Bool.and_true, Bool.true_and, Bool.not_true, Bool.not_false, reduceCtorEq, if_true, if_false, Bool.false_eq_true, ↓reduceIte, Nat.reduceEqDiff, Nat.reduceAdd, Nat.reduceSub, Nat.reduceMul, Nat.reduceLeDiff, Nat.reduceLT, ne_eq, not_false_eq_true, not_true_eq_false, Nat.one_ne_zero, Nat.zero_ne_one, r38_0, r38_1, r38_2, r38_3, r38_4, r38_5, r38_6, r38_7, r38_8, r38_9, r38_10, r38_11, p38]
  refine condD (fun h => ?_) (fun h => ?_)
  · repeat' first | (with_reducible refine condD (fun h => ?_) (fun h => ?_)) | (with_reducible refine condS (fun h => ?_) (fun h => ?_)) | (with_reducible refine guardD (by with_unfolding_all rfl) (fun h => ?_) (fun h => ?_)) | (with_reducible refine guardS (by with_unfolding_all rfl) (fun h => ?_) (fun h => ?_)) | (with_reducible refine And.intro ?_ ?_; omega) | (simp only [done_eq, done_eq', fin_val, fin_tup, fin_agg, fin_ro, res_one, res_more, rv_t, rv_c, rv_l, AV.tup.injEq, AV.agg.injEq, AV.ro.injEq, List.cons.injEq, int_eq, bool_eq, Int.toNat_natCast, Int.reduceToNat, Int.toNat_zero, Int.toNat_one, Int.reduceLE, Int.reduceLT, Int.reduceBEq, Int.reduceBNe, beq_self_eq_true, bne_self_eq_false, decide_true, decide_false,  Int.reduceNeg, toNat_pred, toNat_succ, List.length_map, cnd_t, cnd_f, grd_tt, grd_u, grd_tf, grd_ft, grd_ff, g_skip, g_ops, g_seq, g_block, g_exit, g_ret, x_c, x_o, x_l, x_b, g_b, g_nil, r_all, o_nil, g_cond, o_guard, o_call, o_callv, lk, ef, o_mv, o_pick, o_bin, o_eqs, o_eqb, o_un, o_conv, o_load, o_loads, o_fld, o_idx, o_idxs, o_len, o_lens, o_ext, o_nilck, o_slc, o_slcs, o_build, o_minmax, o_mkfn, o_alloc, o_box, o_boxs, o_row, o_rowr, o_mk, o_asg, o_app, o_store, o_stores, hv, eqAV, ev, view, rowOf, cellsOf, argv, vbin, vun, bnd, elemOf, putParts, setAt, zav, ASt.rid, ASt.free, AV.kill, AV.isHome, AV.noLoan, AV.cellOK, Value.oneCell', put_at, mk_at, mk_nil, initSt, true_and, and_true, and_self, implies_true, List.map_cons, List.map_nil, List.forall_mem_cons, List.not_mem_nil, false_implies, List.length_cons, List.length_nil, List.getD_cons_zero, List.getD_cons_succ, List.getD_nil, List.drop_succ_cons, List.drop_zero, List.take_succ_cons, List.take_zero, List.set_cons_zero, List.set_cons_succ, List.all_cons, List.all_nil, Bool.and_true, Bool.true_and, Bool.not_true, Bool.not_false, reduceCtorEq, if_true, if_false, Bool.false_eq_true, ↓reduceIte, Nat.reduceEqDiff, Nat.reduceAdd, Nat.reduceSub, Nat.reduceMul, Nat.reduceLeDiff, Nat.reduceLT, ne_eq, not_false_eq_true, not_true_eq_false, Nat.one_ne_zero, Nat.zero_ne_one, r38_0, r38_1, r38_2, r38_3, r38_4, r38_5, r38_6, r38_7, r38_8, r38_9, r38_10, r38_11, p38]) | (exfalso; omega)
    rw [row, if_pos (by omega)]
  · simp only [done_eq, done_eq', fin_val, fin_tup, fin_agg, fin_ro, res_one, res_more, rv_t, rv_c, rv_l, AV.tup.injEq, AV.agg.injEq, AV.ro.injEq, List.cons.injEq, int_eq, bool_eq, Int.toNat_natCast, Int.reduceToNat, Int.toNat_zero, Int.toNat_one, Int.reduceLE, Int.reduceLT, Int.reduceBEq, Int.reduceBNe, beq_self_eq_true, bne_self_eq_false, decide_true, decide_false,  Int.reduceNeg, toNat_pred, toNat_succ, List.length_map, cnd_t, cnd_f, grd_tt, grd_u, grd_tf, grd_ft, grd_ff, g_skip, g_ops, g_seq, g_block, g_exit, g_ret, x_c, x_o, x_l, x_b, g_b, g_nil, r_all, o_nil, g_cond, o_guard, o_call, o_callv, lk, ef, o_mv, o_pick, o_bin, o_eqs, o_eqb, o_un, o_conv, o_load, o_loads, o_fld, o_idx, o_idxs, o_len, o_lens, o_ext, o_nilck, o_slc, o_slcs, o_build, o_minmax, o_mkfn, o_alloc, o_box, o_boxs, o_row, o_rowr, o_mk, o_asg, o_app, o_store, o_stores, hv, eqAV, ev, view, rowOf, cellsOf, argv, vbin, vun, bnd, elemOf, putParts, setAt, zav, ASt.rid, ASt.free, AV.kill, AV.isHome, AV.noLoan, AV.cellOK, Value.oneCell', put_at, mk_at, mk_nil, initSt, true_and, and_true, and_self, implies_true, List.map_cons, List.map_nil, List.forall_mem_cons, List.not_mem_nil, false_implies, List.length_cons, List.length_nil, List.getD_cons_zero, List.getD_cons_succ, List.getD_nil, List.drop_succ_cons, List.drop_zero, List.take_succ_cons, List.take_zero, List.set_cons_zero, List.set_cons_succ, List.all_cons, List.all_nil, Bool.and_true, Bool.true_and, Bool.not_true, Bool.not_false, reduceCtorEq, if_true, if_false, Bool.false_eq_true, ↓reduceIte, Nat.reduceEqDiff, Nat.reduceAdd, Nat.reduceSub, Nat.reduceMul, Nat.reduceLeDiff, Nat.reduceLT, ne_eq, not_false_eq_true, not_true_eq_false, Nat.one_ne_zero, Nat.zero_ne_one, r38_0, r38_1, r38_2, r38_3, r38_4, r38_5, r38_6, r38_7, r38_8, r38_9, r38_10, r38_11, p38]
    have hl : l.length ≤ 1000 := by omega
    have hr0 : row l = rowGo none l := if_neg (by omega)
    refine loopS (fun k : Nat => mk [(0, .ro (l.map Seg.av)), (8, .ro (l.map Seg.av)), (9, .val (.int .i64 l.length)), (10, .val (.int .i64 k))]) (fun k => k ≤ l.length ∧ row l = rowGo (prvB l k) (l.drop k)) (fun k => l.length - k) 0 (weak_mk ?_) ?_ ?_
    · simp only [wk_cons, wk_nil, wk1, vint_eq, vbool_eq, AV.val.injEq, done_eq, done_eq', fin_val, fin_tup, fin_agg, fin_ro, res_one, res_more, rv_t, rv_c, rv_l, AV.tup.injEq, AV.agg.injEq, AV.ro.injEq, List.cons.injEq, int_eq, bool_eq, Int.toNat_natCast, Int.reduceToNat, Int.toNat_zero, Int.toNat_one, Int.reduceLE, Int.reduceLT, Int.reduceBEq, Int.reduceBNe, beq_self_eq_true, bne_self_eq_false, decide_true, decide_false,  Int.reduceNeg, toNat_pred, toNat_succ, List.length_map, cnd_t, cnd_f, grd_tt, grd_u, grd_tf, grd_ft, grd_ff, g_skip, g_ops, g_seq, g_block, g_exit, g_ret, x_c, x_o, x_l, x_b, g_b, g_nil, r_all, o_nil, g_cond, o_guard, o_call, o_callv, lk, ef, o_mv, o_pick, o_bin, o_eqs, o_eqb, o_un, o_conv, o_load, o_loads, o_fld, o_idx, o_idxs, o_len, o_lens, o_ext, o_nilck, o_slc, o_slcs, o_build, o_minmax, o_mkfn, o_alloc, o_box, o_boxs, o_row, o_rowr, o_mk, o_asg, o_app, o_store, o_stores, hv, eqAV, ev, view, rowOf, cellsOf, argv, vbin, vun, bnd, elemOf, putParts, setAt, zav, ASt.rid, ASt.free, AV.kill, AV.isHome, AV.noLoan, AV.cellOK, Value.oneCell', put_at, mk_at, mk_nil, initSt, true_and, and_true, and_self, implies_true, List.map_cons, List.map_nil, List.forall_mem_cons, List.not_mem_nil, false_implies, List.length_cons, List.length_nil, List.getD_cons_zero, List.getD_cons_succ, List.getD_nil, List.drop_succ_cons, List.drop_zero, List.take_succ_cons, List.take_zero, List.set_cons_zero, List.set_cons_succ, List.all_cons, List.all_nil, Bool.and_true, Bool.true_and, Bool.not_true, Bool.not_false, reduceCtorEq, if_true, if_false, Bool.false_eq_true, ↓reduceIte, Nat.reduceEqDiff, Nat.reduceAdd, Nat.reduceSub, Nat.reduceMul, Nat.reduceLeDiff, Nat.reduceLT, ne_eq, not_false_eq_true, not_true_eq_false, Nat.one_ne_zero, Nat.zero_ne_one]
      simp
    · exact ⟨Nat.zero_le _, by simp [prvB, hr0]⟩
    · rintro J hJ k ⟨hk, hg⟩
      simp only [done_eq, done_eq', fin_val, fin_tup, fin_agg, fin_ro, res_one, res_more, rv_t, rv_c, rv_l, AV.tup.injEq, AV.agg.injEq, AV.ro.injEq, List.cons.injEq, int_eq, bool_eq, Int.toNat_natCast, Int.reduceToNat, Int.toNat_zero, Int.toNat_one, Int.reduceLE, Int.reduceLT, Int.reduceBEq, Int.reduceBNe, beq_self_eq_true, bne_self_eq_false, decide_true, decide_false,  Int.reduceNeg, toNat_pred, toNat_succ, List.length_map, cnd_t, cnd_f, grd_tt, grd_u, grd_tf, grd_ft, grd_ff, g_skip, g_ops, g_seq, g_block, g_exit, g_ret, x_c, x_o, x_l, x_b, g_b, g_nil, r_all, o_nil, g_cond, o_guard, o_call, o_callv, lk, ef, o_mv, o_pick, o_bin, o_eqs, o_eqb, o_un, o_conv, o_load, o_loads, o_fld, o_idx, o_idxs, o_len, o_lens, o_ext, o_nilck, o_slc, o_slcs, o_build, o_minmax, o_mkfn, o_alloc, o_box, o_boxs, o_row, o_rowr, o_mk, o_asg, o_app, o_store, o_stores, hv, eqAV, ev, view, rowOf, cellsOf, argv, vbin, vun, bnd, elemOf, putParts, setAt, zav, ASt.rid, ASt.free, AV.kill, AV.isHome, AV.noLoan, AV.cellOK, Value.oneCell', put_at, mk_at, mk_nil, initSt, true_and, and_true, and_self, implies_true, List.map_cons, List.map_nil, List.forall_mem_cons, List.not_mem_nil, false_implies, List.length_cons, List.length_nil, List.getD_cons_zero, List.getD_cons_succ, List.getD_nil, List.drop_succ_cons, List.drop_zero, List.take_succ_cons, List.take_zero, List.set_cons_zero, List.set_cons_succ, List.all_cons, List.all_nil, Bool.and_true, Bool.true_and, Bool.not_true, Bool.not_false, reduceCtorEq, if_true, if_false, Bool.false_eq_true, ↓reduceIte, Nat.reduceEqDiff, Nat.reduceAdd, Nat.reduceSub, Nat.reduceMul, Nat.reduceLeDiff, Nat.reduceLT, ne_eq, not_false_eq_true, not_true_eq_false, Nat.one_ne_zero, Nat.zero_ne_one, r38_0, r38_1, r38_2, r38_3, r38_4, r38_5, r38_6, r38_7, r38_8, r38_9, r38_10, r38_11, p38, l38_0]
      refine condD (fun h => ?_) (fun h => ?_)
      · have hlt : k < l.length := by omega
        have hr : row l = if badSeg l[k] then 1 else if ((prvB l k).any fun q => decide (l[k].bw < q)) || decide (l[k].len < 0) then 8 else rowGo (prvB l (k + 1)) (l.drop (k + 1)) := by
          rw [hg, List.drop_eq_getElem_cons hlt, rowGo, prvB_succ _ _ hlt]
        have hw : IntKind.i64.wrap (k + 1 : Int) = ((k + 1 : Nat) : Int) := wrap_in (by omega) (by omega)
        clear hg
        rcases Nat.eq_zero_or_pos k with rfl | hp
        · repeat' first | (with_reducible refine condD (fun h => ?_) (fun h => ?_)) | (with_reducible refine condS (fun h => ?_) (fun h => ?_)) | (with_reducible refine guardD (by with_unfolding_all rfl) (fun h => ?_) (fun h => ?_)) | (with_reducible refine guardS (by with_unfolding_all rfl) (fun h => ?_) (fun h => ?_)) | ((refine callG (notime_c _) ?_)) | ((refine callG (boundary_c _) ?_)) | (with_reducible refine And.intro ?_ ?_; omega) | (simp only [done_eq, done_eq', fin_val, fin_tup, fin_agg, fin_ro, res_one, res_more, rv_t, rv_c, rv_l, AV.tup.injEq, AV.agg.injEq, AV.ro.injEq, List.cons.injEq, int_eq, bool_eq, Int.toNat_natCast, Int.reduceToNat, Int.toNat_zero, Int.toNat_one, Int.reduceLE, Int.reduceLT, Int.reduceBEq, Int.reduceBNe, beq_self_eq_true, bne_self_eq_false, decide_true, decide_false,  Int.reduceNeg, toNat_pred, toNat_succ, List.length_map, cnd_t, cnd_f, grd_tt, grd_u, grd_tf, grd_ft, grd_ff, g_skip, g_ops, g_seq, g_block, g_exit, g_ret, x_c, x_o, x_l, x_b, g_b, g_nil, r_all, o_nil, g_cond, o_guard, o_call, o_callv, lk, ef, o_mv, o_pick, o_bin, o_eqs, o_eqb, o_un, o_conv, o_load, o_loads, o_fld, o_idx, o_idxs, o_len, o_lens, o_ext, o_nilck, o_slc, o_slcs, o_build, o_minmax, o_mkfn, o_alloc, o_box, o_boxs, o_row, o_rowr, o_mk, o_asg, o_app, o_store, o_stores, hv, eqAV, ev, view, rowOf, cellsOf, argv, vbin, vun, bnd, elemOf, putParts, setAt, zav, ASt.rid, ASt.free, AV.kill, AV.isHome, AV.noLoan, AV.cellOK, Value.oneCell', put_at, mk_at, mk_nil, initSt, true_and, and_true, and_self, implies_true, List.map_cons, List.map_nil, List.forall_mem_cons, List.not_mem_nil, false_implies, List.length_cons, List.length_nil, List.getD_cons_zero, List.getD_cons_succ, List.getD_nil, List.drop_succ_cons, List.drop_zero, List.take_succ_cons, List.take_zero, List.set_cons_zero, List.set_cons_succ, List.all_cons, List.all_nil, Bool.and_true, Bool.true_and, Bool.not_true, Bool.not_false, reduceCtorEq, if_true, if_false, Bool.false_eq_true, ↓reduceIte, Nat.reduceEqDiff, Nat.reduceAdd, Nat.reduceSub, Nat.reduceMul, Nat.reduceLeDiff, Nat.reduceLT, ne_eq, not_false_eq_true, not_true_eq_false, Nat.one_ne_zero, Nat.zero_ne_one, r38_0, r38_1, r38_2, r38_3, r38_4, r38_5, r38_6, r38_7, r38_8, r38_9, r38_10, r38_11, p38, l38_0, Seg.av, getD_map hlt]) | (exfalso; omega)
          all_goals try (clear hJ; simp [hr, badSeg, prvB, *]; done)
          exact again hJ (0 + 1) (weak_mk (by simp only [wk_cons, wk_nil, wk1, vint_eq, vbool_eq, AV.val.injEq, done_eq, done_eq', fin_val, fin_tup, fin_agg, fin_ro, res_one, res_more, rv_t, rv_c, rv_l, AV.tup.injEq, AV.agg.injEq, AV.ro.injEq, List.cons.injEq, int_eq, bool_eq, Int.toNat_natCast, Int.reduceToNat, Int.toNat_zero, Int.toNat_one, Int.reduceLE, Int.reduceLT, Int.reduceBEq, Int.reduceBNe, beq_self_eq_true, bne_self_eq_false, decide_true, decide_false,  Int.reduceNeg, toNat_pred, toNat_succ, List.length_map, cnd_t, cnd_f, grd_tt, grd_u, grd_tf, grd_ft, grd_ff, g_skip, g_ops, g_seq, g_block, g_exit, g_ret, x_c, x_o, x_l, x_b, g_b, g_nil, r_all, o_nil, g_cond, o_guard, o_call, o_callv, lk, ef, o_mv, o_pick, o_bin, o_eqs, o_eqb, o_un, o_conv, o_load, o_loads, o_fld, o_idx, o_idxs, o_len, o_lens, o_ext, o_nilck, o_slc, o_slcs, o_build, o_minmax, o_mkfn, o_alloc, o_box, o_boxs, o_row, o_rowr, o_mk, o_asg, o_app, o_store, o_stores, hv, eqAV, ev, view, rowOf, cellsOf, argv, vbin, vun, bnd, elemOf, putParts, setAt, zav, ASt.rid, ASt.free, AV.kill, AV.isHome, AV.noLoan, AV.cellOK, Value.oneCell', put_at, mk_at, mk_nil, initSt, true_and, and_true, and_self, implies_true, List.map_cons, List.map_nil, List.forall_mem_cons, List.not_mem_nil, false_implies, List.length_cons, List.length_nil, List.getD_cons_zero, List.getD_cons_succ, List.getD_nil, List.drop_succ_cons, List.drop_zero, List.take_succ_cons, List.take_zero, List.set_cons_zero, List.set_cons_succ, List.all_cons, List.all_nil, Bool.and_true, Bool.true_and, Bool.not_true, Bool.not_false, reduceCtorEq, if_true, if_false, Bool.false_eq_true, ↓reduceIte, Nat.reduceEqDiff, Nat.reduceAdd, Nat.reduceSub, Nat.reduceMul, Nat.reduceLeDiff, Nat.reduceLT, ne_eq, not_false_eq_true, not_true_eq_false, Nat.one_ne_zero, Nat.zero_ne_one]; exact hw)) ⟨by omega, by clear hJ; simp [hr, badSeg, prvB, *]⟩ (by omega)
        · have hlt1 : k - 1 < l.length := by omega
          have hw1 : IntKind.i64.wrap (k - 1 : Int) = ((k - 1 : Nat) : Int) := by rw [wrap_in (by omega) (by omega)]; omega
          have hpv : prvB l k = some l[k-1].bw := by simp [prvB, hlt1]; omega
          repeat' first | (with_reducible refine condD (fun h => ?_) (fun h => ?_)) | (with_reducible refine condS (fun h => ?_) (fun h => ?_)) | (with_reducible refine guardD (by with_unfolding_all rfl) (fun h => ?_) (fun h => ?_)) | (with_reducible refine guardS (by with_unfolding_all rfl) (fun h => ?_) (fun h => ?_)) | ((refine callG (notime_c _) ?_)) | ((refine callG (boundary_c _) ?_)) | (with_reducible refine And.intro ?_ ?_; omega) | (simp only [done_eq, done_eq', fin_val, fin_tup, fin_agg, fin_ro, res_one, res_more, rv_t, rv_c, rv_l, AV.tup.injEq, AV.agg.injEq, AV.ro.injEq, List.cons.injEq, int_eq, bool_eq, Int.toNat_natCast, Int.reduceToNat, Int.toNat_zero, Int.toNat_one, Int.reduceLE, Int.reduceLT, Int.reduceBEq, Int.reduceBNe, beq_self_eq_true, bne_self_eq_false, decide_true, decide_false,  Int.reduceNeg, toNat_pred, toNat_succ, List.length_map, cnd_t, cnd_f, grd_tt, grd_u, grd_tf, grd_ft, grd_ff, g_skip, g_ops, g_seq, g_block, g_exit, g_ret, x_c, x_o, x_l, x_b, g_b, g_nil, r_all, o_nil, g_cond, o_guard, o_call, o_callv, lk, ef, o_mv, o_pick, o_bin, o_eqs, o_eqb, o_un, o_conv, o_load, o_loads, o_fld, o_idx, o_idxs, o_len, o_lens, o_ext, o_nilck, o_slc, o_slcs, o_build, o_minmax, o_mkfn, o_alloc, o_box, o_boxs, o_row, o_rowr, o_mk, o_asg, o_app, o_store, o_stores, hv, eqAV, ev, view, rowOf, cellsOf, argv, vbin, vun, bnd, elemOf, putParts, setAt, zav, ASt.rid, ASt.free, AV.kill, AV.isHome, AV.noLoan, AV.cellOK, Value.oneCell', put_at, mk_at, mk_nil, initSt, true_and, and_true, and_self, implies_true, List.map_cons, List.map_nil, List.forall_mem_cons, List.not_mem_nil, false_implies, List.length_cons, List.length_nil, List.getD_cons_zero, List.getD_cons_succ, List.getD_nil, List.drop_succ_cons, List.drop_zero, List.take_succ_cons, List.take_zero, List.set_cons_zero, List.set_cons_succ, List.all_cons, List.all_nil, Bool.and_true, Bool.true_and, Bool.not_true, Bool.not_false, reduceCtorEq, if_true, if_false, Bool.false_eq_true, ↓reduceIte, Nat.reduceEqDiff, Nat.reduceAdd, Nat.reduceSub, Nat.reduceMul, Nat.reduceLeDiff, Nat.reduceLT, ne_eq, not_false_eq_true, not_true_eq_false, Nat.one_ne_zero, Nat.zero_ne_one, r38_0, r38_1, r38_2, r38_3, r38_4, r38_5, r38_6, r38_7, r38_8, r38_9, r38_10, r38_11, p38, l38_0, Seg.av, getD_map hlt, getD_map hlt1, hw1]) | (exfalso; omega)
          all_goals try (clear hJ; simp [hr, badSeg, *]; done)
          exact again hJ (k + 1) (weak_mk (by simp only [wk_cons, wk_nil, wk1, vint_eq, vbool_eq, AV.val.injEq, done_eq, done_eq', fin_val, fin_tup, fin_agg, fin_ro, res_one, res_more, rv_t, rv_c, rv_l, AV.tup.injEq, AV.agg.injEq, AV.ro.injEq, List.cons.injEq, int_eq, bool_eq, Int.toNat_natCast, Int.reduceToNat, Int.toNat_zero, Int.toNat_one, Int.reduceLE, Int.reduceLT, Int.reduceBEq, Int.reduceBNe, beq_self_eq_true, bne_self_eq_false, decide_true, decide_false,  Int.reduceNeg, toNat_pred, toNat_succ, List.length_map, cnd_t, cnd_f, grd_tt, grd_u, grd_tf, grd_ft, grd_ff, g_skip, g_ops, g_seq, g_block, g_exit, g_ret, x_c, x_o, x_l, x_b, g_b, g_nil, r_all, o_nil, g_cond, o_guard, o_call, o_callv, lk, ef, o_mv, o_pick, o_bin, o_eqs, o_eqb, o_un, o_conv, o_load, o_loads, o_fld, o_idx, o_idxs, o_len, o_lens, o_ext, o_nilck, o_slc, o_slcs, o_build, o_minmax, o_mkfn, o_alloc, o_box, o_boxs, o_row, o_rowr, o_mk, o_asg, o_app, o_store, o_stores, hv, eqAV, ev, view, rowOf, cellsOf, argv, vbin, vun, bnd, elemOf, putParts, setAt, zav, ASt.rid, ASt.free, AV.kill, AV.isHome, AV.noLoan, AV.cellOK, Value.oneCell', put_at, mk_at, mk_nil, initSt, true_and, and_true, and_self, implies_true, List.map_cons, List.map_nil, List.forall_mem_cons, List.not_mem_nil, false_implies, List.length_cons, List.length_nil, List.getD_cons_zero, List.getD_cons_succ, List.getD_nil, List.drop_succ_cons, List.drop_zero, List.take_succ_cons, List.take_zero, List.set_cons_zero, List.set_cons_succ, List.all_cons, List.all_nil, Bool.and_true, Bool.true_and, Bool.not_true, Bool.not_false, reduceCtorEq, if_true, if_false, Bool.false_eq_true, ↓reduceIte, Nat.reduceEqDiff, Nat.reduceAdd, Nat.reduceSub, Nat.reduceMul, Nat.reduceLeDiff, Nat.reduceLT, ne_eq, not_false_eq_true, not_true_eq_false, Nat.one_ne_zero, Nat.zero_ne_one]; exact hw)) ⟨by omega, by clear hJ; simp [hr, badSeg, *]⟩ (by omega)
      · have hke : k = l.length := by omega
        subst hke
        repeat' first | (with_reducible refine condD (fun h => ?_) (fun h => ?_)) | (with_reducible refine condS (fun h => ?_) (fun h => ?_)) | (with_reducible refine guardD (by with_unfolding_all rfl) (fun h => ?_) (fun h => ?_)) | (with_reducible refine guardS (by with_unfolding_all rfl) (fun h => ?_) (fun h => ?_)) | (with_reducible refine And.intro ?_ ?_; omega) | (simp only [done_eq, done_eq', fin_val, fin_tup, fin_agg, fin_ro, res_one, res_more, rv_t, rv_c, rv_l, AV.tup.injEq, AV.agg.injEq, AV.ro.injEq, List.cons.injEq, int_eq, bool_eq, Int.toNat_natCast, Int.reduceToNat, Int.toNat_zero, Int.toNat_one, Int.reduceLE, Int.reduceLT, Int.reduceBEq, Int.reduceBNe, beq_self_eq_true, bne_self_eq_false, decide_true, decide_false,  Int.reduceNeg, toNat_pred, toNat_succ, List.length_map, cnd_t, cnd_f, grd_tt, grd_u, grd_tf, grd_ft, grd_ff, g_skip, g_ops, g_seq, g_block, g_exit, g_ret, x_c, x_o, x_l, x_b, g_b, g_nil, r_all, o_nil, g_cond, o_guard, o_call, o_callv, lk, ef, o_mv, o_pick, o_bin, o_eqs, o_eqb, o_un, o_conv, o_load, o_loads, o_fld, o_idx, o_idxs, o_len, o_lens, o_ext, o_nilck, o_slc, o_slcs, o_build, o_minmax, o_mkfn, o_alloc, o_box, o_boxs, o_row, o_rowr, o_mk, o_asg, o_app, o_store, o_stores, hv, eqAV, ev, view, rowOf, cellsOf, argv, vbin, vun, bnd, elemOf, putParts, setAt, zav, ASt.rid, ASt.free, AV.kill, AV.isHome, AV.noLoan, AV.cellOK, Value.oneCell', put_at, mk_at, mk_nil, initSt, true_and, and_true, and_self, implies_true, List.map_cons, List.map_nil, List.forall_mem_cons, List.not_mem_nil, false_implies, List.length_cons, List.length_nil, List.getD_cons_zero, List.getD_cons_succ, List.getD_nil, List.drop_succ_cons, List.drop_zero, List.take_succ_cons, List.take_zero, List.set_cons_zero, List.set_cons_succ, List.all_cons, List.all_nil, Bool.and_true, Bool.true_and, Bool.not_true, Bool.not_false, reduceCtorEq, if_true, if_false, Bool.false_eq_true, ↓reduceIte, Nat.reduceEqDiff, Nat.reduceAdd, Nat.reduceSub, Nat.reduceMul, Nat.reduceLeDiff, Nat.reduceLT, ne_eq, not_false_eq_true, not_true_eq_false, Nat.one_ne_zero, Nat.zero_ne_one, r38_0, r38_1, r38_2, r38_3, r38_4, r38_5, r38_6, r38_7, r38_8, r38_9, r38_10, r38_11, p38, l38_0]) | (exfalso; omega)
        simp [hg, rowGo]
end Go.Proofs.Ytpkeiabifoipoaa
