/- Ranges: cut.rangesOf, Ranges, Seek, First, Fetch, by the machine on data. -/
import Derived.Test.YtpkeiabifoipoaaKSeg
namespace Go.Proofs.Ytpkeiabifoipoaa
open Go.RowKit
set_option linter.unusedSimpArgs false

structure Rg where
  frm : Int
  to : Int
def Rg.av (s : Rg) : List AV := [.val (.int .i64 s.frm), .val (.int .i64 s.to)]

/-! headend/cut.rangesOf -/
def r40_0 : List POp := [⟨4, .asg .nil, none⟩,
  ⟨5, .asg (.c (.int .i64 0)), none⟩]
def r40_1 : List POp := [⟨9, .mv (.t 1), none⟩,
  ⟨10, .call 37 [.t 9, .c (.int .i64 0), .c (.int .i64 1000000000000000)], none⟩]
def r40_2 : List POp := [⟨4, .asg .nil, none⟩,
  ⟨5, .asg (.c (.int .i64 1)), none⟩]
def r40_3 : List POp := [⟨11, .mv (.t 0), none⟩,
  ⟨12, .len (.t 11), none⟩,
  ⟨13, .bin .gtr (.t 12) (.c (.int .i64 1000)), none⟩]
def r40_4 : List POp := [⟨4, .asg .nil, none⟩,
  ⟨5, .asg (.c (.int .i64 2)), none⟩]
def r40_5 : List POp := [⟨6, .asg .nil, none⟩]
def r40_6 : List POp := [⟨14, .mv (.t 0), none⟩,
  ⟨15, .len (.t 14), none⟩,
  ⟨16, .mv (.c (.int .i64 0)), none⟩]
def r40_7 : List POp := [⟨17, .bin .lss (.t 16) (.t 15), none⟩]
def r40_8 : List POp := [⟨18, .idx 7 (.t 14) (.t 16), none⟩,
  ⟨19, .loads 7 (.t 18), none⟩,
  ⟨8, .alloc [.int .i64 0, .int .i64 0, .int .i64 0, .int .i64 0, .int .i64 0, .int .i64 0, .int .i64 0], none⟩,
  ⟨0, .stores 7 (.t 8) (.t 19), none⟩]
def r40_9 : List POp := [⟨20, .fld 5 (.t 8), none⟩,
  ⟨21, .load (.t 20), none⟩,
  ⟨22, .call 37 [.t 21, .c (.int .i64 0), .c (.int .i64 1000000000000000)], none⟩,
  ⟨23, .mv (.t 22), none⟩,
  ⟨24, .mv (.t 1), some (23, false)⟩,
  ⟨25, .fld 5 (.t 8), some (23, false)⟩,
  ⟨26, .load (.t 25), some (23, false)⟩,
  ⟨27, .bin .add (.t 24) (.t 26), some (23, false)⟩,
  ⟨28, .bin .gtr (.t 27) (.c (.int .i64 1000000000000000)), some (23, false)⟩,
  ⟨29, .pick (.t 23) (.c (.bool true)) (.t 28), none⟩]
def r40_10 : List POp := [⟨4, .asg .nil, none⟩,
  ⟨5, .asg (.c (.int .i64 1)), none⟩]
def r40_11 : List POp := [⟨30, .mv (.t 6), none⟩,
  ⟨31, .mv (.t 1), none⟩,
  ⟨32, .mv (.t 1), none⟩,
  ⟨33, .fld 5 (.t 8), none⟩,
  ⟨34, .load (.t 33), none⟩,
  ⟨35, .bin .add (.t 32) (.t 34), none⟩,
  ⟨36, .build [.int .i64 0, .int .i64 0] [(0, 1, .t 31), (1, 1, .t 35)], none⟩,
  ⟨37, .row 56 2 [.t 36], none⟩,
  ⟨38, .app 56 2 16 (.t 30) (.t 37), none⟩,
  ⟨6, .asg (.t 38), none⟩]
def r40_12 : List POp := [⟨39, .mv (.t 1), none⟩,
  ⟨40, .fld 5 (.t 8), none⟩,
  ⟨41, .load (.t 40), none⟩,
  ⟨42, .bin .add (.t 39) (.t 41), none⟩,
  ⟨1, .asg (.t 42), none⟩]
def r40_13 : List POp := [⟨43, .bin .add (.t 16) (.c (.int .i64 1)), none⟩,
  ⟨16, .mv (.t 43), none⟩]
def r40_14 : List POp := [⟨44, .mv (.t 6), none⟩,
  ⟨4, .asg (.t 44), none⟩,
  ⟨5, .asg (.c (.int .i64 0)), none⟩]
def l40_0 : PCode := .seq (.ops r40_7) (.seq (.cond (.t 17) (.skip) (.exit 0)) (.seq (.block 1 (.seq (.ops r40_8) (.seq (.seq (.ops r40_9) (.cond (.t 29) (.seq (.ops r40_10) (.ret)) (.skip))) (.seq (.ops r40_11) (.ops r40_12))))) (.ops r40_13)))
def p40 : PCode := .seq (.ops r40_0) (.seq (.seq (.ops r40_1) (.cond (.t 10) (.seq (.ops r40_2) (.ret)) (.skip))) (.seq (.seq (.ops r40_3) (.cond (.t 13) (.seq (.ops r40_4) (.ret)) (.skip))) (.seq (.ops r40_5) (.seq (.seq (.ops r40_6) (.block 0 (.loop l40_0))) (.seq (.ops r40_14) (.ret))))))
theorem ok40 : okFunc Try.prog 40 [.t 4, .t 5] 2 p40 = true := by kernel_rfl
def rngBad (st : Int) (s : Seg) : Bool := outB s.bytes 0 1000000000000000 || decide (1000000000000000 < IntKind.i64.wrap (st + s.bytes))
def rngGo : Int → List Rg → List Seg → List Rg × Int
  | _, out, [] => (out, 0)
  | st, out, s :: r => if rngBad st s then ([], 1) else rngGo (IntKind.i64.wrap (st + s.bytes)) (out ++ [⟨st, IntKind.i64.wrap (st + s.bytes)⟩]) r
def rng (l : List Seg) (st : Int) : List Rg × Int := if outB st 0 1000000000000000 then ([], 1) else if 1000 < l.length then ([], 2) else rngGo st [] l
theorem rng_c (l : List Seg) (st : Int) : CallOK Try.prog 40 [.ro (l.map Seg.av), .val (.int .i64 st)] (.tup [.ro ((rng l st).1.map Rg.av), .val (.int .i64 (rng l st).2)]) := by
  refine call_of mixed ok40 rfl ?_
  repeat' first | (with_reducible refine condD (fun h => ?_) (fun h => ?_)) | (with_reducible refine condE (fun h => ?_) (fun h => ?_)) | (with_reducible refine condN (fun h => ?_) (fun h => ?_)) | (with_reducible refine condI (fun h => ?_) (fun h => ?_)) | (with_reducible refine condS (fun h => ?_) (fun h => ?_)) | (with_reducible refine guardD (by with_unfolding_all rfl) (fun h => ?_) (fun h => ?_)) | (with_reducible refine guardE (by with_unfolding_all rfl) (fun h => ?_) (fun h => ?_)) | (with_reducible refine guardN (by with_unfolding_all rfl) (fun h => ?_) (fun h => ?_)) | (with_reducible refine guardI (by with_unfolding_all rfl) (fun h => ?_) (fun h => ?_)) | (with_reducible refine guardS (by with_unfolding_all rfl) (fun h => ?_) (fun h => ?_)) | ((refine callG (out_c _ _ _) ?_)) | (with_reducible refine And.intro ?_ ?_; omega) | (simp only [done_eq, done_eq', fin_val, fin_tup, fin_agg, fin_ro, res_one, res_more, rv_t, rv_c, rv_l, AV.tup.injEq, AV.agg.injEq, AV.ro.injEq, List.cons.injEq, int_eq, bool_eq, Int.toNat_natCast, Int.reduceToNat, Int.toNat_zero, Int.toNat_one, Int.reduceLE, Int.reduceLT, Int.reduceBEq, Int.reduceBNe, beq_self_eq_true, bne_self_eq_false, decide_true, decide_false,  Int.reduceNeg, toNat_pred, toNat_succ, List.length_map, cnd_t, cnd_f, grd_tt, grd_u, grd_tf, grd_ft, grd_ff, g_skip, g_ops, g_seq, g_block, g_exit, g_ret, x_c, x_o, x_l, x_b, g_b, g_nil, r_all, o_nil, g_cond, o_guard, o_call, o_callv, lk, ef, o_mv, o_pick, o_bin, o_eqs, o_eqb, o_un, o_conv, o_load, o_loads, o_fld, o_idx, o_idxs, o_len, o_lens, o_ext, o_nilck, o_slc, o_slcs, o_build, o_minmax, o_mkfn, o_alloc, o_box, o_boxs, o_row, o_rowr, o_mk, o_asg, o_app, o_store, o_stores, hv, eqAV, ev, view, rowOf, cellsOf, argv, vbin, vun, bnd, elemOf, putParts, setAt, zav, ASt.rid, ASt.free, AV.kill, AV.isHome, AV.noLoan, AV.cellOK, Value.oneCell', put_at, mk_at, mk_nil, initSt, true_and, and_true, and_self, implies_true, List.map_cons, List.map_nil, List.forall_mem_cons, List.not_mem_nil, false_implies, List.length_cons, List.length_nil, List.getD_cons_zero, List.getD_cons_succ, List.getD_nil, List.drop_succ_cons, List.drop_zero, List.take_succ_cons, List.take_zero, List.set_cons_zero, List.set_cons_succ, List.all_cons, List.all_nil, Bool.and_true, Bool.true_and, Bool.not_true, Bool.not_false, reduceCtorEq, if_true, if_false, Bool.false_eq_true, ↓reduceIte, Nat.reduceEqDiff, Nat.reduceAdd, Nat.reduceSub, Nat.reduceMul, Nat.reduceLeDiff, Nat.reduceLT, ne_eq, not_false_eq_true, not_true_eq_false, Nat.one_ne_zero, Nat.zero_ne_one, r40_0, r40_1, r40_2, r40_3, r40_4, r40_5, r40_6, r40_7, r40_8, r40_9, r40_10, r40_11, r40_12, r40_13, r40_14, p40]) | (exfalso; omega)
  · simp [rng, *]
  · rename_i h1
    simp [rng, h1, show 1000 < l.length by omega]
  · rename_i h1
    have hl : l.length ≤ 1000 := by omega
    have hr0 : rng l st = rngGo st [] l := by simp [rng, h1, show ¬1000 < l.length by omega]
    refine loopS (fun p : Nat × Int × List Rg => mk [(0, .ro (l.map Seg.av)), (1, .val (.int .i64 p.2.1)), (6, .own 56 2 (p.2.2.map Rg.av)), (14, .ro (l.map Seg.av)), (15, .val (.int .i64 l.length)), (16, .val (.int .i64 p.1))]) (fun p => p.1 ≤ l.length ∧ p.2.2.length ≤ p.1 ∧ rng l st = rngGo p.2.1 p.2.2 (l.drop p.1)) (fun p => l.length - p.1) (0, st, []) (weak_mk ?_) ?_ ?_
    · simp only [wk_cons, wk_nil, wk1, vint_eq, vbool_eq, AV.val.injEq, done_eq, done_eq', fin_val, fin_tup, fin_agg, fin_ro, res_one, res_more, rv_t, rv_c, rv_l, AV.tup.injEq, AV.agg.injEq, AV.ro.injEq, List.cons.injEq, int_eq, bool_eq, Int.toNat_natCast, Int.reduceToNat, Int.toNat_zero, Int.toNat_one, Int.reduceLE, Int.reduceLT, Int.reduceBEq, Int.reduceBNe, beq_self_eq_true, bne_self_eq_false, decide_true, decide_false,  Int.reduceNeg, toNat_pred, toNat_succ, List.length_map, cnd_t, cnd_f, grd_tt, grd_u, grd_tf, grd_ft, grd_ff, g_skip, g_ops, g_seq, g_block, g_exit, g_ret, x_c, x_o, x_l, x_b, g_b, g_nil, r_all, o_nil, g_cond, o_guard, o_call, o_callv, lk, ef, o_mv, o_pick, o_bin, o_eqs, o_eqb, o_un, o_conv, o_load, o_loads, o_fld, o_idx, o_idxs, o_len, o_lens, o_ext, o_nilck, o_slc, o_slcs, o_build, o_minmax, o_mkfn, o_alloc, o_box, o_boxs, o_row, o_rowr, o_mk, o_asg, o_app, o_store, o_stores, hv, eqAV, ev, view, rowOf, cellsOf, argv, vbin, vun, bnd, elemOf, putParts, setAt, zav, ASt.rid, ASt.free, AV.kill, AV.isHome, AV.noLoan, AV.cellOK, Value.oneCell', put_at, mk_at, mk_nil, initSt, true_and, and_true, and_self, implies_true, List.map_cons, List.map_nil, List.forall_mem_cons, List.not_mem_nil, false_implies, List.length_cons, List.length_nil, List.getD_cons_zero, List.getD_cons_succ, List.getD_nil, List.drop_succ_cons, List.drop_zero, List.take_succ_cons, List.take_zero, List.set_cons_zero, List.set_cons_succ, List.all_cons, List.all_nil, Bool.and_true, Bool.true_and, Bool.not_true, Bool.not_false, reduceCtorEq, if_true, if_false, Bool.false_eq_true, ↓reduceIte, Nat.reduceEqDiff, Nat.reduceAdd, Nat.reduceSub, Nat.reduceMul, Nat.reduceLeDiff, Nat.reduceLT, ne_eq, not_false_eq_true, not_true_eq_false, Nat.one_ne_zero, Nat.zero_ne_one]
      simp
    · exact ⟨Nat.zero_le _, Nat.zero_le _, by simp [hr0]⟩
    · rintro J hJ ⟨k, at', out⟩ ⟨hk, ho, hg⟩
      simp only at hk ho hg
      simp only [done_eq, done_eq', fin_val, fin_tup, fin_agg, fin_ro, res_one, res_more, rv_t, rv_c, rv_l, AV.tup.injEq, AV.agg.injEq, AV.ro.injEq, List.cons.injEq, int_eq, bool_eq, Int.toNat_natCast, Int.reduceToNat, Int.toNat_zero, Int.toNat_one, Int.reduceLE, Int.reduceLT, Int.reduceBEq, Int.reduceBNe, beq_self_eq_true, bne_self_eq_false, decide_true, decide_false,  Int.reduceNeg, toNat_pred, toNat_succ, List.length_map, cnd_t, cnd_f, grd_tt, grd_u, grd_tf, grd_ft, grd_ff, g_skip, g_ops, g_seq, g_block, g_exit, g_ret, x_c, x_o, x_l, x_b, g_b, g_nil, r_all, o_nil, g_cond, o_guard, o_call, o_callv, lk, ef, o_mv, o_pick, o_bin, o_eqs, o_eqb, o_un, o_conv, o_load, o_loads, o_fld, o_idx, o_idxs, o_len, o_lens, o_ext, o_nilck, o_slc, o_slcs, o_build, o_minmax, o_mkfn, o_alloc, o_box, o_boxs, o_row, o_rowr, o_mk, o_asg, o_app, o_store, o_stores, hv, eqAV, ev, view, rowOf, cellsOf, argv, vbin, vun, bnd, elemOf, putParts, setAt, zav, ASt.rid, ASt.free, AV.kill, AV.isHome, AV.noLoan, AV.cellOK, Value.oneCell', put_at, mk_at, mk_nil, initSt, true_and, and_true, and_self, implies_true, List.map_cons, List.map_nil, List.forall_mem_cons, List.not_mem_nil, false_implies, List.length_cons, List.length_nil, List.getD_cons_zero, List.getD_cons_succ, List.getD_nil, List.drop_succ_cons, List.drop_zero, List.take_succ_cons, List.take_zero, List.set_cons_zero, List.set_cons_succ, List.all_cons, List.all_nil, Bool.and_true, Bool.true_and, Bool.not_true, Bool.not_false, reduceCtorEq, if_true, if_false, Bool.false_eq_true, ↓reduceIte, Nat.reduceEqDiff, Nat.reduceAdd, Nat.reduceSub, Nat.reduceMul, Nat.reduceLeDiff, Nat.reduceLT, ne_eq, not_false_eq_true, not_true_eq_false, Nat.one_ne_zero, Nat.zero_ne_one, r40_0, r40_1, r40_2, r40_3, r40_4, r40_5, r40_6, r40_7, r40_8, r40_9, r40_10, r40_11, r40_12, r40_13, r40_14, p40, l40_0]
      refine condD (fun h => ?_) (fun h => ?_)
      · have hlt : k < l.length := by omega
        have hr : rng l st = if rngBad at' l[k] then ([], 1) else rngGo (IntKind.i64.wrap (at' + l[k].bytes)) (out ++ [⟨at', IntKind.i64.wrap (at' + l[k].bytes)⟩]) (l.drop (k + 1)) := by
          rw [hg, List.drop_eq_getElem_cons hlt, rngGo]
        have hw : IntKind.i64.wrap (k + 1 : Int) = ((k + 1 : Nat) : Int) := wrap_in (by omega) (by omega)
        clear hg
        repeat' first | (with_reducible refine condD (fun h => ?_) (fun h => ?_)) | (with_reducible refine condE (fun h => ?_) (fun h => ?_)) | (with_reducible refine condN (fun h => ?_) (fun h => ?_)) | (with_reducible refine condI (fun h => ?_) (fun h => ?_)) | (with_reducible refine condS (fun h => ?_) (fun h => ?_)) | (with_reducible refine guardD (by with_unfolding_all rfl) (fun h => ?_) (fun h => ?_)) | (with_reducible refine guardE (by with_unfolding_all rfl) (fun h => ?_) (fun h => ?_)) | (with_reducible refine guardN (by with_unfolding_all rfl) (fun h => ?_) (fun h => ?_)) | (with_reducible refine guardI (by with_unfolding_all rfl) (fun h => ?_) (fun h => ?_)) | (with_reducible refine guardS (by with_unfolding_all rfl) (fun h => ?_) (fun h => ?_)) | ((refine callG (out_c _ _ _) ?_)) | (with_reducible refine And.intro ?_ ?_; omega) | (simp only [done_eq, done_eq', fin_val, fin_tup, fin_agg, fin_ro, res_one, res_more, rv_t, rv_c, rv_l, AV.tup.injEq, AV.agg.injEq, AV.ro.injEq, List.cons.injEq, int_eq, bool_eq, Int.toNat_natCast, Int.reduceToNat, Int.toNat_zero, Int.toNat_one, Int.reduceLE, Int.reduceLT, Int.reduceBEq, Int.reduceBNe, beq_self_eq_true, bne_self_eq_false, decide_true, decide_false,  Int.reduceNeg, toNat_pred, toNat_succ, List.length_map, cnd_t, cnd_f, grd_tt, grd_u, grd_tf, grd_ft, grd_ff, g_skip, g_ops, g_seq, g_block, g_exit, g_ret, x_c, x_o, x_l, x_b, g_b, g_nil, r_all, o_nil, g_cond, o_guard, o_call, o_callv, lk, ef, o_mv, o_pick, o_bin, o_eqs, o_eqb, o_un, o_conv, o_load, o_loads, o_fld, o_idx, o_idxs, o_len, o_lens, o_ext, o_nilck, o_slc, o_slcs, o_build, o_minmax, o_mkfn, o_alloc, o_box, o_boxs, o_row, o_rowr, o_mk, o_asg, o_app, o_store, o_stores, hv, eqAV, ev, view, rowOf, cellsOf, argv, vbin, vun, bnd, elemOf, putParts, setAt, zav, ASt.rid, ASt.free, AV.kill, AV.isHome, AV.noLoan, AV.cellOK, Value.oneCell', put_at, mk_at, mk_nil, initSt, true_and, and_true, and_self, implies_true, List.map_cons, List.map_nil, List.forall_mem_cons, List.not_mem_nil, false_implies, List.length_cons, List.length_nil, List.getD_cons_zero, List.getD_cons_succ, List.getD_nil, List.drop_succ_cons, List.drop_zero, List.take_succ_cons, List.take_zero, List.set_cons_zero, List.set_cons_succ, List.all_cons, List.all_nil, Bool.and_true, Bool.true_and, Bool.not_true, Bool.not_false, reduceCtorEq, if_true, if_false, Bool.false_eq_true, ↓reduceIte, Nat.reduceEqDiff, Nat.reduceAdd, Nat.reduceSub, Nat.reduceMul, Nat.reduceLeDiff, Nat.reduceLT, ne_eq, not_false_eq_true, not_true_eq_false, Nat.one_ne_zero, Nat.zero_ne_one, r40_0, r40_1, r40_2, r40_3, r40_4, r40_5, r40_6, r40_7, r40_8, r40_9, r40_10, r40_11, r40_12, r40_13, r40_14, p40, l40_0, Seg.av, getD_map hlt]) | (exfalso; omega)
        all_goals try (clear hJ; simp [hr, rngBad, *]; done)
        exact again hJ (k + 1, _, out ++ [⟨at', IntKind.i64.wrap (at' + l[k].bytes)⟩]) (weak_mk (by simp only [wk_cons, wk_nil, wk1, vint_eq, vbool_eq, AV.val.injEq, done_eq, done_eq', fin_val, fin_tup, fin_agg, fin_ro, res_one, res_more, rv_t, rv_c, rv_l, AV.tup.injEq, AV.agg.injEq, AV.ro.injEq, List.cons.injEq, int_eq, bool_eq, Int.toNat_natCast, Int.reduceToNat, Int.toNat_zero, Int.toNat_one, Int.reduceLE, Int.reduceLT, Int.reduceBEq, Int.reduceBNe, beq_self_eq_true, bne_self_eq_false, decide_true, decide_false,  Int.reduceNeg, toNat_pred, toNat_succ, List.length_map, cnd_t, cnd_f, grd_tt, grd_u, grd_tf, grd_ft, grd_ff, g_skip, g_ops, g_seq, g_block, g_exit, g_ret, x_c, x_o, x_l, x_b, g_b, g_nil, r_all, o_nil, g_cond, o_guard, o_call, o_callv, lk, ef, o_mv, o_pick, o_bin, o_eqs, o_eqb, o_un, o_conv, o_load, o_loads, o_fld, o_idx, o_idxs, o_len, o_lens, o_ext, o_nilck, o_slc, o_slcs, o_build, o_minmax, o_mkfn, o_alloc, o_box, o_boxs, o_row, o_rowr, o_mk, o_asg, o_app, o_store, o_stores, hv, eqAV, ev, view, rowOf, cellsOf, argv, vbin, vun, bnd, elemOf, putParts, setAt, zav, ASt.rid, ASt.free, AV.kill, AV.isHome, AV.noLoan, AV.cellOK, Value.oneCell', put_at, mk_at, mk_nil, initSt, true_and, and_true, and_self, implies_true, List.map_cons, List.map_nil, List.forall_mem_cons, List.not_mem_nil, false_implies, List.length_cons, List.length_nil, List.getD_cons_zero, List.getD_cons_succ, List.getD_nil, List.drop_succ_cons, List.drop_zero, List.take_succ_cons, List.take_zero, List.set_cons_zero, List.set_cons_succ, List.all_cons, List.all_nil, Bool.and_true, Bool.true_and, Bool.not_true, Bool.not_false, reduceCtorEq, if_true, if_false, Bool.false_eq_true, ↓reduceIte, Nat.reduceEqDiff, Nat.reduceAdd, Nat.reduceSub, Nat.reduceMul, Nat.reduceLeDiff, Nat.reduceLT, ne_eq, not_false_eq_true, not_true_eq_false, Nat.one_ne_zero, Nat.zero_ne_one]; exact ⟨rfl, by simp [Rg.av], hw⟩)) ⟨by omega, by simp; omega, by simp [hr, rngBad, *, -hJ]⟩ (by simp only; omega)
      · have hke : k = l.length := by omega
        subst hke
        repeat' first | (with_reducible refine condD (fun h => ?_) (fun h => ?_)) | (with_reducible refine condE (fun h => ?_) (fun h => ?_)) | (with_reducible refine condN (fun h => ?_) (fun h => ?_)) | (with_reducible refine condI (fun h => ?_) (fun h => ?_)) | (with_reducible refine condS (fun h => ?_) (fun h => ?_)) | (with_reducible refine guardD (by with_unfolding_all rfl) (fun h => ?_) (fun h => ?_)) | (with_reducible refine guardE (by with_unfolding_all rfl) (fun h => ?_) (fun h => ?_)) | (with_reducible refine guardN (by with_unfolding_all rfl) (fun h => ?_) (fun h => ?_)) | (with_reducible refine guardI (by with_unfolding_all rfl) (fun h => ?_) (fun h => ?_)) | (with_reducible refine guardS (by with_unfolding_all rfl) (fun h => ?_) (fun h => ?_)) | (with_reducible refine And.intro ?_ ?_; omega) | (simp only [done_eq, done_eq', fin_val, fin_tup, fin_agg, fin_ro, res_one, res_more, rv_t, rv_c, rv_l, AV.tup.injEq, AV.agg.injEq, AV.ro.injEq, List.cons.injEq, int_eq, bool_eq, Int.toNat_natCast, Int.reduceToNat, Int.toNat_zero, Int.toNat_one, Int.reduceLE, Int.reduceLT, Int.reduceBEq, Int.reduceBNe, beq_self_eq_true, bne_self_eq_false, decide_true, decide_false,  Int.reduceNeg, toNat_pred, toNat_succ, List.length_map, cnd_t, cnd_f, grd_tt, grd_u, grd_tf, grd_ft, grd_ff, g_skip, g_ops, g_seq, g_block, g_exit, g_ret, x_c, x_o, x_l, x_b, g_b, g_nil, r_all, o_nil, g_cond, o_guard, o_call, o_callv, lk, ef, o_mv, o_pick, o_bin, o_eqs, o_eqb, o_un, o_conv, o_load, o_loads, o_fld, o_idx, o_idxs, o_len, o_lens, o_ext, o_nilck, o_slc, o_slcs, o_build, o_minmax, o_mkfn, o_alloc, o_box, o_boxs, o_row, o_rowr, o_mk, o_asg, o_app, o_store, o_stores, hv, eqAV, ev, view, rowOf, cellsOf, argv, vbin, vun, bnd, elemOf, putParts, setAt, zav, ASt.rid, ASt.free, AV.kill, AV.isHome, AV.noLoan, AV.cellOK, Value.oneCell', put_at, mk_at, mk_nil, initSt, true_and, and_true, and_self, implies_true, List.map_cons, List.map_nil, List.forall_mem_cons, List.not_mem_nil, false_implies, List.length_cons, List.length_nil, List.getD_cons_zero, List.getD_cons_succ, List.getD_nil, List.drop_succ_cons, List.drop_zero, List.take_succ_cons, List.take_zero, List.set_cons_zero, List.set_cons_succ, List.all_cons, List.all_nil, Bool.and_true, Bool.true_and, Bool.not_true, Bool.not_false, reduceCtorEq, if_true, if_false, Bool.false_eq_true, ↓reduceIte, Nat.reduceEqDiff, Nat.reduceAdd, Nat.reduceSub, Nat.reduceMul, Nat.reduceLeDiff, Nat.reduceLT, ne_eq, not_false_eq_true, not_true_eq_false, Nat.one_ne_zero, Nat.zero_ne_one, r40_0, r40_1, r40_2, r40_3, r40_4, r40_5, r40_6, r40_7, r40_8, r40_9, r40_10, r40_11, r40_12, r40_13, r40_14, p40, l40_0]) | (exfalso; omega)
        simp [hg, rngGo]

/-! headend/cut.Ranges -/
def r20_0 : List POp := [⟨4, .asg .nil, none⟩,
  ⟨5, .asg (.c (.int .i64 0)), none⟩]
def r20_1 : List POp := [⟨6, .mv (.t 0), none⟩,
  ⟨7, .mv (.t 1), none⟩,
  ⟨8, .call 40 [.t 6, .t 7], none⟩,
  ⟨9, .ext 0 (.t 8), none⟩,
  ⟨10, .ext 1 (.t 8), none⟩,
  ⟨4, .asg (.t 9), none⟩,
  ⟨5, .asg (.t 10), none⟩]
def p20 : PCode := .seq (.ops r20_0) (.seq (.ops r20_1) (.ret))
theorem ok20 : okFunc Try.prog 20 [.t 4, .t 5] 2 p20 = true := by kernel_rfl
theorem ranges_c (l : List Seg) (st : Int) : CallOK Try.prog 20 [.ro (l.map Seg.av), .val (.int .i64 st)] (.tup [.ro ((rng l st).1.map Rg.av), .val (.int .i64 (rng l st).2)]) := by
  refine call_of mixed ok20 rfl ?_
  repeat' first | (with_reducible refine condD (fun h => ?_) (fun h => ?_)) | (with_reducible refine condE (fun h => ?_) (fun h => ?_)) | (with_reducible refine condN (fun h => ?_) (fun h => ?_)) | (with_reducible refine condI (fun h => ?_) (fun h => ?_)) | (with_reducible refine condS (fun h => ?_) (fun h => ?_)) | (with_reducible refine guardD (by with_unfolding_all rfl) (fun h => ?_) (fun h => ?_)) | (with_reducible refine guardE (by with_unfolding_all rfl) (fun h => ?_) (fun h => ?_)) | (with_reducible refine guardN (by with_unfolding_all rfl) (fun h => ?_) (fun h => ?_)) | (with_reducible refine guardI (by with_unfolding_all rfl) (fun h => ?_) (fun h => ?_)) | (with_reducible refine guardS (by with_unfolding_all rfl) (fun h => ?_) (fun h => ?_)) | ((refine callG (rng_c _ _) ?_)) | (with_reducible refine And.intro ?_ ?_; omega) | (simp only [done_eq, done_eq', fin_val, fin_tup, fin_agg, fin_ro, res_one, res_more, rv_t, rv_c, rv_l, AV.tup.injEq, AV.agg.injEq, AV.ro.injEq, List.cons.injEq, int_eq, bool_eq, Int.toNat_natCast, Int.reduceToNat, Int.toNat_zero, Int.toNat_one, Int.reduceLE, Int.reduceLT, Int.reduceBEq, Int.reduceBNe, beq_self_eq_true, bne_self_eq_false, decide_true, decide_false,  Int.reduceNeg, toNat_pred, toNat_succ, List.length_map, cnd_t, cnd_f, grd_tt, grd_u, grd_tf, grd_ft, grd_ff, g_skip, g_ops, g_seq, g_block, g_exit, g_ret, x_c, x_o, x_l, x_b, g_b, g_nil, r_all, o_nil, g_cond, o_guard, o_call, o_callv, lk, ef, o_mv, o_pick, o_bin, o_eqs, o_eqb, o_un, o_conv, o_load, o_loads, o_fld, o_idx, o_idxs, o_len, o_lens, o_ext, o_nilck, o_slc, o_slcs, o_build, o_minmax, o_mkfn, o_alloc, o_box, o_boxs, o_row, o_rowr, o_mk, o_asg, o_app, o_store, o_stores, hv, eqAV, ev, view, rowOf, cellsOf, argv, vbin, vun, bnd, elemOf, putParts, setAt, zav, ASt.rid, ASt.free, AV.kill, AV.isHome, AV.noLoan, AV.cellOK, Value.oneCell', put_at, mk_at, mk_nil, initSt, true_and, and_true, and_self, implies_true, List.map_cons, List.map_nil, List.forall_mem_cons, List.not_mem_nil, false_implies, List.length_cons, List.length_nil, List.getD_cons_zero, List.getD_cons_succ, List.getD_nil, List.drop_succ_cons, List.drop_zero, List.take_succ_cons, List.take_zero, List.set_cons_zero, List.set_cons_succ, List.all_cons, List.all_nil, Bool.and_true, Bool.true_and, Bool.not_true, Bool.not_false, reduceCtorEq, if_true, if_false, Bool.false_eq_true, ↓reduceIte, Nat.reduceEqDiff, Nat.reduceAdd, Nat.reduceSub, Nat.reduceMul, Nat.reduceLeDiff, Nat.reduceLT, ne_eq, not_false_eq_true, not_true_eq_false, Nat.one_ne_zero, Nat.zero_ne_one, r20_0, r20_1, p20]) | (exfalso; omega)

/-! headend/cut.Seek -/
def r19_0 : List POp := [⟨4, .asg (.c (.int .i64 0)), none⟩,
  ⟨5, .asg (.c (.int .i64 0)), none⟩,
  ⟨6, .asg (.c (.int .i64 0)), none⟩]
def r19_1 : List POp := [⟨10, .mv (.t 0), none⟩,
  ⟨11, .call 38 [.t 10], none⟩,
  ⟨7, .asg (.t 11), none⟩]
def r19_2 : List POp := [⟨12, .mv (.t 7), none⟩,
  ⟨13, .bin .neq (.t 12) (.c (.int .i64 0)), none⟩]
def r19_3 : List POp := [⟨14, .mv (.t 7), none⟩,
  ⟨4, .asg (.c (.int .i64 0)), none⟩,
  ⟨5, .asg (.c (.int .i64 0)), none⟩,
  ⟨6, .asg (.t 14), none⟩]
def r19_4 : List POp := [⟨15, .mv (.t 1), none⟩,
  ⟨16, .call 32 [.t 15], none⟩]
def r19_5 : List POp := [⟨4, .asg (.c (.int .i64 0)), none⟩,
  ⟨5, .asg (.c (.int .i64 0)), none⟩,
  ⟨6, .asg (.c (.int .i64 1)), none⟩]
def r19_6 : List POp := [⟨17, .mv (.t 0), none⟩,
  ⟨18, .len (.t 17), none⟩,
  ⟨19, .bin .sub (.t 18) (.c (.int .i64 1)), none⟩,
  ⟨8, .asg (.t 19), none⟩]
def r19_7 : List POp := [⟨20, .mv (.t 8), none⟩,
  ⟨21, .bin .geq (.t 20) (.c (.int .i64 0)), none⟩]
def r19_9 : List POp := [⟨24, .mv (.t 1), none⟩,
  ⟨25, .mv (.t 0), none⟩,
  ⟨26, .mv (.t 8), none⟩,
  ⟨27, .idx 7 (.t 25) (.t 26), none⟩,
  ⟨28, .loads 7 (.t 27), none⟩,
  ⟨29, .call 39 [.t 28], none⟩,
  ⟨30, .bin .sub (.t 24) (.t 29), none⟩,
  ⟨9, .asg (.t 30), none⟩]
def r19_10 : List POp := [⟨31, .mv (.t 9), none⟩,
  ⟨32, .bin .geq (.t 31) (.c (.int .i64 0)), none⟩,
  ⟨33, .mv (.t 32), none⟩,
  ⟨34, .mv (.t 9), some (33, true)⟩,
  ⟨35, .mv (.t 0), some (33, true)⟩,
  ⟨36, .mv (.t 8), some (33, true)⟩,
  ⟨37, .idx 7 (.t 35) (.t 36), some (33, true)⟩,
  ⟨38, .fld 4 (.t 37), some (33, true)⟩,
  ⟨39, .load (.t 38), some (33, true)⟩,
  ⟨40, .bin .lss (.t 34) (.t 39), some (33, true)⟩,
  ⟨41, .pick (.t 33) (.t 40) (.c (.bool false)), none⟩]
def r19_11 : List POp := [⟨42, .mv (.t 8), none⟩,
  ⟨43, .mv (.t 9), none⟩,
  ⟨4, .asg (.t 42), none⟩,
  ⟨5, .asg (.t 43), none⟩,
  ⟨6, .asg (.c (.int .i64 0)), none⟩]
def r19_8 : List POp := [⟨22, .mv (.t 8), none⟩,
  ⟨23, .bin .sub (.t 22) (.c (.int .i64 1)), none⟩,
  ⟨8, .asg (.t 23), none⟩]
def r19_12 : List POp := [⟨4, .asg (.c (.int .i64 0)), none⟩,
  ⟨5, .asg (.c (.int .i64 0)), none⟩,
  ⟨6, .asg (.c (.int .i64 9)), none⟩]
def l19_0 : PCode := .seq (.seq (.ops r19_7) (.cond (.t 21) (.skip) (.exit 0))) (.seq (.block 1 (.seq (.ops r19_9) (.seq (.ops r19_10) (.cond (.t 41) (.seq (.ops r19_11) (.ret)) (.skip))))) (.ops r19_8))
def p19 : PCode := .seq (.ops r19_0) (.seq (.seq (.ops r19_1) (.seq (.ops r19_2) (.cond (.t 13) (.seq (.ops r19_3) (.ret)) (.skip)))) (.seq (.seq (.ops r19_4) (.cond (.t 16) (.seq (.ops r19_5) (.ret)) (.skip))) (.seq (.seq (.ops r19_6) (.block 0 (.loop l19_0))) (.seq (.ops r19_12) (.ret)))))
theorem ok19 : okFunc Try.prog 19 [.t 4, .t 5, .t 6] 2 p19 = true := by kernel_rfl
/-- Which of the first n segments has a moment: the last. -/
def seekGo (l : List Seg) (t : Int) : Nat → Int × Int × Int
  | 0 => (0, 0, 9)
  | k + 1 => match l[k]? with
    | some s => if 0 ≤ IntKind.i64.wrap (t - s.bw) ∧ IntKind.i64.wrap (t - s.bw) < s.len then (k, IntKind.i64.wrap (t - s.bw), 0) else seekGo l t k
    | none => (0, 0, 9)
def seek (l : List Seg) (t : Int) : Int × Int × Int := if row l ≠ 0 then (0, 0, row l) else if noTime t then (0, 0, 1) else seekGo l t l.length
theorem seek_c (l : List Seg) (t : Int) : CallOK Try.prog 19 [.ro (l.map Seg.av), .val (.int .i64 t)] (.tup [.val (.int .i64 (seek l t).1), .val (.int .i64 (seek l t).2.1), .val (.int .i64 (seek l t).2.2)]) := by
  refine call_of mixed ok19 rfl ?_
  repeat' first | (with_reducible refine condD (fun h => ?_) (fun h => ?_)) | (with_reducible refine condE (fun h => ?_) (fun h => ?_)) | (with_reducible refine condN (fun h => ?_) (fun h => ?_)) | (with_reducible refine condI (fun h => ?_) (fun h => ?_)) | (with_reducible refine condS (fun h => ?_) (fun h => ?_)) | (with_reducible refine guardD (by with_unfolding_all rfl) (fun h => ?_) (fun h => ?_)) | (with_reducible refine guardE (by with_unfolding_all rfl) (fun h => ?_) (fun h => ?_)) | (with_reducible refine guardN (by with_unfolding_all rfl) (fun h => ?_) (fun h => ?_)) | (with_reducible refine guardI (by with_unfolding_all rfl) (fun h => ?_) (fun h => ?_)) | (with_reducible refine guardS (by with_unfolding_all rfl) (fun h => ?_) (fun h => ?_)) | ((refine callG (row_c _) ?_)) | ((refine callG (notime_c _) ?_)) | (with_reducible refine And.intro ?_ ?_; omega) | (simp only [done_eq, done_eq', fin_val, fin_tup, fin_agg, fin_ro, res_one, res_more, rv_t, rv_c, rv_l, AV.tup.injEq, AV.agg.injEq, AV.ro.injEq, List.cons.injEq, int_eq, bool_eq, Int.toNat_natCast, Int.reduceToNat, Int.toNat_zero, Int.toNat_one, Int.reduceLE, Int.reduceLT, Int.reduceBEq, Int.reduceBNe, beq_self_eq_true, bne_self_eq_false, decide_true, decide_false,  Int.reduceNeg, toNat_pred, toNat_succ, List.length_map, cnd_t, cnd_f, grd_tt, grd_u, grd_tf, grd_ft, grd_ff, g_skip, g_ops, g_seq, g_block, g_exit, g_ret, x_c, x_o, x_l, x_b, g_b, g_nil, r_all, o_nil, g_cond, o_guard, o_call, o_callv, lk, ef, o_mv, o_pick, o_bin, o_eqs, o_eqb, o_un, o_conv, o_load, o_loads, o_fld, o_idx, o_idxs, o_len, o_lens, o_ext, o_nilck, o_slc, o_slcs, o_build, o_minmax, o_mkfn, o_alloc, o_box, o_boxs, o_row, o_rowr, o_mk, o_asg, o_app, o_store, o_stores, hv, eqAV, ev, view, rowOf, cellsOf, argv, vbin, vun, bnd, elemOf, putParts, setAt, zav, ASt.rid, ASt.free, AV.kill, AV.isHome, AV.noLoan, AV.cellOK, Value.oneCell', put_at, mk_at, mk_nil, initSt, true_and, and_true, and_self, implies_true, List.map_cons, List.map_nil, List.forall_mem_cons, List.not_mem_nil, false_implies, List.length_cons, List.length_nil, List.getD_cons_zero, List.getD_cons_succ, List.getD_nil, List.drop_succ_cons, List.drop_zero, List.take_succ_cons, List.take_zero, List.set_cons_zero, List.set_cons_succ, List.all_cons, List.all_nil, Bool.and_true, Bool.true_and, Bool.not_true, Bool.not_false, reduceCtorEq, if_true, if_false, Bool.false_eq_true, ↓reduceIte, Nat.reduceEqDiff, Nat.reduceAdd, Nat.reduceSub, Nat.reduceMul, Nat.reduceLeDiff, Nat.reduceLT, ne_eq, not_false_eq_true, not_true_eq_false, Nat.one_ne_zero, Nat.zero_ne_one, r19_0, r19_1, r19_2, r19_3, r19_4, r19_5, r19_6, r19_7, r19_9, r19_10, r19_11, r19_8, r19_12, p19]) | (exfalso; omega)
  · have h' : row l ≠ 0 := by simpa using h
    simp [seek, h']
  · rename_i h1
    have h' : row l = 0 := by simpa using h1
    simp [seek, h', h]
  · rename_i h1
    have h' : row l = 0 := by simpa using h1
    have hl : l.length ≤ 1000 := row_len h'
    have hs : seek l t = seekGo l t l.length := by simp [seek, h', h]
    refine loopS (fun n : Nat => mk [(0, .ro (l.map Seg.av)), (1, .val (.int .i64 t)), (8, .val (.int .i64 ((n : Int) - 1)))]) (fun n => n ≤ l.length ∧ seek l t = seekGo l t n) (fun n => n) l.length (weak_mk ?_) ⟨Nat.le_refl _, hs⟩ ?_
    · simp only [wk_cons, wk_nil, wk1, vint_eq, vbool_eq, AV.val.injEq, done_eq, done_eq', fin_val, fin_tup, fin_agg, fin_ro, res_one, res_more, rv_t, rv_c, rv_l, AV.tup.injEq, AV.agg.injEq, AV.ro.injEq, List.cons.injEq, int_eq, bool_eq, Int.toNat_natCast, Int.reduceToNat, Int.toNat_zero, Int.toNat_one, Int.reduceLE, Int.reduceLT, Int.reduceBEq, Int.reduceBNe, beq_self_eq_true, bne_self_eq_false, decide_true, decide_false,  Int.reduceNeg, toNat_pred, toNat_succ, List.length_map, cnd_t, cnd_f, grd_tt, grd_u, grd_tf, grd_ft, grd_ff, g_skip, g_ops, g_seq, g_block, g_exit, g_ret, x_c, x_o, x_l, x_b, g_b, g_nil, r_all, o_nil, g_cond, o_guard, o_call, o_callv, lk, ef, o_mv, o_pick, o_bin, o_eqs, o_eqb, o_un, o_conv, o_load, o_loads, o_fld, o_idx, o_idxs, o_len, o_lens, o_ext, o_nilck, o_slc, o_slcs, o_build, o_minmax, o_mkfn, o_alloc, o_box, o_boxs, o_row, o_rowr, o_mk, o_asg, o_app, o_store, o_stores, hv, eqAV, ev, view, rowOf, cellsOf, argv, vbin, vun, bnd, elemOf, putParts, setAt, zav, ASt.rid, ASt.free, AV.kill, AV.isHome, AV.noLoan, AV.cellOK, Value.oneCell', put_at, mk_at, mk_nil, initSt, true_and, and_true, and_self, implies_true, List.map_cons, List.map_nil, List.forall_mem_cons, List.not_mem_nil, false_implies, List.length_cons, List.length_nil, List.getD_cons_zero, List.getD_cons_succ, List.getD_nil, List.drop_succ_cons, List.drop_zero, List.take_succ_cons, List.take_zero, List.set_cons_zero, List.set_cons_succ, List.all_cons, List.all_nil, Bool.and_true, Bool.true_and, Bool.not_true, Bool.not_false, reduceCtorEq, if_true, if_false, Bool.false_eq_true, ↓reduceIte, Nat.reduceEqDiff, Nat.reduceAdd, Nat.reduceSub, Nat.reduceMul, Nat.reduceLeDiff, Nat.reduceLT, ne_eq, not_false_eq_true, not_true_eq_false, Nat.one_ne_zero, Nat.zero_ne_one]
      exact wrap_in (by omega) (by omega)
    · rintro J hJ n ⟨hn, hg⟩
      simp only [done_eq, done_eq', fin_val, fin_tup, fin_agg, fin_ro, res_one, res_more, rv_t, rv_c, rv_l, AV.tup.injEq, AV.agg.injEq, AV.ro.injEq, List.cons.injEq, int_eq, bool_eq, Int.toNat_natCast, Int.reduceToNat, Int.toNat_zero, Int.toNat_one, Int.reduceLE, Int.reduceLT, Int.reduceBEq, Int.reduceBNe, beq_self_eq_true, bne_self_eq_false, decide_true, decide_false,  Int.reduceNeg, toNat_pred, toNat_succ, List.length_map, cnd_t, cnd_f, grd_tt, grd_u, grd_tf, grd_ft, grd_ff, g_skip, g_ops, g_seq, g_block, g_exit, g_ret, x_c, x_o, x_l, x_b, g_b, g_nil, r_all, o_nil, g_cond, o_guard, o_call, o_callv, lk, ef, o_mv, o_pick, o_bin, o_eqs, o_eqb, o_un, o_conv, o_load, o_loads, o_fld, o_idx, o_idxs, o_len, o_lens, o_ext, o_nilck, o_slc, o_slcs, o_build, o_minmax, o_mkfn, o_alloc, o_box, o_boxs, o_row, o_rowr, o_mk, o_asg, o_app, o_store, o_stores, hv, eqAV, ev, view, rowOf, cellsOf, argv, vbin, vun, bnd, elemOf, putParts, setAt, zav, ASt.rid, ASt.free, AV.kill, AV.isHome, AV.noLoan, AV.cellOK, Value.oneCell', put_at, mk_at, mk_nil, initSt, true_and, and_true, and_self, implies_true, List.map_cons, List.map_nil, List.forall_mem_cons, List.not_mem_nil, false_implies, List.length_cons, List.length_nil, List.getD_cons_zero, List.getD_cons_succ, List.getD_nil, List.drop_succ_cons, List.drop_zero, List.take_succ_cons, List.take_zero, List.set_cons_zero, List.set_cons_succ, List.all_cons, List.all_nil, Bool.and_true, Bool.true_and, Bool.not_true, Bool.not_false, reduceCtorEq, if_true, if_false, Bool.false_eq_true, ↓reduceIte, Nat.reduceEqDiff, Nat.reduceAdd, Nat.reduceSub, Nat.reduceMul, Nat.reduceLeDiff, Nat.reduceLT, ne_eq, not_false_eq_true, not_true_eq_false, Nat.one_ne_zero, Nat.zero_ne_one, r19_0, r19_1, r19_2, r19_3, r19_4, r19_5, r19_6, r19_7, r19_9, r19_10, r19_11, r19_8, r19_12, p19, l19_0]
      refine condD (fun h => ?_) (fun h => ?_)
      · have hlt : n - 1 < l.length := by omega
        obtain ⟨k, rfl⟩ : ∃ k, n = k + 1 := ⟨n - 1, by omega⟩
        simp only [Nat.add_sub_cancel] at hlt
        have hk : ((k + 1 : Nat) : Int) - 1 = (k : Int) := by omega
        have hr : seek l t = if 0 ≤ IntKind.i64.wrap (t - l[k].bw) ∧ IntKind.i64.wrap (t - l[k].bw) < l[k].len then ((k : Int), IntKind.i64.wrap (t - l[k].bw), 0) else seekGo l t k := by
          rw [hg, seekGo, List.getElem?_eq_getElem hlt]
        have hw : IntKind.i64.wrap (k - 1 : Int) = (k : Int) - 1 := wrap_in (by omega) (by omega)
        clear hg
        repeat' first | (with_reducible refine condD (fun h => ?_) (fun h => ?_)) | (with_reducible refine condE (fun h => ?_) (fun h => ?_)) | (with_reducible refine condN (fun h => ?_) (fun h => ?_)) | (with_reducible refine condI (fun h => ?_) (fun h => ?_)) | (with_reducible refine condS (fun h => ?_) (fun h => ?_)) | (with_reducible refine guardD (by with_unfolding_all rfl) (fun h => ?_) (fun h => ?_)) | (with_reducible refine guardE (by with_unfolding_all rfl) (fun h => ?_) (fun h => ?_)) | (with_reducible refine guardN (by with_unfolding_all rfl) (fun h => ?_) (fun h => ?_)) | (with_reducible refine guardI (by with_unfolding_all rfl) (fun h => ?_) (fun h => ?_)) | (with_reducible refine guardS (by with_unfolding_all rfl) (fun h => ?_) (fun h => ?_)) | ((refine callG (boundary_c _) ?_)) | (with_reducible refine And.intro ?_ ?_; omega) | (simp only [done_eq, done_eq', fin_val, fin_tup, fin_agg, fin_ro, res_one, res_more, rv_t, rv_c, rv_l, AV.tup.injEq, AV.agg.injEq, AV.ro.injEq, List.cons.injEq, int_eq, bool_eq, Int.toNat_natCast, Int.reduceToNat, Int.toNat_zero, Int.toNat_one, Int.reduceLE, Int.reduceLT, Int.reduceBEq, Int.reduceBNe, beq_self_eq_true, bne_self_eq_false, decide_true, decide_false,  Int.reduceNeg, toNat_pred, toNat_succ, List.length_map, cnd_t, cnd_f, grd_tt, grd_u, grd_tf, grd_ft, grd_ff, g_skip, g_ops, g_seq, g_block, g_exit, g_ret, x_c, x_o, x_l, x_b, g_b, g_nil, r_all, o_nil, g_cond, o_guard, o_call, o_callv, lk, ef, o_mv, o_pick, o_bin, o_eqs, o_eqb, o_un, o_conv, o_load, o_loads, o_fld, o_idx, o_idxs, o_len, o_lens, o_ext, o_nilck, o_slc, o_slcs, o_build, o_minmax, o_mkfn, o_alloc, o_box, o_boxs, o_row, o_rowr, o_mk, o_asg, o_app, o_store, o_stores, hv, eqAV, ev, view, rowOf, cellsOf, argv, vbin, vun, bnd, elemOf, putParts, setAt, zav, ASt.rid, ASt.free, AV.kill, AV.isHome, AV.noLoan, AV.cellOK, Value.oneCell', put_at, mk_at, mk_nil, initSt, true_and, and_true, and_self, implies_true, List.map_cons, List.map_nil, List.forall_mem_cons, List.not_mem_nil, false_implies, List.length_cons, List.length_nil, List.getD_cons_zero, List.getD_cons_succ, List.getD_nil, List.drop_succ_cons, List.drop_zero, List.take_succ_cons, List.take_zero, List.set_cons_zero, List.set_cons_succ, List.all_cons, List.all_nil, Bool.and_true, Bool.true_and, Bool.not_true, Bool.not_false, reduceCtorEq, if_true, if_false, Bool.false_eq_true, ↓reduceIte, Nat.reduceEqDiff, Nat.reduceAdd, Nat.reduceSub, Nat.reduceMul, Nat.reduceLeDiff, Nat.reduceLT, ne_eq, not_false_eq_true, not_true_eq_false, Nat.one_ne_zero, Nat.zero_ne_one, r19_0, r19_1, r19_2, r19_3, r19_4, r19_5, r19_6, r19_7, r19_9, r19_10, r19_11, r19_8, r19_12, p19, l19_0, Seg.av, hk, getD_map hlt]) | (exfalso; omega)
        all_goals try (clear hJ; rw [hr, if_pos (by omega)]; exact ⟨rfl, rfl, rfl⟩)
        all_goals exact again hJ k (weak_mk (by simp only [wk_cons, wk_nil, wk1, vint_eq, vbool_eq, AV.val.injEq, done_eq, done_eq', fin_val, fin_tup, fin_agg, fin_ro, res_one, res_more, rv_t, rv_c, rv_l, AV.tup.injEq, AV.agg.injEq, AV.ro.injEq, List.cons.injEq, int_eq, bool_eq, Int.toNat_natCast, Int.reduceToNat, Int.toNat_zero, Int.toNat_one, Int.reduceLE, Int.reduceLT, Int.reduceBEq, Int.reduceBNe, beq_self_eq_true, bne_self_eq_false, decide_true, decide_false,  Int.reduceNeg, toNat_pred, toNat_succ, List.length_map, cnd_t, cnd_f, grd_tt, grd_u, grd_tf, grd_ft, grd_ff, g_skip, g_ops, g_seq, g_block, g_exit, g_ret, x_c, x_o, x_l, x_b, g_b, g_nil, r_all, o_nil, g_cond, o_guard, o_call, o_callv, lk, ef, o_mv, o_pick, o_bin, o_eqs, o_eqb, o_un, o_conv, o_load, o_loads, o_fld, o_idx, o_idxs, o_len, o_lens, o_ext, o_nilck, o_slc, o_slcs, o_build, o_minmax, o_mkfn, o_alloc, o_box, o_boxs, o_row, o_rowr, o_mk, o_asg, o_app, o_store, o_stores, hv, eqAV, ev, view, rowOf, cellsOf, argv, vbin, vun, bnd, elemOf, putParts, setAt, zav, ASt.rid, ASt.free, AV.kill, AV.isHome, AV.noLoan, AV.cellOK, Value.oneCell', put_at, mk_at, mk_nil, initSt, true_and, and_true, and_self, implies_true, List.map_cons, List.map_nil, List.forall_mem_cons, List.not_mem_nil, false_implies, List.length_cons, List.length_nil, List.getD_cons_zero, List.getD_cons_succ, List.getD_nil, List.drop_succ_cons, List.drop_zero, List.take_succ_cons, List.take_zero, List.set_cons_zero, List.set_cons_succ, List.all_cons, List.all_nil, Bool.and_true, Bool.true_and, Bool.not_true, Bool.not_false, reduceCtorEq, if_true, if_false, Bool.false_eq_true, ↓reduceIte, Nat.reduceEqDiff, Nat.reduceAdd, Nat.reduceSub, Nat.reduceMul, Nat.reduceLeDiff, Nat.reduceLT, ne_eq, not_false_eq_true, not_true_eq_false, Nat.one_ne_zero, Nat.zero_ne_one]; exact hw)) ⟨by omega, by rw [hr, if_neg (by omega)]⟩ (by omega)
      · have hke : n = 0 := by omega
        subst hke
        repeat' first | (with_reducible refine condD (fun h => ?_) (fun h => ?_)) | (with_reducible refine condE (fun h => ?_) (fun h => ?_)) | (with_reducible refine condN (fun h => ?_) (fun h => ?_)) | (with_reducible refine condI (fun h => ?_) (fun h => ?_)) | (with_reducible refine condS (fun h => ?_) (fun h => ?_)) | (with_reducible refine guardD (by with_unfolding_all rfl) (fun h => ?_) (fun h => ?_)) | (with_reducible refine guardE (by with_unfolding_all rfl) (fun h => ?_) (fun h => ?_)) | (with_reducible refine guardN (by with_unfolding_all rfl) (fun h => ?_) (fun h => ?_)) | (with_reducible refine guardI (by with_unfolding_all rfl) (fun h => ?_) (fun h => ?_)) | (with_reducible refine guardS (by with_unfolding_all rfl) (fun h => ?_) (fun h => ?_)) | (with_reducible refine And.intro ?_ ?_; omega) | (simp only [done_eq, done_eq', fin_val, fin_tup, fin_agg, fin_ro, res_one, res_more, rv_t, rv_c, rv_l, AV.tup.injEq, AV.agg.injEq, AV.ro.injEq, List.cons.injEq, int_eq, bool_eq, Int.toNat_natCast, Int.reduceToNat, Int.toNat_zero, Int.toNat_one, Int.reduceLE, Int.reduceLT, Int.reduceBEq, Int.reduceBNe, beq_self_eq_true, bne_self_eq_false, decide_true, decide_false,  Int.reduceNeg, toNat_pred, toNat_succ, List.length_map, cnd_t, cnd_f, grd_tt, grd_u, grd_tf, grd_ft, grd_ff, g_skip, g_ops, g_seq, g_block, g_exit, g_ret, x_c, x_o, x_l, x_b, g_b, g_nil, r_all, o_nil, g_cond, o_guard, o_call, o_callv, lk, ef, o_mv, o_pick, o_bin, o_eqs, o_eqb, o_un, o_conv, o_load, o_loads, o_fld, o_idx, o_idxs, o_len, o_lens, o_ext, o_nilck, o_slc, o_slcs, o_build, o_minmax, o_mkfn, o_alloc, o_box, o_boxs, o_row, o_rowr, o_mk, o_asg, o_app, o_store, o_stores, hv, eqAV, ev, view, rowOf, cellsOf, argv, vbin, vun, bnd, elemOf, putParts, setAt, zav, ASt.rid, ASt.free, AV.kill, AV.isHome, AV.noLoan, AV.cellOK, Value.oneCell', put_at, mk_at, mk_nil, initSt, true_and, and_true, and_self, implies_true, List.map_cons, List.map_nil, List.forall_mem_cons, List.not_mem_nil, false_implies, List.length_cons, List.length_nil, List.getD_cons_zero, List.getD_cons_succ, List.getD_nil, List.drop_succ_cons, List.drop_zero, List.take_succ_cons, List.take_zero, List.set_cons_zero, List.set_cons_succ, List.all_cons, List.all_nil, Bool.and_true, Bool.true_and, Bool.not_true, Bool.not_false, reduceCtorEq, if_true, if_false, Bool.false_eq_true, ↓reduceIte, Nat.reduceEqDiff, Nat.reduceAdd, Nat.reduceSub, Nat.reduceMul, Nat.reduceLeDiff, Nat.reduceLT, ne_eq, not_false_eq_true, not_true_eq_false, Nat.one_ne_zero, Nat.zero_ne_one, r19_0, r19_1, r19_2, r19_3, r19_4, r19_5, r19_6, r19_7, r19_9, r19_10, r19_11, r19_8, r19_12, p19, l19_0]) | (exfalso; omega)
        simp [hg, seekGo]

/-! headend/kit.First -/
def r41_0 : List POp := [⟨2, .asg (.c (.int .i64 0)), none⟩]
def r41_1 : List POp := [⟨5, .mv (.t 0), none⟩,
  ⟨6, .len (.t 5), none⟩,
  ⟨7, .mv (.c (.int .i64 0)), none⟩]
def r41_2 : List POp := [⟨8, .bin .lss (.t 7) (.t 6), none⟩]
def r41_3 : List POp := [⟨9, .idx 1 (.t 5) (.t 7), none⟩,
  ⟨10, .load (.t 9), none⟩,
  ⟨4, .asg (.t 10), none⟩]
def r41_4 : List POp := [⟨11, .mv (.t 4), none⟩,
  ⟨12, .bin .neq (.t 11) (.c (.int .i64 0)), none⟩]
def r41_5 : List POp := [⟨13, .mv (.t 4), none⟩,
  ⟨2, .asg (.t 13), none⟩]
def r41_6 : List POp := [⟨14, .bin .add (.t 7) (.c (.int .i64 1)), none⟩,
  ⟨7, .mv (.t 14), none⟩]
def r41_7 : List POp := [⟨2, .asg (.c (.int .i64 0)), none⟩]
def l41_0 : PCode := .seq (.ops r41_2) (.seq (.cond (.t 8) (.skip) (.exit 0)) (.seq (.block 1 (.seq (.ops r41_3) (.seq (.ops r41_4) (.cond (.t 12) (.seq (.ops r41_5) (.ret)) (.skip))))) (.ops r41_6)))
def p41 : PCode := .seq (.ops r41_0) (.seq (.seq (.ops r41_1) (.block 0 (.loop l41_0))) (.seq (.ops r41_7) (.ret)))
theorem ok41 : okFunc Try.prog 41 [.t 2] 1 p41 = true := by kernel_rfl
def firstF : List Int → Int
  | [] => 0
  | e :: r => if e = 0 then firstF r else e
theorem first_c (l : List Int) (hl : l.length ≤ 1000) : CallOK Try.prog 41 [.ro (l.map oneI)] (.val (.int .i64 (firstF l))) := by
  refine call_of mixed ok41 rfl ?_
  repeat' first | (with_reducible refine condD (fun h => ?_) (fun h => ?_)) | (with_reducible refine condE (fun h => ?_) (fun h => ?_)) | (with_reducible refine condN (fun h => ?_) (fun h => ?_)) | (with_reducible refine condI (fun h => ?_) (fun h => ?_)) | (with_reducible refine condS (fun h => ?_) (fun h => ?_)) | (with_reducible refine guardD (by with_unfolding_all rfl) (fun h => ?_) (fun h => ?_)) | (with_reducible refine guardE (by with_unfolding_all rfl) (fun h => ?_) (fun h => ?_)) | (with_reducible refine guardN (by with_unfolding_all rfl) (fun h => ?_) (fun h => ?_)) | (with_reducible refine guardI (by with_unfolding_all rfl) (fun h => ?_) (fun h => ?_)) | (with_reducible refine guardS (by with_unfolding_all rfl) (fun h => ?_) (fun h => ?_)) | (with_reducible refine And.intro ?_ ?_; omega) | (simp only [done_eq, done_eq', fin_val, fin_tup, fin_agg, fin_ro, res_one, res_more, rv_t, rv_c, rv_l, AV.tup.injEq, AV.agg.injEq, AV.ro.injEq, List.cons.injEq, int_eq, bool_eq, Int.toNat_natCast, Int.reduceToNat, Int.toNat_zero, Int.toNat_one, Int.reduceLE, Int.reduceLT, Int.reduceBEq, Int.reduceBNe, beq_self_eq_true, bne_self_eq_false, decide_true, decide_false,  Int.reduceNeg, toNat_pred, toNat_succ, List.length_map, cnd_t, cnd_f, grd_tt, grd_u, grd_tf, grd_ft, grd_ff, g_skip, g_ops, g_seq, g_block, g_exit, g_ret, x_c, x_o, x_l, x_b, g_b, g_nil, r_all, o_nil, g_cond, o_guard, o_call, o_callv, lk, ef, o_mv, o_pick, o_bin, o_eqs, o_eqb, o_un, o_conv, o_load, o_loads, o_fld, o_idx, o_idxs, o_len, o_lens, o_ext, o_nilck, o_slc, o_slcs, o_build, o_minmax, o_mkfn, o_alloc, o_box, o_boxs, o_row, o_rowr, o_mk, o_asg, o_app, o_store, o_stores, hv, eqAV, ev, view, rowOf, cellsOf, argv, vbin, vun, bnd, elemOf, putParts, setAt, zav, ASt.rid, ASt.free, AV.kill, AV.isHome, AV.noLoan, AV.cellOK, Value.oneCell', put_at, mk_at, mk_nil, initSt, true_and, and_true, and_self, implies_true, List.map_cons, List.map_nil, List.forall_mem_cons, List.not_mem_nil, false_implies, List.length_cons, List.length_nil, List.getD_cons_zero, List.getD_cons_succ, List.getD_nil, List.drop_succ_cons, List.drop_zero, List.take_succ_cons, List.take_zero, List.set_cons_zero, List.set_cons_succ, List.all_cons, List.all_nil, Bool.and_true, Bool.true_and, Bool.not_true, Bool.not_false, reduceCtorEq, if_true, if_false, Bool.false_eq_true, ↓reduceIte, Nat.reduceEqDiff, Nat.reduceAdd, Nat.reduceSub, Nat.reduceMul, Nat.reduceLeDiff, Nat.reduceLT, ne_eq, not_false_eq_true, not_true_eq_false, Nat.one_ne_zero, Nat.zero_ne_one, r41_0, r41_1, r41_2, r41_3, r41_4, r41_5, r41_6, r41_7, p41]) | (exfalso; omega)
  refine loopS (fun k : Nat => mk [(5, .ro (l.map oneI)), (6, .val (.int .i64 l.length)), (7, .val (.int .i64 k))]) (fun k => k ≤ l.length ∧ firstF l = firstF (l.drop k)) (fun k => l.length - k) 0 (weak_mk ?_) ⟨Nat.zero_le _, rfl⟩ ?_
  · simp only [wk_cons, wk_nil, wk1, vint_eq, vbool_eq, AV.val.injEq, done_eq, done_eq', fin_val, fin_tup, fin_agg, fin_ro, res_one, res_more, rv_t, rv_c, rv_l, AV.tup.injEq, AV.agg.injEq, AV.ro.injEq, List.cons.injEq, int_eq, bool_eq, Int.toNat_natCast, Int.reduceToNat, Int.toNat_zero, Int.toNat_one, Int.reduceLE, Int.reduceLT, Int.reduceBEq, Int.reduceBNe, beq_self_eq_true, bne_self_eq_false, decide_true, decide_false,  Int.reduceNeg, toNat_pred, toNat_succ, List.length_map, cnd_t, cnd_f, grd_tt, grd_u, grd_tf, grd_ft, grd_ff, g_skip, g_ops, g_seq, g_block, g_exit, g_ret, x_c, x_o, x_l, x_b, g_b, g_nil, r_all, o_nil, g_cond, o_guard, o_call, o_callv, lk, ef, o_mv, o_pick, o_bin, o_eqs, o_eqb, o_un, o_conv, o_load, o_loads, o_fld, o_idx, o_idxs, o_len, o_lens, o_ext, o_nilck, o_slc, o_slcs, o_build, o_minmax, o_mkfn, o_alloc, o_box, o_boxs, o_row, o_rowr, o_mk, o_asg, o_app, o_store, o_stores, hv, eqAV, ev, view, rowOf, cellsOf, argv, vbin, vun, bnd, elemOf, putParts, setAt, zav, ASt.rid, ASt.free, AV.kill, AV.isHome, AV.noLoan, AV.cellOK, Value.oneCell', put_at, mk_at, mk_nil, initSt, true_and, and_true, and_self, implies_true, List.map_cons, List.map_nil, List.forall_mem_cons, List.not_mem_nil, false_implies, List.length_cons, List.length_nil, List.getD_cons_zero, List.getD_cons_succ, List.getD_nil, List.drop_succ_cons, List.drop_zero, List.take_succ_cons, List.take_zero, List.set_cons_zero, List.set_cons_succ, List.all_cons, List.all_nil, Bool.and_true, Bool.true_and, Bool.not_true, Bool.not_false, reduceCtorEq, if_true, if_false, Bool.false_eq_true, ↓reduceIte, Nat.reduceEqDiff, Nat.reduceAdd, Nat.reduceSub, Nat.reduceMul, Nat.reduceLeDiff, Nat.reduceLT, ne_eq, not_false_eq_true, not_true_eq_false, Nat.one_ne_zero, Nat.zero_ne_one]
    simp
  · rintro J hJ k ⟨hk, hg⟩
    simp only [done_eq, done_eq', fin_val, fin_tup, fin_agg, fin_ro, res_one, res_more, rv_t, rv_c, rv_l, AV.tup.injEq, AV.agg.injEq, AV.ro.injEq, List.cons.injEq, int_eq, bool_eq, Int.toNat_natCast, Int.reduceToNat, Int.toNat_zero, Int.toNat_one, Int.reduceLE, Int.reduceLT, Int.reduceBEq, Int.reduceBNe, beq_self_eq_true, bne_self_eq_false, decide_true, decide_false,  Int.reduceNeg, toNat_pred, toNat_succ, List.length_map, cnd_t, cnd_f, grd_tt, grd_u, grd_tf, grd_ft, grd_ff, g_skip, g_ops, g_seq, g_block, g_exit, g_ret, x_c, x_o, x_l, x_b, g_b, g_nil, r_all, o_nil, g_cond, o_guard, o_call, o_callv, lk, ef, o_mv, o_pick, o_bin, o_eqs, o_eqb, o_un, o_conv, o_load, o_loads, o_fld, o_idx, o_idxs, o_len, o_lens, o_ext, o_nilck, o_slc, o_slcs, o_build, o_minmax, o_mkfn, o_alloc, o_box, o_boxs, o_row, o_rowr, o_mk, o_asg, o_app, o_store, o_stores, hv, eqAV, ev, view, rowOf, cellsOf, argv, vbin, vun, bnd, elemOf, putParts, setAt, zav, ASt.rid, ASt.free, AV.kill, AV.isHome, AV.noLoan, AV.cellOK, Value.oneCell', put_at, mk_at, mk_nil, initSt, true_and, and_true, and_self, implies_true, List.map_cons, List.map_nil, List.forall_mem_cons, List.not_mem_nil, false_implies, List.length_cons, List.length_nil, List.getD_cons_zero, List.getD_cons_succ, List.getD_nil, List.drop_succ_cons, List.drop_zero, List.take_succ_cons, List.take_zero, List.set_cons_zero, List.set_cons_succ, List.all_cons, List.all_nil, Bool.and_true, Bool.true_and, Bool.not_true, Bool.not_false, reduceCtorEq, if_true, if_false, Bool.false_eq_true, ↓reduceIte, Nat.reduceEqDiff, Nat.reduceAdd, Nat.reduceSub, Nat.reduceMul, Nat.reduceLeDiff, Nat.reduceLT, ne_eq, not_false_eq_true, not_true_eq_false, Nat.one_ne_zero, Nat.zero_ne_one, r41_0, r41_1, r41_2, r41_3, r41_4, r41_5, r41_6, r41_7, p41, l41_0]
    refine condD (fun h => ?_) (fun h => ?_)
    · have hlt : k < l.length := by omega
      have hr : firstF l = if l[k] = 0 then firstF (l.drop (k + 1)) else l[k] := by rw [hg, List.drop_eq_getElem_cons hlt, firstF]
      have hw : IntKind.i64.wrap (k + 1 : Int) = ((k + 1 : Nat) : Int) := wrap_in (by omega) (by omega)
      clear hg
      repeat' first | (with_reducible refine condD (fun h => ?_) (fun h => ?_)) | (with_reducible refine condE (fun h => ?_) (fun h => ?_)) | (with_reducible refine condN (fun h => ?_) (fun h => ?_)) | (with_reducible refine condI (fun h => ?_) (fun h => ?_)) | (with_reducible refine condS (fun h => ?_) (fun h => ?_)) | (with_reducible refine guardD (by with_unfolding_all rfl) (fun h => ?_) (fun h => ?_)) | (with_reducible refine guardE (by with_unfolding_all rfl) (fun h => ?_) (fun h => ?_)) | (with_reducible refine guardN (by with_unfolding_all rfl) (fun h => ?_) (fun h => ?_)) | (with_reducible refine guardI (by with_unfolding_all rfl) (fun h => ?_) (fun h => ?_)) | (with_reducible refine guardS (by with_unfolding_all rfl) (fun h => ?_) (fun h => ?_)) | (with_reducible refine And.intro ?_ ?_; omega) | (simp only [done_eq, done_eq', fin_val, fin_tup, fin_agg, fin_ro, res_one, res_more, rv_t, rv_c, rv_l, AV.tup.injEq, AV.agg.injEq, AV.ro.injEq, List.cons.injEq, int_eq, bool_eq, Int.toNat_natCast, Int.reduceToNat, Int.toNat_zero, Int.toNat_one, Int.reduceLE, Int.reduceLT, Int.reduceBEq, Int.reduceBNe, beq_self_eq_true, bne_self_eq_false, decide_true, decide_false,  Int.reduceNeg, toNat_pred, toNat_succ, List.length_map, cnd_t, cnd_f, grd_tt, grd_u, grd_tf, grd_ft, grd_ff, g_skip, g_ops, g_seq, g_block, g_exit, g_ret, x_c, x_o, x_l, x_b, g_b, g_nil, r_all, o_nil, g_cond, o_guard, o_call, o_callv, lk, ef, o_mv, o_pick, o_bin, o_eqs, o_eqb, o_un, o_conv, o_load, o_loads, o_fld, o_idx, o_idxs, o_len, o_lens, o_ext, o_nilck, o_slc, o_slcs, o_build, o_minmax, o_mkfn, o_alloc, o_box, o_boxs, o_row, o_rowr, o_mk, o_asg, o_app, o_store, o_stores, hv, eqAV, ev, view, rowOf, cellsOf, argv, vbin, vun, bnd, elemOf, putParts, setAt, zav, ASt.rid, ASt.free, AV.kill, AV.isHome, AV.noLoan, AV.cellOK, Value.oneCell', put_at, mk_at, mk_nil, initSt, true_and, and_true, and_self, implies_true, List.map_cons, List.map_nil, List.forall_mem_cons, List.not_mem_nil, false_implies, List.length_cons, List.length_nil, List.getD_cons_zero, List.getD_cons_succ, List.getD_nil, List.drop_succ_cons, List.drop_zero, List.take_succ_cons, List.take_zero, List.set_cons_zero, List.set_cons_succ, List.all_cons, List.all_nil, Bool.and_true, Bool.true_and, Bool.not_true, Bool.not_false, reduceCtorEq, if_true, if_false, Bool.false_eq_true, ↓reduceIte, Nat.reduceEqDiff, Nat.reduceAdd, Nat.reduceSub, Nat.reduceMul, Nat.reduceLeDiff, Nat.reduceLT, ne_eq, not_false_eq_true, not_true_eq_false, Nat.one_ne_zero, Nat.zero_ne_one, r41_0, r41_1, r41_2, r41_3, r41_4, r41_5, r41_6, r41_7, p41, l41_0, oneI, getD_map hlt]) | (exfalso; omega)
      · have hz : l[k] ≠ 0 := by simpa using h
        rw [hr, if_neg hz]
      · have hz : l[k] = 0 := by simpa using h
        exact again hJ (k + 1) (weak_mk (by simp only [wk_cons, wk_nil, wk1, vint_eq, vbool_eq, AV.val.injEq, done_eq, done_eq', fin_val, fin_tup, fin_agg, fin_ro, res_one, res_more, rv_t, rv_c, rv_l, AV.tup.injEq, AV.agg.injEq, AV.ro.injEq, List.cons.injEq, int_eq, bool_eq, Int.toNat_natCast, Int.reduceToNat, Int.toNat_zero, Int.toNat_one, Int.reduceLE, Int.reduceLT, Int.reduceBEq, Int.reduceBNe, beq_self_eq_true, bne_self_eq_false, decide_true, decide_false,  Int.reduceNeg, toNat_pred, toNat_succ, List.length_map, cnd_t, cnd_f, grd_tt, grd_u, grd_tf, grd_ft, grd_ff, g_skip, g_ops, g_seq, g_block, g_exit, g_ret, x_c, x_o, x_l, x_b, g_b, g_nil, r_all, o_nil, g_cond, o_guard, o_call, o_callv, lk, ef, o_mv, o_pick, o_bin, o_eqs, o_eqb, o_un, o_conv, o_load, o_loads, o_fld, o_idx, o_idxs, o_len, o_lens, o_ext, o_nilck, o_slc, o_slcs, o_build, o_minmax, o_mkfn, o_alloc, o_box, o_boxs, o_row, o_rowr, o_mk, o_asg, o_app, o_store, o_stores, hv, eqAV, ev, view, rowOf, cellsOf, argv, vbin, vun, bnd, elemOf, putParts, setAt, zav, ASt.rid, ASt.free, AV.kill, AV.isHome, AV.noLoan, AV.cellOK, Value.oneCell', put_at, mk_at, mk_nil, initSt, true_and, and_true, and_self, implies_true, List.map_cons, List.map_nil, List.forall_mem_cons, List.not_mem_nil, false_implies, List.length_cons, List.length_nil, List.getD_cons_zero, List.getD_cons_succ, List.getD_nil, List.drop_succ_cons, List.drop_zero, List.take_succ_cons, List.take_zero, List.set_cons_zero, List.set_cons_succ, List.all_cons, List.all_nil, Bool.and_true, Bool.true_and, Bool.not_true, Bool.not_false, reduceCtorEq, if_true, if_false, Bool.false_eq_true, ↓reduceIte, Nat.reduceEqDiff, Nat.reduceAdd, Nat.reduceSub, Nat.reduceMul, Nat.reduceLeDiff, Nat.reduceLT, ne_eq, not_false_eq_true, not_true_eq_false, Nat.one_ne_zero, Nat.zero_ne_one]; exact hw)) ⟨by omega, by rw [hr, if_pos hz]⟩ (by omega)
    · have hke : k = l.length := by omega
      subst hke
      repeat' first | (with_reducible refine condD (fun h => ?_) (fun h => ?_)) | (with_reducible refine condE (fun h => ?_) (fun h => ?_)) | (with_reducible refine condN (fun h => ?_) (fun h => ?_)) | (with_reducible refine condI (fun h => ?_) (fun h => ?_)) | (with_reducible refine condS (fun h => ?_) (fun h => ?_)) | (with_reducible refine guardD (by with_unfolding_all rfl) (fun h => ?_) (fun h => ?_)) | (with_reducible refine guardE (by with_unfolding_all rfl) (fun h => ?_) (fun h => ?_)) | (with_reducible refine guardN (by with_unfolding_all rfl) (fun h => ?_) (fun h => ?_)) | (with_reducible refine guardI (by with_unfolding_all rfl) (fun h => ?_) (fun h => ?_)) | (with_reducible refine guardS (by with_unfolding_all rfl) (fun h => ?_) (fun h => ?_)) | (with_reducible refine And.intro ?_ ?_; omega) | (simp only [done_eq, done_eq', fin_val, fin_tup, fin_agg, fin_ro, res_one, res_more, rv_t, rv_c, rv_l, AV.tup.injEq, AV.agg.injEq, AV.ro.injEq, List.cons.injEq, int_eq, bool_eq, Int.toNat_natCast, Int.reduceToNat, Int.toNat_zero, Int.toNat_one, Int.reduceLE, Int.reduceLT, Int.reduceBEq, Int.reduceBNe, beq_self_eq_true, bne_self_eq_false, decide_true, decide_false,  Int.reduceNeg, toNat_pred, toNat_succ, List.length_map, cnd_t, cnd_f, grd_tt, grd_u, grd_tf, grd_ft, grd_ff, g_skip, g_ops, g_seq, g_block, g_exit, g_ret, x_c, x_o, x_l, x_b, g_b, g_nil, r_all, o_nil, g_cond, o_guard, o_call, o_callv, lk, ef, o_mv, o_pick, o_bin, o_eqs, o_eqb, o_un, o_conv, o_load, o_loads, o_fld, o_idx, o_idxs, o_len, o_lens, o_ext, o_nilck, o_slc, o_slcs, o_build, o_minmax, o_mkfn, o_alloc, o_box, o_boxs, o_row, o_rowr, o_mk, o_asg, o_app, o_store, o_stores, hv, eqAV, ev, view, rowOf, cellsOf, argv, vbin, vun, bnd, elemOf, putParts, setAt, zav, ASt.rid, ASt.free, AV.kill, AV.isHome, AV.noLoan, AV.cellOK, Value.oneCell', put_at, mk_at, mk_nil, initSt, true_and, and_true, and_self, implies_true, List.map_cons, List.map_nil, List.forall_mem_cons, List.not_mem_nil, false_implies, List.length_cons, List.length_nil, List.getD_cons_zero, List.getD_cons_succ, List.getD_nil, List.drop_succ_cons, List.drop_zero, List.take_succ_cons, List.take_zero, List.set_cons_zero, List.set_cons_succ, List.all_cons, List.all_nil, Bool.and_true, Bool.true_and, Bool.not_true, Bool.not_false, reduceCtorEq, if_true, if_false, Bool.false_eq_true, ↓reduceIte, Nat.reduceEqDiff, Nat.reduceAdd, Nat.reduceSub, Nat.reduceMul, Nat.reduceLeDiff, Nat.reduceLT, ne_eq, not_false_eq_true, not_true_eq_false, Nat.one_ne_zero, Nat.zero_ne_one, r41_0, r41_1, r41_2, r41_3, r41_4, r41_5, r41_6, r41_7, p41, l41_0]) | (exfalso; omega)
      simp [hg, firstF]
theorem first_c2 (a b : Int) : CallOK Try.prog 41 [.ro [[.val (.int .i64 a)], [.val (.int .i64 b)]]] (.val (.int .i64 (firstF [a, b]))) := first_c [a, b] (by simp)
theorem first2 {a b : Int} (h : firstF [a, b] = 0) : a = 0 ∧ b = 0 := by
  simp only [firstF] at h
  split at h
  · split at h
    · exact ⟨by assumption, by assumption⟩
    · contradiction
  · contradiction
theorem rngGo_len : ∀ (l : List Seg) (st : Int) (out : List Rg), (rngGo st out l).2 = 0 → (rngGo st out l).1.length = out.length + l.length
  | [], _, _, _ => rfl
  | s :: r, st, out, h => by
    unfold rngGo at h ⊢
    split at h
    · cases h
    · rename_i hb
      rw [if_neg hb, rngGo_len r _ _ h]
      simp; omega
theorem rng_len {l : List Seg} {st : Int} (h : (rng l st).2 = 0) : (rng l st).1.length = l.length := by
  unfold rng at h ⊢
  split at h
  · cases h
  · split at h
    · cases h
    · rename_i h1 h2
      rw [if_neg h1, if_neg h2, rngGo_len l _ _ h]; simp
/-! headend/cut.Fetch -/
def r21_0 : List POp := [⟨4, .boxs (.t 1), none⟩,
  ⟨6, .alloc [.int .i64 0, .int .i64 0], none⟩,
  ⟨7, .asg (.c (.int .i64 0)), none⟩]
def r21_1 : List POp := [⟨15, .mv (.t 0), none⟩,
  ⟨16, .mv (.t 2), none⟩,
  ⟨17, .call 40 [.t 15, .t 16], none⟩,
  ⟨14, .mv (.t 17), none⟩,
  ⟨18, .ext 0 (.t 14), none⟩,
  ⟨19, .ext 1 (.t 14), none⟩,
  ⟨8, .asg (.t 18), none⟩,
  ⟨9, .asg (.t 19), none⟩]
def r21_2 : List POp := [⟨20, .mv (.t 9), none⟩,
  ⟨21, .mv (.t 0), none⟩,
  ⟨22, .call 38 [.t 21], none⟩,
  ⟨23, .rowr 25 1 [.t 20, .t 22], none⟩,
  ⟨24, .call 41 [.t 23], none⟩,
  ⟨9, .asg (.t 24), none⟩]
def r21_3 : List POp := [⟨25, .mv (.t 9), none⟩,
  ⟨26, .bin .neq (.t 25) (.c (.int .i64 0)), none⟩]
def r21_4 : List POp := [⟨27, .build [.int .i64 0, .int .i64 0] [], none⟩,
  ⟨28, .mv (.t 9), none⟩,
  ⟨0, .stores 2 (.t 6) (.t 27), none⟩,
  ⟨7, .asg (.t 28), none⟩]
def r21_5 : List POp := [⟨30, .fld 0 (.t 4), none⟩,
  ⟨31, .load (.t 30), none⟩,
  ⟨32, .call 32 [.t 31], none⟩,
  ⟨33, .mv (.t 32), none⟩,
  ⟨34, .fld 1 (.t 4), some (33, false)⟩,
  ⟨35, .load (.t 34), some (33, false)⟩,
  ⟨36, .call 32 [.t 35], some (33, false)⟩,
  ⟨37, .pick (.t 33) (.c (.bool true)) (.t 36), none⟩,
  ⟨29, .asg (.t 37), none⟩]
def r21_6 : List POp := [⟨38, .build [.int .i64 0, .int .i64 0] [], none⟩,
  ⟨0, .stores 2 (.t 6) (.t 38), none⟩,
  ⟨7, .asg (.c (.int .i64 1)), none⟩]
def r21_7 : List POp := [⟨40, .fld 1 (.t 4), none⟩,
  ⟨41, .load (.t 40), none⟩,
  ⟨42, .fld 0 (.t 4), none⟩,
  ⟨43, .load (.t 42), none⟩,
  ⟨44, .bin .leq (.t 41) (.t 43), none⟩,
  ⟨39, .asg (.t 44), none⟩]
def r21_8 : List POp := [⟨45, .build [.int .i64 0, .int .i64 0] [], none⟩,
  ⟨0, .stores 2 (.t 6) (.t 45), none⟩,
  ⟨7, .asg (.c (.int .i64 8)), none⟩]
def r21_9 : List POp := [⟨10, .asg (.c (.int .i64 (-1))), none⟩,
  ⟨11, .asg (.c (.int .i64 (-1))), none⟩]
def r21_10 : List POp := [⟨46, .mv (.t 0), none⟩,
  ⟨47, .len (.t 46), none⟩,
  ⟨48, .mv (.c (.int .i64 0)), none⟩]
def r21_11 : List POp := [⟨49, .bin .lss (.t 48) (.t 47), none⟩]
def r21_12 : List POp := [⟨50, .mv (.t 48), none⟩,
  ⟨51, .idx 7 (.t 46) (.t 48), none⟩,
  ⟨52, .loads 7 (.t 51), none⟩,
  ⟨13, .alloc [.int .i64 0, .int .i64 0, .int .i64 0, .int .i64 0, .int .i64 0, .int .i64 0, .int .i64 0], none⟩,
  ⟨12, .asg (.t 50), none⟩,
  ⟨0, .stores 7 (.t 13) (.t 52), none⟩]
def r21_13 : List POp := [⟨53, .loads 7 (.t 13), none⟩,
  ⟨54, .call 39 [.t 53], none⟩,
  ⟨55, .fld 0 (.t 4), none⟩,
  ⟨56, .load (.t 55), none⟩,
  ⟨57, .minmax true (.t 54) (.t 56), none⟩,
  ⟨58, .loads 7 (.t 13), none⟩,
  ⟨59, .call 39 [.t 58], none⟩,
  ⟨60, .fld 4 (.t 13), none⟩,
  ⟨61, .load (.t 60), none⟩,
  ⟨62, .bin .add (.t 59) (.t 61), none⟩,
  ⟨63, .fld 1 (.t 4), none⟩,
  ⟨64, .load (.t 63), none⟩,
  ⟨65, .minmax false (.t 62) (.t 64), none⟩,
  ⟨66, .bin .lss (.t 57) (.t 65), none⟩]
def r21_14 : List POp := [⟨67, .mv (.t 10), none⟩,
  ⟨68, .bin .lss (.t 67) (.c (.int .i64 0)), none⟩]
def r21_15 : List POp := [⟨69, .mv (.t 12), none⟩,
  ⟨10, .asg (.t 69), none⟩]
def r21_16 : List POp := [⟨70, .mv (.t 12), none⟩,
  ⟨11, .asg (.t 70), none⟩]
def r21_17 : List POp := [⟨71, .bin .add (.t 48) (.c (.int .i64 1)), none⟩,
  ⟨48, .mv (.t 71), none⟩]
def r21_18 : List POp := [⟨72, .mv (.t 10), none⟩,
  ⟨73, .bin .lss (.t 72) (.c (.int .i64 0)), none⟩]
def r21_19 : List POp := [⟨74, .build [.int .i64 0, .int .i64 0] [], none⟩,
  ⟨0, .stores 2 (.t 6) (.t 74), none⟩,
  ⟨7, .asg (.c (.int .i64 9)), none⟩]
def r21_20 : List POp := [⟨75, .mv (.t 8), none⟩,
  ⟨76, .mv (.t 10), none⟩,
  ⟨77, .idx 2 (.t 75) (.t 76), none⟩,
  ⟨78, .fld 0 (.t 77), none⟩,
  ⟨79, .load (.t 78), none⟩,
  ⟨80, .mv (.t 8), none⟩,
  ⟨81, .mv (.t 11), none⟩,
  ⟨82, .idx 2 (.t 80) (.t 81), none⟩,
  ⟨83, .fld 1 (.t 82), none⟩,
  ⟨84, .load (.t 83), none⟩,
  ⟨85, .build [.int .i64 0, .int .i64 0] [(0, 1, .t 79), (1, 1, .t 84)], none⟩,
  ⟨0, .stores 2 (.t 6) (.t 85), none⟩,
  ⟨7, .asg (.c (.int .i64 0)), none⟩]
def l21_0 : PCode := .seq (.ops r21_11) (.seq (.cond (.t 49) (.skip) (.exit 1)) (.seq (.block 2 (.seq (.ops r21_12) (.seq (.ops r21_13) (.cond (.t 66) (.seq (.seq (.ops r21_14) (.cond (.t 68) (.ops r21_15) (.skip))) (.ops r21_16)) (.skip))))) (.ops r21_17)))
def p21 : PCode := .seq (.ops r21_0) (.seq (.ops r21_1) (.seq (.seq (.ops r21_2) (.seq (.ops r21_3) (.cond (.t 26) (.seq (.ops r21_4) (.ret)) (.skip)))) (.seq (.block 0 (.seq (.ops r21_5) (.cond (.t 29) (.seq (.ops r21_6) (.ret)) (.seq (.ops r21_7) (.cond (.t 39) (.seq (.ops r21_8) (.ret)) (.skip)))))) (.seq (.ops r21_9) (.seq (.seq (.ops r21_10) (.block 1 (.loop l21_0))) (.seq (.seq (.ops r21_18) (.cond (.t 73) (.seq (.ops r21_19) (.ret)) (.skip))) (.seq (.ops r21_20) (.ret))))))))
theorem ok21 : okFunc Try.prog 21 [.c 6 2, .t 7] 3 p21 = true := by kernel_rfl
/-- The first and the last segment that meet a span, out of those from number k on. -/
def meets (a b : Int) (s : Seg) : Bool := decide ((if s.bw < a then a else s.bw) < (if b < IntKind.i64.wrap (s.bw + s.len) then b else IntKind.i64.wrap (s.bw + s.len)))
def fetGo (a b : Int) : Nat → Int × Int → List Seg → Int × Int
  | _, p, [] => p
  | k, p, s :: r => fetGo a b (k + 1) (if meets a b s then (if p.1 < 0 then k else p.1, k) else p) r
def fetch (l : List Seg) (a b st : Int) : Rg × Int :=
  let e := firstF [(rng l st).2, row l]
  if e ≠ 0 then (⟨0, 0⟩, e) else if noTime a || noTime b then (⟨0, 0⟩, 1) else if b ≤ a then (⟨0, 0⟩, 8) else
    let p := fetGo a b 0 (-1, -1) l
    if p.1 < 0 then (⟨0, 0⟩, 9) else (⟨((rng l st).1.getD p.1.toNat ⟨0, 0⟩).frm, ((rng l st).1.getD p.2.toNat ⟨0, 0⟩).to⟩, 0)
theorem fetch_c (l : List Seg) (a b st : Int) : CallOK Try.prog 21 [.ro (l.map Seg.av), .agg [.val (.int .i64 a), .val (.int .i64 b)], .val (.int .i64 st)] (.tup [.agg (fetch l a b st).1.av, .val (.int .i64 (fetch l a b st).2)]) := by
  refine call_of mixed ok21 rfl ?_
  repeat' first | (with_reducible refine condD (fun h => ?_) (fun h => ?_)) | (with_reducible refine condE (fun h => ?_) (fun h => ?_)) | (with_reducible refine condN (fun h => ?_) (fun h => ?_)) | (with_reducible refine condI (fun h => ?_) (fun h => ?_)) | (with_reducible refine condS (fun h => ?_) (fun h => ?_)) | (with_reducible refine guardD (by with_unfolding_all rfl) (fun h => ?_) (fun h => ?_)) | (with_reducible refine guardE (by with_unfolding_all rfl) (fun h => ?_) (fun h => ?_)) | (with_reducible refine guardN (by with_unfolding_all rfl) (fun h => ?_) (fun h => ?_)) | (with_reducible refine guardI (by with_unfolding_all rfl) (fun h => ?_) (fun h => ?_)) | (with_reducible refine guardS (by with_unfolding_all rfl) (fun h => ?_) (fun h => ?_)) | ((refine callG (rng_c _ _) ?_)) | ((refine callG (row_c _) ?_)) | ((refine callG (notime_c _) ?_)) | ((refine callG_flat (first_c2 _ _) (flat_val _) ?_)) | (with_reducible refine And.intro ?_ ?_; omega) | (simp only [done_eq, done_eq', fin_val, fin_tup, fin_agg, fin_ro, res_one, res_more, rv_t, rv_c, rv_l, AV.tup.injEq, AV.agg.injEq, AV.ro.injEq, List.cons.injEq, int_eq, bool_eq, Int.toNat_natCast, Int.reduceToNat, Int.toNat_zero, Int.toNat_one, Int.reduceLE, Int.reduceLT, Int.reduceBEq, Int.reduceBNe, beq_self_eq_true, bne_self_eq_false, decide_true, decide_false,  Int.reduceNeg, toNat_pred, toNat_succ, List.length_map, cnd_t, cnd_f, grd_tt, grd_u, grd_tf, grd_ft, grd_ff, g_skip, g_ops, g_seq, g_block, g_exit, g_ret, x_c, x_o, x_l, x_b, g_b, g_nil, r_all, o_nil, g_cond, o_guard, o_call, o_callv, lk, ef, o_mv, o_pick, o_bin, o_eqs, o_eqb, o_un, o_conv, o_load, o_loads, o_fld, o_idx, o_idxs, o_len, o_lens, o_ext, o_nilck, o_slc, o_slcs, o_build, o_minmax, o_mkfn, o_alloc, o_box, o_boxs, o_row, o_rowr, o_mk, o_asg, o_app, o_store, o_stores, hv, eqAV, ev, view, rowOf, cellsOf, argv, vbin, vun, bnd, elemOf, putParts, setAt, zav, ASt.rid, ASt.free, AV.kill, AV.isHome, AV.noLoan, AV.cellOK, Value.oneCell', put_at, mk_at, mk_nil, initSt, true_and, and_true, and_self, implies_true, List.map_cons, List.map_nil, List.forall_mem_cons, List.not_mem_nil, false_implies, List.length_cons, List.length_nil, List.getD_cons_zero, List.getD_cons_succ, List.getD_nil, List.drop_succ_cons, List.drop_zero, List.take_succ_cons, List.take_zero, List.set_cons_zero, List.set_cons_succ, List.all_cons, List.all_nil, Bool.and_true, Bool.true_and, Bool.not_true, Bool.not_false, reduceCtorEq, if_true, if_false, Bool.false_eq_true, ↓reduceIte, Nat.reduceEqDiff, Nat.reduceAdd, Nat.reduceSub, Nat.reduceMul, Nat.reduceLeDiff, Nat.reduceLT, ne_eq, not_false_eq_true, not_true_eq_false, Nat.one_ne_zero, Nat.zero_ne_one, r21_0, r21_1, r21_2, r21_3, r21_4, r21_5, r21_6, r21_7, r21_8, r21_9, r21_10, r21_11, r21_12, r21_13, r21_14, r21_15, r21_16, r21_17, r21_18, r21_19, r21_20, p21]) | (exfalso; omega)
  all_goals try (simp only [bne_iff_ne, bne_eq_false_iff_eq] at *)
  all_goals try (simp [fetch, Rg.av, *]; done)
  rename_i h0 h1 h2
  have h3 := h
  obtain ⟨z1, z2⟩ := first2 h0
  have hl := row_len z2
  have hrl := rng_len z1
  have hF : fetch l a b st = if (fetGo a b 0 (-1, -1) l).1 < 0 then (⟨0, 0⟩, 9) else (⟨((rng l st).1.getD (fetGo a b 0 (-1, -1) l).1.toNat ⟨0, 0⟩).frm, ((rng l st).1.getD (fetGo a b 0 (-1, -1) l).2.toNat ⟨0, 0⟩).to⟩, 0) := by
    simp [fetch, h0, h1, h2, h3]
  refine loopS (fun p : Nat × Int × Int => mk [(0, .ro (l.map Seg.av)), (4, .box [.val (.int .i64 a), .val (.int .i64 b)]), (6, .box [.val (.int .i64 0), .val (.int .i64 0)]), (8, .ro ((rng l st).1.map Rg.av)), (10, .val (.int .i64 p.2.1)), (11, .val (.int .i64 p.2.2)), (46, .ro (l.map Seg.av)), (47, .val (.int .i64 l.length)), (48, .val (.int .i64 p.1))])
    (fun p => p.1 ≤ l.length ∧ ((p.2.1 = -1 ∧ p.2.2 = -1) ∨ (0 ≤ p.2.1 ∧ p.2.1 < l.length ∧ 0 ≤ p.2.2 ∧ p.2.2 < l.length)) ∧ fetGo a b 0 (-1, -1) l = fetGo a b p.1 p.2 (l.drop p.1)) (fun p => l.length - p.1) (0, -1, -1) (weak_mk ?_) ⟨Nat.zero_le _, .inl ⟨rfl, rfl⟩, by simp⟩ ?_
  · simp only [wk_cons, wk_nil, wk1, vint_eq, vbool_eq, AV.val.injEq, done_eq, done_eq', fin_val, fin_tup, fin_agg, fin_ro, res_one, res_more, rv_t, rv_c, rv_l, AV.tup.injEq, AV.agg.injEq, AV.ro.injEq, List.cons.injEq, int_eq, bool_eq, Int.toNat_natCast, Int.reduceToNat, Int.toNat_zero, Int.toNat_one, Int.reduceLE, Int.reduceLT, Int.reduceBEq, Int.reduceBNe, beq_self_eq_true, bne_self_eq_false, decide_true, decide_false,  Int.reduceNeg, toNat_pred, toNat_succ, List.length_map, cnd_t, cnd_f, grd_tt, grd_u, grd_tf, grd_ft, grd_ff, g_skip, g_ops, g_seq, g_block, g_exit, g_ret, x_c, x_o, x_l, x_b, g_b, g_nil, r_all, o_nil, g_cond, o_guard, o_call, o_callv, lk, ef, o_mv, o_pick, o_bin, o_eqs, o_eqb, o_un, o_conv, o_load, o_loads, o_fld, o_idx, o_idxs, o_len, o_lens, o_ext, o_nilck, o_slc, o_slcs, o_build, o_minmax, o_mkfn, o_alloc, o_box, o_boxs, o_row, o_rowr, o_mk, o_asg, o_app, o_store, o_stores, hv, eqAV, ev, view, rowOf, cellsOf, argv, vbin, vun, bnd, elemOf, putParts, setAt, zav, ASt.rid, ASt.free, AV.kill, AV.isHome, AV.noLoan, AV.cellOK, Value.oneCell', put_at, mk_at, mk_nil, initSt, true_and, and_true, and_self, implies_true, List.map_cons, List.map_nil, List.forall_mem_cons, List.not_mem_nil, false_implies, List.length_cons, List.length_nil, List.getD_cons_zero, List.getD_cons_succ, List.getD_nil, List.drop_succ_cons, List.drop_zero, List.take_succ_cons, List.take_zero, List.set_cons_zero, List.set_cons_succ, List.all_cons, List.all_nil, Bool.and_true, Bool.true_and, Bool.not_true, Bool.not_false, reduceCtorEq, if_true, if_false, Bool.false_eq_true, ↓reduceIte, Nat.reduceEqDiff, Nat.reduceAdd, Nat.reduceSub, Nat.reduceMul, Nat.reduceLeDiff, Nat.reduceLT, ne_eq, not_false_eq_true, not_true_eq_false, Nat.one_ne_zero, Nat.zero_ne_one]
    simp
  · rintro J hJ ⟨k, x, y⟩ ⟨hk, hxy, hg⟩
    simp only at hk hxy hg
    simp only [done_eq, done_eq', fin_val, fin_tup, fin_agg, fin_ro, res_one, res_more, rv_t, rv_c, rv_l, AV.tup.injEq, AV.agg.injEq, AV.ro.injEq, List.cons.injEq, int_eq, bool_eq, Int.toNat_natCast, Int.reduceToNat, Int.toNat_zero, Int.toNat_one, Int.reduceLE, Int.reduceLT, Int.reduceBEq, Int.reduceBNe, beq_self_eq_true, bne_self_eq_false, decide_true, decide_false,  Int.reduceNeg, toNat_pred, toNat_succ, List.length_map, cnd_t, cnd_f, grd_tt, grd_u, grd_tf, grd_ft, grd_ff, g_skip, g_ops, g_seq, g_block, g_exit, g_ret, x_c, x_o, x_l, x_b, g_b, g_nil, r_all, o_nil, g_cond, o_guard, o_call, o_callv, lk, ef, o_mv, o_pick, o_bin, o_eqs, o_eqb, o_un, o_conv, o_load, o_loads, o_fld, o_idx, o_idxs, o_len, o_lens, o_ext, o_nilck, o_slc, o_slcs, o_build, o_minmax, o_mkfn, o_alloc, o_box, o_boxs, o_row, o_rowr, o_mk, o_asg, o_app, o_store, o_stores, hv, eqAV, ev, view, rowOf, cellsOf, argv, vbin, vun, bnd, elemOf, putParts, setAt, zav, ASt.rid, ASt.free, AV.kill, AV.isHome, AV.noLoan, AV.cellOK, Value.oneCell', put_at, mk_at, mk_nil, initSt, true_and, and_true, and_self, implies_true, List.map_cons, List.map_nil, List.forall_mem_cons, List.not_mem_nil, false_implies, List.length_cons, List.length_nil, List.getD_cons_zero, List.getD_cons_succ, List.getD_nil, List.drop_succ_cons, List.drop_zero, List.take_succ_cons, List.take_zero, List.set_cons_zero, List.set_cons_succ, List.all_cons, List.all_nil, Bool.and_true, Bool.true_and, Bool.not_true, Bool.not_false, reduceCtorEq, if_true, if_false, Bool.false_eq_true, ↓reduceIte, Nat.reduceEqDiff, Nat.reduceAdd, Nat.reduceSub, Nat.reduceMul, Nat.reduceLeDiff, Nat.reduceLT, ne_eq, not_false_eq_true, not_true_eq_false, Nat.one_ne_zero, Nat.zero_ne_one, r21_0, r21_1, r21_2, r21_3, r21_4, r21_5, r21_6, r21_7, r21_8, r21_9, r21_10, r21_11, r21_12, r21_13, r21_14, r21_15, r21_16, r21_17, r21_18, r21_19, r21_20, p21, l21_0]
    refine condD (fun h => ?_) (fun h => ?_)
    · have hlt : k < l.length := by omega
      have hr : fetGo a b 0 (-1, -1) l = fetGo a b (k + 1) (if meets a b l[k] then (if x < 0 then k else x, k) else (x, y)) (l.drop (k + 1)) := by rw [hg, List.drop_eq_getElem_cons hlt, fetGo]
      have hw : IntKind.i64.wrap (k + 1 : Int) = ((k + 1 : Nat) : Int) := wrap_in (by omega) (by omega)
      clear hg
      repeat' first | (with_reducible refine condD (fun h => ?_) (fun h => ?_)) | (with_reducible refine condE (fun h => ?_) (fun h => ?_)) | (with_reducible refine condN (fun h => ?_) (fun h => ?_)) | (with_reducible refine condI (fun h => ?_) (fun h => ?_)) | (with_reducible refine condS (fun h => ?_) (fun h => ?_)) | (with_reducible refine guardD (by with_unfolding_all rfl) (fun h => ?_) (fun h => ?_)) | (with_reducible refine guardE (by with_unfolding_all rfl) (fun h => ?_) (fun h => ?_)) | (with_reducible refine guardN (by with_unfolding_all rfl) (fun h => ?_) (fun h => ?_)) | (with_reducible refine guardI (by with_unfolding_all rfl) (fun h => ?_) (fun h => ?_)) | (with_reducible refine guardS (by with_unfolding_all rfl) (fun h => ?_) (fun h => ?_)) | ((refine callG (boundary_c _) ?_)) | (with_reducible refine And.intro ?_ ?_; omega) | (simp only [done_eq, done_eq', fin_val, fin_tup, fin_agg, fin_ro, res_one, res_more, rv_t, rv_c, rv_l, AV.tup.injEq, AV.agg.injEq, AV.ro.injEq, List.cons.injEq, int_eq, bool_eq, Int.toNat_natCast, Int.reduceToNat, Int.toNat_zero, Int.toNat_one, Int.reduceLE, Int.reduceLT, Int.reduceBEq, Int.reduceBNe, beq_self_eq_true, bne_self_eq_false, decide_true, decide_false,  Int.reduceNeg, toNat_pred, toNat_succ, List.length_map, cnd_t, cnd_f, grd_tt, grd_u, grd_tf, grd_ft, grd_ff, g_skip, g_ops, g_seq, g_block, g_exit, g_ret, x_c, x_o, x_l, x_b, g_b, g_nil, r_all, o_nil, g_cond, o_guard, o_call, o_callv, lk, ef, o_mv, o_pick, o_bin, o_eqs, o_eqb, o_un, o_conv, o_load, o_loads, o_fld, o_idx, o_idxs, o_len, o_lens, o_ext, o_nilck, o_slc, o_slcs, o_build, o_minmax, o_mkfn, o_alloc, o_box, o_boxs, o_row, o_rowr, o_mk, o_asg, o_app, o_store, o_stores, hv, eqAV, ev, view, rowOf, cellsOf, argv, vbin, vun, bnd, elemOf, putParts, setAt, zav, ASt.rid, ASt.free, AV.kill, AV.isHome, AV.noLoan, AV.cellOK, Value.oneCell', put_at, mk_at, mk_nil, initSt, true_and, and_true, and_self, implies_true, List.map_cons, List.map_nil, List.forall_mem_cons, List.not_mem_nil, false_implies, List.length_cons, List.length_nil, List.getD_cons_zero, List.getD_cons_succ, List.getD_nil, List.drop_succ_cons, List.drop_zero, List.take_succ_cons, List.take_zero, List.set_cons_zero, List.set_cons_succ, List.all_cons, List.all_nil, Bool.and_true, Bool.true_and, Bool.not_true, Bool.not_false, reduceCtorEq, if_true, if_false, Bool.false_eq_true, ↓reduceIte, Nat.reduceEqDiff, Nat.reduceAdd, Nat.reduceSub, Nat.reduceMul, Nat.reduceLeDiff, Nat.reduceLT, ne_eq, not_false_eq_true, not_true_eq_false, Nat.one_ne_zero, Nat.zero_ne_one, r21_0, r21_1, r21_2, r21_3, r21_4, r21_5, r21_6, r21_7, r21_8, r21_9, r21_10, r21_11, r21_12, r21_13, r21_14, r21_15, r21_16, r21_17, r21_18, r21_19, r21_20, p21, l21_0, Seg.av, getD_map hlt]) | (exfalso; omega)
      · exact again hJ (k + 1, k, k) (weak_mk (by simp only [wk_cons, wk_nil, wk1, vint_eq, vbool_eq, AV.val.injEq, done_eq, done_eq', fin_val, fin_tup, fin_agg, fin_ro, res_one, res_more, rv_t, rv_c, rv_l, AV.tup.injEq, AV.agg.injEq, AV.ro.injEq, List.cons.injEq, int_eq, bool_eq, Int.toNat_natCast, Int.reduceToNat, Int.toNat_zero, Int.toNat_one, Int.reduceLE, Int.reduceLT, Int.reduceBEq, Int.reduceBNe, beq_self_eq_true, bne_self_eq_false, decide_true, decide_false,  Int.reduceNeg, toNat_pred, toNat_succ, List.length_map, cnd_t, cnd_f, grd_tt, grd_u, grd_tf, grd_ft, grd_ff, g_skip, g_ops, g_seq, g_block, g_exit, g_ret, x_c, x_o, x_l, x_b, g_b, g_nil, r_all, o_nil, g_cond, o_guard, o_call, o_callv, lk, ef, o_mv, o_pick, o_bin, o_eqs, o_eqb, o_un, o_conv, o_load, o_loads, o_fld, o_idx, o_idxs, o_len, o_lens, o_ext, o_nilck, o_slc, o_slcs, o_build, o_minmax, o_mkfn, o_alloc, o_box, o_boxs, o_row, o_rowr, o_mk, o_asg, o_app, o_store, o_stores, hv, eqAV, ev, view, rowOf, cellsOf, argv, vbin, vun, bnd, elemOf, putParts, setAt, zav, ASt.rid, ASt.free, AV.kill, AV.isHome, AV.noLoan, AV.cellOK, Value.oneCell', put_at, mk_at, mk_nil, initSt, true_and, and_true, and_self, implies_true, List.map_cons, List.map_nil, List.forall_mem_cons, List.not_mem_nil, false_implies, List.length_cons, List.length_nil, List.getD_cons_zero, List.getD_cons_succ, List.getD_nil, List.drop_succ_cons, List.drop_zero, List.take_succ_cons, List.take_zero, List.set_cons_zero, List.set_cons_succ, List.all_cons, List.all_nil, Bool.and_true, Bool.true_and, Bool.not_true, Bool.not_false, reduceCtorEq, if_true, if_false, Bool.false_eq_true, ↓reduceIte, Nat.reduceEqDiff, Nat.reduceAdd, Nat.reduceSub, Nat.reduceMul, Nat.reduceLeDiff, Nat.reduceLT, ne_eq, not_false_eq_true, not_true_eq_false, Nat.one_ne_zero, Nat.zero_ne_one]; exact hw)) ⟨by omega, by simp; omega, by rw [hr, if_pos (by simp [meets, *, -hJ]), if_pos (by omega)]⟩ (by simp only; omega)
      · exact again hJ (k + 1, x, k) (weak_mk (by simp only [wk_cons, wk_nil, wk1, vint_eq, vbool_eq, AV.val.injEq, done_eq, done_eq', fin_val, fin_tup, fin_agg, fin_ro, res_one, res_more, rv_t, rv_c, rv_l, AV.tup.injEq, AV.agg.injEq, AV.ro.injEq, List.cons.injEq, int_eq, bool_eq, Int.toNat_natCast, Int.reduceToNat, Int.toNat_zero, Int.toNat_one, Int.reduceLE, Int.reduceLT, Int.reduceBEq, Int.reduceBNe, beq_self_eq_true, bne_self_eq_false, decide_true, decide_false,  Int.reduceNeg, toNat_pred, toNat_succ, List.length_map, cnd_t, cnd_f, grd_tt, grd_u, grd_tf, grd_ft, grd_ff, g_skip, g_ops, g_seq, g_block, g_exit, g_ret, x_c, x_o, x_l, x_b, g_b, g_nil, r_all, o_nil, g_cond, o_guard, o_call, o_callv, lk, ef, o_mv, o_pick, o_bin, o_eqs, o_eqb, o_un, o_conv, o_load, o_loads, o_fld, o_idx, o_idxs, o_len, o_lens, o_ext, o_nilck, o_slc, o_slcs, o_build, o_minmax, o_mkfn, o_alloc, o_box, o_boxs, o_row, o_rowr, o_mk, o_asg, o_app, o_store, o_stores, hv, eqAV, ev, view, rowOf, cellsOf, argv, vbin, vun, bnd, elemOf, putParts, setAt, zav, ASt.rid, ASt.free, AV.kill, AV.isHome, AV.noLoan, AV.cellOK, Value.oneCell', put_at, mk_at, mk_nil, initSt, true_and, and_true, and_self, implies_true, List.map_cons, List.map_nil, List.forall_mem_cons, List.not_mem_nil, false_implies, List.length_cons, List.length_nil, List.getD_cons_zero, List.getD_cons_succ, List.getD_nil, List.drop_succ_cons, List.drop_zero, List.take_succ_cons, List.take_zero, List.set_cons_zero, List.set_cons_succ, List.all_cons, List.all_nil, Bool.and_true, Bool.true_and, Bool.not_true, Bool.not_false, reduceCtorEq, if_true, if_false, Bool.false_eq_true, ↓reduceIte, Nat.reduceEqDiff, Nat.reduceAdd, Nat.reduceSub, Nat.reduceMul, Nat.reduceLeDiff, Nat.reduceLT, ne_eq, not_false_eq_true, not_true_eq_false, Nat.one_ne_zero, Nat.zero_ne_one]; exact hw)) ⟨by omega, by simp; omega, by rw [hr, if_pos (by simp [meets, *, -hJ]), if_neg (by omega)]⟩ (by simp only; omega)
      · exact again hJ (k + 1, x, y) (weak_mk (by simp only [wk_cons, wk_nil, wk1, vint_eq, vbool_eq, AV.val.injEq, done_eq, done_eq', fin_val, fin_tup, fin_agg, fin_ro, res_one, res_more, rv_t, rv_c, rv_l, AV.tup.injEq, AV.agg.injEq, AV.ro.injEq, List.cons.injEq, int_eq, bool_eq, Int.toNat_natCast, Int.reduceToNat, Int.toNat_zero, Int.toNat_one, Int.reduceLE, Int.reduceLT, Int.reduceBEq, Int.reduceBNe, beq_self_eq_true, bne_self_eq_false, decide_true, decide_false,  Int.reduceNeg, toNat_pred, toNat_succ, List.length_map, cnd_t, cnd_f, grd_tt, grd_u, grd_tf, grd_ft, grd_ff, g_skip, g_ops, g_seq, g_block, g_exit, g_ret, x_c, x_o, x_l, x_b, g_b, g_nil, r_all, o_nil, g_cond, o_guard, o_call, o_callv, lk, ef, o_mv, o_pick, o_bin, o_eqs, o_eqb, o_un, o_conv, o_load, o_loads, o_fld, o_idx, o_idxs, o_len, o_lens, o_ext, o_nilck, o_slc, o_slcs, o_build, o_minmax, o_mkfn, o_alloc, o_box, o_boxs, o_row, o_rowr, o_mk, o_asg, o_app, o_store, o_stores, hv, eqAV, ev, view, rowOf, cellsOf, argv, vbin, vun, bnd, elemOf, putParts, setAt, zav, ASt.rid, ASt.free, AV.kill, AV.isHome, AV.noLoan, AV.cellOK, Value.oneCell', put_at, mk_at, mk_nil, initSt, true_and, and_true, and_self, implies_true, List.map_cons, List.map_nil, List.forall_mem_cons, List.not_mem_nil, false_implies, List.length_cons, List.length_nil, List.getD_cons_zero, List.getD_cons_succ, List.getD_nil, List.drop_succ_cons, List.drop_zero, List.take_succ_cons, List.take_zero, List.set_cons_zero, List.set_cons_succ, List.all_cons, List.all_nil, Bool.and_true, Bool.true_and, Bool.not_true, Bool.not_false, reduceCtorEq, if_true, if_false, Bool.false_eq_true, ↓reduceIte, Nat.reduceEqDiff, Nat.reduceAdd, Nat.reduceSub, Nat.reduceMul, Nat.reduceLeDiff, Nat.reduceLT, ne_eq, not_false_eq_true, not_true_eq_false, Nat.one_ne_zero, Nat.zero_ne_one]; exact hw)) ⟨by omega, by simp; omega, by rw [hr, if_neg (by simp [meets, *, -hJ])]⟩ (by simp only; omega)
    · have hke : k = l.length := by omega
      subst hke
      have hg' : fetGo a b 0 (-1, -1) l = (x, y) := by rw [hg]; simp [fetGo]
      rw [hg'] at hF
      clear hg hg' hJ
      rcases hxy with ⟨rfl, rfl⟩ | ⟨x1, x2, y1, y2⟩
      · repeat' first | (with_reducible refine condD (fun h => ?_) (fun h => ?_)) | (with_reducible refine condE (fun h => ?_) (fun h => ?_)) | (with_reducible refine condN (fun h => ?_) (fun h => ?_)) | (with_reducible refine condI (fun h => ?_) (fun h => ?_)) | (with_reducible refine condS (fun h => ?_) (fun h => ?_)) | (with_reducible refine guardD (by with_unfolding_all rfl) (fun h => ?_) (fun h => ?_)) | (with_reducible refine guardE (by with_unfolding_all rfl) (fun h => ?_) (fun h => ?_)) | (with_reducible refine guardN (by with_unfolding_all rfl) (fun h => ?_) (fun h => ?_)) | (with_reducible refine guardI (by with_unfolding_all rfl) (fun h => ?_) (fun h => ?_)) | (with_reducible refine guardS (by with_unfolding_all rfl) (fun h => ?_) (fun h => ?_)) | (with_reducible refine And.intro ?_ ?_; omega) | (simp only [done_eq, done_eq', fin_val, fin_tup, fin_agg, fin_ro, res_one, res_more, rv_t, rv_c, rv_l, AV.tup.injEq, AV.agg.injEq, AV.ro.injEq, List.cons.injEq, int_eq, bool_eq, Int.toNat_natCast, Int.reduceToNat, Int.toNat_zero, Int.toNat_one, Int.reduceLE, Int.reduceLT, Int.reduceBEq, Int.reduceBNe, beq_self_eq_true, bne_self_eq_false, decide_true, decide_false,  Int.reduceNeg, toNat_pred, toNat_succ, List.length_map, cnd_t, cnd_f, grd_tt, grd_u, grd_tf, grd_ft, grd_ff, g_skip, g_ops, g_seq, g_block, g_exit, g_ret, x_c, x_o, x_l, x_b, g_b, g_nil, r_all, o_nil, g_cond, o_guard, o_call, o_callv, lk, ef, o_mv, o_pick, o_bin, o_eqs, o_eqb, o_un, o_conv, o_load, o_loads, o_fld, o_idx, o_idxs, o_len, o_lens, o_ext, o_nilck, o_slc, o_slcs, o_build, o_minmax, o_mkfn, o_alloc, o_box, o_boxs, o_row, o_rowr, o_mk, o_asg, o_app, o_store, o_stores, hv, eqAV, ev, view, rowOf, cellsOf, argv, vbin, vun, bnd, elemOf, putParts, setAt, zav, ASt.rid, ASt.free, AV.kill, AV.isHome, AV.noLoan, AV.cellOK, Value.oneCell', put_at, mk_at, mk_nil, initSt, true_and, and_true, and_self, implies_true, List.map_cons, List.map_nil, List.forall_mem_cons, List.not_mem_nil, false_implies, List.length_cons, List.length_nil, List.getD_cons_zero, List.getD_cons_succ, List.getD_nil, List.drop_succ_cons, List.drop_zero, List.take_succ_cons, List.take_zero, List.set_cons_zero, List.set_cons_succ, List.all_cons, List.all_nil, Bool.and_true, Bool.true_and, Bool.not_true, Bool.not_false, reduceCtorEq, if_true, if_false, Bool.false_eq_true, ↓reduceIte, Nat.reduceEqDiff, Nat.reduceAdd, Nat.reduceSub, Nat.reduceMul, Nat.reduceLeDiff, Nat.reduceLT, ne_eq, not_false_eq_true, not_true_eq_false, Nat.one_ne_zero, Nat.zero_ne_one, r21_0, r21_1, r21_2, r21_3, r21_4, r21_5, r21_6, r21_7, r21_8, r21_9, r21_10, r21_11, r21_12, r21_13, r21_14, r21_15, r21_16, r21_17, r21_18, r21_19, r21_20, p21, l21_0]) | (exfalso; omega)
        all_goals simp [hF, Rg.av]
      · have hx : x.toNat < (rng l st).1.length := by omega
        have hy : y.toNat < (rng l st).1.length := by omega
        repeat' first | (with_reducible refine condD (fun h => ?_) (fun h => ?_)) | (with_reducible refine condE (fun h => ?_) (fun h => ?_)) | (with_reducible refine condN (fun h => ?_) (fun h => ?_)) | (with_reducible refine condI (fun h => ?_) (fun h => ?_)) | (with_reducible refine condS (fun h => ?_) (fun h => ?_)) | (with_reducible refine guardD (by with_unfolding_all rfl) (fun h => ?_) (fun h => ?_)) | (with_reducible refine guardE (by with_unfolding_all rfl) (fun h => ?_) (fun h => ?_)) | (with_reducible refine guardN (by with_unfolding_all rfl) (fun h => ?_) (fun h => ?_)) | (with_reducible refine guardI (by with_unfolding_all rfl) (fun h => ?_) (fun h => ?_)) | (with_reducible refine guardS (by with_unfolding_all rfl) (fun h => ?_) (fun h => ?_)) | (with_reducible refine And.intro ?_ ?_; omega) | (simp only [done_eq, done_eq', fin_val, fin_tup, fin_agg, fin_ro, res_one, res_more, rv_t, rv_c, rv_l, AV.tup.injEq, AV.agg.injEq, AV.ro.injEq, List.cons.injEq, int_eq, bool_eq, Int.toNat_natCast, Int.reduceToNat, Int.toNat_zero, Int.toNat_one, Int.reduceLE, Int.reduceLT, Int.reduceBEq, Int.reduceBNe, beq_self_eq_true, bne_self_eq_false, decide_true, decide_false,  Int.reduceNeg, toNat_pred, toNat_succ, List.length_map, cnd_t, cnd_f, grd_tt, grd_u, grd_tf, grd_ft, grd_ff, g_skip, g_ops, g_seq, g_block, g_exit, g_ret, x_c, x_o, x_l, x_b, g_b, g_nil, r_all, o_nil, g_cond, o_guard, o_call, o_callv, lk, ef, o_mv, o_pick, o_bin, o_eqs, o_eqb, o_un, o_conv, o_load, o_loads, o_fld, o_idx, o_idxs, o_len, o_lens, o_ext, o_nilck, o_slc, o_slcs, o_build, o_minmax, o_mkfn, o_alloc, o_box, o_boxs, o_row, o_rowr, o_mk, o_asg, o_app, o_store, o_stores, hv, eqAV, ev, view, rowOf, cellsOf, argv, vbin, vun, bnd, elemOf, putParts, setAt, zav, ASt.rid, ASt.free, AV.kill, AV.isHome, AV.noLoan, AV.cellOK, Value.oneCell', put_at, mk_at, mk_nil, initSt, true_and, and_true, and_self, implies_true, List.map_cons, List.map_nil, List.forall_mem_cons, List.not_mem_nil, false_implies, List.length_cons, List.length_nil, List.getD_cons_zero, List.getD_cons_succ, List.getD_nil, List.drop_succ_cons, List.drop_zero, List.take_succ_cons, List.take_zero, List.set_cons_zero, List.set_cons_succ, List.all_cons, List.all_nil, Bool.and_true, Bool.true_and, Bool.not_true, Bool.not_false, reduceCtorEq, if_true, if_false, Bool.false_eq_true, ↓reduceIte, Nat.reduceEqDiff, Nat.reduceAdd, Nat.reduceSub, Nat.reduceMul, Nat.reduceLeDiff, Nat.reduceLT, ne_eq, not_false_eq_true, not_true_eq_false, Nat.one_ne_zero, Nat.zero_ne_one, r21_0, r21_1, r21_2, r21_3, r21_4, r21_5, r21_6, r21_7, r21_8, r21_9, r21_10, r21_11, r21_12, r21_13, r21_14, r21_15, r21_16, r21_17, r21_18, r21_19, r21_20, p21, l21_0, getD_map hx, getD_map hy, Rg.av, hrl]) | (exfalso; omega)
        rw [hF, if_neg (by omega)]
        simp [hx, hy]
end Go.Proofs.Ytpkeiabifoipoaa
