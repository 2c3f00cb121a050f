/- CutIndexesMatchSpec: IndexBytes, and ReadIndex for any bytes, are as specified, with the places of errors. For every input; no condition beyond the card's tied tables. -/
import Derived.Test.YtjeemcpdmiajmaaDoorKRefIdxB
import Derived.Test.YtjeemcpdmiajmaaDoorKRefIdxR
import Derived.Test.YtjeemcpdmiajmaaDoorKBytes
import Derived.Test.YtjeemcpdmiajmaaDoorKGrid
import Derived.Test.YtjeemcpdmiajmaaDoorKSegA
import Derived.Test.YtjeemcpdmiajmaaDoorRows
namespace Go.Proofs.YtjeemcpdmiajmaaDoor
open Go.RowKit
set_option linter.unusedSimpArgs false

theorem rdGo_len (b : List Nat) : ∀ (c : Nat) (num beg : Int) (at_ : Nat) (bad : Bool) (out : List Seg), (rdGo b c num beg at_ bad out).1.length ≤ out.length + c
  | 0, _, _, _, _, out => Nat.le_refl _
  | c + 1, num, beg, at_, bad, out => by
    rw [rdGo]
    split
    · simp only; omega
    · refine Nat.le_trans (rdGo_len b c _ _ _ _ _) ?_
      simp only [List.length_append, List.length_cons, List.length_nil]
      omega
theorem rdF_len {b : List Nat} (hb : ∀ x ∈ b, x < 256) : (rdF b).1.length ≤ 65535 := by
  have h := rdGo_len b (rdD b).1.toNat (rdB b).1 (rdC b).1 (rdD b).2.1 (rdD b).2.2 []
  change (rdL b).1.length ≤ _ at h
  have hD := tkN_two hb (rdC b).2.1 (rdC b).2.2
  change 0 ≤ (rdD b).1 ∧ (rdD b).1 ≤ 65535 at hD
  simp only [List.length_nil] at h
  unfold rdF
  split
  · simp
  split
  · simp
  split
  · simp
  split
  · simp
  · simp only; omega
/-! slices.Equal[[]headend/api.Segment,headend/api.Segment] -/
def r9_0 : List POp := [⟨4, .asg (.c (.bool false)), none⟩]
def r9_1 : List POp := [⟨6, .mv (.t 0), none⟩,
  ⟨7, .len (.t 6), none⟩,
  ⟨8, .mv (.t 1), none⟩,
  ⟨9, .len (.t 8), none⟩,
  ⟨10, .bin .neq (.t 7) (.t 9), none⟩]
def r9_2 : List POp := [⟨4, .asg (.c (.bool false)), none⟩]
def r9_3 : List POp := [⟨11, .mv (.t 0), none⟩,
  ⟨12, .len (.t 11), none⟩,
  ⟨13, .mv (.c (.int .i64 0)), none⟩]
def r9_4 : List POp := [⟨14, .bin .lss (.t 13) (.t 12), none⟩]
def r9_5 : List POp := [⟨15, .mv (.t 13), none⟩,
  ⟨5, .asg (.t 15), none⟩]
def r9_6 : List POp := [⟨16, .mv (.t 0), none⟩,
  ⟨17, .mv (.t 5), none⟩,
  ⟨18, .idx 7 (.t 16) (.t 17), none⟩,
  ⟨19, .loads 7 (.t 18), none⟩,
  ⟨20, .mv (.t 1), none⟩,
  ⟨21, .mv (.t 5), none⟩,
  ⟨22, .idx 7 (.t 20) (.t 21), none⟩,
  ⟨23, .loads 7 (.t 22), none⟩,
  ⟨24, .eqs true [0, 0, 0, 0, 0, 0, 0] (.t 19) (.t 23), none⟩]
def r9_7 : List POp := [⟨4, .asg (.c (.bool false)), none⟩]
def r9_8 : List POp := [⟨25, .bin .add (.t 13) (.c (.int .i64 1)), none⟩,
  ⟨13, .mv (.t 25), none⟩]
def r9_9 : List POp := [⟨4, .asg (.c (.bool true)), none⟩]
def l9_0 : PCode := .seq (.ops r9_4) (.seq (.cond (.t 14) (.skip) (.exit 0)) (.seq (.block 1 (.seq (.ops r9_5) (.seq (.ops r9_6) (.cond (.t 24) (.seq (.ops r9_7) (.ret)) (.skip))))) (.ops r9_8)))
def p9 : PCode := .seq (.ops r9_0) (.seq (.seq (.ops r9_1) (.cond (.t 10) (.seq (.ops r9_2) (.ret)) (.skip))) (.seq (.seq (.ops r9_3) (.block 0 (.loop l9_0))) (.seq (.ops r9_9) (.ret))))
theorem ok9 : okFunc Tryd.prog 9 [.t 4] 2 p9 = true := by kernel_rfl
theorem eqsg_c (l : List Seg) (hl : l.length ≤ 1000000000) : CallOK Tryd.prog 9 [.ro (l.map Seg.av), .ro (l.map Seg.av)] (.val (.bool true)) := by
  refine call_of mixed ok9 rfl ?_
  repeat' first | ((with_reducible (first | refine condD ?_ ?_ | refine condE ?_ ?_ | refine condN ?_ ?_ | refine condI ?_ ?_ | refine condS ?_ ?_)) <;> intro h) | ((with_reducible (first | refine guardD (by with_unfolding_all rfl) ?_ ?_ | refine guardE (by with_unfolding_all rfl) ?_ ?_ | refine guardN (by with_unfolding_all rfl) ?_ ?_ | refine guardI (by with_unfolding_all rfl) ?_ ?_ | refine guardS (by with_unfolding_all rfl) ?_ ?_)) <;> intro h) | (with_reducible refine And.intro ?_ ?_; omega) | (simp only [done_eq, done_eq', donet_eq, donet_eq', fin_val, fin_tup, fin_agg, fin_ro, res_one, res_more, rv_t, rv_c, rv_l, AV.tup.injEq, AV.agg.injEq, AV.ro.injEq, List.cons.injEq, int_eq, bool_eq, Int.toNat_natCast, Int.reduceToNat, Int.toNat_zero, Int.toNat_one, Int.reduceLE, Int.reduceLT, Int.reduceBEq, Int.reduceBNe, beq_self_eq_true, bne_self_eq_false, decide_true, decide_false,  Int.reduceNeg, toNat_pred, toNat_succ, List.length_map, cnd_t, cnd_f, grd_tt, grd_u, grd_tf, grd_ft, grd_ff, g_skip, g_ops, g_seq, g_block, g_exit, g_ret, x_c, x_o, x_l, x_b, g_b, g_nil, r_all, o_nil, g_cond, o_guard, o_call, o_callm, o_callt, o_callx, o_callv, lk, ef, o_mv, o_pick, o_bin, o_never, o_eqs, o_eqb, o_un, o_conv, o_load, o_loadr, o_idxr, o_loads, o_fld, o_idx, o_idxs, o_len, o_lens, o_ext, o_nilck, o_slc, o_slcs, o_build, o_minmax, o_mkfn, o_alloc, o_box, o_boxs, o_row, o_rowr, o_mk, o_asg, o_app, o_store, o_stores, o_eqnil, hv, eqAV, ev, view_t, view_c, view_nil, view_fn, look_own, look_box, look_junk, look_val, look_nilsl, look_ro, look_roAt, look_agg, look_tup, look_clo, look_alias, look_ref, look_into, rowOf, cellsOf, argv, vbin, vun, bnd, elemOf, putParts, setAt, zav, ASt.rid, ASt.free, AV.kill, AV.isHome, AV.noLoan, AV.cellOK, Value.oneCell', put_at, mk_at, mk_nil, initSt, true_and, and_true, and_self, implies_true, List.map_cons, List.map_nil, List.forall_mem_cons, List.not_mem_nil, false_implies, List.length_cons, List.length_nil, List.getD_cons_zero, List.getD_cons_succ, List.getD_nil, List.drop_succ_cons, List.drop_zero, List.take_succ_cons, List.take_zero, List.set_cons_zero, List.set_cons_succ, List.all_cons, List.all_nil, Bool.and_true, Bool.true_and, Bool.not_true, Bool.not_false, reduceCtorEq, if_true, if_false, Bool.false_eq_true, ↓reduceIte, Nat.reduceEqDiff, Nat.reduceAdd, Nat.reduceSub, Nat.reduceMul, Nat.reduceLeDiff, Nat.reduceLT, ne_eq, not_false_eq_true, not_true_eq_false, Nat.one_ne_zero, Nat.zero_ne_one, r9_0, r9_1, r9_2, r9_3, r9_4, r9_5, r9_6, r9_7, r9_8, r9_9, p9]) | (exfalso; omega)
  refine loopS (fun k : Nat => mk [(0, .ro (l.map Seg.av)), (1, .ro (l.map Seg.av)), (12, .val (.int .i64 l.length)), (13, .val (.int .i64 k))]) (fun k => k ≤ l.length) (fun k => l.length - k) 0 (weak_mk ?_) (Nat.zero_le _) ?_
  · simp only [wk_cons, wk_nil, wk1, vint_eq, vbool_eq, AV.val.injEq, done_eq, done_eq', donet_eq, donet_eq', fin_val, fin_tup, fin_agg, fin_ro, res_one, res_more, rv_t, rv_c, rv_l, AV.tup.injEq, AV.agg.injEq, AV.ro.injEq, List.cons.injEq, int_eq, bool_eq, Int.toNat_natCast, Int.reduceToNat, Int.toNat_zero, Int.toNat_one, Int.reduceLE, Int.reduceLT, Int.reduceBEq, Int.reduceBNe, beq_self_eq_true, bne_self_eq_false, decide_true, decide_false,  Int.reduceNeg, toNat_pred, toNat_succ, List.length_map, cnd_t, cnd_f, grd_tt, grd_u, grd_tf, grd_ft, grd_ff, g_skip, g_ops, g_seq, g_block, g_exit, g_ret, x_c, x_o, x_l, x_b, g_b, g_nil, r_all, o_nil, g_cond, o_guard, o_call, o_callm, o_callt, o_callx, o_callv, lk, ef, o_mv, o_pick, o_bin, o_never, o_eqs, o_eqb, o_un, o_conv, o_load, o_loadr, o_idxr, o_loads, o_fld, o_idx, o_idxs, o_len, o_lens, o_ext, o_nilck, o_slc, o_slcs, o_build, o_minmax, o_mkfn, o_alloc, o_box, o_boxs, o_row, o_rowr, o_mk, o_asg, o_app, o_store, o_stores, o_eqnil, hv, eqAV, ev, view_t, view_c, view_nil, view_fn, look_own, look_box, look_junk, look_val, look_nilsl, look_ro, look_roAt, look_agg, look_tup, look_clo, look_alias, look_ref, look_into, rowOf, cellsOf, argv, vbin, vun, bnd, elemOf, putParts, setAt, zav, ASt.rid, ASt.free, AV.kill, AV.isHome, AV.noLoan, AV.cellOK, Value.oneCell', put_at, mk_at, mk_nil, initSt, true_and, and_true, and_self, implies_true, List.map_cons, List.map_nil, List.forall_mem_cons, List.not_mem_nil, false_implies, List.length_cons, List.length_nil, List.getD_cons_zero, List.getD_cons_succ, List.getD_nil, List.drop_succ_cons, List.drop_zero, List.take_succ_cons, List.take_zero, List.set_cons_zero, List.set_cons_succ, List.all_cons, List.all_nil, Bool.and_true, Bool.true_and, Bool.not_true, Bool.not_false, reduceCtorEq, if_true, if_false, Bool.false_eq_true, ↓reduceIte, Nat.reduceEqDiff, Nat.reduceAdd, Nat.reduceSub, Nat.reduceMul, Nat.reduceLeDiff, Nat.reduceLT, ne_eq, not_false_eq_true, not_true_eq_false, Nat.one_ne_zero, Nat.zero_ne_one]
    simp
  · rintro J hJ k hk
    simp only [done_eq, done_eq', donet_eq, donet_eq', fin_val, fin_tup, fin_agg, fin_ro, res_one, res_more, rv_t, rv_c, rv_l, AV.tup.injEq, AV.agg.injEq, AV.ro.injEq, List.cons.injEq, int_eq, bool_eq, Int.toNat_natCast, Int.reduceToNat, Int.toNat_zero, Int.toNat_one, Int.reduceLE, Int.reduceLT, Int.reduceBEq, Int.reduceBNe, beq_self_eq_true, bne_self_eq_false, decide_true, decide_false,  Int.reduceNeg, toNat_pred, toNat_succ, List.length_map, cnd_t, cnd_f, grd_tt, grd_u, grd_tf, grd_ft, grd_ff, g_skip, g_ops, g_seq, g_block, g_exit, g_ret, x_c, x_o, x_l, x_b, g_b, g_nil, r_all, o_nil, g_cond, o_guard, o_call, o_callm, o_callt, o_callx, o_callv, lk, ef, o_mv, o_pick, o_bin, o_never, o_eqs, o_eqb, o_un, o_conv, o_load, o_loadr, o_idxr, o_loads, o_fld, o_idx, o_idxs, o_len, o_lens, o_ext, o_nilck, o_slc, o_slcs, o_build, o_minmax, o_mkfn, o_alloc, o_box, o_boxs, o_row, o_rowr, o_mk, o_asg, o_app, o_store, o_stores, o_eqnil, hv, eqAV, ev, view_t, view_c, view_nil, view_fn, look_own, look_box, look_junk, look_val, look_nilsl, look_ro, look_roAt, look_agg, look_tup, look_clo, look_alias, look_ref, look_into, rowOf, cellsOf, argv, vbin, vun, bnd, elemOf, putParts, setAt, zav, ASt.rid, ASt.free, AV.kill, AV.isHome, AV.noLoan, AV.cellOK, Value.oneCell', put_at, mk_at, mk_nil, initSt, true_and, and_true, and_self, implies_true, List.map_cons, List.map_nil, List.forall_mem_cons, List.not_mem_nil, false_implies, List.length_cons, List.length_nil, List.getD_cons_zero, List.getD_cons_succ, List.getD_nil, List.drop_succ_cons, List.drop_zero, List.take_succ_cons, List.take_zero, List.set_cons_zero, List.set_cons_succ, List.all_cons, List.all_nil, Bool.and_true, Bool.true_and, Bool.not_true, Bool.not_false, reduceCtorEq, if_true, if_false, Bool.false_eq_true, ↓reduceIte, Nat.reduceEqDiff, Nat.reduceAdd, Nat.reduceSub, Nat.reduceMul, Nat.reduceLeDiff, Nat.reduceLT, ne_eq, not_false_eq_true, not_true_eq_false, Nat.one_ne_zero, Nat.zero_ne_one, r9_0, r9_1, r9_2, r9_3, r9_4, r9_5, r9_6, r9_7, r9_8, r9_9, p9, l9_0]
    refine condD (fun h => ?_) (fun h => ?_)
    · have hlt : k < l.length := by omega
      have hw := i_add1 k (by omega)
      repeat' first | ((with_reducible (first | refine condD ?_ ?_ | refine condE ?_ ?_ | refine condN ?_ ?_ | refine condI ?_ ?_ | refine condS ?_ ?_)) <;> intro h) | ((with_reducible (first | refine guardD (by with_unfolding_all rfl) ?_ ?_ | refine guardE (by with_unfolding_all rfl) ?_ ?_ | refine guardN (by with_unfolding_all rfl) ?_ ?_ | refine guardI (by with_unfolding_all rfl) ?_ ?_ | refine guardS (by with_unfolding_all rfl) ?_ ?_)) <;> intro h) | (with_reducible refine And.intro ?_ ?_; omega) | (simp only [done_eq, done_eq', donet_eq, donet_eq', fin_val, fin_tup, fin_agg, fin_ro, res_one, res_more, rv_t, rv_c, rv_l, AV.tup.injEq, AV.agg.injEq, AV.ro.injEq, List.cons.injEq, int_eq, bool_eq, Int.toNat_natCast, Int.reduceToNat, Int.toNat_zero, Int.toNat_one, Int.reduceLE, Int.reduceLT, Int.reduceBEq, Int.reduceBNe, beq_self_eq_true, bne_self_eq_false, decide_true, decide_false,  Int.reduceNeg, toNat_pred, toNat_succ, List.length_map, cnd_t, cnd_f, grd_tt, grd_u, grd_tf, grd_ft, grd_ff, g_skip, g_ops, g_seq, g_block, g_exit, g_ret, x_c, x_o, x_l, x_b, g_b, g_nil, r_all, o_nil, g_cond, o_guard, o_call, o_callm, o_callt, o_callx, o_callv, lk, ef, o_mv, o_pick, o_bin, o_never, o_eqs, o_eqb, o_un, o_conv, o_load, o_loadr, o_idxr, o_loads, o_fld, o_idx, o_idxs, o_len, o_lens, o_ext, o_nilck, o_slc, o_slcs, o_build, o_minmax, o_mkfn, o_alloc, o_box, o_boxs, o_row, o_rowr, o_mk, o_asg, o_app, o_store, o_stores, o_eqnil, hv, eqAV, ev, view_t, view_c, view_nil, view_fn, look_own, look_box, look_junk, look_val, look_nilsl, look_ro, look_roAt, look_agg, look_tup, look_clo, look_alias, look_ref, look_into, rowOf, cellsOf, argv, vbin, vun, bnd, elemOf, putParts, setAt, zav, ASt.rid, ASt.free, AV.kill, AV.isHome, AV.noLoan, AV.cellOK, Value.oneCell', put_at, mk_at, mk_nil, initSt, true_and, and_true, and_self, implies_true, List.map_cons, List.map_nil, List.forall_mem_cons, List.not_mem_nil, false_implies, List.length_cons, List.length_nil, List.getD_cons_zero, List.getD_cons_succ, List.getD_nil, List.drop_succ_cons, List.drop_zero, List.take_succ_cons, List.take_zero, List.set_cons_zero, List.set_cons_succ, List.all_cons, List.all_nil, Bool.and_true, Bool.true_and, Bool.not_true, Bool.not_false, reduceCtorEq, if_true, if_false, Bool.false_eq_true, ↓reduceIte, Nat.reduceEqDiff, Nat.reduceAdd, Nat.reduceSub, Nat.reduceMul, Nat.reduceLeDiff, Nat.reduceLT, ne_eq, not_false_eq_true, not_true_eq_false, Nat.one_ne_zero, Nat.zero_ne_one, r9_0, r9_1, r9_2, r9_3, r9_4, r9_5, r9_6, r9_7, r9_8, r9_9, p9, l9_0, Seg.av, getD_map hlt]) | (exfalso; omega)
      exact again hJ (k + 1) (weak_mk (by simp only [wk_cons, wk_nil, wk1, vint_eq, vbool_eq, AV.val.injEq, done_eq, done_eq', donet_eq, donet_eq', fin_val, fin_tup, fin_agg, fin_ro, res_one, res_more, rv_t, rv_c, rv_l, AV.tup.injEq, AV.agg.injEq, AV.ro.injEq, List.cons.injEq, int_eq, bool_eq, Int.toNat_natCast, Int.reduceToNat, Int.toNat_zero, Int.toNat_one, Int.reduceLE, Int.reduceLT, Int.reduceBEq, Int.reduceBNe, beq_self_eq_true, bne_self_eq_false, decide_true, decide_false,  Int.reduceNeg, toNat_pred, toNat_succ, List.length_map, cnd_t, cnd_f, grd_tt, grd_u, grd_tf, grd_ft, grd_ff, g_skip, g_ops, g_seq, g_block, g_exit, g_ret, x_c, x_o, x_l, x_b, g_b, g_nil, r_all, o_nil, g_cond, o_guard, o_call, o_callm, o_callt, o_callx, o_callv, lk, ef, o_mv, o_pick, o_bin, o_never, o_eqs, o_eqb, o_un, o_conv, o_load, o_loadr, o_idxr, o_loads, o_fld, o_idx, o_idxs, o_len, o_lens, o_ext, o_nilck, o_slc, o_slcs, o_build, o_minmax, o_mkfn, o_alloc, o_box, o_boxs, o_row, o_rowr, o_mk, o_asg, o_app, o_store, o_stores, o_eqnil, hv, eqAV, ev, view_t, view_c, view_nil, view_fn, look_own, look_box, look_junk, look_val, look_nilsl, look_ro, look_roAt, look_agg, look_tup, look_clo, look_alias, look_ref, look_into, rowOf, cellsOf, argv, vbin, vun, bnd, elemOf, putParts, setAt, zav, ASt.rid, ASt.free, AV.kill, AV.isHome, AV.noLoan, AV.cellOK, Value.oneCell', put_at, mk_at, mk_nil, initSt, true_and, and_true, and_self, implies_true, List.map_cons, List.map_nil, List.forall_mem_cons, List.not_mem_nil, false_implies, List.length_cons, List.length_nil, List.getD_cons_zero, List.getD_cons_succ, List.getD_nil, List.drop_succ_cons, List.drop_zero, List.take_succ_cons, List.take_zero, List.set_cons_zero, List.set_cons_succ, List.all_cons, List.all_nil, Bool.and_true, Bool.true_and, Bool.not_true, Bool.not_false, reduceCtorEq, if_true, if_false, Bool.false_eq_true, ↓reduceIte, Nat.reduceEqDiff, Nat.reduceAdd, Nat.reduceSub, Nat.reduceMul, Nat.reduceLeDiff, Nat.reduceLT, ne_eq, not_false_eq_true, not_true_eq_false, Nat.one_ne_zero, Nat.zero_ne_one]; exact hw)) (by omega) (by omega)
    · repeat' first | ((with_reducible (first | refine condD ?_ ?_ | refine condE ?_ ?_ | refine condN ?_ ?_ | refine condI ?_ ?_ | refine condS ?_ ?_)) <;> intro h) | ((with_reducible (first | refine guardD (by with_unfolding_all rfl) ?_ ?_ | refine guardE (by with_unfolding_all rfl) ?_ ?_ | refine guardN (by with_unfolding_all rfl) ?_ ?_ | refine guardI (by with_unfolding_all rfl) ?_ ?_ | refine guardS (by with_unfolding_all rfl) ?_ ?_)) <;> intro h) | (with_reducible refine And.intro ?_ ?_; omega) | (simp only [done_eq, done_eq', donet_eq, donet_eq', fin_val, fin_tup, fin_agg, fin_ro, res_one, res_more, rv_t, rv_c, rv_l, AV.tup.injEq, AV.agg.injEq, AV.ro.injEq, List.cons.injEq, int_eq, bool_eq, Int.toNat_natCast, Int.reduceToNat, Int.toNat_zero, Int.toNat_one, Int.reduceLE, Int.reduceLT, Int.reduceBEq, Int.reduceBNe, beq_self_eq_true, bne_self_eq_false, decide_true, decide_false,  Int.reduceNeg, toNat_pred, toNat_succ, List.length_map, cnd_t, cnd_f, grd_tt, grd_u, grd_tf, grd_ft, grd_ff, g_skip, g_ops, g_seq, g_block, g_exit, g_ret, x_c, x_o, x_l, x_b, g_b, g_nil, r_all, o_nil, g_cond, o_guard, o_call, o_callm, o_callt, o_callx, o_callv, lk, ef, o_mv, o_pick, o_bin, o_never, o_eqs, o_eqb, o_un, o_conv, o_load, o_loadr, o_idxr, o_loads, o_fld, o_idx, o_idxs, o_len, o_lens, o_ext, o_nilck, o_slc, o_slcs, o_build, o_minmax, o_mkfn, o_alloc, o_box, o_boxs, o_row, o_rowr, o_mk, o_asg, o_app, o_store, o_stores, o_eqnil, hv, eqAV, ev, view_t, view_c, view_nil, view_fn, look_own, look_box, look_junk, look_val, look_nilsl, look_ro, look_roAt, look_agg, look_tup, look_clo, look_alias, look_ref, look_into, rowOf, cellsOf, argv, vbin, vun, bnd, elemOf, putParts, setAt, zav, ASt.rid, ASt.free, AV.kill, AV.isHome, AV.noLoan, AV.cellOK, Value.oneCell', put_at, mk_at, mk_nil, initSt, true_and, and_true, and_self, implies_true, List.map_cons, List.map_nil, List.forall_mem_cons, List.not_mem_nil, false_implies, List.length_cons, List.length_nil, List.getD_cons_zero, List.getD_cons_succ, List.getD_nil, List.drop_succ_cons, List.drop_zero, List.take_succ_cons, List.take_zero, List.set_cons_zero, List.set_cons_succ, List.all_cons, List.all_nil, Bool.and_true, Bool.true_and, Bool.not_true, Bool.not_false, reduceCtorEq, if_true, if_false, Bool.false_eq_true, ↓reduceIte, Nat.reduceEqDiff, Nat.reduceAdd, Nat.reduceSub, Nat.reduceMul, Nat.reduceLeDiff, Nat.reduceLT, ne_eq, not_false_eq_true, not_true_eq_false, Nat.one_ne_zero, Nat.zero_ne_one, r9_0, r9_1, r9_2, r9_3, r9_4, r9_5, r9_6, r9_7, r9_8, r9_9, p9, l9_0]) | (exfalso; omega)
/-! headend/headendlaw4.CutIndexesMatchSpec -/
def r3_0 : List POp := [⟨6, .asg (.c (.bool false)), none⟩]
def r3_1 : List POp := [⟨18, .mv (.t 0), none⟩,
  ⟨19, .mv (.t 1), none⟩,
  ⟨20, .call 4 [.t 18, .t 19], none⟩,
  ⟨17, .mv (.t 20), none⟩,
  ⟨21, .ext 0 (.t 17), none⟩,
  ⟨22, .ext 1 (.t 17), none⟩,
  ⟨7, .asg (.t 21), none⟩,
  ⟨8, .mv (.t 22), none⟩]
def r3_2 : List POp := [⟨24, .mv (.t 0), none⟩,
  ⟨25, .mv (.t 1), none⟩,
  ⟨26, .call 5 [.t 24, .t 25], none⟩,
  ⟨23, .mv (.t 26), none⟩,
  ⟨27, .ext 0 (.t 23), none⟩,
  ⟨28, .ext 1 (.t 23), none⟩,
  ⟨9, .asg (.t 27), none⟩,
  ⟨10, .mv (.t 28), none⟩]
def r3_3 : List POp := [⟨29, .mv (.t 7), none⟩,
  ⟨30, .mv (.t 9), none⟩,
  ⟨31, .call 6 [.t 29, .t 30], none⟩,
  ⟨32, .un .not (.t 31), none⟩,
  ⟨33, .mv (.t 32), none⟩,
  ⟨34, .mv (.t 8), some (33, false)⟩,
  ⟨35, .mv (.t 10), some (33, false)⟩,
  ⟨36, .bin .neq (.t 34) (.t 35), some (33, false)⟩,
  ⟨37, .pick (.t 33) (.c (.bool true)) (.t 36), none⟩]
def r3_4 : List POp := [⟨6, .asg (.c (.bool false)), none⟩]
def r3_5 : List POp := [⟨39, .mv (.t 2), none⟩,
  ⟨40, .call 7 [.t 39], none⟩,
  ⟨38, .mv (.t 40), none⟩,
  ⟨41, .ext 0 (.t 38), none⟩,
  ⟨42, .ext 1 (.t 38), none⟩,
  ⟨43, .ext 2 (.t 38), none⟩,
  ⟨44, .ext 3 (.t 38), none⟩,
  ⟨11, .asg (.t 41), none⟩,
  ⟨12, .mv (.t 42), none⟩,
  ⟨13, .mv (.t 43), none⟩,
  ⟨8, .mv (.t 44), none⟩]
def r3_6 : List POp := [⟨46, .mv (.t 2), none⟩,
  ⟨47, .call 8 [.t 46], none⟩,
  ⟨45, .mv (.t 47), none⟩,
  ⟨48, .ext 0 (.t 45), none⟩,
  ⟨49, .ext 1 (.t 45), none⟩,
  ⟨50, .ext 2 (.t 45), none⟩,
  ⟨51, .ext 3 (.t 45), none⟩,
  ⟨14, .asg (.t 48), none⟩,
  ⟨15, .mv (.t 49), none⟩,
  ⟨16, .mv (.t 50), none⟩,
  ⟨10, .mv (.t 51), none⟩]
def r3_7 : List POp := [⟨52, .mv (.t 11), none⟩,
  ⟨53, .mv (.t 14), none⟩,
  ⟨54, .call 9 [.t 52, .t 53], none⟩,
  ⟨55, .mv (.t 54), none⟩,
  ⟨56, .mv (.t 12), some (55, true)⟩,
  ⟨57, .mv (.t 15), some (55, true)⟩,
  ⟨58, .bin .eql (.t 56) (.t 57), some (55, true)⟩,
  ⟨59, .pick (.t 55) (.t 58) (.c (.bool false)), none⟩,
  ⟨60, .mv (.t 59), none⟩,
  ⟨61, .mv (.t 13), some (60, true)⟩,
  ⟨62, .mv (.t 16), some (60, true)⟩,
  ⟨63, .bin .eql (.t 61) (.t 62), some (60, true)⟩,
  ⟨64, .pick (.t 60) (.t 63) (.c (.bool false)), none⟩,
  ⟨65, .mv (.t 64), none⟩,
  ⟨66, .mv (.t 8), some (65, true)⟩,
  ⟨67, .mv (.t 10), some (65, true)⟩,
  ⟨68, .bin .eql (.t 66) (.t 67), some (65, true)⟩,
  ⟨69, .pick (.t 65) (.t 68) (.c (.bool false)), none⟩,
  ⟨70, .mv (.t 69), none⟩,
  ⟨71, .call 10 [], some (70, true)⟩,
  ⟨72, .pick (.t 70) (.t 71) (.c (.bool false)), none⟩,
  ⟨6, .asg (.t 72), none⟩]
def p3 : PCode := .seq (.ops r3_0) (.seq (.ops r3_1) (.seq (.ops r3_2) (.seq (.seq (.ops r3_3) (.cond (.t 37) (.seq (.ops r3_4) (.ret)) (.skip))) (.seq (.ops r3_5) (.seq (.ops r3_6) (.seq (.ops r3_7) (.ret)))))))
theorem ok3 : okFunc Tryd.prog 3 [.t 6] 3 p3 = true := by kernel_rfl
set_option maxRecDepth 20000 in
set_option maxHeartbeats 2000000 in
theorem idxspec_d (l : List Seg) (scale : Int) (b : List Nat) (hl : l.length ≤ 9223372036854775807) (hI : ∀ s ∈ l, SegI s) (hbl : b.length ≤ 9223372036854775807) (hb : ∀ x ∈ b, x < 256) : CallOK Tryd.prog 3 [.ro (l.map Seg.av), .val (.int .i64 scale), .ro (b.map oneU)] (.val (.bool true)) := by
  refine call_of mixed ok3 rfl ?_
  have k1 := idx_c l scale hl hI
  have k2 := ridx_c l scale hl hI
  have k3 := eqb_c (idxF l scale).1
  have k4 := read_c b hb hbl
  have k5 := rread_x b hb hbl
  have k6 := eqsg_c (rdF b).1 (Nat.le_trans (rdF_len hb) (by decide))
  have n : ∀ x : Int, (x != x) = false := fun x => by simp
  have e : ∀ x : Int, (x == x) = true := fun x => by simp
  generalize idxF l scale = X at *
  generalize rdF b = Y at *
  obtain ⟨X1, X2⟩ := X
  obtain ⟨Y1, Y2, Y3, Y4⟩ := Y
  simp only at k1 k2 k3 k4 k5 k6
  repeat' first | ((with_reducible (first | refine condD ?_ ?_ | refine condE ?_ ?_ | refine condN ?_ ?_ | refine condI ?_ ?_ | refine condS ?_ ?_)) <;> intro h) | ((with_reducible (first | refine guardD (by with_unfolding_all rfl) ?_ ?_ | refine guardE (by with_unfolding_all rfl) ?_ ?_ | refine guardN (by with_unfolding_all rfl) ?_ ?_ | refine guardI (by with_unfolding_all rfl) ?_ ?_ | refine guardS (by with_unfolding_all rfl) ?_ ?_)) <;> intro h) | ((refine callG k1 ?_)) | ((refine callG k2 ?_)) | ((refine callG k3 ?_)) | ((refine callG k4 ?_)) | ((refine callG k5 ?_)) | ((refine callG k6 ?_)) | ((refine callG awake_c ?_)) | (with_reducible refine And.intro ?_ ?_; omega) | (simp only [done_eq, done_eq', donet_eq, donet_eq', fin_val, fin_tup, fin_agg, fin_ro, res_one, res_more, rv_t, rv_c, rv_l, AV.tup.injEq, AV.agg.injEq, AV.ro.injEq, List.cons.injEq, int_eq, bool_eq, Int.toNat_natCast, Int.reduceToNat, Int.toNat_zero, Int.toNat_one, Int.reduceLE, Int.reduceLT, Int.reduceBEq, Int.reduceBNe, beq_self_eq_true, bne_self_eq_false, decide_true, decide_false,  Int.reduceNeg, toNat_pred, toNat_succ, List.length_map, cnd_t, cnd_f, grd_tt, grd_u, grd_tf, grd_ft, grd_ff, g_skip, g_ops, g_seq, g_block, g_exit, g_ret, x_c, x_o, x_l, x_b, g_b, g_nil, r_all, o_nil, g_cond, o_guard, o_call, o_callm, o_callt, o_callx, o_callv, lk, ef, o_mv, o_pick, o_bin, o_never, o_eqs, o_eqb, o_un, o_conv, o_load, o_loadr, o_idxr, o_loads, o_fld, o_idx, o_idxs, o_len, o_lens, o_ext, o_nilck, o_slc, o_slcs, o_build, o_minmax, o_mkfn, o_alloc, o_box, o_boxs, o_row, o_rowr, o_mk, o_asg, o_app, o_store, o_stores, o_eqnil, hv, eqAV, ev, view_t, view_c, view_nil, view_fn, look_own, look_box, look_junk, look_val, look_nilsl, look_ro, look_roAt, look_agg, look_tup, look_clo, look_alias, look_ref, look_into, rowOf, cellsOf, argv, vbin, vun, bnd, elemOf, putParts, setAt, zav, ASt.rid, ASt.free, AV.kill, AV.isHome, AV.noLoan, AV.cellOK, Value.oneCell', put_at, mk_at, mk_nil, initSt, true_and, and_true, and_self, implies_true, List.map_cons, List.map_nil, List.forall_mem_cons, List.not_mem_nil, false_implies, List.length_cons, List.length_nil, List.getD_cons_zero, List.getD_cons_succ, List.getD_nil, List.drop_succ_cons, List.drop_zero, List.take_succ_cons, List.take_zero, List.set_cons_zero, List.set_cons_succ, List.all_cons, List.all_nil, Bool.and_true, Bool.true_and, Bool.not_true, Bool.not_false, reduceCtorEq, if_true, if_false, Bool.false_eq_true, ↓reduceIte, Nat.reduceEqDiff, Nat.reduceAdd, Nat.reduceSub, Nat.reduceMul, Nat.reduceLeDiff, Nat.reduceLT, ne_eq, not_false_eq_true, not_true_eq_false, Nat.one_ne_zero, Nat.zero_ne_one, r3_0, r3_1, r3_2, r3_3, r3_4, r3_5, r3_6, r3_7, p3, n, e]) | (exfalso; omega)
theorem idxspec_c : ∀ avs, HasArgs [.one (.row [.int .i64, .int .i64, .int .i64, .int .i64, .int .i64, .int .i64, .int .i64]), .one (.int .i64), .one (.row [.int .u8])] avs → CallOK Tryd.prog 3 avs (.val (.bool true)) := by
  intro avs h
  obtain ⟨v0, r, rfl, h0, h⟩ := args_cons h
  obtain ⟨v1, r, rfl, h1, h⟩ := args_cons h
  obtain ⟨v2, r, rfl, h2, h⟩ := args_cons h
  obtain rfl := args_nil h
  obtain ⟨n0, rfl, hl0, hb0⟩ := has_row h0 all_seg
  obtain ⟨n1, rfl, hb1⟩ := has_int h1
  obtain ⟨n2, rfl, hl2, hb2⟩ := has_row h2 all_u8
  exact idxspec_d n0 n1 n2 (by unfold maxLen at hl0; omega) (fun s hs => ⟨(hb0 s hs).2.2.2.1, (hb0 s hs).2.2.2.2.2.2⟩) (by unfold maxLen at hl2; omega) hb2

/-! ### The row -/
open Go.ChangeShapes Go.WideShapes Go.ChangeAt

set_option maxRecDepth 100000 in
theorem idxspec_door (os : Os) (args : Array Value) : laidMetH Tryd.prog Rows.cutIndexesMatchSpecRow.laid ((World.doorLaid Tryd.prog 400 os).forCall (fun _ _ => 0) ⟨#[], args, []⟩).memory :=
  laidMetH_of_parts3 (fuel := 8) (laidMet_of_run' 8 (by kernel_rfl) (by kernel_rfl)) (by kernel_rfl) (by kernel_rfl)
set_option maxRecDepth 100000 in
theorem idxspec_lifted (os : Os) (started : os.Started) (H : Type) (enc : TypeId × Value → H) :
    ReturnsInHanded {} Tryd.checked os 3 .any (fun w args => (Rows.cutIndexesMatchSpecSpec.pre enc Tryd.prog Tryd.f3 [] false w args ∧ laidMetH Tryd.prog Rows.cutIndexesMatchSpecRow.laid w) ∧ sizedMet enc Tryd.prog Tryd.f3 (OpenSpec.ofChange Rows.cutIndexesMatchSpecSpec) false w args) (Rows.cutIndexesMatchSpecSpec.post enc Tryd.prog Tryd.f3 false true false false) := by
  refine returnsInHanded_of_change_and (C := Tryd.checked) (X := fun w _ => laidMetH Tryd.prog Rows.cutIndexesMatchSpecRow.laid w) (fun _ _ _ hh h => h.of_heap hh) own_knob started (by kernel_rfl) Tryd.func3
    (ChangeSpec.witness_shaped (enc := enc) (C := Tryd.checked) (os := os) (X := fun w _ => laidMetH Tryd.prog Rows.cutIndexesMatchSpecRow.laid w) false (World.doorLaid Tryd.prog 400 os) #[.slice none 0 0, .int .i64 0, .slice none 0 0] 8 rfl (World.shaped_of_RefB (by kernel_rfl) (by kernel_rfl)) (by kernel_rfl) (by kernel_rfl) (by kernel_rfl) (idxspec_door os _)) ?_
  intro W base args ds gs before hval hW _ _ hL _
  refine law_step rfl (by kernel_rfl) (fun ds h => ?_) ?_ hval hW ?_
  · match ds, h with | [a, b, c], _ => exact ⟨rfl, rfl, rfl⟩
  · rw [Tryd.params3]
    intro t ht
    simp only [List.mem_cons, List.not_mem_nil, or_false] at ht
    repeat' (first | (rcases ht with rfl | ht) | subst ht)
    all_goals exact ⟨by kernel_rfl, of_decide_eq_true (by kernel_rfl)⟩
  · rw [Tryd.params3]
    intro hin
    exact law_dmT (ss := [.one (.row [.int .i64, .int .i64, .int .i64, .int .i64, .int .i64, .int .i64, .int .i64]), .one (.int .i64), .one (.row [.int .u8])]) (by kernel_rfl) hin (tab_of_laid 2 (by kernel_rfl) (by kernel_rfl) hL) idxspec_c
theorem idxspec_row : Rows.CutIndexesMatchSpecSaid :=
  OpenClaim.holds_of_wide 3 Tryd.f3 rfl rfl rfl rfl rfl rfl rfl ⟨rfl, rfl, rfl, rfl, rfl⟩ rfl rfl rfl rfl rfl (by kernel_rfl) Tryd.func3 (by kernel_rfl)
    (of_decide_eq_true (by kernel_rfl)) (by unfold Func.isWrapper; first | (rw [if_pos (by decide +kernel)]; kernel_rfl) | (rw [if_neg (by decide +kernel)]; exact ⟨rfl, rfl⟩))
    (fun os started H enc _ => idxspec_lifted os started H enc)

/-- The card: what the row lists is tied to the program's text. -/
theorem idxspec_holds : Rows.CutIndexesMatchSpecCardSaid :=
  Claim7.holds_tied_plain_at .later [] [.data, .data, .data, .sentinel, .sentinel] true (true, "881864e5cd12b15dfe89351209ccb6aa453c3ac00fa5a9e5479f58f216929b0e") true
    idxspec_row (fun _ h => by cases h) (by kernel_rfl) (fun _ h => by cases h) cutIndexesMatchSpec_row_tie rfl ⟨rfl, rfl⟩ (by kernel_rfl) rfl
    (fun f fn hf hfn => by
      obtain rfl : f = 3 := Option.some.inj ((show Tryd.prog.funcNamed "headend/headendlaw4.CutIndexesMatchSpec" = some 3 by kernel_rfl).symm.trans hf) |>.symm
      obtain rfl : fn = Tryd.f3 := (Option.some.inj (Tryd.func3.symm.trans hfn)).symm
      exact ⟨by kernel_rfl, fun j t ht => by
        rw [Tryd.params3] at ht
        have hm := Array.mem_of_getElem? ht
        have hall : ([22, 3, 23].all fun u => !Tryd.prog.wantsStandIn u) = true := by kernel_rfl
        have hm : t ∈ [22, 3, 23] := by simpa using hm
        exact (show Tryd.prog.wantsStandIn t = false by simpa using List.all_eq_true.1 hall t hm)⟩)
    (by kernel_rfl)

end Go.Proofs.YtjeemcpdmiajmaaDoor
