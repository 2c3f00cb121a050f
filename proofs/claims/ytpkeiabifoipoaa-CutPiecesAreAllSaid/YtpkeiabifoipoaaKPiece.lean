/- Parts of a segment: cut.strandFault, Pieces, by the machine on data. -/
import Derived.Test.YtpkeiabifoipoaaKSmp
import Derived.Test.YtpkeiabifoipoaaKSeg
namespace Go.Proofs.Ytpkeiabifoipoaa
open Go.RowKit
set_option linter.unusedSimpArgs false

structure Str where
  name : ByteArray
  scale : Int
  sound : Bool
  smps : List Smp
def Str.av (r : Str) : List AV := [.val (.string r.name), .val (.int .i64 r.scale), .val (.bool r.sound), .ro (r.smps.map Smp.av)]

/-! headend/cut.strandFault -/
def r36_0 : List POp := [⟨2, .boxs (.t 0), none⟩,
  ⟨4, .asg (.c (.int .i64 0)), none⟩]
def r36_1 : List POp := [⟨8, .fld 0 (.t 2), none⟩,
  ⟨9, .load (.t 8), none⟩,
  ⟨10, .call 54 [.t 9], none⟩,
  ⟨11, .un .not (.t 10), none⟩]
def r36_2 : List POp := [⟨4, .asg (.c (.int .i64 5)), none⟩]
def r36_3 : List POp := [⟨12, .mv (.t 1), none⟩,
  ⟨13, .len (.t 12), none⟩,
  ⟨14, .mv (.c (.int .i64 0)), none⟩]
def r36_4 : List POp := [⟨15, .bin .lss (.t 14) (.t 13), none⟩]
def r36_5 : List POp := [⟨16, .idx 4 (.t 12) (.t 14), none⟩,
  ⟨17, .loads 4 (.t 16), none⟩,
  ⟨6, .alloc [.string ⟨#[]⟩, .int .i64 0, .bool false, .slice none 0 0], none⟩,
  ⟨0, .stores 4 (.t 6) (.t 17), none⟩]
def r36_6 : List POp := [⟨18, .fld 0 (.t 6), none⟩,
  ⟨19, .load (.t 18), none⟩,
  ⟨20, .fld 0 (.t 2), none⟩,
  ⟨21, .load (.t 20), none⟩,
  ⟨22, .bin .eql (.t 19) (.t 21), none⟩]
def r36_7 : List POp := [⟨4, .asg (.c (.int .i64 7)), none⟩]
def r36_8 : List POp := [⟨23, .bin .add (.t 14) (.c (.int .i64 1)), none⟩,
  ⟨14, .mv (.t 23), none⟩]
def r36_9 : List POp := [⟨24, .fld 1 (.t 2), none⟩,
  ⟨25, .load (.t 24), none⟩,
  ⟨26, .call 44 [.t 25], none⟩]
def r36_10 : List POp := [⟨4, .asg (.c (.int .i64 1)), none⟩]
def r36_11 : List POp := [⟨27, .fld 3 (.t 2), none⟩,
  ⟨28, .load (.t 27), none⟩,
  ⟨29, .call 55 [.t 28], none⟩,
  ⟨7, .asg (.t 29), none⟩]
def r36_12 : List POp := [⟨30, .mv (.t 7), none⟩,
  ⟨31, .bin .neq (.t 30) (.c (.int .i64 0)), none⟩]
def r36_13 : List POp := [⟨32, .mv (.t 7), none⟩,
  ⟨4, .asg (.t 32), none⟩]
def r36_14 : List POp := [⟨33, .fld 3 (.t 2), none⟩,
  ⟨34, .load (.t 33), none⟩,
  ⟨35, .len (.t 34), none⟩,
  ⟨36, .bin .eql (.t 35) (.c (.int .i64 0)), none⟩]
def r36_15 : List POp := [⟨4, .asg (.c (.int .i64 9)), none⟩]
def r36_16 : List POp := [⟨4, .asg (.c (.int .i64 0)), none⟩]
def l36_0 : PCode := .seq (.ops r36_4) (.seq (.cond (.t 15) (.skip) (.exit 0)) (.seq (.block 1 (.seq (.ops r36_5) (.seq (.ops r36_6) (.cond (.t 22) (.seq (.ops r36_7) (.ret)) (.skip))))) (.ops r36_8)))
def p36 : PCode := .seq (.ops r36_0) (.seq (.seq (.ops r36_1) (.cond (.t 11) (.seq (.ops r36_2) (.ret)) (.skip))) (.seq (.seq (.ops r36_3) (.block 0 (.loop l36_0))) (.seq (.seq (.ops r36_9) (.cond (.t 26) (.seq (.ops r36_10) (.ret)) (.skip))) (.seq (.seq (.ops r36_11) (.seq (.ops r36_12) (.cond (.t 31) (.seq (.ops r36_13) (.ret)) (.skip)))) (.seq (.seq (.ops r36_14) (.cond (.t 36) (.seq (.ops r36_15) (.ret)) (.skip))) (.seq (.ops r36_16) (.ret)))))))
theorem ok36 : okFunc Try.prog 36 [.t 4] 2 p36 = true := by kernel_rfl
def named (n : ByteArray) : List Str → Bool
  | [] => false
  | o :: r => (o.name.toList == n.toList) || named n r
def strF2 (r : Str) : Int := if noScale r.scale then 1 else if smpF r.smps ≠ 0 then smpF r.smps else if (r.smps.length : Int) = 0 then 9 else 0
def strF (r : Str) (e : List Str) : Int := if isNameB r.name = false then 5 else if named r.name e then 7 else strF2 r
theorem strand_c (r : Str) (e : List Str) (he : e.length ≤ 1000000000) : CallOK Try.prog 36 [.agg r.av, .ro (e.map Str.av)] (.val (.int .i64 (strF r e))) := by
  refine call_of mixed ok36 rfl ?_
  repeat' first | (with_reducible refine condD (fun h => ?_) (fun h => ?_)) | (with_reducible refine condE (fun h => ?_) (fun h => ?_)) | (with_reducible refine condN (fun h => ?_) (fun h => ?_)) | (with_reducible refine condI (fun h => ?_) (fun h => ?_)) | (with_reducible refine condS (fun h => ?_) (fun h => ?_)) | (with_reducible refine guardD (by with_unfolding_all rfl) (fun h => ?_) (fun h => ?_)) | (with_reducible refine guardE (by with_unfolding_all rfl) (fun h => ?_) (fun h => ?_)) | (with_reducible refine guardN (by with_unfolding_all rfl) (fun h => ?_) (fun h => ?_)) | (with_reducible refine guardI (by with_unfolding_all rfl) (fun h => ?_) (fun h => ?_)) | (with_reducible refine guardS (by with_unfolding_all rfl) (fun h => ?_) (fun h => ?_)) | ((refine callG (name_c _) ?_)) | (with_reducible refine And.intro ?_ ?_; omega) | (simp only [done_eq, done_eq', fin_val, fin_tup, fin_agg, fin_ro, res_one, res_more, rv_t, rv_c, rv_l, AV.tup.injEq, AV.agg.injEq, AV.ro.injEq, List.cons.injEq, int_eq, bool_eq, Int.toNat_natCast, Int.reduceToNat, Int.toNat_zero, Int.toNat_one, Int.reduceLE, Int.reduceLT, Int.reduceBEq, Int.reduceBNe, beq_self_eq_true, bne_self_eq_false, decide_true, decide_false,  Int.reduceNeg, toNat_pred, toNat_succ, List.length_map, cnd_t, cnd_f, grd_tt, grd_u, grd_tf, grd_ft, grd_ff, g_skip, g_ops, g_seq, g_block, g_exit, g_ret, x_c, x_o, x_l, x_b, g_b, g_nil, r_all, o_nil, g_cond, o_guard, o_call, o_callv, lk, ef, o_mv, o_pick, o_bin, o_eqs, o_eqb, o_un, o_conv, o_load, o_loads, o_fld, o_idx, o_idxs, o_len, o_lens, o_ext, o_nilck, o_slc, o_slcs, o_build, o_minmax, o_mkfn, o_alloc, o_box, o_boxs, o_row, o_rowr, o_mk, o_asg, o_app, o_store, o_stores, hv, eqAV, ev, view, rowOf, cellsOf, argv, vbin, vun, bnd, elemOf, putParts, setAt, zav, ASt.rid, ASt.free, AV.kill, AV.isHome, AV.noLoan, AV.cellOK, Value.oneCell', put_at, mk_at, mk_nil, initSt, true_and, and_true, and_self, implies_true, List.map_cons, List.map_nil, List.forall_mem_cons, List.not_mem_nil, false_implies, List.length_cons, List.length_nil, List.getD_cons_zero, List.getD_cons_succ, List.getD_nil, List.drop_succ_cons, List.drop_zero, List.take_succ_cons, List.take_zero, List.set_cons_zero, List.set_cons_succ, List.all_cons, List.all_nil, Bool.and_true, Bool.true_and, Bool.not_true, Bool.not_false, reduceCtorEq, if_true, if_false, Bool.false_eq_true, ↓reduceIte, Nat.reduceEqDiff, Nat.reduceAdd, Nat.reduceSub, Nat.reduceMul, Nat.reduceLeDiff, Nat.reduceLT, ne_eq, not_false_eq_true, not_true_eq_false, Nat.one_ne_zero, Nat.zero_ne_one, r36_0, r36_1, r36_2, r36_3, r36_4, r36_5, r36_6, r36_7, r36_8, r36_9, r36_10, r36_11, r36_12, r36_13, r36_14, r36_15, r36_16, p36, Str.av]) | (exfalso; omega)
  · rw [strF, if_pos h]
  · have hn := h
    refine loopS (fun k : Nat => mk [(2, .box r.av), (12, .ro (e.map Str.av)), (13, .val (.int .i64 e.length)), (14, .val (.int .i64 k))]) (fun k => k ≤ e.length ∧ named r.name e = named r.name (e.drop k)) (fun k => e.length - k) 0 (weak_mk ?_) ⟨Nat.zero_le _, rfl⟩ ?_
    · simp only [wk_cons, wk_nil, wk1, vint_eq, vbool_eq, AV.val.injEq, done_eq, done_eq', fin_val, fin_tup, fin_agg, fin_ro, res_one, res_more, rv_t, rv_c, rv_l, AV.tup.injEq, AV.agg.injEq, AV.ro.injEq, List.cons.injEq, int_eq, bool_eq, Int.toNat_natCast, Int.reduceToNat, Int.toNat_zero, Int.toNat_one, Int.reduceLE, Int.reduceLT, Int.reduceBEq, Int.reduceBNe, beq_self_eq_true, bne_self_eq_false, decide_true, decide_false,  Int.reduceNeg, toNat_pred, toNat_succ, List.length_map, cnd_t, cnd_f, grd_tt, grd_u, grd_tf, grd_ft, grd_ff, g_skip, g_ops, g_seq, g_block, g_exit, g_ret, x_c, x_o, x_l, x_b, g_b, g_nil, r_all, o_nil, g_cond, o_guard, o_call, o_callv, lk, ef, o_mv, o_pick, o_bin, o_eqs, o_eqb, o_un, o_conv, o_load, o_loads, o_fld, o_idx, o_idxs, o_len, o_lens, o_ext, o_nilck, o_slc, o_slcs, o_build, o_minmax, o_mkfn, o_alloc, o_box, o_boxs, o_row, o_rowr, o_mk, o_asg, o_app, o_store, o_stores, hv, eqAV, ev, view, rowOf, cellsOf, argv, vbin, vun, bnd, elemOf, putParts, setAt, zav, ASt.rid, ASt.free, AV.kill, AV.isHome, AV.noLoan, AV.cellOK, Value.oneCell', put_at, mk_at, mk_nil, initSt, true_and, and_true, and_self, implies_true, List.map_cons, List.map_nil, List.forall_mem_cons, List.not_mem_nil, false_implies, List.length_cons, List.length_nil, List.getD_cons_zero, List.getD_cons_succ, List.getD_nil, List.drop_succ_cons, List.drop_zero, List.take_succ_cons, List.take_zero, List.set_cons_zero, List.set_cons_succ, List.all_cons, List.all_nil, Bool.and_true, Bool.true_and, Bool.not_true, Bool.not_false, reduceCtorEq, if_true, if_false, Bool.false_eq_true, ↓reduceIte, Nat.reduceEqDiff, Nat.reduceAdd, Nat.reduceSub, Nat.reduceMul, Nat.reduceLeDiff, Nat.reduceLT, ne_eq, not_false_eq_true, not_true_eq_false, Nat.one_ne_zero, Nat.zero_ne_one]
      simp [Str.av]
    · rintro J hJ k ⟨hk, hg⟩
      simp only [done_eq, done_eq', fin_val, fin_tup, fin_agg, fin_ro, res_one, res_more, rv_t, rv_c, rv_l, AV.tup.injEq, AV.agg.injEq, AV.ro.injEq, List.cons.injEq, int_eq, bool_eq, Int.toNat_natCast, Int.reduceToNat, Int.toNat_zero, Int.toNat_one, Int.reduceLE, Int.reduceLT, Int.reduceBEq, Int.reduceBNe, beq_self_eq_true, bne_self_eq_false, decide_true, decide_false,  Int.reduceNeg, toNat_pred, toNat_succ, List.length_map, cnd_t, cnd_f, grd_tt, grd_u, grd_tf, grd_ft, grd_ff, g_skip, g_ops, g_seq, g_block, g_exit, g_ret, x_c, x_o, x_l, x_b, g_b, g_nil, r_all, o_nil, g_cond, o_guard, o_call, o_callv, lk, ef, o_mv, o_pick, o_bin, o_eqs, o_eqb, o_un, o_conv, o_load, o_loads, o_fld, o_idx, o_idxs, o_len, o_lens, o_ext, o_nilck, o_slc, o_slcs, o_build, o_minmax, o_mkfn, o_alloc, o_box, o_boxs, o_row, o_rowr, o_mk, o_asg, o_app, o_store, o_stores, hv, eqAV, ev, view, rowOf, cellsOf, argv, vbin, vun, bnd, elemOf, putParts, setAt, zav, ASt.rid, ASt.free, AV.kill, AV.isHome, AV.noLoan, AV.cellOK, Value.oneCell', put_at, mk_at, mk_nil, initSt, true_and, and_true, and_self, implies_true, List.map_cons, List.map_nil, List.forall_mem_cons, List.not_mem_nil, false_implies, List.length_cons, List.length_nil, List.getD_cons_zero, List.getD_cons_succ, List.getD_nil, List.drop_succ_cons, List.drop_zero, List.take_succ_cons, List.take_zero, List.set_cons_zero, List.set_cons_succ, List.all_cons, List.all_nil, Bool.and_true, Bool.true_and, Bool.not_true, Bool.not_false, reduceCtorEq, if_true, if_false, Bool.false_eq_true, ↓reduceIte, Nat.reduceEqDiff, Nat.reduceAdd, Nat.reduceSub, Nat.reduceMul, Nat.reduceLeDiff, Nat.reduceLT, ne_eq, not_false_eq_true, not_true_eq_false, Nat.one_ne_zero, Nat.zero_ne_one, r36_0, r36_1, r36_2, r36_3, r36_4, r36_5, r36_6, r36_7, r36_8, r36_9, r36_10, r36_11, r36_12, r36_13, r36_14, r36_15, r36_16, p36, l36_0]
      refine condD (fun h => ?_) (fun h => ?_)
      · have hlt : k < e.length := by omega
        have hr : named r.name e = ((e[k].name.toList == r.name.toList) || named r.name (e.drop (k + 1))) := by rw [hg, List.drop_eq_getElem_cons hlt, named]
        have hw : IntKind.i64.wrap (k + 1 : Int) = ((k + 1 : Nat) : Int) := wrap_in (by omega) (by omega)
        clear hg
        repeat' first | (with_reducible refine condD (fun h => ?_) (fun h => ?_)) | (with_reducible refine condE (fun h => ?_) (fun h => ?_)) | (with_reducible refine condN (fun h => ?_) (fun h => ?_)) | (with_reducible refine condI (fun h => ?_) (fun h => ?_)) | (with_reducible refine condS (fun h => ?_) (fun h => ?_)) | (with_reducible refine guardD (by with_unfolding_all rfl) (fun h => ?_) (fun h => ?_)) | (with_reducible refine guardE (by with_unfolding_all rfl) (fun h => ?_) (fun h => ?_)) | (with_reducible refine guardN (by with_unfolding_all rfl) (fun h => ?_) (fun h => ?_)) | (with_reducible refine guardI (by with_unfolding_all rfl) (fun h => ?_) (fun h => ?_)) | (with_reducible refine guardS (by with_unfolding_all rfl) (fun h => ?_) (fun h => ?_)) | (with_reducible refine And.intro ?_ ?_; omega) | (simp only [done_eq, done_eq', fin_val, fin_tup, fin_agg, fin_ro, res_one, res_more, rv_t, rv_c, rv_l, AV.tup.injEq, AV.agg.injEq, AV.ro.injEq, List.cons.injEq, int_eq, bool_eq, Int.toNat_natCast, Int.reduceToNat, Int.toNat_zero, Int.toNat_one, Int.reduceLE, Int.reduceLT, Int.reduceBEq, Int.reduceBNe, beq_self_eq_true, bne_self_eq_false, decide_true, decide_false,  Int.reduceNeg, toNat_pred, toNat_succ, List.length_map, cnd_t, cnd_f, grd_tt, grd_u, grd_tf, grd_ft, grd_ff, g_skip, g_ops, g_seq, g_block, g_exit, g_ret, x_c, x_o, x_l, x_b, g_b, g_nil, r_all, o_nil, g_cond, o_guard, o_call, o_callv, lk, ef, o_mv, o_pick, o_bin, o_eqs, o_eqb, o_un, o_conv, o_load, o_loads, o_fld, o_idx, o_idxs, o_len, o_lens, o_ext, o_nilck, o_slc, o_slcs, o_build, o_minmax, o_mkfn, o_alloc, o_box, o_boxs, o_row, o_rowr, o_mk, o_asg, o_app, o_store, o_stores, hv, eqAV, ev, view, rowOf, cellsOf, argv, vbin, vun, bnd, elemOf, putParts, setAt, zav, ASt.rid, ASt.free, AV.kill, AV.isHome, AV.noLoan, AV.cellOK, Value.oneCell', put_at, mk_at, mk_nil, initSt, true_and, and_true, and_self, implies_true, List.map_cons, List.map_nil, List.forall_mem_cons, List.not_mem_nil, false_implies, List.length_cons, List.length_nil, List.getD_cons_zero, List.getD_cons_succ, List.getD_nil, List.drop_succ_cons, List.drop_zero, List.take_succ_cons, List.take_zero, List.set_cons_zero, List.set_cons_succ, List.all_cons, List.all_nil, Bool.and_true, Bool.true_and, Bool.not_true, Bool.not_false, reduceCtorEq, if_true, if_false, Bool.false_eq_true, ↓reduceIte, Nat.reduceEqDiff, Nat.reduceAdd, Nat.reduceSub, Nat.reduceMul, Nat.reduceLeDiff, Nat.reduceLT, ne_eq, not_false_eq_true, not_true_eq_false, Nat.one_ne_zero, Nat.zero_ne_one, r36_0, r36_1, r36_2, r36_3, r36_4, r36_5, r36_6, r36_7, r36_8, r36_9, r36_10, r36_11, r36_12, r36_13, r36_14, r36_15, r36_16, p36, l36_0, Str.av, getD_map hlt]) | (exfalso; omega)
        · rw [strF, if_neg (by simp [hn]), if_pos (by rw [hr, h]; rfl)]
        · exact again hJ (k + 1) (weak_mk (by simp only [wk_cons, wk_nil, wk1, vint_eq, vbool_eq, AV.val.injEq, done_eq, done_eq', fin_val, fin_tup, fin_agg, fin_ro, res_one, res_more, rv_t, rv_c, rv_l, AV.tup.injEq, AV.agg.injEq, AV.ro.injEq, List.cons.injEq, int_eq, bool_eq, Int.toNat_natCast, Int.reduceToNat, Int.toNat_zero, Int.toNat_one, Int.reduceLE, Int.reduceLT, Int.reduceBEq, Int.reduceBNe, beq_self_eq_true, bne_self_eq_false, decide_true, decide_false,  Int.reduceNeg, toNat_pred, toNat_succ, List.length_map, cnd_t, cnd_f, grd_tt, grd_u, grd_tf, grd_ft, grd_ff, g_skip, g_ops, g_seq, g_block, g_exit, g_ret, x_c, x_o, x_l, x_b, g_b, g_nil, r_all, o_nil, g_cond, o_guard, o_call, o_callv, lk, ef, o_mv, o_pick, o_bin, o_eqs, o_eqb, o_un, o_conv, o_load, o_loads, o_fld, o_idx, o_idxs, o_len, o_lens, o_ext, o_nilck, o_slc, o_slcs, o_build, o_minmax, o_mkfn, o_alloc, o_box, o_boxs, o_row, o_rowr, o_mk, o_asg, o_app, o_store, o_stores, hv, eqAV, ev, view, rowOf, cellsOf, argv, vbin, vun, bnd, elemOf, putParts, setAt, zav, ASt.rid, ASt.free, AV.kill, AV.isHome, AV.noLoan, AV.cellOK, Value.oneCell', put_at, mk_at, mk_nil, initSt, true_and, and_true, and_self, implies_true, List.map_cons, List.map_nil, List.forall_mem_cons, List.not_mem_nil, false_implies, List.length_cons, List.length_nil, List.getD_cons_zero, List.getD_cons_succ, List.getD_nil, List.drop_succ_cons, List.drop_zero, List.take_succ_cons, List.take_zero, List.set_cons_zero, List.set_cons_succ, List.all_cons, List.all_nil, Bool.and_true, Bool.true_and, Bool.not_true, Bool.not_false, reduceCtorEq, if_true, if_false, Bool.false_eq_true, ↓reduceIte, Nat.reduceEqDiff, Nat.reduceAdd, Nat.reduceSub, Nat.reduceMul, Nat.reduceLeDiff, Nat.reduceLT, ne_eq, not_false_eq_true, not_true_eq_false, Nat.one_ne_zero, Nat.zero_ne_one]; exact ⟨by simp [Str.av], hw⟩)) ⟨by omega, by rw [hr, h]; rfl⟩ (by omega)
      · have hke : k = e.length := by omega
        subst hke
        have hz : strF r e = strF2 r := by rw [strF, if_neg (by simp [hn]), if_neg (by rw [hg]; simp [named])]
        clear hg hJ
        repeat' first | (with_reducible refine condD (fun h => ?_) (fun h => ?_)) | (with_reducible refine condE (fun h => ?_) (fun h => ?_)) | (with_reducible refine condN (fun h => ?_) (fun h => ?_)) | (with_reducible refine condI (fun h => ?_) (fun h => ?_)) | (with_reducible refine condS (fun h => ?_) (fun h => ?_)) | (with_reducible refine guardD (by with_unfolding_all rfl) (fun h => ?_) (fun h => ?_)) | (with_reducible refine guardE (by with_unfolding_all rfl) (fun h => ?_) (fun h => ?_)) | (with_reducible refine guardN (by with_unfolding_all rfl) (fun h => ?_) (fun h => ?_)) | (with_reducible refine guardI (by with_unfolding_all rfl) (fun h => ?_) (fun h => ?_)) | (with_reducible refine guardS (by with_unfolding_all rfl) (fun h => ?_) (fun h => ?_)) | ((refine callG (noscale_c _) ?_)) | ((refine callG (smp_c _) ?_)) | (with_reducible refine And.intro ?_ ?_; omega) | (simp only [done_eq, done_eq', fin_val, fin_tup, fin_agg, fin_ro, res_one, res_more, rv_t, rv_c, rv_l, AV.tup.injEq, AV.agg.injEq, AV.ro.injEq, List.cons.injEq, int_eq, bool_eq, Int.toNat_natCast, Int.reduceToNat, Int.toNat_zero, Int.toNat_one, Int.reduceLE, Int.reduceLT, Int.reduceBEq, Int.reduceBNe, beq_self_eq_true, bne_self_eq_false, decide_true, decide_false,  Int.reduceNeg, toNat_pred, toNat_succ, List.length_map, cnd_t, cnd_f, grd_tt, grd_u, grd_tf, grd_ft, grd_ff, g_skip, g_ops, g_seq, g_block, g_exit, g_ret, x_c, x_o, x_l, x_b, g_b, g_nil, r_all, o_nil, g_cond, o_guard, o_call, o_callv, lk, ef, o_mv, o_pick, o_bin, o_eqs, o_eqb, o_un, o_conv, o_load, o_loads, o_fld, o_idx, o_idxs, o_len, o_lens, o_ext, o_nilck, o_slc, o_slcs, o_build, o_minmax, o_mkfn, o_alloc, o_box, o_boxs, o_row, o_rowr, o_mk, o_asg, o_app, o_store, o_stores, hv, eqAV, ev, view, rowOf, cellsOf, argv, vbin, vun, bnd, elemOf, putParts, setAt, zav, ASt.rid, ASt.free, AV.kill, AV.isHome, AV.noLoan, AV.cellOK, Value.oneCell', put_at, mk_at, mk_nil, initSt, true_and, and_true, and_self, implies_true, List.map_cons, List.map_nil, List.forall_mem_cons, List.not_mem_nil, false_implies, List.length_cons, List.length_nil, List.getD_cons_zero, List.getD_cons_succ, List.getD_nil, List.drop_succ_cons, List.drop_zero, List.take_succ_cons, List.take_zero, List.set_cons_zero, List.set_cons_succ, List.all_cons, List.all_nil, Bool.and_true, Bool.true_and, Bool.not_true, Bool.not_false, reduceCtorEq, if_true, if_false, Bool.false_eq_true, ↓reduceIte, Nat.reduceEqDiff, Nat.reduceAdd, Nat.reduceSub, Nat.reduceMul, Nat.reduceLeDiff, Nat.reduceLT, ne_eq, not_false_eq_true, not_true_eq_false, Nat.one_ne_zero, Nat.zero_ne_one, r36_0, r36_1, r36_2, r36_3, r36_4, r36_5, r36_6, r36_7, r36_8, r36_9, r36_10, r36_11, r36_12, r36_13, r36_14, r36_15, r36_16, p36, l36_0, Str.av]) | (exfalso; omega)
        all_goals simp [hz, strF2, *]
        intro e0
        simp [e0] at h

structure Pc where
  frm : Nat
  to : Nat
  len : Int
  free : Bool
def Pc.av (p : Pc) : List AV := [.val (.int .i64 p.frm), .val (.int .i64 p.to), .val (.int .i64 p.len), .val (.bool p.free)]
def pcStep (tgt : Int) (i : Nat) (x : Smp) (out : List Pc) : List Pc := match out.getLast? with
  | some p => if IntKind.i64.wrap (p.len + x.step) ≤ tgt then out.dropLast ++ [⟨p.frm, p.to + 1, IntKind.i64.wrap (p.len + x.step), p.free⟩] else out ++ [⟨i, i + 1, x.step, x.key⟩]
  | none => [⟨i, i + 1, x.step, x.key⟩]
def pcGo (tgt : Int) : Nat → List Pc → List Smp → List Pc
  | _, out, [] => out
  | i, out, x :: r => pcGo tgt (i + 1) (pcStep tgt i x out) r
theorem pcStep_last (tgt : Int) (i : Nat) (x : Smp) (pre : List Pc) (p : Pc) : pcStep tgt i x (pre ++ [p]) = if IntKind.i64.wrap (p.len + x.step) ≤ tgt then pre ++ [⟨p.frm, p.to + 1, IntKind.i64.wrap (p.len + x.step), p.free⟩] else pre ++ [p] ++ [⟨i, i + 1, x.step, x.key⟩] := by
  simp [pcStep]
theorem getD_last {α β : Type} (f : α → β) (l : List α) (c d : β) : (l.map f ++ [c]).getD l.length d = c := by
  rw [List.getD_eq_getElem?_getD, List.getElem?_append_right (by simp)]; simp
theorem set_last {α β : Type} (f : α → β) (l : List α) (c d : β) : (l.map f ++ [c]).set l.length d = l.map f ++ [d] := by
  rw [List.set_append_right _ _ (by simp)]; simp
theorem nil_or_last {α : Type} (l : List α) : l = [] ∨ ∃ pre p, l = pre ++ [p] := by
  rcases List.eq_nil_or_concat l with h | ⟨pre, p, h⟩
  · exact .inl h
  · exact .inr ⟨pre, p, by simpa using h⟩
/-! headend/cut.Pieces -/
def r18_0 : List POp := [⟨3, .boxs (.t 0), none⟩,
  ⟨4, .boxs (.t 1), none⟩,
  ⟨6, .asg .nil, none⟩,
  ⟨7, .asg (.c (.int .i64 0)), none⟩]
def r18_1 : List POp := [⟨13, .loads 4 (.t 3), none⟩,
  ⟨14, .call 36 [.t 13, .nil], none⟩,
  ⟨8, .asg (.t 14), none⟩]
def r18_2 : List POp := [⟨15, .mv (.t 8), none⟩,
  ⟨16, .bin .neq (.t 15) (.c (.int .i64 0)), none⟩]
def r18_3 : List POp := [⟨17, .mv (.t 8), none⟩,
  ⟨6, .asg .nil, none⟩,
  ⟨7, .asg (.t 17), none⟩]
def r18_4 : List POp := [⟨18, .fld 1 (.t 4), none⟩,
  ⟨19, .load (.t 18), none⟩,
  ⟨20, .bin .lss (.t 19) (.c (.int .i64 0)), none⟩,
  ⟨21, .mv (.t 20), none⟩,
  ⟨22, .fld 1 (.t 4), some (21, false)⟩,
  ⟨23, .load (.t 22), some (21, false)⟩,
  ⟨24, .fld 2 (.t 4), some (21, false)⟩,
  ⟨25, .load (.t 24), some (21, false)⟩,
  ⟨26, .bin .geq (.t 23) (.t 25), some (21, false)⟩,
  ⟨27, .pick (.t 21) (.c (.bool true)) (.t 26), none⟩,
  ⟨28, .mv (.t 27), none⟩,
  ⟨29, .fld 2 (.t 4), some (28, false)⟩,
  ⟨30, .load (.t 29), some (28, false)⟩,
  ⟨31, .fld 3 (.t 3), some (28, false)⟩,
  ⟨32, .load (.t 31), some (28, false)⟩,
  ⟨33, .len (.t 32), some (28, false)⟩,
  ⟨34, .bin .gtr (.t 30) (.t 33), some (28, false)⟩,
  ⟨35, .pick (.t 28) (.c (.bool true)) (.t 34), none⟩,
  ⟨36, .mv (.t 35), none⟩,
  ⟨37, .mv (.t 2), some (36, false)⟩,
  ⟨38, .call 37 [.t 37, .c (.int .i64 1), .c (.int .i64 1000000000)], some (36, false)⟩,
  ⟨39, .pick (.t 36) (.c (.bool true)) (.t 38), none⟩]
def r18_5 : List POp := [⟨6, .asg .nil, none⟩,
  ⟨7, .asg (.c (.int .i64 1)), none⟩]
def r18_6 : List POp := [⟨9, .asg .nil, none⟩]
def r18_7 : List POp := [⟨40, .fld 1 (.t 4), none⟩,
  ⟨41, .load (.t 40), none⟩,
  ⟨10, .asg (.t 41), none⟩]
def r18_8 : List POp := [⟨42, .mv (.t 10), none⟩,
  ⟨43, .fld 2 (.t 4), none⟩,
  ⟨44, .load (.t 43), none⟩,
  ⟨45, .bin .lss (.t 42) (.t 44), none⟩]
def r18_10 : List POp := [⟨48, .fld 3 (.t 3), none⟩,
  ⟨49, .load (.t 48), none⟩,
  ⟨50, .mv (.t 10), none⟩,
  ⟨51, .idx 5 (.t 49) (.t 50), none⟩,
  ⟨52, .loads 5 (.t 51), none⟩,
  ⟨11, .alloc [.int .i64 0, .int .i64 0, .int .i64 0, .int .i64 0, .bool false], none⟩,
  ⟨0, .stores 5 (.t 11) (.t 52), none⟩]
def r18_11 : List POp := [⟨53, .mv (.t 9), none⟩,
  ⟨54, .len (.t 53), none⟩,
  ⟨55, .bin .sub (.t 54) (.c (.int .i64 1)), none⟩,
  ⟨12, .asg (.t 55), none⟩]
def r18_12 : List POp := [⟨56, .mv (.t 12), none⟩,
  ⟨57, .bin .geq (.t 56) (.c (.int .i64 0)), none⟩,
  ⟨58, .mv (.t 57), none⟩,
  ⟨59, .mv (.t 9), some (58, true)⟩,
  ⟨60, .mv (.t 12), some (58, true)⟩,
  ⟨61, .idx 4 (.t 59) (.t 60), some (58, true)⟩,
  ⟨62, .fld 2 (.t 61), some (58, true)⟩,
  ⟨63, .load (.t 62), some (58, true)⟩,
  ⟨64, .fld 1 (.t 11), some (58, true)⟩,
  ⟨65, .load (.t 64), some (58, true)⟩,
  ⟨66, .bin .add (.t 63) (.t 65), some (58, true)⟩,
  ⟨67, .mv (.t 2), some (58, true)⟩,
  ⟨68, .bin .leq (.t 66) (.t 67), some (58, true)⟩,
  ⟨69, .pick (.t 58) (.t 68) (.c (.bool false)), none⟩]
def r18_13 : List POp := [⟨70, .mv (.t 9), none⟩,
  ⟨71, .mv (.t 12), none⟩,
  ⟨72, .idx 4 (.t 70) (.t 71), none⟩,
  ⟨73, .fld 1 (.t 72), none⟩,
  ⟨74, .load (.t 73), none⟩,
  ⟨75, .bin .add (.t 74) (.c (.int .i64 1)), none⟩,
  ⟨76, .idx 4 (.t 70) (.t 71), none⟩,
  ⟨77, .fld 1 (.t 76), none⟩,
  ⟨0, .store (.t 77) (.t 75), none⟩]
def r18_14 : List POp := [⟨78, .mv (.t 9), none⟩,
  ⟨79, .mv (.t 12), none⟩,
  ⟨80, .idx 4 (.t 78) (.t 79), none⟩,
  ⟨81, .fld 2 (.t 80), none⟩,
  ⟨82, .load (.t 81), none⟩,
  ⟨83, .fld 1 (.t 11), none⟩,
  ⟨84, .load (.t 83), none⟩,
  ⟨85, .bin .add (.t 82) (.t 84), none⟩,
  ⟨86, .idx 4 (.t 78) (.t 79), none⟩,
  ⟨87, .fld 2 (.t 86), none⟩,
  ⟨0, .store (.t 87) (.t 85), none⟩]
def r18_15 : List POp := [⟨88, .mv (.t 9), none⟩,
  ⟨89, .mv (.t 10), none⟩,
  ⟨90, .mv (.t 10), none⟩,
  ⟨91, .bin .add (.t 90) (.c (.int .i64 1)), none⟩,
  ⟨92, .fld 1 (.t 11), none⟩,
  ⟨93, .load (.t 92), none⟩,
  ⟨94, .fld 4 (.t 11), none⟩,
  ⟨95, .load (.t 94), none⟩,
  ⟨96, .build [.int .i64 0, .int .i64 0, .int .i64 0, .bool false] [(0, 1, .t 89), (1, 1, .t 91), (2, 1, .t 93), (3, 1, .t 95)], none⟩,
  ⟨97, .row 45 4 [.t 96], none⟩,
  ⟨98, .app 45 4 32 (.t 88) (.t 97), none⟩,
  ⟨9, .asg (.t 98), none⟩]
def r18_9 : List POp := [⟨46, .mv (.t 10), none⟩,
  ⟨47, .bin .add (.t 46) (.c (.int .i64 1)), none⟩,
  ⟨10, .asg (.t 47), none⟩]
def r18_16 : List POp := [⟨99, .mv (.t 9), none⟩,
  ⟨6, .asg (.t 99), none⟩,
  ⟨7, .asg (.c (.int .i64 0)), none⟩]
def l18_0 : PCode := .seq (.seq (.ops r18_8) (.cond (.t 45) (.skip) (.exit 0))) (.seq (.block 1 (.seq (.ops r18_10) (.seq (.seq (.ops r18_11) (.seq (.ops r18_12) (.cond (.t 69) (.seq (.ops r18_13) (.seq (.ops r18_14) (.exit 1))) (.skip)))) (.ops r18_15)))) (.ops r18_9))
def p18 : PCode := .seq (.ops r18_0) (.seq (.seq (.ops r18_1) (.seq (.ops r18_2) (.cond (.t 16) (.seq (.ops r18_3) (.ret)) (.skip)))) (.seq (.seq (.ops r18_4) (.cond (.t 39) (.seq (.ops r18_5) (.ret)) (.skip))) (.seq (.ops r18_6) (.seq (.seq (.ops r18_7) (.block 0 (.loop l18_0))) (.seq (.ops r18_16) (.ret))))))
theorem ok18 : okFunc Try.prog 18 [.t 6, .t 7] 3 p18 = true := by kernel_rfl
def outPc (r : Str) (s : Seg) (tgt : Int) : Bool := decide (s.frm < 0) || decide (s.to ≤ s.frm) || decide ((r.smps.length : Int) < s.to) || outB tgt 1 1000000000
def pieces (r : Str) (s : Seg) (tgt : Int) : List Pc × Int := if strF r [] ≠ 0 then ([], strF r []) else if outPc r s tgt then ([], 1) else (pcGo tgt s.frm.toNat [] ((r.smps.take s.to.toNat).drop s.frm.toNat), 0)
theorem smpF_len {l : List Smp} (h : smpF l = 0) : l.length ≤ 5000 := by
  unfold smpF at h
  split at h
  · cases h
  · omega
theorem strF_0 {r : Str} {e : List Str} (h : strF r e = 0) : smpF r.smps = 0 ∧ r.smps.length ≠ 0 := by
  unfold strF at h
  split at h
  · cases h
  · split at h
    · cases h
    · unfold strF2 at h
      split at h
      · cases h
      · split at h
        · rename_i h1; exact absurd h h1
        · rename_i h1
          split at h
          · cases h
          · exact ⟨by simpa using h1, by omega⟩
theorem pieces_c (r : Str) (s : Seg) (tgt : Int) : CallOK Try.prog 18 [.agg r.av, .agg s.av, .val (.int .i64 tgt)] (.tup [.ro ((pieces r s tgt).1.map Pc.av), .val (.int .i64 (pieces r s tgt).2)]) := by
  refine call_of mixed ok18 rfl ?_
  have hs := strand_c r [] (by simp)
  simp only [List.map_nil, Str.av] at hs
  repeat' first | (with_reducible refine condD (fun h => ?_) (fun h => ?_)) | (with_reducible refine condE (fun h => ?_) (fun h => ?_)) | (with_reducible refine condN (fun h => ?_) (fun h => ?_)) | (with_reducible refine condI (fun h => ?_) (fun h => ?_)) | (with_reducible refine condS (fun h => ?_) (fun h => ?_)) | (with_reducible refine guardD (by with_unfolding_all rfl) (fun h => ?_) (fun h => ?_)) | (with_reducible refine guardE (by with_unfolding_all rfl) (fun h => ?_) (fun h => ?_)) | (with_reducible refine guardN (by with_unfolding_all rfl) (fun h => ?_) (fun h => ?_)) | (with_reducible refine guardI (by with_unfolding_all rfl) (fun h => ?_) (fun h => ?_)) | (with_reducible refine guardS (by with_unfolding_all rfl) (fun h => ?_) (fun h => ?_)) | ((refine callG hs ?_)) | ((refine callG (out_c _ _ _) ?_)) | (with_reducible refine And.intro ?_ ?_; omega) | (simp only [done_eq, done_eq', fin_val, fin_tup, fin_agg, fin_ro, res_one, res_more, rv_t, rv_c, rv_l, AV.tup.injEq, AV.agg.injEq, AV.ro.injEq, List.cons.injEq, int_eq, bool_eq, Int.toNat_natCast, Int.reduceToNat, Int.toNat_zero, Int.toNat_one, Int.reduceLE, Int.reduceLT, Int.reduceBEq, Int.reduceBNe, beq_self_eq_true, bne_self_eq_false, decide_true, decide_false,  Int.reduceNeg, toNat_pred, toNat_succ, List.length_map, cnd_t, cnd_f, grd_tt, grd_u, grd_tf, grd_ft, grd_ff, g_skip, g_ops, g_seq, g_block, g_exit, g_ret, x_c, x_o, x_l, x_b, g_b, g_nil, r_all, o_nil, g_cond, o_guard, o_call, o_callv, lk, ef, o_mv, o_pick, o_bin, o_eqs, o_eqb, o_un, o_conv, o_load, o_loads, o_fld, o_idx, o_idxs, o_len, o_lens, o_ext, o_nilck, o_slc, o_slcs, o_build, o_minmax, o_mkfn, o_alloc, o_box, o_boxs, o_row, o_rowr, o_mk, o_asg, o_app, o_store, o_stores, hv, eqAV, ev, view, rowOf, cellsOf, argv, vbin, vun, bnd, elemOf, putParts, setAt, zav, ASt.rid, ASt.free, AV.kill, AV.isHome, AV.noLoan, AV.cellOK, Value.oneCell', put_at, mk_at, mk_nil, initSt, true_and, and_true, and_self, implies_true, List.map_cons, List.map_nil, List.forall_mem_cons, List.not_mem_nil, false_implies, List.length_cons, List.length_nil, List.getD_cons_zero, List.getD_cons_succ, List.getD_nil, List.drop_succ_cons, List.drop_zero, List.take_succ_cons, List.take_zero, List.set_cons_zero, List.set_cons_succ, List.all_cons, List.all_nil, Bool.and_true, Bool.true_and, Bool.not_true, Bool.not_false, reduceCtorEq, if_true, if_false, Bool.false_eq_true, ↓reduceIte, Nat.reduceEqDiff, Nat.reduceAdd, Nat.reduceSub, Nat.reduceMul, Nat.reduceLeDiff, Nat.reduceLT, ne_eq, not_false_eq_true, not_true_eq_false, Nat.one_ne_zero, Nat.zero_ne_one, r18_0, r18_1, r18_2, r18_3, r18_4, r18_5, r18_6, r18_7, r18_8, r18_10, r18_11, r18_12, r18_13, r18_14, r18_15, r18_9, r18_16, p18, Str.av, Seg.av]) | (exfalso; omega)
  · simp [pieces, h]
  · simp [pieces, outPc, *]
  · simp [pieces, outPc, *]
  · simp [pieces, outPc, *]
  · simp [pieces, outPc, *]
  · rename_i h0 h1 h2 h3
    obtain ⟨hsm, hne⟩ := strF_0 h0
    have hlen := smpF_len hsm
    obtain ⟨F, hF⟩ : ∃ F : Nat, s.frm = F := ⟨s.frm.toNat, by omega⟩
    obtain ⟨T, hT⟩ : ∃ T : Nat, s.to = T := ⟨s.to.toNat, by omega⟩
    have hFT : F < T := by omega
    have hTL : T ≤ r.smps.length := by omega
    have hP : pieces r s tgt = (pcGo tgt F [] ((r.smps.take T).drop F), 0) := by
      have ho : outPc r s tgt = false := by simp [outPc, h]; omega
      simp [pieces, h0, ho, hF, hT]
    have hst := outB_f h
    refine loopS (fun p : Nat × List Pc => mk [(2, .val (.int .i64 tgt)), (3, .box r.av), (4, .box s.av), (9, .own 45 4 (p.2.map Pc.av)), (10, .val (.int .i64 p.1))])
      (fun p => F ≤ p.1 ∧ p.1 ≤ T ∧ p.2.length ≤ p.1 ∧ (∀ q, p.2.getLast? = some q → q.to = p.1) ∧ pcGo tgt F [] ((r.smps.take T).drop F) = pcGo tgt p.1 p.2 ((r.smps.take T).drop p.1)) (fun p => T - p.1) (F, []) (weak_mk ?_) ⟨Nat.le_refl _, by simp only; omega, by simp, by simp, rfl⟩ ?_
    · simp only [wk_cons, wk_nil, wk1, vint_eq, vbool_eq, AV.val.injEq, done_eq, done_eq', fin_val, fin_tup, fin_agg, fin_ro, res_one, res_more, rv_t, rv_c, rv_l, AV.tup.injEq, AV.agg.injEq, AV.ro.injEq, List.cons.injEq, int_eq, bool_eq, Int.toNat_natCast, Int.reduceToNat, Int.toNat_zero, Int.toNat_one, Int.reduceLE, Int.reduceLT, Int.reduceBEq, Int.reduceBNe, beq_self_eq_true, bne_self_eq_false, decide_true, decide_false,  Int.reduceNeg, toNat_pred, toNat_succ, List.length_map, cnd_t, cnd_f, grd_tt, grd_u, grd_tf, grd_ft, grd_ff, g_skip, g_ops, g_seq, g_block, g_exit, g_ret, x_c, x_o, x_l, x_b, g_b, g_nil, r_all, o_nil, g_cond, o_guard, o_call, o_callv, lk, ef, o_mv, o_pick, o_bin, o_eqs, o_eqb, o_un, o_conv, o_load, o_loads, o_fld, o_idx, o_idxs, o_len, o_lens, o_ext, o_nilck, o_slc, o_slcs, o_build, o_minmax, o_mkfn, o_alloc, o_box, o_boxs, o_row, o_rowr, o_mk, o_asg, o_app, o_store, o_stores, hv, eqAV, ev, view, rowOf, cellsOf, argv, vbin, vun, bnd, elemOf, putParts, setAt, zav, ASt.rid, ASt.free, AV.kill, AV.isHome, AV.noLoan, AV.cellOK, Value.oneCell', put_at, mk_at, mk_nil, initSt, true_and, and_true, and_self, implies_true, List.map_cons, List.map_nil, List.forall_mem_cons, List.not_mem_nil, false_implies, List.length_cons, List.length_nil, List.getD_cons_zero, List.getD_cons_succ, List.getD_nil, List.drop_succ_cons, List.drop_zero, List.take_succ_cons, List.take_zero, List.set_cons_zero, List.set_cons_succ, List.all_cons, List.all_nil, Bool.and_true, Bool.true_and, Bool.not_true, Bool.not_false, reduceCtorEq, if_true, if_false, Bool.false_eq_true, ↓reduceIte, Nat.reduceEqDiff, Nat.reduceAdd, Nat.reduceSub, Nat.reduceMul, Nat.reduceLeDiff, Nat.reduceLT, ne_eq, not_false_eq_true, not_true_eq_false, Nat.one_ne_zero, Nat.zero_ne_one]
      simp [Str.av, Seg.av, hF]
    · rintro J hJ ⟨i, out⟩ ⟨hFi, hiT, ho, hlast, hg⟩
      simp only at hFi hiT ho hlast hg
      simp only [done_eq, done_eq', fin_val, fin_tup, fin_agg, fin_ro, res_one, res_more, rv_t, rv_c, rv_l, AV.tup.injEq, AV.agg.injEq, AV.ro.injEq, List.cons.injEq, int_eq, bool_eq, Int.toNat_natCast, Int.reduceToNat, Int.toNat_zero, Int.toNat_one, Int.reduceLE, Int.reduceLT, Int.reduceBEq, Int.reduceBNe, beq_self_eq_true, bne_self_eq_false, decide_true, decide_false,  Int.reduceNeg, toNat_pred, toNat_succ, List.length_map, cnd_t, cnd_f, grd_tt, grd_u, grd_tf, grd_ft, grd_ff, g_skip, g_ops, g_seq, g_block, g_exit, g_ret, x_c, x_o, x_l, x_b, g_b, g_nil, r_all, o_nil, g_cond, o_guard, o_call, o_callv, lk, ef, o_mv, o_pick, o_bin, o_eqs, o_eqb, o_un, o_conv, o_load, o_loads, o_fld, o_idx, o_idxs, o_len, o_lens, o_ext, o_nilck, o_slc, o_slcs, o_build, o_minmax, o_mkfn, o_alloc, o_box, o_boxs, o_row, o_rowr, o_mk, o_asg, o_app, o_store, o_stores, hv, eqAV, ev, view, rowOf, cellsOf, argv, vbin, vun, bnd, elemOf, putParts, setAt, zav, ASt.rid, ASt.free, AV.kill, AV.isHome, AV.noLoan, AV.cellOK, Value.oneCell', put_at, mk_at, mk_nil, initSt, true_and, and_true, and_self, implies_true, List.map_cons, List.map_nil, List.forall_mem_cons, List.not_mem_nil, false_implies, List.length_cons, List.length_nil, List.getD_cons_zero, List.getD_cons_succ, List.getD_nil, List.drop_succ_cons, List.drop_zero, List.take_succ_cons, List.take_zero, List.set_cons_zero, List.set_cons_succ, List.all_cons, List.all_nil, Bool.and_true, Bool.true_and, Bool.not_true, Bool.not_false, reduceCtorEq, if_true, if_false, Bool.false_eq_true, ↓reduceIte, Nat.reduceEqDiff, Nat.reduceAdd, Nat.reduceSub, Nat.reduceMul, Nat.reduceLeDiff, Nat.reduceLT, ne_eq, not_false_eq_true, not_true_eq_false, Nat.one_ne_zero, Nat.zero_ne_one, r18_0, r18_1, r18_2, r18_3, r18_4, r18_5, r18_6, r18_7, r18_8, r18_10, r18_11, r18_12, r18_13, r18_14, r18_15, r18_9, r18_16, p18, l18_0, Seg.av, hT]
      refine condD (fun h => ?_) (fun h => ?_)
      · have hlt : i < r.smps.length := by omega
        have hr : pcGo tgt F [] ((r.smps.take T).drop F) = pcGo tgt (i + 1) (pcStep tgt i r.smps[i] out) ((r.smps.take T).drop (i + 1)) := by
          rw [hg, List.drop_eq_getElem_cons (by rw [List.length_take]; omega), pcGo, List.getElem_take]
        have hw : IntKind.i64.wrap (i + 1 : Int) = ((i + 1 : Nat) : Int) := wrap_in (by omega) (by omega)
        clear hg
        rcases nil_or_last out with rfl | ⟨pre, p, rfl⟩
        · have hm1 : IntKind.i64.wrap (((0 : Nat) : Int) - 1) = -1 := wrap_in (by omega) (by omega)
          repeat' first | (with_reducible refine condD (fun h => ?_) (fun h => ?_)) | (with_reducible refine condE (fun h => ?_) (fun h => ?_)) | (with_reducible refine condN (fun h => ?_) (fun h => ?_)) | (with_reducible refine condI (fun h => ?_) (fun h => ?_)) | (with_reducible refine condS (fun h => ?_) (fun h => ?_)) | (with_reducible refine guardD (by with_unfolding_all rfl) (fun h => ?_) (fun h => ?_)) | (with_reducible refine guardE (by with_unfolding_all rfl) (fun h => ?_) (fun h => ?_)) | (with_reducible refine guardN (by with_unfolding_all rfl) (fun h => ?_) (fun h => ?_)) | (with_reducible refine guardI (by with_unfolding_all rfl) (fun h => ?_) (fun h => ?_)) | (with_reducible refine guardS (by with_unfolding_all rfl) (fun h => ?_) (fun h => ?_)) | (with_reducible refine And.intro ?_ ?_; omega) | (simp only [done_eq, done_eq', fin_val, fin_tup, fin_agg, fin_ro, res_one, res_more, rv_t, rv_c, rv_l, AV.tup.injEq, AV.agg.injEq, AV.ro.injEq, List.cons.injEq, int_eq, bool_eq, Int.toNat_natCast, Int.reduceToNat, Int.toNat_zero, Int.toNat_one, Int.reduceLE, Int.reduceLT, Int.reduceBEq, Int.reduceBNe, beq_self_eq_true, bne_self_eq_false, decide_true, decide_false,  Int.reduceNeg, toNat_pred, toNat_succ, List.length_map, cnd_t, cnd_f, grd_tt, grd_u, grd_tf, grd_ft, grd_ff, g_skip, g_ops, g_seq, g_block, g_exit, g_ret, x_c, x_o, x_l, x_b, g_b, g_nil, r_all, o_nil, g_cond, o_guard, o_call, o_callv, lk, ef, o_mv, o_pick, o_bin, o_eqs, o_eqb, o_un, o_conv, o_load, o_loads, o_fld, o_idx, o_idxs, o_len, o_lens, o_ext, o_nilck, o_slc, o_slcs, o_build, o_minmax, o_mkfn, o_alloc, o_box, o_boxs, o_row, o_rowr, o_mk, o_asg, o_app, o_store, o_stores, hv, eqAV, ev, view, rowOf, cellsOf, argv, vbin, vun, bnd, elemOf, putParts, setAt, zav, ASt.rid, ASt.free, AV.kill, AV.isHome, AV.noLoan, AV.cellOK, Value.oneCell', put_at, mk_at, mk_nil, initSt, true_and, and_true, and_self, implies_true, List.map_cons, List.map_nil, List.forall_mem_cons, List.not_mem_nil, false_implies, List.length_cons, List.length_nil, List.getD_cons_zero, List.getD_cons_succ, List.getD_nil, List.drop_succ_cons, List.drop_zero, List.take_succ_cons, List.take_zero, List.set_cons_zero, List.set_cons_succ, List.all_cons, List.all_nil, Bool.and_true, Bool.true_and, Bool.not_true, Bool.not_false, reduceCtorEq, if_true, if_false, Bool.false_eq_true, ↓reduceIte, Nat.reduceEqDiff, Nat.reduceAdd, Nat.reduceSub, Nat.reduceMul, Nat.reduceLeDiff, Nat.reduceLT, ne_eq, not_false_eq_true, not_true_eq_false, Nat.one_ne_zero, Nat.zero_ne_one, r18_0, r18_1, r18_2, r18_3, r18_4, r18_5, r18_6, r18_7, r18_8, r18_10, r18_11, r18_12, r18_13, r18_14, r18_15, r18_9, r18_16, p18, l18_0, Str.av, Seg.av, Smp.av, hT, getD_map hlt, hm1]) | (exfalso; omega)
          exact again hJ (i + 1, [⟨i, i + 1, r.smps[i].step, r.smps[i].key⟩]) (weak_mk (by simp only [wk_cons, wk_nil, wk1, vint_eq, vbool_eq, AV.val.injEq, done_eq, done_eq', fin_val, fin_tup, fin_agg, fin_ro, res_one, res_more, rv_t, rv_c, rv_l, AV.tup.injEq, AV.agg.injEq, AV.ro.injEq, List.cons.injEq, int_eq, bool_eq, Int.toNat_natCast, Int.reduceToNat, Int.toNat_zero, Int.toNat_one, Int.reduceLE, Int.reduceLT, Int.reduceBEq, Int.reduceBNe, beq_self_eq_true, bne_self_eq_false, decide_true, decide_false,  Int.reduceNeg, toNat_pred, toNat_succ, List.length_map, cnd_t, cnd_f, grd_tt, grd_u, grd_tf, grd_ft, grd_ff, g_skip, g_ops, g_seq, g_block, g_exit, g_ret, x_c, x_o, x_l, x_b, g_b, g_nil, r_all, o_nil, g_cond, o_guard, o_call, o_callv, lk, ef, o_mv, o_pick, o_bin, o_eqs, o_eqb, o_un, o_conv, o_load, o_loads, o_fld, o_idx, o_idxs, o_len, o_lens, o_ext, o_nilck, o_slc, o_slcs, o_build, o_minmax, o_mkfn, o_alloc, o_box, o_boxs, o_row, o_rowr, o_mk, o_asg, o_app, o_store, o_stores, hv, eqAV, ev, view, rowOf, cellsOf, argv, vbin, vun, bnd, elemOf, putParts, setAt, zav, ASt.rid, ASt.free, AV.kill, AV.isHome, AV.noLoan, AV.cellOK, Value.oneCell', put_at, mk_at, mk_nil, initSt, true_and, and_true, and_self, implies_true, List.map_cons, List.map_nil, List.forall_mem_cons, List.not_mem_nil, false_implies, List.length_cons, List.length_nil, List.getD_cons_zero, List.getD_cons_succ, List.getD_nil, List.drop_succ_cons, List.drop_zero, List.take_succ_cons, List.take_zero, List.set_cons_zero, List.set_cons_succ, List.all_cons, List.all_nil, Bool.and_true, Bool.true_and, Bool.not_true, Bool.not_false, reduceCtorEq, if_true, if_false, Bool.false_eq_true, ↓reduceIte, Nat.reduceEqDiff, Nat.reduceAdd, Nat.reduceSub, Nat.reduceMul, Nat.reduceLeDiff, Nat.reduceLT, ne_eq, not_false_eq_true, not_true_eq_false, Nat.one_ne_zero, Nat.zero_ne_one]; simp [Str.av, Seg.av, Pc.av, hw, hT])) ⟨by simp only; omega, by simp only; omega, by simp, by simp, by rw [hr]; rfl⟩ (by simp only; omega)
        · have hpt : p.to = i := hlast p (by simp)
          simp only [List.length_append, List.length_cons, List.length_nil] at ho
          have hm1 : IntKind.i64.wrap (((pre.length + 1 : Nat) : Int) - 1) = (pre.length : Int) := by rw [wrap_in (by omega) (by omega)]; omega
          have hw2 : IntKind.i64.wrap ((p.to : Int) + 1) = ((p.to + 1 : Nat) : Int) := wrap_in (by omega) (by omega)
          repeat' first | (with_reducible refine condD (fun h => ?_) (fun h => ?_)) | (with_reducible refine condE (fun h => ?_) (fun h => ?_)) | (with_reducible refine condN (fun h => ?_) (fun h => ?_)) | (with_reducible refine condI (fun h => ?_) (fun h => ?_)) | (with_reducible refine condS (fun h => ?_) (fun h => ?_)) | (with_reducible refine guardD (by with_unfolding_all rfl) (fun h => ?_) (fun h => ?_)) | (with_reducible refine guardE (by with_unfolding_all rfl) (fun h => ?_) (fun h => ?_)) | (with_reducible refine guardN (by with_unfolding_all rfl) (fun h => ?_) (fun h => ?_)) | (with_reducible refine guardI (by with_unfolding_all rfl) (fun h => ?_) (fun h => ?_)) | (with_reducible refine guardS (by with_unfolding_all rfl) (fun h => ?_) (fun h => ?_)) | (with_reducible refine And.intro ?_ ?_; omega) | (simp only [done_eq, done_eq', fin_val, fin_tup, fin_agg, fin_ro, res_one, res_more, rv_t, rv_c, rv_l, AV.tup.injEq, AV.agg.injEq, AV.ro.injEq, List.cons.injEq, int_eq, bool_eq, Int.toNat_natCast, Int.reduceToNat, Int.toNat_zero, Int.toNat_one, Int.reduceLE, Int.reduceLT, Int.reduceBEq, Int.reduceBNe, beq_self_eq_true, bne_self_eq_false, decide_true, decide_false,  Int.reduceNeg, toNat_pred, toNat_succ, List.length_map, cnd_t, cnd_f, grd_tt, grd_u, grd_tf, grd_ft, grd_ff, g_skip, g_ops, g_seq, g_block, g_exit, g_ret, x_c, x_o, x_l, x_b, g_b, g_nil, r_all, o_nil, g_cond, o_guard, o_call, o_callv, lk, ef, o_mv, o_pick, o_bin, o_eqs, o_eqb, o_un, o_conv, o_load, o_loads, o_fld, o_idx, o_idxs, o_len, o_lens, o_ext, o_nilck, o_slc, o_slcs, o_build, o_minmax, o_mkfn, o_alloc, o_box, o_boxs, o_row, o_rowr, o_mk, o_asg, o_app, o_store, o_stores, hv, eqAV, ev, view, rowOf, cellsOf, argv, vbin, vun, bnd, elemOf, putParts, setAt, zav, ASt.rid, ASt.free, AV.kill, AV.isHome, AV.noLoan, AV.cellOK, Value.oneCell', put_at, mk_at, mk_nil, initSt, true_and, and_true, and_self, implies_true, List.map_cons, List.map_nil, List.forall_mem_cons, List.not_mem_nil, false_implies, List.length_cons, List.length_nil, List.getD_cons_zero, List.getD_cons_succ, List.getD_nil, List.drop_succ_cons, List.drop_zero, List.take_succ_cons, List.take_zero, List.set_cons_zero, List.set_cons_succ, List.all_cons, List.all_nil, Bool.and_true, Bool.true_and, Bool.not_true, Bool.not_false, reduceCtorEq, if_true, if_false, Bool.false_eq_true, ↓reduceIte, Nat.reduceEqDiff, Nat.reduceAdd, Nat.reduceSub, Nat.reduceMul, Nat.reduceLeDiff, Nat.reduceLT, ne_eq, not_false_eq_true, not_true_eq_false, Nat.one_ne_zero, Nat.zero_ne_one, r18_0, r18_1, r18_2, r18_3, r18_4, r18_5, r18_6, r18_7, r18_8, r18_10, r18_11, r18_12, r18_13, r18_14, r18_15, r18_9, r18_16, p18, l18_0, Str.av, Seg.av, Smp.av, hT, getD_map hlt, hm1, hw2, List.map_append, List.length_append, getD_last, set_last, Pc.av]) | (exfalso; omega)
          · exact again hJ (i + 1, pre ++ [⟨p.frm, p.to + 1, IntKind.i64.wrap (p.len + r.smps[i].step), p.free⟩]) (weak_mk (by simp only [wk_cons, wk_nil, wk1, vint_eq, vbool_eq, AV.val.injEq, done_eq, done_eq', fin_val, fin_tup, fin_agg, fin_ro, res_one, res_more, rv_t, rv_c, rv_l, AV.tup.injEq, AV.agg.injEq, AV.ro.injEq, List.cons.injEq, int_eq, bool_eq, Int.toNat_natCast, Int.reduceToNat, Int.toNat_zero, Int.toNat_one, Int.reduceLE, Int.reduceLT, Int.reduceBEq, Int.reduceBNe, beq_self_eq_true, bne_self_eq_false, decide_true, decide_false,  Int.reduceNeg, toNat_pred, toNat_succ, List.length_map, cnd_t, cnd_f, grd_tt, grd_u, grd_tf, grd_ft, grd_ff, g_skip, g_ops, g_seq, g_block, g_exit, g_ret, x_c, x_o, x_l, x_b, g_b, g_nil, r_all, o_nil, g_cond, o_guard, o_call, o_callv, lk, ef, o_mv, o_pick, o_bin, o_eqs, o_eqb, o_un, o_conv, o_load, o_loads, o_fld, o_idx, o_idxs, o_len, o_lens, o_ext, o_nilck, o_slc, o_slcs, o_build, o_minmax, o_mkfn, o_alloc, o_box, o_boxs, o_row, o_rowr, o_mk, o_asg, o_app, o_store, o_stores, hv, eqAV, ev, view, rowOf, cellsOf, argv, vbin, vun, bnd, elemOf, putParts, setAt, zav, ASt.rid, ASt.free, AV.kill, AV.isHome, AV.noLoan, AV.cellOK, Value.oneCell', put_at, mk_at, mk_nil, initSt, true_and, and_true, and_self, implies_true, List.map_cons, List.map_nil, List.forall_mem_cons, List.not_mem_nil, false_implies, List.length_cons, List.length_nil, List.getD_cons_zero, List.getD_cons_succ, List.getD_nil, List.drop_succ_cons, List.drop_zero, List.take_succ_cons, List.take_zero, List.set_cons_zero, List.set_cons_succ, List.all_cons, List.all_nil, Bool.and_true, Bool.true_and, Bool.not_true, Bool.not_false, reduceCtorEq, if_true, if_false, Bool.false_eq_true, ↓reduceIte, Nat.reduceEqDiff, Nat.reduceAdd, Nat.reduceSub, Nat.reduceMul, Nat.reduceLeDiff, Nat.reduceLT, ne_eq, not_false_eq_true, not_true_eq_false, Nat.one_ne_zero, Nat.zero_ne_one]; simp [Str.av, Seg.av, Pc.av, hw, hT])) ⟨by simp only; omega, by simp only; omega, by simp; omega, by simp; omega, by rw [hr, pcStep_last, if_pos h]⟩ (by simp only; omega)
          · exact again hJ (i + 1, pre ++ [p] ++ [⟨i, i + 1, r.smps[i].step, r.smps[i].key⟩]) (weak_mk (by simp only [wk_cons, wk_nil, wk1, vint_eq, vbool_eq, AV.val.injEq, done_eq, done_eq', fin_val, fin_tup, fin_agg, fin_ro, res_one, res_more, rv_t, rv_c, rv_l, AV.tup.injEq, AV.agg.injEq, AV.ro.injEq, List.cons.injEq, int_eq, bool_eq, Int.toNat_natCast, Int.reduceToNat, Int.toNat_zero, Int.toNat_one, Int.reduceLE, Int.reduceLT, Int.reduceBEq, Int.reduceBNe, beq_self_eq_true, bne_self_eq_false, decide_true, decide_false,  Int.reduceNeg, toNat_pred, toNat_succ, List.length_map, cnd_t, cnd_f, grd_tt, grd_u, grd_tf, grd_ft, grd_ff, g_skip, g_ops, g_seq, g_block, g_exit, g_ret, x_c, x_o, x_l, x_b, g_b, g_nil, r_all, o_nil, g_cond, o_guard, o_call, o_callv, lk, ef, o_mv, o_pick, o_bin, o_eqs, o_eqb, o_un, o_conv, o_load, o_loads, o_fld, o_idx, o_idxs, o_len, o_lens, o_ext, o_nilck, o_slc, o_slcs, o_build, o_minmax, o_mkfn, o_alloc, o_box, o_boxs, o_row, o_rowr, o_mk, o_asg, o_app, o_store, o_stores, hv, eqAV, ev, view, rowOf, cellsOf, argv, vbin, vun, bnd, elemOf, putParts, setAt, zav, ASt.rid, ASt.free, AV.kill, AV.isHome, AV.noLoan, AV.cellOK, Value.oneCell', put_at, mk_at, mk_nil, initSt, true_and, and_true, and_self, implies_true, List.map_cons, List.map_nil, List.forall_mem_cons, List.not_mem_nil, false_implies, List.length_cons, List.length_nil, List.getD_cons_zero, List.getD_cons_succ, List.getD_nil, List.drop_succ_cons, List.drop_zero, List.take_succ_cons, List.take_zero, List.set_cons_zero, List.set_cons_succ, List.all_cons, List.all_nil, Bool.and_true, Bool.true_and, Bool.not_true, Bool.not_false, reduceCtorEq, if_true, if_false, Bool.false_eq_true, ↓reduceIte, Nat.reduceEqDiff, Nat.reduceAdd, Nat.reduceSub, Nat.reduceMul, Nat.reduceLeDiff, Nat.reduceLT, ne_eq, not_false_eq_true, not_true_eq_false, Nat.one_ne_zero, Nat.zero_ne_one]; simp [Str.av, Seg.av, Pc.av, hw, hT])) ⟨by simp only; omega, by simp only; omega, by simp; omega, by simp, by rw [hr, pcStep_last, if_neg h]⟩ (by simp only; omega)
      · have hke : i = T := by omega
        subst hke
        repeat' first | (with_reducible refine condD (fun h => ?_) (fun h => ?_)) | (with_reducible refine condE (fun h => ?_) (fun h => ?_)) | (with_reducible refine condN (fun h => ?_) (fun h => ?_)) | (with_reducible refine condI (fun h => ?_) (fun h => ?_)) | (with_reducible refine condS (fun h => ?_) (fun h => ?_)) | (with_reducible refine guardD (by with_unfolding_all rfl) (fun h => ?_) (fun h => ?_)) | (with_reducible refine guardE (by with_unfolding_all rfl) (fun h => ?_) (fun h => ?_)) | (with_reducible refine guardN (by with_unfolding_all rfl) (fun h => ?_) (fun h => ?_)) | (with_reducible refine guardI (by with_unfolding_all rfl) (fun h => ?_) (fun h => ?_)) | (with_reducible refine guardS (by with_unfolding_all rfl) (fun h => ?_) (fun h => ?_)) | (with_reducible refine And.intro ?_ ?_; omega) | (simp only [done_eq, done_eq', fin_val, fin_tup, fin_agg, fin_ro, res_one, res_more, rv_t, rv_c, rv_l, AV.tup.injEq, AV.agg.injEq, AV.ro.injEq, List.cons.injEq, int_eq, bool_eq, Int.toNat_natCast, Int.reduceToNat, Int.toNat_zero, Int.toNat_one, Int.reduceLE, Int.reduceLT, Int.reduceBEq, Int.reduceBNe, beq_self_eq_true, bne_self_eq_false, decide_true, decide_false,  Int.reduceNeg, toNat_pred, toNat_succ, List.length_map, cnd_t, cnd_f, grd_tt, grd_u, grd_tf, grd_ft, grd_ff, g_skip, g_ops, g_seq, g_block, g_exit, g_ret, x_c, x_o, x_l, x_b, g_b, g_nil, r_all, o_nil, g_cond, o_guard, o_call, o_callv, lk, ef, o_mv, o_pick, o_bin, o_eqs, o_eqb, o_un, o_conv, o_load, o_loads, o_fld, o_idx, o_idxs, o_len, o_lens, o_ext, o_nilck, o_slc, o_slcs, o_build, o_minmax, o_mkfn, o_alloc, o_box, o_boxs, o_row, o_rowr, o_mk, o_asg, o_app, o_store, o_stores, hv, eqAV, ev, view, rowOf, cellsOf, argv, vbin, vun, bnd, elemOf, putParts, setAt, zav, ASt.rid, ASt.free, AV.kill, AV.isHome, AV.noLoan, AV.cellOK, Value.oneCell', put_at, mk_at, mk_nil, initSt, true_and, and_true, and_self, implies_true, List.map_cons, List.map_nil, List.forall_mem_cons, List.not_mem_nil, false_implies, List.length_cons, List.length_nil, List.getD_cons_zero, List.getD_cons_succ, List.getD_nil, List.drop_succ_cons, List.drop_zero, List.take_succ_cons, List.take_zero, List.set_cons_zero, List.set_cons_succ, List.all_cons, List.all_nil, Bool.and_true, Bool.true_and, Bool.not_true, Bool.not_false, reduceCtorEq, if_true, if_false, Bool.false_eq_true, ↓reduceIte, Nat.reduceEqDiff, Nat.reduceAdd, Nat.reduceSub, Nat.reduceMul, Nat.reduceLeDiff, Nat.reduceLT, ne_eq, not_false_eq_true, not_true_eq_false, Nat.one_ne_zero, Nat.zero_ne_one, r18_0, r18_1, r18_2, r18_3, r18_4, r18_5, r18_6, r18_7, r18_8, r18_10, r18_11, r18_12, r18_13, r18_14, r18_15, r18_9, r18_16, p18, l18_0]) | (exfalso; omega)
        rw [hP, hg]
        simp [pcGo]
end Go.Proofs.Ytpkeiabifoipoaa
