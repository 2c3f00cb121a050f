/- SampleTightsPresent: neither Tight nor Straight changes a time of presentation. For every input; no condition. -/
import Derived.Test.YtkklgckmdnejfaaKStraight
import Derived.Test.YtkklgckmdnejfaaRows
namespace Go.Proofs.Ytkklgckmdnejfaa
open Go.RowKit
set_option linter.unusedSimpArgs false

theorem pres_tight (l : List Smp) : presL (tightL l) = presL l := by
  unfold presL tightL
  rw [List.map_map, List.map_map]
  refine List.map_congr_left fun s _ => ?_
  simp only [Function.comp, Smp.late, Smp.less]; omega
theorem pres_str (n : List Int) (l : List Smp) : presL (strAt n l.length l) = presL l := by
  unfold presL
  refine List.ext_getElem (by simp [strAt]) fun k h1 h2 => ?_
  have hk : k < l.length := by simpa using h2
  rw [List.getElem_map, List.getElem_map, strAt_get _ _ _ _ hk]
  unfold strE
  rw [if_pos hk]
  simp only; omega
theorem tightF_ok {l : List Smp} (h : (tightF l).2.2 = 0) : smpF (tightF l).1 = 0 ∧ presL (tightF l).1 = presL l := by
  unfold tightF at h ⊢
  split at h
  · rename_i h1; exact absurd h h1
  · split at h
    · rename_i h1 h2
      rw [if_neg h1, if_pos h2]
      have : l = [] := List.eq_nil_of_length_eq_zero h2
      subst this
      exact ⟨by decide, rfl⟩
    · split at h
      · rename_i h3; exact absurd h h3
      · rename_i h1 h2 h3
        rw [if_neg h1, if_neg h2, if_neg h3]
        exact ⟨by simpa using h3, pres_tight l⟩
theorem strF_ok {l : List Smp} {step slack : Int} (h : (strF l step slack).2 = 0) : smpF (strF l step slack).1 = 0 ∧ presL (strF l step slack).1 = presL l := by
  unfold strF at h ⊢
  split at h
  · rename_i h1; exact absurd h h1
  · split at h
    · rename_i h2; exact absurd h h2
    · split at h
      · cases h
      · rename_i h1 h2 h3
        rw [if_neg h1, if_neg h2, if_neg h3]
        simp only at h
        simp only [h, if_true]
        exact ⟨trivial, pres_str _ _⟩
theorem presF_ok {l : List Smp} (h : smpF l = 0) : presF l = (presL l, 0) := by simp [presF, h]
theorem presF_no {l : List Smp} (h : smpF l ≠ 0) : presF l = ([], smpF l) := by simp [presF, h]

/-! headend/headendlaw3.SampleTightsPresent -/
def r5_0 : List POp := [⟨6, .asg (.c (.bool false)), none⟩]
def r5_1 : List POp := [⟨19, .mv (.t 0), none⟩,
  ⟨20, .call 22 [.t 19], none⟩,
  ⟨18, .mv (.t 20), none⟩,
  ⟨21, .ext 0 (.t 18), none⟩,
  ⟨22, .ext 1 (.t 18), none⟩,
  ⟨7, .asg (.t 21), none⟩,
  ⟨8, .mv (.t 22), none⟩]
def r5_2 : List POp := [⟨23, .mv (.t 8), none⟩,
  ⟨24, .bin .neq (.t 23) (.c (.int .i64 0)), none⟩]
def r5_3 : List POp := [⟨25, .mv (.t 7), none⟩,
  ⟨26, .len (.t 25), none⟩,
  ⟨27, .bin .eql (.t 26) (.c (.int .i64 0)), none⟩,
  ⟨28, .mv (.t 27), none⟩,
  ⟨29, .call 16 [], some (28, true)⟩,
  ⟨30, .pick (.t 28) (.t 29) (.c (.bool false)), none⟩,
  ⟨6, .asg (.t 30), none⟩]
def r5_4 : List POp := [⟨32, .mv (.t 0), none⟩,
  ⟨33, .call 17 [.t 32], none⟩,
  ⟨31, .mv (.t 33), none⟩,
  ⟨34, .ext 0 (.t 31), none⟩,
  ⟨35, .ext 1 (.t 31), none⟩,
  ⟨36, .ext 2 (.t 31), none⟩,
  ⟨9, .asg (.t 34), none⟩,
  ⟨10, .mv (.t 35), none⟩,
  ⟨11, .mv (.t 36), none⟩]
def r5_5 : List POp := [⟨37, .mv (.t 11), none⟩,
  ⟨38, .bin .eql (.t 37) (.c (.int .i64 0)), none⟩]
def r5_6 : List POp := [⟨40, .mv (.t 9), none⟩,
  ⟨41, .call 22 [.t 40], none⟩,
  ⟨39, .mv (.t 41), none⟩,
  ⟨42, .ext 0 (.t 39), none⟩,
  ⟨43, .ext 1 (.t 39), none⟩,
  ⟨12, .asg (.t 42), none⟩,
  ⟨13, .mv (.t 43), none⟩]
def r5_7 : List POp := [⟨44, .mv (.t 13), none⟩,
  ⟨45, .bin .neq (.t 44) (.c (.int .i64 0)), none⟩,
  ⟨46, .mv (.t 45), none⟩,
  ⟨47, .mv (.t 7), some (46, false)⟩,
  ⟨48, .mv (.t 12), some (46, false)⟩,
  ⟨49, .call 23 [.t 47, .t 48], some (46, false)⟩,
  ⟨50, .un .not (.t 49), some (46, false)⟩,
  ⟨51, .pick (.t 46) (.c (.bool true)) (.t 50), none⟩]
def r5_8 : List POp := [⟨6, .asg (.c (.bool false)), none⟩]
def r5_9 : List POp := [⟨53, .mv (.t 0), none⟩,
  ⟨54, .mv (.t 1), none⟩,
  ⟨55, .mv (.t 2), none⟩,
  ⟨56, .call 19 [.t 53, .t 54, .t 55], none⟩,
  ⟨52, .mv (.t 56), none⟩,
  ⟨57, .ext 0 (.t 52), none⟩,
  ⟨58, .ext 1 (.t 52), none⟩,
  ⟨14, .asg (.t 57), none⟩,
  ⟨15, .mv (.t 58), none⟩]
def r5_10 : List POp := [⟨59, .mv (.t 15), none⟩,
  ⟨60, .bin .eql (.t 59) (.c (.int .i64 0)), none⟩]
def r5_11 : List POp := [⟨62, .mv (.t 14), none⟩,
  ⟨63, .call 22 [.t 62], none⟩,
  ⟨61, .mv (.t 63), none⟩,
  ⟨64, .ext 0 (.t 61), none⟩,
  ⟨65, .ext 1 (.t 61), none⟩,
  ⟨16, .asg (.t 64), none⟩,
  ⟨17, .mv (.t 65), none⟩]
def r5_12 : List POp := [⟨66, .mv (.t 17), none⟩,
  ⟨67, .bin .neq (.t 66) (.c (.int .i64 0)), none⟩,
  ⟨68, .mv (.t 67), none⟩,
  ⟨69, .mv (.t 7), some (68, false)⟩,
  ⟨70, .mv (.t 16), some (68, false)⟩,
  ⟨71, .call 23 [.t 69, .t 70], some (68, false)⟩,
  ⟨72, .un .not (.t 71), some (68, false)⟩,
  ⟨73, .pick (.t 68) (.c (.bool true)) (.t 72), none⟩]
def r5_13 : List POp := [⟨6, .asg (.c (.bool false)), none⟩]
def r5_14 : List POp := [⟨74, .mv (.t 7), none⟩,
  ⟨75, .len (.t 74), none⟩,
  ⟨76, .mv (.t 0), none⟩,
  ⟨77, .len (.t 76), none⟩,
  ⟨78, .bin .eql (.t 75) (.t 77), none⟩,
  ⟨79, .mv (.t 78), none⟩,
  ⟨80, .call 16 [], some (79, true)⟩,
  ⟨81, .pick (.t 79) (.t 80) (.c (.bool false)), none⟩,
  ⟨6, .asg (.t 81), none⟩]
def p5 : PCode := .seq (.ops r5_0) (.seq (.ops r5_1) (.seq (.seq (.ops r5_2) (.cond (.t 24) (.seq (.ops r5_3) (.ret)) (.skip))) (.seq (.seq (.ops r5_4) (.seq (.ops r5_5) (.cond (.t 38) (.seq (.ops r5_6) (.seq (.ops r5_7) (.cond (.t 51) (.seq (.ops r5_8) (.ret)) (.skip)))) (.skip)))) (.seq (.seq (.ops r5_9) (.seq (.ops r5_10) (.cond (.t 60) (.seq (.ops r5_11) (.seq (.ops r5_12) (.cond (.t 73) (.seq (.ops r5_13) (.ret)) (.skip)))) (.skip)))) (.seq (.ops r5_14) (.ret))))))
theorem ok5 : okFunc Try.prog 5 [.t 6] 3 p5 = true := by kernel_rfl
theorem tightpres_d (l : List Smp) (step slack : Int) : CallOK Try.prog 5 [.ro (l.map Smp.av), .val (.int .i64 step), .val (.int .i64 slack)] (.val (.bool true)) := by
  refine call_of mixed ok5 rfl ?_
  have k1 := presF_c l
  by_cases h0 : smpF l = 0
  · obtain ⟨hl, _⟩ := smpF_0 h0
    rw [presF_ok h0] at k1
    have k2 := tight_c l
    have k3 := straight_c l step slack
    have k4 := presF_c (tightF l).1
    have k5 := presF_c (strF l step slack).1
    have hpl : (presL l).length = l.length := by simp [presL]
    have hpe : ((presL l).length : Int) = l.length := by rw [hpl]
    have hq := eqi_c (presL l) (by omega)
    by_cases h1 : (tightF l).2.2 = 0
    · obtain ⟨a1, a2⟩ := tightF_ok h1
      rw [presF_ok a1, a2] at k4
      rw [h1] at k2
      by_cases h2 : (strF l step slack).2 = 0
      · obtain ⟨c1, c2⟩ := strF_ok h2
        rw [presF_ok c1, c2] at k5
        rw [h2] at k3
        repeat' first | (with_reducible refine condD (fun h => ?_) (fun h => ?_)) | (with_reducible refine condE (fun h => ?_) (fun h => ?_)) | (with_reducible refine condN (fun h => ?_) (fun h => ?_)) | (with_reducible refine condI (fun h => ?_) (fun h => ?_)) | (with_reducible refine condS (fun h => ?_) (fun h => ?_)) | (with_reducible refine guardD (by with_unfolding_all rfl) (fun h => ?_) (fun h => ?_)) | (with_reducible refine guardE (by with_unfolding_all rfl) (fun h => ?_) (fun h => ?_)) | (with_reducible refine guardN (by with_unfolding_all rfl) (fun h => ?_) (fun h => ?_)) | (with_reducible refine guardI (by with_unfolding_all rfl) (fun h => ?_) (fun h => ?_)) | (with_reducible refine guardS (by with_unfolding_all rfl) (fun h => ?_) (fun h => ?_)) | ((refine callG k1 ?_)) | ((refine callG k2 ?_)) | ((refine callG k3 ?_)) | ((refine callG k4 ?_)) | ((refine callG k5 ?_)) | ((refine callG hq ?_)) | ((refine callG awake3_c ?_)) | (with_reducible refine And.intro ?_ ?_; omega) | (simp only [done_eq, done_eq', fin_val, fin_tup, fin_agg, fin_ro, res_one, res_more, rv_t, rv_c, rv_l, AV.tup.injEq, AV.agg.injEq, AV.ro.injEq, List.cons.injEq, int_eq, bool_eq, Int.toNat_natCast, Int.reduceToNat, Int.toNat_zero, Int.toNat_one, Int.reduceLE, Int.reduceLT, Int.reduceBEq, Int.reduceBNe, beq_self_eq_true, bne_self_eq_false, decide_true, decide_false,  Int.reduceNeg, toNat_pred, toNat_succ, List.length_map, cnd_t, cnd_f, grd_tt, grd_u, grd_tf, grd_ft, grd_ff, g_skip, g_ops, g_seq, g_block, g_exit, g_ret, x_c, x_o, x_l, x_b, g_b, g_nil, r_all, o_nil, g_cond, o_guard, o_call, o_callv, lk, ef, o_mv, o_pick, o_bin, o_never, o_eqs, o_eqb, o_un, o_conv, o_load, o_loads, o_fld, o_idx, o_idxs, o_len, o_lens, o_ext, o_nilck, o_slc, o_slcs, o_build, o_minmax, o_mkfn, o_alloc, o_box, o_boxs, o_row, o_rowr, o_mk, o_asg, o_app, o_store, o_stores, o_eqnil, hv, eqAV, ev, view_t, view_c, view_nil, view_fn, look_own, look_box, look_junk, look_val, look_nilsl, look_ro, look_roAt, look_agg, look_tup, look_clo, look_alias, look_ref, look_into, rowOf, cellsOf, argv, vbin, vun, bnd, elemOf, putParts, setAt, zav, ASt.rid, ASt.free, AV.kill, AV.isHome, AV.noLoan, AV.cellOK, Value.oneCell', put_at, mk_at, mk_nil, initSt, true_and, and_true, and_self, implies_true, List.map_cons, List.map_nil, List.forall_mem_cons, List.not_mem_nil, false_implies, List.length_cons, List.length_nil, List.getD_cons_zero, List.getD_cons_succ, List.getD_nil, List.drop_succ_cons, List.drop_zero, List.take_succ_cons, List.take_zero, List.set_cons_zero, List.set_cons_succ, List.all_cons, List.all_nil, Bool.and_true, Bool.true_and, Bool.not_true, Bool.not_false, reduceCtorEq, if_true, if_false, Bool.false_eq_true, ↓reduceIte, Nat.reduceEqDiff, Nat.reduceAdd, Nat.reduceSub, Nat.reduceMul, Nat.reduceLeDiff, Nat.reduceLT, ne_eq, not_false_eq_true, not_true_eq_false, Nat.one_ne_zero, Nat.zero_ne_one, r5_0, r5_1, r5_2, r5_3, r5_4, r5_5, r5_6, r5_7, r5_8, r5_9, r5_10, r5_11, r5_12, r5_13, r5_14, p5, hpl]) | (exfalso; omega)
      · repeat' first | (with_reducible refine condD (fun h => ?_) (fun h => ?_)) | (with_reducible refine condE (fun h => ?_) (fun h => ?_)) | (with_reducible refine condN (fun h => ?_) (fun h => ?_)) | (with_reducible refine condI (fun h => ?_) (fun h => ?_)) | (with_reducible refine condS (fun h => ?_) (fun h => ?_)) | (with_reducible refine guardD (by with_unfolding_all rfl) (fun h => ?_) (fun h => ?_)) | (with_reducible refine guardE (by with_unfolding_all rfl) (fun h => ?_) (fun h => ?_)) | (with_reducible refine guardN (by with_unfolding_all rfl) (fun h => ?_) (fun h => ?_)) | (with_reducible refine guardI (by with_unfolding_all rfl) (fun h => ?_) (fun h => ?_)) | (with_reducible refine guardS (by with_unfolding_all rfl) (fun h => ?_) (fun h => ?_)) | ((refine callG k1 ?_)) | ((refine callG k2 ?_)) | ((refine callG k3 ?_)) | ((refine callG k4 ?_)) | ((refine callG hq ?_)) | ((refine callG awake3_c ?_)) | (with_reducible refine And.intro ?_ ?_; omega) | (simp only [done_eq, done_eq', fin_val, fin_tup, fin_agg, fin_ro, res_one, res_more, rv_t, rv_c, rv_l, AV.tup.injEq, AV.agg.injEq, AV.ro.injEq, List.cons.injEq, int_eq, bool_eq, Int.toNat_natCast, Int.reduceToNat, Int.toNat_zero, Int.toNat_one, Int.reduceLE, Int.reduceLT, Int.reduceBEq, Int.reduceBNe, beq_self_eq_true, bne_self_eq_false, decide_true, decide_false,  Int.reduceNeg, toNat_pred, toNat_succ, List.length_map, cnd_t, cnd_f, grd_tt, grd_u, grd_tf, grd_ft, grd_ff, g_skip, g_ops, g_seq, g_block, g_exit, g_ret, x_c, x_o, x_l, x_b, g_b, g_nil, r_all, o_nil, g_cond, o_guard, o_call, o_callv, lk, ef, o_mv, o_pick, o_bin, o_never, o_eqs, o_eqb, o_un, o_conv, o_load, o_loads, o_fld, o_idx, o_idxs, o_len, o_lens, o_ext, o_nilck, o_slc, o_slcs, o_build, o_minmax, o_mkfn, o_alloc, o_box, o_boxs, o_row, o_rowr, o_mk, o_asg, o_app, o_store, o_stores, o_eqnil, hv, eqAV, ev, view_t, view_c, view_nil, view_fn, look_own, look_box, look_junk, look_val, look_nilsl, look_ro, look_roAt, look_agg, look_tup, look_clo, look_alias, look_ref, look_into, rowOf, cellsOf, argv, vbin, vun, bnd, elemOf, putParts, setAt, zav, ASt.rid, ASt.free, AV.kill, AV.isHome, AV.noLoan, AV.cellOK, Value.oneCell', put_at, mk_at, mk_nil, initSt, true_and, and_true, and_self, implies_true, List.map_cons, List.map_nil, List.forall_mem_cons, List.not_mem_nil, false_implies, List.length_cons, List.length_nil, List.getD_cons_zero, List.getD_cons_succ, List.getD_nil, List.drop_succ_cons, List.drop_zero, List.take_succ_cons, List.take_zero, List.set_cons_zero, List.set_cons_succ, List.all_cons, List.all_nil, Bool.and_true, Bool.true_and, Bool.not_true, Bool.not_false, reduceCtorEq, if_true, if_false, Bool.false_eq_true, ↓reduceIte, Nat.reduceEqDiff, Nat.reduceAdd, Nat.reduceSub, Nat.reduceMul, Nat.reduceLeDiff, Nat.reduceLT, ne_eq, not_false_eq_true, not_true_eq_false, Nat.one_ne_zero, Nat.zero_ne_one, r5_0, r5_1, r5_2, r5_3, r5_4, r5_5, r5_6, r5_7, r5_8, r5_9, r5_10, r5_11, r5_12, r5_13, r5_14, p5, hpl, beq0_f h2, bne0_t h2]) | (exfalso; omega)
    · by_cases h2 : (strF l step slack).2 = 0
      · obtain ⟨c1, c2⟩ := strF_ok h2
        rw [presF_ok c1, c2] at k5
        rw [h2] at k3
        repeat' first | (with_reducible refine condD (fun h => ?_) (fun h => ?_)) | (with_reducible refine condE (fun h => ?_) (fun h => ?_)) | (with_reducible refine condN (fun h => ?_) (fun h => ?_)) | (with_reducible refine condI (fun h => ?_) (fun h => ?_)) | (with_reducible refine condS (fun h => ?_) (fun h => ?_)) | (with_reducible refine guardD (by with_unfolding_all rfl) (fun h => ?_) (fun h => ?_)) | (with_reducible refine guardE (by with_unfolding_all rfl) (fun h => ?_) (fun h => ?_)) | (with_reducible refine guardN (by with_unfolding_all rfl) (fun h => ?_) (fun h => ?_)) | (with_reducible refine guardI (by with_unfolding_all rfl) (fun h => ?_) (fun h => ?_)) | (with_reducible refine guardS (by with_unfolding_all rfl) (fun h => ?_) (fun h => ?_)) | ((refine callG k1 ?_)) | ((refine callG k2 ?_)) | ((refine callG k3 ?_)) | ((refine callG k5 ?_)) | ((refine callG hq ?_)) | ((refine callG awake3_c ?_)) | (with_reducible refine And.intro ?_ ?_; omega) | (simp only [done_eq, done_eq', fin_val, fin_tup, fin_agg, fin_ro, res_one, res_more, rv_t, rv_c, rv_l, AV.tup.injEq, AV.agg.injEq, AV.ro.injEq, List.cons.injEq, int_eq, bool_eq, Int.toNat_natCast, Int.reduceToNat, Int.toNat_zero, Int.toNat_one, Int.reduceLE, Int.reduceLT, Int.reduceBEq, Int.reduceBNe, beq_self_eq_true, bne_self_eq_false, decide_true, decide_false,  Int.reduceNeg, toNat_pred, toNat_succ, List.length_map, cnd_t, cnd_f, grd_tt, grd_u, grd_tf, grd_ft, grd_ff, g_skip, g_ops, g_seq, g_block, g_exit, g_ret, x_c, x_o, x_l, x_b, g_b, g_nil, r_all, o_nil, g_cond, o_guard, o_call, o_callv, lk, ef, o_mv, o_pick, o_bin, o_never, o_eqs, o_eqb, o_un, o_conv, o_load, o_loads, o_fld, o_idx, o_idxs, o_len, o_lens, o_ext, o_nilck, o_slc, o_slcs, o_build, o_minmax, o_mkfn, o_alloc, o_box, o_boxs, o_row, o_rowr, o_mk, o_asg, o_app, o_store, o_stores, o_eqnil, hv, eqAV, ev, view_t, view_c, view_nil, view_fn, look_own, look_box, look_junk, look_val, look_nilsl, look_ro, look_roAt, look_agg, look_tup, look_clo, look_alias, look_ref, look_into, rowOf, cellsOf, argv, vbin, vun, bnd, elemOf, putParts, setAt, zav, ASt.rid, ASt.free, AV.kill, AV.isHome, AV.noLoan, AV.cellOK, Value.oneCell', put_at, mk_at, mk_nil, initSt, true_and, and_true, and_self, implies_true, List.map_cons, List.map_nil, List.forall_mem_cons, List.not_mem_nil, false_implies, List.length_cons, List.length_nil, List.getD_cons_zero, List.getD_cons_succ, List.getD_nil, List.drop_succ_cons, List.drop_zero, List.take_succ_cons, List.take_zero, List.set_cons_zero, List.set_cons_succ, List.all_cons, List.all_nil, Bool.and_true, Bool.true_and, Bool.not_true, Bool.not_false, reduceCtorEq, if_true, if_false, Bool.false_eq_true, ↓reduceIte, Nat.reduceEqDiff, Nat.reduceAdd, Nat.reduceSub, Nat.reduceMul, Nat.reduceLeDiff, Nat.reduceLT, ne_eq, not_false_eq_true, not_true_eq_false, Nat.one_ne_zero, Nat.zero_ne_one, r5_0, r5_1, r5_2, r5_3, r5_4, r5_5, r5_6, r5_7, r5_8, r5_9, r5_10, r5_11, r5_12, r5_13, r5_14, p5, hpl, beq0_f h1, bne0_t h1]) | (exfalso; omega)
      · repeat' first | (with_reducible refine condD (fun h => ?_) (fun h => ?_)) | (with_reducible refine condE (fun h => ?_) (fun h => ?_)) | (with_reducible refine condN (fun h => ?_) (fun h => ?_)) | (with_reducible refine condI (fun h => ?_) (fun h => ?_)) | (with_reducible refine condS (fun h => ?_) (fun h => ?_)) | (with_reducible refine guardD (by with_unfolding_all rfl) (fun h => ?_) (fun h => ?_)) | (with_reducible refine guardE (by with_unfolding_all rfl) (fun h => ?_) (fun h => ?_)) | (with_reducible refine guardN (by with_unfolding_all rfl) (fun h => ?_) (fun h => ?_)) | (with_reducible refine guardI (by with_unfolding_all rfl) (fun h => ?_) (fun h => ?_)) | (with_reducible refine guardS (by with_unfolding_all rfl) (fun h => ?_) (fun h => ?_)) | ((refine callG k1 ?_)) | ((refine callG k2 ?_)) | ((refine callG k3 ?_)) | ((refine callG hq ?_)) | ((refine callG awake3_c ?_)) | (with_reducible refine And.intro ?_ ?_; omega) | (simp only [done_eq, done_eq', fin_val, fin_tup, fin_agg, fin_ro, res_one, res_more, rv_t, rv_c, rv_l, AV.tup.injEq, AV.agg.injEq, AV.ro.injEq, List.cons.injEq, int_eq, bool_eq, Int.toNat_natCast, Int.reduceToNat, Int.toNat_zero, Int.toNat_one, Int.reduceLE, Int.reduceLT, Int.reduceBEq, Int.reduceBNe, beq_self_eq_true, bne_self_eq_false, decide_true, decide_false,  Int.reduceNeg, toNat_pred, toNat_succ, List.length_map, cnd_t, cnd_f, grd_tt, grd_u, grd_tf, grd_ft, grd_ff, g_skip, g_ops, g_seq, g_block, g_exit, g_ret, x_c, x_o, x_l, x_b, g_b, g_nil, r_all, o_nil, g_cond, o_guard, o_call, o_callv, lk, ef, o_mv, o_pick, o_bin, o_never, o_eqs, o_eqb, o_un, o_conv, o_load, o_loads, o_fld, o_idx, o_idxs, o_len, o_lens, o_ext, o_nilck, o_slc, o_slcs, o_build, o_minmax, o_mkfn, o_alloc, o_box, o_boxs, o_row, o_rowr, o_mk, o_asg, o_app, o_store, o_stores, o_eqnil, hv, eqAV, ev, view_t, view_c, view_nil, view_fn, look_own, look_box, look_junk, look_val, look_nilsl, look_ro, look_roAt, look_agg, look_tup, look_clo, look_alias, look_ref, look_into, rowOf, cellsOf, argv, vbin, vun, bnd, elemOf, putParts, setAt, zav, ASt.rid, ASt.free, AV.kill, AV.isHome, AV.noLoan, AV.cellOK, Value.oneCell', put_at, mk_at, mk_nil, initSt, true_and, and_true, and_self, implies_true, List.map_cons, List.map_nil, List.forall_mem_cons, List.not_mem_nil, false_implies, List.length_cons, List.length_nil, List.getD_cons_zero, List.getD_cons_succ, List.getD_nil, List.drop_succ_cons, List.drop_zero, List.take_succ_cons, List.take_zero, List.set_cons_zero, List.set_cons_succ, List.all_cons, List.all_nil, Bool.and_true, Bool.true_and, Bool.not_true, Bool.not_false, reduceCtorEq, if_true, if_false, Bool.false_eq_true, ↓reduceIte, Nat.reduceEqDiff, Nat.reduceAdd, Nat.reduceSub, Nat.reduceMul, Nat.reduceLeDiff, Nat.reduceLT, ne_eq, not_false_eq_true, not_true_eq_false, Nat.one_ne_zero, Nat.zero_ne_one, r5_0, r5_1, r5_2, r5_3, r5_4, r5_5, r5_6, r5_7, r5_8, r5_9, r5_10, r5_11, r5_12, r5_13, r5_14, p5, hpl, beq0_f h1, bne0_t h1, beq0_f h2, bne0_t h2]) | (exfalso; omega)
  · rw [presF_no h0] at k1
    repeat' first | (with_reducible refine condD (fun h => ?_) (fun h => ?_)) | (with_reducible refine condE (fun h => ?_) (fun h => ?_)) | (with_reducible refine condN (fun h => ?_) (fun h => ?_)) | (with_reducible refine condI (fun h => ?_) (fun h => ?_)) | (with_reducible refine condS (fun h => ?_) (fun h => ?_)) | (with_reducible refine guardD (by with_unfolding_all rfl) (fun h => ?_) (fun h => ?_)) | (with_reducible refine guardE (by with_unfolding_all rfl) (fun h => ?_) (fun h => ?_)) | (with_reducible refine guardN (by with_unfolding_all rfl) (fun h => ?_) (fun h => ?_)) | (with_reducible refine guardI (by with_unfolding_all rfl) (fun h => ?_) (fun h => ?_)) | (with_reducible refine guardS (by with_unfolding_all rfl) (fun h => ?_) (fun h => ?_)) | ((refine callG k1 ?_)) | ((refine callG awake3_c ?_)) | (with_reducible refine And.intro ?_ ?_; omega) | (simp only [done_eq, done_eq', fin_val, fin_tup, fin_agg, fin_ro, res_one, res_more, rv_t, rv_c, rv_l, AV.tup.injEq, AV.agg.injEq, AV.ro.injEq, List.cons.injEq, int_eq, bool_eq, Int.toNat_natCast, Int.reduceToNat, Int.toNat_zero, Int.toNat_one, Int.reduceLE, Int.reduceLT, Int.reduceBEq, Int.reduceBNe, beq_self_eq_true, bne_self_eq_false, decide_true, decide_false,  Int.reduceNeg, toNat_pred, toNat_succ, List.length_map, cnd_t, cnd_f, grd_tt, grd_u, grd_tf, grd_ft, grd_ff, g_skip, g_ops, g_seq, g_block, g_exit, g_ret, x_c, x_o, x_l, x_b, g_b, g_nil, r_all, o_nil, g_cond, o_guard, o_call, o_callv, lk, ef, o_mv, o_pick, o_bin, o_never, o_eqs, o_eqb, o_un, o_conv, o_load, o_loads, o_fld, o_idx, o_idxs, o_len, o_lens, o_ext, o_nilck, o_slc, o_slcs, o_build, o_minmax, o_mkfn, o_alloc, o_box, o_boxs, o_row, o_rowr, o_mk, o_asg, o_app, o_store, o_stores, o_eqnil, hv, eqAV, ev, view_t, view_c, view_nil, view_fn, look_own, look_box, look_junk, look_val, look_nilsl, look_ro, look_roAt, look_agg, look_tup, look_clo, look_alias, look_ref, look_into, rowOf, cellsOf, argv, vbin, vun, bnd, elemOf, putParts, setAt, zav, ASt.rid, ASt.free, AV.kill, AV.isHome, AV.noLoan, AV.cellOK, Value.oneCell', put_at, mk_at, mk_nil, initSt, true_and, and_true, and_self, implies_true, List.map_cons, List.map_nil, List.forall_mem_cons, List.not_mem_nil, false_implies, List.length_cons, List.length_nil, List.getD_cons_zero, List.getD_cons_succ, List.getD_nil, List.drop_succ_cons, List.drop_zero, List.take_succ_cons, List.take_zero, List.set_cons_zero, List.set_cons_succ, List.all_cons, List.all_nil, Bool.and_true, Bool.true_and, Bool.not_true, Bool.not_false, reduceCtorEq, if_true, if_false, Bool.false_eq_true, ↓reduceIte, Nat.reduceEqDiff, Nat.reduceAdd, Nat.reduceSub, Nat.reduceMul, Nat.reduceLeDiff, Nat.reduceLT, ne_eq, not_false_eq_true, not_true_eq_false, Nat.one_ne_zero, Nat.zero_ne_one, r5_0, r5_1, r5_2, r5_3, r5_4, r5_5, r5_6, r5_7, r5_8, r5_9, r5_10, r5_11, r5_12, r5_13, r5_14, p5, beq0_f h0, bne0_t h0]) | (exfalso; omega)
theorem tightpres_c : ∀ avs, HasArgs [.one (.row [.int .i64, .int .i64, .int .i64, .int .i64, .bool]), .one (.int .i64), .one (.int .i64)] avs → CallOK Try.prog 5 avs (.val (.bool true)) := by
  intro avs h
  obtain ⟨v0, r, rfl, h0, h⟩ := args_cons h
  obtain ⟨v1, r, rfl, h1, h⟩ := args_cons h
  obtain ⟨v2, r, rfl, h2, h⟩ := args_cons h
  obtain rfl := args_nil h
  obtain ⟨n0, rfl, hl0, hb0⟩ := has_row h0 all_smp
  obtain ⟨n1, rfl, hb1⟩ := has_int h1
  obtain ⟨n2, rfl, hb2⟩ := has_int h2
  exact tightpres_d n0 n1 n2

/-! ### The row -/
open Go.ChangeShapes Go.WideShapes Go.ChangeAt
set_option maxRecDepth 100000 in
theorem tightpres_lifted (os : Os) (started : os.Started) (H : Type) (enc : TypeId × Value → H) :
    ReturnsInHanded {} Try.checked os 5 .any (Rows.sampleTightsPresentSpec.pre6 enc Try.prog Try.f5 Rows.sampleTightsPresentRow.domain false) (Rows.sampleTightsPresentSpec.post enc Try.prog Try.f5 false true false false) := by
  refine returnsInHanded_of_change (C := Try.checked) own_knob started (by kernel_rfl) Try.func5
    (ChangeSpec.witness6 (enc := enc) (C := Try.checked) false ⟨#[], #[.slice none 0 0, .int .i64 0, .int .i64 0], []⟩ 8 (by kernel_rfl) (by kernel_rfl) (by kernel_rfl) (by kernel_rfl)) ?_
  intro W base args ds gs before hval hW _ _
  refine law_step rfl (by kernel_rfl) (fun ds h => ?_) ?_ hval hW ?_
  · match ds, h with | [a, b, c], _ => exact ⟨rfl, rfl, rfl⟩
  · rw [Try.params5]
    intro t ht
    simp only [List.mem_cons, List.not_mem_nil, or_false] at ht
    repeat' (first | (rcases ht with rfl | ht) | subst ht)
    all_goals exact ⟨by kernel_rfl, of_decide_eq_true (by kernel_rfl)⟩
  · rw [Try.params5]
    intro hin
    exact law_dm (ss := [.one (.row [.int .i64, .int .i64, .int .i64, .int .i64, .bool]), .one (.int .i64), .one (.int .i64)]) (by kernel_rfl) hin tightpres_c

theorem tightpres_holds : Rows.SampleTightsPresentSaid :=
  OpenClaim.holds_of_wide 5 Try.f5 rfl rfl rfl rfl rfl rfl rfl ⟨rfl, rfl, rfl, rfl, rfl⟩ rfl rfl rfl rfl rfl (by kernel_rfl) Try.func5 (by kernel_rfl)
    (of_decide_eq_true (by kernel_rfl)) (by unfold Func.isWrapper; first | (rw [if_pos (by decide +kernel)]; kernel_rfl) | (rw [if_neg (by decide +kernel)]; exact ⟨rfl, rfl⟩))
    (fun os started H enc _ => tightpres_lifted os started H enc)

end Go.Proofs.Ytkklgckmdnejfaa
