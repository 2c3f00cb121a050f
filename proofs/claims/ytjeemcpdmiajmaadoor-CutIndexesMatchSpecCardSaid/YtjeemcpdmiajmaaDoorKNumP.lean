/- The reference's numbers: headendref1's Minus, Plus, IsZero, Compare, by the machine on data. -/
import Derived.Test.YtjeemcpdmiajmaaDoorKNumQ
namespace Go.Proofs.YtjeemcpdmiajmaaDoor
open Go.RowKit
set_option linter.unusedSimpArgs false

def cmpI (a b : Int) : Int := if a < b then -1 else if b < a then 1 else 0
def sgnI (neg : Bool) (t : Nat) : Int := if neg then -(t : Int) else t
theorem lm_sum {a b k : Nat} (ha : (lm a).length ≤ k) (hb : (lm b).length ≤ k) : (lm (a + b)).length ≤ k + 1 := by
  refine lm_len ?_
  have h1 := Nat.lt_of_lt_of_le (lm_below a) (Nat.pow_le_pow_right (show 0 < 10000 by decide) ha)
  have h2 := Nat.lt_of_lt_of_le (lm_below b) (Nat.pow_le_pow_right (show 0 < 10000 by decide) hb)
  have h7 : 10000 ^ (k + 1) = 10000 ^ k * 10000 := Nat.pow_succ _ _
  generalize 10000 ^ k = P7 at *
  rw [h7]
  omega
theorem topAV_0 : topAV 0 = .nilsl := if_pos rfl
theorem topAV_n {t : Nat} (h : t ≠ 0) : topAV t = .ro ((lm t).map oneN) := if_neg h
/-! headend/headendref1.Plus -/
def r25_0 : List POp := [⟨2, .boxs (.t 0), none⟩,
  ⟨3, .boxs (.t 1), none⟩,
  ⟨4, .alloc [.bool false, .slice none 0 0, .slice none 0 0], none⟩]
def r25_1 : List POp := [⟨8, .fld 1 (.t 2), none⟩,
  ⟨9, .load (.t 8), none⟩,
  ⟨10, .fld 2 (.t 3), none⟩,
  ⟨11, .load (.t 10), none⟩,
  ⟨12, .call 37 [.t 9, .t 11], none⟩,
  ⟨13, .fld 1 (.t 3), none⟩,
  ⟨14, .load (.t 13), none⟩,
  ⟨15, .fld 2 (.t 2), none⟩,
  ⟨16, .load (.t 15), none⟩,
  ⟨17, .call 37 [.t 14, .t 16], none⟩,
  ⟨18, .fld 2 (.t 2), none⟩,
  ⟨19, .load (.t 18), none⟩,
  ⟨20, .fld 2 (.t 3), none⟩,
  ⟨21, .load (.t 20), none⟩,
  ⟨22, .call 37 [.t 19, .t 21], none⟩,
  ⟨5, .asg (.t 12), none⟩,
  ⟨6, .asg (.t 17), none⟩,
  ⟨7, .asg (.t 22), none⟩]
def r25_2 : List POp := [⟨23, .fld 0 (.t 2), none⟩,
  ⟨24, .load (.t 23), none⟩,
  ⟨25, .fld 0 (.t 3), none⟩,
  ⟨26, .load (.t 25), none⟩,
  ⟨27, .eqb false (.t 24) (.t 26), none⟩]
def r25_3 : List POp := [⟨28, .fld 0 (.t 2), none⟩,
  ⟨29, .load (.t 28), none⟩,
  ⟨30, .mv (.t 5), none⟩,
  ⟨31, .mv (.t 6), none⟩,
  ⟨32, .call 39 [.t 30, .t 31], none⟩,
  ⟨33, .mv (.t 7), none⟩,
  ⟨34, .call 38 [.t 29, .t 32, .t 33], none⟩,
  ⟨0, .stores 3 (.t 4) (.t 34), none⟩]
def r25_4 : List POp := [⟨35, .mv (.t 5), none⟩,
  ⟨36, .mv (.t 6), none⟩,
  ⟨37, .call 32 [.t 35, .t 36], none⟩,
  ⟨38, .bin .geq (.t 37) (.c (.int .i64 0)), none⟩]
def r25_5 : List POp := [⟨39, .fld 0 (.t 2), none⟩,
  ⟨40, .load (.t 39), none⟩,
  ⟨41, .mv (.t 5), none⟩,
  ⟨42, .mv (.t 6), none⟩,
  ⟨43, .call 40 [.t 41, .t 42], none⟩,
  ⟨44, .mv (.t 7), none⟩,
  ⟨45, .call 38 [.t 40, .t 43, .t 44], none⟩,
  ⟨0, .stores 3 (.t 4) (.t 45), none⟩]
def r25_6 : List POp := [⟨46, .fld 0 (.t 3), none⟩,
  ⟨47, .load (.t 46), none⟩,
  ⟨48, .mv (.t 6), none⟩,
  ⟨49, .mv (.t 5), none⟩,
  ⟨50, .call 40 [.t 48, .t 49], none⟩,
  ⟨51, .mv (.t 7), none⟩,
  ⟨52, .call 38 [.t 47, .t 50, .t 51], none⟩,
  ⟨0, .stores 3 (.t 4) (.t 52), none⟩]
def p25 : PCode := .seq (.ops r25_0) (.seq (.ops r25_1) (.seq (.seq (.ops r25_2) (.cond (.t 27) (.seq (.ops r25_3) (.ret)) (.skip))) (.seq (.seq (.ops r25_4) (.cond (.t 38) (.seq (.ops r25_5) (.ret)) (.skip))) (.seq (.ops r25_6) (.ret)))))
theorem ok25 : okFunc Tryd.prog 25 [.c 4 3] 2 p25 = true := by kernel_rfl
theorem sum_same (n : Bool) (A B : Nat) : sgnI n (A + B) = sgnI n A + sgnI n B := by cases n <;> simp [sgnI] <;> omega
theorem sum_ge {n1 n2 : Bool} (h : (n1 == n2) = false) {A B : Nat} (q : B ≤ A) : sgnI n1 (A - B) = sgnI n1 A + sgnI n2 B := by cases n1 <;> cases n2 <;> simp [sgnI] at h ⊢ <;> omega
theorem sum_lt {n1 n2 : Bool} (h : (n1 == n2) = false) {A B : Nat} (q : A ≤ B) : sgnI n2 (B - A) = sgnI n1 A + sgnI n2 B := by cases n1 <;> cases n2 <;> simp [sgnI] at h ⊢ <;> omega
theorem sgn_mul (n : Bool) (a b : Nat) : sgnI n (a * b) = sgnI n a * b := by cases n <;> simp [sgnI, Int.neg_mul]
theorem rq_agg (z : Int) (q : Nat) : ∃ u v w, RQ z q = [u, v, w] := ⟨_, _, _, rfl⟩
set_option maxRecDepth 20000 in
set_option maxHeartbeats 2000000 in
theorem plus_c (n1 : Bool) (t1 b1 : Nat) (n2 : Bool) (t2 b2 : Nat) (h1 : 0 < b1) (h2 : 0 < b2) (k1 : (lm t1).length ≤ 400) (k2 : (lm b1).length ≤ 400) (k3 : (lm t2).length ≤ 400) (k4 : (lm b2).length ≤ 400) :
    CallOK Tryd.prog 25 [.agg (numAV n1 t1 b1), .agg (numAV n2 t2 b2)] (.agg (RQ (sgnI n1 t1 * b2 + sgnI n2 t2 * b1) (b1 * b2))) := by
  refine call_of mixed ok25 rfl ?_
  have hM1 := times_c t1 b2 (by omega) (by omega)
  have hM2 := times_c t2 b1 (by omega) (by omega)
  have hM3 := times_c b1 b2 (by omega) (by omega)
  have kA : (lm (t1 * b2)).length ≤ 800 := Nat.le_trans lm_prod (by omega)
  have kB : (lm (t2 * b1)).length ≤ 800 := Nat.le_trans lm_prod (by omega)
  have kC : (lm (b1 * b2)).length ≤ 800 := Nat.le_trans lm_prod (by omega)
  have hbb : 0 < b1 * b2 := Nat.mul_pos h1 h2
  rw [← sgn_mul, ← sgn_mul]
  have hAd := add_c (t1 * b2) (t2 * b1) (by omega) (by omega)
  have hCm := compare_c (t1 * b2) (t2 * b1) (by omega)
  have hSum : (lm (t1 * b2 + t2 * b1)).length ≤ 801 := lm_sum kA kB
  have hL1 := lowest_c n1 (t1 * b2 + t2 * b1) (b1 * b2) hbb (by omega) (by omega)
  rw [rq_of] at hL1
  have hM1z : t1 = 0 → CallOK Tryd.prog 37 [.ro [], .ro ((lm b2).map oneN)] (.ro ((lm (t1 * b2)).map oneN)) := fun z => by rw [z, lm_0, List.map_nil] at hM1; rw [z]; exact hM1
  have hM2z : t2 = 0 → CallOK Tryd.prog 37 [.ro [], .ro ((lm b1).map oneN)] (.ro ((lm (t2 * b1)).map oneN)) := fun z => by rw [z, lm_0, List.map_nil] at hM2; rw [z]; exact hM2
  unfold numAV
  generalize t1 * b2 = A at *
  generalize t2 * b1 = B at *
  generalize b1 * b2 = C at *
  by_cases hn : (n1 == n2) = true
  · have e : sgnI n1 A + sgnI n2 B = sgnI n1 (A + B) := by rw [sum_same, ← eq_of_beq hn]
    rw [e]
    unfold sgnI
    clear e
    obtain ⟨u, v, w, hR⟩ := rq_agg (if n1 = true then -((A + B : Nat) : Int) else ((A + B : Nat) : Int)) C
    rw [hR] at hL1 ⊢
    clear hR
    by_cases z1 : t1 = 0 <;> by_cases z2 : t2 = 0
    · have hT1 := hM1z z1
      have hT2 := hM2z z2
      rw [show topAV t1 = .nilsl from if_pos z1, show topAV t2 = .nilsl from if_pos z2]
      clear hM1z hM2z hM1 hM2
      repeat' first | ((with_reducible (first | refine condD ?_ ?_ | refine condE ?_ ?_ | refine condN ?_ ?_ | refine condI ?_ ?_ | refine condS ?_ ?_)) <;> intro h) | ((with_reducible (first | refine guardD (by with_unfolding_all rfl) ?_ ?_ | refine guardE (by with_unfolding_all rfl) ?_ ?_ | refine guardN (by with_unfolding_all rfl) ?_ ?_ | refine guardI (by with_unfolding_all rfl) ?_ ?_ | refine guardS (by with_unfolding_all rfl) ?_ ?_)) <;> intro h) | ((refine callG hT1 ?_)) | ((refine callG hT2 ?_)) | ((refine callG hM3 ?_)) | ((refine callG hAd ?_)) | ((refine callG hL1 ?_)) | (with_reducible refine And.intro ?_ ?_; omega) | (simp only [done_eq, done_eq', donet_eq, donet_eq', fin_val, fin_tup, fin_agg, fin_ro, res_one, res_more, rv_t, rv_c, rv_l, AV.tup.injEq, AV.agg.injEq, AV.ro.injEq, List.cons.injEq, int_eq, bool_eq, Int.toNat_natCast, Int.reduceToNat, Int.toNat_zero, Int.toNat_one, Int.reduceLE, Int.reduceLT, Int.reduceBEq, Int.reduceBNe, beq_self_eq_true, bne_self_eq_false, decide_true, decide_false,  Int.reduceNeg, toNat_pred, toNat_succ, List.length_map, cnd_t, cnd_f, grd_tt, grd_u, grd_tf, grd_ft, grd_ff, g_skip, g_ops, g_seq, g_block, g_exit, g_ret, x_c, x_o, x_l, x_b, g_b, g_nil, r_all, o_nil, g_cond, o_guard, o_call, o_callm, o_callt, o_callx, o_callv, lk, ef, o_mv, o_pick, o_bin, o_never, o_eqs, o_eqb, o_un, o_conv, o_load, o_loadr, o_idxr, o_loads, o_fld, o_idx, o_idxs, o_len, o_lens, o_ext, o_nilck, o_slc, o_slcs, o_build, o_minmax, o_mkfn, o_alloc, o_box, o_boxs, o_row, o_rowr, o_mk, o_asg, o_app, o_store, o_stores, o_eqnil, hv, eqAV, ev, view_t, view_c, view_nil, view_fn, look_own, look_box, look_junk, look_val, look_nilsl, look_ro, look_roAt, look_agg, look_tup, look_clo, look_alias, look_ref, look_into, rowOf, cellsOf, argv, vbin, vun, bnd, elemOf, putParts, setAt, zav, ASt.rid, ASt.free, AV.kill, AV.isHome, AV.noLoan, AV.cellOK, Value.oneCell', put_at, mk_at, mk_nil, initSt, true_and, and_true, and_self, implies_true, List.map_cons, List.map_nil, List.forall_mem_cons, List.not_mem_nil, false_implies, List.length_cons, List.length_nil, List.getD_cons_zero, List.getD_cons_succ, List.getD_nil, List.drop_succ_cons, List.drop_zero, List.take_succ_cons, List.take_zero, List.set_cons_zero, List.set_cons_succ, List.all_cons, List.all_nil, Bool.and_true, Bool.true_and, Bool.not_true, Bool.not_false, reduceCtorEq, if_true, if_false, Bool.false_eq_true, ↓reduceIte, Nat.reduceEqDiff, Nat.reduceAdd, Nat.reduceSub, Nat.reduceMul, Nat.reduceLeDiff, Nat.reduceLT, ne_eq, not_false_eq_true, not_true_eq_false, Nat.one_ne_zero, Nat.zero_ne_one, r25_0, r25_1, r25_2, r25_3, r25_4, r25_5, r25_6, p25, hn]) | (exfalso; omega)
    · have hT1 := hM1z z1
      have hT2 := hM2
      rw [show topAV t1 = .nilsl from if_pos z1, show topAV t2 = .ro ((lm t2).map oneN) from if_neg z2]
      clear hM1z hM2z hM1 hM2
      repeat' first | ((with_reducible (first | refine condD ?_ ?_ | refine condE ?_ ?_ | refine condN ?_ ?_ | refine condI ?_ ?_ | refine condS ?_ ?_)) <;> intro h) | ((with_reducible (first | refine guardD (by with_unfolding_all rfl) ?_ ?_ | refine guardE (by with_unfolding_all rfl) ?_ ?_ | refine guardN (by with_unfolding_all rfl) ?_ ?_ | refine guardI (by with_unfolding_all rfl) ?_ ?_ | refine guardS (by with_unfolding_all rfl) ?_ ?_)) <;> intro h) | ((refine callG hT1 ?_)) | ((refine callG hT2 ?_)) | ((refine callG hM3 ?_)) | ((refine callG hAd ?_)) | ((refine callG hL1 ?_)) | (with_reducible refine And.intro ?_ ?_; omega) | (simp only [done_eq, done_eq', donet_eq, donet_eq', fin_val, fin_tup, fin_agg, fin_ro, res_one, res_more, rv_t, rv_c, rv_l, AV.tup.injEq, AV.agg.injEq, AV.ro.injEq, List.cons.injEq, int_eq, bool_eq, Int.toNat_natCast, Int.reduceToNat, Int.toNat_zero, Int.toNat_one, Int.reduceLE, Int.reduceLT, Int.reduceBEq, Int.reduceBNe, beq_self_eq_true, bne_self_eq_false, decide_true, decide_false,  Int.reduceNeg, toNat_pred, toNat_succ, List.length_map, cnd_t, cnd_f, grd_tt, grd_u, grd_tf, grd_ft, grd_ff, g_skip, g_ops, g_seq, g_block, g_exit, g_ret, x_c, x_o, x_l, x_b, g_b, g_nil, r_all, o_nil, g_cond, o_guard, o_call, o_callm, o_callt, o_callx, o_callv, lk, ef, o_mv, o_pick, o_bin, o_never, o_eqs, o_eqb, o_un, o_conv, o_load, o_loadr, o_idxr, o_loads, o_fld, o_idx, o_idxs, o_len, o_lens, o_ext, o_nilck, o_slc, o_slcs, o_build, o_minmax, o_mkfn, o_alloc, o_box, o_boxs, o_row, o_rowr, o_mk, o_asg, o_app, o_store, o_stores, o_eqnil, hv, eqAV, ev, view_t, view_c, view_nil, view_fn, look_own, look_box, look_junk, look_val, look_nilsl, look_ro, look_roAt, look_agg, look_tup, look_clo, look_alias, look_ref, look_into, rowOf, cellsOf, argv, vbin, vun, bnd, elemOf, putParts, setAt, zav, ASt.rid, ASt.free, AV.kill, AV.isHome, AV.noLoan, AV.cellOK, Value.oneCell', put_at, mk_at, mk_nil, initSt, true_and, and_true, and_self, implies_true, List.map_cons, List.map_nil, List.forall_mem_cons, List.not_mem_nil, false_implies, List.length_cons, List.length_nil, List.getD_cons_zero, List.getD_cons_succ, List.getD_nil, List.drop_succ_cons, List.drop_zero, List.take_succ_cons, List.take_zero, List.set_cons_zero, List.set_cons_succ, List.all_cons, List.all_nil, Bool.and_true, Bool.true_and, Bool.not_true, Bool.not_false, reduceCtorEq, if_true, if_false, Bool.false_eq_true, ↓reduceIte, Nat.reduceEqDiff, Nat.reduceAdd, Nat.reduceSub, Nat.reduceMul, Nat.reduceLeDiff, Nat.reduceLT, ne_eq, not_false_eq_true, not_true_eq_false, Nat.one_ne_zero, Nat.zero_ne_one, r25_0, r25_1, r25_2, r25_3, r25_4, r25_5, r25_6, p25, hn]) | (exfalso; omega)
    · have hT1 := hM1
      have hT2 := hM2z z2
      rw [show topAV t1 = .ro ((lm t1).map oneN) from if_neg z1, show topAV t2 = .nilsl from if_pos z2]
      clear hM1z hM2z hM1 hM2
      repeat' first | ((with_reducible (first | refine condD ?_ ?_ | refine condE ?_ ?_ | refine condN ?_ ?_ | refine condI ?_ ?_ | refine condS ?_ ?_)) <;> intro h) | ((with_reducible (first | refine guardD (by with_unfolding_all rfl) ?_ ?_ | refine guardE (by with_unfolding_all rfl) ?_ ?_ | refine guardN (by with_unfolding_all rfl) ?_ ?_ | refine guardI (by with_unfolding_all rfl) ?_ ?_ | refine guardS (by with_unfolding_all rfl) ?_ ?_)) <;> intro h) | ((refine callG hT1 ?_)) | ((refine callG hT2 ?_)) | ((refine callG hM3 ?_)) | ((refine callG hAd ?_)) | ((refine callG hL1 ?_)) | (with_reducible refine And.intro ?_ ?_; omega) | (simp only [done_eq, done_eq', donet_eq, donet_eq', fin_val, fin_tup, fin_agg, fin_ro, res_one, res_more, rv_t, rv_c, rv_l, AV.tup.injEq, AV.agg.injEq, AV.ro.injEq, List.cons.injEq, int_eq, bool_eq, Int.toNat_natCast, Int.reduceToNat, Int.toNat_zero, Int.toNat_one, Int.reduceLE, Int.reduceLT, Int.reduceBEq, Int.reduceBNe, beq_self_eq_true, bne_self_eq_false, decide_true, decide_false,  Int.reduceNeg, toNat_pred, toNat_succ, List.length_map, cnd_t, cnd_f, grd_tt, grd_u, grd_tf, grd_ft, grd_ff, g_skip, g_ops, g_seq, g_block, g_exit, g_ret, x_c, x_o, x_l, x_b, g_b, g_nil, r_all, o_nil, g_cond, o_guard, o_call, o_callm, o_callt, o_callx, o_callv, lk, ef, o_mv, o_pick, o_bin, o_never, o_eqs, o_eqb, o_un, o_conv, o_load, o_loadr, o_idxr, o_loads, o_fld, o_idx, o_idxs, o_len, o_lens, o_ext, o_nilck, o_slc, o_slcs, o_build, o_minmax, o_mkfn, o_alloc, o_box, o_boxs, o_row, o_rowr, o_mk, o_asg, o_app, o_store, o_stores, o_eqnil, hv, eqAV, ev, view_t, view_c, view_nil, view_fn, look_own, look_box, look_junk, look_val, look_nilsl, look_ro, look_roAt, look_agg, look_tup, look_clo, look_alias, look_ref, look_into, rowOf, cellsOf, argv, vbin, vun, bnd, elemOf, putParts, setAt, zav, ASt.rid, ASt.free, AV.kill, AV.isHome, AV.noLoan, AV.cellOK, Value.oneCell', put_at, mk_at, mk_nil, initSt, true_and, and_true, and_self, implies_true, List.map_cons, List.map_nil, List.forall_mem_cons, List.not_mem_nil, false_implies, List.length_cons, List.length_nil, List.getD_cons_zero, List.getD_cons_succ, List.getD_nil, List.drop_succ_cons, List.drop_zero, List.take_succ_cons, List.take_zero, List.set_cons_zero, List.set_cons_succ, List.all_cons, List.all_nil, Bool.and_true, Bool.true_and, Bool.not_true, Bool.not_false, reduceCtorEq, if_true, if_false, Bool.false_eq_true, ↓reduceIte, Nat.reduceEqDiff, Nat.reduceAdd, Nat.reduceSub, Nat.reduceMul, Nat.reduceLeDiff, Nat.reduceLT, ne_eq, not_false_eq_true, not_true_eq_false, Nat.one_ne_zero, Nat.zero_ne_one, r25_0, r25_1, r25_2, r25_3, r25_4, r25_5, r25_6, p25, hn]) | (exfalso; omega)
    · have hT1 := hM1
      have hT2 := hM2
      rw [show topAV t1 = .ro ((lm t1).map oneN) from if_neg z1, show topAV t2 = .ro ((lm t2).map oneN) from if_neg z2]
      clear hM1z hM2z hM1 hM2
      repeat' first | ((with_reducible (first | refine condD ?_ ?_ | refine condE ?_ ?_ | refine condN ?_ ?_ | refine condI ?_ ?_ | refine condS ?_ ?_)) <;> intro h) | ((with_reducible (first | refine guardD (by with_unfolding_all rfl) ?_ ?_ | refine guardE (by with_unfolding_all rfl) ?_ ?_ | refine guardN (by with_unfolding_all rfl) ?_ ?_ | refine guardI (by with_unfolding_all rfl) ?_ ?_ | refine guardS (by with_unfolding_all rfl) ?_ ?_)) <;> intro h) | ((refine callG hT1 ?_)) | ((refine callG hT2 ?_)) | ((refine callG hM3 ?_)) | ((refine callG hAd ?_)) | ((refine callG hL1 ?_)) | (with_reducible refine And.intro ?_ ?_; omega) | (simp only [done_eq, done_eq', donet_eq, donet_eq', fin_val, fin_tup, fin_agg, fin_ro, res_one, res_more, rv_t, rv_c, rv_l, AV.tup.injEq, AV.agg.injEq, AV.ro.injEq, List.cons.injEq, int_eq, bool_eq, Int.toNat_natCast, Int.reduceToNat, Int.toNat_zero, Int.toNat_one, Int.reduceLE, Int.reduceLT, Int.reduceBEq, Int.reduceBNe, beq_self_eq_true, bne_self_eq_false, decide_true, decide_false,  Int.reduceNeg, toNat_pred, toNat_succ, List.length_map, cnd_t, cnd_f, grd_tt, grd_u, grd_tf, grd_ft, grd_ff, g_skip, g_ops, g_seq, g_block, g_exit, g_ret, x_c, x_o, x_l, x_b, g_b, g_nil, r_all, o_nil, g_cond, o_guard, o_call, o_callm, o_callt, o_callx, o_callv, lk, ef, o_mv, o_pick, o_bin, o_never, o_eqs, o_eqb, o_un, o_conv, o_load, o_loadr, o_idxr, o_loads, o_fld, o_idx, o_idxs, o_len, o_lens, o_ext, o_nilck, o_slc, o_slcs, o_build, o_minmax, o_mkfn, o_alloc, o_box, o_boxs, o_row, o_rowr, o_mk, o_asg, o_app, o_store, o_stores, o_eqnil, hv, eqAV, ev, view_t, view_c, view_nil, view_fn, look_own, look_box, look_junk, look_val, look_nilsl, look_ro, look_roAt, look_agg, look_tup, look_clo, look_alias, look_ref, look_into, rowOf, cellsOf, argv, vbin, vun, bnd, elemOf, putParts, setAt, zav, ASt.rid, ASt.free, AV.kill, AV.isHome, AV.noLoan, AV.cellOK, Value.oneCell', put_at, mk_at, mk_nil, initSt, true_and, and_true, and_self, implies_true, List.map_cons, List.map_nil, List.forall_mem_cons, List.not_mem_nil, false_implies, List.length_cons, List.length_nil, List.getD_cons_zero, List.getD_cons_succ, List.getD_nil, List.drop_succ_cons, List.drop_zero, List.take_succ_cons, List.take_zero, List.set_cons_zero, List.set_cons_succ, List.all_cons, List.all_nil, Bool.and_true, Bool.true_and, Bool.not_true, Bool.not_false, reduceCtorEq, if_true, if_false, Bool.false_eq_true, ↓reduceIte, Nat.reduceEqDiff, Nat.reduceAdd, Nat.reduceSub, Nat.reduceMul, Nat.reduceLeDiff, Nat.reduceLT, ne_eq, not_false_eq_true, not_true_eq_false, Nat.one_ne_zero, Nat.zero_ne_one, r25_0, r25_1, r25_2, r25_3, r25_4, r25_5, r25_6, p25, hn]) | (exfalso; omega)
  have hn2 : (n1 == n2) = false := by simpa using hn
  clear hn hL1 hAd
  by_cases hq : B ≤ A
  · have hge : (0 : Int) ≤ cmpN A B := by
      unfold cmpN
      split
      · omega
      · split <;> omega
    have hLs := less_c A B hq (by omega)
    have hL1 := lowest_c n1 (A - B) C hbb (Nat.le_trans (lm_le (Nat.sub_le _ _)) (by omega)) (by omega)
    rw [rq_of] at hL1
    have e := sum_ge hn2 hq
    rw [← e]
    unfold sgnI
    clear e
    obtain ⟨u, v, w, hR⟩ := rq_agg (if n1 = true then -((A - B : Nat) : Int) else ((A - B : Nat) : Int)) C
    rw [hR] at hL1 ⊢
    clear hR
    generalize cmpN A B = cc at *
    by_cases z1 : t1 = 0 <;> by_cases z2 : t2 = 0
    · have hT1 := hM1z z1
      have hT2 := hM2z z2
      rw [show topAV t1 = .nilsl from if_pos z1, show topAV t2 = .nilsl from if_pos z2]
      clear hM1z hM2z hM1 hM2
      repeat' first | ((with_reducible (first | refine condD ?_ ?_ | refine condE ?_ ?_ | refine condN ?_ ?_ | refine condI ?_ ?_ | refine condS ?_ ?_)) <;> intro h) | ((with_reducible (first | refine guardD (by with_unfolding_all rfl) ?_ ?_ | refine guardE (by with_unfolding_all rfl) ?_ ?_ | refine guardN (by with_unfolding_all rfl) ?_ ?_ | refine guardI (by with_unfolding_all rfl) ?_ ?_ | refine guardS (by with_unfolding_all rfl) ?_ ?_)) <;> intro h) | ((refine callG hT1 ?_)) | ((refine callG hT2 ?_)) | ((refine callG hM3 ?_)) | ((refine callG hLs ?_)) | ((refine callG hCm ?_)) | ((refine callG hL1 ?_)) | (with_reducible refine And.intro ?_ ?_; omega) | (simp only [done_eq, done_eq', donet_eq, donet_eq', fin_val, fin_tup, fin_agg, fin_ro, res_one, res_more, rv_t, rv_c, rv_l, AV.tup.injEq, AV.agg.injEq, AV.ro.injEq, List.cons.injEq, int_eq, bool_eq, Int.toNat_natCast, Int.reduceToNat, Int.toNat_zero, Int.toNat_one, Int.reduceLE, Int.reduceLT, Int.reduceBEq, Int.reduceBNe, beq_self_eq_true, bne_self_eq_false, decide_true, decide_false,  Int.reduceNeg, toNat_pred, toNat_succ, List.length_map, cnd_t, cnd_f, grd_tt, grd_u, grd_tf, grd_ft, grd_ff, g_skip, g_ops, g_seq, g_block, g_exit, g_ret, x_c, x_o, x_l, x_b, g_b, g_nil, r_all, o_nil, g_cond, o_guard, o_call, o_callm, o_callt, o_callx, o_callv, lk, ef, o_mv, o_pick, o_bin, o_never, o_eqs, o_eqb, o_un, o_conv, o_load, o_loadr, o_idxr, o_loads, o_fld, o_idx, o_idxs, o_len, o_lens, o_ext, o_nilck, o_slc, o_slcs, o_build, o_minmax, o_mkfn, o_alloc, o_box, o_boxs, o_row, o_rowr, o_mk, o_asg, o_app, o_store, o_stores, o_eqnil, hv, eqAV, ev, view_t, view_c, view_nil, view_fn, look_own, look_box, look_junk, look_val, look_nilsl, look_ro, look_roAt, look_agg, look_tup, look_clo, look_alias, look_ref, look_into, rowOf, cellsOf, argv, vbin, vun, bnd, elemOf, putParts, setAt, zav, ASt.rid, ASt.free, AV.kill, AV.isHome, AV.noLoan, AV.cellOK, Value.oneCell', put_at, mk_at, mk_nil, initSt, true_and, and_true, and_self, implies_true, List.map_cons, List.map_nil, List.forall_mem_cons, List.not_mem_nil, false_implies, List.length_cons, List.length_nil, List.getD_cons_zero, List.getD_cons_succ, List.getD_nil, List.drop_succ_cons, List.drop_zero, List.take_succ_cons, List.take_zero, List.set_cons_zero, List.set_cons_succ, List.all_cons, List.all_nil, Bool.and_true, Bool.true_and, Bool.not_true, Bool.not_false, reduceCtorEq, if_true, if_false, Bool.false_eq_true, ↓reduceIte, Nat.reduceEqDiff, Nat.reduceAdd, Nat.reduceSub, Nat.reduceMul, Nat.reduceLeDiff, Nat.reduceLT, ne_eq, not_false_eq_true, not_true_eq_false, Nat.one_ne_zero, Nat.zero_ne_one, r25_0, r25_1, r25_2, r25_3, r25_4, r25_5, r25_6, p25, hn2, hge]) | (exfalso; omega)
    · have hT1 := hM1z z1
      have hT2 := hM2
      rw [show topAV t1 = .nilsl from if_pos z1, show topAV t2 = .ro ((lm t2).map oneN) from if_neg z2]
      clear hM1z hM2z hM1 hM2
      repeat' first | ((with_reducible (first | refine condD ?_ ?_ | refine condE ?_ ?_ | refine condN ?_ ?_ | refine condI ?_ ?_ | refine condS ?_ ?_)) <;> intro h) | ((with_reducible (first | refine guardD (by with_unfolding_all rfl) ?_ ?_ | refine guardE (by with_unfolding_all rfl) ?_ ?_ | refine guardN (by with_unfolding_all rfl) ?_ ?_ | refine guardI (by with_unfolding_all rfl) ?_ ?_ | refine guardS (by with_unfolding_all rfl) ?_ ?_)) <;> intro h) | ((refine callG hT1 ?_)) | ((refine callG hT2 ?_)) | ((refine callG hM3 ?_)) | ((refine callG hLs ?_)) | ((refine callG hCm ?_)) | ((refine callG hL1 ?_)) | (with_reducible refine And.intro ?_ ?_; omega) | (simp only [done_eq, done_eq', donet_eq, donet_eq', fin_val, fin_tup, fin_agg, fin_ro, res_one, res_more, rv_t, rv_c, rv_l, AV.tup.injEq, AV.agg.injEq, AV.ro.injEq, List.cons.injEq, int_eq, bool_eq, Int.toNat_natCast, Int.reduceToNat, Int.toNat_zero, Int.toNat_one, Int.reduceLE, Int.reduceLT, Int.reduceBEq, Int.reduceBNe, beq_self_eq_true, bne_self_eq_false, decide_true, decide_false,  Int.reduceNeg, toNat_pred, toNat_succ, List.length_map, cnd_t, cnd_f, grd_tt, grd_u, grd_tf, grd_ft, grd_ff, g_skip, g_ops, g_seq, g_block, g_exit, g_ret, x_c, x_o, x_l, x_b, g_b, g_nil, r_all, o_nil, g_cond, o_guard, o_call, o_callm, o_callt, o_callx, o_callv, lk, ef, o_mv, o_pick, o_bin, o_never, o_eqs, o_eqb, o_un, o_conv, o_load, o_loadr, o_idxr, o_loads, o_fld, o_idx, o_idxs, o_len, o_lens, o_ext, o_nilck, o_slc, o_slcs, o_build, o_minmax, o_mkfn, o_alloc, o_box, o_boxs, o_row, o_rowr, o_mk, o_asg, o_app, o_store, o_stores, o_eqnil, hv, eqAV, ev, view_t, view_c, view_nil, view_fn, look_own, look_box, look_junk, look_val, look_nilsl, look_ro, look_roAt, look_agg, look_tup, look_clo, look_alias, look_ref, look_into, rowOf, cellsOf, argv, vbin, vun, bnd, elemOf, putParts, setAt, zav, ASt.rid, ASt.free, AV.kill, AV.isHome, AV.noLoan, AV.cellOK, Value.oneCell', put_at, mk_at, mk_nil, initSt, true_and, and_true, and_self, implies_true, List.map_cons, List.map_nil, List.forall_mem_cons, List.not_mem_nil, false_implies, List.length_cons, List.length_nil, List.getD_cons_zero, List.getD_cons_succ, List.getD_nil, List.drop_succ_cons, List.drop_zero, List.take_succ_cons, List.take_zero, List.set_cons_zero, List.set_cons_succ, List.all_cons, List.all_nil, Bool.and_true, Bool.true_and, Bool.not_true, Bool.not_false, reduceCtorEq, if_true, if_false, Bool.false_eq_true, ↓reduceIte, Nat.reduceEqDiff, Nat.reduceAdd, Nat.reduceSub, Nat.reduceMul, Nat.reduceLeDiff, Nat.reduceLT, ne_eq, not_false_eq_true, not_true_eq_false, Nat.one_ne_zero, Nat.zero_ne_one, r25_0, r25_1, r25_2, r25_3, r25_4, r25_5, r25_6, p25, hn2, hge]) | (exfalso; omega)
    · have hT1 := hM1
      have hT2 := hM2z z2
      rw [show topAV t1 = .ro ((lm t1).map oneN) from if_neg z1, show topAV t2 = .nilsl from if_pos z2]
      clear hM1z hM2z hM1 hM2
      repeat' first | ((with_reducible (first | refine condD ?_ ?_ | refine condE ?_ ?_ | refine condN ?_ ?_ | refine condI ?_ ?_ | refine condS ?_ ?_)) <;> intro h) | ((with_reducible (first | refine guardD (by with_unfolding_all rfl) ?_ ?_ | refine guardE (by with_unfolding_all rfl) ?_ ?_ | refine guardN (by with_unfolding_all rfl) ?_ ?_ | refine guardI (by with_unfolding_all rfl) ?_ ?_ | refine guardS (by with_unfolding_all rfl) ?_ ?_)) <;> intro h) | ((refine callG hT1 ?_)) | ((refine callG hT2 ?_)) | ((refine callG hM3 ?_)) | ((refine callG hLs ?_)) | ((refine callG hCm ?_)) | ((refine callG hL1 ?_)) | (with_reducible refine And.intro ?_ ?_; omega) | (simp only [done_eq, done_eq', donet_eq, donet_eq', fin_val, fin_tup, fin_agg, fin_ro, res_one, res_more, rv_t, rv_c, rv_l, AV.tup.injEq, AV.agg.injEq, AV.ro.injEq, List.cons.injEq, int_eq, bool_eq, Int.toNat_natCast, Int.reduceToNat, Int.toNat_zero, Int.toNat_one, Int.reduceLE, Int.reduceLT, Int.reduceBEq, Int.reduceBNe, beq_self_eq_true, bne_self_eq_false, decide_true, decide_false,  Int.reduceNeg, toNat_pred, toNat_succ, List.length_map, cnd_t, cnd_f, grd_tt, grd_u, grd_tf, grd_ft, grd_ff, g_skip, g_ops, g_seq, g_block, g_exit, g_ret, x_c, x_o, x_l, x_b, g_b, g_nil, r_all, o_nil, g_cond, o_guard, o_call, o_callm, o_callt, o_callx, o_callv, lk, ef, o_mv, o_pick, o_bin, o_never, o_eqs, o_eqb, o_un, o_conv, o_load, o_loadr, o_idxr, o_loads, o_fld, o_idx, o_idxs, o_len, o_lens, o_ext, o_nilck, o_slc, o_slcs, o_build, o_minmax, o_mkfn, o_alloc, o_box, o_boxs, o_row, o_rowr, o_mk, o_asg, o_app, o_store, o_stores, o_eqnil, hv, eqAV, ev, view_t, view_c, view_nil, view_fn, look_own, look_box, look_junk, look_val, look_nilsl, look_ro, look_roAt, look_agg, look_tup, look_clo, look_alias, look_ref, look_into, rowOf, cellsOf, argv, vbin, vun, bnd, elemOf, putParts, setAt, zav, ASt.rid, ASt.free, AV.kill, AV.isHome, AV.noLoan, AV.cellOK, Value.oneCell', put_at, mk_at, mk_nil, initSt, true_and, and_true, and_self, implies_true, List.map_cons, List.map_nil, List.forall_mem_cons, List.not_mem_nil, false_implies, List.length_cons, List.length_nil, List.getD_cons_zero, List.getD_cons_succ, List.getD_nil, List.drop_succ_cons, List.drop_zero, List.take_succ_cons, List.take_zero, List.set_cons_zero, List.set_cons_succ, List.all_cons, List.all_nil, Bool.and_true, Bool.true_and, Bool.not_true, Bool.not_false, reduceCtorEq, if_true, if_false, Bool.false_eq_true, ↓reduceIte, Nat.reduceEqDiff, Nat.reduceAdd, Nat.reduceSub, Nat.reduceMul, Nat.reduceLeDiff, Nat.reduceLT, ne_eq, not_false_eq_true, not_true_eq_false, Nat.one_ne_zero, Nat.zero_ne_one, r25_0, r25_1, r25_2, r25_3, r25_4, r25_5, r25_6, p25, hn2, hge]) | (exfalso; omega)
    · have hT1 := hM1
      have hT2 := hM2
      rw [show topAV t1 = .ro ((lm t1).map oneN) from if_neg z1, show topAV t2 = .ro ((lm t2).map oneN) from if_neg z2]
      clear hM1z hM2z hM1 hM2
      repeat' first | ((with_reducible (first | refine condD ?_ ?_ | refine condE ?_ ?_ | refine condN ?_ ?_ | refine condI ?_ ?_ | refine condS ?_ ?_)) <;> intro h) | ((with_reducible (first | refine guardD (by with_unfolding_all rfl) ?_ ?_ | refine guardE (by with_unfolding_all rfl) ?_ ?_ | refine guardN (by with_unfolding_all rfl) ?_ ?_ | refine guardI (by with_unfolding_all rfl) ?_ ?_ | refine guardS (by with_unfolding_all rfl) ?_ ?_)) <;> intro h) | ((refine callG hT1 ?_)) | ((refine callG hT2 ?_)) | ((refine callG hM3 ?_)) | ((refine callG hLs ?_)) | ((refine callG hCm ?_)) | ((refine callG hL1 ?_)) | (with_reducible refine And.intro ?_ ?_; omega) | (simp only [done_eq, done_eq', donet_eq, donet_eq', fin_val, fin_tup, fin_agg, fin_ro, res_one, res_more, rv_t, rv_c, rv_l, AV.tup.injEq, AV.agg.injEq, AV.ro.injEq, List.cons.injEq, int_eq, bool_eq, Int.toNat_natCast, Int.reduceToNat, Int.toNat_zero, Int.toNat_one, Int.reduceLE, Int.reduceLT, Int.reduceBEq, Int.reduceBNe, beq_self_eq_true, bne_self_eq_false, decide_true, decide_false,  Int.reduceNeg, toNat_pred, toNat_succ, List.length_map, cnd_t, cnd_f, grd_tt, grd_u, grd_tf, grd_ft, grd_ff, g_skip, g_ops, g_seq, g_block, g_exit, g_ret, x_c, x_o, x_l, x_b, g_b, g_nil, r_all, o_nil, g_cond, o_guard, o_call, o_callm, o_callt, o_callx, o_callv, lk, ef, o_mv, o_pick, o_bin, o_never, o_eqs, o_eqb, o_un, o_conv, o_load, o_loadr, o_idxr, o_loads, o_fld, o_idx, o_idxs, o_len, o_lens, o_ext, o_nilck, o_slc, o_slcs, o_build, o_minmax, o_mkfn, o_alloc, o_box, o_boxs, o_row, o_rowr, o_mk, o_asg, o_app, o_store, o_stores, o_eqnil, hv, eqAV, ev, view_t, view_c, view_nil, view_fn, look_own, look_box, look_junk, look_val, look_nilsl, look_ro, look_roAt, look_agg, look_tup, look_clo, look_alias, look_ref, look_into, rowOf, cellsOf, argv, vbin, vun, bnd, elemOf, putParts, setAt, zav, ASt.rid, ASt.free, AV.kill, AV.isHome, AV.noLoan, AV.cellOK, Value.oneCell', put_at, mk_at, mk_nil, initSt, true_and, and_true, and_self, implies_true, List.map_cons, List.map_nil, List.forall_mem_cons, List.not_mem_nil, false_implies, List.length_cons, List.length_nil, List.getD_cons_zero, List.getD_cons_succ, List.getD_nil, List.drop_succ_cons, List.drop_zero, List.take_succ_cons, List.take_zero, List.set_cons_zero, List.set_cons_succ, List.all_cons, List.all_nil, Bool.and_true, Bool.true_and, Bool.not_true, Bool.not_false, reduceCtorEq, if_true, if_false, Bool.false_eq_true, ↓reduceIte, Nat.reduceEqDiff, Nat.reduceAdd, Nat.reduceSub, Nat.reduceMul, Nat.reduceLeDiff, Nat.reduceLT, ne_eq, not_false_eq_true, not_true_eq_false, Nat.one_ne_zero, Nat.zero_ne_one, r25_0, r25_1, r25_2, r25_3, r25_4, r25_5, r25_6, p25, hn2, hge]) | (exfalso; omega)
  · have hge : ¬ (0 : Int) ≤ cmpN A B := by
      unfold cmpN
      rw [if_pos (by omega)]
      decide
    have hLs := less_c B A (by omega) (by omega)
    have hL1 := lowest_c n2 (B - A) C hbb (Nat.le_trans (lm_le (Nat.sub_le _ _)) (by omega)) (by omega)
    rw [rq_of] at hL1
    have e := sum_lt hn2 (show A ≤ B by omega)
    rw [← e]
    unfold sgnI
    clear e
    obtain ⟨u, v, w, hR⟩ := rq_agg (if n2 = true then -((B - A : Nat) : Int) else ((B - A : Nat) : Int)) C
    rw [hR] at hL1 ⊢
    clear hR
    generalize cmpN A B = cc at *
    by_cases z1 : t1 = 0 <;> by_cases z2 : t2 = 0
    · have hT1 := hM1z z1
      have hT2 := hM2z z2
      rw [show topAV t1 = .nilsl from if_pos z1, show topAV t2 = .nilsl from if_pos z2]
      clear hM1z hM2z hM1 hM2
      repeat' first | ((with_reducible (first | refine condD ?_ ?_ | refine condE ?_ ?_ | refine condN ?_ ?_ | refine condI ?_ ?_ | refine condS ?_ ?_)) <;> intro h) | ((with_reducible (first | refine guardD (by with_unfolding_all rfl) ?_ ?_ | refine guardE (by with_unfolding_all rfl) ?_ ?_ | refine guardN (by with_unfolding_all rfl) ?_ ?_ | refine guardI (by with_unfolding_all rfl) ?_ ?_ | refine guardS (by with_unfolding_all rfl) ?_ ?_)) <;> intro h) | ((refine callG hT1 ?_)) | ((refine callG hT2 ?_)) | ((refine callG hM3 ?_)) | ((refine callG hLs ?_)) | ((refine callG hCm ?_)) | ((refine callG hL1 ?_)) | (with_reducible refine And.intro ?_ ?_; omega) | (simp only [done_eq, done_eq', donet_eq, donet_eq', fin_val, fin_tup, fin_agg, fin_ro, res_one, res_more, rv_t, rv_c, rv_l, AV.tup.injEq, AV.agg.injEq, AV.ro.injEq, List.cons.injEq, int_eq, bool_eq, Int.toNat_natCast, Int.reduceToNat, Int.toNat_zero, Int.toNat_one, Int.reduceLE, Int.reduceLT, Int.reduceBEq, Int.reduceBNe, beq_self_eq_true, bne_self_eq_false, decide_true, decide_false,  Int.reduceNeg, toNat_pred, toNat_succ, List.length_map, cnd_t, cnd_f, grd_tt, grd_u, grd_tf, grd_ft, grd_ff, g_skip, g_ops, g_seq, g_block, g_exit, g_ret, x_c, x_o, x_l, x_b, g_b, g_nil, r_all, o_nil, g_cond, o_guard, o_call, o_callm, o_callt, o_callx, o_callv, lk, ef, o_mv, o_pick, o_bin, o_never, o_eqs, o_eqb, o_un, o_conv, o_load, o_loadr, o_idxr, o_loads, o_fld, o_idx, o_idxs, o_len, o_lens, o_ext, o_nilck, o_slc, o_slcs, o_build, o_minmax, o_mkfn, o_alloc, o_box, o_boxs, o_row, o_rowr, o_mk, o_asg, o_app, o_store, o_stores, o_eqnil, hv, eqAV, ev, view_t, view_c, view_nil, view_fn, look_own, look_box, look_junk, look_val, look_nilsl, look_ro, look_roAt, look_agg, look_tup, look_clo, look_alias, look_ref, look_into, rowOf, cellsOf, argv, vbin, vun, bnd, elemOf, putParts, setAt, zav, ASt.rid, ASt.free, AV.kill, AV.isHome, AV.noLoan, AV.cellOK, Value.oneCell', put_at, mk_at, mk_nil, initSt, true_and, and_true, and_self, implies_true, List.map_cons, List.map_nil, List.forall_mem_cons, List.not_mem_nil, false_implies, List.length_cons, List.length_nil, List.getD_cons_zero, List.getD_cons_succ, List.getD_nil, List.drop_succ_cons, List.drop_zero, List.take_succ_cons, List.take_zero, List.set_cons_zero, List.set_cons_succ, List.all_cons, List.all_nil, Bool.and_true, Bool.true_and, Bool.not_true, Bool.not_false, reduceCtorEq, if_true, if_false, Bool.false_eq_true, ↓reduceIte, Nat.reduceEqDiff, Nat.reduceAdd, Nat.reduceSub, Nat.reduceMul, Nat.reduceLeDiff, Nat.reduceLT, ne_eq, not_false_eq_true, not_true_eq_false, Nat.one_ne_zero, Nat.zero_ne_one, r25_0, r25_1, r25_2, r25_3, r25_4, r25_5, r25_6, p25, hn2, hge]) | (exfalso; omega)
    · have hT1 := hM1z z1
      have hT2 := hM2
      rw [show topAV t1 = .nilsl from if_pos z1, show topAV t2 = .ro ((lm t2).map oneN) from if_neg z2]
      clear hM1z hM2z hM1 hM2
      repeat' first | ((with_reducible (first | refine condD ?_ ?_ | refine condE ?_ ?_ | refine condN ?_ ?_ | refine condI ?_ ?_ | refine condS ?_ ?_)) <;> intro h) | ((with_reducible (first | refine guardD (by with_unfolding_all rfl) ?_ ?_ | refine guardE (by with_unfolding_all rfl) ?_ ?_ | refine guardN (by with_unfolding_all rfl) ?_ ?_ | refine guardI (by with_unfolding_all rfl) ?_ ?_ | refine guardS (by with_unfolding_all rfl) ?_ ?_)) <;> intro h) | ((refine callG hT1 ?_)) | ((refine callG hT2 ?_)) | ((refine callG hM3 ?_)) | ((refine callG hLs ?_)) | ((refine callG hCm ?_)) | ((refine callG hL1 ?_)) | (with_reducible refine And.intro ?_ ?_; omega) | (simp only [done_eq, done_eq', donet_eq, donet_eq', fin_val, fin_tup, fin_agg, fin_ro, res_one, res_more, rv_t, rv_c, rv_l, AV.tup.injEq, AV.agg.injEq, AV.ro.injEq, List.cons.injEq, int_eq, bool_eq, Int.toNat_natCast, Int.reduceToNat, Int.toNat_zero, Int.toNat_one, Int.reduceLE, Int.reduceLT, Int.reduceBEq, Int.reduceBNe, beq_self_eq_true, bne_self_eq_false, decide_true, decide_false,  Int.reduceNeg, toNat_pred, toNat_succ, List.length_map, cnd_t, cnd_f, grd_tt, grd_u, grd_tf, grd_ft, grd_ff, g_skip, g_ops, g_seq, g_block, g_exit, g_ret, x_c, x_o, x_l, x_b, g_b, g_nil, r_all, o_nil, g_cond, o_guard, o_call, o_callm, o_callt, o_callx, o_callv, lk, ef, o_mv, o_pick, o_bin, o_never, o_eqs, o_eqb, o_un, o_conv, o_load, o_loadr, o_idxr, o_loads, o_fld, o_idx, o_idxs, o_len, o_lens, o_ext, o_nilck, o_slc, o_slcs, o_build, o_minmax, o_mkfn, o_alloc, o_box, o_boxs, o_row, o_rowr, o_mk, o_asg, o_app, o_store, o_stores, o_eqnil, hv, eqAV, ev, view_t, view_c, view_nil, view_fn, look_own, look_box, look_junk, look_val, look_nilsl, look_ro, look_roAt, look_agg, look_tup, look_clo, look_alias, look_ref, look_into, rowOf, cellsOf, argv, vbin, vun, bnd, elemOf, putParts, setAt, zav, ASt.rid, ASt.free, AV.kill, AV.isHome, AV.noLoan, AV.cellOK, Value.oneCell', put_at, mk_at, mk_nil, initSt, true_and, and_true, and_self, implies_true, List.map_cons, List.map_nil, List.forall_mem_cons, List.not_mem_nil, false_implies, List.length_cons, List.length_nil, List.getD_cons_zero, List.getD_cons_succ, List.getD_nil, List.drop_succ_cons, List.drop_zero, List.take_succ_cons, List.take_zero, List.set_cons_zero, List.set_cons_succ, List.all_cons, List.all_nil, Bool.and_true, Bool.true_and, Bool.not_true, Bool.not_false, reduceCtorEq, if_true, if_false, Bool.false_eq_true, ↓reduceIte, Nat.reduceEqDiff, Nat.reduceAdd, Nat.reduceSub, Nat.reduceMul, Nat.reduceLeDiff, Nat.reduceLT, ne_eq, not_false_eq_true, not_true_eq_false, Nat.one_ne_zero, Nat.zero_ne_one, r25_0, r25_1, r25_2, r25_3, r25_4, r25_5, r25_6, p25, hn2, hge]) | (exfalso; omega)
    · have hT1 := hM1
      have hT2 := hM2z z2
      rw [show topAV t1 = .ro ((lm t1).map oneN) from if_neg z1, show topAV t2 = .nilsl from if_pos z2]
      clear hM1z hM2z hM1 hM2
      repeat' first | ((with_reducible (first | refine condD ?_ ?_ | refine condE ?_ ?_ | refine condN ?_ ?_ | refine condI ?_ ?_ | refine condS ?_ ?_)) <;> intro h) | ((with_reducible (first | refine guardD (by with_unfolding_all rfl) ?_ ?_ | refine guardE (by with_unfolding_all rfl) ?_ ?_ | refine guardN (by with_unfolding_all rfl) ?_ ?_ | refine guardI (by with_unfolding_all rfl) ?_ ?_ | refine guardS (by with_unfolding_all rfl) ?_ ?_)) <;> intro h) | ((refine callG hT1 ?_)) | ((refine callG hT2 ?_)) | ((refine callG hM3 ?_)) | ((refine callG hLs ?_)) | ((refine callG hCm ?_)) | ((refine callG hL1 ?_)) | (with_reducible refine And.intro ?_ ?_; omega) | (simp only [done_eq, done_eq', donet_eq, donet_eq', fin_val, fin_tup, fin_agg, fin_ro, res_one, res_more, rv_t, rv_c, rv_l, AV.tup.injEq, AV.agg.injEq, AV.ro.injEq, List.cons.injEq, int_eq, bool_eq, Int.toNat_natCast, Int.reduceToNat, Int.toNat_zero, Int.toNat_one, Int.reduceLE, Int.reduceLT, Int.reduceBEq, Int.reduceBNe, beq_self_eq_true, bne_self_eq_false, decide_true, decide_false,  Int.reduceNeg, toNat_pred, toNat_succ, List.length_map, cnd_t, cnd_f, grd_tt, grd_u, grd_tf, grd_ft, grd_ff, g_skip, g_ops, g_seq, g_block, g_exit, g_ret, x_c, x_o, x_l, x_b, g_b, g_nil, r_all, o_nil, g_cond, o_guard, o_call, o_callm, o_callt, o_callx, o_callv, lk, ef, o_mv, o_pick, o_bin, o_never, o_eqs, o_eqb, o_un, o_conv, o_load, o_loadr, o_idxr, o_loads, o_fld, o_idx, o_idxs, o_len, o_lens, o_ext, o_nilck, o_slc, o_slcs, o_build, o_minmax, o_mkfn, o_alloc, o_box, o_boxs, o_row, o_rowr, o_mk, o_asg, o_app, o_store, o_stores, o_eqnil, hv, eqAV, ev, view_t, view_c, view_nil, view_fn, look_own, look_box, look_junk, look_val, look_nilsl, look_ro, look_roAt, look_agg, look_tup, look_clo, look_alias, look_ref, look_into, rowOf, cellsOf, argv, vbin, vun, bnd, elemOf, putParts, setAt, zav, ASt.rid, ASt.free, AV.kill, AV.isHome, AV.noLoan, AV.cellOK, Value.oneCell', put_at, mk_at, mk_nil, initSt, true_and, and_true, and_self, implies_true, List.map_cons, List.map_nil, List.forall_mem_cons, List.not_mem_nil, false_implies, List.length_cons, List.length_nil, List.getD_cons_zero, List.getD_cons_succ, List.getD_nil, List.drop_succ_cons, List.drop_zero, List.take_succ_cons, List.take_zero, List.set_cons_zero, List.set_cons_succ, List.all_cons, List.all_nil, Bool.and_true, Bool.true_and, Bool.not_true, Bool.not_false, reduceCtorEq, if_true, if_false, Bool.false_eq_true, ↓reduceIte, Nat.reduceEqDiff, Nat.reduceAdd, Nat.reduceSub, Nat.reduceMul, Nat.reduceLeDiff, Nat.reduceLT, ne_eq, not_false_eq_true, not_true_eq_false, Nat.one_ne_zero, Nat.zero_ne_one, r25_0, r25_1, r25_2, r25_3, r25_4, r25_5, r25_6, p25, hn2, hge]) | (exfalso; omega)
    · have hT1 := hM1
      have hT2 := hM2
      rw [show topAV t1 = .ro ((lm t1).map oneN) from if_neg z1, show topAV t2 = .ro ((lm t2).map oneN) from if_neg z2]
      clear hM1z hM2z hM1 hM2
      repeat' first | ((with_reducible (first | refine condD ?_ ?_ | refine condE ?_ ?_ | refine condN ?_ ?_ | refine condI ?_ ?_ | refine condS ?_ ?_)) <;> intro h) | ((with_reducible (first | refine guardD (by with_unfolding_all rfl) ?_ ?_ | refine guardE (by with_unfolding_all rfl) ?_ ?_ | refine guardN (by with_unfolding_all rfl) ?_ ?_ | refine guardI (by with_unfolding_all rfl) ?_ ?_ | refine guardS (by with_unfolding_all rfl) ?_ ?_)) <;> intro h) | ((refine callG hT1 ?_)) | ((refine callG hT2 ?_)) | ((refine callG hM3 ?_)) | ((refine callG hLs ?_)) | ((refine callG hCm ?_)) | ((refine callG hL1 ?_)) | (with_reducible refine And.intro ?_ ?_; omega) | (simp only [done_eq, done_eq', donet_eq, donet_eq', fin_val, fin_tup, fin_agg, fin_ro, res_one, res_more, rv_t, rv_c, rv_l, AV.tup.injEq, AV.agg.injEq, AV.ro.injEq, List.cons.injEq, int_eq, bool_eq, Int.toNat_natCast, Int.reduceToNat, Int.toNat_zero, Int.toNat_one, Int.reduceLE, Int.reduceLT, Int.reduceBEq, Int.reduceBNe, beq_self_eq_true, bne_self_eq_false, decide_true, decide_false,  Int.reduceNeg, toNat_pred, toNat_succ, List.length_map, cnd_t, cnd_f, grd_tt, grd_u, grd_tf, grd_ft, grd_ff, g_skip, g_ops, g_seq, g_block, g_exit, g_ret, x_c, x_o, x_l, x_b, g_b, g_nil, r_all, o_nil, g_cond, o_guard, o_call, o_callm, o_callt, o_callx, o_callv, lk, ef, o_mv, o_pick, o_bin, o_never, o_eqs, o_eqb, o_un, o_conv, o_load, o_loadr, o_idxr, o_loads, o_fld, o_idx, o_idxs, o_len, o_lens, o_ext, o_nilck, o_slc, o_slcs, o_build, o_minmax, o_mkfn, o_alloc, o_box, o_boxs, o_row, o_rowr, o_mk, o_asg, o_app, o_store, o_stores, o_eqnil, hv, eqAV, ev, view_t, view_c, view_nil, view_fn, look_own, look_box, look_junk, look_val, look_nilsl, look_ro, look_roAt, look_agg, look_tup, look_clo, look_alias, look_ref, look_into, rowOf, cellsOf, argv, vbin, vun, bnd, elemOf, putParts, setAt, zav, ASt.rid, ASt.free, AV.kill, AV.isHome, AV.noLoan, AV.cellOK, Value.oneCell', put_at, mk_at, mk_nil, initSt, true_and, and_true, and_self, implies_true, List.map_cons, List.map_nil, List.forall_mem_cons, List.not_mem_nil, false_implies, List.length_cons, List.length_nil, List.getD_cons_zero, List.getD_cons_succ, List.getD_nil, List.drop_succ_cons, List.drop_zero, List.take_succ_cons, List.take_zero, List.set_cons_zero, List.set_cons_succ, List.all_cons, List.all_nil, Bool.and_true, Bool.true_and, Bool.not_true, Bool.not_false, reduceCtorEq, if_true, if_false, Bool.false_eq_true, ↓reduceIte, Nat.reduceEqDiff, Nat.reduceAdd, Nat.reduceSub, Nat.reduceMul, Nat.reduceLeDiff, Nat.reduceLT, ne_eq, not_false_eq_true, not_true_eq_false, Nat.one_ne_zero, Nat.zero_ne_one, r25_0, r25_1, r25_2, r25_3, r25_4, r25_5, r25_6, p25, hn2, hge]) | (exfalso; omega)
theorem plus_q (a b : Int) (q r : Nat) (hq : 0 < q) (hr : 0 < r) (k1 : (lm a.natAbs).length ≤ 400) (k2 : (lm q).length ≤ 400) (k3 : (lm b.natAbs).length ≤ 400) (k4 : (lm r).length ≤ 400) :
    CallOK Tryd.prog 25 [.agg (RQ a q), .agg (RQ b r)] (.agg (RQ (a * r + b * q) (q * r))) := by
  have h := plus_c (decide (a < 0)) (a.natAbs / Nat.gcd a.natAbs q) (q / Nat.gcd a.natAbs q) (decide (b < 0)) (b.natAbs / Nat.gcd b.natAbs r) (r / Nat.gcd b.natAbs r) (red_pos hq) (red_pos hr) (red_le k1) (red_le k2) (red_le k3) (red_le k4)
  have ea := sgn_eq (a := a) (Nat.gcd_dvd_left a.natAbs q)
  have eb := sgn_eq (a := b) (Nat.gcd_dvd_left b.natAbs r)
  have eq := Nat.div_mul_cancel (Nat.gcd_dvd_right a.natAbs q)
  have er := Nat.div_mul_cancel (Nat.gcd_dvd_right b.natAbs r)
  have g1 := gcd_pos (z := a) hq
  have g2 := gcd_pos (z := b) hr
  have key : RQ (a * r + b * q) (q * r) = RQ (sgnI (decide (a < 0)) (a.natAbs / Nat.gcd a.natAbs q) * ((r / Nat.gcd b.natAbs r : Nat) : Int) + sgnI (decide (b < 0)) (b.natAbs / Nat.gcd b.natAbs r) * ((q / Nat.gcd a.natAbs q : Nat) : Int)) (q / Nat.gcd a.natAbs q * (r / Nat.gcd b.natAbs r)) := by
    rw [← rq_scale (sgnI (decide (a < 0)) (a.natAbs / Nat.gcd a.natAbs q) * ((r / Nat.gcd b.natAbs r : Nat) : Int) + sgnI (decide (b < 0)) (b.natAbs / Nat.gcd b.natAbs r) * ((q / Nat.gcd a.natAbs q : Nat) : Int)) _ _ (Nat.mul_pos g1 g2), mul4n, eq, er, Int.add_mul, Int.natCast_mul, mul4, ← Int.natCast_mul, er]
    rw [Int.mul_comm (Nat.gcd a.natAbs q : Int), mul4, ← Int.natCast_mul, eq]
    have fa : sgnI (decide (a < 0)) (a.natAbs / Nat.gcd a.natAbs q) * (Nat.gcd a.natAbs q : Int) = a := ea.symm
    have fb : sgnI (decide (b < 0)) (b.natAbs / Nat.gcd b.natAbs r) * (Nat.gcd b.natAbs r : Int) = b := eb.symm
    rw [fa, fb]
  rw [key]
  exact h
end Go.Proofs.YtjeemcpdmiajmaaDoor
