/- The reference's numbers: headendref1's times, small, by the machine on data. -/
import Derived.Test.YtjeemcpdmiajmaaDoorKNum
namespace Go.Proofs.YtjeemcpdmiajmaaDoor
open Go.RowKit
set_option linter.unusedSimpArgs false

theorem val_set : ∀ (l : List Nat) (j d : Nat), j < l.length → valN (l.set j d) + l.getD j 0 * 10000 ^ j = valN l + d * 10000 ^ j
  | [], j, d, h => by simp at h
  | x :: r, 0, d, _ => by simp [valN]; omega
  | x :: r, j + 1, d, h => by
    have ih := val_set r j d (by simpa using h)
    rw [List.set_cons_succ, valN, valN, List.getD_cons_succ, Nat.pow_succ]
    have e1 : r.getD j 0 * (10000 ^ j * 10000) = 10000 * (r.getD j 0 * 10000 ^ j) := by rw [← Nat.mul_assoc, Nat.mul_comm]
    have e2 : d * (10000 ^ j * 10000) = 10000 * (d * 10000 ^ j) := by rw [← Nat.mul_assoc, Nat.mul_comm]
    rw [e1, e2]
    omega
theorem dig_set {l : List Nat} (h : digN l) {j d : Nat} (hd : d < 10000) : digN (l.set j d) := by
  intro x hx
  rcases List.mem_or_eq_of_mem_set hx with hx | rfl
  · exact h x hx
  · exact hd
theorem set_ne {l : List Nat} {j d k : Nat} (h : k ≠ j) : (l.set j d).getD k 0 = l.getD k 0 := by
  rw [List.getD_eq_getElem?_getD, List.getD_eq_getElem?_getD, List.getElem?_set_ne (by omega)]
theorem mul_step {O V0 V o x y c z zi zk q r : Nat} {O2 : Nat} (hz : z = zk * zi) (h : O + c * z = V0 + x * V * zi) (hn : r + 10000 * q = o + x * y + c) (hs : O2 + o * z = O + r * z) :
    O2 + q * (z * 10000) = V0 + x * (V + y * zk) * zi := by
  have e1 : q * (z * 10000) = (10000 * q) * z := by rw [Nat.mul_comm z, ← Nat.mul_assoc, Nat.mul_comm q]
  have e2 : r * z + 10000 * q * z = o * z + x * y * z + c * z := by rw [← Nat.add_mul, hn, Nat.add_mul, Nat.add_mul]
  have e3 : x * (V + y * zk) * zi = x * V * zi + x * y * z := by rw [hz, Nat.mul_add, Nat.add_mul, ← Nat.mul_assoc, ← Nat.mul_assoc]
  rw [e1, e3]
  omega
theorem val_rep : ∀ n, valN (List.replicate n 0) = 0
  | 0 => rfl
  | n + 1 => by rw [List.replicate_succ, valN, val_rep n]
/-! headend/headendref1.times -/
def r37_0 : List POp := [⟨4, .asg .nil, none⟩]
def r37_1 : List POp := [⟨10, .mv (.t 0), none⟩,
  ⟨11, .len (.t 10), none⟩,
  ⟨12, .mv (.t 1), none⟩,
  ⟨13, .len (.t 12), none⟩,
  ⟨14, .bin .add (.t 11) (.t 13), none⟩,
  ⟨15, .mk 3 1 8 [.int .i64 0] (.t 14) (.t 14), none⟩,
  ⟨5, .asg (.t 15), none⟩]
def r37_2 : List POp := [⟨6, .asg (.c (.int .i64 0)), none⟩]
def r37_3 : List POp := [⟨16, .mv (.t 6), none⟩,
  ⟨17, .mv (.t 0), none⟩,
  ⟨18, .len (.t 17), none⟩,
  ⟨19, .bin .lss (.t 16) (.t 18), none⟩]
def r37_5 : List POp := [⟨7, .asg (.c (.int .i64 0)), none⟩]
def r37_6 : List POp := [⟨8, .asg (.c (.int .i64 0)), none⟩]
def r37_7 : List POp := [⟨22, .mv (.t 8), none⟩,
  ⟨23, .mv (.t 1), none⟩,
  ⟨24, .len (.t 23), none⟩,
  ⟨25, .bin .lss (.t 22) (.t 24), none⟩]
def r37_9 : List POp := [⟨28, .mv (.t 5), none⟩,
  ⟨29, .mv (.t 6), none⟩,
  ⟨30, .mv (.t 8), none⟩,
  ⟨31, .bin .add (.t 29) (.t 30), none⟩,
  ⟨32, .idx 1 (.t 28) (.t 31), none⟩,
  ⟨33, .load (.t 32), none⟩,
  ⟨34, .mv (.t 0), none⟩,
  ⟨35, .mv (.t 6), none⟩,
  ⟨36, .idx 1 (.t 34) (.t 35), none⟩,
  ⟨37, .load (.t 36), none⟩,
  ⟨38, .mv (.t 1), none⟩,
  ⟨39, .mv (.t 8), none⟩,
  ⟨40, .idx 1 (.t 38) (.t 39), none⟩,
  ⟨41, .load (.t 40), none⟩,
  ⟨42, .bin .mul (.t 37) (.t 41), none⟩,
  ⟨43, .bin .add (.t 33) (.t 42), none⟩,
  ⟨44, .mv (.t 7), none⟩,
  ⟨45, .bin .add (.t 43) (.t 44), none⟩,
  ⟨9, .asg (.t 45), none⟩]
def r37_10 : List POp := [⟨46, .mv (.t 5), none⟩,
  ⟨47, .mv (.t 6), none⟩,
  ⟨48, .mv (.t 8), none⟩,
  ⟨49, .bin .add (.t 47) (.t 48), none⟩,
  ⟨50, .mv (.t 9), none⟩,
  ⟨51, .bin .rem (.t 50) (.c (.int .i64 10000)), none⟩,
  ⟨52, .idx 1 (.t 46) (.t 49), none⟩,
  ⟨0, .store (.t 52) (.t 51), none⟩]
def r37_11 : List POp := [⟨53, .mv (.t 9), none⟩,
  ⟨54, .bin .quo (.t 53) (.c (.int .i64 10000)), none⟩,
  ⟨7, .asg (.t 54), none⟩]
def r37_8 : List POp := [⟨26, .mv (.t 8), none⟩,
  ⟨27, .bin .add (.t 26) (.c (.int .i64 1)), none⟩,
  ⟨8, .asg (.t 27), none⟩]
def r37_12 : List POp := [⟨55, .mv (.t 5), none⟩,
  ⟨56, .mv (.t 6), none⟩,
  ⟨57, .mv (.t 1), none⟩,
  ⟨58, .len (.t 57), none⟩,
  ⟨59, .bin .add (.t 56) (.t 58), none⟩,
  ⟨60, .idx 1 (.t 55) (.t 59), none⟩,
  ⟨61, .load (.t 60), none⟩,
  ⟨62, .mv (.t 7), none⟩,
  ⟨63, .bin .add (.t 61) (.t 62), none⟩,
  ⟨64, .idx 1 (.t 55) (.t 59), none⟩,
  ⟨0, .store (.t 64) (.t 63), none⟩]
def r37_4 : List POp := [⟨20, .mv (.t 6), none⟩,
  ⟨21, .bin .add (.t 20) (.c (.int .i64 1)), none⟩,
  ⟨6, .asg (.t 21), none⟩]
def r37_13 : List POp := [⟨65, .mv (.t 5), none⟩,
  ⟨66, .call 50 [.t 65], none⟩,
  ⟨4, .asg (.t 66), none⟩]
def l37_1 : PCode := .seq (.seq (.ops r37_7) (.cond (.t 25) (.skip) (.exit 2))) (.seq (.block 3 (.seq (.ops r37_9) (.seq (.ops r37_10) (.ops r37_11)))) (.ops r37_8))
def l37_0 : PCode := .seq (.seq (.ops r37_3) (.cond (.t 19) (.skip) (.exit 0))) (.seq (.block 1 (.seq (.ops r37_5) (.seq (.seq (.ops r37_6) (.block 2 (.loop l37_1))) (.ops r37_12)))) (.ops r37_4))
def p37 : PCode := .seq (.ops r37_0) (.seq (.ops r37_1) (.seq (.seq (.ops r37_2) (.block 0 (.loop l37_0))) (.seq (.opw r37_13) (.ret))))
theorem ok37 : okFunc Tryd.prog 37 [.t 4] 2 p37 = true := by kernel_rfl
set_option maxRecDepth 20000 in
set_option maxHeartbeats 2000000 in
theorem times_c (a b : Nat) (ha : (lm a).length ≤ 1000) (hb : (lm b).length ≤ 1000) : CallOK Tryd.prog 37 [.ro ((lm a).map oneN), .ro ((lm b).map oneN)] (.ro ((lm (a * b)).map oneN)) := by
  refine call_of mixed ok37 rfl ?_
  have da := dig_lm a
  have db := dig_lm b
  have va := val_lm a
  have vb := val_lm b
  generalize lm a = A at *
  generalize lm b = B at *
  obtain ⟨N, hN⟩ : ∃ N, N = A.length + B.length := ⟨_, rfl⟩
  have w0 : IntKind.i64.wrap ((A.length : Int) + (B.length : Int)) = (N : Int) := by rw [wrap_in (by omega) (by omega)]; omega
  have n0 : (0 : Int) ≤ (N : Int) := by omega
  have n1 : (N : Int) ≤ 9223372036854775807 := by omega
  have n2 : 8 * (N : Int) ≤ 281474976710656 := by omega
  repeat' first | ((with_reducible (first | refine condD ?_ ?_ | refine condE ?_ ?_ | refine condN ?_ ?_ | refine condI ?_ ?_ | refine condS ?_ ?_)) <;> intro h) | ((with_reducible (first | refine guardD (by with_unfolding_all rfl) ?_ ?_ | refine guardE (by with_unfolding_all rfl) ?_ ?_ | refine guardN (by with_unfolding_all rfl) ?_ ?_ | refine guardI (by with_unfolding_all rfl) ?_ ?_ | refine guardS (by with_unfolding_all rfl) ?_ ?_)) <;> intro h) | (with_reducible refine And.intro ?_ ?_; omega) | (simp only [done_eq, done_eq', donet_eq, donet_eq', fin_val, fin_tup, fin_agg, fin_ro, res_one, res_more, rv_t, rv_c, rv_l, AV.tup.injEq, AV.agg.injEq, AV.ro.injEq, List.cons.injEq, int_eq, bool_eq, Int.toNat_natCast, Int.reduceToNat, Int.toNat_zero, Int.toNat_one, Int.reduceLE, Int.reduceLT, Int.reduceBEq, Int.reduceBNe, beq_self_eq_true, bne_self_eq_false, decide_true, decide_false,  Int.reduceNeg, toNat_pred, toNat_succ, List.length_map, cnd_t, cnd_f, grd_tt, grd_u, grd_tf, grd_ft, grd_ff, g_skip, g_ops, g_seq, g_block, g_exit, g_ret, x_c, x_o, x_l, x_b, g_b, g_nil, r_all, o_nil, g_cond, o_guard, o_call, o_callm, o_callt, o_callx, o_callv, lk, ef, o_mv, o_pick, o_bin, o_never, o_eqs, o_eqb, o_un, o_conv, o_load, o_loadr, o_idxr, o_loads, o_fld, o_idx, o_idxs, o_len, o_lens, o_ext, o_nilck, o_slc, o_slcs, o_build, o_minmax, o_mkfn, o_alloc, o_box, o_boxs, o_row, o_rowr, o_mk, o_asg, o_app, o_store, o_stores, o_eqnil, hv, eqAV, ev, view_t, view_c, view_nil, view_fn, look_own, look_box, look_junk, look_val, look_nilsl, look_ro, look_roAt, look_agg, look_tup, look_clo, look_alias, look_ref, look_into, rowOf, cellsOf, argv, vbin, vun, bnd, elemOf, putParts, setAt, zav, ASt.rid, ASt.free, AV.kill, AV.isHome, AV.noLoan, AV.cellOK, Value.oneCell', put_at, mk_at, mk_nil, initSt, true_and, and_true, and_self, implies_true, List.map_cons, List.map_nil, List.forall_mem_cons, List.not_mem_nil, false_implies, List.length_cons, List.length_nil, List.getD_cons_zero, List.getD_cons_succ, List.getD_nil, List.drop_succ_cons, List.drop_zero, List.take_succ_cons, List.take_zero, List.set_cons_zero, List.set_cons_succ, List.all_cons, List.all_nil, Bool.and_true, Bool.true_and, Bool.not_true, Bool.not_false, reduceCtorEq, if_true, if_false, Bool.false_eq_true, ↓reduceIte, Nat.reduceEqDiff, Nat.reduceAdd, Nat.reduceSub, Nat.reduceMul, Nat.reduceLeDiff, Nat.reduceLT, ne_eq, not_false_eq_true, not_true_eq_false, Nat.one_ne_zero, Nat.zero_ne_one, r37_0, r37_1, r37_2, r37_3, r37_5, r37_6, r37_7, r37_9, r37_10, r37_11, r37_8, r37_12, r37_4, r37_13, p37, w0, n0, n1, n2, Int.le_refl, List.length_map]) | (exfalso; omega)
  refine loopS (fun s : Nat × List Nat => mk [(0, .ro (A.map oneN)), (1, .ro (B.map oneN)), (5, .own 3 1 (s.2.map oneN)), (6, .val (.int .i64 s.1))])
    (fun s => s.1 ≤ A.length ∧ s.2.length = N ∧ digN s.2 ∧ valN s.2 = valN (A.take s.1) * b ∧ ∀ j, s.1 + B.length ≤ j → s.2.getD j 0 = 0) (fun s => A.length - s.1) (0, List.replicate N 0) (weak_mk ?_) ⟨Nat.zero_le _, List.length_replicate, (fun d hd => by rw [List.eq_of_mem_replicate hd]; decide), by rw [val_rep]; simp [valN], fun j _ => by
      rw [List.getD_eq_getElem?_getD, List.getElem?_replicate]; split <;> rfl⟩ ?_
  · simp only [wk_cons, wk_nil, wk1, vint_eq, vbool_eq, AV.val.injEq, done_eq, done_eq', donet_eq, donet_eq', fin_val, fin_tup, fin_agg, fin_ro, res_one, res_more, rv_t, rv_c, rv_l, AV.tup.injEq, AV.agg.injEq, AV.ro.injEq, List.cons.injEq, int_eq, bool_eq, Int.toNat_natCast, Int.reduceToNat, Int.toNat_zero, Int.toNat_one, Int.reduceLE, Int.reduceLT, Int.reduceBEq, Int.reduceBNe, beq_self_eq_true, bne_self_eq_false, decide_true, decide_false,  Int.reduceNeg, toNat_pred, toNat_succ, List.length_map, cnd_t, cnd_f, grd_tt, grd_u, grd_tf, grd_ft, grd_ff, g_skip, g_ops, g_seq, g_block, g_exit, g_ret, x_c, x_o, x_l, x_b, g_b, g_nil, r_all, o_nil, g_cond, o_guard, o_call, o_callm, o_callt, o_callx, o_callv, lk, ef, o_mv, o_pick, o_bin, o_never, o_eqs, o_eqb, o_un, o_conv, o_load, o_loadr, o_idxr, o_loads, o_fld, o_idx, o_idxs, o_len, o_lens, o_ext, o_nilck, o_slc, o_slcs, o_build, o_minmax, o_mkfn, o_alloc, o_box, o_boxs, o_row, o_rowr, o_mk, o_asg, o_app, o_store, o_stores, o_eqnil, hv, eqAV, ev, view_t, view_c, view_nil, view_fn, look_own, look_box, look_junk, look_val, look_nilsl, look_ro, look_roAt, look_agg, look_tup, look_clo, look_alias, look_ref, look_into, rowOf, cellsOf, argv, vbin, vun, bnd, elemOf, putParts, setAt, zav, ASt.rid, ASt.free, AV.kill, AV.isHome, AV.noLoan, AV.cellOK, Value.oneCell', put_at, mk_at, mk_nil, initSt, true_and, and_true, and_self, implies_true, List.map_cons, List.map_nil, List.forall_mem_cons, List.not_mem_nil, false_implies, List.length_cons, List.length_nil, List.getD_cons_zero, List.getD_cons_succ, List.getD_nil, List.drop_succ_cons, List.drop_zero, List.take_succ_cons, List.take_zero, List.set_cons_zero, List.set_cons_succ, List.all_cons, List.all_nil, Bool.and_true, Bool.true_and, Bool.not_true, Bool.not_false, reduceCtorEq, if_true, if_false, Bool.false_eq_true, ↓reduceIte, Nat.reduceEqDiff, Nat.reduceAdd, Nat.reduceSub, Nat.reduceMul, Nat.reduceLeDiff, Nat.reduceLT, ne_eq, not_false_eq_true, not_true_eq_false, Nat.one_ne_zero, Nat.zero_ne_one]
    first | done | (rw [List.map_replicate]; rfl) | (rw [List.map_replicate]; exact ⟨rfl, rfl⟩)
  rintro J hJ ⟨i, out⟩ ⟨h1, h2, h3, h4, h5⟩
  simp only at h1 h2 h3 h4 h5
  have hw := i_add1 i (by omega)
  by_cases c1 : i < A.length
  · have i1 : (i : Int) < A.length := by omega
    have gA := getD_map (f := oneN) (d := []) c1
    have eA : A.getD i 0 = A[i] := by rw [List.getD_eq_getElem?_getD, List.getElem?_eq_getElem c1]; rfl
    have hx := dig_at da i
    have htk := take_at A i
    rw [eA] at hx htk
    simp only [oneN] at gA
    generalize A[i] = x at *
    repeat' first | ((with_reducible (first | refine condD ?_ ?_ | refine condE ?_ ?_ | refine condN ?_ ?_ | refine condI ?_ ?_ | refine condS ?_ ?_)) <;> intro h) | ((with_reducible (first | refine guardD (by with_unfolding_all rfl) ?_ ?_ | refine guardE (by with_unfolding_all rfl) ?_ ?_ | refine guardN (by with_unfolding_all rfl) ?_ ?_ | refine guardI (by with_unfolding_all rfl) ?_ ?_ | refine guardS (by with_unfolding_all rfl) ?_ ?_)) <;> intro h) | (with_reducible refine And.intro ?_ ?_; omega) | (simp only [done_eq, done_eq', donet_eq, donet_eq', fin_val, fin_tup, fin_agg, fin_ro, res_one, res_more, rv_t, rv_c, rv_l, AV.tup.injEq, AV.agg.injEq, AV.ro.injEq, List.cons.injEq, int_eq, bool_eq, Int.toNat_natCast, Int.reduceToNat, Int.toNat_zero, Int.toNat_one, Int.reduceLE, Int.reduceLT, Int.reduceBEq, Int.reduceBNe, beq_self_eq_true, bne_self_eq_false, decide_true, decide_false,  Int.reduceNeg, toNat_pred, toNat_succ, List.length_map, cnd_t, cnd_f, grd_tt, grd_u, grd_tf, grd_ft, grd_ff, g_skip, g_ops, g_seq, g_block, g_exit, g_ret, x_c, x_o, x_l, x_b, g_b, g_nil, r_all, o_nil, g_cond, o_guard, o_call, o_callm, o_callt, o_callx, o_callv, lk, ef, o_mv, o_pick, o_bin, o_never, o_eqs, o_eqb, o_un, o_conv, o_load, o_loadr, o_idxr, o_loads, o_fld, o_idx, o_idxs, o_len, o_lens, o_ext, o_nilck, o_slc, o_slcs, o_build, o_minmax, o_mkfn, o_alloc, o_box, o_boxs, o_row, o_rowr, o_mk, o_asg, o_app, o_store, o_stores, o_eqnil, hv, eqAV, ev, view_t, view_c, view_nil, view_fn, look_own, look_box, look_junk, look_val, look_nilsl, look_ro, look_roAt, look_agg, look_tup, look_clo, look_alias, look_ref, look_into, rowOf, cellsOf, argv, vbin, vun, bnd, elemOf, putParts, setAt, zav, ASt.rid, ASt.free, AV.kill, AV.isHome, AV.noLoan, AV.cellOK, Value.oneCell', put_at, mk_at, mk_nil, initSt, true_and, and_true, and_self, implies_true, List.map_cons, List.map_nil, List.forall_mem_cons, List.not_mem_nil, false_implies, List.length_cons, List.length_nil, List.getD_cons_zero, List.getD_cons_succ, List.getD_nil, List.drop_succ_cons, List.drop_zero, List.take_succ_cons, List.take_zero, List.set_cons_zero, List.set_cons_succ, List.all_cons, List.all_nil, Bool.and_true, Bool.true_and, Bool.not_true, Bool.not_false, reduceCtorEq, if_true, if_false, Bool.false_eq_true, ↓reduceIte, Nat.reduceEqDiff, Nat.reduceAdd, Nat.reduceSub, Nat.reduceMul, Nat.reduceLeDiff, Nat.reduceLT, ne_eq, not_false_eq_true, not_true_eq_false, Nat.one_ne_zero, Nat.zero_ne_one, r37_0, r37_1, r37_2, r37_3, r37_5, r37_6, r37_7, r37_9, r37_10, r37_11, r37_8, r37_12, r37_4, r37_13, p37, l37_0, i1, List.length_map]) | (exfalso; omega)
    refine loopS (fun s : Nat × List Nat × Nat => mk [(0, .ro (A.map oneN)), (1, .ro (B.map oneN)), (5, .own 3 1 (s.2.1.map oneN)), (6, .val (.int .i64 i)), (7, .val (.int .i64 s.2.2)), (8, .val (.int .i64 s.1))])
      (fun s => s.1 ≤ B.length ∧ s.2.1.length = N ∧ digN s.2.1 ∧ s.2.2 ≤ 9999 ∧ valN s.2.1 + s.2.2 * 10000 ^ (i + s.1) = valN out + x * valN (B.take s.1) * 10000 ^ i ∧ ∀ j, i + s.1 ≤ j → s.2.1.getD j 0 = out.getD j 0) (fun s => B.length - s.1) (0, out, 0) (weak_mk ?_) ⟨Nat.zero_le _, h2, h3, Nat.zero_le _, by simp [valN], fun j _ => rfl⟩ ?_
    · simp only [wk_cons, wk_nil, wk1, vint_eq, vbool_eq, AV.val.injEq, done_eq, done_eq', donet_eq, donet_eq', fin_val, fin_tup, fin_agg, fin_ro, res_one, res_more, rv_t, rv_c, rv_l, AV.tup.injEq, AV.agg.injEq, AV.ro.injEq, List.cons.injEq, int_eq, bool_eq, Int.toNat_natCast, Int.reduceToNat, Int.toNat_zero, Int.toNat_one, Int.reduceLE, Int.reduceLT, Int.reduceBEq, Int.reduceBNe, beq_self_eq_true, bne_self_eq_false, decide_true, decide_false,  Int.reduceNeg, toNat_pred, toNat_succ, List.length_map, cnd_t, cnd_f, grd_tt, grd_u, grd_tf, grd_ft, grd_ff, g_skip, g_ops, g_seq, g_block, g_exit, g_ret, x_c, x_o, x_l, x_b, g_b, g_nil, r_all, o_nil, g_cond, o_guard, o_call, o_callm, o_callt, o_callx, o_callv, lk, ef, o_mv, o_pick, o_bin, o_never, o_eqs, o_eqb, o_un, o_conv, o_load, o_loadr, o_idxr, o_loads, o_fld, o_idx, o_idxs, o_len, o_lens, o_ext, o_nilck, o_slc, o_slcs, o_build, o_minmax, o_mkfn, o_alloc, o_box, o_boxs, o_row, o_rowr, o_mk, o_asg, o_app, o_store, o_stores, o_eqnil, hv, eqAV, ev, view_t, view_c, view_nil, view_fn, look_own, look_box, look_junk, look_val, look_nilsl, look_ro, look_roAt, look_agg, look_tup, look_clo, look_alias, look_ref, look_into, rowOf, cellsOf, argv, vbin, vun, bnd, elemOf, putParts, setAt, zav, ASt.rid, ASt.free, AV.kill, AV.isHome, AV.noLoan, AV.cellOK, Value.oneCell', put_at, mk_at, mk_nil, initSt, true_and, and_true, and_self, implies_true, List.map_cons, List.map_nil, List.forall_mem_cons, List.not_mem_nil, false_implies, List.length_cons, List.length_nil, List.getD_cons_zero, List.getD_cons_succ, List.getD_nil, List.drop_succ_cons, List.drop_zero, List.take_succ_cons, List.take_zero, List.set_cons_zero, List.set_cons_succ, List.all_cons, List.all_nil, Bool.and_true, Bool.true_and, Bool.not_true, Bool.not_false, reduceCtorEq, if_true, if_false, Bool.false_eq_true, ↓reduceIte, Nat.reduceEqDiff, Nat.reduceAdd, Nat.reduceSub, Nat.reduceMul, Nat.reduceLeDiff, Nat.reduceLT, ne_eq, not_false_eq_true, not_true_eq_false, Nat.one_ne_zero, Nat.zero_ne_one]
      first | done | rfl | exact ⟨rfl, rfl⟩
    rintro J2 hJ2 ⟨k, o2, c⟩ ⟨k1, k2, k3, k4, k5, k6⟩
    simp only at k1 k2 k3 k4 k5 k6
    have hwk := i_add1 k (by omega)
    by_cases c2 : k < B.length
    · have i2 : (k : Int) < B.length := by omega
      have gB := getD_map (f := oneN) (d := []) c2
      have eB : B.getD k 0 = B[k] := by rw [List.getD_eq_getElem?_getD, List.getElem?_eq_getElem c2]; rfl
      have hy := dig_at db k
      have htB := take_at B k
      rw [eB] at hy htB
      simp only [oneN] at gB
      generalize B[k] = y at *
      have c3 : i + k < o2.length := by omega
      have gO := getD_map (f := oneN) (d := []) c3
      have eO : o2.getD (i + k) 0 = o2[i + k] := by rw [List.getD_eq_getElem?_getD, List.getElem?_eq_getElem c3]; rfl
      have ho := dig_at k3 (i + k)
      have hset := val_set o2 (i + k)
      rw [eO] at ho
      simp only [eO] at hset
      simp only [oneN] at gO
      generalize o2[i + k] = o at *
      have hxy : x * y ≤ 9999 * 9999 := Nat.mul_le_mul (by omega) (by omega)
      have wik : IntKind.i64.wrap ((i : Int) + (k : Int)) = ((i + k : Nat) : Int) := by rw [wrap_in (by omega) (by omega)]; omega
      have wm : IntKind.i64.wrap ((x : Int) * (y : Int)) = ((x * y : Nat) : Int) := by rw [← Int.natCast_mul, wrap_in (by omega) (by omega)]
      have hst := @mul_step (valN o2) (valN out) (valN (B.take k)) o x y c (10000 ^ (i + k)) (10000 ^ i) (10000 ^ k) ((o + x * y + c) / 10000) ((o + x * y + c) % 10000) (valN (o2.set (i + k) ((o + x * y + c) % 10000))) (by rw [Nat.pow_add, Nat.mul_comm]) k5 (by omega) (hset _ c3)
      rw [← htB] at hst
      generalize x * y = xy at *
      have wa : IntKind.i64.wrap ((o : Int) + (xy : Int)) = ((o + xy : Nat) : Int) := by rw [wrap_in (by omega) (by omega)]; omega
      have wb : IntKind.i64.wrap (((o + xy : Nat) : Int) + (c : Int)) = ((o + xy + c : Nat) : Int) := by rw [wrap_in (by omega) (by omega)]; omega
      have hn : o + xy + c ≤ 99999999 := by omega
      generalize o + xy + c = n at *
      have m1 : ((n : Nat) : Int).tmod 10000 = ((n % 10000 : Nat) : Int) := by rw [show (10000 : Int) = ((10000 : Nat) : Int) from rfl, Int.ofNat_tmod]
      have q1 : ((n : Nat) : Int).tdiv 10000 = ((n / 10000 : Nat) : Int) := by rw [show (10000 : Int) = ((10000 : Nat) : Int) from rfl, Int.ofNat_tdiv]
      have w3 : IntKind.i64.wrap ((n / 10000 : Nat) : Int) = (n / 10000 : Nat) := wrap_in (by omega) (by omega)
      have hi0 : (0 : Int) ≤ (i : Int) := by omega
      have hk0 : (0 : Int) ≤ (k : Int) := by omega
      have hik0 : (0 : Int) ≤ ((i + k : Nat) : Int) := by omega
      have hik1 : ((i + k : Nat) : Int) < (N : Nat) := by omega
      have hsm : (o2.map oneN).set (i + k) [.val (.int .i64 ((n % 10000 : Nat) : Int))] = (o2.set (i + k) (n % 10000)).map oneN := by rw [List.map_set]; rfl
      repeat' first | ((with_reducible (first | refine condD ?_ ?_ | refine condE ?_ ?_ | refine condN ?_ ?_ | refine condI ?_ ?_ | refine condS ?_ ?_)) <;> intro h) | ((with_reducible (first | refine guardD (by with_unfolding_all rfl) ?_ ?_ | refine guardE (by with_unfolding_all rfl) ?_ ?_ | refine guardN (by with_unfolding_all rfl) ?_ ?_ | refine guardI (by with_unfolding_all rfl) ?_ ?_ | refine guardS (by with_unfolding_all rfl) ?_ ?_)) <;> intro h) | (with_reducible refine And.intro ?_ ?_; omega) | (simp only [done_eq, done_eq', donet_eq, donet_eq', fin_val, fin_tup, fin_agg, fin_ro, res_one, res_more, rv_t, rv_c, rv_l, AV.tup.injEq, AV.agg.injEq, AV.ro.injEq, List.cons.injEq, int_eq, bool_eq, Int.toNat_natCast, Int.reduceToNat, Int.toNat_zero, Int.toNat_one, Int.reduceLE, Int.reduceLT, Int.reduceBEq, Int.reduceBNe, beq_self_eq_true, bne_self_eq_false, decide_true, decide_false,  Int.reduceNeg, toNat_pred, toNat_succ, List.length_map, cnd_t, cnd_f, grd_tt, grd_u, grd_tf, grd_ft, grd_ff, g_skip, g_ops, g_seq, g_block, g_exit, g_ret, x_c, x_o, x_l, x_b, g_b, g_nil, r_all, o_nil, g_cond, o_guard, o_call, o_callm, o_callt, o_callx, o_callv, lk, ef, o_mv, o_pick, o_bin, o_never, o_eqs, o_eqb, o_un, o_conv, o_load, o_loadr, o_idxr, o_loads, o_fld, o_idx, o_idxs, o_len, o_lens, o_ext, o_nilck, o_slc, o_slcs, o_build, o_minmax, o_mkfn, o_alloc, o_box, o_boxs, o_row, o_rowr, o_mk, o_asg, o_app, o_store, o_stores, o_eqnil, hv, eqAV, ev, view_t, view_c, view_nil, view_fn, look_own, look_box, look_junk, look_val, look_nilsl, look_ro, look_roAt, look_agg, look_tup, look_clo, look_alias, look_ref, look_into, rowOf, cellsOf, argv, vbin, vun, bnd, elemOf, putParts, setAt, zav, ASt.rid, ASt.free, AV.kill, AV.isHome, AV.noLoan, AV.cellOK, Value.oneCell', put_at, mk_at, mk_nil, initSt, true_and, and_true, and_self, implies_true, List.map_cons, List.map_nil, List.forall_mem_cons, List.not_mem_nil, false_implies, List.length_cons, List.length_nil, List.getD_cons_zero, List.getD_cons_succ, List.getD_nil, List.drop_succ_cons, List.drop_zero, List.take_succ_cons, List.take_zero, List.set_cons_zero, List.set_cons_succ, List.all_cons, List.all_nil, Bool.and_true, Bool.true_and, Bool.not_true, Bool.not_false, reduceCtorEq, if_true, if_false, Bool.false_eq_true, ↓reduceIte, Nat.reduceEqDiff, Nat.reduceAdd, Nat.reduceSub, Nat.reduceMul, Nat.reduceLeDiff, Nat.reduceLT, ne_eq, not_false_eq_true, not_true_eq_false, Nat.one_ne_zero, Nat.zero_ne_one, r37_0, r37_1, r37_2, r37_3, r37_5, r37_6, r37_7, r37_9, r37_10, r37_11, r37_8, r37_12, r37_4, r37_13, p37, l37_1, i1, i2, hi0, hk0, hik0, hik1, k2, gA, gB, gO, wik, wm, wa, wb, m1, q1, w3, hsm, hwk, Int.reduceEq, List.length_map, List.set_cons_zero]) | (exfalso; omega)
      all_goals first | omega | exact again hJ2 (k + 1, o2.set (i + k) (n % 10000), n / 10000) (weak_mk (by simp only [wk_cons, wk_nil, wk1, vint_eq, vbool_eq, AV.val.injEq, done_eq, done_eq', donet_eq, donet_eq', fin_val, fin_tup, fin_agg, fin_ro, res_one, res_more, rv_t, rv_c, rv_l, AV.tup.injEq, AV.agg.injEq, AV.ro.injEq, List.cons.injEq, int_eq, bool_eq, Int.toNat_natCast, Int.reduceToNat, Int.toNat_zero, Int.toNat_one, Int.reduceLE, Int.reduceLT, Int.reduceBEq, Int.reduceBNe, beq_self_eq_true, bne_self_eq_false, decide_true, decide_false,  Int.reduceNeg, toNat_pred, toNat_succ, List.length_map, cnd_t, cnd_f, grd_tt, grd_u, grd_tf, grd_ft, grd_ff, g_skip, g_ops, g_seq, g_block, g_exit, g_ret, x_c, x_o, x_l, x_b, g_b, g_nil, r_all, o_nil, g_cond, o_guard, o_call, o_callm, o_callt, o_callx, o_callv, lk, ef, o_mv, o_pick, o_bin, o_never, o_eqs, o_eqb, o_un, o_conv, o_load, o_loadr, o_idxr, o_loads, o_fld, o_idx, o_idxs, o_len, o_lens, o_ext, o_nilck, o_slc, o_slcs, o_build, o_minmax, o_mkfn, o_alloc, o_box, o_boxs, o_row, o_rowr, o_mk, o_asg, o_app, o_store, o_stores, o_eqnil, hv, eqAV, ev, view_t, view_c, view_nil, view_fn, look_own, look_box, look_junk, look_val, look_nilsl, look_ro, look_roAt, look_agg, look_tup, look_clo, look_alias, look_ref, look_into, rowOf, cellsOf, argv, vbin, vun, bnd, elemOf, putParts, setAt, zav, ASt.rid, ASt.free, AV.kill, AV.isHome, AV.noLoan, AV.cellOK, Value.oneCell', put_at, mk_at, mk_nil, initSt, true_and, and_true, and_self, implies_true, List.map_cons, List.map_nil, List.forall_mem_cons, List.not_mem_nil, false_implies, List.length_cons, List.length_nil, List.getD_cons_zero, List.getD_cons_succ, List.getD_nil, List.drop_succ_cons, List.drop_zero, List.take_succ_cons, List.take_zero, List.set_cons_zero, List.set_cons_succ, List.all_cons, List.all_nil, Bool.and_true, Bool.true_and, Bool.not_true, Bool.not_false, reduceCtorEq, if_true, if_false, Bool.false_eq_true, ↓reduceIte, Nat.reduceEqDiff, Nat.reduceAdd, Nat.reduceSub, Nat.reduceMul, Nat.reduceLeDiff, Nat.reduceLT, ne_eq, not_false_eq_true, not_true_eq_false, Nat.one_ne_zero, Nat.zero_ne_one])) ⟨by simp only; omega, by simp [k2], dig_set k3 (by omega), by simp only; omega, by show valN (o2.set (i + k) (n % 10000)) + n / 10000 * 10000 ^ (i + k + 1) = _; rw [Nat.pow_succ]; exact hst, fun j hj => by simp only at hj ⊢; rw [set_ne (by omega)]; exact k6 j (by omega)⟩ (by simp only; omega)
    · have hke : k = B.length := by omega
      subst hke
      have i2 : ¬ (B.length : Int) < B.length := by omega
      have c3 : i + B.length < o2.length := by omega
      have gO := getD_map (f := oneN) (d := []) c3
      have eO : o2.getD (i + B.length) 0 = o2[i + B.length] := by rw [List.getD_eq_getElem?_getD, List.getElem?_eq_getElem c3]; rfl
      have hz : o2[i + B.length] = 0 := by rw [← eO, k6 _ (Nat.le_refl _), h5 _ (Nat.le_refl _)]
      have hset := val_set o2 (i + B.length) c c3
      rw [eO, hz, Nat.zero_mul, Nat.add_zero] at hset
      simp only [oneN, hz] at gO
      rw [List.take_length, vb] at k5
      have wik : IntKind.i64.wrap ((i : Int) + (B.length : Int)) = ((i + B.length : Nat) : Int) := by rw [wrap_in (by omega) (by omega)]; omega
      have wc : IntKind.i64.wrap (((0 : Nat) : Int) + (c : Int)) = (c : Int) := by rw [wrap_in (by omega) (by omega)]; omega
      have hik0 : (0 : Int) ≤ ((i + B.length : Nat) : Int) := by omega
      have hik1 : ((i + B.length : Nat) : Int) < (N : Nat) := by omega
      have hsm : (o2.map oneN).set (i + B.length) [.val (.int .i64 (c : Nat))] = (o2.set (i + B.length) c).map oneN := by rw [List.map_set]; rfl
      clear hJ2
      repeat' first | ((with_reducible (first | refine condD ?_ ?_ | refine condE ?_ ?_ | refine condN ?_ ?_ | refine condI ?_ ?_ | refine condS ?_ ?_)) <;> intro h) | ((with_reducible (first | refine guardD (by with_unfolding_all rfl) ?_ ?_ | refine guardE (by with_unfolding_all rfl) ?_ ?_ | refine guardN (by with_unfolding_all rfl) ?_ ?_ | refine guardI (by with_unfolding_all rfl) ?_ ?_ | refine guardS (by with_unfolding_all rfl) ?_ ?_)) <;> intro h) | (with_reducible refine And.intro ?_ ?_; omega) | (simp only [done_eq, done_eq', donet_eq, donet_eq', fin_val, fin_tup, fin_agg, fin_ro, res_one, res_more, rv_t, rv_c, rv_l, AV.tup.injEq, AV.agg.injEq, AV.ro.injEq, List.cons.injEq, int_eq, bool_eq, Int.toNat_natCast, Int.reduceToNat, Int.toNat_zero, Int.toNat_one, Int.reduceLE, Int.reduceLT, Int.reduceBEq, Int.reduceBNe, beq_self_eq_true, bne_self_eq_false, decide_true, decide_false,  Int.reduceNeg, toNat_pred, toNat_succ, List.length_map, cnd_t, cnd_f, grd_tt, grd_u, grd_tf, grd_ft, grd_ff, g_skip, g_ops, g_seq, g_block, g_exit, g_ret, x_c, x_o, x_l, x_b, g_b, g_nil, r_all, o_nil, g_cond, o_guard, o_call, o_callm, o_callt, o_callx, o_callv, lk, ef, o_mv, o_pick, o_bin, o_never, o_eqs, o_eqb, o_un, o_conv, o_load, o_loadr, o_idxr, o_loads, o_fld, o_idx, o_idxs, o_len, o_lens, o_ext, o_nilck, o_slc, o_slcs, o_build, o_minmax, o_mkfn, o_alloc, o_box, o_boxs, o_row, o_rowr, o_mk, o_asg, o_app, o_store, o_stores, o_eqnil, hv, eqAV, ev, view_t, view_c, view_nil, view_fn, look_own, look_box, look_junk, look_val, look_nilsl, look_ro, look_roAt, look_agg, look_tup, look_clo, look_alias, look_ref, look_into, rowOf, cellsOf, argv, vbin, vun, bnd, elemOf, putParts, setAt, zav, ASt.rid, ASt.free, AV.kill, AV.isHome, AV.noLoan, AV.cellOK, Value.oneCell', put_at, mk_at, mk_nil, initSt, true_and, and_true, and_self, implies_true, List.map_cons, List.map_nil, List.forall_mem_cons, List.not_mem_nil, false_implies, List.length_cons, List.length_nil, List.getD_cons_zero, List.getD_cons_succ, List.getD_nil, List.drop_succ_cons, List.drop_zero, List.take_succ_cons, List.take_zero, List.set_cons_zero, List.set_cons_succ, List.all_cons, List.all_nil, Bool.and_true, Bool.true_and, Bool.not_true, Bool.not_false, reduceCtorEq, if_true, if_false, Bool.false_eq_true, ↓reduceIte, Nat.reduceEqDiff, Nat.reduceAdd, Nat.reduceSub, Nat.reduceMul, Nat.reduceLeDiff, Nat.reduceLT, ne_eq, not_false_eq_true, not_true_eq_false, Nat.one_ne_zero, Nat.zero_ne_one, r37_0, r37_1, r37_2, r37_3, r37_5, r37_6, r37_7, r37_9, r37_10, r37_11, r37_8, r37_12, r37_4, r37_13, p37, l37_1, i1, i2, hik0, hik1, k2, gO, wik, wc, hsm, hw, List.length_map, List.set_cons_zero]) | (exfalso; omega)
      all_goals first | omega | exact again hJ (i + 1, o2.set (i + B.length) c) (weak_mk (by simp only [wk_cons, wk_nil, wk1, vint_eq, vbool_eq, AV.val.injEq, done_eq, done_eq', donet_eq, donet_eq', fin_val, fin_tup, fin_agg, fin_ro, res_one, res_more, rv_t, rv_c, rv_l, AV.tup.injEq, AV.agg.injEq, AV.ro.injEq, List.cons.injEq, int_eq, bool_eq, Int.toNat_natCast, Int.reduceToNat, Int.toNat_zero, Int.toNat_one, Int.reduceLE, Int.reduceLT, Int.reduceBEq, Int.reduceBNe, beq_self_eq_true, bne_self_eq_false, decide_true, decide_false,  Int.reduceNeg, toNat_pred, toNat_succ, List.length_map, cnd_t, cnd_f, grd_tt, grd_u, grd_tf, grd_ft, grd_ff, g_skip, g_ops, g_seq, g_block, g_exit, g_ret, x_c, x_o, x_l, x_b, g_b, g_nil, r_all, o_nil, g_cond, o_guard, o_call, o_callm, o_callt, o_callx, o_callv, lk, ef, o_mv, o_pick, o_bin, o_never, o_eqs, o_eqb, o_un, o_conv, o_load, o_loadr, o_idxr, o_loads, o_fld, o_idx, o_idxs, o_len, o_lens, o_ext, o_nilck, o_slc, o_slcs, o_build, o_minmax, o_mkfn, o_alloc, o_box, o_boxs, o_row, o_rowr, o_mk, o_asg, o_app, o_store, o_stores, o_eqnil, hv, eqAV, ev, view_t, view_c, view_nil, view_fn, look_own, look_box, look_junk, look_val, look_nilsl, look_ro, look_roAt, look_agg, look_tup, look_clo, look_alias, look_ref, look_into, rowOf, cellsOf, argv, vbin, vun, bnd, elemOf, putParts, setAt, zav, ASt.rid, ASt.free, AV.kill, AV.isHome, AV.noLoan, AV.cellOK, Value.oneCell', put_at, mk_at, mk_nil, initSt, true_and, and_true, and_self, implies_true, List.map_cons, List.map_nil, List.forall_mem_cons, List.not_mem_nil, false_implies, List.length_cons, List.length_nil, List.getD_cons_zero, List.getD_cons_succ, List.getD_nil, List.drop_succ_cons, List.drop_zero, List.take_succ_cons, List.take_zero, List.set_cons_zero, List.set_cons_succ, List.all_cons, List.all_nil, Bool.and_true, Bool.true_and, Bool.not_true, Bool.not_false, reduceCtorEq, if_true, if_false, Bool.false_eq_true, ↓reduceIte, Nat.reduceEqDiff, Nat.reduceAdd, Nat.reduceSub, Nat.reduceMul, Nat.reduceLeDiff, Nat.reduceLT, ne_eq, not_false_eq_true, not_true_eq_false, Nat.one_ne_zero, Nat.zero_ne_one])) ⟨by simp only; omega, by simp [k2], dig_set k3 (by omega), by simp only; rw [hset, k5, h4, htk, Nat.add_mul, Nat.mul_assoc x, Nat.mul_comm b, ← Nat.mul_assoc], fun j hj => by simp only at hj ⊢; rw [set_ne (by omega), k6 j (by omega)]; exact h5 j (by omega)⟩ (by simp only; omega)
  have hie : i = A.length := by omega
  subst hie
  have i1 : ¬ (A.length : Int) < A.length := by omega
  rw [List.take_length, va] at h4
  have hT := trim_c out h3 (by omega)
  rw [h4] at hT
  clear hJ
  repeat' first | ((with_reducible (first | refine condD ?_ ?_ | refine condE ?_ ?_ | refine condN ?_ ?_ | refine condI ?_ ?_ | refine condS ?_ ?_)) <;> intro h) | ((with_reducible (first | refine guardD (by with_unfolding_all rfl) ?_ ?_ | refine guardE (by with_unfolding_all rfl) ?_ ?_ | refine guardN (by with_unfolding_all rfl) ?_ ?_ | refine guardI (by with_unfolding_all rfl) ?_ ?_ | refine guardS (by with_unfolding_all rfl) ?_ ?_)) <;> intro h) | (with_reducible refine And.intro ?_ ?_; omega) | (simp only [done_eq, done_eq', donet_eq, donet_eq', fin_val, fin_tup, fin_agg, fin_ro, res_one, res_more, rv_t, rv_c, rv_l, AV.tup.injEq, AV.agg.injEq, AV.ro.injEq, List.cons.injEq, int_eq, bool_eq, Int.toNat_natCast, Int.reduceToNat, Int.toNat_zero, Int.toNat_one, Int.reduceLE, Int.reduceLT, Int.reduceBEq, Int.reduceBNe, beq_self_eq_true, bne_self_eq_false, decide_true, decide_false,  Int.reduceNeg, toNat_pred, toNat_succ, List.length_map, cnd_t, cnd_f, grd_tt, grd_u, grd_tf, grd_ft, grd_ff, g_skip, g_ops, g_seq, g_block, g_exit, g_ret, x_c, x_o, x_l, x_b, g_b, g_nil, r_all, o_nil, g_cond, o_guard, o_call, o_callm, o_callt, o_callx, o_callv, lk, ef, o_mv, o_pick, o_bin, o_never, o_eqs, o_eqb, o_un, o_conv, o_load, o_loadr, o_idxr, o_loads, o_fld, o_idx, o_idxs, o_len, o_lens, o_ext, o_nilck, o_slc, o_slcs, o_build, o_minmax, o_mkfn, o_alloc, o_box, o_boxs, o_row, o_rowr, o_mk, o_asg, o_app, o_store, o_stores, o_eqnil, hv, eqAV, ev, view_t, view_c, view_nil, view_fn, look_own, look_box, look_junk, look_val, look_nilsl, look_ro, look_roAt, look_agg, look_tup, look_clo, look_alias, look_ref, look_into, rowOf, cellsOf, argv, vbin, vun, bnd, elemOf, putParts, setAt, zav, ASt.rid, ASt.free, AV.kill, AV.isHome, AV.noLoan, AV.cellOK, Value.oneCell', put_at, mk_at, mk_nil, initSt, true_and, and_true, and_self, implies_true, List.map_cons, List.map_nil, List.forall_mem_cons, List.not_mem_nil, false_implies, List.length_cons, List.length_nil, List.getD_cons_zero, List.getD_cons_succ, List.getD_nil, List.drop_succ_cons, List.drop_zero, List.take_succ_cons, List.take_zero, List.set_cons_zero, List.set_cons_succ, List.all_cons, List.all_nil, Bool.and_true, Bool.true_and, Bool.not_true, Bool.not_false, reduceCtorEq, if_true, if_false, Bool.false_eq_true, ↓reduceIte, Nat.reduceEqDiff, Nat.reduceAdd, Nat.reduceSub, Nat.reduceMul, Nat.reduceLeDiff, Nat.reduceLT, ne_eq, not_false_eq_true, not_true_eq_false, Nat.one_ne_zero, Nat.zero_ne_one, r37_0, r37_1, r37_2, r37_3, r37_5, r37_6, r37_7, r37_9, r37_10, r37_11, r37_8, r37_12, r37_4, r37_13, p37, l37_0, i1, List.length_map]) | (exfalso; omega)
  refine opwG (weak_mk (l := [(5, .ro (out.map oneN))]) ?_) ?_
  · simp only [wk_cons, wk_nil, wk1, vint_eq, vbool_eq, AV.val.injEq, done_eq, done_eq', donet_eq, donet_eq', fin_val, fin_tup, fin_agg, fin_ro, res_one, res_more, rv_t, rv_c, rv_l, AV.tup.injEq, AV.agg.injEq, AV.ro.injEq, List.cons.injEq, int_eq, bool_eq, Int.toNat_natCast, Int.reduceToNat, Int.toNat_zero, Int.toNat_one, Int.reduceLE, Int.reduceLT, Int.reduceBEq, Int.reduceBNe, beq_self_eq_true, bne_self_eq_false, decide_true, decide_false,  Int.reduceNeg, toNat_pred, toNat_succ, List.length_map, cnd_t, cnd_f, grd_tt, grd_u, grd_tf, grd_ft, grd_ff, g_skip, g_ops, g_seq, g_block, g_exit, g_ret, x_c, x_o, x_l, x_b, g_b, g_nil, r_all, o_nil, g_cond, o_guard, o_call, o_callm, o_callt, o_callx, o_callv, lk, ef, o_mv, o_pick, o_bin, o_never, o_eqs, o_eqb, o_un, o_conv, o_load, o_loadr, o_idxr, o_loads, o_fld, o_idx, o_idxs, o_len, o_lens, o_ext, o_nilck, o_slc, o_slcs, o_build, o_minmax, o_mkfn, o_alloc, o_box, o_boxs, o_row, o_rowr, o_mk, o_asg, o_app, o_store, o_stores, o_eqnil, hv, eqAV, ev, view_t, view_c, view_nil, view_fn, look_own, look_box, look_junk, look_val, look_nilsl, look_ro, look_roAt, look_agg, look_tup, look_clo, look_alias, look_ref, look_into, rowOf, cellsOf, argv, vbin, vun, bnd, elemOf, putParts, setAt, zav, ASt.rid, ASt.free, AV.kill, AV.isHome, AV.noLoan, AV.cellOK, Value.oneCell', put_at, mk_at, mk_nil, initSt, true_and, and_true, and_self, implies_true, List.map_cons, List.map_nil, List.forall_mem_cons, List.not_mem_nil, false_implies, List.length_cons, List.length_nil, List.getD_cons_zero, List.getD_cons_succ, List.getD_nil, List.drop_succ_cons, List.drop_zero, List.take_succ_cons, List.take_zero, List.set_cons_zero, List.set_cons_succ, List.all_cons, List.all_nil, Bool.and_true, Bool.true_and, Bool.not_true, Bool.not_false, reduceCtorEq, if_true, if_false, Bool.false_eq_true, ↓reduceIte, Nat.reduceEqDiff, Nat.reduceAdd, Nat.reduceSub, Nat.reduceMul, Nat.reduceLeDiff, Nat.reduceLT, ne_eq, not_false_eq_true, not_true_eq_false, Nat.one_ne_zero, Nat.zero_ne_one]
  repeat' first | ((with_reducible (first | refine condD ?_ ?_ | refine condE ?_ ?_ | refine condN ?_ ?_ | refine condI ?_ ?_ | refine condS ?_ ?_)) <;> intro h) | ((with_reducible (first | refine guardD (by with_unfolding_all rfl) ?_ ?_ | refine guardE (by with_unfolding_all rfl) ?_ ?_ | refine guardN (by with_unfolding_all rfl) ?_ ?_ | refine guardI (by with_unfolding_all rfl) ?_ ?_ | refine guardS (by with_unfolding_all rfl) ?_ ?_)) <;> intro h) | ((refine callG hT ?_)) | (with_reducible refine And.intro ?_ ?_; omega) | (simp only [done_eq, done_eq', donet_eq, donet_eq', fin_val, fin_tup, fin_agg, fin_ro, res_one, res_more, rv_t, rv_c, rv_l, AV.tup.injEq, AV.agg.injEq, AV.ro.injEq, List.cons.injEq, int_eq, bool_eq, Int.toNat_natCast, Int.reduceToNat, Int.toNat_zero, Int.toNat_one, Int.reduceLE, Int.reduceLT, Int.reduceBEq, Int.reduceBNe, beq_self_eq_true, bne_self_eq_false, decide_true, decide_false,  Int.reduceNeg, toNat_pred, toNat_succ, List.length_map, cnd_t, cnd_f, grd_tt, grd_u, grd_tf, grd_ft, grd_ff, g_skip, g_ops, g_seq, g_block, g_exit, g_ret, x_c, x_o, x_l, x_b, g_b, g_nil, r_all, o_nil, g_cond, o_guard, o_call, o_callm, o_callt, o_callx, o_callv, lk, ef, o_mv, o_pick, o_bin, o_never, o_eqs, o_eqb, o_un, o_conv, o_load, o_loadr, o_idxr, o_loads, o_fld, o_idx, o_idxs, o_len, o_lens, o_ext, o_nilck, o_slc, o_slcs, o_build, o_minmax, o_mkfn, o_alloc, o_box, o_boxs, o_row, o_rowr, o_mk, o_asg, o_app, o_store, o_stores, o_eqnil, hv, eqAV, ev, view_t, view_c, view_nil, view_fn, look_own, look_box, look_junk, look_val, look_nilsl, look_ro, look_roAt, look_agg, look_tup, look_clo, look_alias, look_ref, look_into, rowOf, cellsOf, argv, vbin, vun, bnd, elemOf, putParts, setAt, zav, ASt.rid, ASt.free, AV.kill, AV.isHome, AV.noLoan, AV.cellOK, Value.oneCell', put_at, mk_at, mk_nil, initSt, true_and, and_true, and_self, implies_true, List.map_cons, List.map_nil, List.forall_mem_cons, List.not_mem_nil, false_implies, List.length_cons, List.length_nil, List.getD_cons_zero, List.getD_cons_succ, List.getD_nil, List.drop_succ_cons, List.drop_zero, List.take_succ_cons, List.take_zero, List.set_cons_zero, List.set_cons_succ, List.all_cons, List.all_nil, Bool.and_true, Bool.true_and, Bool.not_true, Bool.not_false, reduceCtorEq, if_true, if_false, Bool.false_eq_true, ↓reduceIte, Nat.reduceEqDiff, Nat.reduceAdd, Nat.reduceSub, Nat.reduceMul, Nat.reduceLeDiff, Nat.reduceLT, ne_eq, not_false_eq_true, not_true_eq_false, Nat.one_ne_zero, Nat.zero_ne_one, r37_0, r37_1, r37_2, r37_3, r37_5, r37_6, r37_7, r37_9, r37_10, r37_11, r37_8, r37_12, r37_4, r37_13, p37, l37_0]) | (exfalso; omega)
end Go.Proofs.YtjeemcpdmiajmaaDoor
