/- wide.Scaled, wide.Floor, by the machine on data. -/
import Derived.Test.YtpecmhdepggnoaaKDiv
namespace Go.Proofs.Ytpecmhdepggnoaa
open Go.RowKit
set_option linter.unusedSimpArgs false

/-! headend/wide.Scaled -/
def r38_0 : List POp := [⟨8, .asg (.c (.int .i64 0)), none⟩]
def r38_1 : List POp := [⟨14, .mv (.t 0), none⟩,
  ⟨15, .bin .lss (.t 14) (.c (.int .i64 0)), none⟩,
  ⟨9, .asg (.t 15), none⟩]
def r38_2 : List POp := [⟨17, .mv (.t 0), none⟩,
  ⟨18, .call 63 [.t 17], none⟩,
  ⟨19, .mv (.t 1), none⟩,
  ⟨20, .conv .u64 (.t 19), none⟩,
  ⟨21, .call 62 [.t 18, .t 20], none⟩,
  ⟨16, .mv (.t 21), none⟩,
  ⟨22, .ext 0 (.t 16), none⟩,
  ⟨23, .ext 1 (.t 16), none⟩,
  ⟨10, .mv (.t 22), none⟩,
  ⟨11, .mv (.t 23), none⟩]
def r38_3 : List POp := [⟨12, .asg (.c (.int .u64 1152921504606846976)), none⟩,
  ⟨13, .asg (.c (.int .u64 0)), none⟩]
def r38_4 : List POp := [⟨24, .mv (.t 10), none⟩,
  ⟨25, .mv (.t 2), none⟩,
  ⟨26, .conv .u64 (.t 25), none⟩,
  ⟨27, .bin .lss (.t 24) (.t 26), none⟩]
def r38_5 : List POp := [⟨29, .mv (.t 10), none⟩,
  ⟨30, .mv (.t 11), none⟩,
  ⟨31, .mv (.t 2), none⟩,
  ⟨32, .conv .u64 (.t 31), none⟩,
  ⟨33, .call 64 [.t 29, .t 30, .t 32], none⟩,
  ⟨28, .mv (.t 33), none⟩,
  ⟨34, .ext 0 (.t 28), none⟩,
  ⟨35, .ext 1 (.t 28), none⟩,
  ⟨12, .mv (.t 34), none⟩,
  ⟨13, .mv (.t 35), none⟩]
def r38_6 : List POp := [⟨36, .mv (.t 3), none⟩,
  ⟨37, .mv (.t 9), none⟩,
  ⟨38, .mv (.t 13), none⟩,
  ⟨39, .mv (.t 2), none⟩,
  ⟨40, .conv .u64 (.t 39), none⟩,
  ⟨41, .call 65 [.t 36, .t 37, .t 38, .t 40], none⟩]
def r38_7 : List POp := [⟨42, .mv (.t 12), none⟩,
  ⟨43, .bin .add (.t 42) (.c (.int .u64 1)), none⟩,
  ⟨12, .asg (.t 43), none⟩]
def r38_8 : List POp := [⟨44, .mv (.t 12), none⟩,
  ⟨45, .bin .gtr (.t 44) (.c (.int .u64 1152921504606846976)), none⟩]
def r38_9 : List POp := [⟨12, .asg (.c (.int .u64 1152921504606846976)), none⟩]
def r38_10 : List POp := [⟨46, .mv (.t 9), none⟩]
def r38_11 : List POp := [⟨47, .mv (.t 12), none⟩,
  ⟨48, .conv .i64 (.t 47), none⟩,
  ⟨49, .un .neg (.t 48), none⟩,
  ⟨8, .asg (.t 49), none⟩]
def r38_12 : List POp := [⟨50, .mv (.t 12), none⟩,
  ⟨51, .conv .i64 (.t 50), none⟩,
  ⟨8, .asg (.t 51), none⟩]
def p38 : PCode := .seq (.ops r38_0) (.seq (.ops r38_1) (.seq (.ops r38_2) (.seq (.ops r38_3) (.seq (.seq (.ops r38_4) (.cond (.t 27) (.ops r38_5) (.skip))) (.seq (.seq (.ops r38_6) (.cond (.t 41) (.ops r38_7) (.skip))) (.seq (.seq (.ops r38_8) (.cond (.t 45) (.ops r38_9) (.skip))) (.seq (.seq (.ops r38_10) (.cond (.t 46) (.seq (.ops r38_11) (.ret)) (.skip))) (.seq (.ops r38_12) (.ret)))))))))
theorem ok38 : okFunc Try.prog 38 [.t 8] 4 p38 = true := by kernel_rfl
theorem div64_all (hi lo y : Nat) (h : hi < y) (hl : lo < 18446744073709551616) (hy : y < 18446744073709551616) : CallOK Try.prog 64 [.val (.int .u64 hi), .val (.int .u64 lo), .val (.int .u64 y)]
    (.tup [.val (.int .u64 (((hi * 18446744073709551616 + lo) / y : Nat) : Int)), .val (.int .u64 (((hi * 18446744073709551616 + lo) % y : Nat) : Int))]) := by
  rcases Nat.eq_zero_or_pos hi with rfl | h0
  · rw [Nat.zero_mul, Nat.zero_add]
    exact div64_small lo y hl h hy
  · exact div64_c hi lo y h hl hy h0
/-- The size of n times by / part, as it is computed. -/
def sclA (way : Int) (neg : Bool) (Q p : Nat) : Nat := if 18446744073709551616 * p ≤ Q then 1152921504606846976 else min (if rndB way neg (Q % p) p = true then (Q / p + 1) % 18446744073709551616 else Q / p) 1152921504606846976
def scl (n : Int) (b p : Nat) (way : Int) : Int := if n < 0 then -((sclA way (decide (n < 0)) (n.natAbs * b) p : Nat) : Int) else ((sclA way (decide (n < 0)) (n.natAbs * b) p : Nat) : Int)
theorem scl_neg {n : Int} (b p : Nat) (way : Int) (h : n < 0) : scl n b p way = -((sclA way (decide (n < 0)) (n.natAbs * b) p : Nat) : Int) := if_pos h
theorem scl_pos {n : Int} (b p : Nat) (way : Int) (h : ¬ n < 0) : scl n b p way = ((sclA way (decide (n < 0)) (n.natAbs * b) p : Nat) : Int) := if_neg h
theorem sclA_le (way : Int) (neg : Bool) (Q p : Nat) : sclA way neg Q p ≤ 1152921504606846976 := by
  unfold sclA; split
  · exact Nat.le_refl _
  · exact Nat.min_le_right _ _
theorem rndB_0 (way : Int) (neg : Bool) {p : Nat} (h : 0 < p) : rndB way neg 0 p = false := by
  unfold rndB
  split
  · simp
  · split
    · simp
    · simp; omega
theorem fin_n1 {q : Nat} (h : ¬ (1152921504606846976 : Int) < q) : IntKind.i64.wrap (0 - IntKind.i64.wrap (q : Int)) = -((min q 1152921504606846976 : Nat) : Int) := by
  rw [wrap_in (n := (q : Int)) (by omega) (by omega), wrap_in (by omega) (by omega)]; omega
theorem fin_p1 {q : Nat} (h : ¬ (1152921504606846976 : Int) < q) : IntKind.i64.wrap (q : Int) = ((min q 1152921504606846976 : Nat) : Int) := by
  rw [wrap_in (n := (q : Int)) (by omega) (by omega)]; omega
theorem fin_n2 {q : Nat} (h : (1152921504606846976 : Int) < q) : IntKind.i64.wrap (0 - IntKind.i64.wrap 1152921504606846976) = -((min q 1152921504606846976 : Nat) : Int) := by
  rw [wrap_in (n := 1152921504606846976) (by omega) (by omega), wrap_in (by omega) (by omega)]; omega
theorem fin_p2 {q : Nat} (h : (1152921504606846976 : Int) < q) : IntKind.i64.wrap 1152921504606846976 = ((min q 1152921504606846976 : Nat) : Int) := by
  rw [wrap_in (n := 1152921504606846976) (by omega) (by omega)]; omega
theorem rounds_0 (way : Int) (neg : Bool) (p : Nat) (h : 0 < p) (hp : p ≤ 9223372036854775807) : CallOK Try.prog 65 [.val (.int .i64 way), .val (.bool neg), .val (.int .u64 0), .val (.int .u64 p)] (.val (.bool false)) := by
  have := rounds_c way neg 0 p (by omega) (by omega)
  rwa [rndB_0 _ _ h] at this
theorem scaled_c (n : Int) (b p : Nat) (way : Int) (h0 : -9223372036854775808 ≤ n) (h1 : n ≤ 9223372036854775807) (hb : b ≤ 9223372036854775807) (hp0 : 0 < p) (hp : p ≤ 9223372036854775807) :
    CallOK Try.prog 38 [.val (.int .i64 n), .val (.int .i64 b), .val (.int .i64 p), .val (.int .i64 way)] (.val (.int .i64 (scl n b p way))) := by
  refine call_of mixed ok38 rfl ?_
  have hwb : IntKind.u64.wrap (b : Int) = b := u_wrap (by omega) (by omega)
  have hwp : IntKind.u64.wrap (p : Int) = p := u_wrap (by omega) (by omega)
  have hmul := mul64_c n.natAbs b (by omega) (by omega)
  obtain ⟨Q, hQ⟩ : ∃ Q, Q = n.natAbs * b := ⟨_, rfl⟩
  rw [← hQ] at hmul
  have hsp := fun h => scl_pos (n := n) b p way h
  have hsn := fun h => scl_neg (n := n) b p way h
  rw [← hQ] at hsp hsn
  clear hQ
  have hQ1 : Q / 18446744073709551616 * 18446744073709551616 + Q % 18446744073709551616 = Q := by omega
  by_cases hov : p ≤ Q / 18446744073709551616
  · have hA : ∀ neg, sclA way neg Q p = 1152921504606846976 := fun neg => if_pos (by omega)
    have hov' : ¬ (((Q / 18446744073709551616 : Nat) : Int) < p) := by omega
    rw [hA] at hsp hsn
    by_cases hneg : n < 0
    · rw [hsn hneg]
      clear hsp hsn hA
      repeat' first | ((with_reducible (first | refine condD ?_ ?_ | refine condE ?_ ?_ | refine condN ?_ ?_ | refine condI ?_ ?_ | refine condS ?_ ?_)) <;> intro h) | ((with_reducible (first | refine guardD (by with_unfolding_all rfl) ?_ ?_ | refine guardE (by with_unfolding_all rfl) ?_ ?_ | refine guardN (by with_unfolding_all rfl) ?_ ?_ | refine guardI (by with_unfolding_all rfl) ?_ ?_ | refine guardS (by with_unfolding_all rfl) ?_ ?_)) <;> intro h) | ((refine callG (size_c _ h0 h1) ?_)) | ((refine callG hmul ?_)) | ((refine callG (rounds_0 way true p hp0 hp) ?_)) | (with_reducible refine And.intro ?_ ?_; omega) | (simp only [done_eq, done_eq', donet_eq, donet_eq', fin_val, fin_tup, fin_agg, fin_ro, res_one, res_more, rv_t, rv_c, rv_l, AV.tup.injEq, AV.agg.injEq, AV.ro.injEq, List.cons.injEq, int_eq, bool_eq, Int.toNat_natCast, Int.reduceToNat, Int.toNat_zero, Int.toNat_one, Int.reduceLE, Int.reduceLT, Int.reduceBEq, Int.reduceBNe, beq_self_eq_true, bne_self_eq_false, decide_true, decide_false,  Int.reduceNeg, toNat_pred, toNat_succ, List.length_map, cnd_t, cnd_f, grd_tt, grd_u, grd_tf, grd_ft, grd_ff, g_skip, g_ops, g_seq, g_block, g_exit, g_ret, x_c, x_o, x_l, x_b, g_b, g_nil, r_all, o_nil, g_cond, o_guard, o_call, o_callm, o_callt, o_callx, o_callv, o_callc, o_callh, o_apph, noav_alias, noav_nil, lk, ef, o_mv, o_pick, o_bin, o_never, o_eqs, o_eqb, o_un, o_conv, o_load, o_loadr, o_idxr, o_loads, o_loadsr, o_fld, o_idx, o_idxs, o_len, o_lens, o_ext, o_nilck, o_slc, o_slcs, o_build, o_minmax, o_mkfn, o_mkfnr, o_alloc, o_box, o_boxs, o_row, o_rowr, o_mk, o_asg, o_app, o_appa, o_store, o_stores, o_eqnil, hv, eqAV, ev, view_t, view_c, view_nil, view_fn, look_own, look_box, look_junk, look_val, look_nilsl, look_ro, look_roAt, look_agg, look_tup, look_clo, look_alias, look_ref, look_into, look_fnv, look_held, rowOf, cellsOf, argv, vbin, vun, bnd, elemOf, putParts, setAt, zav, ASt.rid, ASt.hold, ASt.free, AV.kill, AV.isHome, AV.noLoan, AV.cellOK, Value.oneCell', put_at, mk_at, mk_nil, initSt, true_and, and_true, and_self, implies_true, List.map_cons, List.map_nil, List.forall_mem_cons, List.not_mem_nil, false_implies, List.length_cons, List.length_nil, List.getD_cons_zero, List.getD_cons_succ, List.getD_nil, List.drop_succ_cons, List.drop_zero, List.take_succ_cons, List.take_zero, List.set_cons_zero, List.set_cons_succ, List.all_cons, List.all_nil, Bool.and_true, Bool.true_and, Bool.not_true, Bool.not_false, reduceCtorEq, if_true, if_false, Bool.false_eq_true, ↓reduceIte, Nat.reduceEqDiff, Nat.reduceBNe, Nat.reduceAdd, Nat.reduceSub, Nat.reduceMul, Nat.reduceLeDiff, Nat.reduceLT, ne_eq, not_false_eq_true, not_true_eq_false, Nat.one_ne_zero, Nat.zero_ne_one, r38_0, r38_1, r38_2, r38_3, r38_4, r38_5, r38_6, r38_7, r38_8, r38_9, r38_10, r38_11, r38_12, p38, hneg, hwb, hwp, hov']) | (exfalso; omega)
      all_goals rfl
    · rw [hsp hneg]
      clear hsp hsn hA
      repeat' first | ((with_reducible (first | refine condD ?_ ?_ | refine condE ?_ ?_ | refine condN ?_ ?_ | refine condI ?_ ?_ | refine condS ?_ ?_)) <;> intro h) | ((with_reducible (first | refine guardD (by with_unfolding_all rfl) ?_ ?_ | refine guardE (by with_unfolding_all rfl) ?_ ?_ | refine guardN (by with_unfolding_all rfl) ?_ ?_ | refine guardI (by with_unfolding_all rfl) ?_ ?_ | refine guardS (by with_unfolding_all rfl) ?_ ?_)) <;> intro h) | ((refine callG (size_c _ h0 h1) ?_)) | ((refine callG hmul ?_)) | ((refine callG (rounds_0 way false p hp0 hp) ?_)) | (with_reducible refine And.intro ?_ ?_; omega) | (simp only [done_eq, done_eq', donet_eq, donet_eq', fin_val, fin_tup, fin_agg, fin_ro, res_one, res_more, rv_t, rv_c, rv_l, AV.tup.injEq, AV.agg.injEq, AV.ro.injEq, List.cons.injEq, int_eq, bool_eq, Int.toNat_natCast, Int.reduceToNat, Int.toNat_zero, Int.toNat_one, Int.reduceLE, Int.reduceLT, Int.reduceBEq, Int.reduceBNe, beq_self_eq_true, bne_self_eq_false, decide_true, decide_false,  Int.reduceNeg, toNat_pred, toNat_succ, List.length_map, cnd_t, cnd_f, grd_tt, grd_u, grd_tf, grd_ft, grd_ff, g_skip, g_ops, g_seq, g_block, g_exit, g_ret, x_c, x_o, x_l, x_b, g_b, g_nil, r_all, o_nil, g_cond, o_guard, o_call, o_callm, o_callt, o_callx, o_callv, o_callc, o_callh, o_apph, noav_alias, noav_nil, lk, ef, o_mv, o_pick, o_bin, o_never, o_eqs, o_eqb, o_un, o_conv, o_load, o_loadr, o_idxr, o_loads, o_loadsr, o_fld, o_idx, o_idxs, o_len, o_lens, o_ext, o_nilck, o_slc, o_slcs, o_build, o_minmax, o_mkfn, o_mkfnr, o_alloc, o_box, o_boxs, o_row, o_rowr, o_mk, o_asg, o_app, o_appa, o_store, o_stores, o_eqnil, hv, eqAV, ev, view_t, view_c, view_nil, view_fn, look_own, look_box, look_junk, look_val, look_nilsl, look_ro, look_roAt, look_agg, look_tup, look_clo, look_alias, look_ref, look_into, look_fnv, look_held, rowOf, cellsOf, argv, vbin, vun, bnd, elemOf, putParts, setAt, zav, ASt.rid, ASt.hold, ASt.free, AV.kill, AV.isHome, AV.noLoan, AV.cellOK, Value.oneCell', put_at, mk_at, mk_nil, initSt, true_and, and_true, and_self, implies_true, List.map_cons, List.map_nil, List.forall_mem_cons, List.not_mem_nil, false_implies, List.length_cons, List.length_nil, List.getD_cons_zero, List.getD_cons_succ, List.getD_nil, List.drop_succ_cons, List.drop_zero, List.take_succ_cons, List.take_zero, List.set_cons_zero, List.set_cons_succ, List.all_cons, List.all_nil, Bool.and_true, Bool.true_and, Bool.not_true, Bool.not_false, reduceCtorEq, if_true, if_false, Bool.false_eq_true, ↓reduceIte, Nat.reduceEqDiff, Nat.reduceBNe, Nat.reduceAdd, Nat.reduceSub, Nat.reduceMul, Nat.reduceLeDiff, Nat.reduceLT, ne_eq, not_false_eq_true, not_true_eq_false, Nat.one_ne_zero, Nat.zero_ne_one, r38_0, r38_1, r38_2, r38_3, r38_4, r38_5, r38_6, r38_7, r38_8, r38_9, r38_10, r38_11, r38_12, p38, hneg, hwb, hwp, hov']) | (exfalso; omega)
      all_goals rfl
  · have hov' : ((Q / 18446744073709551616 : Nat) : Int) < p := by omega
    have hdiv := div64_all (Q / 18446744073709551616) (Q % 18446744073709551616) p (by omega) (Nat.mod_lt _ (by decide)) (by omega)
    rw [hQ1] at hdiv
    have hr : Q % p < p := Nat.mod_lt _ hp0
    have hrd := rounds_c way (decide (n < 0)) (Q % p) p (by omega) (by omega)
    have hA : ∀ neg, sclA way neg Q p = min (if rndB way neg (Q % p) p = true then (Q / p + 1) % 18446744073709551616 else Q / p) 1152921504606846976 := fun neg => if_neg (by omega)
    have hq : Q / p < 18446744073709551616 := by rw [Nat.div_lt_iff_lt_mul hp0]; omega
    rw [hA] at hsp hsn
    clear hA
    obtain ⟨q1, hq1, hq1b, hwq⟩ : ∃ q1, q1 = (Q / p + 1) % 18446744073709551616 ∧ q1 < 18446744073709551616 ∧ IntKind.u64.wrap (((Q / p : Nat) : Int) + 1) = (q1 : Int) := by
      refine ⟨_, rfl, Nat.mod_lt _ (by decide), ?_⟩
      have := u_mod (Q / p + 1)
      rw [← this]; rfl
    rw [← hq1] at hsp hsn
    have hov'2 := hov'
    clear hq1 hov hov'
    generalize rndB way (decide (n < 0)) (Q % p) p = rb at hsp hsn hrd
    generalize Q / p = q at hq hdiv hsp hsn hwq
    cases rb
    · simp only [Bool.false_eq_true, if_false] at hsp hsn
      by_cases hneg : n < 0
      · rw [hsn hneg]
        clear hsp hsn
        rw [decide_eq_true hneg] at hrd
        repeat' first | ((with_reducible (first | refine condD ?_ ?_ | refine condE ?_ ?_ | refine condN ?_ ?_ | refine condI ?_ ?_ | refine condS ?_ ?_)) <;> intro h) | ((with_reducible (first | refine guardD (by with_unfolding_all rfl) ?_ ?_ | refine guardE (by with_unfolding_all rfl) ?_ ?_ | refine guardN (by with_unfolding_all rfl) ?_ ?_ | refine guardI (by with_unfolding_all rfl) ?_ ?_ | refine guardS (by with_unfolding_all rfl) ?_ ?_)) <;> intro h) | ((refine callG (size_c _ h0 h1) ?_)) | ((refine callG hmul ?_)) | ((refine callG hdiv ?_)) | ((refine callG hrd ?_)) | (with_reducible refine And.intro ?_ ?_; omega) | (simp only [done_eq, done_eq', donet_eq, donet_eq', fin_val, fin_tup, fin_agg, fin_ro, res_one, res_more, rv_t, rv_c, rv_l, AV.tup.injEq, AV.agg.injEq, AV.ro.injEq, List.cons.injEq, int_eq, bool_eq, Int.toNat_natCast, Int.reduceToNat, Int.toNat_zero, Int.toNat_one, Int.reduceLE, Int.reduceLT, Int.reduceBEq, Int.reduceBNe, beq_self_eq_true, bne_self_eq_false, decide_true, decide_false,  Int.reduceNeg, toNat_pred, toNat_succ, List.length_map, cnd_t, cnd_f, grd_tt, grd_u, grd_tf, grd_ft, grd_ff, g_skip, g_ops, g_seq, g_block, g_exit, g_ret, x_c, x_o, x_l, x_b, g_b, g_nil, r_all, o_nil, g_cond, o_guard, o_call, o_callm, o_callt, o_callx, o_callv, o_callc, o_callh, o_apph, noav_alias, noav_nil, lk, ef, o_mv, o_pick, o_bin, o_never, o_eqs, o_eqb, o_un, o_conv, o_load, o_loadr, o_idxr, o_loads, o_loadsr, o_fld, o_idx, o_idxs, o_len, o_lens, o_ext, o_nilck, o_slc, o_slcs, o_build, o_minmax, o_mkfn, o_mkfnr, o_alloc, o_box, o_boxs, o_row, o_rowr, o_mk, o_asg, o_app, o_appa, o_store, o_stores, o_eqnil, hv, eqAV, ev, view_t, view_c, view_nil, view_fn, look_own, look_box, look_junk, look_val, look_nilsl, look_ro, look_roAt, look_agg, look_tup, look_clo, look_alias, look_ref, look_into, look_fnv, look_held, rowOf, cellsOf, argv, vbin, vun, bnd, elemOf, putParts, setAt, zav, ASt.rid, ASt.hold, ASt.free, AV.kill, AV.isHome, AV.noLoan, AV.cellOK, Value.oneCell', put_at, mk_at, mk_nil, initSt, true_and, and_true, and_self, implies_true, List.map_cons, List.map_nil, List.forall_mem_cons, List.not_mem_nil, false_implies, List.length_cons, List.length_nil, List.getD_cons_zero, List.getD_cons_succ, List.getD_nil, List.drop_succ_cons, List.drop_zero, List.take_succ_cons, List.take_zero, List.set_cons_zero, List.set_cons_succ, List.all_cons, List.all_nil, Bool.and_true, Bool.true_and, Bool.not_true, Bool.not_false, reduceCtorEq, if_true, if_false, Bool.false_eq_true, ↓reduceIte, Nat.reduceEqDiff, Nat.reduceBNe, Nat.reduceAdd, Nat.reduceSub, Nat.reduceMul, Nat.reduceLeDiff, Nat.reduceLT, ne_eq, not_false_eq_true, not_true_eq_false, Nat.one_ne_zero, Nat.zero_ne_one, r38_0, r38_1, r38_2, r38_3, r38_4, r38_5, r38_6, r38_7, r38_8, r38_9, r38_10, r38_11, r38_12, p38, hwb, hwp, hneg, hov'2, hwq]) | (exfalso; omega)
        all_goals first | exact fin_n1 (by assumption) | exact fin_n2 (by assumption)
      · rw [hsp hneg]
        clear hsp hsn
        rw [decide_eq_false hneg] at hrd
        repeat' first | ((with_reducible (first | refine condD ?_ ?_ | refine condE ?_ ?_ | refine condN ?_ ?_ | refine condI ?_ ?_ | refine condS ?_ ?_)) <;> intro h) | ((with_reducible (first | refine guardD (by with_unfolding_all rfl) ?_ ?_ | refine guardE (by with_unfolding_all rfl) ?_ ?_ | refine guardN (by with_unfolding_all rfl) ?_ ?_ | refine guardI (by with_unfolding_all rfl) ?_ ?_ | refine guardS (by with_unfolding_all rfl) ?_ ?_)) <;> intro h) | ((refine callG (size_c _ h0 h1) ?_)) | ((refine callG hmul ?_)) | ((refine callG hdiv ?_)) | ((refine callG hrd ?_)) | (with_reducible refine And.intro ?_ ?_; omega) | (simp only [done_eq, done_eq', donet_eq, donet_eq', fin_val, fin_tup, fin_agg, fin_ro, res_one, res_more, rv_t, rv_c, rv_l, AV.tup.injEq, AV.agg.injEq, AV.ro.injEq, List.cons.injEq, int_eq, bool_eq, Int.toNat_natCast, Int.reduceToNat, Int.toNat_zero, Int.toNat_one, Int.reduceLE, Int.reduceLT, Int.reduceBEq, Int.reduceBNe, beq_self_eq_true, bne_self_eq_false, decide_true, decide_false,  Int.reduceNeg, toNat_pred, toNat_succ, List.length_map, cnd_t, cnd_f, grd_tt, grd_u, grd_tf, grd_ft, grd_ff, g_skip, g_ops, g_seq, g_block, g_exit, g_ret, x_c, x_o, x_l, x_b, g_b, g_nil, r_all, o_nil, g_cond, o_guard, o_call, o_callm, o_callt, o_callx, o_callv, o_callc, o_callh, o_apph, noav_alias, noav_nil, lk, ef, o_mv, o_pick, o_bin, o_never, o_eqs, o_eqb, o_un, o_conv, o_load, o_loadr, o_idxr, o_loads, o_loadsr, o_fld, o_idx, o_idxs, o_len, o_lens, o_ext, o_nilck, o_slc, o_slcs, o_build, o_minmax, o_mkfn, o_mkfnr, o_alloc, o_box, o_boxs, o_row, o_rowr, o_mk, o_asg, o_app, o_appa, o_store, o_stores, o_eqnil, hv, eqAV, ev, view_t, view_c, view_nil, view_fn, look_own, look_box, look_junk, look_val, look_nilsl, look_ro, look_roAt, look_agg, look_tup, look_clo, look_alias, look_ref, look_into, look_fnv, look_held, rowOf, cellsOf, argv, vbin, vun, bnd, elemOf, putParts, setAt, zav, ASt.rid, ASt.hold, ASt.free, AV.kill, AV.isHome, AV.noLoan, AV.cellOK, Value.oneCell', put_at, mk_at, mk_nil, initSt, true_and, and_true, and_self, implies_true, List.map_cons, List.map_nil, List.forall_mem_cons, List.not_mem_nil, false_implies, List.length_cons, List.length_nil, List.getD_cons_zero, List.getD_cons_succ, List.getD_nil, List.drop_succ_cons, List.drop_zero, List.take_succ_cons, List.take_zero, List.set_cons_zero, List.set_cons_succ, List.all_cons, List.all_nil, Bool.and_true, Bool.true_and, Bool.not_true, Bool.not_false, reduceCtorEq, if_true, if_false, Bool.false_eq_true, ↓reduceIte, Nat.reduceEqDiff, Nat.reduceBNe, Nat.reduceAdd, Nat.reduceSub, Nat.reduceMul, Nat.reduceLeDiff, Nat.reduceLT, ne_eq, not_false_eq_true, not_true_eq_false, Nat.one_ne_zero, Nat.zero_ne_one, r38_0, r38_1, r38_2, r38_3, r38_4, r38_5, r38_6, r38_7, r38_8, r38_9, r38_10, r38_11, r38_12, p38, hwb, hwp, hneg, hov'2, hwq]) | (exfalso; omega)
        all_goals first | exact fin_p1 (by assumption) | exact fin_p2 (by assumption)
    · simp only [if_true] at hsp hsn
      by_cases hneg : n < 0
      · rw [hsn hneg]
        clear hsp hsn
        rw [decide_eq_true hneg] at hrd
        repeat' first | ((with_reducible (first | refine condD ?_ ?_ | refine condE ?_ ?_ | refine condN ?_ ?_ | refine condI ?_ ?_ | refine condS ?_ ?_)) <;> intro h) | ((with_reducible (first | refine guardD (by with_unfolding_all rfl) ?_ ?_ | refine guardE (by with_unfolding_all rfl) ?_ ?_ | refine guardN (by with_unfolding_all rfl) ?_ ?_ | refine guardI (by with_unfolding_all rfl) ?_ ?_ | refine guardS (by with_unfolding_all rfl) ?_ ?_)) <;> intro h) | ((refine callG (size_c _ h0 h1) ?_)) | ((refine callG hmul ?_)) | ((refine callG hdiv ?_)) | ((refine callG hrd ?_)) | (with_reducible refine And.intro ?_ ?_; omega) | (simp only [done_eq, done_eq', donet_eq, donet_eq', fin_val, fin_tup, fin_agg, fin_ro, res_one, res_more, rv_t, rv_c, rv_l, AV.tup.injEq, AV.agg.injEq, AV.ro.injEq, List.cons.injEq, int_eq, bool_eq, Int.toNat_natCast, Int.reduceToNat, Int.toNat_zero, Int.toNat_one, Int.reduceLE, Int.reduceLT, Int.reduceBEq, Int.reduceBNe, beq_self_eq_true, bne_self_eq_false, decide_true, decide_false,  Int.reduceNeg, toNat_pred, toNat_succ, List.length_map, cnd_t, cnd_f, grd_tt, grd_u, grd_tf, grd_ft, grd_ff, g_skip, g_ops, g_seq, g_block, g_exit, g_ret, x_c, x_o, x_l, x_b, g_b, g_nil, r_all, o_nil, g_cond, o_guard, o_call, o_callm, o_callt, o_callx, o_callv, o_callc, o_callh, o_apph, noav_alias, noav_nil, lk, ef, o_mv, o_pick, o_bin, o_never, o_eqs, o_eqb, o_un, o_conv, o_load, o_loadr, o_idxr, o_loads, o_loadsr, o_fld, o_idx, o_idxs, o_len, o_lens, o_ext, o_nilck, o_slc, o_slcs, o_build, o_minmax, o_mkfn, o_mkfnr, o_alloc, o_box, o_boxs, o_row, o_rowr, o_mk, o_asg, o_app, o_appa, o_store, o_stores, o_eqnil, hv, eqAV, ev, view_t, view_c, view_nil, view_fn, look_own, look_box, look_junk, look_val, look_nilsl, look_ro, look_roAt, look_agg, look_tup, look_clo, look_alias, look_ref, look_into, look_fnv, look_held, rowOf, cellsOf, argv, vbin, vun, bnd, elemOf, putParts, setAt, zav, ASt.rid, ASt.hold, ASt.free, AV.kill, AV.isHome, AV.noLoan, AV.cellOK, Value.oneCell', put_at, mk_at, mk_nil, initSt, true_and, and_true, and_self, implies_true, List.map_cons, List.map_nil, List.forall_mem_cons, List.not_mem_nil, false_implies, List.length_cons, List.length_nil, List.getD_cons_zero, List.getD_cons_succ, List.getD_nil, List.drop_succ_cons, List.drop_zero, List.take_succ_cons, List.take_zero, List.set_cons_zero, List.set_cons_succ, List.all_cons, List.all_nil, Bool.and_true, Bool.true_and, Bool.not_true, Bool.not_false, reduceCtorEq, if_true, if_false, Bool.false_eq_true, ↓reduceIte, Nat.reduceEqDiff, Nat.reduceBNe, Nat.reduceAdd, Nat.reduceSub, Nat.reduceMul, Nat.reduceLeDiff, Nat.reduceLT, ne_eq, not_false_eq_true, not_true_eq_false, Nat.one_ne_zero, Nat.zero_ne_one, r38_0, r38_1, r38_2, r38_3, r38_4, r38_5, r38_6, r38_7, r38_8, r38_9, r38_10, r38_11, r38_12, p38, hwb, hwp, hneg, hov'2, hwq]) | (exfalso; omega)
        all_goals first | exact fin_n1 (by assumption) | exact fin_n2 (by assumption)
      · rw [hsp hneg]
        clear hsp hsn
        rw [decide_eq_false hneg] at hrd
        repeat' first | ((with_reducible (first | refine condD ?_ ?_ | refine condE ?_ ?_ | refine condN ?_ ?_ | refine condI ?_ ?_ | refine condS ?_ ?_)) <;> intro h) | ((with_reducible (first | refine guardD (by with_unfolding_all rfl) ?_ ?_ | refine guardE (by with_unfolding_all rfl) ?_ ?_ | refine guardN (by with_unfolding_all rfl) ?_ ?_ | refine guardI (by with_unfolding_all rfl) ?_ ?_ | refine guardS (by with_unfolding_all rfl) ?_ ?_)) <;> intro h) | ((refine callG (size_c _ h0 h1) ?_)) | ((refine callG hmul ?_)) | ((refine callG hdiv ?_)) | ((refine callG hrd ?_)) | (with_reducible refine And.intro ?_ ?_; omega) | (simp only [done_eq, done_eq', donet_eq, donet_eq', fin_val, fin_tup, fin_agg, fin_ro, res_one, res_more, rv_t, rv_c, rv_l, AV.tup.injEq, AV.agg.injEq, AV.ro.injEq, List.cons.injEq, int_eq, bool_eq, Int.toNat_natCast, Int.reduceToNat, Int.toNat_zero, Int.toNat_one, Int.reduceLE, Int.reduceLT, Int.reduceBEq, Int.reduceBNe, beq_self_eq_true, bne_self_eq_false, decide_true, decide_false,  Int.reduceNeg, toNat_pred, toNat_succ, List.length_map, cnd_t, cnd_f, grd_tt, grd_u, grd_tf, grd_ft, grd_ff, g_skip, g_ops, g_seq, g_block, g_exit, g_ret, x_c, x_o, x_l, x_b, g_b, g_nil, r_all, o_nil, g_cond, o_guard, o_call, o_callm, o_callt, o_callx, o_callv, o_callc, o_callh, o_apph, noav_alias, noav_nil, lk, ef, o_mv, o_pick, o_bin, o_never, o_eqs, o_eqb, o_un, o_conv, o_load, o_loadr, o_idxr, o_loads, o_loadsr, o_fld, o_idx, o_idxs, o_len, o_lens, o_ext, o_nilck, o_slc, o_slcs, o_build, o_minmax, o_mkfn, o_mkfnr, o_alloc, o_box, o_boxs, o_row, o_rowr, o_mk, o_asg, o_app, o_appa, o_store, o_stores, o_eqnil, hv, eqAV, ev, view_t, view_c, view_nil, view_fn, look_own, look_box, look_junk, look_val, look_nilsl, look_ro, look_roAt, look_agg, look_tup, look_clo, look_alias, look_ref, look_into, look_fnv, look_held, rowOf, cellsOf, argv, vbin, vun, bnd, elemOf, putParts, setAt, zav, ASt.rid, ASt.hold, ASt.free, AV.kill, AV.isHome, AV.noLoan, AV.cellOK, Value.oneCell', put_at, mk_at, mk_nil, initSt, true_and, and_true, and_self, implies_true, List.map_cons, List.map_nil, List.forall_mem_cons, List.not_mem_nil, false_implies, List.length_cons, List.length_nil, List.getD_cons_zero, List.getD_cons_succ, List.getD_nil, List.drop_succ_cons, List.drop_zero, List.take_succ_cons, List.take_zero, List.set_cons_zero, List.set_cons_succ, List.all_cons, List.all_nil, Bool.and_true, Bool.true_and, Bool.not_true, Bool.not_false, reduceCtorEq, if_true, if_false, Bool.false_eq_true, ↓reduceIte, Nat.reduceEqDiff, Nat.reduceBNe, Nat.reduceAdd, Nat.reduceSub, Nat.reduceMul, Nat.reduceLeDiff, Nat.reduceLT, ne_eq, not_false_eq_true, not_true_eq_false, Nat.one_ne_zero, Nat.zero_ne_one, r38_0, r38_1, r38_2, r38_3, r38_4, r38_5, r38_6, r38_7, r38_8, r38_9, r38_10, r38_11, r38_12, p38, hwb, hwp, hneg, hov'2, hwq]) | (exfalso; omega)
        all_goals first | exact fin_p1 (by assumption) | exact fin_p2 (by assumption)
theorem scaledI_c (n b p way : Int) (h0 : -9223372036854775808 ≤ n) (h1 : n ≤ 9223372036854775807) (hb0 : 0 ≤ b) (hb : b ≤ 9223372036854775807) (hp0 : 0 < p) (hp : p ≤ 9223372036854775807) :
    CallOK Try.prog 38 [.val (.int .i64 n), .val (.int .i64 b), .val (.int .i64 p), .val (.int .i64 way)] (.val (.int .i64 (scl n b.toNat p.toNat way))) := by
  obtain ⟨b, rfl⟩ : ∃ k : Nat, b = k := ⟨b.toNat, by omega⟩
  obtain ⟨p, rfl⟩ : ∃ k : Nat, p = k := ⟨p.toNat, by omega⟩
  exact scaled_c n b p way h0 h1 (by omega) (by omega) (by omega)
end Go.Proofs.Ytpecmhdepggnoaa
