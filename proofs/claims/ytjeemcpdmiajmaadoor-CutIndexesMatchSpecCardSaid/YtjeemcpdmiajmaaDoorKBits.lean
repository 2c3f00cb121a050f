/- Wide products: math/bits Mul64, by the machine on data. -/
import Derived.Test.YtjeemcpdmiajmaaDoorKDo
import Derived.Lib.Mul64
namespace Go.Proofs.YtjeemcpdmiajmaaDoor
open Go.RowKit
set_option linter.unusedSimpArgs false

theorem u_wrap {n : Int} (h0 : 0 ≤ n) (h1 : n < 18446744073709551616) : IntKind.u64.wrap n = n := by
  unfold IntKind.wrap
  simp [IntKind.bits, IntKind.signed]
  omega
theorem u_and32 (x : Nat) (h : x < 18446744073709551616) : IntKind.u64.wrap ((BitVec.ofInt IntKind.u64.bits (x : Int) &&& BitVec.ofInt IntKind.u64.bits 4294967295).toNat : Int) = ((x % 4294967296 : Nat) : Int) := by
  have e : (BitVec.ofInt IntKind.u64.bits (x : Int) &&& BitVec.ofInt IntKind.u64.bits 4294967295).toNat = x % 4294967296 := by
    show (BitVec.ofInt 64 (x : Int) &&& BitVec.ofInt 64 4294967295).toNat = _
    rw [BitVec.toNat_and, BitVec.toNat_ofInt, BitVec.toNat_ofInt]
    have e1 : ((x : Int) % ((2 ^ 64 : Nat) : Int)).toNat = x := by omega
    have e2 : ((4294967295 : Int) % ((2 ^ 64 : Nat) : Int)).toNat = 2 ^ 32 - 1 := by decide
    rw [e1, e2, Nat.and_two_pow_sub_one_eq_mod]
  rw [e]
  exact u_wrap (by omega) (by omega)
theorem u_shr32 (x : Nat) : (x : Int).fdiv (2 ^ (min 32 IntKind.u64.bits)) = ((x / 4294967296 : Nat) : Int) := by
  show (x : Int).fdiv (2 ^ 32) = _
  rw [Int.fdiv_eq_ediv_of_nonneg _ (by decide)]
  omega

theorem u_mul (a b : Nat) (h : a * b < 18446744073709551616) : IntKind.u64.wrap ((a : Int) * (b : Int)) = ((a * b : Nat) : Int) := by
  rw [← Int.natCast_mul]; exact u_wrap (by omega) (by omega)
theorem u_add (a b : Nat) (h : a + b < 18446744073709551616) : IntKind.u64.wrap ((a : Int) + (b : Int)) = ((a + b : Nat) : Int) := by
  rw [← Int.natCast_add]; exact u_wrap (by omega) (by omega)
theorem u_mod (a : Nat) : IntKind.u64.wrap (a : Int) = ((a % 18446744073709551616 : Nat) : Int) := by
  unfold IntKind.wrap
  simp [IntKind.bits, IntKind.signed]

/-! math/bits.Mul64 -/
def r43_0 : List POp := [⟨4, .asg (.c (.int .u64 0)), none⟩,
  ⟨5, .asg (.c (.int .u64 0)), none⟩]
def r43_1 : List POp := [⟨14, .mv (.t 0), none⟩,
  ⟨15, .bin .and (.t 14) (.c (.int .u64 4294967295)), none⟩,
  ⟨6, .asg (.t 15), none⟩]
def r43_2 : List POp := [⟨16, .mv (.t 0), none⟩,
  ⟨17, .bin .shr (.t 16) (.c (.int .u64 32)), none⟩,
  ⟨7, .asg (.t 17), none⟩]
def r43_3 : List POp := [⟨18, .mv (.t 1), none⟩,
  ⟨19, .bin .and (.t 18) (.c (.int .u64 4294967295)), none⟩,
  ⟨8, .asg (.t 19), none⟩]
def r43_4 : List POp := [⟨20, .mv (.t 1), none⟩,
  ⟨21, .bin .shr (.t 20) (.c (.int .u64 32)), none⟩,
  ⟨9, .asg (.t 21), none⟩]
def r43_5 : List POp := [⟨22, .mv (.t 6), none⟩,
  ⟨23, .mv (.t 8), none⟩,
  ⟨24, .bin .mul (.t 22) (.t 23), none⟩,
  ⟨10, .asg (.t 24), none⟩]
def r43_6 : List POp := [⟨25, .mv (.t 7), none⟩,
  ⟨26, .mv (.t 8), none⟩,
  ⟨27, .bin .mul (.t 25) (.t 26), none⟩,
  ⟨28, .mv (.t 10), none⟩,
  ⟨29, .bin .shr (.t 28) (.c (.int .u64 32)), none⟩,
  ⟨30, .bin .add (.t 27) (.t 29), none⟩,
  ⟨11, .asg (.t 30), none⟩]
def r43_7 : List POp := [⟨31, .mv (.t 11), none⟩,
  ⟨32, .bin .and (.t 31) (.c (.int .u64 4294967295)), none⟩,
  ⟨12, .asg (.t 32), none⟩]
def r43_8 : List POp := [⟨33, .mv (.t 11), none⟩,
  ⟨34, .bin .shr (.t 33) (.c (.int .u64 32)), none⟩,
  ⟨13, .asg (.t 34), none⟩]
def r43_9 : List POp := [⟨35, .mv (.t 12), none⟩,
  ⟨36, .mv (.t 6), none⟩,
  ⟨37, .mv (.t 9), none⟩,
  ⟨38, .bin .mul (.t 36) (.t 37), none⟩,
  ⟨39, .bin .add (.t 35) (.t 38), none⟩,
  ⟨12, .asg (.t 39), none⟩]
def r43_10 : List POp := [⟨40, .mv (.t 7), none⟩,
  ⟨41, .mv (.t 9), none⟩,
  ⟨42, .bin .mul (.t 40) (.t 41), none⟩,
  ⟨43, .mv (.t 13), none⟩,
  ⟨44, .bin .add (.t 42) (.t 43), none⟩,
  ⟨45, .mv (.t 12), none⟩,
  ⟨46, .bin .shr (.t 45) (.c (.int .u64 32)), none⟩,
  ⟨47, .bin .add (.t 44) (.t 46), none⟩,
  ⟨4, .asg (.t 47), none⟩]
def r43_11 : List POp := [⟨48, .mv (.t 0), none⟩,
  ⟨49, .mv (.t 1), none⟩,
  ⟨50, .bin .mul (.t 48) (.t 49), none⟩,
  ⟨5, .asg (.t 50), none⟩]
def p43 : PCode := .seq (.ops r43_0) (.seq (.ops r43_1) (.seq (.ops r43_2) (.seq (.ops r43_3) (.seq (.ops r43_4) (.seq (.ops r43_5) (.seq (.ops r43_6) (.seq (.ops r43_7) (.seq (.ops r43_8) (.seq (.ops r43_9) (.seq (.ops r43_10) (.seq (.ops r43_11) (.ret))))))))))))
theorem ok43 : okFunc Tryd.prog 43 [.t 4, .t 5] 2 p43 = true := by kernel_rfl
theorem mul64_c (x y : Nat) (hx : x < 18446744073709551616) (hy : y < 18446744073709551616) : CallOK Tryd.prog 43 [.val (.int .u64 x), .val (.int .u64 y)] (.tup [.val (.int .u64 ((x * y / 18446744073709551616 : Nat) : Int)), .val (.int .u64 ((x * y % 18446744073709551616 : Nat) : Int))]) := by
  refine call_of mixed ok43 rfl ?_
  obtain ⟨h1, h2, h3, h4⟩ := Lib.mul64_hi x y hx hy
  repeat' first | ((with_reducible (first | refine condD ?_ ?_ | refine condE ?_ ?_ | refine condN ?_ ?_ | refine condI ?_ ?_ | refine condS ?_ ?_)) <;> intro h) | ((with_reducible (first | refine guardD (by with_unfolding_all rfl) ?_ ?_ | refine guardE (by with_unfolding_all rfl) ?_ ?_ | refine guardN (by with_unfolding_all rfl) ?_ ?_ | refine guardI (by with_unfolding_all rfl) ?_ ?_ | refine guardS (by with_unfolding_all rfl) ?_ ?_)) <;> intro h) | (with_reducible refine And.intro ?_ ?_; omega) | (simp only [done_eq, done_eq', donet_eq, donet_eq', fin_val, fin_tup, fin_agg, fin_ro, res_one, res_more, rv_t, rv_c, rv_l, AV.tup.injEq, AV.agg.injEq, AV.ro.injEq, List.cons.injEq, int_eq, bool_eq, Int.toNat_natCast, Int.reduceToNat, Int.toNat_zero, Int.toNat_one, Int.reduceLE, Int.reduceLT, Int.reduceBEq, Int.reduceBNe, beq_self_eq_true, bne_self_eq_false, decide_true, decide_false,  Int.reduceNeg, toNat_pred, toNat_succ, List.length_map, cnd_t, cnd_f, grd_tt, grd_u, grd_tf, grd_ft, grd_ff, g_skip, g_ops, g_seq, g_block, g_exit, g_ret, x_c, x_o, x_l, x_b, g_b, g_nil, r_all, o_nil, g_cond, o_guard, o_call, o_callm, o_callt, o_callx, o_callv, lk, ef, o_mv, o_pick, o_bin, o_never, o_eqs, o_eqb, o_un, o_conv, o_load, o_loadr, o_idxr, o_loads, o_fld, o_idx, o_idxs, o_len, o_lens, o_ext, o_nilck, o_slc, o_slcs, o_build, o_minmax, o_mkfn, o_alloc, o_box, o_boxs, o_row, o_rowr, o_mk, o_asg, o_app, o_store, o_stores, o_eqnil, hv, eqAV, ev, view_t, view_c, view_nil, view_fn, look_own, look_box, look_junk, look_val, look_nilsl, look_ro, look_roAt, look_agg, look_tup, look_clo, look_alias, look_ref, look_into, rowOf, cellsOf, argv, vbin, vun, bnd, elemOf, putParts, setAt, zav, ASt.rid, ASt.free, AV.kill, AV.isHome, AV.noLoan, AV.cellOK, Value.oneCell', put_at, mk_at, mk_nil, initSt, true_and, and_true, and_self, implies_true, List.map_cons, List.map_nil, List.forall_mem_cons, List.not_mem_nil, false_implies, List.length_cons, List.length_nil, List.getD_cons_zero, List.getD_cons_succ, List.getD_nil, List.drop_succ_cons, List.drop_zero, List.take_succ_cons, List.take_zero, List.set_cons_zero, List.set_cons_succ, List.all_cons, List.all_nil, Bool.and_true, Bool.true_and, Bool.not_true, Bool.not_false, reduceCtorEq, if_true, if_false, Bool.false_eq_true, ↓reduceIte, Nat.reduceEqDiff, Nat.reduceAdd, Nat.reduceSub, Nat.reduceMul, Nat.reduceLeDiff, Nat.reduceLT, ne_eq, not_false_eq_true, not_true_eq_false, Nat.one_ne_zero, Nat.zero_ne_one, r43_0, r43_1, r43_2, r43_3, r43_4, r43_5, r43_6, r43_7, r43_8, r43_9, r43_10, r43_11, p43, u_and32 x hx, u_and32 y hy, u_shr32]) | (exfalso; omega)
  have b1 : x / 4294967296 ≤ 4294967295 := by omega
  have b2 : y / 4294967296 ≤ 4294967295 := by omega
  have b3 : x % 4294967296 ≤ 4294967295 := by omega
  have b4 : y % 4294967296 ≤ 4294967295 := by omega
  have m1 := Lib.half_mul_le b1 b4
  have m2 := Lib.half_mul_le b3 b2
  have m3 := Lib.half_mul_le b1 b2
  have hq : x * y / 18446744073709551616 < 18446744073709551616 := by
    have : x * y < 18446744073709551616 * 18446744073709551616 := Nat.mul_lt_mul'' hx hy
    omega
  rw [u_mul _ _ h1, u_shr32, u_mul _ _ (show x / 4294967296 * (y % 4294967296) < 18446744073709551616 by omega), u_add _ _ h2, u_and32 _ h2, u_mul _ _ (show x % 4294967296 * (y / 4294967296) < 18446744073709551616 by omega), u_add _ _ h3, u_shr32, u_shr32, u_mul _ _ (show x / 4294967296 * (y / 4294967296) < 18446744073709551616 by omega), u_add _ _ (by omega), u_add _ _ (by omega), h4]
  refine ⟨rfl, ?_⟩
  rw [← Int.natCast_mul]
  exact u_mod _

/-! headend/wide.size -/
def r44_0 : List POp := [⟨2, .asg (.c (.int .u64 0)), none⟩]
def r44_1 : List POp := [⟨3, .mv (.t 0), none⟩,
  ⟨4, .bin .lss (.t 3) (.c (.int .i64 0)), none⟩]
def r44_2 : List POp := [⟨5, .mv (.t 0), none⟩,
  ⟨6, .conv .u64 (.t 5), none⟩,
  ⟨7, .un .neg (.t 6), none⟩,
  ⟨2, .asg (.t 7), none⟩]
def r44_3 : List POp := [⟨8, .mv (.t 0), none⟩,
  ⟨9, .conv .u64 (.t 8), none⟩,
  ⟨2, .asg (.t 9), none⟩]
def p44 : PCode := .seq (.ops r44_0) (.seq (.seq (.ops r44_1) (.cond (.t 4) (.seq (.ops r44_2) (.ret)) (.skip))) (.seq (.ops r44_3) (.ret)))
theorem ok44 : okFunc Tryd.prog 44 [.t 2] 1 p44 = true := by kernel_rfl
theorem size_c (n : Int) (h0 : -9223372036854775808 ≤ n) (h1 : n ≤ 9223372036854775807) : CallOK Tryd.prog 44 [.val (.int .i64 n)] (.val (.int .u64 (n.natAbs : Int))) := by
  refine call_of mixed ok44 rfl ?_
  repeat' first | ((with_reducible (first | refine condD ?_ ?_ | refine condE ?_ ?_ | refine condN ?_ ?_ | refine condI ?_ ?_ | refine condS ?_ ?_)) <;> intro h) | ((with_reducible (first | refine guardD (by with_unfolding_all rfl) ?_ ?_ | refine guardE (by with_unfolding_all rfl) ?_ ?_ | refine guardN (by with_unfolding_all rfl) ?_ ?_ | refine guardI (by with_unfolding_all rfl) ?_ ?_ | refine guardS (by with_unfolding_all rfl) ?_ ?_)) <;> intro h) | (with_reducible refine And.intro ?_ ?_; omega) | (simp only [done_eq, done_eq', donet_eq, donet_eq', fin_val, fin_tup, fin_agg, fin_ro, res_one, res_more, rv_t, rv_c, rv_l, AV.tup.injEq, AV.agg.injEq, AV.ro.injEq, List.cons.injEq, int_eq, bool_eq, Int.toNat_natCast, Int.reduceToNat, Int.toNat_zero, Int.toNat_one, Int.reduceLE, Int.reduceLT, Int.reduceBEq, Int.reduceBNe, beq_self_eq_true, bne_self_eq_false, decide_true, decide_false,  Int.reduceNeg, toNat_pred, toNat_succ, List.length_map, cnd_t, cnd_f, grd_tt, grd_u, grd_tf, grd_ft, grd_ff, g_skip, g_ops, g_seq, g_block, g_exit, g_ret, x_c, x_o, x_l, x_b, g_b, g_nil, r_all, o_nil, g_cond, o_guard, o_call, o_callm, o_callt, o_callx, o_callv, lk, ef, o_mv, o_pick, o_bin, o_never, o_eqs, o_eqb, o_un, o_conv, o_load, o_loadr, o_idxr, o_loads, o_fld, o_idx, o_idxs, o_len, o_lens, o_ext, o_nilck, o_slc, o_slcs, o_build, o_minmax, o_mkfn, o_alloc, o_box, o_boxs, o_row, o_rowr, o_mk, o_asg, o_app, o_store, o_stores, o_eqnil, hv, eqAV, ev, view_t, view_c, view_nil, view_fn, look_own, look_box, look_junk, look_val, look_nilsl, look_ro, look_roAt, look_agg, look_tup, look_clo, look_alias, look_ref, look_into, rowOf, cellsOf, argv, vbin, vun, bnd, elemOf, putParts, setAt, zav, ASt.rid, ASt.free, AV.kill, AV.isHome, AV.noLoan, AV.cellOK, Value.oneCell', put_at, mk_at, mk_nil, initSt, true_and, and_true, and_self, implies_true, List.map_cons, List.map_nil, List.forall_mem_cons, List.not_mem_nil, false_implies, List.length_cons, List.length_nil, List.getD_cons_zero, List.getD_cons_succ, List.getD_nil, List.drop_succ_cons, List.drop_zero, List.take_succ_cons, List.take_zero, List.set_cons_zero, List.set_cons_succ, List.all_cons, List.all_nil, Bool.and_true, Bool.true_and, Bool.not_true, Bool.not_false, reduceCtorEq, if_true, if_false, Bool.false_eq_true, ↓reduceIte, Nat.reduceEqDiff, Nat.reduceAdd, Nat.reduceSub, Nat.reduceMul, Nat.reduceLeDiff, Nat.reduceLT, ne_eq, not_false_eq_true, not_true_eq_false, Nat.one_ne_zero, Nat.zero_ne_one, r44_0, r44_1, r44_2, r44_3, p44]) | (exfalso; omega)
  all_goals
    simp only [IntKind.wrap, IntKind.bits, IntKind.signed]
    simp
    omega
end Go.Proofs.YtjeemcpdmiajmaaDoor
