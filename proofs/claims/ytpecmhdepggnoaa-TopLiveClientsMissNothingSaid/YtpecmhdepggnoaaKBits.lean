/- Wide products: math/bits Mul64, by the machine on data. -/
import Derived.Test.YtpecmhdepggnoaaKDo
import Derived.Lib.Mul64
namespace Go.Proofs.Ytpecmhdepggnoaa
open Go.RowKit
set_option linter.unusedSimpArgs false

theorem u_wrap {n : Int} (h0 : 0 ≤ n) (h1 : n < 18446744073709551616) : IntKind.u64.wrap n = n := by
  unfold IntKind.wrap
  simp [IntKind.bits, IntKind.signed]
  omega
theorem u_and32 (x : Nat) (h : x < 18446744073709551616) : IntKind.u64.wrap ((BitVec.ofInt IntKind.u64.bits (x : Int) &&& BitVec.ofInt IntKind.u64.bits 4294967295).toNat : Int) = ((x % 4294967296 : Nat) : Int) := by
  have e : (BitVec.ofInt IntKind.u64.bits (x : Int) &&& BitVec.ofInt IntKind.u64.bits 4294967295).toNat = x % 4294967296 := by
    show (BitVec.ofInt 64 (x : Int) &&& BitVec.ofInt 64 4294967295).toNat = _
    rw [BitVec.toNat_and, BitVec.toNat_ofInt, BitVec.toNat_ofInt]
    have e1 : ((x : Int) % ((2 ^ 64 : Nat) : Int)).toNat = x := by omega
    have e2 : ((4294967295 : Int) % ((2 ^ 64 : Nat) : Int)).toNat = 2 ^ 32 - 1 := by decide
    rw [e1, e2, Nat.and_two_pow_sub_one_eq_mod]
  rw [e]
  exact u_wrap (by omega) (by omega)
theorem u_shr32 (x : Nat) : (x : Int).fdiv (2 ^ (min 32 IntKind.u64.bits)) = ((x / 4294967296 : Nat) : Int) := by
  show (x : Int).fdiv (2 ^ 32) = _
  rw [Int.fdiv_eq_ediv_of_nonneg _ (by decide)]
  omega

theorem u_mul (a b : Nat) (h : a * b < 18446744073709551616) : IntKind.u64.wrap ((a : Int) * (b : Int)) = ((a * b : Nat) : Int) := by
  rw [← Int.natCast_mul]; exact u_wrap (by omega) (by omega)
theorem u_add (a b : Nat) (h : a + b < 18446744073709551616) : IntKind.u64.wrap ((a : Int) + (b : Int)) = ((a + b : Nat) : Int) := by
  rw [← Int.natCast_add]; exact u_wrap (by omega) (by omega)
theorem u_mod (a : Nat) : IntKind.u64.wrap (a : Int) = ((a % 18446744073709551616 : Nat) : Int) := by
  unfold IntKind.wrap
  simp [IntKind.bits, IntKind.signed]

/-! math/bits.Mul64 -/
def r62_0 : List POp := [⟨4, .asg (.c (.int .u64 0)), none⟩,
  ⟨5, .asg (.c (.int .u64 0)), none⟩]
def r62_1 : List POp := [⟨14, .mv (.t 0), none⟩,
  ⟨15, .bin .and (.t 14) (.c (.int .u64 4294967295)), none⟩,
  ⟨6, .asg (.t 15), none⟩]
def r62_2 : List POp := [⟨16, .mv (.t 0), none⟩,
  ⟨17, .bin .shr (.t 16) (.c (.int .u64 32)), none⟩,
  ⟨7, .asg (.t 17), none⟩]
def r62_3 : List POp := [⟨18, .mv (.t 1), none⟩,
  ⟨19, .bin .and (.t 18) (.c (.int .u64 4294967295)), none⟩,
  ⟨8, .asg (.t 19), none⟩]
def r62_4 : List POp := [⟨20, .mv (.t 1), none⟩,
  ⟨21, .bin .shr (.t 20) (.c (.int .u64 32)), none⟩,
  ⟨9, .asg (.t 21), none⟩]
def r62_5 : List POp := [⟨22, .mv (.t 6), none⟩,
  ⟨23, .mv (.t 8), none⟩,
  ⟨24, .bin .mul (.t 22) (.t 23), none⟩,
  ⟨10, .asg (.t 24), none⟩]
def r62_6 : List POp := [⟨25, .mv (.t 7), none⟩,
  ⟨26, .mv (.t 8), none⟩,
  ⟨27, .bin .mul (.t 25) (.t 26), none⟩,
  ⟨28, .mv (.t 10), none⟩,
  ⟨29, .bin .shr (.t 28) (.c (.int .u64 32)), none⟩,
  ⟨30, .bin .add (.t 27) (.t 29), none⟩,
  ⟨11, .asg (.t 30), none⟩]
def r62_7 : List POp := [⟨31, .mv (.t 11), none⟩,
  ⟨32, .bin .and (.t 31) (.c (.int .u64 4294967295)), none⟩,
  ⟨12, .asg (.t 32), none⟩]
def r62_8 : List POp := [⟨33, .mv (.t 11), none⟩,
  ⟨34, .bin .shr (.t 33) (.c (.int .u64 32)), none⟩,
  ⟨13, .asg (.t 34), none⟩]
def r62_9 : List POp := [⟨35, .mv (.t 12), none⟩,
  ⟨36, .mv (.t 6), none⟩,
  ⟨37, .mv (.t 9), none⟩,
  ⟨38, .bin .mul (.t 36) (.t 37), none⟩,
  ⟨39, .bin .add (.t 35) (.t 38), none⟩,
  ⟨12, .asg (.t 39), none⟩]
def r62_10 : List POp := [⟨40, .mv (.t 7), none⟩,
  ⟨41, .mv (.t 9), none⟩,
  ⟨42, .bin .mul (.t 40) (.t 41), none⟩,
  ⟨43, .mv (.t 13), none⟩,
  ⟨44, .bin .add (.t 42) (.t 43), none⟩,
  ⟨45, .mv (.t 12), none⟩,
  ⟨46, .bin .shr (.t 45) (.c (.int .u64 32)), none⟩,
  ⟨47, .bin .add (.t 44) (.t 46), none⟩,
  ⟨4, .asg (.t 47), none⟩]
def r62_11 : List POp := [⟨48, .mv (.t 0), none⟩,
  ⟨49, .mv (.t 1), none⟩,
  ⟨50, .bin .mul (.t 48) (.t 49), none⟩,
  ⟨5, .asg (.t 50), none⟩]
def p62 : PCode := .seq (.ops r62_0) (.seq (.ops r62_1) (.seq (.ops r62_2) (.seq (.ops r62_3) (.seq (.ops r62_4) (.seq (.ops r62_5) (.seq (.ops r62_6) (.seq (.ops r62_7) (.seq (.ops r62_8) (.seq (.ops r62_9) (.seq (.ops r62_10) (.seq (.ops r62_11) (.ret))))))))))))
theorem ok62 : okFunc Try.prog 62 [.t 4, .t 5] 2 p62 = true := by kernel_rfl
theorem mul64_c (x y : Nat) (hx : x < 18446744073709551616) (hy : y < 18446744073709551616) : CallOK Try.prog 62 [.val (.int .u64 x), .val (.int .u64 y)] (.tup [.val (.int .u64 ((x * y / 18446744073709551616 : Nat) : Int)), .val (.int .u64 ((x * y % 18446744073709551616 : Nat) : Int))]) := by
  refine call_of mixed ok62 rfl ?_
  obtain ⟨h1, h2, h3, h4⟩ := Lib.mul64_hi x y hx hy
  repeat' first | ((with_reducible (first | refine condD ?_ ?_ | refine condE ?_ ?_ | refine condN ?_ ?_ | refine condI ?_ ?_ | refine condS ?_ ?_)) <;> intro h) | ((with_reducible (first | refine guardD (by with_unfolding_all rfl) ?_ ?_ | refine guardE (by with_unfolding_all rfl) ?_ ?_ | refine guardN (by with_unfolding_all rfl) ?_ ?_ | refine guardI (by with_unfolding_all rfl) ?_ ?_ | refine guardS (by with_unfolding_all rfl) ?_ ?_)) <;> intro h) | (with_reducible refine And.intro ?_ ?_; omega) | (simp only [done_eq, done_eq', donet_eq, donet_eq', fin_val, fin_tup, fin_agg, fin_ro, res_one, res_more, rv_t, rv_c, rv_l, AV.tup.injEq, AV.agg.injEq, AV.ro.injEq, List.cons.injEq, int_eq, bool_eq, Int.toNat_natCast, Int.reduceToNat, Int.toNat_zero, Int.toNat_one, Int.reduceLE, Int.reduceLT, Int.reduceBEq, Int.reduceBNe, beq_self_eq_true, bne_self_eq_false, decide_true, decide_false,  Int.reduceNeg, toNat_pred, toNat_succ, List.length_map, cnd_t, cnd_f, grd_tt, grd_u, grd_tf, grd_ft, grd_ff, g_skip, g_ops, g_seq, g_block, g_exit, g_ret, x_c, x_o, x_l, x_b, g_b, g_nil, r_all, o_nil, g_cond, o_guard, o_call, o_callm, o_callt, o_callx, o_callv, o_callc, o_callh, o_apph, noav_alias, noav_nil, lk, ef, o_mv, o_pick, o_bin, o_never, o_eqs, o_eqb, o_un, o_conv, o_load, o_loadr, o_idxr, o_loads, o_loadsr, o_fld, o_idx, o_idxs, o_len, o_lens, o_ext, o_nilck, o_slc, o_slcs, o_build, o_minmax, o_mkfn, o_mkfnr, o_alloc, o_box, o_boxs, o_row, o_rowr, o_mk, o_asg, o_app, o_appa, o_store, o_stores, o_eqnil, hv, eqAV, ev, view_t, view_c, view_nil, view_fn, look_own, look_box, look_junk, look_val, look_nilsl, look_ro, look_roAt, look_agg, look_tup, look_clo, look_alias, look_ref, look_into, look_fnv, look_held, rowOf, cellsOf, argv, vbin, vun, bnd, elemOf, putParts, setAt, zav, ASt.rid, ASt.hold, ASt.free, AV.kill, AV.isHome, AV.noLoan, AV.cellOK, Value.oneCell', put_at, mk_at, mk_nil, initSt, true_and, and_true, and_self, implies_true, List.map_cons, List.map_nil, List.forall_mem_cons, List.not_mem_nil, false_implies, List.length_cons, List.length_nil, List.getD_cons_zero, List.getD_cons_succ, List.getD_nil, List.drop_succ_cons, List.drop_zero, List.take_succ_cons, List.take_zero, List.set_cons_zero, List.set_cons_succ, List.all_cons, List.all_nil, Bool.and_true, Bool.true_and, Bool.not_true, Bool.not_false, reduceCtorEq, if_true, if_false, Bool.false_eq_true, ↓reduceIte, Nat.reduceEqDiff, Nat.reduceBNe, Nat.reduceAdd, Nat.reduceSub, Nat.reduceMul, Nat.reduceLeDiff, Nat.reduceLT, ne_eq, not_false_eq_true, not_true_eq_false, Nat.one_ne_zero, Nat.zero_ne_one, r62_0, r62_1, r62_2, r62_3, r62_4, r62_5, r62_6, r62_7, r62_8, r62_9, r62_10, r62_11, p62, u_and32 x hx, u_and32 y hy, u_shr32]) | (exfalso; omega)
  have b1 : x / 4294967296 ≤ 4294967295 := by omega
  have b2 : y / 4294967296 ≤ 4294967295 := by omega
  have b3 : x % 4294967296 ≤ 4294967295 := by omega
  have b4 : y % 4294967296 ≤ 4294967295 := by omega
  have m1 := Lib.half_mul_le b1 b4
  have m2 := Lib.half_mul_le b3 b2
  have m3 := Lib.half_mul_le b1 b2
  have hq : x * y / 18446744073709551616 < 18446744073709551616 := by
    have : x * y < 18446744073709551616 * 18446744073709551616 := Nat.mul_lt_mul'' hx hy
    omega
  rw [u_mul _ _ h1, u_shr32, u_mul _ _ (show x / 4294967296 * (y % 4294967296) < 18446744073709551616 by omega), u_add _ _ h2, u_and32 _ h2, u_mul _ _ (show x % 4294967296 * (y / 4294967296) < 18446744073709551616 by omega), u_add _ _ h3, u_shr32, u_shr32, u_mul _ _ (show x / 4294967296 * (y / 4294967296) < 18446744073709551616 by omega), u_add _ _ (by omega), u_add _ _ (by omega), h4]
  refine ⟨rfl, ?_⟩
  rw [← Int.natCast_mul]
  exact u_mod _

/-! headend/wide.size -/
def r63_0 : List POp := [⟨2, .asg (.c (.int .u64 0)), none⟩]
def r63_1 : List POp := [⟨3, .mv (.t 0), none⟩,
  ⟨4, .bin .lss (.t 3) (.c (.int .i64 0)), none⟩]
def r63_2 : List POp := [⟨5, .mv (.t 0), none⟩,
  ⟨6, .conv .u64 (.t 5), none⟩,
  ⟨7, .un .neg (.t 6), none⟩,
  ⟨2, .asg (.t 7), none⟩]
def r63_3 : List POp := [⟨8, .mv (.t 0), none⟩,
  ⟨9, .conv .u64 (.t 8), none⟩,
  ⟨2, .asg (.t 9), none⟩]
def p63 : PCode := .seq (.ops r63_0) (.seq (.seq (.ops r63_1) (.cond (.t 4) (.seq (.ops r63_2) (.ret)) (.skip))) (.seq (.ops r63_3) (.ret)))
theorem ok63 : okFunc Try.prog 63 [.t 2] 1 p63 = true := by kernel_rfl
theorem size_c (n : Int) (h0 : -9223372036854775808 ≤ n) (h1 : n ≤ 9223372036854775807) : CallOK Try.prog 63 [.val (.int .i64 n)] (.val (.int .u64 (n.natAbs : Int))) := by
  refine call_of mixed ok63 rfl ?_
  repeat' first | ((with_reducible (first | refine condD ?_ ?_ | refine condE ?_ ?_ | refine condN ?_ ?_ | refine condI ?_ ?_ | refine condS ?_ ?_)) <;> intro h) | ((with_reducible (first | refine guardD (by with_unfolding_all rfl) ?_ ?_ | refine guardE (by with_unfolding_all rfl) ?_ ?_ | refine guardN (by with_unfolding_all rfl) ?_ ?_ | refine guardI (by with_unfolding_all rfl) ?_ ?_ | refine guardS (by with_unfolding_all rfl) ?_ ?_)) <;> intro h) | (with_reducible refine And.intro ?_ ?_; omega) | (simp only [done_eq, done_eq', donet_eq, donet_eq', fin_val, fin_tup, fin_agg, fin_ro, res_one, res_more, rv_t, rv_c, rv_l, AV.tup.injEq, AV.agg.injEq, AV.ro.injEq, List.cons.injEq, int_eq, bool_eq, Int.toNat_natCast, Int.reduceToNat, Int.toNat_zero, Int.toNat_one, Int.reduceLE, Int.reduceLT, Int.reduceBEq, Int.reduceBNe, beq_self_eq_true, bne_self_eq_false, decide_true, decide_false,  Int.reduceNeg, toNat_pred, toNat_succ, List.length_map, cnd_t, cnd_f, grd_tt, grd_u, grd_tf, grd_ft, grd_ff, g_skip, g_ops, g_seq, g_block, g_exit, g_ret, x_c, x_o, x_l, x_b, g_b, g_nil, r_all, o_nil, g_cond, o_guard, o_call, o_callm, o_callt, o_callx, o_callv, o_callc, o_callh, o_apph, noav_alias, noav_nil, lk, ef, o_mv, o_pick, o_bin, o_never, o_eqs, o_eqb, o_un, o_conv, o_load, o_loadr, o_idxr, o_loads, o_loadsr, o_fld, o_idx, o_idxs, o_len, o_lens, o_ext, o_nilck, o_slc, o_slcs, o_build, o_minmax, o_mkfn, o_mkfnr, o_alloc, o_box, o_boxs, o_row, o_rowr, o_mk, o_asg, o_app, o_appa, o_store, o_stores, o_eqnil, hv, eqAV, ev, view_t, view_c, view_nil, view_fn, look_own, look_box, look_junk, look_val, look_nilsl, look_ro, look_roAt, look_agg, look_tup, look_clo, look_alias, look_ref, look_into, look_fnv, look_held, rowOf, cellsOf, argv, vbin, vun, bnd, elemOf, putParts, setAt, zav, ASt.rid, ASt.hold, ASt.free, AV.kill, AV.isHome, AV.noLoan, AV.cellOK, Value.oneCell', put_at, mk_at, mk_nil, initSt, true_and, and_true, and_self, implies_true, List.map_cons, List.map_nil, List.forall_mem_cons, List.not_mem_nil, false_implies, List.length_cons, List.length_nil, List.getD_cons_zero, List.getD_cons_succ, List.getD_nil, List.drop_succ_cons, List.drop_zero, List.take_succ_cons, List.take_zero, List.set_cons_zero, List.set_cons_succ, List.all_cons, List.all_nil, Bool.and_true, Bool.true_and, Bool.not_true, Bool.not_false, reduceCtorEq, if_true, if_false, Bool.false_eq_true, ↓reduceIte, Nat.reduceEqDiff, Nat.reduceBNe, Nat.reduceAdd, Nat.reduceSub, Nat.reduceMul, Nat.reduceLeDiff, Nat.reduceLT, ne_eq, not_false_eq_true, not_true_eq_false, Nat.one_ne_zero, Nat.zero_ne_one, r63_0, r63_1, r63_2, r63_3, p63]) | (exfalso; omega)
  all_goals
    simp only [IntKind.wrap, IntKind.bits, IntKind.signed]
    simp
    omega
/-! headend/wide.rounds -/
def r65_0 : List POp := [⟨8, .asg (.c (.bool false)), none⟩]
def r65_1 : List POp := [⟨9, .mv (.t 0), none⟩]
def r65_2 : List POp := [⟨11, .bin .eql (.t 9) (.c (.int .i64 1)), none⟩,
  ⟨10, .asg (.t 11), none⟩]
def r65_3 : List POp := [⟨12, .mv (.t 1), none⟩,
  ⟨13, .mv (.t 12), none⟩,
  ⟨14, .mv (.t 2), some (13, true)⟩,
  ⟨15, .bin .gtr (.t 14) (.c (.int .u64 0)), some (13, true)⟩,
  ⟨16, .pick (.t 13) (.t 15) (.c (.bool false)), none⟩,
  ⟨8, .asg (.t 16), none⟩]
def r65_4 : List POp := [⟨18, .bin .eql (.t 9) (.c (.int .i64 3)), none⟩,
  ⟨17, .asg (.t 18), none⟩]
def r65_5 : List POp := [⟨19, .mv (.t 1), none⟩,
  ⟨20, .un .not (.t 19), none⟩,
  ⟨21, .mv (.t 20), none⟩,
  ⟨22, .mv (.t 2), some (21, true)⟩,
  ⟨23, .bin .gtr (.t 22) (.c (.int .u64 0)), some (21, true)⟩,
  ⟨24, .pick (.t 21) (.t 23) (.c (.bool false)), none⟩,
  ⟨8, .asg (.t 24), none⟩]
def r65_6 : List POp := [⟨25, .mv (.t 2), none⟩,
  ⟨26, .mv (.t 3), none⟩,
  ⟨27, .mv (.t 2), none⟩,
  ⟨28, .bin .sub (.t 26) (.t 27), none⟩,
  ⟨29, .bin .geq (.t 25) (.t 28), none⟩,
  ⟨8, .asg (.t 29), none⟩]
def p65 : PCode := .seq (.ops r65_0) (.seq (.seq (.ops r65_1) (.block 0 (.seq (.ops r65_2) (.cond (.t 10) (.seq (.ops r65_3) (.ret)) (.seq (.ops r65_4) (.cond (.t 17) (.seq (.ops r65_5) (.ret)) (.skip))))))) (.seq (.ops r65_6) (.ret)))
theorem ok65 : okFunc Try.prog 65 [.t 8] 4 p65 = true := by kernel_rfl
def rndB (way : Int) (neg : Bool) (r p : Nat) : Bool := if way = 1 then neg && decide (0 < r) else if way = 3 then !neg && decide (0 < r) else decide (p ≤ 2 * r)
theorem rounds_c (way : Int) (neg : Bool) (r p : Nat) (h : r ≤ p) (hp : p < 18446744073709551616) : CallOK Try.prog 65 [.val (.int .i64 way), .val (.bool neg), .val (.int .u64 r), .val (.int .u64 p)] (.val (.bool (rndB way neg r p))) := by
  refine call_of mixed ok65 rfl ?_
  have hw : IntKind.u64.wrap ((p : Int) - (r : Int)) = (p : Int) - (r : Int) := u_wrap (by omega) (by omega)
  repeat' first | ((with_reducible (first | refine condD ?_ ?_ | refine condE ?_ ?_ | refine condN ?_ ?_ | refine condI ?_ ?_ | refine condS ?_ ?_)) <;> intro h) | ((with_reducible (first | refine guardD (by with_unfolding_all rfl) ?_ ?_ | refine guardE (by with_unfolding_all rfl) ?_ ?_ | refine guardN (by with_unfolding_all rfl) ?_ ?_ | refine guardI (by with_unfolding_all rfl) ?_ ?_ | refine guardS (by with_unfolding_all rfl) ?_ ?_)) <;> intro h) | (with_reducible refine And.intro ?_ ?_; omega) | (simp only [done_eq, done_eq', donet_eq, donet_eq', fin_val, fin_tup, fin_agg, fin_ro, res_one, res_more, rv_t, rv_c, rv_l, AV.tup.injEq, AV.agg.injEq, AV.ro.injEq, List.cons.injEq, int_eq, bool_eq, Int.toNat_natCast, Int.reduceToNat, Int.toNat_zero, Int.toNat_one, Int.reduceLE, Int.reduceLT, Int.reduceBEq, Int.reduceBNe, beq_self_eq_true, bne_self_eq_false, decide_true, decide_false,  Int.reduceNeg, toNat_pred, toNat_succ, List.length_map, cnd_t, cnd_f, grd_tt, grd_u, grd_tf, grd_ft, grd_ff, g_skip, g_ops, g_seq, g_block, g_exit, g_ret, x_c, x_o, x_l, x_b, g_b, g_nil, r_all, o_nil, g_cond, o_guard, o_call, o_callm, o_callt, o_callx, o_callv, o_callc, o_callh, o_apph, noav_alias, noav_nil, lk, ef, o_mv, o_pick, o_bin, o_never, o_eqs, o_eqb, o_un, o_conv, o_load, o_loadr, o_idxr, o_loads, o_loadsr, o_fld, o_idx, o_idxs, o_len, o_lens, o_ext, o_nilck, o_slc, o_slcs, o_build, o_minmax, o_mkfn, o_mkfnr, o_alloc, o_box, o_boxs, o_row, o_rowr, o_mk, o_asg, o_app, o_appa, o_store, o_stores, o_eqnil, hv, eqAV, ev, view_t, view_c, view_nil, view_fn, look_own, look_box, look_junk, look_val, look_nilsl, look_ro, look_roAt, look_agg, look_tup, look_clo, look_alias, look_ref, look_into, look_fnv, look_held, rowOf, cellsOf, argv, vbin, vun, bnd, elemOf, putParts, setAt, zav, ASt.rid, ASt.hold, ASt.free, AV.kill, AV.isHome, AV.noLoan, AV.cellOK, Value.oneCell', put_at, mk_at, mk_nil, initSt, true_and, and_true, and_self, implies_true, List.map_cons, List.map_nil, List.forall_mem_cons, List.not_mem_nil, false_implies, List.length_cons, List.length_nil, List.getD_cons_zero, List.getD_cons_succ, List.getD_nil, List.drop_succ_cons, List.drop_zero, List.take_succ_cons, List.take_zero, List.set_cons_zero, List.set_cons_succ, List.all_cons, List.all_nil, Bool.and_true, Bool.true_and, Bool.not_true, Bool.not_false, reduceCtorEq, if_true, if_false, Bool.false_eq_true, ↓reduceIte, Nat.reduceEqDiff, Nat.reduceBNe, Nat.reduceAdd, Nat.reduceSub, Nat.reduceMul, Nat.reduceLeDiff, Nat.reduceLT, ne_eq, not_false_eq_true, not_true_eq_false, Nat.one_ne_zero, Nat.zero_ne_one, r65_0, r65_1, r65_2, r65_3, r65_4, r65_5, r65_6, p65, hw]) | (exfalso; omega)
  all_goals first
    | (simp [rndB, *]; done)
    | (simp [rndB, *]; omega)
/-! math/bits.Div64 -/
def r64_0 : List POp := [⟨6, .asg (.c (.int .u64 0)), none⟩,
  ⟨7, .asg (.c (.int .u64 0)), none⟩]
def r64_1 : List POp := [⟨19, .mv (.t 2), none⟩,
  ⟨20, .bin .eql (.t 19) (.c (.int .u64 0)), none⟩]
def r64_2 : List POp := [⟨21, .never, none⟩,
  ⟨0, .never, none⟩]
def r64_3 : List POp := [⟨22, .mv (.t 2), none⟩,
  ⟨23, .mv (.t 0), none⟩,
  ⟨24, .bin .leq (.t 22) (.t 23), none⟩]
def r64_4 : List POp := [⟨25, .never, none⟩,
  ⟨0, .never, none⟩]
def r64_5 : List POp := [⟨26, .mv (.t 0), none⟩,
  ⟨27, .bin .eql (.t 26) (.c (.int .u64 0)), none⟩]
def r64_6 : List POp := [⟨28, .mv (.t 1), none⟩,
  ⟨29, .mv (.t 2), none⟩,
  ⟨30, .bin .quo (.t 28) (.t 29), none⟩,
  ⟨31, .mv (.t 1), none⟩,
  ⟨32, .mv (.t 2), none⟩,
  ⟨33, .bin .rem (.t 31) (.t 32), none⟩,
  ⟨6, .mv (.t 30), none⟩,
  ⟨7, .mv (.t 33), none⟩]
def r64_7 : List POp := [⟨34, .mv (.t 2), none⟩,
  ⟨35, .call 85 [.t 34], none⟩,
  ⟨36, .conv .u64 (.t 35), none⟩,
  ⟨8, .asg (.t 36), none⟩]
def r64_8 : List POp := [⟨37, .mv (.t 2), none⟩,
  ⟨38, .mv (.t 8), none⟩,
  ⟨39, .bin .shl (.t 37) (.t 38), none⟩,
  ⟨2, .asg (.t 39), none⟩]
def r64_9 : List POp := [⟨40, .mv (.t 2), none⟩,
  ⟨41, .bin .shr (.t 40) (.c (.int .u64 32)), none⟩,
  ⟨9, .asg (.t 41), none⟩]
def r64_10 : List POp := [⟨42, .mv (.t 2), none⟩,
  ⟨43, .bin .and (.t 42) (.c (.int .u64 4294967295)), none⟩,
  ⟨10, .asg (.t 43), none⟩]
def r64_11 : List POp := [⟨44, .mv (.t 0), none⟩,
  ⟨45, .mv (.t 8), none⟩,
  ⟨46, .bin .shl (.t 44) (.t 45), none⟩,
  ⟨47, .mv (.t 1), none⟩,
  ⟨48, .mv (.t 8), none⟩,
  ⟨49, .bin .sub (.c (.int .u64 64)) (.t 48), none⟩,
  ⟨50, .bin .shr (.t 47) (.t 49), none⟩,
  ⟨51, .bin .or (.t 46) (.t 50), none⟩,
  ⟨11, .asg (.t 51), none⟩]
def r64_12 : List POp := [⟨52, .mv (.t 1), none⟩,
  ⟨53, .mv (.t 8), none⟩,
  ⟨54, .bin .shl (.t 52) (.t 53), none⟩,
  ⟨12, .asg (.t 54), none⟩]
def r64_13 : List POp := [⟨55, .mv (.t 12), none⟩,
  ⟨56, .bin .shr (.t 55) (.c (.int .u64 32)), none⟩,
  ⟨13, .asg (.t 56), none⟩]
def r64_14 : List POp := [⟨57, .mv (.t 12), none⟩,
  ⟨58, .bin .and (.t 57) (.c (.int .u64 4294967295)), none⟩,
  ⟨14, .asg (.t 58), none⟩]
def r64_15 : List POp := [⟨59, .mv (.t 11), none⟩,
  ⟨60, .mv (.t 9), none⟩,
  ⟨61, .bin .quo (.t 59) (.t 60), none⟩,
  ⟨15, .asg (.t 61), none⟩]
def r64_16 : List POp := [⟨62, .mv (.t 11), none⟩,
  ⟨63, .mv (.t 15), none⟩,
  ⟨64, .mv (.t 9), none⟩,
  ⟨65, .bin .mul (.t 63) (.t 64), none⟩,
  ⟨66, .bin .sub (.t 62) (.t 65), none⟩,
  ⟨16, .asg (.t 66), none⟩]
def r64_17 : List POp := [⟨67, .mv (.t 15), none⟩,
  ⟨68, .bin .geq (.t 67) (.c (.int .u64 4294967296)), none⟩,
  ⟨69, .mv (.t 68), none⟩,
  ⟨70, .mv (.t 15), some (69, false)⟩,
  ⟨71, .mv (.t 10), some (69, false)⟩,
  ⟨72, .bin .mul (.t 70) (.t 71), some (69, false)⟩,
  ⟨73, .mv (.t 16), some (69, false)⟩,
  ⟨74, .bin .mul (.c (.int .u64 4294967296)) (.t 73), some (69, false)⟩,
  ⟨75, .mv (.t 13), some (69, false)⟩,
  ⟨76, .bin .add (.t 74) (.t 75), some (69, false)⟩,
  ⟨77, .bin .gtr (.t 72) (.t 76), some (69, false)⟩,
  ⟨78, .pick (.t 69) (.c (.bool true)) (.t 77), none⟩]
def r64_18 : List POp := [⟨79, .mv (.t 15), none⟩,
  ⟨80, .bin .sub (.t 79) (.c (.int .u64 1)), none⟩,
  ⟨15, .asg (.t 80), none⟩]
def r64_19 : List POp := [⟨81, .mv (.t 16), none⟩,
  ⟨82, .mv (.t 9), none⟩,
  ⟨83, .bin .add (.t 81) (.t 82), none⟩,
  ⟨16, .asg (.t 83), none⟩]
def r64_20 : List POp := [⟨84, .mv (.t 16), none⟩,
  ⟨85, .bin .geq (.t 84) (.c (.int .u64 4294967296)), none⟩]
def r64_21 : List POp := [⟨86, .mv (.t 11), none⟩,
  ⟨87, .bin .mul (.t 86) (.c (.int .u64 4294967296)), none⟩,
  ⟨88, .mv (.t 13), none⟩,
  ⟨89, .bin .add (.t 87) (.t 88), none⟩,
  ⟨90, .mv (.t 15), none⟩,
  ⟨91, .mv (.t 2), none⟩,
  ⟨92, .bin .mul (.t 90) (.t 91), none⟩,
  ⟨93, .bin .sub (.t 89) (.t 92), none⟩,
  ⟨17, .asg (.t 93), none⟩]
def r64_22 : List POp := [⟨94, .mv (.t 17), none⟩,
  ⟨95, .mv (.t 9), none⟩,
  ⟨96, .bin .quo (.t 94) (.t 95), none⟩,
  ⟨18, .asg (.t 96), none⟩]
def r64_23 : List POp := [⟨97, .mv (.t 17), none⟩,
  ⟨98, .mv (.t 18), none⟩,
  ⟨99, .mv (.t 9), none⟩,
  ⟨100, .bin .mul (.t 98) (.t 99), none⟩,
  ⟨101, .bin .sub (.t 97) (.t 100), none⟩,
  ⟨16, .asg (.t 101), none⟩]
def r64_24 : List POp := [⟨102, .mv (.t 18), none⟩,
  ⟨103, .bin .geq (.t 102) (.c (.int .u64 4294967296)), none⟩,
  ⟨104, .mv (.t 103), none⟩,
  ⟨105, .mv (.t 18), some (104, false)⟩,
  ⟨106, .mv (.t 10), some (104, false)⟩,
  ⟨107, .bin .mul (.t 105) (.t 106), some (104, false)⟩,
  ⟨108, .mv (.t 16), some (104, false)⟩,
  ⟨109, .bin .mul (.c (.int .u64 4294967296)) (.t 108), some (104, false)⟩,
  ⟨110, .mv (.t 14), some (104, false)⟩,
  ⟨111, .bin .add (.t 109) (.t 110), some (104, false)⟩,
  ⟨112, .bin .gtr (.t 107) (.t 111), some (104, false)⟩,
  ⟨113, .pick (.t 104) (.c (.bool true)) (.t 112), none⟩]
def r64_25 : List POp := [⟨114, .mv (.t 18), none⟩,
  ⟨115, .bin .sub (.t 114) (.c (.int .u64 1)), none⟩,
  ⟨18, .asg (.t 115), none⟩]
def r64_26 : List POp := [⟨116, .mv (.t 16), none⟩,
  ⟨117, .mv (.t 9), none⟩,
  ⟨118, .bin .add (.t 116) (.t 117), none⟩,
  ⟨16, .asg (.t 118), none⟩]
def r64_27 : List POp := [⟨119, .mv (.t 16), none⟩,
  ⟨120, .bin .geq (.t 119) (.c (.int .u64 4294967296)), none⟩]
def r64_28 : List POp := [⟨121, .mv (.t 15), none⟩,
  ⟨122, .bin .mul (.t 121) (.c (.int .u64 4294967296)), none⟩,
  ⟨123, .mv (.t 18), none⟩,
  ⟨124, .bin .add (.t 122) (.t 123), none⟩,
  ⟨125, .mv (.t 17), none⟩,
  ⟨126, .bin .mul (.t 125) (.c (.int .u64 4294967296)), none⟩,
  ⟨127, .mv (.t 14), none⟩,
  ⟨128, .bin .add (.t 126) (.t 127), none⟩,
  ⟨129, .mv (.t 18), none⟩,
  ⟨130, .mv (.t 2), none⟩,
  ⟨131, .bin .mul (.t 129) (.t 130), none⟩,
  ⟨132, .bin .sub (.t 128) (.t 131), none⟩,
  ⟨133, .mv (.t 8), none⟩,
  ⟨134, .bin .shr (.t 132) (.t 133), none⟩,
  ⟨6, .mv (.t 124), none⟩,
  ⟨7, .mv (.t 134), none⟩]
def l64_1 : PCode := .seq (.seq (.ops r64_24) (.cond (.t 113) (.skip) (.exit 2))) (.block 3 (.seq (.ops r64_25) (.seq (.ops r64_26) (.seq (.ops r64_27) (.cond (.t 120) (.exit 2) (.skip))))))
def l64_0 : PCode := .seq (.seq (.ops r64_17) (.cond (.t 78) (.skip) (.exit 0))) (.block 1 (.seq (.ops r64_18) (.seq (.ops r64_19) (.seq (.ops r64_20) (.cond (.t 85) (.exit 0) (.skip))))))
def p64 : PCode := .seq (.ops r64_0) (.seq (.seq (.ops r64_1) (.cond (.t 20) (.ops r64_2) (.skip))) (.seq (.seq (.ops r64_3) (.cond (.t 24) (.ops r64_4) (.skip))) (.seq (.seq (.ops r64_5) (.cond (.t 27) (.seq (.ops r64_6) (.ret)) (.skip))) (.seq (.ops r64_7) (.seq (.ops r64_8) (.seq (.ops r64_9) (.seq (.ops r64_10) (.seq (.ops r64_11) (.seq (.ops r64_12) (.seq (.ops r64_13) (.seq (.ops r64_14) (.seq (.ops r64_15) (.seq (.ops r64_16) (.seq (.block 0 (.loop l64_0)) (.seq (.ops r64_21) (.seq (.ops r64_22) (.seq (.ops r64_23) (.seq (.block 2 (.loop l64_1)) (.seq (.ops r64_28) (.ret))))))))))))))))))))
theorem ok64 : okFunc Try.prog 64 [.t 6, .t 7] 3 p64 = true := by kernel_rfl
theorem div64_small (lo y : Nat) (hl : lo < 18446744073709551616) (hy0 : 0 < y) (hy : y < 18446744073709551616) : CallOK Try.prog 64 [.val (.int .u64 0), .val (.int .u64 lo), .val (.int .u64 y)] (.tup [.val (.int .u64 ((lo / y : Nat) : Int)), .val (.int .u64 ((lo % y : Nat) : Int))]) := by
  refine call_of mixed ok64 rfl ?_
  have hy1 : ((y : Int) == 0) = false := by simp; omega
  have hy2 : ¬ ((y : Int) ≤ 0) := by omega
  repeat' first | ((with_reducible (first | refine condD ?_ ?_ | refine condE ?_ ?_ | refine condN ?_ ?_ | refine condI ?_ ?_ | refine condS ?_ ?_)) <;> intro h) | ((with_reducible (first | refine guardD (by with_unfolding_all rfl) ?_ ?_ | refine guardE (by with_unfolding_all rfl) ?_ ?_ | refine guardN (by with_unfolding_all rfl) ?_ ?_ | refine guardI (by with_unfolding_all rfl) ?_ ?_ | refine guardS (by with_unfolding_all rfl) ?_ ?_)) <;> intro h) | (with_reducible refine And.intro ?_ ?_; omega) | (simp only [done_eq, done_eq', donet_eq, donet_eq', fin_val, fin_tup, fin_agg, fin_ro, res_one, res_more, rv_t, rv_c, rv_l, AV.tup.injEq, AV.agg.injEq, AV.ro.injEq, List.cons.injEq, int_eq, bool_eq, Int.toNat_natCast, Int.reduceToNat, Int.toNat_zero, Int.toNat_one, Int.reduceLE, Int.reduceLT, Int.reduceBEq, Int.reduceBNe, beq_self_eq_true, bne_self_eq_false, decide_true, decide_false,  Int.reduceNeg, toNat_pred, toNat_succ, List.length_map, cnd_t, cnd_f, grd_tt, grd_u, grd_tf, grd_ft, grd_ff, g_skip, g_ops, g_seq, g_block, g_exit, g_ret, x_c, x_o, x_l, x_b, g_b, g_nil, r_all, o_nil, g_cond, o_guard, o_call, o_callm, o_callt, o_callx, o_callv, o_callc, o_callh, o_apph, noav_alias, noav_nil, lk, ef, o_mv, o_pick, o_bin, o_never, o_eqs, o_eqb, o_un, o_conv, o_load, o_loadr, o_idxr, o_loads, o_loadsr, o_fld, o_idx, o_idxs, o_len, o_lens, o_ext, o_nilck, o_slc, o_slcs, o_build, o_minmax, o_mkfn, o_mkfnr, o_alloc, o_box, o_boxs, o_row, o_rowr, o_mk, o_asg, o_app, o_appa, o_store, o_stores, o_eqnil, hv, eqAV, ev, view_t, view_c, view_nil, view_fn, look_own, look_box, look_junk, look_val, look_nilsl, look_ro, look_roAt, look_agg, look_tup, look_clo, look_alias, look_ref, look_into, look_fnv, look_held, rowOf, cellsOf, argv, vbin, vun, bnd, elemOf, putParts, setAt, zav, ASt.rid, ASt.hold, ASt.free, AV.kill, AV.isHome, AV.noLoan, AV.cellOK, Value.oneCell', put_at, mk_at, mk_nil, initSt, true_and, and_true, and_self, implies_true, List.map_cons, List.map_nil, List.forall_mem_cons, List.not_mem_nil, false_implies, List.length_cons, List.length_nil, List.getD_cons_zero, List.getD_cons_succ, List.getD_nil, List.drop_succ_cons, List.drop_zero, List.take_succ_cons, List.take_zero, List.set_cons_zero, List.set_cons_succ, List.all_cons, List.all_nil, Bool.and_true, Bool.true_and, Bool.not_true, Bool.not_false, reduceCtorEq, if_true, if_false, Bool.false_eq_true, ↓reduceIte, Nat.reduceEqDiff, Nat.reduceBNe, Nat.reduceAdd, Nat.reduceSub, Nat.reduceMul, Nat.reduceLeDiff, Nat.reduceLT, ne_eq, not_false_eq_true, not_true_eq_false, Nat.one_ne_zero, Nat.zero_ne_one, r64_0, r64_1, r64_2, r64_3, r64_4, r64_5, r64_6, r64_7, r64_8, r64_9, r64_10, r64_11, r64_12, r64_13, r64_14, r64_15, r64_16, r64_17, r64_18, r64_19, r64_20, r64_21, r64_22, r64_23, r64_24, r64_25, r64_26, r64_27, r64_28, p64, hy1, hy2]) | (exfalso; omega)
  refine ⟨?_, rfl⟩
  rw [Int.tdiv_eq_ediv_of_nonneg (by omega)]
  have : lo / y < 18446744073709551616 := Nat.lt_of_le_of_lt (Nat.div_le_self _ _) hl
  rw [← Int.natCast_ediv]
  generalize lo / y = q at this ⊢
  exact u_wrap (by omega) (by omega)
end Go.Proofs.Ytpecmhdepggnoaa
