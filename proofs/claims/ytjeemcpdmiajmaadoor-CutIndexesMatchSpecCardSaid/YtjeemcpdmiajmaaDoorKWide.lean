/- Numbers of 128 bits: wide.Times, Compare, by the machine on data. -/
import Derived.Test.YtjeemcpdmiajmaaDoorKBits
import Derived.Test.YtjeemcpdmiajmaaDoorKNat
import Derived.Shelf.Spec.BitsCarry
namespace Go.Proofs.YtjeemcpdmiajmaaDoor
open Go.RowKit
set_option linter.unusedSimpArgs false

theorem sub64_x (x y b : Nat) (hb : b ≤ 1) : ExtOK Tryd.prog 45 [.int .u64 x, .int .u64 y, .int .u64 b] [.int .u64 (((x + 18446744073709551616 - y - b) % 18446744073709551616 : Nat) : Int), .int .u64 ((if x < y + b then 1 else 0 : Nat) : Int)] := by
  intro w
  show (callFunc 45 #[.int .u64 x, .int .u64 y, .int .u64 b]).run Tryd.prog w = _
  rw [run_callFunc_extern Tryd.func45 (by kernel_rfl) (by kernel_rfl) (by kernel_rfl) (e := sub64Entry) (by kernel_rfl), run_sub64 x y b hb]
  rfl

theorem sub0_x (y b : Int) (hy : 0 ≤ y) (hy1 : y < 18446744073709551616) (hb : 0 ≤ b) (hb1 : b ≤ 1) : ExtOK Tryd.prog 45 [.int .u64 0, .int .u64 y, .int .u64 b] [.int .u64 ((-y - b) % 18446744073709551616), .int .u64 (if 0 < y + b then 1 else 0)] := by
  have h := sub64_x 0 y.toNat b.toNat (by omega)
  have e1 : (((0 + 18446744073709551616 - y.toNat - b.toNat) % 18446744073709551616 : Nat) : Int) = (-y - b) % 18446744073709551616 := by omega
  have e2 : ((if 0 < y.toNat + b.toNat then 1 else 0 : Nat) : Int) = if 0 < y + b then 1 else 0 := by
    by_cases h : 0 < y + b
    · rw [if_pos h, if_pos (by omega)]; rfl
    · rw [if_neg h, if_neg (by omega)]; rfl
  have e3 : ((y.toNat : Nat) : Int) = y := by omega
  have e4 : ((b.toNat : Nat) : Int) = b := by omega
  rw [e1, e2, e3, e4] at h
  exact h

/-- A number of 128 bits. -/
def wideV (p : Int) : AV := .agg [.val (.int .i64 (p / 18446744073709551616)), .val (.int .u64 (p % 18446744073709551616))]
theorem abs_prod (a b : Int) (ha0 : -9223372036854775808 ≤ a) (ha1 : a ≤ 9223372036854775807) (hb0 : -9223372036854775808 ≤ b) (hb1 : b ≤ 9223372036854775807) : a.natAbs * b.natAbs ≤ 85070591730234615865843651857942052864 ∧ ((decide (a < 0) = decide (b < 0)) → a * b = ((a.natAbs * b.natAbs : Nat) : Int)) ∧ (¬ (decide (a < 0) = decide (b < 0)) → a * b = -((a.natAbs * b.natAbs : Nat) : Int)) := by
  have h1 : a.natAbs * b.natAbs ≤ 9223372036854775808 * 9223372036854775808 := Nat.mul_le_mul (by omega) (by omega)
  refine ⟨by omega, fun h => ?_, fun h => ?_⟩
  · rw [Int.natCast_mul]
    by_cases h2 : a < 0
    · have h3 : b < 0 := by simpa [h2] using h
      rw [show a = -(a.natAbs : Int) by omega, show b = -(b.natAbs : Int) by omega, Int.neg_mul_neg]
      simp
    · have h3 : ¬ b < 0 := by simpa [h2] using h
      rw [show (a.natAbs : Int) = a by omega, show (b.natAbs : Int) = b by omega]
  · rw [Int.natCast_mul]
    by_cases h2 : a < 0
    · have h3 : ¬ b < 0 := by simpa [h2] using h
      rw [show (a.natAbs : Int) = -a by omega, show (b.natAbs : Int) = b by omega, Int.neg_mul, Int.neg_neg]
    · have h3 : b < 0 := by simpa [h2] using h
      rw [show (a.natAbs : Int) = a by omega, show (b.natAbs : Int) = -b by omega, Int.mul_neg, Int.neg_neg]
theorem wrap_hi (n : Int) (h0 : 0 ≤ n) (h1 : n < 18446744073709551616) : IntKind.i64.wrap n = if n < 9223372036854775808 then n else n - 18446744073709551616 := by
  unfold IntKind.wrap
  simp [IntKind.bits, IntKind.signed]
  split <;> omega

/-! headend/wide.Times -/
def r28_0 : List POp := [⟨4, .alloc [.int .i64 0, .int .u64 0], none⟩]
def r28_1 : List POp := [⟨9, .mv (.t 0), none⟩,
  ⟨10, .bin .lss (.t 9) (.c (.int .i64 0)), none⟩,
  ⟨11, .mv (.t 1), none⟩,
  ⟨12, .bin .lss (.t 11) (.c (.int .i64 0)), none⟩,
  ⟨13, .eqb true (.t 10) (.t 12), none⟩,
  ⟨5, .asg (.t 13), none⟩]
def r28_2 : List POp := [⟨15, .mv (.t 0), none⟩,
  ⟨16, .call 44 [.t 15], none⟩,
  ⟨17, .mv (.t 1), none⟩,
  ⟨18, .call 44 [.t 17], none⟩,
  ⟨19, .call 43 [.t 16, .t 18], none⟩,
  ⟨14, .mv (.t 19), none⟩,
  ⟨20, .ext 0 (.t 14), none⟩,
  ⟨21, .ext 1 (.t 14), none⟩,
  ⟨6, .mv (.t 20), none⟩,
  ⟨7, .mv (.t 21), none⟩]
def r28_3 : List POp := [⟨22, .mv (.t 5), none⟩,
  ⟨23, .un .not (.t 22), none⟩]
def r28_4 : List POp := [⟨24, .mv (.t 6), none⟩,
  ⟨25, .conv .i64 (.t 24), none⟩,
  ⟨26, .mv (.t 7), none⟩,
  ⟨27, .build [.int .i64 0, .int .u64 0] [(0, 1, .t 25), (1, 1, .t 26)], none⟩,
  ⟨0, .stores 2 (.t 4) (.t 27), none⟩]
def r28_5 : List POp := [⟨29, .mv (.t 7), none⟩,
  ⟨30, .callx 45 [.c (.int .u64 0), .t 29, .c (.int .u64 0)], none⟩,
  ⟨28, .mv (.t 30), none⟩,
  ⟨31, .ext 0 (.t 28), none⟩,
  ⟨32, .ext 1 (.t 28), none⟩,
  ⟨7, .mv (.t 31), none⟩,
  ⟨8, .mv (.t 32), none⟩]
def r28_6 : List POp := [⟨34, .mv (.t 6), none⟩,
  ⟨35, .mv (.t 8), none⟩,
  ⟨36, .callx 45 [.c (.int .u64 0), .t 34, .t 35], none⟩,
  ⟨33, .mv (.t 36), none⟩,
  ⟨37, .ext 0 (.t 33), none⟩,
  ⟨38, .ext 1 (.t 33), none⟩,
  ⟨6, .mv (.t 37), none⟩]
def r28_7 : List POp := [⟨39, .mv (.t 6), none⟩,
  ⟨40, .conv .i64 (.t 39), none⟩,
  ⟨41, .mv (.t 7), none⟩,
  ⟨42, .build [.int .i64 0, .int .u64 0] [(0, 1, .t 40), (1, 1, .t 41)], none⟩,
  ⟨0, .stores 2 (.t 4) (.t 42), none⟩]
def p28 : PCode := .seq (.ops r28_0) (.seq (.ops r28_1) (.seq (.ops r28_2) (.seq (.seq (.ops r28_3) (.cond (.t 23) (.seq (.ops r28_4) (.ret)) (.skip))) (.seq (.ops r28_5) (.seq (.ops r28_6) (.seq (.ops r28_7) (.ret)))))))
theorem ok28 : okFunc Tryd.prog 28 [.c 4 2] 2 p28 = true := by kernel_rfl
theorem wtimes_c (a b : Int) (ha0 : -9223372036854775808 ≤ a) (ha1 : a ≤ 9223372036854775807) (hb0 : -9223372036854775808 ≤ b) (hb1 : b ≤ 9223372036854775807) : CallOK Tryd.prog 28 [.val (.int .i64 a), .val (.int .i64 b)] (wideV (a * b)) := by
  unfold wideV
  refine call_of mixed ok28 rfl ?_
  obtain ⟨hP, hs, hd⟩ := abs_prod a b ha0 ha1 hb0 hb1
  have c1 := size_c a ha0 ha1
  have c2 := size_c b hb0 hb1
  have c3 := mul64_c a.natAbs b.natAbs (by omega) (by omega)
  generalize hp : a.natAbs * b.natAbs = P at *
  obtain ⟨hi, hhi⟩ : ∃ hi : Int, hi = ((P / 18446744073709551616 : Nat) : Int) := ⟨_, rfl⟩
  obtain ⟨lo, hlo⟩ : ∃ lo : Int, lo = ((P % 18446744073709551616 : Nat) : Int) := ⟨_, rfl⟩
  rw [← hhi, ← hlo] at c3
  by_cases h : decide (a < 0) = decide (b < 0)
  · have e := hs h
    have e1 : IntKind.i64.wrap hi = a * b / 18446744073709551616 := by
      rw [wrap_hi _ (by omega) (by omega), if_pos (by omega)]; omega
    have e2 : lo = a * b % 18446744073709551616 := by omega
    clear hp
    repeat' first | ((with_reducible (first | refine condD ?_ ?_ | refine condE ?_ ?_ | refine condN ?_ ?_ | refine condI ?_ ?_ | refine condS ?_ ?_)) <;> intro h) | ((with_reducible (first | refine guardD (by with_unfolding_all rfl) ?_ ?_ | refine guardE (by with_unfolding_all rfl) ?_ ?_ | refine guardN (by with_unfolding_all rfl) ?_ ?_ | refine guardI (by with_unfolding_all rfl) ?_ ?_ | refine guardS (by with_unfolding_all rfl) ?_ ?_)) <;> intro h) | ((refine callG c1 ?_)) | ((refine callG c2 ?_)) | ((refine callG c3 ?_)) | (with_reducible refine And.intro ?_ ?_; omega) | (simp only [done_eq, done_eq', donet_eq, donet_eq', fin_val, fin_tup, fin_agg, fin_ro, res_one, res_more, rv_t, rv_c, rv_l, AV.tup.injEq, AV.agg.injEq, AV.ro.injEq, List.cons.injEq, int_eq, bool_eq, Int.toNat_natCast, Int.reduceToNat, Int.toNat_zero, Int.toNat_one, Int.reduceLE, Int.reduceLT, Int.reduceBEq, Int.reduceBNe, beq_self_eq_true, bne_self_eq_false, decide_true, decide_false,  Int.reduceNeg, toNat_pred, toNat_succ, List.length_map, cnd_t, cnd_f, grd_tt, grd_u, grd_tf, grd_ft, grd_ff, g_skip, g_ops, g_seq, g_block, g_exit, g_ret, x_c, x_o, x_l, x_b, g_b, g_nil, r_all, o_nil, g_cond, o_guard, o_call, o_callm, o_callt, o_callx, o_callv, lk, ef, o_mv, o_pick, o_bin, o_never, o_eqs, o_eqb, o_un, o_conv, o_load, o_loadr, o_idxr, o_loads, o_fld, o_idx, o_idxs, o_len, o_lens, o_ext, o_nilck, o_slc, o_slcs, o_build, o_minmax, o_mkfn, o_alloc, o_box, o_boxs, o_row, o_rowr, o_mk, o_asg, o_app, o_store, o_stores, o_eqnil, hv, eqAV, ev, view_t, view_c, view_nil, view_fn, look_own, look_box, look_junk, look_val, look_nilsl, look_ro, look_roAt, look_agg, look_tup, look_clo, look_alias, look_ref, look_into, rowOf, cellsOf, argv, vbin, vun, bnd, elemOf, putParts, setAt, zav, ASt.rid, ASt.free, AV.kill, AV.isHome, AV.noLoan, AV.cellOK, Value.oneCell', put_at, mk_at, mk_nil, initSt, true_and, and_true, and_self, implies_true, List.map_cons, List.map_nil, List.forall_mem_cons, List.not_mem_nil, false_implies, List.length_cons, List.length_nil, List.getD_cons_zero, List.getD_cons_succ, List.getD_nil, List.drop_succ_cons, List.drop_zero, List.take_succ_cons, List.take_zero, List.set_cons_zero, List.set_cons_succ, List.all_cons, List.all_nil, Bool.and_true, Bool.true_and, Bool.not_true, Bool.not_false, reduceCtorEq, if_true, if_false, Bool.false_eq_true, ↓reduceIte, Nat.reduceEqDiff, Nat.reduceAdd, Nat.reduceSub, Nat.reduceMul, Nat.reduceLeDiff, Nat.reduceLT, ne_eq, not_false_eq_true, not_true_eq_false, Nat.one_ne_zero, Nat.zero_ne_one, r28_0, r28_1, r28_2, r28_3, r28_4, r28_5, r28_6, r28_7, p28, h, e1]) | (exfalso; omega)
    exact e2
  · have e := hd h
    have h' : (decide (a < 0) == decide (b < 0)) = false := beq_false_of_ne h
    have s1 := sub0_x lo 0 (by omega) (by omega) (by omega) (by omega)
    obtain ⟨bo, hbo⟩ : ∃ bo : Int, bo = (if 0 < lo + 0 then 1 else 0) := ⟨_, rfl⟩
    rw [← hbo] at s1
    have hb01 : (0 < lo ∧ bo = 1) ∨ (lo = 0 ∧ bo = 0) := by
      by_cases h0 : 0 < lo
      · rw [if_pos (by omega)] at hbo; exact .inl ⟨h0, hbo⟩
      · rw [if_neg (by omega)] at hbo; exact .inr ⟨by omega, hbo⟩
    have s2 := sub0_x hi bo (by omega) (by omega) (by omega) (by omega)
    have e1 : IntKind.i64.wrap ((-hi - bo) % 18446744073709551616) = a * b / 18446744073709551616 := by
      rw [wrap_hi _ (by omega) (by omega)]; split <;> omega
    have e2 : (-lo - 0) % 18446744073709551616 = a * b % 18446744073709551616 := by omega
    clear hp hbo
    repeat' first | ((with_reducible (first | refine condD ?_ ?_ | refine condE ?_ ?_ | refine condN ?_ ?_ | refine condI ?_ ?_ | refine condS ?_ ?_)) <;> intro h) | ((with_reducible (first | refine guardD (by with_unfolding_all rfl) ?_ ?_ | refine guardE (by with_unfolding_all rfl) ?_ ?_ | refine guardN (by with_unfolding_all rfl) ?_ ?_ | refine guardI (by with_unfolding_all rfl) ?_ ?_ | refine guardS (by with_unfolding_all rfl) ?_ ?_)) <;> intro h) | ((refine callG c1 ?_)) | ((refine callG c2 ?_)) | ((refine callG c3 ?_)) | ((refine extG s1 rfl ?_)) | ((refine extG s2 rfl ?_)) | (with_reducible refine And.intro ?_ ?_; omega) | (simp only [done_eq, done_eq', donet_eq, donet_eq', fin_val, fin_tup, fin_agg, fin_ro, res_one, res_more, rv_t, rv_c, rv_l, AV.tup.injEq, AV.agg.injEq, AV.ro.injEq, List.cons.injEq, int_eq, bool_eq, Int.toNat_natCast, Int.reduceToNat, Int.toNat_zero, Int.toNat_one, Int.reduceLE, Int.reduceLT, Int.reduceBEq, Int.reduceBNe, beq_self_eq_true, bne_self_eq_false, decide_true, decide_false,  Int.reduceNeg, toNat_pred, toNat_succ, List.length_map, cnd_t, cnd_f, grd_tt, grd_u, grd_tf, grd_ft, grd_ff, g_skip, g_ops, g_seq, g_block, g_exit, g_ret, x_c, x_o, x_l, x_b, g_b, g_nil, r_all, o_nil, g_cond, o_guard, o_call, o_callm, o_callt, o_callx, o_callv, lk, ef, o_mv, o_pick, o_bin, o_never, o_eqs, o_eqb, o_un, o_conv, o_load, o_loadr, o_idxr, o_loads, o_fld, o_idx, o_idxs, o_len, o_lens, o_ext, o_nilck, o_slc, o_slcs, o_build, o_minmax, o_mkfn, o_alloc, o_box, o_boxs, o_row, o_rowr, o_mk, o_asg, o_app, o_store, o_stores, o_eqnil, hv, eqAV, ev, view_t, view_c, view_nil, view_fn, look_own, look_box, look_junk, look_val, look_nilsl, look_ro, look_roAt, look_agg, look_tup, look_clo, look_alias, look_ref, look_into, rowOf, cellsOf, argv, vbin, vun, bnd, elemOf, putParts, setAt, zav, ASt.rid, ASt.free, AV.kill, AV.isHome, AV.noLoan, AV.cellOK, Value.oneCell', put_at, mk_at, mk_nil, initSt, true_and, and_true, and_self, implies_true, List.map_cons, List.map_nil, List.forall_mem_cons, List.not_mem_nil, false_implies, List.length_cons, List.length_nil, List.getD_cons_zero, List.getD_cons_succ, List.getD_nil, List.drop_succ_cons, List.drop_zero, List.take_succ_cons, List.take_zero, List.set_cons_zero, List.set_cons_succ, List.all_cons, List.all_nil, Bool.and_true, Bool.true_and, Bool.not_true, Bool.not_false, reduceCtorEq, if_true, if_false, Bool.false_eq_true, ↓reduceIte, Nat.reduceEqDiff, Nat.reduceAdd, Nat.reduceSub, Nat.reduceMul, Nat.reduceLeDiff, Nat.reduceLT, ne_eq, not_false_eq_true, not_true_eq_false, Nat.one_ne_zero, Nat.zero_ne_one, r28_0, r28_1, r28_2, r28_3, r28_4, r28_5, r28_6, r28_7, p28, h', e1, e2]) | (exfalso; omega)
    done

/-! cmp.isNaN[int64] -/
def r58_0 : List POp := [⟨2, .asg (.c (.bool false)), none⟩]
def r58_1 : List POp := [⟨3, .mv (.t 0), none⟩,
  ⟨4, .mv (.t 0), none⟩,
  ⟨5, .bin .neq (.t 3) (.t 4), none⟩,
  ⟨2, .asg (.t 5), none⟩]
def p58 : PCode := .seq (.ops r58_0) (.seq (.ops r58_1) (.ret))
theorem ok58 : okFunc Tryd.prog 58 [.t 2] 1 p58 = true := by kernel_rfl
theorem nan64_c (a : Int) : CallOK Tryd.prog 58 [.val (.int .i64 a)] (.val (.bool false)) := by
  refine call_of mixed ok58 rfl ?_
  repeat' first | ((with_reducible (first | refine condD ?_ ?_ | refine condE ?_ ?_ | refine condN ?_ ?_ | refine condI ?_ ?_ | refine condS ?_ ?_)) <;> intro h) | ((with_reducible (first | refine guardD (by with_unfolding_all rfl) ?_ ?_ | refine guardE (by with_unfolding_all rfl) ?_ ?_ | refine guardN (by with_unfolding_all rfl) ?_ ?_ | refine guardI (by with_unfolding_all rfl) ?_ ?_ | refine guardS (by with_unfolding_all rfl) ?_ ?_)) <;> intro h) | (with_reducible refine And.intro ?_ ?_; omega) | (simp only [done_eq, done_eq', donet_eq, donet_eq', fin_val, fin_tup, fin_agg, fin_ro, res_one, res_more, rv_t, rv_c, rv_l, AV.tup.injEq, AV.agg.injEq, AV.ro.injEq, List.cons.injEq, int_eq, bool_eq, Int.toNat_natCast, Int.reduceToNat, Int.toNat_zero, Int.toNat_one, Int.reduceLE, Int.reduceLT, Int.reduceBEq, Int.reduceBNe, beq_self_eq_true, bne_self_eq_false, decide_true, decide_false,  Int.reduceNeg, toNat_pred, toNat_succ, List.length_map, cnd_t, cnd_f, grd_tt, grd_u, grd_tf, grd_ft, grd_ff, g_skip, g_ops, g_seq, g_block, g_exit, g_ret, x_c, x_o, x_l, x_b, g_b, g_nil, r_all, o_nil, g_cond, o_guard, o_call, o_callm, o_callt, o_callx, o_callv, lk, ef, o_mv, o_pick, o_bin, o_never, o_eqs, o_eqb, o_un, o_conv, o_load, o_loadr, o_idxr, o_loads, o_fld, o_idx, o_idxs, o_len, o_lens, o_ext, o_nilck, o_slc, o_slcs, o_build, o_minmax, o_mkfn, o_alloc, o_box, o_boxs, o_row, o_rowr, o_mk, o_asg, o_app, o_store, o_stores, o_eqnil, hv, eqAV, ev, view_t, view_c, view_nil, view_fn, look_own, look_box, look_junk, look_val, look_nilsl, look_ro, look_roAt, look_agg, look_tup, look_clo, look_alias, look_ref, look_into, rowOf, cellsOf, argv, vbin, vun, bnd, elemOf, putParts, setAt, zav, ASt.rid, ASt.free, AV.kill, AV.isHome, AV.noLoan, AV.cellOK, Value.oneCell', put_at, mk_at, mk_nil, initSt, true_and, and_true, and_self, implies_true, List.map_cons, List.map_nil, List.forall_mem_cons, List.not_mem_nil, false_implies, List.length_cons, List.length_nil, List.getD_cons_zero, List.getD_cons_succ, List.getD_nil, List.drop_succ_cons, List.drop_zero, List.take_succ_cons, List.take_zero, List.set_cons_zero, List.set_cons_succ, List.all_cons, List.all_nil, Bool.and_true, Bool.true_and, Bool.not_true, Bool.not_false, reduceCtorEq, if_true, if_false, Bool.false_eq_true, ↓reduceIte, Nat.reduceEqDiff, Nat.reduceAdd, Nat.reduceSub, Nat.reduceMul, Nat.reduceLeDiff, Nat.reduceLT, ne_eq, not_false_eq_true, not_true_eq_false, Nat.one_ne_zero, Nat.zero_ne_one, r58_0, r58_1, p58]) | (exfalso; omega)
/-! cmp.isNaN[uint64] -/
def r59_0 : List POp := [⟨2, .asg (.c (.bool false)), none⟩]
def r59_1 : List POp := [⟨3, .mv (.t 0), none⟩,
  ⟨4, .mv (.t 0), none⟩,
  ⟨5, .bin .neq (.t 3) (.t 4), none⟩,
  ⟨2, .asg (.t 5), none⟩]
def p59 : PCode := .seq (.ops r59_0) (.seq (.ops r59_1) (.ret))
theorem ok59 : okFunc Tryd.prog 59 [.t 2] 1 p59 = true := by kernel_rfl
theorem nanu_c (a : Int) : CallOK Tryd.prog 59 [.val (.int .u64 a)] (.val (.bool false)) := by
  refine call_of mixed ok59 rfl ?_
  repeat' first | ((with_reducible (first | refine condD ?_ ?_ | refine condE ?_ ?_ | refine condN ?_ ?_ | refine condI ?_ ?_ | refine condS ?_ ?_)) <;> intro h) | ((with_reducible (first | refine guardD (by with_unfolding_all rfl) ?_ ?_ | refine guardE (by with_unfolding_all rfl) ?_ ?_ | refine guardN (by with_unfolding_all rfl) ?_ ?_ | refine guardI (by with_unfolding_all rfl) ?_ ?_ | refine guardS (by with_unfolding_all rfl) ?_ ?_)) <;> intro h) | (with_reducible refine And.intro ?_ ?_; omega) | (simp only [done_eq, done_eq', donet_eq, donet_eq', fin_val, fin_tup, fin_agg, fin_ro, res_one, res_more, rv_t, rv_c, rv_l, AV.tup.injEq, AV.agg.injEq, AV.ro.injEq, List.cons.injEq, int_eq, bool_eq, Int.toNat_natCast, Int.reduceToNat, Int.toNat_zero, Int.toNat_one, Int.reduceLE, Int.reduceLT, Int.reduceBEq, Int.reduceBNe, beq_self_eq_true, bne_self_eq_false, decide_true, decide_false,  Int.reduceNeg, toNat_pred, toNat_succ, List.length_map, cnd_t, cnd_f, grd_tt, grd_u, grd_tf, grd_ft, grd_ff, g_skip, g_ops, g_seq, g_block, g_exit, g_ret, x_c, x_o, x_l, x_b, g_b, g_nil, r_all, o_nil, g_cond, o_guard, o_call, o_callm, o_callt, o_callx, o_callv, lk, ef, o_mv, o_pick, o_bin, o_never, o_eqs, o_eqb, o_un, o_conv, o_load, o_loadr, o_idxr, o_loads, o_fld, o_idx, o_idxs, o_len, o_lens, o_ext, o_nilck, o_slc, o_slcs, o_build, o_minmax, o_mkfn, o_alloc, o_box, o_boxs, o_row, o_rowr, o_mk, o_asg, o_app, o_store, o_stores, o_eqnil, hv, eqAV, ev, view_t, view_c, view_nil, view_fn, look_own, look_box, look_junk, look_val, look_nilsl, look_ro, look_roAt, look_agg, look_tup, look_clo, look_alias, look_ref, look_into, rowOf, cellsOf, argv, vbin, vun, bnd, elemOf, putParts, setAt, zav, ASt.rid, ASt.free, AV.kill, AV.isHome, AV.noLoan, AV.cellOK, Value.oneCell', put_at, mk_at, mk_nil, initSt, true_and, and_true, and_self, implies_true, List.map_cons, List.map_nil, List.forall_mem_cons, List.not_mem_nil, false_implies, List.length_cons, List.length_nil, List.getD_cons_zero, List.getD_cons_succ, List.getD_nil, List.drop_succ_cons, List.drop_zero, List.take_succ_cons, List.take_zero, List.set_cons_zero, List.set_cons_succ, List.all_cons, List.all_nil, Bool.and_true, Bool.true_and, Bool.not_true, Bool.not_false, reduceCtorEq, if_true, if_false, Bool.false_eq_true, ↓reduceIte, Nat.reduceEqDiff, Nat.reduceAdd, Nat.reduceSub, Nat.reduceMul, Nat.reduceLeDiff, Nat.reduceLT, ne_eq, not_false_eq_true, not_true_eq_false, Nat.one_ne_zero, Nat.zero_ne_one, r59_0, r59_1, p59]) | (exfalso; omega)
def cmp3 (a b : Int) : Int := if a < b then -1 else if b < a then 1 else 0
/-! cmp.Compare[int64] -/
def r47_0 : List POp := [⟨4, .asg (.c (.int .i64 0)), none⟩]
def r47_1 : List POp := [⟨7, .mv (.t 0), none⟩,
  ⟨8, .call 58 [.t 7], none⟩,
  ⟨5, .asg (.t 8), none⟩]
def r47_2 : List POp := [⟨9, .mv (.t 1), none⟩,
  ⟨10, .call 58 [.t 9], none⟩,
  ⟨6, .asg (.t 10), none⟩]
def r47_3 : List POp := [⟨11, .mv (.t 5), none⟩]
def r47_4 : List POp := [⟨12, .mv (.t 6), none⟩]
def r47_5 : List POp := [⟨4, .asg (.c (.int .i64 0)), none⟩]
def r47_6 : List POp := [⟨4, .asg (.c (.int .i64 (-1))), none⟩]
def r47_7 : List POp := [⟨13, .mv (.t 6), none⟩]
def r47_8 : List POp := [⟨4, .asg (.c (.int .i64 1)), none⟩]
def r47_9 : List POp := [⟨14, .mv (.t 0), none⟩,
  ⟨15, .mv (.t 1), none⟩,
  ⟨16, .bin .lss (.t 14) (.t 15), none⟩]
def r47_10 : List POp := [⟨4, .asg (.c (.int .i64 (-1))), none⟩]
def r47_11 : List POp := [⟨17, .mv (.t 0), none⟩,
  ⟨18, .mv (.t 1), none⟩,
  ⟨19, .bin .gtr (.t 17) (.t 18), none⟩]
def r47_12 : List POp := [⟨4, .asg (.c (.int .i64 1)), none⟩]
def r47_13 : List POp := [⟨4, .asg (.c (.int .i64 0)), none⟩]
def p47 : PCode := .seq (.ops r47_0) (.seq (.ops r47_1) (.seq (.ops r47_2) (.seq (.seq (.ops r47_3) (.cond (.t 11) (.seq (.seq (.ops r47_4) (.cond (.t 12) (.seq (.ops r47_5) (.ret)) (.skip))) (.seq (.ops r47_6) (.ret))) (.skip))) (.seq (.seq (.ops r47_7) (.cond (.t 13) (.seq (.ops r47_8) (.ret)) (.skip))) (.seq (.seq (.ops r47_9) (.cond (.t 16) (.seq (.ops r47_10) (.ret)) (.skip))) (.seq (.seq (.ops r47_11) (.cond (.t 19) (.seq (.ops r47_12) (.ret)) (.skip))) (.seq (.ops r47_13) (.ret))))))))
theorem ok47 : okFunc Tryd.prog 47 [.t 4] 2 p47 = true := by kernel_rfl
theorem cmp64_c (a b : Int) : CallOK Tryd.prog 47 [.val (.int .i64 a), .val (.int .i64 b)] (.val (.int .i64 (cmp3 a b))) := by
  refine call_of mixed ok47 rfl ?_
  unfold cmp3
  repeat' first | ((with_reducible (first | refine condD ?_ ?_ | refine condE ?_ ?_ | refine condN ?_ ?_ | refine condI ?_ ?_ | refine condS ?_ ?_)) <;> intro h) | ((with_reducible (first | refine guardD (by with_unfolding_all rfl) ?_ ?_ | refine guardE (by with_unfolding_all rfl) ?_ ?_ | refine guardN (by with_unfolding_all rfl) ?_ ?_ | refine guardI (by with_unfolding_all rfl) ?_ ?_ | refine guardS (by with_unfolding_all rfl) ?_ ?_)) <;> intro h) | ((refine callG (nan64_c _) ?_)) | (with_reducible refine And.intro ?_ ?_; omega) | (simp only [done_eq, done_eq', donet_eq, donet_eq', fin_val, fin_tup, fin_agg, fin_ro, res_one, res_more, rv_t, rv_c, rv_l, AV.tup.injEq, AV.agg.injEq, AV.ro.injEq, List.cons.injEq, int_eq, bool_eq, Int.toNat_natCast, Int.reduceToNat, Int.toNat_zero, Int.toNat_one, Int.reduceLE, Int.reduceLT, Int.reduceBEq, Int.reduceBNe, beq_self_eq_true, bne_self_eq_false, decide_true, decide_false,  Int.reduceNeg, toNat_pred, toNat_succ, List.length_map, cnd_t, cnd_f, grd_tt, grd_u, grd_tf, grd_ft, grd_ff, g_skip, g_ops, g_seq, g_block, g_exit, g_ret, x_c, x_o, x_l, x_b, g_b, g_nil, r_all, o_nil, g_cond, o_guard, o_call, o_callm, o_callt, o_callx, o_callv, lk, ef, o_mv, o_pick, o_bin, o_never, o_eqs, o_eqb, o_un, o_conv, o_load, o_loadr, o_idxr, o_loads, o_fld, o_idx, o_idxs, o_len, o_lens, o_ext, o_nilck, o_slc, o_slcs, o_build, o_minmax, o_mkfn, o_alloc, o_box, o_boxs, o_row, o_rowr, o_mk, o_asg, o_app, o_store, o_stores, o_eqnil, hv, eqAV, ev, view_t, view_c, view_nil, view_fn, look_own, look_box, look_junk, look_val, look_nilsl, look_ro, look_roAt, look_agg, look_tup, look_clo, look_alias, look_ref, look_into, rowOf, cellsOf, argv, vbin, vun, bnd, elemOf, putParts, setAt, zav, ASt.rid, ASt.free, AV.kill, AV.isHome, AV.noLoan, AV.cellOK, Value.oneCell', put_at, mk_at, mk_nil, initSt, true_and, and_true, and_self, implies_true, List.map_cons, List.map_nil, List.forall_mem_cons, List.not_mem_nil, false_implies, List.length_cons, List.length_nil, List.getD_cons_zero, List.getD_cons_succ, List.getD_nil, List.drop_succ_cons, List.drop_zero, List.take_succ_cons, List.take_zero, List.set_cons_zero, List.set_cons_succ, List.all_cons, List.all_nil, Bool.and_true, Bool.true_and, Bool.not_true, Bool.not_false, reduceCtorEq, if_true, if_false, Bool.false_eq_true, ↓reduceIte, Nat.reduceEqDiff, Nat.reduceAdd, Nat.reduceSub, Nat.reduceMul, Nat.reduceLeDiff, Nat.reduceLT, ne_eq, not_false_eq_true, not_true_eq_false, Nat.one_ne_zero, Nat.zero_ne_one, r47_0, r47_1, r47_2, r47_3, r47_4, r47_5, r47_6, r47_7, r47_8, r47_9, r47_10, r47_11, r47_12, r47_13, p47]) | (exfalso; omega)
  all_goals (first | done | (split <;> first | omega | (split <;> omega) | rfl))
/-! cmp.Compare[uint64] -/
def r48_0 : List POp := [⟨4, .asg (.c (.int .i64 0)), none⟩]
def r48_1 : List POp := [⟨7, .mv (.t 0), none⟩,
  ⟨8, .call 59 [.t 7], none⟩,
  ⟨5, .asg (.t 8), none⟩]
def r48_2 : List POp := [⟨9, .mv (.t 1), none⟩,
  ⟨10, .call 59 [.t 9], none⟩,
  ⟨6, .asg (.t 10), none⟩]
def r48_3 : List POp := [⟨11, .mv (.t 5), none⟩]
def r48_4 : List POp := [⟨12, .mv (.t 6), none⟩]
def r48_5 : List POp := [⟨4, .asg (.c (.int .i64 0)), none⟩]
def r48_6 : List POp := [⟨4, .asg (.c (.int .i64 (-1))), none⟩]
def r48_7 : List POp := [⟨13, .mv (.t 6), none⟩]
def r48_8 : List POp := [⟨4, .asg (.c (.int .i64 1)), none⟩]
def r48_9 : List POp := [⟨14, .mv (.t 0), none⟩,
  ⟨15, .mv (.t 1), none⟩,
  ⟨16, .bin .lss (.t 14) (.t 15), none⟩]
def r48_10 : List POp := [⟨4, .asg (.c (.int .i64 (-1))), none⟩]
def r48_11 : List POp := [⟨17, .mv (.t 0), none⟩,
  ⟨18, .mv (.t 1), none⟩,
  ⟨19, .bin .gtr (.t 17) (.t 18), none⟩]
def r48_12 : List POp := [⟨4, .asg (.c (.int .i64 1)), none⟩]
def r48_13 : List POp := [⟨4, .asg (.c (.int .i64 0)), none⟩]
def p48 : PCode := .seq (.ops r48_0) (.seq (.ops r48_1) (.seq (.ops r48_2) (.seq (.seq (.ops r48_3) (.cond (.t 11) (.seq (.seq (.ops r48_4) (.cond (.t 12) (.seq (.ops r48_5) (.ret)) (.skip))) (.seq (.ops r48_6) (.ret))) (.skip))) (.seq (.seq (.ops r48_7) (.cond (.t 13) (.seq (.ops r48_8) (.ret)) (.skip))) (.seq (.seq (.ops r48_9) (.cond (.t 16) (.seq (.ops r48_10) (.ret)) (.skip))) (.seq (.seq (.ops r48_11) (.cond (.t 19) (.seq (.ops r48_12) (.ret)) (.skip))) (.seq (.ops r48_13) (.ret))))))))
theorem ok48 : okFunc Tryd.prog 48 [.t 4] 2 p48 = true := by kernel_rfl
theorem cmpu_c (a b : Int) : CallOK Tryd.prog 48 [.val (.int .u64 a), .val (.int .u64 b)] (.val (.int .i64 (cmp3 a b))) := by
  refine call_of mixed ok48 rfl ?_
  unfold cmp3
  repeat' first | ((with_reducible (first | refine condD ?_ ?_ | refine condE ?_ ?_ | refine condN ?_ ?_ | refine condI ?_ ?_ | refine condS ?_ ?_)) <;> intro h) | ((with_reducible (first | refine guardD (by with_unfolding_all rfl) ?_ ?_ | refine guardE (by with_unfolding_all rfl) ?_ ?_ | refine guardN (by with_unfolding_all rfl) ?_ ?_ | refine guardI (by with_unfolding_all rfl) ?_ ?_ | refine guardS (by with_unfolding_all rfl) ?_ ?_)) <;> intro h) | ((refine callG (nanu_c _) ?_)) | (with_reducible refine And.intro ?_ ?_; omega) | (simp only [done_eq, done_eq', donet_eq, donet_eq', fin_val, fin_tup, fin_agg, fin_ro, res_one, res_more, rv_t, rv_c, rv_l, AV.tup.injEq, AV.agg.injEq, AV.ro.injEq, List.cons.injEq, int_eq, bool_eq, Int.toNat_natCast, Int.reduceToNat, Int.toNat_zero, Int.toNat_one, Int.reduceLE, Int.reduceLT, Int.reduceBEq, Int.reduceBNe, beq_self_eq_true, bne_self_eq_false, decide_true, decide_false,  Int.reduceNeg, toNat_pred, toNat_succ, List.length_map, cnd_t, cnd_f, grd_tt, grd_u, grd_tf, grd_ft, grd_ff, g_skip, g_ops, g_seq, g_block, g_exit, g_ret, x_c, x_o, x_l, x_b, g_b, g_nil, r_all, o_nil, g_cond, o_guard, o_call, o_callm, o_callt, o_callx, o_callv, lk, ef, o_mv, o_pick, o_bin, o_never, o_eqs, o_eqb, o_un, o_conv, o_load, o_loadr, o_idxr, o_loads, o_fld, o_idx, o_idxs, o_len, o_lens, o_ext, o_nilck, o_slc, o_slcs, o_build, o_minmax, o_mkfn, o_alloc, o_box, o_boxs, o_row, o_rowr, o_mk, o_asg, o_app, o_store, o_stores, o_eqnil, hv, eqAV, ev, view_t, view_c, view_nil, view_fn, look_own, look_box, look_junk, look_val, look_nilsl, look_ro, look_roAt, look_agg, look_tup, look_clo, look_alias, look_ref, look_into, rowOf, cellsOf, argv, vbin, vun, bnd, elemOf, putParts, setAt, zav, ASt.rid, ASt.free, AV.kill, AV.isHome, AV.noLoan, AV.cellOK, Value.oneCell', put_at, mk_at, mk_nil, initSt, true_and, and_true, and_self, implies_true, List.map_cons, List.map_nil, List.forall_mem_cons, List.not_mem_nil, false_implies, List.length_cons, List.length_nil, List.getD_cons_zero, List.getD_cons_succ, List.getD_nil, List.drop_succ_cons, List.drop_zero, List.take_succ_cons, List.take_zero, List.set_cons_zero, List.set_cons_succ, List.all_cons, List.all_nil, Bool.and_true, Bool.true_and, Bool.not_true, Bool.not_false, reduceCtorEq, if_true, if_false, Bool.false_eq_true, ↓reduceIte, Nat.reduceEqDiff, Nat.reduceAdd, Nat.reduceSub, Nat.reduceMul, Nat.reduceLeDiff, Nat.reduceLT, ne_eq, not_false_eq_true, not_true_eq_false, Nat.one_ne_zero, Nat.zero_ne_one, r48_0, r48_1, r48_2, r48_3, r48_4, r48_5, r48_6, r48_7, r48_8, r48_9, r48_10, r48_11, r48_12, r48_13, p48]) | (exfalso; omega)
  all_goals (first | done | (split <;> first | omega | (split <;> omega) | rfl))
/-! (headend/wide.Int).Compare -/
def r30_0 : List POp := [⟨2, .boxs (.t 0), none⟩,
  ⟨3, .boxs (.t 1), none⟩,
  ⟨4, .asg (.c (.int .i64 0)), none⟩]
def r30_1 : List POp := [⟨6, .fld 0 (.t 2), none⟩,
  ⟨7, .load (.t 6), none⟩,
  ⟨8, .fld 0 (.t 3), none⟩,
  ⟨9, .load (.t 8), none⟩,
  ⟨10, .call 47 [.t 7, .t 9], none⟩,
  ⟨5, .asg (.t 10), none⟩]
def r30_2 : List POp := [⟨11, .mv (.t 5), none⟩,
  ⟨12, .bin .neq (.t 11) (.c (.int .i64 0)), none⟩]
def r30_3 : List POp := [⟨13, .mv (.t 5), none⟩,
  ⟨4, .asg (.t 13), none⟩]
def r30_4 : List POp := [⟨14, .fld 1 (.t 2), none⟩,
  ⟨15, .load (.t 14), none⟩,
  ⟨16, .fld 1 (.t 3), none⟩,
  ⟨17, .load (.t 16), none⟩,
  ⟨18, .call 48 [.t 15, .t 17], none⟩,
  ⟨4, .asg (.t 18), none⟩]
def p30 : PCode := .seq (.ops r30_0) (.seq (.seq (.ops r30_1) (.seq (.ops r30_2) (.cond (.t 12) (.seq (.ops r30_3) (.ret)) (.skip)))) (.seq (.ops r30_4) (.ret)))
theorem ok30 : okFunc Tryd.prog 30 [.t 4] 2 p30 = true := by kernel_rfl
theorem cmp3_wide (p q : Int) : (if cmp3 (p / 18446744073709551616) (q / 18446744073709551616) ≠ 0 then cmp3 (p / 18446744073709551616) (q / 18446744073709551616) else cmp3 (p % 18446744073709551616) (q % 18446744073709551616)) = cmp3 p q := by
  unfold cmp3
  repeat' split
  all_goals omega
theorem wcmp_c (p q : Int) : CallOK Tryd.prog 30 [wideV p, wideV q] (.val (.int .i64 (cmp3 p q))) := by
  rw [← cmp3_wide]
  unfold wideV
  generalize p / 18446744073709551616 = ph
  generalize q / 18446744073709551616 = qh
  generalize p % 18446744073709551616 = pl
  generalize q % 18446744073709551616 = ql
  refine call_of mixed ok30 rfl ?_
  have c1 := cmp64_c ph qh
  have c2 := cmpu_c pl ql
  generalize cmp3 ph qh = c at *
  generalize cmp3 pl ql = d at *
  by_cases hc : c = 0
  · subst hc
    repeat' first | ((with_reducible (first | refine condD ?_ ?_ | refine condE ?_ ?_ | refine condN ?_ ?_ | refine condI ?_ ?_ | refine condS ?_ ?_)) <;> intro h) | ((with_reducible (first | refine guardD (by with_unfolding_all rfl) ?_ ?_ | refine guardE (by with_unfolding_all rfl) ?_ ?_ | refine guardN (by with_unfolding_all rfl) ?_ ?_ | refine guardI (by with_unfolding_all rfl) ?_ ?_ | refine guardS (by with_unfolding_all rfl) ?_ ?_)) <;> intro h) | ((refine callG c1 ?_)) | ((refine callG c2 ?_)) | (with_reducible refine And.intro ?_ ?_; omega) | (simp only [done_eq, done_eq', donet_eq, donet_eq', fin_val, fin_tup, fin_agg, fin_ro, res_one, res_more, rv_t, rv_c, rv_l, AV.tup.injEq, AV.agg.injEq, AV.ro.injEq, List.cons.injEq, int_eq, bool_eq, Int.toNat_natCast, Int.reduceToNat, Int.toNat_zero, Int.toNat_one, Int.reduceLE, Int.reduceLT, Int.reduceBEq, Int.reduceBNe, beq_self_eq_true, bne_self_eq_false, decide_true, decide_false,  Int.reduceNeg, toNat_pred, toNat_succ, List.length_map, cnd_t, cnd_f, grd_tt, grd_u, grd_tf, grd_ft, grd_ff, g_skip, g_ops, g_seq, g_block, g_exit, g_ret, x_c, x_o, x_l, x_b, g_b, g_nil, r_all, o_nil, g_cond, o_guard, o_call, o_callm, o_callt, o_callx, o_callv, lk, ef, o_mv, o_pick, o_bin, o_never, o_eqs, o_eqb, o_un, o_conv, o_load, o_loadr, o_idxr, o_loads, o_fld, o_idx, o_idxs, o_len, o_lens, o_ext, o_nilck, o_slc, o_slcs, o_build, o_minmax, o_mkfn, o_alloc, o_box, o_boxs, o_row, o_rowr, o_mk, o_asg, o_app, o_store, o_stores, o_eqnil, hv, eqAV, ev, view_t, view_c, view_nil, view_fn, look_own, look_box, look_junk, look_val, look_nilsl, look_ro, look_roAt, look_agg, look_tup, look_clo, look_alias, look_ref, look_into, rowOf, cellsOf, argv, vbin, vun, bnd, elemOf, putParts, setAt, zav, ASt.rid, ASt.free, AV.kill, AV.isHome, AV.noLoan, AV.cellOK, Value.oneCell', put_at, mk_at, mk_nil, initSt, true_and, and_true, and_self, implies_true, List.map_cons, List.map_nil, List.forall_mem_cons, List.not_mem_nil, false_implies, List.length_cons, List.length_nil, List.getD_cons_zero, List.getD_cons_succ, List.getD_nil, List.drop_succ_cons, List.drop_zero, List.take_succ_cons, List.take_zero, List.set_cons_zero, List.set_cons_succ, List.all_cons, List.all_nil, Bool.and_true, Bool.true_and, Bool.not_true, Bool.not_false, reduceCtorEq, if_true, if_false, Bool.false_eq_true, ↓reduceIte, Nat.reduceEqDiff, Nat.reduceAdd, Nat.reduceSub, Nat.reduceMul, Nat.reduceLeDiff, Nat.reduceLT, ne_eq, not_false_eq_true, not_true_eq_false, Nat.one_ne_zero, Nat.zero_ne_one, r30_0, r30_1, r30_2, r30_3, r30_4, p30]) | (exfalso; omega)
  · rw [if_pos hc]
    repeat' first | ((with_reducible (first | refine condD ?_ ?_ | refine condE ?_ ?_ | refine condN ?_ ?_ | refine condI ?_ ?_ | refine condS ?_ ?_)) <;> intro h) | ((with_reducible (first | refine guardD (by with_unfolding_all rfl) ?_ ?_ | refine guardE (by with_unfolding_all rfl) ?_ ?_ | refine guardN (by with_unfolding_all rfl) ?_ ?_ | refine guardI (by with_unfolding_all rfl) ?_ ?_ | refine guardS (by with_unfolding_all rfl) ?_ ?_)) <;> intro h) | ((refine callG c1 ?_)) | ((refine callG c2 ?_)) | (with_reducible refine And.intro ?_ ?_; omega) | (simp only [done_eq, done_eq', donet_eq, donet_eq', fin_val, fin_tup, fin_agg, fin_ro, res_one, res_more, rv_t, rv_c, rv_l, AV.tup.injEq, AV.agg.injEq, AV.ro.injEq, List.cons.injEq, int_eq, bool_eq, Int.toNat_natCast, Int.reduceToNat, Int.toNat_zero, Int.toNat_one, Int.reduceLE, Int.reduceLT, Int.reduceBEq, Int.reduceBNe, beq_self_eq_true, bne_self_eq_false, decide_true, decide_false,  Int.reduceNeg, toNat_pred, toNat_succ, List.length_map, cnd_t, cnd_f, grd_tt, grd_u, grd_tf, grd_ft, grd_ff, g_skip, g_ops, g_seq, g_block, g_exit, g_ret, x_c, x_o, x_l, x_b, g_b, g_nil, r_all, o_nil, g_cond, o_guard, o_call, o_callm, o_callt, o_callx, o_callv, lk, ef, o_mv, o_pick, o_bin, o_never, o_eqs, o_eqb, o_un, o_conv, o_load, o_loadr, o_idxr, o_loads, o_fld, o_idx, o_idxs, o_len, o_lens, o_ext, o_nilck, o_slc, o_slcs, o_build, o_minmax, o_mkfn, o_alloc, o_box, o_boxs, o_row, o_rowr, o_mk, o_asg, o_app, o_store, o_stores, o_eqnil, hv, eqAV, ev, view_t, view_c, view_nil, view_fn, look_own, look_box, look_junk, look_val, look_nilsl, look_ro, look_roAt, look_agg, look_tup, look_clo, look_alias, look_ref, look_into, rowOf, cellsOf, argv, vbin, vun, bnd, elemOf, putParts, setAt, zav, ASt.rid, ASt.free, AV.kill, AV.isHome, AV.noLoan, AV.cellOK, Value.oneCell', put_at, mk_at, mk_nil, initSt, true_and, and_true, and_self, implies_true, List.map_cons, List.map_nil, List.forall_mem_cons, List.not_mem_nil, false_implies, List.length_cons, List.length_nil, List.getD_cons_zero, List.getD_cons_succ, List.getD_nil, List.drop_succ_cons, List.drop_zero, List.take_succ_cons, List.take_zero, List.set_cons_zero, List.set_cons_succ, List.all_cons, List.all_nil, Bool.and_true, Bool.true_and, Bool.not_true, Bool.not_false, reduceCtorEq, if_true, if_false, Bool.false_eq_true, ↓reduceIte, Nat.reduceEqDiff, Nat.reduceAdd, Nat.reduceSub, Nat.reduceMul, Nat.reduceLeDiff, Nat.reduceLT, ne_eq, not_false_eq_true, not_true_eq_false, Nat.one_ne_zero, Nat.zero_ne_one, r30_0, r30_1, r30_2, r30_3, r30_4, p30, hc]) | (exfalso; omega)
end Go.Proofs.YtjeemcpdmiajmaaDoor
