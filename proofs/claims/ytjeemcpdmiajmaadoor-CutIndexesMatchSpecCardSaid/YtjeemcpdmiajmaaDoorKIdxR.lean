/- Indexes of segments, read: taker.number, ReadIndex, bytes.Equal, by the machine on data. -/
import Derived.Test.YtjeemcpdmiajmaaDoorKIdx
import Derived.Test.YtjeemcpdmiajmaaDoorShelf
namespace Go.Proofs.YtjeemcpdmiajmaaDoor
open Go.RowKit
set_option linter.unusedSimpArgs false

theorem or_nat (n x : Nat) (hx : x < 256) : n * 256 ||| x = n * 256 + x := by
  have := Nat.shiftLeft_add_eq_or_of_lt (i := 8) (b := x) (by omega) n
  rw [Nat.shiftLeft_eq] at this
  exact this.symm
theorem ofint_nat (a : Nat) (h : a < 18446744073709551616) : (BitVec.ofInt IntKind.u64.bits ((a : Nat) : Int)).toNat = a := by
  rw [BitVec.ofInt_natCast, BitVec.toNat_ofNat]
  have e : (2 ^ IntKind.u64.bits : Nat) = 18446744073709551616 := by decide
  rw [e]
  exact Nat.mod_eq_of_lt h
theorem or_byte (n x : Nat) (hn : n * 256 + 255 < 18446744073709551616) (hx : x < 256) : IntKind.u64.wrap ((BitVec.ofInt IntKind.u64.bits ((n * 256 : Nat) : Int) ||| BitVec.ofInt IntKind.u64.bits ((x : Nat) : Int)).toNat : Int) = ((n * 256 + x : Nat) : Int) := by
  have h1 : n * 256 < 18446744073709551616 := Nat.lt_of_le_of_lt (Nat.le_add_right _ _) hn
  have h2 : x < 18446744073709551616 := Nat.lt_trans hx (by decide)
  rw [BitVec.toNat_or, ofint_nat (n * 256) h1, ofint_nat x h2, or_nat n x hx, wrap_u64]
  omega
theorem sh8 (n : Nat) (hn : n * 256 < 18446744073709551616) : IntKind.u64.wrap ((n : Int) * 2 ^ min 8 IntKind.u64.bits) = ((n * 256 : Nat) : Int) := by
  have e : (2 : Int) ^ min 8 IntKind.u64.bits = 256 := by decide
  rw [e, wrap_u64]
  omega
theorem tkN_at {b : List Nat} {at_ k : Nat} {bad : Bool} (h : at_ ≤ b.length) : (tkN b at_ bad k).2.1 ≤ b.length := by
  unfold tkN
  split
  · exact h
  · rename_i q
    simp only [Bool.or_eq_true, decide_eq_true_eq, not_or] at q
    simp only
    omega
theorem tkN_bd (b : List Nat) (at_ k : Nat) (bad : Bool) : -9223372036854775808 ≤ (tkN b at_ bad k).1 ∧ (tkN b at_ bad k).1 ≤ 9223372036854775807 := by
  unfold tkN
  split
  · simp
  · exact s64_bd _
theorem tkN_two {b : List Nat} (hb : ∀ x ∈ b, x < 256) (at_ : Nat) (bad : Bool) : 0 ≤ (tkN b at_ bad 2).1 ∧ (tkN b at_ bad 2).1 ≤ 65535 := by
  unfold tkN
  split
  · simp
  · have hlt := beV_lt ((b.drop at_).take 2) fun x hx => hb x (List.mem_of_mem_drop (List.mem_of_mem_take hx))
    have hl : ((b.drop at_).take 2).length ≤ 2 := List.length_take_le _ _
    have h2 : 256 ^ ((b.drop at_).take 2).length ≤ 256 ^ 2 := Nat.pow_le_pow_right (by decide) hl
    simp only
    rw [s64_small (by omega)]
    omega
theorem beV_snoc (l : List Nat) (x a : Nat) : beV (l ++ [x]) a = beV l a * 256 + x := by
  induction l generalizing a with
  | nil => rfl
  | cons y r ih => rw [List.cons_append, beV, ih, beV]
/-! (*headend/cut.taker).number -/
def r17_0 : List POp := [⟨4, .asg (.c (.int .i64 0)), none⟩]
def r17_1 : List POp := [⟨6, .mv (.t 0), none⟩,
  ⟨7, .nilck (.t 6), none⟩,
  ⟨8, .fld 2 (.t 7), none⟩,
  ⟨9, .load (.t 8), none⟩,
  ⟨10, .mv (.t 9), none⟩,
  ⟨11, .mv (.t 0), some (10, false)⟩,
  ⟨12, .nilck (.t 11), some (10, false)⟩,
  ⟨13, .fld 0 (.t 12), some (10, false)⟩,
  ⟨14, .load (.t 13), some (10, false)⟩,
  ⟨15, .len (.t 14), some (10, false)⟩,
  ⟨16, .mv (.t 0), some (10, false)⟩,
  ⟨17, .nilck (.t 16), some (10, false)⟩,
  ⟨18, .fld 1 (.t 17), some (10, false)⟩,
  ⟨19, .load (.t 18), some (10, false)⟩,
  ⟨20, .bin .sub (.t 15) (.t 19), some (10, false)⟩,
  ⟨21, .mv (.t 1), some (10, false)⟩,
  ⟨22, .bin .lss (.t 20) (.t 21), some (10, false)⟩,
  ⟨23, .pick (.t 10) (.c (.bool true)) (.t 22), none⟩]
def r17_2 : List POp := [⟨24, .mv (.t 0), none⟩,
  ⟨25, .nilck (.t 24), none⟩,
  ⟨26, .fld 2 (.t 25), none⟩,
  ⟨0, .store (.t 26) (.c (.bool true)), none⟩]
def r17_3 : List POp := [⟨4, .asg (.c (.int .i64 0)), none⟩]
def r17_4 : List POp := [⟨5, .asg (.c (.int .u64 0)), none⟩]
def r17_5 : List POp := [⟨27, .mv (.t 1), none⟩,
  ⟨28, .mv (.c (.int .i64 0)), none⟩]
def r17_6 : List POp := [⟨29, .bin .lss (.t 28) (.t 27), none⟩]
def r17_7 : List POp := [⟨30, .mv (.t 5), none⟩,
  ⟨31, .bin .shl (.t 30) (.c (.int .u64 8)), none⟩,
  ⟨32, .mv (.t 0), none⟩,
  ⟨33, .nilck (.t 32), none⟩,
  ⟨34, .fld 0 (.t 33), none⟩,
  ⟨35, .load (.t 34), none⟩,
  ⟨36, .mv (.t 0), none⟩,
  ⟨37, .nilck (.t 36), none⟩,
  ⟨38, .fld 1 (.t 37), none⟩,
  ⟨39, .load (.t 38), none⟩,
  ⟨40, .idx 1 (.t 35) (.t 39), none⟩,
  ⟨41, .load (.t 40), none⟩,
  ⟨42, .conv .u64 (.t 41), none⟩,
  ⟨43, .bin .or (.t 31) (.t 42), none⟩,
  ⟨5, .asg (.t 43), none⟩]
def r17_8 : List POp := [⟨44, .mv (.t 0), none⟩,
  ⟨45, .nilck (.t 44), none⟩,
  ⟨46, .fld 1 (.t 45), none⟩,
  ⟨47, .load (.t 46), none⟩,
  ⟨48, .bin .add (.t 47) (.c (.int .i64 1)), none⟩,
  ⟨49, .nilck (.t 44), none⟩,
  ⟨50, .fld 1 (.t 49), none⟩,
  ⟨0, .store (.t 50) (.t 48), none⟩]
def r17_9 : List POp := [⟨51, .bin .add (.t 28) (.c (.int .i64 1)), none⟩,
  ⟨28, .mv (.t 51), none⟩]
def r17_10 : List POp := [⟨52, .mv (.t 5), none⟩,
  ⟨53, .conv .i64 (.t 52), none⟩,
  ⟨4, .asg (.t 53), none⟩]
def l17_0 : PCode := .seq (.ops r17_6) (.seq (.cond (.t 29) (.skip) (.exit 0)) (.seq (.block 1 (.seq (.ops r17_7) (.ops r17_8))) (.ops r17_9)))
def p17 : PCode := .seq (.ops r17_0) (.seq (.seq (.ops r17_1) (.cond (.t 23) (.seq (.ops r17_2) (.seq (.ops r17_3) (.ret))) (.skip))) (.seq (.ops r17_4) (.seq (.seq (.ops r17_5) (.block 0 (.loop l17_0))) (.seq (.ops r17_10) (.ret)))))
theorem ok17 : okFunc1 Tryd.prog 17 [.t 4] 2 p17 = true := by kernel_rfl
set_option maxHeartbeats 1000000 in
theorem num_c (b : List Nat) (at_ : Nat) (bad : Bool) (many : Nat) (hb : ∀ x ∈ b, x < 256) (hl : b.length ≤ 100000) (hat : at_ ≤ b.length) (hm : many ≤ 8) :
    TurnOK Tryd.prog 17 (.box [.ro (b.map oneU), .val (.int .i64 at_), .val (.bool bad)]) (.box [.ro (b.map oneU), .val (.int .i64 ((tkN b at_ bad many).2.1 : Nat)), .val (.bool (tkN b at_ bad many).2.2)]) [.val (.int .i64 many)] (.val (.int .i64 (tkN b at_ bad many).1)) := by
  refine turn_of mixed ok17 rfl (.val _) rfl ?_
  have hw : IntKind.i64.wrap ((b.length : Int) - at_) = (b.length : Int) - at_ := wrap_in (by omega) (by omega)
  cases bad
  case true =>
    rw [tkN_bad]
    repeat' first | ((with_reducible (first | refine condD ?_ ?_ | refine condE ?_ ?_ | refine condN ?_ ?_ | refine condI ?_ ?_ | refine condS ?_ ?_)) <;> intro h) | ((with_reducible (first | refine guardD (by with_unfolding_all rfl) ?_ ?_ | refine guardE (by with_unfolding_all rfl) ?_ ?_ | refine guardN (by with_unfolding_all rfl) ?_ ?_ | refine guardI (by with_unfolding_all rfl) ?_ ?_ | refine guardS (by with_unfolding_all rfl) ?_ ?_)) <;> intro h) | (with_reducible refine And.intro ?_ ?_; omega) | (simp only [done_eq, done_eq', donet_eq, donet_eq', fin_val, fin_tup, fin_agg, fin_ro, res_one, res_more, rv_t, rv_c, rv_l, AV.tup.injEq, AV.agg.injEq, AV.ro.injEq, List.cons.injEq, int_eq, bool_eq, Int.toNat_natCast, Int.reduceToNat, Int.toNat_zero, Int.toNat_one, Int.reduceLE, Int.reduceLT, Int.reduceBEq, Int.reduceBNe, beq_self_eq_true, bne_self_eq_false, decide_true, decide_false,  Int.reduceNeg, toNat_pred, toNat_succ, List.length_map, cnd_t, cnd_f, grd_tt, grd_u, grd_tf, grd_ft, grd_ff, g_skip, g_ops, g_seq, g_block, g_exit, g_ret, x_c, x_o, x_l, x_b, g_b, g_nil, r_all, o_nil, g_cond, o_guard, o_call, o_callm, o_callt, o_callx, o_callv, lk, ef, o_mv, o_pick, o_bin, o_never, o_eqs, o_eqb, o_un, o_conv, o_load, o_loadr, o_idxr, o_loads, o_fld, o_idx, o_idxs, o_len, o_lens, o_ext, o_nilck, o_slc, o_slcs, o_build, o_minmax, o_mkfn, o_alloc, o_box, o_boxs, o_row, o_rowr, o_mk, o_asg, o_app, o_store, o_stores, o_eqnil, hv, eqAV, ev, view_t, view_c, view_nil, view_fn, look_own, look_box, look_junk, look_val, look_nilsl, look_ro, look_roAt, look_agg, look_tup, look_clo, look_alias, look_ref, look_into, rowOf, cellsOf, argv, vbin, vun, bnd, elemOf, putParts, setAt, zav, ASt.rid, ASt.free, AV.kill, AV.isHome, AV.noLoan, AV.cellOK, Value.oneCell', put_at, mk_at, mk_nil, initSt, true_and, and_true, and_self, implies_true, List.map_cons, List.map_nil, List.forall_mem_cons, List.not_mem_nil, false_implies, List.length_cons, List.length_nil, List.getD_cons_zero, List.getD_cons_succ, List.getD_nil, List.drop_succ_cons, List.drop_zero, List.take_succ_cons, List.take_zero, List.set_cons_zero, List.set_cons_succ, List.all_cons, List.all_nil, Bool.and_true, Bool.true_and, Bool.not_true, Bool.not_false, reduceCtorEq, if_true, if_false, Bool.false_eq_true, ↓reduceIte, Nat.reduceEqDiff, Nat.reduceAdd, Nat.reduceSub, Nat.reduceMul, Nat.reduceLeDiff, Nat.reduceLT, ne_eq, not_false_eq_true, not_true_eq_false, Nat.one_ne_zero, Nat.zero_ne_one, r17_0, r17_1, r17_2, r17_3, r17_4, r17_5, r17_6, r17_7, r17_8, r17_9, r17_10, p17, donet_eq, donet_eq', List.length_map]) | (exfalso; omega)
  by_cases h : b.length < at_ + many
  · have hlt : (b.length : Int) - at_ < many := by omega
    rw [show tkN b at_ false many = (0, at_, true) from by simp [tkN, h]]
    repeat' first | ((with_reducible (first | refine condD ?_ ?_ | refine condE ?_ ?_ | refine condN ?_ ?_ | refine condI ?_ ?_ | refine condS ?_ ?_)) <;> intro h) | ((with_reducible (first | refine guardD (by with_unfolding_all rfl) ?_ ?_ | refine guardE (by with_unfolding_all rfl) ?_ ?_ | refine guardN (by with_unfolding_all rfl) ?_ ?_ | refine guardI (by with_unfolding_all rfl) ?_ ?_ | refine guardS (by with_unfolding_all rfl) ?_ ?_)) <;> intro h) | (with_reducible refine And.intro ?_ ?_; omega) | (simp only [done_eq, done_eq', donet_eq, donet_eq', fin_val, fin_tup, fin_agg, fin_ro, res_one, res_more, rv_t, rv_c, rv_l, AV.tup.injEq, AV.agg.injEq, AV.ro.injEq, List.cons.injEq, int_eq, bool_eq, Int.toNat_natCast, Int.reduceToNat, Int.toNat_zero, Int.toNat_one, Int.reduceLE, Int.reduceLT, Int.reduceBEq, Int.reduceBNe, beq_self_eq_true, bne_self_eq_false, decide_true, decide_false,  Int.reduceNeg, toNat_pred, toNat_succ, List.length_map, cnd_t, cnd_f, grd_tt, grd_u, grd_tf, grd_ft, grd_ff, g_skip, g_ops, g_seq, g_block, g_exit, g_ret, x_c, x_o, x_l, x_b, g_b, g_nil, r_all, o_nil, g_cond, o_guard, o_call, o_callm, o_callt, o_callx, o_callv, lk, ef, o_mv, o_pick, o_bin, o_never, o_eqs, o_eqb, o_un, o_conv, o_load, o_loadr, o_idxr, o_loads, o_fld, o_idx, o_idxs, o_len, o_lens, o_ext, o_nilck, o_slc, o_slcs, o_build, o_minmax, o_mkfn, o_alloc, o_box, o_boxs, o_row, o_rowr, o_mk, o_asg, o_app, o_store, o_stores, o_eqnil, hv, eqAV, ev, view_t, view_c, view_nil, view_fn, look_own, look_box, look_junk, look_val, look_nilsl, look_ro, look_roAt, look_agg, look_tup, look_clo, look_alias, look_ref, look_into, rowOf, cellsOf, argv, vbin, vun, bnd, elemOf, putParts, setAt, zav, ASt.rid, ASt.free, AV.kill, AV.isHome, AV.noLoan, AV.cellOK, Value.oneCell', put_at, mk_at, mk_nil, initSt, true_and, and_true, and_self, implies_true, List.map_cons, List.map_nil, List.forall_mem_cons, List.not_mem_nil, false_implies, List.length_cons, List.length_nil, List.getD_cons_zero, List.getD_cons_succ, List.getD_nil, List.drop_succ_cons, List.drop_zero, List.take_succ_cons, List.take_zero, List.set_cons_zero, List.set_cons_succ, List.all_cons, List.all_nil, Bool.and_true, Bool.true_and, Bool.not_true, Bool.not_false, reduceCtorEq, if_true, if_false, Bool.false_eq_true, ↓reduceIte, Nat.reduceEqDiff, Nat.reduceAdd, Nat.reduceSub, Nat.reduceMul, Nat.reduceLeDiff, Nat.reduceLT, ne_eq, not_false_eq_true, not_true_eq_false, Nat.one_ne_zero, Nat.zero_ne_one, r17_0, r17_1, r17_2, r17_3, r17_4, r17_5, r17_6, r17_7, r17_8, r17_9, r17_10, p17, donet_eq, donet_eq', List.length_map, hw, hlt]) | (exfalso; omega)
  have hlt : ¬ (b.length : Int) - at_ < many := by omega
  have hT : tkN b at_ false many = (s64 (beV ((b.drop at_).take many) 0), at_ + many, false) := by simp [tkN, h]
  rw [hT]
  obtain ⟨R, hR⟩ : ∃ R, R = beV ((b.drop at_).take many) 0 := ⟨_, rfl⟩
  rw [← hR]
  simp only
  repeat' first | ((with_reducible (first | refine condD ?_ ?_ | refine condE ?_ ?_ | refine condN ?_ ?_ | refine condI ?_ ?_ | refine condS ?_ ?_)) <;> intro h) | ((with_reducible (first | refine guardD (by with_unfolding_all rfl) ?_ ?_ | refine guardE (by with_unfolding_all rfl) ?_ ?_ | refine guardN (by with_unfolding_all rfl) ?_ ?_ | refine guardI (by with_unfolding_all rfl) ?_ ?_ | refine guardS (by with_unfolding_all rfl) ?_ ?_)) <;> intro h) | (with_reducible refine And.intro ?_ ?_; omega) | (simp only [done_eq, done_eq', donet_eq, donet_eq', fin_val, fin_tup, fin_agg, fin_ro, res_one, res_more, rv_t, rv_c, rv_l, AV.tup.injEq, AV.agg.injEq, AV.ro.injEq, List.cons.injEq, int_eq, bool_eq, Int.toNat_natCast, Int.reduceToNat, Int.toNat_zero, Int.toNat_one, Int.reduceLE, Int.reduceLT, Int.reduceBEq, Int.reduceBNe, beq_self_eq_true, bne_self_eq_false, decide_true, decide_false,  Int.reduceNeg, toNat_pred, toNat_succ, List.length_map, cnd_t, cnd_f, grd_tt, grd_u, grd_tf, grd_ft, grd_ff, g_skip, g_ops, g_seq, g_block, g_exit, g_ret, x_c, x_o, x_l, x_b, g_b, g_nil, r_all, o_nil, g_cond, o_guard, o_call, o_callm, o_callt, o_callx, o_callv, lk, ef, o_mv, o_pick, o_bin, o_never, o_eqs, o_eqb, o_un, o_conv, o_load, o_loadr, o_idxr, o_loads, o_fld, o_idx, o_idxs, o_len, o_lens, o_ext, o_nilck, o_slc, o_slcs, o_build, o_minmax, o_mkfn, o_alloc, o_box, o_boxs, o_row, o_rowr, o_mk, o_asg, o_app, o_store, o_stores, o_eqnil, hv, eqAV, ev, view_t, view_c, view_nil, view_fn, look_own, look_box, look_junk, look_val, look_nilsl, look_ro, look_roAt, look_agg, look_tup, look_clo, look_alias, look_ref, look_into, rowOf, cellsOf, argv, vbin, vun, bnd, elemOf, putParts, setAt, zav, ASt.rid, ASt.free, AV.kill, AV.isHome, AV.noLoan, AV.cellOK, Value.oneCell', put_at, mk_at, mk_nil, initSt, true_and, and_true, and_self, implies_true, List.map_cons, List.map_nil, List.forall_mem_cons, List.not_mem_nil, false_implies, List.length_cons, List.length_nil, List.getD_cons_zero, List.getD_cons_succ, List.getD_nil, List.drop_succ_cons, List.drop_zero, List.take_succ_cons, List.take_zero, List.set_cons_zero, List.set_cons_succ, List.all_cons, List.all_nil, Bool.and_true, Bool.true_and, Bool.not_true, Bool.not_false, reduceCtorEq, if_true, if_false, Bool.false_eq_true, ↓reduceIte, Nat.reduceEqDiff, Nat.reduceAdd, Nat.reduceSub, Nat.reduceMul, Nat.reduceLeDiff, Nat.reduceLT, ne_eq, not_false_eq_true, not_true_eq_false, Nat.one_ne_zero, Nat.zero_ne_one, r17_0, r17_1, r17_2, r17_3, r17_4, r17_5, r17_6, r17_7, r17_8, r17_9, r17_10, p17, donet_eq, donet_eq', List.length_map, hw, hlt]) | (exfalso; omega)
  refine loopS (fun k : Nat => mk [(0, .box [.ro (b.map oneU), .val (.int .i64 ((at_ + k : Nat) : Int)), .val (.bool false)]), (5, .val (.int .u64 (beV ((b.drop at_).take k) 0 : Nat))), (27, .val (.int .i64 many)), (28, .val (.int .i64 k))]) (fun k => k ≤ many) (fun k => many - k) 0 (weak_mk ?_) (Nat.zero_le _) ?_
  · simp only [wk_cons, wk_nil, wk1, vint_eq, vbool_eq, AV.val.injEq, done_eq, done_eq', donet_eq, donet_eq', fin_val, fin_tup, fin_agg, fin_ro, res_one, res_more, rv_t, rv_c, rv_l, AV.tup.injEq, AV.agg.injEq, AV.ro.injEq, List.cons.injEq, int_eq, bool_eq, Int.toNat_natCast, Int.reduceToNat, Int.toNat_zero, Int.toNat_one, Int.reduceLE, Int.reduceLT, Int.reduceBEq, Int.reduceBNe, beq_self_eq_true, bne_self_eq_false, decide_true, decide_false,  Int.reduceNeg, toNat_pred, toNat_succ, List.length_map, cnd_t, cnd_f, grd_tt, grd_u, grd_tf, grd_ft, grd_ff, g_skip, g_ops, g_seq, g_block, g_exit, g_ret, x_c, x_o, x_l, x_b, g_b, g_nil, r_all, o_nil, g_cond, o_guard, o_call, o_callm, o_callt, o_callx, o_callv, lk, ef, o_mv, o_pick, o_bin, o_never, o_eqs, o_eqb, o_un, o_conv, o_load, o_loadr, o_idxr, o_loads, o_fld, o_idx, o_idxs, o_len, o_lens, o_ext, o_nilck, o_slc, o_slcs, o_build, o_minmax, o_mkfn, o_alloc, o_box, o_boxs, o_row, o_rowr, o_mk, o_asg, o_app, o_store, o_stores, o_eqnil, hv, eqAV, ev, view_t, view_c, view_nil, view_fn, look_own, look_box, look_junk, look_val, look_nilsl, look_ro, look_roAt, look_agg, look_tup, look_clo, look_alias, look_ref, look_into, rowOf, cellsOf, argv, vbin, vun, bnd, elemOf, putParts, setAt, zav, ASt.rid, ASt.free, AV.kill, AV.isHome, AV.noLoan, AV.cellOK, Value.oneCell', put_at, mk_at, mk_nil, initSt, true_and, and_true, and_self, implies_true, List.map_cons, List.map_nil, List.forall_mem_cons, List.not_mem_nil, false_implies, List.length_cons, List.length_nil, List.getD_cons_zero, List.getD_cons_succ, List.getD_nil, List.drop_succ_cons, List.drop_zero, List.take_succ_cons, List.take_zero, List.set_cons_zero, List.set_cons_succ, List.all_cons, List.all_nil, Bool.and_true, Bool.true_and, Bool.not_true, Bool.not_false, reduceCtorEq, if_true, if_false, Bool.false_eq_true, ↓reduceIte, Nat.reduceEqDiff, Nat.reduceAdd, Nat.reduceSub, Nat.reduceMul, Nat.reduceLeDiff, Nat.reduceLT, ne_eq, not_false_eq_true, not_true_eq_false, Nat.one_ne_zero, Nat.zero_ne_one]
    simp [beV]
  rintro J hJ k hk
  simp only [done_eq, done_eq', donet_eq, donet_eq', fin_val, fin_tup, fin_agg, fin_ro, res_one, res_more, rv_t, rv_c, rv_l, AV.tup.injEq, AV.agg.injEq, AV.ro.injEq, List.cons.injEq, int_eq, bool_eq, Int.toNat_natCast, Int.reduceToNat, Int.toNat_zero, Int.toNat_one, Int.reduceLE, Int.reduceLT, Int.reduceBEq, Int.reduceBNe, beq_self_eq_true, bne_self_eq_false, decide_true, decide_false,  Int.reduceNeg, toNat_pred, toNat_succ, List.length_map, cnd_t, cnd_f, grd_tt, grd_u, grd_tf, grd_ft, grd_ff, g_skip, g_ops, g_seq, g_block, g_exit, g_ret, x_c, x_o, x_l, x_b, g_b, g_nil, r_all, o_nil, g_cond, o_guard, o_call, o_callm, o_callt, o_callx, o_callv, lk, ef, o_mv, o_pick, o_bin, o_never, o_eqs, o_eqb, o_un, o_conv, o_load, o_loadr, o_idxr, o_loads, o_fld, o_idx, o_idxs, o_len, o_lens, o_ext, o_nilck, o_slc, o_slcs, o_build, o_minmax, o_mkfn, o_alloc, o_box, o_boxs, o_row, o_rowr, o_mk, o_asg, o_app, o_store, o_stores, o_eqnil, hv, eqAV, ev, view_t, view_c, view_nil, view_fn, look_own, look_box, look_junk, look_val, look_nilsl, look_ro, look_roAt, look_agg, look_tup, look_clo, look_alias, look_ref, look_into, rowOf, cellsOf, argv, vbin, vun, bnd, elemOf, putParts, setAt, zav, ASt.rid, ASt.free, AV.kill, AV.isHome, AV.noLoan, AV.cellOK, Value.oneCell', put_at, mk_at, mk_nil, initSt, true_and, and_true, and_self, implies_true, List.map_cons, List.map_nil, List.forall_mem_cons, List.not_mem_nil, false_implies, List.length_cons, List.length_nil, List.getD_cons_zero, List.getD_cons_succ, List.getD_nil, List.drop_succ_cons, List.drop_zero, List.take_succ_cons, List.take_zero, List.set_cons_zero, List.set_cons_succ, List.all_cons, List.all_nil, Bool.and_true, Bool.true_and, Bool.not_true, Bool.not_false, reduceCtorEq, if_true, if_false, Bool.false_eq_true, ↓reduceIte, Nat.reduceEqDiff, Nat.reduceAdd, Nat.reduceSub, Nat.reduceMul, Nat.reduceLeDiff, Nat.reduceLT, ne_eq, not_false_eq_true, not_true_eq_false, Nat.one_ne_zero, Nat.zero_ne_one, r17_0, r17_1, r17_2, r17_3, r17_4, r17_5, r17_6, r17_7, r17_8, r17_9, r17_10, p17, l17_0]
  refine condD (fun h1 => ?_) (fun h1 => ?_)
  · have hkm : k < many := by omega
    have hlt2 : at_ + k < b.length := by omega
    have gB := getD_map (f := oneU) (d := []) hlt2
    simp only [oneU] at gB
    have hx : b[at_ + k] < 256 := hb _ (List.getElem_mem hlt2)
    have hwk := i_add1 k (by omega)
    have hwa := i_add1 (at_ + k) (by omega)
    have hV := beV_lt ((b.drop at_).take k) fun x hx => hb x (List.mem_of_mem_drop (List.mem_of_mem_take hx))
    have hVl : ((b.drop at_).take k).length ≤ 7 := by rw [List.length_take]; omega
    have hV2 : 256 ^ ((b.drop at_).take k).length ≤ 256 ^ 7 := Nat.pow_le_pow_right (by decide) hVl
    have hV3 : (256 : Nat) ^ 7 = 72057594037927936 := by decide
    have hnext : (b.drop at_).take (k + 1) = (b.drop at_).take k ++ [b[at_ + k]] := by
      rw [List.take_succ_eq_append_getElem (by rw [List.length_drop]; omega), List.getElem_drop]
    have hbe : beV ((b.drop at_).take (k + 1)) 0 = beV ((b.drop at_).take k) 0 * 256 + b[at_ + k] := by rw [hnext, beV_snoc]
    obtain ⟨V, hVV⟩ : ∃ V, V = beV ((b.drop at_).take k) 0 := ⟨_, rfl⟩
    rw [← hVV] at hV hbe ⊢
    have hs8 := sh8 V (by omega)
    have hor := or_byte V b[at_ + k] (by omega) hx
    have hcv : IntKind.u64.wrap ((b[at_ + k] : Nat) : Int) = ((b[at_ + k] : Nat) : Int) := by rw [wrap_u64]; omega
    repeat' first | ((with_reducible (first | refine condD ?_ ?_ | refine condE ?_ ?_ | refine condN ?_ ?_ | refine condI ?_ ?_ | refine condS ?_ ?_)) <;> intro h) | ((with_reducible (first | refine guardD (by with_unfolding_all rfl) ?_ ?_ | refine guardE (by with_unfolding_all rfl) ?_ ?_ | refine guardN (by with_unfolding_all rfl) ?_ ?_ | refine guardI (by with_unfolding_all rfl) ?_ ?_ | refine guardS (by with_unfolding_all rfl) ?_ ?_)) <;> intro h) | (with_reducible refine And.intro ?_ ?_; omega) | (simp only [done_eq, done_eq', donet_eq, donet_eq', fin_val, fin_tup, fin_agg, fin_ro, res_one, res_more, rv_t, rv_c, rv_l, AV.tup.injEq, AV.agg.injEq, AV.ro.injEq, List.cons.injEq, int_eq, bool_eq, Int.toNat_natCast, Int.reduceToNat, Int.toNat_zero, Int.toNat_one, Int.reduceLE, Int.reduceLT, Int.reduceBEq, Int.reduceBNe, beq_self_eq_true, bne_self_eq_false, decide_true, decide_false,  Int.reduceNeg, toNat_pred, toNat_succ, List.length_map, cnd_t, cnd_f, grd_tt, grd_u, grd_tf, grd_ft, grd_ff, g_skip, g_ops, g_seq, g_block, g_exit, g_ret, x_c, x_o, x_l, x_b, g_b, g_nil, r_all, o_nil, g_cond, o_guard, o_call, o_callm, o_callt, o_callx, o_callv, lk, ef, o_mv, o_pick, o_bin, o_never, o_eqs, o_eqb, o_un, o_conv, o_load, o_loadr, o_idxr, o_loads, o_fld, o_idx, o_idxs, o_len, o_lens, o_ext, o_nilck, o_slc, o_slcs, o_build, o_minmax, o_mkfn, o_alloc, o_box, o_boxs, o_row, o_rowr, o_mk, o_asg, o_app, o_store, o_stores, o_eqnil, hv, eqAV, ev, view_t, view_c, view_nil, view_fn, look_own, look_box, look_junk, look_val, look_nilsl, look_ro, look_roAt, look_agg, look_tup, look_clo, look_alias, look_ref, look_into, rowOf, cellsOf, argv, vbin, vun, bnd, elemOf, putParts, setAt, zav, ASt.rid, ASt.free, AV.kill, AV.isHome, AV.noLoan, AV.cellOK, Value.oneCell', put_at, mk_at, mk_nil, initSt, true_and, and_true, and_self, implies_true, List.map_cons, List.map_nil, List.forall_mem_cons, List.not_mem_nil, false_implies, List.length_cons, List.length_nil, List.getD_cons_zero, List.getD_cons_succ, List.getD_nil, List.drop_succ_cons, List.drop_zero, List.take_succ_cons, List.take_zero, List.set_cons_zero, List.set_cons_succ, List.all_cons, List.all_nil, Bool.and_true, Bool.true_and, Bool.not_true, Bool.not_false, reduceCtorEq, if_true, if_false, Bool.false_eq_true, ↓reduceIte, Nat.reduceEqDiff, Nat.reduceAdd, Nat.reduceSub, Nat.reduceMul, Nat.reduceLeDiff, Nat.reduceLT, ne_eq, not_false_eq_true, not_true_eq_false, Nat.one_ne_zero, Nat.zero_ne_one, r17_0, r17_1, r17_2, r17_3, r17_4, r17_5, r17_6, r17_7, r17_8, r17_9, r17_10, p17, l17_0, gB, hs8, hor, hcv, hwa, hwk, List.length_map]) | (exfalso; omega)
    all_goals exact again hJ (k + 1) (weak_mk (by simp only [wk_cons, wk_nil, wk1, vint_eq, vbool_eq, AV.val.injEq, done_eq, done_eq', donet_eq, donet_eq', fin_val, fin_tup, fin_agg, fin_ro, res_one, res_more, rv_t, rv_c, rv_l, AV.tup.injEq, AV.agg.injEq, AV.ro.injEq, List.cons.injEq, int_eq, bool_eq, Int.toNat_natCast, Int.reduceToNat, Int.toNat_zero, Int.toNat_one, Int.reduceLE, Int.reduceLT, Int.reduceBEq, Int.reduceBNe, beq_self_eq_true, bne_self_eq_false, decide_true, decide_false,  Int.reduceNeg, toNat_pred, toNat_succ, List.length_map, cnd_t, cnd_f, grd_tt, grd_u, grd_tf, grd_ft, grd_ff, g_skip, g_ops, g_seq, g_block, g_exit, g_ret, x_c, x_o, x_l, x_b, g_b, g_nil, r_all, o_nil, g_cond, o_guard, o_call, o_callm, o_callt, o_callx, o_callv, lk, ef, o_mv, o_pick, o_bin, o_never, o_eqs, o_eqb, o_un, o_conv, o_load, o_loadr, o_idxr, o_loads, o_fld, o_idx, o_idxs, o_len, o_lens, o_ext, o_nilck, o_slc, o_slcs, o_build, o_minmax, o_mkfn, o_alloc, o_box, o_boxs, o_row, o_rowr, o_mk, o_asg, o_app, o_store, o_stores, o_eqnil, hv, eqAV, ev, view_t, view_c, view_nil, view_fn, look_own, look_box, look_junk, look_val, look_nilsl, look_ro, look_roAt, look_agg, look_tup, look_clo, look_alias, look_ref, look_into, rowOf, cellsOf, argv, vbin, vun, bnd, elemOf, putParts, setAt, zav, ASt.rid, ASt.free, AV.kill, AV.isHome, AV.noLoan, AV.cellOK, Value.oneCell', put_at, mk_at, mk_nil, initSt, true_and, and_true, and_self, implies_true, List.map_cons, List.map_nil, List.forall_mem_cons, List.not_mem_nil, false_implies, List.length_cons, List.length_nil, List.getD_cons_zero, List.getD_cons_succ, List.getD_nil, List.drop_succ_cons, List.drop_zero, List.take_succ_cons, List.take_zero, List.set_cons_zero, List.set_cons_succ, List.all_cons, List.all_nil, Bool.and_true, Bool.true_and, Bool.not_true, Bool.not_false, reduceCtorEq, if_true, if_false, Bool.false_eq_true, ↓reduceIte, Nat.reduceEqDiff, Nat.reduceAdd, Nat.reduceSub, Nat.reduceMul, Nat.reduceLeDiff, Nat.reduceLT, ne_eq, not_false_eq_true, not_true_eq_false, Nat.one_ne_zero, Nat.zero_ne_one]; exact ⟨by rw [Nat.add_assoc], by rw [hbe]⟩)) (by omega) (by omega)
  · have hke : k = many := by omega
    subst hke
    rw [← hR]
    clear hJ
    repeat' first | ((with_reducible (first | refine condD ?_ ?_ | refine condE ?_ ?_ | refine condN ?_ ?_ | refine condI ?_ ?_ | refine condS ?_ ?_)) <;> intro h) | ((with_reducible (first | refine guardD (by with_unfolding_all rfl) ?_ ?_ | refine guardE (by with_unfolding_all rfl) ?_ ?_ | refine guardN (by with_unfolding_all rfl) ?_ ?_ | refine guardI (by with_unfolding_all rfl) ?_ ?_ | refine guardS (by with_unfolding_all rfl) ?_ ?_)) <;> intro h) | (with_reducible refine And.intro ?_ ?_; omega) | (simp only [done_eq, done_eq', donet_eq, donet_eq', fin_val, fin_tup, fin_agg, fin_ro, res_one, res_more, rv_t, rv_c, rv_l, AV.tup.injEq, AV.agg.injEq, AV.ro.injEq, List.cons.injEq, int_eq, bool_eq, Int.toNat_natCast, Int.reduceToNat, Int.toNat_zero, Int.toNat_one, Int.reduceLE, Int.reduceLT, Int.reduceBEq, Int.reduceBNe, beq_self_eq_true, bne_self_eq_false, decide_true, decide_false,  Int.reduceNeg, toNat_pred, toNat_succ, List.length_map, cnd_t, cnd_f, grd_tt, grd_u, grd_tf, grd_ft, grd_ff, g_skip, g_ops, g_seq, g_block, g_exit, g_ret, x_c, x_o, x_l, x_b, g_b, g_nil, r_all, o_nil, g_cond, o_guard, o_call, o_callm, o_callt, o_callx, o_callv, lk, ef, o_mv, o_pick, o_bin, o_never, o_eqs, o_eqb, o_un, o_conv, o_load, o_loadr, o_idxr, o_loads, o_fld, o_idx, o_idxs, o_len, o_lens, o_ext, o_nilck, o_slc, o_slcs, o_build, o_minmax, o_mkfn, o_alloc, o_box, o_boxs, o_row, o_rowr, o_mk, o_asg, o_app, o_store, o_stores, o_eqnil, hv, eqAV, ev, view_t, view_c, view_nil, view_fn, look_own, look_box, look_junk, look_val, look_nilsl, look_ro, look_roAt, look_agg, look_tup, look_clo, look_alias, look_ref, look_into, rowOf, cellsOf, argv, vbin, vun, bnd, elemOf, putParts, setAt, zav, ASt.rid, ASt.free, AV.kill, AV.isHome, AV.noLoan, AV.cellOK, Value.oneCell', put_at, mk_at, mk_nil, initSt, true_and, and_true, and_self, implies_true, List.map_cons, List.map_nil, List.forall_mem_cons, List.not_mem_nil, false_implies, List.length_cons, List.length_nil, List.getD_cons_zero, List.getD_cons_succ, List.getD_nil, List.drop_succ_cons, List.drop_zero, List.take_succ_cons, List.take_zero, List.set_cons_zero, List.set_cons_succ, List.all_cons, List.all_nil, Bool.and_true, Bool.true_and, Bool.not_true, Bool.not_false, reduceCtorEq, if_true, if_false, Bool.false_eq_true, ↓reduceIte, Nat.reduceEqDiff, Nat.reduceAdd, Nat.reduceSub, Nat.reduceMul, Nat.reduceLeDiff, Nat.reduceLT, ne_eq, not_false_eq_true, not_true_eq_false, Nat.one_ne_zero, Nat.zero_ne_one, r17_0, r17_1, r17_2, r17_3, r17_4, r17_5, r17_6, r17_7, r17_8, r17_9, r17_10, p17, l17_0, donet_eq, donet_eq', s64]) | (exfalso; omega)
/-! headend/cut.ReadIndex -/
def r7_0 : List POp := [⟨2, .asg .nil, none⟩,
  ⟨3, .asg (.c (.int .i64 0)), none⟩,
  ⟨4, .asg (.c (.int .i64 0)), none⟩,
  ⟨5, .asg (.c (.int .i64 0)), none⟩]
def r7_1 : List POp := [⟨17, .mv (.t 0), none⟩,
  ⟨18, .len (.t 17), none⟩,
  ⟨19, .bin .gtr (.t 18) (.c (.int .i64 100000)), none⟩]
def r7_2 : List POp := [⟨2, .asg .nil, none⟩,
  ⟨3, .asg (.c (.int .i64 0)), none⟩,
  ⟨4, .asg (.c (.int .i64 0)), none⟩,
  ⟨5, .asg (.c (.int .i64 2)), none⟩]
def r7_3 : List POp := [⟨20, .mv (.t 0), none⟩,
  ⟨21, .build [.slice none 0 0, .int .i64 0, .bool false] [(0, 1, .t 20)], none⟩,
  ⟨22, .boxs (.t 21), none⟩,
  ⟨6, .asg (.t 22), none⟩]
def r7_4 : List POp := [⟨23, .mv (.t 6), none⟩,
  ⟨24, .callm 17 [.t 23, .c (.int .i64 4)], none⟩,
  ⟨25, .mv (.t 6), none⟩,
  ⟨26, .callm 17 [.t 25, .c (.int .i64 8)], none⟩,
  ⟨27, .mv (.t 6), none⟩,
  ⟨28, .callm 17 [.t 27, .c (.int .i64 8)], none⟩,
  ⟨29, .mv (.t 6), none⟩,
  ⟨30, .callm 17 [.t 29, .c (.int .i64 2)], none⟩,
  ⟨7, .mv (.t 24), none⟩,
  ⟨8, .mv (.t 26), none⟩,
  ⟨9, .mv (.t 28), none⟩,
  ⟨10, .mv (.t 30), none⟩]
def r7_5 : List POp := [⟨31, .mv (.t 8), none⟩,
  ⟨32, .mv (.t 9), none⟩,
  ⟨11, .mv (.t 31), none⟩,
  ⟨12, .mv (.t 32), none⟩]
def r7_6 : List POp := [⟨13, .asg .nil, none⟩]
def r7_7 : List POp := [⟨14, .asg (.c (.int .i64 0)), none⟩]
def r7_8 : List POp := [⟨33, .mv (.t 14), none⟩,
  ⟨34, .mv (.t 10), none⟩,
  ⟨35, .bin .lss (.t 33) (.t 34), none⟩,
  ⟨36, .mv (.t 35), none⟩,
  ⟨37, .mv (.t 6), some (36, true)⟩,
  ⟨38, .nilck (.t 37), some (36, true)⟩,
  ⟨39, .fld 2 (.t 38), some (36, true)⟩,
  ⟨40, .load (.t 39), some (36, true)⟩,
  ⟨41, .un .not (.t 40), some (36, true)⟩,
  ⟨42, .pick (.t 36) (.t 41) (.c (.bool false)), none⟩]
def r7_10 : List POp := [⟨45, .mv (.t 8), none⟩,
  ⟨46, .mv (.t 12), none⟩,
  ⟨47, .mv (.t 6), none⟩,
  ⟨48, .callm 17 [.t 47, .c (.int .i64 4)], none⟩,
  ⟨49, .mv (.t 6), none⟩,
  ⟨50, .callm 17 [.t 49, .c (.int .i64 4)], none⟩,
  ⟨51, .build [.int .i64 0, .int .i64 0, .int .i64 0, .int .i64 0, .int .i64 0, .int .i64 0, .int .i64 0] [(0, 1, .t 45), (3, 1, .t 46), (5, 1, .t 48), (4, 1, .t 50)], none⟩,
  ⟨15, .alloc [.int .i64 0, .int .i64 0, .int .i64 0, .int .i64 0, .int .i64 0, .int .i64 0, .int .i64 0], none⟩,
  ⟨0, .stores 7 (.t 15) (.t 51), none⟩]
def r7_11 : List POp := [⟨52, .mv (.t 8), none⟩,
  ⟨53, .bin .add (.t 52) (.c (.int .i64 1)), none⟩,
  ⟨8, .asg (.t 53), none⟩]
def r7_12 : List POp := [⟨54, .mv (.t 12), none⟩,
  ⟨55, .fld 4 (.t 15), none⟩,
  ⟨56, .load (.t 55), none⟩,
  ⟨57, .bin .add (.t 54) (.t 56), none⟩,
  ⟨12, .asg (.t 57), none⟩]
def r7_13 : List POp := [⟨58, .mv (.t 13), none⟩,
  ⟨59, .loads 7 (.t 15), none⟩,
  ⟨60, .row 32 7 [.t 59], none⟩,
  ⟨61, .app 32 7 56 (.t 58) (.t 60), none⟩,
  ⟨13, .asg (.t 61), none⟩]
def r7_9 : List POp := [⟨43, .mv (.t 14), none⟩,
  ⟨44, .bin .add (.t 43) (.c (.int .i64 1)), none⟩,
  ⟨14, .asg (.t 44), none⟩]
def r7_14 : List POp := [⟨62, .mv (.t 6), none⟩,
  ⟨63, .nilck (.t 62), none⟩,
  ⟨64, .fld 2 (.t 63), none⟩,
  ⟨65, .load (.t 64), none⟩,
  ⟨66, .mv (.t 65), none⟩,
  ⟨67, .mv (.t 6), some (66, false)⟩,
  ⟨68, .nilck (.t 67), some (66, false)⟩,
  ⟨69, .fld 1 (.t 68), some (66, false)⟩,
  ⟨70, .load (.t 69), some (66, false)⟩,
  ⟨71, .mv (.t 0), some (66, false)⟩,
  ⟨72, .len (.t 71), some (66, false)⟩,
  ⟨73, .bin .lss (.t 70) (.t 72), some (66, false)⟩,
  ⟨74, .pick (.t 66) (.c (.bool true)) (.t 73), none⟩]
def r7_15 : List POp := [⟨75, .mv (.t 6), none⟩,
  ⟨76, .nilck (.t 75), none⟩,
  ⟨77, .fld 1 (.t 76), none⟩,
  ⟨78, .load (.t 77), none⟩,
  ⟨2, .mv .nil, none⟩,
  ⟨3, .mv (.c (.int .i64 0)), none⟩,
  ⟨4, .mv (.t 78), none⟩,
  ⟨5, .mv (.c (.int .i64 10)), none⟩]
def r7_16 : List POp := [⟨79, .mv (.t 13), none⟩,
  ⟨80, .mv (.t 7), none⟩,
  ⟨81, .call 11 [.t 79, .t 80], none⟩,
  ⟨16, .asg (.t 81), none⟩]
def r7_17 : List POp := [⟨82, .mv (.t 16), none⟩,
  ⟨83, .bin .neq (.t 82) (.c (.int .i64 0)), none⟩]
def r7_18 : List POp := [⟨84, .mv (.t 16), none⟩,
  ⟨2, .asg .nil, none⟩,
  ⟨3, .mv (.c (.int .i64 0)), none⟩,
  ⟨4, .mv (.c (.int .i64 0)), none⟩,
  ⟨5, .mv (.t 84), none⟩]
def r7_19 : List POp := [⟨85, .mv (.t 10), none⟩,
  ⟨86, .bin .eql (.t 85) (.c (.int .i64 0)), none⟩,
  ⟨87, .mv (.t 86), none⟩,
  ⟨88, .mv (.t 11), some (87, true)⟩,
  ⟨89, .bin .neq (.t 88) (.c (.int .i64 0)), some (87, true)⟩,
  ⟨90, .mv (.t 89), some (87, true)⟩,
  ⟨91, .mv (.t 9), some (90, false)⟩,
  ⟨92, .bin .neq (.t 91) (.c (.int .i64 0)), some (90, false)⟩,
  ⟨93, .pick (.t 90) (.c (.bool true)) (.t 92), some (87, true)⟩,
  ⟨94, .pick (.t 87) (.t 93) (.c (.bool false)), none⟩]
def r7_20 : List POp := [⟨2, .asg .nil, none⟩,
  ⟨3, .asg (.c (.int .i64 0)), none⟩,
  ⟨4, .asg (.c (.int .i64 0)), none⟩,
  ⟨5, .asg (.c (.int .i64 3)), none⟩]
def r7_21 : List POp := [⟨95, .mv (.t 13), none⟩,
  ⟨96, .mv (.t 7), none⟩,
  ⟨2, .asg (.t 95), none⟩,
  ⟨3, .mv (.t 96), none⟩,
  ⟨4, .mv (.c (.int .i64 0)), none⟩,
  ⟨5, .mv (.c (.int .i64 0)), none⟩]
def l7_0 : PCode := .seq (.seq (.ops r7_8) (.cond (.t 42) (.skip) (.exit 0))) (.seq (.block 1 (.seq (.ops r7_10) (.seq (.ops r7_11) (.seq (.ops r7_12) (.ops r7_13))))) (.ops r7_9))
def p7 : PCode := .seq (.ops r7_0) (.seq (.seq (.ops r7_1) (.cond (.t 19) (.seq (.ops r7_2) (.ret)) (.skip))) (.seq (.ops r7_3) (.seq (.ops r7_4) (.seq (.ops r7_5) (.seq (.ops r7_6) (.seq (.seq (.ops r7_7) (.block 0 (.loop l7_0))) (.seq (.seq (.ops r7_14) (.cond (.t 74) (.seq (.ops r7_15) (.ret)) (.skip))) (.seq (.seq (.ops r7_16) (.seq (.ops r7_17) (.cond (.t 83) (.seq (.ops r7_18) (.ret)) (.skip)))) (.seq (.seq (.ops r7_19) (.cond (.t 94) (.seq (.ops r7_20) (.ret)) (.skip))) (.seq (.ops r7_21) (.ret)))))))))))
theorem ok7 : okFunc Tryd.prog 7 [.t 2, .t 3, .t 4, .t 5] 1 p7 = true := by kernel_rfl
set_option maxHeartbeats 2000000 in
theorem read_c (b : List Nat) (hb : ∀ x ∈ b, x < 256) (hbl : b.length ≤ 9223372036854775807) :
    CallOK Tryd.prog 7 [.ro (b.map oneU)] (.tup [.ro ((rdF b).1.map Seg.av), .val (.int .i64 (rdF b).2.1), .val (.int .i64 (rdF b).2.2.1), .val (.int .i64 (rdF b).2.2.2)]) := by
  refine call_of mixed ok7 rfl ?_
  by_cases hl : 100000 < b.length
  · have hli : (100000 : Int) < b.length := by omega
    rw [show rdF b = ([], 0, 0, 2) from by rw [rdF, if_pos hl]]
    repeat' first | ((with_reducible (first | refine condD ?_ ?_ | refine condE ?_ ?_ | refine condN ?_ ?_ | refine condI ?_ ?_ | refine condS ?_ ?_)) <;> intro h) | ((with_reducible (first | refine guardD (by with_unfolding_all rfl) ?_ ?_ | refine guardE (by with_unfolding_all rfl) ?_ ?_ | refine guardN (by with_unfolding_all rfl) ?_ ?_ | refine guardI (by with_unfolding_all rfl) ?_ ?_ | refine guardS (by with_unfolding_all rfl) ?_ ?_)) <;> intro h) | (with_reducible refine And.intro ?_ ?_; omega) | (simp only [done_eq, done_eq', donet_eq, donet_eq', fin_val, fin_tup, fin_agg, fin_ro, res_one, res_more, rv_t, rv_c, rv_l, AV.tup.injEq, AV.agg.injEq, AV.ro.injEq, List.cons.injEq, int_eq, bool_eq, Int.toNat_natCast, Int.reduceToNat, Int.toNat_zero, Int.toNat_one, Int.reduceLE, Int.reduceLT, Int.reduceBEq, Int.reduceBNe, beq_self_eq_true, bne_self_eq_false, decide_true, decide_false,  Int.reduceNeg, toNat_pred, toNat_succ, List.length_map, cnd_t, cnd_f, grd_tt, grd_u, grd_tf, grd_ft, grd_ff, g_skip, g_ops, g_seq, g_block, g_exit, g_ret, x_c, x_o, x_l, x_b, g_b, g_nil, r_all, o_nil, g_cond, o_guard, o_call, o_callm, o_callt, o_callx, o_callv, lk, ef, o_mv, o_pick, o_bin, o_never, o_eqs, o_eqb, o_un, o_conv, o_load, o_loadr, o_idxr, o_loads, o_fld, o_idx, o_idxs, o_len, o_lens, o_ext, o_nilck, o_slc, o_slcs, o_build, o_minmax, o_mkfn, o_alloc, o_box, o_boxs, o_row, o_rowr, o_mk, o_asg, o_app, o_store, o_stores, o_eqnil, hv, eqAV, ev, view_t, view_c, view_nil, view_fn, look_own, look_box, look_junk, look_val, look_nilsl, look_ro, look_roAt, look_agg, look_tup, look_clo, look_alias, look_ref, look_into, rowOf, cellsOf, argv, vbin, vun, bnd, elemOf, putParts, setAt, zav, ASt.rid, ASt.free, AV.kill, AV.isHome, AV.noLoan, AV.cellOK, Value.oneCell', put_at, mk_at, mk_nil, initSt, true_and, and_true, and_self, implies_true, List.map_cons, List.map_nil, List.forall_mem_cons, List.not_mem_nil, false_implies, List.length_cons, List.length_nil, List.getD_cons_zero, List.getD_cons_succ, List.getD_nil, List.drop_succ_cons, List.drop_zero, List.take_succ_cons, List.take_zero, List.set_cons_zero, List.set_cons_succ, List.all_cons, List.all_nil, Bool.and_true, Bool.true_and, Bool.not_true, Bool.not_false, reduceCtorEq, if_true, if_false, Bool.false_eq_true, ↓reduceIte, Nat.reduceEqDiff, Nat.reduceAdd, Nat.reduceSub, Nat.reduceMul, Nat.reduceLeDiff, Nat.reduceLT, ne_eq, not_false_eq_true, not_true_eq_false, Nat.one_ne_zero, Nat.zero_ne_one, r7_0, r7_1, r7_2, r7_3, r7_4, r7_5, r7_6, r7_7, r7_8, r7_10, r7_11, r7_12, r7_13, r7_9, r7_14, r7_15, r7_16, r7_17, r7_18, r7_19, r7_20, r7_21, p7, hli, List.length_map]) | (exfalso; omega)
  have hli : ¬ (100000 : Int) < b.length := by omega
  have nA := num_c b 0 false 4 hb (by omega) (by omega) (by omega)
  have atA : (rdA b).2.1 ≤ b.length := tkN_at (by omega)
  have nB := num_c b (rdA b).2.1 (rdA b).2.2 8 hb (by omega) atA (by omega)
  have atB : (rdB b).2.1 ≤ b.length := tkN_at atA
  have nC := num_c b (rdB b).2.1 (rdB b).2.2 8 hb (by omega) atB (by omega)
  have atC : (rdC b).2.1 ≤ b.length := tkN_at atB
  have nD := num_c b (rdC b).2.1 (rdC b).2.2 2 hb (by omega) atC (by omega)
  have atD : (rdD b).2.1 ≤ b.length := tkN_at atC
  have hD := tkN_two hb (rdC b).2.1 (rdC b).2.2
  have hC := tkN_bd b (rdB b).2.1 8 (rdB b).2.2
  change TurnOK _ _ _ (.box [_, .val (.int .i64 ((rdA b).2.1 : Nat)), .val (.bool (rdA b).2.2)]) _ (.val (.int .i64 (rdA b).1)) at nA
  change TurnOK _ _ _ (.box [_, .val (.int .i64 ((rdB b).2.1 : Nat)), .val (.bool (rdB b).2.2)]) _ (.val (.int .i64 (rdB b).1)) at nB
  change TurnOK _ _ _ (.box [_, .val (.int .i64 ((rdC b).2.1 : Nat)), .val (.bool (rdC b).2.2)]) _ (.val (.int .i64 (rdC b).1)) at nC
  change TurnOK _ _ _ (.box [_, .val (.int .i64 ((rdD b).2.1 : Nat)), .val (.bool (rdD b).2.2)]) _ (.val (.int .i64 (rdD b).1)) at nD
  change 0 ≤ (rdD b).1 ∧ (rdD b).1 ≤ 65535 at hD
  change -9223372036854775808 ≤ (rdC b).1 ∧ (rdC b).1 ≤ 9223372036854775807 at hC
  have hF : rdF b = if (rdL b).2.2 || decide ((rdL b).2.1 < b.length) then (([], 0, ((rdL b).2.1 : Int), 10) : List Seg × Int × Int × Int) else
      if ixF (rdL b).1 (rdA b).1 ≠ 0 then ([], 0, 0, ixF (rdL b).1 (rdA b).1) else
      if (rdD b).1 = 0 ∧ ((rdB b).1 ≠ 0 ∨ (rdC b).1 ≠ 0) then ([], 0, 0, 3) else ((rdL b).1, (rdA b).1, 0, 0) := by rw [rdF, if_neg hl]
  have hLL : rdL b = rdGo b (rdD b).1.toNat (rdB b).1 (rdC b).1 (rdD b).2.1 (rdD b).2.2 [] := rfl
  rw [hF]
  clear hF
  generalize rdL b = L at *
  generalize rdA b = A at *
  generalize rdB b = B at *
  generalize rdC b = C at *
  generalize rdD b = D at *
  obtain ⟨M, hM⟩ : ∃ M : Nat, D.1 = (M : Int) := ⟨D.1.toNat, by omega⟩
  rw [hM] at nD hLL hD ⊢
  rw [Int.toNat_natCast] at hLL
  simp only [Int.natCast_zero] at nA
  obtain ⟨F, hF⟩ : ∃ F : List Seg × Int × Int × Int, F = if L.2.2 || decide (L.2.1 < b.length) then (([], 0, (L.2.1 : Int), 10) : List Seg × Int × Int × Int) else
      if ixF L.1 A.1 ≠ 0 then ([], 0, 0, ixF L.1 A.1) else
      if (M : Int) = 0 ∧ (B.1 ≠ 0 ∨ C.1 ≠ 0) then ([], 0, 0, 3) else (L.1, A.1, 0, 0) := ⟨_, rfl⟩
  rw [← hF]
  repeat' first | ((with_reducible (first | refine condD ?_ ?_ | refine condE ?_ ?_ | refine condN ?_ ?_ | refine condI ?_ ?_ | refine condS ?_ ?_)) <;> intro h) | ((with_reducible (first | refine guardD (by with_unfolding_all rfl) ?_ ?_ | refine guardE (by with_unfolding_all rfl) ?_ ?_ | refine guardN (by with_unfolding_all rfl) ?_ ?_ | refine guardI (by with_unfolding_all rfl) ?_ ?_ | refine guardS (by with_unfolding_all rfl) ?_ ?_)) <;> intro h) | ((refine turnGb (by with_unfolding_all rfl) nA ?_)) | ((refine turnGb (by with_unfolding_all rfl) nB ?_)) | ((refine turnGb (by with_unfolding_all rfl) nC ?_)) | ((refine turnGb (by with_unfolding_all rfl) nD ?_)) | (with_reducible refine And.intro ?_ ?_; omega) | (simp only [done_eq, done_eq', donet_eq, donet_eq', fin_val, fin_tup, fin_agg, fin_ro, res_one, res_more, rv_t, rv_c, rv_l, AV.tup.injEq, AV.agg.injEq, AV.ro.injEq, List.cons.injEq, int_eq, bool_eq, Int.toNat_natCast, Int.reduceToNat, Int.toNat_zero, Int.toNat_one, Int.reduceLE, Int.reduceLT, Int.reduceBEq, Int.reduceBNe, beq_self_eq_true, bne_self_eq_false, decide_true, decide_false,  Int.reduceNeg, toNat_pred, toNat_succ, List.length_map, cnd_t, cnd_f, grd_tt, grd_u, grd_tf, grd_ft, grd_ff, g_skip, g_ops, g_seq, g_block, g_exit, g_ret, x_c, x_o, x_l, x_b, g_b, g_nil, r_all, o_nil, g_cond, o_guard, o_call, o_callm, o_callt, o_callx, o_callv, lk, ef, o_mv, o_pick, o_bin, o_never, o_eqs, o_eqb, o_un, o_conv, o_load, o_loadr, o_idxr, o_loads, o_fld, o_idx, o_idxs, o_len, o_lens, o_ext, o_nilck, o_slc, o_slcs, o_build, o_minmax, o_mkfn, o_alloc, o_box, o_boxs, o_row, o_rowr, o_mk, o_asg, o_app, o_store, o_stores, o_eqnil, hv, eqAV, ev, view_t, view_c, view_nil, view_fn, look_own, look_box, look_junk, look_val, look_nilsl, look_ro, look_roAt, look_agg, look_tup, look_clo, look_alias, look_ref, look_into, rowOf, cellsOf, argv, vbin, vun, bnd, elemOf, putParts, setAt, zav, ASt.rid, ASt.free, AV.kill, AV.isHome, AV.noLoan, AV.cellOK, Value.oneCell', put_at, mk_at, mk_nil, initSt, true_and, and_true, and_self, implies_true, List.map_cons, List.map_nil, List.forall_mem_cons, List.not_mem_nil, false_implies, List.length_cons, List.length_nil, List.getD_cons_zero, List.getD_cons_succ, List.getD_nil, List.drop_succ_cons, List.drop_zero, List.take_succ_cons, List.take_zero, List.set_cons_zero, List.set_cons_succ, List.all_cons, List.all_nil, Bool.and_true, Bool.true_and, Bool.not_true, Bool.not_false, reduceCtorEq, if_true, if_false, Bool.false_eq_true, ↓reduceIte, Nat.reduceEqDiff, Nat.reduceAdd, Nat.reduceSub, Nat.reduceMul, Nat.reduceLeDiff, Nat.reduceLT, ne_eq, not_false_eq_true, not_true_eq_false, Nat.one_ne_zero, Nat.zero_ne_one, r7_0, r7_1, r7_2, r7_3, r7_4, r7_5, r7_6, r7_7, r7_8, r7_10, r7_11, r7_12, r7_13, r7_9, r7_14, r7_15, r7_16, r7_17, r7_18, r7_19, r7_20, r7_21, p7, hli, List.length_map]) | (exfalso; omega)
  refine loopS (fun p : Nat × Int × Int × Nat × Bool × List Seg => mk [(0, .ro (b.map oneU)), (22, .box [.ro (b.map oneU), .val (.int .i64 p.2.2.2.1), .val (.bool p.2.2.2.2.1)]), (6, .ref 22 0), (7, .val (.int .i64 A.1)), (8, .val (.int .i64 p.2.1)), (9, .val (.int .i64 C.1)), (10, .val (.int .i64 M)), (11, .val (.int .i64 B.1)), (12, .val (.int .i64 p.2.2.1)), (13, .own 32 7 (p.2.2.2.2.2.map Seg.av)), (14, .val (.int .i64 p.1))])
    (fun p => p.1 ≤ M ∧ p.2.2.2.1 ≤ b.length ∧ (-9223372036854775808 ≤ p.2.2.1 ∧ p.2.2.1 ≤ 9223372036854775807) ∧ (∀ s ∈ p.2.2.2.2.2, SegI s) ∧ p.2.2.2.2.2.length = p.1 ∧ rdGo b (M - p.1) p.2.1 p.2.2.1 p.2.2.2.1 p.2.2.2.2.1 p.2.2.2.2.2 = L) (fun p => M - p.1) (0, B.1, C.1, D.2.1, D.2.2, []) (weak_mk ?_) ⟨Nat.zero_le _, atD, hC, by simp, rfl, hLL.symm⟩ ?_
  · simp only [wk_cons, wk_nil, wk1, vint_eq, vbool_eq, AV.val.injEq, done_eq, done_eq', donet_eq, donet_eq', fin_val, fin_tup, fin_agg, fin_ro, res_one, res_more, rv_t, rv_c, rv_l, AV.tup.injEq, AV.agg.injEq, AV.ro.injEq, List.cons.injEq, int_eq, bool_eq, Int.toNat_natCast, Int.reduceToNat, Int.toNat_zero, Int.toNat_one, Int.reduceLE, Int.reduceLT, Int.reduceBEq, Int.reduceBNe, beq_self_eq_true, bne_self_eq_false, decide_true, decide_false,  Int.reduceNeg, toNat_pred, toNat_succ, List.length_map, cnd_t, cnd_f, grd_tt, grd_u, grd_tf, grd_ft, grd_ff, g_skip, g_ops, g_seq, g_block, g_exit, g_ret, x_c, x_o, x_l, x_b, g_b, g_nil, r_all, o_nil, g_cond, o_guard, o_call, o_callm, o_callt, o_callx, o_callv, lk, ef, o_mv, o_pick, o_bin, o_never, o_eqs, o_eqb, o_un, o_conv, o_load, o_loadr, o_idxr, o_loads, o_fld, o_idx, o_idxs, o_len, o_lens, o_ext, o_nilck, o_slc, o_slcs, o_build, o_minmax, o_mkfn, o_alloc, o_box, o_boxs, o_row, o_rowr, o_mk, o_asg, o_app, o_store, o_stores, o_eqnil, hv, eqAV, ev, view_t, view_c, view_nil, view_fn, look_own, look_box, look_junk, look_val, look_nilsl, look_ro, look_roAt, look_agg, look_tup, look_clo, look_alias, look_ref, look_into, rowOf, cellsOf, argv, vbin, vun, bnd, elemOf, putParts, setAt, zav, ASt.rid, ASt.free, AV.kill, AV.isHome, AV.noLoan, AV.cellOK, Value.oneCell', put_at, mk_at, mk_nil, initSt, true_and, and_true, and_self, implies_true, List.map_cons, List.map_nil, List.forall_mem_cons, List.not_mem_nil, false_implies, List.length_cons, List.length_nil, List.getD_cons_zero, List.getD_cons_succ, List.getD_nil, List.drop_succ_cons, List.drop_zero, List.take_succ_cons, List.take_zero, List.set_cons_zero, List.set_cons_succ, List.all_cons, List.all_nil, Bool.and_true, Bool.true_and, Bool.not_true, Bool.not_false, reduceCtorEq, if_true, if_false, Bool.false_eq_true, ↓reduceIte, Nat.reduceEqDiff, Nat.reduceAdd, Nat.reduceSub, Nat.reduceMul, Nat.reduceLeDiff, Nat.reduceLT, ne_eq, not_false_eq_true, not_true_eq_false, Nat.one_ne_zero, Nat.zero_ne_one]
    rfl
  rintro J hJ ⟨i, num, beg, at_, bad, out⟩ ⟨hi, hat, hbeg, hseg, hol, hg⟩
  simp only at hi hat hbeg hseg hol hg
  simp only [done_eq, done_eq', donet_eq, donet_eq', fin_val, fin_tup, fin_agg, fin_ro, res_one, res_more, rv_t, rv_c, rv_l, AV.tup.injEq, AV.agg.injEq, AV.ro.injEq, List.cons.injEq, int_eq, bool_eq, Int.toNat_natCast, Int.reduceToNat, Int.toNat_zero, Int.toNat_one, Int.reduceLE, Int.reduceLT, Int.reduceBEq, Int.reduceBNe, beq_self_eq_true, bne_self_eq_false, decide_true, decide_false,  Int.reduceNeg, toNat_pred, toNat_succ, List.length_map, cnd_t, cnd_f, grd_tt, grd_u, grd_tf, grd_ft, grd_ff, g_skip, g_ops, g_seq, g_block, g_exit, g_ret, x_c, x_o, x_l, x_b, g_b, g_nil, r_all, o_nil, g_cond, o_guard, o_call, o_callm, o_callt, o_callx, o_callv, lk, ef, o_mv, o_pick, o_bin, o_never, o_eqs, o_eqb, o_un, o_conv, o_load, o_loadr, o_idxr, o_loads, o_fld, o_idx, o_idxs, o_len, o_lens, o_ext, o_nilck, o_slc, o_slcs, o_build, o_minmax, o_mkfn, o_alloc, o_box, o_boxs, o_row, o_rowr, o_mk, o_asg, o_app, o_store, o_stores, o_eqnil, hv, eqAV, ev, view_t, view_c, view_nil, view_fn, look_own, look_box, look_junk, look_val, look_nilsl, look_ro, look_roAt, look_agg, look_tup, look_clo, look_alias, look_ref, look_into, rowOf, cellsOf, argv, vbin, vun, bnd, elemOf, putParts, setAt, zav, ASt.rid, ASt.free, AV.kill, AV.isHome, AV.noLoan, AV.cellOK, Value.oneCell', put_at, mk_at, mk_nil, initSt, true_and, and_true, and_self, implies_true, List.map_cons, List.map_nil, List.forall_mem_cons, List.not_mem_nil, false_implies, List.length_cons, List.length_nil, List.getD_cons_zero, List.getD_cons_succ, List.getD_nil, List.drop_succ_cons, List.drop_zero, List.take_succ_cons, List.take_zero, List.set_cons_zero, List.set_cons_succ, List.all_cons, List.all_nil, Bool.and_true, Bool.true_and, Bool.not_true, Bool.not_false, reduceCtorEq, if_true, if_false, Bool.false_eq_true, ↓reduceIte, Nat.reduceEqDiff, Nat.reduceAdd, Nat.reduceSub, Nat.reduceMul, Nat.reduceLeDiff, Nat.reduceLT, ne_eq, not_false_eq_true, not_true_eq_false, Nat.one_ne_zero, Nat.zero_ne_one, r7_0, r7_1, r7_2, r7_3, r7_4, r7_5, r7_6, r7_7, r7_8, r7_10, r7_11, r7_12, r7_13, r7_9, r7_14, r7_15, r7_16, r7_17, r7_18, r7_19, r7_20, r7_21, p7, l7_0]
  have tail : ¬ (i < M ∧ bad = false) → L = (out, at_, bad) := fun h => by
    rw [← hg]
    cases bad with
    | true => cases M - i <;> simp [rdGo]
    | false =>
      have : M - i = 0 := by
        have : ¬ i < M := fun q => h ⟨q, rfl⟩
        omega
      rw [this]; rfl
  by_cases hIM : (i : Int) < M
  · cases bad
    case true =>
      rw [tail (by simp)] at hF
      simp only [Bool.true_or, if_true] at hF
      subst hF
      clear hJ
      repeat' first | ((with_reducible (first | refine condD ?_ ?_ | refine condE ?_ ?_ | refine condN ?_ ?_ | refine condI ?_ ?_ | refine condS ?_ ?_)) <;> intro h) | ((with_reducible (first | refine guardD (by with_unfolding_all rfl) ?_ ?_ | refine guardE (by with_unfolding_all rfl) ?_ ?_ | refine guardN (by with_unfolding_all rfl) ?_ ?_ | refine guardI (by with_unfolding_all rfl) ?_ ?_ | refine guardS (by with_unfolding_all rfl) ?_ ?_)) <;> intro h) | (with_reducible refine And.intro ?_ ?_; omega) | (simp only [done_eq, done_eq', donet_eq, donet_eq', fin_val, fin_tup, fin_agg, fin_ro, res_one, res_more, rv_t, rv_c, rv_l, AV.tup.injEq, AV.agg.injEq, AV.ro.injEq, List.cons.injEq, int_eq, bool_eq, Int.toNat_natCast, Int.reduceToNat, Int.toNat_zero, Int.toNat_one, Int.reduceLE, Int.reduceLT, Int.reduceBEq, Int.reduceBNe, beq_self_eq_true, bne_self_eq_false, decide_true, decide_false,  Int.reduceNeg, toNat_pred, toNat_succ, List.length_map, cnd_t, cnd_f, grd_tt, grd_u, grd_tf, grd_ft, grd_ff, g_skip, g_ops, g_seq, g_block, g_exit, g_ret, x_c, x_o, x_l, x_b, g_b, g_nil, r_all, o_nil, g_cond, o_guard, o_call, o_callm, o_callt, o_callx, o_callv, lk, ef, o_mv, o_pick, o_bin, o_never, o_eqs, o_eqb, o_un, o_conv, o_load, o_loadr, o_idxr, o_loads, o_fld, o_idx, o_idxs, o_len, o_lens, o_ext, o_nilck, o_slc, o_slcs, o_build, o_minmax, o_mkfn, o_alloc, o_box, o_boxs, o_row, o_rowr, o_mk, o_asg, o_app, o_store, o_stores, o_eqnil, hv, eqAV, ev, view_t, view_c, view_nil, view_fn, look_own, look_box, look_junk, look_val, look_nilsl, look_ro, look_roAt, look_agg, look_tup, look_clo, look_alias, look_ref, look_into, rowOf, cellsOf, argv, vbin, vun, bnd, elemOf, putParts, setAt, zav, ASt.rid, ASt.free, AV.kill, AV.isHome, AV.noLoan, AV.cellOK, Value.oneCell', put_at, mk_at, mk_nil, initSt, true_and, and_true, and_self, implies_true, List.map_cons, List.map_nil, List.forall_mem_cons, List.not_mem_nil, false_implies, List.length_cons, List.length_nil, List.getD_cons_zero, List.getD_cons_succ, List.getD_nil, List.drop_succ_cons, List.drop_zero, List.take_succ_cons, List.take_zero, List.set_cons_zero, List.set_cons_succ, List.all_cons, List.all_nil, Bool.and_true, Bool.true_and, Bool.not_true, Bool.not_false, reduceCtorEq, if_true, if_false, Bool.false_eq_true, ↓reduceIte, Nat.reduceEqDiff, Nat.reduceAdd, Nat.reduceSub, Nat.reduceMul, Nat.reduceLeDiff, Nat.reduceLT, ne_eq, not_false_eq_true, not_true_eq_false, Nat.one_ne_zero, Nat.zero_ne_one, r7_0, r7_1, r7_2, r7_3, r7_4, r7_5, r7_6, r7_7, r7_8, r7_10, r7_11, r7_12, r7_13, r7_9, r7_14, r7_15, r7_16, r7_17, r7_18, r7_19, r7_20, r7_21, p7, l7_0, hIM]) | (exfalso; omega)
    case false =>
      have n1 := num_c b at_ false 4 hb (by omega) hat (by omega)
      have at1 : (tkN b at_ false 4).2.1 ≤ b.length := tkN_at hat
      have n2 := num_c b (tkN b at_ false 4).2.1 (tkN b at_ false 4).2.2 4 hb (by omega) at1 (by omega)
      have at2 : (tkN b (tkN b at_ false 4).2.1 (tkN b at_ false 4).2.2 4).2.1 ≤ b.length := tkN_at at1
      rw [show M - i = (M - (i + 1)) + 1 by omega, rdGo, if_neg (by simp)] at hg
      generalize tkN b (tkN b at_ false 4).2.1 (tkN b at_ false 4).2.2 4 = T at *
      generalize tkN b at_ false 4 = U at *
      have hw := i_add1 i (by omega)
      have happ : out.map Seg.av ++ [[.val (.int .i64 num), .val (.int .i64 0), .val (.int .i64 0), .val (.int .i64 beg), .val (.int .i64 T.1), .val (.int .i64 U.1), .val (.int .i64 0)]] = (out ++ [(⟨num, 0, 0, beg, T.1, U.1, 0⟩ : Seg)]).map Seg.av := by rw [List.map_append]; rfl
      have hwb : -9223372036854775808 ≤ IntKind.i64.wrap (beg + T.1) ∧ IntKind.i64.wrap (beg + T.1) ≤ 9223372036854775807 := by rw [wrap_i64]; split <;> omega
      repeat' first | ((with_reducible (first | refine condD ?_ ?_ | refine condE ?_ ?_ | refine condN ?_ ?_ | refine condI ?_ ?_ | refine condS ?_ ?_)) <;> intro h) | ((with_reducible (first | refine guardD (by with_unfolding_all rfl) ?_ ?_ | refine guardE (by with_unfolding_all rfl) ?_ ?_ | refine guardN (by with_unfolding_all rfl) ?_ ?_ | refine guardI (by with_unfolding_all rfl) ?_ ?_ | refine guardS (by with_unfolding_all rfl) ?_ ?_)) <;> intro h) | ((refine turnGb (by with_unfolding_all rfl) n1 ?_)) | ((refine turnGb (by with_unfolding_all rfl) n2 ?_)) | (with_reducible refine And.intro ?_ ?_; omega) | (simp only [done_eq, done_eq', donet_eq, donet_eq', fin_val, fin_tup, fin_agg, fin_ro, res_one, res_more, rv_t, rv_c, rv_l, AV.tup.injEq, AV.agg.injEq, AV.ro.injEq, List.cons.injEq, int_eq, bool_eq, Int.toNat_natCast, Int.reduceToNat, Int.toNat_zero, Int.toNat_one, Int.reduceLE, Int.reduceLT, Int.reduceBEq, Int.reduceBNe, beq_self_eq_true, bne_self_eq_false, decide_true, decide_false,  Int.reduceNeg, toNat_pred, toNat_succ, List.length_map, cnd_t, cnd_f, grd_tt, grd_u, grd_tf, grd_ft, grd_ff, g_skip, g_ops, g_seq, g_block, g_exit, g_ret, x_c, x_o, x_l, x_b, g_b, g_nil, r_all, o_nil, g_cond, o_guard, o_call, o_callm, o_callt, o_callx, o_callv, lk, ef, o_mv, o_pick, o_bin, o_never, o_eqs, o_eqb, o_un, o_conv, o_load, o_loadr, o_idxr, o_loads, o_fld, o_idx, o_idxs, o_len, o_lens, o_ext, o_nilck, o_slc, o_slcs, o_build, o_minmax, o_mkfn, o_alloc, o_box, o_boxs, o_row, o_rowr, o_mk, o_asg, o_app, o_store, o_stores, o_eqnil, hv, eqAV, ev, view_t, view_c, view_nil, view_fn, look_own, look_box, look_junk, look_val, look_nilsl, look_ro, look_roAt, look_agg, look_tup, look_clo, look_alias, look_ref, look_into, rowOf, cellsOf, argv, vbin, vun, bnd, elemOf, putParts, setAt, zav, ASt.rid, ASt.free, AV.kill, AV.isHome, AV.noLoan, AV.cellOK, Value.oneCell', put_at, mk_at, mk_nil, initSt, true_and, and_true, and_self, implies_true, List.map_cons, List.map_nil, List.forall_mem_cons, List.not_mem_nil, false_implies, List.length_cons, List.length_nil, List.getD_cons_zero, List.getD_cons_succ, List.getD_nil, List.drop_succ_cons, List.drop_zero, List.take_succ_cons, List.take_zero, List.set_cons_zero, List.set_cons_succ, List.all_cons, List.all_nil, Bool.and_true, Bool.true_and, Bool.not_true, Bool.not_false, reduceCtorEq, if_true, if_false, Bool.false_eq_true, ↓reduceIte, Nat.reduceEqDiff, Nat.reduceAdd, Nat.reduceSub, Nat.reduceMul, Nat.reduceLeDiff, Nat.reduceLT, ne_eq, not_false_eq_true, not_true_eq_false, Nat.one_ne_zero, Nat.zero_ne_one, r7_0, r7_1, r7_2, r7_3, r7_4, r7_5, r7_6, r7_7, r7_8, r7_10, r7_11, r7_12, r7_13, r7_9, r7_14, r7_15, r7_16, r7_17, r7_18, r7_19, r7_20, r7_21, p7, l7_0, hIM, happ, hw, List.length_map]) | (exfalso; omega)
      all_goals exact again hJ (i + 1, IntKind.i64.wrap (num + 1), IntKind.i64.wrap (beg + T.1), T.2.1, T.2.2, out ++ [⟨num, 0, 0, beg, T.1, U.1, 0⟩]) (weak_mk (by simp only [wk_cons, wk_nil, wk1, vint_eq, vbool_eq, AV.val.injEq, done_eq, done_eq', donet_eq, donet_eq', fin_val, fin_tup, fin_agg, fin_ro, res_one, res_more, rv_t, rv_c, rv_l, AV.tup.injEq, AV.agg.injEq, AV.ro.injEq, List.cons.injEq, int_eq, bool_eq, Int.toNat_natCast, Int.reduceToNat, Int.toNat_zero, Int.toNat_one, Int.reduceLE, Int.reduceLT, Int.reduceBEq, Int.reduceBNe, beq_self_eq_true, bne_self_eq_false, decide_true, decide_false,  Int.reduceNeg, toNat_pred, toNat_succ, List.length_map, cnd_t, cnd_f, grd_tt, grd_u, grd_tf, grd_ft, grd_ff, g_skip, g_ops, g_seq, g_block, g_exit, g_ret, x_c, x_o, x_l, x_b, g_b, g_nil, r_all, o_nil, g_cond, o_guard, o_call, o_callm, o_callt, o_callx, o_callv, lk, ef, o_mv, o_pick, o_bin, o_never, o_eqs, o_eqb, o_un, o_conv, o_load, o_loadr, o_idxr, o_loads, o_fld, o_idx, o_idxs, o_len, o_lens, o_ext, o_nilck, o_slc, o_slcs, o_build, o_minmax, o_mkfn, o_alloc, o_box, o_boxs, o_row, o_rowr, o_mk, o_asg, o_app, o_store, o_stores, o_eqnil, hv, eqAV, ev, view_t, view_c, view_nil, view_fn, look_own, look_box, look_junk, look_val, look_nilsl, look_ro, look_roAt, look_agg, look_tup, look_clo, look_alias, look_ref, look_into, rowOf, cellsOf, argv, vbin, vun, bnd, elemOf, putParts, setAt, zav, ASt.rid, ASt.free, AV.kill, AV.isHome, AV.noLoan, AV.cellOK, Value.oneCell', put_at, mk_at, mk_nil, initSt, true_and, and_true, and_self, implies_true, List.map_cons, List.map_nil, List.forall_mem_cons, List.not_mem_nil, false_implies, List.length_cons, List.length_nil, List.getD_cons_zero, List.getD_cons_succ, List.getD_nil, List.drop_succ_cons, List.drop_zero, List.take_succ_cons, List.take_zero, List.set_cons_zero, List.set_cons_succ, List.all_cons, List.all_nil, Bool.and_true, Bool.true_and, Bool.not_true, Bool.not_false, reduceCtorEq, if_true, if_false, Bool.false_eq_true, ↓reduceIte, Nat.reduceEqDiff, Nat.reduceAdd, Nat.reduceSub, Nat.reduceMul, Nat.reduceLeDiff, Nat.reduceLT, ne_eq, not_false_eq_true, not_true_eq_false, Nat.one_ne_zero, Nat.zero_ne_one])) ⟨by simp only; omega, at2, hwb, by
        intro s hs
        rcases List.mem_append.1 hs with hs | hs
        · exact hseg s hs
        · rw [List.mem_singleton.1 hs]
          exact ⟨hbeg, by simp⟩, by simp only [List.length_append, List.length_cons, List.length_nil]; omega, hg⟩ (by simp only; omega)
  · cases bad
    case true =>
      rw [tail (by simp)] at hF
      simp only [Bool.true_or, if_true] at hF
      subst hF
      clear hJ
      repeat' first | ((with_reducible (first | refine condD ?_ ?_ | refine condE ?_ ?_ | refine condN ?_ ?_ | refine condI ?_ ?_ | refine condS ?_ ?_)) <;> intro h) | ((with_reducible (first | refine guardD (by with_unfolding_all rfl) ?_ ?_ | refine guardE (by with_unfolding_all rfl) ?_ ?_ | refine guardN (by with_unfolding_all rfl) ?_ ?_ | refine guardI (by with_unfolding_all rfl) ?_ ?_ | refine guardS (by with_unfolding_all rfl) ?_ ?_)) <;> intro h) | (with_reducible refine And.intro ?_ ?_; omega) | (simp only [done_eq, done_eq', donet_eq, donet_eq', fin_val, fin_tup, fin_agg, fin_ro, res_one, res_more, rv_t, rv_c, rv_l, AV.tup.injEq, AV.agg.injEq, AV.ro.injEq, List.cons.injEq, int_eq, bool_eq, Int.toNat_natCast, Int.reduceToNat, Int.toNat_zero, Int.toNat_one, Int.reduceLE, Int.reduceLT, Int.reduceBEq, Int.reduceBNe, beq_self_eq_true, bne_self_eq_false, decide_true, decide_false,  Int.reduceNeg, toNat_pred, toNat_succ, List.length_map, cnd_t, cnd_f, grd_tt, grd_u, grd_tf, grd_ft, grd_ff, g_skip, g_ops, g_seq, g_block, g_exit, g_ret, x_c, x_o, x_l, x_b, g_b, g_nil, r_all, o_nil, g_cond, o_guard, o_call, o_callm, o_callt, o_callx, o_callv, lk, ef, o_mv, o_pick, o_bin, o_never, o_eqs, o_eqb, o_un, o_conv, o_load, o_loadr, o_idxr, o_loads, o_fld, o_idx, o_idxs, o_len, o_lens, o_ext, o_nilck, o_slc, o_slcs, o_build, o_minmax, o_mkfn, o_alloc, o_box, o_boxs, o_row, o_rowr, o_mk, o_asg, o_app, o_store, o_stores, o_eqnil, hv, eqAV, ev, view_t, view_c, view_nil, view_fn, look_own, look_box, look_junk, look_val, look_nilsl, look_ro, look_roAt, look_agg, look_tup, look_clo, look_alias, look_ref, look_into, rowOf, cellsOf, argv, vbin, vun, bnd, elemOf, putParts, setAt, zav, ASt.rid, ASt.free, AV.kill, AV.isHome, AV.noLoan, AV.cellOK, Value.oneCell', put_at, mk_at, mk_nil, initSt, true_and, and_true, and_self, implies_true, List.map_cons, List.map_nil, List.forall_mem_cons, List.not_mem_nil, false_implies, List.length_cons, List.length_nil, List.getD_cons_zero, List.getD_cons_succ, List.getD_nil, List.drop_succ_cons, List.drop_zero, List.take_succ_cons, List.take_zero, List.set_cons_zero, List.set_cons_succ, List.all_cons, List.all_nil, Bool.and_true, Bool.true_and, Bool.not_true, Bool.not_false, reduceCtorEq, if_true, if_false, Bool.false_eq_true, ↓reduceIte, Nat.reduceEqDiff, Nat.reduceAdd, Nat.reduceSub, Nat.reduceMul, Nat.reduceLeDiff, Nat.reduceLT, ne_eq, not_false_eq_true, not_true_eq_false, Nat.one_ne_zero, Nat.zero_ne_one, r7_0, r7_1, r7_2, r7_3, r7_4, r7_5, r7_6, r7_7, r7_8, r7_10, r7_11, r7_12, r7_13, r7_9, r7_14, r7_15, r7_16, r7_17, r7_18, r7_19, r7_20, r7_21, p7, l7_0, hIM]) | (exfalso; omega)
    case false =>
      rw [tail (by omega)] at hF
      clear hJ tail hg
      simp only [Bool.false_or, decide_eq_true_eq] at hF
      by_cases h1 : at_ < b.length
      · have h1i : (at_ : Int) < b.length := by omega
        rw [if_pos h1] at hF
        subst hF
        repeat' first | ((with_reducible (first | refine condD ?_ ?_ | refine condE ?_ ?_ | refine condN ?_ ?_ | refine condI ?_ ?_ | refine condS ?_ ?_)) <;> intro h) | ((with_reducible (first | refine guardD (by with_unfolding_all rfl) ?_ ?_ | refine guardE (by with_unfolding_all rfl) ?_ ?_ | refine guardN (by with_unfolding_all rfl) ?_ ?_ | refine guardI (by with_unfolding_all rfl) ?_ ?_ | refine guardS (by with_unfolding_all rfl) ?_ ?_)) <;> intro h) | (with_reducible refine And.intro ?_ ?_; omega) | (simp only [done_eq, done_eq', donet_eq, donet_eq', fin_val, fin_tup, fin_agg, fin_ro, res_one, res_more, rv_t, rv_c, rv_l, AV.tup.injEq, AV.agg.injEq, AV.ro.injEq, List.cons.injEq, int_eq, bool_eq, Int.toNat_natCast, Int.reduceToNat, Int.toNat_zero, Int.toNat_one, Int.reduceLE, Int.reduceLT, Int.reduceBEq, Int.reduceBNe, beq_self_eq_true, bne_self_eq_false, decide_true, decide_false,  Int.reduceNeg, toNat_pred, toNat_succ, List.length_map, cnd_t, cnd_f, grd_tt, grd_u, grd_tf, grd_ft, grd_ff, g_skip, g_ops, g_seq, g_block, g_exit, g_ret, x_c, x_o, x_l, x_b, g_b, g_nil, r_all, o_nil, g_cond, o_guard, o_call, o_callm, o_callt, o_callx, o_callv, lk, ef, o_mv, o_pick, o_bin, o_never, o_eqs, o_eqb, o_un, o_conv, o_load, o_loadr, o_idxr, o_loads, o_fld, o_idx, o_idxs, o_len, o_lens, o_ext, o_nilck, o_slc, o_slcs, o_build, o_minmax, o_mkfn, o_alloc, o_box, o_boxs, o_row, o_rowr, o_mk, o_asg, o_app, o_store, o_stores, o_eqnil, hv, eqAV, ev, view_t, view_c, view_nil, view_fn, look_own, look_box, look_junk, look_val, look_nilsl, look_ro, look_roAt, look_agg, look_tup, look_clo, look_alias, look_ref, look_into, rowOf, cellsOf, argv, vbin, vun, bnd, elemOf, putParts, setAt, zav, ASt.rid, ASt.free, AV.kill, AV.isHome, AV.noLoan, AV.cellOK, Value.oneCell', put_at, mk_at, mk_nil, initSt, true_and, and_true, and_self, implies_true, List.map_cons, List.map_nil, List.forall_mem_cons, List.not_mem_nil, false_implies, List.length_cons, List.length_nil, List.getD_cons_zero, List.getD_cons_succ, List.getD_nil, List.drop_succ_cons, List.drop_zero, List.take_succ_cons, List.take_zero, List.set_cons_zero, List.set_cons_succ, List.all_cons, List.all_nil, Bool.and_true, Bool.true_and, Bool.not_true, Bool.not_false, reduceCtorEq, if_true, if_false, Bool.false_eq_true, ↓reduceIte, Nat.reduceEqDiff, Nat.reduceAdd, Nat.reduceSub, Nat.reduceMul, Nat.reduceLeDiff, Nat.reduceLT, ne_eq, not_false_eq_true, not_true_eq_false, Nat.one_ne_zero, Nat.zero_ne_one, r7_0, r7_1, r7_2, r7_3, r7_4, r7_5, r7_6, r7_7, r7_8, r7_10, r7_11, r7_12, r7_13, r7_9, r7_14, r7_15, r7_16, r7_17, r7_18, r7_19, r7_20, r7_21, p7, l7_0, hIM, h1i, List.length_map]) | (exfalso; omega)
      have h1i : ¬ (at_ : Int) < b.length := by omega
      rw [if_neg h1] at hF
      have hx := ix_c out A.1 (by omega) hseg
      by_cases h2 : ixF out A.1 = 0
      case neg =>
        rw [if_pos h2] at hF
        subst hF
        repeat' first | ((with_reducible (first | refine condD ?_ ?_ | refine condE ?_ ?_ | refine condN ?_ ?_ | refine condI ?_ ?_ | refine condS ?_ ?_)) <;> intro h) | ((with_reducible (first | refine guardD (by with_unfolding_all rfl) ?_ ?_ | refine guardE (by with_unfolding_all rfl) ?_ ?_ | refine guardN (by with_unfolding_all rfl) ?_ ?_ | refine guardI (by with_unfolding_all rfl) ?_ ?_ | refine guardS (by with_unfolding_all rfl) ?_ ?_)) <;> intro h) | ((refine callG_flat hx (.val _) ?_)) | (with_reducible refine And.intro ?_ ?_; omega) | (simp only [done_eq, done_eq', donet_eq, donet_eq', fin_val, fin_tup, fin_agg, fin_ro, res_one, res_more, rv_t, rv_c, rv_l, AV.tup.injEq, AV.agg.injEq, AV.ro.injEq, List.cons.injEq, int_eq, bool_eq, Int.toNat_natCast, Int.reduceToNat, Int.toNat_zero, Int.toNat_one, Int.reduceLE, Int.reduceLT, Int.reduceBEq, Int.reduceBNe, beq_self_eq_true, bne_self_eq_false, decide_true, decide_false,  Int.reduceNeg, toNat_pred, toNat_succ, List.length_map, cnd_t, cnd_f, grd_tt, grd_u, grd_tf, grd_ft, grd_ff, g_skip, g_ops, g_seq, g_block, g_exit, g_ret, x_c, x_o, x_l, x_b, g_b, g_nil, r_all, o_nil, g_cond, o_guard, o_call, o_callm, o_callt, o_callx, o_callv, lk, ef, o_mv, o_pick, o_bin, o_never, o_eqs, o_eqb, o_un, o_conv, o_load, o_loadr, o_idxr, o_loads, o_fld, o_idx, o_idxs, o_len, o_lens, o_ext, o_nilck, o_slc, o_slcs, o_build, o_minmax, o_mkfn, o_alloc, o_box, o_boxs, o_row, o_rowr, o_mk, o_asg, o_app, o_store, o_stores, o_eqnil, hv, eqAV, ev, view_t, view_c, view_nil, view_fn, look_own, look_box, look_junk, look_val, look_nilsl, look_ro, look_roAt, look_agg, look_tup, look_clo, look_alias, look_ref, look_into, rowOf, cellsOf, argv, vbin, vun, bnd, elemOf, putParts, setAt, zav, ASt.rid, ASt.free, AV.kill, AV.isHome, AV.noLoan, AV.cellOK, Value.oneCell', put_at, mk_at, mk_nil, initSt, true_and, and_true, and_self, implies_true, List.map_cons, List.map_nil, List.forall_mem_cons, List.not_mem_nil, false_implies, List.length_cons, List.length_nil, List.getD_cons_zero, List.getD_cons_succ, List.getD_nil, List.drop_succ_cons, List.drop_zero, List.take_succ_cons, List.take_zero, List.set_cons_zero, List.set_cons_succ, List.all_cons, List.all_nil, Bool.and_true, Bool.true_and, Bool.not_true, Bool.not_false, reduceCtorEq, if_true, if_false, Bool.false_eq_true, ↓reduceIte, Nat.reduceEqDiff, Nat.reduceAdd, Nat.reduceSub, Nat.reduceMul, Nat.reduceLeDiff, Nat.reduceLT, ne_eq, not_false_eq_true, not_true_eq_false, Nat.one_ne_zero, Nat.zero_ne_one, r7_0, r7_1, r7_2, r7_3, r7_4, r7_5, r7_6, r7_7, r7_8, r7_10, r7_11, r7_12, r7_13, r7_9, r7_14, r7_15, r7_16, r7_17, r7_18, r7_19, r7_20, r7_21, p7, l7_0, hIM, h1i, List.length_map, bne0_t h2]) | (exfalso; omega)
      rw [if_neg (by simp [h2])] at hF
      rw [h2] at hx
      by_cases h3 : (M : Int) = 0
      case neg =>
        rw [if_neg (fun q => h3 q.1)] at hF
        subst hF
        repeat' first | ((with_reducible (first | refine condD ?_ ?_ | refine condE ?_ ?_ | refine condN ?_ ?_ | refine condI ?_ ?_ | refine condS ?_ ?_)) <;> intro h) | ((with_reducible (first | refine guardD (by with_unfolding_all rfl) ?_ ?_ | refine guardE (by with_unfolding_all rfl) ?_ ?_ | refine guardN (by with_unfolding_all rfl) ?_ ?_ | refine guardI (by with_unfolding_all rfl) ?_ ?_ | refine guardS (by with_unfolding_all rfl) ?_ ?_)) <;> intro h) | ((refine callG_flat hx (.val _) ?_)) | (with_reducible refine And.intro ?_ ?_; omega) | (simp only [done_eq, done_eq', donet_eq, donet_eq', fin_val, fin_tup, fin_agg, fin_ro, res_one, res_more, rv_t, rv_c, rv_l, AV.tup.injEq, AV.agg.injEq, AV.ro.injEq, List.cons.injEq, int_eq, bool_eq, Int.toNat_natCast, Int.reduceToNat, Int.toNat_zero, Int.toNat_one, Int.reduceLE, Int.reduceLT, Int.reduceBEq, Int.reduceBNe, beq_self_eq_true, bne_self_eq_false, decide_true, decide_false,  Int.reduceNeg, toNat_pred, toNat_succ, List.length_map, cnd_t, cnd_f, grd_tt, grd_u, grd_tf, grd_ft, grd_ff, g_skip, g_ops, g_seq, g_block, g_exit, g_ret, x_c, x_o, x_l, x_b, g_b, g_nil, r_all, o_nil, g_cond, o_guard, o_call, o_callm, o_callt, o_callx, o_callv, lk, ef, o_mv, o_pick, o_bin, o_never, o_eqs, o_eqb, o_un, o_conv, o_load, o_loadr, o_idxr, o_loads, o_fld, o_idx, o_idxs, o_len, o_lens, o_ext, o_nilck, o_slc, o_slcs, o_build, o_minmax, o_mkfn, o_alloc, o_box, o_boxs, o_row, o_rowr, o_mk, o_asg, o_app, o_store, o_stores, o_eqnil, hv, eqAV, ev, view_t, view_c, view_nil, view_fn, look_own, look_box, look_junk, look_val, look_nilsl, look_ro, look_roAt, look_agg, look_tup, look_clo, look_alias, look_ref, look_into, rowOf, cellsOf, argv, vbin, vun, bnd, elemOf, putParts, setAt, zav, ASt.rid, ASt.free, AV.kill, AV.isHome, AV.noLoan, AV.cellOK, Value.oneCell', put_at, mk_at, mk_nil, initSt, true_and, and_true, and_self, implies_true, List.map_cons, List.map_nil, List.forall_mem_cons, List.not_mem_nil, false_implies, List.length_cons, List.length_nil, List.getD_cons_zero, List.getD_cons_succ, List.getD_nil, List.drop_succ_cons, List.drop_zero, List.take_succ_cons, List.take_zero, List.set_cons_zero, List.set_cons_succ, List.all_cons, List.all_nil, Bool.and_true, Bool.true_and, Bool.not_true, Bool.not_false, reduceCtorEq, if_true, if_false, Bool.false_eq_true, ↓reduceIte, Nat.reduceEqDiff, Nat.reduceAdd, Nat.reduceSub, Nat.reduceMul, Nat.reduceLeDiff, Nat.reduceLT, ne_eq, not_false_eq_true, not_true_eq_false, Nat.one_ne_zero, Nat.zero_ne_one, r7_0, r7_1, r7_2, r7_3, r7_4, r7_5, r7_6, r7_7, r7_8, r7_10, r7_11, r7_12, r7_13, r7_9, r7_14, r7_15, r7_16, r7_17, r7_18, r7_19, r7_20, r7_21, p7, l7_0, hIM, h1i, List.length_map, beq0_f h3]) | (exfalso; omega)
      have h3t : ((M : Int) == 0) = true := by simp [h3]
      by_cases h4 : B.1 = 0
      case neg =>
        rw [if_pos ⟨h3, .inl h4⟩] at hF
        subst hF
        repeat' first | ((with_reducible (first | refine condD ?_ ?_ | refine condE ?_ ?_ | refine condN ?_ ?_ | refine condI ?_ ?_ | refine condS ?_ ?_)) <;> intro h) | ((with_reducible (first | refine guardD (by with_unfolding_all rfl) ?_ ?_ | refine guardE (by with_unfolding_all rfl) ?_ ?_ | refine guardN (by with_unfolding_all rfl) ?_ ?_ | refine guardI (by with_unfolding_all rfl) ?_ ?_ | refine guardS (by with_unfolding_all rfl) ?_ ?_)) <;> intro h) | ((refine callG_flat hx (.val _) ?_)) | (with_reducible refine And.intro ?_ ?_; omega) | (simp only [done_eq, done_eq', donet_eq, donet_eq', fin_val, fin_tup, fin_agg, fin_ro, res_one, res_more, rv_t, rv_c, rv_l, AV.tup.injEq, AV.agg.injEq, AV.ro.injEq, List.cons.injEq, int_eq, bool_eq, Int.toNat_natCast, Int.reduceToNat, Int.toNat_zero, Int.toNat_one, Int.reduceLE, Int.reduceLT, Int.reduceBEq, Int.reduceBNe, beq_self_eq_true, bne_self_eq_false, decide_true, decide_false,  Int.reduceNeg, toNat_pred, toNat_succ, List.length_map, cnd_t, cnd_f, grd_tt, grd_u, grd_tf, grd_ft, grd_ff, g_skip, g_ops, g_seq, g_block, g_exit, g_ret, x_c, x_o, x_l, x_b, g_b, g_nil, r_all, o_nil, g_cond, o_guard, o_call, o_callm, o_callt, o_callx, o_callv, lk, ef, o_mv, o_pick, o_bin, o_never, o_eqs, o_eqb, o_un, o_conv, o_load, o_loadr, o_idxr, o_loads, o_fld, o_idx, o_idxs, o_len, o_lens, o_ext, o_nilck, o_slc, o_slcs, o_build, o_minmax, o_mkfn, o_alloc, o_box, o_boxs, o_row, o_rowr, o_mk, o_asg, o_app, o_store, o_stores, o_eqnil, hv, eqAV, ev, view_t, view_c, view_nil, view_fn, look_own, look_box, look_junk, look_val, look_nilsl, look_ro, look_roAt, look_agg, look_tup, look_clo, look_alias, look_ref, look_into, rowOf, cellsOf, argv, vbin, vun, bnd, elemOf, putParts, setAt, zav, ASt.rid, ASt.free, AV.kill, AV.isHome, AV.noLoan, AV.cellOK, Value.oneCell', put_at, mk_at, mk_nil, initSt, true_and, and_true, and_self, implies_true, List.map_cons, List.map_nil, List.forall_mem_cons, List.not_mem_nil, false_implies, List.length_cons, List.length_nil, List.getD_cons_zero, List.getD_cons_succ, List.getD_nil, List.drop_succ_cons, List.drop_zero, List.take_succ_cons, List.take_zero, List.set_cons_zero, List.set_cons_succ, List.all_cons, List.all_nil, Bool.and_true, Bool.true_and, Bool.not_true, Bool.not_false, reduceCtorEq, if_true, if_false, Bool.false_eq_true, ↓reduceIte, Nat.reduceEqDiff, Nat.reduceAdd, Nat.reduceSub, Nat.reduceMul, Nat.reduceLeDiff, Nat.reduceLT, ne_eq, not_false_eq_true, not_true_eq_false, Nat.one_ne_zero, Nat.zero_ne_one, r7_0, r7_1, r7_2, r7_3, r7_4, r7_5, r7_6, r7_7, r7_8, r7_10, r7_11, r7_12, r7_13, r7_9, r7_14, r7_15, r7_16, r7_17, r7_18, r7_19, r7_20, r7_21, p7, l7_0, hIM, h1i, List.length_map, h3t, bne0_t h4]) | (exfalso; omega)
      by_cases h5 : C.1 = 0
      case neg =>
        rw [if_pos ⟨h3, .inr h5⟩] at hF
        subst hF
        repeat' first | ((with_reducible (first | refine condD ?_ ?_ | refine condE ?_ ?_ | refine condN ?_ ?_ | refine condI ?_ ?_ | refine condS ?_ ?_)) <;> intro h) | ((with_reducible (first | refine guardD (by with_unfolding_all rfl) ?_ ?_ | refine guardE (by with_unfolding_all rfl) ?_ ?_ | refine guardN (by with_unfolding_all rfl) ?_ ?_ | refine guardI (by with_unfolding_all rfl) ?_ ?_ | refine guardS (by with_unfolding_all rfl) ?_ ?_)) <;> intro h) | ((refine callG_flat hx (.val _) ?_)) | (with_reducible refine And.intro ?_ ?_; omega) | (simp only [done_eq, done_eq', donet_eq, donet_eq', fin_val, fin_tup, fin_agg, fin_ro, res_one, res_more, rv_t, rv_c, rv_l, AV.tup.injEq, AV.agg.injEq, AV.ro.injEq, List.cons.injEq, int_eq, bool_eq, Int.toNat_natCast, Int.reduceToNat, Int.toNat_zero, Int.toNat_one, Int.reduceLE, Int.reduceLT, Int.reduceBEq, Int.reduceBNe, beq_self_eq_true, bne_self_eq_false, decide_true, decide_false,  Int.reduceNeg, toNat_pred, toNat_succ, List.length_map, cnd_t, cnd_f, grd_tt, grd_u, grd_tf, grd_ft, grd_ff, g_skip, g_ops, g_seq, g_block, g_exit, g_ret, x_c, x_o, x_l, x_b, g_b, g_nil, r_all, o_nil, g_cond, o_guard, o_call, o_callm, o_callt, o_callx, o_callv, lk, ef, o_mv, o_pick, o_bin, o_never, o_eqs, o_eqb, o_un, o_conv, o_load, o_loadr, o_idxr, o_loads, o_fld, o_idx, o_idxs, o_len, o_lens, o_ext, o_nilck, o_slc, o_slcs, o_build, o_minmax, o_mkfn, o_alloc, o_box, o_boxs, o_row, o_rowr, o_mk, o_asg, o_app, o_store, o_stores, o_eqnil, hv, eqAV, ev, view_t, view_c, view_nil, view_fn, look_own, look_box, look_junk, look_val, look_nilsl, look_ro, look_roAt, look_agg, look_tup, look_clo, look_alias, look_ref, look_into, rowOf, cellsOf, argv, vbin, vun, bnd, elemOf, putParts, setAt, zav, ASt.rid, ASt.free, AV.kill, AV.isHome, AV.noLoan, AV.cellOK, Value.oneCell', put_at, mk_at, mk_nil, initSt, true_and, and_true, and_self, implies_true, List.map_cons, List.map_nil, List.forall_mem_cons, List.not_mem_nil, false_implies, List.length_cons, List.length_nil, List.getD_cons_zero, List.getD_cons_succ, List.getD_nil, List.drop_succ_cons, List.drop_zero, List.take_succ_cons, List.take_zero, List.set_cons_zero, List.set_cons_succ, List.all_cons, List.all_nil, Bool.and_true, Bool.true_and, Bool.not_true, Bool.not_false, reduceCtorEq, if_true, if_false, Bool.false_eq_true, ↓reduceIte, Nat.reduceEqDiff, Nat.reduceAdd, Nat.reduceSub, Nat.reduceMul, Nat.reduceLeDiff, Nat.reduceLT, ne_eq, not_false_eq_true, not_true_eq_false, Nat.one_ne_zero, Nat.zero_ne_one, r7_0, r7_1, r7_2, r7_3, r7_4, r7_5, r7_6, r7_7, r7_8, r7_10, r7_11, r7_12, r7_13, r7_9, r7_14, r7_15, r7_16, r7_17, r7_18, r7_19, r7_20, r7_21, p7, l7_0, hIM, h1i, List.length_map, h3t, h4, bne0_t h5]) | (exfalso; omega)
      rw [if_neg (fun q => q.2.elim (fun q => q h4) (fun q => q h5))] at hF
      subst hF
      repeat' first | ((with_reducible (first | refine condD ?_ ?_ | refine condE ?_ ?_ | refine condN ?_ ?_ | refine condI ?_ ?_ | refine condS ?_ ?_)) <;> intro h) | ((with_reducible (first | refine guardD (by with_unfolding_all rfl) ?_ ?_ | refine guardE (by with_unfolding_all rfl) ?_ ?_ | refine guardN (by with_unfolding_all rfl) ?_ ?_ | refine guardI (by with_unfolding_all rfl) ?_ ?_ | refine guardS (by with_unfolding_all rfl) ?_ ?_)) <;> intro h) | ((refine callG_flat hx (.val _) ?_)) | (with_reducible refine And.intro ?_ ?_; omega) | (simp only [done_eq, done_eq', donet_eq, donet_eq', fin_val, fin_tup, fin_agg, fin_ro, res_one, res_more, rv_t, rv_c, rv_l, AV.tup.injEq, AV.agg.injEq, AV.ro.injEq, List.cons.injEq, int_eq, bool_eq, Int.toNat_natCast, Int.reduceToNat, Int.toNat_zero, Int.toNat_one, Int.reduceLE, Int.reduceLT, Int.reduceBEq, Int.reduceBNe, beq_self_eq_true, bne_self_eq_false, decide_true, decide_false,  Int.reduceNeg, toNat_pred, toNat_succ, List.length_map, cnd_t, cnd_f, grd_tt, grd_u, grd_tf, grd_ft, grd_ff, g_skip, g_ops, g_seq, g_block, g_exit, g_ret, x_c, x_o, x_l, x_b, g_b, g_nil, r_all, o_nil, g_cond, o_guard, o_call, o_callm, o_callt, o_callx, o_callv, lk, ef, o_mv, o_pick, o_bin, o_never, o_eqs, o_eqb, o_un, o_conv, o_load, o_loadr, o_idxr, o_loads, o_fld, o_idx, o_idxs, o_len, o_lens, o_ext, o_nilck, o_slc, o_slcs, o_build, o_minmax, o_mkfn, o_alloc, o_box, o_boxs, o_row, o_rowr, o_mk, o_asg, o_app, o_store, o_stores, o_eqnil, hv, eqAV, ev, view_t, view_c, view_nil, view_fn, look_own, look_box, look_junk, look_val, look_nilsl, look_ro, look_roAt, look_agg, look_tup, look_clo, look_alias, look_ref, look_into, rowOf, cellsOf, argv, vbin, vun, bnd, elemOf, putParts, setAt, zav, ASt.rid, ASt.free, AV.kill, AV.isHome, AV.noLoan, AV.cellOK, Value.oneCell', put_at, mk_at, mk_nil, initSt, true_and, and_true, and_self, implies_true, List.map_cons, List.map_nil, List.forall_mem_cons, List.not_mem_nil, false_implies, List.length_cons, List.length_nil, List.getD_cons_zero, List.getD_cons_succ, List.getD_nil, List.drop_succ_cons, List.drop_zero, List.take_succ_cons, List.take_zero, List.set_cons_zero, List.set_cons_succ, List.all_cons, List.all_nil, Bool.and_true, Bool.true_and, Bool.not_true, Bool.not_false, reduceCtorEq, if_true, if_false, Bool.false_eq_true, ↓reduceIte, Nat.reduceEqDiff, Nat.reduceAdd, Nat.reduceSub, Nat.reduceMul, Nat.reduceLeDiff, Nat.reduceLT, ne_eq, not_false_eq_true, not_true_eq_false, Nat.one_ne_zero, Nat.zero_ne_one, r7_0, r7_1, r7_2, r7_3, r7_4, r7_5, r7_6, r7_7, r7_8, r7_10, r7_11, r7_12, r7_13, r7_9, r7_14, r7_15, r7_16, r7_17, r7_18, r7_19, r7_20, r7_21, p7, l7_0, hIM, h1i, List.length_map, h3t, h4, h5]) | (exfalso; omega)
end Go.Proofs.YtjeemcpdmiajmaaDoor
