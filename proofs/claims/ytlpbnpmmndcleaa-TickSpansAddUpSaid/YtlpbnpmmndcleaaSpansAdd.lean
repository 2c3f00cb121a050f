/- TickSpansAddUp. -/
import Derived.Test.YtlpbnpmmndcleaaKSetOps
namespace Go.Proofs.Ytlpbnpmmndcleaa
open Go.RowKit
set_option linter.unusedSimpArgs false

/-! headend/headendlaw1.TickSpansAddUp -/
def r12_0 : List POp := [⟨4, .asg (.c (.bool false)), none⟩]
def r12_1 : List POp := [⟨17, .mv (.t 0), none⟩,
  ⟨18, .call 36 [.t 17], none⟩,
  ⟨16, .mv (.t 18), none⟩,
  ⟨19, .ext 0 (.t 16), none⟩,
  ⟨20, .ext 1 (.t 16), none⟩,
  ⟨5, .mv (.t 19), none⟩,
  ⟨6, .mv (.t 20), none⟩]
def r12_2 : List POp := [⟨22, .mv (.t 1), none⟩,
  ⟨23, .call 36 [.t 22], none⟩,
  ⟨21, .mv (.t 23), none⟩,
  ⟨24, .ext 0 (.t 21), none⟩,
  ⟨25, .ext 1 (.t 21), none⟩,
  ⟨7, .mv (.t 24), none⟩,
  ⟨8, .mv (.t 25), none⟩]
def r12_3 : List POp := [⟨26, .mv (.t 6), none⟩,
  ⟨27, .bin .neq (.t 26) (.c (.int .i64 0)), none⟩,
  ⟨28, .mv (.t 27), none⟩,
  ⟨29, .mv (.t 8), some (28, false)⟩,
  ⟨30, .bin .neq (.t 29) (.c (.int .i64 0)), some (28, false)⟩,
  ⟨31, .pick (.t 28) (.c (.bool true)) (.t 30), none⟩]
def r12_4 : List POp := [⟨32, .mv (.t 6), none⟩,
  ⟨33, .bin .eql (.t 32) (.c (.int .i64 0)), none⟩,
  ⟨34, .mv (.t 33), none⟩,
  ⟨35, .mv (.t 5), some (34, false)⟩,
  ⟨36, .bin .eql (.t 35) (.c (.int .i64 0)), some (34, false)⟩,
  ⟨37, .pick (.t 34) (.c (.bool true)) (.t 36), none⟩,
  ⟨38, .mv (.t 37), none⟩,
  ⟨39, .mv (.t 8), some (38, true)⟩,
  ⟨40, .bin .eql (.t 39) (.c (.int .i64 0)), some (38, true)⟩,
  ⟨41, .mv (.t 40), some (38, true)⟩,
  ⟨42, .mv (.t 7), some (41, false)⟩,
  ⟨43, .bin .eql (.t 42) (.c (.int .i64 0)), some (41, false)⟩,
  ⟨44, .pick (.t 41) (.c (.bool true)) (.t 43), some (38, true)⟩,
  ⟨45, .pick (.t 38) (.t 44) (.c (.bool false)), none⟩,
  ⟨46, .mv (.t 45), none⟩,
  ⟨47, .call 14 [], some (46, true)⟩,
  ⟨48, .pick (.t 46) (.t 47) (.c (.bool false)), none⟩,
  ⟨4, .asg (.t 48), none⟩]
def r12_5 : List POp := [⟨50, .mv (.t 0), none⟩,
  ⟨51, .mv (.t 1), none⟩,
  ⟨52, .call 29 [.t 50, .t 51], none⟩,
  ⟨49, .mv (.t 52), none⟩,
  ⟨53, .ext 0 (.t 49), none⟩,
  ⟨54, .ext 1 (.t 49), none⟩,
  ⟨9, .asg (.t 53), none⟩,
  ⟨6, .mv (.t 54), none⟩]
def r12_6 : List POp := [⟨56, .mv (.t 0), none⟩,
  ⟨57, .mv (.t 1), none⟩,
  ⟨58, .call 32 [.t 56, .t 57], none⟩,
  ⟨55, .mv (.t 58), none⟩,
  ⟨59, .ext 0 (.t 55), none⟩,
  ⟨60, .ext 1 (.t 55), none⟩,
  ⟨10, .asg (.t 59), none⟩,
  ⟨8, .mv (.t 60), none⟩]
def r12_7 : List POp := [⟨62, .mv (.t 0), none⟩,
  ⟨63, .mv (.t 1), none⟩,
  ⟨64, .call 34 [.t 62, .t 63], none⟩,
  ⟨61, .mv (.t 64), none⟩,
  ⟨65, .ext 0 (.t 61), none⟩,
  ⟨66, .ext 1 (.t 61), none⟩,
  ⟨11, .asg (.t 65), none⟩,
  ⟨12, .mv (.t 66), none⟩]
def r12_8 : List POp := [⟨67, .mv (.t 6), none⟩,
  ⟨68, .bin .neq (.t 67) (.c (.int .i64 0)), none⟩,
  ⟨69, .mv (.t 68), none⟩,
  ⟨70, .mv (.t 8), some (69, false)⟩,
  ⟨71, .bin .neq (.t 70) (.c (.int .i64 0)), some (69, false)⟩,
  ⟨72, .pick (.t 69) (.c (.bool true)) (.t 71), none⟩,
  ⟨73, .mv (.t 72), none⟩,
  ⟨74, .mv (.t 12), some (73, false)⟩,
  ⟨75, .bin .neq (.t 74) (.c (.int .i64 0)), some (73, false)⟩,
  ⟨76, .pick (.t 73) (.c (.bool true)) (.t 75), none⟩]
def r12_9 : List POp := [⟨77, .call 14 [], none⟩,
  ⟨4, .asg (.t 77), none⟩]
def r12_10 : List POp := [⟨79, .mv (.t 9), none⟩,
  ⟨80, .call 36 [.t 79], none⟩,
  ⟨78, .mv (.t 80), none⟩,
  ⟨81, .ext 0 (.t 78), none⟩,
  ⟨82, .ext 1 (.t 78), none⟩,
  ⟨13, .mv (.t 81), none⟩,
  ⟨6, .mv (.t 82), none⟩]
def r12_11 : List POp := [⟨84, .mv (.t 10), none⟩,
  ⟨85, .call 36 [.t 84], none⟩,
  ⟨83, .mv (.t 85), none⟩,
  ⟨86, .ext 0 (.t 83), none⟩,
  ⟨87, .ext 1 (.t 83), none⟩,
  ⟨14, .mv (.t 86), none⟩,
  ⟨8, .mv (.t 87), none⟩]
def r12_12 : List POp := [⟨88, .mv (.t 6), none⟩,
  ⟨89, .bin .neq (.t 88) (.c (.int .i64 0)), none⟩,
  ⟨90, .mv (.t 89), none⟩,
  ⟨91, .mv (.t 8), some (90, false)⟩,
  ⟨92, .bin .neq (.t 91) (.c (.int .i64 0)), some (90, false)⟩,
  ⟨93, .pick (.t 90) (.c (.bool true)) (.t 92), none⟩,
  ⟨94, .mv (.t 93), none⟩,
  ⟨95, .mv (.t 13), some (94, false)⟩,
  ⟨96, .mv (.t 14), some (94, false)⟩,
  ⟨97, .bin .add (.t 95) (.t 96), some (94, false)⟩,
  ⟨98, .mv (.t 5), some (94, false)⟩,
  ⟨99, .mv (.t 7), some (94, false)⟩,
  ⟨100, .bin .add (.t 98) (.t 99), some (94, false)⟩,
  ⟨101, .bin .neq (.t 97) (.t 100), some (94, false)⟩,
  ⟨102, .pick (.t 94) (.c (.bool true)) (.t 101), none⟩]
def r12_13 : List POp := [⟨4, .asg (.c (.bool false)), none⟩]
def r12_14 : List POp := [⟨104, .mv (.t 11), none⟩,
  ⟨105, .mv (.t 10), none⟩,
  ⟨106, .call 29 [.t 104, .t 105], none⟩,
  ⟨103, .mv (.t 106), none⟩,
  ⟨107, .ext 0 (.t 103), none⟩,
  ⟨108, .ext 1 (.t 103), none⟩,
  ⟨15, .asg (.t 107), none⟩,
  ⟨6, .mv (.t 108), none⟩]
def r12_15 : List POp := [⟨109, .mv (.t 6), none⟩,
  ⟨110, .bin .eql (.t 109) (.c (.int .i64 0)), none⟩,
  ⟨111, .mv (.t 110), none⟩,
  ⟨112, .mv (.t 15), some (111, true)⟩,
  ⟨113, .mv (.t 0), some (111, true)⟩,
  ⟨114, .call 31 [.t 112, .t 113], some (111, true)⟩,
  ⟨115, .pick (.t 111) (.t 114) (.c (.bool false)), none⟩,
  ⟨116, .mv (.t 115), none⟩,
  ⟨117, .call 14 [], some (116, true)⟩,
  ⟨118, .pick (.t 116) (.t 117) (.c (.bool false)), none⟩,
  ⟨4, .asg (.t 118), none⟩]
def p12 : PCode := .seq (.ops r12_0) (.seq (.ops r12_1) (.seq (.ops r12_2) (.seq (.seq (.ops r12_3) (.cond (.t 31) (.seq (.ops r12_4) (.ret)) (.skip))) (.seq (.ops r12_5) (.seq (.ops r12_6) (.seq (.ops r12_7) (.seq (.seq (.ops r12_8) (.cond (.t 76) (.seq (.ops r12_9) (.ret)) (.skip))) (.seq (.ops r12_10) (.seq (.ops r12_11) (.seq (.seq (.ops r12_12) (.cond (.t 102) (.seq (.ops r12_13) (.ret)) (.skip))) (.seq (.ops r12_14) (.seq (.ops r12_15) (.ret)))))))))))))
theorem ok12 : okFunc Try.prog 12 [.t 4] 2 p12 = true := by kernel_rfl
set_option maxHeartbeats 2000000 in
theorem spansadd_d (a b : List Sp) (ha0 : a.length ≤ 9223372036854775807) (hb0 : b.length ≤ 9223372036854775807) : CallOK Try.prog 12 [.ro (a.map Sp.av), .ro (b.map Sp.av)] (.val (.bool true)) := by
  refine call_of mixed ok12 rfl ?_
  have hla := length_c a ha0
  have hlb := length_c b hb0
  have La : lengthF a = if spsF a ≠ 0 then (0, spsF a) else (lenS a, 0) := rfl
  have Lb : lengthF b = if spsF b ≠ 0 then (0, spsF b) else (lenS b, 0) := rfl
  by_cases ha : spsF a = 0
  case neg =>
    rw [if_pos ha] at La
    rw [La] at hla
    by_cases hb : spsF b = 0
    · rw [if_neg (by simp [hb])] at Lb
      rw [Lb] at hlb
      repeat' first | (with_reducible refine condD (fun h => ?_) (fun h => ?_)) | (with_reducible refine condE (fun h => ?_) (fun h => ?_)) | (with_reducible refine condN (fun h => ?_) (fun h => ?_)) | (with_reducible refine condI (fun h => ?_) (fun h => ?_)) | (with_reducible refine condS (fun h => ?_) (fun h => ?_)) | (with_reducible refine guardD (by with_unfolding_all rfl) (fun h => ?_) (fun h => ?_)) | (with_reducible refine guardE (by with_unfolding_all rfl) (fun h => ?_) (fun h => ?_)) | (with_reducible refine guardN (by with_unfolding_all rfl) (fun h => ?_) (fun h => ?_)) | (with_reducible refine guardI (by with_unfolding_all rfl) (fun h => ?_) (fun h => ?_)) | (with_reducible refine guardS (by with_unfolding_all rfl) (fun h => ?_) (fun h => ?_)) | ((refine callG hla ?_)) | ((refine callG hlb ?_)) | ((refine callG awake1_c ?_)) | (with_reducible refine And.intro ?_ ?_; omega) | (simp only [done_eq, done_eq', donet_eq, donet_eq', fin_val, fin_tup, fin_agg, fin_ro, res_one, res_more, rv_t, rv_c, rv_l, AV.tup.injEq, AV.agg.injEq, AV.ro.injEq, List.cons.injEq, int_eq, bool_eq, Int.toNat_natCast, Int.reduceToNat, Int.toNat_zero, Int.toNat_one, Int.reduceLE, Int.reduceLT, Int.reduceBEq, Int.reduceBNe, beq_self_eq_true, bne_self_eq_false, decide_true, decide_false,  Int.reduceNeg, toNat_pred, toNat_succ, List.length_map, cnd_t, cnd_f, grd_tt, grd_u, grd_tf, grd_ft, grd_ff, g_skip, g_ops, g_seq, g_block, g_exit, g_ret, x_c, x_o, x_l, x_b, g_b, g_nil, r_all, o_nil, g_cond, o_guard, o_call, o_callm, o_callx, o_callv, lk, ef, o_mv, o_pick, o_bin, o_never, o_eqs, o_eqb, o_un, o_conv, o_load, o_loadr, o_idxr, o_loads, o_fld, o_idx, o_idxs, o_len, o_lens, o_ext, o_nilck, o_slc, o_slcs, o_build, o_minmax, o_mkfn, o_alloc, o_box, o_boxs, o_row, o_rowr, o_mk, o_asg, o_app, o_store, o_stores, o_eqnil, hv, eqAV, ev, view_t, view_c, view_nil, view_fn, look_own, look_box, look_junk, look_val, look_nilsl, look_ro, look_roAt, look_agg, look_tup, look_clo, look_alias, look_ref, look_into, rowOf, cellsOf, argv, vbin, vun, bnd, elemOf, putParts, setAt, zav, ASt.rid, ASt.free, AV.kill, AV.isHome, AV.noLoan, AV.cellOK, Value.oneCell', put_at, mk_at, mk_nil, initSt, true_and, and_true, and_self, implies_true, List.map_cons, List.map_nil, List.forall_mem_cons, List.not_mem_nil, false_implies, List.length_cons, List.length_nil, List.getD_cons_zero, List.getD_cons_succ, List.getD_nil, List.drop_succ_cons, List.drop_zero, List.take_succ_cons, List.take_zero, List.set_cons_zero, List.set_cons_succ, List.all_cons, List.all_nil, Bool.and_true, Bool.true_and, Bool.not_true, Bool.not_false, reduceCtorEq, if_true, if_false, Bool.false_eq_true, ↓reduceIte, Nat.reduceEqDiff, Nat.reduceAdd, Nat.reduceSub, Nat.reduceMul, Nat.reduceLeDiff, Nat.reduceLT, ne_eq, not_false_eq_true, not_true_eq_false, Nat.one_ne_zero, Nat.zero_ne_one, r12_0, r12_1, r12_2, r12_3, r12_4, r12_5, r12_6, r12_7, r12_8, r12_9, r12_10, r12_11, r12_12, r12_13, r12_14, r12_15, p12, bne0_t ha, beq0_f ha]) | (exfalso; omega)
    · rw [if_pos hb] at Lb
      rw [Lb] at hlb
      repeat' first | (with_reducible refine condD (fun h => ?_) (fun h => ?_)) | (with_reducible refine condE (fun h => ?_) (fun h => ?_)) | (with_reducible refine condN (fun h => ?_) (fun h => ?_)) | (with_reducible refine condI (fun h => ?_) (fun h => ?_)) | (with_reducible refine condS (fun h => ?_) (fun h => ?_)) | (with_reducible refine guardD (by with_unfolding_all rfl) (fun h => ?_) (fun h => ?_)) | (with_reducible refine guardE (by with_unfolding_all rfl) (fun h => ?_) (fun h => ?_)) | (with_reducible refine guardN (by with_unfolding_all rfl) (fun h => ?_) (fun h => ?_)) | (with_reducible refine guardI (by with_unfolding_all rfl) (fun h => ?_) (fun h => ?_)) | (with_reducible refine guardS (by with_unfolding_all rfl) (fun h => ?_) (fun h => ?_)) | ((refine callG hla ?_)) | ((refine callG hlb ?_)) | ((refine callG awake1_c ?_)) | (with_reducible refine And.intro ?_ ?_; omega) | (simp only [done_eq, done_eq', donet_eq, donet_eq', fin_val, fin_tup, fin_agg, fin_ro, res_one, res_more, rv_t, rv_c, rv_l, AV.tup.injEq, AV.agg.injEq, AV.ro.injEq, List.cons.injEq, int_eq, bool_eq, Int.toNat_natCast, Int.reduceToNat, Int.toNat_zero, Int.toNat_one, Int.reduceLE, Int.reduceLT, Int.reduceBEq, Int.reduceBNe, beq_self_eq_true, bne_self_eq_false, decide_true, decide_false,  Int.reduceNeg, toNat_pred, toNat_succ, List.length_map, cnd_t, cnd_f, grd_tt, grd_u, grd_tf, grd_ft, grd_ff, g_skip, g_ops, g_seq, g_block, g_exit, g_ret, x_c, x_o, x_l, x_b, g_b, g_nil, r_all, o_nil, g_cond, o_guard, o_call, o_callm, o_callx, o_callv, lk, ef, o_mv, o_pick, o_bin, o_never, o_eqs, o_eqb, o_un, o_conv, o_load, o_loadr, o_idxr, o_loads, o_fld, o_idx, o_idxs, o_len, o_lens, o_ext, o_nilck, o_slc, o_slcs, o_build, o_minmax, o_mkfn, o_alloc, o_box, o_boxs, o_row, o_rowr, o_mk, o_asg, o_app, o_store, o_stores, o_eqnil, hv, eqAV, ev, view_t, view_c, view_nil, view_fn, look_own, look_box, look_junk, look_val, look_nilsl, look_ro, look_roAt, look_agg, look_tup, look_clo, look_alias, look_ref, look_into, rowOf, cellsOf, argv, vbin, vun, bnd, elemOf, putParts, setAt, zav, ASt.rid, ASt.free, AV.kill, AV.isHome, AV.noLoan, AV.cellOK, Value.oneCell', put_at, mk_at, mk_nil, initSt, true_and, and_true, and_self, implies_true, List.map_cons, List.map_nil, List.forall_mem_cons, List.not_mem_nil, false_implies, List.length_cons, List.length_nil, List.getD_cons_zero, List.getD_cons_succ, List.getD_nil, List.drop_succ_cons, List.drop_zero, List.take_succ_cons, List.take_zero, List.set_cons_zero, List.set_cons_succ, List.all_cons, List.all_nil, Bool.and_true, Bool.true_and, Bool.not_true, Bool.not_false, reduceCtorEq, if_true, if_false, Bool.false_eq_true, ↓reduceIte, Nat.reduceEqDiff, Nat.reduceAdd, Nat.reduceSub, Nat.reduceMul, Nat.reduceLeDiff, Nat.reduceLT, ne_eq, not_false_eq_true, not_true_eq_false, Nat.one_ne_zero, Nat.zero_ne_one, r12_0, r12_1, r12_2, r12_3, r12_4, r12_5, r12_6, r12_7, r12_8, r12_9, r12_10, r12_11, r12_12, r12_13, r12_14, r12_15, p12, bne0_t ha, beq0_f ha, bne0_t hb, beq0_f hb]) | (exfalso; omega)
  by_cases hb : spsF b = 0
  case neg =>
    rw [if_neg (by simp [ha])] at La
    rw [La] at hla
    rw [if_pos hb] at Lb
    rw [Lb] at hlb
    repeat' first | (with_reducible refine condD (fun h => ?_) (fun h => ?_)) | (with_reducible refine condE (fun h => ?_) (fun h => ?_)) | (with_reducible refine condN (fun h => ?_) (fun h => ?_)) | (with_reducible refine condI (fun h => ?_) (fun h => ?_)) | (with_reducible refine condS (fun h => ?_) (fun h => ?_)) | (with_reducible refine guardD (by with_unfolding_all rfl) (fun h => ?_) (fun h => ?_)) | (with_reducible refine guardE (by with_unfolding_all rfl) (fun h => ?_) (fun h => ?_)) | (with_reducible refine guardN (by with_unfolding_all rfl) (fun h => ?_) (fun h => ?_)) | (with_reducible refine guardI (by with_unfolding_all rfl) (fun h => ?_) (fun h => ?_)) | (with_reducible refine guardS (by with_unfolding_all rfl) (fun h => ?_) (fun h => ?_)) | ((refine callG hla ?_)) | ((refine callG hlb ?_)) | ((refine callG awake1_c ?_)) | (with_reducible refine And.intro ?_ ?_; omega) | (simp only [done_eq, done_eq', donet_eq, donet_eq', fin_val, fin_tup, fin_agg, fin_ro, res_one, res_more, rv_t, rv_c, rv_l, AV.tup.injEq, AV.agg.injEq, AV.ro.injEq, List.cons.injEq, int_eq, bool_eq, Int.toNat_natCast, Int.reduceToNat, Int.toNat_zero, Int.toNat_one, Int.reduceLE, Int.reduceLT, Int.reduceBEq, Int.reduceBNe, beq_self_eq_true, bne_self_eq_false, decide_true, decide_false,  Int.reduceNeg, toNat_pred, toNat_succ, List.length_map, cnd_t, cnd_f, grd_tt, grd_u, grd_tf, grd_ft, grd_ff, g_skip, g_ops, g_seq, g_block, g_exit, g_ret, x_c, x_o, x_l, x_b, g_b, g_nil, r_all, o_nil, g_cond, o_guard, o_call, o_callm, o_callx, o_callv, lk, ef, o_mv, o_pick, o_bin, o_never, o_eqs, o_eqb, o_un, o_conv, o_load, o_loadr, o_idxr, o_loads, o_fld, o_idx, o_idxs, o_len, o_lens, o_ext, o_nilck, o_slc, o_slcs, o_build, o_minmax, o_mkfn, o_alloc, o_box, o_boxs, o_row, o_rowr, o_mk, o_asg, o_app, o_store, o_stores, o_eqnil, hv, eqAV, ev, view_t, view_c, view_nil, view_fn, look_own, look_box, look_junk, look_val, look_nilsl, look_ro, look_roAt, look_agg, look_tup, look_clo, look_alias, look_ref, look_into, rowOf, cellsOf, argv, vbin, vun, bnd, elemOf, putParts, setAt, zav, ASt.rid, ASt.free, AV.kill, AV.isHome, AV.noLoan, AV.cellOK, Value.oneCell', put_at, mk_at, mk_nil, initSt, true_and, and_true, and_self, implies_true, List.map_cons, List.map_nil, List.forall_mem_cons, List.not_mem_nil, false_implies, List.length_cons, List.length_nil, List.getD_cons_zero, List.getD_cons_succ, List.getD_nil, List.drop_succ_cons, List.drop_zero, List.take_succ_cons, List.take_zero, List.set_cons_zero, List.set_cons_succ, List.all_cons, List.all_nil, Bool.and_true, Bool.true_and, Bool.not_true, Bool.not_false, reduceCtorEq, if_true, if_false, Bool.false_eq_true, ↓reduceIte, Nat.reduceEqDiff, Nat.reduceAdd, Nat.reduceSub, Nat.reduceMul, Nat.reduceLeDiff, Nat.reduceLT, ne_eq, not_false_eq_true, not_true_eq_false, Nat.one_ne_zero, Nat.zero_ne_one, r12_0, r12_1, r12_2, r12_3, r12_4, r12_5, r12_6, r12_7, r12_8, r12_9, r12_10, r12_11, r12_12, r12_13, r12_14, r12_15, p12, bne0_t hb, beq0_f hb]) | (exfalso; omega)
  rw [if_neg (by simp [ha])] at La
  rw [La] at hla
  rw [if_neg (by simp [hb])] at Lb
  rw [Lb] at hlb
  have hj := joinS_c a b ha0 hb0
  have hm := meetS_c a b ha0 hb0
  have hz := withoutS_c a b ha0 hb0
  by_cases j0 : (combF orB a b).2 = 0
  case neg =>
    generalize combF orB a b = X at *
    generalize combF andB a b = Y at *
    generalize combF notB a b = Z at *
    repeat' first | (with_reducible refine condD (fun h => ?_) (fun h => ?_)) | (with_reducible refine condE (fun h => ?_) (fun h => ?_)) | (with_reducible refine condN (fun h => ?_) (fun h => ?_)) | (with_reducible refine condI (fun h => ?_) (fun h => ?_)) | (with_reducible refine condS (fun h => ?_) (fun h => ?_)) | (with_reducible refine guardD (by with_unfolding_all rfl) (fun h => ?_) (fun h => ?_)) | (with_reducible refine guardE (by with_unfolding_all rfl) (fun h => ?_) (fun h => ?_)) | (with_reducible refine guardN (by with_unfolding_all rfl) (fun h => ?_) (fun h => ?_)) | (with_reducible refine guardI (by with_unfolding_all rfl) (fun h => ?_) (fun h => ?_)) | (with_reducible refine guardS (by with_unfolding_all rfl) (fun h => ?_) (fun h => ?_)) | ((refine callG hla ?_)) | ((refine callG hlb ?_)) | ((refine callG hj ?_)) | ((refine callG hm ?_)) | ((refine callG hz ?_)) | ((refine callG awake1_c ?_)) | (with_reducible refine And.intro ?_ ?_; omega) | (simp only [done_eq, done_eq', donet_eq, donet_eq', fin_val, fin_tup, fin_agg, fin_ro, res_one, res_more, rv_t, rv_c, rv_l, AV.tup.injEq, AV.agg.injEq, AV.ro.injEq, List.cons.injEq, int_eq, bool_eq, Int.toNat_natCast, Int.reduceToNat, Int.toNat_zero, Int.toNat_one, Int.reduceLE, Int.reduceLT, Int.reduceBEq, Int.reduceBNe, beq_self_eq_true, bne_self_eq_false, decide_true, decide_false,  Int.reduceNeg, toNat_pred, toNat_succ, List.length_map, cnd_t, cnd_f, grd_tt, grd_u, grd_tf, grd_ft, grd_ff, g_skip, g_ops, g_seq, g_block, g_exit, g_ret, x_c, x_o, x_l, x_b, g_b, g_nil, r_all, o_nil, g_cond, o_guard, o_call, o_callm, o_callx, o_callv, lk, ef, o_mv, o_pick, o_bin, o_never, o_eqs, o_eqb, o_un, o_conv, o_load, o_loadr, o_idxr, o_loads, o_fld, o_idx, o_idxs, o_len, o_lens, o_ext, o_nilck, o_slc, o_slcs, o_build, o_minmax, o_mkfn, o_alloc, o_box, o_boxs, o_row, o_rowr, o_mk, o_asg, o_app, o_store, o_stores, o_eqnil, hv, eqAV, ev, view_t, view_c, view_nil, view_fn, look_own, look_box, look_junk, look_val, look_nilsl, look_ro, look_roAt, look_agg, look_tup, look_clo, look_alias, look_ref, look_into, rowOf, cellsOf, argv, vbin, vun, bnd, elemOf, putParts, setAt, zav, ASt.rid, ASt.free, AV.kill, AV.isHome, AV.noLoan, AV.cellOK, Value.oneCell', put_at, mk_at, mk_nil, initSt, true_and, and_true, and_self, implies_true, List.map_cons, List.map_nil, List.forall_mem_cons, List.not_mem_nil, false_implies, List.length_cons, List.length_nil, List.getD_cons_zero, List.getD_cons_succ, List.getD_nil, List.drop_succ_cons, List.drop_zero, List.take_succ_cons, List.take_zero, List.set_cons_zero, List.set_cons_succ, List.all_cons, List.all_nil, Bool.and_true, Bool.true_and, Bool.not_true, Bool.not_false, reduceCtorEq, if_true, if_false, Bool.false_eq_true, ↓reduceIte, Nat.reduceEqDiff, Nat.reduceAdd, Nat.reduceSub, Nat.reduceMul, Nat.reduceLeDiff, Nat.reduceLT, ne_eq, not_false_eq_true, not_true_eq_false, Nat.one_ne_zero, Nat.zero_ne_one, r12_0, r12_1, r12_2, r12_3, r12_4, r12_5, r12_6, r12_7, r12_8, r12_9, r12_10, r12_11, r12_12, r12_13, r12_14, r12_15, p12, bne0_t j0]) | (exfalso; omega)
  by_cases m0 : (combF andB a b).2 = 0
  case neg =>
    rw [j0] at hj
    generalize combF orB a b = X at *
    generalize combF andB a b = Y at *
    generalize combF notB a b = Z at *
    repeat' first | (with_reducible refine condD (fun h => ?_) (fun h => ?_)) | (with_reducible refine condE (fun h => ?_) (fun h => ?_)) | (with_reducible refine condN (fun h => ?_) (fun h => ?_)) | (with_reducible refine condI (fun h => ?_) (fun h => ?_)) | (with_reducible refine condS (fun h => ?_) (fun h => ?_)) | (with_reducible refine guardD (by with_unfolding_all rfl) (fun h => ?_) (fun h => ?_)) | (with_reducible refine guardE (by with_unfolding_all rfl) (fun h => ?_) (fun h => ?_)) | (with_reducible refine guardN (by with_unfolding_all rfl) (fun h => ?_) (fun h => ?_)) | (with_reducible refine guardI (by with_unfolding_all rfl) (fun h => ?_) (fun h => ?_)) | (with_reducible refine guardS (by with_unfolding_all rfl) (fun h => ?_) (fun h => ?_)) | ((refine callG hla ?_)) | ((refine callG hlb ?_)) | ((refine callG hj ?_)) | ((refine callG hm ?_)) | ((refine callG hz ?_)) | ((refine callG awake1_c ?_)) | (with_reducible refine And.intro ?_ ?_; omega) | (simp only [done_eq, done_eq', donet_eq, donet_eq', fin_val, fin_tup, fin_agg, fin_ro, res_one, res_more, rv_t, rv_c, rv_l, AV.tup.injEq, AV.agg.injEq, AV.ro.injEq, List.cons.injEq, int_eq, bool_eq, Int.toNat_natCast, Int.reduceToNat, Int.toNat_zero, Int.toNat_one, Int.reduceLE, Int.reduceLT, Int.reduceBEq, Int.reduceBNe, beq_self_eq_true, bne_self_eq_false, decide_true, decide_false,  Int.reduceNeg, toNat_pred, toNat_succ, List.length_map, cnd_t, cnd_f, grd_tt, grd_u, grd_tf, grd_ft, grd_ff, g_skip, g_ops, g_seq, g_block, g_exit, g_ret, x_c, x_o, x_l, x_b, g_b, g_nil, r_all, o_nil, g_cond, o_guard, o_call, o_callm, o_callx, o_callv, lk, ef, o_mv, o_pick, o_bin, o_never, o_eqs, o_eqb, o_un, o_conv, o_load, o_loadr, o_idxr, o_loads, o_fld, o_idx, o_idxs, o_len, o_lens, o_ext, o_nilck, o_slc, o_slcs, o_build, o_minmax, o_mkfn, o_alloc, o_box, o_boxs, o_row, o_rowr, o_mk, o_asg, o_app, o_store, o_stores, o_eqnil, hv, eqAV, ev, view_t, view_c, view_nil, view_fn, look_own, look_box, look_junk, look_val, look_nilsl, look_ro, look_roAt, look_agg, look_tup, look_clo, look_alias, look_ref, look_into, rowOf, cellsOf, argv, vbin, vun, bnd, elemOf, putParts, setAt, zav, ASt.rid, ASt.free, AV.kill, AV.isHome, AV.noLoan, AV.cellOK, Value.oneCell', put_at, mk_at, mk_nil, initSt, true_and, and_true, and_self, implies_true, List.map_cons, List.map_nil, List.forall_mem_cons, List.not_mem_nil, false_implies, List.length_cons, List.length_nil, List.getD_cons_zero, List.getD_cons_succ, List.getD_nil, List.drop_succ_cons, List.drop_zero, List.take_succ_cons, List.take_zero, List.set_cons_zero, List.set_cons_succ, List.all_cons, List.all_nil, Bool.and_true, Bool.true_and, Bool.not_true, Bool.not_false, reduceCtorEq, if_true, if_false, Bool.false_eq_true, ↓reduceIte, Nat.reduceEqDiff, Nat.reduceAdd, Nat.reduceSub, Nat.reduceMul, Nat.reduceLeDiff, Nat.reduceLT, ne_eq, not_false_eq_true, not_true_eq_false, Nat.one_ne_zero, Nat.zero_ne_one, r12_0, r12_1, r12_2, r12_3, r12_4, r12_5, r12_6, r12_7, r12_8, r12_9, r12_10, r12_11, r12_12, r12_13, r12_14, r12_15, p12, bne0_t m0]) | (exfalso; omega)
  by_cases z0 : (combF notB a b).2 = 0
  case neg =>
    rw [j0] at hj
    rw [m0] at hm
    generalize combF orB a b = X at *
    generalize combF andB a b = Y at *
    generalize combF notB a b = Z at *
    repeat' first | (with_reducible refine condD (fun h => ?_) (fun h => ?_)) | (with_reducible refine condE (fun h => ?_) (fun h => ?_)) | (with_reducible refine condN (fun h => ?_) (fun h => ?_)) | (with_reducible refine condI (fun h => ?_) (fun h => ?_)) | (with_reducible refine condS (fun h => ?_) (fun h => ?_)) | (with_reducible refine guardD (by with_unfolding_all rfl) (fun h => ?_) (fun h => ?_)) | (with_reducible refine guardE (by with_unfolding_all rfl) (fun h => ?_) (fun h => ?_)) | (with_reducible refine guardN (by with_unfolding_all rfl) (fun h => ?_) (fun h => ?_)) | (with_reducible refine guardI (by with_unfolding_all rfl) (fun h => ?_) (fun h => ?_)) | (with_reducible refine guardS (by with_unfolding_all rfl) (fun h => ?_) (fun h => ?_)) | ((refine callG hla ?_)) | ((refine callG hlb ?_)) | ((refine callG hj ?_)) | ((refine callG hm ?_)) | ((refine callG hz ?_)) | ((refine callG awake1_c ?_)) | (with_reducible refine And.intro ?_ ?_; omega) | (simp only [done_eq, done_eq', donet_eq, donet_eq', fin_val, fin_tup, fin_agg, fin_ro, res_one, res_more, rv_t, rv_c, rv_l, AV.tup.injEq, AV.agg.injEq, AV.ro.injEq, List.cons.injEq, int_eq, bool_eq, Int.toNat_natCast, Int.reduceToNat, Int.toNat_zero, Int.toNat_one, Int.reduceLE, Int.reduceLT, Int.reduceBEq, Int.reduceBNe, beq_self_eq_true, bne_self_eq_false, decide_true, decide_false,  Int.reduceNeg, toNat_pred, toNat_succ, List.length_map, cnd_t, cnd_f, grd_tt, grd_u, grd_tf, grd_ft, grd_ff, g_skip, g_ops, g_seq, g_block, g_exit, g_ret, x_c, x_o, x_l, x_b, g_b, g_nil, r_all, o_nil, g_cond, o_guard, o_call, o_callm, o_callx, o_callv, lk, ef, o_mv, o_pick, o_bin, o_never, o_eqs, o_eqb, o_un, o_conv, o_load, o_loadr, o_idxr, o_loads, o_fld, o_idx, o_idxs, o_len, o_lens, o_ext, o_nilck, o_slc, o_slcs, o_build, o_minmax, o_mkfn, o_alloc, o_box, o_boxs, o_row, o_rowr, o_mk, o_asg, o_app, o_store, o_stores, o_eqnil, hv, eqAV, ev, view_t, view_c, view_nil, view_fn, look_own, look_box, look_junk, look_val, look_nilsl, look_ro, look_roAt, look_agg, look_tup, look_clo, look_alias, look_ref, look_into, rowOf, cellsOf, argv, vbin, vun, bnd, elemOf, putParts, setAt, zav, ASt.rid, ASt.free, AV.kill, AV.isHome, AV.noLoan, AV.cellOK, Value.oneCell', put_at, mk_at, mk_nil, initSt, true_and, and_true, and_self, implies_true, List.map_cons, List.map_nil, List.forall_mem_cons, List.not_mem_nil, false_implies, List.length_cons, List.length_nil, List.getD_cons_zero, List.getD_cons_succ, List.getD_nil, List.drop_succ_cons, List.drop_zero, List.take_succ_cons, List.take_zero, List.set_cons_zero, List.set_cons_succ, List.all_cons, List.all_nil, Bool.and_true, Bool.true_and, Bool.not_true, Bool.not_false, reduceCtorEq, if_true, if_false, Bool.false_eq_true, ↓reduceIte, Nat.reduceEqDiff, Nat.reduceAdd, Nat.reduceSub, Nat.reduceMul, Nat.reduceLeDiff, Nat.reduceLT, ne_eq, not_false_eq_true, not_true_eq_false, Nat.one_ne_zero, Nat.zero_ne_one, r12_0, r12_1, r12_2, r12_3, r12_4, r12_5, r12_6, r12_7, r12_8, r12_9, r12_10, r12_11, r12_12, r12_13, r12_14, r12_15, p12, bne0_t z0]) | (exfalso; omega)
  obtain ⟨_, _, x1, x2⟩ := combF_ok (keep := orB) rfl j0
  obtain ⟨_, _, y1, y2⟩ := combF_ok (keep := andB) rfl m0
  obtain ⟨_, _, q1, q2⟩ := combF_ok (keep := notB) rfl z0
  rw [j0] at hj
  rw [m0] at hm
  rw [z0] at hz
  clear j0 m0 z0
  generalize (combF orB a b).1 = X at *
  generalize (combF andB a b).1 = Y at *
  generalize (combF notB a b).1 = Z at *
  have hXl := (spsF_0 x1).1
  have hYl := (spsF_0 y1).1
  have hZl := (spsF_0 q1).1
  have hal := (spsF_0 ha).1
  have hbl := (spsF_0 hb).1
  have hlx := length_c X (by omega)
  have hly := length_c Y (by omega)
  rw [show lengthF X = (lenS X, 0) from by rw [lengthF, if_neg (by simp [x1])]] at hlx
  rw [show lengthF Y = (lenS Y, 0) from by rw [lengthF, if_neg (by simp [y1])]] at hly
  have hw := joinS_c Z Y (by omega) (by omega)
  rw [combF_is (keep := orB) rfl q1 y1 ha (fun n => by rw [q2, y2]; cases hasB a n <;> cases hasB b n <;> rfl)] at hw
  have heq := eqsp_c a (by omega)
  have hsum : lenS X + lenS Y = lenS a + lenS b := by
    rw [sps_cnt x1, sps_cnt y1, sps_cnt ha, sps_cnt hb]
    refine cnt_add (fun n => ?_) _
    rw [x2, y2]
    cases hasB a n <;> cases hasB b n <;> rfl
  have hne : (IntKind.i64.wrap (lenS X + lenS Y) != IntKind.i64.wrap (lenS a + lenS b)) = false := by rw [hsum]; exact bne_self_eq_false _
  simp only at hw
  repeat' first | (with_reducible refine condD (fun h => ?_) (fun h => ?_)) | (with_reducible refine condE (fun h => ?_) (fun h => ?_)) | (with_reducible refine condN (fun h => ?_) (fun h => ?_)) | (with_reducible refine condI (fun h => ?_) (fun h => ?_)) | (with_reducible refine condS (fun h => ?_) (fun h => ?_)) | (with_reducible refine guardD (by with_unfolding_all rfl) (fun h => ?_) (fun h => ?_)) | (with_reducible refine guardE (by with_unfolding_all rfl) (fun h => ?_) (fun h => ?_)) | (with_reducible refine guardN (by with_unfolding_all rfl) (fun h => ?_) (fun h => ?_)) | (with_reducible refine guardI (by with_unfolding_all rfl) (fun h => ?_) (fun h => ?_)) | (with_reducible refine guardS (by with_unfolding_all rfl) (fun h => ?_) (fun h => ?_)) | ((refine callG hla ?_)) | ((refine callG hlb ?_)) | ((refine callG hj ?_)) | ((refine callG hm ?_)) | ((refine callG hz ?_)) | ((refine callG hlx ?_)) | ((refine callG hly ?_)) | ((refine callG hw ?_)) | ((refine callG heq ?_)) | ((refine callG awake1_c ?_)) | (with_reducible refine And.intro ?_ ?_; omega) | (simp only [done_eq, done_eq', donet_eq, donet_eq', fin_val, fin_tup, fin_agg, fin_ro, res_one, res_more, rv_t, rv_c, rv_l, AV.tup.injEq, AV.agg.injEq, AV.ro.injEq, List.cons.injEq, int_eq, bool_eq, Int.toNat_natCast, Int.reduceToNat, Int.toNat_zero, Int.toNat_one, Int.reduceLE, Int.reduceLT, Int.reduceBEq, Int.reduceBNe, beq_self_eq_true, bne_self_eq_false, decide_true, decide_false,  Int.reduceNeg, toNat_pred, toNat_succ, List.length_map, cnd_t, cnd_f, grd_tt, grd_u, grd_tf, grd_ft, grd_ff, g_skip, g_ops, g_seq, g_block, g_exit, g_ret, x_c, x_o, x_l, x_b, g_b, g_nil, r_all, o_nil, g_cond, o_guard, o_call, o_callm, o_callx, o_callv, lk, ef, o_mv, o_pick, o_bin, o_never, o_eqs, o_eqb, o_un, o_conv, o_load, o_loadr, o_idxr, o_loads, o_fld, o_idx, o_idxs, o_len, o_lens, o_ext, o_nilck, o_slc, o_slcs, o_build, o_minmax, o_mkfn, o_alloc, o_box, o_boxs, o_row, o_rowr, o_mk, o_asg, o_app, o_store, o_stores, o_eqnil, hv, eqAV, ev, view_t, view_c, view_nil, view_fn, look_own, look_box, look_junk, look_val, look_nilsl, look_ro, look_roAt, look_agg, look_tup, look_clo, look_alias, look_ref, look_into, rowOf, cellsOf, argv, vbin, vun, bnd, elemOf, putParts, setAt, zav, ASt.rid, ASt.free, AV.kill, AV.isHome, AV.noLoan, AV.cellOK, Value.oneCell', put_at, mk_at, mk_nil, initSt, true_and, and_true, and_self, implies_true, List.map_cons, List.map_nil, List.forall_mem_cons, List.not_mem_nil, false_implies, List.length_cons, List.length_nil, List.getD_cons_zero, List.getD_cons_succ, List.getD_nil, List.drop_succ_cons, List.drop_zero, List.take_succ_cons, List.take_zero, List.set_cons_zero, List.set_cons_succ, List.all_cons, List.all_nil, Bool.and_true, Bool.true_and, Bool.not_true, Bool.not_false, reduceCtorEq, if_true, if_false, Bool.false_eq_true, ↓reduceIte, Nat.reduceEqDiff, Nat.reduceAdd, Nat.reduceSub, Nat.reduceMul, Nat.reduceLeDiff, Nat.reduceLT, ne_eq, not_false_eq_true, not_true_eq_false, Nat.one_ne_zero, Nat.zero_ne_one, r12_0, r12_1, r12_2, r12_3, r12_4, r12_5, r12_6, r12_7, r12_8, r12_9, r12_10, r12_11, r12_12, r12_13, r12_14, r12_15, p12, hne]) | (exfalso; omega)
theorem spansadd_c : ∀ avs, HasArgs [.one (.row [.int .i64, .int .i64]), .one (.row [.int .i64, .int .i64])] avs → CallOK Try.prog 12 avs (.val (.bool true)) := by
  intro avs h
  obtain ⟨v0, r, rfl, h0, h⟩ := args_cons h
  obtain ⟨v1, r, rfl, h1, h⟩ := args_cons h
  obtain rfl := args_nil h
  obtain ⟨n0, rfl, hl0, hb0⟩ := has_row h0 all_sp
  obtain ⟨n1, rfl, hl1, hb1⟩ := has_row h1 all_sp
  exact spansadd_d n0 n1 (by unfold maxLen at hl0; omega) (by unfold maxLen at hl1; omega)

/-! ### The row -/
open Go.ChangeShapes Go.WideShapes Go.ChangeAt
set_option maxRecDepth 100000 in
theorem spansadd_lifted (os : Os) (started : os.Started) (H : Type) (enc : TypeId × Value → H) :
    ReturnsInHanded {} Try.checked os 12 .any (Rows.tickSpansAddUpSpec.pre6 enc Try.prog Try.f12 Rows.tickSpansAddUpRow.domain false) (Rows.tickSpansAddUpSpec.post enc Try.prog Try.f12 false true false false) := by
  refine returnsInHanded_of_change (C := Try.checked) own_knob started (by kernel_rfl) Try.func12
    (ChangeSpec.witness6 (enc := enc) (C := Try.checked) false ⟨#[], #[.slice none 0 0, .slice none 0 0], []⟩ 8 (by kernel_rfl) (by kernel_rfl) (by kernel_rfl) (by kernel_rfl)) ?_
  intro W base args ds gs before hval hW _ _
  refine law_step rfl (by kernel_rfl) (fun ds h => ?_) ?_ hval hW ?_
  · match ds, h with | [a, b], _ => exact ⟨rfl, rfl, rfl⟩
  · rw [Try.params12]
    intro t ht
    simp only [List.mem_cons, List.not_mem_nil, or_false] at ht
    repeat' (first | (rcases ht with rfl | ht) | subst ht)
    all_goals exact ⟨by kernel_rfl, of_decide_eq_true (by kernel_rfl)⟩
  · rw [Try.params12]
    intro hin
    exact law_dm (ss := [.one (.row [.int .i64, .int .i64]), .one (.row [.int .i64, .int .i64])]) (by kernel_rfl) hin spansadd_c

theorem spansadd_holds : Rows.TickSpansAddUpSaid :=
  OpenClaim.holds_of_wide 12 Try.f12 rfl rfl rfl rfl rfl rfl rfl ⟨rfl, rfl, rfl, rfl, rfl⟩ rfl rfl rfl rfl rfl (by kernel_rfl) Try.func12 (by kernel_rfl)
    (of_decide_eq_true (by kernel_rfl)) (by unfold Func.isWrapper; first | (rw [if_pos (by decide +kernel)]; kernel_rfl) | (rw [if_neg (by decide +kernel)]; exact ⟨rfl, rfl⟩))
    (fun os started H enc _ => spansadd_lifted os started H enc)

end Go.Proofs.Ytlpbnpmmndcleaa
