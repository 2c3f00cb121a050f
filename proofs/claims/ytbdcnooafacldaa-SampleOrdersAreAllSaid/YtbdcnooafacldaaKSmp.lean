/- Samples and renditions: kit.letter, IsDigit, IsName, box.CheckSamples, cut.strandFault, by the machine on data. -/
import Derived.Test.YtbdcnooafacldaaKDo
import Derived.Test.YtbdcnooafacldaaDmP
namespace Go.Proofs.Ytbdcnooafacldaa
open Go.RowKit
set_option linter.unusedSimpArgs false

structure Smp where
  time : Int
  step : Int
  shift : Int
  size : Int
  key : Bool
def Smp.av (s : Smp) : List AV := [.val (.int .i64 s.time), .val (.int .i64 s.step), .val (.int .i64 s.shift), .val (.int .i64 s.size), .val (.bool s.key)]
theorem all_smp (x : List AV) (h : HasAll [.int .i64, .int .i64, .int .i64, .int .i64, .bool] x) : ∃ s : Smp, x = s.av ∧ (I64 s.time ∧ I64 s.step ∧ I64 s.shift ∧ I64 s.size) := by
  obtain ⟨v0, r, rfl, h0, h⟩ := all_cons h
  obtain ⟨v1, r, rfl, h1, h⟩ := all_cons h
  obtain ⟨v2, r, rfl, h2, h⟩ := all_cons h
  obtain ⟨v3, r, rfl, h3, h⟩ := all_cons h
  obtain ⟨v4, r, rfl, h4, h⟩ := all_cons h
  obtain rfl := all_nil h
  obtain ⟨n0, rfl, b0⟩ := has_int h0
  obtain ⟨n1, rfl, b1⟩ := has_int h1
  obtain ⟨n2, rfl, b2⟩ := has_int h2
  obtain ⟨n3, rfl, b3⟩ := has_int h3
  obtain ⟨k, rfl⟩ := has_bool h4
  exact ⟨⟨n0, n1, n2, n3, k⟩, rfl, b0, b1, b2, b3⟩
def Smp.endW (s : Smp) : Int := IntKind.i64.wrap (s.time + s.step)


/-! headend/box.CheckSamples -/
def r13_0 : List POp := [⟨2, .asg (.c (.int .i64 0)), none⟩]
def r13_1 : List POp := [⟨6, .mv (.t 0), none⟩,
  ⟨7, .len (.t 6), none⟩,
  ⟨8, .bin .gtr (.t 7) (.c (.int .i64 5000)), none⟩]
def r13_2 : List POp := [⟨2, .asg (.c (.int .i64 2)), none⟩]
def r13_3 : List POp := [⟨9, .mv (.t 0), none⟩,
  ⟨10, .len (.t 9), none⟩,
  ⟨11, .mv (.c (.int .i64 0)), none⟩]
def r13_4 : List POp := [⟨12, .bin .lss (.t 11) (.t 10), none⟩]
def r13_5 : List POp := [⟨13, .mv (.t 11), none⟩,
  ⟨14, .idx 5 (.t 9) (.t 11), none⟩,
  ⟨15, .loads 5 (.t 14), none⟩,
  ⟨4, .alloc [.int .i64 0, .int .i64 0, .int .i64 0, .int .i64 0, .bool false], none⟩,
  ⟨3, .asg (.t 13), none⟩,
  ⟨0, .stores 5 (.t 4) (.t 15), none⟩]
def r13_6 : List POp := [⟨17, .fld 0 (.t 4), none⟩,
  ⟨18, .load (.t 17), none⟩,
  ⟨19, .call 22 [.t 18], none⟩,
  ⟨20, .mv (.t 19), none⟩,
  ⟨21, .fld 1 (.t 4), some (20, false)⟩,
  ⟨22, .load (.t 21), some (20, false)⟩,
  ⟨23, .call 23 [.t 22, .c (.int .i64 0), .c (.int .i64 1000000000)], some (20, false)⟩,
  ⟨24, .pick (.t 20) (.c (.bool true)) (.t 23), none⟩,
  ⟨25, .mv (.t 24), none⟩,
  ⟨26, .fld 2 (.t 4), some (25, false)⟩,
  ⟨27, .load (.t 26), some (25, false)⟩,
  ⟨28, .call 23 [.t 27, .c (.int .i64 (-1000000000)), .c (.int .i64 1000000000)], some (25, false)⟩,
  ⟨29, .pick (.t 25) (.c (.bool true)) (.t 28), none⟩,
  ⟨30, .mv (.t 29), none⟩,
  ⟨31, .fld 3 (.t 4), some (30, false)⟩,
  ⟨32, .load (.t 31), some (30, false)⟩,
  ⟨33, .call 23 [.t 32, .c (.int .i64 0), .c (.int .i64 100000)], some (30, false)⟩,
  ⟨34, .pick (.t 30) (.c (.bool true)) (.t 33), none⟩,
  ⟨16, .asg (.t 34), none⟩]
def r13_7 : List POp := [⟨2, .asg (.c (.int .i64 1)), none⟩]
def r13_8 : List POp := [⟨36, .mv (.t 3), none⟩,
  ⟨37, .bin .gtr (.t 36) (.c (.int .i64 0)), none⟩,
  ⟨38, .mv (.t 37), none⟩,
  ⟨39, .fld 0 (.t 4), some (38, true)⟩,
  ⟨40, .load (.t 39), some (38, true)⟩,
  ⟨41, .mv (.t 0), some (38, true)⟩,
  ⟨42, .mv (.t 3), some (38, true)⟩,
  ⟨43, .bin .sub (.t 42) (.c (.int .i64 1)), some (38, true)⟩,
  ⟨44, .idx 5 (.t 41) (.t 43), some (38, true)⟩,
  ⟨45, .fld 0 (.t 44), some (38, true)⟩,
  ⟨46, .load (.t 45), some (38, true)⟩,
  ⟨47, .mv (.t 0), some (38, true)⟩,
  ⟨48, .mv (.t 3), some (38, true)⟩,
  ⟨49, .bin .sub (.t 48) (.c (.int .i64 1)), some (38, true)⟩,
  ⟨50, .idx 5 (.t 47) (.t 49), some (38, true)⟩,
  ⟨51, .fld 1 (.t 50), some (38, true)⟩,
  ⟨52, .load (.t 51), some (38, true)⟩,
  ⟨53, .bin .add (.t 46) (.t 52), some (38, true)⟩,
  ⟨54, .bin .neq (.t 40) (.t 53), some (38, true)⟩,
  ⟨55, .pick (.t 38) (.t 54) (.c (.bool false)), none⟩,
  ⟨35, .asg (.t 55), none⟩]
def r13_9 : List POp := [⟨2, .asg (.c (.int .i64 8)), none⟩]
def r13_10 : List POp := [⟨56, .bin .add (.t 11) (.c (.int .i64 1)), none⟩,
  ⟨11, .mv (.t 56), none⟩]
def r13_11 : List POp := [⟨57, .mv (.t 0), none⟩,
  ⟨58, .len (.t 57), none⟩,
  ⟨5, .asg (.t 58), none⟩]
def r13_12 : List POp := [⟨59, .mv (.t 5), none⟩,
  ⟨60, .bin .gtr (.t 59) (.c (.int .i64 0)), none⟩,
  ⟨61, .mv (.t 60), none⟩,
  ⟨62, .mv (.t 0), some (61, true)⟩,
  ⟨63, .mv (.t 5), some (61, true)⟩,
  ⟨64, .bin .sub (.t 63) (.c (.int .i64 1)), some (61, true)⟩,
  ⟨65, .idx 5 (.t 62) (.t 64), some (61, true)⟩,
  ⟨66, .fld 0 (.t 65), some (61, true)⟩,
  ⟨67, .load (.t 66), some (61, true)⟩,
  ⟨68, .mv (.t 0), some (61, true)⟩,
  ⟨69, .mv (.t 5), some (61, true)⟩,
  ⟨70, .bin .sub (.t 69) (.c (.int .i64 1)), some (61, true)⟩,
  ⟨71, .idx 5 (.t 68) (.t 70), some (61, true)⟩,
  ⟨72, .fld 1 (.t 71), some (61, true)⟩,
  ⟨73, .load (.t 72), some (61, true)⟩,
  ⟨74, .bin .add (.t 67) (.t 73), some (61, true)⟩,
  ⟨75, .call 22 [.t 74], some (61, true)⟩,
  ⟨76, .pick (.t 61) (.t 75) (.c (.bool false)), none⟩]
def r13_13 : List POp := [⟨2, .asg (.c (.int .i64 1)), none⟩]
def r13_14 : List POp := [⟨2, .asg (.c (.int .i64 0)), none⟩]
def l13_0 : PCode := .seq (.ops r13_4) (.seq (.cond (.t 12) (.skip) (.exit 0)) (.seq (.block 1 (.seq (.ops r13_5) (.block 2 (.seq (.ops r13_6) (.cond (.t 16) (.seq (.ops r13_7) (.ret)) (.seq (.ops r13_8) (.cond (.t 35) (.seq (.ops r13_9) (.ret)) (.skip)))))))) (.ops r13_10)))
def p13 : PCode := .seq (.ops r13_0) (.seq (.seq (.ops r13_1) (.cond (.t 8) (.seq (.ops r13_2) (.ret)) (.skip))) (.seq (.seq (.ops r13_3) (.block 0 (.loop l13_0))) (.seq (.seq (.ops r13_11) (.seq (.ops r13_12) (.cond (.t 76) (.seq (.ops r13_13) (.ret)) (.skip)))) (.seq (.ops r13_14) (.ret)))))
theorem ok13 : okFunc Try.prog 13 [.t 2] 1 p13 = true := by kernel_rfl
def badSmp (s : Smp) : Bool := noTime s.time || outB s.step 0 1000000000 || outB s.shift (-1000000000) 1000000000 || outB s.size 0 100000
def smpGo : Option Int → List Smp → Int
  | _, [] => 0
  | p, s :: r => if badSmp s then 1 else if p.any fun q => s.time != q then 8 else smpGo (some s.endW) r
def smpF (l : List Smp) : Int := if 5000 < l.length then 2 else if smpGo none l ≠ 0 then smpGo none l else if l.getLast?.any fun s => noTime s.endW then 1 else 0
def prvS (l : List Smp) (k : Nat) : Option Int := if k = 0 then none else l[k-1]?.map Smp.endW
theorem prvS_succ (l : List Smp) (k : Nat) (h : k < l.length) : prvS l (k + 1) = some l[k].endW := by simp [prvS, h]
theorem smp_c (l : List Smp) : CallOK Try.prog 13 [.ro (l.map Smp.av)] (.val (.int .i64 (smpF l))) := by
  refine call_of mixed ok13 rfl ?_
  repeat' first | ((with_reducible (first | refine condD ?_ ?_ | refine condE ?_ ?_ | refine condN ?_ ?_ | refine condI ?_ ?_ | refine condS ?_ ?_)) <;> intro h) | ((with_reducible (first | refine guardD (by with_unfolding_all rfl) ?_ ?_ | refine guardE (by with_unfolding_all rfl) ?_ ?_ | refine guardN (by with_unfolding_all rfl) ?_ ?_ | refine guardI (by with_unfolding_all rfl) ?_ ?_ | refine guardS (by with_unfolding_all rfl) ?_ ?_)) <;> intro h) | (with_reducible refine And.intro ?_ ?_; omega) | (simp only [done_eq, done_eq', donet_eq, donet_eq', fin_val, fin_tup, fin_agg, fin_ro, res_one, res_more, rv_t, rv_c, rv_l, AV.tup.injEq, AV.agg.injEq, AV.ro.injEq, List.cons.injEq, int_eq, bool_eq, Int.toNat_natCast, Int.reduceToNat, Int.toNat_zero, Int.toNat_one, Int.reduceLE, Int.reduceLT, Int.reduceBEq, Int.reduceBNe, beq_self_eq_true, bne_self_eq_false, decide_true, decide_false,  Int.reduceNeg, toNat_pred, toNat_succ, List.length_map, cnd_t, cnd_f, grd_tt, grd_u, grd_tf, grd_ft, grd_ff, g_skip, g_ops, g_seq, g_block, g_exit, g_ret, x_c, x_o, x_l, x_b, g_b, g_nil, r_all, o_nil, g_cond, o_guard, o_call, o_callm, o_callt, o_callx, o_callv, o_callc, o_callh, o_apph, noav_alias, noav_nil, lk, ef, o_mv, o_pick, o_bin, o_never, o_eqs, o_eqb, o_un, o_conv, o_load, o_loadr, o_idxr, o_loads, o_loadsr, o_fld, o_idx, o_idxs, o_len, o_lens, o_ext, o_nilck, o_slc, o_slcs, o_build, o_minmax, o_mkfn, o_mkfnr, o_alloc, o_box, o_boxs, o_row, o_rowr, o_mk, o_asg, o_app, o_appa, o_store, o_stores, o_eqnil, hv, eqAV, ev, view_t, view_c, view_nil, view_fn, look_own, look_box, look_junk, look_val, look_nilsl, look_ro, look_roAt, look_agg, look_tup, look_clo, look_alias, look_ref, look_into, look_fnv, look_held, rowOf, cellsOf, argv, vbin, vun, bnd, elemOf, putParts, setAt, zav, ASt.rid, ASt.hold, ASt.free, AV.kill, AV.isHome, AV.noLoan, AV.cellOK, Value.oneCell', put_at, mk_at, mk_nil, initSt, true_and, and_true, and_self, implies_true, List.map_cons, List.map_nil, List.forall_mem_cons, List.not_mem_nil, false_implies, List.length_cons, List.length_nil, List.getD_cons_zero, List.getD_cons_succ, List.getD_nil, List.drop_succ_cons, List.drop_zero, List.take_succ_cons, List.take_zero, List.set_cons_zero, List.set_cons_succ, List.all_cons, List.all_nil, Bool.and_true, Bool.true_and, Bool.not_true, Bool.not_false, reduceCtorEq, if_true, if_false, Bool.false_eq_true, ↓reduceIte, Nat.reduceEqDiff, Nat.reduceBNe, Nat.reduceAdd, Nat.reduceSub, Nat.reduceMul, Nat.reduceLeDiff, Nat.reduceLT, ne_eq, not_false_eq_true, not_true_eq_false, Nat.one_ne_zero, Nat.zero_ne_one, r13_0, r13_1, r13_2, r13_3, r13_4, r13_5, r13_6, r13_7, r13_8, r13_9, r13_10, r13_11, r13_12, r13_13, r13_14, p13]) | (exfalso; omega)
  · rw [smpF, if_pos (by omega)]
  · have hl : l.length ≤ 5000 := by omega
    have hr0 : smpF l = if smpGo none l ≠ 0 then smpGo none l else if l.getLast?.any fun s => noTime s.endW then 1 else 0 := if_neg (by omega)
    refine loopS (fun k : Nat => mk [(0, .ro (l.map Smp.av)), (9, .ro (l.map Smp.av)), (10, .val (.int .i64 l.length)), (11, .val (.int .i64 k))]) (fun k => k ≤ l.length ∧ smpGo none l = smpGo (prvS l k) (l.drop k)) (fun k => l.length - k) 0 (weak_mk ?_) ?_ ?_
    · simp only [wk_cons, wk_nil, wk1, vint_eq, vbool_eq, AV.val.injEq, done_eq, done_eq', donet_eq, donet_eq', fin_val, fin_tup, fin_agg, fin_ro, res_one, res_more, rv_t, rv_c, rv_l, AV.tup.injEq, AV.agg.injEq, AV.ro.injEq, List.cons.injEq, int_eq, bool_eq, Int.toNat_natCast, Int.reduceToNat, Int.toNat_zero, Int.toNat_one, Int.reduceLE, Int.reduceLT, Int.reduceBEq, Int.reduceBNe, beq_self_eq_true, bne_self_eq_false, decide_true, decide_false,  Int.reduceNeg, toNat_pred, toNat_succ, List.length_map, cnd_t, cnd_f, grd_tt, grd_u, grd_tf, grd_ft, grd_ff, g_skip, g_ops, g_seq, g_block, g_exit, g_ret, x_c, x_o, x_l, x_b, g_b, g_nil, r_all, o_nil, g_cond, o_guard, o_call, o_callm, o_callt, o_callx, o_callv, o_callc, o_callh, o_apph, noav_alias, noav_nil, lk, ef, o_mv, o_pick, o_bin, o_never, o_eqs, o_eqb, o_un, o_conv, o_load, o_loadr, o_idxr, o_loads, o_loadsr, o_fld, o_idx, o_idxs, o_len, o_lens, o_ext, o_nilck, o_slc, o_slcs, o_build, o_minmax, o_mkfn, o_mkfnr, o_alloc, o_box, o_boxs, o_row, o_rowr, o_mk, o_asg, o_app, o_appa, o_store, o_stores, o_eqnil, hv, eqAV, ev, view_t, view_c, view_nil, view_fn, look_own, look_box, look_junk, look_val, look_nilsl, look_ro, look_roAt, look_agg, look_tup, look_clo, look_alias, look_ref, look_into, look_fnv, look_held, rowOf, cellsOf, argv, vbin, vun, bnd, elemOf, putParts, setAt, zav, ASt.rid, ASt.hold, ASt.free, AV.kill, AV.isHome, AV.noLoan, AV.cellOK, Value.oneCell', put_at, mk_at, mk_nil, initSt, true_and, and_true, and_self, implies_true, List.map_cons, List.map_nil, List.forall_mem_cons, List.not_mem_nil, false_implies, List.length_cons, List.length_nil, List.getD_cons_zero, List.getD_cons_succ, List.getD_nil, List.drop_succ_cons, List.drop_zero, List.take_succ_cons, List.take_zero, List.set_cons_zero, List.set_cons_succ, List.all_cons, List.all_nil, Bool.and_true, Bool.true_and, Bool.not_true, Bool.not_false, reduceCtorEq, if_true, if_false, Bool.false_eq_true, ↓reduceIte, Nat.reduceEqDiff, Nat.reduceBNe, Nat.reduceAdd, Nat.reduceSub, Nat.reduceMul, Nat.reduceLeDiff, Nat.reduceLT, ne_eq, not_false_eq_true, not_true_eq_false, Nat.one_ne_zero, Nat.zero_ne_one]
      simp
    · exact ⟨Nat.zero_le _, by simp [prvS]⟩
    · rintro J hJ k ⟨hk, hg⟩
      simp only [done_eq, done_eq', donet_eq, donet_eq', fin_val, fin_tup, fin_agg, fin_ro, res_one, res_more, rv_t, rv_c, rv_l, AV.tup.injEq, AV.agg.injEq, AV.ro.injEq, List.cons.injEq, int_eq, bool_eq, Int.toNat_natCast, Int.reduceToNat, Int.toNat_zero, Int.toNat_one, Int.reduceLE, Int.reduceLT, Int.reduceBEq, Int.reduceBNe, beq_self_eq_true, bne_self_eq_false, decide_true, decide_false,  Int.reduceNeg, toNat_pred, toNat_succ, List.length_map, cnd_t, cnd_f, grd_tt, grd_u, grd_tf, grd_ft, grd_ff, g_skip, g_ops, g_seq, g_block, g_exit, g_ret, x_c, x_o, x_l, x_b, g_b, g_nil, r_all, o_nil, g_cond, o_guard, o_call, o_callm, o_callt, o_callx, o_callv, o_callc, o_callh, o_apph, noav_alias, noav_nil, lk, ef, o_mv, o_pick, o_bin, o_never, o_eqs, o_eqb, o_un, o_conv, o_load, o_loadr, o_idxr, o_loads, o_loadsr, o_fld, o_idx, o_idxs, o_len, o_lens, o_ext, o_nilck, o_slc, o_slcs, o_build, o_minmax, o_mkfn, o_mkfnr, o_alloc, o_box, o_boxs, o_row, o_rowr, o_mk, o_asg, o_app, o_appa, o_store, o_stores, o_eqnil, hv, eqAV, ev, view_t, view_c, view_nil, view_fn, look_own, look_box, look_junk, look_val, look_nilsl, look_ro, look_roAt, look_agg, look_tup, look_clo, look_alias, look_ref, look_into, look_fnv, look_held, rowOf, cellsOf, argv, vbin, vun, bnd, elemOf, putParts, setAt, zav, ASt.rid, ASt.hold, ASt.free, AV.kill, AV.isHome, AV.noLoan, AV.cellOK, Value.oneCell', put_at, mk_at, mk_nil, initSt, true_and, and_true, and_self, implies_true, List.map_cons, List.map_nil, List.forall_mem_cons, List.not_mem_nil, false_implies, List.length_cons, List.length_nil, List.getD_cons_zero, List.getD_cons_succ, List.getD_nil, List.drop_succ_cons, List.drop_zero, List.take_succ_cons, List.take_zero, List.set_cons_zero, List.set_cons_succ, List.all_cons, List.all_nil, Bool.and_true, Bool.true_and, Bool.not_true, Bool.not_false, reduceCtorEq, if_true, if_false, Bool.false_eq_true, ↓reduceIte, Nat.reduceEqDiff, Nat.reduceBNe, Nat.reduceAdd, Nat.reduceSub, Nat.reduceMul, Nat.reduceLeDiff, Nat.reduceLT, ne_eq, not_false_eq_true, not_true_eq_false, Nat.one_ne_zero, Nat.zero_ne_one, r13_0, r13_1, r13_2, r13_3, r13_4, r13_5, r13_6, r13_7, r13_8, r13_9, r13_10, r13_11, r13_12, r13_13, r13_14, p13, l13_0]
      refine condD (fun h => ?_) (fun h => ?_)
      · have hlt : k < l.length := by omega
        have hr : smpGo none l = if badSmp l[k] then 1 else if (prvS l k).any fun q => l[k].time != q then 8 else smpGo (prvS l (k + 1)) (l.drop (k + 1)) := by
          rw [hg, List.drop_eq_getElem_cons hlt, smpGo, prvS_succ _ _ hlt]
        have hw : IntKind.i64.wrap (k + 1 : Int) = ((k + 1 : Nat) : Int) := wrap_in (by omega) (by omega)
        clear hg
        rcases Nat.eq_zero_or_pos k with rfl | hp
        · repeat' first | ((with_reducible (first | refine condD ?_ ?_ | refine condE ?_ ?_ | refine condN ?_ ?_ | refine condI ?_ ?_ | refine condS ?_ ?_)) <;> intro h) | ((with_reducible (first | refine guardD (by with_unfolding_all rfl) ?_ ?_ | refine guardE (by with_unfolding_all rfl) ?_ ?_ | refine guardN (by with_unfolding_all rfl) ?_ ?_ | refine guardI (by with_unfolding_all rfl) ?_ ?_ | refine guardS (by with_unfolding_all rfl) ?_ ?_)) <;> intro h) | ((refine callG (notime_c _) ?_)) | ((refine callG (out_c _ _ _) ?_)) | (with_reducible refine And.intro ?_ ?_; omega) | (simp only [done_eq, done_eq', donet_eq, donet_eq', fin_val, fin_tup, fin_agg, fin_ro, res_one, res_more, rv_t, rv_c, rv_l, AV.tup.injEq, AV.agg.injEq, AV.ro.injEq, List.cons.injEq, int_eq, bool_eq, Int.toNat_natCast, Int.reduceToNat, Int.toNat_zero, Int.toNat_one, Int.reduceLE, Int.reduceLT, Int.reduceBEq, Int.reduceBNe, beq_self_eq_true, bne_self_eq_false, decide_true, decide_false,  Int.reduceNeg, toNat_pred, toNat_succ, List.length_map, cnd_t, cnd_f, grd_tt, grd_u, grd_tf, grd_ft, grd_ff, g_skip, g_ops, g_seq, g_block, g_exit, g_ret, x_c, x_o, x_l, x_b, g_b, g_nil, r_all, o_nil, g_cond, o_guard, o_call, o_callm, o_callt, o_callx, o_callv, o_callc, o_callh, o_apph, noav_alias, noav_nil, lk, ef, o_mv, o_pick, o_bin, o_never, o_eqs, o_eqb, o_un, o_conv, o_load, o_loadr, o_idxr, o_loads, o_loadsr, o_fld, o_idx, o_idxs, o_len, o_lens, o_ext, o_nilck, o_slc, o_slcs, o_build, o_minmax, o_mkfn, o_mkfnr, o_alloc, o_box, o_boxs, o_row, o_rowr, o_mk, o_asg, o_app, o_appa, o_store, o_stores, o_eqnil, hv, eqAV, ev, view_t, view_c, view_nil, view_fn, look_own, look_box, look_junk, look_val, look_nilsl, look_ro, look_roAt, look_agg, look_tup, look_clo, look_alias, look_ref, look_into, look_fnv, look_held, rowOf, cellsOf, argv, vbin, vun, bnd, elemOf, putParts, setAt, zav, ASt.rid, ASt.hold, ASt.free, AV.kill, AV.isHome, AV.noLoan, AV.cellOK, Value.oneCell', put_at, mk_at, mk_nil, initSt, true_and, and_true, and_self, implies_true, List.map_cons, List.map_nil, List.forall_mem_cons, List.not_mem_nil, false_implies, List.length_cons, List.length_nil, List.getD_cons_zero, List.getD_cons_succ, List.getD_nil, List.drop_succ_cons, List.drop_zero, List.take_succ_cons, List.take_zero, List.set_cons_zero, List.set_cons_succ, List.all_cons, List.all_nil, Bool.and_true, Bool.true_and, Bool.not_true, Bool.not_false, reduceCtorEq, if_true, if_false, Bool.false_eq_true, ↓reduceIte, Nat.reduceEqDiff, Nat.reduceBNe, Nat.reduceAdd, Nat.reduceSub, Nat.reduceMul, Nat.reduceLeDiff, Nat.reduceLT, ne_eq, not_false_eq_true, not_true_eq_false, Nat.one_ne_zero, Nat.zero_ne_one, r13_0, r13_1, r13_2, r13_3, r13_4, r13_5, r13_6, r13_7, r13_8, r13_9, r13_10, r13_11, r13_12, r13_13, r13_14, p13, l13_0, Smp.av, getD_map hlt]) | (exfalso; omega)
          all_goals try (clear hJ; simp [hr0, hr, badSmp, prvS, *]; done)
          exact again hJ (0 + 1) (weak_mk (by simp only [wk_cons, wk_nil, wk1, vint_eq, vbool_eq, AV.val.injEq, done_eq, done_eq', donet_eq, donet_eq', fin_val, fin_tup, fin_agg, fin_ro, res_one, res_more, rv_t, rv_c, rv_l, AV.tup.injEq, AV.agg.injEq, AV.ro.injEq, List.cons.injEq, int_eq, bool_eq, Int.toNat_natCast, Int.reduceToNat, Int.toNat_zero, Int.toNat_one, Int.reduceLE, Int.reduceLT, Int.reduceBEq, Int.reduceBNe, beq_self_eq_true, bne_self_eq_false, decide_true, decide_false,  Int.reduceNeg, toNat_pred, toNat_succ, List.length_map, cnd_t, cnd_f, grd_tt, grd_u, grd_tf, grd_ft, grd_ff, g_skip, g_ops, g_seq, g_block, g_exit, g_ret, x_c, x_o, x_l, x_b, g_b, g_nil, r_all, o_nil, g_cond, o_guard, o_call, o_callm, o_callt, o_callx, o_callv, o_callc, o_callh, o_apph, noav_alias, noav_nil, lk, ef, o_mv, o_pick, o_bin, o_never, o_eqs, o_eqb, o_un, o_conv, o_load, o_loadr, o_idxr, o_loads, o_loadsr, o_fld, o_idx, o_idxs, o_len, o_lens, o_ext, o_nilck, o_slc, o_slcs, o_build, o_minmax, o_mkfn, o_mkfnr, o_alloc, o_box, o_boxs, o_row, o_rowr, o_mk, o_asg, o_app, o_appa, o_store, o_stores, o_eqnil, hv, eqAV, ev, view_t, view_c, view_nil, view_fn, look_own, look_box, look_junk, look_val, look_nilsl, look_ro, look_roAt, look_agg, look_tup, look_clo, look_alias, look_ref, look_into, look_fnv, look_held, rowOf, cellsOf, argv, vbin, vun, bnd, elemOf, putParts, setAt, zav, ASt.rid, ASt.hold, ASt.free, AV.kill, AV.isHome, AV.noLoan, AV.cellOK, Value.oneCell', put_at, mk_at, mk_nil, initSt, true_and, and_true, and_self, implies_true, List.map_cons, List.map_nil, List.forall_mem_cons, List.not_mem_nil, false_implies, List.length_cons, List.length_nil, List.getD_cons_zero, List.getD_cons_succ, List.getD_nil, List.drop_succ_cons, List.drop_zero, List.take_succ_cons, List.take_zero, List.set_cons_zero, List.set_cons_succ, List.all_cons, List.all_nil, Bool.and_true, Bool.true_and, Bool.not_true, Bool.not_false, reduceCtorEq, if_true, if_false, Bool.false_eq_true, ↓reduceIte, Nat.reduceEqDiff, Nat.reduceBNe, Nat.reduceAdd, Nat.reduceSub, Nat.reduceMul, Nat.reduceLeDiff, Nat.reduceLT, ne_eq, not_false_eq_true, not_true_eq_false, Nat.one_ne_zero, Nat.zero_ne_one]; exact hw)) ⟨by omega, by simp [hr, badSmp, prvS, *, -hJ]⟩ (by omega)
        · have hlt1 : k - 1 < l.length := by omega
          have hw1 : IntKind.i64.wrap (k - 1 : Int) = ((k - 1 : Nat) : Int) := by rw [wrap_in (by omega) (by omega)]; omega
          have hpv : prvS l k = some l[k-1].endW := by simp [prvS, hlt1]; omega
          have he1 : IntKind.i64.wrap (l[k-1].time + l[k-1].step) = l[k-1].endW := rfl
          repeat' first | ((with_reducible (first | refine condD ?_ ?_ | refine condE ?_ ?_ | refine condN ?_ ?_ | refine condI ?_ ?_ | refine condS ?_ ?_)) <;> intro h) | ((with_reducible (first | refine guardD (by with_unfolding_all rfl) ?_ ?_ | refine guardE (by with_unfolding_all rfl) ?_ ?_ | refine guardN (by with_unfolding_all rfl) ?_ ?_ | refine guardI (by with_unfolding_all rfl) ?_ ?_ | refine guardS (by with_unfolding_all rfl) ?_ ?_)) <;> intro h) | ((refine callG (notime_c _) ?_)) | ((refine callG (out_c _ _ _) ?_)) | (with_reducible refine And.intro ?_ ?_; omega) | (simp only [done_eq, done_eq', donet_eq, donet_eq', fin_val, fin_tup, fin_agg, fin_ro, res_one, res_more, rv_t, rv_c, rv_l, AV.tup.injEq, AV.agg.injEq, AV.ro.injEq, List.cons.injEq, int_eq, bool_eq, Int.toNat_natCast, Int.reduceToNat, Int.toNat_zero, Int.toNat_one, Int.reduceLE, Int.reduceLT, Int.reduceBEq, Int.reduceBNe, beq_self_eq_true, bne_self_eq_false, decide_true, decide_false,  Int.reduceNeg, toNat_pred, toNat_succ, List.length_map, cnd_t, cnd_f, grd_tt, grd_u, grd_tf, grd_ft, grd_ff, g_skip, g_ops, g_seq, g_block, g_exit, g_ret, x_c, x_o, x_l, x_b, g_b, g_nil, r_all, o_nil, g_cond, o_guard, o_call, o_callm, o_callt, o_callx, o_callv, o_callc, o_callh, o_apph, noav_alias, noav_nil, lk, ef, o_mv, o_pick, o_bin, o_never, o_eqs, o_eqb, o_un, o_conv, o_load, o_loadr, o_idxr, o_loads, o_loadsr, o_fld, o_idx, o_idxs, o_len, o_lens, o_ext, o_nilck, o_slc, o_slcs, o_build, o_minmax, o_mkfn, o_mkfnr, o_alloc, o_box, o_boxs, o_row, o_rowr, o_mk, o_asg, o_app, o_appa, o_store, o_stores, o_eqnil, hv, eqAV, ev, view_t, view_c, view_nil, view_fn, look_own, look_box, look_junk, look_val, look_nilsl, look_ro, look_roAt, look_agg, look_tup, look_clo, look_alias, look_ref, look_into, look_fnv, look_held, rowOf, cellsOf, argv, vbin, vun, bnd, elemOf, putParts, setAt, zav, ASt.rid, ASt.hold, ASt.free, AV.kill, AV.isHome, AV.noLoan, AV.cellOK, Value.oneCell', put_at, mk_at, mk_nil, initSt, true_and, and_true, and_self, implies_true, List.map_cons, List.map_nil, List.forall_mem_cons, List.not_mem_nil, false_implies, List.length_cons, List.length_nil, List.getD_cons_zero, List.getD_cons_succ, List.getD_nil, List.drop_succ_cons, List.drop_zero, List.take_succ_cons, List.take_zero, List.set_cons_zero, List.set_cons_succ, List.all_cons, List.all_nil, Bool.and_true, Bool.true_and, Bool.not_true, Bool.not_false, reduceCtorEq, if_true, if_false, Bool.false_eq_true, ↓reduceIte, Nat.reduceEqDiff, Nat.reduceBNe, Nat.reduceAdd, Nat.reduceSub, Nat.reduceMul, Nat.reduceLeDiff, Nat.reduceLT, ne_eq, not_false_eq_true, not_true_eq_false, Nat.one_ne_zero, Nat.zero_ne_one, r13_0, r13_1, r13_2, r13_3, r13_4, r13_5, r13_6, r13_7, r13_8, r13_9, r13_10, r13_11, r13_12, r13_13, r13_14, p13, l13_0, Smp.av, getD_map hlt, getD_map hlt1, hw1, he1]) | (exfalso; omega)
          all_goals try (clear hJ; simp [hr0, hr, badSmp, *]; done)
          exact again hJ (k + 1) (weak_mk (by simp only [wk_cons, wk_nil, wk1, vint_eq, vbool_eq, AV.val.injEq, done_eq, done_eq', donet_eq, donet_eq', fin_val, fin_tup, fin_agg, fin_ro, res_one, res_more, rv_t, rv_c, rv_l, AV.tup.injEq, AV.agg.injEq, AV.ro.injEq, List.cons.injEq, int_eq, bool_eq, Int.toNat_natCast, Int.reduceToNat, Int.toNat_zero, Int.toNat_one, Int.reduceLE, Int.reduceLT, Int.reduceBEq, Int.reduceBNe, beq_self_eq_true, bne_self_eq_false, decide_true, decide_false,  Int.reduceNeg, toNat_pred, toNat_succ, List.length_map, cnd_t, cnd_f, grd_tt, grd_u, grd_tf, grd_ft, grd_ff, g_skip, g_ops, g_seq, g_block, g_exit, g_ret, x_c, x_o, x_l, x_b, g_b, g_nil, r_all, o_nil, g_cond, o_guard, o_call, o_callm, o_callt, o_callx, o_callv, o_callc, o_callh, o_apph, noav_alias, noav_nil, lk, ef, o_mv, o_pick, o_bin, o_never, o_eqs, o_eqb, o_un, o_conv, o_load, o_loadr, o_idxr, o_loads, o_loadsr, o_fld, o_idx, o_idxs, o_len, o_lens, o_ext, o_nilck, o_slc, o_slcs, o_build, o_minmax, o_mkfn, o_mkfnr, o_alloc, o_box, o_boxs, o_row, o_rowr, o_mk, o_asg, o_app, o_appa, o_store, o_stores, o_eqnil, hv, eqAV, ev, view_t, view_c, view_nil, view_fn, look_own, look_box, look_junk, look_val, look_nilsl, look_ro, look_roAt, look_agg, look_tup, look_clo, look_alias, look_ref, look_into, look_fnv, look_held, rowOf, cellsOf, argv, vbin, vun, bnd, elemOf, putParts, setAt, zav, ASt.rid, ASt.hold, ASt.free, AV.kill, AV.isHome, AV.noLoan, AV.cellOK, Value.oneCell', put_at, mk_at, mk_nil, initSt, true_and, and_true, and_self, implies_true, List.map_cons, List.map_nil, List.forall_mem_cons, List.not_mem_nil, false_implies, List.length_cons, List.length_nil, List.getD_cons_zero, List.getD_cons_succ, List.getD_nil, List.drop_succ_cons, List.drop_zero, List.take_succ_cons, List.take_zero, List.set_cons_zero, List.set_cons_succ, List.all_cons, List.all_nil, Bool.and_true, Bool.true_and, Bool.not_true, Bool.not_false, reduceCtorEq, if_true, if_false, Bool.false_eq_true, ↓reduceIte, Nat.reduceEqDiff, Nat.reduceBNe, Nat.reduceAdd, Nat.reduceSub, Nat.reduceMul, Nat.reduceLeDiff, Nat.reduceLT, ne_eq, not_false_eq_true, not_true_eq_false, Nat.one_ne_zero, Nat.zero_ne_one]; exact hw)) ⟨by omega, by rw [hr, if_neg (by simp only [badSmp, Bool.or_eq_true, not_or, Bool.not_eq_true]; refine ⟨⟨⟨?_, ?_⟩, ?_⟩, ?_⟩ <;> assumption), if_neg (by simpa [hpv] using h)]⟩ (by omega)
      · have hke : k = l.length := by omega
        subst hke
        have hz : smpGo none l = 0 := by rw [hg]; simp [smpGo]
        clear hg hJ
        rcases Nat.eq_zero_or_pos l.length with h0 | hp
        · have hn : l = [] := List.eq_nil_of_length_eq_zero h0
          subst hn
          repeat' first | ((with_reducible (first | refine condD ?_ ?_ | refine condE ?_ ?_ | refine condN ?_ ?_ | refine condI ?_ ?_ | refine condS ?_ ?_)) <;> intro h) | ((with_reducible (first | refine guardD (by with_unfolding_all rfl) ?_ ?_ | refine guardE (by with_unfolding_all rfl) ?_ ?_ | refine guardN (by with_unfolding_all rfl) ?_ ?_ | refine guardI (by with_unfolding_all rfl) ?_ ?_ | refine guardS (by with_unfolding_all rfl) ?_ ?_)) <;> intro h) | (with_reducible refine And.intro ?_ ?_; omega) | (simp only [done_eq, done_eq', donet_eq, donet_eq', fin_val, fin_tup, fin_agg, fin_ro, res_one, res_more, rv_t, rv_c, rv_l, AV.tup.injEq, AV.agg.injEq, AV.ro.injEq, List.cons.injEq, int_eq, bool_eq, Int.toNat_natCast, Int.reduceToNat, Int.toNat_zero, Int.toNat_one, Int.reduceLE, Int.reduceLT, Int.reduceBEq, Int.reduceBNe, beq_self_eq_true, bne_self_eq_false, decide_true, decide_false,  Int.reduceNeg, toNat_pred, toNat_succ, List.length_map, cnd_t, cnd_f, grd_tt, grd_u, grd_tf, grd_ft, grd_ff, g_skip, g_ops, g_seq, g_block, g_exit, g_ret, x_c, x_o, x_l, x_b, g_b, g_nil, r_all, o_nil, g_cond, o_guard, o_call, o_callm, o_callt, o_callx, o_callv, o_callc, o_callh, o_apph, noav_alias, noav_nil, lk, ef, o_mv, o_pick, o_bin, o_never, o_eqs, o_eqb, o_un, o_conv, o_load, o_loadr, o_idxr, o_loads, o_loadsr, o_fld, o_idx, o_idxs, o_len, o_lens, o_ext, o_nilck, o_slc, o_slcs, o_build, o_minmax, o_mkfn, o_mkfnr, o_alloc, o_box, o_boxs, o_row, o_rowr, o_mk, o_asg, o_app, o_appa, o_store, o_stores, o_eqnil, hv, eqAV, ev, view_t, view_c, view_nil, view_fn, look_own, look_box, look_junk, look_val, look_nilsl, look_ro, look_roAt, look_agg, look_tup, look_clo, look_alias, look_ref, look_into, look_fnv, look_held, rowOf, cellsOf, argv, vbin, vun, bnd, elemOf, putParts, setAt, zav, ASt.rid, ASt.hold, ASt.free, AV.kill, AV.isHome, AV.noLoan, AV.cellOK, Value.oneCell', put_at, mk_at, mk_nil, initSt, true_and, and_true, and_self, implies_true, List.map_cons, List.map_nil, List.forall_mem_cons, List.not_mem_nil, false_implies, List.length_cons, List.length_nil, List.getD_cons_zero, List.getD_cons_succ, List.getD_nil, List.drop_succ_cons, List.drop_zero, List.take_succ_cons, List.take_zero, List.set_cons_zero, List.set_cons_succ, List.all_cons, List.all_nil, Bool.and_true, Bool.true_and, Bool.not_true, Bool.not_false, reduceCtorEq, if_true, if_false, Bool.false_eq_true, ↓reduceIte, Nat.reduceEqDiff, Nat.reduceBNe, Nat.reduceAdd, Nat.reduceSub, Nat.reduceMul, Nat.reduceLeDiff, Nat.reduceLT, ne_eq, not_false_eq_true, not_true_eq_false, Nat.one_ne_zero, Nat.zero_ne_one, r13_0, r13_1, r13_2, r13_3, r13_4, r13_5, r13_6, r13_7, r13_8, r13_9, r13_10, r13_11, r13_12, r13_13, r13_14, p13, l13_0, List.length_nil, Int.natCast_zero]) | (exfalso; omega)
          all_goals simp [hr0, hz]
        · have hlt1 : l.length - 1 < l.length := by omega
          have hw1 : IntKind.i64.wrap (l.length - 1 : Int) = ((l.length - 1 : Nat) : Int) := by rw [wrap_in (by omega) (by omega)]; omega
          have he1 : IntKind.i64.wrap (l[l.length-1].time + l[l.length-1].step) = l[l.length-1].endW := rfl
          have hlast : l.getLast? = some l[l.length-1] := by rw [List.getLast?_eq_getElem?, List.getElem?_eq_getElem hlt1]
          repeat' first | ((with_reducible (first | refine condD ?_ ?_ | refine condE ?_ ?_ | refine condN ?_ ?_ | refine condI ?_ ?_ | refine condS ?_ ?_)) <;> intro h) | ((with_reducible (first | refine guardD (by with_unfolding_all rfl) ?_ ?_ | refine guardE (by with_unfolding_all rfl) ?_ ?_ | refine guardN (by with_unfolding_all rfl) ?_ ?_ | refine guardI (by with_unfolding_all rfl) ?_ ?_ | refine guardS (by with_unfolding_all rfl) ?_ ?_)) <;> intro h) | ((refine callG (notime_c _) ?_)) | (with_reducible refine And.intro ?_ ?_; omega) | (simp only [done_eq, done_eq', donet_eq, donet_eq', fin_val, fin_tup, fin_agg, fin_ro, res_one, res_more, rv_t, rv_c, rv_l, AV.tup.injEq, AV.agg.injEq, AV.ro.injEq, List.cons.injEq, int_eq, bool_eq, Int.toNat_natCast, Int.reduceToNat, Int.toNat_zero, Int.toNat_one, Int.reduceLE, Int.reduceLT, Int.reduceBEq, Int.reduceBNe, beq_self_eq_true, bne_self_eq_false, decide_true, decide_false,  Int.reduceNeg, toNat_pred, toNat_succ, List.length_map, cnd_t, cnd_f, grd_tt, grd_u, grd_tf, grd_ft, grd_ff, g_skip, g_ops, g_seq, g_block, g_exit, g_ret, x_c, x_o, x_l, x_b, g_b, g_nil, r_all, o_nil, g_cond, o_guard, o_call, o_callm, o_callt, o_callx, o_callv, o_callc, o_callh, o_apph, noav_alias, noav_nil, lk, ef, o_mv, o_pick, o_bin, o_never, o_eqs, o_eqb, o_un, o_conv, o_load, o_loadr, o_idxr, o_loads, o_loadsr, o_fld, o_idx, o_idxs, o_len, o_lens, o_ext, o_nilck, o_slc, o_slcs, o_build, o_minmax, o_mkfn, o_mkfnr, o_alloc, o_box, o_boxs, o_row, o_rowr, o_mk, o_asg, o_app, o_appa, o_store, o_stores, o_eqnil, hv, eqAV, ev, view_t, view_c, view_nil, view_fn, look_own, look_box, look_junk, look_val, look_nilsl, look_ro, look_roAt, look_agg, look_tup, look_clo, look_alias, look_ref, look_into, look_fnv, look_held, rowOf, cellsOf, argv, vbin, vun, bnd, elemOf, putParts, setAt, zav, ASt.rid, ASt.hold, ASt.free, AV.kill, AV.isHome, AV.noLoan, AV.cellOK, Value.oneCell', put_at, mk_at, mk_nil, initSt, true_and, and_true, and_self, implies_true, List.map_cons, List.map_nil, List.forall_mem_cons, List.not_mem_nil, false_implies, List.length_cons, List.length_nil, List.getD_cons_zero, List.getD_cons_succ, List.getD_nil, List.drop_succ_cons, List.drop_zero, List.take_succ_cons, List.take_zero, List.set_cons_zero, List.set_cons_succ, List.all_cons, List.all_nil, Bool.and_true, Bool.true_and, Bool.not_true, Bool.not_false, reduceCtorEq, if_true, if_false, Bool.false_eq_true, ↓reduceIte, Nat.reduceEqDiff, Nat.reduceBNe, Nat.reduceAdd, Nat.reduceSub, Nat.reduceMul, Nat.reduceLeDiff, Nat.reduceLT, ne_eq, not_false_eq_true, not_true_eq_false, Nat.one_ne_zero, Nat.zero_ne_one, r13_0, r13_1, r13_2, r13_3, r13_4, r13_5, r13_6, r13_7, r13_8, r13_9, r13_10, r13_11, r13_12, r13_13, r13_14, p13, l13_0, Smp.av, getD_map hlt1, hw1, he1]) | (exfalso; omega)
          all_goals simp [hr0, hz, hlast, *]
end Go.Proofs.Ytbdcnooafacldaa
