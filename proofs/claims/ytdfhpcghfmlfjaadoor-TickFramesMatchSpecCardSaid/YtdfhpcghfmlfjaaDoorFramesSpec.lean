/- TickFramesMatchSpec: FrameTime and FrameAt are as specified, with all errors. For every input; no condition. -/
import Derived.Test.YtdfhpcghfmlfjaaDoorKRefFrm
import Derived.Test.YtdfhpcghfmlfjaaDoorDmQ
import Derived.Test.YtdfhpcghfmlfjaaDoorRows
namespace Go.Proofs.YtdfhpcghfmlfjaaDoor
open Go.RowKit
set_option linter.unusedSimpArgs false
--@nrfl

/-! headend/headendlaw1.TickFramesMatchSpec -/
def r6_0 : List POp := [⟨10, .asg (.c (.bool false)), none⟩]
def r6_1 : List POp := [⟨20, .mv (.t 0), none⟩,
  ⟨21, .mv (.t 2), none⟩,
  ⟨22, .mv (.t 3), none⟩,
  ⟨23, .mv (.t 4), none⟩,
  ⟨24, .call 14 [.t 20, .t 21, .t 22, .t 23], none⟩,
  ⟨19, .mv (.t 24), none⟩,
  ⟨25, .ext 0 (.t 19), none⟩,
  ⟨26, .ext 1 (.t 19), none⟩,
  ⟨11, .mv (.t 25), none⟩,
  ⟨12, .mv (.t 26), none⟩]
def r6_2 : List POp := [⟨28, .mv (.t 0), none⟩,
  ⟨29, .mv (.t 2), none⟩,
  ⟨30, .mv (.t 3), none⟩,
  ⟨31, .mv (.t 4), none⟩,
  ⟨32, .call 15 [.t 28, .t 29, .t 30, .t 31], none⟩,
  ⟨27, .mv (.t 32), none⟩,
  ⟨33, .ext 0 (.t 27), none⟩,
  ⟨34, .ext 1 (.t 27), none⟩,
  ⟨13, .mv (.t 33), none⟩,
  ⟨14, .mv (.t 34), none⟩]
def r6_3 : List POp := [⟨36, .mv (.t 1), none⟩,
  ⟨37, .mv (.t 2), none⟩,
  ⟨38, .mv (.t 3), none⟩,
  ⟨39, .mv (.t 4), none⟩,
  ⟨40, .call 16 [.t 36, .t 37, .t 38, .t 39], none⟩,
  ⟨35, .mv (.t 40), none⟩,
  ⟨41, .ext 0 (.t 35), none⟩,
  ⟨42, .ext 1 (.t 35), none⟩,
  ⟨15, .mv (.t 41), none⟩,
  ⟨16, .mv (.t 42), none⟩]
def r6_4 : List POp := [⟨44, .mv (.t 1), none⟩,
  ⟨45, .mv (.t 2), none⟩,
  ⟨46, .mv (.t 3), none⟩,
  ⟨47, .mv (.t 4), none⟩,
  ⟨48, .call 17 [.t 44, .t 45, .t 46, .t 47], none⟩,
  ⟨43, .mv (.t 48), none⟩,
  ⟨49, .ext 0 (.t 43), none⟩,
  ⟨50, .ext 1 (.t 43), none⟩,
  ⟨17, .mv (.t 49), none⟩,
  ⟨18, .mv (.t 50), none⟩]
def r6_5 : List POp := [⟨51, .mv (.t 11), none⟩,
  ⟨52, .mv (.t 13), none⟩,
  ⟨53, .bin .eql (.t 51) (.t 52), none⟩,
  ⟨54, .mv (.t 53), none⟩,
  ⟨55, .mv (.t 12), some (54, true)⟩,
  ⟨56, .mv (.t 14), some (54, true)⟩,
  ⟨57, .bin .eql (.t 55) (.t 56), some (54, true)⟩,
  ⟨58, .pick (.t 54) (.t 57) (.c (.bool false)), none⟩,
  ⟨59, .mv (.t 58), none⟩,
  ⟨60, .mv (.t 15), some (59, true)⟩,
  ⟨61, .mv (.t 17), some (59, true)⟩,
  ⟨62, .bin .eql (.t 60) (.t 61), some (59, true)⟩,
  ⟨63, .pick (.t 59) (.t 62) (.c (.bool false)), none⟩,
  ⟨64, .mv (.t 63), none⟩,
  ⟨65, .mv (.t 16), some (64, true)⟩,
  ⟨66, .mv (.t 18), some (64, true)⟩,
  ⟨67, .bin .eql (.t 65) (.t 66), some (64, true)⟩,
  ⟨68, .pick (.t 64) (.t 67) (.c (.bool false)), none⟩,
  ⟨69, .mv (.t 68), none⟩,
  ⟨70, .call 9 [], some (69, true)⟩,
  ⟨71, .pick (.t 69) (.t 70) (.c (.bool false)), none⟩,
  ⟨10, .asg (.t 71), none⟩]
def p6 : PCode := .seq (.ops r6_0) (.seq (.ops r6_1) (.seq (.ops r6_2) (.seq (.ops r6_3) (.seq (.ops r6_4) (.seq (.ops r6_5) (.ret))))))
theorem ok6 : okFunc Tryd.prog 6 [.t 10] 5 p6 = true := by kernel_rfl
theorem framesspec_d (frame time frames seconds scale : Int) : CallOK Tryd.prog 6 [.val (.int .i64 frame), .val (.int .i64 time), .val (.int .i64 frames), .val (.int .i64 seconds), .val (.int .i64 scale)] (.val (.bool true)) := by
  refine call_of mixed ok6 rfl ?_
  obtain ⟨A1, A2, h1, h2⟩ : ∃ A1 A2 : Int, CallOK Tryd.prog 14 [.val (.int .i64 frame), .val (.int .i64 frames), .val (.int .i64 seconds), .val (.int .i64 scale)] (.tup [.val (.int .i64 A1), .val (.int .i64 A2)]) ∧ CallOK Tryd.prog 15 [.val (.int .i64 frame), .val (.int .i64 frames), .val (.int .i64 seconds), .val (.int .i64 scale)] (.tup [.val (.int .i64 A1), .val (.int .i64 A2)]) :=
    ⟨_, _, frametime_c frame frames seconds scale, rframetime_c frame frames seconds scale⟩
  obtain ⟨B1, B2, h3, h4⟩ : ∃ B1 B2 : Int, CallOK Tryd.prog 16 [.val (.int .i64 time), .val (.int .i64 frames), .val (.int .i64 seconds), .val (.int .i64 scale)] (.tup [.val (.int .i64 B1), .val (.int .i64 B2)]) ∧ CallOK Tryd.prog 17 [.val (.int .i64 time), .val (.int .i64 frames), .val (.int .i64 seconds), .val (.int .i64 scale)] (.tup [.val (.int .i64 B1), .val (.int .i64 B2)]) :=
    ⟨_, _, frameat_c time frames seconds scale, rframeat_c time frames seconds scale⟩
  have e1 : (A1 == A1) = true := by simp
  have e2 : (A2 == A2) = true := by simp
  have e3 : (B1 == B1) = true := by simp
  have e4 : (B2 == B2) = true := by simp
  repeat' first | ((with_reducible (first | refine condD ?_ ?_ | refine condE ?_ ?_ | refine condN ?_ ?_ | refine condI ?_ ?_ | refine condS ?_ ?_)) <;> intro h) | ((with_reducible (first | refine guardD (by with_unfolding_all rfl) ?_ ?_ | refine guardE (by with_unfolding_all rfl) ?_ ?_ | refine guardN (by with_unfolding_all rfl) ?_ ?_ | refine guardI (by with_unfolding_all rfl) ?_ ?_ | refine guardS (by with_unfolding_all rfl) ?_ ?_)) <;> intro h) | ((refine callG h1 ?_)) | ((refine callG h2 ?_)) | ((refine callG h3 ?_)) | ((refine callG h4 ?_)) | ((refine callG awake1_c ?_)) | (with_reducible refine And.intro ?_ ?_; omega) | (simp only [done_eq, done_eq', donet_eq, donet_eq', fin_val, fin_tup, fin_agg, fin_ro, res_one, res_more, rv_t, rv_c, rv_l, AV.tup.injEq, AV.agg.injEq, AV.ro.injEq, List.cons.injEq, int_eq, bool_eq, Int.toNat_natCast, Int.reduceToNat, Int.toNat_zero, Int.toNat_one, Int.reduceLE, Int.reduceLT, Int.reduceBEq, Int.reduceBNe, beq_self_eq_true, bne_self_eq_false, decide_true, decide_false,  Int.reduceNeg, toNat_pred, toNat_succ, List.length_map, cnd_t, cnd_f, grd_tt, grd_u, grd_tf, grd_ft, grd_ff, n_g_skip, n_g_ops, g_seq, g_block, n_g_exit, n_g_ret, n_x_c, n_x_o, n_x_l, n_x_b, n_g_b, n_g_nil, r_all, n_o_nil, g_cond, o_guard, o_call, o_callm, o_callt, o_callx, o_callv, n_lk, n_ef, n_o_mv, n_o_pick, n_o_bin, n_o_never, n_o_eqs, n_o_eqb, n_o_un, n_o_conv, n_o_load, n_o_loadr, n_o_idxr, n_o_loads, n_o_fld, n_o_idx, n_o_idxs, n_o_len, n_o_lens, n_o_ext, n_o_nilck, n_o_slc, n_o_slcs, n_o_build, n_o_minmax, n_o_mkfn, n_o_alloc, n_o_box, n_o_boxs, n_o_row, n_o_rowr, n_o_mk, n_o_asg, n_o_app, n_o_store, n_o_stores, n_o_eqnil, hv, eqAV, ev, view_t, view_c, view_nil, view_fn, look_own, look_box, look_junk, look_val, look_nilsl, look_ro, look_roAt, look_agg, look_tup, look_clo, look_alias, look_ref, look_into, rowOf, cellsOf, argv, vbin, vun, bnd, elemOf, putParts, setAt, zav, ASt.rid, ASt.free, AV.kill, AV.isHome, AV.noLoan, AV.cellOK, Value.oneCell', put_at, mk_at, mk_nil, initSt, true_and, and_true, and_self, implies_true, List.map_cons, List.map_nil, List.forall_mem_cons, List.not_mem_nil, false_implies, List.length_cons, List.length_nil, List.getD_cons_zero, List.getD_cons_succ, List.getD_nil, List.drop_succ_cons, List.drop_zero, List.take_succ_cons, List.take_zero, List.set_cons_zero, List.set_cons_succ, List.all_cons, List.all_nil, Bool.and_true, Bool.true_and, Bool.not_true, Bool.not_false, reduceCtorEq, if_true, if_false, Bool.false_eq_true, ↓reduceIte, Nat.reduceEqDiff, Nat.reduceAdd, Nat.reduceSub, Nat.reduceMul, Nat.reduceLeDiff, Nat.reduceLT, ne_eq, not_false_eq_true, not_true_eq_false, Nat.one_ne_zero, Nat.zero_ne_one, r6_0, r6_1, r6_2, r6_3, r6_4, r6_5, p6, e1, e2, e3, e4]) | (exfalso; omega)
theorem framesspec_c : ∀ avs, HasArgs [.one (.int .i64), .one (.int .i64), .one (.int .i64), .one (.int .i64), .one (.int .i64)] avs → CallOK Tryd.prog 6 avs (.val (.bool true)) := by
  intro avs h
  obtain ⟨v0, r, rfl, h0, h⟩ := args_cons h
  obtain ⟨v1, r, rfl, h1, h⟩ := args_cons h
  obtain ⟨v2, r, rfl, h2, h⟩ := args_cons h
  obtain ⟨v3, r, rfl, h3, h⟩ := args_cons h
  obtain ⟨v4, r, rfl, h4, h⟩ := args_cons h
  obtain rfl := args_nil h
  obtain ⟨n0, rfl, hb0⟩ := has_int h0
  obtain ⟨n1, rfl, hb1⟩ := has_int h1
  obtain ⟨n2, rfl, hb2⟩ := has_int h2
  obtain ⟨n3, rfl, hb3⟩ := has_int h3
  obtain ⟨n4, rfl, hb4⟩ := has_int h4
  exact framesspec_d n0 n1 n2 n3 n4

/-! ### The row -/
open Go.ChangeShapes Go.WideShapes Go.ChangeAt

set_option maxRecDepth 100000 in
theorem framesspec_door (os : Os) (args : Array Value) : laidMetH Tryd.prog Rows.tickFramesMatchSpecRow.laid ((World.doorLaid Tryd.prog 400 os).forCall (fun _ _ => 0) ⟨#[], args, []⟩).memory :=
  laidMetH_of_parts3 (fuel := 8) (laidMet_of_run' 8 (by kernel_rfl) (by kernel_rfl)) (by kernel_rfl) (by kernel_rfl)
set_option maxRecDepth 100000 in
theorem framesspec_lifted (os : Os) (started : os.Started) (H : Type) (enc : TypeId × Value → H) :
    ReturnsInHanded {} Tryd.checked os 6 .any (fun w args => (Rows.tickFramesMatchSpecSpec.pre enc Tryd.prog Tryd.f6 [] false w args ∧ laidMetH Tryd.prog Rows.tickFramesMatchSpecRow.laid w) ∧ sizedMet enc Tryd.prog Tryd.f6 (OpenSpec.ofChange Rows.tickFramesMatchSpecSpec) false w args) (Rows.tickFramesMatchSpecSpec.post enc Tryd.prog Tryd.f6 false true false false) := by
  refine returnsInHanded_of_change_and (C := Tryd.checked) (X := fun w _ => laidMetH Tryd.prog Rows.tickFramesMatchSpecRow.laid w) (fun _ _ _ hh h => h.of_heap hh) own_knob started (by kernel_rfl) Tryd.func6
    (ChangeSpec.witness_shaped (enc := enc) (C := Tryd.checked) (os := os) (X := fun w _ => laidMetH Tryd.prog Rows.tickFramesMatchSpecRow.laid w) false (World.doorLaid Tryd.prog 400 os) #[.int .i64 0, .int .i64 0, .int .i64 0, .int .i64 0, .int .i64 0] 8 rfl (World.shaped_of_RefB (by kernel_rfl) (by kernel_rfl)) (by kernel_rfl) (by kernel_rfl) (by kernel_rfl) (framesspec_door os _)) ?_
  intro W base args ds gs before hval hW _ _ hL _
  refine law_step rfl (by kernel_rfl) (fun ds h => ?_) ?_ hval hW ?_
  · match ds, h with | [a, b, c, d, e], _ => exact ⟨rfl, rfl, rfl⟩
  · rw [Tryd.params6]
    intro t ht
    simp only [List.mem_cons, List.not_mem_nil, or_false] at ht
    repeat' (first | (rcases ht with rfl | ht) | subst ht)
    all_goals exact ⟨by kernel_rfl, of_decide_eq_true (by kernel_rfl)⟩
  · rw [Tryd.params6]
    intro hin
    exact law_dmT (ss := [.one (.int .i64), .one (.int .i64), .one (.int .i64), .one (.int .i64), .one (.int .i64)]) (by kernel_rfl) hin (tab_of_laid 2 (by kernel_rfl) (by kernel_rfl) hL) framesspec_c
theorem framesspec_row : Rows.TickFramesMatchSpecSaid :=
  OpenClaim.holds_of_wide 6 Tryd.f6 rfl rfl rfl rfl rfl rfl rfl ⟨rfl, rfl, rfl, rfl, rfl⟩ rfl rfl rfl rfl rfl (by kernel_rfl) Tryd.func6 (by kernel_rfl)
    (of_decide_eq_true (by kernel_rfl)) (by unfold Func.isWrapper; first | (rw [if_pos (by decide +kernel)]; kernel_rfl) | (rw [if_neg (by decide +kernel)]; exact ⟨rfl, rfl⟩))
    (fun os started H enc _ => framesspec_lifted os started H enc)

/-- The card: what the row lists is tied to the program's text. -/
theorem framesspec_holds : Rows.TickFramesMatchSpecCardSaid :=
  Claim7.holds_tied_plain_at .later [] [.data, .data, .data, .sentinel, .sentinel] true (true, "34196f8bdd3dcdedca20c57aa18e17ee47bef08a005c81fbdf9c096c09cf1939") true
    framesspec_row (fun _ h => by cases h) (by kernel_rfl) (fun _ h => by cases h) tickFramesMatchSpec_row_tie rfl ⟨rfl, rfl⟩ (by kernel_rfl) rfl
    (fun f fn hf hfn => by
      obtain rfl : f = 6 := Option.some.inj ((show Tryd.prog.funcNamed "headend/headendlaw1.TickFramesMatchSpec" = some 6 by kernel_rfl).symm.trans hf) |>.symm
      obtain rfl : fn = Tryd.f6 := (Option.some.inj (Tryd.func6.symm.trans hfn)).symm
      exact ⟨by kernel_rfl, fun j t ht => by
        rw [Tryd.params6] at ht
        have hm := Array.mem_of_getElem? ht
        have hall : ([3, 3, 3, 3, 3].all fun u => !Tryd.prog.wantsStandIn u) = true := by kernel_rfl
        have hm : t ∈ [3, 3, 3, 3, 3] := by simpa using hm
        exact (show Tryd.prog.wantsStandIn t = false by simpa using List.all_eq_true.1 hall t hm)⟩)
    (by kernel_rfl)

end Go.Proofs.YtdfhpcghfmlfjaaDoor
