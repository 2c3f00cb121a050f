/- TickDatesMatchSpec: Date and ReadDate are as specified, with all errors. For every input; no condition beyond the card's tied tables. -/
import Derived.Test.YtdfhpcghfmlfjaaDoorKRefDate
namespace Go.Proofs.YtdfhpcghfmlfjaaDoor
open Go.RowKit Go.Lib
set_option linter.unusedSimpArgs false

/-! headend/headendlaw1.TickDatesMatchSpec -/
def r5_0 : List POp := [⟨4, .asg (.c (.bool false)), none⟩]
def r5_1 : List POp := [⟨14, .mv (.t 0), none⟩,
  ⟨15, .call 7 [.t 14], none⟩,
  ⟨13, .mv (.t 15), none⟩,
  ⟨16, .ext 0 (.t 13), none⟩,
  ⟨17, .ext 1 (.t 13), none⟩,
  ⟨5, .mv (.t 16), none⟩,
  ⟨6, .mv (.t 17), none⟩]
def r5_2 : List POp := [⟨19, .mv (.t 0), none⟩,
  ⟨20, .call 12 [.t 19], none⟩,
  ⟨18, .mv (.t 20), none⟩,
  ⟨21, .ext 0 (.t 18), none⟩,
  ⟨22, .ext 1 (.t 18), none⟩,
  ⟨7, .mv (.t 21), none⟩,
  ⟨8, .mv (.t 22), none⟩]
def r5_3 : List POp := [⟨24, .mv (.t 1), none⟩,
  ⟨25, .call 8 [.t 24], none⟩,
  ⟨23, .mv (.t 25), none⟩,
  ⟨26, .ext 0 (.t 23), none⟩,
  ⟨27, .ext 1 (.t 23), none⟩,
  ⟨9, .mv (.t 26), none⟩,
  ⟨10, .mv (.t 27), none⟩]
def r5_4 : List POp := [⟨29, .mv (.t 1), none⟩,
  ⟨30, .call 13 [.t 29], none⟩,
  ⟨28, .mv (.t 30), none⟩,
  ⟨31, .ext 0 (.t 28), none⟩,
  ⟨32, .ext 1 (.t 28), none⟩,
  ⟨11, .mv (.t 31), none⟩,
  ⟨12, .mv (.t 32), none⟩]
def r5_5 : List POp := [⟨33, .mv (.t 5), none⟩,
  ⟨34, .mv (.t 7), none⟩,
  ⟨35, .bin .eql (.t 33) (.t 34), none⟩,
  ⟨36, .mv (.t 35), none⟩,
  ⟨37, .mv (.t 6), some (36, true)⟩,
  ⟨38, .mv (.t 8), some (36, true)⟩,
  ⟨39, .bin .eql (.t 37) (.t 38), some (36, true)⟩,
  ⟨40, .pick (.t 36) (.t 39) (.c (.bool false)), none⟩,
  ⟨41, .mv (.t 40), none⟩,
  ⟨42, .mv (.t 9), some (41, true)⟩,
  ⟨43, .mv (.t 11), some (41, true)⟩,
  ⟨44, .bin .eql (.t 42) (.t 43), some (41, true)⟩,
  ⟨45, .pick (.t 41) (.t 44) (.c (.bool false)), none⟩,
  ⟨46, .mv (.t 45), none⟩,
  ⟨47, .mv (.t 10), some (46, true)⟩,
  ⟨48, .mv (.t 12), some (46, true)⟩,
  ⟨49, .bin .eql (.t 47) (.t 48), some (46, true)⟩,
  ⟨50, .pick (.t 46) (.t 49) (.c (.bool false)), none⟩,
  ⟨51, .mv (.t 50), none⟩,
  ⟨52, .call 9 [], some (51, true)⟩,
  ⟨53, .pick (.t 51) (.t 52) (.c (.bool false)), none⟩,
  ⟨4, .asg (.t 53), none⟩]
def p5 : PCode := .seq (.ops r5_0) (.seq (.ops r5_1) (.seq (.ops r5_2) (.seq (.ops r5_3) (.seq (.ops r5_4) (.seq (.ops r5_5) (.ret))))))
theorem ok5 : okFunc Tryd.prog 5 [.t 4] 2 p5 = true := by kernel_rfl
set_option maxRecDepth 20000 in
set_option maxHeartbeats 2000000 in
theorem datesspec_d (milli : Int) (text : ByteArray) : CallOK Tryd.prog 5 [.val (.int .i64 milli), .val (.string text)] (.val (.bool true)) := by
  refine call_of mixed ok5 rfl ?_
  obtain ⟨l, rfl⟩ := BS_of text
  obtain ⟨R, hR, hQ⟩ : ∃ R : Int × Int, CallOK Tryd.prog 8 [.val (.string (BS l))] (.tup [.val (.int .i64 R.1), .val (.int .i64 R.2)]) ∧ CallOK Tryd.prog 13 [.val (.string (BS l))] (.tup [.val (.int .i64 R.1), .val (.int .i64 R.2)]) := by
    by_cases hc : l.length = 24 ∧ (∀ i, i < 24 → okAt l i = true) ∧ (fldL l).OkR
    · exact ⟨((((fldL l).val : Nat) : Int), 0), read_c l _ (fun _ _ _ => rfl) (fun q => absurd hc q), rread_c l _ (fun _ _ _ => rfl) (fun q => absurd hc q)⟩
    · exact ⟨(0, 10), read_c l _ (fun a b c => absurd ⟨a, b, c⟩ hc) (fun _ => rfl), rread_c l _ (fun a b c => absurd ⟨a, b, c⟩ hc) (fun _ => rfl)⟩
  obtain ⟨A, hA, hB⟩ : ∃ A : ByteArray × Int, CallOK Tryd.prog 7 [.val (.int .i64 milli)] (.tup [.val (.string A.1), .val (.int .i64 A.2)]) ∧ CallOK Tryd.prog 12 [.val (.int .i64 milli)] (.tup [.val (.string A.1), .val (.int .i64 A.2)]) := by
    by_cases h : outB milli 0 253402300799999 = true
    · exact ⟨(BS [], 1), date_no _ h, rdate_no _ h⟩
    · have := outB_f (by simpa using h)
      obtain ⟨n, rfl⟩ : ∃ n : Nat, milli = n := ⟨milli.toNat, by omega⟩
      obtain ⟨f, hf, hv⟩ := fld_of (n := n) (by omega)
      have hd := date_yes f hf
      have hr := rdate_yes f hf
      rw [hv] at hd hr
      exact ⟨(BS (txt f), 0), hd, hr⟩
  obtain ⟨A1, A2⟩ := A
  obtain ⟨R1, R2⟩ := R
  simp only at hA hB hR hQ
  have e1 : (A1.toList == A1.toList) = true := by simp
  have e2 : (A2 == A2) = true := by simp
  have e3 : (R1 == R1) = true := by simp
  have e4 : (R2 == R2) = true := by simp
  repeat' first | ((with_reducible (first | refine condD ?_ ?_ | refine condE ?_ ?_ | refine condN ?_ ?_ | refine condI ?_ ?_ | refine condS ?_ ?_)) <;> intro h) | ((with_reducible (first | refine guardD (by with_unfolding_all rfl) ?_ ?_ | refine guardE (by with_unfolding_all rfl) ?_ ?_ | refine guardN (by with_unfolding_all rfl) ?_ ?_ | refine guardI (by with_unfolding_all rfl) ?_ ?_ | refine guardS (by with_unfolding_all rfl) ?_ ?_)) <;> intro h) | ((refine callG hA ?_)) | ((refine callG hB ?_)) | ((refine callG hR ?_)) | ((refine callG hQ ?_)) | ((refine callG awake1_c ?_)) | (with_reducible refine And.intro ?_ ?_; omega) | (simp only [done_eq, done_eq', donet_eq, donet_eq', fin_val, fin_tup, fin_agg, fin_ro, res_one, res_more, rv_t, rv_c, rv_l, AV.tup.injEq, AV.agg.injEq, AV.ro.injEq, List.cons.injEq, int_eq, bool_eq, Int.toNat_natCast, Int.reduceToNat, Int.toNat_zero, Int.toNat_one, Int.reduceLE, Int.reduceLT, Int.reduceBEq, Int.reduceBNe, beq_self_eq_true, bne_self_eq_false, decide_true, decide_false,  Int.reduceNeg, toNat_pred, toNat_succ, List.length_map, cnd_t, cnd_f, grd_tt, grd_u, grd_tf, grd_ft, grd_ff, g_skip, g_ops, g_seq, g_block, g_exit, g_ret, x_c, x_o, x_l, x_b, g_b, g_nil, r_all, o_nil, g_cond, o_guard, o_call, o_callm, o_callt, o_callx, o_callv, lk, ef, o_mv, o_pick, o_bin, o_never, o_eqs, o_eqb, o_un, o_conv, o_load, o_loadr, o_idxr, o_loads, o_fld, o_idx, o_idxs, o_len, o_lens, o_ext, o_nilck, o_slc, o_slcs, o_build, o_minmax, o_mkfn, o_alloc, o_box, o_boxs, o_row, o_rowr, o_mk, o_asg, o_app, o_store, o_stores, o_eqnil, hv, eqAV, ev, view_t, view_c, view_nil, view_fn, look_own, look_box, look_junk, look_val, look_nilsl, look_ro, look_roAt, look_agg, look_tup, look_clo, look_alias, look_ref, look_into, rowOf, cellsOf, argv, vbin, vun, bnd, elemOf, putParts, setAt, zav, ASt.rid, ASt.free, AV.kill, AV.isHome, AV.noLoan, AV.cellOK, Value.oneCell', put_at, mk_at, mk_nil, initSt, true_and, and_true, and_self, implies_true, List.map_cons, List.map_nil, List.forall_mem_cons, List.not_mem_nil, false_implies, List.length_cons, List.length_nil, List.getD_cons_zero, List.getD_cons_succ, List.getD_nil, List.drop_succ_cons, List.drop_zero, List.take_succ_cons, List.take_zero, List.set_cons_zero, List.set_cons_succ, List.all_cons, List.all_nil, Bool.and_true, Bool.true_and, Bool.not_true, Bool.not_false, reduceCtorEq, if_true, if_false, Bool.false_eq_true, ↓reduceIte, Nat.reduceEqDiff, Nat.reduceAdd, Nat.reduceSub, Nat.reduceMul, Nat.reduceLeDiff, Nat.reduceLT, ne_eq, not_false_eq_true, not_true_eq_false, Nat.one_ne_zero, Nat.zero_ne_one, r5_0, r5_1, r5_2, r5_3, r5_4, r5_5, p5, e1, e2, e3, e4]) | (exfalso; omega)
theorem datesspec_c : ∀ avs, HasArgs [.one (.int .i64), .one (.str)] avs → CallOK Tryd.prog 5 avs (.val (.bool true)) := by
  intro avs h
  obtain ⟨v0, r, rfl, h0, h⟩ := args_cons h
  obtain ⟨v1, r, rfl, h1, h⟩ := args_cons h
  obtain rfl := args_nil h
  obtain ⟨n0, rfl, hb0⟩ := has_int h0
  obtain ⟨n1, rfl, hb1⟩ := has_str h1
  exact datesspec_d n0 n1

/-! ### The row -/
open Go.ChangeShapes Go.WideShapes Go.ChangeAt

set_option maxRecDepth 100000 in
theorem datesspec_door (os : Os) (args : Array Value) : laidMetH Tryd.prog Rows.tickDatesMatchSpecRow.laid ((World.doorLaid Tryd.prog 400 os).forCall (fun _ _ => 0) ⟨#[], args, []⟩).memory :=
  laidMetH_of_parts3 (fuel := 8) (laidMet_of_run' 8 (by kernel_rfl) (by kernel_rfl)) (by kernel_rfl) (by kernel_rfl)
set_option maxRecDepth 100000 in
theorem datesspec_lifted (os : Os) (started : os.Started) (H : Type) (enc : TypeId × Value → H) :
    ReturnsInHanded {} Tryd.checked os 5 .any (fun w args => (Rows.tickDatesMatchSpecSpec.pre enc Tryd.prog Tryd.f5 [] false w args ∧ laidMetH Tryd.prog Rows.tickDatesMatchSpecRow.laid w) ∧ sizedMet enc Tryd.prog Tryd.f5 (OpenSpec.ofChange Rows.tickDatesMatchSpecSpec) false w args) (Rows.tickDatesMatchSpecSpec.post enc Tryd.prog Tryd.f5 false true false false) := by
  refine returnsInHanded_of_change_and (C := Tryd.checked) (X := fun w _ => laidMetH Tryd.prog Rows.tickDatesMatchSpecRow.laid w) (fun _ _ _ hh h => h.of_heap hh) own_knob started (by kernel_rfl) Tryd.func5
    (ChangeSpec.witness_shaped (enc := enc) (C := Tryd.checked) (os := os) (X := fun w _ => laidMetH Tryd.prog Rows.tickDatesMatchSpecRow.laid w) false (World.doorLaid Tryd.prog 400 os) #[.int .i64 0, .string ⟨#[]⟩] 8 rfl (World.shaped_of_RefB (by kernel_rfl) (by kernel_rfl)) (by kernel_rfl) (by kernel_rfl) (by kernel_rfl) (datesspec_door os _)) ?_
  intro W base args ds gs before hval hW _ _ hL _
  refine law_step rfl (by kernel_rfl) (fun ds h => ?_) ?_ hval hW ?_
  · match ds, h with | [a, b], _ => exact ⟨rfl, rfl, rfl⟩
  · rw [Tryd.params5]
    intro t ht
    simp only [List.mem_cons, List.not_mem_nil, or_false] at ht
    repeat' (first | (rcases ht with rfl | ht) | subst ht)
    all_goals exact ⟨by kernel_rfl, of_decide_eq_true (by kernel_rfl)⟩
  · rw [Tryd.params5]
    intro hin
    exact law_dmT (ss := [.one (.int .i64), .one (.str)]) (by kernel_rfl) hin (tab_of_laid 2 (by kernel_rfl) (by kernel_rfl) hL) datesspec_c
theorem datesspec_row : Rows.TickDatesMatchSpecSaid :=
  OpenClaim.holds_of_wide 5 Tryd.f5 rfl rfl rfl rfl rfl rfl rfl ⟨rfl, rfl, rfl, rfl, rfl⟩ rfl rfl rfl rfl rfl (by kernel_rfl) Tryd.func5 (by kernel_rfl)
    (of_decide_eq_true (by kernel_rfl)) (by unfold Func.isWrapper; first | (rw [if_pos (by decide +kernel)]; kernel_rfl) | (rw [if_neg (by decide +kernel)]; exact ⟨rfl, rfl⟩))
    (fun os started H enc _ => datesspec_lifted os started H enc)

/-- The card: what the row lists is tied to the program's text. -/
theorem datesspec_holds : Rows.TickDatesMatchSpecCardSaid :=
  Claim7.holds_tied_plain_at .later [] [.data, .data, .data, .sentinel, .sentinel] true (true, "34196f8bdd3dcdedca20c57aa18e17ee47bef08a005c81fbdf9c096c09cf1939") true
    datesspec_row (fun _ h => by cases h) (by kernel_rfl) (fun _ h => by cases h) tickDatesMatchSpec_row_tie rfl ⟨rfl, rfl⟩ (by kernel_rfl) rfl
    (fun f fn hf hfn => by
      obtain rfl : f = 5 := Option.some.inj ((show Tryd.prog.funcNamed "headend/headendlaw1.TickDatesMatchSpec" = some 5 by kernel_rfl).symm.trans hf) |>.symm
      obtain rfl : fn = Tryd.f5 := (Option.some.inj (Tryd.func5.symm.trans hfn)).symm
      exact ⟨by kernel_rfl, fun j t ht => by
        rw [Tryd.params5] at ht
        have hm := Array.mem_of_getElem? ht
        have hall : ([3, 9].all fun u => !Tryd.prog.wantsStandIn u) = true := by kernel_rfl
        have hm : t ∈ [3, 9] := by simpa using hm
        exact (show Tryd.prog.wantsStandIn t = false by simpa using List.all_eq_true.1 hall t hm)⟩)
    (by kernel_rfl)

end Go.Proofs.YtdfhpcghfmlfjaaDoor
