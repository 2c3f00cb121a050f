/- SampleInterleavesMatchSpec: Interleave is as specified, with all errors. For every input; no condition. -/
import Derived.Test.YtbdcnooafacldaaDoorKRefInter
import Derived.Test.YtbdcnooafacldaaDoorRows
namespace Go.Proofs.YtbdcnooafacldaaDoor
open Go.RowKit
set_option linter.unusedSimpArgs false

theorem ilRun_len2 {l : List Par} {most : Int} : ∀ {f : Nat} {nx : List Nat} {o : List Sl3}, (ilRun l most f nx o).length ≤ o.length + f
  | 0, nx, o => Nat.le_refl _
  | f + 1, nx, o => by
    unfold ilRun
    split
    · omega
    · rename_i j _
      have h1 := ilRun_len2 (l := l) (most := most) (f := f) (nx := nx.set j (nx.getD j 0 + 1)) (o := putOut l most nx o j)
      have h2 : (putOut l most nx o j).length ≤ o.length + 1 := by
        rcases nil_or_lastI o with rfl | ⟨pre, s, rfl⟩
        · exact Nat.le_refl _
        · rw [putOut_snoc]; split <;> simp
      omega
theorem interF_len (l : List Par) (most : Int) : (interF l most).1.length ≤ 1000000 := by
  unfold interF
  split
  · simp
  rename_i h1
  split
  · simp
  rename_i h2
  split
  · simp
  have hpa := parsF_0 (l := l) (by simpa using h2)
  have := (IInv.start (l := l) (most := most) (by omega) fun p hp => (par_facts (hpa p hp)).1).sz
  have h3 := ilRun_len2 (l := l) (most := most) (f := left l (zeros l)) (nx := zeros l) (o := [])
  simp at this h3 ⊢
  omega
/-! headend/headendlaw3.SampleInterleavesMatchSpec -/
def r3_0 : List POp := [⟨4, .asg (.c (.bool false)), none⟩]
def r3_1 : List POp := [⟨10, .mv (.t 0), none⟩,
  ⟨11, .mv (.t 1), none⟩,
  ⟨12, .call 5 [.t 10, .t 11], none⟩,
  ⟨9, .mv (.t 12), none⟩,
  ⟨13, .ext 0 (.t 9), none⟩,
  ⟨14, .ext 1 (.t 9), none⟩,
  ⟨5, .asg (.t 13), none⟩,
  ⟨6, .mv (.t 14), none⟩]
def r3_2 : List POp := [⟨16, .mv (.t 0), none⟩,
  ⟨17, .mv (.t 1), none⟩,
  ⟨18, .call 6 [.t 16, .t 17], none⟩,
  ⟨15, .mv (.t 18), none⟩,
  ⟨19, .ext 0 (.t 15), none⟩,
  ⟨20, .ext 1 (.t 15), none⟩,
  ⟨7, .asg (.t 19), none⟩,
  ⟨8, .mv (.t 20), none⟩]
def r3_3 : List POp := [⟨21, .mv (.t 5), none⟩,
  ⟨22, .mv (.t 7), none⟩,
  ⟨23, .call 7 [.t 21, .t 22], none⟩,
  ⟨24, .mv (.t 23), none⟩,
  ⟨25, .mv (.t 6), some (24, true)⟩,
  ⟨26, .mv (.t 8), some (24, true)⟩,
  ⟨27, .bin .eql (.t 25) (.t 26), some (24, true)⟩,
  ⟨28, .pick (.t 24) (.t 27) (.c (.bool false)), none⟩,
  ⟨29, .mv (.t 28), none⟩,
  ⟨30, .call 8 [], some (29, true)⟩,
  ⟨31, .pick (.t 29) (.t 30) (.c (.bool false)), none⟩,
  ⟨4, .asg (.t 31), none⟩]
def p3 : PCode := .seq (.ops r3_0) (.seq (.ops r3_1) (.seq (.ops r3_2) (.seq (.ops r3_3) (.ret))))
theorem ok3 : okFunc Tryd.prog 3 [.t 4] 2 p3 = true := by kernel_rfl
theorem interspec_d (l : List Par) (most : Int) : CallOK Tryd.prog 3 [.ro (l.map Par.av), .val (.int .i64 most)] (.val (.bool true)) := by
  refine call_of mixed ok3 rfl ?_
  have k1 := interF_c l most
  have k2 := rinter_c l most
  have k3 := eqsl_c (interF l most).1 (Nat.le_trans (interF_len l most) (by decide))
  generalize interF l most = R at *
  obtain ⟨A, f⟩ := R
  simp only at k1 k2 k3
  repeat' first | ((with_reducible (first | refine condD ?_ ?_ | refine condE ?_ ?_ | refine condN ?_ ?_ | refine condI ?_ ?_ | refine condS ?_ ?_)) <;> intro h) | ((with_reducible (first | refine guardD (by with_unfolding_all rfl) ?_ ?_ | refine guardE (by with_unfolding_all rfl) ?_ ?_ | refine guardN (by with_unfolding_all rfl) ?_ ?_ | refine guardI (by with_unfolding_all rfl) ?_ ?_ | refine guardS (by with_unfolding_all rfl) ?_ ?_)) <;> intro h) | ((refine callG k1 ?_)) | ((refine callG k2 ?_)) | ((refine callG k3 ?_)) | ((refine callG awake3_c ?_)) | (with_reducible refine And.intro ?_ ?_; omega) | (simp only [done_eq, done_eq', donet_eq, donet_eq', fin_val, fin_tup, fin_agg, fin_ro, res_one, res_more, rv_t, rv_c, rv_l, AV.tup.injEq, AV.agg.injEq, AV.ro.injEq, List.cons.injEq, int_eq, bool_eq, Int.toNat_natCast, Int.reduceToNat, Int.toNat_zero, Int.toNat_one, Int.reduceLE, Int.reduceLT, Int.reduceBEq, Int.reduceBNe, beq_self_eq_true, bne_self_eq_false, decide_true, decide_false,  Int.reduceNeg, toNat_pred, toNat_succ, List.length_map, cnd_t, cnd_f, grd_tt, grd_u, grd_tf, grd_ft, grd_ff, g_skip, g_ops, g_seq, g_block, g_exit, g_ret, x_c, x_o, x_l, x_b, g_b, g_nil, r_all, o_nil, g_cond, o_guard, o_call, o_callm, o_callt, o_callx, o_callv, lk, ef, o_mv, o_pick, o_bin, o_never, o_eqs, o_eqb, o_un, o_conv, o_load, o_loadr, o_idxr, o_loads, o_fld, o_idx, o_idxs, o_len, o_lens, o_ext, o_nilck, o_slc, o_slcs, o_build, o_minmax, o_mkfn, o_alloc, o_box, o_boxs, o_row, o_rowr, o_mk, o_asg, o_app, o_store, o_stores, o_eqnil, hv, eqAV, ev, view_t, view_c, view_nil, view_fn, look_own, look_box, look_junk, look_val, look_nilsl, look_ro, look_roAt, look_agg, look_tup, look_clo, look_alias, look_ref, look_into, rowOf, cellsOf, argv, vbin, vun, bnd, elemOf, putParts, setAt, zav, ASt.rid, ASt.free, AV.kill, AV.isHome, AV.noLoan, AV.cellOK, Value.oneCell', put_at, mk_at, mk_nil, initSt, true_and, and_true, and_self, implies_true, List.map_cons, List.map_nil, List.forall_mem_cons, List.not_mem_nil, false_implies, List.length_cons, List.length_nil, List.getD_cons_zero, List.getD_cons_succ, List.getD_nil, List.drop_succ_cons, List.drop_zero, List.take_succ_cons, List.take_zero, List.set_cons_zero, List.set_cons_succ, List.all_cons, List.all_nil, Bool.and_true, Bool.true_and, Bool.not_true, Bool.not_false, reduceCtorEq, if_true, if_false, Bool.false_eq_true, ↓reduceIte, Nat.reduceEqDiff, Nat.reduceAdd, Nat.reduceSub, Nat.reduceMul, Nat.reduceLeDiff, Nat.reduceLT, ne_eq, not_false_eq_true, not_true_eq_false, Nat.one_ne_zero, Nat.zero_ne_one, r3_0, r3_1, r3_2, r3_3, p3]) | (exfalso; omega)
theorem interspec_c : ∀ avs, HasArgs [.one (.row [.int .i64, .row [.int .i64, .int .i64, .int .i64, .int .i64, .bool]]), .one (.int .i64)] avs → CallOK Tryd.prog 3 avs (.val (.bool true)) := by
  intro avs h
  obtain ⟨v0, r, rfl, h0, h⟩ := args_cons h
  obtain ⟨v1, r, rfl, h1, h⟩ := args_cons h
  obtain rfl := args_nil h
  obtain ⟨n0, rfl, hl0, hb0⟩ := has_row h0 all_par
  obtain ⟨n1, rfl, hb1⟩ := has_int h1
  exact interspec_d n0 n1

/-! ### The row -/
open Go.ChangeShapes Go.WideShapes Go.ChangeAt

set_option maxRecDepth 100000 in
theorem interspec_door (os : Os) (args : Array Value) : laidMetH Tryd.prog Rows.sampleInterleavesMatchSpecRow.laid ((World.doorLaid Tryd.prog 400 os).forCall (fun _ _ => 0) ⟨#[], args, []⟩).memory :=
  laidMetH_of_parts3 (fuel := 8) (laidMet_of_run' 8 (by kernel_rfl) (by kernel_rfl)) (by kernel_rfl) (by kernel_rfl)
set_option maxRecDepth 100000 in
theorem interspec_lifted (os : Os) (started : os.Started) (H : Type) (enc : TypeId × Value → H) :
    ReturnsInHanded {} Tryd.checked os 3 .any (fun w args => (Rows.sampleInterleavesMatchSpecSpec.pre enc Tryd.prog Tryd.f3 [] false w args ∧ laidMetH Tryd.prog Rows.sampleInterleavesMatchSpecRow.laid w) ∧ sizedMet enc Tryd.prog Tryd.f3 (OpenSpec.ofChange Rows.sampleInterleavesMatchSpecSpec) false w args) (Rows.sampleInterleavesMatchSpecSpec.post enc Tryd.prog Tryd.f3 false true false false) := by
  refine returnsInHanded_of_change_and (C := Tryd.checked) (X := fun w _ => laidMetH Tryd.prog Rows.sampleInterleavesMatchSpecRow.laid w) (fun _ _ _ hh h => h.of_heap hh) own_knob started (by kernel_rfl) Tryd.func3
    (ChangeSpec.witness_shaped (enc := enc) (C := Tryd.checked) (os := os) (X := fun w _ => laidMetH Tryd.prog Rows.sampleInterleavesMatchSpecRow.laid w) false (World.doorLaid Tryd.prog 400 os) #[.slice none 0 0, .int .i64 0] 8 rfl (World.shaped_of_RefB (by kernel_rfl) (by kernel_rfl)) (by kernel_rfl) (by kernel_rfl) (by kernel_rfl) (interspec_door os _)) ?_
  intro W base args ds gs before hval hW _ _ hL _
  refine law_step rfl (by kernel_rfl) (fun ds h => ?_) ?_ hval hW ?_
  · match ds, h with | [a, b], _ => exact ⟨rfl, rfl, rfl⟩
  · rw [Tryd.params3]
    intro t ht
    simp only [List.mem_cons, List.not_mem_nil, or_false] at ht
    repeat' (first | (rcases ht with rfl | ht) | subst ht)
    all_goals exact ⟨by kernel_rfl, of_decide_eq_true (by kernel_rfl)⟩
  · rw [Tryd.params3]
    intro hin
    exact law_dmT (ss := [.one (.row [.int .i64, .row [.int .i64, .int .i64, .int .i64, .int .i64, .bool]]), .one (.int .i64)]) (by kernel_rfl) hin (tab_of_laid 2 (by kernel_rfl) (by kernel_rfl) hL) interspec_c
theorem interspec_row : Rows.SampleInterleavesMatchSpecSaid :=
  OpenClaim.holds_of_wide 3 Tryd.f3 rfl rfl rfl rfl rfl rfl rfl ⟨rfl, rfl, rfl, rfl, rfl⟩ rfl rfl rfl rfl rfl (by kernel_rfl) Tryd.func3 (by kernel_rfl)
    (of_decide_eq_true (by kernel_rfl)) (by unfold Func.isWrapper; first | (rw [if_pos (by decide +kernel)]; kernel_rfl) | (rw [if_neg (by decide +kernel)]; exact ⟨rfl, rfl⟩))
    (fun os started H enc _ => interspec_lifted os started H enc)

/-- The card: what the row lists is tied to the program's text. -/
theorem interspec_holds : Rows.SampleInterleavesMatchSpecCardSaid :=
  Claim7.holds_tied_plain_at .later [] [.data, .data, .data, .sentinel, .sentinel] true (true, "6d026b21510049021608216a4a852aacd40e43dff67dd665e815114617fa0dab") true
    interspec_row (fun _ h => by cases h) (by kernel_rfl) (fun _ h => by cases h) sampleInterleavesMatchSpec_row_tie rfl ⟨rfl, rfl⟩ (by kernel_rfl) rfl
    (fun f fn hf hfn => by
      obtain rfl : f = 3 := Option.some.inj ((show Tryd.prog.funcNamed "headend/headendlaw3.SampleInterleavesMatchSpec" = some 3 by kernel_rfl).symm.trans hf) |>.symm
      obtain rfl : fn = Tryd.f3 := (Option.some.inj (Tryd.func3.symm.trans hfn)).symm
      exact ⟨by kernel_rfl, fun j t ht => by
        rw [Tryd.params3] at ht
        have hm := Array.mem_of_getElem? ht
        have hall : ([22, 3].all fun u => !Tryd.prog.wantsStandIn u) = true := by kernel_rfl
        have hm : t ∈ [22, 3] := by simpa using hm
        exact (show Tryd.prog.wantsStandIn t = false by simpa using List.all_eq_true.1 hall t hm)⟩)
    (by kernel_rfl)

end Go.Proofs.YtbdcnooafacldaaDoor
