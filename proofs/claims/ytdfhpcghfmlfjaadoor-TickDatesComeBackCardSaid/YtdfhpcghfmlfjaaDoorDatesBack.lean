/- TickDatesComeBack: a moment is read as it was written, and a later one is written as a greater text. For every input; no condition beyond the card's tied tables. -/
import Derived.Test.YtdfhpcghfmlfjaaDoorKDate
namespace Go.Proofs.YtdfhpcghfmlfjaaDoor
open Go.RowKit Go.Lib
set_option linter.unusedSimpArgs false

theorem okR_of {f : Fld} (h : f.Ok) : f.OkR := by
  obtain ⟨a1, a2, a3, a4, a5, a6, a7, a8, a9, a10⟩ := h
  exact ⟨a1, a3, a4, a5, a6, a7, a8, a9⟩
theorem ok_of {f : Fld} (h : f.OkR) (h1 : f.y ≤ 9999) (h2 : f.ms ≤ 999) : f.Ok := by
  obtain ⟨a1, a3, a4, a5, a6, a7, a8, a9⟩ := h
  exact ⟨a1, h1, a3, a4, a5, a6, a7, a8, a9, h2⟩
/-! headend/headendlaw1.TickDatesComeBack -/
def r3_0 : List POp := [⟨6, .asg (.c (.bool false)), none⟩]
def r3_1 : List POp := [⟨16, .mv (.t 0), none⟩,
  ⟨17, .call 7 [.t 16], none⟩,
  ⟨15, .mv (.t 17), none⟩,
  ⟨18, .ext 0 (.t 15), none⟩,
  ⟨19, .ext 1 (.t 15), none⟩,
  ⟨7, .mv (.t 18), none⟩,
  ⟨8, .mv (.t 19), none⟩]
def r3_2 : List POp := [⟨21, .mv (.t 1), none⟩,
  ⟨22, .call 7 [.t 21], none⟩,
  ⟨20, .mv (.t 22), none⟩,
  ⟨23, .ext 0 (.t 20), none⟩,
  ⟨24, .ext 1 (.t 20), none⟩,
  ⟨9, .mv (.t 23), none⟩,
  ⟨10, .mv (.t 24), none⟩]
def r3_3 : List POp := [⟨25, .mv (.t 8), none⟩,
  ⟨26, .bin .eql (.t 25) (.c (.int .i64 0)), none⟩,
  ⟨27, .mv (.t 26), none⟩,
  ⟨28, .mv (.t 10), some (27, true)⟩,
  ⟨29, .bin .eql (.t 28) (.c (.int .i64 0)), some (27, true)⟩,
  ⟨30, .pick (.t 27) (.t 29) (.c (.bool false)), none⟩]
def r3_4 : List POp := [⟨32, .mv (.t 7), none⟩,
  ⟨33, .call 8 [.t 32], none⟩,
  ⟨31, .mv (.t 33), none⟩,
  ⟨34, .ext 0 (.t 31), none⟩,
  ⟨35, .ext 1 (.t 31), none⟩,
  ⟨11, .mv (.t 34), none⟩,
  ⟨12, .mv (.t 35), none⟩]
def r3_5 : List POp := [⟨36, .mv (.t 12), none⟩,
  ⟨37, .bin .neq (.t 36) (.c (.int .i64 0)), none⟩,
  ⟨38, .mv (.t 37), none⟩,
  ⟨39, .mv (.t 11), some (38, false)⟩,
  ⟨40, .mv (.t 0), some (38, false)⟩,
  ⟨41, .bin .neq (.t 39) (.t 40), some (38, false)⟩,
  ⟨42, .pick (.t 38) (.c (.bool true)) (.t 41), none⟩,
  ⟨43, .mv (.t 42), none⟩,
  ⟨44, .mv (.t 7), some (43, false)⟩,
  ⟨45, .lens (.t 44), some (43, false)⟩,
  ⟨46, .bin .neq (.t 45) (.c (.int .i64 24)), some (43, false)⟩,
  ⟨47, .pick (.t 43) (.c (.bool true)) (.t 46), none⟩,
  ⟨48, .mv (.t 47), none⟩,
  ⟨49, .mv (.t 0), some (48, false)⟩,
  ⟨50, .mv (.t 1), some (48, false)⟩,
  ⟨51, .bin .lss (.t 49) (.t 50), some (48, false)⟩,
  ⟨52, .mv (.t 7), some (48, false)⟩,
  ⟨53, .mv (.t 9), some (48, false)⟩,
  ⟨54, .bin .lss (.t 52) (.t 53), some (48, false)⟩,
  ⟨55, .eqb true (.t 51) (.t 54), some (48, false)⟩,
  ⟨56, .pick (.t 48) (.c (.bool true)) (.t 55), none⟩]
def r3_6 : List POp := [⟨6, .asg (.c (.bool false)), none⟩]
def r3_7 : List POp := [⟨58, .mv (.t 2), none⟩,
  ⟨59, .call 8 [.t 58], none⟩,
  ⟨57, .mv (.t 59), none⟩,
  ⟨60, .ext 0 (.t 57), none⟩,
  ⟨61, .ext 1 (.t 57), none⟩,
  ⟨13, .mv (.t 60), none⟩,
  ⟨8, .mv (.t 61), none⟩]
def r3_8 : List POp := [⟨62, .mv (.t 8), none⟩,
  ⟨63, .bin .neq (.t 62) (.c (.int .i64 0)), none⟩]
def r3_9 : List POp := [⟨64, .mv (.t 13), none⟩,
  ⟨65, .bin .eql (.t 64) (.c (.int .i64 0)), none⟩,
  ⟨66, .mv (.t 65), none⟩,
  ⟨67, .call 9 [], some (66, true)⟩,
  ⟨68, .pick (.t 66) (.t 67) (.c (.bool false)), none⟩,
  ⟨6, .asg (.t 68), none⟩]
def r3_10 : List POp := [⟨70, .mv (.t 13), none⟩,
  ⟨71, .call 7 [.t 70], none⟩,
  ⟨69, .mv (.t 71), none⟩,
  ⟨72, .ext 0 (.t 69), none⟩,
  ⟨73, .ext 1 (.t 69), none⟩,
  ⟨14, .mv (.t 72), none⟩,
  ⟨8, .mv (.t 73), none⟩]
def r3_11 : List POp := [⟨74, .mv (.t 8), none⟩,
  ⟨75, .bin .eql (.t 74) (.c (.int .i64 0)), none⟩,
  ⟨76, .mv (.t 75), none⟩,
  ⟨77, .mv (.t 14), some (76, true)⟩,
  ⟨78, .mv (.t 2), some (76, true)⟩,
  ⟨79, .bin .eql (.t 77) (.t 78), some (76, true)⟩,
  ⟨80, .pick (.t 76) (.t 79) (.c (.bool false)), none⟩,
  ⟨81, .mv (.t 80), none⟩,
  ⟨82, .call 9 [], some (81, true)⟩,
  ⟨83, .pick (.t 81) (.t 82) (.c (.bool false)), none⟩,
  ⟨6, .asg (.t 83), none⟩]
def p3 : PCode := .seq (.ops r3_0) (.seq (.ops r3_1) (.seq (.ops r3_2) (.seq (.seq (.ops r3_3) (.cond (.t 30) (.seq (.ops r3_4) (.seq (.ops r3_5) (.cond (.t 56) (.seq (.ops r3_6) (.ret)) (.skip)))) (.skip))) (.seq (.ops r3_7) (.seq (.seq (.ops r3_8) (.cond (.t 63) (.seq (.ops r3_9) (.ret)) (.skip))) (.seq (.ops r3_10) (.seq (.ops r3_11) (.ret))))))))
theorem ok3 : okFunc Tryd.prog 3 [.t 6] 3 p3 = true := by kernel_rfl
set_option maxRecDepth 20000 in
set_option maxHeartbeats 2000000 in
theorem datesback_d (milli later : Int) (text : ByteArray) : CallOK Tryd.prog 3 [.val (.int .i64 milli), .val (.int .i64 later), .val (.string text)] (.val (.bool true)) := by
  refine call_of mixed ok3 rfl ?_
  obtain ⟨l, rfl⟩ := BS_of text
  obtain ⟨R, hR, hcase⟩ : ∃ R : Int × Int, CallOK Tryd.prog 8 [.val (.string (BS l))] (.tup [.val (.int .i64 R.1), .val (.int .i64 R.2)]) ∧ (R = (0, 10) ∨ (R.2 = 0 ∧ CallOK Tryd.prog 7 [.val (.int .i64 R.1)] (.tup [.val (.string (BS l)), .val (.int .i64 0)]))) := by
    by_cases hc : l.length = 24 ∧ (∀ i, i < 24 → okAt l i = true) ∧ (fldL l).OkR
    · refine ⟨((((fldL l).val : Nat) : Int), 0), read_c l _ (fun _ _ _ => rfl) (fun q => absurd hc q), .inr ⟨rfl, ?_⟩⟩
      obtain ⟨e1, e2, e3⟩ := txt_fldL hc.1 hc.2.1
      have := date_yes (fldL l) (ok_of hc.2.2 e2 e3)
      rw [e1] at this
      exact this
    · exact ⟨(0, 10), read_c l _ (fun a b c => absurd ⟨a, b, c⟩ hc) (fun _ => rfl), .inl rfl⟩
  have hself : ((BS l).toList == (BS l).toList) = true := by simp
  have tail : ∀ {x : Int}, (x != 0) = false → x = 0 := fun h => by simpa using h
  obtain ⟨A, hA, ha⟩ : ∃ A : ByteArray × Int, CallOK Tryd.prog 7 [.val (.int .i64 milli)] (.tup [.val (.string A.1), .val (.int .i64 A.2)]) ∧ (A.2 = 1 ∨ (A.2 = 0 ∧ ∃ f : Fld, f.Ok ∧ (f.val : Int) = milli ∧ A.1 = BS (txt f))) := by
    by_cases h : outB milli 0 253402300799999 = true
    · exact ⟨(BS [], 1), date_no _ h, .inl rfl⟩
    · have := outB_f (by simpa using h)
      obtain ⟨n, rfl⟩ : ∃ n : Nat, milli = n := ⟨milli.toNat, by omega⟩
      obtain ⟨f, hf, hv⟩ := fld_of (n := n) (by omega)
      have hd := date_yes f hf
      rw [hv] at hd
      exact ⟨(BS (txt f), 0), hd, .inr ⟨rfl, f, hf, by rw [hv], rfl⟩⟩
  obtain ⟨B, hB, hb⟩ : ∃ A : ByteArray × Int, CallOK Tryd.prog 7 [.val (.int .i64 later)] (.tup [.val (.string A.1), .val (.int .i64 A.2)]) ∧ (A.2 = 1 ∨ (A.2 = 0 ∧ ∃ f : Fld, f.Ok ∧ (f.val : Int) = later ∧ A.1 = BS (txt f))) := by
    by_cases h : outB later 0 253402300799999 = true
    · exact ⟨(BS [], 1), date_no _ h, .inl rfl⟩
    · have := outB_f (by simpa using h)
      obtain ⟨n, rfl⟩ : ∃ n : Nat, later = n := ⟨later.toNat, by omega⟩
      obtain ⟨f, hf, hv⟩ := fld_of (n := n) (by omega)
      have hd := date_yes f hf
      rw [hv] at hd
      exact ⟨(BS (txt f), 0), hd, .inr ⟨rfl, f, hf, by rw [hv], rfl⟩⟩
  obtain ⟨A1, A2⟩ := A
  obtain ⟨B1, B2⟩ := B
  obtain ⟨R1, R2⟩ := R
  simp only [Prod.mk.injEq] at hcase ha hb hA hB hR
  -- the text that came
  rcases hcase with ⟨rfl, rfl⟩ | ⟨rfl, hD⟩
  · rcases ha with rfl | ⟨rfl, f, hf, rfl, rfl⟩
    · repeat' first | ((with_reducible (first | refine condD ?_ ?_ | refine condE ?_ ?_ | refine condN ?_ ?_ | refine condI ?_ ?_ | refine condS ?_ ?_)) <;> intro h) | ((with_reducible (first | refine guardD (by with_unfolding_all rfl) ?_ ?_ | refine guardE (by with_unfolding_all rfl) ?_ ?_ | refine guardN (by with_unfolding_all rfl) ?_ ?_ | refine guardI (by with_unfolding_all rfl) ?_ ?_ | refine guardS (by with_unfolding_all rfl) ?_ ?_)) <;> intro h) | ((refine callG hA ?_)) | ((refine callG hB ?_)) | ((refine callG hR ?_)) | ((refine callG awake1_c ?_)) | (with_reducible refine And.intro ?_ ?_; omega) | (simp only [done_eq, done_eq', donet_eq, donet_eq', fin_val, fin_tup, fin_agg, fin_ro, res_one, res_more, rv_t, rv_c, rv_l, AV.tup.injEq, AV.agg.injEq, AV.ro.injEq, List.cons.injEq, int_eq, bool_eq, Int.toNat_natCast, Int.reduceToNat, Int.toNat_zero, Int.toNat_one, Int.reduceLE, Int.reduceLT, Int.reduceBEq, Int.reduceBNe, beq_self_eq_true, bne_self_eq_false, decide_true, decide_false,  Int.reduceNeg, toNat_pred, toNat_succ, List.length_map, cnd_t, cnd_f, grd_tt, grd_u, grd_tf, grd_ft, grd_ff, g_skip, g_ops, g_seq, g_block, g_exit, g_ret, x_c, x_o, x_l, x_b, g_b, g_nil, r_all, o_nil, g_cond, o_guard, o_call, o_callm, o_callt, o_callx, o_callv, lk, ef, o_mv, o_pick, o_bin, o_never, o_eqs, o_eqb, o_un, o_conv, o_load, o_loadr, o_idxr, o_loads, o_fld, o_idx, o_idxs, o_len, o_lens, o_ext, o_nilck, o_slc, o_slcs, o_build, o_minmax, o_mkfn, o_alloc, o_box, o_boxs, o_row, o_rowr, o_mk, o_asg, o_app, o_store, o_stores, o_eqnil, hv, eqAV, ev, view_t, view_c, view_nil, view_fn, look_own, look_box, look_junk, look_val, look_nilsl, look_ro, look_roAt, look_agg, look_tup, look_clo, look_alias, look_ref, look_into, rowOf, cellsOf, argv, vbin, vun, bnd, elemOf, putParts, setAt, zav, ASt.rid, ASt.free, AV.kill, AV.isHome, AV.noLoan, AV.cellOK, Value.oneCell', put_at, mk_at, mk_nil, initSt, true_and, and_true, and_self, implies_true, List.map_cons, List.map_nil, List.forall_mem_cons, List.not_mem_nil, false_implies, List.length_cons, List.length_nil, List.getD_cons_zero, List.getD_cons_succ, List.getD_nil, List.drop_succ_cons, List.drop_zero, List.take_succ_cons, List.take_zero, List.set_cons_zero, List.set_cons_succ, List.all_cons, List.all_nil, Bool.and_true, Bool.true_and, Bool.not_true, Bool.not_false, reduceCtorEq, if_true, if_false, Bool.false_eq_true, ↓reduceIte, Nat.reduceEqDiff, Nat.reduceAdd, Nat.reduceSub, Nat.reduceMul, Nat.reduceLeDiff, Nat.reduceLT, ne_eq, not_false_eq_true, not_true_eq_false, Nat.one_ne_zero, Nat.zero_ne_one, r3_0, r3_1, r3_2, r3_3, r3_4, r3_5, r3_6, r3_7, r3_8, r3_9, r3_10, r3_11, p3]) | (exfalso; omega)
    rcases hb with rfl | ⟨rfl, g, hg, rfl, rfl⟩
    · repeat' first | ((with_reducible (first | refine condD ?_ ?_ | refine condE ?_ ?_ | refine condN ?_ ?_ | refine condI ?_ ?_ | refine condS ?_ ?_)) <;> intro h) | ((with_reducible (first | refine guardD (by with_unfolding_all rfl) ?_ ?_ | refine guardE (by with_unfolding_all rfl) ?_ ?_ | refine guardN (by with_unfolding_all rfl) ?_ ?_ | refine guardI (by with_unfolding_all rfl) ?_ ?_ | refine guardS (by with_unfolding_all rfl) ?_ ?_)) <;> intro h) | ((refine callG hA ?_)) | ((refine callG hB ?_)) | ((refine callG hR ?_)) | ((refine callG awake1_c ?_)) | (with_reducible refine And.intro ?_ ?_; omega) | (simp only [done_eq, done_eq', donet_eq, donet_eq', fin_val, fin_tup, fin_agg, fin_ro, res_one, res_more, rv_t, rv_c, rv_l, AV.tup.injEq, AV.agg.injEq, AV.ro.injEq, List.cons.injEq, int_eq, bool_eq, Int.toNat_natCast, Int.reduceToNat, Int.toNat_zero, Int.toNat_one, Int.reduceLE, Int.reduceLT, Int.reduceBEq, Int.reduceBNe, beq_self_eq_true, bne_self_eq_false, decide_true, decide_false,  Int.reduceNeg, toNat_pred, toNat_succ, List.length_map, cnd_t, cnd_f, grd_tt, grd_u, grd_tf, grd_ft, grd_ff, g_skip, g_ops, g_seq, g_block, g_exit, g_ret, x_c, x_o, x_l, x_b, g_b, g_nil, r_all, o_nil, g_cond, o_guard, o_call, o_callm, o_callt, o_callx, o_callv, lk, ef, o_mv, o_pick, o_bin, o_never, o_eqs, o_eqb, o_un, o_conv, o_load, o_loadr, o_idxr, o_loads, o_fld, o_idx, o_idxs, o_len, o_lens, o_ext, o_nilck, o_slc, o_slcs, o_build, o_minmax, o_mkfn, o_alloc, o_box, o_boxs, o_row, o_rowr, o_mk, o_asg, o_app, o_store, o_stores, o_eqnil, hv, eqAV, ev, view_t, view_c, view_nil, view_fn, look_own, look_box, look_junk, look_val, look_nilsl, look_ro, look_roAt, look_agg, look_tup, look_clo, look_alias, look_ref, look_into, rowOf, cellsOf, argv, vbin, vun, bnd, elemOf, putParts, setAt, zav, ASt.rid, ASt.free, AV.kill, AV.isHome, AV.noLoan, AV.cellOK, Value.oneCell', put_at, mk_at, mk_nil, initSt, true_and, and_true, and_self, implies_true, List.map_cons, List.map_nil, List.forall_mem_cons, List.not_mem_nil, false_implies, List.length_cons, List.length_nil, List.getD_cons_zero, List.getD_cons_succ, List.getD_nil, List.drop_succ_cons, List.drop_zero, List.take_succ_cons, List.take_zero, List.set_cons_zero, List.set_cons_succ, List.all_cons, List.all_nil, Bool.and_true, Bool.true_and, Bool.not_true, Bool.not_false, reduceCtorEq, if_true, if_false, Bool.false_eq_true, ↓reduceIte, Nat.reduceEqDiff, Nat.reduceAdd, Nat.reduceSub, Nat.reduceMul, Nat.reduceLeDiff, Nat.reduceLT, ne_eq, not_false_eq_true, not_true_eq_false, Nat.one_ne_zero, Nat.zero_ne_one, r3_0, r3_1, r3_2, r3_3, r3_4, r3_5, r3_6, r3_7, r3_8, r3_9, r3_10, r3_11, p3]) | (exfalso; omega)
    have hr := read_c (txt f) ((f.val : Int), 0) (fun _ _ _ => by rw [fldL_txt hf]) (fun q => absurd ⟨txt_len f, txt_ok f, by rw [fldL_txt hf]; exact okR_of hf⟩ q)
    have hless : Op.bytesLess (txt f) (txt g) = decide ((f.val : Int) < g.val) := (less_val hf hg).trans (by congr 1; simp)
    have hne : ((f.val : Int) != f.val) = false := by simp
    have hlen : (txt f).length = 24 := txt_len f
    generalize txt f = TA at *
    generalize txt g = TB at *
    generalize (f.val : Int) = va at *
    generalize (g.val : Int) = vb at *
    clear hf hg
    by_cases hlt : va < vb
    · rw [decide_eq_true hlt] at hless
      repeat' first | ((with_reducible (first | refine condD ?_ ?_ | refine condE ?_ ?_ | refine condN ?_ ?_ | refine condI ?_ ?_ | refine condS ?_ ?_)) <;> intro h) | ((with_reducible (first | refine guardD (by with_unfolding_all rfl) ?_ ?_ | refine guardE (by with_unfolding_all rfl) ?_ ?_ | refine guardN (by with_unfolding_all rfl) ?_ ?_ | refine guardI (by with_unfolding_all rfl) ?_ ?_ | refine guardS (by with_unfolding_all rfl) ?_ ?_)) <;> intro h) | ((refine callG hA ?_)) | ((refine callG hB ?_)) | ((refine callG hr ?_)) | ((refine callG hR ?_)) | ((refine callG awake1_c ?_)) | (with_reducible refine And.intro ?_ ?_; omega) | (simp only [done_eq, done_eq', donet_eq, donet_eq', fin_val, fin_tup, fin_agg, fin_ro, res_one, res_more, rv_t, rv_c, rv_l, AV.tup.injEq, AV.agg.injEq, AV.ro.injEq, List.cons.injEq, int_eq, bool_eq, Int.toNat_natCast, Int.reduceToNat, Int.toNat_zero, Int.toNat_one, Int.reduceLE, Int.reduceLT, Int.reduceBEq, Int.reduceBNe, beq_self_eq_true, bne_self_eq_false, decide_true, decide_false,  Int.reduceNeg, toNat_pred, toNat_succ, List.length_map, cnd_t, cnd_f, grd_tt, grd_u, grd_tf, grd_ft, grd_ff, g_skip, g_ops, g_seq, g_block, g_exit, g_ret, x_c, x_o, x_l, x_b, g_b, g_nil, r_all, o_nil, g_cond, o_guard, o_call, o_callm, o_callt, o_callx, o_callv, lk, ef, o_mv, o_pick, o_bin, o_never, o_eqs, o_eqb, o_un, o_conv, o_load, o_loadr, o_idxr, o_loads, o_fld, o_idx, o_idxs, o_len, o_lens, o_ext, o_nilck, o_slc, o_slcs, o_build, o_minmax, o_mkfn, o_alloc, o_box, o_boxs, o_row, o_rowr, o_mk, o_asg, o_app, o_store, o_stores, o_eqnil, hv, eqAV, ev, view_t, view_c, view_nil, view_fn, look_own, look_box, look_junk, look_val, look_nilsl, look_ro, look_roAt, look_agg, look_tup, look_clo, look_alias, look_ref, look_into, rowOf, cellsOf, argv, vbin, vun, bnd, elemOf, putParts, setAt, zav, ASt.rid, ASt.free, AV.kill, AV.isHome, AV.noLoan, AV.cellOK, Value.oneCell', put_at, mk_at, mk_nil, initSt, true_and, and_true, and_self, implies_true, List.map_cons, List.map_nil, List.forall_mem_cons, List.not_mem_nil, false_implies, List.length_cons, List.length_nil, List.getD_cons_zero, List.getD_cons_succ, List.getD_nil, List.drop_succ_cons, List.drop_zero, List.take_succ_cons, List.take_zero, List.set_cons_zero, List.set_cons_succ, List.all_cons, List.all_nil, Bool.and_true, Bool.true_and, Bool.not_true, Bool.not_false, reduceCtorEq, if_true, if_false, Bool.false_eq_true, ↓reduceIte, Nat.reduceEqDiff, Nat.reduceAdd, Nat.reduceSub, Nat.reduceMul, Nat.reduceLeDiff, Nat.reduceLT, ne_eq, not_false_eq_true, not_true_eq_false, Nat.one_ne_zero, Nat.zero_ne_one, r3_0, r3_1, r3_2, r3_3, r3_4, r3_5, r3_6, r3_7, r3_8, r3_9, r3_10, r3_11, p3, hne, hlt, hless, BS_size, BS_toList, hlen, Int.cast_ofNat_Int]) | (exfalso; omega)
    · rw [decide_eq_false hlt] at hless
      repeat' first | ((with_reducible (first | refine condD ?_ ?_ | refine condE ?_ ?_ | refine condN ?_ ?_ | refine condI ?_ ?_ | refine condS ?_ ?_)) <;> intro h) | ((with_reducible (first | refine guardD (by with_unfolding_all rfl) ?_ ?_ | refine guardE (by with_unfolding_all rfl) ?_ ?_ | refine guardN (by with_unfolding_all rfl) ?_ ?_ | refine guardI (by with_unfolding_all rfl) ?_ ?_ | refine guardS (by with_unfolding_all rfl) ?_ ?_)) <;> intro h) | ((refine callG hA ?_)) | ((refine callG hB ?_)) | ((refine callG hr ?_)) | ((refine callG hR ?_)) | ((refine callG awake1_c ?_)) | (with_reducible refine And.intro ?_ ?_; omega) | (simp only [done_eq, done_eq', donet_eq, donet_eq', fin_val, fin_tup, fin_agg, fin_ro, res_one, res_more, rv_t, rv_c, rv_l, AV.tup.injEq, AV.agg.injEq, AV.ro.injEq, List.cons.injEq, int_eq, bool_eq, Int.toNat_natCast, Int.reduceToNat, Int.toNat_zero, Int.toNat_one, Int.reduceLE, Int.reduceLT, Int.reduceBEq, Int.reduceBNe, beq_self_eq_true, bne_self_eq_false, decide_true, decide_false,  Int.reduceNeg, toNat_pred, toNat_succ, List.length_map, cnd_t, cnd_f, grd_tt, grd_u, grd_tf, grd_ft, grd_ff, g_skip, g_ops, g_seq, g_block, g_exit, g_ret, x_c, x_o, x_l, x_b, g_b, g_nil, r_all, o_nil, g_cond, o_guard, o_call, o_callm, o_callt, o_callx, o_callv, lk, ef, o_mv, o_pick, o_bin, o_never, o_eqs, o_eqb, o_un, o_conv, o_load, o_loadr, o_idxr, o_loads, o_fld, o_idx, o_idxs, o_len, o_lens, o_ext, o_nilck, o_slc, o_slcs, o_build, o_minmax, o_mkfn, o_alloc, o_box, o_boxs, o_row, o_rowr, o_mk, o_asg, o_app, o_store, o_stores, o_eqnil, hv, eqAV, ev, view_t, view_c, view_nil, view_fn, look_own, look_box, look_junk, look_val, look_nilsl, look_ro, look_roAt, look_agg, look_tup, look_clo, look_alias, look_ref, look_into, rowOf, cellsOf, argv, vbin, vun, bnd, elemOf, putParts, setAt, zav, ASt.rid, ASt.free, AV.kill, AV.isHome, AV.noLoan, AV.cellOK, Value.oneCell', put_at, mk_at, mk_nil, initSt, true_and, and_true, and_self, implies_true, List.map_cons, List.map_nil, List.forall_mem_cons, List.not_mem_nil, false_implies, List.length_cons, List.length_nil, List.getD_cons_zero, List.getD_cons_succ, List.getD_nil, List.drop_succ_cons, List.drop_zero, List.take_succ_cons, List.take_zero, List.set_cons_zero, List.set_cons_succ, List.all_cons, List.all_nil, Bool.and_true, Bool.true_and, Bool.not_true, Bool.not_false, reduceCtorEq, if_true, if_false, Bool.false_eq_true, ↓reduceIte, Nat.reduceEqDiff, Nat.reduceAdd, Nat.reduceSub, Nat.reduceMul, Nat.reduceLeDiff, Nat.reduceLT, ne_eq, not_false_eq_true, not_true_eq_false, Nat.one_ne_zero, Nat.zero_ne_one, r3_0, r3_1, r3_2, r3_3, r3_4, r3_5, r3_6, r3_7, r3_8, r3_9, r3_10, r3_11, p3, hne, hlt, hless, BS_size, BS_toList, hlen, Int.cast_ofNat_Int]) | (exfalso; omega)
  · rcases ha with rfl | ⟨rfl, f, hf, rfl, rfl⟩
    · repeat' first | ((with_reducible (first | refine condD ?_ ?_ | refine condE ?_ ?_ | refine condN ?_ ?_ | refine condI ?_ ?_ | refine condS ?_ ?_)) <;> intro h) | ((with_reducible (first | refine guardD (by with_unfolding_all rfl) ?_ ?_ | refine guardE (by with_unfolding_all rfl) ?_ ?_ | refine guardN (by with_unfolding_all rfl) ?_ ?_ | refine guardI (by with_unfolding_all rfl) ?_ ?_ | refine guardS (by with_unfolding_all rfl) ?_ ?_)) <;> intro h) | ((refine callG hA ?_)) | ((refine callG hB ?_)) | ((refine callG hR ?_)) | ((refine callG hD ?_)) | ((refine callG awake1_c ?_)) | (with_reducible refine And.intro ?_ ?_; omega) | (simp only [done_eq, done_eq', donet_eq, donet_eq', fin_val, fin_tup, fin_agg, fin_ro, res_one, res_more, rv_t, rv_c, rv_l, AV.tup.injEq, AV.agg.injEq, AV.ro.injEq, List.cons.injEq, int_eq, bool_eq, Int.toNat_natCast, Int.reduceToNat, Int.toNat_zero, Int.toNat_one, Int.reduceLE, Int.reduceLT, Int.reduceBEq, Int.reduceBNe, beq_self_eq_true, bne_self_eq_false, decide_true, decide_false,  Int.reduceNeg, toNat_pred, toNat_succ, List.length_map, cnd_t, cnd_f, grd_tt, grd_u, grd_tf, grd_ft, grd_ff, g_skip, g_ops, g_seq, g_block, g_exit, g_ret, x_c, x_o, x_l, x_b, g_b, g_nil, r_all, o_nil, g_cond, o_guard, o_call, o_callm, o_callt, o_callx, o_callv, lk, ef, o_mv, o_pick, o_bin, o_never, o_eqs, o_eqb, o_un, o_conv, o_load, o_loadr, o_idxr, o_loads, o_fld, o_idx, o_idxs, o_len, o_lens, o_ext, o_nilck, o_slc, o_slcs, o_build, o_minmax, o_mkfn, o_alloc, o_box, o_boxs, o_row, o_rowr, o_mk, o_asg, o_app, o_store, o_stores, o_eqnil, hv, eqAV, ev, view_t, view_c, view_nil, view_fn, look_own, look_box, look_junk, look_val, look_nilsl, look_ro, look_roAt, look_agg, look_tup, look_clo, look_alias, look_ref, look_into, rowOf, cellsOf, argv, vbin, vun, bnd, elemOf, putParts, setAt, zav, ASt.rid, ASt.free, AV.kill, AV.isHome, AV.noLoan, AV.cellOK, Value.oneCell', put_at, mk_at, mk_nil, initSt, true_and, and_true, and_self, implies_true, List.map_cons, List.map_nil, List.forall_mem_cons, List.not_mem_nil, false_implies, List.length_cons, List.length_nil, List.getD_cons_zero, List.getD_cons_succ, List.getD_nil, List.drop_succ_cons, List.drop_zero, List.take_succ_cons, List.take_zero, List.set_cons_zero, List.set_cons_succ, List.all_cons, List.all_nil, Bool.and_true, Bool.true_and, Bool.not_true, Bool.not_false, reduceCtorEq, if_true, if_false, Bool.false_eq_true, ↓reduceIte, Nat.reduceEqDiff, Nat.reduceAdd, Nat.reduceSub, Nat.reduceMul, Nat.reduceLeDiff, Nat.reduceLT, ne_eq, not_false_eq_true, not_true_eq_false, Nat.one_ne_zero, Nat.zero_ne_one, r3_0, r3_1, r3_2, r3_3, r3_4, r3_5, r3_6, r3_7, r3_8, r3_9, r3_10, r3_11, p3, hself]) | (exfalso; omega)
    rcases hb with rfl | ⟨rfl, g, hg, rfl, rfl⟩
    · repeat' first | ((with_reducible (first | refine condD ?_ ?_ | refine condE ?_ ?_ | refine condN ?_ ?_ | refine condI ?_ ?_ | refine condS ?_ ?_)) <;> intro h) | ((with_reducible (first | refine guardD (by with_unfolding_all rfl) ?_ ?_ | refine guardE (by with_unfolding_all rfl) ?_ ?_ | refine guardN (by with_unfolding_all rfl) ?_ ?_ | refine guardI (by with_unfolding_all rfl) ?_ ?_ | refine guardS (by with_unfolding_all rfl) ?_ ?_)) <;> intro h) | ((refine callG hA ?_)) | ((refine callG hB ?_)) | ((refine callG hR ?_)) | ((refine callG hD ?_)) | ((refine callG awake1_c ?_)) | (with_reducible refine And.intro ?_ ?_; omega) | (simp only [done_eq, done_eq', donet_eq, donet_eq', fin_val, fin_tup, fin_agg, fin_ro, res_one, res_more, rv_t, rv_c, rv_l, AV.tup.injEq, AV.agg.injEq, AV.ro.injEq, List.cons.injEq, int_eq, bool_eq, Int.toNat_natCast, Int.reduceToNat, Int.toNat_zero, Int.toNat_one, Int.reduceLE, Int.reduceLT, Int.reduceBEq, Int.reduceBNe, beq_self_eq_true, bne_self_eq_false, decide_true, decide_false,  Int.reduceNeg, toNat_pred, toNat_succ, List.length_map, cnd_t, cnd_f, grd_tt, grd_u, grd_tf, grd_ft, grd_ff, g_skip, g_ops, g_seq, g_block, g_exit, g_ret, x_c, x_o, x_l, x_b, g_b, g_nil, r_all, o_nil, g_cond, o_guard, o_call, o_callm, o_callt, o_callx, o_callv, lk, ef, o_mv, o_pick, o_bin, o_never, o_eqs, o_eqb, o_un, o_conv, o_load, o_loadr, o_idxr, o_loads, o_fld, o_idx, o_idxs, o_len, o_lens, o_ext, o_nilck, o_slc, o_slcs, o_build, o_minmax, o_mkfn, o_alloc, o_box, o_boxs, o_row, o_rowr, o_mk, o_asg, o_app, o_store, o_stores, o_eqnil, hv, eqAV, ev, view_t, view_c, view_nil, view_fn, look_own, look_box, look_junk, look_val, look_nilsl, look_ro, look_roAt, look_agg, look_tup, look_clo, look_alias, look_ref, look_into, rowOf, cellsOf, argv, vbin, vun, bnd, elemOf, putParts, setAt, zav, ASt.rid, ASt.free, AV.kill, AV.isHome, AV.noLoan, AV.cellOK, Value.oneCell', put_at, mk_at, mk_nil, initSt, true_and, and_true, and_self, implies_true, List.map_cons, List.map_nil, List.forall_mem_cons, List.not_mem_nil, false_implies, List.length_cons, List.length_nil, List.getD_cons_zero, List.getD_cons_succ, List.getD_nil, List.drop_succ_cons, List.drop_zero, List.take_succ_cons, List.take_zero, List.set_cons_zero, List.set_cons_succ, List.all_cons, List.all_nil, Bool.and_true, Bool.true_and, Bool.not_true, Bool.not_false, reduceCtorEq, if_true, if_false, Bool.false_eq_true, ↓reduceIte, Nat.reduceEqDiff, Nat.reduceAdd, Nat.reduceSub, Nat.reduceMul, Nat.reduceLeDiff, Nat.reduceLT, ne_eq, not_false_eq_true, not_true_eq_false, Nat.one_ne_zero, Nat.zero_ne_one, r3_0, r3_1, r3_2, r3_3, r3_4, r3_5, r3_6, r3_7, r3_8, r3_9, r3_10, r3_11, p3, hself]) | (exfalso; omega)
    have hr := read_c (txt f) ((f.val : Int), 0) (fun _ _ _ => by rw [fldL_txt hf]) (fun q => absurd ⟨txt_len f, txt_ok f, by rw [fldL_txt hf]; exact okR_of hf⟩ q)
    have hless : Op.bytesLess (txt f) (txt g) = decide ((f.val : Int) < g.val) := (less_val hf hg).trans (by congr 1; simp)
    have hne : ((f.val : Int) != f.val) = false := by simp
    have hlen : (txt f).length = 24 := txt_len f
    generalize txt f = TA at *
    generalize txt g = TB at *
    generalize (f.val : Int) = va at *
    generalize (g.val : Int) = vb at *
    clear hf hg
    by_cases hlt : va < vb
    · rw [decide_eq_true hlt] at hless
      repeat' first | ((with_reducible (first | refine condD ?_ ?_ | refine condE ?_ ?_ | refine condN ?_ ?_ | refine condI ?_ ?_ | refine condS ?_ ?_)) <;> intro h) | ((with_reducible (first | refine guardD (by with_unfolding_all rfl) ?_ ?_ | refine guardE (by with_unfolding_all rfl) ?_ ?_ | refine guardN (by with_unfolding_all rfl) ?_ ?_ | refine guardI (by with_unfolding_all rfl) ?_ ?_ | refine guardS (by with_unfolding_all rfl) ?_ ?_)) <;> intro h) | ((refine callG hA ?_)) | ((refine callG hB ?_)) | ((refine callG hr ?_)) | ((refine callG hR ?_)) | ((refine callG hD ?_)) | ((refine callG awake1_c ?_)) | (with_reducible refine And.intro ?_ ?_; omega) | (simp only [done_eq, done_eq', donet_eq, donet_eq', fin_val, fin_tup, fin_agg, fin_ro, res_one, res_more, rv_t, rv_c, rv_l, AV.tup.injEq, AV.agg.injEq, AV.ro.injEq, List.cons.injEq, int_eq, bool_eq, Int.toNat_natCast, Int.reduceToNat, Int.toNat_zero, Int.toNat_one, Int.reduceLE, Int.reduceLT, Int.reduceBEq, Int.reduceBNe, beq_self_eq_true, bne_self_eq_false, decide_true, decide_false,  Int.reduceNeg, toNat_pred, toNat_succ, List.length_map, cnd_t, cnd_f, grd_tt, grd_u, grd_tf, grd_ft, grd_ff, g_skip, g_ops, g_seq, g_block, g_exit, g_ret, x_c, x_o, x_l, x_b, g_b, g_nil, r_all, o_nil, g_cond, o_guard, o_call, o_callm, o_callt, o_callx, o_callv, lk, ef, o_mv, o_pick, o_bin, o_never, o_eqs, o_eqb, o_un, o_conv, o_load, o_loadr, o_idxr, o_loads, o_fld, o_idx, o_idxs, o_len, o_lens, o_ext, o_nilck, o_slc, o_slcs, o_build, o_minmax, o_mkfn, o_alloc, o_box, o_boxs, o_row, o_rowr, o_mk, o_asg, o_app, o_store, o_stores, o_eqnil, hv, eqAV, ev, view_t, view_c, view_nil, view_fn, look_own, look_box, look_junk, look_val, look_nilsl, look_ro, look_roAt, look_agg, look_tup, look_clo, look_alias, look_ref, look_into, rowOf, cellsOf, argv, vbin, vun, bnd, elemOf, putParts, setAt, zav, ASt.rid, ASt.free, AV.kill, AV.isHome, AV.noLoan, AV.cellOK, Value.oneCell', put_at, mk_at, mk_nil, initSt, true_and, and_true, and_self, implies_true, List.map_cons, List.map_nil, List.forall_mem_cons, List.not_mem_nil, false_implies, List.length_cons, List.length_nil, List.getD_cons_zero, List.getD_cons_succ, List.getD_nil, List.drop_succ_cons, List.drop_zero, List.take_succ_cons, List.take_zero, List.set_cons_zero, List.set_cons_succ, List.all_cons, List.all_nil, Bool.and_true, Bool.true_and, Bool.not_true, Bool.not_false, reduceCtorEq, if_true, if_false, Bool.false_eq_true, ↓reduceIte, Nat.reduceEqDiff, Nat.reduceAdd, Nat.reduceSub, Nat.reduceMul, Nat.reduceLeDiff, Nat.reduceLT, ne_eq, not_false_eq_true, not_true_eq_false, Nat.one_ne_zero, Nat.zero_ne_one, r3_0, r3_1, r3_2, r3_3, r3_4, r3_5, r3_6, r3_7, r3_8, r3_9, r3_10, r3_11, p3, hne, hlt, hless, hself, BS_size, BS_toList, hlen, Int.cast_ofNat_Int]) | (exfalso; omega)
    · rw [decide_eq_false hlt] at hless
      repeat' first | ((with_reducible (first | refine condD ?_ ?_ | refine condE ?_ ?_ | refine condN ?_ ?_ | refine condI ?_ ?_ | refine condS ?_ ?_)) <;> intro h) | ((with_reducible (first | refine guardD (by with_unfolding_all rfl) ?_ ?_ | refine guardE (by with_unfolding_all rfl) ?_ ?_ | refine guardN (by with_unfolding_all rfl) ?_ ?_ | refine guardI (by with_unfolding_all rfl) ?_ ?_ | refine guardS (by with_unfolding_all rfl) ?_ ?_)) <;> intro h) | ((refine callG hA ?_)) | ((refine callG hB ?_)) | ((refine callG hr ?_)) | ((refine callG hR ?_)) | ((refine callG hD ?_)) | ((refine callG awake1_c ?_)) | (with_reducible refine And.intro ?_ ?_; omega) | (simp only [done_eq, done_eq', donet_eq, donet_eq', fin_val, fin_tup, fin_agg, fin_ro, res_one, res_more, rv_t, rv_c, rv_l, AV.tup.injEq, AV.agg.injEq, AV.ro.injEq, List.cons.injEq, int_eq, bool_eq, Int.toNat_natCast, Int.reduceToNat, Int.toNat_zero, Int.toNat_one, Int.reduceLE, Int.reduceLT, Int.reduceBEq, Int.reduceBNe, beq_self_eq_true, bne_self_eq_false, decide_true, decide_false,  Int.reduceNeg, toNat_pred, toNat_succ, List.length_map, cnd_t, cnd_f, grd_tt, grd_u, grd_tf, grd_ft, grd_ff, g_skip, g_ops, g_seq, g_block, g_exit, g_ret, x_c, x_o, x_l, x_b, g_b, g_nil, r_all, o_nil, g_cond, o_guard, o_call, o_callm, o_callt, o_callx, o_callv, lk, ef, o_mv, o_pick, o_bin, o_never, o_eqs, o_eqb, o_un, o_conv, o_load, o_loadr, o_idxr, o_loads, o_fld, o_idx, o_idxs, o_len, o_lens, o_ext, o_nilck, o_slc, o_slcs, o_build, o_minmax, o_mkfn, o_alloc, o_box, o_boxs, o_row, o_rowr, o_mk, o_asg, o_app, o_store, o_stores, o_eqnil, hv, eqAV, ev, view_t, view_c, view_nil, view_fn, look_own, look_box, look_junk, look_val, look_nilsl, look_ro, look_roAt, look_agg, look_tup, look_clo, look_alias, look_ref, look_into, rowOf, cellsOf, argv, vbin, vun, bnd, elemOf, putParts, setAt, zav, ASt.rid, ASt.free, AV.kill, AV.isHome, AV.noLoan, AV.cellOK, Value.oneCell', put_at, mk_at, mk_nil, initSt, true_and, and_true, and_self, implies_true, List.map_cons, List.map_nil, List.forall_mem_cons, List.not_mem_nil, false_implies, List.length_cons, List.length_nil, List.getD_cons_zero, List.getD_cons_succ, List.getD_nil, List.drop_succ_cons, List.drop_zero, List.take_succ_cons, List.take_zero, List.set_cons_zero, List.set_cons_succ, List.all_cons, List.all_nil, Bool.and_true, Bool.true_and, Bool.not_true, Bool.not_false, reduceCtorEq, if_true, if_false, Bool.false_eq_true, ↓reduceIte, Nat.reduceEqDiff, Nat.reduceAdd, Nat.reduceSub, Nat.reduceMul, Nat.reduceLeDiff, Nat.reduceLT, ne_eq, not_false_eq_true, not_true_eq_false, Nat.one_ne_zero, Nat.zero_ne_one, r3_0, r3_1, r3_2, r3_3, r3_4, r3_5, r3_6, r3_7, r3_8, r3_9, r3_10, r3_11, p3, hne, hlt, hless, hself, BS_size, BS_toList, hlen, Int.cast_ofNat_Int]) | (exfalso; omega)
theorem datesback_c : ∀ avs, HasArgs [.one (.int .i64), .one (.int .i64), .one (.str)] avs → CallOK Tryd.prog 3 avs (.val (.bool true)) := by
  intro avs h
  obtain ⟨v0, r, rfl, h0, h⟩ := args_cons h
  obtain ⟨v1, r, rfl, h1, h⟩ := args_cons h
  obtain ⟨v2, r, rfl, h2, h⟩ := args_cons h
  obtain rfl := args_nil h
  obtain ⟨n0, rfl, hb0⟩ := has_int h0
  obtain ⟨n1, rfl, hb1⟩ := has_int h1
  obtain ⟨n2, rfl, hb2⟩ := has_str h2
  exact datesback_d n0 n1 n2

/-! ### The row -/
open Go.ChangeShapes Go.WideShapes Go.ChangeAt

set_option maxRecDepth 100000 in
theorem datesback_door (os : Os) (args : Array Value) : laidMetH Tryd.prog Rows.tickDatesComeBackRow.laid ((World.doorLaid Tryd.prog 400 os).forCall (fun _ _ => 0) ⟨#[], args, []⟩).memory :=
  laidMetH_of_parts3 (fuel := 8) (laidMet_of_run' 8 (by kernel_rfl) (by kernel_rfl)) (by kernel_rfl) (by kernel_rfl)
set_option maxRecDepth 100000 in
theorem datesback_lifted (os : Os) (started : os.Started) (H : Type) (enc : TypeId × Value → H) :
    ReturnsInHanded {} Tryd.checked os 3 .any (fun w args => (Rows.tickDatesComeBackSpec.pre enc Tryd.prog Tryd.f3 [] false w args ∧ laidMetH Tryd.prog Rows.tickDatesComeBackRow.laid w) ∧ sizedMet enc Tryd.prog Tryd.f3 (OpenSpec.ofChange Rows.tickDatesComeBackSpec) false w args) (Rows.tickDatesComeBackSpec.post enc Tryd.prog Tryd.f3 false true false false) := by
  refine returnsInHanded_of_change_and (C := Tryd.checked) (X := fun w _ => laidMetH Tryd.prog Rows.tickDatesComeBackRow.laid w) (fun _ _ _ hh h => h.of_heap hh) own_knob started (by kernel_rfl) Tryd.func3
    (ChangeSpec.witness_shaped (enc := enc) (C := Tryd.checked) (os := os) (X := fun w _ => laidMetH Tryd.prog Rows.tickDatesComeBackRow.laid w) false (World.doorLaid Tryd.prog 400 os) #[.int .i64 0, .int .i64 0, .string ⟨#[]⟩] 8 rfl (World.shaped_of_RefB (by kernel_rfl) (by kernel_rfl)) (by kernel_rfl) (by kernel_rfl) (by kernel_rfl) (datesback_door os _)) ?_
  intro W base args ds gs before hval hW _ _ hL _
  refine law_step rfl (by kernel_rfl) (fun ds h => ?_) ?_ hval hW ?_
  · match ds, h with | [a, b, c], _ => exact ⟨rfl, rfl, rfl⟩
  · rw [Tryd.params3]
    intro t ht
    simp only [List.mem_cons, List.not_mem_nil, or_false] at ht
    repeat' (first | (rcases ht with rfl | ht) | subst ht)
    all_goals exact ⟨by kernel_rfl, of_decide_eq_true (by kernel_rfl)⟩
  · rw [Tryd.params3]
    intro hin
    exact law_dmT (ss := [.one (.int .i64), .one (.int .i64), .one (.str)]) (by kernel_rfl) hin (tab_of_laid 2 (by kernel_rfl) (by kernel_rfl) hL) datesback_c
theorem datesback_row : Rows.TickDatesComeBackSaid :=
  OpenClaim.holds_of_wide 3 Tryd.f3 rfl rfl rfl rfl rfl rfl rfl ⟨rfl, rfl, rfl, rfl, rfl⟩ rfl rfl rfl rfl rfl (by kernel_rfl) Tryd.func3 (by kernel_rfl)
    (of_decide_eq_true (by kernel_rfl)) (by unfold Func.isWrapper; first | (rw [if_pos (by decide +kernel)]; kernel_rfl) | (rw [if_neg (by decide +kernel)]; exact ⟨rfl, rfl⟩))
    (fun os started H enc _ => datesback_lifted os started H enc)

/-- The card: what the row lists is tied to the program's text. -/
theorem datesback_holds : Rows.TickDatesComeBackCardSaid :=
  Claim7.holds_tied_plain_at .later [] [.data, .data, .data] true (true, "34196f8bdd3dcdedca20c57aa18e17ee47bef08a005c81fbdf9c096c09cf1939") true
    datesback_row (fun _ h => by cases h) (by kernel_rfl) (fun _ h => by cases h) tickDatesComeBack_row_tie rfl ⟨rfl, rfl⟩ (by kernel_rfl) rfl
    (fun f fn hf hfn => by
      obtain rfl : f = 3 := Option.some.inj ((show Tryd.prog.funcNamed "headend/headendlaw1.TickDatesComeBack" = some 3 by kernel_rfl).symm.trans hf) |>.symm
      obtain rfl : fn = Tryd.f3 := (Option.some.inj (Tryd.func3.symm.trans hfn)).symm
      exact ⟨by kernel_rfl, fun j t ht => by
        rw [Tryd.params3] at ht
        have hm := Array.mem_of_getElem? ht
        have hall : ([3, 3, 9].all fun u => !Tryd.prog.wantsStandIn u) = true := by kernel_rfl
        have hm : t ∈ [3, 3, 9] := by simpa using hm
        exact (show Tryd.prog.wantsStandIn t = false by simpa using List.all_eq_true.1 hall t hm)⟩)
    (by kernel_rfl)

end Go.Proofs.YtdfhpcghfmlfjaaDoor
