/- The reference's numbers: headendref1's digits and Round, by the machine on data. -/
import Derived.Test.YtdfhpcghfmlfjaaDoorKNumF
import Derived.Lib.RepeatB
namespace Go.Proofs.YtdfhpcghfmlfjaaDoor
open Go.RowKit Go.Lib
set_option linter.unusedSimpArgs false

theorem dgs_add (a : Nat) : ∀ b n, dgs (a + b) n = dgs a (n / 10 ^ b) ++ dgs b n
  | 0, n => by simp [dgs]
  | b + 1, n => by
    rw [← Nat.add_assoc, dgs, dgs_add a b (n / 10), dgs, List.append_assoc, Nat.div_div_eq_div_mul, Nat.pow_succ, Nat.mul_comm 10]
theorem dgs_pad (a : Nat) : ∀ b n, n < 10 ^ a → dgs (a + b) n = List.replicate b 48 ++ dgs a n
  | 0, n, _ => by simp
  | b + 1, n, h => by
    rw [← Nat.add_assoc, ← dgs_zero (a + b) n (Nat.lt_of_lt_of_le h (Nat.pow_le_pow_right (by decide) (by omega))), dgs_pad a b n h, List.replicate_succ, List.cons_append]
theorem dgs_mod : ∀ k n, dgs k (n % 10 ^ k) = dgs k n
  | 0, n => rfl
  | k + 1, n => by
    rw [dgs, dgs, Nat.pow_succ, Nat.mul_comm (10 ^ k) 10, Nat.mod_mul_right_div_self, dgs_mod k, Nat.mod_mul_right_mod]
theorem nDigits_limb {v d : Nat} (hv : 0 < v) (hd : d < 10000) : nDigits (d + 10000 * v) = nDigits v + 4 := by
  rw [nDigits_big (by omega), nDigits_big (by omega), nDigits_big (by omega), nDigits_big (by omega), show (d + 10000 * v) / 10 / 10 / 10 / 10 = v by omega]
/-- A number's digits out of those of its limbs. -/
theorem dec_limb {v d : Nat} (hv : 0 < v) (hd : d < 10000) : decDigits v ++ (List.replicate (4 - nDigits d) 48 ++ decDigits d) = decDigits (d + 10000 * v) := by
  have h4 : nDigits d ≤ 4 := nDigits_le 4 d (by decide) (by omega)
  have e := dgs_add (nDigits v) 4 (d + 10000 * v)
  rw [show (d + 10000 * v) / 10 ^ 4 = v by omega, ← dgs_mod 4 (d + 10000 * v), show (d + 10000 * v) % 10 ^ 4 = d by omega, dgs_dec _ v rfl, ← nDigits_limb hv hd, dgs_dec _ _ rfl] at e
  rw [e]
  congr 1
  have := dgs_pad (nDigits d) (4 - nDigits d) d (lt_pow_nDigits d)
  rw [show nDigits d + (4 - nDigits d) = 4 by omega, dgs_dec _ d rfl] at this
  exact this.symm
theorem rep_one (x : UInt8) : ∀ c, repeatL [x] c = List.replicate c x
  | 0 => by simp [repeatL]
  | c + 1 => by
    have := rep_one x c
    simp_all [repeatL, List.replicate_succ]
theorem repeat_c (c : Nat) (hc : c ≤ 1000) : CallOK Tryd.prog 90 [.val (.string (BS [48])), .val (.int .i64 c)] (.val (.string (BS (List.replicate c 48)))) := by
  intro w S vs hT hS hvl hr
  match vs, hvl with
  | [v0, v1], _ =>
    have h0 := rel_val (hr 0 _ v0 rfl rfl)
    have h1 := rel_val (hr 1 _ v1 rfl rfl)
    subst h0
    subst h1
    refine (Tryd.strings_Repeat (BS [48]) c w (by omega) (by rw [BS_size]; simp; omega)).mono ?_
    rintro ev w' ⟨rfl, hb⟩
    refine ⟨_, rfl, hb, ?_⟩
    rw [BS_data, rep_one]
    exact Rel.val _
/-! headend/headendref1.digits -/
def r71_0 : List POp := [⟨2, .asg (.c (.string ⟨#[]⟩)), none⟩]
def r71_1 : List POp := [⟨6, .mv (.t 0), none⟩,
  ⟨7, .len (.t 6), none⟩,
  ⟨8, .bin .eql (.t 7) (.c (.int .i64 0)), none⟩]
def r71_2 : List POp := [⟨2, .asg (.c (.string ⟨#[48]⟩)), none⟩]
def r71_3 : List POp := [⟨9, .mv (.t 0), none⟩,
  ⟨10, .mv (.t 0), none⟩,
  ⟨11, .len (.t 10), none⟩,
  ⟨12, .bin .sub (.t 11) (.c (.int .i64 1)), none⟩,
  ⟨13, .idx 1 (.t 9) (.t 12), none⟩,
  ⟨14, .load (.t 13), none⟩,
  ⟨15, .call 29 [.t 14], none⟩,
  ⟨3, .asg (.t 15), none⟩]
def r71_4 : List POp := [⟨16, .mv (.t 0), none⟩,
  ⟨17, .len (.t 16), none⟩,
  ⟨18, .bin .sub (.t 17) (.c (.int .i64 2)), none⟩,
  ⟨4, .asg (.t 18), none⟩]
def r71_5 : List POp := [⟨19, .mv (.t 4), none⟩,
  ⟨20, .bin .geq (.t 19) (.c (.int .i64 0)), none⟩]
def r71_7 : List POp := [⟨23, .mv (.t 0), none⟩,
  ⟨24, .mv (.t 4), none⟩,
  ⟨25, .idx 1 (.t 23) (.t 24), none⟩,
  ⟨26, .load (.t 25), none⟩,
  ⟨27, .call 29 [.t 26], none⟩,
  ⟨5, .asg (.t 27), none⟩]
def r71_8 : List POp := [⟨28, .mv (.t 3), none⟩,
  ⟨29, .mv (.t 5), none⟩,
  ⟨30, .lens (.t 29), none⟩,
  ⟨31, .bin .sub (.c (.int .i64 4)) (.t 30), none⟩,
  ⟨32, .call 90 [.c (.string ⟨#[48]⟩), .t 31], none⟩,
  ⟨33, .mv (.t 5), none⟩,
  ⟨34, .bin .add (.t 32) (.t 33), none⟩,
  ⟨35, .bin .add (.t 28) (.t 34), none⟩,
  ⟨3, .asg (.t 35), none⟩]
def r71_6 : List POp := [⟨21, .mv (.t 4), none⟩,
  ⟨22, .bin .sub (.t 21) (.c (.int .i64 1)), none⟩,
  ⟨4, .asg (.t 22), none⟩]
def r71_9 : List POp := [⟨36, .mv (.t 3), none⟩,
  ⟨2, .asg (.t 36), none⟩]
def l71_0 : PCode := .seq (.seq (.ops r71_5) (.cond (.t 20) (.skip) (.exit 0))) (.seq (.block 1 (.seq (.ops r71_7) (.ops r71_8))) (.ops r71_6))
def p71 : PCode := .seq (.ops r71_0) (.seq (.seq (.ops r71_1) (.cond (.t 8) (.seq (.ops r71_2) (.ret)) (.skip))) (.seq (.ops r71_3) (.seq (.seq (.ops r71_4) (.block 0 (.loop l71_0))) (.seq (.ops r71_9) (.ret)))))
theorem ok71 : okFunc Tryd.prog 71 [.t 2] 1 p71 = true := by kernel_rfl
set_option maxRecDepth 20000 in
set_option maxHeartbeats 2000000 in
theorem digits_c (n : Nat) (hn : (lm n).length ≤ 1000) : CallOK Tryd.prog 71 [.ro ((lm n).map oneN)] (.val (.string (BS (decDigits n)))) := by
  refine call_of mixed ok71 rfl ?_
  by_cases h0 : n = 0
  · subst h0
    have e0 : BS (decDigits 0) = BS [48] := by rw [← dgs_dec 1 0 (nDigits_small (by decide))]; rfl
    rw [lm_0, e0]
    repeat' first | ((with_reducible (first | refine condD ?_ ?_ | refine condE ?_ ?_ | refine condN ?_ ?_ | refine condI ?_ ?_ | refine condS ?_ ?_)) <;> intro h) | ((with_reducible (first | refine guardD (by with_unfolding_all rfl) ?_ ?_ | refine guardE (by with_unfolding_all rfl) ?_ ?_ | refine guardN (by with_unfolding_all rfl) ?_ ?_ | refine guardI (by with_unfolding_all rfl) ?_ ?_ | refine guardS (by with_unfolding_all rfl) ?_ ?_)) <;> intro h) | (with_reducible refine And.intro ?_ ?_; omega) | (simp only [done_eq, done_eq', donet_eq, donet_eq', fin_val, fin_tup, fin_agg, fin_ro, res_one, res_more, rv_t, rv_c, rv_l, AV.tup.injEq, AV.agg.injEq, AV.ro.injEq, List.cons.injEq, int_eq, bool_eq, Int.toNat_natCast, Int.reduceToNat, Int.toNat_zero, Int.toNat_one, Int.reduceLE, Int.reduceLT, Int.reduceBEq, Int.reduceBNe, beq_self_eq_true, bne_self_eq_false, decide_true, decide_false,  Int.reduceNeg, toNat_pred, toNat_succ, List.length_map, cnd_t, cnd_f, grd_tt, grd_u, grd_tf, grd_ft, grd_ff, g_skip, g_ops, g_seq, g_block, g_exit, g_ret, x_c, x_o, x_l, x_b, g_b, g_nil, r_all, o_nil, g_cond, o_guard, o_call, o_callm, o_callt, o_callx, o_callv, lk, ef, o_mv, o_pick, o_bin, o_never, o_eqs, o_eqb, o_un, o_conv, o_load, o_loadr, o_idxr, o_loads, o_fld, o_idx, o_idxs, o_len, o_lens, o_ext, o_nilck, o_slc, o_slcs, o_build, o_minmax, o_mkfn, o_alloc, o_box, o_boxs, o_row, o_rowr, o_mk, o_asg, o_app, o_store, o_stores, o_eqnil, hv, eqAV, ev, view_t, view_c, view_nil, view_fn, look_own, look_box, look_junk, look_val, look_nilsl, look_ro, look_roAt, look_agg, look_tup, look_clo, look_alias, look_ref, look_into, rowOf, cellsOf, argv, vbin, vun, bnd, elemOf, putParts, setAt, zav, ASt.rid, ASt.free, AV.kill, AV.isHome, AV.noLoan, AV.cellOK, Value.oneCell', put_at, mk_at, mk_nil, initSt, true_and, and_true, and_self, implies_true, List.map_cons, List.map_nil, List.forall_mem_cons, List.not_mem_nil, false_implies, List.length_cons, List.length_nil, List.getD_cons_zero, List.getD_cons_succ, List.getD_nil, List.drop_succ_cons, List.drop_zero, List.take_succ_cons, List.take_zero, List.set_cons_zero, List.set_cons_succ, List.all_cons, List.all_nil, Bool.and_true, Bool.true_and, Bool.not_true, Bool.not_false, reduceCtorEq, if_true, if_false, Bool.false_eq_true, ↓reduceIte, Nat.reduceEqDiff, Nat.reduceAdd, Nat.reduceSub, Nat.reduceMul, Nat.reduceLeDiff, Nat.reduceLT, ne_eq, not_false_eq_true, not_true_eq_false, Nat.one_ne_zero, Nat.zero_ne_one, r71_0, r71_1, r71_2, r71_3, r71_4, r71_5, r71_7, r71_8, r71_6, r71_9, p71, BS_48, BS_nil, List.length_map, List.map_nil, List.length_nil]) | (exfalso; omega)
  have va := val_lm n
  have da := dig_lm n
  have la := last_lm n
  have hpos : 0 < (lm n).length := lm_pos_len.2 (by omega)
  have hdec : decDigits n = decDigits (valN (lm n)) := by rw [val_lm]
  rw [hdec]
  clear hdec
  generalize lm n = A at *
  have hne : A ≠ [] := fun e => by rw [e] at hpos; simp at hpos
  have hz : ((A.length : Int) == 0) = false := by rw [beq_eq_false_iff_ne]; omega
  have hm1 : A.length - 1 < A.length := by omega
  have w1 : IntKind.i64.wrap ((A.length : Int) - 1) = ((A.length - 1 : Nat) : Int) := by rw [wrap_in (by omega) (by omega)]; omega
  have w2 : IntKind.i64.wrap ((A.length : Int) - 2) = ((A.length - 1 : Nat) : Int) - 1 := by rw [wrap_in (by omega) (by omega)]; omega
  have gL := getD_map (f := oneN) (d := []) hm1
  simp only [oneN] at gL
  have i0 : (0 : Int) ≤ ((A.length - 1 : Nat) : Int) := by omega
  have i1 : ((A.length - 1 : Nat) : Int) < A.length := by omega
  have hlast : A[A.length - 1] ≠ 0 := la _ (by rw [List.getLast?_eq_getElem?]; exact List.getElem?_eq_getElem hm1)
  have hI0 := itoa_c A[A.length - 1] (by have := da _ (List.getElem_mem hm1); omega)
  have hdl : valN (A.drop (A.length - 1)) = A[A.length - 1] := by rw [List.drop_eq_getElem_cons hm1, List.drop_of_length_le (by omega), valN, valN]; omega
  rw [← hdl] at hI0
  repeat' first | ((with_reducible (first | refine condD ?_ ?_ | refine condE ?_ ?_ | refine condN ?_ ?_ | refine condI ?_ ?_ | refine condS ?_ ?_)) <;> intro h) | ((with_reducible (first | refine guardD (by with_unfolding_all rfl) ?_ ?_ | refine guardE (by with_unfolding_all rfl) ?_ ?_ | refine guardN (by with_unfolding_all rfl) ?_ ?_ | refine guardI (by with_unfolding_all rfl) ?_ ?_ | refine guardS (by with_unfolding_all rfl) ?_ ?_)) <;> intro h) | ((refine callG hI0 ?_)) | (with_reducible refine And.intro ?_ ?_; omega) | (simp only [done_eq, done_eq', donet_eq, donet_eq', fin_val, fin_tup, fin_agg, fin_ro, res_one, res_more, rv_t, rv_c, rv_l, AV.tup.injEq, AV.agg.injEq, AV.ro.injEq, List.cons.injEq, int_eq, bool_eq, Int.toNat_natCast, Int.reduceToNat, Int.toNat_zero, Int.toNat_one, Int.reduceLE, Int.reduceLT, Int.reduceBEq, Int.reduceBNe, beq_self_eq_true, bne_self_eq_false, decide_true, decide_false,  Int.reduceNeg, toNat_pred, toNat_succ, List.length_map, cnd_t, cnd_f, grd_tt, grd_u, grd_tf, grd_ft, grd_ff, g_skip, g_ops, g_seq, g_block, g_exit, g_ret, x_c, x_o, x_l, x_b, g_b, g_nil, r_all, o_nil, g_cond, o_guard, o_call, o_callm, o_callt, o_callx, o_callv, lk, ef, o_mv, o_pick, o_bin, o_never, o_eqs, o_eqb, o_un, o_conv, o_load, o_loadr, o_idxr, o_loads, o_fld, o_idx, o_idxs, o_len, o_lens, o_ext, o_nilck, o_slc, o_slcs, o_build, o_minmax, o_mkfn, o_alloc, o_box, o_boxs, o_row, o_rowr, o_mk, o_asg, o_app, o_store, o_stores, o_eqnil, hv, eqAV, ev, view_t, view_c, view_nil, view_fn, look_own, look_box, look_junk, look_val, look_nilsl, look_ro, look_roAt, look_agg, look_tup, look_clo, look_alias, look_ref, look_into, rowOf, cellsOf, argv, vbin, vun, bnd, elemOf, putParts, setAt, zav, ASt.rid, ASt.free, AV.kill, AV.isHome, AV.noLoan, AV.cellOK, Value.oneCell', put_at, mk_at, mk_nil, initSt, true_and, and_true, and_self, implies_true, List.map_cons, List.map_nil, List.forall_mem_cons, List.not_mem_nil, false_implies, List.length_cons, List.length_nil, List.getD_cons_zero, List.getD_cons_succ, List.getD_nil, List.drop_succ_cons, List.drop_zero, List.take_succ_cons, List.take_zero, List.set_cons_zero, List.set_cons_succ, List.all_cons, List.all_nil, Bool.and_true, Bool.true_and, Bool.not_true, Bool.not_false, reduceCtorEq, if_true, if_false, Bool.false_eq_true, ↓reduceIte, Nat.reduceEqDiff, Nat.reduceAdd, Nat.reduceSub, Nat.reduceMul, Nat.reduceLeDiff, Nat.reduceLT, ne_eq, not_false_eq_true, not_true_eq_false, Nat.one_ne_zero, Nat.zero_ne_one, r71_0, r71_1, r71_2, r71_3, r71_4, r71_5, r71_7, r71_8, r71_6, r71_9, p71, hz, w1, w2, gL, i0, i1, BS_nil, List.length_map, ← hdl]) | (exfalso; omega)
  refine loopS (fun k : Nat => mk [(0, .ro (A.map oneN)), (3, .val (.string (BS (decDigits (valN (A.drop k)))))), (4, .val (.int .i64 ((k : Int) - 1)))]) (fun k => k ≤ A.length - 1 ∧ 0 < valN (A.drop k)) (fun k => k) (A.length - 1) (weak_mk ?_) ⟨Nat.le_refl _, by rw [hdl]; omega⟩ ?_
  · simp only [wk_cons, wk_nil, wk1, vint_eq, vbool_eq, AV.val.injEq, done_eq, done_eq', donet_eq, donet_eq', fin_val, fin_tup, fin_agg, fin_ro, res_one, res_more, rv_t, rv_c, rv_l, AV.tup.injEq, AV.agg.injEq, AV.ro.injEq, List.cons.injEq, int_eq, bool_eq, Int.toNat_natCast, Int.reduceToNat, Int.toNat_zero, Int.toNat_one, Int.reduceLE, Int.reduceLT, Int.reduceBEq, Int.reduceBNe, beq_self_eq_true, bne_self_eq_false, decide_true, decide_false,  Int.reduceNeg, toNat_pred, toNat_succ, List.length_map, cnd_t, cnd_f, grd_tt, grd_u, grd_tf, grd_ft, grd_ff, g_skip, g_ops, g_seq, g_block, g_exit, g_ret, x_c, x_o, x_l, x_b, g_b, g_nil, r_all, o_nil, g_cond, o_guard, o_call, o_callm, o_callt, o_callx, o_callv, lk, ef, o_mv, o_pick, o_bin, o_never, o_eqs, o_eqb, o_un, o_conv, o_load, o_loadr, o_idxr, o_loads, o_fld, o_idx, o_idxs, o_len, o_lens, o_ext, o_nilck, o_slc, o_slcs, o_build, o_minmax, o_mkfn, o_alloc, o_box, o_boxs, o_row, o_rowr, o_mk, o_asg, o_app, o_store, o_stores, o_eqnil, hv, eqAV, ev, view_t, view_c, view_nil, view_fn, look_own, look_box, look_junk, look_val, look_nilsl, look_ro, look_roAt, look_agg, look_tup, look_clo, look_alias, look_ref, look_into, rowOf, cellsOf, argv, vbin, vun, bnd, elemOf, putParts, setAt, zav, ASt.rid, ASt.free, AV.kill, AV.isHome, AV.noLoan, AV.cellOK, Value.oneCell', put_at, mk_at, mk_nil, initSt, true_and, and_true, and_self, implies_true, List.map_cons, List.map_nil, List.forall_mem_cons, List.not_mem_nil, false_implies, List.length_cons, List.length_nil, List.getD_cons_zero, List.getD_cons_succ, List.getD_nil, List.drop_succ_cons, List.drop_zero, List.take_succ_cons, List.take_zero, List.set_cons_zero, List.set_cons_succ, List.all_cons, List.all_nil, Bool.and_true, Bool.true_and, Bool.not_true, Bool.not_false, reduceCtorEq, if_true, if_false, Bool.false_eq_true, ↓reduceIte, Nat.reduceEqDiff, Nat.reduceAdd, Nat.reduceSub, Nat.reduceMul, Nat.reduceLeDiff, Nat.reduceLT, ne_eq, not_false_eq_true, not_true_eq_false, Nat.one_ne_zero, Nat.zero_ne_one]
  rintro J hJ k ⟨hk, hvp⟩
  by_cases hk0 : k = 0
  · have hki : ¬ (0 : Int) ≤ (k : Int) - 1 := by omega
    rw [show A.drop k = A by rw [hk0, List.drop_zero]]
    clear hJ
    repeat' first | ((with_reducible (first | refine condD ?_ ?_ | refine condE ?_ ?_ | refine condN ?_ ?_ | refine condI ?_ ?_ | refine condS ?_ ?_)) <;> intro h) | ((with_reducible (first | refine guardD (by with_unfolding_all rfl) ?_ ?_ | refine guardE (by with_unfolding_all rfl) ?_ ?_ | refine guardN (by with_unfolding_all rfl) ?_ ?_ | refine guardI (by with_unfolding_all rfl) ?_ ?_ | refine guardS (by with_unfolding_all rfl) ?_ ?_)) <;> intro h) | (with_reducible refine And.intro ?_ ?_; omega) | (simp only [done_eq, done_eq', donet_eq, donet_eq', fin_val, fin_tup, fin_agg, fin_ro, res_one, res_more, rv_t, rv_c, rv_l, AV.tup.injEq, AV.agg.injEq, AV.ro.injEq, List.cons.injEq, int_eq, bool_eq, Int.toNat_natCast, Int.reduceToNat, Int.toNat_zero, Int.toNat_one, Int.reduceLE, Int.reduceLT, Int.reduceBEq, Int.reduceBNe, beq_self_eq_true, bne_self_eq_false, decide_true, decide_false,  Int.reduceNeg, toNat_pred, toNat_succ, List.length_map, cnd_t, cnd_f, grd_tt, grd_u, grd_tf, grd_ft, grd_ff, g_skip, g_ops, g_seq, g_block, g_exit, g_ret, x_c, x_o, x_l, x_b, g_b, g_nil, r_all, o_nil, g_cond, o_guard, o_call, o_callm, o_callt, o_callx, o_callv, lk, ef, o_mv, o_pick, o_bin, o_never, o_eqs, o_eqb, o_un, o_conv, o_load, o_loadr, o_idxr, o_loads, o_fld, o_idx, o_idxs, o_len, o_lens, o_ext, o_nilck, o_slc, o_slcs, o_build, o_minmax, o_mkfn, o_alloc, o_box, o_boxs, o_row, o_rowr, o_mk, o_asg, o_app, o_store, o_stores, o_eqnil, hv, eqAV, ev, view_t, view_c, view_nil, view_fn, look_own, look_box, look_junk, look_val, look_nilsl, look_ro, look_roAt, look_agg, look_tup, look_clo, look_alias, look_ref, look_into, rowOf, cellsOf, argv, vbin, vun, bnd, elemOf, putParts, setAt, zav, ASt.rid, ASt.free, AV.kill, AV.isHome, AV.noLoan, AV.cellOK, Value.oneCell', put_at, mk_at, mk_nil, initSt, true_and, and_true, and_self, implies_true, List.map_cons, List.map_nil, List.forall_mem_cons, List.not_mem_nil, false_implies, List.length_cons, List.length_nil, List.getD_cons_zero, List.getD_cons_succ, List.getD_nil, List.drop_succ_cons, List.drop_zero, List.take_succ_cons, List.take_zero, List.set_cons_zero, List.set_cons_succ, List.all_cons, List.all_nil, Bool.and_true, Bool.true_and, Bool.not_true, Bool.not_false, reduceCtorEq, if_true, if_false, Bool.false_eq_true, ↓reduceIte, Nat.reduceEqDiff, Nat.reduceAdd, Nat.reduceSub, Nat.reduceMul, Nat.reduceLeDiff, Nat.reduceLT, ne_eq, not_false_eq_true, not_true_eq_false, Nat.one_ne_zero, Nat.zero_ne_one, r71_0, r71_1, r71_2, r71_3, r71_4, r71_5, r71_7, r71_8, r71_6, r71_9, p71, l71_0, hki]) | (exfalso; omega)
  obtain ⟨j, rfl⟩ : ∃ j, k = j + 1 := ⟨k - 1, by omega⟩
  have hj : j < A.length := by omega
  have ej : ((j + 1 : Nat) : Int) - 1 = (j : Int) := by omega
  have hki : (0 : Int) ≤ (j : Int) := by omega
  have i2 : (j : Int) < A.length := by omega
  have wj : IntKind.i64.wrap ((j : Int) - 1) = (j : Int) - 1 := wrap_in (by omega) (by omega)
  have gA := getD_map (f := oneN) (d := []) hj
  simp only [oneN] at gA
  have hd0 := da _ (List.getElem_mem hj)
  have hv1 : valN (A.drop j) = A[j] + 10000 * valN (A.drop (j + 1)) := by rw [List.drop_eq_getElem_cons hj, valN]
  have hI := itoa_c A[j] (by omega)
  have hlen : (decDigits A[j]).length ≤ 4 := by rw [decDigits_length]; exact nDigits_le 4 _ (by decide) (by omega)
  have hR := repeat_c (4 - nDigits A[j]) (by omega)
  have hw4 : IntKind.i64.wrap (4 - ((decDigits A[j]).length : Int)) = ((4 - nDigits A[j] : Nat) : Int) := by rw [decDigits_length] at hlen ⊢; rw [wrap_in (by omega) (by omega)]; omega
  have hcat := dec_limb hvp hd0
  rw [← hv1] at hcat
  have hnew : 0 < valN (A.drop j) := by omega
  have hs1 : BS (List.replicate (4 - nDigits A[j]) 48) ++ BS (decDigits A[j]) = BS (List.replicate (4 - nDigits A[j]) 48 ++ decDigits A[j]) := BS_app _ _
  have b1 : (List.replicate (4 - nDigits A[j]) (48 : UInt8)).length + (decDigits A[j]).length ≤ 9223372036854775807 := by rw [List.length_replicate]; omega
  have b2 : (decDigits (valN (A.drop (j + 1)))).length + (List.replicate (4 - nDigits A[j]) (48 : UInt8) ++ decDigits A[j]).length ≤ 9223372036854775807 := by
    have h1 := valN_lt (l := A.drop (j + 1)) (fun x hx => da x (List.mem_of_mem_drop hx))
    rw [show (10000 : Nat) = 10 ^ 4 from rfl, ← Nat.pow_mul, List.length_drop] at h1
    have h2 := nDigits_le (4 * (A.length - (j + 1))) _ (by omega) h1
    rw [List.length_append, List.length_replicate, decDigits_length]
    omega
  have hs : BS (decDigits (valN (A.drop (j + 1)))) ++ BS (List.replicate (4 - nDigits A[j]) 48 ++ decDigits A[j]) = BS (decDigits (valN (A.drop j))) := by rw [BS_app, hcat]
  clear hcat hv1
  generalize List.replicate (4 - nDigits A[j]) (48 : UInt8) = RP at *
  generalize hPd : RP ++ decDigits A[j] = PD at *
  repeat' first | ((with_reducible (first | refine condD ?_ ?_ | refine condE ?_ ?_ | refine condN ?_ ?_ | refine condI ?_ ?_ | refine condS ?_ ?_)) <;> intro h) | ((with_reducible (first | refine guardD (by with_unfolding_all rfl) ?_ ?_ | refine guardE (by with_unfolding_all rfl) ?_ ?_ | refine guardN (by with_unfolding_all rfl) ?_ ?_ | refine guardI (by with_unfolding_all rfl) ?_ ?_ | refine guardS (by with_unfolding_all rfl) ?_ ?_)) <;> intro h) | ((refine callG hI ?_)) | ((refine callG hR ?_)) | (with_reducible refine And.intro ?_ ?_; omega) | (simp only [done_eq, done_eq', donet_eq, donet_eq', fin_val, fin_tup, fin_agg, fin_ro, res_one, res_more, rv_t, rv_c, rv_l, AV.tup.injEq, AV.agg.injEq, AV.ro.injEq, List.cons.injEq, int_eq, bool_eq, Int.toNat_natCast, Int.reduceToNat, Int.toNat_zero, Int.toNat_one, Int.reduceLE, Int.reduceLT, Int.reduceBEq, Int.reduceBNe, beq_self_eq_true, bne_self_eq_false, decide_true, decide_false,  Int.reduceNeg, toNat_pred, toNat_succ, List.length_map, cnd_t, cnd_f, grd_tt, grd_u, grd_tf, grd_ft, grd_ff, g_skip, g_ops, g_seq, g_block, g_exit, g_ret, x_c, x_o, x_l, x_b, g_b, g_nil, r_all, o_nil, g_cond, o_guard, o_call, o_callm, o_callt, o_callx, o_callv, lk, ef, o_mv, o_pick, o_bin, o_never, o_eqs, o_eqb, o_un, o_conv, o_load, o_loadr, o_idxr, o_loads, o_fld, o_idx, o_idxs, o_len, o_lens, o_ext, o_nilck, o_slc, o_slcs, o_build, o_minmax, o_mkfn, o_alloc, o_box, o_boxs, o_row, o_rowr, o_mk, o_asg, o_app, o_store, o_stores, o_eqnil, hv, eqAV, ev, view_t, view_c, view_nil, view_fn, look_own, look_box, look_junk, look_val, look_nilsl, look_ro, look_roAt, look_agg, look_tup, look_clo, look_alias, look_ref, look_into, rowOf, cellsOf, argv, vbin, vun, bnd, elemOf, putParts, setAt, zav, ASt.rid, ASt.free, AV.kill, AV.isHome, AV.noLoan, AV.cellOK, Value.oneCell', put_at, mk_at, mk_nil, initSt, true_and, and_true, and_self, implies_true, List.map_cons, List.map_nil, List.forall_mem_cons, List.not_mem_nil, false_implies, List.length_cons, List.length_nil, List.getD_cons_zero, List.getD_cons_succ, List.getD_nil, List.drop_succ_cons, List.drop_zero, List.take_succ_cons, List.take_zero, List.set_cons_zero, List.set_cons_succ, List.all_cons, List.all_nil, Bool.and_true, Bool.true_and, Bool.not_true, Bool.not_false, reduceCtorEq, if_true, if_false, Bool.false_eq_true, ↓reduceIte, Nat.reduceEqDiff, Nat.reduceAdd, Nat.reduceSub, Nat.reduceMul, Nat.reduceLeDiff, Nat.reduceLT, ne_eq, not_false_eq_true, not_true_eq_false, Nat.one_ne_zero, Nat.zero_ne_one, r71_0, r71_1, r71_2, r71_3, r71_4, r71_5, r71_7, r71_8, r71_6, r71_9, p71, l71_0, ej, hki, i2, wj, gA, hw4, hs1, hs, b1, b2, BS_48, BS_size, List.length_map]) | (exfalso; omega)
  all_goals first | omega | exact again hJ j (weak_mk (by simp only [wk_cons, wk_nil, wk1, vint_eq, vbool_eq, AV.val.injEq, done_eq, done_eq', donet_eq, donet_eq', fin_val, fin_tup, fin_agg, fin_ro, res_one, res_more, rv_t, rv_c, rv_l, AV.tup.injEq, AV.agg.injEq, AV.ro.injEq, List.cons.injEq, int_eq, bool_eq, Int.toNat_natCast, Int.reduceToNat, Int.toNat_zero, Int.toNat_one, Int.reduceLE, Int.reduceLT, Int.reduceBEq, Int.reduceBNe, beq_self_eq_true, bne_self_eq_false, decide_true, decide_false,  Int.reduceNeg, toNat_pred, toNat_succ, List.length_map, cnd_t, cnd_f, grd_tt, grd_u, grd_tf, grd_ft, grd_ff, g_skip, g_ops, g_seq, g_block, g_exit, g_ret, x_c, x_o, x_l, x_b, g_b, g_nil, r_all, o_nil, g_cond, o_guard, o_call, o_callm, o_callt, o_callx, o_callv, lk, ef, o_mv, o_pick, o_bin, o_never, o_eqs, o_eqb, o_un, o_conv, o_load, o_loadr, o_idxr, o_loads, o_fld, o_idx, o_idxs, o_len, o_lens, o_ext, o_nilck, o_slc, o_slcs, o_build, o_minmax, o_mkfn, o_alloc, o_box, o_boxs, o_row, o_rowr, o_mk, o_asg, o_app, o_store, o_stores, o_eqnil, hv, eqAV, ev, view_t, view_c, view_nil, view_fn, look_own, look_box, look_junk, look_val, look_nilsl, look_ro, look_roAt, look_agg, look_tup, look_clo, look_alias, look_ref, look_into, rowOf, cellsOf, argv, vbin, vun, bnd, elemOf, putParts, setAt, zav, ASt.rid, ASt.free, AV.kill, AV.isHome, AV.noLoan, AV.cellOK, Value.oneCell', put_at, mk_at, mk_nil, initSt, true_and, and_true, and_self, implies_true, List.map_cons, List.map_nil, List.forall_mem_cons, List.not_mem_nil, false_implies, List.length_cons, List.length_nil, List.getD_cons_zero, List.getD_cons_succ, List.getD_nil, List.drop_succ_cons, List.drop_zero, List.take_succ_cons, List.take_zero, List.set_cons_zero, List.set_cons_succ, List.all_cons, List.all_nil, Bool.and_true, Bool.true_and, Bool.not_true, Bool.not_false, reduceCtorEq, if_true, if_false, Bool.false_eq_true, ↓reduceIte, Nat.reduceEqDiff, Nat.reduceAdd, Nat.reduceSub, Nat.reduceMul, Nat.reduceLeDiff, Nat.reduceLT, ne_eq, not_false_eq_true, not_true_eq_false, Nat.one_ne_zero, Nat.zero_ne_one])) ⟨by omega, hnew⟩ (by omega)
/-! headend/headendref1.Round -/
def r55_0 : List POp := [⟨3, .boxs (.t 0), none⟩,
  ⟨6, .asg (.c (.int .i64 0)), none⟩,
  ⟨7, .asg (.c (.bool false)), none⟩]
def r55_1 : List POp := [⟨11, .loads 3 (.t 3), none⟩,
  ⟨12, .mv (.t 1), none⟩,
  ⟨13, .call 68 [.t 11, .t 12], none⟩,
  ⟨8, .asg (.t 13), none⟩]
def r55_2 : List POp := [⟨14, .mv (.t 8), none⟩,
  ⟨15, .mv (.t 2), none⟩,
  ⟨16, .call 29 [.t 15], none⟩,
  ⟨17, .call 70 [.t 16], none⟩,
  ⟨18, .call 69 [.t 14, .t 17], none⟩,
  ⟨19, .bin .gtr (.t 18) (.c (.int .i64 0)), none⟩]
def r55_3 : List POp := [⟨6, .asg (.c (.int .i64 0)), none⟩,
  ⟨7, .asg (.c (.bool false)), none⟩]
def r55_4 : List POp := [⟨21, .mv (.t 8), none⟩,
  ⟨22, .call 71 [.t 21], none⟩,
  ⟨23, .call 39 [.t 22], none⟩,
  ⟨20, .mv (.t 23), none⟩,
  ⟨24, .ext 0 (.t 20), none⟩,
  ⟨25, .ext 1 (.t 20), none⟩,
  ⟨9, .mv (.t 24), none⟩,
  ⟨10, .asg (.t 25), none⟩]
def r55_5 : List POp := [⟨26, .fld 0 (.t 3), none⟩,
  ⟨27, .load (.t 26), none⟩]
def r55_6 : List POp := [⟨28, .mv (.t 9), none⟩,
  ⟨29, .un .neg (.t 28), none⟩,
  ⟨9, .asg (.t 29), none⟩]
def r55_7 : List POp := [⟨30, .mv (.t 9), none⟩,
  ⟨6, .asg (.t 30), none⟩,
  ⟨7, .asg (.c (.bool true)), none⟩]
def p55 : PCode := .seq (.ops r55_0) (.seq (.ops r55_1) (.seq (.seq (.ops r55_2) (.cond (.t 19) (.seq (.ops r55_3) (.ret)) (.skip))) (.seq (.ops r55_4) (.seq (.seq (.ops r55_5) (.cond (.t 27) (.ops r55_6) (.skip))) (.seq (.ops r55_7) (.ret))))))
theorem ok55 : okFunc Tryd.prog 55 [.t 6, .t 7] 3 p55 = true := by kernel_rfl
set_option maxRecDepth 20000 in
set_option maxHeartbeats 2000000 in
/-- Rounded to a whole number that is not greater than most (18 digits). -/
theorem round18_c (z : Int) (q : Nat) (way : Int) (most : Nat) (hm : most < 1000000000000000000) (hq : 0 < q) (h1 : (lm z.natAbs).length ≤ 700) (h2 : (lm q).length ≤ 700) :
    CallOK Tryd.prog 55 [.agg (RQ z q), .val (.int .i64 way), .val (.int .i64 most)]
      (.tup [.val (.int .i64 (if most < rndN (decide (z < 0)) z.natAbs q way then 0 else if z < 0 then -(rndN (decide (z < 0)) z.natAbs q way : Int) else rndN (decide (z < 0)) z.natAbs q way)), .val (.bool (decide (rndN (decide (z < 0)) z.natAbs q way ≤ most)))]) := by
  refine call_of mixed ok55 rfl ?_
  have hRd := round_q z q way hq (by omega) (by omega)
  have hNl : (lm (rndN (decide (z < 0)) z.natAbs q way)).length ≤ 800 := by
    have h := lm_below z.natAbs
    obtain ⟨K, hK⟩ : ∃ K, K = 700 := ⟨_, rfl⟩
    have h3 : 10000 ^ (lm z.natAbs).length ≤ 10000 ^ K := Nat.pow_le_pow_right (by decide) (by omega)
    have h4 : z.natAbs / q ≤ z.natAbs := Nat.div_le_self _ _
    have h5 : rndN (decide (z < 0)) z.natAbs q way ≤ z.natAbs + 1 := by unfold rndN; split <;> omega
    refine Nat.le_trans (lm_len (k := K + 1) ?_) (by omega)
    have h7 : 10000 ^ (K + 1) = 10000 ^ K * 10000 := Nat.pow_succ _ _
    generalize 10000 ^ K = P7 at *
    rw [h7]
    omega
  obtain ⟨N, hN⟩ : ∃ N, N = rndN (decide (z < 0)) z.natAbs q way := ⟨_, rfl⟩
  rw [← hN] at hRd hNl ⊢
  have hI := itoa_c most (by omega)
  have hdl : (decDigits most).length ≤ 18 := by rw [decDigits_length]; exact nDigits_le 18 _ (by decide) (by omega)
  have hL := limbs_c (decDigits most) (dec_digN most) (by omega)
  rw [num_dec2] at hL
  have hC := compare_c N most (by omega)
  have hsgn : RQ z q = [.val (.bool (decide (z < 0))), (RQ z q)[1]'(by simp [RQ, numAV]), (RQ z q)[2]'(by simp [RQ, numAV])] := rfl
  obtain ⟨T, B, hTB⟩ : ∃ T B, RQ z q = [.val (.bool (decide (z < 0))), T, B] := ⟨_, _, hsgn⟩
  rw [hTB] at hRd ⊢
  clear hTB hsgn
  by_cases hbig : most < N
  · have e1 : cmpN N most = 1 := by rw [cmpN, if_neg (by omega), if_pos hbig]
    rw [if_pos hbig, decide_eq_false (by omega)]
    rw [e1] at hC
    generalize decDigits most = DM at *
    repeat' first | ((with_reducible (first | refine condD ?_ ?_ | refine condE ?_ ?_ | refine condN ?_ ?_ | refine condI ?_ ?_ | refine condS ?_ ?_)) <;> intro h) | ((with_reducible (first | refine guardD (by with_unfolding_all rfl) ?_ ?_ | refine guardE (by with_unfolding_all rfl) ?_ ?_ | refine guardN (by with_unfolding_all rfl) ?_ ?_ | refine guardI (by with_unfolding_all rfl) ?_ ?_ | refine guardS (by with_unfolding_all rfl) ?_ ?_)) <;> intro h) | ((refine callG hRd ?_)) | ((refine callG hI ?_)) | ((refine callG hL ?_)) | ((refine callG hC ?_)) | (with_reducible refine And.intro ?_ ?_; omega) | (simp only [done_eq, done_eq', donet_eq, donet_eq', fin_val, fin_tup, fin_agg, fin_ro, res_one, res_more, rv_t, rv_c, rv_l, AV.tup.injEq, AV.agg.injEq, AV.ro.injEq, List.cons.injEq, int_eq, bool_eq, Int.toNat_natCast, Int.reduceToNat, Int.toNat_zero, Int.toNat_one, Int.reduceLE, Int.reduceLT, Int.reduceBEq, Int.reduceBNe, beq_self_eq_true, bne_self_eq_false, decide_true, decide_false,  Int.reduceNeg, toNat_pred, toNat_succ, List.length_map, cnd_t, cnd_f, grd_tt, grd_u, grd_tf, grd_ft, grd_ff, g_skip, g_ops, g_seq, g_block, g_exit, g_ret, x_c, x_o, x_l, x_b, g_b, g_nil, r_all, o_nil, g_cond, o_guard, o_call, o_callm, o_callt, o_callx, o_callv, lk, ef, o_mv, o_pick, o_bin, o_never, o_eqs, o_eqb, o_un, o_conv, o_load, o_loadr, o_idxr, o_loads, o_fld, o_idx, o_idxs, o_len, o_lens, o_ext, o_nilck, o_slc, o_slcs, o_build, o_minmax, o_mkfn, o_alloc, o_box, o_boxs, o_row, o_rowr, o_mk, o_asg, o_app, o_store, o_stores, o_eqnil, hv, eqAV, ev, view_t, view_c, view_nil, view_fn, look_own, look_box, look_junk, look_val, look_nilsl, look_ro, look_roAt, look_agg, look_tup, look_clo, look_alias, look_ref, look_into, rowOf, cellsOf, argv, vbin, vun, bnd, elemOf, putParts, setAt, zav, ASt.rid, ASt.free, AV.kill, AV.isHome, AV.noLoan, AV.cellOK, Value.oneCell', put_at, mk_at, mk_nil, initSt, true_and, and_true, and_self, implies_true, List.map_cons, List.map_nil, List.forall_mem_cons, List.not_mem_nil, false_implies, List.length_cons, List.length_nil, List.getD_cons_zero, List.getD_cons_succ, List.getD_nil, List.drop_succ_cons, List.drop_zero, List.take_succ_cons, List.take_zero, List.set_cons_zero, List.set_cons_succ, List.all_cons, List.all_nil, Bool.and_true, Bool.true_and, Bool.not_true, Bool.not_false, reduceCtorEq, if_true, if_false, Bool.false_eq_true, ↓reduceIte, Nat.reduceEqDiff, Nat.reduceAdd, Nat.reduceSub, Nat.reduceMul, Nat.reduceLeDiff, Nat.reduceLT, ne_eq, not_false_eq_true, not_true_eq_false, Nat.one_ne_zero, Nat.zero_ne_one, r55_0, r55_1, r55_2, r55_3, r55_4, r55_5, r55_6, r55_7, p55]) | (exfalso; omega)
  have hle : ¬ (0 : Int) < cmpN N most := by
    unfold cmpN
    split
    · decide
    · first | decide | (split <;> first | decide | omega)
  have hD := digits_c N (by omega)
  have hdn : (decDigits N).length ≤ 18 := by rw [decDigits_length]; exact nDigits_le 18 _ (by decide) (by omega)
  have hA := atoi_c (decDigits N) (fun e => by
    have h3 := decDigits_length N
    rw [e] at h3
    by_cases h : N < 10
    · rw [nDigits_small h] at h3; simp at h3
    · rw [nDigits_big h] at h3; simp at h3) hdn (dec_digN N)
  rw [num_dec2] at hA
  rw [if_neg hbig, decide_eq_true (by omega)]
  generalize cmpN N most = cc at *
  generalize decDigits most = DM at *
  generalize decDigits N = DN at *
  by_cases hz : z < 0
  · rw [decide_eq_true hz] at hRd ⊢
    rw [if_pos hz]
    have wn : IntKind.i64.wrap (0 - (N : Int)) = -(N : Int) := by rw [wrap_in (by omega) (by omega)]; omega
    repeat' first | ((with_reducible (first | refine condD ?_ ?_ | refine condE ?_ ?_ | refine condN ?_ ?_ | refine condI ?_ ?_ | refine condS ?_ ?_)) <;> intro h) | ((with_reducible (first | refine guardD (by with_unfolding_all rfl) ?_ ?_ | refine guardE (by with_unfolding_all rfl) ?_ ?_ | refine guardN (by with_unfolding_all rfl) ?_ ?_ | refine guardI (by with_unfolding_all rfl) ?_ ?_ | refine guardS (by with_unfolding_all rfl) ?_ ?_)) <;> intro h) | ((refine callG hRd ?_)) | ((refine callG hI ?_)) | ((refine callG hL ?_)) | ((refine callG hC ?_)) | ((refine callG hD ?_)) | ((refine callG hA ?_)) | (with_reducible refine And.intro ?_ ?_; omega) | (simp only [done_eq, done_eq', donet_eq, donet_eq', fin_val, fin_tup, fin_agg, fin_ro, res_one, res_more, rv_t, rv_c, rv_l, AV.tup.injEq, AV.agg.injEq, AV.ro.injEq, List.cons.injEq, int_eq, bool_eq, Int.toNat_natCast, Int.reduceToNat, Int.toNat_zero, Int.toNat_one, Int.reduceLE, Int.reduceLT, Int.reduceBEq, Int.reduceBNe, beq_self_eq_true, bne_self_eq_false, decide_true, decide_false,  Int.reduceNeg, toNat_pred, toNat_succ, List.length_map, cnd_t, cnd_f, grd_tt, grd_u, grd_tf, grd_ft, grd_ff, g_skip, g_ops, g_seq, g_block, g_exit, g_ret, x_c, x_o, x_l, x_b, g_b, g_nil, r_all, o_nil, g_cond, o_guard, o_call, o_callm, o_callt, o_callx, o_callv, lk, ef, o_mv, o_pick, o_bin, o_never, o_eqs, o_eqb, o_un, o_conv, o_load, o_loadr, o_idxr, o_loads, o_fld, o_idx, o_idxs, o_len, o_lens, o_ext, o_nilck, o_slc, o_slcs, o_build, o_minmax, o_mkfn, o_alloc, o_box, o_boxs, o_row, o_rowr, o_mk, o_asg, o_app, o_store, o_stores, o_eqnil, hv, eqAV, ev, view_t, view_c, view_nil, view_fn, look_own, look_box, look_junk, look_val, look_nilsl, look_ro, look_roAt, look_agg, look_tup, look_clo, look_alias, look_ref, look_into, rowOf, cellsOf, argv, vbin, vun, bnd, elemOf, putParts, setAt, zav, ASt.rid, ASt.free, AV.kill, AV.isHome, AV.noLoan, AV.cellOK, Value.oneCell', put_at, mk_at, mk_nil, initSt, true_and, and_true, and_self, implies_true, List.map_cons, List.map_nil, List.forall_mem_cons, List.not_mem_nil, false_implies, List.length_cons, List.length_nil, List.getD_cons_zero, List.getD_cons_succ, List.getD_nil, List.drop_succ_cons, List.drop_zero, List.take_succ_cons, List.take_zero, List.set_cons_zero, List.set_cons_succ, List.all_cons, List.all_nil, Bool.and_true, Bool.true_and, Bool.not_true, Bool.not_false, reduceCtorEq, if_true, if_false, Bool.false_eq_true, ↓reduceIte, Nat.reduceEqDiff, Nat.reduceAdd, Nat.reduceSub, Nat.reduceMul, Nat.reduceLeDiff, Nat.reduceLT, ne_eq, not_false_eq_true, not_true_eq_false, Nat.one_ne_zero, Nat.zero_ne_one, r55_0, r55_1, r55_2, r55_3, r55_4, r55_5, r55_6, r55_7, p55, hle, wn]) | (exfalso; omega)
  · rw [decide_eq_false hz] at hRd ⊢
    rw [if_neg hz]
    repeat' first | ((with_reducible (first | refine condD ?_ ?_ | refine condE ?_ ?_ | refine condN ?_ ?_ | refine condI ?_ ?_ | refine condS ?_ ?_)) <;> intro h) | ((with_reducible (first | refine guardD (by with_unfolding_all rfl) ?_ ?_ | refine guardE (by with_unfolding_all rfl) ?_ ?_ | refine guardN (by with_unfolding_all rfl) ?_ ?_ | refine guardI (by with_unfolding_all rfl) ?_ ?_ | refine guardS (by with_unfolding_all rfl) ?_ ?_)) <;> intro h) | ((refine callG hRd ?_)) | ((refine callG hI ?_)) | ((refine callG hL ?_)) | ((refine callG hC ?_)) | ((refine callG hD ?_)) | ((refine callG hA ?_)) | (with_reducible refine And.intro ?_ ?_; omega) | (simp only [done_eq, done_eq', donet_eq, donet_eq', fin_val, fin_tup, fin_agg, fin_ro, res_one, res_more, rv_t, rv_c, rv_l, AV.tup.injEq, AV.agg.injEq, AV.ro.injEq, List.cons.injEq, int_eq, bool_eq, Int.toNat_natCast, Int.reduceToNat, Int.toNat_zero, Int.toNat_one, Int.reduceLE, Int.reduceLT, Int.reduceBEq, Int.reduceBNe, beq_self_eq_true, bne_self_eq_false, decide_true, decide_false,  Int.reduceNeg, toNat_pred, toNat_succ, List.length_map, cnd_t, cnd_f, grd_tt, grd_u, grd_tf, grd_ft, grd_ff, g_skip, g_ops, g_seq, g_block, g_exit, g_ret, x_c, x_o, x_l, x_b, g_b, g_nil, r_all, o_nil, g_cond, o_guard, o_call, o_callm, o_callt, o_callx, o_callv, lk, ef, o_mv, o_pick, o_bin, o_never, o_eqs, o_eqb, o_un, o_conv, o_load, o_loadr, o_idxr, o_loads, o_fld, o_idx, o_idxs, o_len, o_lens, o_ext, o_nilck, o_slc, o_slcs, o_build, o_minmax, o_mkfn, o_alloc, o_box, o_boxs, o_row, o_rowr, o_mk, o_asg, o_app, o_store, o_stores, o_eqnil, hv, eqAV, ev, view_t, view_c, view_nil, view_fn, look_own, look_box, look_junk, look_val, look_nilsl, look_ro, look_roAt, look_agg, look_tup, look_clo, look_alias, look_ref, look_into, rowOf, cellsOf, argv, vbin, vun, bnd, elemOf, putParts, setAt, zav, ASt.rid, ASt.free, AV.kill, AV.isHome, AV.noLoan, AV.cellOK, Value.oneCell', put_at, mk_at, mk_nil, initSt, true_and, and_true, and_self, implies_true, List.map_cons, List.map_nil, List.forall_mem_cons, List.not_mem_nil, false_implies, List.length_cons, List.length_nil, List.getD_cons_zero, List.getD_cons_succ, List.getD_nil, List.drop_succ_cons, List.drop_zero, List.take_succ_cons, List.take_zero, List.set_cons_zero, List.set_cons_succ, List.all_cons, List.all_nil, Bool.and_true, Bool.true_and, Bool.not_true, Bool.not_false, reduceCtorEq, if_true, if_false, Bool.false_eq_true, ↓reduceIte, Nat.reduceEqDiff, Nat.reduceAdd, Nat.reduceSub, Nat.reduceMul, Nat.reduceLeDiff, Nat.reduceLT, ne_eq, not_false_eq_true, not_true_eq_false, Nat.one_ne_zero, Nat.zero_ne_one, r55_0, r55_1, r55_2, r55_3, r55_4, r55_5, r55_6, r55_7, p55, hle]) | (exfalso; omega)
end Go.Proofs.YtdfhpcghfmlfjaaDoor
