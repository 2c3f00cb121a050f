/- TickSpansMatchSpec. -/
import Derived.Test.YtlpbnpmmndcleaaKRefSpan
namespace Go.Proofs.Ytlpbnpmmndcleaa
open Go.RowKit
set_option linter.unusedSimpArgs false

theorem combF_len (keep : Bool → Bool → Bool) (a b : List Sp) : (combF keep a b).1.length ≤ 1000 := by
  unfold combF
  split
  · simp
  · split
    · simp
    · split
      · simp
      · rename_i q; exact Nat.le_of_not_lt q
/-! headend/headendlaw1.TickSpansMatchSpec -/
def r11_0 : List POp := [⟨4, .asg (.c (.bool false)), none⟩]
def r11_1 : List POp := [⟨13, .mv (.t 0), none⟩,
  ⟨14, .call 27 [.t 13], none⟩,
  ⟨15, .mv (.t 0), none⟩,
  ⟨16, .call 28 [.t 15], none⟩,
  ⟨17, .bin .neq (.t 14) (.t 16), none⟩]
def r11_2 : List POp := [⟨4, .asg (.c (.bool false)), none⟩]
def r11_3 : List POp := [⟨19, .mv (.t 0), none⟩,
  ⟨20, .mv (.t 1), none⟩,
  ⟨21, .call 29 [.t 19, .t 20], none⟩,
  ⟨18, .mv (.t 21), none⟩,
  ⟨22, .ext 0 (.t 18), none⟩,
  ⟨23, .ext 1 (.t 18), none⟩,
  ⟨5, .asg (.t 22), none⟩,
  ⟨6, .mv (.t 23), none⟩]
def r11_4 : List POp := [⟨25, .mv (.t 0), none⟩,
  ⟨26, .mv (.t 1), none⟩,
  ⟨27, .call 30 [.t 25, .t 26], none⟩,
  ⟨24, .mv (.t 27), none⟩,
  ⟨28, .ext 0 (.t 24), none⟩,
  ⟨29, .ext 1 (.t 24), none⟩,
  ⟨7, .asg (.t 28), none⟩,
  ⟨8, .mv (.t 29), none⟩]
def r11_5 : List POp := [⟨30, .mv (.t 5), none⟩,
  ⟨31, .mv (.t 7), none⟩,
  ⟨32, .call 31 [.t 30, .t 31], none⟩,
  ⟨33, .un .not (.t 32), none⟩,
  ⟨34, .mv (.t 33), none⟩,
  ⟨35, .mv (.t 6), some (34, false)⟩,
  ⟨36, .mv (.t 8), some (34, false)⟩,
  ⟨37, .bin .neq (.t 35) (.t 36), some (34, false)⟩,
  ⟨38, .pick (.t 34) (.c (.bool true)) (.t 37), none⟩]
def r11_6 : List POp := [⟨4, .asg (.c (.bool false)), none⟩]
def r11_7 : List POp := [⟨40, .mv (.t 0), none⟩,
  ⟨41, .mv (.t 1), none⟩,
  ⟨42, .call 32 [.t 40, .t 41], none⟩,
  ⟨39, .mv (.t 42), none⟩,
  ⟨43, .ext 0 (.t 39), none⟩,
  ⟨44, .ext 1 (.t 39), none⟩,
  ⟨5, .asg (.t 43), none⟩,
  ⟨6, .mv (.t 44), none⟩]
def r11_8 : List POp := [⟨46, .mv (.t 0), none⟩,
  ⟨47, .mv (.t 1), none⟩,
  ⟨48, .call 33 [.t 46, .t 47], none⟩,
  ⟨45, .mv (.t 48), none⟩,
  ⟨49, .ext 0 (.t 45), none⟩,
  ⟨50, .ext 1 (.t 45), none⟩,
  ⟨7, .asg (.t 49), none⟩,
  ⟨8, .mv (.t 50), none⟩]
def r11_9 : List POp := [⟨51, .mv (.t 5), none⟩,
  ⟨52, .mv (.t 7), none⟩,
  ⟨53, .call 31 [.t 51, .t 52], none⟩,
  ⟨54, .un .not (.t 53), none⟩,
  ⟨55, .mv (.t 54), none⟩,
  ⟨56, .mv (.t 6), some (55, false)⟩,
  ⟨57, .mv (.t 8), some (55, false)⟩,
  ⟨58, .bin .neq (.t 56) (.t 57), some (55, false)⟩,
  ⟨59, .pick (.t 55) (.c (.bool true)) (.t 58), none⟩]
def r11_10 : List POp := [⟨4, .asg (.c (.bool false)), none⟩]
def r11_11 : List POp := [⟨61, .mv (.t 0), none⟩,
  ⟨62, .mv (.t 1), none⟩,
  ⟨63, .call 34 [.t 61, .t 62], none⟩,
  ⟨60, .mv (.t 63), none⟩,
  ⟨64, .ext 0 (.t 60), none⟩,
  ⟨65, .ext 1 (.t 60), none⟩,
  ⟨5, .asg (.t 64), none⟩,
  ⟨6, .mv (.t 65), none⟩]
def r11_12 : List POp := [⟨67, .mv (.t 0), none⟩,
  ⟨68, .mv (.t 1), none⟩,
  ⟨69, .call 35 [.t 67, .t 68], none⟩,
  ⟨66, .mv (.t 69), none⟩,
  ⟨70, .ext 0 (.t 66), none⟩,
  ⟨71, .ext 1 (.t 66), none⟩,
  ⟨7, .asg (.t 70), none⟩,
  ⟨8, .mv (.t 71), none⟩]
def r11_13 : List POp := [⟨73, .mv (.t 0), none⟩,
  ⟨74, .call 36 [.t 73], none⟩,
  ⟨72, .mv (.t 74), none⟩,
  ⟨75, .ext 0 (.t 72), none⟩,
  ⟨76, .ext 1 (.t 72), none⟩,
  ⟨9, .mv (.t 75), none⟩,
  ⟨10, .mv (.t 76), none⟩]
def r11_14 : List POp := [⟨78, .mv (.t 0), none⟩,
  ⟨79, .call 37 [.t 78], none⟩,
  ⟨77, .mv (.t 79), none⟩,
  ⟨80, .ext 0 (.t 77), none⟩,
  ⟨81, .ext 1 (.t 77), none⟩,
  ⟨11, .mv (.t 80), none⟩,
  ⟨12, .mv (.t 81), none⟩]
def r11_15 : List POp := [⟨82, .mv (.t 5), none⟩,
  ⟨83, .mv (.t 7), none⟩,
  ⟨84, .call 31 [.t 82, .t 83], none⟩,
  ⟨85, .mv (.t 84), none⟩,
  ⟨86, .mv (.t 6), some (85, true)⟩,
  ⟨87, .mv (.t 8), some (85, true)⟩,
  ⟨88, .bin .eql (.t 86) (.t 87), some (85, true)⟩,
  ⟨89, .pick (.t 85) (.t 88) (.c (.bool false)), none⟩,
  ⟨90, .mv (.t 89), none⟩,
  ⟨91, .mv (.t 9), some (90, true)⟩,
  ⟨92, .mv (.t 11), some (90, true)⟩,
  ⟨93, .bin .eql (.t 91) (.t 92), some (90, true)⟩,
  ⟨94, .pick (.t 90) (.t 93) (.c (.bool false)), none⟩,
  ⟨95, .mv (.t 94), none⟩,
  ⟨96, .mv (.t 10), some (95, true)⟩,
  ⟨97, .mv (.t 12), some (95, true)⟩,
  ⟨98, .bin .eql (.t 96) (.t 97), some (95, true)⟩,
  ⟨99, .pick (.t 95) (.t 98) (.c (.bool false)), none⟩,
  ⟨100, .mv (.t 99), none⟩,
  ⟨101, .call 14 [], some (100, true)⟩,
  ⟨102, .pick (.t 100) (.t 101) (.c (.bool false)), none⟩,
  ⟨4, .asg (.t 102), none⟩]
def p11 : PCode := .seq (.ops r11_0) (.seq (.seq (.ops r11_1) (.cond (.t 17) (.seq (.ops r11_2) (.ret)) (.skip))) (.seq (.ops r11_3) (.seq (.ops r11_4) (.seq (.seq (.ops r11_5) (.cond (.t 38) (.seq (.ops r11_6) (.ret)) (.skip))) (.seq (.ops r11_7) (.seq (.ops r11_8) (.seq (.seq (.ops r11_9) (.cond (.t 59) (.seq (.ops r11_10) (.ret)) (.skip))) (.seq (.ops r11_11) (.seq (.ops r11_12) (.seq (.ops r11_13) (.seq (.ops r11_14) (.seq (.ops r11_15) (.ret)))))))))))))
theorem ok11 : okFunc Try.prog 11 [.t 4] 2 p11 = true := by kernel_rfl
theorem spansspec_d (a b : List Sp) (ha0 : a.length ≤ 9223372036854775807) (hb0 : b.length ≤ 9223372036854775807) : CallOK Try.prog 11 [.ro (a.map Sp.av), .ro (b.map Sp.av)] (.val (.bool true)) := by
  refine call_of mixed ok11 rfl ?_
  have h1 := spans_c a ha0
  have h2 := refspans_c a ha0
  have h3 := joinS_c a b ha0 hb0
  have h4 := refjoin_c a b ha0 hb0
  have h5 := meetS_c a b ha0 hb0
  have h6 := refmeet_c a b ha0 hb0
  have h7 := withoutS_c a b ha0 hb0
  have h8 := refwithout_c a b ha0 hb0
  have h9 := length_c a ha0
  have h10 := reflength_c a ha0
  have e1 := eqsp_c (combF orB a b).1 (by have := combF_len orB a b; omega)
  have e2 := eqsp_c (combF andB a b).1 (by have := combF_len andB a b; omega)
  have e3 := eqsp_c (combF notB a b).1 (by have := combF_len notB a b; omega)
  generalize combF orB a b = X at *
  generalize combF andB a b = Y at *
  generalize combF notB a b = Z at *
  generalize spsF a = F at *
  generalize lengthF a = L at *
  repeat' first | (with_reducible refine condD (fun h => ?_) (fun h => ?_)) | (with_reducible refine condE (fun h => ?_) (fun h => ?_)) | (with_reducible refine condN (fun h => ?_) (fun h => ?_)) | (with_reducible refine condI (fun h => ?_) (fun h => ?_)) | (with_reducible refine condS (fun h => ?_) (fun h => ?_)) | (with_reducible refine guardD (by with_unfolding_all rfl) (fun h => ?_) (fun h => ?_)) | (with_reducible refine guardE (by with_unfolding_all rfl) (fun h => ?_) (fun h => ?_)) | (with_reducible refine guardN (by with_unfolding_all rfl) (fun h => ?_) (fun h => ?_)) | (with_reducible refine guardI (by with_unfolding_all rfl) (fun h => ?_) (fun h => ?_)) | (with_reducible refine guardS (by with_unfolding_all rfl) (fun h => ?_) (fun h => ?_)) | ((refine callG h1 ?_)) | ((refine callG h2 ?_)) | ((refine callG h3 ?_)) | ((refine callG h4 ?_)) | ((refine callG h5 ?_)) | ((refine callG h6 ?_)) | ((refine callG h7 ?_)) | ((refine callG h8 ?_)) | ((refine callG h9 ?_)) | ((refine callG h10 ?_)) | ((refine callG e1 ?_)) | ((refine callG e2 ?_)) | ((refine callG e3 ?_)) | ((refine callG awake1_c ?_)) | (with_reducible refine And.intro ?_ ?_; omega) | (simp only [done_eq, done_eq', donet_eq, donet_eq', fin_val, fin_tup, fin_agg, fin_ro, res_one, res_more, rv_t, rv_c, rv_l, AV.tup.injEq, AV.agg.injEq, AV.ro.injEq, List.cons.injEq, int_eq, bool_eq, Int.toNat_natCast, Int.reduceToNat, Int.toNat_zero, Int.toNat_one, Int.reduceLE, Int.reduceLT, Int.reduceBEq, Int.reduceBNe, beq_self_eq_true, bne_self_eq_false, decide_true, decide_false,  Int.reduceNeg, toNat_pred, toNat_succ, List.length_map, cnd_t, cnd_f, grd_tt, grd_u, grd_tf, grd_ft, grd_ff, g_skip, g_ops, g_seq, g_block, g_exit, g_ret, x_c, x_o, x_l, x_b, g_b, g_nil, r_all, o_nil, g_cond, o_guard, o_call, o_callm, o_callx, o_callv, lk, ef, o_mv, o_pick, o_bin, o_never, o_eqs, o_eqb, o_un, o_conv, o_load, o_loadr, o_idxr, o_loads, o_fld, o_idx, o_idxs, o_len, o_lens, o_ext, o_nilck, o_slc, o_slcs, o_build, o_minmax, o_mkfn, o_alloc, o_box, o_boxs, o_row, o_rowr, o_mk, o_asg, o_app, o_store, o_stores, o_eqnil, hv, eqAV, ev, view_t, view_c, view_nil, view_fn, look_own, look_box, look_junk, look_val, look_nilsl, look_ro, look_roAt, look_agg, look_tup, look_clo, look_alias, look_ref, look_into, rowOf, cellsOf, argv, vbin, vun, bnd, elemOf, putParts, setAt, zav, ASt.rid, ASt.free, AV.kill, AV.isHome, AV.noLoan, AV.cellOK, Value.oneCell', put_at, mk_at, mk_nil, initSt, true_and, and_true, and_self, implies_true, List.map_cons, List.map_nil, List.forall_mem_cons, List.not_mem_nil, false_implies, List.length_cons, List.length_nil, List.getD_cons_zero, List.getD_cons_succ, List.getD_nil, List.drop_succ_cons, List.drop_zero, List.take_succ_cons, List.take_zero, List.set_cons_zero, List.set_cons_succ, List.all_cons, List.all_nil, Bool.and_true, Bool.true_and, Bool.not_true, Bool.not_false, reduceCtorEq, if_true, if_false, Bool.false_eq_true, ↓reduceIte, Nat.reduceEqDiff, Nat.reduceAdd, Nat.reduceSub, Nat.reduceMul, Nat.reduceLeDiff, Nat.reduceLT, ne_eq, not_false_eq_true, not_true_eq_false, Nat.one_ne_zero, Nat.zero_ne_one, r11_0, r11_1, r11_2, r11_3, r11_4, r11_5, r11_6, r11_7, r11_8, r11_9, r11_10, r11_11, r11_12, r11_13, r11_14, r11_15, p11]) | (exfalso; omega)
theorem spansspec_c : ∀ avs, HasArgs [.one (.row [.int .i64, .int .i64]), .one (.row [.int .i64, .int .i64])] avs → CallOK Try.prog 11 avs (.val (.bool true)) := by
  intro avs h
  obtain ⟨v0, r, rfl, h0, h⟩ := args_cons h
  obtain ⟨v1, r, rfl, h1, h⟩ := args_cons h
  obtain rfl := args_nil h
  obtain ⟨n0, rfl, hl0, hb0⟩ := has_row h0 all_sp
  obtain ⟨n1, rfl, hl1, hb1⟩ := has_row h1 all_sp
  exact spansspec_d n0 n1 (by unfold maxLen at hl0; omega) (by unfold maxLen at hl1; omega)

/-! ### The row -/
open Go.ChangeShapes Go.WideShapes Go.ChangeAt
set_option maxRecDepth 100000 in
theorem spansspec_lifted (os : Os) (started : os.Started) (H : Type) (enc : TypeId × Value → H) :
    ReturnsInHanded {} Try.checked os 11 .any (Rows.tickSpansMatchSpecSpec.pre6 enc Try.prog Try.f11 Rows.tickSpansMatchSpecRow.domain false) (Rows.tickSpansMatchSpecSpec.post enc Try.prog Try.f11 false true false false) := by
  refine returnsInHanded_of_change (C := Try.checked) own_knob started (by kernel_rfl) Try.func11
    (ChangeSpec.witness6 (enc := enc) (C := Try.checked) false ⟨#[], #[.slice none 0 0, .slice none 0 0], []⟩ 8 (by kernel_rfl) (by kernel_rfl) (by kernel_rfl) (by kernel_rfl)) ?_
  intro W base args ds gs before hval hW _ _
  refine law_step rfl (by kernel_rfl) (fun ds h => ?_) ?_ hval hW ?_
  · match ds, h with | [a, b], _ => exact ⟨rfl, rfl, rfl⟩
  · rw [Try.params11]
    intro t ht
    simp only [List.mem_cons, List.not_mem_nil, or_false] at ht
    repeat' (first | (rcases ht with rfl | ht) | subst ht)
    all_goals exact ⟨by kernel_rfl, of_decide_eq_true (by kernel_rfl)⟩
  · rw [Try.params11]
    intro hin
    exact law_dm (ss := [.one (.row [.int .i64, .int .i64]), .one (.row [.int .i64, .int .i64])]) (by kernel_rfl) hin spansspec_c

theorem spansspec_holds : Rows.TickSpansMatchSpecSaid :=
  OpenClaim.holds_of_wide 11 Try.f11 rfl rfl rfl rfl rfl rfl rfl ⟨rfl, rfl, rfl, rfl, rfl⟩ rfl rfl rfl rfl rfl (by kernel_rfl) Try.func11 (by kernel_rfl)
    (of_decide_eq_true (by kernel_rfl)) (by unfold Func.isWrapper; first | (rw [if_pos (by decide +kernel)]; kernel_rfl) | (rw [if_neg (by decide +kernel)]; exact ⟨rfl, rfl⟩))
    (fun os started H enc _ => spansspec_lifted os started H enc)

end Go.Proofs.Ytlpbnpmmndcleaa
