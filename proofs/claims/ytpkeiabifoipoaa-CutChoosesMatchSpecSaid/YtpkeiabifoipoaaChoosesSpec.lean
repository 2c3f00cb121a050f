/- CutChoosesMatchSpec. -/
import Derived.Test.YtpkeiabifoipoaaKChooseW
import Derived.Test.YtpkeiabifoipoaaKRefChoM
import Derived.Test.YtpkeiabifoipoaaDmP
import Derived.Test.YtpkeiabifoipoaaKWishL
namespace Go.Proofs.Ytpkeiabifoipoaa
open Go.RowKit
set_option linter.unusedSimpArgs false

theorem path_len2 (f : Nat → Plan) (g : Nat → Int) : ∀ (c : Nat) (i : Int), (pathGo f g c i).length ≤ c
  | 0, _ => by simp [pathGo]
  | c + 1, i => by
    rw [pathGo]
    split
    · simp
    · have := path_len2 f g c (f i.toNat).next
      simp only [List.length_cons]; omega
theorem gridGo_len (p t : Int) : ∀ (l : List Int) (k : Nat), (gridGo p t k l).length ≤ l.length
  | [], _ => by simp [gridGo]
  | x :: r, k => by
    rw [gridGo]
    split
    · have := gridGo_len p t r k; simp only [List.length_cons]; omega
    · have := gridGo_len p t r (k + 1); simp only [List.length_cons]; omega
theorem grid_len (t : Int) (l : List Int) : (grid t l).length ≤ l.length := by
  cases l with
  | nil => simp [grid]
  | cons p r => have := gridGo_len p t r 1; simp only [grid, List.length_cons]; omega
theorem out_len (l : List Int) (fin sc t m : Int) : (chooseOut l fin sc t m).length ≤ 1000 := by
  unfold chooseOut
  split
  · rename_i h
    have h0 : wishF l sc t m = 0 := by
      unfold chooseF at h
      split at h
      · rename_i q; exact absurd h q
      · rename_i q; simpa using q
    have := (rise_0 (wishF_0 h0).2.2.2.2).2.1
    exact Nat.le_trans (path_len2 _ _ _ _) this
  · simp
theorem gridR_len (l : List Int) (sc t m : Int) : (gridR l sc t m).1.length ≤ 1000 := by
  unfold gridR
  split
  · simp
  · rename_i h
    have h0 : wishF l sc t m = 0 := by simpa using h
    have := (rise_0 (wishF_0 h0).2.2.2.2).2.1
    exact Nat.le_trans (grid_len _ _) this
/-! headend/headendlaw4.CutChoosesMatchSpec -/
def r5_0 : List POp := [⟨5, .boxs (.t 2), none⟩,
  ⟨6, .asg (.c (.bool false)), none⟩]
def r5_1 : List POp := [⟨18, .mv (.t 0), none⟩,
  ⟨19, .mv (.t 1), none⟩,
  ⟨20, .loads 3 (.t 5), none⟩,
  ⟨21, .call 14 [.t 18, .t 19, .t 20], none⟩,
  ⟨17, .mv (.t 21), none⟩,
  ⟨22, .ext 0 (.t 17), none⟩,
  ⟨23, .ext 1 (.t 17), none⟩,
  ⟨24, .ext 2 (.t 17), none⟩,
  ⟨7, .asg (.t 22), none⟩,
  ⟨8, .mv (.t 23), none⟩,
  ⟨9, .mv (.t 24), none⟩]
def r5_2 : List POp := [⟨26, .mv (.t 0), none⟩,
  ⟨27, .mv (.t 1), none⟩,
  ⟨28, .loads 3 (.t 5), none⟩,
  ⟨29, .call 15 [.t 26, .t 27, .t 28], none⟩,
  ⟨25, .mv (.t 29), none⟩,
  ⟨30, .ext 0 (.t 25), none⟩,
  ⟨31, .ext 1 (.t 25), none⟩,
  ⟨32, .ext 2 (.t 25), none⟩,
  ⟨10, .asg (.t 30), none⟩,
  ⟨11, .mv (.t 31), none⟩,
  ⟨12, .mv (.t 32), none⟩]
def r5_3 : List POp := [⟨34, .mv (.t 0), none⟩,
  ⟨35, .loads 3 (.t 5), none⟩,
  ⟨36, .call 11 [.t 34, .t 35], none⟩,
  ⟨33, .mv (.t 36), none⟩,
  ⟨37, .ext 0 (.t 33), none⟩,
  ⟨38, .ext 1 (.t 33), none⟩,
  ⟨13, .asg (.t 37), none⟩,
  ⟨14, .mv (.t 38), none⟩]
def r5_4 : List POp := [⟨40, .mv (.t 0), none⟩,
  ⟨41, .loads 3 (.t 5), none⟩,
  ⟨42, .call 16 [.t 40, .t 41], none⟩,
  ⟨39, .mv (.t 42), none⟩,
  ⟨43, .ext 0 (.t 39), none⟩,
  ⟨44, .ext 1 (.t 39), none⟩,
  ⟨15, .asg (.t 43), none⟩,
  ⟨16, .mv (.t 44), none⟩]
def r5_5 : List POp := [⟨45, .mv (.t 7), none⟩,
  ⟨46, .mv (.t 10), none⟩,
  ⟨47, .call 17 [.t 45, .t 46], none⟩,
  ⟨48, .mv (.t 47), none⟩,
  ⟨49, .mv (.t 8), some (48, true)⟩,
  ⟨50, .mv (.t 11), some (48, true)⟩,
  ⟨51, .bin .eql (.t 49) (.t 50), some (48, true)⟩,
  ⟨52, .pick (.t 48) (.t 51) (.c (.bool false)), none⟩,
  ⟨53, .mv (.t 52), none⟩,
  ⟨54, .mv (.t 9), some (53, true)⟩,
  ⟨55, .mv (.t 12), some (53, true)⟩,
  ⟨56, .bin .eql (.t 54) (.t 55), some (53, true)⟩,
  ⟨57, .pick (.t 53) (.t 56) (.c (.bool false)), none⟩,
  ⟨58, .mv (.t 57), none⟩,
  ⟨59, .mv (.t 13), some (58, true)⟩,
  ⟨60, .mv (.t 15), some (58, true)⟩,
  ⟨61, .call 17 [.t 59, .t 60], some (58, true)⟩,
  ⟨62, .pick (.t 58) (.t 61) (.c (.bool false)), none⟩,
  ⟨63, .mv (.t 62), none⟩,
  ⟨64, .mv (.t 14), some (63, true)⟩,
  ⟨65, .mv (.t 16), some (63, true)⟩,
  ⟨66, .bin .eql (.t 64) (.t 65), some (63, true)⟩,
  ⟨67, .pick (.t 63) (.t 66) (.c (.bool false)), none⟩,
  ⟨68, .mv (.t 67), none⟩,
  ⟨69, .call 12 [], some (68, true)⟩,
  ⟨70, .pick (.t 68) (.t 69) (.c (.bool false)), none⟩,
  ⟨6, .asg (.t 70), none⟩]
def p5 : PCode := .seq (.ops r5_0) (.seq (.ops r5_1) (.seq (.ops r5_2) (.seq (.ops r5_3) (.seq (.ops r5_4) (.seq (.ops r5_5) (.ret))))))
theorem ok5 : okFunc Try.prog 5 [.t 6] 3 p5 = true := by kernel_rfl
theorem choosespec_d (l : List Int) (fin sc t m : Int) : CallOK Try.prog 5 [.ro (l.map oneI), .val (.int .i64 fin), .agg [.val (.int .i64 sc), .val (.int .i64 t), .val (.int .i64 m)]] (.val (.bool true)) := by
  refine call_of mixed ok5 rfl ?_
  have h1 := choose_c l fin sc t m
  have h2 := refchoose_c l fin sc t m
  have h3 := grid_c l sc t m
  have h4 := refgrid_c l sc t m
  have e1 := eqi_c (chooseOut l fin sc t m) (by have := out_len l fin sc t m; omega)
  have e2 := eqi_c (gridR l sc t m).1 (by have := gridR_len l sc t m; omega)
  generalize chooseOut l fin sc t m = A at *
  generalize chooseSum l fin sc t m = B at *
  generalize chooseF l fin sc t m = C at *
  generalize gridR l sc t m = D at *
  repeat' first | (with_reducible refine condD (fun h => ?_) (fun h => ?_)) | (with_reducible refine condE (fun h => ?_) (fun h => ?_)) | (with_reducible refine condN (fun h => ?_) (fun h => ?_)) | (with_reducible refine condI (fun h => ?_) (fun h => ?_)) | (with_reducible refine condS (fun h => ?_) (fun h => ?_)) | (with_reducible refine guardD (by with_unfolding_all rfl) (fun h => ?_) (fun h => ?_)) | (with_reducible refine guardE (by with_unfolding_all rfl) (fun h => ?_) (fun h => ?_)) | (with_reducible refine guardN (by with_unfolding_all rfl) (fun h => ?_) (fun h => ?_)) | (with_reducible refine guardI (by with_unfolding_all rfl) (fun h => ?_) (fun h => ?_)) | (with_reducible refine guardS (by with_unfolding_all rfl) (fun h => ?_) (fun h => ?_)) | ((refine callG h1 ?_)) | ((refine callG h2 ?_)) | ((refine callG h3 ?_)) | ((refine callG h4 ?_)) | ((refine callG e1 ?_)) | ((refine callG e2 ?_)) | ((refine callG awake_c ?_)) | (with_reducible refine And.intro ?_ ?_; omega) | (simp only [done_eq, done_eq', donet_eq, donet_eq', fin_val, fin_tup, fin_agg, fin_ro, res_one, res_more, rv_t, rv_c, rv_l, AV.tup.injEq, AV.agg.injEq, AV.ro.injEq, List.cons.injEq, int_eq, bool_eq, Int.toNat_natCast, Int.reduceToNat, Int.toNat_zero, Int.toNat_one, Int.reduceLE, Int.reduceLT, Int.reduceBEq, Int.reduceBNe, beq_self_eq_true, bne_self_eq_false, decide_true, decide_false,  Int.reduceNeg, toNat_pred, toNat_succ, List.length_map, cnd_t, cnd_f, grd_tt, grd_u, grd_tf, grd_ft, grd_ff, g_skip, g_ops, g_seq, g_block, g_exit, g_ret, x_c, x_o, x_l, x_b, g_b, g_nil, r_all, o_nil, g_cond, o_guard, o_call, o_callm, o_callx, o_callv, lk, ef, o_mv, o_pick, o_bin, o_never, o_eqs, o_eqb, o_un, o_conv, o_load, o_loadr, o_idxr, o_loads, o_fld, o_idx, o_idxs, o_len, o_lens, o_ext, o_nilck, o_slc, o_slcs, o_build, o_minmax, o_mkfn, o_alloc, o_box, o_boxs, o_row, o_rowr, o_mk, o_asg, o_app, o_store, o_stores, o_eqnil, hv, eqAV, ev, view_t, view_c, view_nil, view_fn, look_own, look_box, look_junk, look_val, look_nilsl, look_ro, look_roAt, look_agg, look_tup, look_clo, look_alias, look_ref, look_into, rowOf, cellsOf, argv, vbin, vun, bnd, elemOf, putParts, setAt, zav, ASt.rid, ASt.free, AV.kill, AV.isHome, AV.noLoan, AV.cellOK, Value.oneCell', put_at, mk_at, mk_nil, initSt, true_and, and_true, and_self, implies_true, List.map_cons, List.map_nil, List.forall_mem_cons, List.not_mem_nil, false_implies, List.length_cons, List.length_nil, List.getD_cons_zero, List.getD_cons_succ, List.getD_nil, List.drop_succ_cons, List.drop_zero, List.take_succ_cons, List.take_zero, List.set_cons_zero, List.set_cons_succ, List.all_cons, List.all_nil, Bool.and_true, Bool.true_and, Bool.not_true, Bool.not_false, reduceCtorEq, if_true, if_false, Bool.false_eq_true, ↓reduceIte, Nat.reduceEqDiff, Nat.reduceAdd, Nat.reduceSub, Nat.reduceMul, Nat.reduceLeDiff, Nat.reduceLT, ne_eq, not_false_eq_true, not_true_eq_false, Nat.one_ne_zero, Nat.zero_ne_one, r5_0, r5_1, r5_2, r5_3, r5_4, r5_5, p5]) | (exfalso; omega)
theorem choosespec_c : ∀ avs, HasArgs [.one (.row [.int .i64]), .one (.int .i64), .agg [.int .i64, .int .i64, .int .i64]] avs → CallOK Try.prog 5 avs (.val (.bool true)) := by
  intro avs h
  obtain ⟨v0, r, rfl, h0, h⟩ := args_cons h
  obtain ⟨v1, r, rfl, h1, h⟩ := args_cons h
  obtain ⟨v2, r, rfl, h2, h⟩ := args_cons h
  obtain rfl := args_nil h
  obtain ⟨n0, rfl, hl0, hb0⟩ := has_row h0 all_int0
  obtain ⟨n1, rfl, hb1⟩ := has_int h1
  obtain ⟨x2, rfl, h2⟩ := h2
  obtain ⟨n2, rfl, hb2⟩ := in_wishM x2 h2
  exact choosespec_d n0 n1 n2.1 n2.2.1 n2.2.2

/-! ### The row -/
open Go.ChangeShapes Go.WideShapes Go.ChangeAt
set_option maxRecDepth 100000 in
theorem choosespec_lifted (os : Os) (started : os.Started) (H : Type) (enc : TypeId × Value → H) :
    ReturnsInHanded {} Try.checked os 5 .any (Rows.cutChoosesMatchSpecSpec.pre6 enc Try.prog Try.f5 Rows.cutChoosesMatchSpecRow.domain false) (Rows.cutChoosesMatchSpecSpec.post enc Try.prog Try.f5 false true false false) := by
  refine returnsInHanded_of_change (C := Try.checked) own_knob started (by kernel_rfl) Try.func5
    (ChangeSpec.witness6 (enc := enc) (C := Try.checked) false ⟨#[], #[.slice none 0 0, .int .i64 0, .agg #[.int .i64 0, .int .i64 0, .int .i64 0]], []⟩ 8 (by kernel_rfl) (by kernel_rfl) (by kernel_rfl) (by kernel_rfl)) ?_
  intro W base args ds gs before hval hW _ _
  refine law_step rfl (by kernel_rfl) (fun ds h => ?_) ?_ hval hW ?_
  · match ds, h with | [a, b, c], _ => exact ⟨rfl, rfl, rfl⟩
  · rw [Try.params5]
    intro t ht
    simp only [List.mem_cons, List.not_mem_nil, or_false] at ht
    repeat' (first | (rcases ht with rfl | ht) | subst ht)
    all_goals exact ⟨by kernel_rfl, of_decide_eq_true (by kernel_rfl)⟩
  · rw [Try.params5]
    intro hin
    exact law_dm (ss := [.one (.row [.int .i64]), .one (.int .i64), .agg [.int .i64, .int .i64, .int .i64]]) (by kernel_rfl) hin choosespec_c

theorem choosespec_holds : Rows.CutChoosesMatchSpecSaid :=
  OpenClaim.holds_of_wide 5 Try.f5 rfl rfl rfl rfl rfl rfl rfl ⟨rfl, rfl, rfl, rfl, rfl⟩ rfl rfl rfl rfl rfl (by kernel_rfl) Try.func5 (by kernel_rfl)
    (of_decide_eq_true (by kernel_rfl)) (by unfold Func.isWrapper; first | (rw [if_pos (by decide +kernel)]; kernel_rfl) | (rw [if_neg (by decide +kernel)]; exact ⟨rfl, rfl⟩))
    (fun os started H enc _ => choosespec_lifted os started H enc)

end Go.Proofs.Ytpkeiabifoipoaa
