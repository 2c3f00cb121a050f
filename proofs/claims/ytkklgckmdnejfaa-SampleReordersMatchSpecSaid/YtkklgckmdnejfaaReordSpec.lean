/- SampleReordersMatchSpec: Reordered is as specified, with all errors. For every input; no condition. -/
import Derived.Test.YtkklgckmdnejfaaKRefReord
import Derived.Test.YtkklgckmdnejfaaRows
namespace Go.Proofs.Ytkklgckmdnejfaa
open Go.RowKit
set_option linter.unusedSimpArgs false

theorem reordF_len (p : List Int) (last : Int) (z : List Int) (q : List Bool) : (reordF p last z q).1.length ≤ 5000 := by
  unfold reordF
  split
  · simp
  · rename_i hE
    have : p.length ≤ 5000 := by
      have : reordE p z q = 0 := by simpa using hE
      unfold reordE at this
      split at this
      · cases this
      · omega
    simp only
    split
    · simp [reordL]; omega
    · simp
/-! headend/headendlaw3.SampleReordersMatchSpec -/
def r7_0 : List POp := [⟨8, .asg (.c (.bool false)), none⟩]
def r7_1 : List POp := [⟨14, .mv (.t 0), none⟩,
  ⟨15, .mv (.t 1), none⟩,
  ⟨16, .mv (.t 2), none⟩,
  ⟨17, .mv (.t 3), none⟩,
  ⟨18, .call 27 [.t 14, .t 15, .t 16, .t 17], none⟩,
  ⟨13, .mv (.t 18), none⟩,
  ⟨19, .ext 0 (.t 13), none⟩,
  ⟨20, .ext 1 (.t 13), none⟩,
  ⟨9, .asg (.t 19), none⟩,
  ⟨10, .mv (.t 20), none⟩]
def r7_2 : List POp := [⟨22, .mv (.t 0), none⟩,
  ⟨23, .mv (.t 1), none⟩,
  ⟨24, .mv (.t 2), none⟩,
  ⟨25, .mv (.t 3), none⟩,
  ⟨26, .call 28 [.t 22, .t 23, .t 24, .t 25], none⟩,
  ⟨21, .mv (.t 26), none⟩,
  ⟨27, .ext 0 (.t 21), none⟩,
  ⟨28, .ext 1 (.t 21), none⟩,
  ⟨11, .asg (.t 27), none⟩,
  ⟨12, .mv (.t 28), none⟩]
def r7_3 : List POp := [⟨29, .mv (.t 9), none⟩,
  ⟨30, .mv (.t 11), none⟩,
  ⟨31, .call 21 [.t 29, .t 30], none⟩,
  ⟨32, .mv (.t 31), none⟩,
  ⟨33, .mv (.t 10), some (32, true)⟩,
  ⟨34, .mv (.t 12), some (32, true)⟩,
  ⟨35, .bin .eql (.t 33) (.t 34), some (32, true)⟩,
  ⟨36, .pick (.t 32) (.t 35) (.c (.bool false)), none⟩,
  ⟨37, .mv (.t 36), none⟩,
  ⟨38, .call 16 [], some (37, true)⟩,
  ⟨39, .pick (.t 37) (.t 38) (.c (.bool false)), none⟩,
  ⟨8, .asg (.t 39), none⟩]
def p7 : PCode := .seq (.ops r7_0) (.seq (.ops r7_1) (.seq (.ops r7_2) (.seq (.ops r7_3) (.ret))))
theorem ok7 : okFunc Try.prog 7 [.t 8] 4 p7 = true := by kernel_rfl
theorem reordspec_d (p : List Int) (last : Int) (z : List Int) (q : List Bool) : CallOK Try.prog 7 [.ro (p.map oneI), .val (.int .i64 last), .ro (z.map oneI), .ro (q.map oneB)] (.val (.bool true)) := by
  refine call_of mixed ok7 rfl ?_
  have k1 := reord_c p last z q
  have k2 := refreord_c p last z q
  have k3 := eqs_c (reordF p last z q).1 (by have := reordF_len p last z q; omega)
  generalize (reordF p last z q).1 = L at *
  generalize (reordF p last z q).2 = F at *
  repeat' first | (with_reducible refine condD (fun h => ?_) (fun h => ?_)) | (with_reducible refine condE (fun h => ?_) (fun h => ?_)) | (with_reducible refine condN (fun h => ?_) (fun h => ?_)) | (with_reducible refine condI (fun h => ?_) (fun h => ?_)) | (with_reducible refine condS (fun h => ?_) (fun h => ?_)) | (with_reducible refine guardD (by with_unfolding_all rfl) (fun h => ?_) (fun h => ?_)) | (with_reducible refine guardE (by with_unfolding_all rfl) (fun h => ?_) (fun h => ?_)) | (with_reducible refine guardN (by with_unfolding_all rfl) (fun h => ?_) (fun h => ?_)) | (with_reducible refine guardI (by with_unfolding_all rfl) (fun h => ?_) (fun h => ?_)) | (with_reducible refine guardS (by with_unfolding_all rfl) (fun h => ?_) (fun h => ?_)) | ((refine callG k1 ?_)) | ((refine callG k2 ?_)) | ((refine callG k3 ?_)) | ((refine callG awake3_c ?_)) | (with_reducible refine And.intro ?_ ?_; omega) | (simp only [done_eq, done_eq', fin_val, fin_tup, fin_agg, fin_ro, res_one, res_more, rv_t, rv_c, rv_l, AV.tup.injEq, AV.agg.injEq, AV.ro.injEq, List.cons.injEq, int_eq, bool_eq, Int.toNat_natCast, Int.reduceToNat, Int.toNat_zero, Int.toNat_one, Int.reduceLE, Int.reduceLT, Int.reduceBEq, Int.reduceBNe, beq_self_eq_true, bne_self_eq_false, decide_true, decide_false,  Int.reduceNeg, toNat_pred, toNat_succ, List.length_map, cnd_t, cnd_f, grd_tt, grd_u, grd_tf, grd_ft, grd_ff, g_skip, g_ops, g_seq, g_block, g_exit, g_ret, x_c, x_o, x_l, x_b, g_b, g_nil, r_all, o_nil, g_cond, o_guard, o_call, o_callm, o_callv, lk, ef, o_mv, o_pick, o_bin, o_never, o_eqs, o_eqb, o_un, o_conv, o_load, o_loads, o_fld, o_idx, o_idxs, o_len, o_lens, o_ext, o_nilck, o_slc, o_slcs, o_build, o_minmax, o_mkfn, o_alloc, o_box, o_boxs, o_row, o_rowr, o_mk, o_asg, o_app, o_store, o_stores, o_eqnil, hv, eqAV, ev, view_t, view_c, view_nil, view_fn, look_own, look_box, look_junk, look_val, look_nilsl, look_ro, look_roAt, look_agg, look_tup, look_clo, look_alias, look_ref, look_into, rowOf, cellsOf, argv, vbin, vun, bnd, elemOf, putParts, setAt, zav, ASt.rid, ASt.free, AV.kill, AV.isHome, AV.noLoan, AV.cellOK, Value.oneCell', put_at, mk_at, mk_nil, initSt, true_and, and_true, and_self, implies_true, List.map_cons, List.map_nil, List.forall_mem_cons, List.not_mem_nil, false_implies, List.length_cons, List.length_nil, List.getD_cons_zero, List.getD_cons_succ, List.getD_nil, List.drop_succ_cons, List.drop_zero, List.take_succ_cons, List.take_zero, List.set_cons_zero, List.set_cons_succ, List.all_cons, List.all_nil, Bool.and_true, Bool.true_and, Bool.not_true, Bool.not_false, reduceCtorEq, if_true, if_false, Bool.false_eq_true, ↓reduceIte, Nat.reduceEqDiff, Nat.reduceAdd, Nat.reduceSub, Nat.reduceMul, Nat.reduceLeDiff, Nat.reduceLT, ne_eq, not_false_eq_true, not_true_eq_false, Nat.one_ne_zero, Nat.zero_ne_one, r7_0, r7_1, r7_2, r7_3, p7]) | (exfalso; omega)
theorem reordspec_c : ∀ avs, HasArgs [.one (.row [.int .i64]), .one (.int .i64), .one (.row [.int .i64]), .one (.row [.bool])] avs → CallOK Try.prog 7 avs (.val (.bool true)) := by
  intro avs h
  obtain ⟨v0, r, rfl, h0, h⟩ := args_cons h
  obtain ⟨v1, r, rfl, h1, h⟩ := args_cons h
  obtain ⟨v2, r, rfl, h2, h⟩ := args_cons h
  obtain ⟨v3, r, rfl, h3, h⟩ := args_cons h
  obtain rfl := args_nil h
  obtain ⟨n0, rfl, hl0, hb0⟩ := has_row h0 all_int
  obtain ⟨n1, rfl, hb1⟩ := has_int h1
  obtain ⟨n2, rfl, hl2, hb2⟩ := has_row h2 all_int
  obtain ⟨n3, rfl, hl3, hb3⟩ := has_row h3 all_bool
  exact reordspec_d n0 n1 n2 n3

/-! ### The row -/
open Go.ChangeShapes Go.WideShapes Go.ChangeAt
set_option maxRecDepth 100000 in
theorem reordspec_lifted (os : Os) (started : os.Started) (H : Type) (enc : TypeId × Value → H) :
    ReturnsInHanded {} Try.checked os 7 .any (Rows.sampleReordersMatchSpecSpec.pre6 enc Try.prog Try.f7 Rows.sampleReordersMatchSpecRow.domain false) (Rows.sampleReordersMatchSpecSpec.post enc Try.prog Try.f7 false true false false) := by
  refine returnsInHanded_of_change (C := Try.checked) own_knob started (by kernel_rfl) Try.func7
    (ChangeSpec.witness6 (enc := enc) (C := Try.checked) false ⟨#[], #[.slice none 0 0, .int .i64 0, .slice none 0 0, .slice none 0 0], []⟩ 8 (by kernel_rfl) (by kernel_rfl) (by kernel_rfl) (by kernel_rfl)) ?_
  intro W base args ds gs before hval hW _ _
  refine law_step rfl (by kernel_rfl) (fun ds h => ?_) ?_ hval hW ?_
  · match ds, h with | [a, b, c, d], _ => exact ⟨rfl, rfl, rfl⟩
  · rw [Try.params7]
    intro t ht
    simp only [List.mem_cons, List.not_mem_nil, or_false] at ht
    repeat' (first | (rcases ht with rfl | ht) | subst ht)
    all_goals exact ⟨by kernel_rfl, of_decide_eq_true (by kernel_rfl)⟩
  · rw [Try.params7]
    intro hin
    exact law_dm (ss := [.one (.row [.int .i64]), .one (.int .i64), .one (.row [.int .i64]), .one (.row [.bool])]) (by kernel_rfl) hin reordspec_c

theorem reordspec_holds : Rows.SampleReordersMatchSpecSaid :=
  OpenClaim.holds_of_wide 7 Try.f7 rfl rfl rfl rfl rfl rfl rfl ⟨rfl, rfl, rfl, rfl, rfl⟩ rfl rfl rfl rfl rfl (by kernel_rfl) Try.func7 (by kernel_rfl)
    (of_decide_eq_true (by kernel_rfl)) (by unfold Func.isWrapper; first | (rw [if_pos (by decide +kernel)]; kernel_rfl) | (rw [if_neg (by decide +kernel)]; exact ⟨rfl, rfl⟩))
    (fun os started H enc _ => reordspec_lifted os started H enc)

end Go.Proofs.Ytkklgckmdnejfaa
