/- SampleMovesMatchSpec: Moved and Join are as specified, with all errors. For every input; no condition. -/
import Derived.Test.YtkklgckmdnejfaaKRefJoin
import Derived.Test.YtkklgckmdnejfaaRows
namespace Go.Proofs.Ytkklgckmdnejfaa
open Go.RowKit
set_option linter.unusedSimpArgs false

theorem movedF_len (l : List Smp) (d : Int) : (movedF l d).1.length ≤ 5000 := by
  unfold movedF
  split
  · simp
  · rename_i h
    obtain ⟨hl, _⟩ := smpF_0 (show smpF l = 0 by simpa using h)
    split
    · simp
    · simp only; split
      · simpa using hl
      · simp
theorem joinF_len (a b : List Smp) : (joinF a b).1.length ≤ 10000 := by
  unfold joinF
  split
  · simp
  rename_i h
  obtain ⟨hl, _⟩ := smpF_0 (show smpF a = 0 by simpa using h)
  split
  · simp
  rename_i h2
  obtain ⟨hl2, _⟩ := smpF_0 (show smpF b = 0 by simpa using h2)
  split
  · simp; omega
  split
  · simp
  · simp only; split
    · unfold joinL; rw [List.length_append, withStep_len, List.length_map]; omega
    · simp
/-! headend/headendlaw3.SampleMovesMatchSpec -/
def r14_0 : List POp := [⟨6, .asg (.c (.bool false)), none⟩]
def r14_1 : List POp := [⟨16, .mv (.t 0), none⟩,
  ⟨17, .mv (.t 2), none⟩,
  ⟨18, .call 41 [.t 16, .t 17], none⟩,
  ⟨15, .mv (.t 18), none⟩,
  ⟨19, .ext 0 (.t 15), none⟩,
  ⟨20, .ext 1 (.t 15), none⟩,
  ⟨7, .asg (.t 19), none⟩,
  ⟨8, .mv (.t 20), none⟩]
def r14_2 : List POp := [⟨22, .mv (.t 0), none⟩,
  ⟨23, .mv (.t 2), none⟩,
  ⟨24, .call 42 [.t 22, .t 23], none⟩,
  ⟨21, .mv (.t 24), none⟩,
  ⟨25, .ext 0 (.t 21), none⟩,
  ⟨26, .ext 1 (.t 21), none⟩,
  ⟨9, .asg (.t 25), none⟩,
  ⟨10, .mv (.t 26), none⟩]
def r14_3 : List POp := [⟨28, .mv (.t 0), none⟩,
  ⟨29, .mv (.t 1), none⟩,
  ⟨30, .call 37 [.t 28, .t 29], none⟩,
  ⟨27, .mv (.t 30), none⟩,
  ⟨31, .ext 0 (.t 27), none⟩,
  ⟨32, .ext 1 (.t 27), none⟩,
  ⟨11, .asg (.t 31), none⟩,
  ⟨12, .mv (.t 32), none⟩]
def r14_4 : List POp := [⟨34, .mv (.t 0), none⟩,
  ⟨35, .mv (.t 1), none⟩,
  ⟨36, .call 43 [.t 34, .t 35], none⟩,
  ⟨33, .mv (.t 36), none⟩,
  ⟨37, .ext 0 (.t 33), none⟩,
  ⟨38, .ext 1 (.t 33), none⟩,
  ⟨13, .asg (.t 37), none⟩,
  ⟨14, .mv (.t 38), none⟩]
def r14_5 : List POp := [⟨39, .mv (.t 7), none⟩,
  ⟨40, .mv (.t 9), none⟩,
  ⟨41, .call 21 [.t 39, .t 40], none⟩,
  ⟨42, .mv (.t 41), none⟩,
  ⟨43, .mv (.t 8), some (42, true)⟩,
  ⟨44, .mv (.t 10), some (42, true)⟩,
  ⟨45, .bin .eql (.t 43) (.t 44), some (42, true)⟩,
  ⟨46, .pick (.t 42) (.t 45) (.c (.bool false)), none⟩,
  ⟨47, .mv (.t 46), none⟩,
  ⟨48, .mv (.t 11), some (47, true)⟩,
  ⟨49, .mv (.t 13), some (47, true)⟩,
  ⟨50, .call 21 [.t 48, .t 49], some (47, true)⟩,
  ⟨51, .pick (.t 47) (.t 50) (.c (.bool false)), none⟩,
  ⟨52, .mv (.t 51), none⟩,
  ⟨53, .mv (.t 12), some (52, true)⟩,
  ⟨54, .mv (.t 14), some (52, true)⟩,
  ⟨55, .bin .eql (.t 53) (.t 54), some (52, true)⟩,
  ⟨56, .pick (.t 52) (.t 55) (.c (.bool false)), none⟩,
  ⟨57, .mv (.t 56), none⟩,
  ⟨58, .call 16 [], some (57, true)⟩,
  ⟨59, .pick (.t 57) (.t 58) (.c (.bool false)), none⟩,
  ⟨6, .asg (.t 59), none⟩]
def p14 : PCode := .seq (.ops r14_0) (.seq (.ops r14_1) (.seq (.ops r14_2) (.seq (.ops r14_3) (.seq (.ops r14_4) (.seq (.ops r14_5) (.ret))))))
theorem ok14 : okFunc Try.prog 14 [.t 6] 3 p14 = true := by kernel_rfl
theorem moves_d (a b : List Smp) (d : Int) : CallOK Try.prog 14 [.ro (a.map Smp.av), .ro (b.map Smp.av), .val (.int .i64 d)] (.val (.bool true)) := by
  refine call_of mixed ok14 rfl ?_
  have k1 := Moved_c a d
  have k2 := refMoved_c a d
  have k3 := join_c a b
  have k4 := refjoin_c a b
  have k5 := eqs_c (movedF a d).1 (by have := movedF_len a d; omega)
  have k6 := eqs_c (joinF a b).1 (by have := joinF_len a b; omega)
  generalize (movedF a d).1 = L at *
  generalize (movedF a d).2 = F at *
  generalize (joinF a b).1 = M at *
  generalize (joinF a b).2 = G at *
  repeat' first | (with_reducible refine condD (fun h => ?_) (fun h => ?_)) | (with_reducible refine condE (fun h => ?_) (fun h => ?_)) | (with_reducible refine condN (fun h => ?_) (fun h => ?_)) | (with_reducible refine condI (fun h => ?_) (fun h => ?_)) | (with_reducible refine condS (fun h => ?_) (fun h => ?_)) | (with_reducible refine guardD (by with_unfolding_all rfl) (fun h => ?_) (fun h => ?_)) | (with_reducible refine guardE (by with_unfolding_all rfl) (fun h => ?_) (fun h => ?_)) | (with_reducible refine guardN (by with_unfolding_all rfl) (fun h => ?_) (fun h => ?_)) | (with_reducible refine guardI (by with_unfolding_all rfl) (fun h => ?_) (fun h => ?_)) | (with_reducible refine guardS (by with_unfolding_all rfl) (fun h => ?_) (fun h => ?_)) | ((refine callG k1 ?_)) | ((refine callG k2 ?_)) | ((refine callG k3 ?_)) | ((refine callG k4 ?_)) | ((refine callG k5 ?_)) | ((refine callG k6 ?_)) | ((refine callG awake3_c ?_)) | (with_reducible refine And.intro ?_ ?_; omega) | (simp only [done_eq, done_eq', fin_val, fin_tup, fin_agg, fin_ro, res_one, res_more, rv_t, rv_c, rv_l, AV.tup.injEq, AV.agg.injEq, AV.ro.injEq, List.cons.injEq, int_eq, bool_eq, Int.toNat_natCast, Int.reduceToNat, Int.toNat_zero, Int.toNat_one, Int.reduceLE, Int.reduceLT, Int.reduceBEq, Int.reduceBNe, beq_self_eq_true, bne_self_eq_false, decide_true, decide_false,  Int.reduceNeg, toNat_pred, toNat_succ, List.length_map, cnd_t, cnd_f, grd_tt, grd_u, grd_tf, grd_ft, grd_ff, g_skip, g_ops, g_seq, g_block, g_exit, g_ret, x_c, x_o, x_l, x_b, g_b, g_nil, r_all, o_nil, g_cond, o_guard, o_call, o_callm, o_callv, lk, ef, o_mv, o_pick, o_bin, o_never, o_eqs, o_eqb, o_un, o_conv, o_load, o_loads, o_fld, o_idx, o_idxs, o_len, o_lens, o_ext, o_nilck, o_slc, o_slcs, o_build, o_minmax, o_mkfn, o_alloc, o_box, o_boxs, o_row, o_rowr, o_mk, o_asg, o_app, o_store, o_stores, o_eqnil, hv, eqAV, ev, view_t, view_c, view_nil, view_fn, look_own, look_box, look_junk, look_val, look_nilsl, look_ro, look_roAt, look_agg, look_tup, look_clo, look_alias, look_ref, look_into, rowOf, cellsOf, argv, vbin, vun, bnd, elemOf, putParts, setAt, zav, ASt.rid, ASt.free, AV.kill, AV.isHome, AV.noLoan, AV.cellOK, Value.oneCell', put_at, mk_at, mk_nil, initSt, true_and, and_true, and_self, implies_true, List.map_cons, List.map_nil, List.forall_mem_cons, List.not_mem_nil, false_implies, List.length_cons, List.length_nil, List.getD_cons_zero, List.getD_cons_succ, List.getD_nil, List.drop_succ_cons, List.drop_zero, List.take_succ_cons, List.take_zero, List.set_cons_zero, List.set_cons_succ, List.all_cons, List.all_nil, Bool.and_true, Bool.true_and, Bool.not_true, Bool.not_false, reduceCtorEq, if_true, if_false, Bool.false_eq_true, ↓reduceIte, Nat.reduceEqDiff, Nat.reduceAdd, Nat.reduceSub, Nat.reduceMul, Nat.reduceLeDiff, Nat.reduceLT, ne_eq, not_false_eq_true, not_true_eq_false, Nat.one_ne_zero, Nat.zero_ne_one, r14_0, r14_1, r14_2, r14_3, r14_4, r14_5, p14]) | (exfalso; omega)
theorem moves_c : ∀ avs, HasArgs [.one (.row [.int .i64, .int .i64, .int .i64, .int .i64, .bool]), .one (.row [.int .i64, .int .i64, .int .i64, .int .i64, .bool]), .one (.int .i64)] avs → CallOK Try.prog 14 avs (.val (.bool true)) := by
  intro avs h
  obtain ⟨v0, r, rfl, h0, h⟩ := args_cons h
  obtain ⟨v1, r, rfl, h1, h⟩ := args_cons h
  obtain ⟨v2, r, rfl, h2, h⟩ := args_cons h
  obtain rfl := args_nil h
  obtain ⟨n0, rfl, hl0, hb0⟩ := has_row h0 all_smp
  obtain ⟨n1, rfl, hl1, hb1⟩ := has_row h1 all_smp
  obtain ⟨n2, rfl, hb2⟩ := has_int h2
  exact moves_d n0 n1 n2

/-! ### The row -/
open Go.ChangeShapes Go.WideShapes Go.ChangeAt
set_option maxRecDepth 100000 in
theorem moves_lifted (os : Os) (started : os.Started) (H : Type) (enc : TypeId × Value → H) :
    ReturnsInHanded {} Try.checked os 14 .any (Rows.sampleMovesMatchSpecSpec.pre6 enc Try.prog Try.f14 Rows.sampleMovesMatchSpecRow.domain false) (Rows.sampleMovesMatchSpecSpec.post enc Try.prog Try.f14 false true false false) := by
  refine returnsInHanded_of_change (C := Try.checked) own_knob started (by kernel_rfl) Try.func14
    (ChangeSpec.witness6 (enc := enc) (C := Try.checked) false ⟨#[], #[.slice none 0 0, .slice none 0 0, .int .i64 0], []⟩ 8 (by kernel_rfl) (by kernel_rfl) (by kernel_rfl) (by kernel_rfl)) ?_
  intro W base args ds gs before hval hW _ _
  refine law_step rfl (by kernel_rfl) (fun ds h => ?_) ?_ hval hW ?_
  · match ds, h with | [a, b, c], _ => exact ⟨rfl, rfl, rfl⟩
  · rw [Try.params14]
    intro t ht
    simp only [List.mem_cons, List.not_mem_nil, or_false] at ht
    repeat' (first | (rcases ht with rfl | ht) | subst ht)
    all_goals exact ⟨by kernel_rfl, of_decide_eq_true (by kernel_rfl)⟩
  · rw [Try.params14]
    intro hin
    exact law_dm (ss := [.one (.row [.int .i64, .int .i64, .int .i64, .int .i64, .bool]), .one (.row [.int .i64, .int .i64, .int .i64, .int .i64, .bool]), .one (.int .i64)]) (by kernel_rfl) hin moves_c

theorem moves_holds : Rows.SampleMovesMatchSpecSaid :=
  OpenClaim.holds_of_wide 14 Try.f14 rfl rfl rfl rfl rfl rfl rfl ⟨rfl, rfl, rfl, rfl, rfl⟩ rfl rfl rfl rfl rfl (by kernel_rfl) Try.func14 (by kernel_rfl)
    (of_decide_eq_true (by kernel_rfl)) (by unfold Func.isWrapper; first | (rw [if_pos (by decide +kernel)]; kernel_rfl) | (rw [if_neg (by decide +kernel)]; exact ⟨rfl, rfl⟩))
    (fun os started H enc _ => moves_lifted os started H enc)

end Go.Proofs.Ytkklgckmdnejfaa
