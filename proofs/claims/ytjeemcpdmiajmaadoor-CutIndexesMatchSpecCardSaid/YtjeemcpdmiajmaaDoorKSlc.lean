/- The library's slices at whole numbers: Equal, IndexFunc, ContainsFunc, by the machine on data; the reference's small tests. -/
import Derived.Test.YtjeemcpdmiajmaaDoorKNat
namespace Go.Proofs.YtjeemcpdmiajmaaDoor
open Go.RowKit
set_option linter.unusedSimpArgs false

theorem len_in (l : List Int) : ((l.map oneI).length : Int) = l.length := by simp
/-! headend/headendref1.IsScale -/
def r23_0 : List POp := [⟨2, .asg (.c (.bool false)), none⟩]
def r23_1 : List POp := [⟨3, .mv (.t 0), none⟩,
  ⟨4, .bin .geq (.t 3) (.c (.int .i64 1)), none⟩,
  ⟨5, .mv (.t 4), none⟩,
  ⟨6, .mv (.t 0), some (5, true)⟩,
  ⟨7, .bin .leq (.t 6) (.c (.int .i64 1000000000)), some (5, true)⟩,
  ⟨8, .pick (.t 5) (.t 7) (.c (.bool false)), none⟩,
  ⟨2, .asg (.t 8), none⟩]
def p23 : PCode := .seq (.ops r23_0) (.seq (.ops r23_1) (.ret))
theorem ok23 : okFunc Tryd.prog 23 [.t 2] 1 p23 = true := by kernel_rfl
theorem isscale_c (n : Int) : CallOK Tryd.prog 23 [.val (.int .i64 n)] (.val (.bool (!noScale n))) := by
  refine call_of mixed ok23 rfl ?_
  repeat' first | ((with_reducible (first | refine condD ?_ ?_ | refine condE ?_ ?_ | refine condN ?_ ?_ | refine condI ?_ ?_ | refine condS ?_ ?_)) <;> intro h) | ((with_reducible (first | refine guardD (by with_unfolding_all rfl) ?_ ?_ | refine guardE (by with_unfolding_all rfl) ?_ ?_ | refine guardN (by with_unfolding_all rfl) ?_ ?_ | refine guardI (by with_unfolding_all rfl) ?_ ?_ | refine guardS (by with_unfolding_all rfl) ?_ ?_)) <;> intro h) | (with_reducible refine And.intro ?_ ?_; omega) | (simp only [done_eq, done_eq', donet_eq, donet_eq', fin_val, fin_tup, fin_agg, fin_ro, res_one, res_more, rv_t, rv_c, rv_l, AV.tup.injEq, AV.agg.injEq, AV.ro.injEq, List.cons.injEq, int_eq, bool_eq, Int.toNat_natCast, Int.reduceToNat, Int.toNat_zero, Int.toNat_one, Int.reduceLE, Int.reduceLT, Int.reduceBEq, Int.reduceBNe, beq_self_eq_true, bne_self_eq_false, decide_true, decide_false,  Int.reduceNeg, toNat_pred, toNat_succ, List.length_map, cnd_t, cnd_f, grd_tt, grd_u, grd_tf, grd_ft, grd_ff, g_skip, g_ops, g_seq, g_block, g_exit, g_ret, x_c, x_o, x_l, x_b, g_b, g_nil, r_all, o_nil, g_cond, o_guard, o_call, o_callm, o_callt, o_callx, o_callv, lk, ef, o_mv, o_pick, o_bin, o_never, o_eqs, o_eqb, o_un, o_conv, o_load, o_loadr, o_idxr, o_loads, o_fld, o_idx, o_idxs, o_len, o_lens, o_ext, o_nilck, o_slc, o_slcs, o_build, o_minmax, o_mkfn, o_alloc, o_box, o_boxs, o_row, o_rowr, o_mk, o_asg, o_app, o_store, o_stores, o_eqnil, hv, eqAV, ev, view_t, view_c, view_nil, view_fn, look_own, look_box, look_junk, look_val, look_nilsl, look_ro, look_roAt, look_agg, look_tup, look_clo, look_alias, look_ref, look_into, rowOf, cellsOf, argv, vbin, vun, bnd, elemOf, putParts, setAt, zav, ASt.rid, ASt.free, AV.kill, AV.isHome, AV.noLoan, AV.cellOK, Value.oneCell', put_at, mk_at, mk_nil, initSt, true_and, and_true, and_self, implies_true, List.map_cons, List.map_nil, List.forall_mem_cons, List.not_mem_nil, false_implies, List.length_cons, List.length_nil, List.getD_cons_zero, List.getD_cons_succ, List.getD_nil, List.drop_succ_cons, List.drop_zero, List.take_succ_cons, List.take_zero, List.set_cons_zero, List.set_cons_succ, List.all_cons, List.all_nil, Bool.and_true, Bool.true_and, Bool.not_true, Bool.not_false, reduceCtorEq, if_true, if_false, Bool.false_eq_true, ↓reduceIte, Nat.reduceEqDiff, Nat.reduceAdd, Nat.reduceSub, Nat.reduceMul, Nat.reduceLeDiff, Nat.reduceLT, ne_eq, not_false_eq_true, not_true_eq_false, Nat.one_ne_zero, Nat.zero_ne_one, r23_0, r23_1, p23]) | (exfalso; omega)
  all_goals
    cases hh : noScale n
    · have := outB_f hh
      first | (simp; done) | (simp; omega) | (exfalso; omega)
    · have := outB_t hh
      first | (simp; done) | (simp; omega) | (exfalso; omega)
end Go.Proofs.YtjeemcpdmiajmaaDoor
