/- The reference's parcels: headendref3's checkParcel, by the machine on data. -/
import Derived.Test.YtbdcnooafacldaaDoorKPar
import Derived.Test.YtbdcnooafacldaaDoorKRefSmp
import Derived.Test.YtbdcnooafacldaaDoorKNumW
namespace Go.Proofs.YtbdcnooafacldaaDoor
open Go.RowKit Go.Lib
set_option linter.unusedSimpArgs false

theorem lm_small10 {n : Nat} (h : n < 10000 ^ 10) : (lm n).length ≤ 10 := lm_len h
/-! headend/headendref3.checkParcel -/
def r22_0 : List POp := [⟨1, .boxs (.t 0), none⟩,
  ⟨2, .asg (.c (.int .i64 0)), none⟩]
def r22_1 : List POp := [⟨4, .fld 1 (.t 1), none⟩,
  ⟨5, .load (.t 4), none⟩,
  ⟨6, .call 39 [.t 5], none⟩,
  ⟨3, .asg (.t 6), none⟩]
def r22_2 : List POp := [⟨7, .mv (.t 3), none⟩,
  ⟨8, .bin .neq (.t 7) (.c (.int .i64 0)), none⟩]
def r22_3 : List POp := [⟨9, .mv (.t 3), none⟩,
  ⟨2, .asg (.t 9), none⟩]
def r22_4 : List POp := [⟨10, .fld 0 (.t 1), none⟩,
  ⟨11, .load (.t 10), none⟩,
  ⟨12, .call 40 [.t 11], none⟩,
  ⟨13, .un .not (.t 12), none⟩]
def r22_5 : List POp := [⟨2, .asg (.c (.int .i64 1)), none⟩]
def r22_6 : List POp := [⟨2, .asg (.c (.int .i64 0)), none⟩]
def p22 : PCode := .seq (.ops r22_0) (.seq (.seq (.ops r22_1) (.seq (.ops r22_2) (.cond (.t 8) (.seq (.ops r22_3) (.ret)) (.skip)))) (.seq (.seq (.ops r22_4) (.cond (.t 13) (.seq (.ops r22_5) (.ret)) (.skip))) (.seq (.ops r22_6) (.ret))))
theorem ok22 : okFunc Tryd.prog 22 [.t 2] 1 p22 = true := by kernel_rfl
theorem rpar_c (p : Par) : CallOK Tryd.prog 22 [.agg p.av] (.val (.int .i64 (parF p))) := by
  refine call_of mixed ok22 rfl ?_
  repeat' first | ((with_reducible (first | refine condD ?_ ?_ | refine condE ?_ ?_ | refine condN ?_ ?_ | refine condI ?_ ?_ | refine condS ?_ ?_)) <;> intro h) | ((with_reducible (first | refine guardD (by with_unfolding_all rfl) ?_ ?_ | refine guardE (by with_unfolding_all rfl) ?_ ?_ | refine guardN (by with_unfolding_all rfl) ?_ ?_ | refine guardI (by with_unfolding_all rfl) ?_ ?_ | refine guardS (by with_unfolding_all rfl) ?_ ?_)) <;> intro h) | ((refine callG (refsmp_c _) ?_)) | ((refine callG (isscale_c _) ?_)) | (with_reducible refine And.intro ?_ ?_; omega) | (simp only [done_eq, done_eq', donet_eq, donet_eq', fin_val, fin_tup, fin_agg, fin_ro, res_one, res_more, rv_t, rv_c, rv_l, AV.tup.injEq, AV.agg.injEq, AV.ro.injEq, List.cons.injEq, int_eq, bool_eq, Int.toNat_natCast, Int.reduceToNat, Int.toNat_zero, Int.toNat_one, Int.reduceLE, Int.reduceLT, Int.reduceBEq, Int.reduceBNe, beq_self_eq_true, bne_self_eq_false, decide_true, decide_false,  Int.reduceNeg, toNat_pred, toNat_succ, List.length_map, cnd_t, cnd_f, grd_tt, grd_u, grd_tf, grd_ft, grd_ff, g_skip, g_ops, g_seq, g_block, g_exit, g_ret, x_c, x_o, x_l, x_b, g_b, g_nil, r_all, o_nil, g_cond, o_guard, o_call, o_callm, o_callt, o_callx, o_callv, lk, ef, o_mv, o_pick, o_bin, o_never, o_eqs, o_eqb, o_un, o_conv, o_load, o_loadr, o_idxr, o_loads, o_fld, o_idx, o_idxs, o_len, o_lens, o_ext, o_nilck, o_slc, o_slcs, o_build, o_minmax, o_mkfn, o_alloc, o_box, o_boxs, o_row, o_rowr, o_mk, o_asg, o_app, o_store, o_stores, o_eqnil, hv, eqAV, ev, view_t, view_c, view_nil, view_fn, look_own, look_box, look_junk, look_val, look_nilsl, look_ro, look_roAt, look_agg, look_tup, look_clo, look_alias, look_ref, look_into, rowOf, cellsOf, argv, vbin, vun, bnd, elemOf, putParts, setAt, zav, ASt.rid, ASt.free, AV.kill, AV.isHome, AV.noLoan, AV.cellOK, Value.oneCell', put_at, mk_at, mk_nil, initSt, true_and, and_true, and_self, implies_true, List.map_cons, List.map_nil, List.forall_mem_cons, List.not_mem_nil, false_implies, List.length_cons, List.length_nil, List.getD_cons_zero, List.getD_cons_succ, List.getD_nil, List.drop_succ_cons, List.drop_zero, List.take_succ_cons, List.take_zero, List.set_cons_zero, List.set_cons_succ, List.all_cons, List.all_nil, Bool.and_true, Bool.true_and, Bool.not_true, Bool.not_false, reduceCtorEq, if_true, if_false, Bool.false_eq_true, ↓reduceIte, Nat.reduceEqDiff, Nat.reduceAdd, Nat.reduceSub, Nat.reduceMul, Nat.reduceLeDiff, Nat.reduceLT, ne_eq, not_false_eq_true, not_true_eq_false, Nat.one_ne_zero, Nat.zero_ne_one, r22_0, r22_1, r22_2, r22_3, r22_4, r22_5, r22_6, p22, Par.av]) | (exfalso; omega)
  all_goals simp [parF, *]
  all_goals first
    | (intro e0; simp [e0] at *; done)
    | (simpa using h)
end Go.Proofs.YtbdcnooafacldaaDoor
