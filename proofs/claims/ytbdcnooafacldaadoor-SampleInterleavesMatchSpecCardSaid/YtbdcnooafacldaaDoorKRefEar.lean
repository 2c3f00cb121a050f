/- The reference's parcels: headendref3's checkParcel, earlier, by the machine on data. -/
import Derived.Test.YtbdcnooafacldaaDoorKNumP
import Derived.Test.YtbdcnooafacldaaDoorKNumF
import Derived.Test.YtbdcnooafacldaaDoorKInterP
import Derived.Test.YtbdcnooafacldaaDoorKRefPar
namespace Go.Proofs.YtbdcnooafacldaaDoor
open Go.RowKit Go.Lib
set_option linter.unusedSimpArgs false

/-! headend/headendref3.earlier -/
def r23_0 : List POp := [⟨4, .boxs (.t 0), none⟩,
  ⟨6, .boxs (.t 2), none⟩,
  ⟨8, .asg (.c (.bool false)), none⟩]
def r23_1 : List POp := [⟨11, .fld 1 (.t 4), none⟩,
  ⟨12, .load (.t 11), none⟩,
  ⟨13, .mv (.t 1), none⟩,
  ⟨14, .idx 5 (.t 12) (.t 13), none⟩,
  ⟨15, .fld 0 (.t 14), none⟩,
  ⟨16, .load (.t 15), none⟩,
  ⟨17, .call 30 [.t 16], none⟩,
  ⟨18, .fld 0 (.t 4), none⟩,
  ⟨19, .load (.t 18), none⟩,
  ⟨20, .call 30 [.t 19], none⟩,
  ⟨21, .call 28 [.t 17, .t 20], none⟩,
  ⟨9, .alloc [.bool false, .slice none 0 0, .slice none 0 0], none⟩,
  ⟨0, .stores 3 (.t 9) (.t 21), none⟩]
def r23_2 : List POp := [⟨22, .fld 1 (.t 6), none⟩,
  ⟨23, .load (.t 22), none⟩,
  ⟨24, .mv (.t 3), none⟩,
  ⟨25, .idx 5 (.t 23) (.t 24), none⟩,
  ⟨26, .fld 0 (.t 25), none⟩,
  ⟨27, .load (.t 26), none⟩,
  ⟨28, .call 30 [.t 27], none⟩,
  ⟨29, .fld 0 (.t 6), none⟩,
  ⟨30, .load (.t 29), none⟩,
  ⟨31, .call 30 [.t 30], none⟩,
  ⟨32, .call 28 [.t 28, .t 31], none⟩,
  ⟨10, .alloc [.bool false, .slice none 0 0, .slice none 0 0], none⟩,
  ⟨0, .stores 3 (.t 10) (.t 32), none⟩]
def r23_3 : List POp := [⟨33, .loads 3 (.t 9), none⟩,
  ⟨34, .loads 3 (.t 10), none⟩,
  ⟨35, .call 41 [.t 33, .t 34], none⟩,
  ⟨36, .bin .lss (.t 35) (.c (.int .i64 0)), none⟩,
  ⟨8, .asg (.t 36), none⟩]
def p23 : PCode := .seq (.ops r23_0) (.seq (.ops r23_1) (.seq (.ops r23_2) (.seq (.ops r23_3) (.ret))))
theorem ok23 : okFunc Tryd.prog 23 [.t 8] 4 p23 = true := by kernel_rfl
set_option maxRecDepth 20000 in
theorem earlier_c (a b : Par) (i k : Nat) (hi : i < a.smps.length) (hk : k < b.smps.length) (ha : parF a = 0) (hb : parF b = 0) :
    CallOK Tryd.prog 23 [.agg a.av, .val (.int .i64 i), .agg b.av, .val (.int .i64 k)] (.val (.bool (decide (cmp3 (a.smps[i].time * b.scale) (b.smps[k].time * a.scale) < 0)))) := by
  refine call_of mixed ok23 rfl ?_
  obtain ⟨la, fa, sa1, sa2, _⟩ := par_facts ha
  obtain ⟨lb, fb, sb1, sb2, _⟩ := par_facts hb
  have b1 := badSmp_bd (fa _ (List.getElem_mem hi))
  have b2 := badSmp_bd (fb _ (List.getElem_mem hk))
  have gA := getD_map (f := Smp.av) (d := []) hi
  have gB := getD_map (f := Smp.av) (d := []) hk
  obtain ⟨sa, A⟩ := a
  obtain ⟨sb, B⟩ := b
  simp only at hi hk la lb sa1 sa2 sb1 sb2 b1 b2 gA gB ⊢
  obtain ⟨x, rfl⟩ : ∃ n : Nat, sa = n := ⟨sa.toNat, by omega⟩
  obtain ⟨y, rfl⟩ : ∃ n : Nat, sb = n := ⟨sb.toNat, by omega⟩
  obtain ⟨s, hs⟩ : ∃ s, s = A[i] := ⟨_, rfl⟩
  obtain ⟨t, ht⟩ : ∃ t, t = B[k] := ⟨_, rfl⟩
  rw [← hs] at b1 gA ⊢
  rw [← ht] at b2 gB ⊢
  have l1 : (lm 1).length ≤ 400 := by rw [lm_1]; decide
  have i1 := int_c s.time (by omega) (by omega)
  have i2 := int_c x (by omega) (by omega)
  have i3 := int_c t.time (by omega) (by omega)
  have i4 := int_c y (by omega) (by omega)
  have o1 := over_q s.time x 1 1 (by decide) (by omega) (by decide) (Nat.le_trans (lm_small10 (by omega)) (by decide)) l1 (Nat.le_trans (lm_small10 (by omega)) (by decide)) l1
  have o2 := over_q t.time y 1 1 (by decide) (by omega) (by decide) (Nat.le_trans (lm_small10 (by omega)) (by decide)) l1 (Nat.le_trans (lm_small10 (by omega)) (by decide)) l1
  rw [show s.time * ((1 : Nat) : Int) = s.time by omega, Nat.one_mul] at o1
  rw [show t.time * ((1 : Nat) : Int) = t.time by omega, Nat.one_mul] at o2
  have hc := compare_q s.time t.time x y (by omega) (by omega) (Nat.le_trans (lm_small10 (by omega)) (by decide)) (Nat.le_trans (lm_small10 (by omega)) (by decide)) (Nat.le_trans (lm_small10 (by omega)) (by decide)) (Nat.le_trans (lm_small10 (by omega)) (by decide))
  have ec : cmp3 (s.time * (y : Int)) (t.time * (x : Int)) = cmpI (s.time * (y : Int)) (t.time * (x : Int)) := rfl
  rw [ec]
  generalize cmpI (s.time * (y : Int)) (t.time * (x : Int)) = cc at *
  obtain ⟨u1, v1, w1', hR1⟩ := rq_agg s.time 1
  obtain ⟨u2, v2, w2', hR2⟩ := rq_agg (x : Int) 1
  obtain ⟨u3, v3, w3', hR3⟩ := rq_agg t.time 1
  obtain ⟨u4, v4, w4', hR4⟩ := rq_agg (y : Int) 1
  obtain ⟨u5, v5, w5', hR5⟩ := rq_agg s.time x
  obtain ⟨u6, v6, w6', hR6⟩ := rq_agg t.time y
  rw [hR1] at i1 o1
  rw [hR2] at i2 o1
  rw [hR3] at i3 o2
  rw [hR4] at i4 o2
  rw [hR5] at o1 hc
  rw [hR6] at o2 hc
  clear hR1 hR2 hR3 hR4 hR5 hR6 hs ht ec
  simp only [Smp.av] at gA gB
  repeat' first | ((with_reducible (first | refine condD ?_ ?_ | refine condE ?_ ?_ | refine condN ?_ ?_ | refine condI ?_ ?_ | refine condS ?_ ?_)) <;> intro h) | ((with_reducible (first | refine guardD (by with_unfolding_all rfl) ?_ ?_ | refine guardE (by with_unfolding_all rfl) ?_ ?_ | refine guardN (by with_unfolding_all rfl) ?_ ?_ | refine guardI (by with_unfolding_all rfl) ?_ ?_ | refine guardS (by with_unfolding_all rfl) ?_ ?_)) <;> intro h) | ((refine callG i1 ?_)) | ((refine callG i2 ?_)) | ((refine callG i3 ?_)) | ((refine callG i4 ?_)) | ((refine callG o1 ?_)) | ((refine callG o2 ?_)) | ((refine callG hc ?_)) | (with_reducible refine And.intro ?_ ?_; omega) | (simp only [done_eq, done_eq', donet_eq, donet_eq', fin_val, fin_tup, fin_agg, fin_ro, res_one, res_more, rv_t, rv_c, rv_l, AV.tup.injEq, AV.agg.injEq, AV.ro.injEq, List.cons.injEq, int_eq, bool_eq, Int.toNat_natCast, Int.reduceToNat, Int.toNat_zero, Int.toNat_one, Int.reduceLE, Int.reduceLT, Int.reduceBEq, Int.reduceBNe, beq_self_eq_true, bne_self_eq_false, decide_true, decide_false,  Int.reduceNeg, toNat_pred, toNat_succ, List.length_map, cnd_t, cnd_f, grd_tt, grd_u, grd_tf, grd_ft, grd_ff, g_skip, g_ops, g_seq, g_block, g_exit, g_ret, x_c, x_o, x_l, x_b, g_b, g_nil, r_all, o_nil, g_cond, o_guard, o_call, o_callm, o_callt, o_callx, o_callv, lk, ef, o_mv, o_pick, o_bin, o_never, o_eqs, o_eqb, o_un, o_conv, o_load, o_loadr, o_idxr, o_loads, o_fld, o_idx, o_idxs, o_len, o_lens, o_ext, o_nilck, o_slc, o_slcs, o_build, o_minmax, o_mkfn, o_alloc, o_box, o_boxs, o_row, o_rowr, o_mk, o_asg, o_app, o_store, o_stores, o_eqnil, hv, eqAV, ev, view_t, view_c, view_nil, view_fn, look_own, look_box, look_junk, look_val, look_nilsl, look_ro, look_roAt, look_agg, look_tup, look_clo, look_alias, look_ref, look_into, rowOf, cellsOf, argv, vbin, vun, bnd, elemOf, putParts, setAt, zav, ASt.rid, ASt.free, AV.kill, AV.isHome, AV.noLoan, AV.cellOK, Value.oneCell', put_at, mk_at, mk_nil, initSt, true_and, and_true, and_self, implies_true, List.map_cons, List.map_nil, List.forall_mem_cons, List.not_mem_nil, false_implies, List.length_cons, List.length_nil, List.getD_cons_zero, List.getD_cons_succ, List.getD_nil, List.drop_succ_cons, List.drop_zero, List.take_succ_cons, List.take_zero, List.set_cons_zero, List.set_cons_succ, List.all_cons, List.all_nil, Bool.and_true, Bool.true_and, Bool.not_true, Bool.not_false, reduceCtorEq, if_true, if_false, Bool.false_eq_true, ↓reduceIte, Nat.reduceEqDiff, Nat.reduceAdd, Nat.reduceSub, Nat.reduceMul, Nat.reduceLeDiff, Nat.reduceLT, ne_eq, not_false_eq_true, not_true_eq_false, Nat.one_ne_zero, Nat.zero_ne_one, r23_0, r23_1, r23_2, r23_3, p23, Par.av, gA, gB, List.length_map]) | (exfalso; omega)
end Go.Proofs.YtbdcnooafacldaaDoor
