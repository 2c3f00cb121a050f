/- Copies of samples: slices.Clone, sample.moved, checked, by the machine on data. -/
import Derived.Test.YtpecmhdepggnoaaKPres
namespace Go.Proofs.Ytpecmhdepggnoaa
open Go.RowKit
set_option linter.unusedSimpArgs false

/-! slices.Clone[[]headend/api.Sample,headend/api.Sample] -/
def r44_0 : List POp := [⟨2, .asg .nil, none⟩]
def r44_1 : List POp := [⟨3, .mv (.t 0), none⟩,
  ⟨4, .eqnil false (.t 3), none⟩]
def r44_2 : List POp := [⟨2, .asg .nil, none⟩]
def r44_3 : List POp := [⟨5, .row 69 5 [], none⟩,
  ⟨6, .mv (.t 0), none⟩,
  ⟨7, .app 69 5 40 (.t 5) (.t 6), none⟩,
  ⟨2, .asg (.t 7), none⟩]
def p44 : PCode := .seq (.ops r44_0) (.seq (.seq (.ops r44_1) (.cond (.t 4) (.seq (.ops r44_2) (.ret)) (.skip))) (.seq (.ops r44_3) (.ret)))
theorem ok44 : okFunc Try.prog 44 [.t 2] 1 p44 = true := by kernel_rfl
theorem clone_c (l : List Smp) (hl : l.length ≤ 5000) : CallOK Try.prog 44 [.ro (l.map Smp.av)] (.own 69 5 (l.map Smp.av)) := by
  refine call_of mixed ok44 rfl ?_
  repeat' first | ((with_reducible (first | refine condD ?_ ?_ | refine condE ?_ ?_ | refine condN ?_ ?_ | refine condI ?_ ?_ | refine condS ?_ ?_)) <;> intro h) | ((with_reducible (first | refine guardD (by with_unfolding_all rfl) ?_ ?_ | refine guardE (by with_unfolding_all rfl) ?_ ?_ | refine guardN (by with_unfolding_all rfl) ?_ ?_ | refine guardI (by with_unfolding_all rfl) ?_ ?_ | refine guardS (by with_unfolding_all rfl) ?_ ?_)) <;> intro h) | ((with_reducible refine nilG rfl (fun b hb => ?_))) | (with_reducible refine And.intro ?_ ?_; omega) | (simp only [done_eq, done_eq', donet_eq, donet_eq', fin_val, fin_tup, fin_agg, fin_ro, res_one, res_more, rv_t, rv_c, rv_l, AV.tup.injEq, AV.agg.injEq, AV.ro.injEq, List.cons.injEq, int_eq, bool_eq, Int.toNat_natCast, Int.reduceToNat, Int.toNat_zero, Int.toNat_one, Int.reduceLE, Int.reduceLT, Int.reduceBEq, Int.reduceBNe, beq_self_eq_true, bne_self_eq_false, decide_true, decide_false,  Int.reduceNeg, toNat_pred, toNat_succ, List.length_map, cnd_t, cnd_f, grd_tt, grd_u, grd_tf, grd_ft, grd_ff, g_skip, g_ops, g_seq, g_block, g_exit, g_ret, x_c, x_o, x_l, x_b, g_b, g_nil, r_all, o_nil, g_cond, o_guard, o_call, o_callm, o_callt, o_callx, o_callv, lk, ef, o_mv, o_pick, o_bin, o_never, o_eqs, o_eqb, o_un, o_conv, o_load, o_loadr, o_idxr, o_loads, o_fld, o_idx, o_idxs, o_len, o_lens, o_ext, o_nilck, o_slc, o_slcs, o_build, o_minmax, o_mkfn, o_alloc, o_box, o_boxs, o_row, o_rowr, o_mk, o_asg, o_app, o_store, o_stores, o_eqnil, hv, eqAV, ev, view_t, view_c, view_nil, view_fn, look_own, look_box, look_junk, look_val, look_nilsl, look_ro, look_roAt, look_agg, look_tup, look_clo, look_alias, look_ref, look_into, rowOf, cellsOf, argv, vbin, vun, bnd, elemOf, putParts, setAt, zav, ASt.rid, ASt.free, AV.kill, AV.isHome, AV.noLoan, AV.cellOK, Value.oneCell', put_at, mk_at, mk_nil, initSt, true_and, and_true, and_self, implies_true, List.map_cons, List.map_nil, List.forall_mem_cons, List.not_mem_nil, false_implies, List.length_cons, List.length_nil, List.getD_cons_zero, List.getD_cons_succ, List.getD_nil, List.drop_succ_cons, List.drop_zero, List.take_succ_cons, List.take_zero, List.set_cons_zero, List.set_cons_succ, List.all_cons, List.all_nil, Bool.and_true, Bool.true_and, Bool.not_true, Bool.not_false, reduceCtorEq, if_true, if_false, Bool.false_eq_true, ↓reduceIte, Nat.reduceEqDiff, Nat.reduceAdd, Nat.reduceSub, Nat.reduceMul, Nat.reduceLeDiff, Nat.reduceLT, ne_eq, not_false_eq_true, not_true_eq_false, Nat.one_ne_zero, Nat.zero_ne_one, r44_0, r44_1, r44_2, r44_3, p44]) | (exfalso; omega)
  · have hn : l = [] := by
      rcases l with _ | ⟨x, r⟩
      · rfl
      · have := hb (by simp)
        rw [this] at h; cases h
    subst hn
    exact fin_ownz rfl (by decide)
  · refine ⟨⟨fun y hy => ?_, by omega, by omega⟩, ?_⟩
    · obtain ⟨z, _, rfl⟩ := List.mem_map.1 hy
      rfl
    · exact fin_own (d := 2) rfl (by simp [put_at, ASt.free])
def Smp.late (by' : Int) (s : Smp) : Smp := ⟨s.time + by', s.step, s.shift, s.size, s.key⟩
def Smp.less (d : Int) (s : Smp) : Smp := ⟨s.time, s.step, s.shift - d, s.size, s.key⟩
def minS : Int → List Smp → Int
  | m, [] => m
  | m, s :: r => minS (if s.shift < m then s.shift else m) r
theorem minS_bd : ∀ {l : List Smp} {m : Int}, (∀ s ∈ l, badSmp s = false) → -1000000000 ≤ m → m ≤ 1000000000 → -1000000000 ≤ minS m l ∧ minS m l ≤ 1000000000
  | [], m, _, h1, h2 => ⟨h1, h2⟩
  | s :: r, m, h, h1, h2 => by
    have b := badSmp_bd (h s List.mem_cons_self)
    rw [minS]
    exact minS_bd (fun x hx => h x (List.mem_cons_of_mem _ hx)) (by split <;> omega) (by split <;> omega)
def tightBy (l : List Smp) : Int := minS (l.headD ⟨0, 0, 0, 0, false⟩).shift l
def tightL (l : List Smp) : List Smp := (l.map (Smp.late (tightBy l))).map (Smp.less (tightBy l))
def tightF (l : List Smp) : List Smp × Int × Int := if smpF l ≠ 0 then ([], 0, smpF l) else if l.length = 0 then ([], 0, 0) else if smpF (tightL l) ≠ 0 then ([], 0, smpF (tightL l)) else (tightL l, tightBy l, 0)
end Go.Proofs.Ytpecmhdepggnoaa
