/- Samples out of times of presentation: sample.Reordered, by the machine on data. -/
import Derived.Test.YtbdcnooafacldaaKSort
import Derived.Test.YtbdcnooafacldaaKEdges
import Derived.Test.YtbdcnooafacldaaKMoved
import Derived.Test.YtbdcnooafacldaaKSlc
namespace Go.Proofs.Ytbdcnooafacldaa
open Go.RowKit
set_option linter.unusedSimpArgs false

/-! slices.Clone[[]int,int] -/
def r25_0 : List POp := [⟨2, .asg .nil, none⟩]
def r25_1 : List POp := [⟨3, .mv (.t 0), none⟩,
  ⟨4, .eqnil false (.t 3), none⟩]
def r25_2 : List POp := [⟨2, .asg .nil, none⟩]
def r25_3 : List POp := [⟨5, .row 3 1 [], none⟩,
  ⟨6, .mv (.t 0), none⟩,
  ⟨7, .app 3 1 8 (.t 5) (.t 6), none⟩,
  ⟨2, .asg (.t 7), none⟩]
def p25 : PCode := .seq (.ops r25_0) (.seq (.seq (.ops r25_1) (.cond (.t 4) (.seq (.ops r25_2) (.ret)) (.skip))) (.seq (.ops r25_3) (.ret)))
theorem ok25 : okFunc Try.prog 25 [.t 2] 1 p25 = true := by kernel_rfl
theorem clonei_c (l : List Int) (hl : l.length ≤ 1000000000) : CallOK Try.prog 25 [.ro (l.map oneI)] (.own 3 1 (l.map oneI)) := by
  refine call_of mixed ok25 rfl ?_
  repeat' first | ((with_reducible (first | refine condD ?_ ?_ | refine condE ?_ ?_ | refine condN ?_ ?_ | refine condI ?_ ?_ | refine condS ?_ ?_)) <;> intro h) | ((with_reducible (first | refine guardD (by with_unfolding_all rfl) ?_ ?_ | refine guardE (by with_unfolding_all rfl) ?_ ?_ | refine guardN (by with_unfolding_all rfl) ?_ ?_ | refine guardI (by with_unfolding_all rfl) ?_ ?_ | refine guardS (by with_unfolding_all rfl) ?_ ?_)) <;> intro h) | ((with_reducible refine nilG rfl (fun b hb => ?_))) | (with_reducible refine And.intro ?_ ?_; omega) | (simp only [done_eq, done_eq', donet_eq, donet_eq', fin_val, fin_tup, fin_agg, fin_ro, res_one, res_more, rv_t, rv_c, rv_l, AV.tup.injEq, AV.agg.injEq, AV.ro.injEq, List.cons.injEq, int_eq, bool_eq, Int.toNat_natCast, Int.reduceToNat, Int.toNat_zero, Int.toNat_one, Int.reduceLE, Int.reduceLT, Int.reduceBEq, Int.reduceBNe, beq_self_eq_true, bne_self_eq_false, decide_true, decide_false,  Int.reduceNeg, toNat_pred, toNat_succ, List.length_map, cnd_t, cnd_f, grd_tt, grd_u, grd_tf, grd_ft, grd_ff, g_skip, g_ops, g_seq, g_block, g_exit, g_ret, x_c, x_o, x_l, x_b, g_b, g_nil, r_all, o_nil, g_cond, o_guard, o_call, o_callm, o_callt, o_callx, o_callv, o_callc, o_callh, o_apph, noav_alias, noav_nil, lk, ef, o_mv, o_pick, o_bin, o_never, o_eqs, o_eqb, o_un, o_conv, o_load, o_loadr, o_idxr, o_loads, o_loadsr, o_fld, o_idx, o_idxs, o_len, o_lens, o_ext, o_nilck, o_slc, o_slcs, o_build, o_minmax, o_mkfn, o_mkfnr, o_alloc, o_box, o_boxs, o_row, o_rowr, o_mk, o_asg, o_app, o_appa, o_store, o_stores, o_eqnil, hv, eqAV, ev, view_t, view_c, view_nil, view_fn, look_own, look_box, look_junk, look_val, look_nilsl, look_ro, look_roAt, look_agg, look_tup, look_clo, look_alias, look_ref, look_into, look_fnv, look_held, rowOf, cellsOf, argv, vbin, vun, bnd, elemOf, putParts, setAt, zav, ASt.rid, ASt.hold, ASt.free, AV.kill, AV.isHome, AV.noLoan, AV.cellOK, Value.oneCell', put_at, mk_at, mk_nil, initSt, true_and, and_true, and_self, implies_true, List.map_cons, List.map_nil, List.forall_mem_cons, List.not_mem_nil, false_implies, List.length_cons, List.length_nil, List.getD_cons_zero, List.getD_cons_succ, List.getD_nil, List.drop_succ_cons, List.drop_zero, List.take_succ_cons, List.take_zero, List.set_cons_zero, List.set_cons_succ, List.all_cons, List.all_nil, Bool.and_true, Bool.true_and, Bool.not_true, Bool.not_false, reduceCtorEq, if_true, if_false, Bool.false_eq_true, ↓reduceIte, Nat.reduceEqDiff, Nat.reduceBNe, Nat.reduceAdd, Nat.reduceSub, Nat.reduceMul, Nat.reduceLeDiff, Nat.reduceLT, ne_eq, not_false_eq_true, not_true_eq_false, Nat.one_ne_zero, Nat.zero_ne_one, r25_0, r25_1, r25_2, r25_3, p25]) | (exfalso; omega)
  · have hn : l = [] := by
      rcases l with _ | ⟨x, r⟩
      · rfl
      · have := hb (by simp)
        rw [this] at h; cases h
    subst hn
    exact fin_ownz rfl (by decide)
  · refine ⟨⟨fun y hy => ?_, by omega, by omega⟩, ?_⟩
    · obtain ⟨z, _, rfl⟩ := List.mem_map.1 hy
      rfl
    · exact fin_own (d := 2) rfl (by simp [put_at, ASt.free])
def oneB (b : Bool) : List AV := [.val (.bool b)]
theorem all_bool (x : List AV) (h : HasAll [.bool] x) : ∃ b : Bool, x = oneB b ∧ True := by
  obtain ⟨v0, r, rfl, h0, h⟩ := all_cons h
  obtain rfl := all_nil h
  obtain ⟨k, rfl⟩ := has_bool h0
  exact ⟨k, rfl, trivial⟩
/-- The greatest lateness of the first k. -/
def dK (s p : List Int) : Nat → Int
  | 0 => 0
  | k + 1 => if dK s p k < s.getD k 0 - p.getD k 0 then s.getD k 0 - p.getD k 0 else dK s p k
def dupK (s : List Int) : Nat → Bool
  | 0 => false
  | k + 1 => dupK s k || (decide (0 < k) && s.getD k 0 == s.getD (k - 1) 0)
theorem dupK_le {s : List Int} {k : Nat} (h : dupK s k = true) : ∀ n, k ≤ n → dupK s n = true
  | 0, hn => by obtain rfl : k = 0 := by omega
                exact h
  | n + 1, hn => by
    by_cases e : k = n + 1
    · rw [← e]; exact h
    · simp [dupK, dupK_le h n (by omega)]
def smpAt (s p : List Int) (last : Int) (z : List Int) (q : List Bool) (d : Int) (k : Nat) : Smp :=
  ⟨s.getD k 0 - d, if k + 1 < p.length then s.getD (k + 1) 0 - s.getD k 0 else last, p.getD k 0 - s.getD k 0 + d, z.getD k 0, q.getD k false⟩
def reordL (s p : List Int) (last : Int) (z : List Int) (q : List Bool) : List Smp := (List.range p.length).map (smpAt s p last z q (dK s p p.length))
def reordE (p : List Int) (z : List Int) (q : List Bool) : Int :=
  if 5000 < p.length then 2 else if z.length ≠ p.length ∨ q.length ≠ p.length then 3 else if p.any noTime then 1 else if dupK (sortI p) p.length then 7 else 0
def reordF (p : List Int) (last : Int) (z : List Int) (q : List Bool) : List Smp × Int :=
  if reordE p z q ≠ 0 then ([], reordE p z q) else (if smpF (reordL (sortI p) p last z q) = 0 then reordL (sortI p) p last z q else [], smpF (reordL (sortI p) p last z q))
theorem dK_bd {s p : List Int} (hs : ∀ k, k < s.length → -1000000000000000 ≤ s.getD k 0 ∧ s.getD k 0 ≤ 1000000000000000) (hp : ∀ k, k < p.length → -1000000000000000 ≤ p.getD k 0 ∧ p.getD k 0 ≤ 1000000000000000) (hl : s.length = p.length) : ∀ k, k ≤ p.length → 0 ≤ dK s p k ∧ dK s p k ≤ 2000000000000000
  | 0, _ => by simp [dK]
  | k + 1, h => by
    have := dK_bd hs hp hl k (by omega)
    have := hs k (by omega)
    have := hp k (by omega)
    unfold dK; split <;> omega
end Go.Proofs.Ytbdcnooafacldaa
