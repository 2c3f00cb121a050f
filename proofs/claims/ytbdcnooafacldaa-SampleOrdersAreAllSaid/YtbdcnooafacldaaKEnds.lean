/- When presentations end: sample.ends, Ends, by the machine on data. -/
import Derived.Test.YtbdcnooafacldaaKReord
import Derived.Test.YtbdcnooafacldaaKEdges
namespace Go.Proofs.Ytbdcnooafacldaa
open Go.RowKit
set_option linter.unusedSimpArgs false

/-! ### The next greater number -/
def nextGo (x : Int) : Option Int → List Int → Option Int
  | acc, [] => acc
  | acc, n :: r => nextGo x (if x < n ∧ (acc.all fun e => decide (n < e)) = true then some n else acc) r
def nextI (P : List Int) (x : Int) : Option Int := nextGo x none P
def IsNext (P : List Int) (x : Int) (r : Option Int) : Prop := (r = none ∧ ∀ y ∈ P, y ≤ x) ∨ ∃ e, r = some e ∧ e ∈ P ∧ x < e ∧ ∀ y ∈ P, x < y → e ≤ y
theorem isNext_uniq {P : List Int} {x : Int} {r s : Option Int} (h : IsNext P x r) (k : IsNext P x s) : r = s := by
  rcases h with ⟨rfl, h⟩ | ⟨e, rfl, h1, h2, h3⟩ <;> rcases k with ⟨rfl, k⟩ | ⟨f, rfl, k1, k2, k3⟩
  · rfl
  · have := h f k1; omega
  · have := k e h1; omega
  · have := h3 f k1 k2
    have := k3 e h1 h2
    rw [show e = f by omega]
theorem isNext_mem {P Q : List Int} {x : Int} {r : Option Int} (hm : ∀ y, y ∈ P ↔ y ∈ Q) (h : IsNext P x r) : IsNext Q x r := by
  rcases h with ⟨rfl, h⟩ | ⟨e, rfl, h1, h2, h3⟩
  · exact .inl ⟨rfl, fun y hy => h y ((hm y).2 hy)⟩
  · exact .inr ⟨e, rfl, (hm e).1 h1, h2, fun y hy => h3 y ((hm y).2 hy)⟩
theorem nextGo_is (x : Int) : ∀ (P A : List Int) (acc : Option Int), IsNext A x acc → IsNext (A ++ P) x (nextGo x acc P)
  | [], A, acc, h => by rw [List.append_nil]; exact h
  | n :: r, A, acc, h => by
    rw [show A ++ n :: r = (A ++ [n]) ++ r by simp, nextGo]
    refine nextGo_is x r (A ++ [n]) _ ?_
    rcases h with ⟨rfl, h⟩ | ⟨e, rfl, h1, h2, h3⟩
    · by_cases hn : x < n
      · rw [if_pos ⟨hn, rfl⟩]
        refine .inr ⟨n, rfl, by simp, hn, fun y hy hxy => ?_⟩
        rw [List.mem_append, List.mem_singleton] at hy
        rcases hy with hy | rfl
        · have := h y hy; omega
        · exact Int.le_refl _
      · rw [if_neg (fun hc => hn hc.1)]
        refine .inl ⟨rfl, fun y hy => ?_⟩
        rw [List.mem_append, List.mem_singleton] at hy
        rcases hy with hy | rfl
        · exact h y hy
        · omega
    · by_cases hn : x < n ∧ n < e
      · rw [if_pos ⟨hn.1, by simpa using hn.2⟩]
        refine .inr ⟨n, rfl, by simp, hn.1, fun y hy hxy => ?_⟩
        rw [List.mem_append, List.mem_singleton] at hy
        rcases hy with hy | rfl
        · have := h3 y hy hxy; omega
        · exact Int.le_refl _
      · rw [if_neg (fun hc => hn ⟨hc.1, by simpa using hc.2⟩)]
        refine .inr ⟨e, rfl, by simp [h1], h2, fun y hy hxy => ?_⟩
        rw [List.mem_append, List.mem_singleton] at hy
        rcases hy with hy | rfl
        · exact h3 y hy hxy
        · omega
theorem nextI_is (P : List Int) (x : Int) : IsNext P x (nextI P x) := by
  have := nextGo_is x P [] none (.inl ⟨rfl, by simp⟩)
  rwa [List.nil_append] at this
theorem count_is (x : Int) : ∀ T : List Int, T.Pairwise (· < ·) → IsNext T x T[T.countP (· < x + 1)]?
  | [], _ => .inl ⟨rfl, by simp⟩
  | a :: r, h => by
    rw [List.pairwise_cons] at h
    by_cases ha : a < x + 1
    · have hc : (a :: r).countP (· < x + 1) = r.countP (· < x + 1) + 1 := List.countP_cons_of_pos (by simpa using ha)
      rw [hc, List.getElem?_cons_succ]
      rcases count_is x r h.2 with ⟨e, k⟩ | ⟨e, e1, k1, k2, k3⟩
      · refine .inl ⟨e, fun y hy => ?_⟩
        rcases List.mem_cons.1 hy with rfl | hy
        · omega
        · exact k y hy
      · refine .inr ⟨e, e1, List.mem_cons_of_mem _ k1, k2, fun y hy hxy => ?_⟩
        rcases List.mem_cons.1 hy with rfl | hy
        · omega
        · exact k3 y hy hxy
    · have hc : (a :: r).countP (· < x + 1) = 0 := by
        rw [List.countP_eq_zero]
        intro y hy
        rcases List.mem_cons.1 hy with rfl | hy
        · simpa using ha
        · have := h.1 y hy
          simp; omega
      rw [hc, List.getElem?_cons_zero]
      refine .inr ⟨a, rfl, List.mem_cons_self, by omega, fun y hy _ => ?_⟩
      rcases List.mem_cons.1 hy with rfl | hy
      · exact Int.le_refl _
      · have := h.1 y hy; omega
def endOf (P : List Int) (s : Smp) : Int := (nextI P (s.time + s.shift)).getD (s.time + s.shift + s.step)
def endsL (l : List Smp) : List Int := l.map (endOf (presL l))
theorem endsL_len (l : List Smp) : (endsL l).length = l.length := by simp [endsL]
theorem presL_len (l : List Smp) : (presL l).length = l.length := by simp [presL]
theorem pres_get {l : List Smp} {k : Nat} (h : k < l.length) : (presL l)[k]'(by rw [presL_len]; exact h) = l[k].time + l[k].shift := by simp [presL]
theorem pres_bd {l : List Smp} (hb : ∀ s ∈ l, badSmp s = false) : ∀ x ∈ presL l, -2000000000000000 ≤ x ∧ x ≤ 2000000000000000 := fun x hx => by
  obtain ⟨s, hs, rfl⟩ := List.mem_map.1 hx
  have := badSmp_bd (hb s hs)
  omega
theorem ends_bd {l : List Smp} (hb : ∀ s ∈ l, badSmp s = false) : ∀ x ∈ endsL l, -3000000000000000 ≤ x ∧ x ≤ 3000000000000000 := fun x hx => by
  obtain ⟨s, hs, rfl⟩ := List.mem_map.1 hx
  have b := badSmp_bd (hb s hs)
  unfold endOf
  rcases nextI_is (presL l) (s.time + s.shift) with ⟨e, _⟩ | ⟨e, e1, k1, _, _⟩
  · rw [e]; simp only [Option.getD_none]; omega
  · rw [e1]; have := pres_bd hb e k1; simp only [Option.getD_some]; omega
/-! headend/sample.ends -/
def r17_0 : List POp := [⟨2, .asg .nil, none⟩]
def r17_1 : List POp := [⟨10, .mv (.t 0), none⟩,
  ⟨11, .call 14 [.t 10], none⟩,
  ⟨3, .asg (.t 11), none⟩]
def r17_2 : List POp := [⟨12, .mv (.t 3), none⟩,
  ⟨13, .call 25 [.t 12], none⟩,
  ⟨4, .asg (.t 13), none⟩]
def r17_3 : List POp := [⟨14, .mv (.t 4), none⟩,
  ⟨15, .callm 26 [.t 14], none⟩]
def r17_4 : List POp := [⟨16, .mv (.t 4), none⟩,
  ⟨17, .callm 27 [.t 16], none⟩,
  ⟨4, .asg (.t 17), none⟩]
def r17_5 : List POp := [⟨5, .asg .nil, none⟩]
def r17_6 : List POp := [⟨18, .mv (.t 0), none⟩,
  ⟨19, .len (.t 18), none⟩,
  ⟨20, .mv (.c (.int .i64 0)), none⟩]
def r17_7 : List POp := [⟨21, .bin .lss (.t 20) (.t 19), none⟩]
def r17_8 : List POp := [⟨22, .mv (.t 20), none⟩,
  ⟨23, .idx 5 (.t 18) (.t 20), none⟩,
  ⟨24, .loads 5 (.t 23), none⟩,
  ⟨7, .alloc [.int .i64 0, .int .i64 0, .int .i64 0, .int .i64 0, .bool false], none⟩,
  ⟨6, .asg (.t 22), none⟩,
  ⟨0, .stores 5 (.t 7) (.t 24), none⟩]
def r17_9 : List POp := [⟨26, .mv (.t 4), none⟩,
  ⟨27, .mv (.t 3), none⟩,
  ⟨28, .mv (.t 6), none⟩,
  ⟨29, .idx 1 (.t 27) (.t 28), none⟩,
  ⟨30, .load (.t 29), none⟩,
  ⟨31, .bin .add (.t 30) (.c (.int .i64 1)), none⟩,
  ⟨32, .call 28 [.t 26, .t 31], none⟩,
  ⟨25, .mv (.t 32), none⟩,
  ⟨33, .ext 0 (.t 25), none⟩,
  ⟨34, .ext 1 (.t 25), none⟩,
  ⟨8, .mv (.t 33), none⟩,
  ⟨9, .mv (.t 34), none⟩]
def r17_10 : List POp := [⟨35, .mv (.t 8), none⟩,
  ⟨36, .mv (.t 4), none⟩,
  ⟨37, .len (.t 36), none⟩,
  ⟨38, .bin .lss (.t 35) (.t 37), none⟩]
def r17_11 : List POp := [⟨39, .mv (.t 5), none⟩,
  ⟨40, .mv (.t 4), none⟩,
  ⟨41, .mv (.t 8), none⟩,
  ⟨42, .idx 1 (.t 40) (.t 41), none⟩,
  ⟨43, .load (.t 42), none⟩,
  ⟨44, .row 3 1 [.t 43], none⟩,
  ⟨45, .app 3 1 8 (.t 39) (.t 44), none⟩,
  ⟨5, .asg (.t 45), none⟩]
def r17_12 : List POp := [⟨46, .mv (.t 5), none⟩,
  ⟨47, .mv (.t 3), none⟩,
  ⟨48, .mv (.t 6), none⟩,
  ⟨49, .idx 1 (.t 47) (.t 48), none⟩,
  ⟨50, .load (.t 49), none⟩,
  ⟨51, .fld 1 (.t 7), none⟩,
  ⟨52, .load (.t 51), none⟩,
  ⟨53, .bin .add (.t 50) (.t 52), none⟩,
  ⟨54, .row 3 1 [.t 53], none⟩,
  ⟨55, .app 3 1 8 (.t 46) (.t 54), none⟩,
  ⟨5, .asg (.t 55), none⟩]
def r17_13 : List POp := [⟨56, .bin .add (.t 20) (.c (.int .i64 1)), none⟩,
  ⟨20, .mv (.t 56), none⟩]
def r17_14 : List POp := [⟨57, .mv (.t 5), none⟩,
  ⟨2, .asg (.t 57), none⟩]
def l17_0 : PCode := .seq (.ops r17_7) (.seq (.cond (.t 21) (.skip) (.exit 0)) (.seq (.block 1 (.seq (.ops r17_8) (.seq (.ops r17_9) (.seq (.ops r17_10) (.cond (.t 38) (.ops r17_11) (.ops r17_12)))))) (.ops r17_13)))
def p17 : PCode := .seq (.ops r17_0) (.seq (.ops r17_1) (.seq (.ops r17_2) (.seq (.ops r17_3) (.seq (.ops r17_4) (.seq (.ops r17_5) (.seq (.seq (.ops r17_6) (.block 0 (.loop l17_0))) (.seq (.ops r17_14) (.ret))))))))
theorem ok17 : okFunc Try.prog 17 [.t 2] 1 p17 = true := by kernel_rfl
theorem ends_c (l : List Smp) (hl : l.length ≤ 5000) (hb : ∀ s ∈ l, badSmp s = false) : CallOK Try.prog 17 [.ro (l.map Smp.av)] (.ro ((endsL l).map oneI)) := by
  refine call_of mixed ok17 rfl ?_
  obtain ⟨P, hP⟩ : ∃ P, P = presL l := ⟨_, rfl⟩
  have hPl : P.length = l.length := by rw [hP]; exact presL_len l
  have h1 := presents_c l hl hb
  rw [← hP] at h1
  have h2 := clonei_c P (by omega)
  have h3 := sort_c 3 P (by omega)
  have h4 := compact_c 3 (sortI P) (compact_len _)
  have hTl : (Go.Lib.compact (sortI P)).length ≤ 5000 := by have := compact_len (sortI P); rw [sortI_len] at this; omega
  have hTm : ∀ y, y ∈ Go.Lib.compact (sortI P) ↔ y ∈ P := fun y => compact_mem.trans sort_mem
  have hTu := compact_up (sortI_ord P)
  generalize Go.Lib.compact (sortI P) = T at *
  repeat' first | ((with_reducible (first | refine condD ?_ ?_ | refine condE ?_ ?_ | refine condN ?_ ?_ | refine condI ?_ ?_ | refine condS ?_ ?_)) <;> intro h) | ((with_reducible (first | refine guardD (by with_unfolding_all rfl) ?_ ?_ | refine guardE (by with_unfolding_all rfl) ?_ ?_ | refine guardN (by with_unfolding_all rfl) ?_ ?_ | refine guardI (by with_unfolding_all rfl) ?_ ?_ | refine guardS (by with_unfolding_all rfl) ?_ ?_)) <;> intro h) | ((refine callG h1 ?_)) | ((refine callG h2 ?_)) | ((refine turnG (by with_unfolding_all rfl) (by simp [sortI_len]) h3 ?_)) | ((refine takeG (by with_unfolding_all rfl) h4 ?_)) | (with_reducible refine And.intro ?_ ?_; omega) | (simp only [done_eq, done_eq', donet_eq, donet_eq', fin_val, fin_tup, fin_agg, fin_ro, res_one, res_more, rv_t, rv_c, rv_l, AV.tup.injEq, AV.agg.injEq, AV.ro.injEq, List.cons.injEq, int_eq, bool_eq, Int.toNat_natCast, Int.reduceToNat, Int.toNat_zero, Int.toNat_one, Int.reduceLE, Int.reduceLT, Int.reduceBEq, Int.reduceBNe, beq_self_eq_true, bne_self_eq_false, decide_true, decide_false,  Int.reduceNeg, toNat_pred, toNat_succ, List.length_map, cnd_t, cnd_f, grd_tt, grd_u, grd_tf, grd_ft, grd_ff, g_skip, g_ops, g_seq, g_block, g_exit, g_ret, x_c, x_o, x_l, x_b, g_b, g_nil, r_all, o_nil, g_cond, o_guard, o_call, o_callm, o_callt, o_callx, o_callv, o_callc, o_callh, o_apph, noav_alias, noav_nil, lk, ef, o_mv, o_pick, o_bin, o_never, o_eqs, o_eqb, o_un, o_conv, o_load, o_loadr, o_idxr, o_loads, o_loadsr, o_fld, o_idx, o_idxs, o_len, o_lens, o_ext, o_nilck, o_slc, o_slcs, o_build, o_minmax, o_mkfn, o_mkfnr, o_alloc, o_box, o_boxs, o_row, o_rowr, o_mk, o_asg, o_app, o_appa, o_store, o_stores, o_eqnil, hv, eqAV, ev, view_t, view_c, view_nil, view_fn, look_own, look_box, look_junk, look_val, look_nilsl, look_ro, look_roAt, look_agg, look_tup, look_clo, look_alias, look_ref, look_into, look_fnv, look_held, rowOf, cellsOf, argv, vbin, vun, bnd, elemOf, putParts, setAt, zav, ASt.rid, ASt.hold, ASt.free, AV.kill, AV.isHome, AV.noLoan, AV.cellOK, Value.oneCell', put_at, mk_at, mk_nil, initSt, true_and, and_true, and_self, implies_true, List.map_cons, List.map_nil, List.forall_mem_cons, List.not_mem_nil, false_implies, List.length_cons, List.length_nil, List.getD_cons_zero, List.getD_cons_succ, List.getD_nil, List.drop_succ_cons, List.drop_zero, List.take_succ_cons, List.take_zero, List.set_cons_zero, List.set_cons_succ, List.all_cons, List.all_nil, Bool.and_true, Bool.true_and, Bool.not_true, Bool.not_false, reduceCtorEq, if_true, if_false, Bool.false_eq_true, ↓reduceIte, Nat.reduceEqDiff, Nat.reduceBNe, Nat.reduceAdd, Nat.reduceSub, Nat.reduceMul, Nat.reduceLeDiff, Nat.reduceLT, ne_eq, not_false_eq_true, not_true_eq_false, Nat.one_ne_zero, Nat.zero_ne_one, r17_0, r17_1, r17_2, r17_3, r17_4, r17_5, r17_6, r17_7, r17_8, r17_9, r17_10, r17_11, r17_12, r17_13, r17_14, p17]) | (exfalso; omega)
  refine loopS (fun k : Nat => mk [(3, .ro (P.map oneI)), (4, .ro (T.map oneI)), (5, .own 3 1 (((l.take k).map (endOf P)).map oneI)), (18, .ro (l.map Smp.av)), (19, .val (.int .i64 l.length)), (20, .val (.int .i64 k))]) (fun k => k ≤ l.length) (fun k => l.length - k) 0 (weak_mk ?_) (Nat.zero_le _) ?_
  · simp only [wk_cons, wk_nil, wk1, vint_eq, vbool_eq, AV.val.injEq, done_eq, done_eq', donet_eq, donet_eq', fin_val, fin_tup, fin_agg, fin_ro, res_one, res_more, rv_t, rv_c, rv_l, AV.tup.injEq, AV.agg.injEq, AV.ro.injEq, List.cons.injEq, int_eq, bool_eq, Int.toNat_natCast, Int.reduceToNat, Int.toNat_zero, Int.toNat_one, Int.reduceLE, Int.reduceLT, Int.reduceBEq, Int.reduceBNe, beq_self_eq_true, bne_self_eq_false, decide_true, decide_false,  Int.reduceNeg, toNat_pred, toNat_succ, List.length_map, cnd_t, cnd_f, grd_tt, grd_u, grd_tf, grd_ft, grd_ff, g_skip, g_ops, g_seq, g_block, g_exit, g_ret, x_c, x_o, x_l, x_b, g_b, g_nil, r_all, o_nil, g_cond, o_guard, o_call, o_callm, o_callt, o_callx, o_callv, o_callc, o_callh, o_apph, noav_alias, noav_nil, lk, ef, o_mv, o_pick, o_bin, o_never, o_eqs, o_eqb, o_un, o_conv, o_load, o_loadr, o_idxr, o_loads, o_loadsr, o_fld, o_idx, o_idxs, o_len, o_lens, o_ext, o_nilck, o_slc, o_slcs, o_build, o_minmax, o_mkfn, o_mkfnr, o_alloc, o_box, o_boxs, o_row, o_rowr, o_mk, o_asg, o_app, o_appa, o_store, o_stores, o_eqnil, hv, eqAV, ev, view_t, view_c, view_nil, view_fn, look_own, look_box, look_junk, look_val, look_nilsl, look_ro, look_roAt, look_agg, look_tup, look_clo, look_alias, look_ref, look_into, look_fnv, look_held, rowOf, cellsOf, argv, vbin, vun, bnd, elemOf, putParts, setAt, zav, ASt.rid, ASt.hold, ASt.free, AV.kill, AV.isHome, AV.noLoan, AV.cellOK, Value.oneCell', put_at, mk_at, mk_nil, initSt, true_and, and_true, and_self, implies_true, List.map_cons, List.map_nil, List.forall_mem_cons, List.not_mem_nil, false_implies, List.length_cons, List.length_nil, List.getD_cons_zero, List.getD_cons_succ, List.getD_nil, List.drop_succ_cons, List.drop_zero, List.take_succ_cons, List.take_zero, List.set_cons_zero, List.set_cons_succ, List.all_cons, List.all_nil, Bool.and_true, Bool.true_and, Bool.not_true, Bool.not_false, reduceCtorEq, if_true, if_false, Bool.false_eq_true, ↓reduceIte, Nat.reduceEqDiff, Nat.reduceBNe, Nat.reduceAdd, Nat.reduceSub, Nat.reduceMul, Nat.reduceLeDiff, Nat.reduceLT, ne_eq, not_false_eq_true, not_true_eq_false, Nat.one_ne_zero, Nat.zero_ne_one]
    simp
  · rintro J hJ k hk
    simp only [done_eq, done_eq', donet_eq, donet_eq', fin_val, fin_tup, fin_agg, fin_ro, res_one, res_more, rv_t, rv_c, rv_l, AV.tup.injEq, AV.agg.injEq, AV.ro.injEq, List.cons.injEq, int_eq, bool_eq, Int.toNat_natCast, Int.reduceToNat, Int.toNat_zero, Int.toNat_one, Int.reduceLE, Int.reduceLT, Int.reduceBEq, Int.reduceBNe, beq_self_eq_true, bne_self_eq_false, decide_true, decide_false,  Int.reduceNeg, toNat_pred, toNat_succ, List.length_map, cnd_t, cnd_f, grd_tt, grd_u, grd_tf, grd_ft, grd_ff, g_skip, g_ops, g_seq, g_block, g_exit, g_ret, x_c, x_o, x_l, x_b, g_b, g_nil, r_all, o_nil, g_cond, o_guard, o_call, o_callm, o_callt, o_callx, o_callv, o_callc, o_callh, o_apph, noav_alias, noav_nil, lk, ef, o_mv, o_pick, o_bin, o_never, o_eqs, o_eqb, o_un, o_conv, o_load, o_loadr, o_idxr, o_loads, o_loadsr, o_fld, o_idx, o_idxs, o_len, o_lens, o_ext, o_nilck, o_slc, o_slcs, o_build, o_minmax, o_mkfn, o_mkfnr, o_alloc, o_box, o_boxs, o_row, o_rowr, o_mk, o_asg, o_app, o_appa, o_store, o_stores, o_eqnil, hv, eqAV, ev, view_t, view_c, view_nil, view_fn, look_own, look_box, look_junk, look_val, look_nilsl, look_ro, look_roAt, look_agg, look_tup, look_clo, look_alias, look_ref, look_into, look_fnv, look_held, rowOf, cellsOf, argv, vbin, vun, bnd, elemOf, putParts, setAt, zav, ASt.rid, ASt.hold, ASt.free, AV.kill, AV.isHome, AV.noLoan, AV.cellOK, Value.oneCell', put_at, mk_at, mk_nil, initSt, true_and, and_true, and_self, implies_true, List.map_cons, List.map_nil, List.forall_mem_cons, List.not_mem_nil, false_implies, List.length_cons, List.length_nil, List.getD_cons_zero, List.getD_cons_succ, List.getD_nil, List.drop_succ_cons, List.drop_zero, List.take_succ_cons, List.take_zero, List.set_cons_zero, List.set_cons_succ, List.all_cons, List.all_nil, Bool.and_true, Bool.true_and, Bool.not_true, Bool.not_false, reduceCtorEq, if_true, if_false, Bool.false_eq_true, ↓reduceIte, Nat.reduceEqDiff, Nat.reduceBNe, Nat.reduceAdd, Nat.reduceSub, Nat.reduceMul, Nat.reduceLeDiff, Nat.reduceLT, ne_eq, not_false_eq_true, not_true_eq_false, Nat.one_ne_zero, Nat.zero_ne_one, r17_0, r17_1, r17_2, r17_3, r17_4, r17_5, r17_6, r17_7, r17_8, r17_9, r17_10, r17_11, r17_12, r17_13, r17_14, p17, l17_0]
    refine condD (fun h => ?_) (fun h => ?_)
    · have hlt : k < l.length := by omega
      have hlp : k < P.length := by omega
      have hw := i_add1 k (by omega)
      have b := badSmp_bd (hb l[k] (List.getElem_mem hlt))
      have hpk : P[k] = l[k].time + l[k].shift := by subst hP; exact pres_get hlt
      have w1 : IntKind.i64.wrap (P[k] + 1) = P[k] + 1 := wrap_in (by omega) (by omega)
      have w2 : IntKind.i64.wrap (P[k] + l[k].step) = P[k] + l[k].step := wrap_in (by omega) (by omega)
      have hs := search_c T (P[k] + 1) (by omega) (hTu.imp fun h => by omega)
      have hnx := isNext_uniq (isNext_mem hTm (count_is P[k] T hTu)) (nextI_is P P[k])
      have hsucc : (l.take (k + 1)).map (endOf P) = (l.take k).map (endOf P) ++ [endOf P l[k]] := by rw [List.take_succ_eq_append_getElem hlt, List.map_append]; rfl
      have hend : endOf P l[k] = (nextI P P[k]).getD (P[k] + l[k].step) := by unfold endOf; rw [← hpk]
      have hrl : ((l.take k).map (endOf P)).length = k := by rw [List.length_map, List.length_take]; omega
      clear hP
      generalize T.countP (· < P[k] + 1) = c at *
      by_cases hc : c < T.length
      · have hc' : (c : Int) < T.length := by omega
        rw [List.getElem?_eq_getElem hc] at hnx
        rw [← hnx, Option.getD_some] at hend
        rw [hend] at hsucc
        repeat' first | ((with_reducible (first | refine condD ?_ ?_ | refine condE ?_ ?_ | refine condN ?_ ?_ | refine condI ?_ ?_ | refine condS ?_ ?_)) <;> intro h) | ((with_reducible (first | refine guardD (by with_unfolding_all rfl) ?_ ?_ | refine guardE (by with_unfolding_all rfl) ?_ ?_ | refine guardN (by with_unfolding_all rfl) ?_ ?_ | refine guardI (by with_unfolding_all rfl) ?_ ?_ | refine guardS (by with_unfolding_all rfl) ?_ ?_)) <;> intro h) | ((refine callG hs ?_)) | (with_reducible refine And.intro ?_ ?_; omega) | (simp only [done_eq, done_eq', donet_eq, donet_eq', fin_val, fin_tup, fin_agg, fin_ro, res_one, res_more, rv_t, rv_c, rv_l, AV.tup.injEq, AV.agg.injEq, AV.ro.injEq, List.cons.injEq, int_eq, bool_eq, Int.toNat_natCast, Int.reduceToNat, Int.toNat_zero, Int.toNat_one, Int.reduceLE, Int.reduceLT, Int.reduceBEq, Int.reduceBNe, beq_self_eq_true, bne_self_eq_false, decide_true, decide_false,  Int.reduceNeg, toNat_pred, toNat_succ, List.length_map, cnd_t, cnd_f, grd_tt, grd_u, grd_tf, grd_ft, grd_ff, g_skip, g_ops, g_seq, g_block, g_exit, g_ret, x_c, x_o, x_l, x_b, g_b, g_nil, r_all, o_nil, g_cond, o_guard, o_call, o_callm, o_callt, o_callx, o_callv, o_callc, o_callh, o_apph, noav_alias, noav_nil, lk, ef, o_mv, o_pick, o_bin, o_never, o_eqs, o_eqb, o_un, o_conv, o_load, o_loadr, o_idxr, o_loads, o_loadsr, o_fld, o_idx, o_idxs, o_len, o_lens, o_ext, o_nilck, o_slc, o_slcs, o_build, o_minmax, o_mkfn, o_mkfnr, o_alloc, o_box, o_boxs, o_row, o_rowr, o_mk, o_asg, o_app, o_appa, o_store, o_stores, o_eqnil, hv, eqAV, ev, view_t, view_c, view_nil, view_fn, look_own, look_box, look_junk, look_val, look_nilsl, look_ro, look_roAt, look_agg, look_tup, look_clo, look_alias, look_ref, look_into, look_fnv, look_held, rowOf, cellsOf, argv, vbin, vun, bnd, elemOf, putParts, setAt, zav, ASt.rid, ASt.hold, ASt.free, AV.kill, AV.isHome, AV.noLoan, AV.cellOK, Value.oneCell', put_at, mk_at, mk_nil, initSt, true_and, and_true, and_self, implies_true, List.map_cons, List.map_nil, List.forall_mem_cons, List.not_mem_nil, false_implies, List.length_cons, List.length_nil, List.getD_cons_zero, List.getD_cons_succ, List.getD_nil, List.drop_succ_cons, List.drop_zero, List.take_succ_cons, List.take_zero, List.set_cons_zero, List.set_cons_succ, List.all_cons, List.all_nil, Bool.and_true, Bool.true_and, Bool.not_true, Bool.not_false, reduceCtorEq, if_true, if_false, Bool.false_eq_true, ↓reduceIte, Nat.reduceEqDiff, Nat.reduceBNe, Nat.reduceAdd, Nat.reduceSub, Nat.reduceMul, Nat.reduceLeDiff, Nat.reduceLT, ne_eq, not_false_eq_true, not_true_eq_false, Nat.one_ne_zero, Nat.zero_ne_one, r17_0, r17_1, r17_2, r17_3, r17_4, r17_5, r17_6, r17_7, r17_8, r17_9, r17_10, r17_11, r17_12, r17_13, r17_14, p17, l17_0, oneI, Smp.av, getD_map hlt, getD_map hlp, getD_map hc, w1, hc', hrl]) | (exfalso; omega)
        all_goals exact again hJ (k + 1) (weak_mk (by simp only [wk_cons, wk_nil, wk1, vint_eq, vbool_eq, AV.val.injEq, done_eq, done_eq', donet_eq, donet_eq', fin_val, fin_tup, fin_agg, fin_ro, res_one, res_more, rv_t, rv_c, rv_l, AV.tup.injEq, AV.agg.injEq, AV.ro.injEq, List.cons.injEq, int_eq, bool_eq, Int.toNat_natCast, Int.reduceToNat, Int.toNat_zero, Int.toNat_one, Int.reduceLE, Int.reduceLT, Int.reduceBEq, Int.reduceBNe, beq_self_eq_true, bne_self_eq_false, decide_true, decide_false,  Int.reduceNeg, toNat_pred, toNat_succ, List.length_map, cnd_t, cnd_f, grd_tt, grd_u, grd_tf, grd_ft, grd_ff, g_skip, g_ops, g_seq, g_block, g_exit, g_ret, x_c, x_o, x_l, x_b, g_b, g_nil, r_all, o_nil, g_cond, o_guard, o_call, o_callm, o_callt, o_callx, o_callv, o_callc, o_callh, o_apph, noav_alias, noav_nil, lk, ef, o_mv, o_pick, o_bin, o_never, o_eqs, o_eqb, o_un, o_conv, o_load, o_loadr, o_idxr, o_loads, o_loadsr, o_fld, o_idx, o_idxs, o_len, o_lens, o_ext, o_nilck, o_slc, o_slcs, o_build, o_minmax, o_mkfn, o_mkfnr, o_alloc, o_box, o_boxs, o_row, o_rowr, o_mk, o_asg, o_app, o_appa, o_store, o_stores, o_eqnil, hv, eqAV, ev, view_t, view_c, view_nil, view_fn, look_own, look_box, look_junk, look_val, look_nilsl, look_ro, look_roAt, look_agg, look_tup, look_clo, look_alias, look_ref, look_into, look_fnv, look_held, rowOf, cellsOf, argv, vbin, vun, bnd, elemOf, putParts, setAt, zav, ASt.rid, ASt.hold, ASt.free, AV.kill, AV.isHome, AV.noLoan, AV.cellOK, Value.oneCell', put_at, mk_at, mk_nil, initSt, true_and, and_true, and_self, implies_true, List.map_cons, List.map_nil, List.forall_mem_cons, List.not_mem_nil, false_implies, List.length_cons, List.length_nil, List.getD_cons_zero, List.getD_cons_succ, List.getD_nil, List.drop_succ_cons, List.drop_zero, List.take_succ_cons, List.take_zero, List.set_cons_zero, List.set_cons_succ, List.all_cons, List.all_nil, Bool.and_true, Bool.true_and, Bool.not_true, Bool.not_false, reduceCtorEq, if_true, if_false, Bool.false_eq_true, ↓reduceIte, Nat.reduceEqDiff, Nat.reduceBNe, Nat.reduceAdd, Nat.reduceSub, Nat.reduceMul, Nat.reduceLeDiff, Nat.reduceLT, ne_eq, not_false_eq_true, not_true_eq_false, Nat.one_ne_zero, Nat.zero_ne_one]; exact ⟨by rw [hsucc]; simp [oneI], hw⟩)) (by omega) (by omega)
      · have hc' : ¬ (c : Int) < T.length := by omega
        rw [List.getElem?_eq_none (by omega)] at hnx
        rw [← hnx, Option.getD_none] at hend
        rw [hend] at hsucc
        repeat' first | ((with_reducible (first | refine condD ?_ ?_ | refine condE ?_ ?_ | refine condN ?_ ?_ | refine condI ?_ ?_ | refine condS ?_ ?_)) <;> intro h) | ((with_reducible (first | refine guardD (by with_unfolding_all rfl) ?_ ?_ | refine guardE (by with_unfolding_all rfl) ?_ ?_ | refine guardN (by with_unfolding_all rfl) ?_ ?_ | refine guardI (by with_unfolding_all rfl) ?_ ?_ | refine guardS (by with_unfolding_all rfl) ?_ ?_)) <;> intro h) | ((refine callG hs ?_)) | (with_reducible refine And.intro ?_ ?_; omega) | (simp only [done_eq, done_eq', donet_eq, donet_eq', fin_val, fin_tup, fin_agg, fin_ro, res_one, res_more, rv_t, rv_c, rv_l, AV.tup.injEq, AV.agg.injEq, AV.ro.injEq, List.cons.injEq, int_eq, bool_eq, Int.toNat_natCast, Int.reduceToNat, Int.toNat_zero, Int.toNat_one, Int.reduceLE, Int.reduceLT, Int.reduceBEq, Int.reduceBNe, beq_self_eq_true, bne_self_eq_false, decide_true, decide_false,  Int.reduceNeg, toNat_pred, toNat_succ, List.length_map, cnd_t, cnd_f, grd_tt, grd_u, grd_tf, grd_ft, grd_ff, g_skip, g_ops, g_seq, g_block, g_exit, g_ret, x_c, x_o, x_l, x_b, g_b, g_nil, r_all, o_nil, g_cond, o_guard, o_call, o_callm, o_callt, o_callx, o_callv, o_callc, o_callh, o_apph, noav_alias, noav_nil, lk, ef, o_mv, o_pick, o_bin, o_never, o_eqs, o_eqb, o_un, o_conv, o_load, o_loadr, o_idxr, o_loads, o_loadsr, o_fld, o_idx, o_idxs, o_len, o_lens, o_ext, o_nilck, o_slc, o_slcs, o_build, o_minmax, o_mkfn, o_mkfnr, o_alloc, o_box, o_boxs, o_row, o_rowr, o_mk, o_asg, o_app, o_appa, o_store, o_stores, o_eqnil, hv, eqAV, ev, view_t, view_c, view_nil, view_fn, look_own, look_box, look_junk, look_val, look_nilsl, look_ro, look_roAt, look_agg, look_tup, look_clo, look_alias, look_ref, look_into, look_fnv, look_held, rowOf, cellsOf, argv, vbin, vun, bnd, elemOf, putParts, setAt, zav, ASt.rid, ASt.hold, ASt.free, AV.kill, AV.isHome, AV.noLoan, AV.cellOK, Value.oneCell', put_at, mk_at, mk_nil, initSt, true_and, and_true, and_self, implies_true, List.map_cons, List.map_nil, List.forall_mem_cons, List.not_mem_nil, false_implies, List.length_cons, List.length_nil, List.getD_cons_zero, List.getD_cons_succ, List.getD_nil, List.drop_succ_cons, List.drop_zero, List.take_succ_cons, List.take_zero, List.set_cons_zero, List.set_cons_succ, List.all_cons, List.all_nil, Bool.and_true, Bool.true_and, Bool.not_true, Bool.not_false, reduceCtorEq, if_true, if_false, Bool.false_eq_true, ↓reduceIte, Nat.reduceEqDiff, Nat.reduceBNe, Nat.reduceAdd, Nat.reduceSub, Nat.reduceMul, Nat.reduceLeDiff, Nat.reduceLT, ne_eq, not_false_eq_true, not_true_eq_false, Nat.one_ne_zero, Nat.zero_ne_one, r17_0, r17_1, r17_2, r17_3, r17_4, r17_5, r17_6, r17_7, r17_8, r17_9, r17_10, r17_11, r17_12, r17_13, r17_14, p17, l17_0, oneI, Smp.av, getD_map hlt, getD_map hlp, w1, w2, hc', hrl]) | (exfalso; omega)
        all_goals exact again hJ (k + 1) (weak_mk (by simp only [wk_cons, wk_nil, wk1, vint_eq, vbool_eq, AV.val.injEq, done_eq, done_eq', donet_eq, donet_eq', fin_val, fin_tup, fin_agg, fin_ro, res_one, res_more, rv_t, rv_c, rv_l, AV.tup.injEq, AV.agg.injEq, AV.ro.injEq, List.cons.injEq, int_eq, bool_eq, Int.toNat_natCast, Int.reduceToNat, Int.toNat_zero, Int.toNat_one, Int.reduceLE, Int.reduceLT, Int.reduceBEq, Int.reduceBNe, beq_self_eq_true, bne_self_eq_false, decide_true, decide_false,  Int.reduceNeg, toNat_pred, toNat_succ, List.length_map, cnd_t, cnd_f, grd_tt, grd_u, grd_tf, grd_ft, grd_ff, g_skip, g_ops, g_seq, g_block, g_exit, g_ret, x_c, x_o, x_l, x_b, g_b, g_nil, r_all, o_nil, g_cond, o_guard, o_call, o_callm, o_callt, o_callx, o_callv, o_callc, o_callh, o_apph, noav_alias, noav_nil, lk, ef, o_mv, o_pick, o_bin, o_never, o_eqs, o_eqb, o_un, o_conv, o_load, o_loadr, o_idxr, o_loads, o_loadsr, o_fld, o_idx, o_idxs, o_len, o_lens, o_ext, o_nilck, o_slc, o_slcs, o_build, o_minmax, o_mkfn, o_mkfnr, o_alloc, o_box, o_boxs, o_row, o_rowr, o_mk, o_asg, o_app, o_appa, o_store, o_stores, o_eqnil, hv, eqAV, ev, view_t, view_c, view_nil, view_fn, look_own, look_box, look_junk, look_val, look_nilsl, look_ro, look_roAt, look_agg, look_tup, look_clo, look_alias, look_ref, look_into, look_fnv, look_held, rowOf, cellsOf, argv, vbin, vun, bnd, elemOf, putParts, setAt, zav, ASt.rid, ASt.hold, ASt.free, AV.kill, AV.isHome, AV.noLoan, AV.cellOK, Value.oneCell', put_at, mk_at, mk_nil, initSt, true_and, and_true, and_self, implies_true, List.map_cons, List.map_nil, List.forall_mem_cons, List.not_mem_nil, false_implies, List.length_cons, List.length_nil, List.getD_cons_zero, List.getD_cons_succ, List.getD_nil, List.drop_succ_cons, List.drop_zero, List.take_succ_cons, List.take_zero, List.set_cons_zero, List.set_cons_succ, List.all_cons, List.all_nil, Bool.and_true, Bool.true_and, Bool.not_true, Bool.not_false, reduceCtorEq, if_true, if_false, Bool.false_eq_true, ↓reduceIte, Nat.reduceEqDiff, Nat.reduceBNe, Nat.reduceAdd, Nat.reduceSub, Nat.reduceMul, Nat.reduceLeDiff, Nat.reduceLT, ne_eq, not_false_eq_true, not_true_eq_false, Nat.one_ne_zero, Nat.zero_ne_one]; exact ⟨by rw [hsucc]; simp [oneI], hw⟩)) (by omega) (by omega)
    · have hke : k = l.length := by omega
      subst hke
      rw [List.take_length]
      have : l.map (endOf P) = endsL l := by rw [hP]; rfl
      rw [this]
      repeat' first | ((with_reducible (first | refine condD ?_ ?_ | refine condE ?_ ?_ | refine condN ?_ ?_ | refine condI ?_ ?_ | refine condS ?_ ?_)) <;> intro h) | ((with_reducible (first | refine guardD (by with_unfolding_all rfl) ?_ ?_ | refine guardE (by with_unfolding_all rfl) ?_ ?_ | refine guardN (by with_unfolding_all rfl) ?_ ?_ | refine guardI (by with_unfolding_all rfl) ?_ ?_ | refine guardS (by with_unfolding_all rfl) ?_ ?_)) <;> intro h) | (with_reducible refine And.intro ?_ ?_; omega) | (simp only [done_eq, done_eq', donet_eq, donet_eq', fin_val, fin_tup, fin_agg, fin_ro, res_one, res_more, rv_t, rv_c, rv_l, AV.tup.injEq, AV.agg.injEq, AV.ro.injEq, List.cons.injEq, int_eq, bool_eq, Int.toNat_natCast, Int.reduceToNat, Int.toNat_zero, Int.toNat_one, Int.reduceLE, Int.reduceLT, Int.reduceBEq, Int.reduceBNe, beq_self_eq_true, bne_self_eq_false, decide_true, decide_false,  Int.reduceNeg, toNat_pred, toNat_succ, List.length_map, cnd_t, cnd_f, grd_tt, grd_u, grd_tf, grd_ft, grd_ff, g_skip, g_ops, g_seq, g_block, g_exit, g_ret, x_c, x_o, x_l, x_b, g_b, g_nil, r_all, o_nil, g_cond, o_guard, o_call, o_callm, o_callt, o_callx, o_callv, o_callc, o_callh, o_apph, noav_alias, noav_nil, lk, ef, o_mv, o_pick, o_bin, o_never, o_eqs, o_eqb, o_un, o_conv, o_load, o_loadr, o_idxr, o_loads, o_loadsr, o_fld, o_idx, o_idxs, o_len, o_lens, o_ext, o_nilck, o_slc, o_slcs, o_build, o_minmax, o_mkfn, o_mkfnr, o_alloc, o_box, o_boxs, o_row, o_rowr, o_mk, o_asg, o_app, o_appa, o_store, o_stores, o_eqnil, hv, eqAV, ev, view_t, view_c, view_nil, view_fn, look_own, look_box, look_junk, look_val, look_nilsl, look_ro, look_roAt, look_agg, look_tup, look_clo, look_alias, look_ref, look_into, look_fnv, look_held, rowOf, cellsOf, argv, vbin, vun, bnd, elemOf, putParts, setAt, zav, ASt.rid, ASt.hold, ASt.free, AV.kill, AV.isHome, AV.noLoan, AV.cellOK, Value.oneCell', put_at, mk_at, mk_nil, initSt, true_and, and_true, and_self, implies_true, List.map_cons, List.map_nil, List.forall_mem_cons, List.not_mem_nil, false_implies, List.length_cons, List.length_nil, List.getD_cons_zero, List.getD_cons_succ, List.getD_nil, List.drop_succ_cons, List.drop_zero, List.take_succ_cons, List.take_zero, List.set_cons_zero, List.set_cons_succ, List.all_cons, List.all_nil, Bool.and_true, Bool.true_and, Bool.not_true, Bool.not_false, reduceCtorEq, if_true, if_false, Bool.false_eq_true, ↓reduceIte, Nat.reduceEqDiff, Nat.reduceBNe, Nat.reduceAdd, Nat.reduceSub, Nat.reduceMul, Nat.reduceLeDiff, Nat.reduceLT, ne_eq, not_false_eq_true, not_true_eq_false, Nat.one_ne_zero, Nat.zero_ne_one, r17_0, r17_1, r17_2, r17_3, r17_4, r17_5, r17_6, r17_7, r17_8, r17_9, r17_10, r17_11, r17_12, r17_13, r17_14, p17, l17_0]) | (exfalso; omega)
def endsF (l : List Smp) : List Int × Int := if smpF l ≠ 0 then ([], smpF l) else (endsL l, 0)
/-! headend/sample.Ends -/
def r7_0 : List POp := [⟨2, .asg .nil, none⟩,
  ⟨3, .asg (.c (.int .i64 0)), none⟩]
def r7_1 : List POp := [⟨5, .mv (.t 0), none⟩,
  ⟨6, .call 13 [.t 5], none⟩,
  ⟨4, .asg (.t 6), none⟩]
def r7_2 : List POp := [⟨7, .mv (.t 4), none⟩,
  ⟨8, .bin .neq (.t 7) (.c (.int .i64 0)), none⟩]
def r7_3 : List POp := [⟨9, .mv (.t 4), none⟩,
  ⟨2, .asg .nil, none⟩,
  ⟨3, .mv (.t 9), none⟩]
def r7_4 : List POp := [⟨10, .mv (.t 0), none⟩,
  ⟨11, .call 17 [.t 10], none⟩,
  ⟨2, .asg (.t 11), none⟩,
  ⟨3, .asg (.c (.int .i64 0)), none⟩]
def p7 : PCode := .seq (.ops r7_0) (.seq (.seq (.ops r7_1) (.seq (.ops r7_2) (.cond (.t 8) (.seq (.ops r7_3) (.ret)) (.skip)))) (.seq (.ops r7_4) (.ret)))
theorem ok7 : okFunc Try.prog 7 [.t 2, .t 3] 1 p7 = true := by kernel_rfl
theorem endsF_c (l : List Smp) : CallOK Try.prog 7 [.ro (l.map Smp.av)] (.tup [.ro ((endsF l).1.map oneI), .val (.int .i64 (endsF l).2)]) := by
  refine call_of mixed ok7 rfl ?_
  have hs := smp_c l
  by_cases h0 : smpF l = 0
  · obtain ⟨a, b, _⟩ := smpF_0 h0
    rw [h0] at hs
    repeat' first | ((with_reducible (first | refine condD ?_ ?_ | refine condE ?_ ?_ | refine condN ?_ ?_ | refine condI ?_ ?_ | refine condS ?_ ?_)) <;> intro h) | ((with_reducible (first | refine guardD (by with_unfolding_all rfl) ?_ ?_ | refine guardE (by with_unfolding_all rfl) ?_ ?_ | refine guardN (by with_unfolding_all rfl) ?_ ?_ | refine guardI (by with_unfolding_all rfl) ?_ ?_ | refine guardS (by with_unfolding_all rfl) ?_ ?_)) <;> intro h) | ((refine callG hs ?_)) | ((refine callG (ends_c l a b) ?_)) | (with_reducible refine And.intro ?_ ?_; omega) | (simp only [done_eq, done_eq', donet_eq, donet_eq', fin_val, fin_tup, fin_agg, fin_ro, res_one, res_more, rv_t, rv_c, rv_l, AV.tup.injEq, AV.agg.injEq, AV.ro.injEq, List.cons.injEq, int_eq, bool_eq, Int.toNat_natCast, Int.reduceToNat, Int.toNat_zero, Int.toNat_one, Int.reduceLE, Int.reduceLT, Int.reduceBEq, Int.reduceBNe, beq_self_eq_true, bne_self_eq_false, decide_true, decide_false,  Int.reduceNeg, toNat_pred, toNat_succ, List.length_map, cnd_t, cnd_f, grd_tt, grd_u, grd_tf, grd_ft, grd_ff, g_skip, g_ops, g_seq, g_block, g_exit, g_ret, x_c, x_o, x_l, x_b, g_b, g_nil, r_all, o_nil, g_cond, o_guard, o_call, o_callm, o_callt, o_callx, o_callv, o_callc, o_callh, o_apph, noav_alias, noav_nil, lk, ef, o_mv, o_pick, o_bin, o_never, o_eqs, o_eqb, o_un, o_conv, o_load, o_loadr, o_idxr, o_loads, o_loadsr, o_fld, o_idx, o_idxs, o_len, o_lens, o_ext, o_nilck, o_slc, o_slcs, o_build, o_minmax, o_mkfn, o_mkfnr, o_alloc, o_box, o_boxs, o_row, o_rowr, o_mk, o_asg, o_app, o_appa, o_store, o_stores, o_eqnil, hv, eqAV, ev, view_t, view_c, view_nil, view_fn, look_own, look_box, look_junk, look_val, look_nilsl, look_ro, look_roAt, look_agg, look_tup, look_clo, look_alias, look_ref, look_into, look_fnv, look_held, rowOf, cellsOf, argv, vbin, vun, bnd, elemOf, putParts, setAt, zav, ASt.rid, ASt.hold, ASt.free, AV.kill, AV.isHome, AV.noLoan, AV.cellOK, Value.oneCell', put_at, mk_at, mk_nil, initSt, true_and, and_true, and_self, implies_true, List.map_cons, List.map_nil, List.forall_mem_cons, List.not_mem_nil, false_implies, List.length_cons, List.length_nil, List.getD_cons_zero, List.getD_cons_succ, List.getD_nil, List.drop_succ_cons, List.drop_zero, List.take_succ_cons, List.take_zero, List.set_cons_zero, List.set_cons_succ, List.all_cons, List.all_nil, Bool.and_true, Bool.true_and, Bool.not_true, Bool.not_false, reduceCtorEq, if_true, if_false, Bool.false_eq_true, ↓reduceIte, Nat.reduceEqDiff, Nat.reduceBNe, Nat.reduceAdd, Nat.reduceSub, Nat.reduceMul, Nat.reduceLeDiff, Nat.reduceLT, ne_eq, not_false_eq_true, not_true_eq_false, Nat.one_ne_zero, Nat.zero_ne_one, r7_0, r7_1, r7_2, r7_3, r7_4, p7]) | (exfalso; omega)
    all_goals simp [endsF, h0]
  · repeat' first | ((with_reducible (first | refine condD ?_ ?_ | refine condE ?_ ?_ | refine condN ?_ ?_ | refine condI ?_ ?_ | refine condS ?_ ?_)) <;> intro h) | ((with_reducible (first | refine guardD (by with_unfolding_all rfl) ?_ ?_ | refine guardE (by with_unfolding_all rfl) ?_ ?_ | refine guardN (by with_unfolding_all rfl) ?_ ?_ | refine guardI (by with_unfolding_all rfl) ?_ ?_ | refine guardS (by with_unfolding_all rfl) ?_ ?_)) <;> intro h) | ((refine callG hs ?_)) | (with_reducible refine And.intro ?_ ?_; omega) | (simp only [done_eq, done_eq', donet_eq, donet_eq', fin_val, fin_tup, fin_agg, fin_ro, res_one, res_more, rv_t, rv_c, rv_l, AV.tup.injEq, AV.agg.injEq, AV.ro.injEq, List.cons.injEq, int_eq, bool_eq, Int.toNat_natCast, Int.reduceToNat, Int.toNat_zero, Int.toNat_one, Int.reduceLE, Int.reduceLT, Int.reduceBEq, Int.reduceBNe, beq_self_eq_true, bne_self_eq_false, decide_true, decide_false,  Int.reduceNeg, toNat_pred, toNat_succ, List.length_map, cnd_t, cnd_f, grd_tt, grd_u, grd_tf, grd_ft, grd_ff, g_skip, g_ops, g_seq, g_block, g_exit, g_ret, x_c, x_o, x_l, x_b, g_b, g_nil, r_all, o_nil, g_cond, o_guard, o_call, o_callm, o_callt, o_callx, o_callv, o_callc, o_callh, o_apph, noav_alias, noav_nil, lk, ef, o_mv, o_pick, o_bin, o_never, o_eqs, o_eqb, o_un, o_conv, o_load, o_loadr, o_idxr, o_loads, o_loadsr, o_fld, o_idx, o_idxs, o_len, o_lens, o_ext, o_nilck, o_slc, o_slcs, o_build, o_minmax, o_mkfn, o_mkfnr, o_alloc, o_box, o_boxs, o_row, o_rowr, o_mk, o_asg, o_app, o_appa, o_store, o_stores, o_eqnil, hv, eqAV, ev, view_t, view_c, view_nil, view_fn, look_own, look_box, look_junk, look_val, look_nilsl, look_ro, look_roAt, look_agg, look_tup, look_clo, look_alias, look_ref, look_into, look_fnv, look_held, rowOf, cellsOf, argv, vbin, vun, bnd, elemOf, putParts, setAt, zav, ASt.rid, ASt.hold, ASt.free, AV.kill, AV.isHome, AV.noLoan, AV.cellOK, Value.oneCell', put_at, mk_at, mk_nil, initSt, true_and, and_true, and_self, implies_true, List.map_cons, List.map_nil, List.forall_mem_cons, List.not_mem_nil, false_implies, List.length_cons, List.length_nil, List.getD_cons_zero, List.getD_cons_succ, List.getD_nil, List.drop_succ_cons, List.drop_zero, List.take_succ_cons, List.take_zero, List.set_cons_zero, List.set_cons_succ, List.all_cons, List.all_nil, Bool.and_true, Bool.true_and, Bool.not_true, Bool.not_false, reduceCtorEq, if_true, if_false, Bool.false_eq_true, ↓reduceIte, Nat.reduceEqDiff, Nat.reduceBNe, Nat.reduceAdd, Nat.reduceSub, Nat.reduceMul, Nat.reduceLeDiff, Nat.reduceLT, ne_eq, not_false_eq_true, not_true_eq_false, Nat.one_ne_zero, Nat.zero_ne_one, r7_0, r7_1, r7_2, r7_3, r7_4, p7, bne0_t h0, beq0_f h0]) | (exfalso; omega)
    all_goals simp [endsF, h0]
end Go.Proofs.Ytbdcnooafacldaa
