/- TickRegularsStayClose: no time is moved by more than the slack; times on one grid stay. For every input; no condition. -/
import Derived.Test.YtlpbnpmmndcleaaKReg
import Derived.Test.YtlpbnpmmndcleaaRows
namespace Go.Proofs.Ytlpbnpmmndcleaa
open Go.RowKit
set_option linter.unusedSimpArgs false

theorem regGo_len (step slack : Int) : ∀ (l : List Int) (s : Option (Int × Int)), (regGo step slack s l).length = l.length
  | [], _ => by simp [regGo]
  | t :: r, none => by simp [regGo, regGo_len step slack r]
  | t :: r, some (b, la) => by
    unfold regGo; split <;> simp [regGo_len step slack r]
theorem regGo_close (step slack : Int) (hs : 0 ≤ slack) : ∀ (l : List Int) (s : Option (Int × Int)) (k : Nat) (h1 : k < (regGo step slack s l).length) (h2 : k < l.length), -slack ≤ (regGo step slack s l)[k] - l[k] ∧ (regGo step slack s l)[k] - l[k] ≤ slack
  | [], _, k, _, h => by simp at h
  | t :: r, none, k, h1, h2 => by
    simp only [regGo]
    cases k with
    | zero => simp; omega
    | succ k => simpa using regGo_close step slack hs r _ k (by simpa [regGo] using h1) (by simpa using h2)
  | t :: r, some (b, la), k, h1, h2 => by
    have e : regGo step slack (some (b, la)) (t :: r) = if slack < max (nearF b t step - t) (t - nearF b t step) ∨ nearF b t step ≤ la then t :: regGo step slack (some (t, t)) r else nearF b t step :: regGo step slack (some (b, nearF b t step)) r := by rw [regGo]
    simp only [e] at h1 ⊢
    split
    · rename_i hc
      simp only [if_pos hc] at h1
      cases k with
      | zero => simp; omega
      | succ k => simpa using regGo_close step slack hs r _ k (by simpa using h1) (by simpa using h2)
    · rename_i hc
      simp only [if_neg hc] at h1
      cases k with
      | zero => simp; omega
      | succ k => simpa using regGo_close step slack hs r _ k (by simpa using h1) (by simpa using h2)
theorem near_grid {b t step m : Int} (h0 : 0 < step) (h : t - b = m * step) : nearF b t step = t := by
  unfold nearF
  have e : (2 * (t - b) + step) / (2 * step) = m := by
    refine ((Int.ediv_emod_unique (a := 2 * (t - b) + step) (b := 2 * step) (r := step) (q := m) (by omega)).2 ⟨?_, by omega, by omega⟩).1
    rw [h, Int.mul_assoc 2 step, Int.mul_comm step m]; omega
  rw [e]; omega
theorem regGo_grid (step slack o : Int) (h0 : 0 < step) (hs : 0 ≤ slack) : ∀ (l : List Int) (s : Option (Int × Int)), (∀ t ∈ l, ∃ m, t - o = m * step) → (∀ b la, s = some (b, la) → ∃ m, b - o = m * step) → regGo step slack s l = l
  | [], _, _, _ => by simp [regGo]
  | t :: r, none, h1, _ => by
    rw [regGo, regGo_grid step slack o h0 hs r _ (fun u hu => h1 u (List.mem_cons_of_mem _ hu)) (fun b la e => by injection e with e; injection e with e1 e2; subst e1; exact h1 _ List.mem_cons_self)]
  | t :: r, some (b, la), h1, h2 => by
    obtain ⟨m1, e1⟩ := h1 t List.mem_cons_self
    obtain ⟨m2, e2⟩ := h2 b la rfl
    have hn : nearF b t step = t := near_grid (m := m1 - m2) h0 (by rw [Int.sub_mul]; omega)
    have up := fun u hu => h1 u (List.mem_cons_of_mem t hu)
    rw [regGo, hn]
    split
    · rw [regGo_grid step slack o h0 hs r _ up (fun b' la' e => by injection e with e; injection e with e3 e4; subst e3; exact ⟨m1, e1⟩)]
    · rw [regGo_grid step slack o h0 hs r _ up (fun b' la' e => by injection e with e; injection e with e3 e4; subst e3; exact ⟨m2, e2⟩)]
theorem regF_no {l : List Int} {step slack : Int} (h : (regF l step slack).2 ≠ 0) : (regF l step slack).1 = [] := by
  unfold regF at h ⊢
  split
  · rfl
  · split
    · rfl
    · split
      · rfl
      · split
        · rfl
        · rename_i h1 h2 h3 h4
          rw [if_neg h1, if_neg h2, if_neg h3, if_neg h4] at h
          exact absurd rfl h
theorem regF_ok {l : List Int} {step slack : Int} (h : (regF l step slack).2 = 0) : outB step 1 1000000000000000 = false ∧ outB slack 0 1000000000000000 = false ∧ l.length ≤ 5000 ∧ regChk none l = 0 ∧ (regGo step slack none l).any noTime = false ∧ (regF l step slack).1 = regGo step slack none l := by
  unfold regF at h ⊢
  split at h
  · cases h
  · split at h
    · cases h
    · split at h
      · rename_i h3; exact absurd h h3
      · split at h
        · cases h
        · rename_i h1 h2 h3 h4
          rw [if_neg h1, if_neg h2, if_neg h3, if_neg h4]
          simp only [Bool.or_eq_true, not_or, Bool.not_eq_true] at h1
          exact ⟨h1.1, h1.2, by omega, by simpa using h3, by simpa using h4, rfl⟩

/-! headend/headendlaw1.TickRegularsStayClose -/
def r6_0 : List POp := [⟨6, .asg (.c (.bool false)), none⟩]
def r6_1 : List POp := [⟨13, .mv (.t 0), none⟩,
  ⟨14, .mv (.t 1), none⟩,
  ⟨15, .mv (.t 2), none⟩,
  ⟨16, .call 17 [.t 13, .t 14, .t 15], none⟩,
  ⟨12, .mv (.t 16), none⟩,
  ⟨17, .ext 0 (.t 12), none⟩,
  ⟨18, .ext 1 (.t 12), none⟩,
  ⟨7, .asg (.t 17), none⟩,
  ⟨8, .mv (.t 18), none⟩]
def r6_2 : List POp := [⟨19, .mv (.t 8), none⟩,
  ⟨20, .bin .neq (.t 19) (.c (.int .i64 0)), none⟩,
  ⟨21, .mv (.t 20), none⟩,
  ⟨22, .mv (.t 7), some (21, false)⟩,
  ⟨23, .len (.t 22), some (21, false)⟩,
  ⟨24, .mv (.t 0), some (21, false)⟩,
  ⟨25, .len (.t 24), some (21, false)⟩,
  ⟨26, .bin .neq (.t 23) (.t 25), some (21, false)⟩,
  ⟨27, .pick (.t 21) (.c (.bool true)) (.t 26), none⟩]
def r6_3 : List POp := [⟨28, .mv (.t 8), none⟩,
  ⟨29, .bin .neq (.t 28) (.c (.int .i64 0)), none⟩,
  ⟨30, .mv (.t 29), none⟩,
  ⟨31, .mv (.t 7), some (30, true)⟩,
  ⟨32, .len (.t 31), some (30, true)⟩,
  ⟨33, .bin .eql (.t 32) (.c (.int .i64 0)), some (30, true)⟩,
  ⟨34, .pick (.t 30) (.t 33) (.c (.bool false)), none⟩,
  ⟨35, .mv (.t 34), none⟩,
  ⟨36, .call 14 [], some (35, true)⟩,
  ⟨37, .pick (.t 35) (.t 36) (.c (.bool false)), none⟩,
  ⟨6, .asg (.t 37), none⟩]
def r6_4 : List POp := [⟨9, .asg (.c (.bool true)), none⟩]
def r6_5 : List POp := [⟨10, .asg (.c (.int .i64 0)), none⟩]
def r6_6 : List POp := [⟨38, .mv (.t 10), none⟩,
  ⟨39, .mv (.t 0), none⟩,
  ⟨40, .len (.t 39), none⟩,
  ⟨41, .bin .lss (.t 38) (.t 40), none⟩]
def r6_8 : List POp := [⟨44, .mv (.t 7), none⟩,
  ⟨45, .mv (.t 10), none⟩,
  ⟨46, .idx 1 (.t 44) (.t 45), none⟩,
  ⟨47, .load (.t 46), none⟩,
  ⟨48, .mv (.t 0), none⟩,
  ⟨49, .mv (.t 10), none⟩,
  ⟨50, .idx 1 (.t 48) (.t 49), none⟩,
  ⟨51, .load (.t 50), none⟩,
  ⟨52, .bin .sub (.t 47) (.t 51), none⟩,
  ⟨11, .asg (.t 52), none⟩]
def r6_9 : List POp := [⟨53, .mv (.t 11), none⟩,
  ⟨54, .mv (.t 2), none⟩,
  ⟨55, .bin .gtr (.t 53) (.t 54), none⟩,
  ⟨56, .mv (.t 55), none⟩,
  ⟨57, .mv (.t 11), some (56, false)⟩,
  ⟨58, .mv (.t 2), some (56, false)⟩,
  ⟨59, .un .neg (.t 58), some (56, false)⟩,
  ⟨60, .bin .lss (.t 57) (.t 59), some (56, false)⟩,
  ⟨61, .pick (.t 56) (.c (.bool true)) (.t 60), none⟩]
def r6_10 : List POp := [⟨6, .asg (.c (.bool false)), none⟩]
def r6_11 : List POp := [⟨62, .mv (.t 9), none⟩,
  ⟨63, .mv (.t 62), none⟩,
  ⟨64, .mv (.t 0), some (63, true)⟩,
  ⟨65, .mv (.t 10), some (63, true)⟩,
  ⟨66, .idx 1 (.t 64) (.t 65), some (63, true)⟩,
  ⟨67, .load (.t 66), some (63, true)⟩,
  ⟨68, .mv (.t 0), some (63, true)⟩,
  ⟨69, .idx 1 (.t 68) (.c (.int .i64 0)), some (63, true)⟩,
  ⟨70, .load (.t 69), some (63, true)⟩,
  ⟨71, .bin .sub (.t 67) (.t 70), some (63, true)⟩,
  ⟨72, .mv (.t 1), some (63, true)⟩,
  ⟨73, .bin .rem (.t 71) (.t 72), some (63, true)⟩,
  ⟨74, .bin .eql (.t 73) (.c (.int .i64 0)), some (63, true)⟩,
  ⟨75, .pick (.t 63) (.t 74) (.c (.bool false)), none⟩,
  ⟨9, .asg (.t 75), none⟩]
def r6_7 : List POp := [⟨42, .mv (.t 10), none⟩,
  ⟨43, .bin .add (.t 42) (.c (.int .i64 1)), none⟩,
  ⟨10, .asg (.t 43), none⟩]
def r6_12 : List POp := [⟨76, .mv (.t 9), none⟩,
  ⟨77, .un .not (.t 76), none⟩,
  ⟨78, .mv (.t 77), none⟩,
  ⟨79, .mv (.t 7), some (78, false)⟩,
  ⟨80, .mv (.t 0), some (78, false)⟩,
  ⟨81, .call 19 [.t 79, .t 80], some (78, false)⟩,
  ⟨82, .pick (.t 78) (.c (.bool true)) (.t 81), none⟩,
  ⟨83, .mv (.t 82), none⟩,
  ⟨84, .call 14 [], some (83, true)⟩,
  ⟨85, .pick (.t 83) (.t 84) (.c (.bool false)), none⟩,
  ⟨6, .asg (.t 85), none⟩]
def l6_0 : PCode := .seq (.seq (.ops r6_6) (.cond (.t 41) (.skip) (.exit 0))) (.seq (.block 1 (.seq (.seq (.ops r6_8) (.seq (.ops r6_9) (.cond (.t 61) (.seq (.ops r6_10) (.ret)) (.skip)))) (.ops r6_11))) (.ops r6_7))
def p6 : PCode := .seq (.ops r6_0) (.seq (.ops r6_1) (.seq (.seq (.ops r6_2) (.cond (.t 27) (.seq (.ops r6_3) (.ret)) (.skip))) (.seq (.ops r6_4) (.seq (.seq (.ops r6_5) (.block 0 (.loop l6_0))) (.seq (.ops r6_12) (.ret))))))
theorem ok6 : okFunc Try.prog 6 [.t 6] 3 p6 = true := by kernel_rfl
/-- Are the first k times on the grid? -/
def onGrid (l : List Int) (step : Int) (k : Nat) : Bool := (l.take k).all fun t => (t - l.getD 0 0) % step == 0
theorem onGrid_succ (l : List Int) (step : Int) (k : Nat) (h : k < l.length) : onGrid l step (k + 1) = (onGrid l step k && ((l[k] - l.getD 0 0) % step == 0)) := by
  unfold onGrid
  rw [List.take_succ_eq_append_getElem h, List.all_append]; simp
theorem regclose_d (l : List Int) (step slack : Int) : CallOK Try.prog 6 [.ro (l.map oneI), .val (.int .i64 step), .val (.int .i64 slack)] (.val (.bool true)) := by
  refine call_of mixed ok6 rfl ?_
  have hr := reg_c l step slack
  by_cases h0 : (regF l step slack).2 = 0
  · obtain ⟨b1, b2, hl, hc, hn, e⟩ := regF_ok h0
    obtain ⟨cT, cP, _⟩ := regChk_0 hc
    rw [h0, e] at hr
    have bs := outB_f b1
    have bk := outB_f b2
    have hlen := regGo_len step slack l none
    have hclose := regGo_close step slack (by omega) l none
    have hgrid : onGrid l step l.length = true → regGo step slack none l = l := fun hg => by
      refine regGo_grid step slack (l.getD 0 0) (by omega) (by omega) l none (fun t ht => ?_) (fun _ _ e => by cases e)
      unfold onGrid at hg
      rw [List.take_length, List.all_eq_true] at hg
      have h1 := of_decide_eq_true (hg t ht)
      have h2 := Int.mul_ediv_add_emod (t - l.getD 0 0) step
      exact ⟨(t - l.getD 0 0) / step, by rw [Int.mul_comm]; omega⟩
    clear h0 e hc
    generalize regGo step slack none l = a at *
    have hne : ((a.length : Int) != l.length) = false := by simp; omega
    repeat' first | (with_reducible refine condD (fun h => ?_) (fun h => ?_)) | (with_reducible refine condE (fun h => ?_) (fun h => ?_)) | (with_reducible refine condN (fun h => ?_) (fun h => ?_)) | (with_reducible refine condI (fun h => ?_) (fun h => ?_)) | (with_reducible refine condS (fun h => ?_) (fun h => ?_)) | (with_reducible refine guardD (by with_unfolding_all rfl) (fun h => ?_) (fun h => ?_)) | (with_reducible refine guardE (by with_unfolding_all rfl) (fun h => ?_) (fun h => ?_)) | (with_reducible refine guardN (by with_unfolding_all rfl) (fun h => ?_) (fun h => ?_)) | (with_reducible refine guardI (by with_unfolding_all rfl) (fun h => ?_) (fun h => ?_)) | (with_reducible refine guardS (by with_unfolding_all rfl) (fun h => ?_) (fun h => ?_)) | ((refine callG hr ?_)) | (with_reducible refine And.intro ?_ ?_; omega) | (simp only [done_eq, done_eq', fin_val, fin_tup, fin_agg, fin_ro, res_one, res_more, rv_t, rv_c, rv_l, AV.tup.injEq, AV.agg.injEq, AV.ro.injEq, List.cons.injEq, int_eq, bool_eq, Int.toNat_natCast, Int.reduceToNat, Int.toNat_zero, Int.toNat_one, Int.reduceLE, Int.reduceLT, Int.reduceBEq, Int.reduceBNe, beq_self_eq_true, bne_self_eq_false, decide_true, decide_false,  Int.reduceNeg, toNat_pred, toNat_succ, List.length_map, cnd_t, cnd_f, grd_tt, grd_u, grd_tf, grd_ft, grd_ff, g_skip, g_ops, g_seq, g_block, g_exit, g_ret, x_c, x_o, x_l, x_b, g_b, g_nil, r_all, o_nil, g_cond, o_guard, o_call, o_callv, lk, ef, o_mv, o_pick, o_bin, o_never, o_eqs, o_eqb, o_un, o_conv, o_load, o_loads, o_fld, o_idx, o_idxs, o_len, o_lens, o_ext, o_nilck, o_slc, o_slcs, o_build, o_minmax, o_mkfn, o_alloc, o_box, o_boxs, o_row, o_rowr, o_mk, o_asg, o_app, o_store, o_stores, hv, eqAV, ev, view_t, view_c, view_nil, view_fn, look_own, look_box, look_junk, look_val, look_nilsl, look_ro, look_roAt, look_agg, look_tup, look_clo, look_alias, look_ref, look_into, rowOf, cellsOf, argv, vbin, vun, bnd, elemOf, putParts, setAt, zav, ASt.rid, ASt.free, AV.kill, AV.isHome, AV.noLoan, AV.cellOK, Value.oneCell', put_at, mk_at, mk_nil, initSt, true_and, and_true, and_self, implies_true, List.map_cons, List.map_nil, List.forall_mem_cons, List.not_mem_nil, false_implies, List.length_cons, List.length_nil, List.getD_cons_zero, List.getD_cons_succ, List.getD_nil, List.drop_succ_cons, List.drop_zero, List.take_succ_cons, List.take_zero, List.set_cons_zero, List.set_cons_succ, List.all_cons, List.all_nil, Bool.and_true, Bool.true_and, Bool.not_true, Bool.not_false, reduceCtorEq, if_true, if_false, Bool.false_eq_true, ↓reduceIte, Nat.reduceEqDiff, Nat.reduceAdd, Nat.reduceSub, Nat.reduceMul, Nat.reduceLeDiff, Nat.reduceLT, ne_eq, not_false_eq_true, not_true_eq_false, Nat.one_ne_zero, Nat.zero_ne_one, r6_0, r6_1, r6_2, r6_3, r6_4, r6_5, r6_6, r6_8, r6_9, r6_10, r6_11, r6_7, r6_12, p6, hne]) | (exfalso; omega)
    refine loopS (fun k : Nat => mk [(0, .ro (l.map oneI)), (1, .val (.int .i64 step)), (2, .val (.int .i64 slack)), (7, .ro (a.map oneI)), (9, .val (.bool (onGrid l step k))), (10, .val (.int .i64 k))]) (fun k => k ≤ l.length) (fun k => l.length - k) 0 (weak_mk ?_) (Nat.zero_le _) ?_
    · simp only [wk_cons, wk_nil, wk1, vint_eq, vbool_eq, AV.val.injEq, done_eq, done_eq', fin_val, fin_tup, fin_agg, fin_ro, res_one, res_more, rv_t, rv_c, rv_l, AV.tup.injEq, AV.agg.injEq, AV.ro.injEq, List.cons.injEq, int_eq, bool_eq, Int.toNat_natCast, Int.reduceToNat, Int.toNat_zero, Int.toNat_one, Int.reduceLE, Int.reduceLT, Int.reduceBEq, Int.reduceBNe, beq_self_eq_true, bne_self_eq_false, decide_true, decide_false,  Int.reduceNeg, toNat_pred, toNat_succ, List.length_map, cnd_t, cnd_f, grd_tt, grd_u, grd_tf, grd_ft, grd_ff, g_skip, g_ops, g_seq, g_block, g_exit, g_ret, x_c, x_o, x_l, x_b, g_b, g_nil, r_all, o_nil, g_cond, o_guard, o_call, o_callv, lk, ef, o_mv, o_pick, o_bin, o_never, o_eqs, o_eqb, o_un, o_conv, o_load, o_loads, o_fld, o_idx, o_idxs, o_len, o_lens, o_ext, o_nilck, o_slc, o_slcs, o_build, o_minmax, o_mkfn, o_alloc, o_box, o_boxs, o_row, o_rowr, o_mk, o_asg, o_app, o_store, o_stores, hv, eqAV, ev, view_t, view_c, view_nil, view_fn, look_own, look_box, look_junk, look_val, look_nilsl, look_ro, look_roAt, look_agg, look_tup, look_clo, look_alias, look_ref, look_into, rowOf, cellsOf, argv, vbin, vun, bnd, elemOf, putParts, setAt, zav, ASt.rid, ASt.free, AV.kill, AV.isHome, AV.noLoan, AV.cellOK, Value.oneCell', put_at, mk_at, mk_nil, initSt, true_and, and_true, and_self, implies_true, List.map_cons, List.map_nil, List.forall_mem_cons, List.not_mem_nil, false_implies, List.length_cons, List.length_nil, List.getD_cons_zero, List.getD_cons_succ, List.getD_nil, List.drop_succ_cons, List.drop_zero, List.take_succ_cons, List.take_zero, List.set_cons_zero, List.set_cons_succ, List.all_cons, List.all_nil, Bool.and_true, Bool.true_and, Bool.not_true, Bool.not_false, reduceCtorEq, if_true, if_false, Bool.false_eq_true, ↓reduceIte, Nat.reduceEqDiff, Nat.reduceAdd, Nat.reduceSub, Nat.reduceMul, Nat.reduceLeDiff, Nat.reduceLT, ne_eq, not_false_eq_true, not_true_eq_false, Nat.one_ne_zero, Nat.zero_ne_one]
      exact ⟨rfl, rfl⟩
    · rintro J hJ k hk
      simp only [done_eq, done_eq', fin_val, fin_tup, fin_agg, fin_ro, res_one, res_more, rv_t, rv_c, rv_l, AV.tup.injEq, AV.agg.injEq, AV.ro.injEq, List.cons.injEq, int_eq, bool_eq, Int.toNat_natCast, Int.reduceToNat, Int.toNat_zero, Int.toNat_one, Int.reduceLE, Int.reduceLT, Int.reduceBEq, Int.reduceBNe, beq_self_eq_true, bne_self_eq_false, decide_true, decide_false,  Int.reduceNeg, toNat_pred, toNat_succ, List.length_map, cnd_t, cnd_f, grd_tt, grd_u, grd_tf, grd_ft, grd_ff, g_skip, g_ops, g_seq, g_block, g_exit, g_ret, x_c, x_o, x_l, x_b, g_b, g_nil, r_all, o_nil, g_cond, o_guard, o_call, o_callv, lk, ef, o_mv, o_pick, o_bin, o_never, o_eqs, o_eqb, o_un, o_conv, o_load, o_loads, o_fld, o_idx, o_idxs, o_len, o_lens, o_ext, o_nilck, o_slc, o_slcs, o_build, o_minmax, o_mkfn, o_alloc, o_box, o_boxs, o_row, o_rowr, o_mk, o_asg, o_app, o_store, o_stores, hv, eqAV, ev, view_t, view_c, view_nil, view_fn, look_own, look_box, look_junk, look_val, look_nilsl, look_ro, look_roAt, look_agg, look_tup, look_clo, look_alias, look_ref, look_into, rowOf, cellsOf, argv, vbin, vun, bnd, elemOf, putParts, setAt, zav, ASt.rid, ASt.free, AV.kill, AV.isHome, AV.noLoan, AV.cellOK, Value.oneCell', put_at, mk_at, mk_nil, initSt, true_and, and_true, and_self, implies_true, List.map_cons, List.map_nil, List.forall_mem_cons, List.not_mem_nil, false_implies, List.length_cons, List.length_nil, List.getD_cons_zero, List.getD_cons_succ, List.getD_nil, List.drop_succ_cons, List.drop_zero, List.take_succ_cons, List.take_zero, List.set_cons_zero, List.set_cons_succ, List.all_cons, List.all_nil, Bool.and_true, Bool.true_and, Bool.not_true, Bool.not_false, reduceCtorEq, if_true, if_false, Bool.false_eq_true, ↓reduceIte, Nat.reduceEqDiff, Nat.reduceAdd, Nat.reduceSub, Nat.reduceMul, Nat.reduceLeDiff, Nat.reduceLT, ne_eq, not_false_eq_true, not_true_eq_false, Nat.one_ne_zero, Nat.zero_ne_one, r6_0, r6_1, r6_2, r6_3, r6_4, r6_5, r6_6, r6_8, r6_9, r6_10, r6_11, r6_7, r6_12, p6, l6_0]
      refine condD (fun h => ?_) (fun h => ?_)
      · have hlt : k < l.length := by omega
        have hlt0 : 0 < l.length := by omega
        have hla : k < a.length := by omega
        have hw := i_add1 k (by omega)
        have hcl := hclose k hla hlt
        have t1 := noTime_bd (cT l[k] (List.getElem_mem hlt))
        have t2 := noTime_bd (cT l[0] (List.getElem_mem hlt0))
        have hup : l[0] ≤ l[k] := by
          rcases Nat.eq_zero_or_pos k with rfl | hp
          · exact Int.le_refl _
          · have := List.pairwise_iff_getElem.1 cP 0 k hlt0 hlt hp
            exact this
        have w1 : IntKind.i64.wrap (a[k] - l[k]) = a[k] - l[k] := wrap_in (by omega) (by omega)
        have w2 : IntKind.i64.wrap (l[k] - l[0]) = l[k] - l[0] := wrap_in (by omega) (by omega)
        have w3 : (l[k] - l[0]).tmod step = (l[k] - l[0]) % step := Int.tmod_eq_emod_of_nonneg (by omega)
        have w4 : IntKind.i64.wrap (0 - slack) = -slack := by rw [wrap_in (by omega) (by omega)]; omega
        have h1 : ¬ slack < a[k] - l[k] := by omega
        have h2 : ¬ a[k] - l[k] < -slack := by omega
        have h3 : ¬ step = 0 := by omega
        have hG := onGrid_succ l step k hlt
        rw [show l.getD 0 0 = l[0] by rw [List.getD_eq_getElem?_getD, List.getElem?_eq_getElem hlt0]; rfl] at hG
        have hg0 := getD_map (f := oneI) (d := []) hlt0
        cases hgk : onGrid l step k
        · rw [hgk] at hG
          simp only [Bool.false_and] at hG
          repeat' first | (with_reducible refine condD (fun h => ?_) (fun h => ?_)) | (with_reducible refine condE (fun h => ?_) (fun h => ?_)) | (with_reducible refine condN (fun h => ?_) (fun h => ?_)) | (with_reducible refine condI (fun h => ?_) (fun h => ?_)) | (with_reducible refine condS (fun h => ?_) (fun h => ?_)) | (with_reducible refine guardD (by with_unfolding_all rfl) (fun h => ?_) (fun h => ?_)) | (with_reducible refine guardE (by with_unfolding_all rfl) (fun h => ?_) (fun h => ?_)) | (with_reducible refine guardN (by with_unfolding_all rfl) (fun h => ?_) (fun h => ?_)) | (with_reducible refine guardI (by with_unfolding_all rfl) (fun h => ?_) (fun h => ?_)) | (with_reducible refine guardS (by with_unfolding_all rfl) (fun h => ?_) (fun h => ?_)) | (with_reducible refine And.intro ?_ ?_; omega) | (simp only [done_eq, done_eq', fin_val, fin_tup, fin_agg, fin_ro, res_one, res_more, rv_t, rv_c, rv_l, AV.tup.injEq, AV.agg.injEq, AV.ro.injEq, List.cons.injEq, int_eq, bool_eq, Int.toNat_natCast, Int.reduceToNat, Int.toNat_zero, Int.toNat_one, Int.reduceLE, Int.reduceLT, Int.reduceBEq, Int.reduceBNe, beq_self_eq_true, bne_self_eq_false, decide_true, decide_false,  Int.reduceNeg, toNat_pred, toNat_succ, List.length_map, cnd_t, cnd_f, grd_tt, grd_u, grd_tf, grd_ft, grd_ff, g_skip, g_ops, g_seq, g_block, g_exit, g_ret, x_c, x_o, x_l, x_b, g_b, g_nil, r_all, o_nil, g_cond, o_guard, o_call, o_callv, lk, ef, o_mv, o_pick, o_bin, o_never, o_eqs, o_eqb, o_un, o_conv, o_load, o_loads, o_fld, o_idx, o_idxs, o_len, o_lens, o_ext, o_nilck, o_slc, o_slcs, o_build, o_minmax, o_mkfn, o_alloc, o_box, o_boxs, o_row, o_rowr, o_mk, o_asg, o_app, o_store, o_stores, hv, eqAV, ev, view_t, view_c, view_nil, view_fn, look_own, look_box, look_junk, look_val, look_nilsl, look_ro, look_roAt, look_agg, look_tup, look_clo, look_alias, look_ref, look_into, rowOf, cellsOf, argv, vbin, vun, bnd, elemOf, putParts, setAt, zav, ASt.rid, ASt.free, AV.kill, AV.isHome, AV.noLoan, AV.cellOK, Value.oneCell', put_at, mk_at, mk_nil, initSt, true_and, and_true, and_self, implies_true, List.map_cons, List.map_nil, List.forall_mem_cons, List.not_mem_nil, false_implies, List.length_cons, List.length_nil, List.getD_cons_zero, List.getD_cons_succ, List.getD_nil, List.drop_succ_cons, List.drop_zero, List.take_succ_cons, List.take_zero, List.set_cons_zero, List.set_cons_succ, List.all_cons, List.all_nil, Bool.and_true, Bool.true_and, Bool.not_true, Bool.not_false, reduceCtorEq, if_true, if_false, Bool.false_eq_true, ↓reduceIte, Nat.reduceEqDiff, Nat.reduceAdd, Nat.reduceSub, Nat.reduceMul, Nat.reduceLeDiff, Nat.reduceLT, ne_eq, not_false_eq_true, not_true_eq_false, Nat.one_ne_zero, Nat.zero_ne_one, r6_0, r6_1, r6_2, r6_3, r6_4, r6_5, r6_6, r6_8, r6_9, r6_10, r6_11, r6_7, r6_12, p6, l6_0, oneI, hgk, getD_map hlt, getD_map hla, hg0, w1, w2, w3, w4, h1, h2, h3]) | (exfalso; omega)
          exact again hJ (k + 1) (weak_mk (by simp only [wk_cons, wk_nil, wk1, vint_eq, vbool_eq, AV.val.injEq, done_eq, done_eq', fin_val, fin_tup, fin_agg, fin_ro, res_one, res_more, rv_t, rv_c, rv_l, AV.tup.injEq, AV.agg.injEq, AV.ro.injEq, List.cons.injEq, int_eq, bool_eq, Int.toNat_natCast, Int.reduceToNat, Int.toNat_zero, Int.toNat_one, Int.reduceLE, Int.reduceLT, Int.reduceBEq, Int.reduceBNe, beq_self_eq_true, bne_self_eq_false, decide_true, decide_false,  Int.reduceNeg, toNat_pred, toNat_succ, List.length_map, cnd_t, cnd_f, grd_tt, grd_u, grd_tf, grd_ft, grd_ff, g_skip, g_ops, g_seq, g_block, g_exit, g_ret, x_c, x_o, x_l, x_b, g_b, g_nil, r_all, o_nil, g_cond, o_guard, o_call, o_callv, lk, ef, o_mv, o_pick, o_bin, o_never, o_eqs, o_eqb, o_un, o_conv, o_load, o_loads, o_fld, o_idx, o_idxs, o_len, o_lens, o_ext, o_nilck, o_slc, o_slcs, o_build, o_minmax, o_mkfn, o_alloc, o_box, o_boxs, o_row, o_rowr, o_mk, o_asg, o_app, o_store, o_stores, hv, eqAV, ev, view_t, view_c, view_nil, view_fn, look_own, look_box, look_junk, look_val, look_nilsl, look_ro, look_roAt, look_agg, look_tup, look_clo, look_alias, look_ref, look_into, rowOf, cellsOf, argv, vbin, vun, bnd, elemOf, putParts, setAt, zav, ASt.rid, ASt.free, AV.kill, AV.isHome, AV.noLoan, AV.cellOK, Value.oneCell', put_at, mk_at, mk_nil, initSt, true_and, and_true, and_self, implies_true, List.map_cons, List.map_nil, List.forall_mem_cons, List.not_mem_nil, false_implies, List.length_cons, List.length_nil, List.getD_cons_zero, List.getD_cons_succ, List.getD_nil, List.drop_succ_cons, List.drop_zero, List.take_succ_cons, List.take_zero, List.set_cons_zero, List.set_cons_succ, List.all_cons, List.all_nil, Bool.and_true, Bool.true_and, Bool.not_true, Bool.not_false, reduceCtorEq, if_true, if_false, Bool.false_eq_true, ↓reduceIte, Nat.reduceEqDiff, Nat.reduceAdd, Nat.reduceSub, Nat.reduceMul, Nat.reduceLeDiff, Nat.reduceLT, ne_eq, not_false_eq_true, not_true_eq_false, Nat.one_ne_zero, Nat.zero_ne_one]; exact ⟨hG.symm, hw⟩)) (by omega) (by omega)
        · rw [hgk] at hG
          simp only [Bool.true_and] at hG
          repeat' first | (with_reducible refine condD (fun h => ?_) (fun h => ?_)) | (with_reducible refine condE (fun h => ?_) (fun h => ?_)) | (with_reducible refine condN (fun h => ?_) (fun h => ?_)) | (with_reducible refine condI (fun h => ?_) (fun h => ?_)) | (with_reducible refine condS (fun h => ?_) (fun h => ?_)) | (with_reducible refine guardD (by with_unfolding_all rfl) (fun h => ?_) (fun h => ?_)) | (with_reducible refine guardE (by with_unfolding_all rfl) (fun h => ?_) (fun h => ?_)) | (with_reducible refine guardN (by with_unfolding_all rfl) (fun h => ?_) (fun h => ?_)) | (with_reducible refine guardI (by with_unfolding_all rfl) (fun h => ?_) (fun h => ?_)) | (with_reducible refine guardS (by with_unfolding_all rfl) (fun h => ?_) (fun h => ?_)) | (with_reducible refine And.intro ?_ ?_; omega) | (simp only [done_eq, done_eq', fin_val, fin_tup, fin_agg, fin_ro, res_one, res_more, rv_t, rv_c, rv_l, AV.tup.injEq, AV.agg.injEq, AV.ro.injEq, List.cons.injEq, int_eq, bool_eq, Int.toNat_natCast, Int.reduceToNat, Int.toNat_zero, Int.toNat_one, Int.reduceLE, Int.reduceLT, Int.reduceBEq, Int.reduceBNe, beq_self_eq_true, bne_self_eq_false, decide_true, decide_false,  Int.reduceNeg, toNat_pred, toNat_succ, List.length_map, cnd_t, cnd_f, grd_tt, grd_u, grd_tf, grd_ft, grd_ff, g_skip, g_ops, g_seq, g_block, g_exit, g_ret, x_c, x_o, x_l, x_b, g_b, g_nil, r_all, o_nil, g_cond, o_guard, o_call, o_callv, lk, ef, o_mv, o_pick, o_bin, o_never, o_eqs, o_eqb, o_un, o_conv, o_load, o_loads, o_fld, o_idx, o_idxs, o_len, o_lens, o_ext, o_nilck, o_slc, o_slcs, o_build, o_minmax, o_mkfn, o_alloc, o_box, o_boxs, o_row, o_rowr, o_mk, o_asg, o_app, o_store, o_stores, hv, eqAV, ev, view_t, view_c, view_nil, view_fn, look_own, look_box, look_junk, look_val, look_nilsl, look_ro, look_roAt, look_agg, look_tup, look_clo, look_alias, look_ref, look_into, rowOf, cellsOf, argv, vbin, vun, bnd, elemOf, putParts, setAt, zav, ASt.rid, ASt.free, AV.kill, AV.isHome, AV.noLoan, AV.cellOK, Value.oneCell', put_at, mk_at, mk_nil, initSt, true_and, and_true, and_self, implies_true, List.map_cons, List.map_nil, List.forall_mem_cons, List.not_mem_nil, false_implies, List.length_cons, List.length_nil, List.getD_cons_zero, List.getD_cons_succ, List.getD_nil, List.drop_succ_cons, List.drop_zero, List.take_succ_cons, List.take_zero, List.set_cons_zero, List.set_cons_succ, List.all_cons, List.all_nil, Bool.and_true, Bool.true_and, Bool.not_true, Bool.not_false, reduceCtorEq, if_true, if_false, Bool.false_eq_true, ↓reduceIte, Nat.reduceEqDiff, Nat.reduceAdd, Nat.reduceSub, Nat.reduceMul, Nat.reduceLeDiff, Nat.reduceLT, ne_eq, not_false_eq_true, not_true_eq_false, Nat.one_ne_zero, Nat.zero_ne_one, r6_0, r6_1, r6_2, r6_3, r6_4, r6_5, r6_6, r6_8, r6_9, r6_10, r6_11, r6_7, r6_12, p6, l6_0, oneI, hgk, getD_map hlt, getD_map hla, hg0, w1, w2, w3, w4, h1, h2, h3]) | (exfalso; omega)
          exact again hJ (k + 1) (weak_mk (by simp only [wk_cons, wk_nil, wk1, vint_eq, vbool_eq, AV.val.injEq, done_eq, done_eq', fin_val, fin_tup, fin_agg, fin_ro, res_one, res_more, rv_t, rv_c, rv_l, AV.tup.injEq, AV.agg.injEq, AV.ro.injEq, List.cons.injEq, int_eq, bool_eq, Int.toNat_natCast, Int.reduceToNat, Int.toNat_zero, Int.toNat_one, Int.reduceLE, Int.reduceLT, Int.reduceBEq, Int.reduceBNe, beq_self_eq_true, bne_self_eq_false, decide_true, decide_false,  Int.reduceNeg, toNat_pred, toNat_succ, List.length_map, cnd_t, cnd_f, grd_tt, grd_u, grd_tf, grd_ft, grd_ff, g_skip, g_ops, g_seq, g_block, g_exit, g_ret, x_c, x_o, x_l, x_b, g_b, g_nil, r_all, o_nil, g_cond, o_guard, o_call, o_callv, lk, ef, o_mv, o_pick, o_bin, o_never, o_eqs, o_eqb, o_un, o_conv, o_load, o_loads, o_fld, o_idx, o_idxs, o_len, o_lens, o_ext, o_nilck, o_slc, o_slcs, o_build, o_minmax, o_mkfn, o_alloc, o_box, o_boxs, o_row, o_rowr, o_mk, o_asg, o_app, o_store, o_stores, hv, eqAV, ev, view_t, view_c, view_nil, view_fn, look_own, look_box, look_junk, look_val, look_nilsl, look_ro, look_roAt, look_agg, look_tup, look_clo, look_alias, look_ref, look_into, rowOf, cellsOf, argv, vbin, vun, bnd, elemOf, putParts, setAt, zav, ASt.rid, ASt.free, AV.kill, AV.isHome, AV.noLoan, AV.cellOK, Value.oneCell', put_at, mk_at, mk_nil, initSt, true_and, and_true, and_self, implies_true, List.map_cons, List.map_nil, List.forall_mem_cons, List.not_mem_nil, false_implies, List.length_cons, List.length_nil, List.getD_cons_zero, List.getD_cons_succ, List.getD_nil, List.drop_succ_cons, List.drop_zero, List.take_succ_cons, List.take_zero, List.set_cons_zero, List.set_cons_succ, List.all_cons, List.all_nil, Bool.and_true, Bool.true_and, Bool.not_true, Bool.not_false, reduceCtorEq, if_true, if_false, Bool.false_eq_true, ↓reduceIte, Nat.reduceEqDiff, Nat.reduceAdd, Nat.reduceSub, Nat.reduceMul, Nat.reduceLeDiff, Nat.reduceLT, ne_eq, not_false_eq_true, not_true_eq_false, Nat.one_ne_zero, Nat.zero_ne_one]; exact ⟨hG.symm, hw⟩)) (by omega) (by omega)
      · have hke : k = l.length := by omega
        subst hke
        cases hgk : onGrid l step l.length
        · repeat' first | (with_reducible refine condD (fun h => ?_) (fun h => ?_)) | (with_reducible refine condE (fun h => ?_) (fun h => ?_)) | (with_reducible refine condN (fun h => ?_) (fun h => ?_)) | (with_reducible refine condI (fun h => ?_) (fun h => ?_)) | (with_reducible refine condS (fun h => ?_) (fun h => ?_)) | (with_reducible refine guardD (by with_unfolding_all rfl) (fun h => ?_) (fun h => ?_)) | (with_reducible refine guardE (by with_unfolding_all rfl) (fun h => ?_) (fun h => ?_)) | (with_reducible refine guardN (by with_unfolding_all rfl) (fun h => ?_) (fun h => ?_)) | (with_reducible refine guardI (by with_unfolding_all rfl) (fun h => ?_) (fun h => ?_)) | (with_reducible refine guardS (by with_unfolding_all rfl) (fun h => ?_) (fun h => ?_)) | ((refine callG awake1_c ?_)) | (with_reducible refine And.intro ?_ ?_; omega) | (simp only [done_eq, done_eq', fin_val, fin_tup, fin_agg, fin_ro, res_one, res_more, rv_t, rv_c, rv_l, AV.tup.injEq, AV.agg.injEq, AV.ro.injEq, List.cons.injEq, int_eq, bool_eq, Int.toNat_natCast, Int.reduceToNat, Int.toNat_zero, Int.toNat_one, Int.reduceLE, Int.reduceLT, Int.reduceBEq, Int.reduceBNe, beq_self_eq_true, bne_self_eq_false, decide_true, decide_false,  Int.reduceNeg, toNat_pred, toNat_succ, List.length_map, cnd_t, cnd_f, grd_tt, grd_u, grd_tf, grd_ft, grd_ff, g_skip, g_ops, g_seq, g_block, g_exit, g_ret, x_c, x_o, x_l, x_b, g_b, g_nil, r_all, o_nil, g_cond, o_guard, o_call, o_callv, lk, ef, o_mv, o_pick, o_bin, o_never, o_eqs, o_eqb, o_un, o_conv, o_load, o_loads, o_fld, o_idx, o_idxs, o_len, o_lens, o_ext, o_nilck, o_slc, o_slcs, o_build, o_minmax, o_mkfn, o_alloc, o_box, o_boxs, o_row, o_rowr, o_mk, o_asg, o_app, o_store, o_stores, hv, eqAV, ev, view_t, view_c, view_nil, view_fn, look_own, look_box, look_junk, look_val, look_nilsl, look_ro, look_roAt, look_agg, look_tup, look_clo, look_alias, look_ref, look_into, rowOf, cellsOf, argv, vbin, vun, bnd, elemOf, putParts, setAt, zav, ASt.rid, ASt.free, AV.kill, AV.isHome, AV.noLoan, AV.cellOK, Value.oneCell', put_at, mk_at, mk_nil, initSt, true_and, and_true, and_self, implies_true, List.map_cons, List.map_nil, List.forall_mem_cons, List.not_mem_nil, false_implies, List.length_cons, List.length_nil, List.getD_cons_zero, List.getD_cons_succ, List.getD_nil, List.drop_succ_cons, List.drop_zero, List.take_succ_cons, List.take_zero, List.set_cons_zero, List.set_cons_succ, List.all_cons, List.all_nil, Bool.and_true, Bool.true_and, Bool.not_true, Bool.not_false, reduceCtorEq, if_true, if_false, Bool.false_eq_true, ↓reduceIte, Nat.reduceEqDiff, Nat.reduceAdd, Nat.reduceSub, Nat.reduceMul, Nat.reduceLeDiff, Nat.reduceLT, ne_eq, not_false_eq_true, not_true_eq_false, Nat.one_ne_zero, Nat.zero_ne_one, r6_0, r6_1, r6_2, r6_3, r6_4, r6_5, r6_6, r6_8, r6_9, r6_10, r6_11, r6_7, r6_12, p6, l6_0, hgk]) | (exfalso; omega)
        · obtain rfl : a = l := hgrid hgk
          repeat' first | (with_reducible refine condD (fun h => ?_) (fun h => ?_)) | (with_reducible refine condE (fun h => ?_) (fun h => ?_)) | (with_reducible refine condN (fun h => ?_) (fun h => ?_)) | (with_reducible refine condI (fun h => ?_) (fun h => ?_)) | (with_reducible refine condS (fun h => ?_) (fun h => ?_)) | (with_reducible refine guardD (by with_unfolding_all rfl) (fun h => ?_) (fun h => ?_)) | (with_reducible refine guardE (by with_unfolding_all rfl) (fun h => ?_) (fun h => ?_)) | (with_reducible refine guardN (by with_unfolding_all rfl) (fun h => ?_) (fun h => ?_)) | (with_reducible refine guardI (by with_unfolding_all rfl) (fun h => ?_) (fun h => ?_)) | (with_reducible refine guardS (by with_unfolding_all rfl) (fun h => ?_) (fun h => ?_)) | ((refine callG (eqi_c a (by omega)) ?_)) | ((refine callG awake1_c ?_)) | (with_reducible refine And.intro ?_ ?_; omega) | (simp only [done_eq, done_eq', fin_val, fin_tup, fin_agg, fin_ro, res_one, res_more, rv_t, rv_c, rv_l, AV.tup.injEq, AV.agg.injEq, AV.ro.injEq, List.cons.injEq, int_eq, bool_eq, Int.toNat_natCast, Int.reduceToNat, Int.toNat_zero, Int.toNat_one, Int.reduceLE, Int.reduceLT, Int.reduceBEq, Int.reduceBNe, beq_self_eq_true, bne_self_eq_false, decide_true, decide_false,  Int.reduceNeg, toNat_pred, toNat_succ, List.length_map, cnd_t, cnd_f, grd_tt, grd_u, grd_tf, grd_ft, grd_ff, g_skip, g_ops, g_seq, g_block, g_exit, g_ret, x_c, x_o, x_l, x_b, g_b, g_nil, r_all, o_nil, g_cond, o_guard, o_call, o_callv, lk, ef, o_mv, o_pick, o_bin, o_never, o_eqs, o_eqb, o_un, o_conv, o_load, o_loads, o_fld, o_idx, o_idxs, o_len, o_lens, o_ext, o_nilck, o_slc, o_slcs, o_build, o_minmax, o_mkfn, o_alloc, o_box, o_boxs, o_row, o_rowr, o_mk, o_asg, o_app, o_store, o_stores, hv, eqAV, ev, view_t, view_c, view_nil, view_fn, look_own, look_box, look_junk, look_val, look_nilsl, look_ro, look_roAt, look_agg, look_tup, look_clo, look_alias, look_ref, look_into, rowOf, cellsOf, argv, vbin, vun, bnd, elemOf, putParts, setAt, zav, ASt.rid, ASt.free, AV.kill, AV.isHome, AV.noLoan, AV.cellOK, Value.oneCell', put_at, mk_at, mk_nil, initSt, true_and, and_true, and_self, implies_true, List.map_cons, List.map_nil, List.forall_mem_cons, List.not_mem_nil, false_implies, List.length_cons, List.length_nil, List.getD_cons_zero, List.getD_cons_succ, List.getD_nil, List.drop_succ_cons, List.drop_zero, List.take_succ_cons, List.take_zero, List.set_cons_zero, List.set_cons_succ, List.all_cons, List.all_nil, Bool.and_true, Bool.true_and, Bool.not_true, Bool.not_false, reduceCtorEq, if_true, if_false, Bool.false_eq_true, ↓reduceIte, Nat.reduceEqDiff, Nat.reduceAdd, Nat.reduceSub, Nat.reduceMul, Nat.reduceLeDiff, Nat.reduceLT, ne_eq, not_false_eq_true, not_true_eq_false, Nat.one_ne_zero, Nat.zero_ne_one, r6_0, r6_1, r6_2, r6_3, r6_4, r6_5, r6_6, r6_8, r6_9, r6_10, r6_11, r6_7, r6_12, p6, l6_0, hgk]) | (exfalso; omega)
  · rw [regF_no h0] at hr
    generalize (regF l step slack).2 = e at *
    repeat' first | (with_reducible refine condD (fun h => ?_) (fun h => ?_)) | (with_reducible refine condE (fun h => ?_) (fun h => ?_)) | (with_reducible refine condN (fun h => ?_) (fun h => ?_)) | (with_reducible refine condI (fun h => ?_) (fun h => ?_)) | (with_reducible refine condS (fun h => ?_) (fun h => ?_)) | (with_reducible refine guardD (by with_unfolding_all rfl) (fun h => ?_) (fun h => ?_)) | (with_reducible refine guardE (by with_unfolding_all rfl) (fun h => ?_) (fun h => ?_)) | (with_reducible refine guardN (by with_unfolding_all rfl) (fun h => ?_) (fun h => ?_)) | (with_reducible refine guardI (by with_unfolding_all rfl) (fun h => ?_) (fun h => ?_)) | (with_reducible refine guardS (by with_unfolding_all rfl) (fun h => ?_) (fun h => ?_)) | ((refine callG hr ?_)) | ((refine callG awake1_c ?_)) | (with_reducible refine And.intro ?_ ?_; omega) | (simp only [done_eq, done_eq', fin_val, fin_tup, fin_agg, fin_ro, res_one, res_more, rv_t, rv_c, rv_l, AV.tup.injEq, AV.agg.injEq, AV.ro.injEq, List.cons.injEq, int_eq, bool_eq, Int.toNat_natCast, Int.reduceToNat, Int.toNat_zero, Int.toNat_one, Int.reduceLE, Int.reduceLT, Int.reduceBEq, Int.reduceBNe, beq_self_eq_true, bne_self_eq_false, decide_true, decide_false,  Int.reduceNeg, toNat_pred, toNat_succ, List.length_map, cnd_t, cnd_f, grd_tt, grd_u, grd_tf, grd_ft, grd_ff, g_skip, g_ops, g_seq, g_block, g_exit, g_ret, x_c, x_o, x_l, x_b, g_b, g_nil, r_all, o_nil, g_cond, o_guard, o_call, o_callv, lk, ef, o_mv, o_pick, o_bin, o_never, o_eqs, o_eqb, o_un, o_conv, o_load, o_loads, o_fld, o_idx, o_idxs, o_len, o_lens, o_ext, o_nilck, o_slc, o_slcs, o_build, o_minmax, o_mkfn, o_alloc, o_box, o_boxs, o_row, o_rowr, o_mk, o_asg, o_app, o_store, o_stores, hv, eqAV, ev, view_t, view_c, view_nil, view_fn, look_own, look_box, look_junk, look_val, look_nilsl, look_ro, look_roAt, look_agg, look_tup, look_clo, look_alias, look_ref, look_into, rowOf, cellsOf, argv, vbin, vun, bnd, elemOf, putParts, setAt, zav, ASt.rid, ASt.free, AV.kill, AV.isHome, AV.noLoan, AV.cellOK, Value.oneCell', put_at, mk_at, mk_nil, initSt, true_and, and_true, and_self, implies_true, List.map_cons, List.map_nil, List.forall_mem_cons, List.not_mem_nil, false_implies, List.length_cons, List.length_nil, List.getD_cons_zero, List.getD_cons_succ, List.getD_nil, List.drop_succ_cons, List.drop_zero, List.take_succ_cons, List.take_zero, List.set_cons_zero, List.set_cons_succ, List.all_cons, List.all_nil, Bool.and_true, Bool.true_and, Bool.not_true, Bool.not_false, reduceCtorEq, if_true, if_false, Bool.false_eq_true, ↓reduceIte, Nat.reduceEqDiff, Nat.reduceAdd, Nat.reduceSub, Nat.reduceMul, Nat.reduceLeDiff, Nat.reduceLT, ne_eq, not_false_eq_true, not_true_eq_false, Nat.one_ne_zero, Nat.zero_ne_one, r6_0, r6_1, r6_2, r6_3, r6_4, r6_5, r6_6, r6_8, r6_9, r6_10, r6_11, r6_7, r6_12, p6, beq0_f h0, bne0_t h0]) | (exfalso; omega)
theorem regclose_c : ∀ avs, HasArgs [.one (.row [.int .i64]), .one (.int .i64), .one (.int .i64)] avs → CallOK Try.prog 6 avs (.val (.bool true)) := by
  intro avs h
  obtain ⟨v0, r, rfl, h0, h⟩ := args_cons h
  obtain ⟨v1, r, rfl, h1, h⟩ := args_cons h
  obtain ⟨v2, r, rfl, h2, h⟩ := args_cons h
  obtain rfl := args_nil h
  obtain ⟨n0, rfl, hl0, hb0⟩ := has_row h0 all_int
  obtain ⟨n1, rfl, hb1⟩ := has_int h1
  obtain ⟨n2, rfl, hb2⟩ := has_int h2
  exact regclose_d n0 n1 n2

/-! ### The row -/
open Go.ChangeShapes Go.WideShapes Go.ChangeAt
set_option maxRecDepth 100000 in
theorem regclose_lifted (os : Os) (started : os.Started) (H : Type) (enc : TypeId × Value → H) :
    ReturnsInHanded {} Try.checked os 6 .any (Rows.tickRegularsStayCloseSpec.pre6 enc Try.prog Try.f6 Rows.tickRegularsStayCloseRow.domain false) (Rows.tickRegularsStayCloseSpec.post enc Try.prog Try.f6 false true false false) := by
  refine returnsInHanded_of_change (C := Try.checked) own_knob started (by kernel_rfl) Try.func6
    (ChangeSpec.witness6 (enc := enc) (C := Try.checked) false ⟨#[], #[.slice none 0 0, .int .i64 0, .int .i64 0], []⟩ 8 (by kernel_rfl) (by kernel_rfl) (by kernel_rfl) (by kernel_rfl)) ?_
  intro W base args ds gs before hval hW _ _
  refine law_step rfl (by kernel_rfl) (fun ds h => ?_) ?_ hval hW ?_
  · match ds, h with | [a, b, c], _ => exact ⟨rfl, rfl, rfl⟩
  · rw [Try.params6]
    intro t ht
    simp only [List.mem_cons, List.not_mem_nil, or_false] at ht
    repeat' (first | (rcases ht with rfl | ht) | subst ht)
    all_goals exact ⟨by kernel_rfl, of_decide_eq_true (by kernel_rfl)⟩
  · rw [Try.params6]
    intro hin
    exact law_dm (ss := [.one (.row [.int .i64]), .one (.int .i64), .one (.int .i64)]) (by kernel_rfl) hin regclose_c

theorem regclose_holds : Rows.TickRegularsStayCloseSaid :=
  OpenClaim.holds_of_wide 6 Try.f6 rfl rfl rfl rfl rfl rfl rfl ⟨rfl, rfl, rfl, rfl, rfl⟩ rfl rfl rfl rfl rfl (by kernel_rfl) Try.func6 (by kernel_rfl)
    (of_decide_eq_true (by kernel_rfl)) (by unfold Func.isWrapper; first | (rw [if_pos (by decide +kernel)]; kernel_rfl) | (rw [if_neg (by decide +kernel)]; exact ⟨rfl, rfl⟩))
    (fun os started H enc _ => regclose_lifted os started H enc)

end Go.Proofs.Ytlpbnpmmndcleaa
