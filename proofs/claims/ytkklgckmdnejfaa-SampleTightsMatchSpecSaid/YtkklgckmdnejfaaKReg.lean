/- Regular times: tick.Regular and the reference's, by the machine on data. -/
import Derived.Test.YtkklgckmdnejfaaKTick
import Derived.Test.YtkklgckmdnejfaaKSlc
namespace Go.Proofs.Ytkklgckmdnejfaa
open Go.RowKit
set_option linter.unusedSimpArgs false

/-- Where a time comes on the grid. -/
def nearF (b t step : Int) : Int := b + (2 * (t - b) + step) / (2 * step) * step
def regGo (step slack : Int) : Option (Int × Int) → List Int → List Int
  | _, [] => []
  | none, t :: r => t :: regGo step slack (some (t, t)) r
  | some (b, la), t :: r => if slack < max (nearF b t step - t) (t - nearF b t step) ∨ nearF b t step ≤ la then t :: regGo step slack (some (t, t)) r else nearF b t step :: regGo step slack (some (b, nearF b t step)) r
def regChk : Option Int → List Int → Int
  | _, [] => 0
  | p, t :: r => if noTime t then 1 else if p.any fun q => decide (t < q) then 8 else regChk (some t) r
def regF (l : List Int) (step slack : Int) : List Int × Int := if outB step 1 1000000000000000 || outB slack 0 1000000000000000 then ([], 1) else if 5000 < l.length then ([], 2) else if regChk none l ≠ 0 then ([], regChk none l) else if (regGo step slack none l).any noTime then ([], 1) else (regGo step slack none l, 0)

theorem near_in {b t step : Int} (h0 : 0 < step) (h : b ≤ t) : -step ≤ 2 * (nearF b t step - t) ∧ 2 * (nearF b t step - t) ≤ step ∧ 0 ≤ (2 * (t - b) + step) / (2 * step) ∧ (2 * (t - b) + step) / (2 * step) ≤ 2 * (t - b) + step := by
  have h1 := Int.mul_ediv_add_emod (2 * (t - b) + step) (2 * step)
  have h2 := Int.emod_nonneg (2 * (t - b) + step) (show 2 * step ≠ 0 by omega)
  have h3 := Int.emod_lt_of_pos (2 * (t - b) + step) (show 0 < 2 * step by omega)
  have h4 : 0 ≤ (2 * (t - b) + step) / (2 * step) := Int.ediv_nonneg (by omega) (by omega)
  have h5 : (2 * (t - b) + step) / (2 * step) ≤ 2 * (t - b) + step := Int.ediv_le_self _ (by omega)
  unfold nearF
  have e : 2 * step * ((2 * (t - b) + step) / (2 * step)) = 2 * ((2 * (t - b) + step) / (2 * step) * step) := by
    rw [Int.mul_assoc, Int.mul_comm step]
  rw [e] at h1
  generalize (2 * (t - b) + step) / (2 * step) = q at *
  generalize q * step = Q at *
  omega
/-- The reference's way to it. -/
theorem near_ref {b t step : Int} (h0 : 0 < step) : nearF b t step = if step ≤ 2 * (t - (b + (t - b) / step * step)) then b + (t - b) / step * step + step else b + (t - b) / step * step := by
  have h1 := Int.mul_ediv_add_emod (t - b) step
  have h2 := Int.emod_nonneg (t - b) (show step ≠ 0 by omega)
  have h3 := Int.emod_lt_of_pos (t - b) h0
  unfold nearF
  have key : ∀ q r, r + 2 * step * q = 2 * (t - b) + step → 0 ≤ r → r < 2 * step → (2 * (t - b) + step) / (2 * step) = q := fun q r e1 e2 e3 => ((Int.ediv_emod_unique (a := 2 * (t - b) + step) (b := 2 * step) (r := r) (q := q) (by omega)).2 ⟨e1, e2, e3⟩).1
  have hc : (t - b) / step * step = step * ((t - b) / step) := Int.mul_comm _ _
  split
  · rename_i hs
    rw [key ((t - b) / step + 1) (2 * ((t - b) % step) + step - 2 * step) (by rw [Int.mul_add, Int.mul_assoc]; omega) (by omega) (by omega), Int.add_mul]; omega
  · rename_i hs
    rw [key ((t - b) / step) (2 * ((t - b) % step) + step) (by rw [Int.mul_assoc]; omega) (by omega) (by omega)]
theorem regChk_0 : ∀ {l : List Int} {p : Option Int}, regChk p l = 0 → (∀ t ∈ l, noTime t = false) ∧ l.Pairwise (· ≤ ·) ∧ ∀ q, p = some q → ∀ t ∈ l, q ≤ t
  | [], _, _ => ⟨by simp, List.Pairwise.nil, by simp⟩
  | x :: r, p, h => by
    unfold regChk at h
    split at h
    · cases h
    · rename_i h1
      split at h
      · cases h
      · rename_i h2
        obtain ⟨a, b, c⟩ := regChk_0 h
        have c' := c x rfl
        refine ⟨?_, List.pairwise_cons.2 ⟨c', b⟩, ?_⟩
        · intro t ht
          rcases List.mem_cons.1 ht with rfl | ht
          · simpa using h1
          · exact a t ht
        · rintro q rfl t ht
          have hq : q ≤ x := by simpa using h2
          rcases List.mem_cons.1 ht with rfl | ht
          · exact hq
          · have := c' t ht; omega
theorem regGo_lenS (step slack : Int) : ∀ (l : List Int) (s : Option (Int × Int)), (regGo step slack s l).length = l.length
  | [], _ => by simp [regGo]
  | t :: r, none => by simp [regGo, regGo_lenS step slack r]
  | t :: r, some (b, la) => by
    unfold regGo; split <;> simp [regGo_lenS step slack r]
theorem regF_no {l : List Int} {step slack : Int} (h : (regF l step slack).2 ≠ 0) : (regF l step slack).1 = [] := by
  unfold regF at h ⊢
  split
  · rfl
  · split
    · rfl
    · split
      · rfl
      · split
        · rfl
        · rename_i h1 h2 h3 h4
          rw [if_neg h1, if_neg h2, if_neg h3, if_neg h4] at h
          exact absurd rfl h
theorem regF_ok {l : List Int} {step slack : Int} (h : (regF l step slack).2 = 0) : outB step 1 1000000000000000 = false ∧ outB slack 0 1000000000000000 = false ∧ l.length ≤ 5000 ∧ regChk none l = 0 ∧ (regGo step slack none l).any noTime = false ∧ (regF l step slack).1 = regGo step slack none l := by
  unfold regF at h ⊢
  split at h
  · cases h
  · split at h
    · cases h
    · split at h
      · rename_i h3; exact absurd h h3
      · split at h
        · cases h
        · rename_i h1 h2 h3 h4
          rw [if_neg h1, if_neg h2, if_neg h3, if_neg h4]
          simp only [Bool.or_eq_true, not_or, Bool.not_eq_true] at h1
          exact ⟨h1.1, h1.2, by omega, by simpa using h3, by simpa using h4, rfl⟩

def prvI (l : List Int) (k : Nat) : Option Int := if k = 0 then none else l[k-1]?
theorem prvI_succ (l : List Int) (k : Nat) (h : k < l.length) : prvI l (k + 1) = some l[k] := by simp [prvI, h]
/-- The state behind what is written. -/
def regSt (b : Int) (out : List Int) : Option (Int × Int) := out.getLast?.map fun la => (b, la)
theorem pair_drop {l : List Int} (h : l.Pairwise (· ≤ ·)) (k : Nat) (hk : k < l.length) : ∀ t ∈ l.drop (k + 1), l[k] ≤ t := by
  have h1 : (l.drop k).Pairwise (· ≤ ·) := h.sublist (List.drop_sublist _ _)
  rw [List.drop_eq_getElem_cons hk] at h1
  exact (List.pairwise_cons.1 h1).1
/-! headend/tick.Regular -/
def r50_0 : List POp := [⟨6, .asg .nil, none⟩,
  ⟨7, .asg (.c (.int .i64 0)), none⟩]
def r50_1 : List POp := [⟨16, .mv (.t 1), none⟩,
  ⟨17, .call 45 [.t 16, .c (.int .i64 1), .c (.int .i64 1000000000000000)], none⟩,
  ⟨18, .mv (.t 17), none⟩,
  ⟨19, .mv (.t 2), some (18, false)⟩,
  ⟨20, .call 45 [.t 19, .c (.int .i64 0), .c (.int .i64 1000000000000000)], some (18, false)⟩,
  ⟨21, .pick (.t 18) (.c (.bool true)) (.t 20), none⟩,
  ⟨15, .asg (.t 21), none⟩]
def r50_2 : List POp := [⟨6, .asg .nil, none⟩,
  ⟨7, .asg (.c (.int .i64 1)), none⟩]
def r50_3 : List POp := [⟨23, .mv (.t 0), none⟩,
  ⟨24, .len (.t 23), none⟩,
  ⟨25, .bin .gtr (.t 24) (.c (.int .i64 5000)), none⟩,
  ⟨22, .asg (.t 25), none⟩]
def r50_4 : List POp := [⟨6, .asg .nil, none⟩,
  ⟨7, .asg (.c (.int .i64 2)), none⟩]
def r50_5 : List POp := [⟨26, .mv (.t 0), none⟩,
  ⟨27, .len (.t 26), none⟩,
  ⟨28, .mv (.c (.int .i64 0)), none⟩]
def r50_6 : List POp := [⟨29, .bin .lss (.t 28) (.t 27), none⟩]
def r50_7 : List POp := [⟨30, .mv (.t 28), none⟩,
  ⟨31, .idx 1 (.t 26) (.t 28), none⟩,
  ⟨32, .load (.t 31), none⟩,
  ⟨8, .asg (.t 30), none⟩,
  ⟨9, .asg (.t 32), none⟩]
def r50_8 : List POp := [⟨34, .mv (.t 9), none⟩,
  ⟨35, .call 61 [.t 34], none⟩,
  ⟨33, .asg (.t 35), none⟩]
def r50_9 : List POp := [⟨6, .asg .nil, none⟩,
  ⟨7, .asg (.c (.int .i64 1)), none⟩]
def r50_10 : List POp := [⟨37, .mv (.t 8), none⟩,
  ⟨38, .bin .gtr (.t 37) (.c (.int .i64 0)), none⟩,
  ⟨39, .mv (.t 38), none⟩,
  ⟨40, .mv (.t 9), some (39, true)⟩,
  ⟨41, .mv (.t 0), some (39, true)⟩,
  ⟨42, .mv (.t 8), some (39, true)⟩,
  ⟨43, .bin .sub (.t 42) (.c (.int .i64 1)), some (39, true)⟩,
  ⟨44, .idx 1 (.t 41) (.t 43), some (39, true)⟩,
  ⟨45, .load (.t 44), some (39, true)⟩,
  ⟨46, .bin .lss (.t 40) (.t 45), some (39, true)⟩,
  ⟨47, .pick (.t 39) (.t 46) (.c (.bool false)), none⟩,
  ⟨36, .asg (.t 47), none⟩]
def r50_11 : List POp := [⟨6, .asg .nil, none⟩,
  ⟨7, .asg (.c (.int .i64 8)), none⟩]
def r50_12 : List POp := [⟨48, .bin .add (.t 28) (.c (.int .i64 1)), none⟩,
  ⟨28, .mv (.t 48), none⟩]
def r50_13 : List POp := [⟨49, .mv (.t 0), none⟩,
  ⟨50, .len (.t 49), none⟩,
  ⟨51, .mk 3 1 8 [.int .i64 0] (.c (.int .i64 0)) (.t 50), none⟩,
  ⟨10, .asg (.t 51), none⟩]
def r50_14 : List POp := [⟨11, .asg (.c (.int .i64 0)), none⟩]
def r50_15 : List POp := [⟨52, .mv (.t 0), none⟩,
  ⟨53, .len (.t 52), none⟩,
  ⟨54, .mv (.c (.int .i64 0)), none⟩]
def r50_16 : List POp := [⟨55, .bin .lss (.t 54) (.t 53), none⟩]
def r50_17 : List POp := [⟨56, .mv (.t 54), none⟩,
  ⟨57, .idx 1 (.t 52) (.t 54), none⟩,
  ⟨58, .load (.t 57), none⟩,
  ⟨12, .asg (.t 56), none⟩,
  ⟨13, .asg (.t 58), none⟩]
def r50_18 : List POp := [⟨59, .mv (.t 11), none⟩,
  ⟨60, .mv (.t 13), none⟩,
  ⟨61, .mv (.t 11), none⟩,
  ⟨62, .bin .sub (.t 60) (.t 61), none⟩,
  ⟨63, .bin .mul (.c (.int .i64 2)) (.t 62), none⟩,
  ⟨64, .mv (.t 1), none⟩,
  ⟨65, .bin .add (.t 63) (.t 64), none⟩,
  ⟨66, .mv (.t 1), none⟩,
  ⟨67, .bin .mul (.c (.int .i64 2)) (.t 66), none⟩,
  ⟨68, .bin .quo (.t 65) (.t 67), none⟩,
  ⟨69, .mv (.t 1), none⟩,
  ⟨70, .bin .mul (.t 68) (.t 69), none⟩,
  ⟨71, .bin .add (.t 59) (.t 70), none⟩,
  ⟨14, .asg (.t 71), none⟩]
def r50_19 : List POp := [⟨72, .mv (.t 12), none⟩,
  ⟨73, .bin .eql (.t 72) (.c (.int .i64 0)), none⟩,
  ⟨74, .mv (.t 73), none⟩,
  ⟨75, .mv (.t 14), some (74, false)⟩,
  ⟨76, .mv (.t 13), some (74, false)⟩,
  ⟨77, .bin .sub (.t 75) (.t 76), some (74, false)⟩,
  ⟨78, .mv (.t 13), some (74, false)⟩,
  ⟨79, .mv (.t 14), some (74, false)⟩,
  ⟨80, .bin .sub (.t 78) (.t 79), some (74, false)⟩,
  ⟨81, .minmax true (.t 77) (.t 80), some (74, false)⟩,
  ⟨82, .mv (.t 2), some (74, false)⟩,
  ⟨83, .bin .gtr (.t 81) (.t 82), some (74, false)⟩,
  ⟨84, .pick (.t 74) (.c (.bool true)) (.t 83), none⟩,
  ⟨85, .mv (.t 84), none⟩,
  ⟨86, .mv (.t 14), some (85, false)⟩,
  ⟨87, .mv (.t 10), some (85, false)⟩,
  ⟨88, .mv (.t 12), some (85, false)⟩,
  ⟨89, .bin .sub (.t 88) (.c (.int .i64 1)), some (85, false)⟩,
  ⟨90, .idx 1 (.t 87) (.t 89), some (85, false)⟩,
  ⟨91, .load (.t 90), some (85, false)⟩,
  ⟨92, .bin .leq (.t 86) (.t 91), some (85, false)⟩,
  ⟨93, .pick (.t 85) (.c (.bool true)) (.t 92), none⟩]
def r50_20 : List POp := [⟨94, .mv (.t 13), none⟩,
  ⟨95, .mv (.t 13), none⟩,
  ⟨11, .mv (.t 94), none⟩,
  ⟨14, .mv (.t 95), none⟩]
def r50_21 : List POp := [⟨96, .mv (.t 10), none⟩,
  ⟨97, .mv (.t 14), none⟩,
  ⟨98, .row 3 1 [.t 97], none⟩,
  ⟨99, .app 3 1 8 (.t 96) (.t 98), none⟩,
  ⟨10, .asg (.t 99), none⟩]
def r50_22 : List POp := [⟨100, .bin .add (.t 54) (.c (.int .i64 1)), none⟩,
  ⟨54, .mv (.t 100), none⟩]
def r50_23 : List POp := [⟨101, .mv (.t 10), none⟩,
  ⟨102, .call 60 [.t 101, .fn 61], none⟩]
def r50_24 : List POp := [⟨6, .asg .nil, none⟩,
  ⟨7, .asg (.c (.int .i64 1)), none⟩]
def r50_25 : List POp := [⟨103, .mv (.t 10), none⟩,
  ⟨6, .asg (.t 103), none⟩,
  ⟨7, .asg (.c (.int .i64 0)), none⟩]
def l50_1 : PCode := .seq (.ops r50_16) (.seq (.cond (.t 55) (.skip) (.exit 4)) (.seq (.block 5 (.seq (.ops r50_17) (.seq (.ops r50_18) (.seq (.seq (.ops r50_19) (.cond (.t 93) (.ops r50_20) (.skip))) (.ops r50_21))))) (.ops r50_22)))
def l50_0 : PCode := .seq (.ops r50_6) (.seq (.cond (.t 29) (.skip) (.exit 1)) (.seq (.block 2 (.seq (.ops r50_7) (.block 3 (.seq (.ops r50_8) (.cond (.t 33) (.seq (.ops r50_9) (.ret)) (.seq (.ops r50_10) (.cond (.t 36) (.seq (.ops r50_11) (.ret)) (.skip)))))))) (.ops r50_12)))
def p50 : PCode := .seq (.ops r50_0) (.seq (.block 0 (.seq (.ops r50_1) (.cond (.t 15) (.seq (.ops r50_2) (.ret)) (.seq (.ops r50_3) (.cond (.t 22) (.seq (.ops r50_4) (.ret)) (.skip)))))) (.seq (.seq (.ops r50_5) (.block 1 (.loop l50_0))) (.seq (.ops r50_13) (.seq (.ops r50_14) (.seq (.seq (.ops r50_15) (.block 4 (.loop l50_1))) (.seq (.seq (.ops r50_23) (.cond (.t 102) (.seq (.ops r50_24) (.ret)) (.skip))) (.seq (.ops r50_25) (.ret))))))))
theorem ok50 : okFunc Try.prog 50 [.t 6, .t 7] 3 p50 = true := by kernel_rfl
/-- The second part: from the times that are right on. -/
theorem reg_c (l : List Int) (step slack : Int) : CallOK Try.prog 50 [.ro (l.map oneI), .val (.int .i64 step), .val (.int .i64 slack)] (.tup [.ro ((regF l step slack).1.map oneI), .val (.int .i64 (regF l step slack).2)]) := by
  refine call_of mixed ok50 rfl ?_
  repeat' first | (with_reducible refine condD (fun h => ?_) (fun h => ?_)) | (with_reducible refine condE (fun h => ?_) (fun h => ?_)) | (with_reducible refine condN (fun h => ?_) (fun h => ?_)) | (with_reducible refine condI (fun h => ?_) (fun h => ?_)) | (with_reducible refine condS (fun h => ?_) (fun h => ?_)) | (with_reducible refine guardD (by with_unfolding_all rfl) (fun h => ?_) (fun h => ?_)) | (with_reducible refine guardE (by with_unfolding_all rfl) (fun h => ?_) (fun h => ?_)) | (with_reducible refine guardN (by with_unfolding_all rfl) (fun h => ?_) (fun h => ?_)) | (with_reducible refine guardI (by with_unfolding_all rfl) (fun h => ?_) (fun h => ?_)) | (with_reducible refine guardS (by with_unfolding_all rfl) (fun h => ?_) (fun h => ?_)) | ((refine callG (out_c _ _ _) ?_)) | (with_reducible refine And.intro ?_ ?_; omega) | (simp only [done_eq, done_eq', fin_val, fin_tup, fin_agg, fin_ro, res_one, res_more, rv_t, rv_c, rv_l, AV.tup.injEq, AV.agg.injEq, AV.ro.injEq, List.cons.injEq, int_eq, bool_eq, Int.toNat_natCast, Int.reduceToNat, Int.toNat_zero, Int.toNat_one, Int.reduceLE, Int.reduceLT, Int.reduceBEq, Int.reduceBNe, beq_self_eq_true, bne_self_eq_false, decide_true, decide_false,  Int.reduceNeg, toNat_pred, toNat_succ, List.length_map, cnd_t, cnd_f, grd_tt, grd_u, grd_tf, grd_ft, grd_ff, g_skip, g_ops, g_seq, g_block, g_exit, g_ret, x_c, x_o, x_l, x_b, g_b, g_nil, r_all, o_nil, g_cond, o_guard, o_call, o_callm, o_callv, lk, ef, o_mv, o_pick, o_bin, o_never, o_eqs, o_eqb, o_un, o_conv, o_load, o_loadr, o_idxr, o_loads, o_fld, o_idx, o_idxs, o_len, o_lens, o_ext, o_nilck, o_slc, o_slcs, o_build, o_minmax, o_mkfn, o_alloc, o_box, o_boxs, o_row, o_rowr, o_mk, o_asg, o_app, o_store, o_stores, o_eqnil, hv, eqAV, ev, view_t, view_c, view_nil, view_fn, look_own, look_box, look_junk, look_val, look_nilsl, look_ro, look_roAt, look_agg, look_tup, look_clo, look_alias, look_ref, look_into, rowOf, cellsOf, argv, vbin, vun, bnd, elemOf, putParts, setAt, zav, ASt.rid, ASt.free, AV.kill, AV.isHome, AV.noLoan, AV.cellOK, Value.oneCell', put_at, mk_at, mk_nil, initSt, true_and, and_true, and_self, implies_true, List.map_cons, List.map_nil, List.forall_mem_cons, List.not_mem_nil, false_implies, List.length_cons, List.length_nil, List.getD_cons_zero, List.getD_cons_succ, List.getD_nil, List.drop_succ_cons, List.drop_zero, List.take_succ_cons, List.take_zero, List.set_cons_zero, List.set_cons_succ, List.all_cons, List.all_nil, Bool.and_true, Bool.true_and, Bool.not_true, Bool.not_false, reduceCtorEq, if_true, if_false, Bool.false_eq_true, ↓reduceIte, Nat.reduceEqDiff, Nat.reduceAdd, Nat.reduceSub, Nat.reduceMul, Nat.reduceLeDiff, Nat.reduceLT, ne_eq, not_false_eq_true, not_true_eq_false, Nat.one_ne_zero, Nat.zero_ne_one, r50_0, r50_1, r50_2, r50_3, r50_4, r50_5, r50_6, r50_7, r50_8, r50_9, r50_10, r50_11, r50_12, r50_13, r50_14, r50_15, r50_16, r50_17, r50_18, r50_19, r50_20, r50_21, r50_22, r50_23, r50_24, r50_25, p50]) | (exfalso; omega)
  · simp [regF, *]
  · simp [regF, *]
  · rename_i h1 h2
    simp [regF, h1, h2, show 5000 < l.length by omega]
  · rename_i h1 h2
    have hl : l.length ≤ 5000 := by omega
    have bs := outB_f h1
    have bk := outB_f h2
    have hF : regF l step slack = if regChk none l ≠ 0 then ([], regChk none l) else if (regGo step slack none l).any noTime then ([], 1) else (regGo step slack none l, 0) := by simp [regF, h1, h2, show ¬ 5000 < l.length by omega]
    refine loopS (fun k : Nat => mk [(0, .ro (l.map oneI)), (1, .val (.int .i64 step)), (2, .val (.int .i64 slack)), (26, .ro (l.map oneI)), (27, .val (.int .i64 l.length)), (28, .val (.int .i64 k))]) (fun k => k ≤ l.length ∧ regChk none l = regChk (prvI l k) (l.drop k)) (fun k => l.length - k) 0 (weak_mk ?_) ⟨Nat.zero_le _, by simp [prvI]⟩ ?_
    · simp only [wk_cons, wk_nil, wk1, vint_eq, vbool_eq, AV.val.injEq, done_eq, done_eq', fin_val, fin_tup, fin_agg, fin_ro, res_one, res_more, rv_t, rv_c, rv_l, AV.tup.injEq, AV.agg.injEq, AV.ro.injEq, List.cons.injEq, int_eq, bool_eq, Int.toNat_natCast, Int.reduceToNat, Int.toNat_zero, Int.toNat_one, Int.reduceLE, Int.reduceLT, Int.reduceBEq, Int.reduceBNe, beq_self_eq_true, bne_self_eq_false, decide_true, decide_false,  Int.reduceNeg, toNat_pred, toNat_succ, List.length_map, cnd_t, cnd_f, grd_tt, grd_u, grd_tf, grd_ft, grd_ff, g_skip, g_ops, g_seq, g_block, g_exit, g_ret, x_c, x_o, x_l, x_b, g_b, g_nil, r_all, o_nil, g_cond, o_guard, o_call, o_callm, o_callv, lk, ef, o_mv, o_pick, o_bin, o_never, o_eqs, o_eqb, o_un, o_conv, o_load, o_loadr, o_idxr, o_loads, o_fld, o_idx, o_idxs, o_len, o_lens, o_ext, o_nilck, o_slc, o_slcs, o_build, o_minmax, o_mkfn, o_alloc, o_box, o_boxs, o_row, o_rowr, o_mk, o_asg, o_app, o_store, o_stores, o_eqnil, hv, eqAV, ev, view_t, view_c, view_nil, view_fn, look_own, look_box, look_junk, look_val, look_nilsl, look_ro, look_roAt, look_agg, look_tup, look_clo, look_alias, look_ref, look_into, rowOf, cellsOf, argv, vbin, vun, bnd, elemOf, putParts, setAt, zav, ASt.rid, ASt.free, AV.kill, AV.isHome, AV.noLoan, AV.cellOK, Value.oneCell', put_at, mk_at, mk_nil, initSt, true_and, and_true, and_self, implies_true, List.map_cons, List.map_nil, List.forall_mem_cons, List.not_mem_nil, false_implies, List.length_cons, List.length_nil, List.getD_cons_zero, List.getD_cons_succ, List.getD_nil, List.drop_succ_cons, List.drop_zero, List.take_succ_cons, List.take_zero, List.set_cons_zero, List.set_cons_succ, List.all_cons, List.all_nil, Bool.and_true, Bool.true_and, Bool.not_true, Bool.not_false, reduceCtorEq, if_true, if_false, Bool.false_eq_true, ↓reduceIte, Nat.reduceEqDiff, Nat.reduceAdd, Nat.reduceSub, Nat.reduceMul, Nat.reduceLeDiff, Nat.reduceLT, ne_eq, not_false_eq_true, not_true_eq_false, Nat.one_ne_zero, Nat.zero_ne_one]
      simp
    · rintro J hJ k ⟨hk, hg⟩
      simp only [done_eq, done_eq', fin_val, fin_tup, fin_agg, fin_ro, res_one, res_more, rv_t, rv_c, rv_l, AV.tup.injEq, AV.agg.injEq, AV.ro.injEq, List.cons.injEq, int_eq, bool_eq, Int.toNat_natCast, Int.reduceToNat, Int.toNat_zero, Int.toNat_one, Int.reduceLE, Int.reduceLT, Int.reduceBEq, Int.reduceBNe, beq_self_eq_true, bne_self_eq_false, decide_true, decide_false,  Int.reduceNeg, toNat_pred, toNat_succ, List.length_map, cnd_t, cnd_f, grd_tt, grd_u, grd_tf, grd_ft, grd_ff, g_skip, g_ops, g_seq, g_block, g_exit, g_ret, x_c, x_o, x_l, x_b, g_b, g_nil, r_all, o_nil, g_cond, o_guard, o_call, o_callm, o_callv, lk, ef, o_mv, o_pick, o_bin, o_never, o_eqs, o_eqb, o_un, o_conv, o_load, o_loadr, o_idxr, o_loads, o_fld, o_idx, o_idxs, o_len, o_lens, o_ext, o_nilck, o_slc, o_slcs, o_build, o_minmax, o_mkfn, o_alloc, o_box, o_boxs, o_row, o_rowr, o_mk, o_asg, o_app, o_store, o_stores, o_eqnil, hv, eqAV, ev, view_t, view_c, view_nil, view_fn, look_own, look_box, look_junk, look_val, look_nilsl, look_ro, look_roAt, look_agg, look_tup, look_clo, look_alias, look_ref, look_into, rowOf, cellsOf, argv, vbin, vun, bnd, elemOf, putParts, setAt, zav, ASt.rid, ASt.free, AV.kill, AV.isHome, AV.noLoan, AV.cellOK, Value.oneCell', put_at, mk_at, mk_nil, initSt, true_and, and_true, and_self, implies_true, List.map_cons, List.map_nil, List.forall_mem_cons, List.not_mem_nil, false_implies, List.length_cons, List.length_nil, List.getD_cons_zero, List.getD_cons_succ, List.getD_nil, List.drop_succ_cons, List.drop_zero, List.take_succ_cons, List.take_zero, List.set_cons_zero, List.set_cons_succ, List.all_cons, List.all_nil, Bool.and_true, Bool.true_and, Bool.not_true, Bool.not_false, reduceCtorEq, if_true, if_false, Bool.false_eq_true, ↓reduceIte, Nat.reduceEqDiff, Nat.reduceAdd, Nat.reduceSub, Nat.reduceMul, Nat.reduceLeDiff, Nat.reduceLT, ne_eq, not_false_eq_true, not_true_eq_false, Nat.one_ne_zero, Nat.zero_ne_one, r50_0, r50_1, r50_2, r50_3, r50_4, r50_5, r50_6, r50_7, r50_8, r50_9, r50_10, r50_11, r50_12, r50_13, r50_14, r50_15, r50_16, r50_17, r50_18, r50_19, r50_20, r50_21, r50_22, r50_23, r50_24, r50_25, p50, l50_0]
      refine condD (fun h => ?_) (fun h => ?_)
      · have hlt : k < l.length := by omega
        have hr : regChk none l = if noTime l[k] then 1 else if (prvI l k).any fun q => decide (l[k] < q) then 8 else regChk (prvI l (k + 1)) (l.drop (k + 1)) := by
          rw [hg, List.drop_eq_getElem_cons hlt, regChk, prvI_succ _ _ hlt]
        have hw := i_add1 k (by omega)
        clear hg
        rcases Nat.eq_zero_or_pos k with rfl | hp
        · repeat' first | (with_reducible refine condD (fun h => ?_) (fun h => ?_)) | (with_reducible refine condE (fun h => ?_) (fun h => ?_)) | (with_reducible refine condN (fun h => ?_) (fun h => ?_)) | (with_reducible refine condI (fun h => ?_) (fun h => ?_)) | (with_reducible refine condS (fun h => ?_) (fun h => ?_)) | (with_reducible refine guardD (by with_unfolding_all rfl) (fun h => ?_) (fun h => ?_)) | (with_reducible refine guardE (by with_unfolding_all rfl) (fun h => ?_) (fun h => ?_)) | (with_reducible refine guardN (by with_unfolding_all rfl) (fun h => ?_) (fun h => ?_)) | (with_reducible refine guardI (by with_unfolding_all rfl) (fun h => ?_) (fun h => ?_)) | (with_reducible refine guardS (by with_unfolding_all rfl) (fun h => ?_) (fun h => ?_)) | ((refine callG (notime_c _) ?_)) | (with_reducible refine And.intro ?_ ?_; omega) | (simp only [done_eq, done_eq', fin_val, fin_tup, fin_agg, fin_ro, res_one, res_more, rv_t, rv_c, rv_l, AV.tup.injEq, AV.agg.injEq, AV.ro.injEq, List.cons.injEq, int_eq, bool_eq, Int.toNat_natCast, Int.reduceToNat, Int.toNat_zero, Int.toNat_one, Int.reduceLE, Int.reduceLT, Int.reduceBEq, Int.reduceBNe, beq_self_eq_true, bne_self_eq_false, decide_true, decide_false,  Int.reduceNeg, toNat_pred, toNat_succ, List.length_map, cnd_t, cnd_f, grd_tt, grd_u, grd_tf, grd_ft, grd_ff, g_skip, g_ops, g_seq, g_block, g_exit, g_ret, x_c, x_o, x_l, x_b, g_b, g_nil, r_all, o_nil, g_cond, o_guard, o_call, o_callm, o_callv, lk, ef, o_mv, o_pick, o_bin, o_never, o_eqs, o_eqb, o_un, o_conv, o_load, o_loadr, o_idxr, o_loads, o_fld, o_idx, o_idxs, o_len, o_lens, o_ext, o_nilck, o_slc, o_slcs, o_build, o_minmax, o_mkfn, o_alloc, o_box, o_boxs, o_row, o_rowr, o_mk, o_asg, o_app, o_store, o_stores, o_eqnil, hv, eqAV, ev, view_t, view_c, view_nil, view_fn, look_own, look_box, look_junk, look_val, look_nilsl, look_ro, look_roAt, look_agg, look_tup, look_clo, look_alias, look_ref, look_into, rowOf, cellsOf, argv, vbin, vun, bnd, elemOf, putParts, setAt, zav, ASt.rid, ASt.free, AV.kill, AV.isHome, AV.noLoan, AV.cellOK, Value.oneCell', put_at, mk_at, mk_nil, initSt, true_and, and_true, and_self, implies_true, List.map_cons, List.map_nil, List.forall_mem_cons, List.not_mem_nil, false_implies, List.length_cons, List.length_nil, List.getD_cons_zero, List.getD_cons_succ, List.getD_nil, List.drop_succ_cons, List.drop_zero, List.take_succ_cons, List.take_zero, List.set_cons_zero, List.set_cons_succ, List.all_cons, List.all_nil, Bool.and_true, Bool.true_and, Bool.not_true, Bool.not_false, reduceCtorEq, if_true, if_false, Bool.false_eq_true, ↓reduceIte, Nat.reduceEqDiff, Nat.reduceAdd, Nat.reduceSub, Nat.reduceMul, Nat.reduceLeDiff, Nat.reduceLT, ne_eq, not_false_eq_true, not_true_eq_false, Nat.one_ne_zero, Nat.zero_ne_one, r50_0, r50_1, r50_2, r50_3, r50_4, r50_5, r50_6, r50_7, r50_8, r50_9, r50_10, r50_11, r50_12, r50_13, r50_14, r50_15, r50_16, r50_17, r50_18, r50_19, r50_20, r50_21, r50_22, r50_23, r50_24, r50_25, p50, l50_0, oneI, getD_map hlt]) | (exfalso; omega)
          · simp [hF, hr, *, -hJ]
          · exact again hJ (0 + 1) (weak_mk (by simp only [wk_cons, wk_nil, wk1, vint_eq, vbool_eq, AV.val.injEq, done_eq, done_eq', fin_val, fin_tup, fin_agg, fin_ro, res_one, res_more, rv_t, rv_c, rv_l, AV.tup.injEq, AV.agg.injEq, AV.ro.injEq, List.cons.injEq, int_eq, bool_eq, Int.toNat_natCast, Int.reduceToNat, Int.toNat_zero, Int.toNat_one, Int.reduceLE, Int.reduceLT, Int.reduceBEq, Int.reduceBNe, beq_self_eq_true, bne_self_eq_false, decide_true, decide_false,  Int.reduceNeg, toNat_pred, toNat_succ, List.length_map, cnd_t, cnd_f, grd_tt, grd_u, grd_tf, grd_ft, grd_ff, g_skip, g_ops, g_seq, g_block, g_exit, g_ret, x_c, x_o, x_l, x_b, g_b, g_nil, r_all, o_nil, g_cond, o_guard, o_call, o_callm, o_callv, lk, ef, o_mv, o_pick, o_bin, o_never, o_eqs, o_eqb, o_un, o_conv, o_load, o_loadr, o_idxr, o_loads, o_fld, o_idx, o_idxs, o_len, o_lens, o_ext, o_nilck, o_slc, o_slcs, o_build, o_minmax, o_mkfn, o_alloc, o_box, o_boxs, o_row, o_rowr, o_mk, o_asg, o_app, o_store, o_stores, o_eqnil, hv, eqAV, ev, view_t, view_c, view_nil, view_fn, look_own, look_box, look_junk, look_val, look_nilsl, look_ro, look_roAt, look_agg, look_tup, look_clo, look_alias, look_ref, look_into, rowOf, cellsOf, argv, vbin, vun, bnd, elemOf, putParts, setAt, zav, ASt.rid, ASt.free, AV.kill, AV.isHome, AV.noLoan, AV.cellOK, Value.oneCell', put_at, mk_at, mk_nil, initSt, true_and, and_true, and_self, implies_true, List.map_cons, List.map_nil, List.forall_mem_cons, List.not_mem_nil, false_implies, List.length_cons, List.length_nil, List.getD_cons_zero, List.getD_cons_succ, List.getD_nil, List.drop_succ_cons, List.drop_zero, List.take_succ_cons, List.take_zero, List.set_cons_zero, List.set_cons_succ, List.all_cons, List.all_nil, Bool.and_true, Bool.true_and, Bool.not_true, Bool.not_false, reduceCtorEq, if_true, if_false, Bool.false_eq_true, ↓reduceIte, Nat.reduceEqDiff, Nat.reduceAdd, Nat.reduceSub, Nat.reduceMul, Nat.reduceLeDiff, Nat.reduceLT, ne_eq, not_false_eq_true, not_true_eq_false, Nat.one_ne_zero, Nat.zero_ne_one]; exact hw)) ⟨by omega, by simp [hr, prvI, *, -hJ]⟩ (by omega)
        · have hlt1 : k - 1 < l.length := by omega
          have hw1 := i_sub1 k hp (by omega)
          have hpv : prvI l k = some l[k-1] := by simp [prvI, hlt1]; omega
          repeat' first | (with_reducible refine condD (fun h => ?_) (fun h => ?_)) | (with_reducible refine condE (fun h => ?_) (fun h => ?_)) | (with_reducible refine condN (fun h => ?_) (fun h => ?_)) | (with_reducible refine condI (fun h => ?_) (fun h => ?_)) | (with_reducible refine condS (fun h => ?_) (fun h => ?_)) | (with_reducible refine guardD (by with_unfolding_all rfl) (fun h => ?_) (fun h => ?_)) | (with_reducible refine guardE (by with_unfolding_all rfl) (fun h => ?_) (fun h => ?_)) | (with_reducible refine guardN (by with_unfolding_all rfl) (fun h => ?_) (fun h => ?_)) | (with_reducible refine guardI (by with_unfolding_all rfl) (fun h => ?_) (fun h => ?_)) | (with_reducible refine guardS (by with_unfolding_all rfl) (fun h => ?_) (fun h => ?_)) | ((refine callG (notime_c _) ?_)) | (with_reducible refine And.intro ?_ ?_; omega) | (simp only [done_eq, done_eq', fin_val, fin_tup, fin_agg, fin_ro, res_one, res_more, rv_t, rv_c, rv_l, AV.tup.injEq, AV.agg.injEq, AV.ro.injEq, List.cons.injEq, int_eq, bool_eq, Int.toNat_natCast, Int.reduceToNat, Int.toNat_zero, Int.toNat_one, Int.reduceLE, Int.reduceLT, Int.reduceBEq, Int.reduceBNe, beq_self_eq_true, bne_self_eq_false, decide_true, decide_false,  Int.reduceNeg, toNat_pred, toNat_succ, List.length_map, cnd_t, cnd_f, grd_tt, grd_u, grd_tf, grd_ft, grd_ff, g_skip, g_ops, g_seq, g_block, g_exit, g_ret, x_c, x_o, x_l, x_b, g_b, g_nil, r_all, o_nil, g_cond, o_guard, o_call, o_callm, o_callv, lk, ef, o_mv, o_pick, o_bin, o_never, o_eqs, o_eqb, o_un, o_conv, o_load, o_loadr, o_idxr, o_loads, o_fld, o_idx, o_idxs, o_len, o_lens, o_ext, o_nilck, o_slc, o_slcs, o_build, o_minmax, o_mkfn, o_alloc, o_box, o_boxs, o_row, o_rowr, o_mk, o_asg, o_app, o_store, o_stores, o_eqnil, hv, eqAV, ev, view_t, view_c, view_nil, view_fn, look_own, look_box, look_junk, look_val, look_nilsl, look_ro, look_roAt, look_agg, look_tup, look_clo, look_alias, look_ref, look_into, rowOf, cellsOf, argv, vbin, vun, bnd, elemOf, putParts, setAt, zav, ASt.rid, ASt.free, AV.kill, AV.isHome, AV.noLoan, AV.cellOK, Value.oneCell', put_at, mk_at, mk_nil, initSt, true_and, and_true, and_self, implies_true, List.map_cons, List.map_nil, List.forall_mem_cons, List.not_mem_nil, false_implies, List.length_cons, List.length_nil, List.getD_cons_zero, List.getD_cons_succ, List.getD_nil, List.drop_succ_cons, List.drop_zero, List.take_succ_cons, List.take_zero, List.set_cons_zero, List.set_cons_succ, List.all_cons, List.all_nil, Bool.and_true, Bool.true_and, Bool.not_true, Bool.not_false, reduceCtorEq, if_true, if_false, Bool.false_eq_true, ↓reduceIte, Nat.reduceEqDiff, Nat.reduceAdd, Nat.reduceSub, Nat.reduceMul, Nat.reduceLeDiff, Nat.reduceLT, ne_eq, not_false_eq_true, not_true_eq_false, Nat.one_ne_zero, Nat.zero_ne_one, r50_0, r50_1, r50_2, r50_3, r50_4, r50_5, r50_6, r50_7, r50_8, r50_9, r50_10, r50_11, r50_12, r50_13, r50_14, r50_15, r50_16, r50_17, r50_18, r50_19, r50_20, r50_21, r50_22, r50_23, r50_24, r50_25, p50, l50_0, oneI, getD_map hlt, getD_map hlt1, hw1]) | (exfalso; omega)
          · simp [hF, hr, *, -hJ]
          · simp [hF, hr, *, -hJ]
          · exact again hJ (k + 1) (weak_mk (by simp only [wk_cons, wk_nil, wk1, vint_eq, vbool_eq, AV.val.injEq, done_eq, done_eq', fin_val, fin_tup, fin_agg, fin_ro, res_one, res_more, rv_t, rv_c, rv_l, AV.tup.injEq, AV.agg.injEq, AV.ro.injEq, List.cons.injEq, int_eq, bool_eq, Int.toNat_natCast, Int.reduceToNat, Int.toNat_zero, Int.toNat_one, Int.reduceLE, Int.reduceLT, Int.reduceBEq, Int.reduceBNe, beq_self_eq_true, bne_self_eq_false, decide_true, decide_false,  Int.reduceNeg, toNat_pred, toNat_succ, List.length_map, cnd_t, cnd_f, grd_tt, grd_u, grd_tf, grd_ft, grd_ff, g_skip, g_ops, g_seq, g_block, g_exit, g_ret, x_c, x_o, x_l, x_b, g_b, g_nil, r_all, o_nil, g_cond, o_guard, o_call, o_callm, o_callv, lk, ef, o_mv, o_pick, o_bin, o_never, o_eqs, o_eqb, o_un, o_conv, o_load, o_loadr, o_idxr, o_loads, o_fld, o_idx, o_idxs, o_len, o_lens, o_ext, o_nilck, o_slc, o_slcs, o_build, o_minmax, o_mkfn, o_alloc, o_box, o_boxs, o_row, o_rowr, o_mk, o_asg, o_app, o_store, o_stores, o_eqnil, hv, eqAV, ev, view_t, view_c, view_nil, view_fn, look_own, look_box, look_junk, look_val, look_nilsl, look_ro, look_roAt, look_agg, look_tup, look_clo, look_alias, look_ref, look_into, rowOf, cellsOf, argv, vbin, vun, bnd, elemOf, putParts, setAt, zav, ASt.rid, ASt.free, AV.kill, AV.isHome, AV.noLoan, AV.cellOK, Value.oneCell', put_at, mk_at, mk_nil, initSt, true_and, and_true, and_self, implies_true, List.map_cons, List.map_nil, List.forall_mem_cons, List.not_mem_nil, false_implies, List.length_cons, List.length_nil, List.getD_cons_zero, List.getD_cons_succ, List.getD_nil, List.drop_succ_cons, List.drop_zero, List.take_succ_cons, List.take_zero, List.set_cons_zero, List.set_cons_succ, List.all_cons, List.all_nil, Bool.and_true, Bool.true_and, Bool.not_true, Bool.not_false, reduceCtorEq, if_true, if_false, Bool.false_eq_true, ↓reduceIte, Nat.reduceEqDiff, Nat.reduceAdd, Nat.reduceSub, Nat.reduceMul, Nat.reduceLeDiff, Nat.reduceLT, ne_eq, not_false_eq_true, not_true_eq_false, Nat.one_ne_zero, Nat.zero_ne_one]; exact hw)) ⟨by omega, by simp [hr, *, -hJ]⟩ (by omega)
      · have hke : k = l.length := by omega
        subst hke
        have hz : regChk none l = 0 := by rw [hg]; simp [regChk]
        clear hg hJ
        obtain ⟨cT, cP, _⟩ := regChk_0 hz
        have hF2 : regF l step slack = if (regGo step slack none l).any noTime then ([], 1) else (regGo step slack none l, 0) := by rw [hF]; simp [hz]
        repeat' first | (with_reducible refine condD (fun h => ?_) (fun h => ?_)) | (with_reducible refine condE (fun h => ?_) (fun h => ?_)) | (with_reducible refine condN (fun h => ?_) (fun h => ?_)) | (with_reducible refine condI (fun h => ?_) (fun h => ?_)) | (with_reducible refine condS (fun h => ?_) (fun h => ?_)) | (with_reducible refine guardD (by with_unfolding_all rfl) (fun h => ?_) (fun h => ?_)) | (with_reducible refine guardE (by with_unfolding_all rfl) (fun h => ?_) (fun h => ?_)) | (with_reducible refine guardN (by with_unfolding_all rfl) (fun h => ?_) (fun h => ?_)) | (with_reducible refine guardI (by with_unfolding_all rfl) (fun h => ?_) (fun h => ?_)) | (with_reducible refine guardS (by with_unfolding_all rfl) (fun h => ?_) (fun h => ?_)) | (with_reducible refine And.intro ?_ ?_; omega) | (simp only [done_eq, done_eq', fin_val, fin_tup, fin_agg, fin_ro, res_one, res_more, rv_t, rv_c, rv_l, AV.tup.injEq, AV.agg.injEq, AV.ro.injEq, List.cons.injEq, int_eq, bool_eq, Int.toNat_natCast, Int.reduceToNat, Int.toNat_zero, Int.toNat_one, Int.reduceLE, Int.reduceLT, Int.reduceBEq, Int.reduceBNe, beq_self_eq_true, bne_self_eq_false, decide_true, decide_false,  Int.reduceNeg, toNat_pred, toNat_succ, List.length_map, cnd_t, cnd_f, grd_tt, grd_u, grd_tf, grd_ft, grd_ff, g_skip, g_ops, g_seq, g_block, g_exit, g_ret, x_c, x_o, x_l, x_b, g_b, g_nil, r_all, o_nil, g_cond, o_guard, o_call, o_callm, o_callv, lk, ef, o_mv, o_pick, o_bin, o_never, o_eqs, o_eqb, o_un, o_conv, o_load, o_loadr, o_idxr, o_loads, o_fld, o_idx, o_idxs, o_len, o_lens, o_ext, o_nilck, o_slc, o_slcs, o_build, o_minmax, o_mkfn, o_alloc, o_box, o_boxs, o_row, o_rowr, o_mk, o_asg, o_app, o_store, o_stores, o_eqnil, hv, eqAV, ev, view_t, view_c, view_nil, view_fn, look_own, look_box, look_junk, look_val, look_nilsl, look_ro, look_roAt, look_agg, look_tup, look_clo, look_alias, look_ref, look_into, rowOf, cellsOf, argv, vbin, vun, bnd, elemOf, putParts, setAt, zav, ASt.rid, ASt.free, AV.kill, AV.isHome, AV.noLoan, AV.cellOK, Value.oneCell', put_at, mk_at, mk_nil, initSt, true_and, and_true, and_self, implies_true, List.map_cons, List.map_nil, List.forall_mem_cons, List.not_mem_nil, false_implies, List.length_cons, List.length_nil, List.getD_cons_zero, List.getD_cons_succ, List.getD_nil, List.drop_succ_cons, List.drop_zero, List.take_succ_cons, List.take_zero, List.set_cons_zero, List.set_cons_succ, List.all_cons, List.all_nil, Bool.and_true, Bool.true_and, Bool.not_true, Bool.not_false, reduceCtorEq, if_true, if_false, Bool.false_eq_true, ↓reduceIte, Nat.reduceEqDiff, Nat.reduceAdd, Nat.reduceSub, Nat.reduceMul, Nat.reduceLeDiff, Nat.reduceLT, ne_eq, not_false_eq_true, not_true_eq_false, Nat.one_ne_zero, Nat.zero_ne_one, r50_0, r50_1, r50_2, r50_3, r50_4, r50_5, r50_6, r50_7, r50_8, r50_9, r50_10, r50_11, r50_12, r50_13, r50_14, r50_15, r50_16, r50_17, r50_18, r50_19, r50_20, r50_21, r50_22, r50_23, r50_24, r50_25, p50, l50_0]) | (exfalso; omega)
        refine loopS (fun p : Nat × Int × List Int => mk [(1, .val (.int .i64 step)), (2, .val (.int .i64 slack)), (10, .own 3 1 (p.2.2.map oneI)), (11, .val (.int .i64 p.2.1)), (52, .ro (l.map oneI)), (53, .val (.int .i64 l.length)), (54, .val (.int .i64 p.1))])
          (fun p => p.1 ≤ l.length ∧ p.2.2.length = p.1 ∧ regGo step slack none l = p.2.2 ++ regGo step slack (regSt p.2.1 p.2.2) (l.drop p.1) ∧ (p.1 ≠ 0 → ∀ t ∈ l.drop p.1, p.2.1 ≤ t) ∧ noTime p.2.1 = false) (fun p => l.length - p.1) (0, 0, []) (weak_mk ?_) ⟨Nat.zero_le _, rfl, by simp [regSt], by simp, by decide⟩ ?_
        · simp only [wk_cons, wk_nil, wk1, vint_eq, vbool_eq, AV.val.injEq, done_eq, done_eq', fin_val, fin_tup, fin_agg, fin_ro, res_one, res_more, rv_t, rv_c, rv_l, AV.tup.injEq, AV.agg.injEq, AV.ro.injEq, List.cons.injEq, int_eq, bool_eq, Int.toNat_natCast, Int.reduceToNat, Int.toNat_zero, Int.toNat_one, Int.reduceLE, Int.reduceLT, Int.reduceBEq, Int.reduceBNe, beq_self_eq_true, bne_self_eq_false, decide_true, decide_false,  Int.reduceNeg, toNat_pred, toNat_succ, List.length_map, cnd_t, cnd_f, grd_tt, grd_u, grd_tf, grd_ft, grd_ff, g_skip, g_ops, g_seq, g_block, g_exit, g_ret, x_c, x_o, x_l, x_b, g_b, g_nil, r_all, o_nil, g_cond, o_guard, o_call, o_callm, o_callv, lk, ef, o_mv, o_pick, o_bin, o_never, o_eqs, o_eqb, o_un, o_conv, o_load, o_loadr, o_idxr, o_loads, o_fld, o_idx, o_idxs, o_len, o_lens, o_ext, o_nilck, o_slc, o_slcs, o_build, o_minmax, o_mkfn, o_alloc, o_box, o_boxs, o_row, o_rowr, o_mk, o_asg, o_app, o_store, o_stores, o_eqnil, hv, eqAV, ev, view_t, view_c, view_nil, view_fn, look_own, look_box, look_junk, look_val, look_nilsl, look_ro, look_roAt, look_agg, look_tup, look_clo, look_alias, look_ref, look_into, rowOf, cellsOf, argv, vbin, vun, bnd, elemOf, putParts, setAt, zav, ASt.rid, ASt.free, AV.kill, AV.isHome, AV.noLoan, AV.cellOK, Value.oneCell', put_at, mk_at, mk_nil, initSt, true_and, and_true, and_self, implies_true, List.map_cons, List.map_nil, List.forall_mem_cons, List.not_mem_nil, false_implies, List.length_cons, List.length_nil, List.getD_cons_zero, List.getD_cons_succ, List.getD_nil, List.drop_succ_cons, List.drop_zero, List.take_succ_cons, List.take_zero, List.set_cons_zero, List.set_cons_succ, List.all_cons, List.all_nil, Bool.and_true, Bool.true_and, Bool.not_true, Bool.not_false, reduceCtorEq, if_true, if_false, Bool.false_eq_true, ↓reduceIte, Nat.reduceEqDiff, Nat.reduceAdd, Nat.reduceSub, Nat.reduceMul, Nat.reduceLeDiff, Nat.reduceLT, ne_eq, not_false_eq_true, not_true_eq_false, Nat.one_ne_zero, Nat.zero_ne_one]
          simp
        · rintro J hJ ⟨k, b, out⟩ ⟨hk, ho, hg, hb, hbt⟩
          simp only at hk ho hg hb hbt
          simp only [done_eq, done_eq', fin_val, fin_tup, fin_agg, fin_ro, res_one, res_more, rv_t, rv_c, rv_l, AV.tup.injEq, AV.agg.injEq, AV.ro.injEq, List.cons.injEq, int_eq, bool_eq, Int.toNat_natCast, Int.reduceToNat, Int.toNat_zero, Int.toNat_one, Int.reduceLE, Int.reduceLT, Int.reduceBEq, Int.reduceBNe, beq_self_eq_true, bne_self_eq_false, decide_true, decide_false,  Int.reduceNeg, toNat_pred, toNat_succ, List.length_map, cnd_t, cnd_f, grd_tt, grd_u, grd_tf, grd_ft, grd_ff, g_skip, g_ops, g_seq, g_block, g_exit, g_ret, x_c, x_o, x_l, x_b, g_b, g_nil, r_all, o_nil, g_cond, o_guard, o_call, o_callm, o_callv, lk, ef, o_mv, o_pick, o_bin, o_never, o_eqs, o_eqb, o_un, o_conv, o_load, o_loadr, o_idxr, o_loads, o_fld, o_idx, o_idxs, o_len, o_lens, o_ext, o_nilck, o_slc, o_slcs, o_build, o_minmax, o_mkfn, o_alloc, o_box, o_boxs, o_row, o_rowr, o_mk, o_asg, o_app, o_store, o_stores, o_eqnil, hv, eqAV, ev, view_t, view_c, view_nil, view_fn, look_own, look_box, look_junk, look_val, look_nilsl, look_ro, look_roAt, look_agg, look_tup, look_clo, look_alias, look_ref, look_into, rowOf, cellsOf, argv, vbin, vun, bnd, elemOf, putParts, setAt, zav, ASt.rid, ASt.free, AV.kill, AV.isHome, AV.noLoan, AV.cellOK, Value.oneCell', put_at, mk_at, mk_nil, initSt, true_and, and_true, and_self, implies_true, List.map_cons, List.map_nil, List.forall_mem_cons, List.not_mem_nil, false_implies, List.length_cons, List.length_nil, List.getD_cons_zero, List.getD_cons_succ, List.getD_nil, List.drop_succ_cons, List.drop_zero, List.take_succ_cons, List.take_zero, List.set_cons_zero, List.set_cons_succ, List.all_cons, List.all_nil, Bool.and_true, Bool.true_and, Bool.not_true, Bool.not_false, reduceCtorEq, if_true, if_false, Bool.false_eq_true, ↓reduceIte, Nat.reduceEqDiff, Nat.reduceAdd, Nat.reduceSub, Nat.reduceMul, Nat.reduceLeDiff, Nat.reduceLT, ne_eq, not_false_eq_true, not_true_eq_false, Nat.one_ne_zero, Nat.zero_ne_one, r50_0, r50_1, r50_2, r50_3, r50_4, r50_5, r50_6, r50_7, r50_8, r50_9, r50_10, r50_11, r50_12, r50_13, r50_14, r50_15, r50_16, r50_17, r50_18, r50_19, r50_20, r50_21, r50_22, r50_23, r50_24, r50_25, p50, l50_1]
          refine condD (fun h => ?_) (fun h => ?_)
          · have hlt : k < l.length := by omega
            have hd := List.drop_eq_getElem_cons hlt
            have ht := noTime_bd (cT l[k] (List.getElem_mem hlt))
            have hbb := noTime_bd hbt
            have hw := i_add1 k (by omega)
            have hup := pair_drop cP k hlt
            rcases Nat.eq_zero_or_pos k with rfl | hp
            · have ho0 : out = [] := List.eq_nil_of_length_eq_zero ho
              subst ho0
              rw [hd] at hg
              simp only [regSt, List.getLast?_nil, Option.map_none, regGo, List.nil_append] at hg
              have w4 : IntKind.i64.wrap (2 * step) = 2 * step := wrap_in (by omega) (by omega)
              have z0 : ¬ (2 * step = 0) := by omega
              have z1 : (((0 : Nat) : Int) == 0) = true := rfl
              repeat' first | (with_reducible refine condD (fun h => ?_) (fun h => ?_)) | (with_reducible refine condE (fun h => ?_) (fun h => ?_)) | (with_reducible refine condN (fun h => ?_) (fun h => ?_)) | (with_reducible refine condI (fun h => ?_) (fun h => ?_)) | (with_reducible refine condS (fun h => ?_) (fun h => ?_)) | (with_reducible refine guardD (by with_unfolding_all rfl) (fun h => ?_) (fun h => ?_)) | (with_reducible refine guardE (by with_unfolding_all rfl) (fun h => ?_) (fun h => ?_)) | (with_reducible refine guardN (by with_unfolding_all rfl) (fun h => ?_) (fun h => ?_)) | (with_reducible refine guardI (by with_unfolding_all rfl) (fun h => ?_) (fun h => ?_)) | (with_reducible refine guardS (by with_unfolding_all rfl) (fun h => ?_) (fun h => ?_)) | (with_reducible refine And.intro ?_ ?_; omega) | (simp only [done_eq, done_eq', fin_val, fin_tup, fin_agg, fin_ro, res_one, res_more, rv_t, rv_c, rv_l, AV.tup.injEq, AV.agg.injEq, AV.ro.injEq, List.cons.injEq, int_eq, bool_eq, Int.toNat_natCast, Int.reduceToNat, Int.toNat_zero, Int.toNat_one, Int.reduceLE, Int.reduceLT, Int.reduceBEq, Int.reduceBNe, beq_self_eq_true, bne_self_eq_false, decide_true, decide_false,  Int.reduceNeg, toNat_pred, toNat_succ, List.length_map, cnd_t, cnd_f, grd_tt, grd_u, grd_tf, grd_ft, grd_ff, g_skip, g_ops, g_seq, g_block, g_exit, g_ret, x_c, x_o, x_l, x_b, g_b, g_nil, r_all, o_nil, g_cond, o_guard, o_call, o_callm, o_callv, lk, ef, o_mv, o_pick, o_bin, o_never, o_eqs, o_eqb, o_un, o_conv, o_load, o_loadr, o_idxr, o_loads, o_fld, o_idx, o_idxs, o_len, o_lens, o_ext, o_nilck, o_slc, o_slcs, o_build, o_minmax, o_mkfn, o_alloc, o_box, o_boxs, o_row, o_rowr, o_mk, o_asg, o_app, o_store, o_stores, o_eqnil, hv, eqAV, ev, view_t, view_c, view_nil, view_fn, look_own, look_box, look_junk, look_val, look_nilsl, look_ro, look_roAt, look_agg, look_tup, look_clo, look_alias, look_ref, look_into, rowOf, cellsOf, argv, vbin, vun, bnd, elemOf, putParts, setAt, zav, ASt.rid, ASt.free, AV.kill, AV.isHome, AV.noLoan, AV.cellOK, Value.oneCell', put_at, mk_at, mk_nil, initSt, true_and, and_true, and_self, implies_true, List.map_cons, List.map_nil, List.forall_mem_cons, List.not_mem_nil, false_implies, List.length_cons, List.length_nil, List.getD_cons_zero, List.getD_cons_succ, List.getD_nil, List.drop_succ_cons, List.drop_zero, List.take_succ_cons, List.take_zero, List.set_cons_zero, List.set_cons_succ, List.all_cons, List.all_nil, Bool.and_true, Bool.true_and, Bool.not_true, Bool.not_false, reduceCtorEq, if_true, if_false, Bool.false_eq_true, ↓reduceIte, Nat.reduceEqDiff, Nat.reduceAdd, Nat.reduceSub, Nat.reduceMul, Nat.reduceLeDiff, Nat.reduceLT, ne_eq, not_false_eq_true, not_true_eq_false, Nat.one_ne_zero, Nat.zero_ne_one, r50_0, r50_1, r50_2, r50_3, r50_4, r50_5, r50_6, r50_7, r50_8, r50_9, r50_10, r50_11, r50_12, r50_13, r50_14, r50_15, r50_16, r50_17, r50_18, r50_19, r50_20, r50_21, r50_22, r50_23, r50_24, r50_25, p50, l50_1, oneI, getD_map hlt, w4, z0, z1]) | (exfalso; omega)
              exact again hJ (1, l[0], [l[0]]) (weak_mk (by simp only [wk_cons, wk_nil, wk1, vint_eq, vbool_eq, AV.val.injEq, done_eq, done_eq', fin_val, fin_tup, fin_agg, fin_ro, res_one, res_more, rv_t, rv_c, rv_l, AV.tup.injEq, AV.agg.injEq, AV.ro.injEq, List.cons.injEq, int_eq, bool_eq, Int.toNat_natCast, Int.reduceToNat, Int.toNat_zero, Int.toNat_one, Int.reduceLE, Int.reduceLT, Int.reduceBEq, Int.reduceBNe, beq_self_eq_true, bne_self_eq_false, decide_true, decide_false,  Int.reduceNeg, toNat_pred, toNat_succ, List.length_map, cnd_t, cnd_f, grd_tt, grd_u, grd_tf, grd_ft, grd_ff, g_skip, g_ops, g_seq, g_block, g_exit, g_ret, x_c, x_o, x_l, x_b, g_b, g_nil, r_all, o_nil, g_cond, o_guard, o_call, o_callm, o_callv, lk, ef, o_mv, o_pick, o_bin, o_never, o_eqs, o_eqb, o_un, o_conv, o_load, o_loadr, o_idxr, o_loads, o_fld, o_idx, o_idxs, o_len, o_lens, o_ext, o_nilck, o_slc, o_slcs, o_build, o_minmax, o_mkfn, o_alloc, o_box, o_boxs, o_row, o_rowr, o_mk, o_asg, o_app, o_store, o_stores, o_eqnil, hv, eqAV, ev, view_t, view_c, view_nil, view_fn, look_own, look_box, look_junk, look_val, look_nilsl, look_ro, look_roAt, look_agg, look_tup, look_clo, look_alias, look_ref, look_into, rowOf, cellsOf, argv, vbin, vun, bnd, elemOf, putParts, setAt, zav, ASt.rid, ASt.free, AV.kill, AV.isHome, AV.noLoan, AV.cellOK, Value.oneCell', put_at, mk_at, mk_nil, initSt, true_and, and_true, and_self, implies_true, List.map_cons, List.map_nil, List.forall_mem_cons, List.not_mem_nil, false_implies, List.length_cons, List.length_nil, List.getD_cons_zero, List.getD_cons_succ, List.getD_nil, List.drop_succ_cons, List.drop_zero, List.take_succ_cons, List.take_zero, List.set_cons_zero, List.set_cons_succ, List.all_cons, List.all_nil, Bool.and_true, Bool.true_and, Bool.not_true, Bool.not_false, reduceCtorEq, if_true, if_false, Bool.false_eq_true, ↓reduceIte, Nat.reduceEqDiff, Nat.reduceAdd, Nat.reduceSub, Nat.reduceMul, Nat.reduceLeDiff, Nat.reduceLT, ne_eq, not_false_eq_true, not_true_eq_false, Nat.one_ne_zero, Nat.zero_ne_one] <;> simp [oneI, show IntKind.i64.wrap 1 = 1 from rfl])) ⟨by omega, rfl, by rw [hg]; rfl, fun _ => hup, cT _ (List.getElem_mem hlt)⟩ (by simp only; omega)
            · obtain ⟨pre, la, rfl⟩ := (nil_or_lastI out).resolve_left (fun e => by rw [e] at ho; simp at ho; omega)
              simp only [List.length_append, List.length_cons, List.length_nil] at ho
              have hbl := hb (by omega) l[k] (by rw [hd]; exact List.mem_cons_self)
              obtain ⟨n1, n2, n3, n4⟩ := near_in (show 0 < step by omega) hbl
              rw [hd] at hg
              simp only [regSt, List.getLast?_append, List.getLast?_singleton, Option.some_or, Option.map_some, regGo] at hg
              have w0 : IntKind.i64.wrap ((k : Int) - 1) = (pre.length : Int) := by rw [wrap_in (by omega) (by omega)]; omega
              have w1 : IntKind.i64.wrap (l[k] - b) = l[k] - b := wrap_in (by omega) (by omega)
              have w2 : IntKind.i64.wrap (2 * (l[k] - b)) = 2 * (l[k] - b) := wrap_in (by omega) (by omega)
              have w3 : IntKind.i64.wrap (2 * (l[k] - b) + step) = 2 * (l[k] - b) + step := wrap_in (by omega) (by omega)
              have w4 : IntKind.i64.wrap (2 * step) = 2 * step := wrap_in (by omega) (by omega)
              have w5 : IntKind.i64.wrap ((2 * (l[k] - b) + step).tdiv (2 * step)) = (2 * (l[k] - b) + step) / (2 * step) := by
                rw [Int.tdiv_eq_ediv_of_nonneg (by omega)]; exact wrap_in (by omega) (by omega)
              have hN : nearF b l[k] step = b + (2 * (l[k] - b) + step) / (2 * step) * step := rfl
              have w6 : IntKind.i64.wrap ((2 * (l[k] - b) + step) / (2 * step) * step) = (2 * (l[k] - b) + step) / (2 * step) * step := wrap_in (by omega) (by omega)
              have w7 : IntKind.i64.wrap (b + (2 * (l[k] - b) + step) / (2 * step) * step) = nearF b l[k] step := by rw [hN]; exact wrap_in (by omega) (by omega)
              have w8 : IntKind.i64.wrap (nearF b l[k] step - l[k]) = nearF b l[k] step - l[k] := wrap_in (by omega) (by omega)
              have w9 : IntKind.i64.wrap (l[k] - nearF b l[k] step) = l[k] - nearF b l[k] step := wrap_in (by omega) (by omega)
              have z0 : ¬ (2 * step = 0) := by omega
              have z1 : ((k : Int) == 0) = false := beq0_f (by omega)
              repeat' first | (with_reducible refine condD (fun h => ?_) (fun h => ?_)) | (with_reducible refine condE (fun h => ?_) (fun h => ?_)) | (with_reducible refine condN (fun h => ?_) (fun h => ?_)) | (with_reducible refine condI (fun h => ?_) (fun h => ?_)) | (with_reducible refine condS (fun h => ?_) (fun h => ?_)) | (with_reducible refine guardD (by with_unfolding_all rfl) (fun h => ?_) (fun h => ?_)) | (with_reducible refine guardE (by with_unfolding_all rfl) (fun h => ?_) (fun h => ?_)) | (with_reducible refine guardN (by with_unfolding_all rfl) (fun h => ?_) (fun h => ?_)) | (with_reducible refine guardI (by with_unfolding_all rfl) (fun h => ?_) (fun h => ?_)) | (with_reducible refine guardS (by with_unfolding_all rfl) (fun h => ?_) (fun h => ?_)) | (with_reducible refine And.intro ?_ ?_; omega) | (simp only [done_eq, done_eq', fin_val, fin_tup, fin_agg, fin_ro, res_one, res_more, rv_t, rv_c, rv_l, AV.tup.injEq, AV.agg.injEq, AV.ro.injEq, List.cons.injEq, int_eq, bool_eq, Int.toNat_natCast, Int.reduceToNat, Int.toNat_zero, Int.toNat_one, Int.reduceLE, Int.reduceLT, Int.reduceBEq, Int.reduceBNe, beq_self_eq_true, bne_self_eq_false, decide_true, decide_false,  Int.reduceNeg, toNat_pred, toNat_succ, List.length_map, cnd_t, cnd_f, grd_tt, grd_u, grd_tf, grd_ft, grd_ff, g_skip, g_ops, g_seq, g_block, g_exit, g_ret, x_c, x_o, x_l, x_b, g_b, g_nil, r_all, o_nil, g_cond, o_guard, o_call, o_callm, o_callv, lk, ef, o_mv, o_pick, o_bin, o_never, o_eqs, o_eqb, o_un, o_conv, o_load, o_loadr, o_idxr, o_loads, o_fld, o_idx, o_idxs, o_len, o_lens, o_ext, o_nilck, o_slc, o_slcs, o_build, o_minmax, o_mkfn, o_alloc, o_box, o_boxs, o_row, o_rowr, o_mk, o_asg, o_app, o_store, o_stores, o_eqnil, hv, eqAV, ev, view_t, view_c, view_nil, view_fn, look_own, look_box, look_junk, look_val, look_nilsl, look_ro, look_roAt, look_agg, look_tup, look_clo, look_alias, look_ref, look_into, rowOf, cellsOf, argv, vbin, vun, bnd, elemOf, putParts, setAt, zav, ASt.rid, ASt.free, AV.kill, AV.isHome, AV.noLoan, AV.cellOK, Value.oneCell', put_at, mk_at, mk_nil, initSt, true_and, and_true, and_self, implies_true, List.map_cons, List.map_nil, List.forall_mem_cons, List.not_mem_nil, false_implies, List.length_cons, List.length_nil, List.getD_cons_zero, List.getD_cons_succ, List.getD_nil, List.drop_succ_cons, List.drop_zero, List.take_succ_cons, List.take_zero, List.set_cons_zero, List.set_cons_succ, List.all_cons, List.all_nil, Bool.and_true, Bool.true_and, Bool.not_true, Bool.not_false, reduceCtorEq, if_true, if_false, Bool.false_eq_true, ↓reduceIte, Nat.reduceEqDiff, Nat.reduceAdd, Nat.reduceSub, Nat.reduceMul, Nat.reduceLeDiff, Nat.reduceLT, ne_eq, not_false_eq_true, not_true_eq_false, Nat.one_ne_zero, Nat.zero_ne_one, r50_0, r50_1, r50_2, r50_3, r50_4, r50_5, r50_6, r50_7, r50_8, r50_9, r50_10, r50_11, r50_12, r50_13, r50_14, r50_15, r50_16, r50_17, r50_18, r50_19, r50_20, r50_21, r50_22, r50_23, r50_24, r50_25, p50, l50_1, oneI, getD_map hlt, z0, z1, w0, w1, w2, w3, w4, w5, w6, w7, w8, w9, List.map_append, List.length_append, getD_lastI]) | (exfalso; omega)
              · have hc : slack < max (nearF b l[k] step - l[k]) (l[k] - nearF b l[k] step) := by omega
                rw [if_pos (.inl hc)] at hg
                exact again hJ (k + 1, l[k], pre ++ [la] ++ [l[k]]) (weak_mk (by simp only [wk_cons, wk_nil, wk1, vint_eq, vbool_eq, AV.val.injEq, done_eq, done_eq', fin_val, fin_tup, fin_agg, fin_ro, res_one, res_more, rv_t, rv_c, rv_l, AV.tup.injEq, AV.agg.injEq, AV.ro.injEq, List.cons.injEq, int_eq, bool_eq, Int.toNat_natCast, Int.reduceToNat, Int.toNat_zero, Int.toNat_one, Int.reduceLE, Int.reduceLT, Int.reduceBEq, Int.reduceBNe, beq_self_eq_true, bne_self_eq_false, decide_true, decide_false,  Int.reduceNeg, toNat_pred, toNat_succ, List.length_map, cnd_t, cnd_f, grd_tt, grd_u, grd_tf, grd_ft, grd_ff, g_skip, g_ops, g_seq, g_block, g_exit, g_ret, x_c, x_o, x_l, x_b, g_b, g_nil, r_all, o_nil, g_cond, o_guard, o_call, o_callm, o_callv, lk, ef, o_mv, o_pick, o_bin, o_never, o_eqs, o_eqb, o_un, o_conv, o_load, o_loadr, o_idxr, o_loads, o_fld, o_idx, o_idxs, o_len, o_lens, o_ext, o_nilck, o_slc, o_slcs, o_build, o_minmax, o_mkfn, o_alloc, o_box, o_boxs, o_row, o_rowr, o_mk, o_asg, o_app, o_store, o_stores, o_eqnil, hv, eqAV, ev, view_t, view_c, view_nil, view_fn, look_own, look_box, look_junk, look_val, look_nilsl, look_ro, look_roAt, look_agg, look_tup, look_clo, look_alias, look_ref, look_into, rowOf, cellsOf, argv, vbin, vun, bnd, elemOf, putParts, setAt, zav, ASt.rid, ASt.free, AV.kill, AV.isHome, AV.noLoan, AV.cellOK, Value.oneCell', put_at, mk_at, mk_nil, initSt, true_and, and_true, and_self, implies_true, List.map_cons, List.map_nil, List.forall_mem_cons, List.not_mem_nil, false_implies, List.length_cons, List.length_nil, List.getD_cons_zero, List.getD_cons_succ, List.getD_nil, List.drop_succ_cons, List.drop_zero, List.take_succ_cons, List.take_zero, List.set_cons_zero, List.set_cons_succ, List.all_cons, List.all_nil, Bool.and_true, Bool.true_and, Bool.not_true, Bool.not_false, reduceCtorEq, if_true, if_false, Bool.false_eq_true, ↓reduceIte, Nat.reduceEqDiff, Nat.reduceAdd, Nat.reduceSub, Nat.reduceMul, Nat.reduceLeDiff, Nat.reduceLT, ne_eq, not_false_eq_true, not_true_eq_false, Nat.one_ne_zero, Nat.zero_ne_one] <;> simp [oneI, hw])) ⟨by simp only; omega, by simp; omega, by rw [hg]; simp [regSt], fun _ => hup, cT _ (List.getElem_mem hlt)⟩ (by simp only; omega)
              · rename_i h'
                rw [if_pos (.inr h)] at hg
                exact again hJ (k + 1, l[k], pre ++ [la] ++ [l[k]]) (weak_mk (by simp only [wk_cons, wk_nil, wk1, vint_eq, vbool_eq, AV.val.injEq, done_eq, done_eq', fin_val, fin_tup, fin_agg, fin_ro, res_one, res_more, rv_t, rv_c, rv_l, AV.tup.injEq, AV.agg.injEq, AV.ro.injEq, List.cons.injEq, int_eq, bool_eq, Int.toNat_natCast, Int.reduceToNat, Int.toNat_zero, Int.toNat_one, Int.reduceLE, Int.reduceLT, Int.reduceBEq, Int.reduceBNe, beq_self_eq_true, bne_self_eq_false, decide_true, decide_false,  Int.reduceNeg, toNat_pred, toNat_succ, List.length_map, cnd_t, cnd_f, grd_tt, grd_u, grd_tf, grd_ft, grd_ff, g_skip, g_ops, g_seq, g_block, g_exit, g_ret, x_c, x_o, x_l, x_b, g_b, g_nil, r_all, o_nil, g_cond, o_guard, o_call, o_callm, o_callv, lk, ef, o_mv, o_pick, o_bin, o_never, o_eqs, o_eqb, o_un, o_conv, o_load, o_loadr, o_idxr, o_loads, o_fld, o_idx, o_idxs, o_len, o_lens, o_ext, o_nilck, o_slc, o_slcs, o_build, o_minmax, o_mkfn, o_alloc, o_box, o_boxs, o_row, o_rowr, o_mk, o_asg, o_app, o_store, o_stores, o_eqnil, hv, eqAV, ev, view_t, view_c, view_nil, view_fn, look_own, look_box, look_junk, look_val, look_nilsl, look_ro, look_roAt, look_agg, look_tup, look_clo, look_alias, look_ref, look_into, rowOf, cellsOf, argv, vbin, vun, bnd, elemOf, putParts, setAt, zav, ASt.rid, ASt.free, AV.kill, AV.isHome, AV.noLoan, AV.cellOK, Value.oneCell', put_at, mk_at, mk_nil, initSt, true_and, and_true, and_self, implies_true, List.map_cons, List.map_nil, List.forall_mem_cons, List.not_mem_nil, false_implies, List.length_cons, List.length_nil, List.getD_cons_zero, List.getD_cons_succ, List.getD_nil, List.drop_succ_cons, List.drop_zero, List.take_succ_cons, List.take_zero, List.set_cons_zero, List.set_cons_succ, List.all_cons, List.all_nil, Bool.and_true, Bool.true_and, Bool.not_true, Bool.not_false, reduceCtorEq, if_true, if_false, Bool.false_eq_true, ↓reduceIte, Nat.reduceEqDiff, Nat.reduceAdd, Nat.reduceSub, Nat.reduceMul, Nat.reduceLeDiff, Nat.reduceLT, ne_eq, not_false_eq_true, not_true_eq_false, Nat.one_ne_zero, Nat.zero_ne_one] <;> simp [oneI, hw])) ⟨by simp only; omega, by simp; omega, by rw [hg]; simp [regSt], fun _ => hup, cT _ (List.getElem_mem hlt)⟩ (by simp only; omega)
              · rename_i h'
                have hc : ¬ (slack < max (nearF b l[k] step - l[k]) (l[k] - nearF b l[k] step) ∨ nearF b l[k] step ≤ la) := by omega
                rw [if_neg hc] at hg
                exact again hJ (k + 1, b, pre ++ [la] ++ [nearF b l[k] step]) (weak_mk (by simp only [wk_cons, wk_nil, wk1, vint_eq, vbool_eq, AV.val.injEq, done_eq, done_eq', fin_val, fin_tup, fin_agg, fin_ro, res_one, res_more, rv_t, rv_c, rv_l, AV.tup.injEq, AV.agg.injEq, AV.ro.injEq, List.cons.injEq, int_eq, bool_eq, Int.toNat_natCast, Int.reduceToNat, Int.toNat_zero, Int.toNat_one, Int.reduceLE, Int.reduceLT, Int.reduceBEq, Int.reduceBNe, beq_self_eq_true, bne_self_eq_false, decide_true, decide_false,  Int.reduceNeg, toNat_pred, toNat_succ, List.length_map, cnd_t, cnd_f, grd_tt, grd_u, grd_tf, grd_ft, grd_ff, g_skip, g_ops, g_seq, g_block, g_exit, g_ret, x_c, x_o, x_l, x_b, g_b, g_nil, r_all, o_nil, g_cond, o_guard, o_call, o_callm, o_callv, lk, ef, o_mv, o_pick, o_bin, o_never, o_eqs, o_eqb, o_un, o_conv, o_load, o_loadr, o_idxr, o_loads, o_fld, o_idx, o_idxs, o_len, o_lens, o_ext, o_nilck, o_slc, o_slcs, o_build, o_minmax, o_mkfn, o_alloc, o_box, o_boxs, o_row, o_rowr, o_mk, o_asg, o_app, o_store, o_stores, o_eqnil, hv, eqAV, ev, view_t, view_c, view_nil, view_fn, look_own, look_box, look_junk, look_val, look_nilsl, look_ro, look_roAt, look_agg, look_tup, look_clo, look_alias, look_ref, look_into, rowOf, cellsOf, argv, vbin, vun, bnd, elemOf, putParts, setAt, zav, ASt.rid, ASt.free, AV.kill, AV.isHome, AV.noLoan, AV.cellOK, Value.oneCell', put_at, mk_at, mk_nil, initSt, true_and, and_true, and_self, implies_true, List.map_cons, List.map_nil, List.forall_mem_cons, List.not_mem_nil, false_implies, List.length_cons, List.length_nil, List.getD_cons_zero, List.getD_cons_succ, List.getD_nil, List.drop_succ_cons, List.drop_zero, List.take_succ_cons, List.take_zero, List.set_cons_zero, List.set_cons_succ, List.all_cons, List.all_nil, Bool.and_true, Bool.true_and, Bool.not_true, Bool.not_false, reduceCtorEq, if_true, if_false, Bool.false_eq_true, ↓reduceIte, Nat.reduceEqDiff, Nat.reduceAdd, Nat.reduceSub, Nat.reduceMul, Nat.reduceLeDiff, Nat.reduceLT, ne_eq, not_false_eq_true, not_true_eq_false, Nat.one_ne_zero, Nat.zero_ne_one] <;> simp [oneI, hw])) ⟨by simp only; omega, by simp; omega, by rw [hg]; simp [regSt], fun _ t ht => hb (by omega) t (by rw [hd]; exact List.mem_cons_of_mem _ ht), hbt⟩ (by simp only; omega)
          · have hke : k = l.length := by omega
            subst hke
            have hgo : regGo step slack none l = out := by rw [hg]; simp [regSt]; cases out.getLast? <;> simp [regGo]
            rw [hgo] at hF2
            clear hJ hg hb hgo
            repeat' first | (with_reducible refine condD (fun h => ?_) (fun h => ?_)) | (with_reducible refine condE (fun h => ?_) (fun h => ?_)) | (with_reducible refine condN (fun h => ?_) (fun h => ?_)) | (with_reducible refine condI (fun h => ?_) (fun h => ?_)) | (with_reducible refine condS (fun h => ?_) (fun h => ?_)) | (with_reducible refine guardD (by with_unfolding_all rfl) (fun h => ?_) (fun h => ?_)) | (with_reducible refine guardE (by with_unfolding_all rfl) (fun h => ?_) (fun h => ?_)) | (with_reducible refine guardN (by with_unfolding_all rfl) (fun h => ?_) (fun h => ?_)) | (with_reducible refine guardI (by with_unfolding_all rfl) (fun h => ?_) (fun h => ?_)) | (with_reducible refine guardS (by with_unfolding_all rfl) (fun h => ?_) (fun h => ?_)) | ((refine callG_flat (anyf_c out (by omega)) (flat_val _) ?_)) | (with_reducible refine And.intro ?_ ?_; omega) | (simp only [done_eq, done_eq', fin_val, fin_tup, fin_agg, fin_ro, res_one, res_more, rv_t, rv_c, rv_l, AV.tup.injEq, AV.agg.injEq, AV.ro.injEq, List.cons.injEq, int_eq, bool_eq, Int.toNat_natCast, Int.reduceToNat, Int.toNat_zero, Int.toNat_one, Int.reduceLE, Int.reduceLT, Int.reduceBEq, Int.reduceBNe, beq_self_eq_true, bne_self_eq_false, decide_true, decide_false,  Int.reduceNeg, toNat_pred, toNat_succ, List.length_map, cnd_t, cnd_f, grd_tt, grd_u, grd_tf, grd_ft, grd_ff, g_skip, g_ops, g_seq, g_block, g_exit, g_ret, x_c, x_o, x_l, x_b, g_b, g_nil, r_all, o_nil, g_cond, o_guard, o_call, o_callm, o_callv, lk, ef, o_mv, o_pick, o_bin, o_never, o_eqs, o_eqb, o_un, o_conv, o_load, o_loadr, o_idxr, o_loads, o_fld, o_idx, o_idxs, o_len, o_lens, o_ext, o_nilck, o_slc, o_slcs, o_build, o_minmax, o_mkfn, o_alloc, o_box, o_boxs, o_row, o_rowr, o_mk, o_asg, o_app, o_store, o_stores, o_eqnil, hv, eqAV, ev, view_t, view_c, view_nil, view_fn, look_own, look_box, look_junk, look_val, look_nilsl, look_ro, look_roAt, look_agg, look_tup, look_clo, look_alias, look_ref, look_into, rowOf, cellsOf, argv, vbin, vun, bnd, elemOf, putParts, setAt, zav, ASt.rid, ASt.free, AV.kill, AV.isHome, AV.noLoan, AV.cellOK, Value.oneCell', put_at, mk_at, mk_nil, initSt, true_and, and_true, and_self, implies_true, List.map_cons, List.map_nil, List.forall_mem_cons, List.not_mem_nil, false_implies, List.length_cons, List.length_nil, List.getD_cons_zero, List.getD_cons_succ, List.getD_nil, List.drop_succ_cons, List.drop_zero, List.take_succ_cons, List.take_zero, List.set_cons_zero, List.set_cons_succ, List.all_cons, List.all_nil, Bool.and_true, Bool.true_and, Bool.not_true, Bool.not_false, reduceCtorEq, if_true, if_false, Bool.false_eq_true, ↓reduceIte, Nat.reduceEqDiff, Nat.reduceAdd, Nat.reduceSub, Nat.reduceMul, Nat.reduceLeDiff, Nat.reduceLT, ne_eq, not_false_eq_true, not_true_eq_false, Nat.one_ne_zero, Nat.zero_ne_one, r50_0, r50_1, r50_2, r50_3, r50_4, r50_5, r50_6, r50_7, r50_8, r50_9, r50_10, r50_11, r50_12, r50_13, r50_14, r50_15, r50_16, r50_17, r50_18, r50_19, r50_20, r50_21, r50_22, r50_23, r50_24, r50_25, p50, l50_1]) | (exfalso; omega)
            all_goals simp [hF2, *]
end Go.Proofs.Ytkklgckmdnejfaa
