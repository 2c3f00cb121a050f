/- SampleRatesAreLeast: with the least rate for a delay, this delay is enough; with one less it is not. A buffer of the Fullness is never greater than all bytes. For every input; no condition. -/
import Derived.Test.YtkklgckmdnejfaaKRate
import Derived.Test.YtkklgckmdnejfaaKPres
import Derived.Test.YtkklgckmdnejfaaRows
namespace Go.Proofs.Ytkklgckmdnejfaa
open Go.RowKit
set_option linter.unusedSimpArgs false

theorem lrGo_up {t0 scale wait : Int} : ∀ {l : List Smp} {rate b r : Int}, lrGo t0 scale wait rate b l = some r → rate ≤ r
  | [], rate, b, r, h => by simp [lrGo] at h; omega
  | s :: l, rate, b, r, h => by
    unfold lrGo at h
    split at h
    · exact lrGo_up h
    · split at h
      · cases h
      · have := lrGo_up h
        omega
theorem needs_up {t0 scale rate : Int} : ∀ {l : List Smp} {m b : Int}, m ≤ needs t0 scale rate m b l
  | [], m, b => by simp [needs]
  | s :: l, m, b => by
    rw [needs]
    exact Int.le_trans (by omega) needs_up
theorem rate_enough {t0 scale wait : Int} (hw : 0 ≤ wait) : ∀ {l : List Smp} {rate b r m : Int}, lrGo t0 scale wait rate b l = some r → 1 ≤ r → 0 ≤ b → (∀ s ∈ l, 0 ≤ s.size ∧ t0 ≤ s.time) → m ≤ wait → needs t0 scale r m b l ≤ wait
  | [], rate, b, r, m, _, _, _, _, hm => by simpa [needs] using hm
  | s :: l, rate, b, r, m, h, hr, hb, hs, hm => by
    have h1 := hs s List.mem_cons_self
    have h2 := fun x hx => hs x (List.mem_cons_of_mem s hx)
    rw [needs]
    unfold lrGo at h
    split at h
    · rename_i hz
      refine rate_enough hw h hr (by omega) h2 ?_
      have : cdiv ((b + s.size).toNat * scale.toNat) r.toNat = 0 := by rw [hz]; simp [cdiv]
      rw [this]; omega
    · split at h
      · cases h
      · rename_i hz ha
        refine rate_enough hw h hr (by omega) h2 ?_
        have hup := lrGo_up h
        have hC : cdiv ((b + s.size).toNat * scale.toNat) (wait + s.time - t0).toNat ≤ r.toNat := by omega
        rw [cdiv_le (by omega)] at hC
        have : cdiv ((b + s.size).toNat * scale.toNat) r.toNat ≤ (wait + s.time - t0).toNat := by
          rw [cdiv_le (by omega), Nat.mul_comm (wait + s.time - t0).toNat]; exact hC
        omega
theorem rate_least {t0 scale wait : Int} : ∀ {l : List Smp} {rate b r m : Int}, lrGo t0 scale wait rate b l = some r → rate < r → 2 ≤ r → 0 ≤ b → (∀ s ∈ l, 0 ≤ s.size ∧ t0 ≤ s.time) → 0 ≤ wait → wait < needs t0 scale (r - 1) m b l
  | [], rate, b, r, m, h, hr, _, _, _, _ => by simp [lrGo] at h; omega
  | s :: l, rate, b, r, m, h, hlt, hr, hb, hs, hw => by
    have h1 := hs s List.mem_cons_self
    have h2 := fun x hx => hs x (List.mem_cons_of_mem s hx)
    rw [needs]
    unfold lrGo at h
    split at h
    · exact rate_least h hlt hr (by omega) h2 hw
    · split at h
      · cases h
      · rename_i hz ha
        have hup := lrGo_up h
        rcases Int.lt_or_le (max rate ((cdiv ((b + s.size).toNat * scale.toNat) (wait + s.time - t0).toNat : Nat) : Int)) r with hc | hc
        · exact rate_least h hc hr (by omega) h2 hw
        · have hC : ¬ cdiv ((b + s.size).toNat * scale.toNat) (wait + s.time - t0).toNat ≤ (r - 1).toNat := by omega
          rw [cdiv_le (by omega)] at hC
          have : ¬ cdiv ((b + s.size).toNat * scale.toNat) (r - 1).toNat ≤ (wait + s.time - t0).toNat := by
            rw [cdiv_le (by omega), Nat.mul_comm (wait + s.time - t0).toNat]; exact hC
          refine Int.lt_of_lt_of_le ?_ needs_up
          omega
theorem ful_bd {t0 scale rate wait all : Int} : ∀ {l : List Smp} {m b : Int}, 0 ≤ m → m ≤ all → 0 ≤ b → (∀ s ∈ l, 0 ≤ s.size) → 0 ≤ fulGo t0 scale rate wait all m b l ∧ fulGo t0 scale rate wait all m b l ≤ all
  | [], m, b, h1, h2, _, _ => by simp [fulGo]; omega
  | s :: l, m, b, h1, h2, h3, hs => by
    rw [fulGo]
    have := hs s List.mem_cons_self
    exact ful_bd (by omega) (by omega) (by omega) fun x hx => hs x (List.mem_cons_of_mem s hx)
theorem leastF_ok {p : Par} {wait : Int} (h : (leastF p wait).2 = 0) : parF p = 0 ∧ outB wait 0 1000000000000 = false ∧ lrGo (p.smps.headD ⟨0, 0, 0, 0, false⟩).time p.scale wait 0 0 p.smps = some (leastF p wait).1 ∧ (leastF p wait).1 ≤ 1000000000 := by
  unfold leastF at h ⊢
  split at h
  · rename_i h1; exact absurd h h1
  · split at h
    · cases h
    · rename_i h1 h2
      rw [if_neg h1, if_neg h2]
      cases hx : lrGo (p.smps.headD ⟨0, 0, 0, 0, false⟩).time p.scale wait 0 0 p.smps with
      | none => rw [hx] at h; cases h
      | some r =>
        rw [hx] at h
        simp only [lrR] at h ⊢
        split at h
        · cases h
        · rename_i h3
          rw [if_neg h3]
          exact ⟨by simpa using h1, by simpa using h2, rfl, by simp only; omega⟩
theorem leastF_no {p : Par} {wait : Int} (h : (leastF p wait).2 ≠ 0) : (leastF p wait).1 = 0 := by
  unfold leastF at h ⊢
  split
  · rfl
  · split
    · rfl
    · rename_i h1 h2
      rw [if_neg h1, if_neg h2] at h
      cases hx : lrGo (p.smps.headD ⟨0, 0, 0, 0, false⟩).time p.scale wait 0 0 p.smps with
      | none => rfl
      | some r =>
        rw [hx] at h
        simp only [lrR] at h ⊢
        split
        · rfl
        · rename_i h3; rw [if_neg h3] at h; exact absurd rfl h
/-! headend/headendlaw3.SampleRatesAreLeast -/
def r6_0 : List POp := [⟨2, .boxs (.t 0), none⟩,
  ⟨4, .asg (.c (.bool false)), none⟩]
def r6_1 : List POp := [⟨13, .loads 2 (.t 2), none⟩,
  ⟨14, .mv (.t 1), none⟩,
  ⟨15, .call 24 [.t 13, .t 14], none⟩,
  ⟨12, .mv (.t 15), none⟩,
  ⟨16, .ext 0 (.t 12), none⟩,
  ⟨17, .ext 1 (.t 12), none⟩,
  ⟨5, .mv (.t 16), none⟩,
  ⟨6, .mv (.t 17), none⟩]
def r6_2 : List POp := [⟨18, .mv (.t 6), none⟩,
  ⟨19, .bin .neq (.t 18) (.c (.int .i64 0)), none⟩,
  ⟨20, .mv (.t 19), none⟩,
  ⟨21, .mv (.t 5), some (20, false)⟩,
  ⟨22, .bin .eql (.t 21) (.c (.int .i64 0)), some (20, false)⟩,
  ⟨23, .pick (.t 20) (.c (.bool true)) (.t 22), none⟩]
def r6_3 : List POp := [⟨24, .mv (.t 6), none⟩,
  ⟨25, .bin .eql (.t 24) (.c (.int .i64 0)), none⟩,
  ⟨26, .mv (.t 25), none⟩,
  ⟨27, .mv (.t 5), some (26, false)⟩,
  ⟨28, .bin .eql (.t 27) (.c (.int .i64 0)), some (26, false)⟩,
  ⟨29, .pick (.t 26) (.c (.bool true)) (.t 28), none⟩,
  ⟨30, .mv (.t 29), none⟩,
  ⟨31, .call 16 [], some (30, true)⟩,
  ⟨32, .pick (.t 30) (.t 31) (.c (.bool false)), none⟩,
  ⟨4, .asg (.t 32), none⟩]
def r6_4 : List POp := [⟨34, .loads 2 (.t 2), none⟩,
  ⟨35, .mv (.t 5), none⟩,
  ⟨36, .call 25 [.t 34, .t 35], none⟩,
  ⟨33, .mv (.t 36), none⟩,
  ⟨37, .ext 0 (.t 33), none⟩,
  ⟨38, .ext 1 (.t 33), none⟩,
  ⟨7, .mv (.t 37), none⟩,
  ⟨6, .mv (.t 38), none⟩]
def r6_5 : List POp := [⟨39, .mv (.t 6), none⟩,
  ⟨40, .bin .neq (.t 39) (.c (.int .i64 0)), none⟩,
  ⟨41, .mv (.t 40), none⟩,
  ⟨42, .mv (.t 7), some (41, false)⟩,
  ⟨43, .mv (.t 1), some (41, false)⟩,
  ⟨44, .bin .gtr (.t 42) (.t 43), some (41, false)⟩,
  ⟨45, .pick (.t 41) (.c (.bool true)) (.t 44), none⟩]
def r6_6 : List POp := [⟨4, .asg (.c (.bool false)), none⟩]
def r6_7 : List POp := [⟨47, .loads 2 (.t 2), none⟩,
  ⟨48, .mv (.t 5), none⟩,
  ⟨49, .mv (.t 1), none⟩,
  ⟨50, .call 26 [.t 47, .t 48, .t 49], none⟩,
  ⟨46, .mv (.t 50), none⟩,
  ⟨51, .ext 0 (.t 46), none⟩,
  ⟨52, .ext 1 (.t 46), none⟩,
  ⟨8, .mv (.t 51), none⟩,
  ⟨6, .mv (.t 52), none⟩]
def r6_8 : List POp := [⟨9, .asg (.c (.int .i64 0)), none⟩]
def r6_9 : List POp := [⟨10, .asg (.c (.int .i64 0)), none⟩]
def r6_10 : List POp := [⟨53, .mv (.t 10), none⟩,
  ⟨54, .fld 1 (.t 2), none⟩,
  ⟨55, .load (.t 54), none⟩,
  ⟨56, .len (.t 55), none⟩,
  ⟨57, .bin .lss (.t 53) (.t 56), none⟩]
def r6_12 : List POp := [⟨60, .mv (.t 9), none⟩,
  ⟨61, .fld 1 (.t 2), none⟩,
  ⟨62, .load (.t 61), none⟩,
  ⟨63, .mv (.t 10), none⟩,
  ⟨64, .idx 5 (.t 62) (.t 63), none⟩,
  ⟨65, .fld 3 (.t 64), none⟩,
  ⟨66, .load (.t 65), none⟩,
  ⟨67, .bin .add (.t 60) (.t 66), none⟩,
  ⟨9, .asg (.t 67), none⟩]
def r6_11 : List POp := [⟨58, .mv (.t 10), none⟩,
  ⟨59, .bin .add (.t 58) (.c (.int .i64 1)), none⟩,
  ⟨10, .asg (.t 59), none⟩]
def r6_13 : List POp := [⟨68, .mv (.t 6), none⟩,
  ⟨69, .bin .neq (.t 68) (.c (.int .i64 0)), none⟩,
  ⟨70, .mv (.t 69), none⟩,
  ⟨71, .mv (.t 8), some (70, false)⟩,
  ⟨72, .bin .lss (.t 71) (.c (.int .i64 0)), some (70, false)⟩,
  ⟨73, .pick (.t 70) (.c (.bool true)) (.t 72), none⟩,
  ⟨74, .mv (.t 73), none⟩,
  ⟨75, .mv (.t 8), some (74, false)⟩,
  ⟨76, .mv (.t 9), some (74, false)⟩,
  ⟨77, .bin .gtr (.t 75) (.t 76), some (74, false)⟩,
  ⟨78, .pick (.t 74) (.c (.bool true)) (.t 77), none⟩]
def r6_14 : List POp := [⟨4, .asg (.c (.bool false)), none⟩]
def r6_15 : List POp := [⟨79, .mv (.t 5), none⟩,
  ⟨80, .bin .eql (.t 79) (.c (.int .i64 1)), none⟩]
def r6_16 : List POp := [⟨81, .call 16 [], none⟩,
  ⟨4, .asg (.t 81), none⟩]
def r6_17 : List POp := [⟨83, .loads 2 (.t 2), none⟩,
  ⟨84, .mv (.t 5), none⟩,
  ⟨85, .bin .sub (.t 84) (.c (.int .i64 1)), none⟩,
  ⟨86, .call 25 [.t 83, .t 85], none⟩,
  ⟨82, .mv (.t 86), none⟩,
  ⟨87, .ext 0 (.t 82), none⟩,
  ⟨88, .ext 1 (.t 82), none⟩,
  ⟨11, .mv (.t 87), none⟩,
  ⟨6, .mv (.t 88), none⟩]
def r6_18 : List POp := [⟨89, .mv (.t 6), none⟩,
  ⟨90, .bin .eql (.t 89) (.c (.int .i64 1)), none⟩,
  ⟨91, .mv (.t 90), none⟩,
  ⟨92, .mv (.t 6), some (91, false)⟩,
  ⟨93, .bin .eql (.t 92) (.c (.int .i64 0)), some (91, false)⟩,
  ⟨94, .mv (.t 93), some (91, false)⟩,
  ⟨95, .mv (.t 11), some (94, true)⟩,
  ⟨96, .mv (.t 1), some (94, true)⟩,
  ⟨97, .bin .gtr (.t 95) (.t 96), some (94, true)⟩,
  ⟨98, .pick (.t 94) (.t 97) (.c (.bool false)), some (91, false)⟩,
  ⟨99, .pick (.t 91) (.c (.bool true)) (.t 98), none⟩,
  ⟨100, .mv (.t 99), none⟩,
  ⟨101, .call 16 [], some (100, true)⟩,
  ⟨102, .pick (.t 100) (.t 101) (.c (.bool false)), none⟩,
  ⟨4, .asg (.t 102), none⟩]
def l6_0 : PCode := .seq (.seq (.ops r6_10) (.cond (.t 57) (.skip) (.exit 0))) (.seq (.block 1 (.ops r6_12)) (.ops r6_11))
def p6 : PCode := .seq (.ops r6_0) (.seq (.ops r6_1) (.seq (.seq (.ops r6_2) (.cond (.t 23) (.seq (.ops r6_3) (.ret)) (.skip))) (.seq (.ops r6_4) (.seq (.seq (.ops r6_5) (.cond (.t 45) (.seq (.ops r6_6) (.ret)) (.skip))) (.seq (.ops r6_7) (.seq (.ops r6_8) (.seq (.seq (.ops r6_9) (.block 0 (.loop l6_0))) (.seq (.seq (.ops r6_13) (.cond (.t 78) (.seq (.ops r6_14) (.ret)) (.skip))) (.seq (.seq (.ops r6_15) (.cond (.t 80) (.seq (.ops r6_16) (.ret)) (.skip))) (.seq (.ops r6_17) (.seq (.ops r6_18) (.ret))))))))))))
theorem ok6 : okFunc Try.prog 6 [.t 4] 2 p6 = true := by kernel_rfl
set_option maxHeartbeats 1000000 in
theorem rates_d (p : Par) (wait : Int) : CallOK Try.prog 6 [.agg p.av, .val (.int .i64 wait)] (.val (.bool true)) := by
  refine call_of mixed ok6 rfl ?_
  have k1 := least_c p wait
  simp only [Par.av] at k1
  by_cases hf : (leastF p wait).2 = 0
  · by_cases hr : (leastF p wait).1 = 0
    · rw [hf, hr] at k1
      repeat' first | (with_reducible refine condD (fun h => ?_) (fun h => ?_)) | (with_reducible refine condE (fun h => ?_) (fun h => ?_)) | (with_reducible refine condN (fun h => ?_) (fun h => ?_)) | (with_reducible refine condI (fun h => ?_) (fun h => ?_)) | (with_reducible refine condS (fun h => ?_) (fun h => ?_)) | (with_reducible refine guardD (by with_unfolding_all rfl) (fun h => ?_) (fun h => ?_)) | (with_reducible refine guardE (by with_unfolding_all rfl) (fun h => ?_) (fun h => ?_)) | (with_reducible refine guardN (by with_unfolding_all rfl) (fun h => ?_) (fun h => ?_)) | (with_reducible refine guardI (by with_unfolding_all rfl) (fun h => ?_) (fun h => ?_)) | (with_reducible refine guardS (by with_unfolding_all rfl) (fun h => ?_) (fun h => ?_)) | ((refine callG k1 ?_)) | ((refine callG awake3_c ?_)) | (with_reducible refine And.intro ?_ ?_; omega) | (simp only [done_eq, done_eq', fin_val, fin_tup, fin_agg, fin_ro, res_one, res_more, rv_t, rv_c, rv_l, AV.tup.injEq, AV.agg.injEq, AV.ro.injEq, List.cons.injEq, int_eq, bool_eq, Int.toNat_natCast, Int.reduceToNat, Int.toNat_zero, Int.toNat_one, Int.reduceLE, Int.reduceLT, Int.reduceBEq, Int.reduceBNe, beq_self_eq_true, bne_self_eq_false, decide_true, decide_false,  Int.reduceNeg, toNat_pred, toNat_succ, List.length_map, cnd_t, cnd_f, grd_tt, grd_u, grd_tf, grd_ft, grd_ff, g_skip, g_ops, g_seq, g_block, g_exit, g_ret, x_c, x_o, x_l, x_b, g_b, g_nil, r_all, o_nil, g_cond, o_guard, o_call, o_callv, lk, ef, o_mv, o_pick, o_bin, o_never, o_eqs, o_eqb, o_un, o_conv, o_load, o_loads, o_fld, o_idx, o_idxs, o_len, o_lens, o_ext, o_nilck, o_slc, o_slcs, o_build, o_minmax, o_mkfn, o_alloc, o_box, o_boxs, o_row, o_rowr, o_mk, o_asg, o_app, o_store, o_stores, hv, eqAV, ev, view_t, view_c, view_nil, view_fn, look_own, look_box, look_junk, look_val, look_nilsl, look_ro, look_roAt, look_agg, look_tup, look_clo, look_alias, look_ref, look_into, rowOf, cellsOf, argv, vbin, vun, bnd, elemOf, putParts, setAt, zav, ASt.rid, ASt.free, AV.kill, AV.isHome, AV.noLoan, AV.cellOK, Value.oneCell', put_at, mk_at, mk_nil, initSt, true_and, and_true, and_self, implies_true, List.map_cons, List.map_nil, List.forall_mem_cons, List.not_mem_nil, false_implies, List.length_cons, List.length_nil, List.getD_cons_zero, List.getD_cons_succ, List.getD_nil, List.drop_succ_cons, List.drop_zero, List.take_succ_cons, List.take_zero, List.set_cons_zero, List.set_cons_succ, List.all_cons, List.all_nil, Bool.and_true, Bool.true_and, Bool.not_true, Bool.not_false, reduceCtorEq, if_true, if_false, Bool.false_eq_true, ↓reduceIte, Nat.reduceEqDiff, Nat.reduceAdd, Nat.reduceSub, Nat.reduceMul, Nat.reduceLeDiff, Nat.reduceLT, ne_eq, not_false_eq_true, not_true_eq_false, Nat.one_ne_zero, Nat.zero_ne_one, r6_0, r6_1, r6_2, r6_3, r6_4, r6_5, r6_6, r6_7, r6_8, r6_9, r6_10, r6_12, r6_11, r6_13, r6_14, r6_15, r6_16, r6_17, r6_18, p6, Par.av]) | (exfalso; omega)
    · obtain ⟨h0, hw, hL, hr9⟩ := leastF_ok hf
      obtain ⟨hl, hb, s1, s2, ht⟩ := par_facts h0
      have bw := outB_f hw
      rw [hf] at k1
      have hall : ∀ s ∈ p.smps, 0 ≤ s.size ∧ (p.smps.headD ⟨0, 0, 0, 0, false⟩).time ≤ s.time := fun s hs => by
        obtain ⟨k, hk, rfl⟩ := List.getElem_of_mem hs
        have b := badSmp_bd (hb _ (List.getElem_mem hk))
        have := ht k hk
        omega
      obtain ⟨r, hrE⟩ : ∃ r, r = (leastF p wait).1 := ⟨_, rfl⟩
      rw [← hrE] at k1 hr hL hr9
      clear hf hrE
      have hr0 := lrGo_up hL
      have hd : delayF p r ≤ wait := rate_enough (by omega) hL (by omega) (Int.le_refl _) hall (by omega)
      have hro : outB r 1 1000000000 = false := by simp [outB]; omega
      have k2 := delayP_c p r
      have e2 : delayP p r = (delayF p r, 0) := by simp [delayP, h0, hro, show ¬ 1000000000000 < delayF p r by omega]
      rw [e2] at k2
      have k3 := full_c p r wait
      have e3 : fullF p r wait = (fulGo (p.smps.headD ⟨0, 0, 0, 0, false⟩).time p.scale r wait (sizes p.smps) 0 0 p.smps, 0) := by simp [fullF, h0, hro, hw, show ¬ wait < delayF p r by omega]
      have b3 := ful_bd (t0 := (p.smps.headD ⟨0, 0, 0, 0, false⟩).time) (scale := p.scale) (rate := r) (wait := wait) (all := sizes p.smps) (l := p.smps) (m := 0) (b := 0) (Int.le_refl _) (sizes_bd hb).1 (Int.le_refl _) fun s hs => (hall s hs).1
      rw [e3] at k3
      generalize fulGo (p.smps.headD ⟨0, 0, 0, 0, false⟩).time p.scale r wait (sizes p.smps) 0 0 p.smps = N at k3 b3
      have hdn : ¬ wait < delayF p r := by omega
      have hw1 : IntKind.i64.wrap (r - 1) = r - 1 := wrap_in (by omega) (by omega)
      have k4 := delayP_c p (r - 1)
      have h4 : 2 ≤ r → (delayP p (r - 1)).2 = 1 ∨ ((delayP p (r - 1)).2 = 0 ∧ wait < (delayP p (r - 1)).1) := fun h2 => by
        have hl4 : wait < delayF p (r - 1) := rate_least hL (by omega) h2 (Int.le_refl _) hall (by omega)
        have hro4 : outB (r - 1) 1 1000000000 = false := by simp [outB]; omega
        unfold delayP
        rw [if_neg (by simp [h0]), if_neg (by simp [hro4])]
        split
        · exact .inl rfl
        · exact .inr ⟨rfl, hl4⟩
      simp only [Par.av] at k2 k3 k4
      clear e2 e3 hL hd
      generalize delayF p r = D at *
      generalize (delayP p (r - 1)).1 = E4 at *
      generalize (delayP p (r - 1)).2 = F4 at *
      obtain ⟨scale, l⟩ := p
      simp only at *
      repeat' first | (with_reducible refine condD (fun h => ?_) (fun h => ?_)) | (with_reducible refine condE (fun h => ?_) (fun h => ?_)) | (with_reducible refine condN (fun h => ?_) (fun h => ?_)) | (with_reducible refine condI (fun h => ?_) (fun h => ?_)) | (with_reducible refine condS (fun h => ?_) (fun h => ?_)) | (with_reducible refine guardD (by with_unfolding_all rfl) (fun h => ?_) (fun h => ?_)) | (with_reducible refine guardE (by with_unfolding_all rfl) (fun h => ?_) (fun h => ?_)) | (with_reducible refine guardN (by with_unfolding_all rfl) (fun h => ?_) (fun h => ?_)) | (with_reducible refine guardI (by with_unfolding_all rfl) (fun h => ?_) (fun h => ?_)) | (with_reducible refine guardS (by with_unfolding_all rfl) (fun h => ?_) (fun h => ?_)) | ((refine callG k1 ?_)) | ((refine callG k2 ?_)) | ((refine callG k3 ?_)) | (with_reducible refine And.intro ?_ ?_; omega) | (simp only [done_eq, done_eq', fin_val, fin_tup, fin_agg, fin_ro, res_one, res_more, rv_t, rv_c, rv_l, AV.tup.injEq, AV.agg.injEq, AV.ro.injEq, List.cons.injEq, int_eq, bool_eq, Int.toNat_natCast, Int.reduceToNat, Int.toNat_zero, Int.toNat_one, Int.reduceLE, Int.reduceLT, Int.reduceBEq, Int.reduceBNe, beq_self_eq_true, bne_self_eq_false, decide_true, decide_false,  Int.reduceNeg, toNat_pred, toNat_succ, List.length_map, cnd_t, cnd_f, grd_tt, grd_u, grd_tf, grd_ft, grd_ff, g_skip, g_ops, g_seq, g_block, g_exit, g_ret, x_c, x_o, x_l, x_b, g_b, g_nil, r_all, o_nil, g_cond, o_guard, o_call, o_callv, lk, ef, o_mv, o_pick, o_bin, o_never, o_eqs, o_eqb, o_un, o_conv, o_load, o_loads, o_fld, o_idx, o_idxs, o_len, o_lens, o_ext, o_nilck, o_slc, o_slcs, o_build, o_minmax, o_mkfn, o_alloc, o_box, o_boxs, o_row, o_rowr, o_mk, o_asg, o_app, o_store, o_stores, hv, eqAV, ev, view_t, view_c, view_nil, view_fn, look_own, look_box, look_junk, look_val, look_nilsl, look_ro, look_roAt, look_agg, look_tup, look_clo, look_alias, look_ref, look_into, rowOf, cellsOf, argv, vbin, vun, bnd, elemOf, putParts, setAt, zav, ASt.rid, ASt.free, AV.kill, AV.isHome, AV.noLoan, AV.cellOK, Value.oneCell', put_at, mk_at, mk_nil, initSt, true_and, and_true, and_self, implies_true, List.map_cons, List.map_nil, List.forall_mem_cons, List.not_mem_nil, false_implies, List.length_cons, List.length_nil, List.getD_cons_zero, List.getD_cons_succ, List.getD_nil, List.drop_succ_cons, List.drop_zero, List.take_succ_cons, List.take_zero, List.set_cons_zero, List.set_cons_succ, List.all_cons, List.all_nil, Bool.and_true, Bool.true_and, Bool.not_true, Bool.not_false, reduceCtorEq, if_true, if_false, Bool.false_eq_true, ↓reduceIte, Nat.reduceEqDiff, Nat.reduceAdd, Nat.reduceSub, Nat.reduceMul, Nat.reduceLeDiff, Nat.reduceLT, ne_eq, not_false_eq_true, not_true_eq_false, Nat.one_ne_zero, Nat.zero_ne_one, r6_0, r6_1, r6_2, r6_3, r6_4, r6_5, r6_6, r6_7, r6_8, r6_9, r6_10, r6_12, r6_11, r6_13, r6_14, r6_15, r6_16, r6_17, r6_18, p6, Par.av, beq0_f hr, bne0_t hr, hdn]) | (exfalso; omega)
      refine loopS (fun k : Nat => mk [(1, .val (.int .i64 wait)), (2, .box [.val (.int .i64 scale), .ro (l.map Smp.av)]), (5, .val (.int .i64 r)), (6, .val (.int .i64 0)), (8, .val (.int .i64 N)), (9, .val (.int .i64 (sizes (l.take k)))), (10, .val (.int .i64 k))]) (fun k => k ≤ l.length) (fun k => l.length - k) 0 (weak_mk ?_) (Nat.zero_le _) ?_
      · simp only [wk_cons, wk_nil, wk1, vint_eq, vbool_eq, AV.val.injEq, done_eq, done_eq', fin_val, fin_tup, fin_agg, fin_ro, res_one, res_more, rv_t, rv_c, rv_l, AV.tup.injEq, AV.agg.injEq, AV.ro.injEq, List.cons.injEq, int_eq, bool_eq, Int.toNat_natCast, Int.reduceToNat, Int.toNat_zero, Int.toNat_one, Int.reduceLE, Int.reduceLT, Int.reduceBEq, Int.reduceBNe, beq_self_eq_true, bne_self_eq_false, decide_true, decide_false,  Int.reduceNeg, toNat_pred, toNat_succ, List.length_map, cnd_t, cnd_f, grd_tt, grd_u, grd_tf, grd_ft, grd_ff, g_skip, g_ops, g_seq, g_block, g_exit, g_ret, x_c, x_o, x_l, x_b, g_b, g_nil, r_all, o_nil, g_cond, o_guard, o_call, o_callv, lk, ef, o_mv, o_pick, o_bin, o_never, o_eqs, o_eqb, o_un, o_conv, o_load, o_loads, o_fld, o_idx, o_idxs, o_len, o_lens, o_ext, o_nilck, o_slc, o_slcs, o_build, o_minmax, o_mkfn, o_alloc, o_box, o_boxs, o_row, o_rowr, o_mk, o_asg, o_app, o_store, o_stores, hv, eqAV, ev, view_t, view_c, view_nil, view_fn, look_own, look_box, look_junk, look_val, look_nilsl, look_ro, look_roAt, look_agg, look_tup, look_clo, look_alias, look_ref, look_into, rowOf, cellsOf, argv, vbin, vun, bnd, elemOf, putParts, setAt, zav, ASt.rid, ASt.free, AV.kill, AV.isHome, AV.noLoan, AV.cellOK, Value.oneCell', put_at, mk_at, mk_nil, initSt, true_and, and_true, and_self, implies_true, List.map_cons, List.map_nil, List.forall_mem_cons, List.not_mem_nil, false_implies, List.length_cons, List.length_nil, List.getD_cons_zero, List.getD_cons_succ, List.getD_nil, List.drop_succ_cons, List.drop_zero, List.take_succ_cons, List.take_zero, List.set_cons_zero, List.set_cons_succ, List.all_cons, List.all_nil, Bool.and_true, Bool.true_and, Bool.not_true, Bool.not_false, reduceCtorEq, if_true, if_false, Bool.false_eq_true, ↓reduceIte, Nat.reduceEqDiff, Nat.reduceAdd, Nat.reduceSub, Nat.reduceMul, Nat.reduceLeDiff, Nat.reduceLT, ne_eq, not_false_eq_true, not_true_eq_false, Nat.one_ne_zero, Nat.zero_ne_one]
        simp [sizes]
      · rintro J hJ k hk
        simp only [done_eq, done_eq', fin_val, fin_tup, fin_agg, fin_ro, res_one, res_more, rv_t, rv_c, rv_l, AV.tup.injEq, AV.agg.injEq, AV.ro.injEq, List.cons.injEq, int_eq, bool_eq, Int.toNat_natCast, Int.reduceToNat, Int.toNat_zero, Int.toNat_one, Int.reduceLE, Int.reduceLT, Int.reduceBEq, Int.reduceBNe, beq_self_eq_true, bne_self_eq_false, decide_true, decide_false,  Int.reduceNeg, toNat_pred, toNat_succ, List.length_map, cnd_t, cnd_f, grd_tt, grd_u, grd_tf, grd_ft, grd_ff, g_skip, g_ops, g_seq, g_block, g_exit, g_ret, x_c, x_o, x_l, x_b, g_b, g_nil, r_all, o_nil, g_cond, o_guard, o_call, o_callv, lk, ef, o_mv, o_pick, o_bin, o_never, o_eqs, o_eqb, o_un, o_conv, o_load, o_loads, o_fld, o_idx, o_idxs, o_len, o_lens, o_ext, o_nilck, o_slc, o_slcs, o_build, o_minmax, o_mkfn, o_alloc, o_box, o_boxs, o_row, o_rowr, o_mk, o_asg, o_app, o_store, o_stores, hv, eqAV, ev, view_t, view_c, view_nil, view_fn, look_own, look_box, look_junk, look_val, look_nilsl, look_ro, look_roAt, look_agg, look_tup, look_clo, look_alias, look_ref, look_into, rowOf, cellsOf, argv, vbin, vun, bnd, elemOf, putParts, setAt, zav, ASt.rid, ASt.free, AV.kill, AV.isHome, AV.noLoan, AV.cellOK, Value.oneCell', put_at, mk_at, mk_nil, initSt, true_and, and_true, and_self, implies_true, List.map_cons, List.map_nil, List.forall_mem_cons, List.not_mem_nil, false_implies, List.length_cons, List.length_nil, List.getD_cons_zero, List.getD_cons_succ, List.getD_nil, List.drop_succ_cons, List.drop_zero, List.take_succ_cons, List.take_zero, List.set_cons_zero, List.set_cons_succ, List.all_cons, List.all_nil, Bool.and_true, Bool.true_and, Bool.not_true, Bool.not_false, reduceCtorEq, if_true, if_false, Bool.false_eq_true, ↓reduceIte, Nat.reduceEqDiff, Nat.reduceAdd, Nat.reduceSub, Nat.reduceMul, Nat.reduceLeDiff, Nat.reduceLT, ne_eq, not_false_eq_true, not_true_eq_false, Nat.one_ne_zero, Nat.zero_ne_one, r6_0, r6_1, r6_2, r6_3, r6_4, r6_5, r6_6, r6_7, r6_8, r6_9, r6_10, r6_12, r6_11, r6_13, r6_14, r6_15, r6_16, r6_17, r6_18, p6, l6_0]
        refine condD (fun h => ?_) (fun h => ?_)
        · have hlt : k < l.length := by omega
          have hw := i_add1 k (by omega)
          have b1 := sizes_bd (l := l.take k) fun s hs => hb s (List.mem_of_mem_take hs)
          have b2 := badSmp_bd (hb l[k] (List.getElem_mem hlt))
          have hlen : (l.take k).length ≤ 5000 := by rw [List.length_take]; omega
          have hs := sizes_take hlt
          have w1 : IntKind.i64.wrap (sizes (l.take k) + l[k].size) = sizes (l.take (k + 1)) := by rw [hs]; exact wrap_in (by omega) (by omega)
          repeat' first | (with_reducible refine condD (fun h => ?_) (fun h => ?_)) | (with_reducible refine condE (fun h => ?_) (fun h => ?_)) | (with_reducible refine condN (fun h => ?_) (fun h => ?_)) | (with_reducible refine condI (fun h => ?_) (fun h => ?_)) | (with_reducible refine condS (fun h => ?_) (fun h => ?_)) | (with_reducible refine guardD (by with_unfolding_all rfl) (fun h => ?_) (fun h => ?_)) | (with_reducible refine guardE (by with_unfolding_all rfl) (fun h => ?_) (fun h => ?_)) | (with_reducible refine guardN (by with_unfolding_all rfl) (fun h => ?_) (fun h => ?_)) | (with_reducible refine guardI (by with_unfolding_all rfl) (fun h => ?_) (fun h => ?_)) | (with_reducible refine guardS (by with_unfolding_all rfl) (fun h => ?_) (fun h => ?_)) | (with_reducible refine And.intro ?_ ?_; omega) | (simp only [done_eq, done_eq', fin_val, fin_tup, fin_agg, fin_ro, res_one, res_more, rv_t, rv_c, rv_l, AV.tup.injEq, AV.agg.injEq, AV.ro.injEq, List.cons.injEq, int_eq, bool_eq, Int.toNat_natCast, Int.reduceToNat, Int.toNat_zero, Int.toNat_one, Int.reduceLE, Int.reduceLT, Int.reduceBEq, Int.reduceBNe, beq_self_eq_true, bne_self_eq_false, decide_true, decide_false,  Int.reduceNeg, toNat_pred, toNat_succ, List.length_map, cnd_t, cnd_f, grd_tt, grd_u, grd_tf, grd_ft, grd_ff, g_skip, g_ops, g_seq, g_block, g_exit, g_ret, x_c, x_o, x_l, x_b, g_b, g_nil, r_all, o_nil, g_cond, o_guard, o_call, o_callv, lk, ef, o_mv, o_pick, o_bin, o_never, o_eqs, o_eqb, o_un, o_conv, o_load, o_loads, o_fld, o_idx, o_idxs, o_len, o_lens, o_ext, o_nilck, o_slc, o_slcs, o_build, o_minmax, o_mkfn, o_alloc, o_box, o_boxs, o_row, o_rowr, o_mk, o_asg, o_app, o_store, o_stores, hv, eqAV, ev, view_t, view_c, view_nil, view_fn, look_own, look_box, look_junk, look_val, look_nilsl, look_ro, look_roAt, look_agg, look_tup, look_clo, look_alias, look_ref, look_into, rowOf, cellsOf, argv, vbin, vun, bnd, elemOf, putParts, setAt, zav, ASt.rid, ASt.free, AV.kill, AV.isHome, AV.noLoan, AV.cellOK, Value.oneCell', put_at, mk_at, mk_nil, initSt, true_and, and_true, and_self, implies_true, List.map_cons, List.map_nil, List.forall_mem_cons, List.not_mem_nil, false_implies, List.length_cons, List.length_nil, List.getD_cons_zero, List.getD_cons_succ, List.getD_nil, List.drop_succ_cons, List.drop_zero, List.take_succ_cons, List.take_zero, List.set_cons_zero, List.set_cons_succ, List.all_cons, List.all_nil, Bool.and_true, Bool.true_and, Bool.not_true, Bool.not_false, reduceCtorEq, if_true, if_false, Bool.false_eq_true, ↓reduceIte, Nat.reduceEqDiff, Nat.reduceAdd, Nat.reduceSub, Nat.reduceMul, Nat.reduceLeDiff, Nat.reduceLT, ne_eq, not_false_eq_true, not_true_eq_false, Nat.one_ne_zero, Nat.zero_ne_one, r6_0, r6_1, r6_2, r6_3, r6_4, r6_5, r6_6, r6_7, r6_8, r6_9, r6_10, r6_12, r6_11, r6_13, r6_14, r6_15, r6_16, r6_17, r6_18, p6, l6_0, Smp.av, getD_map hlt, w1]) | (exfalso; omega)
          exact again hJ (k + 1) (weak_mk (by simp only [wk_cons, wk_nil, wk1, vint_eq, vbool_eq, AV.val.injEq, done_eq, done_eq', fin_val, fin_tup, fin_agg, fin_ro, res_one, res_more, rv_t, rv_c, rv_l, AV.tup.injEq, AV.agg.injEq, AV.ro.injEq, List.cons.injEq, int_eq, bool_eq, Int.toNat_natCast, Int.reduceToNat, Int.toNat_zero, Int.toNat_one, Int.reduceLE, Int.reduceLT, Int.reduceBEq, Int.reduceBNe, beq_self_eq_true, bne_self_eq_false, decide_true, decide_false,  Int.reduceNeg, toNat_pred, toNat_succ, List.length_map, cnd_t, cnd_f, grd_tt, grd_u, grd_tf, grd_ft, grd_ff, g_skip, g_ops, g_seq, g_block, g_exit, g_ret, x_c, x_o, x_l, x_b, g_b, g_nil, r_all, o_nil, g_cond, o_guard, o_call, o_callv, lk, ef, o_mv, o_pick, o_bin, o_never, o_eqs, o_eqb, o_un, o_conv, o_load, o_loads, o_fld, o_idx, o_idxs, o_len, o_lens, o_ext, o_nilck, o_slc, o_slcs, o_build, o_minmax, o_mkfn, o_alloc, o_box, o_boxs, o_row, o_rowr, o_mk, o_asg, o_app, o_store, o_stores, hv, eqAV, ev, view_t, view_c, view_nil, view_fn, look_own, look_box, look_junk, look_val, look_nilsl, look_ro, look_roAt, look_agg, look_tup, look_clo, look_alias, look_ref, look_into, rowOf, cellsOf, argv, vbin, vun, bnd, elemOf, putParts, setAt, zav, ASt.rid, ASt.free, AV.kill, AV.isHome, AV.noLoan, AV.cellOK, Value.oneCell', put_at, mk_at, mk_nil, initSt, true_and, and_true, and_self, implies_true, List.map_cons, List.map_nil, List.forall_mem_cons, List.not_mem_nil, false_implies, List.length_cons, List.length_nil, List.getD_cons_zero, List.getD_cons_succ, List.getD_nil, List.drop_succ_cons, List.drop_zero, List.take_succ_cons, List.take_zero, List.set_cons_zero, List.set_cons_succ, List.all_cons, List.all_nil, Bool.and_true, Bool.true_and, Bool.not_true, Bool.not_false, reduceCtorEq, if_true, if_false, Bool.false_eq_true, ↓reduceIte, Nat.reduceEqDiff, Nat.reduceAdd, Nat.reduceSub, Nat.reduceMul, Nat.reduceLeDiff, Nat.reduceLT, ne_eq, not_false_eq_true, not_true_eq_false, Nat.one_ne_zero, Nat.zero_ne_one]; exact hw)) (by omega) (by omega)
        · have hke : k = l.length := by omega
          subst hke
          rw [List.take_length] at *
          have c1 : ¬ N < 0 := by omega
          have c2 : ¬ sizes l < N := by omega
          clear hJ
          by_cases h1 : r = 1
          · have h1' : (r == 1) = true := by rw [beq_iff_eq]; exact h1
            repeat' first | (with_reducible refine condD (fun h => ?_) (fun h => ?_)) | (with_reducible refine condE (fun h => ?_) (fun h => ?_)) | (with_reducible refine condN (fun h => ?_) (fun h => ?_)) | (with_reducible refine condI (fun h => ?_) (fun h => ?_)) | (with_reducible refine condS (fun h => ?_) (fun h => ?_)) | (with_reducible refine guardD (by with_unfolding_all rfl) (fun h => ?_) (fun h => ?_)) | (with_reducible refine guardE (by with_unfolding_all rfl) (fun h => ?_) (fun h => ?_)) | (with_reducible refine guardN (by with_unfolding_all rfl) (fun h => ?_) (fun h => ?_)) | (with_reducible refine guardI (by with_unfolding_all rfl) (fun h => ?_) (fun h => ?_)) | (with_reducible refine guardS (by with_unfolding_all rfl) (fun h => ?_) (fun h => ?_)) | ((refine callG awake3_c ?_)) | (with_reducible refine And.intro ?_ ?_; omega) | (simp only [done_eq, done_eq', fin_val, fin_tup, fin_agg, fin_ro, res_one, res_more, rv_t, rv_c, rv_l, AV.tup.injEq, AV.agg.injEq, AV.ro.injEq, List.cons.injEq, int_eq, bool_eq, Int.toNat_natCast, Int.reduceToNat, Int.toNat_zero, Int.toNat_one, Int.reduceLE, Int.reduceLT, Int.reduceBEq, Int.reduceBNe, beq_self_eq_true, bne_self_eq_false, decide_true, decide_false,  Int.reduceNeg, toNat_pred, toNat_succ, List.length_map, cnd_t, cnd_f, grd_tt, grd_u, grd_tf, grd_ft, grd_ff, g_skip, g_ops, g_seq, g_block, g_exit, g_ret, x_c, x_o, x_l, x_b, g_b, g_nil, r_all, o_nil, g_cond, o_guard, o_call, o_callv, lk, ef, o_mv, o_pick, o_bin, o_never, o_eqs, o_eqb, o_un, o_conv, o_load, o_loads, o_fld, o_idx, o_idxs, o_len, o_lens, o_ext, o_nilck, o_slc, o_slcs, o_build, o_minmax, o_mkfn, o_alloc, o_box, o_boxs, o_row, o_rowr, o_mk, o_asg, o_app, o_store, o_stores, hv, eqAV, ev, view_t, view_c, view_nil, view_fn, look_own, look_box, look_junk, look_val, look_nilsl, look_ro, look_roAt, look_agg, look_tup, look_clo, look_alias, look_ref, look_into, rowOf, cellsOf, argv, vbin, vun, bnd, elemOf, putParts, setAt, zav, ASt.rid, ASt.free, AV.kill, AV.isHome, AV.noLoan, AV.cellOK, Value.oneCell', put_at, mk_at, mk_nil, initSt, true_and, and_true, and_self, implies_true, List.map_cons, List.map_nil, List.forall_mem_cons, List.not_mem_nil, false_implies, List.length_cons, List.length_nil, List.getD_cons_zero, List.getD_cons_succ, List.getD_nil, List.drop_succ_cons, List.drop_zero, List.take_succ_cons, List.take_zero, List.set_cons_zero, List.set_cons_succ, List.all_cons, List.all_nil, Bool.and_true, Bool.true_and, Bool.not_true, Bool.not_false, reduceCtorEq, if_true, if_false, Bool.false_eq_true, ↓reduceIte, Nat.reduceEqDiff, Nat.reduceAdd, Nat.reduceSub, Nat.reduceMul, Nat.reduceLeDiff, Nat.reduceLT, ne_eq, not_false_eq_true, not_true_eq_false, Nat.one_ne_zero, Nat.zero_ne_one, r6_0, r6_1, r6_2, r6_3, r6_4, r6_5, r6_6, r6_7, r6_8, r6_9, r6_10, r6_12, r6_11, r6_13, r6_14, r6_15, r6_16, r6_17, r6_18, p6, l6_0, c1, c2, h1']) | (exfalso; omega)
          · have h1' : (r == 1) = false := by rw [beq_eq_false_iff_ne]; exact h1
            rcases h4 (by omega) with rfl | ⟨rfl, h5⟩
            · repeat' first | (with_reducible refine condD (fun h => ?_) (fun h => ?_)) | (with_reducible refine condE (fun h => ?_) (fun h => ?_)) | (with_reducible refine condN (fun h => ?_) (fun h => ?_)) | (with_reducible refine condI (fun h => ?_) (fun h => ?_)) | (with_reducible refine condS (fun h => ?_) (fun h => ?_)) | (with_reducible refine guardD (by with_unfolding_all rfl) (fun h => ?_) (fun h => ?_)) | (with_reducible refine guardE (by with_unfolding_all rfl) (fun h => ?_) (fun h => ?_)) | (with_reducible refine guardN (by with_unfolding_all rfl) (fun h => ?_) (fun h => ?_)) | (with_reducible refine guardI (by with_unfolding_all rfl) (fun h => ?_) (fun h => ?_)) | (with_reducible refine guardS (by with_unfolding_all rfl) (fun h => ?_) (fun h => ?_)) | ((refine callG k4 ?_)) | ((refine callG awake3_c ?_)) | (with_reducible refine And.intro ?_ ?_; omega) | (simp only [done_eq, done_eq', fin_val, fin_tup, fin_agg, fin_ro, res_one, res_more, rv_t, rv_c, rv_l, AV.tup.injEq, AV.agg.injEq, AV.ro.injEq, List.cons.injEq, int_eq, bool_eq, Int.toNat_natCast, Int.reduceToNat, Int.toNat_zero, Int.toNat_one, Int.reduceLE, Int.reduceLT, Int.reduceBEq, Int.reduceBNe, beq_self_eq_true, bne_self_eq_false, decide_true, decide_false,  Int.reduceNeg, toNat_pred, toNat_succ, List.length_map, cnd_t, cnd_f, grd_tt, grd_u, grd_tf, grd_ft, grd_ff, g_skip, g_ops, g_seq, g_block, g_exit, g_ret, x_c, x_o, x_l, x_b, g_b, g_nil, r_all, o_nil, g_cond, o_guard, o_call, o_callv, lk, ef, o_mv, o_pick, o_bin, o_never, o_eqs, o_eqb, o_un, o_conv, o_load, o_loads, o_fld, o_idx, o_idxs, o_len, o_lens, o_ext, o_nilck, o_slc, o_slcs, o_build, o_minmax, o_mkfn, o_alloc, o_box, o_boxs, o_row, o_rowr, o_mk, o_asg, o_app, o_store, o_stores, hv, eqAV, ev, view_t, view_c, view_nil, view_fn, look_own, look_box, look_junk, look_val, look_nilsl, look_ro, look_roAt, look_agg, look_tup, look_clo, look_alias, look_ref, look_into, rowOf, cellsOf, argv, vbin, vun, bnd, elemOf, putParts, setAt, zav, ASt.rid, ASt.free, AV.kill, AV.isHome, AV.noLoan, AV.cellOK, Value.oneCell', put_at, mk_at, mk_nil, initSt, true_and, and_true, and_self, implies_true, List.map_cons, List.map_nil, List.forall_mem_cons, List.not_mem_nil, false_implies, List.length_cons, List.length_nil, List.getD_cons_zero, List.getD_cons_succ, List.getD_nil, List.drop_succ_cons, List.drop_zero, List.take_succ_cons, List.take_zero, List.set_cons_zero, List.set_cons_succ, List.all_cons, List.all_nil, Bool.and_true, Bool.true_and, Bool.not_true, Bool.not_false, reduceCtorEq, if_true, if_false, Bool.false_eq_true, ↓reduceIte, Nat.reduceEqDiff, Nat.reduceAdd, Nat.reduceSub, Nat.reduceMul, Nat.reduceLeDiff, Nat.reduceLT, ne_eq, not_false_eq_true, not_true_eq_false, Nat.one_ne_zero, Nat.zero_ne_one, r6_0, r6_1, r6_2, r6_3, r6_4, r6_5, r6_6, r6_7, r6_8, r6_9, r6_10, r6_12, r6_11, r6_13, r6_14, r6_15, r6_16, r6_17, r6_18, p6, l6_0, c1, c2, h1', hw1]) | (exfalso; omega)
            · repeat' first | (with_reducible refine condD (fun h => ?_) (fun h => ?_)) | (with_reducible refine condE (fun h => ?_) (fun h => ?_)) | (with_reducible refine condN (fun h => ?_) (fun h => ?_)) | (with_reducible refine condI (fun h => ?_) (fun h => ?_)) | (with_reducible refine condS (fun h => ?_) (fun h => ?_)) | (with_reducible refine guardD (by with_unfolding_all rfl) (fun h => ?_) (fun h => ?_)) | (with_reducible refine guardE (by with_unfolding_all rfl) (fun h => ?_) (fun h => ?_)) | (with_reducible refine guardN (by with_unfolding_all rfl) (fun h => ?_) (fun h => ?_)) | (with_reducible refine guardI (by with_unfolding_all rfl) (fun h => ?_) (fun h => ?_)) | (with_reducible refine guardS (by with_unfolding_all rfl) (fun h => ?_) (fun h => ?_)) | ((refine callG k4 ?_)) | ((refine callG awake3_c ?_)) | (with_reducible refine And.intro ?_ ?_; omega) | (simp only [done_eq, done_eq', fin_val, fin_tup, fin_agg, fin_ro, res_one, res_more, rv_t, rv_c, rv_l, AV.tup.injEq, AV.agg.injEq, AV.ro.injEq, List.cons.injEq, int_eq, bool_eq, Int.toNat_natCast, Int.reduceToNat, Int.toNat_zero, Int.toNat_one, Int.reduceLE, Int.reduceLT, Int.reduceBEq, Int.reduceBNe, beq_self_eq_true, bne_self_eq_false, decide_true, decide_false,  Int.reduceNeg, toNat_pred, toNat_succ, List.length_map, cnd_t, cnd_f, grd_tt, grd_u, grd_tf, grd_ft, grd_ff, g_skip, g_ops, g_seq, g_block, g_exit, g_ret, x_c, x_o, x_l, x_b, g_b, g_nil, r_all, o_nil, g_cond, o_guard, o_call, o_callv, lk, ef, o_mv, o_pick, o_bin, o_never, o_eqs, o_eqb, o_un, o_conv, o_load, o_loads, o_fld, o_idx, o_idxs, o_len, o_lens, o_ext, o_nilck, o_slc, o_slcs, o_build, o_minmax, o_mkfn, o_alloc, o_box, o_boxs, o_row, o_rowr, o_mk, o_asg, o_app, o_store, o_stores, hv, eqAV, ev, view_t, view_c, view_nil, view_fn, look_own, look_box, look_junk, look_val, look_nilsl, look_ro, look_roAt, look_agg, look_tup, look_clo, look_alias, look_ref, look_into, rowOf, cellsOf, argv, vbin, vun, bnd, elemOf, putParts, setAt, zav, ASt.rid, ASt.free, AV.kill, AV.isHome, AV.noLoan, AV.cellOK, Value.oneCell', put_at, mk_at, mk_nil, initSt, true_and, and_true, and_self, implies_true, List.map_cons, List.map_nil, List.forall_mem_cons, List.not_mem_nil, false_implies, List.length_cons, List.length_nil, List.getD_cons_zero, List.getD_cons_succ, List.getD_nil, List.drop_succ_cons, List.drop_zero, List.take_succ_cons, List.take_zero, List.set_cons_zero, List.set_cons_succ, List.all_cons, List.all_nil, Bool.and_true, Bool.true_and, Bool.not_true, Bool.not_false, reduceCtorEq, if_true, if_false, Bool.false_eq_true, ↓reduceIte, Nat.reduceEqDiff, Nat.reduceAdd, Nat.reduceSub, Nat.reduceMul, Nat.reduceLeDiff, Nat.reduceLT, ne_eq, not_false_eq_true, not_true_eq_false, Nat.one_ne_zero, Nat.zero_ne_one, r6_0, r6_1, r6_2, r6_3, r6_4, r6_5, r6_6, r6_7, r6_8, r6_9, r6_10, r6_12, r6_11, r6_13, r6_14, r6_15, r6_16, r6_17, r6_18, p6, l6_0, c1, c2, h1', hw1, h5]) | (exfalso; omega)
  · rw [leastF_no hf] at k1
    generalize (leastF p wait).2 = F at *
    repeat' first | (with_reducible refine condD (fun h => ?_) (fun h => ?_)) | (with_reducible refine condE (fun h => ?_) (fun h => ?_)) | (with_reducible refine condN (fun h => ?_) (fun h => ?_)) | (with_reducible refine condI (fun h => ?_) (fun h => ?_)) | (with_reducible refine condS (fun h => ?_) (fun h => ?_)) | (with_reducible refine guardD (by with_unfolding_all rfl) (fun h => ?_) (fun h => ?_)) | (with_reducible refine guardE (by with_unfolding_all rfl) (fun h => ?_) (fun h => ?_)) | (with_reducible refine guardN (by with_unfolding_all rfl) (fun h => ?_) (fun h => ?_)) | (with_reducible refine guardI (by with_unfolding_all rfl) (fun h => ?_) (fun h => ?_)) | (with_reducible refine guardS (by with_unfolding_all rfl) (fun h => ?_) (fun h => ?_)) | ((refine callG k1 ?_)) | ((refine callG awake3_c ?_)) | (with_reducible refine And.intro ?_ ?_; omega) | (simp only [done_eq, done_eq', fin_val, fin_tup, fin_agg, fin_ro, res_one, res_more, rv_t, rv_c, rv_l, AV.tup.injEq, AV.agg.injEq, AV.ro.injEq, List.cons.injEq, int_eq, bool_eq, Int.toNat_natCast, Int.reduceToNat, Int.toNat_zero, Int.toNat_one, Int.reduceLE, Int.reduceLT, Int.reduceBEq, Int.reduceBNe, beq_self_eq_true, bne_self_eq_false, decide_true, decide_false,  Int.reduceNeg, toNat_pred, toNat_succ, List.length_map, cnd_t, cnd_f, grd_tt, grd_u, grd_tf, grd_ft, grd_ff, g_skip, g_ops, g_seq, g_block, g_exit, g_ret, x_c, x_o, x_l, x_b, g_b, g_nil, r_all, o_nil, g_cond, o_guard, o_call, o_callv, lk, ef, o_mv, o_pick, o_bin, o_never, o_eqs, o_eqb, o_un, o_conv, o_load, o_loads, o_fld, o_idx, o_idxs, o_len, o_lens, o_ext, o_nilck, o_slc, o_slcs, o_build, o_minmax, o_mkfn, o_alloc, o_box, o_boxs, o_row, o_rowr, o_mk, o_asg, o_app, o_store, o_stores, hv, eqAV, ev, view_t, view_c, view_nil, view_fn, look_own, look_box, look_junk, look_val, look_nilsl, look_ro, look_roAt, look_agg, look_tup, look_clo, look_alias, look_ref, look_into, rowOf, cellsOf, argv, vbin, vun, bnd, elemOf, putParts, setAt, zav, ASt.rid, ASt.free, AV.kill, AV.isHome, AV.noLoan, AV.cellOK, Value.oneCell', put_at, mk_at, mk_nil, initSt, true_and, and_true, and_self, implies_true, List.map_cons, List.map_nil, List.forall_mem_cons, List.not_mem_nil, false_implies, List.length_cons, List.length_nil, List.getD_cons_zero, List.getD_cons_succ, List.getD_nil, List.drop_succ_cons, List.drop_zero, List.take_succ_cons, List.take_zero, List.set_cons_zero, List.set_cons_succ, List.all_cons, List.all_nil, Bool.and_true, Bool.true_and, Bool.not_true, Bool.not_false, reduceCtorEq, if_true, if_false, Bool.false_eq_true, ↓reduceIte, Nat.reduceEqDiff, Nat.reduceAdd, Nat.reduceSub, Nat.reduceMul, Nat.reduceLeDiff, Nat.reduceLT, ne_eq, not_false_eq_true, not_true_eq_false, Nat.one_ne_zero, Nat.zero_ne_one, r6_0, r6_1, r6_2, r6_3, r6_4, r6_5, r6_6, r6_7, r6_8, r6_9, r6_10, r6_12, r6_11, r6_13, r6_14, r6_15, r6_16, r6_17, r6_18, p6, Par.av, bne0_t hf, beq0_f hf]) | (exfalso; omega)
theorem rates_c : ∀ avs, HasArgs [.agg [.int .i64, .row [.int .i64, .int .i64, .int .i64, .int .i64, .bool]], .one (.int .i64)] avs → CallOK Try.prog 6 avs (.val (.bool true)) := by
  intro avs h
  obtain ⟨v0, r, rfl, h0, h⟩ := args_cons h
  obtain ⟨v1, r, rfl, h1, h⟩ := args_cons h
  obtain rfl := args_nil h
  obtain ⟨x0, rfl, h0⟩ := h0
  obtain ⟨n0, rfl, hb0⟩ := all_par x0 h0
  obtain ⟨n1, rfl, hb1⟩ := has_int h1
  exact rates_d n0 n1

/-! ### The row -/
open Go.ChangeShapes Go.WideShapes Go.ChangeAt
set_option maxRecDepth 100000 in
theorem rates_lifted (os : Os) (started : os.Started) (H : Type) (enc : TypeId × Value → H) :
    ReturnsInHanded {} Try.checked os 6 .any (Rows.sampleRatesAreLeastSpec.pre6 enc Try.prog Try.f6 Rows.sampleRatesAreLeastRow.domain false) (Rows.sampleRatesAreLeastSpec.post enc Try.prog Try.f6 false true false false) := by
  refine returnsInHanded_of_change (C := Try.checked) own_knob started (by kernel_rfl) Try.func6
    (ChangeSpec.witness6 (enc := enc) (C := Try.checked) false ⟨#[], #[.agg #[.int .i64 0, .slice none 0 0], .int .i64 0], []⟩ 8 (by kernel_rfl) (by kernel_rfl) (by kernel_rfl) (by kernel_rfl)) ?_
  intro W base args ds gs before hval hW _ _
  refine law_step rfl (by kernel_rfl) (fun ds h => ?_) ?_ hval hW ?_
  · match ds, h with | [a, b], _ => exact ⟨rfl, rfl, rfl⟩
  · rw [Try.params6]
    intro t ht
    simp only [List.mem_cons, List.not_mem_nil, or_false] at ht
    repeat' (first | (rcases ht with rfl | ht) | subst ht)
    all_goals exact ⟨by kernel_rfl, of_decide_eq_true (by kernel_rfl)⟩
  · rw [Try.params6]
    intro hin
    exact law_dm (ss := [.agg [.int .i64, .row [.int .i64, .int .i64, .int .i64, .int .i64, .bool]], .one (.int .i64)]) (by kernel_rfl) hin rates_c

theorem rates_holds : Rows.SampleRatesAreLeastSaid :=
  OpenClaim.holds_of_wide 6 Try.f6 rfl rfl rfl rfl rfl rfl rfl ⟨rfl, rfl, rfl, rfl, rfl⟩ rfl rfl rfl rfl rfl (by kernel_rfl) Try.func6 (by kernel_rfl)
    (of_decide_eq_true (by kernel_rfl)) (by unfold Func.isWrapper; first | (rw [if_pos (by decide +kernel)]; kernel_rfl) | (rw [if_neg (by decide +kernel)]; exact ⟨rfl, rfl⟩))
    (fun os started H enc _ => rates_lifted os started H enc)

end Go.Proofs.Ytkklgckmdnejfaa
