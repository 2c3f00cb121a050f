/- SampleJoinsFollow: what is put behind samples is presented from the end of these on, with the same distances, and they stay as they were presented. For every input; no condition. -/
import Derived.Test.YtkklgckmdnejfaaKJoin
import Derived.Test.YtkklgckmdnejfaaRows
namespace Go.Proofs.Ytkklgckmdnejfaa
open Go.RowKit
set_option linter.unusedSimpArgs false

theorem joinF_no {a b : List Smp} (h : (joinF a b).2 ≠ 0) : (joinF a b).1 = [] := by
  unfold joinF at h ⊢
  split
  · rfl
  rename_i h1
  rw [if_neg h1] at h
  split
  · rfl
  rename_i h2
  rw [if_neg h2] at h
  split
  · rename_i h3
    rw [if_pos h3] at h
    exact absurd rfl h
  rename_i h3
  rw [if_neg h3] at h
  split
  · rfl
  rename_i h4
  rw [if_neg h4] at h
  simp only [ne_eq] at h
  simp [h]
theorem pres_step (l : List Smp) (st : Int) : presL (withStep l st) = presL l := by
  unfold presL withStep
  refine List.ext_getElem (by simp) fun k h1 h2 => ?_
  simp only [List.getElem_map, List.getElem_mapIdx]
  split <;> rfl
theorem pres_late (l : List Smp) (d : Int) : presL (l.map (Smp.late d)) = (presL l).map (· + d) := by
  unfold presL
  rw [List.map_map, List.map_map]
  refine List.map_congr_left fun s _ => ?_
  simp only [Function.comp, Smp.late]; omega
theorem min_late {Y : List Int} (D : Int) (h : Y ≠ []) : Go.Lib.minOf (Y.map (· + D)) = Go.Lib.minOf Y + D := by
  obtain ⟨m1, m2⟩ := minOf_is h
  obtain ⟨k1, k2⟩ := minOf_is (l := Y.map (· + D)) (by simp [h])
  have h1 := k2 _ (List.mem_map.2 ⟨_, m1, rfl⟩)
  obtain ⟨y, hy, e⟩ := List.mem_map.1 k1
  have h2 := m2 y hy
  omega
theorem joinF_ok {a b : List Smp} (h : (joinF a b).2 = 0) : smpF a = 0 ∧ smpF b = 0 ∧ smpF (joinF a b).1 = 0 ∧ ∃ D : Int, presL (joinF a b).1 = presL a ++ (presL b).map (· + D) ∧ -5000000000000000 ≤ D ∧ D ≤ 5000000000000000 ∧ (a.length ≠ 0 → b.length ≠ 0 → Go.Lib.minOf ((presL b).map (· + D)) = Go.Lib.maxOf (endsL a)) := by
  unfold joinF at h ⊢
  split at h
  · rename_i h1; exact absurd h h1
  rename_i h1
  rw [if_neg h1]
  split at h
  · rename_i h2; exact absurd h h2
  rename_i h2
  rw [if_neg h2]
  have h1' : smpF a = 0 := by simpa using h1
  have h2' : smpF b = 0 := by simpa using h2
  split at h
  · rename_i h3
    rw [if_pos h3]
    rcases h3 with h3 | h3
    · have : a = [] := List.eq_nil_of_length_eq_zero h3
      subst this
      exact ⟨h1', h2', by simpa using h2', 0, by simp [presL], by omega, by omega, fun e => absurd h3 e⟩
    · have : b = [] := List.eq_nil_of_length_eq_zero h3
      subst this
      exact ⟨h1', h2', by simpa using h1', 0, by simp [presL], by omega, by omega, fun _ e => absurd h3 e⟩
  rename_i h3
  rw [if_neg h3]
  split at h
  · cases h
  rename_i h4
  rw [if_neg h4]
  simp only at h
  simp only [h, if_true]
  obtain ⟨_, hba, _⟩ := smpF_0 h1'
  obtain ⟨_, hbb, _⟩ := smpF_0 h2'
  have ha : a ≠ [] := fun e => h3 (.inl (by rw [e]; rfl))
  have hb : b ≠ [] := fun e => h3 (.inr (by rw [e]; rfl))
  have hby := joinBy_bd ha hb hba hbb
  refine ⟨h1', h2', trivial, joinBy a b, ?_, hby.1, hby.2, fun _ _ => ?_⟩
  · unfold joinL
    rw [← pres_late, ← pres_step a (joinSt a b)]
    unfold presL
    rw [List.map_append]
  · rw [min_late _ (pres_ne hb)]; unfold joinBy; omega
theorem presF_ok3 {l : List Smp} (h : smpF l = 0) : presF l = (presL l, 0) := by simp [presF, h]
theorem endsF_ok3 {l : List Smp} (h : smpF l = 0) : endsF l = (endsL l, 0) := by simp [endsF, h]
/-! headend/headendlaw3.SampleJoinsFollow -/
def r13_0 : List POp := [⟨4, .asg (.c (.bool false)), none⟩]
def r13_1 : List POp := [⟨16, .mv (.t 0), none⟩,
  ⟨17, .mv (.t 1), none⟩,
  ⟨18, .call 37 [.t 16, .t 17], none⟩,
  ⟨15, .mv (.t 18), none⟩,
  ⟨19, .ext 0 (.t 15), none⟩,
  ⟨20, .ext 1 (.t 15), none⟩,
  ⟨5, .asg (.t 19), none⟩,
  ⟨6, .mv (.t 20), none⟩]
def r13_2 : List POp := [⟨21, .mv (.t 6), none⟩,
  ⟨22, .bin .neq (.t 21) (.c (.int .i64 0)), none⟩]
def r13_3 : List POp := [⟨23, .mv (.t 5), none⟩,
  ⟨24, .len (.t 23), none⟩,
  ⟨25, .bin .eql (.t 24) (.c (.int .i64 0)), none⟩,
  ⟨26, .mv (.t 25), none⟩,
  ⟨27, .call 16 [], some (26, true)⟩,
  ⟨28, .pick (.t 26) (.t 27) (.c (.bool false)), none⟩,
  ⟨4, .asg (.t 28), none⟩]
def r13_4 : List POp := [⟨30, .mv (.t 5), none⟩,
  ⟨31, .call 22 [.t 30], none⟩,
  ⟨29, .mv (.t 31), none⟩,
  ⟨32, .ext 0 (.t 29), none⟩,
  ⟨33, .ext 1 (.t 29), none⟩,
  ⟨7, .asg (.t 32), none⟩,
  ⟨6, .mv (.t 33), none⟩]
def r13_5 : List POp := [⟨35, .mv (.t 1), none⟩,
  ⟨36, .call 22 [.t 35], none⟩,
  ⟨34, .mv (.t 36), none⟩,
  ⟨37, .ext 0 (.t 34), none⟩,
  ⟨38, .ext 1 (.t 34), none⟩,
  ⟨8, .asg (.t 37), none⟩,
  ⟨9, .mv (.t 38), none⟩]
def r13_6 : List POp := [⟨40, .mv (.t 0), none⟩,
  ⟨41, .call 22 [.t 40], none⟩,
  ⟨39, .mv (.t 41), none⟩,
  ⟨42, .ext 0 (.t 39), none⟩,
  ⟨43, .ext 1 (.t 39), none⟩,
  ⟨10, .asg (.t 42), none⟩,
  ⟨11, .mv (.t 43), none⟩]
def r13_7 : List POp := [⟨45, .mv (.t 0), none⟩,
  ⟨46, .call 31 [.t 45], none⟩,
  ⟨44, .mv (.t 46), none⟩,
  ⟨47, .ext 0 (.t 44), none⟩,
  ⟨48, .ext 1 (.t 44), none⟩,
  ⟨12, .asg (.t 47), none⟩,
  ⟨13, .mv (.t 48), none⟩]
def r13_8 : List POp := [⟨49, .mv (.t 6), none⟩,
  ⟨50, .bin .neq (.t 49) (.c (.int .i64 0)), none⟩,
  ⟨51, .mv (.t 50), none⟩,
  ⟨52, .mv (.t 9), some (51, false)⟩,
  ⟨53, .bin .neq (.t 52) (.c (.int .i64 0)), some (51, false)⟩,
  ⟨54, .pick (.t 51) (.c (.bool true)) (.t 53), none⟩,
  ⟨55, .mv (.t 54), none⟩,
  ⟨56, .mv (.t 11), some (55, false)⟩,
  ⟨57, .bin .neq (.t 56) (.c (.int .i64 0)), some (55, false)⟩,
  ⟨58, .pick (.t 55) (.c (.bool true)) (.t 57), none⟩,
  ⟨59, .mv (.t 58), none⟩,
  ⟨60, .mv (.t 13), some (59, false)⟩,
  ⟨61, .bin .neq (.t 60) (.c (.int .i64 0)), some (59, false)⟩,
  ⟨62, .pick (.t 59) (.c (.bool true)) (.t 61), none⟩,
  ⟨63, .mv (.t 62), none⟩,
  ⟨64, .mv (.t 7), some (63, false)⟩,
  ⟨65, .len (.t 64), some (63, false)⟩,
  ⟨66, .mv (.t 0), some (63, false)⟩,
  ⟨67, .len (.t 66), some (63, false)⟩,
  ⟨68, .mv (.t 1), some (63, false)⟩,
  ⟨69, .len (.t 68), some (63, false)⟩,
  ⟨70, .bin .add (.t 67) (.t 69), some (63, false)⟩,
  ⟨71, .bin .neq (.t 65) (.t 70), some (63, false)⟩,
  ⟨72, .pick (.t 63) (.c (.bool true)) (.t 71), none⟩,
  ⟨73, .mv (.t 72), none⟩,
  ⟨74, .mv (.t 5), some (73, false)⟩,
  ⟨75, .call 38 [.t 74], some (73, false)⟩,
  ⟨76, .bin .neq (.t 75) (.c (.int .i64 0)), some (73, false)⟩,
  ⟨77, .pick (.t 73) (.c (.bool true)) (.t 76), none⟩,
  ⟨78, .mv (.t 77), none⟩,
  ⟨79, .mv (.t 7), some (78, false)⟩,
  ⟨80, .mv (.t 0), some (78, false)⟩,
  ⟨81, .len (.t 80), some (78, false)⟩,
  ⟨82, .slc none (some (.t 81)) 1 (.t 79), some (78, false)⟩,
  ⟨83, .mv (.t 10), some (78, false)⟩,
  ⟨84, .call 23 [.t 82, .t 83], some (78, false)⟩,
  ⟨85, .un .not (.t 84), some (78, false)⟩,
  ⟨86, .pick (.t 78) (.c (.bool true)) (.t 85), none⟩]
def r13_9 : List POp := [⟨4, .asg (.c (.bool false)), none⟩]
def r13_10 : List POp := [⟨14, .asg (.c (.int .i64 0)), none⟩]
def r13_11 : List POp := [⟨87, .mv (.t 14), none⟩,
  ⟨88, .mv (.t 1), none⟩,
  ⟨89, .len (.t 88), none⟩,
  ⟨90, .bin .lss (.t 87) (.t 89), none⟩]
def r13_13 : List POp := [⟨93, .mv (.t 7), none⟩,
  ⟨94, .mv (.t 0), none⟩,
  ⟨95, .len (.t 94), none⟩,
  ⟨96, .mv (.t 14), none⟩,
  ⟨97, .bin .add (.t 95) (.t 96), none⟩,
  ⟨98, .idx 1 (.t 93) (.t 97), none⟩,
  ⟨99, .load (.t 98), none⟩,
  ⟨100, .mv (.t 7), none⟩,
  ⟨101, .mv (.t 0), none⟩,
  ⟨102, .len (.t 101), none⟩,
  ⟨103, .idx 1 (.t 100) (.t 102), none⟩,
  ⟨104, .load (.t 103), none⟩,
  ⟨105, .bin .sub (.t 99) (.t 104), none⟩,
  ⟨106, .mv (.t 8), none⟩,
  ⟨107, .mv (.t 14), none⟩,
  ⟨108, .idx 1 (.t 106) (.t 107), none⟩,
  ⟨109, .load (.t 108), none⟩,
  ⟨110, .mv (.t 8), none⟩,
  ⟨111, .idx 1 (.t 110) (.c (.int .i64 0)), none⟩,
  ⟨112, .load (.t 111), none⟩,
  ⟨113, .bin .sub (.t 109) (.t 112), none⟩,
  ⟨114, .bin .neq (.t 105) (.t 113), none⟩]
def r13_14 : List POp := [⟨4, .asg (.c (.bool false)), none⟩]
def r13_12 : List POp := [⟨91, .mv (.t 14), none⟩,
  ⟨92, .bin .add (.t 91) (.c (.int .i64 1)), none⟩,
  ⟨14, .asg (.t 92), none⟩]
def r13_15 : List POp := [⟨115, .mv (.t 0), none⟩,
  ⟨116, .len (.t 115), none⟩,
  ⟨117, .bin .eql (.t 116) (.c (.int .i64 0)), none⟩,
  ⟨118, .mv (.t 117), none⟩,
  ⟨119, .mv (.t 1), some (118, false)⟩,
  ⟨120, .len (.t 119), some (118, false)⟩,
  ⟨121, .bin .eql (.t 120) (.c (.int .i64 0)), some (118, false)⟩,
  ⟨122, .pick (.t 118) (.c (.bool true)) (.t 121), none⟩,
  ⟨123, .mv (.t 122), none⟩,
  ⟨124, .mv (.t 7), some (123, false)⟩,
  ⟨125, .mv (.t 0), some (123, false)⟩,
  ⟨126, .len (.t 125), some (123, false)⟩,
  ⟨127, .slc (some (.t 126)) none 1 (.t 124), some (123, false)⟩,
  ⟨128, .call 39 [.t 127], some (123, false)⟩,
  ⟨129, .mv (.t 12), some (123, false)⟩,
  ⟨130, .call 40 [.t 129], some (123, false)⟩,
  ⟨131, .bin .eql (.t 128) (.t 130), some (123, false)⟩,
  ⟨132, .pick (.t 123) (.c (.bool true)) (.t 131), none⟩,
  ⟨133, .mv (.t 132), none⟩,
  ⟨134, .call 16 [], some (133, true)⟩,
  ⟨135, .pick (.t 133) (.t 134) (.c (.bool false)), none⟩,
  ⟨4, .asg (.t 135), none⟩]
def l13_0 : PCode := .seq (.seq (.ops r13_11) (.cond (.t 90) (.skip) (.exit 0))) (.seq (.block 1 (.seq (.ops r13_13) (.cond (.t 114) (.seq (.ops r13_14) (.ret)) (.skip)))) (.ops r13_12))
def p13 : PCode := .seq (.ops r13_0) (.seq (.ops r13_1) (.seq (.seq (.ops r13_2) (.cond (.t 22) (.seq (.ops r13_3) (.ret)) (.skip))) (.seq (.ops r13_4) (.seq (.ops r13_5) (.seq (.ops r13_6) (.seq (.ops r13_7) (.seq (.seq (.ops r13_8) (.cond (.t 86) (.seq (.ops r13_9) (.ret)) (.skip))) (.seq (.seq (.ops r13_10) (.block 0 (.loop l13_0))) (.seq (.ops r13_15) (.ret))))))))))
theorem ok13 : okFunc Try.prog 13 [.t 4] 2 p13 = true := by kernel_rfl
set_option maxRecDepth 20000 in
set_option maxHeartbeats 1000000 in
theorem joins_d (a b : List Smp) : CallOK Try.prog 13 [.ro (a.map Smp.av), .ro (b.map Smp.av)] (.val (.bool true)) := by
  refine call_of mixed ok13 rfl ?_
  have k1 := join_c a b
  by_cases h0 : (joinF a b).2 = 0
  case neg =>
    rw [joinF_no h0] at k1
    generalize (joinF a b).2 = F at *
    repeat' first | (with_reducible refine condD (fun h => ?_) (fun h => ?_)) | (with_reducible refine condE (fun h => ?_) (fun h => ?_)) | (with_reducible refine condN (fun h => ?_) (fun h => ?_)) | (with_reducible refine condI (fun h => ?_) (fun h => ?_)) | (with_reducible refine condS (fun h => ?_) (fun h => ?_)) | (with_reducible refine guardD (by with_unfolding_all rfl) (fun h => ?_) (fun h => ?_)) | (with_reducible refine guardE (by with_unfolding_all rfl) (fun h => ?_) (fun h => ?_)) | (with_reducible refine guardN (by with_unfolding_all rfl) (fun h => ?_) (fun h => ?_)) | (with_reducible refine guardI (by with_unfolding_all rfl) (fun h => ?_) (fun h => ?_)) | (with_reducible refine guardS (by with_unfolding_all rfl) (fun h => ?_) (fun h => ?_)) | ((refine callG k1 ?_)) | ((refine callG awake3_c ?_)) | (with_reducible refine And.intro ?_ ?_; omega) | (simp only [done_eq, done_eq', fin_val, fin_tup, fin_agg, fin_ro, res_one, res_more, rv_t, rv_c, rv_l, AV.tup.injEq, AV.agg.injEq, AV.ro.injEq, List.cons.injEq, int_eq, bool_eq, Int.toNat_natCast, Int.reduceToNat, Int.toNat_zero, Int.toNat_one, Int.reduceLE, Int.reduceLT, Int.reduceBEq, Int.reduceBNe, beq_self_eq_true, bne_self_eq_false, decide_true, decide_false,  Int.reduceNeg, toNat_pred, toNat_succ, List.length_map, cnd_t, cnd_f, grd_tt, grd_u, grd_tf, grd_ft, grd_ff, g_skip, g_ops, g_seq, g_block, g_exit, g_ret, x_c, x_o, x_l, x_b, g_b, g_nil, r_all, o_nil, g_cond, o_guard, o_call, o_callm, o_callv, lk, ef, o_mv, o_pick, o_bin, o_never, o_eqs, o_eqb, o_un, o_conv, o_load, o_loads, o_fld, o_idx, o_idxs, o_len, o_lens, o_ext, o_nilck, o_slc, o_slcs, o_build, o_minmax, o_mkfn, o_alloc, o_box, o_boxs, o_row, o_rowr, o_mk, o_asg, o_app, o_store, o_stores, o_eqnil, hv, eqAV, ev, view_t, view_c, view_nil, view_fn, look_own, look_box, look_junk, look_val, look_nilsl, look_ro, look_roAt, look_agg, look_tup, look_clo, look_alias, look_ref, look_into, rowOf, cellsOf, argv, vbin, vun, bnd, elemOf, putParts, setAt, zav, ASt.rid, ASt.free, AV.kill, AV.isHome, AV.noLoan, AV.cellOK, Value.oneCell', put_at, mk_at, mk_nil, initSt, true_and, and_true, and_self, implies_true, List.map_cons, List.map_nil, List.forall_mem_cons, List.not_mem_nil, false_implies, List.length_cons, List.length_nil, List.getD_cons_zero, List.getD_cons_succ, List.getD_nil, List.drop_succ_cons, List.drop_zero, List.take_succ_cons, List.take_zero, List.set_cons_zero, List.set_cons_succ, List.all_cons, List.all_nil, Bool.and_true, Bool.true_and, Bool.not_true, Bool.not_false, reduceCtorEq, if_true, if_false, Bool.false_eq_true, ↓reduceIte, Nat.reduceEqDiff, Nat.reduceAdd, Nat.reduceSub, Nat.reduceMul, Nat.reduceLeDiff, Nat.reduceLT, ne_eq, not_false_eq_true, not_true_eq_false, Nat.one_ne_zero, Nat.zero_ne_one, r13_0, r13_1, r13_2, r13_3, r13_4, r13_5, r13_6, r13_7, r13_8, r13_9, r13_10, r13_11, r13_13, r13_14, r13_12, r13_15, p13, bne0_t h0, beq0_f h0]) | (exfalso; omega)
  obtain ⟨ha, hb, hL, D, hX, d1, d2, hmin⟩ := joinF_ok h0
  rw [h0] at k1
  obtain ⟨hal, hab, _⟩ := smpF_0 ha
  obtain ⟨hbl, hbb, _⟩ := smpF_0 hb
  have k2 := presF_c (joinF a b).1
  rw [presF_ok3 hL] at k2
  have k3 := presF_c b
  rw [presF_ok3 hb] at k3
  have k4 := presF_c a
  rw [presF_ok3 ha] at k4
  have k5 := endsF_c a
  rw [endsF_ok3 ha] at k5
  have k6 := smp_c (joinF a b).1
  rw [hL] at k6
  have hPl := presL_len a
  have hYl := presL_len b
  have hEl := endsL_len a
  have hYb := pres_bd hbb
  obtain ⟨X, hXe⟩ : ∃ X, X = presL (joinF a b).1 := ⟨_, rfl⟩
  rw [← hXe] at hX k2
  clear hXe h0 hL
  generalize (joinF a b).1 = L at *
  generalize presL a = P at *
  generalize presL b = Y at *
  generalize endsL a = E at *
  have hXl : X.length = a.length + b.length := by rw [hX]; simp; omega
  have hXt : X.take a.length = P := by rw [hX, ← hPl]; simp
  have hXd : X.drop a.length = Y.map (· + D) := by rw [hX, ← hPl]; simp
  have w0 : IntKind.i64.wrap ((a.length : Int) + b.length) = (X.length : Int) := by rw [hXl, wrap_in (by omega) (by omega)]; omega
  have w0' : IntKind.i64.wrap ((a.length : Int) + b.length) = (a.length + b.length : Nat) := by rw [wrap_in (by omega) (by omega)]; omega
  have kq := eqi_c P (by omega)
  have hXk : ∀ k (h : k < Y.length), X[a.length + k]'(by omega) = Y[k] + D := fun k h => by
    subst hX
    rw [List.getElem_append_right (by omega)]
    simp [hPl]
  repeat' first | (with_reducible refine condD (fun h => ?_) (fun h => ?_)) | (with_reducible refine condE (fun h => ?_) (fun h => ?_)) | (with_reducible refine condN (fun h => ?_) (fun h => ?_)) | (with_reducible refine condI (fun h => ?_) (fun h => ?_)) | (with_reducible refine condS (fun h => ?_) (fun h => ?_)) | (with_reducible refine guardD (by with_unfolding_all rfl) (fun h => ?_) (fun h => ?_)) | (with_reducible refine guardE (by with_unfolding_all rfl) (fun h => ?_) (fun h => ?_)) | (with_reducible refine guardN (by with_unfolding_all rfl) (fun h => ?_) (fun h => ?_)) | (with_reducible refine guardI (by with_unfolding_all rfl) (fun h => ?_) (fun h => ?_)) | (with_reducible refine guardS (by with_unfolding_all rfl) (fun h => ?_) (fun h => ?_)) | ((refine callG k1 ?_)) | ((refine callG k2 ?_)) | ((refine callG k3 ?_)) | ((refine callG k4 ?_)) | ((refine callG k5 ?_)) | ((refine callG k6 ?_)) | ((refine callG kq ?_)) | (with_reducible refine And.intro ?_ ?_; omega) | (simp only [done_eq, done_eq', fin_val, fin_tup, fin_agg, fin_ro, res_one, res_more, rv_t, rv_c, rv_l, AV.tup.injEq, AV.agg.injEq, AV.ro.injEq, List.cons.injEq, int_eq, bool_eq, Int.toNat_natCast, Int.reduceToNat, Int.toNat_zero, Int.toNat_one, Int.reduceLE, Int.reduceLT, Int.reduceBEq, Int.reduceBNe, beq_self_eq_true, bne_self_eq_false, decide_true, decide_false,  Int.reduceNeg, toNat_pred, toNat_succ, List.length_map, cnd_t, cnd_f, grd_tt, grd_u, grd_tf, grd_ft, grd_ff, g_skip, g_ops, g_seq, g_block, g_exit, g_ret, x_c, x_o, x_l, x_b, g_b, g_nil, r_all, o_nil, g_cond, o_guard, o_call, o_callm, o_callv, lk, ef, o_mv, o_pick, o_bin, o_never, o_eqs, o_eqb, o_un, o_conv, o_load, o_loads, o_fld, o_idx, o_idxs, o_len, o_lens, o_ext, o_nilck, o_slc, o_slcs, o_build, o_minmax, o_mkfn, o_alloc, o_box, o_boxs, o_row, o_rowr, o_mk, o_asg, o_app, o_store, o_stores, o_eqnil, hv, eqAV, ev, view_t, view_c, view_nil, view_fn, look_own, look_box, look_junk, look_val, look_nilsl, look_ro, look_roAt, look_agg, look_tup, look_clo, look_alias, look_ref, look_into, rowOf, cellsOf, argv, vbin, vun, bnd, elemOf, putParts, setAt, zav, ASt.rid, ASt.free, AV.kill, AV.isHome, AV.noLoan, AV.cellOK, Value.oneCell', put_at, mk_at, mk_nil, initSt, true_and, and_true, and_self, implies_true, List.map_cons, List.map_nil, List.forall_mem_cons, List.not_mem_nil, false_implies, List.length_cons, List.length_nil, List.getD_cons_zero, List.getD_cons_succ, List.getD_nil, List.drop_succ_cons, List.drop_zero, List.take_succ_cons, List.take_zero, List.set_cons_zero, List.set_cons_succ, List.all_cons, List.all_nil, Bool.and_true, Bool.true_and, Bool.not_true, Bool.not_false, reduceCtorEq, if_true, if_false, Bool.false_eq_true, ↓reduceIte, Nat.reduceEqDiff, Nat.reduceAdd, Nat.reduceSub, Nat.reduceMul, Nat.reduceLeDiff, Nat.reduceLT, ne_eq, not_false_eq_true, not_true_eq_false, Nat.one_ne_zero, Nat.zero_ne_one, r13_0, r13_1, r13_2, r13_3, r13_4, r13_5, r13_6, r13_7, r13_8, r13_9, r13_10, r13_11, r13_13, r13_14, r13_12, r13_15, p13, w0, hXt, ← List.map_take, ← List.map_drop, ones_len', hXl]) | (exfalso; omega)
  refine loopS (fun k : Nat => mk [(0, .ro (a.map Smp.av)), (1, .ro (b.map Smp.av)), (7, .ro (X.map oneI)), (8, .ro (Y.map oneI)), (12, .ro (E.map oneI)), (14, .val (.int .i64 k))]) (fun k => k ≤ b.length) (fun k => b.length - k) 0 (weak_mk ?_) (Nat.zero_le _) ?_
  · simp only [wk_cons, wk_nil, wk1, vint_eq, vbool_eq, AV.val.injEq, done_eq, done_eq', fin_val, fin_tup, fin_agg, fin_ro, res_one, res_more, rv_t, rv_c, rv_l, AV.tup.injEq, AV.agg.injEq, AV.ro.injEq, List.cons.injEq, int_eq, bool_eq, Int.toNat_natCast, Int.reduceToNat, Int.toNat_zero, Int.toNat_one, Int.reduceLE, Int.reduceLT, Int.reduceBEq, Int.reduceBNe, beq_self_eq_true, bne_self_eq_false, decide_true, decide_false,  Int.reduceNeg, toNat_pred, toNat_succ, List.length_map, cnd_t, cnd_f, grd_tt, grd_u, grd_tf, grd_ft, grd_ff, g_skip, g_ops, g_seq, g_block, g_exit, g_ret, x_c, x_o, x_l, x_b, g_b, g_nil, r_all, o_nil, g_cond, o_guard, o_call, o_callm, o_callv, lk, ef, o_mv, o_pick, o_bin, o_never, o_eqs, o_eqb, o_un, o_conv, o_load, o_loads, o_fld, o_idx, o_idxs, o_len, o_lens, o_ext, o_nilck, o_slc, o_slcs, o_build, o_minmax, o_mkfn, o_alloc, o_box, o_boxs, o_row, o_rowr, o_mk, o_asg, o_app, o_store, o_stores, o_eqnil, hv, eqAV, ev, view_t, view_c, view_nil, view_fn, look_own, look_box, look_junk, look_val, look_nilsl, look_ro, look_roAt, look_agg, look_tup, look_clo, look_alias, look_ref, look_into, rowOf, cellsOf, argv, vbin, vun, bnd, elemOf, putParts, setAt, zav, ASt.rid, ASt.free, AV.kill, AV.isHome, AV.noLoan, AV.cellOK, Value.oneCell', put_at, mk_at, mk_nil, initSt, true_and, and_true, and_self, implies_true, List.map_cons, List.map_nil, List.forall_mem_cons, List.not_mem_nil, false_implies, List.length_cons, List.length_nil, List.getD_cons_zero, List.getD_cons_succ, List.getD_nil, List.drop_succ_cons, List.drop_zero, List.take_succ_cons, List.take_zero, List.set_cons_zero, List.set_cons_succ, List.all_cons, List.all_nil, Bool.and_true, Bool.true_and, Bool.not_true, Bool.not_false, reduceCtorEq, if_true, if_false, Bool.false_eq_true, ↓reduceIte, Nat.reduceEqDiff, Nat.reduceAdd, Nat.reduceSub, Nat.reduceMul, Nat.reduceLeDiff, Nat.reduceLT, ne_eq, not_false_eq_true, not_true_eq_false, Nat.one_ne_zero, Nat.zero_ne_one]
    simp
  · rintro J hJ k hk
    simp only [done_eq, done_eq', fin_val, fin_tup, fin_agg, fin_ro, res_one, res_more, rv_t, rv_c, rv_l, AV.tup.injEq, AV.agg.injEq, AV.ro.injEq, List.cons.injEq, int_eq, bool_eq, Int.toNat_natCast, Int.reduceToNat, Int.toNat_zero, Int.toNat_one, Int.reduceLE, Int.reduceLT, Int.reduceBEq, Int.reduceBNe, beq_self_eq_true, bne_self_eq_false, decide_true, decide_false,  Int.reduceNeg, toNat_pred, toNat_succ, List.length_map, cnd_t, cnd_f, grd_tt, grd_u, grd_tf, grd_ft, grd_ff, g_skip, g_ops, g_seq, g_block, g_exit, g_ret, x_c, x_o, x_l, x_b, g_b, g_nil, r_all, o_nil, g_cond, o_guard, o_call, o_callm, o_callv, lk, ef, o_mv, o_pick, o_bin, o_never, o_eqs, o_eqb, o_un, o_conv, o_load, o_loads, o_fld, o_idx, o_idxs, o_len, o_lens, o_ext, o_nilck, o_slc, o_slcs, o_build, o_minmax, o_mkfn, o_alloc, o_box, o_boxs, o_row, o_rowr, o_mk, o_asg, o_app, o_store, o_stores, o_eqnil, hv, eqAV, ev, view_t, view_c, view_nil, view_fn, look_own, look_box, look_junk, look_val, look_nilsl, look_ro, look_roAt, look_agg, look_tup, look_clo, look_alias, look_ref, look_into, rowOf, cellsOf, argv, vbin, vun, bnd, elemOf, putParts, setAt, zav, ASt.rid, ASt.free, AV.kill, AV.isHome, AV.noLoan, AV.cellOK, Value.oneCell', put_at, mk_at, mk_nil, initSt, true_and, and_true, and_self, implies_true, List.map_cons, List.map_nil, List.forall_mem_cons, List.not_mem_nil, false_implies, List.length_cons, List.length_nil, List.getD_cons_zero, List.getD_cons_succ, List.getD_nil, List.drop_succ_cons, List.drop_zero, List.take_succ_cons, List.take_zero, List.set_cons_zero, List.set_cons_succ, List.all_cons, List.all_nil, Bool.and_true, Bool.true_and, Bool.not_true, Bool.not_false, reduceCtorEq, if_true, if_false, Bool.false_eq_true, ↓reduceIte, Nat.reduceEqDiff, Nat.reduceAdd, Nat.reduceSub, Nat.reduceMul, Nat.reduceLeDiff, Nat.reduceLT, ne_eq, not_false_eq_true, not_true_eq_false, Nat.one_ne_zero, Nat.zero_ne_one, r13_0, r13_1, r13_2, r13_3, r13_4, r13_5, r13_6, r13_7, r13_8, r13_9, r13_10, r13_11, r13_13, r13_14, r13_12, r13_15, p13, l13_0]
    refine condD (fun h => ?_) (fun h => ?_)
    · have hlt : k < Y.length := by omega
      have hl0 : 0 < Y.length := by omega
      have hw := i_add1 k (by omega)
      have b1 := hYb _ (List.getElem_mem hlt)
      have b2 := hYb _ (List.getElem_mem hl0)
      have w1 := i_add a.length k (by omega)
      have g1 := getD_map (f := oneI) (d := []) (l := X) (k := a.length + k) (by omega)
      rw [hXk k hlt] at g1
      have g2 := getD_map (f := oneI) (d := []) (l := X) (k := a.length) (by omega)
      rw [show X[a.length] = Y[0] + D from hXk 0 hl0] at g2
      have g3 := getD_map (f := oneI) (d := []) hlt
      have g4 := getD_map (f := oneI) (d := []) hl0
      simp only [oneI] at g1 g2 g3 g4
      have w2 : IntKind.i64.wrap (Y[k] + D - (Y[0] + D)) = Y[k] - Y[0] := by rw [wrap_in (by omega) (by omega)]; omega
      have w3 : IntKind.i64.wrap (Y[k] - Y[0]) = Y[k] - Y[0] := wrap_in (by omega) (by omega)
      repeat' first | (with_reducible refine condD (fun h => ?_) (fun h => ?_)) | (with_reducible refine condE (fun h => ?_) (fun h => ?_)) | (with_reducible refine condN (fun h => ?_) (fun h => ?_)) | (with_reducible refine condI (fun h => ?_) (fun h => ?_)) | (with_reducible refine condS (fun h => ?_) (fun h => ?_)) | (with_reducible refine guardD (by with_unfolding_all rfl) (fun h => ?_) (fun h => ?_)) | (with_reducible refine guardE (by with_unfolding_all rfl) (fun h => ?_) (fun h => ?_)) | (with_reducible refine guardN (by with_unfolding_all rfl) (fun h => ?_) (fun h => ?_)) | (with_reducible refine guardI (by with_unfolding_all rfl) (fun h => ?_) (fun h => ?_)) | (with_reducible refine guardS (by with_unfolding_all rfl) (fun h => ?_) (fun h => ?_)) | (with_reducible refine And.intro ?_ ?_; omega) | (simp only [done_eq, done_eq', fin_val, fin_tup, fin_agg, fin_ro, res_one, res_more, rv_t, rv_c, rv_l, AV.tup.injEq, AV.agg.injEq, AV.ro.injEq, List.cons.injEq, int_eq, bool_eq, Int.toNat_natCast, Int.reduceToNat, Int.toNat_zero, Int.toNat_one, Int.reduceLE, Int.reduceLT, Int.reduceBEq, Int.reduceBNe, beq_self_eq_true, bne_self_eq_false, decide_true, decide_false,  Int.reduceNeg, toNat_pred, toNat_succ, List.length_map, cnd_t, cnd_f, grd_tt, grd_u, grd_tf, grd_ft, grd_ff, g_skip, g_ops, g_seq, g_block, g_exit, g_ret, x_c, x_o, x_l, x_b, g_b, g_nil, r_all, o_nil, g_cond, o_guard, o_call, o_callm, o_callv, lk, ef, o_mv, o_pick, o_bin, o_never, o_eqs, o_eqb, o_un, o_conv, o_load, o_loads, o_fld, o_idx, o_idxs, o_len, o_lens, o_ext, o_nilck, o_slc, o_slcs, o_build, o_minmax, o_mkfn, o_alloc, o_box, o_boxs, o_row, o_rowr, o_mk, o_asg, o_app, o_store, o_stores, o_eqnil, hv, eqAV, ev, view_t, view_c, view_nil, view_fn, look_own, look_box, look_junk, look_val, look_nilsl, look_ro, look_roAt, look_agg, look_tup, look_clo, look_alias, look_ref, look_into, rowOf, cellsOf, argv, vbin, vun, bnd, elemOf, putParts, setAt, zav, ASt.rid, ASt.free, AV.kill, AV.isHome, AV.noLoan, AV.cellOK, Value.oneCell', put_at, mk_at, mk_nil, initSt, true_and, and_true, and_self, implies_true, List.map_cons, List.map_nil, List.forall_mem_cons, List.not_mem_nil, false_implies, List.length_cons, List.length_nil, List.getD_cons_zero, List.getD_cons_succ, List.getD_nil, List.drop_succ_cons, List.drop_zero, List.take_succ_cons, List.take_zero, List.set_cons_zero, List.set_cons_succ, List.all_cons, List.all_nil, Bool.and_true, Bool.true_and, Bool.not_true, Bool.not_false, reduceCtorEq, if_true, if_false, Bool.false_eq_true, ↓reduceIte, Nat.reduceEqDiff, Nat.reduceAdd, Nat.reduceSub, Nat.reduceMul, Nat.reduceLeDiff, Nat.reduceLT, ne_eq, not_false_eq_true, not_true_eq_false, Nat.one_ne_zero, Nat.zero_ne_one, r13_0, r13_1, r13_2, r13_3, r13_4, r13_5, r13_6, r13_7, r13_8, r13_9, r13_10, r13_11, r13_13, r13_14, r13_12, r13_15, p13, l13_0, g1, g2, g3, g4, w1, w2, w3, hXl]) | (exfalso; omega)
      exact again hJ (k + 1) (weak_mk (by simp only [wk_cons, wk_nil, wk1, vint_eq, vbool_eq, AV.val.injEq, done_eq, done_eq', fin_val, fin_tup, fin_agg, fin_ro, res_one, res_more, rv_t, rv_c, rv_l, AV.tup.injEq, AV.agg.injEq, AV.ro.injEq, List.cons.injEq, int_eq, bool_eq, Int.toNat_natCast, Int.reduceToNat, Int.toNat_zero, Int.toNat_one, Int.reduceLE, Int.reduceLT, Int.reduceBEq, Int.reduceBNe, beq_self_eq_true, bne_self_eq_false, decide_true, decide_false,  Int.reduceNeg, toNat_pred, toNat_succ, List.length_map, cnd_t, cnd_f, grd_tt, grd_u, grd_tf, grd_ft, grd_ff, g_skip, g_ops, g_seq, g_block, g_exit, g_ret, x_c, x_o, x_l, x_b, g_b, g_nil, r_all, o_nil, g_cond, o_guard, o_call, o_callm, o_callv, lk, ef, o_mv, o_pick, o_bin, o_never, o_eqs, o_eqb, o_un, o_conv, o_load, o_loads, o_fld, o_idx, o_idxs, o_len, o_lens, o_ext, o_nilck, o_slc, o_slcs, o_build, o_minmax, o_mkfn, o_alloc, o_box, o_boxs, o_row, o_rowr, o_mk, o_asg, o_app, o_store, o_stores, o_eqnil, hv, eqAV, ev, view_t, view_c, view_nil, view_fn, look_own, look_box, look_junk, look_val, look_nilsl, look_ro, look_roAt, look_agg, look_tup, look_clo, look_alias, look_ref, look_into, rowOf, cellsOf, argv, vbin, vun, bnd, elemOf, putParts, setAt, zav, ASt.rid, ASt.free, AV.kill, AV.isHome, AV.noLoan, AV.cellOK, Value.oneCell', put_at, mk_at, mk_nil, initSt, true_and, and_true, and_self, implies_true, List.map_cons, List.map_nil, List.forall_mem_cons, List.not_mem_nil, false_implies, List.length_cons, List.length_nil, List.getD_cons_zero, List.getD_cons_succ, List.getD_nil, List.drop_succ_cons, List.drop_zero, List.take_succ_cons, List.take_zero, List.set_cons_zero, List.set_cons_succ, List.all_cons, List.all_nil, Bool.and_true, Bool.true_and, Bool.not_true, Bool.not_false, reduceCtorEq, if_true, if_false, Bool.false_eq_true, ↓reduceIte, Nat.reduceEqDiff, Nat.reduceAdd, Nat.reduceSub, Nat.reduceMul, Nat.reduceLeDiff, Nat.reduceLT, ne_eq, not_false_eq_true, not_true_eq_false, Nat.one_ne_zero, Nat.zero_ne_one]; exact hw)) (by omega) (by omega)
    · have hke : k = b.length := by omega
      subst hke
      clear hJ
      by_cases ea : a.length = 0
      · have q : ((a.length : Int) == 0) = true := by rw [beq_iff_eq]; omega
        repeat' first | (with_reducible refine condD (fun h => ?_) (fun h => ?_)) | (with_reducible refine condE (fun h => ?_) (fun h => ?_)) | (with_reducible refine condN (fun h => ?_) (fun h => ?_)) | (with_reducible refine condI (fun h => ?_) (fun h => ?_)) | (with_reducible refine condS (fun h => ?_) (fun h => ?_)) | (with_reducible refine guardD (by with_unfolding_all rfl) (fun h => ?_) (fun h => ?_)) | (with_reducible refine guardE (by with_unfolding_all rfl) (fun h => ?_) (fun h => ?_)) | (with_reducible refine guardN (by with_unfolding_all rfl) (fun h => ?_) (fun h => ?_)) | (with_reducible refine guardI (by with_unfolding_all rfl) (fun h => ?_) (fun h => ?_)) | (with_reducible refine guardS (by with_unfolding_all rfl) (fun h => ?_) (fun h => ?_)) | ((refine callG awake3_c ?_)) | (with_reducible refine And.intro ?_ ?_; omega) | (simp only [done_eq, done_eq', fin_val, fin_tup, fin_agg, fin_ro, res_one, res_more, rv_t, rv_c, rv_l, AV.tup.injEq, AV.agg.injEq, AV.ro.injEq, List.cons.injEq, int_eq, bool_eq, Int.toNat_natCast, Int.reduceToNat, Int.toNat_zero, Int.toNat_one, Int.reduceLE, Int.reduceLT, Int.reduceBEq, Int.reduceBNe, beq_self_eq_true, bne_self_eq_false, decide_true, decide_false,  Int.reduceNeg, toNat_pred, toNat_succ, List.length_map, cnd_t, cnd_f, grd_tt, grd_u, grd_tf, grd_ft, grd_ff, g_skip, g_ops, g_seq, g_block, g_exit, g_ret, x_c, x_o, x_l, x_b, g_b, g_nil, r_all, o_nil, g_cond, o_guard, o_call, o_callm, o_callv, lk, ef, o_mv, o_pick, o_bin, o_never, o_eqs, o_eqb, o_un, o_conv, o_load, o_loads, o_fld, o_idx, o_idxs, o_len, o_lens, o_ext, o_nilck, o_slc, o_slcs, o_build, o_minmax, o_mkfn, o_alloc, o_box, o_boxs, o_row, o_rowr, o_mk, o_asg, o_app, o_store, o_stores, o_eqnil, hv, eqAV, ev, view_t, view_c, view_nil, view_fn, look_own, look_box, look_junk, look_val, look_nilsl, look_ro, look_roAt, look_agg, look_tup, look_clo, look_alias, look_ref, look_into, rowOf, cellsOf, argv, vbin, vun, bnd, elemOf, putParts, setAt, zav, ASt.rid, ASt.free, AV.kill, AV.isHome, AV.noLoan, AV.cellOK, Value.oneCell', put_at, mk_at, mk_nil, initSt, true_and, and_true, and_self, implies_true, List.map_cons, List.map_nil, List.forall_mem_cons, List.not_mem_nil, false_implies, List.length_cons, List.length_nil, List.getD_cons_zero, List.getD_cons_succ, List.getD_nil, List.drop_succ_cons, List.drop_zero, List.take_succ_cons, List.take_zero, List.set_cons_zero, List.set_cons_succ, List.all_cons, List.all_nil, Bool.and_true, Bool.true_and, Bool.not_true, Bool.not_false, reduceCtorEq, if_true, if_false, Bool.false_eq_true, ↓reduceIte, Nat.reduceEqDiff, Nat.reduceAdd, Nat.reduceSub, Nat.reduceMul, Nat.reduceLeDiff, Nat.reduceLT, ne_eq, not_false_eq_true, not_true_eq_false, Nat.one_ne_zero, Nat.zero_ne_one, r13_0, r13_1, r13_2, r13_3, r13_4, r13_5, r13_6, r13_7, r13_8, r13_9, r13_10, r13_11, r13_13, r13_14, r13_12, r13_15, p13, l13_0, q]) | (exfalso; omega)
      have q : ((a.length : Int) == 0) = false := by rw [beq_eq_false_iff_ne]; omega
      by_cases eb : b.length = 0
      · have q2 : ((b.length : Int) == 0) = true := by rw [beq_iff_eq]; omega
        repeat' first | (with_reducible refine condD (fun h => ?_) (fun h => ?_)) | (with_reducible refine condE (fun h => ?_) (fun h => ?_)) | (with_reducible refine condN (fun h => ?_) (fun h => ?_)) | (with_reducible refine condI (fun h => ?_) (fun h => ?_)) | (with_reducible refine condS (fun h => ?_) (fun h => ?_)) | (with_reducible refine guardD (by with_unfolding_all rfl) (fun h => ?_) (fun h => ?_)) | (with_reducible refine guardE (by with_unfolding_all rfl) (fun h => ?_) (fun h => ?_)) | (with_reducible refine guardN (by with_unfolding_all rfl) (fun h => ?_) (fun h => ?_)) | (with_reducible refine guardI (by with_unfolding_all rfl) (fun h => ?_) (fun h => ?_)) | (with_reducible refine guardS (by with_unfolding_all rfl) (fun h => ?_) (fun h => ?_)) | ((refine callG awake3_c ?_)) | (with_reducible refine And.intro ?_ ?_; omega) | (simp only [done_eq, done_eq', fin_val, fin_tup, fin_agg, fin_ro, res_one, res_more, rv_t, rv_c, rv_l, AV.tup.injEq, AV.agg.injEq, AV.ro.injEq, List.cons.injEq, int_eq, bool_eq, Int.toNat_natCast, Int.reduceToNat, Int.toNat_zero, Int.toNat_one, Int.reduceLE, Int.reduceLT, Int.reduceBEq, Int.reduceBNe, beq_self_eq_true, bne_self_eq_false, decide_true, decide_false,  Int.reduceNeg, toNat_pred, toNat_succ, List.length_map, cnd_t, cnd_f, grd_tt, grd_u, grd_tf, grd_ft, grd_ff, g_skip, g_ops, g_seq, g_block, g_exit, g_ret, x_c, x_o, x_l, x_b, g_b, g_nil, r_all, o_nil, g_cond, o_guard, o_call, o_callm, o_callv, lk, ef, o_mv, o_pick, o_bin, o_never, o_eqs, o_eqb, o_un, o_conv, o_load, o_loads, o_fld, o_idx, o_idxs, o_len, o_lens, o_ext, o_nilck, o_slc, o_slcs, o_build, o_minmax, o_mkfn, o_alloc, o_box, o_boxs, o_row, o_rowr, o_mk, o_asg, o_app, o_store, o_stores, o_eqnil, hv, eqAV, ev, view_t, view_c, view_nil, view_fn, look_own, look_box, look_junk, look_val, look_nilsl, look_ro, look_roAt, look_agg, look_tup, look_clo, look_alias, look_ref, look_into, rowOf, cellsOf, argv, vbin, vun, bnd, elemOf, putParts, setAt, zav, ASt.rid, ASt.free, AV.kill, AV.isHome, AV.noLoan, AV.cellOK, Value.oneCell', put_at, mk_at, mk_nil, initSt, true_and, and_true, and_self, implies_true, List.map_cons, List.map_nil, List.forall_mem_cons, List.not_mem_nil, false_implies, List.length_cons, List.length_nil, List.getD_cons_zero, List.getD_cons_succ, List.getD_nil, List.drop_succ_cons, List.drop_zero, List.take_succ_cons, List.take_zero, List.set_cons_zero, List.set_cons_succ, List.all_cons, List.all_nil, Bool.and_true, Bool.true_and, Bool.not_true, Bool.not_false, reduceCtorEq, if_true, if_false, Bool.false_eq_true, ↓reduceIte, Nat.reduceEqDiff, Nat.reduceAdd, Nat.reduceSub, Nat.reduceMul, Nat.reduceLeDiff, Nat.reduceLT, ne_eq, not_false_eq_true, not_true_eq_false, Nat.one_ne_zero, Nat.zero_ne_one, r13_0, r13_1, r13_2, r13_3, r13_4, r13_5, r13_6, r13_7, r13_8, r13_9, r13_10, r13_11, r13_13, r13_14, r13_12, r13_15, p13, l13_0, q, q2]) | (exfalso; omega)
      have q2 : ((b.length : Int) == 0) = false := by rw [beq_eq_false_iff_ne]; omega
      have hYne : Y.map (· + D) ≠ [] := by
        intro e
        have := congrArg List.length e
        simp at this
        rw [this] at hYl
        simp at hYl
        omega
      have hEne : E ≠ [] := by
        intro e
        rw [e] at hEl
        simp at hEl
        omega
      have c1 := min_c _ hYne
      rw [hmin ea eb, ← hXd] at c1
      have c2 := max_c E hEne
      generalize Go.Lib.maxOf E = M at *
      have tl : X.take (a.length + b.length) = X := by rw [← hXl]; exact List.take_length
      repeat' first | (with_reducible refine condD (fun h => ?_) (fun h => ?_)) | (with_reducible refine condE (fun h => ?_) (fun h => ?_)) | (with_reducible refine condN (fun h => ?_) (fun h => ?_)) | (with_reducible refine condI (fun h => ?_) (fun h => ?_)) | (with_reducible refine condS (fun h => ?_) (fun h => ?_)) | (with_reducible refine guardD (by with_unfolding_all rfl) (fun h => ?_) (fun h => ?_)) | (with_reducible refine guardE (by with_unfolding_all rfl) (fun h => ?_) (fun h => ?_)) | (with_reducible refine guardN (by with_unfolding_all rfl) (fun h => ?_) (fun h => ?_)) | (with_reducible refine guardI (by with_unfolding_all rfl) (fun h => ?_) (fun h => ?_)) | (with_reducible refine guardS (by with_unfolding_all rfl) (fun h => ?_) (fun h => ?_)) | ((refine callG c1 ?_)) | ((refine callG c2 ?_)) | ((refine callG awake3_c ?_)) | (with_reducible refine And.intro ?_ ?_; omega) | (simp only [done_eq, done_eq', fin_val, fin_tup, fin_agg, fin_ro, res_one, res_more, rv_t, rv_c, rv_l, AV.tup.injEq, AV.agg.injEq, AV.ro.injEq, List.cons.injEq, int_eq, bool_eq, Int.toNat_natCast, Int.reduceToNat, Int.toNat_zero, Int.toNat_one, Int.reduceLE, Int.reduceLT, Int.reduceBEq, Int.reduceBNe, beq_self_eq_true, bne_self_eq_false, decide_true, decide_false,  Int.reduceNeg, toNat_pred, toNat_succ, List.length_map, cnd_t, cnd_f, grd_tt, grd_u, grd_tf, grd_ft, grd_ff, g_skip, g_ops, g_seq, g_block, g_exit, g_ret, x_c, x_o, x_l, x_b, g_b, g_nil, r_all, o_nil, g_cond, o_guard, o_call, o_callm, o_callv, lk, ef, o_mv, o_pick, o_bin, o_never, o_eqs, o_eqb, o_un, o_conv, o_load, o_loads, o_fld, o_idx, o_idxs, o_len, o_lens, o_ext, o_nilck, o_slc, o_slcs, o_build, o_minmax, o_mkfn, o_alloc, o_box, o_boxs, o_row, o_rowr, o_mk, o_asg, o_app, o_store, o_stores, o_eqnil, hv, eqAV, ev, view_t, view_c, view_nil, view_fn, look_own, look_box, look_junk, look_val, look_nilsl, look_ro, look_roAt, look_agg, look_tup, look_clo, look_alias, look_ref, look_into, rowOf, cellsOf, argv, vbin, vun, bnd, elemOf, putParts, setAt, zav, ASt.rid, ASt.free, AV.kill, AV.isHome, AV.noLoan, AV.cellOK, Value.oneCell', put_at, mk_at, mk_nil, initSt, true_and, and_true, and_self, implies_true, List.map_cons, List.map_nil, List.forall_mem_cons, List.not_mem_nil, false_implies, List.length_cons, List.length_nil, List.getD_cons_zero, List.getD_cons_succ, List.getD_nil, List.drop_succ_cons, List.drop_zero, List.take_succ_cons, List.take_zero, List.set_cons_zero, List.set_cons_succ, List.all_cons, List.all_nil, Bool.and_true, Bool.true_and, Bool.not_true, Bool.not_false, reduceCtorEq, if_true, if_false, Bool.false_eq_true, ↓reduceIte, Nat.reduceEqDiff, Nat.reduceAdd, Nat.reduceSub, Nat.reduceMul, Nat.reduceLeDiff, Nat.reduceLT, ne_eq, not_false_eq_true, not_true_eq_false, Nat.one_ne_zero, Nat.zero_ne_one, r13_0, r13_1, r13_2, r13_3, r13_4, r13_5, r13_6, r13_7, r13_8, r13_9, r13_10, r13_11, r13_13, r13_14, r13_12, r13_15, p13, l13_0, q, q2, ← List.map_take, ← List.map_drop, ones_len', hXl, tl]) | (exfalso; omega)
theorem joins_c : ∀ avs, HasArgs [.one (.row [.int .i64, .int .i64, .int .i64, .int .i64, .bool]), .one (.row [.int .i64, .int .i64, .int .i64, .int .i64, .bool])] avs → CallOK Try.prog 13 avs (.val (.bool true)) := by
  intro avs h
  obtain ⟨v0, r, rfl, h0, h⟩ := args_cons h
  obtain ⟨v1, r, rfl, h1, h⟩ := args_cons h
  obtain rfl := args_nil h
  obtain ⟨n0, rfl, hl0, hb0⟩ := has_row h0 all_smp
  obtain ⟨n1, rfl, hl1, hb1⟩ := has_row h1 all_smp
  exact joins_d n0 n1

/-! ### The row -/
open Go.ChangeShapes Go.WideShapes Go.ChangeAt
set_option maxRecDepth 100000 in
theorem joins_lifted (os : Os) (started : os.Started) (H : Type) (enc : TypeId × Value → H) :
    ReturnsInHanded {} Try.checked os 13 .any (Rows.sampleJoinsFollowSpec.pre6 enc Try.prog Try.f13 Rows.sampleJoinsFollowRow.domain false) (Rows.sampleJoinsFollowSpec.post enc Try.prog Try.f13 false true false false) := by
  refine returnsInHanded_of_change (C := Try.checked) own_knob started (by kernel_rfl) Try.func13
    (ChangeSpec.witness6 (enc := enc) (C := Try.checked) false ⟨#[], #[.slice none 0 0, .slice none 0 0], []⟩ 8 (by kernel_rfl) (by kernel_rfl) (by kernel_rfl) (by kernel_rfl)) ?_
  intro W base args ds gs before hval hW _ _
  refine law_step rfl (by kernel_rfl) (fun ds h => ?_) ?_ hval hW ?_
  · match ds, h with | [a, b], _ => exact ⟨rfl, rfl, rfl⟩
  · rw [Try.params13]
    intro t ht
    simp only [List.mem_cons, List.not_mem_nil, or_false] at ht
    repeat' (first | (rcases ht with rfl | ht) | subst ht)
    all_goals exact ⟨by kernel_rfl, of_decide_eq_true (by kernel_rfl)⟩
  · rw [Try.params13]
    intro hin
    exact law_dm (ss := [.one (.row [.int .i64, .int .i64, .int .i64, .int .i64, .bool]), .one (.row [.int .i64, .int .i64, .int .i64, .int .i64, .bool])]) (by kernel_rfl) hin joins_c

theorem joins_holds : Rows.SampleJoinsFollowSaid :=
  OpenClaim.holds_of_wide 13 Try.f13 rfl rfl rfl rfl rfl rfl rfl ⟨rfl, rfl, rfl, rfl, rfl⟩ rfl rfl rfl rfl rfl (by kernel_rfl) Try.func13 (by kernel_rfl)
    (of_decide_eq_true (by kernel_rfl)) (by unfold Func.isWrapper; first | (rw [if_pos (by decide +kernel)]; kernel_rfl) | (rw [if_neg (by decide +kernel)]; exact ⟨rfl, rfl⟩))
    (fun os started H enc _ => joins_lifted os started H enc)

end Go.Proofs.Ytkklgckmdnejfaa
