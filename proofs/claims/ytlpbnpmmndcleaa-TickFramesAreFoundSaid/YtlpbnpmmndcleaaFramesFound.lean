/- TickFramesAreFound: the frame at the time of a frame begins at this time, and the frame at a time does not begin after it, but the next one does. For every input; no condition. -/
import Derived.Test.YtlpbnpmmndcleaaKFrame
import Derived.Test.YtlpbnpmmndcleaaRows
namespace Go.Proofs.Ytlpbnpmmndcleaa
open Go.RowKit
set_option linter.unusedSimpArgs false

/-! headend/headendlaw1.TickFramesAreFound -/
def r4_0 : List POp := [⟨10, .asg (.c (.bool false)), none⟩]
def r4_1 : List POp := [⟨21, .mv (.t 0), none⟩,
  ⟨22, .mv (.t 2), none⟩,
  ⟨23, .mv (.t 3), none⟩,
  ⟨24, .mv (.t 4), none⟩,
  ⟨25, .call 15 [.t 21, .t 22, .t 23, .t 24], none⟩,
  ⟨20, .mv (.t 25), none⟩,
  ⟨26, .ext 0 (.t 20), none⟩,
  ⟨27, .ext 1 (.t 20), none⟩,
  ⟨11, .mv (.t 26), none⟩,
  ⟨12, .mv (.t 27), none⟩]
def r4_2 : List POp := [⟨28, .mv (.t 12), none⟩,
  ⟨29, .bin .eql (.t 28) (.c (.int .i64 0)), none⟩]
def r4_3 : List POp := [⟨31, .mv (.t 11), none⟩,
  ⟨32, .mv (.t 2), none⟩,
  ⟨33, .mv (.t 3), none⟩,
  ⟨34, .mv (.t 4), none⟩,
  ⟨35, .call 16 [.t 31, .t 32, .t 33, .t 34], none⟩,
  ⟨30, .mv (.t 35), none⟩,
  ⟨36, .ext 0 (.t 30), none⟩,
  ⟨37, .ext 1 (.t 30), none⟩,
  ⟨13, .mv (.t 36), none⟩,
  ⟨14, .mv (.t 37), none⟩]
def r4_4 : List POp := [⟨39, .mv (.t 13), none⟩,
  ⟨40, .mv (.t 2), none⟩,
  ⟨41, .mv (.t 3), none⟩,
  ⟨42, .mv (.t 4), none⟩,
  ⟨43, .call 15 [.t 39, .t 40, .t 41, .t 42], none⟩,
  ⟨38, .mv (.t 43), none⟩,
  ⟨44, .ext 0 (.t 38), none⟩,
  ⟨45, .ext 1 (.t 38), none⟩,
  ⟨15, .mv (.t 44), none⟩,
  ⟨16, .mv (.t 45), none⟩]
def r4_5 : List POp := [⟨46, .mv (.t 14), none⟩,
  ⟨47, .bin .neq (.t 46) (.c (.int .i64 0)), none⟩,
  ⟨48, .mv (.t 47), none⟩,
  ⟨49, .mv (.t 16), some (48, false)⟩,
  ⟨50, .bin .neq (.t 49) (.c (.int .i64 0)), some (48, false)⟩,
  ⟨51, .pick (.t 48) (.c (.bool true)) (.t 50), none⟩,
  ⟨52, .mv (.t 51), none⟩,
  ⟨53, .mv (.t 13), some (52, false)⟩,
  ⟨54, .mv (.t 0), some (52, false)⟩,
  ⟨55, .bin .lss (.t 53) (.t 54), some (52, false)⟩,
  ⟨56, .pick (.t 52) (.c (.bool true)) (.t 55), none⟩,
  ⟨57, .mv (.t 56), none⟩,
  ⟨58, .mv (.t 15), some (57, false)⟩,
  ⟨59, .mv (.t 11), some (57, false)⟩,
  ⟨60, .bin .neq (.t 58) (.t 59), some (57, false)⟩,
  ⟨61, .pick (.t 57) (.c (.bool true)) (.t 60), none⟩]
def r4_6 : List POp := [⟨10, .asg (.c (.bool false)), none⟩]
def r4_7 : List POp := [⟨63, .mv (.t 1), none⟩,
  ⟨64, .mv (.t 2), none⟩,
  ⟨65, .mv (.t 3), none⟩,
  ⟨66, .mv (.t 4), none⟩,
  ⟨67, .call 16 [.t 63, .t 64, .t 65, .t 66], none⟩,
  ⟨62, .mv (.t 67), none⟩,
  ⟨68, .ext 0 (.t 62), none⟩,
  ⟨69, .ext 1 (.t 62), none⟩,
  ⟨17, .mv (.t 68), none⟩,
  ⟨12, .mv (.t 69), none⟩]
def r4_8 : List POp := [⟨70, .mv (.t 12), none⟩,
  ⟨71, .bin .neq (.t 70) (.c (.int .i64 0)), none⟩]
def r4_9 : List POp := [⟨72, .mv (.t 17), none⟩,
  ⟨73, .bin .eql (.t 72) (.c (.int .i64 0)), none⟩,
  ⟨74, .mv (.t 73), none⟩,
  ⟨75, .call 14 [], some (74, true)⟩,
  ⟨76, .pick (.t 74) (.t 75) (.c (.bool false)), none⟩,
  ⟨10, .asg (.t 76), none⟩]
def r4_10 : List POp := [⟨78, .mv (.t 17), none⟩,
  ⟨79, .mv (.t 2), none⟩,
  ⟨80, .mv (.t 3), none⟩,
  ⟨81, .mv (.t 4), none⟩,
  ⟨82, .call 15 [.t 78, .t 79, .t 80, .t 81], none⟩,
  ⟨77, .mv (.t 82), none⟩,
  ⟨83, .ext 0 (.t 77), none⟩,
  ⟨84, .ext 1 (.t 77), none⟩,
  ⟨18, .mv (.t 83), none⟩,
  ⟨12, .mv (.t 84), none⟩]
def r4_11 : List POp := [⟨85, .mv (.t 12), none⟩,
  ⟨86, .bin .neq (.t 85) (.c (.int .i64 0)), none⟩,
  ⟨87, .mv (.t 86), none⟩,
  ⟨88, .mv (.t 18), some (87, false)⟩,
  ⟨89, .mv (.t 1), some (87, false)⟩,
  ⟨90, .bin .gtr (.t 88) (.t 89), some (87, false)⟩,
  ⟨91, .pick (.t 87) (.c (.bool true)) (.t 90), none⟩]
def r4_12 : List POp := [⟨10, .asg (.c (.bool false)), none⟩]
def r4_13 : List POp := [⟨93, .mv (.t 17), none⟩,
  ⟨94, .bin .add (.t 93) (.c (.int .i64 1)), none⟩,
  ⟨95, .mv (.t 2), none⟩,
  ⟨96, .mv (.t 3), none⟩,
  ⟨97, .mv (.t 4), none⟩,
  ⟨98, .call 15 [.t 94, .t 95, .t 96, .t 97], none⟩,
  ⟨92, .mv (.t 98), none⟩,
  ⟨99, .ext 0 (.t 92), none⟩,
  ⟨100, .ext 1 (.t 92), none⟩,
  ⟨19, .mv (.t 99), none⟩,
  ⟨12, .mv (.t 100), none⟩]
def r4_14 : List POp := [⟨101, .mv (.t 12), none⟩,
  ⟨102, .bin .neq (.t 101) (.c (.int .i64 0)), none⟩,
  ⟨103, .mv (.t 102), none⟩,
  ⟨104, .mv (.t 19), some (103, false)⟩,
  ⟨105, .mv (.t 1), some (103, false)⟩,
  ⟨106, .bin .gtr (.t 104) (.t 105), some (103, false)⟩,
  ⟨107, .pick (.t 103) (.c (.bool true)) (.t 106), none⟩,
  ⟨108, .mv (.t 107), none⟩,
  ⟨109, .call 14 [], some (108, true)⟩,
  ⟨110, .pick (.t 108) (.t 109) (.c (.bool false)), none⟩,
  ⟨10, .asg (.t 110), none⟩]
def p4 : PCode := .seq (.ops r4_0) (.seq (.ops r4_1) (.seq (.seq (.ops r4_2) (.cond (.t 29) (.seq (.ops r4_3) (.seq (.ops r4_4) (.seq (.ops r4_5) (.cond (.t 61) (.seq (.ops r4_6) (.ret)) (.skip))))) (.skip))) (.seq (.ops r4_7) (.seq (.seq (.ops r4_8) (.cond (.t 71) (.seq (.ops r4_9) (.ret)) (.skip))) (.seq (.ops r4_10) (.seq (.seq (.ops r4_11) (.cond (.t 91) (.seq (.ops r4_12) (.ret)) (.skip))) (.seq (.ops r4_13) (.seq (.ops r4_14) (.ret)))))))))
theorem ok4 : okFunc Try.prog 4 [.t 10] 5 p4 = true := by kernel_rfl
theorem frmTime_bad {k a b c : Int} (h : frmBad a b c = true) : frmTime k a b c = (0, 1) := by simp [frmTime, h]
theorem frmAt_bad {k a b c : Int} (h : frmBad a b c = true) : frmAt k a b c = (0, 1) := by simp [frmAt, h]
theorem frmTime_nat {k a b c : Nat} (h : frmBad a b c = false) : frmTime k a b c = if 1000000000 < k ∨ 1000000000000000 < ft a b c k then (0, 1) else (((ft a b c k : Nat) : Int), 0) := by
  simp only [frmTime, h, Bool.or_false, Int.toNat_natCast]
  by_cases h1 : 1000000000 < k
  · rw [if_pos (by simp [outB]; omega), if_pos (.inl h1)]
  · rw [if_neg (by simp [outB]; omega)]
    by_cases h2 : 1000000000000000 < ft a b c k
    · rw [if_pos (by omega), if_pos (.inr h2)]
    · rw [if_neg (by omega), if_neg (by omega)]
theorem frmAt_nat {t a b c : Nat} (h : frmBad a b c = false) : frmAt t a b c = if 1000000000000000 < t then (0, 1) else (((ftAt a b c t : Nat) : Int), 0) := by
  simp only [frmAt, h, Bool.or_false, Int.toNat_natCast]
  by_cases h1 : 1000000000000000 < t
  · rw [if_pos (by simp [outB]; omega), if_pos h1]
  · rw [if_neg (by simp [outB]; omega), if_neg h1]
theorem frmTime_neg {k a b c : Int} (h : k < 0) : frmTime k a b c = (0, 1) := by simp [frmTime, outB, h]
theorem frmAt_neg {k a b c : Int} (h : k < 0) : frmAt k a b c = (0, 1) := by simp [frmAt, outB, h]
/-- The first half: the frame at the time of a frame. -/
theorem frm_half (frame a b c : Int) : (frmTime frame a b c).2 = 0 → ∃ n : Nat, n ≤ 1000000000 ∧ frame ≤ n ∧ frmAt (frmTime frame a b c).1 a b c = ((n : Int), 0) ∧ frmTime n a b c = ((frmTime frame a b c).1, 0) := by
  intro h
  by_cases hb : frmBad a b c = true
  · rw [frmTime_bad hb] at h; cases h
  · simp only [Bool.not_eq_true] at hb
    by_cases hk : frame < 0
    · rw [frmTime_neg hk] at h; cases h
    · obtain ⟨a, b, c, rfl, rfl, rfl, a1, a2, b1, b2, c1, c2⟩ := frmBad_f hb
      obtain ⟨k, rfl⟩ : ∃ k : Nat, frame = k := ⟨frame.toNat, by omega⟩
      rw [frmTime_nat hb] at h ⊢
      split at h
      · cases h
      · rename_i h1
        rw [if_neg h1, frmAt_nat hb, if_neg (by omega)]
        have m1 := ftAt_max (show k ≤ 1000000000 by omega) (Nat.le_refl (ft a b c k))
        have m2 := ftAt_is a b c (ft a b c k)
        have m3 := ft_mono a b c m1
        have m4 := ftAt_le a b c (ft a b c k)
        refine ⟨ftAt a b c (ft a b c k), m4, by omega, rfl, ?_⟩
        rw [frmTime_nat hb, if_neg (by omega)]
        have : ft a b c (ftAt a b c (ft a b c k)) = ft a b c k := by omega
        rw [this]
/-- The second half: the frame at a time. -/
theorem at_half (time a b c : Int) : ((frmAt time a b c).2 ≠ 0 ∧ (frmAt time a b c).1 = 0) ∨ ∃ n : Nat, n ≤ 1000000000 ∧ frmAt time a b c = ((n : Int), 0) ∧ (frmTime n a b c).2 = 0 ∧ (frmTime n a b c).1 ≤ time ∧ ((frmTime (n + 1 : Nat) a b c).2 = 0 → time < (frmTime (n + 1 : Nat) a b c).1) := by
  by_cases hb : frmBad a b c = true
  · rw [frmAt_bad hb]; exact .inl ⟨by decide, rfl⟩
  · simp only [Bool.not_eq_true] at hb
    by_cases hk : time < 0
    · rw [frmAt_neg hk]; exact .inl ⟨by decide, rfl⟩
    · obtain ⟨a, b, c, rfl, rfl, rfl, a1, a2, b1, b2, c1, c2⟩ := frmBad_f hb
      obtain ⟨t, rfl⟩ : ∃ k : Nat, time = k := ⟨time.toNat, by omega⟩
      rw [frmAt_nat hb]
      split
      · exact .inl ⟨by decide, rfl⟩
      · rename_i h1
        have m2 := ftAt_is a b c t
        have m4 := ftAt_le a b c t
        refine .inr ⟨ftAt a b c t, m4, rfl, ?_⟩
        rw [frmTime_nat hb, if_neg (by omega), frmTime_nat hb]
        refine ⟨rfl, by simp only; omega, fun h => ?_⟩
        split at h
        · cases h
        · rename_i h2
          rw [if_neg h2]
          rcases Nat.lt_or_ge t (ft a b c (ftAt a b c t + 1)) with h3 | h3
          · simp only; omega
          · have := ftAt_max (show ftAt a b c t + 1 ≤ 1000000000 by omega) h3
            omega
set_option maxHeartbeats 1000000 in
theorem framesfound_d (frame time a b c : Int) : CallOK Try.prog 4 [.val (.int .i64 frame), .val (.int .i64 time), .val (.int .i64 a), .val (.int .i64 b), .val (.int .i64 c)] (.val (.bool true)) := by
  refine call_of mixed ok4 rfl ?_
  have k1 := frametime_c frame a b c
  have k2 := frameat_c time a b c
  have hH := frm_half frame a b c
  rcases at_half time a b c with ⟨g1, g2⟩ | ⟨n, hn, g1, g2, g3, g4⟩
  · rw [g2] at k2
    generalize (frmAt time a b c).2 = e at k2 g1
    by_cases h : (frmTime frame a b c).2 = 0
    · obtain ⟨m, m1, m2, m3, m4⟩ := hH h
      have k3 := frameat_c (frmTime frame a b c).1 a b c
      have k4 := frametime_c m a b c
      rw [m3] at k3
      rw [m4] at k4
      rw [h] at k1
      simp only at k3 k4
      have hmf : ¬ (m : Int) < frame := by omega
      repeat' first | (with_reducible refine condD (fun h => ?_) (fun h => ?_)) | (with_reducible refine condE (fun h => ?_) (fun h => ?_)) | (with_reducible refine condN (fun h => ?_) (fun h => ?_)) | (with_reducible refine condI (fun h => ?_) (fun h => ?_)) | (with_reducible refine condS (fun h => ?_) (fun h => ?_)) | (with_reducible refine guardD (by with_unfolding_all rfl) (fun h => ?_) (fun h => ?_)) | (with_reducible refine guardE (by with_unfolding_all rfl) (fun h => ?_) (fun h => ?_)) | (with_reducible refine guardN (by with_unfolding_all rfl) (fun h => ?_) (fun h => ?_)) | (with_reducible refine guardI (by with_unfolding_all rfl) (fun h => ?_) (fun h => ?_)) | (with_reducible refine guardS (by with_unfolding_all rfl) (fun h => ?_) (fun h => ?_)) | ((refine callG k1 ?_)) | ((refine callG k2 ?_)) | ((refine callG k3 ?_)) | ((refine callG k4 ?_)) | ((refine callG awake1_c ?_)) | (with_reducible refine And.intro ?_ ?_; omega) | (simp only [done_eq, done_eq', fin_val, fin_tup, fin_agg, fin_ro, res_one, res_more, rv_t, rv_c, rv_l, AV.tup.injEq, AV.agg.injEq, AV.ro.injEq, List.cons.injEq, int_eq, bool_eq, Int.toNat_natCast, Int.reduceToNat, Int.toNat_zero, Int.toNat_one, Int.reduceLE, Int.reduceLT, Int.reduceBEq, Int.reduceBNe, beq_self_eq_true, bne_self_eq_false, decide_true, decide_false,  Int.reduceNeg, toNat_pred, toNat_succ, List.length_map, cnd_t, cnd_f, grd_tt, grd_u, grd_tf, grd_ft, grd_ff, g_skip, g_ops, g_seq, g_block, g_exit, g_ret, x_c, x_o, x_l, x_b, g_b, g_nil, r_all, o_nil, g_cond, o_guard, o_call, o_callv, lk, ef, o_mv, o_pick, o_bin, o_never, o_eqs, o_eqb, o_un, o_conv, o_load, o_loads, o_fld, o_idx, o_idxs, o_len, o_lens, o_ext, o_nilck, o_slc, o_slcs, o_build, o_minmax, o_mkfn, o_alloc, o_box, o_boxs, o_row, o_rowr, o_mk, o_asg, o_app, o_store, o_stores, hv, eqAV, ev, view_t, view_c, view_nil, view_fn, look_own, look_box, look_junk, look_val, look_nilsl, look_ro, look_roAt, look_agg, look_tup, look_clo, look_alias, look_ref, look_into, rowOf, cellsOf, argv, vbin, vun, bnd, elemOf, putParts, setAt, zav, ASt.rid, ASt.free, AV.kill, AV.isHome, AV.noLoan, AV.cellOK, Value.oneCell', put_at, mk_at, mk_nil, initSt, true_and, and_true, and_self, implies_true, List.map_cons, List.map_nil, List.forall_mem_cons, List.not_mem_nil, false_implies, List.length_cons, List.length_nil, List.getD_cons_zero, List.getD_cons_succ, List.getD_nil, List.drop_succ_cons, List.drop_zero, List.take_succ_cons, List.take_zero, List.set_cons_zero, List.set_cons_succ, List.all_cons, List.all_nil, Bool.and_true, Bool.true_and, Bool.not_true, Bool.not_false, reduceCtorEq, if_true, if_false, Bool.false_eq_true, ↓reduceIte, Nat.reduceEqDiff, Nat.reduceAdd, Nat.reduceSub, Nat.reduceMul, Nat.reduceLeDiff, Nat.reduceLT, ne_eq, not_false_eq_true, not_true_eq_false, Nat.one_ne_zero, Nat.zero_ne_one, r4_0, r4_1, r4_2, r4_3, r4_4, r4_5, r4_6, r4_7, r4_8, r4_9, r4_10, r4_11, r4_12, r4_13, r4_14, p4, hmf, beq0_f g1, bne0_t g1, bne_self_eq_false]) | (exfalso; omega)
    · repeat' first | (with_reducible refine condD (fun h => ?_) (fun h => ?_)) | (with_reducible refine condE (fun h => ?_) (fun h => ?_)) | (with_reducible refine condN (fun h => ?_) (fun h => ?_)) | (with_reducible refine condI (fun h => ?_) (fun h => ?_)) | (with_reducible refine condS (fun h => ?_) (fun h => ?_)) | (with_reducible refine guardD (by with_unfolding_all rfl) (fun h => ?_) (fun h => ?_)) | (with_reducible refine guardE (by with_unfolding_all rfl) (fun h => ?_) (fun h => ?_)) | (with_reducible refine guardN (by with_unfolding_all rfl) (fun h => ?_) (fun h => ?_)) | (with_reducible refine guardI (by with_unfolding_all rfl) (fun h => ?_) (fun h => ?_)) | (with_reducible refine guardS (by with_unfolding_all rfl) (fun h => ?_) (fun h => ?_)) | ((refine callG k1 ?_)) | ((refine callG k2 ?_)) | ((refine callG awake1_c ?_)) | (with_reducible refine And.intro ?_ ?_; omega) | (simp only [done_eq, done_eq', fin_val, fin_tup, fin_agg, fin_ro, res_one, res_more, rv_t, rv_c, rv_l, AV.tup.injEq, AV.agg.injEq, AV.ro.injEq, List.cons.injEq, int_eq, bool_eq, Int.toNat_natCast, Int.reduceToNat, Int.toNat_zero, Int.toNat_one, Int.reduceLE, Int.reduceLT, Int.reduceBEq, Int.reduceBNe, beq_self_eq_true, bne_self_eq_false, decide_true, decide_false,  Int.reduceNeg, toNat_pred, toNat_succ, List.length_map, cnd_t, cnd_f, grd_tt, grd_u, grd_tf, grd_ft, grd_ff, g_skip, g_ops, g_seq, g_block, g_exit, g_ret, x_c, x_o, x_l, x_b, g_b, g_nil, r_all, o_nil, g_cond, o_guard, o_call, o_callv, lk, ef, o_mv, o_pick, o_bin, o_never, o_eqs, o_eqb, o_un, o_conv, o_load, o_loads, o_fld, o_idx, o_idxs, o_len, o_lens, o_ext, o_nilck, o_slc, o_slcs, o_build, o_minmax, o_mkfn, o_alloc, o_box, o_boxs, o_row, o_rowr, o_mk, o_asg, o_app, o_store, o_stores, hv, eqAV, ev, view_t, view_c, view_nil, view_fn, look_own, look_box, look_junk, look_val, look_nilsl, look_ro, look_roAt, look_agg, look_tup, look_clo, look_alias, look_ref, look_into, rowOf, cellsOf, argv, vbin, vun, bnd, elemOf, putParts, setAt, zav, ASt.rid, ASt.free, AV.kill, AV.isHome, AV.noLoan, AV.cellOK, Value.oneCell', put_at, mk_at, mk_nil, initSt, true_and, and_true, and_self, implies_true, List.map_cons, List.map_nil, List.forall_mem_cons, List.not_mem_nil, false_implies, List.length_cons, List.length_nil, List.getD_cons_zero, List.getD_cons_succ, List.getD_nil, List.drop_succ_cons, List.drop_zero, List.take_succ_cons, List.take_zero, List.set_cons_zero, List.set_cons_succ, List.all_cons, List.all_nil, Bool.and_true, Bool.true_and, Bool.not_true, Bool.not_false, reduceCtorEq, if_true, if_false, Bool.false_eq_true, ↓reduceIte, Nat.reduceEqDiff, Nat.reduceAdd, Nat.reduceSub, Nat.reduceMul, Nat.reduceLeDiff, Nat.reduceLT, ne_eq, not_false_eq_true, not_true_eq_false, Nat.one_ne_zero, Nat.zero_ne_one, r4_0, r4_1, r4_2, r4_3, r4_4, r4_5, r4_6, r4_7, r4_8, r4_9, r4_10, r4_11, r4_12, r4_13, r4_14, p4, beq0_f h, bne0_t h, beq0_f g1, bne0_t g1]) | (exfalso; omega)
  · rw [g1] at k2
    have j1 := frametime_c n a b c
    have j2 := frametime_c (n + 1 : Nat) a b c
    rw [g2] at j1
    simp only at k2
    have hnu : ¬ time < (frmTime n a b c).1 := by omega
    have hw := i_add1 n (by omega)
    generalize (frmTime n a b c).1 = U at j1 hnu
    generalize (frmTime (n + 1 : Nat) a b c).1 = V at j2 g4
    generalize (frmTime (n + 1 : Nat) a b c).2 = F at j2 g4
    clear g1 g2 g3
    by_cases h : (frmTime frame a b c).2 = 0
    · obtain ⟨m, m1, m2, m3, m4⟩ := hH h
      have k3 := frameat_c (frmTime frame a b c).1 a b c
      have k4 := frametime_c m a b c
      rw [m3] at k3
      rw [m4] at k4
      rw [h] at k1
      simp only at k3 k4
      have hmf : ¬ (m : Int) < frame := by omega
      by_cases hF : F = 0
      · have hV := g4 hF
        subst hF
        repeat' first | (with_reducible refine condD (fun h => ?_) (fun h => ?_)) | (with_reducible refine condE (fun h => ?_) (fun h => ?_)) | (with_reducible refine condN (fun h => ?_) (fun h => ?_)) | (with_reducible refine condI (fun h => ?_) (fun h => ?_)) | (with_reducible refine condS (fun h => ?_) (fun h => ?_)) | (with_reducible refine guardD (by with_unfolding_all rfl) (fun h => ?_) (fun h => ?_)) | (with_reducible refine guardE (by with_unfolding_all rfl) (fun h => ?_) (fun h => ?_)) | (with_reducible refine guardN (by with_unfolding_all rfl) (fun h => ?_) (fun h => ?_)) | (with_reducible refine guardI (by with_unfolding_all rfl) (fun h => ?_) (fun h => ?_)) | (with_reducible refine guardS (by with_unfolding_all rfl) (fun h => ?_) (fun h => ?_)) | ((refine callG k1 ?_)) | ((refine callG k2 ?_)) | ((refine callG k3 ?_)) | ((refine callG k4 ?_)) | ((refine callG j1 ?_)) | ((refine callG j2 ?_)) | ((refine callG awake1_c ?_)) | (with_reducible refine And.intro ?_ ?_; omega) | (simp only [done_eq, done_eq', fin_val, fin_tup, fin_agg, fin_ro, res_one, res_more, rv_t, rv_c, rv_l, AV.tup.injEq, AV.agg.injEq, AV.ro.injEq, List.cons.injEq, int_eq, bool_eq, Int.toNat_natCast, Int.reduceToNat, Int.toNat_zero, Int.toNat_one, Int.reduceLE, Int.reduceLT, Int.reduceBEq, Int.reduceBNe, beq_self_eq_true, bne_self_eq_false, decide_true, decide_false,  Int.reduceNeg, toNat_pred, toNat_succ, List.length_map, cnd_t, cnd_f, grd_tt, grd_u, grd_tf, grd_ft, grd_ff, g_skip, g_ops, g_seq, g_block, g_exit, g_ret, x_c, x_o, x_l, x_b, g_b, g_nil, r_all, o_nil, g_cond, o_guard, o_call, o_callv, lk, ef, o_mv, o_pick, o_bin, o_never, o_eqs, o_eqb, o_un, o_conv, o_load, o_loads, o_fld, o_idx, o_idxs, o_len, o_lens, o_ext, o_nilck, o_slc, o_slcs, o_build, o_minmax, o_mkfn, o_alloc, o_box, o_boxs, o_row, o_rowr, o_mk, o_asg, o_app, o_store, o_stores, hv, eqAV, ev, view_t, view_c, view_nil, view_fn, look_own, look_box, look_junk, look_val, look_nilsl, look_ro, look_roAt, look_agg, look_tup, look_clo, look_alias, look_ref, look_into, rowOf, cellsOf, argv, vbin, vun, bnd, elemOf, putParts, setAt, zav, ASt.rid, ASt.free, AV.kill, AV.isHome, AV.noLoan, AV.cellOK, Value.oneCell', put_at, mk_at, mk_nil, initSt, true_and, and_true, and_self, implies_true, List.map_cons, List.map_nil, List.forall_mem_cons, List.not_mem_nil, false_implies, List.length_cons, List.length_nil, List.getD_cons_zero, List.getD_cons_succ, List.getD_nil, List.drop_succ_cons, List.drop_zero, List.take_succ_cons, List.take_zero, List.set_cons_zero, List.set_cons_succ, List.all_cons, List.all_nil, Bool.and_true, Bool.true_and, Bool.not_true, Bool.not_false, reduceCtorEq, if_true, if_false, Bool.false_eq_true, ↓reduceIte, Nat.reduceEqDiff, Nat.reduceAdd, Nat.reduceSub, Nat.reduceMul, Nat.reduceLeDiff, Nat.reduceLT, ne_eq, not_false_eq_true, not_true_eq_false, Nat.one_ne_zero, Nat.zero_ne_one, r4_0, r4_1, r4_2, r4_3, r4_4, r4_5, r4_6, r4_7, r4_8, r4_9, r4_10, r4_11, r4_12, r4_13, r4_14, p4, hmf, hnu, hV, hw, bne_self_eq_false]) | (exfalso; omega)
      · repeat' first | (with_reducible refine condD (fun h => ?_) (fun h => ?_)) | (with_reducible refine condE (fun h => ?_) (fun h => ?_)) | (with_reducible refine condN (fun h => ?_) (fun h => ?_)) | (with_reducible refine condI (fun h => ?_) (fun h => ?_)) | (with_reducible refine condS (fun h => ?_) (fun h => ?_)) | (with_reducible refine guardD (by with_unfolding_all rfl) (fun h => ?_) (fun h => ?_)) | (with_reducible refine guardE (by with_unfolding_all rfl) (fun h => ?_) (fun h => ?_)) | (with_reducible refine guardN (by with_unfolding_all rfl) (fun h => ?_) (fun h => ?_)) | (with_reducible refine guardI (by with_unfolding_all rfl) (fun h => ?_) (fun h => ?_)) | (with_reducible refine guardS (by with_unfolding_all rfl) (fun h => ?_) (fun h => ?_)) | ((refine callG k1 ?_)) | ((refine callG k2 ?_)) | ((refine callG k3 ?_)) | ((refine callG k4 ?_)) | ((refine callG j1 ?_)) | ((refine callG j2 ?_)) | ((refine callG awake1_c ?_)) | (with_reducible refine And.intro ?_ ?_; omega) | (simp only [done_eq, done_eq', fin_val, fin_tup, fin_agg, fin_ro, res_one, res_more, rv_t, rv_c, rv_l, AV.tup.injEq, AV.agg.injEq, AV.ro.injEq, List.cons.injEq, int_eq, bool_eq, Int.toNat_natCast, Int.reduceToNat, Int.toNat_zero, Int.toNat_one, Int.reduceLE, Int.reduceLT, Int.reduceBEq, Int.reduceBNe, beq_self_eq_true, bne_self_eq_false, decide_true, decide_false,  Int.reduceNeg, toNat_pred, toNat_succ, List.length_map, cnd_t, cnd_f, grd_tt, grd_u, grd_tf, grd_ft, grd_ff, g_skip, g_ops, g_seq, g_block, g_exit, g_ret, x_c, x_o, x_l, x_b, g_b, g_nil, r_all, o_nil, g_cond, o_guard, o_call, o_callv, lk, ef, o_mv, o_pick, o_bin, o_never, o_eqs, o_eqb, o_un, o_conv, o_load, o_loads, o_fld, o_idx, o_idxs, o_len, o_lens, o_ext, o_nilck, o_slc, o_slcs, o_build, o_minmax, o_mkfn, o_alloc, o_box, o_boxs, o_row, o_rowr, o_mk, o_asg, o_app, o_store, o_stores, hv, eqAV, ev, view_t, view_c, view_nil, view_fn, look_own, look_box, look_junk, look_val, look_nilsl, look_ro, look_roAt, look_agg, look_tup, look_clo, look_alias, look_ref, look_into, rowOf, cellsOf, argv, vbin, vun, bnd, elemOf, putParts, setAt, zav, ASt.rid, ASt.free, AV.kill, AV.isHome, AV.noLoan, AV.cellOK, Value.oneCell', put_at, mk_at, mk_nil, initSt, true_and, and_true, and_self, implies_true, List.map_cons, List.map_nil, List.forall_mem_cons, List.not_mem_nil, false_implies, List.length_cons, List.length_nil, List.getD_cons_zero, List.getD_cons_succ, List.getD_nil, List.drop_succ_cons, List.drop_zero, List.take_succ_cons, List.take_zero, List.set_cons_zero, List.set_cons_succ, List.all_cons, List.all_nil, Bool.and_true, Bool.true_and, Bool.not_true, Bool.not_false, reduceCtorEq, if_true, if_false, Bool.false_eq_true, ↓reduceIte, Nat.reduceEqDiff, Nat.reduceAdd, Nat.reduceSub, Nat.reduceMul, Nat.reduceLeDiff, Nat.reduceLT, ne_eq, not_false_eq_true, not_true_eq_false, Nat.one_ne_zero, Nat.zero_ne_one, r4_0, r4_1, r4_2, r4_3, r4_4, r4_5, r4_6, r4_7, r4_8, r4_9, r4_10, r4_11, r4_12, r4_13, r4_14, p4, hmf, hnu, bne0_t hF, hw, bne_self_eq_false]) | (exfalso; omega)
    · by_cases hF : F = 0
      · have hV := g4 hF
        subst hF
        repeat' first | (with_reducible refine condD (fun h => ?_) (fun h => ?_)) | (with_reducible refine condE (fun h => ?_) (fun h => ?_)) | (with_reducible refine condN (fun h => ?_) (fun h => ?_)) | (with_reducible refine condI (fun h => ?_) (fun h => ?_)) | (with_reducible refine condS (fun h => ?_) (fun h => ?_)) | (with_reducible refine guardD (by with_unfolding_all rfl) (fun h => ?_) (fun h => ?_)) | (with_reducible refine guardE (by with_unfolding_all rfl) (fun h => ?_) (fun h => ?_)) | (with_reducible refine guardN (by with_unfolding_all rfl) (fun h => ?_) (fun h => ?_)) | (with_reducible refine guardI (by with_unfolding_all rfl) (fun h => ?_) (fun h => ?_)) | (with_reducible refine guardS (by with_unfolding_all rfl) (fun h => ?_) (fun h => ?_)) | ((refine callG k1 ?_)) | ((refine callG k2 ?_)) | ((refine callG j1 ?_)) | ((refine callG j2 ?_)) | ((refine callG awake1_c ?_)) | (with_reducible refine And.intro ?_ ?_; omega) | (simp only [done_eq, done_eq', fin_val, fin_tup, fin_agg, fin_ro, res_one, res_more, rv_t, rv_c, rv_l, AV.tup.injEq, AV.agg.injEq, AV.ro.injEq, List.cons.injEq, int_eq, bool_eq, Int.toNat_natCast, Int.reduceToNat, Int.toNat_zero, Int.toNat_one, Int.reduceLE, Int.reduceLT, Int.reduceBEq, Int.reduceBNe, beq_self_eq_true, bne_self_eq_false, decide_true, decide_false,  Int.reduceNeg, toNat_pred, toNat_succ, List.length_map, cnd_t, cnd_f, grd_tt, grd_u, grd_tf, grd_ft, grd_ff, g_skip, g_ops, g_seq, g_block, g_exit, g_ret, x_c, x_o, x_l, x_b, g_b, g_nil, r_all, o_nil, g_cond, o_guard, o_call, o_callv, lk, ef, o_mv, o_pick, o_bin, o_never, o_eqs, o_eqb, o_un, o_conv, o_load, o_loads, o_fld, o_idx, o_idxs, o_len, o_lens, o_ext, o_nilck, o_slc, o_slcs, o_build, o_minmax, o_mkfn, o_alloc, o_box, o_boxs, o_row, o_rowr, o_mk, o_asg, o_app, o_store, o_stores, hv, eqAV, ev, view_t, view_c, view_nil, view_fn, look_own, look_box, look_junk, look_val, look_nilsl, look_ro, look_roAt, look_agg, look_tup, look_clo, look_alias, look_ref, look_into, rowOf, cellsOf, argv, vbin, vun, bnd, elemOf, putParts, setAt, zav, ASt.rid, ASt.free, AV.kill, AV.isHome, AV.noLoan, AV.cellOK, Value.oneCell', put_at, mk_at, mk_nil, initSt, true_and, and_true, and_self, implies_true, List.map_cons, List.map_nil, List.forall_mem_cons, List.not_mem_nil, false_implies, List.length_cons, List.length_nil, List.getD_cons_zero, List.getD_cons_succ, List.getD_nil, List.drop_succ_cons, List.drop_zero, List.take_succ_cons, List.take_zero, List.set_cons_zero, List.set_cons_succ, List.all_cons, List.all_nil, Bool.and_true, Bool.true_and, Bool.not_true, Bool.not_false, reduceCtorEq, if_true, if_false, Bool.false_eq_true, ↓reduceIte, Nat.reduceEqDiff, Nat.reduceAdd, Nat.reduceSub, Nat.reduceMul, Nat.reduceLeDiff, Nat.reduceLT, ne_eq, not_false_eq_true, not_true_eq_false, Nat.one_ne_zero, Nat.zero_ne_one, r4_0, r4_1, r4_2, r4_3, r4_4, r4_5, r4_6, r4_7, r4_8, r4_9, r4_10, r4_11, r4_12, r4_13, r4_14, p4, beq0_f h, bne0_t h, hnu, hV, hw]) | (exfalso; omega)
      · repeat' first | (with_reducible refine condD (fun h => ?_) (fun h => ?_)) | (with_reducible refine condE (fun h => ?_) (fun h => ?_)) | (with_reducible refine condN (fun h => ?_) (fun h => ?_)) | (with_reducible refine condI (fun h => ?_) (fun h => ?_)) | (with_reducible refine condS (fun h => ?_) (fun h => ?_)) | (with_reducible refine guardD (by with_unfolding_all rfl) (fun h => ?_) (fun h => ?_)) | (with_reducible refine guardE (by with_unfolding_all rfl) (fun h => ?_) (fun h => ?_)) | (with_reducible refine guardN (by with_unfolding_all rfl) (fun h => ?_) (fun h => ?_)) | (with_reducible refine guardI (by with_unfolding_all rfl) (fun h => ?_) (fun h => ?_)) | (with_reducible refine guardS (by with_unfolding_all rfl) (fun h => ?_) (fun h => ?_)) | ((refine callG k1 ?_)) | ((refine callG k2 ?_)) | ((refine callG j1 ?_)) | ((refine callG j2 ?_)) | ((refine callG awake1_c ?_)) | (with_reducible refine And.intro ?_ ?_; omega) | (simp only [done_eq, done_eq', fin_val, fin_tup, fin_agg, fin_ro, res_one, res_more, rv_t, rv_c, rv_l, AV.tup.injEq, AV.agg.injEq, AV.ro.injEq, List.cons.injEq, int_eq, bool_eq, Int.toNat_natCast, Int.reduceToNat, Int.toNat_zero, Int.toNat_one, Int.reduceLE, Int.reduceLT, Int.reduceBEq, Int.reduceBNe, beq_self_eq_true, bne_self_eq_false, decide_true, decide_false,  Int.reduceNeg, toNat_pred, toNat_succ, List.length_map, cnd_t, cnd_f, grd_tt, grd_u, grd_tf, grd_ft, grd_ff, g_skip, g_ops, g_seq, g_block, g_exit, g_ret, x_c, x_o, x_l, x_b, g_b, g_nil, r_all, o_nil, g_cond, o_guard, o_call, o_callv, lk, ef, o_mv, o_pick, o_bin, o_never, o_eqs, o_eqb, o_un, o_conv, o_load, o_loads, o_fld, o_idx, o_idxs, o_len, o_lens, o_ext, o_nilck, o_slc, o_slcs, o_build, o_minmax, o_mkfn, o_alloc, o_box, o_boxs, o_row, o_rowr, o_mk, o_asg, o_app, o_store, o_stores, hv, eqAV, ev, view_t, view_c, view_nil, view_fn, look_own, look_box, look_junk, look_val, look_nilsl, look_ro, look_roAt, look_agg, look_tup, look_clo, look_alias, look_ref, look_into, rowOf, cellsOf, argv, vbin, vun, bnd, elemOf, putParts, setAt, zav, ASt.rid, ASt.free, AV.kill, AV.isHome, AV.noLoan, AV.cellOK, Value.oneCell', put_at, mk_at, mk_nil, initSt, true_and, and_true, and_self, implies_true, List.map_cons, List.map_nil, List.forall_mem_cons, List.not_mem_nil, false_implies, List.length_cons, List.length_nil, List.getD_cons_zero, List.getD_cons_succ, List.getD_nil, List.drop_succ_cons, List.drop_zero, List.take_succ_cons, List.take_zero, List.set_cons_zero, List.set_cons_succ, List.all_cons, List.all_nil, Bool.and_true, Bool.true_and, Bool.not_true, Bool.not_false, reduceCtorEq, if_true, if_false, Bool.false_eq_true, ↓reduceIte, Nat.reduceEqDiff, Nat.reduceAdd, Nat.reduceSub, Nat.reduceMul, Nat.reduceLeDiff, Nat.reduceLT, ne_eq, not_false_eq_true, not_true_eq_false, Nat.one_ne_zero, Nat.zero_ne_one, r4_0, r4_1, r4_2, r4_3, r4_4, r4_5, r4_6, r4_7, r4_8, r4_9, r4_10, r4_11, r4_12, r4_13, r4_14, p4, beq0_f h, bne0_t h, hnu, bne0_t hF, hw]) | (exfalso; omega)
theorem framesfound_c : ∀ avs, HasArgs [.one (.int .i64), .one (.int .i64), .one (.int .i64), .one (.int .i64), .one (.int .i64)] avs → CallOK Try.prog 4 avs (.val (.bool true)) := by
  intro avs h
  obtain ⟨v0, r, rfl, h0, h⟩ := args_cons h
  obtain ⟨v1, r, rfl, h1, h⟩ := args_cons h
  obtain ⟨v2, r, rfl, h2, h⟩ := args_cons h
  obtain ⟨v3, r, rfl, h3, h⟩ := args_cons h
  obtain ⟨v4, r, rfl, h4, h⟩ := args_cons h
  obtain rfl := args_nil h
  obtain ⟨n0, rfl, _⟩ := has_int h0
  obtain ⟨n1, rfl, _⟩ := has_int h1
  obtain ⟨n2, rfl, _⟩ := has_int h2
  obtain ⟨n3, rfl, _⟩ := has_int h3
  obtain ⟨n4, rfl, _⟩ := has_int h4
  exact framesfound_d n0 n1 n2 n3 n4

/-! ### The row -/
open Go.ChangeShapes Go.WideShapes Go.ChangeAt
set_option maxRecDepth 100000 in
theorem framesfound_lifted (os : Os) (started : os.Started) (H : Type) (enc : TypeId × Value → H) :
    ReturnsInHanded {} Try.checked os 4 .any (Rows.tickFramesAreFoundSpec.pre6 enc Try.prog Try.f4 Rows.tickFramesAreFoundRow.domain false) (Rows.tickFramesAreFoundSpec.post enc Try.prog Try.f4 false true false false) := by
  refine returnsInHanded_of_change (C := Try.checked) own_knob started (by kernel_rfl) Try.func4
    (ChangeSpec.witness6 (enc := enc) (C := Try.checked) false ⟨#[], #[.int .i64 0, .int .i64 0, .int .i64 0, .int .i64 0, .int .i64 0], []⟩ 8 (by kernel_rfl) (by kernel_rfl) (by kernel_rfl) (by kernel_rfl)) ?_
  intro W base args ds gs before hval hW _ _
  refine law_step rfl (by kernel_rfl) (fun ds h => ?_) ?_ hval hW ?_
  · match ds, h with | [a, b, c, d, e], _ => exact ⟨rfl, rfl, rfl⟩
  · rw [Try.params4]
    intro t ht
    simp only [List.mem_cons, List.not_mem_nil, or_false] at ht
    repeat' (first | (rcases ht with rfl | ht) | subst ht)
    all_goals exact ⟨by kernel_rfl, of_decide_eq_true (by kernel_rfl)⟩
  · rw [Try.params4]
    intro hin
    exact law_dm (ss := [.one (.int .i64), .one (.int .i64), .one (.int .i64), .one (.int .i64), .one (.int .i64)]) (by kernel_rfl) hin framesfound_c

theorem framesfound_holds : Rows.TickFramesAreFoundSaid :=
  OpenClaim.holds_of_wide 4 Try.f4 rfl rfl rfl rfl rfl rfl rfl ⟨rfl, rfl, rfl, rfl, rfl⟩ rfl rfl rfl rfl rfl (by kernel_rfl) Try.func4 (by kernel_rfl)
    (of_decide_eq_true (by kernel_rfl)) (by unfold Func.isWrapper; first | (rw [if_pos (by decide +kernel)]; kernel_rfl) | (rw [if_neg (by decide +kernel)]; exact ⟨rfl, rfl⟩))
    (fun os started H enc _ => framesfound_lifted os started H enc)

end Go.Proofs.Ytlpbnpmmndcleaa
