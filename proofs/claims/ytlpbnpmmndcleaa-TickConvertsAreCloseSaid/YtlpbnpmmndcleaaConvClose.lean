/- TickConvertsAreClose: a time rounded Up is at most 1 more than rounded Down, Near is one of both, and a later time is not converted to an earlier one. For every input; no condition. -/
import Derived.Test.YtlpbnpmmndcleaaKTick
import Derived.Test.YtlpbnpmmndcleaaRows
namespace Go.Proofs.Ytlpbnpmmndcleaa
open Go.RowKit
set_option linter.unusedSimpArgs false

theorem beq0_f {f : Int} (h : f ≠ 0) : (f == 0) = false := by simpa using h
theorem bne0_t {f : Int} (h : f ≠ 0) : (f != 0) = true := by simpa using h
theorem cvt_no {n frm to way : Int} (h : (cvt n frm to way).2 ≠ 0) : (cvt n frm to way).1 = 0 := by
  unfold cvt at h ⊢
  split
  · rfl
  · split
    · rfl
    · split
      · rfl
      · rename_i h1 h2 h3
        rw [if_neg h1, if_neg h2, if_neg h3] at h
        exact absurd rfl h
theorem cvt_ok {n frm to way : Int} (h : (cvt n frm to way).2 = 0) : noTime n = false ∧ noScale frm = false ∧ noScale to = false ∧ noTime (scl n to.toNat frm.toNat way) = false ∧ (cvt n frm to way).1 = scl n to.toNat frm.toNat way := by
  unfold cvt at h ⊢
  split at h
  · cases h
  · split at h
    · cases h
    · split at h
      · cases h
      · rename_i h1 h2 h3
        rw [if_neg h1, if_neg h2, if_neg h3]
        simp only [Bool.or_eq_true, not_or, Bool.not_eq_true] at h1 h3
        exact ⟨h1.1.1, h1.1.2, h1.2, h3, rfl⟩
/-- Within the times nothing wraps. -/
theorem sclA_sm {way : Int} {neg : Bool} {Q p : Nat} (hp : 0 < p) (h : Q / p ≤ 1000000000000000) : sclA way neg Q p = Q / p + (if rndB way neg (Q % p) p = true then 1 else 0) := by
  have h1 : ¬ 18446744073709551616 * p ≤ Q := fun hc => by
    rw [← Nat.le_div_iff_mul_le hp] at hc; omega
  unfold sclA
  rw [if_neg h1]
  generalize Q / p = q at *
  split <;> omega
theorem sclA_big {way : Int} {neg : Bool} {Q p : Nat} (hr : rndB way neg (Q % p) p = false) (h : sclA way neg Q p ≤ 1000000000000000) : sclA way neg Q p = Q / p := by
  unfold sclA at h ⊢
  split at h
  · omega
  · rename_i h1
    rw [if_neg h1]
    simp only [hr, if_false, Bool.false_eq_true] at h ⊢
    omega
/-- The law, in plain numbers. -/
theorem close_scl (n : Int) (b p : Nat) (hp : 0 < p) (ha : noTime (scl n b p 1) = false) (hb : noTime (scl n b p 3) = false) (_hc : noTime (scl n b p 2) = false) :
    scl n b p 1 ≤ scl n b p 3 ∧ scl n b p 3 ≤ scl n b p 1 + 1 ∧ (scl n b p 2 = scl n b p 1 ∨ scl n b p 2 = scl n b p 3) ∧ (noTime (scl (n + 1) b p 1) = false → scl n b p 1 ≤ scl (n + 1) b p 1) := by
  have a1 := noTime_bd ha
  have b1 := noTime_bd hb
  have up : ∀ X Y : Nat, X ≤ Y → X / p ≤ Y / p := fun X Y h => Nat.div_le_div_right h
  have r1 : ∀ neg r, rndB 1 neg r p = (neg && decide (0 < r)) := fun _ _ => rfl
  have r2 : ∀ neg r, rndB 2 neg r p = decide (p ≤ 2 * r) := fun _ _ => rfl
  have r3 : ∀ neg r, rndB 3 neg r p = (!neg && decide (0 < r)) := fun _ _ => rfl
  by_cases hn : n < 0
  · have hd : decide (n < 0) = true := decide_eq_true hn
    have e := fun way => scl_neg (n := n) b p way hn
    rw [hd] at e
    have hq : n.natAbs * b / p ≤ 1000000000000000 := by
      rw [e] at hb b1
      rw [sclA_big (by rw [r3]; rfl) (by omega)] at b1
      omega
    refine ⟨?_, ?_, ?_, fun h => ?_⟩
    · rw [e, e, sclA_sm hp hq, sclA_sm hp hq, r1, r3]
      simp only [Bool.not_true, Bool.false_and, Bool.true_and, Bool.false_eq_true, if_false, decide_eq_true_eq]
      split <;> omega
    · rw [e, e, sclA_sm hp hq, sclA_sm hp hq, r1, r3]
      simp only [Bool.not_true, Bool.false_and, Bool.true_and, Bool.false_eq_true, if_false, decide_eq_true_eq]
      split <;> omega
    · rw [e, e, e, sclA_sm hp hq, sclA_sm hp hq, sclA_sm hp hq, r1, r2, r3]
      simp only [Bool.not_true, Bool.false_and, Bool.true_and, Bool.false_eq_true, if_false, decide_eq_true_eq]
      split <;> split <;> omega
    · have hle : (n + 1).natAbs * b ≤ n.natAbs * b := Nat.mul_le_mul_right _ (by omega)
      have hq2 := up _ _ hle
      rw [e, sclA_sm hp hq, r1]
      by_cases hn1 : n + 1 < 0
      · rw [scl_neg b p 1 hn1, decide_eq_true hn1, sclA_sm hp (by omega), r1]
        have m1 := Nat.div_add_mod (n.natAbs * b) p
        have m2 := Nat.div_add_mod ((n + 1).natAbs * b) p
        simp only [Bool.true_and, decide_eq_true_eq]
        by_cases hs : (n + 1).natAbs * b / p = n.natAbs * b / p
        · rw [hs] at m2 ⊢
          split <;> split <;> omega
        · split <;> split <;> omega
      · have : n + 1 = 0 := by omega
        rw [this]
        have z : sclA 1 false 0 p = 0 := by rw [sclA_sm hp (by simp), r1]; simp
        have : scl 0 b p 1 = ((sclA 1 false 0 p : Nat) : Int) := by rw [scl_pos b p 1 (by omega)]; simp
        rw [this, z]
        generalize n.natAbs * b / p = q at *
        split <;> omega
  · have hd : decide (n < 0) = false := decide_eq_false hn
    have e := fun way => scl_pos (n := n) b p way hn
    rw [hd] at e
    have hq : n.natAbs * b / p ≤ 1000000000000000 := by
      rw [e] at ha a1
      rw [sclA_big (by rw [r1]; rfl) (by omega)] at a1
      omega
    refine ⟨?_, ?_, ?_, fun h => ?_⟩
    · rw [e, e, sclA_sm hp hq, sclA_sm hp hq, r1, r3]
      simp only [Bool.not_false, Bool.false_and, Bool.true_and, Bool.false_eq_true, if_false, decide_eq_true_eq]
      split <;> omega
    · rw [e, e, sclA_sm hp hq, sclA_sm hp hq, r1, r3]
      simp only [Bool.not_false, Bool.false_and, Bool.true_and, Bool.false_eq_true, if_false, decide_eq_true_eq]
      split <;> omega
    · rw [e, e, e, sclA_sm hp hq, sclA_sm hp hq, sclA_sm hp hq, r1, r2, r3]
      simp only [Bool.not_false, Bool.false_and, Bool.true_and, Bool.false_eq_true, if_false, decide_eq_true_eq]
      split <;> split <;> omega
    · have hle : n.natAbs * b ≤ (n + 1).natAbs * b := Nat.mul_le_mul_right _ (by omega)
      have hq2 := up _ _ hle
      have hn1 : ¬ n + 1 < 0 := by omega
      rw [scl_pos b p 1 hn1, decide_eq_false hn1] at h ⊢
      have d1 := noTime_bd h
      rw [e, sclA_sm hp hq, r1, sclA_big (by rw [r1]; rfl) (by omega)]
      simp only [Bool.false_and, Bool.false_eq_true, if_false]
      omega

/-! headend/headendlaw1.TickConvertsAreClose -/
def r3_0 : List POp := [⟨6, .asg (.c (.bool false)), none⟩]
def r3_1 : List POp := [⟨15, .mv (.t 0), none⟩,
  ⟨16, .mv (.t 1), none⟩,
  ⟨17, .mv (.t 2), none⟩,
  ⟨18, .call 13 [.t 15, .t 16, .t 17, .c (.int .i64 1)], none⟩,
  ⟨14, .mv (.t 18), none⟩,
  ⟨19, .ext 0 (.t 14), none⟩,
  ⟨20, .ext 1 (.t 14), none⟩,
  ⟨7, .mv (.t 19), none⟩,
  ⟨8, .mv (.t 20), none⟩]
def r3_2 : List POp := [⟨22, .mv (.t 0), none⟩,
  ⟨23, .mv (.t 1), none⟩,
  ⟨24, .mv (.t 2), none⟩,
  ⟨25, .call 13 [.t 22, .t 23, .t 24, .c (.int .i64 3)], none⟩,
  ⟨21, .mv (.t 25), none⟩,
  ⟨26, .ext 0 (.t 21), none⟩,
  ⟨27, .ext 1 (.t 21), none⟩,
  ⟨9, .mv (.t 26), none⟩,
  ⟨10, .mv (.t 27), none⟩]
def r3_3 : List POp := [⟨29, .mv (.t 0), none⟩,
  ⟨30, .mv (.t 1), none⟩,
  ⟨31, .mv (.t 2), none⟩,
  ⟨32, .call 13 [.t 29, .t 30, .t 31, .c (.int .i64 2)], none⟩,
  ⟨28, .mv (.t 32), none⟩,
  ⟨33, .ext 0 (.t 28), none⟩,
  ⟨34, .ext 1 (.t 28), none⟩,
  ⟨11, .mv (.t 33), none⟩,
  ⟨12, .mv (.t 34), none⟩]
def r3_4 : List POp := [⟨35, .mv (.t 8), none⟩,
  ⟨36, .bin .neq (.t 35) (.c (.int .i64 0)), none⟩,
  ⟨37, .mv (.t 36), none⟩,
  ⟨38, .mv (.t 10), some (37, false)⟩,
  ⟨39, .bin .neq (.t 38) (.c (.int .i64 0)), some (37, false)⟩,
  ⟨40, .pick (.t 37) (.c (.bool true)) (.t 39), none⟩,
  ⟨41, .mv (.t 40), none⟩,
  ⟨42, .mv (.t 12), some (41, false)⟩,
  ⟨43, .bin .neq (.t 42) (.c (.int .i64 0)), some (41, false)⟩,
  ⟨44, .pick (.t 41) (.c (.bool true)) (.t 43), none⟩]
def r3_5 : List POp := [⟨45, .mv (.t 8), none⟩,
  ⟨46, .bin .eql (.t 45) (.c (.int .i64 0)), none⟩,
  ⟨47, .mv (.t 46), none⟩,
  ⟨48, .mv (.t 7), some (47, false)⟩,
  ⟨49, .bin .eql (.t 48) (.c (.int .i64 0)), some (47, false)⟩,
  ⟨50, .pick (.t 47) (.c (.bool true)) (.t 49), none⟩,
  ⟨51, .mv (.t 50), none⟩,
  ⟨52, .mv (.t 10), some (51, true)⟩,
  ⟨53, .bin .eql (.t 52) (.c (.int .i64 0)), some (51, true)⟩,
  ⟨54, .mv (.t 53), some (51, true)⟩,
  ⟨55, .mv (.t 9), some (54, false)⟩,
  ⟨56, .bin .eql (.t 55) (.c (.int .i64 0)), some (54, false)⟩,
  ⟨57, .pick (.t 54) (.c (.bool true)) (.t 56), some (51, true)⟩,
  ⟨58, .pick (.t 51) (.t 57) (.c (.bool false)), none⟩,
  ⟨59, .mv (.t 58), none⟩,
  ⟨60, .mv (.t 12), some (59, true)⟩,
  ⟨61, .bin .eql (.t 60) (.c (.int .i64 0)), some (59, true)⟩,
  ⟨62, .mv (.t 61), some (59, true)⟩,
  ⟨63, .mv (.t 11), some (62, false)⟩,
  ⟨64, .bin .eql (.t 63) (.c (.int .i64 0)), some (62, false)⟩,
  ⟨65, .pick (.t 62) (.c (.bool true)) (.t 64), some (59, true)⟩,
  ⟨66, .pick (.t 59) (.t 65) (.c (.bool false)), none⟩,
  ⟨67, .mv (.t 66), none⟩,
  ⟨68, .call 14 [], some (67, true)⟩,
  ⟨69, .pick (.t 67) (.t 68) (.c (.bool false)), none⟩,
  ⟨6, .asg (.t 69), none⟩]
def r3_6 : List POp := [⟨70, .mv (.t 9), none⟩,
  ⟨71, .mv (.t 7), none⟩,
  ⟨72, .bin .lss (.t 70) (.t 71), none⟩,
  ⟨73, .mv (.t 72), none⟩,
  ⟨74, .mv (.t 9), some (73, false)⟩,
  ⟨75, .mv (.t 7), some (73, false)⟩,
  ⟨76, .bin .add (.t 75) (.c (.int .i64 1)), some (73, false)⟩,
  ⟨77, .bin .gtr (.t 74) (.t 76), some (73, false)⟩,
  ⟨78, .pick (.t 73) (.c (.bool true)) (.t 77), none⟩,
  ⟨79, .mv (.t 78), none⟩,
  ⟨80, .mv (.t 11), some (79, false)⟩,
  ⟨81, .mv (.t 7), some (79, false)⟩,
  ⟨82, .bin .neq (.t 80) (.t 81), some (79, false)⟩,
  ⟨83, .mv (.t 82), some (79, false)⟩,
  ⟨84, .mv (.t 11), some (83, true)⟩,
  ⟨85, .mv (.t 9), some (83, true)⟩,
  ⟨86, .bin .neq (.t 84) (.t 85), some (83, true)⟩,
  ⟨87, .pick (.t 83) (.t 86) (.c (.bool false)), some (79, false)⟩,
  ⟨88, .pick (.t 79) (.c (.bool true)) (.t 87), none⟩]
def r3_7 : List POp := [⟨6, .asg (.c (.bool false)), none⟩]
def r3_8 : List POp := [⟨90, .mv (.t 0), none⟩,
  ⟨91, .bin .add (.t 90) (.c (.int .i64 1)), none⟩,
  ⟨92, .mv (.t 1), none⟩,
  ⟨93, .mv (.t 2), none⟩,
  ⟨94, .call 13 [.t 91, .t 92, .t 93, .c (.int .i64 1)], none⟩,
  ⟨89, .mv (.t 94), none⟩,
  ⟨95, .ext 0 (.t 89), none⟩,
  ⟨96, .ext 1 (.t 89), none⟩,
  ⟨13, .mv (.t 95), none⟩,
  ⟨8, .mv (.t 96), none⟩]
def r3_9 : List POp := [⟨97, .mv (.t 8), none⟩,
  ⟨98, .bin .neq (.t 97) (.c (.int .i64 0)), none⟩,
  ⟨99, .mv (.t 98), none⟩,
  ⟨100, .mv (.t 13), some (99, false)⟩,
  ⟨101, .mv (.t 7), some (99, false)⟩,
  ⟨102, .bin .geq (.t 100) (.t 101), some (99, false)⟩,
  ⟨103, .pick (.t 99) (.c (.bool true)) (.t 102), none⟩,
  ⟨104, .mv (.t 103), none⟩,
  ⟨105, .call 14 [], some (104, true)⟩,
  ⟨106, .pick (.t 104) (.t 105) (.c (.bool false)), none⟩,
  ⟨6, .asg (.t 106), none⟩]
def p3 : PCode := .seq (.ops r3_0) (.seq (.ops r3_1) (.seq (.ops r3_2) (.seq (.ops r3_3) (.seq (.seq (.ops r3_4) (.cond (.t 44) (.seq (.ops r3_5) (.ret)) (.skip))) (.seq (.seq (.ops r3_6) (.cond (.t 88) (.seq (.ops r3_7) (.ret)) (.skip))) (.seq (.ops r3_8) (.seq (.ops r3_9) (.ret))))))))
theorem ok3 : okFunc Try.prog 3 [.t 6] 3 p3 = true := by kernel_rfl
set_option maxHeartbeats 4000000 in
theorem convclose_d (n frm to : Int) : CallOK Try.prog 3 [.val (.int .i64 n), .val (.int .i64 frm), .val (.int .i64 to)] (.val (.bool true)) := by
  refine call_of mixed ok3 rfl ?_
  have c1 := convert_c n frm to 1
  have c2 := convert_c n frm to 3
  have c3 := convert_c n frm to 2
  by_cases h1 : (cvt n frm to 1).2 = 0
  · by_cases h2 : (cvt n frm to 3).2 = 0
    · by_cases h3 : (cvt n frm to 2).2 = 0
      · obtain ⟨t1, t2, t3, t4, t5⟩ := cvt_ok h1
        obtain ⟨_, _, _, u4, u5⟩ := cvt_ok h2
        obtain ⟨_, _, _, v4, v5⟩ := cvt_ok h3
        have bn := noTime_bd t1
        have bf := noScale_bd t2
        obtain ⟨q1, q2, q3, q4⟩ := close_scl n to.toNat frm.toNat (by omega) t4 u4 v4
        rw [h1] at c1; rw [h2] at c2; rw [h3] at c3
        rw [← t5, ← u5] at q1 q2
        rw [← t5, ← u5, ← v5] at q3
        rw [← t5] at q4
        have hw : IntKind.i64.wrap (n + 1) = n + 1 := wrap_in (by omega) (by omega)
        have bt := noTime_bd t4
        rw [← t5] at bt
        have hw2 : IntKind.i64.wrap ((cvt n frm to 1).1 + 1) = (cvt n frm to 1).1 + 1 := wrap_in (by omega) (by omega)
        have c4 := convert_c (n + 1) frm to 1
        have q4' : (cvt (n + 1) frm to 1).2 = 0 → (cvt n frm to 1).1 ≤ (cvt (n + 1) frm to 1).1 := fun h4 => by
          obtain ⟨_, _, _, w4, w5⟩ := cvt_ok h4
          rw [w5]; exact q4 w4
        clear h1 h2 h3 t5 u5 v5 q4
        generalize (cvt n frm to 1).1 = A at *
        generalize (cvt n frm to 3).1 = B at *
        generalize (cvt n frm to 2).1 = C at *
        generalize (cvt (n + 1) frm to 1).1 = D at *
        generalize (cvt (n + 1) frm to 1).2 = F at *
        have hB1 : ¬ B < A := by omega
        have hB2 : ¬ A + 1 < B := by omega
        by_cases hF : F = 0
        · have hD : A ≤ D := q4' hF
          subst hF
          rcases q3 with rfl | rfl
          · repeat' first | (with_reducible refine condD (fun h => ?_) (fun h => ?_)) | (with_reducible refine condE (fun h => ?_) (fun h => ?_)) | (with_reducible refine condN (fun h => ?_) (fun h => ?_)) | (with_reducible refine condI (fun h => ?_) (fun h => ?_)) | (with_reducible refine condS (fun h => ?_) (fun h => ?_)) | (with_reducible refine guardD (by with_unfolding_all rfl) (fun h => ?_) (fun h => ?_)) | (with_reducible refine guardE (by with_unfolding_all rfl) (fun h => ?_) (fun h => ?_)) | (with_reducible refine guardN (by with_unfolding_all rfl) (fun h => ?_) (fun h => ?_)) | (with_reducible refine guardI (by with_unfolding_all rfl) (fun h => ?_) (fun h => ?_)) | (with_reducible refine guardS (by with_unfolding_all rfl) (fun h => ?_) (fun h => ?_)) | ((refine callG c1 ?_)) | ((refine callG c2 ?_)) | ((refine callG c3 ?_)) | ((refine callG c4 ?_)) | ((refine callG awake1_c ?_)) | (with_reducible refine And.intro ?_ ?_; omega) | (simp only [done_eq, done_eq', fin_val, fin_tup, fin_agg, fin_ro, res_one, res_more, rv_t, rv_c, rv_l, AV.tup.injEq, AV.agg.injEq, AV.ro.injEq, List.cons.injEq, int_eq, bool_eq, Int.toNat_natCast, Int.reduceToNat, Int.toNat_zero, Int.toNat_one, Int.reduceLE, Int.reduceLT, Int.reduceBEq, Int.reduceBNe, beq_self_eq_true, bne_self_eq_false, decide_true, decide_false,  Int.reduceNeg, toNat_pred, toNat_succ, List.length_map, cnd_t, cnd_f, grd_tt, grd_u, grd_tf, grd_ft, grd_ff, g_skip, g_ops, g_seq, g_block, g_exit, g_ret, x_c, x_o, x_l, x_b, g_b, g_nil, r_all, o_nil, g_cond, o_guard, o_call, o_callv, lk, ef, o_mv, o_pick, o_bin, o_never, o_eqs, o_eqb, o_un, o_conv, o_load, o_loads, o_fld, o_idx, o_idxs, o_len, o_lens, o_ext, o_nilck, o_slc, o_slcs, o_build, o_minmax, o_mkfn, o_alloc, o_box, o_boxs, o_row, o_rowr, o_mk, o_asg, o_app, o_store, o_stores, hv, eqAV, ev, view_t, view_c, view_nil, view_fn, look_own, look_box, look_junk, look_val, look_nilsl, look_ro, look_roAt, look_agg, look_tup, look_clo, look_alias, look_ref, look_into, rowOf, cellsOf, argv, vbin, vun, bnd, elemOf, putParts, setAt, zav, ASt.rid, ASt.free, AV.kill, AV.isHome, AV.noLoan, AV.cellOK, Value.oneCell', put_at, mk_at, mk_nil, initSt, true_and, and_true, and_self, implies_true, List.map_cons, List.map_nil, List.forall_mem_cons, List.not_mem_nil, false_implies, List.length_cons, List.length_nil, List.getD_cons_zero, List.getD_cons_succ, List.getD_nil, List.drop_succ_cons, List.drop_zero, List.take_succ_cons, List.take_zero, List.set_cons_zero, List.set_cons_succ, List.all_cons, List.all_nil, Bool.and_true, Bool.true_and, Bool.not_true, Bool.not_false, reduceCtorEq, if_true, if_false, Bool.false_eq_true, ↓reduceIte, Nat.reduceEqDiff, Nat.reduceAdd, Nat.reduceSub, Nat.reduceMul, Nat.reduceLeDiff, Nat.reduceLT, ne_eq, not_false_eq_true, not_true_eq_false, Nat.one_ne_zero, Nat.zero_ne_one, r3_0, r3_1, r3_2, r3_3, r3_4, r3_5, r3_6, r3_7, r3_8, r3_9, p3, hB1, hB2, hw, hw2, hD]) | (exfalso; omega)
          · repeat' first | (with_reducible refine condD (fun h => ?_) (fun h => ?_)) | (with_reducible refine condE (fun h => ?_) (fun h => ?_)) | (with_reducible refine condN (fun h => ?_) (fun h => ?_)) | (with_reducible refine condI (fun h => ?_) (fun h => ?_)) | (with_reducible refine condS (fun h => ?_) (fun h => ?_)) | (with_reducible refine guardD (by with_unfolding_all rfl) (fun h => ?_) (fun h => ?_)) | (with_reducible refine guardE (by with_unfolding_all rfl) (fun h => ?_) (fun h => ?_)) | (with_reducible refine guardN (by with_unfolding_all rfl) (fun h => ?_) (fun h => ?_)) | (with_reducible refine guardI (by with_unfolding_all rfl) (fun h => ?_) (fun h => ?_)) | (with_reducible refine guardS (by with_unfolding_all rfl) (fun h => ?_) (fun h => ?_)) | ((refine callG c1 ?_)) | ((refine callG c2 ?_)) | ((refine callG c3 ?_)) | ((refine callG c4 ?_)) | ((refine callG awake1_c ?_)) | (with_reducible refine And.intro ?_ ?_; omega) | (simp only [done_eq, done_eq', fin_val, fin_tup, fin_agg, fin_ro, res_one, res_more, rv_t, rv_c, rv_l, AV.tup.injEq, AV.agg.injEq, AV.ro.injEq, List.cons.injEq, int_eq, bool_eq, Int.toNat_natCast, Int.reduceToNat, Int.toNat_zero, Int.toNat_one, Int.reduceLE, Int.reduceLT, Int.reduceBEq, Int.reduceBNe, beq_self_eq_true, bne_self_eq_false, decide_true, decide_false,  Int.reduceNeg, toNat_pred, toNat_succ, List.length_map, cnd_t, cnd_f, grd_tt, grd_u, grd_tf, grd_ft, grd_ff, g_skip, g_ops, g_seq, g_block, g_exit, g_ret, x_c, x_o, x_l, x_b, g_b, g_nil, r_all, o_nil, g_cond, o_guard, o_call, o_callv, lk, ef, o_mv, o_pick, o_bin, o_never, o_eqs, o_eqb, o_un, o_conv, o_load, o_loads, o_fld, o_idx, o_idxs, o_len, o_lens, o_ext, o_nilck, o_slc, o_slcs, o_build, o_minmax, o_mkfn, o_alloc, o_box, o_boxs, o_row, o_rowr, o_mk, o_asg, o_app, o_store, o_stores, hv, eqAV, ev, view_t, view_c, view_nil, view_fn, look_own, look_box, look_junk, look_val, look_nilsl, look_ro, look_roAt, look_agg, look_tup, look_clo, look_alias, look_ref, look_into, rowOf, cellsOf, argv, vbin, vun, bnd, elemOf, putParts, setAt, zav, ASt.rid, ASt.free, AV.kill, AV.isHome, AV.noLoan, AV.cellOK, Value.oneCell', put_at, mk_at, mk_nil, initSt, true_and, and_true, and_self, implies_true, List.map_cons, List.map_nil, List.forall_mem_cons, List.not_mem_nil, false_implies, List.length_cons, List.length_nil, List.getD_cons_zero, List.getD_cons_succ, List.getD_nil, List.drop_succ_cons, List.drop_zero, List.take_succ_cons, List.take_zero, List.set_cons_zero, List.set_cons_succ, List.all_cons, List.all_nil, Bool.and_true, Bool.true_and, Bool.not_true, Bool.not_false, reduceCtorEq, if_true, if_false, Bool.false_eq_true, ↓reduceIte, Nat.reduceEqDiff, Nat.reduceAdd, Nat.reduceSub, Nat.reduceMul, Nat.reduceLeDiff, Nat.reduceLT, ne_eq, not_false_eq_true, not_true_eq_false, Nat.one_ne_zero, Nat.zero_ne_one, r3_0, r3_1, r3_2, r3_3, r3_4, r3_5, r3_6, r3_7, r3_8, r3_9, p3, hB1, hB2, hw, hw2, hD]) | (exfalso; omega)
        · rcases q3 with rfl | rfl
          · repeat' first | (with_reducible refine condD (fun h => ?_) (fun h => ?_)) | (with_reducible refine condE (fun h => ?_) (fun h => ?_)) | (with_reducible refine condN (fun h => ?_) (fun h => ?_)) | (with_reducible refine condI (fun h => ?_) (fun h => ?_)) | (with_reducible refine condS (fun h => ?_) (fun h => ?_)) | (with_reducible refine guardD (by with_unfolding_all rfl) (fun h => ?_) (fun h => ?_)) | (with_reducible refine guardE (by with_unfolding_all rfl) (fun h => ?_) (fun h => ?_)) | (with_reducible refine guardN (by with_unfolding_all rfl) (fun h => ?_) (fun h => ?_)) | (with_reducible refine guardI (by with_unfolding_all rfl) (fun h => ?_) (fun h => ?_)) | (with_reducible refine guardS (by with_unfolding_all rfl) (fun h => ?_) (fun h => ?_)) | ((refine callG c1 ?_)) | ((refine callG c2 ?_)) | ((refine callG c3 ?_)) | ((refine callG c4 ?_)) | ((refine callG awake1_c ?_)) | (with_reducible refine And.intro ?_ ?_; omega) | (simp only [done_eq, done_eq', fin_val, fin_tup, fin_agg, fin_ro, res_one, res_more, rv_t, rv_c, rv_l, AV.tup.injEq, AV.agg.injEq, AV.ro.injEq, List.cons.injEq, int_eq, bool_eq, Int.toNat_natCast, Int.reduceToNat, Int.toNat_zero, Int.toNat_one, Int.reduceLE, Int.reduceLT, Int.reduceBEq, Int.reduceBNe, beq_self_eq_true, bne_self_eq_false, decide_true, decide_false,  Int.reduceNeg, toNat_pred, toNat_succ, List.length_map, cnd_t, cnd_f, grd_tt, grd_u, grd_tf, grd_ft, grd_ff, g_skip, g_ops, g_seq, g_block, g_exit, g_ret, x_c, x_o, x_l, x_b, g_b, g_nil, r_all, o_nil, g_cond, o_guard, o_call, o_callv, lk, ef, o_mv, o_pick, o_bin, o_never, o_eqs, o_eqb, o_un, o_conv, o_load, o_loads, o_fld, o_idx, o_idxs, o_len, o_lens, o_ext, o_nilck, o_slc, o_slcs, o_build, o_minmax, o_mkfn, o_alloc, o_box, o_boxs, o_row, o_rowr, o_mk, o_asg, o_app, o_store, o_stores, hv, eqAV, ev, view_t, view_c, view_nil, view_fn, look_own, look_box, look_junk, look_val, look_nilsl, look_ro, look_roAt, look_agg, look_tup, look_clo, look_alias, look_ref, look_into, rowOf, cellsOf, argv, vbin, vun, bnd, elemOf, putParts, setAt, zav, ASt.rid, ASt.free, AV.kill, AV.isHome, AV.noLoan, AV.cellOK, Value.oneCell', put_at, mk_at, mk_nil, initSt, true_and, and_true, and_self, implies_true, List.map_cons, List.map_nil, List.forall_mem_cons, List.not_mem_nil, false_implies, List.length_cons, List.length_nil, List.getD_cons_zero, List.getD_cons_succ, List.getD_nil, List.drop_succ_cons, List.drop_zero, List.take_succ_cons, List.take_zero, List.set_cons_zero, List.set_cons_succ, List.all_cons, List.all_nil, Bool.and_true, Bool.true_and, Bool.not_true, Bool.not_false, reduceCtorEq, if_true, if_false, Bool.false_eq_true, ↓reduceIte, Nat.reduceEqDiff, Nat.reduceAdd, Nat.reduceSub, Nat.reduceMul, Nat.reduceLeDiff, Nat.reduceLT, ne_eq, not_false_eq_true, not_true_eq_false, Nat.one_ne_zero, Nat.zero_ne_one, r3_0, r3_1, r3_2, r3_3, r3_4, r3_5, r3_6, r3_7, r3_8, r3_9, p3, hB1, hB2, hw, hw2, bne0_t hF]) | (exfalso; omega)
          · repeat' first | (with_reducible refine condD (fun h => ?_) (fun h => ?_)) | (with_reducible refine condE (fun h => ?_) (fun h => ?_)) | (with_reducible refine condN (fun h => ?_) (fun h => ?_)) | (with_reducible refine condI (fun h => ?_) (fun h => ?_)) | (with_reducible refine condS (fun h => ?_) (fun h => ?_)) | (with_reducible refine guardD (by with_unfolding_all rfl) (fun h => ?_) (fun h => ?_)) | (with_reducible refine guardE (by with_unfolding_all rfl) (fun h => ?_) (fun h => ?_)) | (with_reducible refine guardN (by with_unfolding_all rfl) (fun h => ?_) (fun h => ?_)) | (with_reducible refine guardI (by with_unfolding_all rfl) (fun h => ?_) (fun h => ?_)) | (with_reducible refine guardS (by with_unfolding_all rfl) (fun h => ?_) (fun h => ?_)) | ((refine callG c1 ?_)) | ((refine callG c2 ?_)) | ((refine callG c3 ?_)) | ((refine callG c4 ?_)) | ((refine callG awake1_c ?_)) | (with_reducible refine And.intro ?_ ?_; omega) | (simp only [done_eq, done_eq', fin_val, fin_tup, fin_agg, fin_ro, res_one, res_more, rv_t, rv_c, rv_l, AV.tup.injEq, AV.agg.injEq, AV.ro.injEq, List.cons.injEq, int_eq, bool_eq, Int.toNat_natCast, Int.reduceToNat, Int.toNat_zero, Int.toNat_one, Int.reduceLE, Int.reduceLT, Int.reduceBEq, Int.reduceBNe, beq_self_eq_true, bne_self_eq_false, decide_true, decide_false,  Int.reduceNeg, toNat_pred, toNat_succ, List.length_map, cnd_t, cnd_f, grd_tt, grd_u, grd_tf, grd_ft, grd_ff, g_skip, g_ops, g_seq, g_block, g_exit, g_ret, x_c, x_o, x_l, x_b, g_b, g_nil, r_all, o_nil, g_cond, o_guard, o_call, o_callv, lk, ef, o_mv, o_pick, o_bin, o_never, o_eqs, o_eqb, o_un, o_conv, o_load, o_loads, o_fld, o_idx, o_idxs, o_len, o_lens, o_ext, o_nilck, o_slc, o_slcs, o_build, o_minmax, o_mkfn, o_alloc, o_box, o_boxs, o_row, o_rowr, o_mk, o_asg, o_app, o_store, o_stores, hv, eqAV, ev, view_t, view_c, view_nil, view_fn, look_own, look_box, look_junk, look_val, look_nilsl, look_ro, look_roAt, look_agg, look_tup, look_clo, look_alias, look_ref, look_into, rowOf, cellsOf, argv, vbin, vun, bnd, elemOf, putParts, setAt, zav, ASt.rid, ASt.free, AV.kill, AV.isHome, AV.noLoan, AV.cellOK, Value.oneCell', put_at, mk_at, mk_nil, initSt, true_and, and_true, and_self, implies_true, List.map_cons, List.map_nil, List.forall_mem_cons, List.not_mem_nil, false_implies, List.length_cons, List.length_nil, List.getD_cons_zero, List.getD_cons_succ, List.getD_nil, List.drop_succ_cons, List.drop_zero, List.take_succ_cons, List.take_zero, List.set_cons_zero, List.set_cons_succ, List.all_cons, List.all_nil, Bool.and_true, Bool.true_and, Bool.not_true, Bool.not_false, reduceCtorEq, if_true, if_false, Bool.false_eq_true, ↓reduceIte, Nat.reduceEqDiff, Nat.reduceAdd, Nat.reduceSub, Nat.reduceMul, Nat.reduceLeDiff, Nat.reduceLT, ne_eq, not_false_eq_true, not_true_eq_false, Nat.one_ne_zero, Nat.zero_ne_one, r3_0, r3_1, r3_2, r3_3, r3_4, r3_5, r3_6, r3_7, r3_8, r3_9, p3, hB1, hB2, hw, hw2, bne0_t hF]) | (exfalso; omega)
      · rw [h1] at c1; rw [h2] at c2; rw [cvt_no h3] at c3
        generalize (cvt n frm to 1).1 = A at *
        generalize (cvt n frm to 3).1 = B at *
        repeat' first | (with_reducible refine condD (fun h => ?_) (fun h => ?_)) | (with_reducible refine condE (fun h => ?_) (fun h => ?_)) | (with_reducible refine condN (fun h => ?_) (fun h => ?_)) | (with_reducible refine condI (fun h => ?_) (fun h => ?_)) | (with_reducible refine condS (fun h => ?_) (fun h => ?_)) | (with_reducible refine guardD (by with_unfolding_all rfl) (fun h => ?_) (fun h => ?_)) | (with_reducible refine guardE (by with_unfolding_all rfl) (fun h => ?_) (fun h => ?_)) | (with_reducible refine guardN (by with_unfolding_all rfl) (fun h => ?_) (fun h => ?_)) | (with_reducible refine guardI (by with_unfolding_all rfl) (fun h => ?_) (fun h => ?_)) | (with_reducible refine guardS (by with_unfolding_all rfl) (fun h => ?_) (fun h => ?_)) | ((refine callG c1 ?_)) | ((refine callG c2 ?_)) | ((refine callG c3 ?_)) | ((refine callG awake1_c ?_)) | (with_reducible refine And.intro ?_ ?_; omega) | (simp only [done_eq, done_eq', fin_val, fin_tup, fin_agg, fin_ro, res_one, res_more, rv_t, rv_c, rv_l, AV.tup.injEq, AV.agg.injEq, AV.ro.injEq, List.cons.injEq, int_eq, bool_eq, Int.toNat_natCast, Int.reduceToNat, Int.toNat_zero, Int.toNat_one, Int.reduceLE, Int.reduceLT, Int.reduceBEq, Int.reduceBNe, beq_self_eq_true, bne_self_eq_false, decide_true, decide_false,  Int.reduceNeg, toNat_pred, toNat_succ, List.length_map, cnd_t, cnd_f, grd_tt, grd_u, grd_tf, grd_ft, grd_ff, g_skip, g_ops, g_seq, g_block, g_exit, g_ret, x_c, x_o, x_l, x_b, g_b, g_nil, r_all, o_nil, g_cond, o_guard, o_call, o_callv, lk, ef, o_mv, o_pick, o_bin, o_never, o_eqs, o_eqb, o_un, o_conv, o_load, o_loads, o_fld, o_idx, o_idxs, o_len, o_lens, o_ext, o_nilck, o_slc, o_slcs, o_build, o_minmax, o_mkfn, o_alloc, o_box, o_boxs, o_row, o_rowr, o_mk, o_asg, o_app, o_store, o_stores, hv, eqAV, ev, view_t, view_c, view_nil, view_fn, look_own, look_box, look_junk, look_val, look_nilsl, look_ro, look_roAt, look_agg, look_tup, look_clo, look_alias, look_ref, look_into, rowOf, cellsOf, argv, vbin, vun, bnd, elemOf, putParts, setAt, zav, ASt.rid, ASt.free, AV.kill, AV.isHome, AV.noLoan, AV.cellOK, Value.oneCell', put_at, mk_at, mk_nil, initSt, true_and, and_true, and_self, implies_true, List.map_cons, List.map_nil, List.forall_mem_cons, List.not_mem_nil, false_implies, List.length_cons, List.length_nil, List.getD_cons_zero, List.getD_cons_succ, List.getD_nil, List.drop_succ_cons, List.drop_zero, List.take_succ_cons, List.take_zero, List.set_cons_zero, List.set_cons_succ, List.all_cons, List.all_nil, Bool.and_true, Bool.true_and, Bool.not_true, Bool.not_false, reduceCtorEq, if_true, if_false, Bool.false_eq_true, ↓reduceIte, Nat.reduceEqDiff, Nat.reduceAdd, Nat.reduceSub, Nat.reduceMul, Nat.reduceLeDiff, Nat.reduceLT, ne_eq, not_false_eq_true, not_true_eq_false, Nat.one_ne_zero, Nat.zero_ne_one, r3_0, r3_1, r3_2, r3_3, r3_4, r3_5, r3_6, r3_7, r3_8, r3_9, p3, beq0_f h3, bne0_t h3]) | (exfalso; omega)
    · rw [h1] at c1; rw [cvt_no h2] at c2
      by_cases h3 : (cvt n frm to 2).2 = 0
      · rw [h3] at c3
        repeat' first | (with_reducible refine condD (fun h => ?_) (fun h => ?_)) | (with_reducible refine condE (fun h => ?_) (fun h => ?_)) | (with_reducible refine condN (fun h => ?_) (fun h => ?_)) | (with_reducible refine condI (fun h => ?_) (fun h => ?_)) | (with_reducible refine condS (fun h => ?_) (fun h => ?_)) | (with_reducible refine guardD (by with_unfolding_all rfl) (fun h => ?_) (fun h => ?_)) | (with_reducible refine guardE (by with_unfolding_all rfl) (fun h => ?_) (fun h => ?_)) | (with_reducible refine guardN (by with_unfolding_all rfl) (fun h => ?_) (fun h => ?_)) | (with_reducible refine guardI (by with_unfolding_all rfl) (fun h => ?_) (fun h => ?_)) | (with_reducible refine guardS (by with_unfolding_all rfl) (fun h => ?_) (fun h => ?_)) | ((refine callG c1 ?_)) | ((refine callG c2 ?_)) | ((refine callG c3 ?_)) | ((refine callG awake1_c ?_)) | (with_reducible refine And.intro ?_ ?_; omega) | (simp only [done_eq, done_eq', fin_val, fin_tup, fin_agg, fin_ro, res_one, res_more, rv_t, rv_c, rv_l, AV.tup.injEq, AV.agg.injEq, AV.ro.injEq, List.cons.injEq, int_eq, bool_eq, Int.toNat_natCast, Int.reduceToNat, Int.toNat_zero, Int.toNat_one, Int.reduceLE, Int.reduceLT, Int.reduceBEq, Int.reduceBNe, beq_self_eq_true, bne_self_eq_false, decide_true, decide_false,  Int.reduceNeg, toNat_pred, toNat_succ, List.length_map, cnd_t, cnd_f, grd_tt, grd_u, grd_tf, grd_ft, grd_ff, g_skip, g_ops, g_seq, g_block, g_exit, g_ret, x_c, x_o, x_l, x_b, g_b, g_nil, r_all, o_nil, g_cond, o_guard, o_call, o_callv, lk, ef, o_mv, o_pick, o_bin, o_never, o_eqs, o_eqb, o_un, o_conv, o_load, o_loads, o_fld, o_idx, o_idxs, o_len, o_lens, o_ext, o_nilck, o_slc, o_slcs, o_build, o_minmax, o_mkfn, o_alloc, o_box, o_boxs, o_row, o_rowr, o_mk, o_asg, o_app, o_store, o_stores, hv, eqAV, ev, view_t, view_c, view_nil, view_fn, look_own, look_box, look_junk, look_val, look_nilsl, look_ro, look_roAt, look_agg, look_tup, look_clo, look_alias, look_ref, look_into, rowOf, cellsOf, argv, vbin, vun, bnd, elemOf, putParts, setAt, zav, ASt.rid, ASt.free, AV.kill, AV.isHome, AV.noLoan, AV.cellOK, Value.oneCell', put_at, mk_at, mk_nil, initSt, true_and, and_true, and_self, implies_true, List.map_cons, List.map_nil, List.forall_mem_cons, List.not_mem_nil, false_implies, List.length_cons, List.length_nil, List.getD_cons_zero, List.getD_cons_succ, List.getD_nil, List.drop_succ_cons, List.drop_zero, List.take_succ_cons, List.take_zero, List.set_cons_zero, List.set_cons_succ, List.all_cons, List.all_nil, Bool.and_true, Bool.true_and, Bool.not_true, Bool.not_false, reduceCtorEq, if_true, if_false, Bool.false_eq_true, ↓reduceIte, Nat.reduceEqDiff, Nat.reduceAdd, Nat.reduceSub, Nat.reduceMul, Nat.reduceLeDiff, Nat.reduceLT, ne_eq, not_false_eq_true, not_true_eq_false, Nat.one_ne_zero, Nat.zero_ne_one, r3_0, r3_1, r3_2, r3_3, r3_4, r3_5, r3_6, r3_7, r3_8, r3_9, p3, beq0_f h2, bne0_t h2]) | (exfalso; omega)
      · rw [cvt_no h3] at c3
        repeat' first | (with_reducible refine condD (fun h => ?_) (fun h => ?_)) | (with_reducible refine condE (fun h => ?_) (fun h => ?_)) | (with_reducible refine condN (fun h => ?_) (fun h => ?_)) | (with_reducible refine condI (fun h => ?_) (fun h => ?_)) | (with_reducible refine condS (fun h => ?_) (fun h => ?_)) | (with_reducible refine guardD (by with_unfolding_all rfl) (fun h => ?_) (fun h => ?_)) | (with_reducible refine guardE (by with_unfolding_all rfl) (fun h => ?_) (fun h => ?_)) | (with_reducible refine guardN (by with_unfolding_all rfl) (fun h => ?_) (fun h => ?_)) | (with_reducible refine guardI (by with_unfolding_all rfl) (fun h => ?_) (fun h => ?_)) | (with_reducible refine guardS (by with_unfolding_all rfl) (fun h => ?_) (fun h => ?_)) | ((refine callG c1 ?_)) | ((refine callG c2 ?_)) | ((refine callG c3 ?_)) | ((refine callG awake1_c ?_)) | (with_reducible refine And.intro ?_ ?_; omega) | (simp only [done_eq, done_eq', fin_val, fin_tup, fin_agg, fin_ro, res_one, res_more, rv_t, rv_c, rv_l, AV.tup.injEq, AV.agg.injEq, AV.ro.injEq, List.cons.injEq, int_eq, bool_eq, Int.toNat_natCast, Int.reduceToNat, Int.toNat_zero, Int.toNat_one, Int.reduceLE, Int.reduceLT, Int.reduceBEq, Int.reduceBNe, beq_self_eq_true, bne_self_eq_false, decide_true, decide_false,  Int.reduceNeg, toNat_pred, toNat_succ, List.length_map, cnd_t, cnd_f, grd_tt, grd_u, grd_tf, grd_ft, grd_ff, g_skip, g_ops, g_seq, g_block, g_exit, g_ret, x_c, x_o, x_l, x_b, g_b, g_nil, r_all, o_nil, g_cond, o_guard, o_call, o_callv, lk, ef, o_mv, o_pick, o_bin, o_never, o_eqs, o_eqb, o_un, o_conv, o_load, o_loads, o_fld, o_idx, o_idxs, o_len, o_lens, o_ext, o_nilck, o_slc, o_slcs, o_build, o_minmax, o_mkfn, o_alloc, o_box, o_boxs, o_row, o_rowr, o_mk, o_asg, o_app, o_store, o_stores, hv, eqAV, ev, view_t, view_c, view_nil, view_fn, look_own, look_box, look_junk, look_val, look_nilsl, look_ro, look_roAt, look_agg, look_tup, look_clo, look_alias, look_ref, look_into, rowOf, cellsOf, argv, vbin, vun, bnd, elemOf, putParts, setAt, zav, ASt.rid, ASt.free, AV.kill, AV.isHome, AV.noLoan, AV.cellOK, Value.oneCell', put_at, mk_at, mk_nil, initSt, true_and, and_true, and_self, implies_true, List.map_cons, List.map_nil, List.forall_mem_cons, List.not_mem_nil, false_implies, List.length_cons, List.length_nil, List.getD_cons_zero, List.getD_cons_succ, List.getD_nil, List.drop_succ_cons, List.drop_zero, List.take_succ_cons, List.take_zero, List.set_cons_zero, List.set_cons_succ, List.all_cons, List.all_nil, Bool.and_true, Bool.true_and, Bool.not_true, Bool.not_false, reduceCtorEq, if_true, if_false, Bool.false_eq_true, ↓reduceIte, Nat.reduceEqDiff, Nat.reduceAdd, Nat.reduceSub, Nat.reduceMul, Nat.reduceLeDiff, Nat.reduceLT, ne_eq, not_false_eq_true, not_true_eq_false, Nat.one_ne_zero, Nat.zero_ne_one, r3_0, r3_1, r3_2, r3_3, r3_4, r3_5, r3_6, r3_7, r3_8, r3_9, p3, beq0_f h2, bne0_t h2, beq0_f h3, bne0_t h3]) | (exfalso; omega)
  · rw [cvt_no h1] at c1
    by_cases h2 : (cvt n frm to 3).2 = 0
    · rw [h2] at c2
      by_cases h3 : (cvt n frm to 2).2 = 0
      · rw [h3] at c3
        repeat' first | (with_reducible refine condD (fun h => ?_) (fun h => ?_)) | (with_reducible refine condE (fun h => ?_) (fun h => ?_)) | (with_reducible refine condN (fun h => ?_) (fun h => ?_)) | (with_reducible refine condI (fun h => ?_) (fun h => ?_)) | (with_reducible refine condS (fun h => ?_) (fun h => ?_)) | (with_reducible refine guardD (by with_unfolding_all rfl) (fun h => ?_) (fun h => ?_)) | (with_reducible refine guardE (by with_unfolding_all rfl) (fun h => ?_) (fun h => ?_)) | (with_reducible refine guardN (by with_unfolding_all rfl) (fun h => ?_) (fun h => ?_)) | (with_reducible refine guardI (by with_unfolding_all rfl) (fun h => ?_) (fun h => ?_)) | (with_reducible refine guardS (by with_unfolding_all rfl) (fun h => ?_) (fun h => ?_)) | ((refine callG c1 ?_)) | ((refine callG c2 ?_)) | ((refine callG c3 ?_)) | ((refine callG awake1_c ?_)) | (with_reducible refine And.intro ?_ ?_; omega) | (simp only [done_eq, done_eq', fin_val, fin_tup, fin_agg, fin_ro, res_one, res_more, rv_t, rv_c, rv_l, AV.tup.injEq, AV.agg.injEq, AV.ro.injEq, List.cons.injEq, int_eq, bool_eq, Int.toNat_natCast, Int.reduceToNat, Int.toNat_zero, Int.toNat_one, Int.reduceLE, Int.reduceLT, Int.reduceBEq, Int.reduceBNe, beq_self_eq_true, bne_self_eq_false, decide_true, decide_false,  Int.reduceNeg, toNat_pred, toNat_succ, List.length_map, cnd_t, cnd_f, grd_tt, grd_u, grd_tf, grd_ft, grd_ff, g_skip, g_ops, g_seq, g_block, g_exit, g_ret, x_c, x_o, x_l, x_b, g_b, g_nil, r_all, o_nil, g_cond, o_guard, o_call, o_callv, lk, ef, o_mv, o_pick, o_bin, o_never, o_eqs, o_eqb, o_un, o_conv, o_load, o_loads, o_fld, o_idx, o_idxs, o_len, o_lens, o_ext, o_nilck, o_slc, o_slcs, o_build, o_minmax, o_mkfn, o_alloc, o_box, o_boxs, o_row, o_rowr, o_mk, o_asg, o_app, o_store, o_stores, hv, eqAV, ev, view_t, view_c, view_nil, view_fn, look_own, look_box, look_junk, look_val, look_nilsl, look_ro, look_roAt, look_agg, look_tup, look_clo, look_alias, look_ref, look_into, rowOf, cellsOf, argv, vbin, vun, bnd, elemOf, putParts, setAt, zav, ASt.rid, ASt.free, AV.kill, AV.isHome, AV.noLoan, AV.cellOK, Value.oneCell', put_at, mk_at, mk_nil, initSt, true_and, and_true, and_self, implies_true, List.map_cons, List.map_nil, List.forall_mem_cons, List.not_mem_nil, false_implies, List.length_cons, List.length_nil, List.getD_cons_zero, List.getD_cons_succ, List.getD_nil, List.drop_succ_cons, List.drop_zero, List.take_succ_cons, List.take_zero, List.set_cons_zero, List.set_cons_succ, List.all_cons, List.all_nil, Bool.and_true, Bool.true_and, Bool.not_true, Bool.not_false, reduceCtorEq, if_true, if_false, Bool.false_eq_true, ↓reduceIte, Nat.reduceEqDiff, Nat.reduceAdd, Nat.reduceSub, Nat.reduceMul, Nat.reduceLeDiff, Nat.reduceLT, ne_eq, not_false_eq_true, not_true_eq_false, Nat.one_ne_zero, Nat.zero_ne_one, r3_0, r3_1, r3_2, r3_3, r3_4, r3_5, r3_6, r3_7, r3_8, r3_9, p3, beq0_f h1, bne0_t h1]) | (exfalso; omega)
      · rw [cvt_no h3] at c3
        repeat' first | (with_reducible refine condD (fun h => ?_) (fun h => ?_)) | (with_reducible refine condE (fun h => ?_) (fun h => ?_)) | (with_reducible refine condN (fun h => ?_) (fun h => ?_)) | (with_reducible refine condI (fun h => ?_) (fun h => ?_)) | (with_reducible refine condS (fun h => ?_) (fun h => ?_)) | (with_reducible refine guardD (by with_unfolding_all rfl) (fun h => ?_) (fun h => ?_)) | (with_reducible refine guardE (by with_unfolding_all rfl) (fun h => ?_) (fun h => ?_)) | (with_reducible refine guardN (by with_unfolding_all rfl) (fun h => ?_) (fun h => ?_)) | (with_reducible refine guardI (by with_unfolding_all rfl) (fun h => ?_) (fun h => ?_)) | (with_reducible refine guardS (by with_unfolding_all rfl) (fun h => ?_) (fun h => ?_)) | ((refine callG c1 ?_)) | ((refine callG c2 ?_)) | ((refine callG c3 ?_)) | ((refine callG awake1_c ?_)) | (with_reducible refine And.intro ?_ ?_; omega) | (simp only [done_eq, done_eq', fin_val, fin_tup, fin_agg, fin_ro, res_one, res_more, rv_t, rv_c, rv_l, AV.tup.injEq, AV.agg.injEq, AV.ro.injEq, List.cons.injEq, int_eq, bool_eq, Int.toNat_natCast, Int.reduceToNat, Int.toNat_zero, Int.toNat_one, Int.reduceLE, Int.reduceLT, Int.reduceBEq, Int.reduceBNe, beq_self_eq_true, bne_self_eq_false, decide_true, decide_false,  Int.reduceNeg, toNat_pred, toNat_succ, List.length_map, cnd_t, cnd_f, grd_tt, grd_u, grd_tf, grd_ft, grd_ff, g_skip, g_ops, g_seq, g_block, g_exit, g_ret, x_c, x_o, x_l, x_b, g_b, g_nil, r_all, o_nil, g_cond, o_guard, o_call, o_callv, lk, ef, o_mv, o_pick, o_bin, o_never, o_eqs, o_eqb, o_un, o_conv, o_load, o_loads, o_fld, o_idx, o_idxs, o_len, o_lens, o_ext, o_nilck, o_slc, o_slcs, o_build, o_minmax, o_mkfn, o_alloc, o_box, o_boxs, o_row, o_rowr, o_mk, o_asg, o_app, o_store, o_stores, hv, eqAV, ev, view_t, view_c, view_nil, view_fn, look_own, look_box, look_junk, look_val, look_nilsl, look_ro, look_roAt, look_agg, look_tup, look_clo, look_alias, look_ref, look_into, rowOf, cellsOf, argv, vbin, vun, bnd, elemOf, putParts, setAt, zav, ASt.rid, ASt.free, AV.kill, AV.isHome, AV.noLoan, AV.cellOK, Value.oneCell', put_at, mk_at, mk_nil, initSt, true_and, and_true, and_self, implies_true, List.map_cons, List.map_nil, List.forall_mem_cons, List.not_mem_nil, false_implies, List.length_cons, List.length_nil, List.getD_cons_zero, List.getD_cons_succ, List.getD_nil, List.drop_succ_cons, List.drop_zero, List.take_succ_cons, List.take_zero, List.set_cons_zero, List.set_cons_succ, List.all_cons, List.all_nil, Bool.and_true, Bool.true_and, Bool.not_true, Bool.not_false, reduceCtorEq, if_true, if_false, Bool.false_eq_true, ↓reduceIte, Nat.reduceEqDiff, Nat.reduceAdd, Nat.reduceSub, Nat.reduceMul, Nat.reduceLeDiff, Nat.reduceLT, ne_eq, not_false_eq_true, not_true_eq_false, Nat.one_ne_zero, Nat.zero_ne_one, r3_0, r3_1, r3_2, r3_3, r3_4, r3_5, r3_6, r3_7, r3_8, r3_9, p3, beq0_f h1, bne0_t h1, beq0_f h3, bne0_t h3]) | (exfalso; omega)
    · rw [cvt_no h2] at c2
      by_cases h3 : (cvt n frm to 2).2 = 0
      · rw [h3] at c3
        repeat' first | (with_reducible refine condD (fun h => ?_) (fun h => ?_)) | (with_reducible refine condE (fun h => ?_) (fun h => ?_)) | (with_reducible refine condN (fun h => ?_) (fun h => ?_)) | (with_reducible refine condI (fun h => ?_) (fun h => ?_)) | (with_reducible refine condS (fun h => ?_) (fun h => ?_)) | (with_reducible refine guardD (by with_unfolding_all rfl) (fun h => ?_) (fun h => ?_)) | (with_reducible refine guardE (by with_unfolding_all rfl) (fun h => ?_) (fun h => ?_)) | (with_reducible refine guardN (by with_unfolding_all rfl) (fun h => ?_) (fun h => ?_)) | (with_reducible refine guardI (by with_unfolding_all rfl) (fun h => ?_) (fun h => ?_)) | (with_reducible refine guardS (by with_unfolding_all rfl) (fun h => ?_) (fun h => ?_)) | ((refine callG c1 ?_)) | ((refine callG c2 ?_)) | ((refine callG c3 ?_)) | ((refine callG awake1_c ?_)) | (with_reducible refine And.intro ?_ ?_; omega) | (simp only [done_eq, done_eq', fin_val, fin_tup, fin_agg, fin_ro, res_one, res_more, rv_t, rv_c, rv_l, AV.tup.injEq, AV.agg.injEq, AV.ro.injEq, List.cons.injEq, int_eq, bool_eq, Int.toNat_natCast, Int.reduceToNat, Int.toNat_zero, Int.toNat_one, Int.reduceLE, Int.reduceLT, Int.reduceBEq, Int.reduceBNe, beq_self_eq_true, bne_self_eq_false, decide_true, decide_false,  Int.reduceNeg, toNat_pred, toNat_succ, List.length_map, cnd_t, cnd_f, grd_tt, grd_u, grd_tf, grd_ft, grd_ff, g_skip, g_ops, g_seq, g_block, g_exit, g_ret, x_c, x_o, x_l, x_b, g_b, g_nil, r_all, o_nil, g_cond, o_guard, o_call, o_callv, lk, ef, o_mv, o_pick, o_bin, o_never, o_eqs, o_eqb, o_un, o_conv, o_load, o_loads, o_fld, o_idx, o_idxs, o_len, o_lens, o_ext, o_nilck, o_slc, o_slcs, o_build, o_minmax, o_mkfn, o_alloc, o_box, o_boxs, o_row, o_rowr, o_mk, o_asg, o_app, o_store, o_stores, hv, eqAV, ev, view_t, view_c, view_nil, view_fn, look_own, look_box, look_junk, look_val, look_nilsl, look_ro, look_roAt, look_agg, look_tup, look_clo, look_alias, look_ref, look_into, rowOf, cellsOf, argv, vbin, vun, bnd, elemOf, putParts, setAt, zav, ASt.rid, ASt.free, AV.kill, AV.isHome, AV.noLoan, AV.cellOK, Value.oneCell', put_at, mk_at, mk_nil, initSt, true_and, and_true, and_self, implies_true, List.map_cons, List.map_nil, List.forall_mem_cons, List.not_mem_nil, false_implies, List.length_cons, List.length_nil, List.getD_cons_zero, List.getD_cons_succ, List.getD_nil, List.drop_succ_cons, List.drop_zero, List.take_succ_cons, List.take_zero, List.set_cons_zero, List.set_cons_succ, List.all_cons, List.all_nil, Bool.and_true, Bool.true_and, Bool.not_true, Bool.not_false, reduceCtorEq, if_true, if_false, Bool.false_eq_true, ↓reduceIte, Nat.reduceEqDiff, Nat.reduceAdd, Nat.reduceSub, Nat.reduceMul, Nat.reduceLeDiff, Nat.reduceLT, ne_eq, not_false_eq_true, not_true_eq_false, Nat.one_ne_zero, Nat.zero_ne_one, r3_0, r3_1, r3_2, r3_3, r3_4, r3_5, r3_6, r3_7, r3_8, r3_9, p3, beq0_f h1, bne0_t h1, beq0_f h2, bne0_t h2]) | (exfalso; omega)
      · rw [cvt_no h3] at c3
        repeat' first | (with_reducible refine condD (fun h => ?_) (fun h => ?_)) | (with_reducible refine condE (fun h => ?_) (fun h => ?_)) | (with_reducible refine condN (fun h => ?_) (fun h => ?_)) | (with_reducible refine condI (fun h => ?_) (fun h => ?_)) | (with_reducible refine condS (fun h => ?_) (fun h => ?_)) | (with_reducible refine guardD (by with_unfolding_all rfl) (fun h => ?_) (fun h => ?_)) | (with_reducible refine guardE (by with_unfolding_all rfl) (fun h => ?_) (fun h => ?_)) | (with_reducible refine guardN (by with_unfolding_all rfl) (fun h => ?_) (fun h => ?_)) | (with_reducible refine guardI (by with_unfolding_all rfl) (fun h => ?_) (fun h => ?_)) | (with_reducible refine guardS (by with_unfolding_all rfl) (fun h => ?_) (fun h => ?_)) | ((refine callG c1 ?_)) | ((refine callG c2 ?_)) | ((refine callG c3 ?_)) | ((refine callG awake1_c ?_)) | (with_reducible refine And.intro ?_ ?_; omega) | (simp only [done_eq, done_eq', fin_val, fin_tup, fin_agg, fin_ro, res_one, res_more, rv_t, rv_c, rv_l, AV.tup.injEq, AV.agg.injEq, AV.ro.injEq, List.cons.injEq, int_eq, bool_eq, Int.toNat_natCast, Int.reduceToNat, Int.toNat_zero, Int.toNat_one, Int.reduceLE, Int.reduceLT, Int.reduceBEq, Int.reduceBNe, beq_self_eq_true, bne_self_eq_false, decide_true, decide_false,  Int.reduceNeg, toNat_pred, toNat_succ, List.length_map, cnd_t, cnd_f, grd_tt, grd_u, grd_tf, grd_ft, grd_ff, g_skip, g_ops, g_seq, g_block, g_exit, g_ret, x_c, x_o, x_l, x_b, g_b, g_nil, r_all, o_nil, g_cond, o_guard, o_call, o_callv, lk, ef, o_mv, o_pick, o_bin, o_never, o_eqs, o_eqb, o_un, o_conv, o_load, o_loads, o_fld, o_idx, o_idxs, o_len, o_lens, o_ext, o_nilck, o_slc, o_slcs, o_build, o_minmax, o_mkfn, o_alloc, o_box, o_boxs, o_row, o_rowr, o_mk, o_asg, o_app, o_store, o_stores, hv, eqAV, ev, view_t, view_c, view_nil, view_fn, look_own, look_box, look_junk, look_val, look_nilsl, look_ro, look_roAt, look_agg, look_tup, look_clo, look_alias, look_ref, look_into, rowOf, cellsOf, argv, vbin, vun, bnd, elemOf, putParts, setAt, zav, ASt.rid, ASt.free, AV.kill, AV.isHome, AV.noLoan, AV.cellOK, Value.oneCell', put_at, mk_at, mk_nil, initSt, true_and, and_true, and_self, implies_true, List.map_cons, List.map_nil, List.forall_mem_cons, List.not_mem_nil, false_implies, List.length_cons, List.length_nil, List.getD_cons_zero, List.getD_cons_succ, List.getD_nil, List.drop_succ_cons, List.drop_zero, List.take_succ_cons, List.take_zero, List.set_cons_zero, List.set_cons_succ, List.all_cons, List.all_nil, Bool.and_true, Bool.true_and, Bool.not_true, Bool.not_false, reduceCtorEq, if_true, if_false, Bool.false_eq_true, ↓reduceIte, Nat.reduceEqDiff, Nat.reduceAdd, Nat.reduceSub, Nat.reduceMul, Nat.reduceLeDiff, Nat.reduceLT, ne_eq, not_false_eq_true, not_true_eq_false, Nat.one_ne_zero, Nat.zero_ne_one, r3_0, r3_1, r3_2, r3_3, r3_4, r3_5, r3_6, r3_7, r3_8, r3_9, p3, beq0_f h1, bne0_t h1, beq0_f h2, bne0_t h2, beq0_f h3, bne0_t h3]) | (exfalso; omega)
theorem convclose_c : ∀ avs, HasArgs [.one (.int .i64), .one (.int .i64), .one (.int .i64)] avs → CallOK Try.prog 3 avs (.val (.bool true)) := by
  intro avs h
  obtain ⟨v0, r, rfl, h0, h⟩ := args_cons h
  obtain ⟨v1, r, rfl, h1, h⟩ := args_cons h
  obtain ⟨v2, r, rfl, h2, h⟩ := args_cons h
  obtain rfl := args_nil h
  obtain ⟨n0, rfl, _⟩ := has_int h0
  obtain ⟨n1, rfl, _⟩ := has_int h1
  obtain ⟨n2, rfl, _⟩ := has_int h2
  exact convclose_d n0 n1 n2

/-! ### The row -/
open Go.ChangeShapes Go.WideShapes Go.ChangeAt
set_option maxRecDepth 100000 in
theorem convclose_lifted (os : Os) (started : os.Started) (H : Type) (enc : TypeId × Value → H) :
    ReturnsInHanded {} Try.checked os 3 .any (Rows.tickConvertsAreCloseSpec.pre6 enc Try.prog Try.f3 Rows.tickConvertsAreCloseRow.domain false) (Rows.tickConvertsAreCloseSpec.post enc Try.prog Try.f3 false true false false) := by
  refine returnsInHanded_of_change (C := Try.checked) own_knob started (by kernel_rfl) Try.func3
    (ChangeSpec.witness6 (enc := enc) (C := Try.checked) false ⟨#[], #[.int .i64 0, .int .i64 0, .int .i64 0], []⟩ 8 (by kernel_rfl) (by kernel_rfl) (by kernel_rfl) (by kernel_rfl)) ?_
  intro W base args ds gs before hval hW _ _
  refine law_step rfl (by kernel_rfl) (fun ds h => ?_) ?_ hval hW ?_
  · match ds, h with | [a, b, c], _ => exact ⟨rfl, rfl, rfl⟩
  · rw [Try.params3]
    intro t ht
    simp only [List.mem_cons, List.not_mem_nil, or_false] at ht
    repeat' (first | (rcases ht with rfl | ht) | subst ht)
    all_goals exact ⟨by kernel_rfl, of_decide_eq_true (by kernel_rfl)⟩
  · rw [Try.params3]
    intro hin
    exact law_dm (ss := [.one (.int .i64), .one (.int .i64), .one (.int .i64)]) (by kernel_rfl) hin convclose_c

theorem convclose_holds : Rows.TickConvertsAreCloseSaid :=
  OpenClaim.holds_of_wide 3 Try.f3 rfl rfl rfl rfl rfl rfl rfl ⟨rfl, rfl, rfl, rfl, rfl⟩ rfl rfl rfl rfl rfl (by kernel_rfl) Try.func3 (by kernel_rfl)
    (of_decide_eq_true (by kernel_rfl)) (by unfold Func.isWrapper; first | (rw [if_pos (by decide +kernel)]; kernel_rfl) | (rw [if_neg (by decide +kernel)]; exact ⟨rfl, rfl⟩))
    (fun os started H enc _ => convclose_lifted os started H enc)

end Go.Proofs.Ytlpbnpmmndcleaa
