/- First samples of segments: cut.firsts, by the machine on data. -/
import Derived.Test.YtjeemcpdmiajmaaKFirsts
import Derived.Test.YtjeemcpdmiajmaaKTick
namespace Go.Proofs.Ytjeemcpdmiajmaa
open Go.RowKit
set_option linter.unusedSimpArgs false

theorem groupsGo_mem {l : List Smp} : ∀ {u f : Nat} {g : Grp}, g ∈ groupsGo l u f → ∃ f', f ≤ f' ∧ f' < l.length ∧ g = grpAt l f'
  | 0, _, _, h => by simp [groupsGo] at h
  | u + 1, f, g, h => by
    unfold groupsGo at h
    split at h
    · rename_i hf
      rcases List.mem_cons.1 h with rfl | h
      · exact ⟨f, Nat.le_refl _, hf, rfl⟩
      · obtain ⟨f', h1, h2, h3⟩ := groupsGo_mem h
        have := toOf_bd hf
        exact ⟨f', by omega, h2, h3⟩
    · simp at h
theorem plOf_mem {gs : List Grp} {p : Int × Nat} (h : p ∈ plOf gs) : ∃ g ∈ gs, g.closed = true ∧ p = (g.beg, g.frm) := by
  unfold plOf at h
  obtain ⟨g, hg, rfl⟩ := List.mem_map.1 h
  obtain ⟨h1, h2⟩ := List.mem_filter.1 hg
  exact ⟨g, h1, h2, rfl⟩
theorem placesL_mem {l : List Smp} (hs : smpF l = 0) {p : Int × Nat} (h : p ∈ placesL l) : ∃ f, f < l.length ∧ (grpAt l f).closed = true ∧ p = ((grpAt l f).beg, f) := by
  unfold placesL groupsF at h
  rw [if_neg (by simp [hs])] at h
  obtain ⟨g, hg, hc, rfl⟩ := plOf_mem h
  obtain ⟨f, _, hf, rfl⟩ := groupsGo_mem hg
  exact ⟨f, hf, hc, rfl⟩
theorem placesL_bd {l : List Smp} (hs : smpF l = 0) : ∀ p ∈ placesL l, -2000000000000000 ≤ p.1 ∧ p.1 ≤ 2000000000000000 := by
  intro p hp
  obtain ⟨f, hf, hc, rfl⟩ := placesL_mem hs hp
  obtain ⟨t1, t2⟩ := toOf_bd hf
  have hPl := presL_len l
  have := (minOf_is (sub_ne (P := presL l) (f := f) (t := toOf l f) (by omega) (by omega))).1
  obtain ⟨i, hi, h1, h2, h3⟩ := sub_mem this
  have hb := pres_bd (smpF_0 hs).2.1 _ (List.getElem_mem (show i < (presL l).length by omega))
  simp only [grpAt]
  rw [h3]
  exact hb
theorem placesL_len (l : List Smp) : (placesL l).length ≤ 5000 := Nat.le_trans (plOf_len _) (groupsF_len l)
def cutOf (r : Str) (scale b : Int) : Int := scl b r.scale.toNat scale.toNat 1
def fstAt (r : Str) (scale b : Int) (fr : List Int) : Int × Int :=
  if r.sound then (if fr.length ≠ 0 ∧ (lastB (presL r.smps) r.scale b scale ((presL r.smps).length - 1) : Int) ≤ fr.getD (fr.length - 1) 0 then (0, 13) else ((lastB (presL r.smps) r.scale b scale ((presL r.smps).length - 1) : Nat), 0))
  else if (findF (placesL r.smps) r.scale b scale).2 then ((findF (placesL r.smps) r.scale b scale).1.2, 0) else (0, 9)
def fstGo (r : Str) (scale : Int) : List Int → List Int → List Int → List Int × List Int × Int
  | [], fr, cu => (fr, cu, 0)
  | b :: t, fr, cu => if noTime (cutOf r scale b) then ([], [], 1) else if (fstAt r scale b fr).2 ≠ 0 then ([], [], (fstAt r scale b fr).2) else fstGo r scale t (fr ++ [(fstAt r scale b fr).1]) (cu ++ [cutOf r scale b])
/-! headend/cut.firsts -/
def r23_0 : List POp := [⟨3, .boxs (.t 0), none⟩,
  ⟨6, .asg .nil, none⟩,
  ⟨7, .asg .nil, none⟩,
  ⟨8, .asg (.c (.int .i64 0)), none⟩]
def r23_1 : List POp := [⟨20, .loads 4 (.t 3), none⟩,
  ⟨21, .call 10 [.t 20], none⟩,
  ⟨9, .asg (.t 21), none⟩]
def r23_2 : List POp := [⟨23, .fld 3 (.t 3), none⟩,
  ⟨24, .load (.t 23), none⟩,
  ⟨25, .call 24 [.t 24], none⟩,
  ⟨22, .mv (.t 25), none⟩,
  ⟨26, .ext 0 (.t 22), none⟩,
  ⟨27, .ext 1 (.t 22), none⟩,
  ⟨10, .asg (.t 26), none⟩,
  ⟨11, .mv (.t 27), none⟩]
def r23_3 : List POp := [⟨12, .asg .nil, none⟩,
  ⟨13, .asg .nil, none⟩]
def r23_4 : List POp := [⟨28, .mv (.t 2), none⟩,
  ⟨29, .len (.t 28), none⟩,
  ⟨30, .mv (.c (.int .i64 0)), none⟩]
def r23_5 : List POp := [⟨31, .bin .lss (.t 30) (.t 29), none⟩]
def r23_6 : List POp := [⟨32, .mv (.t 30), none⟩,
  ⟨33, .idx 1 (.t 28) (.t 30), none⟩,
  ⟨34, .load (.t 33), none⟩,
  ⟨14, .asg (.t 32), none⟩,
  ⟨15, .asg (.t 34), none⟩]
def r23_7 : List POp := [⟨35, .mv (.t 15), none⟩,
  ⟨36, .fld 1 (.t 3), none⟩,
  ⟨37, .load (.t 36), none⟩,
  ⟨38, .mv (.t 1), none⟩,
  ⟨39, .call 34 [.t 35, .t 37, .t 38, .c (.int .i64 1)], none⟩,
  ⟨16, .asg (.t 39), none⟩]
def r23_8 : List POp := [⟨40, .mv (.t 16), none⟩,
  ⟨41, .call 33 [.t 40], none⟩]
def r23_9 : List POp := [⟨6, .asg .nil, none⟩,
  ⟨7, .asg .nil, none⟩,
  ⟨8, .asg (.c (.int .i64 1)), none⟩]
def r23_10 : List POp := [⟨17, .asg (.c (.int .i64 0)), none⟩]
def r23_11 : List POp := [⟨42, .fld 2 (.t 3), none⟩,
  ⟨43, .load (.t 42), none⟩]
def r23_12 : List POp := [⟨44, .mv (.t 10), none⟩,
  ⟨45, .fld 1 (.t 3), none⟩,
  ⟨46, .load (.t 45), none⟩,
  ⟨47, .mv (.t 15), none⟩,
  ⟨48, .mv (.t 1), none⟩,
  ⟨49, .call 35 [.t 44, .t 46, .t 47, .t 48], none⟩,
  ⟨17, .asg (.t 49), none⟩]
def r23_13 : List POp := [⟨50, .mv (.t 14), none⟩,
  ⟨51, .bin .gtr (.t 50) (.c (.int .i64 0)), none⟩,
  ⟨52, .mv (.t 51), none⟩,
  ⟨53, .mv (.t 17), some (52, true)⟩,
  ⟨54, .mv (.t 12), some (52, true)⟩,
  ⟨55, .mv (.t 14), some (52, true)⟩,
  ⟨56, .bin .sub (.t 55) (.c (.int .i64 1)), some (52, true)⟩,
  ⟨57, .idx 1 (.t 54) (.t 56), some (52, true)⟩,
  ⟨58, .load (.t 57), some (52, true)⟩,
  ⟨59, .bin .leq (.t 53) (.t 58), some (52, true)⟩,
  ⟨60, .pick (.t 52) (.t 59) (.c (.bool false)), none⟩]
def r23_14 : List POp := [⟨6, .asg .nil, none⟩,
  ⟨7, .asg .nil, none⟩,
  ⟨8, .asg (.c (.int .i64 13)), none⟩]
def r23_15 : List POp := [⟨62, .mv (.t 9), none⟩,
  ⟨63, .fld 1 (.t 3), none⟩,
  ⟨64, .load (.t 63), none⟩,
  ⟨65, .mv (.t 15), none⟩,
  ⟨66, .mv (.t 1), none⟩,
  ⟨67, .call 11 [.t 62, .t 64, .t 65, .t 66], none⟩,
  ⟨61, .mv (.t 67), none⟩,
  ⟨68, .ext 0 (.t 61), none⟩,
  ⟨69, .ext 1 (.t 61), none⟩,
  ⟨18, .alloc [.int .i64 0, .int .i64 0], none⟩,
  ⟨0, .stores 2 (.t 18) (.t 68), none⟩,
  ⟨19, .mv (.t 69), none⟩]
def r23_16 : List POp := [⟨70, .mv (.t 19), none⟩,
  ⟨71, .un .not (.t 70), none⟩]
def r23_17 : List POp := [⟨6, .asg .nil, none⟩,
  ⟨7, .asg .nil, none⟩,
  ⟨8, .asg (.c (.int .i64 9)), none⟩]
def r23_18 : List POp := [⟨72, .fld 1 (.t 18), none⟩,
  ⟨73, .load (.t 72), none⟩,
  ⟨17, .asg (.t 73), none⟩]
def r23_19 : List POp := [⟨74, .mv (.t 12), none⟩,
  ⟨75, .mv (.t 17), none⟩,
  ⟨76, .row 3 1 [.t 75], none⟩,
  ⟨77, .app 3 1 8 (.t 74) (.t 76), none⟩,
  ⟨78, .mv (.t 13), none⟩,
  ⟨79, .mv (.t 16), none⟩,
  ⟨80, .row 3 1 [.t 79], none⟩,
  ⟨81, .app 3 1 8 (.t 78) (.t 80), none⟩,
  ⟨12, .asg (.t 77), none⟩,
  ⟨13, .asg (.t 81), none⟩]
def r23_20 : List POp := [⟨82, .bin .add (.t 30) (.c (.int .i64 1)), none⟩,
  ⟨30, .mv (.t 82), none⟩]
def r23_21 : List POp := [⟨83, .mv (.t 12), none⟩,
  ⟨84, .mv (.t 13), none⟩,
  ⟨6, .asg (.t 83), none⟩,
  ⟨7, .asg (.t 84), none⟩,
  ⟨8, .mv (.c (.int .i64 0)), none⟩]
def l23_0 : PCode := .seq (.ops r23_5) (.seq (.cond (.t 31) (.skip) (.exit 0)) (.seq (.block 1 (.seq (.ops r23_6) (.seq (.ops r23_7) (.seq (.seq (.ops r23_8) (.cond (.t 41) (.seq (.ops r23_9) (.ret)) (.skip))) (.seq (.ops r23_10) (.seq (.seq (.ops r23_11) (.cond (.t 43) (.seq (.ops r23_12) (.seq (.ops r23_13) (.cond (.t 60) (.seq (.ops r23_14) (.ret)) (.skip)))) (.seq (.ops r23_15) (.seq (.seq (.ops r23_16) (.cond (.t 71) (.seq (.ops r23_17) (.ret)) (.skip))) (.ops r23_18))))) (.ops r23_19))))))) (.ops r23_20)))
def p23 : PCode := .seq (.ops r23_0) (.seq (.ops r23_1) (.seq (.ops r23_2) (.seq (.ops r23_3) (.seq (.seq (.ops r23_4) (.block 0 (.loop l23_0))) (.seq (.ops r23_21) (.ret))))))
theorem ok23 : okFunc Try.prog 23 [.t 6, .t 7, .t 8] 3 p23 = true := by kernel_rfl
set_option maxHeartbeats 2000000 in
theorem firsts_c (r : Str) (scale : Int) (B : List Int) (hs : smpF r.smps = 0) (hne : 0 < r.smps.length) (hr : 1 ≤ r.scale ∧ r.scale ≤ 1000000000) (hsc : 1 ≤ scale ∧ scale ≤ 1000000000) (hBl : B.length ≤ 1000) (hB : ∀ b ∈ B, -1000000000000000 ≤ b ∧ b ≤ 1000000000000000) :
    CallOK Try.prog 23 [.agg r.av, .val (.int .i64 scale), .ro (B.map oneI)] (.tup [.ro ((fstGo r scale B [] []).1.map oneI), .ro ((fstGo r scale B [] []).2.1.map oneI), .val (.int .i64 (fstGo r scale B [] []).2.2)]) := by
  refine call_of mixed ok23 rfl ?_
  have hG := places_c r
  have hP := presF_c r.smps
  rw [show presF r.smps = (presL r.smps, 0) from by rw [presF, if_neg (by simp [hs])]] at hP
  have hPl := presL_len r.smps
  have h5 := (smpF_0 hs).1
  have hPb := pres_bd (smpF_0 hs).2.1
  have hfind : ∀ b, (-1000000000000000 ≤ b ∧ b ≤ 1000000000000000) → CallOK Try.prog 11 [.ro ((placesL r.smps).map plAV), .val (.int .i64 r.scale), .val (.int .i64 b), .val (.int .i64 scale)] (.tup [.agg (plAV (findF (placesL r.smps) r.scale b scale).1), .val (.bool (findF (placesL r.smps) r.scale b scale).2)]) := fun b hb =>
    find_c _ _ _ _ (Nat.le_trans (placesL_len _) (by decide)) (fun p hp => by have := placesL_bd hs p hp; omega) (by omega) (by omega) (by omega)
  have hlast : ∀ b, (-1000000000000000 ≤ b ∧ b ≤ 1000000000000000) → CallOK Try.prog 35 [.ro ((presL r.smps).map oneI), .val (.int .i64 r.scale), .val (.int .i64 b), .val (.int .i64 scale)] (.val (.int .i64 (lastB (presL r.smps) r.scale b scale ((presL r.smps).length - 1) : Nat))) := fun b hb =>
    lastb_c _ _ _ _ (by omega) (by omega) (fun p hp => by have := hPb p hp; omega) (by omega) (by omega) (by omega)
  have hcut : ∀ b, (-1000000000000000 ≤ b ∧ b ≤ 1000000000000000) → CallOK Try.prog 34 [.val (.int .i64 b), .val (.int .i64 r.scale), .val (.int .i64 scale), .val (.int .i64 1)] (.val (.int .i64 (cutOf r scale b))) := fun b hb =>
    scaledI_c b r.scale scale 1 (by omega) (by omega) (by omega) (by omega) (by omega) (by omega)
  obtain ⟨R, hR⟩ : ∃ R, fstGo r scale B [] [] = R := ⟨_, rfl⟩
  rw [hR]
  simp only [Str.av] at hG ⊢
  repeat' first | ((with_reducible (first | refine condD ?_ ?_ | refine condE ?_ ?_ | refine condN ?_ ?_ | refine condI ?_ ?_ | refine condS ?_ ?_)) <;> intro h) | ((with_reducible (first | refine guardD (by with_unfolding_all rfl) ?_ ?_ | refine guardE (by with_unfolding_all rfl) ?_ ?_ | refine guardN (by with_unfolding_all rfl) ?_ ?_ | refine guardI (by with_unfolding_all rfl) ?_ ?_ | refine guardS (by with_unfolding_all rfl) ?_ ?_)) <;> intro h) | ((refine callG hG ?_)) | ((refine callG hP ?_)) | (with_reducible refine And.intro ?_ ?_; omega) | (simp only [done_eq, done_eq', donet_eq, donet_eq', fin_val, fin_tup, fin_agg, fin_ro, res_one, res_more, rv_t, rv_c, rv_l, AV.tup.injEq, AV.agg.injEq, AV.ro.injEq, List.cons.injEq, int_eq, bool_eq, Int.toNat_natCast, Int.reduceToNat, Int.toNat_zero, Int.toNat_one, Int.reduceLE, Int.reduceLT, Int.reduceBEq, Int.reduceBNe, beq_self_eq_true, bne_self_eq_false, decide_true, decide_false,  Int.reduceNeg, toNat_pred, toNat_succ, List.length_map, cnd_t, cnd_f, grd_tt, grd_u, grd_tf, grd_ft, grd_ff, g_skip, g_ops, g_seq, g_block, g_exit, g_ret, x_c, x_o, x_l, x_b, g_b, g_nil, r_all, o_nil, g_cond, o_guard, o_call, o_callm, o_callt, o_callx, o_callv, lk, ef, o_mv, o_pick, o_bin, o_never, o_eqs, o_eqb, o_un, o_conv, o_load, o_loadr, o_idxr, o_loads, o_fld, o_idx, o_idxs, o_len, o_lens, o_ext, o_nilck, o_slc, o_slcs, o_build, o_minmax, o_mkfn, o_alloc, o_box, o_boxs, o_row, o_rowr, o_mk, o_asg, o_app, o_store, o_stores, o_eqnil, hv, eqAV, ev, view_t, view_c, view_nil, view_fn, look_own, look_box, look_junk, look_val, look_nilsl, look_ro, look_roAt, look_agg, look_tup, look_clo, look_alias, look_ref, look_into, rowOf, cellsOf, argv, vbin, vun, bnd, elemOf, putParts, setAt, zav, ASt.rid, ASt.free, AV.kill, AV.isHome, AV.noLoan, AV.cellOK, Value.oneCell', put_at, mk_at, mk_nil, initSt, true_and, and_true, and_self, implies_true, List.map_cons, List.map_nil, List.forall_mem_cons, List.not_mem_nil, false_implies, List.length_cons, List.length_nil, List.getD_cons_zero, List.getD_cons_succ, List.getD_nil, List.drop_succ_cons, List.drop_zero, List.take_succ_cons, List.take_zero, List.set_cons_zero, List.set_cons_succ, List.all_cons, List.all_nil, Bool.and_true, Bool.true_and, Bool.not_true, Bool.not_false, reduceCtorEq, if_true, if_false, Bool.false_eq_true, ↓reduceIte, Nat.reduceEqDiff, Nat.reduceAdd, Nat.reduceSub, Nat.reduceMul, Nat.reduceLeDiff, Nat.reduceLT, ne_eq, not_false_eq_true, not_true_eq_false, Nat.one_ne_zero, Nat.zero_ne_one, r23_0, r23_1, r23_2, r23_3, r23_4, r23_5, r23_6, r23_7, r23_8, r23_9, r23_10, r23_11, r23_12, r23_13, r23_14, r23_15, r23_16, r23_17, r23_18, r23_19, r23_20, r23_21, p23, List.length_map]) | (exfalso; omega)
  refine loopS (fun p : Nat × List Int × List Int => mk [(1, .val (.int .i64 scale)), (3, .box [.val (.string r.name), .val (.int .i64 r.scale), .val (.bool r.sound), .ro (r.smps.map Smp.av)]), (9, .ro ((placesL r.smps).map plAV)), (10, .ro ((presL r.smps).map oneI)), (12, .own 3 1 (p.2.1.map oneI)), (13, .own 3 1 (p.2.2.map oneI)), (28, .ro (B.map oneI)), (29, .val (.int .i64 B.length)), (30, .val (.int .i64 p.1))])
    (fun p => p.1 ≤ B.length ∧ p.2.1.length = p.1 ∧ p.2.2.length = p.1 ∧ fstGo r scale (B.drop p.1) p.2.1 p.2.2 = R) (fun p => B.length - p.1) (0, [], []) (weak_mk ?_) ⟨Nat.zero_le _, rfl, rfl, hR⟩ ?_
  · simp only [wk_cons, wk_nil, wk1, vint_eq, vbool_eq, AV.val.injEq, done_eq, done_eq', donet_eq, donet_eq', fin_val, fin_tup, fin_agg, fin_ro, res_one, res_more, rv_t, rv_c, rv_l, AV.tup.injEq, AV.agg.injEq, AV.ro.injEq, List.cons.injEq, int_eq, bool_eq, Int.toNat_natCast, Int.reduceToNat, Int.toNat_zero, Int.toNat_one, Int.reduceLE, Int.reduceLT, Int.reduceBEq, Int.reduceBNe, beq_self_eq_true, bne_self_eq_false, decide_true, decide_false,  Int.reduceNeg, toNat_pred, toNat_succ, List.length_map, cnd_t, cnd_f, grd_tt, grd_u, grd_tf, grd_ft, grd_ff, g_skip, g_ops, g_seq, g_block, g_exit, g_ret, x_c, x_o, x_l, x_b, g_b, g_nil, r_all, o_nil, g_cond, o_guard, o_call, o_callm, o_callt, o_callx, o_callv, lk, ef, o_mv, o_pick, o_bin, o_never, o_eqs, o_eqb, o_un, o_conv, o_load, o_loadr, o_idxr, o_loads, o_fld, o_idx, o_idxs, o_len, o_lens, o_ext, o_nilck, o_slc, o_slcs, o_build, o_minmax, o_mkfn, o_alloc, o_box, o_boxs, o_row, o_rowr, o_mk, o_asg, o_app, o_store, o_stores, o_eqnil, hv, eqAV, ev, view_t, view_c, view_nil, view_fn, look_own, look_box, look_junk, look_val, look_nilsl, look_ro, look_roAt, look_agg, look_tup, look_clo, look_alias, look_ref, look_into, rowOf, cellsOf, argv, vbin, vun, bnd, elemOf, putParts, setAt, zav, ASt.rid, ASt.free, AV.kill, AV.isHome, AV.noLoan, AV.cellOK, Value.oneCell', put_at, mk_at, mk_nil, initSt, true_and, and_true, and_self, implies_true, List.map_cons, List.map_nil, List.forall_mem_cons, List.not_mem_nil, false_implies, List.length_cons, List.length_nil, List.getD_cons_zero, List.getD_cons_succ, List.getD_nil, List.drop_succ_cons, List.drop_zero, List.take_succ_cons, List.take_zero, List.set_cons_zero, List.set_cons_succ, List.all_cons, List.all_nil, Bool.and_true, Bool.true_and, Bool.not_true, Bool.not_false, reduceCtorEq, if_true, if_false, Bool.false_eq_true, ↓reduceIte, Nat.reduceEqDiff, Nat.reduceAdd, Nat.reduceSub, Nat.reduceMul, Nat.reduceLeDiff, Nat.reduceLT, ne_eq, not_false_eq_true, not_true_eq_false, Nat.one_ne_zero, Nat.zero_ne_one]
    simp
  rintro J hJ ⟨k, fr, cu⟩ ⟨hk, hf, hc, hg⟩
  simp only at hk hf hc hg
  simp only [done_eq, done_eq', donet_eq, donet_eq', fin_val, fin_tup, fin_agg, fin_ro, res_one, res_more, rv_t, rv_c, rv_l, AV.tup.injEq, AV.agg.injEq, AV.ro.injEq, List.cons.injEq, int_eq, bool_eq, Int.toNat_natCast, Int.reduceToNat, Int.toNat_zero, Int.toNat_one, Int.reduceLE, Int.reduceLT, Int.reduceBEq, Int.reduceBNe, beq_self_eq_true, bne_self_eq_false, decide_true, decide_false,  Int.reduceNeg, toNat_pred, toNat_succ, List.length_map, cnd_t, cnd_f, grd_tt, grd_u, grd_tf, grd_ft, grd_ff, g_skip, g_ops, g_seq, g_block, g_exit, g_ret, x_c, x_o, x_l, x_b, g_b, g_nil, r_all, o_nil, g_cond, o_guard, o_call, o_callm, o_callt, o_callx, o_callv, lk, ef, o_mv, o_pick, o_bin, o_never, o_eqs, o_eqb, o_un, o_conv, o_load, o_loadr, o_idxr, o_loads, o_fld, o_idx, o_idxs, o_len, o_lens, o_ext, o_nilck, o_slc, o_slcs, o_build, o_minmax, o_mkfn, o_alloc, o_box, o_boxs, o_row, o_rowr, o_mk, o_asg, o_app, o_store, o_stores, o_eqnil, hv, eqAV, ev, view_t, view_c, view_nil, view_fn, look_own, look_box, look_junk, look_val, look_nilsl, look_ro, look_roAt, look_agg, look_tup, look_clo, look_alias, look_ref, look_into, rowOf, cellsOf, argv, vbin, vun, bnd, elemOf, putParts, setAt, zav, ASt.rid, ASt.free, AV.kill, AV.isHome, AV.noLoan, AV.cellOK, Value.oneCell', put_at, mk_at, mk_nil, initSt, true_and, and_true, and_self, implies_true, List.map_cons, List.map_nil, List.forall_mem_cons, List.not_mem_nil, false_implies, List.length_cons, List.length_nil, List.getD_cons_zero, List.getD_cons_succ, List.getD_nil, List.drop_succ_cons, List.drop_zero, List.take_succ_cons, List.take_zero, List.set_cons_zero, List.set_cons_succ, List.all_cons, List.all_nil, Bool.and_true, Bool.true_and, Bool.not_true, Bool.not_false, reduceCtorEq, if_true, if_false, Bool.false_eq_true, ↓reduceIte, Nat.reduceEqDiff, Nat.reduceAdd, Nat.reduceSub, Nat.reduceMul, Nat.reduceLeDiff, Nat.reduceLT, ne_eq, not_false_eq_true, not_true_eq_false, Nat.one_ne_zero, Nat.zero_ne_one, r23_0, r23_1, r23_2, r23_3, r23_4, r23_5, r23_6, r23_7, r23_8, r23_9, r23_10, r23_11, r23_12, r23_13, r23_14, r23_15, r23_16, r23_17, r23_18, r23_19, r23_20, r23_21, p23, l23_0]
  refine condD (fun h => ?_) (fun h => ?_)
  · have hlt : k < B.length := by omega
    have hw := i_add1 k (by omega)
    have gK := getD_map (f := oneI) (d := []) hlt
    simp only [oneI] at gK
    have hbb := hB _ (List.getElem_mem hlt)
    have h1 := hcut _ hbb
    have h2 := hfind _ hbb
    have h3 := hlast _ hbb
    rw [List.drop_eq_getElem_cons hlt, fstGo] at hg
    generalize hcv : cutOf r scale B[k] = cv at *
    by_cases n1 : noTime cv = true
    · rw [if_pos n1] at hg
      subst hg
      repeat' first | ((with_reducible (first | refine condD ?_ ?_ | refine condE ?_ ?_ | refine condN ?_ ?_ | refine condI ?_ ?_ | refine condS ?_ ?_)) <;> intro h) | ((with_reducible (first | refine guardD (by with_unfolding_all rfl) ?_ ?_ | refine guardE (by with_unfolding_all rfl) ?_ ?_ | refine guardN (by with_unfolding_all rfl) ?_ ?_ | refine guardI (by with_unfolding_all rfl) ?_ ?_ | refine guardS (by with_unfolding_all rfl) ?_ ?_)) <;> intro h) | ((refine callG h1 ?_)) | ((refine callG (notime_c _) ?_)) | (with_reducible refine And.intro ?_ ?_; omega) | (simp only [done_eq, done_eq', donet_eq, donet_eq', fin_val, fin_tup, fin_agg, fin_ro, res_one, res_more, rv_t, rv_c, rv_l, AV.tup.injEq, AV.agg.injEq, AV.ro.injEq, List.cons.injEq, int_eq, bool_eq, Int.toNat_natCast, Int.reduceToNat, Int.toNat_zero, Int.toNat_one, Int.reduceLE, Int.reduceLT, Int.reduceBEq, Int.reduceBNe, beq_self_eq_true, bne_self_eq_false, decide_true, decide_false,  Int.reduceNeg, toNat_pred, toNat_succ, List.length_map, cnd_t, cnd_f, grd_tt, grd_u, grd_tf, grd_ft, grd_ff, g_skip, g_ops, g_seq, g_block, g_exit, g_ret, x_c, x_o, x_l, x_b, g_b, g_nil, r_all, o_nil, g_cond, o_guard, o_call, o_callm, o_callt, o_callx, o_callv, lk, ef, o_mv, o_pick, o_bin, o_never, o_eqs, o_eqb, o_un, o_conv, o_load, o_loadr, o_idxr, o_loads, o_fld, o_idx, o_idxs, o_len, o_lens, o_ext, o_nilck, o_slc, o_slcs, o_build, o_minmax, o_mkfn, o_alloc, o_box, o_boxs, o_row, o_rowr, o_mk, o_asg, o_app, o_store, o_stores, o_eqnil, hv, eqAV, ev, view_t, view_c, view_nil, view_fn, look_own, look_box, look_junk, look_val, look_nilsl, look_ro, look_roAt, look_agg, look_tup, look_clo, look_alias, look_ref, look_into, rowOf, cellsOf, argv, vbin, vun, bnd, elemOf, putParts, setAt, zav, ASt.rid, ASt.free, AV.kill, AV.isHome, AV.noLoan, AV.cellOK, Value.oneCell', put_at, mk_at, mk_nil, initSt, true_and, and_true, and_self, implies_true, List.map_cons, List.map_nil, List.forall_mem_cons, List.not_mem_nil, false_implies, List.length_cons, List.length_nil, List.getD_cons_zero, List.getD_cons_succ, List.getD_nil, List.drop_succ_cons, List.drop_zero, List.take_succ_cons, List.take_zero, List.set_cons_zero, List.set_cons_succ, List.all_cons, List.all_nil, Bool.and_true, Bool.true_and, Bool.not_true, Bool.not_false, reduceCtorEq, if_true, if_false, Bool.false_eq_true, ↓reduceIte, Nat.reduceEqDiff, Nat.reduceAdd, Nat.reduceSub, Nat.reduceMul, Nat.reduceLeDiff, Nat.reduceLT, ne_eq, not_false_eq_true, not_true_eq_false, Nat.one_ne_zero, Nat.zero_ne_one, r23_0, r23_1, r23_2, r23_3, r23_4, r23_5, r23_6, r23_7, r23_8, r23_9, r23_10, r23_11, r23_12, r23_13, r23_14, r23_15, r23_16, r23_17, r23_18, r23_19, r23_20, r23_21, p23, l23_0, gK, n1, List.length_map]) | (exfalso; omega)
    rw [if_neg n1] at hg
    rw [Bool.not_eq_true] at n1
    have happ2 : cu.map oneI ++ [[.val (.int .i64 cv)]] = (cu ++ [cv]).map oneI := by rw [List.map_append]; rfl
    by_cases hso : r.sound = true
    · have hA : fstAt r scale B[k] fr = if fr.length ≠ 0 ∧ (lastB (presL r.smps) r.scale B[k] scale ((presL r.smps).length - 1) : Int) ≤ fr.getD (fr.length - 1) 0 then ((0 : Int), (13 : Int)) else (((lastB (presL r.smps) r.scale B[k] scale ((presL r.smps).length - 1) : Nat) : Int), (0 : Int)) := by
        unfold fstAt
        rw [if_pos hso]
      generalize lastB (presL r.smps) r.scale B[k] scale ((presL r.smps).length - 1) = a at *
      have happ : fr.map oneI ++ [[.val (.int .i64 (a : Nat))]] = (fr ++ [(a : Int)]).map oneI := by rw [List.map_append]; rfl
      by_cases hkz : k = 0
      · have hk0 : ¬ (0 : Int) < k := by omega
        rw [if_neg (by rw [hf]; simp [hkz])] at hA
        rw [hA] at hg
        simp only [ne_eq, not_true_eq_false, if_false] at hg
        repeat' first | ((with_reducible (first | refine condD ?_ ?_ | refine condE ?_ ?_ | refine condN ?_ ?_ | refine condI ?_ ?_ | refine condS ?_ ?_)) <;> intro h) | ((with_reducible (first | refine guardD (by with_unfolding_all rfl) ?_ ?_ | refine guardE (by with_unfolding_all rfl) ?_ ?_ | refine guardN (by with_unfolding_all rfl) ?_ ?_ | refine guardI (by with_unfolding_all rfl) ?_ ?_ | refine guardS (by with_unfolding_all rfl) ?_ ?_)) <;> intro h) | ((refine callG h1 ?_)) | ((refine callG (notime_c _) ?_)) | ((refine callG h3 ?_)) | (with_reducible refine And.intro ?_ ?_; omega) | (simp only [done_eq, done_eq', donet_eq, donet_eq', fin_val, fin_tup, fin_agg, fin_ro, res_one, res_more, rv_t, rv_c, rv_l, AV.tup.injEq, AV.agg.injEq, AV.ro.injEq, List.cons.injEq, int_eq, bool_eq, Int.toNat_natCast, Int.reduceToNat, Int.toNat_zero, Int.toNat_one, Int.reduceLE, Int.reduceLT, Int.reduceBEq, Int.reduceBNe, beq_self_eq_true, bne_self_eq_false, decide_true, decide_false,  Int.reduceNeg, toNat_pred, toNat_succ, List.length_map, cnd_t, cnd_f, grd_tt, grd_u, grd_tf, grd_ft, grd_ff, g_skip, g_ops, g_seq, g_block, g_exit, g_ret, x_c, x_o, x_l, x_b, g_b, g_nil, r_all, o_nil, g_cond, o_guard, o_call, o_callm, o_callt, o_callx, o_callv, lk, ef, o_mv, o_pick, o_bin, o_never, o_eqs, o_eqb, o_un, o_conv, o_load, o_loadr, o_idxr, o_loads, o_fld, o_idx, o_idxs, o_len, o_lens, o_ext, o_nilck, o_slc, o_slcs, o_build, o_minmax, o_mkfn, o_alloc, o_box, o_boxs, o_row, o_rowr, o_mk, o_asg, o_app, o_store, o_stores, o_eqnil, hv, eqAV, ev, view_t, view_c, view_nil, view_fn, look_own, look_box, look_junk, look_val, look_nilsl, look_ro, look_roAt, look_agg, look_tup, look_clo, look_alias, look_ref, look_into, rowOf, cellsOf, argv, vbin, vun, bnd, elemOf, putParts, setAt, zav, ASt.rid, ASt.free, AV.kill, AV.isHome, AV.noLoan, AV.cellOK, Value.oneCell', put_at, mk_at, mk_nil, initSt, true_and, and_true, and_self, implies_true, List.map_cons, List.map_nil, List.forall_mem_cons, List.not_mem_nil, false_implies, List.length_cons, List.length_nil, List.getD_cons_zero, List.getD_cons_succ, List.getD_nil, List.drop_succ_cons, List.drop_zero, List.take_succ_cons, List.take_zero, List.set_cons_zero, List.set_cons_succ, List.all_cons, List.all_nil, Bool.and_true, Bool.true_and, Bool.not_true, Bool.not_false, reduceCtorEq, if_true, if_false, Bool.false_eq_true, ↓reduceIte, Nat.reduceEqDiff, Nat.reduceAdd, Nat.reduceSub, Nat.reduceMul, Nat.reduceLeDiff, Nat.reduceLT, ne_eq, not_false_eq_true, not_true_eq_false, Nat.one_ne_zero, Nat.zero_ne_one, r23_0, r23_1, r23_2, r23_3, r23_4, r23_5, r23_6, r23_7, r23_8, r23_9, r23_10, r23_11, r23_12, r23_13, r23_14, r23_15, r23_16, r23_17, r23_18, r23_19, r23_20, r23_21, p23, l23_0, gK, n1, hso, hk0, happ, happ2, List.length_map]) | (exfalso; omega)
        all_goals first | omega | exact again hJ (k + 1, fr ++ [(a : Int)], cu ++ [cv]) (weak_mk (by simp only [wk_cons, wk_nil, wk1, vint_eq, vbool_eq, AV.val.injEq, done_eq, done_eq', donet_eq, donet_eq', fin_val, fin_tup, fin_agg, fin_ro, res_one, res_more, rv_t, rv_c, rv_l, AV.tup.injEq, AV.agg.injEq, AV.ro.injEq, List.cons.injEq, int_eq, bool_eq, Int.toNat_natCast, Int.reduceToNat, Int.toNat_zero, Int.toNat_one, Int.reduceLE, Int.reduceLT, Int.reduceBEq, Int.reduceBNe, beq_self_eq_true, bne_self_eq_false, decide_true, decide_false,  Int.reduceNeg, toNat_pred, toNat_succ, List.length_map, cnd_t, cnd_f, grd_tt, grd_u, grd_tf, grd_ft, grd_ff, g_skip, g_ops, g_seq, g_block, g_exit, g_ret, x_c, x_o, x_l, x_b, g_b, g_nil, r_all, o_nil, g_cond, o_guard, o_call, o_callm, o_callt, o_callx, o_callv, lk, ef, o_mv, o_pick, o_bin, o_never, o_eqs, o_eqb, o_un, o_conv, o_load, o_loadr, o_idxr, o_loads, o_fld, o_idx, o_idxs, o_len, o_lens, o_ext, o_nilck, o_slc, o_slcs, o_build, o_minmax, o_mkfn, o_alloc, o_box, o_boxs, o_row, o_rowr, o_mk, o_asg, o_app, o_store, o_stores, o_eqnil, hv, eqAV, ev, view_t, view_c, view_nil, view_fn, look_own, look_box, look_junk, look_val, look_nilsl, look_ro, look_roAt, look_agg, look_tup, look_clo, look_alias, look_ref, look_into, rowOf, cellsOf, argv, vbin, vun, bnd, elemOf, putParts, setAt, zav, ASt.rid, ASt.free, AV.kill, AV.isHome, AV.noLoan, AV.cellOK, Value.oneCell', put_at, mk_at, mk_nil, initSt, true_and, and_true, and_self, implies_true, List.map_cons, List.map_nil, List.forall_mem_cons, List.not_mem_nil, false_implies, List.length_cons, List.length_nil, List.getD_cons_zero, List.getD_cons_succ, List.getD_nil, List.drop_succ_cons, List.drop_zero, List.take_succ_cons, List.take_zero, List.set_cons_zero, List.set_cons_succ, List.all_cons, List.all_nil, Bool.and_true, Bool.true_and, Bool.not_true, Bool.not_false, reduceCtorEq, if_true, if_false, Bool.false_eq_true, ↓reduceIte, Nat.reduceEqDiff, Nat.reduceAdd, Nat.reduceSub, Nat.reduceMul, Nat.reduceLeDiff, Nat.reduceLT, ne_eq, not_false_eq_true, not_true_eq_false, Nat.one_ne_zero, Nat.zero_ne_one]; first | exact hw | exact ⟨hso.symm, hw⟩)) ⟨by simp only; omega, by simp [hf], by simp [hc], hg⟩ (by simp only; omega)
      · have hk0 : (0 : Int) < k := by omega
        have hw1 := i_sub1 k (by omega) (by omega)
        have hlt2 : k - 1 < fr.length := by omega
        have gF := getD_map (f := oneI) (d := []) hlt2
        simp only [oneI] at gF
        rw [hf, List.getD_eq_getElem?_getD, List.getElem?_eq_getElem hlt2, Option.getD_some] at hA
        by_cases q : (a : Int) ≤ fr[k - 1]
        · rw [if_pos ⟨by omega, q⟩] at hA
          rw [hA, if_pos (by decide)] at hg
          subst hg
          repeat' first | ((with_reducible (first | refine condD ?_ ?_ | refine condE ?_ ?_ | refine condN ?_ ?_ | refine condI ?_ ?_ | refine condS ?_ ?_)) <;> intro h) | ((with_reducible (first | refine guardD (by with_unfolding_all rfl) ?_ ?_ | refine guardE (by with_unfolding_all rfl) ?_ ?_ | refine guardN (by with_unfolding_all rfl) ?_ ?_ | refine guardI (by with_unfolding_all rfl) ?_ ?_ | refine guardS (by with_unfolding_all rfl) ?_ ?_)) <;> intro h) | ((refine callG h1 ?_)) | ((refine callG (notime_c _) ?_)) | ((refine callG h3 ?_)) | (with_reducible refine And.intro ?_ ?_; omega) | (simp only [done_eq, done_eq', donet_eq, donet_eq', fin_val, fin_tup, fin_agg, fin_ro, res_one, res_more, rv_t, rv_c, rv_l, AV.tup.injEq, AV.agg.injEq, AV.ro.injEq, List.cons.injEq, int_eq, bool_eq, Int.toNat_natCast, Int.reduceToNat, Int.toNat_zero, Int.toNat_one, Int.reduceLE, Int.reduceLT, Int.reduceBEq, Int.reduceBNe, beq_self_eq_true, bne_self_eq_false, decide_true, decide_false,  Int.reduceNeg, toNat_pred, toNat_succ, List.length_map, cnd_t, cnd_f, grd_tt, grd_u, grd_tf, grd_ft, grd_ff, g_skip, g_ops, g_seq, g_block, g_exit, g_ret, x_c, x_o, x_l, x_b, g_b, g_nil, r_all, o_nil, g_cond, o_guard, o_call, o_callm, o_callt, o_callx, o_callv, lk, ef, o_mv, o_pick, o_bin, o_never, o_eqs, o_eqb, o_un, o_conv, o_load, o_loadr, o_idxr, o_loads, o_fld, o_idx, o_idxs, o_len, o_lens, o_ext, o_nilck, o_slc, o_slcs, o_build, o_minmax, o_mkfn, o_alloc, o_box, o_boxs, o_row, o_rowr, o_mk, o_asg, o_app, o_store, o_stores, o_eqnil, hv, eqAV, ev, view_t, view_c, view_nil, view_fn, look_own, look_box, look_junk, look_val, look_nilsl, look_ro, look_roAt, look_agg, look_tup, look_clo, look_alias, look_ref, look_into, rowOf, cellsOf, argv, vbin, vun, bnd, elemOf, putParts, setAt, zav, ASt.rid, ASt.free, AV.kill, AV.isHome, AV.noLoan, AV.cellOK, Value.oneCell', put_at, mk_at, mk_nil, initSt, true_and, and_true, and_self, implies_true, List.map_cons, List.map_nil, List.forall_mem_cons, List.not_mem_nil, false_implies, List.length_cons, List.length_nil, List.getD_cons_zero, List.getD_cons_succ, List.getD_nil, List.drop_succ_cons, List.drop_zero, List.take_succ_cons, List.take_zero, List.set_cons_zero, List.set_cons_succ, List.all_cons, List.all_nil, Bool.and_true, Bool.true_and, Bool.not_true, Bool.not_false, reduceCtorEq, if_true, if_false, Bool.false_eq_true, ↓reduceIte, Nat.reduceEqDiff, Nat.reduceAdd, Nat.reduceSub, Nat.reduceMul, Nat.reduceLeDiff, Nat.reduceLT, ne_eq, not_false_eq_true, not_true_eq_false, Nat.one_ne_zero, Nat.zero_ne_one, r23_0, r23_1, r23_2, r23_3, r23_4, r23_5, r23_6, r23_7, r23_8, r23_9, r23_10, r23_11, r23_12, r23_13, r23_14, r23_15, r23_16, r23_17, r23_18, r23_19, r23_20, r23_21, p23, l23_0, gK, gF, n1, hso, hk0, hw1, q, List.length_map]) | (exfalso; omega)
          all_goals omega
        · rw [if_neg (fun z => q z.2)] at hA
          rw [hA] at hg
          simp only [ne_eq, not_true_eq_false, if_false] at hg
          repeat' first | ((with_reducible (first | refine condD ?_ ?_ | refine condE ?_ ?_ | refine condN ?_ ?_ | refine condI ?_ ?_ | refine condS ?_ ?_)) <;> intro h) | ((with_reducible (first | refine guardD (by with_unfolding_all rfl) ?_ ?_ | refine guardE (by with_unfolding_all rfl) ?_ ?_ | refine guardN (by with_unfolding_all rfl) ?_ ?_ | refine guardI (by with_unfolding_all rfl) ?_ ?_ | refine guardS (by with_unfolding_all rfl) ?_ ?_)) <;> intro h) | ((refine callG h1 ?_)) | ((refine callG (notime_c _) ?_)) | ((refine callG h3 ?_)) | (with_reducible refine And.intro ?_ ?_; omega) | (simp only [done_eq, done_eq', donet_eq, donet_eq', fin_val, fin_tup, fin_agg, fin_ro, res_one, res_more, rv_t, rv_c, rv_l, AV.tup.injEq, AV.agg.injEq, AV.ro.injEq, List.cons.injEq, int_eq, bool_eq, Int.toNat_natCast, Int.reduceToNat, Int.toNat_zero, Int.toNat_one, Int.reduceLE, Int.reduceLT, Int.reduceBEq, Int.reduceBNe, beq_self_eq_true, bne_self_eq_false, decide_true, decide_false,  Int.reduceNeg, toNat_pred, toNat_succ, List.length_map, cnd_t, cnd_f, grd_tt, grd_u, grd_tf, grd_ft, grd_ff, g_skip, g_ops, g_seq, g_block, g_exit, g_ret, x_c, x_o, x_l, x_b, g_b, g_nil, r_all, o_nil, g_cond, o_guard, o_call, o_callm, o_callt, o_callx, o_callv, lk, ef, o_mv, o_pick, o_bin, o_never, o_eqs, o_eqb, o_un, o_conv, o_load, o_loadr, o_idxr, o_loads, o_fld, o_idx, o_idxs, o_len, o_lens, o_ext, o_nilck, o_slc, o_slcs, o_build, o_minmax, o_mkfn, o_alloc, o_box, o_boxs, o_row, o_rowr, o_mk, o_asg, o_app, o_store, o_stores, o_eqnil, hv, eqAV, ev, view_t, view_c, view_nil, view_fn, look_own, look_box, look_junk, look_val, look_nilsl, look_ro, look_roAt, look_agg, look_tup, look_clo, look_alias, look_ref, look_into, rowOf, cellsOf, argv, vbin, vun, bnd, elemOf, putParts, setAt, zav, ASt.rid, ASt.free, AV.kill, AV.isHome, AV.noLoan, AV.cellOK, Value.oneCell', put_at, mk_at, mk_nil, initSt, true_and, and_true, and_self, implies_true, List.map_cons, List.map_nil, List.forall_mem_cons, List.not_mem_nil, false_implies, List.length_cons, List.length_nil, List.getD_cons_zero, List.getD_cons_succ, List.getD_nil, List.drop_succ_cons, List.drop_zero, List.take_succ_cons, List.take_zero, List.set_cons_zero, List.set_cons_succ, List.all_cons, List.all_nil, Bool.and_true, Bool.true_and, Bool.not_true, Bool.not_false, reduceCtorEq, if_true, if_false, Bool.false_eq_true, ↓reduceIte, Nat.reduceEqDiff, Nat.reduceAdd, Nat.reduceSub, Nat.reduceMul, Nat.reduceLeDiff, Nat.reduceLT, ne_eq, not_false_eq_true, not_true_eq_false, Nat.one_ne_zero, Nat.zero_ne_one, r23_0, r23_1, r23_2, r23_3, r23_4, r23_5, r23_6, r23_7, r23_8, r23_9, r23_10, r23_11, r23_12, r23_13, r23_14, r23_15, r23_16, r23_17, r23_18, r23_19, r23_20, r23_21, p23, l23_0, gK, gF, n1, hso, hk0, hw1, q, happ, happ2, List.length_map]) | (exfalso; omega)
          all_goals first | omega | exact again hJ (k + 1, fr ++ [(a : Int)], cu ++ [cv]) (weak_mk (by simp only [wk_cons, wk_nil, wk1, vint_eq, vbool_eq, AV.val.injEq, done_eq, done_eq', donet_eq, donet_eq', fin_val, fin_tup, fin_agg, fin_ro, res_one, res_more, rv_t, rv_c, rv_l, AV.tup.injEq, AV.agg.injEq, AV.ro.injEq, List.cons.injEq, int_eq, bool_eq, Int.toNat_natCast, Int.reduceToNat, Int.toNat_zero, Int.toNat_one, Int.reduceLE, Int.reduceLT, Int.reduceBEq, Int.reduceBNe, beq_self_eq_true, bne_self_eq_false, decide_true, decide_false,  Int.reduceNeg, toNat_pred, toNat_succ, List.length_map, cnd_t, cnd_f, grd_tt, grd_u, grd_tf, grd_ft, grd_ff, g_skip, g_ops, g_seq, g_block, g_exit, g_ret, x_c, x_o, x_l, x_b, g_b, g_nil, r_all, o_nil, g_cond, o_guard, o_call, o_callm, o_callt, o_callx, o_callv, lk, ef, o_mv, o_pick, o_bin, o_never, o_eqs, o_eqb, o_un, o_conv, o_load, o_loadr, o_idxr, o_loads, o_fld, o_idx, o_idxs, o_len, o_lens, o_ext, o_nilck, o_slc, o_slcs, o_build, o_minmax, o_mkfn, o_alloc, o_box, o_boxs, o_row, o_rowr, o_mk, o_asg, o_app, o_store, o_stores, o_eqnil, hv, eqAV, ev, view_t, view_c, view_nil, view_fn, look_own, look_box, look_junk, look_val, look_nilsl, look_ro, look_roAt, look_agg, look_tup, look_clo, look_alias, look_ref, look_into, rowOf, cellsOf, argv, vbin, vun, bnd, elemOf, putParts, setAt, zav, ASt.rid, ASt.free, AV.kill, AV.isHome, AV.noLoan, AV.cellOK, Value.oneCell', put_at, mk_at, mk_nil, initSt, true_and, and_true, and_self, implies_true, List.map_cons, List.map_nil, List.forall_mem_cons, List.not_mem_nil, false_implies, List.length_cons, List.length_nil, List.getD_cons_zero, List.getD_cons_succ, List.getD_nil, List.drop_succ_cons, List.drop_zero, List.take_succ_cons, List.take_zero, List.set_cons_zero, List.set_cons_succ, List.all_cons, List.all_nil, Bool.and_true, Bool.true_and, Bool.not_true, Bool.not_false, reduceCtorEq, if_true, if_false, Bool.false_eq_true, ↓reduceIte, Nat.reduceEqDiff, Nat.reduceAdd, Nat.reduceSub, Nat.reduceMul, Nat.reduceLeDiff, Nat.reduceLT, ne_eq, not_false_eq_true, not_true_eq_false, Nat.one_ne_zero, Nat.zero_ne_one]; first | exact hw | exact ⟨hso.symm, hw⟩)) ⟨by simp only; omega, by simp [hf], by simp [hc], hg⟩ (by simp only; omega)
    · have hA : fstAt r scale B[k] fr = if (findF (placesL r.smps) r.scale B[k] scale).2 then ((((findF (placesL r.smps) r.scale B[k] scale).1.2 : Nat) : Int), (0 : Int)) else ((0 : Int), (9 : Int)) := by
        unfold fstAt
        rw [if_neg hso]
      rw [Bool.not_eq_true] at hso
      generalize findF (placesL r.smps) r.scale B[k] scale = Q at *
      obtain ⟨⟨qt, qs⟩, qb⟩ := Q
      simp only [plAV] at h2
      have happ : fr.map oneI ++ [[.val (.int .i64 (qs : Nat))]] = (fr ++ [(qs : Int)]).map oneI := by rw [List.map_append]; rfl
      cases qb with
      | true =>
        simp only [if_true] at hA
        rw [hA] at hg
        simp only [ne_eq, not_true_eq_false, if_false] at hg
        repeat' first | ((with_reducible (first | refine condD ?_ ?_ | refine condE ?_ ?_ | refine condN ?_ ?_ | refine condI ?_ ?_ | refine condS ?_ ?_)) <;> intro h) | ((with_reducible (first | refine guardD (by with_unfolding_all rfl) ?_ ?_ | refine guardE (by with_unfolding_all rfl) ?_ ?_ | refine guardN (by with_unfolding_all rfl) ?_ ?_ | refine guardI (by with_unfolding_all rfl) ?_ ?_ | refine guardS (by with_unfolding_all rfl) ?_ ?_)) <;> intro h) | ((refine callG h1 ?_)) | ((refine callG (notime_c _) ?_)) | ((refine callG h2 ?_)) | (with_reducible refine And.intro ?_ ?_; omega) | (simp only [done_eq, done_eq', donet_eq, donet_eq', fin_val, fin_tup, fin_agg, fin_ro, res_one, res_more, rv_t, rv_c, rv_l, AV.tup.injEq, AV.agg.injEq, AV.ro.injEq, List.cons.injEq, int_eq, bool_eq, Int.toNat_natCast, Int.reduceToNat, Int.toNat_zero, Int.toNat_one, Int.reduceLE, Int.reduceLT, Int.reduceBEq, Int.reduceBNe, beq_self_eq_true, bne_self_eq_false, decide_true, decide_false,  Int.reduceNeg, toNat_pred, toNat_succ, List.length_map, cnd_t, cnd_f, grd_tt, grd_u, grd_tf, grd_ft, grd_ff, g_skip, g_ops, g_seq, g_block, g_exit, g_ret, x_c, x_o, x_l, x_b, g_b, g_nil, r_all, o_nil, g_cond, o_guard, o_call, o_callm, o_callt, o_callx, o_callv, lk, ef, o_mv, o_pick, o_bin, o_never, o_eqs, o_eqb, o_un, o_conv, o_load, o_loadr, o_idxr, o_loads, o_fld, o_idx, o_idxs, o_len, o_lens, o_ext, o_nilck, o_slc, o_slcs, o_build, o_minmax, o_mkfn, o_alloc, o_box, o_boxs, o_row, o_rowr, o_mk, o_asg, o_app, o_store, o_stores, o_eqnil, hv, eqAV, ev, view_t, view_c, view_nil, view_fn, look_own, look_box, look_junk, look_val, look_nilsl, look_ro, look_roAt, look_agg, look_tup, look_clo, look_alias, look_ref, look_into, rowOf, cellsOf, argv, vbin, vun, bnd, elemOf, putParts, setAt, zav, ASt.rid, ASt.free, AV.kill, AV.isHome, AV.noLoan, AV.cellOK, Value.oneCell', put_at, mk_at, mk_nil, initSt, true_and, and_true, and_self, implies_true, List.map_cons, List.map_nil, List.forall_mem_cons, List.not_mem_nil, false_implies, List.length_cons, List.length_nil, List.getD_cons_zero, List.getD_cons_succ, List.getD_nil, List.drop_succ_cons, List.drop_zero, List.take_succ_cons, List.take_zero, List.set_cons_zero, List.set_cons_succ, List.all_cons, List.all_nil, Bool.and_true, Bool.true_and, Bool.not_true, Bool.not_false, reduceCtorEq, if_true, if_false, Bool.false_eq_true, ↓reduceIte, Nat.reduceEqDiff, Nat.reduceAdd, Nat.reduceSub, Nat.reduceMul, Nat.reduceLeDiff, Nat.reduceLT, ne_eq, not_false_eq_true, not_true_eq_false, Nat.one_ne_zero, Nat.zero_ne_one, r23_0, r23_1, r23_2, r23_3, r23_4, r23_5, r23_6, r23_7, r23_8, r23_9, r23_10, r23_11, r23_12, r23_13, r23_14, r23_15, r23_16, r23_17, r23_18, r23_19, r23_20, r23_21, p23, l23_0, gK, n1, hso, happ, happ2, List.length_map]) | (exfalso; omega)
        all_goals first | omega | exact again hJ (k + 1, fr ++ [(qs : Int)], cu ++ [cv]) (weak_mk (by simp only [wk_cons, wk_nil, wk1, vint_eq, vbool_eq, AV.val.injEq, done_eq, done_eq', donet_eq, donet_eq', fin_val, fin_tup, fin_agg, fin_ro, res_one, res_more, rv_t, rv_c, rv_l, AV.tup.injEq, AV.agg.injEq, AV.ro.injEq, List.cons.injEq, int_eq, bool_eq, Int.toNat_natCast, Int.reduceToNat, Int.toNat_zero, Int.toNat_one, Int.reduceLE, Int.reduceLT, Int.reduceBEq, Int.reduceBNe, beq_self_eq_true, bne_self_eq_false, decide_true, decide_false,  Int.reduceNeg, toNat_pred, toNat_succ, List.length_map, cnd_t, cnd_f, grd_tt, grd_u, grd_tf, grd_ft, grd_ff, g_skip, g_ops, g_seq, g_block, g_exit, g_ret, x_c, x_o, x_l, x_b, g_b, g_nil, r_all, o_nil, g_cond, o_guard, o_call, o_callm, o_callt, o_callx, o_callv, lk, ef, o_mv, o_pick, o_bin, o_never, o_eqs, o_eqb, o_un, o_conv, o_load, o_loadr, o_idxr, o_loads, o_fld, o_idx, o_idxs, o_len, o_lens, o_ext, o_nilck, o_slc, o_slcs, o_build, o_minmax, o_mkfn, o_alloc, o_box, o_boxs, o_row, o_rowr, o_mk, o_asg, o_app, o_store, o_stores, o_eqnil, hv, eqAV, ev, view_t, view_c, view_nil, view_fn, look_own, look_box, look_junk, look_val, look_nilsl, look_ro, look_roAt, look_agg, look_tup, look_clo, look_alias, look_ref, look_into, rowOf, cellsOf, argv, vbin, vun, bnd, elemOf, putParts, setAt, zav, ASt.rid, ASt.free, AV.kill, AV.isHome, AV.noLoan, AV.cellOK, Value.oneCell', put_at, mk_at, mk_nil, initSt, true_and, and_true, and_self, implies_true, List.map_cons, List.map_nil, List.forall_mem_cons, List.not_mem_nil, false_implies, List.length_cons, List.length_nil, List.getD_cons_zero, List.getD_cons_succ, List.getD_nil, List.drop_succ_cons, List.drop_zero, List.take_succ_cons, List.take_zero, List.set_cons_zero, List.set_cons_succ, List.all_cons, List.all_nil, Bool.and_true, Bool.true_and, Bool.not_true, Bool.not_false, reduceCtorEq, if_true, if_false, Bool.false_eq_true, ↓reduceIte, Nat.reduceEqDiff, Nat.reduceAdd, Nat.reduceSub, Nat.reduceMul, Nat.reduceLeDiff, Nat.reduceLT, ne_eq, not_false_eq_true, not_true_eq_false, Nat.one_ne_zero, Nat.zero_ne_one]; first | exact hw | exact ⟨hso.symm, hw⟩)) ⟨by simp only; omega, by simp [hf], by simp [hc], hg⟩ (by simp only; omega)
      | false =>
        simp only [Bool.false_eq_true, if_false] at hA
        rw [hA, if_pos (by decide)] at hg
        subst hg
        repeat' first | ((with_reducible (first | refine condD ?_ ?_ | refine condE ?_ ?_ | refine condN ?_ ?_ | refine condI ?_ ?_ | refine condS ?_ ?_)) <;> intro h) | ((with_reducible (first | refine guardD (by with_unfolding_all rfl) ?_ ?_ | refine guardE (by with_unfolding_all rfl) ?_ ?_ | refine guardN (by with_unfolding_all rfl) ?_ ?_ | refine guardI (by with_unfolding_all rfl) ?_ ?_ | refine guardS (by with_unfolding_all rfl) ?_ ?_)) <;> intro h) | ((refine callG h1 ?_)) | ((refine callG (notime_c _) ?_)) | ((refine callG h2 ?_)) | (with_reducible refine And.intro ?_ ?_; omega) | (simp only [done_eq, done_eq', donet_eq, donet_eq', fin_val, fin_tup, fin_agg, fin_ro, res_one, res_more, rv_t, rv_c, rv_l, AV.tup.injEq, AV.agg.injEq, AV.ro.injEq, List.cons.injEq, int_eq, bool_eq, Int.toNat_natCast, Int.reduceToNat, Int.toNat_zero, Int.toNat_one, Int.reduceLE, Int.reduceLT, Int.reduceBEq, Int.reduceBNe, beq_self_eq_true, bne_self_eq_false, decide_true, decide_false,  Int.reduceNeg, toNat_pred, toNat_succ, List.length_map, cnd_t, cnd_f, grd_tt, grd_u, grd_tf, grd_ft, grd_ff, g_skip, g_ops, g_seq, g_block, g_exit, g_ret, x_c, x_o, x_l, x_b, g_b, g_nil, r_all, o_nil, g_cond, o_guard, o_call, o_callm, o_callt, o_callx, o_callv, lk, ef, o_mv, o_pick, o_bin, o_never, o_eqs, o_eqb, o_un, o_conv, o_load, o_loadr, o_idxr, o_loads, o_fld, o_idx, o_idxs, o_len, o_lens, o_ext, o_nilck, o_slc, o_slcs, o_build, o_minmax, o_mkfn, o_alloc, o_box, o_boxs, o_row, o_rowr, o_mk, o_asg, o_app, o_store, o_stores, o_eqnil, hv, eqAV, ev, view_t, view_c, view_nil, view_fn, look_own, look_box, look_junk, look_val, look_nilsl, look_ro, look_roAt, look_agg, look_tup, look_clo, look_alias, look_ref, look_into, rowOf, cellsOf, argv, vbin, vun, bnd, elemOf, putParts, setAt, zav, ASt.rid, ASt.free, AV.kill, AV.isHome, AV.noLoan, AV.cellOK, Value.oneCell', put_at, mk_at, mk_nil, initSt, true_and, and_true, and_self, implies_true, List.map_cons, List.map_nil, List.forall_mem_cons, List.not_mem_nil, false_implies, List.length_cons, List.length_nil, List.getD_cons_zero, List.getD_cons_succ, List.getD_nil, List.drop_succ_cons, List.drop_zero, List.take_succ_cons, List.take_zero, List.set_cons_zero, List.set_cons_succ, List.all_cons, List.all_nil, Bool.and_true, Bool.true_and, Bool.not_true, Bool.not_false, reduceCtorEq, if_true, if_false, Bool.false_eq_true, ↓reduceIte, Nat.reduceEqDiff, Nat.reduceAdd, Nat.reduceSub, Nat.reduceMul, Nat.reduceLeDiff, Nat.reduceLT, ne_eq, not_false_eq_true, not_true_eq_false, Nat.one_ne_zero, Nat.zero_ne_one, r23_0, r23_1, r23_2, r23_3, r23_4, r23_5, r23_6, r23_7, r23_8, r23_9, r23_10, r23_11, r23_12, r23_13, r23_14, r23_15, r23_16, r23_17, r23_18, r23_19, r23_20, r23_21, p23, l23_0, gK, n1, hso, List.length_map]) | (exfalso; omega)
  · have hke : k = B.length := by omega
    subst hke
    rw [List.drop_length, fstGo] at hg
    subst hg
    clear hJ
    repeat' first | ((with_reducible (first | refine condD ?_ ?_ | refine condE ?_ ?_ | refine condN ?_ ?_ | refine condI ?_ ?_ | refine condS ?_ ?_)) <;> intro h) | ((with_reducible (first | refine guardD (by with_unfolding_all rfl) ?_ ?_ | refine guardE (by with_unfolding_all rfl) ?_ ?_ | refine guardN (by with_unfolding_all rfl) ?_ ?_ | refine guardI (by with_unfolding_all rfl) ?_ ?_ | refine guardS (by with_unfolding_all rfl) ?_ ?_)) <;> intro h) | (with_reducible refine And.intro ?_ ?_; omega) | (simp only [done_eq, done_eq', donet_eq, donet_eq', fin_val, fin_tup, fin_agg, fin_ro, res_one, res_more, rv_t, rv_c, rv_l, AV.tup.injEq, AV.agg.injEq, AV.ro.injEq, List.cons.injEq, int_eq, bool_eq, Int.toNat_natCast, Int.reduceToNat, Int.toNat_zero, Int.toNat_one, Int.reduceLE, Int.reduceLT, Int.reduceBEq, Int.reduceBNe, beq_self_eq_true, bne_self_eq_false, decide_true, decide_false,  Int.reduceNeg, toNat_pred, toNat_succ, List.length_map, cnd_t, cnd_f, grd_tt, grd_u, grd_tf, grd_ft, grd_ff, g_skip, g_ops, g_seq, g_block, g_exit, g_ret, x_c, x_o, x_l, x_b, g_b, g_nil, r_all, o_nil, g_cond, o_guard, o_call, o_callm, o_callt, o_callx, o_callv, lk, ef, o_mv, o_pick, o_bin, o_never, o_eqs, o_eqb, o_un, o_conv, o_load, o_loadr, o_idxr, o_loads, o_fld, o_idx, o_idxs, o_len, o_lens, o_ext, o_nilck, o_slc, o_slcs, o_build, o_minmax, o_mkfn, o_alloc, o_box, o_boxs, o_row, o_rowr, o_mk, o_asg, o_app, o_store, o_stores, o_eqnil, hv, eqAV, ev, view_t, view_c, view_nil, view_fn, look_own, look_box, look_junk, look_val, look_nilsl, look_ro, look_roAt, look_agg, look_tup, look_clo, look_alias, look_ref, look_into, rowOf, cellsOf, argv, vbin, vun, bnd, elemOf, putParts, setAt, zav, ASt.rid, ASt.free, AV.kill, AV.isHome, AV.noLoan, AV.cellOK, Value.oneCell', put_at, mk_at, mk_nil, initSt, true_and, and_true, and_self, implies_true, List.map_cons, List.map_nil, List.forall_mem_cons, List.not_mem_nil, false_implies, List.length_cons, List.length_nil, List.getD_cons_zero, List.getD_cons_succ, List.getD_nil, List.drop_succ_cons, List.drop_zero, List.take_succ_cons, List.take_zero, List.set_cons_zero, List.set_cons_succ, List.all_cons, List.all_nil, Bool.and_true, Bool.true_and, Bool.not_true, Bool.not_false, reduceCtorEq, if_true, if_false, Bool.false_eq_true, ↓reduceIte, Nat.reduceEqDiff, Nat.reduceAdd, Nat.reduceSub, Nat.reduceMul, Nat.reduceLeDiff, Nat.reduceLT, ne_eq, not_false_eq_true, not_true_eq_false, Nat.one_ne_zero, Nat.zero_ne_one, r23_0, r23_1, r23_2, r23_3, r23_4, r23_5, r23_6, r23_7, r23_8, r23_9, r23_10, r23_11, r23_12, r23_13, r23_14, r23_15, r23_16, r23_17, r23_18, r23_19, r23_20, r23_21, p23, l23_0]) | (exfalso; omega)
end Go.Proofs.Ytjeemcpdmiajmaa
