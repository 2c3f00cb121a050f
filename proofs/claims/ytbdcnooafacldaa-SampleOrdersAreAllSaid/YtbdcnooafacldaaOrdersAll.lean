/- SampleOrdersAreAll: the order of presentation has each sample once, and no later one is presented before an earlier one, nor does it end before it begins. For every input; no condition. -/
import Derived.Test.YtbdcnooafacldaaKStabF
import Derived.Test.YtbdcnooafacldaaRows
namespace Go.Proofs.Ytbdcnooafacldaa
open Go.RowKit
open Go.Proofs.Ytbdcnooafacldaa renaming done_eq → Z0, done_eq' → Z1, donet_eq → Z2, donet_eq' → Z3, fin_val → Z4, fin_tup → Z5, fin_agg → Z6, fin_ro → Z7, res_one → Z8, res_more → Z9, rv_t → Za, rv_c → Zb, rv_l → Zc, int_eq → Zg, bool_eq → Zh, toNat_pred → Zr, toNat_succ → Zs, cnd_t → Zu, cnd_f → Zv, grd_tt → Zw, grd_u → Zx, grd_tf → Zy, grd_ft → Zz, grd_ff → Y0, g_skip → Y1, g_ops → Y2, g_seq → Y3, g_block → Y4, g_exit → Y5, g_ret → Y6, x_c → Y7, x_o → Y8, x_l → Y9, x_b → Ya, g_b → Yb, g_nil → Yc, r_all → Yd, o_nil → Ye, g_cond → Yf, o_guard → Yg, o_call → Yh, o_callm → Yi, o_callt → Yj, o_callx → Yk, o_callv → Yl, o_callc → Ym, o_callh → Yn, o_apph → Yo, noav_alias → Yp, noav_nil → Yq, o_mv → Yr, o_pick → Ys, o_bin → Yt, o_never → Yu, o_eqs → Yv, o_eqb → Yw, o_un → Yx, o_conv → Yy, o_load → Yz, o_loadr → X0, o_idxr → X1, o_loads → X2, o_loadsr → X3, o_fld → X4, o_idx → X5, o_idxs → X6, o_len → X7, o_lens → X8, o_ext → X9, o_nilck → Xa, o_slc → Xb, o_slcs → Xc, o_build → Xd, o_minmax → Xe, o_mkfn → Xf, o_mkfnr → Xg, o_alloc → Xh, o_box → Xi, o_boxs → Xj, o_row → Xk, o_rowr → Xl, o_mk → Xm, o_asg → Xn, o_app → Xo, o_appa → Xp, o_store → Xq, o_stores → Xr, o_eqnil → Xs, eqAV → Xt, view_t → Xu, view_c → Xv, view_nil → Xw, view_fn → Xx, look_own → Xy, look_box → Xz, look_junk → W0, look_val → W1, look_nilsl → W2, look_ro → W3, look_roAt → W4, look_agg → W5, look_tup → W6, look_clo → W7, look_alias → W8, look_ref → W9, look_into → Wa, look_fnv → Wb, look_held → Wc, rowOf → Wd, cellsOf → We, argv → Wf, vbin → Wg, vun → Wh, bnd → Wi, elemOf → Wj, putParts → Wk, setAt → Wl, zav → Wm, put_at → Wu, mk_at → Wv, mk_nil → Ww, initSt → Wx, wk_cons → Vt, wk_nil → Vu, vint_eq → Vv, vbool_eq → Vw
open Go.Proofs.Ytbdcnooafacldaa.AV.tup renaming injEq → Zd
open Go.Proofs.Ytbdcnooafacldaa.AV.agg renaming injEq → Ze
open Go.Proofs.Ytbdcnooafacldaa.AV.ro renaming injEq → Zf
open _root_.Int renaming toNat_natCast → Zi, reduceToNat → Zj, toNat_zero → Zk, toNat_one → Zl, reduceLE → Zm, reduceLT → Zn, reduceBEq → Zo, reduceBNe → Zp, reduceNeg → Zq
open _root_.List renaming length_map → Zt, map_cons → Wy, map_nil → Wz, forall_mem_cons → V0, not_mem_nil → V1, length_cons → V2, length_nil → V3, getD_cons_zero → V4, getD_cons_succ → V5, getD_nil → V6, drop_succ_cons → V7, drop_zero → V8, take_succ_cons → V9, take_zero → Va, set_cons_zero → Vb, set_cons_succ → Vc, all_cons → Vd, all_nil → Ve
open Go.Proofs.Ytbdcnooafacldaa.ASt renaming rid → Wn, hold → Wo, free → Wp
open Go.Proofs.Ytbdcnooafacldaa.AV renaming kill → Wq, isHome → Wr, noLoan → Ws, cellOK → Wt
open _root_.Bool renaming and_true → Vf, true_and → Vg, not_true → Vh, not_false → Vi, false_eq_true → Vj
open _root_.Nat renaming reduceEqDiff → Vk, reduceBNe → Vl, reduceAdd → Vm, reduceSub → Vn, reduceMul → Vo, reduceLeDiff → Vp, reduceLT → Vq, one_ne_zero → Vr, zero_ne_one → Vs
open Go.Proofs.Ytbdcnooafacldaa.AV.val renaming injEq → Vx
set_option linter.unusedSimpArgs false
--@short

theorem end_ge {l : List Smp} (hb : ∀ s ∈ l, badSmp s = false) {k : Nat} (h : k < l.length) : (presL l)[k]'(by rw [presL_len]; exact h) ≤ (endsL l)[k]'(by rw [endsL_len]; exact h) := by
  have b := badSmp_bd (hb l[k] (List.getElem_mem h))
  rw [pres_get h]
  simp only [endsL, List.getElem_map, endOf]
  rcases nextI_is (presL l) (l[k].time + l[k].shift) with ⟨h1, _⟩ | ⟨e, h1, _, h2, _⟩
  · rw [h1, Option.getD_none]; omega
  · rw [h1, Option.getD_some]; omega
/-- Which samples have been seen among the first k of the order. -/
def seenR (O : List Int) (k n : Nat) : List (List AV) := (List.range n).map fun (i : Nat) => [.val (.bool (decide ((i : Int) ∈ O.take k)))]
theorem seen_len (O : List Int) (k n : Nat) : (seenR O k n).length = n := by simp [seenR]
theorem seen_0 (O : List Int) (n : Nat) : List.replicate n [AV.val (.bool false)] = seenR O 0 n := by
  refine List.ext_getElem (by simp [seenR]) fun i h1 h2 => ?_
  simp [seenR]
theorem seen_get (O : List Int) (k : Nat) {n i : Nat} (h : i < n) : (seenR O k n).getD i [] = [.val (.bool (decide ((i : Int) ∈ O.take k)))] := by
  rw [getD_in (by rw [seen_len]; exact h)]
  simp [seenR]
theorem seen_set {O : List Int} {k n : Nat} (h : k < O.length) (h0 : 0 ≤ O[k]) : (seenR O k n).set O[k].toNat [.val (.bool true)] = seenR O (k + 1) n := by
  refine List.ext_getElem (by simp [seenR]) fun i h1 h2 => ?_
  rw [List.getElem_set]
  simp only [seenR, List.getElem_map, List.getElem_range]
  have key : ((i : Int) ∈ O.take (k + 1)) ↔ ((i : Int) ∈ O.take k ∨ (i : Int) = O[k]) := by
    rw [List.take_succ_eq_append_getElem h, List.mem_append, List.mem_singleton]
  rw [decide_eq_decide.2 key]
  split
  · rename_i e
    have : (i : Int) = O[k] := by omega
    rw [decide_eq_true (Or.inr this)]
  · rename_i e
    have : ¬ (i : Int) = O[k] := by omega
    rw [decide_eq_decide.2 (or_iff_left this)]
theorem seen_no {O : List Int} (hn : O.Nodup) {k : Nat} (h : k < O.length) : O[k] ∉ O.take k := by
  intro hm
  obtain ⟨i, hi, e⟩ := List.getElem_of_mem hm
  rw [List.getElem_take] at e
  rw [List.length_take] at hi
  exact List.pairwise_iff_getElem.1 hn i k (by omega) h (by omega) e
theorem ord_nodup (l : List Smp) : (ordL l).Nodup := by
  rw [ordL, (srt_perm _ _).nodup_iff]
  exact (idxI_inc _).imp fun h => by omega
/-! headend/headendlaw3.SampleOrdersAreAll -/
def r3_0 : List POp := [⟨2, .asg (.c (.bool false)), none⟩]
def r3_1 : List POp := [⟨12, .mv (.t 0), none⟩,
  ⟨13, .call 5 [.t 12], none⟩,
  ⟨11, .mv (.t 13), none⟩,
  ⟨14, .ext 0 (.t 11), none⟩,
  ⟨15, .ext 1 (.t 11), none⟩,
  ⟨3, .asg (.t 14), none⟩,
  ⟨4, .mv (.t 15), none⟩]
def r3_2 : List POp := [⟨17, .mv (.t 0), none⟩,
  ⟨18, .call 6 [.t 17], none⟩,
  ⟨16, .mv (.t 18), none⟩,
  ⟨19, .ext 0 (.t 16), none⟩,
  ⟨20, .ext 1 (.t 16), none⟩,
  ⟨5, .asg (.t 19), none⟩,
  ⟨6, .mv (.t 20), none⟩]
def r3_3 : List POp := [⟨22, .mv (.t 0), none⟩,
  ⟨23, .call 7 [.t 22], none⟩,
  ⟨21, .mv (.t 23), none⟩,
  ⟨24, .ext 0 (.t 21), none⟩,
  ⟨25, .ext 1 (.t 21), none⟩,
  ⟨7, .asg (.t 24), none⟩,
  ⟨8, .mv (.t 25), none⟩]
def r3_4 : List POp := [⟨26, .mv (.t 4), none⟩,
  ⟨27, .bin .neq (.t 26) (.c (.int .i64 0)), none⟩,
  ⟨28, .mv (.t 27), none⟩,
  ⟨29, .mv (.t 6), some (28, false)⟩,
  ⟨30, .bin .neq (.t 29) (.c (.int .i64 0)), some (28, false)⟩,
  ⟨31, .pick (.t 28) (.c (.bool true)) (.t 30), none⟩,
  ⟨32, .mv (.t 31), none⟩,
  ⟨33, .mv (.t 8), some (32, false)⟩,
  ⟨34, .bin .neq (.t 33) (.c (.int .i64 0)), some (32, false)⟩,
  ⟨35, .pick (.t 32) (.c (.bool true)) (.t 34), none⟩]
def r3_5 : List POp := [⟨36, .mv (.t 3), none⟩,
  ⟨37, .len (.t 36), none⟩,
  ⟨38, .bin .eql (.t 37) (.c (.int .i64 0)), none⟩,
  ⟨39, .mv (.t 38), none⟩,
  ⟨40, .mv (.t 5), some (39, true)⟩,
  ⟨41, .len (.t 40), some (39, true)⟩,
  ⟨42, .bin .eql (.t 41) (.c (.int .i64 0)), some (39, true)⟩,
  ⟨43, .pick (.t 39) (.t 42) (.c (.bool false)), none⟩,
  ⟨44, .mv (.t 43), none⟩,
  ⟨45, .mv (.t 7), some (44, true)⟩,
  ⟨46, .len (.t 45), some (44, true)⟩,
  ⟨47, .bin .eql (.t 46) (.c (.int .i64 0)), some (44, true)⟩,
  ⟨48, .pick (.t 44) (.t 47) (.c (.bool false)), none⟩,
  ⟨49, .mv (.t 48), none⟩,
  ⟨50, .call 8 [], some (49, true)⟩,
  ⟨51, .pick (.t 49) (.t 50) (.c (.bool false)), none⟩,
  ⟨2, .asg (.t 51), none⟩]
def r3_6 : List POp := [⟨52, .mv (.t 3), none⟩,
  ⟨53, .len (.t 52), none⟩,
  ⟨54, .mv (.t 0), none⟩,
  ⟨55, .len (.t 54), none⟩,
  ⟨56, .bin .neq (.t 53) (.t 55), none⟩,
  ⟨57, .mv (.t 56), none⟩,
  ⟨58, .mv (.t 5), some (57, false)⟩,
  ⟨59, .len (.t 58), some (57, false)⟩,
  ⟨60, .mv (.t 0), some (57, false)⟩,
  ⟨61, .len (.t 60), some (57, false)⟩,
  ⟨62, .bin .neq (.t 59) (.t 61), some (57, false)⟩,
  ⟨63, .pick (.t 57) (.c (.bool true)) (.t 62), none⟩,
  ⟨64, .mv (.t 63), none⟩,
  ⟨65, .mv (.t 7), some (64, false)⟩,
  ⟨66, .len (.t 65), some (64, false)⟩,
  ⟨67, .mv (.t 0), some (64, false)⟩,
  ⟨68, .len (.t 67), some (64, false)⟩,
  ⟨69, .bin .neq (.t 66) (.t 68), some (64, false)⟩,
  ⟨70, .pick (.t 64) (.c (.bool true)) (.t 69), none⟩]
def r3_7 : List POp := [⟨2, .asg (.c (.bool false)), none⟩]
def r3_8 : List POp := [⟨71, .mv (.t 0), none⟩,
  ⟨72, .len (.t 71), none⟩,
  ⟨73, .mk 4 1 1 [.bool false] (.t 72) (.t 72), none⟩,
  ⟨9, .asg (.t 73), none⟩]
def r3_9 : List POp := [⟨10, .asg (.c (.int .i64 0)), none⟩]
def r3_10 : List POp := [⟨74, .mv (.t 10), none⟩,
  ⟨75, .mv (.t 3), none⟩,
  ⟨76, .len (.t 75), none⟩,
  ⟨77, .bin .lss (.t 74) (.t 76), none⟩]
def r3_12 : List POp := [⟨80, .mv (.t 3), none⟩,
  ⟨81, .mv (.t 10), none⟩,
  ⟨82, .idx 1 (.t 80) (.t 81), none⟩,
  ⟨83, .load (.t 82), none⟩,
  ⟨84, .bin .lss (.t 83) (.c (.int .i64 0)), none⟩,
  ⟨85, .mv (.t 84), none⟩,
  ⟨86, .mv (.t 3), some (85, false)⟩,
  ⟨87, .mv (.t 10), some (85, false)⟩,
  ⟨88, .idx 1 (.t 86) (.t 87), some (85, false)⟩,
  ⟨89, .load (.t 88), some (85, false)⟩,
  ⟨90, .mv (.t 0), some (85, false)⟩,
  ⟨91, .len (.t 90), some (85, false)⟩,
  ⟨92, .bin .geq (.t 89) (.t 91), some (85, false)⟩,
  ⟨93, .pick (.t 85) (.c (.bool true)) (.t 92), none⟩,
  ⟨94, .mv (.t 93), none⟩,
  ⟨95, .mv (.t 9), some (94, false)⟩,
  ⟨96, .mv (.t 3), some (94, false)⟩,
  ⟨97, .mv (.t 10), some (94, false)⟩,
  ⟨98, .idx 1 (.t 96) (.t 97), some (94, false)⟩,
  ⟨99, .load (.t 98), some (94, false)⟩,
  ⟨100, .idx 1 (.t 95) (.t 99), some (94, false)⟩,
  ⟨101, .load (.t 100), some (94, false)⟩,
  ⟨102, .pick (.t 94) (.c (.bool true)) (.t 101), none⟩,
  ⟨103, .mv (.t 102), none⟩,
  ⟨104, .mv (.t 7), some (103, false)⟩,
  ⟨105, .mv (.t 10), some (103, false)⟩,
  ⟨106, .idx 1 (.t 104) (.t 105), some (103, false)⟩,
  ⟨107, .load (.t 106), some (103, false)⟩,
  ⟨108, .mv (.t 5), some (103, false)⟩,
  ⟨109, .mv (.t 10), some (103, false)⟩,
  ⟨110, .idx 1 (.t 108) (.t 109), some (103, false)⟩,
  ⟨111, .load (.t 110), some (103, false)⟩,
  ⟨112, .bin .lss (.t 107) (.t 111), some (103, false)⟩,
  ⟨113, .pick (.t 103) (.c (.bool true)) (.t 112), none⟩]
def r3_13 : List POp := [⟨2, .asg (.c (.bool false)), none⟩]
def r3_14 : List POp := [⟨114, .mv (.t 9), none⟩,
  ⟨115, .mv (.t 3), none⟩,
  ⟨116, .mv (.t 10), none⟩,
  ⟨117, .idx 1 (.t 115) (.t 116), none⟩,
  ⟨118, .load (.t 117), none⟩,
  ⟨119, .idx 1 (.t 114) (.t 118), none⟩,
  ⟨0, .store (.t 119) (.c (.bool true)), none⟩]
def r3_15 : List POp := [⟨120, .mv (.t 10), none⟩,
  ⟨121, .bin .gtr (.t 120) (.c (.int .i64 0)), none⟩,
  ⟨122, .mv (.t 121), none⟩,
  ⟨123, .mv (.t 5), some (122, true)⟩,
  ⟨124, .mv (.t 3), some (122, true)⟩,
  ⟨125, .mv (.t 10), some (122, true)⟩,
  ⟨126, .idx 1 (.t 124) (.t 125), some (122, true)⟩,
  ⟨127, .load (.t 126), some (122, true)⟩,
  ⟨128, .idx 1 (.t 123) (.t 127), some (122, true)⟩,
  ⟨129, .load (.t 128), some (122, true)⟩,
  ⟨130, .mv (.t 5), some (122, true)⟩,
  ⟨131, .mv (.t 3), some (122, true)⟩,
  ⟨132, .mv (.t 10), some (122, true)⟩,
  ⟨133, .bin .sub (.t 132) (.c (.int .i64 1)), some (122, true)⟩,
  ⟨134, .idx 1 (.t 131) (.t 133), some (122, true)⟩,
  ⟨135, .load (.t 134), some (122, true)⟩,
  ⟨136, .idx 1 (.t 130) (.t 135), some (122, true)⟩,
  ⟨137, .load (.t 136), some (122, true)⟩,
  ⟨138, .bin .lss (.t 129) (.t 137), some (122, true)⟩,
  ⟨139, .mv (.t 138), some (122, true)⟩,
  ⟨140, .mv (.t 5), some (139, false)⟩,
  ⟨141, .mv (.t 3), some (139, false)⟩,
  ⟨142, .mv (.t 10), some (139, false)⟩,
  ⟨143, .idx 1 (.t 141) (.t 142), some (139, false)⟩,
  ⟨144, .load (.t 143), some (139, false)⟩,
  ⟨145, .idx 1 (.t 140) (.t 144), some (139, false)⟩,
  ⟨146, .load (.t 145), some (139, false)⟩,
  ⟨147, .mv (.t 5), some (139, false)⟩,
  ⟨148, .mv (.t 3), some (139, false)⟩,
  ⟨149, .mv (.t 10), some (139, false)⟩,
  ⟨150, .bin .sub (.t 149) (.c (.int .i64 1)), some (139, false)⟩,
  ⟨151, .idx 1 (.t 148) (.t 150), some (139, false)⟩,
  ⟨152, .load (.t 151), some (139, false)⟩,
  ⟨153, .idx 1 (.t 147) (.t 152), some (139, false)⟩,
  ⟨154, .load (.t 153), some (139, false)⟩,
  ⟨155, .bin .eql (.t 146) (.t 154), some (139, false)⟩,
  ⟨156, .mv (.t 155), some (139, false)⟩,
  ⟨157, .mv (.t 3), some (156, true)⟩,
  ⟨158, .mv (.t 10), some (156, true)⟩,
  ⟨159, .idx 1 (.t 157) (.t 158), some (156, true)⟩,
  ⟨160, .load (.t 159), some (156, true)⟩,
  ⟨161, .mv (.t 3), some (156, true)⟩,
  ⟨162, .mv (.t 10), some (156, true)⟩,
  ⟨163, .bin .sub (.t 162) (.c (.int .i64 1)), some (156, true)⟩,
  ⟨164, .idx 1 (.t 161) (.t 163), some (156, true)⟩,
  ⟨165, .load (.t 164), some (156, true)⟩,
  ⟨166, .bin .lss (.t 160) (.t 165), some (156, true)⟩,
  ⟨167, .pick (.t 156) (.t 166) (.c (.bool false)), some (139, false)⟩,
  ⟨168, .pick (.t 139) (.c (.bool true)) (.t 167), some (122, true)⟩,
  ⟨169, .pick (.t 122) (.t 168) (.c (.bool false)), none⟩]
def r3_16 : List POp := [⟨2, .asg (.c (.bool false)), none⟩]
def r3_11 : List POp := [⟨78, .mv (.t 10), none⟩,
  ⟨79, .bin .add (.t 78) (.c (.int .i64 1)), none⟩,
  ⟨10, .asg (.t 79), none⟩]
def r3_17 : List POp := [⟨170, .call 8 [], none⟩,
  ⟨2, .asg (.t 170), none⟩]
def l3_0 : PCode := .seq (.seq (.ops r3_10) (.cond (.t 77) (.skip) (.exit 0))) (.seq (.block 1 (.seq (.seq (.ops r3_12) (.cond (.t 113) (.seq (.ops r3_13) (.ret)) (.skip))) (.seq (.ops r3_14) (.seq (.ops r3_15) (.cond (.t 169) (.seq (.ops r3_16) (.ret)) (.skip)))))) (.ops r3_11))
def p3 : PCode := .seq (.ops r3_0) (.seq (.ops r3_1) (.seq (.ops r3_2) (.seq (.ops r3_3) (.seq (.seq (.ops r3_4) (.cond (.t 35) (.seq (.ops r3_5) (.ret)) (.skip))) (.seq (.seq (.ops r3_6) (.cond (.t 70) (.seq (.ops r3_7) (.ret)) (.skip))) (.seq (.ops r3_8) (.seq (.seq (.ops r3_9) (.block 0 (.loop l3_0))) (.seq (.ops r3_17) (.ret)))))))))
theorem ok3 : okFunc Try.prog 3 [.t 2] 1 p3 = true := by kernel_rfl
set_option maxHeartbeats 4000000 in
set_option maxRecDepth 30000 in
theorem ordersall_d (l : List Smp) : CallOK Try.prog 3 [.ro (l.map Smp.av)] (.val (.bool true)) := by
  refine call_of mixed ok3 rfl ?_
  have k1 := order_c l
  have k2 := presF_c l
  have k3 := endsF_c l
  by_cases h0 : smpF l = 0
  case neg =>
    have e1 : ordF l = ([], smpF l) := by simp [ordF, h0]
    have e2 : presF l = ([], smpF l) := by simp [presF, h0]
    have e3 : endsF l = ([], smpF l) := by simp [endsF, h0]
    rw [e1] at k1
    rw [e2] at k2
    rw [e3] at k3
    repeat' first | ((with_reducible (first | refine condD ?_ ?_ | refine condE ?_ ?_ | refine condN ?_ ?_ | refine condI ?_ ?_ | refine condS ?_ ?_)) <;> intro h) | ((with_reducible (first | refine guardD (by with_unfolding_all rfl) ?_ ?_ | refine guardE (by with_unfolding_all rfl) ?_ ?_ | refine guardN (by with_unfolding_all rfl) ?_ ?_ | refine guardI (by with_unfolding_all rfl) ?_ ?_ | refine guardS (by with_unfolding_all rfl) ?_ ?_)) <;> intro h) | ((refine callG k1 ?_)) | ((refine callG k2 ?_)) | ((refine callG k3 ?_)) | ((refine callG awake3_c ?_)) | (with_reducible refine And.intro ?_ ?_; omega) | (simp only [Z0,Z1,Z2,Z3,Z4,Z5,Z6,Z7,Z8,Z9,Za,Zb,Zc,Zd,Ze,Zf,List.cons.injEq,Zg,Zh,Zi,Zj,Zk,Zl,Zm,Zn,Zo,Zp,beq_self_eq_true,bne_self_eq_false,decide_true,decide_false,Zq,Zr,Zs,Zt,Zu,Zv,Zw,Zx,Zy,Zz,Y0,Y1,Y2,Y3,Y4,Y5,Y6,Y7,Y8,Y9,Ya,Yb,Yc,Yd,Ye,Yf,Yg,Yh,Yi,Yj,Yk,Yl,Ym,Yn,Yo,Yp,Yq,lk,ef,Yr,Ys,Yt,Yu,Yv,Yw,Yx,Yy,Yz,X0,X1,X2,X3,X4,X5,X6,X7,X8,X9,Xa,Xb,Xc,Xd,Xe,Xf,Xg,Xh,Xi,Xj,Xk,Xl,Xm,Xn,Xo,Xp,Xq,Xr,Xs,hv,Xt,ev,Xu,Xv,Xw,Xx,Xy,Xz,W0,W1,W2,W3,W4,W5,W6,W7,W8,W9,Wa,Wb,Wc,Wd,We,Wf,Wg,Wh,Wi,Wj,Wk,Wl,Wm,Wn,Wo,Wp,Wq,Wr,Ws,Wt,Value.oneCell',Wu,Wv,Ww,Wx,true_and,and_true,and_self,implies_true,Wy,Wz,V0,V1,false_implies,V2,V3,V4,V5,V6,V7,V8,V9,Va,Vb,Vc,Vd,Ve,Vf,Vg,Vh,Vi,reduceCtorEq,if_true,if_false,Vj,↓reduceIte,Vk,Vl,Vm,Vn,Vo,Vp,Vq,ne_eq,not_false_eq_true,not_true_eq_false,Vr,Vs,r3_0,r3_1,r3_2,r3_3,r3_4,r3_5,r3_6,r3_7,r3_8,r3_9,r3_10,r3_12,r3_13,r3_14,r3_15,r3_16,r3_11,r3_17,p3,bne0_t h0,beq0_f h0]) | (exfalso; omega)
  obtain ⟨hl, hb, _⟩ := smpF_0 h0
  have e1 : ordF l = (ordL l, 0) := by simp [ordF, h0]
  have e2 : presF l = (presL l, 0) := by simp [presF, h0]
  have e3 : endsF l = (endsL l, 0) := by simp [endsF, h0]
  rw [e1] at k1
  rw [e2] at k2
  rw [e3] at k3
  have hOl := ordL_len l
  have hPl := presL_len l
  have hEl := endsL_len l
  have hge : ∀ k, k < l.length → (presL l).getD k 0 ≤ (endsL l).getD k 0 := fun k h => by
    rw [getD_in (by rw [presL_len]; exact h), getD_in (by rw [endsL_len]; exact h)]; exact end_ge hb h
  have hnd := ord_nodup l
  have hin : ∀ x ∈ ordL l, 0 ≤ x ∧ x < l.length := fun x hx => by rw [ordL, srt_mem] at hx; exact idxI_mem.1 hx
  have hsr : SrtK (fK (presL l)) (ordL l) := srt_srt _ _
  clear e1 e2 e3
  generalize ordL l = O at *
  generalize endsL l = E at *
  generalize presL l = P at *
  have hat : ∀ x : Int, 0 ≤ x ∧ x < l.length → (P.map oneI).getD x.toNat [] = [.val (.int .i64 (fK P x))] := fun x hx => one_get (fk_at (by omega))
  generalize fK P = f at *
  repeat' first | ((with_reducible (first | refine condD ?_ ?_ | refine condE ?_ ?_ | refine condN ?_ ?_ | refine condI ?_ ?_ | refine condS ?_ ?_)) <;> intro h) | ((with_reducible (first | refine guardD (by with_unfolding_all rfl) ?_ ?_ | refine guardE (by with_unfolding_all rfl) ?_ ?_ | refine guardN (by with_unfolding_all rfl) ?_ ?_ | refine guardI (by with_unfolding_all rfl) ?_ ?_ | refine guardS (by with_unfolding_all rfl) ?_ ?_)) <;> intro h) | ((refine callG k1 ?_)) | ((refine callG k2 ?_)) | ((refine callG k3 ?_)) | (with_reducible refine And.intro ?_ ?_; omega) | (simp only [Z0,Z1,Z2,Z3,Z4,Z5,Z6,Z7,Z8,Z9,Za,Zb,Zc,Zd,Ze,Zf,List.cons.injEq,Zg,Zh,Zi,Zj,Zk,Zl,Zm,Zn,Zo,Zp,beq_self_eq_true,bne_self_eq_false,decide_true,decide_false,Zq,Zr,Zs,Zt,Zu,Zv,Zw,Zx,Zy,Zz,Y0,Y1,Y2,Y3,Y4,Y5,Y6,Y7,Y8,Y9,Ya,Yb,Yc,Yd,Ye,Yf,Yg,Yh,Yi,Yj,Yk,Yl,Ym,Yn,Yo,Yp,Yq,lk,ef,Yr,Ys,Yt,Yu,Yv,Yw,Yx,Yy,Yz,X0,X1,X2,X3,X4,X5,X6,X7,X8,X9,Xa,Xb,Xc,Xd,Xe,Xf,Xg,Xh,Xi,Xj,Xk,Xl,Xm,Xn,Xo,Xp,Xq,Xr,Xs,hv,Xt,ev,Xu,Xv,Xw,Xx,Xy,Xz,W0,W1,W2,W3,W4,W5,W6,W7,W8,W9,Wa,Wb,Wc,Wd,We,Wf,Wg,Wh,Wi,Wj,Wk,Wl,Wm,Wn,Wo,Wp,Wq,Wr,Ws,Wt,Value.oneCell',Wu,Wv,Ww,Wx,true_and,and_true,and_self,implies_true,Wy,Wz,V0,V1,false_implies,V2,V3,V4,V5,V6,V7,V8,V9,Va,Vb,Vc,Vd,Ve,Vf,Vg,Vh,Vi,reduceCtorEq,if_true,if_false,Vj,↓reduceIte,Vk,Vl,Vm,Vn,Vo,Vp,Vq,ne_eq,not_false_eq_true,not_true_eq_false,Vr,Vs,r3_0,r3_1,r3_2,r3_3,r3_4,r3_5,r3_6,r3_7,r3_8,r3_9,r3_10,r3_12,r3_13,r3_14,r3_15,r3_16,r3_11,r3_17,p3,hOl,hPl,hEl,List.length_map]) | (exfalso; omega)
  refine loopS (fun k : Nat => mk [(0, .ro (l.map Smp.av)), (3, .ro (O.map oneI)), (5, .ro (P.map oneI)), (7, .ro (E.map oneI)), (9, .own 4 1 (seenR O k l.length)), (10, .val (.int .i64 k))]) (fun k => k ≤ l.length) (fun k => l.length - k) 0 (weak_mk ?_) (Nat.zero_le _) ?_
  · simp only [Vt,Vu,wk1,Vv,Vw,Vx,Z0,Z1,Z2,Z3,Z4,Z5,Z6,Z7,Z8,Z9,Za,Zb,Zc,Zd,Ze,Zf,List.cons.injEq,Zg,Zh,Zi,Zj,Zk,Zl,Zm,Zn,Zo,Zp,beq_self_eq_true,bne_self_eq_false,decide_true,decide_false,Zq,Zr,Zs,Zt,Zu,Zv,Zw,Zx,Zy,Zz,Y0,Y1,Y2,Y3,Y4,Y5,Y6,Y7,Y8,Y9,Ya,Yb,Yc,Yd,Ye,Yf,Yg,Yh,Yi,Yj,Yk,Yl,Ym,Yn,Yo,Yp,Yq,lk,ef,Yr,Ys,Yt,Yu,Yv,Yw,Yx,Yy,Yz,X0,X1,X2,X3,X4,X5,X6,X7,X8,X9,Xa,Xb,Xc,Xd,Xe,Xf,Xg,Xh,Xi,Xj,Xk,Xl,Xm,Xn,Xo,Xp,Xq,Xr,Xs,hv,Xt,ev,Xu,Xv,Xw,Xx,Xy,Xz,W0,W1,W2,W3,W4,W5,W6,W7,W8,W9,Wa,Wb,Wc,Wd,We,Wf,Wg,Wh,Wi,Wj,Wk,Wl,Wm,Wn,Wo,Wp,Wq,Wr,Ws,Wt,Value.oneCell',Wu,Wv,Ww,Wx,true_and,and_true,and_self,implies_true,Wy,Wz,V0,V1,false_implies,V2,V3,V4,V5,V6,V7,V8,V9,Va,Vb,Vc,Vd,Ve,Vf,Vg,Vh,Vi,reduceCtorEq,if_true,if_false,Vj,↓reduceIte,Vk,Vl,Vm,Vn,Vo,Vp,Vq,ne_eq,not_false_eq_true,not_true_eq_false,Vr,Nat.zero_ne_one]
    all_goals first | done | exact ⟨seen_0 _ _, rfl⟩ | trace_state
  rintro J hJ k hk
  simp only [Z0,Z1,Z2,Z3,Z4,Z5,Z6,Z7,Z8,Z9,Za,Zb,Zc,Zd,Ze,Zf,List.cons.injEq,Zg,Zh,Zi,Zj,Zk,Zl,Zm,Zn,Zo,Zp,beq_self_eq_true,bne_self_eq_false,decide_true,decide_false,Zq,Zr,Zs,Zt,Zu,Zv,Zw,Zx,Zy,Zz,Y0,Y1,Y2,Y3,Y4,Y5,Y6,Y7,Y8,Y9,Ya,Yb,Yc,Yd,Ye,Yf,Yg,Yh,Yi,Yj,Yk,Yl,Ym,Yn,Yo,Yp,Yq,lk,ef,Yr,Ys,Yt,Yu,Yv,Yw,Yx,Yy,Yz,X0,X1,X2,X3,X4,X5,X6,X7,X8,X9,Xa,Xb,Xc,Xd,Xe,Xf,Xg,Xh,Xi,Xj,Xk,Xl,Xm,Xn,Xo,Xp,Xq,Xr,Xs,hv,Xt,ev,Xu,Xv,Xw,Xx,Xy,Xz,W0,W1,W2,W3,W4,W5,W6,W7,W8,W9,Wa,Wb,Wc,Wd,We,Wf,Wg,Wh,Wi,Wj,Wk,Wl,Wm,Wn,Wo,Wp,Wq,Wr,Ws,Wt,Value.oneCell',Wu,Wv,Ww,Wx,true_and,and_true,and_self,implies_true,Wy,Wz,V0,V1,false_implies,V2,V3,V4,V5,V6,V7,V8,V9,Va,Vb,Vc,Vd,Ve,Vf,Vg,Vh,Vi,reduceCtorEq,if_true,if_false,Vj,↓reduceIte,Vk,Vl,Vm,Vn,Vo,Vp,Vq,ne_eq,not_false_eq_true,not_true_eq_false,Vr,Vs,r3_0,r3_1,r3_2,r3_3,r3_4,r3_5,r3_6,r3_7,r3_8,r3_9,r3_10,r3_12,r3_13,r3_14,r3_15,r3_16,r3_11,r3_17,p3,l3_0]
  refine condD (fun h => ?_) (fun h => ?_)
  · simp only [List.length_map, hOl] at h
    have hlt : k < l.length := by omega
    have hw := i_add1 k (by omega)
    have hkO : k < O.length := by omega
    have hkP : k < P.length := by omega
    have hkE : k < E.length := by omega
    have hx := hin _ (List.getElem_mem hkO)
    have hno := seen_no hnd hkO
    have hset := seen_set (n := l.length) hkO hx.1
    have gO := getD_map (f := oneI) (d := []) hkO
    have gP := getD_map (f := oneI) (d := []) hkP
    have gE := getD_map (f := oneI) (d := []) hkE
    have gX := hat _ hx
    have gS := seen_get O k (n := l.length) (i := O[k].toNat) (by omega)
    rw [show ((O[k].toNat : Nat) : Int) = O[k] by omega, decide_eq_false hno] at gS
    have hpe : ¬ E[k] < P[k] := by have := hge k hlt; rw [getD_in hkP, getD_in hkE] at this; omega
    have x0 : ¬ O[k] < 0 := by omega
    have x1 : ¬ (l.length : Int) ≤ O[k] := by omega
    have x2 : 0 ≤ O[k] := hx.1
    have x3 : O[k] < (l.length : Int) := hx.2
    have hsl := seen_len O k l.length
    simp only [oneI] at gO gP gE
    rcases Nat.eq_zero_or_pos k with hk0 | hk0
    · subst hk0
      repeat' first | ((with_reducible (first | refine condD ?_ ?_ | refine condE ?_ ?_ | refine condN ?_ ?_ | refine condI ?_ ?_ | refine condS ?_ ?_)) <;> intro h) | ((with_reducible (first | refine guardD (by with_unfolding_all rfl) ?_ ?_ | refine guardE (by with_unfolding_all rfl) ?_ ?_ | refine guardN (by with_unfolding_all rfl) ?_ ?_ | refine guardI (by with_unfolding_all rfl) ?_ ?_ | refine guardS (by with_unfolding_all rfl) ?_ ?_)) <;> intro h) | (with_reducible refine And.intro ?_ ?_; omega) | (simp only [Z0,Z1,Z2,Z3,Z4,Z5,Z6,Z7,Z8,Z9,Za,Zb,Zc,Zd,Ze,Zf,List.cons.injEq,Zg,Zh,Zi,Zj,Zk,Zl,Zm,Zn,Zo,Zp,beq_self_eq_true,bne_self_eq_false,decide_true,decide_false,Zq,Zr,Zs,Zt,Zu,Zv,Zw,Zx,Zy,Zz,Y0,Y1,Y2,Y3,Y4,Y5,Y6,Y7,Y8,Y9,Ya,Yb,Yc,Yd,Ye,Yf,Yg,Yh,Yi,Yj,Yk,Yl,Ym,Yn,Yo,Yp,Yq,lk,ef,Yr,Ys,Yt,Yu,Yv,Yw,Yx,Yy,Yz,X0,X1,X2,X3,X4,X5,X6,X7,X8,X9,Xa,Xb,Xc,Xd,Xe,Xf,Xg,Xh,Xi,Xj,Xk,Xl,Xm,Xn,Xo,Xp,Xq,Xr,Xs,hv,Xt,ev,Xu,Xv,Xw,Xx,Xy,Xz,W0,W1,W2,W3,W4,W5,W6,W7,W8,W9,Wa,Wb,Wc,Wd,We,Wf,Wg,Wh,Wi,Wj,Wk,Wl,Wm,Wn,Wo,Wp,Wq,Wr,Ws,Wt,Value.oneCell',Wu,Wv,Ww,Wx,true_and,and_true,and_self,implies_true,Wy,Wz,V0,V1,false_implies,V2,V3,V4,V5,V6,V7,V8,V9,Va,Vb,Vc,Vd,Ve,Vf,Vg,Vh,Vi,reduceCtorEq,if_true,if_false,Vj,↓reduceIte,Vk,Vl,Vm,Vn,Vo,Vp,Vq,ne_eq,not_false_eq_true,not_true_eq_false,Vr,Vs,r3_0,r3_1,r3_2,r3_3,r3_4,r3_5,r3_6,r3_7,r3_8,r3_9,r3_10,r3_12,r3_13,r3_14,r3_15,r3_16,r3_11,r3_17,p3,l3_0,gO,gP,gE,gX,gS,hset,hsl,hpe,x0,x1,x2,x3,hOl,hPl,hEl,hw,List.length_map]) | (exfalso; omega)
      all_goals first | done | omega | exact again hJ (0 + 1) (weak_mk (by simp only [Vt,Vu,wk1,Vv,Vw,Vx,Z0,Z1,Z2,Z3,Z4,Z5,Z6,Z7,Z8,Z9,Za,Zb,Zc,Zd,Ze,Zf,List.cons.injEq,Zg,Zh,Zi,Zj,Zk,Zl,Zm,Zn,Zo,Zp,beq_self_eq_true,bne_self_eq_false,decide_true,decide_false,Zq,Zr,Zs,Zt,Zu,Zv,Zw,Zx,Zy,Zz,Y0,Y1,Y2,Y3,Y4,Y5,Y6,Y7,Y8,Y9,Ya,Yb,Yc,Yd,Ye,Yf,Yg,Yh,Yi,Yj,Yk,Yl,Ym,Yn,Yo,Yp,Yq,lk,ef,Yr,Ys,Yt,Yu,Yv,Yw,Yx,Yy,Yz,X0,X1,X2,X3,X4,X5,X6,X7,X8,X9,Xa,Xb,Xc,Xd,Xe,Xf,Xg,Xh,Xi,Xj,Xk,Xl,Xm,Xn,Xo,Xp,Xq,Xr,Xs,hv,Xt,ev,Xu,Xv,Xw,Xx,Xy,Xz,W0,W1,W2,W3,W4,W5,W6,W7,W8,W9,Wa,Wb,Wc,Wd,We,Wf,Wg,Wh,Wi,Wj,Wk,Wl,Wm,Wn,Wo,Wp,Wq,Wr,Ws,Wt,Value.oneCell',Wu,Wv,Ww,Wx,true_and,and_true,and_self,implies_true,Wy,Wz,V0,V1,false_implies,V2,V3,V4,V5,V6,V7,V8,V9,Va,Vb,Vc,Vd,Ve,Vf,Vg,Vh,Vi,reduceCtorEq,if_true,if_false,Vj,↓reduceIte,Vk,Vl,Vm,Vn,Vo,Vp,Vq,ne_eq,not_false_eq_true,not_true_eq_false,Vr,Nat.zero_ne_one]; all_goals first | done | rfl)) (by omega) (by omega) | trace_state
    · obtain ⟨t, rfl⟩ : ∃ t, k = t + 1 := ⟨k - 1, by omega⟩
      have htO : t < O.length := by omega
      have hy := hin _ (List.getElem_mem htO)
      have gY := hat _ hy
      have gQ := getD_map (f := oneI) (d := []) htO
      simp only [oneI] at gQ
      have wt : IntKind.i64.wrap (((t + 1 : Nat) : Int) - 1) = (t : Int) := by rw [wrap_in (by omega) (by omega)]; omega
      have kpos : (0 : Int) < ((t + 1 : Nat) : Int) := by omega
      have t0 : (0 : Int) ≤ (t : Int) := by omega
      have t1 : (t : Int) < (l.length : Int) := by omega
      have y2 : 0 ≤ O[t] := hy.1
      have y3 : O[t] < (l.length : Int) := hy.2
      have hle : leK f O[t] O[t + 1] := List.pairwise_iff_getElem.1 hsr t (t + 1) htO hkO (by omega)
      rcases hle with q | ⟨q1, q2⟩
      · have v1 : ¬ f O[t + 1] < f O[t] := by omega
        have v2 : ¬ f O[t + 1] = f O[t] := by omega
        repeat' first | ((with_reducible (first | refine condD ?_ ?_ | refine condE ?_ ?_ | refine condN ?_ ?_ | refine condI ?_ ?_ | refine condS ?_ ?_)) <;> intro h) | ((with_reducible (first | refine guardD (by with_unfolding_all rfl) ?_ ?_ | refine guardE (by with_unfolding_all rfl) ?_ ?_ | refine guardN (by with_unfolding_all rfl) ?_ ?_ | refine guardI (by with_unfolding_all rfl) ?_ ?_ | refine guardS (by with_unfolding_all rfl) ?_ ?_)) <;> intro h) | (with_reducible refine And.intro ?_ ?_; omega) | (simp only [Z0,Z1,Z2,Z3,Z4,Z5,Z6,Z7,Z8,Z9,Za,Zb,Zc,Zd,Ze,Zf,List.cons.injEq,Zg,Zh,Zi,Zj,Zk,Zl,Zm,Zn,Zo,Zp,beq_self_eq_true,bne_self_eq_false,decide_true,decide_false,Zq,Zr,Zs,Zt,Zu,Zv,Zw,Zx,Zy,Zz,Y0,Y1,Y2,Y3,Y4,Y5,Y6,Y7,Y8,Y9,Ya,Yb,Yc,Yd,Ye,Yf,Yg,Yh,Yi,Yj,Yk,Yl,Ym,Yn,Yo,Yp,Yq,lk,ef,Yr,Ys,Yt,Yu,Yv,Yw,Yx,Yy,Yz,X0,X1,X2,X3,X4,X5,X6,X7,X8,X9,Xa,Xb,Xc,Xd,Xe,Xf,Xg,Xh,Xi,Xj,Xk,Xl,Xm,Xn,Xo,Xp,Xq,Xr,Xs,hv,Xt,ev,Xu,Xv,Xw,Xx,Xy,Xz,W0,W1,W2,W3,W4,W5,W6,W7,W8,W9,Wa,Wb,Wc,Wd,We,Wf,Wg,Wh,Wi,Wj,Wk,Wl,Wm,Wn,Wo,Wp,Wq,Wr,Ws,Wt,Value.oneCell',Wu,Wv,Ww,Wx,true_and,and_true,and_self,implies_true,Wy,Wz,V0,V1,false_implies,V2,V3,V4,V5,V6,V7,V8,V9,Va,Vb,Vc,Vd,Ve,Vf,Vg,Vh,Vi,reduceCtorEq,if_true,if_false,Vj,↓reduceIte,Vk,Vl,Vm,Vn,Vo,Vp,Vq,ne_eq,not_false_eq_true,not_true_eq_false,Vr,Vs,r3_0,r3_1,r3_2,r3_3,r3_4,r3_5,r3_6,r3_7,r3_8,r3_9,r3_10,r3_12,r3_13,r3_14,r3_15,r3_16,r3_11,r3_17,p3,l3_0,gO,gP,gE,gX,gS,gY,gQ,wt,kpos,t0,t1,y2,y3,v1,v2,hset,hsl,hpe,x0,x1,x2,x3,hOl,hPl,hEl,hw,List.length_map]) | (exfalso; omega)
        all_goals first | done | omega | exact again hJ (t + 1 + 1) (weak_mk (by simp only [Vt,Vu,wk1,Vv,Vw,Vx,Z0,Z1,Z2,Z3,Z4,Z5,Z6,Z7,Z8,Z9,Za,Zb,Zc,Zd,Ze,Zf,List.cons.injEq,Zg,Zh,Zi,Zj,Zk,Zl,Zm,Zn,Zo,Zp,beq_self_eq_true,bne_self_eq_false,decide_true,decide_false,Zq,Zr,Zs,Zt,Zu,Zv,Zw,Zx,Zy,Zz,Y0,Y1,Y2,Y3,Y4,Y5,Y6,Y7,Y8,Y9,Ya,Yb,Yc,Yd,Ye,Yf,Yg,Yh,Yi,Yj,Yk,Yl,Ym,Yn,Yo,Yp,Yq,lk,ef,Yr,Ys,Yt,Yu,Yv,Yw,Yx,Yy,Yz,X0,X1,X2,X3,X4,X5,X6,X7,X8,X9,Xa,Xb,Xc,Xd,Xe,Xf,Xg,Xh,Xi,Xj,Xk,Xl,Xm,Xn,Xo,Xp,Xq,Xr,Xs,hv,Xt,ev,Xu,Xv,Xw,Xx,Xy,Xz,W0,W1,W2,W3,W4,W5,W6,W7,W8,W9,Wa,Wb,Wc,Wd,We,Wf,Wg,Wh,Wi,Wj,Wk,Wl,Wm,Wn,Wo,Wp,Wq,Wr,Ws,Wt,Value.oneCell',Wu,Wv,Ww,Wx,true_and,and_true,and_self,implies_true,Wy,Wz,V0,V1,false_implies,V2,V3,V4,V5,V6,V7,V8,V9,Va,Vb,Vc,Vd,Ve,Vf,Vg,Vh,Vi,reduceCtorEq,if_true,if_false,Vj,↓reduceIte,Vk,Vl,Vm,Vn,Vo,Vp,Vq,ne_eq,not_false_eq_true,not_true_eq_false,Vr,Nat.zero_ne_one]; all_goals first | done | rfl)) (by omega) (by omega) | trace_state
      · have v1 : ¬ f O[t + 1] < f O[t] := by omega
        have v2 : f O[t + 1] = f O[t] := by omega
        have v3 : ¬ O[t + 1] < O[t] := by omega
        rw [v2] at gX
        clear v1
        have v1 : ¬ f O[t] < f O[t] := by omega
        repeat' first | ((with_reducible (first | refine condD ?_ ?_ | refine condE ?_ ?_ | refine condN ?_ ?_ | refine condI ?_ ?_ | refine condS ?_ ?_)) <;> intro h) | ((with_reducible (first | refine guardD (by with_unfolding_all rfl) ?_ ?_ | refine guardE (by with_unfolding_all rfl) ?_ ?_ | refine guardN (by with_unfolding_all rfl) ?_ ?_ | refine guardI (by with_unfolding_all rfl) ?_ ?_ | refine guardS (by with_unfolding_all rfl) ?_ ?_)) <;> intro h) | (with_reducible refine And.intro ?_ ?_; omega) | (simp only [Z0,Z1,Z2,Z3,Z4,Z5,Z6,Z7,Z8,Z9,Za,Zb,Zc,Zd,Ze,Zf,List.cons.injEq,Zg,Zh,Zi,Zj,Zk,Zl,Zm,Zn,Zo,Zp,beq_self_eq_true,bne_self_eq_false,decide_true,decide_false,Zq,Zr,Zs,Zt,Zu,Zv,Zw,Zx,Zy,Zz,Y0,Y1,Y2,Y3,Y4,Y5,Y6,Y7,Y8,Y9,Ya,Yb,Yc,Yd,Ye,Yf,Yg,Yh,Yi,Yj,Yk,Yl,Ym,Yn,Yo,Yp,Yq,lk,ef,Yr,Ys,Yt,Yu,Yv,Yw,Yx,Yy,Yz,X0,X1,X2,X3,X4,X5,X6,X7,X8,X9,Xa,Xb,Xc,Xd,Xe,Xf,Xg,Xh,Xi,Xj,Xk,Xl,Xm,Xn,Xo,Xp,Xq,Xr,Xs,hv,Xt,ev,Xu,Xv,Xw,Xx,Xy,Xz,W0,W1,W2,W3,W4,W5,W6,W7,W8,W9,Wa,Wb,Wc,Wd,We,Wf,Wg,Wh,Wi,Wj,Wk,Wl,Wm,Wn,Wo,Wp,Wq,Wr,Ws,Wt,Value.oneCell',Wu,Wv,Ww,Wx,true_and,and_true,and_self,implies_true,Wy,Wz,V0,V1,false_implies,V2,V3,V4,V5,V6,V7,V8,V9,Va,Vb,Vc,Vd,Ve,Vf,Vg,Vh,Vi,reduceCtorEq,if_true,if_false,Vj,↓reduceIte,Vk,Vl,Vm,Vn,Vo,Vp,Vq,ne_eq,not_false_eq_true,not_true_eq_false,Vr,Vs,r3_0,r3_1,r3_2,r3_3,r3_4,r3_5,r3_6,r3_7,r3_8,r3_9,r3_10,r3_12,r3_13,r3_14,r3_15,r3_16,r3_11,r3_17,p3,l3_0,gO,gP,gE,gX,gS,gY,gQ,wt,kpos,t0,t1,y2,y3,v1,v3,hset,hsl,hpe,x0,x1,x2,x3,hOl,hPl,hEl,hw,List.length_map]) | (exfalso; omega)
        all_goals first | done | omega | exact again hJ (t + 1 + 1) (weak_mk (by simp only [Vt,Vu,wk1,Vv,Vw,Vx,Z0,Z1,Z2,Z3,Z4,Z5,Z6,Z7,Z8,Z9,Za,Zb,Zc,Zd,Ze,Zf,List.cons.injEq,Zg,Zh,Zi,Zj,Zk,Zl,Zm,Zn,Zo,Zp,beq_self_eq_true,bne_self_eq_false,decide_true,decide_false,Zq,Zr,Zs,Zt,Zu,Zv,Zw,Zx,Zy,Zz,Y0,Y1,Y2,Y3,Y4,Y5,Y6,Y7,Y8,Y9,Ya,Yb,Yc,Yd,Ye,Yf,Yg,Yh,Yi,Yj,Yk,Yl,Ym,Yn,Yo,Yp,Yq,lk,ef,Yr,Ys,Yt,Yu,Yv,Yw,Yx,Yy,Yz,X0,X1,X2,X3,X4,X5,X6,X7,X8,X9,Xa,Xb,Xc,Xd,Xe,Xf,Xg,Xh,Xi,Xj,Xk,Xl,Xm,Xn,Xo,Xp,Xq,Xr,Xs,hv,Xt,ev,Xu,Xv,Xw,Xx,Xy,Xz,W0,W1,W2,W3,W4,W5,W6,W7,W8,W9,Wa,Wb,Wc,Wd,We,Wf,Wg,Wh,Wi,Wj,Wk,Wl,Wm,Wn,Wo,Wp,Wq,Wr,Ws,Wt,Value.oneCell',Wu,Wv,Ww,Wx,true_and,and_true,and_self,implies_true,Wy,Wz,V0,V1,false_implies,V2,V3,V4,V5,V6,V7,V8,V9,Va,Vb,Vc,Vd,Ve,Vf,Vg,Vh,Vi,reduceCtorEq,if_true,if_false,Vj,↓reduceIte,Vk,Vl,Vm,Vn,Vo,Vp,Vq,ne_eq,not_false_eq_true,not_true_eq_false,Vr,Nat.zero_ne_one]; all_goals first | done | rfl)) (by omega) (by omega) | trace_state
  · repeat' first | ((with_reducible (first | refine condD ?_ ?_ | refine condE ?_ ?_ | refine condN ?_ ?_ | refine condI ?_ ?_ | refine condS ?_ ?_)) <;> intro h) | ((with_reducible (first | refine guardD (by with_unfolding_all rfl) ?_ ?_ | refine guardE (by with_unfolding_all rfl) ?_ ?_ | refine guardN (by with_unfolding_all rfl) ?_ ?_ | refine guardI (by with_unfolding_all rfl) ?_ ?_ | refine guardS (by with_unfolding_all rfl) ?_ ?_)) <;> intro h) | ((refine callG awake3_c ?_)) | (with_reducible refine And.intro ?_ ?_; omega) | (simp only [Z0,Z1,Z2,Z3,Z4,Z5,Z6,Z7,Z8,Z9,Za,Zb,Zc,Zd,Ze,Zf,List.cons.injEq,Zg,Zh,Zi,Zj,Zk,Zl,Zm,Zn,Zo,Zp,beq_self_eq_true,bne_self_eq_false,decide_true,decide_false,Zq,Zr,Zs,Zt,Zu,Zv,Zw,Zx,Zy,Zz,Y0,Y1,Y2,Y3,Y4,Y5,Y6,Y7,Y8,Y9,Ya,Yb,Yc,Yd,Ye,Yf,Yg,Yh,Yi,Yj,Yk,Yl,Ym,Yn,Yo,Yp,Yq,lk,ef,Yr,Ys,Yt,Yu,Yv,Yw,Yx,Yy,Yz,X0,X1,X2,X3,X4,X5,X6,X7,X8,X9,Xa,Xb,Xc,Xd,Xe,Xf,Xg,Xh,Xi,Xj,Xk,Xl,Xm,Xn,Xo,Xp,Xq,Xr,Xs,hv,Xt,ev,Xu,Xv,Xw,Xx,Xy,Xz,W0,W1,W2,W3,W4,W5,W6,W7,W8,W9,Wa,Wb,Wc,Wd,We,Wf,Wg,Wh,Wi,Wj,Wk,Wl,Wm,Wn,Wo,Wp,Wq,Wr,Ws,Wt,Value.oneCell',Wu,Wv,Ww,Wx,true_and,and_true,and_self,implies_true,Wy,Wz,V0,V1,false_implies,V2,V3,V4,V5,V6,V7,V8,V9,Va,Vb,Vc,Vd,Ve,Vf,Vg,Vh,Vi,reduceCtorEq,if_true,if_false,Vj,↓reduceIte,Vk,Vl,Vm,Vn,Vo,Vp,Vq,ne_eq,not_false_eq_true,not_true_eq_false,Vr,Vs,r3_0,r3_1,r3_2,r3_3,r3_4,r3_5,r3_6,r3_7,r3_8,r3_9,r3_10,r3_12,r3_13,r3_14,r3_15,r3_16,r3_11,r3_17,p3,l3_0]) | (exfalso; omega)
theorem ordersall_c : ∀ avs, HasArgs [.one (.row [.int .i64, .int .i64, .int .i64, .int .i64, .bool])] avs → CallOK Try.prog 3 avs (.val (.bool true)) := by
  intro avs h
  obtain ⟨v0, r, rfl, h0, h⟩ := args_cons h
  obtain rfl := args_nil h
  obtain ⟨n0, rfl, hl0, hb0⟩ := has_row h0 all_smp
  exact ordersall_d n0

/-! ### The row -/
open Go.ChangeShapes Go.WideShapes Go.ChangeAt
set_option maxRecDepth 100000 in
theorem ordersall_lifted (os : Os) (started : os.Started) (H : Type) (enc : TypeId × Value → H) :
    ReturnsInHanded {} Try.checked os 3 .any (Rows.sampleOrdersAreAllSpec.pre6 enc Try.prog Try.f3 Rows.sampleOrdersAreAllRow.domain false) (Rows.sampleOrdersAreAllSpec.post enc Try.prog Try.f3 false true false false) := by
  refine returnsInHanded_of_change (C := Try.checked) own_knob started (by kernel_rfl) Try.func3
    (ChangeSpec.witness6 (enc := enc) (C := Try.checked) false ⟨#[], #[.slice none 0 0], []⟩ 8 (by kernel_rfl) (by kernel_rfl) (by kernel_rfl) (by kernel_rfl)) ?_
  intro W base args ds gs before hval hW _ _
  refine law_step rfl (by kernel_rfl) (fun ds h => ?_) ?_ hval hW ?_
  · match ds, h with | [a], _ => exact ⟨rfl, rfl, rfl⟩
  · rw [Try.params3]
    intro t ht
    simp only [List.mem_cons, List.not_mem_nil, or_false] at ht
    repeat' (first | (rcases ht with rfl | ht) | subst ht)
    all_goals exact ⟨by kernel_rfl, of_decide_eq_true (by kernel_rfl)⟩
  · rw [Try.params3]
    intro hin
    exact law_dm rfl (ss := [.one (.row [.int .i64, .int .i64, .int .i64, .int .i64, .bool])]) (by kernel_rfl) hin ordersall_c

theorem ordersall_holds : Rows.SampleOrdersAreAllSaid :=
  OpenClaim.holds_of_wide 3 Try.f3 rfl rfl rfl rfl rfl rfl rfl ⟨rfl, rfl, rfl, rfl, rfl⟩ rfl rfl rfl rfl rfl (by kernel_rfl) Try.func3 (by kernel_rfl)
    (of_decide_eq_true (by kernel_rfl)) (by unfold Func.isWrapper; first | (rw [if_pos (by decide +kernel)]; kernel_rfl) | (rw [if_neg (by decide +kernel)]; exact ⟨rfl, rfl⟩))
    (fun os started H enc _ => ordersall_lifted os started H enc)

end Go.Proofs.Ytbdcnooafacldaa
