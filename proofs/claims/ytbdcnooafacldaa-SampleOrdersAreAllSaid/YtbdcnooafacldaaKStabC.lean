/- slices.symMergeCmpFunc with sample.Order's comparison, by the machine on data. -/
import Derived.Test.YtbdcnooafacldaaKStabB
namespace Go.Proofs.Ytbdcnooafacldaa
open Go.RowKit
open Go.Proofs.Ytbdcnooafacldaa renaming done_eq → Z0, done_eq' → Z3, donet_eq → Z4, donet_eq' → Z5, fin_val → Z6, fin_tup → Z7, fin_agg → Z8, fin_ro → Z9, res_one → Za, res_more → Zb, rv_t → Zc, rv_c → Zd, rv_l → Ze, int_eq → Zi, bool_eq → Zj, toNat_pred → Zt, toNat_succ → Zu, cnd_t → Zw, cnd_f → Zx, grd_tt → Zy, grd_u → Zz, grd_tf → Y0, grd_ft → Y1, grd_ff → Y2, g_skip → Y3, g_ops → Y4, g_seq → Y5, g_block → Y6, g_exit → Y7, g_ret → Y8, x_c → Y9, x_o → Ya, x_l → Yb, x_b → Yc, g_b → Yd, g_nil → Ye, r_all → Yf, o_nil → Yg, g_cond → Yh, o_guard → Yi, o_call → Yj, o_callm → Yk, o_callt → Yl, o_callx → Ym, o_callv → Yn, o_callc → Yo, o_callh → Yp, o_apph → Yq, noav_alias → Yr, noav_nil → Ys, o_mv → Yt, o_pick → Yu, o_bin → Yv, o_never → Yw, o_eqs → Yx, o_eqb → Yy, o_un → Yz, o_conv → X0, o_load → X1, o_loadr → X2, o_idxr → X3, o_loads → X4, o_loadsr → X5, o_fld → X6, o_idx → X7, o_idxs → X8, o_len → X9, o_lens → Xa, o_ext → Xb, o_nilck → Xc, o_slc → Xd, o_slcs → Xe, o_build → Xf, o_minmax → Xg, o_mkfn → Xh, o_mkfnr → Xi, o_alloc → Xj, o_box → Xk, o_boxs → Xl, o_row → Xm, o_rowr → Xn, o_mk → Xo, o_asg → Xp, o_app → Xq, o_appa → Xr, o_store → Xs, o_stores → Xt, o_eqnil → Xu, eqAV → Xv, view_t → Xw, view_c → Xx, view_nil → Xy, view_fn → Xz, look_own → W0, look_box → W1, look_junk → W2, look_val → W3, look_nilsl → W4, look_ro → W5, look_roAt → W6, look_agg → W7, look_tup → W8, look_clo → W9, look_alias → Wa, look_ref → Wb, look_into → Wc, look_fnv → Wd, look_held → We, rowOf → Wf, cellsOf → Wg, argv → Wh, vbin → Wi, vun → Wj, bnd → Wk, elemOf → Wl, putParts → Wm, setAt → Wn, zav → Wo, put_at → Ww, mk_at → Wx, mk_nil → Wy, initSt → Wz, wk_cons → Vv, wk_nil → Vw, vint_eq → Vx, vbool_eq → Vy
open Go.Proofs.Ytbdcnooafacldaa.AV.tup renaming injEq → Zf
open Go.Proofs.Ytbdcnooafacldaa.AV.agg renaming injEq → Zg
open Go.Proofs.Ytbdcnooafacldaa.AV.ro renaming injEq → Zh
open _root_.Int renaming toNat_natCast → Zk, reduceToNat → Zl, toNat_zero → Zm, toNat_one → Zn, reduceLE → Zo, reduceLT → Zp, reduceBEq → Zq, reduceBNe → Zr, reduceNeg → Zs
open _root_.List renaming length_map → Zv, map_cons → V0, map_nil → V1, forall_mem_cons → V2, not_mem_nil → V3, length_cons → V4, length_nil → V5, getD_cons_zero → V6, getD_cons_succ → V7, getD_nil → V8, drop_succ_cons → V9, drop_zero → Va, take_succ_cons → Vb, take_zero → Vc, set_cons_zero → Vd, set_cons_succ → Ve, all_cons → Vf, all_nil → Vg
open Go.Proofs.Ytbdcnooafacldaa.ASt renaming rid → Wp, hold → Wq, free → Wr
open Go.Proofs.Ytbdcnooafacldaa.AV renaming kill → Ws, isHome → Wt, noLoan → Wu, cellOK → Wv
open _root_.Bool renaming and_true → Vh, true_and → Vi, not_true → Vj, not_false → Vk, false_eq_true → Vl
open _root_.Nat renaming reduceEqDiff → Vm, reduceBNe → Vn, reduceAdd → Vo, reduceSub → Vp, reduceMul → Vq, reduceLeDiff → Vr, reduceLT → Vs, one_ne_zero → Vt, zero_ne_one → Vu
open Go.Proofs.Ytbdcnooafacldaa.AV.val renaming injEq → Vz
set_option linter.unusedSimpArgs false
--@short

theorem at_L {P L R S : List Int} {t : Nat} (h : t < L.length) : (P ++ L ++ R ++ S)[P.length + t]? = some L[t] := by
  rw [List.append_assoc, List.append_assoc, List.getElem?_append_right (by omega), Nat.add_sub_cancel_left, List.getElem?_append_left h, List.getElem?_eq_getElem h]
theorem at_R {P L R S : List Int} {t : Nat} (h : t < R.length) : (P ++ L ++ R ++ S)[P.length + L.length + t]? = some R[t] := by
  rw [List.append_assoc, ← List.length_append, List.getElem?_append_right (by omega), Nat.add_sub_cancel_left, List.getElem?_append_left h, List.getElem?_eq_getElem h]
theorem take_bd {f : Int → Int} {l : List Int} {i : Nat} {z : Int} (hs : SrtK f l) (h : i = 0 ∨ ∃ hlt : i - 1 < l.length, leK f l[i - 1] z) : ∀ y ∈ l.take i, leK f y z := by
  intro y hy
  obtain ⟨a, ha, rfl⟩ := List.getElem_of_mem hy
  rw [List.getElem_take]
  rw [List.length_take] at ha
  rcases h with h | ⟨hlt, h⟩
  · omega
  · rcases Nat.lt_or_ge a (i - 1) with q | q
    · exact leK_trans (List.pairwise_iff_getElem.1 hs a (i - 1) (by omega) hlt q) h
    · have : a = i - 1 := by omega
      subst this; exact h
theorem drop_bd {f : Int → Int} {l : List Int} {i : Nat} {z : Int} (hs : SrtK f l) (h : l.length ≤ i ∨ ∃ hlt : i < l.length, leK f z l[i]) : ∀ y ∈ l.drop i, leK f z y := by
  intro y hy
  obtain ⟨a, ha, rfl⟩ := List.getElem_of_mem hy
  rw [List.getElem_drop]
  rw [List.length_drop] at ha
  rcases h with h | ⟨hlt, h⟩
  · omega
  · rcases Nat.eq_zero_or_pos a with q | q
    · subst q; simpa using h
    · exact leK_trans h (List.pairwise_iff_getElem.1 hs i (i + a) hlt (by omega) (by omega))
/-- One number put into a sorted row. -/
theorem put_one {f : Int → Int} {x : Int} {A B l : List Int} (h : SrtK f (A ++ B)) (hA : ∀ y ∈ A, leK f y x) (hB : ∀ y ∈ B, leK f x y) (hp : (x :: (A ++ B)).Perm l) : A ++ x :: B = srt f l := by
  rw [ins_at h hA hB]
  exact srt_is (ins_srt h) ((ins_perm f x (A ++ B)).trans hp)
theorem half_2 (m i j : Nat) : ((m + i + (m + j) : Nat) : Int).fdiv (2 ^ (min 1 IntKind.u64.bits)) = ((m + (i + j) / 2 : Nat) : Int) := by
  have e : (2 : Int) ^ (min 1 IntKind.u64.bits) = 2 := by decide
  rw [e, Int.fdiv_eq_ediv_of_nonneg _ (by decide)]
  omega
theorem wrap64u (n : Int) : IntKind.u64.wrap n = n % 18446744073709551616 := by
  have h : IntKind.u64.wrap n = if (IntKind.u64.signed && decide (n % (2 ^ IntKind.u64.bits : Int) ≥ (2 ^ (IntKind.u64.bits - 1) : Int))) = true then n % (2 ^ IntKind.u64.bits : Int) - (2 ^ IntKind.u64.bits : Int) else n % (2 ^ IntKind.u64.bits : Int) := rfl
  rw [h, if_neg (by simp [IntKind.signed])]
  rfl
theorem u64_in {n : Nat} (h : n ≤ 1000000000) : IntKind.u64.wrap ((n : Nat) : Int) = ((n : Nat) : Int) := by rw [wrap64u]; omega
theorem i64_in {n : Nat} (h : n ≤ 1000000000) : IntKind.i64.wrap ((n : Nat) : Int) = ((n : Nat) : Int) := wrap_in (by omega) (by omega)
theorem sum_in (a b : Nat) (ha : a ≤ 1000000000) (hb : b ≤ 1000000000) : IntKind.i64.wrap ((a : Int) + (b : Int)) = ((a + b : Nat) : Int) := by rw [wrap_in (by omega) (by omega)]; omega
theorem sub_in (a b c : Nat) (h : a = b + c) (ha : a ≤ 1000000000) : IntKind.i64.wrap ((a : Int) - (b : Int)) = ((c : Nat) : Int) := by rw [wrap_in (by omega) (by omega)]; omega
/-! slices.symMergeCmpFunc[int] -/
def r33_0 : List POp := [⟨25, .mv (.t 2), none⟩,
  ⟨26, .mv (.t 1), none⟩,
  ⟨27, .bin .sub (.t 25) (.t 26), none⟩,
  ⟨28, .bin .eql (.t 27) (.c (.int .i64 1)), none⟩]
def r33_1 : List POp := [⟨29, .mv (.t 2), none⟩,
  ⟨10, .asg (.t 29), none⟩]
def r33_2 : List POp := [⟨30, .mv (.t 3), none⟩,
  ⟨11, .asg (.t 30), none⟩]
def r33_3 : List POp := [⟨31, .mv (.t 10), none⟩,
  ⟨32, .mv (.t 11), none⟩,
  ⟨33, .bin .lss (.t 31) (.t 32), none⟩]
def r33_4 : List POp := [⟨34, .mv (.t 10), none⟩,
  ⟨35, .mv (.t 11), none⟩,
  ⟨36, .bin .add (.t 34) (.t 35), none⟩,
  ⟨37, .conv .u64 (.t 36), none⟩,
  ⟨38, .bin .shr (.t 37) (.c (.int .u64 1)), none⟩,
  ⟨39, .conv .i64 (.t 38), none⟩,
  ⟨12, .asg (.t 39), none⟩]
def r33_5 : List POp := [⟨40, .mv (.t 4), none⟩,
  ⟨41, .mv (.t 0), none⟩,
  ⟨42, .mv (.t 12), none⟩,
  ⟨43, .idx 1 (.t 41) (.t 42), none⟩,
  ⟨44, .load (.t 43), none⟩,
  ⟨45, .mv (.t 0), none⟩,
  ⟨46, .mv (.t 1), none⟩,
  ⟨47, .idx 1 (.t 45) (.t 46), none⟩,
  ⟨48, .load (.t 47), none⟩,
  ⟨49, .callc (.t 40) [.t 44, .t 48], none⟩,
  ⟨50, .bin .lss (.t 49) (.c (.int .i64 0)), none⟩]
def r33_6 : List POp := [⟨51, .mv (.t 12), none⟩,
  ⟨52, .bin .add (.t 51) (.c (.int .i64 1)), none⟩,
  ⟨10, .asg (.t 52), none⟩]
def r33_7 : List POp := [⟨53, .mv (.t 12), none⟩,
  ⟨11, .asg (.t 53), none⟩]
def r33_8 : List POp := [⟨54, .mv (.t 1), none⟩,
  ⟨13, .asg (.t 54), none⟩]
def r33_9 : List POp := [⟨55, .mv (.t 13), none⟩,
  ⟨56, .mv (.t 10), none⟩,
  ⟨57, .bin .sub (.t 56) (.c (.int .i64 1)), none⟩,
  ⟨58, .bin .lss (.t 55) (.t 57), none⟩]
def r33_11 : List POp := [⟨61, .mv (.t 0), none⟩,
  ⟨62, .mv (.t 13), none⟩,
  ⟨63, .mv (.t 0), none⟩,
  ⟨64, .mv (.t 13), none⟩,
  ⟨65, .bin .add (.t 64) (.c (.int .i64 1)), none⟩,
  ⟨66, .mv (.t 0), none⟩,
  ⟨67, .mv (.t 13), none⟩,
  ⟨68, .bin .add (.t 67) (.c (.int .i64 1)), none⟩,
  ⟨69, .idx 1 (.t 66) (.t 68), none⟩,
  ⟨70, .load (.t 69), none⟩,
  ⟨71, .mv (.t 0), none⟩,
  ⟨72, .mv (.t 13), none⟩,
  ⟨73, .idx 1 (.t 71) (.t 72), none⟩,
  ⟨74, .load (.t 73), none⟩,
  ⟨75, .idx 1 (.t 61) (.t 62), none⟩,
  ⟨0, .store (.t 75) (.t 70), none⟩,
  ⟨76, .idx 1 (.t 63) (.t 65), none⟩,
  ⟨0, .store (.t 76) (.t 74), none⟩]
def r33_10 : List POp := [⟨59, .mv (.t 13), none⟩,
  ⟨60, .bin .add (.t 59) (.c (.int .i64 1)), none⟩,
  ⟨13, .asg (.t 60), none⟩]
def r33_12 : List POp := [⟨77, .mv (.t 3), none⟩,
  ⟨78, .mv (.t 2), none⟩,
  ⟨79, .bin .sub (.t 77) (.t 78), none⟩,
  ⟨80, .bin .eql (.t 79) (.c (.int .i64 1)), none⟩]
def r33_13 : List POp := [⟨81, .mv (.t 1), none⟩,
  ⟨14, .asg (.t 81), none⟩]
def r33_14 : List POp := [⟨82, .mv (.t 2), none⟩,
  ⟨15, .asg (.t 82), none⟩]
def r33_15 : List POp := [⟨83, .mv (.t 14), none⟩,
  ⟨84, .mv (.t 15), none⟩,
  ⟨85, .bin .lss (.t 83) (.t 84), none⟩]
def r33_16 : List POp := [⟨86, .mv (.t 14), none⟩,
  ⟨87, .mv (.t 15), none⟩,
  ⟨88, .bin .add (.t 86) (.t 87), none⟩,
  ⟨89, .conv .u64 (.t 88), none⟩,
  ⟨90, .bin .shr (.t 89) (.c (.int .u64 1)), none⟩,
  ⟨91, .conv .i64 (.t 90), none⟩,
  ⟨16, .asg (.t 91), none⟩]
def r33_17 : List POp := [⟨92, .mv (.t 4), none⟩,
  ⟨93, .mv (.t 0), none⟩,
  ⟨94, .mv (.t 2), none⟩,
  ⟨95, .idx 1 (.t 93) (.t 94), none⟩,
  ⟨96, .load (.t 95), none⟩,
  ⟨97, .mv (.t 0), none⟩,
  ⟨98, .mv (.t 16), none⟩,
  ⟨99, .idx 1 (.t 97) (.t 98), none⟩,
  ⟨100, .load (.t 99), none⟩,
  ⟨101, .callc (.t 92) [.t 96, .t 100], none⟩,
  ⟨102, .bin .lss (.t 101) (.c (.int .i64 0)), none⟩,
  ⟨103, .un .not (.t 102), none⟩]
def r33_18 : List POp := [⟨104, .mv (.t 16), none⟩,
  ⟨105, .bin .add (.t 104) (.c (.int .i64 1)), none⟩,
  ⟨14, .asg (.t 105), none⟩]
def r33_19 : List POp := [⟨106, .mv (.t 16), none⟩,
  ⟨15, .asg (.t 106), none⟩]
def r33_20 : List POp := [⟨107, .mv (.t 2), none⟩,
  ⟨17, .asg (.t 107), none⟩]
def r33_21 : List POp := [⟨108, .mv (.t 17), none⟩,
  ⟨109, .mv (.t 14), none⟩,
  ⟨110, .bin .gtr (.t 108) (.t 109), none⟩]
def r33_23 : List POp := [⟨113, .mv (.t 0), none⟩,
  ⟨114, .mv (.t 17), none⟩,
  ⟨115, .mv (.t 0), none⟩,
  ⟨116, .mv (.t 17), none⟩,
  ⟨117, .bin .sub (.t 116) (.c (.int .i64 1)), none⟩,
  ⟨118, .mv (.t 0), none⟩,
  ⟨119, .mv (.t 17), none⟩,
  ⟨120, .bin .sub (.t 119) (.c (.int .i64 1)), none⟩,
  ⟨121, .idx 1 (.t 118) (.t 120), none⟩,
  ⟨122, .load (.t 121), none⟩,
  ⟨123, .mv (.t 0), none⟩,
  ⟨124, .mv (.t 17), none⟩,
  ⟨125, .idx 1 (.t 123) (.t 124), none⟩,
  ⟨126, .load (.t 125), none⟩,
  ⟨127, .idx 1 (.t 113) (.t 114), none⟩,
  ⟨0, .store (.t 127) (.t 122), none⟩,
  ⟨128, .idx 1 (.t 115) (.t 117), none⟩,
  ⟨0, .store (.t 128) (.t 126), none⟩]
def r33_22 : List POp := [⟨111, .mv (.t 17), none⟩,
  ⟨112, .bin .sub (.t 111) (.c (.int .i64 1)), none⟩,
  ⟨17, .asg (.t 112), none⟩]
def r33_24 : List POp := [⟨129, .mv (.t 1), none⟩,
  ⟨130, .mv (.t 3), none⟩,
  ⟨131, .bin .add (.t 129) (.t 130), none⟩,
  ⟨132, .conv .u64 (.t 131), none⟩,
  ⟨133, .bin .shr (.t 132) (.c (.int .u64 1)), none⟩,
  ⟨134, .conv .i64 (.t 133), none⟩,
  ⟨18, .asg (.t 134), none⟩]
def r33_25 : List POp := [⟨135, .mv (.t 18), none⟩,
  ⟨136, .mv (.t 2), none⟩,
  ⟨137, .bin .add (.t 135) (.t 136), none⟩,
  ⟨19, .asg (.t 137), none⟩]
def r33_26 : List POp := [⟨20, .asg (.c (.int .i64 0)), none⟩,
  ⟨21, .asg (.c (.int .i64 0)), none⟩]
def r33_27 : List POp := [⟨138, .mv (.t 2), none⟩,
  ⟨139, .mv (.t 18), none⟩,
  ⟨140, .bin .gtr (.t 138) (.t 139), none⟩]
def r33_28 : List POp := [⟨141, .mv (.t 19), none⟩,
  ⟨142, .mv (.t 3), none⟩,
  ⟨143, .bin .sub (.t 141) (.t 142), none⟩,
  ⟨20, .asg (.t 143), none⟩]
def r33_29 : List POp := [⟨144, .mv (.t 18), none⟩,
  ⟨21, .asg (.t 144), none⟩]
def r33_30 : List POp := [⟨145, .mv (.t 1), none⟩,
  ⟨20, .asg (.t 145), none⟩]
def r33_31 : List POp := [⟨146, .mv (.t 2), none⟩,
  ⟨21, .asg (.t 146), none⟩]
def r33_32 : List POp := [⟨147, .mv (.t 19), none⟩,
  ⟨148, .bin .sub (.t 147) (.c (.int .i64 1)), none⟩,
  ⟨22, .asg (.t 148), none⟩]
def r33_33 : List POp := [⟨149, .mv (.t 20), none⟩,
  ⟨150, .mv (.t 21), none⟩,
  ⟨151, .bin .lss (.t 149) (.t 150), none⟩]
def r33_34 : List POp := [⟨152, .mv (.t 20), none⟩,
  ⟨153, .mv (.t 21), none⟩,
  ⟨154, .bin .add (.t 152) (.t 153), none⟩,
  ⟨155, .conv .u64 (.t 154), none⟩,
  ⟨156, .bin .shr (.t 155) (.c (.int .u64 1)), none⟩,
  ⟨157, .conv .i64 (.t 156), none⟩,
  ⟨23, .asg (.t 157), none⟩]
def r33_35 : List POp := [⟨158, .mv (.t 4), none⟩,
  ⟨159, .mv (.t 0), none⟩,
  ⟨160, .mv (.t 22), none⟩,
  ⟨161, .mv (.t 23), none⟩,
  ⟨162, .bin .sub (.t 160) (.t 161), none⟩,
  ⟨163, .idx 1 (.t 159) (.t 162), none⟩,
  ⟨164, .load (.t 163), none⟩,
  ⟨165, .mv (.t 0), none⟩,
  ⟨166, .mv (.t 23), none⟩,
  ⟨167, .idx 1 (.t 165) (.t 166), none⟩,
  ⟨168, .load (.t 167), none⟩,
  ⟨169, .callc (.t 158) [.t 164, .t 168], none⟩,
  ⟨170, .bin .lss (.t 169) (.c (.int .i64 0)), none⟩,
  ⟨171, .un .not (.t 170), none⟩]
def r33_36 : List POp := [⟨172, .mv (.t 23), none⟩,
  ⟨173, .bin .add (.t 172) (.c (.int .i64 1)), none⟩,
  ⟨20, .asg (.t 173), none⟩]
def r33_37 : List POp := [⟨174, .mv (.t 23), none⟩,
  ⟨21, .asg (.t 174), none⟩]
def r33_38 : List POp := [⟨175, .mv (.t 19), none⟩,
  ⟨176, .mv (.t 20), none⟩,
  ⟨177, .bin .sub (.t 175) (.t 176), none⟩,
  ⟨24, .asg (.t 177), none⟩]
def r33_39 : List POp := [⟨178, .mv (.t 20), none⟩,
  ⟨179, .mv (.t 2), none⟩,
  ⟨180, .bin .lss (.t 178) (.t 179), none⟩,
  ⟨181, .mv (.t 180), none⟩,
  ⟨182, .mv (.t 2), some (181, true)⟩,
  ⟨183, .mv (.t 24), some (181, true)⟩,
  ⟨184, .bin .lss (.t 182) (.t 183), some (181, true)⟩,
  ⟨185, .pick (.t 181) (.t 184) (.c (.bool false)), none⟩]
def r33_40 : List POp := [⟨186, .mv (.t 0), none⟩,
  ⟨187, .mv (.t 20), none⟩,
  ⟨188, .mv (.t 2), none⟩,
  ⟨189, .mv (.t 24), none⟩,
  ⟨190, .mv (.t 4), none⟩,
  ⟨191, .callm 38 [.t 186, .t 187, .t 188, .t 189, .t 190], none⟩]
def r33_41 : List POp := [⟨192, .mv (.t 1), none⟩,
  ⟨193, .mv (.t 20), none⟩,
  ⟨194, .bin .lss (.t 192) (.t 193), none⟩,
  ⟨195, .mv (.t 194), none⟩,
  ⟨196, .mv (.t 20), some (195, true)⟩,
  ⟨197, .mv (.t 18), some (195, true)⟩,
  ⟨198, .bin .lss (.t 196) (.t 197), some (195, true)⟩,
  ⟨199, .pick (.t 195) (.t 198) (.c (.bool false)), none⟩]
def r33_42 : List POp := [⟨200, .mv (.t 0), none⟩,
  ⟨201, .mv (.t 1), none⟩,
  ⟨202, .mv (.t 20), none⟩,
  ⟨203, .mv (.t 18), none⟩,
  ⟨204, .mv (.t 4), none⟩,
  ⟨205, .callm 33 [.t 200, .t 201, .t 202, .t 203, .t 204], none⟩]
def r33_43 : List POp := [⟨206, .mv (.t 18), none⟩,
  ⟨207, .mv (.t 24), none⟩,
  ⟨208, .bin .lss (.t 206) (.t 207), none⟩,
  ⟨209, .mv (.t 208), none⟩,
  ⟨210, .mv (.t 24), some (209, true)⟩,
  ⟨211, .mv (.t 3), some (209, true)⟩,
  ⟨212, .bin .lss (.t 210) (.t 211), some (209, true)⟩,
  ⟨213, .pick (.t 209) (.t 212) (.c (.bool false)), none⟩]
def r33_44 : List POp := [⟨214, .mv (.t 0), none⟩,
  ⟨215, .mv (.t 18), none⟩,
  ⟨216, .mv (.t 24), none⟩,
  ⟨217, .mv (.t 3), none⟩,
  ⟨218, .mv (.t 4), none⟩,
  ⟨219, .callm 33 [.t 214, .t 215, .t 216, .t 217, .t 218], none⟩]
def l33_4 : PCode := .seq (.seq (.ops r33_33) (.cond (.t 151) (.skip) (.exit 8))) (.block 9 (.seq (.ops r33_34) (.seq (.ops r33_35) (.cond (.t 171) (.ops r33_36) (.ops r33_37)))))
def l33_3 : PCode := .seq (.seq (.ops r33_21) (.cond (.t 110) (.skip) (.exit 6))) (.seq (.block 7 (.ops r33_23)) (.ops r33_22))
def l33_2 : PCode := .seq (.seq (.ops r33_15) (.cond (.t 85) (.skip) (.exit 4))) (.block 5 (.seq (.ops r33_16) (.seq (.ops r33_17) (.cond (.t 103) (.ops r33_18) (.ops r33_19)))))
def l33_1 : PCode := .seq (.seq (.ops r33_9) (.cond (.t 58) (.skip) (.exit 2))) (.seq (.block 3 (.ops r33_11)) (.ops r33_10))
def l33_0 : PCode := .seq (.seq (.ops r33_3) (.cond (.t 33) (.skip) (.exit 0))) (.block 1 (.seq (.ops r33_4) (.seq (.ops r33_5) (.cond (.t 50) (.ops r33_6) (.ops r33_7)))))
def p33 : PCode := .seq (.seq (.ops r33_0) (.cond (.t 28) (.seq (.ops r33_1) (.seq (.ops r33_2) (.seq (.block 0 (.loop l33_0)) (.seq (.seq (.ops r33_8) (.block 2 (.loop l33_1))) (.ret))))) (.skip))) (.seq (.seq (.ops r33_12) (.cond (.t 80) (.seq (.ops r33_13) (.seq (.ops r33_14) (.seq (.block 4 (.loop l33_2)) (.seq (.seq (.ops r33_20) (.block 6 (.loop l33_3))) (.ret))))) (.skip))) (.seq (.ops r33_24) (.seq (.ops r33_25) (.seq (.ops r33_26) (.seq (.seq (.ops r33_27) (.cond (.t 140) (.seq (.ops r33_28) (.ops r33_29)) (.seq (.ops r33_30) (.ops r33_31)))) (.seq (.ops r33_32) (.seq (.block 8 (.loop l33_4)) (.seq (.ops r33_38) (.seq (.seq (.ops r33_39) (.cond (.t 185) (.ops r33_40) (.skip))) (.seq (.seq (.ops r33_41) (.cond (.t 199) (.ops r33_42) (.skip))) (.seq (.ops r33_43) (.cond (.t 213) (.ops r33_44) (.skip)))))))))))))
theorem ok33 : okFunc1 Try.prog 33 [] 5 p33 = true := by kernel_rfl
set_option maxHeartbeats 2000000 in
theorem symm1_c (p : List Int) (hp : KBnd p) (P R S : List Int) (x : Int) (hR : 0 < R.length) (hx : 0 ≤ x ∧ x < p.length) (hRK : InK p R) (hRs : SrtK (fK p) R) (hlt : ∀ y ∈ R, x < y) (hl : (P ++ [x] ++ R ++ S).length ≤ 100000) :
    TurnOK Try.prog 33 (.own 3 1 ((P ++ [x] ++ R ++ S).map oneI)) (.own 3 1 ((P ++ srt (fK p) ([x] ++ R) ++ S).map oneI)) [.val (.int .i64 P.length), .val (.int .i64 ((P.length + 1 : Nat) : Int)), .val (.int .i64 ((P.length + 1 + R.length : Nat) : Int)), .fnv 16 [.roAt [.ro (p.map oneI)] 0]] (.tup []) := by
  refine turn_of mixed ok33 rfl (.tup _ (by simp)) rfl ?_
  have hll : (P ++ [x] ++ R ++ S).length = P.length + 1 + R.length + S.length := by simp only [List.length_append, List.length_singleton]
  obtain ⟨Z, hZ⟩ : ∃ Z, Z = P ++ [x] ++ R ++ S := ⟨_, rfl⟩
  have hzx : Z[P.length]? = some x := by
    have := at_L (P := P) (L := [x]) (R := R) (S := S) (t := 0) (by simp)
    rw [← hZ, Nat.add_zero] at this
    exact this
  have hzr : ∀ t (h : t < R.length), Z[P.length + 1 + t]? = some R[t] := fun t h => by
    have := at_R (P := P) (L := [x]) (R := R) (S := S) h
    rw [← hZ] at this
    exact this
  obtain ⟨rk, hrk⟩ : ∃ rk : Nat → List Int, rk = fun k => P ++ (R.take k ++ x :: R.drop k) ++ S := ⟨_, rfl⟩
  have h0 : Z = rk 0 := by
    rw [hZ, hrk]
    simp only [List.take_zero, List.drop_zero, List.nil_append, List.append_assoc, List.cons_append]
  have hE : ∀ k, (∀ y ∈ R.take k, leK (fK p) y x) → (∀ y ∈ R.drop k, leK (fK p) x y) → rk k = P ++ srt (fK p) ([x] ++ R) ++ S := fun k h1 h2 => by
    rw [hrk]
    simp only
    rw [put_one (l := [x] ++ R) (by rw [List.take_append_drop]; exact hRs) h1 h2 (by rw [List.take_append_drop]; exact .refl _)]
  have hsw : ∀ t (h : t < R.length), rk t = (P ++ R.take t) ++ x :: ([] ++ R[t] :: (R.drop (t + 1) ++ S)) ∧ rk (t + 1) = (P ++ R.take t) ++ R[t] :: ([] ++ x :: (R.drop (t + 1) ++ S)) := fun t h => by
    obtain ⟨e1, e2⟩ := insertion_row (P := P) (Y := R) (R := S) (x := x) h
    rw [hrk]; exact ⟨e2, e1⟩
  have hrl : ∀ k, k ≤ R.length → (rk k).length = P.length + 1 + R.length + S.length := fun k hk => by
    rw [hrk]
    simp only [List.length_append, List.length_cons, List.length_take, List.length_drop]
    omega
  rw [← hZ] at hl ⊢
  rw [← hZ] at hll
  clear hZ hrk
  have g0 := one_get hzx
  have hxl : x = x := rfl
  generalize hq : P.length = q at *
  have w0 : IntKind.i64.wrap (((q + 1 : Nat) : Int) - q) = 1 := by rw [wrap_in (by omega) (by omega)]; omega
  have b0 : (0 : Int) ≤ (q : Int) := by omega
  have b1 : (q : Int) < Z.length := by omega
  repeat' first | ((with_reducible (first | refine condD ?_ ?_ | refine condE ?_ ?_ | refine condN ?_ ?_ | refine condI ?_ ?_ | refine condS ?_ ?_)) <;> intro h) | ((with_reducible (first | refine guardD (by with_unfolding_all rfl) ?_ ?_ | refine guardE (by with_unfolding_all rfl) ?_ ?_ | refine guardN (by with_unfolding_all rfl) ?_ ?_ | refine guardI (by with_unfolding_all rfl) ?_ ?_ | refine guardS (by with_unfolding_all rfl) ?_ ?_)) <;> intro h) | (with_reducible refine And.intro ?_ ?_; omega) | (simp only [Z0,Z3,Z4,Z5,Z6,Z7,Z8,Z9,Za,Zb,Zc,Zd,Ze,Zf,Zg,Zh,List.cons.injEq,Zi,Zj,Zk,Zl,Zm,Zn,Zo,Zp,Zq,Zr,beq_self_eq_true,bne_self_eq_false,decide_true,decide_false,Zs,Zt,Zu,Zv,Zw,Zx,Zy,Zz,Y0,Y1,Y2,Y3,Y4,Y5,Y6,Y7,Y8,Y9,Ya,Yb,Yc,Yd,Ye,Yf,Yg,Yh,Yi,Yj,Yk,Yl,Ym,Yn,Yo,Yp,Yq,Yr,Ys,lk,ef,Yt,Yu,Yv,Yw,Yx,Yy,Yz,X0,X1,X2,X3,X4,X5,X6,X7,X8,X9,Xa,Xb,Xc,Xd,Xe,Xf,Xg,Xh,Xi,Xj,Xk,Xl,Xm,Xn,Xo,Xp,Xq,Xr,Xs,Xt,Xu,hv,Xv,ev,Xw,Xx,Xy,Xz,W0,W1,W2,W3,W4,W5,W6,W7,W8,W9,Wa,Wb,Wc,Wd,We,Wf,Wg,Wh,Wi,Wj,Wk,Wl,Wm,Wn,Wo,Wp,Wq,Wr,Ws,Wt,Wu,Wv,Value.oneCell',Ww,Wx,Wy,Wz,true_and,and_true,and_self,implies_true,V0,V1,V2,V3,false_implies,V4,V5,V6,V7,V8,V9,Va,Vb,Vc,Vd,Ve,Vf,Vg,Vh,Vi,Vj,Vk,reduceCtorEq,if_true,if_false,Vl,↓reduceIte,Vm,Vn,Vo,Vp,Vq,Vr,Vs,ne_eq,not_false_eq_true,not_true_eq_false,Vt,Vu,r33_0,r33_1,r33_2,r33_3,r33_4,r33_5,r33_6,r33_7,r33_8,r33_9,r33_11,r33_10,r33_12,r33_13,r33_14,r33_15,r33_16,r33_17,r33_18,r33_19,r33_20,r33_21,r33_23,r33_22,r33_24,r33_25,r33_26,r33_27,r33_28,r33_29,r33_30,r33_31,r33_32,r33_33,r33_34,r33_35,r33_36,r33_37,r33_38,r33_39,r33_40,r33_41,r33_42,r33_43,r33_44,p33,w0]) | (exfalso; omega)
  refine loopS (fun i : Nat × Nat => mk [(0, .own 3 1 (Z.map oneI)), (1, .val (.int .i64 q)), (4, .fnv 16 [.roAt [.ro (p.map oneI)] 0]), (10, .val (.int .i64 ((q + 1 + i.1 : Nat) : Int))), (11, .val (.int .i64 ((q + 1 + i.2 : Nat) : Int)))])
    (fun i => i.1 ≤ i.2 ∧ i.2 ≤ R.length ∧ (i.1 = 0 ∨ ∃ h : i.1 - 1 < R.length, leK (fK p) R[i.1 - 1] x) ∧ (R.length ≤ i.2 ∨ ∃ h : i.2 < R.length, leK (fK p) x R[i.2])) (fun i => i.2 - i.1) (0, R.length) (weak_mk ?_) ⟨Nat.zero_le _, Nat.le_refl _, .inl rfl, .inl (by simp only; omega)⟩ ?_
  · simp only [Vv,Vw,wk1,Vx,Vy,Vz,Z0,Z3,Z4,Z5,Z6,Z7,Z8,Z9,Za,Zb,Zc,Zd,Ze,Zf,Zg,Zh,List.cons.injEq,Zi,Zj,Zk,Zl,Zm,Zn,Zo,Zp,Zq,Zr,beq_self_eq_true,bne_self_eq_false,decide_true,decide_false,Zs,Zt,Zu,Zv,Zw,Zx,Zy,Zz,Y0,Y1,Y2,Y3,Y4,Y5,Y6,Y7,Y8,Y9,Ya,Yb,Yc,Yd,Ye,Yf,Yg,Yh,Yi,Yj,Yk,Yl,Ym,Yn,Yo,Yp,Yq,Yr,Ys,lk,ef,Yt,Yu,Yv,Yw,Yx,Yy,Yz,X0,X1,X2,X3,X4,X5,X6,X7,X8,X9,Xa,Xb,Xc,Xd,Xe,Xf,Xg,Xh,Xi,Xj,Xk,Xl,Xm,Xn,Xo,Xp,Xq,Xr,Xs,Xt,Xu,hv,Xv,ev,Xw,Xx,Xy,Xz,W0,W1,W2,W3,W4,W5,W6,W7,W8,W9,Wa,Wb,Wc,Wd,We,Wf,Wg,Wh,Wi,Wj,Wk,Wl,Wm,Wn,Wo,Wp,Wq,Wr,Ws,Wt,Wu,Wv,Value.oneCell',Ww,Wx,Wy,Wz,true_and,and_true,and_self,implies_true,V0,V1,V2,V3,false_implies,V4,V5,V6,V7,V8,V9,Va,Vb,Vc,Vd,Ve,Vf,Vg,Vh,Vi,Vj,Vk,reduceCtorEq,if_true,if_false,Vl,↓reduceIte,Vm,Vn,Vo,Vp,Vq,Vr,Vs,ne_eq,not_false_eq_true,not_true_eq_false,Vt,Nat.zero_ne_one]
    all_goals first | done | rfl | exact ⟨rfl, rfl⟩
  rintro J hJ ⟨i, j⟩ ⟨hij, hjn, hi, hj⟩
  simp only at hij hjn hi hj
  simp only [Z0,Z3,Z4,Z5,Z6,Z7,Z8,Z9,Za,Zb,Zc,Zd,Ze,Zf,Zg,Zh,List.cons.injEq,Zi,Zj,Zk,Zl,Zm,Zn,Zo,Zp,Zq,Zr,beq_self_eq_true,bne_self_eq_false,decide_true,decide_false,Zs,Zt,Zu,Zv,Zw,Zx,Zy,Zz,Y0,Y1,Y2,Y3,Y4,Y5,Y6,Y7,Y8,Y9,Ya,Yb,Yc,Yd,Ye,Yf,Yg,Yh,Yi,Yj,Yk,Yl,Ym,Yn,Yo,Yp,Yq,Yr,Ys,lk,ef,Yt,Yu,Yv,Yw,Yx,Yy,Yz,X0,X1,X2,X3,X4,X5,X6,X7,X8,X9,Xa,Xb,Xc,Xd,Xe,Xf,Xg,Xh,Xi,Xj,Xk,Xl,Xm,Xn,Xo,Xp,Xq,Xr,Xs,Xt,Xu,hv,Xv,ev,Xw,Xx,Xy,Xz,W0,W1,W2,W3,W4,W5,W6,W7,W8,W9,Wa,Wb,Wc,Wd,We,Wf,Wg,Wh,Wi,Wj,Wk,Wl,Wm,Wn,Wo,Wp,Wq,Wr,Ws,Wt,Wu,Wv,Value.oneCell',Ww,Wx,Wy,Wz,true_and,and_true,and_self,implies_true,V0,V1,V2,V3,false_implies,V4,V5,V6,V7,V8,V9,Va,Vb,Vc,Vd,Ve,Vf,Vg,Vh,Vi,Vj,Vk,reduceCtorEq,if_true,if_false,Vl,↓reduceIte,Vm,Vn,Vo,Vp,Vq,Vr,Vs,ne_eq,not_false_eq_true,not_true_eq_false,Vt,Vu,r33_0,r33_1,r33_2,r33_3,r33_4,r33_5,r33_6,r33_7,r33_8,r33_9,r33_11,r33_10,r33_12,r33_13,r33_14,r33_15,r33_16,r33_17,r33_18,r33_19,r33_20,r33_21,r33_23,r33_22,r33_24,r33_25,r33_26,r33_27,r33_28,r33_29,r33_30,r33_31,r33_32,r33_33,r33_34,r33_35,r33_36,r33_37,r33_38,r33_39,r33_40,r33_41,r33_42,r33_43,r33_44,p33,l33_0]
  refine condD (fun h => ?_) (fun h => ?_)
  · have hlt2 : i < j := by omega
    obtain ⟨c, hc⟩ : ∃ c, c = (i + j) / 2 := ⟨_, rfl⟩
    have hc1 : i ≤ c := by omega
    have hc2 : c < j := by omega
    have hcR : c < R.length := by omega
    have s1 := sum_in (q + 1 + i) (q + 1 + j) (by omega) (by omega)
    have s2 := u64_in (n := q + 1 + i + (q + 1 + j)) (by omega)
    have s3 := half_2 (q + 1) i j
    rw [← hc] at s3
    have s4 := i64_in (n := q + 1 + c) (by omega)
    have s5 : IntKind.i64.wrap (((q + 1 + c : Nat) : Int) + 1) = ((q + 1 + (c + 1) : Nat) : Int) := by rw [wrap_in (by omega) (by omega)]; omega
    have g1 := one_get (hzr c hcR)
    have c1 : (0 : Int) ≤ ((q + 1 + c : Nat) : Int) := by omega
    have c2 : ((q + 1 + c : Nat) : Int) < Z.length := by omega
    have hm := List.getElem_mem hcR
    have hcm := cmp_c p R[c] x hp (hRK _ hm) hx
    have hlx := hlt _ hm
    by_cases ht : fK p R[c] < fK p x
    · have ht' : fK p R[c] - fK p x < 0 := by omega
      repeat' first | ((with_reducible (first | refine condD ?_ ?_ | refine condE ?_ ?_ | refine condN ?_ ?_ | refine condI ?_ ?_ | refine condS ?_ ?_)) <;> intro h) | ((with_reducible (first | refine guardD (by with_unfolding_all rfl) ?_ ?_ | refine guardE (by with_unfolding_all rfl) ?_ ?_ | refine guardN (by with_unfolding_all rfl) ?_ ?_ | refine guardI (by with_unfolding_all rfl) ?_ ?_ | refine guardS (by with_unfolding_all rfl) ?_ ?_)) <;> intro h) | ((refine callcG (by kernel_rfl) hcm (.val _) ?_)) | (with_reducible refine And.intro ?_ ?_; omega) | (simp only [Z0,Z3,Z4,Z5,Z6,Z7,Z8,Z9,Za,Zb,Zc,Zd,Ze,Zf,Zg,Zh,List.cons.injEq,Zi,Zj,Zk,Zl,Zm,Zn,Zo,Zp,Zq,Zr,beq_self_eq_true,bne_self_eq_false,decide_true,decide_false,Zs,Zt,Zu,Zv,Zw,Zx,Zy,Zz,Y0,Y1,Y2,Y3,Y4,Y5,Y6,Y7,Y8,Y9,Ya,Yb,Yc,Yd,Ye,Yf,Yg,Yh,Yi,Yj,Yk,Yl,Ym,Yn,Yo,Yp,Yq,Yr,Ys,lk,ef,Yt,Yu,Yv,Yw,Yx,Yy,Yz,X0,X1,X2,X3,X4,X5,X6,X7,X8,X9,Xa,Xb,Xc,Xd,Xe,Xf,Xg,Xh,Xi,Xj,Xk,Xl,Xm,Xn,Xo,Xp,Xq,Xr,Xs,Xt,Xu,hv,Xv,ev,Xw,Xx,Xy,Xz,W0,W1,W2,W3,W4,W5,W6,W7,W8,W9,Wa,Wb,Wc,Wd,We,Wf,Wg,Wh,Wi,Wj,Wk,Wl,Wm,Wn,Wo,Wp,Wq,Wr,Ws,Wt,Wu,Wv,Value.oneCell',Ww,Wx,Wy,Wz,true_and,and_true,and_self,implies_true,V0,V1,V2,V3,false_implies,V4,V5,V6,V7,V8,V9,Va,Vb,Vc,Vd,Ve,Vf,Vg,Vh,Vi,Vj,Vk,reduceCtorEq,if_true,if_false,Vl,↓reduceIte,Vm,Vn,Vo,Vp,Vq,Vr,Vs,ne_eq,not_false_eq_true,not_true_eq_false,Vt,Vu,r33_0,r33_1,r33_2,r33_3,r33_4,r33_5,r33_6,r33_7,r33_8,r33_9,r33_11,r33_10,r33_12,r33_13,r33_14,r33_15,r33_16,r33_17,r33_18,r33_19,r33_20,r33_21,r33_23,r33_22,r33_24,r33_25,r33_26,r33_27,r33_28,r33_29,r33_30,r33_31,r33_32,r33_33,r33_34,r33_35,r33_36,r33_37,r33_38,r33_39,r33_40,r33_41,r33_42,r33_43,r33_44,p33,l33_0,s1,s2,s3,s4,s5,g0,g1,b0,b1,c1,c2,ht',List.length_map]) | (exfalso; omega)
      all_goals first | omega | exact again hJ (c + 1, j) (weak_mk (by simp only [Vv,Vw,wk1,Vx,Vy,Vz,Z0,Z3,Z4,Z5,Z6,Z7,Z8,Z9,Za,Zb,Zc,Zd,Ze,Zf,Zg,Zh,List.cons.injEq,Zi,Zj,Zk,Zl,Zm,Zn,Zo,Zp,Zq,Zr,beq_self_eq_true,bne_self_eq_false,decide_true,decide_false,Zs,Zt,Zu,Zv,Zw,Zx,Zy,Zz,Y0,Y1,Y2,Y3,Y4,Y5,Y6,Y7,Y8,Y9,Ya,Yb,Yc,Yd,Ye,Yf,Yg,Yh,Yi,Yj,Yk,Yl,Ym,Yn,Yo,Yp,Yq,Yr,Ys,lk,ef,Yt,Yu,Yv,Yw,Yx,Yy,Yz,X0,X1,X2,X3,X4,X5,X6,X7,X8,X9,Xa,Xb,Xc,Xd,Xe,Xf,Xg,Xh,Xi,Xj,Xk,Xl,Xm,Xn,Xo,Xp,Xq,Xr,Xs,Xt,Xu,hv,Xv,ev,Xw,Xx,Xy,Xz,W0,W1,W2,W3,W4,W5,W6,W7,W8,W9,Wa,Wb,Wc,Wd,We,Wf,Wg,Wh,Wi,Wj,Wk,Wl,Wm,Wn,Wo,Wp,Wq,Wr,Ws,Wt,Wu,Wv,Value.oneCell',Ww,Wx,Wy,Wz,true_and,and_true,and_self,implies_true,V0,V1,V2,V3,false_implies,V4,V5,V6,V7,V8,V9,Va,Vb,Vc,Vd,Ve,Vf,Vg,Vh,Vi,Vj,Vk,reduceCtorEq,if_true,if_false,Vl,↓reduceIte,Vm,Vn,Vo,Vp,Vq,Vr,Vs,ne_eq,not_false_eq_true,not_true_eq_false,Vt,Nat.zero_ne_one]; all_goals first | done | rfl)) ⟨by simp only; omega, hjn, .inr ⟨hcR, .inl ht⟩, hj⟩ (by simp only; omega) | trace_state
    · have ht' : ¬ fK p R[c] - fK p x < 0 := by omega
      have hle : leK (fK p) x R[c] := by unfold leK; omega
      repeat' first | ((with_reducible (first | refine condD ?_ ?_ | refine condE ?_ ?_ | refine condN ?_ ?_ | refine condI ?_ ?_ | refine condS ?_ ?_)) <;> intro h) | ((with_reducible (first | refine guardD (by with_unfolding_all rfl) ?_ ?_ | refine guardE (by with_unfolding_all rfl) ?_ ?_ | refine guardN (by with_unfolding_all rfl) ?_ ?_ | refine guardI (by with_unfolding_all rfl) ?_ ?_ | refine guardS (by with_unfolding_all rfl) ?_ ?_)) <;> intro h) | ((refine callcG (by kernel_rfl) hcm (.val _) ?_)) | (with_reducible refine And.intro ?_ ?_; omega) | (simp only [Z0,Z3,Z4,Z5,Z6,Z7,Z8,Z9,Za,Zb,Zc,Zd,Ze,Zf,Zg,Zh,List.cons.injEq,Zi,Zj,Zk,Zl,Zm,Zn,Zo,Zp,Zq,Zr,beq_self_eq_true,bne_self_eq_false,decide_true,decide_false,Zs,Zt,Zu,Zv,Zw,Zx,Zy,Zz,Y0,Y1,Y2,Y3,Y4,Y5,Y6,Y7,Y8,Y9,Ya,Yb,Yc,Yd,Ye,Yf,Yg,Yh,Yi,Yj,Yk,Yl,Ym,Yn,Yo,Yp,Yq,Yr,Ys,lk,ef,Yt,Yu,Yv,Yw,Yx,Yy,Yz,X0,X1,X2,X3,X4,X5,X6,X7,X8,X9,Xa,Xb,Xc,Xd,Xe,Xf,Xg,Xh,Xi,Xj,Xk,Xl,Xm,Xn,Xo,Xp,Xq,Xr,Xs,Xt,Xu,hv,Xv,ev,Xw,Xx,Xy,Xz,W0,W1,W2,W3,W4,W5,W6,W7,W8,W9,Wa,Wb,Wc,Wd,We,Wf,Wg,Wh,Wi,Wj,Wk,Wl,Wm,Wn,Wo,Wp,Wq,Wr,Ws,Wt,Wu,Wv,Value.oneCell',Ww,Wx,Wy,Wz,true_and,and_true,and_self,implies_true,V0,V1,V2,V3,false_implies,V4,V5,V6,V7,V8,V9,Va,Vb,Vc,Vd,Ve,Vf,Vg,Vh,Vi,Vj,Vk,reduceCtorEq,if_true,if_false,Vl,↓reduceIte,Vm,Vn,Vo,Vp,Vq,Vr,Vs,ne_eq,not_false_eq_true,not_true_eq_false,Vt,Vu,r33_0,r33_1,r33_2,r33_3,r33_4,r33_5,r33_6,r33_7,r33_8,r33_9,r33_11,r33_10,r33_12,r33_13,r33_14,r33_15,r33_16,r33_17,r33_18,r33_19,r33_20,r33_21,r33_23,r33_22,r33_24,r33_25,r33_26,r33_27,r33_28,r33_29,r33_30,r33_31,r33_32,r33_33,r33_34,r33_35,r33_36,r33_37,r33_38,r33_39,r33_40,r33_41,r33_42,r33_43,r33_44,p33,l33_0,s1,s2,s3,s4,s5,g0,g1,b0,b1,c1,c2,ht',List.length_map]) | (exfalso; omega)
      all_goals first | omega | exact again hJ (i, c) (weak_mk (by simp only [Vv,Vw,wk1,Vx,Vy,Vz,Z0,Z3,Z4,Z5,Z6,Z7,Z8,Z9,Za,Zb,Zc,Zd,Ze,Zf,Zg,Zh,List.cons.injEq,Zi,Zj,Zk,Zl,Zm,Zn,Zo,Zp,Zq,Zr,beq_self_eq_true,bne_self_eq_false,decide_true,decide_false,Zs,Zt,Zu,Zv,Zw,Zx,Zy,Zz,Y0,Y1,Y2,Y3,Y4,Y5,Y6,Y7,Y8,Y9,Ya,Yb,Yc,Yd,Ye,Yf,Yg,Yh,Yi,Yj,Yk,Yl,Ym,Yn,Yo,Yp,Yq,Yr,Ys,lk,ef,Yt,Yu,Yv,Yw,Yx,Yy,Yz,X0,X1,X2,X3,X4,X5,X6,X7,X8,X9,Xa,Xb,Xc,Xd,Xe,Xf,Xg,Xh,Xi,Xj,Xk,Xl,Xm,Xn,Xo,Xp,Xq,Xr,Xs,Xt,Xu,hv,Xv,ev,Xw,Xx,Xy,Xz,W0,W1,W2,W3,W4,W5,W6,W7,W8,W9,Wa,Wb,Wc,Wd,We,Wf,Wg,Wh,Wi,Wj,Wk,Wl,Wm,Wn,Wo,Wp,Wq,Wr,Ws,Wt,Wu,Wv,Value.oneCell',Ww,Wx,Wy,Wz,true_and,and_true,and_self,implies_true,V0,V1,V2,V3,false_implies,V4,V5,V6,V7,V8,V9,Va,Vb,Vc,Vd,Ve,Vf,Vg,Vh,Vi,Vj,Vk,reduceCtorEq,if_true,if_false,Vl,↓reduceIte,Vm,Vn,Vo,Vp,Vq,Vr,Vs,ne_eq,not_false_eq_true,not_true_eq_false,Vt,Nat.zero_ne_one]; all_goals first | done | rfl)) ⟨hc1, by simp only; omega, hi, .inr ⟨hcR, hle⟩⟩ (by simp only; omega) | trace_state
  · have hije : i = j := by omega
    subst hije
    have hres := hE i (take_bd hRs hi) (drop_bd hRs hj)
    rw [h0]
    clear hJ hzx hzr g0 hi hj h
    repeat' first | ((with_reducible (first | refine condD ?_ ?_ | refine condE ?_ ?_ | refine condN ?_ ?_ | refine condI ?_ ?_ | refine condS ?_ ?_)) <;> intro h) | ((with_reducible (first | refine guardD (by with_unfolding_all rfl) ?_ ?_ | refine guardE (by with_unfolding_all rfl) ?_ ?_ | refine guardN (by with_unfolding_all rfl) ?_ ?_ | refine guardI (by with_unfolding_all rfl) ?_ ?_ | refine guardS (by with_unfolding_all rfl) ?_ ?_)) <;> intro h) | (with_reducible refine And.intro ?_ ?_; omega) | (simp only [Z0,Z3,Z4,Z5,Z6,Z7,Z8,Z9,Za,Zb,Zc,Zd,Ze,Zf,Zg,Zh,List.cons.injEq,Zi,Zj,Zk,Zl,Zm,Zn,Zo,Zp,Zq,Zr,beq_self_eq_true,bne_self_eq_false,decide_true,decide_false,Zs,Zt,Zu,Zv,Zw,Zx,Zy,Zz,Y0,Y1,Y2,Y3,Y4,Y5,Y6,Y7,Y8,Y9,Ya,Yb,Yc,Yd,Ye,Yf,Yg,Yh,Yi,Yj,Yk,Yl,Ym,Yn,Yo,Yp,Yq,Yr,Ys,lk,ef,Yt,Yu,Yv,Yw,Yx,Yy,Yz,X0,X1,X2,X3,X4,X5,X6,X7,X8,X9,Xa,Xb,Xc,Xd,Xe,Xf,Xg,Xh,Xi,Xj,Xk,Xl,Xm,Xn,Xo,Xp,Xq,Xr,Xs,Xt,Xu,hv,Xv,ev,Xw,Xx,Xy,Xz,W0,W1,W2,W3,W4,W5,W6,W7,W8,W9,Wa,Wb,Wc,Wd,We,Wf,Wg,Wh,Wi,Wj,Wk,Wl,Wm,Wn,Wo,Wp,Wq,Wr,Ws,Wt,Wu,Wv,Value.oneCell',Ww,Wx,Wy,Wz,true_and,and_true,and_self,implies_true,V0,V1,V2,V3,false_implies,V4,V5,V6,V7,V8,V9,Va,Vb,Vc,Vd,Ve,Vf,Vg,Vh,Vi,Vj,Vk,reduceCtorEq,if_true,if_false,Vl,↓reduceIte,Vm,Vn,Vo,Vp,Vq,Vr,Vs,ne_eq,not_false_eq_true,not_true_eq_false,Vt,Vu,r33_0,r33_1,r33_2,r33_3,r33_4,r33_5,r33_6,r33_7,r33_8,r33_9,r33_11,r33_10,r33_12,r33_13,r33_14,r33_15,r33_16,r33_17,r33_18,r33_19,r33_20,r33_21,r33_23,r33_22,r33_24,r33_25,r33_26,r33_27,r33_28,r33_29,r33_30,r33_31,r33_32,r33_33,r33_34,r33_35,r33_36,r33_37,r33_38,r33_39,r33_40,r33_41,r33_42,r33_43,r33_44,p33,l33_0]) | (exfalso; omega)
    refine loopS (fun k : Nat => mk [(0, .own 3 1 ((rk k).map oneI)), (10, .val (.int .i64 ((q + 1 + i : Nat) : Int))), (13, .val (.int .i64 ((q + k : Nat) : Int)))]) (fun k => k ≤ i) (fun k => i - k) 0 (weak_mk ?_) (Nat.zero_le _) ?_
    · simp only [Vv,Vw,wk1,Vx,Vy,Vz,Z0,Z3,Z4,Z5,Z6,Z7,Z8,Z9,Za,Zb,Zc,Zd,Ze,Zf,Zg,Zh,List.cons.injEq,Zi,Zj,Zk,Zl,Zm,Zn,Zo,Zp,Zq,Zr,beq_self_eq_true,bne_self_eq_false,decide_true,decide_false,Zs,Zt,Zu,Zv,Zw,Zx,Zy,Zz,Y0,Y1,Y2,Y3,Y4,Y5,Y6,Y7,Y8,Y9,Ya,Yb,Yc,Yd,Ye,Yf,Yg,Yh,Yi,Yj,Yk,Yl,Ym,Yn,Yo,Yp,Yq,Yr,Ys,lk,ef,Yt,Yu,Yv,Yw,Yx,Yy,Yz,X0,X1,X2,X3,X4,X5,X6,X7,X8,X9,Xa,Xb,Xc,Xd,Xe,Xf,Xg,Xh,Xi,Xj,Xk,Xl,Xm,Xn,Xo,Xp,Xq,Xr,Xs,Xt,Xu,hv,Xv,ev,Xw,Xx,Xy,Xz,W0,W1,W2,W3,W4,W5,W6,W7,W8,W9,Wa,Wb,Wc,Wd,We,Wf,Wg,Wh,Wi,Wj,Wk,Wl,Wm,Wn,Wo,Wp,Wq,Wr,Ws,Wt,Wu,Wv,Value.oneCell',Ww,Wx,Wy,Wz,true_and,and_true,and_self,implies_true,V0,V1,V2,V3,false_implies,V4,V5,V6,V7,V8,V9,Va,Vb,Vc,Vd,Ve,Vf,Vg,Vh,Vi,Vj,Vk,reduceCtorEq,if_true,if_false,Vl,↓reduceIte,Vm,Vn,Vo,Vp,Vq,Vr,Vs,ne_eq,not_false_eq_true,not_true_eq_false,Vt,Nat.zero_ne_one]
      all_goals first | done | rfl | exact ⟨rfl, rfl⟩
    rintro J hJ k hk
    have w1 : IntKind.i64.wrap (((q + 1 + i : Nat) : Int) - 1) = ((q + i : Nat) : Int) := by rw [wrap_in (by omega) (by omega)]; omega
    by_cases hki : k < i
    · have hkR : k < R.length := by omega
      obtain ⟨z1, z2⟩ := hsw k hkR
      have hQ : (P ++ R.take k).length = q + k := by rw [List.length_append, List.length_take]; omega
      obtain ⟨⟨g1, g2⟩, ⟨Z1, s1, l1, g3, s2⟩, _⟩ := swp_facts z1 hQ (show q + k + 1 + ([] : List Int).length = q + (k + 1) by simp; omega)
      rw [← z2] at s2
      have hZl := hrl k (by omega)
      have h1 : ((q + k : Nat) : Int) < ((q + i : Nat) : Int) := by omega
      have w2 : IntKind.i64.wrap (((q + k : Nat) : Int) + 1) = ((q + (k + 1) : Nat) : Int) := by rw [wrap_in (by omega) (by omega)]; omega
      have c1 : (0 : Int) ≤ ((q + k : Nat) : Int) := by omega
      have c2 : ((q + k : Nat) : Int) < (rk k).length := by omega
      have c3 : (0 : Int) ≤ ((q + (k + 1) : Nat) : Int) := by omega
      have c4 : ((q + (k + 1) : Nat) : Int) < (rk k).length := by omega
      have c5 : ((q + (k + 1) : Nat) : Int) < Z1.length := by omega
      repeat' first | ((with_reducible (first | refine condD ?_ ?_ | refine condE ?_ ?_ | refine condN ?_ ?_ | refine condI ?_ ?_ | refine condS ?_ ?_)) <;> intro h) | ((with_reducible (first | refine guardD (by with_unfolding_all rfl) ?_ ?_ | refine guardE (by with_unfolding_all rfl) ?_ ?_ | refine guardN (by with_unfolding_all rfl) ?_ ?_ | refine guardI (by with_unfolding_all rfl) ?_ ?_ | refine guardS (by with_unfolding_all rfl) ?_ ?_)) <;> intro h) | (with_reducible refine And.intro ?_ ?_; omega) | (simp only [Z0,Z3,Z4,Z5,Z6,Z7,Z8,Z9,Za,Zb,Zc,Zd,Ze,Zf,Zg,Zh,List.cons.injEq,Zi,Zj,Zk,Zl,Zm,Zn,Zo,Zp,Zq,Zr,beq_self_eq_true,bne_self_eq_false,decide_true,decide_false,Zs,Zt,Zu,Zv,Zw,Zx,Zy,Zz,Y0,Y1,Y2,Y3,Y4,Y5,Y6,Y7,Y8,Y9,Ya,Yb,Yc,Yd,Ye,Yf,Yg,Yh,Yi,Yj,Yk,Yl,Ym,Yn,Yo,Yp,Yq,Yr,Ys,lk,ef,Yt,Yu,Yv,Yw,Yx,Yy,Yz,X0,X1,X2,X3,X4,X5,X6,X7,X8,X9,Xa,Xb,Xc,Xd,Xe,Xf,Xg,Xh,Xi,Xj,Xk,Xl,Xm,Xn,Xo,Xp,Xq,Xr,Xs,Xt,Xu,hv,Xv,ev,Xw,Xx,Xy,Xz,W0,W1,W2,W3,W4,W5,W6,W7,W8,W9,Wa,Wb,Wc,Wd,We,Wf,Wg,Wh,Wi,Wj,Wk,Wl,Wm,Wn,Wo,Wp,Wq,Wr,Ws,Wt,Wu,Wv,Value.oneCell',Ww,Wx,Wy,Wz,true_and,and_true,and_self,implies_true,V0,V1,V2,V3,false_implies,V4,V5,V6,V7,V8,V9,Va,Vb,Vc,Vd,Ve,Vf,Vg,Vh,Vi,Vj,Vk,reduceCtorEq,if_true,if_false,Vl,↓reduceIte,Vm,Vn,Vo,Vp,Vq,Vr,Vs,ne_eq,not_false_eq_true,not_true_eq_false,Vt,Vu,r33_0,r33_1,r33_2,r33_3,r33_4,r33_5,r33_6,r33_7,r33_8,r33_9,r33_11,r33_10,r33_12,r33_13,r33_14,r33_15,r33_16,r33_17,r33_18,r33_19,r33_20,r33_21,r33_23,r33_22,r33_24,r33_25,r33_26,r33_27,r33_28,r33_29,r33_30,r33_31,r33_32,r33_33,r33_34,r33_35,r33_36,r33_37,r33_38,r33_39,r33_40,r33_41,r33_42,r33_43,r33_44,p33,l33_1,w1,w2,h1,c1,c2,c3,c4,c5,g1,g2,g3,s1,s2,Zv,List.set_cons_zero]) | (exfalso; omega)
      all_goals first | omega | exact again hJ (k + 1) (weak_mk (by simp only [Vv,Vw,wk1,Vx,Vy,Vz,Z0,Z3,Z4,Z5,Z6,Z7,Z8,Z9,Za,Zb,Zc,Zd,Ze,Zf,Zg,Zh,List.cons.injEq,Zi,Zj,Zk,Zl,Zm,Zn,Zo,Zp,Zq,Zr,beq_self_eq_true,bne_self_eq_false,decide_true,decide_false,Zs,Zt,Zu,Zv,Zw,Zx,Zy,Zz,Y0,Y1,Y2,Y3,Y4,Y5,Y6,Y7,Y8,Y9,Ya,Yb,Yc,Yd,Ye,Yf,Yg,Yh,Yi,Yj,Yk,Yl,Ym,Yn,Yo,Yp,Yq,Yr,Ys,lk,ef,Yt,Yu,Yv,Yw,Yx,Yy,Yz,X0,X1,X2,X3,X4,X5,X6,X7,X8,X9,Xa,Xb,Xc,Xd,Xe,Xf,Xg,Xh,Xi,Xj,Xk,Xl,Xm,Xn,Xo,Xp,Xq,Xr,Xs,Xt,Xu,hv,Xv,ev,Xw,Xx,Xy,Xz,W0,W1,W2,W3,W4,W5,W6,W7,W8,W9,Wa,Wb,Wc,Wd,We,Wf,Wg,Wh,Wi,Wj,Wk,Wl,Wm,Wn,Wo,Wp,Wq,Wr,Ws,Wt,Wu,Wv,Value.oneCell',Ww,Wx,Wy,Wz,true_and,and_true,and_self,implies_true,V0,V1,V2,V3,false_implies,V4,V5,V6,V7,V8,V9,Va,Vb,Vc,Vd,Ve,Vf,Vg,Vh,Vi,Vj,Vk,reduceCtorEq,if_true,if_false,Vl,↓reduceIte,Vm,Vn,Vo,Vp,Vq,Vr,Vs,ne_eq,not_false_eq_true,not_true_eq_false,Vt,Nat.zero_ne_one]; all_goals first | done | rfl)) (by omega) (by omega) | trace_state
    · have hke : k = i := by omega
      subst hke
      have h1 : ¬ ((q + k : Nat) : Int) < ((q + k : Nat) : Int) := by omega
      rw [hres]
      clear hJ
      repeat' first | ((with_reducible (first | refine condD ?_ ?_ | refine condE ?_ ?_ | refine condN ?_ ?_ | refine condI ?_ ?_ | refine condS ?_ ?_)) <;> intro h) | ((with_reducible (first | refine guardD (by with_unfolding_all rfl) ?_ ?_ | refine guardE (by with_unfolding_all rfl) ?_ ?_ | refine guardN (by with_unfolding_all rfl) ?_ ?_ | refine guardI (by with_unfolding_all rfl) ?_ ?_ | refine guardS (by with_unfolding_all rfl) ?_ ?_)) <;> intro h) | (with_reducible refine And.intro ?_ ?_; omega) | (simp only [Z0,Z3,Z4,Z5,Z6,Z7,Z8,Z9,Za,Zb,Zc,Zd,Ze,Zf,Zg,Zh,List.cons.injEq,Zi,Zj,Zk,Zl,Zm,Zn,Zo,Zp,Zq,Zr,beq_self_eq_true,bne_self_eq_false,decide_true,decide_false,Zs,Zt,Zu,Zv,Zw,Zx,Zy,Zz,Y0,Y1,Y2,Y3,Y4,Y5,Y6,Y7,Y8,Y9,Ya,Yb,Yc,Yd,Ye,Yf,Yg,Yh,Yi,Yj,Yk,Yl,Ym,Yn,Yo,Yp,Yq,Yr,Ys,lk,ef,Yt,Yu,Yv,Yw,Yx,Yy,Yz,X0,X1,X2,X3,X4,X5,X6,X7,X8,X9,Xa,Xb,Xc,Xd,Xe,Xf,Xg,Xh,Xi,Xj,Xk,Xl,Xm,Xn,Xo,Xp,Xq,Xr,Xs,Xt,Xu,hv,Xv,ev,Xw,Xx,Xy,Xz,W0,W1,W2,W3,W4,W5,W6,W7,W8,W9,Wa,Wb,Wc,Wd,We,Wf,Wg,Wh,Wi,Wj,Wk,Wl,Wm,Wn,Wo,Wp,Wq,Wr,Ws,Wt,Wu,Wv,Value.oneCell',Ww,Wx,Wy,Wz,true_and,and_true,and_self,implies_true,V0,V1,V2,V3,false_implies,V4,V5,V6,V7,V8,V9,Va,Vb,Vc,Vd,Ve,Vf,Vg,Vh,Vi,Vj,Vk,reduceCtorEq,if_true,if_false,Vl,↓reduceIte,Vm,Vn,Vo,Vp,Vq,Vr,Vs,ne_eq,not_false_eq_true,not_true_eq_false,Vt,Vu,r33_0,r33_1,r33_2,r33_3,r33_4,r33_5,r33_6,r33_7,r33_8,r33_9,r33_11,r33_10,r33_12,r33_13,r33_14,r33_15,r33_16,r33_17,r33_18,r33_19,r33_20,r33_21,r33_23,r33_22,r33_24,r33_25,r33_26,r33_27,r33_28,r33_29,r33_30,r33_31,r33_32,r33_33,r33_34,r33_35,r33_36,r33_37,r33_38,r33_39,r33_40,r33_41,r33_42,r33_43,r33_44,p33,l33_1,w1,h1,Z4,donet_eq']) | (exfalso; omega)
      all_goals first | rfl | trace_state
set_option maxHeartbeats 2000000 in
theorem symm2_c (p : List Int) (hp : KBnd p) (P L S : List Int) (y : Int) (hL : 1 < L.length) (hy : 0 ≤ y ∧ y < p.length) (hLK : InK p L) (hLs : SrtK (fK p) L) (hlt : ∀ x ∈ L, x < y) (hl : (P ++ L ++ [y] ++ S).length ≤ 100000) :
    TurnOK Try.prog 33 (.own 3 1 ((P ++ L ++ [y] ++ S).map oneI)) (.own 3 1 ((P ++ srt (fK p) (L ++ [y]) ++ S).map oneI)) [.val (.int .i64 P.length), .val (.int .i64 ((P.length + L.length : Nat) : Int)), .val (.int .i64 ((P.length + L.length + 1 : Nat) : Int)), .fnv 16 [.roAt [.ro (p.map oneI)] 0]] (.tup []) := by
  refine turn_of mixed ok33 rfl (.tup _ (by simp)) rfl ?_
  have hll : (P ++ L ++ [y] ++ S).length = P.length + L.length + 1 + S.length := by simp only [List.length_append, List.length_singleton]
  obtain ⟨Z, hZ⟩ : ∃ Z, Z = P ++ L ++ [y] ++ S := ⟨_, rfl⟩
  have hzy : Z[P.length + L.length]? = some y := by
    have := at_R (P := P) (L := L) (R := [y]) (S := S) (t := 0) (by simp)
    rw [← hZ, Nat.add_zero] at this
    exact this
  have hzl : ∀ t (h : t < L.length), Z[P.length + t]? = some L[t] := fun t h => by
    have := at_L (P := P) (L := L) (R := [y]) (S := S) h
    rw [← hZ] at this
    exact this
  obtain ⟨rk, hrk⟩ : ∃ rk : Nat → List Int, rk = fun k => P ++ (L.take k ++ y :: L.drop k) ++ S := ⟨_, rfl⟩
  have h0 : Z = rk L.length := by
    rw [hZ, hrk]
    simp only [List.take_length, List.drop_length, List.append_assoc]
  have hE : ∀ k, (∀ x ∈ L.take k, leK (fK p) x y) → (∀ x ∈ L.drop k, leK (fK p) y x) → rk k = P ++ srt (fK p) (L ++ [y]) ++ S := fun k h1 h2 => by
    rw [hrk]
    simp only
    rw [put_one (l := L ++ [y]) (by rw [List.take_append_drop]; exact hLs) h1 h2 (by rw [List.take_append_drop]; exact (List.perm_append_singleton y L).symm)]
  have hsw : ∀ t (h : t < L.length), rk (t + 1) = (P ++ L.take t) ++ L[t] :: ([] ++ y :: (L.drop (t + 1) ++ S)) ∧ rk t = (P ++ L.take t) ++ y :: ([] ++ L[t] :: (L.drop (t + 1) ++ S)) := fun t h => by
    obtain ⟨e1, e2⟩ := insertion_row (P := P) (Y := L) (R := S) (x := y) h
    rw [hrk]; exact ⟨e1, e2⟩
  have hrl : ∀ k, k ≤ L.length → (rk k).length = P.length + L.length + 1 + S.length := fun k hk => by
    rw [hrk]
    simp only [List.length_append, List.length_cons, List.length_take, List.length_drop]
    omega
  rw [← hZ] at hl ⊢
  rw [← hZ] at hll
  clear hZ hrk
  have g0 := one_get hzy
  generalize hq : P.length = q at *
  have w0 := sub_in (q + L.length) q L.length rfl (by omega)
  have w0' : IntKind.i64.wrap (((q + L.length + 1 : Nat) : Int) - ((q + L.length : Nat) : Int)) = 1 := by rw [wrap_in (by omega) (by omega)]; omega
  have hne : ((L.length : Int) == 1) = false := beq_eq_false_iff_ne.2 (by omega)
  have b0 : (0 : Int) ≤ ((q + L.length : Nat) : Int) := by omega
  have b1 : ((q + L.length : Nat) : Int) < Z.length := by omega
  repeat' first | ((with_reducible (first | refine condD ?_ ?_ | refine condE ?_ ?_ | refine condN ?_ ?_ | refine condI ?_ ?_ | refine condS ?_ ?_)) <;> intro h) | ((with_reducible (first | refine guardD (by with_unfolding_all rfl) ?_ ?_ | refine guardE (by with_unfolding_all rfl) ?_ ?_ | refine guardN (by with_unfolding_all rfl) ?_ ?_ | refine guardI (by with_unfolding_all rfl) ?_ ?_ | refine guardS (by with_unfolding_all rfl) ?_ ?_)) <;> intro h) | (with_reducible refine And.intro ?_ ?_; omega) | (simp only [Z0,Z3,Z4,Z5,Z6,Z7,Z8,Z9,Za,Zb,Zc,Zd,Ze,Zf,Zg,Zh,List.cons.injEq,Zi,Zj,Zk,Zl,Zm,Zn,Zo,Zp,Zq,Zr,beq_self_eq_true,bne_self_eq_false,decide_true,decide_false,Zs,Zt,Zu,Zv,Zw,Zx,Zy,Zz,Y0,Y1,Y2,Y3,Y4,Y5,Y6,Y7,Y8,Y9,Ya,Yb,Yc,Yd,Ye,Yf,Yg,Yh,Yi,Yj,Yk,Yl,Ym,Yn,Yo,Yp,Yq,Yr,Ys,lk,ef,Yt,Yu,Yv,Yw,Yx,Yy,Yz,X0,X1,X2,X3,X4,X5,X6,X7,X8,X9,Xa,Xb,Xc,Xd,Xe,Xf,Xg,Xh,Xi,Xj,Xk,Xl,Xm,Xn,Xo,Xp,Xq,Xr,Xs,Xt,Xu,hv,Xv,ev,Xw,Xx,Xy,Xz,W0,W1,W2,W3,W4,W5,W6,W7,W8,W9,Wa,Wb,Wc,Wd,We,Wf,Wg,Wh,Wi,Wj,Wk,Wl,Wm,Wn,Wo,Wp,Wq,Wr,Ws,Wt,Wu,Wv,Value.oneCell',Ww,Wx,Wy,Wz,true_and,and_true,and_self,implies_true,V0,V1,V2,V3,false_implies,V4,V5,V6,V7,V8,V9,Va,Vb,Vc,Vd,Ve,Vf,Vg,Vh,Vi,Vj,Vk,reduceCtorEq,if_true,if_false,Vl,↓reduceIte,Vm,Vn,Vo,Vp,Vq,Vr,Vs,ne_eq,not_false_eq_true,not_true_eq_false,Vt,Vu,r33_0,r33_1,r33_2,r33_3,r33_4,r33_5,r33_6,r33_7,r33_8,r33_9,r33_11,r33_10,r33_12,r33_13,r33_14,r33_15,r33_16,r33_17,r33_18,r33_19,r33_20,r33_21,r33_23,r33_22,r33_24,r33_25,r33_26,r33_27,r33_28,r33_29,r33_30,r33_31,r33_32,r33_33,r33_34,r33_35,r33_36,r33_37,r33_38,r33_39,r33_40,r33_41,r33_42,r33_43,r33_44,p33,w0,w0',hne]) | (exfalso; omega)
  refine loopS (fun i : Nat × Nat => mk [(0, .own 3 1 (Z.map oneI)), (2, .val (.int .i64 ((q + L.length : Nat) : Int))), (4, .fnv 16 [.roAt [.ro (p.map oneI)] 0]), (14, .val (.int .i64 ((q + i.1 : Nat) : Int))), (15, .val (.int .i64 ((q + i.2 : Nat) : Int)))])
    (fun i => i.1 ≤ i.2 ∧ i.2 ≤ L.length ∧ (i.1 = 0 ∨ ∃ h : i.1 - 1 < L.length, leK (fK p) L[i.1 - 1] y) ∧ (L.length ≤ i.2 ∨ ∃ h : i.2 < L.length, leK (fK p) y L[i.2])) (fun i => i.2 - i.1) (0, L.length) (weak_mk ?_) ⟨Nat.zero_le _, Nat.le_refl _, .inl rfl, .inl (by simp only; omega)⟩ ?_
  · simp only [Vv,Vw,wk1,Vx,Vy,Vz,Z0,Z3,Z4,Z5,Z6,Z7,Z8,Z9,Za,Zb,Zc,Zd,Ze,Zf,Zg,Zh,List.cons.injEq,Zi,Zj,Zk,Zl,Zm,Zn,Zo,Zp,Zq,Zr,beq_self_eq_true,bne_self_eq_false,decide_true,decide_false,Zs,Zt,Zu,Zv,Zw,Zx,Zy,Zz,Y0,Y1,Y2,Y3,Y4,Y5,Y6,Y7,Y8,Y9,Ya,Yb,Yc,Yd,Ye,Yf,Yg,Yh,Yi,Yj,Yk,Yl,Ym,Yn,Yo,Yp,Yq,Yr,Ys,lk,ef,Yt,Yu,Yv,Yw,Yx,Yy,Yz,X0,X1,X2,X3,X4,X5,X6,X7,X8,X9,Xa,Xb,Xc,Xd,Xe,Xf,Xg,Xh,Xi,Xj,Xk,Xl,Xm,Xn,Xo,Xp,Xq,Xr,Xs,Xt,Xu,hv,Xv,ev,Xw,Xx,Xy,Xz,W0,W1,W2,W3,W4,W5,W6,W7,W8,W9,Wa,Wb,Wc,Wd,We,Wf,Wg,Wh,Wi,Wj,Wk,Wl,Wm,Wn,Wo,Wp,Wq,Wr,Ws,Wt,Wu,Wv,Value.oneCell',Ww,Wx,Wy,Wz,true_and,and_true,and_self,implies_true,V0,V1,V2,V3,false_implies,V4,V5,V6,V7,V8,V9,Va,Vb,Vc,Vd,Ve,Vf,Vg,Vh,Vi,Vj,Vk,reduceCtorEq,if_true,if_false,Vl,↓reduceIte,Vm,Vn,Vo,Vp,Vq,Vr,Vs,ne_eq,not_false_eq_true,not_true_eq_false,Vt,Nat.zero_ne_one]
    all_goals first | done | rfl | exact ⟨rfl, rfl⟩
  rintro J hJ ⟨i, j⟩ ⟨hij, hjn, hi, hj⟩
  simp only at hij hjn hi hj
  simp only [Z0,Z3,Z4,Z5,Z6,Z7,Z8,Z9,Za,Zb,Zc,Zd,Ze,Zf,Zg,Zh,List.cons.injEq,Zi,Zj,Zk,Zl,Zm,Zn,Zo,Zp,Zq,Zr,beq_self_eq_true,bne_self_eq_false,decide_true,decide_false,Zs,Zt,Zu,Zv,Zw,Zx,Zy,Zz,Y0,Y1,Y2,Y3,Y4,Y5,Y6,Y7,Y8,Y9,Ya,Yb,Yc,Yd,Ye,Yf,Yg,Yh,Yi,Yj,Yk,Yl,Ym,Yn,Yo,Yp,Yq,Yr,Ys,lk,ef,Yt,Yu,Yv,Yw,Yx,Yy,Yz,X0,X1,X2,X3,X4,X5,X6,X7,X8,X9,Xa,Xb,Xc,Xd,Xe,Xf,Xg,Xh,Xi,Xj,Xk,Xl,Xm,Xn,Xo,Xp,Xq,Xr,Xs,Xt,Xu,hv,Xv,ev,Xw,Xx,Xy,Xz,W0,W1,W2,W3,W4,W5,W6,W7,W8,W9,Wa,Wb,Wc,Wd,We,Wf,Wg,Wh,Wi,Wj,Wk,Wl,Wm,Wn,Wo,Wp,Wq,Wr,Ws,Wt,Wu,Wv,Value.oneCell',Ww,Wx,Wy,Wz,true_and,and_true,and_self,implies_true,V0,V1,V2,V3,false_implies,V4,V5,V6,V7,V8,V9,Va,Vb,Vc,Vd,Ve,Vf,Vg,Vh,Vi,Vj,Vk,reduceCtorEq,if_true,if_false,Vl,↓reduceIte,Vm,Vn,Vo,Vp,Vq,Vr,Vs,ne_eq,not_false_eq_true,not_true_eq_false,Vt,Vu,r33_0,r33_1,r33_2,r33_3,r33_4,r33_5,r33_6,r33_7,r33_8,r33_9,r33_11,r33_10,r33_12,r33_13,r33_14,r33_15,r33_16,r33_17,r33_18,r33_19,r33_20,r33_21,r33_23,r33_22,r33_24,r33_25,r33_26,r33_27,r33_28,r33_29,r33_30,r33_31,r33_32,r33_33,r33_34,r33_35,r33_36,r33_37,r33_38,r33_39,r33_40,r33_41,r33_42,r33_43,r33_44,p33,l33_2]
  refine condD (fun h => ?_) (fun h => ?_)
  · have hlt2 : i < j := by omega
    obtain ⟨c, hc⟩ : ∃ c, c = (i + j) / 2 := ⟨_, rfl⟩
    have hc1 : i ≤ c := by omega
    have hc2 : c < j := by omega
    have hcL : c < L.length := by omega
    have s1 := sum_in (q + i) (q + j) (by omega) (by omega)
    have s2 := u64_in (n := q + i + (q + j)) (by omega)
    have s3 := half_2 q i j
    rw [← hc] at s3
    have s4 := i64_in (n := q + c) (by omega)
    have s5 : IntKind.i64.wrap (((q + c : Nat) : Int) + 1) = ((q + (c + 1) : Nat) : Int) := by rw [wrap_in (by omega) (by omega)]; omega
    have g1 := one_get (hzl c hcL)
    have c1 : (0 : Int) ≤ ((q + c : Nat) : Int) := by omega
    have c2 : ((q + c : Nat) : Int) < Z.length := by omega
    have hm := List.getElem_mem hcL
    have hcm := cmp_c p y L[c] hp hy (hLK _ hm)
    have hly := hlt _ hm
    by_cases ht : fK p y < fK p L[c]
    · have ht' : fK p y - fK p L[c] < 0 := by omega
      repeat' first | ((with_reducible (first | refine condD ?_ ?_ | refine condE ?_ ?_ | refine condN ?_ ?_ | refine condI ?_ ?_ | refine condS ?_ ?_)) <;> intro h) | ((with_reducible (first | refine guardD (by with_unfolding_all rfl) ?_ ?_ | refine guardE (by with_unfolding_all rfl) ?_ ?_ | refine guardN (by with_unfolding_all rfl) ?_ ?_ | refine guardI (by with_unfolding_all rfl) ?_ ?_ | refine guardS (by with_unfolding_all rfl) ?_ ?_)) <;> intro h) | ((refine callcG (by kernel_rfl) hcm (.val _) ?_)) | (with_reducible refine And.intro ?_ ?_; omega) | (simp only [Z0,Z3,Z4,Z5,Z6,Z7,Z8,Z9,Za,Zb,Zc,Zd,Ze,Zf,Zg,Zh,List.cons.injEq,Zi,Zj,Zk,Zl,Zm,Zn,Zo,Zp,Zq,Zr,beq_self_eq_true,bne_self_eq_false,decide_true,decide_false,Zs,Zt,Zu,Zv,Zw,Zx,Zy,Zz,Y0,Y1,Y2,Y3,Y4,Y5,Y6,Y7,Y8,Y9,Ya,Yb,Yc,Yd,Ye,Yf,Yg,Yh,Yi,Yj,Yk,Yl,Ym,Yn,Yo,Yp,Yq,Yr,Ys,lk,ef,Yt,Yu,Yv,Yw,Yx,Yy,Yz,X0,X1,X2,X3,X4,X5,X6,X7,X8,X9,Xa,Xb,Xc,Xd,Xe,Xf,Xg,Xh,Xi,Xj,Xk,Xl,Xm,Xn,Xo,Xp,Xq,Xr,Xs,Xt,Xu,hv,Xv,ev,Xw,Xx,Xy,Xz,W0,W1,W2,W3,W4,W5,W6,W7,W8,W9,Wa,Wb,Wc,Wd,We,Wf,Wg,Wh,Wi,Wj,Wk,Wl,Wm,Wn,Wo,Wp,Wq,Wr,Ws,Wt,Wu,Wv,Value.oneCell',Ww,Wx,Wy,Wz,true_and,and_true,and_self,implies_true,V0,V1,V2,V3,false_implies,V4,V5,V6,V7,V8,V9,Va,Vb,Vc,Vd,Ve,Vf,Vg,Vh,Vi,Vj,Vk,reduceCtorEq,if_true,if_false,Vl,↓reduceIte,Vm,Vn,Vo,Vp,Vq,Vr,Vs,ne_eq,not_false_eq_true,not_true_eq_false,Vt,Vu,r33_0,r33_1,r33_2,r33_3,r33_4,r33_5,r33_6,r33_7,r33_8,r33_9,r33_11,r33_10,r33_12,r33_13,r33_14,r33_15,r33_16,r33_17,r33_18,r33_19,r33_20,r33_21,r33_23,r33_22,r33_24,r33_25,r33_26,r33_27,r33_28,r33_29,r33_30,r33_31,r33_32,r33_33,r33_34,r33_35,r33_36,r33_37,r33_38,r33_39,r33_40,r33_41,r33_42,r33_43,r33_44,p33,l33_2,s1,s2,s3,s4,s5,g0,g1,b0,b1,c1,c2,ht',List.length_map]) | (exfalso; omega)
      all_goals first | omega | exact again hJ (i, c) (weak_mk (by simp only [Vv,Vw,wk1,Vx,Vy,Vz,Z0,Z3,Z4,Z5,Z6,Z7,Z8,Z9,Za,Zb,Zc,Zd,Ze,Zf,Zg,Zh,List.cons.injEq,Zi,Zj,Zk,Zl,Zm,Zn,Zo,Zp,Zq,Zr,beq_self_eq_true,bne_self_eq_false,decide_true,decide_false,Zs,Zt,Zu,Zv,Zw,Zx,Zy,Zz,Y0,Y1,Y2,Y3,Y4,Y5,Y6,Y7,Y8,Y9,Ya,Yb,Yc,Yd,Ye,Yf,Yg,Yh,Yi,Yj,Yk,Yl,Ym,Yn,Yo,Yp,Yq,Yr,Ys,lk,ef,Yt,Yu,Yv,Yw,Yx,Yy,Yz,X0,X1,X2,X3,X4,X5,X6,X7,X8,X9,Xa,Xb,Xc,Xd,Xe,Xf,Xg,Xh,Xi,Xj,Xk,Xl,Xm,Xn,Xo,Xp,Xq,Xr,Xs,Xt,Xu,hv,Xv,ev,Xw,Xx,Xy,Xz,W0,W1,W2,W3,W4,W5,W6,W7,W8,W9,Wa,Wb,Wc,Wd,We,Wf,Wg,Wh,Wi,Wj,Wk,Wl,Wm,Wn,Wo,Wp,Wq,Wr,Ws,Wt,Wu,Wv,Value.oneCell',Ww,Wx,Wy,Wz,true_and,and_true,and_self,implies_true,V0,V1,V2,V3,false_implies,V4,V5,V6,V7,V8,V9,Va,Vb,Vc,Vd,Ve,Vf,Vg,Vh,Vi,Vj,Vk,reduceCtorEq,if_true,if_false,Vl,↓reduceIte,Vm,Vn,Vo,Vp,Vq,Vr,Vs,ne_eq,not_false_eq_true,not_true_eq_false,Vt,Nat.zero_ne_one]; all_goals first | done | rfl)) ⟨hc1, by simp only; omega, hi, .inr ⟨hcL, .inl ht⟩⟩ (by simp only; omega) | trace_state
    · have ht' : ¬ fK p y - fK p L[c] < 0 := by omega
      have hle : leK (fK p) L[c] y := by unfold leK; omega
      repeat' first | ((with_reducible (first | refine condD ?_ ?_ | refine condE ?_ ?_ | refine condN ?_ ?_ | refine condI ?_ ?_ | refine condS ?_ ?_)) <;> intro h) | ((with_reducible (first | refine guardD (by with_unfolding_all rfl) ?_ ?_ | refine guardE (by with_unfolding_all rfl) ?_ ?_ | refine guardN (by with_unfolding_all rfl) ?_ ?_ | refine guardI (by with_unfolding_all rfl) ?_ ?_ | refine guardS (by with_unfolding_all rfl) ?_ ?_)) <;> intro h) | ((refine callcG (by kernel_rfl) hcm (.val _) ?_)) | (with_reducible refine And.intro ?_ ?_; omega) | (simp only [Z0,Z3,Z4,Z5,Z6,Z7,Z8,Z9,Za,Zb,Zc,Zd,Ze,Zf,Zg,Zh,List.cons.injEq,Zi,Zj,Zk,Zl,Zm,Zn,Zo,Zp,Zq,Zr,beq_self_eq_true,bne_self_eq_false,decide_true,decide_false,Zs,Zt,Zu,Zv,Zw,Zx,Zy,Zz,Y0,Y1,Y2,Y3,Y4,Y5,Y6,Y7,Y8,Y9,Ya,Yb,Yc,Yd,Ye,Yf,Yg,Yh,Yi,Yj,Yk,Yl,Ym,Yn,Yo,Yp,Yq,Yr,Ys,lk,ef,Yt,Yu,Yv,Yw,Yx,Yy,Yz,X0,X1,X2,X3,X4,X5,X6,X7,X8,X9,Xa,Xb,Xc,Xd,Xe,Xf,Xg,Xh,Xi,Xj,Xk,Xl,Xm,Xn,Xo,Xp,Xq,Xr,Xs,Xt,Xu,hv,Xv,ev,Xw,Xx,Xy,Xz,W0,W1,W2,W3,W4,W5,W6,W7,W8,W9,Wa,Wb,Wc,Wd,We,Wf,Wg,Wh,Wi,Wj,Wk,Wl,Wm,Wn,Wo,Wp,Wq,Wr,Ws,Wt,Wu,Wv,Value.oneCell',Ww,Wx,Wy,Wz,true_and,and_true,and_self,implies_true,V0,V1,V2,V3,false_implies,V4,V5,V6,V7,V8,V9,Va,Vb,Vc,Vd,Ve,Vf,Vg,Vh,Vi,Vj,Vk,reduceCtorEq,if_true,if_false,Vl,↓reduceIte,Vm,Vn,Vo,Vp,Vq,Vr,Vs,ne_eq,not_false_eq_true,not_true_eq_false,Vt,Vu,r33_0,r33_1,r33_2,r33_3,r33_4,r33_5,r33_6,r33_7,r33_8,r33_9,r33_11,r33_10,r33_12,r33_13,r33_14,r33_15,r33_16,r33_17,r33_18,r33_19,r33_20,r33_21,r33_23,r33_22,r33_24,r33_25,r33_26,r33_27,r33_28,r33_29,r33_30,r33_31,r33_32,r33_33,r33_34,r33_35,r33_36,r33_37,r33_38,r33_39,r33_40,r33_41,r33_42,r33_43,r33_44,p33,l33_2,s1,s2,s3,s4,s5,g0,g1,b0,b1,c1,c2,ht',List.length_map]) | (exfalso; omega)
      all_goals first | omega | exact again hJ (c + 1, j) (weak_mk (by simp only [Vv,Vw,wk1,Vx,Vy,Vz,Z0,Z3,Z4,Z5,Z6,Z7,Z8,Z9,Za,Zb,Zc,Zd,Ze,Zf,Zg,Zh,List.cons.injEq,Zi,Zj,Zk,Zl,Zm,Zn,Zo,Zp,Zq,Zr,beq_self_eq_true,bne_self_eq_false,decide_true,decide_false,Zs,Zt,Zu,Zv,Zw,Zx,Zy,Zz,Y0,Y1,Y2,Y3,Y4,Y5,Y6,Y7,Y8,Y9,Ya,Yb,Yc,Yd,Ye,Yf,Yg,Yh,Yi,Yj,Yk,Yl,Ym,Yn,Yo,Yp,Yq,Yr,Ys,lk,ef,Yt,Yu,Yv,Yw,Yx,Yy,Yz,X0,X1,X2,X3,X4,X5,X6,X7,X8,X9,Xa,Xb,Xc,Xd,Xe,Xf,Xg,Xh,Xi,Xj,Xk,Xl,Xm,Xn,Xo,Xp,Xq,Xr,Xs,Xt,Xu,hv,Xv,ev,Xw,Xx,Xy,Xz,W0,W1,W2,W3,W4,W5,W6,W7,W8,W9,Wa,Wb,Wc,Wd,We,Wf,Wg,Wh,Wi,Wj,Wk,Wl,Wm,Wn,Wo,Wp,Wq,Wr,Ws,Wt,Wu,Wv,Value.oneCell',Ww,Wx,Wy,Wz,true_and,and_true,and_self,implies_true,V0,V1,V2,V3,false_implies,V4,V5,V6,V7,V8,V9,Va,Vb,Vc,Vd,Ve,Vf,Vg,Vh,Vi,Vj,Vk,reduceCtorEq,if_true,if_false,Vl,↓reduceIte,Vm,Vn,Vo,Vp,Vq,Vr,Vs,ne_eq,not_false_eq_true,not_true_eq_false,Vt,Nat.zero_ne_one]; all_goals first | done | rfl)) ⟨by simp only; omega, hjn, .inr ⟨hcL, hle⟩, hj⟩ (by simp only; omega) | trace_state
  · have hije : i = j := by omega
    subst hije
    have hres := hE i (take_bd hLs hi) (drop_bd hLs hj)
    rw [h0]
    clear hJ hzy hzl g0 hi hj h
    repeat' first | ((with_reducible (first | refine condD ?_ ?_ | refine condE ?_ ?_ | refine condN ?_ ?_ | refine condI ?_ ?_ | refine condS ?_ ?_)) <;> intro h) | ((with_reducible (first | refine guardD (by with_unfolding_all rfl) ?_ ?_ | refine guardE (by with_unfolding_all rfl) ?_ ?_ | refine guardN (by with_unfolding_all rfl) ?_ ?_ | refine guardI (by with_unfolding_all rfl) ?_ ?_ | refine guardS (by with_unfolding_all rfl) ?_ ?_)) <;> intro h) | (with_reducible refine And.intro ?_ ?_; omega) | (simp only [Z0,Z3,Z4,Z5,Z6,Z7,Z8,Z9,Za,Zb,Zc,Zd,Ze,Zf,Zg,Zh,List.cons.injEq,Zi,Zj,Zk,Zl,Zm,Zn,Zo,Zp,Zq,Zr,beq_self_eq_true,bne_self_eq_false,decide_true,decide_false,Zs,Zt,Zu,Zv,Zw,Zx,Zy,Zz,Y0,Y1,Y2,Y3,Y4,Y5,Y6,Y7,Y8,Y9,Ya,Yb,Yc,Yd,Ye,Yf,Yg,Yh,Yi,Yj,Yk,Yl,Ym,Yn,Yo,Yp,Yq,Yr,Ys,lk,ef,Yt,Yu,Yv,Yw,Yx,Yy,Yz,X0,X1,X2,X3,X4,X5,X6,X7,X8,X9,Xa,Xb,Xc,Xd,Xe,Xf,Xg,Xh,Xi,Xj,Xk,Xl,Xm,Xn,Xo,Xp,Xq,Xr,Xs,Xt,Xu,hv,Xv,ev,Xw,Xx,Xy,Xz,W0,W1,W2,W3,W4,W5,W6,W7,W8,W9,Wa,Wb,Wc,Wd,We,Wf,Wg,Wh,Wi,Wj,Wk,Wl,Wm,Wn,Wo,Wp,Wq,Wr,Ws,Wt,Wu,Wv,Value.oneCell',Ww,Wx,Wy,Wz,true_and,and_true,and_self,implies_true,V0,V1,V2,V3,false_implies,V4,V5,V6,V7,V8,V9,Va,Vb,Vc,Vd,Ve,Vf,Vg,Vh,Vi,Vj,Vk,reduceCtorEq,if_true,if_false,Vl,↓reduceIte,Vm,Vn,Vo,Vp,Vq,Vr,Vs,ne_eq,not_false_eq_true,not_true_eq_false,Vt,Vu,r33_0,r33_1,r33_2,r33_3,r33_4,r33_5,r33_6,r33_7,r33_8,r33_9,r33_11,r33_10,r33_12,r33_13,r33_14,r33_15,r33_16,r33_17,r33_18,r33_19,r33_20,r33_21,r33_23,r33_22,r33_24,r33_25,r33_26,r33_27,r33_28,r33_29,r33_30,r33_31,r33_32,r33_33,r33_34,r33_35,r33_36,r33_37,r33_38,r33_39,r33_40,r33_41,r33_42,r33_43,r33_44,p33,l33_2]) | (exfalso; omega)
    refine loopS (fun k : Nat => mk [(0, .own 3 1 ((rk k).map oneI)), (14, .val (.int .i64 ((q + i : Nat) : Int))), (17, .val (.int .i64 ((q + k : Nat) : Int)))]) (fun k => i ≤ k ∧ k ≤ L.length) (fun k => k) L.length (weak_mk ?_) ⟨hjn, Nat.le_refl _⟩ ?_
    · simp only [Vv,Vw,wk1,Vx,Vy,Vz,Z0,Z3,Z4,Z5,Z6,Z7,Z8,Z9,Za,Zb,Zc,Zd,Ze,Zf,Zg,Zh,List.cons.injEq,Zi,Zj,Zk,Zl,Zm,Zn,Zo,Zp,Zq,Zr,beq_self_eq_true,bne_self_eq_false,decide_true,decide_false,Zs,Zt,Zu,Zv,Zw,Zx,Zy,Zz,Y0,Y1,Y2,Y3,Y4,Y5,Y6,Y7,Y8,Y9,Ya,Yb,Yc,Yd,Ye,Yf,Yg,Yh,Yi,Yj,Yk,Yl,Ym,Yn,Yo,Yp,Yq,Yr,Ys,lk,ef,Yt,Yu,Yv,Yw,Yx,Yy,Yz,X0,X1,X2,X3,X4,X5,X6,X7,X8,X9,Xa,Xb,Xc,Xd,Xe,Xf,Xg,Xh,Xi,Xj,Xk,Xl,Xm,Xn,Xo,Xp,Xq,Xr,Xs,Xt,Xu,hv,Xv,ev,Xw,Xx,Xy,Xz,W0,W1,W2,W3,W4,W5,W6,W7,W8,W9,Wa,Wb,Wc,Wd,We,Wf,Wg,Wh,Wi,Wj,Wk,Wl,Wm,Wn,Wo,Wp,Wq,Wr,Ws,Wt,Wu,Wv,Value.oneCell',Ww,Wx,Wy,Wz,true_and,and_true,and_self,implies_true,V0,V1,V2,V3,false_implies,V4,V5,V6,V7,V8,V9,Va,Vb,Vc,Vd,Ve,Vf,Vg,Vh,Vi,Vj,Vk,reduceCtorEq,if_true,if_false,Vl,↓reduceIte,Vm,Vn,Vo,Vp,Vq,Vr,Vs,ne_eq,not_false_eq_true,not_true_eq_false,Vt,Nat.zero_ne_one]
      all_goals first | done | rfl | exact ⟨rfl, rfl⟩
    rintro J hJ k ⟨hk1, hk2⟩
    by_cases hki : i < k
    · obtain ⟨t, rfl⟩ : ∃ t, k = t + 1 := ⟨k - 1, by omega⟩
      have hkL : t < L.length := by omega
      obtain ⟨z1, z2⟩ := hsw t hkL
      have hQ : (P ++ L.take t).length = q + t := by rw [List.length_append, List.length_take]; omega
      obtain ⟨⟨g1, g2⟩, _, ⟨Z2, s1, l1, g3, s2⟩⟩ := swp_facts z1 hQ (show q + t + 1 + ([] : List Int).length = q + (t + 1) by simp; omega)
      rw [← z2] at s2
      have hZl := hrl (t + 1) (by omega)
      have h1 : ((q + i : Nat) : Int) < ((q + (t + 1) : Nat) : Int) := by omega
      have w2 : IntKind.i64.wrap (((q + (t + 1) : Nat) : Int) - 1) = ((q + t : Nat) : Int) := by rw [wrap_in (by omega) (by omega)]; omega
      have c1 : (0 : Int) ≤ ((q + t : Nat) : Int) := by omega
      have c2 : ((q + t : Nat) : Int) < (rk (t + 1)).length := by omega
      have c3 : (0 : Int) ≤ ((q + (t + 1) : Nat) : Int) := by omega
      have c4 : ((q + (t + 1) : Nat) : Int) < (rk (t + 1)).length := by omega
      have c5 : ((q + t : Nat) : Int) < Z2.length := by omega
      repeat' first | ((with_reducible (first | refine condD ?_ ?_ | refine condE ?_ ?_ | refine condN ?_ ?_ | refine condI ?_ ?_ | refine condS ?_ ?_)) <;> intro h) | ((with_reducible (first | refine guardD (by with_unfolding_all rfl) ?_ ?_ | refine guardE (by with_unfolding_all rfl) ?_ ?_ | refine guardN (by with_unfolding_all rfl) ?_ ?_ | refine guardI (by with_unfolding_all rfl) ?_ ?_ | refine guardS (by with_unfolding_all rfl) ?_ ?_)) <;> intro h) | (with_reducible refine And.intro ?_ ?_; omega) | (simp only [Z0,Z3,Z4,Z5,Z6,Z7,Z8,Z9,Za,Zb,Zc,Zd,Ze,Zf,Zg,Zh,List.cons.injEq,Zi,Zj,Zk,Zl,Zm,Zn,Zo,Zp,Zq,Zr,beq_self_eq_true,bne_self_eq_false,decide_true,decide_false,Zs,Zt,Zu,Zv,Zw,Zx,Zy,Zz,Y0,Y1,Y2,Y3,Y4,Y5,Y6,Y7,Y8,Y9,Ya,Yb,Yc,Yd,Ye,Yf,Yg,Yh,Yi,Yj,Yk,Yl,Ym,Yn,Yo,Yp,Yq,Yr,Ys,lk,ef,Yt,Yu,Yv,Yw,Yx,Yy,Yz,X0,X1,X2,X3,X4,X5,X6,X7,X8,X9,Xa,Xb,Xc,Xd,Xe,Xf,Xg,Xh,Xi,Xj,Xk,Xl,Xm,Xn,Xo,Xp,Xq,Xr,Xs,Xt,Xu,hv,Xv,ev,Xw,Xx,Xy,Xz,W0,W1,W2,W3,W4,W5,W6,W7,W8,W9,Wa,Wb,Wc,Wd,We,Wf,Wg,Wh,Wi,Wj,Wk,Wl,Wm,Wn,Wo,Wp,Wq,Wr,Ws,Wt,Wu,Wv,Value.oneCell',Ww,Wx,Wy,Wz,true_and,and_true,and_self,implies_true,V0,V1,V2,V3,false_implies,V4,V5,V6,V7,V8,V9,Va,Vb,Vc,Vd,Ve,Vf,Vg,Vh,Vi,Vj,Vk,reduceCtorEq,if_true,if_false,Vl,↓reduceIte,Vm,Vn,Vo,Vp,Vq,Vr,Vs,ne_eq,not_false_eq_true,not_true_eq_false,Vt,Vu,r33_0,r33_1,r33_2,r33_3,r33_4,r33_5,r33_6,r33_7,r33_8,r33_9,r33_11,r33_10,r33_12,r33_13,r33_14,r33_15,r33_16,r33_17,r33_18,r33_19,r33_20,r33_21,r33_23,r33_22,r33_24,r33_25,r33_26,r33_27,r33_28,r33_29,r33_30,r33_31,r33_32,r33_33,r33_34,r33_35,r33_36,r33_37,r33_38,r33_39,r33_40,r33_41,r33_42,r33_43,r33_44,p33,l33_3,w2,h1,c1,c2,c3,c4,c5,g1,g2,g3,s1,s2,Zv,List.set_cons_zero]) | (exfalso; omega)
      all_goals first | omega | exact again hJ t (weak_mk (by simp only [Vv,Vw,wk1,Vx,Vy,Vz,Z0,Z3,Z4,Z5,Z6,Z7,Z8,Z9,Za,Zb,Zc,Zd,Ze,Zf,Zg,Zh,List.cons.injEq,Zi,Zj,Zk,Zl,Zm,Zn,Zo,Zp,Zq,Zr,beq_self_eq_true,bne_self_eq_false,decide_true,decide_false,Zs,Zt,Zu,Zv,Zw,Zx,Zy,Zz,Y0,Y1,Y2,Y3,Y4,Y5,Y6,Y7,Y8,Y9,Ya,Yb,Yc,Yd,Ye,Yf,Yg,Yh,Yi,Yj,Yk,Yl,Ym,Yn,Yo,Yp,Yq,Yr,Ys,lk,ef,Yt,Yu,Yv,Yw,Yx,Yy,Yz,X0,X1,X2,X3,X4,X5,X6,X7,X8,X9,Xa,Xb,Xc,Xd,Xe,Xf,Xg,Xh,Xi,Xj,Xk,Xl,Xm,Xn,Xo,Xp,Xq,Xr,Xs,Xt,Xu,hv,Xv,ev,Xw,Xx,Xy,Xz,W0,W1,W2,W3,W4,W5,W6,W7,W8,W9,Wa,Wb,Wc,Wd,We,Wf,Wg,Wh,Wi,Wj,Wk,Wl,Wm,Wn,Wo,Wp,Wq,Wr,Ws,Wt,Wu,Wv,Value.oneCell',Ww,Wx,Wy,Wz,true_and,and_true,and_self,implies_true,V0,V1,V2,V3,false_implies,V4,V5,V6,V7,V8,V9,Va,Vb,Vc,Vd,Ve,Vf,Vg,Vh,Vi,Vj,Vk,reduceCtorEq,if_true,if_false,Vl,↓reduceIte,Vm,Vn,Vo,Vp,Vq,Vr,Vs,ne_eq,not_false_eq_true,not_true_eq_false,Vt,Nat.zero_ne_one]; all_goals first | done | rfl)) (by omega) (by omega) | trace_state
    · have hke : k = i := by omega
      subst hke
      have h1 : ¬ ((q + k : Nat) : Int) < ((q + k : Nat) : Int) := by omega
      rw [hres]
      clear hJ
      repeat' first | ((with_reducible (first | refine condD ?_ ?_ | refine condE ?_ ?_ | refine condN ?_ ?_ | refine condI ?_ ?_ | refine condS ?_ ?_)) <;> intro h) | ((with_reducible (first | refine guardD (by with_unfolding_all rfl) ?_ ?_ | refine guardE (by with_unfolding_all rfl) ?_ ?_ | refine guardN (by with_unfolding_all rfl) ?_ ?_ | refine guardI (by with_unfolding_all rfl) ?_ ?_ | refine guardS (by with_unfolding_all rfl) ?_ ?_)) <;> intro h) | (with_reducible refine And.intro ?_ ?_; omega) | (simp only [Z0,Z3,Z4,Z5,Z6,Z7,Z8,Z9,Za,Zb,Zc,Zd,Ze,Zf,Zg,Zh,List.cons.injEq,Zi,Zj,Zk,Zl,Zm,Zn,Zo,Zp,Zq,Zr,beq_self_eq_true,bne_self_eq_false,decide_true,decide_false,Zs,Zt,Zu,Zv,Zw,Zx,Zy,Zz,Y0,Y1,Y2,Y3,Y4,Y5,Y6,Y7,Y8,Y9,Ya,Yb,Yc,Yd,Ye,Yf,Yg,Yh,Yi,Yj,Yk,Yl,Ym,Yn,Yo,Yp,Yq,Yr,Ys,lk,ef,Yt,Yu,Yv,Yw,Yx,Yy,Yz,X0,X1,X2,X3,X4,X5,X6,X7,X8,X9,Xa,Xb,Xc,Xd,Xe,Xf,Xg,Xh,Xi,Xj,Xk,Xl,Xm,Xn,Xo,Xp,Xq,Xr,Xs,Xt,Xu,hv,Xv,ev,Xw,Xx,Xy,Xz,W0,W1,W2,W3,W4,W5,W6,W7,W8,W9,Wa,Wb,Wc,Wd,We,Wf,Wg,Wh,Wi,Wj,Wk,Wl,Wm,Wn,Wo,Wp,Wq,Wr,Ws,Wt,Wu,Wv,Value.oneCell',Ww,Wx,Wy,Wz,true_and,and_true,and_self,implies_true,V0,V1,V2,V3,false_implies,V4,V5,V6,V7,V8,V9,Va,Vb,Vc,Vd,Ve,Vf,Vg,Vh,Vi,Vj,Vk,reduceCtorEq,if_true,if_false,Vl,↓reduceIte,Vm,Vn,Vo,Vp,Vq,Vr,Vs,ne_eq,not_false_eq_true,not_true_eq_false,Vt,Vu,r33_0,r33_1,r33_2,r33_3,r33_4,r33_5,r33_6,r33_7,r33_8,r33_9,r33_11,r33_10,r33_12,r33_13,r33_14,r33_15,r33_16,r33_17,r33_18,r33_19,r33_20,r33_21,r33_23,r33_22,r33_24,r33_25,r33_26,r33_27,r33_28,r33_29,r33_30,r33_31,r33_32,r33_33,r33_34,r33_35,r33_36,r33_37,r33_38,r33_39,r33_40,r33_41,r33_42,r33_43,r33_44,p33,l33_3,h1,Z4,donet_eq']) | (exfalso; omega)
      all_goals first | rfl | trace_state
end Go.Proofs.Ytbdcnooafacldaa
