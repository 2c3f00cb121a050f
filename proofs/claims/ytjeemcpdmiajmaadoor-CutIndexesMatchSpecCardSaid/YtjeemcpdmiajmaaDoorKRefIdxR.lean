/- The reference's index: headendref4's ReadIndex, by the machine on data. -/
import Derived.Test.YtjeemcpdmiajmaaDoorKRefIdxC
namespace Go.Proofs.YtjeemcpdmiajmaaDoor
open Go.RowKit Go.Lib
open Go.Proofs.YtjeemcpdmiajmaaDoor renaming done_eq → Z0, done_eq' → Z1, donet_eq → Z2, donet_eq' → Z3, fin_val → Z4, fin_tup → Z5, fin_agg → Z6, fin_ro → Z7, res_one → Z8, res_more → Z9, rv_t → Za, rv_c → Zb, rv_l → Zc, int_eq → Zg, bool_eq → Zh, toNat_pred → Zr, toNat_succ → Zs, cnd_t → Zu, cnd_f → Zv, grd_tt → Zw, grd_u → Zx, grd_tf → Zy, grd_ft → Zz, grd_ff → Y0, g_skip → Y1, g_ops → Y2, g_seq → Y3, g_block → Y4, g_exit → Y5, g_ret → Y6, x_c → Y7, x_o → Y8, x_l → Y9, x_b → Ya, g_b → Yb, g_nil → Yc, r_all → Yd, o_nil → Ye, g_cond → Yf, o_guard → Yg, o_call → Yh, o_callm → Yi, o_callt → Yj, o_callx → Yk, o_callv → Yl, o_mv → Ym, o_pick → Yn, o_bin → Yo, o_never → Yp, o_eqs → Yq, o_eqb → Yr, o_un → Ys, o_conv → Yt, o_load → Yu, o_loadr → Yv, o_idxr → Yw, o_loads → Yx, o_fld → Yy, o_idx → Yz, o_idxs → X0, o_len → X1, o_lens → X2, o_ext → X3, o_nilck → X4, o_slc → X5, o_slcs → X6, o_build → X7, o_minmax → X8, o_mkfn → X9, o_alloc → Xa, o_box → Xb, o_boxs → Xc, o_row → Xd, o_rowr → Xe, o_mk → Xf, o_asg → Xg, o_app → Xh, o_store → Xi, o_stores → Xj, o_eqnil → Xk, eqAV → Xl, view_t → Xm, view_c → Xn, view_nil → Xo, view_fn → Xp, look_own → Xq, look_box → Xr, look_junk → Xs, look_val → Xt, look_nilsl → Xu, look_ro → Xv, look_roAt → Xw, look_agg → Xx, look_tup → Xy, look_clo → Xz, look_alias → W0, look_ref → W1, look_into → W2, rowOf → W3, cellsOf → W4, argv → W5, vbin → W6, vun → W7, bnd → W8, elemOf → W9, putParts → Wa, setAt → Wb, zav → Wc, put_at → Wj, mk_at → Wk, mk_nil → Wl, initSt → Wm, wk_cons → Vh, wk_nil → Vi, vint_eq → Vj, vbool_eq → Vk
open Go.Proofs.YtjeemcpdmiajmaaDoor.AV.tup renaming injEq → Zd
open Go.Proofs.YtjeemcpdmiajmaaDoor.AV.agg renaming injEq → Ze
open Go.Proofs.YtjeemcpdmiajmaaDoor.AV.ro renaming injEq → Zf
open _root_.Int renaming toNat_natCast → Zi, reduceToNat → Zj, toNat_zero → Zk, toNat_one → Zl, reduceLE → Zm, reduceLT → Zn, reduceBEq → Zo, reduceBNe → Zp, reduceNeg → Zq
open _root_.List renaming length_map → Zt, map_cons → Wn, map_nil → Wo, forall_mem_cons → Wp, not_mem_nil → Wq, length_cons → Wr, length_nil → Ws, getD_cons_zero → Wt, getD_cons_succ → Wu, getD_nil → Wv, drop_succ_cons → Ww, drop_zero → Wx, take_succ_cons → Wy, take_zero → Wz, set_cons_zero → V0, set_cons_succ → V1, all_cons → V2, all_nil → V3
open Go.Proofs.YtjeemcpdmiajmaaDoor.ASt renaming rid → Wd, free → We
open Go.Proofs.YtjeemcpdmiajmaaDoor.AV renaming kill → Wf, isHome → Wg, noLoan → Wh, cellOK → Wi
open _root_.Bool renaming and_true → V4, true_and → V5, not_true → V6, not_false → V7, false_eq_true → V8
open _root_.Nat renaming reduceEqDiff → V9, reduceAdd → Va, reduceSub → Vb, reduceMul → Vc, reduceLeDiff → Vd, reduceLT → Ve, one_ne_zero → Vf, zero_ne_one → Vg
open Go.Proofs.YtjeemcpdmiajmaaDoor.AV.val renaming injEq → Vl
set_option linter.unusedSimpArgs false
--@short

/-! ### The head of an index -/
def hdS (b : List Nat) : Nat → List Int × Nat
  | 0 => ([], 0)
  | 1 => ([(rdA b).1], 4)
  | 2 => ([(rdA b).1, (rdB b).1], 12)
  | 3 => ([(rdA b).1, (rdB b).1, (rdC b).1], 20)
  | _ => ([(rdA b).1, (rdB b).1, (rdC b).1, (rdD b).1], 22)
def lgN : Nat → Nat
  | 0 => 4
  | 1 => 8
  | 2 => 8
  | _ => 2
theorem lgN_le (i : Nat) : lgN i ≤ 8 := by unfold lgN; split <;> omega
theorem rdA_yes {b : List Nat} (h : 4 ≤ b.length) : rdA b = (s64 (beV ((b.drop 0).take 4) 0), 4, false) := tkN_yes (at_ := 0) (k := 4) (by omega)
theorem rdB_yes {b : List Nat} (h : 12 ≤ b.length) : rdB b = (s64 (beV ((b.drop 4).take 8) 0), 12, false) := by
  unfold rdB; rw [rdA_yes (by omega)]; exact tkN_yes (at_ := 4) (k := 8) (by omega)
theorem rdC_yes {b : List Nat} (h : 20 ≤ b.length) : rdC b = (s64 (beV ((b.drop 12).take 8) 0), 20, false) := by
  unfold rdC; rw [rdB_yes (by omega)]; exact tkN_yes (at_ := 12) (k := 8) (by omega)
theorem rdD_yes {b : List Nat} (h : 22 ≤ b.length) : rdD b = (s64 (beV ((b.drop 20).take 2) 0), 22, false) := by
  unfold rdD; rw [rdC_yes (by omega)]; exact tkN_yes (at_ := 20) (k := 2) (by omega)
theorem hd_step {b : List Nat} {i : Nat} (hi : i < 4) (h : (hdS b i).2 + lgN i ≤ b.length) : hdS b (i + 1) = ((hdS b i).1 ++ [s64 (beV ((b.drop (hdS b i).2).take (lgN i)) 0)], (hdS b i).2 + lgN i) := by
  match i, hi with
  | 0, _ => simp only [hdS, lgN] at h ⊢; rw [rdA_yes (by omega)]; rfl
  | 1, _ => simp only [hdS, lgN] at h ⊢; rw [rdB_yes (by omega)]; rfl
  | 2, _ => simp only [hdS, lgN] at h ⊢; rw [rdC_yes (by omega)]; rfl
  | 3, _ => simp only [hdS, lgN] at h ⊢; rw [rdD_yes (by omega)]; rfl
theorem hd_bad {b : List Nat} {i : Nat} (hl : ¬ 100000 < b.length) (hi : i < 4) (hg : (hdS b i).2 ≤ b.length) (h : b.length < (hdS b i).2 + lgN i) : rdF b = ([], 0, (((hdS b i).2 : Nat) : Int), 10) := by
  match i, hi with
  | 0, _ => simp only [hdS, lgN] at h hg ⊢; exact rd_badA hl (by omega)
  | 1, _ => simp only [hdS, lgN] at h hg ⊢; exact rd_badB hl (rdA_yes (by omega)) (by omega)
  | 2, _ => simp only [hdS, lgN] at h hg ⊢; exact rd_badC hl (rdB_yes (by omega)) (by omega)
  | 3, _ => simp only [hdS, lgN] at h hg ⊢; exact rd_badD hl (rdC_yes (by omega)) (by omega)
theorem hdS_len (b : List Nat) (i : Nat) : (hdS b i).1.length ≤ 4 := by unfold hdS; split <;> simp
theorem hdS_at (b : List Nat) (i : Nat) : (hdS b i).2 ≤ 22 := by unfold hdS; split <;> simp
def lgRow : List (List AV) := [[.val (.int .i64 4)], [.val (.int .i64 8)], [.val (.int .i64 8)], [.val (.int .i64 2)]]
theorem lg_get {i : Nat} (hi : i < 4) : lgRow.getD i [] = [.val (.int .i64 (lgN i : Nat))] := by
  match i, hi with
  | 0, _ => rfl
  | 1, _ => rfl
  | 2, _ => rfl
  | 3, _ => rfl
theorem bytes_len (b : List Nat) : (∀ x ∈ b.map oneU, x.length = 1) = True := by
  refine eq_true fun x hx => ?_
  obtain ⟨n, _, rfl⟩ := List.mem_map.1 hx
  rfl
theorem slice_of (b : List Nat) (a k : Nat) : List.drop a (List.take (a + k) (b.map oneU)) = ((b.drop a).take k).map oneU := by
  rw [← List.map_take, ← List.map_drop, List.drop_take, Nat.add_sub_cancel_left]
theorem rd_more {b : List Nat} (hl : ¬ 100000 < b.length) {out : List Seg} {a : Nat} (h : rdL b = (out, a, false)) (ha : a < b.length) : rdF b = ([], 0, ((a : Nat) : Int), 10) := by
  unfold rdF
  rw [if_neg hl, h, if_pos (by simp [ha])]
theorem rd_ix {b : List Nat} (hl : ¬ 100000 < b.length) {out : List Seg} {a : Nat} (h : rdL b = (out, a, false)) (ha : ¬ a < b.length) : rdF b = if ixF out (rdA b).1 ≠ 0 then ([], 0, 0, ixF out (rdA b).1) else if (rdD b).1 = 0 ∧ ((rdB b).1 ≠ 0 ∨ (rdC b).1 ≠ 0) then ([], 0, 0, 3) else (out, (rdA b).1, 0, 0) := by
  unfold rdF
  rw [if_neg hl, h, if_neg (by simp [ha])]
theorem wrap_bd (x : Int) : -9223372036854775808 ≤ IntKind.i64.wrap x ∧ IntKind.i64.wrap x ≤ 9223372036854775807 := by
  rw [wrap_i64]
  split <;> omega
/-! headend/headendref4.ReadIndex -/
def r8_0 : List POp := [⟨2, .asg .nil, none⟩,
  ⟨3, .asg (.c (.int .i64 0)), none⟩,
  ⟨4, .asg (.c (.int .i64 0)), none⟩,
  ⟨5, .asg (.c (.int .i64 0)), none⟩]
def r8_1 : List POp := [⟨15, .mv (.t 0), none⟩,
  ⟨16, .len (.t 15), none⟩,
  ⟨17, .bin .gtr (.t 16) (.c (.int .i64 100000)), none⟩]
def r8_2 : List POp := [⟨2, .asg .nil, none⟩,
  ⟨3, .asg (.c (.int .i64 0)), none⟩,
  ⟨4, .asg (.c (.int .i64 0)), none⟩,
  ⟨5, .asg (.c (.int .i64 2)), none⟩]
def r8_3 : List POp := [⟨18, .row 3 1 [.c (.int .i64 4), .c (.int .i64 8), .c (.int .i64 8), .c (.int .i64 2)], none⟩,
  ⟨6, .asg (.t 18), none⟩]
def r8_4 : List POp := [⟨7, .asg .nil, none⟩]
def r8_5 : List POp := [⟨8, .asg (.c (.int .i64 0)), none⟩]
def r8_6 : List POp := [⟨9, .asg (.c (.int .i64 0)), none⟩]
def r8_7 : List POp := [⟨19, .mv (.t 9), none⟩,
  ⟨20, .mv (.t 6), none⟩,
  ⟨21, .len (.t 20), none⟩,
  ⟨22, .bin .lss (.t 19) (.t 21), none⟩]
def r8_9 : List POp := [⟨25, .mv (.t 0), none⟩,
  ⟨26, .len (.t 25), none⟩,
  ⟨27, .mv (.t 8), none⟩,
  ⟨28, .bin .sub (.t 26) (.t 27), none⟩,
  ⟨29, .mv (.t 6), none⟩,
  ⟨30, .mv (.t 9), none⟩,
  ⟨31, .idx 1 (.t 29) (.t 30), none⟩,
  ⟨32, .load (.t 31), none⟩,
  ⟨33, .bin .lss (.t 28) (.t 32), none⟩]
def r8_10 : List POp := [⟨34, .mv (.t 8), none⟩,
  ⟨2, .asg .nil, none⟩,
  ⟨3, .mv (.c (.int .i64 0)), none⟩,
  ⟨4, .mv (.t 34), none⟩,
  ⟨5, .mv (.c (.int .i64 10)), none⟩]
def r8_11 : List POp := [⟨35, .mv (.t 7), none⟩,
  ⟨36, .mv (.t 0), none⟩,
  ⟨37, .mv (.t 8), none⟩,
  ⟨38, .mv (.t 8), none⟩,
  ⟨39, .mv (.t 6), none⟩,
  ⟨40, .mv (.t 9), none⟩,
  ⟨41, .idx 1 (.t 39) (.t 40), none⟩,
  ⟨42, .load (.t 41), none⟩,
  ⟨43, .bin .add (.t 38) (.t 42), none⟩,
  ⟨44, .slc (some (.t 37)) (some (.t 43)) 1 (.t 36), none⟩,
  ⟨45, .call 18 [.t 44], none⟩,
  ⟨46, .row 3 1 [.t 45], none⟩,
  ⟨47, .app 3 1 8 (.t 35) (.t 46), none⟩,
  ⟨7, .asg (.t 47), none⟩]
def r8_12 : List POp := [⟨48, .mv (.t 8), none⟩,
  ⟨49, .mv (.t 6), none⟩,
  ⟨50, .mv (.t 9), none⟩,
  ⟨51, .idx 1 (.t 49) (.t 50), none⟩,
  ⟨52, .load (.t 51), none⟩,
  ⟨53, .bin .add (.t 48) (.t 52), none⟩,
  ⟨8, .asg (.t 53), none⟩]
def r8_8 : List POp := [⟨23, .mv (.t 9), none⟩,
  ⟨24, .bin .add (.t 23) (.c (.int .i64 1)), none⟩,
  ⟨9, .asg (.t 24), none⟩]
def r8_13 : List POp := [⟨10, .asg .nil, none⟩]
def r8_14 : List POp := [⟨54, .mv (.t 7), none⟩,
  ⟨55, .idx 1 (.t 54) (.c (.int .i64 2)), none⟩,
  ⟨56, .load (.t 55), none⟩,
  ⟨11, .asg (.t 56), none⟩]
def r8_15 : List POp := [⟨12, .asg (.c (.int .i64 0)), none⟩]
def r8_16 : List POp := [⟨57, .mv (.t 12), none⟩,
  ⟨58, .mv (.t 7), none⟩,
  ⟨59, .idx 1 (.t 58) (.c (.int .i64 3)), none⟩,
  ⟨60, .load (.t 59), none⟩,
  ⟨61, .bin .lss (.t 57) (.t 60), none⟩]
def r8_18 : List POp := [⟨64, .mv (.t 7), none⟩,
  ⟨65, .idx 1 (.t 64) (.c (.int .i64 1)), none⟩,
  ⟨66, .load (.t 65), none⟩,
  ⟨67, .mv (.t 12), none⟩,
  ⟨68, .bin .add (.t 66) (.t 67), none⟩,
  ⟨69, .mv (.t 11), none⟩,
  ⟨70, .build [.int .i64 0, .int .i64 0, .int .i64 0, .int .i64 0, .int .i64 0, .int .i64 0, .int .i64 0] [(0, 1, .t 68), (3, 1, .t 69)], none⟩,
  ⟨13, .alloc [.int .i64 0, .int .i64 0, .int .i64 0, .int .i64 0, .int .i64 0, .int .i64 0, .int .i64 0], none⟩,
  ⟨0, .stores 7 (.t 13) (.t 70), none⟩]
def r8_19 : List POp := [⟨71, .mv (.t 0), none⟩,
  ⟨72, .len (.t 71), none⟩,
  ⟨73, .mv (.t 8), none⟩,
  ⟨74, .bin .sub (.t 72) (.t 73), none⟩,
  ⟨75, .bin .lss (.t 74) (.c (.int .i64 4)), none⟩]
def r8_20 : List POp := [⟨76, .mv (.t 8), none⟩,
  ⟨2, .asg .nil, none⟩,
  ⟨3, .mv (.c (.int .i64 0)), none⟩,
  ⟨4, .mv (.t 76), none⟩,
  ⟨5, .mv (.c (.int .i64 10)), none⟩]
def r8_21 : List POp := [⟨77, .mv (.t 0), none⟩,
  ⟨78, .mv (.t 8), none⟩,
  ⟨79, .mv (.t 8), none⟩,
  ⟨80, .bin .add (.t 79) (.c (.int .i64 4)), none⟩,
  ⟨81, .slc (some (.t 78)) (some (.t 80)) 1 (.t 77), none⟩,
  ⟨82, .call 18 [.t 81], none⟩,
  ⟨83, .fld 5 (.t 13), none⟩,
  ⟨0, .store (.t 83) (.t 82), none⟩]
def r8_22 : List POp := [⟨84, .mv (.t 8), none⟩,
  ⟨85, .bin .add (.t 84) (.c (.int .i64 4)), none⟩,
  ⟨8, .asg (.t 85), none⟩]
def r8_23 : List POp := [⟨86, .mv (.t 0), none⟩,
  ⟨87, .len (.t 86), none⟩,
  ⟨88, .mv (.t 8), none⟩,
  ⟨89, .bin .sub (.t 87) (.t 88), none⟩,
  ⟨90, .bin .lss (.t 89) (.c (.int .i64 4)), none⟩]
def r8_24 : List POp := [⟨91, .mv (.t 8), none⟩,
  ⟨2, .asg .nil, none⟩,
  ⟨3, .mv (.c (.int .i64 0)), none⟩,
  ⟨4, .mv (.t 91), none⟩,
  ⟨5, .mv (.c (.int .i64 10)), none⟩]
def r8_25 : List POp := [⟨92, .mv (.t 0), none⟩,
  ⟨93, .mv (.t 8), none⟩,
  ⟨94, .mv (.t 8), none⟩,
  ⟨95, .bin .add (.t 94) (.c (.int .i64 4)), none⟩,
  ⟨96, .slc (some (.t 93)) (some (.t 95)) 1 (.t 92), none⟩,
  ⟨97, .call 18 [.t 96], none⟩,
  ⟨98, .fld 4 (.t 13), none⟩,
  ⟨0, .store (.t 98) (.t 97), none⟩]
def r8_26 : List POp := [⟨99, .mv (.t 8), none⟩,
  ⟨100, .bin .add (.t 99) (.c (.int .i64 4)), none⟩,
  ⟨8, .asg (.t 100), none⟩]
def r8_27 : List POp := [⟨101, .mv (.t 11), none⟩,
  ⟨102, .fld 4 (.t 13), none⟩,
  ⟨103, .load (.t 102), none⟩,
  ⟨104, .bin .add (.t 101) (.t 103), none⟩,
  ⟨11, .asg (.t 104), none⟩]
def r8_28 : List POp := [⟨105, .mv (.t 10), none⟩,
  ⟨106, .loads 7 (.t 13), none⟩,
  ⟨107, .row 32 7 [.t 106], none⟩,
  ⟨108, .app 32 7 56 (.t 105) (.t 107), none⟩,
  ⟨10, .asg (.t 108), none⟩]
def r8_17 : List POp := [⟨62, .mv (.t 12), none⟩,
  ⟨63, .bin .add (.t 62) (.c (.int .i64 1)), none⟩,
  ⟨12, .asg (.t 63), none⟩]
def r8_29 : List POp := [⟨109, .mv (.t 8), none⟩,
  ⟨110, .mv (.t 0), none⟩,
  ⟨111, .len (.t 110), none⟩,
  ⟨112, .bin .lss (.t 109) (.t 111), none⟩]
def r8_30 : List POp := [⟨113, .mv (.t 8), none⟩,
  ⟨2, .asg .nil, none⟩,
  ⟨3, .mv (.c (.int .i64 0)), none⟩,
  ⟨4, .mv (.t 113), none⟩,
  ⟨5, .mv (.c (.int .i64 10)), none⟩]
def r8_31 : List POp := [⟨114, .mv (.t 10), none⟩,
  ⟨115, .mv (.t 7), none⟩,
  ⟨116, .idx 1 (.t 115) (.c (.int .i64 0)), none⟩,
  ⟨117, .load (.t 116), none⟩,
  ⟨118, .call 14 [.t 114, .t 117], none⟩,
  ⟨14, .asg (.t 118), none⟩]
def r8_32 : List POp := [⟨119, .mv (.t 14), none⟩,
  ⟨120, .bin .neq (.t 119) (.c (.int .i64 0)), none⟩]
def r8_33 : List POp := [⟨121, .mv (.t 14), none⟩,
  ⟨2, .asg .nil, none⟩,
  ⟨3, .mv (.c (.int .i64 0)), none⟩,
  ⟨4, .mv (.c (.int .i64 0)), none⟩,
  ⟨5, .mv (.t 121), none⟩]
def r8_34 : List POp := [⟨122, .mv (.t 10), none⟩,
  ⟨123, .len (.t 122), none⟩,
  ⟨124, .bin .eql (.t 123) (.c (.int .i64 0)), none⟩,
  ⟨125, .mv (.t 124), none⟩,
  ⟨126, .mv (.t 7), some (125, true)⟩,
  ⟨127, .idx 1 (.t 126) (.c (.int .i64 1)), some (125, true)⟩,
  ⟨128, .load (.t 127), some (125, true)⟩,
  ⟨129, .bin .neq (.t 128) (.c (.int .i64 0)), some (125, true)⟩,
  ⟨130, .mv (.t 129), some (125, true)⟩,
  ⟨131, .mv (.t 7), some (130, false)⟩,
  ⟨132, .idx 1 (.t 131) (.c (.int .i64 2)), some (130, false)⟩,
  ⟨133, .load (.t 132), some (130, false)⟩,
  ⟨134, .bin .neq (.t 133) (.c (.int .i64 0)), some (130, false)⟩,
  ⟨135, .pick (.t 130) (.c (.bool true)) (.t 134), some (125, true)⟩,
  ⟨136, .pick (.t 125) (.t 135) (.c (.bool false)), none⟩]
def r8_35 : List POp := [⟨2, .asg .nil, none⟩,
  ⟨3, .asg (.c (.int .i64 0)), none⟩,
  ⟨4, .asg (.c (.int .i64 0)), none⟩,
  ⟨5, .asg (.c (.int .i64 3)), none⟩]
def r8_36 : List POp := [⟨137, .mv (.t 10), none⟩,
  ⟨138, .mv (.t 7), none⟩,
  ⟨139, .idx 1 (.t 138) (.c (.int .i64 0)), none⟩,
  ⟨140, .load (.t 139), none⟩,
  ⟨2, .mv (.t 137), none⟩,
  ⟨3, .mv (.t 140), none⟩,
  ⟨4, .mv (.c (.int .i64 0)), none⟩,
  ⟨5, .mv (.c (.int .i64 0)), none⟩]
def l8_1 : PCode := .seq (.seq (.ops r8_16) (.cond (.t 61) (.skip) (.exit 2))) (.seq (.block 3 (.seq (.ops r8_18) (.seq (.seq (.ops r8_19) (.cond (.t 75) (.seq (.ops r8_20) (.ret)) (.skip))) (.seq (.ops r8_21) (.seq (.ops r8_22) (.seq (.seq (.ops r8_23) (.cond (.t 90) (.seq (.ops r8_24) (.ret)) (.skip))) (.seq (.ops r8_25) (.seq (.ops r8_26) (.seq (.ops r8_27) (.ops r8_28)))))))))) (.ops r8_17))
def l8_0 : PCode := .seq (.seq (.ops r8_7) (.cond (.t 22) (.skip) (.exit 0))) (.seq (.block 1 (.seq (.seq (.ops r8_9) (.cond (.t 33) (.seq (.ops r8_10) (.ret)) (.skip))) (.seq (.ops r8_11) (.ops r8_12)))) (.ops r8_8))
def p8 : PCode := .seq (.ops r8_0) (.seq (.seq (.ops r8_1) (.cond (.t 17) (.seq (.ops r8_2) (.ret)) (.skip))) (.seq (.ops r8_3) (.seq (.ops r8_4) (.seq (.ops r8_5) (.seq (.seq (.ops r8_6) (.block 0 (.loop l8_0))) (.seq (.ops r8_13) (.seq (.ops r8_14) (.seq (.seq (.ops r8_15) (.block 2 (.loop l8_1))) (.seq (.seq (.ops r8_29) (.cond (.t 112) (.seq (.ops r8_30) (.ret)) (.skip))) (.seq (.seq (.ops r8_31) (.seq (.ops r8_32) (.cond (.t 120) (.seq (.ops r8_33) (.ret)) (.skip)))) (.seq (.seq (.ops r8_34) (.cond (.t 136) (.seq (.ops r8_35) (.ret)) (.skip))) (.seq (.ops r8_36) (.ret)))))))))))))
theorem ok8 : okFunc Tryd.prog 8 [.t 2, .t 3, .t 4, .t 5] 1 p8 = true := by kernel_rfl
set_option maxHeartbeats 8000000 in
set_option maxRecDepth 20000 in
theorem rread_x (b : List Nat) (hb : ∀ x ∈ b, x < 256) (hbl : b.length ≤ 9223372036854775807) :
    CallOK Tryd.prog 8 [.ro (b.map oneU)] (.tup [.ro ((rdF b).1.map Seg.av), .val (.int .i64 (rdF b).2.1), .val (.int .i64 (rdF b).2.2.1), .val (.int .i64 (rdF b).2.2.2)]) := by
  refine call_of mixed ok8 rfl ?_
  by_cases hl : 100000 < b.length
  · have hli : (100000 : Int) < b.length := by omega
    rw [show rdF b = ([], 0, 0, 2) from by rw [rdF, if_pos hl]]
    repeat' first | ((with_reducible (first | refine condD ?_ ?_ | refine condE ?_ ?_ | refine condN ?_ ?_ | refine condI ?_ ?_ | refine condS ?_ ?_)) <;> intro h) | ((with_reducible (first | refine guardD (by with_unfolding_all rfl) ?_ ?_ | refine guardE (by with_unfolding_all rfl) ?_ ?_ | refine guardN (by with_unfolding_all rfl) ?_ ?_ | refine guardI (by with_unfolding_all rfl) ?_ ?_ | refine guardS (by with_unfolding_all rfl) ?_ ?_)) <;> intro h) | (with_reducible refine And.intro ?_ ?_; omega) | (simp only [Z0,Z1,Z2,Z3,Z4,Z5,Z6,Z7,Z8,Z9,Za,Zb,Zc,Zd,Ze,Zf,List.cons.injEq,Zg,Zh,Zi,Zj,Zk,Zl,Zm,Zn,Zo,Zp,beq_self_eq_true,bne_self_eq_false,decide_true,decide_false,Zq,Zr,Zs,Zt,Zu,Zv,Zw,Zx,Zy,Zz,Y0,Y1,Y2,Y3,Y4,Y5,Y6,Y7,Y8,Y9,Ya,Yb,Yc,Yd,Ye,Yf,Yg,Yh,Yi,Yj,Yk,Yl,lk,ef,Ym,Yn,Yo,Yp,Yq,Yr,Ys,Yt,Yu,Yv,Yw,Yx,Yy,Yz,X0,X1,X2,X3,X4,X5,X6,X7,X8,X9,Xa,Xb,Xc,Xd,Xe,Xf,Xg,Xh,Xi,Xj,Xk,hv,Xl,ev,Xm,Xn,Xo,Xp,Xq,Xr,Xs,Xt,Xu,Xv,Xw,Xx,Xy,Xz,W0,W1,W2,W3,W4,W5,W6,W7,W8,W9,Wa,Wb,Wc,Wd,We,Wf,Wg,Wh,Wi,Value.oneCell',Wj,Wk,Wl,Wm,true_and,and_true,and_self,implies_true,Wn,Wo,Wp,Wq,false_implies,Wr,Ws,Wt,Wu,Wv,Ww,Wx,Wy,Wz,V0,V1,V2,V3,V4,V5,V6,V7,reduceCtorEq,if_true,if_false,V8,↓reduceIte,V9,Va,Vb,Vc,Vd,Ve,ne_eq,not_false_eq_true,not_true_eq_false,Vf,Vg,r8_0,r8_1,r8_2,r8_3,r8_4,r8_5,r8_6,r8_7,r8_9,r8_10,r8_11,r8_12,r8_8,r8_13,r8_14,r8_15,r8_16,r8_18,r8_19,r8_20,r8_21,r8_22,r8_23,r8_24,r8_25,r8_26,r8_27,r8_28,r8_17,r8_29,r8_30,r8_31,r8_32,r8_33,r8_34,r8_35,r8_36,p8,hli,List.length_map]) | (exfalso; omega)
    all_goals first | done | simp
  have hli : ¬ (100000 : Int) < b.length := by omega
  have hall := bytes_len b
  have hread : ∀ a k : Nat, k ≤ 8 → CallOK Tryd.prog 18 [.ro (((b.drop a).take k).map oneU)] (.val (.int .i64 (s64 (beV ((b.drop a).take k) 0)))) := fun a k hk =>
    read_r _ (fun x hx => hb x (List.mem_of_mem_drop (List.mem_of_mem_take hx))) (by rw [List.length_take]; omega)
  obtain ⟨F, hF⟩ : ∃ F, F = rdF b := ⟨_, rfl⟩
  rw [← hF]
  repeat' first | ((with_reducible (first | refine condD ?_ ?_ | refine condE ?_ ?_ | refine condN ?_ ?_ | refine condI ?_ ?_ | refine condS ?_ ?_)) <;> intro h) | ((with_reducible (first | refine guardD (by with_unfolding_all rfl) ?_ ?_ | refine guardE (by with_unfolding_all rfl) ?_ ?_ | refine guardN (by with_unfolding_all rfl) ?_ ?_ | refine guardI (by with_unfolding_all rfl) ?_ ?_ | refine guardS (by with_unfolding_all rfl) ?_ ?_)) <;> intro h) | (with_reducible refine And.intro ?_ ?_; omega) | (simp only [Z0,Z1,Z2,Z3,Z4,Z5,Z6,Z7,Z8,Z9,Za,Zb,Zc,Zd,Ze,Zf,List.cons.injEq,Zg,Zh,Zi,Zj,Zk,Zl,Zm,Zn,Zo,Zp,beq_self_eq_true,bne_self_eq_false,decide_true,decide_false,Zq,Zr,Zs,Zt,Zu,Zv,Zw,Zx,Zy,Zz,Y0,Y1,Y2,Y3,Y4,Y5,Y6,Y7,Y8,Y9,Ya,Yb,Yc,Yd,Ye,Yf,Yg,Yh,Yi,Yj,Yk,Yl,lk,ef,Ym,Yn,Yo,Yp,Yq,Yr,Ys,Yt,Yu,Yv,Yw,Yx,Yy,Yz,X0,X1,X2,X3,X4,X5,X6,X7,X8,X9,Xa,Xb,Xc,Xd,Xe,Xf,Xg,Xh,Xi,Xj,Xk,hv,Xl,ev,Xm,Xn,Xo,Xp,Xq,Xr,Xs,Xt,Xu,Xv,Xw,Xx,Xy,Xz,W0,W1,W2,W3,W4,W5,W6,W7,W8,W9,Wa,Wb,Wc,Wd,We,Wf,Wg,Wh,Wi,Value.oneCell',Wj,Wk,Wl,Wm,true_and,and_true,and_self,implies_true,Wn,Wo,Wp,Wq,false_implies,Wr,Ws,Wt,Wu,Wv,Ww,Wx,Wy,Wz,V0,V1,V2,V3,V4,V5,V6,V7,reduceCtorEq,if_true,if_false,V8,↓reduceIte,V9,Va,Vb,Vc,Vd,Ve,ne_eq,not_false_eq_true,not_true_eq_false,Vf,Vg,r8_0,r8_1,r8_2,r8_3,r8_4,r8_5,r8_6,r8_7,r8_9,r8_10,r8_11,r8_12,r8_8,r8_13,r8_14,r8_15,r8_16,r8_18,r8_19,r8_20,r8_21,r8_22,r8_23,r8_24,r8_25,r8_26,r8_27,r8_28,r8_17,r8_29,r8_30,r8_31,r8_32,r8_33,r8_34,r8_35,r8_36,p8,hli,List.length_map]) | (exfalso; omega)
  refine loopS (fun i : Nat => mk [(0, .ro (b.map oneU)), (6, .ro lgRow), (7, .own 3 1 ((hdS b i).1.map oneI)), (8, .val (.int .i64 ((hdS b i).2 : Nat))), (9, .val (.int .i64 i))]) (fun i => i ≤ 4 ∧ (hdS b i).2 ≤ b.length) (fun i => 4 - i) 0 (weak_mk ?_) ⟨Nat.zero_le _, Nat.zero_le _⟩ ?_
  · simp only [Vh,Vi,wk1,Vj,Vk,Vl,Z0,Z1,Z2,Z3,Z4,Z5,Z6,Z7,Z8,Z9,Za,Zb,Zc,Zd,Ze,Zf,List.cons.injEq,Zg,Zh,Zi,Zj,Zk,Zl,Zm,Zn,Zo,Zp,beq_self_eq_true,bne_self_eq_false,decide_true,decide_false,Zq,Zr,Zs,Zt,Zu,Zv,Zw,Zx,Zy,Zz,Y0,Y1,Y2,Y3,Y4,Y5,Y6,Y7,Y8,Y9,Ya,Yb,Yc,Yd,Ye,Yf,Yg,Yh,Yi,Yj,Yk,Yl,lk,ef,Ym,Yn,Yo,Yp,Yq,Yr,Ys,Yt,Yu,Yv,Yw,Yx,Yy,Yz,X0,X1,X2,X3,X4,X5,X6,X7,X8,X9,Xa,Xb,Xc,Xd,Xe,Xf,Xg,Xh,Xi,Xj,Xk,hv,Xl,ev,Xm,Xn,Xo,Xp,Xq,Xr,Xs,Xt,Xu,Xv,Xw,Xx,Xy,Xz,W0,W1,W2,W3,W4,W5,W6,W7,W8,W9,Wa,Wb,Wc,Wd,We,Wf,Wg,Wh,Wi,Value.oneCell',Wj,Wk,Wl,Wm,true_and,and_true,and_self,implies_true,Wn,Wo,Wp,Wq,false_implies,Wr,Ws,Wt,Wu,Wv,Ww,Wx,Wy,Wz,V0,V1,V2,V3,V4,V5,V6,V7,reduceCtorEq,if_true,if_false,V8,↓reduceIte,V9,Va,Vb,Vc,Vd,Ve,ne_eq,not_false_eq_true,not_true_eq_false,Vf,Nat.zero_ne_one]
    all_goals first | done | exact ⟨rfl, rfl⟩ | exact ⟨rfl, rfl, rfl⟩ | simp [hdS, lgRow]
  rintro J hJ i ⟨hi, hg⟩
  have hlg4 : lgRow.length = 4 := rfl
  simp only [Z0,Z1,Z2,Z3,Z4,Z5,Z6,Z7,Z8,Z9,Za,Zb,Zc,Zd,Ze,Zf,List.cons.injEq,Zg,Zh,Zi,Zj,Zk,Zl,Zm,Zn,Zo,Zp,beq_self_eq_true,bne_self_eq_false,decide_true,decide_false,Zq,Zr,Zs,Zt,Zu,Zv,Zw,Zx,Zy,Zz,Y0,Y1,Y2,Y3,Y4,Y5,Y6,Y7,Y8,Y9,Ya,Yb,Yc,Yd,Ye,Yf,Yg,Yh,Yi,Yj,Yk,Yl,lk,ef,Ym,Yn,Yo,Yp,Yq,Yr,Ys,Yt,Yu,Yv,Yw,Yx,Yy,Yz,X0,X1,X2,X3,X4,X5,X6,X7,X8,X9,Xa,Xb,Xc,Xd,Xe,Xf,Xg,Xh,Xi,Xj,Xk,hv,Xl,ev,Xm,Xn,Xo,Xp,Xq,Xr,Xs,Xt,Xu,Xv,Xw,Xx,Xy,Xz,W0,W1,W2,W3,W4,W5,W6,W7,W8,W9,Wa,Wb,Wc,Wd,We,Wf,Wg,Wh,Wi,Value.oneCell',Wj,Wk,Wl,Wm,true_and,and_true,and_self,implies_true,Wn,Wo,Wp,Wq,false_implies,Wr,Ws,Wt,Wu,Wv,Ww,Wx,Wy,Wz,V0,V1,V2,V3,V4,V5,V6,V7,reduceCtorEq,if_true,if_false,V8,↓reduceIte,V9,Va,Vb,Vc,Vd,Ve,ne_eq,not_false_eq_true,not_true_eq_false,Vf,Vg,r8_0,r8_1,r8_2,r8_3,r8_4,r8_5,r8_6,r8_7,r8_9,r8_10,r8_11,r8_12,r8_8,r8_13,r8_14,r8_15,r8_16,r8_18,r8_19,r8_20,r8_21,r8_22,r8_23,r8_24,r8_25,r8_26,r8_27,r8_28,r8_17,r8_29,r8_30,r8_31,r8_32,r8_33,r8_34,r8_35,r8_36,p8,l8_0,Zt,hlg4]
  refine condD (fun h => ?_) (fun h => ?_)
  · have hi4 : i < 4 := by omega
    have hw := i_add1 i (by omega)
    have hii : (i : Int) < 4 := by omega
    have hi0 : (0 : Int) ≤ i := by omega
    have gL := lg_get hi4
    have hat := hdS_at b i
    have hle := lgN_le i
    have w1 : IntKind.i64.wrap ((b.length : Int) - ((hdS b i).2 : Nat)) = (b.length : Int) - ((hdS b i).2 : Nat) := wrap_in (by omega) (by omega)
    by_cases hbad : b.length < (hdS b i).2 + lgN i
    · have ht : (b.length : Int) - ((hdS b i).2 : Nat) < ((lgN i : Nat) : Int) := by omega
      rw [hd_bad hl hi4 hg hbad] at hF
      rw [hF]
      generalize hdS b i = S at *
      generalize lgN i = g at *
      repeat' first | ((with_reducible (first | refine condD ?_ ?_ | refine condE ?_ ?_ | refine condN ?_ ?_ | refine condI ?_ ?_ | refine condS ?_ ?_)) <;> intro h) | ((with_reducible (first | refine guardD (by with_unfolding_all rfl) ?_ ?_ | refine guardE (by with_unfolding_all rfl) ?_ ?_ | refine guardN (by with_unfolding_all rfl) ?_ ?_ | refine guardI (by with_unfolding_all rfl) ?_ ?_ | refine guardS (by with_unfolding_all rfl) ?_ ?_)) <;> intro h) | (with_reducible refine And.intro ?_ ?_; omega) | (simp only [Z0,Z1,Z2,Z3,Z4,Z5,Z6,Z7,Z8,Z9,Za,Zb,Zc,Zd,Ze,Zf,List.cons.injEq,Zg,Zh,Zi,Zj,Zk,Zl,Zm,Zn,Zo,Zp,beq_self_eq_true,bne_self_eq_false,decide_true,decide_false,Zq,Zr,Zs,Zt,Zu,Zv,Zw,Zx,Zy,Zz,Y0,Y1,Y2,Y3,Y4,Y5,Y6,Y7,Y8,Y9,Ya,Yb,Yc,Yd,Ye,Yf,Yg,Yh,Yi,Yj,Yk,Yl,lk,ef,Ym,Yn,Yo,Yp,Yq,Yr,Ys,Yt,Yu,Yv,Yw,Yx,Yy,Yz,X0,X1,X2,X3,X4,X5,X6,X7,X8,X9,Xa,Xb,Xc,Xd,Xe,Xf,Xg,Xh,Xi,Xj,Xk,hv,Xl,ev,Xm,Xn,Xo,Xp,Xq,Xr,Xs,Xt,Xu,Xv,Xw,Xx,Xy,Xz,W0,W1,W2,W3,W4,W5,W6,W7,W8,W9,Wa,Wb,Wc,Wd,We,Wf,Wg,Wh,Wi,Value.oneCell',Wj,Wk,Wl,Wm,true_and,and_true,and_self,implies_true,Wn,Wo,Wp,Wq,false_implies,Wr,Ws,Wt,Wu,Wv,Ww,Wx,Wy,Wz,V0,V1,V2,V3,V4,V5,V6,V7,reduceCtorEq,if_true,if_false,V8,↓reduceIte,V9,Va,Vb,Vc,Vd,Ve,ne_eq,not_false_eq_true,not_true_eq_false,Vf,Vg,r8_0,r8_1,r8_2,r8_3,r8_4,r8_5,r8_6,r8_7,r8_9,r8_10,r8_11,r8_12,r8_8,r8_13,r8_14,r8_15,r8_16,r8_18,r8_19,r8_20,r8_21,r8_22,r8_23,r8_24,r8_25,r8_26,r8_27,r8_28,r8_17,r8_29,r8_30,r8_31,r8_32,r8_33,r8_34,r8_35,r8_36,p8,l8_0,gL,hii,hi0,hlg4,hi4,w1,ht,List.length_map]) | (exfalso; omega)
      all_goals first | done | omega | simp
    · have ht : ¬ (b.length : Int) - ((hdS b i).2 : Nat) < ((lgN i : Nat) : Int) := by omega
      have hst := hd_step hi4 (by omega : (hdS b i).2 + lgN i ≤ b.length)
      have hrd := hread (hdS b i).2 (lgN i) hle
      have hsl := slice_of b (hdS b i).2 (lgN i)
      have hnl := hdS_len b i
      have w2 : IntKind.i64.wrap ((((hdS b i).2 : Nat) : Int) + ((lgN i : Nat) : Int)) = (((hdS b i).2 + lgN i : Nat) : Int) := by rw [wrap_in (by omega) (by omega)]; omega
      have hgn : (hdS b (i + 1)).2 ≤ b.length := by rw [hst]; simp only; omega
      have e1 : (hdS b (i + 1)).1 = (hdS b i).1 ++ [s64 (beV ((b.drop (hdS b i).2).take (lgN i)) 0)] := by rw [hst]
      have e2 : (hdS b (i + 1)).2 = (hdS b i).2 + lgN i := by rw [hst]
      clear hst
      obtain ⟨S2, hS2⟩ : ∃ S, S = hdS b (i + 1) := ⟨_, rfl⟩
      rw [← hS2] at e1 e2
      generalize hdS b i = S at *
      generalize lgN i = g at *
      obtain ⟨N, a⟩ := S
      obtain ⟨N2, a2⟩ := S2
      simp only at *
      generalize s64 (beV ((b.drop a).take g) 0) = v at *
      have happ : N.map oneI ++ [[.val (.int .i64 v)]] = N2.map oneI := by rw [e1, List.map_append]; rfl
      have a0 : (0 : Int) ≤ (a : Int) := by omega
      have a1 : (0 : Int) ≤ ((a + g : Nat) : Int) := by omega
      have a3 : a ≤ a + g := by omega
      have a4 : a + g ≤ b.length := by omega
      repeat' first | ((with_reducible (first | refine condD ?_ ?_ | refine condE ?_ ?_ | refine condN ?_ ?_ | refine condI ?_ ?_ | refine condS ?_ ?_)) <;> intro h) | ((with_reducible (first | refine guardD (by with_unfolding_all rfl) ?_ ?_ | refine guardE (by with_unfolding_all rfl) ?_ ?_ | refine guardN (by with_unfolding_all rfl) ?_ ?_ | refine guardI (by with_unfolding_all rfl) ?_ ?_ | refine guardS (by with_unfolding_all rfl) ?_ ?_)) <;> intro h) | ((refine callG hrd ?_)) | (with_reducible refine And.intro ?_ ?_; omega) | (simp only [Z0,Z1,Z2,Z3,Z4,Z5,Z6,Z7,Z8,Z9,Za,Zb,Zc,Zd,Ze,Zf,List.cons.injEq,Zg,Zh,Zi,Zj,Zk,Zl,Zm,Zn,Zo,Zp,beq_self_eq_true,bne_self_eq_false,decide_true,decide_false,Zq,Zr,Zs,Zt,Zu,Zv,Zw,Zx,Zy,Zz,Y0,Y1,Y2,Y3,Y4,Y5,Y6,Y7,Y8,Y9,Ya,Yb,Yc,Yd,Ye,Yf,Yg,Yh,Yi,Yj,Yk,Yl,lk,ef,Ym,Yn,Yo,Yp,Yq,Yr,Ys,Yt,Yu,Yv,Yw,Yx,Yy,Yz,X0,X1,X2,X3,X4,X5,X6,X7,X8,X9,Xa,Xb,Xc,Xd,Xe,Xf,Xg,Xh,Xi,Xj,Xk,hv,Xl,ev,Xm,Xn,Xo,Xp,Xq,Xr,Xs,Xt,Xu,Xv,Xw,Xx,Xy,Xz,W0,W1,W2,W3,W4,W5,W6,W7,W8,W9,Wa,Wb,Wc,Wd,We,Wf,Wg,Wh,Wi,Value.oneCell',Wj,Wk,Wl,Wm,true_and,and_true,and_self,implies_true,Wn,Wo,Wp,Wq,false_implies,Wr,Ws,Wt,Wu,Wv,Ww,Wx,Wy,Wz,V0,V1,V2,V3,V4,V5,V6,V7,reduceCtorEq,if_true,if_false,V8,↓reduceIte,V9,Va,Vb,Vc,Vd,Ve,ne_eq,not_false_eq_true,not_true_eq_false,Vf,Vg,r8_0,r8_1,r8_2,r8_3,r8_4,r8_5,r8_6,r8_7,r8_9,r8_10,r8_11,r8_12,r8_8,r8_13,r8_14,r8_15,r8_16,r8_18,r8_19,r8_20,r8_21,r8_22,r8_23,r8_24,r8_25,r8_26,r8_27,r8_28,r8_17,r8_29,r8_30,r8_31,r8_32,r8_33,r8_34,r8_35,r8_36,p8,l8_0,gL,hii,hi0,hlg4,hi4,w1,w2,ht,hall,hsl,happ,hw,a0,a1,a3,a4,List.length_map]) | (exfalso; omega)
      all_goals first | omega | exact again hJ (i + 1) (weak_mk (by simp only [Vh,Vi,wk1,Vj,Vk,Vl,Z0,Z1,Z2,Z3,Z4,Z5,Z6,Z7,Z8,Z9,Za,Zb,Zc,Zd,Ze,Zf,List.cons.injEq,Zg,Zh,Zi,Zj,Zk,Zl,Zm,Zn,Zo,Zp,beq_self_eq_true,bne_self_eq_false,decide_true,decide_false,Zq,Zr,Zs,Zt,Zu,Zv,Zw,Zx,Zy,Zz,Y0,Y1,Y2,Y3,Y4,Y5,Y6,Y7,Y8,Y9,Ya,Yb,Yc,Yd,Ye,Yf,Yg,Yh,Yi,Yj,Yk,Yl,lk,ef,Ym,Yn,Yo,Yp,Yq,Yr,Ys,Yt,Yu,Yv,Yw,Yx,Yy,Yz,X0,X1,X2,X3,X4,X5,X6,X7,X8,X9,Xa,Xb,Xc,Xd,Xe,Xf,Xg,Xh,Xi,Xj,Xk,hv,Xl,ev,Xm,Xn,Xo,Xp,Xq,Xr,Xs,Xt,Xu,Xv,Xw,Xx,Xy,Xz,W0,W1,W2,W3,W4,W5,W6,W7,W8,W9,Wa,Wb,Wc,Wd,We,Wf,Wg,Wh,Wi,Value.oneCell',Wj,Wk,Wl,Wm,true_and,and_true,and_self,implies_true,Wn,Wo,Wp,Wq,false_implies,Wr,Ws,Wt,Wu,Wv,Ww,Wx,Wy,Wz,V0,V1,V2,V3,V4,V5,V6,V7,reduceCtorEq,if_true,if_false,V8,↓reduceIte,V9,Va,Vb,Vc,Vd,Ve,ne_eq,not_false_eq_true,not_true_eq_false,Vf,Nat.zero_ne_one]; all_goals first | done | (rw [← hS2]; simp [e2]; done) | (rw [← hS2]; simp [e1, e2]; done))) ⟨by omega, hgn⟩ (by omega)
  have hi4 : i = 4 := by omega
  subst hi4
  clear hJ
  have h22 : 22 ≤ b.length := hg
  have hD2 := tkN_two hb (rdC b).2.1 (rdC b).2.2
  change 0 ≤ (rdD b).1 ∧ (rdD b).1 ≤ 65535 at hD2
  have eB := rdB_yes (b := b) (by omega)
  have eC := rdC_yes (b := b) (by omega)
  have eD := rdD_yes h22
  have hLL : rdL b = rdGo b (rdD b).1.toNat (rdB b).1 (rdC b).1 22 false [] := by
    unfold rdL
    rw [show (rdD b).2.1 = 22 by rw [eD], show (rdD b).2.2 = false by rw [eD]]
  have hBw : IntKind.i64.wrap ((rdB b).1 + ((0 : Nat) : Int)) = (rdB b).1 := by
    have := s64_bd (beV ((b.drop 4).take 8) 0)
    rw [eB]
    rw [wrap_in (by simp only; omega) (by simp only; omega)]
    simp
  have hCb : -9223372036854775808 ≤ (rdC b).1 ∧ (rdC b).1 ≤ 9223372036854775807 := by rw [eC]; exact s64_bd _
  have hrow : (hdS b 4).1 = [(rdA b).1, (rdB b).1, (rdC b).1, (rdD b).1] := rfl
  have hat4 : (hdS b 4).2 = 22 := rfl
  have hIx := fun out a (h1 : rdL b = (out, a, false)) (h2 : ¬ a < b.length) => rd_ix hl h1 h2
  rw [hrow, hat4]
  generalize (rdA b).1 = A at *
  generalize (rdB b).1 = B at *
  generalize (rdC b).1 = C at *
  obtain ⟨M, hM⟩ : ∃ M : Nat, (rdD b).1 = M := ⟨(rdD b).1.toNat, by omega⟩
  rw [hM, Int.toNat_natCast] at hLL
  rw [hM] at hD2 ⊢
  simp only [hM] at hIx
  clear eB eC eD hM hrow hat4
  repeat' first | ((with_reducible (first | refine condD ?_ ?_ | refine condE ?_ ?_ | refine condN ?_ ?_ | refine condI ?_ ?_ | refine condS ?_ ?_)) <;> intro h) | ((with_reducible (first | refine guardD (by with_unfolding_all rfl) ?_ ?_ | refine guardE (by with_unfolding_all rfl) ?_ ?_ | refine guardN (by with_unfolding_all rfl) ?_ ?_ | refine guardI (by with_unfolding_all rfl) ?_ ?_ | refine guardS (by with_unfolding_all rfl) ?_ ?_)) <;> intro h) | (with_reducible refine And.intro ?_ ?_; omega) | (simp only [Z0,Z1,Z2,Z3,Z4,Z5,Z6,Z7,Z8,Z9,Za,Zb,Zc,Zd,Ze,Zf,List.cons.injEq,Zg,Zh,Zi,Zj,Zk,Zl,Zm,Zn,Zo,Zp,beq_self_eq_true,bne_self_eq_false,decide_true,decide_false,Zq,Zr,Zs,Zt,Zu,Zv,Zw,Zx,Zy,Zz,Y0,Y1,Y2,Y3,Y4,Y5,Y6,Y7,Y8,Y9,Ya,Yb,Yc,Yd,Ye,Yf,Yg,Yh,Yi,Yj,Yk,Yl,lk,ef,Ym,Yn,Yo,Yp,Yq,Yr,Ys,Yt,Yu,Yv,Yw,Yx,Yy,Yz,X0,X1,X2,X3,X4,X5,X6,X7,X8,X9,Xa,Xb,Xc,Xd,Xe,Xf,Xg,Xh,Xi,Xj,Xk,hv,Xl,ev,Xm,Xn,Xo,Xp,Xq,Xr,Xs,Xt,Xu,Xv,Xw,Xx,Xy,Xz,W0,W1,W2,W3,W4,W5,W6,W7,W8,W9,Wa,Wb,Wc,Wd,We,Wf,Wg,Wh,Wi,Value.oneCell',Wj,Wk,Wl,Wm,true_and,and_true,and_self,implies_true,Wn,Wo,Wp,Wq,false_implies,Wr,Ws,Wt,Wu,Wv,Ww,Wx,Wy,Wz,V0,V1,V2,V3,V4,V5,V6,V7,reduceCtorEq,if_true,if_false,V8,↓reduceIte,V9,Va,Vb,Vc,Vd,Ve,ne_eq,not_false_eq_true,not_true_eq_false,Vf,Vg,r8_0,r8_1,r8_2,r8_3,r8_4,r8_5,r8_6,r8_7,r8_9,r8_10,r8_11,r8_12,r8_8,r8_13,r8_14,r8_15,r8_16,r8_18,r8_19,r8_20,r8_21,r8_22,r8_23,r8_24,r8_25,r8_26,r8_27,r8_28,r8_17,r8_29,r8_30,r8_31,r8_32,r8_33,r8_34,r8_35,r8_36,p8,l8_0,oneI,Int.cast_ofNat_Int,List.length_map]) | (exfalso; omega)
  refine loopS (fun q : Nat × Nat × Int × List Seg => mk [(0, .ro (b.map oneU)), (7, .ro ([A, B, C, (M : Int)].map oneI)), (8, .val (.int .i64 (q.2.1 : Nat))), (10, .own 32 7 (q.2.2.2.map Seg.av)), (11, .val (.int .i64 q.2.2.1)), (12, .val (.int .i64 (q.1 : Nat)))])
    (fun q => q.1 ≤ M ∧ q.2.1 ≤ b.length ∧ q.2.2.2.length = q.1 ∧ (-9223372036854775808 ≤ q.2.2.1 ∧ q.2.2.1 ≤ 9223372036854775807) ∧ (∀ s ∈ q.2.2.2, SegI s) ∧ rdL b = rdGo b (M - q.1) (IntKind.i64.wrap (B + (q.1 : Nat))) q.2.2.1 q.2.1 false q.2.2.2) (fun q => M - q.1) (0, 22, C, []) (weak_mk ?_)
    ⟨Nat.zero_le _, h22, rfl, hCb, (fun s hs => by cases hs), by rw [hBw]; exact hLL⟩ ?_
  · simp only [Vh,Vi,wk1,Vj,Vk,Vl,Z0,Z1,Z2,Z3,Z4,Z5,Z6,Z7,Z8,Z9,Za,Zb,Zc,Zd,Ze,Zf,List.cons.injEq,Zg,Zh,Zi,Zj,Zk,Zl,Zm,Zn,Zo,Zp,beq_self_eq_true,bne_self_eq_false,decide_true,decide_false,Zq,Zr,Zs,Zt,Zu,Zv,Zw,Zx,Zy,Zz,Y0,Y1,Y2,Y3,Y4,Y5,Y6,Y7,Y8,Y9,Ya,Yb,Yc,Yd,Ye,Yf,Yg,Yh,Yi,Yj,Yk,Yl,lk,ef,Ym,Yn,Yo,Yp,Yq,Yr,Ys,Yt,Yu,Yv,Yw,Yx,Yy,Yz,X0,X1,X2,X3,X4,X5,X6,X7,X8,X9,Xa,Xb,Xc,Xd,Xe,Xf,Xg,Xh,Xi,Xj,Xk,hv,Xl,ev,Xm,Xn,Xo,Xp,Xq,Xr,Xs,Xt,Xu,Xv,Xw,Xx,Xy,Xz,W0,W1,W2,W3,W4,W5,W6,W7,W8,W9,Wa,Wb,Wc,Wd,We,Wf,Wg,Wh,Wi,Value.oneCell',Wj,Wk,Wl,Wm,true_and,and_true,and_self,implies_true,Wn,Wo,Wp,Wq,false_implies,Wr,Ws,Wt,Wu,Wv,Ww,Wx,Wy,Wz,V0,V1,V2,V3,V4,V5,V6,V7,reduceCtorEq,if_true,if_false,V8,↓reduceIte,V9,Va,Vb,Vc,Vd,Ve,ne_eq,not_false_eq_true,not_true_eq_false,Vf,Nat.zero_ne_one]
    all_goals first | done | exact ⟨rfl, rfl⟩ | exact ⟨rfl, rfl, rfl⟩ | exact ⟨rfl, rfl, rfl, rfl⟩ | simp [oneI]
  clear hLL hBw
  rintro J hJ ⟨i, a, bg, out⟩ ⟨hi, ha, hol, hbg, hsi, hg2⟩
  simp only at hi ha hol hbg hsi hg2
  simp only [Z0,Z1,Z2,Z3,Z4,Z5,Z6,Z7,Z8,Z9,Za,Zb,Zc,Zd,Ze,Zf,List.cons.injEq,Zg,Zh,Zi,Zj,Zk,Zl,Zm,Zn,Zo,Zp,beq_self_eq_true,bne_self_eq_false,decide_true,decide_false,Zq,Zr,Zs,Zt,Zu,Zv,Zw,Zx,Zy,Zz,Y0,Y1,Y2,Y3,Y4,Y5,Y6,Y7,Y8,Y9,Ya,Yb,Yc,Yd,Ye,Yf,Yg,Yh,Yi,Yj,Yk,Yl,lk,ef,Ym,Yn,Yo,Yp,Yq,Yr,Ys,Yt,Yu,Yv,Yw,Yx,Yy,Yz,X0,X1,X2,X3,X4,X5,X6,X7,X8,X9,Xa,Xb,Xc,Xd,Xe,Xf,Xg,Xh,Xi,Xj,Xk,hv,Xl,ev,Xm,Xn,Xo,Xp,Xq,Xr,Xs,Xt,Xu,Xv,Xw,Xx,Xy,Xz,W0,W1,W2,W3,W4,W5,W6,W7,W8,W9,Wa,Wb,Wc,Wd,We,Wf,Wg,Wh,Wi,Value.oneCell',Wj,Wk,Wl,Wm,true_and,and_true,and_self,implies_true,Wn,Wo,Wp,Wq,false_implies,Wr,Ws,Wt,Wu,Wv,Ww,Wx,Wy,Wz,V0,V1,V2,V3,V4,V5,V6,V7,reduceCtorEq,if_true,if_false,V8,↓reduceIte,V9,Va,Vb,Vc,Vd,Ve,ne_eq,not_false_eq_true,not_true_eq_false,Vf,Vg,r8_0,r8_1,r8_2,r8_3,r8_4,r8_5,r8_6,r8_7,r8_9,r8_10,r8_11,r8_12,r8_8,r8_13,r8_14,r8_15,r8_16,r8_18,r8_19,r8_20,r8_21,r8_22,r8_23,r8_24,r8_25,r8_26,r8_27,r8_28,r8_17,r8_29,r8_30,r8_31,r8_32,r8_33,r8_34,r8_35,r8_36,p8,l8_1,oneI,Int.cast_ofNat_Int]
  refine condD (fun h => ?_) (fun h => ?_)
  · have hlt : i < M := by omega
    have hw := i_add1 i (by omega)
    obtain ⟨c, hc⟩ : ∃ c, M - i = c + 1 := ⟨M - i - 1, by omega⟩
    rw [hc] at hg2
    have w1 : IntKind.i64.wrap ((b.length : Int) - (a : Int)) = (b.length : Int) - (a : Int) := wrap_in (by omega) (by omega)
    have w4 : IntKind.i64.wrap ((a : Int) + 4) = ((a + 4 : Nat) : Int) := by rw [wrap_in (by omega) (by omega)]; omega
    have w8 : IntKind.i64.wrap (((a + 4 : Nat) : Int) + 4) = ((a + 4 + 4 : Nat) : Int) := by rw [wrap_in (by omega) (by omega)]; omega
    have w5 : IntKind.i64.wrap ((b.length : Int) - ((a + 4 : Nat) : Int)) = (b.length : Int) - ((a + 4 : Nat) : Int) := wrap_in (by omega) (by omega)
    have wn := wrap_next B i
    obtain ⟨num, hnum⟩ : ∃ num, num = IntKind.i64.wrap (B + ((i : Nat) : Int)) := ⟨_, rfl⟩
    have hnumE := hnum.symm
    rw [← hnum] at hg2 wn
    by_cases hb1 : b.length < a + 4
    · have ht : (b.length : Int) - (a : Int) < 4 := by omega
      have hR := rd_fail hl (a := a) (by rw [hg2]; exact rd_bad1 hb1)
      rw [hR] at hF
      rw [hF]
      repeat' first | ((with_reducible (first | refine condD ?_ ?_ | refine condE ?_ ?_ | refine condN ?_ ?_ | refine condI ?_ ?_ | refine condS ?_ ?_)) <;> intro h) | ((with_reducible (first | refine guardD (by with_unfolding_all rfl) ?_ ?_ | refine guardE (by with_unfolding_all rfl) ?_ ?_ | refine guardN (by with_unfolding_all rfl) ?_ ?_ | refine guardI (by with_unfolding_all rfl) ?_ ?_ | refine guardS (by with_unfolding_all rfl) ?_ ?_)) <;> intro h) | (with_reducible refine And.intro ?_ ?_; omega) | (simp only [Z0,Z1,Z2,Z3,Z4,Z5,Z6,Z7,Z8,Z9,Za,Zb,Zc,Zd,Ze,Zf,List.cons.injEq,Zg,Zh,Zi,Zj,Zk,Zl,Zm,Zn,Zo,Zp,beq_self_eq_true,bne_self_eq_false,decide_true,decide_false,Zq,Zr,Zs,Zt,Zu,Zv,Zw,Zx,Zy,Zz,Y0,Y1,Y2,Y3,Y4,Y5,Y6,Y7,Y8,Y9,Ya,Yb,Yc,Yd,Ye,Yf,Yg,Yh,Yi,Yj,Yk,Yl,lk,ef,Ym,Yn,Yo,Yp,Yq,Yr,Ys,Yt,Yu,Yv,Yw,Yx,Yy,Yz,X0,X1,X2,X3,X4,X5,X6,X7,X8,X9,Xa,Xb,Xc,Xd,Xe,Xf,Xg,Xh,Xi,Xj,Xk,hv,Xl,ev,Xm,Xn,Xo,Xp,Xq,Xr,Xs,Xt,Xu,Xv,Xw,Xx,Xy,Xz,W0,W1,W2,W3,W4,W5,W6,W7,W8,W9,Wa,Wb,Wc,Wd,We,Wf,Wg,Wh,Wi,Value.oneCell',Wj,Wk,Wl,Wm,true_and,and_true,and_self,implies_true,Wn,Wo,Wp,Wq,false_implies,Wr,Ws,Wt,Wu,Wv,Ww,Wx,Wy,Wz,V0,V1,V2,V3,V4,V5,V6,V7,reduceCtorEq,if_true,if_false,V8,↓reduceIte,V9,Va,Vb,Vc,Vd,Ve,ne_eq,not_false_eq_true,not_true_eq_false,Vf,Vg,r8_0,r8_1,r8_2,r8_3,r8_4,r8_5,r8_6,r8_7,r8_9,r8_10,r8_11,r8_12,r8_8,r8_13,r8_14,r8_15,r8_16,r8_18,r8_19,r8_20,r8_21,r8_22,r8_23,r8_24,r8_25,r8_26,r8_27,r8_28,r8_17,r8_29,r8_30,r8_31,r8_32,r8_33,r8_34,r8_35,r8_36,p8,l8_1,hnumE,w1,ht,oneI,Int.cast_ofNat_Int,List.length_map]) | (exfalso; omega)
      all_goals first | done | simp
    have ht : ¬ (b.length : Int) - (a : Int) < 4 := by omega
    have r1 := hread a 4 (by omega)
    have s1 := slice_of b a 4
    have p0 : (0 : Int) ≤ (a : Int) := by omega
    have p1 : (0 : Int) ≤ ((a + 4 : Nat) : Int) := by omega
    have p2 : a ≤ a + 4 := by omega
    have p3 : a + 4 ≤ b.length := by omega
    by_cases hb2 : b.length < a + 8
    · have ht2 : (b.length : Int) - ((a + 4 : Nat) : Int) < 4 := by omega
      have hR := rd_fail hl (a := a + 4) (by rw [hg2]; exact rd_bad2 p3 hb2)
      rw [hR] at hF
      rw [hF]
      repeat' first | ((with_reducible (first | refine condD ?_ ?_ | refine condE ?_ ?_ | refine condN ?_ ?_ | refine condI ?_ ?_ | refine condS ?_ ?_)) <;> intro h) | ((with_reducible (first | refine guardD (by with_unfolding_all rfl) ?_ ?_ | refine guardE (by with_unfolding_all rfl) ?_ ?_ | refine guardN (by with_unfolding_all rfl) ?_ ?_ | refine guardI (by with_unfolding_all rfl) ?_ ?_ | refine guardS (by with_unfolding_all rfl) ?_ ?_)) <;> intro h) | ((refine callG r1 ?_)) | (with_reducible refine And.intro ?_ ?_; omega) | (simp only [Z0,Z1,Z2,Z3,Z4,Z5,Z6,Z7,Z8,Z9,Za,Zb,Zc,Zd,Ze,Zf,List.cons.injEq,Zg,Zh,Zi,Zj,Zk,Zl,Zm,Zn,Zo,Zp,beq_self_eq_true,bne_self_eq_false,decide_true,decide_false,Zq,Zr,Zs,Zt,Zu,Zv,Zw,Zx,Zy,Zz,Y0,Y1,Y2,Y3,Y4,Y5,Y6,Y7,Y8,Y9,Ya,Yb,Yc,Yd,Ye,Yf,Yg,Yh,Yi,Yj,Yk,Yl,lk,ef,Ym,Yn,Yo,Yp,Yq,Yr,Ys,Yt,Yu,Yv,Yw,Yx,Yy,Yz,X0,X1,X2,X3,X4,X5,X6,X7,X8,X9,Xa,Xb,Xc,Xd,Xe,Xf,Xg,Xh,Xi,Xj,Xk,hv,Xl,ev,Xm,Xn,Xo,Xp,Xq,Xr,Xs,Xt,Xu,Xv,Xw,Xx,Xy,Xz,W0,W1,W2,W3,W4,W5,W6,W7,W8,W9,Wa,Wb,Wc,Wd,We,Wf,Wg,Wh,Wi,Value.oneCell',Wj,Wk,Wl,Wm,true_and,and_true,and_self,implies_true,Wn,Wo,Wp,Wq,false_implies,Wr,Ws,Wt,Wu,Wv,Ww,Wx,Wy,Wz,V0,V1,V2,V3,V4,V5,V6,V7,reduceCtorEq,if_true,if_false,V8,↓reduceIte,V9,Va,Vb,Vc,Vd,Ve,ne_eq,not_false_eq_true,not_true_eq_false,Vf,Vg,r8_0,r8_1,r8_2,r8_3,r8_4,r8_5,r8_6,r8_7,r8_9,r8_10,r8_11,r8_12,r8_8,r8_13,r8_14,r8_15,r8_16,r8_18,r8_19,r8_20,r8_21,r8_22,r8_23,r8_24,r8_25,r8_26,r8_27,r8_28,r8_17,r8_29,r8_30,r8_31,r8_32,r8_33,r8_34,r8_35,r8_36,p8,l8_1,hnumE,w1,w4,w5,ht,ht2,hall,s1,p0,p1,p2,p3,oneI,Int.cast_ofNat_Int,List.length_map]) | (exfalso; omega)
      all_goals first | done | simp
    have ht2 : ¬ (b.length : Int) - ((a + 4 : Nat) : Int) < 4 := by omega
    have r2 := hread (a + 4) 4 (by omega)
    have s2 := slice_of b (a + 4) 4
    have p4 : (0 : Int) ≤ ((a + 4 + 4 : Nat) : Int) := by omega
    have p5 : a + 4 ≤ a + 4 + 4 := by omega
    have p6 : a + 4 + 4 ≤ b.length := by omega
    rw [rd_round (by omega)] at hg2
    generalize s64 (beV ((b.drop a).take 4) 0) = vb at *
    generalize s64 (beV ((b.drop (a + 4)).take 4) 0) = vl at *
    have hbw := wrap_bd (bg + vl)
    obtain ⟨bg2, hbg2⟩ : ∃ x, x = IntKind.i64.wrap (bg + vl) := ⟨_, rfl⟩
    have hbgE := hbg2.symm
    rw [← hbg2] at hbw hg2
    rw [wn] at hg2
    have hcm : M - (i + 1) = c := by omega
    have happ : out.map Seg.av ++ [[.val (.int .i64 num), .val (.int .i64 0), .val (.int .i64 0), .val (.int .i64 bg), .val (.int .i64 vl), .val (.int .i64 vb), .val (.int .i64 0)]] = (out ++ [(⟨num, 0, 0, bg, vl, vb, 0⟩ : Seg)]).map Seg.av := by rw [List.map_append]; rfl
    have hnewS : ∀ s ∈ out ++ [(⟨num, 0, 0, bg, vl, vb, 0⟩ : Seg)], SegI s := fun s hs => by
      rcases List.mem_append.1 hs with hs | hs
      · exact hsi s hs
      · rw [List.mem_singleton] at hs
        subst hs
        exact ⟨hbg, by simp⟩
    repeat' first | ((with_reducible (first | refine condD ?_ ?_ | refine condE ?_ ?_ | refine condN ?_ ?_ | refine condI ?_ ?_ | refine condS ?_ ?_)) <;> intro h) | ((with_reducible (first | refine guardD (by with_unfolding_all rfl) ?_ ?_ | refine guardE (by with_unfolding_all rfl) ?_ ?_ | refine guardN (by with_unfolding_all rfl) ?_ ?_ | refine guardI (by with_unfolding_all rfl) ?_ ?_ | refine guardS (by with_unfolding_all rfl) ?_ ?_)) <;> intro h) | ((refine callG r1 ?_)) | ((refine callG r2 ?_)) | (with_reducible refine And.intro ?_ ?_; omega) | (simp only [Z0,Z1,Z2,Z3,Z4,Z5,Z6,Z7,Z8,Z9,Za,Zb,Zc,Zd,Ze,Zf,List.cons.injEq,Zg,Zh,Zi,Zj,Zk,Zl,Zm,Zn,Zo,Zp,beq_self_eq_true,bne_self_eq_false,decide_true,decide_false,Zq,Zr,Zs,Zt,Zu,Zv,Zw,Zx,Zy,Zz,Y0,Y1,Y2,Y3,Y4,Y5,Y6,Y7,Y8,Y9,Ya,Yb,Yc,Yd,Ye,Yf,Yg,Yh,Yi,Yj,Yk,Yl,lk,ef,Ym,Yn,Yo,Yp,Yq,Yr,Ys,Yt,Yu,Yv,Yw,Yx,Yy,Yz,X0,X1,X2,X3,X4,X5,X6,X7,X8,X9,Xa,Xb,Xc,Xd,Xe,Xf,Xg,Xh,Xi,Xj,Xk,hv,Xl,ev,Xm,Xn,Xo,Xp,Xq,Xr,Xs,Xt,Xu,Xv,Xw,Xx,Xy,Xz,W0,W1,W2,W3,W4,W5,W6,W7,W8,W9,Wa,Wb,Wc,Wd,We,Wf,Wg,Wh,Wi,Value.oneCell',Wj,Wk,Wl,Wm,true_and,and_true,and_self,implies_true,Wn,Wo,Wp,Wq,false_implies,Wr,Ws,Wt,Wu,Wv,Ww,Wx,Wy,Wz,V0,V1,V2,V3,V4,V5,V6,V7,reduceCtorEq,if_true,if_false,V8,↓reduceIte,V9,Va,Vb,Vc,Vd,Ve,ne_eq,not_false_eq_true,not_true_eq_false,Vf,Vg,r8_0,r8_1,r8_2,r8_3,r8_4,r8_5,r8_6,r8_7,r8_9,r8_10,r8_11,r8_12,r8_8,r8_13,r8_14,r8_15,r8_16,r8_18,r8_19,r8_20,r8_21,r8_22,r8_23,r8_24,r8_25,r8_26,r8_27,r8_28,r8_17,r8_29,r8_30,r8_31,r8_32,r8_33,r8_34,r8_35,r8_36,p8,l8_1,hnumE,hbgE,w1,w4,w5,w8,ht,ht2,hall,s1,s2,happ,hw,p0,p1,p2,p3,p4,p5,p6,oneI,Int.cast_ofNat_Int,List.length_map]) | (exfalso; omega)
    all_goals first | omega | exact again hJ (i + 1, a + 4 + 4, bg2, out ++ [(⟨num, 0, 0, bg, vl, vb, 0⟩ : Seg)]) (weak_mk (by simp only [Vh,Vi,wk1,Vj,Vk,Vl,Z0,Z1,Z2,Z3,Z4,Z5,Z6,Z7,Z8,Z9,Za,Zb,Zc,Zd,Ze,Zf,List.cons.injEq,Zg,Zh,Zi,Zj,Zk,Zl,Zm,Zn,Zo,Zp,beq_self_eq_true,bne_self_eq_false,decide_true,decide_false,Zq,Zr,Zs,Zt,Zu,Zv,Zw,Zx,Zy,Zz,Y0,Y1,Y2,Y3,Y4,Y5,Y6,Y7,Y8,Y9,Ya,Yb,Yc,Yd,Ye,Yf,Yg,Yh,Yi,Yj,Yk,Yl,lk,ef,Ym,Yn,Yo,Yp,Yq,Yr,Ys,Yt,Yu,Yv,Yw,Yx,Yy,Yz,X0,X1,X2,X3,X4,X5,X6,X7,X8,X9,Xa,Xb,Xc,Xd,Xe,Xf,Xg,Xh,Xi,Xj,Xk,hv,Xl,ev,Xm,Xn,Xo,Xp,Xq,Xr,Xs,Xt,Xu,Xv,Xw,Xx,Xy,Xz,W0,W1,W2,W3,W4,W5,W6,W7,W8,W9,Wa,Wb,Wc,Wd,We,Wf,Wg,Wh,Wi,Value.oneCell',Wj,Wk,Wl,Wm,true_and,and_true,and_self,implies_true,Wn,Wo,Wp,Wq,false_implies,Wr,Ws,Wt,Wu,Wv,Ww,Wx,Wy,Wz,V0,V1,V2,V3,V4,V5,V6,V7,reduceCtorEq,if_true,if_false,V8,↓reduceIte,V9,Va,Vb,Vc,Vd,Ve,ne_eq,not_false_eq_true,not_true_eq_false,Vf,Nat.zero_ne_one]; first | done | rfl | exact ⟨rfl, rfl⟩ | exact ⟨rfl, rfl, rfl⟩ | exact ⟨rfl, rfl, rfl, rfl⟩ | (simp [oneI]; done))) ⟨hlt, p6, by simp [hol], hbw, hnewS, by simp only; rw [hcm]; exact hg2⟩ (by simp only; omega)
  have hie : i = M := by omega
  subst hie
  clear hJ
  rw [Nat.sub_self] at hg2
  have hLf : rdL b = (out, a, false) := by rw [hg2]; rfl
  clear hg2
  by_cases hm : a < b.length
  · have hmi : (a : Int) < b.length := by omega
    rw [rd_more hl hLf hm] at hF
    rw [hF]
    repeat' first | ((with_reducible (first | refine condD ?_ ?_ | refine condE ?_ ?_ | refine condN ?_ ?_ | refine condI ?_ ?_ | refine condS ?_ ?_)) <;> intro h) | ((with_reducible (first | refine guardD (by with_unfolding_all rfl) ?_ ?_ | refine guardE (by with_unfolding_all rfl) ?_ ?_ | refine guardN (by with_unfolding_all rfl) ?_ ?_ | refine guardI (by with_unfolding_all rfl) ?_ ?_ | refine guardS (by with_unfolding_all rfl) ?_ ?_)) <;> intro h) | (with_reducible refine And.intro ?_ ?_; omega) | (simp only [Z0,Z1,Z2,Z3,Z4,Z5,Z6,Z7,Z8,Z9,Za,Zb,Zc,Zd,Ze,Zf,List.cons.injEq,Zg,Zh,Zi,Zj,Zk,Zl,Zm,Zn,Zo,Zp,beq_self_eq_true,bne_self_eq_false,decide_true,decide_false,Zq,Zr,Zs,Zt,Zu,Zv,Zw,Zx,Zy,Zz,Y0,Y1,Y2,Y3,Y4,Y5,Y6,Y7,Y8,Y9,Ya,Yb,Yc,Yd,Ye,Yf,Yg,Yh,Yi,Yj,Yk,Yl,lk,ef,Ym,Yn,Yo,Yp,Yq,Yr,Ys,Yt,Yu,Yv,Yw,Yx,Yy,Yz,X0,X1,X2,X3,X4,X5,X6,X7,X8,X9,Xa,Xb,Xc,Xd,Xe,Xf,Xg,Xh,Xi,Xj,Xk,hv,Xl,ev,Xm,Xn,Xo,Xp,Xq,Xr,Xs,Xt,Xu,Xv,Xw,Xx,Xy,Xz,W0,W1,W2,W3,W4,W5,W6,W7,W8,W9,Wa,Wb,Wc,Wd,We,Wf,Wg,Wh,Wi,Value.oneCell',Wj,Wk,Wl,Wm,true_and,and_true,and_self,implies_true,Wn,Wo,Wp,Wq,false_implies,Wr,Ws,Wt,Wu,Wv,Ww,Wx,Wy,Wz,V0,V1,V2,V3,V4,V5,V6,V7,reduceCtorEq,if_true,if_false,V8,↓reduceIte,V9,Va,Vb,Vc,Vd,Ve,ne_eq,not_false_eq_true,not_true_eq_false,Vf,Vg,r8_0,r8_1,r8_2,r8_3,r8_4,r8_5,r8_6,r8_7,r8_9,r8_10,r8_11,r8_12,r8_8,r8_13,r8_14,r8_15,r8_16,r8_18,r8_19,r8_20,r8_21,r8_22,r8_23,r8_24,r8_25,r8_26,r8_27,r8_28,r8_17,r8_29,r8_30,r8_31,r8_32,r8_33,r8_34,r8_35,r8_36,p8,l8_1,hmi,List.length_map]) | (exfalso; omega)
    all_goals first | done | simp
  have hmi : ¬ (a : Int) < b.length := by omega
  rw [hIx out a hLf hm] at hF
  have hx := rix_c out A (by omega) hsi
  by_cases hx0 : ixF out A = 0
  case neg =>
    rw [if_pos hx0] at hF
    rw [hF]
    have hb0 := bne0_t hx0
    have hb1 := beq0_f hx0
    generalize ixF out A = e at *
    repeat' first | ((with_reducible (first | refine condD ?_ ?_ | refine condE ?_ ?_ | refine condN ?_ ?_ | refine condI ?_ ?_ | refine condS ?_ ?_)) <;> intro h) | ((with_reducible (first | refine guardD (by with_unfolding_all rfl) ?_ ?_ | refine guardE (by with_unfolding_all rfl) ?_ ?_ | refine guardN (by with_unfolding_all rfl) ?_ ?_ | refine guardI (by with_unfolding_all rfl) ?_ ?_ | refine guardS (by with_unfolding_all rfl) ?_ ?_)) <;> intro h) | ((refine callG_flat hx (.val _) ?_)) | (with_reducible refine And.intro ?_ ?_; omega) | (simp only [Z0,Z1,Z2,Z3,Z4,Z5,Z6,Z7,Z8,Z9,Za,Zb,Zc,Zd,Ze,Zf,List.cons.injEq,Zg,Zh,Zi,Zj,Zk,Zl,Zm,Zn,Zo,Zp,beq_self_eq_true,bne_self_eq_false,decide_true,decide_false,Zq,Zr,Zs,Zt,Zu,Zv,Zw,Zx,Zy,Zz,Y0,Y1,Y2,Y3,Y4,Y5,Y6,Y7,Y8,Y9,Ya,Yb,Yc,Yd,Ye,Yf,Yg,Yh,Yi,Yj,Yk,Yl,lk,ef,Ym,Yn,Yo,Yp,Yq,Yr,Ys,Yt,Yu,Yv,Yw,Yx,Yy,Yz,X0,X1,X2,X3,X4,X5,X6,X7,X8,X9,Xa,Xb,Xc,Xd,Xe,Xf,Xg,Xh,Xi,Xj,Xk,hv,Xl,ev,Xm,Xn,Xo,Xp,Xq,Xr,Xs,Xt,Xu,Xv,Xw,Xx,Xy,Xz,W0,W1,W2,W3,W4,W5,W6,W7,W8,W9,Wa,Wb,Wc,Wd,We,Wf,Wg,Wh,Wi,Value.oneCell',Wj,Wk,Wl,Wm,true_and,and_true,and_self,implies_true,Wn,Wo,Wp,Wq,false_implies,Wr,Ws,Wt,Wu,Wv,Ww,Wx,Wy,Wz,V0,V1,V2,V3,V4,V5,V6,V7,reduceCtorEq,if_true,if_false,V8,↓reduceIte,V9,Va,Vb,Vc,Vd,Ve,ne_eq,not_false_eq_true,not_true_eq_false,Vf,Vg,r8_0,r8_1,r8_2,r8_3,r8_4,r8_5,r8_6,r8_7,r8_9,r8_10,r8_11,r8_12,r8_8,r8_13,r8_14,r8_15,r8_16,r8_18,r8_19,r8_20,r8_21,r8_22,r8_23,r8_24,r8_25,r8_26,r8_27,r8_28,r8_17,r8_29,r8_30,r8_31,r8_32,r8_33,r8_34,r8_35,r8_36,p8,l8_1,hmi,hb0,hb1,oneI,Int.cast_ofNat_Int,List.length_map]) | (exfalso; omega)
    all_goals first | done | simp
  rw [if_neg (by simp [hx0])] at hF
  rw [hx0] at hx
  by_cases hi0 : i = 0
  · have hib : ((out.length : Int) == 0) = true := by rw [beq_iff_eq]; omega
    by_cases hB : B = 0
    · have hBb : (B != 0) = false := by simp [hB]
      by_cases hC : C = 0
      · have hCC : (C != 0) = false := by simp [hC]
        rw [if_neg (by simp [hB, hC])] at hF
        rw [hF]
        repeat' first | ((with_reducible (first | refine condD ?_ ?_ | refine condE ?_ ?_ | refine condN ?_ ?_ | refine condI ?_ ?_ | refine condS ?_ ?_)) <;> intro h) | ((with_reducible (first | refine guardD (by with_unfolding_all rfl) ?_ ?_ | refine guardE (by with_unfolding_all rfl) ?_ ?_ | refine guardN (by with_unfolding_all rfl) ?_ ?_ | refine guardI (by with_unfolding_all rfl) ?_ ?_ | refine guardS (by with_unfolding_all rfl) ?_ ?_)) <;> intro h) | ((refine callG_flat hx (.val _) ?_)) | (with_reducible refine And.intro ?_ ?_; omega) | (simp only [Z0,Z1,Z2,Z3,Z4,Z5,Z6,Z7,Z8,Z9,Za,Zb,Zc,Zd,Ze,Zf,List.cons.injEq,Zg,Zh,Zi,Zj,Zk,Zl,Zm,Zn,Zo,Zp,beq_self_eq_true,bne_self_eq_false,decide_true,decide_false,Zq,Zr,Zs,Zt,Zu,Zv,Zw,Zx,Zy,Zz,Y0,Y1,Y2,Y3,Y4,Y5,Y6,Y7,Y8,Y9,Ya,Yb,Yc,Yd,Ye,Yf,Yg,Yh,Yi,Yj,Yk,Yl,lk,ef,Ym,Yn,Yo,Yp,Yq,Yr,Ys,Yt,Yu,Yv,Yw,Yx,Yy,Yz,X0,X1,X2,X3,X4,X5,X6,X7,X8,X9,Xa,Xb,Xc,Xd,Xe,Xf,Xg,Xh,Xi,Xj,Xk,hv,Xl,ev,Xm,Xn,Xo,Xp,Xq,Xr,Xs,Xt,Xu,Xv,Xw,Xx,Xy,Xz,W0,W1,W2,W3,W4,W5,W6,W7,W8,W9,Wa,Wb,Wc,Wd,We,Wf,Wg,Wh,Wi,Value.oneCell',Wj,Wk,Wl,Wm,true_and,and_true,and_self,implies_true,Wn,Wo,Wp,Wq,false_implies,Wr,Ws,Wt,Wu,Wv,Ww,Wx,Wy,Wz,V0,V1,V2,V3,V4,V5,V6,V7,reduceCtorEq,if_true,if_false,V8,↓reduceIte,V9,Va,Vb,Vc,Vd,Ve,ne_eq,not_false_eq_true,not_true_eq_false,Vf,Vg,r8_0,r8_1,r8_2,r8_3,r8_4,r8_5,r8_6,r8_7,r8_9,r8_10,r8_11,r8_12,r8_8,r8_13,r8_14,r8_15,r8_16,r8_18,r8_19,r8_20,r8_21,r8_22,r8_23,r8_24,r8_25,r8_26,r8_27,r8_28,r8_17,r8_29,r8_30,r8_31,r8_32,r8_33,r8_34,r8_35,r8_36,p8,l8_1,hmi,hib,hBb,hCC,oneI,Int.cast_ofNat_Int,List.length_map]) | (exfalso; omega)
      · have hCC : (C != 0) = true := by simp [hC]
        rw [if_pos ⟨by omega, .inr hC⟩] at hF
        rw [hF]
        repeat' first | ((with_reducible (first | refine condD ?_ ?_ | refine condE ?_ ?_ | refine condN ?_ ?_ | refine condI ?_ ?_ | refine condS ?_ ?_)) <;> intro h) | ((with_reducible (first | refine guardD (by with_unfolding_all rfl) ?_ ?_ | refine guardE (by with_unfolding_all rfl) ?_ ?_ | refine guardN (by with_unfolding_all rfl) ?_ ?_ | refine guardI (by with_unfolding_all rfl) ?_ ?_ | refine guardS (by with_unfolding_all rfl) ?_ ?_)) <;> intro h) | ((refine callG_flat hx (.val _) ?_)) | (with_reducible refine And.intro ?_ ?_; omega) | (simp only [Z0,Z1,Z2,Z3,Z4,Z5,Z6,Z7,Z8,Z9,Za,Zb,Zc,Zd,Ze,Zf,List.cons.injEq,Zg,Zh,Zi,Zj,Zk,Zl,Zm,Zn,Zo,Zp,beq_self_eq_true,bne_self_eq_false,decide_true,decide_false,Zq,Zr,Zs,Zt,Zu,Zv,Zw,Zx,Zy,Zz,Y0,Y1,Y2,Y3,Y4,Y5,Y6,Y7,Y8,Y9,Ya,Yb,Yc,Yd,Ye,Yf,Yg,Yh,Yi,Yj,Yk,Yl,lk,ef,Ym,Yn,Yo,Yp,Yq,Yr,Ys,Yt,Yu,Yv,Yw,Yx,Yy,Yz,X0,X1,X2,X3,X4,X5,X6,X7,X8,X9,Xa,Xb,Xc,Xd,Xe,Xf,Xg,Xh,Xi,Xj,Xk,hv,Xl,ev,Xm,Xn,Xo,Xp,Xq,Xr,Xs,Xt,Xu,Xv,Xw,Xx,Xy,Xz,W0,W1,W2,W3,W4,W5,W6,W7,W8,W9,Wa,Wb,Wc,Wd,We,Wf,Wg,Wh,Wi,Value.oneCell',Wj,Wk,Wl,Wm,true_and,and_true,and_self,implies_true,Wn,Wo,Wp,Wq,false_implies,Wr,Ws,Wt,Wu,Wv,Ww,Wx,Wy,Wz,V0,V1,V2,V3,V4,V5,V6,V7,reduceCtorEq,if_true,if_false,V8,↓reduceIte,V9,Va,Vb,Vc,Vd,Ve,ne_eq,not_false_eq_true,not_true_eq_false,Vf,Vg,r8_0,r8_1,r8_2,r8_3,r8_4,r8_5,r8_6,r8_7,r8_9,r8_10,r8_11,r8_12,r8_8,r8_13,r8_14,r8_15,r8_16,r8_18,r8_19,r8_20,r8_21,r8_22,r8_23,r8_24,r8_25,r8_26,r8_27,r8_28,r8_17,r8_29,r8_30,r8_31,r8_32,r8_33,r8_34,r8_35,r8_36,p8,l8_1,hmi,hib,hBb,hCC,oneI,Int.cast_ofNat_Int,List.length_map]) | (exfalso; omega)
        all_goals first | done | simp
    · have hBb : (B != 0) = true := by simp [hB]
      rw [if_pos ⟨by omega, .inl hB⟩] at hF
      rw [hF]
      repeat' first | ((with_reducible (first | refine condD ?_ ?_ | refine condE ?_ ?_ | refine condN ?_ ?_ | refine condI ?_ ?_ | refine condS ?_ ?_)) <;> intro h) | ((with_reducible (first | refine guardD (by with_unfolding_all rfl) ?_ ?_ | refine guardE (by with_unfolding_all rfl) ?_ ?_ | refine guardN (by with_unfolding_all rfl) ?_ ?_ | refine guardI (by with_unfolding_all rfl) ?_ ?_ | refine guardS (by with_unfolding_all rfl) ?_ ?_)) <;> intro h) | ((refine callG_flat hx (.val _) ?_)) | (with_reducible refine And.intro ?_ ?_; omega) | (simp only [Z0,Z1,Z2,Z3,Z4,Z5,Z6,Z7,Z8,Z9,Za,Zb,Zc,Zd,Ze,Zf,List.cons.injEq,Zg,Zh,Zi,Zj,Zk,Zl,Zm,Zn,Zo,Zp,beq_self_eq_true,bne_self_eq_false,decide_true,decide_false,Zq,Zr,Zs,Zt,Zu,Zv,Zw,Zx,Zy,Zz,Y0,Y1,Y2,Y3,Y4,Y5,Y6,Y7,Y8,Y9,Ya,Yb,Yc,Yd,Ye,Yf,Yg,Yh,Yi,Yj,Yk,Yl,lk,ef,Ym,Yn,Yo,Yp,Yq,Yr,Ys,Yt,Yu,Yv,Yw,Yx,Yy,Yz,X0,X1,X2,X3,X4,X5,X6,X7,X8,X9,Xa,Xb,Xc,Xd,Xe,Xf,Xg,Xh,Xi,Xj,Xk,hv,Xl,ev,Xm,Xn,Xo,Xp,Xq,Xr,Xs,Xt,Xu,Xv,Xw,Xx,Xy,Xz,W0,W1,W2,W3,W4,W5,W6,W7,W8,W9,Wa,Wb,Wc,Wd,We,Wf,Wg,Wh,Wi,Value.oneCell',Wj,Wk,Wl,Wm,true_and,and_true,and_self,implies_true,Wn,Wo,Wp,Wq,false_implies,Wr,Ws,Wt,Wu,Wv,Ww,Wx,Wy,Wz,V0,V1,V2,V3,V4,V5,V6,V7,reduceCtorEq,if_true,if_false,V8,↓reduceIte,V9,Va,Vb,Vc,Vd,Ve,ne_eq,not_false_eq_true,not_true_eq_false,Vf,Vg,r8_0,r8_1,r8_2,r8_3,r8_4,r8_5,r8_6,r8_7,r8_9,r8_10,r8_11,r8_12,r8_8,r8_13,r8_14,r8_15,r8_16,r8_18,r8_19,r8_20,r8_21,r8_22,r8_23,r8_24,r8_25,r8_26,r8_27,r8_28,r8_17,r8_29,r8_30,r8_31,r8_32,r8_33,r8_34,r8_35,r8_36,p8,l8_1,hmi,hib,hBb,oneI,Int.cast_ofNat_Int,List.length_map]) | (exfalso; omega)
      all_goals first | done | simp
  · have hib : ((out.length : Int) == 0) = false := by rw [beq_eq_false_iff_ne]; omega
    rw [if_neg (fun z => hi0 (by omega))] at hF
    rw [hF]
    repeat' first | ((with_reducible (first | refine condD ?_ ?_ | refine condE ?_ ?_ | refine condN ?_ ?_ | refine condI ?_ ?_ | refine condS ?_ ?_)) <;> intro h) | ((with_reducible (first | refine guardD (by with_unfolding_all rfl) ?_ ?_ | refine guardE (by with_unfolding_all rfl) ?_ ?_ | refine guardN (by with_unfolding_all rfl) ?_ ?_ | refine guardI (by with_unfolding_all rfl) ?_ ?_ | refine guardS (by with_unfolding_all rfl) ?_ ?_)) <;> intro h) | ((refine callG_flat hx (.val _) ?_)) | (with_reducible refine And.intro ?_ ?_; omega) | (simp only [Z0,Z1,Z2,Z3,Z4,Z5,Z6,Z7,Z8,Z9,Za,Zb,Zc,Zd,Ze,Zf,List.cons.injEq,Zg,Zh,Zi,Zj,Zk,Zl,Zm,Zn,Zo,Zp,beq_self_eq_true,bne_self_eq_false,decide_true,decide_false,Zq,Zr,Zs,Zt,Zu,Zv,Zw,Zx,Zy,Zz,Y0,Y1,Y2,Y3,Y4,Y5,Y6,Y7,Y8,Y9,Ya,Yb,Yc,Yd,Ye,Yf,Yg,Yh,Yi,Yj,Yk,Yl,lk,ef,Ym,Yn,Yo,Yp,Yq,Yr,Ys,Yt,Yu,Yv,Yw,Yx,Yy,Yz,X0,X1,X2,X3,X4,X5,X6,X7,X8,X9,Xa,Xb,Xc,Xd,Xe,Xf,Xg,Xh,Xi,Xj,Xk,hv,Xl,ev,Xm,Xn,Xo,Xp,Xq,Xr,Xs,Xt,Xu,Xv,Xw,Xx,Xy,Xz,W0,W1,W2,W3,W4,W5,W6,W7,W8,W9,Wa,Wb,Wc,Wd,We,Wf,Wg,Wh,Wi,Value.oneCell',Wj,Wk,Wl,Wm,true_and,and_true,and_self,implies_true,Wn,Wo,Wp,Wq,false_implies,Wr,Ws,Wt,Wu,Wv,Ww,Wx,Wy,Wz,V0,V1,V2,V3,V4,V5,V6,V7,reduceCtorEq,if_true,if_false,V8,↓reduceIte,V9,Va,Vb,Vc,Vd,Ve,ne_eq,not_false_eq_true,not_true_eq_false,Vf,Vg,r8_0,r8_1,r8_2,r8_3,r8_4,r8_5,r8_6,r8_7,r8_9,r8_10,r8_11,r8_12,r8_8,r8_13,r8_14,r8_15,r8_16,r8_18,r8_19,r8_20,r8_21,r8_22,r8_23,r8_24,r8_25,r8_26,r8_27,r8_28,r8_17,r8_29,r8_30,r8_31,r8_32,r8_33,r8_34,r8_35,r8_36,p8,l8_1,hmi,hib,oneI,Int.cast_ofNat_Int,List.length_map]) | (exfalso; omega)
end Go.Proofs.YtjeemcpdmiajmaaDoor
