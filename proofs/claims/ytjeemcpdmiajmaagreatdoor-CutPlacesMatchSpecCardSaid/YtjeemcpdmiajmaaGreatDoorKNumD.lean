/- The reference's numbers: headendref1's small, divide, by the machine on data. -/
import Derived.Test.YtjeemcpdmiajmaaGreatDoorKNumT
namespace Go.Proofs.YtjeemcpdmiajmaaGreatDoor
open Go.RowKit
open Go.Proofs.YtjeemcpdmiajmaaGreatDoor renaming done_eq → Z0, done_eq' → Z1, donet_eq → Z2, donet_eq' → Z3, fin_val → Z4, fin_tup → Z5, fin_agg → Z6, fin_ro → Z7, res_one → Z8, res_more → Z9, rv_t → Za, rv_c → Zb, rv_l → Zc, int_eq → Zg, bool_eq → Zh, toNat_pred → Zr, toNat_succ → Zs, cnd_t → Zu, cnd_f → Zv, grd_tt → Zw, grd_u → Zx, grd_tf → Zy, grd_ft → Zz, grd_ff → Y0, g_skip → Y1, g_ops → Y2, g_seq → Y3, g_block → Y4, g_exit → Y5, g_ret → Y6, g_nil → Y7, r_all → Y8, o_nil → Y9, g_cond → Ya, o_guard → Yb, o_call → Yc, o_mv → Yd, o_bin → Ye, o_load → Yf, o_idx → Yg, o_len → Yh, o_row → Yi, o_mk → Yj, o_asg → Yk, o_app → Yl, o_store → Ym, eqAV → Yn, view_t → Yo, view_c → Yp, view_nil → Yq, view_fn → Yr, look_own → Ys, look_box → Yt, look_junk → Yu, look_val → Yv, look_nilsl → Yw, look_ro → Yx, look_roAt → Yy, look_agg → Yz, look_tup → X0, look_clo → X1, look_alias → X2, look_ref → X3, look_into → X4, rowOf → X5, cellsOf → X6, argv → X7, vbin → X8, vun → X9, bnd → Xa, elemOf → Xb, putParts → Xc, setAt → Xd, zav → Xe, put_at → Xl, mk_at → Xm, mk_nil → Xn, initSt → Xo, wk_cons → Wj, wk_nil → Wk, vint_eq → Wl, vbool_eq → Wm
open Go.Proofs.YtjeemcpdmiajmaaGreatDoor.AV.tup renaming injEq → Zd
open Go.Proofs.YtjeemcpdmiajmaaGreatDoor.AV.agg renaming injEq → Ze
open Go.Proofs.YtjeemcpdmiajmaaGreatDoor.AV.ro renaming injEq → Zf
open _root_.Int renaming toNat_natCast → Zi, reduceToNat → Zj, toNat_zero → Zk, toNat_one → Zl, reduceLE → Zm, reduceLT → Zn, reduceBEq → Zo, reduceBNe → Zp, reduceNeg → Zq
open _root_.List renaming length_map → Zt, map_cons → Xp, map_nil → Xq, forall_mem_cons → Xr, not_mem_nil → Xs, length_cons → Xt, length_nil → Xu, getD_cons_zero → Xv, getD_cons_succ → Xw, getD_nil → Xx, drop_succ_cons → Xy, drop_zero → Xz, take_succ_cons → W0, take_zero → W1, set_cons_zero → W2, set_cons_succ → W3, all_cons → W4, all_nil → W5
open Go.Proofs.YtjeemcpdmiajmaaGreatDoor.ASt renaming rid → Xf, free → Xg
open Go.Proofs.YtjeemcpdmiajmaaGreatDoor.AV renaming kill → Xh, isHome → Xi, noLoan → Xj, cellOK → Xk
open _root_.Bool renaming and_true → W6, true_and → W7, not_true → W8, not_false → W9, false_eq_true → Wa
open _root_.Nat renaming reduceEqDiff → Wb, reduceAdd → Wc, reduceSub → Wd, reduceMul → We, reduceLeDiff → Wf, reduceLT → Wg, one_ne_zero → Wh, zero_ne_one → Wi
open Go.Proofs.YtjeemcpdmiajmaaGreatDoor.AV.val renaming injEq → Wn
set_option linter.unusedSimpArgs false

theorem lm_len {n k : Nat} (h : n < 10000 ^ k) : (lm n).length ≤ k := by
  by_cases hn : n = 0
  · subst hn; rw [lm_0]; exact Nat.zero_le _
  · refine Nat.not_lt.1 fun q => ?_
    have h1 := lm_low hn
    have h2 : 10000 ^ k ≤ 10000 ^ ((lm n).length - 1) := Nat.pow_le_pow_right (by decide) (by omega)
    omega
theorem lm_below (n : Nat) : n < 10000 ^ (lm n).length := by
  have := valN_lt (dig_lm n)
  rwa [val_lm] at this
theorem lm_mul {b m : Nat} (hm : m < 10000) : (lm (b * m)).length ≤ (lm b).length + 1 := by
  refine lm_len ?_
  have h1 := lm_below b
  rw [Nat.pow_succ]
  have h2 : b * m ≤ b * 10000 := Nat.mul_le_mul_left _ (by omega)
  have h3 : b * 10000 < 10000 ^ (lm b).length * 10000 := Nat.mul_lt_mul_of_pos_right h1 (by decide)
  omega
/-! headend/headendref1.small -/
def r81_0 : List POp := [⟨4, .asg .nil, none⟩]
def r81_1 : List POp := [⟨5, .mv (.t 0), none⟩,
  ⟨6, .mv (.t 1), none⟩,
  ⟨7, .rowr 3 1 [.t 6], none⟩,
  ⟨8, .call 72 [.t 7], none⟩,
  ⟨9, .call 58 [.t 5, .t 8], none⟩,
  ⟨4, .asg (.t 9), none⟩]
def p81 : PCode := .seq (.ops r81_0) (.seq (.ops r81_1) (.ret))
theorem ok81 : okFunc Tryz.prog 81 [.t 4] 2 p81 = true := by kernel_rfl
theorem small_c (b m : Nat) (hm : m < 10000) (hb : (lm b).length ≤ 1000) : CallOK Tryz.prog 81 [.ro ((lm b).map oneN), .val (.int .i64 m)] (.ro ((lm (b * m)).map oneN)) := by
  refine call_of mixed ok81 rfl ?_
  have hT := trim_c [m] (fun d hd => by rw [List.mem_singleton.1 hd]; exact hm) (by simp)
  rw [show valN [m] = m by simp [valN], show [m].map oneN = [[.val (.int .i64 (m : Nat))]] from rfl] at hT
  have hM := times_c b m hb (Nat.le_trans (lm_len (k := 1) (by omega)) (by decide))
  repeat' first | ((with_reducible (first | refine condD ?_ ?_ | refine condE ?_ ?_ | refine condN ?_ ?_ | refine condI ?_ ?_ | refine condS ?_ ?_)) <;> intro h) | ((refine callG hT ?_)) | ((refine callG hM ?_)) | (with_reducible refine And.intro ?_ ?_; omega) | (simp only [Z0,Z1,Z2,Z3,Z4,Z5,Z6,Z7,Z8,Z9,Za,Zb,Zc,Zd,Ze,Zf,List.cons.injEq,Zg,Zh,Zi,Zj,Zk,Zl,Zm,Zn,Zo,Zp,beq_self_eq_true,bne_self_eq_false,decide_true,decide_false,Zq,Zr,Zs,Zt,Zu,Zv,Zw,Zx,Zy,Zz,Y0,Y1,Y2,Y3,Y4,Y5,Y6,x_c,x_o,x_l,x_b,g_b,Y7,Y8,Y9,Ya,Yb,Yc,lk,ef,Yd,o_rowr,Yk,hv,Yn,ev,Yo,Yp,Yq,Yr,Ys,Yt,Yu,Yv,Yw,Yx,Yy,Yz,X0,X1,X2,X3,X4,X5,X6,X7,X8,X9,Xa,Xb,Xc,Xd,Xe,Xf,Xg,Xh,Xi,Xj,Xk,Value.oneCell',Xl,Xm,Xn,Xo,true_and,and_true,and_self,implies_true,Xp,Xq,Xr,Xs,false_implies,Xt,Xu,Xv,Xw,Xx,Xy,Xz,W0,W1,W2,W3,W4,W5,W6,W7,W8,W9,reduceCtorEq,if_true,if_false,Wa,↓reduceIte,Wb,Wc,Wd,We,Wf,Wg,ne_eq,not_false_eq_true,not_true_eq_false,Wh,Wi,r81_0,r81_1,p81]) | (exfalso; omega)
theorem div_step {x0 Dk b r Q : Nat} (hr : r = Dk % b) (hQ : Q = Dk / b) : (x0 + 10000 * r) % b = (x0 + 10000 * Dk) % b ∧ (x0 + 10000 * r) / b + 10000 * Q = (x0 + 10000 * Dk) / b := by
  by_cases hb : b = 0
  · subst hb
    rw [Nat.mod_zero] at hr
    rw [Nat.div_zero] at hQ
    subst hr; subst hQ
    simp
  have e : x0 + 10000 * Dk = x0 + 10000 * r + b * (10000 * Q) := by
    have := Nat.div_add_mod Dk b
    rw [← hr, ← hQ] at this
    rw [← this, Nat.mul_add, Nat.mul_left_comm]
    omega
  rw [e, Nat.add_mul_mod_self_left, Nat.add_mul_div_left _ _ (by omega)]
  exact ⟨rfl, rfl⟩
theorem cmp_le {b m x : Nat} (hb : 0 < b) : (cmpN (b * m) x ≤ 0) ↔ m ≤ x / b := by
  rw [Nat.le_div_iff_mul_le hb, Nat.mul_comm m]
  unfold cmpN
  split
  · constructor
    · intro _; omega
    · intro _; decide
  · split
    · constructor
      · intro h; exact absurd h (by decide)
      · intro h; omega
    · constructor
      · intro _; omega
      · intro _; decide
/-! headend/headendref1.divide -/
def r74_0 : List POp := [⟨4, .asg .nil, none⟩,
  ⟨5, .asg .nil, none⟩]
def r74_1 : List POp := [⟨13, .mv (.t 0), none⟩,
  ⟨14, .len (.t 13), none⟩,
  ⟨15, .mk 3 1 8 [.int .i64 0] (.t 14) (.t 14), none⟩,
  ⟨6, .asg (.t 15), none⟩]
def r74_2 : List POp := [⟨7, .asg .nil, none⟩]
def r74_3 : List POp := [⟨16, .mv (.t 0), none⟩,
  ⟨17, .len (.t 16), none⟩,
  ⟨18, .bin .sub (.t 17) (.c (.int .i64 1)), none⟩,
  ⟨8, .asg (.t 18), none⟩]
def r74_4 : List POp := [⟨19, .mv (.t 8), none⟩,
  ⟨20, .bin .geq (.t 19) (.c (.int .i64 0)), none⟩]
def r74_6 : List POp := [⟨23, .mv (.t 0), none⟩,
  ⟨24, .mv (.t 8), none⟩,
  ⟨25, .idx 1 (.t 23) (.t 24), none⟩,
  ⟨26, .load (.t 25), none⟩,
  ⟨27, .row 3 1 [.t 26], none⟩,
  ⟨9, .asg (.t 27), none⟩]
def r74_7 : List POp := [⟨28, .mv (.t 9), none⟩,
  ⟨29, .mv (.t 7), none⟩,
  ⟨30, .app 3 1 8 (.t 28) (.t 29), none⟩,
  ⟨9, .asg (.t 30), none⟩]
def r74_8 : List POp := [⟨31, .mv (.t 9), none⟩,
  ⟨32, .call 72 [.t 31], none⟩,
  ⟨7, .asg (.t 32), none⟩]
def r74_9 : List POp := [⟨10, .asg (.c (.int .i64 0)), none⟩,
  ⟨11, .asg (.c (.int .i64 9999)), none⟩]
def r74_10 : List POp := [⟨33, .mv (.t 10), none⟩,
  ⟨34, .mv (.t 11), none⟩,
  ⟨35, .bin .lss (.t 33) (.t 34), none⟩]
def r74_11 : List POp := [⟨36, .mv (.t 10), none⟩,
  ⟨37, .mv (.t 11), none⟩,
  ⟨38, .bin .add (.t 36) (.t 37), none⟩,
  ⟨39, .bin .add (.t 38) (.c (.int .i64 1)), none⟩,
  ⟨40, .bin .quo (.t 39) (.c (.int .i64 2)), none⟩,
  ⟨12, .asg (.t 40), none⟩]
def r74_12 : List POp := [⟨41, .mv (.t 1), none⟩,
  ⟨42, .mv (.t 12), none⟩,
  ⟨43, .call 81 [.t 41, .t 42], none⟩,
  ⟨44, .mv (.t 7), none⟩,
  ⟨45, .call 61 [.t 43, .t 44], none⟩,
  ⟨46, .bin .leq (.t 45) (.c (.int .i64 0)), none⟩]
def r74_13 : List POp := [⟨47, .mv (.t 12), none⟩,
  ⟨10, .asg (.t 47), none⟩]
def r74_14 : List POp := [⟨48, .mv (.t 12), none⟩,
  ⟨49, .bin .sub (.t 48) (.c (.int .i64 1)), none⟩,
  ⟨11, .asg (.t 49), none⟩]
def r74_15 : List POp := [⟨50, .mv (.t 6), none⟩,
  ⟨51, .mv (.t 8), none⟩,
  ⟨52, .mv (.t 10), none⟩,
  ⟨53, .idx 1 (.t 50) (.t 51), none⟩,
  ⟨0, .store (.t 53) (.t 52), none⟩]
def r74_16 : List POp := [⟨54, .mv (.t 7), none⟩,
  ⟨55, .mv (.t 1), none⟩,
  ⟨56, .mv (.t 10), none⟩,
  ⟨57, .call 81 [.t 55, .t 56], none⟩,
  ⟨58, .call 62 [.t 54, .t 57], none⟩,
  ⟨7, .asg (.t 58), none⟩]
def r74_5 : List POp := [⟨21, .mv (.t 8), none⟩,
  ⟨22, .bin .sub (.t 21) (.c (.int .i64 1)), none⟩,
  ⟨8, .asg (.t 22), none⟩]
def r74_17 : List POp := [⟨59, .mv (.t 6), none⟩,
  ⟨60, .call 72 [.t 59], none⟩,
  ⟨61, .mv (.t 7), none⟩,
  ⟨4, .asg (.t 60), none⟩,
  ⟨5, .asg (.t 61), none⟩]
def l74_1 : PCode := .seq (.seq (.ops r74_10) (.cond (.t 35) (.skip) (.exit 2))) (.block 3 (.seq (.ops r74_11) (.seq (.ops r74_12) (.cond (.t 46) (.ops r74_13) (.ops r74_14)))))
def l74_0 : PCode := .seq (.seq (.ops r74_4) (.cond (.t 20) (.skip) (.exit 0))) (.seq (.block 1 (.seq (.ops r74_6) (.seq (.ops r74_7) (.seq (.opw r74_8) (.seq (.ops r74_9) (.seq (.block 2 (.loop l74_1)) (.seq (.ops r74_15) (.ops r74_16)))))))) (.ops r74_5))
def p74 : PCode := .seq (.ops r74_0) (.seq (.ops r74_1) (.seq (.ops r74_2) (.seq (.seq (.ops r74_3) (.block 0 (.loop l74_0))) (.seq (.opw r74_17) (.ret)))))
theorem ok74 : okFunc Tryz.prog 74 [.t 4, .t 5] 2 p74 = true := by kernel_rfl
set_option maxRecDepth 20000 in
set_option maxHeartbeats 4000000 in
theorem divide_c (a b : Nat) (hb0 : 0 < b) (ha : (lm a).length ≤ 900) (hb : (lm b).length ≤ 900) : CallOK Tryz.prog 74 [.ro ((lm a).map oneN), .ro ((lm b).map oneN)] (.tup [.ro ((lm (a / b)).map oneN), .ro ((lm (a % b)).map oneN)]) := by
  refine call_of mixed ok74 rfl ?_
  have da := dig_lm a
  have va := val_lm a
  generalize lm a = A at *
  have w0 : IntKind.i64.wrap ((A.length : Int) - 1) = (A.length : Int) - 1 := wrap_in (by omega) (by omega)
  have n0 : (0 : Int) ≤ (A.length : Int) := by omega
  have n1 : (A.length : Int) ≤ 9223372036854775807 := by omega
  have n2 : 8 * (A.length : Int) ≤ 281474976710656 := by omega
  have hbelow := lm_below b
  repeat' first | ((with_reducible (first | refine condD ?_ ?_ | refine condE ?_ ?_ | refine condN ?_ ?_ | refine condI ?_ ?_ | refine condS ?_ ?_)) <;> intro h) | (with_reducible refine And.intro ?_ ?_; omega) | (simp only [Z0,Z1,Z2,Z3,Z4,Z5,Z6,Z7,Z8,Z9,Za,Zb,Zc,Zd,Ze,Zf,List.cons.injEq,Zg,Zh,Zi,Zj,Zk,Zl,Zm,Zn,Zo,Zp,beq_self_eq_true,bne_self_eq_false,decide_true,decide_false,Zq,Zr,Zs,Zt,Zu,Zv,Zw,Zx,Zy,Zz,Y0,Y1,Y2,Y3,Y4,Y5,Y6,x_c,x_o,x_l,x_b,g_b,Y7,Y8,Y9,Ya,Yb,Yc,lk,ef,Yd,Ye,Yf,Yg,Yh,Yi,Yj,Yk,Yl,Ym,hv,Yn,ev,Yo,Yp,Yq,Yr,Ys,Yt,Yu,Yv,Yw,Yx,Yy,Yz,X0,X1,X2,X3,X4,X5,X6,X7,X8,X9,Xa,Xb,Xc,Xd,Xe,Xf,Xg,Xh,Xi,Xj,Xk,Value.oneCell',Xl,Xm,Xn,Xo,true_and,and_true,and_self,implies_true,Xp,Xq,Xr,Xs,false_implies,Xt,Xu,Xv,Xw,Xx,Xy,Xz,W0,W1,W2,W3,W4,W5,W6,W7,W8,W9,reduceCtorEq,if_true,if_false,Wa,↓reduceIte,Wb,Wc,Wd,We,Wf,Wg,ne_eq,not_false_eq_true,not_true_eq_false,Wh,Wi,r74_0,r74_1,r74_2,r74_3,r74_4,r74_6,r74_7,r74_8,r74_9,r74_10,r74_11,r74_12,r74_13,r74_14,r74_15,r74_16,r74_5,r74_17,p74,w0,n0,n1,n2,Int.le_refl,List.length_map]) | (exfalso; omega)
  refine loopS (fun s : Nat × List Nat × Nat => mk [(0, .ro (A.map oneN)), (1, .ro ((lm b).map oneN)), (6, .own 3 1 (s.2.1.map oneN)), (7, .ro ((lm s.2.2).map oneN)), (8, .val (.int .i64 ((s.1 : Int) - 1)))])
    (fun s => s.1 ≤ A.length ∧ s.2.1.length = A.length ∧ digN s.2.1 ∧ s.2.2 = valN (A.drop s.1) % b ∧ valN (s.2.1.drop s.1) = valN (A.drop s.1) / b) (fun s => s.1) (A.length, List.replicate A.length 0, 0) (weak_mk ?_) ⟨Nat.le_refl _, List.length_replicate, (fun d hd => by rw [List.eq_of_mem_replicate hd]; decide), by simp [valN], by simp [valN]⟩ ?_
  · simp only [Wj,Wk,wk1,Wl,Wm,Wn,Z4,Z5,Z6,Z7,Z8,Z9,Za,Zb,Zc,Zd,Ze,Zf,List.cons.injEq,Zg,Zh,Zi,Zj,Zk,Zl,Zm,Zn,Zo,Zp,beq_self_eq_true,bne_self_eq_false,decide_true,decide_false,Zq,Zr,Zs,Zt,Zu,Zv,Zw,Zx,Zy,Zz,Y0,hv,Yn,ev,Yo,Yp,Yq,Yr,Ys,Yt,Yu,Yv,Yw,Yx,Yy,Yz,X0,X1,X2,X3,X4,X5,X6,X7,X8,X9,Xa,Xb,Xc,Xd,Xe,Xf,Xg,Xh,Xi,Xj,Xk,Value.oneCell',Xl,Xm,Xn,Xo,true_and,and_true,and_self,implies_true,Xp,Xq,Xr,Xs,false_implies,Xt,Xu,Xv,Xw,Xx,Xy,Xz,W0,W1,W2,W3,W4,W5,W6,W7,W8,W9,reduceCtorEq,if_true,if_false,Wa,↓reduceIte,Wb,Wc,Wd,We,Wf,Wg,ne_eq,not_false_eq_true,not_true_eq_false,Wh,Nat.zero_ne_one]
    rw [lm_0, List.map_replicate]
    first | done | rfl | exact ⟨rfl, rfl⟩
  rintro J hJ ⟨k, out, r⟩ ⟨h1, h2, h3, h4, h5⟩
  simp only at h1 h2 h3 h4 h5
  by_cases hk0 : k = 0
  · subst hk0
    have hki : ¬ (0 : Int) ≤ ((0 : Nat) : Int) - 1 := by omega
    rw [List.drop_zero, va] at h4
    rw [List.drop_zero, List.drop_zero, va] at h5
    have hT := trim_c out h3 (by omega)
    rw [h5] at hT
    clear hJ
    repeat' first | ((with_reducible (first | refine condD ?_ ?_ | refine condE ?_ ?_ | refine condN ?_ ?_ | refine condI ?_ ?_ | refine condS ?_ ?_)) <;> intro h) | (with_reducible refine And.intro ?_ ?_; omega) | (simp only [Z0,Z1,Z2,Z3,Z4,Z5,Z6,Z7,Z8,Z9,Za,Zb,Zc,Zd,Ze,Zf,List.cons.injEq,Zg,Zh,Zi,Zj,Zk,Zl,Zm,Zn,Zo,Zp,beq_self_eq_true,bne_self_eq_false,decide_true,decide_false,Zq,Zr,Zs,Zt,Zu,Zv,Zw,Zx,Zy,Zz,Y0,Y1,Y2,Y3,Y4,Y5,Y6,x_c,x_o,x_l,x_b,g_b,Y7,Y8,Y9,Ya,Yb,Yc,lk,ef,Yd,Ye,Yf,Yg,Yh,Yi,Yj,Yk,Yl,Ym,hv,Yn,ev,Yo,Yp,Yq,Yr,Ys,Yt,Yu,Yv,Yw,Yx,Yy,Yz,X0,X1,X2,X3,X4,X5,X6,X7,X8,X9,Xa,Xb,Xc,Xd,Xe,Xf,Xg,Xh,Xi,Xj,Xk,Value.oneCell',Xl,Xm,Xn,Xo,true_and,and_true,and_self,implies_true,Xp,Xq,Xr,Xs,false_implies,Xt,Xu,Xv,Xw,Xx,Xy,Xz,W0,W1,W2,W3,W4,W5,W6,W7,W8,W9,reduceCtorEq,if_true,if_false,Wa,↓reduceIte,Wb,Wc,Wd,We,Wf,Wg,ne_eq,not_false_eq_true,not_true_eq_false,Wh,Wi,r74_0,r74_1,r74_2,r74_3,r74_4,r74_6,r74_7,r74_8,r74_9,r74_10,r74_11,r74_12,r74_13,r74_14,r74_15,r74_16,r74_5,r74_17,p74,l74_0,hki]) | (exfalso; omega)
    refine opwG (weak_mk (l := [(6, .ro (out.map oneN)), (7, .ro ((lm r).map oneN))]) ?_) ?_
    · simp only [Wj,Wk,wk1,Wl,Wm,Wn,Z4,Z5,Z6,Z7,Z8,Z9,Za,Zb,Zc,Zd,Ze,Zf,List.cons.injEq,Zg,Zh,Zi,Zj,Zk,Zl,Zm,Zn,Zo,Zp,beq_self_eq_true,bne_self_eq_false,decide_true,decide_false,Zq,Zr,Zs,Zt,Zu,Zv,Zw,Zx,Zy,Zz,Y0,hv,Yn,ev,Yo,Yp,Yq,Yr,Ys,Yt,Yu,Yv,Yw,Yx,Yy,Yz,X0,X1,X2,X3,X4,X5,X6,X7,X8,X9,Xa,Xb,Xc,Xd,Xe,Xf,Xg,Xh,Xi,Xj,Xk,Value.oneCell',Xl,Xm,Xn,Xo,true_and,and_true,and_self,implies_true,Xp,Xq,Xr,Xs,false_implies,Xt,Xu,Xv,Xw,Xx,Xy,Xz,W0,W1,W2,W3,W4,W5,W6,W7,W8,W9,reduceCtorEq,if_true,if_false,Wa,↓reduceIte,Wb,Wc,Wd,We,Wf,Wg,ne_eq,not_false_eq_true,not_true_eq_false,Wh,Nat.zero_ne_one]
    rw [h4]
    repeat' first | ((with_reducible (first | refine condD ?_ ?_ | refine condE ?_ ?_ | refine condN ?_ ?_ | refine condI ?_ ?_ | refine condS ?_ ?_)) <;> intro h) | ((refine callG hT ?_)) | (with_reducible refine And.intro ?_ ?_; omega) | (simp only [Z0,Z1,Z2,Z3,Z4,Z5,Z6,Z7,Z8,Z9,Za,Zb,Zc,Zd,Ze,Zf,List.cons.injEq,Zg,Zh,Zi,Zj,Zk,Zl,Zm,Zn,Zo,Zp,beq_self_eq_true,bne_self_eq_false,decide_true,decide_false,Zq,Zr,Zs,Zt,Zu,Zv,Zw,Zx,Zy,Zz,Y0,Y1,Y2,Y3,Y4,Y5,Y6,x_c,x_o,x_l,x_b,g_b,Y7,Y8,Y9,Ya,Yb,Yc,lk,ef,Yd,Ye,Yf,Yg,Yh,Yi,Yj,Yk,Yl,Ym,hv,Yn,ev,Yo,Yp,Yq,Yr,Ys,Yt,Yu,Yv,Yw,Yx,Yy,Yz,X0,X1,X2,X3,X4,X5,X6,X7,X8,X9,Xa,Xb,Xc,Xd,Xe,Xf,Xg,Xh,Xi,Xj,Xk,Value.oneCell',Xl,Xm,Xn,Xo,true_and,and_true,and_self,implies_true,Xp,Xq,Xr,Xs,false_implies,Xt,Xu,Xv,Xw,Xx,Xy,Xz,W0,W1,W2,W3,W4,W5,W6,W7,W8,W9,reduceCtorEq,if_true,if_false,Wa,↓reduceIte,Wb,Wc,Wd,We,Wf,Wg,ne_eq,not_false_eq_true,not_true_eq_false,Wh,Wi,r74_0,r74_1,r74_2,r74_3,r74_4,r74_6,r74_7,r74_8,r74_9,r74_10,r74_11,r74_12,r74_13,r74_14,r74_15,r74_16,r74_5,r74_17,p74,l74_0]) | (exfalso; omega)
  obtain ⟨i, rfl⟩ : ∃ i, k = i + 1 := ⟨k - 1, by omega⟩
  have hj1 : i < A.length := by omega
  have ej : ((i + 1 : Nat) : Int) - 1 = (i : Int) := by omega
  have hki : (0 : Int) ≤ (i : Int) := by omega
  have i1 : (i : Int) < A.length := by omega
  have wj : IntKind.i64.wrap ((i : Int) - 1) = (i : Int) - 1 := wrap_in (by omega) (by omega)
  have gA := getD_map (f := oneN) (d := []) hj1
  have hx0 := da _ (List.getElem_mem hj1)
  have hD : valN (A.drop i) = A[i] + 10000 * valN (A.drop (i + 1)) := by rw [List.drop_eq_getElem_cons hj1, valN]
  simp only [oneN] at gA
  generalize A[i] = x0 at *
  have hds := div_step (x0 := x0) h4 h5
  rw [← hD] at hds
  have hrb : r < b := by rw [h4]; exact Nat.mod_lt _ hb0
  obtain ⟨x, hx⟩ : ∃ x, x = x0 + 10000 * r := ⟨_, rfl⟩
  rw [← hx] at hds
  have hxb : x < b * 10000 := by omega
  have hrl : (lm r).length ≤ (lm b).length := lm_len (Nat.lt_trans hrb hbelow)
  have hxl : (lm x).length ≤ (lm b).length + 1 := lm_len (by rw [Nat.pow_succ]; exact Nat.lt_trans hxb (Nat.mul_lt_mul_of_pos_right hbelow (by decide)))
  have hT := trim_c (x0 :: lm r) (fun d hd => by
    rcases List.mem_cons.1 hd with rfl | hd
    · exact hx0
    · exact dig_lm r d hd) (by rw [List.length_cons]; omega)
  rw [show valN (x0 :: lm r) = x by rw [valN, val_lm, hx]] at hT
  have happ : [[AV.val (.int .i64 (x0 : Nat))]] ++ (lm r).map oneN = (x0 :: lm r).map oneN := rfl
  have hlen1 : (x0 :: lm r).length ≤ 2000 := by rw [List.length_cons]; omega
  repeat' first | ((with_reducible (first | refine condD ?_ ?_ | refine condE ?_ ?_ | refine condN ?_ ?_ | refine condI ?_ ?_ | refine condS ?_ ?_)) <;> intro h) | (with_reducible refine And.intro ?_ ?_; omega) | (simp only [Z0,Z1,Z2,Z3,Z4,Z5,Z6,Z7,Z8,Z9,Za,Zb,Zc,Zd,Ze,Zf,List.cons.injEq,Zg,Zh,Zi,Zj,Zk,Zl,Zm,Zn,Zo,Zp,beq_self_eq_true,bne_self_eq_false,decide_true,decide_false,Zq,Zr,Zs,Zt,Zu,Zv,Zw,Zx,Zy,Zz,Y0,Y1,Y2,Y3,Y4,Y5,Y6,x_c,x_o,x_l,x_b,g_b,Y7,Y8,Y9,Ya,Yb,Yc,lk,ef,Yd,Ye,Yf,Yg,Yh,Yi,Yj,Yk,Yl,Ym,hv,Yn,ev,Yo,Yp,Yq,Yr,Ys,Yt,Yu,Yv,Yw,Yx,Yy,Yz,X0,X1,X2,X3,X4,X5,X6,X7,X8,X9,Xa,Xb,Xc,Xd,Xe,Xf,Xg,Xh,Xi,Xj,Xk,Value.oneCell',Xl,Xm,Xn,Xo,true_and,and_true,and_self,implies_true,Xp,Xq,Xr,Xs,false_implies,Xt,Xu,Xv,Xw,Xx,Xy,Xz,W0,W1,W2,W3,W4,W5,W6,W7,W8,W9,reduceCtorEq,if_true,if_false,Wa,↓reduceIte,Wb,Wc,Wd,We,Wf,Wg,ne_eq,not_false_eq_true,not_true_eq_false,Wh,Wi,r74_0,r74_1,r74_2,r74_3,r74_4,r74_6,r74_7,r74_8,r74_9,r74_10,r74_11,r74_12,r74_13,r74_14,r74_15,r74_16,r74_5,r74_17,p74,l74_0,ej,hki,i1,gA,happ,List.length_map]) | (exfalso; omega)
  refine ⟨⟨fun y hy => by obtain ⟨n, _, rfl⟩ := List.mem_map.1 hy; rfl, by omega, by omega⟩, ?_⟩
  refine opwG (weak_mk (l := [(0, .ro (A.map oneN)), (1, .ro ((lm b).map oneN)), (6, .own 3 1 (out.map oneN)), (8, .val (.int .i64 i)), (9, .ro ((x0 :: lm r).map oneN))]) ?_) ?_
  · simp only [Wj,Wk,wk1,Wl,Wm,Wn,Z4,Z5,Z6,Z7,Z8,Z9,Za,Zb,Zc,Zd,Ze,Zf,List.cons.injEq,Zg,Zh,Zi,Zj,Zk,Zl,Zm,Zn,Zo,Zp,beq_self_eq_true,bne_self_eq_false,decide_true,decide_false,Zq,Zr,Zs,Zt,Zu,Zv,Zw,Zx,Zy,Zz,Y0,hv,Yn,ev,Yo,Yp,Yq,Yr,Ys,Yt,Yu,Yv,Yw,Yx,Yy,Yz,X0,X1,X2,X3,X4,X5,X6,X7,X8,X9,Xa,Xb,Xc,Xd,Xe,Xf,Xg,Xh,Xi,Xj,Xk,Value.oneCell',Xl,Xm,Xn,Xo,true_and,and_true,and_self,implies_true,Xp,Xq,Xr,Xs,false_implies,Xt,Xu,Xv,Xw,Xx,Xy,Xz,W0,W1,W2,W3,W4,W5,W6,W7,W8,W9,reduceCtorEq,if_true,if_false,Wa,↓reduceIte,Wb,Wc,Wd,We,Wf,Wg,ne_eq,not_false_eq_true,not_true_eq_false,Wh,Nat.zero_ne_one]
  repeat' first | ((with_reducible (first | refine condD ?_ ?_ | refine condE ?_ ?_ | refine condN ?_ ?_ | refine condI ?_ ?_ | refine condS ?_ ?_)) <;> intro h) | ((refine callG hT ?_)) | (with_reducible refine And.intro ?_ ?_; omega) | (simp only [Z0,Z1,Z2,Z3,Z4,Z5,Z6,Z7,Z8,Z9,Za,Zb,Zc,Zd,Ze,Zf,List.cons.injEq,Zg,Zh,Zi,Zj,Zk,Zl,Zm,Zn,Zo,Zp,beq_self_eq_true,bne_self_eq_false,decide_true,decide_false,Zq,Zr,Zs,Zt,Zu,Zv,Zw,Zx,Zy,Zz,Y0,Y1,Y2,Y3,Y4,Y5,Y6,x_c,x_o,x_l,x_b,g_b,Y7,Y8,Y9,Ya,Yb,Yc,lk,ef,Yd,Ye,Yf,Yg,Yh,Yi,Yj,Yk,Yl,Ym,hv,Yn,ev,Yo,Yp,Yq,Yr,Ys,Yt,Yu,Yv,Yw,Yx,Yy,Yz,X0,X1,X2,X3,X4,X5,X6,X7,X8,X9,Xa,Xb,Xc,Xd,Xe,Xf,Xg,Xh,Xi,Xj,Xk,Value.oneCell',Xl,Xm,Xn,Xo,true_and,and_true,and_self,implies_true,Xp,Xq,Xr,Xs,false_implies,Xt,Xu,Xv,Xw,Xx,Xy,Xz,W0,W1,W2,W3,W4,W5,W6,W7,W8,W9,reduceCtorEq,if_true,if_false,Wa,↓reduceIte,Wb,Wc,Wd,We,Wf,Wg,ne_eq,not_false_eq_true,not_true_eq_false,Wh,Wi,r74_0,r74_1,r74_2,r74_3,r74_4,r74_6,r74_7,r74_8,r74_9,r74_10,r74_11,r74_12,r74_13,r74_14,r74_15,r74_16,r74_5,r74_17,p74,l74_0]) | (exfalso; omega)
  have hq : x / b < 10000 := by rw [Nat.div_lt_iff_lt_mul hb0, Nat.mul_comm]; exact hxb
  refine loopS (fun s : Nat × Nat => mk [(0, .ro (A.map oneN)), (1, .ro ((lm b).map oneN)), (6, .own 3 1 (out.map oneN)), (7, .ro ((lm x).map oneN)), (8, .val (.int .i64 i)), (10, .val (.int .i64 s.1)), (11, .val (.int .i64 s.2))])
    (fun s => s.1 ≤ x / b ∧ x / b ≤ s.2 ∧ s.2 ≤ 9999) (fun s => s.2 - s.1) (0, 9999) (weak_mk ?_) ⟨Nat.zero_le _, by simp only; omega, Nat.le_refl _⟩ ?_
  · simp only [Wj,Wk,wk1,Wl,Wm,Wn,Z4,Z5,Z6,Z7,Z8,Z9,Za,Zb,Zc,Zd,Ze,Zf,List.cons.injEq,Zg,Zh,Zi,Zj,Zk,Zl,Zm,Zn,Zo,Zp,beq_self_eq_true,bne_self_eq_false,decide_true,decide_false,Zq,Zr,Zs,Zt,Zu,Zv,Zw,Zx,Zy,Zz,Y0,hv,Yn,ev,Yo,Yp,Yq,Yr,Ys,Yt,Yu,Yv,Yw,Yx,Yy,Yz,X0,X1,X2,X3,X4,X5,X6,X7,X8,X9,Xa,Xb,Xc,Xd,Xe,Xf,Xg,Xh,Xi,Xj,Xk,Value.oneCell',Xl,Xm,Xn,Xo,true_and,and_true,and_self,implies_true,Xp,Xq,Xr,Xs,false_implies,Xt,Xu,Xv,Xw,Xx,Xy,Xz,W0,W1,W2,W3,W4,W5,W6,W7,W8,W9,reduceCtorEq,if_true,if_false,Wa,↓reduceIte,Wb,Wc,Wd,We,Wf,Wg,ne_eq,not_false_eq_true,not_true_eq_false,Wh,Nat.zero_ne_one]
    first | done | rfl | exact ⟨rfl, rfl⟩
  rintro J2 hJ2 ⟨low, high⟩ ⟨k1, k2, k3⟩
  simp only at k1 k2 k3
  by_cases hlt : low < high
  · have hli : (low : Int) < high := by omega
    obtain ⟨mid, hmid⟩ : ∃ mid, mid = (low + high + 1) / 2 := ⟨_, rfl⟩
    have u1 : IntKind.i64.wrap ((low : Int) + (high : Int)) = ((low + high : Nat) : Int) := by rw [wrap_in (by omega) (by omega)]; omega
    have u2 : IntKind.i64.wrap (((low + high : Nat) : Int) + 1) = ((low + high + 1 : Nat) : Int) := by rw [wrap_in (by omega) (by omega)]; omega
    have u3 : ((low + high + 1 : Nat) : Int).tdiv 2 = (mid : Int) := by rw [show (2 : Int) = ((2 : Nat) : Int) from rfl, ← Int.ofNat_tdiv, ← hmid]
    have u4 : IntKind.i64.wrap (mid : Int) = mid := wrap_in (by omega) (by omega)
    have u5 : IntKind.i64.wrap ((mid : Int) - 1) = ((mid - 1 : Nat) : Int) := by rw [wrap_in (by omega) (by omega)]; omega
    have hS := small_c b mid (by omega) (by omega)
    have hC := compare_c (b * mid) x (Nat.le_trans (lm_mul (by omega)) (by omega))
    have hcl := cmp_le (m := mid) (x := x) hb0
    by_cases hle : mid ≤ x / b
    · have hle2 := hcl.2 hle
      repeat' first | ((with_reducible (first | refine condD ?_ ?_ | refine condE ?_ ?_ | refine condN ?_ ?_ | refine condI ?_ ?_ | refine condS ?_ ?_)) <;> intro h) | ((refine callG hS ?_)) | ((refine callG hC ?_)) | (with_reducible refine And.intro ?_ ?_; omega) | (simp only [Z0,Z1,Z2,Z3,Z4,Z5,Z6,Z7,Z8,Z9,Za,Zb,Zc,Zd,Ze,Zf,List.cons.injEq,Zg,Zh,Zi,Zj,Zk,Zl,Zm,Zn,Zo,Zp,beq_self_eq_true,bne_self_eq_false,decide_true,decide_false,Zq,Zr,Zs,Zt,Zu,Zv,Zw,Zx,Zy,Zz,Y0,Y1,Y2,Y3,Y4,Y5,Y6,x_c,x_o,x_l,x_b,g_b,Y7,Y8,Y9,Ya,Yb,Yc,lk,ef,Yd,Ye,Yf,Yg,Yh,Yi,Yj,Yk,Yl,Ym,hv,Yn,ev,Yo,Yp,Yq,Yr,Ys,Yt,Yu,Yv,Yw,Yx,Yy,Yz,X0,X1,X2,X3,X4,X5,X6,X7,X8,X9,Xa,Xb,Xc,Xd,Xe,Xf,Xg,Xh,Xi,Xj,Xk,Value.oneCell',Xl,Xm,Xn,Xo,true_and,and_true,and_self,implies_true,Xp,Xq,Xr,Xs,false_implies,Xt,Xu,Xv,Xw,Xx,Xy,Xz,W0,W1,W2,W3,W4,W5,W6,W7,W8,W9,reduceCtorEq,if_true,if_false,Wa,↓reduceIte,Wb,Wc,Wd,We,Wf,Wg,ne_eq,not_false_eq_true,not_true_eq_false,Wh,Wi,r74_0,r74_1,r74_2,r74_3,r74_4,r74_6,r74_7,r74_8,r74_9,r74_10,r74_11,r74_12,r74_13,r74_14,r74_15,r74_16,r74_5,r74_17,p74,l74_1,hli,u1,u2,u3,u4,hle2,Int.reduceEq]) | (exfalso; omega)
      all_goals first | omega | exact again hJ2 (mid, high) (weak_mk (by simp only [Wj,Wk,wk1,Wl,Wm,Wn,Z4,Z5,Z6,Z7,Z8,Z9,Za,Zb,Zc,Zd,Ze,Zf,List.cons.injEq,Zg,Zh,Zi,Zj,Zk,Zl,Zm,Zn,Zo,Zp,beq_self_eq_true,bne_self_eq_false,decide_true,decide_false,Zq,Zr,Zs,Zt,Zu,Zv,Zw,Zx,Zy,Zz,Y0,hv,Yn,ev,Yo,Yp,Yq,Yr,Ys,Yt,Yu,Yv,Yw,Yx,Yy,Yz,X0,X1,X2,X3,X4,X5,X6,X7,X8,X9,Xa,Xb,Xc,Xd,Xe,Xf,Xg,Xh,Xi,Xj,Xk,Value.oneCell',Xl,Xm,Xn,Xo,true_and,and_true,and_self,implies_true,Xp,Xq,Xr,Xs,false_implies,Xt,Xu,Xv,Xw,Xx,Xy,Xz,W0,W1,W2,W3,W4,W5,W6,W7,W8,W9,reduceCtorEq,if_true,if_false,Wa,↓reduceIte,Wb,Wc,Wd,We,Wf,Wg,ne_eq,not_false_eq_true,not_true_eq_false,Wh,Nat.zero_ne_one])) ⟨hle, k2, k3⟩ (by simp only; omega)
    · have hle2 : ¬ cmpN (b * mid) x ≤ 0 := fun q => hle (hcl.1 q)
      repeat' first | ((with_reducible (first | refine condD ?_ ?_ | refine condE ?_ ?_ | refine condN ?_ ?_ | refine condI ?_ ?_ | refine condS ?_ ?_)) <;> intro h) | ((refine callG hS ?_)) | ((refine callG hC ?_)) | (with_reducible refine And.intro ?_ ?_; omega) | (simp only [Z0,Z1,Z2,Z3,Z4,Z5,Z6,Z7,Z8,Z9,Za,Zb,Zc,Zd,Ze,Zf,List.cons.injEq,Zg,Zh,Zi,Zj,Zk,Zl,Zm,Zn,Zo,Zp,beq_self_eq_true,bne_self_eq_false,decide_true,decide_false,Zq,Zr,Zs,Zt,Zu,Zv,Zw,Zx,Zy,Zz,Y0,Y1,Y2,Y3,Y4,Y5,Y6,x_c,x_o,x_l,x_b,g_b,Y7,Y8,Y9,Ya,Yb,Yc,lk,ef,Yd,Ye,Yf,Yg,Yh,Yi,Yj,Yk,Yl,Ym,hv,Yn,ev,Yo,Yp,Yq,Yr,Ys,Yt,Yu,Yv,Yw,Yx,Yy,Yz,X0,X1,X2,X3,X4,X5,X6,X7,X8,X9,Xa,Xb,Xc,Xd,Xe,Xf,Xg,Xh,Xi,Xj,Xk,Value.oneCell',Xl,Xm,Xn,Xo,true_and,and_true,and_self,implies_true,Xp,Xq,Xr,Xs,false_implies,Xt,Xu,Xv,Xw,Xx,Xy,Xz,W0,W1,W2,W3,W4,W5,W6,W7,W8,W9,reduceCtorEq,if_true,if_false,Wa,↓reduceIte,Wb,Wc,Wd,We,Wf,Wg,ne_eq,not_false_eq_true,not_true_eq_false,Wh,Wi,r74_0,r74_1,r74_2,r74_3,r74_4,r74_6,r74_7,r74_8,r74_9,r74_10,r74_11,r74_12,r74_13,r74_14,r74_15,r74_16,r74_5,r74_17,p74,l74_1,hli,u1,u2,u3,u4,u5,hle2,Int.reduceEq]) | (exfalso; omega)
      all_goals first | omega | exact again hJ2 (low, mid - 1) (weak_mk (by simp only [Wj,Wk,wk1,Wl,Wm,Wn,Z4,Z5,Z6,Z7,Z8,Z9,Za,Zb,Zc,Zd,Ze,Zf,List.cons.injEq,Zg,Zh,Zi,Zj,Zk,Zl,Zm,Zn,Zo,Zp,beq_self_eq_true,bne_self_eq_false,decide_true,decide_false,Zq,Zr,Zs,Zt,Zu,Zv,Zw,Zx,Zy,Zz,Y0,hv,Yn,ev,Yo,Yp,Yq,Yr,Ys,Yt,Yu,Yv,Yw,Yx,Yy,Yz,X0,X1,X2,X3,X4,X5,X6,X7,X8,X9,Xa,Xb,Xc,Xd,Xe,Xf,Xg,Xh,Xi,Xj,Xk,Value.oneCell',Xl,Xm,Xn,Xo,true_and,and_true,and_self,implies_true,Xp,Xq,Xr,Xs,false_implies,Xt,Xu,Xv,Xw,Xx,Xy,Xz,W0,W1,W2,W3,W4,W5,W6,W7,W8,W9,reduceCtorEq,if_true,if_false,Wa,↓reduceIte,Wb,Wc,Wd,We,Wf,Wg,ne_eq,not_false_eq_true,not_true_eq_false,Wh,Nat.zero_ne_one])) ⟨k1, by simp only; omega, by simp only; omega⟩ (by simp only; omega)
  have hli : ¬ (low : Int) < high := by omega
  have hlq : low = x / b := by omega
  have hS := small_c b low (by omega) (by omega)
  have hbl : b * low ≤ x := by rw [hlq]; exact Nat.mul_div_le x b
  have hL := less_c x (b * low) hbl (by omega)
  have hxr : x - b * low = x % b := by rw [hlq]; have := Nat.div_add_mod x b; omega
  rw [hxr] at hL
  have hoi : i < out.length := by omega
  have hoi2 : (i : Int) < (A.length : Int) := i1
  have gO := getD_map (f := oneN) (d := []) hoi
  simp only [oneN] at gO
  have hsm : (out.map oneN).set i [.val (.int .i64 (low : Nat))] = (out.set i low).map oneN := by rw [List.map_set]; rfl
  clear hJ2
  have hfin : i ≤ A.length ∧ (out.set i low).length = A.length ∧ digN (out.set i low) ∧ x % b = valN (A.drop i) % b ∧ valN ((out.set i low).drop i) = valN (A.drop i) / b := by
    refine ⟨by omega, by rw [List.length_set]; exact h2, dig_set h3 (by omega), hds.1, ?_⟩
    rw [← hds.2, ← hlq, List.drop_eq_getElem_cons (by rw [List.length_set]; omega), List.getElem_set_self, valN, List.drop_set_of_lt (by omega)]
  repeat' first | ((with_reducible (first | refine condD ?_ ?_ | refine condE ?_ ?_ | refine condN ?_ ?_ | refine condI ?_ ?_ | refine condS ?_ ?_)) <;> intro h) | ((refine callG hS ?_)) | ((refine callG hL ?_)) | (with_reducible refine And.intro ?_ ?_; omega) | (simp only [Z0,Z1,Z2,Z3,Z4,Z5,Z6,Z7,Z8,Z9,Za,Zb,Zc,Zd,Ze,Zf,List.cons.injEq,Zg,Zh,Zi,Zj,Zk,Zl,Zm,Zn,Zo,Zp,beq_self_eq_true,bne_self_eq_false,decide_true,decide_false,Zq,Zr,Zs,Zt,Zu,Zv,Zw,Zx,Zy,Zz,Y0,Y1,Y2,Y3,Y4,Y5,Y6,x_c,x_o,x_l,x_b,g_b,Y7,Y8,Y9,Ya,Yb,Yc,lk,ef,Yd,Ye,Yf,Yg,Yh,Yi,Yj,Yk,Yl,Ym,hv,Yn,ev,Yo,Yp,Yq,Yr,Ys,Yt,Yu,Yv,Yw,Yx,Yy,Yz,X0,X1,X2,X3,X4,X5,X6,X7,X8,X9,Xa,Xb,Xc,Xd,Xe,Xf,Xg,Xh,Xi,Xj,Xk,Value.oneCell',Xl,Xm,Xn,Xo,true_and,and_true,and_self,implies_true,Xp,Xq,Xr,Xs,false_implies,Xt,Xu,Xv,Xw,Xx,Xy,Xz,W0,W1,W2,W3,W4,W5,W6,W7,W8,W9,reduceCtorEq,if_true,if_false,Wa,↓reduceIte,Wb,Wc,Wd,We,Wf,Wg,ne_eq,not_false_eq_true,not_true_eq_false,Wh,Wi,r74_0,r74_1,r74_2,r74_3,r74_4,r74_6,r74_7,r74_8,r74_9,r74_10,r74_11,r74_12,r74_13,r74_14,r74_15,r74_16,r74_5,r74_17,p74,l74_1,hli,hki,hoi2,h2,gO,hsm,wj,Zt,List.set_cons_zero]) | (exfalso; omega)
  all_goals first | omega | exact again hJ (i, out.set i low, x % b) (weak_mk (by simp only [Wj,Wk,wk1,Wl,Wm,Wn,Z4,Z5,Z6,Z7,Z8,Z9,Za,Zb,Zc,Zd,Ze,Zf,List.cons.injEq,Zg,Zh,Zi,Zj,Zk,Zl,Zm,Zn,Zo,Zp,beq_self_eq_true,bne_self_eq_false,decide_true,decide_false,Zq,Zr,Zs,Zt,Zu,Zv,Zw,Zx,Zy,Zz,Y0,hv,Yn,ev,Yo,Yp,Yq,Yr,Ys,Yt,Yu,Yv,Yw,Yx,Yy,Yz,X0,X1,X2,X3,X4,X5,X6,X7,X8,X9,Xa,Xb,Xc,Xd,Xe,Xf,Xg,Xh,Xi,Xj,Xk,Value.oneCell',Xl,Xm,Xn,Xo,true_and,and_true,and_self,implies_true,Xp,Xq,Xr,Xs,false_implies,Xt,Xu,Xv,Xw,Xx,Xy,Xz,W0,W1,W2,W3,W4,W5,W6,W7,W8,W9,reduceCtorEq,if_true,if_false,Wa,↓reduceIte,Wb,Wc,Wd,We,Wf,Wg,ne_eq,not_false_eq_true,not_true_eq_false,Wh,Nat.zero_ne_one])) hfin (by simp only; omega)
end Go.Proofs.YtjeemcpdmiajmaaGreatDoor
