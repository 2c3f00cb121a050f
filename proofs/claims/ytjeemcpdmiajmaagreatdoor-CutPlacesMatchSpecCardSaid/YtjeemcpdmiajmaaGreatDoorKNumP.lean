/- The reference's numbers: headendref1's Minus, Plus, IsZero, Compare, by the machine on data. -/
import Derived.Test.YtjeemcpdmiajmaaGreatDoorKNumQ
namespace Go.Proofs.YtjeemcpdmiajmaaGreatDoor
open Go.RowKit
open Go.Proofs.YtjeemcpdmiajmaaGreatDoor renaming done_eq → Z0, done_eq' → Z1, donet_eq → Z2, donet_eq' → Z3, fin_val → Z4, fin_tup → Z5, fin_agg → Z6, fin_ro → Z7, res_one → Z8, res_more → Z9, rv_t → Za, rv_c → Zb, rv_l → Zc, int_eq → Zg, bool_eq → Zh, toNat_pred → Zr, toNat_succ → Zs, cnd_t → Zu, cnd_f → Zv, grd_tt → Zw, grd_u → Zx, grd_tf → Zy, grd_ft → Zz, grd_ff → Y0, g_skip → Y1, g_ops → Y2, g_seq → Y3, g_block → Y4, g_exit → Y5, g_ret → Y6, x_c → Y7, x_o → Y8, x_l → Y9, x_b → Ya, g_b → Yb, g_nil → Yc, r_all → Yd, o_nil → Ye, g_cond → Yf, o_guard → Yg, o_call → Yh, o_mv → Yi, o_pick → Yj, o_bin → Yk, o_eqb → Yl, o_load → Ym, o_loads → Yn, o_fld → Yo, o_len → Yp, o_build → Yq, o_alloc → Yr, o_boxs → Ys, o_asg → Yt, o_stores → Yu, eqAV → Yv, view_t → Yw, view_c → Yx, view_nil → Yy, view_fn → Yz, look_own → X0, look_box → X1, look_junk → X2, look_val → X3, look_nilsl → X4, look_ro → X5, look_roAt → X6, look_agg → X7, look_tup → X8, look_clo → X9, look_alias → Xa, look_ref → Xb, look_into → Xc, rowOf → Xd, cellsOf → Xe, argv → Xf, vbin → Xg, vun → Xh, bnd → Xi, elemOf → Xj, putParts → Xk, setAt → Xl, zav → Xm, put_at → Xt, mk_at → Xu, mk_nil → Xv, initSt → Xw
open Go.Proofs.YtjeemcpdmiajmaaGreatDoor.AV.tup renaming injEq → Zd
open Go.Proofs.YtjeemcpdmiajmaaGreatDoor.AV.agg renaming injEq → Ze
open Go.Proofs.YtjeemcpdmiajmaaGreatDoor.AV.ro renaming injEq → Zf
open _root_.Int renaming toNat_natCast → Zi, reduceToNat → Zj, toNat_zero → Zk, toNat_one → Zl, reduceLE → Zm, reduceLT → Zn, reduceBEq → Zo, reduceBNe → Zp, reduceNeg → Zq
open _root_.List renaming length_map → Zt, map_cons → Xx, map_nil → Xy, forall_mem_cons → Xz, not_mem_nil → W0, length_cons → W1, length_nil → W2, getD_cons_zero → W3, getD_cons_succ → W4, getD_nil → W5, drop_succ_cons → W6, drop_zero → W7, take_succ_cons → W8, take_zero → W9, set_cons_zero → Wa, set_cons_succ → Wb, all_cons → Wc, all_nil → Wd
open Go.Proofs.YtjeemcpdmiajmaaGreatDoor.ASt renaming rid → Xn, free → Xo
open Go.Proofs.YtjeemcpdmiajmaaGreatDoor.AV renaming kill → Xp, isHome → Xq, noLoan → Xr, cellOK → Xs
open _root_.Bool renaming and_true → We, true_and → Wf, not_true → Wg, not_false → Wh, false_eq_true → Wi
open _root_.Nat renaming reduceEqDiff → Wj, reduceAdd → Wk, reduceSub → Wl, reduceMul → Wm, reduceLeDiff → Wn, reduceLT → Wo, one_ne_zero → Wp, zero_ne_one → Wq
set_option linter.unusedSimpArgs false

def cmpI (a b : Int) : Int := if a < b then -1 else if b < a then 1 else 0
def sgnI (neg : Bool) (t : Nat) : Int := if neg then -(t : Int) else t
theorem lm_sum {a b k : Nat} (ha : (lm a).length ≤ k) (hb : (lm b).length ≤ k) : (lm (a + b)).length ≤ k + 1 := by
  refine lm_len ?_
  have h1 := Nat.lt_of_lt_of_le (lm_below a) (Nat.pow_le_pow_right (show 0 < 10000 by decide) ha)
  have h2 := Nat.lt_of_lt_of_le (lm_below b) (Nat.pow_le_pow_right (show 0 < 10000 by decide) hb)
  have h7 : 10000 ^ (k + 1) = 10000 ^ k * 10000 := Nat.pow_succ _ _
  generalize 10000 ^ k = P7 at *
  rw [h7]
  omega
theorem topAV_0 : topAV 0 = .nilsl := if_pos rfl
theorem topAV_n {t : Nat} (h : t ≠ 0) : topAV t = .ro ((lm t).map oneN) := if_neg h
/-! headend/headendref1.Minus -/
def r36_0 : List POp := [⟨1, .boxs (.t 0), none⟩,
  ⟨2, .alloc [.bool false, .slice none 0 0, .slice none 0 0], none⟩]
def r36_1 : List POp := [⟨3, .fld 0 (.t 1), none⟩,
  ⟨4, .load (.t 3), none⟩,
  ⟨5, .un .not (.t 4), none⟩,
  ⟨6, .mv (.t 5), none⟩,
  ⟨7, .fld 1 (.t 1), some (6, true)⟩,
  ⟨8, .load (.t 7), some (6, true)⟩,
  ⟨9, .len (.t 8), some (6, true)⟩,
  ⟨10, .bin .gtr (.t 9) (.c (.int .i64 0)), some (6, true)⟩,
  ⟨11, .pick (.t 6) (.t 10) (.c (.bool false)), none⟩,
  ⟨12, .fld 1 (.t 1), none⟩,
  ⟨13, .load (.t 12), none⟩,
  ⟨14, .fld 2 (.t 1), none⟩,
  ⟨15, .load (.t 14), none⟩,
  ⟨16, .build [.bool false, .slice none 0 0, .slice none 0 0] [(0, 1, .t 11), (1, 1, .t 13), (2, 1, .t 15)], none⟩,
  ⟨0, .stores 3 (.t 2) (.t 16), none⟩]
def p36 : PCode := .seq (.ops r36_0) (.seq (.ops r36_1) (.ret))
theorem ok36 : okFunc Tryz.prog 36 [.c 2 3] 1 p36 = true := by kernel_rfl
theorem minus_c (neg : Bool) (t b : Nat) : CallOK Tryz.prog 36 [.agg (numAV neg t b)] (.agg (numAV (!neg && decide (0 < t)) t b)) := by
  refine call_of mixed ok36 rfl ?_
  unfold numAV
  by_cases z : t = 0
  · subst z
    rw [topAV_0]
    cases neg
    · repeat' first | ((with_reducible (first | refine condD ?_ ?_ | refine condE ?_ ?_ | refine condN ?_ ?_ | refine condI ?_ ?_ | refine condS ?_ ?_)) <;> intro h) | ((with_reducible (first | refine guardD (by with_unfolding_all rfl) ?_ ?_ | refine guardE (by with_unfolding_all rfl) ?_ ?_ | refine guardN (by with_unfolding_all rfl) ?_ ?_ | refine guardI (by with_unfolding_all rfl) ?_ ?_ | refine guardS (by with_unfolding_all rfl) ?_ ?_)) <;> intro h) | (with_reducible refine And.intro ?_ ?_; omega) | (simp only [Z0,Z1,Z2,Z3,Z4,Z5,Z6,Z7,Z8,Z9,Za,Zb,Zc,Zd,Ze,Zf,List.cons.injEq,Zg,Zh,Zi,Zj,Zk,Zl,Zm,Zn,Zo,Zp,beq_self_eq_true,bne_self_eq_false,decide_true,decide_false,Zq,Zr,Zs,Zt,Zu,Zv,Zw,Zx,Zy,Zz,Y0,Y1,Y2,Y3,Y4,Y5,Y6,Y7,Y8,Y9,Ya,Yb,Yc,Yd,Ye,Yf,Yg,lk,ef,Yi,Yj,Yk,o_un,Ym,Yo,Yp,Yq,Yr,Ys,Yu,hv,Yv,ev,Yw,Yx,Yy,Yz,X0,X1,X2,X3,X4,X5,X6,X7,X8,X9,Xa,Xb,Xc,Xd,Xe,Xf,Xg,Xh,Xi,Xj,Xk,Xl,Xm,Xn,Xo,Xp,Xq,Xr,Xs,Value.oneCell',Xt,Xu,Xv,Xw,true_and,and_true,and_self,implies_true,Xx,Xy,Xz,W0,false_implies,W1,W2,W3,W4,W5,W6,W7,W8,W9,Wa,Wb,Wc,Wd,We,Wf,Wg,Wh,reduceCtorEq,if_true,if_false,Wi,↓reduceIte,Wj,Wk,Wl,Wm,Wn,Wo,ne_eq,not_false_eq_true,not_true_eq_false,Wp,Wq,r36_0,r36_1,p36]) | (exfalso; omega)
      all_goals first | done | rfl | simp
    · repeat' first | ((with_reducible (first | refine condD ?_ ?_ | refine condE ?_ ?_ | refine condN ?_ ?_ | refine condI ?_ ?_ | refine condS ?_ ?_)) <;> intro h) | ((with_reducible (first | refine guardD (by with_unfolding_all rfl) ?_ ?_ | refine guardE (by with_unfolding_all rfl) ?_ ?_ | refine guardN (by with_unfolding_all rfl) ?_ ?_ | refine guardI (by with_unfolding_all rfl) ?_ ?_ | refine guardS (by with_unfolding_all rfl) ?_ ?_)) <;> intro h) | (with_reducible refine And.intro ?_ ?_; omega) | (simp only [Z0,Z1,Z2,Z3,Z4,Z5,Z6,Z7,Z8,Z9,Za,Zb,Zc,Zd,Ze,Zf,List.cons.injEq,Zg,Zh,Zi,Zj,Zk,Zl,Zm,Zn,Zo,Zp,beq_self_eq_true,bne_self_eq_false,decide_true,decide_false,Zq,Zr,Zs,Zt,Zu,Zv,Zw,Zx,Zy,Zz,Y0,Y1,Y2,Y3,Y4,Y5,Y6,Y7,Y8,Y9,Ya,Yb,Yc,Yd,Ye,Yf,Yg,lk,ef,Yi,Yj,Yk,o_un,Ym,Yo,Yp,Yq,Yr,Ys,Yu,hv,Yv,ev,Yw,Yx,Yy,Yz,X0,X1,X2,X3,X4,X5,X6,X7,X8,X9,Xa,Xb,Xc,Xd,Xe,Xf,Xg,Xh,Xi,Xj,Xk,Xl,Xm,Xn,Xo,Xp,Xq,Xr,Xs,Value.oneCell',Xt,Xu,Xv,Xw,true_and,and_true,and_self,implies_true,Xx,Xy,Xz,W0,false_implies,W1,W2,W3,W4,W5,W6,W7,W8,W9,Wa,Wb,Wc,Wd,We,Wf,Wg,Wh,reduceCtorEq,if_true,if_false,Wi,↓reduceIte,Wj,Wk,Wl,Wm,Wn,Wo,ne_eq,not_false_eq_true,not_true_eq_false,Wp,Wq,r36_0,r36_1,p36]) | (exfalso; omega)
      all_goals first | done | rfl | simp
  · rw [topAV_n z]
    have hp : 0 < (lm t).length := lm_pos_len.2 (by omega)
    have hp2 : (0 : Int) < ((lm t).length : Int) := by omega
    rw [decide_eq_true (show 0 < t by omega)]
    cases neg
    · repeat' first | ((with_reducible (first | refine condD ?_ ?_ | refine condE ?_ ?_ | refine condN ?_ ?_ | refine condI ?_ ?_ | refine condS ?_ ?_)) <;> intro h) | ((with_reducible (first | refine guardD (by with_unfolding_all rfl) ?_ ?_ | refine guardE (by with_unfolding_all rfl) ?_ ?_ | refine guardN (by with_unfolding_all rfl) ?_ ?_ | refine guardI (by with_unfolding_all rfl) ?_ ?_ | refine guardS (by with_unfolding_all rfl) ?_ ?_)) <;> intro h) | (with_reducible refine And.intro ?_ ?_; omega) | (simp only [Z0,Z1,Z2,Z3,Z4,Z5,Z6,Z7,Z8,Z9,Za,Zb,Zc,Zd,Ze,Zf,List.cons.injEq,Zg,Zh,Zi,Zj,Zk,Zl,Zm,Zn,Zo,Zp,beq_self_eq_true,bne_self_eq_false,decide_true,decide_false,Zq,Zr,Zs,Zt,Zu,Zv,Zw,Zx,Zy,Zz,Y0,Y1,Y2,Y3,Y4,Y5,Y6,Y7,Y8,Y9,Ya,Yb,Yc,Yd,Ye,Yf,Yg,lk,ef,Yi,Yj,Yk,o_un,Ym,Yo,Yp,Yq,Yr,Ys,Yu,hv,Yv,ev,Yw,Yx,Yy,Yz,X0,X1,X2,X3,X4,X5,X6,X7,X8,X9,Xa,Xb,Xc,Xd,Xe,Xf,Xg,Xh,Xi,Xj,Xk,Xl,Xm,Xn,Xo,Xp,Xq,Xr,Xs,Value.oneCell',Xt,Xu,Xv,Xw,true_and,and_true,and_self,implies_true,Xx,Xy,Xz,W0,false_implies,W1,W2,W3,W4,W5,W6,W7,W8,W9,Wa,Wb,Wc,Wd,We,Wf,Wg,Wh,reduceCtorEq,if_true,if_false,Wi,↓reduceIte,Wj,Wk,Wl,Wm,Wn,Wo,ne_eq,not_false_eq_true,not_true_eq_false,Wp,Wq,r36_0,r36_1,p36,Zt,hp2]) | (exfalso; omega)
    · repeat' first | ((with_reducible (first | refine condD ?_ ?_ | refine condE ?_ ?_ | refine condN ?_ ?_ | refine condI ?_ ?_ | refine condS ?_ ?_)) <;> intro h) | ((with_reducible (first | refine guardD (by with_unfolding_all rfl) ?_ ?_ | refine guardE (by with_unfolding_all rfl) ?_ ?_ | refine guardN (by with_unfolding_all rfl) ?_ ?_ | refine guardI (by with_unfolding_all rfl) ?_ ?_ | refine guardS (by with_unfolding_all rfl) ?_ ?_)) <;> intro h) | (with_reducible refine And.intro ?_ ?_; omega) | (simp only [Z0,Z1,Z2,Z3,Z4,Z5,Z6,Z7,Z8,Z9,Za,Zb,Zc,Zd,Ze,Zf,List.cons.injEq,Zg,Zh,Zi,Zj,Zk,Zl,Zm,Zn,Zo,Zp,beq_self_eq_true,bne_self_eq_false,decide_true,decide_false,Zq,Zr,Zs,Zt,Zu,Zv,Zw,Zx,Zy,Zz,Y0,Y1,Y2,Y3,Y4,Y5,Y6,Y7,Y8,Y9,Ya,Yb,Yc,Yd,Ye,Yf,Yg,lk,ef,Yi,Yj,Yk,o_un,Ym,Yo,Yp,Yq,Yr,Ys,Yu,hv,Yv,ev,Yw,Yx,Yy,Yz,X0,X1,X2,X3,X4,X5,X6,X7,X8,X9,Xa,Xb,Xc,Xd,Xe,Xf,Xg,Xh,Xi,Xj,Xk,Xl,Xm,Xn,Xo,Xp,Xq,Xr,Xs,Value.oneCell',Xt,Xu,Xv,Xw,true_and,and_true,and_self,implies_true,Xx,Xy,Xz,W0,false_implies,W1,W2,W3,W4,W5,W6,W7,W8,W9,Wa,Wb,Wc,Wd,We,Wf,Wg,Wh,reduceCtorEq,if_true,if_false,Wi,↓reduceIte,Wj,Wk,Wl,Wm,Wn,Wo,ne_eq,not_false_eq_true,not_true_eq_false,Wp,Wq,r36_0,r36_1,p36,Zt,hp2]) | (exfalso; omega)
/-! headend/headendref1.Plus -/
def r35_0 : List POp := [⟨2, .boxs (.t 0), none⟩,
  ⟨3, .boxs (.t 1), none⟩,
  ⟨4, .alloc [.bool false, .slice none 0 0, .slice none 0 0], none⟩]
def r35_1 : List POp := [⟨8, .fld 1 (.t 2), none⟩,
  ⟨9, .load (.t 8), none⟩,
  ⟨10, .fld 2 (.t 3), none⟩,
  ⟨11, .load (.t 10), none⟩,
  ⟨12, .call 58 [.t 9, .t 11], none⟩,
  ⟨13, .fld 1 (.t 3), none⟩,
  ⟨14, .load (.t 13), none⟩,
  ⟨15, .fld 2 (.t 2), none⟩,
  ⟨16, .load (.t 15), none⟩,
  ⟨17, .call 58 [.t 14, .t 16], none⟩,
  ⟨18, .fld 2 (.t 2), none⟩,
  ⟨19, .load (.t 18), none⟩,
  ⟨20, .fld 2 (.t 3), none⟩,
  ⟨21, .load (.t 20), none⟩,
  ⟨22, .call 58 [.t 19, .t 21], none⟩,
  ⟨5, .asg (.t 12), none⟩,
  ⟨6, .asg (.t 17), none⟩,
  ⟨7, .asg (.t 22), none⟩]
def r35_2 : List POp := [⟨23, .fld 0 (.t 2), none⟩,
  ⟨24, .load (.t 23), none⟩,
  ⟨25, .fld 0 (.t 3), none⟩,
  ⟨26, .load (.t 25), none⟩,
  ⟨27, .eqb false (.t 24) (.t 26), none⟩]
def r35_3 : List POp := [⟨28, .fld 0 (.t 2), none⟩,
  ⟨29, .load (.t 28), none⟩,
  ⟨30, .mv (.t 5), none⟩,
  ⟨31, .mv (.t 6), none⟩,
  ⟨32, .call 60 [.t 30, .t 31], none⟩,
  ⟨33, .mv (.t 7), none⟩,
  ⟨34, .call 59 [.t 29, .t 32, .t 33], none⟩,
  ⟨0, .stores 3 (.t 4) (.t 34), none⟩]
def r35_4 : List POp := [⟨35, .mv (.t 5), none⟩,
  ⟨36, .mv (.t 6), none⟩,
  ⟨37, .call 61 [.t 35, .t 36], none⟩,
  ⟨38, .bin .geq (.t 37) (.c (.int .i64 0)), none⟩]
def r35_5 : List POp := [⟨39, .fld 0 (.t 2), none⟩,
  ⟨40, .load (.t 39), none⟩,
  ⟨41, .mv (.t 5), none⟩,
  ⟨42, .mv (.t 6), none⟩,
  ⟨43, .call 62 [.t 41, .t 42], none⟩,
  ⟨44, .mv (.t 7), none⟩,
  ⟨45, .call 59 [.t 40, .t 43, .t 44], none⟩,
  ⟨0, .stores 3 (.t 4) (.t 45), none⟩]
def r35_6 : List POp := [⟨46, .fld 0 (.t 3), none⟩,
  ⟨47, .load (.t 46), none⟩,
  ⟨48, .mv (.t 6), none⟩,
  ⟨49, .mv (.t 5), none⟩,
  ⟨50, .call 62 [.t 48, .t 49], none⟩,
  ⟨51, .mv (.t 7), none⟩,
  ⟨52, .call 59 [.t 47, .t 50, .t 51], none⟩,
  ⟨0, .stores 3 (.t 4) (.t 52), none⟩]
def p35 : PCode := .seq (.ops r35_0) (.seq (.ops r35_1) (.seq (.seq (.ops r35_2) (.cond (.t 27) (.seq (.ops r35_3) (.ret)) (.skip))) (.seq (.seq (.ops r35_4) (.cond (.t 38) (.seq (.ops r35_5) (.ret)) (.skip))) (.seq (.ops r35_6) (.ret)))))
theorem ok35 : okFunc Tryz.prog 35 [.c 4 3] 2 p35 = true := by kernel_rfl
theorem sum_same (n : Bool) (A B : Nat) : sgnI n (A + B) = sgnI n A + sgnI n B := by cases n <;> simp [sgnI] <;> omega
theorem sum_ge {n1 n2 : Bool} (h : (n1 == n2) = false) {A B : Nat} (q : B ≤ A) : sgnI n1 (A - B) = sgnI n1 A + sgnI n2 B := by cases n1 <;> cases n2 <;> simp [sgnI] at h ⊢ <;> omega
theorem sum_lt {n1 n2 : Bool} (h : (n1 == n2) = false) {A B : Nat} (q : A ≤ B) : sgnI n2 (B - A) = sgnI n1 A + sgnI n2 B := by cases n1 <;> cases n2 <;> simp [sgnI] at h ⊢ <;> omega
theorem sgn_mul (n : Bool) (a b : Nat) : sgnI n (a * b) = sgnI n a * b := by cases n <;> simp [sgnI, Int.neg_mul]
theorem rq_agg (z : Int) (q : Nat) : ∃ u v w, RQ z q = [u, v, w] := ⟨_, _, _, rfl⟩
set_option maxRecDepth 20000 in
set_option maxHeartbeats 2000000 in
theorem plus_c (n1 : Bool) (t1 b1 : Nat) (n2 : Bool) (t2 b2 : Nat) (h1 : 0 < b1) (h2 : 0 < b2) (k1 : (lm t1).length ≤ 400) (k2 : (lm b1).length ≤ 400) (k3 : (lm t2).length ≤ 400) (k4 : (lm b2).length ≤ 400) :
    CallOK Tryz.prog 35 [.agg (numAV n1 t1 b1), .agg (numAV n2 t2 b2)] (.agg (RQ (sgnI n1 t1 * b2 + sgnI n2 t2 * b1) (b1 * b2))) := by
  refine call_of mixed ok35 rfl ?_
  have hM1 := times_c t1 b2 (by omega) (by omega)
  have hM2 := times_c t2 b1 (by omega) (by omega)
  have hM3 := times_c b1 b2 (by omega) (by omega)
  have kA : (lm (t1 * b2)).length ≤ 800 := Nat.le_trans lm_prod (by omega)
  have kB : (lm (t2 * b1)).length ≤ 800 := Nat.le_trans lm_prod (by omega)
  have kC : (lm (b1 * b2)).length ≤ 800 := Nat.le_trans lm_prod (by omega)
  have hbb : 0 < b1 * b2 := Nat.mul_pos h1 h2
  rw [← sgn_mul, ← sgn_mul]
  have hAd := add_c (t1 * b2) (t2 * b1) (by omega) (by omega)
  have hCm := compare_c (t1 * b2) (t2 * b1) (by omega)
  have hSum : (lm (t1 * b2 + t2 * b1)).length ≤ 801 := lm_sum kA kB
  have hL1 := lowest_c n1 (t1 * b2 + t2 * b1) (b1 * b2) hbb (by omega) (by omega)
  rw [rq_of] at hL1
  have hM1z : t1 = 0 → CallOK Tryz.prog 58 [.ro [], .ro ((lm b2).map oneN)] (.ro ((lm (t1 * b2)).map oneN)) := fun z => by rw [z, lm_0, List.map_nil] at hM1; rw [z]; exact hM1
  have hM2z : t2 = 0 → CallOK Tryz.prog 58 [.ro [], .ro ((lm b1).map oneN)] (.ro ((lm (t2 * b1)).map oneN)) := fun z => by rw [z, lm_0, List.map_nil] at hM2; rw [z]; exact hM2
  unfold numAV
  generalize t1 * b2 = A at *
  generalize t2 * b1 = B at *
  generalize b1 * b2 = C at *
  by_cases hn : (n1 == n2) = true
  · have e : sgnI n1 A + sgnI n2 B = sgnI n1 (A + B) := by rw [sum_same, ← eq_of_beq hn]
    rw [e]
    unfold sgnI
    clear e
    obtain ⟨u, v, w, hR⟩ := rq_agg (if n1 = true then -((A + B : Nat) : Int) else ((A + B : Nat) : Int)) C
    rw [hR] at hL1 ⊢
    clear hR
    by_cases z1 : t1 = 0 <;> by_cases z2 : t2 = 0
    · have hT1 := hM1z z1
      have hT2 := hM2z z2
      rw [show topAV t1 = .nilsl from if_pos z1, show topAV t2 = .nilsl from if_pos z2]
      clear hM1z hM2z hM1 hM2
      repeat' first | ((with_reducible (first | refine condD ?_ ?_ | refine condE ?_ ?_ | refine condN ?_ ?_ | refine condI ?_ ?_ | refine condS ?_ ?_)) <;> intro h) | ((refine callG hT1 ?_)) | ((refine callG hT2 ?_)) | ((refine callG hM3 ?_)) | ((refine callG hAd ?_)) | ((refine callG hL1 ?_)) | (with_reducible refine And.intro ?_ ?_; omega) | (simp only [Z0,Z1,Z2,Z3,Z4,Z5,Z6,Z7,Z8,Z9,Za,Zb,Zc,Zd,Ze,Zf,List.cons.injEq,Zg,Zh,Zi,Zj,Zk,Zl,Zm,Zn,Zo,Zp,beq_self_eq_true,bne_self_eq_false,decide_true,decide_false,Zq,Zr,Zs,Zt,Zu,Zv,Zw,Zx,Zy,Zz,Y0,Y1,Y2,Y3,Y4,Y5,Y6,Y7,Y8,Y9,Ya,Yb,Yc,Yd,Ye,Yf,Yg,Yh,lk,ef,Yi,Yk,Yl,Ym,Yo,Yr,Ys,Yt,Yu,hv,Yv,ev,Yw,Yx,Yy,Yz,X0,X1,X2,X3,X4,X5,X6,X7,X8,X9,Xa,Xb,Xc,Xd,Xe,Xf,Xg,Xh,Xi,Xj,Xk,Xl,Xm,Xn,Xo,Xp,Xq,Xr,Xs,Value.oneCell',Xt,Xu,Xv,Xw,true_and,and_true,and_self,implies_true,Xx,Xy,Xz,W0,false_implies,W1,W2,W3,W4,W5,W6,W7,W8,W9,Wa,Wb,Wc,Wd,We,Wf,Wg,Wh,reduceCtorEq,if_true,if_false,Wi,↓reduceIte,Wj,Wk,Wl,Wm,Wn,Wo,ne_eq,not_false_eq_true,not_true_eq_false,Wp,Wq,r35_0,r35_1,r35_2,r35_3,r35_4,r35_5,r35_6,p35,hn]) | (exfalso; omega)
    · have hT1 := hM1z z1
      have hT2 := hM2
      rw [show topAV t1 = .nilsl from if_pos z1, show topAV t2 = .ro ((lm t2).map oneN) from if_neg z2]
      clear hM1z hM2z hM1 hM2
      repeat' first | ((with_reducible (first | refine condD ?_ ?_ | refine condE ?_ ?_ | refine condN ?_ ?_ | refine condI ?_ ?_ | refine condS ?_ ?_)) <;> intro h) | ((refine callG hT1 ?_)) | ((refine callG hT2 ?_)) | ((refine callG hM3 ?_)) | ((refine callG hAd ?_)) | ((refine callG hL1 ?_)) | (with_reducible refine And.intro ?_ ?_; omega) | (simp only [Z0,Z1,Z2,Z3,Z4,Z5,Z6,Z7,Z8,Z9,Za,Zb,Zc,Zd,Ze,Zf,List.cons.injEq,Zg,Zh,Zi,Zj,Zk,Zl,Zm,Zn,Zo,Zp,beq_self_eq_true,bne_self_eq_false,decide_true,decide_false,Zq,Zr,Zs,Zt,Zu,Zv,Zw,Zx,Zy,Zz,Y0,Y1,Y2,Y3,Y4,Y5,Y6,Y7,Y8,Y9,Ya,Yb,Yc,Yd,Ye,Yf,Yg,Yh,lk,ef,Yi,Yk,Yl,Ym,Yo,Yr,Ys,Yt,Yu,hv,Yv,ev,Yw,Yx,Yy,Yz,X0,X1,X2,X3,X4,X5,X6,X7,X8,X9,Xa,Xb,Xc,Xd,Xe,Xf,Xg,Xh,Xi,Xj,Xk,Xl,Xm,Xn,Xo,Xp,Xq,Xr,Xs,Value.oneCell',Xt,Xu,Xv,Xw,true_and,and_true,and_self,implies_true,Xx,Xy,Xz,W0,false_implies,W1,W2,W3,W4,W5,W6,W7,W8,W9,Wa,Wb,Wc,Wd,We,Wf,Wg,Wh,reduceCtorEq,if_true,if_false,Wi,↓reduceIte,Wj,Wk,Wl,Wm,Wn,Wo,ne_eq,not_false_eq_true,not_true_eq_false,Wp,Wq,r35_0,r35_1,r35_2,r35_3,r35_4,r35_5,r35_6,p35,hn]) | (exfalso; omega)
    · have hT1 := hM1
      have hT2 := hM2z z2
      rw [show topAV t1 = .ro ((lm t1).map oneN) from if_neg z1, show topAV t2 = .nilsl from if_pos z2]
      clear hM1z hM2z hM1 hM2
      repeat' first | ((with_reducible (first | refine condD ?_ ?_ | refine condE ?_ ?_ | refine condN ?_ ?_ | refine condI ?_ ?_ | refine condS ?_ ?_)) <;> intro h) | ((refine callG hT1 ?_)) | ((refine callG hT2 ?_)) | ((refine callG hM3 ?_)) | ((refine callG hAd ?_)) | ((refine callG hL1 ?_)) | (with_reducible refine And.intro ?_ ?_; omega) | (simp only [Z0,Z1,Z2,Z3,Z4,Z5,Z6,Z7,Z8,Z9,Za,Zb,Zc,Zd,Ze,Zf,List.cons.injEq,Zg,Zh,Zi,Zj,Zk,Zl,Zm,Zn,Zo,Zp,beq_self_eq_true,bne_self_eq_false,decide_true,decide_false,Zq,Zr,Zs,Zt,Zu,Zv,Zw,Zx,Zy,Zz,Y0,Y1,Y2,Y3,Y4,Y5,Y6,Y7,Y8,Y9,Ya,Yb,Yc,Yd,Ye,Yf,Yg,Yh,lk,ef,Yi,Yk,Yl,Ym,Yo,Yr,Ys,Yt,Yu,hv,Yv,ev,Yw,Yx,Yy,Yz,X0,X1,X2,X3,X4,X5,X6,X7,X8,X9,Xa,Xb,Xc,Xd,Xe,Xf,Xg,Xh,Xi,Xj,Xk,Xl,Xm,Xn,Xo,Xp,Xq,Xr,Xs,Value.oneCell',Xt,Xu,Xv,Xw,true_and,and_true,and_self,implies_true,Xx,Xy,Xz,W0,false_implies,W1,W2,W3,W4,W5,W6,W7,W8,W9,Wa,Wb,Wc,Wd,We,Wf,Wg,Wh,reduceCtorEq,if_true,if_false,Wi,↓reduceIte,Wj,Wk,Wl,Wm,Wn,Wo,ne_eq,not_false_eq_true,not_true_eq_false,Wp,Wq,r35_0,r35_1,r35_2,r35_3,r35_4,r35_5,r35_6,p35,hn]) | (exfalso; omega)
    · have hT1 := hM1
      have hT2 := hM2
      rw [show topAV t1 = .ro ((lm t1).map oneN) from if_neg z1, show topAV t2 = .ro ((lm t2).map oneN) from if_neg z2]
      clear hM1z hM2z hM1 hM2
      repeat' first | ((with_reducible (first | refine condD ?_ ?_ | refine condE ?_ ?_ | refine condN ?_ ?_ | refine condI ?_ ?_ | refine condS ?_ ?_)) <;> intro h) | ((refine callG hT1 ?_)) | ((refine callG hT2 ?_)) | ((refine callG hM3 ?_)) | ((refine callG hAd ?_)) | ((refine callG hL1 ?_)) | (with_reducible refine And.intro ?_ ?_; omega) | (simp only [Z0,Z1,Z2,Z3,Z4,Z5,Z6,Z7,Z8,Z9,Za,Zb,Zc,Zd,Ze,Zf,List.cons.injEq,Zg,Zh,Zi,Zj,Zk,Zl,Zm,Zn,Zo,Zp,beq_self_eq_true,bne_self_eq_false,decide_true,decide_false,Zq,Zr,Zs,Zt,Zu,Zv,Zw,Zx,Zy,Zz,Y0,Y1,Y2,Y3,Y4,Y5,Y6,Y7,Y8,Y9,Ya,Yb,Yc,Yd,Ye,Yf,Yg,Yh,lk,ef,Yi,Yk,Yl,Ym,Yo,Yr,Ys,Yt,Yu,hv,Yv,ev,Yw,Yx,Yy,Yz,X0,X1,X2,X3,X4,X5,X6,X7,X8,X9,Xa,Xb,Xc,Xd,Xe,Xf,Xg,Xh,Xi,Xj,Xk,Xl,Xm,Xn,Xo,Xp,Xq,Xr,Xs,Value.oneCell',Xt,Xu,Xv,Xw,true_and,and_true,and_self,implies_true,Xx,Xy,Xz,W0,false_implies,W1,W2,W3,W4,W5,W6,W7,W8,W9,Wa,Wb,Wc,Wd,We,Wf,Wg,Wh,reduceCtorEq,if_true,if_false,Wi,↓reduceIte,Wj,Wk,Wl,Wm,Wn,Wo,ne_eq,not_false_eq_true,not_true_eq_false,Wp,Wq,r35_0,r35_1,r35_2,r35_3,r35_4,r35_5,r35_6,p35,hn]) | (exfalso; omega)
  have hn2 : (n1 == n2) = false := by simpa using hn
  clear hn hL1 hAd
  by_cases hq : B ≤ A
  · have hge : (0 : Int) ≤ cmpN A B := by
      unfold cmpN
      split
      · omega
      · split <;> omega
    have hLs := less_c A B hq (by omega)
    have hL1 := lowest_c n1 (A - B) C hbb (Nat.le_trans (lm_le (Nat.sub_le _ _)) (by omega)) (by omega)
    rw [rq_of] at hL1
    have e := sum_ge hn2 hq
    rw [← e]
    unfold sgnI
    clear e
    obtain ⟨u, v, w, hR⟩ := rq_agg (if n1 = true then -((A - B : Nat) : Int) else ((A - B : Nat) : Int)) C
    rw [hR] at hL1 ⊢
    clear hR
    generalize cmpN A B = cc at *
    by_cases z1 : t1 = 0 <;> by_cases z2 : t2 = 0
    · have hT1 := hM1z z1
      have hT2 := hM2z z2
      rw [show topAV t1 = .nilsl from if_pos z1, show topAV t2 = .nilsl from if_pos z2]
      clear hM1z hM2z hM1 hM2
      repeat' first | ((with_reducible (first | refine condD ?_ ?_ | refine condE ?_ ?_ | refine condN ?_ ?_ | refine condI ?_ ?_ | refine condS ?_ ?_)) <;> intro h) | ((refine callG hT1 ?_)) | ((refine callG hT2 ?_)) | ((refine callG hM3 ?_)) | ((refine callG hLs ?_)) | ((refine callG hCm ?_)) | ((refine callG hL1 ?_)) | (with_reducible refine And.intro ?_ ?_; omega) | (simp only [Z0,Z1,Z2,Z3,Z4,Z5,Z6,Z7,Z8,Z9,Za,Zb,Zc,Zd,Ze,Zf,List.cons.injEq,Zg,Zh,Zi,Zj,Zk,Zl,Zm,Zn,Zo,Zp,beq_self_eq_true,bne_self_eq_false,decide_true,decide_false,Zq,Zr,Zs,Zt,Zu,Zv,Zw,Zx,Zy,Zz,Y0,Y1,Y2,Y3,Y4,Y5,Y6,Y7,Y8,Y9,Ya,Yb,Yc,Yd,Ye,Yf,Yg,Yh,lk,ef,Yi,Yk,Yl,Ym,Yo,Yr,Ys,Yt,Yu,hv,Yv,ev,Yw,Yx,Yy,Yz,X0,X1,X2,X3,X4,X5,X6,X7,X8,X9,Xa,Xb,Xc,Xd,Xe,Xf,Xg,Xh,Xi,Xj,Xk,Xl,Xm,Xn,Xo,Xp,Xq,Xr,Xs,Value.oneCell',Xt,Xu,Xv,Xw,true_and,and_true,and_self,implies_true,Xx,Xy,Xz,W0,false_implies,W1,W2,W3,W4,W5,W6,W7,W8,W9,Wa,Wb,Wc,Wd,We,Wf,Wg,Wh,reduceCtorEq,if_true,if_false,Wi,↓reduceIte,Wj,Wk,Wl,Wm,Wn,Wo,ne_eq,not_false_eq_true,not_true_eq_false,Wp,Wq,r35_0,r35_1,r35_2,r35_3,r35_4,r35_5,r35_6,p35,hn2,hge]) | (exfalso; omega)
    · have hT1 := hM1z z1
      have hT2 := hM2
      rw [show topAV t1 = .nilsl from if_pos z1, show topAV t2 = .ro ((lm t2).map oneN) from if_neg z2]
      clear hM1z hM2z hM1 hM2
      repeat' first | ((with_reducible (first | refine condD ?_ ?_ | refine condE ?_ ?_ | refine condN ?_ ?_ | refine condI ?_ ?_ | refine condS ?_ ?_)) <;> intro h) | ((refine callG hT1 ?_)) | ((refine callG hT2 ?_)) | ((refine callG hM3 ?_)) | ((refine callG hLs ?_)) | ((refine callG hCm ?_)) | ((refine callG hL1 ?_)) | (with_reducible refine And.intro ?_ ?_; omega) | (simp only [Z0,Z1,Z2,Z3,Z4,Z5,Z6,Z7,Z8,Z9,Za,Zb,Zc,Zd,Ze,Zf,List.cons.injEq,Zg,Zh,Zi,Zj,Zk,Zl,Zm,Zn,Zo,Zp,beq_self_eq_true,bne_self_eq_false,decide_true,decide_false,Zq,Zr,Zs,Zt,Zu,Zv,Zw,Zx,Zy,Zz,Y0,Y1,Y2,Y3,Y4,Y5,Y6,Y7,Y8,Y9,Ya,Yb,Yc,Yd,Ye,Yf,Yg,Yh,lk,ef,Yi,Yk,Yl,Ym,Yo,Yr,Ys,Yt,Yu,hv,Yv,ev,Yw,Yx,Yy,Yz,X0,X1,X2,X3,X4,X5,X6,X7,X8,X9,Xa,Xb,Xc,Xd,Xe,Xf,Xg,Xh,Xi,Xj,Xk,Xl,Xm,Xn,Xo,Xp,Xq,Xr,Xs,Value.oneCell',Xt,Xu,Xv,Xw,true_and,and_true,and_self,implies_true,Xx,Xy,Xz,W0,false_implies,W1,W2,W3,W4,W5,W6,W7,W8,W9,Wa,Wb,Wc,Wd,We,Wf,Wg,Wh,reduceCtorEq,if_true,if_false,Wi,↓reduceIte,Wj,Wk,Wl,Wm,Wn,Wo,ne_eq,not_false_eq_true,not_true_eq_false,Wp,Wq,r35_0,r35_1,r35_2,r35_3,r35_4,r35_5,r35_6,p35,hn2,hge]) | (exfalso; omega)
    · have hT1 := hM1
      have hT2 := hM2z z2
      rw [show topAV t1 = .ro ((lm t1).map oneN) from if_neg z1, show topAV t2 = .nilsl from if_pos z2]
      clear hM1z hM2z hM1 hM2
      repeat' first | ((with_reducible (first | refine condD ?_ ?_ | refine condE ?_ ?_ | refine condN ?_ ?_ | refine condI ?_ ?_ | refine condS ?_ ?_)) <;> intro h) | ((refine callG hT1 ?_)) | ((refine callG hT2 ?_)) | ((refine callG hM3 ?_)) | ((refine callG hLs ?_)) | ((refine callG hCm ?_)) | ((refine callG hL1 ?_)) | (with_reducible refine And.intro ?_ ?_; omega) | (simp only [Z0,Z1,Z2,Z3,Z4,Z5,Z6,Z7,Z8,Z9,Za,Zb,Zc,Zd,Ze,Zf,List.cons.injEq,Zg,Zh,Zi,Zj,Zk,Zl,Zm,Zn,Zo,Zp,beq_self_eq_true,bne_self_eq_false,decide_true,decide_false,Zq,Zr,Zs,Zt,Zu,Zv,Zw,Zx,Zy,Zz,Y0,Y1,Y2,Y3,Y4,Y5,Y6,Y7,Y8,Y9,Ya,Yb,Yc,Yd,Ye,Yf,Yg,Yh,lk,ef,Yi,Yk,Yl,Ym,Yo,Yr,Ys,Yt,Yu,hv,Yv,ev,Yw,Yx,Yy,Yz,X0,X1,X2,X3,X4,X5,X6,X7,X8,X9,Xa,Xb,Xc,Xd,Xe,Xf,Xg,Xh,Xi,Xj,Xk,Xl,Xm,Xn,Xo,Xp,Xq,Xr,Xs,Value.oneCell',Xt,Xu,Xv,Xw,true_and,and_true,and_self,implies_true,Xx,Xy,Xz,W0,false_implies,W1,W2,W3,W4,W5,W6,W7,W8,W9,Wa,Wb,Wc,Wd,We,Wf,Wg,Wh,reduceCtorEq,if_true,if_false,Wi,↓reduceIte,Wj,Wk,Wl,Wm,Wn,Wo,ne_eq,not_false_eq_true,not_true_eq_false,Wp,Wq,r35_0,r35_1,r35_2,r35_3,r35_4,r35_5,r35_6,p35,hn2,hge]) | (exfalso; omega)
    · have hT1 := hM1
      have hT2 := hM2
      rw [show topAV t1 = .ro ((lm t1).map oneN) from if_neg z1, show topAV t2 = .ro ((lm t2).map oneN) from if_neg z2]
      clear hM1z hM2z hM1 hM2
      repeat' first | ((with_reducible (first | refine condD ?_ ?_ | refine condE ?_ ?_ | refine condN ?_ ?_ | refine condI ?_ ?_ | refine condS ?_ ?_)) <;> intro h) | ((refine callG hT1 ?_)) | ((refine callG hT2 ?_)) | ((refine callG hM3 ?_)) | ((refine callG hLs ?_)) | ((refine callG hCm ?_)) | ((refine callG hL1 ?_)) | (with_reducible refine And.intro ?_ ?_; omega) | (simp only [Z0,Z1,Z2,Z3,Z4,Z5,Z6,Z7,Z8,Z9,Za,Zb,Zc,Zd,Ze,Zf,List.cons.injEq,Zg,Zh,Zi,Zj,Zk,Zl,Zm,Zn,Zo,Zp,beq_self_eq_true,bne_self_eq_false,decide_true,decide_false,Zq,Zr,Zs,Zt,Zu,Zv,Zw,Zx,Zy,Zz,Y0,Y1,Y2,Y3,Y4,Y5,Y6,Y7,Y8,Y9,Ya,Yb,Yc,Yd,Ye,Yf,Yg,Yh,lk,ef,Yi,Yk,Yl,Ym,Yo,Yr,Ys,Yt,Yu,hv,Yv,ev,Yw,Yx,Yy,Yz,X0,X1,X2,X3,X4,X5,X6,X7,X8,X9,Xa,Xb,Xc,Xd,Xe,Xf,Xg,Xh,Xi,Xj,Xk,Xl,Xm,Xn,Xo,Xp,Xq,Xr,Xs,Value.oneCell',Xt,Xu,Xv,Xw,true_and,and_true,and_self,implies_true,Xx,Xy,Xz,W0,false_implies,W1,W2,W3,W4,W5,W6,W7,W8,W9,Wa,Wb,Wc,Wd,We,Wf,Wg,Wh,reduceCtorEq,if_true,if_false,Wi,↓reduceIte,Wj,Wk,Wl,Wm,Wn,Wo,ne_eq,not_false_eq_true,not_true_eq_false,Wp,Wq,r35_0,r35_1,r35_2,r35_3,r35_4,r35_5,r35_6,p35,hn2,hge]) | (exfalso; omega)
  · have hge : ¬ (0 : Int) ≤ cmpN A B := by
      unfold cmpN
      rw [if_pos (by omega)]
      decide
    have hLs := less_c B A (by omega) (by omega)
    have hL1 := lowest_c n2 (B - A) C hbb (Nat.le_trans (lm_le (Nat.sub_le _ _)) (by omega)) (by omega)
    rw [rq_of] at hL1
    have e := sum_lt hn2 (show A ≤ B by omega)
    rw [← e]
    unfold sgnI
    clear e
    obtain ⟨u, v, w, hR⟩ := rq_agg (if n2 = true then -((B - A : Nat) : Int) else ((B - A : Nat) : Int)) C
    rw [hR] at hL1 ⊢
    clear hR
    generalize cmpN A B = cc at *
    by_cases z1 : t1 = 0 <;> by_cases z2 : t2 = 0
    · have hT1 := hM1z z1
      have hT2 := hM2z z2
      rw [show topAV t1 = .nilsl from if_pos z1, show topAV t2 = .nilsl from if_pos z2]
      clear hM1z hM2z hM1 hM2
      repeat' first | ((with_reducible (first | refine condD ?_ ?_ | refine condE ?_ ?_ | refine condN ?_ ?_ | refine condI ?_ ?_ | refine condS ?_ ?_)) <;> intro h) | ((refine callG hT1 ?_)) | ((refine callG hT2 ?_)) | ((refine callG hM3 ?_)) | ((refine callG hLs ?_)) | ((refine callG hCm ?_)) | ((refine callG hL1 ?_)) | (with_reducible refine And.intro ?_ ?_; omega) | (simp only [Z0,Z1,Z2,Z3,Z4,Z5,Z6,Z7,Z8,Z9,Za,Zb,Zc,Zd,Ze,Zf,List.cons.injEq,Zg,Zh,Zi,Zj,Zk,Zl,Zm,Zn,Zo,Zp,beq_self_eq_true,bne_self_eq_false,decide_true,decide_false,Zq,Zr,Zs,Zt,Zu,Zv,Zw,Zx,Zy,Zz,Y0,Y1,Y2,Y3,Y4,Y5,Y6,Y7,Y8,Y9,Ya,Yb,Yc,Yd,Ye,Yf,Yg,Yh,lk,ef,Yi,Yk,Yl,Ym,Yo,Yr,Ys,Yt,Yu,hv,Yv,ev,Yw,Yx,Yy,Yz,X0,X1,X2,X3,X4,X5,X6,X7,X8,X9,Xa,Xb,Xc,Xd,Xe,Xf,Xg,Xh,Xi,Xj,Xk,Xl,Xm,Xn,Xo,Xp,Xq,Xr,Xs,Value.oneCell',Xt,Xu,Xv,Xw,true_and,and_true,and_self,implies_true,Xx,Xy,Xz,W0,false_implies,W1,W2,W3,W4,W5,W6,W7,W8,W9,Wa,Wb,Wc,Wd,We,Wf,Wg,Wh,reduceCtorEq,if_true,if_false,Wi,↓reduceIte,Wj,Wk,Wl,Wm,Wn,Wo,ne_eq,not_false_eq_true,not_true_eq_false,Wp,Wq,r35_0,r35_1,r35_2,r35_3,r35_4,r35_5,r35_6,p35,hn2,hge]) | (exfalso; omega)
    · have hT1 := hM1z z1
      have hT2 := hM2
      rw [show topAV t1 = .nilsl from if_pos z1, show topAV t2 = .ro ((lm t2).map oneN) from if_neg z2]
      clear hM1z hM2z hM1 hM2
      repeat' first | ((with_reducible (first | refine condD ?_ ?_ | refine condE ?_ ?_ | refine condN ?_ ?_ | refine condI ?_ ?_ | refine condS ?_ ?_)) <;> intro h) | ((refine callG hT1 ?_)) | ((refine callG hT2 ?_)) | ((refine callG hM3 ?_)) | ((refine callG hLs ?_)) | ((refine callG hCm ?_)) | ((refine callG hL1 ?_)) | (with_reducible refine And.intro ?_ ?_; omega) | (simp only [Z0,Z1,Z2,Z3,Z4,Z5,Z6,Z7,Z8,Z9,Za,Zb,Zc,Zd,Ze,Zf,List.cons.injEq,Zg,Zh,Zi,Zj,Zk,Zl,Zm,Zn,Zo,Zp,beq_self_eq_true,bne_self_eq_false,decide_true,decide_false,Zq,Zr,Zs,Zt,Zu,Zv,Zw,Zx,Zy,Zz,Y0,Y1,Y2,Y3,Y4,Y5,Y6,Y7,Y8,Y9,Ya,Yb,Yc,Yd,Ye,Yf,Yg,Yh,lk,ef,Yi,Yk,Yl,Ym,Yo,Yr,Ys,Yt,Yu,hv,Yv,ev,Yw,Yx,Yy,Yz,X0,X1,X2,X3,X4,X5,X6,X7,X8,X9,Xa,Xb,Xc,Xd,Xe,Xf,Xg,Xh,Xi,Xj,Xk,Xl,Xm,Xn,Xo,Xp,Xq,Xr,Xs,Value.oneCell',Xt,Xu,Xv,Xw,true_and,and_true,and_self,implies_true,Xx,Xy,Xz,W0,false_implies,W1,W2,W3,W4,W5,W6,W7,W8,W9,Wa,Wb,Wc,Wd,We,Wf,Wg,Wh,reduceCtorEq,if_true,if_false,Wi,↓reduceIte,Wj,Wk,Wl,Wm,Wn,Wo,ne_eq,not_false_eq_true,not_true_eq_false,Wp,Wq,r35_0,r35_1,r35_2,r35_3,r35_4,r35_5,r35_6,p35,hn2,hge]) | (exfalso; omega)
    · have hT1 := hM1
      have hT2 := hM2z z2
      rw [show topAV t1 = .ro ((lm t1).map oneN) from if_neg z1, show topAV t2 = .nilsl from if_pos z2]
      clear hM1z hM2z hM1 hM2
      repeat' first | ((with_reducible (first | refine condD ?_ ?_ | refine condE ?_ ?_ | refine condN ?_ ?_ | refine condI ?_ ?_ | refine condS ?_ ?_)) <;> intro h) | ((refine callG hT1 ?_)) | ((refine callG hT2 ?_)) | ((refine callG hM3 ?_)) | ((refine callG hLs ?_)) | ((refine callG hCm ?_)) | ((refine callG hL1 ?_)) | (with_reducible refine And.intro ?_ ?_; omega) | (simp only [Z0,Z1,Z2,Z3,Z4,Z5,Z6,Z7,Z8,Z9,Za,Zb,Zc,Zd,Ze,Zf,List.cons.injEq,Zg,Zh,Zi,Zj,Zk,Zl,Zm,Zn,Zo,Zp,beq_self_eq_true,bne_self_eq_false,decide_true,decide_false,Zq,Zr,Zs,Zt,Zu,Zv,Zw,Zx,Zy,Zz,Y0,Y1,Y2,Y3,Y4,Y5,Y6,Y7,Y8,Y9,Ya,Yb,Yc,Yd,Ye,Yf,Yg,Yh,lk,ef,Yi,Yk,Yl,Ym,Yo,Yr,Ys,Yt,Yu,hv,Yv,ev,Yw,Yx,Yy,Yz,X0,X1,X2,X3,X4,X5,X6,X7,X8,X9,Xa,Xb,Xc,Xd,Xe,Xf,Xg,Xh,Xi,Xj,Xk,Xl,Xm,Xn,Xo,Xp,Xq,Xr,Xs,Value.oneCell',Xt,Xu,Xv,Xw,true_and,and_true,and_self,implies_true,Xx,Xy,Xz,W0,false_implies,W1,W2,W3,W4,W5,W6,W7,W8,W9,Wa,Wb,Wc,Wd,We,Wf,Wg,Wh,reduceCtorEq,if_true,if_false,Wi,↓reduceIte,Wj,Wk,Wl,Wm,Wn,Wo,ne_eq,not_false_eq_true,not_true_eq_false,Wp,Wq,r35_0,r35_1,r35_2,r35_3,r35_4,r35_5,r35_6,p35,hn2,hge]) | (exfalso; omega)
    · have hT1 := hM1
      have hT2 := hM2
      rw [show topAV t1 = .ro ((lm t1).map oneN) from if_neg z1, show topAV t2 = .ro ((lm t2).map oneN) from if_neg z2]
      clear hM1z hM2z hM1 hM2
      repeat' first | ((with_reducible (first | refine condD ?_ ?_ | refine condE ?_ ?_ | refine condN ?_ ?_ | refine condI ?_ ?_ | refine condS ?_ ?_)) <;> intro h) | ((refine callG hT1 ?_)) | ((refine callG hT2 ?_)) | ((refine callG hM3 ?_)) | ((refine callG hLs ?_)) | ((refine callG hCm ?_)) | ((refine callG hL1 ?_)) | (with_reducible refine And.intro ?_ ?_; omega) | (simp only [Z0,Z1,Z2,Z3,Z4,Z5,Z6,Z7,Z8,Z9,Za,Zb,Zc,Zd,Ze,Zf,List.cons.injEq,Zg,Zh,Zi,Zj,Zk,Zl,Zm,Zn,Zo,Zp,beq_self_eq_true,bne_self_eq_false,decide_true,decide_false,Zq,Zr,Zs,Zt,Zu,Zv,Zw,Zx,Zy,Zz,Y0,Y1,Y2,Y3,Y4,Y5,Y6,Y7,Y8,Y9,Ya,Yb,Yc,Yd,Ye,Yf,Yg,Yh,lk,ef,Yi,Yk,Yl,Ym,Yo,Yr,Ys,Yt,Yu,hv,Yv,ev,Yw,Yx,Yy,Yz,X0,X1,X2,X3,X4,X5,X6,X7,X8,X9,Xa,Xb,Xc,Xd,Xe,Xf,Xg,Xh,Xi,Xj,Xk,Xl,Xm,Xn,Xo,Xp,Xq,Xr,Xs,Value.oneCell',Xt,Xu,Xv,Xw,true_and,and_true,and_self,implies_true,Xx,Xy,Xz,W0,false_implies,W1,W2,W3,W4,W5,W6,W7,W8,W9,Wa,Wb,Wc,Wd,We,Wf,Wg,Wh,reduceCtorEq,if_true,if_false,Wi,↓reduceIte,Wj,Wk,Wl,Wm,Wn,Wo,ne_eq,not_false_eq_true,not_true_eq_false,Wp,Wq,r35_0,r35_1,r35_2,r35_3,r35_4,r35_5,r35_6,p35,hn2,hge]) | (exfalso; omega)
theorem plus_q (a b : Int) (q r : Nat) (hq : 0 < q) (hr : 0 < r) (k1 : (lm a.natAbs).length ≤ 400) (k2 : (lm q).length ≤ 400) (k3 : (lm b.natAbs).length ≤ 400) (k4 : (lm r).length ≤ 400) :
    CallOK Tryz.prog 35 [.agg (RQ a q), .agg (RQ b r)] (.agg (RQ (a * r + b * q) (q * r))) := by
  have h := plus_c (decide (a < 0)) (a.natAbs / Nat.gcd a.natAbs q) (q / Nat.gcd a.natAbs q) (decide (b < 0)) (b.natAbs / Nat.gcd b.natAbs r) (r / Nat.gcd b.natAbs r) (red_pos hq) (red_pos hr) (red_le k1) (red_le k2) (red_le k3) (red_le k4)
  have ea := sgn_eq (a := a) (Nat.gcd_dvd_left a.natAbs q)
  have eb := sgn_eq (a := b) (Nat.gcd_dvd_left b.natAbs r)
  have eq := Nat.div_mul_cancel (Nat.gcd_dvd_right a.natAbs q)
  have er := Nat.div_mul_cancel (Nat.gcd_dvd_right b.natAbs r)
  have g1 := gcd_pos (z := a) hq
  have g2 := gcd_pos (z := b) hr
  have key : RQ (a * r + b * q) (q * r) = RQ (sgnI (decide (a < 0)) (a.natAbs / Nat.gcd a.natAbs q) * ((r / Nat.gcd b.natAbs r : Nat) : Int) + sgnI (decide (b < 0)) (b.natAbs / Nat.gcd b.natAbs r) * ((q / Nat.gcd a.natAbs q : Nat) : Int)) (q / Nat.gcd a.natAbs q * (r / Nat.gcd b.natAbs r)) := by
    rw [← rq_scale (sgnI (decide (a < 0)) (a.natAbs / Nat.gcd a.natAbs q) * ((r / Nat.gcd b.natAbs r : Nat) : Int) + sgnI (decide (b < 0)) (b.natAbs / Nat.gcd b.natAbs r) * ((q / Nat.gcd a.natAbs q : Nat) : Int)) _ _ (Nat.mul_pos g1 g2), mul4n, eq, er, Int.add_mul, Int.natCast_mul, mul4, ← Int.natCast_mul, er]
    rw [Int.mul_comm (Nat.gcd a.natAbs q : Int), mul4, ← Int.natCast_mul, eq]
    have fa : sgnI (decide (a < 0)) (a.natAbs / Nat.gcd a.natAbs q) * (Nat.gcd a.natAbs q : Int) = a := ea.symm
    have fb : sgnI (decide (b < 0)) (b.natAbs / Nat.gcd b.natAbs r) * (Nat.gcd b.natAbs r : Int) = b := eb.symm
    rw [fa, fb]
  rw [key]
  exact h
theorem minus_q (a : Int) (q : Nat) (hq : 0 < q) : CallOK Tryz.prog 36 [.agg (RQ a q)] (.agg (RQ (-a) q)) := by
  have h := minus_c (decide (a < 0)) (a.natAbs / Nat.gcd a.natAbs q) (q / Nat.gcd a.natAbs q)
  have e : (!decide (a < 0) && decide (0 < a.natAbs / Nat.gcd a.natAbs q)) = decide (-a < 0) := by
    by_cases z : a < 0
    · rw [decide_eq_true z, decide_eq_false (show ¬ -a < 0 by omega)]; rfl
    · rw [decide_eq_false z]
      by_cases z0 : a = 0
      · subst z0
        simp
      · rw [decide_eq_true (show -a < 0 by omega), decide_eq_true (Nat.div_pos (Nat.le_of_dvd (by omega) (Nat.gcd_dvd_left _ _)) (gcd_pos hq))]; rfl
  rw [e] at h
  unfold RQ
  rw [Int.natAbs_neg]
  exact h
/-! headend/headendref1.Compare -/
def r23_0 : List POp := [⟨2, .boxs (.t 0), none⟩,
  ⟨3, .boxs (.t 1), none⟩,
  ⟨4, .asg (.c (.int .i64 0)), none⟩]
def r23_1 : List POp := [⟨6, .loads 3 (.t 2), none⟩,
  ⟨7, .loads 3 (.t 3), none⟩,
  ⟨8, .call 36 [.t 7], none⟩,
  ⟨9, .call 35 [.t 6, .t 8], none⟩,
  ⟨5, .alloc [.bool false, .slice none 0 0, .slice none 0 0], none⟩,
  ⟨0, .stores 3 (.t 5) (.t 9), none⟩]
def r23_2 : List POp := [⟨10, .fld 1 (.t 5), none⟩,
  ⟨11, .load (.t 10), none⟩,
  ⟨12, .len (.t 11), none⟩,
  ⟨13, .bin .eql (.t 12) (.c (.int .i64 0)), none⟩]
def r23_3 : List POp := [⟨4, .asg (.c (.int .i64 0)), none⟩]
def r23_4 : List POp := [⟨14, .fld 0 (.t 5), none⟩,
  ⟨15, .load (.t 14), none⟩]
def r23_5 : List POp := [⟨4, .asg (.c (.int .i64 (-1))), none⟩]
def r23_6 : List POp := [⟨4, .asg (.c (.int .i64 1)), none⟩]
def p23 : PCode := .seq (.ops r23_0) (.seq (.ops r23_1) (.seq (.seq (.ops r23_2) (.cond (.t 13) (.seq (.ops r23_3) (.ret)) (.skip))) (.seq (.seq (.ops r23_4) (.cond (.t 15) (.seq (.ops r23_5) (.ret)) (.skip))) (.seq (.ops r23_6) (.ret)))))
theorem ok23 : okFunc Tryz.prog 23 [.t 4] 2 p23 = true := by kernel_rfl
set_option maxRecDepth 20000 in
theorem compare_q (a b : Int) (q r : Nat) (hq : 0 < q) (hr : 0 < r) (k1 : (lm a.natAbs).length ≤ 400) (k2 : (lm q).length ≤ 400) (k3 : (lm b.natAbs).length ≤ 400) (k4 : (lm r).length ≤ 400) :
    CallOK Tryz.prog 23 [.agg (RQ a q), .agg (RQ b r)] (.val (.int .i64 (cmpI (a * r) (b * q)))) := by
  refine call_of mixed ok23 rfl ?_
  have hM := minus_q b r hr
  have hP := plus_q a (-b) q r hq hr k1 k2 (by rw [Int.natAbs_neg]; exact k3) k4
  obtain ⟨s, hs⟩ : ∃ s, s = a * r + -b * q := ⟨_, rfl⟩
  rw [← hs] at hP
  have hc : cmpI (a * r) (b * q) = if s = 0 then 0 else if s < 0 then -1 else 1 := by
    rw [Int.neg_mul] at hs
    generalize a * (r : Int) = x at *
    generalize b * (q : Int) = y at *
    unfold cmpI
    repeat' split
    all_goals omega
  rw [hc]
  have hqr : 0 < q * r := Nat.mul_pos hq hr
  clear hc hs k1 k2 k3 k4
  generalize q * r = qr at *
  obtain ⟨u1, v1, w1', hR1⟩ := rq_agg a q
  obtain ⟨u2, v2, w2', hR2⟩ := rq_agg b r
  obtain ⟨u3, v3, w3', hR3⟩ := rq_agg (-b) r
  rw [hR1] at hP ⊢
  rw [hR2] at hM ⊢
  rw [hR3] at hP hM
  clear hR1 hR2 hR3
  unfold RQ numAV at hP
  by_cases hz : s = 0
  · rw [if_pos hz]
    subst hz
    rw [show (0 : Int).natAbs / Nat.gcd (0 : Int).natAbs qr = 0 from Nat.zero_div _, topAV_0] at hP
    repeat' first | ((with_reducible (first | refine condD ?_ ?_ | refine condE ?_ ?_ | refine condN ?_ ?_ | refine condI ?_ ?_ | refine condS ?_ ?_)) <;> intro h) | ((refine callG hM ?_)) | ((refine callG hP ?_)) | (with_reducible refine And.intro ?_ ?_; omega) | (simp only [Z0,Z1,Z2,Z3,Z4,Z5,Z6,Z7,Z8,Z9,Za,Zb,Zc,Zd,Ze,Zf,List.cons.injEq,Zg,Zh,Zi,Zj,Zk,Zl,Zm,Zn,Zo,Zp,beq_self_eq_true,bne_self_eq_false,decide_true,decide_false,Zq,Zr,Zs,Zt,Zu,Zv,Zw,Zx,Zy,Zz,Y0,Y1,Y2,Y3,Y4,Y5,Y6,Y7,Y8,Y9,Ya,Yb,Yc,Yd,Ye,Yf,Yg,Yh,lk,ef,Yk,Ym,Yn,Yo,Yp,Yr,Ys,Yt,Yu,hv,Yv,ev,Yw,Yx,Yy,Yz,X0,X1,X2,X3,X4,X5,X6,X7,X8,X9,Xa,Xb,Xc,Xd,Xe,Xf,Xg,Xh,Xi,Xj,Xk,Xl,Xm,Xn,Xo,Xp,Xq,Xr,Xs,Value.oneCell',Xt,Xu,Xv,Xw,true_and,and_true,and_self,implies_true,Xx,Xy,Xz,W0,false_implies,W1,W2,W3,W4,W5,W6,W7,W8,W9,Wa,Wb,Wc,Wd,We,Wf,Wg,Wh,reduceCtorEq,if_true,if_false,Wi,↓reduceIte,Wj,Wk,Wl,Wm,Wn,Wo,ne_eq,not_false_eq_true,not_true_eq_false,Wp,Wq,r23_0,r23_1,r23_2,r23_3,r23_4,r23_5,r23_6,p23]) | (exfalso; omega)
  · rw [if_neg hz]
    have hp : 0 < s.natAbs / Nat.gcd s.natAbs qr := Nat.div_pos (Nat.le_of_dvd (by omega) (Nat.gcd_dvd_left _ _)) (gcd_pos hqr)
    generalize s.natAbs / Nat.gcd s.natAbs qr = T at *
    rw [topAV_n (by omega)] at hP
    have hp2 : 0 < (lm T).length := lm_pos_len.2 (by omega)
    have hz1 : (((lm T).length : Int) == 0) = false := by rw [beq_eq_false_iff_ne]; omega
    generalize lm T = LT at *
    generalize lm (qr / Nat.gcd s.natAbs qr) = LB at *
    by_cases hn : s < 0
    · rw [if_pos hn]
      rw [decide_eq_true hn] at hP
      repeat' first | ((with_reducible (first | refine condD ?_ ?_ | refine condE ?_ ?_ | refine condN ?_ ?_ | refine condI ?_ ?_ | refine condS ?_ ?_)) <;> intro h) | ((refine callG hM ?_)) | ((refine callG hP ?_)) | (with_reducible refine And.intro ?_ ?_; omega) | (simp only [Z0,Z1,Z2,Z3,Z4,Z5,Z6,Z7,Z8,Z9,Za,Zb,Zc,Zd,Ze,Zf,List.cons.injEq,Zg,Zh,Zi,Zj,Zk,Zl,Zm,Zn,Zo,Zp,beq_self_eq_true,bne_self_eq_false,decide_true,decide_false,Zq,Zr,Zs,Zt,Zu,Zv,Zw,Zx,Zy,Zz,Y0,Y1,Y2,Y3,Y4,Y5,Y6,Y7,Y8,Y9,Ya,Yb,Yc,Yd,Ye,Yf,Yg,Yh,lk,ef,Yk,Ym,Yn,Yo,Yp,Yr,Ys,Yt,Yu,hv,Yv,ev,Yw,Yx,Yy,Yz,X0,X1,X2,X3,X4,X5,X6,X7,X8,X9,Xa,Xb,Xc,Xd,Xe,Xf,Xg,Xh,Xi,Xj,Xk,Xl,Xm,Xn,Xo,Xp,Xq,Xr,Xs,Value.oneCell',Xt,Xu,Xv,Xw,true_and,and_true,and_self,implies_true,Xx,Xy,Xz,W0,false_implies,W1,W2,W3,W4,W5,W6,W7,W8,W9,Wa,Wb,Wc,Wd,We,Wf,Wg,Wh,reduceCtorEq,if_true,if_false,Wi,↓reduceIte,Wj,Wk,Wl,Wm,Wn,Wo,ne_eq,not_false_eq_true,not_true_eq_false,Wp,Wq,r23_0,r23_1,r23_2,r23_3,r23_4,r23_5,r23_6,p23,Zt,hz1]) | (exfalso; omega)
    · rw [if_neg hn]
      rw [decide_eq_false hn] at hP
      repeat' first | ((with_reducible (first | refine condD ?_ ?_ | refine condE ?_ ?_ | refine condN ?_ ?_ | refine condI ?_ ?_ | refine condS ?_ ?_)) <;> intro h) | ((refine callG hM ?_)) | ((refine callG hP ?_)) | (with_reducible refine And.intro ?_ ?_; omega) | (simp only [Z0,Z1,Z2,Z3,Z4,Z5,Z6,Z7,Z8,Z9,Za,Zb,Zc,Zd,Ze,Zf,List.cons.injEq,Zg,Zh,Zi,Zj,Zk,Zl,Zm,Zn,Zo,Zp,beq_self_eq_true,bne_self_eq_false,decide_true,decide_false,Zq,Zr,Zs,Zt,Zu,Zv,Zw,Zx,Zy,Zz,Y0,Y1,Y2,Y3,Y4,Y5,Y6,Y7,Y8,Y9,Ya,Yb,Yc,Yd,Ye,Yf,Yg,Yh,lk,ef,Yk,Ym,Yn,Yo,Yp,Yr,Ys,Yt,Yu,hv,Yv,ev,Yw,Yx,Yy,Yz,X0,X1,X2,X3,X4,X5,X6,X7,X8,X9,Xa,Xb,Xc,Xd,Xe,Xf,Xg,Xh,Xi,Xj,Xk,Xl,Xm,Xn,Xo,Xp,Xq,Xr,Xs,Value.oneCell',Xt,Xu,Xv,Xw,true_and,and_true,and_self,implies_true,Xx,Xy,Xz,W0,false_implies,W1,W2,W3,W4,W5,W6,W7,W8,W9,Wa,Wb,Wc,Wd,We,Wf,Wg,Wh,reduceCtorEq,if_true,if_false,Wi,↓reduceIte,Wj,Wk,Wl,Wm,Wn,Wo,ne_eq,not_false_eq_true,not_true_eq_false,Wp,Wq,r23_0,r23_1,r23_2,r23_3,r23_4,r23_5,r23_6,p23,Zt,hz1]) | (exfalso; omega)
end Go.Proofs.YtjeemcpdmiajmaaGreatDoor
