/- The reference's numbers: headendref1's common, lowest, by the machine on data. -/
import Derived.Test.YtjeemcpdmiajmaaGreatDoorKNumD
namespace Go.Proofs.YtjeemcpdmiajmaaGreatDoor
open Go.RowKit
open Go.Proofs.YtjeemcpdmiajmaaGreatDoor renaming done_eq → Z0, done_eq' → Z1, donet_eq → Z2, donet_eq' → Z3, fin_val → Z4, fin_tup → Z5, fin_agg → Z6, fin_ro → Z7, res_one → Z8, res_more → Z9, rv_t → Za, rv_c → Zb, rv_l → Zc, int_eq → Zg, bool_eq → Zh, toNat_pred → Zr, toNat_succ → Zs, cnd_t → Zu, cnd_f → Zv, grd_tt → Zw, grd_u → Zx, grd_tf → Zy, grd_ft → Zz, grd_ff → Y0, g_skip → Y1, g_ops → Y2, g_seq → Y3, g_block → Y4, g_exit → Y5, g_ret → Y6, g_nil → Y7, r_all → Y8, o_nil → Y9, g_cond → Ya, o_guard → Yb, o_call → Yc, o_mv → Yd, o_bin → Ye, o_len → Yf, o_ext → Yg, o_build → Yh, o_alloc → Yi, o_asg → Yj, o_stores → Yk, eqAV → Yl, view_t → Ym, view_c → Yn, view_nil → Yo, view_fn → Yp, look_own → Yq, look_box → Yr, look_junk → Ys, look_val → Yt, look_nilsl → Yu, look_ro → Yv, look_roAt → Yw, look_agg → Yx, look_tup → Yy, look_clo → Yz, look_alias → X0, look_ref → X1, look_into → X2, rowOf → X3, cellsOf → X4, argv → X5, vbin → X6, elemOf → X7, putParts → X8, setAt → X9, put_at → Xg, mk_at → Xh, mk_nil → Xi, initSt → Xj
open Go.Proofs.YtjeemcpdmiajmaaGreatDoor.AV.tup renaming injEq → Zd
open Go.Proofs.YtjeemcpdmiajmaaGreatDoor.AV.agg renaming injEq → Ze
open Go.Proofs.YtjeemcpdmiajmaaGreatDoor.AV.ro renaming injEq → Zf
open _root_.Int renaming toNat_natCast → Zi, reduceToNat → Zj, toNat_zero → Zk, toNat_one → Zl, reduceLE → Zm, reduceLT → Zn, reduceBEq → Zo, reduceBNe → Zp, reduceNeg → Zq
open _root_.List renaming length_map → Zt, map_cons → Xk, map_nil → Xl, forall_mem_cons → Xm, not_mem_nil → Xn, length_cons → Xo, length_nil → Xp, getD_cons_zero → Xq, getD_cons_succ → Xr, getD_nil → Xs, drop_succ_cons → Xt, drop_zero → Xu, take_succ_cons → Xv, take_zero → Xw, set_cons_zero → Xx, set_cons_succ → Xy, all_cons → Xz, all_nil → W0
open Go.Proofs.YtjeemcpdmiajmaaGreatDoor.ASt renaming rid → Xa, free → Xb
open Go.Proofs.YtjeemcpdmiajmaaGreatDoor.AV renaming kill → Xc, isHome → Xd, noLoan → Xe, cellOK → Xf
open _root_.Bool renaming and_true → W1, true_and → W2, not_true → W3, not_false → W4, false_eq_true → W5
open _root_.Nat renaming reduceEqDiff → W6, reduceAdd → W7, reduceSub → W8, reduceMul → W9, reduceLeDiff → Wa, reduceLT → Wb, one_ne_zero → Wc, zero_ne_one → Wd
open Go.Proofs.YtjeemcpdmiajmaaGreatDoor.AV.val renaming injEq → We
set_option linter.unusedSimpArgs false

theorem lm_pos_len {n : Nat} : 0 < (lm n).length ↔ 0 < n := by
  constructor
  · intro h
    refine Nat.pos_of_ne_zero fun e => ?_
    rw [e, lm_0] at h
    simp at h
  · intro h
    refine List.length_pos_iff.2 fun e => ?_
    have := lm_nil.1 e
    omega
theorem lm_le {a b : Nat} (h : a ≤ b) : (lm a).length ≤ (lm b).length := by
  refine Nat.not_lt.1 fun q => ?_
  have := len_lt q
  omega
/-! headend/headendref1.common -/
def r73_0 : List POp := [⟨4, .asg .nil, none⟩]
def r73_1 : List POp := [⟨7, .mv (.t 1), none⟩,
  ⟨8, .len (.t 7), none⟩,
  ⟨9, .bin .gtr (.t 8) (.c (.int .i64 0)), none⟩]
def r73_2 : List POp := [⟨11, .mv (.t 0), none⟩,
  ⟨12, .mv (.t 1), none⟩,
  ⟨13, .call 74 [.t 11, .t 12], none⟩,
  ⟨10, .mv (.t 13), none⟩,
  ⟨14, .ext 0 (.t 10), none⟩,
  ⟨15, .ext 1 (.t 10), none⟩,
  ⟨5, .asg (.t 14), none⟩,
  ⟨6, .asg (.t 15), none⟩]
def r73_3 : List POp := [⟨16, .mv (.t 1), none⟩,
  ⟨17, .mv (.t 6), none⟩,
  ⟨0, .asg (.t 16), none⟩,
  ⟨1, .asg (.t 17), none⟩]
def r73_4 : List POp := [⟨18, .mv (.t 0), none⟩,
  ⟨4, .asg (.t 18), none⟩]
def l73_0 : PCode := .seq (.seq (.ops r73_1) (.cond (.t 9) (.skip) (.exit 0))) (.block 1 (.seq (.ops r73_2) (.ops r73_3)))
def p73 : PCode := .seq (.ops r73_0) (.seq (.block 0 (.loop l73_0)) (.seq (.ops r73_4) (.ret)))
theorem ok73 : okFunc Tryz.prog 73 [.t 4] 2 p73 = true := by kernel_rfl
theorem common_c (a b : Nat) (ha : (lm a).length ≤ 900) (hb : (lm b).length ≤ 900) : CallOK Tryz.prog 73 [.ro ((lm a).map oneN), .ro ((lm b).map oneN)] (.ro ((lm (Nat.gcd a b)).map oneN)) := by
  refine call_of mixed ok73 rfl ?_
  obtain ⟨G, hG⟩ : ∃ G, G = Nat.gcd a b := ⟨_, rfl⟩
  rw [← hG]
  repeat' first | ((with_reducible (first | refine condD ?_ ?_ | refine condE ?_ ?_ | refine condN ?_ ?_ | refine condI ?_ ?_ | refine condS ?_ ?_)) <;> intro h) | (with_reducible refine And.intro ?_ ?_; omega) | (simp only [Z0,Z1,Z2,Z3,Z4,Z5,Z6,Z7,Z8,Z9,Za,Zb,Zc,Zd,Ze,Zf,List.cons.injEq,Zg,Zh,Zi,Zj,Zk,Zl,Zm,Zn,Zo,Zp,beq_self_eq_true,bne_self_eq_false,decide_true,decide_false,Zq,Zr,Zs,Zt,Zu,Zv,Zw,Zx,Zy,Zz,Y0,Y1,Y2,Y3,Y4,Y5,Y6,x_c,x_o,x_l,x_b,g_b,Y7,Y8,Y9,Ya,Yb,Yc,lk,ef,Yd,Ye,Yf,Yg,Yj,hv,Yl,ev,Ym,Yn,Yo,Yp,Yq,Yr,Ys,Yt,Yu,Yv,Yw,Yx,Yy,Yz,X0,X1,X2,X3,X4,X5,X6,vun,bnd,X7,X8,X9,zav,Xa,Xb,Xc,Xd,Xe,Xf,Value.oneCell',Xg,Xh,Xi,Xj,true_and,and_true,and_self,implies_true,Xk,Xl,Xm,Xn,false_implies,Xo,Xp,Xq,Xr,Xs,Xt,Xu,Xv,Xw,Xx,Xy,Xz,W0,W1,W2,W3,W4,reduceCtorEq,if_true,if_false,W5,↓reduceIte,W6,W7,W8,W9,Wa,Wb,ne_eq,not_false_eq_true,not_true_eq_false,Wc,Wd,r73_0,r73_1,r73_2,r73_3,r73_4,p73]) | (exfalso; omega)
  refine loopS (fun s : Nat × Nat => mk [(0, .ro ((lm s.1).map oneN)), (1, .ro ((lm s.2).map oneN))]) (fun s => (lm s.1).length ≤ 900 ∧ (lm s.2).length ≤ 900 ∧ Nat.gcd s.1 s.2 = G) (fun s => s.2) (a, b) (weak_mk ?_) ⟨ha, hb, hG.symm⟩ ?_
  · simp only [wk_cons,wk_nil,wk1,vint_eq,vbool_eq,We,Z4,Z5,Z6,Z7,Z8,Z9,Za,Zb,Zc,Zd,Ze,Zf,List.cons.injEq,Zg,Zh,Zi,Zj,Zk,Zl,Zm,Zn,Zo,Zp,beq_self_eq_true,bne_self_eq_false,decide_true,decide_false,Zq,Zr,Zs,Zt,Zu,Zv,Zw,Zx,Zy,Zz,Y0,hv,Yl,ev,Ym,Yn,Yo,Yp,Yq,Yr,Ys,Yt,Yu,Yv,Yw,Yx,Yy,Yz,X0,X1,X2,X3,X4,X5,X6,vun,bnd,X7,X8,X9,zav,Xa,Xb,Xc,Xd,Xe,Xf,Value.oneCell',Xg,Xh,Xi,Xj,true_and,and_true,and_self,implies_true,Xk,Xl,Xm,Xn,false_implies,Xo,Xp,Xq,Xr,Xs,Xt,Xu,Xv,Xw,Xx,Xy,Xz,W0,W1,W2,W3,W4,reduceCtorEq,if_true,if_false,W5,↓reduceIte,W6,W7,W8,W9,Wa,Wb,ne_eq,not_false_eq_true,not_true_eq_false,Wc,Nat.zero_ne_one]
    first | done | rfl | exact ⟨rfl, rfl⟩
  rintro J hJ ⟨x, y⟩ ⟨h1, h2, h3⟩
  simp only at h1 h2 h3
  by_cases hy : 0 < y
  · have hyi : (0 : Int) < (lm y).length := by have := lm_pos_len.2 hy; omega
    have hD := divide_c x y hy h1 h2
    have hm := Nat.mod_lt x hy
    repeat' first | ((with_reducible (first | refine condD ?_ ?_ | refine condE ?_ ?_ | refine condN ?_ ?_ | refine condI ?_ ?_ | refine condS ?_ ?_)) <;> intro h) | ((refine callG hD ?_)) | (with_reducible refine And.intro ?_ ?_; omega) | (simp only [Z0,Z1,Z2,Z3,Z4,Z5,Z6,Z7,Z8,Z9,Za,Zb,Zc,Zd,Ze,Zf,List.cons.injEq,Zg,Zh,Zi,Zj,Zk,Zl,Zm,Zn,Zo,Zp,beq_self_eq_true,bne_self_eq_false,decide_true,decide_false,Zq,Zr,Zs,Zt,Zu,Zv,Zw,Zx,Zy,Zz,Y0,Y1,Y2,Y3,Y4,Y5,Y6,x_c,x_o,x_l,x_b,g_b,Y7,Y8,Y9,Ya,Yb,Yc,lk,ef,Yd,Ye,Yf,Yg,Yj,hv,Yl,ev,Ym,Yn,Yo,Yp,Yq,Yr,Ys,Yt,Yu,Yv,Yw,Yx,Yy,Yz,X0,X1,X2,X3,X4,X5,X6,vun,bnd,X7,X8,X9,zav,Xa,Xb,Xc,Xd,Xe,Xf,Value.oneCell',Xg,Xh,Xi,Xj,true_and,and_true,and_self,implies_true,Xk,Xl,Xm,Xn,false_implies,Xo,Xp,Xq,Xr,Xs,Xt,Xu,Xv,Xw,Xx,Xy,Xz,W0,W1,W2,W3,W4,reduceCtorEq,if_true,if_false,W5,↓reduceIte,W6,W7,W8,W9,Wa,Wb,ne_eq,not_false_eq_true,not_true_eq_false,Wc,Wd,r73_0,r73_1,r73_2,r73_3,r73_4,p73,l73_0,hyi,List.length_map]) | (exfalso; omega)
    all_goals first | omega | exact again hJ (y, x % y) (weak_mk (by simp only [wk_cons,wk_nil,wk1,vint_eq,vbool_eq,We,Z4,Z5,Z6,Z7,Z8,Z9,Za,Zb,Zc,Zd,Ze,Zf,List.cons.injEq,Zg,Zh,Zi,Zj,Zk,Zl,Zm,Zn,Zo,Zp,beq_self_eq_true,bne_self_eq_false,decide_true,decide_false,Zq,Zr,Zs,Zt,Zu,Zv,Zw,Zx,Zy,Zz,Y0,hv,Yl,ev,Ym,Yn,Yo,Yp,Yq,Yr,Ys,Yt,Yu,Yv,Yw,Yx,Yy,Yz,X0,X1,X2,X3,X4,X5,X6,vun,bnd,X7,X8,X9,zav,Xa,Xb,Xc,Xd,Xe,Xf,Value.oneCell',Xg,Xh,Xi,Xj,true_and,and_true,and_self,implies_true,Xk,Xl,Xm,Xn,false_implies,Xo,Xp,Xq,Xr,Xs,Xt,Xu,Xv,Xw,Xx,Xy,Xz,W0,W1,W2,W3,W4,reduceCtorEq,if_true,if_false,W5,↓reduceIte,W6,W7,W8,W9,Wa,Wb,ne_eq,not_false_eq_true,not_true_eq_false,Wc,Nat.zero_ne_one])) ⟨h2, Nat.le_trans (lm_le (Nat.le_of_lt hm)) h2, by rw [← h3, Nat.gcd_comm x y, Nat.gcd_rec y x, Nat.gcd_comm]⟩ hm
  · have hy0 : y = 0 := by omega
    subst hy0
    have hyi : ¬ (0 : Int) < (lm 0).length := by rw [lm_0]; decide
    rw [Nat.gcd_zero_right] at h3
    subst h3
    clear hJ
    repeat' first | ((with_reducible (first | refine condD ?_ ?_ | refine condE ?_ ?_ | refine condN ?_ ?_ | refine condI ?_ ?_ | refine condS ?_ ?_)) <;> intro h) | (with_reducible refine And.intro ?_ ?_; omega) | (simp only [Z0,Z1,Z2,Z3,Z4,Z5,Z6,Z7,Z8,Z9,Za,Zb,Zc,Zd,Ze,Zf,List.cons.injEq,Zg,Zh,Zi,Zj,Zk,Zl,Zm,Zn,Zo,Zp,beq_self_eq_true,bne_self_eq_false,decide_true,decide_false,Zq,Zr,Zs,Zt,Zu,Zv,Zw,Zx,Zy,Zz,Y0,Y1,Y2,Y3,Y4,Y5,Y6,x_c,x_o,x_l,x_b,g_b,Y7,Y8,Y9,Ya,Yb,Yc,lk,ef,Yd,Ye,Yf,Yg,Yj,hv,Yl,ev,Ym,Yn,Yo,Yp,Yq,Yr,Ys,Yt,Yu,Yv,Yw,Yx,Yy,Yz,X0,X1,X2,X3,X4,X5,X6,vun,bnd,X7,X8,X9,zav,Xa,Xb,Xc,Xd,Xe,Xf,Value.oneCell',Xg,Xh,Xi,Xj,true_and,and_true,and_self,implies_true,Xk,Xl,Xm,Xn,false_implies,Xo,Xp,Xq,Xr,Xs,Xt,Xu,Xv,Xw,Xx,Xy,Xz,W0,W1,W2,W3,W4,reduceCtorEq,if_true,if_false,W5,↓reduceIte,W6,W7,W8,W9,Wa,Wb,ne_eq,not_false_eq_true,not_true_eq_false,Wc,Wd,r73_0,r73_1,r73_2,r73_3,r73_4,p73,l73_0,hyi,List.length_map]) | (exfalso; omega)
theorem lm_1 : lm 1 = [1] := by rw [lm_pos (by decide), lm_0]
/-- A number: its sign, what is above and what is below. -/
def topAV (t : Nat) : AV := if t = 0 then .nilsl else .ro ((lm t).map oneN)
def numAV (neg : Bool) (t b : Nat) : List AV := [.val (.bool neg), topAV t, .ro ((lm b).map oneN)]
/-! headend/headendref1.lowest -/
def r59_0 : List POp := [⟨6, .alloc [.bool false, .slice none 0 0, .slice none 0 0], none⟩]
def r59_1 : List POp := [⟨12, .mv (.t 1), none⟩,
  ⟨13, .len (.t 12), none⟩,
  ⟨14, .bin .eql (.t 13) (.c (.int .i64 0)), none⟩]
def r59_2 : List POp := [⟨15, .rowr 3 1 [.c (.int .i64 1)], none⟩,
  ⟨16, .build [.bool false, .slice none 0 0, .slice none 0 0] [(2, 1, .t 15)], none⟩,
  ⟨0, .stores 3 (.t 6) (.t 16), none⟩]
def r59_3 : List POp := [⟨17, .mv (.t 1), none⟩,
  ⟨18, .mv (.t 2), none⟩,
  ⟨19, .call 73 [.t 17, .t 18], none⟩,
  ⟨7, .asg (.t 19), none⟩]
def r59_4 : List POp := [⟨20, .mv (.t 7), none⟩,
  ⟨21, .rowr 3 1 [.c (.int .i64 1)], none⟩,
  ⟨22, .call 61 [.t 20, .t 21], none⟩,
  ⟨23, .bin .eql (.t 22) (.c (.int .i64 0)), none⟩]
def r59_5 : List POp := [⟨24, .mv (.t 0), none⟩,
  ⟨25, .mv (.t 1), none⟩,
  ⟨26, .mv (.t 2), none⟩,
  ⟨27, .build [.bool false, .slice none 0 0, .slice none 0 0] [(0, 1, .t 24), (1, 1, .t 25), (2, 1, .t 26)], none⟩,
  ⟨0, .stores 3 (.t 6) (.t 27), none⟩]
def r59_6 : List POp := [⟨29, .mv (.t 1), none⟩,
  ⟨30, .mv (.t 7), none⟩,
  ⟨31, .call 74 [.t 29, .t 30], none⟩,
  ⟨28, .mv (.t 31), none⟩,
  ⟨32, .ext 0 (.t 28), none⟩,
  ⟨33, .ext 1 (.t 28), none⟩,
  ⟨8, .asg (.t 32), none⟩,
  ⟨9, .asg (.t 33), none⟩]
def r59_7 : List POp := [⟨35, .mv (.t 2), none⟩,
  ⟨36, .mv (.t 7), none⟩,
  ⟨37, .call 74 [.t 35, .t 36], none⟩,
  ⟨34, .mv (.t 37), none⟩,
  ⟨38, .ext 0 (.t 34), none⟩,
  ⟨39, .ext 1 (.t 34), none⟩,
  ⟨10, .asg (.t 38), none⟩,
  ⟨11, .asg (.t 39), none⟩]
def r59_8 : List POp := [⟨40, .mv (.t 0), none⟩,
  ⟨41, .mv (.t 8), none⟩,
  ⟨42, .mv (.t 10), none⟩,
  ⟨43, .build [.bool false, .slice none 0 0, .slice none 0 0] [(0, 1, .t 40), (1, 1, .t 41), (2, 1, .t 42)], none⟩,
  ⟨0, .stores 3 (.t 6) (.t 43), none⟩]
def p59 : PCode := .seq (.ops r59_0) (.seq (.seq (.ops r59_1) (.cond (.t 14) (.seq (.ops r59_2) (.ret)) (.skip))) (.seq (.ops r59_3) (.seq (.seq (.ops r59_4) (.cond (.t 23) (.seq (.ops r59_5) (.ret)) (.skip))) (.seq (.ops r59_6) (.seq (.ops r59_7) (.seq (.ops r59_8) (.ret)))))))
theorem ok59 : okFunc Tryz.prog 59 [.c 6 3] 3 p59 = true := by kernel_rfl
theorem lowest_c (neg : Bool) (t b : Nat) (hb : 0 < b) (h1 : (lm t).length ≤ 900) (h2 : (lm b).length ≤ 900) :
    CallOK Tryz.prog 59 [.val (.bool neg), .ro ((lm t).map oneN), .ro ((lm b).map oneN)] (.agg (numAV (neg && decide (0 < t)) (t / Nat.gcd t b) (b / Nat.gcd t b))) := by
  refine call_of mixed ok59 rfl ?_
  by_cases ht : t = 0
  · subst ht
    have e : (((lm 0).length : Int) == 0) = true := by rw [lm_0]; rfl
    rw [Nat.gcd_zero_left, Nat.zero_div, Nat.div_self hb]
    unfold numAV topAV
    rw [if_pos rfl, lm_1, show (neg && decide (0 < 0)) = false by simp]
    repeat' first | ((with_reducible (first | refine condD ?_ ?_ | refine condE ?_ ?_ | refine condN ?_ ?_ | refine condI ?_ ?_ | refine condS ?_ ?_)) <;> intro h) | (with_reducible refine And.intro ?_ ?_; omega) | (simp only [Z0,Z1,Z2,Z3,Z4,Z5,Z6,Z7,Z8,Z9,Za,Zb,Zc,Zd,Ze,Zf,List.cons.injEq,Zg,Zh,Zi,Zj,Zk,Zl,Zm,Zn,Zo,Zp,beq_self_eq_true,bne_self_eq_false,decide_true,decide_false,Zq,Zr,Zs,Zt,Zu,Zv,Zw,Zx,Zy,Zz,Y0,Y1,Y2,Y3,Y4,Y5,Y6,x_c,x_o,x_l,x_b,g_b,Y7,Y8,Y9,Ya,Yb,Yc,lk,ef,Yd,Ye,Yf,Yg,Yh,Yi,o_rowr,Yj,Yk,hv,Yl,ev,Ym,Yn,Yo,Yp,Yq,Yr,Ys,Yt,Yu,Yv,Yw,Yx,Yy,Yz,X0,X1,X2,X3,X4,X5,X6,vun,bnd,X7,X8,X9,zav,Xa,Xb,Xc,Xd,Xe,Xf,Value.oneCell',Xg,Xh,Xi,Xj,true_and,and_true,and_self,implies_true,Xk,Xl,Xm,Xn,false_implies,Xo,Xp,Xq,Xr,Xs,Xt,Xu,Xv,Xw,Xx,Xy,Xz,W0,W1,W2,W3,W4,reduceCtorEq,if_true,if_false,W5,↓reduceIte,W6,W7,W8,W9,Wa,Wb,ne_eq,not_false_eq_true,not_true_eq_false,Wc,Wd,r59_0,r59_1,r59_2,r59_3,r59_4,r59_5,r59_6,r59_7,r59_8,p59,e,oneN,Int.cast_ofNat_Int,List.length_map]) | (exfalso; omega)
  have htp : 0 < t := by omega
  have hgp : 0 < Nat.gcd t b := Nat.gcd_pos_of_pos_left _ htp
  have hgt : Nat.gcd t b ≤ t := Nat.gcd_le_left _ htp
  have hgl : (lm (Nat.gcd t b)).length ≤ 900 := Nat.le_trans (lm_le hgt) h1
  have htg : t / Nat.gcd t b ≠ 0 := by
    intro z
    rw [Nat.div_eq_zero_iff] at z
    omega
  have e : (((lm t).length : Int) == 0) = false := by
    rw [beq_eq_false_iff_ne]
    have := lm_pos_len.2 htp
    omega
  have hC := common_c t b h1 h2
  have hK := compare_c (Nat.gcd t b) 1 (by omega)
  rw [lm_1, show [1].map oneN = [[.val (.int .i64 1)]] from rfl] at hK
  have hD1 := divide_c t (Nat.gcd t b) hgp h1 hgl
  have hD2 := divide_c b (Nat.gcd t b) hgp h2 hgl
  unfold numAV topAV
  rw [if_neg htg, show (neg && decide (0 < t)) = neg by simp [htp]]
  generalize hg : Nat.gcd t b = g at *
  by_cases q : g = 1
  · have hk : (cmpN g 1 == 0) = true := by rw [q]; rfl
    subst q
    simp only [Nat.div_one]
    repeat' first | ((with_reducible (first | refine condD ?_ ?_ | refine condE ?_ ?_ | refine condN ?_ ?_ | refine condI ?_ ?_ | refine condS ?_ ?_)) <;> intro h) | ((refine callG hC ?_)) | ((refine callG hK ?_)) | (with_reducible refine And.intro ?_ ?_; omega) | (simp only [Z0,Z1,Z2,Z3,Z4,Z5,Z6,Z7,Z8,Z9,Za,Zb,Zc,Zd,Ze,Zf,List.cons.injEq,Zg,Zh,Zi,Zj,Zk,Zl,Zm,Zn,Zo,Zp,beq_self_eq_true,bne_self_eq_false,decide_true,decide_false,Zq,Zr,Zs,Zt,Zu,Zv,Zw,Zx,Zy,Zz,Y0,Y1,Y2,Y3,Y4,Y5,Y6,x_c,x_o,x_l,x_b,g_b,Y7,Y8,Y9,Ya,Yb,Yc,lk,ef,Yd,Ye,Yf,Yg,Yh,Yi,o_rowr,Yj,Yk,hv,Yl,ev,Ym,Yn,Yo,Yp,Yq,Yr,Ys,Yt,Yu,Yv,Yw,Yx,Yy,Yz,X0,X1,X2,X3,X4,X5,X6,vun,bnd,X7,X8,X9,zav,Xa,Xb,Xc,Xd,Xe,Xf,Value.oneCell',Xg,Xh,Xi,Xj,true_and,and_true,and_self,implies_true,Xk,Xl,Xm,Xn,false_implies,Xo,Xp,Xq,Xr,Xs,Xt,Xu,Xv,Xw,Xx,Xy,Xz,W0,W1,W2,W3,W4,reduceCtorEq,if_true,if_false,W5,↓reduceIte,W6,W7,W8,W9,Wa,Wb,ne_eq,not_false_eq_true,not_true_eq_false,Wc,Wd,r59_0,r59_1,r59_2,r59_3,r59_4,r59_5,r59_6,r59_7,r59_8,p59,e,hk,List.length_map]) | (exfalso; omega)
  · have hk : (cmpN g 1 == 0) = false := by
      rw [beq_eq_false_iff_ne]
      unfold cmpN
      rw [if_neg (by omega), if_pos (by omega)]
      decide
    repeat' first | ((with_reducible (first | refine condD ?_ ?_ | refine condE ?_ ?_ | refine condN ?_ ?_ | refine condI ?_ ?_ | refine condS ?_ ?_)) <;> intro h) | ((refine callG hC ?_)) | ((refine callG hK ?_)) | ((refine callG hD1 ?_)) | ((refine callG hD2 ?_)) | (with_reducible refine And.intro ?_ ?_; omega) | (simp only [Z0,Z1,Z2,Z3,Z4,Z5,Z6,Z7,Z8,Z9,Za,Zb,Zc,Zd,Ze,Zf,List.cons.injEq,Zg,Zh,Zi,Zj,Zk,Zl,Zm,Zn,Zo,Zp,beq_self_eq_true,bne_self_eq_false,decide_true,decide_false,Zq,Zr,Zs,Zt,Zu,Zv,Zw,Zx,Zy,Zz,Y0,Y1,Y2,Y3,Y4,Y5,Y6,x_c,x_o,x_l,x_b,g_b,Y7,Y8,Y9,Ya,Yb,Yc,lk,ef,Yd,Ye,Yf,Yg,Yh,Yi,o_rowr,Yj,Yk,hv,Yl,ev,Ym,Yn,Yo,Yp,Yq,Yr,Ys,Yt,Yu,Yv,Yw,Yx,Yy,Yz,X0,X1,X2,X3,X4,X5,X6,vun,bnd,X7,X8,X9,zav,Xa,Xb,Xc,Xd,Xe,Xf,Value.oneCell',Xg,Xh,Xi,Xj,true_and,and_true,and_self,implies_true,Xk,Xl,Xm,Xn,false_implies,Xo,Xp,Xq,Xr,Xs,Xt,Xu,Xv,Xw,Xx,Xy,Xz,W0,W1,W2,W3,W4,reduceCtorEq,if_true,if_false,W5,↓reduceIte,W6,W7,W8,W9,Wa,Wb,ne_eq,not_false_eq_true,not_true_eq_false,Wc,Wd,r59_0,r59_1,r59_2,r59_3,r59_4,r59_5,r59_6,r59_7,r59_8,p59,e,hk,List.length_map]) | (exfalso; omega)
end Go.Proofs.YtjeemcpdmiajmaaGreatDoor
