/- The library's slices at whole numbers: Equal, IndexFunc, ContainsFunc, by the machine on data; the reference's small tests. -/
import Derived.Test.YtjeemcpdmiajmaaGreatDoorKNat
namespace Go.Proofs.YtjeemcpdmiajmaaGreatDoor
open Go.RowKit
open Go.Proofs.YtjeemcpdmiajmaaGreatDoor renaming done_eq → Z0, done_eq' → Z1, donet_eq → Z2, donet_eq' → Z3, fin_val → Z4, fin_tup → Z5, fin_agg → Z6, fin_ro → Z7, res_one → Z8, res_more → Z9, rv_t → Za, rv_c → Zb, rv_l → Zc, int_eq → Zg, bool_eq → Zh, toNat_pred → Zr, toNat_succ → Zs, cnd_t → Zu, cnd_f → Zv, grd_tt → Zw, grd_u → Zx, grd_tf → Zy, grd_ft → Zz, grd_ff → Y0, g_skip → Y1, g_ops → Y2, g_seq → Y3, g_block → Y4, g_exit → Y5, g_ret → Y6, g_nil → Y7, r_all → Y8, o_nil → Y9, g_cond → Ya, o_guard → Yb, o_mv → Yc, o_bin → Yd, o_load → Ye, o_asg → Yf, eqAV → Yg, view_t → Yh, view_c → Yi, view_nil → Yj, view_fn → Yk, look_own → Yl, look_box → Ym, look_junk → Yn, look_val → Yo, look_nilsl → Yp, look_ro → Yq, look_roAt → Yr, look_agg → Ys, look_tup → Yt, look_clo → Yu, look_alias → Yv, look_ref → Yw, look_into → Yx, rowOf → Yy, cellsOf → Yz, argv → X0, vbin → X1, elemOf → X2, putParts → X3, setAt → X4, put_at → Xb, mk_at → Xc, mk_nil → Xd, initSt → Xe
open Go.Proofs.YtjeemcpdmiajmaaGreatDoor.AV.tup renaming injEq → Zd
open Go.Proofs.YtjeemcpdmiajmaaGreatDoor.AV.agg renaming injEq → Ze
open Go.Proofs.YtjeemcpdmiajmaaGreatDoor.AV.ro renaming injEq → Zf
open _root_.Int renaming toNat_natCast → Zi, reduceToNat → Zj, toNat_zero → Zk, toNat_one → Zl, reduceLE → Zm, reduceLT → Zn, reduceBEq → Zo, reduceBNe → Zp, reduceNeg → Zq
open _root_.List renaming length_map → Zt, map_cons → Xf, map_nil → Xg, forall_mem_cons → Xh, not_mem_nil → Xi, length_cons → Xj, length_nil → Xk, getD_cons_zero → Xl, getD_cons_succ → Xm, getD_nil → Xn, drop_succ_cons → Xo, drop_zero → Xp, take_succ_cons → Xq, take_zero → Xr, set_cons_zero → Xs, set_cons_succ → Xt, all_cons → Xu, all_nil → Xv
open Go.Proofs.YtjeemcpdmiajmaaGreatDoor.ASt renaming rid → X5, free → X6
open Go.Proofs.YtjeemcpdmiajmaaGreatDoor.AV renaming kill → X7, isHome → X8, noLoan → X9, cellOK → Xa
open _root_.Bool renaming and_true → Xw, true_and → Xx, not_true → Xy, not_false → Xz, false_eq_true → W0
open _root_.Nat renaming reduceEqDiff → W1, reduceAdd → W2, reduceSub → W3, reduceMul → W4, reduceLeDiff → W5, reduceLT → W6, one_ne_zero → W7, zero_ne_one → W8
open Go.Proofs.YtjeemcpdmiajmaaGreatDoor.AV.val renaming injEq → W9
set_option linter.unusedSimpArgs false

theorem len_in (l : List Int) : ((l.map oneI).length : Int) = l.length := by simp
/-! slices.Equal[[]int,int] -/
def r8_0 : List POp := [⟨4, .asg (.c (.bool false)), none⟩]
def r8_1 : List POp := [⟨6, .mv (.t 0), none⟩,
  ⟨7, .len (.t 6), none⟩,
  ⟨8, .mv (.t 1), none⟩,
  ⟨9, .len (.t 8), none⟩,
  ⟨10, .bin .neq (.t 7) (.t 9), none⟩]
def r8_2 : List POp := [⟨4, .asg (.c (.bool false)), none⟩]
def r8_3 : List POp := [⟨11, .mv (.t 0), none⟩,
  ⟨12, .len (.t 11), none⟩,
  ⟨13, .mv (.c (.int .i64 0)), none⟩]
def r8_4 : List POp := [⟨14, .bin .lss (.t 13) (.t 12), none⟩]
def r8_5 : List POp := [⟨15, .mv (.t 13), none⟩,
  ⟨5, .asg (.t 15), none⟩]
def r8_6 : List POp := [⟨16, .mv (.t 0), none⟩,
  ⟨17, .mv (.t 5), none⟩,
  ⟨18, .idx 1 (.t 16) (.t 17), none⟩,
  ⟨19, .load (.t 18), none⟩,
  ⟨20, .mv (.t 1), none⟩,
  ⟨21, .mv (.t 5), none⟩,
  ⟨22, .idx 1 (.t 20) (.t 21), none⟩,
  ⟨23, .load (.t 22), none⟩,
  ⟨24, .bin .neq (.t 19) (.t 23), none⟩]
def r8_7 : List POp := [⟨4, .asg (.c (.bool false)), none⟩]
def r8_8 : List POp := [⟨25, .bin .add (.t 13) (.c (.int .i64 1)), none⟩,
  ⟨13, .mv (.t 25), none⟩]
def r8_9 : List POp := [⟨4, .asg (.c (.bool true)), none⟩]
def l8_0 : PCode := .seq (.ops r8_4) (.seq (.cond (.t 14) (.skip) (.exit 0)) (.seq (.block 1 (.seq (.ops r8_5) (.seq (.ops r8_6) (.cond (.t 24) (.seq (.ops r8_7) (.ret)) (.skip))))) (.ops r8_8)))
def p8 : PCode := .seq (.ops r8_0) (.seq (.seq (.ops r8_1) (.cond (.t 10) (.seq (.ops r8_2) (.ret)) (.skip))) (.seq (.seq (.ops r8_3) (.block 0 (.loop l8_0))) (.seq (.ops r8_9) (.ret))))
theorem ok8 : okFunc Tryz.prog 8 [.t 4] 2 p8 = true := by kernel_rfl
theorem eqi_c (l : List Int) (hl : l.length ≤ 1000000000) : CallOK Tryz.prog 8 [.ro (l.map oneI), .ro (l.map oneI)] (.val (.bool true)) := by
  refine call_of mixed ok8 rfl ?_
  repeat' first | ((with_reducible (first | refine condD ?_ ?_ | refine condE ?_ ?_ | refine condN ?_ ?_ | refine condI ?_ ?_ | refine condS ?_ ?_)) <;> intro h) | (with_reducible refine And.intro ?_ ?_; omega) | (simp only [Z0,Z1,Z2,Z3,Z4,Z5,Z6,Z7,Z8,Z9,Za,Zb,Zc,Zd,Ze,Zf,List.cons.injEq,Zg,Zh,Zi,Zj,Zk,Zl,Zm,Zn,Zo,Zp,beq_self_eq_true,bne_self_eq_false,decide_true,decide_false,Zq,Zr,Zs,Zt,Zu,Zv,Zw,Zx,Zy,Zz,Y0,Y1,Y2,Y3,Y4,Y5,Y6,x_c,x_o,x_l,x_b,g_b,Y7,Y8,Y9,Ya,Yb,lk,ef,Yc,Yd,Ye,o_idx,o_len,Yf,hv,Yg,ev,Yh,Yi,Yj,Yk,Yl,Ym,Yn,Yo,Yp,Yq,Yr,Ys,Yt,Yu,Yv,Yw,Yx,Yy,Yz,X0,X1,vun,bnd,X2,X3,X4,zav,X5,X6,X7,X8,X9,Xa,Value.oneCell',Xb,Xc,Xd,Xe,true_and,and_true,and_self,implies_true,Xf,Xg,Xh,Xi,false_implies,Xj,Xk,Xl,Xm,Xn,Xo,Xp,Xq,Xr,Xs,Xt,Xu,Xv,Xw,Xx,Xy,Xz,reduceCtorEq,if_true,if_false,W0,↓reduceIte,W1,W2,W3,W4,W5,W6,ne_eq,not_false_eq_true,not_true_eq_false,W7,W8,r8_0,r8_1,r8_2,r8_3,r8_4,r8_5,r8_6,r8_7,r8_8,r8_9,p8]) | (exfalso; omega)
  refine loopS (fun k : Nat => mk [(0, .ro (l.map oneI)), (1, .ro (l.map oneI)), (12, .val (.int .i64 l.length)), (13, .val (.int .i64 k))]) (fun k => k ≤ l.length) (fun k => l.length - k) 0 (weak_mk ?_) (Nat.zero_le _) ?_
  · simp only [wk_cons,wk_nil,wk1,vint_eq,vbool_eq,W9,Z4,Z5,Z6,Z7,Z8,Z9,Za,Zb,Zc,Zd,Ze,Zf,List.cons.injEq,Zg,Zh,Zi,Zj,Zk,Zl,Zm,Zn,Zo,Zp,beq_self_eq_true,bne_self_eq_false,decide_true,decide_false,Zq,Zr,Zs,Zt,Zu,Zv,Zw,Zx,Zy,Zz,Y0,hv,Yg,ev,Yh,Yi,Yj,Yk,Yl,Ym,Yn,Yo,Yp,Yq,Yr,Ys,Yt,Yu,Yv,Yw,Yx,Yy,Yz,X0,X1,vun,bnd,X2,X3,X4,zav,X5,X6,X7,X8,X9,Xa,Value.oneCell',Xb,Xc,Xd,Xe,true_and,and_true,and_self,implies_true,Xf,Xg,Xh,Xi,false_implies,Xj,Xk,Xl,Xm,Xn,Xo,Xp,Xq,Xr,Xs,Xt,Xu,Xv,Xw,Xx,Xy,Xz,reduceCtorEq,if_true,if_false,W0,↓reduceIte,W1,W2,W3,W4,W5,W6,ne_eq,not_false_eq_true,not_true_eq_false,W7,Nat.zero_ne_one]
    simp
  · rintro J hJ k hk
    simp only [Z0,Z1,Z2,Z3,Z4,Z5,Z6,Z7,Z8,Z9,Za,Zb,Zc,Zd,Ze,Zf,List.cons.injEq,Zg,Zh,Zi,Zj,Zk,Zl,Zm,Zn,Zo,Zp,beq_self_eq_true,bne_self_eq_false,decide_true,decide_false,Zq,Zr,Zs,Zt,Zu,Zv,Zw,Zx,Zy,Zz,Y0,Y1,Y2,Y3,Y4,Y5,Y6,x_c,x_o,x_l,x_b,g_b,Y7,Y8,Y9,Ya,Yb,lk,ef,Yc,Yd,Ye,o_idx,o_len,Yf,hv,Yg,ev,Yh,Yi,Yj,Yk,Yl,Ym,Yn,Yo,Yp,Yq,Yr,Ys,Yt,Yu,Yv,Yw,Yx,Yy,Yz,X0,X1,vun,bnd,X2,X3,X4,zav,X5,X6,X7,X8,X9,Xa,Value.oneCell',Xb,Xc,Xd,Xe,true_and,and_true,and_self,implies_true,Xf,Xg,Xh,Xi,false_implies,Xj,Xk,Xl,Xm,Xn,Xo,Xp,Xq,Xr,Xs,Xt,Xu,Xv,Xw,Xx,Xy,Xz,reduceCtorEq,if_true,if_false,W0,↓reduceIte,W1,W2,W3,W4,W5,W6,ne_eq,not_false_eq_true,not_true_eq_false,W7,W8,r8_0,r8_1,r8_2,r8_3,r8_4,r8_5,r8_6,r8_7,r8_8,r8_9,p8,l8_0]
    refine condD (fun h => ?_) (fun h => ?_)
    · have hlt : k < l.length := by omega
      have hw := i_add1 k (by omega)
      repeat' first | ((with_reducible (first | refine condD ?_ ?_ | refine condE ?_ ?_ | refine condN ?_ ?_ | refine condI ?_ ?_ | refine condS ?_ ?_)) <;> intro h) | (with_reducible refine And.intro ?_ ?_; omega) | (simp only [Z0,Z1,Z2,Z3,Z4,Z5,Z6,Z7,Z8,Z9,Za,Zb,Zc,Zd,Ze,Zf,List.cons.injEq,Zg,Zh,Zi,Zj,Zk,Zl,Zm,Zn,Zo,Zp,beq_self_eq_true,bne_self_eq_false,decide_true,decide_false,Zq,Zr,Zs,Zt,Zu,Zv,Zw,Zx,Zy,Zz,Y0,Y1,Y2,Y3,Y4,Y5,Y6,x_c,x_o,x_l,x_b,g_b,Y7,Y8,Y9,Ya,Yb,lk,ef,Yc,Yd,Ye,o_idx,o_len,Yf,hv,Yg,ev,Yh,Yi,Yj,Yk,Yl,Ym,Yn,Yo,Yp,Yq,Yr,Ys,Yt,Yu,Yv,Yw,Yx,Yy,Yz,X0,X1,vun,bnd,X2,X3,X4,zav,X5,X6,X7,X8,X9,Xa,Value.oneCell',Xb,Xc,Xd,Xe,true_and,and_true,and_self,implies_true,Xf,Xg,Xh,Xi,false_implies,Xj,Xk,Xl,Xm,Xn,Xo,Xp,Xq,Xr,Xs,Xt,Xu,Xv,Xw,Xx,Xy,Xz,reduceCtorEq,if_true,if_false,W0,↓reduceIte,W1,W2,W3,W4,W5,W6,ne_eq,not_false_eq_true,not_true_eq_false,W7,W8,r8_0,r8_1,r8_2,r8_3,r8_4,r8_5,r8_6,r8_7,r8_8,r8_9,p8,l8_0,oneI,getD_map hlt]) | (exfalso; omega)
      exact again hJ (k + 1) (weak_mk (by simp only [wk_cons,wk_nil,wk1,vint_eq,vbool_eq,W9,Z4,Z5,Z6,Z7,Z8,Z9,Za,Zb,Zc,Zd,Ze,Zf,List.cons.injEq,Zg,Zh,Zi,Zj,Zk,Zl,Zm,Zn,Zo,Zp,beq_self_eq_true,bne_self_eq_false,decide_true,decide_false,Zq,Zr,Zs,Zt,Zu,Zv,Zw,Zx,Zy,Zz,Y0,hv,Yg,ev,Yh,Yi,Yj,Yk,Yl,Ym,Yn,Yo,Yp,Yq,Yr,Ys,Yt,Yu,Yv,Yw,Yx,Yy,Yz,X0,X1,vun,bnd,X2,X3,X4,zav,X5,X6,X7,X8,X9,Xa,Value.oneCell',Xb,Xc,Xd,Xe,true_and,and_true,and_self,implies_true,Xf,Xg,Xh,Xi,false_implies,Xj,Xk,Xl,Xm,Xn,Xo,Xp,Xq,Xr,Xs,Xt,Xu,Xv,Xw,Xx,Xy,Xz,reduceCtorEq,if_true,if_false,W0,↓reduceIte,W1,W2,W3,W4,W5,W6,ne_eq,not_false_eq_true,not_true_eq_false,W7,Nat.zero_ne_one]; exact hw)) (by omega) (by omega)
    · repeat' first | ((with_reducible (first | refine condD ?_ ?_ | refine condE ?_ ?_ | refine condN ?_ ?_ | refine condI ?_ ?_ | refine condS ?_ ?_)) <;> intro h) | (with_reducible refine And.intro ?_ ?_; omega) | (simp only [Z0,Z1,Z2,Z3,Z4,Z5,Z6,Z7,Z8,Z9,Za,Zb,Zc,Zd,Ze,Zf,List.cons.injEq,Zg,Zh,Zi,Zj,Zk,Zl,Zm,Zn,Zo,Zp,beq_self_eq_true,bne_self_eq_false,decide_true,decide_false,Zq,Zr,Zs,Zt,Zu,Zv,Zw,Zx,Zy,Zz,Y0,Y1,Y2,Y3,Y4,Y5,Y6,x_c,x_o,x_l,x_b,g_b,Y7,Y8,Y9,Ya,Yb,lk,ef,Yc,Yd,Ye,o_idx,o_len,Yf,hv,Yg,ev,Yh,Yi,Yj,Yk,Yl,Ym,Yn,Yo,Yp,Yq,Yr,Ys,Yt,Yu,Yv,Yw,Yx,Yy,Yz,X0,X1,vun,bnd,X2,X3,X4,zav,X5,X6,X7,X8,X9,Xa,Value.oneCell',Xb,Xc,Xd,Xe,true_and,and_true,and_self,implies_true,Xf,Xg,Xh,Xi,false_implies,Xj,Xk,Xl,Xm,Xn,Xo,Xp,Xq,Xr,Xs,Xt,Xu,Xv,Xw,Xx,Xy,Xz,reduceCtorEq,if_true,if_false,W0,↓reduceIte,W1,W2,W3,W4,W5,W6,ne_eq,not_false_eq_true,not_true_eq_false,W7,W8,r8_0,r8_1,r8_2,r8_3,r8_4,r8_5,r8_6,r8_7,r8_8,r8_9,p8,l8_0]) | (exfalso; omega)
/-! headend/headendref1.IsTime -/
def r43_0 : List POp := [⟨2, .asg (.c (.bool false)), none⟩]
def r43_1 : List POp := [⟨3, .mv (.t 0), none⟩,
  ⟨4, .bin .geq (.t 3) (.c (.int .i64 (-1000000000000000))), none⟩,
  ⟨5, .mv (.t 4), none⟩,
  ⟨6, .mv (.t 0), some (5, true)⟩,
  ⟨7, .bin .leq (.t 6) (.c (.int .i64 1000000000000000)), some (5, true)⟩,
  ⟨8, .pick (.t 5) (.t 7) (.c (.bool false)), none⟩,
  ⟨2, .asg (.t 8), none⟩]
def p43 : PCode := .seq (.ops r43_0) (.seq (.ops r43_1) (.ret))
theorem ok43 : okFunc Tryz.prog 43 [.t 2] 1 p43 = true := by kernel_rfl
theorem istime_c (n : Int) : CallOK Tryz.prog 43 [.val (.int .i64 n)] (.val (.bool (!noTime n))) := by
  refine call_of mixed ok43 rfl ?_
  repeat' first | ((with_reducible (first | refine condD ?_ ?_ | refine condE ?_ ?_ | refine condN ?_ ?_ | refine condI ?_ ?_ | refine condS ?_ ?_)) <;> intro h) | ((with_reducible (first | refine guardD (by with_unfolding_all rfl) ?_ ?_ | refine guardE (by with_unfolding_all rfl) ?_ ?_ | refine guardN (by with_unfolding_all rfl) ?_ ?_ | refine guardI (by with_unfolding_all rfl) ?_ ?_ | refine guardS (by with_unfolding_all rfl) ?_ ?_)) <;> intro h) | (with_reducible refine And.intro ?_ ?_; omega) | (simp only [Z0,Z1,Z2,Z3,Z4,Z5,Z6,Z7,Z8,Z9,Za,Zb,Zc,Zd,Ze,Zf,List.cons.injEq,Zg,Zh,Zi,Zj,Zk,Zl,Zm,Zn,Zo,Zp,beq_self_eq_true,bne_self_eq_false,decide_true,decide_false,Zq,Zr,Zs,Zt,Zu,Zv,Zw,Zx,Zy,Zz,Y0,Y1,Y2,Y3,Y4,Y5,Y6,x_c,x_o,x_l,x_b,g_b,Y7,Y8,Y9,Ya,Yb,lk,ef,Yc,o_pick,Yd,Yf,hv,Yg,ev,Yh,Yi,Yj,Yk,Yl,Ym,Yn,Yo,Yp,Yq,Yr,Ys,Yt,Yu,Yv,Yw,Yx,Yy,Yz,X0,X1,vun,bnd,X2,X3,X4,zav,X5,X6,X7,X8,X9,Xa,Value.oneCell',Xb,Xc,Xd,Xe,true_and,and_true,and_self,implies_true,Xf,Xg,Xh,Xi,false_implies,Xj,Xk,Xl,Xm,Xn,Xo,Xp,Xq,Xr,Xs,Xt,Xu,Xv,Xw,Xx,Xy,Xz,reduceCtorEq,if_true,if_false,W0,↓reduceIte,W1,W2,W3,W4,W5,W6,ne_eq,not_false_eq_true,not_true_eq_false,W7,W8,r43_0,r43_1,p43]) | (exfalso; omega)
  all_goals
    cases hh : noTime n
    · have := outB_f hh
      first | (simp; done) | (simp; omega) | (exfalso; omega)
    · have := outB_t hh
      first | (simp; done) | (simp; omega) | (exfalso; omega)
/-! headend/headendref1.IsScale -/
def r28_0 : List POp := [⟨2, .asg (.c (.bool false)), none⟩]
def r28_1 : List POp := [⟨3, .mv (.t 0), none⟩,
  ⟨4, .bin .geq (.t 3) (.c (.int .i64 1)), none⟩,
  ⟨5, .mv (.t 4), none⟩,
  ⟨6, .mv (.t 0), some (5, true)⟩,
  ⟨7, .bin .leq (.t 6) (.c (.int .i64 1000000000)), some (5, true)⟩,
  ⟨8, .pick (.t 5) (.t 7) (.c (.bool false)), none⟩,
  ⟨2, .asg (.t 8), none⟩]
def p28 : PCode := .seq (.ops r28_0) (.seq (.ops r28_1) (.ret))
theorem ok28 : okFunc Tryz.prog 28 [.t 2] 1 p28 = true := by kernel_rfl
theorem isscale_c (n : Int) : CallOK Tryz.prog 28 [.val (.int .i64 n)] (.val (.bool (!noScale n))) := by
  refine call_of mixed ok28 rfl ?_
  repeat' first | ((with_reducible (first | refine condD ?_ ?_ | refine condE ?_ ?_ | refine condN ?_ ?_ | refine condI ?_ ?_ | refine condS ?_ ?_)) <;> intro h) | ((with_reducible (first | refine guardD (by with_unfolding_all rfl) ?_ ?_ | refine guardE (by with_unfolding_all rfl) ?_ ?_ | refine guardN (by with_unfolding_all rfl) ?_ ?_ | refine guardI (by with_unfolding_all rfl) ?_ ?_ | refine guardS (by with_unfolding_all rfl) ?_ ?_)) <;> intro h) | (with_reducible refine And.intro ?_ ?_; omega) | (simp only [Z0,Z1,Z2,Z3,Z4,Z5,Z6,Z7,Z8,Z9,Za,Zb,Zc,Zd,Ze,Zf,List.cons.injEq,Zg,Zh,Zi,Zj,Zk,Zl,Zm,Zn,Zo,Zp,beq_self_eq_true,bne_self_eq_false,decide_true,decide_false,Zq,Zr,Zs,Zt,Zu,Zv,Zw,Zx,Zy,Zz,Y0,Y1,Y2,Y3,Y4,Y5,Y6,x_c,x_o,x_l,x_b,g_b,Y7,Y8,Y9,Ya,Yb,lk,ef,Yc,o_pick,Yd,Yf,hv,Yg,ev,Yh,Yi,Yj,Yk,Yl,Ym,Yn,Yo,Yp,Yq,Yr,Ys,Yt,Yu,Yv,Yw,Yx,Yy,Yz,X0,X1,vun,bnd,X2,X3,X4,zav,X5,X6,X7,X8,X9,Xa,Value.oneCell',Xb,Xc,Xd,Xe,true_and,and_true,and_self,implies_true,Xf,Xg,Xh,Xi,false_implies,Xj,Xk,Xl,Xm,Xn,Xo,Xp,Xq,Xr,Xs,Xt,Xu,Xv,Xw,Xx,Xy,Xz,reduceCtorEq,if_true,if_false,W0,↓reduceIte,W1,W2,W3,W4,W5,W6,ne_eq,not_false_eq_true,not_true_eq_false,W7,W8,r28_0,r28_1,p28]) | (exfalso; omega)
  all_goals
    cases hh : noScale n
    · have := outB_f hh
      first | (simp; done) | (simp; omega) | (exfalso; omega)
    · have := outB_t hh
      first | (simp; done) | (simp; omega) | (exfalso; omega)
end Go.Proofs.YtjeemcpdmiajmaaGreatDoor
