/- The library's slices at whole numbers: Equal, IndexFunc, ContainsFunc, by the machine on data; the reference's small tests. -/
import Derived.Test.YtpecmhdepggnoaaKNat
import Derived.Test.YtpecmhdepggnoaaKMoved
namespace Go.Proofs.Ytpecmhdepggnoaa
open Go.RowKit
set_option linter.unusedSimpArgs false

theorem len_in (l : List Int) : ((l.map oneI).length : Int) = l.length := by simp
end Go.Proofs.Ytpecmhdepggnoaa
/- The reference's samples: CheckSamples, present, moved, right, Tight, by the machine on data. -/
namespace Go.Proofs.Ytpecmhdepggnoaa
open Go.RowKit
open Go.Proofs.Ytpecmhdepggnoaa renaming done_eq → Z0, done_eq' → Z1, donet_eq → Z2, donet_eq' → Z3, fin_val → Z4, fin_tup → Z5, fin_agg → Z6, fin_ro → Z7, res_one → Z8, res_more → Z9, rv_t → Za, rv_c → Zb, rv_l → Zc, int_eq → Zg, bool_eq → Zh, toNat_pred → Zr, toNat_succ → Zs, cnd_t → Zu, cnd_f → Zv, grd_tt → Zw, grd_u → Zx, grd_tf → Zy, grd_ft → Zz, grd_ff → Y0, g_skip → Y1, g_ops → Y2, g_seq → Y3, g_block → Y4, g_exit → Y5, g_ret → Y6, g_nil → Y7, r_all → Y8, o_nil → Y9, g_cond → Ya, o_guard → Yb, o_call → Yc, o_callm → Yd, o_callt → Ye, o_callx → Yf, o_callv → Yg, o_mv → Yh, o_pick → Yi, o_bin → Yj, o_never → Yk, o_eqs → Yl, o_eqb → Ym, o_un → Yn, o_conv → Yo, o_load → Yp, o_loadr → Yq, o_idxr → Yr, o_loads → Ys, o_fld → Yt, o_idx → Yu, o_idxs → Yv, o_len → Yw, o_lens → Yx, o_ext → Yy, o_nilck → Yz, o_slc → X0, o_slcs → X1, o_build → X2, o_minmax → X3, o_mkfn → X4, o_alloc → X5, o_box → X6, o_boxs → X7, o_row → X8, o_rowr → X9, o_mk → Xa, o_asg → Xb, o_app → Xc, o_store → Xd, o_stores → Xe, o_eqnil → Xf, eqAV → Xg, view_t → Xh, view_c → Xi, view_nil → Xj, view_fn → Xk, look_own → Xl, look_box → Xm, look_junk → Xn, look_val → Xo, look_nilsl → Xp, look_ro → Xq, look_roAt → Xr, look_agg → Xs, look_tup → Xt, look_clo → Xu, look_alias → Xv, look_ref → Xw, look_into → Xx, rowOf → Xy, cellsOf → Xz, argv → W0, vbin → W1, elemOf → W2, putParts → W3, setAt → W4, put_at → Wb, mk_at → Wc, mk_nil → Wd, initSt → We
open Go.Proofs.Ytpecmhdepggnoaa.AV.tup renaming injEq → Zd
open Go.Proofs.Ytpecmhdepggnoaa.AV.agg renaming injEq → Ze
open Go.Proofs.Ytpecmhdepggnoaa.AV.ro renaming injEq → Zf
open _root_.Int renaming toNat_natCast → Zi, reduceToNat → Zj, toNat_zero → Zk, toNat_one → Zl, reduceLE → Zm, reduceLT → Zn, reduceBEq → Zo, reduceBNe → Zp, reduceNeg → Zq
open _root_.List renaming length_map → Zt, map_cons → Wf, map_nil → Wg, forall_mem_cons → Wh, not_mem_nil → Wi, length_cons → Wj, length_nil → Wk, getD_cons_zero → Wl, getD_cons_succ → Wm, getD_nil → Wn, drop_succ_cons → Wo, drop_zero → Wp, take_succ_cons → Wq, take_zero → Wr, set_cons_zero → Ws, set_cons_succ → Wt, all_cons → Wu, all_nil → Wv
open Go.Proofs.Ytpecmhdepggnoaa.ASt renaming rid → W5, free → W6
open Go.Proofs.Ytpecmhdepggnoaa.AV renaming kill → W7, isHome → W8, noLoan → W9, cellOK → Wa
open _root_.Bool renaming and_true → Ww, true_and → Wx, not_true → Wy, not_false → Wz, false_eq_true → V0
open _root_.Nat renaming reduceEqDiff → V1, reduceAdd → V2, reduceSub → V3, reduceMul → V4, reduceLeDiff → V5, reduceLT → V6, one_ne_zero → V7, zero_ne_one → V8
open Go.Proofs.Ytpecmhdepggnoaa.AV.val renaming injEq → V9
set_option linter.unusedSimpArgs false
--@short

/-! slices.Equal[[]headend/api.Sample,headend/api.Sample] -/
def r25_0 : List POp := [⟨4, .asg (.c (.bool false)), none⟩]
def r25_1 : List POp := [⟨6, .mv (.t 0), none⟩,
  ⟨7, .len (.t 6), none⟩,
  ⟨8, .mv (.t 1), none⟩,
  ⟨9, .len (.t 8), none⟩,
  ⟨10, .bin .neq (.t 7) (.t 9), none⟩]
def r25_2 : List POp := [⟨4, .asg (.c (.bool false)), none⟩]
def r25_3 : List POp := [⟨11, .mv (.t 0), none⟩,
  ⟨12, .len (.t 11), none⟩,
  ⟨13, .mv (.c (.int .i64 0)), none⟩]
def r25_4 : List POp := [⟨14, .bin .lss (.t 13) (.t 12), none⟩]
def r25_5 : List POp := [⟨15, .mv (.t 13), none⟩,
  ⟨5, .asg (.t 15), none⟩]
def r25_6 : List POp := [⟨16, .mv (.t 0), none⟩,
  ⟨17, .mv (.t 5), none⟩,
  ⟨18, .idx 5 (.t 16) (.t 17), none⟩,
  ⟨19, .loads 5 (.t 18), none⟩,
  ⟨20, .mv (.t 1), none⟩,
  ⟨21, .mv (.t 5), none⟩,
  ⟨22, .idx 5 (.t 20) (.t 21), none⟩,
  ⟨23, .loads 5 (.t 22), none⟩,
  ⟨24, .eqs true [0, 0, 0, 0, 1] (.t 19) (.t 23), none⟩]
def r25_7 : List POp := [⟨4, .asg (.c (.bool false)), none⟩]
def r25_8 : List POp := [⟨25, .bin .add (.t 13) (.c (.int .i64 1)), none⟩,
  ⟨13, .mv (.t 25), none⟩]
def r25_9 : List POp := [⟨4, .asg (.c (.bool true)), none⟩]
def l25_0 : PCode := .seq (.ops r25_4) (.seq (.cond (.t 14) (.skip) (.exit 0)) (.seq (.block 1 (.seq (.ops r25_5) (.seq (.ops r25_6) (.cond (.t 24) (.seq (.ops r25_7) (.ret)) (.skip))))) (.ops r25_8)))
def p25 : PCode := .seq (.ops r25_0) (.seq (.seq (.ops r25_1) (.cond (.t 10) (.seq (.ops r25_2) (.ret)) (.skip))) (.seq (.seq (.ops r25_3) (.block 0 (.loop l25_0))) (.seq (.ops r25_9) (.ret))))
theorem ok25 : okFunc Try.prog 25 [.t 4] 2 p25 = true := by kernel_rfl
theorem eqs_c (l : List Smp) (hl : l.length ≤ 1000000000) : CallOK Try.prog 25 [.ro (l.map Smp.av), .ro (l.map Smp.av)] (.val (.bool true)) := by
  refine call_of mixed ok25 rfl ?_
  repeat' first | ((with_reducible (first | refine condD ?_ ?_ | refine condE ?_ ?_ | refine condN ?_ ?_ | refine condI ?_ ?_ | refine condS ?_ ?_)) <;> intro h) | ((with_reducible (first | refine guardD (by with_unfolding_all rfl) ?_ ?_ | refine guardE (by with_unfolding_all rfl) ?_ ?_ | refine guardN (by with_unfolding_all rfl) ?_ ?_ | refine guardI (by with_unfolding_all rfl) ?_ ?_ | refine guardS (by with_unfolding_all rfl) ?_ ?_)) <;> intro h) | (with_reducible refine And.intro ?_ ?_; omega) | (simp only [Z0,Z1,Z2,Z3,Z4,Z5,Z6,Z7,Z8,Z9,Za,Zb,Zc,Zd,Ze,Zf,List.cons.injEq,Zg,Zh,Zi,Zj,Zk,Zl,Zm,Zn,Zo,Zp,beq_self_eq_true,bne_self_eq_false,decide_true,decide_false,Zq,Zr,Zs,Zt,Zu,Zv,Zw,Zx,Zy,Zz,Y0,Y1,Y2,Y3,Y4,Y5,Y6,x_c,x_o,x_l,x_b,g_b,Y7,Y8,Y9,Ya,Yb,Yc,Yd,Ye,Yf,Yg,lk,ef,Yh,Yi,Yj,Yk,Yl,Ym,Yn,Yo,Yp,Yq,Yr,Ys,Yt,Yu,Yv,Yw,Yx,Yy,Yz,X0,X1,X2,X3,X4,X5,X6,X7,X8,X9,Xa,Xb,Xc,Xd,Xe,Xf,hv,Xg,ev,Xh,Xi,Xj,Xk,Xl,Xm,Xn,Xo,Xp,Xq,Xr,Xs,Xt,Xu,Xv,Xw,Xx,Xy,Xz,W0,W1,vun,bnd,W2,W3,W4,zav,W5,W6,W7,W8,W9,Wa,Value.oneCell',Wb,Wc,Wd,We,true_and,and_true,and_self,implies_true,Wf,Wg,Wh,Wi,false_implies,Wj,Wk,Wl,Wm,Wn,Wo,Wp,Wq,Wr,Ws,Wt,Wu,Wv,Ww,Wx,Wy,Wz,reduceCtorEq,if_true,if_false,V0,↓reduceIte,V1,V2,V3,V4,V5,V6,ne_eq,not_false_eq_true,not_true_eq_false,V7,V8,r25_0,r25_1,r25_2,r25_3,r25_4,r25_5,r25_6,r25_7,r25_8,r25_9,p25]) | (exfalso; omega)
  refine loopS (fun k : Nat => mk [(0, .ro (l.map Smp.av)), (1, .ro (l.map Smp.av)), (12, .val (.int .i64 l.length)), (13, .val (.int .i64 k))]) (fun k => k ≤ l.length) (fun k => l.length - k) 0 (weak_mk ?_) (Nat.zero_le _) ?_
  · simp only [wk_cons,wk_nil,wk1,vint_eq,vbool_eq,V9,Z0,Z1,Z2,Z3,Z4,Z5,Z6,Z7,Z8,Z9,Za,Zb,Zc,Zd,Ze,Zf,List.cons.injEq,Zg,Zh,Zi,Zj,Zk,Zl,Zm,Zn,Zo,Zp,beq_self_eq_true,bne_self_eq_false,decide_true,decide_false,Zq,Zr,Zs,Zt,Zu,Zv,Zw,Zx,Zy,Zz,Y0,Y1,Y2,Y3,Y4,Y5,Y6,x_c,x_o,x_l,x_b,g_b,Y7,Y8,Y9,Ya,Yb,Yc,Yd,Ye,Yf,Yg,lk,ef,Yh,Yi,Yj,Yk,Yl,Ym,Yn,Yo,Yp,Yq,Yr,Ys,Yt,Yu,Yv,Yw,Yx,Yy,Yz,X0,X1,X2,X3,X4,X5,X6,X7,X8,X9,Xa,Xb,Xc,Xd,Xe,Xf,hv,Xg,ev,Xh,Xi,Xj,Xk,Xl,Xm,Xn,Xo,Xp,Xq,Xr,Xs,Xt,Xu,Xv,Xw,Xx,Xy,Xz,W0,W1,vun,bnd,W2,W3,W4,zav,W5,W6,W7,W8,W9,Wa,Value.oneCell',Wb,Wc,Wd,We,true_and,and_true,and_self,implies_true,Wf,Wg,Wh,Wi,false_implies,Wj,Wk,Wl,Wm,Wn,Wo,Wp,Wq,Wr,Ws,Wt,Wu,Wv,Ww,Wx,Wy,Wz,reduceCtorEq,if_true,if_false,V0,↓reduceIte,V1,V2,V3,V4,V5,V6,ne_eq,not_false_eq_true,not_true_eq_false,V7,Nat.zero_ne_one]
    simp
  · rintro J hJ k hk
    simp only [Z0,Z1,Z2,Z3,Z4,Z5,Z6,Z7,Z8,Z9,Za,Zb,Zc,Zd,Ze,Zf,List.cons.injEq,Zg,Zh,Zi,Zj,Zk,Zl,Zm,Zn,Zo,Zp,beq_self_eq_true,bne_self_eq_false,decide_true,decide_false,Zq,Zr,Zs,Zt,Zu,Zv,Zw,Zx,Zy,Zz,Y0,Y1,Y2,Y3,Y4,Y5,Y6,x_c,x_o,x_l,x_b,g_b,Y7,Y8,Y9,Ya,Yb,Yc,Yd,Ye,Yf,Yg,lk,ef,Yh,Yi,Yj,Yk,Yl,Ym,Yn,Yo,Yp,Yq,Yr,Ys,Yt,Yu,Yv,Yw,Yx,Yy,Yz,X0,X1,X2,X3,X4,X5,X6,X7,X8,X9,Xa,Xb,Xc,Xd,Xe,Xf,hv,Xg,ev,Xh,Xi,Xj,Xk,Xl,Xm,Xn,Xo,Xp,Xq,Xr,Xs,Xt,Xu,Xv,Xw,Xx,Xy,Xz,W0,W1,vun,bnd,W2,W3,W4,zav,W5,W6,W7,W8,W9,Wa,Value.oneCell',Wb,Wc,Wd,We,true_and,and_true,and_self,implies_true,Wf,Wg,Wh,Wi,false_implies,Wj,Wk,Wl,Wm,Wn,Wo,Wp,Wq,Wr,Ws,Wt,Wu,Wv,Ww,Wx,Wy,Wz,reduceCtorEq,if_true,if_false,V0,↓reduceIte,V1,V2,V3,V4,V5,V6,ne_eq,not_false_eq_true,not_true_eq_false,V7,V8,r25_0,r25_1,r25_2,r25_3,r25_4,r25_5,r25_6,r25_7,r25_8,r25_9,p25,l25_0]
    refine condD (fun h => ?_) (fun h => ?_)
    · have hlt : k < l.length := by omega
      have hw := i_add1 k (by omega)
      repeat' first | ((with_reducible (first | refine condD ?_ ?_ | refine condE ?_ ?_ | refine condN ?_ ?_ | refine condI ?_ ?_ | refine condS ?_ ?_)) <;> intro h) | ((with_reducible (first | refine guardD (by with_unfolding_all rfl) ?_ ?_ | refine guardE (by with_unfolding_all rfl) ?_ ?_ | refine guardN (by with_unfolding_all rfl) ?_ ?_ | refine guardI (by with_unfolding_all rfl) ?_ ?_ | refine guardS (by with_unfolding_all rfl) ?_ ?_)) <;> intro h) | (with_reducible refine And.intro ?_ ?_; omega) | (simp only [Z0,Z1,Z2,Z3,Z4,Z5,Z6,Z7,Z8,Z9,Za,Zb,Zc,Zd,Ze,Zf,List.cons.injEq,Zg,Zh,Zi,Zj,Zk,Zl,Zm,Zn,Zo,Zp,beq_self_eq_true,bne_self_eq_false,decide_true,decide_false,Zq,Zr,Zs,Zt,Zu,Zv,Zw,Zx,Zy,Zz,Y0,Y1,Y2,Y3,Y4,Y5,Y6,x_c,x_o,x_l,x_b,g_b,Y7,Y8,Y9,Ya,Yb,Yc,Yd,Ye,Yf,Yg,lk,ef,Yh,Yi,Yj,Yk,Yl,Ym,Yn,Yo,Yp,Yq,Yr,Ys,Yt,Yu,Yv,Yw,Yx,Yy,Yz,X0,X1,X2,X3,X4,X5,X6,X7,X8,X9,Xa,Xb,Xc,Xd,Xe,Xf,hv,Xg,ev,Xh,Xi,Xj,Xk,Xl,Xm,Xn,Xo,Xp,Xq,Xr,Xs,Xt,Xu,Xv,Xw,Xx,Xy,Xz,W0,W1,vun,bnd,W2,W3,W4,zav,W5,W6,W7,W8,W9,Wa,Value.oneCell',Wb,Wc,Wd,We,true_and,and_true,and_self,implies_true,Wf,Wg,Wh,Wi,false_implies,Wj,Wk,Wl,Wm,Wn,Wo,Wp,Wq,Wr,Ws,Wt,Wu,Wv,Ww,Wx,Wy,Wz,reduceCtorEq,if_true,if_false,V0,↓reduceIte,V1,V2,V3,V4,V5,V6,ne_eq,not_false_eq_true,not_true_eq_false,V7,V8,r25_0,r25_1,r25_2,r25_3,r25_4,r25_5,r25_6,r25_7,r25_8,r25_9,p25,l25_0,Smp.av,getD_map hlt]) | (exfalso; omega)
      exact again hJ (k + 1) (weak_mk (by simp only [wk_cons,wk_nil,wk1,vint_eq,vbool_eq,V9,Z0,Z1,Z2,Z3,Z4,Z5,Z6,Z7,Z8,Z9,Za,Zb,Zc,Zd,Ze,Zf,List.cons.injEq,Zg,Zh,Zi,Zj,Zk,Zl,Zm,Zn,Zo,Zp,beq_self_eq_true,bne_self_eq_false,decide_true,decide_false,Zq,Zr,Zs,Zt,Zu,Zv,Zw,Zx,Zy,Zz,Y0,Y1,Y2,Y3,Y4,Y5,Y6,x_c,x_o,x_l,x_b,g_b,Y7,Y8,Y9,Ya,Yb,Yc,Yd,Ye,Yf,Yg,lk,ef,Yh,Yi,Yj,Yk,Yl,Ym,Yn,Yo,Yp,Yq,Yr,Ys,Yt,Yu,Yv,Yw,Yx,Yy,Yz,X0,X1,X2,X3,X4,X5,X6,X7,X8,X9,Xa,Xb,Xc,Xd,Xe,Xf,hv,Xg,ev,Xh,Xi,Xj,Xk,Xl,Xm,Xn,Xo,Xp,Xq,Xr,Xs,Xt,Xu,Xv,Xw,Xx,Xy,Xz,W0,W1,vun,bnd,W2,W3,W4,zav,W5,W6,W7,W8,W9,Wa,Value.oneCell',Wb,Wc,Wd,We,true_and,and_true,and_self,implies_true,Wf,Wg,Wh,Wi,false_implies,Wj,Wk,Wl,Wm,Wn,Wo,Wp,Wq,Wr,Ws,Wt,Wu,Wv,Ww,Wx,Wy,Wz,reduceCtorEq,if_true,if_false,V0,↓reduceIte,V1,V2,V3,V4,V5,V6,ne_eq,not_false_eq_true,not_true_eq_false,V7,Nat.zero_ne_one]; exact hw)) (by omega) (by omega)
    · repeat' first | ((with_reducible (first | refine condD ?_ ?_ | refine condE ?_ ?_ | refine condN ?_ ?_ | refine condI ?_ ?_ | refine condS ?_ ?_)) <;> intro h) | ((with_reducible (first | refine guardD (by with_unfolding_all rfl) ?_ ?_ | refine guardE (by with_unfolding_all rfl) ?_ ?_ | refine guardN (by with_unfolding_all rfl) ?_ ?_ | refine guardI (by with_unfolding_all rfl) ?_ ?_ | refine guardS (by with_unfolding_all rfl) ?_ ?_)) <;> intro h) | (with_reducible refine And.intro ?_ ?_; omega) | (simp only [Z0,Z1,Z2,Z3,Z4,Z5,Z6,Z7,Z8,Z9,Za,Zb,Zc,Zd,Ze,Zf,List.cons.injEq,Zg,Zh,Zi,Zj,Zk,Zl,Zm,Zn,Zo,Zp,beq_self_eq_true,bne_self_eq_false,decide_true,decide_false,Zq,Zr,Zs,Zt,Zu,Zv,Zw,Zx,Zy,Zz,Y0,Y1,Y2,Y3,Y4,Y5,Y6,x_c,x_o,x_l,x_b,g_b,Y7,Y8,Y9,Ya,Yb,Yc,Yd,Ye,Yf,Yg,lk,ef,Yh,Yi,Yj,Yk,Yl,Ym,Yn,Yo,Yp,Yq,Yr,Ys,Yt,Yu,Yv,Yw,Yx,Yy,Yz,X0,X1,X2,X3,X4,X5,X6,X7,X8,X9,Xa,Xb,Xc,Xd,Xe,Xf,hv,Xg,ev,Xh,Xi,Xj,Xk,Xl,Xm,Xn,Xo,Xp,Xq,Xr,Xs,Xt,Xu,Xv,Xw,Xx,Xy,Xz,W0,W1,vun,bnd,W2,W3,W4,zav,W5,W6,W7,W8,W9,Wa,Value.oneCell',Wb,Wc,Wd,We,true_and,and_true,and_self,implies_true,Wf,Wg,Wh,Wi,false_implies,Wj,Wk,Wl,Wm,Wn,Wo,Wp,Wq,Wr,Ws,Wt,Wu,Wv,Ww,Wx,Wy,Wz,reduceCtorEq,if_true,if_false,V0,↓reduceIte,V1,V2,V3,V4,V5,V6,ne_eq,not_false_eq_true,not_true_eq_false,V7,V8,r25_0,r25_1,r25_2,r25_3,r25_4,r25_5,r25_6,r25_7,r25_8,r25_9,p25,l25_0]) | (exfalso; omega)
end Go.Proofs.Ytpecmhdepggnoaa
