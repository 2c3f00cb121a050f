/- Times of presentation: sample.presents, Presents; the house awake, by the machine on data. -/
import Derived.Test.YtbdcnooafacldaaKSmpP
namespace Go.Proofs.Ytbdcnooafacldaa
open Go.RowKit
open Go.Proofs.Ytbdcnooafacldaa renaming done_eq → Z0, done_eq' → Z1, donet_eq → Z2, donet_eq' → Z3, fin_val → Z4, fin_tup → Z5, fin_agg → Z6, fin_ro → Z7, res_one → Z8, res_more → Z9, rv_t → Za, rv_c → Zb, rv_l → Zc, int_eq → Zg, bool_eq → Zh, toNat_pred → Zr, toNat_succ → Zs, cnd_t → Zu, cnd_f → Zv, grd_tt → Zw, grd_u → Zx, grd_tf → Zy, grd_ft → Zz, grd_ff → Y0, g_skip → Y1, g_ops → Y2, g_seq → Y3, g_block → Y4, g_exit → Y5, g_ret → Y6, g_nil → Y7, r_all → Y8, o_nil → Y9, g_cond → Ya, o_guard → Yb, o_call → Yc, o_callm → Yd, o_callt → Ye, o_callx → Yf, o_callv → Yg, o_callc → Yh, o_callh → Yi, o_apph → Yj, noav_alias → Yk, noav_nil → Yl, o_mv → Ym, o_pick → Yn, o_bin → Yo, o_never → Yp, o_eqs → Yq, o_eqb → Yr, o_un → Ys, o_conv → Yt, o_load → Yu, o_loadr → Yv, o_idxr → Yw, o_loads → Yx, o_loadsr → Yy, o_fld → Yz, o_idx → X0, o_idxs → X1, o_len → X2, o_lens → X3, o_ext → X4, o_nilck → X5, o_slc → X6, o_slcs → X7, o_build → X8, o_minmax → X9, o_mkfn → Xa, o_mkfnr → Xb, o_alloc → Xc, o_box → Xd, o_boxs → Xe, o_row → Xf, o_rowr → Xg, o_mk → Xh, o_asg → Xi, o_app → Xj, o_appa → Xk, o_store → Xl, o_stores → Xm, o_eqnil → Xn, eqAV → Xo, view_t → Xp, view_c → Xq, view_nil → Xr, view_fn → Xs, look_own → Xt, look_box → Xu, look_junk → Xv, look_val → Xw, look_nilsl → Xx, look_ro → Xy, look_roAt → Xz, look_agg → W0, look_tup → W1, look_clo → W2, look_alias → W3, look_ref → W4, look_into → W5, look_fnv → W6, look_held → W7, rowOf → W8, cellsOf → W9, argv → Wa, vbin → Wb, elemOf → Wc, putParts → Wd, setAt → We, put_at → Wm, mk_at → Wn, mk_nil → Wo, initSt → Wp
open Go.Proofs.Ytbdcnooafacldaa.AV.tup renaming injEq → Zd
open Go.Proofs.Ytbdcnooafacldaa.AV.agg renaming injEq → Ze
open Go.Proofs.Ytbdcnooafacldaa.AV.ro renaming injEq → Zf
open _root_.Int renaming toNat_natCast → Zi, reduceToNat → Zj, toNat_zero → Zk, toNat_one → Zl, reduceLE → Zm, reduceLT → Zn, reduceBEq → Zo, reduceBNe → Zp, reduceNeg → Zq
open _root_.List renaming length_map → Zt, map_cons → Wq, map_nil → Wr, forall_mem_cons → Ws, not_mem_nil → Wt, length_cons → Wu, length_nil → Wv, getD_cons_zero → Ww, getD_cons_succ → Wx, getD_nil → Wy, drop_succ_cons → Wz, drop_zero → V0, take_succ_cons → V1, take_zero → V2, set_cons_zero → V3, set_cons_succ → V4, all_cons → V5, all_nil → V6
open Go.Proofs.Ytbdcnooafacldaa.ASt renaming rid → Wf, hold → Wg, free → Wh
open Go.Proofs.Ytbdcnooafacldaa.AV renaming kill → Wi, isHome → Wj, noLoan → Wk, cellOK → Wl
open _root_.Bool renaming and_true → V7, true_and → V8, not_true → V9, not_false → Va, false_eq_true → Vb
open _root_.Nat renaming reduceEqDiff → Vc, reduceBNe → Vd, reduceAdd → Ve, reduceSub → Vf, reduceMul → Vg, reduceLeDiff → Vh, reduceLT → Vi, one_ne_zero → Vj, zero_ne_one → Vk
open Go.Proofs.Ytbdcnooafacldaa.AV.val renaming injEq → Vl
set_option linter.unusedSimpArgs false
--@short

def presL (l : List Smp) : List Int := l.map fun s => s.time + s.shift
/-! headend/sample.presents -/
def r14_0 : List POp := [⟨2, .asg .nil, none⟩]
def r14_1 : List POp := [⟨3, .asg .nil, none⟩]
def r14_2 : List POp := [⟨6, .mv (.t 0), none⟩,
  ⟨7, .len (.t 6), none⟩,
  ⟨8, .mv (.c (.int .i64 0)), none⟩]
def r14_3 : List POp := [⟨9, .bin .lss (.t 8) (.t 7), none⟩]
def r14_4 : List POp := [⟨10, .idx 5 (.t 6) (.t 8), none⟩,
  ⟨11, .loads 5 (.t 10), none⟩,
  ⟨5, .alloc [.int .i64 0, .int .i64 0, .int .i64 0, .int .i64 0, .bool false], none⟩,
  ⟨0, .stores 5 (.t 5) (.t 11), none⟩]
def r14_5 : List POp := [⟨12, .mv (.t 3), none⟩,
  ⟨13, .fld 0 (.t 5), none⟩,
  ⟨14, .load (.t 13), none⟩,
  ⟨15, .fld 2 (.t 5), none⟩,
  ⟨16, .load (.t 15), none⟩,
  ⟨17, .bin .add (.t 14) (.t 16), none⟩,
  ⟨18, .row 3 1 [.t 17], none⟩,
  ⟨19, .app 3 1 8 (.t 12) (.t 18), none⟩,
  ⟨3, .asg (.t 19), none⟩]
def r14_6 : List POp := [⟨20, .bin .add (.t 8) (.c (.int .i64 1)), none⟩,
  ⟨8, .mv (.t 20), none⟩]
def r14_7 : List POp := [⟨21, .mv (.t 3), none⟩,
  ⟨2, .asg (.t 21), none⟩]
def l14_0 : PCode := .seq (.ops r14_3) (.seq (.cond (.t 9) (.skip) (.exit 0)) (.seq (.block 1 (.seq (.ops r14_4) (.ops r14_5))) (.ops r14_6)))
def p14 : PCode := .seq (.ops r14_0) (.seq (.ops r14_1) (.seq (.seq (.ops r14_2) (.block 0 (.loop l14_0))) (.seq (.ops r14_7) (.ret))))
theorem ok14 : okFunc Try.prog 14 [.t 2] 1 p14 = true := by kernel_rfl
theorem presents_c (l : List Smp) (hl : l.length ≤ 5000) (hb : ∀ s ∈ l, badSmp s = false) : CallOK Try.prog 14 [.ro (l.map Smp.av)] (.ro ((presL l).map oneI)) := by
  refine call_of mixed ok14 rfl ?_
  repeat' first | ((with_reducible (first | refine condD ?_ ?_ | refine condE ?_ ?_ | refine condN ?_ ?_ | refine condI ?_ ?_ | refine condS ?_ ?_)) <;> intro h) | ((with_reducible (first | refine guardD (by with_unfolding_all rfl) ?_ ?_ | refine guardE (by with_unfolding_all rfl) ?_ ?_ | refine guardN (by with_unfolding_all rfl) ?_ ?_ | refine guardI (by with_unfolding_all rfl) ?_ ?_ | refine guardS (by with_unfolding_all rfl) ?_ ?_)) <;> intro h) | (with_reducible refine And.intro ?_ ?_; omega) | (simp only [Z0,Z1,Z2,Z3,Z4,Z5,Z6,Z7,Z8,Z9,Za,Zb,Zc,Zd,Ze,Zf,List.cons.injEq,Zg,Zh,Zi,Zj,Zk,Zl,Zm,Zn,Zo,Zp,beq_self_eq_true,bne_self_eq_false,decide_true,decide_false,Zq,Zr,Zs,Zt,Zu,Zv,Zw,Zx,Zy,Zz,Y0,Y1,Y2,Y3,Y4,Y5,Y6,x_c,x_o,x_l,x_b,g_b,Y7,Y8,Y9,Ya,Yb,Yc,Yd,Ye,Yf,Yg,Yh,Yi,Yj,Yk,Yl,lk,ef,Ym,Yn,Yo,Yp,Yq,Yr,Ys,Yt,Yu,Yv,Yw,Yx,Yy,Yz,X0,X1,X2,X3,X4,X5,X6,X7,X8,X9,Xa,Xb,Xc,Xd,Xe,Xf,Xg,Xh,Xi,Xj,Xk,Xl,Xm,Xn,hv,Xo,ev,Xp,Xq,Xr,Xs,Xt,Xu,Xv,Xw,Xx,Xy,Xz,W0,W1,W2,W3,W4,W5,W6,W7,W8,W9,Wa,Wb,vun,bnd,Wc,Wd,We,zav,Wf,Wg,Wh,Wi,Wj,Wk,Wl,Value.oneCell',Wm,Wn,Wo,Wp,true_and,and_true,and_self,implies_true,Wq,Wr,Ws,Wt,false_implies,Wu,Wv,Ww,Wx,Wy,Wz,V0,V1,V2,V3,V4,V5,V6,V7,V8,V9,Va,reduceCtorEq,if_true,if_false,Vb,↓reduceIte,Vc,Vd,Ve,Vf,Vg,Vh,Vi,ne_eq,not_false_eq_true,not_true_eq_false,Vj,Vk,r14_0,r14_1,r14_2,r14_3,r14_4,r14_5,r14_6,r14_7,p14]) | (exfalso; omega)
  refine loopS (fun k : Nat => mk [(3, .own 3 1 ((presL (l.take k)).map oneI)), (6, .ro (l.map Smp.av)), (7, .val (.int .i64 l.length)), (8, .val (.int .i64 k))]) (fun k => k ≤ l.length) (fun k => l.length - k) 0 (weak_mk ?_) (Nat.zero_le _) ?_
  · simp only [wk_cons,wk_nil,wk1,vint_eq,vbool_eq,Vl,Z0,Z1,Z2,Z3,Z4,Z5,Z6,Z7,Z8,Z9,Za,Zb,Zc,Zd,Ze,Zf,List.cons.injEq,Zg,Zh,Zi,Zj,Zk,Zl,Zm,Zn,Zo,Zp,beq_self_eq_true,bne_self_eq_false,decide_true,decide_false,Zq,Zr,Zs,Zt,Zu,Zv,Zw,Zx,Zy,Zz,Y0,Y1,Y2,Y3,Y4,Y5,Y6,x_c,x_o,x_l,x_b,g_b,Y7,Y8,Y9,Ya,Yb,Yc,Yd,Ye,Yf,Yg,Yh,Yi,Yj,Yk,Yl,lk,ef,Ym,Yn,Yo,Yp,Yq,Yr,Ys,Yt,Yu,Yv,Yw,Yx,Yy,Yz,X0,X1,X2,X3,X4,X5,X6,X7,X8,X9,Xa,Xb,Xc,Xd,Xe,Xf,Xg,Xh,Xi,Xj,Xk,Xl,Xm,Xn,hv,Xo,ev,Xp,Xq,Xr,Xs,Xt,Xu,Xv,Xw,Xx,Xy,Xz,W0,W1,W2,W3,W4,W5,W6,W7,W8,W9,Wa,Wb,vun,bnd,Wc,Wd,We,zav,Wf,Wg,Wh,Wi,Wj,Wk,Wl,Value.oneCell',Wm,Wn,Wo,Wp,true_and,and_true,and_self,implies_true,Wq,Wr,Ws,Wt,false_implies,Wu,Wv,Ww,Wx,Wy,Wz,V0,V1,V2,V3,V4,V5,V6,V7,V8,V9,Va,reduceCtorEq,if_true,if_false,Vb,↓reduceIte,Vc,Vd,Ve,Vf,Vg,Vh,Vi,ne_eq,not_false_eq_true,not_true_eq_false,Vj,Nat.zero_ne_one]
    simp [presL]
  · rintro J hJ k hk
    simp only [Z0,Z1,Z2,Z3,Z4,Z5,Z6,Z7,Z8,Z9,Za,Zb,Zc,Zd,Ze,Zf,List.cons.injEq,Zg,Zh,Zi,Zj,Zk,Zl,Zm,Zn,Zo,Zp,beq_self_eq_true,bne_self_eq_false,decide_true,decide_false,Zq,Zr,Zs,Zt,Zu,Zv,Zw,Zx,Zy,Zz,Y0,Y1,Y2,Y3,Y4,Y5,Y6,x_c,x_o,x_l,x_b,g_b,Y7,Y8,Y9,Ya,Yb,Yc,Yd,Ye,Yf,Yg,Yh,Yi,Yj,Yk,Yl,lk,ef,Ym,Yn,Yo,Yp,Yq,Yr,Ys,Yt,Yu,Yv,Yw,Yx,Yy,Yz,X0,X1,X2,X3,X4,X5,X6,X7,X8,X9,Xa,Xb,Xc,Xd,Xe,Xf,Xg,Xh,Xi,Xj,Xk,Xl,Xm,Xn,hv,Xo,ev,Xp,Xq,Xr,Xs,Xt,Xu,Xv,Xw,Xx,Xy,Xz,W0,W1,W2,W3,W4,W5,W6,W7,W8,W9,Wa,Wb,vun,bnd,Wc,Wd,We,zav,Wf,Wg,Wh,Wi,Wj,Wk,Wl,Value.oneCell',Wm,Wn,Wo,Wp,true_and,and_true,and_self,implies_true,Wq,Wr,Ws,Wt,false_implies,Wu,Wv,Ww,Wx,Wy,Wz,V0,V1,V2,V3,V4,V5,V6,V7,V8,V9,Va,reduceCtorEq,if_true,if_false,Vb,↓reduceIte,Vc,Vd,Ve,Vf,Vg,Vh,Vi,ne_eq,not_false_eq_true,not_true_eq_false,Vj,Vk,r14_0,r14_1,r14_2,r14_3,r14_4,r14_5,r14_6,r14_7,p14,l14_0]
    refine condD (fun h => ?_) (fun h => ?_)
    · have hlt : k < l.length := by omega
      have hw := i_add1 k (by omega)
      have b2 := badSmp_bd (hb l[k] (List.getElem_mem hlt))
      have w1 : IntKind.i64.wrap (l[k].time + l[k].shift) = l[k].time + l[k].shift := wrap_in (by omega) (by omega)
      have htk : presL (l.take (k + 1)) = presL (l.take k) ++ [l[k].time + l[k].shift] := by
        unfold presL; rw [List.take_succ_eq_append_getElem hlt, List.map_append]; rfl
      have htl : (presL (l.take k)).length = k := by unfold presL; rw [List.length_map, List.length_take]; omega
      repeat' first | ((with_reducible (first | refine condD ?_ ?_ | refine condE ?_ ?_ | refine condN ?_ ?_ | refine condI ?_ ?_ | refine condS ?_ ?_)) <;> intro h) | ((with_reducible (first | refine guardD (by with_unfolding_all rfl) ?_ ?_ | refine guardE (by with_unfolding_all rfl) ?_ ?_ | refine guardN (by with_unfolding_all rfl) ?_ ?_ | refine guardI (by with_unfolding_all rfl) ?_ ?_ | refine guardS (by with_unfolding_all rfl) ?_ ?_)) <;> intro h) | (with_reducible refine And.intro ?_ ?_; omega) | (simp only [Z0,Z1,Z2,Z3,Z4,Z5,Z6,Z7,Z8,Z9,Za,Zb,Zc,Zd,Ze,Zf,List.cons.injEq,Zg,Zh,Zi,Zj,Zk,Zl,Zm,Zn,Zo,Zp,beq_self_eq_true,bne_self_eq_false,decide_true,decide_false,Zq,Zr,Zs,Zt,Zu,Zv,Zw,Zx,Zy,Zz,Y0,Y1,Y2,Y3,Y4,Y5,Y6,x_c,x_o,x_l,x_b,g_b,Y7,Y8,Y9,Ya,Yb,Yc,Yd,Ye,Yf,Yg,Yh,Yi,Yj,Yk,Yl,lk,ef,Ym,Yn,Yo,Yp,Yq,Yr,Ys,Yt,Yu,Yv,Yw,Yx,Yy,Yz,X0,X1,X2,X3,X4,X5,X6,X7,X8,X9,Xa,Xb,Xc,Xd,Xe,Xf,Xg,Xh,Xi,Xj,Xk,Xl,Xm,Xn,hv,Xo,ev,Xp,Xq,Xr,Xs,Xt,Xu,Xv,Xw,Xx,Xy,Xz,W0,W1,W2,W3,W4,W5,W6,W7,W8,W9,Wa,Wb,vun,bnd,Wc,Wd,We,zav,Wf,Wg,Wh,Wi,Wj,Wk,Wl,Value.oneCell',Wm,Wn,Wo,Wp,true_and,and_true,and_self,implies_true,Wq,Wr,Ws,Wt,false_implies,Wu,Wv,Ww,Wx,Wy,Wz,V0,V1,V2,V3,V4,V5,V6,V7,V8,V9,Va,reduceCtorEq,if_true,if_false,Vb,↓reduceIte,Vc,Vd,Ve,Vf,Vg,Vh,Vi,ne_eq,not_false_eq_true,not_true_eq_false,Vj,Vk,r14_0,r14_1,r14_2,r14_3,r14_4,r14_5,r14_6,r14_7,p14,l14_0,Smp.av,getD_map hlt,w1,htl]) | (exfalso; omega)
      exact again hJ (k + 1) (weak_mk (by simp only [wk_cons,wk_nil,wk1,vint_eq,vbool_eq,Vl,Z0,Z1,Z2,Z3,Z4,Z5,Z6,Z7,Z8,Z9,Za,Zb,Zc,Zd,Ze,Zf,List.cons.injEq,Zg,Zh,Zi,Zj,Zk,Zl,Zm,Zn,Zo,Zp,beq_self_eq_true,bne_self_eq_false,decide_true,decide_false,Zq,Zr,Zs,Zt,Zu,Zv,Zw,Zx,Zy,Zz,Y0,Y1,Y2,Y3,Y4,Y5,Y6,x_c,x_o,x_l,x_b,g_b,Y7,Y8,Y9,Ya,Yb,Yc,Yd,Ye,Yf,Yg,Yh,Yi,Yj,Yk,Yl,lk,ef,Ym,Yn,Yo,Yp,Yq,Yr,Ys,Yt,Yu,Yv,Yw,Yx,Yy,Yz,X0,X1,X2,X3,X4,X5,X6,X7,X8,X9,Xa,Xb,Xc,Xd,Xe,Xf,Xg,Xh,Xi,Xj,Xk,Xl,Xm,Xn,hv,Xo,ev,Xp,Xq,Xr,Xs,Xt,Xu,Xv,Xw,Xx,Xy,Xz,W0,W1,W2,W3,W4,W5,W6,W7,W8,W9,Wa,Wb,vun,bnd,Wc,Wd,We,zav,Wf,Wg,Wh,Wi,Wj,Wk,Wl,Value.oneCell',Wm,Wn,Wo,Wp,true_and,and_true,and_self,implies_true,Wq,Wr,Ws,Wt,false_implies,Wu,Wv,Ww,Wx,Wy,Wz,V0,V1,V2,V3,V4,V5,V6,V7,V8,V9,Va,reduceCtorEq,if_true,if_false,Vb,↓reduceIte,Vc,Vd,Ve,Vf,Vg,Vh,Vi,ne_eq,not_false_eq_true,not_true_eq_false,Vj,Nat.zero_ne_one]; exact ⟨by rw [htk]; simp [oneI], hw⟩)) (by omega) (by omega)
    · have hke : k = l.length := by omega
      subst hke
      rw [List.take_length]
      repeat' first | ((with_reducible (first | refine condD ?_ ?_ | refine condE ?_ ?_ | refine condN ?_ ?_ | refine condI ?_ ?_ | refine condS ?_ ?_)) <;> intro h) | ((with_reducible (first | refine guardD (by with_unfolding_all rfl) ?_ ?_ | refine guardE (by with_unfolding_all rfl) ?_ ?_ | refine guardN (by with_unfolding_all rfl) ?_ ?_ | refine guardI (by with_unfolding_all rfl) ?_ ?_ | refine guardS (by with_unfolding_all rfl) ?_ ?_)) <;> intro h) | (with_reducible refine And.intro ?_ ?_; omega) | (simp only [Z0,Z1,Z2,Z3,Z4,Z5,Z6,Z7,Z8,Z9,Za,Zb,Zc,Zd,Ze,Zf,List.cons.injEq,Zg,Zh,Zi,Zj,Zk,Zl,Zm,Zn,Zo,Zp,beq_self_eq_true,bne_self_eq_false,decide_true,decide_false,Zq,Zr,Zs,Zt,Zu,Zv,Zw,Zx,Zy,Zz,Y0,Y1,Y2,Y3,Y4,Y5,Y6,x_c,x_o,x_l,x_b,g_b,Y7,Y8,Y9,Ya,Yb,Yc,Yd,Ye,Yf,Yg,Yh,Yi,Yj,Yk,Yl,lk,ef,Ym,Yn,Yo,Yp,Yq,Yr,Ys,Yt,Yu,Yv,Yw,Yx,Yy,Yz,X0,X1,X2,X3,X4,X5,X6,X7,X8,X9,Xa,Xb,Xc,Xd,Xe,Xf,Xg,Xh,Xi,Xj,Xk,Xl,Xm,Xn,hv,Xo,ev,Xp,Xq,Xr,Xs,Xt,Xu,Xv,Xw,Xx,Xy,Xz,W0,W1,W2,W3,W4,W5,W6,W7,W8,W9,Wa,Wb,vun,bnd,Wc,Wd,We,zav,Wf,Wg,Wh,Wi,Wj,Wk,Wl,Value.oneCell',Wm,Wn,Wo,Wp,true_and,and_true,and_self,implies_true,Wq,Wr,Ws,Wt,false_implies,Wu,Wv,Ww,Wx,Wy,Wz,V0,V1,V2,V3,V4,V5,V6,V7,V8,V9,Va,reduceCtorEq,if_true,if_false,Vb,↓reduceIte,Vc,Vd,Ve,Vf,Vg,Vh,Vi,ne_eq,not_false_eq_true,not_true_eq_false,Vj,Vk,r14_0,r14_1,r14_2,r14_3,r14_4,r14_5,r14_6,r14_7,p14,l14_0]) | (exfalso; omega)
/-! headend/sample.Presents -/
def r6_0 : List POp := [⟨2, .asg .nil, none⟩,
  ⟨3, .asg (.c (.int .i64 0)), none⟩]
def r6_1 : List POp := [⟨5, .mv (.t 0), none⟩,
  ⟨6, .call 13 [.t 5], none⟩,
  ⟨4, .asg (.t 6), none⟩]
def r6_2 : List POp := [⟨7, .mv (.t 4), none⟩,
  ⟨8, .bin .neq (.t 7) (.c (.int .i64 0)), none⟩]
def r6_3 : List POp := [⟨9, .mv (.t 4), none⟩,
  ⟨2, .asg .nil, none⟩,
  ⟨3, .mv (.t 9), none⟩]
def r6_4 : List POp := [⟨10, .mv (.t 0), none⟩,
  ⟨11, .call 14 [.t 10], none⟩,
  ⟨2, .asg (.t 11), none⟩,
  ⟨3, .asg (.c (.int .i64 0)), none⟩]
def p6 : PCode := .seq (.ops r6_0) (.seq (.seq (.ops r6_1) (.seq (.ops r6_2) (.cond (.t 8) (.seq (.ops r6_3) (.ret)) (.skip)))) (.seq (.ops r6_4) (.ret)))
theorem ok6 : okFunc Try.prog 6 [.t 2, .t 3] 1 p6 = true := by kernel_rfl
def presF (l : List Smp) : List Int × Int := if smpF l ≠ 0 then ([], smpF l) else (presL l, 0)
theorem presF_c (l : List Smp) : CallOK Try.prog 6 [.ro (l.map Smp.av)] (.tup [.ro ((presF l).1.map oneI), .val (.int .i64 (presF l).2)]) := by
  refine call_of mixed ok6 rfl ?_
  have hs := smp_c l
  by_cases h0 : smpF l = 0
  · obtain ⟨a, b, _⟩ := smpF_0 h0
    rw [h0] at hs
    repeat' first | ((with_reducible (first | refine condD ?_ ?_ | refine condE ?_ ?_ | refine condN ?_ ?_ | refine condI ?_ ?_ | refine condS ?_ ?_)) <;> intro h) | ((with_reducible (first | refine guardD (by with_unfolding_all rfl) ?_ ?_ | refine guardE (by with_unfolding_all rfl) ?_ ?_ | refine guardN (by with_unfolding_all rfl) ?_ ?_ | refine guardI (by with_unfolding_all rfl) ?_ ?_ | refine guardS (by with_unfolding_all rfl) ?_ ?_)) <;> intro h) | ((refine callG hs ?_)) | ((refine callG (presents_c l a b) ?_)) | (with_reducible refine And.intro ?_ ?_; omega) | (simp only [Z0,Z1,Z2,Z3,Z4,Z5,Z6,Z7,Z8,Z9,Za,Zb,Zc,Zd,Ze,Zf,List.cons.injEq,Zg,Zh,Zi,Zj,Zk,Zl,Zm,Zn,Zo,Zp,beq_self_eq_true,bne_self_eq_false,decide_true,decide_false,Zq,Zr,Zs,Zt,Zu,Zv,Zw,Zx,Zy,Zz,Y0,Y1,Y2,Y3,Y4,Y5,Y6,x_c,x_o,x_l,x_b,g_b,Y7,Y8,Y9,Ya,Yb,Yc,Yd,Ye,Yf,Yg,Yh,Yi,Yj,Yk,Yl,lk,ef,Ym,Yn,Yo,Yp,Yq,Yr,Ys,Yt,Yu,Yv,Yw,Yx,Yy,Yz,X0,X1,X2,X3,X4,X5,X6,X7,X8,X9,Xa,Xb,Xc,Xd,Xe,Xf,Xg,Xh,Xi,Xj,Xk,Xl,Xm,Xn,hv,Xo,ev,Xp,Xq,Xr,Xs,Xt,Xu,Xv,Xw,Xx,Xy,Xz,W0,W1,W2,W3,W4,W5,W6,W7,W8,W9,Wa,Wb,vun,bnd,Wc,Wd,We,zav,Wf,Wg,Wh,Wi,Wj,Wk,Wl,Value.oneCell',Wm,Wn,Wo,Wp,true_and,and_true,and_self,implies_true,Wq,Wr,Ws,Wt,false_implies,Wu,Wv,Ww,Wx,Wy,Wz,V0,V1,V2,V3,V4,V5,V6,V7,V8,V9,Va,reduceCtorEq,if_true,if_false,Vb,↓reduceIte,Vc,Vd,Ve,Vf,Vg,Vh,Vi,ne_eq,not_false_eq_true,not_true_eq_false,Vj,Vk,r6_0,r6_1,r6_2,r6_3,r6_4,p6]) | (exfalso; omega)
    all_goals simp [presF, h0]
  · repeat' first | ((with_reducible (first | refine condD ?_ ?_ | refine condE ?_ ?_ | refine condN ?_ ?_ | refine condI ?_ ?_ | refine condS ?_ ?_)) <;> intro h) | ((with_reducible (first | refine guardD (by with_unfolding_all rfl) ?_ ?_ | refine guardE (by with_unfolding_all rfl) ?_ ?_ | refine guardN (by with_unfolding_all rfl) ?_ ?_ | refine guardI (by with_unfolding_all rfl) ?_ ?_ | refine guardS (by with_unfolding_all rfl) ?_ ?_)) <;> intro h) | ((refine callG hs ?_)) | (with_reducible refine And.intro ?_ ?_; omega) | (simp only [Z0,Z1,Z2,Z3,Z4,Z5,Z6,Z7,Z8,Z9,Za,Zb,Zc,Zd,Ze,Zf,List.cons.injEq,Zg,Zh,Zi,Zj,Zk,Zl,Zm,Zn,Zo,Zp,beq_self_eq_true,bne_self_eq_false,decide_true,decide_false,Zq,Zr,Zs,Zt,Zu,Zv,Zw,Zx,Zy,Zz,Y0,Y1,Y2,Y3,Y4,Y5,Y6,x_c,x_o,x_l,x_b,g_b,Y7,Y8,Y9,Ya,Yb,Yc,Yd,Ye,Yf,Yg,Yh,Yi,Yj,Yk,Yl,lk,ef,Ym,Yn,Yo,Yp,Yq,Yr,Ys,Yt,Yu,Yv,Yw,Yx,Yy,Yz,X0,X1,X2,X3,X4,X5,X6,X7,X8,X9,Xa,Xb,Xc,Xd,Xe,Xf,Xg,Xh,Xi,Xj,Xk,Xl,Xm,Xn,hv,Xo,ev,Xp,Xq,Xr,Xs,Xt,Xu,Xv,Xw,Xx,Xy,Xz,W0,W1,W2,W3,W4,W5,W6,W7,W8,W9,Wa,Wb,vun,bnd,Wc,Wd,We,zav,Wf,Wg,Wh,Wi,Wj,Wk,Wl,Value.oneCell',Wm,Wn,Wo,Wp,true_and,and_true,and_self,implies_true,Wq,Wr,Ws,Wt,false_implies,Wu,Wv,Ww,Wx,Wy,Wz,V0,V1,V2,V3,V4,V5,V6,V7,V8,V9,Va,reduceCtorEq,if_true,if_false,Vb,↓reduceIte,Vc,Vd,Ve,Vf,Vg,Vh,Vi,ne_eq,not_false_eq_true,not_true_eq_false,Vj,Vk,r6_0,r6_1,r6_2,r6_3,r6_4,p6,bne0_t h0,beq0_f h0]) | (exfalso; omega)
    all_goals simp [presF, h0]
/-! headend/headendlaw3.awake -/
def r8_0 : List POp := [⟨0, .asg (.c (.bool false)), none⟩]
def r8_1 : List POp := [⟨4, .build [.int .i64 0, .int .i64 0, .int .i64 0, .int .i64 0, .bool false] [(0, 1, .c (.int .i64 3)), (1, 1, .c (.int .i64 1)), (2, 1, .c (.int .i64 4))], none⟩,
  ⟨5, .rowr 36 5 [.t 4], none⟩,
  ⟨6, .call 6 [.t 5], none⟩,
  ⟨3, .mv (.t 6), none⟩,
  ⟨7, .ext 0 (.t 3), none⟩,
  ⟨8, .ext 1 (.t 3), none⟩,
  ⟨1, .asg (.t 7), none⟩,
  ⟨2, .mv (.t 8), none⟩]
def r8_2 : List POp := [⟨9, .mv (.t 2), none⟩,
  ⟨10, .bin .eql (.t 9) (.c (.int .i64 0)), none⟩,
  ⟨11, .mv (.t 10), none⟩,
  ⟨12, .mv (.t 1), some (11, true)⟩,
  ⟨13, .len (.t 12), some (11, true)⟩,
  ⟨14, .bin .eql (.t 13) (.c (.int .i64 1)), some (11, true)⟩,
  ⟨15, .pick (.t 11) (.t 14) (.c (.bool false)), none⟩,
  ⟨16, .mv (.t 15), none⟩,
  ⟨17, .mv (.t 1), some (16, true)⟩,
  ⟨18, .idx 1 (.t 17) (.c (.int .i64 0)), some (16, true)⟩,
  ⟨19, .load (.t 18), some (16, true)⟩,
  ⟨20, .bin .eql (.t 19) (.c (.int .i64 7)), some (16, true)⟩,
  ⟨21, .pick (.t 16) (.t 20) (.c (.bool false)), none⟩,
  ⟨0, .asg (.t 21), none⟩]
def p8 : PCode := .seq (.ops r8_0) (.seq (.ops r8_1) (.seq (.ops r8_2) (.ret)))
theorem ok8 : okFunc Try.prog 8 [.t 0] 0 p8 = true := by kernel_rfl
theorem awake3_c : CallOK Try.prog 8 [] (.val (.bool true)) := by
  refine call_of mixed ok8 rfl ?_
  have hc := presF_c [⟨3, 1, 4, 0, false⟩]
  have hcv : presF [⟨3, 1, 4, 0, false⟩] = ([7], 0) := by decide
  rw [hcv] at hc
  simp only [List.map_cons, List.map_nil, Smp.av, oneI] at hc
  repeat' first | ((with_reducible (first | refine condD ?_ ?_ | refine condE ?_ ?_ | refine condN ?_ ?_ | refine condI ?_ ?_ | refine condS ?_ ?_)) <;> intro h) | ((with_reducible (first | refine guardD (by with_unfolding_all rfl) ?_ ?_ | refine guardE (by with_unfolding_all rfl) ?_ ?_ | refine guardN (by with_unfolding_all rfl) ?_ ?_ | refine guardI (by with_unfolding_all rfl) ?_ ?_ | refine guardS (by with_unfolding_all rfl) ?_ ?_)) <;> intro h) | ((refine callG hc ?_)) | (with_reducible refine And.intro ?_ ?_; omega) | (simp only [Z0,Z1,Z2,Z3,Z4,Z5,Z6,Z7,Z8,Z9,Za,Zb,Zc,Zd,Ze,Zf,List.cons.injEq,Zg,Zh,Zi,Zj,Zk,Zl,Zm,Zn,Zo,Zp,beq_self_eq_true,bne_self_eq_false,decide_true,decide_false,Zq,Zr,Zs,Zt,Zu,Zv,Zw,Zx,Zy,Zz,Y0,Y1,Y2,Y3,Y4,Y5,Y6,x_c,x_o,x_l,x_b,g_b,Y7,Y8,Y9,Ya,Yb,Yc,Yd,Ye,Yf,Yg,Yh,Yi,Yj,Yk,Yl,lk,ef,Ym,Yn,Yo,Yp,Yq,Yr,Ys,Yt,Yu,Yv,Yw,Yx,Yy,Yz,X0,X1,X2,X3,X4,X5,X6,X7,X8,X9,Xa,Xb,Xc,Xd,Xe,Xf,Xg,Xh,Xi,Xj,Xk,Xl,Xm,Xn,hv,Xo,ev,Xp,Xq,Xr,Xs,Xt,Xu,Xv,Xw,Xx,Xy,Xz,W0,W1,W2,W3,W4,W5,W6,W7,W8,W9,Wa,Wb,vun,bnd,Wc,Wd,We,zav,Wf,Wg,Wh,Wi,Wj,Wk,Wl,Value.oneCell',Wm,Wn,Wo,Wp,true_and,and_true,and_self,implies_true,Wq,Wr,Ws,Wt,false_implies,Wu,Wv,Ww,Wx,Wy,Wz,V0,V1,V2,V3,V4,V5,V6,V7,V8,V9,Va,reduceCtorEq,if_true,if_false,Vb,↓reduceIte,Vc,Vd,Ve,Vf,Vg,Vh,Vi,ne_eq,not_false_eq_true,not_true_eq_false,Vj,Vk,r8_0,r8_1,r8_2,p8,Int.natCast_one]) | (exfalso; omega)
end Go.Proofs.Ytbdcnooafacldaa
