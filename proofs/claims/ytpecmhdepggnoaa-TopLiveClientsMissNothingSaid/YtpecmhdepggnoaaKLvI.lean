/- Live lists: copyList, whose answer is the caller's own, by the machine on data. -/
import Derived.Test.YtpecmhdepggnoaaKLvH
namespace Go.Proofs.Ytpecmhdepggnoaa
open Go.RowKit
open Go.Proofs.Ytpecmhdepggnoaa renaming done_eq → Z0, done_eq' → Z1, donet_eq → Z2, donet_eq' → Z3, fin_val → Z4, fin_tup → Z5, fin_agg → Z6, fin_ro → Z7, res_one → Z8, res_more → Z9, rv_t → Za, rv_c → Zb, rv_l → Zc, int_eq → Zg, bool_eq → Zh, toNat_pred → Zr, toNat_succ → Zs, cnd_t → Zu, cnd_f → Zv, grd_tt → Zw, grd_u → Zx, grd_tf → Zy, grd_ft → Zz, grd_ff → Y0, g_skip → Y1, g_ops → Y2, g_seq → Y3, g_block → Y4, g_exit → Y5, g_ret → Y6, g_nil → Y7, r_all → Y8, o_nil → Y9, g_cond → Ya, o_guard → Yb, o_call → Yc, o_callm → Yd, o_callt → Ye, o_callx → Yf, o_callv → Yg, o_callc → Yh, o_callh → Yi, o_apph → Yj, noav_alias → Yk, noav_nil → Yl, o_mv → Ym, o_pick → Yn, o_bin → Yo, o_never → Yp, o_eqs → Yq, o_eqb → Yr, o_un → Ys, o_conv → Yt, o_load → Yu, o_loadr → Yv, o_idxr → Yw, o_loads → Yx, o_loadsr → Yy, o_fld → Yz, o_idx → X0, o_idxs → X1, o_len → X2, o_lens → X3, o_ext → X4, o_nilck → X5, o_slc → X6, o_slcs → X7, o_build → X8, o_minmax → X9, o_mkfn → Xa, o_mkfnr → Xb, o_alloc → Xc, o_box → Xd, o_boxs → Xe, o_row → Xf, o_rowr → Xg, o_mk → Xh, o_asg → Xi, o_app → Xj, o_appa → Xk, o_store → Xl, o_stores → Xm, o_eqnil → Xn, eqAV → Xo, view_t → Xp, view_c → Xq, view_nil → Xr, view_fn → Xs, look_own → Xt, look_box → Xu, look_junk → Xv, look_val → Xw, look_nilsl → Xx, look_ro → Xy, look_roAt → Xz, look_agg → W0, look_tup → W1, look_clo → W2, look_alias → W3, look_ref → W4, look_into → W5, look_fnv → W6, look_held → W7, rowOf → W8, cellsOf → W9, argv → Wa, vbin → Wb, elemOf → Wc, putParts → Wd, setAt → We, put_at → Wm, mk_at → Wn, mk_nil → Wo, initSt → Wp, wk_cons → Vl, vint_eq → Vm, vbool_eq → Vn
open Go.Proofs.Ytpecmhdepggnoaa.AV.tup renaming injEq → Zd
open Go.Proofs.Ytpecmhdepggnoaa.AV.agg renaming injEq → Ze
open Go.Proofs.Ytpecmhdepggnoaa.AV.ro renaming injEq → Zf
open _root_.Int renaming toNat_natCast → Zi, reduceToNat → Zj, toNat_zero → Zk, toNat_one → Zl, reduceLE → Zm, reduceLT → Zn, reduceBEq → Zo, reduceBNe → Zp, reduceNeg → Zq
open _root_.List renaming length_map → Zt, map_cons → Wq, map_nil → Wr, forall_mem_cons → Ws, not_mem_nil → Wt, length_cons → Wu, length_nil → Wv, getD_cons_zero → Ww, getD_cons_succ → Wx, getD_nil → Wy, drop_succ_cons → Wz, drop_zero → V0, take_succ_cons → V1, take_zero → V2, set_cons_zero → V3, set_cons_succ → V4, all_cons → V5, all_nil → V6
open Go.Proofs.Ytpecmhdepggnoaa.ASt renaming rid → Wf, hold → Wg, free → Wh
open Go.Proofs.Ytpecmhdepggnoaa.AV renaming kill → Wi, isHome → Wj, noLoan → Wk, cellOK → Wl
open _root_.Bool renaming and_true → V7, true_and → V8, not_true → V9, not_false → Va, false_eq_true → Vb
open _root_.Nat renaming reduceEqDiff → Vc, reduceBNe → Vd, reduceAdd → Ve, reduceSub → Vf, reduceMul → Vg, reduceLeDiff → Vh, reduceLT → Vi, one_ne_zero → Vj, zero_ne_one → Vk
open Go.Proofs.Ytpecmhdepggnoaa.AV.val renaming injEq → Vo
set_option linter.unusedSimpArgs false
--@short
namespace HH

/-! headend/list.copyList -/
def r29_0 : List POp := [⟨1, .boxs (.t 0), none⟩,
  ⟨2, .alloc [.int .i64 0, .int .i64 0, .int .i64 0, .slice none 0 0, .bool false], none⟩]
def r29_1 : List POp := [⟨3, .asg .nil, none⟩]
def r29_2 : List POp := [⟨6, .fld 3 (.t 1), none⟩,
  ⟨7, .load (.t 6), none⟩,
  ⟨8, .len (.t 7), none⟩,
  ⟨9, .mv (.c (.int .i64 0)), none⟩]
def r29_3 : List POp := [⟨10, .bin .lss (.t 9) (.t 8), none⟩]
def r29_4 : List POp := [⟨11, .idx 7 (.t 7) (.t 9), none⟩,
  ⟨12, .loads 7 (.t 11), none⟩,
  ⟨5, .alloc [.string ⟨#[]⟩, .int .i64 0, .bool false, .int .i64 0, .string ⟨#[]⟩, .bool false, .slice none 0 0], none⟩,
  ⟨0, .stores 7 (.t 5) (.t 12), none⟩]
def r29_5 : List POp := [⟨13, .mv (.t 3), none⟩,
  ⟨14, .loads 7 (.t 5), none⟩,
  ⟨15, .call 30 [.t 14], none⟩,
  ⟨16, .row 32 7 [.t 15], none⟩,
  ⟨17, .app 32 7 88 (.t 13) (.t 16), none⟩,
  ⟨3, .asg (.t 17), none⟩]
def r29_6 : List POp := [⟨18, .bin .add (.t 9) (.c (.int .i64 1)), none⟩,
  ⟨9, .mv (.t 18), none⟩]
def r29_7 : List POp := [⟨19, .mv (.t 3), none⟩,
  ⟨20, .fld 3 (.t 1), none⟩,
  ⟨0, .store (.t 20) (.t 19), none⟩]
def r29_8 : List POp := [⟨21, .loads 5 (.t 1), none⟩,
  ⟨0, .stores 5 (.t 2) (.t 21), none⟩]
def l29_0 : PCode := .seq (.ops r29_3) (.seq (.cond (.t 10) (.skip) (.exit 0)) (.seq (.block 1 (.seq (.ops r29_4) (.ops r29_5))) (.ops r29_6)))
def p29 : PCode := .seq (.ops r29_0) (.seq (.ops r29_1) (.seq (.seq (.ops r29_2) (.block 0 (.loop l29_0))) (.seq (.oph r29_7) (.seq (.ops r29_8) (.ret)))))
theorem ok29 : okFunc Try.prog 29 [.c 2 5] 1 p29 = true := by kernel_rfl
theorem copyl_h (l : PL) (hs : l.small) : CallH Try.prog 29 [.agg l.av] 32 7 (l.ents.map LE.av) (fun r => .agg [.val (.int .i64 l.target), .val (.int .i64 l.first), .val (.int .i64 l.breaks), .val r, .val (.bool l.ended)]) := by
  refine callh_of mixed ok29 rfl ?_
  obtain ⟨hl, he⟩ := hs
  repeat' first | ((with_reducible (first | refine condD ?_ ?_ | refine condE ?_ ?_ | refine condN ?_ ?_ | refine condI ?_ ?_ | refine condS ?_ ?_)) <;> intro h) | ((with_reducible (first | refine guardD (by with_unfolding_all rfl) ?_ ?_ | refine guardE (by with_unfolding_all rfl) ?_ ?_ | refine guardN (by with_unfolding_all rfl) ?_ ?_ | refine guardI (by with_unfolding_all rfl) ?_ ?_ | refine guardS (by with_unfolding_all rfl) ?_ ?_)) <;> intro h) | (with_reducible refine And.intro ?_ ?_; omega) | (simp only [Z0,Z1,Z2,Z3,Z4,Z5,Z6,Z7,Z8,Z9,Za,Zb,Zc,Zd,Ze,Zf,List.cons.injEq,Zg,Zh,Zi,Zj,Zk,Zl,Zm,Zn,Zo,Zp,beq_self_eq_true,bne_self_eq_false,decide_true,decide_false,Zq,Zr,Zs,Zt,Zu,Zv,Zw,Zx,Zy,Zz,Y0,Y1,Y2,Y3,Y4,Y5,Y6,x_c,x_o,x_l,x_b,g_b,Y7,Y8,Y9,Ya,Yb,Yc,Yd,Ye,Yf,Yg,Yh,Yi,Yj,Yk,Yl,lk,ef,Ym,Yn,Yo,Yp,Yq,Yr,Ys,Yt,Yu,Yv,Yw,Yx,Yy,Yz,X0,X1,X2,X3,X4,X5,X6,X7,X8,X9,Xa,Xb,Xc,Xd,Xe,Xf,Xg,Xh,Xi,Xj,Xk,Xl,Xm,Xn,hv,Xo,ev,Xp,Xq,Xr,Xs,Xt,Xu,Xv,Xw,Xx,Xy,Xz,W0,W1,W2,W3,W4,W5,W6,W7,W8,W9,Wa,Wb,vun,bnd,Wc,Wd,We,zav,Wf,Wg,Wh,Wi,Wj,Wk,Wl,Value.oneCell',Wm,Wn,Wo,Wp,true_and,and_true,and_self,implies_true,Wq,Wr,Ws,Wt,false_implies,Wu,Wv,Ww,Wx,Wy,Wz,V0,V1,V2,V3,V4,V5,V6,V7,V8,V9,Va,reduceCtorEq,if_true,if_false,Vb,↓reduceIte,Vc,Vd,Ve,Vf,Vg,Vh,Vi,ne_eq,not_false_eq_true,not_true_eq_false,Vj,Vk,r29_0,r29_1,r29_2,r29_3,r29_4,r29_5,r29_6,r29_7,r29_8,p29,PL.av,List.length_map]) | (exfalso; omega)
  refine loopS (fun k : Nat => mk [(1, .box [.val (.int .i64 l.target), .val (.int .i64 l.first), .val (.int .i64 l.breaks), .ro (l.ents.map LE.av), .val (.bool l.ended)]), (2, .box [.val (.int .i64 0), .val (.int .i64 0), .val (.int .i64 0), .nilsl, .val (.bool false)]), (3, .own 32 7 ((l.ents.take k).map LE.av)), (7, .ro (l.ents.map LE.av)), (8, .val (.int .i64 l.ents.length)), (9, .val (.int .i64 k))]) (fun k => k ≤ l.ents.length) (fun k => l.ents.length - k) 0 (weak_mk ?_) (Nat.zero_le _) ?_
  · simp only [Vl,wk_nil,wk1,Vm,Vn,Vo,Z0,Z1,Z2,Z3,Z4,Z5,Z6,Z7,Z8,Z9,Za,Zb,Zc,Zd,Ze,Zf,List.cons.injEq,Zg,Zh,Zi,Zj,Zk,Zl,Zm,Zn,Zo,Zp,beq_self_eq_true,bne_self_eq_false,decide_true,decide_false,Zq,Zr,Zs,Zt,Zu,Zv,Zw,Zx,Zy,Zz,Y0,Y1,Y2,Y3,Y4,Y5,Y6,x_c,x_o,x_l,x_b,g_b,Y7,Y8,Y9,Ya,Yb,Yc,Yd,Ye,Yf,Yg,Yh,Yi,Yj,Yk,Yl,lk,ef,Ym,Yn,Yo,Yp,Yq,Yr,Ys,Yt,Yu,Yv,Yw,Yx,Yy,Yz,X0,X1,X2,X3,X4,X5,X6,X7,X8,X9,Xa,Xb,Xc,Xd,Xe,Xf,Xg,Xh,Xi,Xj,Xk,Xl,Xm,Xn,hv,Xo,ev,Xp,Xq,Xr,Xs,Xt,Xu,Xv,Xw,Xx,Xy,Xz,W0,W1,W2,W3,W4,W5,W6,W7,W8,W9,Wa,Wb,vun,bnd,Wc,Wd,We,zav,Wf,Wg,Wh,Wi,Wj,Wk,Wl,Value.oneCell',Wm,Wn,Wo,Wp,true_and,and_true,and_self,implies_true,Wq,Wr,Ws,Wt,false_implies,Wu,Wv,Ww,Wx,Wy,Wz,V0,V1,V2,V3,V4,V5,V6,V7,V8,V9,Va,reduceCtorEq,if_true,if_false,Vb,↓reduceIte,Vc,Vd,Ve,Vf,Vg,Vh,Vi,ne_eq,not_false_eq_true,not_true_eq_false,Vj,Nat.zero_ne_one]
    all_goals first | done | rfl | simp | trace_state
  rintro J hJ k hk
  simp only [Z0,Z1,Z2,Z3,Z4,Z5,Z6,Z7,Z8,Z9,Za,Zb,Zc,Zd,Ze,Zf,List.cons.injEq,Zg,Zh,Zi,Zj,Zk,Zl,Zm,Zn,Zo,Zp,beq_self_eq_true,bne_self_eq_false,decide_true,decide_false,Zq,Zr,Zs,Zt,Zu,Zv,Zw,Zx,Zy,Zz,Y0,Y1,Y2,Y3,Y4,Y5,Y6,x_c,x_o,x_l,x_b,g_b,Y7,Y8,Y9,Ya,Yb,Yc,Yd,Ye,Yf,Yg,Yh,Yi,Yj,Yk,Yl,lk,ef,Ym,Yn,Yo,Yp,Yq,Yr,Ys,Yt,Yu,Yv,Yw,Yx,Yy,Yz,X0,X1,X2,X3,X4,X5,X6,X7,X8,X9,Xa,Xb,Xc,Xd,Xe,Xf,Xg,Xh,Xi,Xj,Xk,Xl,Xm,Xn,hv,Xo,ev,Xp,Xq,Xr,Xs,Xt,Xu,Xv,Xw,Xx,Xy,Xz,W0,W1,W2,W3,W4,W5,W6,W7,W8,W9,Wa,Wb,vun,bnd,Wc,Wd,We,zav,Wf,Wg,Wh,Wi,Wj,Wk,Wl,Value.oneCell',Wm,Wn,Wo,Wp,true_and,and_true,and_self,implies_true,Wq,Wr,Ws,Wt,false_implies,Wu,Wv,Ww,Wx,Wy,Wz,V0,V1,V2,V3,V4,V5,V6,V7,V8,V9,Va,reduceCtorEq,if_true,if_false,Vb,↓reduceIte,Vc,Vd,Ve,Vf,Vg,Vh,Vi,ne_eq,not_false_eq_true,not_true_eq_false,Vj,Vk,r29_0,r29_1,r29_2,r29_3,r29_4,r29_5,r29_6,r29_7,r29_8,p29,l29_0]
  refine condD (fun h => ?_) (fun h => ?_)
  · have hlt : k < l.ents.length := by omega
    have hw := i_add1 k (by omega)
    have gK := getD_map (f := LE.av) (d := []) hlt
    have hki : (k : Int) < l.ents.length := by omega
    have k0 : (0 : Int) ≤ (k : Int) := by omega
    have c1 := copye_c l.ents[k] (by have := he _ (List.getElem_mem hlt); omega)
    have hnx : (l.ents.take k).map LE.av ++ [l.ents[k].av] = (l.ents.take (k + 1)).map LE.av := by
      rw [List.take_succ_eq_append_getElem hlt, List.map_append]; rfl
    have htl : (l.ents.take k).length = k := by rw [List.length_take]; omega
    generalize l.ents[k] = e at *
    simp only [LE.av] at gK c1 hnx
    repeat' first | ((with_reducible (first | refine condD ?_ ?_ | refine condE ?_ ?_ | refine condN ?_ ?_ | refine condI ?_ ?_ | refine condS ?_ ?_)) <;> intro h) | ((with_reducible (first | refine guardD (by with_unfolding_all rfl) ?_ ?_ | refine guardE (by with_unfolding_all rfl) ?_ ?_ | refine guardN (by with_unfolding_all rfl) ?_ ?_ | refine guardI (by with_unfolding_all rfl) ?_ ?_ | refine guardS (by with_unfolding_all rfl) ?_ ?_)) <;> intro h) | ((refine callG c1 ?_)) | (with_reducible refine And.intro ?_ ?_; omega) | (simp only [Z0,Z1,Z2,Z3,Z4,Z5,Z6,Z7,Z8,Z9,Za,Zb,Zc,Zd,Ze,Zf,List.cons.injEq,Zg,Zh,Zi,Zj,Zk,Zl,Zm,Zn,Zo,Zp,beq_self_eq_true,bne_self_eq_false,decide_true,decide_false,Zq,Zr,Zs,Zt,Zu,Zv,Zw,Zx,Zy,Zz,Y0,Y1,Y2,Y3,Y4,Y5,Y6,x_c,x_o,x_l,x_b,g_b,Y7,Y8,Y9,Ya,Yb,Yc,Yd,Ye,Yf,Yg,Yh,Yi,Yj,Yk,Yl,lk,ef,Ym,Yn,Yo,Yp,Yq,Yr,Ys,Yt,Yu,Yv,Yw,Yx,Yy,Yz,X0,X1,X2,X3,X4,X5,X6,X7,X8,X9,Xa,Xb,Xc,Xd,Xe,Xf,Xg,Xh,Xi,Xj,Xk,Xl,Xm,Xn,hv,Xo,ev,Xp,Xq,Xr,Xs,Xt,Xu,Xv,Xw,Xx,Xy,Xz,W0,W1,W2,W3,W4,W5,W6,W7,W8,W9,Wa,Wb,vun,bnd,Wc,Wd,We,zav,Wf,Wg,Wh,Wi,Wj,Wk,Wl,Value.oneCell',Wm,Wn,Wo,Wp,true_and,and_true,and_self,implies_true,Wq,Wr,Ws,Wt,false_implies,Wu,Wv,Ww,Wx,Wy,Wz,V0,V1,V2,V3,V4,V5,V6,V7,V8,V9,Va,reduceCtorEq,if_true,if_false,Vb,↓reduceIte,Vc,Vd,Ve,Vf,Vg,Vh,Vi,ne_eq,not_false_eq_true,not_true_eq_false,Vj,Vk,r29_0,r29_1,r29_2,r29_3,r29_4,r29_5,r29_6,r29_7,r29_8,p29,l29_0,gK,hki,k0,hw,hnx,htl,List.length_map]) | (exfalso; omega)
    all_goals first | done | omega | exact again hJ (k + 1) (weak_mk (by simp only [Vl,wk_nil,wk1,Vm,Vn,Vo,Z0,Z1,Z2,Z3,Z4,Z5,Z6,Z7,Z8,Z9,Za,Zb,Zc,Zd,Ze,Zf,List.cons.injEq,Zg,Zh,Zi,Zj,Zk,Zl,Zm,Zn,Zo,Zp,beq_self_eq_true,bne_self_eq_false,decide_true,decide_false,Zq,Zr,Zs,Zt,Zu,Zv,Zw,Zx,Zy,Zz,Y0,Y1,Y2,Y3,Y4,Y5,Y6,x_c,x_o,x_l,x_b,g_b,Y7,Y8,Y9,Ya,Yb,Yc,Yd,Ye,Yf,Yg,Yh,Yi,Yj,Yk,Yl,lk,ef,Ym,Yn,Yo,Yp,Yq,Yr,Ys,Yt,Yu,Yv,Yw,Yx,Yy,Yz,X0,X1,X2,X3,X4,X5,X6,X7,X8,X9,Xa,Xb,Xc,Xd,Xe,Xf,Xg,Xh,Xi,Xj,Xk,Xl,Xm,Xn,hv,Xo,ev,Xp,Xq,Xr,Xs,Xt,Xu,Xv,Xw,Xx,Xy,Xz,W0,W1,W2,W3,W4,W5,W6,W7,W8,W9,Wa,Wb,vun,bnd,Wc,Wd,We,zav,Wf,Wg,Wh,Wi,Wj,Wk,Wl,Value.oneCell',Wm,Wn,Wo,Wp,true_and,and_true,and_self,implies_true,Wq,Wr,Ws,Wt,false_implies,Wu,Wv,Ww,Wx,Wy,Wz,V0,V1,V2,V3,V4,V5,V6,V7,V8,V9,Va,reduceCtorEq,if_true,if_false,Vb,↓reduceIte,Vc,Vd,Ve,Vf,Vg,Vh,Vi,ne_eq,not_false_eq_true,not_true_eq_false,Vj,Nat.zero_ne_one]; all_goals first | done | rfl)) (by omega) (by omega) | trace_state
  · have hke : k = l.ents.length := by omega
    subst hke
    rw [List.take_length]
    clear hJ
    repeat' first | ((with_reducible (first | refine condD ?_ ?_ | refine condE ?_ ?_ | refine condN ?_ ?_ | refine condI ?_ ?_ | refine condS ?_ ?_)) <;> intro h) | ((with_reducible (first | refine guardD (by with_unfolding_all rfl) ?_ ?_ | refine guardE (by with_unfolding_all rfl) ?_ ?_ | refine guardN (by with_unfolding_all rfl) ?_ ?_ | refine guardI (by with_unfolding_all rfl) ?_ ?_ | refine guardS (by with_unfolding_all rfl) ?_ ?_)) <;> intro h) | (with_reducible refine And.intro ?_ ?_; omega) | (simp only [Z0,Z1,Z2,Z3,Z4,Z5,Z6,Z7,Z8,Z9,Za,Zb,Zc,Zd,Ze,Zf,List.cons.injEq,Zg,Zh,Zi,Zj,Zk,Zl,Zm,Zn,Zo,Zp,beq_self_eq_true,bne_self_eq_false,decide_true,decide_false,Zq,Zr,Zs,Zt,Zu,Zv,Zw,Zx,Zy,Zz,Y0,Y1,Y2,Y3,Y4,Y5,Y6,x_c,x_o,x_l,x_b,g_b,Y7,Y8,Y9,Ya,Yb,Yc,Yd,Ye,Yf,Yg,Yh,Yi,Yj,Yk,Yl,lk,ef,Ym,Yn,Yo,Yp,Yq,Yr,Ys,Yt,Yu,Yv,Yw,Yx,Yy,Yz,X0,X1,X2,X3,X4,X5,X6,X7,X8,X9,Xa,Xb,Xc,Xd,Xe,Xf,Xg,Xh,Xi,Xj,Xk,Xl,Xm,Xn,hv,Xo,ev,Xp,Xq,Xr,Xs,Xt,Xu,Xv,Xw,Xx,Xy,Xz,W0,W1,W2,W3,W4,W5,W6,W7,W8,W9,Wa,Wb,vun,bnd,Wc,Wd,We,zav,Wf,Wg,Wh,Wi,Wj,Wk,Wl,Value.oneCell',Wm,Wn,Wo,Wp,true_and,and_true,and_self,implies_true,Wq,Wr,Ws,Wt,false_implies,Wu,Wv,Ww,Wx,Wy,Wz,V0,V1,V2,V3,V4,V5,V6,V7,V8,V9,Va,reduceCtorEq,if_true,if_false,Vb,↓reduceIte,Vc,Vd,Ve,Vf,Vg,Vh,Vi,ne_eq,not_false_eq_true,not_true_eq_false,Vj,Vk,r29_0,r29_1,r29_2,r29_3,r29_4,r29_5,r29_6,r29_7,r29_8,p29,l29_0]) | (exfalso; omega)
    refine ophG (hold_ok (k := 3) (g := 200) (by with_unfolding_all rfl) (by with_unfolding_all rfl) (by decide)) (fun r hr1 => ?_)
    have hr2 := hr1
    simp only [Value.oneCell'] at hr2
    repeat' first | ((with_reducible (first | refine condD ?_ ?_ | refine condE ?_ ?_ | refine condN ?_ ?_ | refine condI ?_ ?_ | refine condS ?_ ?_)) <;> intro h) | ((with_reducible (first | refine guardD (by with_unfolding_all rfl) ?_ ?_ | refine guardE (by with_unfolding_all rfl) ?_ ?_ | refine guardN (by with_unfolding_all rfl) ?_ ?_ | refine guardI (by with_unfolding_all rfl) ?_ ?_ | refine guardS (by with_unfolding_all rfl) ?_ ?_)) <;> intro h) | (with_reducible refine And.intro ?_ ?_; omega) | (simp only [Z0,Z1,Z2,Z3,Z4,Z5,Z6,Z7,Z8,Z9,Za,Zb,Zc,Zd,Ze,Zf,List.cons.injEq,Zg,Zh,Zi,Zj,Zk,Zl,Zm,Zn,Zo,Zp,beq_self_eq_true,bne_self_eq_false,decide_true,decide_false,Zq,Zr,Zs,Zt,Zu,Zv,Zw,Zx,Zy,Zz,Y0,Y1,Y2,Y3,Y4,Y5,Y6,x_c,x_o,x_l,x_b,g_b,Y7,Y8,Y9,Ya,Yb,Yc,Yd,Ye,Yf,Yg,Yh,Yi,Yj,Yk,Yl,lk,ef,Ym,Yn,Yo,Yp,Yq,Yr,Ys,Yt,Yu,Yv,Yw,Yx,Yy,Yz,X0,X1,X2,X3,X4,X5,X6,X7,X8,X9,Xa,Xb,Xc,Xd,Xe,Xf,Xg,Xh,Xi,Xj,Xk,Xl,Xm,Xn,hv,Xo,ev,Xp,Xq,Xr,Xs,Xt,Xu,Xv,Xw,Xx,Xy,Xz,W0,W1,W2,W3,W4,W5,W6,W7,W8,W9,Wa,Wb,vun,bnd,Wc,Wd,We,zav,Wf,Wg,Wh,Wi,Wj,Wk,Wl,Value.oneCell',Wm,Wn,Wo,Wp,true_and,and_true,and_self,implies_true,Wq,Wr,Ws,Wt,false_implies,Wu,Wv,Ww,Wx,Wy,Wz,V0,V1,V2,V3,V4,V5,V6,V7,V8,V9,Va,reduceCtorEq,if_true,if_false,Vb,↓reduceIte,Vc,Vd,Ve,Vf,Vg,Vh,Vi,ne_eq,not_false_eq_true,not_true_eq_false,Vj,Vk,r29_0,r29_1,r29_2,r29_3,r29_4,r29_5,r29_6,r29_7,r29_8,p29,l29_0,hr2]) | (exfalso; omega)
    refine doneh_ret 200 r ?_ ?_ ?_
    all_goals (simp only [Vl,wk_nil,wk1,Vm,Vn,Vo,Z0,Z1,Z2,Z3,Z4,Z5,Z6,Z7,Z8,Z9,Za,Zb,Zc,Zd,Ze,Zf,List.cons.injEq,Zg,Zh,Zi,Zj,Zk,Zl,Zm,Zn,Zo,Zp,beq_self_eq_true,bne_self_eq_false,decide_true,decide_false,Zq,Zr,Zs,Zt,Zu,Zv,Zw,Zx,Zy,Zz,Y0,Y1,Y2,Y3,Y4,Y5,Y6,x_c,x_o,x_l,x_b,g_b,Y7,Y8,Y9,Ya,Yb,Yc,Yd,Ye,Yf,Yg,Yh,Yi,Yj,Yk,Yl,lk,ef,Ym,Yn,Yo,Yp,Yq,Yr,Ys,Yt,Yu,Yv,Yw,Yx,Yy,Yz,X0,X1,X2,X3,X4,X5,X6,X7,X8,X9,Xa,Xb,Xc,Xd,Xe,Xf,Xg,Xh,Xi,Xj,Xk,Xl,Xm,Xn,hv,Xo,ev,Xp,Xq,Xr,Xs,Xt,Xu,Xv,Xw,Xx,Xy,Xz,W0,W1,W2,W3,W4,W5,W6,W7,W8,W9,Wa,Wb,vun,bnd,Wc,Wd,We,zav,Wf,Wg,Wh,Wi,Wj,Wk,Wl,Value.oneCell',Wm,Wn,Wo,Wp,true_and,and_true,and_self,implies_true,Wq,Wr,Ws,Wt,false_implies,Wu,Wv,Ww,Wx,Wy,Wz,V0,V1,V2,V3,V4,V5,V6,V7,V8,V9,Va,reduceCtorEq,if_true,if_false,Vb,↓reduceIte,Vc,Vd,Ve,Vf,Vg,Vh,Vi,ne_eq,not_false_eq_true,not_true_eq_false,Vj,Nat.zero_ne_one])
    all_goals first | done | rfl | trace_state
end HH
end Go.Proofs.Ytpecmhdepggnoaa
