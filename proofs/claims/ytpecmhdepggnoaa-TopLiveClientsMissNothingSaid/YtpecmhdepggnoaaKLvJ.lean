/- Live lists: clientFault, copyClient (its answer only looked at), by the machine on data. -/
import Derived.Test.YtpecmhdepggnoaaKLvP
namespace Go.Proofs.Ytpecmhdepggnoaa
open Go.RowKit
open Go.Proofs.Ytpecmhdepggnoaa renaming done_eq → Z0, done_eq' → Z1, donet_eq → Z2, donet_eq' → Z3, fin_val → Z4, fin_tup → Z5, fin_agg → Z6, fin_ro → Z7, res_one → Z8, res_more → Z9, rv_t → Za, rv_c → Zb, rv_l → Zc, int_eq → Zg, bool_eq → Zh, toNat_pred → Zr, toNat_succ → Zs, cnd_t → Zu, cnd_f → Zv, grd_tt → Zw, grd_u → Zx, grd_tf → Zy, grd_ft → Zz, grd_ff → Y0, g_skip → Y1, g_ops → Y2, g_seq → Y3, g_block → Y4, g_exit → Y5, g_ret → Y6, x_c → Y7, x_o → Y8, x_l → Y9, x_b → Ya, g_b → Yb, g_nil → Yc, r_all → Yd, o_nil → Ye, g_cond → Yf, o_guard → Yg, o_call → Yh, o_callm → Yi, o_callt → Yj, o_callx → Yk, o_callv → Yl, o_callc → Ym, o_callh → Yn, o_apph → Yo, noav_alias → Yp, noav_nil → Yq, o_mv → Yr, o_pick → Ys, o_bin → Yt, o_never → Yu, o_eqs → Yv, o_eqb → Yw, o_un → Yx, o_conv → Yy, o_load → Yz, o_loadr → X0, o_idxr → X1, o_loads → X2, o_loadsr → X3, o_fld → X4, o_idx → X5, o_idxs → X6, o_len → X7, o_lens → X8, o_ext → X9, o_nilck → Xa, o_slc → Xb, o_slcs → Xc, o_build → Xd, o_minmax → Xe, o_mkfn → Xf, o_mkfnr → Xg, o_alloc → Xh, o_box → Xi, o_boxs → Xj, o_row → Xk, o_rowr → Xl, o_mk → Xm, o_asg → Xn, o_app → Xo, o_appa → Xp, o_store → Xq, o_stores → Xr, o_eqnil → Xs, eqAV → Xt, view_t → Xu, view_c → Xv, view_nil → Xw, view_fn → Xx, look_own → Xy, look_box → Xz, look_junk → W0, look_val → W1, look_nilsl → W2, look_ro → W3, look_roAt → W4, look_agg → W5, look_tup → W6, look_clo → W7, look_alias → W8, look_ref → W9, look_into → Wa, look_fnv → Wb, look_held → Wc, rowOf → Wd, cellsOf → We, argv → Wf, vbin → Wg, vun → Wh, bnd → Wi, elemOf → Wj, putParts → Wk, setAt → Wl, zav → Wm, put_at → Wu, mk_at → Wv, mk_nil → Ww, initSt → Wx, wk_cons → Vt, vint_eq → Vu, vbool_eq → Vv
open Go.Proofs.Ytpecmhdepggnoaa.AV.tup renaming injEq → Zd
open Go.Proofs.Ytpecmhdepggnoaa.AV.agg renaming injEq → Ze
open Go.Proofs.Ytpecmhdepggnoaa.AV.ro renaming injEq → Zf
open _root_.Int renaming toNat_natCast → Zi, reduceToNat → Zj, toNat_zero → Zk, toNat_one → Zl, reduceLE → Zm, reduceLT → Zn, reduceBEq → Zo, reduceBNe → Zp, reduceNeg → Zq
open _root_.List renaming length_map → Zt, map_cons → Wy, map_nil → Wz, forall_mem_cons → V0, not_mem_nil → V1, length_cons → V2, length_nil → V3, getD_cons_zero → V4, getD_cons_succ → V5, getD_nil → V6, drop_succ_cons → V7, drop_zero → V8, take_succ_cons → V9, take_zero → Va, set_cons_zero → Vb, set_cons_succ → Vc, all_cons → Vd, all_nil → Ve
open Go.Proofs.Ytpecmhdepggnoaa.ASt renaming rid → Wn, hold → Wo, free → Wp
open Go.Proofs.Ytpecmhdepggnoaa.AV renaming kill → Wq, isHome → Wr, noLoan → Ws, cellOK → Wt
open _root_.Bool renaming and_true → Vf, true_and → Vg, not_true → Vh, not_false → Vi, false_eq_true → Vj
open _root_.Nat renaming reduceEqDiff → Vk, reduceBNe → Vl, reduceAdd → Vm, reduceSub → Vn, reduceMul → Vo, reduceLeDiff → Vp, reduceLT → Vq, one_ne_zero → Vr, zero_ne_one → Vs
open Go.Proofs.Ytpecmhdepggnoaa.AV.val renaming injEq → Vw
set_option linter.unusedSimpArgs false
--@short

theorem gt_len (n : Nat) (k : Int) : (k < (n : Int)) = decide (k < (n : Int)) := by simp
/-! headend/list.clientFault -/
def r31_0 : List POp := [⟨2, .boxs (.t 0), none⟩,
  ⟨4, .asg (.c (.int .i64 0)), none⟩]
def r31_1 : List POp := [⟨6, .fld 1 (.t 2), none⟩,
  ⟨7, .load (.t 6), none⟩,
  ⟨8, .call 32 [.t 7, .c (.int .i64 0), .c (.int .i64 1000000000000000)], none⟩,
  ⟨9, .mv (.t 8), none⟩,
  ⟨10, .fld 8 (.t 2), some (9, false)⟩,
  ⟨11, .load (.t 10), some (9, false)⟩,
  ⟨12, .call 32 [.t 11, .c (.int .i64 0), .c (.int .i64 1000000000000000)], some (9, false)⟩,
  ⟨13, .pick (.t 9) (.c (.bool true)) (.t 12), none⟩,
  ⟨14, .mv (.t 13), none⟩,
  ⟨15, .mv (.t 1), some (14, false)⟩,
  ⟨16, .call 32 [.t 15, .c (.int .i64 0), .c (.int .i64 1000000000000000)], some (14, false)⟩,
  ⟨17, .pick (.t 14) (.c (.bool true)) (.t 16), none⟩,
  ⟨5, .asg (.t 17), none⟩]
def r31_2 : List POp := [⟨4, .asg (.c (.int .i64 1)), none⟩]
def r31_3 : List POp := [⟨19, .fld 7 (.t 2), none⟩,
  ⟨20, .load (.t 19), none⟩,
  ⟨21, .len (.t 20), none⟩,
  ⟨22, .bin .gtr (.t 21) (.c (.int .i64 2000)), none⟩,
  ⟨18, .asg (.t 22), none⟩]
def r31_4 : List POp := [⟨4, .asg (.c (.int .i64 2)), none⟩]
def r31_5 : List POp := [⟨4, .asg (.c (.int .i64 0)), none⟩]
def p31 : PCode := .seq (.ops r31_0) (.seq (.block 0 (.seq (.ops r31_1) (.cond (.t 5) (.seq (.ops r31_2) (.ret)) (.seq (.ops r31_3) (.cond (.t 18) (.seq (.ops r31_4) (.ret)) (.skip)))))) (.seq (.ops r31_5) (.ret)))
theorem ok31 : okFunc Try.prog 31 [.t 4] 2 p31 = true := by kernel_rfl
theorem clientfault_c (c : CL) (hq : c.queue.length ≤ 9000000000000000000) (back : Int) : CallOK Try.prog 31 [.agg c.av, .val (.int .i64 back)] (.val (.int .i64 (clF c back))) := by
  refine call_of mixed ok31 rfl ?_
  have c1 := out_c c.next 0 1000000000000000
  have c2 := out_c c.lost 0 1000000000000000
  have c3 := out_c back 0 1000000000000000
  unfold clF
  cases q1 : outB c.next 0 1000000000000000
  case true =>
    rw [q1] at c1
    rw [if_pos (by simp)]
    repeat' first | ((with_reducible (first | refine condD ?_ ?_ | refine condE ?_ ?_ | refine condN ?_ ?_ | refine condI ?_ ?_ | refine condS ?_ ?_)) <;> intro h) | ((with_reducible (first | refine guardD (by with_unfolding_all rfl) ?_ ?_ | refine guardE (by with_unfolding_all rfl) ?_ ?_ | refine guardN (by with_unfolding_all rfl) ?_ ?_ | refine guardI (by with_unfolding_all rfl) ?_ ?_ | refine guardS (by with_unfolding_all rfl) ?_ ?_)) <;> intro h) | ((refine callG c1 ?_)) | (with_reducible refine And.intro ?_ ?_; omega) | (simp only [Z0,Z1,Z2,Z3,Z4,Z5,Z6,Z7,Z8,Z9,Za,Zb,Zc,Zd,Ze,Zf,List.cons.injEq,Zg,Zh,Zi,Zj,Zk,Zl,Zm,Zn,Zo,Zp,beq_self_eq_true,bne_self_eq_false,decide_true,decide_false,Zq,Zr,Zs,Zt,Zu,Zv,Zw,Zx,Zy,Zz,Y0,Y1,Y2,Y3,Y4,Y5,Y6,Y7,Y8,Y9,Ya,Yb,Yc,Yd,Ye,Yf,Yg,Yh,Yi,Yj,Yk,Yl,Ym,Yn,Yo,Yp,Yq,lk,ef,Yr,Ys,Yt,Yu,Yv,Yw,Yx,Yy,Yz,X0,X1,X2,X3,X4,X5,X6,X7,X8,X9,Xa,Xb,Xc,Xd,Xe,Xf,Xg,Xh,Xi,Xj,Xk,Xl,Xm,Xn,Xo,Xp,Xq,Xr,Xs,hv,Xt,ev,Xu,Xv,Xw,Xx,Xy,Xz,W0,W1,W2,W3,W4,W5,W6,W7,W8,W9,Wa,Wb,Wc,Wd,We,Wf,Wg,Wh,Wi,Wj,Wk,Wl,Wm,Wn,Wo,Wp,Wq,Wr,Ws,Wt,Value.oneCell',Wu,Wv,Ww,Wx,true_and,and_true,and_self,implies_true,Wy,Wz,V0,V1,false_implies,V2,V3,V4,V5,V6,V7,V8,V9,Va,Vb,Vc,Vd,Ve,Vf,Vg,Vh,Vi,reduceCtorEq,if_true,if_false,Vj,↓reduceIte,Vk,Vl,Vm,Vn,Vo,Vp,Vq,ne_eq,not_false_eq_true,not_true_eq_false,Vr,Vs,r31_0,r31_1,r31_2,r31_3,r31_4,r31_5,p31,CL.av,List.length_map]) | (exfalso; omega)
    all_goals first | done | trace_state
  rw [q1] at c1
  cases q2 : outB c.lost 0 1000000000000000
  case true =>
    rw [q2] at c2
    rw [if_pos (by simp)]
    repeat' first | ((with_reducible (first | refine condD ?_ ?_ | refine condE ?_ ?_ | refine condN ?_ ?_ | refine condI ?_ ?_ | refine condS ?_ ?_)) <;> intro h) | ((with_reducible (first | refine guardD (by with_unfolding_all rfl) ?_ ?_ | refine guardE (by with_unfolding_all rfl) ?_ ?_ | refine guardN (by with_unfolding_all rfl) ?_ ?_ | refine guardI (by with_unfolding_all rfl) ?_ ?_ | refine guardS (by with_unfolding_all rfl) ?_ ?_)) <;> intro h) | ((refine callG c1 ?_)) | ((refine callG c2 ?_)) | (with_reducible refine And.intro ?_ ?_; omega) | (simp only [Z0,Z1,Z2,Z3,Z4,Z5,Z6,Z7,Z8,Z9,Za,Zb,Zc,Zd,Ze,Zf,List.cons.injEq,Zg,Zh,Zi,Zj,Zk,Zl,Zm,Zn,Zo,Zp,beq_self_eq_true,bne_self_eq_false,decide_true,decide_false,Zq,Zr,Zs,Zt,Zu,Zv,Zw,Zx,Zy,Zz,Y0,Y1,Y2,Y3,Y4,Y5,Y6,Y7,Y8,Y9,Ya,Yb,Yc,Yd,Ye,Yf,Yg,Yh,Yi,Yj,Yk,Yl,Ym,Yn,Yo,Yp,Yq,lk,ef,Yr,Ys,Yt,Yu,Yv,Yw,Yx,Yy,Yz,X0,X1,X2,X3,X4,X5,X6,X7,X8,X9,Xa,Xb,Xc,Xd,Xe,Xf,Xg,Xh,Xi,Xj,Xk,Xl,Xm,Xn,Xo,Xp,Xq,Xr,Xs,hv,Xt,ev,Xu,Xv,Xw,Xx,Xy,Xz,W0,W1,W2,W3,W4,W5,W6,W7,W8,W9,Wa,Wb,Wc,Wd,We,Wf,Wg,Wh,Wi,Wj,Wk,Wl,Wm,Wn,Wo,Wp,Wq,Wr,Ws,Wt,Value.oneCell',Wu,Wv,Ww,Wx,true_and,and_true,and_self,implies_true,Wy,Wz,V0,V1,false_implies,V2,V3,V4,V5,V6,V7,V8,V9,Va,Vb,Vc,Vd,Ve,Vf,Vg,Vh,Vi,reduceCtorEq,if_true,if_false,Vj,↓reduceIte,Vk,Vl,Vm,Vn,Vo,Vp,Vq,ne_eq,not_false_eq_true,not_true_eq_false,Vr,Vs,r31_0,r31_1,r31_2,r31_3,r31_4,r31_5,p31,CL.av,List.length_map]) | (exfalso; omega)
    all_goals first | done | trace_state
  rw [q2] at c2
  cases q3 : outB back 0 1000000000000000
  case true =>
    rw [q3] at c3
    rw [if_pos (by simp)]
    repeat' first | ((with_reducible (first | refine condD ?_ ?_ | refine condE ?_ ?_ | refine condN ?_ ?_ | refine condI ?_ ?_ | refine condS ?_ ?_)) <;> intro h) | ((with_reducible (first | refine guardD (by with_unfolding_all rfl) ?_ ?_ | refine guardE (by with_unfolding_all rfl) ?_ ?_ | refine guardN (by with_unfolding_all rfl) ?_ ?_ | refine guardI (by with_unfolding_all rfl) ?_ ?_ | refine guardS (by with_unfolding_all rfl) ?_ ?_)) <;> intro h) | ((refine callG c1 ?_)) | ((refine callG c2 ?_)) | ((refine callG c3 ?_)) | (with_reducible refine And.intro ?_ ?_; omega) | (simp only [Z0,Z1,Z2,Z3,Z4,Z5,Z6,Z7,Z8,Z9,Za,Zb,Zc,Zd,Ze,Zf,List.cons.injEq,Zg,Zh,Zi,Zj,Zk,Zl,Zm,Zn,Zo,Zp,beq_self_eq_true,bne_self_eq_false,decide_true,decide_false,Zq,Zr,Zs,Zt,Zu,Zv,Zw,Zx,Zy,Zz,Y0,Y1,Y2,Y3,Y4,Y5,Y6,Y7,Y8,Y9,Ya,Yb,Yc,Yd,Ye,Yf,Yg,Yh,Yi,Yj,Yk,Yl,Ym,Yn,Yo,Yp,Yq,lk,ef,Yr,Ys,Yt,Yu,Yv,Yw,Yx,Yy,Yz,X0,X1,X2,X3,X4,X5,X6,X7,X8,X9,Xa,Xb,Xc,Xd,Xe,Xf,Xg,Xh,Xi,Xj,Xk,Xl,Xm,Xn,Xo,Xp,Xq,Xr,Xs,hv,Xt,ev,Xu,Xv,Xw,Xx,Xy,Xz,W0,W1,W2,W3,W4,W5,W6,W7,W8,W9,Wa,Wb,Wc,Wd,We,Wf,Wg,Wh,Wi,Wj,Wk,Wl,Wm,Wn,Wo,Wp,Wq,Wr,Ws,Wt,Value.oneCell',Wu,Wv,Ww,Wx,true_and,and_true,and_self,implies_true,Wy,Wz,V0,V1,false_implies,V2,V3,V4,V5,V6,V7,V8,V9,Va,Vb,Vc,Vd,Ve,Vf,Vg,Vh,Vi,reduceCtorEq,if_true,if_false,Vj,↓reduceIte,Vk,Vl,Vm,Vn,Vo,Vp,Vq,ne_eq,not_false_eq_true,not_true_eq_false,Vr,Vs,r31_0,r31_1,r31_2,r31_3,r31_4,r31_5,p31,CL.av,List.length_map]) | (exfalso; omega)
    all_goals first | done | trace_state
  rw [q3] at c3
  rw [if_neg (by simp)]
  by_cases q4 : 2000 < c.queue.length
  · have q4i : (2000 : Int) < c.queue.length := by omega
    rw [if_pos q4]
    repeat' first | ((with_reducible (first | refine condD ?_ ?_ | refine condE ?_ ?_ | refine condN ?_ ?_ | refine condI ?_ ?_ | refine condS ?_ ?_)) <;> intro h) | ((with_reducible (first | refine guardD (by with_unfolding_all rfl) ?_ ?_ | refine guardE (by with_unfolding_all rfl) ?_ ?_ | refine guardN (by with_unfolding_all rfl) ?_ ?_ | refine guardI (by with_unfolding_all rfl) ?_ ?_ | refine guardS (by with_unfolding_all rfl) ?_ ?_)) <;> intro h) | ((refine callG c1 ?_)) | ((refine callG c2 ?_)) | ((refine callG c3 ?_)) | (with_reducible refine And.intro ?_ ?_; omega) | (simp only [Z0,Z1,Z2,Z3,Z4,Z5,Z6,Z7,Z8,Z9,Za,Zb,Zc,Zd,Ze,Zf,List.cons.injEq,Zg,Zh,Zi,Zj,Zk,Zl,Zm,Zn,Zo,Zp,beq_self_eq_true,bne_self_eq_false,decide_true,decide_false,Zq,Zr,Zs,Zt,Zu,Zv,Zw,Zx,Zy,Zz,Y0,Y1,Y2,Y3,Y4,Y5,Y6,Y7,Y8,Y9,Ya,Yb,Yc,Yd,Ye,Yf,Yg,Yh,Yi,Yj,Yk,Yl,Ym,Yn,Yo,Yp,Yq,lk,ef,Yr,Ys,Yt,Yu,Yv,Yw,Yx,Yy,Yz,X0,X1,X2,X3,X4,X5,X6,X7,X8,X9,Xa,Xb,Xc,Xd,Xe,Xf,Xg,Xh,Xi,Xj,Xk,Xl,Xm,Xn,Xo,Xp,Xq,Xr,Xs,hv,Xt,ev,Xu,Xv,Xw,Xx,Xy,Xz,W0,W1,W2,W3,W4,W5,W6,W7,W8,W9,Wa,Wb,Wc,Wd,We,Wf,Wg,Wh,Wi,Wj,Wk,Wl,Wm,Wn,Wo,Wp,Wq,Wr,Ws,Wt,Value.oneCell',Wu,Wv,Ww,Wx,true_and,and_true,and_self,implies_true,Wy,Wz,V0,V1,false_implies,V2,V3,V4,V5,V6,V7,V8,V9,Va,Vb,Vc,Vd,Ve,Vf,Vg,Vh,Vi,reduceCtorEq,if_true,if_false,Vj,↓reduceIte,Vk,Vl,Vm,Vn,Vo,Vp,Vq,ne_eq,not_false_eq_true,not_true_eq_false,Vr,Vs,r31_0,r31_1,r31_2,r31_3,r31_4,r31_5,p31,CL.av,Zt,q4i]) | (exfalso; omega)
    all_goals first | done | trace_state
  · have q4i : ¬ (2000 : Int) < c.queue.length := by omega
    rw [if_neg q4]
    repeat' first | ((with_reducible (first | refine condD ?_ ?_ | refine condE ?_ ?_ | refine condN ?_ ?_ | refine condI ?_ ?_ | refine condS ?_ ?_)) <;> intro h) | ((with_reducible (first | refine guardD (by with_unfolding_all rfl) ?_ ?_ | refine guardE (by with_unfolding_all rfl) ?_ ?_ | refine guardN (by with_unfolding_all rfl) ?_ ?_ | refine guardI (by with_unfolding_all rfl) ?_ ?_ | refine guardS (by with_unfolding_all rfl) ?_ ?_)) <;> intro h) | ((refine callG c1 ?_)) | ((refine callG c2 ?_)) | ((refine callG c3 ?_)) | (with_reducible refine And.intro ?_ ?_; omega) | (simp only [Z0,Z1,Z2,Z3,Z4,Z5,Z6,Z7,Z8,Z9,Za,Zb,Zc,Zd,Ze,Zf,List.cons.injEq,Zg,Zh,Zi,Zj,Zk,Zl,Zm,Zn,Zo,Zp,beq_self_eq_true,bne_self_eq_false,decide_true,decide_false,Zq,Zr,Zs,Zt,Zu,Zv,Zw,Zx,Zy,Zz,Y0,Y1,Y2,Y3,Y4,Y5,Y6,Y7,Y8,Y9,Ya,Yb,Yc,Yd,Ye,Yf,Yg,Yh,Yi,Yj,Yk,Yl,Ym,Yn,Yo,Yp,Yq,lk,ef,Yr,Ys,Yt,Yu,Yv,Yw,Yx,Yy,Yz,X0,X1,X2,X3,X4,X5,X6,X7,X8,X9,Xa,Xb,Xc,Xd,Xe,Xf,Xg,Xh,Xi,Xj,Xk,Xl,Xm,Xn,Xo,Xp,Xq,Xr,Xs,hv,Xt,ev,Xu,Xv,Xw,Xx,Xy,Xz,W0,W1,W2,W3,W4,W5,W6,W7,W8,W9,Wa,Wb,Wc,Wd,We,Wf,Wg,Wh,Wi,Wj,Wk,Wl,Wm,Wn,Wo,Wp,Wq,Wr,Ws,Wt,Value.oneCell',Wu,Wv,Ww,Wx,true_and,and_true,and_self,implies_true,Wy,Wz,V0,V1,false_implies,V2,V3,V4,V5,V6,V7,V8,V9,Va,Vb,Vc,Vd,Ve,Vf,Vg,Vh,Vi,reduceCtorEq,if_true,if_false,Vj,↓reduceIte,Vk,Vl,Vm,Vn,Vo,Vp,Vq,ne_eq,not_false_eq_true,not_true_eq_false,Vr,Vs,r31_0,r31_1,r31_2,r31_3,r31_4,r31_5,p31,CL.av,Zt,q4i]) | (exfalso; omega)
    all_goals first | done | trace_state
def CL.small (c : CL) : Prop := c.last.small ∧ c.queue.length ≤ 2000 ∧ ∀ q ∈ c.queue, q.ent.extra.length ≤ 20
/-! headend/list.copyClient -/
def r28_0 : List POp := [⟨1, .boxs (.t 0), none⟩,
  ⟨2, .alloc [.bool false, .int .i64 0, .int .i64 0, .int .i64 0, .int .i64 0, .slice none 0 0, .bool false, .slice none 0 0, .int .i64 0], none⟩]
def r28_1 : List POp := [⟨6, .fld 2 (.t 1), none⟩,
  ⟨7, .loads 5 (.t 6), none⟩,
  ⟨8, .call 29 [.t 7], none⟩,
  ⟨9, .fld 2 (.t 1), none⟩,
  ⟨0, .stores 5 (.t 9) (.t 8), none⟩]
def r28_2 : List POp := [⟨3, .asg .nil, none⟩]
def r28_3 : List POp := [⟨10, .fld 7 (.t 1), none⟩,
  ⟨11, .load (.t 10), none⟩,
  ⟨12, .len (.t 11), none⟩,
  ⟨13, .mv (.c (.int .i64 0)), none⟩]
def r28_4 : List POp := [⟨14, .bin .lss (.t 13) (.t 12), none⟩]
def r28_5 : List POp := [⟨15, .idx 8 (.t 11) (.t 13), none⟩,
  ⟨16, .loads 8 (.t 15), none⟩,
  ⟨5, .alloc [.int .i64 0, .string ⟨#[]⟩, .int .i64 0, .bool false, .int .i64 0, .string ⟨#[]⟩, .bool false, .slice none 0 0], none⟩,
  ⟨0, .stores 8 (.t 5) (.t 16), none⟩]
def r28_6 : List POp := [⟨17, .mv (.t 3), none⟩,
  ⟨18, .fld 0 (.t 5), none⟩,
  ⟨19, .load (.t 18), none⟩,
  ⟨20, .fld 1 (.t 5), none⟩,
  ⟨21, .loads 7 (.t 20), none⟩,
  ⟨22, .call 30 [.t 21], none⟩,
  ⟨23, .build [.int .i64 0, .string ⟨#[]⟩, .int .i64 0, .bool false, .int .i64 0, .string ⟨#[]⟩, .bool false, .slice none 0 0] [(0, 1, .t 19), (1, 7, .t 22)], none⟩,
  ⟨24, .row 39 8 [.t 23], none⟩,
  ⟨25, .app 39 8 96 (.t 17) (.t 24), none⟩,
  ⟨3, .asg (.t 25), none⟩]
def r28_7 : List POp := [⟨26, .bin .add (.t 13) (.c (.int .i64 1)), none⟩,
  ⟨13, .mv (.t 26), none⟩]
def r28_8 : List POp := [⟨27, .mv (.t 3), none⟩,
  ⟨28, .fld 7 (.t 1), none⟩,
  ⟨0, .store (.t 28) (.t 27), none⟩]
def r28_9 : List POp := [⟨29, .loads 9 (.t 1), none⟩,
  ⟨0, .stores 9 (.t 2) (.t 29), none⟩]
def l28_0 : PCode := .seq (.ops r28_4) (.seq (.cond (.t 14) (.skip) (.exit 0)) (.seq (.block 1 (.seq (.ops r28_5) (.ops r28_6))) (.ops r28_7)))
def p28 : PCode := .seq (.ops r28_0) (.seq (.ops r28_1) (.seq (.ops r28_2) (.seq (.seq (.ops r28_3) (.block 0 (.loop l28_0))) (.seq (.opw r28_8) (.seq (.ops r28_9) (.ret))))))
theorem ok28 : okFunc Try.prog 28 [.c 2 9] 1 p28 = true := by kernel_rfl
theorem copycl_c (c : CL) (hs : c.small) : CallOK Try.prog 28 [.agg c.av] (.agg c.av) := by
  refine call_of mixed ok28 rfl ?_
  obtain ⟨h1, hl, he⟩ := hs
  have c0 := copyl_c c.last h1
  simp only [PL.av] at c0
  repeat' first | ((with_reducible (first | refine condD ?_ ?_ | refine condE ?_ ?_ | refine condN ?_ ?_ | refine condI ?_ ?_ | refine condS ?_ ?_)) <;> intro h) | ((with_reducible (first | refine guardD (by with_unfolding_all rfl) ?_ ?_ | refine guardE (by with_unfolding_all rfl) ?_ ?_ | refine guardN (by with_unfolding_all rfl) ?_ ?_ | refine guardI (by with_unfolding_all rfl) ?_ ?_ | refine guardS (by with_unfolding_all rfl) ?_ ?_)) <;> intro h) | ((refine callG c0 ?_)) | (with_reducible refine And.intro ?_ ?_; omega) | (simp only [Z0,Z1,Z2,Z3,Z4,Z5,Z6,Z7,Z8,Z9,Za,Zb,Zc,Zd,Ze,Zf,List.cons.injEq,Zg,Zh,Zi,Zj,Zk,Zl,Zm,Zn,Zo,Zp,beq_self_eq_true,bne_self_eq_false,decide_true,decide_false,Zq,Zr,Zs,Zt,Zu,Zv,Zw,Zx,Zy,Zz,Y0,Y1,Y2,Y3,Y4,Y5,Y6,Y7,Y8,Y9,Ya,Yb,Yc,Yd,Ye,Yf,Yg,Yh,Yi,Yj,Yk,Yl,Ym,Yn,Yo,Yp,Yq,lk,ef,Yr,Ys,Yt,Yu,Yv,Yw,Yx,Yy,Yz,X0,X1,X2,X3,X4,X5,X6,X7,X8,X9,Xa,Xb,Xc,Xd,Xe,Xf,Xg,Xh,Xi,Xj,Xk,Xl,Xm,Xn,Xo,Xp,Xq,Xr,Xs,hv,Xt,ev,Xu,Xv,Xw,Xx,Xy,Xz,W0,W1,W2,W3,W4,W5,W6,W7,W8,W9,Wa,Wb,Wc,Wd,We,Wf,Wg,Wh,Wi,Wj,Wk,Wl,Wm,Wn,Wo,Wp,Wq,Wr,Ws,Wt,Value.oneCell',Wu,Wv,Ww,Wx,true_and,and_true,and_self,implies_true,Wy,Wz,V0,V1,false_implies,V2,V3,V4,V5,V6,V7,V8,V9,Va,Vb,Vc,Vd,Ve,Vf,Vg,Vh,Vi,reduceCtorEq,if_true,if_false,Vj,↓reduceIte,Vk,Vl,Vm,Vn,Vo,Vp,Vq,ne_eq,not_false_eq_true,not_true_eq_false,Vr,Vs,r28_0,r28_1,r28_2,r28_3,r28_4,r28_5,r28_6,r28_7,r28_8,r28_9,p28,CL.av,List.length_map]) | (exfalso; omega)
  refine loopS (fun k : Nat => mk [(1, .box c.av), (2, .box [.val (.bool false), .val (.int .i64 0), .val (.int .i64 0), .val (.int .i64 0), .val (.int .i64 0), .nilsl, .val (.bool false), .nilsl, .val (.int .i64 0)]), (3, .own 39 8 ((c.queue.take k).map QI.av)), (11, .ro (c.queue.map QI.av)), (12, .val (.int .i64 c.queue.length)), (13, .val (.int .i64 k))]) (fun k => k ≤ c.queue.length) (fun k => c.queue.length - k) 0 (weak_mk ?_) (Nat.zero_le _) ?_
  · simp only [CL.av]
    simp only [Vt,wk_nil,wk1,Vu,Vv,Vw,Z0,Z1,Z2,Z3,Z4,Z5,Z6,Z7,Z8,Z9,Za,Zb,Zc,Zd,Ze,Zf,List.cons.injEq,Zg,Zh,Zi,Zj,Zk,Zl,Zm,Zn,Zo,Zp,beq_self_eq_true,bne_self_eq_false,decide_true,decide_false,Zq,Zr,Zs,Zt,Zu,Zv,Zw,Zx,Zy,Zz,Y0,Y1,Y2,Y3,Y4,Y5,Y6,Y7,Y8,Y9,Ya,Yb,Yc,Yd,Ye,Yf,Yg,Yh,Yi,Yj,Yk,Yl,Ym,Yn,Yo,Yp,Yq,lk,ef,Yr,Ys,Yt,Yu,Yv,Yw,Yx,Yy,Yz,X0,X1,X2,X3,X4,X5,X6,X7,X8,X9,Xa,Xb,Xc,Xd,Xe,Xf,Xg,Xh,Xi,Xj,Xk,Xl,Xm,Xn,Xo,Xp,Xq,Xr,Xs,hv,Xt,ev,Xu,Xv,Xw,Xx,Xy,Xz,W0,W1,W2,W3,W4,W5,W6,W7,W8,W9,Wa,Wb,Wc,Wd,We,Wf,Wg,Wh,Wi,Wj,Wk,Wl,Wm,Wn,Wo,Wp,Wq,Wr,Ws,Wt,Value.oneCell',Wu,Wv,Ww,Wx,true_and,and_true,and_self,implies_true,Wy,Wz,V0,V1,false_implies,V2,V3,V4,V5,V6,V7,V8,V9,Va,Vb,Vc,Vd,Ve,Vf,Vg,Vh,Vi,reduceCtorEq,if_true,if_false,Vj,↓reduceIte,Vk,Vl,Vm,Vn,Vo,Vp,Vq,ne_eq,not_false_eq_true,not_true_eq_false,Vr,Nat.zero_ne_one]
    all_goals first | done | rfl | simp | trace_state
  rintro J hJ k hk
  simp only [CL.av] at hJ ⊢
  simp only [Z0,Z1,Z2,Z3,Z4,Z5,Z6,Z7,Z8,Z9,Za,Zb,Zc,Zd,Ze,Zf,List.cons.injEq,Zg,Zh,Zi,Zj,Zk,Zl,Zm,Zn,Zo,Zp,beq_self_eq_true,bne_self_eq_false,decide_true,decide_false,Zq,Zr,Zs,Zt,Zu,Zv,Zw,Zx,Zy,Zz,Y0,Y1,Y2,Y3,Y4,Y5,Y6,Y7,Y8,Y9,Ya,Yb,Yc,Yd,Ye,Yf,Yg,Yh,Yi,Yj,Yk,Yl,Ym,Yn,Yo,Yp,Yq,lk,ef,Yr,Ys,Yt,Yu,Yv,Yw,Yx,Yy,Yz,X0,X1,X2,X3,X4,X5,X6,X7,X8,X9,Xa,Xb,Xc,Xd,Xe,Xf,Xg,Xh,Xi,Xj,Xk,Xl,Xm,Xn,Xo,Xp,Xq,Xr,Xs,hv,Xt,ev,Xu,Xv,Xw,Xx,Xy,Xz,W0,W1,W2,W3,W4,W5,W6,W7,W8,W9,Wa,Wb,Wc,Wd,We,Wf,Wg,Wh,Wi,Wj,Wk,Wl,Wm,Wn,Wo,Wp,Wq,Wr,Ws,Wt,Value.oneCell',Wu,Wv,Ww,Wx,true_and,and_true,and_self,implies_true,Wy,Wz,V0,V1,false_implies,V2,V3,V4,V5,V6,V7,V8,V9,Va,Vb,Vc,Vd,Ve,Vf,Vg,Vh,Vi,reduceCtorEq,if_true,if_false,Vj,↓reduceIte,Vk,Vl,Vm,Vn,Vo,Vp,Vq,ne_eq,not_false_eq_true,not_true_eq_false,Vr,Vs,r28_0,r28_1,r28_2,r28_3,r28_4,r28_5,r28_6,r28_7,r28_8,r28_9,p28,l28_0]
  refine condD (fun h => ?_) (fun h => ?_)
  · have hlt : k < c.queue.length := by omega
    have hw := i_add1 k (by omega)
    have gK := getD_map (f := QI.av) (d := []) hlt
    have hki : (k : Int) < c.queue.length := by omega
    have k0 : (0 : Int) ≤ (k : Int) := by omega
    have c1 := copye_c c.queue[k].ent (by have := he _ (List.getElem_mem hlt); omega)
    have hnx : (c.queue.take k).map QI.av ++ [c.queue[k].av] = (c.queue.take (k + 1)).map QI.av := by
      rw [List.take_succ_eq_append_getElem hlt, List.map_append]; rfl
    have htl : (c.queue.take k).length = k := by rw [List.length_take]; omega
    generalize c.queue[k] = e at *
    simp only [QI.av, LE.av] at gK c1 hnx
    repeat' first | ((with_reducible (first | refine condD ?_ ?_ | refine condE ?_ ?_ | refine condN ?_ ?_ | refine condI ?_ ?_ | refine condS ?_ ?_)) <;> intro h) | ((with_reducible (first | refine guardD (by with_unfolding_all rfl) ?_ ?_ | refine guardE (by with_unfolding_all rfl) ?_ ?_ | refine guardN (by with_unfolding_all rfl) ?_ ?_ | refine guardI (by with_unfolding_all rfl) ?_ ?_ | refine guardS (by with_unfolding_all rfl) ?_ ?_)) <;> intro h) | ((refine callG c1 ?_)) | (with_reducible refine And.intro ?_ ?_; omega) | (simp only [Z0,Z1,Z2,Z3,Z4,Z5,Z6,Z7,Z8,Z9,Za,Zb,Zc,Zd,Ze,Zf,List.cons.injEq,Zg,Zh,Zi,Zj,Zk,Zl,Zm,Zn,Zo,Zp,beq_self_eq_true,bne_self_eq_false,decide_true,decide_false,Zq,Zr,Zs,Zt,Zu,Zv,Zw,Zx,Zy,Zz,Y0,Y1,Y2,Y3,Y4,Y5,Y6,Y7,Y8,Y9,Ya,Yb,Yc,Yd,Ye,Yf,Yg,Yh,Yi,Yj,Yk,Yl,Ym,Yn,Yo,Yp,Yq,lk,ef,Yr,Ys,Yt,Yu,Yv,Yw,Yx,Yy,Yz,X0,X1,X2,X3,X4,X5,X6,X7,X8,X9,Xa,Xb,Xc,Xd,Xe,Xf,Xg,Xh,Xi,Xj,Xk,Xl,Xm,Xn,Xo,Xp,Xq,Xr,Xs,hv,Xt,ev,Xu,Xv,Xw,Xx,Xy,Xz,W0,W1,W2,W3,W4,W5,W6,W7,W8,W9,Wa,Wb,Wc,Wd,We,Wf,Wg,Wh,Wi,Wj,Wk,Wl,Wm,Wn,Wo,Wp,Wq,Wr,Ws,Wt,Value.oneCell',Wu,Wv,Ww,Wx,true_and,and_true,and_self,implies_true,Wy,Wz,V0,V1,false_implies,V2,V3,V4,V5,V6,V7,V8,V9,Va,Vb,Vc,Vd,Ve,Vf,Vg,Vh,Vi,reduceCtorEq,if_true,if_false,Vj,↓reduceIte,Vk,Vl,Vm,Vn,Vo,Vp,Vq,ne_eq,not_false_eq_true,not_true_eq_false,Vr,Vs,r28_0,r28_1,r28_2,r28_3,r28_4,r28_5,r28_6,r28_7,r28_8,r28_9,p28,l28_0,gK,hki,k0,hw,hnx,htl,List.length_map]) | (exfalso; omega)
    all_goals first | done | omega | exact again hJ (k + 1) (weak_mk (by simp only [Vt,wk_nil,wk1,Vu,Vv,Vw,Z0,Z1,Z2,Z3,Z4,Z5,Z6,Z7,Z8,Z9,Za,Zb,Zc,Zd,Ze,Zf,List.cons.injEq,Zg,Zh,Zi,Zj,Zk,Zl,Zm,Zn,Zo,Zp,beq_self_eq_true,bne_self_eq_false,decide_true,decide_false,Zq,Zr,Zs,Zt,Zu,Zv,Zw,Zx,Zy,Zz,Y0,Y1,Y2,Y3,Y4,Y5,Y6,Y7,Y8,Y9,Ya,Yb,Yc,Yd,Ye,Yf,Yg,Yh,Yi,Yj,Yk,Yl,Ym,Yn,Yo,Yp,Yq,lk,ef,Yr,Ys,Yt,Yu,Yv,Yw,Yx,Yy,Yz,X0,X1,X2,X3,X4,X5,X6,X7,X8,X9,Xa,Xb,Xc,Xd,Xe,Xf,Xg,Xh,Xi,Xj,Xk,Xl,Xm,Xn,Xo,Xp,Xq,Xr,Xs,hv,Xt,ev,Xu,Xv,Xw,Xx,Xy,Xz,W0,W1,W2,W3,W4,W5,W6,W7,W8,W9,Wa,Wb,Wc,Wd,We,Wf,Wg,Wh,Wi,Wj,Wk,Wl,Wm,Wn,Wo,Wp,Wq,Wr,Ws,Wt,Value.oneCell',Wu,Wv,Ww,Wx,true_and,and_true,and_self,implies_true,Wy,Wz,V0,V1,false_implies,V2,V3,V4,V5,V6,V7,V8,V9,Va,Vb,Vc,Vd,Ve,Vf,Vg,Vh,Vi,reduceCtorEq,if_true,if_false,Vj,↓reduceIte,Vk,Vl,Vm,Vn,Vo,Vp,Vq,ne_eq,not_false_eq_true,not_true_eq_false,Vr,Nat.zero_ne_one]; all_goals first | done | rfl)) (by omega) (by omega) | trace_state
  · have hke : k = c.queue.length := by omega
    subst hke
    rw [List.take_length]
    clear hJ
    repeat' first | ((with_reducible (first | refine condD ?_ ?_ | refine condE ?_ ?_ | refine condN ?_ ?_ | refine condI ?_ ?_ | refine condS ?_ ?_)) <;> intro h) | ((with_reducible (first | refine guardD (by with_unfolding_all rfl) ?_ ?_ | refine guardE (by with_unfolding_all rfl) ?_ ?_ | refine guardN (by with_unfolding_all rfl) ?_ ?_ | refine guardI (by with_unfolding_all rfl) ?_ ?_ | refine guardS (by with_unfolding_all rfl) ?_ ?_)) <;> intro h) | (with_reducible refine And.intro ?_ ?_; omega) | (simp only [Z0,Z1,Z2,Z3,Z4,Z5,Z6,Z7,Z8,Z9,Za,Zb,Zc,Zd,Ze,Zf,List.cons.injEq,Zg,Zh,Zi,Zj,Zk,Zl,Zm,Zn,Zo,Zp,beq_self_eq_true,bne_self_eq_false,decide_true,decide_false,Zq,Zr,Zs,Zt,Zu,Zv,Zw,Zx,Zy,Zz,Y0,Y1,Y2,Y3,Y4,Y5,Y6,Y7,Y8,Y9,Ya,Yb,Yc,Yd,Ye,Yf,Yg,Yh,Yi,Yj,Yk,Yl,Ym,Yn,Yo,Yp,Yq,lk,ef,Yr,Ys,Yt,Yu,Yv,Yw,Yx,Yy,Yz,X0,X1,X2,X3,X4,X5,X6,X7,X8,X9,Xa,Xb,Xc,Xd,Xe,Xf,Xg,Xh,Xi,Xj,Xk,Xl,Xm,Xn,Xo,Xp,Xq,Xr,Xs,hv,Xt,ev,Xu,Xv,Xw,Xx,Xy,Xz,W0,W1,W2,W3,W4,W5,W6,W7,W8,W9,Wa,Wb,Wc,Wd,We,Wf,Wg,Wh,Wi,Wj,Wk,Wl,Wm,Wn,Wo,Wp,Wq,Wr,Ws,Wt,Value.oneCell',Wu,Wv,Ww,Wx,true_and,and_true,and_self,implies_true,Wy,Wz,V0,V1,false_implies,V2,V3,V4,V5,V6,V7,V8,V9,Va,Vb,Vc,Vd,Ve,Vf,Vg,Vh,Vi,reduceCtorEq,if_true,if_false,Vj,↓reduceIte,Vk,Vl,Vm,Vn,Vo,Vp,Vq,ne_eq,not_false_eq_true,not_true_eq_false,Vr,Vs,r28_0,r28_1,r28_2,r28_3,r28_4,r28_5,r28_6,r28_7,r28_8,r28_9,p28,l28_0]) | (exfalso; omega)
    refine opwG (weak_mk (l := [(1, .box c.av), (2, .box [.val (.bool false), .val (.int .i64 0), .val (.int .i64 0), .val (.int .i64 0), .val (.int .i64 0), .nilsl, .val (.bool false), .nilsl, .val (.int .i64 0)]), (3, .ro (c.queue.map QI.av))]) ?_) ?_
    · simp only [CL.av]
      simp only [Vt,wk_nil,wk1,Vu,Vv,Vw,Z0,Z1,Z2,Z3,Z4,Z5,Z6,Z7,Z8,Z9,Za,Zb,Zc,Zd,Ze,Zf,List.cons.injEq,Zg,Zh,Zi,Zj,Zk,Zl,Zm,Zn,Zo,Zp,beq_self_eq_true,bne_self_eq_false,decide_true,decide_false,Zq,Zr,Zs,Zt,Zu,Zv,Zw,Zx,Zy,Zz,Y0,Y1,Y2,Y3,Y4,Y5,Y6,Y7,Y8,Y9,Ya,Yb,Yc,Yd,Ye,Yf,Yg,Yh,Yi,Yj,Yk,Yl,Ym,Yn,Yo,Yp,Yq,lk,ef,Yr,Ys,Yt,Yu,Yv,Yw,Yx,Yy,Yz,X0,X1,X2,X3,X4,X5,X6,X7,X8,X9,Xa,Xb,Xc,Xd,Xe,Xf,Xg,Xh,Xi,Xj,Xk,Xl,Xm,Xn,Xo,Xp,Xq,Xr,Xs,hv,Xt,ev,Xu,Xv,Xw,Xx,Xy,Xz,W0,W1,W2,W3,W4,W5,W6,W7,W8,W9,Wa,Wb,Wc,Wd,We,Wf,Wg,Wh,Wi,Wj,Wk,Wl,Wm,Wn,Wo,Wp,Wq,Wr,Ws,Wt,Value.oneCell',Wu,Wv,Ww,Wx,true_and,and_true,and_self,implies_true,Wy,Wz,V0,V1,false_implies,V2,V3,V4,V5,V6,V7,V8,V9,Va,Vb,Vc,Vd,Ve,Vf,Vg,Vh,Vi,reduceCtorEq,if_true,if_false,Vj,↓reduceIte,Vk,Vl,Vm,Vn,Vo,Vp,Vq,ne_eq,not_false_eq_true,not_true_eq_false,Vr,Nat.zero_ne_one]
    simp only [CL.av]
    repeat' first | ((with_reducible (first | refine condD ?_ ?_ | refine condE ?_ ?_ | refine condN ?_ ?_ | refine condI ?_ ?_ | refine condS ?_ ?_)) <;> intro h) | ((with_reducible (first | refine guardD (by with_unfolding_all rfl) ?_ ?_ | refine guardE (by with_unfolding_all rfl) ?_ ?_ | refine guardN (by with_unfolding_all rfl) ?_ ?_ | refine guardI (by with_unfolding_all rfl) ?_ ?_ | refine guardS (by with_unfolding_all rfl) ?_ ?_)) <;> intro h) | (with_reducible refine And.intro ?_ ?_; omega) | (simp only [Z0,Z1,Z2,Z3,Z4,Z5,Z6,Z7,Z8,Z9,Za,Zb,Zc,Zd,Ze,Zf,List.cons.injEq,Zg,Zh,Zi,Zj,Zk,Zl,Zm,Zn,Zo,Zp,beq_self_eq_true,bne_self_eq_false,decide_true,decide_false,Zq,Zr,Zs,Zt,Zu,Zv,Zw,Zx,Zy,Zz,Y0,Y1,Y2,Y3,Y4,Y5,Y6,Y7,Y8,Y9,Ya,Yb,Yc,Yd,Ye,Yf,Yg,Yh,Yi,Yj,Yk,Yl,Ym,Yn,Yo,Yp,Yq,lk,ef,Yr,Ys,Yt,Yu,Yv,Yw,Yx,Yy,Yz,X0,X1,X2,X3,X4,X5,X6,X7,X8,X9,Xa,Xb,Xc,Xd,Xe,Xf,Xg,Xh,Xi,Xj,Xk,Xl,Xm,Xn,Xo,Xp,Xq,Xr,Xs,hv,Xt,ev,Xu,Xv,Xw,Xx,Xy,Xz,W0,W1,W2,W3,W4,W5,W6,W7,W8,W9,Wa,Wb,Wc,Wd,We,Wf,Wg,Wh,Wi,Wj,Wk,Wl,Wm,Wn,Wo,Wp,Wq,Wr,Ws,Wt,Value.oneCell',Wu,Wv,Ww,Wx,true_and,and_true,and_self,implies_true,Wy,Wz,V0,V1,false_implies,V2,V3,V4,V5,V6,V7,V8,V9,Va,Vb,Vc,Vd,Ve,Vf,Vg,Vh,Vi,reduceCtorEq,if_true,if_false,Vj,↓reduceIte,Vk,Vl,Vm,Vn,Vo,Vp,Vq,ne_eq,not_false_eq_true,not_true_eq_false,Vr,Vs,r28_0,r28_1,r28_2,r28_3,r28_4,r28_5,r28_6,r28_7,r28_8,r28_9,p28,l28_0]) | (exfalso; omega)
    all_goals first | done | rfl | trace_state
end Go.Proofs.Ytpecmhdepggnoaa
