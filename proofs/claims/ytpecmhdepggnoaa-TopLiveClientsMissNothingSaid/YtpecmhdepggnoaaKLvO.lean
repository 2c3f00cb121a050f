/- Live lists: Add, by the machine on data. -/
import Derived.Test.YtpecmhdepggnoaaKLvP
import Derived.Test.YtpecmhdepggnoaaKLvI
namespace Go.Proofs.Ytpecmhdepggnoaa
open Go.RowKit
open Go.Proofs.Ytpecmhdepggnoaa renaming done_eq → Z0, done_eq' → Z1, donet_eq → Z2, donet_eq' → Z3, fin_val → Z4, fin_tup → Z5, fin_agg → Z6, fin_ro → Z7, res_one → Z8, res_more → Z9, rv_t → Za, rv_c → Zb, rv_l → Zc, int_eq → Zg, bool_eq → Zh, toNat_pred → Zr, toNat_succ → Zs, cnd_t → Zu, cnd_f → Zv, grd_tt → Zw, grd_u → Zx, grd_tf → Zy, grd_ft → Zz, grd_ff → Y0, g_skip → Y1, g_ops → Y2, g_seq → Y3, g_block → Y4, g_exit → Y5, g_ret → Y6, g_nil → Y7, r_all → Y8, o_nil → Y9, g_cond → Ya, o_guard → Yb, o_call → Yc, o_callm → Yd, o_callt → Ye, o_callx → Yf, o_callv → Yg, o_callc → Yh, o_callh → Yi, o_apph → Yj, noav_alias → Yk, noav_nil → Yl, o_mv → Ym, o_pick → Yn, o_bin → Yo, o_never → Yp, o_eqs → Yq, o_eqb → Yr, o_un → Ys, o_conv → Yt, o_load → Yu, o_loadr → Yv, o_idxr → Yw, o_loads → Yx, o_loadsr → Yy, o_fld → Yz, o_idx → X0, o_idxs → X1, o_len → X2, o_lens → X3, o_ext → X4, o_nilck → X5, o_slc → X6, o_slcs → X7, o_build → X8, o_minmax → X9, o_mkfn → Xa, o_mkfnr → Xb, o_alloc → Xc, o_box → Xd, o_boxs → Xe, o_row → Xf, o_rowr → Xg, o_mk → Xh, o_asg → Xi, o_app → Xj, o_appa → Xk, o_store → Xl, o_stores → Xm, o_eqnil → Xn, eqAV → Xo, view_t → Xp, view_c → Xq, view_nil → Xr, view_fn → Xs, look_own → Xt, look_box → Xu, look_junk → Xv, look_val → Xw, look_nilsl → Xx, look_ro → Xy, look_roAt → Xz, look_agg → W0, look_tup → W1, look_clo → W2, look_alias → W3, look_ref → W4, look_into → W5, look_fnv → W6, look_held → W7, rowOf → W8, cellsOf → W9, argv → Wa, vbin → Wb, elemOf → Wc, putParts → Wd, setAt → We, put_at → Wm, mk_at → Wn, mk_nil → Wo, initSt → Wp
open Go.Proofs.Ytpecmhdepggnoaa.AV.tup renaming injEq → Zd
open Go.Proofs.Ytpecmhdepggnoaa.AV.agg renaming injEq → Ze
open Go.Proofs.Ytpecmhdepggnoaa.AV.ro renaming injEq → Zf
open _root_.Int renaming toNat_natCast → Zi, reduceToNat → Zj, toNat_zero → Zk, toNat_one → Zl, reduceLE → Zm, reduceLT → Zn, reduceBEq → Zo, reduceBNe → Zp, reduceNeg → Zq
open _root_.List renaming length_map → Zt, map_cons → Wq, map_nil → Wr, forall_mem_cons → Ws, not_mem_nil → Wt, length_cons → Wu, length_nil → Wv, getD_cons_zero → Ww, getD_cons_succ → Wx, getD_nil → Wy, drop_succ_cons → Wz, drop_zero → V0, take_succ_cons → V1, take_zero → V2, set_cons_zero → V3, set_cons_succ → V4, all_cons → V5, all_nil → V6
open Go.Proofs.Ytpecmhdepggnoaa.ASt renaming rid → Wf, hold → Wg, free → Wh
open Go.Proofs.Ytpecmhdepggnoaa.AV renaming kill → Wi, isHome → Wj, noLoan → Wk, cellOK → Wl
open _root_.Bool renaming and_true → V7, true_and → V8, not_true → V9, not_false → Va, false_eq_true → Vb
open _root_.Nat renaming reduceEqDiff → Vc, reduceBNe → Vd, reduceAdd → Ve, reduceSub → Vf, reduceMul → Vg, reduceLeDiff → Vh, reduceLT → Vi, one_ne_zero → Vj, zero_ne_one → Vk
set_option linter.unusedSimpArgs false
--@short

def zPLn : AV := .agg [.val (.int .i64 0), .val (.int .i64 0), .val (.int .i64 0), .nilsl, .val (.bool false)]
/-! headend/list.Add -/
def r9_0 : List POp := [⟨2, .boxs (.t 0), none⟩,
  ⟨3, .boxs (.t 1), none⟩,
  ⟨4, .alloc [.int .i64 0, .int .i64 0, .int .i64 0, .slice none 0 0, .bool false], none⟩,
  ⟨5, .asg (.c (.int .i64 0)), none⟩]
def r9_1 : List POp := [⟨9, .loads 5 (.t 2), none⟩,
  ⟨10, .call 26 [.t 9], none⟩,
  ⟨6, .asg (.t 10), none⟩]
def r9_2 : List POp := [⟨11, .mv (.t 6), none⟩,
  ⟨12, .bin .neq (.t 11) (.c (.int .i64 0)), none⟩]
def r9_3 : List POp := [⟨13, .build [.int .i64 0, .int .i64 0, .int .i64 0, .slice none 0 0, .bool false] [], none⟩,
  ⟨14, .mv (.t 6), none⟩,
  ⟨0, .stores 5 (.t 4) (.t 13), none⟩,
  ⟨5, .mv (.t 14), none⟩]
def r9_4 : List POp := [⟨15, .fld 4 (.t 2), none⟩,
  ⟨16, .load (.t 15), none⟩]
def r9_5 : List POp := [⟨17, .build [.int .i64 0, .int .i64 0, .int .i64 0, .slice none 0 0, .bool false] [], none⟩,
  ⟨0, .stores 5 (.t 4) (.t 17), none⟩,
  ⟨5, .asg (.c (.int .i64 11)), none⟩]
def r9_6 : List POp := [⟨18, .loads 5 (.t 2), none⟩,
  ⟨19, .callh 29 [.t 18], none⟩,
  ⟨7, .alloc [.int .i64 0, .int .i64 0, .int .i64 0, .slice none 0 0, .bool false], none⟩,
  ⟨0, .stores 5 (.t 7) (.t 19), none⟩]
def r9_7 : List POp := [⟨20, .fld 3 (.t 7), none⟩,
  ⟨21, .load (.t 20), none⟩,
  ⟨22, .loads 7 (.t 3), none⟩,
  ⟨23, .call 30 [.t 22], none⟩,
  ⟨24, .row 32 7 [.t 23], none⟩,
  ⟨25, .apph 32 7 88 (.t 21) (.t 24), none⟩,
  ⟨26, .fld 3 (.t 7), none⟩,
  ⟨0, .store (.t 26) (.t 25), none⟩]
def r9_8 : List POp := [⟨27, .loads 5 (.t 7), none⟩,
  ⟨28, .call 26 [.t 27], none⟩,
  ⟨8, .asg (.t 28), none⟩]
def r9_9 : List POp := [⟨29, .mv (.t 8), none⟩,
  ⟨30, .bin .neq (.t 29) (.c (.int .i64 0)), none⟩]
def r9_10 : List POp := [⟨31, .build [.int .i64 0, .int .i64 0, .int .i64 0, .slice none 0 0, .bool false] [], none⟩,
  ⟨32, .mv (.t 8), none⟩,
  ⟨0, .stores 5 (.t 4) (.t 31), none⟩,
  ⟨5, .mv (.t 32), none⟩]
def r9_11 : List POp := [⟨33, .loads 5 (.t 7), none⟩,
  ⟨0, .stores 5 (.t 4) (.t 33), none⟩,
  ⟨5, .asg (.c (.int .i64 0)), none⟩]
def p9 : PCode := .seq (.ops r9_0) (.seq (.seq (.ops r9_1) (.seq (.ops r9_2) (.cond (.t 12) (.seq (.ops r9_3) (.ret)) (.skip)))) (.seq (.seq (.ops r9_4) (.cond (.t 16) (.seq (.ops r9_5) (.ret)) (.skip))) (.seq (.ops r9_6) (.seq (.ops r9_7) (.seq (.seq (.oph r9_8) (.seq (.ops r9_9) (.cond (.t 30) (.seq (.ops r9_10) (.ret)) (.skip)))) (.seq (.ops r9_11) (.ret)))))))
theorem ok9 : okFunc Try.prog 9 [.c 4 5, .t 5] 2 p9 = true := by kernel_rfl
theorem add_c (l : PL) (e : LE) (hl : l.ok) (he : e.ok) (hx : e.extra.length * 16 ≤ 140737488355328) : CallOK Try.prog 9 [.agg l.av, .agg e.av] (if addF l e = 0 then .tup [.agg (addL l e).av, .val (.int .i64 0)] else .tup [zPLn, .val (.int .i64 (addF l e))]) := by
  have c1 := check_c l hl
  by_cases q1 : ckF l = 0
  case neg =>
    have hf : addF l e = ckF l := by unfold addF; rw [if_pos q1]
    rw [if_neg (by rw [hf]; exact q1), hf]
    refine call_of mixed ok9 rfl ?_
    simp only [PL.av, zPLn] at c1 ⊢
    generalize ckF l = f at *
    repeat' first | ((with_reducible (first | refine condD ?_ ?_ | refine condE ?_ ?_ | refine condN ?_ ?_ | refine condI ?_ ?_ | refine condS ?_ ?_)) <;> intro h) | ((with_reducible (first | refine guardD (by with_unfolding_all rfl) ?_ ?_ | refine guardE (by with_unfolding_all rfl) ?_ ?_ | refine guardN (by with_unfolding_all rfl) ?_ ?_ | refine guardI (by with_unfolding_all rfl) ?_ ?_ | refine guardS (by with_unfolding_all rfl) ?_ ?_)) <;> intro h) | ((refine callG c1 ?_)) | (with_reducible refine And.intro ?_ ?_; omega) | (simp only [Z0,Z1,Z2,Z3,Z4,Z5,Z6,Z7,Z8,Z9,Za,Zb,Zc,Zd,Ze,Zf,List.cons.injEq,Zg,Zh,Zi,Zj,Zk,Zl,Zm,Zn,Zo,Zp,beq_self_eq_true,bne_self_eq_false,decide_true,decide_false,Zq,Zr,Zs,Zt,Zu,Zv,Zw,Zx,Zy,Zz,Y0,Y1,Y2,Y3,Y4,Y5,Y6,x_c,x_o,x_l,x_b,g_b,Y7,Y8,Y9,Ya,Yb,Yc,Yd,Ye,Yf,Yg,Yh,Yi,Yj,Yk,Yl,lk,ef,Ym,Yn,Yo,Yp,Yq,Yr,Ys,Yt,Yu,Yv,Yw,Yx,Yy,Yz,X0,X1,X2,X3,X4,X5,X6,X7,X8,X9,Xa,Xb,Xc,Xd,Xe,Xf,Xg,Xh,Xi,Xj,Xk,Xl,Xm,Xn,hv,Xo,ev,Xp,Xq,Xr,Xs,Xt,Xu,Xv,Xw,Xx,Xy,Xz,W0,W1,W2,W3,W4,W5,W6,W7,W8,W9,Wa,Wb,vun,bnd,Wc,Wd,We,zav,Wf,Wg,Wh,Wi,Wj,Wk,Wl,Value.oneCell',Wm,Wn,Wo,Wp,true_and,and_true,and_self,implies_true,Wq,Wr,Ws,Wt,false_implies,Wu,Wv,Ww,Wx,Wy,Wz,V0,V1,V2,V3,V4,V5,V6,V7,V8,V9,Va,reduceCtorEq,if_true,if_false,Vb,↓reduceIte,Vc,Vd,Ve,Vf,Vg,Vh,Vi,ne_eq,not_false_eq_true,not_true_eq_false,Vj,Vk,r9_0,r9_1,r9_2,r9_3,r9_4,r9_5,r9_6,r9_7,r9_8,r9_9,r9_10,r9_11,p9,LE.av,bne0_t q1]) | (exfalso; omega)
    all_goals first | done | trace_state
  rw [q1] at c1
  cases q2 : l.ended
  case true =>
    have hf : addF l e = 11 := by unfold addF; rw [if_neg (not_not_intro q1), if_pos q2]
    rw [if_neg (by rw [hf]; decide), hf]
    refine call_of mixed ok9 rfl ?_
    simp only [PL.av, zPLn] at c1 ⊢
    rw [q2] at c1 ⊢
    repeat' first | ((with_reducible (first | refine condD ?_ ?_ | refine condE ?_ ?_ | refine condN ?_ ?_ | refine condI ?_ ?_ | refine condS ?_ ?_)) <;> intro h) | ((with_reducible (first | refine guardD (by with_unfolding_all rfl) ?_ ?_ | refine guardE (by with_unfolding_all rfl) ?_ ?_ | refine guardN (by with_unfolding_all rfl) ?_ ?_ | refine guardI (by with_unfolding_all rfl) ?_ ?_ | refine guardS (by with_unfolding_all rfl) ?_ ?_)) <;> intro h) | ((refine callG c1 ?_)) | (with_reducible refine And.intro ?_ ?_; omega) | (simp only [Z0,Z1,Z2,Z3,Z4,Z5,Z6,Z7,Z8,Z9,Za,Zb,Zc,Zd,Ze,Zf,List.cons.injEq,Zg,Zh,Zi,Zj,Zk,Zl,Zm,Zn,Zo,Zp,beq_self_eq_true,bne_self_eq_false,decide_true,decide_false,Zq,Zr,Zs,Zt,Zu,Zv,Zw,Zx,Zy,Zz,Y0,Y1,Y2,Y3,Y4,Y5,Y6,x_c,x_o,x_l,x_b,g_b,Y7,Y8,Y9,Ya,Yb,Yc,Yd,Ye,Yf,Yg,Yh,Yi,Yj,Yk,Yl,lk,ef,Ym,Yn,Yo,Yp,Yq,Yr,Ys,Yt,Yu,Yv,Yw,Yx,Yy,Yz,X0,X1,X2,X3,X4,X5,X6,X7,X8,X9,Xa,Xb,Xc,Xd,Xe,Xf,Xg,Xh,Xi,Xj,Xk,Xl,Xm,Xn,hv,Xo,ev,Xp,Xq,Xr,Xs,Xt,Xu,Xv,Xw,Xx,Xy,Xz,W0,W1,W2,W3,W4,W5,W6,W7,W8,W9,Wa,Wb,vun,bnd,Wc,Wd,We,zav,Wf,Wg,Wh,Wi,Wj,Wk,Wl,Value.oneCell',Wm,Wn,Wo,Wp,true_and,and_true,and_self,implies_true,Wq,Wr,Ws,Wt,false_implies,Wu,Wv,Ww,Wx,Wy,Wz,V0,V1,V2,V3,V4,V5,V6,V7,V8,V9,Va,reduceCtorEq,if_true,if_false,Vb,↓reduceIte,Vc,Vd,Ve,Vf,Vg,Vh,Vi,ne_eq,not_false_eq_true,not_true_eq_false,Vj,Vk,r9_0,r9_1,r9_2,r9_3,r9_4,r9_5,r9_6,r9_7,r9_8,r9_9,r9_10,r9_11,p9,LE.av]) | (exfalso; omega)
    all_goals first | done | trace_state
  have hle := (ckF_0.1 q1).2.2.2.1
  have c2 := HH.copyl_h l (ck_small q1)
  have c3 := copye_c e hx
  have c4 := check_c (addL l e) (addL_ok hl hle he)
  have hf : addF l e = ckF (addL l e) := by unfold addF; rw [if_neg (not_not_intro q1), if_neg (by rw [q2]; decide)]
  have hae : (addL l e).av = [.val (.int .i64 l.target), .val (.int .i64 l.first), .val (.int .i64 l.breaks), .ro (l.ents.map LE.av ++ [e.av]), .val (.bool l.ended)] := by
    simp only [PL.av, addL, List.map_append, List.map_cons, List.map_nil]
  rw [hf, hae]
  rw [hae] at c4
  have hml : (l.ents.map LE.av).length ≤ 1000 := by rw [List.length_map]; exact hle
  refine call_of mixed ok9 rfl ?_
  simp only [PL.av, q2] at c1 c2 c4 ⊢
  generalize l.ents.map LE.av = X at *
  generalize ckF (addL l e) = f at *
  have hin : ∀ x ∈ [e.av], x.length = 7 := fun x hxm => by rw [List.mem_singleton] at hxm; subst hxm; rfl
  have hln : [e.av].length = 1 := rfl
  simp only [LE.av] at c3 c4 hin hln ⊢
  repeat' first | ((with_reducible (first | refine condD ?_ ?_ | refine condE ?_ ?_ | refine condN ?_ ?_ | refine condI ?_ ?_ | refine condS ?_ ?_)) <;> intro h) | ((with_reducible (first | refine guardD (by with_unfolding_all rfl) ?_ ?_ | refine guardE (by with_unfolding_all rfl) ?_ ?_ | refine guardN (by with_unfolding_all rfl) ?_ ?_ | refine guardI (by with_unfolding_all rfl) ?_ ?_ | refine guardS (by with_unfolding_all rfl) ?_ ?_)) <;> intro h) | ((refine callG c1 ?_)) | ((refine callG c3 ?_)) | ((refine callhG 200 c2 (by with_unfolding_all rfl) (by decide) (fun r hr1 => ?_))) | ((refine apphG 200 (by with_unfolding_all rfl) (by decide) hin (by rw [hln]; omega) (by rw [hln]; omega) (fun r' hr3 => ?_); have hr4 := hr3; simp only [Value.oneCell'] at hr4)) | (with_reducible refine And.intro ?_ ?_; omega) | (simp only [Z0,Z1,Z2,Z3,Z4,Z5,Z6,Z7,Z8,Z9,Za,Zb,Zc,Zd,Ze,Zf,List.cons.injEq,Zg,Zh,Zi,Zj,Zk,Zl,Zm,Zn,Zo,Zp,beq_self_eq_true,bne_self_eq_false,decide_true,decide_false,Zq,Zr,Zs,Zt,Zu,Zv,Zw,Zx,Zy,Zz,Y0,Y1,Y2,Y3,Y4,Y5,Y6,x_c,x_o,x_l,x_b,g_b,Y7,Y8,Y9,Ya,Yb,Yc,Yd,Ye,Yf,Yg,Yh,Yi,Yj,Yk,Yl,lk,ef,Ym,Yn,Yo,Yp,Yq,Yr,Ys,Yt,Yu,Yv,Yw,Yx,Yy,Yz,X0,X1,X2,X3,X4,X5,X6,X7,X8,X9,Xa,Xb,Xc,Xd,Xe,Xf,Xg,Xh,Xi,Xj,Xk,Xl,Xm,Xn,hv,Xo,ev,Xp,Xq,Xr,Xs,Xt,Xu,Xv,Xw,Xx,Xy,Xz,W0,W1,W2,W3,W4,W5,W6,W7,W8,W9,Wa,Wb,vun,bnd,Wc,Wd,We,zav,Wf,Wg,Wh,Wi,Wj,Wk,Wl,Value.oneCell',Wm,Wn,Wo,Wp,true_and,and_true,and_self,implies_true,Wq,Wr,Ws,Wt,false_implies,Wu,Wv,Ww,Wx,Wy,Wz,V0,V1,V2,V3,V4,V5,V6,V7,V8,V9,Va,reduceCtorEq,if_true,if_false,Vb,↓reduceIte,Vc,Vd,Ve,Vf,Vg,Vh,Vi,ne_eq,not_false_eq_true,not_true_eq_false,Vj,Vk,r9_0,r9_1,r9_2,r9_3,r9_4,r9_5,r9_6,r9_7,r9_8,r9_9,r9_10,r9_11,p9]) | (exfalso; omega)
  refine ophG (WeakV.of (weak_unhold (g := 200) (v := r') (l := [(4, .box [.val (.int .i64 0), .val (.int .i64 0), .val (.int .i64 0), .nilsl, .val (.bool false)]), (7, .box [.val (.int .i64 l.target), .val (.int .i64 l.first), .val (.int .i64 l.breaks), .ro (X ++ [[.val (.string e.uri), .val (.int .i64 e.milli), .val (.bool e.brk), .val (.int .i64 e.date), .val (.string e.key), .val (.bool e.gap), .ro (e.extra.map oneS)]]), .val (.bool false)])]) (by with_unfolding_all rfl) ?_)) (fun _ _ => ?_)
  · simp only [Z0,Z1,Z2,Z3,Z4,Z5,Z6,Z7,Z8,Z9,Za,Zb,Zc,Zd,Ze,Zf,List.cons.injEq,Zg,Zh,Zi,Zj,Zk,Zl,Zm,Zn,Zo,Zp,beq_self_eq_true,bne_self_eq_false,decide_true,decide_false,Zq,Zr,Zs,Zt,Zu,Zv,Zw,Zx,Zy,Zz,Y0,Y1,Y2,Y3,Y4,Y5,Y6,x_c,x_o,x_l,x_b,g_b,Y7,Y8,Y9,Ya,Yb,Yc,Yd,Ye,Yf,Yg,Yh,Yi,Yj,Yk,Yl,lk,ef,Ym,Yn,Yo,Yp,Yq,Yr,Ys,Yt,Yu,Yv,Yw,Yx,Yy,Yz,X0,X1,X2,X3,X4,X5,X6,X7,X8,X9,Xa,Xb,Xc,Xd,Xe,Xf,Xg,Xh,Xi,Xj,Xk,Xl,Xm,Xn,hv,Xo,ev,Xp,Xq,Xr,Xs,Xt,Xu,Xv,Xw,Xx,Xy,Xz,W0,W1,W2,W3,W4,W5,W6,W7,W8,W9,Wa,Wb,vun,bnd,Wc,Wd,We,zav,Wf,Wg,Wh,Wi,Wj,Wk,Wl,Value.oneCell',Wm,Wn,Wo,Wp,true_and,and_true,and_self,implies_true,Wq,Wr,Ws,Wt,false_implies,Wu,Wv,Ww,Wx,Wy,Wz,V0,V1,V2,V3,V4,V5,V6,V7,V8,V9,Va,reduceCtorEq,if_true,if_false,Vb,↓reduceIte,Vc,Vd,Ve,Vf,Vg,Vh,Vi,ne_eq,not_false_eq_true,not_true_eq_false,Vj,Vk,unh_cons,unh_nil,unh1,unhCells,or_true,true_or]
    all_goals first | done | trace_state
  by_cases q3 : f = 0
  · rw [if_pos q3]
    rw [q3] at c4
    repeat' first | ((with_reducible (first | refine condD ?_ ?_ | refine condE ?_ ?_ | refine condN ?_ ?_ | refine condI ?_ ?_ | refine condS ?_ ?_)) <;> intro h) | ((with_reducible (first | refine guardD (by with_unfolding_all rfl) ?_ ?_ | refine guardE (by with_unfolding_all rfl) ?_ ?_ | refine guardN (by with_unfolding_all rfl) ?_ ?_ | refine guardI (by with_unfolding_all rfl) ?_ ?_ | refine guardS (by with_unfolding_all rfl) ?_ ?_)) <;> intro h) | ((refine callG c4 ?_)) | (with_reducible refine And.intro ?_ ?_; omega) | (simp only [Z0,Z1,Z2,Z3,Z4,Z5,Z6,Z7,Z8,Z9,Za,Zb,Zc,Zd,Ze,Zf,List.cons.injEq,Zg,Zh,Zi,Zj,Zk,Zl,Zm,Zn,Zo,Zp,beq_self_eq_true,bne_self_eq_false,decide_true,decide_false,Zq,Zr,Zs,Zt,Zu,Zv,Zw,Zx,Zy,Zz,Y0,Y1,Y2,Y3,Y4,Y5,Y6,x_c,x_o,x_l,x_b,g_b,Y7,Y8,Y9,Ya,Yb,Yc,Yd,Ye,Yf,Yg,Yh,Yi,Yj,Yk,Yl,lk,ef,Ym,Yn,Yo,Yp,Yq,Yr,Ys,Yt,Yu,Yv,Yw,Yx,Yy,Yz,X0,X1,X2,X3,X4,X5,X6,X7,X8,X9,Xa,Xb,Xc,Xd,Xe,Xf,Xg,Xh,Xi,Xj,Xk,Xl,Xm,Xn,hv,Xo,ev,Xp,Xq,Xr,Xs,Xt,Xu,Xv,Xw,Xx,Xy,Xz,W0,W1,W2,W3,W4,W5,W6,W7,W8,W9,Wa,Wb,vun,bnd,Wc,Wd,We,zav,Wf,Wg,Wh,Wi,Wj,Wk,Wl,Value.oneCell',Wm,Wn,Wo,Wp,true_and,and_true,and_self,implies_true,Wq,Wr,Ws,Wt,false_implies,Wu,Wv,Ww,Wx,Wy,Wz,V0,V1,V2,V3,V4,V5,V6,V7,V8,V9,Va,reduceCtorEq,if_true,if_false,Vb,↓reduceIte,Vc,Vd,Ve,Vf,Vg,Vh,Vi,ne_eq,not_false_eq_true,not_true_eq_false,Vj,Vk,r9_0,r9_1,r9_2,r9_3,r9_4,r9_5,r9_6,r9_7,r9_8,r9_9,r9_10,r9_11,p9]) | (exfalso; omega)
    all_goals first | done | trace_state
  · rw [if_neg q3]
    simp only [zPLn]
    repeat' first | ((with_reducible (first | refine condD ?_ ?_ | refine condE ?_ ?_ | refine condN ?_ ?_ | refine condI ?_ ?_ | refine condS ?_ ?_)) <;> intro h) | ((with_reducible (first | refine guardD (by with_unfolding_all rfl) ?_ ?_ | refine guardE (by with_unfolding_all rfl) ?_ ?_ | refine guardN (by with_unfolding_all rfl) ?_ ?_ | refine guardI (by with_unfolding_all rfl) ?_ ?_ | refine guardS (by with_unfolding_all rfl) ?_ ?_)) <;> intro h) | ((refine callG c4 ?_)) | (with_reducible refine And.intro ?_ ?_; omega) | (simp only [Z0,Z1,Z2,Z3,Z4,Z5,Z6,Z7,Z8,Z9,Za,Zb,Zc,Zd,Ze,Zf,List.cons.injEq,Zg,Zh,Zi,Zj,Zk,Zl,Zm,Zn,Zo,Zp,beq_self_eq_true,bne_self_eq_false,decide_true,decide_false,Zq,Zr,Zs,Zt,Zu,Zv,Zw,Zx,Zy,Zz,Y0,Y1,Y2,Y3,Y4,Y5,Y6,x_c,x_o,x_l,x_b,g_b,Y7,Y8,Y9,Ya,Yb,Yc,Yd,Ye,Yf,Yg,Yh,Yi,Yj,Yk,Yl,lk,ef,Ym,Yn,Yo,Yp,Yq,Yr,Ys,Yt,Yu,Yv,Yw,Yx,Yy,Yz,X0,X1,X2,X3,X4,X5,X6,X7,X8,X9,Xa,Xb,Xc,Xd,Xe,Xf,Xg,Xh,Xi,Xj,Xk,Xl,Xm,Xn,hv,Xo,ev,Xp,Xq,Xr,Xs,Xt,Xu,Xv,Xw,Xx,Xy,Xz,W0,W1,W2,W3,W4,W5,W6,W7,W8,W9,Wa,Wb,vun,bnd,Wc,Wd,We,zav,Wf,Wg,Wh,Wi,Wj,Wk,Wl,Value.oneCell',Wm,Wn,Wo,Wp,true_and,and_true,and_self,implies_true,Wq,Wr,Ws,Wt,false_implies,Wu,Wv,Ww,Wx,Wy,Wz,V0,V1,V2,V3,V4,V5,V6,V7,V8,V9,Va,reduceCtorEq,if_true,if_false,Vb,↓reduceIte,Vc,Vd,Ve,Vf,Vg,Vh,Vi,ne_eq,not_false_eq_true,not_true_eq_false,Vj,Vk,r9_0,r9_1,r9_2,r9_3,r9_4,r9_5,r9_6,r9_7,r9_8,r9_9,r9_10,r9_11,p9,bne0_t q3]) | (exfalso; omega)
    all_goals first | done | trace_state
end Go.Proofs.Ytpecmhdepggnoaa
