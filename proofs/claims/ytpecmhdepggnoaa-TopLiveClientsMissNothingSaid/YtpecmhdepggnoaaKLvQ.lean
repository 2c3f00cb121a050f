/- Live lists: Slide, by the machine on data. -/
import Derived.Test.YtpecmhdepggnoaaKLvO
namespace Go.Proofs.Ytpecmhdepggnoaa
open Go.RowKit
open Go.Proofs.Ytpecmhdepggnoaa renaming done_eq → Z0, done_eq' → Z1, donet_eq → Z2, donet_eq' → Z3, fin_val → Z4, fin_tup → Z5, fin_agg → Z6, fin_ro → Z7, res_one → Z8, res_more → Z9, rv_t → Za, rv_c → Zb, rv_l → Zc, int_eq → Zg, bool_eq → Zh, toNat_pred → Zr, toNat_succ → Zs, cnd_t → Zu, cnd_f → Zv, grd_tt → Zw, grd_u → Zx, grd_tf → Zy, grd_ft → Zz, grd_ff → Y0, g_skip → Y1, g_ops → Y2, g_seq → Y3, g_block → Y4, g_exit → Y5, g_ret → Y6, x_c → Y7, x_o → Y8, x_l → Y9, x_b → Ya, g_b → Yb, g_nil → Yc, r_all → Yd, o_nil → Ye, g_cond → Yf, o_guard → Yg, o_call → Yh, o_callm → Yi, o_callt → Yj, o_callx → Yk, o_callv → Yl, o_callc → Ym, o_callh → Yn, o_apph → Yo, noav_alias → Yp, noav_nil → Yq, o_mv → Yr, o_pick → Ys, o_bin → Yt, o_never → Yu, o_eqs → Yv, o_eqb → Yw, o_un → Yx, o_conv → Yy, o_load → Yz, o_loadr → X0, o_idxr → X1, o_loads → X2, o_loadsr → X3, o_fld → X4, o_idx → X5, o_idxs → X6, o_len → X7, o_lens → X8, o_ext → X9, o_nilck → Xa, o_slc → Xb, o_slcs → Xc, o_build → Xd, o_minmax → Xe, o_mkfn → Xf, o_mkfnr → Xg, o_alloc → Xh, o_box → Xi, o_boxs → Xj, o_row → Xk, o_rowr → Xl, o_mk → Xm, o_asg → Xn, o_app → Xo, o_appa → Xp, o_store → Xq, o_stores → Xr, o_eqnil → Xs, eqAV → Xt, view_t → Xu, view_c → Xv, view_nil → Xw, view_fn → Xx, look_own → Xy, look_box → Xz, look_junk → W0, look_val → W1, look_nilsl → W2, look_ro → W3, look_roAt → W4, look_agg → W5, look_tup → W6, look_clo → W7, look_alias → W8, look_ref → W9, look_into → Wa, look_fnv → Wb, look_held → Wc, rowOf → Wd, cellsOf → We, argv → Wf, vbin → Wg, vun → Wh, bnd → Wi, elemOf → Wj, putParts → Wk, setAt → Wl, zav → Wm, put_at → Wu, mk_at → Wv, mk_nil → Ww, initSt → Wx, wk_cons → Vt, vint_eq → Vu, vbool_eq → Vv
open Go.Proofs.Ytpecmhdepggnoaa.AV.tup renaming injEq → Zd
open Go.Proofs.Ytpecmhdepggnoaa.AV.agg renaming injEq → Ze
open Go.Proofs.Ytpecmhdepggnoaa.AV.ro renaming injEq → Zf
open _root_.Int renaming toNat_natCast → Zi, reduceToNat → Zj, toNat_zero → Zk, toNat_one → Zl, reduceLE → Zm, reduceLT → Zn, reduceBEq → Zo, reduceBNe → Zp, reduceNeg → Zq
open _root_.List renaming length_map → Zt, map_cons → Wy, map_nil → Wz, forall_mem_cons → V0, not_mem_nil → V1, length_cons → V2, length_nil → V3, getD_cons_zero → V4, getD_cons_succ → V5, getD_nil → V6, drop_succ_cons → V7, drop_zero → V8, take_succ_cons → V9, take_zero → Va, set_cons_zero → Vb, set_cons_succ → Vc, all_cons → Vd, all_nil → Ve
open Go.Proofs.Ytpecmhdepggnoaa.ASt renaming rid → Wn, hold → Wo, free → Wp
open Go.Proofs.Ytpecmhdepggnoaa.AV renaming kill → Wq, isHome → Wr, noLoan → Ws, cellOK → Wt
open _root_.Bool renaming and_true → Vf, true_and → Vg, not_true → Vh, not_false → Vi, false_eq_true → Vj
open _root_.Nat renaming reduceEqDiff → Vk, reduceBNe → Vl, reduceAdd → Vm, reduceSub → Vn, reduceMul → Vo, reduceLeDiff → Vp, reduceLT → Vq, one_ne_zero → Vr, zero_ne_one → Vs
open Go.Proofs.Ytpecmhdepggnoaa.AV.val renaming injEq → Vw
set_option linter.unusedSimpArgs false
--@short

/-! headend/list.Slide -/
def r10_0 : List POp := [⟨2, .boxs (.t 0), none⟩,
  ⟨4, .alloc [.int .i64 0, .int .i64 0, .int .i64 0, .slice none 0 0, .bool false], none⟩,
  ⟨5, .asg (.c (.int .i64 0)), none⟩,
  ⟨6, .asg (.c (.int .i64 0)), none⟩]
def r10_1 : List POp := [⟨11, .loads 5 (.t 2), none⟩,
  ⟨12, .call 26 [.t 11], none⟩,
  ⟨7, .asg (.t 12), none⟩]
def r10_2 : List POp := [⟨13, .mv (.t 7), none⟩,
  ⟨14, .bin .neq (.t 13) (.c (.int .i64 0)), none⟩]
def r10_3 : List POp := [⟨15, .build [.int .i64 0, .int .i64 0, .int .i64 0, .slice none 0 0, .bool false] [], none⟩,
  ⟨16, .mv (.t 7), none⟩,
  ⟨0, .stores 5 (.t 4) (.t 15), none⟩,
  ⟨5, .mv (.c (.int .i64 0)), none⟩,
  ⟨6, .mv (.t 16), none⟩]
def r10_4 : List POp := [⟨18, .mv (.t 1), none⟩,
  ⟨19, .call 32 [.t 18, .c (.int .i64 0), .c (.int .i64 1000000000000000)], none⟩,
  ⟨17, .asg (.t 19), none⟩]
def r10_5 : List POp := [⟨20, .build [.int .i64 0, .int .i64 0, .int .i64 0, .slice none 0 0, .bool false] [], none⟩,
  ⟨0, .stores 5 (.t 4) (.t 20), none⟩,
  ⟨5, .asg (.c (.int .i64 0)), none⟩,
  ⟨6, .asg (.c (.int .i64 1)), none⟩]
def r10_6 : List POp := [⟨22, .fld 4 (.t 2), none⟩,
  ⟨23, .load (.t 22), none⟩,
  ⟨21, .asg (.t 23), none⟩]
def r10_7 : List POp := [⟨24, .build [.int .i64 0, .int .i64 0, .int .i64 0, .slice none 0 0, .bool false] [], none⟩,
  ⟨0, .stores 5 (.t 4) (.t 24), none⟩,
  ⟨5, .asg (.c (.int .i64 0)), none⟩,
  ⟨6, .asg (.c (.int .i64 11)), none⟩]
def r10_8 : List POp := [⟨25, .loads 5 (.t 2), none⟩,
  ⟨26, .call 29 [.t 25], none⟩,
  ⟨8, .alloc [.int .i64 0, .int .i64 0, .int .i64 0, .slice none 0 0, .bool false], none⟩,
  ⟨0, .stores 5 (.t 8) (.t 26), none⟩]
def r10_9 : List POp := [⟨9, .asg (.c (.int .i64 0)), none⟩]
def r10_10 : List POp := [⟨27, .loads 5 (.t 2), none⟩,
  ⟨28, .call 33 [.t 27], none⟩,
  ⟨10, .asg (.t 28), none⟩]
def r10_11 : List POp := [⟨29, .mv (.t 9), none⟩,
  ⟨30, .fld 3 (.t 2), none⟩,
  ⟨31, .load (.t 30), none⟩,
  ⟨32, .len (.t 31), none⟩,
  ⟨33, .bin .lss (.t 29) (.t 32), none⟩,
  ⟨34, .mv (.t 33), none⟩,
  ⟨35, .mv (.t 10), some (34, true)⟩,
  ⟨36, .fld 3 (.t 2), some (34, true)⟩,
  ⟨37, .load (.t 36), some (34, true)⟩,
  ⟨38, .mv (.t 9), some (34, true)⟩,
  ⟨39, .idx 7 (.t 37) (.t 38), some (34, true)⟩,
  ⟨40, .fld 1 (.t 39), some (34, true)⟩,
  ⟨41, .load (.t 40), some (34, true)⟩,
  ⟨42, .bin .sub (.t 35) (.t 41), some (34, true)⟩,
  ⟨43, .mv (.t 1), some (34, true)⟩,
  ⟨44, .bin .geq (.t 42) (.t 43), some (34, true)⟩,
  ⟨45, .pick (.t 34) (.t 44) (.c (.bool false)), none⟩]
def r10_13 : List POp := [⟨48, .mv (.t 10), none⟩,
  ⟨49, .fld 3 (.t 2), none⟩,
  ⟨50, .load (.t 49), none⟩,
  ⟨51, .mv (.t 9), none⟩,
  ⟨52, .idx 7 (.t 50) (.t 51), none⟩,
  ⟨53, .fld 1 (.t 52), none⟩,
  ⟨54, .load (.t 53), none⟩,
  ⟨55, .bin .sub (.t 48) (.t 54), none⟩,
  ⟨10, .asg (.t 55), none⟩]
def r10_14 : List POp := [⟨56, .fld 3 (.t 2), none⟩,
  ⟨57, .load (.t 56), none⟩,
  ⟨58, .mv (.t 9), none⟩,
  ⟨59, .idx 7 (.t 57) (.t 58), none⟩,
  ⟨60, .fld 2 (.t 59), none⟩,
  ⟨61, .load (.t 60), none⟩]
def r10_15 : List POp := [⟨62, .fld 2 (.t 8), none⟩,
  ⟨63, .load (.t 62), none⟩,
  ⟨64, .bin .add (.t 63) (.c (.int .i64 1)), none⟩,
  ⟨65, .fld 2 (.t 8), none⟩,
  ⟨0, .store (.t 65) (.t 64), none⟩]
def r10_12 : List POp := [⟨46, .mv (.t 9), none⟩,
  ⟨47, .bin .add (.t 46) (.c (.int .i64 1)), none⟩,
  ⟨9, .asg (.t 47), none⟩]
def r10_16 : List POp := [⟨66, .fld 1 (.t 8), none⟩,
  ⟨67, .load (.t 66), none⟩,
  ⟨68, .mv (.t 9), none⟩,
  ⟨69, .bin .add (.t 67) (.t 68), none⟩,
  ⟨70, .fld 1 (.t 8), none⟩,
  ⟨0, .store (.t 70) (.t 69), none⟩]
def r10_17 : List POp := [⟨71, .fld 3 (.t 8), none⟩,
  ⟨72, .load (.t 71), none⟩,
  ⟨73, .mv (.t 9), none⟩,
  ⟨74, .slc (some (.t 73)) none 7 (.t 72), none⟩,
  ⟨75, .fld 3 (.t 8), none⟩,
  ⟨0, .store (.t 75) (.t 74), none⟩]
def r10_18 : List POp := [⟨76, .fld 1 (.t 8), none⟩,
  ⟨77, .load (.t 76), none⟩,
  ⟨78, .bin .gtr (.t 77) (.c (.int .i64 999999999999000)), none⟩,
  ⟨79, .mv (.t 78), none⟩,
  ⟨80, .fld 2 (.t 8), some (79, false)⟩,
  ⟨81, .load (.t 80), some (79, false)⟩,
  ⟨82, .bin .gtr (.t 81) (.c (.int .i64 1000000000000000)), some (79, false)⟩,
  ⟨83, .pick (.t 79) (.c (.bool true)) (.t 82), none⟩]
def r10_19 : List POp := [⟨84, .build [.int .i64 0, .int .i64 0, .int .i64 0, .slice none 0 0, .bool false] [], none⟩,
  ⟨0, .stores 5 (.t 4) (.t 84), none⟩,
  ⟨5, .asg (.c (.int .i64 0)), none⟩,
  ⟨6, .asg (.c (.int .i64 1)), none⟩]
def r10_20 : List POp := [⟨85, .loads 5 (.t 8), none⟩,
  ⟨86, .mv (.t 9), none⟩,
  ⟨0, .stores 5 (.t 4) (.t 85), none⟩,
  ⟨5, .mv (.t 86), none⟩,
  ⟨6, .mv (.c (.int .i64 0)), none⟩]
def l10_0 : PCode := .seq (.seq (.ops r10_11) (.cond (.t 45) (.skip) (.exit 1))) (.seq (.block 2 (.seq (.ops r10_13) (.seq (.ops r10_14) (.cond (.t 61) (.ops r10_15) (.skip))))) (.ops r10_12))
def p10 : PCode := .seq (.ops r10_0) (.seq (.seq (.ops r10_1) (.seq (.ops r10_2) (.cond (.t 14) (.seq (.ops r10_3) (.ret)) (.skip)))) (.seq (.block 0 (.seq (.ops r10_4) (.cond (.t 17) (.seq (.ops r10_5) (.ret)) (.seq (.ops r10_6) (.cond (.t 21) (.seq (.ops r10_7) (.ret)) (.skip)))))) (.seq (.ops r10_8) (.seq (.ops r10_9) (.seq (.seq (.ops r10_10) (.block 1 (.loop l10_0))) (.seq (.ops r10_16) (.seq (.ops r10_17) (.seq (.seq (.ops r10_18) (.cond (.t 83) (.seq (.ops r10_19) (.ret)) (.skip))) (.seq (.ops r10_20) (.ret))))))))))
theorem ok10 : okFunc Try.prog 10 [.c 4 5, .t 5, .t 6] 2 p10 = true := by kernel_rfl
set_option maxHeartbeats 1000000 in
theorem slide_c (l : PL) (hl : l.ok) (keep : Int) : CallOK Try.prog 10 [.agg l.av, .val (.int .i64 keep)] (if slF l keep = 0 then .tup [.agg (slL l keep).av, .val (.int .i64 (slS l keep).1), .val (.int .i64 0)] else .tup [zPLn, .val (.int .i64 0), .val (.int .i64 (slF l keep))]) := by
  have c1 := check_c l hl
  have c2 := out_c keep 0 1000000000000000
  by_cases q1 : ckF l = 0
  case neg =>
    have hf : slF l keep = ckF l := by unfold slF; rw [if_pos q1]
    rw [if_neg (by rw [hf]; exact q1), hf]
    refine call_of mixed ok10 rfl ?_
    simp only [PL.av, zPLn] at c1 ⊢
    generalize ckF l = f at *
    repeat' first | ((with_reducible (first | refine condD ?_ ?_ | refine condE ?_ ?_ | refine condN ?_ ?_ | refine condI ?_ ?_ | refine condS ?_ ?_)) <;> intro h) | ((with_reducible (first | refine guardD (by with_unfolding_all rfl) ?_ ?_ | refine guardE (by with_unfolding_all rfl) ?_ ?_ | refine guardN (by with_unfolding_all rfl) ?_ ?_ | refine guardI (by with_unfolding_all rfl) ?_ ?_ | refine guardS (by with_unfolding_all rfl) ?_ ?_)) <;> intro h) | ((refine callG c1 ?_)) | (with_reducible refine And.intro ?_ ?_; omega) | (simp only [Z0,Z1,Z2,Z3,Z4,Z5,Z6,Z7,Z8,Z9,Za,Zb,Zc,Zd,Ze,Zf,List.cons.injEq,Zg,Zh,Zi,Zj,Zk,Zl,Zm,Zn,Zo,Zp,beq_self_eq_true,bne_self_eq_false,decide_true,decide_false,Zq,Zr,Zs,Zt,Zu,Zv,Zw,Zx,Zy,Zz,Y0,Y1,Y2,Y3,Y4,Y5,Y6,Y7,Y8,Y9,Ya,Yb,Yc,Yd,Ye,Yf,Yg,Yh,Yi,Yj,Yk,Yl,Ym,Yn,Yo,Yp,Yq,lk,ef,Yr,Ys,Yt,Yu,Yv,Yw,Yx,Yy,Yz,X0,X1,X2,X3,X4,X5,X6,X7,X8,X9,Xa,Xb,Xc,Xd,Xe,Xf,Xg,Xh,Xi,Xj,Xk,Xl,Xm,Xn,Xo,Xp,Xq,Xr,Xs,hv,Xt,ev,Xu,Xv,Xw,Xx,Xy,Xz,W0,W1,W2,W3,W4,W5,W6,W7,W8,W9,Wa,Wb,Wc,Wd,We,Wf,Wg,Wh,Wi,Wj,Wk,Wl,Wm,Wn,Wo,Wp,Wq,Wr,Ws,Wt,Value.oneCell',Wu,Wv,Ww,Wx,true_and,and_true,and_self,implies_true,Wy,Wz,V0,V1,false_implies,V2,V3,V4,V5,V6,V7,V8,V9,Va,Vb,Vc,Vd,Ve,Vf,Vg,Vh,Vi,reduceCtorEq,if_true,if_false,Vj,↓reduceIte,Vk,Vl,Vm,Vn,Vo,Vp,Vq,ne_eq,not_false_eq_true,not_true_eq_false,Vr,Vs,r10_0,r10_1,r10_2,r10_3,r10_4,r10_5,r10_6,r10_7,r10_8,r10_9,r10_10,r10_11,r10_13,r10_14,r10_15,r10_12,r10_16,r10_17,r10_18,r10_19,r10_20,p10,bne0_t q1]) | (exfalso; omega)
    all_goals first | done | trace_state
  rw [q1] at c1
  cases q2 : outB keep 0 1000000000000000
  case true =>
    have hf : slF l keep = 1 := by unfold slF; rw [if_neg (not_not_intro q1), if_pos q2]
    rw [if_neg (by rw [hf]; decide), hf]
    rw [q2] at c2
    refine call_of mixed ok10 rfl ?_
    simp only [PL.av, zPLn] at c1 ⊢
    repeat' first | ((with_reducible (first | refine condD ?_ ?_ | refine condE ?_ ?_ | refine condN ?_ ?_ | refine condI ?_ ?_ | refine condS ?_ ?_)) <;> intro h) | ((with_reducible (first | refine guardD (by with_unfolding_all rfl) ?_ ?_ | refine guardE (by with_unfolding_all rfl) ?_ ?_ | refine guardN (by with_unfolding_all rfl) ?_ ?_ | refine guardI (by with_unfolding_all rfl) ?_ ?_ | refine guardS (by with_unfolding_all rfl) ?_ ?_)) <;> intro h) | ((refine callG c1 ?_)) | ((refine callG c2 ?_)) | (with_reducible refine And.intro ?_ ?_; omega) | (simp only [Z0,Z1,Z2,Z3,Z4,Z5,Z6,Z7,Z8,Z9,Za,Zb,Zc,Zd,Ze,Zf,List.cons.injEq,Zg,Zh,Zi,Zj,Zk,Zl,Zm,Zn,Zo,Zp,beq_self_eq_true,bne_self_eq_false,decide_true,decide_false,Zq,Zr,Zs,Zt,Zu,Zv,Zw,Zx,Zy,Zz,Y0,Y1,Y2,Y3,Y4,Y5,Y6,Y7,Y8,Y9,Ya,Yb,Yc,Yd,Ye,Yf,Yg,Yh,Yi,Yj,Yk,Yl,Ym,Yn,Yo,Yp,Yq,lk,ef,Yr,Ys,Yt,Yu,Yv,Yw,Yx,Yy,Yz,X0,X1,X2,X3,X4,X5,X6,X7,X8,X9,Xa,Xb,Xc,Xd,Xe,Xf,Xg,Xh,Xi,Xj,Xk,Xl,Xm,Xn,Xo,Xp,Xq,Xr,Xs,hv,Xt,ev,Xu,Xv,Xw,Xx,Xy,Xz,W0,W1,W2,W3,W4,W5,W6,W7,W8,W9,Wa,Wb,Wc,Wd,We,Wf,Wg,Wh,Wi,Wj,Wk,Wl,Wm,Wn,Wo,Wp,Wq,Wr,Ws,Wt,Value.oneCell',Wu,Wv,Ww,Wx,true_and,and_true,and_self,implies_true,Wy,Wz,V0,V1,false_implies,V2,V3,V4,V5,V6,V7,V8,V9,Va,Vb,Vc,Vd,Ve,Vf,Vg,Vh,Vi,reduceCtorEq,if_true,if_false,Vj,↓reduceIte,Vk,Vl,Vm,Vn,Vo,Vp,Vq,ne_eq,not_false_eq_true,not_true_eq_false,Vr,Vs,r10_0,r10_1,r10_2,r10_3,r10_4,r10_5,r10_6,r10_7,r10_8,r10_9,r10_10,r10_11,r10_13,r10_14,r10_15,r10_12,r10_16,r10_17,r10_18,r10_19,r10_20,p10]) | (exfalso; omega)
    all_goals first | done | trace_state
  rw [q2] at c2
  cases q3 : l.ended
  case true =>
    have hf : slF l keep = 11 := by unfold slF; rw [if_neg (not_not_intro q1), if_neg (by rw [q2]; decide), if_pos q3]
    rw [if_neg (by rw [hf]; decide), hf]
    refine call_of mixed ok10 rfl ?_
    simp only [PL.av, zPLn, q3] at c1 ⊢
    repeat' first | ((with_reducible (first | refine condD ?_ ?_ | refine condE ?_ ?_ | refine condN ?_ ?_ | refine condI ?_ ?_ | refine condS ?_ ?_)) <;> intro h) | ((with_reducible (first | refine guardD (by with_unfolding_all rfl) ?_ ?_ | refine guardE (by with_unfolding_all rfl) ?_ ?_ | refine guardN (by with_unfolding_all rfl) ?_ ?_ | refine guardI (by with_unfolding_all rfl) ?_ ?_ | refine guardS (by with_unfolding_all rfl) ?_ ?_)) <;> intro h) | ((refine callG c1 ?_)) | ((refine callG c2 ?_)) | (with_reducible refine And.intro ?_ ?_; omega) | (simp only [Z0,Z1,Z2,Z3,Z4,Z5,Z6,Z7,Z8,Z9,Za,Zb,Zc,Zd,Ze,Zf,List.cons.injEq,Zg,Zh,Zi,Zj,Zk,Zl,Zm,Zn,Zo,Zp,beq_self_eq_true,bne_self_eq_false,decide_true,decide_false,Zq,Zr,Zs,Zt,Zu,Zv,Zw,Zx,Zy,Zz,Y0,Y1,Y2,Y3,Y4,Y5,Y6,Y7,Y8,Y9,Ya,Yb,Yc,Yd,Ye,Yf,Yg,Yh,Yi,Yj,Yk,Yl,Ym,Yn,Yo,Yp,Yq,lk,ef,Yr,Ys,Yt,Yu,Yv,Yw,Yx,Yy,Yz,X0,X1,X2,X3,X4,X5,X6,X7,X8,X9,Xa,Xb,Xc,Xd,Xe,Xf,Xg,Xh,Xi,Xj,Xk,Xl,Xm,Xn,Xo,Xp,Xq,Xr,Xs,hv,Xt,ev,Xu,Xv,Xw,Xx,Xy,Xz,W0,W1,W2,W3,W4,W5,W6,W7,W8,W9,Wa,Wb,Wc,Wd,We,Wf,Wg,Wh,Wi,Wj,Wk,Wl,Wm,Wn,Wo,Wp,Wq,Wr,Ws,Wt,Value.oneCell',Wu,Wv,Ww,Wx,true_and,and_true,and_self,implies_true,Wy,Wz,V0,V1,false_implies,V2,V3,V4,V5,V6,V7,V8,V9,Va,Vb,Vc,Vd,Ve,Vf,Vg,Vh,Vi,reduceCtorEq,if_true,if_false,Vj,↓reduceIte,Vk,Vl,Vm,Vn,Vo,Vp,Vq,ne_eq,not_false_eq_true,not_true_eq_false,Vr,Vs,r10_0,r10_1,r10_2,r10_3,r10_4,r10_5,r10_6,r10_7,r10_8,r10_9,r10_10,r10_11,r10_13,r10_14,r10_15,r10_12,r10_16,r10_17,r10_18,r10_19,r10_20,p10]) | (exfalso; omega)
    all_goals first | done | trace_state
  obtain ⟨_, ⟨f0, f1⟩, _, f4, _⟩ := ckF_0.1 q1
  have c3 := copyl_c l (ck_small q1)
  have c4 := length_c l (by omega)
  have hf : slF l keep = if 999999999999000 < l.first + (slS l keep).1 then 1 else if 1000000000000000 < (slS l keep).2 then 1 else 0 := by
    unfold slF
    rw [if_neg (not_not_intro q1), if_neg (by rw [q2]; decide), if_neg (by rw [q3]; decide)]
    rfl
  have hL : (slL l keep).av = [.val (.int .i64 l.target), .val (.int .i64 (l.first + (slS l keep).1)), .val (.int .i64 (slS l keep).2), .ro ((l.ents.drop (slS l keep).1).map LE.av), .val (.bool false)] := by
    simp only [PL.av, slL, q3]
  rw [hf, hL]
  have hall : (∀ x ∈ l.ents.map LE.av, x.length = 7) = True := eq_true (fun x hx => by
    obtain ⟨y, _, rfl⟩ := List.mem_map.1 hx
    rfl)
  have hTk : List.take l.ents.length (l.ents.map LE.av) = l.ents.map LE.av := by rw [← List.length_map (f := LE.av), List.take_length]
  refine call_of mixed ok10 rfl ?_
  simp only [PL.av, q3] at c1 c3 c4 ⊢
  repeat' first | ((with_reducible (first | refine condD ?_ ?_ | refine condE ?_ ?_ | refine condN ?_ ?_ | refine condI ?_ ?_ | refine condS ?_ ?_)) <;> intro h) | ((with_reducible (first | refine guardD (by with_unfolding_all rfl) ?_ ?_ | refine guardE (by with_unfolding_all rfl) ?_ ?_ | refine guardN (by with_unfolding_all rfl) ?_ ?_ | refine guardI (by with_unfolding_all rfl) ?_ ?_ | refine guardS (by with_unfolding_all rfl) ?_ ?_)) <;> intro h) | ((refine callG c1 ?_)) | ((refine callG c2 ?_)) | ((refine callG c3 ?_)) | ((refine callG c4 ?_)) | (with_reducible refine And.intro ?_ ?_; omega) | (simp only [Z0,Z1,Z2,Z3,Z4,Z5,Z6,Z7,Z8,Z9,Za,Zb,Zc,Zd,Ze,Zf,List.cons.injEq,Zg,Zh,Zi,Zj,Zk,Zl,Zm,Zn,Zo,Zp,beq_self_eq_true,bne_self_eq_false,decide_true,decide_false,Zq,Zr,Zs,Zt,Zu,Zv,Zw,Zx,Zy,Zz,Y0,Y1,Y2,Y3,Y4,Y5,Y6,Y7,Y8,Y9,Ya,Yb,Yc,Yd,Ye,Yf,Yg,Yh,Yi,Yj,Yk,Yl,Ym,Yn,Yo,Yp,Yq,lk,ef,Yr,Ys,Yt,Yu,Yv,Yw,Yx,Yy,Yz,X0,X1,X2,X3,X4,X5,X6,X7,X8,X9,Xa,Xb,Xc,Xd,Xe,Xf,Xg,Xh,Xi,Xj,Xk,Xl,Xm,Xn,Xo,Xp,Xq,Xr,Xs,hv,Xt,ev,Xu,Xv,Xw,Xx,Xy,Xz,W0,W1,W2,W3,W4,W5,W6,W7,W8,W9,Wa,Wb,Wc,Wd,We,Wf,Wg,Wh,Wi,Wj,Wk,Wl,Wm,Wn,Wo,Wp,Wq,Wr,Ws,Wt,Value.oneCell',Wu,Wv,Ww,Wx,true_and,and_true,and_self,implies_true,Wy,Wz,V0,V1,false_implies,V2,V3,V4,V5,V6,V7,V8,V9,Va,Vb,Vc,Vd,Ve,Vf,Vg,Vh,Vi,reduceCtorEq,if_true,if_false,Vj,↓reduceIte,Vk,Vl,Vm,Vn,Vo,Vp,Vq,ne_eq,not_false_eq_true,not_true_eq_false,Vr,Vs,r10_0,r10_1,r10_2,r10_3,r10_4,r10_5,r10_6,r10_7,r10_8,r10_9,r10_10,r10_11,r10_13,r10_14,r10_15,r10_12,r10_16,r10_17,r10_18,r10_19,r10_20,p10,List.length_map]) | (exfalso; omega)
  refine loopS (fun p : Nat × Int × Int => mk [(1, .val (.int .i64 keep)), (2, .box [.val (.int .i64 l.target), .val (.int .i64 l.first), .val (.int .i64 l.breaks), .ro (l.ents.map LE.av), .val (.bool false)]), (4, .box [.val (.int .i64 0), .val (.int .i64 0), .val (.int .i64 0), .nilsl, .val (.bool false)]), (8, .box [.val (.int .i64 l.target), .val (.int .i64 l.first), .val (.int .i64 p.2.2), .ro (l.ents.map LE.av), .val (.bool false)]), (9, .val (.int .i64 p.1)), (10, .val (.int .i64 p.2.1))])
    (fun p => p.1 ≤ l.ents.length ∧ slS l keep = slGo keep (l.ents.drop p.1) p.2.1 (p.1, p.2.2)) (fun p => l.ents.length - p.1) (0, lenF l, l.breaks) (weak_mk ?_) ⟨Nat.zero_le _, rfl⟩ ?_
  · simp only [Vt,wk_nil,wk1,Vu,Vv,Vw,Z0,Z1,Z2,Z3,Z4,Z5,Z6,Z7,Z8,Z9,Za,Zb,Zc,Zd,Ze,Zf,List.cons.injEq,Zg,Zh,Zi,Zj,Zk,Zl,Zm,Zn,Zo,Zp,beq_self_eq_true,bne_self_eq_false,decide_true,decide_false,Zq,Zr,Zs,Zt,Zu,Zv,Zw,Zx,Zy,Zz,Y0,Y1,Y2,Y3,Y4,Y5,Y6,Y7,Y8,Y9,Ya,Yb,Yc,Yd,Ye,Yf,Yg,Yh,Yi,Yj,Yk,Yl,Ym,Yn,Yo,Yp,Yq,lk,ef,Yr,Ys,Yt,Yu,Yv,Yw,Yx,Yy,Yz,X0,X1,X2,X3,X4,X5,X6,X7,X8,X9,Xa,Xb,Xc,Xd,Xe,Xf,Xg,Xh,Xi,Xj,Xk,Xl,Xm,Xn,Xo,Xp,Xq,Xr,Xs,hv,Xt,ev,Xu,Xv,Xw,Xx,Xy,Xz,W0,W1,W2,W3,W4,W5,W6,W7,W8,W9,Wa,Wb,Wc,Wd,We,Wf,Wg,Wh,Wi,Wj,Wk,Wl,Wm,Wn,Wo,Wp,Wq,Wr,Ws,Wt,Value.oneCell',Wu,Wv,Ww,Wx,true_and,and_true,and_self,implies_true,Wy,Wz,V0,V1,false_implies,V2,V3,V4,V5,V6,V7,V8,V9,Va,Vb,Vc,Vd,Ve,Vf,Vg,Vh,Vi,reduceCtorEq,if_true,if_false,Vj,↓reduceIte,Vk,Vl,Vm,Vn,Vo,Vp,Vq,ne_eq,not_false_eq_true,not_true_eq_false,Vr,Nat.zero_ne_one]
    all_goals first | done | rfl | simp | trace_state
  rintro J hJ ⟨k, left, b⟩ ⟨hk, hg⟩
  simp only at hk hg
  by_cases h : k < l.ents.length
  · have hw := i_add1 k (by omega)
    have gK := getD_map (f := LE.av) (d := []) h
    have hki : (k : Int) < l.ents.length := by omega
    have k0 : (0 : Int) ≤ (k : Int) := by omega
    rw [List.drop_eq_getElem_cons h, slGo] at hg
    simp only [LE.av] at gK
    generalize l.ents[k] = e at *
    generalize hlf : IntKind.i64.wrap (left - e.milli) = left' at *
    by_cases q5 : left' < keep
    · rw [if_pos q5] at hg
      have q5' : ¬ keep ≤ left' := by omega
      clear hJ
      have wf : IntKind.i64.wrap (l.first + (k : Int)) = l.first + k := wrap_in (by omega) (by omega)
      have hDr : (l.ents.map LE.av).drop k = (l.ents.drop k).map LE.av := List.map_drop.symm
      simp only [hg] at hf hL ⊢
      by_cases q7 : 999999999999000 < l.first + (k : Int)
      · rw [if_pos q7, if_neg (by decide)]
        simp only [zPLn]
        repeat' first | ((with_reducible (first | refine condD ?_ ?_ | refine condE ?_ ?_ | refine condN ?_ ?_ | refine condI ?_ ?_ | refine condS ?_ ?_)) <;> intro h) | ((with_reducible (first | refine guardD (by with_unfolding_all rfl) ?_ ?_ | refine guardE (by with_unfolding_all rfl) ?_ ?_ | refine guardN (by with_unfolding_all rfl) ?_ ?_ | refine guardI (by with_unfolding_all rfl) ?_ ?_ | refine guardS (by with_unfolding_all rfl) ?_ ?_)) <;> intro h) | (with_reducible refine And.intro ?_ ?_; omega) | (simp only [Z0,Z1,Z2,Z3,Z4,Z5,Z6,Z7,Z8,Z9,Za,Zb,Zc,Zd,Ze,Zf,List.cons.injEq,Zg,Zh,Zi,Zj,Zk,Zl,Zm,Zn,Zo,Zp,beq_self_eq_true,bne_self_eq_false,decide_true,decide_false,Zq,Zr,Zs,Zt,Zu,Zv,Zw,Zx,Zy,Zz,Y0,Y1,Y2,Y3,Y4,Y5,Y6,Y7,Y8,Y9,Ya,Yb,Yc,Yd,Ye,Yf,Yg,Yh,Yi,Yj,Yk,Yl,Ym,Yn,Yo,Yp,Yq,lk,ef,Yr,Ys,Yt,Yu,Yv,Yw,Yx,Yy,Yz,X0,X1,X2,X3,X4,X5,X6,X7,X8,X9,Xa,Xb,Xc,Xd,Xe,Xf,Xg,Xh,Xi,Xj,Xk,Xl,Xm,Xn,Xo,Xp,Xq,Xr,Xs,hv,Xt,ev,Xu,Xv,Xw,Xx,Xy,Xz,W0,W1,W2,W3,W4,W5,W6,W7,W8,W9,Wa,Wb,Wc,Wd,We,Wf,Wg,Wh,Wi,Wj,Wk,Wl,Wm,Wn,Wo,Wp,Wq,Wr,Ws,Wt,Value.oneCell',Wu,Wv,Ww,Wx,true_and,and_true,and_self,implies_true,Wy,Wz,V0,V1,false_implies,V2,V3,V4,V5,V6,V7,V8,V9,Va,Vb,Vc,Vd,Ve,Vf,Vg,Vh,Vi,reduceCtorEq,if_true,if_false,Vj,↓reduceIte,Vk,Vl,Vm,Vn,Vo,Vp,Vq,ne_eq,not_false_eq_true,not_true_eq_false,Vr,Vs,r10_0,r10_1,r10_2,r10_3,r10_4,r10_5,r10_6,r10_7,r10_8,r10_9,r10_10,r10_11,r10_13,r10_14,r10_15,r10_12,r10_16,r10_17,r10_18,r10_19,r10_20,p10,l10_0,Zt,hki,gK,hlf,q5',wf,hDr,hTk,hall,q7]) | (exfalso; omega)
        all_goals first | done | omega | trace_state
      by_cases q8 : 1000000000000000 < b
      · rw [if_neg q7, if_pos q8, if_neg (by decide)]
        simp only [zPLn]
        repeat' first | ((with_reducible (first | refine condD ?_ ?_ | refine condE ?_ ?_ | refine condN ?_ ?_ | refine condI ?_ ?_ | refine condS ?_ ?_)) <;> intro h) | ((with_reducible (first | refine guardD (by with_unfolding_all rfl) ?_ ?_ | refine guardE (by with_unfolding_all rfl) ?_ ?_ | refine guardN (by with_unfolding_all rfl) ?_ ?_ | refine guardI (by with_unfolding_all rfl) ?_ ?_ | refine guardS (by with_unfolding_all rfl) ?_ ?_)) <;> intro h) | (with_reducible refine And.intro ?_ ?_; omega) | (simp only [Z0,Z1,Z2,Z3,Z4,Z5,Z6,Z7,Z8,Z9,Za,Zb,Zc,Zd,Ze,Zf,List.cons.injEq,Zg,Zh,Zi,Zj,Zk,Zl,Zm,Zn,Zo,Zp,beq_self_eq_true,bne_self_eq_false,decide_true,decide_false,Zq,Zr,Zs,Zt,Zu,Zv,Zw,Zx,Zy,Zz,Y0,Y1,Y2,Y3,Y4,Y5,Y6,Y7,Y8,Y9,Ya,Yb,Yc,Yd,Ye,Yf,Yg,Yh,Yi,Yj,Yk,Yl,Ym,Yn,Yo,Yp,Yq,lk,ef,Yr,Ys,Yt,Yu,Yv,Yw,Yx,Yy,Yz,X0,X1,X2,X3,X4,X5,X6,X7,X8,X9,Xa,Xb,Xc,Xd,Xe,Xf,Xg,Xh,Xi,Xj,Xk,Xl,Xm,Xn,Xo,Xp,Xq,Xr,Xs,hv,Xt,ev,Xu,Xv,Xw,Xx,Xy,Xz,W0,W1,W2,W3,W4,W5,W6,W7,W8,W9,Wa,Wb,Wc,Wd,We,Wf,Wg,Wh,Wi,Wj,Wk,Wl,Wm,Wn,Wo,Wp,Wq,Wr,Ws,Wt,Value.oneCell',Wu,Wv,Ww,Wx,true_and,and_true,and_self,implies_true,Wy,Wz,V0,V1,false_implies,V2,V3,V4,V5,V6,V7,V8,V9,Va,Vb,Vc,Vd,Ve,Vf,Vg,Vh,Vi,reduceCtorEq,if_true,if_false,Vj,↓reduceIte,Vk,Vl,Vm,Vn,Vo,Vp,Vq,ne_eq,not_false_eq_true,not_true_eq_false,Vr,Vs,r10_0,r10_1,r10_2,r10_3,r10_4,r10_5,r10_6,r10_7,r10_8,r10_9,r10_10,r10_11,r10_13,r10_14,r10_15,r10_12,r10_16,r10_17,r10_18,r10_19,r10_20,p10,l10_0,Zt,hki,gK,hlf,q5',wf,hDr,hTk,hall,q7,q8]) | (exfalso; omega)
        all_goals first | done | omega | trace_state
      · rw [if_neg q7, if_neg q8, if_pos rfl]
        repeat' first | ((with_reducible (first | refine condD ?_ ?_ | refine condE ?_ ?_ | refine condN ?_ ?_ | refine condI ?_ ?_ | refine condS ?_ ?_)) <;> intro h) | ((with_reducible (first | refine guardD (by with_unfolding_all rfl) ?_ ?_ | refine guardE (by with_unfolding_all rfl) ?_ ?_ | refine guardN (by with_unfolding_all rfl) ?_ ?_ | refine guardI (by with_unfolding_all rfl) ?_ ?_ | refine guardS (by with_unfolding_all rfl) ?_ ?_)) <;> intro h) | (with_reducible refine And.intro ?_ ?_; omega) | (simp only [Z0,Z1,Z2,Z3,Z4,Z5,Z6,Z7,Z8,Z9,Za,Zb,Zc,Zd,Ze,Zf,List.cons.injEq,Zg,Zh,Zi,Zj,Zk,Zl,Zm,Zn,Zo,Zp,beq_self_eq_true,bne_self_eq_false,decide_true,decide_false,Zq,Zr,Zs,Zt,Zu,Zv,Zw,Zx,Zy,Zz,Y0,Y1,Y2,Y3,Y4,Y5,Y6,Y7,Y8,Y9,Ya,Yb,Yc,Yd,Ye,Yf,Yg,Yh,Yi,Yj,Yk,Yl,Ym,Yn,Yo,Yp,Yq,lk,ef,Yr,Ys,Yt,Yu,Yv,Yw,Yx,Yy,Yz,X0,X1,X2,X3,X4,X5,X6,X7,X8,X9,Xa,Xb,Xc,Xd,Xe,Xf,Xg,Xh,Xi,Xj,Xk,Xl,Xm,Xn,Xo,Xp,Xq,Xr,Xs,hv,Xt,ev,Xu,Xv,Xw,Xx,Xy,Xz,W0,W1,W2,W3,W4,W5,W6,W7,W8,W9,Wa,Wb,Wc,Wd,We,Wf,Wg,Wh,Wi,Wj,Wk,Wl,Wm,Wn,Wo,Wp,Wq,Wr,Ws,Wt,Value.oneCell',Wu,Wv,Ww,Wx,true_and,and_true,and_self,implies_true,Wy,Wz,V0,V1,false_implies,V2,V3,V4,V5,V6,V7,V8,V9,Va,Vb,Vc,Vd,Ve,Vf,Vg,Vh,Vi,reduceCtorEq,if_true,if_false,Vj,↓reduceIte,Vk,Vl,Vm,Vn,Vo,Vp,Vq,ne_eq,not_false_eq_true,not_true_eq_false,Vr,Vs,r10_0,r10_1,r10_2,r10_3,r10_4,r10_5,r10_6,r10_7,r10_8,r10_9,r10_10,r10_11,r10_13,r10_14,r10_15,r10_12,r10_16,r10_17,r10_18,r10_19,r10_20,p10,l10_0,Zt,hki,gK,hlf,q5',wf,hDr,hTk,hall,q7,q8]) | (exfalso; omega)
        all_goals first | done | omega | trace_state
    · rw [if_neg q5] at hg
      have q5' : keep ≤ left' := by omega
      cases q6 : e.brk
      · rw [q6] at gK hg
        rw [if_neg (by decide)] at hg
        repeat' first | ((with_reducible (first | refine condD ?_ ?_ | refine condE ?_ ?_ | refine condN ?_ ?_ | refine condI ?_ ?_ | refine condS ?_ ?_)) <;> intro h) | ((with_reducible (first | refine guardD (by with_unfolding_all rfl) ?_ ?_ | refine guardE (by with_unfolding_all rfl) ?_ ?_ | refine guardN (by with_unfolding_all rfl) ?_ ?_ | refine guardI (by with_unfolding_all rfl) ?_ ?_ | refine guardS (by with_unfolding_all rfl) ?_ ?_)) <;> intro h) | (with_reducible refine And.intro ?_ ?_; omega) | (simp only [Z0,Z1,Z2,Z3,Z4,Z5,Z6,Z7,Z8,Z9,Za,Zb,Zc,Zd,Ze,Zf,List.cons.injEq,Zg,Zh,Zi,Zj,Zk,Zl,Zm,Zn,Zo,Zp,beq_self_eq_true,bne_self_eq_false,decide_true,decide_false,Zq,Zr,Zs,Zt,Zu,Zv,Zw,Zx,Zy,Zz,Y0,Y1,Y2,Y3,Y4,Y5,Y6,Y7,Y8,Y9,Ya,Yb,Yc,Yd,Ye,Yf,Yg,Yh,Yi,Yj,Yk,Yl,Ym,Yn,Yo,Yp,Yq,lk,ef,Yr,Ys,Yt,Yu,Yv,Yw,Yx,Yy,Yz,X0,X1,X2,X3,X4,X5,X6,X7,X8,X9,Xa,Xb,Xc,Xd,Xe,Xf,Xg,Xh,Xi,Xj,Xk,Xl,Xm,Xn,Xo,Xp,Xq,Xr,Xs,hv,Xt,ev,Xu,Xv,Xw,Xx,Xy,Xz,W0,W1,W2,W3,W4,W5,W6,W7,W8,W9,Wa,Wb,Wc,Wd,We,Wf,Wg,Wh,Wi,Wj,Wk,Wl,Wm,Wn,Wo,Wp,Wq,Wr,Ws,Wt,Value.oneCell',Wu,Wv,Ww,Wx,true_and,and_true,and_self,implies_true,Wy,Wz,V0,V1,false_implies,V2,V3,V4,V5,V6,V7,V8,V9,Va,Vb,Vc,Vd,Ve,Vf,Vg,Vh,Vi,reduceCtorEq,if_true,if_false,Vj,↓reduceIte,Vk,Vl,Vm,Vn,Vo,Vp,Vq,ne_eq,not_false_eq_true,not_true_eq_false,Vr,Vs,r10_0,r10_1,r10_2,r10_3,r10_4,r10_5,r10_6,r10_7,r10_8,r10_9,r10_10,r10_11,r10_13,r10_14,r10_15,r10_12,r10_16,r10_17,r10_18,r10_19,r10_20,p10,l10_0,Zt,hki,k0,hw,gK,hlf,q5']) | (exfalso; omega)
        all_goals first | done | omega | exact again hJ (k + 1, left', b) (weak_mk (by simp only [Vt,wk_nil,wk1,Vu,Vv,Vw,Z0,Z1,Z2,Z3,Z4,Z5,Z6,Z7,Z8,Z9,Za,Zb,Zc,Zd,Ze,Zf,List.cons.injEq,Zg,Zh,Zi,Zj,Zk,Zl,Zm,Zn,Zo,Zp,beq_self_eq_true,bne_self_eq_false,decide_true,decide_false,Zq,Zr,Zs,Zt,Zu,Zv,Zw,Zx,Zy,Zz,Y0,Y1,Y2,Y3,Y4,Y5,Y6,Y7,Y8,Y9,Ya,Yb,Yc,Yd,Ye,Yf,Yg,Yh,Yi,Yj,Yk,Yl,Ym,Yn,Yo,Yp,Yq,lk,ef,Yr,Ys,Yt,Yu,Yv,Yw,Yx,Yy,Yz,X0,X1,X2,X3,X4,X5,X6,X7,X8,X9,Xa,Xb,Xc,Xd,Xe,Xf,Xg,Xh,Xi,Xj,Xk,Xl,Xm,Xn,Xo,Xp,Xq,Xr,Xs,hv,Xt,ev,Xu,Xv,Xw,Xx,Xy,Xz,W0,W1,W2,W3,W4,W5,W6,W7,W8,W9,Wa,Wb,Wc,Wd,We,Wf,Wg,Wh,Wi,Wj,Wk,Wl,Wm,Wn,Wo,Wp,Wq,Wr,Ws,Wt,Value.oneCell',Wu,Wv,Ww,Wx,true_and,and_true,and_self,implies_true,Wy,Wz,V0,V1,false_implies,V2,V3,V4,V5,V6,V7,V8,V9,Va,Vb,Vc,Vd,Ve,Vf,Vg,Vh,Vi,reduceCtorEq,if_true,if_false,Vj,↓reduceIte,Vk,Vl,Vm,Vn,Vo,Vp,Vq,ne_eq,not_false_eq_true,not_true_eq_false,Vr,Nat.zero_ne_one]; all_goals first | done | rfl)) ⟨by simp only; omega, hg⟩ (by simp only; omega) | trace_state
      · rw [q6] at gK hg
        rw [if_pos rfl] at hg
        generalize hbb : IntKind.i64.wrap (b + 1) = b' at *
        repeat' first | ((with_reducible (first | refine condD ?_ ?_ | refine condE ?_ ?_ | refine condN ?_ ?_ | refine condI ?_ ?_ | refine condS ?_ ?_)) <;> intro h) | ((with_reducible (first | refine guardD (by with_unfolding_all rfl) ?_ ?_ | refine guardE (by with_unfolding_all rfl) ?_ ?_ | refine guardN (by with_unfolding_all rfl) ?_ ?_ | refine guardI (by with_unfolding_all rfl) ?_ ?_ | refine guardS (by with_unfolding_all rfl) ?_ ?_)) <;> intro h) | (with_reducible refine And.intro ?_ ?_; omega) | (simp only [Z0,Z1,Z2,Z3,Z4,Z5,Z6,Z7,Z8,Z9,Za,Zb,Zc,Zd,Ze,Zf,List.cons.injEq,Zg,Zh,Zi,Zj,Zk,Zl,Zm,Zn,Zo,Zp,beq_self_eq_true,bne_self_eq_false,decide_true,decide_false,Zq,Zr,Zs,Zt,Zu,Zv,Zw,Zx,Zy,Zz,Y0,Y1,Y2,Y3,Y4,Y5,Y6,Y7,Y8,Y9,Ya,Yb,Yc,Yd,Ye,Yf,Yg,Yh,Yi,Yj,Yk,Yl,Ym,Yn,Yo,Yp,Yq,lk,ef,Yr,Ys,Yt,Yu,Yv,Yw,Yx,Yy,Yz,X0,X1,X2,X3,X4,X5,X6,X7,X8,X9,Xa,Xb,Xc,Xd,Xe,Xf,Xg,Xh,Xi,Xj,Xk,Xl,Xm,Xn,Xo,Xp,Xq,Xr,Xs,hv,Xt,ev,Xu,Xv,Xw,Xx,Xy,Xz,W0,W1,W2,W3,W4,W5,W6,W7,W8,W9,Wa,Wb,Wc,Wd,We,Wf,Wg,Wh,Wi,Wj,Wk,Wl,Wm,Wn,Wo,Wp,Wq,Wr,Ws,Wt,Value.oneCell',Wu,Wv,Ww,Wx,true_and,and_true,and_self,implies_true,Wy,Wz,V0,V1,false_implies,V2,V3,V4,V5,V6,V7,V8,V9,Va,Vb,Vc,Vd,Ve,Vf,Vg,Vh,Vi,reduceCtorEq,if_true,if_false,Vj,↓reduceIte,Vk,Vl,Vm,Vn,Vo,Vp,Vq,ne_eq,not_false_eq_true,not_true_eq_false,Vr,Vs,r10_0,r10_1,r10_2,r10_3,r10_4,r10_5,r10_6,r10_7,r10_8,r10_9,r10_10,r10_11,r10_13,r10_14,r10_15,r10_12,r10_16,r10_17,r10_18,r10_19,r10_20,p10,l10_0,Zt,hki,k0,hw,gK,hlf,q5',hbb]) | (exfalso; omega)
        all_goals first | done | omega | exact again hJ (k + 1, left', b') (weak_mk (by simp only [Vt,wk_nil,wk1,Vu,Vv,Vw,Z0,Z1,Z2,Z3,Z4,Z5,Z6,Z7,Z8,Z9,Za,Zb,Zc,Zd,Ze,Zf,List.cons.injEq,Zg,Zh,Zi,Zj,Zk,Zl,Zm,Zn,Zo,Zp,beq_self_eq_true,bne_self_eq_false,decide_true,decide_false,Zq,Zr,Zs,Zt,Zu,Zv,Zw,Zx,Zy,Zz,Y0,Y1,Y2,Y3,Y4,Y5,Y6,Y7,Y8,Y9,Ya,Yb,Yc,Yd,Ye,Yf,Yg,Yh,Yi,Yj,Yk,Yl,Ym,Yn,Yo,Yp,Yq,lk,ef,Yr,Ys,Yt,Yu,Yv,Yw,Yx,Yy,Yz,X0,X1,X2,X3,X4,X5,X6,X7,X8,X9,Xa,Xb,Xc,Xd,Xe,Xf,Xg,Xh,Xi,Xj,Xk,Xl,Xm,Xn,Xo,Xp,Xq,Xr,Xs,hv,Xt,ev,Xu,Xv,Xw,Xx,Xy,Xz,W0,W1,W2,W3,W4,W5,W6,W7,W8,W9,Wa,Wb,Wc,Wd,We,Wf,Wg,Wh,Wi,Wj,Wk,Wl,Wm,Wn,Wo,Wp,Wq,Wr,Ws,Wt,Value.oneCell',Wu,Wv,Ww,Wx,true_and,and_true,and_self,implies_true,Wy,Wz,V0,V1,false_implies,V2,V3,V4,V5,V6,V7,V8,V9,Va,Vb,Vc,Vd,Ve,Vf,Vg,Vh,Vi,reduceCtorEq,if_true,if_false,Vj,↓reduceIte,Vk,Vl,Vm,Vn,Vo,Vp,Vq,ne_eq,not_false_eq_true,not_true_eq_false,Vr,Nat.zero_ne_one]; all_goals first | done | rfl)) ⟨by simp only; omega, hg⟩ (by simp only; omega) | trace_state
  · have hki : ¬ (k : Int) < l.ents.length := by omega
    rw [List.drop_of_length_le (by omega), slGo] at hg
    clear hJ
    have wf : IntKind.i64.wrap (l.first + (k : Int)) = l.first + k := wrap_in (by omega) (by omega)
    have hDr : (l.ents.map LE.av).drop k = (l.ents.drop k).map LE.av := List.map_drop.symm
    simp only [hg] at hf hL ⊢
    by_cases q7 : 999999999999000 < l.first + (k : Int)
    · rw [if_pos q7, if_neg (by decide)]
      simp only [zPLn]
      repeat' first | ((with_reducible (first | refine condD ?_ ?_ | refine condE ?_ ?_ | refine condN ?_ ?_ | refine condI ?_ ?_ | refine condS ?_ ?_)) <;> intro h) | ((with_reducible (first | refine guardD (by with_unfolding_all rfl) ?_ ?_ | refine guardE (by with_unfolding_all rfl) ?_ ?_ | refine guardN (by with_unfolding_all rfl) ?_ ?_ | refine guardI (by with_unfolding_all rfl) ?_ ?_ | refine guardS (by with_unfolding_all rfl) ?_ ?_)) <;> intro h) | (with_reducible refine And.intro ?_ ?_; omega) | (simp only [Z0,Z1,Z2,Z3,Z4,Z5,Z6,Z7,Z8,Z9,Za,Zb,Zc,Zd,Ze,Zf,List.cons.injEq,Zg,Zh,Zi,Zj,Zk,Zl,Zm,Zn,Zo,Zp,beq_self_eq_true,bne_self_eq_false,decide_true,decide_false,Zq,Zr,Zs,Zt,Zu,Zv,Zw,Zx,Zy,Zz,Y0,Y1,Y2,Y3,Y4,Y5,Y6,Y7,Y8,Y9,Ya,Yb,Yc,Yd,Ye,Yf,Yg,Yh,Yi,Yj,Yk,Yl,Ym,Yn,Yo,Yp,Yq,lk,ef,Yr,Ys,Yt,Yu,Yv,Yw,Yx,Yy,Yz,X0,X1,X2,X3,X4,X5,X6,X7,X8,X9,Xa,Xb,Xc,Xd,Xe,Xf,Xg,Xh,Xi,Xj,Xk,Xl,Xm,Xn,Xo,Xp,Xq,Xr,Xs,hv,Xt,ev,Xu,Xv,Xw,Xx,Xy,Xz,W0,W1,W2,W3,W4,W5,W6,W7,W8,W9,Wa,Wb,Wc,Wd,We,Wf,Wg,Wh,Wi,Wj,Wk,Wl,Wm,Wn,Wo,Wp,Wq,Wr,Ws,Wt,Value.oneCell',Wu,Wv,Ww,Wx,true_and,and_true,and_self,implies_true,Wy,Wz,V0,V1,false_implies,V2,V3,V4,V5,V6,V7,V8,V9,Va,Vb,Vc,Vd,Ve,Vf,Vg,Vh,Vi,reduceCtorEq,if_true,if_false,Vj,↓reduceIte,Vk,Vl,Vm,Vn,Vo,Vp,Vq,ne_eq,not_false_eq_true,not_true_eq_false,Vr,Vs,r10_0,r10_1,r10_2,r10_3,r10_4,r10_5,r10_6,r10_7,r10_8,r10_9,r10_10,r10_11,r10_13,r10_14,r10_15,r10_12,r10_16,r10_17,r10_18,r10_19,r10_20,p10,l10_0,Zt,hki,wf,hDr,hTk,hall,q7]) | (exfalso; omega)
      all_goals first | done | omega | trace_state
    by_cases q8 : 1000000000000000 < b
    · rw [if_neg q7, if_pos q8, if_neg (by decide)]
      simp only [zPLn]
      repeat' first | ((with_reducible (first | refine condD ?_ ?_ | refine condE ?_ ?_ | refine condN ?_ ?_ | refine condI ?_ ?_ | refine condS ?_ ?_)) <;> intro h) | ((with_reducible (first | refine guardD (by with_unfolding_all rfl) ?_ ?_ | refine guardE (by with_unfolding_all rfl) ?_ ?_ | refine guardN (by with_unfolding_all rfl) ?_ ?_ | refine guardI (by with_unfolding_all rfl) ?_ ?_ | refine guardS (by with_unfolding_all rfl) ?_ ?_)) <;> intro h) | (with_reducible refine And.intro ?_ ?_; omega) | (simp only [Z0,Z1,Z2,Z3,Z4,Z5,Z6,Z7,Z8,Z9,Za,Zb,Zc,Zd,Ze,Zf,List.cons.injEq,Zg,Zh,Zi,Zj,Zk,Zl,Zm,Zn,Zo,Zp,beq_self_eq_true,bne_self_eq_false,decide_true,decide_false,Zq,Zr,Zs,Zt,Zu,Zv,Zw,Zx,Zy,Zz,Y0,Y1,Y2,Y3,Y4,Y5,Y6,Y7,Y8,Y9,Ya,Yb,Yc,Yd,Ye,Yf,Yg,Yh,Yi,Yj,Yk,Yl,Ym,Yn,Yo,Yp,Yq,lk,ef,Yr,Ys,Yt,Yu,Yv,Yw,Yx,Yy,Yz,X0,X1,X2,X3,X4,X5,X6,X7,X8,X9,Xa,Xb,Xc,Xd,Xe,Xf,Xg,Xh,Xi,Xj,Xk,Xl,Xm,Xn,Xo,Xp,Xq,Xr,Xs,hv,Xt,ev,Xu,Xv,Xw,Xx,Xy,Xz,W0,W1,W2,W3,W4,W5,W6,W7,W8,W9,Wa,Wb,Wc,Wd,We,Wf,Wg,Wh,Wi,Wj,Wk,Wl,Wm,Wn,Wo,Wp,Wq,Wr,Ws,Wt,Value.oneCell',Wu,Wv,Ww,Wx,true_and,and_true,and_self,implies_true,Wy,Wz,V0,V1,false_implies,V2,V3,V4,V5,V6,V7,V8,V9,Va,Vb,Vc,Vd,Ve,Vf,Vg,Vh,Vi,reduceCtorEq,if_true,if_false,Vj,↓reduceIte,Vk,Vl,Vm,Vn,Vo,Vp,Vq,ne_eq,not_false_eq_true,not_true_eq_false,Vr,Vs,r10_0,r10_1,r10_2,r10_3,r10_4,r10_5,r10_6,r10_7,r10_8,r10_9,r10_10,r10_11,r10_13,r10_14,r10_15,r10_12,r10_16,r10_17,r10_18,r10_19,r10_20,p10,l10_0,Zt,hki,wf,hDr,hTk,hall,q7,q8]) | (exfalso; omega)
      all_goals first | done | omega | trace_state
    · rw [if_neg q7, if_neg q8, if_pos rfl]
      repeat' first | ((with_reducible (first | refine condD ?_ ?_ | refine condE ?_ ?_ | refine condN ?_ ?_ | refine condI ?_ ?_ | refine condS ?_ ?_)) <;> intro h) | ((with_reducible (first | refine guardD (by with_unfolding_all rfl) ?_ ?_ | refine guardE (by with_unfolding_all rfl) ?_ ?_ | refine guardN (by with_unfolding_all rfl) ?_ ?_ | refine guardI (by with_unfolding_all rfl) ?_ ?_ | refine guardS (by with_unfolding_all rfl) ?_ ?_)) <;> intro h) | (with_reducible refine And.intro ?_ ?_; omega) | (simp only [Z0,Z1,Z2,Z3,Z4,Z5,Z6,Z7,Z8,Z9,Za,Zb,Zc,Zd,Ze,Zf,List.cons.injEq,Zg,Zh,Zi,Zj,Zk,Zl,Zm,Zn,Zo,Zp,beq_self_eq_true,bne_self_eq_false,decide_true,decide_false,Zq,Zr,Zs,Zt,Zu,Zv,Zw,Zx,Zy,Zz,Y0,Y1,Y2,Y3,Y4,Y5,Y6,Y7,Y8,Y9,Ya,Yb,Yc,Yd,Ye,Yf,Yg,Yh,Yi,Yj,Yk,Yl,Ym,Yn,Yo,Yp,Yq,lk,ef,Yr,Ys,Yt,Yu,Yv,Yw,Yx,Yy,Yz,X0,X1,X2,X3,X4,X5,X6,X7,X8,X9,Xa,Xb,Xc,Xd,Xe,Xf,Xg,Xh,Xi,Xj,Xk,Xl,Xm,Xn,Xo,Xp,Xq,Xr,Xs,hv,Xt,ev,Xu,Xv,Xw,Xx,Xy,Xz,W0,W1,W2,W3,W4,W5,W6,W7,W8,W9,Wa,Wb,Wc,Wd,We,Wf,Wg,Wh,Wi,Wj,Wk,Wl,Wm,Wn,Wo,Wp,Wq,Wr,Ws,Wt,Value.oneCell',Wu,Wv,Ww,Wx,true_and,and_true,and_self,implies_true,Wy,Wz,V0,V1,false_implies,V2,V3,V4,V5,V6,V7,V8,V9,Va,Vb,Vc,Vd,Ve,Vf,Vg,Vh,Vi,reduceCtorEq,if_true,if_false,Vj,↓reduceIte,Vk,Vl,Vm,Vn,Vo,Vp,Vq,ne_eq,not_false_eq_true,not_true_eq_false,Vr,Vs,r10_0,r10_1,r10_2,r10_3,r10_4,r10_5,r10_6,r10_7,r10_8,r10_9,r10_10,r10_11,r10_13,r10_14,r10_15,r10_12,r10_16,r10_17,r10_18,r10_19,r10_20,p10,l10_0,Zt,hki,wf,hDr,hTk,hall,q7,q8]) | (exfalso; omega)
      all_goals first | done | omega | trace_state
end Go.Proofs.Ytpecmhdepggnoaa
