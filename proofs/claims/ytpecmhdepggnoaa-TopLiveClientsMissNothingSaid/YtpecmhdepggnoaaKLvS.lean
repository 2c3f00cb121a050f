/- Live lists: Load, by the machine on data. -/
import Derived.Test.YtpecmhdepggnoaaKLvR
import Derived.Test.YtpecmhdepggnoaaKLvN
namespace Go.Proofs.Ytpecmhdepggnoaa
open Go.RowKit
open Go.Proofs.Ytpecmhdepggnoaa renaming done_eq → Z0, done_eq' → Z1, donet_eq → Z2, donet_eq' → Z3, fin_val → Z4, fin_tup → Z5, fin_agg → Z6, fin_ro → Z7, res_one → Z8, res_more → Z9, rv_t → Za, rv_c → Zb, rv_l → Zc, int_eq → Zg, bool_eq → Zh, toNat_pred → Zr, toNat_succ → Zs, cnd_t → Zu, cnd_f → Zv, grd_tt → Zw, grd_u → Zx, grd_tf → Zy, grd_ft → Zz, grd_ff → Y0, g_skip → Y1, g_ops → Y2, g_seq → Y3, g_block → Y4, g_exit → Y5, g_ret → Y6, x_c → Y7, x_o → Y8, x_l → Y9, x_b → Ya, g_b → Yb, g_nil → Yc, r_all → Yd, o_nil → Ye, g_cond → Yf, o_guard → Yg, o_call → Yh, o_callm → Yi, o_callt → Yj, o_callx → Yk, o_callv → Yl, o_callc → Ym, o_callh → Yn, o_apph → Yo, noav_alias → Yp, noav_nil → Yq, o_mv → Yr, o_pick → Ys, o_bin → Yt, o_never → Yu, o_eqs → Yv, o_eqb → Yw, o_un → Yx, o_conv → Yy, o_load → Yz, o_loadr → X0, o_idxr → X1, o_loads → X2, o_loadsr → X3, o_fld → X4, o_idx → X5, o_idxs → X6, o_len → X7, o_lens → X8, o_ext → X9, o_nilck → Xa, o_slc → Xb, o_slcs → Xc, o_build → Xd, o_minmax → Xe, o_mkfn → Xf, o_mkfnr → Xg, o_alloc → Xh, o_box → Xi, o_boxs → Xj, o_row → Xk, o_rowr → Xl, o_mk → Xm, o_asg → Xn, o_app → Xo, o_appa → Xp, o_store → Xq, o_stores → Xr, o_eqnil → Xs, eqAV → Xt, view_t → Xu, view_c → Xv, view_nil → Xw, view_fn → Xx, look_own → Xy, look_box → Xz, look_junk → W0, look_val → W1, look_nilsl → W2, look_ro → W3, look_roAt → W4, look_agg → W5, look_tup → W6, look_clo → W7, look_alias → W8, look_ref → W9, look_into → Wa, look_fnv → Wb, look_held → Wc, rowOf → Wd, cellsOf → We, argv → Wf, vbin → Wg, vun → Wh, bnd → Wi, elemOf → Wj, putParts → Wk, setAt → Wl, zav → Wm, put_at → Wu, mk_at → Wv, mk_nil → Ww, initSt → Wx, wk_cons → Vt, wk_nil → Vu, vint_eq → Vv, vbool_eq → Vw
open Go.Proofs.Ytpecmhdepggnoaa.AV.tup renaming injEq → Zd
open Go.Proofs.Ytpecmhdepggnoaa.AV.agg renaming injEq → Ze
open Go.Proofs.Ytpecmhdepggnoaa.AV.ro renaming injEq → Zf
open _root_.Int renaming toNat_natCast → Zi, reduceToNat → Zj, toNat_zero → Zk, toNat_one → Zl, reduceLE → Zm, reduceLT → Zn, reduceBEq → Zo, reduceBNe → Zp, reduceNeg → Zq
open _root_.List renaming length_map → Zt, map_cons → Wy, map_nil → Wz, forall_mem_cons → V0, not_mem_nil → V1, length_cons → V2, length_nil → V3, getD_cons_zero → V4, getD_cons_succ → V5, getD_nil → V6, drop_succ_cons → V7, drop_zero → V8, take_succ_cons → V9, take_zero → Va, set_cons_zero → Vb, set_cons_succ → Vc, all_cons → Vd, all_nil → Ve
open Go.Proofs.Ytpecmhdepggnoaa.ASt renaming rid → Wn, hold → Wo, free → Wp
open Go.Proofs.Ytpecmhdepggnoaa.AV renaming kill → Wq, isHome → Wr, noLoan → Ws, cellOK → Wt
open _root_.Bool renaming and_true → Vf, true_and → Vg, not_true → Vh, not_false → Vi, false_eq_true → Vj
open _root_.Nat renaming reduceEqDiff → Vk, reduceBNe → Vl, reduceAdd → Vm, reduceSub → Vn, reduceMul → Vo, reduceLeDiff → Vp, reduceLT → Vq, one_ne_zero → Vr, zero_ne_one → Vs
open Go.Proofs.Ytpecmhdepggnoaa.AV.val renaming injEq → Vx
set_option linter.unusedSimpArgs false
--@short

def zCLn : AV := .agg [.val (.bool false), .val (.int .i64 0), .val (.int .i64 0), .val (.int .i64 0), .val (.int .i64 0), .nilsl, .val (.bool false), .nilsl, .val (.int .i64 0)]
/-- Where the loop is: the queue's value, what is in hand. -/
structure LdI where
  k : Nat
  r : Value
  s : LS
/-! headend/list.Load -/
def r7_0 : List POp := [⟨3, .boxs (.t 0), none⟩,
  ⟨4, .boxs (.t 1), none⟩,
  ⟨6, .alloc [.bool false, .int .i64 0, .int .i64 0, .int .i64 0, .int .i64 0, .slice none 0 0, .bool false, .slice none 0 0, .int .i64 0], none⟩,
  ⟨7, .asg (.c (.int .i64 0)), none⟩]
def r7_1 : List POp := [⟨15, .loads 5 (.t 4), none⟩,
  ⟨16, .call 26 [.t 15], none⟩,
  ⟨8, .asg (.t 16), none⟩]
def r7_2 : List POp := [⟨17, .mv (.t 8), none⟩,
  ⟨18, .bin .neq (.t 17) (.c (.int .i64 0)), none⟩]
def r7_3 : List POp := [⟨19, .build [.bool false, .int .i64 0, .int .i64 0, .int .i64 0, .int .i64 0, .slice none 0 0, .bool false, .slice none 0 0, .int .i64 0] [], none⟩,
  ⟨20, .mv (.t 8), none⟩,
  ⟨0, .stores 9 (.t 6) (.t 19), none⟩,
  ⟨7, .mv (.t 20), none⟩]
def r7_4 : List POp := [⟨22, .loads 9 (.t 3), none⟩,
  ⟨23, .loads 5 (.t 4), none⟩,
  ⟨24, .mv (.t 2), none⟩,
  ⟨25, .call 27 [.t 22, .t 23, .t 24], none⟩,
  ⟨21, .mv (.t 25), none⟩,
  ⟨26, .ext 0 (.t 21), none⟩,
  ⟨27, .ext 1 (.t 21), none⟩,
  ⟨9, .mv (.t 26), none⟩,
  ⟨10, .mv (.t 27), none⟩]
def r7_5 : List POp := [⟨28, .mv (.t 10), none⟩,
  ⟨29, .bin .neq (.t 28) (.c (.int .i64 0)), none⟩]
def r7_6 : List POp := [⟨30, .build [.bool false, .int .i64 0, .int .i64 0, .int .i64 0, .int .i64 0, .slice none 0 0, .bool false, .slice none 0 0, .int .i64 0] [], none⟩,
  ⟨31, .mv (.t 10), none⟩,
  ⟨0, .stores 9 (.t 6) (.t 30), none⟩,
  ⟨7, .mv (.t 31), none⟩]
def r7_7 : List POp := [⟨32, .loads 9 (.t 3), none⟩,
  ⟨33, .callh 28 [.t 32], none⟩,
  ⟨11, .alloc [.bool false, .int .i64 0, .int .i64 0, .int .i64 0, .int .i64 0, .slice none 0 0, .bool false, .slice none 0 0, .int .i64 0], none⟩,
  ⟨0, .stores 9 (.t 11) (.t 33), none⟩]
def r7_8 : List POp := [⟨34, .fld 1 (.t 4), none⟩,
  ⟨35, .load (.t 34), none⟩,
  ⟨36, .mv (.t 9), none⟩,
  ⟨37, .bin .sub (.t 35) (.t 36), none⟩,
  ⟨38, .minmax true (.c (.int .i64 0)) (.t 37), none⟩,
  ⟨12, .asg (.t 38), none⟩]
def r7_9 : List POp := [⟨39, .mv (.t 9), none⟩,
  ⟨40, .mv (.t 12), none⟩,
  ⟨41, .bin .add (.t 39) (.t 40), none⟩,
  ⟨42, .fld 8 (.t 3), none⟩,
  ⟨43, .loadr (.t 42), none⟩,
  ⟨44, .mv (.t 12), none⟩,
  ⟨45, .bin .add (.t 43) (.t 44), none⟩,
  ⟨46, .loads 5 (.t 4), none⟩,
  ⟨47, .call 29 [.t 46], none⟩,
  ⟨48, .fld 0 (.t 11), none⟩,
  ⟨0, .store (.t 48) (.c (.bool true)), none⟩,
  ⟨49, .fld 1 (.t 11), none⟩,
  ⟨0, .store (.t 49) (.t 41), none⟩,
  ⟨50, .fld 8 (.t 11), none⟩,
  ⟨0, .store (.t 50) (.t 45), none⟩,
  ⟨51, .fld 2 (.t 11), none⟩,
  ⟨0, .stores 5 (.t 51) (.t 47), none⟩]
def r7_10 : List POp := [⟨52, .fld 3 (.t 4), none⟩,
  ⟨53, .load (.t 52), none⟩,
  ⟨54, .len (.t 53), none⟩,
  ⟨55, .mv (.c (.int .i64 0)), none⟩]
def r7_11 : List POp := [⟨56, .bin .lss (.t 55) (.t 54), none⟩]
def r7_12 : List POp := [⟨57, .mv (.t 55), none⟩,
  ⟨58, .idx 7 (.t 53) (.t 55), none⟩,
  ⟨59, .loads 7 (.t 58), none⟩,
  ⟨14, .alloc [.string ⟨#[]⟩, .int .i64 0, .bool false, .int .i64 0, .string ⟨#[]⟩, .bool false, .slice none 0 0], none⟩,
  ⟨13, .asg (.t 57), none⟩,
  ⟨0, .stores 7 (.t 14) (.t 59), none⟩]
def r7_13 : List POp := [⟨60, .fld 1 (.t 4), none⟩,
  ⟨61, .load (.t 60), none⟩,
  ⟨62, .mv (.t 13), none⟩,
  ⟨63, .bin .add (.t 61) (.t 62), none⟩,
  ⟨64, .fld 1 (.t 11), none⟩,
  ⟨65, .load (.t 64), none⟩,
  ⟨66, .bin .lss (.t 63) (.t 65), none⟩]
def r7_14 : List POp := [⟨67, .loads 7 (.t 14), none⟩,
  ⟨68, .call 30 [.t 67], none⟩,
  ⟨0, .stores 7 (.t 14) (.t 68), none⟩]
def r7_15 : List POp := [⟨69, .mv (.t 12), none⟩,
  ⟨70, .bin .gtr (.t 69) (.c (.int .i64 0)), none⟩]
def r7_16 : List POp := [⟨71, .fld 2 (.t 14), none⟩,
  ⟨0, .store (.t 71) (.c (.bool true)), none⟩,
  ⟨12, .asg (.c (.int .i64 0)), none⟩]
def r7_17 : List POp := [⟨72, .fld 7 (.t 11), none⟩,
  ⟨73, .load (.t 72), none⟩,
  ⟨74, .fld 1 (.t 4), none⟩,
  ⟨75, .load (.t 74), none⟩,
  ⟨76, .mv (.t 13), none⟩,
  ⟨77, .bin .add (.t 75) (.t 76), none⟩,
  ⟨78, .loads 7 (.t 14), none⟩,
  ⟨79, .build [.int .i64 0, .string ⟨#[]⟩, .int .i64 0, .bool false, .int .i64 0, .string ⟨#[]⟩, .bool false, .slice none 0 0] [(0, 1, .t 77), (1, 7, .t 78)], none⟩,
  ⟨80, .row 39 8 [.t 79], none⟩,
  ⟨81, .apph 39 8 96 (.t 73) (.t 80), none⟩,
  ⟨82, .fld 7 (.t 11), none⟩,
  ⟨0, .store (.t 82) (.t 81), none⟩]
def r7_18 : List POp := [⟨83, .fld 1 (.t 11), none⟩,
  ⟨84, .load (.t 83), none⟩,
  ⟨85, .bin .add (.t 84) (.c (.int .i64 1)), none⟩,
  ⟨86, .fld 1 (.t 11), none⟩,
  ⟨0, .store (.t 86) (.t 85), none⟩]
def r7_19 : List POp := [⟨87, .bin .add (.t 55) (.c (.int .i64 1)), none⟩,
  ⟨55, .mv (.t 87), none⟩]
def r7_20 : List POp := [⟨88, .fld 7 (.t 11), none⟩,
  ⟨89, .load (.t 88), none⟩,
  ⟨90, .len (.t 89), none⟩,
  ⟨91, .bin .gtr (.t 90) (.c (.int .i64 2000)), none⟩]
def r7_21 : List POp := [⟨92, .build [.bool false, .int .i64 0, .int .i64 0, .int .i64 0, .int .i64 0, .slice none 0 0, .bool false, .slice none 0 0, .int .i64 0] [], none⟩,
  ⟨0, .stores 9 (.t 6) (.t 92), none⟩,
  ⟨7, .asg (.c (.int .i64 17)), none⟩]
def r7_22 : List POp := [⟨93, .loads 9 (.t 11), none⟩,
  ⟨0, .stores 9 (.t 6) (.t 93), none⟩,
  ⟨7, .asg (.c (.int .i64 0)), none⟩]
def l7_0 : PCode := .seq (.ops r7_11) (.seq (.cond (.t 56) (.skip) (.exit 0)) (.seq (.block 1 (.seq (.ops r7_12) (.seq (.seq (.ops r7_13) (.cond (.t 66) (.exit 1) (.skip))) (.seq (.ops r7_14) (.seq (.seq (.ops r7_15) (.cond (.t 70) (.ops r7_16) (.skip))) (.seq (.ops r7_17) (.ops r7_18))))))) (.ops r7_19)))
def p7 : PCode := .seq (.ops r7_0) (.seq (.seq (.ops r7_1) (.seq (.ops r7_2) (.cond (.t 18) (.seq (.ops r7_3) (.ret)) (.skip)))) (.seq (.ops r7_4) (.seq (.seq (.ops r7_5) (.cond (.t 29) (.seq (.ops r7_6) (.ret)) (.skip))) (.seq (.ops r7_7) (.seq (.ops r7_8) (.seq (.opw r7_9) (.seq (.seq (.ops r7_10) (.block 0 (.loop l7_0))) (.seq (.seq (.oph r7_20) (.cond (.t 91) (.seq (.ops r7_21) (.ret)) (.skip))) (.seq (.ops r7_22) (.ret))))))))))
theorem ok7 : okFunc Try.prog 7 [.c 6 9, .t 7] 3 p7 = true := by kernel_rfl
set_option maxHeartbeats 2000000 in
theorem load_c (c : CL) (l : PL) (hl : l.ok) (hc : c.last.ok) (hs : c.small) (back : Int) : CallOK Try.prog 7 [.agg c.av, .agg l.av, .val (.int .i64 back)] (if loadF c l back = 0 then .tup [.agg (loadC c l back).av, .val (.int .i64 0)] else .tup [zCLn, .val (.int .i64 (loadF c l back))]) := by
  have c1 := check_c l hl
  by_cases q1 : ckF l = 0
  case neg =>
    have hf : loadF c l back = ckF l := by unfold loadF; rw [if_pos q1]
    rw [if_neg (by rw [hf]; exact q1), hf]
    refine call_of mixed ok7 rfl ?_
    simp only [PL.av, CL.av, zCLn] at c1 ⊢
    generalize ckF l = f at *
    repeat' first | ((with_reducible (first | refine condD ?_ ?_ | refine condE ?_ ?_ | refine condN ?_ ?_ | refine condI ?_ ?_ | refine condS ?_ ?_)) <;> intro h) | ((with_reducible (first | refine guardD (by with_unfolding_all rfl) ?_ ?_ | refine guardE (by with_unfolding_all rfl) ?_ ?_ | refine guardN (by with_unfolding_all rfl) ?_ ?_ | refine guardI (by with_unfolding_all rfl) ?_ ?_ | refine guardS (by with_unfolding_all rfl) ?_ ?_)) <;> intro h) | ((refine callG c1 ?_)) | (with_reducible refine And.intro ?_ ?_; omega) | (simp only [Z0,Z1,Z2,Z3,Z4,Z5,Z6,Z7,Z8,Z9,Za,Zb,Zc,Zd,Ze,Zf,List.cons.injEq,Zg,Zh,Zi,Zj,Zk,Zl,Zm,Zn,Zo,Zp,beq_self_eq_true,bne_self_eq_false,decide_true,decide_false,Zq,Zr,Zs,Zt,Zu,Zv,Zw,Zx,Zy,Zz,Y0,Y1,Y2,Y3,Y4,Y5,Y6,Y7,Y8,Y9,Ya,Yb,Yc,Yd,Ye,Yf,Yg,Yh,Yi,Yj,Yk,Yl,Ym,Yn,Yo,Yp,Yq,lk,ef,Yr,Ys,Yt,Yu,Yv,Yw,Yx,Yy,Yz,X0,X1,X2,X3,X4,X5,X6,X7,X8,X9,Xa,Xb,Xc,Xd,Xe,Xf,Xg,Xh,Xi,Xj,Xk,Xl,Xm,Xn,Xo,Xp,Xq,Xr,Xs,hv,Xt,ev,Xu,Xv,Xw,Xx,Xy,Xz,W0,W1,W2,W3,W4,W5,W6,W7,W8,W9,Wa,Wb,Wc,Wd,We,Wf,Wg,Wh,Wi,Wj,Wk,Wl,Wm,Wn,Wo,Wp,Wq,Wr,Ws,Wt,Value.oneCell',Wu,Wv,Ww,Wx,true_and,and_true,and_self,implies_true,Wy,Wz,V0,V1,false_implies,V2,V3,V4,V5,V6,V7,V8,V9,Va,Vb,Vc,Vd,Ve,Vf,Vg,Vh,Vi,reduceCtorEq,if_true,if_false,Vj,↓reduceIte,Vk,Vl,Vm,Vn,Vo,Vp,Vq,ne_eq,not_false_eq_true,not_true_eq_false,Vr,Vs,r7_0,r7_1,r7_2,r7_3,r7_4,r7_5,r7_6,r7_7,r7_8,r7_9,r7_10,r7_11,r7_12,r7_13,r7_14,r7_15,r7_16,r7_17,r7_18,r7_19,r7_20,r7_21,r7_22,p7,bne0_t q1]) | (exfalso; omega)
    all_goals first | done | trace_state
  rw [q1] at c1
  have c2 := begin_c c l hc hs.2.1 q1 back
  by_cases q2 : (beginF c l back).2 = 0
  case neg =>
    have hf : loadF c l back = (beginF c l back).2 := by unfold loadF; rw [if_neg (not_not_intro q1), if_pos q2]
    rw [if_neg (by rw [hf]; exact q2), hf]
    refine call_of mixed ok7 rfl ?_
    simp only [PL.av, CL.av, zCLn] at c1 c2 ⊢
    generalize beginF c l back = s at *
    repeat' first | ((with_reducible (first | refine condD ?_ ?_ | refine condE ?_ ?_ | refine condN ?_ ?_ | refine condI ?_ ?_ | refine condS ?_ ?_)) <;> intro h) | ((with_reducible (first | refine guardD (by with_unfolding_all rfl) ?_ ?_ | refine guardE (by with_unfolding_all rfl) ?_ ?_ | refine guardN (by with_unfolding_all rfl) ?_ ?_ | refine guardI (by with_unfolding_all rfl) ?_ ?_ | refine guardS (by with_unfolding_all rfl) ?_ ?_)) <;> intro h) | ((refine callG c1 ?_)) | ((refine callG c2 ?_)) | (with_reducible refine And.intro ?_ ?_; omega) | (simp only [Z0,Z1,Z2,Z3,Z4,Z5,Z6,Z7,Z8,Z9,Za,Zb,Zc,Zd,Ze,Zf,List.cons.injEq,Zg,Zh,Zi,Zj,Zk,Zl,Zm,Zn,Zo,Zp,beq_self_eq_true,bne_self_eq_false,decide_true,decide_false,Zq,Zr,Zs,Zt,Zu,Zv,Zw,Zx,Zy,Zz,Y0,Y1,Y2,Y3,Y4,Y5,Y6,Y7,Y8,Y9,Ya,Yb,Yc,Yd,Ye,Yf,Yg,Yh,Yi,Yj,Yk,Yl,Ym,Yn,Yo,Yp,Yq,lk,ef,Yr,Ys,Yt,Yu,Yv,Yw,Yx,Yy,Yz,X0,X1,X2,X3,X4,X5,X6,X7,X8,X9,Xa,Xb,Xc,Xd,Xe,Xf,Xg,Xh,Xi,Xj,Xk,Xl,Xm,Xn,Xo,Xp,Xq,Xr,Xs,hv,Xt,ev,Xu,Xv,Xw,Xx,Xy,Xz,W0,W1,W2,W3,W4,W5,W6,W7,W8,W9,Wa,Wb,Wc,Wd,We,Wf,Wg,Wh,Wi,Wj,Wk,Wl,Wm,Wn,Wo,Wp,Wq,Wr,Ws,Wt,Value.oneCell',Wu,Wv,Ww,Wx,true_and,and_true,and_self,implies_true,Wy,Wz,V0,V1,false_implies,V2,V3,V4,V5,V6,V7,V8,V9,Va,Vb,Vc,Vd,Ve,Vf,Vg,Vh,Vi,reduceCtorEq,if_true,if_false,Vj,↓reduceIte,Vk,Vl,Vm,Vn,Vo,Vp,Vq,ne_eq,not_false_eq_true,not_true_eq_false,Vr,Vs,r7_0,r7_1,r7_2,r7_3,r7_4,r7_5,r7_6,r7_7,r7_8,r7_9,r7_10,r7_11,r7_12,r7_13,r7_14,r7_15,r7_16,r7_17,r7_18,r7_19,r7_20,r7_21,r7_22,p7,bne0_t q2]) | (exfalso; omega)
    all_goals first | done | trace_state
  obtain ⟨⟨n0, n1⟩, ⟨r0, r1⟩, r3⟩ := begin_rng q1 q2
  rw [q2] at c2
  have hf : loadF c l back = if 2000 < (ldS c l (beginF c l back).1).queue.length then 17 else 0 := by unfold loadF; rw [if_neg (not_not_intro q1), if_neg (not_not_intro q2)]
  rw [hf]
  unfold loadC
  obtain ⟨_, ⟨f0, f1⟩, _, f4, f5⟩ := ckF_0.1 q1
  have hex : ∀ e ∈ l.ents, e.extra.length ≤ 20 := fun e he => efF_extra (f5 e he)
  have c3 := HH.copycl_h c hs
  have c4 := copyl_c l (ck_small q1)
  generalize (beginF c l back).1 = nx at *
  have w1 : IntKind.i64.wrap (l.first - nx) = l.first - nx := wrap_in (by omega) (by omega)
  have hmx : (if (0 : Int) < l.first - nx then l.first - nx else 0) = ldLost l nx := by unfold ldLost; split <;> omega
  have hL0 : 0 ≤ ldLost l nx := by unfold ldLost; omega
  have hL1 : ldLost l nx ≤ 1000000000000000 := by unfold ldLost; omega
  have hLf : l.first ≤ nx + ldLost l nx := by unfold ldLost; omega
  have hC : (ldC c l nx).av = [.val (.bool true), .val (.int .i64 (ldS c l nx).next), .val (.int .i64 l.target), .val (.int .i64 l.first), .val (.int .i64 l.breaks), .ro (l.ents.map LE.av), .val (.bool l.ended), .ro ((ldS c l nx).queue.map QI.av), .val (.int .i64 (c.lost + ldLost l nx))] := by simp only [CL.av, ldC]
  rw [hC]
  have hS0 : ldS c l nx = ldGo l.first l.ents ⟨nx + ldLost l nx, ldLost l nx, c.queue⟩ := rfl
  generalize ldS c l nx = S at *
  generalize ldLost l nx = L at *
  have w2 : IntKind.i64.wrap (nx + L) = nx + L := wrap_in (by omega) (by omega)
  have w3 : IntKind.i64.wrap (c.lost + L) = c.lost + L := wrap_in (by omega) (by omega)
  clear hf hC q2
  refine call_of mixed ok7 rfl ?_
  simp only [PL.av, CL.av] at c1 c2 c3 c4 ⊢
  repeat' first | ((with_reducible (first | refine condD ?_ ?_ | refine condE ?_ ?_ | refine condN ?_ ?_ | refine condI ?_ ?_ | refine condS ?_ ?_)) <;> intro h) | ((with_reducible (first | refine guardD (by with_unfolding_all rfl) ?_ ?_ | refine guardE (by with_unfolding_all rfl) ?_ ?_ | refine guardN (by with_unfolding_all rfl) ?_ ?_ | refine guardI (by with_unfolding_all rfl) ?_ ?_ | refine guardS (by with_unfolding_all rfl) ?_ ?_)) <;> intro h) | ((refine callG c1 ?_)) | ((refine callG c2 ?_)) | ((refine callhG 200 c3 (by with_unfolding_all rfl) (by decide) (fun r hr1 => ?_))) | (with_reducible refine And.intro ?_ ?_; omega) | (simp only [Z0,Z1,Z2,Z3,Z4,Z5,Z6,Z7,Z8,Z9,Za,Zb,Zc,Zd,Ze,Zf,List.cons.injEq,Zg,Zh,Zi,Zj,Zk,Zl,Zm,Zn,Zo,Zp,beq_self_eq_true,bne_self_eq_false,decide_true,decide_false,Zq,Zr,Zs,Zt,Zu,Zv,Zw,Zx,Zy,Zz,Y0,Y1,Y2,Y3,Y4,Y5,Y6,Y7,Y8,Y9,Ya,Yb,Yc,Yd,Ye,Yf,Yg,Yh,Yi,Yj,Yk,Yl,Ym,Yn,Yo,Yp,Yq,lk,ef,Yr,Ys,Yt,Yu,Yv,Yw,Yx,Yy,Yz,X0,X1,X2,X3,X4,X5,X6,X7,X8,X9,Xa,Xb,Xc,Xd,Xe,Xf,Xg,Xh,Xi,Xj,Xk,Xl,Xm,Xn,Xo,Xp,Xq,Xr,Xs,hv,Xt,ev,Xu,Xv,Xw,Xx,Xy,Xz,W0,W1,W2,W3,W4,W5,W6,W7,W8,W9,Wa,Wb,Wc,Wd,We,Wf,Wg,Wh,Wi,Wj,Wk,Wl,Wm,Wn,Wo,Wp,Wq,Wr,Ws,Wt,Value.oneCell',Wu,Wv,Ww,Wx,true_and,and_true,and_self,implies_true,Wy,Wz,V0,V1,false_implies,V2,V3,V4,V5,V6,V7,V8,V9,Va,Vb,Vc,Vd,Ve,Vf,Vg,Vh,Vi,reduceCtorEq,if_true,if_false,Vj,↓reduceIte,Vk,Vl,Vm,Vn,Vo,Vp,Vq,ne_eq,not_false_eq_true,not_true_eq_false,Vr,Vs,r7_0,r7_1,r7_2,r7_3,r7_4,r7_5,r7_6,r7_7,r7_8,r7_9,r7_10,r7_11,r7_12,r7_13,r7_14,r7_15,r7_16,r7_17,r7_18,r7_19,r7_20,r7_21,r7_22,p7,w1,hmx]) | (exfalso; omega)
  refine opwG (weak_mk (l := [(3, .roAt c.av 0), (4, .box l.av), (6, .box [.val (.bool false), .val (.int .i64 0), .val (.int .i64 0), .val (.int .i64 0), .val (.int .i64 0), .nilsl, .val (.bool false), .nilsl, .val (.int .i64 0)]), (9, .val (.int .i64 nx)), (11, .box [.val (.bool c.begun), .val (.int .i64 c.next), .val (.int .i64 c.last.target), .val (.int .i64 c.last.first), .val (.int .i64 c.last.breaks), .ro (c.last.ents.map LE.av), .val (.bool c.last.ended), .val r, .val (.int .i64 c.lost)]), (12, .val (.int .i64 L)), (200, .held 39 8 (c.queue.map QI.av) r)]) ?_) ?_
  · simp only [CL.av, PL.av]
    simp only [Vt,Vu,wk1,Vv,Vw,Vx,Z0,Z1,Z2,Z3,Z4,Z5,Z6,Z7,Z8,Z9,Za,Zb,Zc,Zd,Ze,Zf,List.cons.injEq,Zg,Zh,Zi,Zj,Zk,Zl,Zm,Zn,Zo,Zp,beq_self_eq_true,bne_self_eq_false,decide_true,decide_false,Zq,Zr,Zs,Zt,Zu,Zv,Zw,Zx,Zy,Zz,Y0,Y1,Y2,Y3,Y4,Y5,Y6,Y7,Y8,Y9,Ya,Yb,Yc,Yd,Ye,Yf,Yg,Yh,Yi,Yj,Yk,Yl,Ym,Yn,Yo,Yp,Yq,lk,ef,Yr,Ys,Yt,Yu,Yv,Yw,Yx,Yy,Yz,X0,X1,X2,X3,X4,X5,X6,X7,X8,X9,Xa,Xb,Xc,Xd,Xe,Xf,Xg,Xh,Xi,Xj,Xk,Xl,Xm,Xn,Xo,Xp,Xq,Xr,Xs,hv,Xt,ev,Xu,Xv,Xw,Xx,Xy,Xz,W0,W1,W2,W3,W4,W5,W6,W7,W8,W9,Wa,Wb,Wc,Wd,We,Wf,Wg,Wh,Wi,Wj,Wk,Wl,Wm,Wn,Wo,Wp,Wq,Wr,Ws,Wt,Value.oneCell',Wu,Wv,Ww,Wx,true_and,and_true,and_self,implies_true,Wy,Wz,V0,V1,false_implies,V2,V3,V4,V5,V6,V7,V8,V9,Va,Vb,Vc,Vd,Ve,Vf,Vg,Vh,Vi,reduceCtorEq,if_true,if_false,Vj,↓reduceIte,Vk,Vl,Vm,Vn,Vo,Vp,Vq,ne_eq,not_false_eq_true,not_true_eq_false,Vr,Nat.zero_ne_one]
    all_goals first | done | trace_state
  simp only [CL.av, PL.av]
  repeat' first | ((with_reducible (first | refine condD ?_ ?_ | refine condE ?_ ?_ | refine condN ?_ ?_ | refine condI ?_ ?_ | refine condS ?_ ?_)) <;> intro h) | ((with_reducible (first | refine guardD (by with_unfolding_all rfl) ?_ ?_ | refine guardE (by with_unfolding_all rfl) ?_ ?_ | refine guardN (by with_unfolding_all rfl) ?_ ?_ | refine guardI (by with_unfolding_all rfl) ?_ ?_ | refine guardS (by with_unfolding_all rfl) ?_ ?_)) <;> intro h) | ((refine callG c4 ?_)) | (with_reducible refine And.intro ?_ ?_; omega) | (simp only [Z0,Z1,Z2,Z3,Z4,Z5,Z6,Z7,Z8,Z9,Za,Zb,Zc,Zd,Ze,Zf,List.cons.injEq,Zg,Zh,Zi,Zj,Zk,Zl,Zm,Zn,Zo,Zp,beq_self_eq_true,bne_self_eq_false,decide_true,decide_false,Zq,Zr,Zs,Zt,Zu,Zv,Zw,Zx,Zy,Zz,Y0,Y1,Y2,Y3,Y4,Y5,Y6,Y7,Y8,Y9,Ya,Yb,Yc,Yd,Ye,Yf,Yg,Yh,Yi,Yj,Yk,Yl,Ym,Yn,Yo,Yp,Yq,lk,ef,Yr,Ys,Yt,Yu,Yv,Yw,Yx,Yy,Yz,X0,X1,X2,X3,X4,X5,X6,X7,X8,X9,Xa,Xb,Xc,Xd,Xe,Xf,Xg,Xh,Xi,Xj,Xk,Xl,Xm,Xn,Xo,Xp,Xq,Xr,Xs,hv,Xt,ev,Xu,Xv,Xw,Xx,Xy,Xz,W0,W1,W2,W3,W4,W5,W6,W7,W8,W9,Wa,Wb,Wc,Wd,We,Wf,Wg,Wh,Wi,Wj,Wk,Wl,Wm,Wn,Wo,Wp,Wq,Wr,Ws,Wt,Value.oneCell',Wu,Wv,Ww,Wx,true_and,and_true,and_self,implies_true,Wy,Wz,V0,V1,false_implies,V2,V3,V4,V5,V6,V7,V8,V9,Va,Vb,Vc,Vd,Ve,Vf,Vg,Vh,Vi,reduceCtorEq,if_true,if_false,Vj,↓reduceIte,Vk,Vl,Vm,Vn,Vo,Vp,Vq,ne_eq,not_false_eq_true,not_true_eq_false,Vr,Vs,r7_0,r7_1,r7_2,r7_3,r7_4,r7_5,r7_6,r7_7,r7_8,r7_9,r7_10,r7_11,r7_12,r7_13,r7_14,r7_15,r7_16,r7_17,r7_18,r7_19,r7_20,r7_21,r7_22,p7,w2,w3,List.length_map]) | (exfalso; omega)
  refine loopS (fun p : LdI => mk [(4, .box [.val (.int .i64 l.target), .val (.int .i64 l.first), .val (.int .i64 l.breaks), .ro (l.ents.map LE.av), .val (.bool l.ended)]), (6, .box [.val (.bool false), .val (.int .i64 0), .val (.int .i64 0), .val (.int .i64 0), .val (.int .i64 0), .nilsl, .val (.bool false), .nilsl, .val (.int .i64 0)]), (11, .box [.val (.bool true), .val (.int .i64 p.s.next), .val (.int .i64 l.target), .val (.int .i64 l.first), .val (.int .i64 l.breaks), .ro (l.ents.map LE.av), .val (.bool l.ended), .val p.r, .val (.int .i64 (c.lost + L))]), (12, .val (.int .i64 p.s.lost)), (53, .ro (l.ents.map LE.av)), (54, .val (.int .i64 l.ents.length)), (55, .val (.int .i64 p.k)), (200, .held 39 8 (p.s.queue.map QI.av) p.r)])
    (fun p => p.k ≤ l.ents.length ∧ S = ldGo (l.first + (p.k : Int)) (l.ents.drop p.k) p.s ∧ p.r.oneCell' = true ∧ 0 ≤ p.s.next ∧ p.s.next ≤ nx + L + (p.k : Int) ∧ p.s.queue.length ≤ 2000 + p.k) (fun p => l.ents.length - p.k) ⟨0, r, nx + L, L, c.queue⟩ (weak_mk ?_) ⟨Nat.zero_le _, ?_, hr1, by show 0 ≤ nx + L; omega, by show nx + L ≤ nx + L + ((0 : Nat) : Int); omega, by show c.queue.length ≤ _; omega⟩ ?_
  · simp only [Vt,Vu,wk1,Vv,Vw,Vx,Z0,Z1,Z2,Z3,Z4,Z5,Z6,Z7,Z8,Z9,Za,Zb,Zc,Zd,Ze,Zf,List.cons.injEq,Zg,Zh,Zi,Zj,Zk,Zl,Zm,Zn,Zo,Zp,beq_self_eq_true,bne_self_eq_false,decide_true,decide_false,Zq,Zr,Zs,Zt,Zu,Zv,Zw,Zx,Zy,Zz,Y0,Y1,Y2,Y3,Y4,Y5,Y6,Y7,Y8,Y9,Ya,Yb,Yc,Yd,Ye,Yf,Yg,Yh,Yi,Yj,Yk,Yl,Ym,Yn,Yo,Yp,Yq,lk,ef,Yr,Ys,Yt,Yu,Yv,Yw,Yx,Yy,Yz,X0,X1,X2,X3,X4,X5,X6,X7,X8,X9,Xa,Xb,Xc,Xd,Xe,Xf,Xg,Xh,Xi,Xj,Xk,Xl,Xm,Xn,Xo,Xp,Xq,Xr,Xs,hv,Xt,ev,Xu,Xv,Xw,Xx,Xy,Xz,W0,W1,W2,W3,W4,W5,W6,W7,W8,W9,Wa,Wb,Wc,Wd,We,Wf,Wg,Wh,Wi,Wj,Wk,Wl,Wm,Wn,Wo,Wp,Wq,Wr,Ws,Wt,Value.oneCell',Wu,Wv,Ww,Wx,true_and,and_true,and_self,implies_true,Wy,Wz,V0,V1,false_implies,V2,V3,V4,V5,V6,V7,V8,V9,Va,Vb,Vc,Vd,Ve,Vf,Vg,Vh,Vi,reduceCtorEq,if_true,if_false,Vj,↓reduceIte,Vk,Vl,Vm,Vn,Vo,Vp,Vq,ne_eq,not_false_eq_true,not_true_eq_false,Vr,Nat.zero_ne_one]
    all_goals first | done | rfl | simp | trace_state
  · rw [hS0]
    show ldGo l.first l.ents _ = ldGo (l.first + ((0 : Nat) : Int)) (l.ents.drop 0) _
    rw [List.drop_zero]
    simp
  rintro J hJ ⟨k, r', s⟩ ⟨hk, hg, hr1, hn0, hn1, hql⟩
  obtain ⟨nxt, lost, Q⟩ := s
  simp only at hk hg hr1 hn0 hn1 hql
  have hr2 := hr1
  simp only [Value.oneCell'] at hr2
  by_cases h : k < l.ents.length
  · have hw := i_add1 k (by omega)
    have gK := getD_map (f := LE.av) (d := []) h
    have hki : (k : Int) < l.ents.length := by omega
    have k0 : (0 : Int) ≤ (k : Int) := by omega
    have wk : IntKind.i64.wrap (l.first + (k : Int)) = l.first + k := wrap_in (by omega) (by omega)
    have hkk : l.first + (k : Int) + 1 = l.first + ((k + 1 : Nat) : Int) := by omega
    have e1 := copye_c l.ents[k] (by have := hex _ (List.getElem_mem h); omega)
    rw [List.drop_eq_getElem_cons h, ldGo, hkk] at hg
    generalize l.ents[k] = e at *
    unfold ldStep at hg
    simp only [LE.av] at gK e1
    by_cases q5 : l.first + (k : Int) < nxt
    · rw [if_pos (show l.first + (k : Int) < (LS.mk nxt lost Q).next from q5)] at hg
      have i1 : nxt ≤ nx + L + ((k + 1 : Nat) : Int) := by omega
      have i2 : Q.length ≤ 2000 + (k + 1) := by omega
      have i3 : l.ents.length - (k + 1) < l.ents.length - k := by omega
      repeat' first | ((with_reducible (first | refine condD ?_ ?_ | refine condE ?_ ?_ | refine condN ?_ ?_ | refine condI ?_ ?_ | refine condS ?_ ?_)) <;> intro h) | ((with_reducible (first | refine guardD (by with_unfolding_all rfl) ?_ ?_ | refine guardE (by with_unfolding_all rfl) ?_ ?_ | refine guardN (by with_unfolding_all rfl) ?_ ?_ | refine guardI (by with_unfolding_all rfl) ?_ ?_ | refine guardS (by with_unfolding_all rfl) ?_ ?_)) <;> intro h) | (with_reducible refine And.intro ?_ ?_; omega) | (simp only [Z0,Z1,Z2,Z3,Z4,Z5,Z6,Z7,Z8,Z9,Za,Zb,Zc,Zd,Ze,Zf,List.cons.injEq,Zg,Zh,Zi,Zj,Zk,Zl,Zm,Zn,Zo,Zp,beq_self_eq_true,bne_self_eq_false,decide_true,decide_false,Zq,Zr,Zs,Zt,Zu,Zv,Zw,Zx,Zy,Zz,Y0,Y1,Y2,Y3,Y4,Y5,Y6,Y7,Y8,Y9,Ya,Yb,Yc,Yd,Ye,Yf,Yg,Yh,Yi,Yj,Yk,Yl,Ym,Yn,Yo,Yp,Yq,lk,ef,Yr,Ys,Yt,Yu,Yv,Yw,Yx,Yy,Yz,X0,X1,X2,X3,X4,X5,X6,X7,X8,X9,Xa,Xb,Xc,Xd,Xe,Xf,Xg,Xh,Xi,Xj,Xk,Xl,Xm,Xn,Xo,Xp,Xq,Xr,Xs,hv,Xt,ev,Xu,Xv,Xw,Xx,Xy,Xz,W0,W1,W2,W3,W4,W5,W6,W7,W8,W9,Wa,Wb,Wc,Wd,We,Wf,Wg,Wh,Wi,Wj,Wk,Wl,Wm,Wn,Wo,Wp,Wq,Wr,Ws,Wt,Value.oneCell',Wu,Wv,Ww,Wx,true_and,and_true,and_self,implies_true,Wy,Wz,V0,V1,false_implies,V2,V3,V4,V5,V6,V7,V8,V9,Va,Vb,Vc,Vd,Ve,Vf,Vg,Vh,Vi,reduceCtorEq,if_true,if_false,Vj,↓reduceIte,Vk,Vl,Vm,Vn,Vo,Vp,Vq,ne_eq,not_false_eq_true,not_true_eq_false,Vr,Vs,r7_0,r7_1,r7_2,r7_3,r7_4,r7_5,r7_6,r7_7,r7_8,r7_9,r7_10,r7_11,r7_12,r7_13,r7_14,r7_15,r7_16,r7_17,r7_18,r7_19,r7_20,r7_21,r7_22,p7,l7_0,Zt,hki,k0,hw,gK,wk,q5,hr2]) | (exfalso; omega)
      refine again hJ (LdI.mk (k + 1) r' (LS.mk nxt lost Q)) (weak_mk ?_) ⟨h, hg, hr1, hn0, i1, i2⟩ i3
      simp only [Vt,Vu,wk1,Vv,Vw,Vx,Z0,Z1,Z2,Z3,Z4,Z5,Z6,Z7,Z8,Z9,Za,Zb,Zc,Zd,Ze,Zf,List.cons.injEq,Zg,Zh,Zi,Zj,Zk,Zl,Zm,Zn,Zo,Zp,beq_self_eq_true,bne_self_eq_false,decide_true,decide_false,Zq,Zr,Zs,Zt,Zu,Zv,Zw,Zx,Zy,Zz,Y0,Y1,Y2,Y3,Y4,Y5,Y6,Y7,Y8,Y9,Ya,Yb,Yc,Yd,Ye,Yf,Yg,Yh,Yi,Yj,Yk,Yl,Ym,Yn,Yo,Yp,Yq,lk,ef,Yr,Ys,Yt,Yu,Yv,Yw,Yx,Yy,Yz,X0,X1,X2,X3,X4,X5,X6,X7,X8,X9,Xa,Xb,Xc,Xd,Xe,Xf,Xg,Xh,Xi,Xj,Xk,Xl,Xm,Xn,Xo,Xp,Xq,Xr,Xs,hv,Xt,ev,Xu,Xv,Xw,Xx,Xy,Xz,W0,W1,W2,W3,W4,W5,W6,W7,W8,W9,Wa,Wb,Wc,Wd,We,Wf,Wg,Wh,Wi,Wj,Wk,Wl,Wm,Wn,Wo,Wp,Wq,Wr,Ws,Wt,Value.oneCell',Wu,Wv,Ww,Wx,true_and,and_true,and_self,implies_true,Wy,Wz,V0,V1,false_implies,V2,V3,V4,V5,V6,V7,V8,V9,Va,Vb,Vc,Vd,Ve,Vf,Vg,Vh,Vi,reduceCtorEq,if_true,if_false,Vj,↓reduceIte,Vk,Vl,Vm,Vn,Vo,Vp,Vq,ne_eq,not_false_eq_true,not_true_eq_false,Vr,Nat.zero_ne_one]
      all_goals first | done | rfl | trace_state
    · rw [if_neg (show ¬ l.first + (k : Int) < (LS.mk nxt lost Q).next from q5)] at hg
      have wn : IntKind.i64.wrap (nxt + 1) = nxt + 1 := wrap_in (by omega) (by omega)
      by_cases q6 : 0 < lost
      · rw [if_pos (show 0 < (LS.mk nxt lost Q).lost from q6), if_pos (show 0 < (LS.mk nxt lost Q).lost from q6)] at hg
        have hin : ∀ x ∈ [(QI.mk (l.first + k) (brkE e)).av], x.length = 8 := fun x hxm => by rw [List.mem_singleton] at hxm; subst hxm; rfl
        have hln : [(QI.mk (l.first + k) (brkE e)).av].length = 1 := rfl
        have hap : Q.map QI.av ++ [(QI.mk (l.first + k) (brkE e)).av] = (Q ++ [QI.mk (l.first + k) (brkE e)]).map QI.av := by rw [List.map_append]; rfl
        simp only [QI.av, brkE] at hin hln hap
        repeat' first | ((with_reducible (first | refine condD ?_ ?_ | refine condE ?_ ?_ | refine condN ?_ ?_ | refine condI ?_ ?_ | refine condS ?_ ?_)) <;> intro h) | ((with_reducible (first | refine guardD (by with_unfolding_all rfl) ?_ ?_ | refine guardE (by with_unfolding_all rfl) ?_ ?_ | refine guardN (by with_unfolding_all rfl) ?_ ?_ | refine guardI (by with_unfolding_all rfl) ?_ ?_ | refine guardS (by with_unfolding_all rfl) ?_ ?_)) <;> intro h) | ((refine callG e1 ?_)) | ((refine apphG 200 (by with_unfolding_all rfl) (by decide) hin (by rw [hln, List.length_map]; omega) (by rw [hln, List.length_map]; omega) (fun r'' hr3 => ?_); have hr4 := hr3; simp only [Value.oneCell'] at hr4)) | (with_reducible refine And.intro ?_ ?_; omega) | (simp only [Z0,Z1,Z2,Z3,Z4,Z5,Z6,Z7,Z8,Z9,Za,Zb,Zc,Zd,Ze,Zf,List.cons.injEq,Zg,Zh,Zi,Zj,Zk,Zl,Zm,Zn,Zo,Zp,beq_self_eq_true,bne_self_eq_false,decide_true,decide_false,Zq,Zr,Zs,Zt,Zu,Zv,Zw,Zx,Zy,Zz,Y0,Y1,Y2,Y3,Y4,Y5,Y6,Y7,Y8,Y9,Ya,Yb,Yc,Yd,Ye,Yf,Yg,Yh,Yi,Yj,Yk,Yl,Ym,Yn,Yo,Yp,Yq,lk,ef,Yr,Ys,Yt,Yu,Yv,Yw,Yx,Yy,Yz,X0,X1,X2,X3,X4,X5,X6,X7,X8,X9,Xa,Xb,Xc,Xd,Xe,Xf,Xg,Xh,Xi,Xj,Xk,Xl,Xm,Xn,Xo,Xp,Xq,Xr,Xs,hv,Xt,ev,Xu,Xv,Xw,Xx,Xy,Xz,W0,W1,W2,W3,W4,W5,W6,W7,W8,W9,Wa,Wb,Wc,Wd,We,Wf,Wg,Wh,Wi,Wj,Wk,Wl,Wm,Wn,Wo,Wp,Wq,Wr,Ws,Wt,Value.oneCell',Wu,Wv,Ww,Wx,true_and,and_true,and_self,implies_true,Wy,Wz,V0,V1,false_implies,V2,V3,V4,V5,V6,V7,V8,V9,Va,Vb,Vc,Vd,Ve,Vf,Vg,Vh,Vi,reduceCtorEq,if_true,if_false,Vj,↓reduceIte,Vk,Vl,Vm,Vn,Vo,Vp,Vq,ne_eq,not_false_eq_true,not_true_eq_false,Vr,Vs,r7_0,r7_1,r7_2,r7_3,r7_4,r7_5,r7_6,r7_7,r7_8,r7_9,r7_10,r7_11,r7_12,r7_13,r7_14,r7_15,r7_16,r7_17,r7_18,r7_19,r7_20,r7_21,r7_22,p7,l7_0,Zt,hki,k0,hw,gK,wk,q5,q6,hr2,wn]) | (exfalso; omega)
        have i0 : 0 ≤ nxt + 1 := by omega
        have i1 : nxt + 1 ≤ nx + L + ((k + 1 : Nat) : Int) := by omega
        have i2 : (Q ++ [QI.mk (l.first + (k : Int)) (brkE e)]).length ≤ 2000 + (k + 1) := by rw [List.length_append, List.length_singleton]; omega
        have i3 : l.ents.length - (k + 1) < l.ents.length - k := by omega
        refine again hJ (LdI.mk (k + 1) r'' (LS.mk (nxt + 1) 0 (Q ++ [QI.mk (l.first + (k : Int)) (brkE e)]))) (weak_mk ?_) ⟨h, hg, hr3, i0, i1, i2⟩ i3
        simp only [Vt,Vu,wk1,Vv,Vw,Vx,Z0,Z1,Z2,Z3,Z4,Z5,Z6,Z7,Z8,Z9,Za,Zb,Zc,Zd,Ze,Zf,List.cons.injEq,Zg,Zh,Zi,Zj,Zk,Zl,Zm,Zn,Zo,Zp,beq_self_eq_true,bne_self_eq_false,decide_true,decide_false,Zq,Zr,Zs,Zt,Zu,Zv,Zw,Zx,Zy,Zz,Y0,Y1,Y2,Y3,Y4,Y5,Y6,Y7,Y8,Y9,Ya,Yb,Yc,Yd,Ye,Yf,Yg,Yh,Yi,Yj,Yk,Yl,Ym,Yn,Yo,Yp,Yq,lk,ef,Yr,Ys,Yt,Yu,Yv,Yw,Yx,Yy,Yz,X0,X1,X2,X3,X4,X5,X6,X7,X8,X9,Xa,Xb,Xc,Xd,Xe,Xf,Xg,Xh,Xi,Xj,Xk,Xl,Xm,Xn,Xo,Xp,Xq,Xr,Xs,hv,Xt,ev,Xu,Xv,Xw,Xx,Xy,Xz,W0,W1,W2,W3,W4,W5,W6,W7,W8,W9,Wa,Wb,Wc,Wd,We,Wf,Wg,Wh,Wi,Wj,Wk,Wl,Wm,Wn,Wo,Wp,Wq,Wr,Ws,Wt,Value.oneCell',Wu,Wv,Ww,Wx,true_and,and_true,and_self,implies_true,Wy,Wz,V0,V1,false_implies,V2,V3,V4,V5,V6,V7,V8,V9,Va,Vb,Vc,Vd,Ve,Vf,Vg,Vh,Vi,reduceCtorEq,if_true,if_false,Vj,↓reduceIte,Vk,Vl,Vm,Vn,Vo,Vp,Vq,ne_eq,not_false_eq_true,not_true_eq_false,Vr,Nat.zero_ne_one]
        all_goals first | done | rfl | exact hap | (rw [List.map_append]; rfl) | trace_state
      · rw [if_neg (show ¬ 0 < (LS.mk nxt lost Q).lost from q6), if_neg (show ¬ 0 < (LS.mk nxt lost Q).lost from q6)] at hg
        have hin : ∀ x ∈ [(QI.mk (l.first + k) e).av], x.length = 8 := fun x hxm => by rw [List.mem_singleton] at hxm; subst hxm; rfl
        have hln : [(QI.mk (l.first + k) e).av].length = 1 := rfl
        have hap : Q.map QI.av ++ [(QI.mk (l.first + k) e).av] = (Q ++ [QI.mk (l.first + k) e]).map QI.av := by rw [List.map_append]; rfl
        simp only [QI.av] at hin hln hap
        repeat' first | ((with_reducible (first | refine condD ?_ ?_ | refine condE ?_ ?_ | refine condN ?_ ?_ | refine condI ?_ ?_ | refine condS ?_ ?_)) <;> intro h) | ((with_reducible (first | refine guardD (by with_unfolding_all rfl) ?_ ?_ | refine guardE (by with_unfolding_all rfl) ?_ ?_ | refine guardN (by with_unfolding_all rfl) ?_ ?_ | refine guardI (by with_unfolding_all rfl) ?_ ?_ | refine guardS (by with_unfolding_all rfl) ?_ ?_)) <;> intro h) | ((refine callG e1 ?_)) | ((refine apphG 200 (by with_unfolding_all rfl) (by decide) hin (by rw [hln, List.length_map]; omega) (by rw [hln, List.length_map]; omega) (fun r'' hr3 => ?_); have hr4 := hr3; simp only [Value.oneCell'] at hr4)) | (with_reducible refine And.intro ?_ ?_; omega) | (simp only [Z0,Z1,Z2,Z3,Z4,Z5,Z6,Z7,Z8,Z9,Za,Zb,Zc,Zd,Ze,Zf,List.cons.injEq,Zg,Zh,Zi,Zj,Zk,Zl,Zm,Zn,Zo,Zp,beq_self_eq_true,bne_self_eq_false,decide_true,decide_false,Zq,Zr,Zs,Zt,Zu,Zv,Zw,Zx,Zy,Zz,Y0,Y1,Y2,Y3,Y4,Y5,Y6,Y7,Y8,Y9,Ya,Yb,Yc,Yd,Ye,Yf,Yg,Yh,Yi,Yj,Yk,Yl,Ym,Yn,Yo,Yp,Yq,lk,ef,Yr,Ys,Yt,Yu,Yv,Yw,Yx,Yy,Yz,X0,X1,X2,X3,X4,X5,X6,X7,X8,X9,Xa,Xb,Xc,Xd,Xe,Xf,Xg,Xh,Xi,Xj,Xk,Xl,Xm,Xn,Xo,Xp,Xq,Xr,Xs,hv,Xt,ev,Xu,Xv,Xw,Xx,Xy,Xz,W0,W1,W2,W3,W4,W5,W6,W7,W8,W9,Wa,Wb,Wc,Wd,We,Wf,Wg,Wh,Wi,Wj,Wk,Wl,Wm,Wn,Wo,Wp,Wq,Wr,Ws,Wt,Value.oneCell',Wu,Wv,Ww,Wx,true_and,and_true,and_self,implies_true,Wy,Wz,V0,V1,false_implies,V2,V3,V4,V5,V6,V7,V8,V9,Va,Vb,Vc,Vd,Ve,Vf,Vg,Vh,Vi,reduceCtorEq,if_true,if_false,Vj,↓reduceIte,Vk,Vl,Vm,Vn,Vo,Vp,Vq,ne_eq,not_false_eq_true,not_true_eq_false,Vr,Vs,r7_0,r7_1,r7_2,r7_3,r7_4,r7_5,r7_6,r7_7,r7_8,r7_9,r7_10,r7_11,r7_12,r7_13,r7_14,r7_15,r7_16,r7_17,r7_18,r7_19,r7_20,r7_21,r7_22,p7,l7_0,Zt,hki,k0,hw,gK,wk,q5,q6,hr2,wn]) | (exfalso; omega)
        have i0 : 0 ≤ nxt + 1 := by omega
        have i1 : nxt + 1 ≤ nx + L + ((k + 1 : Nat) : Int) := by omega
        have i2 : (Q ++ [QI.mk (l.first + (k : Int)) e]).length ≤ 2000 + (k + 1) := by rw [List.length_append, List.length_singleton]; omega
        have i3 : l.ents.length - (k + 1) < l.ents.length - k := by omega
        refine again hJ (LdI.mk (k + 1) r'' (LS.mk (nxt + 1) lost (Q ++ [QI.mk (l.first + (k : Int)) e]))) (weak_mk ?_) ⟨h, hg, hr3, i0, i1, i2⟩ i3
        simp only [Vt,Vu,wk1,Vv,Vw,Vx,Z0,Z1,Z2,Z3,Z4,Z5,Z6,Z7,Z8,Z9,Za,Zb,Zc,Zd,Ze,Zf,List.cons.injEq,Zg,Zh,Zi,Zj,Zk,Zl,Zm,Zn,Zo,Zp,beq_self_eq_true,bne_self_eq_false,decide_true,decide_false,Zq,Zr,Zs,Zt,Zu,Zv,Zw,Zx,Zy,Zz,Y0,Y1,Y2,Y3,Y4,Y5,Y6,Y7,Y8,Y9,Ya,Yb,Yc,Yd,Ye,Yf,Yg,Yh,Yi,Yj,Yk,Yl,Ym,Yn,Yo,Yp,Yq,lk,ef,Yr,Ys,Yt,Yu,Yv,Yw,Yx,Yy,Yz,X0,X1,X2,X3,X4,X5,X6,X7,X8,X9,Xa,Xb,Xc,Xd,Xe,Xf,Xg,Xh,Xi,Xj,Xk,Xl,Xm,Xn,Xo,Xp,Xq,Xr,Xs,hv,Xt,ev,Xu,Xv,Xw,Xx,Xy,Xz,W0,W1,W2,W3,W4,W5,W6,W7,W8,W9,Wa,Wb,Wc,Wd,We,Wf,Wg,Wh,Wi,Wj,Wk,Wl,Wm,Wn,Wo,Wp,Wq,Wr,Ws,Wt,Value.oneCell',Wu,Wv,Ww,Wx,true_and,and_true,and_self,implies_true,Wy,Wz,V0,V1,false_implies,V2,V3,V4,V5,V6,V7,V8,V9,Va,Vb,Vc,Vd,Ve,Vf,Vg,Vh,Vi,reduceCtorEq,if_true,if_false,Vj,↓reduceIte,Vk,Vl,Vm,Vn,Vo,Vp,Vq,ne_eq,not_false_eq_true,not_true_eq_false,Vr,Nat.zero_ne_one]
        all_goals first | done | rfl | exact hap | (rw [List.map_append]; rfl) | trace_state
  · have hki : ¬ (k : Int) < l.ents.length := by omega
    rw [List.drop_of_length_le (by omega), ldGo] at hg
    clear hJ
    repeat' first | ((with_reducible (first | refine condD ?_ ?_ | refine condE ?_ ?_ | refine condN ?_ ?_ | refine condI ?_ ?_ | refine condS ?_ ?_)) <;> intro h) | ((with_reducible (first | refine guardD (by with_unfolding_all rfl) ?_ ?_ | refine guardE (by with_unfolding_all rfl) ?_ ?_ | refine guardN (by with_unfolding_all rfl) ?_ ?_ | refine guardI (by with_unfolding_all rfl) ?_ ?_ | refine guardS (by with_unfolding_all rfl) ?_ ?_)) <;> intro h) | (with_reducible refine And.intro ?_ ?_; omega) | (simp only [Z0,Z1,Z2,Z3,Z4,Z5,Z6,Z7,Z8,Z9,Za,Zb,Zc,Zd,Ze,Zf,List.cons.injEq,Zg,Zh,Zi,Zj,Zk,Zl,Zm,Zn,Zo,Zp,beq_self_eq_true,bne_self_eq_false,decide_true,decide_false,Zq,Zr,Zs,Zt,Zu,Zv,Zw,Zx,Zy,Zz,Y0,Y1,Y2,Y3,Y4,Y5,Y6,Y7,Y8,Y9,Ya,Yb,Yc,Yd,Ye,Yf,Yg,Yh,Yi,Yj,Yk,Yl,Ym,Yn,Yo,Yp,Yq,lk,ef,Yr,Ys,Yt,Yu,Yv,Yw,Yx,Yy,Yz,X0,X1,X2,X3,X4,X5,X6,X7,X8,X9,Xa,Xb,Xc,Xd,Xe,Xf,Xg,Xh,Xi,Xj,Xk,Xl,Xm,Xn,Xo,Xp,Xq,Xr,Xs,hv,Xt,ev,Xu,Xv,Xw,Xx,Xy,Xz,W0,W1,W2,W3,W4,W5,W6,W7,W8,W9,Wa,Wb,Wc,Wd,We,Wf,Wg,Wh,Wi,Wj,Wk,Wl,Wm,Wn,Wo,Wp,Wq,Wr,Ws,Wt,Value.oneCell',Wu,Wv,Ww,Wx,true_and,and_true,and_self,implies_true,Wy,Wz,V0,V1,false_implies,V2,V3,V4,V5,V6,V7,V8,V9,Va,Vb,Vc,Vd,Ve,Vf,Vg,Vh,Vi,reduceCtorEq,if_true,if_false,Vj,↓reduceIte,Vk,Vl,Vm,Vn,Vo,Vp,Vq,ne_eq,not_false_eq_true,not_true_eq_false,Vr,Vs,r7_0,r7_1,r7_2,r7_3,r7_4,r7_5,r7_6,r7_7,r7_8,r7_9,r7_10,r7_11,r7_12,r7_13,r7_14,r7_15,r7_16,r7_17,r7_18,r7_19,r7_20,r7_21,r7_22,p7,l7_0,hki,List.length_map]) | (exfalso; omega)
    refine ophG (WeakV.of (weak_unhold (g := 200) (v := r') (l := [(6, .box [.val (.bool false), .val (.int .i64 0), .val (.int .i64 0), .val (.int .i64 0), .val (.int .i64 0), .nilsl, .val (.bool false), .nilsl, .val (.int .i64 0)]), (11, .box [.val (.bool true), .val (.int .i64 nxt), .val (.int .i64 l.target), .val (.int .i64 l.first), .val (.int .i64 l.breaks), .ro (l.ents.map LE.av), .val (.bool l.ended), .ro (Q.map QI.av), .val (.int .i64 (c.lost + L))])]) (by with_unfolding_all rfl) ?_)) (fun _ _ => ?_)
    · simp only [Z0,Z1,Z2,Z3,Z4,Z5,Z6,Z7,Z8,Z9,Za,Zb,Zc,Zd,Ze,Zf,List.cons.injEq,Zg,Zh,Zi,Zj,Zk,Zl,Zm,Zn,Zo,Zp,beq_self_eq_true,bne_self_eq_false,decide_true,decide_false,Zq,Zr,Zs,Zt,Zu,Zv,Zw,Zx,Zy,Zz,Y0,Y1,Y2,Y3,Y4,Y5,Y6,Y7,Y8,Y9,Ya,Yb,Yc,Yd,Ye,Yf,Yg,Yh,Yi,Yj,Yk,Yl,Ym,Yn,Yo,Yp,Yq,lk,ef,Yr,Ys,Yt,Yu,Yv,Yw,Yx,Yy,Yz,X0,X1,X2,X3,X4,X5,X6,X7,X8,X9,Xa,Xb,Xc,Xd,Xe,Xf,Xg,Xh,Xi,Xj,Xk,Xl,Xm,Xn,Xo,Xp,Xq,Xr,Xs,hv,Xt,ev,Xu,Xv,Xw,Xx,Xy,Xz,W0,W1,W2,W3,W4,W5,W6,W7,W8,W9,Wa,Wb,Wc,Wd,We,Wf,Wg,Wh,Wi,Wj,Wk,Wl,Wm,Wn,Wo,Wp,Wq,Wr,Ws,Wt,Value.oneCell',Wu,Wv,Ww,Wx,true_and,and_true,and_self,implies_true,Wy,Wz,V0,V1,false_implies,V2,V3,V4,V5,V6,V7,V8,V9,Va,Vb,Vc,Vd,Ve,Vf,Vg,Vh,Vi,reduceCtorEq,if_true,if_false,Vj,↓reduceIte,Vk,Vl,Vm,Vn,Vo,Vp,Vq,ne_eq,not_false_eq_true,not_true_eq_false,Vr,Vs,unh_cons,unh_nil,unh1,unhCells,or_true,true_or]
      all_goals first | done | trace_state
    rw [hg]
    by_cases q5 : 2000 < Q.length
    · have q5i : (2000 : Int) < Q.length := by omega
      rw [if_pos (show 2000 < (LS.mk nxt lost Q).queue.length from q5), if_neg (by decide)]
      simp only [zCLn]
      repeat' first | ((with_reducible (first | refine condD ?_ ?_ | refine condE ?_ ?_ | refine condN ?_ ?_ | refine condI ?_ ?_ | refine condS ?_ ?_)) <;> intro h) | ((with_reducible (first | refine guardD (by with_unfolding_all rfl) ?_ ?_ | refine guardE (by with_unfolding_all rfl) ?_ ?_ | refine guardN (by with_unfolding_all rfl) ?_ ?_ | refine guardI (by with_unfolding_all rfl) ?_ ?_ | refine guardS (by with_unfolding_all rfl) ?_ ?_)) <;> intro h) | (with_reducible refine And.intro ?_ ?_; omega) | (simp only [Z0,Z1,Z2,Z3,Z4,Z5,Z6,Z7,Z8,Z9,Za,Zb,Zc,Zd,Ze,Zf,List.cons.injEq,Zg,Zh,Zi,Zj,Zk,Zl,Zm,Zn,Zo,Zp,beq_self_eq_true,bne_self_eq_false,decide_true,decide_false,Zq,Zr,Zs,Zt,Zu,Zv,Zw,Zx,Zy,Zz,Y0,Y1,Y2,Y3,Y4,Y5,Y6,Y7,Y8,Y9,Ya,Yb,Yc,Yd,Ye,Yf,Yg,Yh,Yi,Yj,Yk,Yl,Ym,Yn,Yo,Yp,Yq,lk,ef,Yr,Ys,Yt,Yu,Yv,Yw,Yx,Yy,Yz,X0,X1,X2,X3,X4,X5,X6,X7,X8,X9,Xa,Xb,Xc,Xd,Xe,Xf,Xg,Xh,Xi,Xj,Xk,Xl,Xm,Xn,Xo,Xp,Xq,Xr,Xs,hv,Xt,ev,Xu,Xv,Xw,Xx,Xy,Xz,W0,W1,W2,W3,W4,W5,W6,W7,W8,W9,Wa,Wb,Wc,Wd,We,Wf,Wg,Wh,Wi,Wj,Wk,Wl,Wm,Wn,Wo,Wp,Wq,Wr,Ws,Wt,Value.oneCell',Wu,Wv,Ww,Wx,true_and,and_true,and_self,implies_true,Wy,Wz,V0,V1,false_implies,V2,V3,V4,V5,V6,V7,V8,V9,Va,Vb,Vc,Vd,Ve,Vf,Vg,Vh,Vi,reduceCtorEq,if_true,if_false,Vj,↓reduceIte,Vk,Vl,Vm,Vn,Vo,Vp,Vq,ne_eq,not_false_eq_true,not_true_eq_false,Vr,Vs,r7_0,r7_1,r7_2,r7_3,r7_4,r7_5,r7_6,r7_7,r7_8,r7_9,r7_10,r7_11,r7_12,r7_13,r7_14,r7_15,r7_16,r7_17,r7_18,r7_19,r7_20,r7_21,r7_22,p7,l7_0,q5i,List.length_map]) | (exfalso; omega)
      all_goals first | done | trace_state
    · have q5i : ¬ (2000 : Int) < Q.length := by omega
      rw [if_neg (show ¬ 2000 < (LS.mk nxt lost Q).queue.length from q5), if_pos rfl]
      repeat' first | ((with_reducible (first | refine condD ?_ ?_ | refine condE ?_ ?_ | refine condN ?_ ?_ | refine condI ?_ ?_ | refine condS ?_ ?_)) <;> intro h) | ((with_reducible (first | refine guardD (by with_unfolding_all rfl) ?_ ?_ | refine guardE (by with_unfolding_all rfl) ?_ ?_ | refine guardN (by with_unfolding_all rfl) ?_ ?_ | refine guardI (by with_unfolding_all rfl) ?_ ?_ | refine guardS (by with_unfolding_all rfl) ?_ ?_)) <;> intro h) | (with_reducible refine And.intro ?_ ?_; omega) | (simp only [Z0,Z1,Z2,Z3,Z4,Z5,Z6,Z7,Z8,Z9,Za,Zb,Zc,Zd,Ze,Zf,List.cons.injEq,Zg,Zh,Zi,Zj,Zk,Zl,Zm,Zn,Zo,Zp,beq_self_eq_true,bne_self_eq_false,decide_true,decide_false,Zq,Zr,Zs,Zt,Zu,Zv,Zw,Zx,Zy,Zz,Y0,Y1,Y2,Y3,Y4,Y5,Y6,Y7,Y8,Y9,Ya,Yb,Yc,Yd,Ye,Yf,Yg,Yh,Yi,Yj,Yk,Yl,Ym,Yn,Yo,Yp,Yq,lk,ef,Yr,Ys,Yt,Yu,Yv,Yw,Yx,Yy,Yz,X0,X1,X2,X3,X4,X5,X6,X7,X8,X9,Xa,Xb,Xc,Xd,Xe,Xf,Xg,Xh,Xi,Xj,Xk,Xl,Xm,Xn,Xo,Xp,Xq,Xr,Xs,hv,Xt,ev,Xu,Xv,Xw,Xx,Xy,Xz,W0,W1,W2,W3,W4,W5,W6,W7,W8,W9,Wa,Wb,Wc,Wd,We,Wf,Wg,Wh,Wi,Wj,Wk,Wl,Wm,Wn,Wo,Wp,Wq,Wr,Ws,Wt,Value.oneCell',Wu,Wv,Ww,Wx,true_and,and_true,and_self,implies_true,Wy,Wz,V0,V1,false_implies,V2,V3,V4,V5,V6,V7,V8,V9,Va,Vb,Vc,Vd,Ve,Vf,Vg,Vh,Vi,reduceCtorEq,if_true,if_false,Vj,↓reduceIte,Vk,Vl,Vm,Vn,Vo,Vp,Vq,ne_eq,not_false_eq_true,not_true_eq_false,Vr,Vs,r7_0,r7_1,r7_2,r7_3,r7_4,r7_5,r7_6,r7_7,r7_8,r7_9,r7_10,r7_11,r7_12,r7_13,r7_14,r7_15,r7_16,r7_17,r7_18,r7_19,r7_20,r7_21,r7_22,p7,l7_0,q5i,List.length_map]) | (exfalso; omega)
      all_goals first | done | trace_state
end Go.Proofs.Ytpecmhdepggnoaa
