/- The reference's index: headendref4's checkIndex, IndexBytes, by the machine on data. -/
import Derived.Test.YtjeemcpdmiajmaaDoorKRefIdx
namespace Go.Proofs.YtjeemcpdmiajmaaDoor
open Go.RowKit Go.Lib
open Go.Proofs.YtjeemcpdmiajmaaDoor renaming done_eq → Z0, done_eq' → Z1, donet_eq → Z2, donet_eq' → Z3, fin_val → Z4, fin_tup → Z5, fin_agg → Z6, fin_ro → Z7, res_one → Z8, res_more → Z9, rv_t → Za, rv_c → Zb, rv_l → Zc, int_eq → Zg, bool_eq → Zh, toNat_pred → Zr, toNat_succ → Zs, cnd_t → Zu, cnd_f → Zv, grd_tt → Zw, grd_u → Zx, grd_tf → Zy, grd_ft → Zz, grd_ff → Y0, g_skip → Y1, g_ops → Y2, g_seq → Y3, g_block → Y4, g_exit → Y5, g_ret → Y6, x_c → Y7, x_o → Y8, x_l → Y9, x_b → Ya, g_b → Yb, g_nil → Yc, r_all → Yd, o_nil → Ye, g_cond → Yf, o_guard → Yg, o_call → Yh, o_callm → Yi, o_callt → Yj, o_callx → Yk, o_callv → Yl, o_mv → Ym, o_pick → Yn, o_bin → Yo, o_never → Yp, o_eqs → Yq, o_eqb → Yr, o_un → Ys, o_conv → Yt, o_load → Yu, o_loadr → Yv, o_idxr → Yw, o_loads → Yx, o_fld → Yy, o_idx → Yz, o_idxs → X0, o_len → X1, o_lens → X2, o_ext → X3, o_nilck → X4, o_slc → X5, o_slcs → X6, o_build → X7, o_minmax → X8, o_mkfn → X9, o_alloc → Xa, o_box → Xb, o_boxs → Xc, o_row → Xd, o_rowr → Xe, o_mk → Xf, o_asg → Xg, o_app → Xh, o_store → Xi, o_stores → Xj, o_eqnil → Xk, eqAV → Xl, view_t → Xm, view_c → Xn, view_nil → Xo, view_fn → Xp, look_own → Xq, look_box → Xr, look_junk → Xs, look_val → Xt, look_nilsl → Xu, look_ro → Xv, look_roAt → Xw, look_agg → Xx, look_tup → Xy, look_clo → Xz, look_alias → W0, look_ref → W1, look_into → W2, rowOf → W3, cellsOf → W4, argv → W5, vbin → W6, vun → W7, bnd → W8, elemOf → W9, putParts → Wa, setAt → Wb, zav → Wc, put_at → Wj, mk_at → Wk, mk_nil → Wl, initSt → Wm, wk_cons → Vh, vint_eq → Vi, vbool_eq → Vj
open Go.Proofs.YtjeemcpdmiajmaaDoor.AV.tup renaming injEq → Zd
open Go.Proofs.YtjeemcpdmiajmaaDoor.AV.agg renaming injEq → Ze
open Go.Proofs.YtjeemcpdmiajmaaDoor.AV.ro renaming injEq → Zf
open _root_.Int renaming toNat_natCast → Zi, reduceToNat → Zj, toNat_zero → Zk, toNat_one → Zl, reduceLE → Zm, reduceLT → Zn, reduceBEq → Zo, reduceBNe → Zp, reduceNeg → Zq
open _root_.List renaming length_map → Zt, map_cons → Wn, map_nil → Wo, forall_mem_cons → Wp, not_mem_nil → Wq, length_cons → Wr, length_nil → Ws, getD_cons_zero → Wt, getD_cons_succ → Wu, getD_nil → Wv, drop_succ_cons → Ww, drop_zero → Wx, take_succ_cons → Wy, take_zero → Wz, set_cons_zero → V0, set_cons_succ → V1, all_cons → V2, all_nil → V3
open Go.Proofs.YtjeemcpdmiajmaaDoor.ASt renaming rid → Wd, free → We
open Go.Proofs.YtjeemcpdmiajmaaDoor.AV renaming kill → Wf, isHome → Wg, noLoan → Wh, cellOK → Wi
open _root_.Bool renaming and_true → V4, true_and → V5, not_true → V6, not_false → V7, false_eq_true → V8
open _root_.Nat renaming reduceEqDiff → V9, reduceAdd → Va, reduceSub → Vb, reduceMul → Vc, reduceLeDiff → Vd, reduceLT → Ve, one_ne_zero → Vf, zero_ne_one → Vg
open Go.Proofs.YtjeemcpdmiajmaaDoor.AV.val renaming injEq → Vk
set_option linter.unusedSimpArgs false
--@short

/-! headend/headendref4.checkIndex -/
def r14_0 : List POp := [⟨4, .asg (.c (.int .i64 0)), none⟩]
def r14_1 : List POp := [⟨11, .mv (.t 1), none⟩,
  ⟨12, .call 23 [.t 11], none⟩,
  ⟨13, .un .not (.t 12), none⟩]
def r14_2 : List POp := [⟨4, .asg (.c (.int .i64 1)), none⟩]
def r14_3 : List POp := [⟨14, .mv (.t 0), none⟩,
  ⟨15, .len (.t 14), none⟩,
  ⟨16, .bin .gtr (.t 15) (.c (.int .i64 1000)), none⟩]
def r14_4 : List POp := [⟨4, .asg (.c (.int .i64 2)), none⟩]
def r14_5 : List POp := [⟨5, .asg (.c (.int .i64 0)), none⟩]
def r14_6 : List POp := [⟨17, .mv (.t 5), none⟩,
  ⟨18, .mv (.t 0), none⟩,
  ⟨19, .len (.t 18), none⟩,
  ⟨20, .bin .lss (.t 17) (.t 19), none⟩]
def r14_8 : List POp := [⟨23, .mv (.t 0), none⟩,
  ⟨24, .mv (.t 5), none⟩,
  ⟨25, .idx 7 (.t 23) (.t 24), none⟩,
  ⟨26, .loads 7 (.t 25), none⟩,
  ⟨6, .alloc [.int .i64 0, .int .i64 0, .int .i64 0, .int .i64 0, .int .i64 0, .int .i64 0, .int .i64 0], none⟩,
  ⟨0, .stores 7 (.t 6) (.t 26), none⟩]
def r14_9 : List POp := [⟨28, .loads 7 (.t 6), none⟩,
  ⟨29, .call 15 [.t 28], none⟩,
  ⟨27, .mv (.t 29), none⟩,
  ⟨30, .ext 0 (.t 27), none⟩,
  ⟨31, .ext 1 (.t 27), none⟩,
  ⟨7, .mv (.t 30), none⟩,
  ⟨8, .mv (.t 31), none⟩]
def r14_10 : List POp := [⟨32, .fld 0 (.t 6), none⟩,
  ⟨33, .load (.t 32), none⟩,
  ⟨34, .bin .lss (.t 33) (.c (.int .i64 0)), none⟩,
  ⟨35, .mv (.t 34), none⟩,
  ⟨36, .fld 0 (.t 6), some (35, false)⟩,
  ⟨37, .load (.t 36), some (35, false)⟩,
  ⟨38, .bin .gtr (.t 37) (.c (.int .i64 1000000000000000)), some (35, false)⟩,
  ⟨39, .pick (.t 35) (.c (.bool true)) (.t 38), none⟩,
  ⟨40, .mv (.t 39), none⟩,
  ⟨41, .mv (.t 8), some (40, false)⟩,
  ⟨42, .un .not (.t 41), some (40, false)⟩,
  ⟨43, .pick (.t 40) (.c (.bool true)) (.t 42), none⟩,
  ⟨44, .mv (.t 43), none⟩,
  ⟨45, .fld 5 (.t 6), some (44, false)⟩,
  ⟨46, .load (.t 45), some (44, false)⟩,
  ⟨47, .bin .lss (.t 46) (.c (.int .i64 0)), some (44, false)⟩,
  ⟨48, .pick (.t 44) (.c (.bool true)) (.t 47), none⟩,
  ⟨49, .mv (.t 48), none⟩,
  ⟨50, .fld 5 (.t 6), some (49, false)⟩,
  ⟨51, .load (.t 50), some (49, false)⟩,
  ⟨52, .bin .gtr (.t 51) (.c (.int .i64 4294967295)), some (49, false)⟩,
  ⟨53, .pick (.t 49) (.c (.bool true)) (.t 52), none⟩,
  ⟨54, .mv (.t 53), none⟩,
  ⟨55, .fld 4 (.t 6), some (54, false)⟩,
  ⟨56, .load (.t 55), some (54, false)⟩,
  ⟨57, .bin .lss (.t 56) (.c (.int .i64 0)), some (54, false)⟩,
  ⟨58, .pick (.t 54) (.c (.bool true)) (.t 57), none⟩,
  ⟨59, .mv (.t 58), none⟩,
  ⟨60, .fld 4 (.t 6), some (59, false)⟩,
  ⟨61, .load (.t 60), some (59, false)⟩,
  ⟨62, .bin .gtr (.t 61) (.c (.int .i64 4294967295)), some (59, false)⟩,
  ⟨63, .pick (.t 59) (.c (.bool true)) (.t 62), none⟩]
def r14_11 : List POp := [⟨4, .asg (.c (.int .i64 1)), none⟩]
def r14_12 : List POp := [⟨64, .mv (.t 5), none⟩,
  ⟨65, .bin .eql (.t 64) (.c (.int .i64 0)), none⟩]
def r14_13 : List POp := [⟨67, .mv (.t 0), none⟩,
  ⟨68, .mv (.t 5), none⟩,
  ⟨69, .bin .sub (.t 68) (.c (.int .i64 1)), none⟩,
  ⟨70, .idx 7 (.t 67) (.t 69), none⟩,
  ⟨71, .loads 7 (.t 70), none⟩,
  ⟨72, .call 15 [.t 71], none⟩,
  ⟨66, .mv (.t 72), none⟩,
  ⟨73, .ext 0 (.t 66), none⟩,
  ⟨74, .ext 1 (.t 66), none⟩,
  ⟨9, .mv (.t 73), none⟩,
  ⟨10, .mv (.t 74), none⟩]
def r14_14 : List POp := [⟨75, .fld 0 (.t 6), none⟩,
  ⟨76, .load (.t 75), none⟩,
  ⟨77, .mv (.t 0), none⟩,
  ⟨78, .mv (.t 5), none⟩,
  ⟨79, .bin .sub (.t 78) (.c (.int .i64 1)), none⟩,
  ⟨80, .idx 7 (.t 77) (.t 79), none⟩,
  ⟨81, .fld 0 (.t 80), none⟩,
  ⟨82, .load (.t 81), none⟩,
  ⟨83, .bin .add (.t 82) (.c (.int .i64 1)), none⟩,
  ⟨84, .bin .neq (.t 76) (.t 83), none⟩,
  ⟨85, .mv (.t 84), none⟩,
  ⟨86, .mv (.t 7), some (85, false)⟩,
  ⟨87, .mv (.t 9), some (85, false)⟩,
  ⟨88, .mv (.t 0), some (85, false)⟩,
  ⟨89, .mv (.t 5), some (85, false)⟩,
  ⟨90, .bin .sub (.t 89) (.c (.int .i64 1)), some (85, false)⟩,
  ⟨91, .idx 7 (.t 88) (.t 90), some (85, false)⟩,
  ⟨92, .fld 4 (.t 91), some (85, false)⟩,
  ⟨93, .load (.t 92), some (85, false)⟩,
  ⟨94, .bin .add (.t 87) (.t 93), some (85, false)⟩,
  ⟨95, .bin .neq (.t 86) (.t 94), some (85, false)⟩,
  ⟨96, .pick (.t 85) (.c (.bool true)) (.t 95), none⟩]
def r14_15 : List POp := [⟨4, .asg (.c (.int .i64 8)), none⟩]
def r14_7 : List POp := [⟨21, .mv (.t 5), none⟩,
  ⟨22, .bin .add (.t 21) (.c (.int .i64 1)), none⟩,
  ⟨5, .asg (.t 22), none⟩]
def r14_16 : List POp := [⟨4, .asg (.c (.int .i64 0)), none⟩]
def l14_0 : PCode := .seq (.seq (.ops r14_6) (.cond (.t 20) (.skip) (.exit 0))) (.seq (.block 1 (.seq (.ops r14_8) (.seq (.ops r14_9) (.seq (.seq (.ops r14_10) (.cond (.t 63) (.seq (.ops r14_11) (.ret)) (.skip))) (.seq (.seq (.ops r14_12) (.cond (.t 65) (.exit 1) (.skip))) (.seq (.ops r14_13) (.seq (.ops r14_14) (.cond (.t 96) (.seq (.ops r14_15) (.ret)) (.skip))))))))) (.ops r14_7))
def p14 : PCode := .seq (.ops r14_0) (.seq (.seq (.ops r14_1) (.cond (.t 13) (.seq (.ops r14_2) (.ret)) (.skip))) (.seq (.seq (.ops r14_3) (.cond (.t 16) (.seq (.ops r14_4) (.ret)) (.skip))) (.seq (.seq (.ops r14_5) (.block 0 (.loop l14_0))) (.seq (.ops r14_16) (.ret)))))
theorem ok14 : okFunc Tryd.prog 14 [.t 4] 2 p14 = true := by kernel_rfl
set_option maxHeartbeats 4000000 in
set_option maxRecDepth 20000 in
theorem rix_c (l : List Seg) (scale : Int) (hl : l.length ≤ 9223372036854775807) (hI : ∀ s ∈ l, SegI s) : CallOK Tryd.prog 14 [.ro (l.map Seg.av), .val (.int .i64 scale)] (.val (.int .i64 (ixF l scale))) := by
  refine call_of mixed ok14 rfl ?_
  have c1 := isscale_c scale
  by_cases h1 : noScale scale = true
  · rw [show ixF l scale = 1 from by rw [ixF, if_pos h1]]
    rw [h1] at c1
    repeat' first | ((with_reducible (first | refine condD ?_ ?_ | refine condE ?_ ?_ | refine condN ?_ ?_ | refine condI ?_ ?_ | refine condS ?_ ?_)) <;> intro h) | ((with_reducible (first | refine guardD (by with_unfolding_all rfl) ?_ ?_ | refine guardE (by with_unfolding_all rfl) ?_ ?_ | refine guardN (by with_unfolding_all rfl) ?_ ?_ | refine guardI (by with_unfolding_all rfl) ?_ ?_ | refine guardS (by with_unfolding_all rfl) ?_ ?_)) <;> intro h) | ((refine callG c1 ?_)) | (with_reducible refine And.intro ?_ ?_; omega) | (simp only [Z0,Z1,Z2,Z3,Z4,Z5,Z6,Z7,Z8,Z9,Za,Zb,Zc,Zd,Ze,Zf,List.cons.injEq,Zg,Zh,Zi,Zj,Zk,Zl,Zm,Zn,Zo,Zp,beq_self_eq_true,bne_self_eq_false,decide_true,decide_false,Zq,Zr,Zs,Zt,Zu,Zv,Zw,Zx,Zy,Zz,Y0,Y1,Y2,Y3,Y4,Y5,Y6,Y7,Y8,Y9,Ya,Yb,Yc,Yd,Ye,Yf,Yg,Yh,Yi,Yj,Yk,Yl,lk,ef,Ym,Yn,Yo,Yp,Yq,Yr,Ys,Yt,Yu,Yv,Yw,Yx,Yy,Yz,X0,X1,X2,X3,X4,X5,X6,X7,X8,X9,Xa,Xb,Xc,Xd,Xe,Xf,Xg,Xh,Xi,Xj,Xk,hv,Xl,ev,Xm,Xn,Xo,Xp,Xq,Xr,Xs,Xt,Xu,Xv,Xw,Xx,Xy,Xz,W0,W1,W2,W3,W4,W5,W6,W7,W8,W9,Wa,Wb,Wc,Wd,We,Wf,Wg,Wh,Wi,Value.oneCell',Wj,Wk,Wl,Wm,true_and,and_true,and_self,implies_true,Wn,Wo,Wp,Wq,false_implies,Wr,Ws,Wt,Wu,Wv,Ww,Wx,Wy,Wz,V0,V1,V2,V3,V4,V5,V6,V7,reduceCtorEq,if_true,if_false,V8,↓reduceIte,V9,Va,Vb,Vc,Vd,Ve,ne_eq,not_false_eq_true,not_true_eq_false,Vf,Vg,r14_0,r14_1,r14_2,r14_3,r14_4,r14_5,r14_6,r14_8,r14_9,r14_10,r14_11,r14_12,r14_13,r14_14,r14_15,r14_7,r14_16,p14]) | (exfalso; omega)
  rw [Bool.not_eq_true] at h1
  rw [h1] at c1
  by_cases h2 : 1000 < l.length
  · have h2i : (1000 : Int) < l.length := by omega
    rw [show ixF l scale = 2 from by rw [ixF, h1, if_neg (by simp), if_pos h2]]
    repeat' first | ((with_reducible (first | refine condD ?_ ?_ | refine condE ?_ ?_ | refine condN ?_ ?_ | refine condI ?_ ?_ | refine condS ?_ ?_)) <;> intro h) | ((with_reducible (first | refine guardD (by with_unfolding_all rfl) ?_ ?_ | refine guardE (by with_unfolding_all rfl) ?_ ?_ | refine guardN (by with_unfolding_all rfl) ?_ ?_ | refine guardI (by with_unfolding_all rfl) ?_ ?_ | refine guardS (by with_unfolding_all rfl) ?_ ?_)) <;> intro h) | ((refine callG c1 ?_)) | (with_reducible refine And.intro ?_ ?_; omega) | (simp only [Z0,Z1,Z2,Z3,Z4,Z5,Z6,Z7,Z8,Z9,Za,Zb,Zc,Zd,Ze,Zf,List.cons.injEq,Zg,Zh,Zi,Zj,Zk,Zl,Zm,Zn,Zo,Zp,beq_self_eq_true,bne_self_eq_false,decide_true,decide_false,Zq,Zr,Zs,Zt,Zu,Zv,Zw,Zx,Zy,Zz,Y0,Y1,Y2,Y3,Y4,Y5,Y6,Y7,Y8,Y9,Ya,Yb,Yc,Yd,Ye,Yf,Yg,Yh,Yi,Yj,Yk,Yl,lk,ef,Ym,Yn,Yo,Yp,Yq,Yr,Ys,Yt,Yu,Yv,Yw,Yx,Yy,Yz,X0,X1,X2,X3,X4,X5,X6,X7,X8,X9,Xa,Xb,Xc,Xd,Xe,Xf,Xg,Xh,Xi,Xj,Xk,hv,Xl,ev,Xm,Xn,Xo,Xp,Xq,Xr,Xs,Xt,Xu,Xv,Xw,Xx,Xy,Xz,W0,W1,W2,W3,W4,W5,W6,W7,W8,W9,Wa,Wb,Wc,Wd,We,Wf,Wg,Wh,Wi,Value.oneCell',Wj,Wk,Wl,Wm,true_and,and_true,and_self,implies_true,Wn,Wo,Wp,Wq,false_implies,Wr,Ws,Wt,Wu,Wv,Ww,Wx,Wy,Wz,V0,V1,V2,V3,V4,V5,V6,V7,reduceCtorEq,if_true,if_false,V8,↓reduceIte,V9,Va,Vb,Vc,Vd,Ve,ne_eq,not_false_eq_true,not_true_eq_false,Vf,Vg,r14_0,r14_1,r14_2,r14_3,r14_4,r14_5,r14_6,r14_8,r14_9,r14_10,r14_11,r14_12,r14_13,r14_14,r14_15,r14_7,r14_16,p14,h2i,List.length_map]) | (exfalso; omega)
  have h2i : ¬ (1000 : Int) < l.length := by omega
  have hF : ixF l scale = ixGo none l := by rw [ixF, h1, if_neg (by simp), if_neg h2]
  obtain ⟨R, hR⟩ : ∃ R, R = ixGo none l := ⟨_, rfl⟩
  rw [hF, ← hR]
  repeat' first | ((with_reducible (first | refine condD ?_ ?_ | refine condE ?_ ?_ | refine condN ?_ ?_ | refine condI ?_ ?_ | refine condS ?_ ?_)) <;> intro h) | ((with_reducible (first | refine guardD (by with_unfolding_all rfl) ?_ ?_ | refine guardE (by with_unfolding_all rfl) ?_ ?_ | refine guardN (by with_unfolding_all rfl) ?_ ?_ | refine guardI (by with_unfolding_all rfl) ?_ ?_ | refine guardS (by with_unfolding_all rfl) ?_ ?_)) <;> intro h) | ((refine callG c1 ?_)) | (with_reducible refine And.intro ?_ ?_; omega) | (simp only [Z0,Z1,Z2,Z3,Z4,Z5,Z6,Z7,Z8,Z9,Za,Zb,Zc,Zd,Ze,Zf,List.cons.injEq,Zg,Zh,Zi,Zj,Zk,Zl,Zm,Zn,Zo,Zp,beq_self_eq_true,bne_self_eq_false,decide_true,decide_false,Zq,Zr,Zs,Zt,Zu,Zv,Zw,Zx,Zy,Zz,Y0,Y1,Y2,Y3,Y4,Y5,Y6,Y7,Y8,Y9,Ya,Yb,Yc,Yd,Ye,Yf,Yg,Yh,Yi,Yj,Yk,Yl,lk,ef,Ym,Yn,Yo,Yp,Yq,Yr,Ys,Yt,Yu,Yv,Yw,Yx,Yy,Yz,X0,X1,X2,X3,X4,X5,X6,X7,X8,X9,Xa,Xb,Xc,Xd,Xe,Xf,Xg,Xh,Xi,Xj,Xk,hv,Xl,ev,Xm,Xn,Xo,Xp,Xq,Xr,Xs,Xt,Xu,Xv,Xw,Xx,Xy,Xz,W0,W1,W2,W3,W4,W5,W6,W7,W8,W9,Wa,Wb,Wc,Wd,We,Wf,Wg,Wh,Wi,Value.oneCell',Wj,Wk,Wl,Wm,true_and,and_true,and_self,implies_true,Wn,Wo,Wp,Wq,false_implies,Wr,Ws,Wt,Wu,Wv,Ww,Wx,Wy,Wz,V0,V1,V2,V3,V4,V5,V6,V7,reduceCtorEq,if_true,if_false,V8,↓reduceIte,V9,Va,Vb,Vc,Vd,Ve,ne_eq,not_false_eq_true,not_true_eq_false,Vf,Vg,r14_0,r14_1,r14_2,r14_3,r14_4,r14_5,r14_6,r14_8,r14_9,r14_10,r14_11,r14_12,r14_13,r14_14,r14_15,r14_7,r14_16,p14,h2i,List.length_map]) | (exfalso; omega)
  refine loopS (fun k : Nat => mk [(0, .ro (l.map Seg.av)), (5, .val (.int .i64 k))]) (fun k => k ≤ l.length ∧ R = ixGo (prvG l k) (l.drop k) ∧ ∀ j, j < k → ∀ h : j < l.length, outIx l[j] = false) (fun k => l.length - k) 0 (weak_mk ?_) ⟨Nat.zero_le _, hR, fun j hj => absurd hj (Nat.not_lt_zero _)⟩ ?_
  · simp only [Vh,wk_nil,wk1,Vi,Vj,Vk,Z0,Z1,Z2,Z3,Z4,Z5,Z6,Z7,Z8,Z9,Za,Zb,Zc,Zd,Ze,Zf,List.cons.injEq,Zg,Zh,Zi,Zj,Zk,Zl,Zm,Zn,Zo,Zp,beq_self_eq_true,bne_self_eq_false,decide_true,decide_false,Zq,Zr,Zs,Zt,Zu,Zv,Zw,Zx,Zy,Zz,Y0,Y1,Y2,Y3,Y4,Y5,Y6,Y7,Y8,Y9,Ya,Yb,Yc,Yd,Ye,Yf,Yg,Yh,Yi,Yj,Yk,Yl,lk,ef,Ym,Yn,Yo,Yp,Yq,Yr,Ys,Yt,Yu,Yv,Yw,Yx,Yy,Yz,X0,X1,X2,X3,X4,X5,X6,X7,X8,X9,Xa,Xb,Xc,Xd,Xe,Xf,Xg,Xh,Xi,Xj,Xk,hv,Xl,ev,Xm,Xn,Xo,Xp,Xq,Xr,Xs,Xt,Xu,Xv,Xw,Xx,Xy,Xz,W0,W1,W2,W3,W4,W5,W6,W7,W8,W9,Wa,Wb,Wc,Wd,We,Wf,Wg,Wh,Wi,Value.oneCell',Wj,Wk,Wl,Wm,true_and,and_true,and_self,implies_true,Wn,Wo,Wp,Wq,false_implies,Wr,Ws,Wt,Wu,Wv,Ww,Wx,Wy,Wz,V0,V1,V2,V3,V4,V5,V6,V7,reduceCtorEq,if_true,if_false,V8,↓reduceIte,V9,Va,Vb,Vc,Vd,Ve,ne_eq,not_false_eq_true,not_true_eq_false,Vf,Nat.zero_ne_one]
    all_goals first | done | rfl
  rintro J hJ k ⟨hk, hg, hok⟩
  simp only [Z0,Z1,Z2,Z3,Z4,Z5,Z6,Z7,Z8,Z9,Za,Zb,Zc,Zd,Ze,Zf,List.cons.injEq,Zg,Zh,Zi,Zj,Zk,Zl,Zm,Zn,Zo,Zp,beq_self_eq_true,bne_self_eq_false,decide_true,decide_false,Zq,Zr,Zs,Zt,Zu,Zv,Zw,Zx,Zy,Zz,Y0,Y1,Y2,Y3,Y4,Y5,Y6,Y7,Y8,Y9,Ya,Yb,Yc,Yd,Ye,Yf,Yg,Yh,Yi,Yj,Yk,Yl,lk,ef,Ym,Yn,Yo,Yp,Yq,Yr,Ys,Yt,Yu,Yv,Yw,Yx,Yy,Yz,X0,X1,X2,X3,X4,X5,X6,X7,X8,X9,Xa,Xb,Xc,Xd,Xe,Xf,Xg,Xh,Xi,Xj,Xk,hv,Xl,ev,Xm,Xn,Xo,Xp,Xq,Xr,Xs,Xt,Xu,Xv,Xw,Xx,Xy,Xz,W0,W1,W2,W3,W4,W5,W6,W7,W8,W9,Wa,Wb,Wc,Wd,We,Wf,Wg,Wh,Wi,Value.oneCell',Wj,Wk,Wl,Wm,true_and,and_true,and_self,implies_true,Wn,Wo,Wp,Wq,false_implies,Wr,Ws,Wt,Wu,Wv,Ww,Wx,Wy,Wz,V0,V1,V2,V3,V4,V5,V6,V7,reduceCtorEq,if_true,if_false,V8,↓reduceIte,V9,Va,Vb,Vc,Vd,Ve,ne_eq,not_false_eq_true,not_true_eq_false,Vf,Vg,r14_0,r14_1,r14_2,r14_3,r14_4,r14_5,r14_6,r14_8,r14_9,r14_10,r14_11,r14_12,r14_13,r14_14,r14_15,r14_7,r14_16,p14,l14_0,List.length_map]
  refine condD (fun h => ?_) (fun h => ?_)
  · have hlt : k < l.length := by omega
    have hw := i_add1 k (by omega)
    have gK := getD_map (f := Seg.av) (d := []) hlt
    have hb := begins_c l[k] (hI _ (List.getElem_mem hlt))
    have hki : (k : Int) < l.length := by omega
    have hk0' : (0 : Int) ≤ k := by omega
    rw [ixGo_at hlt] at hg
    have hnew : outIx l[k] = false → ∀ j, j < k + 1 → ∀ h : j < l.length, outIx l[j] = false := fun q j hj hjl => by
      by_cases e : j = k
      · subst e; exact q
      · exact hok j (by omega) hjl
    have hpre : 0 < k → ∃ hp : k - 1 < l.length, outIx l[k - 1] = false ∧ prvG l k = some l[k - 1] := fun q => ⟨by omega, hok (k - 1) (by omega) (by omega), by
      have := prvG_succ l (k - 1) (by omega)
      rw [show k - 1 + 1 = k by omega] at this
      exact this⟩
    have hpn : prvG l (k + 1) = some l[k] := prvG_succ l k hlt
    have ho : outIx l[k] = (outB l[k].number 0 1000000000000000 || !sumB l[k].beg l[k].lead || outB l[k].bytes 0 4294967295 || outB l[k].len 0 4294967295) := rfl
    have hoff := fun (q : Seg) (hq : outIx q = false) (hs : outIx l[k] = false) => off_is hq hs
    obtain ⟨s, hs⟩ : ∃ s, s = l[k] := ⟨_, rfl⟩
    rw [← hs] at gK hb hg ho hnew hpn hoff
    have hbad : outIx s = true → R = 1 := fun q => by rw [hg, if_pos q]
    simp only [Seg.av] at gK hb
    by_cases n1 : s.number < 0
    · rw [hbad (by rw [ho]; simp [outB, n1])]
      repeat' first | ((with_reducible (first | refine condD ?_ ?_ | refine condE ?_ ?_ | refine condN ?_ ?_ | refine condI ?_ ?_ | refine condS ?_ ?_)) <;> intro h) | ((with_reducible (first | refine guardD (by with_unfolding_all rfl) ?_ ?_ | refine guardE (by with_unfolding_all rfl) ?_ ?_ | refine guardN (by with_unfolding_all rfl) ?_ ?_ | refine guardI (by with_unfolding_all rfl) ?_ ?_ | refine guardS (by with_unfolding_all rfl) ?_ ?_)) <;> intro h) | ((refine callG hb ?_)) | (with_reducible refine And.intro ?_ ?_; omega) | (simp only [Z0,Z1,Z2,Z3,Z4,Z5,Z6,Z7,Z8,Z9,Za,Zb,Zc,Zd,Ze,Zf,List.cons.injEq,Zg,Zh,Zi,Zj,Zk,Zl,Zm,Zn,Zo,Zp,beq_self_eq_true,bne_self_eq_false,decide_true,decide_false,Zq,Zr,Zs,Zt,Zu,Zv,Zw,Zx,Zy,Zz,Y0,Y1,Y2,Y3,Y4,Y5,Y6,Y7,Y8,Y9,Ya,Yb,Yc,Yd,Ye,Yf,Yg,Yh,Yi,Yj,Yk,Yl,lk,ef,Ym,Yn,Yo,Yp,Yq,Yr,Ys,Yt,Yu,Yv,Yw,Yx,Yy,Yz,X0,X1,X2,X3,X4,X5,X6,X7,X8,X9,Xa,Xb,Xc,Xd,Xe,Xf,Xg,Xh,Xi,Xj,Xk,hv,Xl,ev,Xm,Xn,Xo,Xp,Xq,Xr,Xs,Xt,Xu,Xv,Xw,Xx,Xy,Xz,W0,W1,W2,W3,W4,W5,W6,W7,W8,W9,Wa,Wb,Wc,Wd,We,Wf,Wg,Wh,Wi,Value.oneCell',Wj,Wk,Wl,Wm,true_and,and_true,and_self,implies_true,Wn,Wo,Wp,Wq,false_implies,Wr,Ws,Wt,Wu,Wv,Ww,Wx,Wy,Wz,V0,V1,V2,V3,V4,V5,V6,V7,reduceCtorEq,if_true,if_false,V8,↓reduceIte,V9,Va,Vb,Vc,Vd,Ve,ne_eq,not_false_eq_true,not_true_eq_false,Vf,Vg,r14_0,r14_1,r14_2,r14_3,r14_4,r14_5,r14_6,r14_8,r14_9,r14_10,r14_11,r14_12,r14_13,r14_14,r14_15,r14_7,r14_16,p14,l14_0,Seg.av,gK,hw,hki,hk0',Zt,n1]) | (exfalso; omega)
    by_cases n2 : 1000000000000000 < s.number
    · rw [hbad (by rw [ho]; simp [outB, n2])]
      repeat' first | ((with_reducible (first | refine condD ?_ ?_ | refine condE ?_ ?_ | refine condN ?_ ?_ | refine condI ?_ ?_ | refine condS ?_ ?_)) <;> intro h) | ((with_reducible (first | refine guardD (by with_unfolding_all rfl) ?_ ?_ | refine guardE (by with_unfolding_all rfl) ?_ ?_ | refine guardN (by with_unfolding_all rfl) ?_ ?_ | refine guardI (by with_unfolding_all rfl) ?_ ?_ | refine guardS (by with_unfolding_all rfl) ?_ ?_)) <;> intro h) | ((refine callG hb ?_)) | (with_reducible refine And.intro ?_ ?_; omega) | (simp only [Z0,Z1,Z2,Z3,Z4,Z5,Z6,Z7,Z8,Z9,Za,Zb,Zc,Zd,Ze,Zf,List.cons.injEq,Zg,Zh,Zi,Zj,Zk,Zl,Zm,Zn,Zo,Zp,beq_self_eq_true,bne_self_eq_false,decide_true,decide_false,Zq,Zr,Zs,Zt,Zu,Zv,Zw,Zx,Zy,Zz,Y0,Y1,Y2,Y3,Y4,Y5,Y6,Y7,Y8,Y9,Ya,Yb,Yc,Yd,Ye,Yf,Yg,Yh,Yi,Yj,Yk,Yl,lk,ef,Ym,Yn,Yo,Yp,Yq,Yr,Ys,Yt,Yu,Yv,Yw,Yx,Yy,Yz,X0,X1,X2,X3,X4,X5,X6,X7,X8,X9,Xa,Xb,Xc,Xd,Xe,Xf,Xg,Xh,Xi,Xj,Xk,hv,Xl,ev,Xm,Xn,Xo,Xp,Xq,Xr,Xs,Xt,Xu,Xv,Xw,Xx,Xy,Xz,W0,W1,W2,W3,W4,W5,W6,W7,W8,W9,Wa,Wb,Wc,Wd,We,Wf,Wg,Wh,Wi,Value.oneCell',Wj,Wk,Wl,Wm,true_and,and_true,and_self,implies_true,Wn,Wo,Wp,Wq,false_implies,Wr,Ws,Wt,Wu,Wv,Ww,Wx,Wy,Wz,V0,V1,V2,V3,V4,V5,V6,V7,reduceCtorEq,if_true,if_false,V8,↓reduceIte,V9,Va,Vb,Vc,Vd,Ve,ne_eq,not_false_eq_true,not_true_eq_false,Vf,Vg,r14_0,r14_1,r14_2,r14_3,r14_4,r14_5,r14_6,r14_8,r14_9,r14_10,r14_11,r14_12,r14_13,r14_14,r14_15,r14_7,r14_16,p14,l14_0,Seg.av,gK,hw,hki,hk0',Zt,n1,n2]) | (exfalso; omega)
    cases hsum : sumB s.beg s.lead with
    | false =>
      rw [hsum] at hb
      rw [hbad (by rw [ho, hsum]; simp)]
      repeat' first | ((with_reducible (first | refine condD ?_ ?_ | refine condE ?_ ?_ | refine condN ?_ ?_ | refine condI ?_ ?_ | refine condS ?_ ?_)) <;> intro h) | ((with_reducible (first | refine guardD (by with_unfolding_all rfl) ?_ ?_ | refine guardE (by with_unfolding_all rfl) ?_ ?_ | refine guardN (by with_unfolding_all rfl) ?_ ?_ | refine guardI (by with_unfolding_all rfl) ?_ ?_ | refine guardS (by with_unfolding_all rfl) ?_ ?_)) <;> intro h) | ((refine callG hb ?_)) | (with_reducible refine And.intro ?_ ?_; omega) | (simp only [Z0,Z1,Z2,Z3,Z4,Z5,Z6,Z7,Z8,Z9,Za,Zb,Zc,Zd,Ze,Zf,List.cons.injEq,Zg,Zh,Zi,Zj,Zk,Zl,Zm,Zn,Zo,Zp,beq_self_eq_true,bne_self_eq_false,decide_true,decide_false,Zq,Zr,Zs,Zt,Zu,Zv,Zw,Zx,Zy,Zz,Y0,Y1,Y2,Y3,Y4,Y5,Y6,Y7,Y8,Y9,Ya,Yb,Yc,Yd,Ye,Yf,Yg,Yh,Yi,Yj,Yk,Yl,lk,ef,Ym,Yn,Yo,Yp,Yq,Yr,Ys,Yt,Yu,Yv,Yw,Yx,Yy,Yz,X0,X1,X2,X3,X4,X5,X6,X7,X8,X9,Xa,Xb,Xc,Xd,Xe,Xf,Xg,Xh,Xi,Xj,Xk,hv,Xl,ev,Xm,Xn,Xo,Xp,Xq,Xr,Xs,Xt,Xu,Xv,Xw,Xx,Xy,Xz,W0,W1,W2,W3,W4,W5,W6,W7,W8,W9,Wa,Wb,Wc,Wd,We,Wf,Wg,Wh,Wi,Value.oneCell',Wj,Wk,Wl,Wm,true_and,and_true,and_self,implies_true,Wn,Wo,Wp,Wq,false_implies,Wr,Ws,Wt,Wu,Wv,Ww,Wx,Wy,Wz,V0,V1,V2,V3,V4,V5,V6,V7,reduceCtorEq,if_true,if_false,V8,↓reduceIte,V9,Va,Vb,Vc,Vd,Ve,ne_eq,not_false_eq_true,not_true_eq_false,Vf,Vg,r14_0,r14_1,r14_2,r14_3,r14_4,r14_5,r14_6,r14_8,r14_9,r14_10,r14_11,r14_12,r14_13,r14_14,r14_15,r14_7,r14_16,p14,l14_0,Seg.av,gK,hw,hki,hk0',Zt,n1,n2]) | (exfalso; omega)
    | true =>
    rw [hsum] at hb
    by_cases n4 : s.bytes < 0
    · rw [hbad (by rw [ho]; simp [outB, n4])]
      repeat' first | ((with_reducible (first | refine condD ?_ ?_ | refine condE ?_ ?_ | refine condN ?_ ?_ | refine condI ?_ ?_ | refine condS ?_ ?_)) <;> intro h) | ((with_reducible (first | refine guardD (by with_unfolding_all rfl) ?_ ?_ | refine guardE (by with_unfolding_all rfl) ?_ ?_ | refine guardN (by with_unfolding_all rfl) ?_ ?_ | refine guardI (by with_unfolding_all rfl) ?_ ?_ | refine guardS (by with_unfolding_all rfl) ?_ ?_)) <;> intro h) | ((refine callG hb ?_)) | (with_reducible refine And.intro ?_ ?_; omega) | (simp only [Z0,Z1,Z2,Z3,Z4,Z5,Z6,Z7,Z8,Z9,Za,Zb,Zc,Zd,Ze,Zf,List.cons.injEq,Zg,Zh,Zi,Zj,Zk,Zl,Zm,Zn,Zo,Zp,beq_self_eq_true,bne_self_eq_false,decide_true,decide_false,Zq,Zr,Zs,Zt,Zu,Zv,Zw,Zx,Zy,Zz,Y0,Y1,Y2,Y3,Y4,Y5,Y6,Y7,Y8,Y9,Ya,Yb,Yc,Yd,Ye,Yf,Yg,Yh,Yi,Yj,Yk,Yl,lk,ef,Ym,Yn,Yo,Yp,Yq,Yr,Ys,Yt,Yu,Yv,Yw,Yx,Yy,Yz,X0,X1,X2,X3,X4,X5,X6,X7,X8,X9,Xa,Xb,Xc,Xd,Xe,Xf,Xg,Xh,Xi,Xj,Xk,hv,Xl,ev,Xm,Xn,Xo,Xp,Xq,Xr,Xs,Xt,Xu,Xv,Xw,Xx,Xy,Xz,W0,W1,W2,W3,W4,W5,W6,W7,W8,W9,Wa,Wb,Wc,Wd,We,Wf,Wg,Wh,Wi,Value.oneCell',Wj,Wk,Wl,Wm,true_and,and_true,and_self,implies_true,Wn,Wo,Wp,Wq,false_implies,Wr,Ws,Wt,Wu,Wv,Ww,Wx,Wy,Wz,V0,V1,V2,V3,V4,V5,V6,V7,reduceCtorEq,if_true,if_false,V8,↓reduceIte,V9,Va,Vb,Vc,Vd,Ve,ne_eq,not_false_eq_true,not_true_eq_false,Vf,Vg,r14_0,r14_1,r14_2,r14_3,r14_4,r14_5,r14_6,r14_8,r14_9,r14_10,r14_11,r14_12,r14_13,r14_14,r14_15,r14_7,r14_16,p14,l14_0,Seg.av,gK,hw,hki,hk0',Zt,n1,n2,n4]) | (exfalso; omega)
    by_cases n5 : 4294967295 < s.bytes
    · rw [hbad (by rw [ho]; simp [outB, n5])]
      repeat' first | ((with_reducible (first | refine condD ?_ ?_ | refine condE ?_ ?_ | refine condN ?_ ?_ | refine condI ?_ ?_ | refine condS ?_ ?_)) <;> intro h) | ((with_reducible (first | refine guardD (by with_unfolding_all rfl) ?_ ?_ | refine guardE (by with_unfolding_all rfl) ?_ ?_ | refine guardN (by with_unfolding_all rfl) ?_ ?_ | refine guardI (by with_unfolding_all rfl) ?_ ?_ | refine guardS (by with_unfolding_all rfl) ?_ ?_)) <;> intro h) | ((refine callG hb ?_)) | (with_reducible refine And.intro ?_ ?_; omega) | (simp only [Z0,Z1,Z2,Z3,Z4,Z5,Z6,Z7,Z8,Z9,Za,Zb,Zc,Zd,Ze,Zf,List.cons.injEq,Zg,Zh,Zi,Zj,Zk,Zl,Zm,Zn,Zo,Zp,beq_self_eq_true,bne_self_eq_false,decide_true,decide_false,Zq,Zr,Zs,Zt,Zu,Zv,Zw,Zx,Zy,Zz,Y0,Y1,Y2,Y3,Y4,Y5,Y6,Y7,Y8,Y9,Ya,Yb,Yc,Yd,Ye,Yf,Yg,Yh,Yi,Yj,Yk,Yl,lk,ef,Ym,Yn,Yo,Yp,Yq,Yr,Ys,Yt,Yu,Yv,Yw,Yx,Yy,Yz,X0,X1,X2,X3,X4,X5,X6,X7,X8,X9,Xa,Xb,Xc,Xd,Xe,Xf,Xg,Xh,Xi,Xj,Xk,hv,Xl,ev,Xm,Xn,Xo,Xp,Xq,Xr,Xs,Xt,Xu,Xv,Xw,Xx,Xy,Xz,W0,W1,W2,W3,W4,W5,W6,W7,W8,W9,Wa,Wb,Wc,Wd,We,Wf,Wg,Wh,Wi,Value.oneCell',Wj,Wk,Wl,Wm,true_and,and_true,and_self,implies_true,Wn,Wo,Wp,Wq,false_implies,Wr,Ws,Wt,Wu,Wv,Ww,Wx,Wy,Wz,V0,V1,V2,V3,V4,V5,V6,V7,reduceCtorEq,if_true,if_false,V8,↓reduceIte,V9,Va,Vb,Vc,Vd,Ve,ne_eq,not_false_eq_true,not_true_eq_false,Vf,Vg,r14_0,r14_1,r14_2,r14_3,r14_4,r14_5,r14_6,r14_8,r14_9,r14_10,r14_11,r14_12,r14_13,r14_14,r14_15,r14_7,r14_16,p14,l14_0,Seg.av,gK,hw,hki,hk0',Zt,n1,n2,n4,n5]) | (exfalso; omega)
    by_cases n6 : s.len < 0
    · rw [hbad (by rw [ho]; simp [outB, n6])]
      repeat' first | ((with_reducible (first | refine condD ?_ ?_ | refine condE ?_ ?_ | refine condN ?_ ?_ | refine condI ?_ ?_ | refine condS ?_ ?_)) <;> intro h) | ((with_reducible (first | refine guardD (by with_unfolding_all rfl) ?_ ?_ | refine guardE (by with_unfolding_all rfl) ?_ ?_ | refine guardN (by with_unfolding_all rfl) ?_ ?_ | refine guardI (by with_unfolding_all rfl) ?_ ?_ | refine guardS (by with_unfolding_all rfl) ?_ ?_)) <;> intro h) | ((refine callG hb ?_)) | (with_reducible refine And.intro ?_ ?_; omega) | (simp only [Z0,Z1,Z2,Z3,Z4,Z5,Z6,Z7,Z8,Z9,Za,Zb,Zc,Zd,Ze,Zf,List.cons.injEq,Zg,Zh,Zi,Zj,Zk,Zl,Zm,Zn,Zo,Zp,beq_self_eq_true,bne_self_eq_false,decide_true,decide_false,Zq,Zr,Zs,Zt,Zu,Zv,Zw,Zx,Zy,Zz,Y0,Y1,Y2,Y3,Y4,Y5,Y6,Y7,Y8,Y9,Ya,Yb,Yc,Yd,Ye,Yf,Yg,Yh,Yi,Yj,Yk,Yl,lk,ef,Ym,Yn,Yo,Yp,Yq,Yr,Ys,Yt,Yu,Yv,Yw,Yx,Yy,Yz,X0,X1,X2,X3,X4,X5,X6,X7,X8,X9,Xa,Xb,Xc,Xd,Xe,Xf,Xg,Xh,Xi,Xj,Xk,hv,Xl,ev,Xm,Xn,Xo,Xp,Xq,Xr,Xs,Xt,Xu,Xv,Xw,Xx,Xy,Xz,W0,W1,W2,W3,W4,W5,W6,W7,W8,W9,Wa,Wb,Wc,Wd,We,Wf,Wg,Wh,Wi,Value.oneCell',Wj,Wk,Wl,Wm,true_and,and_true,and_self,implies_true,Wn,Wo,Wp,Wq,false_implies,Wr,Ws,Wt,Wu,Wv,Ww,Wx,Wy,Wz,V0,V1,V2,V3,V4,V5,V6,V7,reduceCtorEq,if_true,if_false,V8,↓reduceIte,V9,Va,Vb,Vc,Vd,Ve,ne_eq,not_false_eq_true,not_true_eq_false,Vf,Vg,r14_0,r14_1,r14_2,r14_3,r14_4,r14_5,r14_6,r14_8,r14_9,r14_10,r14_11,r14_12,r14_13,r14_14,r14_15,r14_7,r14_16,p14,l14_0,Seg.av,gK,hw,hki,hk0',Zt,n1,n2,n4,n5,n6]) | (exfalso; omega)
    by_cases n7 : 4294967295 < s.len
    · rw [hbad (by rw [ho]; simp [outB, n7])]
      repeat' first | ((with_reducible (first | refine condD ?_ ?_ | refine condE ?_ ?_ | refine condN ?_ ?_ | refine condI ?_ ?_ | refine condS ?_ ?_)) <;> intro h) | ((with_reducible (first | refine guardD (by with_unfolding_all rfl) ?_ ?_ | refine guardE (by with_unfolding_all rfl) ?_ ?_ | refine guardN (by with_unfolding_all rfl) ?_ ?_ | refine guardI (by with_unfolding_all rfl) ?_ ?_ | refine guardS (by with_unfolding_all rfl) ?_ ?_)) <;> intro h) | ((refine callG hb ?_)) | (with_reducible refine And.intro ?_ ?_; omega) | (simp only [Z0,Z1,Z2,Z3,Z4,Z5,Z6,Z7,Z8,Z9,Za,Zb,Zc,Zd,Ze,Zf,List.cons.injEq,Zg,Zh,Zi,Zj,Zk,Zl,Zm,Zn,Zo,Zp,beq_self_eq_true,bne_self_eq_false,decide_true,decide_false,Zq,Zr,Zs,Zt,Zu,Zv,Zw,Zx,Zy,Zz,Y0,Y1,Y2,Y3,Y4,Y5,Y6,Y7,Y8,Y9,Ya,Yb,Yc,Yd,Ye,Yf,Yg,Yh,Yi,Yj,Yk,Yl,lk,ef,Ym,Yn,Yo,Yp,Yq,Yr,Ys,Yt,Yu,Yv,Yw,Yx,Yy,Yz,X0,X1,X2,X3,X4,X5,X6,X7,X8,X9,Xa,Xb,Xc,Xd,Xe,Xf,Xg,Xh,Xi,Xj,Xk,hv,Xl,ev,Xm,Xn,Xo,Xp,Xq,Xr,Xs,Xt,Xu,Xv,Xw,Xx,Xy,Xz,W0,W1,W2,W3,W4,W5,W6,W7,W8,W9,Wa,Wb,Wc,Wd,We,Wf,Wg,Wh,Wi,Value.oneCell',Wj,Wk,Wl,Wm,true_and,and_true,and_self,implies_true,Wn,Wo,Wp,Wq,false_implies,Wr,Ws,Wt,Wu,Wv,Ww,Wx,Wy,Wz,V0,V1,V2,V3,V4,V5,V6,V7,reduceCtorEq,if_true,if_false,V8,↓reduceIte,V9,Va,Vb,Vc,Vd,Ve,ne_eq,not_false_eq_true,not_true_eq_false,Vf,Vg,r14_0,r14_1,r14_2,r14_3,r14_4,r14_5,r14_6,r14_8,r14_9,r14_10,r14_11,r14_12,r14_13,r14_14,r14_15,r14_7,r14_16,p14,l14_0,Seg.av,gK,hw,hki,hk0',Zt,n1,n2,n4,n5,n6,n7]) | (exfalso; omega)
    have hgood : outIx s = false := by
      rw [ho, hsum]
      simp [outB, n1, n2, n4, n5, n6, n7]
    rw [hgood, if_neg (by simp)] at hg
    have hnew' := hnew hgood
    by_cases hk0 : k = 0
    · have hkb : ((k : Int) == 0) = true := by rw [beq_iff_eq]; omega
      have hp0 : prvG l k = none := by simp [prvG, hk0]
      rw [hp0] at hg
      have hg2 : R = ixGo (prvG l (k + 1)) (l.drop (k + 1)) := by rw [hpn, hg]; rfl
      repeat' first | ((with_reducible (first | refine condD ?_ ?_ | refine condE ?_ ?_ | refine condN ?_ ?_ | refine condI ?_ ?_ | refine condS ?_ ?_)) <;> intro h) | ((with_reducible (first | refine guardD (by with_unfolding_all rfl) ?_ ?_ | refine guardE (by with_unfolding_all rfl) ?_ ?_ | refine guardN (by with_unfolding_all rfl) ?_ ?_ | refine guardI (by with_unfolding_all rfl) ?_ ?_ | refine guardS (by with_unfolding_all rfl) ?_ ?_)) <;> intro h) | ((refine callG hb ?_)) | (with_reducible refine And.intro ?_ ?_; omega) | (simp only [Z0,Z1,Z2,Z3,Z4,Z5,Z6,Z7,Z8,Z9,Za,Zb,Zc,Zd,Ze,Zf,List.cons.injEq,Zg,Zh,Zi,Zj,Zk,Zl,Zm,Zn,Zo,Zp,beq_self_eq_true,bne_self_eq_false,decide_true,decide_false,Zq,Zr,Zs,Zt,Zu,Zv,Zw,Zx,Zy,Zz,Y0,Y1,Y2,Y3,Y4,Y5,Y6,Y7,Y8,Y9,Ya,Yb,Yc,Yd,Ye,Yf,Yg,Yh,Yi,Yj,Yk,Yl,lk,ef,Ym,Yn,Yo,Yp,Yq,Yr,Ys,Yt,Yu,Yv,Yw,Yx,Yy,Yz,X0,X1,X2,X3,X4,X5,X6,X7,X8,X9,Xa,Xb,Xc,Xd,Xe,Xf,Xg,Xh,Xi,Xj,Xk,hv,Xl,ev,Xm,Xn,Xo,Xp,Xq,Xr,Xs,Xt,Xu,Xv,Xw,Xx,Xy,Xz,W0,W1,W2,W3,W4,W5,W6,W7,W8,W9,Wa,Wb,Wc,Wd,We,Wf,Wg,Wh,Wi,Value.oneCell',Wj,Wk,Wl,Wm,true_and,and_true,and_self,implies_true,Wn,Wo,Wp,Wq,false_implies,Wr,Ws,Wt,Wu,Wv,Ww,Wx,Wy,Wz,V0,V1,V2,V3,V4,V5,V6,V7,reduceCtorEq,if_true,if_false,V8,↓reduceIte,V9,Va,Vb,Vc,Vd,Ve,ne_eq,not_false_eq_true,not_true_eq_false,Vf,Vg,r14_0,r14_1,r14_2,r14_3,r14_4,r14_5,r14_6,r14_8,r14_9,r14_10,r14_11,r14_12,r14_13,r14_14,r14_15,r14_7,r14_16,p14,l14_0,Seg.av,gK,hw,hki,hk0',Zt,n1,n2,n4,n5,n6,n7,hkb]) | (exfalso; omega)
      all_goals first | omega | exact again hJ (k + 1) (weak_mk (by simp only [Vh,wk_nil,wk1,Vi,Vj,Vk,Z0,Z1,Z2,Z3,Z4,Z5,Z6,Z7,Z8,Z9,Za,Zb,Zc,Zd,Ze,Zf,List.cons.injEq,Zg,Zh,Zi,Zj,Zk,Zl,Zm,Zn,Zo,Zp,beq_self_eq_true,bne_self_eq_false,decide_true,decide_false,Zq,Zr,Zs,Zt,Zu,Zv,Zw,Zx,Zy,Zz,Y0,Y1,Y2,Y3,Y4,Y5,Y6,Y7,Y8,Y9,Ya,Yb,Yc,Yd,Ye,Yf,Yg,Yh,Yi,Yj,Yk,Yl,lk,ef,Ym,Yn,Yo,Yp,Yq,Yr,Ys,Yt,Yu,Yv,Yw,Yx,Yy,Yz,X0,X1,X2,X3,X4,X5,X6,X7,X8,X9,Xa,Xb,Xc,Xd,Xe,Xf,Xg,Xh,Xi,Xj,Xk,hv,Xl,ev,Xm,Xn,Xo,Xp,Xq,Xr,Xs,Xt,Xu,Xv,Xw,Xx,Xy,Xz,W0,W1,W2,W3,W4,W5,W6,W7,W8,W9,Wa,Wb,Wc,Wd,We,Wf,Wg,Wh,Wi,Value.oneCell',Wj,Wk,Wl,Wm,true_and,and_true,and_self,implies_true,Wn,Wo,Wp,Wq,false_implies,Wr,Ws,Wt,Wu,Wv,Ww,Wx,Wy,Wz,V0,V1,V2,V3,V4,V5,V6,V7,reduceCtorEq,if_true,if_false,V8,↓reduceIte,V9,Va,Vb,Vc,Vd,Ve,ne_eq,not_false_eq_true,not_true_eq_false,Vf,Nat.zero_ne_one]; first | done | rfl)) ⟨by omega, hg2, hnew'⟩ (by omega)
    · have hkb : ((k : Int) == 0) = false := by rw [beq_eq_false_iff_ne]; omega
      obtain ⟨hpl, hpo, hpp⟩ := hpre (by omega)
      have hof := hoff _ hpo hgood
      rw [hpp] at hg
      have gP := getD_map (f := Seg.av) (d := []) hpl
      have hbp := begins_c l[k - 1] (hI _ (List.getElem_mem hpl))
      obtain ⟨a1, a2, a3, a4, a5, a6, a7, a8, a9⟩ := outIx_f hpo
      have hbv := begV_ok hpo
      obtain ⟨q, hq⟩ : ∃ q, q = l[k - 1] := ⟨_, rfl⟩
      rw [← hq] at hof hg gP hbp a1 a2 a3 a4 a5 a6 a7 a8 a9 hbv
      simp only [Seg.av] at gP hbp
      have wk1' : IntKind.i64.wrap ((k : Int) - 1) = ((k - 1 : Nat) : Int) := by rw [wrap_in (by omega) (by omega)]; omega
      have hkl : ((k - 1 : Nat) : Int) < l.length := by omega
      have hkl0 : (0 : Int) ≤ ((k - 1 : Nat) : Int) := by omega
      have wn : IntKind.i64.wrap (q.number + 1) = q.number + 1 := wrap_in (by omega) (by omega)
      have wl : IntKind.i64.wrap (begV q + q.len) = begV q + q.len := wrap_in (by omega) (by omega)
      have hgo : R = if offIx q s then 8 else ixGo (some s) (l.drop (k + 1)) := by rw [hg]; rfl
      generalize sumB q.beg q.lead = okq at *
      generalize begV q = vq at *
      generalize begV s = vs at *
      cases hn : (s.number != q.number + 1) with
      | true =>
        rw [hn, Bool.true_or] at hof
        rw [hof, if_pos rfl] at hgo
        rw [hgo]
        repeat' first | ((with_reducible (first | refine condD ?_ ?_ | refine condE ?_ ?_ | refine condN ?_ ?_ | refine condI ?_ ?_ | refine condS ?_ ?_)) <;> intro h) | ((with_reducible (first | refine guardD (by with_unfolding_all rfl) ?_ ?_ | refine guardE (by with_unfolding_all rfl) ?_ ?_ | refine guardN (by with_unfolding_all rfl) ?_ ?_ | refine guardI (by with_unfolding_all rfl) ?_ ?_ | refine guardS (by with_unfolding_all rfl) ?_ ?_)) <;> intro h) | ((refine callG hb ?_)) | ((refine callG hbp ?_)) | (with_reducible refine And.intro ?_ ?_; omega) | (simp only [Z0,Z1,Z2,Z3,Z4,Z5,Z6,Z7,Z8,Z9,Za,Zb,Zc,Zd,Ze,Zf,List.cons.injEq,Zg,Zh,Zi,Zj,Zk,Zl,Zm,Zn,Zo,Zp,beq_self_eq_true,bne_self_eq_false,decide_true,decide_false,Zq,Zr,Zs,Zt,Zu,Zv,Zw,Zx,Zy,Zz,Y0,Y1,Y2,Y3,Y4,Y5,Y6,Y7,Y8,Y9,Ya,Yb,Yc,Yd,Ye,Yf,Yg,Yh,Yi,Yj,Yk,Yl,lk,ef,Ym,Yn,Yo,Yp,Yq,Yr,Ys,Yt,Yu,Yv,Yw,Yx,Yy,Yz,X0,X1,X2,X3,X4,X5,X6,X7,X8,X9,Xa,Xb,Xc,Xd,Xe,Xf,Xg,Xh,Xi,Xj,Xk,hv,Xl,ev,Xm,Xn,Xo,Xp,Xq,Xr,Xs,Xt,Xu,Xv,Xw,Xx,Xy,Xz,W0,W1,W2,W3,W4,W5,W6,W7,W8,W9,Wa,Wb,Wc,Wd,We,Wf,Wg,Wh,Wi,Value.oneCell',Wj,Wk,Wl,Wm,true_and,and_true,and_self,implies_true,Wn,Wo,Wp,Wq,false_implies,Wr,Ws,Wt,Wu,Wv,Ww,Wx,Wy,Wz,V0,V1,V2,V3,V4,V5,V6,V7,reduceCtorEq,if_true,if_false,V8,↓reduceIte,V9,Va,Vb,Vc,Vd,Ve,ne_eq,not_false_eq_true,not_true_eq_false,Vf,Vg,r14_0,r14_1,r14_2,r14_3,r14_4,r14_5,r14_6,r14_8,r14_9,r14_10,r14_11,r14_12,r14_13,r14_14,r14_15,r14_7,r14_16,p14,l14_0,Seg.av,gK,hw,hki,hk0',Zt,n1,n2,n4,n5,n6,n7,hkb,gP,wk1',hkl,hkl0,wn,wl,hn]) | (exfalso; omega)
      | false =>
        cases hv' : (vs != vq + q.len) with
        | true =>
          rw [hn, hv', Bool.false_or] at hof
          rw [hof, if_pos rfl] at hgo
          rw [hgo]
          repeat' first | ((with_reducible (first | refine condD ?_ ?_ | refine condE ?_ ?_ | refine condN ?_ ?_ | refine condI ?_ ?_ | refine condS ?_ ?_)) <;> intro h) | ((with_reducible (first | refine guardD (by with_unfolding_all rfl) ?_ ?_ | refine guardE (by with_unfolding_all rfl) ?_ ?_ | refine guardN (by with_unfolding_all rfl) ?_ ?_ | refine guardI (by with_unfolding_all rfl) ?_ ?_ | refine guardS (by with_unfolding_all rfl) ?_ ?_)) <;> intro h) | ((refine callG hb ?_)) | ((refine callG hbp ?_)) | (with_reducible refine And.intro ?_ ?_; omega) | (simp only [Z0,Z1,Z2,Z3,Z4,Z5,Z6,Z7,Z8,Z9,Za,Zb,Zc,Zd,Ze,Zf,List.cons.injEq,Zg,Zh,Zi,Zj,Zk,Zl,Zm,Zn,Zo,Zp,beq_self_eq_true,bne_self_eq_false,decide_true,decide_false,Zq,Zr,Zs,Zt,Zu,Zv,Zw,Zx,Zy,Zz,Y0,Y1,Y2,Y3,Y4,Y5,Y6,Y7,Y8,Y9,Ya,Yb,Yc,Yd,Ye,Yf,Yg,Yh,Yi,Yj,Yk,Yl,lk,ef,Ym,Yn,Yo,Yp,Yq,Yr,Ys,Yt,Yu,Yv,Yw,Yx,Yy,Yz,X0,X1,X2,X3,X4,X5,X6,X7,X8,X9,Xa,Xb,Xc,Xd,Xe,Xf,Xg,Xh,Xi,Xj,Xk,hv,Xl,ev,Xm,Xn,Xo,Xp,Xq,Xr,Xs,Xt,Xu,Xv,Xw,Xx,Xy,Xz,W0,W1,W2,W3,W4,W5,W6,W7,W8,W9,Wa,Wb,Wc,Wd,We,Wf,Wg,Wh,Wi,Value.oneCell',Wj,Wk,Wl,Wm,true_and,and_true,and_self,implies_true,Wn,Wo,Wp,Wq,false_implies,Wr,Ws,Wt,Wu,Wv,Ww,Wx,Wy,Wz,V0,V1,V2,V3,V4,V5,V6,V7,reduceCtorEq,if_true,if_false,V8,↓reduceIte,V9,Va,Vb,Vc,Vd,Ve,ne_eq,not_false_eq_true,not_true_eq_false,Vf,Vg,r14_0,r14_1,r14_2,r14_3,r14_4,r14_5,r14_6,r14_8,r14_9,r14_10,r14_11,r14_12,r14_13,r14_14,r14_15,r14_7,r14_16,p14,l14_0,Seg.av,gK,hw,hki,hk0',Zt,n1,n2,n4,n5,n6,n7,hkb,gP,wk1',hkl,hkl0,wn,wl,hn,hv']) | (exfalso; omega)
        | false =>
          rw [hn, hv', Bool.false_or] at hof
          rw [hof, if_neg (by simp), ← hpn] at hgo
          repeat' first | ((with_reducible (first | refine condD ?_ ?_ | refine condE ?_ ?_ | refine condN ?_ ?_ | refine condI ?_ ?_ | refine condS ?_ ?_)) <;> intro h) | ((with_reducible (first | refine guardD (by with_unfolding_all rfl) ?_ ?_ | refine guardE (by with_unfolding_all rfl) ?_ ?_ | refine guardN (by with_unfolding_all rfl) ?_ ?_ | refine guardI (by with_unfolding_all rfl) ?_ ?_ | refine guardS (by with_unfolding_all rfl) ?_ ?_)) <;> intro h) | ((refine callG hb ?_)) | ((refine callG hbp ?_)) | (with_reducible refine And.intro ?_ ?_; omega) | (simp only [Z0,Z1,Z2,Z3,Z4,Z5,Z6,Z7,Z8,Z9,Za,Zb,Zc,Zd,Ze,Zf,List.cons.injEq,Zg,Zh,Zi,Zj,Zk,Zl,Zm,Zn,Zo,Zp,beq_self_eq_true,bne_self_eq_false,decide_true,decide_false,Zq,Zr,Zs,Zt,Zu,Zv,Zw,Zx,Zy,Zz,Y0,Y1,Y2,Y3,Y4,Y5,Y6,Y7,Y8,Y9,Ya,Yb,Yc,Yd,Ye,Yf,Yg,Yh,Yi,Yj,Yk,Yl,lk,ef,Ym,Yn,Yo,Yp,Yq,Yr,Ys,Yt,Yu,Yv,Yw,Yx,Yy,Yz,X0,X1,X2,X3,X4,X5,X6,X7,X8,X9,Xa,Xb,Xc,Xd,Xe,Xf,Xg,Xh,Xi,Xj,Xk,hv,Xl,ev,Xm,Xn,Xo,Xp,Xq,Xr,Xs,Xt,Xu,Xv,Xw,Xx,Xy,Xz,W0,W1,W2,W3,W4,W5,W6,W7,W8,W9,Wa,Wb,Wc,Wd,We,Wf,Wg,Wh,Wi,Value.oneCell',Wj,Wk,Wl,Wm,true_and,and_true,and_self,implies_true,Wn,Wo,Wp,Wq,false_implies,Wr,Ws,Wt,Wu,Wv,Ww,Wx,Wy,Wz,V0,V1,V2,V3,V4,V5,V6,V7,reduceCtorEq,if_true,if_false,V8,↓reduceIte,V9,Va,Vb,Vc,Vd,Ve,ne_eq,not_false_eq_true,not_true_eq_false,Vf,Vg,r14_0,r14_1,r14_2,r14_3,r14_4,r14_5,r14_6,r14_8,r14_9,r14_10,r14_11,r14_12,r14_13,r14_14,r14_15,r14_7,r14_16,p14,l14_0,Seg.av,gK,hw,hki,hk0',Zt,n1,n2,n4,n5,n6,n7,hkb,gP,wk1',hkl,hkl0,wn,wl,hn,hv']) | (exfalso; omega)
          all_goals first | omega | exact again hJ (k + 1) (weak_mk (by simp only [Vh,wk_nil,wk1,Vi,Vj,Vk,Z0,Z1,Z2,Z3,Z4,Z5,Z6,Z7,Z8,Z9,Za,Zb,Zc,Zd,Ze,Zf,List.cons.injEq,Zg,Zh,Zi,Zj,Zk,Zl,Zm,Zn,Zo,Zp,beq_self_eq_true,bne_self_eq_false,decide_true,decide_false,Zq,Zr,Zs,Zt,Zu,Zv,Zw,Zx,Zy,Zz,Y0,Y1,Y2,Y3,Y4,Y5,Y6,Y7,Y8,Y9,Ya,Yb,Yc,Yd,Ye,Yf,Yg,Yh,Yi,Yj,Yk,Yl,lk,ef,Ym,Yn,Yo,Yp,Yq,Yr,Ys,Yt,Yu,Yv,Yw,Yx,Yy,Yz,X0,X1,X2,X3,X4,X5,X6,X7,X8,X9,Xa,Xb,Xc,Xd,Xe,Xf,Xg,Xh,Xi,Xj,Xk,hv,Xl,ev,Xm,Xn,Xo,Xp,Xq,Xr,Xs,Xt,Xu,Xv,Xw,Xx,Xy,Xz,W0,W1,W2,W3,W4,W5,W6,W7,W8,W9,Wa,Wb,Wc,Wd,We,Wf,Wg,Wh,Wi,Value.oneCell',Wj,Wk,Wl,Wm,true_and,and_true,and_self,implies_true,Wn,Wo,Wp,Wq,false_implies,Wr,Ws,Wt,Wu,Wv,Ww,Wx,Wy,Wz,V0,V1,V2,V3,V4,V5,V6,V7,reduceCtorEq,if_true,if_false,V8,↓reduceIte,V9,Va,Vb,Vc,Vd,Ve,ne_eq,not_false_eq_true,not_true_eq_false,Vf,Nat.zero_ne_one]; first | done | rfl)) ⟨by omega, hgo, hnew'⟩ (by omega)
  · have hke : k = l.length := by omega
    subst hke
    rw [List.drop_length] at hg
    have hR0 : R = 0 := by rw [hg]; cases prvG l l.length <;> rfl
    rw [hR0]
    clear hJ
    repeat' first | ((with_reducible (first | refine condD ?_ ?_ | refine condE ?_ ?_ | refine condN ?_ ?_ | refine condI ?_ ?_ | refine condS ?_ ?_)) <;> intro h) | ((with_reducible (first | refine guardD (by with_unfolding_all rfl) ?_ ?_ | refine guardE (by with_unfolding_all rfl) ?_ ?_ | refine guardN (by with_unfolding_all rfl) ?_ ?_ | refine guardI (by with_unfolding_all rfl) ?_ ?_ | refine guardS (by with_unfolding_all rfl) ?_ ?_)) <;> intro h) | (with_reducible refine And.intro ?_ ?_; omega) | (simp only [Z0,Z1,Z2,Z3,Z4,Z5,Z6,Z7,Z8,Z9,Za,Zb,Zc,Zd,Ze,Zf,List.cons.injEq,Zg,Zh,Zi,Zj,Zk,Zl,Zm,Zn,Zo,Zp,beq_self_eq_true,bne_self_eq_false,decide_true,decide_false,Zq,Zr,Zs,Zt,Zu,Zv,Zw,Zx,Zy,Zz,Y0,Y1,Y2,Y3,Y4,Y5,Y6,Y7,Y8,Y9,Ya,Yb,Yc,Yd,Ye,Yf,Yg,Yh,Yi,Yj,Yk,Yl,lk,ef,Ym,Yn,Yo,Yp,Yq,Yr,Ys,Yt,Yu,Yv,Yw,Yx,Yy,Yz,X0,X1,X2,X3,X4,X5,X6,X7,X8,X9,Xa,Xb,Xc,Xd,Xe,Xf,Xg,Xh,Xi,Xj,Xk,hv,Xl,ev,Xm,Xn,Xo,Xp,Xq,Xr,Xs,Xt,Xu,Xv,Xw,Xx,Xy,Xz,W0,W1,W2,W3,W4,W5,W6,W7,W8,W9,Wa,Wb,Wc,Wd,We,Wf,Wg,Wh,Wi,Value.oneCell',Wj,Wk,Wl,Wm,true_and,and_true,and_self,implies_true,Wn,Wo,Wp,Wq,false_implies,Wr,Ws,Wt,Wu,Wv,Ww,Wx,Wy,Wz,V0,V1,V2,V3,V4,V5,V6,V7,reduceCtorEq,if_true,if_false,V8,↓reduceIte,V9,Va,Vb,Vc,Vd,Ve,ne_eq,not_false_eq_true,not_true_eq_false,Vf,Vg,r14_0,r14_1,r14_2,r14_3,r14_4,r14_5,r14_6,r14_8,r14_9,r14_10,r14_11,r14_12,r14_13,r14_14,r14_15,r14_7,r14_16,p14,l14_0]) | (exfalso; omega)
end Go.Proofs.YtjeemcpdmiajmaaDoor
