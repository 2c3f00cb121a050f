/- The reference's samples: CheckSamples, present, moved, right, Tight, by the machine on data. -/
import Derived.Test.YtbdcnooafacldaaKMoved
import Derived.Test.YtbdcnooafacldaaKSlc
namespace Go.Proofs.Ytbdcnooafacldaa
open Go.RowKit
open Go.Proofs.Ytbdcnooafacldaa renaming done_eq → Z0, done_eq' → Z1, donet_eq → Z2, donet_eq' → Z3, fin_val → Z4, fin_tup → Z5, fin_agg → Z6, fin_ro → Z7, res_one → Z8, res_more → Z9, rv_t → Za, rv_c → Zb, rv_l → Zc, int_eq → Zg, bool_eq → Zh, toNat_pred → Zr, toNat_succ → Zs, cnd_t → Zu, cnd_f → Zv, grd_tt → Zw, grd_u → Zx, grd_tf → Zy, grd_ft → Zz, grd_ff → Y0, g_skip → Y1, g_ops → Y2, g_seq → Y3, g_block → Y4, g_exit → Y5, g_ret → Y6, x_c → Y7, x_o → Y8, x_l → Y9, x_b → Ya, g_b → Yb, g_nil → Yc, r_all → Yd, o_nil → Ye, g_cond → Yf, o_guard → Yg, o_call → Yh, o_callm → Yi, o_callt → Yj, o_callx → Yk, o_callv → Yl, o_callc → Ym, o_callh → Yn, o_apph → Yo, noav_alias → Yp, noav_nil → Yq, o_mv → Yr, o_pick → Ys, o_bin → Yt, o_never → Yu, o_eqs → Yv, o_eqb → Yw, o_un → Yx, o_conv → Yy, o_load → Yz, o_loadr → X0, o_idxr → X1, o_loads → X2, o_loadsr → X3, o_fld → X4, o_idx → X5, o_idxs → X6, o_len → X7, o_lens → X8, o_ext → X9, o_nilck → Xa, o_slc → Xb, o_slcs → Xc, o_build → Xd, o_minmax → Xe, o_mkfn → Xf, o_mkfnr → Xg, o_alloc → Xh, o_box → Xi, o_boxs → Xj, o_row → Xk, o_rowr → Xl, o_mk → Xm, o_asg → Xn, o_app → Xo, o_appa → Xp, o_store → Xq, o_stores → Xr, o_eqnil → Xs, eqAV → Xt, view_t → Xu, view_c → Xv, view_nil → Xw, view_fn → Xx, look_own → Xy, look_box → Xz, look_junk → W0, look_val → W1, look_nilsl → W2, look_ro → W3, look_roAt → W4, look_agg → W5, look_tup → W6, look_clo → W7, look_alias → W8, look_ref → W9, look_into → Wa, look_fnv → Wb, look_held → Wc, rowOf → Wd, cellsOf → We, argv → Wf, vbin → Wg, vun → Wh, bnd → Wi, elemOf → Wj, putParts → Wk, setAt → Wl, zav → Wm, put_at → Wu, mk_at → Wv, mk_nil → Ww, initSt → Wx, wk_cons → Vt, vint_eq → Vu, vbool_eq → Vv
open Go.Proofs.Ytbdcnooafacldaa.AV.tup renaming injEq → Zd
open Go.Proofs.Ytbdcnooafacldaa.AV.agg renaming injEq → Ze
open Go.Proofs.Ytbdcnooafacldaa.AV.ro renaming injEq → Zf
open _root_.Int renaming toNat_natCast → Zi, reduceToNat → Zj, toNat_zero → Zk, toNat_one → Zl, reduceLE → Zm, reduceLT → Zn, reduceBEq → Zo, reduceBNe → Zp, reduceNeg → Zq
open _root_.List renaming length_map → Zt, map_cons → Wy, map_nil → Wz, forall_mem_cons → V0, not_mem_nil → V1, length_cons → V2, length_nil → V3, getD_cons_zero → V4, getD_cons_succ → V5, getD_nil → V6, drop_succ_cons → V7, drop_zero → V8, take_succ_cons → V9, take_zero → Va, set_cons_zero → Vb, set_cons_succ → Vc, all_cons → Vd, all_nil → Ve
open Go.Proofs.Ytbdcnooafacldaa.ASt renaming rid → Wn, hold → Wo, free → Wp
open Go.Proofs.Ytbdcnooafacldaa.AV renaming kill → Wq, isHome → Wr, noLoan → Ws, cellOK → Wt
open _root_.Bool renaming and_true → Vf, true_and → Vg, not_true → Vh, not_false → Vi, false_eq_true → Vj
open _root_.Nat renaming reduceEqDiff → Vk, reduceBNe → Vl, reduceAdd → Vm, reduceSub → Vn, reduceMul → Vo, reduceLeDiff → Vp, reduceLT → Vq, one_ne_zero → Vr, zero_ne_one → Vs
open Go.Proofs.Ytbdcnooafacldaa.AV.val renaming injEq → Vw
set_option linter.unusedSimpArgs false
--@short

/-! headend/headendref2.within -/
def r30_0 : List POp := [⟨6, .asg (.c (.bool false)), none⟩]
def r30_1 : List POp := [⟨7, .mv (.t 0), none⟩,
  ⟨8, .mv (.t 1), none⟩,
  ⟨9, .bin .geq (.t 7) (.t 8), none⟩,
  ⟨10, .mv (.t 9), none⟩,
  ⟨11, .mv (.t 0), some (10, true)⟩,
  ⟨12, .mv (.t 2), some (10, true)⟩,
  ⟨13, .bin .leq (.t 11) (.t 12), some (10, true)⟩,
  ⟨14, .pick (.t 10) (.t 13) (.c (.bool false)), none⟩,
  ⟨6, .asg (.t 14), none⟩]
def p30 : PCode := .seq (.ops r30_0) (.seq (.ops r30_1) (.ret))
theorem ok30 : okFunc Try.prog 30 [.t 6] 3 p30 = true := by kernel_rfl
theorem within_c (n low high : Int) : CallOK Try.prog 30 [.val (.int .i64 n), .val (.int .i64 low), .val (.int .i64 high)] (.val (.bool (!outB n low high))) := by
  refine call_of mixed ok30 rfl ?_
  repeat' first | ((with_reducible (first | refine condD ?_ ?_ | refine condE ?_ ?_ | refine condN ?_ ?_ | refine condI ?_ ?_ | refine condS ?_ ?_)) <;> intro h) | ((with_reducible (first | refine guardD (by with_unfolding_all rfl) ?_ ?_ | refine guardE (by with_unfolding_all rfl) ?_ ?_ | refine guardN (by with_unfolding_all rfl) ?_ ?_ | refine guardI (by with_unfolding_all rfl) ?_ ?_ | refine guardS (by with_unfolding_all rfl) ?_ ?_)) <;> intro h) | (with_reducible refine And.intro ?_ ?_; omega) | (simp only [Z0,Z1,Z2,Z3,Z4,Z5,Z6,Z7,Z8,Z9,Za,Zb,Zc,Zd,Ze,Zf,List.cons.injEq,Zg,Zh,Zi,Zj,Zk,Zl,Zm,Zn,Zo,Zp,beq_self_eq_true,bne_self_eq_false,decide_true,decide_false,Zq,Zr,Zs,Zt,Zu,Zv,Zw,Zx,Zy,Zz,Y0,Y1,Y2,Y3,Y4,Y5,Y6,Y7,Y8,Y9,Ya,Yb,Yc,Yd,Ye,Yf,Yg,Yh,Yi,Yj,Yk,Yl,Ym,Yn,Yo,Yp,Yq,lk,ef,Yr,Ys,Yt,Yu,Yv,Yw,Yx,Yy,Yz,X0,X1,X2,X3,X4,X5,X6,X7,X8,X9,Xa,Xb,Xc,Xd,Xe,Xf,Xg,Xh,Xi,Xj,Xk,Xl,Xm,Xn,Xo,Xp,Xq,Xr,Xs,hv,Xt,ev,Xu,Xv,Xw,Xx,Xy,Xz,W0,W1,W2,W3,W4,W5,W6,W7,W8,W9,Wa,Wb,Wc,Wd,We,Wf,Wg,Wh,Wi,Wj,Wk,Wl,Wm,Wn,Wo,Wp,Wq,Wr,Ws,Wt,Value.oneCell',Wu,Wv,Ww,Wx,true_and,and_true,and_self,implies_true,Wy,Wz,V0,V1,false_implies,V2,V3,V4,V5,V6,V7,V8,V9,Va,Vb,Vc,Vd,Ve,Vf,Vg,Vh,Vi,reduceCtorEq,if_true,if_false,Vj,↓reduceIte,Vk,Vl,Vm,Vn,Vo,Vp,Vq,ne_eq,not_false_eq_true,not_true_eq_false,Vr,Vs,r30_0,r30_1,p30]) | (exfalso; omega)
  all_goals
    cases hh : outB n low high
    · have := outB_f hh
      first | (simp; done) | (simp; omega) | (exfalso; omega)
    · have := outB_t hh
      first | (simp; done) | (simp; omega) | (exfalso; omega)
/-! headend/headendref2.CheckSamples -/
def r18_0 : List POp := [⟨2, .asg (.c (.int .i64 0)), none⟩]
def r18_1 : List POp := [⟨6, .mv (.t 0), none⟩,
  ⟨7, .len (.t 6), none⟩,
  ⟨8, .bin .gtr (.t 7) (.c (.int .i64 5000)), none⟩]
def r18_2 : List POp := [⟨2, .asg (.c (.int .i64 2)), none⟩]
def r18_3 : List POp := [⟨3, .asg (.c (.int .i64 0)), none⟩]
def r18_4 : List POp := [⟨9, .mv (.t 3), none⟩,
  ⟨10, .mv (.t 0), none⟩,
  ⟨11, .len (.t 10), none⟩,
  ⟨12, .bin .lss (.t 9) (.t 11), none⟩]
def r18_6 : List POp := [⟨15, .mv (.t 0), none⟩,
  ⟨16, .mv (.t 3), none⟩,
  ⟨17, .idx 5 (.t 15) (.t 16), none⟩,
  ⟨18, .loads 5 (.t 17), none⟩,
  ⟨4, .alloc [.int .i64 0, .int .i64 0, .int .i64 0, .int .i64 0, .bool false], none⟩,
  ⟨0, .stores 5 (.t 4) (.t 18), none⟩]
def r18_7 : List POp := [⟨19, .fld 0 (.t 4), none⟩,
  ⟨20, .load (.t 19), none⟩,
  ⟨21, .call 29 [.t 20], none⟩,
  ⟨22, .un .not (.t 21), none⟩,
  ⟨23, .mv (.t 22), none⟩,
  ⟨24, .fld 1 (.t 4), some (23, false)⟩,
  ⟨25, .load (.t 24), some (23, false)⟩,
  ⟨26, .call 30 [.t 25, .c (.int .i64 0), .c (.int .i64 1000000000)], some (23, false)⟩,
  ⟨27, .un .not (.t 26), some (23, false)⟩,
  ⟨28, .pick (.t 23) (.c (.bool true)) (.t 27), none⟩,
  ⟨29, .mv (.t 28), none⟩,
  ⟨30, .fld 2 (.t 4), some (29, false)⟩,
  ⟨31, .load (.t 30), some (29, false)⟩,
  ⟨32, .call 30 [.t 31, .c (.int .i64 (-1000000000)), .c (.int .i64 1000000000)], some (29, false)⟩,
  ⟨33, .un .not (.t 32), some (29, false)⟩,
  ⟨34, .pick (.t 29) (.c (.bool true)) (.t 33), none⟩,
  ⟨35, .mv (.t 34), none⟩,
  ⟨36, .fld 3 (.t 4), some (35, false)⟩,
  ⟨37, .load (.t 36), some (35, false)⟩,
  ⟨38, .call 30 [.t 37, .c (.int .i64 0), .c (.int .i64 100000)], some (35, false)⟩,
  ⟨39, .un .not (.t 38), some (35, false)⟩,
  ⟨40, .pick (.t 35) (.c (.bool true)) (.t 39), none⟩]
def r18_8 : List POp := [⟨2, .asg (.c (.int .i64 1)), none⟩]
def r18_9 : List POp := [⟨41, .mv (.t 3), none⟩,
  ⟨42, .bin .gtr (.t 41) (.c (.int .i64 0)), none⟩,
  ⟨43, .mv (.t 42), none⟩,
  ⟨44, .fld 0 (.t 4), some (43, true)⟩,
  ⟨45, .load (.t 44), some (43, true)⟩,
  ⟨46, .mv (.t 0), some (43, true)⟩,
  ⟨47, .mv (.t 3), some (43, true)⟩,
  ⟨48, .bin .sub (.t 47) (.c (.int .i64 1)), some (43, true)⟩,
  ⟨49, .idx 5 (.t 46) (.t 48), some (43, true)⟩,
  ⟨50, .fld 0 (.t 49), some (43, true)⟩,
  ⟨51, .load (.t 50), some (43, true)⟩,
  ⟨52, .mv (.t 0), some (43, true)⟩,
  ⟨53, .mv (.t 3), some (43, true)⟩,
  ⟨54, .bin .sub (.t 53) (.c (.int .i64 1)), some (43, true)⟩,
  ⟨55, .idx 5 (.t 52) (.t 54), some (43, true)⟩,
  ⟨56, .fld 1 (.t 55), some (43, true)⟩,
  ⟨57, .load (.t 56), some (43, true)⟩,
  ⟨58, .bin .add (.t 51) (.t 57), some (43, true)⟩,
  ⟨59, .bin .neq (.t 45) (.t 58), some (43, true)⟩,
  ⟨60, .pick (.t 43) (.t 59) (.c (.bool false)), none⟩]
def r18_10 : List POp := [⟨2, .asg (.c (.int .i64 8)), none⟩]
def r18_5 : List POp := [⟨13, .mv (.t 3), none⟩,
  ⟨14, .bin .add (.t 13) (.c (.int .i64 1)), none⟩,
  ⟨3, .asg (.t 14), none⟩]
def r18_11 : List POp := [⟨61, .mv (.t 0), none⟩,
  ⟨62, .len (.t 61), none⟩,
  ⟨5, .asg (.t 62), none⟩]
def r18_12 : List POp := [⟨63, .mv (.t 5), none⟩,
  ⟨64, .bin .gtr (.t 63) (.c (.int .i64 0)), none⟩,
  ⟨65, .mv (.t 64), none⟩,
  ⟨66, .mv (.t 0), some (65, true)⟩,
  ⟨67, .mv (.t 5), some (65, true)⟩,
  ⟨68, .bin .sub (.t 67) (.c (.int .i64 1)), some (65, true)⟩,
  ⟨69, .idx 5 (.t 66) (.t 68), some (65, true)⟩,
  ⟨70, .fld 0 (.t 69), some (65, true)⟩,
  ⟨71, .load (.t 70), some (65, true)⟩,
  ⟨72, .mv (.t 0), some (65, true)⟩,
  ⟨73, .mv (.t 5), some (65, true)⟩,
  ⟨74, .bin .sub (.t 73) (.c (.int .i64 1)), some (65, true)⟩,
  ⟨75, .idx 5 (.t 72) (.t 74), some (65, true)⟩,
  ⟨76, .fld 1 (.t 75), some (65, true)⟩,
  ⟨77, .load (.t 76), some (65, true)⟩,
  ⟨78, .bin .add (.t 71) (.t 77), some (65, true)⟩,
  ⟨79, .call 29 [.t 78], some (65, true)⟩,
  ⟨80, .un .not (.t 79), some (65, true)⟩,
  ⟨81, .pick (.t 65) (.t 80) (.c (.bool false)), none⟩]
def r18_13 : List POp := [⟨2, .asg (.c (.int .i64 1)), none⟩]
def r18_14 : List POp := [⟨2, .asg (.c (.int .i64 0)), none⟩]
def l18_0 : PCode := .seq (.seq (.ops r18_4) (.cond (.t 12) (.skip) (.exit 0))) (.seq (.block 1 (.seq (.ops r18_6) (.seq (.seq (.ops r18_7) (.cond (.t 40) (.seq (.ops r18_8) (.ret)) (.skip))) (.seq (.ops r18_9) (.cond (.t 60) (.seq (.ops r18_10) (.ret)) (.skip)))))) (.ops r18_5))
def p18 : PCode := .seq (.ops r18_0) (.seq (.seq (.ops r18_1) (.cond (.t 8) (.seq (.ops r18_2) (.ret)) (.skip))) (.seq (.seq (.ops r18_3) (.block 0 (.loop l18_0))) (.seq (.seq (.ops r18_11) (.seq (.ops r18_12) (.cond (.t 81) (.seq (.ops r18_13) (.ret)) (.skip)))) (.seq (.ops r18_14) (.ret)))))
theorem ok18 : okFunc Try.prog 18 [.t 2] 1 p18 = true := by kernel_rfl
theorem refsmp_c (l : List Smp) : CallOK Try.prog 18 [.ro (l.map Smp.av)] (.val (.int .i64 (smpF l))) := by
  refine call_of mixed ok18 rfl ?_
  repeat' first | ((with_reducible (first | refine condD ?_ ?_ | refine condE ?_ ?_ | refine condN ?_ ?_ | refine condI ?_ ?_ | refine condS ?_ ?_)) <;> intro h) | ((with_reducible (first | refine guardD (by with_unfolding_all rfl) ?_ ?_ | refine guardE (by with_unfolding_all rfl) ?_ ?_ | refine guardN (by with_unfolding_all rfl) ?_ ?_ | refine guardI (by with_unfolding_all rfl) ?_ ?_ | refine guardS (by with_unfolding_all rfl) ?_ ?_)) <;> intro h) | (with_reducible refine And.intro ?_ ?_; omega) | (simp only [Z0,Z1,Z2,Z3,Z4,Z5,Z6,Z7,Z8,Z9,Za,Zb,Zc,Zd,Ze,Zf,List.cons.injEq,Zg,Zh,Zi,Zj,Zk,Zl,Zm,Zn,Zo,Zp,beq_self_eq_true,bne_self_eq_false,decide_true,decide_false,Zq,Zr,Zs,Zt,Zu,Zv,Zw,Zx,Zy,Zz,Y0,Y1,Y2,Y3,Y4,Y5,Y6,Y7,Y8,Y9,Ya,Yb,Yc,Yd,Ye,Yf,Yg,Yh,Yi,Yj,Yk,Yl,Ym,Yn,Yo,Yp,Yq,lk,ef,Yr,Ys,Yt,Yu,Yv,Yw,Yx,Yy,Yz,X0,X1,X2,X3,X4,X5,X6,X7,X8,X9,Xa,Xb,Xc,Xd,Xe,Xf,Xg,Xh,Xi,Xj,Xk,Xl,Xm,Xn,Xo,Xp,Xq,Xr,Xs,hv,Xt,ev,Xu,Xv,Xw,Xx,Xy,Xz,W0,W1,W2,W3,W4,W5,W6,W7,W8,W9,Wa,Wb,Wc,Wd,We,Wf,Wg,Wh,Wi,Wj,Wk,Wl,Wm,Wn,Wo,Wp,Wq,Wr,Ws,Wt,Value.oneCell',Wu,Wv,Ww,Wx,true_and,and_true,and_self,implies_true,Wy,Wz,V0,V1,false_implies,V2,V3,V4,V5,V6,V7,V8,V9,Va,Vb,Vc,Vd,Ve,Vf,Vg,Vh,Vi,reduceCtorEq,if_true,if_false,Vj,↓reduceIte,Vk,Vl,Vm,Vn,Vo,Vp,Vq,ne_eq,not_false_eq_true,not_true_eq_false,Vr,Vs,r18_0,r18_1,r18_2,r18_3,r18_4,r18_6,r18_7,r18_8,r18_9,r18_10,r18_5,r18_11,r18_12,r18_13,r18_14,p18]) | (exfalso; omega)
  · rw [smpF, if_pos (by omega)]
  · have hl : l.length ≤ 5000 := by omega
    have hr0 : smpF l = if smpGo none l ≠ 0 then smpGo none l else if l.getLast?.any fun s => noTime s.endW then 1 else 0 := if_neg (by omega)
    refine loopS (fun k : Nat => mk [(0, .ro (l.map Smp.av)), (3, .val (.int .i64 k))]) (fun k => k ≤ l.length ∧ smpGo none l = smpGo (prvS l k) (l.drop k)) (fun k => l.length - k) 0 (weak_mk ?_) ?_ ?_
    · simp only [Vt,wk_nil,wk1,Vu,Vv,Vw,Z0,Z1,Z2,Z3,Z4,Z5,Z6,Z7,Z8,Z9,Za,Zb,Zc,Zd,Ze,Zf,List.cons.injEq,Zg,Zh,Zi,Zj,Zk,Zl,Zm,Zn,Zo,Zp,beq_self_eq_true,bne_self_eq_false,decide_true,decide_false,Zq,Zr,Zs,Zt,Zu,Zv,Zw,Zx,Zy,Zz,Y0,Y1,Y2,Y3,Y4,Y5,Y6,Y7,Y8,Y9,Ya,Yb,Yc,Yd,Ye,Yf,Yg,Yh,Yi,Yj,Yk,Yl,Ym,Yn,Yo,Yp,Yq,lk,ef,Yr,Ys,Yt,Yu,Yv,Yw,Yx,Yy,Yz,X0,X1,X2,X3,X4,X5,X6,X7,X8,X9,Xa,Xb,Xc,Xd,Xe,Xf,Xg,Xh,Xi,Xj,Xk,Xl,Xm,Xn,Xo,Xp,Xq,Xr,Xs,hv,Xt,ev,Xu,Xv,Xw,Xx,Xy,Xz,W0,W1,W2,W3,W4,W5,W6,W7,W8,W9,Wa,Wb,Wc,Wd,We,Wf,Wg,Wh,Wi,Wj,Wk,Wl,Wm,Wn,Wo,Wp,Wq,Wr,Ws,Wt,Value.oneCell',Wu,Wv,Ww,Wx,true_and,and_true,and_self,implies_true,Wy,Wz,V0,V1,false_implies,V2,V3,V4,V5,V6,V7,V8,V9,Va,Vb,Vc,Vd,Ve,Vf,Vg,Vh,Vi,reduceCtorEq,if_true,if_false,Vj,↓reduceIte,Vk,Vl,Vm,Vn,Vo,Vp,Vq,ne_eq,not_false_eq_true,not_true_eq_false,Vr,Nat.zero_ne_one]
      simp
    · exact ⟨Nat.zero_le _, by simp [prvS]⟩
    · rintro J hJ k ⟨hk, hg⟩
      simp only [Z0,Z1,Z2,Z3,Z4,Z5,Z6,Z7,Z8,Z9,Za,Zb,Zc,Zd,Ze,Zf,List.cons.injEq,Zg,Zh,Zi,Zj,Zk,Zl,Zm,Zn,Zo,Zp,beq_self_eq_true,bne_self_eq_false,decide_true,decide_false,Zq,Zr,Zs,Zt,Zu,Zv,Zw,Zx,Zy,Zz,Y0,Y1,Y2,Y3,Y4,Y5,Y6,Y7,Y8,Y9,Ya,Yb,Yc,Yd,Ye,Yf,Yg,Yh,Yi,Yj,Yk,Yl,Ym,Yn,Yo,Yp,Yq,lk,ef,Yr,Ys,Yt,Yu,Yv,Yw,Yx,Yy,Yz,X0,X1,X2,X3,X4,X5,X6,X7,X8,X9,Xa,Xb,Xc,Xd,Xe,Xf,Xg,Xh,Xi,Xj,Xk,Xl,Xm,Xn,Xo,Xp,Xq,Xr,Xs,hv,Xt,ev,Xu,Xv,Xw,Xx,Xy,Xz,W0,W1,W2,W3,W4,W5,W6,W7,W8,W9,Wa,Wb,Wc,Wd,We,Wf,Wg,Wh,Wi,Wj,Wk,Wl,Wm,Wn,Wo,Wp,Wq,Wr,Ws,Wt,Value.oneCell',Wu,Wv,Ww,Wx,true_and,and_true,and_self,implies_true,Wy,Wz,V0,V1,false_implies,V2,V3,V4,V5,V6,V7,V8,V9,Va,Vb,Vc,Vd,Ve,Vf,Vg,Vh,Vi,reduceCtorEq,if_true,if_false,Vj,↓reduceIte,Vk,Vl,Vm,Vn,Vo,Vp,Vq,ne_eq,not_false_eq_true,not_true_eq_false,Vr,Vs,r18_0,r18_1,r18_2,r18_3,r18_4,r18_6,r18_7,r18_8,r18_9,r18_10,r18_5,r18_11,r18_12,r18_13,r18_14,p18,l18_0]
      refine condD (fun h => ?_) (fun h => ?_)
      · have hlt : k < l.length := by omega
        have hr : smpGo none l = if badSmp l[k] then 1 else if (prvS l k).any fun q => l[k].time != q then 8 else smpGo (prvS l (k + 1)) (l.drop (k + 1)) := by
          rw [hg, List.drop_eq_getElem_cons hlt, smpGo, prvS_succ _ _ hlt]
        have hw := i_add1 k (by omega)
        clear hg
        rcases Nat.eq_zero_or_pos k with rfl | hp
        · repeat' first | ((with_reducible (first | refine condD ?_ ?_ | refine condE ?_ ?_ | refine condN ?_ ?_ | refine condI ?_ ?_ | refine condS ?_ ?_)) <;> intro h) | ((with_reducible (first | refine guardD (by with_unfolding_all rfl) ?_ ?_ | refine guardE (by with_unfolding_all rfl) ?_ ?_ | refine guardN (by with_unfolding_all rfl) ?_ ?_ | refine guardI (by with_unfolding_all rfl) ?_ ?_ | refine guardS (by with_unfolding_all rfl) ?_ ?_)) <;> intro h) | ((refine callG (istime_c _) ?_)) | ((refine callG (within_c _ _ _) ?_)) | (with_reducible refine And.intro ?_ ?_; omega) | (simp only [Z0,Z1,Z2,Z3,Z4,Z5,Z6,Z7,Z8,Z9,Za,Zb,Zc,Zd,Ze,Zf,List.cons.injEq,Zg,Zh,Zi,Zj,Zk,Zl,Zm,Zn,Zo,Zp,beq_self_eq_true,bne_self_eq_false,decide_true,decide_false,Zq,Zr,Zs,Zt,Zu,Zv,Zw,Zx,Zy,Zz,Y0,Y1,Y2,Y3,Y4,Y5,Y6,Y7,Y8,Y9,Ya,Yb,Yc,Yd,Ye,Yf,Yg,Yh,Yi,Yj,Yk,Yl,Ym,Yn,Yo,Yp,Yq,lk,ef,Yr,Ys,Yt,Yu,Yv,Yw,Yx,Yy,Yz,X0,X1,X2,X3,X4,X5,X6,X7,X8,X9,Xa,Xb,Xc,Xd,Xe,Xf,Xg,Xh,Xi,Xj,Xk,Xl,Xm,Xn,Xo,Xp,Xq,Xr,Xs,hv,Xt,ev,Xu,Xv,Xw,Xx,Xy,Xz,W0,W1,W2,W3,W4,W5,W6,W7,W8,W9,Wa,Wb,Wc,Wd,We,Wf,Wg,Wh,Wi,Wj,Wk,Wl,Wm,Wn,Wo,Wp,Wq,Wr,Ws,Wt,Value.oneCell',Wu,Wv,Ww,Wx,true_and,and_true,and_self,implies_true,Wy,Wz,V0,V1,false_implies,V2,V3,V4,V5,V6,V7,V8,V9,Va,Vb,Vc,Vd,Ve,Vf,Vg,Vh,Vi,reduceCtorEq,if_true,if_false,Vj,↓reduceIte,Vk,Vl,Vm,Vn,Vo,Vp,Vq,ne_eq,not_false_eq_true,not_true_eq_false,Vr,Vs,r18_0,r18_1,r18_2,r18_3,r18_4,r18_6,r18_7,r18_8,r18_9,r18_10,r18_5,r18_11,r18_12,r18_13,r18_14,p18,l18_0,Smp.av,getD_map hlt,Bool.not_not]) | (exfalso; omega)
          all_goals try (clear hJ; simp [hr0, hr, badSmp, prvS, *]; done)
          exact again hJ (0 + 1) (weak_mk (by simp only [Vt,wk_nil,wk1,Vu,Vv,Vw,Z0,Z1,Z2,Z3,Z4,Z5,Z6,Z7,Z8,Z9,Za,Zb,Zc,Zd,Ze,Zf,List.cons.injEq,Zg,Zh,Zi,Zj,Zk,Zl,Zm,Zn,Zo,Zp,beq_self_eq_true,bne_self_eq_false,decide_true,decide_false,Zq,Zr,Zs,Zt,Zu,Zv,Zw,Zx,Zy,Zz,Y0,Y1,Y2,Y3,Y4,Y5,Y6,Y7,Y8,Y9,Ya,Yb,Yc,Yd,Ye,Yf,Yg,Yh,Yi,Yj,Yk,Yl,Ym,Yn,Yo,Yp,Yq,lk,ef,Yr,Ys,Yt,Yu,Yv,Yw,Yx,Yy,Yz,X0,X1,X2,X3,X4,X5,X6,X7,X8,X9,Xa,Xb,Xc,Xd,Xe,Xf,Xg,Xh,Xi,Xj,Xk,Xl,Xm,Xn,Xo,Xp,Xq,Xr,Xs,hv,Xt,ev,Xu,Xv,Xw,Xx,Xy,Xz,W0,W1,W2,W3,W4,W5,W6,W7,W8,W9,Wa,Wb,Wc,Wd,We,Wf,Wg,Wh,Wi,Wj,Wk,Wl,Wm,Wn,Wo,Wp,Wq,Wr,Ws,Wt,Value.oneCell',Wu,Wv,Ww,Wx,true_and,and_true,and_self,implies_true,Wy,Wz,V0,V1,false_implies,V2,V3,V4,V5,V6,V7,V8,V9,Va,Vb,Vc,Vd,Ve,Vf,Vg,Vh,Vi,reduceCtorEq,if_true,if_false,Vj,↓reduceIte,Vk,Vl,Vm,Vn,Vo,Vp,Vq,ne_eq,not_false_eq_true,not_true_eq_false,Vr,Nat.zero_ne_one]; exact hw)) ⟨by omega, by simp [hr, badSmp, prvS, *, -hJ]⟩ (by omega)
        · have hlt1 : k - 1 < l.length := by omega
          have hw1 := i_sub1 k hp (by omega)
          have hpv : prvS l k = some l[k-1].endW := by simp [prvS, hlt1]; omega
          have he1 : IntKind.i64.wrap (l[k-1].time + l[k-1].step) = l[k-1].endW := rfl
          repeat' first | ((with_reducible (first | refine condD ?_ ?_ | refine condE ?_ ?_ | refine condN ?_ ?_ | refine condI ?_ ?_ | refine condS ?_ ?_)) <;> intro h) | ((with_reducible (first | refine guardD (by with_unfolding_all rfl) ?_ ?_ | refine guardE (by with_unfolding_all rfl) ?_ ?_ | refine guardN (by with_unfolding_all rfl) ?_ ?_ | refine guardI (by with_unfolding_all rfl) ?_ ?_ | refine guardS (by with_unfolding_all rfl) ?_ ?_)) <;> intro h) | ((refine callG (istime_c _) ?_)) | ((refine callG (within_c _ _ _) ?_)) | (with_reducible refine And.intro ?_ ?_; omega) | (simp only [Z0,Z1,Z2,Z3,Z4,Z5,Z6,Z7,Z8,Z9,Za,Zb,Zc,Zd,Ze,Zf,List.cons.injEq,Zg,Zh,Zi,Zj,Zk,Zl,Zm,Zn,Zo,Zp,beq_self_eq_true,bne_self_eq_false,decide_true,decide_false,Zq,Zr,Zs,Zt,Zu,Zv,Zw,Zx,Zy,Zz,Y0,Y1,Y2,Y3,Y4,Y5,Y6,Y7,Y8,Y9,Ya,Yb,Yc,Yd,Ye,Yf,Yg,Yh,Yi,Yj,Yk,Yl,Ym,Yn,Yo,Yp,Yq,lk,ef,Yr,Ys,Yt,Yu,Yv,Yw,Yx,Yy,Yz,X0,X1,X2,X3,X4,X5,X6,X7,X8,X9,Xa,Xb,Xc,Xd,Xe,Xf,Xg,Xh,Xi,Xj,Xk,Xl,Xm,Xn,Xo,Xp,Xq,Xr,Xs,hv,Xt,ev,Xu,Xv,Xw,Xx,Xy,Xz,W0,W1,W2,W3,W4,W5,W6,W7,W8,W9,Wa,Wb,Wc,Wd,We,Wf,Wg,Wh,Wi,Wj,Wk,Wl,Wm,Wn,Wo,Wp,Wq,Wr,Ws,Wt,Value.oneCell',Wu,Wv,Ww,Wx,true_and,and_true,and_self,implies_true,Wy,Wz,V0,V1,false_implies,V2,V3,V4,V5,V6,V7,V8,V9,Va,Vb,Vc,Vd,Ve,Vf,Vg,Vh,Vi,reduceCtorEq,if_true,if_false,Vj,↓reduceIte,Vk,Vl,Vm,Vn,Vo,Vp,Vq,ne_eq,not_false_eq_true,not_true_eq_false,Vr,Vs,r18_0,r18_1,r18_2,r18_3,r18_4,r18_6,r18_7,r18_8,r18_9,r18_10,r18_5,r18_11,r18_12,r18_13,r18_14,p18,l18_0,Smp.av,getD_map hlt,getD_map hlt1,hw1,he1,Bool.not_not]) | (exfalso; omega)
          all_goals try (clear hJ; simp [hr0, hr, badSmp, *]; done)
          exact again hJ (k + 1) (weak_mk (by simp only [Vt,wk_nil,wk1,Vu,Vv,Vw,Z0,Z1,Z2,Z3,Z4,Z5,Z6,Z7,Z8,Z9,Za,Zb,Zc,Zd,Ze,Zf,List.cons.injEq,Zg,Zh,Zi,Zj,Zk,Zl,Zm,Zn,Zo,Zp,beq_self_eq_true,bne_self_eq_false,decide_true,decide_false,Zq,Zr,Zs,Zt,Zu,Zv,Zw,Zx,Zy,Zz,Y0,Y1,Y2,Y3,Y4,Y5,Y6,Y7,Y8,Y9,Ya,Yb,Yc,Yd,Ye,Yf,Yg,Yh,Yi,Yj,Yk,Yl,Ym,Yn,Yo,Yp,Yq,lk,ef,Yr,Ys,Yt,Yu,Yv,Yw,Yx,Yy,Yz,X0,X1,X2,X3,X4,X5,X6,X7,X8,X9,Xa,Xb,Xc,Xd,Xe,Xf,Xg,Xh,Xi,Xj,Xk,Xl,Xm,Xn,Xo,Xp,Xq,Xr,Xs,hv,Xt,ev,Xu,Xv,Xw,Xx,Xy,Xz,W0,W1,W2,W3,W4,W5,W6,W7,W8,W9,Wa,Wb,Wc,Wd,We,Wf,Wg,Wh,Wi,Wj,Wk,Wl,Wm,Wn,Wo,Wp,Wq,Wr,Ws,Wt,Value.oneCell',Wu,Wv,Ww,Wx,true_and,and_true,and_self,implies_true,Wy,Wz,V0,V1,false_implies,V2,V3,V4,V5,V6,V7,V8,V9,Va,Vb,Vc,Vd,Ve,Vf,Vg,Vh,Vi,reduceCtorEq,if_true,if_false,Vj,↓reduceIte,Vk,Vl,Vm,Vn,Vo,Vp,Vq,ne_eq,not_false_eq_true,not_true_eq_false,Vr,Nat.zero_ne_one]; exact hw)) ⟨by omega, by rw [hr, if_neg (by simp only [badSmp, Bool.or_eq_true, not_or, Bool.not_eq_true]; refine ⟨⟨⟨?_, ?_⟩, ?_⟩, ?_⟩ <;> assumption), if_neg (by simpa [hpv] using h)]⟩ (by omega)
      · have hke : k = l.length := by omega
        subst hke
        have hz : smpGo none l = 0 := by rw [hg]; simp [smpGo]
        clear hg hJ
        rcases Nat.eq_zero_or_pos l.length with h0 | hp
        · have hn : l = [] := List.eq_nil_of_length_eq_zero h0
          subst hn
          repeat' first | ((with_reducible (first | refine condD ?_ ?_ | refine condE ?_ ?_ | refine condN ?_ ?_ | refine condI ?_ ?_ | refine condS ?_ ?_)) <;> intro h) | ((with_reducible (first | refine guardD (by with_unfolding_all rfl) ?_ ?_ | refine guardE (by with_unfolding_all rfl) ?_ ?_ | refine guardN (by with_unfolding_all rfl) ?_ ?_ | refine guardI (by with_unfolding_all rfl) ?_ ?_ | refine guardS (by with_unfolding_all rfl) ?_ ?_)) <;> intro h) | (with_reducible refine And.intro ?_ ?_; omega) | (simp only [Z0,Z1,Z2,Z3,Z4,Z5,Z6,Z7,Z8,Z9,Za,Zb,Zc,Zd,Ze,Zf,List.cons.injEq,Zg,Zh,Zi,Zj,Zk,Zl,Zm,Zn,Zo,Zp,beq_self_eq_true,bne_self_eq_false,decide_true,decide_false,Zq,Zr,Zs,Zt,Zu,Zv,Zw,Zx,Zy,Zz,Y0,Y1,Y2,Y3,Y4,Y5,Y6,Y7,Y8,Y9,Ya,Yb,Yc,Yd,Ye,Yf,Yg,Yh,Yi,Yj,Yk,Yl,Ym,Yn,Yo,Yp,Yq,lk,ef,Yr,Ys,Yt,Yu,Yv,Yw,Yx,Yy,Yz,X0,X1,X2,X3,X4,X5,X6,X7,X8,X9,Xa,Xb,Xc,Xd,Xe,Xf,Xg,Xh,Xi,Xj,Xk,Xl,Xm,Xn,Xo,Xp,Xq,Xr,Xs,hv,Xt,ev,Xu,Xv,Xw,Xx,Xy,Xz,W0,W1,W2,W3,W4,W5,W6,W7,W8,W9,Wa,Wb,Wc,Wd,We,Wf,Wg,Wh,Wi,Wj,Wk,Wl,Wm,Wn,Wo,Wp,Wq,Wr,Ws,Wt,Value.oneCell',Wu,Wv,Ww,Wx,true_and,and_true,and_self,implies_true,Wy,Wz,V0,V1,false_implies,V2,V3,V4,V5,V6,V7,V8,V9,Va,Vb,Vc,Vd,Ve,Vf,Vg,Vh,Vi,reduceCtorEq,if_true,if_false,Vj,↓reduceIte,Vk,Vl,Vm,Vn,Vo,Vp,Vq,ne_eq,not_false_eq_true,not_true_eq_false,Vr,Vs,r18_0,r18_1,r18_2,r18_3,r18_4,r18_6,r18_7,r18_8,r18_9,r18_10,r18_5,r18_11,r18_12,r18_13,r18_14,p18,l18_0,V3,Int.natCast_zero]) | (exfalso; omega)
          all_goals simp [hr0, hz]
        · have hlt1 : l.length - 1 < l.length := by omega
          have hw1 := i_sub1 l.length hp (by omega)
          have he1 : IntKind.i64.wrap (l[l.length-1].time + l[l.length-1].step) = l[l.length-1].endW := rfl
          have hlast : l.getLast? = some l[l.length-1] := by rw [List.getLast?_eq_getElem?, List.getElem?_eq_getElem hlt1]
          repeat' first | ((with_reducible (first | refine condD ?_ ?_ | refine condE ?_ ?_ | refine condN ?_ ?_ | refine condI ?_ ?_ | refine condS ?_ ?_)) <;> intro h) | ((with_reducible (first | refine guardD (by with_unfolding_all rfl) ?_ ?_ | refine guardE (by with_unfolding_all rfl) ?_ ?_ | refine guardN (by with_unfolding_all rfl) ?_ ?_ | refine guardI (by with_unfolding_all rfl) ?_ ?_ | refine guardS (by with_unfolding_all rfl) ?_ ?_)) <;> intro h) | ((refine callG (istime_c _) ?_)) | (with_reducible refine And.intro ?_ ?_; omega) | (simp only [Z0,Z1,Z2,Z3,Z4,Z5,Z6,Z7,Z8,Z9,Za,Zb,Zc,Zd,Ze,Zf,List.cons.injEq,Zg,Zh,Zi,Zj,Zk,Zl,Zm,Zn,Zo,Zp,beq_self_eq_true,bne_self_eq_false,decide_true,decide_false,Zq,Zr,Zs,Zt,Zu,Zv,Zw,Zx,Zy,Zz,Y0,Y1,Y2,Y3,Y4,Y5,Y6,Y7,Y8,Y9,Ya,Yb,Yc,Yd,Ye,Yf,Yg,Yh,Yi,Yj,Yk,Yl,Ym,Yn,Yo,Yp,Yq,lk,ef,Yr,Ys,Yt,Yu,Yv,Yw,Yx,Yy,Yz,X0,X1,X2,X3,X4,X5,X6,X7,X8,X9,Xa,Xb,Xc,Xd,Xe,Xf,Xg,Xh,Xi,Xj,Xk,Xl,Xm,Xn,Xo,Xp,Xq,Xr,Xs,hv,Xt,ev,Xu,Xv,Xw,Xx,Xy,Xz,W0,W1,W2,W3,W4,W5,W6,W7,W8,W9,Wa,Wb,Wc,Wd,We,Wf,Wg,Wh,Wi,Wj,Wk,Wl,Wm,Wn,Wo,Wp,Wq,Wr,Ws,Wt,Value.oneCell',Wu,Wv,Ww,Wx,true_and,and_true,and_self,implies_true,Wy,Wz,V0,V1,false_implies,V2,V3,V4,V5,V6,V7,V8,V9,Va,Vb,Vc,Vd,Ve,Vf,Vg,Vh,Vi,reduceCtorEq,if_true,if_false,Vj,↓reduceIte,Vk,Vl,Vm,Vn,Vo,Vp,Vq,ne_eq,not_false_eq_true,not_true_eq_false,Vr,Vs,r18_0,r18_1,r18_2,r18_3,r18_4,r18_6,r18_7,r18_8,r18_9,r18_10,r18_5,r18_11,r18_12,r18_13,r18_14,p18,l18_0,Smp.av,getD_map hlt1,hw1,he1,Bool.not_not]) | (exfalso; omega)
          all_goals simp [hr0, hz, hlast, *]
/-! headend/headendref3.present -/
def r31_0 : List POp := [⟨1, .boxs (.t 0), none⟩,
  ⟨2, .asg (.c (.int .i64 0)), none⟩]
def r31_1 : List POp := [⟨3, .fld 0 (.t 1), none⟩,
  ⟨4, .load (.t 3), none⟩,
  ⟨5, .fld 2 (.t 1), none⟩,
  ⟨6, .load (.t 5), none⟩,
  ⟨7, .bin .add (.t 4) (.t 6), none⟩,
  ⟨2, .asg (.t 7), none⟩]
def p31 : PCode := .seq (.ops r31_0) (.seq (.ops r31_1) (.ret))
theorem ok31 : okFunc Try.prog 31 [.t 2] 1 p31 = true := by kernel_rfl
theorem present_c (s : Smp) (h : badSmp s = false) : CallOK Try.prog 31 [.agg s.av] (.val (.int .i64 (s.time + s.shift))) := by
  refine call_of mixed ok31 rfl ?_
  have b := badSmp_bd h
  have w : IntKind.i64.wrap (s.time + s.shift) = s.time + s.shift := wrap_in (by omega) (by omega)
  repeat' first | ((with_reducible (first | refine condD ?_ ?_ | refine condE ?_ ?_ | refine condN ?_ ?_ | refine condI ?_ ?_ | refine condS ?_ ?_)) <;> intro h) | ((with_reducible (first | refine guardD (by with_unfolding_all rfl) ?_ ?_ | refine guardE (by with_unfolding_all rfl) ?_ ?_ | refine guardN (by with_unfolding_all rfl) ?_ ?_ | refine guardI (by with_unfolding_all rfl) ?_ ?_ | refine guardS (by with_unfolding_all rfl) ?_ ?_)) <;> intro h) | (with_reducible refine And.intro ?_ ?_; omega) | (simp only [Z0,Z1,Z2,Z3,Z4,Z5,Z6,Z7,Z8,Z9,Za,Zb,Zc,Zd,Ze,Zf,List.cons.injEq,Zg,Zh,Zi,Zj,Zk,Zl,Zm,Zn,Zo,Zp,beq_self_eq_true,bne_self_eq_false,decide_true,decide_false,Zq,Zr,Zs,Zt,Zu,Zv,Zw,Zx,Zy,Zz,Y0,Y1,Y2,Y3,Y4,Y5,Y6,Y7,Y8,Y9,Ya,Yb,Yc,Yd,Ye,Yf,Yg,Yh,Yi,Yj,Yk,Yl,Ym,Yn,Yo,Yp,Yq,lk,ef,Yr,Ys,Yt,Yu,Yv,Yw,Yx,Yy,Yz,X0,X1,X2,X3,X4,X5,X6,X7,X8,X9,Xa,Xb,Xc,Xd,Xe,Xf,Xg,Xh,Xi,Xj,Xk,Xl,Xm,Xn,Xo,Xp,Xq,Xr,Xs,hv,Xt,ev,Xu,Xv,Xw,Xx,Xy,Xz,W0,W1,W2,W3,W4,W5,W6,W7,W8,W9,Wa,Wb,Wc,Wd,We,Wf,Wg,Wh,Wi,Wj,Wk,Wl,Wm,Wn,Wo,Wp,Wq,Wr,Ws,Wt,Value.oneCell',Wu,Wv,Ww,Wx,true_and,and_true,and_self,implies_true,Wy,Wz,V0,V1,false_implies,V2,V3,V4,V5,V6,V7,V8,V9,Va,Vb,Vc,Vd,Ve,Vf,Vg,Vh,Vi,reduceCtorEq,if_true,if_false,Vj,↓reduceIte,Vk,Vl,Vm,Vn,Vo,Vp,Vq,ne_eq,not_false_eq_true,not_true_eq_false,Vr,Vs,r31_0,r31_1,p31,Smp.av,w]) | (exfalso; omega)
end Go.Proofs.Ytbdcnooafacldaa
