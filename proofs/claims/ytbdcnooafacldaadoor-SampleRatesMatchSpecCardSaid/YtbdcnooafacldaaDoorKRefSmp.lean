/- The reference's samples: CheckSamples, present, moved, right, Tight, by the machine on data. -/
import Derived.Test.YtbdcnooafacldaaDoorKMoved
import Derived.Test.YtbdcnooafacldaaDoorKSlc
namespace Go.Proofs.YtbdcnooafacldaaDoor
open Go.RowKit
open Go.Proofs.YtbdcnooafacldaaDoor renaming done_eq → Z0, done_eq' → Z1, donet_eq → Z2, donet_eq' → Z3, fin_val → Z4, fin_tup → Z5, fin_agg → Z6, fin_ro → Z7, res_one → Z8, res_more → Z9, rv_t → Za, rv_c → Zb, rv_l → Zc, int_eq → Zg, bool_eq → Zh, toNat_pred → Zr, toNat_succ → Zs, cnd_t → Zu, cnd_f → Zv, grd_tt → Zw, grd_u → Zx, grd_tf → Zy, grd_ft → Zz, grd_ff → Y0, g_skip → Y1, g_ops → Y2, g_seq → Y3, g_block → Y4, g_exit → Y5, g_ret → Y6, g_nil → Y7, r_all → Y8, o_nil → Y9, g_cond → Ya, o_guard → Yb, o_call → Yc, o_callm → Yd, o_callt → Ye, o_callx → Yf, o_callv → Yg, o_mv → Yh, o_pick → Yi, o_bin → Yj, o_never → Yk, o_eqs → Yl, o_eqb → Ym, o_un → Yn, o_conv → Yo, o_load → Yp, o_loadr → Yq, o_idxr → Yr, o_loads → Ys, o_fld → Yt, o_idx → Yu, o_idxs → Yv, o_len → Yw, o_lens → Yx, o_ext → Yy, o_nilck → Yz, o_slc → X0, o_slcs → X1, o_build → X2, o_minmax → X3, o_mkfn → X4, o_alloc → X5, o_box → X6, o_boxs → X7, o_row → X8, o_rowr → X9, o_mk → Xa, o_asg → Xb, o_app → Xc, o_store → Xd, o_stores → Xe, o_eqnil → Xf, eqAV → Xg, view_t → Xh, view_c → Xi, view_nil → Xj, view_fn → Xk, look_own → Xl, look_box → Xm, look_junk → Xn, look_val → Xo, look_nilsl → Xp, look_ro → Xq, look_roAt → Xr, look_agg → Xs, look_tup → Xt, look_clo → Xu, look_alias → Xv, look_ref → Xw, look_into → Xx, rowOf → Xy, cellsOf → Xz, argv → W0, vbin → W1, elemOf → W2, putParts → W3, setAt → W4, put_at → Wb, mk_at → Wc, mk_nil → Wd, initSt → We, wk_cons → V9, vint_eq → Va, vbool_eq → Vb
open Go.Proofs.YtbdcnooafacldaaDoor.AV.tup renaming injEq → Zd
open Go.Proofs.YtbdcnooafacldaaDoor.AV.agg renaming injEq → Ze
open Go.Proofs.YtbdcnooafacldaaDoor.AV.ro renaming injEq → Zf
open _root_.Int renaming toNat_natCast → Zi, reduceToNat → Zj, toNat_zero → Zk, toNat_one → Zl, reduceLE → Zm, reduceLT → Zn, reduceBEq → Zo, reduceBNe → Zp, reduceNeg → Zq
open _root_.List renaming length_map → Zt, map_cons → Wf, map_nil → Wg, forall_mem_cons → Wh, not_mem_nil → Wi, length_cons → Wj, length_nil → Wk, getD_cons_zero → Wl, getD_cons_succ → Wm, getD_nil → Wn, drop_succ_cons → Wo, drop_zero → Wp, take_succ_cons → Wq, take_zero → Wr, set_cons_zero → Ws, set_cons_succ → Wt, all_cons → Wu, all_nil → Wv
open Go.Proofs.YtbdcnooafacldaaDoor.ASt renaming rid → W5, free → W6
open Go.Proofs.YtbdcnooafacldaaDoor.AV renaming kill → W7, isHome → W8, noLoan → W9, cellOK → Wa
open _root_.Bool renaming and_true → Ww, true_and → Wx, not_true → Wy, not_false → Wz, false_eq_true → V0
open _root_.Nat renaming reduceEqDiff → V1, reduceAdd → V2, reduceSub → V3, reduceMul → V4, reduceLeDiff → V5, reduceLT → V6, one_ne_zero → V7, zero_ne_one → V8
open Go.Proofs.YtbdcnooafacldaaDoor.AV.val renaming injEq → Vc
set_option linter.unusedSimpArgs false
--@short

/-! headend/headendref2.within -/
def r57_0 : List POp := [⟨6, .asg (.c (.bool false)), none⟩]
def r57_1 : List POp := [⟨7, .mv (.t 0), none⟩,
  ⟨8, .mv (.t 1), none⟩,
  ⟨9, .bin .geq (.t 7) (.t 8), none⟩,
  ⟨10, .mv (.t 9), none⟩,
  ⟨11, .mv (.t 0), some (10, true)⟩,
  ⟨12, .mv (.t 2), some (10, true)⟩,
  ⟨13, .bin .leq (.t 11) (.t 12), some (10, true)⟩,
  ⟨14, .pick (.t 10) (.t 13) (.c (.bool false)), none⟩,
  ⟨6, .asg (.t 14), none⟩]
def p57 : PCode := .seq (.ops r57_0) (.seq (.ops r57_1) (.ret))
theorem ok57 : okFunc Tryd.prog 57 [.t 6] 3 p57 = true := by kernel_rfl
theorem within_c (n low high : Int) : CallOK Tryd.prog 57 [.val (.int .i64 n), .val (.int .i64 low), .val (.int .i64 high)] (.val (.bool (!outB n low high))) := by
  refine call_of mixed ok57 rfl ?_
  repeat' first | ((with_reducible (first | refine condD ?_ ?_ | refine condE ?_ ?_ | refine condN ?_ ?_ | refine condI ?_ ?_ | refine condS ?_ ?_)) <;> intro h) | ((with_reducible (first | refine guardD (by with_unfolding_all rfl) ?_ ?_ | refine guardE (by with_unfolding_all rfl) ?_ ?_ | refine guardN (by with_unfolding_all rfl) ?_ ?_ | refine guardI (by with_unfolding_all rfl) ?_ ?_ | refine guardS (by with_unfolding_all rfl) ?_ ?_)) <;> intro h) | (with_reducible refine And.intro ?_ ?_; omega) | (simp only [Z0,Z1,Z2,Z3,Z4,Z5,Z6,Z7,Z8,Z9,Za,Zb,Zc,Zd,Ze,Zf,List.cons.injEq,Zg,Zh,Zi,Zj,Zk,Zl,Zm,Zn,Zo,Zp,beq_self_eq_true,bne_self_eq_false,decide_true,decide_false,Zq,Zr,Zs,Zt,Zu,Zv,Zw,Zx,Zy,Zz,Y0,Y1,Y2,Y3,Y4,Y5,Y6,x_c,x_o,x_l,x_b,g_b,Y7,Y8,Y9,Ya,Yb,Yc,Yd,Ye,Yf,Yg,lk,ef,Yh,Yi,Yj,Yk,Yl,Ym,Yn,Yo,Yp,Yq,Yr,Ys,Yt,Yu,Yv,Yw,Yx,Yy,Yz,X0,X1,X2,X3,X4,X5,X6,X7,X8,X9,Xa,Xb,Xc,Xd,Xe,Xf,hv,Xg,ev,Xh,Xi,Xj,Xk,Xl,Xm,Xn,Xo,Xp,Xq,Xr,Xs,Xt,Xu,Xv,Xw,Xx,Xy,Xz,W0,W1,vun,bnd,W2,W3,W4,zav,W5,W6,W7,W8,W9,Wa,Value.oneCell',Wb,Wc,Wd,We,true_and,and_true,and_self,implies_true,Wf,Wg,Wh,Wi,false_implies,Wj,Wk,Wl,Wm,Wn,Wo,Wp,Wq,Wr,Ws,Wt,Wu,Wv,Ww,Wx,Wy,Wz,reduceCtorEq,if_true,if_false,V0,↓reduceIte,V1,V2,V3,V4,V5,V6,ne_eq,not_false_eq_true,not_true_eq_false,V7,V8,r57_0,r57_1,p57]) | (exfalso; omega)
  all_goals
    cases hh : outB n low high
    · have := outB_f hh
      first | (simp; done) | (simp; omega) | (exfalso; omega)
    · have := outB_t hh
      first | (simp; done) | (simp; omega) | (exfalso; omega)
/-! headend/headendref2.CheckSamples -/
def r39_0 : List POp := [⟨2, .asg (.c (.int .i64 0)), none⟩]
def r39_1 : List POp := [⟨6, .mv (.t 0), none⟩,
  ⟨7, .len (.t 6), none⟩,
  ⟨8, .bin .gtr (.t 7) (.c (.int .i64 5000)), none⟩]
def r39_2 : List POp := [⟨2, .asg (.c (.int .i64 2)), none⟩]
def r39_3 : List POp := [⟨3, .asg (.c (.int .i64 0)), none⟩]
def r39_4 : List POp := [⟨9, .mv (.t 3), none⟩,
  ⟨10, .mv (.t 0), none⟩,
  ⟨11, .len (.t 10), none⟩,
  ⟨12, .bin .lss (.t 9) (.t 11), none⟩]
def r39_6 : List POp := [⟨15, .mv (.t 0), none⟩,
  ⟨16, .mv (.t 3), none⟩,
  ⟨17, .idx 5 (.t 15) (.t 16), none⟩,
  ⟨18, .loads 5 (.t 17), none⟩,
  ⟨4, .alloc [.int .i64 0, .int .i64 0, .int .i64 0, .int .i64 0, .bool false], none⟩,
  ⟨0, .stores 5 (.t 4) (.t 18), none⟩]
def r39_7 : List POp := [⟨19, .fld 0 (.t 4), none⟩,
  ⟨20, .load (.t 19), none⟩,
  ⟨21, .call 56 [.t 20], none⟩,
  ⟨22, .un .not (.t 21), none⟩,
  ⟨23, .mv (.t 22), none⟩,
  ⟨24, .fld 1 (.t 4), some (23, false)⟩,
  ⟨25, .load (.t 24), some (23, false)⟩,
  ⟨26, .call 57 [.t 25, .c (.int .i64 0), .c (.int .i64 1000000000)], some (23, false)⟩,
  ⟨27, .un .not (.t 26), some (23, false)⟩,
  ⟨28, .pick (.t 23) (.c (.bool true)) (.t 27), none⟩,
  ⟨29, .mv (.t 28), none⟩,
  ⟨30, .fld 2 (.t 4), some (29, false)⟩,
  ⟨31, .load (.t 30), some (29, false)⟩,
  ⟨32, .call 57 [.t 31, .c (.int .i64 (-1000000000)), .c (.int .i64 1000000000)], some (29, false)⟩,
  ⟨33, .un .not (.t 32), some (29, false)⟩,
  ⟨34, .pick (.t 29) (.c (.bool true)) (.t 33), none⟩,
  ⟨35, .mv (.t 34), none⟩,
  ⟨36, .fld 3 (.t 4), some (35, false)⟩,
  ⟨37, .load (.t 36), some (35, false)⟩,
  ⟨38, .call 57 [.t 37, .c (.int .i64 0), .c (.int .i64 100000)], some (35, false)⟩,
  ⟨39, .un .not (.t 38), some (35, false)⟩,
  ⟨40, .pick (.t 35) (.c (.bool true)) (.t 39), none⟩]
def r39_8 : List POp := [⟨2, .asg (.c (.int .i64 1)), none⟩]
def r39_9 : List POp := [⟨41, .mv (.t 3), none⟩,
  ⟨42, .bin .gtr (.t 41) (.c (.int .i64 0)), none⟩,
  ⟨43, .mv (.t 42), none⟩,
  ⟨44, .fld 0 (.t 4), some (43, true)⟩,
  ⟨45, .load (.t 44), some (43, true)⟩,
  ⟨46, .mv (.t 0), some (43, true)⟩,
  ⟨47, .mv (.t 3), some (43, true)⟩,
  ⟨48, .bin .sub (.t 47) (.c (.int .i64 1)), some (43, true)⟩,
  ⟨49, .idx 5 (.t 46) (.t 48), some (43, true)⟩,
  ⟨50, .fld 0 (.t 49), some (43, true)⟩,
  ⟨51, .load (.t 50), some (43, true)⟩,
  ⟨52, .mv (.t 0), some (43, true)⟩,
  ⟨53, .mv (.t 3), some (43, true)⟩,
  ⟨54, .bin .sub (.t 53) (.c (.int .i64 1)), some (43, true)⟩,
  ⟨55, .idx 5 (.t 52) (.t 54), some (43, true)⟩,
  ⟨56, .fld 1 (.t 55), some (43, true)⟩,
  ⟨57, .load (.t 56), some (43, true)⟩,
  ⟨58, .bin .add (.t 51) (.t 57), some (43, true)⟩,
  ⟨59, .bin .neq (.t 45) (.t 58), some (43, true)⟩,
  ⟨60, .pick (.t 43) (.t 59) (.c (.bool false)), none⟩]
def r39_10 : List POp := [⟨2, .asg (.c (.int .i64 8)), none⟩]
def r39_5 : List POp := [⟨13, .mv (.t 3), none⟩,
  ⟨14, .bin .add (.t 13) (.c (.int .i64 1)), none⟩,
  ⟨3, .asg (.t 14), none⟩]
def r39_11 : List POp := [⟨61, .mv (.t 0), none⟩,
  ⟨62, .len (.t 61), none⟩,
  ⟨5, .asg (.t 62), none⟩]
def r39_12 : List POp := [⟨63, .mv (.t 5), none⟩,
  ⟨64, .bin .gtr (.t 63) (.c (.int .i64 0)), none⟩,
  ⟨65, .mv (.t 64), none⟩,
  ⟨66, .mv (.t 0), some (65, true)⟩,
  ⟨67, .mv (.t 5), some (65, true)⟩,
  ⟨68, .bin .sub (.t 67) (.c (.int .i64 1)), some (65, true)⟩,
  ⟨69, .idx 5 (.t 66) (.t 68), some (65, true)⟩,
  ⟨70, .fld 0 (.t 69), some (65, true)⟩,
  ⟨71, .load (.t 70), some (65, true)⟩,
  ⟨72, .mv (.t 0), some (65, true)⟩,
  ⟨73, .mv (.t 5), some (65, true)⟩,
  ⟨74, .bin .sub (.t 73) (.c (.int .i64 1)), some (65, true)⟩,
  ⟨75, .idx 5 (.t 72) (.t 74), some (65, true)⟩,
  ⟨76, .fld 1 (.t 75), some (65, true)⟩,
  ⟨77, .load (.t 76), some (65, true)⟩,
  ⟨78, .bin .add (.t 71) (.t 77), some (65, true)⟩,
  ⟨79, .call 56 [.t 78], some (65, true)⟩,
  ⟨80, .un .not (.t 79), some (65, true)⟩,
  ⟨81, .pick (.t 65) (.t 80) (.c (.bool false)), none⟩]
def r39_13 : List POp := [⟨2, .asg (.c (.int .i64 1)), none⟩]
def r39_14 : List POp := [⟨2, .asg (.c (.int .i64 0)), none⟩]
def l39_0 : PCode := .seq (.seq (.ops r39_4) (.cond (.t 12) (.skip) (.exit 0))) (.seq (.block 1 (.seq (.ops r39_6) (.seq (.seq (.ops r39_7) (.cond (.t 40) (.seq (.ops r39_8) (.ret)) (.skip))) (.seq (.ops r39_9) (.cond (.t 60) (.seq (.ops r39_10) (.ret)) (.skip)))))) (.ops r39_5))
def p39 : PCode := .seq (.ops r39_0) (.seq (.seq (.ops r39_1) (.cond (.t 8) (.seq (.ops r39_2) (.ret)) (.skip))) (.seq (.seq (.ops r39_3) (.block 0 (.loop l39_0))) (.seq (.seq (.ops r39_11) (.seq (.ops r39_12) (.cond (.t 81) (.seq (.ops r39_13) (.ret)) (.skip)))) (.seq (.ops r39_14) (.ret)))))
theorem ok39 : okFunc Tryd.prog 39 [.t 2] 1 p39 = true := by kernel_rfl
theorem refsmp_c (l : List Smp) : CallOK Tryd.prog 39 [.ro (l.map Smp.av)] (.val (.int .i64 (smpF l))) := by
  refine call_of mixed ok39 rfl ?_
  repeat' first | ((with_reducible (first | refine condD ?_ ?_ | refine condE ?_ ?_ | refine condN ?_ ?_ | refine condI ?_ ?_ | refine condS ?_ ?_)) <;> intro h) | ((with_reducible (first | refine guardD (by with_unfolding_all rfl) ?_ ?_ | refine guardE (by with_unfolding_all rfl) ?_ ?_ | refine guardN (by with_unfolding_all rfl) ?_ ?_ | refine guardI (by with_unfolding_all rfl) ?_ ?_ | refine guardS (by with_unfolding_all rfl) ?_ ?_)) <;> intro h) | (with_reducible refine And.intro ?_ ?_; omega) | (simp only [Z0,Z1,Z2,Z3,Z4,Z5,Z6,Z7,Z8,Z9,Za,Zb,Zc,Zd,Ze,Zf,List.cons.injEq,Zg,Zh,Zi,Zj,Zk,Zl,Zm,Zn,Zo,Zp,beq_self_eq_true,bne_self_eq_false,decide_true,decide_false,Zq,Zr,Zs,Zt,Zu,Zv,Zw,Zx,Zy,Zz,Y0,Y1,Y2,Y3,Y4,Y5,Y6,x_c,x_o,x_l,x_b,g_b,Y7,Y8,Y9,Ya,Yb,Yc,Yd,Ye,Yf,Yg,lk,ef,Yh,Yi,Yj,Yk,Yl,Ym,Yn,Yo,Yp,Yq,Yr,Ys,Yt,Yu,Yv,Yw,Yx,Yy,Yz,X0,X1,X2,X3,X4,X5,X6,X7,X8,X9,Xa,Xb,Xc,Xd,Xe,Xf,hv,Xg,ev,Xh,Xi,Xj,Xk,Xl,Xm,Xn,Xo,Xp,Xq,Xr,Xs,Xt,Xu,Xv,Xw,Xx,Xy,Xz,W0,W1,vun,bnd,W2,W3,W4,zav,W5,W6,W7,W8,W9,Wa,Value.oneCell',Wb,Wc,Wd,We,true_and,and_true,and_self,implies_true,Wf,Wg,Wh,Wi,false_implies,Wj,Wk,Wl,Wm,Wn,Wo,Wp,Wq,Wr,Ws,Wt,Wu,Wv,Ww,Wx,Wy,Wz,reduceCtorEq,if_true,if_false,V0,↓reduceIte,V1,V2,V3,V4,V5,V6,ne_eq,not_false_eq_true,not_true_eq_false,V7,V8,r39_0,r39_1,r39_2,r39_3,r39_4,r39_6,r39_7,r39_8,r39_9,r39_10,r39_5,r39_11,r39_12,r39_13,r39_14,p39]) | (exfalso; omega)
  · rw [smpF, if_pos (by omega)]
  · have hl : l.length ≤ 5000 := by omega
    have hr0 : smpF l = if smpGo none l ≠ 0 then smpGo none l else if l.getLast?.any fun s => noTime s.endW then 1 else 0 := if_neg (by omega)
    refine loopS (fun k : Nat => mk [(0, .ro (l.map Smp.av)), (3, .val (.int .i64 k))]) (fun k => k ≤ l.length ∧ smpGo none l = smpGo (prvS l k) (l.drop k)) (fun k => l.length - k) 0 (weak_mk ?_) ?_ ?_
    · simp only [V9,wk_nil,wk1,Va,Vb,Vc,Z0,Z1,Z2,Z3,Z4,Z5,Z6,Z7,Z8,Z9,Za,Zb,Zc,Zd,Ze,Zf,List.cons.injEq,Zg,Zh,Zi,Zj,Zk,Zl,Zm,Zn,Zo,Zp,beq_self_eq_true,bne_self_eq_false,decide_true,decide_false,Zq,Zr,Zs,Zt,Zu,Zv,Zw,Zx,Zy,Zz,Y0,Y1,Y2,Y3,Y4,Y5,Y6,x_c,x_o,x_l,x_b,g_b,Y7,Y8,Y9,Ya,Yb,Yc,Yd,Ye,Yf,Yg,lk,ef,Yh,Yi,Yj,Yk,Yl,Ym,Yn,Yo,Yp,Yq,Yr,Ys,Yt,Yu,Yv,Yw,Yx,Yy,Yz,X0,X1,X2,X3,X4,X5,X6,X7,X8,X9,Xa,Xb,Xc,Xd,Xe,Xf,hv,Xg,ev,Xh,Xi,Xj,Xk,Xl,Xm,Xn,Xo,Xp,Xq,Xr,Xs,Xt,Xu,Xv,Xw,Xx,Xy,Xz,W0,W1,vun,bnd,W2,W3,W4,zav,W5,W6,W7,W8,W9,Wa,Value.oneCell',Wb,Wc,Wd,We,true_and,and_true,and_self,implies_true,Wf,Wg,Wh,Wi,false_implies,Wj,Wk,Wl,Wm,Wn,Wo,Wp,Wq,Wr,Ws,Wt,Wu,Wv,Ww,Wx,Wy,Wz,reduceCtorEq,if_true,if_false,V0,↓reduceIte,V1,V2,V3,V4,V5,V6,ne_eq,not_false_eq_true,not_true_eq_false,V7,Nat.zero_ne_one]
      simp
    · exact ⟨Nat.zero_le _, by simp [prvS]⟩
    · rintro J hJ k ⟨hk, hg⟩
      simp only [Z0,Z1,Z2,Z3,Z4,Z5,Z6,Z7,Z8,Z9,Za,Zb,Zc,Zd,Ze,Zf,List.cons.injEq,Zg,Zh,Zi,Zj,Zk,Zl,Zm,Zn,Zo,Zp,beq_self_eq_true,bne_self_eq_false,decide_true,decide_false,Zq,Zr,Zs,Zt,Zu,Zv,Zw,Zx,Zy,Zz,Y0,Y1,Y2,Y3,Y4,Y5,Y6,x_c,x_o,x_l,x_b,g_b,Y7,Y8,Y9,Ya,Yb,Yc,Yd,Ye,Yf,Yg,lk,ef,Yh,Yi,Yj,Yk,Yl,Ym,Yn,Yo,Yp,Yq,Yr,Ys,Yt,Yu,Yv,Yw,Yx,Yy,Yz,X0,X1,X2,X3,X4,X5,X6,X7,X8,X9,Xa,Xb,Xc,Xd,Xe,Xf,hv,Xg,ev,Xh,Xi,Xj,Xk,Xl,Xm,Xn,Xo,Xp,Xq,Xr,Xs,Xt,Xu,Xv,Xw,Xx,Xy,Xz,W0,W1,vun,bnd,W2,W3,W4,zav,W5,W6,W7,W8,W9,Wa,Value.oneCell',Wb,Wc,Wd,We,true_and,and_true,and_self,implies_true,Wf,Wg,Wh,Wi,false_implies,Wj,Wk,Wl,Wm,Wn,Wo,Wp,Wq,Wr,Ws,Wt,Wu,Wv,Ww,Wx,Wy,Wz,reduceCtorEq,if_true,if_false,V0,↓reduceIte,V1,V2,V3,V4,V5,V6,ne_eq,not_false_eq_true,not_true_eq_false,V7,V8,r39_0,r39_1,r39_2,r39_3,r39_4,r39_6,r39_7,r39_8,r39_9,r39_10,r39_5,r39_11,r39_12,r39_13,r39_14,p39,l39_0]
      refine condD (fun h => ?_) (fun h => ?_)
      · have hlt : k < l.length := by omega
        have hr : smpGo none l = if badSmp l[k] then 1 else if (prvS l k).any fun q => l[k].time != q then 8 else smpGo (prvS l (k + 1)) (l.drop (k + 1)) := by
          rw [hg, List.drop_eq_getElem_cons hlt, smpGo, prvS_succ _ _ hlt]
        have hw := i_add1 k (by omega)
        clear hg
        rcases Nat.eq_zero_or_pos k with rfl | hp
        · repeat' first | ((with_reducible (first | refine condD ?_ ?_ | refine condE ?_ ?_ | refine condN ?_ ?_ | refine condI ?_ ?_ | refine condS ?_ ?_)) <;> intro h) | ((with_reducible (first | refine guardD (by with_unfolding_all rfl) ?_ ?_ | refine guardE (by with_unfolding_all rfl) ?_ ?_ | refine guardN (by with_unfolding_all rfl) ?_ ?_ | refine guardI (by with_unfolding_all rfl) ?_ ?_ | refine guardS (by with_unfolding_all rfl) ?_ ?_)) <;> intro h) | ((refine callG (istime_c _) ?_)) | ((refine callG (within_c _ _ _) ?_)) | (with_reducible refine And.intro ?_ ?_; omega) | (simp only [Z0,Z1,Z2,Z3,Z4,Z5,Z6,Z7,Z8,Z9,Za,Zb,Zc,Zd,Ze,Zf,List.cons.injEq,Zg,Zh,Zi,Zj,Zk,Zl,Zm,Zn,Zo,Zp,beq_self_eq_true,bne_self_eq_false,decide_true,decide_false,Zq,Zr,Zs,Zt,Zu,Zv,Zw,Zx,Zy,Zz,Y0,Y1,Y2,Y3,Y4,Y5,Y6,x_c,x_o,x_l,x_b,g_b,Y7,Y8,Y9,Ya,Yb,Yc,Yd,Ye,Yf,Yg,lk,ef,Yh,Yi,Yj,Yk,Yl,Ym,Yn,Yo,Yp,Yq,Yr,Ys,Yt,Yu,Yv,Yw,Yx,Yy,Yz,X0,X1,X2,X3,X4,X5,X6,X7,X8,X9,Xa,Xb,Xc,Xd,Xe,Xf,hv,Xg,ev,Xh,Xi,Xj,Xk,Xl,Xm,Xn,Xo,Xp,Xq,Xr,Xs,Xt,Xu,Xv,Xw,Xx,Xy,Xz,W0,W1,vun,bnd,W2,W3,W4,zav,W5,W6,W7,W8,W9,Wa,Value.oneCell',Wb,Wc,Wd,We,true_and,and_true,and_self,implies_true,Wf,Wg,Wh,Wi,false_implies,Wj,Wk,Wl,Wm,Wn,Wo,Wp,Wq,Wr,Ws,Wt,Wu,Wv,Ww,Wx,Wy,Wz,reduceCtorEq,if_true,if_false,V0,↓reduceIte,V1,V2,V3,V4,V5,V6,ne_eq,not_false_eq_true,not_true_eq_false,V7,V8,r39_0,r39_1,r39_2,r39_3,r39_4,r39_6,r39_7,r39_8,r39_9,r39_10,r39_5,r39_11,r39_12,r39_13,r39_14,p39,l39_0,Smp.av,getD_map hlt,Bool.not_not]) | (exfalso; omega)
          all_goals try (clear hJ; simp [hr0, hr, badSmp, prvS, *]; done)
          exact again hJ (0 + 1) (weak_mk (by simp only [V9,wk_nil,wk1,Va,Vb,Vc,Z0,Z1,Z2,Z3,Z4,Z5,Z6,Z7,Z8,Z9,Za,Zb,Zc,Zd,Ze,Zf,List.cons.injEq,Zg,Zh,Zi,Zj,Zk,Zl,Zm,Zn,Zo,Zp,beq_self_eq_true,bne_self_eq_false,decide_true,decide_false,Zq,Zr,Zs,Zt,Zu,Zv,Zw,Zx,Zy,Zz,Y0,Y1,Y2,Y3,Y4,Y5,Y6,x_c,x_o,x_l,x_b,g_b,Y7,Y8,Y9,Ya,Yb,Yc,Yd,Ye,Yf,Yg,lk,ef,Yh,Yi,Yj,Yk,Yl,Ym,Yn,Yo,Yp,Yq,Yr,Ys,Yt,Yu,Yv,Yw,Yx,Yy,Yz,X0,X1,X2,X3,X4,X5,X6,X7,X8,X9,Xa,Xb,Xc,Xd,Xe,Xf,hv,Xg,ev,Xh,Xi,Xj,Xk,Xl,Xm,Xn,Xo,Xp,Xq,Xr,Xs,Xt,Xu,Xv,Xw,Xx,Xy,Xz,W0,W1,vun,bnd,W2,W3,W4,zav,W5,W6,W7,W8,W9,Wa,Value.oneCell',Wb,Wc,Wd,We,true_and,and_true,and_self,implies_true,Wf,Wg,Wh,Wi,false_implies,Wj,Wk,Wl,Wm,Wn,Wo,Wp,Wq,Wr,Ws,Wt,Wu,Wv,Ww,Wx,Wy,Wz,reduceCtorEq,if_true,if_false,V0,↓reduceIte,V1,V2,V3,V4,V5,V6,ne_eq,not_false_eq_true,not_true_eq_false,V7,Nat.zero_ne_one]; exact hw)) ⟨by omega, by simp [hr, badSmp, prvS, *, -hJ]⟩ (by omega)
        · have hlt1 : k - 1 < l.length := by omega
          have hw1 := i_sub1 k hp (by omega)
          have hpv : prvS l k = some l[k-1].endW := by simp [prvS, hlt1]; omega
          have he1 : IntKind.i64.wrap (l[k-1].time + l[k-1].step) = l[k-1].endW := rfl
          repeat' first | ((with_reducible (first | refine condD ?_ ?_ | refine condE ?_ ?_ | refine condN ?_ ?_ | refine condI ?_ ?_ | refine condS ?_ ?_)) <;> intro h) | ((with_reducible (first | refine guardD (by with_unfolding_all rfl) ?_ ?_ | refine guardE (by with_unfolding_all rfl) ?_ ?_ | refine guardN (by with_unfolding_all rfl) ?_ ?_ | refine guardI (by with_unfolding_all rfl) ?_ ?_ | refine guardS (by with_unfolding_all rfl) ?_ ?_)) <;> intro h) | ((refine callG (istime_c _) ?_)) | ((refine callG (within_c _ _ _) ?_)) | (with_reducible refine And.intro ?_ ?_; omega) | (simp only [Z0,Z1,Z2,Z3,Z4,Z5,Z6,Z7,Z8,Z9,Za,Zb,Zc,Zd,Ze,Zf,List.cons.injEq,Zg,Zh,Zi,Zj,Zk,Zl,Zm,Zn,Zo,Zp,beq_self_eq_true,bne_self_eq_false,decide_true,decide_false,Zq,Zr,Zs,Zt,Zu,Zv,Zw,Zx,Zy,Zz,Y0,Y1,Y2,Y3,Y4,Y5,Y6,x_c,x_o,x_l,x_b,g_b,Y7,Y8,Y9,Ya,Yb,Yc,Yd,Ye,Yf,Yg,lk,ef,Yh,Yi,Yj,Yk,Yl,Ym,Yn,Yo,Yp,Yq,Yr,Ys,Yt,Yu,Yv,Yw,Yx,Yy,Yz,X0,X1,X2,X3,X4,X5,X6,X7,X8,X9,Xa,Xb,Xc,Xd,Xe,Xf,hv,Xg,ev,Xh,Xi,Xj,Xk,Xl,Xm,Xn,Xo,Xp,Xq,Xr,Xs,Xt,Xu,Xv,Xw,Xx,Xy,Xz,W0,W1,vun,bnd,W2,W3,W4,zav,W5,W6,W7,W8,W9,Wa,Value.oneCell',Wb,Wc,Wd,We,true_and,and_true,and_self,implies_true,Wf,Wg,Wh,Wi,false_implies,Wj,Wk,Wl,Wm,Wn,Wo,Wp,Wq,Wr,Ws,Wt,Wu,Wv,Ww,Wx,Wy,Wz,reduceCtorEq,if_true,if_false,V0,↓reduceIte,V1,V2,V3,V4,V5,V6,ne_eq,not_false_eq_true,not_true_eq_false,V7,V8,r39_0,r39_1,r39_2,r39_3,r39_4,r39_6,r39_7,r39_8,r39_9,r39_10,r39_5,r39_11,r39_12,r39_13,r39_14,p39,l39_0,Smp.av,getD_map hlt,getD_map hlt1,hw1,he1,Bool.not_not]) | (exfalso; omega)
          all_goals try (clear hJ; simp [hr0, hr, badSmp, *]; done)
          exact again hJ (k + 1) (weak_mk (by simp only [V9,wk_nil,wk1,Va,Vb,Vc,Z0,Z1,Z2,Z3,Z4,Z5,Z6,Z7,Z8,Z9,Za,Zb,Zc,Zd,Ze,Zf,List.cons.injEq,Zg,Zh,Zi,Zj,Zk,Zl,Zm,Zn,Zo,Zp,beq_self_eq_true,bne_self_eq_false,decide_true,decide_false,Zq,Zr,Zs,Zt,Zu,Zv,Zw,Zx,Zy,Zz,Y0,Y1,Y2,Y3,Y4,Y5,Y6,x_c,x_o,x_l,x_b,g_b,Y7,Y8,Y9,Ya,Yb,Yc,Yd,Ye,Yf,Yg,lk,ef,Yh,Yi,Yj,Yk,Yl,Ym,Yn,Yo,Yp,Yq,Yr,Ys,Yt,Yu,Yv,Yw,Yx,Yy,Yz,X0,X1,X2,X3,X4,X5,X6,X7,X8,X9,Xa,Xb,Xc,Xd,Xe,Xf,hv,Xg,ev,Xh,Xi,Xj,Xk,Xl,Xm,Xn,Xo,Xp,Xq,Xr,Xs,Xt,Xu,Xv,Xw,Xx,Xy,Xz,W0,W1,vun,bnd,W2,W3,W4,zav,W5,W6,W7,W8,W9,Wa,Value.oneCell',Wb,Wc,Wd,We,true_and,and_true,and_self,implies_true,Wf,Wg,Wh,Wi,false_implies,Wj,Wk,Wl,Wm,Wn,Wo,Wp,Wq,Wr,Ws,Wt,Wu,Wv,Ww,Wx,Wy,Wz,reduceCtorEq,if_true,if_false,V0,↓reduceIte,V1,V2,V3,V4,V5,V6,ne_eq,not_false_eq_true,not_true_eq_false,V7,Nat.zero_ne_one]; exact hw)) ⟨by omega, by rw [hr, if_neg (by simp only [badSmp, Bool.or_eq_true, not_or, Bool.not_eq_true]; refine ⟨⟨⟨?_, ?_⟩, ?_⟩, ?_⟩ <;> assumption), if_neg (by simpa [hpv] using h)]⟩ (by omega)
      · have hke : k = l.length := by omega
        subst hke
        have hz : smpGo none l = 0 := by rw [hg]; simp [smpGo]
        clear hg hJ
        rcases Nat.eq_zero_or_pos l.length with h0 | hp
        · have hn : l = [] := List.eq_nil_of_length_eq_zero h0
          subst hn
          repeat' first | ((with_reducible (first | refine condD ?_ ?_ | refine condE ?_ ?_ | refine condN ?_ ?_ | refine condI ?_ ?_ | refine condS ?_ ?_)) <;> intro h) | ((with_reducible (first | refine guardD (by with_unfolding_all rfl) ?_ ?_ | refine guardE (by with_unfolding_all rfl) ?_ ?_ | refine guardN (by with_unfolding_all rfl) ?_ ?_ | refine guardI (by with_unfolding_all rfl) ?_ ?_ | refine guardS (by with_unfolding_all rfl) ?_ ?_)) <;> intro h) | (with_reducible refine And.intro ?_ ?_; omega) | (simp only [Z0,Z1,Z2,Z3,Z4,Z5,Z6,Z7,Z8,Z9,Za,Zb,Zc,Zd,Ze,Zf,List.cons.injEq,Zg,Zh,Zi,Zj,Zk,Zl,Zm,Zn,Zo,Zp,beq_self_eq_true,bne_self_eq_false,decide_true,decide_false,Zq,Zr,Zs,Zt,Zu,Zv,Zw,Zx,Zy,Zz,Y0,Y1,Y2,Y3,Y4,Y5,Y6,x_c,x_o,x_l,x_b,g_b,Y7,Y8,Y9,Ya,Yb,Yc,Yd,Ye,Yf,Yg,lk,ef,Yh,Yi,Yj,Yk,Yl,Ym,Yn,Yo,Yp,Yq,Yr,Ys,Yt,Yu,Yv,Yw,Yx,Yy,Yz,X0,X1,X2,X3,X4,X5,X6,X7,X8,X9,Xa,Xb,Xc,Xd,Xe,Xf,hv,Xg,ev,Xh,Xi,Xj,Xk,Xl,Xm,Xn,Xo,Xp,Xq,Xr,Xs,Xt,Xu,Xv,Xw,Xx,Xy,Xz,W0,W1,vun,bnd,W2,W3,W4,zav,W5,W6,W7,W8,W9,Wa,Value.oneCell',Wb,Wc,Wd,We,true_and,and_true,and_self,implies_true,Wf,Wg,Wh,Wi,false_implies,Wj,Wk,Wl,Wm,Wn,Wo,Wp,Wq,Wr,Ws,Wt,Wu,Wv,Ww,Wx,Wy,Wz,reduceCtorEq,if_true,if_false,V0,↓reduceIte,V1,V2,V3,V4,V5,V6,ne_eq,not_false_eq_true,not_true_eq_false,V7,V8,r39_0,r39_1,r39_2,r39_3,r39_4,r39_6,r39_7,r39_8,r39_9,r39_10,r39_5,r39_11,r39_12,r39_13,r39_14,p39,l39_0,Wk,Int.natCast_zero]) | (exfalso; omega)
          all_goals simp [hr0, hz]
        · have hlt1 : l.length - 1 < l.length := by omega
          have hw1 := i_sub1 l.length hp (by omega)
          have he1 : IntKind.i64.wrap (l[l.length-1].time + l[l.length-1].step) = l[l.length-1].endW := rfl
          have hlast : l.getLast? = some l[l.length-1] := by rw [List.getLast?_eq_getElem?, List.getElem?_eq_getElem hlt1]
          repeat' first | ((with_reducible (first | refine condD ?_ ?_ | refine condE ?_ ?_ | refine condN ?_ ?_ | refine condI ?_ ?_ | refine condS ?_ ?_)) <;> intro h) | ((with_reducible (first | refine guardD (by with_unfolding_all rfl) ?_ ?_ | refine guardE (by with_unfolding_all rfl) ?_ ?_ | refine guardN (by with_unfolding_all rfl) ?_ ?_ | refine guardI (by with_unfolding_all rfl) ?_ ?_ | refine guardS (by with_unfolding_all rfl) ?_ ?_)) <;> intro h) | ((refine callG (istime_c _) ?_)) | (with_reducible refine And.intro ?_ ?_; omega) | (simp only [Z0,Z1,Z2,Z3,Z4,Z5,Z6,Z7,Z8,Z9,Za,Zb,Zc,Zd,Ze,Zf,List.cons.injEq,Zg,Zh,Zi,Zj,Zk,Zl,Zm,Zn,Zo,Zp,beq_self_eq_true,bne_self_eq_false,decide_true,decide_false,Zq,Zr,Zs,Zt,Zu,Zv,Zw,Zx,Zy,Zz,Y0,Y1,Y2,Y3,Y4,Y5,Y6,x_c,x_o,x_l,x_b,g_b,Y7,Y8,Y9,Ya,Yb,Yc,Yd,Ye,Yf,Yg,lk,ef,Yh,Yi,Yj,Yk,Yl,Ym,Yn,Yo,Yp,Yq,Yr,Ys,Yt,Yu,Yv,Yw,Yx,Yy,Yz,X0,X1,X2,X3,X4,X5,X6,X7,X8,X9,Xa,Xb,Xc,Xd,Xe,Xf,hv,Xg,ev,Xh,Xi,Xj,Xk,Xl,Xm,Xn,Xo,Xp,Xq,Xr,Xs,Xt,Xu,Xv,Xw,Xx,Xy,Xz,W0,W1,vun,bnd,W2,W3,W4,zav,W5,W6,W7,W8,W9,Wa,Value.oneCell',Wb,Wc,Wd,We,true_and,and_true,and_self,implies_true,Wf,Wg,Wh,Wi,false_implies,Wj,Wk,Wl,Wm,Wn,Wo,Wp,Wq,Wr,Ws,Wt,Wu,Wv,Ww,Wx,Wy,Wz,reduceCtorEq,if_true,if_false,V0,↓reduceIte,V1,V2,V3,V4,V5,V6,ne_eq,not_false_eq_true,not_true_eq_false,V7,V8,r39_0,r39_1,r39_2,r39_3,r39_4,r39_6,r39_7,r39_8,r39_9,r39_10,r39_5,r39_11,r39_12,r39_13,r39_14,p39,l39_0,Smp.av,getD_map hlt1,hw1,he1,Bool.not_not]) | (exfalso; omega)
          all_goals simp [hr0, hz, hlast, *]
end Go.Proofs.YtbdcnooafacldaaDoor
