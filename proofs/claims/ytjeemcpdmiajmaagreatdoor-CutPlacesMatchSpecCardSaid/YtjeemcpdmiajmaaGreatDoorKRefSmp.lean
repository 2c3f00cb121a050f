/- The reference's samples: CheckSamples, present, moved, right, Tight, by the machine on data. -/
import Derived.Test.YtjeemcpdmiajmaaGreatDoorKMoved
import Derived.Test.YtjeemcpdmiajmaaGreatDoorKSlc
namespace Go.Proofs.YtjeemcpdmiajmaaGreatDoor
open Go.RowKit
open Go.Proofs.YtjeemcpdmiajmaaGreatDoor renaming done_eq → Z0, done_eq' → Z1, donet_eq → Z2, donet_eq' → Z3, fin_val → Z4, fin_tup → Z5, fin_agg → Z6, fin_ro → Z7, res_one → Z8, res_more → Z9, rv_t → Za, rv_c → Zb, rv_l → Zc, int_eq → Zg, bool_eq → Zh, toNat_pred → Zr, toNat_succ → Zs, cnd_t → Zu, cnd_f → Zv, grd_tt → Zw, grd_u → Zx, grd_tf → Zy, grd_ft → Zz, grd_ff → Y0, g_skip → Y1, g_ops → Y2, g_seq → Y3, g_block → Y4, g_exit → Y5, g_ret → Y6, g_nil → Y7, r_all → Y8, o_nil → Y9, g_cond → Ya, o_guard → Yb, o_call → Yc, o_mv → Yd, o_pick → Ye, o_bin → Yf, o_un → Yg, o_load → Yh, o_loads → Yi, o_fld → Yj, o_idx → Yk, o_len → Yl, o_alloc → Ym, o_asg → Yn, o_stores → Yo, eqAV → Yp, view_t → Yq, view_c → Yr, view_nil → Ys, view_fn → Yt, look_own → Yu, look_box → Yv, look_junk → Yw, look_val → Yx, look_nilsl → Yy, look_ro → Yz, look_roAt → X0, look_agg → X1, look_tup → X2, look_clo → X3, look_alias → X4, look_ref → X5, look_into → X6, rowOf → X7, cellsOf → X8, argv → X9, vbin → Xa, vun → Xb, bnd → Xc, elemOf → Xd, putParts → Xe, setAt → Xf, zav → Xg, put_at → Xn, mk_at → Xo, mk_nil → Xp, initSt → Xq, wk_cons → Wl, vint_eq → Wm, vbool_eq → Wn
open Go.Proofs.YtjeemcpdmiajmaaGreatDoor.AV.tup renaming injEq → Zd
open Go.Proofs.YtjeemcpdmiajmaaGreatDoor.AV.agg renaming injEq → Ze
open Go.Proofs.YtjeemcpdmiajmaaGreatDoor.AV.ro renaming injEq → Zf
open _root_.Int renaming toNat_natCast → Zi, reduceToNat → Zj, toNat_zero → Zk, toNat_one → Zl, reduceLE → Zm, reduceLT → Zn, reduceBEq → Zo, reduceBNe → Zp, reduceNeg → Zq
open _root_.List renaming length_map → Zt, map_cons → Xr, map_nil → Xs, forall_mem_cons → Xt, not_mem_nil → Xu, length_cons → Xv, length_nil → Xw, getD_cons_zero → Xx, getD_cons_succ → Xy, getD_nil → Xz, drop_succ_cons → W0, drop_zero → W1, take_succ_cons → W2, take_zero → W3, set_cons_zero → W4, set_cons_succ → W5, all_cons → W6, all_nil → W7
open Go.Proofs.YtjeemcpdmiajmaaGreatDoor.ASt renaming rid → Xh, free → Xi
open Go.Proofs.YtjeemcpdmiajmaaGreatDoor.AV renaming kill → Xj, isHome → Xk, noLoan → Xl, cellOK → Xm
open _root_.Bool renaming and_true → W8, true_and → W9, not_true → Wa, not_false → Wb, false_eq_true → Wc
open _root_.Nat renaming reduceEqDiff → Wd, reduceAdd → We, reduceSub → Wf, reduceMul → Wg, reduceLeDiff → Wh, reduceLT → Wi, one_ne_zero → Wj, zero_ne_one → Wk
open Go.Proofs.YtjeemcpdmiajmaaGreatDoor.AV.val renaming injEq → Wo
set_option linter.unusedSimpArgs false
--@short

/-! headend/headendref2.within -/
def r44_0 : List POp := [⟨6, .asg (.c (.bool false)), none⟩]
def r44_1 : List POp := [⟨7, .mv (.t 0), none⟩,
  ⟨8, .mv (.t 1), none⟩,
  ⟨9, .bin .geq (.t 7) (.t 8), none⟩,
  ⟨10, .mv (.t 9), none⟩,
  ⟨11, .mv (.t 0), some (10, true)⟩,
  ⟨12, .mv (.t 2), some (10, true)⟩,
  ⟨13, .bin .leq (.t 11) (.t 12), some (10, true)⟩,
  ⟨14, .pick (.t 10) (.t 13) (.c (.bool false)), none⟩,
  ⟨6, .asg (.t 14), none⟩]
def p44 : PCode := .seq (.ops r44_0) (.seq (.ops r44_1) (.ret))
theorem ok44 : okFunc Tryz.prog 44 [.t 6] 3 p44 = true := by kernel_rfl
theorem within_c (n low high : Int) : CallOK Tryz.prog 44 [.val (.int .i64 n), .val (.int .i64 low), .val (.int .i64 high)] (.val (.bool (!outB n low high))) := by
  refine call_of mixed ok44 rfl ?_
  repeat' first | ((with_reducible (first | refine condD ?_ ?_ | refine condE ?_ ?_ | refine condN ?_ ?_ | refine condI ?_ ?_ | refine condS ?_ ?_)) <;> intro h) | ((with_reducible (first | refine guardD (by with_unfolding_all rfl) ?_ ?_ | refine guardE (by with_unfolding_all rfl) ?_ ?_ | refine guardN (by with_unfolding_all rfl) ?_ ?_ | refine guardI (by with_unfolding_all rfl) ?_ ?_ | refine guardS (by with_unfolding_all rfl) ?_ ?_)) <;> intro h) | (with_reducible refine And.intro ?_ ?_; omega) | (simp only [Z0,Z1,Z2,Z3,Z4,Z5,Z6,Z7,Z8,Z9,Za,Zb,Zc,Zd,Ze,Zf,List.cons.injEq,Zg,Zh,Zi,Zj,Zk,Zl,Zm,Zn,Zo,Zp,beq_self_eq_true,bne_self_eq_false,decide_true,decide_false,Zq,Zr,Zs,Zt,Zu,Zv,Zw,Zx,Zy,Zz,Y0,Y1,Y2,Y3,Y4,Y5,Y6,x_c,x_o,x_l,x_b,g_b,Y7,Y8,Y9,Ya,Yb,lk,ef,Yd,Ye,Yf,Yn,hv,Yp,ev,Yq,Yr,Ys,Yt,Yu,Yv,Yw,Yx,Yy,Yz,X0,X1,X2,X3,X4,X5,X6,X7,X8,X9,Xa,Xb,Xc,Xd,Xe,Xf,Xg,Xh,Xi,Xj,Xk,Xl,Xm,Value.oneCell',Xn,Xo,Xp,Xq,true_and,and_true,and_self,implies_true,Xr,Xs,Xt,Xu,false_implies,Xv,Xw,Xx,Xy,Xz,W0,W1,W2,W3,W4,W5,W6,W7,W8,W9,Wa,Wb,reduceCtorEq,if_true,if_false,Wc,↓reduceIte,Wd,We,Wf,Wg,Wh,Wi,ne_eq,not_false_eq_true,not_true_eq_false,Wj,Wk,r44_0,r44_1,p44]) | (exfalso; omega)
  all_goals
    cases hh : outB n low high
    · have := outB_f hh
      first | (simp; done) | (simp; omega) | (exfalso; omega)
    · have := outB_t hh
      first | (simp; done) | (simp; omega) | (exfalso; omega)
/-! headend/headendref2.CheckSamples -/
def r29_0 : List POp := [⟨2, .asg (.c (.int .i64 0)), none⟩]
def r29_1 : List POp := [⟨6, .mv (.t 0), none⟩,
  ⟨7, .len (.t 6), none⟩,
  ⟨8, .bin .gtr (.t 7) (.c (.int .i64 5000)), none⟩]
def r29_2 : List POp := [⟨2, .asg (.c (.int .i64 2)), none⟩]
def r29_3 : List POp := [⟨3, .asg (.c (.int .i64 0)), none⟩]
def r29_4 : List POp := [⟨9, .mv (.t 3), none⟩,
  ⟨10, .mv (.t 0), none⟩,
  ⟨11, .len (.t 10), none⟩,
  ⟨12, .bin .lss (.t 9) (.t 11), none⟩]
def r29_6 : List POp := [⟨15, .mv (.t 0), none⟩,
  ⟨16, .mv (.t 3), none⟩,
  ⟨17, .idx 5 (.t 15) (.t 16), none⟩,
  ⟨18, .loads 5 (.t 17), none⟩,
  ⟨4, .alloc [.int .i64 0, .int .i64 0, .int .i64 0, .int .i64 0, .bool false], none⟩,
  ⟨0, .stores 5 (.t 4) (.t 18), none⟩]
def r29_7 : List POp := [⟨19, .fld 0 (.t 4), none⟩,
  ⟨20, .load (.t 19), none⟩,
  ⟨21, .call 43 [.t 20], none⟩,
  ⟨22, .un .not (.t 21), none⟩,
  ⟨23, .mv (.t 22), none⟩,
  ⟨24, .fld 1 (.t 4), some (23, false)⟩,
  ⟨25, .load (.t 24), some (23, false)⟩,
  ⟨26, .call 44 [.t 25, .c (.int .i64 0), .c (.int .i64 1000000000)], some (23, false)⟩,
  ⟨27, .un .not (.t 26), some (23, false)⟩,
  ⟨28, .pick (.t 23) (.c (.bool true)) (.t 27), none⟩,
  ⟨29, .mv (.t 28), none⟩,
  ⟨30, .fld 2 (.t 4), some (29, false)⟩,
  ⟨31, .load (.t 30), some (29, false)⟩,
  ⟨32, .call 44 [.t 31, .c (.int .i64 (-1000000000)), .c (.int .i64 1000000000)], some (29, false)⟩,
  ⟨33, .un .not (.t 32), some (29, false)⟩,
  ⟨34, .pick (.t 29) (.c (.bool true)) (.t 33), none⟩,
  ⟨35, .mv (.t 34), none⟩,
  ⟨36, .fld 3 (.t 4), some (35, false)⟩,
  ⟨37, .load (.t 36), some (35, false)⟩,
  ⟨38, .call 44 [.t 37, .c (.int .i64 0), .c (.int .i64 100000)], some (35, false)⟩,
  ⟨39, .un .not (.t 38), some (35, false)⟩,
  ⟨40, .pick (.t 35) (.c (.bool true)) (.t 39), none⟩]
def r29_8 : List POp := [⟨2, .asg (.c (.int .i64 1)), none⟩]
def r29_9 : List POp := [⟨41, .mv (.t 3), none⟩,
  ⟨42, .bin .gtr (.t 41) (.c (.int .i64 0)), none⟩,
  ⟨43, .mv (.t 42), none⟩,
  ⟨44, .fld 0 (.t 4), some (43, true)⟩,
  ⟨45, .load (.t 44), some (43, true)⟩,
  ⟨46, .mv (.t 0), some (43, true)⟩,
  ⟨47, .mv (.t 3), some (43, true)⟩,
  ⟨48, .bin .sub (.t 47) (.c (.int .i64 1)), some (43, true)⟩,
  ⟨49, .idx 5 (.t 46) (.t 48), some (43, true)⟩,
  ⟨50, .fld 0 (.t 49), some (43, true)⟩,
  ⟨51, .load (.t 50), some (43, true)⟩,
  ⟨52, .mv (.t 0), some (43, true)⟩,
  ⟨53, .mv (.t 3), some (43, true)⟩,
  ⟨54, .bin .sub (.t 53) (.c (.int .i64 1)), some (43, true)⟩,
  ⟨55, .idx 5 (.t 52) (.t 54), some (43, true)⟩,
  ⟨56, .fld 1 (.t 55), some (43, true)⟩,
  ⟨57, .load (.t 56), some (43, true)⟩,
  ⟨58, .bin .add (.t 51) (.t 57), some (43, true)⟩,
  ⟨59, .bin .neq (.t 45) (.t 58), some (43, true)⟩,
  ⟨60, .pick (.t 43) (.t 59) (.c (.bool false)), none⟩]
def r29_10 : List POp := [⟨2, .asg (.c (.int .i64 8)), none⟩]
def r29_5 : List POp := [⟨13, .mv (.t 3), none⟩,
  ⟨14, .bin .add (.t 13) (.c (.int .i64 1)), none⟩,
  ⟨3, .asg (.t 14), none⟩]
def r29_11 : List POp := [⟨61, .mv (.t 0), none⟩,
  ⟨62, .len (.t 61), none⟩,
  ⟨5, .asg (.t 62), none⟩]
def r29_12 : List POp := [⟨63, .mv (.t 5), none⟩,
  ⟨64, .bin .gtr (.t 63) (.c (.int .i64 0)), none⟩,
  ⟨65, .mv (.t 64), none⟩,
  ⟨66, .mv (.t 0), some (65, true)⟩,
  ⟨67, .mv (.t 5), some (65, true)⟩,
  ⟨68, .bin .sub (.t 67) (.c (.int .i64 1)), some (65, true)⟩,
  ⟨69, .idx 5 (.t 66) (.t 68), some (65, true)⟩,
  ⟨70, .fld 0 (.t 69), some (65, true)⟩,
  ⟨71, .load (.t 70), some (65, true)⟩,
  ⟨72, .mv (.t 0), some (65, true)⟩,
  ⟨73, .mv (.t 5), some (65, true)⟩,
  ⟨74, .bin .sub (.t 73) (.c (.int .i64 1)), some (65, true)⟩,
  ⟨75, .idx 5 (.t 72) (.t 74), some (65, true)⟩,
  ⟨76, .fld 1 (.t 75), some (65, true)⟩,
  ⟨77, .load (.t 76), some (65, true)⟩,
  ⟨78, .bin .add (.t 71) (.t 77), some (65, true)⟩,
  ⟨79, .call 43 [.t 78], some (65, true)⟩,
  ⟨80, .un .not (.t 79), some (65, true)⟩,
  ⟨81, .pick (.t 65) (.t 80) (.c (.bool false)), none⟩]
def r29_13 : List POp := [⟨2, .asg (.c (.int .i64 1)), none⟩]
def r29_14 : List POp := [⟨2, .asg (.c (.int .i64 0)), none⟩]
def l29_0 : PCode := .seq (.seq (.ops r29_4) (.cond (.t 12) (.skip) (.exit 0))) (.seq (.block 1 (.seq (.ops r29_6) (.seq (.seq (.ops r29_7) (.cond (.t 40) (.seq (.ops r29_8) (.ret)) (.skip))) (.seq (.ops r29_9) (.cond (.t 60) (.seq (.ops r29_10) (.ret)) (.skip)))))) (.ops r29_5))
def p29 : PCode := .seq (.ops r29_0) (.seq (.seq (.ops r29_1) (.cond (.t 8) (.seq (.ops r29_2) (.ret)) (.skip))) (.seq (.seq (.ops r29_3) (.block 0 (.loop l29_0))) (.seq (.seq (.ops r29_11) (.seq (.ops r29_12) (.cond (.t 81) (.seq (.ops r29_13) (.ret)) (.skip)))) (.seq (.ops r29_14) (.ret)))))
theorem ok29 : okFunc Tryz.prog 29 [.t 2] 1 p29 = true := by kernel_rfl
theorem refsmp_c (l : List Smp) : CallOK Tryz.prog 29 [.ro (l.map Smp.av)] (.val (.int .i64 (smpF l))) := by
  refine call_of mixed ok29 rfl ?_
  repeat' first | ((with_reducible (first | refine condD ?_ ?_ | refine condE ?_ ?_ | refine condN ?_ ?_ | refine condI ?_ ?_ | refine condS ?_ ?_)) <;> intro h) | ((with_reducible (first | refine guardD (by with_unfolding_all rfl) ?_ ?_ | refine guardE (by with_unfolding_all rfl) ?_ ?_ | refine guardN (by with_unfolding_all rfl) ?_ ?_ | refine guardI (by with_unfolding_all rfl) ?_ ?_ | refine guardS (by with_unfolding_all rfl) ?_ ?_)) <;> intro h) | (with_reducible refine And.intro ?_ ?_; omega) | (simp only [Z0,Z1,Z2,Z3,Z4,Z5,Z6,Z7,Z8,Z9,Za,Zb,Zc,Zd,Ze,Zf,List.cons.injEq,Zg,Zh,Zi,Zj,Zk,Zl,Zm,Zn,Zo,Zp,beq_self_eq_true,bne_self_eq_false,decide_true,decide_false,Zq,Zr,Zs,Zt,Zu,Zv,Zw,Zx,Zy,Zz,Y0,Y1,Y2,Y3,Y4,Y5,Y6,x_c,x_o,x_l,x_b,g_b,Y7,Y8,Y9,Ya,Yb,Yc,lk,ef,Yd,Ye,Yf,Yg,Yh,Yi,Yj,Yk,Yl,Ym,Yn,Yo,hv,Yp,ev,Yq,Yr,Ys,Yt,Yu,Yv,Yw,Yx,Yy,Yz,X0,X1,X2,X3,X4,X5,X6,X7,X8,X9,Xa,Xb,Xc,Xd,Xe,Xf,Xg,Xh,Xi,Xj,Xk,Xl,Xm,Value.oneCell',Xn,Xo,Xp,Xq,true_and,and_true,and_self,implies_true,Xr,Xs,Xt,Xu,false_implies,Xv,Xw,Xx,Xy,Xz,W0,W1,W2,W3,W4,W5,W6,W7,W8,W9,Wa,Wb,reduceCtorEq,if_true,if_false,Wc,↓reduceIte,Wd,We,Wf,Wg,Wh,Wi,ne_eq,not_false_eq_true,not_true_eq_false,Wj,Wk,r29_0,r29_1,r29_2,r29_3,r29_4,r29_6,r29_7,r29_8,r29_9,r29_10,r29_5,r29_11,r29_12,r29_13,r29_14,p29]) | (exfalso; omega)
  · rw [smpF, if_pos (by omega)]
  · have hl : l.length ≤ 5000 := by omega
    have hr0 : smpF l = if smpGo none l ≠ 0 then smpGo none l else if l.getLast?.any fun s => noTime s.endW then 1 else 0 := if_neg (by omega)
    refine loopS (fun k : Nat => mk [(0, .ro (l.map Smp.av)), (3, .val (.int .i64 k))]) (fun k => k ≤ l.length ∧ smpGo none l = smpGo (prvS l k) (l.drop k)) (fun k => l.length - k) 0 (weak_mk ?_) ?_ ?_
    · simp only [Wl,wk_nil,wk1,Wm,Wn,Wo,Z4,Z5,Z6,Z7,Z8,Z9,Za,Zb,Zc,Zd,Ze,Zf,List.cons.injEq,Zg,Zh,Zi,Zj,Zk,Zl,Zm,Zn,Zo,Zp,beq_self_eq_true,bne_self_eq_false,decide_true,decide_false,Zq,Zr,Zs,Zt,Zu,Zv,Zw,Zx,Zy,Zz,Y0,hv,Yp,ev,Yq,Yr,Ys,Yt,Yu,Yv,Yw,Yx,Yy,Yz,X0,X1,X2,X3,X4,X5,X6,X7,X8,X9,Xa,Xb,Xc,Xd,Xe,Xf,Xg,Xh,Xi,Xj,Xk,Xl,Xm,Value.oneCell',Xn,Xo,Xp,Xq,true_and,and_true,and_self,implies_true,Xr,Xs,Xt,Xu,false_implies,Xv,Xw,Xx,Xy,Xz,W0,W1,W2,W3,W4,W5,W6,W7,W8,W9,Wa,Wb,reduceCtorEq,if_true,if_false,Wc,↓reduceIte,Wd,We,Wf,Wg,Wh,Wi,ne_eq,not_false_eq_true,not_true_eq_false,Wj,Nat.zero_ne_one]
      simp
    · exact ⟨Nat.zero_le _, by simp [prvS]⟩
    · rintro J hJ k ⟨hk, hg⟩
      simp only [Z0,Z1,Z2,Z3,Z4,Z5,Z6,Z7,Z8,Z9,Za,Zb,Zc,Zd,Ze,Zf,List.cons.injEq,Zg,Zh,Zi,Zj,Zk,Zl,Zm,Zn,Zo,Zp,beq_self_eq_true,bne_self_eq_false,decide_true,decide_false,Zq,Zr,Zs,Zt,Zu,Zv,Zw,Zx,Zy,Zz,Y0,Y1,Y2,Y3,Y4,Y5,Y6,x_c,x_o,x_l,x_b,g_b,Y7,Y8,Y9,Ya,Yb,Yc,lk,ef,Yd,Ye,Yf,Yg,Yh,Yi,Yj,Yk,Yl,Ym,Yn,Yo,hv,Yp,ev,Yq,Yr,Ys,Yt,Yu,Yv,Yw,Yx,Yy,Yz,X0,X1,X2,X3,X4,X5,X6,X7,X8,X9,Xa,Xb,Xc,Xd,Xe,Xf,Xg,Xh,Xi,Xj,Xk,Xl,Xm,Value.oneCell',Xn,Xo,Xp,Xq,true_and,and_true,and_self,implies_true,Xr,Xs,Xt,Xu,false_implies,Xv,Xw,Xx,Xy,Xz,W0,W1,W2,W3,W4,W5,W6,W7,W8,W9,Wa,Wb,reduceCtorEq,if_true,if_false,Wc,↓reduceIte,Wd,We,Wf,Wg,Wh,Wi,ne_eq,not_false_eq_true,not_true_eq_false,Wj,Wk,r29_0,r29_1,r29_2,r29_3,r29_4,r29_6,r29_7,r29_8,r29_9,r29_10,r29_5,r29_11,r29_12,r29_13,r29_14,p29,l29_0]
      refine condD (fun h => ?_) (fun h => ?_)
      · have hlt : k < l.length := by omega
        have hr : smpGo none l = if badSmp l[k] then 1 else if (prvS l k).any fun q => l[k].time != q then 8 else smpGo (prvS l (k + 1)) (l.drop (k + 1)) := by
          rw [hg, List.drop_eq_getElem_cons hlt, smpGo, prvS_succ _ _ hlt]
        have hw := i_add1 k (by omega)
        clear hg
        rcases Nat.eq_zero_or_pos k with rfl | hp
        · repeat' first | ((with_reducible (first | refine condD ?_ ?_ | refine condE ?_ ?_ | refine condN ?_ ?_ | refine condI ?_ ?_ | refine condS ?_ ?_)) <;> intro h) | ((with_reducible (first | refine guardD (by with_unfolding_all rfl) ?_ ?_ | refine guardE (by with_unfolding_all rfl) ?_ ?_ | refine guardN (by with_unfolding_all rfl) ?_ ?_ | refine guardI (by with_unfolding_all rfl) ?_ ?_ | refine guardS (by with_unfolding_all rfl) ?_ ?_)) <;> intro h) | ((refine callG (istime_c _) ?_)) | ((refine callG (within_c _ _ _) ?_)) | (with_reducible refine And.intro ?_ ?_; omega) | (simp only [Z0,Z1,Z2,Z3,Z4,Z5,Z6,Z7,Z8,Z9,Za,Zb,Zc,Zd,Ze,Zf,List.cons.injEq,Zg,Zh,Zi,Zj,Zk,Zl,Zm,Zn,Zo,Zp,beq_self_eq_true,bne_self_eq_false,decide_true,decide_false,Zq,Zr,Zs,Zt,Zu,Zv,Zw,Zx,Zy,Zz,Y0,Y1,Y2,Y3,Y4,Y5,Y6,x_c,x_o,x_l,x_b,g_b,Y7,Y8,Y9,Ya,Yb,Yc,lk,ef,Yd,Ye,Yf,Yg,Yh,Yi,Yj,Yk,Yl,Ym,Yn,Yo,hv,Yp,ev,Yq,Yr,Ys,Yt,Yu,Yv,Yw,Yx,Yy,Yz,X0,X1,X2,X3,X4,X5,X6,X7,X8,X9,Xa,Xb,Xc,Xd,Xe,Xf,Xg,Xh,Xi,Xj,Xk,Xl,Xm,Value.oneCell',Xn,Xo,Xp,Xq,true_and,and_true,and_self,implies_true,Xr,Xs,Xt,Xu,false_implies,Xv,Xw,Xx,Xy,Xz,W0,W1,W2,W3,W4,W5,W6,W7,W8,W9,Wa,Wb,reduceCtorEq,if_true,if_false,Wc,↓reduceIte,Wd,We,Wf,Wg,Wh,Wi,ne_eq,not_false_eq_true,not_true_eq_false,Wj,Wk,r29_0,r29_1,r29_2,r29_3,r29_4,r29_6,r29_7,r29_8,r29_9,r29_10,r29_5,r29_11,r29_12,r29_13,r29_14,p29,l29_0,Smp.av,getD_map hlt,Bool.not_not]) | (exfalso; omega)
          all_goals try (clear hJ; simp [hr0, hr, badSmp, prvS, *]; done)
          exact again hJ (0 + 1) (weak_mk (by simp only [Wl,wk_nil,wk1,Wm,Wn,Wo,Z4,Z5,Z6,Z7,Z8,Z9,Za,Zb,Zc,Zd,Ze,Zf,List.cons.injEq,Zg,Zh,Zi,Zj,Zk,Zl,Zm,Zn,Zo,Zp,beq_self_eq_true,bne_self_eq_false,decide_true,decide_false,Zq,Zr,Zs,Zt,Zu,Zv,Zw,Zx,Zy,Zz,Y0,hv,Yp,ev,Yq,Yr,Ys,Yt,Yu,Yv,Yw,Yx,Yy,Yz,X0,X1,X2,X3,X4,X5,X6,X7,X8,X9,Xa,Xb,Xc,Xd,Xe,Xf,Xg,Xh,Xi,Xj,Xk,Xl,Xm,Value.oneCell',Xn,Xo,Xp,Xq,true_and,and_true,and_self,implies_true,Xr,Xs,Xt,Xu,false_implies,Xv,Xw,Xx,Xy,Xz,W0,W1,W2,W3,W4,W5,W6,W7,W8,W9,Wa,Wb,reduceCtorEq,if_true,if_false,Wc,↓reduceIte,Wd,We,Wf,Wg,Wh,Wi,ne_eq,not_false_eq_true,not_true_eq_false,Wj,Nat.zero_ne_one]; exact hw)) ⟨by omega, by simp [hr, badSmp, prvS, *, -hJ]⟩ (by omega)
        · have hlt1 : k - 1 < l.length := by omega
          have hw1 := i_sub1 k hp (by omega)
          have hpv : prvS l k = some l[k-1].endW := by simp [prvS, hlt1]; omega
          have he1 : IntKind.i64.wrap (l[k-1].time + l[k-1].step) = l[k-1].endW := rfl
          repeat' first | ((with_reducible (first | refine condD ?_ ?_ | refine condE ?_ ?_ | refine condN ?_ ?_ | refine condI ?_ ?_ | refine condS ?_ ?_)) <;> intro h) | ((with_reducible (first | refine guardD (by with_unfolding_all rfl) ?_ ?_ | refine guardE (by with_unfolding_all rfl) ?_ ?_ | refine guardN (by with_unfolding_all rfl) ?_ ?_ | refine guardI (by with_unfolding_all rfl) ?_ ?_ | refine guardS (by with_unfolding_all rfl) ?_ ?_)) <;> intro h) | ((refine callG (istime_c _) ?_)) | ((refine callG (within_c _ _ _) ?_)) | (with_reducible refine And.intro ?_ ?_; omega) | (simp only [Z0,Z1,Z2,Z3,Z4,Z5,Z6,Z7,Z8,Z9,Za,Zb,Zc,Zd,Ze,Zf,List.cons.injEq,Zg,Zh,Zi,Zj,Zk,Zl,Zm,Zn,Zo,Zp,beq_self_eq_true,bne_self_eq_false,decide_true,decide_false,Zq,Zr,Zs,Zt,Zu,Zv,Zw,Zx,Zy,Zz,Y0,Y1,Y2,Y3,Y4,Y5,Y6,x_c,x_o,x_l,x_b,g_b,Y7,Y8,Y9,Ya,Yb,Yc,lk,ef,Yd,Ye,Yf,Yg,Yh,Yi,Yj,Yk,Yl,Ym,Yn,Yo,hv,Yp,ev,Yq,Yr,Ys,Yt,Yu,Yv,Yw,Yx,Yy,Yz,X0,X1,X2,X3,X4,X5,X6,X7,X8,X9,Xa,Xb,Xc,Xd,Xe,Xf,Xg,Xh,Xi,Xj,Xk,Xl,Xm,Value.oneCell',Xn,Xo,Xp,Xq,true_and,and_true,and_self,implies_true,Xr,Xs,Xt,Xu,false_implies,Xv,Xw,Xx,Xy,Xz,W0,W1,W2,W3,W4,W5,W6,W7,W8,W9,Wa,Wb,reduceCtorEq,if_true,if_false,Wc,↓reduceIte,Wd,We,Wf,Wg,Wh,Wi,ne_eq,not_false_eq_true,not_true_eq_false,Wj,Wk,r29_0,r29_1,r29_2,r29_3,r29_4,r29_6,r29_7,r29_8,r29_9,r29_10,r29_5,r29_11,r29_12,r29_13,r29_14,p29,l29_0,Smp.av,getD_map hlt,getD_map hlt1,hw1,he1,Bool.not_not]) | (exfalso; omega)
          all_goals try (clear hJ; simp [hr0, hr, badSmp, *]; done)
          exact again hJ (k + 1) (weak_mk (by simp only [Wl,wk_nil,wk1,Wm,Wn,Wo,Z4,Z5,Z6,Z7,Z8,Z9,Za,Zb,Zc,Zd,Ze,Zf,List.cons.injEq,Zg,Zh,Zi,Zj,Zk,Zl,Zm,Zn,Zo,Zp,beq_self_eq_true,bne_self_eq_false,decide_true,decide_false,Zq,Zr,Zs,Zt,Zu,Zv,Zw,Zx,Zy,Zz,Y0,hv,Yp,ev,Yq,Yr,Ys,Yt,Yu,Yv,Yw,Yx,Yy,Yz,X0,X1,X2,X3,X4,X5,X6,X7,X8,X9,Xa,Xb,Xc,Xd,Xe,Xf,Xg,Xh,Xi,Xj,Xk,Xl,Xm,Value.oneCell',Xn,Xo,Xp,Xq,true_and,and_true,and_self,implies_true,Xr,Xs,Xt,Xu,false_implies,Xv,Xw,Xx,Xy,Xz,W0,W1,W2,W3,W4,W5,W6,W7,W8,W9,Wa,Wb,reduceCtorEq,if_true,if_false,Wc,↓reduceIte,Wd,We,Wf,Wg,Wh,Wi,ne_eq,not_false_eq_true,not_true_eq_false,Wj,Nat.zero_ne_one]; exact hw)) ⟨by omega, by rw [hr, if_neg (by simp only [badSmp, Bool.or_eq_true, not_or, Bool.not_eq_true]; refine ⟨⟨⟨?_, ?_⟩, ?_⟩, ?_⟩ <;> assumption), if_neg (by simpa [hpv] using h)]⟩ (by omega)
      · have hke : k = l.length := by omega
        subst hke
        have hz : smpGo none l = 0 := by rw [hg]; simp [smpGo]
        clear hg hJ
        rcases Nat.eq_zero_or_pos l.length with h0 | hp
        · have hn : l = [] := List.eq_nil_of_length_eq_zero h0
          subst hn
          repeat' first | ((with_reducible (first | refine condD ?_ ?_ | refine condE ?_ ?_ | refine condN ?_ ?_ | refine condI ?_ ?_ | refine condS ?_ ?_)) <;> intro h) | ((with_reducible (first | refine guardD (by with_unfolding_all rfl) ?_ ?_ | refine guardE (by with_unfolding_all rfl) ?_ ?_ | refine guardN (by with_unfolding_all rfl) ?_ ?_ | refine guardI (by with_unfolding_all rfl) ?_ ?_ | refine guardS (by with_unfolding_all rfl) ?_ ?_)) <;> intro h) | (with_reducible refine And.intro ?_ ?_; omega) | (simp only [Z0,Z1,Z2,Z3,Z4,Z5,Z6,Z7,Z8,Z9,Za,Zb,Zc,Zd,Ze,Zf,List.cons.injEq,Zg,Zh,Zi,Zj,Zk,Zl,Zm,Zn,Zo,Zp,beq_self_eq_true,bne_self_eq_false,decide_true,decide_false,Zq,Zr,Zs,Zt,Zu,Zv,Zw,Zx,Zy,Zz,Y0,Y1,Y2,Y3,Y4,Y5,Y6,x_c,x_o,x_l,x_b,g_b,Y7,Y8,Y9,Ya,Yb,Yc,lk,ef,Yd,Ye,Yf,Yg,Yh,Yi,Yj,Yk,Yl,Ym,Yn,Yo,hv,Yp,ev,Yq,Yr,Ys,Yt,Yu,Yv,Yw,Yx,Yy,Yz,X0,X1,X2,X3,X4,X5,X6,X7,X8,X9,Xa,Xb,Xc,Xd,Xe,Xf,Xg,Xh,Xi,Xj,Xk,Xl,Xm,Value.oneCell',Xn,Xo,Xp,Xq,true_and,and_true,and_self,implies_true,Xr,Xs,Xt,Xu,false_implies,Xv,Xw,Xx,Xy,Xz,W0,W1,W2,W3,W4,W5,W6,W7,W8,W9,Wa,Wb,reduceCtorEq,if_true,if_false,Wc,↓reduceIte,Wd,We,Wf,Wg,Wh,Wi,ne_eq,not_false_eq_true,not_true_eq_false,Wj,Wk,r29_0,r29_1,r29_2,r29_3,r29_4,r29_6,r29_7,r29_8,r29_9,r29_10,r29_5,r29_11,r29_12,r29_13,r29_14,p29,l29_0,Xw,Int.natCast_zero]) | (exfalso; omega)
          all_goals simp [hr0, hz]
        · have hlt1 : l.length - 1 < l.length := by omega
          have hw1 := i_sub1 l.length hp (by omega)
          have he1 : IntKind.i64.wrap (l[l.length-1].time + l[l.length-1].step) = l[l.length-1].endW := rfl
          have hlast : l.getLast? = some l[l.length-1] := by rw [List.getLast?_eq_getElem?, List.getElem?_eq_getElem hlt1]
          repeat' first | ((with_reducible (first | refine condD ?_ ?_ | refine condE ?_ ?_ | refine condN ?_ ?_ | refine condI ?_ ?_ | refine condS ?_ ?_)) <;> intro h) | ((with_reducible (first | refine guardD (by with_unfolding_all rfl) ?_ ?_ | refine guardE (by with_unfolding_all rfl) ?_ ?_ | refine guardN (by with_unfolding_all rfl) ?_ ?_ | refine guardI (by with_unfolding_all rfl) ?_ ?_ | refine guardS (by with_unfolding_all rfl) ?_ ?_)) <;> intro h) | ((refine callG (istime_c _) ?_)) | (with_reducible refine And.intro ?_ ?_; omega) | (simp only [Z0,Z1,Z2,Z3,Z4,Z5,Z6,Z7,Z8,Z9,Za,Zb,Zc,Zd,Ze,Zf,List.cons.injEq,Zg,Zh,Zi,Zj,Zk,Zl,Zm,Zn,Zo,Zp,beq_self_eq_true,bne_self_eq_false,decide_true,decide_false,Zq,Zr,Zs,Zt,Zu,Zv,Zw,Zx,Zy,Zz,Y0,Y1,Y2,Y3,Y4,Y5,Y6,x_c,x_o,x_l,x_b,g_b,Y7,Y8,Y9,Ya,Yb,Yc,lk,ef,Yd,Ye,Yf,Yg,Yh,Yi,Yj,Yk,Yl,Ym,Yn,Yo,hv,Yp,ev,Yq,Yr,Ys,Yt,Yu,Yv,Yw,Yx,Yy,Yz,X0,X1,X2,X3,X4,X5,X6,X7,X8,X9,Xa,Xb,Xc,Xd,Xe,Xf,Xg,Xh,Xi,Xj,Xk,Xl,Xm,Value.oneCell',Xn,Xo,Xp,Xq,true_and,and_true,and_self,implies_true,Xr,Xs,Xt,Xu,false_implies,Xv,Xw,Xx,Xy,Xz,W0,W1,W2,W3,W4,W5,W6,W7,W8,W9,Wa,Wb,reduceCtorEq,if_true,if_false,Wc,↓reduceIte,Wd,We,Wf,Wg,Wh,Wi,ne_eq,not_false_eq_true,not_true_eq_false,Wj,Wk,r29_0,r29_1,r29_2,r29_3,r29_4,r29_6,r29_7,r29_8,r29_9,r29_10,r29_5,r29_11,r29_12,r29_13,r29_14,p29,l29_0,Smp.av,getD_map hlt1,hw1,he1,Bool.not_not]) | (exfalso; omega)
          all_goals simp [hr0, hz, hlast, *]
/-! headend/headendref3.present -/
def r57_0 : List POp := [⟨1, .boxs (.t 0), none⟩,
  ⟨2, .asg (.c (.int .i64 0)), none⟩]
def r57_1 : List POp := [⟨3, .fld 0 (.t 1), none⟩,
  ⟨4, .load (.t 3), none⟩,
  ⟨5, .fld 2 (.t 1), none⟩,
  ⟨6, .load (.t 5), none⟩,
  ⟨7, .bin .add (.t 4) (.t 6), none⟩,
  ⟨2, .asg (.t 7), none⟩]
def p57 : PCode := .seq (.ops r57_0) (.seq (.ops r57_1) (.ret))
theorem ok57 : okFunc Tryz.prog 57 [.t 2] 1 p57 = true := by kernel_rfl
theorem present_c (s : Smp) (h : badSmp s = false) : CallOK Tryz.prog 57 [.agg s.av] (.val (.int .i64 (s.time + s.shift))) := by
  refine call_of mixed ok57 rfl ?_
  have b := badSmp_bd h
  have w : IntKind.i64.wrap (s.time + s.shift) = s.time + s.shift := wrap_in (by omega) (by omega)
  repeat' first | ((with_reducible (first | refine condD ?_ ?_ | refine condE ?_ ?_ | refine condN ?_ ?_ | refine condI ?_ ?_ | refine condS ?_ ?_)) <;> intro h) | (with_reducible refine And.intro ?_ ?_; omega) | (simp only [Z0,Z1,Z2,Z3,Z4,Z5,Z6,Z7,Z8,Z9,Za,Zb,Zc,Zd,Ze,Zf,List.cons.injEq,Zg,Zh,Zi,Zj,Zk,Zl,Zm,Zn,Zo,Zp,beq_self_eq_true,bne_self_eq_false,decide_true,decide_false,Zq,Zr,Zs,Zt,Zu,Zv,Zw,Zx,Zy,Zz,Y0,Y1,Y2,Y3,Y4,Y5,Y6,x_c,x_o,x_l,x_b,g_b,Y7,Y8,Y9,Ya,Yb,lk,ef,Yf,Yh,Yj,o_boxs,Yn,hv,Yp,ev,Yq,Yr,Ys,Yt,Yu,Yv,Yw,Yx,Yy,Yz,X0,X1,X2,X3,X4,X5,X6,X7,X8,X9,Xa,Xb,Xc,Xd,Xe,Xf,Xg,Xh,Xi,Xj,Xk,Xl,Xm,Value.oneCell',Xn,Xo,Xp,Xq,true_and,and_true,and_self,implies_true,Xr,Xs,Xt,Xu,false_implies,Xv,Xw,Xx,Xy,Xz,W0,W1,W2,W3,W4,W5,W6,W7,W8,W9,Wa,Wb,reduceCtorEq,if_true,if_false,Wc,↓reduceIte,Wd,We,Wf,Wg,Wh,Wi,ne_eq,not_false_eq_true,not_true_eq_false,Wj,Wk,r57_0,r57_1,p57,Smp.av,w]) | (exfalso; omega)
end Go.Proofs.YtjeemcpdmiajmaaGreatDoor
