/- Wishes and grids: cut.risingFault, wishFault, Grid, a law's awake, by the machine on data. -/
import Derived.Test.YtjeemcpdmiajmaaGreatDoorKDo
namespace Go.Proofs.YtjeemcpdmiajmaaGreatDoor
open Go.RowKit
open Go.Proofs.YtjeemcpdmiajmaaGreatDoor renaming done_eq → Z0, done_eq' → Z1, donet_eq → Z2, donet_eq' → Z3, fin_val → Z4, fin_tup → Z5, fin_agg → Z6, fin_ro → Z7, res_one → Z8, res_more → Z9, rv_t → Za, rv_c → Zb, rv_l → Zc, int_eq → Zg, bool_eq → Zh, toNat_pred → Zr, toNat_succ → Zs, cnd_t → Zu, cnd_f → Zv, grd_tt → Zw, grd_u → Zx, grd_tf → Zy, grd_ft → Zz, grd_ff → Y0, g_skip → Y1, g_ops → Y2, g_seq → Y3, g_block → Y4, g_exit → Y5, g_ret → Y6, x_c → Y7, x_o → Y8, x_l → Y9, x_b → Ya, g_b → Yb, g_nil → Yc, r_all → Yd, o_nil → Ye, g_cond → Yf, o_guard → Yg, o_call → Yh, o_mv → Yi, o_pick → Yj, o_bin → Yk, o_load → Yl, o_loads → Ym, o_fld → Yn, o_idx → Yo, o_len → Yp, o_boxs → Yq, o_row → Yr, o_asg → Ys, o_app → Yt, eqAV → Yu, view_t → Yv, view_c → Yw, view_nil → Yx, view_fn → Yy, look_own → Yz, look_box → X0, look_junk → X1, look_val → X2, look_nilsl → X3, look_ro → X4, look_roAt → X5, look_agg → X6, look_tup → X7, look_clo → X8, look_alias → X9, look_ref → Xa, look_into → Xb, rowOf → Xc, cellsOf → Xd, argv → Xe, vbin → Xf, vun → Xg, bnd → Xh, elemOf → Xi, putParts → Xj, setAt → Xk, zav → Xl, put_at → Xs, mk_at → Xt, mk_nil → Xu, initSt → Xv, wk_cons → Wq, wk_nil → Wr, vint_eq → Ws, vbool_eq → Wt
open Go.Proofs.YtjeemcpdmiajmaaGreatDoor.AV.tup renaming injEq → Zd
open Go.Proofs.YtjeemcpdmiajmaaGreatDoor.AV.agg renaming injEq → Ze
open Go.Proofs.YtjeemcpdmiajmaaGreatDoor.AV.ro renaming injEq → Zf
open _root_.Int renaming toNat_natCast → Zi, reduceToNat → Zj, toNat_zero → Zk, toNat_one → Zl, reduceLE → Zm, reduceLT → Zn, reduceBEq → Zo, reduceBNe → Zp, reduceNeg → Zq
open _root_.List renaming length_map → Zt, map_cons → Xw, map_nil → Xx, forall_mem_cons → Xy, not_mem_nil → Xz, length_cons → W0, length_nil → W1, getD_cons_zero → W2, getD_cons_succ → W3, getD_nil → W4, drop_succ_cons → W5, drop_zero → W6, take_succ_cons → W7, take_zero → W8, set_cons_zero → W9, set_cons_succ → Wa, all_cons → Wb, all_nil → Wc
open Go.Proofs.YtjeemcpdmiajmaaGreatDoor.ASt renaming rid → Xm, free → Xn
open Go.Proofs.YtjeemcpdmiajmaaGreatDoor.AV renaming kill → Xo, isHome → Xp, noLoan → Xq, cellOK → Xr
open _root_.Bool renaming and_true → Wd, true_and → We, not_true → Wf, not_false → Wg, false_eq_true → Wh
open _root_.Nat renaming reduceEqDiff → Wi, reduceAdd → Wj, reduceSub → Wk, reduceMul → Wl, reduceLeDiff → Wm, reduceLT → Wn, one_ne_zero → Wo, zero_ne_one → Wp
open Go.Proofs.YtjeemcpdmiajmaaGreatDoor.AV.val renaming injEq → Wu
set_option linter.unusedSimpArgs false

def riseGo : Option Int → List Int → Int
  | _, [] => 0
  | p, t :: r => if noTime t then 1 else if p.any (t ≤ ·) then 8 else riseGo (some t) r
def rise (l : List Int) : Int := if l.length = 0 then 9 else if 1000 < l.length then 2 else riseGo none l
def prv (l : List Int) (k : Nat) : Option Int := if k = 0 then none else l[k-1]?
theorem prv_succ (l : List Int) (k : Nat) (h : k < l.length) : prv l (k + 1) = some l[k] := by simp [prv, h]
theorem prv_pos (l : List Int) (k : Nat) (h0 : 0 < k) (h : k - 1 < l.length) : prv l k = some l[k-1] := by simp [prv, h]; omega

/-! headend/cut.risingFault -/
def r45_0 : List POp := [⟨2, .asg (.c (.int .i64 0)), none⟩]
def r45_1 : List POp := [⟨6, .mv (.t 0), none⟩,
  ⟨7, .len (.t 6), none⟩,
  ⟨8, .bin .eql (.t 7) (.c (.int .i64 0)), none⟩,
  ⟨5, .asg (.t 8), none⟩]
def r45_2 : List POp := [⟨2, .asg (.c (.int .i64 9)), none⟩]
def r45_3 : List POp := [⟨10, .mv (.t 0), none⟩,
  ⟨11, .len (.t 10), none⟩,
  ⟨12, .bin .gtr (.t 11) (.c (.int .i64 1000)), none⟩,
  ⟨9, .asg (.t 12), none⟩]
def r45_4 : List POp := [⟨2, .asg (.c (.int .i64 2)), none⟩]
def r45_5 : List POp := [⟨13, .mv (.t 0), none⟩,
  ⟨14, .len (.t 13), none⟩,
  ⟨15, .mv (.c (.int .i64 0)), none⟩]
def r45_6 : List POp := [⟨16, .bin .lss (.t 15) (.t 14), none⟩]
def r45_7 : List POp := [⟨17, .mv (.t 15), none⟩,
  ⟨18, .idx 1 (.t 13) (.t 15), none⟩,
  ⟨19, .load (.t 18), none⟩,
  ⟨3, .asg (.t 17), none⟩,
  ⟨4, .asg (.t 19), none⟩]
def r45_8 : List POp := [⟨21, .mv (.t 4), none⟩,
  ⟨22, .call 42 [.t 21], none⟩,
  ⟨20, .asg (.t 22), none⟩]
def r45_9 : List POp := [⟨2, .asg (.c (.int .i64 1)), none⟩]
def r45_10 : List POp := [⟨24, .mv (.t 3), none⟩,
  ⟨25, .bin .gtr (.t 24) (.c (.int .i64 0)), none⟩,
  ⟨26, .mv (.t 25), none⟩,
  ⟨27, .mv (.t 4), some (26, true)⟩,
  ⟨28, .mv (.t 0), some (26, true)⟩,
  ⟨29, .mv (.t 3), some (26, true)⟩,
  ⟨30, .bin .sub (.t 29) (.c (.int .i64 1)), some (26, true)⟩,
  ⟨31, .idx 1 (.t 28) (.t 30), some (26, true)⟩,
  ⟨32, .load (.t 31), some (26, true)⟩,
  ⟨33, .bin .leq (.t 27) (.t 32), some (26, true)⟩,
  ⟨34, .pick (.t 26) (.t 33) (.c (.bool false)), none⟩,
  ⟨23, .asg (.t 34), none⟩]
def r45_11 : List POp := [⟨2, .asg (.c (.int .i64 8)), none⟩]
def r45_12 : List POp := [⟨35, .bin .add (.t 15) (.c (.int .i64 1)), none⟩,
  ⟨15, .mv (.t 35), none⟩]
def r45_13 : List POp := [⟨2, .asg (.c (.int .i64 0)), none⟩]
def l45_0 : PCode := .seq (.ops r45_6) (.seq (.cond (.t 16) (.skip) (.exit 1)) (.seq (.block 2 (.seq (.ops r45_7) (.block 3 (.seq (.ops r45_8) (.cond (.t 20) (.seq (.ops r45_9) (.ret)) (.seq (.ops r45_10) (.cond (.t 23) (.seq (.ops r45_11) (.ret)) (.skip)))))))) (.ops r45_12)))
def p45 : PCode := .seq (.ops r45_0) (.seq (.block 0 (.seq (.ops r45_1) (.cond (.t 5) (.seq (.ops r45_2) (.ret)) (.seq (.ops r45_3) (.cond (.t 9) (.seq (.ops r45_4) (.ret)) (.skip)))))) (.seq (.seq (.ops r45_5) (.block 1 (.loop l45_0))) (.seq (.ops r45_13) (.ret))))
theorem ok45 : okFunc Tryz.prog 45 [.t 2] 1 p45 = true := by kernel_rfl
theorem rise_c (l : List Int) : CallOK Tryz.prog 45 [.ro (l.map oneI)] (.val (.int .i64 (rise l))) := by
  refine call_of mixed ok45 rfl ?_
  repeat' first | ((with_reducible (first | refine condD ?_ ?_ | refine condE ?_ ?_ | refine condN ?_ ?_ | refine condI ?_ ?_ | refine condS ?_ ?_)) <;> intro h) | ((with_reducible (first | refine guardD (by with_unfolding_all rfl) ?_ ?_ | refine guardE (by with_unfolding_all rfl) ?_ ?_ | refine guardN (by with_unfolding_all rfl) ?_ ?_ | refine guardI (by with_unfolding_all rfl) ?_ ?_ | refine guardS (by with_unfolding_all rfl) ?_ ?_)) <;> intro h) | (with_reducible refine And.intro ?_ ?_; omega) | (simp only [Z0,Z1,Z2,Z3,Z4,Z5,Z6,Z7,Z8,Z9,Za,Zb,Zc,Zd,Ze,Zf,List.cons.injEq,Zg,Zh,Zi,Zj,Zk,Zl,Zm,Zn,Zo,Zp,beq_self_eq_true,bne_self_eq_false,decide_true,decide_false,Zq,Zr,Zs,Zt,Zu,Zv,Zw,Zx,Zy,Zz,Y0,Y1,Y2,Y3,Y4,Y5,Y6,Y7,Y8,Y9,Ya,Yb,Yc,Yd,Ye,Yf,Yg,Yh,lk,ef,Yi,Yj,Yk,Yl,Yo,Yp,Ys,hv,Yu,ev,Yv,Yw,Yx,Yy,Yz,X0,X1,X2,X3,X4,X5,X6,X7,X8,X9,Xa,Xb,Xc,Xd,Xe,Xf,Xg,Xh,Xi,Xj,Xk,Xl,Xm,Xn,Xo,Xp,Xq,Xr,Value.oneCell',Xs,Xt,Xu,Xv,true_and,and_true,and_self,implies_true,Xw,Xx,Xy,Xz,false_implies,W0,W1,W2,W3,W4,W5,W6,W7,W8,W9,Wa,Wb,Wc,Wd,We,Wf,Wg,reduceCtorEq,if_true,if_false,Wh,↓reduceIte,Wi,Wj,Wk,Wl,Wm,Wn,ne_eq,not_false_eq_true,not_true_eq_false,Wo,Wp,r45_0,r45_1,r45_2,r45_3,r45_4,r45_5,r45_6,r45_7,r45_8,r45_9,r45_10,r45_11,r45_12,r45_13,p45]) | (exfalso; omega)
  · have h0 : l.length = 0 := by simp at h; simp [h]
    simp [rise, h0]
  · rename_i h1
    have h0 : l.length ≠ 0 := by simp at h1; simp [h1]
    rw [rise, if_neg h0, if_pos (by omega)]
  · rename_i h1
    have h0 : l.length ≠ 0 := by simp at h1; simp [h1]
    have hl : l.length ≤ 1000 := by omega
    have hr0 : rise l = riseGo none l := by rw [rise, if_neg h0, if_neg (by omega)]
    refine loopS (fun k : Nat => mk [(0, .ro (l.map oneI)), (13, .ro (l.map oneI)), (14, .val (.int .i64 l.length)), (15, .val (.int .i64 k))]) (fun k => k ≤ l.length ∧ rise l = riseGo (prv l k) (l.drop k)) (fun k => l.length - k) 0 (weak_mk ?_) ⟨Nat.zero_le _, hr0⟩ ?_
    · simp only [Wq,Wr,wk1,Ws,Wt,Wu,Z4,Z5,Z6,Z7,Z8,Z9,Za,Zb,Zc,Zd,Ze,Zf,List.cons.injEq,Zg,Zh,Zi,Zj,Zk,Zl,Zm,Zn,Zo,Zp,beq_self_eq_true,bne_self_eq_false,decide_true,decide_false,Zq,Zr,Zs,Zt,Zu,Zv,Zw,Zx,Zy,Zz,Y0,hv,Yu,ev,Yv,Yw,Yx,Yy,Yz,X0,X1,X2,X3,X4,X5,X6,X7,X8,X9,Xa,Xb,Xc,Xd,Xe,Xf,Xg,Xh,Xi,Xj,Xk,Xl,Xm,Xn,Xo,Xp,Xq,Xr,Value.oneCell',Xs,Xt,Xu,Xv,true_and,and_true,and_self,implies_true,Xw,Xx,Xy,Xz,false_implies,W0,W1,W2,W3,W4,W5,W6,W7,W8,W9,Wa,Wb,Wc,Wd,We,Wf,Wg,reduceCtorEq,if_true,if_false,Wh,↓reduceIte,Wi,Wj,Wk,Wl,Wm,Wn,ne_eq,not_false_eq_true,not_true_eq_false,Wo,Nat.zero_ne_one]
      simp
    · rintro J hJ k ⟨hk, hg⟩
      simp only [Z0,Z1,Z2,Z3,Z4,Z5,Z6,Z7,Z8,Z9,Za,Zb,Zc,Zd,Ze,Zf,List.cons.injEq,Zg,Zh,Zi,Zj,Zk,Zl,Zm,Zn,Zo,Zp,beq_self_eq_true,bne_self_eq_false,decide_true,decide_false,Zq,Zr,Zs,Zt,Zu,Zv,Zw,Zx,Zy,Zz,Y0,Y1,Y2,Y3,Y4,Y5,Y6,Y7,Y8,Y9,Ya,Yb,Yc,Yd,Ye,Yf,Yg,Yh,lk,ef,Yi,Yj,Yk,Yl,Yo,Yp,Ys,hv,Yu,ev,Yv,Yw,Yx,Yy,Yz,X0,X1,X2,X3,X4,X5,X6,X7,X8,X9,Xa,Xb,Xc,Xd,Xe,Xf,Xg,Xh,Xi,Xj,Xk,Xl,Xm,Xn,Xo,Xp,Xq,Xr,Value.oneCell',Xs,Xt,Xu,Xv,true_and,and_true,and_self,implies_true,Xw,Xx,Xy,Xz,false_implies,W0,W1,W2,W3,W4,W5,W6,W7,W8,W9,Wa,Wb,Wc,Wd,We,Wf,Wg,reduceCtorEq,if_true,if_false,Wh,↓reduceIte,Wi,Wj,Wk,Wl,Wm,Wn,ne_eq,not_false_eq_true,not_true_eq_false,Wo,Wp,r45_0,r45_1,r45_2,r45_3,r45_4,r45_5,r45_6,r45_7,r45_8,r45_9,r45_10,r45_11,r45_12,r45_13,p45,l45_0]
      refine condD (fun h => ?_) (fun h => ?_)
      · have hlt : k < l.length := by omega
        have hr : rise l = if noTime l[k] then 1 else if (prv l k).any (l[k] ≤ ·) then 8 else riseGo (prv l (k + 1)) (l.drop (k + 1)) := by rw [hg, List.drop_eq_getElem_cons hlt, riseGo, prv_succ _ _ hlt]
        have hw : IntKind.i64.wrap (k + 1 : Int) = ((k + 1 : Nat) : Int) := wrap_in (by omega) (by omega)
        clear hg
        rcases Nat.eq_zero_or_pos k with rfl | hp
        · repeat' first | ((with_reducible (first | refine condD ?_ ?_ | refine condE ?_ ?_ | refine condN ?_ ?_ | refine condI ?_ ?_ | refine condS ?_ ?_)) <;> intro h) | ((with_reducible (first | refine guardD (by with_unfolding_all rfl) ?_ ?_ | refine guardE (by with_unfolding_all rfl) ?_ ?_ | refine guardN (by with_unfolding_all rfl) ?_ ?_ | refine guardI (by with_unfolding_all rfl) ?_ ?_ | refine guardS (by with_unfolding_all rfl) ?_ ?_)) <;> intro h) | ((refine callG (notime_c _) ?_)) | (with_reducible refine And.intro ?_ ?_; omega) | (simp only [Z0,Z1,Z2,Z3,Z4,Z5,Z6,Z7,Z8,Z9,Za,Zb,Zc,Zd,Ze,Zf,List.cons.injEq,Zg,Zh,Zi,Zj,Zk,Zl,Zm,Zn,Zo,Zp,beq_self_eq_true,bne_self_eq_false,decide_true,decide_false,Zq,Zr,Zs,Zt,Zu,Zv,Zw,Zx,Zy,Zz,Y0,Y1,Y2,Y3,Y4,Y5,Y6,Y7,Y8,Y9,Ya,Yb,Yc,Yd,Ye,Yf,Yg,Yh,lk,ef,Yi,Yj,Yk,Yl,Yo,Yp,Ys,hv,Yu,ev,Yv,Yw,Yx,Yy,Yz,X0,X1,X2,X3,X4,X5,X6,X7,X8,X9,Xa,Xb,Xc,Xd,Xe,Xf,Xg,Xh,Xi,Xj,Xk,Xl,Xm,Xn,Xo,Xp,Xq,Xr,Value.oneCell',Xs,Xt,Xu,Xv,true_and,and_true,and_self,implies_true,Xw,Xx,Xy,Xz,false_implies,W0,W1,W2,W3,W4,W5,W6,W7,W8,W9,Wa,Wb,Wc,Wd,We,Wf,Wg,reduceCtorEq,if_true,if_false,Wh,↓reduceIte,Wi,Wj,Wk,Wl,Wm,Wn,ne_eq,not_false_eq_true,not_true_eq_false,Wo,Wp,r45_0,r45_1,r45_2,r45_3,r45_4,r45_5,r45_6,r45_7,r45_8,r45_9,r45_10,r45_11,r45_12,r45_13,p45,l45_0,oneI,getD_map hlt]) | (exfalso; omega)
          all_goals try (clear hJ; simp [hr, prv, *]; done)
          exact again hJ (0 + 1) (weak_mk (by simp only [Wq,Wr,wk1,Ws,Wt,Wu,Z4,Z5,Z6,Z7,Z8,Z9,Za,Zb,Zc,Zd,Ze,Zf,List.cons.injEq,Zg,Zh,Zi,Zj,Zk,Zl,Zm,Zn,Zo,Zp,beq_self_eq_true,bne_self_eq_false,decide_true,decide_false,Zq,Zr,Zs,Zt,Zu,Zv,Zw,Zx,Zy,Zz,Y0,hv,Yu,ev,Yv,Yw,Yx,Yy,Yz,X0,X1,X2,X3,X4,X5,X6,X7,X8,X9,Xa,Xb,Xc,Xd,Xe,Xf,Xg,Xh,Xi,Xj,Xk,Xl,Xm,Xn,Xo,Xp,Xq,Xr,Value.oneCell',Xs,Xt,Xu,Xv,true_and,and_true,and_self,implies_true,Xw,Xx,Xy,Xz,false_implies,W0,W1,W2,W3,W4,W5,W6,W7,W8,W9,Wa,Wb,Wc,Wd,We,Wf,Wg,reduceCtorEq,if_true,if_false,Wh,↓reduceIte,Wi,Wj,Wk,Wl,Wm,Wn,ne_eq,not_false_eq_true,not_true_eq_false,Wo,Nat.zero_ne_one]; exact hw)) ⟨by omega, by simp [hr, prv, *, -hJ]⟩ (by omega)
        · have hlt1 : k - 1 < l.length := by omega
          have hw1 : IntKind.i64.wrap (k - 1 : Int) = ((k - 1 : Nat) : Int) := by rw [wrap_in (by omega) (by omega)]; omega
          have hpv := prv_pos l k hp hlt1
          repeat' first | ((with_reducible (first | refine condD ?_ ?_ | refine condE ?_ ?_ | refine condN ?_ ?_ | refine condI ?_ ?_ | refine condS ?_ ?_)) <;> intro h) | ((with_reducible (first | refine guardD (by with_unfolding_all rfl) ?_ ?_ | refine guardE (by with_unfolding_all rfl) ?_ ?_ | refine guardN (by with_unfolding_all rfl) ?_ ?_ | refine guardI (by with_unfolding_all rfl) ?_ ?_ | refine guardS (by with_unfolding_all rfl) ?_ ?_)) <;> intro h) | ((refine callG (notime_c _) ?_)) | (with_reducible refine And.intro ?_ ?_; omega) | (simp only [Z0,Z1,Z2,Z3,Z4,Z5,Z6,Z7,Z8,Z9,Za,Zb,Zc,Zd,Ze,Zf,List.cons.injEq,Zg,Zh,Zi,Zj,Zk,Zl,Zm,Zn,Zo,Zp,beq_self_eq_true,bne_self_eq_false,decide_true,decide_false,Zq,Zr,Zs,Zt,Zu,Zv,Zw,Zx,Zy,Zz,Y0,Y1,Y2,Y3,Y4,Y5,Y6,Y7,Y8,Y9,Ya,Yb,Yc,Yd,Ye,Yf,Yg,Yh,lk,ef,Yi,Yj,Yk,Yl,Yo,Yp,Ys,hv,Yu,ev,Yv,Yw,Yx,Yy,Yz,X0,X1,X2,X3,X4,X5,X6,X7,X8,X9,Xa,Xb,Xc,Xd,Xe,Xf,Xg,Xh,Xi,Xj,Xk,Xl,Xm,Xn,Xo,Xp,Xq,Xr,Value.oneCell',Xs,Xt,Xu,Xv,true_and,and_true,and_self,implies_true,Xw,Xx,Xy,Xz,false_implies,W0,W1,W2,W3,W4,W5,W6,W7,W8,W9,Wa,Wb,Wc,Wd,We,Wf,Wg,reduceCtorEq,if_true,if_false,Wh,↓reduceIte,Wi,Wj,Wk,Wl,Wm,Wn,ne_eq,not_false_eq_true,not_true_eq_false,Wo,Wp,r45_0,r45_1,r45_2,r45_3,r45_4,r45_5,r45_6,r45_7,r45_8,r45_9,r45_10,r45_11,r45_12,r45_13,p45,l45_0,oneI,getD_map hlt,getD_map hlt1,hw1]) | (exfalso; omega)
          all_goals try (clear hJ; simp [hr, *]; done)
          exact again hJ (k + 1) (weak_mk (by simp only [Wq,Wr,wk1,Ws,Wt,Wu,Z4,Z5,Z6,Z7,Z8,Z9,Za,Zb,Zc,Zd,Ze,Zf,List.cons.injEq,Zg,Zh,Zi,Zj,Zk,Zl,Zm,Zn,Zo,Zp,beq_self_eq_true,bne_self_eq_false,decide_true,decide_false,Zq,Zr,Zs,Zt,Zu,Zv,Zw,Zx,Zy,Zz,Y0,hv,Yu,ev,Yv,Yw,Yx,Yy,Yz,X0,X1,X2,X3,X4,X5,X6,X7,X8,X9,Xa,Xb,Xc,Xd,Xe,Xf,Xg,Xh,Xi,Xj,Xk,Xl,Xm,Xn,Xo,Xp,Xq,Xr,Value.oneCell',Xs,Xt,Xu,Xv,true_and,and_true,and_self,implies_true,Xw,Xx,Xy,Xz,false_implies,W0,W1,W2,W3,W4,W5,W6,W7,W8,W9,Wa,Wb,Wc,Wd,We,Wf,Wg,reduceCtorEq,if_true,if_false,Wh,↓reduceIte,Wi,Wj,Wk,Wl,Wm,Wn,ne_eq,not_false_eq_true,not_true_eq_false,Wo,Nat.zero_ne_one]; exact hw)) ⟨by omega, by simp [hr, *, -hJ]⟩ (by omega)
      · have hke : k = l.length := by omega
        subst hke
        repeat' first | ((with_reducible (first | refine condD ?_ ?_ | refine condE ?_ ?_ | refine condN ?_ ?_ | refine condI ?_ ?_ | refine condS ?_ ?_)) <;> intro h) | ((with_reducible (first | refine guardD (by with_unfolding_all rfl) ?_ ?_ | refine guardE (by with_unfolding_all rfl) ?_ ?_ | refine guardN (by with_unfolding_all rfl) ?_ ?_ | refine guardI (by with_unfolding_all rfl) ?_ ?_ | refine guardS (by with_unfolding_all rfl) ?_ ?_)) <;> intro h) | (with_reducible refine And.intro ?_ ?_; omega) | (simp only [Z0,Z1,Z2,Z3,Z4,Z5,Z6,Z7,Z8,Z9,Za,Zb,Zc,Zd,Ze,Zf,List.cons.injEq,Zg,Zh,Zi,Zj,Zk,Zl,Zm,Zn,Zo,Zp,beq_self_eq_true,bne_self_eq_false,decide_true,decide_false,Zq,Zr,Zs,Zt,Zu,Zv,Zw,Zx,Zy,Zz,Y0,Y1,Y2,Y3,Y4,Y5,Y6,Y7,Y8,Y9,Ya,Yb,Yc,Yd,Ye,Yf,Yg,Yh,lk,ef,Yi,Yj,Yk,Yl,Yo,Yp,Ys,hv,Yu,ev,Yv,Yw,Yx,Yy,Yz,X0,X1,X2,X3,X4,X5,X6,X7,X8,X9,Xa,Xb,Xc,Xd,Xe,Xf,Xg,Xh,Xi,Xj,Xk,Xl,Xm,Xn,Xo,Xp,Xq,Xr,Value.oneCell',Xs,Xt,Xu,Xv,true_and,and_true,and_self,implies_true,Xw,Xx,Xy,Xz,false_implies,W0,W1,W2,W3,W4,W5,W6,W7,W8,W9,Wa,Wb,Wc,Wd,We,Wf,Wg,reduceCtorEq,if_true,if_false,Wh,↓reduceIte,Wi,Wj,Wk,Wl,Wm,Wn,ne_eq,not_false_eq_true,not_true_eq_false,Wo,Wp,r45_0,r45_1,r45_2,r45_3,r45_4,r45_5,r45_6,r45_7,r45_8,r45_9,r45_10,r45_11,r45_12,r45_13,p45,l45_0]) | (exfalso; omega)
        simp [hg, riseGo]
/-! headend/cut.wishFault -/
def r30_0 : List POp := [⟨3, .boxs (.t 1), none⟩,
  ⟨4, .asg (.c (.int .i64 0)), none⟩]
def r30_1 : List POp := [⟨5, .fld 0 (.t 3), none⟩,
  ⟨6, .load (.t 5), none⟩,
  ⟨7, .call 26 [.t 6], none⟩,
  ⟨8, .mv (.t 7), none⟩,
  ⟨9, .fld 1 (.t 3), some (8, false)⟩,
  ⟨10, .load (.t 9), some (8, false)⟩,
  ⟨11, .call 41 [.t 10, .c (.int .i64 1), .c (.int .i64 50000000)], some (8, false)⟩,
  ⟨12, .pick (.t 8) (.c (.bool true)) (.t 11), none⟩,
  ⟨13, .mv (.t 12), none⟩,
  ⟨14, .fld 2 (.t 3), some (13, false)⟩,
  ⟨15, .load (.t 14), some (13, false)⟩,
  ⟨16, .fld 1 (.t 3), some (13, false)⟩,
  ⟨17, .load (.t 16), some (13, false)⟩,
  ⟨18, .call 41 [.t 15, .t 17, .c (.int .i64 50000000)], some (13, false)⟩,
  ⟨19, .pick (.t 13) (.c (.bool true)) (.t 18), none⟩]
def r30_2 : List POp := [⟨4, .asg (.c (.int .i64 1)), none⟩]
def r30_3 : List POp := [⟨20, .mv (.t 0), none⟩,
  ⟨21, .call 45 [.t 20], none⟩,
  ⟨4, .asg (.t 21), none⟩]
def p30 : PCode := .seq (.ops r30_0) (.seq (.seq (.ops r30_1) (.cond (.t 19) (.seq (.ops r30_2) (.ret)) (.skip))) (.seq (.ops r30_3) (.ret)))
theorem ok30 : okFunc Tryz.prog 30 [.t 4] 2 p30 = true := by kernel_rfl
def wishB (sc t m : Int) : Bool := noScale sc || outB t 1 50000000 || outB m t 50000000
def wishF (l : List Int) (sc t m : Int) : Int := if wishB sc t m then 1 else rise l
theorem wish_c (l : List Int) (sc t m : Int) : CallOK Tryz.prog 30 [.ro (l.map oneI), .agg [.val (.int .i64 sc), .val (.int .i64 t), .val (.int .i64 m)]] (.val (.int .i64 (wishF l sc t m))) := by
  refine call_of mixed ok30 rfl ?_
  repeat' first | ((with_reducible (first | refine condD ?_ ?_ | refine condE ?_ ?_ | refine condN ?_ ?_ | refine condI ?_ ?_ | refine condS ?_ ?_)) <;> intro h) | ((with_reducible (first | refine guardD (by with_unfolding_all rfl) ?_ ?_ | refine guardE (by with_unfolding_all rfl) ?_ ?_ | refine guardN (by with_unfolding_all rfl) ?_ ?_ | refine guardI (by with_unfolding_all rfl) ?_ ?_ | refine guardS (by with_unfolding_all rfl) ?_ ?_)) <;> intro h) | ((refine callG (noscale_c _) ?_)) | ((refine callG (out_c _ _ _) ?_)) | ((refine callG (rise_c _) ?_)) | (with_reducible refine And.intro ?_ ?_; omega) | (simp only [Z0,Z1,Z2,Z3,Z4,Z5,Z6,Z7,Z8,Z9,Za,Zb,Zc,Zd,Ze,Zf,List.cons.injEq,Zg,Zh,Zi,Zj,Zk,Zl,Zm,Zn,Zo,Zp,beq_self_eq_true,bne_self_eq_false,decide_true,decide_false,Zq,Zr,Zs,Zt,Zu,Zv,Zw,Zx,Zy,Zz,Y0,Y1,Y2,Y3,Y4,Y5,Y6,Y7,Y8,Y9,Ya,Yb,Yc,Yd,Ye,Yf,Yg,Yh,lk,ef,Yi,Yj,Yl,Yn,Yq,Ys,hv,Yu,ev,Yv,Yw,Yx,Yy,Yz,X0,X1,X2,X3,X4,X5,X6,X7,X8,X9,Xa,Xb,Xc,Xd,Xe,Xf,Xg,Xh,Xi,Xj,Xk,Xl,Xm,Xn,Xo,Xp,Xq,Xr,Value.oneCell',Xs,Xt,Xu,Xv,true_and,and_true,and_self,implies_true,Xw,Xx,Xy,Xz,false_implies,W0,W1,W2,W3,W4,W5,W6,W7,W8,W9,Wa,Wb,Wc,Wd,We,Wf,Wg,reduceCtorEq,if_true,if_false,Wh,↓reduceIte,Wi,Wj,Wk,Wl,Wm,Wn,ne_eq,not_false_eq_true,not_true_eq_false,Wo,Wp,r30_0,r30_1,r30_2,r30_3,p30]) | (exfalso; omega)
  all_goals simp [wishF, wishB, *]

/-- The boundaries out of the places that are left, number k being the next one. -/
def gridGo (p t : Int) : Nat → List Int → List Int
  | _, [] => []
  | k, x :: r => if x - p < k * t then gridGo p t k r else x :: gridGo p t (k + 1) r
def grid (t : Int) : List Int → List Int
  | [] => []
  | p :: r => p :: gridGo p t 1 r
theorem rise_0 {l : List Int} (h : rise l = 0) : 0 < l.length ∧ l.length ≤ 1000 ∧ riseGo none l = 0 := by
  unfold rise at h
  split at h
  · omega
  · split at h
    · omega
    · exact ⟨by omega, by omega, h⟩
theorem noTime_f {n : Int} (h : noTime n = false) : -1000000000000000 ≤ n ∧ n ≤ 1000000000000000 := outB_f h
theorem riseGo_times : ∀ {l : List Int} {p : Option Int}, riseGo p l = 0 → ∀ x ∈ l, -1000000000000000 ≤ x ∧ x ≤ 1000000000000000
  | [], _, _, x, hx => by simp at hx
  | t :: r, p, h, x, hx => by
    unfold riseGo at h
    cases ht : noTime t
    · rw [ht] at h
      simp only [Bool.false_eq_true, if_false] at h
      split at h
      · omega
      · rcases List.mem_cons.1 hx with rfl | hx
        · exact noTime_f ht
        · exact riseGo_times h x hx
    · simp [ht] at h
theorem mul_bd {k : Nat} {t : Int} (hk : k ≤ 1001) (h1 : 1 ≤ t) (h2 : t ≤ 50000000) : 0 ≤ (k : Int) * t ∧ (k : Int) * t ≤ 50050000000 := by
  constructor
  · exact Int.mul_nonneg (by omega) (by omega)
  · calc (k : Int) * t ≤ 1001 * t := Int.mul_le_mul_of_nonneg_right (by omega) (by omega)
      _ ≤ _ := by omega
theorem wishF_0 {l : List Int} {sc t m : Int} (h : wishF l sc t m = 0) : noScale sc = false ∧ 1 ≤ t ∧ t ≤ m ∧ m ≤ 50000000 ∧ rise l = 0 := by
  unfold wishF at h
  cases hb : wishB sc t m
  · simp only [hb, Bool.false_eq_true, if_false] at h
    simp only [wishB, Bool.or_eq_false_iff] at hb
    obtain ⟨⟨h1, h2⟩, h3⟩ := hb
    have := outB_f h2
    have := outB_f h3
    exact ⟨h1, by omega, by omega, by omega, h⟩
  · simp [hb] at h
/-! headend/cut.Grid -/
def r19_0 : List POp := [⟨3, .boxs (.t 1), none⟩,
  ⟨4, .asg .nil, none⟩,
  ⟨5, .asg (.c (.int .i64 0)), none⟩]
def r19_1 : List POp := [⟨10, .mv (.t 0), none⟩,
  ⟨11, .loads 3 (.t 3), none⟩,
  ⟨12, .call 30 [.t 10, .t 11], none⟩,
  ⟨6, .asg (.t 12), none⟩]
def r19_2 : List POp := [⟨13, .mv (.t 6), none⟩,
  ⟨14, .bin .neq (.t 13) (.c (.int .i64 0)), none⟩]
def r19_3 : List POp := [⟨15, .mv (.t 6), none⟩,
  ⟨4, .asg .nil, none⟩,
  ⟨5, .mv (.t 15), none⟩]
def r19_4 : List POp := [⟨16, .mv (.t 0), none⟩,
  ⟨17, .idx 1 (.t 16) (.c (.int .i64 0)), none⟩,
  ⟨18, .load (.t 17), none⟩,
  ⟨19, .row 3 1 [.t 18], none⟩,
  ⟨7, .asg (.t 19), none⟩]
def r19_5 : List POp := [⟨8, .asg (.c (.int .i64 1)), none⟩]
def r19_6 : List POp := [⟨9, .asg (.c (.int .i64 1)), none⟩]
def r19_8 : List POp := [⟨22, .mv (.t 8), none⟩,
  ⟨23, .mv (.t 0), none⟩,
  ⟨24, .len (.t 23), none⟩,
  ⟨25, .bin .lss (.t 22) (.t 24), none⟩,
  ⟨26, .mv (.t 25), none⟩,
  ⟨27, .mv (.t 0), some (26, true)⟩,
  ⟨28, .mv (.t 8), some (26, true)⟩,
  ⟨29, .idx 1 (.t 27) (.t 28), some (26, true)⟩,
  ⟨30, .load (.t 29), some (26, true)⟩,
  ⟨31, .mv (.t 0), some (26, true)⟩,
  ⟨32, .idx 1 (.t 31) (.c (.int .i64 0)), some (26, true)⟩,
  ⟨33, .load (.t 32), some (26, true)⟩,
  ⟨34, .bin .sub (.t 30) (.t 33), some (26, true)⟩,
  ⟨35, .mv (.t 9), some (26, true)⟩,
  ⟨36, .fld 1 (.t 3), some (26, true)⟩,
  ⟨37, .load (.t 36), some (26, true)⟩,
  ⟨38, .bin .mul (.t 35) (.t 37), some (26, true)⟩,
  ⟨39, .bin .lss (.t 34) (.t 38), some (26, true)⟩,
  ⟨40, .pick (.t 26) (.t 39) (.c (.bool false)), none⟩]
def r19_9 : List POp := [⟨41, .mv (.t 8), none⟩,
  ⟨42, .bin .add (.t 41) (.c (.int .i64 1)), none⟩,
  ⟨8, .asg (.t 42), none⟩]
def r19_10 : List POp := [⟨43, .mv (.t 8), none⟩,
  ⟨44, .mv (.t 0), none⟩,
  ⟨45, .len (.t 44), none⟩,
  ⟨46, .bin .geq (.t 43) (.t 45), none⟩]
def r19_11 : List POp := [⟨47, .mv (.t 7), none⟩,
  ⟨4, .asg (.t 47), none⟩,
  ⟨5, .asg (.c (.int .i64 0)), none⟩]
def r19_12 : List POp := [⟨48, .mv (.t 7), none⟩,
  ⟨49, .mv (.t 0), none⟩,
  ⟨50, .mv (.t 8), none⟩,
  ⟨51, .idx 1 (.t 49) (.t 50), none⟩,
  ⟨52, .load (.t 51), none⟩,
  ⟨53, .row 3 1 [.t 52], none⟩,
  ⟨54, .app 3 1 8 (.t 48) (.t 53), none⟩,
  ⟨7, .asg (.t 54), none⟩]
def r19_13 : List POp := [⟨55, .mv (.t 8), none⟩,
  ⟨56, .bin .add (.t 55) (.c (.int .i64 1)), none⟩,
  ⟨8, .asg (.t 56), none⟩]
def r19_7 : List POp := [⟨20, .mv (.t 9), none⟩,
  ⟨21, .bin .add (.t 20) (.c (.int .i64 1)), none⟩,
  ⟨9, .asg (.t 21), none⟩]
def l19_1 : PCode := .seq (.seq (.ops r19_8) (.cond (.t 40) (.skip) (.exit 2))) (.block 3 (.ops r19_9))
def l19_0 : PCode := .seq (.block 1 (.seq (.block 2 (.loop l19_1)) (.seq (.seq (.ops r19_10) (.cond (.t 46) (.seq (.ops r19_11) (.ret)) (.skip))) (.seq (.ops r19_12) (.ops r19_13))))) (.ops r19_7)
def p19 : PCode := .seq (.ops r19_0) (.seq (.seq (.ops r19_1) (.seq (.ops r19_2) (.cond (.t 14) (.seq (.ops r19_3) (.ret)) (.skip)))) (.seq (.ops r19_4) (.seq (.ops r19_5) (.seq (.ops r19_6) (.block 0 (.loop l19_0))))))
theorem ok19 : okFunc Tryz.prog 19 [.t 4, .t 5] 2 p19 = true := by kernel_rfl
def gridR (l : List Int) (sc t m : Int) : List Int × Int := if wishF l sc t m ≠ 0 then ([], wishF l sc t m) else (grid t l, 0)
theorem grid_c (l : List Int) (sc t m : Int) : CallOK Tryz.prog 19 [.ro (l.map oneI), .agg [.val (.int .i64 sc), .val (.int .i64 t), .val (.int .i64 m)]] (.tup [.ro ((gridR l sc t m).1.map oneI), .val (.int .i64 (gridR l sc t m).2)]) := by
  refine call_of mixed ok19 rfl ?_
  repeat' first | ((with_reducible (first | refine condD ?_ ?_ | refine condE ?_ ?_ | refine condN ?_ ?_ | refine condI ?_ ?_ | refine condS ?_ ?_)) <;> intro h) | ((with_reducible (first | refine guardD (by with_unfolding_all rfl) ?_ ?_ | refine guardE (by with_unfolding_all rfl) ?_ ?_ | refine guardN (by with_unfolding_all rfl) ?_ ?_ | refine guardI (by with_unfolding_all rfl) ?_ ?_ | refine guardS (by with_unfolding_all rfl) ?_ ?_)) <;> intro h) | ((refine callG (wish_c _ _ _ _) ?_)) | (with_reducible refine And.intro ?_ ?_; omega) | (simp only [Z0,Z1,Z2,Z3,Z4,Z5,Z6,Z7,Z8,Z9,Za,Zb,Zc,Zd,Ze,Zf,List.cons.injEq,Zg,Zh,Zi,Zj,Zk,Zl,Zm,Zn,Zo,Zp,beq_self_eq_true,bne_self_eq_false,decide_true,decide_false,Zq,Zr,Zs,Zt,Zu,Zv,Zw,Zx,Zy,Zz,Y0,Y1,Y2,Y3,Y4,Y5,Y6,Y7,Y8,Y9,Ya,Yb,Yc,Yd,Ye,Yf,Yg,Yh,lk,ef,Yi,Yj,Yk,Yl,Ym,Yn,Yo,Yp,Yq,Yr,Ys,Yt,hv,Yu,ev,Yv,Yw,Yx,Yy,Yz,X0,X1,X2,X3,X4,X5,X6,X7,X8,X9,Xa,Xb,Xc,Xd,Xe,Xf,Xg,Xh,Xi,Xj,Xk,Xl,Xm,Xn,Xo,Xp,Xq,Xr,Value.oneCell',Xs,Xt,Xu,Xv,true_and,and_true,and_self,implies_true,Xw,Xx,Xy,Xz,false_implies,W0,W1,W2,W3,W4,W5,W6,W7,W8,W9,Wa,Wb,Wc,Wd,We,Wf,Wg,reduceCtorEq,if_true,if_false,Wh,↓reduceIte,Wi,Wj,Wk,Wl,Wm,Wn,ne_eq,not_false_eq_true,not_true_eq_false,Wo,Wp,r19_0,r19_1,r19_2,r19_3,r19_4,r19_5,r19_6,r19_8,r19_9,r19_10,r19_11,r19_12,r19_13,r19_7,p19]) | (exfalso; omega)
  · have h0 : wishF l sc t m ≠ 0 := by simpa using h
    simp [gridR, h0]
  · have h0 : wishF l sc t m = 0 := by simpa using h
    obtain ⟨_, t1, t2, t3, hr⟩ := wishF_0 h0
    obtain ⟨hl0, hl1, hrg⟩ := rise_0 hr
    have htm := riseGo_times hrg
    have hp0 := htm l[0] (List.getElem_mem hl0)
    have hg0 : (gridR l sc t m).1 = l[0] :: gridGo l[0] t 1 (l.drop 1) := by
      simp only [gridR, h0]
      cases l with
      | nil => simp at hl0
      | cons a b => rfl
    have hg2 : (gridR l sc t m).2 = 0 := by simp [gridR, h0]
    repeat' first | ((with_reducible (first | refine condD ?_ ?_ | refine condE ?_ ?_ | refine condN ?_ ?_ | refine condI ?_ ?_ | refine condS ?_ ?_)) <;> intro h) | ((with_reducible (first | refine guardD (by with_unfolding_all rfl) ?_ ?_ | refine guardE (by with_unfolding_all rfl) ?_ ?_ | refine guardN (by with_unfolding_all rfl) ?_ ?_ | refine guardI (by with_unfolding_all rfl) ?_ ?_ | refine guardS (by with_unfolding_all rfl) ?_ ?_)) <;> intro h) | (with_reducible refine And.intro ?_ ?_; omega) | (simp only [Z0,Z1,Z2,Z3,Z4,Z5,Z6,Z7,Z8,Z9,Za,Zb,Zc,Zd,Ze,Zf,List.cons.injEq,Zg,Zh,Zi,Zj,Zk,Zl,Zm,Zn,Zo,Zp,beq_self_eq_true,bne_self_eq_false,decide_true,decide_false,Zq,Zr,Zs,Zt,Zu,Zv,Zw,Zx,Zy,Zz,Y0,Y1,Y2,Y3,Y4,Y5,Y6,Y7,Y8,Y9,Ya,Yb,Yc,Yd,Ye,Yf,Yg,Yh,lk,ef,Yi,Yj,Yk,Yl,Ym,Yn,Yo,Yp,Yq,Yr,Ys,Yt,hv,Yu,ev,Yv,Yw,Yx,Yy,Yz,X0,X1,X2,X3,X4,X5,X6,X7,X8,X9,Xa,Xb,Xc,Xd,Xe,Xf,Xg,Xh,Xi,Xj,Xk,Xl,Xm,Xn,Xo,Xp,Xq,Xr,Value.oneCell',Xs,Xt,Xu,Xv,true_and,and_true,and_self,implies_true,Xw,Xx,Xy,Xz,false_implies,W0,W1,W2,W3,W4,W5,W6,W7,W8,W9,Wa,Wb,Wc,Wd,We,Wf,Wg,reduceCtorEq,if_true,if_false,Wh,↓reduceIte,Wi,Wj,Wk,Wl,Wm,Wn,ne_eq,not_false_eq_true,not_true_eq_false,Wo,Wp,r19_0,r19_1,r19_2,r19_3,r19_4,r19_5,r19_6,r19_8,r19_9,r19_10,r19_11,r19_12,r19_13,r19_7,p19,oneI,getD_map hl0]) | (exfalso; omega)
    refine loopS (fun p : Nat × Nat × List Int => mk [(0, .ro (l.map oneI)), (3, .box [.val (.int .i64 sc), .val (.int .i64 t), .val (.int .i64 m)]), (7, .own 3 1 (p.2.2.map oneI)), (8, .val (.int .i64 p.1)), (9, .val (.int .i64 p.2.1))])
      (fun p => p.1 ≤ l.length ∧ 1 ≤ p.2.1 ∧ p.2.1 ≤ p.1 ∧ p.2.2.length ≤ p.1 ∧ (gridR l sc t m).1 = p.2.2 ++ gridGo l[0] t p.2.1 (l.drop p.1)) (fun p => l.length + 1 - p.1) (1, 1, [l[0]]) (weak_mk ?_) ⟨hl0, Nat.le_refl _, Nat.le_refl _, Nat.le_refl _, hg0⟩ ?_
    · simp only [Wq,Wr,wk1,Ws,Wt,Wu,Z4,Z5,Z6,Z7,Z8,Z9,Za,Zb,Zc,Zd,Ze,Zf,List.cons.injEq,Zg,Zh,Zi,Zj,Zk,Zl,Zm,Zn,Zo,Zp,beq_self_eq_true,bne_self_eq_false,decide_true,decide_false,Zq,Zr,Zs,Zt,Zu,Zv,Zw,Zx,Zy,Zz,Y0,hv,Yu,ev,Yv,Yw,Yx,Yy,Yz,X0,X1,X2,X3,X4,X5,X6,X7,X8,X9,Xa,Xb,Xc,Xd,Xe,Xf,Xg,Xh,Xi,Xj,Xk,Xl,Xm,Xn,Xo,Xp,Xq,Xr,Value.oneCell',Xs,Xt,Xu,Xv,true_and,and_true,and_self,implies_true,Xw,Xx,Xy,Xz,false_implies,W0,W1,W2,W3,W4,W5,W6,W7,W8,W9,Wa,Wb,Wc,Wd,We,Wf,Wg,reduceCtorEq,if_true,if_false,Wh,↓reduceIte,Wi,Wj,Wk,Wl,Wm,Wn,ne_eq,not_false_eq_true,not_true_eq_false,Wo,Nat.zero_ne_one]
      simp [oneI]
    · rintro J hJ ⟨i, k, out⟩ ⟨hi, hk1, hki, ho, hg⟩
      simp only at hi hk1 hki ho hg
      repeat' first | ((with_reducible (first | refine condD ?_ ?_ | refine condE ?_ ?_ | refine condN ?_ ?_ | refine condI ?_ ?_ | refine condS ?_ ?_)) <;> intro h) | ((with_reducible (first | refine guardD (by with_unfolding_all rfl) ?_ ?_ | refine guardE (by with_unfolding_all rfl) ?_ ?_ | refine guardN (by with_unfolding_all rfl) ?_ ?_ | refine guardI (by with_unfolding_all rfl) ?_ ?_ | refine guardS (by with_unfolding_all rfl) ?_ ?_)) <;> intro h) | (with_reducible refine And.intro ?_ ?_; omega) | (simp only [Z0,Z1,Z2,Z3,Z4,Z5,Z6,Z7,Z8,Z9,Za,Zb,Zc,Zd,Ze,Zf,List.cons.injEq,Zg,Zh,Zi,Zj,Zk,Zl,Zm,Zn,Zo,Zp,beq_self_eq_true,bne_self_eq_false,decide_true,decide_false,Zq,Zr,Zs,Zt,Zu,Zv,Zw,Zx,Zy,Zz,Y0,Y1,Y2,Y3,Y4,Y5,Y6,Y7,Y8,Y9,Ya,Yb,Yc,Yd,Ye,Yf,Yg,Yh,lk,ef,Yi,Yj,Yk,Yl,Ym,Yn,Yo,Yp,Yq,Yr,Ys,Yt,hv,Yu,ev,Yv,Yw,Yx,Yy,Yz,X0,X1,X2,X3,X4,X5,X6,X7,X8,X9,Xa,Xb,Xc,Xd,Xe,Xf,Xg,Xh,Xi,Xj,Xk,Xl,Xm,Xn,Xo,Xp,Xq,Xr,Value.oneCell',Xs,Xt,Xu,Xv,true_and,and_true,and_self,implies_true,Xw,Xx,Xy,Xz,false_implies,W0,W1,W2,W3,W4,W5,W6,W7,W8,W9,Wa,Wb,Wc,Wd,We,Wf,Wg,reduceCtorEq,if_true,if_false,Wh,↓reduceIte,Wi,Wj,Wk,Wl,Wm,Wn,ne_eq,not_false_eq_true,not_true_eq_false,Wo,Wp,r19_0,r19_1,r19_2,r19_3,r19_4,r19_5,r19_6,r19_8,r19_9,r19_10,r19_11,r19_12,r19_13,r19_7,p19,l19_0,l19_1]) | (exfalso; omega)

      refine loopS (fun q : Nat => mk [(0, .ro (l.map oneI)), (3, .box [.val (.int .i64 sc), .val (.int .i64 t), .val (.int .i64 m)]), (7, .own 3 1 (out.map oneI)), (8, .val (.int .i64 q)), (9, .val (.int .i64 k))])
        (fun q => i ≤ q ∧ q ≤ l.length ∧ (gridR l sc t m).1 = out ++ gridGo l[0] t k (l.drop q)) (fun q => l.length - q) i (weak_mk ?_) ⟨Nat.le_refl _, hi, hg⟩ ?_
      · simp only [Wq,Wr,wk1,Ws,Wt,Wu,Z4,Z5,Z6,Z7,Z8,Z9,Za,Zb,Zc,Zd,Ze,Zf,List.cons.injEq,Zg,Zh,Zi,Zj,Zk,Zl,Zm,Zn,Zo,Zp,beq_self_eq_true,bne_self_eq_false,decide_true,decide_false,Zq,Zr,Zs,Zt,Zu,Zv,Zw,Zx,Zy,Zz,Y0,hv,Yu,ev,Yv,Yw,Yx,Yy,Yz,X0,X1,X2,X3,X4,X5,X6,X7,X8,X9,Xa,Xb,Xc,Xd,Xe,Xf,Xg,Xh,Xi,Xj,Xk,Xl,Xm,Xn,Xo,Xp,Xq,Xr,Value.oneCell',Xs,Xt,Xu,Xv,true_and,and_true,and_self,implies_true,Xw,Xx,Xy,Xz,false_implies,W0,W1,W2,W3,W4,W5,W6,W7,W8,W9,Wa,Wb,Wc,Wd,We,Wf,Wg,reduceCtorEq,if_true,if_false,Wh,↓reduceIte,Wi,Wj,Wk,Wl,Wm,Wn,ne_eq,not_false_eq_true,not_true_eq_false,Wo,Nat.zero_ne_one]
      · rintro J2 hJ2 q ⟨hiq, hq, hg⟩
        have hmb := mul_bd (k := k) (t := t) (by omega) t1 (by omega)
        have hwm : IntKind.i64.wrap (k * t) = k * t := wrap_in (by omega) (by omega)
        have hwk : IntKind.i64.wrap (k + 1 : Int) = ((k + 1 : Nat) : Int) := wrap_in (by omega) (by omega)
        have hwq : IntKind.i64.wrap (q + 1 : Int) = ((q + 1 : Nat) : Int) := wrap_in (by omega) (by omega)
        simp only [Z0,Z1,Z2,Z3,Z4,Z5,Z6,Z7,Z8,Z9,Za,Zb,Zc,Zd,Ze,Zf,List.cons.injEq,Zg,Zh,Zi,Zj,Zk,Zl,Zm,Zn,Zo,Zp,beq_self_eq_true,bne_self_eq_false,decide_true,decide_false,Zq,Zr,Zs,Zt,Zu,Zv,Zw,Zx,Zy,Zz,Y0,Y1,Y2,Y3,Y4,Y5,Y6,Y7,Y8,Y9,Ya,Yb,Yc,Yd,Ye,Yf,Yg,Yh,lk,ef,Yi,Yj,Yk,Yl,Ym,Yn,Yo,Yp,Yq,Yr,Ys,Yt,hv,Yu,ev,Yv,Yw,Yx,Yy,Yz,X0,X1,X2,X3,X4,X5,X6,X7,X8,X9,Xa,Xb,Xc,Xd,Xe,Xf,Xg,Xh,Xi,Xj,Xk,Xl,Xm,Xn,Xo,Xp,Xq,Xr,Value.oneCell',Xs,Xt,Xu,Xv,true_and,and_true,and_self,implies_true,Xw,Xx,Xy,Xz,false_implies,W0,W1,W2,W3,W4,W5,W6,W7,W8,W9,Wa,Wb,Wc,Wd,We,Wf,Wg,reduceCtorEq,if_true,if_false,Wh,↓reduceIte,Wi,Wj,Wk,Wl,Wm,Wn,ne_eq,not_false_eq_true,not_true_eq_false,Wo,Wp,r19_0,r19_1,r19_2,r19_3,r19_4,r19_5,r19_6,r19_8,r19_9,r19_10,r19_11,r19_12,r19_13,r19_7,p19]
        refine guardD (by with_unfolding_all rfl) (fun h => ?_) (fun h => ?_)
        · have hlt : q < l.length := by omega
          have hpq := htm l[q] (List.getElem_mem hlt)
          have hws : IntKind.i64.wrap (l[q] - l[0]) = l[q] - l[0] := wrap_in (by omega) (by omega)
          have hr : gridGo l[0] t k (l.drop q) = if l[q] - l[0] < k * t then gridGo l[0] t k (l.drop (q + 1)) else l[q] :: gridGo l[0] t (k + 1) (l.drop (q + 1)) := by rw [List.drop_eq_getElem_cons hlt, gridGo]
          repeat' first | ((with_reducible (first | refine condD ?_ ?_ | refine condE ?_ ?_ | refine condN ?_ ?_ | refine condI ?_ ?_ | refine condS ?_ ?_)) <;> intro h) | ((with_reducible (first | refine guardD (by with_unfolding_all rfl) ?_ ?_ | refine guardE (by with_unfolding_all rfl) ?_ ?_ | refine guardN (by with_unfolding_all rfl) ?_ ?_ | refine guardI (by with_unfolding_all rfl) ?_ ?_ | refine guardS (by with_unfolding_all rfl) ?_ ?_)) <;> intro h) | (with_reducible refine And.intro ?_ ?_; omega) | (simp only [Z0,Z1,Z2,Z3,Z4,Z5,Z6,Z7,Z8,Z9,Za,Zb,Zc,Zd,Ze,Zf,List.cons.injEq,Zg,Zh,Zi,Zj,Zk,Zl,Zm,Zn,Zo,Zp,beq_self_eq_true,bne_self_eq_false,decide_true,decide_false,Zq,Zr,Zs,Zt,Zu,Zv,Zw,Zx,Zy,Zz,Y0,Y1,Y2,Y3,Y4,Y5,Y6,Y7,Y8,Y9,Ya,Yb,Yc,Yd,Ye,Yf,Yg,Yh,lk,ef,Yi,Yj,Yk,Yl,Ym,Yn,Yo,Yp,Yq,Yr,Ys,Yt,hv,Yu,ev,Yv,Yw,Yx,Yy,Yz,X0,X1,X2,X3,X4,X5,X6,X7,X8,X9,Xa,Xb,Xc,Xd,Xe,Xf,Xg,Xh,Xi,Xj,Xk,Xl,Xm,Xn,Xo,Xp,Xq,Xr,Value.oneCell',Xs,Xt,Xu,Xv,true_and,and_true,and_self,implies_true,Xw,Xx,Xy,Xz,false_implies,W0,W1,W2,W3,W4,W5,W6,W7,W8,W9,Wa,Wb,Wc,Wd,We,Wf,Wg,reduceCtorEq,if_true,if_false,Wh,↓reduceIte,Wi,Wj,Wk,Wl,Wm,Wn,ne_eq,not_false_eq_true,not_true_eq_false,Wo,Wp,r19_0,r19_1,r19_2,r19_3,r19_4,r19_5,r19_6,r19_8,r19_9,r19_10,r19_11,r19_12,r19_13,r19_7,p19,oneI,getD_map hlt,getD_map hl0,hwm,hws]) | (exfalso; omega)
          · exact again hJ2 (q + 1) (weak_mk (by simp only [Wq,Wr,wk1,Ws,Wt,Wu,Z4,Z5,Z6,Z7,Z8,Z9,Za,Zb,Zc,Zd,Ze,Zf,List.cons.injEq,Zg,Zh,Zi,Zj,Zk,Zl,Zm,Zn,Zo,Zp,beq_self_eq_true,bne_self_eq_false,decide_true,decide_false,Zq,Zr,Zs,Zt,Zu,Zv,Zw,Zx,Zy,Zz,Y0,hv,Yu,ev,Yv,Yw,Yx,Yy,Yz,X0,X1,X2,X3,X4,X5,X6,X7,X8,X9,Xa,Xb,Xc,Xd,Xe,Xf,Xg,Xh,Xi,Xj,Xk,Xl,Xm,Xn,Xo,Xp,Xq,Xr,Value.oneCell',Xs,Xt,Xu,Xv,true_and,and_true,and_self,implies_true,Xw,Xx,Xy,Xz,false_implies,W0,W1,W2,W3,W4,W5,W6,W7,W8,W9,Wa,Wb,Wc,Wd,We,Wf,Wg,reduceCtorEq,if_true,if_false,Wh,↓reduceIte,Wi,Wj,Wk,Wl,Wm,Wn,ne_eq,not_false_eq_true,not_true_eq_false,Wo,Nat.zero_ne_one]; exact hwq)) ⟨by omega, by omega, by rw [hg, hr, if_pos h]⟩ (by omega)
          · exact again hJ (q + 1, k + 1, out ++ [l[q]]) (weak_mk (by simp only [Wq,Wr,wk1,Ws,Wt,Wu,Z4,Z5,Z6,Z7,Z8,Z9,Za,Zb,Zc,Zd,Ze,Zf,List.cons.injEq,Zg,Zh,Zi,Zj,Zk,Zl,Zm,Zn,Zo,Zp,beq_self_eq_true,bne_self_eq_false,decide_true,decide_false,Zq,Zr,Zs,Zt,Zu,Zv,Zw,Zx,Zy,Zz,Y0,hv,Yu,ev,Yv,Yw,Yx,Yy,Yz,X0,X1,X2,X3,X4,X5,X6,X7,X8,X9,Xa,Xb,Xc,Xd,Xe,Xf,Xg,Xh,Xi,Xj,Xk,Xl,Xm,Xn,Xo,Xp,Xq,Xr,Value.oneCell',Xs,Xt,Xu,Xv,true_and,and_true,and_self,implies_true,Xw,Xx,Xy,Xz,false_implies,W0,W1,W2,W3,W4,W5,W6,W7,W8,W9,Wa,Wb,Wc,Wd,We,Wf,Wg,reduceCtorEq,if_true,if_false,Wh,↓reduceIte,Wi,Wj,Wk,Wl,Wm,Wn,ne_eq,not_false_eq_true,not_true_eq_false,Wo,Nat.zero_ne_one]; exact ⟨by simp [oneI], hwq, hwk⟩)) ⟨by simp only; omega, by simp only; omega, by simp only; omega, by simp; omega, by rw [hg, hr, if_neg (by omega)]; simp⟩ (by simp only; omega)
        · have hqe : q = l.length := by omega
          subst hqe
          repeat' first | ((with_reducible (first | refine condD ?_ ?_ | refine condE ?_ ?_ | refine condN ?_ ?_ | refine condI ?_ ?_ | refine condS ?_ ?_)) <;> intro h) | ((with_reducible (first | refine guardD (by with_unfolding_all rfl) ?_ ?_ | refine guardE (by with_unfolding_all rfl) ?_ ?_ | refine guardN (by with_unfolding_all rfl) ?_ ?_ | refine guardI (by with_unfolding_all rfl) ?_ ?_ | refine guardS (by with_unfolding_all rfl) ?_ ?_)) <;> intro h) | (with_reducible refine And.intro ?_ ?_; omega) | (simp only [Z0,Z1,Z2,Z3,Z4,Z5,Z6,Z7,Z8,Z9,Za,Zb,Zc,Zd,Ze,Zf,List.cons.injEq,Zg,Zh,Zi,Zj,Zk,Zl,Zm,Zn,Zo,Zp,beq_self_eq_true,bne_self_eq_false,decide_true,decide_false,Zq,Zr,Zs,Zt,Zu,Zv,Zw,Zx,Zy,Zz,Y0,Y1,Y2,Y3,Y4,Y5,Y6,Y7,Y8,Y9,Ya,Yb,Yc,Yd,Ye,Yf,Yg,Yh,lk,ef,Yi,Yj,Yk,Yl,Ym,Yn,Yo,Yp,Yq,Yr,Ys,Yt,hv,Yu,ev,Yv,Yw,Yx,Yy,Yz,X0,X1,X2,X3,X4,X5,X6,X7,X8,X9,Xa,Xb,Xc,Xd,Xe,Xf,Xg,Xh,Xi,Xj,Xk,Xl,Xm,Xn,Xo,Xp,Xq,Xr,Value.oneCell',Xs,Xt,Xu,Xv,true_and,and_true,and_self,implies_true,Xw,Xx,Xy,Xz,false_implies,W0,W1,W2,W3,W4,W5,W6,W7,W8,W9,Wa,Wb,Wc,Wd,We,Wf,Wg,reduceCtorEq,if_true,if_false,Wh,↓reduceIte,Wi,Wj,Wk,Wl,Wm,Wn,ne_eq,not_false_eq_true,not_true_eq_false,Wo,Wp,r19_0,r19_1,r19_2,r19_3,r19_4,r19_5,r19_6,r19_8,r19_9,r19_10,r19_11,r19_12,r19_13,r19_7,p19]) | (exfalso; omega)
          all_goals simp [hg, hg2, gridGo]

/-! headend/headendlaw4.awake -/
def r11_0 : List POp := [⟨0, .asg (.c (.bool false)), none⟩]
def r11_1 : List POp := [⟨4, .rowr 3 1 [.c (.int .i64 0), .c (.int .i64 4), .c (.int .i64 7)], none⟩,
  ⟨5, .build [.int .i64 0, .int .i64 0, .int .i64 0] [(0, 1, .c (.int .i64 1)), (1, 1, .c (.int .i64 6)), (2, 1, .c (.int .i64 8))], none⟩,
  ⟨6, .call 19 [.t 4, .t 5], none⟩,
  ⟨3, .mv (.t 6), none⟩,
  ⟨7, .ext 0 (.t 3), none⟩,
  ⟨8, .ext 1 (.t 3), none⟩,
  ⟨1, .asg (.t 7), none⟩,
  ⟨2, .mv (.t 8), none⟩]
def r11_2 : List POp := [⟨9, .mv (.t 2), none⟩,
  ⟨10, .bin .eql (.t 9) (.c (.int .i64 0)), none⟩,
  ⟨11, .mv (.t 10), none⟩,
  ⟨12, .mv (.t 1), some (11, true)⟩,
  ⟨13, .len (.t 12), some (11, true)⟩,
  ⟨14, .bin .eql (.t 13) (.c (.int .i64 2)), some (11, true)⟩,
  ⟨15, .pick (.t 11) (.t 14) (.c (.bool false)), none⟩,
  ⟨16, .mv (.t 15), none⟩,
  ⟨17, .mv (.t 1), some (16, true)⟩,
  ⟨18, .idx 1 (.t 17) (.c (.int .i64 1)), some (16, true)⟩,
  ⟨19, .load (.t 18), some (16, true)⟩,
  ⟨20, .bin .eql (.t 19) (.c (.int .i64 7)), some (16, true)⟩,
  ⟨21, .pick (.t 16) (.t 20) (.c (.bool false)), none⟩,
  ⟨0, .asg (.t 21), none⟩]
def p11 : PCode := .seq (.ops r11_0) (.seq (.ops r11_1) (.seq (.ops r11_2) (.ret)))
theorem ok11 : okFunc Tryz.prog 11 [.t 0] 0 p11 = true := by kernel_rfl
theorem awake_c : CallOK Tryz.prog 11 [] (.val (.bool true)) := by
  refine call_of mixed ok11 rfl ?_
  have hg : gridR [0, 4, 7] 1 6 8 = ([0, 7], 0) := by decide
  have hc := grid_c [0, 4, 7] 1 6 8
  simp only [hg, List.map_cons, List.map_nil, oneI] at hc
  repeat' first | ((with_reducible (first | refine condD ?_ ?_ | refine condE ?_ ?_ | refine condN ?_ ?_ | refine condI ?_ ?_ | refine condS ?_ ?_)) <;> intro h) | ((with_reducible (first | refine guardD (by with_unfolding_all rfl) ?_ ?_ | refine guardE (by with_unfolding_all rfl) ?_ ?_ | refine guardN (by with_unfolding_all rfl) ?_ ?_ | refine guardI (by with_unfolding_all rfl) ?_ ?_ | refine guardS (by with_unfolding_all rfl) ?_ ?_)) <;> intro h) | ((refine callG hc ?_)) | (with_reducible refine And.intro ?_ ?_; omega) | (simp only [Z0,Z1,Z2,Z3,Z4,Z5,Z6,Z7,Z8,Z9,Za,Zb,Zc,Zd,Ze,Zf,List.cons.injEq,Zg,Zh,Zi,Zj,Zk,Zl,Zm,Zn,Zo,Zp,beq_self_eq_true,bne_self_eq_false,decide_true,decide_false,Zq,Zr,Zs,Zt,Zu,Zv,Zw,Zx,Zy,Zz,Y0,Y1,Y2,Y3,Y4,Y5,Y6,Y7,Y8,Y9,Ya,Yb,Yc,Yd,Ye,Yf,Yg,Yh,lk,ef,Yi,Yj,Yk,Yl,Yo,Yp,o_ext,o_build,o_rowr,Ys,hv,Yu,ev,Yv,Yw,Yx,Yy,Yz,X0,X1,X2,X3,X4,X5,X6,X7,X8,X9,Xa,Xb,Xc,Xd,Xe,Xf,Xg,Xh,Xi,Xj,Xk,Xl,Xm,Xn,Xo,Xp,Xq,Xr,Value.oneCell',Xs,Xt,Xu,Xv,true_and,and_true,and_self,implies_true,Xw,Xx,Xy,Xz,false_implies,W0,W1,W2,W3,W4,W5,W6,W7,W8,W9,Wa,Wb,Wc,Wd,We,Wf,Wg,reduceCtorEq,if_true,if_false,Wh,↓reduceIte,Wi,Wj,Wk,Wl,Wm,Wn,ne_eq,not_false_eq_true,not_true_eq_false,Wo,Wp,r11_0,r11_1,r11_2,p11]) | (exfalso; omega)
  all_goals first | rfl | (simp at *; done)
end Go.Proofs.YtjeemcpdmiajmaaGreatDoor
