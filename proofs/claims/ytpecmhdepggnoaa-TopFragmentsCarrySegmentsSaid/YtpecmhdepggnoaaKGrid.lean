/- Wishes and grids: cut.risingFault, wishFault, Grid, a law's awake, by the machine on data. -/
import Derived.Test.YtpecmhdepggnoaaKDo
namespace Go.Proofs.Ytpecmhdepggnoaa
open Go.RowKit
open Go.Proofs.Ytpecmhdepggnoaa renaming done_eq → Z0, done_eq' → Z1, donet_eq → Z2, donet_eq' → Z3, fin_val → Z4, fin_tup → Z5, fin_agg → Z6, fin_ro → Z7, res_one → Z8, res_more → Z9, rv_t → Za, rv_c → Zb, rv_l → Zc, int_eq → Zg, bool_eq → Zh, toNat_pred → Zr, toNat_succ → Zs, cnd_t → Zu, cnd_f → Zv, grd_tt → Zw, grd_u → Zx, grd_tf → Zy, grd_ft → Zz, grd_ff → Y0, g_skip → Y1, g_ops → Y2, g_seq → Y3, g_block → Y4, g_exit → Y5, g_ret → Y6, g_nil → Y7, r_all → Y8, o_nil → Y9, g_cond → Ya, o_guard → Yb, o_call → Yc, o_pick → Yd, o_bin → Ye, o_load → Yf, o_idx → Yg, o_len → Yh, o_asg → Yi, eqAV → Yj, view_t → Yk, view_c → Yl, view_nil → Ym, view_fn → Yn, look_own → Yo, look_box → Yp, look_junk → Yq, look_val → Yr, look_nilsl → Ys, look_ro → Yt, look_roAt → Yu, look_agg → Yv, look_tup → Yw, look_clo → Yx, look_alias → Yy, look_ref → Yz, look_into → X0, rowOf → X1, cellsOf → X2, argv → X3, vbin → X4, elemOf → X5, putParts → X6, setAt → X7, put_at → Xe, mk_at → Xf, mk_nil → Xg, initSt → Xh, wk_cons → Wc, vint_eq → Wd, vbool_eq → We
open Go.Proofs.Ytpecmhdepggnoaa.AV.tup renaming injEq → Zd
open Go.Proofs.Ytpecmhdepggnoaa.AV.agg renaming injEq → Ze
open Go.Proofs.Ytpecmhdepggnoaa.AV.ro renaming injEq → Zf
open _root_.Int renaming toNat_natCast → Zi, reduceToNat → Zj, toNat_zero → Zk, toNat_one → Zl, reduceLE → Zm, reduceLT → Zn, reduceBEq → Zo, reduceBNe → Zp, reduceNeg → Zq
open _root_.List renaming length_map → Zt, map_cons → Xi, map_nil → Xj, forall_mem_cons → Xk, not_mem_nil → Xl, length_cons → Xm, length_nil → Xn, getD_cons_zero → Xo, getD_cons_succ → Xp, getD_nil → Xq, drop_succ_cons → Xr, drop_zero → Xs, take_succ_cons → Xt, take_zero → Xu, set_cons_zero → Xv, set_cons_succ → Xw, all_cons → Xx, all_nil → Xy
open Go.Proofs.Ytpecmhdepggnoaa.ASt renaming rid → X8, free → X9
open Go.Proofs.Ytpecmhdepggnoaa.AV renaming kill → Xa, isHome → Xb, noLoan → Xc, cellOK → Xd
open _root_.Bool renaming and_true → Xz, true_and → W0, not_true → W1, not_false → W2, false_eq_true → W3
open _root_.Nat renaming reduceEqDiff → W4, reduceAdd → W5, reduceSub → W6, reduceMul → W7, reduceLeDiff → W8, reduceLT → W9, one_ne_zero → Wa, zero_ne_one → Wb
open Go.Proofs.Ytpecmhdepggnoaa.AV.val renaming injEq → Wf
set_option linter.unusedSimpArgs false

def riseGo : Option Int → List Int → Int
  | _, [] => 0
  | p, t :: r => if noTime t then 1 else if p.any (t ≤ ·) then 8 else riseGo (some t) r
def rise (l : List Int) : Int := if l.length = 0 then 9 else if 1000 < l.length then 2 else riseGo none l
def prv (l : List Int) (k : Nat) : Option Int := if k = 0 then none else l[k-1]?
theorem prv_succ (l : List Int) (k : Nat) (h : k < l.length) : prv l (k + 1) = some l[k] := by simp [prv, h]
theorem prv_pos (l : List Int) (k : Nat) (h0 : 0 < k) (h : k - 1 < l.length) : prv l k = some l[k-1] := by simp [prv, h]; omega

/-! headend/cut.risingFault -/
def r72_0 : List POp := [⟨2, .asg (.c (.int .i64 0)), none⟩]
def r72_1 : List POp := [⟨6, .mv (.t 0), none⟩,
  ⟨7, .len (.t 6), none⟩,
  ⟨8, .bin .eql (.t 7) (.c (.int .i64 0)), none⟩,
  ⟨5, .asg (.t 8), none⟩]
def r72_2 : List POp := [⟨2, .asg (.c (.int .i64 9)), none⟩]
def r72_3 : List POp := [⟨10, .mv (.t 0), none⟩,
  ⟨11, .len (.t 10), none⟩,
  ⟨12, .bin .gtr (.t 11) (.c (.int .i64 1000)), none⟩,
  ⟨9, .asg (.t 12), none⟩]
def r72_4 : List POp := [⟨2, .asg (.c (.int .i64 2)), none⟩]
def r72_5 : List POp := [⟨13, .mv (.t 0), none⟩,
  ⟨14, .len (.t 13), none⟩,
  ⟨15, .mv (.c (.int .i64 0)), none⟩]
def r72_6 : List POp := [⟨16, .bin .lss (.t 15) (.t 14), none⟩]
def r72_7 : List POp := [⟨17, .mv (.t 15), none⟩,
  ⟨18, .idx 1 (.t 13) (.t 15), none⟩,
  ⟨19, .load (.t 18), none⟩,
  ⟨3, .asg (.t 17), none⟩,
  ⟨4, .asg (.t 19), none⟩]
def r72_8 : List POp := [⟨21, .mv (.t 4), none⟩,
  ⟨22, .call 41 [.t 21], none⟩,
  ⟨20, .asg (.t 22), none⟩]
def r72_9 : List POp := [⟨2, .asg (.c (.int .i64 1)), none⟩]
def r72_10 : List POp := [⟨24, .mv (.t 3), none⟩,
  ⟨25, .bin .gtr (.t 24) (.c (.int .i64 0)), none⟩,
  ⟨26, .mv (.t 25), none⟩,
  ⟨27, .mv (.t 4), some (26, true)⟩,
  ⟨28, .mv (.t 0), some (26, true)⟩,
  ⟨29, .mv (.t 3), some (26, true)⟩,
  ⟨30, .bin .sub (.t 29) (.c (.int .i64 1)), some (26, true)⟩,
  ⟨31, .idx 1 (.t 28) (.t 30), some (26, true)⟩,
  ⟨32, .load (.t 31), some (26, true)⟩,
  ⟨33, .bin .leq (.t 27) (.t 32), some (26, true)⟩,
  ⟨34, .pick (.t 26) (.t 33) (.c (.bool false)), none⟩,
  ⟨23, .asg (.t 34), none⟩]
def r72_11 : List POp := [⟨2, .asg (.c (.int .i64 8)), none⟩]
def r72_12 : List POp := [⟨35, .bin .add (.t 15) (.c (.int .i64 1)), none⟩,
  ⟨15, .mv (.t 35), none⟩]
def r72_13 : List POp := [⟨2, .asg (.c (.int .i64 0)), none⟩]
def l72_0 : PCode := .seq (.ops r72_6) (.seq (.cond (.t 16) (.skip) (.exit 1)) (.seq (.block 2 (.seq (.ops r72_7) (.block 3 (.seq (.ops r72_8) (.cond (.t 20) (.seq (.ops r72_9) (.ret)) (.seq (.ops r72_10) (.cond (.t 23) (.seq (.ops r72_11) (.ret)) (.skip)))))))) (.ops r72_12)))
def p72 : PCode := .seq (.ops r72_0) (.seq (.block 0 (.seq (.ops r72_1) (.cond (.t 5) (.seq (.ops r72_2) (.ret)) (.seq (.ops r72_3) (.cond (.t 9) (.seq (.ops r72_4) (.ret)) (.skip)))))) (.seq (.seq (.ops r72_5) (.block 1 (.loop l72_0))) (.seq (.ops r72_13) (.ret))))
theorem ok72 : okFunc Try.prog 72 [.t 2] 1 p72 = true := by kernel_rfl
theorem rise_c (l : List Int) : CallOK Try.prog 72 [.ro (l.map oneI)] (.val (.int .i64 (rise l))) := by
  refine call_of mixed ok72 rfl ?_
  repeat' first | ((with_reducible (first | refine condD ?_ ?_ | refine condE ?_ ?_ | refine condN ?_ ?_ | refine condI ?_ ?_ | refine condS ?_ ?_)) <;> intro h) | ((with_reducible (first | refine guardD (by with_unfolding_all rfl) ?_ ?_ | refine guardE (by with_unfolding_all rfl) ?_ ?_ | refine guardN (by with_unfolding_all rfl) ?_ ?_ | refine guardI (by with_unfolding_all rfl) ?_ ?_ | refine guardS (by with_unfolding_all rfl) ?_ ?_)) <;> intro h) | (with_reducible refine And.intro ?_ ?_; omega) | (simp only [Z0,Z1,Z2,Z3,Z4,Z5,Z6,Z7,Z8,Z9,Za,Zb,Zc,Zd,Ze,Zf,List.cons.injEq,Zg,Zh,Zi,Zj,Zk,Zl,Zm,Zn,Zo,Zp,beq_self_eq_true,bne_self_eq_false,decide_true,decide_false,Zq,Zr,Zs,Zt,Zu,Zv,Zw,Zx,Zy,Zz,Y0,Y1,Y2,Y3,Y4,Y5,Y6,x_c,x_o,x_l,x_b,g_b,Y7,Y8,Y9,Ya,Yb,Yc,lk,ef,o_mv,Yd,Ye,Yf,Yg,Yh,Yi,hv,Yj,ev,Yk,Yl,Ym,Yn,Yo,Yp,Yq,Yr,Ys,Yt,Yu,Yv,Yw,Yx,Yy,Yz,X0,X1,X2,X3,X4,vun,bnd,X5,X6,X7,zav,X8,X9,Xa,Xb,Xc,Xd,Value.oneCell',Xe,Xf,Xg,Xh,true_and,and_true,and_self,implies_true,Xi,Xj,Xk,Xl,false_implies,Xm,Xn,Xo,Xp,Xq,Xr,Xs,Xt,Xu,Xv,Xw,Xx,Xy,Xz,W0,W1,W2,reduceCtorEq,if_true,if_false,W3,↓reduceIte,W4,W5,W6,W7,W8,W9,ne_eq,not_false_eq_true,not_true_eq_false,Wa,Wb,r72_0,r72_1,r72_2,r72_3,r72_4,r72_5,r72_6,r72_7,r72_8,r72_9,r72_10,r72_11,r72_12,r72_13,p72]) | (exfalso; omega)
  · have h0 : l.length = 0 := by simp at h; simp [h]
    simp [rise, h0]
  · rename_i h1
    have h0 : l.length ≠ 0 := by simp at h1; simp [h1]
    rw [rise, if_neg h0, if_pos (by omega)]
  · rename_i h1
    have h0 : l.length ≠ 0 := by simp at h1; simp [h1]
    have hl : l.length ≤ 1000 := by omega
    have hr0 : rise l = riseGo none l := by rw [rise, if_neg h0, if_neg (by omega)]
    refine loopS (fun k : Nat => mk [(0, .ro (l.map oneI)), (13, .ro (l.map oneI)), (14, .val (.int .i64 l.length)), (15, .val (.int .i64 k))]) (fun k => k ≤ l.length ∧ rise l = riseGo (prv l k) (l.drop k)) (fun k => l.length - k) 0 (weak_mk ?_) ⟨Nat.zero_le _, hr0⟩ ?_
    · simp only [Wc,wk_nil,wk1,Wd,We,Wf,Z4,Z5,Z6,Z7,Z8,Z9,Za,Zb,Zc,Zd,Ze,Zf,List.cons.injEq,Zg,Zh,Zi,Zj,Zk,Zl,Zm,Zn,Zo,Zp,beq_self_eq_true,bne_self_eq_false,decide_true,decide_false,Zq,Zr,Zs,Zt,Zu,Zv,Zw,Zx,Zy,Zz,Y0,hv,Yj,ev,Yk,Yl,Ym,Yn,Yo,Yp,Yq,Yr,Ys,Yt,Yu,Yv,Yw,Yx,Yy,Yz,X0,X1,X2,X3,X4,vun,bnd,X5,X6,X7,zav,X8,X9,Xa,Xb,Xc,Xd,Value.oneCell',Xe,Xf,Xg,Xh,true_and,and_true,and_self,implies_true,Xi,Xj,Xk,Xl,false_implies,Xm,Xn,Xo,Xp,Xq,Xr,Xs,Xt,Xu,Xv,Xw,Xx,Xy,Xz,W0,W1,W2,reduceCtorEq,if_true,if_false,W3,↓reduceIte,W4,W5,W6,W7,W8,W9,ne_eq,not_false_eq_true,not_true_eq_false,Wa,Nat.zero_ne_one]
      simp
    · rintro J hJ k ⟨hk, hg⟩
      simp only [Z0,Z1,Z2,Z3,Z4,Z5,Z6,Z7,Z8,Z9,Za,Zb,Zc,Zd,Ze,Zf,List.cons.injEq,Zg,Zh,Zi,Zj,Zk,Zl,Zm,Zn,Zo,Zp,beq_self_eq_true,bne_self_eq_false,decide_true,decide_false,Zq,Zr,Zs,Zt,Zu,Zv,Zw,Zx,Zy,Zz,Y0,Y1,Y2,Y3,Y4,Y5,Y6,x_c,x_o,x_l,x_b,g_b,Y7,Y8,Y9,Ya,Yb,Yc,lk,ef,o_mv,Yd,Ye,Yf,Yg,Yh,Yi,hv,Yj,ev,Yk,Yl,Ym,Yn,Yo,Yp,Yq,Yr,Ys,Yt,Yu,Yv,Yw,Yx,Yy,Yz,X0,X1,X2,X3,X4,vun,bnd,X5,X6,X7,zav,X8,X9,Xa,Xb,Xc,Xd,Value.oneCell',Xe,Xf,Xg,Xh,true_and,and_true,and_self,implies_true,Xi,Xj,Xk,Xl,false_implies,Xm,Xn,Xo,Xp,Xq,Xr,Xs,Xt,Xu,Xv,Xw,Xx,Xy,Xz,W0,W1,W2,reduceCtorEq,if_true,if_false,W3,↓reduceIte,W4,W5,W6,W7,W8,W9,ne_eq,not_false_eq_true,not_true_eq_false,Wa,Wb,r72_0,r72_1,r72_2,r72_3,r72_4,r72_5,r72_6,r72_7,r72_8,r72_9,r72_10,r72_11,r72_12,r72_13,p72,l72_0]
      refine condD (fun h => ?_) (fun h => ?_)
      · have hlt : k < l.length := by omega
        have hr : rise l = if noTime l[k] then 1 else if (prv l k).any (l[k] ≤ ·) then 8 else riseGo (prv l (k + 1)) (l.drop (k + 1)) := by rw [hg, List.drop_eq_getElem_cons hlt, riseGo, prv_succ _ _ hlt]
        have hw : IntKind.i64.wrap (k + 1 : Int) = ((k + 1 : Nat) : Int) := wrap_in (by omega) (by omega)
        clear hg
        rcases Nat.eq_zero_or_pos k with rfl | hp
        · repeat' first | ((with_reducible (first | refine condD ?_ ?_ | refine condE ?_ ?_ | refine condN ?_ ?_ | refine condI ?_ ?_ | refine condS ?_ ?_)) <;> intro h) | ((with_reducible (first | refine guardD (by with_unfolding_all rfl) ?_ ?_ | refine guardE (by with_unfolding_all rfl) ?_ ?_ | refine guardN (by with_unfolding_all rfl) ?_ ?_ | refine guardI (by with_unfolding_all rfl) ?_ ?_ | refine guardS (by with_unfolding_all rfl) ?_ ?_)) <;> intro h) | ((refine callG (notime_c _) ?_)) | (with_reducible refine And.intro ?_ ?_; omega) | (simp only [Z0,Z1,Z2,Z3,Z4,Z5,Z6,Z7,Z8,Z9,Za,Zb,Zc,Zd,Ze,Zf,List.cons.injEq,Zg,Zh,Zi,Zj,Zk,Zl,Zm,Zn,Zo,Zp,beq_self_eq_true,bne_self_eq_false,decide_true,decide_false,Zq,Zr,Zs,Zt,Zu,Zv,Zw,Zx,Zy,Zz,Y0,Y1,Y2,Y3,Y4,Y5,Y6,x_c,x_o,x_l,x_b,g_b,Y7,Y8,Y9,Ya,Yb,Yc,lk,ef,o_mv,Yd,Ye,Yf,Yg,Yh,Yi,hv,Yj,ev,Yk,Yl,Ym,Yn,Yo,Yp,Yq,Yr,Ys,Yt,Yu,Yv,Yw,Yx,Yy,Yz,X0,X1,X2,X3,X4,vun,bnd,X5,X6,X7,zav,X8,X9,Xa,Xb,Xc,Xd,Value.oneCell',Xe,Xf,Xg,Xh,true_and,and_true,and_self,implies_true,Xi,Xj,Xk,Xl,false_implies,Xm,Xn,Xo,Xp,Xq,Xr,Xs,Xt,Xu,Xv,Xw,Xx,Xy,Xz,W0,W1,W2,reduceCtorEq,if_true,if_false,W3,↓reduceIte,W4,W5,W6,W7,W8,W9,ne_eq,not_false_eq_true,not_true_eq_false,Wa,Wb,r72_0,r72_1,r72_2,r72_3,r72_4,r72_5,r72_6,r72_7,r72_8,r72_9,r72_10,r72_11,r72_12,r72_13,p72,l72_0,oneI,getD_map hlt]) | (exfalso; omega)
          all_goals try (clear hJ; simp [hr, prv, *]; done)
          exact again hJ (0 + 1) (weak_mk (by simp only [Wc,wk_nil,wk1,Wd,We,Wf,Z4,Z5,Z6,Z7,Z8,Z9,Za,Zb,Zc,Zd,Ze,Zf,List.cons.injEq,Zg,Zh,Zi,Zj,Zk,Zl,Zm,Zn,Zo,Zp,beq_self_eq_true,bne_self_eq_false,decide_true,decide_false,Zq,Zr,Zs,Zt,Zu,Zv,Zw,Zx,Zy,Zz,Y0,hv,Yj,ev,Yk,Yl,Ym,Yn,Yo,Yp,Yq,Yr,Ys,Yt,Yu,Yv,Yw,Yx,Yy,Yz,X0,X1,X2,X3,X4,vun,bnd,X5,X6,X7,zav,X8,X9,Xa,Xb,Xc,Xd,Value.oneCell',Xe,Xf,Xg,Xh,true_and,and_true,and_self,implies_true,Xi,Xj,Xk,Xl,false_implies,Xm,Xn,Xo,Xp,Xq,Xr,Xs,Xt,Xu,Xv,Xw,Xx,Xy,Xz,W0,W1,W2,reduceCtorEq,if_true,if_false,W3,↓reduceIte,W4,W5,W6,W7,W8,W9,ne_eq,not_false_eq_true,not_true_eq_false,Wa,Nat.zero_ne_one]; exact hw)) ⟨by omega, by simp [hr, prv, *, -hJ]⟩ (by omega)
        · have hlt1 : k - 1 < l.length := by omega
          have hw1 : IntKind.i64.wrap (k - 1 : Int) = ((k - 1 : Nat) : Int) := by rw [wrap_in (by omega) (by omega)]; omega
          have hpv := prv_pos l k hp hlt1
          repeat' first | ((with_reducible (first | refine condD ?_ ?_ | refine condE ?_ ?_ | refine condN ?_ ?_ | refine condI ?_ ?_ | refine condS ?_ ?_)) <;> intro h) | ((with_reducible (first | refine guardD (by with_unfolding_all rfl) ?_ ?_ | refine guardE (by with_unfolding_all rfl) ?_ ?_ | refine guardN (by with_unfolding_all rfl) ?_ ?_ | refine guardI (by with_unfolding_all rfl) ?_ ?_ | refine guardS (by with_unfolding_all rfl) ?_ ?_)) <;> intro h) | ((refine callG (notime_c _) ?_)) | (with_reducible refine And.intro ?_ ?_; omega) | (simp only [Z0,Z1,Z2,Z3,Z4,Z5,Z6,Z7,Z8,Z9,Za,Zb,Zc,Zd,Ze,Zf,List.cons.injEq,Zg,Zh,Zi,Zj,Zk,Zl,Zm,Zn,Zo,Zp,beq_self_eq_true,bne_self_eq_false,decide_true,decide_false,Zq,Zr,Zs,Zt,Zu,Zv,Zw,Zx,Zy,Zz,Y0,Y1,Y2,Y3,Y4,Y5,Y6,x_c,x_o,x_l,x_b,g_b,Y7,Y8,Y9,Ya,Yb,Yc,lk,ef,o_mv,Yd,Ye,Yf,Yg,Yh,Yi,hv,Yj,ev,Yk,Yl,Ym,Yn,Yo,Yp,Yq,Yr,Ys,Yt,Yu,Yv,Yw,Yx,Yy,Yz,X0,X1,X2,X3,X4,vun,bnd,X5,X6,X7,zav,X8,X9,Xa,Xb,Xc,Xd,Value.oneCell',Xe,Xf,Xg,Xh,true_and,and_true,and_self,implies_true,Xi,Xj,Xk,Xl,false_implies,Xm,Xn,Xo,Xp,Xq,Xr,Xs,Xt,Xu,Xv,Xw,Xx,Xy,Xz,W0,W1,W2,reduceCtorEq,if_true,if_false,W3,↓reduceIte,W4,W5,W6,W7,W8,W9,ne_eq,not_false_eq_true,not_true_eq_false,Wa,Wb,r72_0,r72_1,r72_2,r72_3,r72_4,r72_5,r72_6,r72_7,r72_8,r72_9,r72_10,r72_11,r72_12,r72_13,p72,l72_0,oneI,getD_map hlt,getD_map hlt1,hw1]) | (exfalso; omega)
          all_goals try (clear hJ; simp [hr, *]; done)
          exact again hJ (k + 1) (weak_mk (by simp only [Wc,wk_nil,wk1,Wd,We,Wf,Z4,Z5,Z6,Z7,Z8,Z9,Za,Zb,Zc,Zd,Ze,Zf,List.cons.injEq,Zg,Zh,Zi,Zj,Zk,Zl,Zm,Zn,Zo,Zp,beq_self_eq_true,bne_self_eq_false,decide_true,decide_false,Zq,Zr,Zs,Zt,Zu,Zv,Zw,Zx,Zy,Zz,Y0,hv,Yj,ev,Yk,Yl,Ym,Yn,Yo,Yp,Yq,Yr,Ys,Yt,Yu,Yv,Yw,Yx,Yy,Yz,X0,X1,X2,X3,X4,vun,bnd,X5,X6,X7,zav,X8,X9,Xa,Xb,Xc,Xd,Value.oneCell',Xe,Xf,Xg,Xh,true_and,and_true,and_self,implies_true,Xi,Xj,Xk,Xl,false_implies,Xm,Xn,Xo,Xp,Xq,Xr,Xs,Xt,Xu,Xv,Xw,Xx,Xy,Xz,W0,W1,W2,reduceCtorEq,if_true,if_false,W3,↓reduceIte,W4,W5,W6,W7,W8,W9,ne_eq,not_false_eq_true,not_true_eq_false,Wa,Nat.zero_ne_one]; exact hw)) ⟨by omega, by simp [hr, *, -hJ]⟩ (by omega)
      · have hke : k = l.length := by omega
        subst hke
        repeat' first | ((with_reducible (first | refine condD ?_ ?_ | refine condE ?_ ?_ | refine condN ?_ ?_ | refine condI ?_ ?_ | refine condS ?_ ?_)) <;> intro h) | ((with_reducible (first | refine guardD (by with_unfolding_all rfl) ?_ ?_ | refine guardE (by with_unfolding_all rfl) ?_ ?_ | refine guardN (by with_unfolding_all rfl) ?_ ?_ | refine guardI (by with_unfolding_all rfl) ?_ ?_ | refine guardS (by with_unfolding_all rfl) ?_ ?_)) <;> intro h) | (with_reducible refine And.intro ?_ ?_; omega) | (simp only [Z0,Z1,Z2,Z3,Z4,Z5,Z6,Z7,Z8,Z9,Za,Zb,Zc,Zd,Ze,Zf,List.cons.injEq,Zg,Zh,Zi,Zj,Zk,Zl,Zm,Zn,Zo,Zp,beq_self_eq_true,bne_self_eq_false,decide_true,decide_false,Zq,Zr,Zs,Zt,Zu,Zv,Zw,Zx,Zy,Zz,Y0,Y1,Y2,Y3,Y4,Y5,Y6,x_c,x_o,x_l,x_b,g_b,Y7,Y8,Y9,Ya,Yb,Yc,lk,ef,o_mv,Yd,Ye,Yf,Yg,Yh,Yi,hv,Yj,ev,Yk,Yl,Ym,Yn,Yo,Yp,Yq,Yr,Ys,Yt,Yu,Yv,Yw,Yx,Yy,Yz,X0,X1,X2,X3,X4,vun,bnd,X5,X6,X7,zav,X8,X9,Xa,Xb,Xc,Xd,Value.oneCell',Xe,Xf,Xg,Xh,true_and,and_true,and_self,implies_true,Xi,Xj,Xk,Xl,false_implies,Xm,Xn,Xo,Xp,Xq,Xr,Xs,Xt,Xu,Xv,Xw,Xx,Xy,Xz,W0,W1,W2,reduceCtorEq,if_true,if_false,W3,↓reduceIte,W4,W5,W6,W7,W8,W9,ne_eq,not_false_eq_true,not_true_eq_false,Wa,Wb,r72_0,r72_1,r72_2,r72_3,r72_4,r72_5,r72_6,r72_7,r72_8,r72_9,r72_10,r72_11,r72_12,r72_13,p72,l72_0]) | (exfalso; omega)
        simp [hg, riseGo]

/-- The boundaries out of the places that are left, number k being the next one. -/
def gridGo (p t : Int) : Nat → List Int → List Int
  | _, [] => []
  | k, x :: r => if x - p < k * t then gridGo p t k r else x :: gridGo p t (k + 1) r
def grid (t : Int) : List Int → List Int
  | [] => []
  | p :: r => p :: gridGo p t 1 r
theorem rise_0 {l : List Int} (h : rise l = 0) : 0 < l.length ∧ l.length ≤ 1000 ∧ riseGo none l = 0 := by
  unfold rise at h
  split at h
  · omega
  · split at h
    · omega
    · exact ⟨by omega, by omega, h⟩
theorem noTime_f {n : Int} (h : noTime n = false) : -1000000000000000 ≤ n ∧ n ≤ 1000000000000000 := outB_f h
theorem riseGo_times : ∀ {l : List Int} {p : Option Int}, riseGo p l = 0 → ∀ x ∈ l, -1000000000000000 ≤ x ∧ x ≤ 1000000000000000
  | [], _, _, x, hx => by simp at hx
  | t :: r, p, h, x, hx => by
    unfold riseGo at h
    cases ht : noTime t
    · rw [ht] at h
      simp only [Bool.false_eq_true, if_false] at h
      split at h
      · omega
      · rcases List.mem_cons.1 hx with rfl | hx
        · exact noTime_f ht
        · exact riseGo_times h x hx
    · simp [ht] at h
theorem mul_bd {k : Nat} {t : Int} (hk : k ≤ 1001) (h1 : 1 ≤ t) (h2 : t ≤ 50000000) : 0 ≤ (k : Int) * t ∧ (k : Int) * t ≤ 50050000000 := by
  constructor
  · exact Int.mul_nonneg (by omega) (by omega)
  · calc (k : Int) * t ≤ 1001 * t := Int.mul_le_mul_of_nonneg_right (by omega) (by omega)
      _ ≤ _ := by omega

end Go.Proofs.Ytpecmhdepggnoaa
