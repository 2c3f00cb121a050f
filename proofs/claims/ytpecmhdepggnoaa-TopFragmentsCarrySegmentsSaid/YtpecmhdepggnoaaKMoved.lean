/- Times of presentation: sample.presents, Presents; the house awake, by the machine on data. -/
import Derived.Test.YtpecmhdepggnoaaKSmpQ
namespace Go.Proofs.Ytpecmhdepggnoaa
open Go.RowKit
open Go.Proofs.Ytpecmhdepggnoaa renaming done_eq → Z0, done_eq' → Z1, donet_eq → Z2, donet_eq' → Z3, fin_val → Z4, fin_tup → Z5, fin_agg → Z6, fin_ro → Z7, res_one → Z8, res_more → Z9, rv_t → Za, rv_c → Zb, rv_l → Zc, int_eq → Zg, bool_eq → Zh, toNat_pred → Zr, toNat_succ → Zs, cnd_t → Zu, cnd_f → Zv, grd_tt → Zw, grd_u → Zx, grd_tf → Zy, grd_ft → Zz, grd_ff → Y0, g_skip → Y1, g_ops → Y2, g_seq → Y3, g_block → Y4, g_exit → Y5, g_ret → Y6, g_nil → Y7, r_all → Y8, o_nil → Y9, g_cond → Ya, o_guard → Yb, o_mv → Yc, o_bin → Yd, o_load → Ye, o_loads → Yf, o_alloc → Yg, o_asg → Yh, o_stores → Yi, eqAV → Yj, view_t → Yk, view_c → Yl, view_nil → Ym, view_fn → Yn, look_own → Yo, look_box → Yp, look_junk → Yq, look_val → Yr, look_nilsl → Ys, look_ro → Yt, look_roAt → Yu, look_agg → Yv, look_tup → Yw, look_clo → Yx, look_alias → Yy, look_ref → Yz, look_into → X0, rowOf → X1, cellsOf → X2, argv → X3, vbin → X4, elemOf → X5, putParts → X6, setAt → X7, put_at → Xe, mk_at → Xf, mk_nil → Xg, initSt → Xh
open Go.Proofs.Ytpecmhdepggnoaa.AV.tup renaming injEq → Zd
open Go.Proofs.Ytpecmhdepggnoaa.AV.agg renaming injEq → Ze
open Go.Proofs.Ytpecmhdepggnoaa.AV.ro renaming injEq → Zf
open _root_.Int renaming toNat_natCast → Zi, reduceToNat → Zj, toNat_zero → Zk, toNat_one → Zl, reduceLE → Zm, reduceLT → Zn, reduceBEq → Zo, reduceBNe → Zp, reduceNeg → Zq
open _root_.List renaming length_map → Zt, map_cons → Xi, map_nil → Xj, forall_mem_cons → Xk, not_mem_nil → Xl, length_cons → Xm, length_nil → Xn, getD_cons_zero → Xo, getD_cons_succ → Xp, getD_nil → Xq, drop_succ_cons → Xr, drop_zero → Xs, take_succ_cons → Xt, take_zero → Xu, set_cons_zero → Xv, set_cons_succ → Xw, all_cons → Xx, all_nil → Xy
open Go.Proofs.Ytpecmhdepggnoaa.ASt renaming rid → X8, free → X9
open Go.Proofs.Ytpecmhdepggnoaa.AV renaming kill → Xa, isHome → Xb, noLoan → Xc, cellOK → Xd
open _root_.Bool renaming and_true → Xz, true_and → W0, not_true → W1, not_false → W2, false_eq_true → W3
open _root_.Nat renaming reduceEqDiff → W4, reduceAdd → W5, reduceSub → W6, reduceMul → W7, reduceLeDiff → W8, reduceLT → W9, one_ne_zero → Wa, zero_ne_one → Wb
open Go.Proofs.Ytpecmhdepggnoaa.AV.val renaming injEq → Wc
set_option linter.unusedSimpArgs false
--@short

def presL (l : List Smp) : List Int := l.map fun s => s.time + s.shift
/-! headend/sample.presents -/
def r42_0 : List POp := [⟨2, .asg .nil, none⟩]
def r42_1 : List POp := [⟨3, .asg .nil, none⟩]
def r42_2 : List POp := [⟨6, .mv (.t 0), none⟩,
  ⟨7, .len (.t 6), none⟩,
  ⟨8, .mv (.c (.int .i64 0)), none⟩]
def r42_3 : List POp := [⟨9, .bin .lss (.t 8) (.t 7), none⟩]
def r42_4 : List POp := [⟨10, .idx 5 (.t 6) (.t 8), none⟩,
  ⟨11, .loads 5 (.t 10), none⟩,
  ⟨5, .alloc [.int .i64 0, .int .i64 0, .int .i64 0, .int .i64 0, .bool false], none⟩,
  ⟨0, .stores 5 (.t 5) (.t 11), none⟩]
def r42_5 : List POp := [⟨12, .mv (.t 3), none⟩,
  ⟨13, .fld 0 (.t 5), none⟩,
  ⟨14, .load (.t 13), none⟩,
  ⟨15, .fld 2 (.t 5), none⟩,
  ⟨16, .load (.t 15), none⟩,
  ⟨17, .bin .add (.t 14) (.t 16), none⟩,
  ⟨18, .row 3 1 [.t 17], none⟩,
  ⟨19, .app 3 1 8 (.t 12) (.t 18), none⟩,
  ⟨3, .asg (.t 19), none⟩]
def r42_6 : List POp := [⟨20, .bin .add (.t 8) (.c (.int .i64 1)), none⟩,
  ⟨8, .mv (.t 20), none⟩]
def r42_7 : List POp := [⟨21, .mv (.t 3), none⟩,
  ⟨2, .asg (.t 21), none⟩]
def l42_0 : PCode := .seq (.ops r42_3) (.seq (.cond (.t 9) (.skip) (.exit 0)) (.seq (.block 1 (.seq (.ops r42_4) (.ops r42_5))) (.ops r42_6)))
def p42 : PCode := .seq (.ops r42_0) (.seq (.ops r42_1) (.seq (.seq (.ops r42_2) (.block 0 (.loop l42_0))) (.seq (.ops r42_7) (.ret))))
theorem ok42 : okFunc Try.prog 42 [.t 2] 1 p42 = true := by kernel_rfl
theorem presents_c (l : List Smp) (hl : l.length ≤ 5000) (hb : ∀ s ∈ l, badSmp s = false) : CallOK Try.prog 42 [.ro (l.map Smp.av)] (.ro ((presL l).map oneI)) := by
  refine call_of mixed ok42 rfl ?_
  repeat' first | ((with_reducible (first | refine condD ?_ ?_ | refine condE ?_ ?_ | refine condN ?_ ?_ | refine condI ?_ ?_ | refine condS ?_ ?_)) <;> intro h) | (with_reducible refine And.intro ?_ ?_; omega) | (simp only [Z0,Z1,Z2,Z3,Z4,Z5,Z6,Z7,Z8,Z9,Za,Zb,Zc,Zd,Ze,Zf,List.cons.injEq,Zg,Zh,Zi,Zj,Zk,Zl,Zm,Zn,Zo,Zp,beq_self_eq_true,bne_self_eq_false,decide_true,decide_false,Zq,Zr,Zs,Zt,Zu,Zv,Zw,Zx,Zy,Zz,Y0,Y1,Y2,Y3,Y4,Y5,Y6,x_c,x_o,x_l,x_b,g_b,Y7,Y8,Y9,Ya,Yb,lk,ef,Yc,Yd,Ye,Yf,o_fld,o_idx,o_len,Yg,o_row,Yh,o_app,Yi,hv,Yj,ev,Yk,Yl,Ym,Yn,Yo,Yp,Yq,Yr,Ys,Yt,Yu,Yv,Yw,Yx,Yy,Yz,X0,X1,X2,X3,X4,vun,bnd,X5,X6,X7,zav,X8,X9,Xa,Xb,Xc,Xd,Value.oneCell',Xe,Xf,Xg,Xh,true_and,and_true,and_self,implies_true,Xi,Xj,Xk,Xl,false_implies,Xm,Xn,Xo,Xp,Xq,Xr,Xs,Xt,Xu,Xv,Xw,Xx,Xy,Xz,W0,W1,W2,reduceCtorEq,if_true,if_false,W3,↓reduceIte,W4,W5,W6,W7,W8,W9,ne_eq,not_false_eq_true,not_true_eq_false,Wa,Wb,r42_0,r42_1,r42_2,r42_3,r42_4,r42_5,r42_6,r42_7,p42]) | (exfalso; omega)
  refine loopS (fun k : Nat => mk [(3, .own 3 1 ((presL (l.take k)).map oneI)), (6, .ro (l.map Smp.av)), (7, .val (.int .i64 l.length)), (8, .val (.int .i64 k))]) (fun k => k ≤ l.length) (fun k => l.length - k) 0 (weak_mk ?_) (Nat.zero_le _) ?_
  · simp only [wk_cons,wk_nil,wk1,vint_eq,vbool_eq,Wc,Z4,Z5,Z6,Z7,Z8,Z9,Za,Zb,Zc,Zd,Ze,Zf,List.cons.injEq,Zg,Zh,Zi,Zj,Zk,Zl,Zm,Zn,Zo,Zp,beq_self_eq_true,bne_self_eq_false,decide_true,decide_false,Zq,Zr,Zs,Zt,Zu,Zv,Zw,Zx,Zy,Zz,Y0,hv,Yj,ev,Yk,Yl,Ym,Yn,Yo,Yp,Yq,Yr,Ys,Yt,Yu,Yv,Yw,Yx,Yy,Yz,X0,X1,X2,X3,X4,vun,bnd,X5,X6,X7,zav,X8,X9,Xa,Xb,Xc,Xd,Value.oneCell',Xe,Xf,Xg,Xh,true_and,and_true,and_self,implies_true,Xi,Xj,Xk,Xl,false_implies,Xm,Xn,Xo,Xp,Xq,Xr,Xs,Xt,Xu,Xv,Xw,Xx,Xy,Xz,W0,W1,W2,reduceCtorEq,if_true,if_false,W3,↓reduceIte,W4,W5,W6,W7,W8,W9,ne_eq,not_false_eq_true,not_true_eq_false,Wa,Nat.zero_ne_one]
    simp [presL]
  · rintro J hJ k hk
    simp only [Z0,Z1,Z2,Z3,Z4,Z5,Z6,Z7,Z8,Z9,Za,Zb,Zc,Zd,Ze,Zf,List.cons.injEq,Zg,Zh,Zi,Zj,Zk,Zl,Zm,Zn,Zo,Zp,beq_self_eq_true,bne_self_eq_false,decide_true,decide_false,Zq,Zr,Zs,Zt,Zu,Zv,Zw,Zx,Zy,Zz,Y0,Y1,Y2,Y3,Y4,Y5,Y6,x_c,x_o,x_l,x_b,g_b,Y7,Y8,Y9,Ya,Yb,lk,ef,Yc,Yd,Ye,Yf,o_fld,o_idx,o_len,Yg,o_row,Yh,o_app,Yi,hv,Yj,ev,Yk,Yl,Ym,Yn,Yo,Yp,Yq,Yr,Ys,Yt,Yu,Yv,Yw,Yx,Yy,Yz,X0,X1,X2,X3,X4,vun,bnd,X5,X6,X7,zav,X8,X9,Xa,Xb,Xc,Xd,Value.oneCell',Xe,Xf,Xg,Xh,true_and,and_true,and_self,implies_true,Xi,Xj,Xk,Xl,false_implies,Xm,Xn,Xo,Xp,Xq,Xr,Xs,Xt,Xu,Xv,Xw,Xx,Xy,Xz,W0,W1,W2,reduceCtorEq,if_true,if_false,W3,↓reduceIte,W4,W5,W6,W7,W8,W9,ne_eq,not_false_eq_true,not_true_eq_false,Wa,Wb,r42_0,r42_1,r42_2,r42_3,r42_4,r42_5,r42_6,r42_7,p42,l42_0]
    refine condD (fun h => ?_) (fun h => ?_)
    · have hlt : k < l.length := by omega
      have hw := i_add1 k (by omega)
      have b2 := badSmp_bd (hb l[k] (List.getElem_mem hlt))
      have w1 : IntKind.i64.wrap (l[k].time + l[k].shift) = l[k].time + l[k].shift := wrap_in (by omega) (by omega)
      have htk : presL (l.take (k + 1)) = presL (l.take k) ++ [l[k].time + l[k].shift] := by
        unfold presL; rw [List.take_succ_eq_append_getElem hlt, List.map_append]; rfl
      have htl : (presL (l.take k)).length = k := by unfold presL; rw [List.length_map, List.length_take]; omega
      repeat' first | ((with_reducible (first | refine condD ?_ ?_ | refine condE ?_ ?_ | refine condN ?_ ?_ | refine condI ?_ ?_ | refine condS ?_ ?_)) <;> intro h) | (with_reducible refine And.intro ?_ ?_; omega) | (simp only [Z0,Z1,Z2,Z3,Z4,Z5,Z6,Z7,Z8,Z9,Za,Zb,Zc,Zd,Ze,Zf,List.cons.injEq,Zg,Zh,Zi,Zj,Zk,Zl,Zm,Zn,Zo,Zp,beq_self_eq_true,bne_self_eq_false,decide_true,decide_false,Zq,Zr,Zs,Zt,Zu,Zv,Zw,Zx,Zy,Zz,Y0,Y1,Y2,Y3,Y4,Y5,Y6,x_c,x_o,x_l,x_b,g_b,Y7,Y8,Y9,Ya,Yb,lk,ef,Yc,Yd,Ye,Yf,o_fld,o_idx,o_len,Yg,o_row,Yh,o_app,Yi,hv,Yj,ev,Yk,Yl,Ym,Yn,Yo,Yp,Yq,Yr,Ys,Yt,Yu,Yv,Yw,Yx,Yy,Yz,X0,X1,X2,X3,X4,vun,bnd,X5,X6,X7,zav,X8,X9,Xa,Xb,Xc,Xd,Value.oneCell',Xe,Xf,Xg,Xh,true_and,and_true,and_self,implies_true,Xi,Xj,Xk,Xl,false_implies,Xm,Xn,Xo,Xp,Xq,Xr,Xs,Xt,Xu,Xv,Xw,Xx,Xy,Xz,W0,W1,W2,reduceCtorEq,if_true,if_false,W3,↓reduceIte,W4,W5,W6,W7,W8,W9,ne_eq,not_false_eq_true,not_true_eq_false,Wa,Wb,r42_0,r42_1,r42_2,r42_3,r42_4,r42_5,r42_6,r42_7,p42,l42_0,Smp.av,getD_map hlt,w1,htl]) | (exfalso; omega)
      exact again hJ (k + 1) (weak_mk (by simp only [wk_cons,wk_nil,wk1,vint_eq,vbool_eq,Wc,Z4,Z5,Z6,Z7,Z8,Z9,Za,Zb,Zc,Zd,Ze,Zf,List.cons.injEq,Zg,Zh,Zi,Zj,Zk,Zl,Zm,Zn,Zo,Zp,beq_self_eq_true,bne_self_eq_false,decide_true,decide_false,Zq,Zr,Zs,Zt,Zu,Zv,Zw,Zx,Zy,Zz,Y0,hv,Yj,ev,Yk,Yl,Ym,Yn,Yo,Yp,Yq,Yr,Ys,Yt,Yu,Yv,Yw,Yx,Yy,Yz,X0,X1,X2,X3,X4,vun,bnd,X5,X6,X7,zav,X8,X9,Xa,Xb,Xc,Xd,Value.oneCell',Xe,Xf,Xg,Xh,true_and,and_true,and_self,implies_true,Xi,Xj,Xk,Xl,false_implies,Xm,Xn,Xo,Xp,Xq,Xr,Xs,Xt,Xu,Xv,Xw,Xx,Xy,Xz,W0,W1,W2,reduceCtorEq,if_true,if_false,W3,↓reduceIte,W4,W5,W6,W7,W8,W9,ne_eq,not_false_eq_true,not_true_eq_false,Wa,Nat.zero_ne_one]; exact ⟨by rw [htk]; simp [oneI], hw⟩)) (by omega) (by omega)
    · have hke : k = l.length := by omega
      subst hke
      rw [List.take_length]
      repeat' first | ((with_reducible (first | refine condD ?_ ?_ | refine condE ?_ ?_ | refine condN ?_ ?_ | refine condI ?_ ?_ | refine condS ?_ ?_)) <;> intro h) | (with_reducible refine And.intro ?_ ?_; omega) | (simp only [Z0,Z1,Z2,Z3,Z4,Z5,Z6,Z7,Z8,Z9,Za,Zb,Zc,Zd,Ze,Zf,List.cons.injEq,Zg,Zh,Zi,Zj,Zk,Zl,Zm,Zn,Zo,Zp,beq_self_eq_true,bne_self_eq_false,decide_true,decide_false,Zq,Zr,Zs,Zt,Zu,Zv,Zw,Zx,Zy,Zz,Y0,Y1,Y2,Y3,Y4,Y5,Y6,x_c,x_o,x_l,x_b,g_b,Y7,Y8,Y9,Ya,Yb,lk,ef,Yc,Yd,Ye,Yf,o_fld,o_idx,o_len,Yg,o_row,Yh,o_app,Yi,hv,Yj,ev,Yk,Yl,Ym,Yn,Yo,Yp,Yq,Yr,Ys,Yt,Yu,Yv,Yw,Yx,Yy,Yz,X0,X1,X2,X3,X4,vun,bnd,X5,X6,X7,zav,X8,X9,Xa,Xb,Xc,Xd,Value.oneCell',Xe,Xf,Xg,Xh,true_and,and_true,and_self,implies_true,Xi,Xj,Xk,Xl,false_implies,Xm,Xn,Xo,Xp,Xq,Xr,Xs,Xt,Xu,Xv,Xw,Xx,Xy,Xz,W0,W1,W2,reduceCtorEq,if_true,if_false,W3,↓reduceIte,W4,W5,W6,W7,W8,W9,ne_eq,not_false_eq_true,not_true_eq_false,Wa,Wb,r42_0,r42_1,r42_2,r42_3,r42_4,r42_5,r42_6,r42_7,p42,l42_0]) | (exfalso; omega)
/-! headend/sample.Presents -/
def r16_0 : List POp := [⟨2, .asg .nil, none⟩,
  ⟨3, .asg (.c (.int .i64 0)), none⟩]
def r16_1 : List POp := [⟨5, .mv (.t 0), none⟩,
  ⟨6, .call 40 [.t 5], none⟩,
  ⟨4, .asg (.t 6), none⟩]
def r16_2 : List POp := [⟨7, .mv (.t 4), none⟩,
  ⟨8, .bin .neq (.t 7) (.c (.int .i64 0)), none⟩]
def r16_3 : List POp := [⟨9, .mv (.t 4), none⟩,
  ⟨2, .asg .nil, none⟩,
  ⟨3, .mv (.t 9), none⟩]
def r16_4 : List POp := [⟨10, .mv (.t 0), none⟩,
  ⟨11, .call 42 [.t 10], none⟩,
  ⟨2, .asg (.t 11), none⟩,
  ⟨3, .asg (.c (.int .i64 0)), none⟩]
def p16 : PCode := .seq (.ops r16_0) (.seq (.seq (.ops r16_1) (.seq (.ops r16_2) (.cond (.t 8) (.seq (.ops r16_3) (.ret)) (.skip)))) (.seq (.ops r16_4) (.ret)))
theorem ok16 : okFunc Try.prog 16 [.t 2, .t 3] 1 p16 = true := by kernel_rfl
def presF (l : List Smp) : List Int × Int := if smpF l ≠ 0 then ([], smpF l) else (presL l, 0)
theorem presF_c (l : List Smp) : CallOK Try.prog 16 [.ro (l.map Smp.av)] (.tup [.ro ((presF l).1.map oneI), .val (.int .i64 (presF l).2)]) := by
  refine call_of mixed ok16 rfl ?_
  have hs := smp_c l
  by_cases h0 : smpF l = 0
  · obtain ⟨a, b, _⟩ := smpF_0 h0
    rw [h0] at hs
    repeat' first | ((with_reducible (first | refine condD ?_ ?_ | refine condE ?_ ?_ | refine condN ?_ ?_ | refine condI ?_ ?_ | refine condS ?_ ?_)) <;> intro h) | ((refine callG hs ?_)) | ((refine callG (presents_c l a b) ?_)) | (with_reducible refine And.intro ?_ ?_; omega) | (simp only [Z0,Z1,Z2,Z3,Z4,Z5,Z6,Z7,Z8,Z9,Za,Zb,Zc,Zd,Ze,Zf,List.cons.injEq,Zg,Zh,Zi,Zj,Zk,Zl,Zm,Zn,Zo,Zp,beq_self_eq_true,bne_self_eq_false,decide_true,decide_false,Zq,Zr,Zs,Zt,Zu,Zv,Zw,Zx,Zy,Zz,Y0,Y1,Y2,Y3,Y4,Y5,Y6,x_c,x_o,x_l,x_b,g_b,Y7,Y8,Y9,Ya,Yb,o_call,lk,ef,Yc,Yd,Yh,hv,Yj,ev,Yk,Yl,Ym,Yn,Yo,Yp,Yq,Yr,Ys,Yt,Yu,Yv,Yw,Yx,Yy,Yz,X0,X1,X2,X3,X4,vun,bnd,X5,X6,X7,zav,X8,X9,Xa,Xb,Xc,Xd,Value.oneCell',Xe,Xf,Xg,Xh,true_and,and_true,and_self,implies_true,Xi,Xj,Xk,Xl,false_implies,Xm,Xn,Xo,Xp,Xq,Xr,Xs,Xt,Xu,Xv,Xw,Xx,Xy,Xz,W0,W1,W2,reduceCtorEq,if_true,if_false,W3,↓reduceIte,W4,W5,W6,W7,W8,W9,ne_eq,not_false_eq_true,not_true_eq_false,Wa,Wb,r16_0,r16_1,r16_2,r16_3,r16_4,p16]) | (exfalso; omega)
    all_goals simp [presF, h0]
  · repeat' first | ((with_reducible (first | refine condD ?_ ?_ | refine condE ?_ ?_ | refine condN ?_ ?_ | refine condI ?_ ?_ | refine condS ?_ ?_)) <;> intro h) | ((refine callG hs ?_)) | (with_reducible refine And.intro ?_ ?_; omega) | (simp only [Z0,Z1,Z2,Z3,Z4,Z5,Z6,Z7,Z8,Z9,Za,Zb,Zc,Zd,Ze,Zf,List.cons.injEq,Zg,Zh,Zi,Zj,Zk,Zl,Zm,Zn,Zo,Zp,beq_self_eq_true,bne_self_eq_false,decide_true,decide_false,Zq,Zr,Zs,Zt,Zu,Zv,Zw,Zx,Zy,Zz,Y0,Y1,Y2,Y3,Y4,Y5,Y6,x_c,x_o,x_l,x_b,g_b,Y7,Y8,Y9,Ya,Yb,o_call,lk,ef,Yc,Yd,Yh,hv,Yj,ev,Yk,Yl,Ym,Yn,Yo,Yp,Yq,Yr,Ys,Yt,Yu,Yv,Yw,Yx,Yy,Yz,X0,X1,X2,X3,X4,vun,bnd,X5,X6,X7,zav,X8,X9,Xa,Xb,Xc,Xd,Value.oneCell',Xe,Xf,Xg,Xh,true_and,and_true,and_self,implies_true,Xi,Xj,Xk,Xl,false_implies,Xm,Xn,Xo,Xp,Xq,Xr,Xs,Xt,Xu,Xv,Xw,Xx,Xy,Xz,W0,W1,W2,reduceCtorEq,if_true,if_false,W3,↓reduceIte,W4,W5,W6,W7,W8,W9,ne_eq,not_false_eq_true,not_true_eq_false,Wa,Wb,r16_0,r16_1,r16_2,r16_3,r16_4,p16,bne0_t h0,beq0_f h0]) | (exfalso; omega)
    all_goals simp [presF, h0]
end Go.Proofs.Ytpecmhdepggnoaa
/- Copies of samples: slices.Clone, sample.moved, checked, by the machine on data. -/
namespace Go.Proofs.Ytpecmhdepggnoaa
open Go.RowKit
open Go.Proofs.Ytpecmhdepggnoaa.ASt renaming free → Z0
set_option linter.unusedSimpArgs false

/-! slices.Clone[[]headend/api.Sample,headend/api.Sample] -/
def r44_0 : List POp := [⟨2, .asg .nil, none⟩]
def r44_1 : List POp := [⟨3, .mv (.t 0), none⟩,
  ⟨4, .eqnil false (.t 3), none⟩]
def r44_2 : List POp := [⟨2, .asg .nil, none⟩]
def r44_3 : List POp := [⟨5, .row 69 5 [], none⟩,
  ⟨6, .mv (.t 0), none⟩,
  ⟨7, .app 69 5 40 (.t 5) (.t 6), none⟩,
  ⟨2, .asg (.t 7), none⟩]
def p44 : PCode := .seq (.ops r44_0) (.seq (.seq (.ops r44_1) (.cond (.t 4) (.seq (.ops r44_2) (.ret)) (.skip))) (.seq (.ops r44_3) (.ret)))
theorem ok44 : okFunc Try.prog 44 [.t 2] 1 p44 = true := by kernel_rfl
theorem clone_c (l : List Smp) (hl : l.length ≤ 5000) : CallOK Try.prog 44 [.ro (l.map Smp.av)] (.own 69 5 (l.map Smp.av)) := by
  refine call_of mixed ok44 rfl ?_
  repeat' first | ((with_reducible (first | refine condD ?_ ?_ | refine condE ?_ ?_ | refine condN ?_ ?_ | refine condI ?_ ?_ | refine condS ?_ ?_)) <;> intro h) | ((with_reducible refine nilG rfl (fun b hb => ?_))) | (with_reducible refine And.intro ?_ ?_; omega) | (simp only [done_eq,done_eq',donet_eq,donet_eq',fin_val,fin_tup,fin_agg,fin_ro,res_one,res_more,rv_t,rv_c,rv_l,AV.tup.injEq,AV.agg.injEq,AV.ro.injEq,List.cons.injEq,int_eq,bool_eq,Int.toNat_natCast,Int.reduceToNat,Int.toNat_zero,Int.toNat_one,Int.reduceLE,Int.reduceLT,Int.reduceBEq,Int.reduceBNe,beq_self_eq_true,bne_self_eq_false,decide_true,decide_false,Int.reduceNeg,toNat_pred,toNat_succ,List.length_map,cnd_t,cnd_f,grd_tt,grd_u,grd_tf,grd_ft,grd_ff,g_skip,g_ops,g_seq,g_block,g_exit,g_ret,x_c,x_o,x_l,x_b,g_b,g_nil,r_all,o_nil,g_cond,o_guard,lk,ef,o_mv,o_row,o_asg,o_app,o_eqnil,hv,eqAV,ev,view_t,view_c,view_nil,view_fn,look_own,look_box,look_junk,look_val,look_nilsl,look_ro,look_roAt,look_agg,look_tup,look_clo,look_alias,look_ref,look_into,rowOf,cellsOf,argv,vbin,vun,bnd,elemOf,putParts,setAt,zav,ASt.rid,Z0,AV.kill,AV.isHome,AV.noLoan,AV.cellOK,Value.oneCell',put_at,mk_at,mk_nil,initSt,true_and,and_true,and_self,implies_true,List.map_cons,List.map_nil,List.forall_mem_cons,List.not_mem_nil,false_implies,List.length_cons,List.length_nil,List.getD_cons_zero,List.getD_cons_succ,List.getD_nil,List.drop_succ_cons,List.drop_zero,List.take_succ_cons,List.take_zero,List.set_cons_zero,List.set_cons_succ,List.all_cons,List.all_nil,Bool.and_true,Bool.true_and,Bool.not_true,Bool.not_false,reduceCtorEq,if_true,if_false,Bool.false_eq_true,↓reduceIte,Nat.reduceEqDiff,Nat.reduceAdd,Nat.reduceSub,Nat.reduceMul,Nat.reduceLeDiff,Nat.reduceLT,ne_eq,not_false_eq_true,not_true_eq_false,Nat.one_ne_zero,Nat.zero_ne_one,r44_0,r44_1,r44_2,r44_3,p44]) | (exfalso; omega)
  · have hn : l = [] := by
      rcases l with _ | ⟨x, r⟩
      · rfl
      · have := hb (by simp)
        rw [this] at h; cases h
    subst hn
    exact fin_ownz rfl (by decide)
  · refine ⟨⟨fun y hy => ?_, by omega, by omega⟩, ?_⟩
    · obtain ⟨z, _, rfl⟩ := List.mem_map.1 hy
      rfl
    · exact fin_own (d := 2) rfl (by simp [put_at, ASt.free])
def Smp.late (by' : Int) (s : Smp) : Smp := ⟨s.time + by', s.step, s.shift, s.size, s.key⟩
def Smp.less (d : Int) (s : Smp) : Smp := ⟨s.time, s.step, s.shift - d, s.size, s.key⟩
def minS : Int → List Smp → Int
  | m, [] => m
  | m, s :: r => minS (if s.shift < m then s.shift else m) r
theorem minS_bd : ∀ {l : List Smp} {m : Int}, (∀ s ∈ l, badSmp s = false) → -1000000000 ≤ m → m ≤ 1000000000 → -1000000000 ≤ minS m l ∧ minS m l ≤ 1000000000
  | [], m, _, h1, h2 => ⟨h1, h2⟩
  | s :: r, m, h, h1, h2 => by
    have b := badSmp_bd (h s List.mem_cons_self)
    rw [minS]
    exact minS_bd (fun x hx => h x (List.mem_cons_of_mem _ hx)) (by split <;> omega) (by split <;> omega)
def tightBy (l : List Smp) : Int := minS (l.headD ⟨0, 0, 0, 0, false⟩).shift l
def tightL (l : List Smp) : List Smp := (l.map (Smp.late (tightBy l))).map (Smp.less (tightBy l))
def tightF (l : List Smp) : List Smp × Int × Int := if smpF l ≠ 0 then ([], 0, smpF l) else if l.length = 0 then ([], 0, 0) else if smpF (tightL l) ≠ 0 then ([], 0, smpF (tightL l)) else (tightL l, tightBy l, 0)
end Go.Proofs.Ytpecmhdepggnoaa
