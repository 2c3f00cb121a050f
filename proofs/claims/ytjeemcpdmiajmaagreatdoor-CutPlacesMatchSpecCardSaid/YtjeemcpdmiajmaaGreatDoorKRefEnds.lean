/- The reference's AllEnds, by the machine on data. -/
import Derived.Test.YtjeemcpdmiajmaaGreatDoorKNeed
import Derived.Test.YtjeemcpdmiajmaaGreatDoorKRefSmp
namespace Go.Proofs.YtjeemcpdmiajmaaGreatDoor
open Go.RowKit
open Go.Proofs.YtjeemcpdmiajmaaGreatDoor renaming done_eq → Z0, done_eq' → Z1, donet_eq → Z2, donet_eq' → Z3, fin_val → Z4, fin_tup → Z5, fin_agg → Z6, fin_ro → Z7, res_one → Z8, res_more → Z9, rv_t → Za, rv_c → Zb, rv_l → Zc, int_eq → Zg, bool_eq → Zh, toNat_pred → Zr, toNat_succ → Zs, cnd_t → Zu, cnd_f → Zv, grd_tt → Zw, grd_u → Zx, grd_tf → Zy, grd_ft → Zz, grd_ff → Y0, g_skip → Y1, g_ops → Y2, g_seq → Y3, g_block → Y4, g_exit → Y5, g_ret → Y6, x_c → Y7, x_o → Y8, x_l → Y9, x_b → Ya, g_b → Yb, g_nil → Yc, r_all → Yd, o_nil → Ye, g_cond → Yf, o_guard → Yg, o_call → Yh, o_mv → Yi, o_pick → Yj, o_bin → Yk, o_un → Yl, o_load → Ym, o_loads → Yn, o_fld → Yo, o_idx → Yp, o_len → Yq, o_row → Yr, o_asg → Ys, o_app → Yt, eqAV → Yu, view_t → Yv, view_c → Yw, view_nil → Yx, view_fn → Yy, look_own → Yz, look_box → X0, look_junk → X1, look_val → X2, look_nilsl → X3, look_ro → X4, look_roAt → X5, look_agg → X6, look_tup → X7, look_clo → X8, look_alias → X9, look_ref → Xa, look_into → Xb, rowOf → Xc, cellsOf → Xd, argv → Xe, vbin → Xf, vun → Xg, bnd → Xh, elemOf → Xi, putParts → Xj, setAt → Xk, zav → Xl, put_at → Xs, mk_at → Xt, mk_nil → Xu, initSt → Xv, wk_cons → Wq, wk_nil → Wr, vint_eq → Ws, vbool_eq → Wt
open Go.Proofs.YtjeemcpdmiajmaaGreatDoor.AV.tup renaming injEq → Zd
open Go.Proofs.YtjeemcpdmiajmaaGreatDoor.AV.agg renaming injEq → Ze
open Go.Proofs.YtjeemcpdmiajmaaGreatDoor.AV.ro renaming injEq → Zf
open _root_.Int renaming toNat_natCast → Zi, reduceToNat → Zj, toNat_zero → Zk, toNat_one → Zl, reduceLE → Zm, reduceLT → Zn, reduceBEq → Zo, reduceBNe → Zp, reduceNeg → Zq
open _root_.List renaming length_map → Zt, map_cons → Xw, map_nil → Xx, forall_mem_cons → Xy, not_mem_nil → Xz, length_cons → W0, length_nil → W1, getD_cons_zero → W2, getD_cons_succ → W3, getD_nil → W4, drop_succ_cons → W5, drop_zero → W6, take_succ_cons → W7, take_zero → W8, set_cons_zero → W9, set_cons_succ → Wa, all_cons → Wb, all_nil → Wc
open Go.Proofs.YtjeemcpdmiajmaaGreatDoor.ASt renaming rid → Xm, free → Xn
open Go.Proofs.YtjeemcpdmiajmaaGreatDoor.AV renaming kill → Xo, isHome → Xp, noLoan → Xq, cellOK → Xr
open _root_.Bool renaming and_true → Wd, true_and → We, not_true → Wf, not_false → Wg, false_eq_true → Wh
open _root_.Nat renaming reduceEqDiff → Wi, reduceAdd → Wj, reduceSub → Wk, reduceMul → Wl, reduceLeDiff → Wm, reduceLT → Wn, one_ne_zero → Wo, zero_ne_one → Wp
open Go.Proofs.YtjeemcpdmiajmaaGreatDoor.AV.val renaming injEq → Wu
set_option linter.unusedSimpArgs false

theorem drop_get {α : Type} {l : List α} {k : Nat} (h : k < l.length) : l.drop k = l[k] :: l.drop (k + 1) := List.drop_eq_getElem_cons h
theorem present_s {l : List Smp} (hb : ∀ s ∈ l, badSmp s = false) {k : Nat} (h : k < l.length) : CallOK Tryz.prog 57 [.agg l[k].av] (.val (.int .i64 ((presL l)[k]'(by rw [presL_len]; exact h)))) := by
  rw [pres_get h]; exact present_c l[k] (hb _ (List.getElem_mem h))
/-! headend/headendref3.AllEnds -/
def r56_0 : List POp := [⟨2, .asg .nil, none⟩]
def r56_1 : List POp := [⟨3, .asg .nil, none⟩]
def r56_2 : List POp := [⟨4, .asg (.c (.int .i64 0)), none⟩]
def r56_3 : List POp := [⟨9, .mv (.t 4), none⟩,
  ⟨10, .mv (.t 0), none⟩,
  ⟨11, .len (.t 10), none⟩,
  ⟨12, .bin .lss (.t 9) (.t 11), none⟩]
def r56_5 : List POp := [⟨5, .asg (.c (.int .i64 0)), none⟩,
  ⟨6, .asg (.c (.bool false)), none⟩]
def r56_6 : List POp := [⟨7, .asg (.c (.int .i64 0)), none⟩]
def r56_7 : List POp := [⟨15, .mv (.t 7), none⟩,
  ⟨16, .mv (.t 0), none⟩,
  ⟨17, .len (.t 16), none⟩,
  ⟨18, .bin .lss (.t 15) (.t 17), none⟩]
def r56_9 : List POp := [⟨21, .mv (.t 0), none⟩,
  ⟨22, .mv (.t 7), none⟩,
  ⟨23, .idx 5 (.t 21) (.t 22), none⟩,
  ⟨24, .loads 5 (.t 23), none⟩,
  ⟨25, .call 57 [.t 24], none⟩,
  ⟨8, .asg (.t 25), none⟩]
def r56_10 : List POp := [⟨26, .mv (.t 8), none⟩,
  ⟨27, .mv (.t 0), none⟩,
  ⟨28, .mv (.t 4), none⟩,
  ⟨29, .idx 5 (.t 27) (.t 28), none⟩,
  ⟨30, .loads 5 (.t 29), none⟩,
  ⟨31, .call 57 [.t 30], none⟩,
  ⟨32, .bin .gtr (.t 26) (.t 31), none⟩,
  ⟨33, .mv (.t 32), none⟩,
  ⟨34, .mv (.t 6), some (33, true)⟩,
  ⟨35, .un .not (.t 34), some (33, true)⟩,
  ⟨36, .mv (.t 35), some (33, true)⟩,
  ⟨37, .mv (.t 8), some (36, false)⟩,
  ⟨38, .mv (.t 5), some (36, false)⟩,
  ⟨39, .bin .lss (.t 37) (.t 38), some (36, false)⟩,
  ⟨40, .pick (.t 36) (.c (.bool true)) (.t 39), some (33, true)⟩,
  ⟨41, .pick (.t 33) (.t 40) (.c (.bool false)), none⟩]
def r56_11 : List POp := [⟨42, .mv (.t 8), none⟩,
  ⟨5, .asg (.t 42), none⟩,
  ⟨6, .asg (.c (.bool true)), none⟩]
def r56_8 : List POp := [⟨19, .mv (.t 7), none⟩,
  ⟨20, .bin .add (.t 19) (.c (.int .i64 1)), none⟩,
  ⟨7, .asg (.t 20), none⟩]
def r56_12 : List POp := [⟨43, .mv (.t 6), none⟩,
  ⟨44, .un .not (.t 43), none⟩]
def r56_13 : List POp := [⟨45, .mv (.t 0), none⟩,
  ⟨46, .mv (.t 4), none⟩,
  ⟨47, .idx 5 (.t 45) (.t 46), none⟩,
  ⟨48, .loads 5 (.t 47), none⟩,
  ⟨49, .call 57 [.t 48], none⟩,
  ⟨50, .mv (.t 0), none⟩,
  ⟨51, .mv (.t 4), none⟩,
  ⟨52, .idx 5 (.t 50) (.t 51), none⟩,
  ⟨53, .fld 1 (.t 52), none⟩,
  ⟨54, .load (.t 53), none⟩,
  ⟨55, .bin .add (.t 49) (.t 54), none⟩,
  ⟨5, .asg (.t 55), none⟩]
def r56_14 : List POp := [⟨56, .mv (.t 3), none⟩,
  ⟨57, .mv (.t 5), none⟩,
  ⟨58, .row 3 1 [.t 57], none⟩,
  ⟨59, .app 3 1 8 (.t 56) (.t 58), none⟩,
  ⟨3, .asg (.t 59), none⟩]
def r56_4 : List POp := [⟨13, .mv (.t 4), none⟩,
  ⟨14, .bin .add (.t 13) (.c (.int .i64 1)), none⟩,
  ⟨4, .asg (.t 14), none⟩]
def r56_15 : List POp := [⟨60, .mv (.t 3), none⟩,
  ⟨2, .asg (.t 60), none⟩]
def l56_1 : PCode := .seq (.seq (.ops r56_7) (.cond (.t 18) (.skip) (.exit 2))) (.seq (.block 3 (.seq (.ops r56_9) (.seq (.ops r56_10) (.cond (.t 41) (.ops r56_11) (.skip))))) (.ops r56_8))
def l56_0 : PCode := .seq (.seq (.ops r56_3) (.cond (.t 12) (.skip) (.exit 0))) (.seq (.block 1 (.seq (.ops r56_5) (.seq (.seq (.ops r56_6) (.block 2 (.loop l56_1))) (.seq (.seq (.ops r56_12) (.cond (.t 44) (.ops r56_13) (.skip))) (.ops r56_14))))) (.ops r56_4))
def p56 : PCode := .seq (.ops r56_0) (.seq (.ops r56_1) (.seq (.seq (.ops r56_2) (.block 0 (.loop l56_0))) (.seq (.ops r56_15) (.ret))))
theorem ok56 : okFunc Tryz.prog 56 [.t 2] 1 p56 = true := by kernel_rfl
set_option maxRecDepth 20000 in
theorem allends_c (l : List Smp) (hl : l.length ≤ 5000) (hb : ∀ s ∈ l, badSmp s = false) : CallOK Tryz.prog 56 [.ro (l.map Smp.av)] (.ro ((endsL l).map oneI)) := by
  refine call_of mixed ok56 rfl ?_
  have hpr := fun k (h : k < l.length) => present_s hb h
  obtain ⟨P, hP⟩ : ∃ P, P = presL l := ⟨_, rfl⟩
  have hPl : P.length = l.length := by rw [hP]; exact presL_len l
  have hPb := pres_bd hb
  have hE : endsL l = l.map (endOf P) := by rw [hP]; rfl
  have hpk : ∀ k (h : k < l.length), P[k]'(by rw [hPl]; exact h) = l[k].time + l[k].shift := fun k h => by subst hP; exact pres_get h
  have hpr2 : ∀ k (h : k < l.length), CallOK Tryz.prog 57 [.agg l[k].av] (.val (.int .i64 (P[k]'(by rw [hPl]; exact h)))) := fun k h => by subst hP; exact hpr k h
  rw [← hP] at hPb
  clear hpr
  repeat' first | ((with_reducible (first | refine condD ?_ ?_ | refine condE ?_ ?_ | refine condN ?_ ?_ | refine condI ?_ ?_ | refine condS ?_ ?_)) <;> intro h) | ((with_reducible (first | refine guardD (by with_unfolding_all rfl) ?_ ?_ | refine guardE (by with_unfolding_all rfl) ?_ ?_ | refine guardN (by with_unfolding_all rfl) ?_ ?_ | refine guardI (by with_unfolding_all rfl) ?_ ?_ | refine guardS (by with_unfolding_all rfl) ?_ ?_)) <;> intro h) | (with_reducible refine And.intro ?_ ?_; omega) | (simp only [Z0,Z1,Z2,Z3,Z4,Z5,Z6,Z7,Z8,Z9,Za,Zb,Zc,Zd,Ze,Zf,List.cons.injEq,Zg,Zh,Zi,Zj,Zk,Zl,Zm,Zn,Zo,Zp,beq_self_eq_true,bne_self_eq_false,decide_true,decide_false,Zq,Zr,Zs,Zt,Zu,Zv,Zw,Zx,Zy,Zz,Y0,Y1,Y2,Y3,Y4,Y5,Y6,Y7,Y8,Y9,Ya,Yb,Yc,Yd,Ye,Yf,Yg,Yh,lk,ef,Yi,Yj,Yk,Yl,Ym,Yn,Yo,Yp,Yq,Yr,Ys,Yt,hv,Yu,ev,Yv,Yw,Yx,Yy,Yz,X0,X1,X2,X3,X4,X5,X6,X7,X8,X9,Xa,Xb,Xc,Xd,Xe,Xf,Xg,Xh,Xi,Xj,Xk,Xl,Xm,Xn,Xo,Xp,Xq,Xr,Value.oneCell',Xs,Xt,Xu,Xv,true_and,and_true,and_self,implies_true,Xw,Xx,Xy,Xz,false_implies,W0,W1,W2,W3,W4,W5,W6,W7,W8,W9,Wa,Wb,Wc,Wd,We,Wf,Wg,reduceCtorEq,if_true,if_false,Wh,↓reduceIte,Wi,Wj,Wk,Wl,Wm,Wn,ne_eq,not_false_eq_true,not_true_eq_false,Wo,Wp,r56_0,r56_1,r56_2,r56_3,r56_5,r56_6,r56_7,r56_9,r56_10,r56_11,r56_8,r56_12,r56_13,r56_14,r56_4,r56_15,p56]) | (exfalso; omega)
  refine loopS (fun k : Nat => mk [(0, .ro (l.map Smp.av)), (3, .own 3 1 (((l.take k).map (endOf P)).map oneI)), (4, .val (.int .i64 k))]) (fun k => k ≤ l.length) (fun k => l.length - k) 0 (weak_mk ?_) (Nat.zero_le _) ?_
  · simp only [Wq,Wr,wk1,Ws,Wt,Wu,Z4,Z5,Z6,Z7,Z8,Z9,Za,Zb,Zc,Zd,Ze,Zf,List.cons.injEq,Zg,Zh,Zi,Zj,Zk,Zl,Zm,Zn,Zo,Zp,beq_self_eq_true,bne_self_eq_false,decide_true,decide_false,Zq,Zr,Zs,Zt,Zu,Zv,Zw,Zx,Zy,Zz,Y0,hv,Yu,ev,Yv,Yw,Yx,Yy,Yz,X0,X1,X2,X3,X4,X5,X6,X7,X8,X9,Xa,Xb,Xc,Xd,Xe,Xf,Xg,Xh,Xi,Xj,Xk,Xl,Xm,Xn,Xo,Xp,Xq,Xr,Value.oneCell',Xs,Xt,Xu,Xv,true_and,and_true,and_self,implies_true,Xw,Xx,Xy,Xz,false_implies,W0,W1,W2,W3,W4,W5,W6,W7,W8,W9,Wa,Wb,Wc,Wd,We,Wf,Wg,reduceCtorEq,if_true,if_false,Wh,↓reduceIte,Wi,Wj,Wk,Wl,Wm,Wn,ne_eq,not_false_eq_true,not_true_eq_false,Wo,Nat.zero_ne_one]
    simp
  · rintro J hJ k hk
    simp only [Z0,Z1,Z2,Z3,Z4,Z5,Z6,Z7,Z8,Z9,Za,Zb,Zc,Zd,Ze,Zf,List.cons.injEq,Zg,Zh,Zi,Zj,Zk,Zl,Zm,Zn,Zo,Zp,beq_self_eq_true,bne_self_eq_false,decide_true,decide_false,Zq,Zr,Zs,Zt,Zu,Zv,Zw,Zx,Zy,Zz,Y0,Y1,Y2,Y3,Y4,Y5,Y6,Y7,Y8,Y9,Ya,Yb,Yc,Yd,Ye,Yf,Yg,Yh,lk,ef,Yi,Yj,Yk,Yl,Ym,Yn,Yo,Yp,Yq,Yr,Ys,Yt,hv,Yu,ev,Yv,Yw,Yx,Yy,Yz,X0,X1,X2,X3,X4,X5,X6,X7,X8,X9,Xa,Xb,Xc,Xd,Xe,Xf,Xg,Xh,Xi,Xj,Xk,Xl,Xm,Xn,Xo,Xp,Xq,Xr,Value.oneCell',Xs,Xt,Xu,Xv,true_and,and_true,and_self,implies_true,Xw,Xx,Xy,Xz,false_implies,W0,W1,W2,W3,W4,W5,W6,W7,W8,W9,Wa,Wb,Wc,Wd,We,Wf,Wg,reduceCtorEq,if_true,if_false,Wh,↓reduceIte,Wi,Wj,Wk,Wl,Wm,Wn,ne_eq,not_false_eq_true,not_true_eq_false,Wo,Wp,r56_0,r56_1,r56_2,r56_3,r56_5,r56_6,r56_7,r56_9,r56_10,r56_11,r56_8,r56_12,r56_13,r56_14,r56_4,r56_15,p56,l56_0]
    refine condD (fun h => ?_) (fun h => ?_)
    · have hlt : k < l.length := by omega
      have hlp : k < P.length := by omega
      have hw := i_add1 k (by omega)
      have b := badSmp_bd (hb l[k] (List.getElem_mem hlt))
      have hk2 := hpr2 k hlt
      have hkk := hpk k hlt
      have w2 : IntKind.i64.wrap (P[k] + l[k].step) = P[k] + l[k].step := wrap_in (by omega) (by omega)
      have hsucc : (l.take (k + 1)).map (endOf P) = (l.take k).map (endOf P) ++ [endOf P l[k]] := by rw [List.take_succ_eq_append_getElem hlt, List.map_append]; rfl
      have hend : endOf P l[k] = (nextI P P[k]).getD (P[k] + l[k].step) := by unfold endOf; rw [← hkk]
      have hrl : ((l.take k).map (endOf P)).length = k := by rw [List.length_map, List.length_take]; omega
      have gk := getD_map (f := Smp.av) (d := []) hlt
      simp only [Smp.av] at hk2 gk
      clear hP
      repeat' first | ((with_reducible (first | refine condD ?_ ?_ | refine condE ?_ ?_ | refine condN ?_ ?_ | refine condI ?_ ?_ | refine condS ?_ ?_)) <;> intro h) | ((with_reducible (first | refine guardD (by with_unfolding_all rfl) ?_ ?_ | refine guardE (by with_unfolding_all rfl) ?_ ?_ | refine guardN (by with_unfolding_all rfl) ?_ ?_ | refine guardI (by with_unfolding_all rfl) ?_ ?_ | refine guardS (by with_unfolding_all rfl) ?_ ?_)) <;> intro h) | (with_reducible refine And.intro ?_ ?_; omega) | (simp only [Z0,Z1,Z2,Z3,Z4,Z5,Z6,Z7,Z8,Z9,Za,Zb,Zc,Zd,Ze,Zf,List.cons.injEq,Zg,Zh,Zi,Zj,Zk,Zl,Zm,Zn,Zo,Zp,beq_self_eq_true,bne_self_eq_false,decide_true,decide_false,Zq,Zr,Zs,Zt,Zu,Zv,Zw,Zx,Zy,Zz,Y0,Y1,Y2,Y3,Y4,Y5,Y6,Y7,Y8,Y9,Ya,Yb,Yc,Yd,Ye,Yf,Yg,Yh,lk,ef,Yi,Yj,Yk,Yl,Ym,Yn,Yo,Yp,Yq,Yr,Ys,Yt,hv,Yu,ev,Yv,Yw,Yx,Yy,Yz,X0,X1,X2,X3,X4,X5,X6,X7,X8,X9,Xa,Xb,Xc,Xd,Xe,Xf,Xg,Xh,Xi,Xj,Xk,Xl,Xm,Xn,Xo,Xp,Xq,Xr,Value.oneCell',Xs,Xt,Xu,Xv,true_and,and_true,and_self,implies_true,Xw,Xx,Xy,Xz,false_implies,W0,W1,W2,W3,W4,W5,W6,W7,W8,W9,Wa,Wb,Wc,Wd,We,Wf,Wg,reduceCtorEq,if_true,if_false,Wh,↓reduceIte,Wi,Wj,Wk,Wl,Wm,Wn,ne_eq,not_false_eq_true,not_true_eq_false,Wo,Wp,r56_0,r56_1,r56_2,r56_3,r56_5,r56_6,r56_7,r56_9,r56_10,r56_11,r56_8,r56_12,r56_13,r56_14,r56_4,r56_15,p56,l56_0]) | (exfalso; omega)
      refine loopS (fun p : Nat × Option Int => mk [(0, .ro (l.map Smp.av)), (3, .own 3 1 (((l.take k).map (endOf P)).map oneI)), (4, .val (.int .i64 k)), (5, .val (.int .i64 (p.2.getD 0))), (6, .val (.bool p.2.isSome)), (7, .val (.int .i64 p.1))]) (fun p => p.1 ≤ l.length ∧ nextI P P[k] = nextGo P[k] p.2 (P.drop p.1)) (fun p => l.length - p.1) (0, none) (weak_mk ?_) ⟨Nat.zero_le _, rfl⟩ ?_
      · simp only [Wq,Wr,wk1,Ws,Wt,Wu,Z4,Z5,Z6,Z7,Z8,Z9,Za,Zb,Zc,Zd,Ze,Zf,List.cons.injEq,Zg,Zh,Zi,Zj,Zk,Zl,Zm,Zn,Zo,Zp,beq_self_eq_true,bne_self_eq_false,decide_true,decide_false,Zq,Zr,Zs,Zt,Zu,Zv,Zw,Zx,Zy,Zz,Y0,hv,Yu,ev,Yv,Yw,Yx,Yy,Yz,X0,X1,X2,X3,X4,X5,X6,X7,X8,X9,Xa,Xb,Xc,Xd,Xe,Xf,Xg,Xh,Xi,Xj,Xk,Xl,Xm,Xn,Xo,Xp,Xq,Xr,Value.oneCell',Xs,Xt,Xu,Xv,true_and,and_true,and_self,implies_true,Xw,Xx,Xy,Xz,false_implies,W0,W1,W2,W3,W4,W5,W6,W7,W8,W9,Wa,Wb,Wc,Wd,We,Wf,Wg,reduceCtorEq,if_true,if_false,Wh,↓reduceIte,Wi,Wj,Wk,Wl,Wm,Wn,ne_eq,not_false_eq_true,not_true_eq_false,Wo,Nat.zero_ne_one]
        simp
      · rintro J2 hJ2 ⟨j, acc⟩ ⟨hj, hg⟩
        simp only at hj hg
        simp only [Z0,Z1,Z2,Z3,Z4,Z5,Z6,Z7,Z8,Z9,Za,Zb,Zc,Zd,Ze,Zf,List.cons.injEq,Zg,Zh,Zi,Zj,Zk,Zl,Zm,Zn,Zo,Zp,beq_self_eq_true,bne_self_eq_false,decide_true,decide_false,Zq,Zr,Zs,Zt,Zu,Zv,Zw,Zx,Zy,Zz,Y0,Y1,Y2,Y3,Y4,Y5,Y6,Y7,Y8,Y9,Ya,Yb,Yc,Yd,Ye,Yf,Yg,Yh,lk,ef,Yi,Yj,Yk,Yl,Ym,Yn,Yo,Yp,Yq,Yr,Ys,Yt,hv,Yu,ev,Yv,Yw,Yx,Yy,Yz,X0,X1,X2,X3,X4,X5,X6,X7,X8,X9,Xa,Xb,Xc,Xd,Xe,Xf,Xg,Xh,Xi,Xj,Xk,Xl,Xm,Xn,Xo,Xp,Xq,Xr,Value.oneCell',Xs,Xt,Xu,Xv,true_and,and_true,and_self,implies_true,Xw,Xx,Xy,Xz,false_implies,W0,W1,W2,W3,W4,W5,W6,W7,W8,W9,Wa,Wb,Wc,Wd,We,Wf,Wg,reduceCtorEq,if_true,if_false,Wh,↓reduceIte,Wi,Wj,Wk,Wl,Wm,Wn,ne_eq,not_false_eq_true,not_true_eq_false,Wo,Wp,r56_0,r56_1,r56_2,r56_3,r56_5,r56_6,r56_7,r56_9,r56_10,r56_11,r56_8,r56_12,r56_13,r56_14,r56_4,r56_15,p56,l56_1]
        refine condD (fun h2 => ?_) (fun h2 => ?_)
        · have hltj : j < l.length := by omega
          have hljp : j < P.length := by omega
          have hwj := i_add1 j (by omega)
          have hj2 := hpr2 j hltj
          have gj := getD_map (f := Smp.av) (d := []) hltj
          simp only [Smp.av] at hj2 gj
          rw [drop_get hljp, nextGo] at hg
          by_cases hc : P[k] < P[j]
          · cases acc with
            | none =>
              rw [if_pos ⟨hc, rfl⟩] at hg
              repeat' first | ((with_reducible (first | refine condD ?_ ?_ | refine condE ?_ ?_ | refine condN ?_ ?_ | refine condI ?_ ?_ | refine condS ?_ ?_)) <;> intro h) | ((with_reducible (first | refine guardD (by with_unfolding_all rfl) ?_ ?_ | refine guardE (by with_unfolding_all rfl) ?_ ?_ | refine guardN (by with_unfolding_all rfl) ?_ ?_ | refine guardI (by with_unfolding_all rfl) ?_ ?_ | refine guardS (by with_unfolding_all rfl) ?_ ?_)) <;> intro h) | ((refine callG hj2 ?_)) | ((refine callG hk2 ?_)) | (with_reducible refine And.intro ?_ ?_; omega) | (simp only [Z0,Z1,Z2,Z3,Z4,Z5,Z6,Z7,Z8,Z9,Za,Zb,Zc,Zd,Ze,Zf,List.cons.injEq,Zg,Zh,Zi,Zj,Zk,Zl,Zm,Zn,Zo,Zp,beq_self_eq_true,bne_self_eq_false,decide_true,decide_false,Zq,Zr,Zs,Zt,Zu,Zv,Zw,Zx,Zy,Zz,Y0,Y1,Y2,Y3,Y4,Y5,Y6,Y7,Y8,Y9,Ya,Yb,Yc,Yd,Ye,Yf,Yg,Yh,lk,ef,Yi,Yj,Yk,Yl,Ym,Yn,Yo,Yp,Yq,Yr,Ys,Yt,hv,Yu,ev,Yv,Yw,Yx,Yy,Yz,X0,X1,X2,X3,X4,X5,X6,X7,X8,X9,Xa,Xb,Xc,Xd,Xe,Xf,Xg,Xh,Xi,Xj,Xk,Xl,Xm,Xn,Xo,Xp,Xq,Xr,Value.oneCell',Xs,Xt,Xu,Xv,true_and,and_true,and_self,implies_true,Xw,Xx,Xy,Xz,false_implies,W0,W1,W2,W3,W4,W5,W6,W7,W8,W9,Wa,Wb,Wc,Wd,We,Wf,Wg,reduceCtorEq,if_true,if_false,Wh,↓reduceIte,Wi,Wj,Wk,Wl,Wm,Wn,ne_eq,not_false_eq_true,not_true_eq_false,Wo,Wp,r56_0,r56_1,r56_2,r56_3,r56_5,r56_6,r56_7,r56_9,r56_10,r56_11,r56_8,r56_12,r56_13,r56_14,r56_4,r56_15,p56,l56_1,gk,gj,hc,Option.isSome_none,Option.getD_none]) | (exfalso; omega)
              all_goals exact again hJ2 (j + 1, some P[j]) (weak_mk (by simp only [Wq,Wr,wk1,Ws,Wt,Wu,Z4,Z5,Z6,Z7,Z8,Z9,Za,Zb,Zc,Zd,Ze,Zf,List.cons.injEq,Zg,Zh,Zi,Zj,Zk,Zl,Zm,Zn,Zo,Zp,beq_self_eq_true,bne_self_eq_false,decide_true,decide_false,Zq,Zr,Zs,Zt,Zu,Zv,Zw,Zx,Zy,Zz,Y0,hv,Yu,ev,Yv,Yw,Yx,Yy,Yz,X0,X1,X2,X3,X4,X5,X6,X7,X8,X9,Xa,Xb,Xc,Xd,Xe,Xf,Xg,Xh,Xi,Xj,Xk,Xl,Xm,Xn,Xo,Xp,Xq,Xr,Value.oneCell',Xs,Xt,Xu,Xv,true_and,and_true,and_self,implies_true,Xw,Xx,Xy,Xz,false_implies,W0,W1,W2,W3,W4,W5,W6,W7,W8,W9,Wa,Wb,Wc,Wd,We,Wf,Wg,reduceCtorEq,if_true,if_false,Wh,↓reduceIte,Wi,Wj,Wk,Wl,Wm,Wn,ne_eq,not_false_eq_true,not_true_eq_false,Wo,Nat.zero_ne_one]; simp [hwj])) ⟨by simp only; omega, hg⟩ (by simp only; omega)
            | some e =>
              by_cases hce : P[j] < e
              · rw [if_pos ⟨hc, by simpa using hce⟩] at hg
                repeat' first | ((with_reducible (first | refine condD ?_ ?_ | refine condE ?_ ?_ | refine condN ?_ ?_ | refine condI ?_ ?_ | refine condS ?_ ?_)) <;> intro h) | ((with_reducible (first | refine guardD (by with_unfolding_all rfl) ?_ ?_ | refine guardE (by with_unfolding_all rfl) ?_ ?_ | refine guardN (by with_unfolding_all rfl) ?_ ?_ | refine guardI (by with_unfolding_all rfl) ?_ ?_ | refine guardS (by with_unfolding_all rfl) ?_ ?_)) <;> intro h) | ((refine callG hj2 ?_)) | ((refine callG hk2 ?_)) | (with_reducible refine And.intro ?_ ?_; omega) | (simp only [Z0,Z1,Z2,Z3,Z4,Z5,Z6,Z7,Z8,Z9,Za,Zb,Zc,Zd,Ze,Zf,List.cons.injEq,Zg,Zh,Zi,Zj,Zk,Zl,Zm,Zn,Zo,Zp,beq_self_eq_true,bne_self_eq_false,decide_true,decide_false,Zq,Zr,Zs,Zt,Zu,Zv,Zw,Zx,Zy,Zz,Y0,Y1,Y2,Y3,Y4,Y5,Y6,Y7,Y8,Y9,Ya,Yb,Yc,Yd,Ye,Yf,Yg,Yh,lk,ef,Yi,Yj,Yk,Yl,Ym,Yn,Yo,Yp,Yq,Yr,Ys,Yt,hv,Yu,ev,Yv,Yw,Yx,Yy,Yz,X0,X1,X2,X3,X4,X5,X6,X7,X8,X9,Xa,Xb,Xc,Xd,Xe,Xf,Xg,Xh,Xi,Xj,Xk,Xl,Xm,Xn,Xo,Xp,Xq,Xr,Value.oneCell',Xs,Xt,Xu,Xv,true_and,and_true,and_self,implies_true,Xw,Xx,Xy,Xz,false_implies,W0,W1,W2,W3,W4,W5,W6,W7,W8,W9,Wa,Wb,Wc,Wd,We,Wf,Wg,reduceCtorEq,if_true,if_false,Wh,↓reduceIte,Wi,Wj,Wk,Wl,Wm,Wn,ne_eq,not_false_eq_true,not_true_eq_false,Wo,Wp,r56_0,r56_1,r56_2,r56_3,r56_5,r56_6,r56_7,r56_9,r56_10,r56_11,r56_8,r56_12,r56_13,r56_14,r56_4,r56_15,p56,l56_1,gk,gj,hc,hce,Option.isSome_some,Option.getD_some]) | (exfalso; omega)
                all_goals exact again hJ2 (j + 1, some P[j]) (weak_mk (by simp only [Wq,Wr,wk1,Ws,Wt,Wu,Z4,Z5,Z6,Z7,Z8,Z9,Za,Zb,Zc,Zd,Ze,Zf,List.cons.injEq,Zg,Zh,Zi,Zj,Zk,Zl,Zm,Zn,Zo,Zp,beq_self_eq_true,bne_self_eq_false,decide_true,decide_false,Zq,Zr,Zs,Zt,Zu,Zv,Zw,Zx,Zy,Zz,Y0,hv,Yu,ev,Yv,Yw,Yx,Yy,Yz,X0,X1,X2,X3,X4,X5,X6,X7,X8,X9,Xa,Xb,Xc,Xd,Xe,Xf,Xg,Xh,Xi,Xj,Xk,Xl,Xm,Xn,Xo,Xp,Xq,Xr,Value.oneCell',Xs,Xt,Xu,Xv,true_and,and_true,and_self,implies_true,Xw,Xx,Xy,Xz,false_implies,W0,W1,W2,W3,W4,W5,W6,W7,W8,W9,Wa,Wb,Wc,Wd,We,Wf,Wg,reduceCtorEq,if_true,if_false,Wh,↓reduceIte,Wi,Wj,Wk,Wl,Wm,Wn,ne_eq,not_false_eq_true,not_true_eq_false,Wo,Nat.zero_ne_one]; simp [hwj])) ⟨by simp only; omega, hg⟩ (by simp only; omega)
              · rw [if_neg (fun hx => hce (by simpa using hx.2))] at hg
                repeat' first | ((with_reducible (first | refine condD ?_ ?_ | refine condE ?_ ?_ | refine condN ?_ ?_ | refine condI ?_ ?_ | refine condS ?_ ?_)) <;> intro h) | ((with_reducible (first | refine guardD (by with_unfolding_all rfl) ?_ ?_ | refine guardE (by with_unfolding_all rfl) ?_ ?_ | refine guardN (by with_unfolding_all rfl) ?_ ?_ | refine guardI (by with_unfolding_all rfl) ?_ ?_ | refine guardS (by with_unfolding_all rfl) ?_ ?_)) <;> intro h) | ((refine callG hj2 ?_)) | ((refine callG hk2 ?_)) | (with_reducible refine And.intro ?_ ?_; omega) | (simp only [Z0,Z1,Z2,Z3,Z4,Z5,Z6,Z7,Z8,Z9,Za,Zb,Zc,Zd,Ze,Zf,List.cons.injEq,Zg,Zh,Zi,Zj,Zk,Zl,Zm,Zn,Zo,Zp,beq_self_eq_true,bne_self_eq_false,decide_true,decide_false,Zq,Zr,Zs,Zt,Zu,Zv,Zw,Zx,Zy,Zz,Y0,Y1,Y2,Y3,Y4,Y5,Y6,Y7,Y8,Y9,Ya,Yb,Yc,Yd,Ye,Yf,Yg,Yh,lk,ef,Yi,Yj,Yk,Yl,Ym,Yn,Yo,Yp,Yq,Yr,Ys,Yt,hv,Yu,ev,Yv,Yw,Yx,Yy,Yz,X0,X1,X2,X3,X4,X5,X6,X7,X8,X9,Xa,Xb,Xc,Xd,Xe,Xf,Xg,Xh,Xi,Xj,Xk,Xl,Xm,Xn,Xo,Xp,Xq,Xr,Value.oneCell',Xs,Xt,Xu,Xv,true_and,and_true,and_self,implies_true,Xw,Xx,Xy,Xz,false_implies,W0,W1,W2,W3,W4,W5,W6,W7,W8,W9,Wa,Wb,Wc,Wd,We,Wf,Wg,reduceCtorEq,if_true,if_false,Wh,↓reduceIte,Wi,Wj,Wk,Wl,Wm,Wn,ne_eq,not_false_eq_true,not_true_eq_false,Wo,Wp,r56_0,r56_1,r56_2,r56_3,r56_5,r56_6,r56_7,r56_9,r56_10,r56_11,r56_8,r56_12,r56_13,r56_14,r56_4,r56_15,p56,l56_1,gk,gj,hc,hce,Option.isSome_some,Option.getD_some]) | (exfalso; omega)
                all_goals exact again hJ2 (j + 1, some e) (weak_mk (by simp only [Wq,Wr,wk1,Ws,Wt,Wu,Z4,Z5,Z6,Z7,Z8,Z9,Za,Zb,Zc,Zd,Ze,Zf,List.cons.injEq,Zg,Zh,Zi,Zj,Zk,Zl,Zm,Zn,Zo,Zp,beq_self_eq_true,bne_self_eq_false,decide_true,decide_false,Zq,Zr,Zs,Zt,Zu,Zv,Zw,Zx,Zy,Zz,Y0,hv,Yu,ev,Yv,Yw,Yx,Yy,Yz,X0,X1,X2,X3,X4,X5,X6,X7,X8,X9,Xa,Xb,Xc,Xd,Xe,Xf,Xg,Xh,Xi,Xj,Xk,Xl,Xm,Xn,Xo,Xp,Xq,Xr,Value.oneCell',Xs,Xt,Xu,Xv,true_and,and_true,and_self,implies_true,Xw,Xx,Xy,Xz,false_implies,W0,W1,W2,W3,W4,W5,W6,W7,W8,W9,Wa,Wb,Wc,Wd,We,Wf,Wg,reduceCtorEq,if_true,if_false,Wh,↓reduceIte,Wi,Wj,Wk,Wl,Wm,Wn,ne_eq,not_false_eq_true,not_true_eq_false,Wo,Nat.zero_ne_one]; simp [hwj])) ⟨by simp only; omega, hg⟩ (by simp only; omega)
          · rw [if_neg (fun hx => hc hx.1)] at hg
            repeat' first | ((with_reducible (first | refine condD ?_ ?_ | refine condE ?_ ?_ | refine condN ?_ ?_ | refine condI ?_ ?_ | refine condS ?_ ?_)) <;> intro h) | ((with_reducible (first | refine guardD (by with_unfolding_all rfl) ?_ ?_ | refine guardE (by with_unfolding_all rfl) ?_ ?_ | refine guardN (by with_unfolding_all rfl) ?_ ?_ | refine guardI (by with_unfolding_all rfl) ?_ ?_ | refine guardS (by with_unfolding_all rfl) ?_ ?_)) <;> intro h) | ((refine callG hj2 ?_)) | ((refine callG hk2 ?_)) | (with_reducible refine And.intro ?_ ?_; omega) | (simp only [Z0,Z1,Z2,Z3,Z4,Z5,Z6,Z7,Z8,Z9,Za,Zb,Zc,Zd,Ze,Zf,List.cons.injEq,Zg,Zh,Zi,Zj,Zk,Zl,Zm,Zn,Zo,Zp,beq_self_eq_true,bne_self_eq_false,decide_true,decide_false,Zq,Zr,Zs,Zt,Zu,Zv,Zw,Zx,Zy,Zz,Y0,Y1,Y2,Y3,Y4,Y5,Y6,Y7,Y8,Y9,Ya,Yb,Yc,Yd,Ye,Yf,Yg,Yh,lk,ef,Yi,Yj,Yk,Yl,Ym,Yn,Yo,Yp,Yq,Yr,Ys,Yt,hv,Yu,ev,Yv,Yw,Yx,Yy,Yz,X0,X1,X2,X3,X4,X5,X6,X7,X8,X9,Xa,Xb,Xc,Xd,Xe,Xf,Xg,Xh,Xi,Xj,Xk,Xl,Xm,Xn,Xo,Xp,Xq,Xr,Value.oneCell',Xs,Xt,Xu,Xv,true_and,and_true,and_self,implies_true,Xw,Xx,Xy,Xz,false_implies,W0,W1,W2,W3,W4,W5,W6,W7,W8,W9,Wa,Wb,Wc,Wd,We,Wf,Wg,reduceCtorEq,if_true,if_false,Wh,↓reduceIte,Wi,Wj,Wk,Wl,Wm,Wn,ne_eq,not_false_eq_true,not_true_eq_false,Wo,Wp,r56_0,r56_1,r56_2,r56_3,r56_5,r56_6,r56_7,r56_9,r56_10,r56_11,r56_8,r56_12,r56_13,r56_14,r56_4,r56_15,p56,l56_1,gk,gj,hc]) | (exfalso; omega)
            all_goals exact again hJ2 (j + 1, acc) (weak_mk (by simp only [Wq,Wr,wk1,Ws,Wt,Wu,Z4,Z5,Z6,Z7,Z8,Z9,Za,Zb,Zc,Zd,Ze,Zf,List.cons.injEq,Zg,Zh,Zi,Zj,Zk,Zl,Zm,Zn,Zo,Zp,beq_self_eq_true,bne_self_eq_false,decide_true,decide_false,Zq,Zr,Zs,Zt,Zu,Zv,Zw,Zx,Zy,Zz,Y0,hv,Yu,ev,Yv,Yw,Yx,Yy,Yz,X0,X1,X2,X3,X4,X5,X6,X7,X8,X9,Xa,Xb,Xc,Xd,Xe,Xf,Xg,Xh,Xi,Xj,Xk,Xl,Xm,Xn,Xo,Xp,Xq,Xr,Value.oneCell',Xs,Xt,Xu,Xv,true_and,and_true,and_self,implies_true,Xw,Xx,Xy,Xz,false_implies,W0,W1,W2,W3,W4,W5,W6,W7,W8,W9,Wa,Wb,Wc,Wd,We,Wf,Wg,reduceCtorEq,if_true,if_false,Wh,↓reduceIte,Wi,Wj,Wk,Wl,Wm,Wn,ne_eq,not_false_eq_true,not_true_eq_false,Wo,Nat.zero_ne_one]; simp [hwj])) ⟨by simp only; omega, hg⟩ (by simp only; omega)
        · have hje : j = l.length := by omega
          subst hje
          rw [List.drop_eq_nil_of_le (by omega), nextGo] at hg
          rw [hg] at hend
          cases acc with
          | none =>
            rw [Option.getD_none] at hend
            rw [hend] at hsucc
            repeat' first | ((with_reducible (first | refine condD ?_ ?_ | refine condE ?_ ?_ | refine condN ?_ ?_ | refine condI ?_ ?_ | refine condS ?_ ?_)) <;> intro h) | ((with_reducible (first | refine guardD (by with_unfolding_all rfl) ?_ ?_ | refine guardE (by with_unfolding_all rfl) ?_ ?_ | refine guardN (by with_unfolding_all rfl) ?_ ?_ | refine guardI (by with_unfolding_all rfl) ?_ ?_ | refine guardS (by with_unfolding_all rfl) ?_ ?_)) <;> intro h) | ((refine callG hk2 ?_)) | (with_reducible refine And.intro ?_ ?_; omega) | (simp only [Z0,Z1,Z2,Z3,Z4,Z5,Z6,Z7,Z8,Z9,Za,Zb,Zc,Zd,Ze,Zf,List.cons.injEq,Zg,Zh,Zi,Zj,Zk,Zl,Zm,Zn,Zo,Zp,beq_self_eq_true,bne_self_eq_false,decide_true,decide_false,Zq,Zr,Zs,Zt,Zu,Zv,Zw,Zx,Zy,Zz,Y0,Y1,Y2,Y3,Y4,Y5,Y6,Y7,Y8,Y9,Ya,Yb,Yc,Yd,Ye,Yf,Yg,Yh,lk,ef,Yi,Yj,Yk,Yl,Ym,Yn,Yo,Yp,Yq,Yr,Ys,Yt,hv,Yu,ev,Yv,Yw,Yx,Yy,Yz,X0,X1,X2,X3,X4,X5,X6,X7,X8,X9,Xa,Xb,Xc,Xd,Xe,Xf,Xg,Xh,Xi,Xj,Xk,Xl,Xm,Xn,Xo,Xp,Xq,Xr,Value.oneCell',Xs,Xt,Xu,Xv,true_and,and_true,and_self,implies_true,Xw,Xx,Xy,Xz,false_implies,W0,W1,W2,W3,W4,W5,W6,W7,W8,W9,Wa,Wb,Wc,Wd,We,Wf,Wg,reduceCtorEq,if_true,if_false,Wh,↓reduceIte,Wi,Wj,Wk,Wl,Wm,Wn,ne_eq,not_false_eq_true,not_true_eq_false,Wo,Wp,r56_0,r56_1,r56_2,r56_3,r56_5,r56_6,r56_7,r56_9,r56_10,r56_11,r56_8,r56_12,r56_13,r56_14,r56_4,r56_15,p56,l56_1,gk,w2,hrl,Option.isSome_none,Option.getD_none]) | (exfalso; omega)
            all_goals exact again hJ (k + 1) (weak_mk (by simp only [Wq,Wr,wk1,Ws,Wt,Wu,Z4,Z5,Z6,Z7,Z8,Z9,Za,Zb,Zc,Zd,Ze,Zf,List.cons.injEq,Zg,Zh,Zi,Zj,Zk,Zl,Zm,Zn,Zo,Zp,beq_self_eq_true,bne_self_eq_false,decide_true,decide_false,Zq,Zr,Zs,Zt,Zu,Zv,Zw,Zx,Zy,Zz,Y0,hv,Yu,ev,Yv,Yw,Yx,Yy,Yz,X0,X1,X2,X3,X4,X5,X6,X7,X8,X9,Xa,Xb,Xc,Xd,Xe,Xf,Xg,Xh,Xi,Xj,Xk,Xl,Xm,Xn,Xo,Xp,Xq,Xr,Value.oneCell',Xs,Xt,Xu,Xv,true_and,and_true,and_self,implies_true,Xw,Xx,Xy,Xz,false_implies,W0,W1,W2,W3,W4,W5,W6,W7,W8,W9,Wa,Wb,Wc,Wd,We,Wf,Wg,reduceCtorEq,if_true,if_false,Wh,↓reduceIte,Wi,Wj,Wk,Wl,Wm,Wn,ne_eq,not_false_eq_true,not_true_eq_false,Wo,Nat.zero_ne_one]; exact ⟨by rw [hsucc]; simp [oneI], hw⟩)) (by omega) (by omega)
          | some e =>
            rw [Option.getD_some] at hend
            rw [hend] at hsucc
            repeat' first | ((with_reducible (first | refine condD ?_ ?_ | refine condE ?_ ?_ | refine condN ?_ ?_ | refine condI ?_ ?_ | refine condS ?_ ?_)) <;> intro h) | ((with_reducible (first | refine guardD (by with_unfolding_all rfl) ?_ ?_ | refine guardE (by with_unfolding_all rfl) ?_ ?_ | refine guardN (by with_unfolding_all rfl) ?_ ?_ | refine guardI (by with_unfolding_all rfl) ?_ ?_ | refine guardS (by with_unfolding_all rfl) ?_ ?_)) <;> intro h) | ((refine callG hk2 ?_)) | (with_reducible refine And.intro ?_ ?_; omega) | (simp only [Z0,Z1,Z2,Z3,Z4,Z5,Z6,Z7,Z8,Z9,Za,Zb,Zc,Zd,Ze,Zf,List.cons.injEq,Zg,Zh,Zi,Zj,Zk,Zl,Zm,Zn,Zo,Zp,beq_self_eq_true,bne_self_eq_false,decide_true,decide_false,Zq,Zr,Zs,Zt,Zu,Zv,Zw,Zx,Zy,Zz,Y0,Y1,Y2,Y3,Y4,Y5,Y6,Y7,Y8,Y9,Ya,Yb,Yc,Yd,Ye,Yf,Yg,Yh,lk,ef,Yi,Yj,Yk,Yl,Ym,Yn,Yo,Yp,Yq,Yr,Ys,Yt,hv,Yu,ev,Yv,Yw,Yx,Yy,Yz,X0,X1,X2,X3,X4,X5,X6,X7,X8,X9,Xa,Xb,Xc,Xd,Xe,Xf,Xg,Xh,Xi,Xj,Xk,Xl,Xm,Xn,Xo,Xp,Xq,Xr,Value.oneCell',Xs,Xt,Xu,Xv,true_and,and_true,and_self,implies_true,Xw,Xx,Xy,Xz,false_implies,W0,W1,W2,W3,W4,W5,W6,W7,W8,W9,Wa,Wb,Wc,Wd,We,Wf,Wg,reduceCtorEq,if_true,if_false,Wh,↓reduceIte,Wi,Wj,Wk,Wl,Wm,Wn,ne_eq,not_false_eq_true,not_true_eq_false,Wo,Wp,r56_0,r56_1,r56_2,r56_3,r56_5,r56_6,r56_7,r56_9,r56_10,r56_11,r56_8,r56_12,r56_13,r56_14,r56_4,r56_15,p56,l56_1,gk,w2,hrl,Option.isSome_some,Option.getD_some]) | (exfalso; omega)
            all_goals exact again hJ (k + 1) (weak_mk (by simp only [Wq,Wr,wk1,Ws,Wt,Wu,Z4,Z5,Z6,Z7,Z8,Z9,Za,Zb,Zc,Zd,Ze,Zf,List.cons.injEq,Zg,Zh,Zi,Zj,Zk,Zl,Zm,Zn,Zo,Zp,beq_self_eq_true,bne_self_eq_false,decide_true,decide_false,Zq,Zr,Zs,Zt,Zu,Zv,Zw,Zx,Zy,Zz,Y0,hv,Yu,ev,Yv,Yw,Yx,Yy,Yz,X0,X1,X2,X3,X4,X5,X6,X7,X8,X9,Xa,Xb,Xc,Xd,Xe,Xf,Xg,Xh,Xi,Xj,Xk,Xl,Xm,Xn,Xo,Xp,Xq,Xr,Value.oneCell',Xs,Xt,Xu,Xv,true_and,and_true,and_self,implies_true,Xw,Xx,Xy,Xz,false_implies,W0,W1,W2,W3,W4,W5,W6,W7,W8,W9,Wa,Wb,Wc,Wd,We,Wf,Wg,reduceCtorEq,if_true,if_false,Wh,↓reduceIte,Wi,Wj,Wk,Wl,Wm,Wn,ne_eq,not_false_eq_true,not_true_eq_false,Wo,Nat.zero_ne_one]; exact ⟨by rw [hsucc]; simp [oneI], hw⟩)) (by omega) (by omega)
    · have hke : k = l.length := by omega
      subst hke
      rw [List.take_length, ← hE]
      repeat' first | ((with_reducible (first | refine condD ?_ ?_ | refine condE ?_ ?_ | refine condN ?_ ?_ | refine condI ?_ ?_ | refine condS ?_ ?_)) <;> intro h) | ((with_reducible (first | refine guardD (by with_unfolding_all rfl) ?_ ?_ | refine guardE (by with_unfolding_all rfl) ?_ ?_ | refine guardN (by with_unfolding_all rfl) ?_ ?_ | refine guardI (by with_unfolding_all rfl) ?_ ?_ | refine guardS (by with_unfolding_all rfl) ?_ ?_)) <;> intro h) | (with_reducible refine And.intro ?_ ?_; omega) | (simp only [Z0,Z1,Z2,Z3,Z4,Z5,Z6,Z7,Z8,Z9,Za,Zb,Zc,Zd,Ze,Zf,List.cons.injEq,Zg,Zh,Zi,Zj,Zk,Zl,Zm,Zn,Zo,Zp,beq_self_eq_true,bne_self_eq_false,decide_true,decide_false,Zq,Zr,Zs,Zt,Zu,Zv,Zw,Zx,Zy,Zz,Y0,Y1,Y2,Y3,Y4,Y5,Y6,Y7,Y8,Y9,Ya,Yb,Yc,Yd,Ye,Yf,Yg,Yh,lk,ef,Yi,Yj,Yk,Yl,Ym,Yn,Yo,Yp,Yq,Yr,Ys,Yt,hv,Yu,ev,Yv,Yw,Yx,Yy,Yz,X0,X1,X2,X3,X4,X5,X6,X7,X8,X9,Xa,Xb,Xc,Xd,Xe,Xf,Xg,Xh,Xi,Xj,Xk,Xl,Xm,Xn,Xo,Xp,Xq,Xr,Value.oneCell',Xs,Xt,Xu,Xv,true_and,and_true,and_self,implies_true,Xw,Xx,Xy,Xz,false_implies,W0,W1,W2,W3,W4,W5,W6,W7,W8,W9,Wa,Wb,Wc,Wd,We,Wf,Wg,reduceCtorEq,if_true,if_false,Wh,↓reduceIte,Wi,Wj,Wk,Wl,Wm,Wn,ne_eq,not_false_eq_true,not_true_eq_false,Wo,Wp,r56_0,r56_1,r56_2,r56_3,r56_5,r56_6,r56_7,r56_9,r56_10,r56_11,r56_8,r56_12,r56_13,r56_14,r56_4,r56_15,p56,l56_0]) | (exfalso; omega)
end Go.Proofs.YtjeemcpdmiajmaaGreatDoor
