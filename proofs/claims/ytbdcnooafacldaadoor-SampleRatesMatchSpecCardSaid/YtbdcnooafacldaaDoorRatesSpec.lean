/- The reference's fractions of whole numbers, rounded: one chain of calls. -/
import Derived.Test.YtbdcnooafacldaaDoorKNumW
import Derived.Test.YtbdcnooafacldaaDoorKPeak
import Derived.Test.YtbdcnooafacldaaDoorKRefPar
import Derived.Test.YtbdcnooafacldaaDoorRows
namespace Go.Proofs.YtbdcnooafacldaaDoor
open Go.RowKit Go.Lib
set_option linter.unusedSimpArgs false

theorem rnd_up (t b : Nat) : rndN false t b 3 = cdiv t b := by
  unfold rndN cdiv upN
  simp only [show ¬ ((3 : Int) = 1) by decide, if_false, if_true, Bool.not_false, Bool.true_and, decide_eq_true_eq]
  split <;> omega
theorem rnd_dn (t b : Nat) : rndN false t b 1 = t / b := by
  unfold rndN upN
  simp
theorem whl_nat (t N : Nat) : whlN (t : Int) N = ((min N 4611686018427387904 : Nat) : Int) := by
  unfold whlN
  split
  · rw [if_neg (by omega)]; omega
  · rw [if_neg (by omega)]; omega
/-- Whole(Over(Times(Int(B), Int(S)), Int(D)), way). -/
theorem chain_c (B S D : Nat) (way : Int) (hB : B ≤ 10000000000000) (hS : S ≤ 10000000000000) (h0 : 0 < D) (hD : D ≤ 10000000000000) :
    ∃ X Y Z U V : List AV, CallOK Tryd.prog 30 [.val (.int .i64 B)] (.agg X) ∧ CallOK Tryd.prog 30 [.val (.int .i64 S)] (.agg Y) ∧ CallOK Tryd.prog 30 [.val (.int .i64 D)] (.agg Z) ∧
      CallOK Tryd.prog 29 [.agg X, .agg Y] (.agg U) ∧ CallOK Tryd.prog 28 [.agg U, .agg Z] (.agg V) ∧
      CallOK Tryd.prog 27 [.agg V, .val (.int .i64 way)] (.val (.int .i64 ((min (rndN false (B * S) D way) 4611686018427387904 : Nat) : Int))) := by
  have m1 : B * S ≤ 10000000000000 * 10000000000000 := Nat.mul_le_mul hB hS
  have i1 := int_c B (by omega) (by omega)
  have i2 := int_c S (by omega) (by omega)
  have i3 := int_c D (by omega) (by omega)
  have l1 : (lm 1).length ≤ 400 := by rw [lm_1]; decide
  have t1 := times_q (B : Int) (S : Int) 1 1 (by decide) (by decide) (Nat.le_trans (lm_small10 (by omega)) (by decide)) l1 (Nat.le_trans (lm_small10 (by omega)) (by decide)) l1
  rw [← Int.natCast_mul, Nat.mul_one] at t1
  have t2 := over_q ((B * S : Nat) : Int) D 1 1 (by decide) h0 (by decide) (Nat.le_trans (lm_small10 (by omega)) (by decide)) l1 (Nat.le_trans (lm_small10 (by omega)) (by decide)) l1
  rw [show ((B * S : Nat) : Int) * ((1 : Nat) : Int) = ((B * S : Nat) : Int) by omega, Nat.one_mul] at t2
  have t3 := whole_c ((B * S : Nat) : Int) D way h0 (Nat.le_trans (lm_small10 (by omega)) (by decide)) (Nat.le_trans (lm_small10 (by omega)) (by decide))
  rw [decide_eq_false (show ¬ ((B * S : Nat) : Int) < 0 by omega), Int.natAbs_natCast, whl_nat] at t3
  exact ⟨_, _, _, _, _, i1, i2, i3, t1, t2, t3⟩
theorem chain_up (B S D : Nat) (hB : B ≤ 500100000) (hS : S ≤ 1000000000) (h0 : 0 < D) (hD : D ≤ 10000000000000) :
    ∃ X Y Z U V : List AV, CallOK Tryd.prog 30 [.val (.int .i64 B)] (.agg X) ∧ CallOK Tryd.prog 30 [.val (.int .i64 S)] (.agg Y) ∧ CallOK Tryd.prog 30 [.val (.int .i64 D)] (.agg Z) ∧
      CallOK Tryd.prog 29 [.agg X, .agg Y] (.agg U) ∧ CallOK Tryd.prog 28 [.agg U, .agg Z] (.agg V) ∧
      CallOK Tryd.prog 27 [.agg V, .val (.int .i64 3)] (.val (.int .i64 ((cdiv (B * S) D : Nat) : Int))) := by
  have m1 : B * S ≤ 500100000 * 1000000000 := Nat.mul_le_mul hB hS
  have h := chain_c B S D 3 (by omega) (by omega) h0 hD
  have hc := cdiv_bd (B * S) D
  rw [rnd_up, Nat.min_eq_left (by omega)] at h
  exact h
theorem chain_dn (B S D : Nat) (hB : B ≤ 10000000000000) (hS : S ≤ 10000000000000) (h0 : 0 < D) (hD : D ≤ 10000000000000) :
    ∃ X Y Z U V : List AV, CallOK Tryd.prog 30 [.val (.int .i64 B)] (.agg X) ∧ CallOK Tryd.prog 30 [.val (.int .i64 S)] (.agg Y) ∧ CallOK Tryd.prog 30 [.val (.int .i64 D)] (.agg Z) ∧
      CallOK Tryd.prog 29 [.agg X, .agg Y] (.agg U) ∧ CallOK Tryd.prog 28 [.agg U, .agg Z] (.agg V) ∧
      CallOK Tryd.prog 27 [.agg V, .val (.int .i64 1)] (.val (.int .i64 ((min (B * S / D) 4611686018427387904 : Nat) : Int))) := by
  have h := chain_c B S D 1 hB hS h0 hD
  rw [rnd_dn] at h
  exact h
end Go.Proofs.YtbdcnooafacldaaDoor
/- The reference's rates: headendref3's times, sums, Mean, Peak, delay, Delay, Fullness, LeastRate, by the machine on data. -/
namespace Go.Proofs.YtbdcnooafacldaaDoor
open Go.RowKit Go.Lib
open Go.Proofs.YtbdcnooafacldaaDoor renaming done_eq → Z0, done_eq' → Z1, donet_eq → Z2, donet_eq' → Z3, fin_val → Z4, fin_tup → Z5, fin_agg → Z6, fin_ro → Z7, res_one → Z8, res_more → Z9, rv_t → Za, rv_c → Zb, rv_l → Zc, int_eq → Zg, bool_eq → Zh, toNat_pred → Zr, toNat_succ → Zs, cnd_t → Zu, cnd_f → Zv, grd_tt → Zw, grd_u → Zx, grd_tf → Zy, grd_ft → Zz, grd_ff → Y0, g_skip → Y1, g_ops → Y2, g_seq → Y3, g_block → Y4, g_exit → Y5, g_ret → Y6, x_c → Y7, x_o → Y8, x_l → Y9, x_b → Ya, g_b → Yb, g_nil → Yc, r_all → Yd, o_nil → Ye, g_cond → Yf, o_guard → Yg, o_call → Yh, o_callm → Yi, o_callt → Yj, o_callx → Yk, o_callv → Yl, o_mv → Ym, o_pick → Yn, o_bin → Yo, o_never → Yp, o_eqs → Yq, o_eqb → Yr, o_un → Ys, o_conv → Yt, o_load → Yu, o_loadr → Yv, o_idxr → Yw, o_loads → Yx, o_fld → Yy, o_idx → Yz, o_idxs → X0, o_len → X1, o_lens → X2, o_ext → X3, o_nilck → X4, o_slc → X5, o_slcs → X6, o_build → X7, o_minmax → X8, o_mkfn → X9, o_alloc → Xa, o_box → Xb, o_boxs → Xc, o_row → Xd, o_rowr → Xe, o_mk → Xf, o_asg → Xg, o_app → Xh, o_store → Xi, o_stores → Xj, o_eqnil → Xk, eqAV → Xl, view_t → Xm, view_c → Xn, view_nil → Xo, view_fn → Xp, look_own → Xq, look_box → Xr, look_junk → Xs, look_val → Xt, look_nilsl → Xu, look_ro → Xv, look_roAt → Xw, look_agg → Xx, look_tup → Xy, look_clo → Xz, look_alias → W0, look_ref → W1, look_into → W2, rowOf → W3, cellsOf → W4, argv → W5, vbin → W6, vun → W7, bnd → W8, elemOf → W9, putParts → Wa, setAt → Wb, zav → Wc, put_at → Wj, mk_at → Wk, mk_nil → Wl, initSt → Wm, wk_cons → Vh, wk_nil → Vi, wk1 → Vj, vint_eq → Vk, vbool_eq → Vl
open Go.Proofs.YtbdcnooafacldaaDoor.AV.tup renaming injEq → Zd
open Go.Proofs.YtbdcnooafacldaaDoor.AV.agg renaming injEq → Ze
open Go.Proofs.YtbdcnooafacldaaDoor.AV.ro renaming injEq → Zf
open _root_.Int renaming toNat_natCast → Zi, reduceToNat → Zj, toNat_zero → Zk, toNat_one → Zl, reduceLE → Zm, reduceLT → Zn, reduceBEq → Zo, reduceBNe → Zp, reduceNeg → Zq
open _root_.List renaming length_map → Zt, map_cons → Wn, map_nil → Wo, forall_mem_cons → Wp, not_mem_nil → Wq, length_cons → Wr, length_nil → Ws, getD_cons_zero → Wt, getD_cons_succ → Wu, getD_nil → Wv, drop_succ_cons → Ww, drop_zero → Wx, take_succ_cons → Wy, take_zero → Wz, set_cons_zero → V0, set_cons_succ → V1, all_cons → V2, all_nil → V3
open Go.Proofs.YtbdcnooafacldaaDoor.ASt renaming rid → Wd, free → We
open Go.Proofs.YtbdcnooafacldaaDoor.AV renaming kill → Wf, isHome → Wg, noLoan → Wh, cellOK → Wi
open _root_.Bool renaming and_true → V4, true_and → V5, not_true → V6, not_false → V7, false_eq_true → V8
open _root_.Nat renaming reduceEqDiff → V9, reduceAdd → Va, reduceSub → Vb, reduceMul → Vc, reduceLeDiff → Vd, reduceLT → Ve, one_ne_zero → Vf, zero_ne_one → Vg
open Go.Proofs.YtbdcnooafacldaaDoor.AV.val renaming injEq → Vm
set_option linter.unusedSimpArgs false
--@short

def tms (l : List Smp) : List Int := l.map fun s => s.time - tmN l 0
def sms (l : List Smp) : List Int := (List.range l.length).map fun k => szN l (k + 1)
theorem tms_len (l : List Smp) : (tms l).length = l.length := by simp [tms]
theorem sms_len (l : List Smp) : (sms l).length = l.length := by simp [sms]
theorem tms_at {l : List Smp} {k : Nat} (h : k < l.length) (h' : k < (tms l).length) : (tms l)[k] = l[k].time - tmN l 0 := by simp [tms]
theorem sms_at {l : List Smp} {k : Nat} (_h : k < l.length) (h' : k < (sms l).length) : (sms l)[k] = szN l (k + 1) := by simp [sms]
theorem tms_get {l : List Smp} {k : Nat} (h : k < l.length) : ((tms l).map oneI).getD k [] = [.val (.int .i64 (l[k].time - tmN l 0))] := by
  have h' : k < (tms l).length := by rw [tms_len]; exact h
  rw [getD_map (f := oneI) (d := []) h', tms_at h h']
  rfl
theorem sms_get {l : List Smp} {k : Nat} (h : k < l.length) : ((sms l).map oneI).getD k [] = [.val (.int .i64 (szN l (k + 1)))] := by
  have h' : k < (sms l).length := by rw [sms_len]; exact h
  rw [getD_map (f := oneI) (d := []) h', sms_at h h']
  rfl
theorem tms_snoc {l : List Smp} {k : Nat} (h : k < l.length) : ((tms l).take k).map oneI ++ [[.val (.int .i64 (l[k].time - tmN l 0))]] = ((tms l).take (k + 1)).map oneI := by
  have h' : k < (tms l).length := by rw [tms_len]; exact h
  rw [List.take_succ_eq_append_getElem h', tms_at h h', List.map_append]
  rfl
theorem sms_snoc {l : List Smp} {k : Nat} (h : k < l.length) : ((sms l).take k).map oneI ++ [[.val (.int .i64 (szN l (k + 1)))]] = ((sms l).take (k + 1)).map oneI := by
  have h' : k < (sms l).length := by rw [sms_len]; exact h
  rw [List.take_succ_eq_append_getElem h', sms_at h h', List.map_append]
  rfl
theorem hd_tm {l : List Smp} (h : 0 < l.length) : (l.headD ⟨0, 0, 0, 0, false⟩).time = tmN l 0 := by
  cases l with
  | nil => simp at h
  | cons s r => rfl
/-! headend/headendref3.times -/
def r31_0 : List POp := [⟨1, .boxs (.t 0), none⟩,
  ⟨2, .asg .nil, none⟩]
def r31_1 : List POp := [⟨3, .asg .nil, none⟩]
def r31_2 : List POp := [⟨4, .asg (.c (.int .i64 0)), none⟩]
def r31_3 : List POp := [⟨5, .mv (.t 4), none⟩,
  ⟨6, .fld 1 (.t 1), none⟩,
  ⟨7, .load (.t 6), none⟩,
  ⟨8, .len (.t 7), none⟩,
  ⟨9, .bin .lss (.t 5) (.t 8), none⟩]
def r31_5 : List POp := [⟨12, .mv (.t 3), none⟩,
  ⟨13, .fld 1 (.t 1), none⟩,
  ⟨14, .load (.t 13), none⟩,
  ⟨15, .mv (.t 4), none⟩,
  ⟨16, .idx 5 (.t 14) (.t 15), none⟩,
  ⟨17, .fld 0 (.t 16), none⟩,
  ⟨18, .load (.t 17), none⟩,
  ⟨19, .fld 1 (.t 1), none⟩,
  ⟨20, .load (.t 19), none⟩,
  ⟨21, .idx 5 (.t 20) (.c (.int .i64 0)), none⟩,
  ⟨22, .fld 0 (.t 21), none⟩,
  ⟨23, .load (.t 22), none⟩,
  ⟨24, .bin .sub (.t 18) (.t 23), none⟩,
  ⟨25, .row 3 1 [.t 24], none⟩,
  ⟨26, .app 3 1 8 (.t 12) (.t 25), none⟩,
  ⟨3, .asg (.t 26), none⟩]
def r31_4 : List POp := [⟨10, .mv (.t 4), none⟩,
  ⟨11, .bin .add (.t 10) (.c (.int .i64 1)), none⟩,
  ⟨4, .asg (.t 11), none⟩]
def r31_6 : List POp := [⟨27, .mv (.t 3), none⟩,
  ⟨2, .asg (.t 27), none⟩]
def l31_0 : PCode := .seq (.seq (.ops r31_3) (.cond (.t 9) (.skip) (.exit 0))) (.seq (.block 1 (.ops r31_5)) (.ops r31_4))
def p31 : PCode := .seq (.ops r31_0) (.seq (.ops r31_1) (.seq (.seq (.ops r31_2) (.block 0 (.loop l31_0))) (.seq (.ops r31_6) (.ret))))
theorem ok31 : okFunc Tryd.prog 31 [.t 2] 1 p31 = true := by kernel_rfl
theorem times_r (scale : Int) (l : List Smp) (hl : l.length ≤ 5000) (hb : ∀ s ∈ l, badSmp s = false) : CallOK Tryd.prog 31 [.agg (Par.av ⟨scale, l⟩)] (.ro ((tms l).map oneI)) := by
  refine call_of mixed ok31 rfl ?_
  repeat' first | ((with_reducible (first | refine condD ?_ ?_ | refine condE ?_ ?_ | refine condN ?_ ?_ | refine condI ?_ ?_ | refine condS ?_ ?_)) <;> intro h) | ((with_reducible (first | refine guardD (by with_unfolding_all rfl) ?_ ?_ | refine guardE (by with_unfolding_all rfl) ?_ ?_ | refine guardN (by with_unfolding_all rfl) ?_ ?_ | refine guardI (by with_unfolding_all rfl) ?_ ?_ | refine guardS (by with_unfolding_all rfl) ?_ ?_)) <;> intro h) | (with_reducible refine And.intro ?_ ?_; omega) | (simp only [Z0,Z1,Z2,Z3,Z4,Z5,Z6,Z7,Z8,Z9,Za,Zb,Zc,Zd,Ze,Zf,List.cons.injEq,Zg,Zh,Zi,Zj,Zk,Zl,Zm,Zn,Zo,Zp,beq_self_eq_true,bne_self_eq_false,decide_true,decide_false,Zq,Zr,Zs,Zt,Zu,Zv,Zw,Zx,Zy,Zz,Y0,Y1,Y2,Y3,Y4,Y5,Y6,Y7,Y8,Y9,Ya,Yb,Yc,Yd,Ye,Yf,Yg,Yh,Yi,Yj,Yk,Yl,lk,ef,Ym,Yn,Yo,Yp,Yq,Yr,Ys,Yt,Yu,Yv,Yw,Yx,Yy,Yz,X0,X1,X2,X3,X4,X5,X6,X7,X8,X9,Xa,Xb,Xc,Xd,Xe,Xf,Xg,Xh,Xi,Xj,Xk,hv,Xl,ev,Xm,Xn,Xo,Xp,Xq,Xr,Xs,Xt,Xu,Xv,Xw,Xx,Xy,Xz,W0,W1,W2,W3,W4,W5,W6,W7,W8,W9,Wa,Wb,Wc,Wd,We,Wf,Wg,Wh,Wi,Value.oneCell',Wj,Wk,Wl,Wm,true_and,and_true,and_self,implies_true,Wn,Wo,Wp,Wq,false_implies,Wr,Ws,Wt,Wu,Wv,Ww,Wx,Wy,Wz,V0,V1,V2,V3,V4,V5,V6,V7,reduceCtorEq,if_true,if_false,V8,↓reduceIte,V9,Va,Vb,Vc,Vd,Ve,ne_eq,not_false_eq_true,not_true_eq_false,Vf,Vg,r31_0,r31_1,r31_2,r31_3,r31_5,r31_4,r31_6,p31,Par.av]) | (exfalso; omega)
  refine loopS (fun k : Nat => mk [(1, .box (Par.av ⟨scale, l⟩)), (3, .own 3 1 (((tms l).take k).map oneI)), (4, .val (.int .i64 k))]) (fun k => k ≤ l.length) (fun k => l.length - k) 0 (weak_mk ?_) (Nat.zero_le _) ?_
  · simp only [Vh,Vi,Vj,Vk,Vl,Vm,Z0,Z1,Z2,Z3,Z4,Z5,Z6,Z7,Z8,Z9,Za,Zb,Zc,Zd,Ze,Zf,List.cons.injEq,Zg,Zh,Zi,Zj,Zk,Zl,Zm,Zn,Zo,Zp,beq_self_eq_true,bne_self_eq_false,decide_true,decide_false,Zq,Zr,Zs,Zt,Zu,Zv,Zw,Zx,Zy,Zz,Y0,Y1,Y2,Y3,Y4,Y5,Y6,Y7,Y8,Y9,Ya,Yb,Yc,Yd,Ye,Yf,Yg,Yh,Yi,Yj,Yk,Yl,lk,ef,Ym,Yn,Yo,Yp,Yq,Yr,Ys,Yt,Yu,Yv,Yw,Yx,Yy,Yz,X0,X1,X2,X3,X4,X5,X6,X7,X8,X9,Xa,Xb,Xc,Xd,Xe,Xf,Xg,Xh,Xi,Xj,Xk,hv,Xl,ev,Xm,Xn,Xo,Xp,Xq,Xr,Xs,Xt,Xu,Xv,Xw,Xx,Xy,Xz,W0,W1,W2,W3,W4,W5,W6,W7,W8,W9,Wa,Wb,Wc,Wd,We,Wf,Wg,Wh,Wi,Value.oneCell',Wj,Wk,Wl,Wm,true_and,and_true,and_self,implies_true,Wn,Wo,Wp,Wq,false_implies,Wr,Ws,Wt,Wu,Wv,Ww,Wx,Wy,Wz,V0,V1,V2,V3,V4,V5,V6,V7,reduceCtorEq,if_true,if_false,V8,↓reduceIte,V9,Va,Vb,Vc,Vd,Ve,ne_eq,not_false_eq_true,not_true_eq_false,Vf,Nat.zero_ne_one]
    simp [Par.av]
  rintro J hJ k hk
  simp only [Z0,Z1,Z2,Z3,Z4,Z5,Z6,Z7,Z8,Z9,Za,Zb,Zc,Zd,Ze,Zf,List.cons.injEq,Zg,Zh,Zi,Zj,Zk,Zl,Zm,Zn,Zo,Zp,beq_self_eq_true,bne_self_eq_false,decide_true,decide_false,Zq,Zr,Zs,Zt,Zu,Zv,Zw,Zx,Zy,Zz,Y0,Y1,Y2,Y3,Y4,Y5,Y6,Y7,Y8,Y9,Ya,Yb,Yc,Yd,Ye,Yf,Yg,Yh,Yi,Yj,Yk,Yl,lk,ef,Ym,Yn,Yo,Yp,Yq,Yr,Ys,Yt,Yu,Yv,Yw,Yx,Yy,Yz,X0,X1,X2,X3,X4,X5,X6,X7,X8,X9,Xa,Xb,Xc,Xd,Xe,Xf,Xg,Xh,Xi,Xj,Xk,hv,Xl,ev,Xm,Xn,Xo,Xp,Xq,Xr,Xs,Xt,Xu,Xv,Xw,Xx,Xy,Xz,W0,W1,W2,W3,W4,W5,W6,W7,W8,W9,Wa,Wb,Wc,Wd,We,Wf,Wg,Wh,Wi,Value.oneCell',Wj,Wk,Wl,Wm,true_and,and_true,and_self,implies_true,Wn,Wo,Wp,Wq,false_implies,Wr,Ws,Wt,Wu,Wv,Ww,Wx,Wy,Wz,V0,V1,V2,V3,V4,V5,V6,V7,reduceCtorEq,if_true,if_false,V8,↓reduceIte,V9,Va,Vb,Vc,Vd,Ve,ne_eq,not_false_eq_true,not_true_eq_false,Vf,Vg,r31_0,r31_1,r31_2,r31_3,r31_5,r31_4,r31_6,p31,l31_0,Par.av,List.length_map]
  refine condD (fun h => ?_) (fun h => ?_)
  · have hlt : k < l.length := by omega
    have hlt0 : 0 < l.length := by omega
    have hw := i_add1 k (by omega)
    have b2 := badSmp_bd (hb l[k] (List.getElem_mem hlt))
    have b3 := badSmp_bd (hb l[0] (List.getElem_mem hlt0))
    have g0 := getD_map (f := Smp.av) (d := []) hlt0
    have gK := getD_map (f := Smp.av) (d := []) hlt
    simp only [Smp.av] at g0 gK
    have v1 : IntKind.i64.wrap (l[k].time - l[0].time) = l[k].time - tmN l 0 := by rw [tmN_in hlt0]; exact wrap_in (by omega) (by omega)
    have hsn := tms_snoc hlt
    repeat' first | ((with_reducible (first | refine condD ?_ ?_ | refine condE ?_ ?_ | refine condN ?_ ?_ | refine condI ?_ ?_ | refine condS ?_ ?_)) <;> intro h) | ((with_reducible (first | refine guardD (by with_unfolding_all rfl) ?_ ?_ | refine guardE (by with_unfolding_all rfl) ?_ ?_ | refine guardN (by with_unfolding_all rfl) ?_ ?_ | refine guardI (by with_unfolding_all rfl) ?_ ?_ | refine guardS (by with_unfolding_all rfl) ?_ ?_)) <;> intro h) | (with_reducible refine And.intro ?_ ?_; omega) | (simp only [Z0,Z1,Z2,Z3,Z4,Z5,Z6,Z7,Z8,Z9,Za,Zb,Zc,Zd,Ze,Zf,List.cons.injEq,Zg,Zh,Zi,Zj,Zk,Zl,Zm,Zn,Zo,Zp,beq_self_eq_true,bne_self_eq_false,decide_true,decide_false,Zq,Zr,Zs,Zt,Zu,Zv,Zw,Zx,Zy,Zz,Y0,Y1,Y2,Y3,Y4,Y5,Y6,Y7,Y8,Y9,Ya,Yb,Yc,Yd,Ye,Yf,Yg,Yh,Yi,Yj,Yk,Yl,lk,ef,Ym,Yn,Yo,Yp,Yq,Yr,Ys,Yt,Yu,Yv,Yw,Yx,Yy,Yz,X0,X1,X2,X3,X4,X5,X6,X7,X8,X9,Xa,Xb,Xc,Xd,Xe,Xf,Xg,Xh,Xi,Xj,Xk,hv,Xl,ev,Xm,Xn,Xo,Xp,Xq,Xr,Xs,Xt,Xu,Xv,Xw,Xx,Xy,Xz,W0,W1,W2,W3,W4,W5,W6,W7,W8,W9,Wa,Wb,Wc,Wd,We,Wf,Wg,Wh,Wi,Value.oneCell',Wj,Wk,Wl,Wm,true_and,and_true,and_self,implies_true,Wn,Wo,Wp,Wq,false_implies,Wr,Ws,Wt,Wu,Wv,Ww,Wx,Wy,Wz,V0,V1,V2,V3,V4,V5,V6,V7,reduceCtorEq,if_true,if_false,V8,↓reduceIte,V9,Va,Vb,Vc,Vd,Ve,ne_eq,not_false_eq_true,not_true_eq_false,Vf,Vg,r31_0,r31_1,r31_2,r31_3,r31_5,r31_4,r31_6,p31,l31_0,Par.av,g0,gK,v1,hsn,hw,Zt,List.length_take,tms_len]) | (exfalso; omega)
    all_goals first | omega | exact again hJ (k + 1) (weak_mk (by simp only [Vh,Vi,Vj,Vk,Vl,Vm,Z0,Z1,Z2,Z3,Z4,Z5,Z6,Z7,Z8,Z9,Za,Zb,Zc,Zd,Ze,Zf,List.cons.injEq,Zg,Zh,Zi,Zj,Zk,Zl,Zm,Zn,Zo,Zp,beq_self_eq_true,bne_self_eq_false,decide_true,decide_false,Zq,Zr,Zs,Zt,Zu,Zv,Zw,Zx,Zy,Zz,Y0,Y1,Y2,Y3,Y4,Y5,Y6,Y7,Y8,Y9,Ya,Yb,Yc,Yd,Ye,Yf,Yg,Yh,Yi,Yj,Yk,Yl,lk,ef,Ym,Yn,Yo,Yp,Yq,Yr,Ys,Yt,Yu,Yv,Yw,Yx,Yy,Yz,X0,X1,X2,X3,X4,X5,X6,X7,X8,X9,Xa,Xb,Xc,Xd,Xe,Xf,Xg,Xh,Xi,Xj,Xk,hv,Xl,ev,Xm,Xn,Xo,Xp,Xq,Xr,Xs,Xt,Xu,Xv,Xw,Xx,Xy,Xz,W0,W1,W2,W3,W4,W5,W6,W7,W8,W9,Wa,Wb,Wc,Wd,We,Wf,Wg,Wh,Wi,Value.oneCell',Wj,Wk,Wl,Wm,true_and,and_true,and_self,implies_true,Wn,Wo,Wp,Wq,false_implies,Wr,Ws,Wt,Wu,Wv,Ww,Wx,Wy,Wz,V0,V1,V2,V3,V4,V5,V6,V7,reduceCtorEq,if_true,if_false,V8,↓reduceIte,V9,Va,Vb,Vc,Vd,Ve,ne_eq,not_false_eq_true,not_true_eq_false,Vf,Nat.zero_ne_one]; first | done | rfl)) (by omega) (by omega)
  have hke : k = l.length := by omega
  subst hke
  clear hJ
  have e : (tms l).take l.length = tms l := List.take_of_length_le (by rw [tms_len]; exact Nat.le_refl _)
  rw [e]
  repeat' first | ((with_reducible (first | refine condD ?_ ?_ | refine condE ?_ ?_ | refine condN ?_ ?_ | refine condI ?_ ?_ | refine condS ?_ ?_)) <;> intro h) | ((with_reducible (first | refine guardD (by with_unfolding_all rfl) ?_ ?_ | refine guardE (by with_unfolding_all rfl) ?_ ?_ | refine guardN (by with_unfolding_all rfl) ?_ ?_ | refine guardI (by with_unfolding_all rfl) ?_ ?_ | refine guardS (by with_unfolding_all rfl) ?_ ?_)) <;> intro h) | (with_reducible refine And.intro ?_ ?_; omega) | (simp only [Z0,Z1,Z2,Z3,Z4,Z5,Z6,Z7,Z8,Z9,Za,Zb,Zc,Zd,Ze,Zf,List.cons.injEq,Zg,Zh,Zi,Zj,Zk,Zl,Zm,Zn,Zo,Zp,beq_self_eq_true,bne_self_eq_false,decide_true,decide_false,Zq,Zr,Zs,Zt,Zu,Zv,Zw,Zx,Zy,Zz,Y0,Y1,Y2,Y3,Y4,Y5,Y6,Y7,Y8,Y9,Ya,Yb,Yc,Yd,Ye,Yf,Yg,Yh,Yi,Yj,Yk,Yl,lk,ef,Ym,Yn,Yo,Yp,Yq,Yr,Ys,Yt,Yu,Yv,Yw,Yx,Yy,Yz,X0,X1,X2,X3,X4,X5,X6,X7,X8,X9,Xa,Xb,Xc,Xd,Xe,Xf,Xg,Xh,Xi,Xj,Xk,hv,Xl,ev,Xm,Xn,Xo,Xp,Xq,Xr,Xs,Xt,Xu,Xv,Xw,Xx,Xy,Xz,W0,W1,W2,W3,W4,W5,W6,W7,W8,W9,Wa,Wb,Wc,Wd,We,Wf,Wg,Wh,Wi,Value.oneCell',Wj,Wk,Wl,Wm,true_and,and_true,and_self,implies_true,Wn,Wo,Wp,Wq,false_implies,Wr,Ws,Wt,Wu,Wv,Ww,Wx,Wy,Wz,V0,V1,V2,V3,V4,V5,V6,V7,reduceCtorEq,if_true,if_false,V8,↓reduceIte,V9,Va,Vb,Vc,Vd,Ve,ne_eq,not_false_eq_true,not_true_eq_false,Vf,Vg,r31_0,r31_1,r31_2,r31_3,r31_5,r31_4,r31_6,p31,l31_0]) | (exfalso; omega)
/-! headend/headendref3.sums -/
def r34_0 : List POp := [⟨1, .boxs (.t 0), none⟩,
  ⟨2, .asg .nil, none⟩]
def r34_1 : List POp := [⟨3, .asg .nil, none⟩]
def r34_2 : List POp := [⟨4, .asg (.c (.int .i64 0)), none⟩]
def r34_3 : List POp := [⟨5, .asg (.c (.int .i64 0)), none⟩]
def r34_4 : List POp := [⟨6, .mv (.t 5), none⟩,
  ⟨7, .fld 1 (.t 1), none⟩,
  ⟨8, .load (.t 7), none⟩,
  ⟨9, .len (.t 8), none⟩,
  ⟨10, .bin .lss (.t 6) (.t 9), none⟩]
def r34_6 : List POp := [⟨13, .mv (.t 4), none⟩,
  ⟨14, .fld 1 (.t 1), none⟩,
  ⟨15, .load (.t 14), none⟩,
  ⟨16, .mv (.t 5), none⟩,
  ⟨17, .idx 5 (.t 15) (.t 16), none⟩,
  ⟨18, .fld 3 (.t 17), none⟩,
  ⟨19, .load (.t 18), none⟩,
  ⟨20, .bin .add (.t 13) (.t 19), none⟩,
  ⟨4, .asg (.t 20), none⟩]
def r34_7 : List POp := [⟨21, .mv (.t 3), none⟩,
  ⟨22, .mv (.t 4), none⟩,
  ⟨23, .row 3 1 [.t 22], none⟩,
  ⟨24, .app 3 1 8 (.t 21) (.t 23), none⟩,
  ⟨3, .asg (.t 24), none⟩]
def r34_5 : List POp := [⟨11, .mv (.t 5), none⟩,
  ⟨12, .bin .add (.t 11) (.c (.int .i64 1)), none⟩,
  ⟨5, .asg (.t 12), none⟩]
def r34_8 : List POp := [⟨25, .mv (.t 3), none⟩,
  ⟨2, .asg (.t 25), none⟩]
def l34_0 : PCode := .seq (.seq (.ops r34_4) (.cond (.t 10) (.skip) (.exit 0))) (.seq (.block 1 (.seq (.ops r34_6) (.ops r34_7))) (.ops r34_5))
def p34 : PCode := .seq (.ops r34_0) (.seq (.ops r34_1) (.seq (.ops r34_2) (.seq (.seq (.ops r34_3) (.block 0 (.loop l34_0))) (.seq (.ops r34_8) (.ret)))))
theorem ok34 : okFunc Tryd.prog 34 [.t 2] 1 p34 = true := by kernel_rfl
theorem sums_r (scale : Int) (l : List Smp) (hl : l.length ≤ 5000) (hb : ∀ s ∈ l, badSmp s = false) : CallOK Tryd.prog 34 [.agg (Par.av ⟨scale, l⟩)] (.ro ((sms l).map oneI)) := by
  refine call_of mixed ok34 rfl ?_
  have hZ := sizes_bd hb
  have eZ : sizes l = szN l l.length := by unfold szN; rw [List.take_length]
  have hG : ∀ k, k ≤ l.length → 0 ≤ szN l k ∧ szN l k ≤ 100000 * k := fun k hk => by
    have := sizes_bd (l := l.take k) fun s hs => hb s (List.mem_of_mem_take hs)
    rw [List.length_take, Nat.min_eq_left hk] at this
    exact this
  repeat' first | ((with_reducible (first | refine condD ?_ ?_ | refine condE ?_ ?_ | refine condN ?_ ?_ | refine condI ?_ ?_ | refine condS ?_ ?_)) <;> intro h) | ((with_reducible (first | refine guardD (by with_unfolding_all rfl) ?_ ?_ | refine guardE (by with_unfolding_all rfl) ?_ ?_ | refine guardN (by with_unfolding_all rfl) ?_ ?_ | refine guardI (by with_unfolding_all rfl) ?_ ?_ | refine guardS (by with_unfolding_all rfl) ?_ ?_)) <;> intro h) | (with_reducible refine And.intro ?_ ?_; omega) | (simp only [Z0,Z1,Z2,Z3,Z4,Z5,Z6,Z7,Z8,Z9,Za,Zb,Zc,Zd,Ze,Zf,List.cons.injEq,Zg,Zh,Zi,Zj,Zk,Zl,Zm,Zn,Zo,Zp,beq_self_eq_true,bne_self_eq_false,decide_true,decide_false,Zq,Zr,Zs,Zt,Zu,Zv,Zw,Zx,Zy,Zz,Y0,Y1,Y2,Y3,Y4,Y5,Y6,Y7,Y8,Y9,Ya,Yb,Yc,Yd,Ye,Yf,Yg,Yh,Yi,Yj,Yk,Yl,lk,ef,Ym,Yn,Yo,Yp,Yq,Yr,Ys,Yt,Yu,Yv,Yw,Yx,Yy,Yz,X0,X1,X2,X3,X4,X5,X6,X7,X8,X9,Xa,Xb,Xc,Xd,Xe,Xf,Xg,Xh,Xi,Xj,Xk,hv,Xl,ev,Xm,Xn,Xo,Xp,Xq,Xr,Xs,Xt,Xu,Xv,Xw,Xx,Xy,Xz,W0,W1,W2,W3,W4,W5,W6,W7,W8,W9,Wa,Wb,Wc,Wd,We,Wf,Wg,Wh,Wi,Value.oneCell',Wj,Wk,Wl,Wm,true_and,and_true,and_self,implies_true,Wn,Wo,Wp,Wq,false_implies,Wr,Ws,Wt,Wu,Wv,Ww,Wx,Wy,Wz,V0,V1,V2,V3,V4,V5,V6,V7,reduceCtorEq,if_true,if_false,V8,↓reduceIte,V9,Va,Vb,Vc,Vd,Ve,ne_eq,not_false_eq_true,not_true_eq_false,Vf,Vg,r34_0,r34_1,r34_2,r34_3,r34_4,r34_6,r34_7,r34_5,r34_8,p34,Par.av]) | (exfalso; omega)
  refine loopS (fun k : Nat => mk [(1, .box (Par.av ⟨scale, l⟩)), (3, .own 3 1 (((sms l).take k).map oneI)), (4, .val (.int .i64 (szN l k))), (5, .val (.int .i64 k))]) (fun k => k ≤ l.length) (fun k => l.length - k) 0 (weak_mk ?_) (Nat.zero_le _) ?_
  · simp only [Vh,Vi,Vj,Vk,Vl,Vm,Z0,Z1,Z2,Z3,Z4,Z5,Z6,Z7,Z8,Z9,Za,Zb,Zc,Zd,Ze,Zf,List.cons.injEq,Zg,Zh,Zi,Zj,Zk,Zl,Zm,Zn,Zo,Zp,beq_self_eq_true,bne_self_eq_false,decide_true,decide_false,Zq,Zr,Zs,Zt,Zu,Zv,Zw,Zx,Zy,Zz,Y0,Y1,Y2,Y3,Y4,Y5,Y6,Y7,Y8,Y9,Ya,Yb,Yc,Yd,Ye,Yf,Yg,Yh,Yi,Yj,Yk,Yl,lk,ef,Ym,Yn,Yo,Yp,Yq,Yr,Ys,Yt,Yu,Yv,Yw,Yx,Yy,Yz,X0,X1,X2,X3,X4,X5,X6,X7,X8,X9,Xa,Xb,Xc,Xd,Xe,Xf,Xg,Xh,Xi,Xj,Xk,hv,Xl,ev,Xm,Xn,Xo,Xp,Xq,Xr,Xs,Xt,Xu,Xv,Xw,Xx,Xy,Xz,W0,W1,W2,W3,W4,W5,W6,W7,W8,W9,Wa,Wb,Wc,Wd,We,Wf,Wg,Wh,Wi,Value.oneCell',Wj,Wk,Wl,Wm,true_and,and_true,and_self,implies_true,Wn,Wo,Wp,Wq,false_implies,Wr,Ws,Wt,Wu,Wv,Ww,Wx,Wy,Wz,V0,V1,V2,V3,V4,V5,V6,V7,reduceCtorEq,if_true,if_false,V8,↓reduceIte,V9,Va,Vb,Vc,Vd,Ve,ne_eq,not_false_eq_true,not_true_eq_false,Vf,Nat.zero_ne_one]
    simp [Par.av, szN_0]
  rintro J hJ k hk
  simp only [Z0,Z1,Z2,Z3,Z4,Z5,Z6,Z7,Z8,Z9,Za,Zb,Zc,Zd,Ze,Zf,List.cons.injEq,Zg,Zh,Zi,Zj,Zk,Zl,Zm,Zn,Zo,Zp,beq_self_eq_true,bne_self_eq_false,decide_true,decide_false,Zq,Zr,Zs,Zt,Zu,Zv,Zw,Zx,Zy,Zz,Y0,Y1,Y2,Y3,Y4,Y5,Y6,Y7,Y8,Y9,Ya,Yb,Yc,Yd,Ye,Yf,Yg,Yh,Yi,Yj,Yk,Yl,lk,ef,Ym,Yn,Yo,Yp,Yq,Yr,Ys,Yt,Yu,Yv,Yw,Yx,Yy,Yz,X0,X1,X2,X3,X4,X5,X6,X7,X8,X9,Xa,Xb,Xc,Xd,Xe,Xf,Xg,Xh,Xi,Xj,Xk,hv,Xl,ev,Xm,Xn,Xo,Xp,Xq,Xr,Xs,Xt,Xu,Xv,Xw,Xx,Xy,Xz,W0,W1,W2,W3,W4,W5,W6,W7,W8,W9,Wa,Wb,Wc,Wd,We,Wf,Wg,Wh,Wi,Value.oneCell',Wj,Wk,Wl,Wm,true_and,and_true,and_self,implies_true,Wn,Wo,Wp,Wq,false_implies,Wr,Ws,Wt,Wu,Wv,Ww,Wx,Wy,Wz,V0,V1,V2,V3,V4,V5,V6,V7,reduceCtorEq,if_true,if_false,V8,↓reduceIte,V9,Va,Vb,Vc,Vd,Ve,ne_eq,not_false_eq_true,not_true_eq_false,Vf,Vg,r34_0,r34_1,r34_2,r34_3,r34_4,r34_6,r34_7,r34_5,r34_8,p34,l34_0,Par.av,List.length_map]
  refine condD (fun h => ?_) (fun h => ?_)
  · have hlt : k < l.length := by omega
    have hw := i_add1 k (by omega)
    have b2 := badSmp_bd (hb l[k] (List.getElem_mem hlt))
    have gK := getD_map (f := Smp.av) (d := []) hlt
    simp only [Smp.av] at gK
    have hs := szN_succ hlt
    have h1 := hG k hk
    have v1 : IntKind.i64.wrap (szN l k + l[k].size) = szN l (k + 1) := by rw [hs]; exact wrap_in (by omega) (by omega)
    have hsn := sms_snoc hlt
    repeat' first | ((with_reducible (first | refine condD ?_ ?_ | refine condE ?_ ?_ | refine condN ?_ ?_ | refine condI ?_ ?_ | refine condS ?_ ?_)) <;> intro h) | ((with_reducible (first | refine guardD (by with_unfolding_all rfl) ?_ ?_ | refine guardE (by with_unfolding_all rfl) ?_ ?_ | refine guardN (by with_unfolding_all rfl) ?_ ?_ | refine guardI (by with_unfolding_all rfl) ?_ ?_ | refine guardS (by with_unfolding_all rfl) ?_ ?_)) <;> intro h) | (with_reducible refine And.intro ?_ ?_; omega) | (simp only [Z0,Z1,Z2,Z3,Z4,Z5,Z6,Z7,Z8,Z9,Za,Zb,Zc,Zd,Ze,Zf,List.cons.injEq,Zg,Zh,Zi,Zj,Zk,Zl,Zm,Zn,Zo,Zp,beq_self_eq_true,bne_self_eq_false,decide_true,decide_false,Zq,Zr,Zs,Zt,Zu,Zv,Zw,Zx,Zy,Zz,Y0,Y1,Y2,Y3,Y4,Y5,Y6,Y7,Y8,Y9,Ya,Yb,Yc,Yd,Ye,Yf,Yg,Yh,Yi,Yj,Yk,Yl,lk,ef,Ym,Yn,Yo,Yp,Yq,Yr,Ys,Yt,Yu,Yv,Yw,Yx,Yy,Yz,X0,X1,X2,X3,X4,X5,X6,X7,X8,X9,Xa,Xb,Xc,Xd,Xe,Xf,Xg,Xh,Xi,Xj,Xk,hv,Xl,ev,Xm,Xn,Xo,Xp,Xq,Xr,Xs,Xt,Xu,Xv,Xw,Xx,Xy,Xz,W0,W1,W2,W3,W4,W5,W6,W7,W8,W9,Wa,Wb,Wc,Wd,We,Wf,Wg,Wh,Wi,Value.oneCell',Wj,Wk,Wl,Wm,true_and,and_true,and_self,implies_true,Wn,Wo,Wp,Wq,false_implies,Wr,Ws,Wt,Wu,Wv,Ww,Wx,Wy,Wz,V0,V1,V2,V3,V4,V5,V6,V7,reduceCtorEq,if_true,if_false,V8,↓reduceIte,V9,Va,Vb,Vc,Vd,Ve,ne_eq,not_false_eq_true,not_true_eq_false,Vf,Vg,r34_0,r34_1,r34_2,r34_3,r34_4,r34_6,r34_7,r34_5,r34_8,p34,l34_0,Par.av,gK,v1,hsn,hw,Zt,List.length_take,sms_len]) | (exfalso; omega)
    all_goals first | omega | exact again hJ (k + 1) (weak_mk (by simp only [Vh,Vi,Vj,Vk,Vl,Vm,Z0,Z1,Z2,Z3,Z4,Z5,Z6,Z7,Z8,Z9,Za,Zb,Zc,Zd,Ze,Zf,List.cons.injEq,Zg,Zh,Zi,Zj,Zk,Zl,Zm,Zn,Zo,Zp,beq_self_eq_true,bne_self_eq_false,decide_true,decide_false,Zq,Zr,Zs,Zt,Zu,Zv,Zw,Zx,Zy,Zz,Y0,Y1,Y2,Y3,Y4,Y5,Y6,Y7,Y8,Y9,Ya,Yb,Yc,Yd,Ye,Yf,Yg,Yh,Yi,Yj,Yk,Yl,lk,ef,Ym,Yn,Yo,Yp,Yq,Yr,Ys,Yt,Yu,Yv,Yw,Yx,Yy,Yz,X0,X1,X2,X3,X4,X5,X6,X7,X8,X9,Xa,Xb,Xc,Xd,Xe,Xf,Xg,Xh,Xi,Xj,Xk,hv,Xl,ev,Xm,Xn,Xo,Xp,Xq,Xr,Xs,Xt,Xu,Xv,Xw,Xx,Xy,Xz,W0,W1,W2,W3,W4,W5,W6,W7,W8,W9,Wa,Wb,Wc,Wd,We,Wf,Wg,Wh,Wi,Value.oneCell',Wj,Wk,Wl,Wm,true_and,and_true,and_self,implies_true,Wn,Wo,Wp,Wq,false_implies,Wr,Ws,Wt,Wu,Wv,Ww,Wx,Wy,Wz,V0,V1,V2,V3,V4,V5,V6,V7,reduceCtorEq,if_true,if_false,V8,↓reduceIte,V9,Va,Vb,Vc,Vd,Ve,ne_eq,not_false_eq_true,not_true_eq_false,Vf,Nat.zero_ne_one]; first | done | rfl)) (by omega) (by omega)
  have hke : k = l.length := by omega
  subst hke
  clear hJ
  have e : (sms l).take l.length = sms l := List.take_of_length_le (by rw [sms_len]; exact Nat.le_refl _)
  rw [e]
  repeat' first | ((with_reducible (first | refine condD ?_ ?_ | refine condE ?_ ?_ | refine condN ?_ ?_ | refine condI ?_ ?_ | refine condS ?_ ?_)) <;> intro h) | ((with_reducible (first | refine guardD (by with_unfolding_all rfl) ?_ ?_ | refine guardE (by with_unfolding_all rfl) ?_ ?_ | refine guardN (by with_unfolding_all rfl) ?_ ?_ | refine guardI (by with_unfolding_all rfl) ?_ ?_ | refine guardS (by with_unfolding_all rfl) ?_ ?_)) <;> intro h) | (with_reducible refine And.intro ?_ ?_; omega) | (simp only [Z0,Z1,Z2,Z3,Z4,Z5,Z6,Z7,Z8,Z9,Za,Zb,Zc,Zd,Ze,Zf,List.cons.injEq,Zg,Zh,Zi,Zj,Zk,Zl,Zm,Zn,Zo,Zp,beq_self_eq_true,bne_self_eq_false,decide_true,decide_false,Zq,Zr,Zs,Zt,Zu,Zv,Zw,Zx,Zy,Zz,Y0,Y1,Y2,Y3,Y4,Y5,Y6,Y7,Y8,Y9,Ya,Yb,Yc,Yd,Ye,Yf,Yg,Yh,Yi,Yj,Yk,Yl,lk,ef,Ym,Yn,Yo,Yp,Yq,Yr,Ys,Yt,Yu,Yv,Yw,Yx,Yy,Yz,X0,X1,X2,X3,X4,X5,X6,X7,X8,X9,Xa,Xb,Xc,Xd,Xe,Xf,Xg,Xh,Xi,Xj,Xk,hv,Xl,ev,Xm,Xn,Xo,Xp,Xq,Xr,Xs,Xt,Xu,Xv,Xw,Xx,Xy,Xz,W0,W1,W2,W3,W4,W5,W6,W7,W8,W9,Wa,Wb,Wc,Wd,We,Wf,Wg,Wh,Wi,Value.oneCell',Wj,Wk,Wl,Wm,true_and,and_true,and_self,implies_true,Wn,Wo,Wp,Wq,false_implies,Wr,Ws,Wt,Wu,Wv,Ww,Wx,Wy,Wz,V0,V1,V2,V3,V4,V5,V6,V7,reduceCtorEq,if_true,if_false,V8,↓reduceIte,V9,Va,Vb,Vc,Vd,Ve,ne_eq,not_false_eq_true,not_true_eq_false,Vf,Vg,r34_0,r34_1,r34_2,r34_3,r34_4,r34_6,r34_7,r34_5,r34_8,p34,l34_0]) | (exfalso; omega)
/-! headend/headendref3.Mean -/
def r10_0 : List POp := [⟨1, .boxs (.t 0), none⟩,
  ⟨2, .asg (.c (.int .i64 0)), none⟩,
  ⟨3, .asg (.c (.int .i64 0)), none⟩]
def r10_1 : List POp := [⟨8, .loads 2 (.t 1), none⟩,
  ⟨9, .call 22 [.t 8], none⟩,
  ⟨4, .asg (.t 9), none⟩]
def r10_2 : List POp := [⟨10, .mv (.t 4), none⟩,
  ⟨11, .bin .neq (.t 10) (.c (.int .i64 0)), none⟩]
def r10_3 : List POp := [⟨12, .mv (.t 4), none⟩,
  ⟨2, .mv (.c (.int .i64 0)), none⟩,
  ⟨3, .mv (.t 12), none⟩]
def r10_4 : List POp := [⟨5, .asg (.c (.int .i64 0)), none⟩,
  ⟨6, .asg (.c (.int .i64 0)), none⟩]
def r10_5 : List POp := [⟨7, .asg (.c (.int .i64 0)), none⟩]
def r10_6 : List POp := [⟨13, .mv (.t 7), none⟩,
  ⟨14, .fld 1 (.t 1), none⟩,
  ⟨15, .load (.t 14), none⟩,
  ⟨16, .len (.t 15), none⟩,
  ⟨17, .bin .lss (.t 13) (.t 16), none⟩]
def r10_8 : List POp := [⟨20, .mv (.t 5), none⟩,
  ⟨21, .fld 1 (.t 1), none⟩,
  ⟨22, .load (.t 21), none⟩,
  ⟨23, .mv (.t 7), none⟩,
  ⟨24, .idx 5 (.t 22) (.t 23), none⟩,
  ⟨25, .fld 1 (.t 24), none⟩,
  ⟨26, .load (.t 25), none⟩,
  ⟨27, .bin .add (.t 20) (.t 26), none⟩,
  ⟨5, .asg (.t 27), none⟩]
def r10_9 : List POp := [⟨28, .mv (.t 6), none⟩,
  ⟨29, .fld 1 (.t 1), none⟩,
  ⟨30, .load (.t 29), none⟩,
  ⟨31, .mv (.t 7), none⟩,
  ⟨32, .idx 5 (.t 30) (.t 31), none⟩,
  ⟨33, .fld 3 (.t 32), none⟩,
  ⟨34, .load (.t 33), none⟩,
  ⟨35, .bin .add (.t 28) (.t 34), none⟩,
  ⟨6, .asg (.t 35), none⟩]
def r10_7 : List POp := [⟨18, .mv (.t 7), none⟩,
  ⟨19, .bin .add (.t 18) (.c (.int .i64 1)), none⟩,
  ⟨7, .asg (.t 19), none⟩]
def r10_10 : List POp := [⟨36, .mv (.t 5), none⟩,
  ⟨37, .bin .eql (.t 36) (.c (.int .i64 0)), none⟩]
def r10_11 : List POp := [⟨2, .asg (.c (.int .i64 0)), none⟩,
  ⟨3, .asg (.c (.int .i64 13)), none⟩]
def r10_12 : List POp := [⟨38, .mv (.t 6), none⟩,
  ⟨39, .call 30 [.t 38], none⟩,
  ⟨40, .fld 0 (.t 1), none⟩,
  ⟨41, .load (.t 40), none⟩,
  ⟨42, .call 30 [.t 41], none⟩,
  ⟨43, .call 29 [.t 39, .t 42], none⟩,
  ⟨44, .mv (.t 5), none⟩,
  ⟨45, .call 30 [.t 44], none⟩,
  ⟨46, .call 28 [.t 43, .t 45], none⟩,
  ⟨47, .call 27 [.t 46, .c (.int .i64 3)], none⟩,
  ⟨2, .asg (.t 47), none⟩,
  ⟨3, .asg (.c (.int .i64 0)), none⟩]
def l10_0 : PCode := .seq (.seq (.ops r10_6) (.cond (.t 17) (.skip) (.exit 0))) (.seq (.block 1 (.seq (.ops r10_8) (.ops r10_9))) (.ops r10_7))
def p10 : PCode := .seq (.ops r10_0) (.seq (.seq (.ops r10_1) (.seq (.ops r10_2) (.cond (.t 11) (.seq (.ops r10_3) (.ret)) (.skip)))) (.seq (.ops r10_4) (.seq (.seq (.ops r10_5) (.block 0 (.loop l10_0))) (.seq (.seq (.ops r10_10) (.cond (.t 37) (.seq (.ops r10_11) (.ret)) (.skip))) (.seq (.ops r10_12) (.ret))))))
theorem ok10 : okFunc Tryd.prog 10 [.t 2, .t 3] 1 p10 = true := by kernel_rfl
theorem rmean_c (p : Par) : CallOK Tryd.prog 10 [.agg p.av] (.tup [.val (.int .i64 (meanF p).1), .val (.int .i64 (meanF p).2)]) := by
  refine call_of mixed ok10 rfl ?_
  have hp := rpar_c p
  by_cases h0 : parF p = 0
  case neg =>
    simp only [Par.av] at hp
    repeat' first | ((with_reducible (first | refine condD ?_ ?_ | refine condE ?_ ?_ | refine condN ?_ ?_ | refine condI ?_ ?_ | refine condS ?_ ?_)) <;> intro h) | ((with_reducible (first | refine guardD (by with_unfolding_all rfl) ?_ ?_ | refine guardE (by with_unfolding_all rfl) ?_ ?_ | refine guardN (by with_unfolding_all rfl) ?_ ?_ | refine guardI (by with_unfolding_all rfl) ?_ ?_ | refine guardS (by with_unfolding_all rfl) ?_ ?_)) <;> intro h) | ((refine callG hp ?_)) | (with_reducible refine And.intro ?_ ?_; omega) | (simp only [Z0,Z1,Z2,Z3,Z4,Z5,Z6,Z7,Z8,Z9,Za,Zb,Zc,Zd,Ze,Zf,List.cons.injEq,Zg,Zh,Zi,Zj,Zk,Zl,Zm,Zn,Zo,Zp,beq_self_eq_true,bne_self_eq_false,decide_true,decide_false,Zq,Zr,Zs,Zt,Zu,Zv,Zw,Zx,Zy,Zz,Y0,Y1,Y2,Y3,Y4,Y5,Y6,Y7,Y8,Y9,Ya,Yb,Yc,Yd,Ye,Yf,Yg,Yh,Yi,Yj,Yk,Yl,lk,ef,Ym,Yn,Yo,Yp,Yq,Yr,Ys,Yt,Yu,Yv,Yw,Yx,Yy,Yz,X0,X1,X2,X3,X4,X5,X6,X7,X8,X9,Xa,Xb,Xc,Xd,Xe,Xf,Xg,Xh,Xi,Xj,Xk,hv,Xl,ev,Xm,Xn,Xo,Xp,Xq,Xr,Xs,Xt,Xu,Xv,Xw,Xx,Xy,Xz,W0,W1,W2,W3,W4,W5,W6,W7,W8,W9,Wa,Wb,Wc,Wd,We,Wf,Wg,Wh,Wi,Value.oneCell',Wj,Wk,Wl,Wm,true_and,and_true,and_self,implies_true,Wn,Wo,Wp,Wq,false_implies,Wr,Ws,Wt,Wu,Wv,Ww,Wx,Wy,Wz,V0,V1,V2,V3,V4,V5,V6,V7,reduceCtorEq,if_true,if_false,V8,↓reduceIte,V9,Va,Vb,Vc,Vd,Ve,ne_eq,not_false_eq_true,not_true_eq_false,Vf,Vg,r10_0,r10_1,r10_2,r10_3,r10_4,r10_5,r10_6,r10_8,r10_9,r10_7,r10_10,r10_11,r10_12,p10,Par.av,bne0_t h0,beq0_f h0]) | (exfalso; omega)
    all_goals simp [meanF, h0]
  rw [h0] at hp
  simp only [Par.av] at hp
  obtain ⟨hl, hb, s1, s2, ht⟩ := par_facts h0
  have hF : meanF p = if stepsL p.smps = 0 then (0, 13) else (((cdiv ((sizes p.smps).toNat * p.scale.toNat) (stepsL p.smps).toNat : Nat) : Int), 0) := by simp [meanF, h0]
  obtain ⟨scale, l⟩ := p
  simp only at hl hb s1 s2 ht hF hp
  have hT := stepsL_bd hb
  have hZ := sizes_bd hb
  rw [hF]
  clear hF
  repeat' first | ((with_reducible (first | refine condD ?_ ?_ | refine condE ?_ ?_ | refine condN ?_ ?_ | refine condI ?_ ?_ | refine condS ?_ ?_)) <;> intro h) | ((with_reducible (first | refine guardD (by with_unfolding_all rfl) ?_ ?_ | refine guardE (by with_unfolding_all rfl) ?_ ?_ | refine guardN (by with_unfolding_all rfl) ?_ ?_ | refine guardI (by with_unfolding_all rfl) ?_ ?_ | refine guardS (by with_unfolding_all rfl) ?_ ?_)) <;> intro h) | ((refine callG hp ?_)) | (with_reducible refine And.intro ?_ ?_; omega) | (simp only [Z0,Z1,Z2,Z3,Z4,Z5,Z6,Z7,Z8,Z9,Za,Zb,Zc,Zd,Ze,Zf,List.cons.injEq,Zg,Zh,Zi,Zj,Zk,Zl,Zm,Zn,Zo,Zp,beq_self_eq_true,bne_self_eq_false,decide_true,decide_false,Zq,Zr,Zs,Zt,Zu,Zv,Zw,Zx,Zy,Zz,Y0,Y1,Y2,Y3,Y4,Y5,Y6,Y7,Y8,Y9,Ya,Yb,Yc,Yd,Ye,Yf,Yg,Yh,Yi,Yj,Yk,Yl,lk,ef,Ym,Yn,Yo,Yp,Yq,Yr,Ys,Yt,Yu,Yv,Yw,Yx,Yy,Yz,X0,X1,X2,X3,X4,X5,X6,X7,X8,X9,Xa,Xb,Xc,Xd,Xe,Xf,Xg,Xh,Xi,Xj,Xk,hv,Xl,ev,Xm,Xn,Xo,Xp,Xq,Xr,Xs,Xt,Xu,Xv,Xw,Xx,Xy,Xz,W0,W1,W2,W3,W4,W5,W6,W7,W8,W9,Wa,Wb,Wc,Wd,We,Wf,Wg,Wh,Wi,Value.oneCell',Wj,Wk,Wl,Wm,true_and,and_true,and_self,implies_true,Wn,Wo,Wp,Wq,false_implies,Wr,Ws,Wt,Wu,Wv,Ww,Wx,Wy,Wz,V0,V1,V2,V3,V4,V5,V6,V7,reduceCtorEq,if_true,if_false,V8,↓reduceIte,V9,Va,Vb,Vc,Vd,Ve,ne_eq,not_false_eq_true,not_true_eq_false,Vf,Vg,r10_0,r10_1,r10_2,r10_3,r10_4,r10_5,r10_6,r10_8,r10_9,r10_7,r10_10,r10_11,r10_12,p10,Par.av]) | (exfalso; omega)
  refine loopS (fun k : Nat => mk [(1, .box (Par.av ⟨scale, l⟩)), (5, .val (.int .i64 (stepsL (l.take k)))), (6, .val (.int .i64 (sizes (l.take k)))), (7, .val (.int .i64 k))]) (fun k => k ≤ l.length) (fun k => l.length - k) 0 (weak_mk ?_) (Nat.zero_le _) ?_
  · simp only [Vh,Vi,Vj,Vk,Vl,Vm,Z0,Z1,Z2,Z3,Z4,Z5,Z6,Z7,Z8,Z9,Za,Zb,Zc,Zd,Ze,Zf,List.cons.injEq,Zg,Zh,Zi,Zj,Zk,Zl,Zm,Zn,Zo,Zp,beq_self_eq_true,bne_self_eq_false,decide_true,decide_false,Zq,Zr,Zs,Zt,Zu,Zv,Zw,Zx,Zy,Zz,Y0,Y1,Y2,Y3,Y4,Y5,Y6,Y7,Y8,Y9,Ya,Yb,Yc,Yd,Ye,Yf,Yg,Yh,Yi,Yj,Yk,Yl,lk,ef,Ym,Yn,Yo,Yp,Yq,Yr,Ys,Yt,Yu,Yv,Yw,Yx,Yy,Yz,X0,X1,X2,X3,X4,X5,X6,X7,X8,X9,Xa,Xb,Xc,Xd,Xe,Xf,Xg,Xh,Xi,Xj,Xk,hv,Xl,ev,Xm,Xn,Xo,Xp,Xq,Xr,Xs,Xt,Xu,Xv,Xw,Xx,Xy,Xz,W0,W1,W2,W3,W4,W5,W6,W7,W8,W9,Wa,Wb,Wc,Wd,We,Wf,Wg,Wh,Wi,Value.oneCell',Wj,Wk,Wl,Wm,true_and,and_true,and_self,implies_true,Wn,Wo,Wp,Wq,false_implies,Wr,Ws,Wt,Wu,Wv,Ww,Wx,Wy,Wz,V0,V1,V2,V3,V4,V5,V6,V7,reduceCtorEq,if_true,if_false,V8,↓reduceIte,V9,Va,Vb,Vc,Vd,Ve,ne_eq,not_false_eq_true,not_true_eq_false,Vf,Nat.zero_ne_one]
    simp [stepsL, sizes, Par.av]
  rintro J hJ k hk
  simp only [Z0,Z1,Z2,Z3,Z4,Z5,Z6,Z7,Z8,Z9,Za,Zb,Zc,Zd,Ze,Zf,List.cons.injEq,Zg,Zh,Zi,Zj,Zk,Zl,Zm,Zn,Zo,Zp,beq_self_eq_true,bne_self_eq_false,decide_true,decide_false,Zq,Zr,Zs,Zt,Zu,Zv,Zw,Zx,Zy,Zz,Y0,Y1,Y2,Y3,Y4,Y5,Y6,Y7,Y8,Y9,Ya,Yb,Yc,Yd,Ye,Yf,Yg,Yh,Yi,Yj,Yk,Yl,lk,ef,Ym,Yn,Yo,Yp,Yq,Yr,Ys,Yt,Yu,Yv,Yw,Yx,Yy,Yz,X0,X1,X2,X3,X4,X5,X6,X7,X8,X9,Xa,Xb,Xc,Xd,Xe,Xf,Xg,Xh,Xi,Xj,Xk,hv,Xl,ev,Xm,Xn,Xo,Xp,Xq,Xr,Xs,Xt,Xu,Xv,Xw,Xx,Xy,Xz,W0,W1,W2,W3,W4,W5,W6,W7,W8,W9,Wa,Wb,Wc,Wd,We,Wf,Wg,Wh,Wi,Value.oneCell',Wj,Wk,Wl,Wm,true_and,and_true,and_self,implies_true,Wn,Wo,Wp,Wq,false_implies,Wr,Ws,Wt,Wu,Wv,Ww,Wx,Wy,Wz,V0,V1,V2,V3,V4,V5,V6,V7,reduceCtorEq,if_true,if_false,V8,↓reduceIte,V9,Va,Vb,Vc,Vd,Ve,ne_eq,not_false_eq_true,not_true_eq_false,Vf,Vg,r10_0,r10_1,r10_2,r10_3,r10_4,r10_5,r10_6,r10_8,r10_9,r10_7,r10_10,r10_11,r10_12,p10,l10_0,Par.av,List.length_map]
  refine condD (fun h => ?_) (fun h => ?_)
  · have hlt : k < l.length := by omega
    have hw := i_add1 k (by omega)
    have b1 := stepsL_bd (l := l.take k) fun s hs => hb s (List.mem_of_mem_take hs)
    have c1 := sizes_bd (l := l.take k) fun s hs => hb s (List.mem_of_mem_take hs)
    have b2 := badSmp_bd (hb l[k] (List.getElem_mem hlt))
    have hlen : (l.take k).length ≤ 5000 := by rw [List.length_take]; omega
    have hs := stepsL_take hlt
    have hs2 := sizes_take hlt
    have w1 : IntKind.i64.wrap (stepsL (l.take k) + l[k].step) = stepsL (l.take (k + 1)) := by rw [hs]; exact wrap_in (by omega) (by omega)
    have w2 : IntKind.i64.wrap (sizes (l.take k) + l[k].size) = sizes (l.take (k + 1)) := by rw [hs2]; exact wrap_in (by omega) (by omega)
    repeat' first | ((with_reducible (first | refine condD ?_ ?_ | refine condE ?_ ?_ | refine condN ?_ ?_ | refine condI ?_ ?_ | refine condS ?_ ?_)) <;> intro h) | ((with_reducible (first | refine guardD (by with_unfolding_all rfl) ?_ ?_ | refine guardE (by with_unfolding_all rfl) ?_ ?_ | refine guardN (by with_unfolding_all rfl) ?_ ?_ | refine guardI (by with_unfolding_all rfl) ?_ ?_ | refine guardS (by with_unfolding_all rfl) ?_ ?_)) <;> intro h) | (with_reducible refine And.intro ?_ ?_; omega) | (simp only [Z0,Z1,Z2,Z3,Z4,Z5,Z6,Z7,Z8,Z9,Za,Zb,Zc,Zd,Ze,Zf,List.cons.injEq,Zg,Zh,Zi,Zj,Zk,Zl,Zm,Zn,Zo,Zp,beq_self_eq_true,bne_self_eq_false,decide_true,decide_false,Zq,Zr,Zs,Zt,Zu,Zv,Zw,Zx,Zy,Zz,Y0,Y1,Y2,Y3,Y4,Y5,Y6,Y7,Y8,Y9,Ya,Yb,Yc,Yd,Ye,Yf,Yg,Yh,Yi,Yj,Yk,Yl,lk,ef,Ym,Yn,Yo,Yp,Yq,Yr,Ys,Yt,Yu,Yv,Yw,Yx,Yy,Yz,X0,X1,X2,X3,X4,X5,X6,X7,X8,X9,Xa,Xb,Xc,Xd,Xe,Xf,Xg,Xh,Xi,Xj,Xk,hv,Xl,ev,Xm,Xn,Xo,Xp,Xq,Xr,Xs,Xt,Xu,Xv,Xw,Xx,Xy,Xz,W0,W1,W2,W3,W4,W5,W6,W7,W8,W9,Wa,Wb,Wc,Wd,We,Wf,Wg,Wh,Wi,Value.oneCell',Wj,Wk,Wl,Wm,true_and,and_true,and_self,implies_true,Wn,Wo,Wp,Wq,false_implies,Wr,Ws,Wt,Wu,Wv,Ww,Wx,Wy,Wz,V0,V1,V2,V3,V4,V5,V6,V7,reduceCtorEq,if_true,if_false,V8,↓reduceIte,V9,Va,Vb,Vc,Vd,Ve,ne_eq,not_false_eq_true,not_true_eq_false,Vf,Vg,r10_0,r10_1,r10_2,r10_3,r10_4,r10_5,r10_6,r10_8,r10_9,r10_7,r10_10,r10_11,r10_12,p10,l10_0,Par.av,Smp.av,getD_map hlt,w1,w2,hw,List.length_map]) | (exfalso; omega)
    all_goals first | omega | exact again hJ (k + 1) (weak_mk (by simp only [Vh,Vi,Vj,Vk,Vl,Vm,Z0,Z1,Z2,Z3,Z4,Z5,Z6,Z7,Z8,Z9,Za,Zb,Zc,Zd,Ze,Zf,List.cons.injEq,Zg,Zh,Zi,Zj,Zk,Zl,Zm,Zn,Zo,Zp,beq_self_eq_true,bne_self_eq_false,decide_true,decide_false,Zq,Zr,Zs,Zt,Zu,Zv,Zw,Zx,Zy,Zz,Y0,Y1,Y2,Y3,Y4,Y5,Y6,Y7,Y8,Y9,Ya,Yb,Yc,Yd,Ye,Yf,Yg,Yh,Yi,Yj,Yk,Yl,lk,ef,Ym,Yn,Yo,Yp,Yq,Yr,Ys,Yt,Yu,Yv,Yw,Yx,Yy,Yz,X0,X1,X2,X3,X4,X5,X6,X7,X8,X9,Xa,Xb,Xc,Xd,Xe,Xf,Xg,Xh,Xi,Xj,Xk,hv,Xl,ev,Xm,Xn,Xo,Xp,Xq,Xr,Xs,Xt,Xu,Xv,Xw,Xx,Xy,Xz,W0,W1,W2,W3,W4,W5,W6,W7,W8,W9,Wa,Wb,Wc,Wd,We,Wf,Wg,Wh,Wi,Value.oneCell',Wj,Wk,Wl,Wm,true_and,and_true,and_self,implies_true,Wn,Wo,Wp,Wq,false_implies,Wr,Ws,Wt,Wu,Wv,Ww,Wx,Wy,Wz,V0,V1,V2,V3,V4,V5,V6,V7,reduceCtorEq,if_true,if_false,V8,↓reduceIte,V9,Va,Vb,Vc,Vd,Ve,ne_eq,not_false_eq_true,not_true_eq_false,Vf,Nat.zero_ne_one]; first | done | rfl)) (by omega) (by omega)
  have hke : k = l.length := by omega
  subst hke
  clear hJ
  rw [List.take_length]
  by_cases hz : stepsL l = 0
  · have hz' : (stepsL l == 0) = true := by rw [beq_iff_eq]; exact hz
    rw [if_pos hz]
    repeat' first | ((with_reducible (first | refine condD ?_ ?_ | refine condE ?_ ?_ | refine condN ?_ ?_ | refine condI ?_ ?_ | refine condS ?_ ?_)) <;> intro h) | ((with_reducible (first | refine guardD (by with_unfolding_all rfl) ?_ ?_ | refine guardE (by with_unfolding_all rfl) ?_ ?_ | refine guardN (by with_unfolding_all rfl) ?_ ?_ | refine guardI (by with_unfolding_all rfl) ?_ ?_ | refine guardS (by with_unfolding_all rfl) ?_ ?_)) <;> intro h) | (with_reducible refine And.intro ?_ ?_; omega) | (simp only [Z0,Z1,Z2,Z3,Z4,Z5,Z6,Z7,Z8,Z9,Za,Zb,Zc,Zd,Ze,Zf,List.cons.injEq,Zg,Zh,Zi,Zj,Zk,Zl,Zm,Zn,Zo,Zp,beq_self_eq_true,bne_self_eq_false,decide_true,decide_false,Zq,Zr,Zs,Zt,Zu,Zv,Zw,Zx,Zy,Zz,Y0,Y1,Y2,Y3,Y4,Y5,Y6,Y7,Y8,Y9,Ya,Yb,Yc,Yd,Ye,Yf,Yg,Yh,Yi,Yj,Yk,Yl,lk,ef,Ym,Yn,Yo,Yp,Yq,Yr,Ys,Yt,Yu,Yv,Yw,Yx,Yy,Yz,X0,X1,X2,X3,X4,X5,X6,X7,X8,X9,Xa,Xb,Xc,Xd,Xe,Xf,Xg,Xh,Xi,Xj,Xk,hv,Xl,ev,Xm,Xn,Xo,Xp,Xq,Xr,Xs,Xt,Xu,Xv,Xw,Xx,Xy,Xz,W0,W1,W2,W3,W4,W5,W6,W7,W8,W9,Wa,Wb,Wc,Wd,We,Wf,Wg,Wh,Wi,Value.oneCell',Wj,Wk,Wl,Wm,true_and,and_true,and_self,implies_true,Wn,Wo,Wp,Wq,false_implies,Wr,Ws,Wt,Wu,Wv,Ww,Wx,Wy,Wz,V0,V1,V2,V3,V4,V5,V6,V7,reduceCtorEq,if_true,if_false,V8,↓reduceIte,V9,Va,Vb,Vc,Vd,Ve,ne_eq,not_false_eq_true,not_true_eq_false,Vf,Vg,r10_0,r10_1,r10_2,r10_3,r10_4,r10_5,r10_6,r10_8,r10_9,r10_7,r10_10,r10_11,r10_12,p10,l10_0,hz']) | (exfalso; omega)
  · rw [if_neg hz]
    have hz' := beq0_f hz
    obtain ⟨B, hB⟩ : ∃ B : Nat, sizes l = B := ⟨(sizes l).toNat, by omega⟩
    obtain ⟨D, hD⟩ : ∃ D : Nat, stepsL l = D := ⟨(stepsL l).toNat, by omega⟩
    obtain ⟨S, rfl⟩ : ∃ S : Nat, scale = S := ⟨scale.toNat, by omega⟩
    have bB : B ≤ 500100000 := by omega
    have bS : S ≤ 1000000000 := by omega
    have bD : 0 < D := by omega
    have bD2 : D ≤ 10000000000000 := by omega
    rw [hD] at hz'
    rw [hB, hD]
    simp only [Int.toNat_natCast]
    obtain ⟨X, Y, Z, U, V, x1, x2, x3, x4, x5, x6⟩ := chain_up B S D bB bS bD bD2
    generalize cdiv (B * S) D = C at *
    repeat' first | ((with_reducible (first | refine condD ?_ ?_ | refine condE ?_ ?_ | refine condN ?_ ?_ | refine condI ?_ ?_ | refine condS ?_ ?_)) <;> intro h) | ((with_reducible (first | refine guardD (by with_unfolding_all rfl) ?_ ?_ | refine guardE (by with_unfolding_all rfl) ?_ ?_ | refine guardN (by with_unfolding_all rfl) ?_ ?_ | refine guardI (by with_unfolding_all rfl) ?_ ?_ | refine guardS (by with_unfolding_all rfl) ?_ ?_)) <;> intro h) | ((refine callG x1 ?_)) | ((refine callG x2 ?_)) | ((refine callG x3 ?_)) | ((refine callG x4 ?_)) | ((refine callG x5 ?_)) | ((refine callG x6 ?_)) | (with_reducible refine And.intro ?_ ?_; omega) | (simp only [Z0,Z1,Z2,Z3,Z4,Z5,Z6,Z7,Z8,Z9,Za,Zb,Zc,Zd,Ze,Zf,List.cons.injEq,Zg,Zh,Zi,Zj,Zk,Zl,Zm,Zn,Zo,Zp,beq_self_eq_true,bne_self_eq_false,decide_true,decide_false,Zq,Zr,Zs,Zt,Zu,Zv,Zw,Zx,Zy,Zz,Y0,Y1,Y2,Y3,Y4,Y5,Y6,Y7,Y8,Y9,Ya,Yb,Yc,Yd,Ye,Yf,Yg,Yh,Yi,Yj,Yk,Yl,lk,ef,Ym,Yn,Yo,Yp,Yq,Yr,Ys,Yt,Yu,Yv,Yw,Yx,Yy,Yz,X0,X1,X2,X3,X4,X5,X6,X7,X8,X9,Xa,Xb,Xc,Xd,Xe,Xf,Xg,Xh,Xi,Xj,Xk,hv,Xl,ev,Xm,Xn,Xo,Xp,Xq,Xr,Xs,Xt,Xu,Xv,Xw,Xx,Xy,Xz,W0,W1,W2,W3,W4,W5,W6,W7,W8,W9,Wa,Wb,Wc,Wd,We,Wf,Wg,Wh,Wi,Value.oneCell',Wj,Wk,Wl,Wm,true_and,and_true,and_self,implies_true,Wn,Wo,Wp,Wq,false_implies,Wr,Ws,Wt,Wu,Wv,Ww,Wx,Wy,Wz,V0,V1,V2,V3,V4,V5,V6,V7,reduceCtorEq,if_true,if_false,V8,↓reduceIte,V9,Va,Vb,Vc,Vd,Ve,ne_eq,not_false_eq_true,not_true_eq_false,Vf,Vg,r10_0,r10_1,r10_2,r10_3,r10_4,r10_5,r10_6,r10_8,r10_9,r10_7,r10_10,r10_11,r10_12,p10,l10_0,Par.av,hz']) | (exfalso; omega)
/-! headend/headendref3.delay -/
def r33_0 : List POp := [⟨2, .boxs (.t 0), none⟩,
  ⟨4, .asg (.c (.int .i64 0)), none⟩]
def r33_1 : List POp := [⟨10, .loads 2 (.t 2), none⟩,
  ⟨11, .call 31 [.t 10], none⟩,
  ⟨12, .loads 2 (.t 2), none⟩,
  ⟨13, .call 34 [.t 12], none⟩,
  ⟨5, .asg (.t 11), none⟩,
  ⟨6, .asg (.t 13), none⟩]
def r33_2 : List POp := [⟨7, .asg (.c (.int .i64 0)), none⟩]
def r33_3 : List POp := [⟨8, .asg (.c (.int .i64 0)), none⟩]
def r33_4 : List POp := [⟨14, .mv (.t 8), none⟩,
  ⟨15, .mv (.t 5), none⟩,
  ⟨16, .len (.t 15), none⟩,
  ⟨17, .bin .lss (.t 14) (.t 16), none⟩]
def r33_6 : List POp := [⟨20, .mv (.t 6), none⟩,
  ⟨21, .mv (.t 8), none⟩,
  ⟨22, .idx 1 (.t 20) (.t 21), none⟩,
  ⟨23, .load (.t 22), none⟩,
  ⟨24, .call 30 [.t 23], none⟩,
  ⟨25, .fld 0 (.t 2), none⟩,
  ⟨26, .load (.t 25), none⟩,
  ⟨27, .call 30 [.t 26], none⟩,
  ⟨28, .call 29 [.t 24, .t 27], none⟩,
  ⟨29, .mv (.t 1), none⟩,
  ⟨30, .call 30 [.t 29], none⟩,
  ⟨31, .call 28 [.t 28, .t 30], none⟩,
  ⟨32, .call 27 [.t 31, .c (.int .i64 3)], none⟩,
  ⟨9, .asg (.t 32), none⟩]
def r33_7 : List POp := [⟨33, .mv (.t 7), none⟩,
  ⟨34, .mv (.t 9), none⟩,
  ⟨35, .mv (.t 5), none⟩,
  ⟨36, .mv (.t 8), none⟩,
  ⟨37, .idx 1 (.t 35) (.t 36), none⟩,
  ⟨38, .load (.t 37), none⟩,
  ⟨39, .bin .sub (.t 34) (.t 38), none⟩,
  ⟨40, .minmax true (.t 33) (.t 39), none⟩,
  ⟨7, .asg (.t 40), none⟩]
def r33_5 : List POp := [⟨18, .mv (.t 8), none⟩,
  ⟨19, .bin .add (.t 18) (.c (.int .i64 1)), none⟩,
  ⟨8, .asg (.t 19), none⟩]
def r33_8 : List POp := [⟨41, .mv (.t 7), none⟩,
  ⟨4, .asg (.t 41), none⟩]
def l33_0 : PCode := .seq (.seq (.ops r33_4) (.cond (.t 17) (.skip) (.exit 0))) (.seq (.block 1 (.seq (.ops r33_6) (.ops r33_7))) (.ops r33_5))
def p33 : PCode := .seq (.ops r33_0) (.seq (.ops r33_1) (.seq (.ops r33_2) (.seq (.seq (.ops r33_3) (.block 0 (.loop l33_0))) (.seq (.ops r33_8) (.ret)))))
theorem ok33 : okFunc Tryd.prog 33 [.t 4] 2 p33 = true := by kernel_rfl
set_option maxHeartbeats 1000000 in
theorem rdelay_c (p : Par) (rate : Int) (h : parF p = 0) (hr : outB rate 1 1000000000 = false) : CallOK Tryd.prog 33 [.agg p.av, .val (.int .i64 rate)] (.val (.int .i64 (delayF p rate))) := by
  refine call_of mixed ok33 rfl ?_
  obtain ⟨hl, hb, s1, s2, ht⟩ := par_facts h
  have br := outB_f hr
  obtain ⟨t0, ht0⟩ : ∃ t0, t0 = (p.smps.headD ⟨0, 0, 0, 0, false⟩).time := ⟨_, rfl⟩
  have hF : delayF p rate = needs t0 p.scale rate 0 0 p.smps := by rw [ht0]; rfl
  rw [← ht0] at ht
  obtain ⟨scale, l⟩ := p
  simp only at hl hb s1 s2 ht hF ht0
  have hti := times_r scale l hl hb
  have hsu := sums_r scale l hl hb
  simp only [Par.av] at hti hsu
  have hbd : ∀ x, x ∈ [1] → True := fun _ _ => trivial
  repeat' first | ((with_reducible (first | refine condD ?_ ?_ | refine condE ?_ ?_ | refine condN ?_ ?_ | refine condI ?_ ?_ | refine condS ?_ ?_)) <;> intro h) | ((with_reducible (first | refine guardD (by with_unfolding_all rfl) ?_ ?_ | refine guardE (by with_unfolding_all rfl) ?_ ?_ | refine guardN (by with_unfolding_all rfl) ?_ ?_ | refine guardI (by with_unfolding_all rfl) ?_ ?_ | refine guardS (by with_unfolding_all rfl) ?_ ?_)) <;> intro h) | ((refine callG hti ?_)) | ((refine callG hsu ?_)) | (with_reducible refine And.intro ?_ ?_; omega) | (simp only [Z0,Z1,Z2,Z3,Z4,Z5,Z6,Z7,Z8,Z9,Za,Zb,Zc,Zd,Ze,Zf,List.cons.injEq,Zg,Zh,Zi,Zj,Zk,Zl,Zm,Zn,Zo,Zp,beq_self_eq_true,bne_self_eq_false,decide_true,decide_false,Zq,Zr,Zs,Zt,Zu,Zv,Zw,Zx,Zy,Zz,Y0,Y1,Y2,Y3,Y4,Y5,Y6,Y7,Y8,Y9,Ya,Yb,Yc,Yd,Ye,Yf,Yg,Yh,Yi,Yj,Yk,Yl,lk,ef,Ym,Yn,Yo,Yp,Yq,Yr,Ys,Yt,Yu,Yv,Yw,Yx,Yy,Yz,X0,X1,X2,X3,X4,X5,X6,X7,X8,X9,Xa,Xb,Xc,Xd,Xe,Xf,Xg,Xh,Xi,Xj,Xk,hv,Xl,ev,Xm,Xn,Xo,Xp,Xq,Xr,Xs,Xt,Xu,Xv,Xw,Xx,Xy,Xz,W0,W1,W2,W3,W4,W5,W6,W7,W8,W9,Wa,Wb,Wc,Wd,We,Wf,Wg,Wh,Wi,Value.oneCell',Wj,Wk,Wl,Wm,true_and,and_true,and_self,implies_true,Wn,Wo,Wp,Wq,false_implies,Wr,Ws,Wt,Wu,Wv,Ww,Wx,Wy,Wz,V0,V1,V2,V3,V4,V5,V6,V7,reduceCtorEq,if_true,if_false,V8,↓reduceIte,V9,Va,Vb,Vc,Vd,Ve,ne_eq,not_false_eq_true,not_true_eq_false,Vf,Vg,r33_0,r33_1,r33_2,r33_3,r33_4,r33_6,r33_7,r33_5,r33_8,p33,Par.av]) | (exfalso; omega)
  refine loopS (fun q : Nat × Int => mk [(1, .val (.int .i64 rate)), (2, .box (Par.av ⟨scale, l⟩)), (5, .ro ((tms l).map oneI)), (6, .ro ((sms l).map oneI)), (7, .val (.int .i64 q.2)), (8, .val (.int .i64 (q.1 : Nat)))])
    (fun q => q.1 ≤ l.length ∧ 0 ≤ q.2 ∧ delayF ⟨scale, l⟩ rate = needs t0 scale rate q.2 (szN l q.1) (l.drop q.1)) (fun q => l.length - q.1) (0, 0) (weak_mk ?_) ⟨Nat.zero_le _, Int.le_refl _, by rw [szN_0]; simpa using hF⟩ ?_
  · simp only [Vh,Vi,Vj,Vk,Vl,Vm,Z0,Z1,Z2,Z3,Z4,Z5,Z6,Z7,Z8,Z9,Za,Zb,Zc,Zd,Ze,Zf,List.cons.injEq,Zg,Zh,Zi,Zj,Zk,Zl,Zm,Zn,Zo,Zp,beq_self_eq_true,bne_self_eq_false,decide_true,decide_false,Zq,Zr,Zs,Zt,Zu,Zv,Zw,Zx,Zy,Zz,Y0,Y1,Y2,Y3,Y4,Y5,Y6,Y7,Y8,Y9,Ya,Yb,Yc,Yd,Ye,Yf,Yg,Yh,Yi,Yj,Yk,Yl,lk,ef,Ym,Yn,Yo,Yp,Yq,Yr,Ys,Yt,Yu,Yv,Yw,Yx,Yy,Yz,X0,X1,X2,X3,X4,X5,X6,X7,X8,X9,Xa,Xb,Xc,Xd,Xe,Xf,Xg,Xh,Xi,Xj,Xk,hv,Xl,ev,Xm,Xn,Xo,Xp,Xq,Xr,Xs,Xt,Xu,Xv,Xw,Xx,Xy,Xz,W0,W1,W2,W3,W4,W5,W6,W7,W8,W9,Wa,Wb,Wc,Wd,We,Wf,Wg,Wh,Wi,Value.oneCell',Wj,Wk,Wl,Wm,true_and,and_true,and_self,implies_true,Wn,Wo,Wp,Wq,false_implies,Wr,Ws,Wt,Wu,Wv,Ww,Wx,Wy,Wz,V0,V1,V2,V3,V4,V5,V6,V7,reduceCtorEq,if_true,if_false,V8,↓reduceIte,V9,Va,Vb,Vc,Vd,Ve,ne_eq,not_false_eq_true,not_true_eq_false,Vf,Nat.zero_ne_one]
    first | done | simp [Par.av]
  rintro J hJ ⟨k, m⟩ ⟨hk, hm0, hg⟩
  simp only at hk hm0 hg
  simp only [Z0,Z1,Z2,Z3,Z4,Z5,Z6,Z7,Z8,Z9,Za,Zb,Zc,Zd,Ze,Zf,List.cons.injEq,Zg,Zh,Zi,Zj,Zk,Zl,Zm,Zn,Zo,Zp,beq_self_eq_true,bne_self_eq_false,decide_true,decide_false,Zq,Zr,Zs,Zt,Zu,Zv,Zw,Zx,Zy,Zz,Y0,Y1,Y2,Y3,Y4,Y5,Y6,Y7,Y8,Y9,Ya,Yb,Yc,Yd,Ye,Yf,Yg,Yh,Yi,Yj,Yk,Yl,lk,ef,Ym,Yn,Yo,Yp,Yq,Yr,Ys,Yt,Yu,Yv,Yw,Yx,Yy,Yz,X0,X1,X2,X3,X4,X5,X6,X7,X8,X9,Xa,Xb,Xc,Xd,Xe,Xf,Xg,Xh,Xi,Xj,Xk,hv,Xl,ev,Xm,Xn,Xo,Xp,Xq,Xr,Xs,Xt,Xu,Xv,Xw,Xx,Xy,Xz,W0,W1,W2,W3,W4,W5,W6,W7,W8,W9,Wa,Wb,Wc,Wd,We,Wf,Wg,Wh,Wi,Value.oneCell',Wj,Wk,Wl,Wm,true_and,and_true,and_self,implies_true,Wn,Wo,Wp,Wq,false_implies,Wr,Ws,Wt,Wu,Wv,Ww,Wx,Wy,Wz,V0,V1,V2,V3,V4,V5,V6,V7,reduceCtorEq,if_true,if_false,V8,↓reduceIte,V9,Va,Vb,Vc,Vd,Ve,ne_eq,not_false_eq_true,not_true_eq_false,Vf,Vg,r33_0,r33_1,r33_2,r33_3,r33_4,r33_6,r33_7,r33_5,r33_8,p33,l33_0,Zt,tms_len,sms_len]
  refine condD (fun h => ?_) (fun h => ?_)
  · have hlt : k < l.length := by omega
    have hlt0 : 0 < l.length := by omega
    have hw := i_add1 k (by omega)
    have hs := szN_succ hlt
    have b2 := badSmp_bd (hb l[k] (List.getElem_mem hlt))
    have bB : 0 ≤ szN l (k + 1) ∧ szN l (k + 1) ≤ 500100000 := by
      have := sizes_bd (l := l.take (k + 1)) fun s hs => hb s (List.mem_of_mem_take hs)
      rw [List.length_take, Nat.min_eq_left (by omega : k + 1 ≤ l.length)] at this
      unfold szN
      omega
    have t1 := ht k hlt
    have e0 : tmN l 0 = t0 := by rw [ht0]; exact (hd_tm hlt0).symm
    rw [List.drop_eq_getElem_cons hlt, needs, ← hs] at hg
    have gT := tms_get hlt
    have gS := sms_get hlt
    rw [e0] at gT
    obtain ⟨B, hB⟩ : ∃ B : Nat, szN l (k + 1) = B := ⟨(szN l (k + 1)).toNat, by omega⟩
    obtain ⟨S, hS⟩ : ∃ S : Nat, scale = S := ⟨scale.toNat, by omega⟩
    obtain ⟨D, hD⟩ : ∃ D : Nat, rate = D := ⟨rate.toNat, by omega⟩
    obtain ⟨X, Y, Z, U, V, x1, x2, x3, x4, x5, x6⟩ := chain_up B S D (by omega) (by omega) (by omega) (by omega)
    rw [hB] at gS bB
    rw [hB, hS, hD] at hg
    simp only [Int.toNat_natCast] at hg
    rw [← hS] at x2
    rw [← hD] at x3
    have bC : cdiv (B * S) D ≤ 500100000 * 1000000000 + 1 := Nat.le_trans (cdiv_bd _ _) (by have := Nat.mul_le_mul (show B ≤ 500100000 by omega) (show S ≤ 1000000000 by omega); omega)
    generalize cdiv (B * S) D = C at *
    have v2 : IntKind.i64.wrap ((C : Int) - (l[k].time - t0)) = C - (l[k].time - t0) := wrap_in (by omega) (by omega)
    have eM : (if m < (C : Int) - (l[k].time - t0) then (C : Int) - (l[k].time - t0) else m) = max m ((C : Int) - (l[k].time - t0)) := by omega
    repeat' first | ((with_reducible (first | refine condD ?_ ?_ | refine condE ?_ ?_ | refine condN ?_ ?_ | refine condI ?_ ?_ | refine condS ?_ ?_)) <;> intro h) | ((with_reducible (first | refine guardD (by with_unfolding_all rfl) ?_ ?_ | refine guardE (by with_unfolding_all rfl) ?_ ?_ | refine guardN (by with_unfolding_all rfl) ?_ ?_ | refine guardI (by with_unfolding_all rfl) ?_ ?_ | refine guardS (by with_unfolding_all rfl) ?_ ?_)) <;> intro h) | ((refine callG x1 ?_)) | ((refine callG x2 ?_)) | ((refine callG x3 ?_)) | ((refine callG x4 ?_)) | ((refine callG x5 ?_)) | ((refine callG x6 ?_)) | (with_reducible refine And.intro ?_ ?_; omega) | (simp only [Z0,Z1,Z2,Z3,Z4,Z5,Z6,Z7,Z8,Z9,Za,Zb,Zc,Zd,Ze,Zf,List.cons.injEq,Zg,Zh,Zi,Zj,Zk,Zl,Zm,Zn,Zo,Zp,beq_self_eq_true,bne_self_eq_false,decide_true,decide_false,Zq,Zr,Zs,Zt,Zu,Zv,Zw,Zx,Zy,Zz,Y0,Y1,Y2,Y3,Y4,Y5,Y6,Y7,Y8,Y9,Ya,Yb,Yc,Yd,Ye,Yf,Yg,Yh,Yi,Yj,Yk,Yl,lk,ef,Ym,Yn,Yo,Yp,Yq,Yr,Ys,Yt,Yu,Yv,Yw,Yx,Yy,Yz,X0,X1,X2,X3,X4,X5,X6,X7,X8,X9,Xa,Xb,Xc,Xd,Xe,Xf,Xg,Xh,Xi,Xj,Xk,hv,Xl,ev,Xm,Xn,Xo,Xp,Xq,Xr,Xs,Xt,Xu,Xv,Xw,Xx,Xy,Xz,W0,W1,W2,W3,W4,W5,W6,W7,W8,W9,Wa,Wb,Wc,Wd,We,Wf,Wg,Wh,Wi,Value.oneCell',Wj,Wk,Wl,Wm,true_and,and_true,and_self,implies_true,Wn,Wo,Wp,Wq,false_implies,Wr,Ws,Wt,Wu,Wv,Ww,Wx,Wy,Wz,V0,V1,V2,V3,V4,V5,V6,V7,reduceCtorEq,if_true,if_false,V8,↓reduceIte,V9,Va,Vb,Vc,Vd,Ve,ne_eq,not_false_eq_true,not_true_eq_false,Vf,Vg,r33_0,r33_1,r33_2,r33_3,r33_4,r33_6,r33_7,r33_5,r33_8,p33,l33_0,Par.av,gT,gS,v2,hw,Zt,tms_len,sms_len]) | (exfalso; omega)
    all_goals first | omega | exact again hJ (k + 1, max m ((C : Int) - (l[k].time - t0))) (weak_mk (by simp only [Vh,Vi,Vj,Vk,Vl,Vm,Z0,Z1,Z2,Z3,Z4,Z5,Z6,Z7,Z8,Z9,Za,Zb,Zc,Zd,Ze,Zf,List.cons.injEq,Zg,Zh,Zi,Zj,Zk,Zl,Zm,Zn,Zo,Zp,beq_self_eq_true,bne_self_eq_false,decide_true,decide_false,Zq,Zr,Zs,Zt,Zu,Zv,Zw,Zx,Zy,Zz,Y0,Y1,Y2,Y3,Y4,Y5,Y6,Y7,Y8,Y9,Ya,Yb,Yc,Yd,Ye,Yf,Yg,Yh,Yi,Yj,Yk,Yl,lk,ef,Ym,Yn,Yo,Yp,Yq,Yr,Ys,Yt,Yu,Yv,Yw,Yx,Yy,Yz,X0,X1,X2,X3,X4,X5,X6,X7,X8,X9,Xa,Xb,Xc,Xd,Xe,Xf,Xg,Xh,Xi,Xj,Xk,hv,Xl,ev,Xm,Xn,Xo,Xp,Xq,Xr,Xs,Xt,Xu,Xv,Xw,Xx,Xy,Xz,W0,W1,W2,W3,W4,W5,W6,W7,W8,W9,Wa,Wb,Wc,Wd,We,Wf,Wg,Wh,Wi,Value.oneCell',Wj,Wk,Wl,Wm,true_and,and_true,and_self,implies_true,Wn,Wo,Wp,Wq,false_implies,Wr,Ws,Wt,Wu,Wv,Ww,Wx,Wy,Wz,V0,V1,V2,V3,V4,V5,V6,V7,reduceCtorEq,if_true,if_false,V8,↓reduceIte,V9,Va,Vb,Vc,Vd,Ve,ne_eq,not_false_eq_true,not_true_eq_false,Vf,Nat.zero_ne_one]; first | done | exact ⟨rfl, eM⟩ | exact eM | rfl)) ⟨by simp only; omega, by simp only; omega, by rw [hB]; rw [hS, hD]; exact hg⟩ (by simp only; omega)
  have hke : k = l.length := by omega
  subst hke
  have hR : delayF ⟨scale, l⟩ rate = m := by rw [hg]; simp [needs]
  clear hJ hg
  rw [hR]
  repeat' first | ((with_reducible (first | refine condD ?_ ?_ | refine condE ?_ ?_ | refine condN ?_ ?_ | refine condI ?_ ?_ | refine condS ?_ ?_)) <;> intro h) | ((with_reducible (first | refine guardD (by with_unfolding_all rfl) ?_ ?_ | refine guardE (by with_unfolding_all rfl) ?_ ?_ | refine guardN (by with_unfolding_all rfl) ?_ ?_ | refine guardI (by with_unfolding_all rfl) ?_ ?_ | refine guardS (by with_unfolding_all rfl) ?_ ?_)) <;> intro h) | (with_reducible refine And.intro ?_ ?_; omega) | (simp only [Z0,Z1,Z2,Z3,Z4,Z5,Z6,Z7,Z8,Z9,Za,Zb,Zc,Zd,Ze,Zf,List.cons.injEq,Zg,Zh,Zi,Zj,Zk,Zl,Zm,Zn,Zo,Zp,beq_self_eq_true,bne_self_eq_false,decide_true,decide_false,Zq,Zr,Zs,Zt,Zu,Zv,Zw,Zx,Zy,Zz,Y0,Y1,Y2,Y3,Y4,Y5,Y6,Y7,Y8,Y9,Ya,Yb,Yc,Yd,Ye,Yf,Yg,Yh,Yi,Yj,Yk,Yl,lk,ef,Ym,Yn,Yo,Yp,Yq,Yr,Ys,Yt,Yu,Yv,Yw,Yx,Yy,Yz,X0,X1,X2,X3,X4,X5,X6,X7,X8,X9,Xa,Xb,Xc,Xd,Xe,Xf,Xg,Xh,Xi,Xj,Xk,hv,Xl,ev,Xm,Xn,Xo,Xp,Xq,Xr,Xs,Xt,Xu,Xv,Xw,Xx,Xy,Xz,W0,W1,W2,W3,W4,W5,W6,W7,W8,W9,Wa,Wb,Wc,Wd,We,Wf,Wg,Wh,Wi,Value.oneCell',Wj,Wk,Wl,Wm,true_and,and_true,and_self,implies_true,Wn,Wo,Wp,Wq,false_implies,Wr,Ws,Wt,Wu,Wv,Ww,Wx,Wy,Wz,V0,V1,V2,V3,V4,V5,V6,V7,reduceCtorEq,if_true,if_false,V8,↓reduceIte,V9,Va,Vb,Vc,Vd,Ve,ne_eq,not_false_eq_true,not_true_eq_false,Vf,Vg,r33_0,r33_1,r33_2,r33_3,r33_4,r33_6,r33_7,r33_5,r33_8,p33,l33_0]) | (exfalso; omega)
/-! headend/headendref3.Delay -/
def r14_0 : List POp := [⟨2, .boxs (.t 0), none⟩,
  ⟨4, .asg (.c (.int .i64 0)), none⟩,
  ⟨5, .asg (.c (.int .i64 0)), none⟩]
def r14_1 : List POp := [⟨8, .loads 2 (.t 2), none⟩,
  ⟨9, .call 22 [.t 8], none⟩,
  ⟨6, .asg (.t 9), none⟩]
def r14_2 : List POp := [⟨10, .mv (.t 6), none⟩,
  ⟨11, .bin .neq (.t 10) (.c (.int .i64 0)), none⟩]
def r14_3 : List POp := [⟨12, .mv (.t 6), none⟩,
  ⟨4, .mv (.c (.int .i64 0)), none⟩,
  ⟨5, .mv (.t 12), none⟩]
def r14_4 : List POp := [⟨13, .mv (.t 1), none⟩,
  ⟨14, .bin .lss (.t 13) (.c (.int .i64 1)), none⟩,
  ⟨15, .mv (.t 14), none⟩,
  ⟨16, .mv (.t 1), some (15, false)⟩,
  ⟨17, .bin .gtr (.t 16) (.c (.int .i64 1000000000)), some (15, false)⟩,
  ⟨18, .pick (.t 15) (.c (.bool true)) (.t 17), none⟩]
def r14_5 : List POp := [⟨4, .asg (.c (.int .i64 0)), none⟩,
  ⟨5, .asg (.c (.int .i64 1)), none⟩]
def r14_6 : List POp := [⟨19, .loads 2 (.t 2), none⟩,
  ⟨20, .mv (.t 1), none⟩,
  ⟨21, .call 33 [.t 19, .t 20], none⟩,
  ⟨7, .asg (.t 21), none⟩]
def r14_7 : List POp := [⟨22, .mv (.t 7), none⟩,
  ⟨23, .bin .gtr (.t 22) (.c (.int .i64 1000000000000)), none⟩]
def r14_8 : List POp := [⟨4, .asg (.c (.int .i64 0)), none⟩,
  ⟨5, .asg (.c (.int .i64 1)), none⟩]
def r14_9 : List POp := [⟨24, .mv (.t 7), none⟩,
  ⟨4, .asg (.t 24), none⟩,
  ⟨5, .asg (.c (.int .i64 0)), none⟩]
def p14 : PCode := .seq (.ops r14_0) (.seq (.seq (.ops r14_1) (.seq (.ops r14_2) (.cond (.t 11) (.seq (.ops r14_3) (.ret)) (.skip)))) (.seq (.seq (.ops r14_4) (.cond (.t 18) (.seq (.ops r14_5) (.ret)) (.skip))) (.seq (.ops r14_6) (.seq (.seq (.ops r14_7) (.cond (.t 23) (.seq (.ops r14_8) (.ret)) (.skip))) (.seq (.ops r14_9) (.ret))))))
theorem ok14 : okFunc Tryd.prog 14 [.t 4, .t 5] 2 p14 = true := by kernel_rfl
theorem rdelayP_c (p : Par) (rate : Int) : CallOK Tryd.prog 14 [.agg p.av, .val (.int .i64 rate)] (.tup [.val (.int .i64 (delayP p rate).1), .val (.int .i64 (delayP p rate).2)]) := by
  refine call_of mixed ok14 rfl ?_
  have hp := rpar_c p
  by_cases h0 : parF p = 0
  · rw [h0] at hp
    simp only [Par.av] at hp
    by_cases hr : outB rate 1 1000000000 = true
    · have := outB_t hr
      have hR : delayP p rate = (0, 1) := by simp [delayP, h0, hr]
      rw [hR]
      repeat' first | ((with_reducible (first | refine condD ?_ ?_ | refine condE ?_ ?_ | refine condN ?_ ?_ | refine condI ?_ ?_ | refine condS ?_ ?_)) <;> intro h) | ((with_reducible (first | refine guardD (by with_unfolding_all rfl) ?_ ?_ | refine guardE (by with_unfolding_all rfl) ?_ ?_ | refine guardN (by with_unfolding_all rfl) ?_ ?_ | refine guardI (by with_unfolding_all rfl) ?_ ?_ | refine guardS (by with_unfolding_all rfl) ?_ ?_)) <;> intro h) | ((refine callG hp ?_)) | (with_reducible refine And.intro ?_ ?_; omega) | (simp only [Z0,Z1,Z2,Z3,Z4,Z5,Z6,Z7,Z8,Z9,Za,Zb,Zc,Zd,Ze,Zf,List.cons.injEq,Zg,Zh,Zi,Zj,Zk,Zl,Zm,Zn,Zo,Zp,beq_self_eq_true,bne_self_eq_false,decide_true,decide_false,Zq,Zr,Zs,Zt,Zu,Zv,Zw,Zx,Zy,Zz,Y0,Y1,Y2,Y3,Y4,Y5,Y6,Y7,Y8,Y9,Ya,Yb,Yc,Yd,Ye,Yf,Yg,Yh,Yi,Yj,Yk,Yl,lk,ef,Ym,Yn,Yo,Yp,Yq,Yr,Ys,Yt,Yu,Yv,Yw,Yx,Yy,Yz,X0,X1,X2,X3,X4,X5,X6,X7,X8,X9,Xa,Xb,Xc,Xd,Xe,Xf,Xg,Xh,Xi,Xj,Xk,hv,Xl,ev,Xm,Xn,Xo,Xp,Xq,Xr,Xs,Xt,Xu,Xv,Xw,Xx,Xy,Xz,W0,W1,W2,W3,W4,W5,W6,W7,W8,W9,Wa,Wb,Wc,Wd,We,Wf,Wg,Wh,Wi,Value.oneCell',Wj,Wk,Wl,Wm,true_and,and_true,and_self,implies_true,Wn,Wo,Wp,Wq,false_implies,Wr,Ws,Wt,Wu,Wv,Ww,Wx,Wy,Wz,V0,V1,V2,V3,V4,V5,V6,V7,reduceCtorEq,if_true,if_false,V8,↓reduceIte,V9,Va,Vb,Vc,Vd,Ve,ne_eq,not_false_eq_true,not_true_eq_false,Vf,Vg,r14_0,r14_1,r14_2,r14_3,r14_4,r14_5,r14_6,r14_7,r14_8,r14_9,p14,Par.av]) | (exfalso; omega)
      all_goals first | done | (exfalso; omega)
    · simp only [Bool.not_eq_true] at hr
      have hd := rdelay_c p rate h0 hr
      have br := outB_f hr
      simp only [Par.av] at hd
      repeat' first | ((with_reducible (first | refine condD ?_ ?_ | refine condE ?_ ?_ | refine condN ?_ ?_ | refine condI ?_ ?_ | refine condS ?_ ?_)) <;> intro h) | ((with_reducible (first | refine guardD (by with_unfolding_all rfl) ?_ ?_ | refine guardE (by with_unfolding_all rfl) ?_ ?_ | refine guardN (by with_unfolding_all rfl) ?_ ?_ | refine guardI (by with_unfolding_all rfl) ?_ ?_ | refine guardS (by with_unfolding_all rfl) ?_ ?_)) <;> intro h) | ((refine callG hp ?_)) | ((refine callG hd ?_)) | (with_reducible refine And.intro ?_ ?_; omega) | (simp only [Z0,Z1,Z2,Z3,Z4,Z5,Z6,Z7,Z8,Z9,Za,Zb,Zc,Zd,Ze,Zf,List.cons.injEq,Zg,Zh,Zi,Zj,Zk,Zl,Zm,Zn,Zo,Zp,beq_self_eq_true,bne_self_eq_false,decide_true,decide_false,Zq,Zr,Zs,Zt,Zu,Zv,Zw,Zx,Zy,Zz,Y0,Y1,Y2,Y3,Y4,Y5,Y6,Y7,Y8,Y9,Ya,Yb,Yc,Yd,Ye,Yf,Yg,Yh,Yi,Yj,Yk,Yl,lk,ef,Ym,Yn,Yo,Yp,Yq,Yr,Ys,Yt,Yu,Yv,Yw,Yx,Yy,Yz,X0,X1,X2,X3,X4,X5,X6,X7,X8,X9,Xa,Xb,Xc,Xd,Xe,Xf,Xg,Xh,Xi,Xj,Xk,hv,Xl,ev,Xm,Xn,Xo,Xp,Xq,Xr,Xs,Xt,Xu,Xv,Xw,Xx,Xy,Xz,W0,W1,W2,W3,W4,W5,W6,W7,W8,W9,Wa,Wb,Wc,Wd,We,Wf,Wg,Wh,Wi,Value.oneCell',Wj,Wk,Wl,Wm,true_and,and_true,and_self,implies_true,Wn,Wo,Wp,Wq,false_implies,Wr,Ws,Wt,Wu,Wv,Ww,Wx,Wy,Wz,V0,V1,V2,V3,V4,V5,V6,V7,reduceCtorEq,if_true,if_false,V8,↓reduceIte,V9,Va,Vb,Vc,Vd,Ve,ne_eq,not_false_eq_true,not_true_eq_false,Vf,Vg,r14_0,r14_1,r14_2,r14_3,r14_4,r14_5,r14_6,r14_7,r14_8,r14_9,p14,Par.av]) | (exfalso; omega)
      all_goals first | (simp [delayP, h0, hr, *]; done) | (exfalso; omega)
  · simp only [Par.av] at hp
    repeat' first | ((with_reducible (first | refine condD ?_ ?_ | refine condE ?_ ?_ | refine condN ?_ ?_ | refine condI ?_ ?_ | refine condS ?_ ?_)) <;> intro h) | ((with_reducible (first | refine guardD (by with_unfolding_all rfl) ?_ ?_ | refine guardE (by with_unfolding_all rfl) ?_ ?_ | refine guardN (by with_unfolding_all rfl) ?_ ?_ | refine guardI (by with_unfolding_all rfl) ?_ ?_ | refine guardS (by with_unfolding_all rfl) ?_ ?_)) <;> intro h) | ((refine callG hp ?_)) | (with_reducible refine And.intro ?_ ?_; omega) | (simp only [Z0,Z1,Z2,Z3,Z4,Z5,Z6,Z7,Z8,Z9,Za,Zb,Zc,Zd,Ze,Zf,List.cons.injEq,Zg,Zh,Zi,Zj,Zk,Zl,Zm,Zn,Zo,Zp,beq_self_eq_true,bne_self_eq_false,decide_true,decide_false,Zq,Zr,Zs,Zt,Zu,Zv,Zw,Zx,Zy,Zz,Y0,Y1,Y2,Y3,Y4,Y5,Y6,Y7,Y8,Y9,Ya,Yb,Yc,Yd,Ye,Yf,Yg,Yh,Yi,Yj,Yk,Yl,lk,ef,Ym,Yn,Yo,Yp,Yq,Yr,Ys,Yt,Yu,Yv,Yw,Yx,Yy,Yz,X0,X1,X2,X3,X4,X5,X6,X7,X8,X9,Xa,Xb,Xc,Xd,Xe,Xf,Xg,Xh,Xi,Xj,Xk,hv,Xl,ev,Xm,Xn,Xo,Xp,Xq,Xr,Xs,Xt,Xu,Xv,Xw,Xx,Xy,Xz,W0,W1,W2,W3,W4,W5,W6,W7,W8,W9,Wa,Wb,Wc,Wd,We,Wf,Wg,Wh,Wi,Value.oneCell',Wj,Wk,Wl,Wm,true_and,and_true,and_self,implies_true,Wn,Wo,Wp,Wq,false_implies,Wr,Ws,Wt,Wu,Wv,Ww,Wx,Wy,Wz,V0,V1,V2,V3,V4,V5,V6,V7,reduceCtorEq,if_true,if_false,V8,↓reduceIte,V9,Va,Vb,Vc,Vd,Ve,ne_eq,not_false_eq_true,not_true_eq_false,Vf,Vg,r14_0,r14_1,r14_2,r14_3,r14_4,r14_5,r14_6,r14_7,r14_8,r14_9,p14,Par.av,bne0_t h0,beq0_f h0]) | (exfalso; omega)
    all_goals simp [delayP, h0]
/-! headend/headendref3.Peak -/
def r12_0 : List POp := [⟨2, .boxs (.t 0), none⟩,
  ⟨4, .asg (.c (.int .i64 0)), none⟩,
  ⟨5, .asg (.c (.int .i64 0)), none⟩]
def r12_1 : List POp := [⟨12, .loads 2 (.t 2), none⟩,
  ⟨13, .call 22 [.t 12], none⟩,
  ⟨6, .asg (.t 13), none⟩]
def r12_2 : List POp := [⟨14, .mv (.t 6), none⟩,
  ⟨15, .bin .neq (.t 14) (.c (.int .i64 0)), none⟩]
def r12_3 : List POp := [⟨16, .mv (.t 6), none⟩,
  ⟨4, .mv (.c (.int .i64 0)), none⟩,
  ⟨5, .mv (.t 16), none⟩]
def r12_4 : List POp := [⟨17, .mv (.t 1), none⟩,
  ⟨18, .bin .lss (.t 17) (.c (.int .i64 1)), none⟩,
  ⟨19, .mv (.t 18), none⟩,
  ⟨20, .mv (.t 1), some (19, false)⟩,
  ⟨21, .bin .gtr (.t 20) (.c (.int .i64 1000000000000)), some (19, false)⟩,
  ⟨22, .pick (.t 19) (.c (.bool true)) (.t 21), none⟩]
def r12_5 : List POp := [⟨4, .asg (.c (.int .i64 0)), none⟩,
  ⟨5, .asg (.c (.int .i64 1)), none⟩]
def r12_6 : List POp := [⟨23, .loads 2 (.t 2), none⟩,
  ⟨24, .call 31 [.t 23], none⟩,
  ⟨7, .asg (.t 24), none⟩]
def r12_7 : List POp := [⟨8, .asg (.c (.int .i64 0)), none⟩]
def r12_8 : List POp := [⟨9, .asg (.c (.int .i64 0)), none⟩]
def r12_9 : List POp := [⟨25, .mv (.t 9), none⟩,
  ⟨26, .mv (.t 7), none⟩,
  ⟨27, .len (.t 26), none⟩,
  ⟨28, .bin .lss (.t 25) (.t 27), none⟩]
def r12_11 : List POp := [⟨10, .asg (.c (.int .i64 0)), none⟩]
def r12_12 : List POp := [⟨31, .mv (.t 9), none⟩,
  ⟨11, .asg (.t 31), none⟩]
def r12_13 : List POp := [⟨32, .mv (.t 11), none⟩,
  ⟨33, .mv (.t 7), none⟩,
  ⟨34, .len (.t 33), none⟩,
  ⟨35, .bin .lss (.t 32) (.t 34), none⟩]
def r12_15 : List POp := [⟨38, .mv (.t 7), none⟩,
  ⟨39, .mv (.t 11), none⟩,
  ⟨40, .idx 1 (.t 38) (.t 39), none⟩,
  ⟨41, .load (.t 40), none⟩,
  ⟨42, .mv (.t 7), none⟩,
  ⟨43, .mv (.t 9), none⟩,
  ⟨44, .idx 1 (.t 42) (.t 43), none⟩,
  ⟨45, .load (.t 44), none⟩,
  ⟨46, .bin .sub (.t 41) (.t 45), none⟩,
  ⟨47, .mv (.t 1), none⟩,
  ⟨48, .bin .lss (.t 46) (.t 47), none⟩]
def r12_16 : List POp := [⟨49, .mv (.t 10), none⟩,
  ⟨50, .fld 1 (.t 2), none⟩,
  ⟨51, .load (.t 50), none⟩,
  ⟨52, .mv (.t 11), none⟩,
  ⟨53, .idx 5 (.t 51) (.t 52), none⟩,
  ⟨54, .fld 3 (.t 53), none⟩,
  ⟨55, .load (.t 54), none⟩,
  ⟨56, .bin .add (.t 49) (.t 55), none⟩,
  ⟨10, .asg (.t 56), none⟩]
def r12_14 : List POp := [⟨36, .mv (.t 11), none⟩,
  ⟨37, .bin .add (.t 36) (.c (.int .i64 1)), none⟩,
  ⟨11, .asg (.t 37), none⟩]
def r12_17 : List POp := [⟨57, .mv (.t 8), none⟩,
  ⟨58, .mv (.t 10), none⟩,
  ⟨59, .minmax true (.t 57) (.t 58), none⟩,
  ⟨8, .asg (.t 59), none⟩]
def r12_10 : List POp := [⟨29, .mv (.t 9), none⟩,
  ⟨30, .bin .add (.t 29) (.c (.int .i64 1)), none⟩,
  ⟨9, .asg (.t 30), none⟩]
def r12_18 : List POp := [⟨60, .mv (.t 8), none⟩,
  ⟨4, .asg (.t 60), none⟩,
  ⟨5, .asg (.c (.int .i64 0)), none⟩]
def l12_1 : PCode := .seq (.seq (.ops r12_13) (.cond (.t 35) (.skip) (.exit 2))) (.seq (.block 3 (.seq (.ops r12_15) (.cond (.t 48) (.ops r12_16) (.skip)))) (.ops r12_14))
def l12_0 : PCode := .seq (.seq (.ops r12_9) (.cond (.t 28) (.skip) (.exit 0))) (.seq (.block 1 (.seq (.ops r12_11) (.seq (.seq (.ops r12_12) (.block 2 (.loop l12_1))) (.ops r12_17)))) (.ops r12_10))
def p12 : PCode := .seq (.ops r12_0) (.seq (.seq (.ops r12_1) (.seq (.ops r12_2) (.cond (.t 15) (.seq (.ops r12_3) (.ret)) (.skip)))) (.seq (.seq (.ops r12_4) (.cond (.t 22) (.seq (.ops r12_5) (.ret)) (.skip))) (.seq (.ops r12_6) (.seq (.ops r12_7) (.seq (.seq (.ops r12_8) (.block 0 (.loop l12_0))) (.seq (.ops r12_18) (.ret)))))))
theorem ok12 : okFunc Tryd.prog 12 [.t 4, .t 5] 2 p12 = true := by kernel_rfl
set_option maxHeartbeats 1000000 in
theorem rpeak_c (p : Par) (w v : Int) (hV : parF p = 0 → outB w 1 1000000000000 = false → PkTo p.smps w (fun _ _ => True) v) : CallOK Tryd.prog 12 [.agg p.av, .val (.int .i64 w)] (.tup [.val (.int .i64 (peakR p w v).1), .val (.int .i64 (peakR p w v).2)]) := by
  refine call_of mixed ok12 rfl ?_
  have hp := rpar_c p
  by_cases h0 : parF p = 0
  case neg =>
    simp only [Par.av] at hp
    repeat' first | ((with_reducible (first | refine condD ?_ ?_ | refine condE ?_ ?_ | refine condN ?_ ?_ | refine condI ?_ ?_ | refine condS ?_ ?_)) <;> intro h) | ((with_reducible (first | refine guardD (by with_unfolding_all rfl) ?_ ?_ | refine guardE (by with_unfolding_all rfl) ?_ ?_ | refine guardN (by with_unfolding_all rfl) ?_ ?_ | refine guardI (by with_unfolding_all rfl) ?_ ?_ | refine guardS (by with_unfolding_all rfl) ?_ ?_)) <;> intro h) | ((refine callG hp ?_)) | (with_reducible refine And.intro ?_ ?_; omega) | (simp only [Z0,Z1,Z2,Z3,Z4,Z5,Z6,Z7,Z8,Z9,Za,Zb,Zc,Zd,Ze,Zf,List.cons.injEq,Zg,Zh,Zi,Zj,Zk,Zl,Zm,Zn,Zo,Zp,beq_self_eq_true,bne_self_eq_false,decide_true,decide_false,Zq,Zr,Zs,Zt,Zu,Zv,Zw,Zx,Zy,Zz,Y0,Y1,Y2,Y3,Y4,Y5,Y6,Y7,Y8,Y9,Ya,Yb,Yc,Yd,Ye,Yf,Yg,Yh,Yi,Yj,Yk,Yl,lk,ef,Ym,Yn,Yo,Yp,Yq,Yr,Ys,Yt,Yu,Yv,Yw,Yx,Yy,Yz,X0,X1,X2,X3,X4,X5,X6,X7,X8,X9,Xa,Xb,Xc,Xd,Xe,Xf,Xg,Xh,Xi,Xj,Xk,hv,Xl,ev,Xm,Xn,Xo,Xp,Xq,Xr,Xs,Xt,Xu,Xv,Xw,Xx,Xy,Xz,W0,W1,W2,W3,W4,W5,W6,W7,W8,W9,Wa,Wb,Wc,Wd,We,Wf,Wg,Wh,Wi,Value.oneCell',Wj,Wk,Wl,Wm,true_and,and_true,and_self,implies_true,Wn,Wo,Wp,Wq,false_implies,Wr,Ws,Wt,Wu,Wv,Ww,Wx,Wy,Wz,V0,V1,V2,V3,V4,V5,V6,V7,reduceCtorEq,if_true,if_false,V8,↓reduceIte,V9,Va,Vb,Vc,Vd,Ve,ne_eq,not_false_eq_true,not_true_eq_false,Vf,Vg,r12_0,r12_1,r12_2,r12_3,r12_4,r12_5,r12_6,r12_7,r12_8,r12_9,r12_11,r12_12,r12_13,r12_15,r12_16,r12_14,r12_17,r12_10,r12_18,p12,Par.av,bne0_t h0,beq0_f h0]) | (exfalso; omega)
    all_goals simp [peakR, h0]
  rw [h0] at hp
  simp only [Par.av] at hp
  by_cases hr : outB w 1 1000000000000 = true
  · have := outB_t hr
    rw [show peakR p w v = (0, 1) by simp [peakR, h0, hr]]
    repeat' first | ((with_reducible (first | refine condD ?_ ?_ | refine condE ?_ ?_ | refine condN ?_ ?_ | refine condI ?_ ?_ | refine condS ?_ ?_)) <;> intro h) | ((with_reducible (first | refine guardD (by with_unfolding_all rfl) ?_ ?_ | refine guardE (by with_unfolding_all rfl) ?_ ?_ | refine guardN (by with_unfolding_all rfl) ?_ ?_ | refine guardI (by with_unfolding_all rfl) ?_ ?_ | refine guardS (by with_unfolding_all rfl) ?_ ?_)) <;> intro h) | ((refine callG hp ?_)) | (with_reducible refine And.intro ?_ ?_; omega) | (simp only [Z0,Z1,Z2,Z3,Z4,Z5,Z6,Z7,Z8,Z9,Za,Zb,Zc,Zd,Ze,Zf,List.cons.injEq,Zg,Zh,Zi,Zj,Zk,Zl,Zm,Zn,Zo,Zp,beq_self_eq_true,bne_self_eq_false,decide_true,decide_false,Zq,Zr,Zs,Zt,Zu,Zv,Zw,Zx,Zy,Zz,Y0,Y1,Y2,Y3,Y4,Y5,Y6,Y7,Y8,Y9,Ya,Yb,Yc,Yd,Ye,Yf,Yg,Yh,Yi,Yj,Yk,Yl,lk,ef,Ym,Yn,Yo,Yp,Yq,Yr,Ys,Yt,Yu,Yv,Yw,Yx,Yy,Yz,X0,X1,X2,X3,X4,X5,X6,X7,X8,X9,Xa,Xb,Xc,Xd,Xe,Xf,Xg,Xh,Xi,Xj,Xk,hv,Xl,ev,Xm,Xn,Xo,Xp,Xq,Xr,Xs,Xt,Xu,Xv,Xw,Xx,Xy,Xz,W0,W1,W2,W3,W4,W5,W6,W7,W8,W9,Wa,Wb,Wc,Wd,We,Wf,Wg,Wh,Wi,Value.oneCell',Wj,Wk,Wl,Wm,true_and,and_true,and_self,implies_true,Wn,Wo,Wp,Wq,false_implies,Wr,Ws,Wt,Wu,Wv,Ww,Wx,Wy,Wz,V0,V1,V2,V3,V4,V5,V6,V7,reduceCtorEq,if_true,if_false,V8,↓reduceIte,V9,Va,Vb,Vc,Vd,Ve,ne_eq,not_false_eq_true,not_true_eq_false,Vf,Vg,r12_0,r12_1,r12_2,r12_3,r12_4,r12_5,r12_6,r12_7,r12_8,r12_9,r12_11,r12_12,r12_13,r12_15,r12_16,r12_14,r12_17,r12_10,r12_18,p12,Par.av]) | (exfalso; omega)
    all_goals first | done | (exfalso; omega)
  simp only [Bool.not_eq_true] at hr
  have hR : peakR p w v = (v, 0) := by simp [peakR, h0, hr]
  rw [hR]
  have bw := outB_f hr
  have hV := hV h0 hr
  obtain ⟨hl, hb, s1, s2, ht⟩ := par_facts h0
  have hG := good_of hb (smpF_0 (parF_0 h0).1).2.2.1
  obtain ⟨scale, l⟩ := p
  simp only at hl hb s1 s2 ht hp hV hG
  have hZ := sizes_bd hb
  have eZ : sizes l = szN l l.length := by unfold szN; rw [List.take_length]
  have hti := times_r scale l hl hb
  simp only [Par.av] at hti
  have u1 : ¬ w < 1 := by omega
  have u2 : ¬ 1000000000000 < w := by omega
  repeat' first | ((with_reducible (first | refine condD ?_ ?_ | refine condE ?_ ?_ | refine condN ?_ ?_ | refine condI ?_ ?_ | refine condS ?_ ?_)) <;> intro h) | ((with_reducible (first | refine guardD (by with_unfolding_all rfl) ?_ ?_ | refine guardE (by with_unfolding_all rfl) ?_ ?_ | refine guardN (by with_unfolding_all rfl) ?_ ?_ | refine guardI (by with_unfolding_all rfl) ?_ ?_ | refine guardS (by with_unfolding_all rfl) ?_ ?_)) <;> intro h) | ((refine callG hp ?_)) | ((refine callG hti ?_)) | (with_reducible refine And.intro ?_ ?_; omega) | (simp only [Z0,Z1,Z2,Z3,Z4,Z5,Z6,Z7,Z8,Z9,Za,Zb,Zc,Zd,Ze,Zf,List.cons.injEq,Zg,Zh,Zi,Zj,Zk,Zl,Zm,Zn,Zo,Zp,beq_self_eq_true,bne_self_eq_false,decide_true,decide_false,Zq,Zr,Zs,Zt,Zu,Zv,Zw,Zx,Zy,Zz,Y0,Y1,Y2,Y3,Y4,Y5,Y6,Y7,Y8,Y9,Ya,Yb,Yc,Yd,Ye,Yf,Yg,Yh,Yi,Yj,Yk,Yl,lk,ef,Ym,Yn,Yo,Yp,Yq,Yr,Ys,Yt,Yu,Yv,Yw,Yx,Yy,Yz,X0,X1,X2,X3,X4,X5,X6,X7,X8,X9,Xa,Xb,Xc,Xd,Xe,Xf,Xg,Xh,Xi,Xj,Xk,hv,Xl,ev,Xm,Xn,Xo,Xp,Xq,Xr,Xs,Xt,Xu,Xv,Xw,Xx,Xy,Xz,W0,W1,W2,W3,W4,W5,W6,W7,W8,W9,Wa,Wb,Wc,Wd,We,Wf,Wg,Wh,Wi,Value.oneCell',Wj,Wk,Wl,Wm,true_and,and_true,and_self,implies_true,Wn,Wo,Wp,Wq,false_implies,Wr,Ws,Wt,Wu,Wv,Ww,Wx,Wy,Wz,V0,V1,V2,V3,V4,V5,V6,V7,reduceCtorEq,if_true,if_false,V8,↓reduceIte,V9,Va,Vb,Vc,Vd,Ve,ne_eq,not_false_eq_true,not_true_eq_false,Vf,Vg,r12_0,r12_1,r12_2,r12_3,r12_4,r12_5,r12_6,r12_7,r12_8,r12_9,r12_11,r12_12,r12_13,r12_15,r12_16,r12_14,r12_17,r12_10,r12_18,p12,Par.av,u1,u2]) | (exfalso; omega)
  refine loopS (fun q : Nat × Int => mk [(1, .val (.int .i64 w)), (2, .box (Par.av ⟨scale, l⟩)), (7, .ro ((tms l).map oneI)), (8, .val (.int .i64 q.2)), (9, .val (.int .i64 (q.1 : Nat)))])
    (fun q => q.1 ≤ l.length ∧ PkTo l w (fun f _ => f < q.1) q.2) (fun q => l.length - q.1) (0, 0) (weak_mk ?_)
    ⟨Nat.zero_le _, (PkTo.start l w).weak fun i k _ _ h => absurd h (Nat.not_lt_zero _)⟩ ?_
  · simp only [Vh,Vi,Vj,Vk,Vl,Vm,Z0,Z1,Z2,Z3,Z4,Z5,Z6,Z7,Z8,Z9,Za,Zb,Zc,Zd,Ze,Zf,List.cons.injEq,Zg,Zh,Zi,Zj,Zk,Zl,Zm,Zn,Zo,Zp,beq_self_eq_true,bne_self_eq_false,decide_true,decide_false,Zq,Zr,Zs,Zt,Zu,Zv,Zw,Zx,Zy,Zz,Y0,Y1,Y2,Y3,Y4,Y5,Y6,Y7,Y8,Y9,Ya,Yb,Yc,Yd,Ye,Yf,Yg,Yh,Yi,Yj,Yk,Yl,lk,ef,Ym,Yn,Yo,Yp,Yq,Yr,Ys,Yt,Yu,Yv,Yw,Yx,Yy,Yz,X0,X1,X2,X3,X4,X5,X6,X7,X8,X9,Xa,Xb,Xc,Xd,Xe,Xf,Xg,Xh,Xi,Xj,Xk,hv,Xl,ev,Xm,Xn,Xo,Xp,Xq,Xr,Xs,Xt,Xu,Xv,Xw,Xx,Xy,Xz,W0,W1,W2,W3,W4,W5,W6,W7,W8,W9,Wa,Wb,Wc,Wd,We,Wf,Wg,Wh,Wi,Value.oneCell',Wj,Wk,Wl,Wm,true_and,and_true,and_self,implies_true,Wn,Wo,Wp,Wq,false_implies,Wr,Ws,Wt,Wu,Wv,Ww,Wx,Wy,Wz,V0,V1,V2,V3,V4,V5,V6,V7,reduceCtorEq,if_true,if_false,V8,↓reduceIte,V9,Va,Vb,Vc,Vd,Ve,ne_eq,not_false_eq_true,not_true_eq_false,Vf,Nat.zero_ne_one]
    first | done | simp [Par.av]
  rintro J hJ ⟨i, m⟩ ⟨hi, hP⟩
  simp only at hi hP
  simp only [Z0,Z1,Z2,Z3,Z4,Z5,Z6,Z7,Z8,Z9,Za,Zb,Zc,Zd,Ze,Zf,List.cons.injEq,Zg,Zh,Zi,Zj,Zk,Zl,Zm,Zn,Zo,Zp,beq_self_eq_true,bne_self_eq_false,decide_true,decide_false,Zq,Zr,Zs,Zt,Zu,Zv,Zw,Zx,Zy,Zz,Y0,Y1,Y2,Y3,Y4,Y5,Y6,Y7,Y8,Y9,Ya,Yb,Yc,Yd,Ye,Yf,Yg,Yh,Yi,Yj,Yk,Yl,lk,ef,Ym,Yn,Yo,Yp,Yq,Yr,Ys,Yt,Yu,Yv,Yw,Yx,Yy,Yz,X0,X1,X2,X3,X4,X5,X6,X7,X8,X9,Xa,Xb,Xc,Xd,Xe,Xf,Xg,Xh,Xi,Xj,Xk,hv,Xl,ev,Xm,Xn,Xo,Xp,Xq,Xr,Xs,Xt,Xu,Xv,Xw,Xx,Xy,Xz,W0,W1,W2,W3,W4,W5,W6,W7,W8,W9,Wa,Wb,Wc,Wd,We,Wf,Wg,Wh,Wi,Value.oneCell',Wj,Wk,Wl,Wm,true_and,and_true,and_self,implies_true,Wn,Wo,Wp,Wq,false_implies,Wr,Ws,Wt,Wu,Wv,Ww,Wx,Wy,Wz,V0,V1,V2,V3,V4,V5,V6,V7,reduceCtorEq,if_true,if_false,V8,↓reduceIte,V9,Va,Vb,Vc,Vd,Ve,ne_eq,not_false_eq_true,not_true_eq_false,Vf,Vg,r12_0,r12_1,r12_2,r12_3,r12_4,r12_5,r12_6,r12_7,r12_8,r12_9,r12_11,r12_12,r12_13,r12_15,r12_16,r12_14,r12_17,r12_10,r12_18,p12,l12_0,Zt,tms_len]
  refine condD (fun h => ?_) (fun h => ?_)
  · have hlt : i < l.length := by omega
    have hw := i_add1 i (by omega)
    have ti := tmN_in hlt
    have bi := badSmp_bd (hb l[i] (List.getElem_mem hlt))
    have b0 := badSmp_bd (hb l[0] (List.getElem_mem (by omega)))
    have t0' := tmN_in (show 0 < l.length by omega)
    have gI := tms_get hlt
    have z0 := szN_0 l
    repeat' first | ((with_reducible (first | refine condD ?_ ?_ | refine condE ?_ ?_ | refine condN ?_ ?_ | refine condI ?_ ?_ | refine condS ?_ ?_)) <;> intro h) | ((with_reducible (first | refine guardD (by with_unfolding_all rfl) ?_ ?_ | refine guardE (by with_unfolding_all rfl) ?_ ?_ | refine guardN (by with_unfolding_all rfl) ?_ ?_ | refine guardI (by with_unfolding_all rfl) ?_ ?_ | refine guardS (by with_unfolding_all rfl) ?_ ?_)) <;> intro h) | (with_reducible refine And.intro ?_ ?_; omega) | (simp only [Z0,Z1,Z2,Z3,Z4,Z5,Z6,Z7,Z8,Z9,Za,Zb,Zc,Zd,Ze,Zf,List.cons.injEq,Zg,Zh,Zi,Zj,Zk,Zl,Zm,Zn,Zo,Zp,beq_self_eq_true,bne_self_eq_false,decide_true,decide_false,Zq,Zr,Zs,Zt,Zu,Zv,Zw,Zx,Zy,Zz,Y0,Y1,Y2,Y3,Y4,Y5,Y6,Y7,Y8,Y9,Ya,Yb,Yc,Yd,Ye,Yf,Yg,Yh,Yi,Yj,Yk,Yl,lk,ef,Ym,Yn,Yo,Yp,Yq,Yr,Ys,Yt,Yu,Yv,Yw,Yx,Yy,Yz,X0,X1,X2,X3,X4,X5,X6,X7,X8,X9,Xa,Xb,Xc,Xd,Xe,Xf,Xg,Xh,Xi,Xj,Xk,hv,Xl,ev,Xm,Xn,Xo,Xp,Xq,Xr,Xs,Xt,Xu,Xv,Xw,Xx,Xy,Xz,W0,W1,W2,W3,W4,W5,W6,W7,W8,W9,Wa,Wb,Wc,Wd,We,Wf,Wg,Wh,Wi,Value.oneCell',Wj,Wk,Wl,Wm,true_and,and_true,and_self,implies_true,Wn,Wo,Wp,Wq,false_implies,Wr,Ws,Wt,Wu,Wv,Ww,Wx,Wy,Wz,V0,V1,V2,V3,V4,V5,V6,V7,reduceCtorEq,if_true,if_false,V8,↓reduceIte,V9,Va,Vb,Vc,Vd,Ve,ne_eq,not_false_eq_true,not_true_eq_false,Vf,Vg,r12_0,r12_1,r12_2,r12_3,r12_4,r12_5,r12_6,r12_7,r12_8,r12_9,r12_11,r12_12,r12_13,r12_15,r12_16,r12_14,r12_17,r12_10,r12_18,p12,l12_0,Par.av,Zt,tms_len]) | (exfalso; omega)
    refine loopS (fun q : Nat × Nat => mk [(1, .val (.int .i64 w)), (2, .box (Par.av ⟨scale, l⟩)), (7, .ro ((tms l).map oneI)), (8, .val (.int .i64 m)), (9, .val (.int .i64 i)), (10, .val (.int .i64 (szN l q.2 - szN l i))), (11, .val (.int .i64 (q.1 : Nat)))])
      (fun q => i ≤ q.2 ∧ q.2 ≤ q.1 ∧ q.1 ≤ l.length ∧ (i < q.2 → tmN l (q.2 - 1) - tmN l i < w) ∧ (q.2 < q.1 → w ≤ tmN l q.2 - tmN l i)) (fun q => l.length - q.1) (i, i) (weak_mk ?_)
      ⟨Nat.le_refl _, Nat.le_refl _, hi, fun q => absurd q (Nat.lt_irrefl _), fun q => absurd q (Nat.lt_irrefl _)⟩ ?_
    · simp only [Vh,Vi,Vj,Vk,Vl,Vm,Z0,Z1,Z2,Z3,Z4,Z5,Z6,Z7,Z8,Z9,Za,Zb,Zc,Zd,Ze,Zf,List.cons.injEq,Zg,Zh,Zi,Zj,Zk,Zl,Zm,Zn,Zo,Zp,beq_self_eq_true,bne_self_eq_false,decide_true,decide_false,Zq,Zr,Zs,Zt,Zu,Zv,Zw,Zx,Zy,Zz,Y0,Y1,Y2,Y3,Y4,Y5,Y6,Y7,Y8,Y9,Ya,Yb,Yc,Yd,Ye,Yf,Yg,Yh,Yi,Yj,Yk,Yl,lk,ef,Ym,Yn,Yo,Yp,Yq,Yr,Ys,Yt,Yu,Yv,Yw,Yx,Yy,Yz,X0,X1,X2,X3,X4,X5,X6,X7,X8,X9,Xa,Xb,Xc,Xd,Xe,Xf,Xg,Xh,Xi,Xj,Xk,hv,Xl,ev,Xm,Xn,Xo,Xp,Xq,Xr,Xs,Xt,Xu,Xv,Xw,Xx,Xy,Xz,W0,W1,W2,W3,W4,W5,W6,W7,W8,W9,Wa,Wb,Wc,Wd,We,Wf,Wg,Wh,Wi,Value.oneCell',Wj,Wk,Wl,Wm,true_and,and_true,and_self,implies_true,Wn,Wo,Wp,Wq,false_implies,Wr,Ws,Wt,Wu,Wv,Ww,Wx,Wy,Wz,V0,V1,V2,V3,V4,V5,V6,V7,reduceCtorEq,if_true,if_false,V8,↓reduceIte,V9,Va,Vb,Vc,Vd,Ve,ne_eq,not_false_eq_true,not_true_eq_false,Vf,Nat.zero_ne_one]
      all_goals first | done | rfl | (simp [Par.av]; done) | (simp [Par.av]; omega)
    rintro J2 hJ2 ⟨k, j⟩ ⟨h1, h2, h3, h4, h5⟩
    simp only at h1 h2 h3 h4 h5
    simp only [Z0,Z1,Z2,Z3,Z4,Z5,Z6,Z7,Z8,Z9,Za,Zb,Zc,Zd,Ze,Zf,List.cons.injEq,Zg,Zh,Zi,Zj,Zk,Zl,Zm,Zn,Zo,Zp,beq_self_eq_true,bne_self_eq_false,decide_true,decide_false,Zq,Zr,Zs,Zt,Zu,Zv,Zw,Zx,Zy,Zz,Y0,Y1,Y2,Y3,Y4,Y5,Y6,Y7,Y8,Y9,Ya,Yb,Yc,Yd,Ye,Yf,Yg,Yh,Yi,Yj,Yk,Yl,lk,ef,Ym,Yn,Yo,Yp,Yq,Yr,Ys,Yt,Yu,Yv,Yw,Yx,Yy,Yz,X0,X1,X2,X3,X4,X5,X6,X7,X8,X9,Xa,Xb,Xc,Xd,Xe,Xf,Xg,Xh,Xi,Xj,Xk,hv,Xl,ev,Xm,Xn,Xo,Xp,Xq,Xr,Xs,Xt,Xu,Xv,Xw,Xx,Xy,Xz,W0,W1,W2,W3,W4,W5,W6,W7,W8,W9,Wa,Wb,Wc,Wd,We,Wf,Wg,Wh,Wi,Value.oneCell',Wj,Wk,Wl,Wm,true_and,and_true,and_self,implies_true,Wn,Wo,Wp,Wq,false_implies,Wr,Ws,Wt,Wu,Wv,Ww,Wx,Wy,Wz,V0,V1,V2,V3,V4,V5,V6,V7,reduceCtorEq,if_true,if_false,V8,↓reduceIte,V9,Va,Vb,Vc,Vd,Ve,ne_eq,not_false_eq_true,not_true_eq_false,Vf,Vg,r12_0,r12_1,r12_2,r12_3,r12_4,r12_5,r12_6,r12_7,r12_8,r12_9,r12_11,r12_12,r12_13,r12_15,r12_16,r12_14,r12_17,r12_10,r12_18,p12,l12_1,Zt,tms_len]
    refine condD (fun h => ?_) (fun h => ?_)
    · have hkl : k < l.length := by omega
      have hwk := i_add1 k (by omega)
      have gK := tms_get hkl
      have gS := getD_map (f := Smp.av) (d := []) hkl
      simp only [Smp.av] at gS
      have tk := tmN_in hkl
      have bk := badSmp_bd (hb l[k] (List.getElem_mem hkl))
      have hs := szN_succ hkl
      have w1 : IntKind.i64.wrap (l[k].time - tmN l 0 - (l[i].time - tmN l 0)) = l[k].time - l[i].time := by rw [wrap_in (by omega) (by omega)]; omega
      by_cases hd : l[k].time - l[i].time < w
      · have hjk : j = k := by
          rcases Nat.lt_or_ge j k with q | q
          · have h6 := h5 q
            have h7 := hG.tm j k (by omega) hkl
            omega
          · omega
        subst hjk
        have y1 := hG.sz i j h1 (by omega)
        have y2 := hG.sz 0 i (Nat.zero_le _) (by omega)
        have y3 := hG.sz j l.length (by omega) (Nat.le_refl _)
        have h4n : tmN l (j + 1 - 1) - tmN l i < w := by rw [Nat.add_sub_cancel]; omega
        have w2 : IntKind.i64.wrap (szN l j - szN l i + l[j].size) = szN l (j + 1) - szN l i := by rw [hs, wrap_in (by omega) (by omega)]; omega
        repeat' first | ((with_reducible (first | refine condD ?_ ?_ | refine condE ?_ ?_ | refine condN ?_ ?_ | refine condI ?_ ?_ | refine condS ?_ ?_)) <;> intro h) | ((with_reducible (first | refine guardD (by with_unfolding_all rfl) ?_ ?_ | refine guardE (by with_unfolding_all rfl) ?_ ?_ | refine guardN (by with_unfolding_all rfl) ?_ ?_ | refine guardI (by with_unfolding_all rfl) ?_ ?_ | refine guardS (by with_unfolding_all rfl) ?_ ?_)) <;> intro h) | (with_reducible refine And.intro ?_ ?_; omega) | (simp only [Z0,Z1,Z2,Z3,Z4,Z5,Z6,Z7,Z8,Z9,Za,Zb,Zc,Zd,Ze,Zf,List.cons.injEq,Zg,Zh,Zi,Zj,Zk,Zl,Zm,Zn,Zo,Zp,beq_self_eq_true,bne_self_eq_false,decide_true,decide_false,Zq,Zr,Zs,Zt,Zu,Zv,Zw,Zx,Zy,Zz,Y0,Y1,Y2,Y3,Y4,Y5,Y6,Y7,Y8,Y9,Ya,Yb,Yc,Yd,Ye,Yf,Yg,Yh,Yi,Yj,Yk,Yl,lk,ef,Ym,Yn,Yo,Yp,Yq,Yr,Ys,Yt,Yu,Yv,Yw,Yx,Yy,Yz,X0,X1,X2,X3,X4,X5,X6,X7,X8,X9,Xa,Xb,Xc,Xd,Xe,Xf,Xg,Xh,Xi,Xj,Xk,hv,Xl,ev,Xm,Xn,Xo,Xp,Xq,Xr,Xs,Xt,Xu,Xv,Xw,Xx,Xy,Xz,W0,W1,W2,W3,W4,W5,W6,W7,W8,W9,Wa,Wb,Wc,Wd,We,Wf,Wg,Wh,Wi,Value.oneCell',Wj,Wk,Wl,Wm,true_and,and_true,and_self,implies_true,Wn,Wo,Wp,Wq,false_implies,Wr,Ws,Wt,Wu,Wv,Ww,Wx,Wy,Wz,V0,V1,V2,V3,V4,V5,V6,V7,reduceCtorEq,if_true,if_false,V8,↓reduceIte,V9,Va,Vb,Vc,Vd,Ve,ne_eq,not_false_eq_true,not_true_eq_false,Vf,Vg,r12_0,r12_1,r12_2,r12_3,r12_4,r12_5,r12_6,r12_7,r12_8,r12_9,r12_11,r12_12,r12_13,r12_15,r12_16,r12_14,r12_17,r12_10,r12_18,p12,l12_1,Par.av,gI,gK,gS,w1,w2,hwk,hd,Zt,tms_len]) | (exfalso; omega)
        all_goals first | omega | exact again hJ2 (j + 1, j + 1) (weak_mk (by simp only [Vh,Vi,Vj,Vk,Vl,Vm,Z0,Z1,Z2,Z3,Z4,Z5,Z6,Z7,Z8,Z9,Za,Zb,Zc,Zd,Ze,Zf,List.cons.injEq,Zg,Zh,Zi,Zj,Zk,Zl,Zm,Zn,Zo,Zp,beq_self_eq_true,bne_self_eq_false,decide_true,decide_false,Zq,Zr,Zs,Zt,Zu,Zv,Zw,Zx,Zy,Zz,Y0,Y1,Y2,Y3,Y4,Y5,Y6,Y7,Y8,Y9,Ya,Yb,Yc,Yd,Ye,Yf,Yg,Yh,Yi,Yj,Yk,Yl,lk,ef,Ym,Yn,Yo,Yp,Yq,Yr,Ys,Yt,Yu,Yv,Yw,Yx,Yy,Yz,X0,X1,X2,X3,X4,X5,X6,X7,X8,X9,Xa,Xb,Xc,Xd,Xe,Xf,Xg,Xh,Xi,Xj,Xk,hv,Xl,ev,Xm,Xn,Xo,Xp,Xq,Xr,Xs,Xt,Xu,Xv,Xw,Xx,Xy,Xz,W0,W1,W2,W3,W4,W5,W6,W7,W8,W9,Wa,Wb,Wc,Wd,We,Wf,Wg,Wh,Wi,Value.oneCell',Wj,Wk,Wl,Wm,true_and,and_true,and_self,implies_true,Wn,Wo,Wp,Wq,false_implies,Wr,Ws,Wt,Wu,Wv,Ww,Wx,Wy,Wz,V0,V1,V2,V3,V4,V5,V6,V7,reduceCtorEq,if_true,if_false,V8,↓reduceIte,V9,Va,Vb,Vc,Vd,Ve,ne_eq,not_false_eq_true,not_true_eq_false,Vf,Nat.zero_ne_one]; first | done | rfl)) ⟨by simp only; omega, by simp only; omega, by simp only; omega, fun _ => h4n, fun q => absurd q (Nat.lt_irrefl _)⟩ (by simp only; omega)
      · have h5n : j < k + 1 → w ≤ tmN l j - tmN l i := fun q => by
          rcases Nat.lt_or_ge j k with z | z
          · exact h5 z
          · have e : j = k := by omega
            subst e
            omega
        repeat' first | ((with_reducible (first | refine condD ?_ ?_ | refine condE ?_ ?_ | refine condN ?_ ?_ | refine condI ?_ ?_ | refine condS ?_ ?_)) <;> intro h) | ((with_reducible (first | refine guardD (by with_unfolding_all rfl) ?_ ?_ | refine guardE (by with_unfolding_all rfl) ?_ ?_ | refine guardN (by with_unfolding_all rfl) ?_ ?_ | refine guardI (by with_unfolding_all rfl) ?_ ?_ | refine guardS (by with_unfolding_all rfl) ?_ ?_)) <;> intro h) | (with_reducible refine And.intro ?_ ?_; omega) | (simp only [Z0,Z1,Z2,Z3,Z4,Z5,Z6,Z7,Z8,Z9,Za,Zb,Zc,Zd,Ze,Zf,List.cons.injEq,Zg,Zh,Zi,Zj,Zk,Zl,Zm,Zn,Zo,Zp,beq_self_eq_true,bne_self_eq_false,decide_true,decide_false,Zq,Zr,Zs,Zt,Zu,Zv,Zw,Zx,Zy,Zz,Y0,Y1,Y2,Y3,Y4,Y5,Y6,Y7,Y8,Y9,Ya,Yb,Yc,Yd,Ye,Yf,Yg,Yh,Yi,Yj,Yk,Yl,lk,ef,Ym,Yn,Yo,Yp,Yq,Yr,Ys,Yt,Yu,Yv,Yw,Yx,Yy,Yz,X0,X1,X2,X3,X4,X5,X6,X7,X8,X9,Xa,Xb,Xc,Xd,Xe,Xf,Xg,Xh,Xi,Xj,Xk,hv,Xl,ev,Xm,Xn,Xo,Xp,Xq,Xr,Xs,Xt,Xu,Xv,Xw,Xx,Xy,Xz,W0,W1,W2,W3,W4,W5,W6,W7,W8,W9,Wa,Wb,Wc,Wd,We,Wf,Wg,Wh,Wi,Value.oneCell',Wj,Wk,Wl,Wm,true_and,and_true,and_self,implies_true,Wn,Wo,Wp,Wq,false_implies,Wr,Ws,Wt,Wu,Wv,Ww,Wx,Wy,Wz,V0,V1,V2,V3,V4,V5,V6,V7,reduceCtorEq,if_true,if_false,V8,↓reduceIte,V9,Va,Vb,Vc,Vd,Ve,ne_eq,not_false_eq_true,not_true_eq_false,Vf,Vg,r12_0,r12_1,r12_2,r12_3,r12_4,r12_5,r12_6,r12_7,r12_8,r12_9,r12_11,r12_12,r12_13,r12_15,r12_16,r12_14,r12_17,r12_10,r12_18,p12,l12_1,Par.av,gI,gK,gS,w1,hwk,hd,Zt,tms_len]) | (exfalso; omega)
        all_goals first | omega | exact again hJ2 (k + 1, j) (weak_mk (by simp only [Vh,Vi,Vj,Vk,Vl,Vm,Z0,Z1,Z2,Z3,Z4,Z5,Z6,Z7,Z8,Z9,Za,Zb,Zc,Zd,Ze,Zf,List.cons.injEq,Zg,Zh,Zi,Zj,Zk,Zl,Zm,Zn,Zo,Zp,beq_self_eq_true,bne_self_eq_false,decide_true,decide_false,Zq,Zr,Zs,Zt,Zu,Zv,Zw,Zx,Zy,Zz,Y0,Y1,Y2,Y3,Y4,Y5,Y6,Y7,Y8,Y9,Ya,Yb,Yc,Yd,Ye,Yf,Yg,Yh,Yi,Yj,Yk,Yl,lk,ef,Ym,Yn,Yo,Yp,Yq,Yr,Ys,Yt,Yu,Yv,Yw,Yx,Yy,Yz,X0,X1,X2,X3,X4,X5,X6,X7,X8,X9,Xa,Xb,Xc,Xd,Xe,Xf,Xg,Xh,Xi,Xj,Xk,hv,Xl,ev,Xm,Xn,Xo,Xp,Xq,Xr,Xs,Xt,Xu,Xv,Xw,Xx,Xy,Xz,W0,W1,W2,W3,W4,W5,W6,W7,W8,W9,Wa,Wb,Wc,Wd,We,Wf,Wg,Wh,Wi,Value.oneCell',Wj,Wk,Wl,Wm,true_and,and_true,and_self,implies_true,Wn,Wo,Wp,Wq,false_implies,Wr,Ws,Wt,Wu,Wv,Ww,Wx,Wy,Wz,V0,V1,V2,V3,V4,V5,V6,V7,reduceCtorEq,if_true,if_false,V8,↓reduceIte,V9,Va,Vb,Vc,Vd,Ve,ne_eq,not_false_eq_true,not_true_eq_false,Vf,Nat.zero_ne_one]; first | done | rfl)) ⟨h1, by simp only; omega, by simp only; omega, h4, h5n⟩ (by simp only; omega)
    have hke : k = l.length := by omega
    subst hke
    clear hJ2
    have hnx := hP.fromAt hG h1 h2 h4 h5
    have eM : (if m < szN l j - szN l i then szN l j - szN l i else m) = max m (szN l j - szN l i) := by omega
    repeat' first | ((with_reducible (first | refine condD ?_ ?_ | refine condE ?_ ?_ | refine condN ?_ ?_ | refine condI ?_ ?_ | refine condS ?_ ?_)) <;> intro h) | ((with_reducible (first | refine guardD (by with_unfolding_all rfl) ?_ ?_ | refine guardE (by with_unfolding_all rfl) ?_ ?_ | refine guardN (by with_unfolding_all rfl) ?_ ?_ | refine guardI (by with_unfolding_all rfl) ?_ ?_ | refine guardS (by with_unfolding_all rfl) ?_ ?_)) <;> intro h) | (with_reducible refine And.intro ?_ ?_; omega) | (simp only [Z0,Z1,Z2,Z3,Z4,Z5,Z6,Z7,Z8,Z9,Za,Zb,Zc,Zd,Ze,Zf,List.cons.injEq,Zg,Zh,Zi,Zj,Zk,Zl,Zm,Zn,Zo,Zp,beq_self_eq_true,bne_self_eq_false,decide_true,decide_false,Zq,Zr,Zs,Zt,Zu,Zv,Zw,Zx,Zy,Zz,Y0,Y1,Y2,Y3,Y4,Y5,Y6,Y7,Y8,Y9,Ya,Yb,Yc,Yd,Ye,Yf,Yg,Yh,Yi,Yj,Yk,Yl,lk,ef,Ym,Yn,Yo,Yp,Yq,Yr,Ys,Yt,Yu,Yv,Yw,Yx,Yy,Yz,X0,X1,X2,X3,X4,X5,X6,X7,X8,X9,Xa,Xb,Xc,Xd,Xe,Xf,Xg,Xh,Xi,Xj,Xk,hv,Xl,ev,Xm,Xn,Xo,Xp,Xq,Xr,Xs,Xt,Xu,Xv,Xw,Xx,Xy,Xz,W0,W1,W2,W3,W4,W5,W6,W7,W8,W9,Wa,Wb,Wc,Wd,We,Wf,Wg,Wh,Wi,Value.oneCell',Wj,Wk,Wl,Wm,true_and,and_true,and_self,implies_true,Wn,Wo,Wp,Wq,false_implies,Wr,Ws,Wt,Wu,Wv,Ww,Wx,Wy,Wz,V0,V1,V2,V3,V4,V5,V6,V7,reduceCtorEq,if_true,if_false,V8,↓reduceIte,V9,Va,Vb,Vc,Vd,Ve,ne_eq,not_false_eq_true,not_true_eq_false,Vf,Vg,r12_0,r12_1,r12_2,r12_3,r12_4,r12_5,r12_6,r12_7,r12_8,r12_9,r12_11,r12_12,r12_13,r12_15,r12_16,r12_14,r12_17,r12_10,r12_18,p12,l12_1,Par.av,hw]) | (exfalso; omega)
    all_goals first | omega | exact again hJ (i + 1, max m (szN l j - szN l i)) (weak_mk (by simp only [Vh,Vi,Vj,Vk,Vl,Vm,Z0,Z1,Z2,Z3,Z4,Z5,Z6,Z7,Z8,Z9,Za,Zb,Zc,Zd,Ze,Zf,List.cons.injEq,Zg,Zh,Zi,Zj,Zk,Zl,Zm,Zn,Zo,Zp,beq_self_eq_true,bne_self_eq_false,decide_true,decide_false,Zq,Zr,Zs,Zt,Zu,Zv,Zw,Zx,Zy,Zz,Y0,Y1,Y2,Y3,Y4,Y5,Y6,Y7,Y8,Y9,Ya,Yb,Yc,Yd,Ye,Yf,Yg,Yh,Yi,Yj,Yk,Yl,lk,ef,Ym,Yn,Yo,Yp,Yq,Yr,Ys,Yt,Yu,Yv,Yw,Yx,Yy,Yz,X0,X1,X2,X3,X4,X5,X6,X7,X8,X9,Xa,Xb,Xc,Xd,Xe,Xf,Xg,Xh,Xi,Xj,Xk,hv,Xl,ev,Xm,Xn,Xo,Xp,Xq,Xr,Xs,Xt,Xu,Xv,Xw,Xx,Xy,Xz,W0,W1,W2,W3,W4,W5,W6,W7,W8,W9,Wa,Wb,Wc,Wd,We,Wf,Wg,Wh,Wi,Value.oneCell',Wj,Wk,Wl,Wm,true_and,and_true,and_self,implies_true,Wn,Wo,Wp,Wq,false_implies,Wr,Ws,Wt,Wu,Wv,Ww,Wx,Wy,Wz,V0,V1,V2,V3,V4,V5,V6,V7,reduceCtorEq,if_true,if_false,V8,↓reduceIte,V9,Va,Vb,Vc,Vd,Ve,ne_eq,not_false_eq_true,not_true_eq_false,Vf,Nat.zero_ne_one]; first | done | exact ⟨rfl, eM⟩ | exact eM | rfl)) ⟨by simp only; omega, hnx⟩ (by simp only; omega)
  have hke : i = l.length := by omega
  subst hke
  clear hJ
  have e1 := PkTo.one (hP.weak (q := fun _ _ => True) fun i k a h _ => by omega) hV
  subst e1
  repeat' first | ((with_reducible (first | refine condD ?_ ?_ | refine condE ?_ ?_ | refine condN ?_ ?_ | refine condI ?_ ?_ | refine condS ?_ ?_)) <;> intro h) | ((with_reducible (first | refine guardD (by with_unfolding_all rfl) ?_ ?_ | refine guardE (by with_unfolding_all rfl) ?_ ?_ | refine guardN (by with_unfolding_all rfl) ?_ ?_ | refine guardI (by with_unfolding_all rfl) ?_ ?_ | refine guardS (by with_unfolding_all rfl) ?_ ?_)) <;> intro h) | (with_reducible refine And.intro ?_ ?_; omega) | (simp only [Z0,Z1,Z2,Z3,Z4,Z5,Z6,Z7,Z8,Z9,Za,Zb,Zc,Zd,Ze,Zf,List.cons.injEq,Zg,Zh,Zi,Zj,Zk,Zl,Zm,Zn,Zo,Zp,beq_self_eq_true,bne_self_eq_false,decide_true,decide_false,Zq,Zr,Zs,Zt,Zu,Zv,Zw,Zx,Zy,Zz,Y0,Y1,Y2,Y3,Y4,Y5,Y6,Y7,Y8,Y9,Ya,Yb,Yc,Yd,Ye,Yf,Yg,Yh,Yi,Yj,Yk,Yl,lk,ef,Ym,Yn,Yo,Yp,Yq,Yr,Ys,Yt,Yu,Yv,Yw,Yx,Yy,Yz,X0,X1,X2,X3,X4,X5,X6,X7,X8,X9,Xa,Xb,Xc,Xd,Xe,Xf,Xg,Xh,Xi,Xj,Xk,hv,Xl,ev,Xm,Xn,Xo,Xp,Xq,Xr,Xs,Xt,Xu,Xv,Xw,Xx,Xy,Xz,W0,W1,W2,W3,W4,W5,W6,W7,W8,W9,Wa,Wb,Wc,Wd,We,Wf,Wg,Wh,Wi,Value.oneCell',Wj,Wk,Wl,Wm,true_and,and_true,and_self,implies_true,Wn,Wo,Wp,Wq,false_implies,Wr,Ws,Wt,Wu,Wv,Ww,Wx,Wy,Wz,V0,V1,V2,V3,V4,V5,V6,V7,reduceCtorEq,if_true,if_false,V8,↓reduceIte,V9,Va,Vb,Vc,Vd,Ve,ne_eq,not_false_eq_true,not_true_eq_false,Vf,Vg,r12_0,r12_1,r12_2,r12_3,r12_4,r12_5,r12_6,r12_7,r12_8,r12_9,r12_11,r12_12,r12_13,r12_15,r12_16,r12_14,r12_17,r12_10,r12_18,p12,l12_0]) | (exfalso; omega)
/-! headend/headendref3.Fullness -/
def r16_0 : List POp := [⟨3, .boxs (.t 0), none⟩,
  ⟨6, .asg (.c (.int .i64 0)), none⟩,
  ⟨7, .asg (.c (.int .i64 0)), none⟩]
def r16_1 : List POp := [⟨15, .loads 2 (.t 3), none⟩,
  ⟨16, .call 22 [.t 15], none⟩,
  ⟨8, .asg (.t 16), none⟩]
def r16_2 : List POp := [⟨17, .mv (.t 8), none⟩,
  ⟨18, .bin .neq (.t 17) (.c (.int .i64 0)), none⟩]
def r16_3 : List POp := [⟨19, .mv (.t 8), none⟩,
  ⟨6, .mv (.c (.int .i64 0)), none⟩,
  ⟨7, .mv (.t 19), none⟩]
def r16_4 : List POp := [⟨20, .mv (.t 1), none⟩,
  ⟨21, .bin .lss (.t 20) (.c (.int .i64 1)), none⟩,
  ⟨22, .mv (.t 21), none⟩,
  ⟨23, .mv (.t 1), some (22, false)⟩,
  ⟨24, .bin .gtr (.t 23) (.c (.int .i64 1000000000)), some (22, false)⟩,
  ⟨25, .pick (.t 22) (.c (.bool true)) (.t 24), none⟩,
  ⟨26, .mv (.t 25), none⟩,
  ⟨27, .mv (.t 2), some (26, false)⟩,
  ⟨28, .bin .lss (.t 27) (.c (.int .i64 0)), some (26, false)⟩,
  ⟨29, .pick (.t 26) (.c (.bool true)) (.t 28), none⟩,
  ⟨30, .mv (.t 29), none⟩,
  ⟨31, .mv (.t 2), some (30, false)⟩,
  ⟨32, .bin .gtr (.t 31) (.c (.int .i64 1000000000000)), some (30, false)⟩,
  ⟨33, .pick (.t 30) (.c (.bool true)) (.t 32), none⟩]
def r16_5 : List POp := [⟨6, .asg (.c (.int .i64 0)), none⟩,
  ⟨7, .asg (.c (.int .i64 1)), none⟩]
def r16_6 : List POp := [⟨34, .mv (.t 2), none⟩,
  ⟨35, .loads 2 (.t 3), none⟩,
  ⟨36, .mv (.t 1), none⟩,
  ⟨37, .call 33 [.t 35, .t 36], none⟩,
  ⟨38, .bin .lss (.t 34) (.t 37), none⟩]
def r16_7 : List POp := [⟨6, .asg (.c (.int .i64 0)), none⟩,
  ⟨7, .asg (.c (.int .i64 11)), none⟩]
def r16_8 : List POp := [⟨39, .loads 2 (.t 3), none⟩,
  ⟨40, .call 31 [.t 39], none⟩,
  ⟨41, .loads 2 (.t 3), none⟩,
  ⟨42, .call 34 [.t 41], none⟩,
  ⟨9, .asg (.t 40), none⟩,
  ⟨10, .asg (.t 42), none⟩]
def r16_9 : List POp := [⟨11, .asg (.c (.int .i64 0)), none⟩]
def r16_10 : List POp := [⟨12, .asg (.c (.int .i64 0)), none⟩]
def r16_11 : List POp := [⟨43, .mv (.t 12), none⟩,
  ⟨44, .mv (.t 9), none⟩,
  ⟨45, .len (.t 44), none⟩,
  ⟨46, .bin .lss (.t 43) (.t 45), none⟩]
def r16_13 : List POp := [⟨49, .mv (.t 1), none⟩,
  ⟨50, .call 30 [.t 49], none⟩,
  ⟨51, .mv (.t 2), none⟩,
  ⟨52, .mv (.t 9), none⟩,
  ⟨53, .mv (.t 12), none⟩,
  ⟨54, .idx 1 (.t 52) (.t 53), none⟩,
  ⟨55, .load (.t 54), none⟩,
  ⟨56, .bin .add (.t 51) (.t 55), none⟩,
  ⟨57, .call 30 [.t 56], none⟩,
  ⟨58, .call 29 [.t 50, .t 57], none⟩,
  ⟨59, .fld 0 (.t 3), none⟩,
  ⟨60, .load (.t 59), none⟩,
  ⟨61, .call 30 [.t 60], none⟩,
  ⟨62, .call 28 [.t 58, .t 61], none⟩,
  ⟨63, .call 27 [.t 62, .c (.int .i64 1)], none⟩,
  ⟨13, .asg (.t 63), none⟩]
def r16_14 : List POp := [⟨64, .mv (.t 13), none⟩,
  ⟨65, .mv (.t 10), none⟩,
  ⟨66, .mv (.t 10), none⟩,
  ⟨67, .len (.t 66), none⟩,
  ⟨68, .bin .sub (.t 67) (.c (.int .i64 1)), none⟩,
  ⟨69, .idx 1 (.t 65) (.t 68), none⟩,
  ⟨70, .load (.t 69), none⟩,
  ⟨71, .minmax false (.t 64) (.t 70), none⟩,
  ⟨14, .asg (.t 71), none⟩]
def r16_15 : List POp := [⟨72, .mv (.t 12), none⟩,
  ⟨73, .bin .gtr (.t 72) (.c (.int .i64 0)), none⟩]
def r16_16 : List POp := [⟨74, .mv (.t 14), none⟩,
  ⟨75, .mv (.t 10), none⟩,
  ⟨76, .mv (.t 12), none⟩,
  ⟨77, .bin .sub (.t 76) (.c (.int .i64 1)), none⟩,
  ⟨78, .idx 1 (.t 75) (.t 77), none⟩,
  ⟨79, .load (.t 78), none⟩,
  ⟨80, .bin .sub (.t 74) (.t 79), none⟩,
  ⟨14, .asg (.t 80), none⟩]
def r16_17 : List POp := [⟨81, .mv (.t 11), none⟩,
  ⟨82, .mv (.t 14), none⟩,
  ⟨83, .minmax true (.t 81) (.t 82), none⟩,
  ⟨11, .asg (.t 83), none⟩]
def r16_12 : List POp := [⟨47, .mv (.t 12), none⟩,
  ⟨48, .bin .add (.t 47) (.c (.int .i64 1)), none⟩,
  ⟨12, .asg (.t 48), none⟩]
def r16_18 : List POp := [⟨84, .mv (.t 11), none⟩,
  ⟨6, .asg (.t 84), none⟩,
  ⟨7, .asg (.c (.int .i64 0)), none⟩]
def l16_0 : PCode := .seq (.seq (.ops r16_11) (.cond (.t 46) (.skip) (.exit 0))) (.seq (.block 1 (.seq (.ops r16_13) (.seq (.ops r16_14) (.seq (.seq (.ops r16_15) (.cond (.t 73) (.ops r16_16) (.skip))) (.ops r16_17))))) (.ops r16_12))
def p16 : PCode := .seq (.ops r16_0) (.seq (.seq (.ops r16_1) (.seq (.ops r16_2) (.cond (.t 18) (.seq (.ops r16_3) (.ret)) (.skip)))) (.seq (.seq (.ops r16_4) (.cond (.t 33) (.seq (.ops r16_5) (.ret)) (.skip))) (.seq (.seq (.ops r16_6) (.cond (.t 38) (.seq (.ops r16_7) (.ret)) (.skip))) (.seq (.ops r16_8) (.seq (.ops r16_9) (.seq (.seq (.ops r16_10) (.block 0 (.loop l16_0))) (.seq (.ops r16_18) (.ret))))))))
theorem ok16 : okFunc Tryd.prog 16 [.t 6, .t 7] 3 p16 = true := by kernel_rfl
set_option maxHeartbeats 1000000 in
theorem rfull_c (p : Par) (rate wait : Int) : CallOK Tryd.prog 16 [.agg p.av, .val (.int .i64 rate), .val (.int .i64 wait)] (.tup [.val (.int .i64 (fullF p rate wait).1), .val (.int .i64 (fullF p rate wait).2)]) := by
  refine call_of mixed ok16 rfl ?_
  have hp := rpar_c p
  by_cases h0 : parF p = 0
  case neg =>
    simp only [Par.av] at hp
    repeat' first | ((with_reducible (first | refine condD ?_ ?_ | refine condE ?_ ?_ | refine condN ?_ ?_ | refine condI ?_ ?_ | refine condS ?_ ?_)) <;> intro h) | ((with_reducible (first | refine guardD (by with_unfolding_all rfl) ?_ ?_ | refine guardE (by with_unfolding_all rfl) ?_ ?_ | refine guardN (by with_unfolding_all rfl) ?_ ?_ | refine guardI (by with_unfolding_all rfl) ?_ ?_ | refine guardS (by with_unfolding_all rfl) ?_ ?_)) <;> intro h) | ((refine callG hp ?_)) | (with_reducible refine And.intro ?_ ?_; omega) | (simp only [Z0,Z1,Z2,Z3,Z4,Z5,Z6,Z7,Z8,Z9,Za,Zb,Zc,Zd,Ze,Zf,List.cons.injEq,Zg,Zh,Zi,Zj,Zk,Zl,Zm,Zn,Zo,Zp,beq_self_eq_true,bne_self_eq_false,decide_true,decide_false,Zq,Zr,Zs,Zt,Zu,Zv,Zw,Zx,Zy,Zz,Y0,Y1,Y2,Y3,Y4,Y5,Y6,Y7,Y8,Y9,Ya,Yb,Yc,Yd,Ye,Yf,Yg,Yh,Yi,Yj,Yk,Yl,lk,ef,Ym,Yn,Yo,Yp,Yq,Yr,Ys,Yt,Yu,Yv,Yw,Yx,Yy,Yz,X0,X1,X2,X3,X4,X5,X6,X7,X8,X9,Xa,Xb,Xc,Xd,Xe,Xf,Xg,Xh,Xi,Xj,Xk,hv,Xl,ev,Xm,Xn,Xo,Xp,Xq,Xr,Xs,Xt,Xu,Xv,Xw,Xx,Xy,Xz,W0,W1,W2,W3,W4,W5,W6,W7,W8,W9,Wa,Wb,Wc,Wd,We,Wf,Wg,Wh,Wi,Value.oneCell',Wj,Wk,Wl,Wm,true_and,and_true,and_self,implies_true,Wn,Wo,Wp,Wq,false_implies,Wr,Ws,Wt,Wu,Wv,Ww,Wx,Wy,Wz,V0,V1,V2,V3,V4,V5,V6,V7,reduceCtorEq,if_true,if_false,V8,↓reduceIte,V9,Va,Vb,Vc,Vd,Ve,ne_eq,not_false_eq_true,not_true_eq_false,Vf,Vg,r16_0,r16_1,r16_2,r16_3,r16_4,r16_5,r16_6,r16_7,r16_8,r16_9,r16_10,r16_11,r16_13,r16_14,r16_15,r16_16,r16_17,r16_12,r16_18,p16,Par.av,bne0_t h0,beq0_f h0]) | (exfalso; omega)
    all_goals simp [fullF, h0]
  rw [h0] at hp
  simp only [Par.av] at hp
  by_cases hr : outB rate 1 1000000000 = true
  · have := outB_t hr
    rw [show fullF p rate wait = (0, 1) by simp [fullF, h0, hr]]
    repeat' first | ((with_reducible (first | refine condD ?_ ?_ | refine condE ?_ ?_ | refine condN ?_ ?_ | refine condI ?_ ?_ | refine condS ?_ ?_)) <;> intro h) | ((with_reducible (first | refine guardD (by with_unfolding_all rfl) ?_ ?_ | refine guardE (by with_unfolding_all rfl) ?_ ?_ | refine guardN (by with_unfolding_all rfl) ?_ ?_ | refine guardI (by with_unfolding_all rfl) ?_ ?_ | refine guardS (by with_unfolding_all rfl) ?_ ?_)) <;> intro h) | ((refine callG hp ?_)) | (with_reducible refine And.intro ?_ ?_; omega) | (simp only [Z0,Z1,Z2,Z3,Z4,Z5,Z6,Z7,Z8,Z9,Za,Zb,Zc,Zd,Ze,Zf,List.cons.injEq,Zg,Zh,Zi,Zj,Zk,Zl,Zm,Zn,Zo,Zp,beq_self_eq_true,bne_self_eq_false,decide_true,decide_false,Zq,Zr,Zs,Zt,Zu,Zv,Zw,Zx,Zy,Zz,Y0,Y1,Y2,Y3,Y4,Y5,Y6,Y7,Y8,Y9,Ya,Yb,Yc,Yd,Ye,Yf,Yg,Yh,Yi,Yj,Yk,Yl,lk,ef,Ym,Yn,Yo,Yp,Yq,Yr,Ys,Yt,Yu,Yv,Yw,Yx,Yy,Yz,X0,X1,X2,X3,X4,X5,X6,X7,X8,X9,Xa,Xb,Xc,Xd,Xe,Xf,Xg,Xh,Xi,Xj,Xk,hv,Xl,ev,Xm,Xn,Xo,Xp,Xq,Xr,Xs,Xt,Xu,Xv,Xw,Xx,Xy,Xz,W0,W1,W2,W3,W4,W5,W6,W7,W8,W9,Wa,Wb,Wc,Wd,We,Wf,Wg,Wh,Wi,Value.oneCell',Wj,Wk,Wl,Wm,true_and,and_true,and_self,implies_true,Wn,Wo,Wp,Wq,false_implies,Wr,Ws,Wt,Wu,Wv,Ww,Wx,Wy,Wz,V0,V1,V2,V3,V4,V5,V6,V7,reduceCtorEq,if_true,if_false,V8,↓reduceIte,V9,Va,Vb,Vc,Vd,Ve,ne_eq,not_false_eq_true,not_true_eq_false,Vf,Vg,r16_0,r16_1,r16_2,r16_3,r16_4,r16_5,r16_6,r16_7,r16_8,r16_9,r16_10,r16_11,r16_13,r16_14,r16_15,r16_16,r16_17,r16_12,r16_18,p16,Par.av]) | (exfalso; omega)
    all_goals first | done | (exfalso; omega)
  simp only [Bool.not_eq_true] at hr
  have br := outB_f hr
  have u1 : ¬ rate < 1 := by omega
  have u2 : ¬ 1000000000 < rate := by omega
  by_cases hr2 : outB wait 0 1000000000000 = true
  · have := outB_t hr2
    rw [show fullF p rate wait = (0, 1) by simp [fullF, h0, hr2]]
    repeat' first | ((with_reducible (first | refine condD ?_ ?_ | refine condE ?_ ?_ | refine condN ?_ ?_ | refine condI ?_ ?_ | refine condS ?_ ?_)) <;> intro h) | ((with_reducible (first | refine guardD (by with_unfolding_all rfl) ?_ ?_ | refine guardE (by with_unfolding_all rfl) ?_ ?_ | refine guardN (by with_unfolding_all rfl) ?_ ?_ | refine guardI (by with_unfolding_all rfl) ?_ ?_ | refine guardS (by with_unfolding_all rfl) ?_ ?_)) <;> intro h) | ((refine callG hp ?_)) | (with_reducible refine And.intro ?_ ?_; omega) | (simp only [Z0,Z1,Z2,Z3,Z4,Z5,Z6,Z7,Z8,Z9,Za,Zb,Zc,Zd,Ze,Zf,List.cons.injEq,Zg,Zh,Zi,Zj,Zk,Zl,Zm,Zn,Zo,Zp,beq_self_eq_true,bne_self_eq_false,decide_true,decide_false,Zq,Zr,Zs,Zt,Zu,Zv,Zw,Zx,Zy,Zz,Y0,Y1,Y2,Y3,Y4,Y5,Y6,Y7,Y8,Y9,Ya,Yb,Yc,Yd,Ye,Yf,Yg,Yh,Yi,Yj,Yk,Yl,lk,ef,Ym,Yn,Yo,Yp,Yq,Yr,Ys,Yt,Yu,Yv,Yw,Yx,Yy,Yz,X0,X1,X2,X3,X4,X5,X6,X7,X8,X9,Xa,Xb,Xc,Xd,Xe,Xf,Xg,Xh,Xi,Xj,Xk,hv,Xl,ev,Xm,Xn,Xo,Xp,Xq,Xr,Xs,Xt,Xu,Xv,Xw,Xx,Xy,Xz,W0,W1,W2,W3,W4,W5,W6,W7,W8,W9,Wa,Wb,Wc,Wd,We,Wf,Wg,Wh,Wi,Value.oneCell',Wj,Wk,Wl,Wm,true_and,and_true,and_self,implies_true,Wn,Wo,Wp,Wq,false_implies,Wr,Ws,Wt,Wu,Wv,Ww,Wx,Wy,Wz,V0,V1,V2,V3,V4,V5,V6,V7,reduceCtorEq,if_true,if_false,V8,↓reduceIte,V9,Va,Vb,Vc,Vd,Ve,ne_eq,not_false_eq_true,not_true_eq_false,Vf,Vg,r16_0,r16_1,r16_2,r16_3,r16_4,r16_5,r16_6,r16_7,r16_8,r16_9,r16_10,r16_11,r16_13,r16_14,r16_15,r16_16,r16_17,r16_12,r16_18,p16,Par.av,u1,u2]) | (exfalso; omega)
    all_goals first | done | (exfalso; omega)
  simp only [Bool.not_eq_true] at hr2
  have bw := outB_f hr2
  have u3 : ¬ wait < 0 := by omega
  have u4 : ¬ 1000000000000 < wait := by omega
  have hd := rdelay_c p rate h0 hr
  simp only [Par.av] at hd
  by_cases hw0 : wait < delayF p rate
  · rw [show fullF p rate wait = (0, 11) by simp [fullF, h0, hr, hr2, hw0]]
    repeat' first | ((with_reducible (first | refine condD ?_ ?_ | refine condE ?_ ?_ | refine condN ?_ ?_ | refine condI ?_ ?_ | refine condS ?_ ?_)) <;> intro h) | ((with_reducible (first | refine guardD (by with_unfolding_all rfl) ?_ ?_ | refine guardE (by with_unfolding_all rfl) ?_ ?_ | refine guardN (by with_unfolding_all rfl) ?_ ?_ | refine guardI (by with_unfolding_all rfl) ?_ ?_ | refine guardS (by with_unfolding_all rfl) ?_ ?_)) <;> intro h) | ((refine callG hp ?_)) | ((refine callG hd ?_)) | (with_reducible refine And.intro ?_ ?_; omega) | (simp only [Z0,Z1,Z2,Z3,Z4,Z5,Z6,Z7,Z8,Z9,Za,Zb,Zc,Zd,Ze,Zf,List.cons.injEq,Zg,Zh,Zi,Zj,Zk,Zl,Zm,Zn,Zo,Zp,beq_self_eq_true,bne_self_eq_false,decide_true,decide_false,Zq,Zr,Zs,Zt,Zu,Zv,Zw,Zx,Zy,Zz,Y0,Y1,Y2,Y3,Y4,Y5,Y6,Y7,Y8,Y9,Ya,Yb,Yc,Yd,Ye,Yf,Yg,Yh,Yi,Yj,Yk,Yl,lk,ef,Ym,Yn,Yo,Yp,Yq,Yr,Ys,Yt,Yu,Yv,Yw,Yx,Yy,Yz,X0,X1,X2,X3,X4,X5,X6,X7,X8,X9,Xa,Xb,Xc,Xd,Xe,Xf,Xg,Xh,Xi,Xj,Xk,hv,Xl,ev,Xm,Xn,Xo,Xp,Xq,Xr,Xs,Xt,Xu,Xv,Xw,Xx,Xy,Xz,W0,W1,W2,W3,W4,W5,W6,W7,W8,W9,Wa,Wb,Wc,Wd,We,Wf,Wg,Wh,Wi,Value.oneCell',Wj,Wk,Wl,Wm,true_and,and_true,and_self,implies_true,Wn,Wo,Wp,Wq,false_implies,Wr,Ws,Wt,Wu,Wv,Ww,Wx,Wy,Wz,V0,V1,V2,V3,V4,V5,V6,V7,reduceCtorEq,if_true,if_false,V8,↓reduceIte,V9,Va,Vb,Vc,Vd,Ve,ne_eq,not_false_eq_true,not_true_eq_false,Vf,Vg,r16_0,r16_1,r16_2,r16_3,r16_4,r16_5,r16_6,r16_7,r16_8,r16_9,r16_10,r16_11,r16_13,r16_14,r16_15,r16_16,r16_17,r16_12,r16_18,p16,Par.av,u1,u2,u3,u4,hw0]) | (exfalso; omega)
  obtain ⟨hl, hb, s1, s2, ht⟩ := par_facts h0
  have hF : fullF p rate wait = (fulGo (p.smps.headD ⟨0, 0, 0, 0, false⟩).time p.scale rate wait (sizes p.smps) 0 0 p.smps, 0) := by simp [fullF, h0, hr, hr2, hw0]
  obtain ⟨t0, ht0⟩ : ∃ t0, t0 = (p.smps.headD ⟨0, 0, 0, 0, false⟩).time := ⟨_, rfl⟩
  rw [← ht0] at ht hF
  obtain ⟨scale, l⟩ := p
  simp only at hl hb s1 s2 ht hF ht0 hp
  have bA := sizes_bd hb
  have eZ : sizes l = szN l l.length := by unfold szN; rw [List.take_length]
  have hti := times_r scale l hl hb
  have hsu := sums_r scale l hl hb
  simp only [Par.av] at hti hsu
  rw [eZ] at hF bA
  repeat' first | ((with_reducible (first | refine condD ?_ ?_ | refine condE ?_ ?_ | refine condN ?_ ?_ | refine condI ?_ ?_ | refine condS ?_ ?_)) <;> intro h) | ((with_reducible (first | refine guardD (by with_unfolding_all rfl) ?_ ?_ | refine guardE (by with_unfolding_all rfl) ?_ ?_ | refine guardN (by with_unfolding_all rfl) ?_ ?_ | refine guardI (by with_unfolding_all rfl) ?_ ?_ | refine guardS (by with_unfolding_all rfl) ?_ ?_)) <;> intro h) | ((refine callG hp ?_)) | ((refine callG hd ?_)) | ((refine callG hti ?_)) | ((refine callG hsu ?_)) | (with_reducible refine And.intro ?_ ?_; omega) | (simp only [Z0,Z1,Z2,Z3,Z4,Z5,Z6,Z7,Z8,Z9,Za,Zb,Zc,Zd,Ze,Zf,List.cons.injEq,Zg,Zh,Zi,Zj,Zk,Zl,Zm,Zn,Zo,Zp,beq_self_eq_true,bne_self_eq_false,decide_true,decide_false,Zq,Zr,Zs,Zt,Zu,Zv,Zw,Zx,Zy,Zz,Y0,Y1,Y2,Y3,Y4,Y5,Y6,Y7,Y8,Y9,Ya,Yb,Yc,Yd,Ye,Yf,Yg,Yh,Yi,Yj,Yk,Yl,lk,ef,Ym,Yn,Yo,Yp,Yq,Yr,Ys,Yt,Yu,Yv,Yw,Yx,Yy,Yz,X0,X1,X2,X3,X4,X5,X6,X7,X8,X9,Xa,Xb,Xc,Xd,Xe,Xf,Xg,Xh,Xi,Xj,Xk,hv,Xl,ev,Xm,Xn,Xo,Xp,Xq,Xr,Xs,Xt,Xu,Xv,Xw,Xx,Xy,Xz,W0,W1,W2,W3,W4,W5,W6,W7,W8,W9,Wa,Wb,Wc,Wd,We,Wf,Wg,Wh,Wi,Value.oneCell',Wj,Wk,Wl,Wm,true_and,and_true,and_self,implies_true,Wn,Wo,Wp,Wq,false_implies,Wr,Ws,Wt,Wu,Wv,Ww,Wx,Wy,Wz,V0,V1,V2,V3,V4,V5,V6,V7,reduceCtorEq,if_true,if_false,V8,↓reduceIte,V9,Va,Vb,Vc,Vd,Ve,ne_eq,not_false_eq_true,not_true_eq_false,Vf,Vg,r16_0,r16_1,r16_2,r16_3,r16_4,r16_5,r16_6,r16_7,r16_8,r16_9,r16_10,r16_11,r16_13,r16_14,r16_15,r16_16,r16_17,r16_12,r16_18,p16,Par.av,u1,u2,u3,u4,hw0]) | (exfalso; omega)
  refine loopS (fun q : Nat × Int => mk [(1, .val (.int .i64 rate)), (2, .val (.int .i64 wait)), (3, .box (Par.av ⟨scale, l⟩)), (9, .ro ((tms l).map oneI)), (10, .ro ((sms l).map oneI)), (11, .val (.int .i64 q.2)), (12, .val (.int .i64 (q.1 : Nat)))])
    (fun q => q.1 ≤ l.length ∧ 0 ≤ q.2 ∧ fullF ⟨scale, l⟩ rate wait = (fulGo t0 scale rate wait (szN l l.length) q.2 (szN l q.1) (l.drop q.1), 0)) (fun q => l.length - q.1) (0, 0) (weak_mk ?_) ⟨Nat.zero_le _, Int.le_refl _, by rw [szN_0]; simpa using hF⟩ ?_
  · simp only [Vh,Vi,Vj,Vk,Vl,Vm,Z0,Z1,Z2,Z3,Z4,Z5,Z6,Z7,Z8,Z9,Za,Zb,Zc,Zd,Ze,Zf,List.cons.injEq,Zg,Zh,Zi,Zj,Zk,Zl,Zm,Zn,Zo,Zp,beq_self_eq_true,bne_self_eq_false,decide_true,decide_false,Zq,Zr,Zs,Zt,Zu,Zv,Zw,Zx,Zy,Zz,Y0,Y1,Y2,Y3,Y4,Y5,Y6,Y7,Y8,Y9,Ya,Yb,Yc,Yd,Ye,Yf,Yg,Yh,Yi,Yj,Yk,Yl,lk,ef,Ym,Yn,Yo,Yp,Yq,Yr,Ys,Yt,Yu,Yv,Yw,Yx,Yy,Yz,X0,X1,X2,X3,X4,X5,X6,X7,X8,X9,Xa,Xb,Xc,Xd,Xe,Xf,Xg,Xh,Xi,Xj,Xk,hv,Xl,ev,Xm,Xn,Xo,Xp,Xq,Xr,Xs,Xt,Xu,Xv,Xw,Xx,Xy,Xz,W0,W1,W2,W3,W4,W5,W6,W7,W8,W9,Wa,Wb,Wc,Wd,We,Wf,Wg,Wh,Wi,Value.oneCell',Wj,Wk,Wl,Wm,true_and,and_true,and_self,implies_true,Wn,Wo,Wp,Wq,false_implies,Wr,Ws,Wt,Wu,Wv,Ww,Wx,Wy,Wz,V0,V1,V2,V3,V4,V5,V6,V7,reduceCtorEq,if_true,if_false,V8,↓reduceIte,V9,Va,Vb,Vc,Vd,Ve,ne_eq,not_false_eq_true,not_true_eq_false,Vf,Nat.zero_ne_one]
    first | done | simp [Par.av]
  rintro J hJ ⟨k, m⟩ ⟨hk, hm0, hg⟩
  simp only at hk hm0 hg
  simp only [Z0,Z1,Z2,Z3,Z4,Z5,Z6,Z7,Z8,Z9,Za,Zb,Zc,Zd,Ze,Zf,List.cons.injEq,Zg,Zh,Zi,Zj,Zk,Zl,Zm,Zn,Zo,Zp,beq_self_eq_true,bne_self_eq_false,decide_true,decide_false,Zq,Zr,Zs,Zt,Zu,Zv,Zw,Zx,Zy,Zz,Y0,Y1,Y2,Y3,Y4,Y5,Y6,Y7,Y8,Y9,Ya,Yb,Yc,Yd,Ye,Yf,Yg,Yh,Yi,Yj,Yk,Yl,lk,ef,Ym,Yn,Yo,Yp,Yq,Yr,Ys,Yt,Yu,Yv,Yw,Yx,Yy,Yz,X0,X1,X2,X3,X4,X5,X6,X7,X8,X9,Xa,Xb,Xc,Xd,Xe,Xf,Xg,Xh,Xi,Xj,Xk,hv,Xl,ev,Xm,Xn,Xo,Xp,Xq,Xr,Xs,Xt,Xu,Xv,Xw,Xx,Xy,Xz,W0,W1,W2,W3,W4,W5,W6,W7,W8,W9,Wa,Wb,Wc,Wd,We,Wf,Wg,Wh,Wi,Value.oneCell',Wj,Wk,Wl,Wm,true_and,and_true,and_self,implies_true,Wn,Wo,Wp,Wq,false_implies,Wr,Ws,Wt,Wu,Wv,Ww,Wx,Wy,Wz,V0,V1,V2,V3,V4,V5,V6,V7,reduceCtorEq,if_true,if_false,V8,↓reduceIte,V9,Va,Vb,Vc,Vd,Ve,ne_eq,not_false_eq_true,not_true_eq_false,Vf,Vg,r16_0,r16_1,r16_2,r16_3,r16_4,r16_5,r16_6,r16_7,r16_8,r16_9,r16_10,r16_11,r16_13,r16_14,r16_15,r16_16,r16_17,r16_12,r16_18,p16,l16_0,Zt,tms_len,sms_len]
  refine condD (fun h => ?_) (fun h => ?_)
  · have hlt : k < l.length := by omega
    have hlt0 : 0 < l.length := by omega
    have hln : l.length - 1 < l.length := by omega
    have hw := i_add1 k (by omega)
    have hs := szN_succ hlt
    have b2 := badSmp_bd (hb l[k] (List.getElem_mem hlt))
    have hszb : ∀ j, j ≤ l.length → 0 ≤ szN l j ∧ szN l j ≤ 500000000 := fun j hj => by
      have := sizes_bd (l := l.take j) fun s hs => hb s (List.mem_of_mem_take hs)
      rw [List.length_take, Nat.min_eq_left hj] at this
      unfold szN
      omega
    have bk := hszb k hk
    have bn := hszb l.length (Nat.le_refl _)
    have t1 := ht k hlt
    have e0 : tmN l 0 = t0 := by rw [ht0]; exact (hd_tm hlt0).symm
    rw [List.drop_eq_getElem_cons hlt, fulGo, ← hs] at hg
    have gT := tms_get hlt
    rw [e0] at gT
    have gN := sms_get hln
    rw [show l.length - 1 + 1 = l.length by omega] at gN
    have wn : IntKind.i64.wrap ((l.length : Int) - 1) = ((l.length - 1 : Nat) : Int) := by rw [wrap_in (by omega) (by omega)]; omega
    have v1 : IntKind.i64.wrap (wait + (l[k].time - t0)) = wait + l[k].time - t0 := by rw [wrap_in (by omega) (by omega)]; omega
    obtain ⟨B, hB⟩ : ∃ B : Nat, wait + l[k].time - t0 = B := ⟨(wait + l[k].time - t0).toNat, by omega⟩
    obtain ⟨S, hS⟩ : ∃ S : Nat, scale = S := ⟨scale.toNat, by omega⟩
    obtain ⟨D, hD⟩ : ∃ D : Nat, rate = D := ⟨rate.toNat, by omega⟩
    obtain ⟨X, Y, Z, U, V, x1, x2, x3, x4, x5, x6⟩ := chain_dn D B S (by omega) (by omega) (by omega) (by omega)
    rw [hB] at v1
    rw [hB, hS, hD] at hg
    simp only [Int.toNat_natCast] at hg
    rw [← hD] at x1
    rw [← hS] at x3
    rw [Nat.mul_comm B D] at hg
    have bC : min (D * B / S) 4611686018427387904 ≤ 4611686018427387904 := Nat.min_le_right _ _
    have eC : min (szN l l.length) ((min (D * B / S) 1152921504606846976 : Nat) : Int) = min (szN l l.length) ((min (D * B / S) 4611686018427387904 : Nat) : Int) := by omega
    rw [eC] at hg
    generalize min (D * B / S) 4611686018427387904 = C at *
    have eN : (if szN l l.length < (C : Int) then szN l l.length else (C : Int)) = min (szN l l.length) (C : Int) := by omega
    have eN2 : (if (C : Int) < szN l l.length then (C : Int) else szN l l.length) = min (szN l l.length) (C : Int) := by omega
    obtain ⟨M, hM⟩ : ∃ M, M = min (szN l l.length) (C : Int) := ⟨_, rfl⟩
    rw [← hM] at hg eN eN2
    have bM : 0 ≤ M ∧ M ≤ 500000000 := by omega
    have hgn : fullF ⟨scale, l⟩ rate wait = (fulGo t0 scale rate wait (szN l l.length) (max m (M - szN l k)) (szN l (k + 1)) (l.drop (k + 1)), 0) := by rw [hS, hD]; exact hg
    by_cases hk0 : 0 < k
    · have hk0i : (0 : Int) < k := by omega
      have hlp : k - 1 < l.length := by omega
      have gP := sms_get hlp
      rw [show k - 1 + 1 = k by omega] at gP
      have wk' : IntKind.i64.wrap ((k : Int) - 1) = ((k - 1 : Nat) : Int) := by rw [wrap_in (by omega) (by omega)]; omega
      have v3 : IntKind.i64.wrap (M - szN l k) = M - szN l k := wrap_in (by omega) (by omega)
      have eM : (if m < M - szN l k then M - szN l k else m) = max m (M - szN l k) := by omega
      repeat' first | ((with_reducible (first | refine condD ?_ ?_ | refine condE ?_ ?_ | refine condN ?_ ?_ | refine condI ?_ ?_ | refine condS ?_ ?_)) <;> intro h) | ((with_reducible (first | refine guardD (by with_unfolding_all rfl) ?_ ?_ | refine guardE (by with_unfolding_all rfl) ?_ ?_ | refine guardN (by with_unfolding_all rfl) ?_ ?_ | refine guardI (by with_unfolding_all rfl) ?_ ?_ | refine guardS (by with_unfolding_all rfl) ?_ ?_)) <;> intro h) | ((refine callG x1 ?_)) | ((refine callG x2 ?_)) | ((refine callG x3 ?_)) | ((refine callG x4 ?_)) | ((refine callG x5 ?_)) | ((refine callG x6 ?_)) | (with_reducible refine And.intro ?_ ?_; omega) | (simp only [Z0,Z1,Z2,Z3,Z4,Z5,Z6,Z7,Z8,Z9,Za,Zb,Zc,Zd,Ze,Zf,List.cons.injEq,Zg,Zh,Zi,Zj,Zk,Zl,Zm,Zn,Zo,Zp,beq_self_eq_true,bne_self_eq_false,decide_true,decide_false,Zq,Zr,Zs,Zt,Zu,Zv,Zw,Zx,Zy,Zz,Y0,Y1,Y2,Y3,Y4,Y5,Y6,Y7,Y8,Y9,Ya,Yb,Yc,Yd,Ye,Yf,Yg,Yh,Yi,Yj,Yk,Yl,lk,ef,Ym,Yn,Yo,Yp,Yq,Yr,Ys,Yt,Yu,Yv,Yw,Yx,Yy,Yz,X0,X1,X2,X3,X4,X5,X6,X7,X8,X9,Xa,Xb,Xc,Xd,Xe,Xf,Xg,Xh,Xi,Xj,Xk,hv,Xl,ev,Xm,Xn,Xo,Xp,Xq,Xr,Xs,Xt,Xu,Xv,Xw,Xx,Xy,Xz,W0,W1,W2,W3,W4,W5,W6,W7,W8,W9,Wa,Wb,Wc,Wd,We,Wf,Wg,Wh,Wi,Value.oneCell',Wj,Wk,Wl,Wm,true_and,and_true,and_self,implies_true,Wn,Wo,Wp,Wq,false_implies,Wr,Ws,Wt,Wu,Wv,Ww,Wx,Wy,Wz,V0,V1,V2,V3,V4,V5,V6,V7,reduceCtorEq,if_true,if_false,V8,↓reduceIte,V9,Va,Vb,Vc,Vd,Ve,ne_eq,not_false_eq_true,not_true_eq_false,Vf,Vg,r16_0,r16_1,r16_2,r16_3,r16_4,r16_5,r16_6,r16_7,r16_8,r16_9,r16_10,r16_11,r16_13,r16_14,r16_15,r16_16,r16_17,r16_12,r16_18,p16,l16_0,Par.av,gT,gN,gP,wn,wk',v1,v3,hw,eN,eN2,hk0i,Zt,tms_len,sms_len]) | (exfalso; omega)
      all_goals first | omega | exact again hJ (k + 1, max m (M - szN l k)) (weak_mk (by simp only [Vh,Vi,Vj,Vk,Vl,Vm,Z0,Z1,Z2,Z3,Z4,Z5,Z6,Z7,Z8,Z9,Za,Zb,Zc,Zd,Ze,Zf,List.cons.injEq,Zg,Zh,Zi,Zj,Zk,Zl,Zm,Zn,Zo,Zp,beq_self_eq_true,bne_self_eq_false,decide_true,decide_false,Zq,Zr,Zs,Zt,Zu,Zv,Zw,Zx,Zy,Zz,Y0,Y1,Y2,Y3,Y4,Y5,Y6,Y7,Y8,Y9,Ya,Yb,Yc,Yd,Ye,Yf,Yg,Yh,Yi,Yj,Yk,Yl,lk,ef,Ym,Yn,Yo,Yp,Yq,Yr,Ys,Yt,Yu,Yv,Yw,Yx,Yy,Yz,X0,X1,X2,X3,X4,X5,X6,X7,X8,X9,Xa,Xb,Xc,Xd,Xe,Xf,Xg,Xh,Xi,Xj,Xk,hv,Xl,ev,Xm,Xn,Xo,Xp,Xq,Xr,Xs,Xt,Xu,Xv,Xw,Xx,Xy,Xz,W0,W1,W2,W3,W4,W5,W6,W7,W8,W9,Wa,Wb,Wc,Wd,We,Wf,Wg,Wh,Wi,Value.oneCell',Wj,Wk,Wl,Wm,true_and,and_true,and_self,implies_true,Wn,Wo,Wp,Wq,false_implies,Wr,Ws,Wt,Wu,Wv,Ww,Wx,Wy,Wz,V0,V1,V2,V3,V4,V5,V6,V7,reduceCtorEq,if_true,if_false,V8,↓reduceIte,V9,Va,Vb,Vc,Vd,Ve,ne_eq,not_false_eq_true,not_true_eq_false,Vf,Nat.zero_ne_one]; first | done | exact ⟨rfl, eM⟩ | exact eM | rfl)) ⟨by simp only; omega, by simp only; omega, hgn⟩ (by simp only; omega)
    · have hk0i : ¬ (0 : Int) < k := by omega
      have ek : k = 0 := by omega
      have ez : szN l k = 0 := by rw [ek, szN_0]
      have eM : (if m < M then M else m) = max m (M - szN l k) := by omega
      repeat' first | ((with_reducible (first | refine condD ?_ ?_ | refine condE ?_ ?_ | refine condN ?_ ?_ | refine condI ?_ ?_ | refine condS ?_ ?_)) <;> intro h) | ((with_reducible (first | refine guardD (by with_unfolding_all rfl) ?_ ?_ | refine guardE (by with_unfolding_all rfl) ?_ ?_ | refine guardN (by with_unfolding_all rfl) ?_ ?_ | refine guardI (by with_unfolding_all rfl) ?_ ?_ | refine guardS (by with_unfolding_all rfl) ?_ ?_)) <;> intro h) | ((refine callG x1 ?_)) | ((refine callG x2 ?_)) | ((refine callG x3 ?_)) | ((refine callG x4 ?_)) | ((refine callG x5 ?_)) | ((refine callG x6 ?_)) | (with_reducible refine And.intro ?_ ?_; omega) | (simp only [Z0,Z1,Z2,Z3,Z4,Z5,Z6,Z7,Z8,Z9,Za,Zb,Zc,Zd,Ze,Zf,List.cons.injEq,Zg,Zh,Zi,Zj,Zk,Zl,Zm,Zn,Zo,Zp,beq_self_eq_true,bne_self_eq_false,decide_true,decide_false,Zq,Zr,Zs,Zt,Zu,Zv,Zw,Zx,Zy,Zz,Y0,Y1,Y2,Y3,Y4,Y5,Y6,Y7,Y8,Y9,Ya,Yb,Yc,Yd,Ye,Yf,Yg,Yh,Yi,Yj,Yk,Yl,lk,ef,Ym,Yn,Yo,Yp,Yq,Yr,Ys,Yt,Yu,Yv,Yw,Yx,Yy,Yz,X0,X1,X2,X3,X4,X5,X6,X7,X8,X9,Xa,Xb,Xc,Xd,Xe,Xf,Xg,Xh,Xi,Xj,Xk,hv,Xl,ev,Xm,Xn,Xo,Xp,Xq,Xr,Xs,Xt,Xu,Xv,Xw,Xx,Xy,Xz,W0,W1,W2,W3,W4,W5,W6,W7,W8,W9,Wa,Wb,Wc,Wd,We,Wf,Wg,Wh,Wi,Value.oneCell',Wj,Wk,Wl,Wm,true_and,and_true,and_self,implies_true,Wn,Wo,Wp,Wq,false_implies,Wr,Ws,Wt,Wu,Wv,Ww,Wx,Wy,Wz,V0,V1,V2,V3,V4,V5,V6,V7,reduceCtorEq,if_true,if_false,V8,↓reduceIte,V9,Va,Vb,Vc,Vd,Ve,ne_eq,not_false_eq_true,not_true_eq_false,Vf,Vg,r16_0,r16_1,r16_2,r16_3,r16_4,r16_5,r16_6,r16_7,r16_8,r16_9,r16_10,r16_11,r16_13,r16_14,r16_15,r16_16,r16_17,r16_12,r16_18,p16,l16_0,Par.av,gT,gN,wn,v1,hw,eN,eN2,hk0i,Zt,tms_len,sms_len]) | (exfalso; omega)
      all_goals first | omega | exact again hJ (k + 1, max m (M - szN l k)) (weak_mk (by simp only [Vh,Vi,Vj,Vk,Vl,Vm,Z0,Z1,Z2,Z3,Z4,Z5,Z6,Z7,Z8,Z9,Za,Zb,Zc,Zd,Ze,Zf,List.cons.injEq,Zg,Zh,Zi,Zj,Zk,Zl,Zm,Zn,Zo,Zp,beq_self_eq_true,bne_self_eq_false,decide_true,decide_false,Zq,Zr,Zs,Zt,Zu,Zv,Zw,Zx,Zy,Zz,Y0,Y1,Y2,Y3,Y4,Y5,Y6,Y7,Y8,Y9,Ya,Yb,Yc,Yd,Ye,Yf,Yg,Yh,Yi,Yj,Yk,Yl,lk,ef,Ym,Yn,Yo,Yp,Yq,Yr,Ys,Yt,Yu,Yv,Yw,Yx,Yy,Yz,X0,X1,X2,X3,X4,X5,X6,X7,X8,X9,Xa,Xb,Xc,Xd,Xe,Xf,Xg,Xh,Xi,Xj,Xk,hv,Xl,ev,Xm,Xn,Xo,Xp,Xq,Xr,Xs,Xt,Xu,Xv,Xw,Xx,Xy,Xz,W0,W1,W2,W3,W4,W5,W6,W7,W8,W9,Wa,Wb,Wc,Wd,We,Wf,Wg,Wh,Wi,Value.oneCell',Wj,Wk,Wl,Wm,true_and,and_true,and_self,implies_true,Wn,Wo,Wp,Wq,false_implies,Wr,Ws,Wt,Wu,Wv,Ww,Wx,Wy,Wz,V0,V1,V2,V3,V4,V5,V6,V7,reduceCtorEq,if_true,if_false,V8,↓reduceIte,V9,Va,Vb,Vc,Vd,Ve,ne_eq,not_false_eq_true,not_true_eq_false,Vf,Nat.zero_ne_one]; first | done | exact ⟨rfl, eM⟩ | exact eM | rfl)) ⟨by simp only; omega, by simp only; omega, hgn⟩ (by simp only; omega)
  have hke : k = l.length := by omega
  subst hke
  have hR : fullF ⟨scale, l⟩ rate wait = (m, 0) := by rw [hg]; simp [fulGo]
  clear hJ hg
  rw [hR]
  repeat' first | ((with_reducible (first | refine condD ?_ ?_ | refine condE ?_ ?_ | refine condN ?_ ?_ | refine condI ?_ ?_ | refine condS ?_ ?_)) <;> intro h) | ((with_reducible (first | refine guardD (by with_unfolding_all rfl) ?_ ?_ | refine guardE (by with_unfolding_all rfl) ?_ ?_ | refine guardN (by with_unfolding_all rfl) ?_ ?_ | refine guardI (by with_unfolding_all rfl) ?_ ?_ | refine guardS (by with_unfolding_all rfl) ?_ ?_)) <;> intro h) | (with_reducible refine And.intro ?_ ?_; omega) | (simp only [Z0,Z1,Z2,Z3,Z4,Z5,Z6,Z7,Z8,Z9,Za,Zb,Zc,Zd,Ze,Zf,List.cons.injEq,Zg,Zh,Zi,Zj,Zk,Zl,Zm,Zn,Zo,Zp,beq_self_eq_true,bne_self_eq_false,decide_true,decide_false,Zq,Zr,Zs,Zt,Zu,Zv,Zw,Zx,Zy,Zz,Y0,Y1,Y2,Y3,Y4,Y5,Y6,Y7,Y8,Y9,Ya,Yb,Yc,Yd,Ye,Yf,Yg,Yh,Yi,Yj,Yk,Yl,lk,ef,Ym,Yn,Yo,Yp,Yq,Yr,Ys,Yt,Yu,Yv,Yw,Yx,Yy,Yz,X0,X1,X2,X3,X4,X5,X6,X7,X8,X9,Xa,Xb,Xc,Xd,Xe,Xf,Xg,Xh,Xi,Xj,Xk,hv,Xl,ev,Xm,Xn,Xo,Xp,Xq,Xr,Xs,Xt,Xu,Xv,Xw,Xx,Xy,Xz,W0,W1,W2,W3,W4,W5,W6,W7,W8,W9,Wa,Wb,Wc,Wd,We,Wf,Wg,Wh,Wi,Value.oneCell',Wj,Wk,Wl,Wm,true_and,and_true,and_self,implies_true,Wn,Wo,Wp,Wq,false_implies,Wr,Ws,Wt,Wu,Wv,Ww,Wx,Wy,Wz,V0,V1,V2,V3,V4,V5,V6,V7,reduceCtorEq,if_true,if_false,V8,↓reduceIte,V9,Va,Vb,Vc,Vd,Ve,ne_eq,not_false_eq_true,not_true_eq_false,Vf,Vg,r16_0,r16_1,r16_2,r16_3,r16_4,r16_5,r16_6,r16_7,r16_8,r16_9,r16_10,r16_11,r16_13,r16_14,r16_15,r16_16,r16_17,r16_12,r16_18,p16,l16_0]) | (exfalso; omega)
/-! headend/headendref3.LeastRate -/
def r18_0 : List POp := [⟨2, .boxs (.t 0), none⟩,
  ⟨4, .asg (.c (.int .i64 0)), none⟩,
  ⟨5, .asg (.c (.int .i64 0)), none⟩]
def r18_1 : List POp := [⟨11, .loads 2 (.t 2), none⟩,
  ⟨12, .call 22 [.t 11], none⟩,
  ⟨6, .asg (.t 12), none⟩]
def r18_2 : List POp := [⟨13, .mv (.t 6), none⟩,
  ⟨14, .bin .neq (.t 13) (.c (.int .i64 0)), none⟩]
def r18_3 : List POp := [⟨15, .mv (.t 6), none⟩,
  ⟨4, .mv (.c (.int .i64 0)), none⟩,
  ⟨5, .mv (.t 15), none⟩]
def r18_4 : List POp := [⟨16, .mv (.t 1), none⟩,
  ⟨17, .bin .lss (.t 16) (.c (.int .i64 0)), none⟩,
  ⟨18, .mv (.t 17), none⟩,
  ⟨19, .mv (.t 1), some (18, false)⟩,
  ⟨20, .bin .gtr (.t 19) (.c (.int .i64 1000000000000)), some (18, false)⟩,
  ⟨21, .pick (.t 18) (.c (.bool true)) (.t 20), none⟩]
def r18_5 : List POp := [⟨4, .asg (.c (.int .i64 0)), none⟩,
  ⟨5, .asg (.c (.int .i64 1)), none⟩]
def r18_6 : List POp := [⟨22, .loads 2 (.t 2), none⟩,
  ⟨23, .call 31 [.t 22], none⟩,
  ⟨24, .loads 2 (.t 2), none⟩,
  ⟨25, .call 34 [.t 24], none⟩,
  ⟨7, .asg (.t 23), none⟩,
  ⟨8, .asg (.t 25), none⟩]
def r18_7 : List POp := [⟨9, .asg (.c (.int .i64 0)), none⟩]
def r18_8 : List POp := [⟨10, .asg (.c (.int .i64 0)), none⟩]
def r18_9 : List POp := [⟨26, .mv (.t 10), none⟩,
  ⟨27, .mv (.t 7), none⟩,
  ⟨28, .len (.t 27), none⟩,
  ⟨29, .bin .lss (.t 26) (.t 28), none⟩]
def r18_11 : List POp := [⟨32, .mv (.t 8), none⟩,
  ⟨33, .mv (.t 10), none⟩,
  ⟨34, .idx 1 (.t 32) (.t 33), none⟩,
  ⟨35, .load (.t 34), none⟩,
  ⟨36, .bin .eql (.t 35) (.c (.int .i64 0)), none⟩]
def r18_12 : List POp := [⟨37, .mv (.t 1), none⟩,
  ⟨38, .mv (.t 7), none⟩,
  ⟨39, .mv (.t 10), none⟩,
  ⟨40, .idx 1 (.t 38) (.t 39), none⟩,
  ⟨41, .load (.t 40), none⟩,
  ⟨42, .bin .add (.t 37) (.t 41), none⟩,
  ⟨43, .bin .eql (.t 42) (.c (.int .i64 0)), none⟩]
def r18_13 : List POp := [⟨4, .asg (.c (.int .i64 0)), none⟩,
  ⟨5, .asg (.c (.int .i64 1)), none⟩]
def r18_14 : List POp := [⟨44, .mv (.t 9), none⟩,
  ⟨45, .mv (.t 8), none⟩,
  ⟨46, .mv (.t 10), none⟩,
  ⟨47, .idx 1 (.t 45) (.t 46), none⟩,
  ⟨48, .load (.t 47), none⟩,
  ⟨49, .call 30 [.t 48], none⟩,
  ⟨50, .fld 0 (.t 2), none⟩,
  ⟨51, .load (.t 50), none⟩,
  ⟨52, .call 30 [.t 51], none⟩,
  ⟨53, .call 29 [.t 49, .t 52], none⟩,
  ⟨54, .mv (.t 1), none⟩,
  ⟨55, .mv (.t 7), none⟩,
  ⟨56, .mv (.t 10), none⟩,
  ⟨57, .idx 1 (.t 55) (.t 56), none⟩,
  ⟨58, .load (.t 57), none⟩,
  ⟨59, .bin .add (.t 54) (.t 58), none⟩,
  ⟨60, .call 30 [.t 59], none⟩,
  ⟨61, .call 28 [.t 53, .t 60], none⟩,
  ⟨62, .call 27 [.t 61, .c (.int .i64 3)], none⟩,
  ⟨63, .minmax true (.t 44) (.t 62), none⟩,
  ⟨9, .asg (.t 63), none⟩]
def r18_10 : List POp := [⟨30, .mv (.t 10), none⟩,
  ⟨31, .bin .add (.t 30) (.c (.int .i64 1)), none⟩,
  ⟨10, .asg (.t 31), none⟩]
def r18_15 : List POp := [⟨64, .mv (.t 9), none⟩,
  ⟨65, .bin .gtr (.t 64) (.c (.int .i64 1000000000)), none⟩]
def r18_16 : List POp := [⟨4, .asg (.c (.int .i64 0)), none⟩,
  ⟨5, .asg (.c (.int .i64 1)), none⟩]
def r18_17 : List POp := [⟨66, .mv (.t 9), none⟩,
  ⟨4, .asg (.t 66), none⟩,
  ⟨5, .asg (.c (.int .i64 0)), none⟩]
def l18_0 : PCode := .seq (.seq (.ops r18_9) (.cond (.t 29) (.skip) (.exit 0))) (.seq (.block 1 (.seq (.seq (.ops r18_11) (.cond (.t 36) (.exit 1) (.skip))) (.seq (.seq (.ops r18_12) (.cond (.t 43) (.seq (.ops r18_13) (.ret)) (.skip))) (.ops r18_14)))) (.ops r18_10))
def p18 : PCode := .seq (.ops r18_0) (.seq (.seq (.ops r18_1) (.seq (.ops r18_2) (.cond (.t 14) (.seq (.ops r18_3) (.ret)) (.skip)))) (.seq (.seq (.ops r18_4) (.cond (.t 21) (.seq (.ops r18_5) (.ret)) (.skip))) (.seq (.ops r18_6) (.seq (.ops r18_7) (.seq (.seq (.ops r18_8) (.block 0 (.loop l18_0))) (.seq (.seq (.ops r18_15) (.cond (.t 65) (.seq (.ops r18_16) (.ret)) (.skip))) (.seq (.ops r18_17) (.ret))))))))
theorem ok18 : okFunc Tryd.prog 18 [.t 4, .t 5] 2 p18 = true := by kernel_rfl
set_option maxHeartbeats 1000000 in
theorem rleast_c (p : Par) (wait : Int) : CallOK Tryd.prog 18 [.agg p.av, .val (.int .i64 wait)] (.tup [.val (.int .i64 (leastF p wait).1), .val (.int .i64 (leastF p wait).2)]) := by
  refine call_of mixed ok18 rfl ?_
  have hp := rpar_c p
  by_cases h0 : parF p = 0
  case neg =>
    simp only [Par.av] at hp
    repeat' first | ((with_reducible (first | refine condD ?_ ?_ | refine condE ?_ ?_ | refine condN ?_ ?_ | refine condI ?_ ?_ | refine condS ?_ ?_)) <;> intro h) | ((with_reducible (first | refine guardD (by with_unfolding_all rfl) ?_ ?_ | refine guardE (by with_unfolding_all rfl) ?_ ?_ | refine guardN (by with_unfolding_all rfl) ?_ ?_ | refine guardI (by with_unfolding_all rfl) ?_ ?_ | refine guardS (by with_unfolding_all rfl) ?_ ?_)) <;> intro h) | ((refine callG hp ?_)) | (with_reducible refine And.intro ?_ ?_; omega) | (simp only [Z0,Z1,Z2,Z3,Z4,Z5,Z6,Z7,Z8,Z9,Za,Zb,Zc,Zd,Ze,Zf,List.cons.injEq,Zg,Zh,Zi,Zj,Zk,Zl,Zm,Zn,Zo,Zp,beq_self_eq_true,bne_self_eq_false,decide_true,decide_false,Zq,Zr,Zs,Zt,Zu,Zv,Zw,Zx,Zy,Zz,Y0,Y1,Y2,Y3,Y4,Y5,Y6,Y7,Y8,Y9,Ya,Yb,Yc,Yd,Ye,Yf,Yg,Yh,Yi,Yj,Yk,Yl,lk,ef,Ym,Yn,Yo,Yp,Yq,Yr,Ys,Yt,Yu,Yv,Yw,Yx,Yy,Yz,X0,X1,X2,X3,X4,X5,X6,X7,X8,X9,Xa,Xb,Xc,Xd,Xe,Xf,Xg,Xh,Xi,Xj,Xk,hv,Xl,ev,Xm,Xn,Xo,Xp,Xq,Xr,Xs,Xt,Xu,Xv,Xw,Xx,Xy,Xz,W0,W1,W2,W3,W4,W5,W6,W7,W8,W9,Wa,Wb,Wc,Wd,We,Wf,Wg,Wh,Wi,Value.oneCell',Wj,Wk,Wl,Wm,true_and,and_true,and_self,implies_true,Wn,Wo,Wp,Wq,false_implies,Wr,Ws,Wt,Wu,Wv,Ww,Wx,Wy,Wz,V0,V1,V2,V3,V4,V5,V6,V7,reduceCtorEq,if_true,if_false,V8,↓reduceIte,V9,Va,Vb,Vc,Vd,Ve,ne_eq,not_false_eq_true,not_true_eq_false,Vf,Vg,r18_0,r18_1,r18_2,r18_3,r18_4,r18_5,r18_6,r18_7,r18_8,r18_9,r18_11,r18_12,r18_13,r18_14,r18_10,r18_15,r18_16,r18_17,p18,Par.av,bne0_t h0,beq0_f h0]) | (exfalso; omega)
    all_goals simp [leastF, h0]
  rw [h0] at hp
  simp only [Par.av] at hp
  by_cases hr : outB wait 0 1000000000000 = true
  · have := outB_t hr
    rw [show leastF p wait = (0, 1) by simp [leastF, h0, hr]]
    repeat' first | ((with_reducible (first | refine condD ?_ ?_ | refine condE ?_ ?_ | refine condN ?_ ?_ | refine condI ?_ ?_ | refine condS ?_ ?_)) <;> intro h) | ((with_reducible (first | refine guardD (by with_unfolding_all rfl) ?_ ?_ | refine guardE (by with_unfolding_all rfl) ?_ ?_ | refine guardN (by with_unfolding_all rfl) ?_ ?_ | refine guardI (by with_unfolding_all rfl) ?_ ?_ | refine guardS (by with_unfolding_all rfl) ?_ ?_)) <;> intro h) | ((refine callG hp ?_)) | (with_reducible refine And.intro ?_ ?_; omega) | (simp only [Z0,Z1,Z2,Z3,Z4,Z5,Z6,Z7,Z8,Z9,Za,Zb,Zc,Zd,Ze,Zf,List.cons.injEq,Zg,Zh,Zi,Zj,Zk,Zl,Zm,Zn,Zo,Zp,beq_self_eq_true,bne_self_eq_false,decide_true,decide_false,Zq,Zr,Zs,Zt,Zu,Zv,Zw,Zx,Zy,Zz,Y0,Y1,Y2,Y3,Y4,Y5,Y6,Y7,Y8,Y9,Ya,Yb,Yc,Yd,Ye,Yf,Yg,Yh,Yi,Yj,Yk,Yl,lk,ef,Ym,Yn,Yo,Yp,Yq,Yr,Ys,Yt,Yu,Yv,Yw,Yx,Yy,Yz,X0,X1,X2,X3,X4,X5,X6,X7,X8,X9,Xa,Xb,Xc,Xd,Xe,Xf,Xg,Xh,Xi,Xj,Xk,hv,Xl,ev,Xm,Xn,Xo,Xp,Xq,Xr,Xs,Xt,Xu,Xv,Xw,Xx,Xy,Xz,W0,W1,W2,W3,W4,W5,W6,W7,W8,W9,Wa,Wb,Wc,Wd,We,Wf,Wg,Wh,Wi,Value.oneCell',Wj,Wk,Wl,Wm,true_and,and_true,and_self,implies_true,Wn,Wo,Wp,Wq,false_implies,Wr,Ws,Wt,Wu,Wv,Ww,Wx,Wy,Wz,V0,V1,V2,V3,V4,V5,V6,V7,reduceCtorEq,if_true,if_false,V8,↓reduceIte,V9,Va,Vb,Vc,Vd,Ve,ne_eq,not_false_eq_true,not_true_eq_false,Vf,Vg,r18_0,r18_1,r18_2,r18_3,r18_4,r18_5,r18_6,r18_7,r18_8,r18_9,r18_11,r18_12,r18_13,r18_14,r18_10,r18_15,r18_16,r18_17,p18,Par.av]) | (exfalso; omega)
    all_goals first | done | (exfalso; omega)
  simp only [Bool.not_eq_true] at hr
  have bw := outB_f hr
  have u1 : ¬ wait < 0 := by omega
  have u2 : ¬ 1000000000000 < wait := by omega
  obtain ⟨hl, hb, s1, s2, ht⟩ := par_facts h0
  have hF : leastF p wait = lrR (lrGo (p.smps.headD ⟨0, 0, 0, 0, false⟩).time p.scale wait 0 0 p.smps) := by simp [leastF, h0, hr]
  obtain ⟨t0, ht0⟩ : ∃ t0, t0 = (p.smps.headD ⟨0, 0, 0, 0, false⟩).time := ⟨_, rfl⟩
  rw [← ht0] at ht hF
  obtain ⟨scale, l⟩ := p
  simp only at hl hb s1 s2 ht hF ht0 hp
  have hti := times_r scale l hl hb
  have hsu := sums_r scale l hl hb
  simp only [Par.av] at hti hsu
  repeat' first | ((with_reducible (first | refine condD ?_ ?_ | refine condE ?_ ?_ | refine condN ?_ ?_ | refine condI ?_ ?_ | refine condS ?_ ?_)) <;> intro h) | ((with_reducible (first | refine guardD (by with_unfolding_all rfl) ?_ ?_ | refine guardE (by with_unfolding_all rfl) ?_ ?_ | refine guardN (by with_unfolding_all rfl) ?_ ?_ | refine guardI (by with_unfolding_all rfl) ?_ ?_ | refine guardS (by with_unfolding_all rfl) ?_ ?_)) <;> intro h) | ((refine callG hp ?_)) | ((refine callG hti ?_)) | ((refine callG hsu ?_)) | (with_reducible refine And.intro ?_ ?_; omega) | (simp only [Z0,Z1,Z2,Z3,Z4,Z5,Z6,Z7,Z8,Z9,Za,Zb,Zc,Zd,Ze,Zf,List.cons.injEq,Zg,Zh,Zi,Zj,Zk,Zl,Zm,Zn,Zo,Zp,beq_self_eq_true,bne_self_eq_false,decide_true,decide_false,Zq,Zr,Zs,Zt,Zu,Zv,Zw,Zx,Zy,Zz,Y0,Y1,Y2,Y3,Y4,Y5,Y6,Y7,Y8,Y9,Ya,Yb,Yc,Yd,Ye,Yf,Yg,Yh,Yi,Yj,Yk,Yl,lk,ef,Ym,Yn,Yo,Yp,Yq,Yr,Ys,Yt,Yu,Yv,Yw,Yx,Yy,Yz,X0,X1,X2,X3,X4,X5,X6,X7,X8,X9,Xa,Xb,Xc,Xd,Xe,Xf,Xg,Xh,Xi,Xj,Xk,hv,Xl,ev,Xm,Xn,Xo,Xp,Xq,Xr,Xs,Xt,Xu,Xv,Xw,Xx,Xy,Xz,W0,W1,W2,W3,W4,W5,W6,W7,W8,W9,Wa,Wb,Wc,Wd,We,Wf,Wg,Wh,Wi,Value.oneCell',Wj,Wk,Wl,Wm,true_and,and_true,and_self,implies_true,Wn,Wo,Wp,Wq,false_implies,Wr,Ws,Wt,Wu,Wv,Ww,Wx,Wy,Wz,V0,V1,V2,V3,V4,V5,V6,V7,reduceCtorEq,if_true,if_false,V8,↓reduceIte,V9,Va,Vb,Vc,Vd,Ve,ne_eq,not_false_eq_true,not_true_eq_false,Vf,Vg,r18_0,r18_1,r18_2,r18_3,r18_4,r18_5,r18_6,r18_7,r18_8,r18_9,r18_11,r18_12,r18_13,r18_14,r18_10,r18_15,r18_16,r18_17,p18,Par.av,u1,u2]) | (exfalso; omega)
  refine loopS (fun q : Nat × Int => mk [(1, .val (.int .i64 wait)), (2, .box (Par.av ⟨scale, l⟩)), (7, .ro ((tms l).map oneI)), (8, .ro ((sms l).map oneI)), (9, .val (.int .i64 q.2)), (10, .val (.int .i64 (q.1 : Nat)))])
    (fun q => q.1 ≤ l.length ∧ 0 ≤ q.2 ∧ leastF ⟨scale, l⟩ wait = lrR (lrGo t0 scale wait q.2 (szN l q.1) (l.drop q.1))) (fun q => l.length - q.1) (0, 0) (weak_mk ?_) ⟨Nat.zero_le _, Int.le_refl _, by rw [szN_0]; simpa using hF⟩ ?_
  · simp only [Vh,Vi,Vj,Vk,Vl,Vm,Z0,Z1,Z2,Z3,Z4,Z5,Z6,Z7,Z8,Z9,Za,Zb,Zc,Zd,Ze,Zf,List.cons.injEq,Zg,Zh,Zi,Zj,Zk,Zl,Zm,Zn,Zo,Zp,beq_self_eq_true,bne_self_eq_false,decide_true,decide_false,Zq,Zr,Zs,Zt,Zu,Zv,Zw,Zx,Zy,Zz,Y0,Y1,Y2,Y3,Y4,Y5,Y6,Y7,Y8,Y9,Ya,Yb,Yc,Yd,Ye,Yf,Yg,Yh,Yi,Yj,Yk,Yl,lk,ef,Ym,Yn,Yo,Yp,Yq,Yr,Ys,Yt,Yu,Yv,Yw,Yx,Yy,Yz,X0,X1,X2,X3,X4,X5,X6,X7,X8,X9,Xa,Xb,Xc,Xd,Xe,Xf,Xg,Xh,Xi,Xj,Xk,hv,Xl,ev,Xm,Xn,Xo,Xp,Xq,Xr,Xs,Xt,Xu,Xv,Xw,Xx,Xy,Xz,W0,W1,W2,W3,W4,W5,W6,W7,W8,W9,Wa,Wb,Wc,Wd,We,Wf,Wg,Wh,Wi,Value.oneCell',Wj,Wk,Wl,Wm,true_and,and_true,and_self,implies_true,Wn,Wo,Wp,Wq,false_implies,Wr,Ws,Wt,Wu,Wv,Ww,Wx,Wy,Wz,V0,V1,V2,V3,V4,V5,V6,V7,reduceCtorEq,if_true,if_false,V8,↓reduceIte,V9,Va,Vb,Vc,Vd,Ve,ne_eq,not_false_eq_true,not_true_eq_false,Vf,Nat.zero_ne_one]
    first | done | simp [Par.av]
  rintro J hJ ⟨k, m⟩ ⟨hk, hm0, hg⟩
  simp only at hk hm0 hg
  simp only [Z0,Z1,Z2,Z3,Z4,Z5,Z6,Z7,Z8,Z9,Za,Zb,Zc,Zd,Ze,Zf,List.cons.injEq,Zg,Zh,Zi,Zj,Zk,Zl,Zm,Zn,Zo,Zp,beq_self_eq_true,bne_self_eq_false,decide_true,decide_false,Zq,Zr,Zs,Zt,Zu,Zv,Zw,Zx,Zy,Zz,Y0,Y1,Y2,Y3,Y4,Y5,Y6,Y7,Y8,Y9,Ya,Yb,Yc,Yd,Ye,Yf,Yg,Yh,Yi,Yj,Yk,Yl,lk,ef,Ym,Yn,Yo,Yp,Yq,Yr,Ys,Yt,Yu,Yv,Yw,Yx,Yy,Yz,X0,X1,X2,X3,X4,X5,X6,X7,X8,X9,Xa,Xb,Xc,Xd,Xe,Xf,Xg,Xh,Xi,Xj,Xk,hv,Xl,ev,Xm,Xn,Xo,Xp,Xq,Xr,Xs,Xt,Xu,Xv,Xw,Xx,Xy,Xz,W0,W1,W2,W3,W4,W5,W6,W7,W8,W9,Wa,Wb,Wc,Wd,We,Wf,Wg,Wh,Wi,Value.oneCell',Wj,Wk,Wl,Wm,true_and,and_true,and_self,implies_true,Wn,Wo,Wp,Wq,false_implies,Wr,Ws,Wt,Wu,Wv,Ww,Wx,Wy,Wz,V0,V1,V2,V3,V4,V5,V6,V7,reduceCtorEq,if_true,if_false,V8,↓reduceIte,V9,Va,Vb,Vc,Vd,Ve,ne_eq,not_false_eq_true,not_true_eq_false,Vf,Vg,r18_0,r18_1,r18_2,r18_3,r18_4,r18_5,r18_6,r18_7,r18_8,r18_9,r18_11,r18_12,r18_13,r18_14,r18_10,r18_15,r18_16,r18_17,p18,l18_0,Zt,tms_len,sms_len]
  refine condD (fun h => ?_) (fun h => ?_)
  · have hlt : k < l.length := by omega
    have hlt0 : 0 < l.length := by omega
    have hw := i_add1 k (by omega)
    have hs := szN_succ hlt
    have b2 := badSmp_bd (hb l[k] (List.getElem_mem hlt))
    have bB : 0 ≤ szN l (k + 1) ∧ szN l (k + 1) ≤ 500000000 := by
      have := sizes_bd (l := l.take (k + 1)) fun s hs => hb s (List.mem_of_mem_take hs)
      rw [List.length_take, Nat.min_eq_left (by omega : k + 1 ≤ l.length)] at this
      unfold szN
      omega
    have t1 := ht k hlt
    have e0 : tmN l 0 = t0 := by rw [ht0]; exact (hd_tm hlt0).symm
    rw [List.drop_eq_getElem_cons hlt, lrGo, ← hs] at hg
    have gT := tms_get hlt
    have gS := sms_get hlt
    rw [e0] at gT
    have v1 : IntKind.i64.wrap (wait + (l[k].time - t0)) = wait + l[k].time - t0 := by rw [wrap_in (by omega) (by omega)]; omega
    by_cases hz : szN l (k + 1) = 0
    · have hz' : (szN l (k + 1) == 0) = true := by rw [beq_iff_eq]; exact hz
      rw [if_pos hz] at hg
      repeat' first | ((with_reducible (first | refine condD ?_ ?_ | refine condE ?_ ?_ | refine condN ?_ ?_ | refine condI ?_ ?_ | refine condS ?_ ?_)) <;> intro h) | ((with_reducible (first | refine guardD (by with_unfolding_all rfl) ?_ ?_ | refine guardE (by with_unfolding_all rfl) ?_ ?_ | refine guardN (by with_unfolding_all rfl) ?_ ?_ | refine guardI (by with_unfolding_all rfl) ?_ ?_ | refine guardS (by with_unfolding_all rfl) ?_ ?_)) <;> intro h) | (with_reducible refine And.intro ?_ ?_; omega) | (simp only [Z0,Z1,Z2,Z3,Z4,Z5,Z6,Z7,Z8,Z9,Za,Zb,Zc,Zd,Ze,Zf,List.cons.injEq,Zg,Zh,Zi,Zj,Zk,Zl,Zm,Zn,Zo,Zp,beq_self_eq_true,bne_self_eq_false,decide_true,decide_false,Zq,Zr,Zs,Zt,Zu,Zv,Zw,Zx,Zy,Zz,Y0,Y1,Y2,Y3,Y4,Y5,Y6,Y7,Y8,Y9,Ya,Yb,Yc,Yd,Ye,Yf,Yg,Yh,Yi,Yj,Yk,Yl,lk,ef,Ym,Yn,Yo,Yp,Yq,Yr,Ys,Yt,Yu,Yv,Yw,Yx,Yy,Yz,X0,X1,X2,X3,X4,X5,X6,X7,X8,X9,Xa,Xb,Xc,Xd,Xe,Xf,Xg,Xh,Xi,Xj,Xk,hv,Xl,ev,Xm,Xn,Xo,Xp,Xq,Xr,Xs,Xt,Xu,Xv,Xw,Xx,Xy,Xz,W0,W1,W2,W3,W4,W5,W6,W7,W8,W9,Wa,Wb,Wc,Wd,We,Wf,Wg,Wh,Wi,Value.oneCell',Wj,Wk,Wl,Wm,true_and,and_true,and_self,implies_true,Wn,Wo,Wp,Wq,false_implies,Wr,Ws,Wt,Wu,Wv,Ww,Wx,Wy,Wz,V0,V1,V2,V3,V4,V5,V6,V7,reduceCtorEq,if_true,if_false,V8,↓reduceIte,V9,Va,Vb,Vc,Vd,Ve,ne_eq,not_false_eq_true,not_true_eq_false,Vf,Vg,r18_0,r18_1,r18_2,r18_3,r18_4,r18_5,r18_6,r18_7,r18_8,r18_9,r18_11,r18_12,r18_13,r18_14,r18_10,r18_15,r18_16,r18_17,p18,l18_0,Par.av,gT,gS,hz',hw,Zt,tms_len,sms_len]) | (exfalso; omega)
      all_goals first | omega | exact again hJ (k + 1, m) (weak_mk (by simp only [Vh,Vi,Vj,Vk,Vl,Vm,Z0,Z1,Z2,Z3,Z4,Z5,Z6,Z7,Z8,Z9,Za,Zb,Zc,Zd,Ze,Zf,List.cons.injEq,Zg,Zh,Zi,Zj,Zk,Zl,Zm,Zn,Zo,Zp,beq_self_eq_true,bne_self_eq_false,decide_true,decide_false,Zq,Zr,Zs,Zt,Zu,Zv,Zw,Zx,Zy,Zz,Y0,Y1,Y2,Y3,Y4,Y5,Y6,Y7,Y8,Y9,Ya,Yb,Yc,Yd,Ye,Yf,Yg,Yh,Yi,Yj,Yk,Yl,lk,ef,Ym,Yn,Yo,Yp,Yq,Yr,Ys,Yt,Yu,Yv,Yw,Yx,Yy,Yz,X0,X1,X2,X3,X4,X5,X6,X7,X8,X9,Xa,Xb,Xc,Xd,Xe,Xf,Xg,Xh,Xi,Xj,Xk,hv,Xl,ev,Xm,Xn,Xo,Xp,Xq,Xr,Xs,Xt,Xu,Xv,Xw,Xx,Xy,Xz,W0,W1,W2,W3,W4,W5,W6,W7,W8,W9,Wa,Wb,Wc,Wd,We,Wf,Wg,Wh,Wi,Value.oneCell',Wj,Wk,Wl,Wm,true_and,and_true,and_self,implies_true,Wn,Wo,Wp,Wq,false_implies,Wr,Ws,Wt,Wu,Wv,Ww,Wx,Wy,Wz,V0,V1,V2,V3,V4,V5,V6,V7,reduceCtorEq,if_true,if_false,V8,↓reduceIte,V9,Va,Vb,Vc,Vd,Ve,ne_eq,not_false_eq_true,not_true_eq_false,Vf,Nat.zero_ne_one]; first | done | rfl)) ⟨by simp only; omega, hm0, hg⟩ (by simp only; omega)
    · have hz' := beq0_f hz
      rw [if_neg hz] at hg
      by_cases ha : wait + l[k].time - t0 = 0
      · rw [if_pos ha] at hg
        have ha' : (wait + l[k].time - t0 == 0) = true := by rw [beq_iff_eq]; exact ha
        rw [hg]
        simp only [lrR]
        repeat' first | ((with_reducible (first | refine condD ?_ ?_ | refine condE ?_ ?_ | refine condN ?_ ?_ | refine condI ?_ ?_ | refine condS ?_ ?_)) <;> intro h) | ((with_reducible (first | refine guardD (by with_unfolding_all rfl) ?_ ?_ | refine guardE (by with_unfolding_all rfl) ?_ ?_ | refine guardN (by with_unfolding_all rfl) ?_ ?_ | refine guardI (by with_unfolding_all rfl) ?_ ?_ | refine guardS (by with_unfolding_all rfl) ?_ ?_)) <;> intro h) | (with_reducible refine And.intro ?_ ?_; omega) | (simp only [Z0,Z1,Z2,Z3,Z4,Z5,Z6,Z7,Z8,Z9,Za,Zb,Zc,Zd,Ze,Zf,List.cons.injEq,Zg,Zh,Zi,Zj,Zk,Zl,Zm,Zn,Zo,Zp,beq_self_eq_true,bne_self_eq_false,decide_true,decide_false,Zq,Zr,Zs,Zt,Zu,Zv,Zw,Zx,Zy,Zz,Y0,Y1,Y2,Y3,Y4,Y5,Y6,Y7,Y8,Y9,Ya,Yb,Yc,Yd,Ye,Yf,Yg,Yh,Yi,Yj,Yk,Yl,lk,ef,Ym,Yn,Yo,Yp,Yq,Yr,Ys,Yt,Yu,Yv,Yw,Yx,Yy,Yz,X0,X1,X2,X3,X4,X5,X6,X7,X8,X9,Xa,Xb,Xc,Xd,Xe,Xf,Xg,Xh,Xi,Xj,Xk,hv,Xl,ev,Xm,Xn,Xo,Xp,Xq,Xr,Xs,Xt,Xu,Xv,Xw,Xx,Xy,Xz,W0,W1,W2,W3,W4,W5,W6,W7,W8,W9,Wa,Wb,Wc,Wd,We,Wf,Wg,Wh,Wi,Value.oneCell',Wj,Wk,Wl,Wm,true_and,and_true,and_self,implies_true,Wn,Wo,Wp,Wq,false_implies,Wr,Ws,Wt,Wu,Wv,Ww,Wx,Wy,Wz,V0,V1,V2,V3,V4,V5,V6,V7,reduceCtorEq,if_true,if_false,V8,↓reduceIte,V9,Va,Vb,Vc,Vd,Ve,ne_eq,not_false_eq_true,not_true_eq_false,Vf,Vg,r18_0,r18_1,r18_2,r18_3,r18_4,r18_5,r18_6,r18_7,r18_8,r18_9,r18_11,r18_12,r18_13,r18_14,r18_10,r18_15,r18_16,r18_17,p18,l18_0,Par.av,gT,gS,hz',v1,ha',hw,Zt,tms_len,sms_len]) | (exfalso; omega)
        all_goals first | done | omega
      · rw [if_neg ha] at hg
        have ha' := beq0_f ha
        obtain ⟨B, hB⟩ : ∃ B : Nat, szN l (k + 1) = B := ⟨(szN l (k + 1)).toNat, by omega⟩
        obtain ⟨S, hS⟩ : ∃ S : Nat, scale = S := ⟨scale.toNat, by omega⟩
        obtain ⟨D, hD⟩ : ∃ D : Nat, wait + l[k].time - t0 = D := ⟨(wait + l[k].time - t0).toNat, by omega⟩
        obtain ⟨X, Y, Z, U, V, x1, x2, x3, x4, x5, x6⟩ := chain_up B S D (by omega) (by omega) (by omega) (by omega)
        have hgn := hg
        rw [hB, hS, hD] at hg
        simp only [Int.toNat_natCast] at hg
        rw [hB] at gS hz'
        rw [hD] at v1 ha'
        rw [← hS] at x2
        have bC : cdiv (B * S) D ≤ 500100000 * 1000000000 + 1 := Nat.le_trans (cdiv_bd _ _) (by have := Nat.mul_le_mul (show B ≤ 500100000 by omega) (show S ≤ 1000000000 by omega); omega)
        have hgm : leastF ⟨scale, l⟩ wait = lrR (lrGo t0 scale wait (max m ((cdiv (B * S) D : Nat) : Int)) (szN l (k + 1)) (l.drop (k + 1))) := by rw [hB, hS]; exact hg
        generalize cdiv (B * S) D = C at *
        have eM : (if m < (C : Int) then (C : Int) else m) = max m (C : Int) := by omega
        repeat' first | ((with_reducible (first | refine condD ?_ ?_ | refine condE ?_ ?_ | refine condN ?_ ?_ | refine condI ?_ ?_ | refine condS ?_ ?_)) <;> intro h) | ((with_reducible (first | refine guardD (by with_unfolding_all rfl) ?_ ?_ | refine guardE (by with_unfolding_all rfl) ?_ ?_ | refine guardN (by with_unfolding_all rfl) ?_ ?_ | refine guardI (by with_unfolding_all rfl) ?_ ?_ | refine guardS (by with_unfolding_all rfl) ?_ ?_)) <;> intro h) | ((refine callG x1 ?_)) | ((refine callG x2 ?_)) | ((refine callG x3 ?_)) | ((refine callG x4 ?_)) | ((refine callG x5 ?_)) | ((refine callG x6 ?_)) | (with_reducible refine And.intro ?_ ?_; omega) | (simp only [Z0,Z1,Z2,Z3,Z4,Z5,Z6,Z7,Z8,Z9,Za,Zb,Zc,Zd,Ze,Zf,List.cons.injEq,Zg,Zh,Zi,Zj,Zk,Zl,Zm,Zn,Zo,Zp,beq_self_eq_true,bne_self_eq_false,decide_true,decide_false,Zq,Zr,Zs,Zt,Zu,Zv,Zw,Zx,Zy,Zz,Y0,Y1,Y2,Y3,Y4,Y5,Y6,Y7,Y8,Y9,Ya,Yb,Yc,Yd,Ye,Yf,Yg,Yh,Yi,Yj,Yk,Yl,lk,ef,Ym,Yn,Yo,Yp,Yq,Yr,Ys,Yt,Yu,Yv,Yw,Yx,Yy,Yz,X0,X1,X2,X3,X4,X5,X6,X7,X8,X9,Xa,Xb,Xc,Xd,Xe,Xf,Xg,Xh,Xi,Xj,Xk,hv,Xl,ev,Xm,Xn,Xo,Xp,Xq,Xr,Xs,Xt,Xu,Xv,Xw,Xx,Xy,Xz,W0,W1,W2,W3,W4,W5,W6,W7,W8,W9,Wa,Wb,Wc,Wd,We,Wf,Wg,Wh,Wi,Value.oneCell',Wj,Wk,Wl,Wm,true_and,and_true,and_self,implies_true,Wn,Wo,Wp,Wq,false_implies,Wr,Ws,Wt,Wu,Wv,Ww,Wx,Wy,Wz,V0,V1,V2,V3,V4,V5,V6,V7,reduceCtorEq,if_true,if_false,V8,↓reduceIte,V9,Va,Vb,Vc,Vd,Ve,ne_eq,not_false_eq_true,not_true_eq_false,Vf,Vg,r18_0,r18_1,r18_2,r18_3,r18_4,r18_5,r18_6,r18_7,r18_8,r18_9,r18_11,r18_12,r18_13,r18_14,r18_10,r18_15,r18_16,r18_17,p18,l18_0,Par.av,gT,gS,hz',v1,ha',hw,Zt,tms_len,sms_len]) | (exfalso; omega)
        all_goals first | omega | exact again hJ (k + 1, max m (C : Int)) (weak_mk (by simp only [Vh,Vi,Vj,Vk,Vl,Vm,Z0,Z1,Z2,Z3,Z4,Z5,Z6,Z7,Z8,Z9,Za,Zb,Zc,Zd,Ze,Zf,List.cons.injEq,Zg,Zh,Zi,Zj,Zk,Zl,Zm,Zn,Zo,Zp,beq_self_eq_true,bne_self_eq_false,decide_true,decide_false,Zq,Zr,Zs,Zt,Zu,Zv,Zw,Zx,Zy,Zz,Y0,Y1,Y2,Y3,Y4,Y5,Y6,Y7,Y8,Y9,Ya,Yb,Yc,Yd,Ye,Yf,Yg,Yh,Yi,Yj,Yk,Yl,lk,ef,Ym,Yn,Yo,Yp,Yq,Yr,Ys,Yt,Yu,Yv,Yw,Yx,Yy,Yz,X0,X1,X2,X3,X4,X5,X6,X7,X8,X9,Xa,Xb,Xc,Xd,Xe,Xf,Xg,Xh,Xi,Xj,Xk,hv,Xl,ev,Xm,Xn,Xo,Xp,Xq,Xr,Xs,Xt,Xu,Xv,Xw,Xx,Xy,Xz,W0,W1,W2,W3,W4,W5,W6,W7,W8,W9,Wa,Wb,Wc,Wd,We,Wf,Wg,Wh,Wi,Value.oneCell',Wj,Wk,Wl,Wm,true_and,and_true,and_self,implies_true,Wn,Wo,Wp,Wq,false_implies,Wr,Ws,Wt,Wu,Wv,Ww,Wx,Wy,Wz,V0,V1,V2,V3,V4,V5,V6,V7,reduceCtorEq,if_true,if_false,V8,↓reduceIte,V9,Va,Vb,Vc,Vd,Ve,ne_eq,not_false_eq_true,not_true_eq_false,Vf,Nat.zero_ne_one]; first | done | exact ⟨rfl, eM⟩ | exact eM | rfl)) ⟨by simp only; omega, by simp only; omega, hgm⟩ (by simp only; omega)
  have hke : k = l.length := by omega
  subst hke
  have hR : leastF ⟨scale, l⟩ wait = if 1000000000 < m then (0, 1) else (m, 0) := by rw [hg]; simp [lrGo, lrR]
  clear hJ hg
  rw [hR]
  repeat' first | ((with_reducible (first | refine condD ?_ ?_ | refine condE ?_ ?_ | refine condN ?_ ?_ | refine condI ?_ ?_ | refine condS ?_ ?_)) <;> intro h) | ((with_reducible (first | refine guardD (by with_unfolding_all rfl) ?_ ?_ | refine guardE (by with_unfolding_all rfl) ?_ ?_ | refine guardN (by with_unfolding_all rfl) ?_ ?_ | refine guardI (by with_unfolding_all rfl) ?_ ?_ | refine guardS (by with_unfolding_all rfl) ?_ ?_)) <;> intro h) | (with_reducible refine And.intro ?_ ?_; omega) | (simp only [Z0,Z1,Z2,Z3,Z4,Z5,Z6,Z7,Z8,Z9,Za,Zb,Zc,Zd,Ze,Zf,List.cons.injEq,Zg,Zh,Zi,Zj,Zk,Zl,Zm,Zn,Zo,Zp,beq_self_eq_true,bne_self_eq_false,decide_true,decide_false,Zq,Zr,Zs,Zt,Zu,Zv,Zw,Zx,Zy,Zz,Y0,Y1,Y2,Y3,Y4,Y5,Y6,Y7,Y8,Y9,Ya,Yb,Yc,Yd,Ye,Yf,Yg,Yh,Yi,Yj,Yk,Yl,lk,ef,Ym,Yn,Yo,Yp,Yq,Yr,Ys,Yt,Yu,Yv,Yw,Yx,Yy,Yz,X0,X1,X2,X3,X4,X5,X6,X7,X8,X9,Xa,Xb,Xc,Xd,Xe,Xf,Xg,Xh,Xi,Xj,Xk,hv,Xl,ev,Xm,Xn,Xo,Xp,Xq,Xr,Xs,Xt,Xu,Xv,Xw,Xx,Xy,Xz,W0,W1,W2,W3,W4,W5,W6,W7,W8,W9,Wa,Wb,Wc,Wd,We,Wf,Wg,Wh,Wi,Value.oneCell',Wj,Wk,Wl,Wm,true_and,and_true,and_self,implies_true,Wn,Wo,Wp,Wq,false_implies,Wr,Ws,Wt,Wu,Wv,Ww,Wx,Wy,Wz,V0,V1,V2,V3,V4,V5,V6,V7,reduceCtorEq,if_true,if_false,V8,↓reduceIte,V9,Va,Vb,Vc,Vd,Ve,ne_eq,not_false_eq_true,not_true_eq_false,Vf,Vg,r18_0,r18_1,r18_2,r18_3,r18_4,r18_5,r18_6,r18_7,r18_8,r18_9,r18_11,r18_12,r18_13,r18_14,r18_10,r18_15,r18_16,r18_17,p18,l18_0]) | (exfalso; omega)
  all_goals first | done | simp [*]
end Go.Proofs.YtbdcnooafacldaaDoor
/- SampleRatesMatchSpec: Mean, Peak, Delay, Fullness and LeastRate are as specified, with all errors. For every input; no condition. -/
namespace Go.Proofs.YtbdcnooafacldaaDoor
open Go.RowKit
set_option linter.unusedSimpArgs false

/-! headend/headendlaw3.SampleRatesMatchSpec -/
def r4_0 : List POp := [⟨4, .boxs (.t 0), none⟩,
  ⟨8, .asg (.c (.bool false)), none⟩]
def r4_1 : List POp := [⟨18, .loads 2 (.t 4), none⟩,
  ⟨19, .call 9 [.t 18], none⟩,
  ⟨17, .mv (.t 19), none⟩,
  ⟨20, .ext 0 (.t 17), none⟩,
  ⟨21, .ext 1 (.t 17), none⟩,
  ⟨9, .mv (.t 20), none⟩,
  ⟨10, .mv (.t 21), none⟩]
def r4_2 : List POp := [⟨23, .loads 2 (.t 4), none⟩,
  ⟨24, .call 10 [.t 23], none⟩,
  ⟨22, .mv (.t 24), none⟩,
  ⟨25, .ext 0 (.t 22), none⟩,
  ⟨26, .ext 1 (.t 22), none⟩,
  ⟨11, .mv (.t 25), none⟩,
  ⟨12, .mv (.t 26), none⟩]
def r4_3 : List POp := [⟨27, .mv (.t 9), none⟩,
  ⟨28, .mv (.t 11), none⟩,
  ⟨29, .bin .neq (.t 27) (.t 28), none⟩,
  ⟨30, .mv (.t 29), none⟩,
  ⟨31, .mv (.t 10), some (30, false)⟩,
  ⟨32, .mv (.t 12), some (30, false)⟩,
  ⟨33, .bin .neq (.t 31) (.t 32), some (30, false)⟩,
  ⟨34, .pick (.t 30) (.c (.bool true)) (.t 33), none⟩]
def r4_4 : List POp := [⟨8, .asg (.c (.bool false)), none⟩]
def r4_5 : List POp := [⟨36, .loads 2 (.t 4), none⟩,
  ⟨37, .mv (.t 1), none⟩,
  ⟨38, .call 11 [.t 36, .t 37], none⟩,
  ⟨35, .mv (.t 38), none⟩,
  ⟨39, .ext 0 (.t 35), none⟩,
  ⟨40, .ext 1 (.t 35), none⟩,
  ⟨9, .mv (.t 39), none⟩,
  ⟨10, .mv (.t 40), none⟩]
def r4_6 : List POp := [⟨42, .loads 2 (.t 4), none⟩,
  ⟨43, .mv (.t 1), none⟩,
  ⟨44, .call 12 [.t 42, .t 43], none⟩,
  ⟨41, .mv (.t 44), none⟩,
  ⟨45, .ext 0 (.t 41), none⟩,
  ⟨46, .ext 1 (.t 41), none⟩,
  ⟨11, .mv (.t 45), none⟩,
  ⟨12, .mv (.t 46), none⟩]
def r4_7 : List POp := [⟨47, .mv (.t 9), none⟩,
  ⟨48, .mv (.t 11), none⟩,
  ⟨49, .bin .neq (.t 47) (.t 48), none⟩,
  ⟨50, .mv (.t 49), none⟩,
  ⟨51, .mv (.t 10), some (50, false)⟩,
  ⟨52, .mv (.t 12), some (50, false)⟩,
  ⟨53, .bin .neq (.t 51) (.t 52), some (50, false)⟩,
  ⟨54, .pick (.t 50) (.c (.bool true)) (.t 53), none⟩]
def r4_8 : List POp := [⟨8, .asg (.c (.bool false)), none⟩]
def r4_9 : List POp := [⟨56, .loads 2 (.t 4), none⟩,
  ⟨57, .mv (.t 2), none⟩,
  ⟨58, .call 13 [.t 56, .t 57], none⟩,
  ⟨55, .mv (.t 58), none⟩,
  ⟨59, .ext 0 (.t 55), none⟩,
  ⟨60, .ext 1 (.t 55), none⟩,
  ⟨9, .mv (.t 59), none⟩,
  ⟨10, .mv (.t 60), none⟩]
def r4_10 : List POp := [⟨62, .loads 2 (.t 4), none⟩,
  ⟨63, .mv (.t 2), none⟩,
  ⟨64, .call 14 [.t 62, .t 63], none⟩,
  ⟨61, .mv (.t 64), none⟩,
  ⟨65, .ext 0 (.t 61), none⟩,
  ⟨66, .ext 1 (.t 61), none⟩,
  ⟨11, .mv (.t 65), none⟩,
  ⟨12, .mv (.t 66), none⟩]
def r4_11 : List POp := [⟨67, .mv (.t 9), none⟩,
  ⟨68, .mv (.t 11), none⟩,
  ⟨69, .bin .neq (.t 67) (.t 68), none⟩,
  ⟨70, .mv (.t 69), none⟩,
  ⟨71, .mv (.t 10), some (70, false)⟩,
  ⟨72, .mv (.t 12), some (70, false)⟩,
  ⟨73, .bin .neq (.t 71) (.t 72), some (70, false)⟩,
  ⟨74, .pick (.t 70) (.c (.bool true)) (.t 73), none⟩]
def r4_12 : List POp := [⟨8, .asg (.c (.bool false)), none⟩]
def r4_13 : List POp := [⟨76, .loads 2 (.t 4), none⟩,
  ⟨77, .mv (.t 2), none⟩,
  ⟨78, .mv (.t 3), none⟩,
  ⟨79, .call 15 [.t 76, .t 77, .t 78], none⟩,
  ⟨75, .mv (.t 79), none⟩,
  ⟨80, .ext 0 (.t 75), none⟩,
  ⟨81, .ext 1 (.t 75), none⟩,
  ⟨9, .mv (.t 80), none⟩,
  ⟨10, .mv (.t 81), none⟩]
def r4_14 : List POp := [⟨83, .loads 2 (.t 4), none⟩,
  ⟨84, .mv (.t 2), none⟩,
  ⟨85, .mv (.t 3), none⟩,
  ⟨86, .call 16 [.t 83, .t 84, .t 85], none⟩,
  ⟨82, .mv (.t 86), none⟩,
  ⟨87, .ext 0 (.t 82), none⟩,
  ⟨88, .ext 1 (.t 82), none⟩,
  ⟨11, .mv (.t 87), none⟩,
  ⟨12, .mv (.t 88), none⟩]
def r4_15 : List POp := [⟨90, .loads 2 (.t 4), none⟩,
  ⟨91, .mv (.t 3), none⟩,
  ⟨92, .call 17 [.t 90, .t 91], none⟩,
  ⟨89, .mv (.t 92), none⟩,
  ⟨93, .ext 0 (.t 89), none⟩,
  ⟨94, .ext 1 (.t 89), none⟩,
  ⟨13, .mv (.t 93), none⟩,
  ⟨14, .mv (.t 94), none⟩]
def r4_16 : List POp := [⟨96, .loads 2 (.t 4), none⟩,
  ⟨97, .mv (.t 3), none⟩,
  ⟨98, .call 18 [.t 96, .t 97], none⟩,
  ⟨95, .mv (.t 98), none⟩,
  ⟨99, .ext 0 (.t 95), none⟩,
  ⟨100, .ext 1 (.t 95), none⟩,
  ⟨15, .mv (.t 99), none⟩,
  ⟨16, .mv (.t 100), none⟩]
def r4_17 : List POp := [⟨101, .mv (.t 9), none⟩,
  ⟨102, .mv (.t 11), none⟩,
  ⟨103, .bin .eql (.t 101) (.t 102), none⟩,
  ⟨104, .mv (.t 103), none⟩,
  ⟨105, .mv (.t 10), some (104, true)⟩,
  ⟨106, .mv (.t 12), some (104, true)⟩,
  ⟨107, .bin .eql (.t 105) (.t 106), some (104, true)⟩,
  ⟨108, .pick (.t 104) (.t 107) (.c (.bool false)), none⟩,
  ⟨109, .mv (.t 108), none⟩,
  ⟨110, .mv (.t 13), some (109, true)⟩,
  ⟨111, .mv (.t 15), some (109, true)⟩,
  ⟨112, .bin .eql (.t 110) (.t 111), some (109, true)⟩,
  ⟨113, .pick (.t 109) (.t 112) (.c (.bool false)), none⟩,
  ⟨114, .mv (.t 113), none⟩,
  ⟨115, .mv (.t 14), some (114, true)⟩,
  ⟨116, .mv (.t 16), some (114, true)⟩,
  ⟨117, .bin .eql (.t 115) (.t 116), some (114, true)⟩,
  ⟨118, .pick (.t 114) (.t 117) (.c (.bool false)), none⟩,
  ⟨119, .mv (.t 118), none⟩,
  ⟨120, .call 8 [], some (119, true)⟩,
  ⟨121, .pick (.t 119) (.t 120) (.c (.bool false)), none⟩,
  ⟨8, .asg (.t 121), none⟩]
def p4 : PCode := .seq (.ops r4_0) (.seq (.ops r4_1) (.seq (.ops r4_2) (.seq (.seq (.ops r4_3) (.cond (.t 34) (.seq (.ops r4_4) (.ret)) (.skip))) (.seq (.ops r4_5) (.seq (.ops r4_6) (.seq (.seq (.ops r4_7) (.cond (.t 54) (.seq (.ops r4_8) (.ret)) (.skip))) (.seq (.ops r4_9) (.seq (.ops r4_10) (.seq (.seq (.ops r4_11) (.cond (.t 74) (.seq (.ops r4_12) (.ret)) (.skip))) (.seq (.ops r4_13) (.seq (.ops r4_14) (.seq (.ops r4_15) (.seq (.ops r4_16) (.seq (.ops r4_17) (.ret)))))))))))))))
theorem ok4 : okFunc Tryd.prog 4 [.t 8] 4 p4 = true := by kernel_rfl
set_option maxRecDepth 20000 in
set_option maxHeartbeats 2000000 in
theorem ratespec_d (p : Par) (window rate delay : Int) : CallOK Tryd.prog 4 [.agg p.av, .val (.int .i64 window), .val (.int .i64 rate), .val (.int .i64 delay)] (.val (.bool true)) := by
  refine call_of mixed ok4 rfl ?_
  obtain ⟨v, hV⟩ : ∃ v : Int, parF p = 0 → outB window 1 1000000000000 = false → PkTo p.smps window (fun _ _ => True) v := by
    by_cases h0 : parF p = 0
    · by_cases hr : outB window 1 1000000000000 = true
      · exact ⟨0, fun _ h => by rw [hr] at h; cases h⟩
      · obtain ⟨hl, hb, s1, s2, ht⟩ := par_facts h0
        have hG := good_of hb (smpF_0 (parF_0 h0).1).2.2.1
        have bw := outB_f (Bool.not_eq_true _ ▸ hr)
        obtain ⟨v, h⟩ := PkTo.ex hG bw.1
        exact ⟨v, fun _ _ => h⟩
    · exact ⟨0, fun h => absurd h h0⟩
  have a1 := mean_c p
  have b1 := rmean_c p
  have a2 := peak_c p window v hV
  have b2 := rpeak_c p window v hV
  have a3 := delayP_c p rate
  have b3 := rdelayP_c p rate
  have a4 := full_c p rate delay
  have b4 := rfull_c p rate delay
  have a5 := least_c p delay
  have b5 := rleast_c p delay
  generalize meanF p = A1 at *
  generalize peakR p window v = A2 at *
  generalize delayP p rate = A3 at *
  generalize fullF p rate delay = A4 at *
  generalize leastF p delay = A5 at *
  obtain ⟨m1, f1⟩ := A1
  obtain ⟨m2, f2⟩ := A2
  obtain ⟨m3, f3⟩ := A3
  obtain ⟨m4, f4⟩ := A4
  obtain ⟨m5, f5⟩ := A5
  simp only at a1 b1 a2 b2 a3 b3 a4 b4 a5 b5
  clear hV
  obtain ⟨sc, l⟩ := p
  simp only [Par.av] at a1 b1 a2 b2 a3 b3 a4 b4 a5 b5 ⊢
  have e : ∀ x : Int, (x == x) = true := fun x => by simp
  have n : ∀ x : Int, (x != x) = false := fun x => by simp
  repeat' first | ((with_reducible (first | refine condD ?_ ?_ | refine condE ?_ ?_ | refine condN ?_ ?_ | refine condI ?_ ?_ | refine condS ?_ ?_)) <;> intro h) | ((with_reducible (first | refine guardD (by with_unfolding_all rfl) ?_ ?_ | refine guardE (by with_unfolding_all rfl) ?_ ?_ | refine guardN (by with_unfolding_all rfl) ?_ ?_ | refine guardI (by with_unfolding_all rfl) ?_ ?_ | refine guardS (by with_unfolding_all rfl) ?_ ?_)) <;> intro h) | ((refine callG a1 ?_)) | ((refine callG b1 ?_)) | ((refine callG a2 ?_)) | ((refine callG b2 ?_)) | ((refine callG a3 ?_)) | ((refine callG b3 ?_)) | ((refine callG a4 ?_)) | ((refine callG b4 ?_)) | ((refine callG a5 ?_)) | ((refine callG b5 ?_)) | ((refine callG awake3_c ?_)) | (with_reducible refine And.intro ?_ ?_; omega) | (simp only [done_eq, done_eq', donet_eq, donet_eq', fin_val, fin_tup, fin_agg, fin_ro, res_one, res_more, rv_t, rv_c, rv_l, AV.tup.injEq, AV.agg.injEq, AV.ro.injEq, List.cons.injEq, int_eq, bool_eq, Int.toNat_natCast, Int.reduceToNat, Int.toNat_zero, Int.toNat_one, Int.reduceLE, Int.reduceLT, Int.reduceBEq, Int.reduceBNe, beq_self_eq_true, bne_self_eq_false, decide_true, decide_false,  Int.reduceNeg, toNat_pred, toNat_succ, List.length_map, cnd_t, cnd_f, grd_tt, grd_u, grd_tf, grd_ft, grd_ff, g_skip, g_ops, g_seq, g_block, g_exit, g_ret, x_c, x_o, x_l, x_b, g_b, g_nil, r_all, o_nil, g_cond, o_guard, o_call, o_callm, o_callt, o_callx, o_callv, lk, ef, o_mv, o_pick, o_bin, o_never, o_eqs, o_eqb, o_un, o_conv, o_load, o_loadr, o_idxr, o_loads, o_fld, o_idx, o_idxs, o_len, o_lens, o_ext, o_nilck, o_slc, o_slcs, o_build, o_minmax, o_mkfn, o_alloc, o_box, o_boxs, o_row, o_rowr, o_mk, o_asg, o_app, o_store, o_stores, o_eqnil, hv, eqAV, ev, view_t, view_c, view_nil, view_fn, look_own, look_box, look_junk, look_val, look_nilsl, look_ro, look_roAt, look_agg, look_tup, look_clo, look_alias, look_ref, look_into, rowOf, cellsOf, argv, vbin, vun, bnd, elemOf, putParts, setAt, zav, ASt.rid, ASt.free, AV.kill, AV.isHome, AV.noLoan, AV.cellOK, Value.oneCell', put_at, mk_at, mk_nil, initSt, true_and, and_true, and_self, implies_true, List.map_cons, List.map_nil, List.forall_mem_cons, List.not_mem_nil, false_implies, List.length_cons, List.length_nil, List.getD_cons_zero, List.getD_cons_succ, List.getD_nil, List.drop_succ_cons, List.drop_zero, List.take_succ_cons, List.take_zero, List.set_cons_zero, List.set_cons_succ, List.all_cons, List.all_nil, Bool.and_true, Bool.true_and, Bool.not_true, Bool.not_false, reduceCtorEq, if_true, if_false, Bool.false_eq_true, ↓reduceIte, Nat.reduceEqDiff, Nat.reduceAdd, Nat.reduceSub, Nat.reduceMul, Nat.reduceLeDiff, Nat.reduceLT, ne_eq, not_false_eq_true, not_true_eq_false, Nat.one_ne_zero, Nat.zero_ne_one, r4_0, r4_1, r4_2, r4_3, r4_4, r4_5, r4_6, r4_7, r4_8, r4_9, r4_10, r4_11, r4_12, r4_13, r4_14, r4_15, r4_16, r4_17, p4, e, n]) | (exfalso; omega)
theorem ratespec_c : ∀ avs, HasArgs [.agg [.int .i64, .row [.int .i64, .int .i64, .int .i64, .int .i64, .bool]], .one (.int .i64), .one (.int .i64), .one (.int .i64)] avs → CallOK Tryd.prog 4 avs (.val (.bool true)) := by
  intro avs h
  obtain ⟨v0, r, rfl, h0, h⟩ := args_cons h
  obtain ⟨v1, r, rfl, h1, h⟩ := args_cons h
  obtain ⟨v2, r, rfl, h2, h⟩ := args_cons h
  obtain ⟨v3, r, rfl, h3, h⟩ := args_cons h
  obtain rfl := args_nil h
  obtain ⟨x0, rfl, h0⟩ := h0
  obtain ⟨n0, rfl, hb0⟩ := all_par x0 h0
  obtain ⟨n1, rfl, hb1⟩ := has_int h1
  obtain ⟨n2, rfl, hb2⟩ := has_int h2
  obtain ⟨n3, rfl, hb3⟩ := has_int h3
  exact ratespec_d n0 n1 n2 n3

/-! ### The row -/
open Go.ChangeShapes Go.WideShapes Go.ChangeAt

set_option maxRecDepth 100000 in
theorem ratespec_door (os : Os) (args : Array Value) : laidMetH Tryd.prog Rows.sampleRatesMatchSpecRow.laid ((World.doorLaid Tryd.prog 400 os).forCall (fun _ _ => 0) ⟨#[], args, []⟩).memory :=
  laidMetH_of_parts3 (fuel := 8) (laidMet_of_run' 8 (by kernel_rfl) (by kernel_rfl)) (by kernel_rfl) (by kernel_rfl)
set_option maxRecDepth 100000 in
theorem ratespec_lifted (os : Os) (started : os.Started) (H : Type) (enc : TypeId × Value → H) :
    ReturnsInHanded {} Tryd.checked os 4 .any (fun w args => (Rows.sampleRatesMatchSpecSpec.pre enc Tryd.prog Tryd.f4 [] false w args ∧ laidMetH Tryd.prog Rows.sampleRatesMatchSpecRow.laid w) ∧ sizedMet enc Tryd.prog Tryd.f4 (OpenSpec.ofChange Rows.sampleRatesMatchSpecSpec) false w args) (Rows.sampleRatesMatchSpecSpec.post enc Tryd.prog Tryd.f4 false true false false) := by
  refine returnsInHanded_of_change_and (C := Tryd.checked) (X := fun w _ => laidMetH Tryd.prog Rows.sampleRatesMatchSpecRow.laid w) (fun _ _ _ hh h => h.of_heap hh) own_knob started (by kernel_rfl) Tryd.func4
    (ChangeSpec.witness_shaped (enc := enc) (C := Tryd.checked) (os := os) (X := fun w _ => laidMetH Tryd.prog Rows.sampleRatesMatchSpecRow.laid w) false (World.doorLaid Tryd.prog 400 os) #[.agg #[.int .i64 0, .slice none 0 0], .int .i64 0, .int .i64 0, .int .i64 0] 8 rfl (World.shaped_of_RefB (by kernel_rfl) (by kernel_rfl)) (by kernel_rfl) (by kernel_rfl) (by kernel_rfl) (ratespec_door os _)) ?_
  intro W base args ds gs before hval hW _ _ hL _
  refine law_step rfl (by kernel_rfl) (fun ds h => ?_) ?_ hval hW ?_
  · match ds, h with | [a, b, c, d], _ => exact ⟨rfl, rfl, rfl⟩
  · rw [Tryd.params4]
    intro t ht
    simp only [List.mem_cons, List.not_mem_nil, or_false] at ht
    repeat' (first | (rcases ht with rfl | ht) | subst ht)
    all_goals exact ⟨by kernel_rfl, of_decide_eq_true (by kernel_rfl)⟩
  · rw [Tryd.params4]
    intro hin
    exact law_dmT (ss := [.agg [.int .i64, .row [.int .i64, .int .i64, .int .i64, .int .i64, .bool]], .one (.int .i64), .one (.int .i64), .one (.int .i64)]) (by kernel_rfl) hin (tab_of_laid 2 (by kernel_rfl) (by kernel_rfl) hL) ratespec_c
theorem ratespec_row : Rows.SampleRatesMatchSpecSaid :=
  OpenClaim.holds_of_wide 4 Tryd.f4 rfl rfl rfl rfl rfl rfl rfl ⟨rfl, rfl, rfl, rfl, rfl⟩ rfl rfl rfl rfl rfl (by kernel_rfl) Tryd.func4 (by kernel_rfl)
    (of_decide_eq_true (by kernel_rfl)) (by unfold Func.isWrapper; first | (rw [if_pos (by decide +kernel)]; kernel_rfl) | (rw [if_neg (by decide +kernel)]; exact ⟨rfl, rfl⟩))
    (fun os started H enc _ => ratespec_lifted os started H enc)

/-- The card: what the row lists is tied to the program's text. -/
theorem ratespec_holds : Rows.SampleRatesMatchSpecCardSaid :=
  Claim7.holds_tied_plain_at .later [] [.data, .data, .data, .sentinel, .sentinel] true (true, "6d026b21510049021608216a4a852aacd40e43dff67dd665e815114617fa0dab") true
    ratespec_row (fun _ h => by cases h) (by kernel_rfl) (fun _ h => by cases h) sampleRatesMatchSpec_row_tie rfl ⟨rfl, rfl⟩ (by kernel_rfl) rfl
    (fun f fn hf hfn => by
      obtain rfl : f = 4 := Option.some.inj ((show Tryd.prog.funcNamed "headend/headendlaw3.SampleRatesMatchSpec" = some 4 by kernel_rfl).symm.trans hf) |>.symm
      obtain rfl : fn = Tryd.f4 := (Option.some.inj (Tryd.func4.symm.trans hfn)).symm
      exact ⟨by kernel_rfl, fun j t ht => by
        rw [Tryd.params4] at ht
        have hm := Array.mem_of_getElem? ht
        have hall : ([34, 3, 3, 3].all fun u => !Tryd.prog.wantsStandIn u) = true := by kernel_rfl
        have hm : t ∈ [34, 3, 3, 3] := by simpa using hm
        exact (show Tryd.prog.wantsStandIn t = false by simpa using List.all_eq_true.1 hall t hm)⟩)
    (by kernel_rfl)

end Go.Proofs.YtbdcnooafacldaaDoor
