/- Live lists: list.Check, kit.First, by the machine on data. -/
import Derived.Test.YtpecmhdepggnoaaKLvB
namespace Go.Proofs.Ytpecmhdepggnoaa
open Go.RowKit
open Go.Proofs.Ytpecmhdepggnoaa renaming done_eq → Z0, done_eq' → Z1, donet_eq → Z2, donet_eq' → Z3, fin_val → Z4, fin_tup → Z5, fin_agg → Z6, fin_ro → Z7, res_one → Z8, res_more → Z9, rv_t → Za, rv_c → Zb, rv_l → Zc, int_eq → Zg, bool_eq → Zh, toNat_pred → Zr, toNat_succ → Zs, cnd_t → Zu, cnd_f → Zv, grd_tt → Zw, grd_u → Zx, grd_tf → Zy, grd_ft → Zz, grd_ff → Y0, g_skip → Y1, g_ops → Y2, g_seq → Y3, g_block → Y4, g_exit → Y5, g_ret → Y6, x_c → Y7, x_o → Y8, x_l → Y9, x_b → Ya, g_b → Yb, g_nil → Yc, r_all → Yd, o_nil → Ye, g_cond → Yf, o_guard → Yg, o_call → Yh, o_callm → Yi, o_callt → Yj, o_callx → Yk, o_callv → Yl, o_callc → Ym, o_callh → Yn, o_apph → Yo, noav_alias → Yp, noav_nil → Yq, o_mv → Yr, o_pick → Ys, o_bin → Yt, o_never → Yu, o_eqs → Yv, o_eqb → Yw, o_un → Yx, o_conv → Yy, o_load → Yz, o_loadr → X0, o_idxr → X1, o_loads → X2, o_loadsr → X3, o_fld → X4, o_idx → X5, o_idxs → X6, o_len → X7, o_lens → X8, o_ext → X9, o_nilck → Xa, o_slc → Xb, o_slcs → Xc, o_build → Xd, o_minmax → Xe, o_mkfn → Xf, o_mkfnr → Xg, o_alloc → Xh, o_box → Xi, o_boxs → Xj, o_row → Xk, o_rowr → Xl, o_mk → Xm, o_asg → Xn, o_app → Xo, o_appa → Xp, o_store → Xq, o_stores → Xr, o_eqnil → Xs, eqAV → Xt, view_t → Xu, view_c → Xv, view_nil → Xw, view_fn → Xx, look_own → Xy, look_box → Xz, look_junk → W0, look_val → W1, look_nilsl → W2, look_ro → W3, look_roAt → W4, look_agg → W5, look_tup → W6, look_clo → W7, look_alias → W8, look_ref → W9, look_into → Wa, look_fnv → Wb, look_held → Wc, rowOf → Wd, cellsOf → We, argv → Wf, vbin → Wg, vun → Wh, bnd → Wi, elemOf → Wj, putParts → Wk, setAt → Wl, zav → Wm, put_at → Wu, mk_at → Wv, mk_nil → Ww, initSt → Wx, wk_cons → Vt, wk_nil → Vu, vint_eq → Vv, vbool_eq → Vw
open Go.Proofs.Ytpecmhdepggnoaa.AV.tup renaming injEq → Zd
open Go.Proofs.Ytpecmhdepggnoaa.AV.agg renaming injEq → Ze
open Go.Proofs.Ytpecmhdepggnoaa.AV.ro renaming injEq → Zf
open _root_.Int renaming toNat_natCast → Zi, reduceToNat → Zj, toNat_zero → Zk, toNat_one → Zl, reduceLE → Zm, reduceLT → Zn, reduceBEq → Zo, reduceBNe → Zp, reduceNeg → Zq
open _root_.List renaming length_map → Zt, map_cons → Wy, map_nil → Wz, forall_mem_cons → V0, not_mem_nil → V1, length_cons → V2, length_nil → V3, getD_cons_zero → V4, getD_cons_succ → V5, getD_nil → V6, drop_succ_cons → V7, drop_zero → V8, take_succ_cons → V9, take_zero → Va, set_cons_zero → Vb, set_cons_succ → Vc, all_cons → Vd, all_nil → Ve
open Go.Proofs.Ytpecmhdepggnoaa.ASt renaming rid → Wn, hold → Wo, free → Wp
open Go.Proofs.Ytpecmhdepggnoaa.AV renaming kill → Wq, isHome → Wr, noLoan → Ws, cellOK → Wt
open _root_.Bool renaming and_true → Vf, true_and → Vg, not_true → Vh, not_false → Vi, false_eq_true → Vj
open _root_.Nat renaming reduceEqDiff → Vk, reduceBNe → Vl, reduceAdd → Vm, reduceSub → Vn, reduceMul → Vo, reduceLeDiff → Vp, reduceLT → Vq, one_ne_zero → Vr, zero_ne_one → Vs
open Go.Proofs.Ytpecmhdepggnoaa.AV.val renaming injEq → Vx
set_option linter.unusedSimpArgs false
--@short

structure PL where
  target : Int
  first : Int
  breaks : Int
  ents : List LE
  ended : Bool
def PL.av (l : PL) : List AV := [.val (.int .i64 l.target), .val (.int .i64 l.first), .val (.int .i64 l.breaks), .ro (l.ents.map LE.av), .val (.bool l.ended)]
def PL.ok (l : PL) : Prop := l.ents.length ≤ 9000000000000000000 ∧ ∀ e ∈ l.ents, e.ok
def ckGo (t : Int) : List LE → Int
  | [] => 0
  | e :: r => if efF e t ≠ 0 then efF e t else ckGo t r
def ckF (l : PL) : Int :=
  if outB l.target 1 3600 || outB l.first 0 999999999999000 || outB l.breaks 0 1000000000000000 then 1 else if 1000 < l.ents.length then 2 else ckGo l.target l.ents
theorem ckGo_all {t : Int} : ∀ {l : List LE}, ckGo t l = 0 ↔ ∀ e ∈ l, efF e t = 0
  | [] => by simp [ckGo]
  | e :: r => by
    rw [ckGo]
    by_cases h : efF e t = 0
    · rw [if_neg (by simpa using h), ckGo_all]; simp [h]
    · rw [if_pos h]; simp [h]
theorem ckF_0 {l : PL} : ckF l = 0 ↔ (1 ≤ l.target ∧ l.target ≤ 3600) ∧ (0 ≤ l.first ∧ l.first ≤ 999999999999000) ∧ (0 ≤ l.breaks ∧ l.breaks ≤ 1000000000000000) ∧ l.ents.length ≤ 1000 ∧ ∀ e ∈ l.ents, efF e l.target = 0 := by
  unfold ckF
  split
  · rename_i h
    simp only [outB, Bool.or_eq_true, decide_eq_true_eq] at h
    constructor
    · intro e; cases e
    · rintro ⟨h1, h2, h3, _⟩; omega
  · rename_i h
    simp only [outB, Bool.or_eq_true, decide_eq_true_eq, not_or] at h
    split
    · constructor
      · intro e; cases e
      · rintro ⟨_, _, _, h4, _⟩; omega
    · rw [ckGo_all]
      constructor
      · intro e; exact ⟨by omega, by omega, by omega, by omega, e⟩
      · rintro ⟨_, _, _, _, e⟩; exact e
/-! headend/list.Check -/
def r26_0 : List POp := [⟨1, .boxs (.t 0), none⟩,
  ⟨2, .asg (.c (.int .i64 0)), none⟩]
def r26_1 : List POp := [⟨7, .fld 0 (.t 1), none⟩,
  ⟨8, .load (.t 7), none⟩,
  ⟨9, .call 32 [.t 8, .c (.int .i64 1), .c (.int .i64 3600)], none⟩,
  ⟨10, .mv (.t 9), none⟩,
  ⟨11, .fld 1 (.t 1), some (10, false)⟩,
  ⟨12, .load (.t 11), some (10, false)⟩,
  ⟨13, .call 32 [.t 12, .c (.int .i64 0), .c (.int .i64 999999999999000)], some (10, false)⟩,
  ⟨14, .pick (.t 10) (.c (.bool true)) (.t 13), none⟩,
  ⟨15, .mv (.t 14), none⟩,
  ⟨16, .fld 2 (.t 1), some (15, false)⟩,
  ⟨17, .load (.t 16), some (15, false)⟩,
  ⟨18, .call 32 [.t 17, .c (.int .i64 0), .c (.int .i64 1000000000000000)], some (15, false)⟩,
  ⟨19, .pick (.t 15) (.c (.bool true)) (.t 18), none⟩,
  ⟨6, .asg (.t 19), none⟩]
def r26_2 : List POp := [⟨2, .asg (.c (.int .i64 1)), none⟩]
def r26_3 : List POp := [⟨21, .fld 3 (.t 1), none⟩,
  ⟨22, .load (.t 21), none⟩,
  ⟨23, .len (.t 22), none⟩,
  ⟨24, .bin .gtr (.t 23) (.c (.int .i64 1000)), none⟩,
  ⟨20, .asg (.t 24), none⟩]
def r26_4 : List POp := [⟨2, .asg (.c (.int .i64 2)), none⟩]
def r26_5 : List POp := [⟨25, .fld 3 (.t 1), none⟩,
  ⟨26, .load (.t 25), none⟩,
  ⟨27, .len (.t 26), none⟩,
  ⟨28, .mv (.c (.int .i64 0)), none⟩]
def r26_6 : List POp := [⟨29, .bin .lss (.t 28) (.t 27), none⟩]
def r26_7 : List POp := [⟨30, .idx 7 (.t 26) (.t 28), none⟩,
  ⟨31, .loads 7 (.t 30), none⟩,
  ⟨4, .alloc [.string ⟨#[]⟩, .int .i64 0, .bool false, .int .i64 0, .string ⟨#[]⟩, .bool false, .slice none 0 0], none⟩,
  ⟨0, .stores 7 (.t 4) (.t 31), none⟩]
def r26_8 : List POp := [⟨32, .loads 7 (.t 4), none⟩,
  ⟨33, .fld 0 (.t 1), none⟩,
  ⟨34, .load (.t 33), none⟩,
  ⟨35, .call 53 [.t 32, .t 34], none⟩,
  ⟨5, .asg (.t 35), none⟩]
def r26_9 : List POp := [⟨36, .mv (.t 5), none⟩,
  ⟨37, .bin .neq (.t 36) (.c (.int .i64 0)), none⟩]
def r26_10 : List POp := [⟨38, .mv (.t 5), none⟩,
  ⟨2, .asg (.t 38), none⟩]
def r26_11 : List POp := [⟨39, .bin .add (.t 28) (.c (.int .i64 1)), none⟩,
  ⟨28, .mv (.t 39), none⟩]
def r26_12 : List POp := [⟨2, .asg (.c (.int .i64 0)), none⟩]
def l26_0 : PCode := .seq (.ops r26_6) (.seq (.cond (.t 29) (.skip) (.exit 1)) (.seq (.block 2 (.seq (.ops r26_7) (.seq (.ops r26_8) (.seq (.ops r26_9) (.cond (.t 37) (.seq (.ops r26_10) (.ret)) (.skip)))))) (.ops r26_11)))
def p26 : PCode := .seq (.ops r26_0) (.seq (.block 0 (.seq (.ops r26_1) (.cond (.t 6) (.seq (.ops r26_2) (.ret)) (.seq (.ops r26_3) (.cond (.t 20) (.seq (.ops r26_4) (.ret)) (.skip)))))) (.seq (.seq (.ops r26_5) (.block 1 (.loop l26_0))) (.seq (.ops r26_12) (.ret))))
theorem ok26 : okFunc Try.prog 26 [.t 2] 1 p26 = true := by kernel_rfl
set_option maxHeartbeats 1000000 in
theorem check_c (l : PL) (hok : l.ok) : CallOK Try.prog 26 [.agg l.av] (.val (.int .i64 (ckF l))) := by
  refine call_of mixed ok26 rfl ?_
  have c1 := out_c l.target 1 3600
  have c2 := out_c l.first 0 999999999999000
  have c3 := out_c l.breaks 0 1000000000000000
  obtain ⟨hl, he⟩ := hok
  cases q1 : outB l.target 1 3600
  case true =>
    rw [show ckF l = 1 by unfold ckF; rw [if_pos (by simp [q1])]]
    rw [q1] at c1
    repeat' first | ((with_reducible (first | refine condD ?_ ?_ | refine condE ?_ ?_ | refine condN ?_ ?_ | refine condI ?_ ?_ | refine condS ?_ ?_)) <;> intro h) | ((with_reducible (first | refine guardD (by with_unfolding_all rfl) ?_ ?_ | refine guardE (by with_unfolding_all rfl) ?_ ?_ | refine guardN (by with_unfolding_all rfl) ?_ ?_ | refine guardI (by with_unfolding_all rfl) ?_ ?_ | refine guardS (by with_unfolding_all rfl) ?_ ?_)) <;> intro h) | ((refine callG c1 ?_)) | (with_reducible refine And.intro ?_ ?_; omega) | (simp only [Z0,Z1,Z2,Z3,Z4,Z5,Z6,Z7,Z8,Z9,Za,Zb,Zc,Zd,Ze,Zf,List.cons.injEq,Zg,Zh,Zi,Zj,Zk,Zl,Zm,Zn,Zo,Zp,beq_self_eq_true,bne_self_eq_false,decide_true,decide_false,Zq,Zr,Zs,Zt,Zu,Zv,Zw,Zx,Zy,Zz,Y0,Y1,Y2,Y3,Y4,Y5,Y6,Y7,Y8,Y9,Ya,Yb,Yc,Yd,Ye,Yf,Yg,Yh,Yi,Yj,Yk,Yl,Ym,Yn,Yo,Yp,Yq,lk,ef,Yr,Ys,Yt,Yu,Yv,Yw,Yx,Yy,Yz,X0,X1,X2,X3,X4,X5,X6,X7,X8,X9,Xa,Xb,Xc,Xd,Xe,Xf,Xg,Xh,Xi,Xj,Xk,Xl,Xm,Xn,Xo,Xp,Xq,Xr,Xs,hv,Xt,ev,Xu,Xv,Xw,Xx,Xy,Xz,W0,W1,W2,W3,W4,W5,W6,W7,W8,W9,Wa,Wb,Wc,Wd,We,Wf,Wg,Wh,Wi,Wj,Wk,Wl,Wm,Wn,Wo,Wp,Wq,Wr,Ws,Wt,Value.oneCell',Wu,Wv,Ww,Wx,true_and,and_true,and_self,implies_true,Wy,Wz,V0,V1,false_implies,V2,V3,V4,V5,V6,V7,V8,V9,Va,Vb,Vc,Vd,Ve,Vf,Vg,Vh,Vi,reduceCtorEq,if_true,if_false,Vj,↓reduceIte,Vk,Vl,Vm,Vn,Vo,Vp,Vq,ne_eq,not_false_eq_true,not_true_eq_false,Vr,Vs,r26_0,r26_1,r26_2,r26_3,r26_4,r26_5,r26_6,r26_7,r26_8,r26_9,r26_10,r26_11,r26_12,p26,PL.av]) | (exfalso; omega)
  cases q2 : outB l.first 0 999999999999000
  case true =>
    rw [show ckF l = 1 by unfold ckF; rw [if_pos (by simp [q2])]]
    rw [q1] at c1
    rw [q2] at c2
    repeat' first | ((with_reducible (first | refine condD ?_ ?_ | refine condE ?_ ?_ | refine condN ?_ ?_ | refine condI ?_ ?_ | refine condS ?_ ?_)) <;> intro h) | ((with_reducible (first | refine guardD (by with_unfolding_all rfl) ?_ ?_ | refine guardE (by with_unfolding_all rfl) ?_ ?_ | refine guardN (by with_unfolding_all rfl) ?_ ?_ | refine guardI (by with_unfolding_all rfl) ?_ ?_ | refine guardS (by with_unfolding_all rfl) ?_ ?_)) <;> intro h) | ((refine callG c1 ?_)) | ((refine callG c2 ?_)) | (with_reducible refine And.intro ?_ ?_; omega) | (simp only [Z0,Z1,Z2,Z3,Z4,Z5,Z6,Z7,Z8,Z9,Za,Zb,Zc,Zd,Ze,Zf,List.cons.injEq,Zg,Zh,Zi,Zj,Zk,Zl,Zm,Zn,Zo,Zp,beq_self_eq_true,bne_self_eq_false,decide_true,decide_false,Zq,Zr,Zs,Zt,Zu,Zv,Zw,Zx,Zy,Zz,Y0,Y1,Y2,Y3,Y4,Y5,Y6,Y7,Y8,Y9,Ya,Yb,Yc,Yd,Ye,Yf,Yg,Yh,Yi,Yj,Yk,Yl,Ym,Yn,Yo,Yp,Yq,lk,ef,Yr,Ys,Yt,Yu,Yv,Yw,Yx,Yy,Yz,X0,X1,X2,X3,X4,X5,X6,X7,X8,X9,Xa,Xb,Xc,Xd,Xe,Xf,Xg,Xh,Xi,Xj,Xk,Xl,Xm,Xn,Xo,Xp,Xq,Xr,Xs,hv,Xt,ev,Xu,Xv,Xw,Xx,Xy,Xz,W0,W1,W2,W3,W4,W5,W6,W7,W8,W9,Wa,Wb,Wc,Wd,We,Wf,Wg,Wh,Wi,Wj,Wk,Wl,Wm,Wn,Wo,Wp,Wq,Wr,Ws,Wt,Value.oneCell',Wu,Wv,Ww,Wx,true_and,and_true,and_self,implies_true,Wy,Wz,V0,V1,false_implies,V2,V3,V4,V5,V6,V7,V8,V9,Va,Vb,Vc,Vd,Ve,Vf,Vg,Vh,Vi,reduceCtorEq,if_true,if_false,Vj,↓reduceIte,Vk,Vl,Vm,Vn,Vo,Vp,Vq,ne_eq,not_false_eq_true,not_true_eq_false,Vr,Vs,r26_0,r26_1,r26_2,r26_3,r26_4,r26_5,r26_6,r26_7,r26_8,r26_9,r26_10,r26_11,r26_12,p26,PL.av]) | (exfalso; omega)
  cases q3 : outB l.breaks 0 1000000000000000
  case true =>
    rw [show ckF l = 1 by unfold ckF; rw [if_pos (by simp [q3])]]
    rw [q1] at c1
    rw [q2] at c2
    rw [q3] at c3
    repeat' first | ((with_reducible (first | refine condD ?_ ?_ | refine condE ?_ ?_ | refine condN ?_ ?_ | refine condI ?_ ?_ | refine condS ?_ ?_)) <;> intro h) | ((with_reducible (first | refine guardD (by with_unfolding_all rfl) ?_ ?_ | refine guardE (by with_unfolding_all rfl) ?_ ?_ | refine guardN (by with_unfolding_all rfl) ?_ ?_ | refine guardI (by with_unfolding_all rfl) ?_ ?_ | refine guardS (by with_unfolding_all rfl) ?_ ?_)) <;> intro h) | ((refine callG c1 ?_)) | ((refine callG c2 ?_)) | ((refine callG c3 ?_)) | (with_reducible refine And.intro ?_ ?_; omega) | (simp only [Z0,Z1,Z2,Z3,Z4,Z5,Z6,Z7,Z8,Z9,Za,Zb,Zc,Zd,Ze,Zf,List.cons.injEq,Zg,Zh,Zi,Zj,Zk,Zl,Zm,Zn,Zo,Zp,beq_self_eq_true,bne_self_eq_false,decide_true,decide_false,Zq,Zr,Zs,Zt,Zu,Zv,Zw,Zx,Zy,Zz,Y0,Y1,Y2,Y3,Y4,Y5,Y6,Y7,Y8,Y9,Ya,Yb,Yc,Yd,Ye,Yf,Yg,Yh,Yi,Yj,Yk,Yl,Ym,Yn,Yo,Yp,Yq,lk,ef,Yr,Ys,Yt,Yu,Yv,Yw,Yx,Yy,Yz,X0,X1,X2,X3,X4,X5,X6,X7,X8,X9,Xa,Xb,Xc,Xd,Xe,Xf,Xg,Xh,Xi,Xj,Xk,Xl,Xm,Xn,Xo,Xp,Xq,Xr,Xs,hv,Xt,ev,Xu,Xv,Xw,Xx,Xy,Xz,W0,W1,W2,W3,W4,W5,W6,W7,W8,W9,Wa,Wb,Wc,Wd,We,Wf,Wg,Wh,Wi,Wj,Wk,Wl,Wm,Wn,Wo,Wp,Wq,Wr,Ws,Wt,Value.oneCell',Wu,Wv,Ww,Wx,true_and,and_true,and_self,implies_true,Wy,Wz,V0,V1,false_implies,V2,V3,V4,V5,V6,V7,V8,V9,Va,Vb,Vc,Vd,Ve,Vf,Vg,Vh,Vi,reduceCtorEq,if_true,if_false,Vj,↓reduceIte,Vk,Vl,Vm,Vn,Vo,Vp,Vq,ne_eq,not_false_eq_true,not_true_eq_false,Vr,Vs,r26_0,r26_1,r26_2,r26_3,r26_4,r26_5,r26_6,r26_7,r26_8,r26_9,r26_10,r26_11,r26_12,p26,PL.av]) | (exfalso; omega)
  rw [q1] at c1
  rw [q2] at c2
  rw [q3] at c3
  have hr : ckF l = if 1000 < l.ents.length then 2 else ckGo l.target l.ents := by unfold ckF; rw [if_neg (by simp [q1, q2, q3])]
  rw [hr]
  clear hr
  by_cases q4 : 1000 < l.ents.length
  · rw [if_pos q4]
    have q4i : (1000 : Int) < l.ents.length := by omega
    repeat' first | ((with_reducible (first | refine condD ?_ ?_ | refine condE ?_ ?_ | refine condN ?_ ?_ | refine condI ?_ ?_ | refine condS ?_ ?_)) <;> intro h) | ((with_reducible (first | refine guardD (by with_unfolding_all rfl) ?_ ?_ | refine guardE (by with_unfolding_all rfl) ?_ ?_ | refine guardN (by with_unfolding_all rfl) ?_ ?_ | refine guardI (by with_unfolding_all rfl) ?_ ?_ | refine guardS (by with_unfolding_all rfl) ?_ ?_)) <;> intro h) | ((refine callG c1 ?_)) | ((refine callG c2 ?_)) | ((refine callG c3 ?_)) | (with_reducible refine And.intro ?_ ?_; omega) | (simp only [Z0,Z1,Z2,Z3,Z4,Z5,Z6,Z7,Z8,Z9,Za,Zb,Zc,Zd,Ze,Zf,List.cons.injEq,Zg,Zh,Zi,Zj,Zk,Zl,Zm,Zn,Zo,Zp,beq_self_eq_true,bne_self_eq_false,decide_true,decide_false,Zq,Zr,Zs,Zt,Zu,Zv,Zw,Zx,Zy,Zz,Y0,Y1,Y2,Y3,Y4,Y5,Y6,Y7,Y8,Y9,Ya,Yb,Yc,Yd,Ye,Yf,Yg,Yh,Yi,Yj,Yk,Yl,Ym,Yn,Yo,Yp,Yq,lk,ef,Yr,Ys,Yt,Yu,Yv,Yw,Yx,Yy,Yz,X0,X1,X2,X3,X4,X5,X6,X7,X8,X9,Xa,Xb,Xc,Xd,Xe,Xf,Xg,Xh,Xi,Xj,Xk,Xl,Xm,Xn,Xo,Xp,Xq,Xr,Xs,hv,Xt,ev,Xu,Xv,Xw,Xx,Xy,Xz,W0,W1,W2,W3,W4,W5,W6,W7,W8,W9,Wa,Wb,Wc,Wd,We,Wf,Wg,Wh,Wi,Wj,Wk,Wl,Wm,Wn,Wo,Wp,Wq,Wr,Ws,Wt,Value.oneCell',Wu,Wv,Ww,Wx,true_and,and_true,and_self,implies_true,Wy,Wz,V0,V1,false_implies,V2,V3,V4,V5,V6,V7,V8,V9,Va,Vb,Vc,Vd,Ve,Vf,Vg,Vh,Vi,reduceCtorEq,if_true,if_false,Vj,↓reduceIte,Vk,Vl,Vm,Vn,Vo,Vp,Vq,ne_eq,not_false_eq_true,not_true_eq_false,Vr,Vs,r26_0,r26_1,r26_2,r26_3,r26_4,r26_5,r26_6,r26_7,r26_8,r26_9,r26_10,r26_11,r26_12,p26,PL.av,q4i,List.length_map]) | (exfalso; omega)
  rw [if_neg q4]
  have q4i : ¬ (1000 : Int) < l.ents.length := by omega
  repeat' first | ((with_reducible (first | refine condD ?_ ?_ | refine condE ?_ ?_ | refine condN ?_ ?_ | refine condI ?_ ?_ | refine condS ?_ ?_)) <;> intro h) | ((with_reducible (first | refine guardD (by with_unfolding_all rfl) ?_ ?_ | refine guardE (by with_unfolding_all rfl) ?_ ?_ | refine guardN (by with_unfolding_all rfl) ?_ ?_ | refine guardI (by with_unfolding_all rfl) ?_ ?_ | refine guardS (by with_unfolding_all rfl) ?_ ?_)) <;> intro h) | ((refine callG c1 ?_)) | ((refine callG c2 ?_)) | ((refine callG c3 ?_)) | (with_reducible refine And.intro ?_ ?_; omega) | (simp only [Z0,Z1,Z2,Z3,Z4,Z5,Z6,Z7,Z8,Z9,Za,Zb,Zc,Zd,Ze,Zf,List.cons.injEq,Zg,Zh,Zi,Zj,Zk,Zl,Zm,Zn,Zo,Zp,beq_self_eq_true,bne_self_eq_false,decide_true,decide_false,Zq,Zr,Zs,Zt,Zu,Zv,Zw,Zx,Zy,Zz,Y0,Y1,Y2,Y3,Y4,Y5,Y6,Y7,Y8,Y9,Ya,Yb,Yc,Yd,Ye,Yf,Yg,Yh,Yi,Yj,Yk,Yl,Ym,Yn,Yo,Yp,Yq,lk,ef,Yr,Ys,Yt,Yu,Yv,Yw,Yx,Yy,Yz,X0,X1,X2,X3,X4,X5,X6,X7,X8,X9,Xa,Xb,Xc,Xd,Xe,Xf,Xg,Xh,Xi,Xj,Xk,Xl,Xm,Xn,Xo,Xp,Xq,Xr,Xs,hv,Xt,ev,Xu,Xv,Xw,Xx,Xy,Xz,W0,W1,W2,W3,W4,W5,W6,W7,W8,W9,Wa,Wb,Wc,Wd,We,Wf,Wg,Wh,Wi,Wj,Wk,Wl,Wm,Wn,Wo,Wp,Wq,Wr,Ws,Wt,Value.oneCell',Wu,Wv,Ww,Wx,true_and,and_true,and_self,implies_true,Wy,Wz,V0,V1,false_implies,V2,V3,V4,V5,V6,V7,V8,V9,Va,Vb,Vc,Vd,Ve,Vf,Vg,Vh,Vi,reduceCtorEq,if_true,if_false,Vj,↓reduceIte,Vk,Vl,Vm,Vn,Vo,Vp,Vq,ne_eq,not_false_eq_true,not_true_eq_false,Vr,Vs,r26_0,r26_1,r26_2,r26_3,r26_4,r26_5,r26_6,r26_7,r26_8,r26_9,r26_10,r26_11,r26_12,p26,PL.av,q4i,List.length_map]) | (exfalso; omega)
  refine loopS (fun k : Nat => mk [(1, .box [.val (.int .i64 l.target), .val (.int .i64 l.first), .val (.int .i64 l.breaks), .ro (l.ents.map LE.av), .val (.bool l.ended)]), (26, .ro (l.ents.map LE.av)), (27, .val (.int .i64 l.ents.length)), (28, .val (.int .i64 k))]) (fun k => k ≤ l.ents.length ∧ ckGo l.target l.ents = ckGo l.target (l.ents.drop k)) (fun k => l.ents.length - k) 0 (weak_mk ?_) ⟨Nat.zero_le _, rfl⟩ ?_
  · simp only [Vt,Vu,wk1,Vv,Vw,Vx,Z0,Z1,Z2,Z3,Z4,Z5,Z6,Z7,Z8,Z9,Za,Zb,Zc,Zd,Ze,Zf,List.cons.injEq,Zg,Zh,Zi,Zj,Zk,Zl,Zm,Zn,Zo,Zp,beq_self_eq_true,bne_self_eq_false,decide_true,decide_false,Zq,Zr,Zs,Zt,Zu,Zv,Zw,Zx,Zy,Zz,Y0,Y1,Y2,Y3,Y4,Y5,Y6,Y7,Y8,Y9,Ya,Yb,Yc,Yd,Ye,Yf,Yg,Yh,Yi,Yj,Yk,Yl,Ym,Yn,Yo,Yp,Yq,lk,ef,Yr,Ys,Yt,Yu,Yv,Yw,Yx,Yy,Yz,X0,X1,X2,X3,X4,X5,X6,X7,X8,X9,Xa,Xb,Xc,Xd,Xe,Xf,Xg,Xh,Xi,Xj,Xk,Xl,Xm,Xn,Xo,Xp,Xq,Xr,Xs,hv,Xt,ev,Xu,Xv,Xw,Xx,Xy,Xz,W0,W1,W2,W3,W4,W5,W6,W7,W8,W9,Wa,Wb,Wc,Wd,We,Wf,Wg,Wh,Wi,Wj,Wk,Wl,Wm,Wn,Wo,Wp,Wq,Wr,Ws,Wt,Value.oneCell',Wu,Wv,Ww,Wx,true_and,and_true,and_self,implies_true,Wy,Wz,V0,V1,false_implies,V2,V3,V4,V5,V6,V7,V8,V9,Va,Vb,Vc,Vd,Ve,Vf,Vg,Vh,Vi,reduceCtorEq,if_true,if_false,Vj,↓reduceIte,Vk,Vl,Vm,Vn,Vo,Vp,Vq,ne_eq,not_false_eq_true,not_true_eq_false,Vr,Nat.zero_ne_one]
    all_goals first | done | rfl | simp
  rintro J hJ k ⟨hk, hg⟩
  simp only [Z0,Z1,Z2,Z3,Z4,Z5,Z6,Z7,Z8,Z9,Za,Zb,Zc,Zd,Ze,Zf,List.cons.injEq,Zg,Zh,Zi,Zj,Zk,Zl,Zm,Zn,Zo,Zp,beq_self_eq_true,bne_self_eq_false,decide_true,decide_false,Zq,Zr,Zs,Zt,Zu,Zv,Zw,Zx,Zy,Zz,Y0,Y1,Y2,Y3,Y4,Y5,Y6,Y7,Y8,Y9,Ya,Yb,Yc,Yd,Ye,Yf,Yg,Yh,Yi,Yj,Yk,Yl,Ym,Yn,Yo,Yp,Yq,lk,ef,Yr,Ys,Yt,Yu,Yv,Yw,Yx,Yy,Yz,X0,X1,X2,X3,X4,X5,X6,X7,X8,X9,Xa,Xb,Xc,Xd,Xe,Xf,Xg,Xh,Xi,Xj,Xk,Xl,Xm,Xn,Xo,Xp,Xq,Xr,Xs,hv,Xt,ev,Xu,Xv,Xw,Xx,Xy,Xz,W0,W1,W2,W3,W4,W5,W6,W7,W8,W9,Wa,Wb,Wc,Wd,We,Wf,Wg,Wh,Wi,Wj,Wk,Wl,Wm,Wn,Wo,Wp,Wq,Wr,Ws,Wt,Value.oneCell',Wu,Wv,Ww,Wx,true_and,and_true,and_self,implies_true,Wy,Wz,V0,V1,false_implies,V2,V3,V4,V5,V6,V7,V8,V9,Va,Vb,Vc,Vd,Ve,Vf,Vg,Vh,Vi,reduceCtorEq,if_true,if_false,Vj,↓reduceIte,Vk,Vl,Vm,Vn,Vo,Vp,Vq,ne_eq,not_false_eq_true,not_true_eq_false,Vr,Vs,r26_0,r26_1,r26_2,r26_3,r26_4,r26_5,r26_6,r26_7,r26_8,r26_9,r26_10,r26_11,r26_12,p26,l26_0]
  refine condD (fun h => ?_) (fun h => ?_)
  · have hlt : k < l.ents.length := by omega
    have hw := i_add1 k (by omega)
    have gK := getD_map (f := LE.av) (d := []) hlt
    have hki : (k : Int) < l.ents.length := by omega
    have k0 : (0 : Int) ≤ (k : Int) := by omega
    have p1 := entryfault_c l.ents[k] (he _ (List.getElem_mem hlt)) l.target
    rw [List.drop_eq_getElem_cons hlt, ckGo] at hg
    simp only [LE.av] at gK p1
    by_cases q5 : efF l.ents[k] l.target = 0
    · rw [if_neg (by simpa using q5)] at hg
      rw [q5] at p1
      generalize l.ents[k] = e at *
      repeat' first | ((with_reducible (first | refine condD ?_ ?_ | refine condE ?_ ?_ | refine condN ?_ ?_ | refine condI ?_ ?_ | refine condS ?_ ?_)) <;> intro h) | ((with_reducible (first | refine guardD (by with_unfolding_all rfl) ?_ ?_ | refine guardE (by with_unfolding_all rfl) ?_ ?_ | refine guardN (by with_unfolding_all rfl) ?_ ?_ | refine guardI (by with_unfolding_all rfl) ?_ ?_ | refine guardS (by with_unfolding_all rfl) ?_ ?_)) <;> intro h) | ((refine callG p1 ?_)) | (with_reducible refine And.intro ?_ ?_; omega) | (simp only [Z0,Z1,Z2,Z3,Z4,Z5,Z6,Z7,Z8,Z9,Za,Zb,Zc,Zd,Ze,Zf,List.cons.injEq,Zg,Zh,Zi,Zj,Zk,Zl,Zm,Zn,Zo,Zp,beq_self_eq_true,bne_self_eq_false,decide_true,decide_false,Zq,Zr,Zs,Zt,Zu,Zv,Zw,Zx,Zy,Zz,Y0,Y1,Y2,Y3,Y4,Y5,Y6,Y7,Y8,Y9,Ya,Yb,Yc,Yd,Ye,Yf,Yg,Yh,Yi,Yj,Yk,Yl,Ym,Yn,Yo,Yp,Yq,lk,ef,Yr,Ys,Yt,Yu,Yv,Yw,Yx,Yy,Yz,X0,X1,X2,X3,X4,X5,X6,X7,X8,X9,Xa,Xb,Xc,Xd,Xe,Xf,Xg,Xh,Xi,Xj,Xk,Xl,Xm,Xn,Xo,Xp,Xq,Xr,Xs,hv,Xt,ev,Xu,Xv,Xw,Xx,Xy,Xz,W0,W1,W2,W3,W4,W5,W6,W7,W8,W9,Wa,Wb,Wc,Wd,We,Wf,Wg,Wh,Wi,Wj,Wk,Wl,Wm,Wn,Wo,Wp,Wq,Wr,Ws,Wt,Value.oneCell',Wu,Wv,Ww,Wx,true_and,and_true,and_self,implies_true,Wy,Wz,V0,V1,false_implies,V2,V3,V4,V5,V6,V7,V8,V9,Va,Vb,Vc,Vd,Ve,Vf,Vg,Vh,Vi,reduceCtorEq,if_true,if_false,Vj,↓reduceIte,Vk,Vl,Vm,Vn,Vo,Vp,Vq,ne_eq,not_false_eq_true,not_true_eq_false,Vr,Vs,r26_0,r26_1,r26_2,r26_3,r26_4,r26_5,r26_6,r26_7,r26_8,r26_9,r26_10,r26_11,r26_12,p26,l26_0,gK,hki,k0,hw]) | (exfalso; omega)
      all_goals first | done | omega | exact again hJ (k + 1) (weak_mk (by simp only [Vt,Vu,wk1,Vv,Vw,Vx,Z0,Z1,Z2,Z3,Z4,Z5,Z6,Z7,Z8,Z9,Za,Zb,Zc,Zd,Ze,Zf,List.cons.injEq,Zg,Zh,Zi,Zj,Zk,Zl,Zm,Zn,Zo,Zp,beq_self_eq_true,bne_self_eq_false,decide_true,decide_false,Zq,Zr,Zs,Zt,Zu,Zv,Zw,Zx,Zy,Zz,Y0,Y1,Y2,Y3,Y4,Y5,Y6,Y7,Y8,Y9,Ya,Yb,Yc,Yd,Ye,Yf,Yg,Yh,Yi,Yj,Yk,Yl,Ym,Yn,Yo,Yp,Yq,lk,ef,Yr,Ys,Yt,Yu,Yv,Yw,Yx,Yy,Yz,X0,X1,X2,X3,X4,X5,X6,X7,X8,X9,Xa,Xb,Xc,Xd,Xe,Xf,Xg,Xh,Xi,Xj,Xk,Xl,Xm,Xn,Xo,Xp,Xq,Xr,Xs,hv,Xt,ev,Xu,Xv,Xw,Xx,Xy,Xz,W0,W1,W2,W3,W4,W5,W6,W7,W8,W9,Wa,Wb,Wc,Wd,We,Wf,Wg,Wh,Wi,Wj,Wk,Wl,Wm,Wn,Wo,Wp,Wq,Wr,Ws,Wt,Value.oneCell',Wu,Wv,Ww,Wx,true_and,and_true,and_self,implies_true,Wy,Wz,V0,V1,false_implies,V2,V3,V4,V5,V6,V7,V8,V9,Va,Vb,Vc,Vd,Ve,Vf,Vg,Vh,Vi,reduceCtorEq,if_true,if_false,Vj,↓reduceIte,Vk,Vl,Vm,Vn,Vo,Vp,Vq,ne_eq,not_false_eq_true,not_true_eq_false,Vr,Nat.zero_ne_one]; all_goals first | done | rfl)) ⟨by omega, hg⟩ (by omega) | trace_state
    · rw [if_pos q5] at hg
      rw [hg]
      have q6 := bne0_t q5
      generalize efF l.ents[k] l.target = f at *
      generalize l.ents[k] = e at *
      repeat' first | ((with_reducible (first | refine condD ?_ ?_ | refine condE ?_ ?_ | refine condN ?_ ?_ | refine condI ?_ ?_ | refine condS ?_ ?_)) <;> intro h) | ((with_reducible (first | refine guardD (by with_unfolding_all rfl) ?_ ?_ | refine guardE (by with_unfolding_all rfl) ?_ ?_ | refine guardN (by with_unfolding_all rfl) ?_ ?_ | refine guardI (by with_unfolding_all rfl) ?_ ?_ | refine guardS (by with_unfolding_all rfl) ?_ ?_)) <;> intro h) | ((refine callG p1 ?_)) | (with_reducible refine And.intro ?_ ?_; omega) | (simp only [Z0,Z1,Z2,Z3,Z4,Z5,Z6,Z7,Z8,Z9,Za,Zb,Zc,Zd,Ze,Zf,List.cons.injEq,Zg,Zh,Zi,Zj,Zk,Zl,Zm,Zn,Zo,Zp,beq_self_eq_true,bne_self_eq_false,decide_true,decide_false,Zq,Zr,Zs,Zt,Zu,Zv,Zw,Zx,Zy,Zz,Y0,Y1,Y2,Y3,Y4,Y5,Y6,Y7,Y8,Y9,Ya,Yb,Yc,Yd,Ye,Yf,Yg,Yh,Yi,Yj,Yk,Yl,Ym,Yn,Yo,Yp,Yq,lk,ef,Yr,Ys,Yt,Yu,Yv,Yw,Yx,Yy,Yz,X0,X1,X2,X3,X4,X5,X6,X7,X8,X9,Xa,Xb,Xc,Xd,Xe,Xf,Xg,Xh,Xi,Xj,Xk,Xl,Xm,Xn,Xo,Xp,Xq,Xr,Xs,hv,Xt,ev,Xu,Xv,Xw,Xx,Xy,Xz,W0,W1,W2,W3,W4,W5,W6,W7,W8,W9,Wa,Wb,Wc,Wd,We,Wf,Wg,Wh,Wi,Wj,Wk,Wl,Wm,Wn,Wo,Wp,Wq,Wr,Ws,Wt,Value.oneCell',Wu,Wv,Ww,Wx,true_and,and_true,and_self,implies_true,Wy,Wz,V0,V1,false_implies,V2,V3,V4,V5,V6,V7,V8,V9,Va,Vb,Vc,Vd,Ve,Vf,Vg,Vh,Vi,reduceCtorEq,if_true,if_false,Vj,↓reduceIte,Vk,Vl,Vm,Vn,Vo,Vp,Vq,ne_eq,not_false_eq_true,not_true_eq_false,Vr,Vs,r26_0,r26_1,r26_2,r26_3,r26_4,r26_5,r26_6,r26_7,r26_8,r26_9,r26_10,r26_11,r26_12,p26,l26_0,gK,hki,k0,hw,q6]) | (exfalso; omega)
      all_goals first | done | omega | trace_state
  · have hke : k = l.ents.length := by omega
    rw [hke, List.drop_length, ckGo] at hg
    rw [hg]
    clear hJ
    repeat' first | ((with_reducible (first | refine condD ?_ ?_ | refine condE ?_ ?_ | refine condN ?_ ?_ | refine condI ?_ ?_ | refine condS ?_ ?_)) <;> intro h) | ((with_reducible (first | refine guardD (by with_unfolding_all rfl) ?_ ?_ | refine guardE (by with_unfolding_all rfl) ?_ ?_ | refine guardN (by with_unfolding_all rfl) ?_ ?_ | refine guardI (by with_unfolding_all rfl) ?_ ?_ | refine guardS (by with_unfolding_all rfl) ?_ ?_)) <;> intro h) | (with_reducible refine And.intro ?_ ?_; omega) | (simp only [Z0,Z1,Z2,Z3,Z4,Z5,Z6,Z7,Z8,Z9,Za,Zb,Zc,Zd,Ze,Zf,List.cons.injEq,Zg,Zh,Zi,Zj,Zk,Zl,Zm,Zn,Zo,Zp,beq_self_eq_true,bne_self_eq_false,decide_true,decide_false,Zq,Zr,Zs,Zt,Zu,Zv,Zw,Zx,Zy,Zz,Y0,Y1,Y2,Y3,Y4,Y5,Y6,Y7,Y8,Y9,Ya,Yb,Yc,Yd,Ye,Yf,Yg,Yh,Yi,Yj,Yk,Yl,Ym,Yn,Yo,Yp,Yq,lk,ef,Yr,Ys,Yt,Yu,Yv,Yw,Yx,Yy,Yz,X0,X1,X2,X3,X4,X5,X6,X7,X8,X9,Xa,Xb,Xc,Xd,Xe,Xf,Xg,Xh,Xi,Xj,Xk,Xl,Xm,Xn,Xo,Xp,Xq,Xr,Xs,hv,Xt,ev,Xu,Xv,Xw,Xx,Xy,Xz,W0,W1,W2,W3,W4,W5,W6,W7,W8,W9,Wa,Wb,Wc,Wd,We,Wf,Wg,Wh,Wi,Wj,Wk,Wl,Wm,Wn,Wo,Wp,Wq,Wr,Ws,Wt,Value.oneCell',Wu,Wv,Ww,Wx,true_and,and_true,and_self,implies_true,Wy,Wz,V0,V1,false_implies,V2,V3,V4,V5,V6,V7,V8,V9,Va,Vb,Vc,Vd,Ve,Vf,Vg,Vh,Vi,reduceCtorEq,if_true,if_false,Vj,↓reduceIte,Vk,Vl,Vm,Vn,Vo,Vp,Vq,ne_eq,not_false_eq_true,not_true_eq_false,Vr,Vs,r26_0,r26_1,r26_2,r26_3,r26_4,r26_5,r26_6,r26_7,r26_8,r26_9,r26_10,r26_11,r26_12,p26,l26_0]) | (exfalso; omega)
/-! headend/kit.First -/
def r34_0 : List POp := [⟨2, .asg (.c (.int .i64 0)), none⟩]
def r34_1 : List POp := [⟨5, .mv (.t 0), none⟩,
  ⟨6, .len (.t 5), none⟩,
  ⟨7, .mv (.c (.int .i64 0)), none⟩]
def r34_2 : List POp := [⟨8, .bin .lss (.t 7) (.t 6), none⟩]
def r34_3 : List POp := [⟨9, .idx 1 (.t 5) (.t 7), none⟩,
  ⟨10, .load (.t 9), none⟩,
  ⟨4, .asg (.t 10), none⟩]
def r34_4 : List POp := [⟨11, .mv (.t 4), none⟩,
  ⟨12, .bin .neq (.t 11) (.c (.int .i64 0)), none⟩]
def r34_5 : List POp := [⟨13, .mv (.t 4), none⟩,
  ⟨2, .asg (.t 13), none⟩]
def r34_6 : List POp := [⟨14, .bin .add (.t 7) (.c (.int .i64 1)), none⟩,
  ⟨7, .mv (.t 14), none⟩]
def r34_7 : List POp := [⟨2, .asg (.c (.int .i64 0)), none⟩]
def l34_0 : PCode := .seq (.ops r34_2) (.seq (.cond (.t 8) (.skip) (.exit 0)) (.seq (.block 1 (.seq (.ops r34_3) (.seq (.ops r34_4) (.cond (.t 12) (.seq (.ops r34_5) (.ret)) (.skip))))) (.ops r34_6)))
def p34 : PCode := .seq (.ops r34_0) (.seq (.seq (.ops r34_1) (.block 0 (.loop l34_0))) (.seq (.ops r34_7) (.ret)))
theorem ok34 : okFunc Try.prog 34 [.t 2] 1 p34 = true := by kernel_rfl
theorem first2_c (a b : Int) : CallOK Try.prog 34 [.ro [[.val (.int .i64 a)], [.val (.int .i64 b)]]] (.val (.int .i64 (if a ≠ 0 then a else b))) := by
  refine call_of mixed ok34 rfl ?_
  have w0 : IntKind.i64.wrap (0 + 1 : Int) = 1 := by decide
  have w1 : IntKind.i64.wrap (((1 : Nat) : Int) + 1) = 2 := by decide
  repeat' first | ((with_reducible (first | refine condD ?_ ?_ | refine condE ?_ ?_ | refine condN ?_ ?_ | refine condI ?_ ?_ | refine condS ?_ ?_)) <;> intro h) | ((with_reducible (first | refine guardD (by with_unfolding_all rfl) ?_ ?_ | refine guardE (by with_unfolding_all rfl) ?_ ?_ | refine guardN (by with_unfolding_all rfl) ?_ ?_ | refine guardI (by with_unfolding_all rfl) ?_ ?_ | refine guardS (by with_unfolding_all rfl) ?_ ?_)) <;> intro h) | (with_reducible refine And.intro ?_ ?_; omega) | (simp only [Z0,Z1,Z2,Z3,Z4,Z5,Z6,Z7,Z8,Z9,Za,Zb,Zc,Zd,Ze,Zf,List.cons.injEq,Zg,Zh,Zi,Zj,Zk,Zl,Zm,Zn,Zo,Zp,beq_self_eq_true,bne_self_eq_false,decide_true,decide_false,Zq,Zr,Zs,Zt,Zu,Zv,Zw,Zx,Zy,Zz,Y0,Y1,Y2,Y3,Y4,Y5,Y6,Y7,Y8,Y9,Ya,Yb,Yc,Yd,Ye,Yf,Yg,Yh,Yi,Yj,Yk,Yl,Ym,Yn,Yo,Yp,Yq,lk,ef,Yr,Ys,Yt,Yu,Yv,Yw,Yx,Yy,Yz,X0,X1,X2,X3,X4,X5,X6,X7,X8,X9,Xa,Xb,Xc,Xd,Xe,Xf,Xg,Xh,Xi,Xj,Xk,Xl,Xm,Xn,Xo,Xp,Xq,Xr,Xs,hv,Xt,ev,Xu,Xv,Xw,Xx,Xy,Xz,W0,W1,W2,W3,W4,W5,W6,W7,W8,W9,Wa,Wb,Wc,Wd,We,Wf,Wg,Wh,Wi,Wj,Wk,Wl,Wm,Wn,Wo,Wp,Wq,Wr,Ws,Wt,Value.oneCell',Wu,Wv,Ww,Wx,true_and,and_true,and_self,implies_true,Wy,Wz,V0,V1,false_implies,V2,V3,V4,V5,V6,V7,V8,V9,Va,Vb,Vc,Vd,Ve,Vf,Vg,Vh,Vi,reduceCtorEq,if_true,if_false,Vj,↓reduceIte,Vk,Vl,Vm,Vn,Vo,Vp,Vq,ne_eq,not_false_eq_true,not_true_eq_false,Vr,Vs,r34_0,r34_1,r34_2,r34_3,r34_4,r34_5,r34_6,r34_7,p34]) | (exfalso; omega)
  refine loopS (fun k : Nat => mk [(5, .ro [[.val (.int .i64 a)], [.val (.int .i64 b)]]), (6, .val (.int .i64 2)), (7, .val (.int .i64 k))]) (fun k => k ≤ 2 ∧ (0 < k → a = 0) ∧ (1 < k → b = 0)) (fun k => 2 - k) 0 (weak_mk ?_) ⟨Nat.zero_le _, by omega, by omega⟩ ?_
  · simp only [Vt,Vu,wk1,Vv,Vw,Vx,Z0,Z1,Z2,Z3,Z4,Z5,Z6,Z7,Z8,Z9,Za,Zb,Zc,Zd,Ze,Zf,List.cons.injEq,Zg,Zh,Zi,Zj,Zk,Zl,Zm,Zn,Zo,Zp,beq_self_eq_true,bne_self_eq_false,decide_true,decide_false,Zq,Zr,Zs,Zt,Zu,Zv,Zw,Zx,Zy,Zz,Y0,Y1,Y2,Y3,Y4,Y5,Y6,Y7,Y8,Y9,Ya,Yb,Yc,Yd,Ye,Yf,Yg,Yh,Yi,Yj,Yk,Yl,Ym,Yn,Yo,Yp,Yq,lk,ef,Yr,Ys,Yt,Yu,Yv,Yw,Yx,Yy,Yz,X0,X1,X2,X3,X4,X5,X6,X7,X8,X9,Xa,Xb,Xc,Xd,Xe,Xf,Xg,Xh,Xi,Xj,Xk,Xl,Xm,Xn,Xo,Xp,Xq,Xr,Xs,hv,Xt,ev,Xu,Xv,Xw,Xx,Xy,Xz,W0,W1,W2,W3,W4,W5,W6,W7,W8,W9,Wa,Wb,Wc,Wd,We,Wf,Wg,Wh,Wi,Wj,Wk,Wl,Wm,Wn,Wo,Wp,Wq,Wr,Ws,Wt,Value.oneCell',Wu,Wv,Ww,Wx,true_and,and_true,and_self,implies_true,Wy,Wz,V0,V1,false_implies,V2,V3,V4,V5,V6,V7,V8,V9,Va,Vb,Vc,Vd,Ve,Vf,Vg,Vh,Vi,reduceCtorEq,if_true,if_false,Vj,↓reduceIte,Vk,Vl,Vm,Vn,Vo,Vp,Vq,ne_eq,not_false_eq_true,not_true_eq_false,Vr,Nat.zero_ne_one]
    all_goals first | done | rfl | simp
  rintro J hJ k ⟨hk, ha, hb⟩
  rcases (by omega : k = 0 ∨ k = 1 ∨ k = 2) with rfl | rfl | rfl
  · by_cases h0 : a = 0
    · subst h0
      repeat' first | ((with_reducible (first | refine condD ?_ ?_ | refine condE ?_ ?_ | refine condN ?_ ?_ | refine condI ?_ ?_ | refine condS ?_ ?_)) <;> intro h) | ((with_reducible (first | refine guardD (by with_unfolding_all rfl) ?_ ?_ | refine guardE (by with_unfolding_all rfl) ?_ ?_ | refine guardN (by with_unfolding_all rfl) ?_ ?_ | refine guardI (by with_unfolding_all rfl) ?_ ?_ | refine guardS (by with_unfolding_all rfl) ?_ ?_)) <;> intro h) | (with_reducible refine And.intro ?_ ?_; omega) | (simp only [Z0,Z1,Z2,Z3,Z4,Z5,Z6,Z7,Z8,Z9,Za,Zb,Zc,Zd,Ze,Zf,List.cons.injEq,Zg,Zh,Zi,Zj,Zk,Zl,Zm,Zn,Zo,Zp,beq_self_eq_true,bne_self_eq_false,decide_true,decide_false,Zq,Zr,Zs,Zt,Zu,Zv,Zw,Zx,Zy,Zz,Y0,Y1,Y2,Y3,Y4,Y5,Y6,Y7,Y8,Y9,Ya,Yb,Yc,Yd,Ye,Yf,Yg,Yh,Yi,Yj,Yk,Yl,Ym,Yn,Yo,Yp,Yq,lk,ef,Yr,Ys,Yt,Yu,Yv,Yw,Yx,Yy,Yz,X0,X1,X2,X3,X4,X5,X6,X7,X8,X9,Xa,Xb,Xc,Xd,Xe,Xf,Xg,Xh,Xi,Xj,Xk,Xl,Xm,Xn,Xo,Xp,Xq,Xr,Xs,hv,Xt,ev,Xu,Xv,Xw,Xx,Xy,Xz,W0,W1,W2,W3,W4,W5,W6,W7,W8,W9,Wa,Wb,Wc,Wd,We,Wf,Wg,Wh,Wi,Wj,Wk,Wl,Wm,Wn,Wo,Wp,Wq,Wr,Ws,Wt,Value.oneCell',Wu,Wv,Ww,Wx,true_and,and_true,and_self,implies_true,Wy,Wz,V0,V1,false_implies,V2,V3,V4,V5,V6,V7,V8,V9,Va,Vb,Vc,Vd,Ve,Vf,Vg,Vh,Vi,reduceCtorEq,if_true,if_false,Vj,↓reduceIte,Vk,Vl,Vm,Vn,Vo,Vp,Vq,ne_eq,not_false_eq_true,not_true_eq_false,Vr,Vs,r34_0,r34_1,r34_2,r34_3,r34_4,r34_5,r34_6,r34_7,p34,l34_0,w0,Int.cast_ofNat_Int,List.getD_cons_zero]) | (exfalso; omega)
      all_goals first | done | omega | exact again hJ 1 (weak_mk (by simp only [Vt,Vu,wk1,Vv,Vw,Vx,Z0,Z1,Z2,Z3,Z4,Z5,Z6,Z7,Z8,Z9,Za,Zb,Zc,Zd,Ze,Zf,List.cons.injEq,Zg,Zh,Zi,Zj,Zk,Zl,Zm,Zn,Zo,Zp,beq_self_eq_true,bne_self_eq_false,decide_true,decide_false,Zq,Zr,Zs,Zt,Zu,Zv,Zw,Zx,Zy,Zz,Y0,Y1,Y2,Y3,Y4,Y5,Y6,Y7,Y8,Y9,Ya,Yb,Yc,Yd,Ye,Yf,Yg,Yh,Yi,Yj,Yk,Yl,Ym,Yn,Yo,Yp,Yq,lk,ef,Yr,Ys,Yt,Yu,Yv,Yw,Yx,Yy,Yz,X0,X1,X2,X3,X4,X5,X6,X7,X8,X9,Xa,Xb,Xc,Xd,Xe,Xf,Xg,Xh,Xi,Xj,Xk,Xl,Xm,Xn,Xo,Xp,Xq,Xr,Xs,hv,Xt,ev,Xu,Xv,Xw,Xx,Xy,Xz,W0,W1,W2,W3,W4,W5,W6,W7,W8,W9,Wa,Wb,Wc,Wd,We,Wf,Wg,Wh,Wi,Wj,Wk,Wl,Wm,Wn,Wo,Wp,Wq,Wr,Ws,Wt,Value.oneCell',Wu,Wv,Ww,Wx,true_and,and_true,and_self,implies_true,Wy,Wz,V0,V1,false_implies,V2,V3,V4,V5,V6,V7,V8,V9,Va,Vb,Vc,Vd,Ve,Vf,Vg,Vh,Vi,reduceCtorEq,if_true,if_false,Vj,↓reduceIte,Vk,Vl,Vm,Vn,Vo,Vp,Vq,ne_eq,not_false_eq_true,not_true_eq_false,Vr,Nat.zero_ne_one]; all_goals first | done | rfl)) ⟨by omega, fun _ => rfl, by omega⟩ (by omega) | trace_state
    · rw [if_pos h0]
      have h1 := bne0_t h0
      repeat' first | ((with_reducible (first | refine condD ?_ ?_ | refine condE ?_ ?_ | refine condN ?_ ?_ | refine condI ?_ ?_ | refine condS ?_ ?_)) <;> intro h) | ((with_reducible (first | refine guardD (by with_unfolding_all rfl) ?_ ?_ | refine guardE (by with_unfolding_all rfl) ?_ ?_ | refine guardN (by with_unfolding_all rfl) ?_ ?_ | refine guardI (by with_unfolding_all rfl) ?_ ?_ | refine guardS (by with_unfolding_all rfl) ?_ ?_)) <;> intro h) | (with_reducible refine And.intro ?_ ?_; omega) | (simp only [Z0,Z1,Z2,Z3,Z4,Z5,Z6,Z7,Z8,Z9,Za,Zb,Zc,Zd,Ze,Zf,List.cons.injEq,Zg,Zh,Zi,Zj,Zk,Zl,Zm,Zn,Zo,Zp,beq_self_eq_true,bne_self_eq_false,decide_true,decide_false,Zq,Zr,Zs,Zt,Zu,Zv,Zw,Zx,Zy,Zz,Y0,Y1,Y2,Y3,Y4,Y5,Y6,Y7,Y8,Y9,Ya,Yb,Yc,Yd,Ye,Yf,Yg,Yh,Yi,Yj,Yk,Yl,Ym,Yn,Yo,Yp,Yq,lk,ef,Yr,Ys,Yt,Yu,Yv,Yw,Yx,Yy,Yz,X0,X1,X2,X3,X4,X5,X6,X7,X8,X9,Xa,Xb,Xc,Xd,Xe,Xf,Xg,Xh,Xi,Xj,Xk,Xl,Xm,Xn,Xo,Xp,Xq,Xr,Xs,hv,Xt,ev,Xu,Xv,Xw,Xx,Xy,Xz,W0,W1,W2,W3,W4,W5,W6,W7,W8,W9,Wa,Wb,Wc,Wd,We,Wf,Wg,Wh,Wi,Wj,Wk,Wl,Wm,Wn,Wo,Wp,Wq,Wr,Ws,Wt,Value.oneCell',Wu,Wv,Ww,Wx,true_and,and_true,and_self,implies_true,Wy,Wz,V0,V1,false_implies,V2,V3,V4,V5,V6,V7,V8,V9,Va,Vb,Vc,Vd,Ve,Vf,Vg,Vh,Vi,reduceCtorEq,if_true,if_false,Vj,↓reduceIte,Vk,Vl,Vm,Vn,Vo,Vp,Vq,ne_eq,not_false_eq_true,not_true_eq_false,Vr,Vs,r34_0,r34_1,r34_2,r34_3,r34_4,r34_5,r34_6,r34_7,p34,l34_0,h1,Int.cast_ofNat_Int,List.getD_cons_zero]) | (exfalso; omega)
      all_goals first | done | omega | trace_state
  · have h0 := ha (by omega)
    subst h0
    by_cases h0 : b = 0
    · subst h0
      repeat' first | ((with_reducible (first | refine condD ?_ ?_ | refine condE ?_ ?_ | refine condN ?_ ?_ | refine condI ?_ ?_ | refine condS ?_ ?_)) <;> intro h) | ((with_reducible (first | refine guardD (by with_unfolding_all rfl) ?_ ?_ | refine guardE (by with_unfolding_all rfl) ?_ ?_ | refine guardN (by with_unfolding_all rfl) ?_ ?_ | refine guardI (by with_unfolding_all rfl) ?_ ?_ | refine guardS (by with_unfolding_all rfl) ?_ ?_)) <;> intro h) | (with_reducible refine And.intro ?_ ?_; omega) | (simp only [Z0,Z1,Z2,Z3,Z4,Z5,Z6,Z7,Z8,Z9,Za,Zb,Zc,Zd,Ze,Zf,List.cons.injEq,Zg,Zh,Zi,Zj,Zk,Zl,Zm,Zn,Zo,Zp,beq_self_eq_true,bne_self_eq_false,decide_true,decide_false,Zq,Zr,Zs,Zt,Zu,Zv,Zw,Zx,Zy,Zz,Y0,Y1,Y2,Y3,Y4,Y5,Y6,Y7,Y8,Y9,Ya,Yb,Yc,Yd,Ye,Yf,Yg,Yh,Yi,Yj,Yk,Yl,Ym,Yn,Yo,Yp,Yq,lk,ef,Yr,Ys,Yt,Yu,Yv,Yw,Yx,Yy,Yz,X0,X1,X2,X3,X4,X5,X6,X7,X8,X9,Xa,Xb,Xc,Xd,Xe,Xf,Xg,Xh,Xi,Xj,Xk,Xl,Xm,Xn,Xo,Xp,Xq,Xr,Xs,hv,Xt,ev,Xu,Xv,Xw,Xx,Xy,Xz,W0,W1,W2,W3,W4,W5,W6,W7,W8,W9,Wa,Wb,Wc,Wd,We,Wf,Wg,Wh,Wi,Wj,Wk,Wl,Wm,Wn,Wo,Wp,Wq,Wr,Ws,Wt,Value.oneCell',Wu,Wv,Ww,Wx,true_and,and_true,and_self,implies_true,Wy,Wz,V0,V1,false_implies,V2,V3,V4,V5,V6,V7,V8,V9,Va,Vb,Vc,Vd,Ve,Vf,Vg,Vh,Vi,reduceCtorEq,if_true,if_false,Vj,↓reduceIte,Vk,Vl,Vm,Vn,Vo,Vp,Vq,ne_eq,not_false_eq_true,not_true_eq_false,Vr,Vs,r34_0,r34_1,r34_2,r34_3,r34_4,r34_5,r34_6,r34_7,p34,l34_0,w1,Int.cast_ofNat_Int,V4,List.getD_cons_succ]) | (exfalso; omega)
      all_goals first | done | omega | exact again hJ 2 (weak_mk (by simp only [Vt,Vu,wk1,Vv,Vw,Vx,Z0,Z1,Z2,Z3,Z4,Z5,Z6,Z7,Z8,Z9,Za,Zb,Zc,Zd,Ze,Zf,List.cons.injEq,Zg,Zh,Zi,Zj,Zk,Zl,Zm,Zn,Zo,Zp,beq_self_eq_true,bne_self_eq_false,decide_true,decide_false,Zq,Zr,Zs,Zt,Zu,Zv,Zw,Zx,Zy,Zz,Y0,Y1,Y2,Y3,Y4,Y5,Y6,Y7,Y8,Y9,Ya,Yb,Yc,Yd,Ye,Yf,Yg,Yh,Yi,Yj,Yk,Yl,Ym,Yn,Yo,Yp,Yq,lk,ef,Yr,Ys,Yt,Yu,Yv,Yw,Yx,Yy,Yz,X0,X1,X2,X3,X4,X5,X6,X7,X8,X9,Xa,Xb,Xc,Xd,Xe,Xf,Xg,Xh,Xi,Xj,Xk,Xl,Xm,Xn,Xo,Xp,Xq,Xr,Xs,hv,Xt,ev,Xu,Xv,Xw,Xx,Xy,Xz,W0,W1,W2,W3,W4,W5,W6,W7,W8,W9,Wa,Wb,Wc,Wd,We,Wf,Wg,Wh,Wi,Wj,Wk,Wl,Wm,Wn,Wo,Wp,Wq,Wr,Ws,Wt,Value.oneCell',Wu,Wv,Ww,Wx,true_and,and_true,and_self,implies_true,Wy,Wz,V0,V1,false_implies,V2,V3,V4,V5,V6,V7,V8,V9,Va,Vb,Vc,Vd,Ve,Vf,Vg,Vh,Vi,reduceCtorEq,if_true,if_false,Vj,↓reduceIte,Vk,Vl,Vm,Vn,Vo,Vp,Vq,ne_eq,not_false_eq_true,not_true_eq_false,Vr,Nat.zero_ne_one]; all_goals first | done | rfl)) ⟨by omega, fun _ => rfl, fun _ => rfl⟩ (by omega) | trace_state
    · have h1 := bne0_t h0
      repeat' first | ((with_reducible (first | refine condD ?_ ?_ | refine condE ?_ ?_ | refine condN ?_ ?_ | refine condI ?_ ?_ | refine condS ?_ ?_)) <;> intro h) | ((with_reducible (first | refine guardD (by with_unfolding_all rfl) ?_ ?_ | refine guardE (by with_unfolding_all rfl) ?_ ?_ | refine guardN (by with_unfolding_all rfl) ?_ ?_ | refine guardI (by with_unfolding_all rfl) ?_ ?_ | refine guardS (by with_unfolding_all rfl) ?_ ?_)) <;> intro h) | (with_reducible refine And.intro ?_ ?_; omega) | (simp only [Z0,Z1,Z2,Z3,Z4,Z5,Z6,Z7,Z8,Z9,Za,Zb,Zc,Zd,Ze,Zf,List.cons.injEq,Zg,Zh,Zi,Zj,Zk,Zl,Zm,Zn,Zo,Zp,beq_self_eq_true,bne_self_eq_false,decide_true,decide_false,Zq,Zr,Zs,Zt,Zu,Zv,Zw,Zx,Zy,Zz,Y0,Y1,Y2,Y3,Y4,Y5,Y6,Y7,Y8,Y9,Ya,Yb,Yc,Yd,Ye,Yf,Yg,Yh,Yi,Yj,Yk,Yl,Ym,Yn,Yo,Yp,Yq,lk,ef,Yr,Ys,Yt,Yu,Yv,Yw,Yx,Yy,Yz,X0,X1,X2,X3,X4,X5,X6,X7,X8,X9,Xa,Xb,Xc,Xd,Xe,Xf,Xg,Xh,Xi,Xj,Xk,Xl,Xm,Xn,Xo,Xp,Xq,Xr,Xs,hv,Xt,ev,Xu,Xv,Xw,Xx,Xy,Xz,W0,W1,W2,W3,W4,W5,W6,W7,W8,W9,Wa,Wb,Wc,Wd,We,Wf,Wg,Wh,Wi,Wj,Wk,Wl,Wm,Wn,Wo,Wp,Wq,Wr,Ws,Wt,Value.oneCell',Wu,Wv,Ww,Wx,true_and,and_true,and_self,implies_true,Wy,Wz,V0,V1,false_implies,V2,V3,V4,V5,V6,V7,V8,V9,Va,Vb,Vc,Vd,Ve,Vf,Vg,Vh,Vi,reduceCtorEq,if_true,if_false,Vj,↓reduceIte,Vk,Vl,Vm,Vn,Vo,Vp,Vq,ne_eq,not_false_eq_true,not_true_eq_false,Vr,Vs,r34_0,r34_1,r34_2,r34_3,r34_4,r34_5,r34_6,r34_7,p34,l34_0,h1,Int.cast_ofNat_Int,V4,List.getD_cons_succ]) | (exfalso; omega)
      all_goals first | done | omega | trace_state
  · have h0 := ha (by omega)
    have h1 := hb (by omega)
    subst h0
    subst h1
    clear hJ
    repeat' first | ((with_reducible (first | refine condD ?_ ?_ | refine condE ?_ ?_ | refine condN ?_ ?_ | refine condI ?_ ?_ | refine condS ?_ ?_)) <;> intro h) | ((with_reducible (first | refine guardD (by with_unfolding_all rfl) ?_ ?_ | refine guardE (by with_unfolding_all rfl) ?_ ?_ | refine guardN (by with_unfolding_all rfl) ?_ ?_ | refine guardI (by with_unfolding_all rfl) ?_ ?_ | refine guardS (by with_unfolding_all rfl) ?_ ?_)) <;> intro h) | (with_reducible refine And.intro ?_ ?_; omega) | (simp only [Z0,Z1,Z2,Z3,Z4,Z5,Z6,Z7,Z8,Z9,Za,Zb,Zc,Zd,Ze,Zf,List.cons.injEq,Zg,Zh,Zi,Zj,Zk,Zl,Zm,Zn,Zo,Zp,beq_self_eq_true,bne_self_eq_false,decide_true,decide_false,Zq,Zr,Zs,Zt,Zu,Zv,Zw,Zx,Zy,Zz,Y0,Y1,Y2,Y3,Y4,Y5,Y6,Y7,Y8,Y9,Ya,Yb,Yc,Yd,Ye,Yf,Yg,Yh,Yi,Yj,Yk,Yl,Ym,Yn,Yo,Yp,Yq,lk,ef,Yr,Ys,Yt,Yu,Yv,Yw,Yx,Yy,Yz,X0,X1,X2,X3,X4,X5,X6,X7,X8,X9,Xa,Xb,Xc,Xd,Xe,Xf,Xg,Xh,Xi,Xj,Xk,Xl,Xm,Xn,Xo,Xp,Xq,Xr,Xs,hv,Xt,ev,Xu,Xv,Xw,Xx,Xy,Xz,W0,W1,W2,W3,W4,W5,W6,W7,W8,W9,Wa,Wb,Wc,Wd,We,Wf,Wg,Wh,Wi,Wj,Wk,Wl,Wm,Wn,Wo,Wp,Wq,Wr,Ws,Wt,Value.oneCell',Wu,Wv,Ww,Wx,true_and,and_true,and_self,implies_true,Wy,Wz,V0,V1,false_implies,V2,V3,V4,V5,V6,V7,V8,V9,Va,Vb,Vc,Vd,Ve,Vf,Vg,Vh,Vi,reduceCtorEq,if_true,if_false,Vj,↓reduceIte,Vk,Vl,Vm,Vn,Vo,Vp,Vq,ne_eq,not_false_eq_true,not_true_eq_false,Vr,Vs,r34_0,r34_1,r34_2,r34_3,r34_4,r34_5,r34_6,r34_7,p34,l34_0,Int.cast_ofNat_Int]) | (exfalso; omega)
    all_goals first | done | omega | trace_state
end Go.Proofs.Ytpecmhdepggnoaa
