/- Live lists: list.startAt, sameEntry, slices.Equal of strings, by the machine on data. -/
import Derived.Test.YtpecmhdepggnoaaKLvD
namespace Go.Proofs.Ytpecmhdepggnoaa
open Go.RowKit
open Go.Proofs.Ytpecmhdepggnoaa renaming done_eq → Z0, done_eq' → Z1, donet_eq → Z2, donet_eq' → Z3, fin_val → Z4, fin_tup → Z5, fin_agg → Z6, fin_ro → Z7, res_one → Z8, res_more → Z9, rv_t → Za, rv_c → Zb, rv_l → Zc, int_eq → Zg, bool_eq → Zh, toNat_pred → Zr, toNat_succ → Zs, cnd_t → Zu, cnd_f → Zv, grd_tt → Zw, grd_u → Zx, grd_tf → Zy, grd_ft → Zz, grd_ff → Y0, g_skip → Y1, g_ops → Y2, g_seq → Y3, g_block → Y4, g_exit → Y5, g_ret → Y6, x_c → Y7, x_o → Y8, x_l → Y9, x_b → Ya, g_b → Yb, g_nil → Yc, r_all → Yd, o_nil → Ye, g_cond → Yf, o_guard → Yg, o_call → Yh, o_callm → Yi, o_callt → Yj, o_callx → Yk, o_callv → Yl, o_callc → Ym, o_callh → Yn, o_apph → Yo, noav_alias → Yp, noav_nil → Yq, o_mv → Yr, o_pick → Ys, o_bin → Yt, o_never → Yu, o_eqs → Yv, o_eqb → Yw, o_un → Yx, o_conv → Yy, o_load → Yz, o_loadr → X0, o_idxr → X1, o_loads → X2, o_loadsr → X3, o_fld → X4, o_idx → X5, o_idxs → X6, o_len → X7, o_lens → X8, o_ext → X9, o_nilck → Xa, o_slc → Xb, o_slcs → Xc, o_build → Xd, o_minmax → Xe, o_mkfn → Xf, o_mkfnr → Xg, o_alloc → Xh, o_box → Xi, o_boxs → Xj, o_row → Xk, o_rowr → Xl, o_mk → Xm, o_asg → Xn, o_app → Xo, o_appa → Xp, o_store → Xq, o_stores → Xr, o_eqnil → Xs, eqAV → Xt, view_t → Xu, view_c → Xv, view_nil → Xw, view_fn → Xx, look_own → Xy, look_box → Xz, look_junk → W0, look_val → W1, look_nilsl → W2, look_ro → W3, look_roAt → W4, look_agg → W5, look_tup → W6, look_clo → W7, look_alias → W8, look_ref → W9, look_into → Wa, look_fnv → Wb, look_held → Wc, rowOf → Wd, cellsOf → We, argv → Wf, vbin → Wg, vun → Wh, bnd → Wi, elemOf → Wj, putParts → Wk, setAt → Wl, zav → Wm, put_at → Wu, mk_at → Wv, mk_nil → Ww, initSt → Wx
open Go.Proofs.Ytpecmhdepggnoaa.AV.tup renaming injEq → Zd
open Go.Proofs.Ytpecmhdepggnoaa.AV.agg renaming injEq → Ze
open Go.Proofs.Ytpecmhdepggnoaa.AV.ro renaming injEq → Zf
open _root_.Int renaming toNat_natCast → Zi, reduceToNat → Zj, toNat_zero → Zk, toNat_one → Zl, reduceLE → Zm, reduceLT → Zn, reduceBEq → Zo, reduceBNe → Zp, reduceNeg → Zq
open _root_.List renaming length_map → Zt, map_cons → Wy, map_nil → Wz, forall_mem_cons → V0, not_mem_nil → V1, length_cons → V2, length_nil → V3, getD_cons_zero → V4, getD_cons_succ → V5, getD_nil → V6, drop_succ_cons → V7, drop_zero → V8, take_succ_cons → V9, take_zero → Va, set_cons_zero → Vb, set_cons_succ → Vc, all_cons → Vd, all_nil → Ve
open Go.Proofs.Ytpecmhdepggnoaa.ASt renaming rid → Wn, hold → Wo, free → Wp
open Go.Proofs.Ytpecmhdepggnoaa.AV renaming kill → Wq, isHome → Wr, noLoan → Ws, cellOK → Wt
open _root_.Bool renaming and_true → Vf, true_and → Vg, not_true → Vh, not_false → Vi, false_eq_true → Vj
open _root_.Nat renaming reduceEqDiff → Vk, reduceBNe → Vl, reduceAdd → Vm, reduceSub → Vn, reduceMul → Vo, reduceLeDiff → Vp, reduceLT → Vq, one_ne_zero → Vr, zero_ne_one → Vs
open Go.Proofs.Ytpecmhdepggnoaa.AV.val renaming injEq → Vt
set_option linter.unusedSimpArgs false
--@short

def stF (l : PL) (back : Int) : (Nat × Int) × Int :=
  if outB back 0 1000000000000000 then ((0, 0), 1) else if l.ents.length = 0 then ((0, 0), 9)
  else if l.ended || decide (IntKind.i64.wrap (lenF l - back) < 0) then ((0, 0), 0)
  else if back = 0 then ((l.ents.length - 1, (l.ents.map LE.milli).getD (l.ents.length - 1) 0), 0)
  else (entF l (IntKind.i64.wrap (lenF l - back)), 0)
theorem stF_le (l : PL) (back : Int) : (stF l back).1.1 ≤ l.ents.length := by
  unfold stF
  split
  · exact Nat.zero_le _
  split
  · exact Nat.zero_le _
  split
  · exact Nat.zero_le _
  split
  · exact Nat.sub_le _ _
  · have := entGo_le l.ents 0 (IntKind.i64.wrap (lenF l - back)); rw [Nat.zero_add] at this; exact this
def eqSL : List ByteArray → List ByteArray → Bool
  | [], [] => true
  | x :: r, y :: s => (x.toList == y.toList) && eqSL r s
  | [], _ :: _ => false
  | _ :: _, [] => false
theorem eqSL_refl : ∀ l : List ByteArray, eqSL l l = true
  | [] => rfl
  | x :: r => by rw [eqSL, eqSL_refl r, beq_self_eq_true]; rfl
theorem eqSL_len : ∀ {a b : List ByteArray}, a.length ≠ b.length → eqSL a b = false
  | [], [], h => absurd rfl h
  | [], _ :: _, _ => rfl
  | _ :: _, [], _ => rfl
  | x :: r, y :: s, h => by
    rw [eqSL, eqSL_len (a := r) (b := s) (fun e => h (by rw [List.length_cons, List.length_cons, e])), Bool.and_false]
def sameE (a b : LE) : Bool :=
  (a.uri.toList == b.uri.toList) && (a.milli == b.milli) && (a.brk == b.brk) && (a.date == b.date) && (a.key.toList == b.key.toList) && (a.gap == b.gap) && eqSL a.extra b.extra
theorem sameE_refl (e : LE) : sameE e e = true := by simp [sameE, eqSL_refl]
/-! headend/list.startAt -/
def r55_0 : List POp := [⟨2, .boxs (.t 0), none⟩,
  ⟨4, .asg (.c (.int .i64 0)), none⟩,
  ⟨5, .asg (.c (.int .i64 0)), none⟩,
  ⟨6, .asg (.c (.int .i64 0)), none⟩]
def r55_1 : List POp := [⟨12, .mv (.t 1), none⟩,
  ⟨13, .call 32 [.t 12, .c (.int .i64 0), .c (.int .i64 1000000000000000)], none⟩,
  ⟨11, .asg (.t 13), none⟩]
def r55_2 : List POp := [⟨4, .asg (.c (.int .i64 0)), none⟩,
  ⟨5, .asg (.c (.int .i64 0)), none⟩,
  ⟨6, .asg (.c (.int .i64 1)), none⟩]
def r55_3 : List POp := [⟨15, .fld 3 (.t 2), none⟩,
  ⟨16, .load (.t 15), none⟩,
  ⟨17, .len (.t 16), none⟩,
  ⟨18, .bin .eql (.t 17) (.c (.int .i64 0)), none⟩,
  ⟨14, .asg (.t 18), none⟩]
def r55_4 : List POp := [⟨4, .asg (.c (.int .i64 0)), none⟩,
  ⟨5, .asg (.c (.int .i64 0)), none⟩,
  ⟨6, .asg (.c (.int .i64 9)), none⟩]
def r55_5 : List POp := [⟨19, .loads 5 (.t 2), none⟩,
  ⟨20, .call 33 [.t 19], none⟩,
  ⟨21, .mv (.t 1), none⟩,
  ⟨22, .bin .sub (.t 20) (.t 21), none⟩,
  ⟨7, .asg (.t 22), none⟩]
def r55_6 : List POp := [⟨23, .fld 4 (.t 2), none⟩,
  ⟨24, .load (.t 23), none⟩,
  ⟨25, .mv (.t 24), none⟩,
  ⟨26, .mv (.t 7), some (25, false)⟩,
  ⟨27, .bin .lss (.t 26) (.c (.int .i64 0)), some (25, false)⟩,
  ⟨28, .pick (.t 25) (.c (.bool true)) (.t 27), none⟩]
def r55_7 : List POp := [⟨4, .asg (.c (.int .i64 0)), none⟩,
  ⟨5, .asg (.c (.int .i64 0)), none⟩,
  ⟨6, .asg (.c (.int .i64 0)), none⟩]
def r55_8 : List POp := [⟨29, .fld 3 (.t 2), none⟩,
  ⟨30, .load (.t 29), none⟩,
  ⟨31, .len (.t 30), none⟩,
  ⟨32, .bin .sub (.t 31) (.c (.int .i64 1)), none⟩,
  ⟨8, .asg (.t 32), none⟩]
def r55_9 : List POp := [⟨33, .mv (.t 1), none⟩,
  ⟨34, .bin .eql (.t 33) (.c (.int .i64 0)), none⟩]
def r55_10 : List POp := [⟨35, .mv (.t 8), none⟩,
  ⟨36, .fld 3 (.t 2), none⟩,
  ⟨37, .load (.t 36), none⟩,
  ⟨38, .mv (.t 8), none⟩,
  ⟨39, .idx 7 (.t 37) (.t 38), none⟩,
  ⟨40, .fld 1 (.t 39), none⟩,
  ⟨41, .load (.t 40), none⟩,
  ⟨4, .mv (.t 35), none⟩,
  ⟨5, .mv (.t 41), none⟩,
  ⟨6, .mv (.c (.int .i64 0)), none⟩]
def r55_11 : List POp := [⟨43, .loads 5 (.t 2), none⟩,
  ⟨44, .mv (.t 7), none⟩,
  ⟨45, .call 82 [.t 43, .t 44], none⟩,
  ⟨42, .mv (.t 45), none⟩,
  ⟨46, .ext 0 (.t 42), none⟩,
  ⟨47, .ext 1 (.t 42), none⟩,
  ⟨9, .mv (.t 46), none⟩,
  ⟨10, .mv (.t 47), none⟩]
def r55_12 : List POp := [⟨48, .mv (.t 9), none⟩,
  ⟨49, .mv (.t 10), none⟩,
  ⟨4, .mv (.t 48), none⟩,
  ⟨5, .mv (.t 49), none⟩,
  ⟨6, .mv (.c (.int .i64 0)), none⟩]
def p55 : PCode := .seq (.ops r55_0) (.seq (.block 0 (.seq (.ops r55_1) (.cond (.t 11) (.seq (.ops r55_2) (.ret)) (.seq (.ops r55_3) (.cond (.t 14) (.seq (.ops r55_4) (.ret)) (.skip)))))) (.seq (.ops r55_5) (.seq (.seq (.ops r55_6) (.cond (.t 28) (.seq (.ops r55_7) (.ret)) (.skip))) (.seq (.seq (.ops r55_8) (.seq (.ops r55_9) (.cond (.t 34) (.seq (.ops r55_10) (.ret)) (.skip)))) (.seq (.ops r55_11) (.seq (.ops r55_12) (.ret)))))))
theorem ok55 : okFunc Try.prog 55 [.t 4, .t 5, .t 6] 2 p55 = true := by kernel_rfl
theorem startat_c (l : PL) (hl : l.ents.length ≤ 1000) (back : Int) : CallOK Try.prog 55 [.agg l.av, .val (.int .i64 back)] (.tup [.val (.int .i64 (stF l back).1.1), .val (.int .i64 (stF l back).1.2), .val (.int .i64 (stF l back).2)]) := by
  refine call_of mixed ok55 rfl ?_
  have c1 := out_c back 0 1000000000000000
  have c2 := length_c l (by omega)
  have c3 := entryat_c l (by omega)
  simp only [PL.av] at c2 c3
  cases q1 : outB back 0 1000000000000000
  case true =>
    rw [show stF l back = ((0, 0), 1) by unfold stF; rw [if_pos q1]]
    rw [q1] at c1
    repeat' first | ((with_reducible (first | refine condD ?_ ?_ | refine condE ?_ ?_ | refine condN ?_ ?_ | refine condI ?_ ?_ | refine condS ?_ ?_)) <;> intro h) | ((with_reducible (first | refine guardD (by with_unfolding_all rfl) ?_ ?_ | refine guardE (by with_unfolding_all rfl) ?_ ?_ | refine guardN (by with_unfolding_all rfl) ?_ ?_ | refine guardI (by with_unfolding_all rfl) ?_ ?_ | refine guardS (by with_unfolding_all rfl) ?_ ?_)) <;> intro h) | ((refine callG c1 ?_)) | (with_reducible refine And.intro ?_ ?_; omega) | (simp only [Z0,Z1,Z2,Z3,Z4,Z5,Z6,Z7,Z8,Z9,Za,Zb,Zc,Zd,Ze,Zf,List.cons.injEq,Zg,Zh,Zi,Zj,Zk,Zl,Zm,Zn,Zo,Zp,beq_self_eq_true,bne_self_eq_false,decide_true,decide_false,Zq,Zr,Zs,Zt,Zu,Zv,Zw,Zx,Zy,Zz,Y0,Y1,Y2,Y3,Y4,Y5,Y6,Y7,Y8,Y9,Ya,Yb,Yc,Yd,Ye,Yf,Yg,Yh,Yi,Yj,Yk,Yl,Ym,Yn,Yo,Yp,Yq,lk,ef,Yr,Ys,Yt,Yu,Yv,Yw,Yx,Yy,Yz,X0,X1,X2,X3,X4,X5,X6,X7,X8,X9,Xa,Xb,Xc,Xd,Xe,Xf,Xg,Xh,Xi,Xj,Xk,Xl,Xm,Xn,Xo,Xp,Xq,Xr,Xs,hv,Xt,ev,Xu,Xv,Xw,Xx,Xy,Xz,W0,W1,W2,W3,W4,W5,W6,W7,W8,W9,Wa,Wb,Wc,Wd,We,Wf,Wg,Wh,Wi,Wj,Wk,Wl,Wm,Wn,Wo,Wp,Wq,Wr,Ws,Wt,Value.oneCell',Wu,Wv,Ww,Wx,true_and,and_true,and_self,implies_true,Wy,Wz,V0,V1,false_implies,V2,V3,V4,V5,V6,V7,V8,V9,Va,Vb,Vc,Vd,Ve,Vf,Vg,Vh,Vi,reduceCtorEq,if_true,if_false,Vj,↓reduceIte,Vk,Vl,Vm,Vn,Vo,Vp,Vq,ne_eq,not_false_eq_true,not_true_eq_false,Vr,Vs,r55_0,r55_1,r55_2,r55_3,r55_4,r55_5,r55_6,r55_7,r55_8,r55_9,r55_10,r55_11,r55_12,p55,PL.av]) | (exfalso; omega)
    all_goals first | done | rfl | trace_state
  rw [q1] at c1
  by_cases q2 : l.ents.length = 0
  · rw [show stF l back = ((0, 0), 9) by unfold stF; rw [if_neg (by simp [q1]), if_pos q2]]
    have q2' : ((l.ents.length : Int) == 0) = true := by rw [beq_iff_eq]; omega
    repeat' first | ((with_reducible (first | refine condD ?_ ?_ | refine condE ?_ ?_ | refine condN ?_ ?_ | refine condI ?_ ?_ | refine condS ?_ ?_)) <;> intro h) | ((with_reducible (first | refine guardD (by with_unfolding_all rfl) ?_ ?_ | refine guardE (by with_unfolding_all rfl) ?_ ?_ | refine guardN (by with_unfolding_all rfl) ?_ ?_ | refine guardI (by with_unfolding_all rfl) ?_ ?_ | refine guardS (by with_unfolding_all rfl) ?_ ?_)) <;> intro h) | ((refine callG c1 ?_)) | (with_reducible refine And.intro ?_ ?_; omega) | (simp only [Z0,Z1,Z2,Z3,Z4,Z5,Z6,Z7,Z8,Z9,Za,Zb,Zc,Zd,Ze,Zf,List.cons.injEq,Zg,Zh,Zi,Zj,Zk,Zl,Zm,Zn,Zo,Zp,beq_self_eq_true,bne_self_eq_false,decide_true,decide_false,Zq,Zr,Zs,Zt,Zu,Zv,Zw,Zx,Zy,Zz,Y0,Y1,Y2,Y3,Y4,Y5,Y6,Y7,Y8,Y9,Ya,Yb,Yc,Yd,Ye,Yf,Yg,Yh,Yi,Yj,Yk,Yl,Ym,Yn,Yo,Yp,Yq,lk,ef,Yr,Ys,Yt,Yu,Yv,Yw,Yx,Yy,Yz,X0,X1,X2,X3,X4,X5,X6,X7,X8,X9,Xa,Xb,Xc,Xd,Xe,Xf,Xg,Xh,Xi,Xj,Xk,Xl,Xm,Xn,Xo,Xp,Xq,Xr,Xs,hv,Xt,ev,Xu,Xv,Xw,Xx,Xy,Xz,W0,W1,W2,W3,W4,W5,W6,W7,W8,W9,Wa,Wb,Wc,Wd,We,Wf,Wg,Wh,Wi,Wj,Wk,Wl,Wm,Wn,Wo,Wp,Wq,Wr,Ws,Wt,Value.oneCell',Wu,Wv,Ww,Wx,true_and,and_true,and_self,implies_true,Wy,Wz,V0,V1,false_implies,V2,V3,V4,V5,V6,V7,V8,V9,Va,Vb,Vc,Vd,Ve,Vf,Vg,Vh,Vi,reduceCtorEq,if_true,if_false,Vj,↓reduceIte,Vk,Vl,Vm,Vn,Vo,Vp,Vq,ne_eq,not_false_eq_true,not_true_eq_false,Vr,Vs,r55_0,r55_1,r55_2,r55_3,r55_4,r55_5,r55_6,r55_7,r55_8,r55_9,r55_10,r55_11,r55_12,p55,PL.av,Zt,q2']) | (exfalso; omega)
    all_goals first | done | rfl | trace_state
  have q2' : ((l.ents.length : Int) == 0) = false := by rw [beq_eq_false_iff_ne]; omega
  have hr : stF l back = if l.ended || decide (IntKind.i64.wrap (lenF l - back) < 0) then ((0, 0), 0)
    else if back = 0 then ((l.ents.length - 1, (l.ents.map LE.milli).getD (l.ents.length - 1) 0), 0)
    else (entF l (IntKind.i64.wrap (lenF l - back)), 0) := by unfold stF; rw [if_neg (by simp [q1]), if_neg q2]
  rw [hr]
  clear hr
  generalize hat : IntKind.i64.wrap (lenF l - back) = at' at *
  by_cases q3 : (l.ended || decide (at' < 0)) = true
  · rw [if_pos q3]
    cases q4 : l.ended
    · rw [q4, Bool.false_or, decide_eq_true_eq] at q3
      rw [q4] at c2
      repeat' first | ((with_reducible (first | refine condD ?_ ?_ | refine condE ?_ ?_ | refine condN ?_ ?_ | refine condI ?_ ?_ | refine condS ?_ ?_)) <;> intro h) | ((with_reducible (first | refine guardD (by with_unfolding_all rfl) ?_ ?_ | refine guardE (by with_unfolding_all rfl) ?_ ?_ | refine guardN (by with_unfolding_all rfl) ?_ ?_ | refine guardI (by with_unfolding_all rfl) ?_ ?_ | refine guardS (by with_unfolding_all rfl) ?_ ?_)) <;> intro h) | ((refine callG c1 ?_)) | ((refine callG c2 ?_)) | (with_reducible refine And.intro ?_ ?_; omega) | (simp only [Z0,Z1,Z2,Z3,Z4,Z5,Z6,Z7,Z8,Z9,Za,Zb,Zc,Zd,Ze,Zf,List.cons.injEq,Zg,Zh,Zi,Zj,Zk,Zl,Zm,Zn,Zo,Zp,beq_self_eq_true,bne_self_eq_false,decide_true,decide_false,Zq,Zr,Zs,Zt,Zu,Zv,Zw,Zx,Zy,Zz,Y0,Y1,Y2,Y3,Y4,Y5,Y6,Y7,Y8,Y9,Ya,Yb,Yc,Yd,Ye,Yf,Yg,Yh,Yi,Yj,Yk,Yl,Ym,Yn,Yo,Yp,Yq,lk,ef,Yr,Ys,Yt,Yu,Yv,Yw,Yx,Yy,Yz,X0,X1,X2,X3,X4,X5,X6,X7,X8,X9,Xa,Xb,Xc,Xd,Xe,Xf,Xg,Xh,Xi,Xj,Xk,Xl,Xm,Xn,Xo,Xp,Xq,Xr,Xs,hv,Xt,ev,Xu,Xv,Xw,Xx,Xy,Xz,W0,W1,W2,W3,W4,W5,W6,W7,W8,W9,Wa,Wb,Wc,Wd,We,Wf,Wg,Wh,Wi,Wj,Wk,Wl,Wm,Wn,Wo,Wp,Wq,Wr,Ws,Wt,Value.oneCell',Wu,Wv,Ww,Wx,true_and,and_true,and_self,implies_true,Wy,Wz,V0,V1,false_implies,V2,V3,V4,V5,V6,V7,V8,V9,Va,Vb,Vc,Vd,Ve,Vf,Vg,Vh,Vi,reduceCtorEq,if_true,if_false,Vj,↓reduceIte,Vk,Vl,Vm,Vn,Vo,Vp,Vq,ne_eq,not_false_eq_true,not_true_eq_false,Vr,Vs,r55_0,r55_1,r55_2,r55_3,r55_4,r55_5,r55_6,r55_7,r55_8,r55_9,r55_10,r55_11,r55_12,p55,PL.av,Zt,q2',q4,hat,q3]) | (exfalso; omega)
      all_goals first | done | rfl | trace_state
    · rw [q4] at c2
      repeat' first | ((with_reducible (first | refine condD ?_ ?_ | refine condE ?_ ?_ | refine condN ?_ ?_ | refine condI ?_ ?_ | refine condS ?_ ?_)) <;> intro h) | ((with_reducible (first | refine guardD (by with_unfolding_all rfl) ?_ ?_ | refine guardE (by with_unfolding_all rfl) ?_ ?_ | refine guardN (by with_unfolding_all rfl) ?_ ?_ | refine guardI (by with_unfolding_all rfl) ?_ ?_ | refine guardS (by with_unfolding_all rfl) ?_ ?_)) <;> intro h) | ((refine callG c1 ?_)) | ((refine callG c2 ?_)) | (with_reducible refine And.intro ?_ ?_; omega) | (simp only [Z0,Z1,Z2,Z3,Z4,Z5,Z6,Z7,Z8,Z9,Za,Zb,Zc,Zd,Ze,Zf,List.cons.injEq,Zg,Zh,Zi,Zj,Zk,Zl,Zm,Zn,Zo,Zp,beq_self_eq_true,bne_self_eq_false,decide_true,decide_false,Zq,Zr,Zs,Zt,Zu,Zv,Zw,Zx,Zy,Zz,Y0,Y1,Y2,Y3,Y4,Y5,Y6,Y7,Y8,Y9,Ya,Yb,Yc,Yd,Ye,Yf,Yg,Yh,Yi,Yj,Yk,Yl,Ym,Yn,Yo,Yp,Yq,lk,ef,Yr,Ys,Yt,Yu,Yv,Yw,Yx,Yy,Yz,X0,X1,X2,X3,X4,X5,X6,X7,X8,X9,Xa,Xb,Xc,Xd,Xe,Xf,Xg,Xh,Xi,Xj,Xk,Xl,Xm,Xn,Xo,Xp,Xq,Xr,Xs,hv,Xt,ev,Xu,Xv,Xw,Xx,Xy,Xz,W0,W1,W2,W3,W4,W5,W6,W7,W8,W9,Wa,Wb,Wc,Wd,We,Wf,Wg,Wh,Wi,Wj,Wk,Wl,Wm,Wn,Wo,Wp,Wq,Wr,Ws,Wt,Value.oneCell',Wu,Wv,Ww,Wx,true_and,and_true,and_self,implies_true,Wy,Wz,V0,V1,false_implies,V2,V3,V4,V5,V6,V7,V8,V9,Va,Vb,Vc,Vd,Ve,Vf,Vg,Vh,Vi,reduceCtorEq,if_true,if_false,Vj,↓reduceIte,Vk,Vl,Vm,Vn,Vo,Vp,Vq,ne_eq,not_false_eq_true,not_true_eq_false,Vr,Vs,r55_0,r55_1,r55_2,r55_3,r55_4,r55_5,r55_6,r55_7,r55_8,r55_9,r55_10,r55_11,r55_12,p55,PL.av,Zt,q2',q4,hat]) | (exfalso; omega)
      all_goals first | done | rfl | trace_state
  rw [if_neg q3]
  rw [Bool.or_eq_true, not_or, decide_eq_true_eq, Bool.not_eq_true] at q3
  obtain ⟨q4, q5⟩ := q3
  rw [q4] at c2
  simp only [q4] at c3
  obtain ⟨n, hn⟩ : ∃ n, l.ents.length = n + 1 := ⟨l.ents.length - 1, by omega⟩
  have hlt : n < l.ents.length := by omega
  have wn : IntKind.i64.wrap ((l.ents.length : Int) - 1) = (n : Int) := by rw [wrap_in (by omega) (by omega)]; omega
  have n0 : (0 : Int) ≤ (n : Int) := by omega
  have n1 : (n : Int) < l.ents.length := by omega
  by_cases q6 : back = 0
  · rw [if_pos q6]
    subst q6
    have gN := getD_map (f := LE.av) (d := []) hlt
    have gM := getD_map (f := LE.milli) (d := 0) hlt
    have hnn : l.ents.length - 1 = n := by omega
    rw [hnn, gM]
    simp only [LE.av] at gN
    repeat' first | ((with_reducible (first | refine condD ?_ ?_ | refine condE ?_ ?_ | refine condN ?_ ?_ | refine condI ?_ ?_ | refine condS ?_ ?_)) <;> intro h) | ((with_reducible (first | refine guardD (by with_unfolding_all rfl) ?_ ?_ | refine guardE (by with_unfolding_all rfl) ?_ ?_ | refine guardN (by with_unfolding_all rfl) ?_ ?_ | refine guardI (by with_unfolding_all rfl) ?_ ?_ | refine guardS (by with_unfolding_all rfl) ?_ ?_)) <;> intro h) | ((refine callG c1 ?_)) | ((refine callG c2 ?_)) | (with_reducible refine And.intro ?_ ?_; omega) | (simp only [Z0,Z1,Z2,Z3,Z4,Z5,Z6,Z7,Z8,Z9,Za,Zb,Zc,Zd,Ze,Zf,List.cons.injEq,Zg,Zh,Zi,Zj,Zk,Zl,Zm,Zn,Zo,Zp,beq_self_eq_true,bne_self_eq_false,decide_true,decide_false,Zq,Zr,Zs,Zt,Zu,Zv,Zw,Zx,Zy,Zz,Y0,Y1,Y2,Y3,Y4,Y5,Y6,Y7,Y8,Y9,Ya,Yb,Yc,Yd,Ye,Yf,Yg,Yh,Yi,Yj,Yk,Yl,Ym,Yn,Yo,Yp,Yq,lk,ef,Yr,Ys,Yt,Yu,Yv,Yw,Yx,Yy,Yz,X0,X1,X2,X3,X4,X5,X6,X7,X8,X9,Xa,Xb,Xc,Xd,Xe,Xf,Xg,Xh,Xi,Xj,Xk,Xl,Xm,Xn,Xo,Xp,Xq,Xr,Xs,hv,Xt,ev,Xu,Xv,Xw,Xx,Xy,Xz,W0,W1,W2,W3,W4,W5,W6,W7,W8,W9,Wa,Wb,Wc,Wd,We,Wf,Wg,Wh,Wi,Wj,Wk,Wl,Wm,Wn,Wo,Wp,Wq,Wr,Ws,Wt,Value.oneCell',Wu,Wv,Ww,Wx,true_and,and_true,and_self,implies_true,Wy,Wz,V0,V1,false_implies,V2,V3,V4,V5,V6,V7,V8,V9,Va,Vb,Vc,Vd,Ve,Vf,Vg,Vh,Vi,reduceCtorEq,if_true,if_false,Vj,↓reduceIte,Vk,Vl,Vm,Vn,Vo,Vp,Vq,ne_eq,not_false_eq_true,not_true_eq_false,Vr,Vs,r55_0,r55_1,r55_2,r55_3,r55_4,r55_5,r55_6,r55_7,r55_8,r55_9,r55_10,r55_11,r55_12,p55,PL.av,Zt,q2',q4,hat,q5,beq_self_eq_true,wn,n0,n1,gN]) | (exfalso; omega)
    all_goals first | done | omega | trace_state
  · rw [if_neg q6]
    have c4 := c3 at'
    repeat' first | ((with_reducible (first | refine condD ?_ ?_ | refine condE ?_ ?_ | refine condN ?_ ?_ | refine condI ?_ ?_ | refine condS ?_ ?_)) <;> intro h) | ((with_reducible (first | refine guardD (by with_unfolding_all rfl) ?_ ?_ | refine guardE (by with_unfolding_all rfl) ?_ ?_ | refine guardN (by with_unfolding_all rfl) ?_ ?_ | refine guardI (by with_unfolding_all rfl) ?_ ?_ | refine guardS (by with_unfolding_all rfl) ?_ ?_)) <;> intro h) | ((refine callG c1 ?_)) | ((refine callG c2 ?_)) | ((refine callG c4 ?_)) | (with_reducible refine And.intro ?_ ?_; omega) | (simp only [Z0,Z1,Z2,Z3,Z4,Z5,Z6,Z7,Z8,Z9,Za,Zb,Zc,Zd,Ze,Zf,List.cons.injEq,Zg,Zh,Zi,Zj,Zk,Zl,Zm,Zn,Zo,Zp,beq_self_eq_true,bne_self_eq_false,decide_true,decide_false,Zq,Zr,Zs,Zt,Zu,Zv,Zw,Zx,Zy,Zz,Y0,Y1,Y2,Y3,Y4,Y5,Y6,Y7,Y8,Y9,Ya,Yb,Yc,Yd,Ye,Yf,Yg,Yh,Yi,Yj,Yk,Yl,Ym,Yn,Yo,Yp,Yq,lk,ef,Yr,Ys,Yt,Yu,Yv,Yw,Yx,Yy,Yz,X0,X1,X2,X3,X4,X5,X6,X7,X8,X9,Xa,Xb,Xc,Xd,Xe,Xf,Xg,Xh,Xi,Xj,Xk,Xl,Xm,Xn,Xo,Xp,Xq,Xr,Xs,hv,Xt,ev,Xu,Xv,Xw,Xx,Xy,Xz,W0,W1,W2,W3,W4,W5,W6,W7,W8,W9,Wa,Wb,Wc,Wd,We,Wf,Wg,Wh,Wi,Wj,Wk,Wl,Wm,Wn,Wo,Wp,Wq,Wr,Ws,Wt,Value.oneCell',Wu,Wv,Ww,Wx,true_and,and_true,and_self,implies_true,Wy,Wz,V0,V1,false_implies,V2,V3,V4,V5,V6,V7,V8,V9,Va,Vb,Vc,Vd,Ve,Vf,Vg,Vh,Vi,reduceCtorEq,if_true,if_false,Vj,↓reduceIte,Vk,Vl,Vm,Vn,Vo,Vp,Vq,ne_eq,not_false_eq_true,not_true_eq_false,Vr,Vs,r55_0,r55_1,r55_2,r55_3,r55_4,r55_5,r55_6,r55_7,r55_8,r55_9,r55_10,r55_11,r55_12,p55,PL.av,Zt,q2',q4,hat,q5,q6,beq0_f q6,wn]) | (exfalso; omega)
    all_goals first | done | omega | trace_state
/-! slices.Equal[[]string,string] -/
def r83_0 : List POp := [⟨4, .asg (.c (.bool false)), none⟩]
def r83_1 : List POp := [⟨6, .mv (.t 0), none⟩,
  ⟨7, .len (.t 6), none⟩,
  ⟨8, .mv (.t 1), none⟩,
  ⟨9, .len (.t 8), none⟩,
  ⟨10, .bin .neq (.t 7) (.t 9), none⟩]
def r83_2 : List POp := [⟨4, .asg (.c (.bool false)), none⟩]
def r83_3 : List POp := [⟨11, .mv (.t 0), none⟩,
  ⟨12, .len (.t 11), none⟩,
  ⟨13, .mv (.c (.int .i64 0)), none⟩]
def r83_4 : List POp := [⟨14, .bin .lss (.t 13) (.t 12), none⟩]
def r83_5 : List POp := [⟨15, .mv (.t 13), none⟩,
  ⟨5, .asg (.t 15), none⟩]
def r83_6 : List POp := [⟨16, .mv (.t 0), none⟩,
  ⟨17, .mv (.t 5), none⟩,
  ⟨18, .idx 1 (.t 16) (.t 17), none⟩,
  ⟨19, .load (.t 18), none⟩,
  ⟨20, .mv (.t 1), none⟩,
  ⟨21, .mv (.t 5), none⟩,
  ⟨22, .idx 1 (.t 20) (.t 21), none⟩,
  ⟨23, .load (.t 22), none⟩,
  ⟨24, .bin .neq (.t 19) (.t 23), none⟩]
def r83_7 : List POp := [⟨4, .asg (.c (.bool false)), none⟩]
def r83_8 : List POp := [⟨25, .bin .add (.t 13) (.c (.int .i64 1)), none⟩,
  ⟨13, .mv (.t 25), none⟩]
def r83_9 : List POp := [⟨4, .asg (.c (.bool true)), none⟩]
def l83_0 : PCode := .seq (.ops r83_4) (.seq (.cond (.t 14) (.skip) (.exit 0)) (.seq (.block 1 (.seq (.ops r83_5) (.seq (.ops r83_6) (.cond (.t 24) (.seq (.ops r83_7) (.ret)) (.skip))))) (.ops r83_8)))
def p83 : PCode := .seq (.ops r83_0) (.seq (.seq (.ops r83_1) (.cond (.t 10) (.seq (.ops r83_2) (.ret)) (.skip))) (.seq (.seq (.ops r83_3) (.block 0 (.loop l83_0))) (.seq (.ops r83_9) (.ret))))
theorem ok83 : okFunc Try.prog 83 [.t 4] 2 p83 = true := by kernel_rfl
theorem eqsl_c (a b : List ByteArray) (ha : a.length ≤ 9000000000000000000) : CallOK Try.prog 83 [.ro (a.map oneS), .ro (b.map oneS)] (.val (.bool (eqSL a b))) := by
  refine call_of mixed ok83 rfl ?_
  by_cases hl : a.length = b.length
  case neg =>
    rw [eqSL_len hl]
    have hl' : ((a.length : Int) == (b.length : Int)) = false := by rw [beq_eq_false_iff_ne]; omega
    have hl'' : ((a.length : Int) != (b.length : Int)) = true := by rw [bne, hl']; rfl
    repeat' first | ((with_reducible (first | refine condD ?_ ?_ | refine condE ?_ ?_ | refine condN ?_ ?_ | refine condI ?_ ?_ | refine condS ?_ ?_)) <;> intro h) | ((with_reducible (first | refine guardD (by with_unfolding_all rfl) ?_ ?_ | refine guardE (by with_unfolding_all rfl) ?_ ?_ | refine guardN (by with_unfolding_all rfl) ?_ ?_ | refine guardI (by with_unfolding_all rfl) ?_ ?_ | refine guardS (by with_unfolding_all rfl) ?_ ?_)) <;> intro h) | (with_reducible refine And.intro ?_ ?_; omega) | (simp only [Z0,Z1,Z2,Z3,Z4,Z5,Z6,Z7,Z8,Z9,Za,Zb,Zc,Zd,Ze,Zf,List.cons.injEq,Zg,Zh,Zi,Zj,Zk,Zl,Zm,Zn,Zo,Zp,beq_self_eq_true,bne_self_eq_false,decide_true,decide_false,Zq,Zr,Zs,Zt,Zu,Zv,Zw,Zx,Zy,Zz,Y0,Y1,Y2,Y3,Y4,Y5,Y6,Y7,Y8,Y9,Ya,Yb,Yc,Yd,Ye,Yf,Yg,Yh,Yi,Yj,Yk,Yl,Ym,Yn,Yo,Yp,Yq,lk,ef,Yr,Ys,Yt,Yu,Yv,Yw,Yx,Yy,Yz,X0,X1,X2,X3,X4,X5,X6,X7,X8,X9,Xa,Xb,Xc,Xd,Xe,Xf,Xg,Xh,Xi,Xj,Xk,Xl,Xm,Xn,Xo,Xp,Xq,Xr,Xs,hv,Xt,ev,Xu,Xv,Xw,Xx,Xy,Xz,W0,W1,W2,W3,W4,W5,W6,W7,W8,W9,Wa,Wb,Wc,Wd,We,Wf,Wg,Wh,Wi,Wj,Wk,Wl,Wm,Wn,Wo,Wp,Wq,Wr,Ws,Wt,Value.oneCell',Wu,Wv,Ww,Wx,true_and,and_true,and_self,implies_true,Wy,Wz,V0,V1,false_implies,V2,V3,V4,V5,V6,V7,V8,V9,Va,Vb,Vc,Vd,Ve,Vf,Vg,Vh,Vi,reduceCtorEq,if_true,if_false,Vj,↓reduceIte,Vk,Vl,Vm,Vn,Vo,Vp,Vq,ne_eq,not_false_eq_true,not_true_eq_false,Vr,Vs,r83_0,r83_1,r83_2,r83_3,r83_4,r83_5,r83_6,r83_7,r83_8,r83_9,p83,Zt,hl'']) | (exfalso; omega)
    all_goals first | done | trace_state
  repeat' first | ((with_reducible (first | refine condD ?_ ?_ | refine condE ?_ ?_ | refine condN ?_ ?_ | refine condI ?_ ?_ | refine condS ?_ ?_)) <;> intro h) | ((with_reducible (first | refine guardD (by with_unfolding_all rfl) ?_ ?_ | refine guardE (by with_unfolding_all rfl) ?_ ?_ | refine guardN (by with_unfolding_all rfl) ?_ ?_ | refine guardI (by with_unfolding_all rfl) ?_ ?_ | refine guardS (by with_unfolding_all rfl) ?_ ?_)) <;> intro h) | (with_reducible refine And.intro ?_ ?_; omega) | (simp only [Z0,Z1,Z2,Z3,Z4,Z5,Z6,Z7,Z8,Z9,Za,Zb,Zc,Zd,Ze,Zf,List.cons.injEq,Zg,Zh,Zi,Zj,Zk,Zl,Zm,Zn,Zo,Zp,beq_self_eq_true,bne_self_eq_false,decide_true,decide_false,Zq,Zr,Zs,Zt,Zu,Zv,Zw,Zx,Zy,Zz,Y0,Y1,Y2,Y3,Y4,Y5,Y6,Y7,Y8,Y9,Ya,Yb,Yc,Yd,Ye,Yf,Yg,Yh,Yi,Yj,Yk,Yl,Ym,Yn,Yo,Yp,Yq,lk,ef,Yr,Ys,Yt,Yu,Yv,Yw,Yx,Yy,Yz,X0,X1,X2,X3,X4,X5,X6,X7,X8,X9,Xa,Xb,Xc,Xd,Xe,Xf,Xg,Xh,Xi,Xj,Xk,Xl,Xm,Xn,Xo,Xp,Xq,Xr,Xs,hv,Xt,ev,Xu,Xv,Xw,Xx,Xy,Xz,W0,W1,W2,W3,W4,W5,W6,W7,W8,W9,Wa,Wb,Wc,Wd,We,Wf,Wg,Wh,Wi,Wj,Wk,Wl,Wm,Wn,Wo,Wp,Wq,Wr,Ws,Wt,Value.oneCell',Wu,Wv,Ww,Wx,true_and,and_true,and_self,implies_true,Wy,Wz,V0,V1,false_implies,V2,V3,V4,V5,V6,V7,V8,V9,Va,Vb,Vc,Vd,Ve,Vf,Vg,Vh,Vi,reduceCtorEq,if_true,if_false,Vj,↓reduceIte,Vk,Vl,Vm,Vn,Vo,Vp,Vq,ne_eq,not_false_eq_true,not_true_eq_false,Vr,Vs,r83_0,r83_1,r83_2,r83_3,r83_4,r83_5,r83_6,r83_7,r83_8,r83_9,p83,Zt,hl]) | (exfalso; omega)
  refine loopS (fun k : Nat => mk [(0, .ro (a.map oneS)), (1, .ro (b.map oneS)), (12, .val (.int .i64 b.length)), (13, .val (.int .i64 k))]) (fun k => k ≤ b.length ∧ eqSL a b = eqSL (a.drop k) (b.drop k)) (fun k => b.length - k) 0 (weak_mk ?_) ⟨Nat.zero_le _, rfl⟩ ?_
  · simp only [wk_cons,wk_nil,wk1,vint_eq,vbool_eq,Vt,Z0,Z1,Z2,Z3,Z4,Z5,Z6,Z7,Z8,Z9,Za,Zb,Zc,Zd,Ze,Zf,List.cons.injEq,Zg,Zh,Zi,Zj,Zk,Zl,Zm,Zn,Zo,Zp,beq_self_eq_true,bne_self_eq_false,decide_true,decide_false,Zq,Zr,Zs,Zt,Zu,Zv,Zw,Zx,Zy,Zz,Y0,Y1,Y2,Y3,Y4,Y5,Y6,Y7,Y8,Y9,Ya,Yb,Yc,Yd,Ye,Yf,Yg,Yh,Yi,Yj,Yk,Yl,Ym,Yn,Yo,Yp,Yq,lk,ef,Yr,Ys,Yt,Yu,Yv,Yw,Yx,Yy,Yz,X0,X1,X2,X3,X4,X5,X6,X7,X8,X9,Xa,Xb,Xc,Xd,Xe,Xf,Xg,Xh,Xi,Xj,Xk,Xl,Xm,Xn,Xo,Xp,Xq,Xr,Xs,hv,Xt,ev,Xu,Xv,Xw,Xx,Xy,Xz,W0,W1,W2,W3,W4,W5,W6,W7,W8,W9,Wa,Wb,Wc,Wd,We,Wf,Wg,Wh,Wi,Wj,Wk,Wl,Wm,Wn,Wo,Wp,Wq,Wr,Ws,Wt,Value.oneCell',Wu,Wv,Ww,Wx,true_and,and_true,and_self,implies_true,Wy,Wz,V0,V1,false_implies,V2,V3,V4,V5,V6,V7,V8,V9,Va,Vb,Vc,Vd,Ve,Vf,Vg,Vh,Vi,reduceCtorEq,if_true,if_false,Vj,↓reduceIte,Vk,Vl,Vm,Vn,Vo,Vp,Vq,ne_eq,not_false_eq_true,not_true_eq_false,Vr,Nat.zero_ne_one]
    all_goals first | done | rfl | simp
  rintro J hJ k ⟨hk, hg⟩
  simp only [Z0,Z1,Z2,Z3,Z4,Z5,Z6,Z7,Z8,Z9,Za,Zb,Zc,Zd,Ze,Zf,List.cons.injEq,Zg,Zh,Zi,Zj,Zk,Zl,Zm,Zn,Zo,Zp,beq_self_eq_true,bne_self_eq_false,decide_true,decide_false,Zq,Zr,Zs,Zt,Zu,Zv,Zw,Zx,Zy,Zz,Y0,Y1,Y2,Y3,Y4,Y5,Y6,Y7,Y8,Y9,Ya,Yb,Yc,Yd,Ye,Yf,Yg,Yh,Yi,Yj,Yk,Yl,Ym,Yn,Yo,Yp,Yq,lk,ef,Yr,Ys,Yt,Yu,Yv,Yw,Yx,Yy,Yz,X0,X1,X2,X3,X4,X5,X6,X7,X8,X9,Xa,Xb,Xc,Xd,Xe,Xf,Xg,Xh,Xi,Xj,Xk,Xl,Xm,Xn,Xo,Xp,Xq,Xr,Xs,hv,Xt,ev,Xu,Xv,Xw,Xx,Xy,Xz,W0,W1,W2,W3,W4,W5,W6,W7,W8,W9,Wa,Wb,Wc,Wd,We,Wf,Wg,Wh,Wi,Wj,Wk,Wl,Wm,Wn,Wo,Wp,Wq,Wr,Ws,Wt,Value.oneCell',Wu,Wv,Ww,Wx,true_and,and_true,and_self,implies_true,Wy,Wz,V0,V1,false_implies,V2,V3,V4,V5,V6,V7,V8,V9,Va,Vb,Vc,Vd,Ve,Vf,Vg,Vh,Vi,reduceCtorEq,if_true,if_false,Vj,↓reduceIte,Vk,Vl,Vm,Vn,Vo,Vp,Vq,ne_eq,not_false_eq_true,not_true_eq_false,Vr,Vs,r83_0,r83_1,r83_2,r83_3,r83_4,r83_5,r83_6,r83_7,r83_8,r83_9,p83,l83_0]
  refine condD (fun h => ?_) (fun h => ?_)
  · have hlt : k < b.length := by omega
    have hla : k < a.length := by omega
    have hw := i_add1 k (by omega)
    have gA := getD_map (f := oneS) (d := []) hla
    have gB := getD_map (f := oneS) (d := []) hlt
    have hki : (k : Int) < b.length := by omega
    have k0 : (0 : Int) ≤ (k : Int) := by omega
    rw [List.drop_eq_getElem_cons hlt, List.drop_eq_getElem_cons hla, eqSL] at hg
    simp only [oneS] at gA gB
    generalize a[k] = x at *
    generalize b[k] = y at *
    cases q : (x.toList == y.toList)
    · rw [q, Bool.false_and] at hg
      rw [hg]
      have q' : (x.toList != y.toList) = true := by rw [bne, q]; rfl
      repeat' first | ((with_reducible (first | refine condD ?_ ?_ | refine condE ?_ ?_ | refine condN ?_ ?_ | refine condI ?_ ?_ | refine condS ?_ ?_)) <;> intro h) | ((with_reducible (first | refine guardD (by with_unfolding_all rfl) ?_ ?_ | refine guardE (by with_unfolding_all rfl) ?_ ?_ | refine guardN (by with_unfolding_all rfl) ?_ ?_ | refine guardI (by with_unfolding_all rfl) ?_ ?_ | refine guardS (by with_unfolding_all rfl) ?_ ?_)) <;> intro h) | (with_reducible refine And.intro ?_ ?_; omega) | (simp only [Z0,Z1,Z2,Z3,Z4,Z5,Z6,Z7,Z8,Z9,Za,Zb,Zc,Zd,Ze,Zf,List.cons.injEq,Zg,Zh,Zi,Zj,Zk,Zl,Zm,Zn,Zo,Zp,beq_self_eq_true,bne_self_eq_false,decide_true,decide_false,Zq,Zr,Zs,Zt,Zu,Zv,Zw,Zx,Zy,Zz,Y0,Y1,Y2,Y3,Y4,Y5,Y6,Y7,Y8,Y9,Ya,Yb,Yc,Yd,Ye,Yf,Yg,Yh,Yi,Yj,Yk,Yl,Ym,Yn,Yo,Yp,Yq,lk,ef,Yr,Ys,Yt,Yu,Yv,Yw,Yx,Yy,Yz,X0,X1,X2,X3,X4,X5,X6,X7,X8,X9,Xa,Xb,Xc,Xd,Xe,Xf,Xg,Xh,Xi,Xj,Xk,Xl,Xm,Xn,Xo,Xp,Xq,Xr,Xs,hv,Xt,ev,Xu,Xv,Xw,Xx,Xy,Xz,W0,W1,W2,W3,W4,W5,W6,W7,W8,W9,Wa,Wb,Wc,Wd,We,Wf,Wg,Wh,Wi,Wj,Wk,Wl,Wm,Wn,Wo,Wp,Wq,Wr,Ws,Wt,Value.oneCell',Wu,Wv,Ww,Wx,true_and,and_true,and_self,implies_true,Wy,Wz,V0,V1,false_implies,V2,V3,V4,V5,V6,V7,V8,V9,Va,Vb,Vc,Vd,Ve,Vf,Vg,Vh,Vi,reduceCtorEq,if_true,if_false,Vj,↓reduceIte,Vk,Vl,Vm,Vn,Vo,Vp,Vq,ne_eq,not_false_eq_true,not_true_eq_false,Vr,Vs,r83_0,r83_1,r83_2,r83_3,r83_4,r83_5,r83_6,r83_7,r83_8,r83_9,p83,l83_0,gA,gB,hki,k0,hw,hl,q,q',Vh,Vi,List.length_map]) | (exfalso; omega)
      all_goals first | done | omega | trace_state
    · rw [q, Bool.true_and] at hg
      have q' : (x.toList != y.toList) = false := by rw [bne, q]; rfl
      repeat' first | ((with_reducible (first | refine condD ?_ ?_ | refine condE ?_ ?_ | refine condN ?_ ?_ | refine condI ?_ ?_ | refine condS ?_ ?_)) <;> intro h) | ((with_reducible (first | refine guardD (by with_unfolding_all rfl) ?_ ?_ | refine guardE (by with_unfolding_all rfl) ?_ ?_ | refine guardN (by with_unfolding_all rfl) ?_ ?_ | refine guardI (by with_unfolding_all rfl) ?_ ?_ | refine guardS (by with_unfolding_all rfl) ?_ ?_)) <;> intro h) | (with_reducible refine And.intro ?_ ?_; omega) | (simp only [Z0,Z1,Z2,Z3,Z4,Z5,Z6,Z7,Z8,Z9,Za,Zb,Zc,Zd,Ze,Zf,List.cons.injEq,Zg,Zh,Zi,Zj,Zk,Zl,Zm,Zn,Zo,Zp,beq_self_eq_true,bne_self_eq_false,decide_true,decide_false,Zq,Zr,Zs,Zt,Zu,Zv,Zw,Zx,Zy,Zz,Y0,Y1,Y2,Y3,Y4,Y5,Y6,Y7,Y8,Y9,Ya,Yb,Yc,Yd,Ye,Yf,Yg,Yh,Yi,Yj,Yk,Yl,Ym,Yn,Yo,Yp,Yq,lk,ef,Yr,Ys,Yt,Yu,Yv,Yw,Yx,Yy,Yz,X0,X1,X2,X3,X4,X5,X6,X7,X8,X9,Xa,Xb,Xc,Xd,Xe,Xf,Xg,Xh,Xi,Xj,Xk,Xl,Xm,Xn,Xo,Xp,Xq,Xr,Xs,hv,Xt,ev,Xu,Xv,Xw,Xx,Xy,Xz,W0,W1,W2,W3,W4,W5,W6,W7,W8,W9,Wa,Wb,Wc,Wd,We,Wf,Wg,Wh,Wi,Wj,Wk,Wl,Wm,Wn,Wo,Wp,Wq,Wr,Ws,Wt,Value.oneCell',Wu,Wv,Ww,Wx,true_and,and_true,and_self,implies_true,Wy,Wz,V0,V1,false_implies,V2,V3,V4,V5,V6,V7,V8,V9,Va,Vb,Vc,Vd,Ve,Vf,Vg,Vh,Vi,reduceCtorEq,if_true,if_false,Vj,↓reduceIte,Vk,Vl,Vm,Vn,Vo,Vp,Vq,ne_eq,not_false_eq_true,not_true_eq_false,Vr,Vs,r83_0,r83_1,r83_2,r83_3,r83_4,r83_5,r83_6,r83_7,r83_8,r83_9,p83,l83_0,gA,gB,hki,k0,hw,hl,q,q',Vh,Vi,List.length_map]) | (exfalso; omega)
      all_goals first | done | omega | exact again hJ (k + 1) (weak_mk (by simp only [wk_cons,wk_nil,wk1,vint_eq,vbool_eq,Vt,Z0,Z1,Z2,Z3,Z4,Z5,Z6,Z7,Z8,Z9,Za,Zb,Zc,Zd,Ze,Zf,List.cons.injEq,Zg,Zh,Zi,Zj,Zk,Zl,Zm,Zn,Zo,Zp,beq_self_eq_true,bne_self_eq_false,decide_true,decide_false,Zq,Zr,Zs,Zt,Zu,Zv,Zw,Zx,Zy,Zz,Y0,Y1,Y2,Y3,Y4,Y5,Y6,Y7,Y8,Y9,Ya,Yb,Yc,Yd,Ye,Yf,Yg,Yh,Yi,Yj,Yk,Yl,Ym,Yn,Yo,Yp,Yq,lk,ef,Yr,Ys,Yt,Yu,Yv,Yw,Yx,Yy,Yz,X0,X1,X2,X3,X4,X5,X6,X7,X8,X9,Xa,Xb,Xc,Xd,Xe,Xf,Xg,Xh,Xi,Xj,Xk,Xl,Xm,Xn,Xo,Xp,Xq,Xr,Xs,hv,Xt,ev,Xu,Xv,Xw,Xx,Xy,Xz,W0,W1,W2,W3,W4,W5,W6,W7,W8,W9,Wa,Wb,Wc,Wd,We,Wf,Wg,Wh,Wi,Wj,Wk,Wl,Wm,Wn,Wo,Wp,Wq,Wr,Ws,Wt,Value.oneCell',Wu,Wv,Ww,Wx,true_and,and_true,and_self,implies_true,Wy,Wz,V0,V1,false_implies,V2,V3,V4,V5,V6,V7,V8,V9,Va,Vb,Vc,Vd,Ve,Vf,Vg,Vh,Vi,reduceCtorEq,if_true,if_false,Vj,↓reduceIte,Vk,Vl,Vm,Vn,Vo,Vp,Vq,ne_eq,not_false_eq_true,not_true_eq_false,Vr,Nat.zero_ne_one]; all_goals first | done | rfl)) ⟨by omega, hg⟩ (by omega) | trace_state
  · have hke : k = b.length := by omega
    rw [hke, List.drop_length, List.drop_of_length_le (by omega), eqSL] at hg
    rw [hg]
    clear hJ
    repeat' first | ((with_reducible (first | refine condD ?_ ?_ | refine condE ?_ ?_ | refine condN ?_ ?_ | refine condI ?_ ?_ | refine condS ?_ ?_)) <;> intro h) | ((with_reducible (first | refine guardD (by with_unfolding_all rfl) ?_ ?_ | refine guardE (by with_unfolding_all rfl) ?_ ?_ | refine guardN (by with_unfolding_all rfl) ?_ ?_ | refine guardI (by with_unfolding_all rfl) ?_ ?_ | refine guardS (by with_unfolding_all rfl) ?_ ?_)) <;> intro h) | (with_reducible refine And.intro ?_ ?_; omega) | (simp only [Z0,Z1,Z2,Z3,Z4,Z5,Z6,Z7,Z8,Z9,Za,Zb,Zc,Zd,Ze,Zf,List.cons.injEq,Zg,Zh,Zi,Zj,Zk,Zl,Zm,Zn,Zo,Zp,beq_self_eq_true,bne_self_eq_false,decide_true,decide_false,Zq,Zr,Zs,Zt,Zu,Zv,Zw,Zx,Zy,Zz,Y0,Y1,Y2,Y3,Y4,Y5,Y6,Y7,Y8,Y9,Ya,Yb,Yc,Yd,Ye,Yf,Yg,Yh,Yi,Yj,Yk,Yl,Ym,Yn,Yo,Yp,Yq,lk,ef,Yr,Ys,Yt,Yu,Yv,Yw,Yx,Yy,Yz,X0,X1,X2,X3,X4,X5,X6,X7,X8,X9,Xa,Xb,Xc,Xd,Xe,Xf,Xg,Xh,Xi,Xj,Xk,Xl,Xm,Xn,Xo,Xp,Xq,Xr,Xs,hv,Xt,ev,Xu,Xv,Xw,Xx,Xy,Xz,W0,W1,W2,W3,W4,W5,W6,W7,W8,W9,Wa,Wb,Wc,Wd,We,Wf,Wg,Wh,Wi,Wj,Wk,Wl,Wm,Wn,Wo,Wp,Wq,Wr,Ws,Wt,Value.oneCell',Wu,Wv,Ww,Wx,true_and,and_true,and_self,implies_true,Wy,Wz,V0,V1,false_implies,V2,V3,V4,V5,V6,V7,V8,V9,Va,Vb,Vc,Vd,Ve,Vf,Vg,Vh,Vi,reduceCtorEq,if_true,if_false,Vj,↓reduceIte,Vk,Vl,Vm,Vn,Vo,Vp,Vq,ne_eq,not_false_eq_true,not_true_eq_false,Vr,Vs,r83_0,r83_1,r83_2,r83_3,r83_4,r83_5,r83_6,r83_7,r83_8,r83_9,p83,l83_0]) | (exfalso; omega)
    all_goals first | done | rfl | trace_state
/-! headend/list.sameEntry -/
def r58_0 : List POp := [⟨2, .boxs (.t 0), none⟩,
  ⟨3, .boxs (.t 1), none⟩,
  ⟨4, .asg (.c (.bool false)), none⟩]
def r58_1 : List POp := [⟨5, .fld 0 (.t 2), none⟩,
  ⟨6, .load (.t 5), none⟩,
  ⟨7, .fld 0 (.t 3), none⟩,
  ⟨8, .load (.t 7), none⟩,
  ⟨9, .bin .eql (.t 6) (.t 8), none⟩,
  ⟨10, .mv (.t 9), none⟩,
  ⟨11, .fld 1 (.t 2), some (10, true)⟩,
  ⟨12, .load (.t 11), some (10, true)⟩,
  ⟨13, .fld 1 (.t 3), some (10, true)⟩,
  ⟨14, .load (.t 13), some (10, true)⟩,
  ⟨15, .bin .eql (.t 12) (.t 14), some (10, true)⟩,
  ⟨16, .pick (.t 10) (.t 15) (.c (.bool false)), none⟩,
  ⟨17, .mv (.t 16), none⟩,
  ⟨18, .fld 2 (.t 2), some (17, true)⟩,
  ⟨19, .load (.t 18), some (17, true)⟩,
  ⟨20, .fld 2 (.t 3), some (17, true)⟩,
  ⟨21, .load (.t 20), some (17, true)⟩,
  ⟨22, .eqb false (.t 19) (.t 21), some (17, true)⟩,
  ⟨23, .pick (.t 17) (.t 22) (.c (.bool false)), none⟩,
  ⟨24, .mv (.t 23), none⟩,
  ⟨25, .fld 3 (.t 2), some (24, true)⟩,
  ⟨26, .load (.t 25), some (24, true)⟩,
  ⟨27, .fld 3 (.t 3), some (24, true)⟩,
  ⟨28, .load (.t 27), some (24, true)⟩,
  ⟨29, .bin .eql (.t 26) (.t 28), some (24, true)⟩,
  ⟨30, .pick (.t 24) (.t 29) (.c (.bool false)), none⟩,
  ⟨31, .mv (.t 30), none⟩,
  ⟨32, .fld 4 (.t 2), some (31, true)⟩,
  ⟨33, .load (.t 32), some (31, true)⟩,
  ⟨34, .fld 4 (.t 3), some (31, true)⟩,
  ⟨35, .load (.t 34), some (31, true)⟩,
  ⟨36, .bin .eql (.t 33) (.t 35), some (31, true)⟩,
  ⟨37, .pick (.t 31) (.t 36) (.c (.bool false)), none⟩,
  ⟨38, .mv (.t 37), none⟩,
  ⟨39, .fld 5 (.t 2), some (38, true)⟩,
  ⟨40, .load (.t 39), some (38, true)⟩,
  ⟨41, .fld 5 (.t 3), some (38, true)⟩,
  ⟨42, .load (.t 41), some (38, true)⟩,
  ⟨43, .eqb false (.t 40) (.t 42), some (38, true)⟩,
  ⟨44, .pick (.t 38) (.t 43) (.c (.bool false)), none⟩,
  ⟨45, .mv (.t 44), none⟩,
  ⟨46, .fld 6 (.t 2), some (45, true)⟩,
  ⟨47, .load (.t 46), some (45, true)⟩,
  ⟨48, .fld 6 (.t 3), some (45, true)⟩,
  ⟨49, .load (.t 48), some (45, true)⟩,
  ⟨50, .call 83 [.t 47, .t 49], some (45, true)⟩,
  ⟨51, .pick (.t 45) (.t 50) (.c (.bool false)), none⟩,
  ⟨4, .asg (.t 51), none⟩]
def p58 : PCode := .seq (.ops r58_0) (.seq (.ops r58_1) (.ret))
theorem ok58 : okFunc Try.prog 58 [.t 4] 2 p58 = true := by kernel_rfl
theorem samee_c (a b : LE) (ha : a.ok) : CallOK Try.prog 58 [.agg a.av, .agg b.av] (.val (.bool (sameE a b))) := by
  refine call_of mixed ok58 rfl ?_
  have c1 := eqsl_c a.extra b.extra ha.1
  repeat' first | ((with_reducible (first | refine condD ?_ ?_ | refine condE ?_ ?_ | refine condN ?_ ?_ | refine condI ?_ ?_ | refine condS ?_ ?_)) <;> intro h) | ((with_reducible (first | refine guardD (by with_unfolding_all rfl) ?_ ?_ | refine guardE (by with_unfolding_all rfl) ?_ ?_ | refine guardN (by with_unfolding_all rfl) ?_ ?_ | refine guardI (by with_unfolding_all rfl) ?_ ?_ | refine guardS (by with_unfolding_all rfl) ?_ ?_)) <;> intro h) | ((refine callG c1 ?_)) | (with_reducible refine And.intro ?_ ?_; omega) | (simp only [Z0,Z1,Z2,Z3,Z4,Z5,Z6,Z7,Z8,Z9,Za,Zb,Zc,Zd,Ze,Zf,List.cons.injEq,Zg,Zh,Zi,Zj,Zk,Zl,Zm,Zn,Zo,Zp,beq_self_eq_true,bne_self_eq_false,decide_true,decide_false,Zq,Zr,Zs,Zt,Zu,Zv,Zw,Zx,Zy,Zz,Y0,Y1,Y2,Y3,Y4,Y5,Y6,Y7,Y8,Y9,Ya,Yb,Yc,Yd,Ye,Yf,Yg,Yh,Yi,Yj,Yk,Yl,Ym,Yn,Yo,Yp,Yq,lk,ef,Yr,Ys,Yt,Yu,Yv,Yw,Yx,Yy,Yz,X0,X1,X2,X3,X4,X5,X6,X7,X8,X9,Xa,Xb,Xc,Xd,Xe,Xf,Xg,Xh,Xi,Xj,Xk,Xl,Xm,Xn,Xo,Xp,Xq,Xr,Xs,hv,Xt,ev,Xu,Xv,Xw,Xx,Xy,Xz,W0,W1,W2,W3,W4,W5,W6,W7,W8,W9,Wa,Wb,Wc,Wd,We,Wf,Wg,Wh,Wi,Wj,Wk,Wl,Wm,Wn,Wo,Wp,Wq,Wr,Ws,Wt,Value.oneCell',Wu,Wv,Ww,Wx,true_and,and_true,and_self,implies_true,Wy,Wz,V0,V1,false_implies,V2,V3,V4,V5,V6,V7,V8,V9,Va,Vb,Vc,Vd,Ve,Vf,Vg,Vh,Vi,reduceCtorEq,if_true,if_false,Vj,↓reduceIte,Vk,Vl,Vm,Vn,Vo,Vp,Vq,ne_eq,not_false_eq_true,not_true_eq_false,Vr,Vs,r58_0,r58_1,p58,LE.av]) | (exfalso; omega)
  all_goals first | done | (simp only [sameE, *, Bool.true_and, Bool.false_and, Bool.and_false]; done) | (clear c1 ha; simp [sameE, *]; done) | trace_state
end Go.Proofs.Ytpecmhdepggnoaa
