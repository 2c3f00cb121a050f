/- slices.insertionSortCmpFunc with sample.Order's comparison, by the machine on data. -/
import Derived.Test.YtbdcnooafacldaaKStabA
namespace Go.Proofs.Ytbdcnooafacldaa
open Go.RowKit
open Go.Proofs.Ytbdcnooafacldaa renaming done_eq → Z0, done_eq' → Z1, donet_eq → Z3, donet_eq' → Z4, fin_val → Z5, fin_tup → Z6, fin_agg → Z7, fin_ro → Z8, res_one → Z9, res_more → Za, rv_t → Zb, rv_c → Zc, rv_l → Zd, int_eq → Zh, bool_eq → Zi, toNat_pred → Zs, toNat_succ → Zt, cnd_t → Zv, cnd_f → Zw, grd_tt → Zx, grd_u → Zy, grd_tf → Zz, grd_ft → Y0, grd_ff → Y1, g_skip → Y2, g_ops → Y3, g_seq → Y4, g_block → Y5, g_exit → Y6, g_ret → Y7, x_c → Y8, x_o → Y9, x_l → Ya, x_b → Yb, g_b → Yc, g_nil → Yd, r_all → Ye, o_nil → Yf, g_cond → Yg, o_guard → Yh, o_call → Yi, o_callm → Yj, o_callt → Yk, o_callx → Yl, o_callv → Ym, o_callc → Yn, o_callh → Yo, o_apph → Yp, noav_alias → Yq, noav_nil → Yr, o_mv → Ys, o_pick → Yt, o_bin → Yu, o_never → Yv, o_eqs → Yw, o_eqb → Yx, o_un → Yy, o_conv → Yz, o_load → X0, o_loadr → X1, o_idxr → X2, o_loads → X3, o_loadsr → X4, o_fld → X5, o_idx → X6, o_idxs → X7, o_len → X8, o_lens → X9, o_ext → Xa, o_nilck → Xb, o_slc → Xc, o_slcs → Xd, o_build → Xe, o_minmax → Xf, o_mkfn → Xg, o_mkfnr → Xh, o_alloc → Xi, o_box → Xj, o_boxs → Xk, o_row → Xl, o_rowr → Xm, o_mk → Xn, o_asg → Xo, o_app → Xp, o_appa → Xq, o_store → Xr, o_stores → Xs, o_eqnil → Xt, eqAV → Xu, view_t → Xv, view_c → Xw, view_nil → Xx, view_fn → Xy, look_own → Xz, look_box → W0, look_junk → W1, look_val → W2, look_nilsl → W3, look_ro → W4, look_roAt → W5, look_agg → W6, look_tup → W7, look_clo → W8, look_alias → W9, look_ref → Wa, look_into → Wb, look_fnv → Wc, look_held → Wd, rowOf → We, cellsOf → Wf, argv → Wg, vbin → Wh, vun → Wi, bnd → Wj, elemOf → Wk, putParts → Wl, setAt → Wm, zav → Wn, put_at → Wv, mk_at → Ww, mk_nil → Wx, initSt → Wy, wk_cons → Vu, wk_nil → Vv, vint_eq → Vw, vbool_eq → Vx
open Go.Proofs.Ytbdcnooafacldaa.AV.tup renaming injEq → Ze
open Go.Proofs.Ytbdcnooafacldaa.AV.agg renaming injEq → Zf
open Go.Proofs.Ytbdcnooafacldaa.AV.ro renaming injEq → Zg
open _root_.Int renaming toNat_natCast → Zj, reduceToNat → Zk, toNat_zero → Zl, toNat_one → Zm, reduceLE → Zn, reduceLT → Zo, reduceBEq → Zp, reduceBNe → Zq, reduceNeg → Zr
open _root_.List renaming length_map → Zu, map_cons → Wz, map_nil → V0, forall_mem_cons → V1, not_mem_nil → V2, length_cons → V3, length_nil → V4, getD_cons_zero → V5, getD_cons_succ → V6, getD_nil → V7, drop_succ_cons → V8, drop_zero → V9, take_succ_cons → Va, take_zero → Vb, set_cons_zero → Vc, set_cons_succ → Vd, all_cons → Ve, all_nil → Vf
open Go.Proofs.Ytbdcnooafacldaa.ASt renaming rid → Wo, hold → Wp, free → Wq
open Go.Proofs.Ytbdcnooafacldaa.AV renaming kill → Wr, isHome → Ws, noLoan → Wt, cellOK → Wu
open _root_.Bool renaming and_true → Vg, true_and → Vh, not_true → Vi, not_false → Vj, false_eq_true → Vk
open _root_.Nat renaming reduceEqDiff → Vl, reduceBNe → Vm, reduceAdd → Vn, reduceSub → Vo, reduceMul → Vp, reduceLeDiff → Vq, reduceLT → Vr, one_ne_zero → Vs, zero_ne_one → Vt
open Go.Proofs.Ytbdcnooafacldaa.AV.val renaming injEq → Vy
set_option linter.unusedSimpArgs false
--@short

/-- The key of a number: what lies at its place. -/
def fK (p : List Int) (x : Int) : Int := p.getD x.toNat 0
/-- Keys that are far from the machine's bounds. -/
def KBnd (p : List Int) : Prop := ∀ v ∈ p, -2000000000000000 ≤ v ∧ v ≤ 2000000000000000
/-- Numbers that have a key. -/
def InK (p : List Int) (X : List Int) : Prop := ∀ x ∈ X, 0 ≤ x ∧ x < p.length
theorem fk_at {p : List Int} {x : Int} (h : 0 ≤ x ∧ x < p.length) : p[x.toNat]? = some (fK p x) := by
  have hlt : x.toNat < p.length := by omega
  rw [List.getElem?_eq_getElem hlt, fK, List.getD_eq_getElem?_getD, List.getElem?_eq_getElem hlt]
  rfl
theorem fk_bd {p : List Int} (hp : KBnd p) {x : Int} (h : 0 ≤ x ∧ x < p.length) : -2000000000000000 ≤ fK p x ∧ fK p x ≤ 2000000000000000 := hp _ (List.mem_of_getElem? (fk_at h))
/-- The comparison, as it is handed over. -/
def cmpV (g : Nat) (p : List Int) : AV := .fnv g [.roAt [.ro (p.map oneI)] 0]
/-! headend/sample.Order$1 -/
def r16_0 : List POp := [⟨5, .asg (.c (.int .i64 0)), none⟩]
def r16_1 : List POp := [⟨6, .load (.t 2), none⟩,
  ⟨7, .mv (.t 0), none⟩,
  ⟨8, .idx 1 (.t 6) (.t 7), none⟩,
  ⟨9, .load (.t 8), none⟩,
  ⟨10, .load (.t 2), none⟩,
  ⟨11, .mv (.t 1), none⟩,
  ⟨12, .idx 1 (.t 10) (.t 11), none⟩,
  ⟨13, .load (.t 12), none⟩,
  ⟨14, .bin .sub (.t 9) (.t 13), none⟩,
  ⟨5, .asg (.t 14), none⟩]
def p16 : PCode := .seq (.ops r16_0) (.seq (.ops r16_1) (.ret))
theorem ok16 : okFunc Try.prog 16 [.t 5] 3 p16 = true := by kernel_rfl
theorem cmp_c (p : List Int) (x y : Int) (hp : KBnd p) (hx : 0 ≤ x ∧ x < p.length) (hy : 0 ≤ y ∧ y < p.length) : CallOK Try.prog 16 [.val (.int .i64 x), .val (.int .i64 y), .roAt [.ro (p.map oneI)] 0] (.val (.int .i64 (fK p x - fK p y))) := by
  refine call_of mixed ok16 rfl ?_
  have g1 := one_get (fk_at hx)
  have g2 := one_get (fk_at hy)
  have b1 := fk_bd hp hx
  have b2 := fk_bd hp hy
  have w1 : IntKind.i64.wrap (fK p x - fK p y) = fK p x - fK p y := wrap_in (by omega) (by omega)
  obtain ⟨hx1, hx2⟩ := hx
  obtain ⟨hy1, hy2⟩ := hy
  repeat' first | ((with_reducible (first | refine condD ?_ ?_ | refine condE ?_ ?_ | refine condN ?_ ?_ | refine condI ?_ ?_ | refine condS ?_ ?_)) <;> intro h) | ((with_reducible (first | refine guardD (by with_unfolding_all rfl) ?_ ?_ | refine guardE (by with_unfolding_all rfl) ?_ ?_ | refine guardN (by with_unfolding_all rfl) ?_ ?_ | refine guardI (by with_unfolding_all rfl) ?_ ?_ | refine guardS (by with_unfolding_all rfl) ?_ ?_)) <;> intro h) | (with_reducible refine And.intro ?_ ?_; omega) | (simp only [Z0,Z1,Z3,Z4,Z5,Z6,Z7,Z8,Z9,Za,Zb,Zc,Zd,Ze,Zf,Zg,List.cons.injEq,Zh,Zi,Zj,Zk,Zl,Zm,Zn,Zo,Zp,Zq,beq_self_eq_true,bne_self_eq_false,decide_true,decide_false,Zr,Zs,Zt,Zu,Zv,Zw,Zx,Zy,Zz,Y0,Y1,Y2,Y3,Y4,Y5,Y6,Y7,Y8,Y9,Ya,Yb,Yc,Yd,Ye,Yf,Yg,Yh,Yi,Yj,Yk,Yl,Ym,Yn,Yo,Yp,Yq,Yr,lk,ef,Ys,Yt,Yu,Yv,Yw,Yx,Yy,Yz,X0,X1,X2,X3,X4,X5,X6,X7,X8,X9,Xa,Xb,Xc,Xd,Xe,Xf,Xg,Xh,Xi,Xj,Xk,Xl,Xm,Xn,Xo,Xp,Xq,Xr,Xs,Xt,hv,Xu,ev,Xv,Xw,Xx,Xy,Xz,W0,W1,W2,W3,W4,W5,W6,W7,W8,W9,Wa,Wb,Wc,Wd,We,Wf,Wg,Wh,Wi,Wj,Wk,Wl,Wm,Wn,Wo,Wp,Wq,Wr,Ws,Wt,Wu,Value.oneCell',Wv,Ww,Wx,Wy,true_and,and_true,and_self,implies_true,Wz,V0,V1,V2,false_implies,V3,V4,V5,V6,V7,V8,V9,Va,Vb,Vc,Vd,Ve,Vf,Vg,Vh,Vi,Vj,reduceCtorEq,if_true,if_false,Vk,↓reduceIte,Vl,Vm,Vn,Vo,Vp,Vq,Vr,ne_eq,not_false_eq_true,not_true_eq_false,Vs,Vt,r16_0,r16_1,p16,g1,g2,w1,hx1,hx2,hy1,hy2,List.length_map]) | (exfalso; omega)
/-! slices.insertionSortCmpFunc[int] -/
def r32_0 : List POp := [⟨10, .mv (.t 1), none⟩,
  ⟨11, .bin .add (.t 10) (.c (.int .i64 1)), none⟩,
  ⟨8, .asg (.t 11), none⟩]
def r32_1 : List POp := [⟨12, .mv (.t 8), none⟩,
  ⟨13, .mv (.t 2), none⟩,
  ⟨14, .bin .lss (.t 12) (.t 13), none⟩]
def r32_3 : List POp := [⟨17, .mv (.t 8), none⟩,
  ⟨9, .asg (.t 17), none⟩]
def r32_4 : List POp := [⟨18, .mv (.t 9), none⟩,
  ⟨19, .mv (.t 1), none⟩,
  ⟨20, .bin .gtr (.t 18) (.t 19), none⟩,
  ⟨21, .mv (.t 20), none⟩,
  ⟨22, .mv (.t 3), some (21, true)⟩,
  ⟨23, .mv (.t 0), some (21, true)⟩,
  ⟨24, .mv (.t 9), some (21, true)⟩,
  ⟨25, .idx 1 (.t 23) (.t 24), some (21, true)⟩,
  ⟨26, .load (.t 25), some (21, true)⟩,
  ⟨27, .mv (.t 0), some (21, true)⟩,
  ⟨28, .mv (.t 9), some (21, true)⟩,
  ⟨29, .bin .sub (.t 28) (.c (.int .i64 1)), some (21, true)⟩,
  ⟨30, .idx 1 (.t 27) (.t 29), some (21, true)⟩,
  ⟨31, .load (.t 30), some (21, true)⟩,
  ⟨32, .callc (.t 22) [.t 26, .t 31], some (21, true)⟩,
  ⟨33, .bin .lss (.t 32) (.c (.int .i64 0)), some (21, true)⟩,
  ⟨34, .pick (.t 21) (.t 33) (.c (.bool false)), none⟩]
def r32_6 : List POp := [⟨37, .mv (.t 0), none⟩,
  ⟨38, .mv (.t 9), none⟩,
  ⟨39, .mv (.t 0), none⟩,
  ⟨40, .mv (.t 9), none⟩,
  ⟨41, .bin .sub (.t 40) (.c (.int .i64 1)), none⟩,
  ⟨42, .mv (.t 0), none⟩,
  ⟨43, .mv (.t 9), none⟩,
  ⟨44, .bin .sub (.t 43) (.c (.int .i64 1)), none⟩,
  ⟨45, .idx 1 (.t 42) (.t 44), none⟩,
  ⟨46, .load (.t 45), none⟩,
  ⟨47, .mv (.t 0), none⟩,
  ⟨48, .mv (.t 9), none⟩,
  ⟨49, .idx 1 (.t 47) (.t 48), none⟩,
  ⟨50, .load (.t 49), none⟩,
  ⟨51, .idx 1 (.t 37) (.t 38), none⟩,
  ⟨0, .store (.t 51) (.t 46), none⟩,
  ⟨52, .idx 1 (.t 39) (.t 41), none⟩,
  ⟨0, .store (.t 52) (.t 50), none⟩]
def r32_5 : List POp := [⟨35, .mv (.t 9), none⟩,
  ⟨36, .bin .sub (.t 35) (.c (.int .i64 1)), none⟩,
  ⟨9, .asg (.t 36), none⟩]
def r32_2 : List POp := [⟨15, .mv (.t 8), none⟩,
  ⟨16, .bin .add (.t 15) (.c (.int .i64 1)), none⟩,
  ⟨8, .asg (.t 16), none⟩]
def l32_1 : PCode := .seq (.seq (.ops r32_4) (.cond (.t 34) (.skip) (.exit 2))) (.seq (.block 3 (.ops r32_6)) (.ops r32_5))
def l32_0 : PCode := .seq (.seq (.ops r32_1) (.cond (.t 14) (.skip) (.exit 0))) (.seq (.block 1 (.seq (.ops r32_3) (.block 2 (.loop l32_1)))) (.ops r32_2))
def p32 : PCode := .seq (.ops r32_0) (.block 0 (.loop l32_0))
theorem ok32 : okFunc1 Try.prog 32 [] 4 p32 = true := by kernel_rfl
theorem insertion_row {P Y R : List Int} {x : Int} {t : Nat} (h : t < Y.length) :
    P ++ (Y.take (t + 1) ++ x :: Y.drop (t + 1)) ++ R = (P ++ Y.take t) ++ Y[t] :: ([] ++ x :: (Y.drop (t + 1) ++ R)) ∧
    P ++ (Y.take t ++ x :: Y.drop t) ++ R = (P ++ Y.take t) ++ x :: ([] ++ Y[t] :: (Y.drop (t + 1) ++ R)) := by
  rw [List.drop_eq_getElem_cons h, List.take_succ_eq_append_getElem h]
  simp only [List.append_assoc, List.cons_append, List.nil_append, and_self]
set_option maxHeartbeats 2000000 in
theorem insertion_c (p : List Int) (hp : KBnd p) (P X S : List Int) (hX : InK p X) (hinc : X.Pairwise (· < ·)) (hl : (P ++ X ++ S).length ≤ 100000) :
    TurnOK Try.prog 32 (.own 3 1 ((P ++ X ++ S).map oneI)) (.own 3 1 ((P ++ srt (fK p) X ++ S).map oneI)) [.val (.int .i64 P.length), .val (.int .i64 ((P.length + X.length : Nat) : Int)), .fnv 16 [.roAt [.ro (p.map oneI)] 0]] (.tup []) := by
  refine turn_of mixed ok32 rfl (.tup _ (by simp)) rfl ?_
  have hll : (P ++ X ++ S).length = P.length + X.length + S.length := by simp only [List.length_append]
  obtain ⟨row, hrow⟩ : ∃ row : Nat → List Int, row = fun i => P ++ (srt (fK p) (X.take i) ++ X.drop i) ++ S := ⟨_, rfl⟩
  have h0 : P ++ X ++ S = row 1 := by
    subst hrow
    cases X with
    | nil => simp [srt_nil]
    | cons x r => simp [srt_one]
  have hE : ∀ i, X.length ≤ i → row i = P ++ srt (fK p) X ++ S := fun i hi => by
    subst hrow
    simp only [List.take_of_length_le hi, List.drop_of_length_le hi, List.append_nil]
  have hrl : ∀ i, (row i).length = P.length + X.length + S.length := fun i => by
    subst hrow
    simp only [List.length_append, srt_len, List.length_take, List.length_drop]
    omega
  rw [hll] at hl
  rw [h0]
  generalize hq : P.length = q at *
  generalize hn : X.length = n at *
  have w0 : IntKind.i64.wrap ((q : Int) + 1) = ((q + 1 : Nat) : Int) := by rw [wrap_in (by omega) (by omega)]; omega
  repeat' first | ((with_reducible (first | refine condD ?_ ?_ | refine condE ?_ ?_ | refine condN ?_ ?_ | refine condI ?_ ?_ | refine condS ?_ ?_)) <;> intro h) | ((with_reducible (first | refine guardD (by with_unfolding_all rfl) ?_ ?_ | refine guardE (by with_unfolding_all rfl) ?_ ?_ | refine guardN (by with_unfolding_all rfl) ?_ ?_ | refine guardI (by with_unfolding_all rfl) ?_ ?_ | refine guardS (by with_unfolding_all rfl) ?_ ?_)) <;> intro h) | (with_reducible refine And.intro ?_ ?_; omega) | (simp only [Z0,Z1,Z3,Z4,Z5,Z6,Z7,Z8,Z9,Za,Zb,Zc,Zd,Ze,Zf,Zg,List.cons.injEq,Zh,Zi,Zj,Zk,Zl,Zm,Zn,Zo,Zp,Zq,beq_self_eq_true,bne_self_eq_false,decide_true,decide_false,Zr,Zs,Zt,Zu,Zv,Zw,Zx,Zy,Zz,Y0,Y1,Y2,Y3,Y4,Y5,Y6,Y7,Y8,Y9,Ya,Yb,Yc,Yd,Ye,Yf,Yg,Yh,Yi,Yj,Yk,Yl,Ym,Yn,Yo,Yp,Yq,Yr,lk,ef,Ys,Yt,Yu,Yv,Yw,Yx,Yy,Yz,X0,X1,X2,X3,X4,X5,X6,X7,X8,X9,Xa,Xb,Xc,Xd,Xe,Xf,Xg,Xh,Xi,Xj,Xk,Xl,Xm,Xn,Xo,Xp,Xq,Xr,Xs,Xt,hv,Xu,ev,Xv,Xw,Xx,Xy,Xz,W0,W1,W2,W3,W4,W5,W6,W7,W8,W9,Wa,Wb,Wc,Wd,We,Wf,Wg,Wh,Wi,Wj,Wk,Wl,Wm,Wn,Wo,Wp,Wq,Wr,Ws,Wt,Wu,Value.oneCell',Wv,Ww,Wx,Wy,true_and,and_true,and_self,implies_true,Wz,V0,V1,V2,false_implies,V3,V4,V5,V6,V7,V8,V9,Va,Vb,Vc,Vd,Ve,Vf,Vg,Vh,Vi,Vj,reduceCtorEq,if_true,if_false,Vk,↓reduceIte,Vl,Vm,Vn,Vo,Vp,Vq,Vr,ne_eq,not_false_eq_true,not_true_eq_false,Vs,Vt,r32_0,r32_1,r32_3,r32_4,r32_6,r32_5,r32_2,p32,w0]) | (exfalso; omega)
  refine loopS (fun i : Nat => mk [(0, .own 3 1 ((row i).map oneI)), (1, .val (.int .i64 q)), (2, .val (.int .i64 ((q + n : Nat) : Int))), (3, .fnv 16 [.roAt [.ro (p.map oneI)] 0]), (8, .val (.int .i64 ((q + i : Nat) : Int)))]) (fun i => 1 ≤ i ∧ (i ≤ n ∨ i = 1)) (fun i => n + 1 - i) 1 (weak_mk ?_) (by omega) ?_
  · simp only [Vu,Vv,wk1,Vw,Vx,Vy,Z0,Z1,Z3,Z4,Z5,Z6,Z7,Z8,Z9,Za,Zb,Zc,Zd,Ze,Zf,Zg,List.cons.injEq,Zh,Zi,Zj,Zk,Zl,Zm,Zn,Zo,Zp,Zq,beq_self_eq_true,bne_self_eq_false,decide_true,decide_false,Zr,Zs,Zt,Zu,Zv,Zw,Zx,Zy,Zz,Y0,Y1,Y2,Y3,Y4,Y5,Y6,Y7,Y8,Y9,Ya,Yb,Yc,Yd,Ye,Yf,Yg,Yh,Yi,Yj,Yk,Yl,Ym,Yn,Yo,Yp,Yq,Yr,lk,ef,Ys,Yt,Yu,Yv,Yw,Yx,Yy,Yz,X0,X1,X2,X3,X4,X5,X6,X7,X8,X9,Xa,Xb,Xc,Xd,Xe,Xf,Xg,Xh,Xi,Xj,Xk,Xl,Xm,Xn,Xo,Xp,Xq,Xr,Xs,Xt,hv,Xu,ev,Xv,Xw,Xx,Xy,Xz,W0,W1,W2,W3,W4,W5,W6,W7,W8,W9,Wa,Wb,Wc,Wd,We,Wf,Wg,Wh,Wi,Wj,Wk,Wl,Wm,Wn,Wo,Wp,Wq,Wr,Ws,Wt,Wu,Value.oneCell',Wv,Ww,Wx,Wy,true_and,and_true,and_self,implies_true,Wz,V0,V1,V2,false_implies,V3,V4,V5,V6,V7,V8,V9,Va,Vb,Vc,Vd,Ve,Vf,Vg,Vh,Vi,Vj,reduceCtorEq,if_true,if_false,Vk,↓reduceIte,Vl,Vm,Vn,Vo,Vp,Vq,Vr,ne_eq,not_false_eq_true,not_true_eq_false,Vs,Nat.zero_ne_one]
    all_goals first | done | rfl | exact ⟨rfl, rfl⟩
  rintro J hJ i ⟨hi1, hi2⟩
  simp only [Z0,Z1,Z3,Z4,Z5,Z6,Z7,Z8,Z9,Za,Zb,Zc,Zd,Ze,Zf,Zg,List.cons.injEq,Zh,Zi,Zj,Zk,Zl,Zm,Zn,Zo,Zp,Zq,beq_self_eq_true,bne_self_eq_false,decide_true,decide_false,Zr,Zs,Zt,Zu,Zv,Zw,Zx,Zy,Zz,Y0,Y1,Y2,Y3,Y4,Y5,Y6,Y7,Y8,Y9,Ya,Yb,Yc,Yd,Ye,Yf,Yg,Yh,Yi,Yj,Yk,Yl,Ym,Yn,Yo,Yp,Yq,Yr,lk,ef,Ys,Yt,Yu,Yv,Yw,Yx,Yy,Yz,X0,X1,X2,X3,X4,X5,X6,X7,X8,X9,Xa,Xb,Xc,Xd,Xe,Xf,Xg,Xh,Xi,Xj,Xk,Xl,Xm,Xn,Xo,Xp,Xq,Xr,Xs,Xt,hv,Xu,ev,Xv,Xw,Xx,Xy,Xz,W0,W1,W2,W3,W4,W5,W6,W7,W8,W9,Wa,Wb,Wc,Wd,We,Wf,Wg,Wh,Wi,Wj,Wk,Wl,Wm,Wn,Wo,Wp,Wq,Wr,Ws,Wt,Wu,Value.oneCell',Wv,Ww,Wx,Wy,true_and,and_true,and_self,implies_true,Wz,V0,V1,V2,false_implies,V3,V4,V5,V6,V7,V8,V9,Va,Vb,Vc,Vd,Ve,Vf,Vg,Vh,Vi,Vj,reduceCtorEq,if_true,if_false,Vk,↓reduceIte,Vl,Vm,Vn,Vo,Vp,Vq,Vr,ne_eq,not_false_eq_true,not_true_eq_false,Vs,Vt,r32_0,r32_1,r32_3,r32_4,r32_6,r32_5,r32_2,p32,l32_0]
  refine condD (fun h => ?_) (fun h => ?_)
  · have hin : i < n := by omega
    have hin' : i < X.length := by omega
    obtain ⟨Y, hY⟩ : ∃ Y, Y = srt (fK p) (X.take i) := ⟨_, rfl⟩
    have hYl : Y.length = i := by rw [hY, srt_len, List.length_take]; omega
    have hYs : SrtK (fK p) Y := hY ▸ srt_srt _ _
    have hYm : ∀ y ∈ Y, y ∈ X.take i := fun y hy => by rw [hY, srt_mem] at hy; exact hy
    have hxm : X[i] ∈ X := List.getElem_mem hin'
    have hxK := hX _ hxm
    have hyx : ∀ y ∈ Y, y < X[i] := fun y hy => by
      obtain ⟨j, hj, rfl⟩ := List.getElem_of_mem (hYm y hy)
      rw [List.getElem_take]
      have hj' : j < i := by rw [List.length_take] at hj; omega
      exact List.pairwise_iff_getElem.1 hinc j i (by omega) hin' hj'
    have hYK : ∀ y ∈ Y, 0 ≤ y ∧ y < p.length := fun y hy => hX y (List.mem_of_mem_take (hYm y hy))
    obtain ⟨rj, hrj⟩ : ∃ rj : Nat → List Int, rj = fun j => P ++ (Y.take j ++ X[i] :: Y.drop j) ++ (X.drop (i + 1) ++ S) := ⟨_, rfl⟩
    have hst : row i = rj i := by
      subst hrow
      rw [hrj]
      simp only
      rw [← hY, List.take_of_length_le (show Y.length ≤ i by omega), List.drop_of_length_le (show Y.length ≤ i by omega), List.drop_eq_getElem_cons hin']
      simp only [List.append_assoc, List.cons_append, List.nil_append]
    have hend : ∀ j, j ≤ i → (∀ y ∈ Y.take j, leK (fK p) y X[i]) → (∀ y ∈ Y.drop j, leK (fK p) X[i] y) → rj j = row (i + 1) := fun j _ h1 h2 => by
      subst hrow
      rw [hrj]
      simp only
      rw [ins_at (by rw [List.take_append_drop]; exact hYs) h1 h2, List.take_append_drop, List.take_succ_eq_append_getElem hin', srt_snoc, ← hY]
      simp only [List.append_assoc]
    have hrjl : ∀ j, j ≤ i → (rj j).length = q + n + S.length := fun j hj => by
      rw [hrj]
      simp only [List.length_append, List.length_cons, List.length_take, List.length_drop, hYl, hq, hn]
      omega
    have hsw : ∀ t, t < i → ∃ Q R u, u ∈ Y ∧ Y[t]? = some u ∧ Q.length = q + t ∧ rj (t + 1) = Q ++ u :: ([] ++ X[i] :: R) ∧ rj t = Q ++ X[i] :: ([] ++ u :: R) := fun t ht => by
      have ht' : t < Y.length := by omega
      obtain ⟨e1, e2⟩ := insertion_row (P := P) (R := X.drop (i + 1) ++ S) (x := X[i]) ht'
      refine ⟨P ++ Y.take t, Y.drop (t + 1) ++ (X.drop (i + 1) ++ S), Y[t], List.getElem_mem ht', List.getElem?_eq_getElem ht', ?_, ?_, ?_⟩
      · rw [List.length_append, List.length_take, hq]; omega
      · rw [hrj]; exact e1
      · rw [hrj]; exact e2
    rw [hst]
    clear hst hrj hY
    generalize X[i] = x at *
    have w1 := wrap_in (n := (((q + i : Nat) : Int) + 1)) (by omega) (by omega)
    have w1' : IntKind.i64.wrap (((q + i : Nat) : Int) + 1) = ((q + (i + 1) : Nat) : Int) := by rw [w1]; omega
    have hqi : ((q + i : Nat) : Int) < ((q + n : Nat) : Int) := by omega
    repeat' first | ((with_reducible (first | refine condD ?_ ?_ | refine condE ?_ ?_ | refine condN ?_ ?_ | refine condI ?_ ?_ | refine condS ?_ ?_)) <;> intro h) | ((with_reducible (first | refine guardD (by with_unfolding_all rfl) ?_ ?_ | refine guardE (by with_unfolding_all rfl) ?_ ?_ | refine guardN (by with_unfolding_all rfl) ?_ ?_ | refine guardI (by with_unfolding_all rfl) ?_ ?_ | refine guardS (by with_unfolding_all rfl) ?_ ?_)) <;> intro h) | (with_reducible refine And.intro ?_ ?_; omega) | (simp only [Z0,Z1,Z3,Z4,Z5,Z6,Z7,Z8,Z9,Za,Zb,Zc,Zd,Ze,Zf,Zg,List.cons.injEq,Zh,Zi,Zj,Zk,Zl,Zm,Zn,Zo,Zp,Zq,beq_self_eq_true,bne_self_eq_false,decide_true,decide_false,Zr,Zs,Zt,Zu,Zv,Zw,Zx,Zy,Zz,Y0,Y1,Y2,Y3,Y4,Y5,Y6,Y7,Y8,Y9,Ya,Yb,Yc,Yd,Ye,Yf,Yg,Yh,Yi,Yj,Yk,Yl,Ym,Yn,Yo,Yp,Yq,Yr,lk,ef,Ys,Yt,Yu,Yv,Yw,Yx,Yy,Yz,X0,X1,X2,X3,X4,X5,X6,X7,X8,X9,Xa,Xb,Xc,Xd,Xe,Xf,Xg,Xh,Xi,Xj,Xk,Xl,Xm,Xn,Xo,Xp,Xq,Xr,Xs,Xt,hv,Xu,ev,Xv,Xw,Xx,Xy,Xz,W0,W1,W2,W3,W4,W5,W6,W7,W8,W9,Wa,Wb,Wc,Wd,We,Wf,Wg,Wh,Wi,Wj,Wk,Wl,Wm,Wn,Wo,Wp,Wq,Wr,Ws,Wt,Wu,Value.oneCell',Wv,Ww,Wx,Wy,true_and,and_true,and_self,implies_true,Wz,V0,V1,V2,false_implies,V3,V4,V5,V6,V7,V8,V9,Va,Vb,Vc,Vd,Ve,Vf,Vg,Vh,Vi,Vj,reduceCtorEq,if_true,if_false,Vk,↓reduceIte,Vl,Vm,Vn,Vo,Vp,Vq,Vr,ne_eq,not_false_eq_true,not_true_eq_false,Vs,Vt,r32_0,r32_1,r32_3,r32_4,r32_6,r32_5,r32_2,p32,l32_0]) | (exfalso; omega)
    refine loopS (fun j : Nat => mk [(0, .own 3 1 ((rj j).map oneI)), (1, .val (.int .i64 q)), (2, .val (.int .i64 ((q + n : Nat) : Int))), (3, .fnv 16 [.roAt [.ro (p.map oneI)] 0]), (8, .val (.int .i64 ((q + i : Nat) : Int))), (9, .val (.int .i64 ((q + j : Nat) : Int)))]) (fun j => j ≤ i ∧ ∀ y ∈ Y.drop j, leK (fK p) x y) (fun j => j) i (weak_mk ?_) ⟨Nat.le_refl _, by rw [List.drop_of_length_le (by omega)]; simp⟩ ?_
    · simp only [Vu,Vv,wk1,Vw,Vx,Vy,Z0,Z1,Z3,Z4,Z5,Z6,Z7,Z8,Z9,Za,Zb,Zc,Zd,Ze,Zf,Zg,List.cons.injEq,Zh,Zi,Zj,Zk,Zl,Zm,Zn,Zo,Zp,Zq,beq_self_eq_true,bne_self_eq_false,decide_true,decide_false,Zr,Zs,Zt,Zu,Zv,Zw,Zx,Zy,Zz,Y0,Y1,Y2,Y3,Y4,Y5,Y6,Y7,Y8,Y9,Ya,Yb,Yc,Yd,Ye,Yf,Yg,Yh,Yi,Yj,Yk,Yl,Ym,Yn,Yo,Yp,Yq,Yr,lk,ef,Ys,Yt,Yu,Yv,Yw,Yx,Yy,Yz,X0,X1,X2,X3,X4,X5,X6,X7,X8,X9,Xa,Xb,Xc,Xd,Xe,Xf,Xg,Xh,Xi,Xj,Xk,Xl,Xm,Xn,Xo,Xp,Xq,Xr,Xs,Xt,hv,Xu,ev,Xv,Xw,Xx,Xy,Xz,W0,W1,W2,W3,W4,W5,W6,W7,W8,W9,Wa,Wb,Wc,Wd,We,Wf,Wg,Wh,Wi,Wj,Wk,Wl,Wm,Wn,Wo,Wp,Wq,Wr,Ws,Wt,Wu,Value.oneCell',Wv,Ww,Wx,Wy,true_and,and_true,and_self,implies_true,Wz,V0,V1,V2,false_implies,V3,V4,V5,V6,V7,V8,V9,Va,Vb,Vc,Vd,Ve,Vf,Vg,Vh,Vi,Vj,reduceCtorEq,if_true,if_false,Vk,↓reduceIte,Vl,Vm,Vn,Vo,Vp,Vq,Vr,ne_eq,not_false_eq_true,not_true_eq_false,Vs,Nat.zero_ne_one]
      all_goals first | done | rfl | exact ⟨rfl, rfl⟩
    rintro J2 hJ2 j ⟨hj1, hj2⟩
    rcases Nat.eq_zero_or_pos j with hj0 | hj0
    · subst hj0
      have hng : ¬ (q : Int) < ((q + 0 : Nat) : Int) := by omega
      have hres := hend 0 (Nat.zero_le _) (by simp) hj2
      rw [hres]
      clear hJ2
      repeat' first | ((with_reducible (first | refine condD ?_ ?_ | refine condE ?_ ?_ | refine condN ?_ ?_ | refine condI ?_ ?_ | refine condS ?_ ?_)) <;> intro h) | ((with_reducible (first | refine guardD (by with_unfolding_all rfl) ?_ ?_ | refine guardE (by with_unfolding_all rfl) ?_ ?_ | refine guardN (by with_unfolding_all rfl) ?_ ?_ | refine guardI (by with_unfolding_all rfl) ?_ ?_ | refine guardS (by with_unfolding_all rfl) ?_ ?_)) <;> intro h) | (with_reducible refine And.intro ?_ ?_; omega) | (simp only [Z0,Z1,Z3,Z4,Z5,Z6,Z7,Z8,Z9,Za,Zb,Zc,Zd,Ze,Zf,Zg,List.cons.injEq,Zh,Zi,Zj,Zk,Zl,Zm,Zn,Zo,Zp,Zq,beq_self_eq_true,bne_self_eq_false,decide_true,decide_false,Zr,Zs,Zt,Zu,Zv,Zw,Zx,Zy,Zz,Y0,Y1,Y2,Y3,Y4,Y5,Y6,Y7,Y8,Y9,Ya,Yb,Yc,Yd,Ye,Yf,Yg,Yh,Yi,Yj,Yk,Yl,Ym,Yn,Yo,Yp,Yq,Yr,lk,ef,Ys,Yt,Yu,Yv,Yw,Yx,Yy,Yz,X0,X1,X2,X3,X4,X5,X6,X7,X8,X9,Xa,Xb,Xc,Xd,Xe,Xf,Xg,Xh,Xi,Xj,Xk,Xl,Xm,Xn,Xo,Xp,Xq,Xr,Xs,Xt,hv,Xu,ev,Xv,Xw,Xx,Xy,Xz,W0,W1,W2,W3,W4,W5,W6,W7,W8,W9,Wa,Wb,Wc,Wd,We,Wf,Wg,Wh,Wi,Wj,Wk,Wl,Wm,Wn,Wo,Wp,Wq,Wr,Ws,Wt,Wu,Value.oneCell',Wv,Ww,Wx,Wy,true_and,and_true,and_self,implies_true,Wz,V0,V1,V2,false_implies,V3,V4,V5,V6,V7,V8,V9,Va,Vb,Vc,Vd,Ve,Vf,Vg,Vh,Vi,Vj,reduceCtorEq,if_true,if_false,Vk,↓reduceIte,Vl,Vm,Vn,Vo,Vp,Vq,Vr,ne_eq,not_false_eq_true,not_true_eq_false,Vs,Vt,r32_0,r32_1,r32_3,r32_4,r32_6,r32_5,r32_2,p32,l32_0,l32_1,hng,w1']) | (exfalso; omega)
      all_goals first | omega | exact again hJ (i + 1) (weak_mk (by simp only [Vu,Vv,wk1,Vw,Vx,Vy,Z0,Z1,Z3,Z4,Z5,Z6,Z7,Z8,Z9,Za,Zb,Zc,Zd,Ze,Zf,Zg,List.cons.injEq,Zh,Zi,Zj,Zk,Zl,Zm,Zn,Zo,Zp,Zq,beq_self_eq_true,bne_self_eq_false,decide_true,decide_false,Zr,Zs,Zt,Zu,Zv,Zw,Zx,Zy,Zz,Y0,Y1,Y2,Y3,Y4,Y5,Y6,Y7,Y8,Y9,Ya,Yb,Yc,Yd,Ye,Yf,Yg,Yh,Yi,Yj,Yk,Yl,Ym,Yn,Yo,Yp,Yq,Yr,lk,ef,Ys,Yt,Yu,Yv,Yw,Yx,Yy,Yz,X0,X1,X2,X3,X4,X5,X6,X7,X8,X9,Xa,Xb,Xc,Xd,Xe,Xf,Xg,Xh,Xi,Xj,Xk,Xl,Xm,Xn,Xo,Xp,Xq,Xr,Xs,Xt,hv,Xu,ev,Xv,Xw,Xx,Xy,Xz,W0,W1,W2,W3,W4,W5,W6,W7,W8,W9,Wa,Wb,Wc,Wd,We,Wf,Wg,Wh,Wi,Wj,Wk,Wl,Wm,Wn,Wo,Wp,Wq,Wr,Ws,Wt,Wu,Value.oneCell',Wv,Ww,Wx,Wy,true_and,and_true,and_self,implies_true,Wz,V0,V1,V2,false_implies,V3,V4,V5,V6,V7,V8,V9,Va,Vb,Vc,Vd,Ve,Vf,Vg,Vh,Vi,Vj,reduceCtorEq,if_true,if_false,Vk,↓reduceIte,Vl,Vm,Vn,Vo,Vp,Vq,Vr,ne_eq,not_false_eq_true,not_true_eq_false,Vs,Nat.zero_ne_one]; all_goals first | done | rfl)) (by omega) (by omega) | trace_state
    · obtain ⟨t, rfl⟩ : ∃ t, j = t + 1 := ⟨j - 1, by omega⟩
      obtain ⟨Q, R, u, hu, hut, hQ, z1, z2⟩ := hsw t (by omega)
      have hg : (q : Int) < ((q + (t + 1) : Nat) : Int) := by omega
      obtain ⟨⟨g1, g2⟩, _, ⟨Z2, s1, l1, g3, s2⟩⟩ := swp_facts z1 hQ (show q + t + 1 + ([] : List Int).length = q + (t + 1) by simp; omega)
      rw [← z2] at s2
      have hZl := hrjl (t + 1) hj1
      have huK := hYK u hu
      have hc := cmp_c p x u hp hxK huK
      have w2 : IntKind.i64.wrap (((q + (t + 1) : Nat) : Int) - 1) = ((q + t : Nat) : Int) := by rw [wrap_in (by omega) (by omega)]; omega
      have b1 : (0 : Int) ≤ ((q + t : Nat) : Int) := by omega
      have b2 : ((q + t : Nat) : Int) < (rj (t + 1)).length := by omega
      have b3 : (0 : Int) ≤ ((q + (t + 1) : Nat) : Int) := by omega
      have b4 : ((q + (t + 1) : Nat) : Int) < (rj (t + 1)).length := by omega
      have b5 : ((q + t : Nat) : Int) < Z2.length := by omega
      by_cases hlt : fK p x < fK p u
      · have ht : fK p x - fK p u < 0 := by omega
        have hdt : Y.drop t = u :: Y.drop (t + 1) := by
          have ht' : t < Y.length := (List.getElem?_eq_some_iff.1 hut).1
          rw [List.drop_eq_getElem_cons ht']
          rw [List.getElem?_eq_getElem ht'] at hut
          injection hut with hut
          rw [hut]
        have hinv : ∀ y ∈ Y.drop t, leK (fK p) x y := fun y hy => by
          rw [hdt] at hy
          rcases List.mem_cons.1 hy with rfl | hy
          · exact .inl hlt
          · exact hj2 y hy
        repeat' first | ((with_reducible (first | refine condD ?_ ?_ | refine condE ?_ ?_ | refine condN ?_ ?_ | refine condI ?_ ?_ | refine condS ?_ ?_)) <;> intro h) | ((with_reducible (first | refine guardD (by with_unfolding_all rfl) ?_ ?_ | refine guardE (by with_unfolding_all rfl) ?_ ?_ | refine guardN (by with_unfolding_all rfl) ?_ ?_ | refine guardI (by with_unfolding_all rfl) ?_ ?_ | refine guardS (by with_unfolding_all rfl) ?_ ?_)) <;> intro h) | ((refine callcG (by kernel_rfl) hc (.val _) ?_)) | (with_reducible refine And.intro ?_ ?_; omega) | (simp only [Z0,Z1,Z3,Z4,Z5,Z6,Z7,Z8,Z9,Za,Zb,Zc,Zd,Ze,Zf,Zg,List.cons.injEq,Zh,Zi,Zj,Zk,Zl,Zm,Zn,Zo,Zp,Zq,beq_self_eq_true,bne_self_eq_false,decide_true,decide_false,Zr,Zs,Zt,Zu,Zv,Zw,Zx,Zy,Zz,Y0,Y1,Y2,Y3,Y4,Y5,Y6,Y7,Y8,Y9,Ya,Yb,Yc,Yd,Ye,Yf,Yg,Yh,Yi,Yj,Yk,Yl,Ym,Yn,Yo,Yp,Yq,Yr,lk,ef,Ys,Yt,Yu,Yv,Yw,Yx,Yy,Yz,X0,X1,X2,X3,X4,X5,X6,X7,X8,X9,Xa,Xb,Xc,Xd,Xe,Xf,Xg,Xh,Xi,Xj,Xk,Xl,Xm,Xn,Xo,Xp,Xq,Xr,Xs,Xt,hv,Xu,ev,Xv,Xw,Xx,Xy,Xz,W0,W1,W2,W3,W4,W5,W6,W7,W8,W9,Wa,Wb,Wc,Wd,We,Wf,Wg,Wh,Wi,Wj,Wk,Wl,Wm,Wn,Wo,Wp,Wq,Wr,Ws,Wt,Wu,Value.oneCell',Wv,Ww,Wx,Wy,true_and,and_true,and_self,implies_true,Wz,V0,V1,V2,false_implies,V3,V4,V5,V6,V7,V8,V9,Va,Vb,Vc,Vd,Ve,Vf,Vg,Vh,Vi,Vj,reduceCtorEq,if_true,if_false,Vk,↓reduceIte,Vl,Vm,Vn,Vo,Vp,Vq,Vr,ne_eq,not_false_eq_true,not_true_eq_false,Vs,Vt,r32_0,r32_1,r32_3,r32_4,r32_6,r32_5,r32_2,p32,l32_0,l32_1,hg,w2,b1,b2,b3,b4,b5,g1,g2,g3,s1,s2,ht,Zu,List.set_cons_zero]) | (exfalso; omega)
        all_goals first | omega | exact again hJ2 t (weak_mk (by simp only [Vu,Vv,wk1,Vw,Vx,Vy,Z0,Z1,Z3,Z4,Z5,Z6,Z7,Z8,Z9,Za,Zb,Zc,Zd,Ze,Zf,Zg,List.cons.injEq,Zh,Zi,Zj,Zk,Zl,Zm,Zn,Zo,Zp,Zq,beq_self_eq_true,bne_self_eq_false,decide_true,decide_false,Zr,Zs,Zt,Zu,Zv,Zw,Zx,Zy,Zz,Y0,Y1,Y2,Y3,Y4,Y5,Y6,Y7,Y8,Y9,Ya,Yb,Yc,Yd,Ye,Yf,Yg,Yh,Yi,Yj,Yk,Yl,Ym,Yn,Yo,Yp,Yq,Yr,lk,ef,Ys,Yt,Yu,Yv,Yw,Yx,Yy,Yz,X0,X1,X2,X3,X4,X5,X6,X7,X8,X9,Xa,Xb,Xc,Xd,Xe,Xf,Xg,Xh,Xi,Xj,Xk,Xl,Xm,Xn,Xo,Xp,Xq,Xr,Xs,Xt,hv,Xu,ev,Xv,Xw,Xx,Xy,Xz,W0,W1,W2,W3,W4,W5,W6,W7,W8,W9,Wa,Wb,Wc,Wd,We,Wf,Wg,Wh,Wi,Wj,Wk,Wl,Wm,Wn,Wo,Wp,Wq,Wr,Ws,Wt,Wu,Value.oneCell',Wv,Ww,Wx,Wy,true_and,and_true,and_self,implies_true,Wz,V0,V1,V2,false_implies,V3,V4,V5,V6,V7,V8,V9,Va,Vb,Vc,Vd,Ve,Vf,Vg,Vh,Vi,Vj,reduceCtorEq,if_true,if_false,Vk,↓reduceIte,Vl,Vm,Vn,Vo,Vp,Vq,Vr,ne_eq,not_false_eq_true,not_true_eq_false,Vs,Nat.zero_ne_one]; all_goals first | done | rfl)) ⟨by omega, hinv⟩ (by omega) | trace_state
      · have ht : ¬ fK p x - fK p u < 0 := by omega
        have hux : leK (fK p) u x := by
          have := hyx u hu
          unfold leK; omega
        have hres := hend (t + 1) hj1 (fun y hy => by
          obtain ⟨a, ha, rfl⟩ := List.getElem_of_mem hy
          rw [List.getElem_take]
          have ha' : a < t + 1 := by rw [List.length_take] at ha; omega
          have ht' : t < Y.length := (List.getElem?_eq_some_iff.1 hut).1
          rw [List.getElem?_eq_getElem ht'] at hut
          injection hut with hut
          rcases Nat.lt_or_ge a t with hat | hat
          · have := List.pairwise_iff_getElem.1 hYs a t (by omega) ht' hat
            rw [hut] at this
            exact leK_trans this hux
          · have : a = t := by omega
            subst this
            rw [hut]; exact hux) hj2
        clear hJ2
        repeat' first | ((with_reducible (first | refine condD ?_ ?_ | refine condE ?_ ?_ | refine condN ?_ ?_ | refine condI ?_ ?_ | refine condS ?_ ?_)) <;> intro h) | ((with_reducible (first | refine guardD (by with_unfolding_all rfl) ?_ ?_ | refine guardE (by with_unfolding_all rfl) ?_ ?_ | refine guardN (by with_unfolding_all rfl) ?_ ?_ | refine guardI (by with_unfolding_all rfl) ?_ ?_ | refine guardS (by with_unfolding_all rfl) ?_ ?_)) <;> intro h) | ((refine callcG (by kernel_rfl) hc (.val _) ?_)) | (with_reducible refine And.intro ?_ ?_; omega) | (simp only [Z0,Z1,Z3,Z4,Z5,Z6,Z7,Z8,Z9,Za,Zb,Zc,Zd,Ze,Zf,Zg,List.cons.injEq,Zh,Zi,Zj,Zk,Zl,Zm,Zn,Zo,Zp,Zq,beq_self_eq_true,bne_self_eq_false,decide_true,decide_false,Zr,Zs,Zt,Zu,Zv,Zw,Zx,Zy,Zz,Y0,Y1,Y2,Y3,Y4,Y5,Y6,Y7,Y8,Y9,Ya,Yb,Yc,Yd,Ye,Yf,Yg,Yh,Yi,Yj,Yk,Yl,Ym,Yn,Yo,Yp,Yq,Yr,lk,ef,Ys,Yt,Yu,Yv,Yw,Yx,Yy,Yz,X0,X1,X2,X3,X4,X5,X6,X7,X8,X9,Xa,Xb,Xc,Xd,Xe,Xf,Xg,Xh,Xi,Xj,Xk,Xl,Xm,Xn,Xo,Xp,Xq,Xr,Xs,Xt,hv,Xu,ev,Xv,Xw,Xx,Xy,Xz,W0,W1,W2,W3,W4,W5,W6,W7,W8,W9,Wa,Wb,Wc,Wd,We,Wf,Wg,Wh,Wi,Wj,Wk,Wl,Wm,Wn,Wo,Wp,Wq,Wr,Ws,Wt,Wu,Value.oneCell',Wv,Ww,Wx,Wy,true_and,and_true,and_self,implies_true,Wz,V0,V1,V2,false_implies,V3,V4,V5,V6,V7,V8,V9,Va,Vb,Vc,Vd,Ve,Vf,Vg,Vh,Vi,Vj,reduceCtorEq,if_true,if_false,Vk,↓reduceIte,Vl,Vm,Vn,Vo,Vp,Vq,Vr,ne_eq,not_false_eq_true,not_true_eq_false,Vs,Vt,r32_0,r32_1,r32_3,r32_4,r32_6,r32_5,r32_2,p32,l32_0,l32_1,hg,w2,w1',b1,b2,b3,b4,b5,g1,g2,ht,List.length_map]) | (exfalso; omega)
        all_goals first | omega | exact again hJ (i + 1) (weak_mk (by simp only [Vu,Vv,wk1,Vw,Vx,Vy,Z0,Z1,Z3,Z4,Z5,Z6,Z7,Z8,Z9,Za,Zb,Zc,Zd,Ze,Zf,Zg,List.cons.injEq,Zh,Zi,Zj,Zk,Zl,Zm,Zn,Zo,Zp,Zq,beq_self_eq_true,bne_self_eq_false,decide_true,decide_false,Zr,Zs,Zt,Zu,Zv,Zw,Zx,Zy,Zz,Y0,Y1,Y2,Y3,Y4,Y5,Y6,Y7,Y8,Y9,Ya,Yb,Yc,Yd,Ye,Yf,Yg,Yh,Yi,Yj,Yk,Yl,Ym,Yn,Yo,Yp,Yq,Yr,lk,ef,Ys,Yt,Yu,Yv,Yw,Yx,Yy,Yz,X0,X1,X2,X3,X4,X5,X6,X7,X8,X9,Xa,Xb,Xc,Xd,Xe,Xf,Xg,Xh,Xi,Xj,Xk,Xl,Xm,Xn,Xo,Xp,Xq,Xr,Xs,Xt,hv,Xu,ev,Xv,Xw,Xx,Xy,Xz,W0,W1,W2,W3,W4,W5,W6,W7,W8,W9,Wa,Wb,Wc,Wd,We,Wf,Wg,Wh,Wi,Wj,Wk,Wl,Wm,Wn,Wo,Wp,Wq,Wr,Ws,Wt,Wu,Value.oneCell',Wv,Ww,Wx,Wy,true_and,and_true,and_self,implies_true,Wz,V0,V1,V2,false_implies,V3,V4,V5,V6,V7,V8,V9,Va,Vb,Vc,Vd,Ve,Vf,Vg,Vh,Vi,Vj,reduceCtorEq,if_true,if_false,Vk,↓reduceIte,Vl,Vm,Vn,Vo,Vp,Vq,Vr,ne_eq,not_false_eq_true,not_true_eq_false,Vs,Nat.zero_ne_one]; all_goals first | done | rw [hres] | exact ⟨by rw [hres], rfl⟩)) (by omega) (by omega) | trace_state
  · have hres := hE i (by omega)
    rw [hres]
    clear hJ
    repeat' first | ((with_reducible (first | refine condD ?_ ?_ | refine condE ?_ ?_ | refine condN ?_ ?_ | refine condI ?_ ?_ | refine condS ?_ ?_)) <;> intro h) | ((with_reducible (first | refine guardD (by with_unfolding_all rfl) ?_ ?_ | refine guardE (by with_unfolding_all rfl) ?_ ?_ | refine guardN (by with_unfolding_all rfl) ?_ ?_ | refine guardI (by with_unfolding_all rfl) ?_ ?_ | refine guardS (by with_unfolding_all rfl) ?_ ?_)) <;> intro h) | (with_reducible refine And.intro ?_ ?_; omega) | (simp only [Z0,Z1,Z3,Z4,Z5,Z6,Z7,Z8,Z9,Za,Zb,Zc,Zd,Ze,Zf,Zg,List.cons.injEq,Zh,Zi,Zj,Zk,Zl,Zm,Zn,Zo,Zp,Zq,beq_self_eq_true,bne_self_eq_false,decide_true,decide_false,Zr,Zs,Zt,Zu,Zv,Zw,Zx,Zy,Zz,Y0,Y1,Y2,Y3,Y4,Y5,Y6,Y7,Y8,Y9,Ya,Yb,Yc,Yd,Ye,Yf,Yg,Yh,Yi,Yj,Yk,Yl,Ym,Yn,Yo,Yp,Yq,Yr,lk,ef,Ys,Yt,Yu,Yv,Yw,Yx,Yy,Yz,X0,X1,X2,X3,X4,X5,X6,X7,X8,X9,Xa,Xb,Xc,Xd,Xe,Xf,Xg,Xh,Xi,Xj,Xk,Xl,Xm,Xn,Xo,Xp,Xq,Xr,Xs,Xt,hv,Xu,ev,Xv,Xw,Xx,Xy,Xz,W0,W1,W2,W3,W4,W5,W6,W7,W8,W9,Wa,Wb,Wc,Wd,We,Wf,Wg,Wh,Wi,Wj,Wk,Wl,Wm,Wn,Wo,Wp,Wq,Wr,Ws,Wt,Wu,Value.oneCell',Wv,Ww,Wx,Wy,true_and,and_true,and_self,implies_true,Wz,V0,V1,V2,false_implies,V3,V4,V5,V6,V7,V8,V9,Va,Vb,Vc,Vd,Ve,Vf,Vg,Vh,Vi,Vj,reduceCtorEq,if_true,if_false,Vk,↓reduceIte,Vl,Vm,Vn,Vo,Vp,Vq,Vr,ne_eq,not_false_eq_true,not_true_eq_false,Vs,Vt,r32_0,r32_1,r32_3,r32_4,r32_6,r32_5,r32_2,p32,l32_0,l32_1,Z3,donet_eq']) | (exfalso; omega)
    all_goals rfl
end Go.Proofs.Ytbdcnooafacldaa
