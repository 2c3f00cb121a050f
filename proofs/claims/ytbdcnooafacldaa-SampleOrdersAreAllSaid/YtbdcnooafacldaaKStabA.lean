/- slices.swapRangeCmpFunc, rotateCmpFunc, by the machine on data. -/
import Derived.Test.YtbdcnooafacldaaKStabP
namespace Go.Proofs.Ytbdcnooafacldaa
open Go.RowKit
open Go.Proofs.Ytbdcnooafacldaa renaming done_eq → Z0, done_eq' → Z2, donet_eq → Z3, donet_eq' → Z4, fin_val → Z5, fin_tup → Z6, fin_agg → Z7, fin_ro → Z8, res_one → Z9, res_more → Za, rv_t → Zb, rv_c → Zc, rv_l → Zd, int_eq → Zh, bool_eq → Zi, toNat_pred → Zs, toNat_succ → Zt, cnd_t → Zv, cnd_f → Zw, grd_tt → Zx, grd_u → Zy, grd_tf → Zz, grd_ft → Y0, grd_ff → Y1, g_skip → Y2, g_ops → Y3, g_seq → Y4, g_block → Y5, g_exit → Y6, g_ret → Y7, x_c → Y8, x_o → Y9, x_l → Ya, x_b → Yb, g_b → Yc, g_nil → Yd, r_all → Ye, o_nil → Yf, g_cond → Yg, o_guard → Yh, o_call → Yi, o_callm → Yj, o_callt → Yk, o_callx → Yl, o_callv → Ym, o_callc → Yn, o_callh → Yo, o_apph → Yp, noav_alias → Yq, noav_nil → Yr, o_mv → Ys, o_pick → Yt, o_bin → Yu, o_never → Yv, o_eqs → Yw, o_eqb → Yx, o_un → Yy, o_conv → Yz, o_load → X0, o_loadr → X1, o_idxr → X2, o_loads → X3, o_loadsr → X4, o_fld → X5, o_idx → X6, o_idxs → X7, o_len → X8, o_lens → X9, o_ext → Xa, o_nilck → Xb, o_slc → Xc, o_slcs → Xd, o_build → Xe, o_minmax → Xf, o_mkfn → Xg, o_mkfnr → Xh, o_alloc → Xi, o_box → Xj, o_boxs → Xk, o_row → Xl, o_rowr → Xm, o_mk → Xn, o_asg → Xo, o_app → Xp, o_appa → Xq, o_store → Xr, o_stores → Xs, o_eqnil → Xt, eqAV → Xu, view_t → Xv, view_c → Xw, view_nil → Xx, view_fn → Xy, look_own → Xz, look_box → W0, look_junk → W1, look_val → W2, look_nilsl → W3, look_ro → W4, look_roAt → W5, look_agg → W6, look_tup → W7, look_clo → W8, look_alias → W9, look_ref → Wa, look_into → Wb, look_fnv → Wc, look_held → Wd, rowOf → We, cellsOf → Wf, argv → Wg, vbin → Wh, vun → Wi, bnd → Wj, elemOf → Wk, putParts → Wl, setAt → Wm, zav → Wn, put_at → Wv, mk_at → Ww, mk_nil → Wx, initSt → Wy, wk_cons → Vu, wk_nil → Vv, vint_eq → Vw, vbool_eq → Vx
open Go.Proofs.Ytbdcnooafacldaa.AV.tup renaming injEq → Ze
open Go.Proofs.Ytbdcnooafacldaa.AV.agg renaming injEq → Zf
open Go.Proofs.Ytbdcnooafacldaa.AV.ro renaming injEq → Zg
open _root_.Int renaming toNat_natCast → Zj, reduceToNat → Zk, toNat_zero → Zl, toNat_one → Zm, reduceLE → Zn, reduceLT → Zo, reduceBEq → Zp, reduceBNe → Zq, reduceNeg → Zr
open _root_.List renaming length_map → Zu, map_cons → Wz, map_nil → V0, forall_mem_cons → V1, not_mem_nil → V2, length_cons → V3, length_nil → V4, getD_cons_zero → V5, getD_cons_succ → V6, getD_nil → V7, drop_succ_cons → V8, drop_zero → V9, take_succ_cons → Va, take_zero → Vb, set_cons_zero → Vc, set_cons_succ → Vd, all_cons → Ve, all_nil → Vf
open Go.Proofs.Ytbdcnooafacldaa.ASt renaming rid → Wo, hold → Wp, free → Wq
open Go.Proofs.Ytbdcnooafacldaa.AV renaming kill → Wr, isHome → Ws, noLoan → Wt, cellOK → Wu
open _root_.Bool renaming and_true → Vg, true_and → Vh, not_true → Vi, not_false → Vj, false_eq_true → Vk
open _root_.Nat renaming reduceEqDiff → Vl, reduceBNe → Vm, reduceAdd → Vn, reduceSub → Vo, reduceMul → Vp, reduceLeDiff → Vq, reduceLT → Vr, one_ne_zero → Vs, zero_ne_one → Vt
open Go.Proofs.Ytbdcnooafacldaa.AV.val renaming injEq → Vy
set_option linter.unusedSimpArgs false
--@short

/-! slices.swapRangeCmpFunc[int] -/
def r50_0 : List POp := [⟨10, .asg (.c (.int .i64 0)), none⟩]
def r50_1 : List POp := [⟨11, .mv (.t 10), none⟩,
  ⟨12, .mv (.t 3), none⟩,
  ⟨13, .bin .lss (.t 11) (.t 12), none⟩]
def r50_3 : List POp := [⟨16, .mv (.t 0), none⟩,
  ⟨17, .mv (.t 1), none⟩,
  ⟨18, .mv (.t 10), none⟩,
  ⟨19, .bin .add (.t 17) (.t 18), none⟩,
  ⟨20, .mv (.t 0), none⟩,
  ⟨21, .mv (.t 2), none⟩,
  ⟨22, .mv (.t 10), none⟩,
  ⟨23, .bin .add (.t 21) (.t 22), none⟩,
  ⟨24, .mv (.t 0), none⟩,
  ⟨25, .mv (.t 2), none⟩,
  ⟨26, .mv (.t 10), none⟩,
  ⟨27, .bin .add (.t 25) (.t 26), none⟩,
  ⟨28, .idx 1 (.t 24) (.t 27), none⟩,
  ⟨29, .load (.t 28), none⟩,
  ⟨30, .mv (.t 0), none⟩,
  ⟨31, .mv (.t 1), none⟩,
  ⟨32, .mv (.t 10), none⟩,
  ⟨33, .bin .add (.t 31) (.t 32), none⟩,
  ⟨34, .idx 1 (.t 30) (.t 33), none⟩,
  ⟨35, .load (.t 34), none⟩,
  ⟨36, .idx 1 (.t 16) (.t 19), none⟩,
  ⟨0, .store (.t 36) (.t 29), none⟩,
  ⟨37, .idx 1 (.t 20) (.t 23), none⟩,
  ⟨0, .store (.t 37) (.t 35), none⟩]
def r50_2 : List POp := [⟨14, .mv (.t 10), none⟩,
  ⟨15, .bin .add (.t 14) (.c (.int .i64 1)), none⟩,
  ⟨10, .asg (.t 15), none⟩]
def l50_0 : PCode := .seq (.seq (.ops r50_1) (.cond (.t 13) (.skip) (.exit 0))) (.seq (.block 1 (.ops r50_3)) (.ops r50_2))
def p50 : PCode := .seq (.ops r50_0) (.block 0 (.loop l50_0))
theorem ok50 : okFunc1 Try.prog 50 [] 5 p50 = true := by kernel_rfl
set_option maxHeartbeats 1000000 in
theorem swaprange_c (g : Nat) (cs : List AV) (P A M B S : List Int) (hAB : A.length = B.length) (hl : (P ++ A ++ M ++ B ++ S).length ≤ 100000) :
    TurnOK Try.prog 50 (.own 3 1 ((P ++ A ++ M ++ B ++ S).map oneI)) (.own 3 1 ((P ++ B ++ M ++ A ++ S).map oneI)) [.val (.int .i64 P.length), .val (.int .i64 ((P.length + A.length + M.length : Nat) : Int)), .val (.int .i64 A.length), .fnv g cs] (.tup []) := by
  refine turn_of mixed ok50 rfl (.tup _ (by simp)) rfl ?_
  obtain ⟨row, hrow⟩ : ∃ row : Nat → List Int, row = fun k => P ++ (B.take k ++ A.drop k) ++ M ++ (A.take k ++ B.drop k) ++ S := ⟨_, rfl⟩
  have h0 : P ++ A ++ M ++ B ++ S = row 0 := by subst hrow; simp
  have hE : P ++ B ++ M ++ A ++ S = row A.length := by
    subst hrow
    simp only [List.take_length, List.drop_length, List.append_nil]
    rw [hAB, List.take_length, List.drop_length, List.append_nil]
  have hrl : ∀ k, k ≤ A.length → (row k).length = (P ++ A ++ M ++ B ++ S).length := fun k hk => by
    subst hrow
    simp only [List.length_append, List.length_take, List.length_drop]
    omega
  have hll : (P ++ A ++ M ++ B ++ S).length = P.length + A.length + M.length + B.length + S.length := by simp only [List.length_append]
  have hr : ∀ k, k < A.length → ∃ Q N R u v, Q.length = P.length + k ∧ P.length + k + 1 + N.length = P.length + A.length + M.length + k ∧ row k = Q ++ u :: (N ++ v :: R) ∧ row (k + 1) = Q ++ v :: (N ++ u :: R) := fun k hk => by
    obtain ⟨e1, e2⟩ := swp_round (P := P) (A := A) (B := B) (M := M) (S := S) hk (by omega)
    subst hrow
    refine ⟨P ++ B.take k, A.drop (k + 1) ++ M ++ A.take k, B.drop (k + 1) ++ S, A[k], B[k], ?_, ?_, e1, e2⟩
    · rw [List.length_append, List.length_take]; omega
    · simp only [List.length_append, List.length_take, List.length_drop]; omega
  rw [h0, hE]
  rw [hll] at hl hrl
  generalize P.length = p at *
  generalize hn : A.length = n at *
  generalize M.length = m at *
  clear hrow h0 hE hll
  repeat' first | ((with_reducible (first | refine condD ?_ ?_ | refine condE ?_ ?_ | refine condN ?_ ?_ | refine condI ?_ ?_ | refine condS ?_ ?_)) <;> intro h) | ((with_reducible (first | refine guardD (by with_unfolding_all rfl) ?_ ?_ | refine guardE (by with_unfolding_all rfl) ?_ ?_ | refine guardN (by with_unfolding_all rfl) ?_ ?_ | refine guardI (by with_unfolding_all rfl) ?_ ?_ | refine guardS (by with_unfolding_all rfl) ?_ ?_)) <;> intro h) | (with_reducible refine And.intro ?_ ?_; omega) | (simp only [Z0,Z2,Z3,Z4,Z5,Z6,Z7,Z8,Z9,Za,Zb,Zc,Zd,Ze,Zf,Zg,List.cons.injEq,Zh,Zi,Zj,Zk,Zl,Zm,Zn,Zo,Zp,Zq,beq_self_eq_true,bne_self_eq_false,decide_true,decide_false,Zr,Zs,Zt,Zu,Zv,Zw,Zx,Zy,Zz,Y0,Y1,Y2,Y3,Y4,Y5,Y6,Y7,Y8,Y9,Ya,Yb,Yc,Yd,Ye,Yf,Yg,Yh,Yi,Yj,Yk,Yl,Ym,Yn,Yo,Yp,Yq,Yr,lk,ef,Ys,Yt,Yu,Yv,Yw,Yx,Yy,Yz,X0,X1,X2,X3,X4,X5,X6,X7,X8,X9,Xa,Xb,Xc,Xd,Xe,Xf,Xg,Xh,Xi,Xj,Xk,Xl,Xm,Xn,Xo,Xp,Xq,Xr,Xs,Xt,hv,Xu,ev,Xv,Xw,Xx,Xy,Xz,W0,W1,W2,W3,W4,W5,W6,W7,W8,W9,Wa,Wb,Wc,Wd,We,Wf,Wg,Wh,Wi,Wj,Wk,Wl,Wm,Wn,Wo,Wp,Wq,Wr,Ws,Wt,Wu,Value.oneCell',Wv,Ww,Wx,Wy,true_and,and_true,and_self,implies_true,Wz,V0,V1,V2,false_implies,V3,V4,V5,V6,V7,V8,V9,Va,Vb,Vc,Vd,Ve,Vf,Vg,Vh,Vi,Vj,reduceCtorEq,if_true,if_false,Vk,↓reduceIte,Vl,Vm,Vn,Vo,Vp,Vq,Vr,ne_eq,not_false_eq_true,not_true_eq_false,Vs,Vt,r50_0,r50_1,r50_3,r50_2,p50]) | (exfalso; omega)
  refine loopS (fun k : Nat => mk [(0, .own 3 1 ((row k).map oneI)), (1, .val (.int .i64 p)), (2, .val (.int .i64 ((p + n + m : Nat) : Int))), (3, .val (.int .i64 n)), (10, .val (.int .i64 k))]) (fun k => k ≤ n) (fun k => n - k) 0 (weak_mk ?_) (Nat.zero_le _) ?_
  · simp only [Vu,Vv,wk1,Vw,Vx,Vy,Z0,Z2,Z3,Z4,Z5,Z6,Z7,Z8,Z9,Za,Zb,Zc,Zd,Ze,Zf,Zg,List.cons.injEq,Zh,Zi,Zj,Zk,Zl,Zm,Zn,Zo,Zp,Zq,beq_self_eq_true,bne_self_eq_false,decide_true,decide_false,Zr,Zs,Zt,Zu,Zv,Zw,Zx,Zy,Zz,Y0,Y1,Y2,Y3,Y4,Y5,Y6,Y7,Y8,Y9,Ya,Yb,Yc,Yd,Ye,Yf,Yg,Yh,Yi,Yj,Yk,Yl,Ym,Yn,Yo,Yp,Yq,Yr,lk,ef,Ys,Yt,Yu,Yv,Yw,Yx,Yy,Yz,X0,X1,X2,X3,X4,X5,X6,X7,X8,X9,Xa,Xb,Xc,Xd,Xe,Xf,Xg,Xh,Xi,Xj,Xk,Xl,Xm,Xn,Xo,Xp,Xq,Xr,Xs,Xt,hv,Xu,ev,Xv,Xw,Xx,Xy,Xz,W0,W1,W2,W3,W4,W5,W6,W7,W8,W9,Wa,Wb,Wc,Wd,We,Wf,Wg,Wh,Wi,Wj,Wk,Wl,Wm,Wn,Wo,Wp,Wq,Wr,Ws,Wt,Wu,Value.oneCell',Wv,Ww,Wx,Wy,true_and,and_true,and_self,implies_true,Wz,V0,V1,V2,false_implies,V3,V4,V5,V6,V7,V8,V9,Va,Vb,Vc,Vd,Ve,Vf,Vg,Vh,Vi,Vj,reduceCtorEq,if_true,if_false,Vk,↓reduceIte,Vl,Vm,Vn,Vo,Vp,Vq,Vr,ne_eq,not_false_eq_true,not_true_eq_false,Vs,Nat.zero_ne_one]
    all_goals first | done | rfl | exact ⟨rfl, rfl⟩
  rintro J hJ k hk
  simp only [Z0,Z2,Z3,Z4,Z5,Z6,Z7,Z8,Z9,Za,Zb,Zc,Zd,Ze,Zf,Zg,List.cons.injEq,Zh,Zi,Zj,Zk,Zl,Zm,Zn,Zo,Zp,Zq,beq_self_eq_true,bne_self_eq_false,decide_true,decide_false,Zr,Zs,Zt,Zu,Zv,Zw,Zx,Zy,Zz,Y0,Y1,Y2,Y3,Y4,Y5,Y6,Y7,Y8,Y9,Ya,Yb,Yc,Yd,Ye,Yf,Yg,Yh,Yi,Yj,Yk,Yl,Ym,Yn,Yo,Yp,Yq,Yr,lk,ef,Ys,Yt,Yu,Yv,Yw,Yx,Yy,Yz,X0,X1,X2,X3,X4,X5,X6,X7,X8,X9,Xa,Xb,Xc,Xd,Xe,Xf,Xg,Xh,Xi,Xj,Xk,Xl,Xm,Xn,Xo,Xp,Xq,Xr,Xs,Xt,hv,Xu,ev,Xv,Xw,Xx,Xy,Xz,W0,W1,W2,W3,W4,W5,W6,W7,W8,W9,Wa,Wb,Wc,Wd,We,Wf,Wg,Wh,Wi,Wj,Wk,Wl,Wm,Wn,Wo,Wp,Wq,Wr,Ws,Wt,Wu,Value.oneCell',Wv,Ww,Wx,Wy,true_and,and_true,and_self,implies_true,Wz,V0,V1,V2,false_implies,V3,V4,V5,V6,V7,V8,V9,Va,Vb,Vc,Vd,Ve,Vf,Vg,Vh,Vi,Vj,reduceCtorEq,if_true,if_false,Vk,↓reduceIte,Vl,Vm,Vn,Vo,Vp,Vq,Vr,ne_eq,not_false_eq_true,not_true_eq_false,Vs,Vt,r50_0,r50_1,r50_3,r50_2,p50,l50_0]
  refine condD (fun h => ?_) (fun h => ?_)
  · have hlt : k < n := by omega
    obtain ⟨Q, N, R, u, v, q1, q2, z1, z2⟩ := hr k hlt
    obtain ⟨⟨g1, g2⟩, ⟨Z1, s1, l1, g3, s2⟩, _⟩ := swp_facts z1 q1 q2
    rw [← z2] at s2
    have hZl := hrl k (by omega)
    have w1 : IntKind.i64.wrap ((p : Int) + k) = ((p + k : Nat) : Int) := by rw [wrap_in (by omega) (by omega)]; omega
    have w2 : IntKind.i64.wrap (((p + n + m : Nat) : Int) + k) = ((p + n + m + k : Nat) : Int) := by rw [wrap_in (by omega) (by omega)]; omega
    have w3 := i_add1 k (by omega)
    have b1 : (0 : Int) ≤ ((p + k : Nat) : Int) := by omega
    have b2 : ((p + k : Nat) : Int) < (row k).length := by omega
    have b3 : (0 : Int) ≤ ((p + n + m + k : Nat) : Int) := by omega
    have b4 : ((p + n + m + k : Nat) : Int) < (row k).length := by omega
    have b5 : ((p + n + m + k : Nat) : Int) < Z1.length := by omega
    repeat' first | ((with_reducible (first | refine condD ?_ ?_ | refine condE ?_ ?_ | refine condN ?_ ?_ | refine condI ?_ ?_ | refine condS ?_ ?_)) <;> intro h) | ((with_reducible (first | refine guardD (by with_unfolding_all rfl) ?_ ?_ | refine guardE (by with_unfolding_all rfl) ?_ ?_ | refine guardN (by with_unfolding_all rfl) ?_ ?_ | refine guardI (by with_unfolding_all rfl) ?_ ?_ | refine guardS (by with_unfolding_all rfl) ?_ ?_)) <;> intro h) | (with_reducible refine And.intro ?_ ?_; omega) | (simp only [Z0,Z2,Z3,Z4,Z5,Z6,Z7,Z8,Z9,Za,Zb,Zc,Zd,Ze,Zf,Zg,List.cons.injEq,Zh,Zi,Zj,Zk,Zl,Zm,Zn,Zo,Zp,Zq,beq_self_eq_true,bne_self_eq_false,decide_true,decide_false,Zr,Zs,Zt,Zu,Zv,Zw,Zx,Zy,Zz,Y0,Y1,Y2,Y3,Y4,Y5,Y6,Y7,Y8,Y9,Ya,Yb,Yc,Yd,Ye,Yf,Yg,Yh,Yi,Yj,Yk,Yl,Ym,Yn,Yo,Yp,Yq,Yr,lk,ef,Ys,Yt,Yu,Yv,Yw,Yx,Yy,Yz,X0,X1,X2,X3,X4,X5,X6,X7,X8,X9,Xa,Xb,Xc,Xd,Xe,Xf,Xg,Xh,Xi,Xj,Xk,Xl,Xm,Xn,Xo,Xp,Xq,Xr,Xs,Xt,hv,Xu,ev,Xv,Xw,Xx,Xy,Xz,W0,W1,W2,W3,W4,W5,W6,W7,W8,W9,Wa,Wb,Wc,Wd,We,Wf,Wg,Wh,Wi,Wj,Wk,Wl,Wm,Wn,Wo,Wp,Wq,Wr,Ws,Wt,Wu,Value.oneCell',Wv,Ww,Wx,Wy,true_and,and_true,and_self,implies_true,Wz,V0,V1,V2,false_implies,V3,V4,V5,V6,V7,V8,V9,Va,Vb,Vc,Vd,Ve,Vf,Vg,Vh,Vi,Vj,reduceCtorEq,if_true,if_false,Vk,↓reduceIte,Vl,Vm,Vn,Vo,Vp,Vq,Vr,ne_eq,not_false_eq_true,not_true_eq_false,Vs,Vt,r50_0,r50_1,r50_3,r50_2,p50,l50_0,w1,w2,w3,b1,b2,b3,b4,b5,g1,g2,s1,g3,s2,Zu,List.set_cons_zero]) | (exfalso; omega)
    all_goals first | omega | exact again hJ (k + 1) (weak_mk (by simp only [Vu,Vv,wk1,Vw,Vx,Vy,Z0,Z2,Z3,Z4,Z5,Z6,Z7,Z8,Z9,Za,Zb,Zc,Zd,Ze,Zf,Zg,List.cons.injEq,Zh,Zi,Zj,Zk,Zl,Zm,Zn,Zo,Zp,Zq,beq_self_eq_true,bne_self_eq_false,decide_true,decide_false,Zr,Zs,Zt,Zu,Zv,Zw,Zx,Zy,Zz,Y0,Y1,Y2,Y3,Y4,Y5,Y6,Y7,Y8,Y9,Ya,Yb,Yc,Yd,Ye,Yf,Yg,Yh,Yi,Yj,Yk,Yl,Ym,Yn,Yo,Yp,Yq,Yr,lk,ef,Ys,Yt,Yu,Yv,Yw,Yx,Yy,Yz,X0,X1,X2,X3,X4,X5,X6,X7,X8,X9,Xa,Xb,Xc,Xd,Xe,Xf,Xg,Xh,Xi,Xj,Xk,Xl,Xm,Xn,Xo,Xp,Xq,Xr,Xs,Xt,hv,Xu,ev,Xv,Xw,Xx,Xy,Xz,W0,W1,W2,W3,W4,W5,W6,W7,W8,W9,Wa,Wb,Wc,Wd,We,Wf,Wg,Wh,Wi,Wj,Wk,Wl,Wm,Wn,Wo,Wp,Wq,Wr,Ws,Wt,Wu,Value.oneCell',Wv,Ww,Wx,Wy,true_and,and_true,and_self,implies_true,Wz,V0,V1,V2,false_implies,V3,V4,V5,V6,V7,V8,V9,Va,Vb,Vc,Vd,Ve,Vf,Vg,Vh,Vi,Vj,reduceCtorEq,if_true,if_false,Vk,↓reduceIte,Vl,Vm,Vn,Vo,Vp,Vq,Vr,ne_eq,not_false_eq_true,not_true_eq_false,Vs,Nat.zero_ne_one]; all_goals first | done | rfl)) (by omega) (by omega) | trace_state
  · have hke : k = n := by omega
    subst hke
    clear hJ
    repeat' first | ((with_reducible (first | refine condD ?_ ?_ | refine condE ?_ ?_ | refine condN ?_ ?_ | refine condI ?_ ?_ | refine condS ?_ ?_)) <;> intro h) | ((with_reducible (first | refine guardD (by with_unfolding_all rfl) ?_ ?_ | refine guardE (by with_unfolding_all rfl) ?_ ?_ | refine guardN (by with_unfolding_all rfl) ?_ ?_ | refine guardI (by with_unfolding_all rfl) ?_ ?_ | refine guardS (by with_unfolding_all rfl) ?_ ?_)) <;> intro h) | (with_reducible refine And.intro ?_ ?_; omega) | (simp only [Z0,Z2,Z3,Z4,Z5,Z6,Z7,Z8,Z9,Za,Zb,Zc,Zd,Ze,Zf,Zg,List.cons.injEq,Zh,Zi,Zj,Zk,Zl,Zm,Zn,Zo,Zp,Zq,beq_self_eq_true,bne_self_eq_false,decide_true,decide_false,Zr,Zs,Zt,Zu,Zv,Zw,Zx,Zy,Zz,Y0,Y1,Y2,Y3,Y4,Y5,Y6,Y7,Y8,Y9,Ya,Yb,Yc,Yd,Ye,Yf,Yg,Yh,Yi,Yj,Yk,Yl,Ym,Yn,Yo,Yp,Yq,Yr,lk,ef,Ys,Yt,Yu,Yv,Yw,Yx,Yy,Yz,X0,X1,X2,X3,X4,X5,X6,X7,X8,X9,Xa,Xb,Xc,Xd,Xe,Xf,Xg,Xh,Xi,Xj,Xk,Xl,Xm,Xn,Xo,Xp,Xq,Xr,Xs,Xt,hv,Xu,ev,Xv,Xw,Xx,Xy,Xz,W0,W1,W2,W3,W4,W5,W6,W7,W8,W9,Wa,Wb,Wc,Wd,We,Wf,Wg,Wh,Wi,Wj,Wk,Wl,Wm,Wn,Wo,Wp,Wq,Wr,Ws,Wt,Wu,Value.oneCell',Wv,Ww,Wx,Wy,true_and,and_true,and_self,implies_true,Wz,V0,V1,V2,false_implies,V3,V4,V5,V6,V7,V8,V9,Va,Vb,Vc,Vd,Ve,Vf,Vg,Vh,Vi,Vj,reduceCtorEq,if_true,if_false,Vk,↓reduceIte,Vl,Vm,Vn,Vo,Vp,Vq,Vr,ne_eq,not_false_eq_true,not_true_eq_false,Vs,Vt,r50_0,r50_1,r50_3,r50_2,p50,l50_0,Z3,donet_eq']) | (exfalso; omega)
    all_goals rfl
/-! slices.rotateCmpFunc[int] -/
def r38_0 : List POp := [⟨12, .mv (.t 2), none⟩,
  ⟨13, .mv (.t 1), none⟩,
  ⟨14, .bin .sub (.t 12) (.t 13), none⟩,
  ⟨10, .asg (.t 14), none⟩]
def r38_1 : List POp := [⟨15, .mv (.t 3), none⟩,
  ⟨16, .mv (.t 2), none⟩,
  ⟨17, .bin .sub (.t 15) (.t 16), none⟩,
  ⟨11, .asg (.t 17), none⟩]
def r38_2 : List POp := [⟨18, .mv (.t 10), none⟩,
  ⟨19, .mv (.t 11), none⟩,
  ⟨20, .bin .neq (.t 18) (.t 19), none⟩]
def r38_3 : List POp := [⟨21, .mv (.t 10), none⟩,
  ⟨22, .mv (.t 11), none⟩,
  ⟨23, .bin .gtr (.t 21) (.t 22), none⟩]
def r38_4 : List POp := [⟨24, .mv (.t 0), none⟩,
  ⟨25, .mv (.t 2), none⟩,
  ⟨26, .mv (.t 10), none⟩,
  ⟨27, .bin .sub (.t 25) (.t 26), none⟩,
  ⟨28, .mv (.t 2), none⟩,
  ⟨29, .mv (.t 11), none⟩,
  ⟨30, .mv (.t 4), none⟩,
  ⟨31, .callm 50 [.t 24, .t 27, .t 28, .t 29, .t 30], none⟩]
def r38_5 : List POp := [⟨32, .mv (.t 10), none⟩,
  ⟨33, .mv (.t 11), none⟩,
  ⟨34, .bin .sub (.t 32) (.t 33), none⟩,
  ⟨10, .asg (.t 34), none⟩]
def r38_6 : List POp := [⟨35, .mv (.t 0), none⟩,
  ⟨36, .mv (.t 2), none⟩,
  ⟨37, .mv (.t 10), none⟩,
  ⟨38, .bin .sub (.t 36) (.t 37), none⟩,
  ⟨39, .mv (.t 2), none⟩,
  ⟨40, .mv (.t 11), none⟩,
  ⟨41, .bin .add (.t 39) (.t 40), none⟩,
  ⟨42, .mv (.t 10), none⟩,
  ⟨43, .bin .sub (.t 41) (.t 42), none⟩,
  ⟨44, .mv (.t 10), none⟩,
  ⟨45, .mv (.t 4), none⟩,
  ⟨46, .callm 50 [.t 35, .t 38, .t 43, .t 44, .t 45], none⟩]
def r38_7 : List POp := [⟨47, .mv (.t 11), none⟩,
  ⟨48, .mv (.t 10), none⟩,
  ⟨49, .bin .sub (.t 47) (.t 48), none⟩,
  ⟨11, .asg (.t 49), none⟩]
def r38_8 : List POp := [⟨50, .mv (.t 0), none⟩,
  ⟨51, .mv (.t 2), none⟩,
  ⟨52, .mv (.t 10), none⟩,
  ⟨53, .bin .sub (.t 51) (.t 52), none⟩,
  ⟨54, .mv (.t 2), none⟩,
  ⟨55, .mv (.t 10), none⟩,
  ⟨56, .mv (.t 4), none⟩,
  ⟨57, .callm 50 [.t 50, .t 53, .t 54, .t 55, .t 56], none⟩]
def l38_0 : PCode := .seq (.seq (.ops r38_2) (.cond (.t 20) (.skip) (.exit 0))) (.block 1 (.seq (.ops r38_3) (.cond (.t 23) (.seq (.ops r38_4) (.ops r38_5)) (.seq (.ops r38_6) (.ops r38_7)))))
def p38 : PCode := .seq (.ops r38_0) (.seq (.ops r38_1) (.seq (.block 0 (.loop l38_0)) (.ops r38_8)))
theorem ok38 : okFunc1 Try.prog 38 [] 5 p38 = true := by kernel_rfl
set_option maxHeartbeats 1000000 in
theorem rotate_c (g : Nat) (cs : List AV) (P A B S : List Int) (hA : 0 < A.length) (hB : 0 < B.length) (hl : (P ++ A ++ B ++ S).length ≤ 100000) :
    TurnOK Try.prog 38 (.own 3 1 ((P ++ A ++ B ++ S).map oneI)) (.own 3 1 ((P ++ B ++ A ++ S).map oneI)) [.val (.int .i64 P.length), .val (.int .i64 ((P.length + A.length : Nat) : Int)), .val (.int .i64 ((P.length + A.length + B.length : Nat) : Int)), .fnv g cs] (.tup []) := by
  refine turn_of mixed ok38 rfl (.tup _ (by simp)) rfl ?_
  obtain ⟨T, hT⟩ : ∃ T, T = P ++ B ++ A ++ S := ⟨_, rfl⟩
  obtain ⟨Z, hZ⟩ : ∃ Z, Z = P ++ A ++ B ++ S := ⟨_, rfl⟩
  obtain ⟨m, hm⟩ : ∃ m, m = P.length + A.length := ⟨_, rfl⟩
  rw [← hT, ← hZ, ← hm]
  rw [← hZ] at hl
  have hlz : Z.length = m + B.length + S.length := by rw [hZ, hm]; simp only [List.length_append]
  have w1 : IntKind.i64.wrap ((m : Int) - (P.length : Nat)) = ((A.length : Nat) : Int) := by rw [wrap_in (by omega) (by omega)]; omega
  have w2 : IntKind.i64.wrap (((m + B.length : Nat) : Int) - m) = ((B.length : Nat) : Int) := by rw [wrap_in (by omega) (by omega)]; omega
  repeat' first | ((with_reducible (first | refine condD ?_ ?_ | refine condE ?_ ?_ | refine condN ?_ ?_ | refine condI ?_ ?_ | refine condS ?_ ?_)) <;> intro h) | ((with_reducible (first | refine guardD (by with_unfolding_all rfl) ?_ ?_ | refine guardE (by with_unfolding_all rfl) ?_ ?_ | refine guardN (by with_unfolding_all rfl) ?_ ?_ | refine guardI (by with_unfolding_all rfl) ?_ ?_ | refine guardS (by with_unfolding_all rfl) ?_ ?_)) <;> intro h) | (with_reducible refine And.intro ?_ ?_; omega) | (simp only [Z0,Z2,Z3,Z4,Z5,Z6,Z7,Z8,Z9,Za,Zb,Zc,Zd,Ze,Zf,Zg,List.cons.injEq,Zh,Zi,Zj,Zk,Zl,Zm,Zn,Zo,Zp,Zq,beq_self_eq_true,bne_self_eq_false,decide_true,decide_false,Zr,Zs,Zt,Zu,Zv,Zw,Zx,Zy,Zz,Y0,Y1,Y2,Y3,Y4,Y5,Y6,Y7,Y8,Y9,Ya,Yb,Yc,Yd,Ye,Yf,Yg,Yh,Yi,Yj,Yk,Yl,Ym,Yn,Yo,Yp,Yq,Yr,lk,ef,Ys,Yt,Yu,Yv,Yw,Yx,Yy,Yz,X0,X1,X2,X3,X4,X5,X6,X7,X8,X9,Xa,Xb,Xc,Xd,Xe,Xf,Xg,Xh,Xi,Xj,Xk,Xl,Xm,Xn,Xo,Xp,Xq,Xr,Xs,Xt,hv,Xu,ev,Xv,Xw,Xx,Xy,Xz,W0,W1,W2,W3,W4,W5,W6,W7,W8,W9,Wa,Wb,Wc,Wd,We,Wf,Wg,Wh,Wi,Wj,Wk,Wl,Wm,Wn,Wo,Wp,Wq,Wr,Ws,Wt,Wu,Value.oneCell',Wv,Ww,Wx,Wy,true_and,and_true,and_self,implies_true,Wz,V0,V1,V2,false_implies,V3,V4,V5,V6,V7,V8,V9,Va,Vb,Vc,Vd,Ve,Vf,Vg,Vh,Vi,Vj,reduceCtorEq,if_true,if_false,Vk,↓reduceIte,Vl,Vm,Vn,Vo,Vp,Vq,Vr,ne_eq,not_false_eq_true,not_true_eq_false,Vs,Vt,r38_0,r38_1,r38_2,r38_3,r38_4,r38_5,r38_6,r38_7,r38_8,p38,w1,w2]) | (exfalso; omega)
  refine loopS (fun x : List Int × List Int × List Int × List Int × List Int => mk [(0, .own 3 1 (x.1.map oneI)), (2, .val (.int .i64 m)), (4, .fnv g cs), (10, .val (.int .i64 x.2.2.1.length)), (11, .val (.int .i64 x.2.2.2.1.length))])
    (fun x => x.1 = x.2.1 ++ x.2.2.1 ++ x.2.2.2.1 ++ x.2.2.2.2 ∧ x.2.1 ++ x.2.2.2.1 ++ x.2.2.1 ++ x.2.2.2.2 = T ∧ x.2.1.length + x.2.2.1.length = m ∧ 0 < x.2.2.1.length ∧ 0 < x.2.2.2.1.length ∧ x.1.length ≤ 100000) (fun x => x.2.2.1.length + x.2.2.2.1.length) (Z, P, A, B, S) (weak_mk ?_) ⟨hZ, hT.symm, hm.symm, hA, hB, hl⟩ ?_
  · simp only [Vu,Vv,wk1,Vw,Vx,Vy,Z0,Z2,Z3,Z4,Z5,Z6,Z7,Z8,Z9,Za,Zb,Zc,Zd,Ze,Zf,Zg,List.cons.injEq,Zh,Zi,Zj,Zk,Zl,Zm,Zn,Zo,Zp,Zq,beq_self_eq_true,bne_self_eq_false,decide_true,decide_false,Zr,Zs,Zt,Zu,Zv,Zw,Zx,Zy,Zz,Y0,Y1,Y2,Y3,Y4,Y5,Y6,Y7,Y8,Y9,Ya,Yb,Yc,Yd,Ye,Yf,Yg,Yh,Yi,Yj,Yk,Yl,Ym,Yn,Yo,Yp,Yq,Yr,lk,ef,Ys,Yt,Yu,Yv,Yw,Yx,Yy,Yz,X0,X1,X2,X3,X4,X5,X6,X7,X8,X9,Xa,Xb,Xc,Xd,Xe,Xf,Xg,Xh,Xi,Xj,Xk,Xl,Xm,Xn,Xo,Xp,Xq,Xr,Xs,Xt,hv,Xu,ev,Xv,Xw,Xx,Xy,Xz,W0,W1,W2,W3,W4,W5,W6,W7,W8,W9,Wa,Wb,Wc,Wd,We,Wf,Wg,Wh,Wi,Wj,Wk,Wl,Wm,Wn,Wo,Wp,Wq,Wr,Ws,Wt,Wu,Value.oneCell',Wv,Ww,Wx,Wy,true_and,and_true,and_self,implies_true,Wz,V0,V1,V2,false_implies,V3,V4,V5,V6,V7,V8,V9,Va,Vb,Vc,Vd,Ve,Vf,Vg,Vh,Vi,Vj,reduceCtorEq,if_true,if_false,Vk,↓reduceIte,Vl,Vm,Vn,Vo,Vp,Vq,Vr,ne_eq,not_false_eq_true,not_true_eq_false,Vs,Nat.zero_ne_one]
    all_goals first | done | rfl | exact ⟨rfl, rfl⟩
  clear w1 w2 hlz hm hT hZ hA hB hl
  rintro J hJ ⟨Z, P, A, B, S⟩ ⟨hZ, hT, hm, hA, hB, hl⟩
  simp only at hZ hT hm hA hB hl
  have hlz : Z.length = P.length + A.length + B.length + S.length := by rw [hZ]; simp only [List.length_append]
  simp only [Z0,Z2,Z3,Z4,Z5,Z6,Z7,Z8,Z9,Za,Zb,Zc,Zd,Ze,Zf,Zg,List.cons.injEq,Zh,Zi,Zj,Zk,Zl,Zm,Zn,Zo,Zp,Zq,beq_self_eq_true,bne_self_eq_false,decide_true,decide_false,Zr,Zs,Zt,Zu,Zv,Zw,Zx,Zy,Zz,Y0,Y1,Y2,Y3,Y4,Y5,Y6,Y7,Y8,Y9,Ya,Yb,Yc,Yd,Ye,Yf,Yg,Yh,Yi,Yj,Yk,Yl,Ym,Yn,Yo,Yp,Yq,Yr,lk,ef,Ys,Yt,Yu,Yv,Yw,Yx,Yy,Yz,X0,X1,X2,X3,X4,X5,X6,X7,X8,X9,Xa,Xb,Xc,Xd,Xe,Xf,Xg,Xh,Xi,Xj,Xk,Xl,Xm,Xn,Xo,Xp,Xq,Xr,Xs,Xt,hv,Xu,ev,Xv,Xw,Xx,Xy,Xz,W0,W1,W2,W3,W4,W5,W6,W7,W8,W9,Wa,Wb,Wc,Wd,We,Wf,Wg,Wh,Wi,Wj,Wk,Wl,Wm,Wn,Wo,Wp,Wq,Wr,Ws,Wt,Wu,Value.oneCell',Wv,Ww,Wx,Wy,true_and,and_true,and_self,implies_true,Wz,V0,V1,V2,false_implies,V3,V4,V5,V6,V7,V8,V9,Va,Vb,Vc,Vd,Ve,Vf,Vg,Vh,Vi,Vj,reduceCtorEq,if_true,if_false,Vk,↓reduceIte,Vl,Vm,Vn,Vo,Vp,Vq,Vr,ne_eq,not_false_eq_true,not_true_eq_false,Vs,Vt,r38_0,r38_1,r38_2,r38_3,r38_4,r38_5,r38_6,r38_7,r38_8,p38,l38_0]
  refine condN (fun h => ?_) (fun h => ?_)
  · by_cases hij : B.length < A.length
    · have hi : ((B.length : Nat) : Int) < ((A.length : Nat) : Int) := by omega
      have w1 : IntKind.i64.wrap ((m : Int) - (A.length : Nat)) = ((P.length : Nat) : Int) := by rw [wrap_in (by omega) (by omega)]; omega
      have hA1 : (A.take B.length).length = B.length := by rw [List.length_take]; omega
      have hA2 : (A.drop B.length).length = A.length - B.length := List.length_drop
      have w2 : IntKind.i64.wrap (((A.length : Nat) : Int) - (B.length : Nat)) = (((A.drop B.length).length : Nat) : Int) := by rw [wrap_in (by omega) (by omega), hA2]; omega
      have eZ : Z = P ++ A.take B.length ++ A.drop B.length ++ B ++ S := by rw [hZ, List.append_assoc P (A.take B.length), List.take_append_drop]
      have hc := swaprange_c g cs P (A.take B.length) (A.drop B.length) B S hA1 (by rw [← eZ]; exact hl)
      rw [← eZ, hA1, hA2, show P.length + B.length + (A.length - B.length) = m by omega] at hc
      obtain ⟨Z', hZ'⟩ : ∃ Z', Z' = P ++ B ++ A.drop B.length ++ A.take B.length ++ S := ⟨_, rfl⟩
      rw [← hZ'] at hc
      have hT' : (P ++ B) ++ A.take B.length ++ A.drop B.length ++ S = T := by rw [← hT]; simp only [List.append_assoc]; rw [← List.append_assoc (A.take _), List.take_append_drop]
      have hlz' : Z'.length = Z.length := by rw [hZ', hlz]; simp only [List.length_append, hA1, hA2]; omega
      have hpl : (P ++ B).length = P.length + B.length := List.length_append
      generalize A.take B.length = A1 at *
      generalize A.drop B.length = A2 at *
      repeat' first | ((with_reducible (first | refine condD ?_ ?_ | refine condE ?_ ?_ | refine condN ?_ ?_ | refine condI ?_ ?_ | refine condS ?_ ?_)) <;> intro h) | ((with_reducible (first | refine guardD (by with_unfolding_all rfl) ?_ ?_ | refine guardE (by with_unfolding_all rfl) ?_ ?_ | refine guardN (by with_unfolding_all rfl) ?_ ?_ | refine guardI (by with_unfolding_all rfl) ?_ ?_ | refine guardS (by with_unfolding_all rfl) ?_ ?_)) <;> intro h) | ((refine turnG (by with_unfolding_all rfl) (by simp only [List.length_map, hlz']) hc ?_)) | (with_reducible refine And.intro ?_ ?_; omega) | (simp only [Z0,Z2,Z3,Z4,Z5,Z6,Z7,Z8,Z9,Za,Zb,Zc,Zd,Ze,Zf,Zg,List.cons.injEq,Zh,Zi,Zj,Zk,Zl,Zm,Zn,Zo,Zp,Zq,beq_self_eq_true,bne_self_eq_false,decide_true,decide_false,Zr,Zs,Zt,Zu,Zv,Zw,Zx,Zy,Zz,Y0,Y1,Y2,Y3,Y4,Y5,Y6,Y7,Y8,Y9,Ya,Yb,Yc,Yd,Ye,Yf,Yg,Yh,Yi,Yj,Yk,Yl,Ym,Yn,Yo,Yp,Yq,Yr,lk,ef,Ys,Yt,Yu,Yv,Yw,Yx,Yy,Yz,X0,X1,X2,X3,X4,X5,X6,X7,X8,X9,Xa,Xb,Xc,Xd,Xe,Xf,Xg,Xh,Xi,Xj,Xk,Xl,Xm,Xn,Xo,Xp,Xq,Xr,Xs,Xt,hv,Xu,ev,Xv,Xw,Xx,Xy,Xz,W0,W1,W2,W3,W4,W5,W6,W7,W8,W9,Wa,Wb,Wc,Wd,We,Wf,Wg,Wh,Wi,Wj,Wk,Wl,Wm,Wn,Wo,Wp,Wq,Wr,Ws,Wt,Wu,Value.oneCell',Wv,Ww,Wx,Wy,true_and,and_true,and_self,implies_true,Wz,V0,V1,V2,false_implies,V3,V4,V5,V6,V7,V8,V9,Va,Vb,Vc,Vd,Ve,Vf,Vg,Vh,Vi,Vj,reduceCtorEq,if_true,if_false,Vk,↓reduceIte,Vl,Vm,Vn,Vo,Vp,Vq,Vr,ne_eq,not_false_eq_true,not_true_eq_false,Vs,Vt,r38_0,r38_1,r38_2,r38_3,r38_4,r38_5,r38_6,r38_7,r38_8,p38,l38_0,hi,w1,w2,List.length_map]) | (exfalso; omega)
      all_goals first | omega | exact again hJ (Z', P ++ B, A2, A1, S) (weak_mk (by simp only [Vu,Vv,wk1,Vw,Vx,Vy,Z0,Z2,Z3,Z4,Z5,Z6,Z7,Z8,Z9,Za,Zb,Zc,Zd,Ze,Zf,Zg,List.cons.injEq,Zh,Zi,Zj,Zk,Zl,Zm,Zn,Zo,Zp,Zq,beq_self_eq_true,bne_self_eq_false,decide_true,decide_false,Zr,Zs,Zt,Zu,Zv,Zw,Zx,Zy,Zz,Y0,Y1,Y2,Y3,Y4,Y5,Y6,Y7,Y8,Y9,Ya,Yb,Yc,Yd,Ye,Yf,Yg,Yh,Yi,Yj,Yk,Yl,Ym,Yn,Yo,Yp,Yq,Yr,lk,ef,Ys,Yt,Yu,Yv,Yw,Yx,Yy,Yz,X0,X1,X2,X3,X4,X5,X6,X7,X8,X9,Xa,Xb,Xc,Xd,Xe,Xf,Xg,Xh,Xi,Xj,Xk,Xl,Xm,Xn,Xo,Xp,Xq,Xr,Xs,Xt,hv,Xu,ev,Xv,Xw,Xx,Xy,Xz,W0,W1,W2,W3,W4,W5,W6,W7,W8,W9,Wa,Wb,Wc,Wd,We,Wf,Wg,Wh,Wi,Wj,Wk,Wl,Wm,Wn,Wo,Wp,Wq,Wr,Ws,Wt,Wu,Value.oneCell',Wv,Ww,Wx,Wy,true_and,and_true,and_self,implies_true,Wz,V0,V1,V2,false_implies,V3,V4,V5,V6,V7,V8,V9,Va,Vb,Vc,Vd,Ve,Vf,Vg,Vh,Vi,Vj,reduceCtorEq,if_true,if_false,Vk,↓reduceIte,Vl,Vm,Vn,Vo,Vp,Vq,Vr,ne_eq,not_false_eq_true,not_true_eq_false,Vs,Nat.zero_ne_one]; all_goals first | done | rw [hA1])) ⟨hZ', hT', by simp only; omega, by simp only; omega, by simp only; omega, by simp only; omega⟩ (by simp only; omega) | trace_state
    · have hi : ¬ ((B.length : Nat) : Int) < ((A.length : Nat) : Int) := by omega
      have hlt : A.length < B.length := by omega
      have w1 : IntKind.i64.wrap ((m : Int) - (A.length : Nat)) = ((P.length : Nat) : Int) := by rw [wrap_in (by omega) (by omega)]; omega
      have hB1 : (B.take (B.length - A.length)).length = B.length - A.length := by rw [List.length_take]; omega
      have hB2 : (B.drop (B.length - A.length)).length = A.length := by rw [List.length_drop]; omega
      have w2 : IntKind.i64.wrap (((B.length : Nat) : Int) - (A.length : Nat)) = (((B.take (B.length - A.length)).length : Nat) : Int) := by rw [wrap_in (by omega) (by omega), hB1]; omega
      have w3 : IntKind.i64.wrap ((m : Int) + (B.length : Nat)) = ((m + B.length : Nat) : Int) := by rw [wrap_in (by omega) (by omega)]; omega
      have w4 : IntKind.i64.wrap (((m + B.length : Nat) : Int) - (A.length : Nat)) = ((m + (B.length - A.length) : Nat) : Int) := by rw [wrap_in (by omega) (by omega)]; omega
      have eZ : Z = P ++ A ++ B.take (B.length - A.length) ++ B.drop (B.length - A.length) ++ S := by rw [hZ, List.append_assoc (P ++ A) (B.take (B.length - A.length)), List.take_append_drop]
      have hc := swaprange_c g cs P A (B.take (B.length - A.length)) (B.drop (B.length - A.length)) S hB2.symm (by rw [← eZ]; exact hl)
      rw [← eZ, hB1, show P.length + A.length + (B.length - A.length) = m + (B.length - A.length) by omega] at hc
      obtain ⟨Z', hZ'⟩ : ∃ Z', Z' = P ++ B.drop (B.length - A.length) ++ B.take (B.length - A.length) ++ A ++ S := ⟨_, rfl⟩
      rw [← hZ'] at hc
      have hT' : P ++ B.take (B.length - A.length) ++ B.drop (B.length - A.length) ++ (A ++ S) = T := by rw [← hT]; simp only [List.append_assoc]; rw [← List.append_assoc (B.take _), List.take_append_drop]
      have hZ2 : Z' = P ++ B.drop (B.length - A.length) ++ B.take (B.length - A.length) ++ (A ++ S) := by rw [hZ']; simp only [List.append_assoc]
      have hlz' : Z'.length = Z.length := by rw [hZ', hlz]; simp only [List.length_append, hB1, hB2]; omega
      generalize B.take (B.length - A.length) = B1 at *
      generalize B.drop (B.length - A.length) = B2 at *
      repeat' first | ((with_reducible (first | refine condD ?_ ?_ | refine condE ?_ ?_ | refine condN ?_ ?_ | refine condI ?_ ?_ | refine condS ?_ ?_)) <;> intro h) | ((with_reducible (first | refine guardD (by with_unfolding_all rfl) ?_ ?_ | refine guardE (by with_unfolding_all rfl) ?_ ?_ | refine guardN (by with_unfolding_all rfl) ?_ ?_ | refine guardI (by with_unfolding_all rfl) ?_ ?_ | refine guardS (by with_unfolding_all rfl) ?_ ?_)) <;> intro h) | ((refine turnG (by with_unfolding_all rfl) (by simp only [List.length_map, hlz']) hc ?_)) | (with_reducible refine And.intro ?_ ?_; omega) | (simp only [Z0,Z2,Z3,Z4,Z5,Z6,Z7,Z8,Z9,Za,Zb,Zc,Zd,Ze,Zf,Zg,List.cons.injEq,Zh,Zi,Zj,Zk,Zl,Zm,Zn,Zo,Zp,Zq,beq_self_eq_true,bne_self_eq_false,decide_true,decide_false,Zr,Zs,Zt,Zu,Zv,Zw,Zx,Zy,Zz,Y0,Y1,Y2,Y3,Y4,Y5,Y6,Y7,Y8,Y9,Ya,Yb,Yc,Yd,Ye,Yf,Yg,Yh,Yi,Yj,Yk,Yl,Ym,Yn,Yo,Yp,Yq,Yr,lk,ef,Ys,Yt,Yu,Yv,Yw,Yx,Yy,Yz,X0,X1,X2,X3,X4,X5,X6,X7,X8,X9,Xa,Xb,Xc,Xd,Xe,Xf,Xg,Xh,Xi,Xj,Xk,Xl,Xm,Xn,Xo,Xp,Xq,Xr,Xs,Xt,hv,Xu,ev,Xv,Xw,Xx,Xy,Xz,W0,W1,W2,W3,W4,W5,W6,W7,W8,W9,Wa,Wb,Wc,Wd,We,Wf,Wg,Wh,Wi,Wj,Wk,Wl,Wm,Wn,Wo,Wp,Wq,Wr,Ws,Wt,Wu,Value.oneCell',Wv,Ww,Wx,Wy,true_and,and_true,and_self,implies_true,Wz,V0,V1,V2,false_implies,V3,V4,V5,V6,V7,V8,V9,Va,Vb,Vc,Vd,Ve,Vf,Vg,Vh,Vi,Vj,reduceCtorEq,if_true,if_false,Vk,↓reduceIte,Vl,Vm,Vn,Vo,Vp,Vq,Vr,ne_eq,not_false_eq_true,not_true_eq_false,Vs,Vt,r38_0,r38_1,r38_2,r38_3,r38_4,r38_5,r38_6,r38_7,r38_8,p38,l38_0,hi,w1,w2,w3,w4,List.length_map]) | (exfalso; omega)
      all_goals first | omega | exact again hJ (Z', P, B2, B1, A ++ S) (weak_mk (by simp only [Vu,Vv,wk1,Vw,Vx,Vy,Z0,Z2,Z3,Z4,Z5,Z6,Z7,Z8,Z9,Za,Zb,Zc,Zd,Ze,Zf,Zg,List.cons.injEq,Zh,Zi,Zj,Zk,Zl,Zm,Zn,Zo,Zp,Zq,beq_self_eq_true,bne_self_eq_false,decide_true,decide_false,Zr,Zs,Zt,Zu,Zv,Zw,Zx,Zy,Zz,Y0,Y1,Y2,Y3,Y4,Y5,Y6,Y7,Y8,Y9,Ya,Yb,Yc,Yd,Ye,Yf,Yg,Yh,Yi,Yj,Yk,Yl,Ym,Yn,Yo,Yp,Yq,Yr,lk,ef,Ys,Yt,Yu,Yv,Yw,Yx,Yy,Yz,X0,X1,X2,X3,X4,X5,X6,X7,X8,X9,Xa,Xb,Xc,Xd,Xe,Xf,Xg,Xh,Xi,Xj,Xk,Xl,Xm,Xn,Xo,Xp,Xq,Xr,Xs,Xt,hv,Xu,ev,Xv,Xw,Xx,Xy,Xz,W0,W1,W2,W3,W4,W5,W6,W7,W8,W9,Wa,Wb,Wc,Wd,We,Wf,Wg,Wh,Wi,Wj,Wk,Wl,Wm,Wn,Wo,Wp,Wq,Wr,Ws,Wt,Wu,Value.oneCell',Wv,Ww,Wx,Wy,true_and,and_true,and_self,implies_true,Wz,V0,V1,V2,false_implies,V3,V4,V5,V6,V7,V8,V9,Va,Vb,Vc,Vd,Ve,Vf,Vg,Vh,Vi,Vj,reduceCtorEq,if_true,if_false,Vk,↓reduceIte,Vl,Vm,Vn,Vo,Vp,Vq,Vr,ne_eq,not_false_eq_true,not_true_eq_false,Vs,Nat.zero_ne_one]; all_goals first | done | rw [hB2])) ⟨hZ2, hT', by simp only; omega, by simp only; omega, by simp only; omega, by simp only; omega⟩ (by simp only; omega) | trace_state
  · have hij : A.length = B.length := by omega
    have w1 : IntKind.i64.wrap ((m : Int) - (A.length : Nat)) = ((P.length : Nat) : Int) := by rw [wrap_in (by omega) (by omega)]; omega
    have eZ : Z = P ++ A ++ [] ++ B ++ S := by rw [hZ]; simp only [List.append_assoc, List.nil_append]
    have hc := swaprange_c g cs P A [] B S hij (by rw [← eZ]; exact hl)
    have eT : P ++ B ++ [] ++ A ++ S = T := by rw [← hT]; simp only [List.append_assoc, List.nil_append]
    rw [← eZ, eT, List.length_nil, Nat.add_zero, hm] at hc
    have hlt : T.length = Z.length := by rw [← hT, hlz]; simp only [List.length_append]; omega
    clear hJ
    repeat' first | ((with_reducible (first | refine condD ?_ ?_ | refine condE ?_ ?_ | refine condN ?_ ?_ | refine condI ?_ ?_ | refine condS ?_ ?_)) <;> intro h) | ((with_reducible (first | refine guardD (by with_unfolding_all rfl) ?_ ?_ | refine guardE (by with_unfolding_all rfl) ?_ ?_ | refine guardN (by with_unfolding_all rfl) ?_ ?_ | refine guardI (by with_unfolding_all rfl) ?_ ?_ | refine guardS (by with_unfolding_all rfl) ?_ ?_)) <;> intro h) | ((refine turnG (by with_unfolding_all rfl) (by simp only [List.length_map, hlt]) hc ?_)) | (with_reducible refine And.intro ?_ ?_; omega) | (simp only [Z0,Z2,Z3,Z4,Z5,Z6,Z7,Z8,Z9,Za,Zb,Zc,Zd,Ze,Zf,Zg,List.cons.injEq,Zh,Zi,Zj,Zk,Zl,Zm,Zn,Zo,Zp,Zq,beq_self_eq_true,bne_self_eq_false,decide_true,decide_false,Zr,Zs,Zt,Zu,Zv,Zw,Zx,Zy,Zz,Y0,Y1,Y2,Y3,Y4,Y5,Y6,Y7,Y8,Y9,Ya,Yb,Yc,Yd,Ye,Yf,Yg,Yh,Yi,Yj,Yk,Yl,Ym,Yn,Yo,Yp,Yq,Yr,lk,ef,Ys,Yt,Yu,Yv,Yw,Yx,Yy,Yz,X0,X1,X2,X3,X4,X5,X6,X7,X8,X9,Xa,Xb,Xc,Xd,Xe,Xf,Xg,Xh,Xi,Xj,Xk,Xl,Xm,Xn,Xo,Xp,Xq,Xr,Xs,Xt,hv,Xu,ev,Xv,Xw,Xx,Xy,Xz,W0,W1,W2,W3,W4,W5,W6,W7,W8,W9,Wa,Wb,Wc,Wd,We,Wf,Wg,Wh,Wi,Wj,Wk,Wl,Wm,Wn,Wo,Wp,Wq,Wr,Ws,Wt,Wu,Value.oneCell',Wv,Ww,Wx,Wy,true_and,and_true,and_self,implies_true,Wz,V0,V1,V2,false_implies,V3,V4,V5,V6,V7,V8,V9,Va,Vb,Vc,Vd,Ve,Vf,Vg,Vh,Vi,Vj,reduceCtorEq,if_true,if_false,Vk,↓reduceIte,Vl,Vm,Vn,Vo,Vp,Vq,Vr,ne_eq,not_false_eq_true,not_true_eq_false,Vs,Vt,r38_0,r38_1,r38_2,r38_3,r38_4,r38_5,r38_6,r38_7,r38_8,p38,l38_0,w1,Z3,Z4,List.length_map]) | (exfalso; omega)
    all_goals first | rfl | trace_state
end Go.Proofs.Ytbdcnooafacldaa
