/- Live lists: list.length, breakNumbers, entryAt, startAt, sameEntry, by the machine on data. -/
import Derived.Test.YtpecmhdepggnoaaKLvC
namespace Go.Proofs.Ytpecmhdepggnoaa
open Go.RowKit
open Go.Proofs.Ytpecmhdepggnoaa renaming done_eq → Z0, done_eq' → Z1, donet_eq → Z2, donet_eq' → Z3, fin_val → Z4, fin_tup → Z5, fin_agg → Z6, fin_ro → Z7, res_one → Z8, res_more → Z9, rv_t → Za, rv_c → Zb, rv_l → Zc, int_eq → Zg, bool_eq → Zh, toNat_pred → Zr, toNat_succ → Zs, cnd_t → Zu, cnd_f → Zv, grd_tt → Zw, grd_u → Zx, grd_tf → Zy, grd_ft → Zz, grd_ff → Y0, g_skip → Y1, g_ops → Y2, g_seq → Y3, g_block → Y4, g_exit → Y5, g_ret → Y6, x_c → Y7, x_o → Y8, x_l → Y9, x_b → Ya, g_b → Yb, g_nil → Yc, r_all → Yd, o_nil → Ye, g_cond → Yf, o_guard → Yg, o_call → Yh, o_callm → Yi, o_callt → Yj, o_callx → Yk, o_callv → Yl, o_callc → Ym, o_callh → Yn, o_apph → Yo, noav_alias → Yp, noav_nil → Yq, o_mv → Yr, o_pick → Ys, o_bin → Yt, o_never → Yu, o_eqs → Yv, o_eqb → Yw, o_un → Yx, o_conv → Yy, o_load → Yz, o_loadr → X0, o_idxr → X1, o_loads → X2, o_loadsr → X3, o_fld → X4, o_idx → X5, o_idxs → X6, o_len → X7, o_lens → X8, o_ext → X9, o_nilck → Xa, o_slc → Xb, o_slcs → Xc, o_build → Xd, o_minmax → Xe, o_mkfn → Xf, o_mkfnr → Xg, o_alloc → Xh, o_box → Xi, o_boxs → Xj, o_row → Xk, o_rowr → Xl, o_mk → Xm, o_asg → Xn, o_app → Xo, o_appa → Xp, o_store → Xq, o_stores → Xr, o_eqnil → Xs, eqAV → Xt, view_t → Xu, view_c → Xv, view_nil → Xw, view_fn → Xx, look_own → Xy, look_box → Xz, look_junk → W0, look_val → W1, look_nilsl → W2, look_ro → W3, look_roAt → W4, look_agg → W5, look_tup → W6, look_clo → W7, look_alias → W8, look_ref → W9, look_into → Wa, look_fnv → Wb, look_held → Wc, rowOf → Wd, cellsOf → We, argv → Wf, vbin → Wg, vun → Wh, bnd → Wi, elemOf → Wj, putParts → Wk, setAt → Wl, zav → Wm, put_at → Wu, mk_at → Wv, mk_nil → Ww, initSt → Wx, wk_cons → Vt, wk_nil → Vu, vint_eq → Vv, vbool_eq → Vw
open Go.Proofs.Ytpecmhdepggnoaa.AV.tup renaming injEq → Zd
open Go.Proofs.Ytpecmhdepggnoaa.AV.agg renaming injEq → Ze
open Go.Proofs.Ytpecmhdepggnoaa.AV.ro renaming injEq → Zf
open _root_.Int renaming toNat_natCast → Zi, reduceToNat → Zj, toNat_zero → Zk, toNat_one → Zl, reduceLE → Zm, reduceLT → Zn, reduceBEq → Zo, reduceBNe → Zp, reduceNeg → Zq
open _root_.List renaming length_map → Zt, map_cons → Wy, map_nil → Wz, forall_mem_cons → V0, not_mem_nil → V1, length_cons → V2, length_nil → V3, getD_cons_zero → V4, getD_cons_succ → V5, getD_nil → V6, drop_succ_cons → V7, drop_zero → V8, take_succ_cons → V9, take_zero → Va, set_cons_zero → Vb, set_cons_succ → Vc, all_cons → Vd, all_nil → Ve
open Go.Proofs.Ytpecmhdepggnoaa.ASt renaming rid → Wn, hold → Wo, free → Wp
open Go.Proofs.Ytpecmhdepggnoaa.AV renaming kill → Wq, isHome → Wr, noLoan → Ws, cellOK → Wt
open _root_.Bool renaming and_true → Vf, true_and → Vg, not_true → Vh, not_false → Vi, false_eq_true → Vj
open _root_.Nat renaming reduceEqDiff → Vk, reduceBNe → Vl, reduceAdd → Vm, reduceSub → Vn, reduceMul → Vo, reduceLeDiff → Vp, reduceLT → Vq, one_ne_zero → Vr, zero_ne_one → Vs
open Go.Proofs.Ytpecmhdepggnoaa.AV.val renaming injEq → Vx
set_option linter.unusedSimpArgs false
--@short

def lenGo (n : Int) : List LE → Int
  | [] => n
  | e :: r => lenGo (IntKind.i64.wrap (n + e.milli)) r
def lenF (l : PL) : Int := lenGo 0 l.ents
def brkGo (n : Int) : List LE → List Int
  | [] => []
  | e :: r => (if e.brk then IntKind.i64.wrap (n + 1) else n) :: brkGo (if e.brk then IntKind.i64.wrap (n + 1) else n) r
def brkF (l : PL) : List Int := brkGo l.breaks l.ents
theorem brkGo_len : ∀ (n : Int) (l : List LE), (brkGo n l).length = l.length
  | _, [] => rfl
  | n, e :: r => by rw [brkGo, List.length_cons, brkGo_len, List.length_cons]
def entGo (i : Nat) (m : Int) : List LE → Nat × Int
  | [] => (i, 0)
  | e :: r => if m < e.milli then (i, m) else entGo (i + 1) (IntKind.i64.wrap (m - e.milli)) r
def entF (l : PL) (m : Int) : Nat × Int := entGo 0 m l.ents
theorem entGo_le : ∀ (l : List LE) (i : Nat) (m : Int), (entGo i m l).1 ≤ i + l.length
  | [], i, m => by simp [entGo]
  | e :: r, i, m => by
    rw [entGo]
    split
    · simp
    · have := entGo_le r (i + 1) (IntKind.i64.wrap (m - e.milli)); rw [List.length_cons]; omega
/-! headend/list.length -/
def r33_0 : List POp := [⟨1, .boxs (.t 0), none⟩,
  ⟨2, .asg (.c (.int .i64 0)), none⟩]
def r33_1 : List POp := [⟨3, .asg (.c (.int .i64 0)), none⟩]
def r33_2 : List POp := [⟨6, .fld 3 (.t 1), none⟩,
  ⟨7, .load (.t 6), none⟩,
  ⟨8, .len (.t 7), none⟩,
  ⟨9, .mv (.c (.int .i64 0)), none⟩]
def r33_3 : List POp := [⟨10, .bin .lss (.t 9) (.t 8), none⟩]
def r33_4 : List POp := [⟨11, .idx 7 (.t 7) (.t 9), none⟩,
  ⟨12, .loads 7 (.t 11), none⟩,
  ⟨5, .alloc [.string ⟨#[]⟩, .int .i64 0, .bool false, .int .i64 0, .string ⟨#[]⟩, .bool false, .slice none 0 0], none⟩,
  ⟨0, .stores 7 (.t 5) (.t 12), none⟩]
def r33_5 : List POp := [⟨13, .mv (.t 3), none⟩,
  ⟨14, .fld 1 (.t 5), none⟩,
  ⟨15, .load (.t 14), none⟩,
  ⟨16, .bin .add (.t 13) (.t 15), none⟩,
  ⟨3, .asg (.t 16), none⟩]
def r33_6 : List POp := [⟨17, .bin .add (.t 9) (.c (.int .i64 1)), none⟩,
  ⟨9, .mv (.t 17), none⟩]
def r33_7 : List POp := [⟨18, .mv (.t 3), none⟩,
  ⟨2, .asg (.t 18), none⟩]
def l33_0 : PCode := .seq (.ops r33_3) (.seq (.cond (.t 10) (.skip) (.exit 0)) (.seq (.block 1 (.seq (.ops r33_4) (.ops r33_5))) (.ops r33_6)))
def p33 : PCode := .seq (.ops r33_0) (.seq (.ops r33_1) (.seq (.seq (.ops r33_2) (.block 0 (.loop l33_0))) (.seq (.ops r33_7) (.ret))))
theorem ok33 : okFunc Try.prog 33 [.t 2] 1 p33 = true := by kernel_rfl
theorem length_c (l : PL) (hl : l.ents.length ≤ 9000000000000000000) : CallOK Try.prog 33 [.agg l.av] (.val (.int .i64 (lenF l))) := by
  refine call_of mixed ok33 rfl ?_
  repeat' first | ((with_reducible (first | refine condD ?_ ?_ | refine condE ?_ ?_ | refine condN ?_ ?_ | refine condI ?_ ?_ | refine condS ?_ ?_)) <;> intro h) | ((with_reducible (first | refine guardD (by with_unfolding_all rfl) ?_ ?_ | refine guardE (by with_unfolding_all rfl) ?_ ?_ | refine guardN (by with_unfolding_all rfl) ?_ ?_ | refine guardI (by with_unfolding_all rfl) ?_ ?_ | refine guardS (by with_unfolding_all rfl) ?_ ?_)) <;> intro h) | (with_reducible refine And.intro ?_ ?_; omega) | (simp only [Z0,Z1,Z2,Z3,Z4,Z5,Z6,Z7,Z8,Z9,Za,Zb,Zc,Zd,Ze,Zf,List.cons.injEq,Zg,Zh,Zi,Zj,Zk,Zl,Zm,Zn,Zo,Zp,beq_self_eq_true,bne_self_eq_false,decide_true,decide_false,Zq,Zr,Zs,Zt,Zu,Zv,Zw,Zx,Zy,Zz,Y0,Y1,Y2,Y3,Y4,Y5,Y6,Y7,Y8,Y9,Ya,Yb,Yc,Yd,Ye,Yf,Yg,Yh,Yi,Yj,Yk,Yl,Ym,Yn,Yo,Yp,Yq,lk,ef,Yr,Ys,Yt,Yu,Yv,Yw,Yx,Yy,Yz,X0,X1,X2,X3,X4,X5,X6,X7,X8,X9,Xa,Xb,Xc,Xd,Xe,Xf,Xg,Xh,Xi,Xj,Xk,Xl,Xm,Xn,Xo,Xp,Xq,Xr,Xs,hv,Xt,ev,Xu,Xv,Xw,Xx,Xy,Xz,W0,W1,W2,W3,W4,W5,W6,W7,W8,W9,Wa,Wb,Wc,Wd,We,Wf,Wg,Wh,Wi,Wj,Wk,Wl,Wm,Wn,Wo,Wp,Wq,Wr,Ws,Wt,Value.oneCell',Wu,Wv,Ww,Wx,true_and,and_true,and_self,implies_true,Wy,Wz,V0,V1,false_implies,V2,V3,V4,V5,V6,V7,V8,V9,Va,Vb,Vc,Vd,Ve,Vf,Vg,Vh,Vi,reduceCtorEq,if_true,if_false,Vj,↓reduceIte,Vk,Vl,Vm,Vn,Vo,Vp,Vq,ne_eq,not_false_eq_true,not_true_eq_false,Vr,Vs,r33_0,r33_1,r33_2,r33_3,r33_4,r33_5,r33_6,r33_7,p33,PL.av,List.length_map]) | (exfalso; omega)
  refine loopS (fun p : Nat × Int => mk [(3, .val (.int .i64 p.2)), (7, .ro (l.ents.map LE.av)), (8, .val (.int .i64 l.ents.length)), (9, .val (.int .i64 p.1))]) (fun p => p.1 ≤ l.ents.length ∧ lenF l = lenGo p.2 (l.ents.drop p.1)) (fun p => l.ents.length - p.1) (0, 0) (weak_mk ?_) ⟨Nat.zero_le _, rfl⟩ ?_
  · simp only [Vt,Vu,wk1,Vv,Vw,Vx,Z0,Z1,Z2,Z3,Z4,Z5,Z6,Z7,Z8,Z9,Za,Zb,Zc,Zd,Ze,Zf,List.cons.injEq,Zg,Zh,Zi,Zj,Zk,Zl,Zm,Zn,Zo,Zp,beq_self_eq_true,bne_self_eq_false,decide_true,decide_false,Zq,Zr,Zs,Zt,Zu,Zv,Zw,Zx,Zy,Zz,Y0,Y1,Y2,Y3,Y4,Y5,Y6,Y7,Y8,Y9,Ya,Yb,Yc,Yd,Ye,Yf,Yg,Yh,Yi,Yj,Yk,Yl,Ym,Yn,Yo,Yp,Yq,lk,ef,Yr,Ys,Yt,Yu,Yv,Yw,Yx,Yy,Yz,X0,X1,X2,X3,X4,X5,X6,X7,X8,X9,Xa,Xb,Xc,Xd,Xe,Xf,Xg,Xh,Xi,Xj,Xk,Xl,Xm,Xn,Xo,Xp,Xq,Xr,Xs,hv,Xt,ev,Xu,Xv,Xw,Xx,Xy,Xz,W0,W1,W2,W3,W4,W5,W6,W7,W8,W9,Wa,Wb,Wc,Wd,We,Wf,Wg,Wh,Wi,Wj,Wk,Wl,Wm,Wn,Wo,Wp,Wq,Wr,Ws,Wt,Value.oneCell',Wu,Wv,Ww,Wx,true_and,and_true,and_self,implies_true,Wy,Wz,V0,V1,false_implies,V2,V3,V4,V5,V6,V7,V8,V9,Va,Vb,Vc,Vd,Ve,Vf,Vg,Vh,Vi,reduceCtorEq,if_true,if_false,Vj,↓reduceIte,Vk,Vl,Vm,Vn,Vo,Vp,Vq,ne_eq,not_false_eq_true,not_true_eq_false,Vr,Nat.zero_ne_one]
    all_goals first | done | rfl | simp
  rintro J hJ ⟨k, n⟩ ⟨hk, hg⟩
  simp only at hk hg
  simp only [Z0,Z1,Z2,Z3,Z4,Z5,Z6,Z7,Z8,Z9,Za,Zb,Zc,Zd,Ze,Zf,List.cons.injEq,Zg,Zh,Zi,Zj,Zk,Zl,Zm,Zn,Zo,Zp,beq_self_eq_true,bne_self_eq_false,decide_true,decide_false,Zq,Zr,Zs,Zt,Zu,Zv,Zw,Zx,Zy,Zz,Y0,Y1,Y2,Y3,Y4,Y5,Y6,Y7,Y8,Y9,Ya,Yb,Yc,Yd,Ye,Yf,Yg,Yh,Yi,Yj,Yk,Yl,Ym,Yn,Yo,Yp,Yq,lk,ef,Yr,Ys,Yt,Yu,Yv,Yw,Yx,Yy,Yz,X0,X1,X2,X3,X4,X5,X6,X7,X8,X9,Xa,Xb,Xc,Xd,Xe,Xf,Xg,Xh,Xi,Xj,Xk,Xl,Xm,Xn,Xo,Xp,Xq,Xr,Xs,hv,Xt,ev,Xu,Xv,Xw,Xx,Xy,Xz,W0,W1,W2,W3,W4,W5,W6,W7,W8,W9,Wa,Wb,Wc,Wd,We,Wf,Wg,Wh,Wi,Wj,Wk,Wl,Wm,Wn,Wo,Wp,Wq,Wr,Ws,Wt,Value.oneCell',Wu,Wv,Ww,Wx,true_and,and_true,and_self,implies_true,Wy,Wz,V0,V1,false_implies,V2,V3,V4,V5,V6,V7,V8,V9,Va,Vb,Vc,Vd,Ve,Vf,Vg,Vh,Vi,reduceCtorEq,if_true,if_false,Vj,↓reduceIte,Vk,Vl,Vm,Vn,Vo,Vp,Vq,ne_eq,not_false_eq_true,not_true_eq_false,Vr,Vs,r33_0,r33_1,r33_2,r33_3,r33_4,r33_5,r33_6,r33_7,p33,l33_0]
  refine condD (fun h => ?_) (fun h => ?_)
  · have hlt : k < l.ents.length := by omega
    have hw := i_add1 k (by omega)
    have gK := getD_map (f := LE.av) (d := []) hlt
    have hki : (k : Int) < l.ents.length := by omega
    have k0 : (0 : Int) ≤ (k : Int) := by omega
    rw [List.drop_eq_getElem_cons hlt, lenGo] at hg
    simp only [LE.av] at gK
    generalize l.ents[k] = e at *
    repeat' first | ((with_reducible (first | refine condD ?_ ?_ | refine condE ?_ ?_ | refine condN ?_ ?_ | refine condI ?_ ?_ | refine condS ?_ ?_)) <;> intro h) | ((with_reducible (first | refine guardD (by with_unfolding_all rfl) ?_ ?_ | refine guardE (by with_unfolding_all rfl) ?_ ?_ | refine guardN (by with_unfolding_all rfl) ?_ ?_ | refine guardI (by with_unfolding_all rfl) ?_ ?_ | refine guardS (by with_unfolding_all rfl) ?_ ?_)) <;> intro h) | (with_reducible refine And.intro ?_ ?_; omega) | (simp only [Z0,Z1,Z2,Z3,Z4,Z5,Z6,Z7,Z8,Z9,Za,Zb,Zc,Zd,Ze,Zf,List.cons.injEq,Zg,Zh,Zi,Zj,Zk,Zl,Zm,Zn,Zo,Zp,beq_self_eq_true,bne_self_eq_false,decide_true,decide_false,Zq,Zr,Zs,Zt,Zu,Zv,Zw,Zx,Zy,Zz,Y0,Y1,Y2,Y3,Y4,Y5,Y6,Y7,Y8,Y9,Ya,Yb,Yc,Yd,Ye,Yf,Yg,Yh,Yi,Yj,Yk,Yl,Ym,Yn,Yo,Yp,Yq,lk,ef,Yr,Ys,Yt,Yu,Yv,Yw,Yx,Yy,Yz,X0,X1,X2,X3,X4,X5,X6,X7,X8,X9,Xa,Xb,Xc,Xd,Xe,Xf,Xg,Xh,Xi,Xj,Xk,Xl,Xm,Xn,Xo,Xp,Xq,Xr,Xs,hv,Xt,ev,Xu,Xv,Xw,Xx,Xy,Xz,W0,W1,W2,W3,W4,W5,W6,W7,W8,W9,Wa,Wb,Wc,Wd,We,Wf,Wg,Wh,Wi,Wj,Wk,Wl,Wm,Wn,Wo,Wp,Wq,Wr,Ws,Wt,Value.oneCell',Wu,Wv,Ww,Wx,true_and,and_true,and_self,implies_true,Wy,Wz,V0,V1,false_implies,V2,V3,V4,V5,V6,V7,V8,V9,Va,Vb,Vc,Vd,Ve,Vf,Vg,Vh,Vi,reduceCtorEq,if_true,if_false,Vj,↓reduceIte,Vk,Vl,Vm,Vn,Vo,Vp,Vq,ne_eq,not_false_eq_true,not_true_eq_false,Vr,Vs,r33_0,r33_1,r33_2,r33_3,r33_4,r33_5,r33_6,r33_7,p33,l33_0,gK,hki,k0,hw]) | (exfalso; omega)
    all_goals first | done | omega | exact again hJ (k + 1, IntKind.i64.wrap (n + e.milli)) (weak_mk (by simp only [Vt,Vu,wk1,Vv,Vw,Vx,Z0,Z1,Z2,Z3,Z4,Z5,Z6,Z7,Z8,Z9,Za,Zb,Zc,Zd,Ze,Zf,List.cons.injEq,Zg,Zh,Zi,Zj,Zk,Zl,Zm,Zn,Zo,Zp,beq_self_eq_true,bne_self_eq_false,decide_true,decide_false,Zq,Zr,Zs,Zt,Zu,Zv,Zw,Zx,Zy,Zz,Y0,Y1,Y2,Y3,Y4,Y5,Y6,Y7,Y8,Y9,Ya,Yb,Yc,Yd,Ye,Yf,Yg,Yh,Yi,Yj,Yk,Yl,Ym,Yn,Yo,Yp,Yq,lk,ef,Yr,Ys,Yt,Yu,Yv,Yw,Yx,Yy,Yz,X0,X1,X2,X3,X4,X5,X6,X7,X8,X9,Xa,Xb,Xc,Xd,Xe,Xf,Xg,Xh,Xi,Xj,Xk,Xl,Xm,Xn,Xo,Xp,Xq,Xr,Xs,hv,Xt,ev,Xu,Xv,Xw,Xx,Xy,Xz,W0,W1,W2,W3,W4,W5,W6,W7,W8,W9,Wa,Wb,Wc,Wd,We,Wf,Wg,Wh,Wi,Wj,Wk,Wl,Wm,Wn,Wo,Wp,Wq,Wr,Ws,Wt,Value.oneCell',Wu,Wv,Ww,Wx,true_and,and_true,and_self,implies_true,Wy,Wz,V0,V1,false_implies,V2,V3,V4,V5,V6,V7,V8,V9,Va,Vb,Vc,Vd,Ve,Vf,Vg,Vh,Vi,reduceCtorEq,if_true,if_false,Vj,↓reduceIte,Vk,Vl,Vm,Vn,Vo,Vp,Vq,ne_eq,not_false_eq_true,not_true_eq_false,Vr,Nat.zero_ne_one]; all_goals first | done | rfl)) ⟨by simp only; omega, hg⟩ (by simp only; omega) | trace_state
  · have hke : k = l.ents.length := by omega
    rw [hke, List.drop_length, lenGo] at hg
    rw [hg]
    clear hJ
    repeat' first | ((with_reducible (first | refine condD ?_ ?_ | refine condE ?_ ?_ | refine condN ?_ ?_ | refine condI ?_ ?_ | refine condS ?_ ?_)) <;> intro h) | ((with_reducible (first | refine guardD (by with_unfolding_all rfl) ?_ ?_ | refine guardE (by with_unfolding_all rfl) ?_ ?_ | refine guardN (by with_unfolding_all rfl) ?_ ?_ | refine guardI (by with_unfolding_all rfl) ?_ ?_ | refine guardS (by with_unfolding_all rfl) ?_ ?_)) <;> intro h) | (with_reducible refine And.intro ?_ ?_; omega) | (simp only [Z0,Z1,Z2,Z3,Z4,Z5,Z6,Z7,Z8,Z9,Za,Zb,Zc,Zd,Ze,Zf,List.cons.injEq,Zg,Zh,Zi,Zj,Zk,Zl,Zm,Zn,Zo,Zp,beq_self_eq_true,bne_self_eq_false,decide_true,decide_false,Zq,Zr,Zs,Zt,Zu,Zv,Zw,Zx,Zy,Zz,Y0,Y1,Y2,Y3,Y4,Y5,Y6,Y7,Y8,Y9,Ya,Yb,Yc,Yd,Ye,Yf,Yg,Yh,Yi,Yj,Yk,Yl,Ym,Yn,Yo,Yp,Yq,lk,ef,Yr,Ys,Yt,Yu,Yv,Yw,Yx,Yy,Yz,X0,X1,X2,X3,X4,X5,X6,X7,X8,X9,Xa,Xb,Xc,Xd,Xe,Xf,Xg,Xh,Xi,Xj,Xk,Xl,Xm,Xn,Xo,Xp,Xq,Xr,Xs,hv,Xt,ev,Xu,Xv,Xw,Xx,Xy,Xz,W0,W1,W2,W3,W4,W5,W6,W7,W8,W9,Wa,Wb,Wc,Wd,We,Wf,Wg,Wh,Wi,Wj,Wk,Wl,Wm,Wn,Wo,Wp,Wq,Wr,Ws,Wt,Value.oneCell',Wu,Wv,Ww,Wx,true_and,and_true,and_self,implies_true,Wy,Wz,V0,V1,false_implies,V2,V3,V4,V5,V6,V7,V8,V9,Va,Vb,Vc,Vd,Ve,Vf,Vg,Vh,Vi,reduceCtorEq,if_true,if_false,Vj,↓reduceIte,Vk,Vl,Vm,Vn,Vo,Vp,Vq,ne_eq,not_false_eq_true,not_true_eq_false,Vr,Vs,r33_0,r33_1,r33_2,r33_3,r33_4,r33_5,r33_6,r33_7,p33,l33_0]) | (exfalso; omega)
/-! headend/list.breakNumbers -/
def r57_0 : List POp := [⟨1, .boxs (.t 0), none⟩,
  ⟨2, .asg .nil, none⟩]
def r57_1 : List POp := [⟨7, .fld 2 (.t 1), none⟩,
  ⟨8, .load (.t 7), none⟩,
  ⟨3, .asg (.t 8), none⟩]
def r57_2 : List POp := [⟨4, .asg .nil, none⟩]
def r57_3 : List POp := [⟨9, .fld 3 (.t 1), none⟩,
  ⟨10, .load (.t 9), none⟩,
  ⟨11, .len (.t 10), none⟩,
  ⟨12, .mv (.c (.int .i64 0)), none⟩]
def r57_4 : List POp := [⟨13, .bin .lss (.t 12) (.t 11), none⟩]
def r57_5 : List POp := [⟨14, .idx 7 (.t 10) (.t 12), none⟩,
  ⟨15, .loads 7 (.t 14), none⟩,
  ⟨6, .alloc [.string ⟨#[]⟩, .int .i64 0, .bool false, .int .i64 0, .string ⟨#[]⟩, .bool false, .slice none 0 0], none⟩,
  ⟨0, .stores 7 (.t 6) (.t 15), none⟩]
def r57_6 : List POp := [⟨16, .fld 2 (.t 6), none⟩,
  ⟨17, .load (.t 16), none⟩]
def r57_7 : List POp := [⟨18, .mv (.t 3), none⟩,
  ⟨19, .bin .add (.t 18) (.c (.int .i64 1)), none⟩,
  ⟨3, .asg (.t 19), none⟩]
def r57_8 : List POp := [⟨20, .mv (.t 4), none⟩,
  ⟨21, .mv (.t 3), none⟩,
  ⟨22, .row 3 1 [.t 21], none⟩,
  ⟨23, .app 3 1 8 (.t 20) (.t 22), none⟩,
  ⟨4, .asg (.t 23), none⟩]
def r57_9 : List POp := [⟨24, .bin .add (.t 12) (.c (.int .i64 1)), none⟩,
  ⟨12, .mv (.t 24), none⟩]
def r57_10 : List POp := [⟨25, .mv (.t 4), none⟩,
  ⟨2, .asg (.t 25), none⟩]
def l57_0 : PCode := .seq (.ops r57_4) (.seq (.cond (.t 13) (.skip) (.exit 0)) (.seq (.block 1 (.seq (.ops r57_5) (.seq (.seq (.ops r57_6) (.cond (.t 17) (.ops r57_7) (.skip))) (.ops r57_8)))) (.ops r57_9)))
def p57 : PCode := .seq (.ops r57_0) (.seq (.ops r57_1) (.seq (.ops r57_2) (.seq (.seq (.ops r57_3) (.block 0 (.loop l57_0))) (.seq (.ops r57_10) (.ret)))))
theorem ok57 : okFunc Try.prog 57 [.t 2] 1 p57 = true := by kernel_rfl
theorem breaks_c (l : PL) (hl : l.ents.length ≤ 1000) : CallOK Try.prog 57 [.agg l.av] (.ro ((brkF l).map oneI)) := by
  refine call_of mixed ok57 rfl ?_
  have hbl : (brkF l).length = l.ents.length := brkGo_len _ _
  repeat' first | ((with_reducible (first | refine condD ?_ ?_ | refine condE ?_ ?_ | refine condN ?_ ?_ | refine condI ?_ ?_ | refine condS ?_ ?_)) <;> intro h) | ((with_reducible (first | refine guardD (by with_unfolding_all rfl) ?_ ?_ | refine guardE (by with_unfolding_all rfl) ?_ ?_ | refine guardN (by with_unfolding_all rfl) ?_ ?_ | refine guardI (by with_unfolding_all rfl) ?_ ?_ | refine guardS (by with_unfolding_all rfl) ?_ ?_)) <;> intro h) | (with_reducible refine And.intro ?_ ?_; omega) | (simp only [Z0,Z1,Z2,Z3,Z4,Z5,Z6,Z7,Z8,Z9,Za,Zb,Zc,Zd,Ze,Zf,List.cons.injEq,Zg,Zh,Zi,Zj,Zk,Zl,Zm,Zn,Zo,Zp,beq_self_eq_true,bne_self_eq_false,decide_true,decide_false,Zq,Zr,Zs,Zt,Zu,Zv,Zw,Zx,Zy,Zz,Y0,Y1,Y2,Y3,Y4,Y5,Y6,Y7,Y8,Y9,Ya,Yb,Yc,Yd,Ye,Yf,Yg,Yh,Yi,Yj,Yk,Yl,Ym,Yn,Yo,Yp,Yq,lk,ef,Yr,Ys,Yt,Yu,Yv,Yw,Yx,Yy,Yz,X0,X1,X2,X3,X4,X5,X6,X7,X8,X9,Xa,Xb,Xc,Xd,Xe,Xf,Xg,Xh,Xi,Xj,Xk,Xl,Xm,Xn,Xo,Xp,Xq,Xr,Xs,hv,Xt,ev,Xu,Xv,Xw,Xx,Xy,Xz,W0,W1,W2,W3,W4,W5,W6,W7,W8,W9,Wa,Wb,Wc,Wd,We,Wf,Wg,Wh,Wi,Wj,Wk,Wl,Wm,Wn,Wo,Wp,Wq,Wr,Ws,Wt,Value.oneCell',Wu,Wv,Ww,Wx,true_and,and_true,and_self,implies_true,Wy,Wz,V0,V1,false_implies,V2,V3,V4,V5,V6,V7,V8,V9,Va,Vb,Vc,Vd,Ve,Vf,Vg,Vh,Vi,reduceCtorEq,if_true,if_false,Vj,↓reduceIte,Vk,Vl,Vm,Vn,Vo,Vp,Vq,ne_eq,not_false_eq_true,not_true_eq_false,Vr,Vs,r57_0,r57_1,r57_2,r57_3,r57_4,r57_5,r57_6,r57_7,r57_8,r57_9,r57_10,p57,PL.av,List.length_map]) | (exfalso; omega)
  refine loopS (fun p : Nat × Int × List Int => mk [(3, .val (.int .i64 p.2.1)), (4, .own 3 1 (p.2.2.map oneI)), (10, .ro (l.ents.map LE.av)), (11, .val (.int .i64 l.ents.length)), (12, .val (.int .i64 p.1))]) (fun p => p.1 ≤ l.ents.length ∧ p.2.2.length = p.1 ∧ brkF l = p.2.2 ++ brkGo p.2.1 (l.ents.drop p.1)) (fun p => l.ents.length - p.1) (0, l.breaks, []) (weak_mk ?_) ⟨Nat.zero_le _, rfl, rfl⟩ ?_
  · simp only [Vt,Vu,wk1,Vv,Vw,Vx,Z0,Z1,Z2,Z3,Z4,Z5,Z6,Z7,Z8,Z9,Za,Zb,Zc,Zd,Ze,Zf,List.cons.injEq,Zg,Zh,Zi,Zj,Zk,Zl,Zm,Zn,Zo,Zp,beq_self_eq_true,bne_self_eq_false,decide_true,decide_false,Zq,Zr,Zs,Zt,Zu,Zv,Zw,Zx,Zy,Zz,Y0,Y1,Y2,Y3,Y4,Y5,Y6,Y7,Y8,Y9,Ya,Yb,Yc,Yd,Ye,Yf,Yg,Yh,Yi,Yj,Yk,Yl,Ym,Yn,Yo,Yp,Yq,lk,ef,Yr,Ys,Yt,Yu,Yv,Yw,Yx,Yy,Yz,X0,X1,X2,X3,X4,X5,X6,X7,X8,X9,Xa,Xb,Xc,Xd,Xe,Xf,Xg,Xh,Xi,Xj,Xk,Xl,Xm,Xn,Xo,Xp,Xq,Xr,Xs,hv,Xt,ev,Xu,Xv,Xw,Xx,Xy,Xz,W0,W1,W2,W3,W4,W5,W6,W7,W8,W9,Wa,Wb,Wc,Wd,We,Wf,Wg,Wh,Wi,Wj,Wk,Wl,Wm,Wn,Wo,Wp,Wq,Wr,Ws,Wt,Value.oneCell',Wu,Wv,Ww,Wx,true_and,and_true,and_self,implies_true,Wy,Wz,V0,V1,false_implies,V2,V3,V4,V5,V6,V7,V8,V9,Va,Vb,Vc,Vd,Ve,Vf,Vg,Vh,Vi,reduceCtorEq,if_true,if_false,Vj,↓reduceIte,Vk,Vl,Vm,Vn,Vo,Vp,Vq,ne_eq,not_false_eq_true,not_true_eq_false,Vr,Nat.zero_ne_one]
    all_goals first | done | rfl | simp
  rintro J hJ ⟨k, n, B⟩ ⟨hk, hB, hg⟩
  simp only at hk hg hB
  simp only [Z0,Z1,Z2,Z3,Z4,Z5,Z6,Z7,Z8,Z9,Za,Zb,Zc,Zd,Ze,Zf,List.cons.injEq,Zg,Zh,Zi,Zj,Zk,Zl,Zm,Zn,Zo,Zp,beq_self_eq_true,bne_self_eq_false,decide_true,decide_false,Zq,Zr,Zs,Zt,Zu,Zv,Zw,Zx,Zy,Zz,Y0,Y1,Y2,Y3,Y4,Y5,Y6,Y7,Y8,Y9,Ya,Yb,Yc,Yd,Ye,Yf,Yg,Yh,Yi,Yj,Yk,Yl,Ym,Yn,Yo,Yp,Yq,lk,ef,Yr,Ys,Yt,Yu,Yv,Yw,Yx,Yy,Yz,X0,X1,X2,X3,X4,X5,X6,X7,X8,X9,Xa,Xb,Xc,Xd,Xe,Xf,Xg,Xh,Xi,Xj,Xk,Xl,Xm,Xn,Xo,Xp,Xq,Xr,Xs,hv,Xt,ev,Xu,Xv,Xw,Xx,Xy,Xz,W0,W1,W2,W3,W4,W5,W6,W7,W8,W9,Wa,Wb,Wc,Wd,We,Wf,Wg,Wh,Wi,Wj,Wk,Wl,Wm,Wn,Wo,Wp,Wq,Wr,Ws,Wt,Value.oneCell',Wu,Wv,Ww,Wx,true_and,and_true,and_self,implies_true,Wy,Wz,V0,V1,false_implies,V2,V3,V4,V5,V6,V7,V8,V9,Va,Vb,Vc,Vd,Ve,Vf,Vg,Vh,Vi,reduceCtorEq,if_true,if_false,Vj,↓reduceIte,Vk,Vl,Vm,Vn,Vo,Vp,Vq,ne_eq,not_false_eq_true,not_true_eq_false,Vr,Vs,r57_0,r57_1,r57_2,r57_3,r57_4,r57_5,r57_6,r57_7,r57_8,r57_9,r57_10,p57,l57_0]
  refine condD (fun h => ?_) (fun h => ?_)
  · have hlt : k < l.ents.length := by omega
    have hw := i_add1 k (by omega)
    have gK := getD_map (f := LE.av) (d := []) hlt
    have hki : (k : Int) < l.ents.length := by omega
    have k0 : (0 : Int) ≤ (k : Int) := by omega
    rw [List.drop_eq_getElem_cons hlt, brkGo] at hg
    simp only [LE.av] at gK
    generalize l.ents[k] = e at *
    cases q : e.brk
    · rw [q, if_neg (by simp)] at hg
      rw [q] at gK
      have hap : B.map oneI ++ [[AV.val (.int .i64 n)]] = (B ++ [n]).map oneI := by rw [List.map_append]; rfl
      repeat' first | ((with_reducible (first | refine condD ?_ ?_ | refine condE ?_ ?_ | refine condN ?_ ?_ | refine condI ?_ ?_ | refine condS ?_ ?_)) <;> intro h) | ((with_reducible (first | refine guardD (by with_unfolding_all rfl) ?_ ?_ | refine guardE (by with_unfolding_all rfl) ?_ ?_ | refine guardN (by with_unfolding_all rfl) ?_ ?_ | refine guardI (by with_unfolding_all rfl) ?_ ?_ | refine guardS (by with_unfolding_all rfl) ?_ ?_)) <;> intro h) | (with_reducible refine And.intro ?_ ?_; omega) | (simp only [Z0,Z1,Z2,Z3,Z4,Z5,Z6,Z7,Z8,Z9,Za,Zb,Zc,Zd,Ze,Zf,List.cons.injEq,Zg,Zh,Zi,Zj,Zk,Zl,Zm,Zn,Zo,Zp,beq_self_eq_true,bne_self_eq_false,decide_true,decide_false,Zq,Zr,Zs,Zt,Zu,Zv,Zw,Zx,Zy,Zz,Y0,Y1,Y2,Y3,Y4,Y5,Y6,Y7,Y8,Y9,Ya,Yb,Yc,Yd,Ye,Yf,Yg,Yh,Yi,Yj,Yk,Yl,Ym,Yn,Yo,Yp,Yq,lk,ef,Yr,Ys,Yt,Yu,Yv,Yw,Yx,Yy,Yz,X0,X1,X2,X3,X4,X5,X6,X7,X8,X9,Xa,Xb,Xc,Xd,Xe,Xf,Xg,Xh,Xi,Xj,Xk,Xl,Xm,Xn,Xo,Xp,Xq,Xr,Xs,hv,Xt,ev,Xu,Xv,Xw,Xx,Xy,Xz,W0,W1,W2,W3,W4,W5,W6,W7,W8,W9,Wa,Wb,Wc,Wd,We,Wf,Wg,Wh,Wi,Wj,Wk,Wl,Wm,Wn,Wo,Wp,Wq,Wr,Ws,Wt,Value.oneCell',Wu,Wv,Ww,Wx,true_and,and_true,and_self,implies_true,Wy,Wz,V0,V1,false_implies,V2,V3,V4,V5,V6,V7,V8,V9,Va,Vb,Vc,Vd,Ve,Vf,Vg,Vh,Vi,reduceCtorEq,if_true,if_false,Vj,↓reduceIte,Vk,Vl,Vm,Vn,Vo,Vp,Vq,ne_eq,not_false_eq_true,not_true_eq_false,Vr,Vs,r57_0,r57_1,r57_2,r57_3,r57_4,r57_5,r57_6,r57_7,r57_8,r57_9,r57_10,p57,l57_0,gK,hki,k0,hw,hap,hB,List.length_map]) | (exfalso; omega)
      all_goals first | done | omega | exact again hJ (k + 1, n, B ++ [n]) (weak_mk (by simp only [Vt,Vu,wk1,Vv,Vw,Vx,Z0,Z1,Z2,Z3,Z4,Z5,Z6,Z7,Z8,Z9,Za,Zb,Zc,Zd,Ze,Zf,List.cons.injEq,Zg,Zh,Zi,Zj,Zk,Zl,Zm,Zn,Zo,Zp,beq_self_eq_true,bne_self_eq_false,decide_true,decide_false,Zq,Zr,Zs,Zt,Zu,Zv,Zw,Zx,Zy,Zz,Y0,Y1,Y2,Y3,Y4,Y5,Y6,Y7,Y8,Y9,Ya,Yb,Yc,Yd,Ye,Yf,Yg,Yh,Yi,Yj,Yk,Yl,Ym,Yn,Yo,Yp,Yq,lk,ef,Yr,Ys,Yt,Yu,Yv,Yw,Yx,Yy,Yz,X0,X1,X2,X3,X4,X5,X6,X7,X8,X9,Xa,Xb,Xc,Xd,Xe,Xf,Xg,Xh,Xi,Xj,Xk,Xl,Xm,Xn,Xo,Xp,Xq,Xr,Xs,hv,Xt,ev,Xu,Xv,Xw,Xx,Xy,Xz,W0,W1,W2,W3,W4,W5,W6,W7,W8,W9,Wa,Wb,Wc,Wd,We,Wf,Wg,Wh,Wi,Wj,Wk,Wl,Wm,Wn,Wo,Wp,Wq,Wr,Ws,Wt,Value.oneCell',Wu,Wv,Ww,Wx,true_and,and_true,and_self,implies_true,Wy,Wz,V0,V1,false_implies,V2,V3,V4,V5,V6,V7,V8,V9,Va,Vb,Vc,Vd,Ve,Vf,Vg,Vh,Vi,reduceCtorEq,if_true,if_false,Vj,↓reduceIte,Vk,Vl,Vm,Vn,Vo,Vp,Vq,ne_eq,not_false_eq_true,not_true_eq_false,Vr,Nat.zero_ne_one]; all_goals first | done | rfl)) ⟨by simp only; omega, by simp only [List.length_append, List.length_singleton]; omega, by rw [hg, List.append_assoc]; rfl⟩ (by simp only; omega) | trace_state
    · rw [q, if_pos rfl] at hg
      rw [q] at gK
      generalize hn2 : IntKind.i64.wrap (n + 1) = n2 at *
      have hap : B.map oneI ++ [[AV.val (.int .i64 n2)]] = (B ++ [n2]).map oneI := by rw [List.map_append]; rfl
      repeat' first | ((with_reducible (first | refine condD ?_ ?_ | refine condE ?_ ?_ | refine condN ?_ ?_ | refine condI ?_ ?_ | refine condS ?_ ?_)) <;> intro h) | ((with_reducible (first | refine guardD (by with_unfolding_all rfl) ?_ ?_ | refine guardE (by with_unfolding_all rfl) ?_ ?_ | refine guardN (by with_unfolding_all rfl) ?_ ?_ | refine guardI (by with_unfolding_all rfl) ?_ ?_ | refine guardS (by with_unfolding_all rfl) ?_ ?_)) <;> intro h) | (with_reducible refine And.intro ?_ ?_; omega) | (simp only [Z0,Z1,Z2,Z3,Z4,Z5,Z6,Z7,Z8,Z9,Za,Zb,Zc,Zd,Ze,Zf,List.cons.injEq,Zg,Zh,Zi,Zj,Zk,Zl,Zm,Zn,Zo,Zp,beq_self_eq_true,bne_self_eq_false,decide_true,decide_false,Zq,Zr,Zs,Zt,Zu,Zv,Zw,Zx,Zy,Zz,Y0,Y1,Y2,Y3,Y4,Y5,Y6,Y7,Y8,Y9,Ya,Yb,Yc,Yd,Ye,Yf,Yg,Yh,Yi,Yj,Yk,Yl,Ym,Yn,Yo,Yp,Yq,lk,ef,Yr,Ys,Yt,Yu,Yv,Yw,Yx,Yy,Yz,X0,X1,X2,X3,X4,X5,X6,X7,X8,X9,Xa,Xb,Xc,Xd,Xe,Xf,Xg,Xh,Xi,Xj,Xk,Xl,Xm,Xn,Xo,Xp,Xq,Xr,Xs,hv,Xt,ev,Xu,Xv,Xw,Xx,Xy,Xz,W0,W1,W2,W3,W4,W5,W6,W7,W8,W9,Wa,Wb,Wc,Wd,We,Wf,Wg,Wh,Wi,Wj,Wk,Wl,Wm,Wn,Wo,Wp,Wq,Wr,Ws,Wt,Value.oneCell',Wu,Wv,Ww,Wx,true_and,and_true,and_self,implies_true,Wy,Wz,V0,V1,false_implies,V2,V3,V4,V5,V6,V7,V8,V9,Va,Vb,Vc,Vd,Ve,Vf,Vg,Vh,Vi,reduceCtorEq,if_true,if_false,Vj,↓reduceIte,Vk,Vl,Vm,Vn,Vo,Vp,Vq,ne_eq,not_false_eq_true,not_true_eq_false,Vr,Vs,r57_0,r57_1,r57_2,r57_3,r57_4,r57_5,r57_6,r57_7,r57_8,r57_9,r57_10,p57,l57_0,gK,hki,k0,hw,hn2,hap,hB,List.length_map]) | (exfalso; omega)
      all_goals first | done | omega | exact again hJ (k + 1, n2, B ++ [n2]) (weak_mk (by simp only [Vt,Vu,wk1,Vv,Vw,Vx,Z0,Z1,Z2,Z3,Z4,Z5,Z6,Z7,Z8,Z9,Za,Zb,Zc,Zd,Ze,Zf,List.cons.injEq,Zg,Zh,Zi,Zj,Zk,Zl,Zm,Zn,Zo,Zp,beq_self_eq_true,bne_self_eq_false,decide_true,decide_false,Zq,Zr,Zs,Zt,Zu,Zv,Zw,Zx,Zy,Zz,Y0,Y1,Y2,Y3,Y4,Y5,Y6,Y7,Y8,Y9,Ya,Yb,Yc,Yd,Ye,Yf,Yg,Yh,Yi,Yj,Yk,Yl,Ym,Yn,Yo,Yp,Yq,lk,ef,Yr,Ys,Yt,Yu,Yv,Yw,Yx,Yy,Yz,X0,X1,X2,X3,X4,X5,X6,X7,X8,X9,Xa,Xb,Xc,Xd,Xe,Xf,Xg,Xh,Xi,Xj,Xk,Xl,Xm,Xn,Xo,Xp,Xq,Xr,Xs,hv,Xt,ev,Xu,Xv,Xw,Xx,Xy,Xz,W0,W1,W2,W3,W4,W5,W6,W7,W8,W9,Wa,Wb,Wc,Wd,We,Wf,Wg,Wh,Wi,Wj,Wk,Wl,Wm,Wn,Wo,Wp,Wq,Wr,Ws,Wt,Value.oneCell',Wu,Wv,Ww,Wx,true_and,and_true,and_self,implies_true,Wy,Wz,V0,V1,false_implies,V2,V3,V4,V5,V6,V7,V8,V9,Va,Vb,Vc,Vd,Ve,Vf,Vg,Vh,Vi,reduceCtorEq,if_true,if_false,Vj,↓reduceIte,Vk,Vl,Vm,Vn,Vo,Vp,Vq,ne_eq,not_false_eq_true,not_true_eq_false,Vr,Nat.zero_ne_one]; all_goals first | done | rfl)) ⟨by simp only; omega, by simp only [List.length_append, List.length_singleton]; omega, by rw [hg, List.append_assoc]; rfl⟩ (by simp only; omega) | trace_state
  · have hke : k = l.ents.length := by omega
    rw [hke, List.drop_length, brkGo, List.append_nil] at hg
    rw [hg]
    clear hJ
    repeat' first | ((with_reducible (first | refine condD ?_ ?_ | refine condE ?_ ?_ | refine condN ?_ ?_ | refine condI ?_ ?_ | refine condS ?_ ?_)) <;> intro h) | ((with_reducible (first | refine guardD (by with_unfolding_all rfl) ?_ ?_ | refine guardE (by with_unfolding_all rfl) ?_ ?_ | refine guardN (by with_unfolding_all rfl) ?_ ?_ | refine guardI (by with_unfolding_all rfl) ?_ ?_ | refine guardS (by with_unfolding_all rfl) ?_ ?_)) <;> intro h) | (with_reducible refine And.intro ?_ ?_; omega) | (simp only [Z0,Z1,Z2,Z3,Z4,Z5,Z6,Z7,Z8,Z9,Za,Zb,Zc,Zd,Ze,Zf,List.cons.injEq,Zg,Zh,Zi,Zj,Zk,Zl,Zm,Zn,Zo,Zp,beq_self_eq_true,bne_self_eq_false,decide_true,decide_false,Zq,Zr,Zs,Zt,Zu,Zv,Zw,Zx,Zy,Zz,Y0,Y1,Y2,Y3,Y4,Y5,Y6,Y7,Y8,Y9,Ya,Yb,Yc,Yd,Ye,Yf,Yg,Yh,Yi,Yj,Yk,Yl,Ym,Yn,Yo,Yp,Yq,lk,ef,Yr,Ys,Yt,Yu,Yv,Yw,Yx,Yy,Yz,X0,X1,X2,X3,X4,X5,X6,X7,X8,X9,Xa,Xb,Xc,Xd,Xe,Xf,Xg,Xh,Xi,Xj,Xk,Xl,Xm,Xn,Xo,Xp,Xq,Xr,Xs,hv,Xt,ev,Xu,Xv,Xw,Xx,Xy,Xz,W0,W1,W2,W3,W4,W5,W6,W7,W8,W9,Wa,Wb,Wc,Wd,We,Wf,Wg,Wh,Wi,Wj,Wk,Wl,Wm,Wn,Wo,Wp,Wq,Wr,Ws,Wt,Value.oneCell',Wu,Wv,Ww,Wx,true_and,and_true,and_self,implies_true,Wy,Wz,V0,V1,false_implies,V2,V3,V4,V5,V6,V7,V8,V9,Va,Vb,Vc,Vd,Ve,Vf,Vg,Vh,Vi,reduceCtorEq,if_true,if_false,Vj,↓reduceIte,Vk,Vl,Vm,Vn,Vo,Vp,Vq,ne_eq,not_false_eq_true,not_true_eq_false,Vr,Vs,r57_0,r57_1,r57_2,r57_3,r57_4,r57_5,r57_6,r57_7,r57_8,r57_9,r57_10,p57,l57_0]) | (exfalso; omega)
    all_goals first | done | rfl | trace_state
/-! headend/list.entryAt -/
def r82_0 : List POp := [⟨2, .boxs (.t 0), none⟩,
  ⟨4, .asg (.c (.int .i64 0)), none⟩,
  ⟨5, .asg (.c (.int .i64 0)), none⟩]
def r82_1 : List POp := [⟨8, .fld 3 (.t 2), none⟩,
  ⟨9, .load (.t 8), none⟩,
  ⟨10, .len (.t 9), none⟩,
  ⟨11, .mv (.c (.int .i64 0)), none⟩]
def r82_2 : List POp := [⟨12, .bin .lss (.t 11) (.t 10), none⟩]
def r82_3 : List POp := [⟨13, .mv (.t 11), none⟩,
  ⟨14, .idx 7 (.t 9) (.t 11), none⟩,
  ⟨15, .loads 7 (.t 14), none⟩,
  ⟨7, .alloc [.string ⟨#[]⟩, .int .i64 0, .bool false, .int .i64 0, .string ⟨#[]⟩, .bool false, .slice none 0 0], none⟩,
  ⟨6, .asg (.t 13), none⟩,
  ⟨0, .stores 7 (.t 7) (.t 15), none⟩]
def r82_4 : List POp := [⟨16, .mv (.t 1), none⟩,
  ⟨17, .fld 1 (.t 7), none⟩,
  ⟨18, .load (.t 17), none⟩,
  ⟨19, .bin .lss (.t 16) (.t 18), none⟩]
def r82_5 : List POp := [⟨20, .mv (.t 6), none⟩,
  ⟨21, .mv (.t 1), none⟩,
  ⟨4, .mv (.t 20), none⟩,
  ⟨5, .mv (.t 21), none⟩]
def r82_6 : List POp := [⟨22, .mv (.t 1), none⟩,
  ⟨23, .fld 1 (.t 7), none⟩,
  ⟨24, .load (.t 23), none⟩,
  ⟨25, .bin .sub (.t 22) (.t 24), none⟩,
  ⟨1, .asg (.t 25), none⟩]
def r82_7 : List POp := [⟨26, .bin .add (.t 11) (.c (.int .i64 1)), none⟩,
  ⟨11, .mv (.t 26), none⟩]
def r82_8 : List POp := [⟨27, .fld 3 (.t 2), none⟩,
  ⟨28, .load (.t 27), none⟩,
  ⟨29, .len (.t 28), none⟩,
  ⟨4, .asg (.t 29), none⟩,
  ⟨5, .asg (.c (.int .i64 0)), none⟩]
def l82_0 : PCode := .seq (.ops r82_2) (.seq (.cond (.t 12) (.skip) (.exit 0)) (.seq (.block 1 (.seq (.ops r82_3) (.seq (.seq (.ops r82_4) (.cond (.t 19) (.seq (.ops r82_5) (.ret)) (.skip))) (.ops r82_6)))) (.ops r82_7)))
def p82 : PCode := .seq (.ops r82_0) (.seq (.seq (.ops r82_1) (.block 0 (.loop l82_0))) (.seq (.ops r82_8) (.ret)))
theorem ok82 : okFunc Try.prog 82 [.t 4, .t 5] 2 p82 = true := by kernel_rfl
theorem entryat_c (l : PL) (hl : l.ents.length ≤ 9000000000000000000) (m : Int) : CallOK Try.prog 82 [.agg l.av, .val (.int .i64 m)] (.tup [.val (.int .i64 (entF l m).1), .val (.int .i64 (entF l m).2)]) := by
  refine call_of mixed ok82 rfl ?_
  repeat' first | ((with_reducible (first | refine condD ?_ ?_ | refine condE ?_ ?_ | refine condN ?_ ?_ | refine condI ?_ ?_ | refine condS ?_ ?_)) <;> intro h) | ((with_reducible (first | refine guardD (by with_unfolding_all rfl) ?_ ?_ | refine guardE (by with_unfolding_all rfl) ?_ ?_ | refine guardN (by with_unfolding_all rfl) ?_ ?_ | refine guardI (by with_unfolding_all rfl) ?_ ?_ | refine guardS (by with_unfolding_all rfl) ?_ ?_)) <;> intro h) | (with_reducible refine And.intro ?_ ?_; omega) | (simp only [Z0,Z1,Z2,Z3,Z4,Z5,Z6,Z7,Z8,Z9,Za,Zb,Zc,Zd,Ze,Zf,List.cons.injEq,Zg,Zh,Zi,Zj,Zk,Zl,Zm,Zn,Zo,Zp,beq_self_eq_true,bne_self_eq_false,decide_true,decide_false,Zq,Zr,Zs,Zt,Zu,Zv,Zw,Zx,Zy,Zz,Y0,Y1,Y2,Y3,Y4,Y5,Y6,Y7,Y8,Y9,Ya,Yb,Yc,Yd,Ye,Yf,Yg,Yh,Yi,Yj,Yk,Yl,Ym,Yn,Yo,Yp,Yq,lk,ef,Yr,Ys,Yt,Yu,Yv,Yw,Yx,Yy,Yz,X0,X1,X2,X3,X4,X5,X6,X7,X8,X9,Xa,Xb,Xc,Xd,Xe,Xf,Xg,Xh,Xi,Xj,Xk,Xl,Xm,Xn,Xo,Xp,Xq,Xr,Xs,hv,Xt,ev,Xu,Xv,Xw,Xx,Xy,Xz,W0,W1,W2,W3,W4,W5,W6,W7,W8,W9,Wa,Wb,Wc,Wd,We,Wf,Wg,Wh,Wi,Wj,Wk,Wl,Wm,Wn,Wo,Wp,Wq,Wr,Ws,Wt,Value.oneCell',Wu,Wv,Ww,Wx,true_and,and_true,and_self,implies_true,Wy,Wz,V0,V1,false_implies,V2,V3,V4,V5,V6,V7,V8,V9,Va,Vb,Vc,Vd,Ve,Vf,Vg,Vh,Vi,reduceCtorEq,if_true,if_false,Vj,↓reduceIte,Vk,Vl,Vm,Vn,Vo,Vp,Vq,ne_eq,not_false_eq_true,not_true_eq_false,Vr,Vs,r82_0,r82_1,r82_2,r82_3,r82_4,r82_5,r82_6,r82_7,r82_8,p82,PL.av,List.length_map]) | (exfalso; omega)
  refine loopS (fun p : Nat × Int => mk [(1, .val (.int .i64 p.2)), (2, .box [.val (.int .i64 l.target), .val (.int .i64 l.first), .val (.int .i64 l.breaks), .ro (l.ents.map LE.av), .val (.bool l.ended)]), (9, .ro (l.ents.map LE.av)), (10, .val (.int .i64 l.ents.length)), (11, .val (.int .i64 p.1))]) (fun p => p.1 ≤ l.ents.length ∧ entF l m = entGo p.1 p.2 (l.ents.drop p.1)) (fun p => l.ents.length - p.1) (0, m) (weak_mk ?_) ⟨Nat.zero_le _, rfl⟩ ?_
  · simp only [Vt,Vu,wk1,Vv,Vw,Vx,Z0,Z1,Z2,Z3,Z4,Z5,Z6,Z7,Z8,Z9,Za,Zb,Zc,Zd,Ze,Zf,List.cons.injEq,Zg,Zh,Zi,Zj,Zk,Zl,Zm,Zn,Zo,Zp,beq_self_eq_true,bne_self_eq_false,decide_true,decide_false,Zq,Zr,Zs,Zt,Zu,Zv,Zw,Zx,Zy,Zz,Y0,Y1,Y2,Y3,Y4,Y5,Y6,Y7,Y8,Y9,Ya,Yb,Yc,Yd,Ye,Yf,Yg,Yh,Yi,Yj,Yk,Yl,Ym,Yn,Yo,Yp,Yq,lk,ef,Yr,Ys,Yt,Yu,Yv,Yw,Yx,Yy,Yz,X0,X1,X2,X3,X4,X5,X6,X7,X8,X9,Xa,Xb,Xc,Xd,Xe,Xf,Xg,Xh,Xi,Xj,Xk,Xl,Xm,Xn,Xo,Xp,Xq,Xr,Xs,hv,Xt,ev,Xu,Xv,Xw,Xx,Xy,Xz,W0,W1,W2,W3,W4,W5,W6,W7,W8,W9,Wa,Wb,Wc,Wd,We,Wf,Wg,Wh,Wi,Wj,Wk,Wl,Wm,Wn,Wo,Wp,Wq,Wr,Ws,Wt,Value.oneCell',Wu,Wv,Ww,Wx,true_and,and_true,and_self,implies_true,Wy,Wz,V0,V1,false_implies,V2,V3,V4,V5,V6,V7,V8,V9,Va,Vb,Vc,Vd,Ve,Vf,Vg,Vh,Vi,reduceCtorEq,if_true,if_false,Vj,↓reduceIte,Vk,Vl,Vm,Vn,Vo,Vp,Vq,ne_eq,not_false_eq_true,not_true_eq_false,Vr,Nat.zero_ne_one]
    all_goals first | done | rfl | simp
  rintro J hJ ⟨k, n⟩ ⟨hk, hg⟩
  simp only at hk hg
  simp only [Z0,Z1,Z2,Z3,Z4,Z5,Z6,Z7,Z8,Z9,Za,Zb,Zc,Zd,Ze,Zf,List.cons.injEq,Zg,Zh,Zi,Zj,Zk,Zl,Zm,Zn,Zo,Zp,beq_self_eq_true,bne_self_eq_false,decide_true,decide_false,Zq,Zr,Zs,Zt,Zu,Zv,Zw,Zx,Zy,Zz,Y0,Y1,Y2,Y3,Y4,Y5,Y6,Y7,Y8,Y9,Ya,Yb,Yc,Yd,Ye,Yf,Yg,Yh,Yi,Yj,Yk,Yl,Ym,Yn,Yo,Yp,Yq,lk,ef,Yr,Ys,Yt,Yu,Yv,Yw,Yx,Yy,Yz,X0,X1,X2,X3,X4,X5,X6,X7,X8,X9,Xa,Xb,Xc,Xd,Xe,Xf,Xg,Xh,Xi,Xj,Xk,Xl,Xm,Xn,Xo,Xp,Xq,Xr,Xs,hv,Xt,ev,Xu,Xv,Xw,Xx,Xy,Xz,W0,W1,W2,W3,W4,W5,W6,W7,W8,W9,Wa,Wb,Wc,Wd,We,Wf,Wg,Wh,Wi,Wj,Wk,Wl,Wm,Wn,Wo,Wp,Wq,Wr,Ws,Wt,Value.oneCell',Wu,Wv,Ww,Wx,true_and,and_true,and_self,implies_true,Wy,Wz,V0,V1,false_implies,V2,V3,V4,V5,V6,V7,V8,V9,Va,Vb,Vc,Vd,Ve,Vf,Vg,Vh,Vi,reduceCtorEq,if_true,if_false,Vj,↓reduceIte,Vk,Vl,Vm,Vn,Vo,Vp,Vq,ne_eq,not_false_eq_true,not_true_eq_false,Vr,Vs,r82_0,r82_1,r82_2,r82_3,r82_4,r82_5,r82_6,r82_7,r82_8,p82,l82_0]
  refine condD (fun h => ?_) (fun h => ?_)
  · have hlt : k < l.ents.length := by omega
    have hw := i_add1 k (by omega)
    have gK := getD_map (f := LE.av) (d := []) hlt
    have hki : (k : Int) < l.ents.length := by omega
    have k0 : (0 : Int) ≤ (k : Int) := by omega
    rw [List.drop_eq_getElem_cons hlt, entGo] at hg
    simp only [LE.av] at gK
    generalize l.ents[k] = e at *
    by_cases q : n < e.milli
    · rw [if_pos q] at hg
      rw [hg]
      repeat' first | ((with_reducible (first | refine condD ?_ ?_ | refine condE ?_ ?_ | refine condN ?_ ?_ | refine condI ?_ ?_ | refine condS ?_ ?_)) <;> intro h) | ((with_reducible (first | refine guardD (by with_unfolding_all rfl) ?_ ?_ | refine guardE (by with_unfolding_all rfl) ?_ ?_ | refine guardN (by with_unfolding_all rfl) ?_ ?_ | refine guardI (by with_unfolding_all rfl) ?_ ?_ | refine guardS (by with_unfolding_all rfl) ?_ ?_)) <;> intro h) | (with_reducible refine And.intro ?_ ?_; omega) | (simp only [Z0,Z1,Z2,Z3,Z4,Z5,Z6,Z7,Z8,Z9,Za,Zb,Zc,Zd,Ze,Zf,List.cons.injEq,Zg,Zh,Zi,Zj,Zk,Zl,Zm,Zn,Zo,Zp,beq_self_eq_true,bne_self_eq_false,decide_true,decide_false,Zq,Zr,Zs,Zt,Zu,Zv,Zw,Zx,Zy,Zz,Y0,Y1,Y2,Y3,Y4,Y5,Y6,Y7,Y8,Y9,Ya,Yb,Yc,Yd,Ye,Yf,Yg,Yh,Yi,Yj,Yk,Yl,Ym,Yn,Yo,Yp,Yq,lk,ef,Yr,Ys,Yt,Yu,Yv,Yw,Yx,Yy,Yz,X0,X1,X2,X3,X4,X5,X6,X7,X8,X9,Xa,Xb,Xc,Xd,Xe,Xf,Xg,Xh,Xi,Xj,Xk,Xl,Xm,Xn,Xo,Xp,Xq,Xr,Xs,hv,Xt,ev,Xu,Xv,Xw,Xx,Xy,Xz,W0,W1,W2,W3,W4,W5,W6,W7,W8,W9,Wa,Wb,Wc,Wd,We,Wf,Wg,Wh,Wi,Wj,Wk,Wl,Wm,Wn,Wo,Wp,Wq,Wr,Ws,Wt,Value.oneCell',Wu,Wv,Ww,Wx,true_and,and_true,and_self,implies_true,Wy,Wz,V0,V1,false_implies,V2,V3,V4,V5,V6,V7,V8,V9,Va,Vb,Vc,Vd,Ve,Vf,Vg,Vh,Vi,reduceCtorEq,if_true,if_false,Vj,↓reduceIte,Vk,Vl,Vm,Vn,Vo,Vp,Vq,ne_eq,not_false_eq_true,not_true_eq_false,Vr,Vs,r82_0,r82_1,r82_2,r82_3,r82_4,r82_5,r82_6,r82_7,r82_8,p82,l82_0,gK,hki,k0,hw,q]) | (exfalso; omega)
      all_goals first | done | omega | trace_state
    · rw [if_neg q] at hg
      repeat' first | ((with_reducible (first | refine condD ?_ ?_ | refine condE ?_ ?_ | refine condN ?_ ?_ | refine condI ?_ ?_ | refine condS ?_ ?_)) <;> intro h) | ((with_reducible (first | refine guardD (by with_unfolding_all rfl) ?_ ?_ | refine guardE (by with_unfolding_all rfl) ?_ ?_ | refine guardN (by with_unfolding_all rfl) ?_ ?_ | refine guardI (by with_unfolding_all rfl) ?_ ?_ | refine guardS (by with_unfolding_all rfl) ?_ ?_)) <;> intro h) | (with_reducible refine And.intro ?_ ?_; omega) | (simp only [Z0,Z1,Z2,Z3,Z4,Z5,Z6,Z7,Z8,Z9,Za,Zb,Zc,Zd,Ze,Zf,List.cons.injEq,Zg,Zh,Zi,Zj,Zk,Zl,Zm,Zn,Zo,Zp,beq_self_eq_true,bne_self_eq_false,decide_true,decide_false,Zq,Zr,Zs,Zt,Zu,Zv,Zw,Zx,Zy,Zz,Y0,Y1,Y2,Y3,Y4,Y5,Y6,Y7,Y8,Y9,Ya,Yb,Yc,Yd,Ye,Yf,Yg,Yh,Yi,Yj,Yk,Yl,Ym,Yn,Yo,Yp,Yq,lk,ef,Yr,Ys,Yt,Yu,Yv,Yw,Yx,Yy,Yz,X0,X1,X2,X3,X4,X5,X6,X7,X8,X9,Xa,Xb,Xc,Xd,Xe,Xf,Xg,Xh,Xi,Xj,Xk,Xl,Xm,Xn,Xo,Xp,Xq,Xr,Xs,hv,Xt,ev,Xu,Xv,Xw,Xx,Xy,Xz,W0,W1,W2,W3,W4,W5,W6,W7,W8,W9,Wa,Wb,Wc,Wd,We,Wf,Wg,Wh,Wi,Wj,Wk,Wl,Wm,Wn,Wo,Wp,Wq,Wr,Ws,Wt,Value.oneCell',Wu,Wv,Ww,Wx,true_and,and_true,and_self,implies_true,Wy,Wz,V0,V1,false_implies,V2,V3,V4,V5,V6,V7,V8,V9,Va,Vb,Vc,Vd,Ve,Vf,Vg,Vh,Vi,reduceCtorEq,if_true,if_false,Vj,↓reduceIte,Vk,Vl,Vm,Vn,Vo,Vp,Vq,ne_eq,not_false_eq_true,not_true_eq_false,Vr,Vs,r82_0,r82_1,r82_2,r82_3,r82_4,r82_5,r82_6,r82_7,r82_8,p82,l82_0,gK,hki,k0,hw,q]) | (exfalso; omega)
      all_goals first | done | omega | exact again hJ (k + 1, IntKind.i64.wrap (n - e.milli)) (weak_mk (by simp only [Vt,Vu,wk1,Vv,Vw,Vx,Z0,Z1,Z2,Z3,Z4,Z5,Z6,Z7,Z8,Z9,Za,Zb,Zc,Zd,Ze,Zf,List.cons.injEq,Zg,Zh,Zi,Zj,Zk,Zl,Zm,Zn,Zo,Zp,beq_self_eq_true,bne_self_eq_false,decide_true,decide_false,Zq,Zr,Zs,Zt,Zu,Zv,Zw,Zx,Zy,Zz,Y0,Y1,Y2,Y3,Y4,Y5,Y6,Y7,Y8,Y9,Ya,Yb,Yc,Yd,Ye,Yf,Yg,Yh,Yi,Yj,Yk,Yl,Ym,Yn,Yo,Yp,Yq,lk,ef,Yr,Ys,Yt,Yu,Yv,Yw,Yx,Yy,Yz,X0,X1,X2,X3,X4,X5,X6,X7,X8,X9,Xa,Xb,Xc,Xd,Xe,Xf,Xg,Xh,Xi,Xj,Xk,Xl,Xm,Xn,Xo,Xp,Xq,Xr,Xs,hv,Xt,ev,Xu,Xv,Xw,Xx,Xy,Xz,W0,W1,W2,W3,W4,W5,W6,W7,W8,W9,Wa,Wb,Wc,Wd,We,Wf,Wg,Wh,Wi,Wj,Wk,Wl,Wm,Wn,Wo,Wp,Wq,Wr,Ws,Wt,Value.oneCell',Wu,Wv,Ww,Wx,true_and,and_true,and_self,implies_true,Wy,Wz,V0,V1,false_implies,V2,V3,V4,V5,V6,V7,V8,V9,Va,Vb,Vc,Vd,Ve,Vf,Vg,Vh,Vi,reduceCtorEq,if_true,if_false,Vj,↓reduceIte,Vk,Vl,Vm,Vn,Vo,Vp,Vq,ne_eq,not_false_eq_true,not_true_eq_false,Vr,Nat.zero_ne_one]; all_goals first | done | rfl)) ⟨by simp only; omega, hg⟩ (by simp only; omega) | trace_state
  · have hke : k = l.ents.length := by omega
    rw [hke, List.drop_length, entGo] at hg
    rw [hg]
    clear hJ
    repeat' first | ((with_reducible (first | refine condD ?_ ?_ | refine condE ?_ ?_ | refine condN ?_ ?_ | refine condI ?_ ?_ | refine condS ?_ ?_)) <;> intro h) | ((with_reducible (first | refine guardD (by with_unfolding_all rfl) ?_ ?_ | refine guardE (by with_unfolding_all rfl) ?_ ?_ | refine guardN (by with_unfolding_all rfl) ?_ ?_ | refine guardI (by with_unfolding_all rfl) ?_ ?_ | refine guardS (by with_unfolding_all rfl) ?_ ?_)) <;> intro h) | (with_reducible refine And.intro ?_ ?_; omega) | (simp only [Z0,Z1,Z2,Z3,Z4,Z5,Z6,Z7,Z8,Z9,Za,Zb,Zc,Zd,Ze,Zf,List.cons.injEq,Zg,Zh,Zi,Zj,Zk,Zl,Zm,Zn,Zo,Zp,beq_self_eq_true,bne_self_eq_false,decide_true,decide_false,Zq,Zr,Zs,Zt,Zu,Zv,Zw,Zx,Zy,Zz,Y0,Y1,Y2,Y3,Y4,Y5,Y6,Y7,Y8,Y9,Ya,Yb,Yc,Yd,Ye,Yf,Yg,Yh,Yi,Yj,Yk,Yl,Ym,Yn,Yo,Yp,Yq,lk,ef,Yr,Ys,Yt,Yu,Yv,Yw,Yx,Yy,Yz,X0,X1,X2,X3,X4,X5,X6,X7,X8,X9,Xa,Xb,Xc,Xd,Xe,Xf,Xg,Xh,Xi,Xj,Xk,Xl,Xm,Xn,Xo,Xp,Xq,Xr,Xs,hv,Xt,ev,Xu,Xv,Xw,Xx,Xy,Xz,W0,W1,W2,W3,W4,W5,W6,W7,W8,W9,Wa,Wb,Wc,Wd,We,Wf,Wg,Wh,Wi,Wj,Wk,Wl,Wm,Wn,Wo,Wp,Wq,Wr,Ws,Wt,Value.oneCell',Wu,Wv,Ww,Wx,true_and,and_true,and_self,implies_true,Wy,Wz,V0,V1,false_implies,V2,V3,V4,V5,V6,V7,V8,V9,Va,Vb,Vc,Vd,Ve,Vf,Vg,Vh,Vi,reduceCtorEq,if_true,if_false,Vj,↓reduceIte,Vk,Vl,Vm,Vn,Vo,Vp,Vq,ne_eq,not_false_eq_true,not_true_eq_false,Vr,Vs,r82_0,r82_1,r82_2,r82_3,r82_4,r82_5,r82_6,r82_7,r82_8,p82,l82_0,List.length_map]) | (exfalso; omega)
    all_goals first | done | rfl | trace_state
end Go.Proofs.Ytpecmhdepggnoaa
