/- Live lists: slices.EqualFunc of entries, sameList, by the machine on data. -/
import Derived.Test.YtpecmhdepggnoaaKLvE
namespace Go.Proofs.Ytpecmhdepggnoaa
open Go.RowKit
open Go.Proofs.Ytpecmhdepggnoaa renaming done_eq → Z0, done_eq' → Z1, donet_eq → Z2, donet_eq' → Z3, fin_val → Z4, fin_tup → Z5, fin_agg → Z6, fin_ro → Z7, res_one → Z8, res_more → Z9, rv_t → Za, rv_c → Zb, rv_l → Zc, int_eq → Zg, bool_eq → Zh, toNat_pred → Zr, toNat_succ → Zs, cnd_t → Zu, cnd_f → Zv, grd_tt → Zw, grd_u → Zx, grd_tf → Zy, grd_ft → Zz, grd_ff → Y0, g_skip → Y1, g_ops → Y2, g_seq → Y3, g_block → Y4, g_exit → Y5, g_ret → Y6, g_nil → Y7, r_all → Y8, o_nil → Y9, g_cond → Ya, o_guard → Yb, o_call → Yc, o_callm → Yd, o_callt → Ye, o_callx → Yf, o_callv → Yg, o_callc → Yh, o_callh → Yi, o_apph → Yj, noav_alias → Yk, noav_nil → Yl, o_mv → Ym, o_pick → Yn, o_bin → Yo, o_never → Yp, o_eqs → Yq, o_eqb → Yr, o_un → Ys, o_conv → Yt, o_load → Yu, o_loadr → Yv, o_idxr → Yw, o_loads → Yx, o_loadsr → Yy, o_fld → Yz, o_idx → X0, o_idxs → X1, o_len → X2, o_lens → X3, o_ext → X4, o_nilck → X5, o_slc → X6, o_slcs → X7, o_build → X8, o_minmax → X9, o_mkfn → Xa, o_mkfnr → Xb, o_alloc → Xc, o_box → Xd, o_boxs → Xe, o_row → Xf, o_rowr → Xg, o_mk → Xh, o_asg → Xi, o_app → Xj, o_appa → Xk, o_store → Xl, o_stores → Xm, o_eqnil → Xn, eqAV → Xo, view_t → Xp, view_c → Xq, view_nil → Xr, view_fn → Xs, look_own → Xt, look_box → Xu, look_junk → Xv, look_val → Xw, look_nilsl → Xx, look_ro → Xy, look_roAt → Xz, look_agg → W0, look_tup → W1, look_clo → W2, look_alias → W3, look_ref → W4, look_into → W5, look_fnv → W6, look_held → W7, rowOf → W8, cellsOf → W9, argv → Wa, vbin → Wb, elemOf → Wc, putParts → Wd, setAt → We, put_at → Wm, mk_at → Wn, mk_nil → Wo, initSt → Wp
open Go.Proofs.Ytpecmhdepggnoaa.AV.tup renaming injEq → Zd
open Go.Proofs.Ytpecmhdepggnoaa.AV.agg renaming injEq → Ze
open Go.Proofs.Ytpecmhdepggnoaa.AV.ro renaming injEq → Zf
open _root_.Int renaming toNat_natCast → Zi, reduceToNat → Zj, toNat_zero → Zk, toNat_one → Zl, reduceLE → Zm, reduceLT → Zn, reduceBEq → Zo, reduceBNe → Zp, reduceNeg → Zq
open _root_.List renaming length_map → Zt, map_cons → Wq, map_nil → Wr, forall_mem_cons → Ws, not_mem_nil → Wt, length_cons → Wu, length_nil → Wv, getD_cons_zero → Ww, getD_cons_succ → Wx, getD_nil → Wy, drop_succ_cons → Wz, drop_zero → V0, take_succ_cons → V1, take_zero → V2, set_cons_zero → V3, set_cons_succ → V4, all_cons → V5, all_nil → V6
open Go.Proofs.Ytpecmhdepggnoaa.ASt renaming rid → Wf, hold → Wg, free → Wh
open Go.Proofs.Ytpecmhdepggnoaa.AV renaming kill → Wi, isHome → Wj, noLoan → Wk, cellOK → Wl
open _root_.Bool renaming and_true → V7, true_and → V8, not_true → V9, not_false → Va, false_eq_true → Vb
open _root_.Nat renaming reduceEqDiff → Vc, reduceBNe → Vd, reduceAdd → Ve, reduceSub → Vf, reduceMul → Vg, reduceLeDiff → Vh, reduceLT → Vi, one_ne_zero → Vj, zero_ne_one → Vk
open Go.Proofs.Ytpecmhdepggnoaa.AV.val renaming injEq → Vl
set_option linter.unusedSimpArgs false
--@short

def eqEL : List LE → List LE → Bool
  | [], [] => true
  | x :: r, y :: s => sameE x y && eqEL r s
  | [], _ :: _ => false
  | _ :: _, [] => false
theorem eqEL_len : ∀ {a b : List LE}, a.length ≠ b.length → eqEL a b = false
  | [], [], h => absurd rfl h
  | [], _ :: _, _ => rfl
  | _ :: _, [], _ => rfl
  | x :: r, y :: s, h => by
    rw [eqEL, eqEL_len (a := r) (b := s) (fun e => h (by rw [List.length_cons, List.length_cons, e])), Bool.and_false]
def sameL (a b : PL) : Bool := decide (a.target = b.target) && decide (a.first = b.first) && decide (a.breaks = b.breaks) && (a.ended == b.ended) && eqEL a.ents b.ents
/-! slices.EqualFunc[[]headend/api.Entry,[]headend/api.Entry,headend/api.Entry,headend/api.Entry] -/
def r81_0 : List POp := [⟨6, .asg (.c (.bool false)), none⟩]
def r81_1 : List POp := [⟨10, .mv (.t 0), none⟩,
  ⟨11, .len (.t 10), none⟩,
  ⟨12, .mv (.t 1), none⟩,
  ⟨13, .len (.t 12), none⟩,
  ⟨14, .bin .neq (.t 11) (.t 13), none⟩]
def r81_2 : List POp := [⟨6, .asg (.c (.bool false)), none⟩]
def r81_3 : List POp := [⟨15, .mv (.t 0), none⟩,
  ⟨16, .len (.t 15), none⟩,
  ⟨17, .mv (.c (.int .i64 0)), none⟩]
def r81_4 : List POp := [⟨18, .bin .lss (.t 17) (.t 16), none⟩]
def r81_5 : List POp := [⟨19, .mv (.t 17), none⟩,
  ⟨20, .idx 7 (.t 15) (.t 17), none⟩,
  ⟨21, .loads 7 (.t 20), none⟩,
  ⟨8, .alloc [.string ⟨#[]⟩, .int .i64 0, .bool false, .int .i64 0, .string ⟨#[]⟩, .bool false, .slice none 0 0], none⟩,
  ⟨7, .asg (.t 19), none⟩,
  ⟨0, .stores 7 (.t 8) (.t 21), none⟩]
def r81_6 : List POp := [⟨22, .mv (.t 1), none⟩,
  ⟨23, .mv (.t 7), none⟩,
  ⟨24, .idx 7 (.t 22) (.t 23), none⟩,
  ⟨25, .loads 7 (.t 24), none⟩,
  ⟨9, .alloc [.string ⟨#[]⟩, .int .i64 0, .bool false, .int .i64 0, .string ⟨#[]⟩, .bool false, .slice none 0 0], none⟩,
  ⟨0, .stores 7 (.t 9) (.t 25), none⟩]
def r81_7 : List POp := [⟨26, .mv (.t 2), none⟩,
  ⟨27, .loads 7 (.t 8), none⟩,
  ⟨28, .loads 7 (.t 9), none⟩,
  ⟨29, .callv (.t 26) [.t 27, .t 28], none⟩,
  ⟨30, .un .not (.t 29), none⟩]
def r81_8 : List POp := [⟨6, .asg (.c (.bool false)), none⟩]
def r81_9 : List POp := [⟨31, .bin .add (.t 17) (.c (.int .i64 1)), none⟩,
  ⟨17, .mv (.t 31), none⟩]
def r81_10 : List POp := [⟨6, .asg (.c (.bool true)), none⟩]
def l81_0 : PCode := .seq (.ops r81_4) (.seq (.cond (.t 18) (.skip) (.exit 0)) (.seq (.block 1 (.seq (.ops r81_5) (.seq (.ops r81_6) (.seq (.ops r81_7) (.cond (.t 30) (.seq (.ops r81_8) (.ret)) (.skip)))))) (.ops r81_9)))
def p81 : PCode := .seq (.ops r81_0) (.seq (.seq (.ops r81_1) (.cond (.t 14) (.seq (.ops r81_2) (.ret)) (.skip))) (.seq (.seq (.ops r81_3) (.block 0 (.loop l81_0))) (.seq (.ops r81_10) (.ret))))
theorem ok81 : okFunc Try.prog 81 [.t 6] 3 p81 = true := by kernel_rfl
theorem eqel_c (a b : List LE) (ha : a.length ≤ 9000000000000000000) (he : ∀ e ∈ a, e.ok) : CallOK Try.prog 81 [.ro (a.map LE.av), .ro (b.map LE.av), .val (.func (.func 58) #[] #[])] (.val (.bool (eqEL a b))) := by
  refine call_of mixed ok81 rfl ?_
  by_cases hl : a.length = b.length
  case neg =>
    rw [eqEL_len hl]
    have hl' : ((a.length : Int) == (b.length : Int)) = false := by rw [beq_eq_false_iff_ne]; omega
    have hl'' : ((a.length : Int) != (b.length : Int)) = true := by rw [bne, hl']; rfl
    repeat' first | ((with_reducible (first | refine condD ?_ ?_ | refine condE ?_ ?_ | refine condN ?_ ?_ | refine condI ?_ ?_ | refine condS ?_ ?_)) <;> intro h) | ((with_reducible (first | refine guardD (by with_unfolding_all rfl) ?_ ?_ | refine guardE (by with_unfolding_all rfl) ?_ ?_ | refine guardN (by with_unfolding_all rfl) ?_ ?_ | refine guardI (by with_unfolding_all rfl) ?_ ?_ | refine guardS (by with_unfolding_all rfl) ?_ ?_)) <;> intro h) | (with_reducible refine And.intro ?_ ?_; omega) | (simp only [Z0,Z1,Z2,Z3,Z4,Z5,Z6,Z7,Z8,Z9,Za,Zb,Zc,Zd,Ze,Zf,List.cons.injEq,Zg,Zh,Zi,Zj,Zk,Zl,Zm,Zn,Zo,Zp,beq_self_eq_true,bne_self_eq_false,decide_true,decide_false,Zq,Zr,Zs,Zt,Zu,Zv,Zw,Zx,Zy,Zz,Y0,Y1,Y2,Y3,Y4,Y5,Y6,x_c,x_o,x_l,x_b,g_b,Y7,Y8,Y9,Ya,Yb,Yc,Yd,Ye,Yf,Yg,Yh,Yi,Yj,Yk,Yl,lk,ef,Ym,Yn,Yo,Yp,Yq,Yr,Ys,Yt,Yu,Yv,Yw,Yx,Yy,Yz,X0,X1,X2,X3,X4,X5,X6,X7,X8,X9,Xa,Xb,Xc,Xd,Xe,Xf,Xg,Xh,Xi,Xj,Xk,Xl,Xm,Xn,hv,Xo,ev,Xp,Xq,Xr,Xs,Xt,Xu,Xv,Xw,Xx,Xy,Xz,W0,W1,W2,W3,W4,W5,W6,W7,W8,W9,Wa,Wb,vun,bnd,Wc,Wd,We,zav,Wf,Wg,Wh,Wi,Wj,Wk,Wl,Value.oneCell',Wm,Wn,Wo,Wp,true_and,and_true,and_self,implies_true,Wq,Wr,Ws,Wt,false_implies,Wu,Wv,Ww,Wx,Wy,Wz,V0,V1,V2,V3,V4,V5,V6,V7,V8,V9,Va,reduceCtorEq,if_true,if_false,Vb,↓reduceIte,Vc,Vd,Ve,Vf,Vg,Vh,Vi,ne_eq,not_false_eq_true,not_true_eq_false,Vj,Vk,r81_0,r81_1,r81_2,r81_3,r81_4,r81_5,r81_6,r81_7,r81_8,r81_9,r81_10,p81,Zt,hl'']) | (exfalso; omega)
    all_goals first | done | trace_state
  repeat' first | ((with_reducible (first | refine condD ?_ ?_ | refine condE ?_ ?_ | refine condN ?_ ?_ | refine condI ?_ ?_ | refine condS ?_ ?_)) <;> intro h) | ((with_reducible (first | refine guardD (by with_unfolding_all rfl) ?_ ?_ | refine guardE (by with_unfolding_all rfl) ?_ ?_ | refine guardN (by with_unfolding_all rfl) ?_ ?_ | refine guardI (by with_unfolding_all rfl) ?_ ?_ | refine guardS (by with_unfolding_all rfl) ?_ ?_)) <;> intro h) | (with_reducible refine And.intro ?_ ?_; omega) | (simp only [Z0,Z1,Z2,Z3,Z4,Z5,Z6,Z7,Z8,Z9,Za,Zb,Zc,Zd,Ze,Zf,List.cons.injEq,Zg,Zh,Zi,Zj,Zk,Zl,Zm,Zn,Zo,Zp,beq_self_eq_true,bne_self_eq_false,decide_true,decide_false,Zq,Zr,Zs,Zt,Zu,Zv,Zw,Zx,Zy,Zz,Y0,Y1,Y2,Y3,Y4,Y5,Y6,x_c,x_o,x_l,x_b,g_b,Y7,Y8,Y9,Ya,Yb,Yc,Yd,Ye,Yf,Yg,Yh,Yi,Yj,Yk,Yl,lk,ef,Ym,Yn,Yo,Yp,Yq,Yr,Ys,Yt,Yu,Yv,Yw,Yx,Yy,Yz,X0,X1,X2,X3,X4,X5,X6,X7,X8,X9,Xa,Xb,Xc,Xd,Xe,Xf,Xg,Xh,Xi,Xj,Xk,Xl,Xm,Xn,hv,Xo,ev,Xp,Xq,Xr,Xs,Xt,Xu,Xv,Xw,Xx,Xy,Xz,W0,W1,W2,W3,W4,W5,W6,W7,W8,W9,Wa,Wb,vun,bnd,Wc,Wd,We,zav,Wf,Wg,Wh,Wi,Wj,Wk,Wl,Value.oneCell',Wm,Wn,Wo,Wp,true_and,and_true,and_self,implies_true,Wq,Wr,Ws,Wt,false_implies,Wu,Wv,Ww,Wx,Wy,Wz,V0,V1,V2,V3,V4,V5,V6,V7,V8,V9,Va,reduceCtorEq,if_true,if_false,Vb,↓reduceIte,Vc,Vd,Ve,Vf,Vg,Vh,Vi,ne_eq,not_false_eq_true,not_true_eq_false,Vj,Vk,r81_0,r81_1,r81_2,r81_3,r81_4,r81_5,r81_6,r81_7,r81_8,r81_9,r81_10,p81,Zt,hl]) | (exfalso; omega)
  refine loopS (fun k : Nat => mk [(1, .ro (b.map LE.av)), (2, .val (.func (.func 58) #[] #[])), (15, .ro (a.map LE.av)), (16, .val (.int .i64 b.length)), (17, .val (.int .i64 k))]) (fun k => k ≤ b.length ∧ eqEL a b = eqEL (a.drop k) (b.drop k)) (fun k => b.length - k) 0 (weak_mk ?_) ⟨Nat.zero_le _, rfl⟩ ?_
  · simp only [wk_cons,wk_nil,wk1,vint_eq,vbool_eq,Vl,Z0,Z1,Z2,Z3,Z4,Z5,Z6,Z7,Z8,Z9,Za,Zb,Zc,Zd,Ze,Zf,List.cons.injEq,Zg,Zh,Zi,Zj,Zk,Zl,Zm,Zn,Zo,Zp,beq_self_eq_true,bne_self_eq_false,decide_true,decide_false,Zq,Zr,Zs,Zt,Zu,Zv,Zw,Zx,Zy,Zz,Y0,Y1,Y2,Y3,Y4,Y5,Y6,x_c,x_o,x_l,x_b,g_b,Y7,Y8,Y9,Ya,Yb,Yc,Yd,Ye,Yf,Yg,Yh,Yi,Yj,Yk,Yl,lk,ef,Ym,Yn,Yo,Yp,Yq,Yr,Ys,Yt,Yu,Yv,Yw,Yx,Yy,Yz,X0,X1,X2,X3,X4,X5,X6,X7,X8,X9,Xa,Xb,Xc,Xd,Xe,Xf,Xg,Xh,Xi,Xj,Xk,Xl,Xm,Xn,hv,Xo,ev,Xp,Xq,Xr,Xs,Xt,Xu,Xv,Xw,Xx,Xy,Xz,W0,W1,W2,W3,W4,W5,W6,W7,W8,W9,Wa,Wb,vun,bnd,Wc,Wd,We,zav,Wf,Wg,Wh,Wi,Wj,Wk,Wl,Value.oneCell',Wm,Wn,Wo,Wp,true_and,and_true,and_self,implies_true,Wq,Wr,Ws,Wt,false_implies,Wu,Wv,Ww,Wx,Wy,Wz,V0,V1,V2,V3,V4,V5,V6,V7,V8,V9,Va,reduceCtorEq,if_true,if_false,Vb,↓reduceIte,Vc,Vd,Ve,Vf,Vg,Vh,Vi,ne_eq,not_false_eq_true,not_true_eq_false,Vj,Nat.zero_ne_one]
    all_goals first | done | rfl | simp
  rintro J hJ k ⟨hk, hg⟩
  simp only [Z0,Z1,Z2,Z3,Z4,Z5,Z6,Z7,Z8,Z9,Za,Zb,Zc,Zd,Ze,Zf,List.cons.injEq,Zg,Zh,Zi,Zj,Zk,Zl,Zm,Zn,Zo,Zp,beq_self_eq_true,bne_self_eq_false,decide_true,decide_false,Zq,Zr,Zs,Zt,Zu,Zv,Zw,Zx,Zy,Zz,Y0,Y1,Y2,Y3,Y4,Y5,Y6,x_c,x_o,x_l,x_b,g_b,Y7,Y8,Y9,Ya,Yb,Yc,Yd,Ye,Yf,Yg,Yh,Yi,Yj,Yk,Yl,lk,ef,Ym,Yn,Yo,Yp,Yq,Yr,Ys,Yt,Yu,Yv,Yw,Yx,Yy,Yz,X0,X1,X2,X3,X4,X5,X6,X7,X8,X9,Xa,Xb,Xc,Xd,Xe,Xf,Xg,Xh,Xi,Xj,Xk,Xl,Xm,Xn,hv,Xo,ev,Xp,Xq,Xr,Xs,Xt,Xu,Xv,Xw,Xx,Xy,Xz,W0,W1,W2,W3,W4,W5,W6,W7,W8,W9,Wa,Wb,vun,bnd,Wc,Wd,We,zav,Wf,Wg,Wh,Wi,Wj,Wk,Wl,Value.oneCell',Wm,Wn,Wo,Wp,true_and,and_true,and_self,implies_true,Wq,Wr,Ws,Wt,false_implies,Wu,Wv,Ww,Wx,Wy,Wz,V0,V1,V2,V3,V4,V5,V6,V7,V8,V9,Va,reduceCtorEq,if_true,if_false,Vb,↓reduceIte,Vc,Vd,Ve,Vf,Vg,Vh,Vi,ne_eq,not_false_eq_true,not_true_eq_false,Vj,Vk,r81_0,r81_1,r81_2,r81_3,r81_4,r81_5,r81_6,r81_7,r81_8,r81_9,r81_10,p81,l81_0]
  refine condD (fun h => ?_) (fun h => ?_)
  · have hlt : k < b.length := by omega
    have hla : k < a.length := by omega
    have hw := i_add1 k (by omega)
    have gA := getD_map (f := LE.av) (d := []) hla
    have gB := getD_map (f := LE.av) (d := []) hlt
    have hki : (k : Int) < b.length := by omega
    have k0 : (0 : Int) ≤ (k : Int) := by omega
    have p1 := samee_c a[k] b[k] (he _ (List.getElem_mem hla))
    rw [List.drop_eq_getElem_cons hlt, List.drop_eq_getElem_cons hla, eqEL] at hg
    generalize a[k] = x at *
    generalize b[k] = y at *
    simp only [LE.av] at gA gB p1
    cases q : sameE x y
    · rw [q, Bool.false_and] at hg
      rw [hg]
      rw [q] at p1
      repeat' first | ((with_reducible (first | refine condD ?_ ?_ | refine condE ?_ ?_ | refine condN ?_ ?_ | refine condI ?_ ?_ | refine condS ?_ ?_)) <;> intro h) | ((with_reducible (first | refine guardD (by with_unfolding_all rfl) ?_ ?_ | refine guardE (by with_unfolding_all rfl) ?_ ?_ | refine guardN (by with_unfolding_all rfl) ?_ ?_ | refine guardI (by with_unfolding_all rfl) ?_ ?_ | refine guardS (by with_unfolding_all rfl) ?_ ?_)) <;> intro h) | ((refine callfG (by kernel_rfl) p1 (flat_val _) ?_)) | (with_reducible refine And.intro ?_ ?_; omega) | (simp only [Z0,Z1,Z2,Z3,Z4,Z5,Z6,Z7,Z8,Z9,Za,Zb,Zc,Zd,Ze,Zf,List.cons.injEq,Zg,Zh,Zi,Zj,Zk,Zl,Zm,Zn,Zo,Zp,beq_self_eq_true,bne_self_eq_false,decide_true,decide_false,Zq,Zr,Zs,Zt,Zu,Zv,Zw,Zx,Zy,Zz,Y0,Y1,Y2,Y3,Y4,Y5,Y6,x_c,x_o,x_l,x_b,g_b,Y7,Y8,Y9,Ya,Yb,Yc,Yd,Ye,Yf,Yg,Yh,Yi,Yj,Yk,Yl,lk,ef,Ym,Yn,Yo,Yp,Yq,Yr,Ys,Yt,Yu,Yv,Yw,Yx,Yy,Yz,X0,X1,X2,X3,X4,X5,X6,X7,X8,X9,Xa,Xb,Xc,Xd,Xe,Xf,Xg,Xh,Xi,Xj,Xk,Xl,Xm,Xn,hv,Xo,ev,Xp,Xq,Xr,Xs,Xt,Xu,Xv,Xw,Xx,Xy,Xz,W0,W1,W2,W3,W4,W5,W6,W7,W8,W9,Wa,Wb,vun,bnd,Wc,Wd,We,zav,Wf,Wg,Wh,Wi,Wj,Wk,Wl,Value.oneCell',Wm,Wn,Wo,Wp,true_and,and_true,and_self,implies_true,Wq,Wr,Ws,Wt,false_implies,Wu,Wv,Ww,Wx,Wy,Wz,V0,V1,V2,V3,V4,V5,V6,V7,V8,V9,Va,reduceCtorEq,if_true,if_false,Vb,↓reduceIte,Vc,Vd,Ve,Vf,Vg,Vh,Vi,ne_eq,not_false_eq_true,not_true_eq_false,Vj,Vk,r81_0,r81_1,r81_2,r81_3,r81_4,r81_5,r81_6,r81_7,r81_8,r81_9,r81_10,p81,l81_0,gA,gB,hki,k0,hw,hl,V9,Va,List.length_map]) | (exfalso; omega)
      all_goals first | done | omega | trace_state
    · rw [q, Bool.true_and] at hg
      rw [q] at p1
      repeat' first | ((with_reducible (first | refine condD ?_ ?_ | refine condE ?_ ?_ | refine condN ?_ ?_ | refine condI ?_ ?_ | refine condS ?_ ?_)) <;> intro h) | ((with_reducible (first | refine guardD (by with_unfolding_all rfl) ?_ ?_ | refine guardE (by with_unfolding_all rfl) ?_ ?_ | refine guardN (by with_unfolding_all rfl) ?_ ?_ | refine guardI (by with_unfolding_all rfl) ?_ ?_ | refine guardS (by with_unfolding_all rfl) ?_ ?_)) <;> intro h) | ((refine callfG (by kernel_rfl) p1 (flat_val _) ?_)) | (with_reducible refine And.intro ?_ ?_; omega) | (simp only [Z0,Z1,Z2,Z3,Z4,Z5,Z6,Z7,Z8,Z9,Za,Zb,Zc,Zd,Ze,Zf,List.cons.injEq,Zg,Zh,Zi,Zj,Zk,Zl,Zm,Zn,Zo,Zp,beq_self_eq_true,bne_self_eq_false,decide_true,decide_false,Zq,Zr,Zs,Zt,Zu,Zv,Zw,Zx,Zy,Zz,Y0,Y1,Y2,Y3,Y4,Y5,Y6,x_c,x_o,x_l,x_b,g_b,Y7,Y8,Y9,Ya,Yb,Yc,Yd,Ye,Yf,Yg,Yh,Yi,Yj,Yk,Yl,lk,ef,Ym,Yn,Yo,Yp,Yq,Yr,Ys,Yt,Yu,Yv,Yw,Yx,Yy,Yz,X0,X1,X2,X3,X4,X5,X6,X7,X8,X9,Xa,Xb,Xc,Xd,Xe,Xf,Xg,Xh,Xi,Xj,Xk,Xl,Xm,Xn,hv,Xo,ev,Xp,Xq,Xr,Xs,Xt,Xu,Xv,Xw,Xx,Xy,Xz,W0,W1,W2,W3,W4,W5,W6,W7,W8,W9,Wa,Wb,vun,bnd,Wc,Wd,We,zav,Wf,Wg,Wh,Wi,Wj,Wk,Wl,Value.oneCell',Wm,Wn,Wo,Wp,true_and,and_true,and_self,implies_true,Wq,Wr,Ws,Wt,false_implies,Wu,Wv,Ww,Wx,Wy,Wz,V0,V1,V2,V3,V4,V5,V6,V7,V8,V9,Va,reduceCtorEq,if_true,if_false,Vb,↓reduceIte,Vc,Vd,Ve,Vf,Vg,Vh,Vi,ne_eq,not_false_eq_true,not_true_eq_false,Vj,Vk,r81_0,r81_1,r81_2,r81_3,r81_4,r81_5,r81_6,r81_7,r81_8,r81_9,r81_10,p81,l81_0,gA,gB,hki,k0,hw,hl,V9,Va,List.length_map]) | (exfalso; omega)
      all_goals first | done | omega | exact again hJ (k + 1) (weak_mk (by simp only [wk_cons,wk_nil,wk1,vint_eq,vbool_eq,Vl,Z0,Z1,Z2,Z3,Z4,Z5,Z6,Z7,Z8,Z9,Za,Zb,Zc,Zd,Ze,Zf,List.cons.injEq,Zg,Zh,Zi,Zj,Zk,Zl,Zm,Zn,Zo,Zp,beq_self_eq_true,bne_self_eq_false,decide_true,decide_false,Zq,Zr,Zs,Zt,Zu,Zv,Zw,Zx,Zy,Zz,Y0,Y1,Y2,Y3,Y4,Y5,Y6,x_c,x_o,x_l,x_b,g_b,Y7,Y8,Y9,Ya,Yb,Yc,Yd,Ye,Yf,Yg,Yh,Yi,Yj,Yk,Yl,lk,ef,Ym,Yn,Yo,Yp,Yq,Yr,Ys,Yt,Yu,Yv,Yw,Yx,Yy,Yz,X0,X1,X2,X3,X4,X5,X6,X7,X8,X9,Xa,Xb,Xc,Xd,Xe,Xf,Xg,Xh,Xi,Xj,Xk,Xl,Xm,Xn,hv,Xo,ev,Xp,Xq,Xr,Xs,Xt,Xu,Xv,Xw,Xx,Xy,Xz,W0,W1,W2,W3,W4,W5,W6,W7,W8,W9,Wa,Wb,vun,bnd,Wc,Wd,We,zav,Wf,Wg,Wh,Wi,Wj,Wk,Wl,Value.oneCell',Wm,Wn,Wo,Wp,true_and,and_true,and_self,implies_true,Wq,Wr,Ws,Wt,false_implies,Wu,Wv,Ww,Wx,Wy,Wz,V0,V1,V2,V3,V4,V5,V6,V7,V8,V9,Va,reduceCtorEq,if_true,if_false,Vb,↓reduceIte,Vc,Vd,Ve,Vf,Vg,Vh,Vi,ne_eq,not_false_eq_true,not_true_eq_false,Vj,Nat.zero_ne_one]; all_goals first | done | rfl)) ⟨by omega, hg⟩ (by omega) | trace_state
  · have hke : k = b.length := by omega
    rw [hke, List.drop_length, List.drop_of_length_le (by omega), eqEL] at hg
    rw [hg]
    clear hJ
    repeat' first | ((with_reducible (first | refine condD ?_ ?_ | refine condE ?_ ?_ | refine condN ?_ ?_ | refine condI ?_ ?_ | refine condS ?_ ?_)) <;> intro h) | ((with_reducible (first | refine guardD (by with_unfolding_all rfl) ?_ ?_ | refine guardE (by with_unfolding_all rfl) ?_ ?_ | refine guardN (by with_unfolding_all rfl) ?_ ?_ | refine guardI (by with_unfolding_all rfl) ?_ ?_ | refine guardS (by with_unfolding_all rfl) ?_ ?_)) <;> intro h) | (with_reducible refine And.intro ?_ ?_; omega) | (simp only [Z0,Z1,Z2,Z3,Z4,Z5,Z6,Z7,Z8,Z9,Za,Zb,Zc,Zd,Ze,Zf,List.cons.injEq,Zg,Zh,Zi,Zj,Zk,Zl,Zm,Zn,Zo,Zp,beq_self_eq_true,bne_self_eq_false,decide_true,decide_false,Zq,Zr,Zs,Zt,Zu,Zv,Zw,Zx,Zy,Zz,Y0,Y1,Y2,Y3,Y4,Y5,Y6,x_c,x_o,x_l,x_b,g_b,Y7,Y8,Y9,Ya,Yb,Yc,Yd,Ye,Yf,Yg,Yh,Yi,Yj,Yk,Yl,lk,ef,Ym,Yn,Yo,Yp,Yq,Yr,Ys,Yt,Yu,Yv,Yw,Yx,Yy,Yz,X0,X1,X2,X3,X4,X5,X6,X7,X8,X9,Xa,Xb,Xc,Xd,Xe,Xf,Xg,Xh,Xi,Xj,Xk,Xl,Xm,Xn,hv,Xo,ev,Xp,Xq,Xr,Xs,Xt,Xu,Xv,Xw,Xx,Xy,Xz,W0,W1,W2,W3,W4,W5,W6,W7,W8,W9,Wa,Wb,vun,bnd,Wc,Wd,We,zav,Wf,Wg,Wh,Wi,Wj,Wk,Wl,Value.oneCell',Wm,Wn,Wo,Wp,true_and,and_true,and_self,implies_true,Wq,Wr,Ws,Wt,false_implies,Wu,Wv,Ww,Wx,Wy,Wz,V0,V1,V2,V3,V4,V5,V6,V7,V8,V9,Va,reduceCtorEq,if_true,if_false,Vb,↓reduceIte,Vc,Vd,Ve,Vf,Vg,Vh,Vi,ne_eq,not_false_eq_true,not_true_eq_false,Vj,Vk,r81_0,r81_1,r81_2,r81_3,r81_4,r81_5,r81_6,r81_7,r81_8,r81_9,r81_10,p81,l81_0]) | (exfalso; omega)
    all_goals first | done | rfl | trace_state
/-! headend/list.sameList -/
def r54_0 : List POp := [⟨2, .boxs (.t 0), none⟩,
  ⟨3, .boxs (.t 1), none⟩,
  ⟨4, .asg (.c (.bool false)), none⟩]
def r54_1 : List POp := [⟨5, .fld 0 (.t 2), none⟩,
  ⟨6, .load (.t 5), none⟩,
  ⟨7, .fld 0 (.t 3), none⟩,
  ⟨8, .load (.t 7), none⟩,
  ⟨9, .bin .eql (.t 6) (.t 8), none⟩,
  ⟨10, .mv (.t 9), none⟩,
  ⟨11, .fld 1 (.t 2), some (10, true)⟩,
  ⟨12, .load (.t 11), some (10, true)⟩,
  ⟨13, .fld 1 (.t 3), some (10, true)⟩,
  ⟨14, .load (.t 13), some (10, true)⟩,
  ⟨15, .bin .eql (.t 12) (.t 14), some (10, true)⟩,
  ⟨16, .pick (.t 10) (.t 15) (.c (.bool false)), none⟩,
  ⟨17, .mv (.t 16), none⟩,
  ⟨18, .fld 2 (.t 2), some (17, true)⟩,
  ⟨19, .load (.t 18), some (17, true)⟩,
  ⟨20, .fld 2 (.t 3), some (17, true)⟩,
  ⟨21, .load (.t 20), some (17, true)⟩,
  ⟨22, .bin .eql (.t 19) (.t 21), some (17, true)⟩,
  ⟨23, .pick (.t 17) (.t 22) (.c (.bool false)), none⟩,
  ⟨24, .mv (.t 23), none⟩,
  ⟨25, .fld 4 (.t 2), some (24, true)⟩,
  ⟨26, .load (.t 25), some (24, true)⟩,
  ⟨27, .fld 4 (.t 3), some (24, true)⟩,
  ⟨28, .load (.t 27), some (24, true)⟩,
  ⟨29, .eqb false (.t 26) (.t 28), some (24, true)⟩,
  ⟨30, .pick (.t 24) (.t 29) (.c (.bool false)), none⟩,
  ⟨31, .mv (.t 30), none⟩,
  ⟨32, .fld 3 (.t 2), some (31, true)⟩,
  ⟨33, .load (.t 32), some (31, true)⟩,
  ⟨34, .fld 3 (.t 3), some (31, true)⟩,
  ⟨35, .load (.t 34), some (31, true)⟩,
  ⟨36, .call 81 [.t 33, .t 35, .fn 58], some (31, true)⟩,
  ⟨37, .pick (.t 31) (.t 36) (.c (.bool false)), none⟩,
  ⟨4, .asg (.t 37), none⟩]
def p54 : PCode := .seq (.ops r54_0) (.seq (.ops r54_1) (.ret))
theorem ok54 : okFunc Try.prog 54 [.t 4] 2 p54 = true := by kernel_rfl
theorem samel_c (a b : PL) (ha : a.ok) : CallOK Try.prog 54 [.agg a.av, .agg b.av] (.val (.bool (sameL a b))) := by
  refine call_of mixed ok54 rfl ?_
  have c1 := eqel_c a.ents b.ents ha.1 ha.2
  repeat' first | ((with_reducible (first | refine condD ?_ ?_ | refine condE ?_ ?_ | refine condN ?_ ?_ | refine condI ?_ ?_ | refine condS ?_ ?_)) <;> intro h) | ((with_reducible (first | refine guardD (by with_unfolding_all rfl) ?_ ?_ | refine guardE (by with_unfolding_all rfl) ?_ ?_ | refine guardN (by with_unfolding_all rfl) ?_ ?_ | refine guardI (by with_unfolding_all rfl) ?_ ?_ | refine guardS (by with_unfolding_all rfl) ?_ ?_)) <;> intro h) | ((refine callG c1 ?_)) | (with_reducible refine And.intro ?_ ?_; omega) | (simp only [Z0,Z1,Z2,Z3,Z4,Z5,Z6,Z7,Z8,Z9,Za,Zb,Zc,Zd,Ze,Zf,List.cons.injEq,Zg,Zh,Zi,Zj,Zk,Zl,Zm,Zn,Zo,Zp,beq_self_eq_true,bne_self_eq_false,decide_true,decide_false,Zq,Zr,Zs,Zt,Zu,Zv,Zw,Zx,Zy,Zz,Y0,Y1,Y2,Y3,Y4,Y5,Y6,x_c,x_o,x_l,x_b,g_b,Y7,Y8,Y9,Ya,Yb,Yc,Yd,Ye,Yf,Yg,Yh,Yi,Yj,Yk,Yl,lk,ef,Ym,Yn,Yo,Yp,Yq,Yr,Ys,Yt,Yu,Yv,Yw,Yx,Yy,Yz,X0,X1,X2,X3,X4,X5,X6,X7,X8,X9,Xa,Xb,Xc,Xd,Xe,Xf,Xg,Xh,Xi,Xj,Xk,Xl,Xm,Xn,hv,Xo,ev,Xp,Xq,Xr,Xs,Xt,Xu,Xv,Xw,Xx,Xy,Xz,W0,W1,W2,W3,W4,W5,W6,W7,W8,W9,Wa,Wb,vun,bnd,Wc,Wd,We,zav,Wf,Wg,Wh,Wi,Wj,Wk,Wl,Value.oneCell',Wm,Wn,Wo,Wp,true_and,and_true,and_self,implies_true,Wq,Wr,Ws,Wt,false_implies,Wu,Wv,Ww,Wx,Wy,Wz,V0,V1,V2,V3,V4,V5,V6,V7,V8,V9,Va,reduceCtorEq,if_true,if_false,Vb,↓reduceIte,Vc,Vd,Ve,Vf,Vg,Vh,Vi,ne_eq,not_false_eq_true,not_true_eq_false,Vj,Vk,r54_0,r54_1,p54,PL.av]) | (exfalso; omega)
  all_goals first | done | (clear c1 ha; simp [sameL, *]; done) | trace_state
end Go.Proofs.Ytpecmhdepggnoaa
