/- Live lists: list.entryFault, by the machine on data. -/
import Derived.Test.YtpecmhdepggnoaaKLvA
namespace Go.Proofs.Ytpecmhdepggnoaa
open Go.RowKit
open Go.Proofs.Ytpecmhdepggnoaa renaming done_eq → Z0, done_eq' → Z1, donet_eq → Z2, donet_eq' → Z3, fin_val → Z4, fin_tup → Z5, fin_agg → Z6, fin_ro → Z7, res_one → Z8, res_more → Z9, rv_t → Za, rv_c → Zb, rv_l → Zc, int_eq → Zg, bool_eq → Zh, toNat_pred → Zr, toNat_succ → Zs, cnd_t → Zu, cnd_f → Zv, grd_tt → Zw, grd_u → Zx, grd_tf → Zy, grd_ft → Zz, grd_ff → Y0, g_skip → Y1, g_ops → Y2, g_seq → Y3, g_block → Y4, g_exit → Y5, g_ret → Y6, x_c → Y7, x_o → Y8, x_l → Y9, x_b → Ya, g_b → Yb, g_nil → Yc, r_all → Yd, o_nil → Ye, g_cond → Yf, o_guard → Yg, o_call → Yh, o_callm → Yi, o_callt → Yj, o_callx → Yk, o_callv → Yl, o_callc → Ym, o_callh → Yn, o_apph → Yo, noav_alias → Yp, noav_nil → Yq, o_mv → Yr, o_pick → Ys, o_bin → Yt, o_never → Yu, o_eqs → Yv, o_eqb → Yw, o_un → Yx, o_conv → Yy, o_load → Yz, o_loadr → X0, o_idxr → X1, o_loads → X2, o_loadsr → X3, o_fld → X4, o_idx → X5, o_idxs → X6, o_len → X7, o_lens → X8, o_ext → X9, o_nilck → Xa, o_slc → Xb, o_slcs → Xc, o_build → Xd, o_minmax → Xe, o_mkfn → Xf, o_mkfnr → Xg, o_alloc → Xh, o_box → Xi, o_boxs → Xj, o_row → Xk, o_rowr → Xl, o_mk → Xm, o_asg → Xn, o_app → Xo, o_appa → Xp, o_store → Xq, o_stores → Xr, o_eqnil → Xs, eqAV → Xt, view_t → Xu, view_c → Xv, view_nil → Xw, view_fn → Xx, look_own → Xy, look_box → Xz, look_junk → W0, look_val → W1, look_nilsl → W2, look_ro → W3, look_roAt → W4, look_agg → W5, look_tup → W6, look_clo → W7, look_alias → W8, look_ref → W9, look_into → Wa, look_fnv → Wb, look_held → Wc, rowOf → Wd, cellsOf → We, argv → Wf, vbin → Wg, vun → Wh, bnd → Wi, elemOf → Wj, putParts → Wk, setAt → Wl, zav → Wm, put_at → Wu, mk_at → Wv, mk_nil → Ww, initSt → Wx
open Go.Proofs.Ytpecmhdepggnoaa.AV.tup renaming injEq → Zd
open Go.Proofs.Ytpecmhdepggnoaa.AV.agg renaming injEq → Ze
open Go.Proofs.Ytpecmhdepggnoaa.AV.ro renaming injEq → Zf
open _root_.Int renaming toNat_natCast → Zi, reduceToNat → Zj, toNat_zero → Zk, toNat_one → Zl, reduceLE → Zm, reduceLT → Zn, reduceBEq → Zo, reduceBNe → Zp, reduceNeg → Zq
open _root_.List renaming length_map → Zt, map_cons → Wy, map_nil → Wz, forall_mem_cons → V0, not_mem_nil → V1, length_cons → V2, length_nil → V3, getD_cons_zero → V4, getD_cons_succ → V5, getD_nil → V6, drop_succ_cons → V7, drop_zero → V8, take_succ_cons → V9, take_zero → Va, set_cons_zero → Vb, set_cons_succ → Vc, all_cons → Vd, all_nil → Ve
open Go.Proofs.Ytpecmhdepggnoaa.ASt renaming rid → Wn, hold → Wo, free → Wp
open Go.Proofs.Ytpecmhdepggnoaa.AV renaming kill → Wq, isHome → Wr, noLoan → Ws, cellOK → Wt
open _root_.Bool renaming and_true → Vf, true_and → Vg, not_true → Vh, not_false → Vi, false_eq_true → Vj
open _root_.Nat renaming reduceEqDiff → Vk, reduceBNe → Vl, reduceAdd → Vm, reduceSub → Vn, reduceMul → Vo, reduceLeDiff → Vp, reduceLT → Vq, one_ne_zero → Vr, zero_ne_one → Vs
open Go.Proofs.Ytpecmhdepggnoaa.AV.val renaming injEq → Vt
set_option linter.unusedSimpArgs false
--@short

structure LE where
  uri : ByteArray
  milli : Int
  brk : Bool
  date : Int
  key : ByteArray
  gap : Bool
  extra : List ByteArray
def oneS (s : ByteArray) : List AV := [.val (.string s)]
def LE.av (e : LE) : List AV := [.val (.string e.uri), .val (.int .i64 e.milli), .val (.bool e.brk), .val (.int .i64 e.date), .val (.string e.key), .val (.bool e.gap), .ro (e.extra.map oneS)]
/-- Sizes that a value of Go has. -/
def LE.ok (e : LE) : Prop := e.extra.length ≤ 9000000000000000000 ∧ ∀ x ∈ e.extra, x.size ≤ 9223372036854775807
def exF : List ByteArray → Int
  | [] => 0
  | x :: r => if prefB x = false then 3 else if visB x 32 = false then 3 else if 300 < x.size then 2 else exF r
def keyE (e : LE) : Bool := !(e.key.toList == (⟨#[]⟩ : ByteArray).toList) && !isNameB e.key
def efF (e : LE) (target : Int) : Int :=
  if uriFl e.uri ≠ 0 then uriFl e.uri else if outB e.milli 1 3600000 then 1 else if target < Int.tdiv (e.milli + 500) 1000 then 2
  else if outB e.date (-1) 253402300799999 then 1 else if keyE e then 5 else if 20 < e.extra.length then 2 else exF e.extra
/-! headend/list.entryFault -/
def r53_0 : List POp := [⟨2, .boxs (.t 0), none⟩,
  ⟨4, .asg (.c (.int .i64 0)), none⟩]
def r53_1 : List POp := [⟨8, .fld 0 (.t 2), none⟩,
  ⟨9, .load (.t 8), none⟩,
  ⟨10, .call 78 [.t 9], none⟩,
  ⟨5, .asg (.t 10), none⟩]
def r53_2 : List POp := [⟨11, .mv (.t 5), none⟩,
  ⟨12, .bin .neq (.t 11) (.c (.int .i64 0)), none⟩]
def r53_3 : List POp := [⟨13, .mv (.t 5), none⟩,
  ⟨4, .asg (.t 13), none⟩]
def r53_4 : List POp := [⟨15, .fld 1 (.t 2), none⟩,
  ⟨16, .load (.t 15), none⟩,
  ⟨17, .call 32 [.t 16, .c (.int .i64 1), .c (.int .i64 3600000)], none⟩,
  ⟨14, .asg (.t 17), none⟩]
def r53_5 : List POp := [⟨4, .asg (.c (.int .i64 1)), none⟩]
def r53_6 : List POp := [⟨19, .fld 1 (.t 2), none⟩,
  ⟨20, .load (.t 19), none⟩,
  ⟨21, .bin .add (.t 20) (.c (.int .i64 500)), none⟩,
  ⟨22, .bin .quo (.t 21) (.c (.int .i64 1000)), none⟩,
  ⟨23, .mv (.t 1), none⟩,
  ⟨24, .bin .gtr (.t 22) (.t 23), none⟩,
  ⟨18, .asg (.t 24), none⟩]
def r53_7 : List POp := [⟨4, .asg (.c (.int .i64 2)), none⟩]
def r53_8 : List POp := [⟨26, .fld 3 (.t 2), none⟩,
  ⟨27, .load (.t 26), none⟩,
  ⟨28, .call 32 [.t 27, .c (.int .i64 (-1)), .c (.int .i64 253402300799999)], none⟩,
  ⟨25, .asg (.t 28), none⟩]
def r53_9 : List POp := [⟨4, .asg (.c (.int .i64 1)), none⟩]
def r53_10 : List POp := [⟨30, .fld 4 (.t 2), none⟩,
  ⟨31, .load (.t 30), none⟩,
  ⟨32, .bin .neq (.t 31) (.c (.string ⟨#[]⟩)), none⟩,
  ⟨33, .mv (.t 32), none⟩,
  ⟨34, .fld 4 (.t 2), some (33, true)⟩,
  ⟨35, .load (.t 34), some (33, true)⟩,
  ⟨36, .call 76 [.t 35], some (33, true)⟩,
  ⟨37, .un .not (.t 36), some (33, true)⟩,
  ⟨38, .pick (.t 33) (.t 37) (.c (.bool false)), none⟩,
  ⟨29, .asg (.t 38), none⟩]
def r53_11 : List POp := [⟨4, .asg (.c (.int .i64 5)), none⟩]
def r53_12 : List POp := [⟨40, .fld 6 (.t 2), none⟩,
  ⟨41, .load (.t 40), none⟩,
  ⟨42, .len (.t 41), none⟩,
  ⟨43, .bin .gtr (.t 42) (.c (.int .i64 20)), none⟩,
  ⟨39, .asg (.t 43), none⟩]
def r53_13 : List POp := [⟨4, .asg (.c (.int .i64 2)), none⟩]
def r53_14 : List POp := [⟨44, .fld 6 (.t 2), none⟩,
  ⟨45, .load (.t 44), none⟩,
  ⟨46, .len (.t 45), none⟩,
  ⟨47, .mv (.c (.int .i64 0)), none⟩]
def r53_15 : List POp := [⟨48, .bin .lss (.t 47) (.t 46), none⟩]
def r53_16 : List POp := [⟨49, .idx 1 (.t 45) (.t 47), none⟩,
  ⟨50, .load (.t 49), none⟩,
  ⟨7, .asg (.t 50), none⟩]
def r53_17 : List POp := [⟨52, .mv (.t 7), none⟩,
  ⟨53, .call 79 [.t 52, .c (.string ⟨#[35, 88]⟩)], none⟩,
  ⟨54, .un .not (.t 53), none⟩,
  ⟨55, .mv (.t 54), none⟩,
  ⟨56, .mv (.t 7), some (55, false)⟩,
  ⟨57, .call 80 [.t 56, .c (.int .u8 32)], some (55, false)⟩,
  ⟨58, .un .not (.t 57), some (55, false)⟩,
  ⟨59, .pick (.t 55) (.c (.bool true)) (.t 58), none⟩,
  ⟨51, .asg (.t 59), none⟩]
def r53_18 : List POp := [⟨4, .asg (.c (.int .i64 3)), none⟩]
def r53_19 : List POp := [⟨61, .mv (.t 7), none⟩,
  ⟨62, .lens (.t 61), none⟩,
  ⟨63, .bin .gtr (.t 62) (.c (.int .i64 300)), none⟩,
  ⟨60, .asg (.t 63), none⟩]
def r53_20 : List POp := [⟨4, .asg (.c (.int .i64 2)), none⟩]
def r53_21 : List POp := [⟨64, .bin .add (.t 47) (.c (.int .i64 1)), none⟩,
  ⟨47, .mv (.t 64), none⟩]
def r53_22 : List POp := [⟨4, .asg (.c (.int .i64 0)), none⟩]
def l53_0 : PCode := .seq (.ops r53_15) (.seq (.cond (.t 48) (.skip) (.exit 1)) (.seq (.block 2 (.seq (.ops r53_16) (.block 3 (.seq (.ops r53_17) (.cond (.t 51) (.seq (.ops r53_18) (.ret)) (.seq (.ops r53_19) (.cond (.t 60) (.seq (.ops r53_20) (.ret)) (.skip)))))))) (.ops r53_21)))
def p53 : PCode := .seq (.ops r53_0) (.seq (.seq (.ops r53_1) (.seq (.ops r53_2) (.cond (.t 12) (.seq (.ops r53_3) (.ret)) (.skip)))) (.seq (.block 0 (.seq (.ops r53_4) (.cond (.t 14) (.seq (.ops r53_5) (.ret)) (.seq (.ops r53_6) (.cond (.t 18) (.seq (.ops r53_7) (.ret)) (.seq (.ops r53_8) (.cond (.t 25) (.seq (.ops r53_9) (.ret)) (.seq (.ops r53_10) (.cond (.t 29) (.seq (.ops r53_11) (.ret)) (.seq (.ops r53_12) (.cond (.t 39) (.seq (.ops r53_13) (.ret)) (.skip)))))))))))) (.seq (.seq (.ops r53_14) (.block 1 (.loop l53_0))) (.seq (.ops r53_22) (.ret)))))
theorem ok53 : okFunc Try.prog 53 [.t 4] 2 p53 = true := by kernel_rfl
set_option maxHeartbeats 1000000 in
theorem entryfault_c (e : LE) (he : e.ok) (target : Int) : CallOK Try.prog 53 [.agg e.av, .val (.int .i64 target)] (.val (.int .i64 (efF e target))) := by
  refine call_of mixed ok53 rfl ?_
  have c1 := uri_c e.uri
  have c2 := out_c e.milli 1 3600000
  have c3 := out_c e.date (-1) 253402300799999
  have c4 := name_c e.key
  replace he := he.2
  simp only [LE.av]
  by_cases h1 : uriFl e.uri = 0
  case neg =>
    rw [show efF e target = uriFl e.uri by unfold efF; rw [if_pos h1]]
    generalize uriFl e.uri = f at *
    repeat' first | ((with_reducible (first | refine condD ?_ ?_ | refine condE ?_ ?_ | refine condN ?_ ?_ | refine condI ?_ ?_ | refine condS ?_ ?_)) <;> intro h) | ((with_reducible (first | refine guardD (by with_unfolding_all rfl) ?_ ?_ | refine guardE (by with_unfolding_all rfl) ?_ ?_ | refine guardN (by with_unfolding_all rfl) ?_ ?_ | refine guardI (by with_unfolding_all rfl) ?_ ?_ | refine guardS (by with_unfolding_all rfl) ?_ ?_)) <;> intro h) | ((refine callG c1 ?_)) | (with_reducible refine And.intro ?_ ?_; omega) | (simp only [Z0,Z1,Z2,Z3,Z4,Z5,Z6,Z7,Z8,Z9,Za,Zb,Zc,Zd,Ze,Zf,List.cons.injEq,Zg,Zh,Zi,Zj,Zk,Zl,Zm,Zn,Zo,Zp,beq_self_eq_true,bne_self_eq_false,decide_true,decide_false,Zq,Zr,Zs,Zt,Zu,Zv,Zw,Zx,Zy,Zz,Y0,Y1,Y2,Y3,Y4,Y5,Y6,Y7,Y8,Y9,Ya,Yb,Yc,Yd,Ye,Yf,Yg,Yh,Yi,Yj,Yk,Yl,Ym,Yn,Yo,Yp,Yq,lk,ef,Yr,Ys,Yt,Yu,Yv,Yw,Yx,Yy,Yz,X0,X1,X2,X3,X4,X5,X6,X7,X8,X9,Xa,Xb,Xc,Xd,Xe,Xf,Xg,Xh,Xi,Xj,Xk,Xl,Xm,Xn,Xo,Xp,Xq,Xr,Xs,hv,Xt,ev,Xu,Xv,Xw,Xx,Xy,Xz,W0,W1,W2,W3,W4,W5,W6,W7,W8,W9,Wa,Wb,Wc,Wd,We,Wf,Wg,Wh,Wi,Wj,Wk,Wl,Wm,Wn,Wo,Wp,Wq,Wr,Ws,Wt,Value.oneCell',Wu,Wv,Ww,Wx,true_and,and_true,and_self,implies_true,Wy,Wz,V0,V1,false_implies,V2,V3,V4,V5,V6,V7,V8,V9,Va,Vb,Vc,Vd,Ve,Vf,Vg,Vh,Vi,reduceCtorEq,if_true,if_false,Vj,↓reduceIte,Vk,Vl,Vm,Vn,Vo,Vp,Vq,ne_eq,not_false_eq_true,not_true_eq_false,Vr,Vs,r53_0,r53_1,r53_2,r53_3,r53_4,r53_5,r53_6,r53_7,r53_8,r53_9,r53_10,r53_11,r53_12,r53_13,r53_14,r53_15,r53_16,r53_17,r53_18,r53_19,r53_20,r53_21,r53_22,p53,bne0_t h1]) | (exfalso; omega)
    all_goals first | done | trace_state
  rw [h1] at c1
  cases h2 : outB e.milli 1 3600000
  case true =>
    rw [show efF e target = 1 by unfold efF; rw [if_neg (by rw [h1]; simp), if_pos h2]]
    rw [h2] at c2
    repeat' first | ((with_reducible (first | refine condD ?_ ?_ | refine condE ?_ ?_ | refine condN ?_ ?_ | refine condI ?_ ?_ | refine condS ?_ ?_)) <;> intro h) | ((with_reducible (first | refine guardD (by with_unfolding_all rfl) ?_ ?_ | refine guardE (by with_unfolding_all rfl) ?_ ?_ | refine guardN (by with_unfolding_all rfl) ?_ ?_ | refine guardI (by with_unfolding_all rfl) ?_ ?_ | refine guardS (by with_unfolding_all rfl) ?_ ?_)) <;> intro h) | ((refine callG c1 ?_)) | ((refine callG c2 ?_)) | (with_reducible refine And.intro ?_ ?_; omega) | (simp only [Z0,Z1,Z2,Z3,Z4,Z5,Z6,Z7,Z8,Z9,Za,Zb,Zc,Zd,Ze,Zf,List.cons.injEq,Zg,Zh,Zi,Zj,Zk,Zl,Zm,Zn,Zo,Zp,beq_self_eq_true,bne_self_eq_false,decide_true,decide_false,Zq,Zr,Zs,Zt,Zu,Zv,Zw,Zx,Zy,Zz,Y0,Y1,Y2,Y3,Y4,Y5,Y6,Y7,Y8,Y9,Ya,Yb,Yc,Yd,Ye,Yf,Yg,Yh,Yi,Yj,Yk,Yl,Ym,Yn,Yo,Yp,Yq,lk,ef,Yr,Ys,Yt,Yu,Yv,Yw,Yx,Yy,Yz,X0,X1,X2,X3,X4,X5,X6,X7,X8,X9,Xa,Xb,Xc,Xd,Xe,Xf,Xg,Xh,Xi,Xj,Xk,Xl,Xm,Xn,Xo,Xp,Xq,Xr,Xs,hv,Xt,ev,Xu,Xv,Xw,Xx,Xy,Xz,W0,W1,W2,W3,W4,W5,W6,W7,W8,W9,Wa,Wb,Wc,Wd,We,Wf,Wg,Wh,Wi,Wj,Wk,Wl,Wm,Wn,Wo,Wp,Wq,Wr,Ws,Wt,Value.oneCell',Wu,Wv,Ww,Wx,true_and,and_true,and_self,implies_true,Wy,Wz,V0,V1,false_implies,V2,V3,V4,V5,V6,V7,V8,V9,Va,Vb,Vc,Vd,Ve,Vf,Vg,Vh,Vi,reduceCtorEq,if_true,if_false,Vj,↓reduceIte,Vk,Vl,Vm,Vn,Vo,Vp,Vq,ne_eq,not_false_eq_true,not_true_eq_false,Vr,Vs,r53_0,r53_1,r53_2,r53_3,r53_4,r53_5,r53_6,r53_7,r53_8,r53_9,r53_10,r53_11,r53_12,r53_13,r53_14,r53_15,r53_16,r53_17,r53_18,r53_19,r53_20,r53_21,r53_22,p53]) | (exfalso; omega)
    all_goals first | done | trace_state
  have hb2 := outB_f h2
  rw [h2] at c2
  have w1 : IntKind.i64.wrap (e.milli + 500) = e.milli + 500 := wrap_in (by omega) (by omega)
  have w2 : IntKind.i64.wrap (Int.tdiv (e.milli + 500) 1000) = Int.tdiv (e.milli + 500) 1000 := wrap_in (by rw [Int.tdiv_eq_ediv_of_nonneg (by omega)]; omega) (by rw [Int.tdiv_eq_ediv_of_nonneg (by omega)]; omega)
  have ne1000 : ¬ (1000 : Int) = 0 := by decide
  by_cases h3 : target < Int.tdiv (e.milli + 500) 1000
  case pos =>
    rw [show efF e target = 2 by unfold efF; rw [if_neg (by rw [h1]; simp), if_neg (by rw [h2]; simp), if_pos h3]]
    repeat' first | ((with_reducible (first | refine condD ?_ ?_ | refine condE ?_ ?_ | refine condN ?_ ?_ | refine condI ?_ ?_ | refine condS ?_ ?_)) <;> intro h) | ((with_reducible (first | refine guardD (by with_unfolding_all rfl) ?_ ?_ | refine guardE (by with_unfolding_all rfl) ?_ ?_ | refine guardN (by with_unfolding_all rfl) ?_ ?_ | refine guardI (by with_unfolding_all rfl) ?_ ?_ | refine guardS (by with_unfolding_all rfl) ?_ ?_)) <;> intro h) | ((refine callG c1 ?_)) | ((refine callG c2 ?_)) | (with_reducible refine And.intro ?_ ?_; omega) | (simp only [Z0,Z1,Z2,Z3,Z4,Z5,Z6,Z7,Z8,Z9,Za,Zb,Zc,Zd,Ze,Zf,List.cons.injEq,Zg,Zh,Zi,Zj,Zk,Zl,Zm,Zn,Zo,Zp,beq_self_eq_true,bne_self_eq_false,decide_true,decide_false,Zq,Zr,Zs,Zt,Zu,Zv,Zw,Zx,Zy,Zz,Y0,Y1,Y2,Y3,Y4,Y5,Y6,Y7,Y8,Y9,Ya,Yb,Yc,Yd,Ye,Yf,Yg,Yh,Yi,Yj,Yk,Yl,Ym,Yn,Yo,Yp,Yq,lk,ef,Yr,Ys,Yt,Yu,Yv,Yw,Yx,Yy,Yz,X0,X1,X2,X3,X4,X5,X6,X7,X8,X9,Xa,Xb,Xc,Xd,Xe,Xf,Xg,Xh,Xi,Xj,Xk,Xl,Xm,Xn,Xo,Xp,Xq,Xr,Xs,hv,Xt,ev,Xu,Xv,Xw,Xx,Xy,Xz,W0,W1,W2,W3,W4,W5,W6,W7,W8,W9,Wa,Wb,Wc,Wd,We,Wf,Wg,Wh,Wi,Wj,Wk,Wl,Wm,Wn,Wo,Wp,Wq,Wr,Ws,Wt,Value.oneCell',Wu,Wv,Ww,Wx,true_and,and_true,and_self,implies_true,Wy,Wz,V0,V1,false_implies,V2,V3,V4,V5,V6,V7,V8,V9,Va,Vb,Vc,Vd,Ve,Vf,Vg,Vh,Vi,reduceCtorEq,if_true,if_false,Vj,↓reduceIte,Vk,Vl,Vm,Vn,Vo,Vp,Vq,ne_eq,not_false_eq_true,not_true_eq_false,Vr,Vs,r53_0,r53_1,r53_2,r53_3,r53_4,r53_5,r53_6,r53_7,r53_8,r53_9,r53_10,r53_11,r53_12,r53_13,r53_14,r53_15,r53_16,r53_17,r53_18,r53_19,r53_20,r53_21,r53_22,p53,w1,w2,h3,ne1000]) | (exfalso; omega)
    all_goals first | done | trace_state
  cases h4 : outB e.date (-1) 253402300799999
  case true =>
    rw [show efF e target = 1 by unfold efF; rw [if_neg (by rw [h1]; simp), if_neg (by rw [h2]; simp), if_neg h3, if_pos h4]]
    rw [h4] at c3
    repeat' first | ((with_reducible (first | refine condD ?_ ?_ | refine condE ?_ ?_ | refine condN ?_ ?_ | refine condI ?_ ?_ | refine condS ?_ ?_)) <;> intro h) | ((with_reducible (first | refine guardD (by with_unfolding_all rfl) ?_ ?_ | refine guardE (by with_unfolding_all rfl) ?_ ?_ | refine guardN (by with_unfolding_all rfl) ?_ ?_ | refine guardI (by with_unfolding_all rfl) ?_ ?_ | refine guardS (by with_unfolding_all rfl) ?_ ?_)) <;> intro h) | ((refine callG c1 ?_)) | ((refine callG c2 ?_)) | ((refine callG c3 ?_)) | (with_reducible refine And.intro ?_ ?_; omega) | (simp only [Z0,Z1,Z2,Z3,Z4,Z5,Z6,Z7,Z8,Z9,Za,Zb,Zc,Zd,Ze,Zf,List.cons.injEq,Zg,Zh,Zi,Zj,Zk,Zl,Zm,Zn,Zo,Zp,beq_self_eq_true,bne_self_eq_false,decide_true,decide_false,Zq,Zr,Zs,Zt,Zu,Zv,Zw,Zx,Zy,Zz,Y0,Y1,Y2,Y3,Y4,Y5,Y6,Y7,Y8,Y9,Ya,Yb,Yc,Yd,Ye,Yf,Yg,Yh,Yi,Yj,Yk,Yl,Ym,Yn,Yo,Yp,Yq,lk,ef,Yr,Ys,Yt,Yu,Yv,Yw,Yx,Yy,Yz,X0,X1,X2,X3,X4,X5,X6,X7,X8,X9,Xa,Xb,Xc,Xd,Xe,Xf,Xg,Xh,Xi,Xj,Xk,Xl,Xm,Xn,Xo,Xp,Xq,Xr,Xs,hv,Xt,ev,Xu,Xv,Xw,Xx,Xy,Xz,W0,W1,W2,W3,W4,W5,W6,W7,W8,W9,Wa,Wb,Wc,Wd,We,Wf,Wg,Wh,Wi,Wj,Wk,Wl,Wm,Wn,Wo,Wp,Wq,Wr,Ws,Wt,Value.oneCell',Wu,Wv,Ww,Wx,true_and,and_true,and_self,implies_true,Wy,Wz,V0,V1,false_implies,V2,V3,V4,V5,V6,V7,V8,V9,Va,Vb,Vc,Vd,Ve,Vf,Vg,Vh,Vi,reduceCtorEq,if_true,if_false,Vj,↓reduceIte,Vk,Vl,Vm,Vn,Vo,Vp,Vq,ne_eq,not_false_eq_true,not_true_eq_false,Vr,Vs,r53_0,r53_1,r53_2,r53_3,r53_4,r53_5,r53_6,r53_7,r53_8,r53_9,r53_10,r53_11,r53_12,r53_13,r53_14,r53_15,r53_16,r53_17,r53_18,r53_19,r53_20,r53_21,r53_22,p53,w1,w2,h3,ne1000]) | (exfalso; omega)
    all_goals first | done | trace_state
  rw [h4] at c3
  have hrest : efF e target = if keyE e then 5 else if 20 < e.extra.length then 2 else exF e.extra := by unfold efF; rw [if_neg (by rw [h1]; simp), if_neg (by rw [h2]; simp), if_neg h3, if_neg (by rw [h4]; simp)]
  rw [hrest]
  clear hrest
  repeat' first | ((with_reducible (first | refine condD ?_ ?_ | refine condE ?_ ?_ | refine condN ?_ ?_ | refine condI ?_ ?_ | refine condS ?_ ?_)) <;> intro h) | ((with_reducible (first | refine guardD (by with_unfolding_all rfl) ?_ ?_ | refine guardE (by with_unfolding_all rfl) ?_ ?_ | refine guardN (by with_unfolding_all rfl) ?_ ?_ | refine guardI (by with_unfolding_all rfl) ?_ ?_ | refine guardS (by with_unfolding_all rfl) ?_ ?_)) <;> intro h) | ((refine callG c1 ?_)) | ((refine callG c2 ?_)) | ((refine callG c3 ?_)) | ((refine callG c4 ?_)) | (with_reducible refine And.intro ?_ ?_; omega) | (simp only [Z0,Z1,Z2,Z3,Z4,Z5,Z6,Z7,Z8,Z9,Za,Zb,Zc,Zd,Ze,Zf,List.cons.injEq,Zg,Zh,Zi,Zj,Zk,Zl,Zm,Zn,Zo,Zp,beq_self_eq_true,bne_self_eq_false,decide_true,decide_false,Zq,Zr,Zs,Zt,Zu,Zv,Zw,Zx,Zy,Zz,Y0,Y1,Y2,Y3,Y4,Y5,Y6,Y7,Y8,Y9,Ya,Yb,Yc,Yd,Ye,Yf,Yg,Yh,Yi,Yj,Yk,Yl,Ym,Yn,Yo,Yp,Yq,lk,ef,Yr,Ys,Yt,Yu,Yv,Yw,Yx,Yy,Yz,X0,X1,X2,X3,X4,X5,X6,X7,X8,X9,Xa,Xb,Xc,Xd,Xe,Xf,Xg,Xh,Xi,Xj,Xk,Xl,Xm,Xn,Xo,Xp,Xq,Xr,Xs,hv,Xt,ev,Xu,Xv,Xw,Xx,Xy,Xz,W0,W1,W2,W3,W4,W5,W6,W7,W8,W9,Wa,Wb,Wc,Wd,We,Wf,Wg,Wh,Wi,Wj,Wk,Wl,Wm,Wn,Wo,Wp,Wq,Wr,Ws,Wt,Value.oneCell',Wu,Wv,Ww,Wx,true_and,and_true,and_self,implies_true,Wy,Wz,V0,V1,false_implies,V2,V3,V4,V5,V6,V7,V8,V9,Va,Vb,Vc,Vd,Ve,Vf,Vg,Vh,Vi,reduceCtorEq,if_true,if_false,Vj,↓reduceIte,Vk,Vl,Vm,Vn,Vo,Vp,Vq,ne_eq,not_false_eq_true,not_true_eq_false,Vr,Vs,r53_0,r53_1,r53_2,r53_3,r53_4,r53_5,r53_6,r53_7,r53_8,r53_9,r53_10,r53_11,r53_12,r53_13,r53_14,r53_15,r53_16,r53_17,r53_18,r53_19,r53_20,r53_21,r53_22,p53,w1,w2,h3,ne1000]) | (exfalso; omega)
  all_goals first | done | decide | (rw [if_pos (show keyE e = true by simp only [keyE, *]; rfl)]; done) | (rw [if_neg (show ¬ keyE e = true by simp only [keyE, *, Bool.not_true, Bool.not_false, Bool.true_and, Bool.false_and, Bool.and_false, Bool.false_eq_true, not_false_eq_true]), if_pos (by omega)]; done) | skip
  all_goals (
    rw [if_neg (show ¬ keyE e = true by simp only [keyE, *, Bool.not_true, Bool.not_false, Bool.true_and, Bool.false_and, Bool.and_false, Bool.false_eq_true, not_false_eq_true]), if_neg (by omega)]
    refine loopS (fun k : Nat => mk [(45, .ro (e.extra.map oneS)), (46, .val (.int .i64 e.extra.length)), (47, .val (.int .i64 k))]) (fun k => k ≤ e.extra.length ∧ exF e.extra = exF (e.extra.drop k)) (fun k => e.extra.length - k) 0 (weak_mk ?_) ⟨Nat.zero_le _, rfl⟩ ?_
    · simp only [wk_cons,wk_nil,wk1,vint_eq,vbool_eq,Vt,Z0,Z1,Z2,Z3,Z4,Z5,Z6,Z7,Z8,Z9,Za,Zb,Zc,Zd,Ze,Zf,List.cons.injEq,Zg,Zh,Zi,Zj,Zk,Zl,Zm,Zn,Zo,Zp,beq_self_eq_true,bne_self_eq_false,decide_true,decide_false,Zq,Zr,Zs,Zt,Zu,Zv,Zw,Zx,Zy,Zz,Y0,Y1,Y2,Y3,Y4,Y5,Y6,Y7,Y8,Y9,Ya,Yb,Yc,Yd,Ye,Yf,Yg,Yh,Yi,Yj,Yk,Yl,Ym,Yn,Yo,Yp,Yq,lk,ef,Yr,Ys,Yt,Yu,Yv,Yw,Yx,Yy,Yz,X0,X1,X2,X3,X4,X5,X6,X7,X8,X9,Xa,Xb,Xc,Xd,Xe,Xf,Xg,Xh,Xi,Xj,Xk,Xl,Xm,Xn,Xo,Xp,Xq,Xr,Xs,hv,Xt,ev,Xu,Xv,Xw,Xx,Xy,Xz,W0,W1,W2,W3,W4,W5,W6,W7,W8,W9,Wa,Wb,Wc,Wd,We,Wf,Wg,Wh,Wi,Wj,Wk,Wl,Wm,Wn,Wo,Wp,Wq,Wr,Ws,Wt,Value.oneCell',Wu,Wv,Ww,Wx,true_and,and_true,and_self,implies_true,Wy,Wz,V0,V1,false_implies,V2,V3,V4,V5,V6,V7,V8,V9,Va,Vb,Vc,Vd,Ve,Vf,Vg,Vh,Vi,reduceCtorEq,if_true,if_false,Vj,↓reduceIte,Vk,Vl,Vm,Vn,Vo,Vp,Vq,ne_eq,not_false_eq_true,not_true_eq_false,Vr,Nat.zero_ne_one]
      all_goals first | done | rfl | simp
    rintro J hJ k ⟨hk, hg⟩
    simp only [Z0,Z1,Z2,Z3,Z4,Z5,Z6,Z7,Z8,Z9,Za,Zb,Zc,Zd,Ze,Zf,List.cons.injEq,Zg,Zh,Zi,Zj,Zk,Zl,Zm,Zn,Zo,Zp,beq_self_eq_true,bne_self_eq_false,decide_true,decide_false,Zq,Zr,Zs,Zt,Zu,Zv,Zw,Zx,Zy,Zz,Y0,Y1,Y2,Y3,Y4,Y5,Y6,Y7,Y8,Y9,Ya,Yb,Yc,Yd,Ye,Yf,Yg,Yh,Yi,Yj,Yk,Yl,Ym,Yn,Yo,Yp,Yq,lk,ef,Yr,Ys,Yt,Yu,Yv,Yw,Yx,Yy,Yz,X0,X1,X2,X3,X4,X5,X6,X7,X8,X9,Xa,Xb,Xc,Xd,Xe,Xf,Xg,Xh,Xi,Xj,Xk,Xl,Xm,Xn,Xo,Xp,Xq,Xr,Xs,hv,Xt,ev,Xu,Xv,Xw,Xx,Xy,Xz,W0,W1,W2,W3,W4,W5,W6,W7,W8,W9,Wa,Wb,Wc,Wd,We,Wf,Wg,Wh,Wi,Wj,Wk,Wl,Wm,Wn,Wo,Wp,Wq,Wr,Ws,Wt,Value.oneCell',Wu,Wv,Ww,Wx,true_and,and_true,and_self,implies_true,Wy,Wz,V0,V1,false_implies,V2,V3,V4,V5,V6,V7,V8,V9,Va,Vb,Vc,Vd,Ve,Vf,Vg,Vh,Vi,reduceCtorEq,if_true,if_false,Vj,↓reduceIte,Vk,Vl,Vm,Vn,Vo,Vp,Vq,ne_eq,not_false_eq_true,not_true_eq_false,Vr,Vs,r53_0,r53_1,r53_2,r53_3,r53_4,r53_5,r53_6,r53_7,r53_8,r53_9,r53_10,r53_11,r53_12,r53_13,r53_14,r53_15,r53_16,r53_17,r53_18,r53_19,r53_20,r53_21,r53_22,p53,l53_0]
    refine condD (fun h => ?_) (fun h => ?_)
    · have hlt : k < e.extra.length := by omega
      have hw := i_add1 k (by omega)
      have gK := getD_map (f := oneS) (d := []) hlt
      have hki : (k : Int) < e.extra.length := by omega
      have k0 : (0 : Int) ≤ (k : Int) := by omega
      have p1 := pref_c e.extra[k]
      have p2 := visible_c e.extra[k] 32 (he _ (List.getElem_mem hlt))
      rw [List.drop_eq_getElem_cons hlt, exF] at hg
      simp only [oneS] at gK
      generalize e.extra[k] = x at *
      cases q1 : prefB x
      · rw [if_pos q1] at hg
        rw [hg]
        rw [q1] at p1
        repeat' first | ((with_reducible (first | refine condD ?_ ?_ | refine condE ?_ ?_ | refine condN ?_ ?_ | refine condI ?_ ?_ | refine condS ?_ ?_)) <;> intro h) | ((with_reducible (first | refine guardD (by with_unfolding_all rfl) ?_ ?_ | refine guardE (by with_unfolding_all rfl) ?_ ?_ | refine guardN (by with_unfolding_all rfl) ?_ ?_ | refine guardI (by with_unfolding_all rfl) ?_ ?_ | refine guardS (by with_unfolding_all rfl) ?_ ?_)) <;> intro h) | ((refine callG p1 ?_)) | ((refine callG p2 ?_)) | (with_reducible refine And.intro ?_ ?_; omega) | (simp only [Z0,Z1,Z2,Z3,Z4,Z5,Z6,Z7,Z8,Z9,Za,Zb,Zc,Zd,Ze,Zf,List.cons.injEq,Zg,Zh,Zi,Zj,Zk,Zl,Zm,Zn,Zo,Zp,beq_self_eq_true,bne_self_eq_false,decide_true,decide_false,Zq,Zr,Zs,Zt,Zu,Zv,Zw,Zx,Zy,Zz,Y0,Y1,Y2,Y3,Y4,Y5,Y6,Y7,Y8,Y9,Ya,Yb,Yc,Yd,Ye,Yf,Yg,Yh,Yi,Yj,Yk,Yl,Ym,Yn,Yo,Yp,Yq,lk,ef,Yr,Ys,Yt,Yu,Yv,Yw,Yx,Yy,Yz,X0,X1,X2,X3,X4,X5,X6,X7,X8,X9,Xa,Xb,Xc,Xd,Xe,Xf,Xg,Xh,Xi,Xj,Xk,Xl,Xm,Xn,Xo,Xp,Xq,Xr,Xs,hv,Xt,ev,Xu,Xv,Xw,Xx,Xy,Xz,W0,W1,W2,W3,W4,W5,W6,W7,W8,W9,Wa,Wb,Wc,Wd,We,Wf,Wg,Wh,Wi,Wj,Wk,Wl,Wm,Wn,Wo,Wp,Wq,Wr,Ws,Wt,Value.oneCell',Wu,Wv,Ww,Wx,true_and,and_true,and_self,implies_true,Wy,Wz,V0,V1,false_implies,V2,V3,V4,V5,V6,V7,V8,V9,Va,Vb,Vc,Vd,Ve,Vf,Vg,Vh,Vi,reduceCtorEq,if_true,if_false,Vj,↓reduceIte,Vk,Vl,Vm,Vn,Vo,Vp,Vq,ne_eq,not_false_eq_true,not_true_eq_false,Vr,Vs,r53_0,r53_1,r53_2,r53_3,r53_4,r53_5,r53_6,r53_7,r53_8,r53_9,r53_10,r53_11,r53_12,r53_13,r53_14,r53_15,r53_16,r53_17,r53_18,r53_19,r53_20,r53_21,r53_22,p53,l53_0,gK,hki,k0,hw]) | (exfalso; omega)
        all_goals first | done | omega | trace_state
      rw [if_neg (by rw [q1]; decide)] at hg
      rw [q1] at p1
      cases q2 : visB x 32
      · rw [if_pos q2] at hg
        rw [hg]
        rw [q2] at p2
        repeat' first | ((with_reducible (first | refine condD ?_ ?_ | refine condE ?_ ?_ | refine condN ?_ ?_ | refine condI ?_ ?_ | refine condS ?_ ?_)) <;> intro h) | ((with_reducible (first | refine guardD (by with_unfolding_all rfl) ?_ ?_ | refine guardE (by with_unfolding_all rfl) ?_ ?_ | refine guardN (by with_unfolding_all rfl) ?_ ?_ | refine guardI (by with_unfolding_all rfl) ?_ ?_ | refine guardS (by with_unfolding_all rfl) ?_ ?_)) <;> intro h) | ((refine callG p1 ?_)) | ((refine callG p2 ?_)) | (with_reducible refine And.intro ?_ ?_; omega) | (simp only [Z0,Z1,Z2,Z3,Z4,Z5,Z6,Z7,Z8,Z9,Za,Zb,Zc,Zd,Ze,Zf,List.cons.injEq,Zg,Zh,Zi,Zj,Zk,Zl,Zm,Zn,Zo,Zp,beq_self_eq_true,bne_self_eq_false,decide_true,decide_false,Zq,Zr,Zs,Zt,Zu,Zv,Zw,Zx,Zy,Zz,Y0,Y1,Y2,Y3,Y4,Y5,Y6,Y7,Y8,Y9,Ya,Yb,Yc,Yd,Ye,Yf,Yg,Yh,Yi,Yj,Yk,Yl,Ym,Yn,Yo,Yp,Yq,lk,ef,Yr,Ys,Yt,Yu,Yv,Yw,Yx,Yy,Yz,X0,X1,X2,X3,X4,X5,X6,X7,X8,X9,Xa,Xb,Xc,Xd,Xe,Xf,Xg,Xh,Xi,Xj,Xk,Xl,Xm,Xn,Xo,Xp,Xq,Xr,Xs,hv,Xt,ev,Xu,Xv,Xw,Xx,Xy,Xz,W0,W1,W2,W3,W4,W5,W6,W7,W8,W9,Wa,Wb,Wc,Wd,We,Wf,Wg,Wh,Wi,Wj,Wk,Wl,Wm,Wn,Wo,Wp,Wq,Wr,Ws,Wt,Value.oneCell',Wu,Wv,Ww,Wx,true_and,and_true,and_self,implies_true,Wy,Wz,V0,V1,false_implies,V2,V3,V4,V5,V6,V7,V8,V9,Va,Vb,Vc,Vd,Ve,Vf,Vg,Vh,Vi,reduceCtorEq,if_true,if_false,Vj,↓reduceIte,Vk,Vl,Vm,Vn,Vo,Vp,Vq,ne_eq,not_false_eq_true,not_true_eq_false,Vr,Vs,r53_0,r53_1,r53_2,r53_3,r53_4,r53_5,r53_6,r53_7,r53_8,r53_9,r53_10,r53_11,r53_12,r53_13,r53_14,r53_15,r53_16,r53_17,r53_18,r53_19,r53_20,r53_21,r53_22,p53,l53_0,gK,hki,k0,hw]) | (exfalso; omega)
        all_goals first | done | omega | trace_state
      rw [if_neg (by rw [q2]; decide)] at hg
      rw [q2] at p2
      by_cases q3 : 300 < x.size
      · rw [if_pos q3] at hg
        rw [hg]
        have q3i : (300 : Int) < x.size := by omega
        repeat' first | ((with_reducible (first | refine condD ?_ ?_ | refine condE ?_ ?_ | refine condN ?_ ?_ | refine condI ?_ ?_ | refine condS ?_ ?_)) <;> intro h) | ((with_reducible (first | refine guardD (by with_unfolding_all rfl) ?_ ?_ | refine guardE (by with_unfolding_all rfl) ?_ ?_ | refine guardN (by with_unfolding_all rfl) ?_ ?_ | refine guardI (by with_unfolding_all rfl) ?_ ?_ | refine guardS (by with_unfolding_all rfl) ?_ ?_)) <;> intro h) | ((refine callG p1 ?_)) | ((refine callG p2 ?_)) | (with_reducible refine And.intro ?_ ?_; omega) | (simp only [Z0,Z1,Z2,Z3,Z4,Z5,Z6,Z7,Z8,Z9,Za,Zb,Zc,Zd,Ze,Zf,List.cons.injEq,Zg,Zh,Zi,Zj,Zk,Zl,Zm,Zn,Zo,Zp,beq_self_eq_true,bne_self_eq_false,decide_true,decide_false,Zq,Zr,Zs,Zt,Zu,Zv,Zw,Zx,Zy,Zz,Y0,Y1,Y2,Y3,Y4,Y5,Y6,Y7,Y8,Y9,Ya,Yb,Yc,Yd,Ye,Yf,Yg,Yh,Yi,Yj,Yk,Yl,Ym,Yn,Yo,Yp,Yq,lk,ef,Yr,Ys,Yt,Yu,Yv,Yw,Yx,Yy,Yz,X0,X1,X2,X3,X4,X5,X6,X7,X8,X9,Xa,Xb,Xc,Xd,Xe,Xf,Xg,Xh,Xi,Xj,Xk,Xl,Xm,Xn,Xo,Xp,Xq,Xr,Xs,hv,Xt,ev,Xu,Xv,Xw,Xx,Xy,Xz,W0,W1,W2,W3,W4,W5,W6,W7,W8,W9,Wa,Wb,Wc,Wd,We,Wf,Wg,Wh,Wi,Wj,Wk,Wl,Wm,Wn,Wo,Wp,Wq,Wr,Ws,Wt,Value.oneCell',Wu,Wv,Ww,Wx,true_and,and_true,and_self,implies_true,Wy,Wz,V0,V1,false_implies,V2,V3,V4,V5,V6,V7,V8,V9,Va,Vb,Vc,Vd,Ve,Vf,Vg,Vh,Vi,reduceCtorEq,if_true,if_false,Vj,↓reduceIte,Vk,Vl,Vm,Vn,Vo,Vp,Vq,ne_eq,not_false_eq_true,not_true_eq_false,Vr,Vs,r53_0,r53_1,r53_2,r53_3,r53_4,r53_5,r53_6,r53_7,r53_8,r53_9,r53_10,r53_11,r53_12,r53_13,r53_14,r53_15,r53_16,r53_17,r53_18,r53_19,r53_20,r53_21,r53_22,p53,l53_0,gK,hki,k0,hw,q3i]) | (exfalso; omega)
        all_goals first | done | omega | trace_state
      rw [if_neg q3] at hg
      have q3i : ¬ (300 : Int) < x.size := by omega
      repeat' first | ((with_reducible (first | refine condD ?_ ?_ | refine condE ?_ ?_ | refine condN ?_ ?_ | refine condI ?_ ?_ | refine condS ?_ ?_)) <;> intro h) | ((with_reducible (first | refine guardD (by with_unfolding_all rfl) ?_ ?_ | refine guardE (by with_unfolding_all rfl) ?_ ?_ | refine guardN (by with_unfolding_all rfl) ?_ ?_ | refine guardI (by with_unfolding_all rfl) ?_ ?_ | refine guardS (by with_unfolding_all rfl) ?_ ?_)) <;> intro h) | ((refine callG p1 ?_)) | ((refine callG p2 ?_)) | (with_reducible refine And.intro ?_ ?_; omega) | (simp only [Z0,Z1,Z2,Z3,Z4,Z5,Z6,Z7,Z8,Z9,Za,Zb,Zc,Zd,Ze,Zf,List.cons.injEq,Zg,Zh,Zi,Zj,Zk,Zl,Zm,Zn,Zo,Zp,beq_self_eq_true,bne_self_eq_false,decide_true,decide_false,Zq,Zr,Zs,Zt,Zu,Zv,Zw,Zx,Zy,Zz,Y0,Y1,Y2,Y3,Y4,Y5,Y6,Y7,Y8,Y9,Ya,Yb,Yc,Yd,Ye,Yf,Yg,Yh,Yi,Yj,Yk,Yl,Ym,Yn,Yo,Yp,Yq,lk,ef,Yr,Ys,Yt,Yu,Yv,Yw,Yx,Yy,Yz,X0,X1,X2,X3,X4,X5,X6,X7,X8,X9,Xa,Xb,Xc,Xd,Xe,Xf,Xg,Xh,Xi,Xj,Xk,Xl,Xm,Xn,Xo,Xp,Xq,Xr,Xs,hv,Xt,ev,Xu,Xv,Xw,Xx,Xy,Xz,W0,W1,W2,W3,W4,W5,W6,W7,W8,W9,Wa,Wb,Wc,Wd,We,Wf,Wg,Wh,Wi,Wj,Wk,Wl,Wm,Wn,Wo,Wp,Wq,Wr,Ws,Wt,Value.oneCell',Wu,Wv,Ww,Wx,true_and,and_true,and_self,implies_true,Wy,Wz,V0,V1,false_implies,V2,V3,V4,V5,V6,V7,V8,V9,Va,Vb,Vc,Vd,Ve,Vf,Vg,Vh,Vi,reduceCtorEq,if_true,if_false,Vj,↓reduceIte,Vk,Vl,Vm,Vn,Vo,Vp,Vq,ne_eq,not_false_eq_true,not_true_eq_false,Vr,Vs,r53_0,r53_1,r53_2,r53_3,r53_4,r53_5,r53_6,r53_7,r53_8,r53_9,r53_10,r53_11,r53_12,r53_13,r53_14,r53_15,r53_16,r53_17,r53_18,r53_19,r53_20,r53_21,r53_22,p53,l53_0,gK,hki,k0,hw,q3i]) | (exfalso; omega)
      all_goals first | done | omega | exact again hJ (k + 1) (weak_mk (by simp only [wk_cons,wk_nil,wk1,vint_eq,vbool_eq,Vt,Z0,Z1,Z2,Z3,Z4,Z5,Z6,Z7,Z8,Z9,Za,Zb,Zc,Zd,Ze,Zf,List.cons.injEq,Zg,Zh,Zi,Zj,Zk,Zl,Zm,Zn,Zo,Zp,beq_self_eq_true,bne_self_eq_false,decide_true,decide_false,Zq,Zr,Zs,Zt,Zu,Zv,Zw,Zx,Zy,Zz,Y0,Y1,Y2,Y3,Y4,Y5,Y6,Y7,Y8,Y9,Ya,Yb,Yc,Yd,Ye,Yf,Yg,Yh,Yi,Yj,Yk,Yl,Ym,Yn,Yo,Yp,Yq,lk,ef,Yr,Ys,Yt,Yu,Yv,Yw,Yx,Yy,Yz,X0,X1,X2,X3,X4,X5,X6,X7,X8,X9,Xa,Xb,Xc,Xd,Xe,Xf,Xg,Xh,Xi,Xj,Xk,Xl,Xm,Xn,Xo,Xp,Xq,Xr,Xs,hv,Xt,ev,Xu,Xv,Xw,Xx,Xy,Xz,W0,W1,W2,W3,W4,W5,W6,W7,W8,W9,Wa,Wb,Wc,Wd,We,Wf,Wg,Wh,Wi,Wj,Wk,Wl,Wm,Wn,Wo,Wp,Wq,Wr,Ws,Wt,Value.oneCell',Wu,Wv,Ww,Wx,true_and,and_true,and_self,implies_true,Wy,Wz,V0,V1,false_implies,V2,V3,V4,V5,V6,V7,V8,V9,Va,Vb,Vc,Vd,Ve,Vf,Vg,Vh,Vi,reduceCtorEq,if_true,if_false,Vj,↓reduceIte,Vk,Vl,Vm,Vn,Vo,Vp,Vq,ne_eq,not_false_eq_true,not_true_eq_false,Vr,Nat.zero_ne_one]; all_goals first | done | rfl)) ⟨by omega, hg⟩ (by omega) | trace_state
    · have hke : k = e.extra.length := by omega
      rw [hke, List.drop_length, exF] at hg
      rw [hg]
      clear hJ
      repeat' first | ((with_reducible (first | refine condD ?_ ?_ | refine condE ?_ ?_ | refine condN ?_ ?_ | refine condI ?_ ?_ | refine condS ?_ ?_)) <;> intro h) | ((with_reducible (first | refine guardD (by with_unfolding_all rfl) ?_ ?_ | refine guardE (by with_unfolding_all rfl) ?_ ?_ | refine guardN (by with_unfolding_all rfl) ?_ ?_ | refine guardI (by with_unfolding_all rfl) ?_ ?_ | refine guardS (by with_unfolding_all rfl) ?_ ?_)) <;> intro h) | (with_reducible refine And.intro ?_ ?_; omega) | (simp only [Z0,Z1,Z2,Z3,Z4,Z5,Z6,Z7,Z8,Z9,Za,Zb,Zc,Zd,Ze,Zf,List.cons.injEq,Zg,Zh,Zi,Zj,Zk,Zl,Zm,Zn,Zo,Zp,beq_self_eq_true,bne_self_eq_false,decide_true,decide_false,Zq,Zr,Zs,Zt,Zu,Zv,Zw,Zx,Zy,Zz,Y0,Y1,Y2,Y3,Y4,Y5,Y6,Y7,Y8,Y9,Ya,Yb,Yc,Yd,Ye,Yf,Yg,Yh,Yi,Yj,Yk,Yl,Ym,Yn,Yo,Yp,Yq,lk,ef,Yr,Ys,Yt,Yu,Yv,Yw,Yx,Yy,Yz,X0,X1,X2,X3,X4,X5,X6,X7,X8,X9,Xa,Xb,Xc,Xd,Xe,Xf,Xg,Xh,Xi,Xj,Xk,Xl,Xm,Xn,Xo,Xp,Xq,Xr,Xs,hv,Xt,ev,Xu,Xv,Xw,Xx,Xy,Xz,W0,W1,W2,W3,W4,W5,W6,W7,W8,W9,Wa,Wb,Wc,Wd,We,Wf,Wg,Wh,Wi,Wj,Wk,Wl,Wm,Wn,Wo,Wp,Wq,Wr,Ws,Wt,Value.oneCell',Wu,Wv,Ww,Wx,true_and,and_true,and_self,implies_true,Wy,Wz,V0,V1,false_implies,V2,V3,V4,V5,V6,V7,V8,V9,Va,Vb,Vc,Vd,Ve,Vf,Vg,Vh,Vi,reduceCtorEq,if_true,if_false,Vj,↓reduceIte,Vk,Vl,Vm,Vn,Vo,Vp,Vq,ne_eq,not_false_eq_true,not_true_eq_false,Vr,Vs,r53_0,r53_1,r53_2,r53_3,r53_4,r53_5,r53_6,r53_7,r53_8,r53_9,r53_10,r53_11,r53_12,r53_13,r53_14,r53_15,r53_16,r53_17,r53_18,r53_19,r53_20,r53_21,r53_22,p53,l53_0]) | (exfalso; omega))
end Go.Proofs.Ytpecmhdepggnoaa
