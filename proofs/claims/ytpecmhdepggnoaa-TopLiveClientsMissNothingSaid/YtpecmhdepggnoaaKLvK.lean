/- Live lists: follows, Follows, by the machine on data. -/
import Derived.Test.YtpecmhdepggnoaaKLvP
namespace Go.Proofs.Ytpecmhdepggnoaa
open Go.RowKit
open Go.Proofs.Ytpecmhdepggnoaa renaming done_eq → Z0, done_eq' → Z1, donet_eq → Z2, donet_eq' → Z3, fin_val → Z4, fin_tup → Z5, fin_agg → Z6, fin_ro → Z7, res_one → Z8, res_more → Z9, rv_t → Za, rv_c → Zb, rv_l → Zc, int_eq → Zg, bool_eq → Zh, toNat_pred → Zr, toNat_succ → Zs, cnd_t → Zu, cnd_f → Zv, grd_tt → Zw, grd_u → Zx, grd_tf → Zy, grd_ft → Zz, grd_ff → Y0, g_skip → Y1, g_ops → Y2, g_seq → Y3, g_block → Y4, g_exit → Y5, g_ret → Y6, x_c → Y7, x_o → Y8, x_l → Y9, x_b → Ya, g_b → Yb, g_nil → Yc, r_all → Yd, o_nil → Ye, g_cond → Yf, o_guard → Yg, o_call → Yh, o_callm → Yi, o_callt → Yj, o_callx → Yk, o_callv → Yl, o_callc → Ym, o_callh → Yn, o_apph → Yo, noav_alias → Yp, noav_nil → Yq, o_mv → Yr, o_pick → Ys, o_bin → Yt, o_never → Yu, o_eqs → Yv, o_eqb → Yw, o_un → Yx, o_conv → Yy, o_load → Yz, o_loadr → X0, o_idxr → X1, o_loads → X2, o_loadsr → X3, o_fld → X4, o_idx → X5, o_idxs → X6, o_len → X7, o_lens → X8, o_ext → X9, o_nilck → Xa, o_slc → Xb, o_slcs → Xc, o_build → Xd, o_minmax → Xe, o_mkfn → Xf, o_mkfnr → Xg, o_alloc → Xh, o_box → Xi, o_boxs → Xj, o_row → Xk, o_rowr → Xl, o_mk → Xm, o_asg → Xn, o_app → Xo, o_appa → Xp, o_store → Xq, o_stores → Xr, o_eqnil → Xs, eqAV → Xt, view_t → Xu, view_c → Xv, view_nil → Xw, view_fn → Xx, look_own → Xy, look_box → Xz, look_junk → W0, look_val → W1, look_nilsl → W2, look_ro → W3, look_roAt → W4, look_agg → W5, look_tup → W6, look_clo → W7, look_alias → W8, look_ref → W9, look_into → Wa, look_fnv → Wb, look_held → Wc, rowOf → Wd, cellsOf → We, argv → Wf, vbin → Wg, vun → Wh, bnd → Wi, elemOf → Wj, putParts → Wk, setAt → Wl, zav → Wm, put_at → Wu, mk_at → Wv, mk_nil → Ww, initSt → Wx
open Go.Proofs.Ytpecmhdepggnoaa.AV.tup renaming injEq → Zd
open Go.Proofs.Ytpecmhdepggnoaa.AV.agg renaming injEq → Ze
open Go.Proofs.Ytpecmhdepggnoaa.AV.ro renaming injEq → Zf
open _root_.Int renaming toNat_natCast → Zi, reduceToNat → Zj, toNat_zero → Zk, toNat_one → Zl, reduceLE → Zm, reduceLT → Zn, reduceBEq → Zo, reduceBNe → Zp, reduceNeg → Zq
open _root_.List renaming length_map → Zt, map_cons → Wy, map_nil → Wz, forall_mem_cons → V0, not_mem_nil → V1, length_cons → V2, length_nil → V3, getD_cons_zero → V4, getD_cons_succ → V5, getD_nil → V6, drop_succ_cons → V7, drop_zero → V8, take_succ_cons → V9, take_zero → Va, set_cons_zero → Vb, set_cons_succ → Vc, all_cons → Vd, all_nil → Ve
open Go.Proofs.Ytpecmhdepggnoaa.ASt renaming rid → Wn, hold → Wo, free → Wp
open Go.Proofs.Ytpecmhdepggnoaa.AV renaming kill → Wq, isHome → Wr, noLoan → Ws, cellOK → Wt
open _root_.Bool renaming and_true → Vf, true_and → Vg, not_true → Vh, not_false → Vi, false_eq_true → Vj
open _root_.Nat renaming reduceEqDiff → Vk, reduceBNe → Vl, reduceAdd → Vm, reduceSub → Vn, reduceMul → Vo, reduceLeDiff → Vp, reduceLT → Vq, one_ne_zero → Vr, zero_ne_one → Vs
open Go.Proofs.Ytpecmhdepggnoaa.AV.val renaming injEq → Vt
set_option linter.unusedSimpArgs false
--@short

theorem getLastD_at {l : List Int} {m : Nat} {d : Int} (h : l.length = m + 1) (hm : m < l.length) : l.getLastD d = l[m] := by
  rw [List.getLastD_eq_getLast?, List.getLast?_eq_getElem?, h, Nat.add_sub_cancel, List.getElem?_eq_getElem hm]; rfl
/-! headend/list.follows -/
def r35_0 : List POp := [⟨2, .boxs (.t 0), none⟩,
  ⟨3, .boxs (.t 1), none⟩,
  ⟨4, .asg (.c (.int .i64 0)), none⟩]
def r35_1 : List POp := [⟨13, .fld 1 (.t 2), none⟩,
  ⟨14, .load (.t 13), none⟩,
  ⟨15, .fld 3 (.t 2), none⟩,
  ⟨16, .load (.t 15), none⟩,
  ⟨17, .len (.t 16), none⟩,
  ⟨18, .bin .add (.t 14) (.t 17), none⟩,
  ⟨19, .fld 1 (.t 3), none⟩,
  ⟨20, .load (.t 19), none⟩,
  ⟨21, .fld 3 (.t 3), none⟩,
  ⟨22, .load (.t 21), none⟩,
  ⟨23, .len (.t 22), none⟩,
  ⟨24, .bin .add (.t 20) (.t 23), none⟩,
  ⟨5, .mv (.t 18), none⟩,
  ⟨6, .mv (.t 24), none⟩]
def r35_2 : List POp := [⟨26, .fld 0 (.t 2), none⟩,
  ⟨27, .load (.t 26), none⟩,
  ⟨28, .fld 0 (.t 3), none⟩,
  ⟨29, .load (.t 28), none⟩,
  ⟨30, .bin .neq (.t 27) (.t 29), none⟩,
  ⟨25, .asg (.t 30), none⟩]
def r35_3 : List POp := [⟨4, .asg (.c (.int .i64 6)), none⟩]
def r35_4 : List POp := [⟨32, .fld 4 (.t 2), none⟩,
  ⟨33, .load (.t 32), none⟩,
  ⟨34, .mv (.t 33), none⟩,
  ⟨35, .loads 5 (.t 2), some (34, true)⟩,
  ⟨36, .loads 5 (.t 3), some (34, true)⟩,
  ⟨37, .call 54 [.t 35, .t 36], some (34, true)⟩,
  ⟨38, .un .not (.t 37), some (34, true)⟩,
  ⟨39, .pick (.t 34) (.t 38) (.c (.bool false)), none⟩,
  ⟨31, .asg (.t 39), none⟩]
def r35_5 : List POp := [⟨4, .asg (.c (.int .i64 11)), none⟩]
def r35_6 : List POp := [⟨41, .fld 1 (.t 3), none⟩,
  ⟨42, .load (.t 41), none⟩,
  ⟨43, .fld 1 (.t 2), none⟩,
  ⟨44, .load (.t 43), none⟩,
  ⟨45, .bin .lss (.t 42) (.t 44), none⟩,
  ⟨46, .mv (.t 45), none⟩,
  ⟨47, .mv (.t 6), some (46, false)⟩,
  ⟨48, .mv (.t 5), some (46, false)⟩,
  ⟨49, .bin .lss (.t 47) (.t 48), some (46, false)⟩,
  ⟨50, .pick (.t 46) (.c (.bool true)) (.t 49), none⟩,
  ⟨40, .asg (.t 50), none⟩]
def r35_7 : List POp := [⟨4, .asg (.c (.int .i64 8)), none⟩]
def r35_8 : List POp := [⟨51, .loads 5 (.t 2), none⟩,
  ⟨52, .call 57 [.t 51], none⟩,
  ⟨53, .loads 5 (.t 3), none⟩,
  ⟨54, .call 57 [.t 53], none⟩,
  ⟨7, .asg (.t 52), none⟩,
  ⟨8, .asg (.t 54), none⟩]
def r35_9 : List POp := [⟨55, .fld 1 (.t 3), none⟩,
  ⟨56, .load (.t 55), none⟩,
  ⟨9, .asg (.t 56), none⟩]
def r35_10 : List POp := [⟨57, .mv (.t 9), none⟩,
  ⟨58, .mv (.t 5), none⟩,
  ⟨59, .bin .lss (.t 57) (.t 58), none⟩]
def r35_12 : List POp := [⟨62, .mv (.t 9), none⟩,
  ⟨63, .fld 1 (.t 2), none⟩,
  ⟨64, .load (.t 63), none⟩,
  ⟨65, .bin .sub (.t 62) (.t 64), none⟩,
  ⟨66, .mv (.t 9), none⟩,
  ⟨67, .fld 1 (.t 3), none⟩,
  ⟨68, .load (.t 67), none⟩,
  ⟨69, .bin .sub (.t 66) (.t 68), none⟩,
  ⟨10, .mv (.t 65), none⟩,
  ⟨11, .mv (.t 69), none⟩]
def r35_13 : List POp := [⟨71, .fld 3 (.t 2), none⟩,
  ⟨72, .load (.t 71), none⟩,
  ⟨73, .mv (.t 10), none⟩,
  ⟨74, .idx 7 (.t 72) (.t 73), none⟩,
  ⟨75, .loads 7 (.t 74), none⟩,
  ⟨76, .fld 3 (.t 3), none⟩,
  ⟨77, .load (.t 76), none⟩,
  ⟨78, .mv (.t 11), none⟩,
  ⟨79, .idx 7 (.t 77) (.t 78), none⟩,
  ⟨80, .loads 7 (.t 79), none⟩,
  ⟨81, .call 58 [.t 75, .t 80], none⟩,
  ⟨82, .un .not (.t 81), none⟩,
  ⟨70, .asg (.t 82), none⟩]
def r35_14 : List POp := [⟨4, .asg (.c (.int .i64 12)), none⟩]
def r35_15 : List POp := [⟨84, .mv (.t 7), none⟩,
  ⟨85, .mv (.t 10), none⟩,
  ⟨86, .idx 1 (.t 84) (.t 85), none⟩,
  ⟨87, .load (.t 86), none⟩,
  ⟨88, .mv (.t 8), none⟩,
  ⟨89, .mv (.t 11), none⟩,
  ⟨90, .idx 1 (.t 88) (.t 89), none⟩,
  ⟨91, .load (.t 90), none⟩,
  ⟨92, .bin .neq (.t 87) (.t 91), none⟩,
  ⟨83, .asg (.t 92), none⟩]
def r35_16 : List POp := [⟨4, .asg (.c (.int .i64 3)), none⟩]
def r35_11 : List POp := [⟨60, .mv (.t 9), none⟩,
  ⟨61, .bin .add (.t 60) (.c (.int .i64 1)), none⟩,
  ⟨9, .asg (.t 61), none⟩]
def r35_17 : List POp := [⟨93, .fld 2 (.t 2), none⟩,
  ⟨94, .load (.t 93), none⟩,
  ⟨12, .asg (.t 94), none⟩]
def r35_18 : List POp := [⟨95, .mv (.t 7), none⟩,
  ⟨96, .len (.t 95), none⟩,
  ⟨97, .bin .gtr (.t 96) (.c (.int .i64 0)), none⟩]
def r35_19 : List POp := [⟨98, .mv (.t 7), none⟩,
  ⟨99, .mv (.t 7), none⟩,
  ⟨100, .len (.t 99), none⟩,
  ⟨101, .bin .sub (.t 100) (.c (.int .i64 1)), none⟩,
  ⟨102, .idx 1 (.t 98) (.t 101), none⟩,
  ⟨103, .load (.t 102), none⟩,
  ⟨12, .asg (.t 103), none⟩]
def r35_20 : List POp := [⟨104, .fld 1 (.t 3), none⟩,
  ⟨105, .load (.t 104), none⟩,
  ⟨106, .mv (.t 5), none⟩,
  ⟨107, .bin .geq (.t 105) (.t 106), none⟩,
  ⟨108, .mv (.t 107), none⟩,
  ⟨109, .fld 2 (.t 3), some (108, true)⟩,
  ⟨110, .load (.t 109), some (108, true)⟩,
  ⟨111, .mv (.t 12), some (108, true)⟩,
  ⟨112, .bin .lss (.t 110) (.t 111), some (108, true)⟩,
  ⟨113, .pick (.t 108) (.t 112) (.c (.bool false)), none⟩]
def r35_21 : List POp := [⟨4, .asg (.c (.int .i64 8)), none⟩]
def r35_22 : List POp := [⟨4, .asg (.c (.int .i64 0)), none⟩]
def l35_0 : PCode := .seq (.seq (.ops r35_10) (.cond (.t 59) (.skip) (.exit 1))) (.seq (.block 2 (.seq (.ops r35_12) (.block 3 (.seq (.ops r35_13) (.cond (.t 70) (.seq (.ops r35_14) (.ret)) (.seq (.ops r35_15) (.cond (.t 83) (.seq (.ops r35_16) (.ret)) (.skip)))))))) (.ops r35_11))
def p35 : PCode := .seq (.ops r35_0) (.seq (.ops r35_1) (.seq (.block 0 (.seq (.ops r35_2) (.cond (.t 25) (.seq (.ops r35_3) (.ret)) (.seq (.ops r35_4) (.cond (.t 31) (.seq (.ops r35_5) (.ret)) (.seq (.ops r35_6) (.cond (.t 40) (.seq (.ops r35_7) (.ret)) (.skip)))))))) (.seq (.ops r35_8) (.seq (.seq (.ops r35_9) (.block 1 (.loop l35_0))) (.seq (.ops r35_17) (.seq (.seq (.ops r35_18) (.cond (.t 97) (.ops r35_19) (.skip))) (.seq (.seq (.ops r35_20) (.cond (.t 113) (.seq (.ops r35_21) (.ret)) (.skip))) (.seq (.ops r35_22) (.ret)))))))))
theorem ok35 : okFunc Try.prog 35 [.t 4] 2 p35 = true := by kernel_rfl
set_option maxHeartbeats 2000000 in
theorem follows_c (old now : PL) (ho : old.ok) (k1 : ckF old = 0) (k2 : ckF now = 0) : CallOK Try.prog 35 [.agg old.av, .agg now.av] (.val (.int .i64 (folF old now))) := by
  refine call_of mixed ok35 rfl ?_
  obtain ⟨_, ⟨a0, a1⟩, _, a4, _⟩ := ckF_0.1 k1
  obtain ⟨_, ⟨b0, b1⟩, _, b4, _⟩ := ckF_0.1 k2
  have c1 := samel_c old now ho
  have c2 := breaks_c old a4
  have c3 := breaks_c now b4
  have la : (brkF old).length = old.ents.length := brkGo_len _ _
  have lb : (brkF now).length = now.ents.length := brkGo_len _ _
  clear k1 k2
  have w1 : IntKind.i64.wrap (old.first + (old.ents.length : Int)) = old.first + old.ents.length := wrap_in (by omega) (by omega)
  have w2 : IntKind.i64.wrap (now.first + (now.ents.length : Int)) = now.first + now.ents.length := wrap_in (by omega) (by omega)
  simp only [PL.av] at c1 c2 c3
  by_cases q1 : old.target = now.target
  case neg =>
    have q1b : (old.target != now.target) = true := bne_iff_ne.2 q1
    rw [show folF old now = 6 by unfold folF; rw [if_pos q1]]
    repeat' first | ((with_reducible (first | refine condD ?_ ?_ | refine condE ?_ ?_ | refine condN ?_ ?_ | refine condI ?_ ?_ | refine condS ?_ ?_)) <;> intro h) | ((with_reducible (first | refine guardD (by with_unfolding_all rfl) ?_ ?_ | refine guardE (by with_unfolding_all rfl) ?_ ?_ | refine guardN (by with_unfolding_all rfl) ?_ ?_ | refine guardI (by with_unfolding_all rfl) ?_ ?_ | refine guardS (by with_unfolding_all rfl) ?_ ?_)) <;> intro h) | (with_reducible refine And.intro ?_ ?_; omega) | (simp only [Z0,Z1,Z2,Z3,Z4,Z5,Z6,Z7,Z8,Z9,Za,Zb,Zc,Zd,Ze,Zf,List.cons.injEq,Zg,Zh,Zi,Zj,Zk,Zl,Zm,Zn,Zo,Zp,beq_self_eq_true,bne_self_eq_false,decide_true,decide_false,Zq,Zr,Zs,Zt,Zu,Zv,Zw,Zx,Zy,Zz,Y0,Y1,Y2,Y3,Y4,Y5,Y6,Y7,Y8,Y9,Ya,Yb,Yc,Yd,Ye,Yf,Yg,Yh,Yi,Yj,Yk,Yl,Ym,Yn,Yo,Yp,Yq,lk,ef,Yr,Ys,Yt,Yu,Yv,Yw,Yx,Yy,Yz,X0,X1,X2,X3,X4,X5,X6,X7,X8,X9,Xa,Xb,Xc,Xd,Xe,Xf,Xg,Xh,Xi,Xj,Xk,Xl,Xm,Xn,Xo,Xp,Xq,Xr,Xs,hv,Xt,ev,Xu,Xv,Xw,Xx,Xy,Xz,W0,W1,W2,W3,W4,W5,W6,W7,W8,W9,Wa,Wb,Wc,Wd,We,Wf,Wg,Wh,Wi,Wj,Wk,Wl,Wm,Wn,Wo,Wp,Wq,Wr,Ws,Wt,Value.oneCell',Wu,Wv,Ww,Wx,true_and,and_true,and_self,implies_true,Wy,Wz,V0,V1,false_implies,V2,V3,V4,V5,V6,V7,V8,V9,Va,Vb,Vc,Vd,Ve,Vf,Vg,Vh,Vi,reduceCtorEq,if_true,if_false,Vj,↓reduceIte,Vk,Vl,Vm,Vn,Vo,Vp,Vq,ne_eq,not_false_eq_true,not_true_eq_false,Vr,Vs,r35_0,r35_1,r35_2,r35_3,r35_4,r35_5,r35_6,r35_7,r35_8,r35_9,r35_10,r35_12,r35_13,r35_14,r35_15,r35_16,r35_11,r35_17,r35_18,r35_19,r35_20,r35_21,r35_22,p35,PL.av,Zt,w1,w2,q1b]) | (exfalso; omega)
    all_goals first | done | trace_state
  have q1b : (old.target != now.target) = false := by rw [q1]; exact bne_self_eq_false _
  by_cases q2 : old.ended = true ∧ sameL old now = false
  · obtain ⟨q2, q3⟩ := q2
    rw [show folF old now = 11 by unfold folF; rw [if_neg (by rw [q1]; exact not_not_intro rfl), if_pos (by rw [q2, q3]; rfl)]]
    rw [q3] at c1
    rw [q2] at c1
    repeat' first | ((with_reducible (first | refine condD ?_ ?_ | refine condE ?_ ?_ | refine condN ?_ ?_ | refine condI ?_ ?_ | refine condS ?_ ?_)) <;> intro h) | ((with_reducible (first | refine guardD (by with_unfolding_all rfl) ?_ ?_ | refine guardE (by with_unfolding_all rfl) ?_ ?_ | refine guardN (by with_unfolding_all rfl) ?_ ?_ | refine guardI (by with_unfolding_all rfl) ?_ ?_ | refine guardS (by with_unfolding_all rfl) ?_ ?_)) <;> intro h) | ((refine callG c1 ?_)) | (with_reducible refine And.intro ?_ ?_; omega) | (simp only [Z0,Z1,Z2,Z3,Z4,Z5,Z6,Z7,Z8,Z9,Za,Zb,Zc,Zd,Ze,Zf,List.cons.injEq,Zg,Zh,Zi,Zj,Zk,Zl,Zm,Zn,Zo,Zp,beq_self_eq_true,bne_self_eq_false,decide_true,decide_false,Zq,Zr,Zs,Zt,Zu,Zv,Zw,Zx,Zy,Zz,Y0,Y1,Y2,Y3,Y4,Y5,Y6,Y7,Y8,Y9,Ya,Yb,Yc,Yd,Ye,Yf,Yg,Yh,Yi,Yj,Yk,Yl,Ym,Yn,Yo,Yp,Yq,lk,ef,Yr,Ys,Yt,Yu,Yv,Yw,Yx,Yy,Yz,X0,X1,X2,X3,X4,X5,X6,X7,X8,X9,Xa,Xb,Xc,Xd,Xe,Xf,Xg,Xh,Xi,Xj,Xk,Xl,Xm,Xn,Xo,Xp,Xq,Xr,Xs,hv,Xt,ev,Xu,Xv,Xw,Xx,Xy,Xz,W0,W1,W2,W3,W4,W5,W6,W7,W8,W9,Wa,Wb,Wc,Wd,We,Wf,Wg,Wh,Wi,Wj,Wk,Wl,Wm,Wn,Wo,Wp,Wq,Wr,Ws,Wt,Value.oneCell',Wu,Wv,Ww,Wx,true_and,and_true,and_self,implies_true,Wy,Wz,V0,V1,false_implies,V2,V3,V4,V5,V6,V7,V8,V9,Va,Vb,Vc,Vd,Ve,Vf,Vg,Vh,Vi,reduceCtorEq,if_true,if_false,Vj,↓reduceIte,Vk,Vl,Vm,Vn,Vo,Vp,Vq,ne_eq,not_false_eq_true,not_true_eq_false,Vr,Vs,r35_0,r35_1,r35_2,r35_3,r35_4,r35_5,r35_6,r35_7,r35_8,r35_9,r35_10,r35_12,r35_13,r35_14,r35_15,r35_16,r35_11,r35_17,r35_18,r35_19,r35_20,r35_21,r35_22,p35,PL.av,Zt,w1,w2,q1b,q2]) | (exfalso; omega)
    all_goals first | done | trace_state
  have hr : folF old now = if now.first < old.first ∨ now.first + now.ents.length < old.first + old.ents.length then 8
      else if folGo (old.ents.drop (now.first - old.first).toNat) ((brkF old).drop (now.first - old.first).toNat) now.ents (brkF now) ≠ 0 then folGo (old.ents.drop (now.first - old.first).toNat) ((brkF old).drop (now.first - old.first).toNat) now.ents (brkF now)
      else if old.first + old.ents.length ≤ now.first ∧ now.breaks < lastB old then 8 else 0 := by
    unfold folF
    rw [if_neg (by rw [q1]; exact not_not_intro rfl), if_neg (by
      intro h
      rw [Bool.and_eq_true] at h
      exact q2 ⟨h.1, by simpa using h.2⟩)]
  rw [hr]
  clear hr
  have q3 : old.ended = false ∨ (old.ended = true ∧ sameL old now = true) := by
    cases h1 : old.ended
    · exact .inl rfl
    · refine .inr ⟨rfl, ?_⟩
      cases h2 : sameL old now
      · exact absurd ⟨h1, h2⟩ q2
      · rfl
  by_cases q4 : now.first < old.first
  · rw [if_pos (.inl q4)]
    rcases q3 with q3 | ⟨q3, q5⟩
    · repeat' first | ((with_reducible (first | refine condD ?_ ?_ | refine condE ?_ ?_ | refine condN ?_ ?_ | refine condI ?_ ?_ | refine condS ?_ ?_)) <;> intro h) | ((with_reducible (first | refine guardD (by with_unfolding_all rfl) ?_ ?_ | refine guardE (by with_unfolding_all rfl) ?_ ?_ | refine guardN (by with_unfolding_all rfl) ?_ ?_ | refine guardI (by with_unfolding_all rfl) ?_ ?_ | refine guardS (by with_unfolding_all rfl) ?_ ?_)) <;> intro h) | (with_reducible refine And.intro ?_ ?_; omega) | (simp only [Z0,Z1,Z2,Z3,Z4,Z5,Z6,Z7,Z8,Z9,Za,Zb,Zc,Zd,Ze,Zf,List.cons.injEq,Zg,Zh,Zi,Zj,Zk,Zl,Zm,Zn,Zo,Zp,beq_self_eq_true,bne_self_eq_false,decide_true,decide_false,Zq,Zr,Zs,Zt,Zu,Zv,Zw,Zx,Zy,Zz,Y0,Y1,Y2,Y3,Y4,Y5,Y6,Y7,Y8,Y9,Ya,Yb,Yc,Yd,Ye,Yf,Yg,Yh,Yi,Yj,Yk,Yl,Ym,Yn,Yo,Yp,Yq,lk,ef,Yr,Ys,Yt,Yu,Yv,Yw,Yx,Yy,Yz,X0,X1,X2,X3,X4,X5,X6,X7,X8,X9,Xa,Xb,Xc,Xd,Xe,Xf,Xg,Xh,Xi,Xj,Xk,Xl,Xm,Xn,Xo,Xp,Xq,Xr,Xs,hv,Xt,ev,Xu,Xv,Xw,Xx,Xy,Xz,W0,W1,W2,W3,W4,W5,W6,W7,W8,W9,Wa,Wb,Wc,Wd,We,Wf,Wg,Wh,Wi,Wj,Wk,Wl,Wm,Wn,Wo,Wp,Wq,Wr,Ws,Wt,Value.oneCell',Wu,Wv,Ww,Wx,true_and,and_true,and_self,implies_true,Wy,Wz,V0,V1,false_implies,V2,V3,V4,V5,V6,V7,V8,V9,Va,Vb,Vc,Vd,Ve,Vf,Vg,Vh,Vi,reduceCtorEq,if_true,if_false,Vj,↓reduceIte,Vk,Vl,Vm,Vn,Vo,Vp,Vq,ne_eq,not_false_eq_true,not_true_eq_false,Vr,Vs,r35_0,r35_1,r35_2,r35_3,r35_4,r35_5,r35_6,r35_7,r35_8,r35_9,r35_10,r35_12,r35_13,r35_14,r35_15,r35_16,r35_11,r35_17,r35_18,r35_19,r35_20,r35_21,r35_22,p35,PL.av,Zt,w1,w2,q1b,q3,q4]) | (exfalso; omega)
      all_goals first | done | trace_state
    · rw [q5, q3] at c1
      repeat' first | ((with_reducible (first | refine condD ?_ ?_ | refine condE ?_ ?_ | refine condN ?_ ?_ | refine condI ?_ ?_ | refine condS ?_ ?_)) <;> intro h) | ((with_reducible (first | refine guardD (by with_unfolding_all rfl) ?_ ?_ | refine guardE (by with_unfolding_all rfl) ?_ ?_ | refine guardN (by with_unfolding_all rfl) ?_ ?_ | refine guardI (by with_unfolding_all rfl) ?_ ?_ | refine guardS (by with_unfolding_all rfl) ?_ ?_)) <;> intro h) | ((refine callG c1 ?_)) | (with_reducible refine And.intro ?_ ?_; omega) | (simp only [Z0,Z1,Z2,Z3,Z4,Z5,Z6,Z7,Z8,Z9,Za,Zb,Zc,Zd,Ze,Zf,List.cons.injEq,Zg,Zh,Zi,Zj,Zk,Zl,Zm,Zn,Zo,Zp,beq_self_eq_true,bne_self_eq_false,decide_true,decide_false,Zq,Zr,Zs,Zt,Zu,Zv,Zw,Zx,Zy,Zz,Y0,Y1,Y2,Y3,Y4,Y5,Y6,Y7,Y8,Y9,Ya,Yb,Yc,Yd,Ye,Yf,Yg,Yh,Yi,Yj,Yk,Yl,Ym,Yn,Yo,Yp,Yq,lk,ef,Yr,Ys,Yt,Yu,Yv,Yw,Yx,Yy,Yz,X0,X1,X2,X3,X4,X5,X6,X7,X8,X9,Xa,Xb,Xc,Xd,Xe,Xf,Xg,Xh,Xi,Xj,Xk,Xl,Xm,Xn,Xo,Xp,Xq,Xr,Xs,hv,Xt,ev,Xu,Xv,Xw,Xx,Xy,Xz,W0,W1,W2,W3,W4,W5,W6,W7,W8,W9,Wa,Wb,Wc,Wd,We,Wf,Wg,Wh,Wi,Wj,Wk,Wl,Wm,Wn,Wo,Wp,Wq,Wr,Ws,Wt,Value.oneCell',Wu,Wv,Ww,Wx,true_and,and_true,and_self,implies_true,Wy,Wz,V0,V1,false_implies,V2,V3,V4,V5,V6,V7,V8,V9,Va,Vb,Vc,Vd,Ve,Vf,Vg,Vh,Vi,reduceCtorEq,if_true,if_false,Vj,↓reduceIte,Vk,Vl,Vm,Vn,Vo,Vp,Vq,ne_eq,not_false_eq_true,not_true_eq_false,Vr,Vs,r35_0,r35_1,r35_2,r35_3,r35_4,r35_5,r35_6,r35_7,r35_8,r35_9,r35_10,r35_12,r35_13,r35_14,r35_15,r35_16,r35_11,r35_17,r35_18,r35_19,r35_20,r35_21,r35_22,p35,PL.av,Zt,w1,w2,q1b,q3,q4]) | (exfalso; omega)
      all_goals first | done | trace_state
  by_cases q6 : now.first + (now.ents.length : Int) < old.first + old.ents.length
  · rw [if_pos (.inr q6)]
    rcases q3 with q3 | ⟨q3, q5⟩
    · repeat' first | ((with_reducible (first | refine condD ?_ ?_ | refine condE ?_ ?_ | refine condN ?_ ?_ | refine condI ?_ ?_ | refine condS ?_ ?_)) <;> intro h) | ((with_reducible (first | refine guardD (by with_unfolding_all rfl) ?_ ?_ | refine guardE (by with_unfolding_all rfl) ?_ ?_ | refine guardN (by with_unfolding_all rfl) ?_ ?_ | refine guardI (by with_unfolding_all rfl) ?_ ?_ | refine guardS (by with_unfolding_all rfl) ?_ ?_)) <;> intro h) | (with_reducible refine And.intro ?_ ?_; omega) | (simp only [Z0,Z1,Z2,Z3,Z4,Z5,Z6,Z7,Z8,Z9,Za,Zb,Zc,Zd,Ze,Zf,List.cons.injEq,Zg,Zh,Zi,Zj,Zk,Zl,Zm,Zn,Zo,Zp,beq_self_eq_true,bne_self_eq_false,decide_true,decide_false,Zq,Zr,Zs,Zt,Zu,Zv,Zw,Zx,Zy,Zz,Y0,Y1,Y2,Y3,Y4,Y5,Y6,Y7,Y8,Y9,Ya,Yb,Yc,Yd,Ye,Yf,Yg,Yh,Yi,Yj,Yk,Yl,Ym,Yn,Yo,Yp,Yq,lk,ef,Yr,Ys,Yt,Yu,Yv,Yw,Yx,Yy,Yz,X0,X1,X2,X3,X4,X5,X6,X7,X8,X9,Xa,Xb,Xc,Xd,Xe,Xf,Xg,Xh,Xi,Xj,Xk,Xl,Xm,Xn,Xo,Xp,Xq,Xr,Xs,hv,Xt,ev,Xu,Xv,Xw,Xx,Xy,Xz,W0,W1,W2,W3,W4,W5,W6,W7,W8,W9,Wa,Wb,Wc,Wd,We,Wf,Wg,Wh,Wi,Wj,Wk,Wl,Wm,Wn,Wo,Wp,Wq,Wr,Ws,Wt,Value.oneCell',Wu,Wv,Ww,Wx,true_and,and_true,and_self,implies_true,Wy,Wz,V0,V1,false_implies,V2,V3,V4,V5,V6,V7,V8,V9,Va,Vb,Vc,Vd,Ve,Vf,Vg,Vh,Vi,reduceCtorEq,if_true,if_false,Vj,↓reduceIte,Vk,Vl,Vm,Vn,Vo,Vp,Vq,ne_eq,not_false_eq_true,not_true_eq_false,Vr,Vs,r35_0,r35_1,r35_2,r35_3,r35_4,r35_5,r35_6,r35_7,r35_8,r35_9,r35_10,r35_12,r35_13,r35_14,r35_15,r35_16,r35_11,r35_17,r35_18,r35_19,r35_20,r35_21,r35_22,p35,PL.av,Zt,w1,w2,q1b,q3,q4,q6]) | (exfalso; omega)
      all_goals first | done | trace_state
    · rw [q5, q3] at c1
      repeat' first | ((with_reducible (first | refine condD ?_ ?_ | refine condE ?_ ?_ | refine condN ?_ ?_ | refine condI ?_ ?_ | refine condS ?_ ?_)) <;> intro h) | ((with_reducible (first | refine guardD (by with_unfolding_all rfl) ?_ ?_ | refine guardE (by with_unfolding_all rfl) ?_ ?_ | refine guardN (by with_unfolding_all rfl) ?_ ?_ | refine guardI (by with_unfolding_all rfl) ?_ ?_ | refine guardS (by with_unfolding_all rfl) ?_ ?_)) <;> intro h) | ((refine callG c1 ?_)) | (with_reducible refine And.intro ?_ ?_; omega) | (simp only [Z0,Z1,Z2,Z3,Z4,Z5,Z6,Z7,Z8,Z9,Za,Zb,Zc,Zd,Ze,Zf,List.cons.injEq,Zg,Zh,Zi,Zj,Zk,Zl,Zm,Zn,Zo,Zp,beq_self_eq_true,bne_self_eq_false,decide_true,decide_false,Zq,Zr,Zs,Zt,Zu,Zv,Zw,Zx,Zy,Zz,Y0,Y1,Y2,Y3,Y4,Y5,Y6,Y7,Y8,Y9,Ya,Yb,Yc,Yd,Ye,Yf,Yg,Yh,Yi,Yj,Yk,Yl,Ym,Yn,Yo,Yp,Yq,lk,ef,Yr,Ys,Yt,Yu,Yv,Yw,Yx,Yy,Yz,X0,X1,X2,X3,X4,X5,X6,X7,X8,X9,Xa,Xb,Xc,Xd,Xe,Xf,Xg,Xh,Xi,Xj,Xk,Xl,Xm,Xn,Xo,Xp,Xq,Xr,Xs,hv,Xt,ev,Xu,Xv,Xw,Xx,Xy,Xz,W0,W1,W2,W3,W4,W5,W6,W7,W8,W9,Wa,Wb,Wc,Wd,We,Wf,Wg,Wh,Wi,Wj,Wk,Wl,Wm,Wn,Wo,Wp,Wq,Wr,Ws,Wt,Value.oneCell',Wu,Wv,Ww,Wx,true_and,and_true,and_self,implies_true,Wy,Wz,V0,V1,false_implies,V2,V3,V4,V5,V6,V7,V8,V9,Va,Vb,Vc,Vd,Ve,Vf,Vg,Vh,Vi,reduceCtorEq,if_true,if_false,Vj,↓reduceIte,Vk,Vl,Vm,Vn,Vo,Vp,Vq,ne_eq,not_false_eq_true,not_true_eq_false,Vr,Vs,r35_0,r35_1,r35_2,r35_3,r35_4,r35_5,r35_6,r35_7,r35_8,r35_9,r35_10,r35_12,r35_13,r35_14,r35_15,r35_16,r35_11,r35_17,r35_18,r35_19,r35_20,r35_21,r35_22,p35,PL.av,Zt,w1,w2,q1b,q3,q4,q6]) | (exfalso; omega)
      all_goals first | done | trace_state
  rw [if_neg (by rintro (h | h) <;> omega)]
  obtain ⟨d, hd⟩ : ∃ d : Nat, d = (now.first - old.first).toNat := ⟨_, rfl⟩
  rw [← hd]
  have hdn : now.first = old.first + d := by omega
  obtain ⟨G, hG⟩ : ∃ G, G = folGo (old.ents.drop d) ((brkF old).drop d) now.ents (brkF now) := ⟨_, rfl⟩
  rw [← hG]
  rcases q3 with q3 | ⟨q3, q5⟩
  case' inr =>
    rw [q5, q3] at c1
    rw [q3] at c2
    repeat' first | ((with_reducible (first | refine condD ?_ ?_ | refine condE ?_ ?_ | refine condN ?_ ?_ | refine condI ?_ ?_ | refine condS ?_ ?_)) <;> intro h) | ((with_reducible (first | refine guardD (by with_unfolding_all rfl) ?_ ?_ | refine guardE (by with_unfolding_all rfl) ?_ ?_ | refine guardN (by with_unfolding_all rfl) ?_ ?_ | refine guardI (by with_unfolding_all rfl) ?_ ?_ | refine guardS (by with_unfolding_all rfl) ?_ ?_)) <;> intro h) | ((refine callG c1 ?_)) | ((refine callG c2 ?_)) | ((refine callG c3 ?_)) | (with_reducible refine And.intro ?_ ?_; omega) | (simp only [Z0,Z1,Z2,Z3,Z4,Z5,Z6,Z7,Z8,Z9,Za,Zb,Zc,Zd,Ze,Zf,List.cons.injEq,Zg,Zh,Zi,Zj,Zk,Zl,Zm,Zn,Zo,Zp,beq_self_eq_true,bne_self_eq_false,decide_true,decide_false,Zq,Zr,Zs,Zt,Zu,Zv,Zw,Zx,Zy,Zz,Y0,Y1,Y2,Y3,Y4,Y5,Y6,Y7,Y8,Y9,Ya,Yb,Yc,Yd,Ye,Yf,Yg,Yh,Yi,Yj,Yk,Yl,Ym,Yn,Yo,Yp,Yq,lk,ef,Yr,Ys,Yt,Yu,Yv,Yw,Yx,Yy,Yz,X0,X1,X2,X3,X4,X5,X6,X7,X8,X9,Xa,Xb,Xc,Xd,Xe,Xf,Xg,Xh,Xi,Xj,Xk,Xl,Xm,Xn,Xo,Xp,Xq,Xr,Xs,hv,Xt,ev,Xu,Xv,Xw,Xx,Xy,Xz,W0,W1,W2,W3,W4,W5,W6,W7,W8,W9,Wa,Wb,Wc,Wd,We,Wf,Wg,Wh,Wi,Wj,Wk,Wl,Wm,Wn,Wo,Wp,Wq,Wr,Ws,Wt,Value.oneCell',Wu,Wv,Ww,Wx,true_and,and_true,and_self,implies_true,Wy,Wz,V0,V1,false_implies,V2,V3,V4,V5,V6,V7,V8,V9,Va,Vb,Vc,Vd,Ve,Vf,Vg,Vh,Vi,reduceCtorEq,if_true,if_false,Vj,↓reduceIte,Vk,Vl,Vm,Vn,Vo,Vp,Vq,ne_eq,not_false_eq_true,not_true_eq_false,Vr,Vs,r35_0,r35_1,r35_2,r35_3,r35_4,r35_5,r35_6,r35_7,r35_8,r35_9,r35_10,r35_12,r35_13,r35_14,r35_15,r35_16,r35_11,r35_17,r35_18,r35_19,r35_20,r35_21,r35_22,p35,PL.av,Zt,w1,w2,q1b,q3,q4,q6]) | (exfalso; omega)
  case' inl =>
    rw [q3] at c2
    repeat' first | ((with_reducible (first | refine condD ?_ ?_ | refine condE ?_ ?_ | refine condN ?_ ?_ | refine condI ?_ ?_ | refine condS ?_ ?_)) <;> intro h) | ((with_reducible (first | refine guardD (by with_unfolding_all rfl) ?_ ?_ | refine guardE (by with_unfolding_all rfl) ?_ ?_ | refine guardN (by with_unfolding_all rfl) ?_ ?_ | refine guardI (by with_unfolding_all rfl) ?_ ?_ | refine guardS (by with_unfolding_all rfl) ?_ ?_)) <;> intro h) | ((refine callG c2 ?_)) | ((refine callG c3 ?_)) | (with_reducible refine And.intro ?_ ?_; omega) | (simp only [Z0,Z1,Z2,Z3,Z4,Z5,Z6,Z7,Z8,Z9,Za,Zb,Zc,Zd,Ze,Zf,List.cons.injEq,Zg,Zh,Zi,Zj,Zk,Zl,Zm,Zn,Zo,Zp,beq_self_eq_true,bne_self_eq_false,decide_true,decide_false,Zq,Zr,Zs,Zt,Zu,Zv,Zw,Zx,Zy,Zz,Y0,Y1,Y2,Y3,Y4,Y5,Y6,Y7,Y8,Y9,Ya,Yb,Yc,Yd,Ye,Yf,Yg,Yh,Yi,Yj,Yk,Yl,Ym,Yn,Yo,Yp,Yq,lk,ef,Yr,Ys,Yt,Yu,Yv,Yw,Yx,Yy,Yz,X0,X1,X2,X3,X4,X5,X6,X7,X8,X9,Xa,Xb,Xc,Xd,Xe,Xf,Xg,Xh,Xi,Xj,Xk,Xl,Xm,Xn,Xo,Xp,Xq,Xr,Xs,hv,Xt,ev,Xu,Xv,Xw,Xx,Xy,Xz,W0,W1,W2,W3,W4,W5,W6,W7,W8,W9,Wa,Wb,Wc,Wd,We,Wf,Wg,Wh,Wi,Wj,Wk,Wl,Wm,Wn,Wo,Wp,Wq,Wr,Ws,Wt,Value.oneCell',Wu,Wv,Ww,Wx,true_and,and_true,and_self,implies_true,Wy,Wz,V0,V1,false_implies,V2,V3,V4,V5,V6,V7,V8,V9,Va,Vb,Vc,Vd,Ve,Vf,Vg,Vh,Vi,reduceCtorEq,if_true,if_false,Vj,↓reduceIte,Vk,Vl,Vm,Vn,Vo,Vp,Vq,ne_eq,not_false_eq_true,not_true_eq_false,Vr,Vs,r35_0,r35_1,r35_2,r35_3,r35_4,r35_5,r35_6,r35_7,r35_8,r35_9,r35_10,r35_12,r35_13,r35_14,r35_15,r35_16,r35_11,r35_17,r35_18,r35_19,r35_20,r35_21,r35_22,p35,PL.av,Zt,w1,w2,q1b,q3,q4,q6]) | (exfalso; omega)
  all_goals (
    refine loopS (fun k : Nat => mk [(2, .box old.av), (3, .box now.av), (5, .val (.int .i64 (old.first + old.ents.length))), (7, .ro ((brkF old).map oneI)), (8, .ro ((brkF now).map oneI)), (9, .val (.int .i64 (now.first + (k : Int))))])
      (fun k => k ≤ old.ents.length - d ∧ G = folGo (old.ents.drop (d + k)) ((brkF old).drop (d + k)) (now.ents.drop k) ((brkF now).drop k)) (fun k => old.ents.length - d - k) 0 (weak_mk ?_) ⟨Nat.zero_le _, hG⟩ ?_
    · simp only [PL.av, q3]
      simp only [wk_cons,wk_nil,wk1,vint_eq,vbool_eq,Vt,Z0,Z1,Z2,Z3,Z4,Z5,Z6,Z7,Z8,Z9,Za,Zb,Zc,Zd,Ze,Zf,List.cons.injEq,Zg,Zh,Zi,Zj,Zk,Zl,Zm,Zn,Zo,Zp,beq_self_eq_true,bne_self_eq_false,decide_true,decide_false,Zq,Zr,Zs,Zt,Zu,Zv,Zw,Zx,Zy,Zz,Y0,Y1,Y2,Y3,Y4,Y5,Y6,Y7,Y8,Y9,Ya,Yb,Yc,Yd,Ye,Yf,Yg,Yh,Yi,Yj,Yk,Yl,Ym,Yn,Yo,Yp,Yq,lk,ef,Yr,Ys,Yt,Yu,Yv,Yw,Yx,Yy,Yz,X0,X1,X2,X3,X4,X5,X6,X7,X8,X9,Xa,Xb,Xc,Xd,Xe,Xf,Xg,Xh,Xi,Xj,Xk,Xl,Xm,Xn,Xo,Xp,Xq,Xr,Xs,hv,Xt,ev,Xu,Xv,Xw,Xx,Xy,Xz,W0,W1,W2,W3,W4,W5,W6,W7,W8,W9,Wa,Wb,Wc,Wd,We,Wf,Wg,Wh,Wi,Wj,Wk,Wl,Wm,Wn,Wo,Wp,Wq,Wr,Ws,Wt,Value.oneCell',Wu,Wv,Ww,Wx,true_and,and_true,and_self,implies_true,Wy,Wz,V0,V1,false_implies,V2,V3,V4,V5,V6,V7,V8,V9,Va,Vb,Vc,Vd,Ve,Vf,Vg,Vh,Vi,reduceCtorEq,if_true,if_false,Vj,↓reduceIte,Vk,Vl,Vm,Vn,Vo,Vp,Vq,ne_eq,not_false_eq_true,not_true_eq_false,Vr,Nat.zero_ne_one]
      all_goals first | done | rfl | simp | trace_state
    rintro J hJ k ⟨hk, hg⟩
    simp only [PL.av, q3] at hJ ⊢
    simp only [Z0,Z1,Z2,Z3,Z4,Z5,Z6,Z7,Z8,Z9,Za,Zb,Zc,Zd,Ze,Zf,List.cons.injEq,Zg,Zh,Zi,Zj,Zk,Zl,Zm,Zn,Zo,Zp,beq_self_eq_true,bne_self_eq_false,decide_true,decide_false,Zq,Zr,Zs,Zt,Zu,Zv,Zw,Zx,Zy,Zz,Y0,Y1,Y2,Y3,Y4,Y5,Y6,Y7,Y8,Y9,Ya,Yb,Yc,Yd,Ye,Yf,Yg,Yh,Yi,Yj,Yk,Yl,Ym,Yn,Yo,Yp,Yq,lk,ef,Yr,Ys,Yt,Yu,Yv,Yw,Yx,Yy,Yz,X0,X1,X2,X3,X4,X5,X6,X7,X8,X9,Xa,Xb,Xc,Xd,Xe,Xf,Xg,Xh,Xi,Xj,Xk,Xl,Xm,Xn,Xo,Xp,Xq,Xr,Xs,hv,Xt,ev,Xu,Xv,Xw,Xx,Xy,Xz,W0,W1,W2,W3,W4,W5,W6,W7,W8,W9,Wa,Wb,Wc,Wd,We,Wf,Wg,Wh,Wi,Wj,Wk,Wl,Wm,Wn,Wo,Wp,Wq,Wr,Ws,Wt,Value.oneCell',Wu,Wv,Ww,Wx,true_and,and_true,and_self,implies_true,Wy,Wz,V0,V1,false_implies,V2,V3,V4,V5,V6,V7,V8,V9,Va,Vb,Vc,Vd,Ve,Vf,Vg,Vh,Vi,reduceCtorEq,if_true,if_false,Vj,↓reduceIte,Vk,Vl,Vm,Vn,Vo,Vp,Vq,ne_eq,not_false_eq_true,not_true_eq_false,Vr,Vs,r35_0,r35_1,r35_2,r35_3,r35_4,r35_5,r35_6,r35_7,r35_8,r35_9,r35_10,r35_12,r35_13,r35_14,r35_15,r35_16,r35_11,r35_17,r35_18,r35_19,r35_20,r35_21,r35_22,p35,l35_0]
    refine condD (fun h => ?_) (fun h => ?_)
    · obtain ⟨p, hp⟩ : ∃ p : Nat, p = d + k := ⟨_, rfl⟩
      have hpl : p < old.ents.length := by omega
      have hkl : k < now.ents.length := by omega
      have hpa : p < (brkF old).length := by omega
      have hka : k < (brkF now).length := by omega
      have v1 : IntKind.i64.wrap (now.first + (k : Int) - old.first) = (p : Int) := by rw [wrap_in (by omega) (by omega)]; omega
      have v2 : IntKind.i64.wrap (now.first + (k : Int) - now.first) = (k : Int) := by rw [wrap_in (by omega) (by omega)]; omega
      have v3 : IntKind.i64.wrap (now.first + (k : Int) + 1) = now.first + ((k + 1 : Nat) : Int) := by rw [wrap_in (by omega) (by omega)]; omega
      have p0 : (0 : Int) ≤ (p : Int) := by omega
      have p1 : (p : Int) < old.ents.length := by omega
      have p2 : (p : Int) < (brkF old).length := by omega
      have k0 : (0 : Int) ≤ (k : Int) := by omega
      have k1 : (k : Int) < now.ents.length := by omega
      have k2 : (k : Int) < (brkF now).length := by omega
      have gA := getD_map (f := LE.av) (d := []) hpl
      have gB := getD_map (f := LE.av) (d := []) hkl
      have ga := getD_map (f := oneI) (d := []) hpa
      have gb := getD_map (f := oneI) (d := []) hka
      have e1 := samee_c old.ents[p] now.ents[k] (ho.2 _ (List.getElem_mem hpl))
      rw [← hp, List.drop_eq_getElem_cons hpl, List.drop_eq_getElem_cons hpa, List.drop_eq_getElem_cons hkl, List.drop_eq_getElem_cons hka, folGo] at hg
      have hp1 : p + 1 = d + (k + 1) := by omega
      rw [hp1] at hg
      simp only [oneI] at ga gb
      generalize old.ents[p] = x at *
      generalize now.ents[k] = y at *
      generalize (brkF old)[p] = u at *
      generalize (brkF now)[k] = v at *
      simp only [LE.av] at gA gB e1
      cases q7 : sameE x y
      · rw [if_pos q7] at hg
        rw [q7] at e1
        rw [hg, if_pos (by decide)]
        repeat' first | ((with_reducible (first | refine condD ?_ ?_ | refine condE ?_ ?_ | refine condN ?_ ?_ | refine condI ?_ ?_ | refine condS ?_ ?_)) <;> intro h) | ((with_reducible (first | refine guardD (by with_unfolding_all rfl) ?_ ?_ | refine guardE (by with_unfolding_all rfl) ?_ ?_ | refine guardN (by with_unfolding_all rfl) ?_ ?_ | refine guardI (by with_unfolding_all rfl) ?_ ?_ | refine guardS (by with_unfolding_all rfl) ?_ ?_)) <;> intro h) | ((refine callG e1 ?_)) | (with_reducible refine And.intro ?_ ?_; omega) | (simp only [Z0,Z1,Z2,Z3,Z4,Z5,Z6,Z7,Z8,Z9,Za,Zb,Zc,Zd,Ze,Zf,List.cons.injEq,Zg,Zh,Zi,Zj,Zk,Zl,Zm,Zn,Zo,Zp,beq_self_eq_true,bne_self_eq_false,decide_true,decide_false,Zq,Zr,Zs,Zt,Zu,Zv,Zw,Zx,Zy,Zz,Y0,Y1,Y2,Y3,Y4,Y5,Y6,Y7,Y8,Y9,Ya,Yb,Yc,Yd,Ye,Yf,Yg,Yh,Yi,Yj,Yk,Yl,Ym,Yn,Yo,Yp,Yq,lk,ef,Yr,Ys,Yt,Yu,Yv,Yw,Yx,Yy,Yz,X0,X1,X2,X3,X4,X5,X6,X7,X8,X9,Xa,Xb,Xc,Xd,Xe,Xf,Xg,Xh,Xi,Xj,Xk,Xl,Xm,Xn,Xo,Xp,Xq,Xr,Xs,hv,Xt,ev,Xu,Xv,Xw,Xx,Xy,Xz,W0,W1,W2,W3,W4,W5,W6,W7,W8,W9,Wa,Wb,Wc,Wd,We,Wf,Wg,Wh,Wi,Wj,Wk,Wl,Wm,Wn,Wo,Wp,Wq,Wr,Ws,Wt,Value.oneCell',Wu,Wv,Ww,Wx,true_and,and_true,and_self,implies_true,Wy,Wz,V0,V1,false_implies,V2,V3,V4,V5,V6,V7,V8,V9,Va,Vb,Vc,Vd,Ve,Vf,Vg,Vh,Vi,reduceCtorEq,if_true,if_false,Vj,↓reduceIte,Vk,Vl,Vm,Vn,Vo,Vp,Vq,ne_eq,not_false_eq_true,not_true_eq_false,Vr,Vs,r35_0,r35_1,r35_2,r35_3,r35_4,r35_5,r35_6,r35_7,r35_8,r35_9,r35_10,r35_12,r35_13,r35_14,r35_15,r35_16,r35_11,r35_17,r35_18,r35_19,r35_20,r35_21,r35_22,p35,l35_0,PL.av,Zt,h,v1,v2,v3,p0,p1,p2,k0,k1,k2,gA,gB,ga,gb]) | (exfalso; omega)
        all_goals first | done | trace_state
      rw [if_neg (by rw [q7]; decide)] at hg
      rw [q7] at e1
      by_cases q8 : u = v
      · rw [if_neg (by rw [q8]; exact not_not_intro rfl)] at hg
        have q8b : (u != v) = false := by rw [q8]; exact bne_self_eq_false _
        repeat' first | ((with_reducible (first | refine condD ?_ ?_ | refine condE ?_ ?_ | refine condN ?_ ?_ | refine condI ?_ ?_ | refine condS ?_ ?_)) <;> intro h) | ((with_reducible (first | refine guardD (by with_unfolding_all rfl) ?_ ?_ | refine guardE (by with_unfolding_all rfl) ?_ ?_ | refine guardN (by with_unfolding_all rfl) ?_ ?_ | refine guardI (by with_unfolding_all rfl) ?_ ?_ | refine guardS (by with_unfolding_all rfl) ?_ ?_)) <;> intro h) | ((refine callG e1 ?_)) | (with_reducible refine And.intro ?_ ?_; omega) | (simp only [Z0,Z1,Z2,Z3,Z4,Z5,Z6,Z7,Z8,Z9,Za,Zb,Zc,Zd,Ze,Zf,List.cons.injEq,Zg,Zh,Zi,Zj,Zk,Zl,Zm,Zn,Zo,Zp,beq_self_eq_true,bne_self_eq_false,decide_true,decide_false,Zq,Zr,Zs,Zt,Zu,Zv,Zw,Zx,Zy,Zz,Y0,Y1,Y2,Y3,Y4,Y5,Y6,Y7,Y8,Y9,Ya,Yb,Yc,Yd,Ye,Yf,Yg,Yh,Yi,Yj,Yk,Yl,Ym,Yn,Yo,Yp,Yq,lk,ef,Yr,Ys,Yt,Yu,Yv,Yw,Yx,Yy,Yz,X0,X1,X2,X3,X4,X5,X6,X7,X8,X9,Xa,Xb,Xc,Xd,Xe,Xf,Xg,Xh,Xi,Xj,Xk,Xl,Xm,Xn,Xo,Xp,Xq,Xr,Xs,hv,Xt,ev,Xu,Xv,Xw,Xx,Xy,Xz,W0,W1,W2,W3,W4,W5,W6,W7,W8,W9,Wa,Wb,Wc,Wd,We,Wf,Wg,Wh,Wi,Wj,Wk,Wl,Wm,Wn,Wo,Wp,Wq,Wr,Ws,Wt,Value.oneCell',Wu,Wv,Ww,Wx,true_and,and_true,and_self,implies_true,Wy,Wz,V0,V1,false_implies,V2,V3,V4,V5,V6,V7,V8,V9,Va,Vb,Vc,Vd,Ve,Vf,Vg,Vh,Vi,reduceCtorEq,if_true,if_false,Vj,↓reduceIte,Vk,Vl,Vm,Vn,Vo,Vp,Vq,ne_eq,not_false_eq_true,not_true_eq_false,Vr,Vs,r35_0,r35_1,r35_2,r35_3,r35_4,r35_5,r35_6,r35_7,r35_8,r35_9,r35_10,r35_12,r35_13,r35_14,r35_15,r35_16,r35_11,r35_17,r35_18,r35_19,r35_20,r35_21,r35_22,p35,l35_0,PL.av,Zt,h,v1,v2,v3,p0,p1,p2,k0,k1,k2,gA,gB,ga,gb,q8b]) | (exfalso; omega)
        all_goals first | done | omega | exact again hJ (k + 1) (weak_mk (by simp only [wk_cons,wk_nil,wk1,vint_eq,vbool_eq,Vt,Z0,Z1,Z2,Z3,Z4,Z5,Z6,Z7,Z8,Z9,Za,Zb,Zc,Zd,Ze,Zf,List.cons.injEq,Zg,Zh,Zi,Zj,Zk,Zl,Zm,Zn,Zo,Zp,beq_self_eq_true,bne_self_eq_false,decide_true,decide_false,Zq,Zr,Zs,Zt,Zu,Zv,Zw,Zx,Zy,Zz,Y0,Y1,Y2,Y3,Y4,Y5,Y6,Y7,Y8,Y9,Ya,Yb,Yc,Yd,Ye,Yf,Yg,Yh,Yi,Yj,Yk,Yl,Ym,Yn,Yo,Yp,Yq,lk,ef,Yr,Ys,Yt,Yu,Yv,Yw,Yx,Yy,Yz,X0,X1,X2,X3,X4,X5,X6,X7,X8,X9,Xa,Xb,Xc,Xd,Xe,Xf,Xg,Xh,Xi,Xj,Xk,Xl,Xm,Xn,Xo,Xp,Xq,Xr,Xs,hv,Xt,ev,Xu,Xv,Xw,Xx,Xy,Xz,W0,W1,W2,W3,W4,W5,W6,W7,W8,W9,Wa,Wb,Wc,Wd,We,Wf,Wg,Wh,Wi,Wj,Wk,Wl,Wm,Wn,Wo,Wp,Wq,Wr,Ws,Wt,Value.oneCell',Wu,Wv,Ww,Wx,true_and,and_true,and_self,implies_true,Wy,Wz,V0,V1,false_implies,V2,V3,V4,V5,V6,V7,V8,V9,Va,Vb,Vc,Vd,Ve,Vf,Vg,Vh,Vi,reduceCtorEq,if_true,if_false,Vj,↓reduceIte,Vk,Vl,Vm,Vn,Vo,Vp,Vq,ne_eq,not_false_eq_true,not_true_eq_false,Vr,Nat.zero_ne_one]; all_goals first | done | rfl)) ⟨by omega, hg⟩ (by omega) | trace_state
      · rw [if_pos q8] at hg
        have q8b : (u != v) = true := bne_iff_ne.2 q8
        rw [hg, if_pos (by decide)]
        repeat' first | ((with_reducible (first | refine condD ?_ ?_ | refine condE ?_ ?_ | refine condN ?_ ?_ | refine condI ?_ ?_ | refine condS ?_ ?_)) <;> intro h) | ((with_reducible (first | refine guardD (by with_unfolding_all rfl) ?_ ?_ | refine guardE (by with_unfolding_all rfl) ?_ ?_ | refine guardN (by with_unfolding_all rfl) ?_ ?_ | refine guardI (by with_unfolding_all rfl) ?_ ?_ | refine guardS (by with_unfolding_all rfl) ?_ ?_)) <;> intro h) | ((refine callG e1 ?_)) | (with_reducible refine And.intro ?_ ?_; omega) | (simp only [Z0,Z1,Z2,Z3,Z4,Z5,Z6,Z7,Z8,Z9,Za,Zb,Zc,Zd,Ze,Zf,List.cons.injEq,Zg,Zh,Zi,Zj,Zk,Zl,Zm,Zn,Zo,Zp,beq_self_eq_true,bne_self_eq_false,decide_true,decide_false,Zq,Zr,Zs,Zt,Zu,Zv,Zw,Zx,Zy,Zz,Y0,Y1,Y2,Y3,Y4,Y5,Y6,Y7,Y8,Y9,Ya,Yb,Yc,Yd,Ye,Yf,Yg,Yh,Yi,Yj,Yk,Yl,Ym,Yn,Yo,Yp,Yq,lk,ef,Yr,Ys,Yt,Yu,Yv,Yw,Yx,Yy,Yz,X0,X1,X2,X3,X4,X5,X6,X7,X8,X9,Xa,Xb,Xc,Xd,Xe,Xf,Xg,Xh,Xi,Xj,Xk,Xl,Xm,Xn,Xo,Xp,Xq,Xr,Xs,hv,Xt,ev,Xu,Xv,Xw,Xx,Xy,Xz,W0,W1,W2,W3,W4,W5,W6,W7,W8,W9,Wa,Wb,Wc,Wd,We,Wf,Wg,Wh,Wi,Wj,Wk,Wl,Wm,Wn,Wo,Wp,Wq,Wr,Ws,Wt,Value.oneCell',Wu,Wv,Ww,Wx,true_and,and_true,and_self,implies_true,Wy,Wz,V0,V1,false_implies,V2,V3,V4,V5,V6,V7,V8,V9,Va,Vb,Vc,Vd,Ve,Vf,Vg,Vh,Vi,reduceCtorEq,if_true,if_false,Vj,↓reduceIte,Vk,Vl,Vm,Vn,Vo,Vp,Vq,ne_eq,not_false_eq_true,not_true_eq_false,Vr,Vs,r35_0,r35_1,r35_2,r35_3,r35_4,r35_5,r35_6,r35_7,r35_8,r35_9,r35_10,r35_12,r35_13,r35_14,r35_15,r35_16,r35_11,r35_17,r35_18,r35_19,r35_20,r35_21,r35_22,p35,l35_0,PL.av,Zt,h,v1,v2,v3,p0,p1,p2,k0,k1,k2,gA,gB,ga,gb,q8b]) | (exfalso; omega)
        all_goals first | done | trace_state
    · have hg0 : G = 0 := by
        rw [hg, List.drop_of_length_le (l := old.ents) (by omega)]
        unfold folGo
        rfl
      rw [if_neg (by rw [hg0]; exact not_not_intro rfl)]
      clear hJ
      by_cases q7 : old.ents.length = 0
      · have hz : ¬ (0 : Int) < (brkF old).length := by omega
        have hl : lastB old = old.breaks := by
          unfold lastB; rw [List.eq_nil_of_length_eq_zero (la.trans q7)]; rfl
        rw [hl]
        by_cases q8 : old.first + (old.ents.length : Int) ≤ now.first
        · by_cases q9 : now.breaks < old.breaks
          · rw [if_pos ⟨q8, q9⟩]
            repeat' first | ((with_reducible (first | refine condD ?_ ?_ | refine condE ?_ ?_ | refine condN ?_ ?_ | refine condI ?_ ?_ | refine condS ?_ ?_)) <;> intro h) | ((with_reducible (first | refine guardD (by with_unfolding_all rfl) ?_ ?_ | refine guardE (by with_unfolding_all rfl) ?_ ?_ | refine guardN (by with_unfolding_all rfl) ?_ ?_ | refine guardI (by with_unfolding_all rfl) ?_ ?_ | refine guardS (by with_unfolding_all rfl) ?_ ?_)) <;> intro h) | (with_reducible refine And.intro ?_ ?_; omega) | (simp only [Z0,Z1,Z2,Z3,Z4,Z5,Z6,Z7,Z8,Z9,Za,Zb,Zc,Zd,Ze,Zf,List.cons.injEq,Zg,Zh,Zi,Zj,Zk,Zl,Zm,Zn,Zo,Zp,beq_self_eq_true,bne_self_eq_false,decide_true,decide_false,Zq,Zr,Zs,Zt,Zu,Zv,Zw,Zx,Zy,Zz,Y0,Y1,Y2,Y3,Y4,Y5,Y6,Y7,Y8,Y9,Ya,Yb,Yc,Yd,Ye,Yf,Yg,Yh,Yi,Yj,Yk,Yl,Ym,Yn,Yo,Yp,Yq,lk,ef,Yr,Ys,Yt,Yu,Yv,Yw,Yx,Yy,Yz,X0,X1,X2,X3,X4,X5,X6,X7,X8,X9,Xa,Xb,Xc,Xd,Xe,Xf,Xg,Xh,Xi,Xj,Xk,Xl,Xm,Xn,Xo,Xp,Xq,Xr,Xs,hv,Xt,ev,Xu,Xv,Xw,Xx,Xy,Xz,W0,W1,W2,W3,W4,W5,W6,W7,W8,W9,Wa,Wb,Wc,Wd,We,Wf,Wg,Wh,Wi,Wj,Wk,Wl,Wm,Wn,Wo,Wp,Wq,Wr,Ws,Wt,Value.oneCell',Wu,Wv,Ww,Wx,true_and,and_true,and_self,implies_true,Wy,Wz,V0,V1,false_implies,V2,V3,V4,V5,V6,V7,V8,V9,Va,Vb,Vc,Vd,Ve,Vf,Vg,Vh,Vi,reduceCtorEq,if_true,if_false,Vj,↓reduceIte,Vk,Vl,Vm,Vn,Vo,Vp,Vq,ne_eq,not_false_eq_true,not_true_eq_false,Vr,Vs,r35_0,r35_1,r35_2,r35_3,r35_4,r35_5,r35_6,r35_7,r35_8,r35_9,r35_10,r35_12,r35_13,r35_14,r35_15,r35_16,r35_11,r35_17,r35_18,r35_19,r35_20,r35_21,r35_22,p35,l35_0,PL.av,Zt,h,hz,q8,q9]) | (exfalso; omega)
            all_goals first | done | trace_state
          · rw [if_neg (fun h => q9 h.2)]
            repeat' first | ((with_reducible (first | refine condD ?_ ?_ | refine condE ?_ ?_ | refine condN ?_ ?_ | refine condI ?_ ?_ | refine condS ?_ ?_)) <;> intro h) | ((with_reducible (first | refine guardD (by with_unfolding_all rfl) ?_ ?_ | refine guardE (by with_unfolding_all rfl) ?_ ?_ | refine guardN (by with_unfolding_all rfl) ?_ ?_ | refine guardI (by with_unfolding_all rfl) ?_ ?_ | refine guardS (by with_unfolding_all rfl) ?_ ?_)) <;> intro h) | (with_reducible refine And.intro ?_ ?_; omega) | (simp only [Z0,Z1,Z2,Z3,Z4,Z5,Z6,Z7,Z8,Z9,Za,Zb,Zc,Zd,Ze,Zf,List.cons.injEq,Zg,Zh,Zi,Zj,Zk,Zl,Zm,Zn,Zo,Zp,beq_self_eq_true,bne_self_eq_false,decide_true,decide_false,Zq,Zr,Zs,Zt,Zu,Zv,Zw,Zx,Zy,Zz,Y0,Y1,Y2,Y3,Y4,Y5,Y6,Y7,Y8,Y9,Ya,Yb,Yc,Yd,Ye,Yf,Yg,Yh,Yi,Yj,Yk,Yl,Ym,Yn,Yo,Yp,Yq,lk,ef,Yr,Ys,Yt,Yu,Yv,Yw,Yx,Yy,Yz,X0,X1,X2,X3,X4,X5,X6,X7,X8,X9,Xa,Xb,Xc,Xd,Xe,Xf,Xg,Xh,Xi,Xj,Xk,Xl,Xm,Xn,Xo,Xp,Xq,Xr,Xs,hv,Xt,ev,Xu,Xv,Xw,Xx,Xy,Xz,W0,W1,W2,W3,W4,W5,W6,W7,W8,W9,Wa,Wb,Wc,Wd,We,Wf,Wg,Wh,Wi,Wj,Wk,Wl,Wm,Wn,Wo,Wp,Wq,Wr,Ws,Wt,Value.oneCell',Wu,Wv,Ww,Wx,true_and,and_true,and_self,implies_true,Wy,Wz,V0,V1,false_implies,V2,V3,V4,V5,V6,V7,V8,V9,Va,Vb,Vc,Vd,Ve,Vf,Vg,Vh,Vi,reduceCtorEq,if_true,if_false,Vj,↓reduceIte,Vk,Vl,Vm,Vn,Vo,Vp,Vq,ne_eq,not_false_eq_true,not_true_eq_false,Vr,Vs,r35_0,r35_1,r35_2,r35_3,r35_4,r35_5,r35_6,r35_7,r35_8,r35_9,r35_10,r35_12,r35_13,r35_14,r35_15,r35_16,r35_11,r35_17,r35_18,r35_19,r35_20,r35_21,r35_22,p35,l35_0,PL.av,Zt,h,hz,q8,q9]) | (exfalso; omega)
            all_goals first | done | trace_state
        · rw [if_neg (fun h => q8 h.1)]
          repeat' first | ((with_reducible (first | refine condD ?_ ?_ | refine condE ?_ ?_ | refine condN ?_ ?_ | refine condI ?_ ?_ | refine condS ?_ ?_)) <;> intro h) | ((with_reducible (first | refine guardD (by with_unfolding_all rfl) ?_ ?_ | refine guardE (by with_unfolding_all rfl) ?_ ?_ | refine guardN (by with_unfolding_all rfl) ?_ ?_ | refine guardI (by with_unfolding_all rfl) ?_ ?_ | refine guardS (by with_unfolding_all rfl) ?_ ?_)) <;> intro h) | (with_reducible refine And.intro ?_ ?_; omega) | (simp only [Z0,Z1,Z2,Z3,Z4,Z5,Z6,Z7,Z8,Z9,Za,Zb,Zc,Zd,Ze,Zf,List.cons.injEq,Zg,Zh,Zi,Zj,Zk,Zl,Zm,Zn,Zo,Zp,beq_self_eq_true,bne_self_eq_false,decide_true,decide_false,Zq,Zr,Zs,Zt,Zu,Zv,Zw,Zx,Zy,Zz,Y0,Y1,Y2,Y3,Y4,Y5,Y6,Y7,Y8,Y9,Ya,Yb,Yc,Yd,Ye,Yf,Yg,Yh,Yi,Yj,Yk,Yl,Ym,Yn,Yo,Yp,Yq,lk,ef,Yr,Ys,Yt,Yu,Yv,Yw,Yx,Yy,Yz,X0,X1,X2,X3,X4,X5,X6,X7,X8,X9,Xa,Xb,Xc,Xd,Xe,Xf,Xg,Xh,Xi,Xj,Xk,Xl,Xm,Xn,Xo,Xp,Xq,Xr,Xs,hv,Xt,ev,Xu,Xv,Xw,Xx,Xy,Xz,W0,W1,W2,W3,W4,W5,W6,W7,W8,W9,Wa,Wb,Wc,Wd,We,Wf,Wg,Wh,Wi,Wj,Wk,Wl,Wm,Wn,Wo,Wp,Wq,Wr,Ws,Wt,Value.oneCell',Wu,Wv,Ww,Wx,true_and,and_true,and_self,implies_true,Wy,Wz,V0,V1,false_implies,V2,V3,V4,V5,V6,V7,V8,V9,Va,Vb,Vc,Vd,Ve,Vf,Vg,Vh,Vi,reduceCtorEq,if_true,if_false,Vj,↓reduceIte,Vk,Vl,Vm,Vn,Vo,Vp,Vq,ne_eq,not_false_eq_true,not_true_eq_false,Vr,Vs,r35_0,r35_1,r35_2,r35_3,r35_4,r35_5,r35_6,r35_7,r35_8,r35_9,r35_10,r35_12,r35_13,r35_14,r35_15,r35_16,r35_11,r35_17,r35_18,r35_19,r35_20,r35_21,r35_22,p35,l35_0,PL.av,Zt,h,hz,q8]) | (exfalso; omega)
          all_goals first | done | trace_state
      · obtain ⟨m, hm⟩ : ∃ m, (brkF old).length = m + 1 := ⟨(brkF old).length - 1, by omega⟩
        have hml : m < (brkF old).length := by omega
        have hz : (0 : Int) < (brkF old).length := by omega
        have wm : IntKind.i64.wrap (((brkF old).length : Int) - 1) = (m : Int) := by rw [wrap_in (by omega) (by omega)]; omega
        have m0 : (0 : Int) ≤ (m : Int) := by omega
        have m1 : (m : Int) < (brkF old).length := by omega
        have gm := getD_map (f := oneI) (d := []) hml
        simp only [oneI] at gm
        rw [show lastB old = (brkF old)[m] from getLastD_at hm hml]
        generalize (brkF old)[m] = u at *
        by_cases q8 : old.first + (old.ents.length : Int) ≤ now.first
        · by_cases q9 : now.breaks < u
          · rw [if_pos ⟨q8, q9⟩]
            repeat' first | ((with_reducible (first | refine condD ?_ ?_ | refine condE ?_ ?_ | refine condN ?_ ?_ | refine condI ?_ ?_ | refine condS ?_ ?_)) <;> intro h) | ((with_reducible (first | refine guardD (by with_unfolding_all rfl) ?_ ?_ | refine guardE (by with_unfolding_all rfl) ?_ ?_ | refine guardN (by with_unfolding_all rfl) ?_ ?_ | refine guardI (by with_unfolding_all rfl) ?_ ?_ | refine guardS (by with_unfolding_all rfl) ?_ ?_)) <;> intro h) | (with_reducible refine And.intro ?_ ?_; omega) | (simp only [Z0,Z1,Z2,Z3,Z4,Z5,Z6,Z7,Z8,Z9,Za,Zb,Zc,Zd,Ze,Zf,List.cons.injEq,Zg,Zh,Zi,Zj,Zk,Zl,Zm,Zn,Zo,Zp,beq_self_eq_true,bne_self_eq_false,decide_true,decide_false,Zq,Zr,Zs,Zt,Zu,Zv,Zw,Zx,Zy,Zz,Y0,Y1,Y2,Y3,Y4,Y5,Y6,Y7,Y8,Y9,Ya,Yb,Yc,Yd,Ye,Yf,Yg,Yh,Yi,Yj,Yk,Yl,Ym,Yn,Yo,Yp,Yq,lk,ef,Yr,Ys,Yt,Yu,Yv,Yw,Yx,Yy,Yz,X0,X1,X2,X3,X4,X5,X6,X7,X8,X9,Xa,Xb,Xc,Xd,Xe,Xf,Xg,Xh,Xi,Xj,Xk,Xl,Xm,Xn,Xo,Xp,Xq,Xr,Xs,hv,Xt,ev,Xu,Xv,Xw,Xx,Xy,Xz,W0,W1,W2,W3,W4,W5,W6,W7,W8,W9,Wa,Wb,Wc,Wd,We,Wf,Wg,Wh,Wi,Wj,Wk,Wl,Wm,Wn,Wo,Wp,Wq,Wr,Ws,Wt,Value.oneCell',Wu,Wv,Ww,Wx,true_and,and_true,and_self,implies_true,Wy,Wz,V0,V1,false_implies,V2,V3,V4,V5,V6,V7,V8,V9,Va,Vb,Vc,Vd,Ve,Vf,Vg,Vh,Vi,reduceCtorEq,if_true,if_false,Vj,↓reduceIte,Vk,Vl,Vm,Vn,Vo,Vp,Vq,ne_eq,not_false_eq_true,not_true_eq_false,Vr,Vs,r35_0,r35_1,r35_2,r35_3,r35_4,r35_5,r35_6,r35_7,r35_8,r35_9,r35_10,r35_12,r35_13,r35_14,r35_15,r35_16,r35_11,r35_17,r35_18,r35_19,r35_20,r35_21,r35_22,p35,l35_0,PL.av,Zt,h,hz,q8,q9,wm,m0,m1,gm]) | (exfalso; omega)
            all_goals first | done | trace_state
          · rw [if_neg (fun h => q9 h.2)]
            repeat' first | ((with_reducible (first | refine condD ?_ ?_ | refine condE ?_ ?_ | refine condN ?_ ?_ | refine condI ?_ ?_ | refine condS ?_ ?_)) <;> intro h) | ((with_reducible (first | refine guardD (by with_unfolding_all rfl) ?_ ?_ | refine guardE (by with_unfolding_all rfl) ?_ ?_ | refine guardN (by with_unfolding_all rfl) ?_ ?_ | refine guardI (by with_unfolding_all rfl) ?_ ?_ | refine guardS (by with_unfolding_all rfl) ?_ ?_)) <;> intro h) | (with_reducible refine And.intro ?_ ?_; omega) | (simp only [Z0,Z1,Z2,Z3,Z4,Z5,Z6,Z7,Z8,Z9,Za,Zb,Zc,Zd,Ze,Zf,List.cons.injEq,Zg,Zh,Zi,Zj,Zk,Zl,Zm,Zn,Zo,Zp,beq_self_eq_true,bne_self_eq_false,decide_true,decide_false,Zq,Zr,Zs,Zt,Zu,Zv,Zw,Zx,Zy,Zz,Y0,Y1,Y2,Y3,Y4,Y5,Y6,Y7,Y8,Y9,Ya,Yb,Yc,Yd,Ye,Yf,Yg,Yh,Yi,Yj,Yk,Yl,Ym,Yn,Yo,Yp,Yq,lk,ef,Yr,Ys,Yt,Yu,Yv,Yw,Yx,Yy,Yz,X0,X1,X2,X3,X4,X5,X6,X7,X8,X9,Xa,Xb,Xc,Xd,Xe,Xf,Xg,Xh,Xi,Xj,Xk,Xl,Xm,Xn,Xo,Xp,Xq,Xr,Xs,hv,Xt,ev,Xu,Xv,Xw,Xx,Xy,Xz,W0,W1,W2,W3,W4,W5,W6,W7,W8,W9,Wa,Wb,Wc,Wd,We,Wf,Wg,Wh,Wi,Wj,Wk,Wl,Wm,Wn,Wo,Wp,Wq,Wr,Ws,Wt,Value.oneCell',Wu,Wv,Ww,Wx,true_and,and_true,and_self,implies_true,Wy,Wz,V0,V1,false_implies,V2,V3,V4,V5,V6,V7,V8,V9,Va,Vb,Vc,Vd,Ve,Vf,Vg,Vh,Vi,reduceCtorEq,if_true,if_false,Vj,↓reduceIte,Vk,Vl,Vm,Vn,Vo,Vp,Vq,ne_eq,not_false_eq_true,not_true_eq_false,Vr,Vs,r35_0,r35_1,r35_2,r35_3,r35_4,r35_5,r35_6,r35_7,r35_8,r35_9,r35_10,r35_12,r35_13,r35_14,r35_15,r35_16,r35_11,r35_17,r35_18,r35_19,r35_20,r35_21,r35_22,p35,l35_0,PL.av,Zt,h,hz,q8,q9,wm,m0,m1,gm]) | (exfalso; omega)
            all_goals first | done | trace_state
        · rw [if_neg (fun h => q8 h.1)]
          repeat' first | ((with_reducible (first | refine condD ?_ ?_ | refine condE ?_ ?_ | refine condN ?_ ?_ | refine condI ?_ ?_ | refine condS ?_ ?_)) <;> intro h) | ((with_reducible (first | refine guardD (by with_unfolding_all rfl) ?_ ?_ | refine guardE (by with_unfolding_all rfl) ?_ ?_ | refine guardN (by with_unfolding_all rfl) ?_ ?_ | refine guardI (by with_unfolding_all rfl) ?_ ?_ | refine guardS (by with_unfolding_all rfl) ?_ ?_)) <;> intro h) | (with_reducible refine And.intro ?_ ?_; omega) | (simp only [Z0,Z1,Z2,Z3,Z4,Z5,Z6,Z7,Z8,Z9,Za,Zb,Zc,Zd,Ze,Zf,List.cons.injEq,Zg,Zh,Zi,Zj,Zk,Zl,Zm,Zn,Zo,Zp,beq_self_eq_true,bne_self_eq_false,decide_true,decide_false,Zq,Zr,Zs,Zt,Zu,Zv,Zw,Zx,Zy,Zz,Y0,Y1,Y2,Y3,Y4,Y5,Y6,Y7,Y8,Y9,Ya,Yb,Yc,Yd,Ye,Yf,Yg,Yh,Yi,Yj,Yk,Yl,Ym,Yn,Yo,Yp,Yq,lk,ef,Yr,Ys,Yt,Yu,Yv,Yw,Yx,Yy,Yz,X0,X1,X2,X3,X4,X5,X6,X7,X8,X9,Xa,Xb,Xc,Xd,Xe,Xf,Xg,Xh,Xi,Xj,Xk,Xl,Xm,Xn,Xo,Xp,Xq,Xr,Xs,hv,Xt,ev,Xu,Xv,Xw,Xx,Xy,Xz,W0,W1,W2,W3,W4,W5,W6,W7,W8,W9,Wa,Wb,Wc,Wd,We,Wf,Wg,Wh,Wi,Wj,Wk,Wl,Wm,Wn,Wo,Wp,Wq,Wr,Ws,Wt,Value.oneCell',Wu,Wv,Ww,Wx,true_and,and_true,and_self,implies_true,Wy,Wz,V0,V1,false_implies,V2,V3,V4,V5,V6,V7,V8,V9,Va,Vb,Vc,Vd,Ve,Vf,Vg,Vh,Vi,reduceCtorEq,if_true,if_false,Vj,↓reduceIte,Vk,Vl,Vm,Vn,Vo,Vp,Vq,ne_eq,not_false_eq_true,not_true_eq_false,Vr,Vs,r35_0,r35_1,r35_2,r35_3,r35_4,r35_5,r35_6,r35_7,r35_8,r35_9,r35_10,r35_12,r35_13,r35_14,r35_15,r35_16,r35_11,r35_17,r35_18,r35_19,r35_20,r35_21,r35_22,p35,l35_0,PL.av,Zt,h,hz,q8,wm,m0,m1,gm]) | (exfalso; omega)
          all_goals first | done | trace_state)
/-! headend/list.Follows -/
def r11_0 : List POp := [⟨2, .boxs (.t 0), none⟩,
  ⟨3, .boxs (.t 1), none⟩,
  ⟨4, .asg (.c (.int .i64 0)), none⟩]
def r11_1 : List POp := [⟨6, .loads 5 (.t 2), none⟩,
  ⟨7, .call 26 [.t 6], none⟩,
  ⟨8, .loads 5 (.t 3), none⟩,
  ⟨9, .call 26 [.t 8], none⟩,
  ⟨10, .rowr 35 1 [.t 7, .t 9], none⟩,
  ⟨11, .call 34 [.t 10], none⟩,
  ⟨5, .asg (.t 11), none⟩]
def r11_2 : List POp := [⟨12, .mv (.t 5), none⟩,
  ⟨13, .bin .neq (.t 12) (.c (.int .i64 0)), none⟩]
def r11_3 : List POp := [⟨14, .mv (.t 5), none⟩,
  ⟨4, .asg (.t 14), none⟩]
def r11_4 : List POp := [⟨15, .loads 5 (.t 2), none⟩,
  ⟨16, .loads 5 (.t 3), none⟩,
  ⟨17, .call 35 [.t 15, .t 16], none⟩,
  ⟨4, .asg (.t 17), none⟩]
def p11 : PCode := .seq (.ops r11_0) (.seq (.seq (.ops r11_1) (.seq (.ops r11_2) (.cond (.t 13) (.seq (.ops r11_3) (.ret)) (.skip)))) (.seq (.ops r11_4) (.ret)))
theorem ok11 : okFunc Try.prog 11 [.t 4] 2 p11 = true := by kernel_rfl
theorem follow_c (old now : PL) (ho : old.ok) (hn : now.ok) : CallOK Try.prog 11 [.agg old.av, .agg now.av] (.val (.int .i64 (followF old now))) := by
  refine call_of mixed ok11 rfl ?_
  have c1 := check_c old ho
  have c2 := check_c now hn
  have c3 := first2_c (ckF old) (ckF now)
  have c4 := follows_c old now ho
  simp only [PL.av] at c1 c2 c4
  unfold followF
  by_cases q1 : ckF old = 0
  · rw [if_neg (not_not_intro q1)]
    rw [q1] at c1 c3
    by_cases q2 : ckF now = 0
    · rw [if_neg (not_not_intro q2)]
      rw [q2] at c2 c3
      have c5 := c4 q1 q2
      repeat' first | ((with_reducible (first | refine condD ?_ ?_ | refine condE ?_ ?_ | refine condN ?_ ?_ | refine condI ?_ ?_ | refine condS ?_ ?_)) <;> intro h) | ((with_reducible (first | refine guardD (by with_unfolding_all rfl) ?_ ?_ | refine guardE (by with_unfolding_all rfl) ?_ ?_ | refine guardN (by with_unfolding_all rfl) ?_ ?_ | refine guardI (by with_unfolding_all rfl) ?_ ?_ | refine guardS (by with_unfolding_all rfl) ?_ ?_)) <;> intro h) | ((refine callG c1 ?_)) | ((refine callG c2 ?_)) | ((refine callG c3 ?_)) | ((refine callG c5 ?_)) | (with_reducible refine And.intro ?_ ?_; omega) | (simp only [Z0,Z1,Z2,Z3,Z4,Z5,Z6,Z7,Z8,Z9,Za,Zb,Zc,Zd,Ze,Zf,List.cons.injEq,Zg,Zh,Zi,Zj,Zk,Zl,Zm,Zn,Zo,Zp,beq_self_eq_true,bne_self_eq_false,decide_true,decide_false,Zq,Zr,Zs,Zt,Zu,Zv,Zw,Zx,Zy,Zz,Y0,Y1,Y2,Y3,Y4,Y5,Y6,Y7,Y8,Y9,Ya,Yb,Yc,Yd,Ye,Yf,Yg,Yh,Yi,Yj,Yk,Yl,Ym,Yn,Yo,Yp,Yq,lk,ef,Yr,Ys,Yt,Yu,Yv,Yw,Yx,Yy,Yz,X0,X1,X2,X3,X4,X5,X6,X7,X8,X9,Xa,Xb,Xc,Xd,Xe,Xf,Xg,Xh,Xi,Xj,Xk,Xl,Xm,Xn,Xo,Xp,Xq,Xr,Xs,hv,Xt,ev,Xu,Xv,Xw,Xx,Xy,Xz,W0,W1,W2,W3,W4,W5,W6,W7,W8,W9,Wa,Wb,Wc,Wd,We,Wf,Wg,Wh,Wi,Wj,Wk,Wl,Wm,Wn,Wo,Wp,Wq,Wr,Ws,Wt,Value.oneCell',Wu,Wv,Ww,Wx,true_and,and_true,and_self,implies_true,Wy,Wz,V0,V1,false_implies,V2,V3,V4,V5,V6,V7,V8,V9,Va,Vb,Vc,Vd,Ve,Vf,Vg,Vh,Vi,reduceCtorEq,if_true,if_false,Vj,↓reduceIte,Vk,Vl,Vm,Vn,Vo,Vp,Vq,ne_eq,not_false_eq_true,not_true_eq_false,Vr,Vs,r11_0,r11_1,r11_2,r11_3,r11_4,p11,PL.av]) | (exfalso; omega)
      all_goals first | done | trace_state
    · rw [if_pos q2]
      generalize ckF now = f at *
      repeat' first | ((with_reducible (first | refine condD ?_ ?_ | refine condE ?_ ?_ | refine condN ?_ ?_ | refine condI ?_ ?_ | refine condS ?_ ?_)) <;> intro h) | ((with_reducible (first | refine guardD (by with_unfolding_all rfl) ?_ ?_ | refine guardE (by with_unfolding_all rfl) ?_ ?_ | refine guardN (by with_unfolding_all rfl) ?_ ?_ | refine guardI (by with_unfolding_all rfl) ?_ ?_ | refine guardS (by with_unfolding_all rfl) ?_ ?_)) <;> intro h) | ((refine callG c1 ?_)) | ((refine callG c2 ?_)) | ((refine callG c3 ?_)) | (with_reducible refine And.intro ?_ ?_; omega) | (simp only [Z0,Z1,Z2,Z3,Z4,Z5,Z6,Z7,Z8,Z9,Za,Zb,Zc,Zd,Ze,Zf,List.cons.injEq,Zg,Zh,Zi,Zj,Zk,Zl,Zm,Zn,Zo,Zp,beq_self_eq_true,bne_self_eq_false,decide_true,decide_false,Zq,Zr,Zs,Zt,Zu,Zv,Zw,Zx,Zy,Zz,Y0,Y1,Y2,Y3,Y4,Y5,Y6,Y7,Y8,Y9,Ya,Yb,Yc,Yd,Ye,Yf,Yg,Yh,Yi,Yj,Yk,Yl,Ym,Yn,Yo,Yp,Yq,lk,ef,Yr,Ys,Yt,Yu,Yv,Yw,Yx,Yy,Yz,X0,X1,X2,X3,X4,X5,X6,X7,X8,X9,Xa,Xb,Xc,Xd,Xe,Xf,Xg,Xh,Xi,Xj,Xk,Xl,Xm,Xn,Xo,Xp,Xq,Xr,Xs,hv,Xt,ev,Xu,Xv,Xw,Xx,Xy,Xz,W0,W1,W2,W3,W4,W5,W6,W7,W8,W9,Wa,Wb,Wc,Wd,We,Wf,Wg,Wh,Wi,Wj,Wk,Wl,Wm,Wn,Wo,Wp,Wq,Wr,Ws,Wt,Value.oneCell',Wu,Wv,Ww,Wx,true_and,and_true,and_self,implies_true,Wy,Wz,V0,V1,false_implies,V2,V3,V4,V5,V6,V7,V8,V9,Va,Vb,Vc,Vd,Ve,Vf,Vg,Vh,Vi,reduceCtorEq,if_true,if_false,Vj,↓reduceIte,Vk,Vl,Vm,Vn,Vo,Vp,Vq,ne_eq,not_false_eq_true,not_true_eq_false,Vr,Vs,r11_0,r11_1,r11_2,r11_3,r11_4,p11,PL.av,bne0_t q2]) | (exfalso; omega)
      all_goals first | done | trace_state
  · rw [if_pos q1]
    generalize ckF old = f at *
    generalize ckF now = g at *
    repeat' first | ((with_reducible (first | refine condD ?_ ?_ | refine condE ?_ ?_ | refine condN ?_ ?_ | refine condI ?_ ?_ | refine condS ?_ ?_)) <;> intro h) | ((with_reducible (first | refine guardD (by with_unfolding_all rfl) ?_ ?_ | refine guardE (by with_unfolding_all rfl) ?_ ?_ | refine guardN (by with_unfolding_all rfl) ?_ ?_ | refine guardI (by with_unfolding_all rfl) ?_ ?_ | refine guardS (by with_unfolding_all rfl) ?_ ?_)) <;> intro h) | ((refine callG c1 ?_)) | ((refine callG c2 ?_)) | ((refine callG c3 ?_)) | (with_reducible refine And.intro ?_ ?_; omega) | (simp only [Z0,Z1,Z2,Z3,Z4,Z5,Z6,Z7,Z8,Z9,Za,Zb,Zc,Zd,Ze,Zf,List.cons.injEq,Zg,Zh,Zi,Zj,Zk,Zl,Zm,Zn,Zo,Zp,beq_self_eq_true,bne_self_eq_false,decide_true,decide_false,Zq,Zr,Zs,Zt,Zu,Zv,Zw,Zx,Zy,Zz,Y0,Y1,Y2,Y3,Y4,Y5,Y6,Y7,Y8,Y9,Ya,Yb,Yc,Yd,Ye,Yf,Yg,Yh,Yi,Yj,Yk,Yl,Ym,Yn,Yo,Yp,Yq,lk,ef,Yr,Ys,Yt,Yu,Yv,Yw,Yx,Yy,Yz,X0,X1,X2,X3,X4,X5,X6,X7,X8,X9,Xa,Xb,Xc,Xd,Xe,Xf,Xg,Xh,Xi,Xj,Xk,Xl,Xm,Xn,Xo,Xp,Xq,Xr,Xs,hv,Xt,ev,Xu,Xv,Xw,Xx,Xy,Xz,W0,W1,W2,W3,W4,W5,W6,W7,W8,W9,Wa,Wb,Wc,Wd,We,Wf,Wg,Wh,Wi,Wj,Wk,Wl,Wm,Wn,Wo,Wp,Wq,Wr,Ws,Wt,Value.oneCell',Wu,Wv,Ww,Wx,true_and,and_true,and_self,implies_true,Wy,Wz,V0,V1,false_implies,V2,V3,V4,V5,V6,V7,V8,V9,Va,Vb,Vc,Vd,Ve,Vf,Vg,Vh,Vi,reduceCtorEq,if_true,if_false,Vj,↓reduceIte,Vk,Vl,Vm,Vn,Vo,Vp,Vq,ne_eq,not_false_eq_true,not_true_eq_false,Vr,Vs,r11_0,r11_1,r11_2,r11_3,r11_4,p11,PL.av,bne0_t q1]) | (exfalso; omega)
    all_goals first | done | exact if_pos q1 | trace_state
end Go.Proofs.Ytpecmhdepggnoaa
