/- Live lists: the law's function, by the machine on data. -/
import Derived.Test.YtpecmhdepggnoaaKLvU
namespace Go.Proofs.Ytpecmhdepggnoaa
open Go.RowKit
open Go.Proofs.Ytpecmhdepggnoaa renaming done_eq → Z0, done_eq' → Z1, donet_eq → Z2, donet_eq' → Z3, fin_val → Z4, fin_tup → Z5, fin_agg → Z6, fin_ro → Z7, res_one → Z8, res_more → Z9, rv_t → Za, rv_c → Zb, rv_l → Zc, int_eq → Zg, bool_eq → Zh, toNat_pred → Zr, toNat_succ → Zs, cnd_t → Zu, cnd_f → Zv, grd_tt → Zw, grd_u → Zx, grd_tf → Zy, grd_ft → Zz, grd_ff → Y0, g_skip → Y1, g_ops → Y2, g_seq → Y3, g_block → Y4, g_exit → Y5, g_ret → Y6, x_c → Y7, x_o → Y8, x_l → Y9, x_b → Ya, g_b → Yb, g_nil → Yc, r_all → Yd, o_nil → Ye, g_cond → Yf, o_guard → Yg, o_call → Yh, o_callm → Yi, o_callt → Yj, o_callx → Yk, o_callv → Yl, o_callc → Ym, o_callh → Yn, o_apph → Yo, noav_alias → Yp, noav_nil → Yq, o_mv → Yr, o_pick → Ys, o_bin → Yt, o_never → Yu, o_eqs → Yv, o_eqb → Yw, o_un → Yx, o_conv → Yy, o_load → Yz, o_loadr → X0, o_idxr → X1, o_loads → X2, o_loadsr → X3, o_fld → X4, o_idx → X5, o_idxs → X6, o_len → X7, o_lens → X8, o_ext → X9, o_nilck → Xa, o_slc → Xb, o_slcs → Xc, o_build → Xd, o_minmax → Xe, o_mkfn → Xf, o_mkfnr → Xg, o_alloc → Xh, o_box → Xi, o_boxs → Xj, o_row → Xk, o_rowr → Xl, o_mk → Xm, o_asg → Xn, o_app → Xo, o_appa → Xp, o_store → Xq, o_stores → Xr, o_eqnil → Xs, eqAV → Xt, view_t → Xu, view_c → Xv, view_nil → Xw, view_fn → Xx, look_own → Xy, look_box → Xz, look_junk → W0, look_val → W1, look_nilsl → W2, look_ro → W3, look_roAt → W4, look_agg → W5, look_tup → W6, look_clo → W7, look_alias → W8, look_ref → W9, look_into → Wa, look_fnv → Wb, look_held → Wc, rowOf → Wd, cellsOf → We, argv → Wf, vbin → Wg, vun → Wh, bnd → Wi, elemOf → Wj, putParts → Wk, setAt → Wl, zav → Wm, put_at → Wu, mk_at → Wv, mk_nil → Ww, initSt → Wx, wk_cons → Vt, wk_nil → Vu, wk1 → Vv, vint_eq → Vw, vbool_eq → Vx
open Go.Proofs.Ytpecmhdepggnoaa.AV.tup renaming injEq → Zd
open Go.Proofs.Ytpecmhdepggnoaa.AV.agg renaming injEq → Ze
open Go.Proofs.Ytpecmhdepggnoaa.AV.ro renaming injEq → Zf
open _root_.Int renaming toNat_natCast → Zi, reduceToNat → Zj, toNat_zero → Zk, toNat_one → Zl, reduceLE → Zm, reduceLT → Zn, reduceBEq → Zo, reduceBNe → Zp, reduceNeg → Zq
open _root_.List renaming length_map → Zt, map_cons → Wy, map_nil → Wz, forall_mem_cons → V0, not_mem_nil → V1, length_cons → V2, length_nil → V3, getD_cons_zero → V4, getD_cons_succ → V5, getD_nil → V6, drop_succ_cons → V7, drop_zero → V8, take_succ_cons → V9, take_zero → Va, set_cons_zero → Vb, set_cons_succ → Vc, all_cons → Vd, all_nil → Ve
open Go.Proofs.Ytpecmhdepggnoaa.ASt renaming rid → Wn, hold → Wo, free → Wp
open Go.Proofs.Ytpecmhdepggnoaa.AV renaming kill → Wq, isHome → Wr, noLoan → Ws, cellOK → Wt
open _root_.Bool renaming and_true → Vf, true_and → Vg, not_true → Vh, not_false → Vi, false_eq_true → Vj
open _root_.Nat renaming reduceEqDiff → Vk, reduceBNe → Vl, reduceAdd → Vm, reduceSub → Vn, reduceMul → Vo, reduceLeDiff → Vp, reduceLT → Vq, one_ne_zero → Vr, zero_ne_one → Vs
open Go.Proofs.Ytpecmhdepggnoaa.AV.val renaming injEq → Vy
set_option linter.unusedSimpArgs false
--@short

/-- Where the law's loop is. -/
structure LvI where
  k : Nat
  X : AV
  Y : AV
  s : Lv
def lvT (l0 : Int) (ch : List Chg) (p : LvI) : ASt := mk [(2, .val (.int .i64 l0)), (3, .box p.s.l.av), (7, .box (cAV p.s.c p.X p.Y)), (8, .own 3 1 (p.s.played.map oneI)), (9, .val (.int .i64 p.s.start)), (24, .ro (ch.map Chg.av)), (25, .val (.int .i64 ch.length)), (26, .val (.int .i64 p.k))]
/-! headend/headendtop.TopLiveClientsMissNothing -/
def r3_0 : List POp := [⟨3, .boxs (.t 0), none⟩,
  ⟨6, .asg (.c (.bool false)), none⟩]
def r3_1 : List POp := [⟨7, .alloc [.bool false, .int .i64 0, .int .i64 0, .int .i64 0, .int .i64 0, .slice none 0 0, .bool false, .slice none 0 0, .int .i64 0], none⟩]
def r3_2 : List POp := [⟨8, .asg .nil, none⟩]
def r3_3 : List POp := [⟨9, .asg (.c (.int .i64 (-1))), none⟩]
def r3_4 : List POp := [⟨24, .mv (.t 1), none⟩,
  ⟨25, .len (.t 24), none⟩,
  ⟨26, .mv (.c (.int .i64 0)), none⟩]
def r3_5 : List POp := [⟨27, .bin .lss (.t 26) (.t 25), none⟩]
def r3_6 : List POp := [⟨28, .idx 9 (.t 24) (.t 26), none⟩,
  ⟨29, .loads 9 (.t 28), none⟩,
  ⟨11, .alloc [.string ⟨#[]⟩, .int .i64 0, .bool false, .int .i64 0, .string ⟨#[]⟩, .bool false, .slice none 0 0, .bool false, .int .i64 0], none⟩,
  ⟨0, .stores 9 (.t 11) (.t 29), none⟩]
def r3_7 : List POp := [⟨30, .fld 7 (.t 11), none⟩,
  ⟨31, .load (.t 30), none⟩]
def r3_8 : List POp := [⟨33, .loads 9 (.t 7), none⟩,
  ⟨34, .loads 5 (.t 3), none⟩,
  ⟨35, .mv (.t 2), none⟩,
  ⟨36, .call 7 [.t 33, .t 34, .t 35], none⟩,
  ⟨32, .mv (.t 36), none⟩,
  ⟨37, .ext 0 (.t 32), none⟩,
  ⟨38, .ext 1 (.t 32), none⟩,
  ⟨12, .alloc [.bool false, .int .i64 0, .int .i64 0, .int .i64 0, .int .i64 0, .slice none 0 0, .bool false, .slice none 0 0, .int .i64 0], none⟩,
  ⟨0, .stores 9 (.t 12) (.t 37), none⟩,
  ⟨13, .mv (.t 38), none⟩]
def r3_9 : List POp := [⟨39, .mv (.t 13), none⟩,
  ⟨40, .bin .eql (.t 39) (.c (.int .i64 0)), none⟩]
def r3_10 : List POp := [⟨41, .loads 9 (.t 12), none⟩,
  ⟨0, .stores 9 (.t 7) (.t 41), none⟩]
def r3_11 : List POp := [⟨42, .mv (.t 9), none⟩,
  ⟨43, .bin .lss (.t 42) (.c (.int .i64 0)), none⟩]
def r3_12 : List POp := [⟨44, .fld 1 (.t 7), none⟩,
  ⟨45, .load (.t 44), none⟩,
  ⟨46, .fld 7 (.t 7), none⟩,
  ⟨47, .load (.t 46), none⟩,
  ⟨48, .len (.t 47), none⟩,
  ⟨49, .bin .sub (.t 45) (.t 48), none⟩,
  ⟨9, .asg (.t 49), none⟩]
def r3_13 : List POp := [⟨51, .loads 9 (.t 7), none⟩,
  ⟨52, .call 8 [.t 51], none⟩,
  ⟨50, .mv (.t 52), none⟩,
  ⟨53, .ext 0 (.t 50), none⟩,
  ⟨54, .ext 1 (.t 50), none⟩,
  ⟨55, .ext 2 (.t 50), none⟩,
  ⟨14, .alloc [.bool false, .int .i64 0, .int .i64 0, .int .i64 0, .int .i64 0, .slice none 0 0, .bool false, .slice none 0 0, .int .i64 0], none⟩,
  ⟨15, .alloc [.int .i64 0, .string ⟨#[]⟩, .int .i64 0, .bool false, .int .i64 0, .string ⟨#[]⟩, .bool false, .slice none 0 0], none⟩,
  ⟨0, .stores 9 (.t 14) (.t 53), none⟩,
  ⟨0, .stores 8 (.t 15) (.t 54), none⟩,
  ⟨16, .mv (.t 55), none⟩]
def r3_14 : List POp := [⟨56, .mv (.t 16), none⟩,
  ⟨57, .bin .eql (.t 56) (.c (.int .i64 0)), none⟩]
def r3_15 : List POp := [⟨58, .mv (.t 8), none⟩,
  ⟨59, .fld 0 (.t 15), none⟩,
  ⟨60, .load (.t 59), none⟩,
  ⟨61, .row 3 1 [.t 60], none⟩,
  ⟨62, .appa 3 1 8 (.t 58) (.t 61) [63], none⟩,
  ⟨63, .loadsr 9 (.t 14), none⟩,
  ⟨8, .asg (.t 62), none⟩,
  ⟨0, .stores 9 (.t 7) (.t 63), none⟩]
def r3_16 : List POp := [⟨65, .loads 5 (.t 3), none⟩,
  ⟨66, .fld 0 (.t 11), none⟩,
  ⟨67, .loads 7 (.t 66), none⟩,
  ⟨68, .call 9 [.t 65, .t 67], none⟩,
  ⟨64, .mv (.t 68), none⟩,
  ⟨69, .ext 0 (.t 64), none⟩,
  ⟨70, .ext 1 (.t 64), none⟩,
  ⟨17, .alloc [.int .i64 0, .int .i64 0, .int .i64 0, .slice none 0 0, .bool false], none⟩,
  ⟨0, .stores 5 (.t 17) (.t 69), none⟩,
  ⟨18, .mv (.t 70), none⟩]
def r3_17 : List POp := [⟨71, .mv (.t 18), none⟩,
  ⟨72, .bin .neq (.t 71) (.c (.int .i64 0)), none⟩]
def r3_18 : List POp := [⟨74, .loads 5 (.t 17), none⟩,
  ⟨75, .fld 8 (.t 11), none⟩,
  ⟨76, .load (.t 75), none⟩,
  ⟨77, .call 10 [.t 74, .t 76], none⟩,
  ⟨73, .mv (.t 77), none⟩,
  ⟨78, .ext 0 (.t 73), none⟩,
  ⟨79, .ext 1 (.t 73), none⟩,
  ⟨80, .ext 2 (.t 73), none⟩,
  ⟨19, .alloc [.int .i64 0, .int .i64 0, .int .i64 0, .slice none 0 0, .bool false], none⟩,
  ⟨0, .stores 5 (.t 19) (.t 78), none⟩,
  ⟨20, .mv (.t 79), none⟩,
  ⟨21, .mv (.t 80), none⟩]
def r3_19 : List POp := [⟨81, .mv (.t 21), none⟩,
  ⟨82, .bin .eql (.t 81) (.c (.int .i64 0)), none⟩,
  ⟨83, .mv (.t 82), none⟩,
  ⟨84, .fld 3 (.t 19), some (83, true)⟩,
  ⟨85, .load (.t 84), some (83, true)⟩,
  ⟨86, .len (.t 85), some (83, true)⟩,
  ⟨87, .bin .gtr (.t 86) (.c (.int .i64 0)), some (83, true)⟩,
  ⟨88, .pick (.t 83) (.t 87) (.c (.bool false)), none⟩]
def r3_20 : List POp := [⟨89, .loads 5 (.t 19), none⟩,
  ⟨0, .stores 5 (.t 17) (.t 89), none⟩]
def r3_21 : List POp := [⟨90, .loads 5 (.t 3), none⟩,
  ⟨91, .loads 5 (.t 17), none⟩,
  ⟨92, .call 11 [.t 90, .t 91], none⟩,
  ⟨93, .bin .neq (.t 92) (.c (.int .i64 0)), none⟩]
def r3_22 : List POp := [⟨6, .asg (.c (.bool false)), none⟩]
def r3_23 : List POp := [⟨94, .loads 5 (.t 17), none⟩,
  ⟨0, .stores 5 (.t 3) (.t 94), none⟩]
def r3_24 : List POp := [⟨95, .bin .add (.t 26) (.c (.int .i64 1)), none⟩,
  ⟨26, .mv (.t 95), none⟩]
def r3_25 : List POp := [⟨96, .mv (.t 9), none⟩,
  ⟨97, .bin .lss (.t 96) (.c (.int .i64 0)), none⟩,
  ⟨98, .mv (.t 97), none⟩,
  ⟨99, .call 12 [], some (98, false)⟩,
  ⟨100, .un .not (.t 99), some (98, false)⟩,
  ⟨101, .pick (.t 98) (.c (.bool true)) (.t 100), none⟩]
def r3_26 : List POp := [⟨102, .call 12 [], none⟩,
  ⟨6, .asg (.t 102), none⟩]
def r3_27 : List POp := [⟨103, .mv (.t 8), none⟩,
  ⟨104, .len (.t 103), none⟩,
  ⟨105, .mv (.c (.int .i64 0)), none⟩]
def r3_28 : List POp := [⟨106, .bin .lss (.t 105) (.t 104), none⟩]
def r3_29 : List POp := [⟨107, .mv (.t 105), none⟩,
  ⟨108, .idx 1 (.t 103) (.t 105), none⟩,
  ⟨109, .load (.t 108), none⟩,
  ⟨22, .asg (.t 107), none⟩,
  ⟨23, .asg (.t 109), none⟩]
def r3_30 : List POp := [⟨110, .mv (.t 22), none⟩,
  ⟨111, .bin .gtr (.t 110) (.c (.int .i64 0)), none⟩,
  ⟨112, .mv (.t 111), none⟩,
  ⟨113, .mv (.t 23), some (112, true)⟩,
  ⟨114, .mv (.t 8), some (112, true)⟩,
  ⟨115, .mv (.t 22), some (112, true)⟩,
  ⟨116, .bin .sub (.t 115) (.c (.int .i64 1)), some (112, true)⟩,
  ⟨117, .idx 1 (.t 114) (.t 116), some (112, true)⟩,
  ⟨118, .load (.t 117), some (112, true)⟩,
  ⟨119, .bin .leq (.t 113) (.t 118), some (112, true)⟩,
  ⟨120, .pick (.t 112) (.t 119) (.c (.bool false)), none⟩]
def r3_31 : List POp := [⟨6, .asg (.c (.bool false)), none⟩]
def r3_32 : List POp := [⟨121, .bin .add (.t 105) (.c (.int .i64 1)), none⟩,
  ⟨105, .mv (.t 121), none⟩]
def r3_33 : List POp := [⟨122, .fld 1 (.t 7), none⟩,
  ⟨123, .load (.t 122), none⟩,
  ⟨124, .mv (.t 9), none⟩,
  ⟨125, .bin .sub (.t 123) (.t 124), none⟩,
  ⟨126, .mv (.t 8), none⟩,
  ⟨127, .len (.t 126), none⟩,
  ⟨128, .fld 7 (.t 7), none⟩,
  ⟨129, .load (.t 128), none⟩,
  ⟨130, .len (.t 129), none⟩,
  ⟨131, .bin .add (.t 127) (.t 130), none⟩,
  ⟨132, .fld 8 (.t 7), none⟩,
  ⟨133, .load (.t 132), none⟩,
  ⟨134, .bin .add (.t 131) (.t 133), none⟩,
  ⟨135, .bin .eql (.t 125) (.t 134), none⟩,
  ⟨6, .asg (.t 135), none⟩]
def l3_1 : PCode := .seq (.ops r3_28) (.seq (.cond (.t 106) (.skip) (.exit 2)) (.seq (.block 3 (.seq (.ops r3_29) (.seq (.ops r3_30) (.cond (.t 120) (.seq (.ops r3_31) (.ret)) (.skip))))) (.ops r3_32)))
def l3_0 : PCode := .seq (.ops r3_5) (.seq (.cond (.t 27) (.skip) (.exit 0)) (.seq (.block 1 (.seq (.ops r3_6) (.seq (.seq (.ops r3_7) (.cond (.t 31) (.seq (.ops r3_8) (.seq (.seq (.ops r3_9) (.cond (.t 40) (.seq (.ops r3_10) (.seq (.ops r3_11) (.cond (.t 43) (.ops r3_12) (.skip)))) (.skip))) (.seq (.seq (.ops r3_13) (.seq (.ops r3_14) (.cond (.t 57) (.opw r3_15) (.skip)))) (.exit 1)))) (.skip))) (.seq (.ops r3_16) (.seq (.seq (.ops r3_17) (.cond (.t 72) (.exit 1) (.skip))) (.seq (.seq (.ops r3_18) (.seq (.ops r3_19) (.cond (.t 88) (.ops r3_20) (.skip)))) (.seq (.seq (.ops r3_21) (.cond (.t 93) (.seq (.ops r3_22) (.ret)) (.skip))) (.ops r3_23)))))))) (.ops r3_24)))
def p3 : PCode := .seq (.ops r3_0) (.seq (.ops r3_1) (.seq (.ops r3_2) (.seq (.ops r3_3) (.seq (.seq (.ops r3_4) (.block 0 (.loop l3_0))) (.seq (.seq (.ops r3_25) (.cond (.t 101) (.seq (.ops r3_26) (.ret)) (.skip))) (.seq (.seq (.ops r3_27) (.block 2 (.loop l3_1))) (.seq (.ops r3_33) (.ret))))))))
theorem ok3 : okFunc Try.prog 3 [.t 6] 3 p3 = true := by kernel_rfl
set_option maxRecDepth 20000 in
set_option maxHeartbeats 4000000 in
theorem live_d (l : PL) (ch : List Chg) (back : Int) (hl : l.ok) (hch : ∀ x ∈ ch, x.ent.ok ∧ x.ent.extra.length * 16 ≤ 140737488355328) (hn : ch.length * 16 ≤ 140737488355328) : CallOK Try.prog 3 [.agg l.av, .ro (ch.map Chg.av), .val (.int .i64 back)] (.val (.bool true)) := by
  refine call_of mixed ok3 rfl ?_
  simp only [PL.av]
  repeat' first | ((with_reducible (first | refine condD ?_ ?_ | refine condE ?_ ?_ | refine condN ?_ ?_ | refine condI ?_ ?_ | refine condS ?_ ?_)) <;> intro h) | ((with_reducible (first | refine guardD (by with_unfolding_all rfl) ?_ ?_ | refine guardE (by with_unfolding_all rfl) ?_ ?_ | refine guardN (by with_unfolding_all rfl) ?_ ?_ | refine guardI (by with_unfolding_all rfl) ?_ ?_ | refine guardS (by with_unfolding_all rfl) ?_ ?_)) <;> intro h) | (with_reducible refine And.intro ?_ ?_; omega) | (simp only [Z0,Z1,Z2,Z3,Z4,Z5,Z6,Z7,Z8,Z9,Za,Zb,Zc,Zd,Ze,Zf,List.cons.injEq,Zg,Zh,Zi,Zj,Zk,Zl,Zm,Zn,Zo,Zp,beq_self_eq_true,bne_self_eq_false,decide_true,decide_false,Zq,Zr,Zs,Zt,Zu,Zv,Zw,Zx,Zy,Zz,Y0,Y1,Y2,Y3,Y4,Y5,Y6,Y7,Y8,Y9,Ya,Yb,Yc,Yd,Ye,Yf,Yg,Yh,Yi,Yj,Yk,Yl,Ym,Yn,Yo,Yp,Yq,lk,ef,Yr,Ys,Yt,Yu,Yv,Yw,Yx,Yy,Yz,X0,X1,X2,X3,X4,X5,X6,X7,X8,X9,Xa,Xb,Xc,Xd,Xe,Xf,Xg,Xh,Xi,Xj,Xk,Xl,Xm,Xn,Xo,Xp,Xq,Xr,Xs,hv,Xt,ev,Xu,Xv,Xw,Xx,Xy,Xz,W0,W1,W2,W3,W4,W5,W6,W7,W8,W9,Wa,Wb,Wc,Wd,We,Wf,Wg,Wh,Wi,Wj,Wk,Wl,Wm,Wn,Wo,Wp,Wq,Wr,Ws,Wt,Value.oneCell',Wu,Wv,Ww,Wx,true_and,and_true,and_self,implies_true,Wy,Wz,V0,V1,false_implies,V2,V3,V4,V5,V6,V7,V8,V9,Va,Vb,Vc,Vd,Ve,Vf,Vg,Vh,Vi,reduceCtorEq,if_true,if_false,Vj,↓reduceIte,Vk,Vl,Vm,Vn,Vo,Vp,Vq,ne_eq,not_false_eq_true,not_true_eq_false,Vr,Vs,r3_0,r3_1,r3_2,r3_3,r3_4,r3_5,r3_6,r3_7,r3_8,r3_9,r3_10,r3_11,r3_12,r3_13,r3_14,r3_15,r3_16,r3_17,r3_18,r3_19,r3_20,r3_21,r3_22,r3_23,r3_24,r3_25,r3_26,r3_27,r3_28,r3_29,r3_30,r3_31,r3_32,r3_33,p3,List.length_map]) | (exfalso; omega)
  refine loopS (fun p : LvI => lvT back ch p) (fun p => p.k ≤ ch.length ∧ p.s.ok ∧ LvXY p.s.c p.s.start p.X p.Y ∧ p.s.played.length ≤ p.k) (fun p => ch.length - p.k) ⟨0, .nilsl, .nilsl, ⟨l, zCL, [], -1⟩⟩ (weak_mk ?_) ⟨Nat.zero_le _, lv_start hl, .inl ⟨(show (-1 : Int) < 0 by decide), rfl, rfl⟩, Nat.le_refl _⟩ ?_
  · simp only [PL.av, cAV, zCL, zPL]
    simp only [Vt,Vu,Vv,Vw,Vx,Vy,Z0,Z1,Z2,Z3,Z4,Z5,Z6,Z7,Z8,Z9,Za,Zb,Zc,Zd,Ze,Zf,List.cons.injEq,Zg,Zh,Zi,Zj,Zk,Zl,Zm,Zn,Zo,Zp,beq_self_eq_true,bne_self_eq_false,decide_true,decide_false,Zq,Zr,Zs,Zt,Zu,Zv,Zw,Zx,Zy,Zz,Y0,Y1,Y2,Y3,Y4,Y5,Y6,Y7,Y8,Y9,Ya,Yb,Yc,Yd,Ye,Yf,Yg,Yh,Yi,Yj,Yk,Yl,Ym,Yn,Yo,Yp,Yq,lk,ef,Yr,Ys,Yt,Yu,Yv,Yw,Yx,Yy,Yz,X0,X1,X2,X3,X4,X5,X6,X7,X8,X9,Xa,Xb,Xc,Xd,Xe,Xf,Xg,Xh,Xi,Xj,Xk,Xl,Xm,Xn,Xo,Xp,Xq,Xr,Xs,hv,Xt,ev,Xu,Xv,Xw,Xx,Xy,Xz,W0,W1,W2,W3,W4,W5,W6,W7,W8,W9,Wa,Wb,Wc,Wd,We,Wf,Wg,Wh,Wi,Wj,Wk,Wl,Wm,Wn,Wo,Wp,Wq,Wr,Ws,Wt,Value.oneCell',Wu,Wv,Ww,Wx,true_and,and_true,and_self,implies_true,Wy,Wz,V0,V1,false_implies,V2,V3,V4,V5,V6,V7,V8,V9,Va,Vb,Vc,Vd,Ve,Vf,Vg,Vh,Vi,reduceCtorEq,if_true,if_false,Vj,↓reduceIte,Vk,Vl,Vm,Vn,Vo,Vp,Vq,ne_eq,not_false_eq_true,not_true_eq_false,Vr,Nat.zero_ne_one]
    all_goals first | done | rfl | simp | trace_state
  rintro J hJ ⟨k, X, Y, l, c, pl, sn⟩ ⟨hk, hok, hXY, hpl⟩
  simp only at hk hpl
  have hXY : LvXY c sn X Y := hXY
  have hJ' : ∀ (k' : Nat) (X' Y' : AV) (l' : PL) (c' : CL) (pl' : List Int) (sn' : Int), k' ≤ ch.length → Lv.ok ⟨l', c', pl', sn'⟩ → LvXY c' sn' X' Y' → pl'.length ≤ k' → J (lvT back ch ⟨k', X', Y', ⟨l', c', pl', sn'⟩⟩) (ch.length - k') := fun k' X' Y' l' c' pl' sn' a1 a2 a3 a4 => hJ ⟨k', X', Y', ⟨l', c', pl', sn'⟩⟩ ⟨a1, a2, a3, a4⟩
  clear hJ hl
  show go _ _ _ _ (lvT back ch ⟨k, X, Y, ⟨l, c, pl, sn⟩⟩)
  show go _ _ (_ :: .l J (ch.length - k) :: _) _ _
  unfold lvT
  simp only
  by_cases h : k < ch.length
  case neg =>
    have hki : ¬ (k : Int) < ch.length := by omega
    obtain ⟨_, _, _, _, _, h6, h7, h8, h9⟩ := hok
    have h6 : RiseTo c.next (pl ++ c.queue.map QI.num) := h6
    have h8 : 0 ≤ sn → c.next - sn = pl.length + c.queue.length + c.lost ∧ c.begun = true := h8
    have h9 : 0 ≤ c.next ∧ c.next ≤ 4000000000000000 ∧ 0 ≤ c.lost ∧ c.lost ≤ 4000000000000000 := h9
    clear hJ'
    simp only [PL.av, cAV]
    by_cases hsn : sn < 0
    · repeat' first | ((with_reducible (first | refine condD ?_ ?_ | refine condE ?_ ?_ | refine condN ?_ ?_ | refine condI ?_ ?_ | refine condS ?_ ?_)) <;> intro h) | ((with_reducible (first | refine guardD (by with_unfolding_all rfl) ?_ ?_ | refine guardE (by with_unfolding_all rfl) ?_ ?_ | refine guardN (by with_unfolding_all rfl) ?_ ?_ | refine guardI (by with_unfolding_all rfl) ?_ ?_ | refine guardS (by with_unfolding_all rfl) ?_ ?_)) <;> intro h) | ((refine callG alive_c ?_)) | (with_reducible refine And.intro ?_ ?_; omega) | (simp only [Z0,Z1,Z2,Z3,Z4,Z5,Z6,Z7,Z8,Z9,Za,Zb,Zc,Zd,Ze,Zf,List.cons.injEq,Zg,Zh,Zi,Zj,Zk,Zl,Zm,Zn,Zo,Zp,beq_self_eq_true,bne_self_eq_false,decide_true,decide_false,Zq,Zr,Zs,Zt,Zu,Zv,Zw,Zx,Zy,Zz,Y0,Y1,Y2,Y3,Y4,Y5,Y6,Y7,Y8,Y9,Ya,Yb,Yc,Yd,Ye,Yf,Yg,Yh,Yi,Yj,Yk,Yl,Ym,Yn,Yo,Yp,Yq,lk,ef,Yr,Ys,Yt,Yu,Yv,Yw,Yx,Yy,Yz,X0,X1,X2,X3,X4,X5,X6,X7,X8,X9,Xa,Xb,Xc,Xd,Xe,Xf,Xg,Xh,Xi,Xj,Xk,Xl,Xm,Xn,Xo,Xp,Xq,Xr,Xs,hv,Xt,ev,Xu,Xv,Xw,Xx,Xy,Xz,W0,W1,W2,W3,W4,W5,W6,W7,W8,W9,Wa,Wb,Wc,Wd,We,Wf,Wg,Wh,Wi,Wj,Wk,Wl,Wm,Wn,Wo,Wp,Wq,Wr,Ws,Wt,Value.oneCell',Wu,Wv,Ww,Wx,true_and,and_true,and_self,implies_true,Wy,Wz,V0,V1,false_implies,V2,V3,V4,V5,V6,V7,V8,V9,Va,Vb,Vc,Vd,Ve,Vf,Vg,Vh,Vi,reduceCtorEq,if_true,if_false,Vj,↓reduceIte,Vk,Vl,Vm,Vn,Vo,Vp,Vq,ne_eq,not_false_eq_true,not_true_eq_false,Vr,Vs,r3_0,r3_1,r3_2,r3_3,r3_4,r3_5,r3_6,r3_7,r3_8,r3_9,r3_10,r3_11,r3_12,r3_13,r3_14,r3_15,r3_16,r3_17,r3_18,r3_19,r3_20,r3_21,r3_22,r3_23,r3_24,r3_25,r3_26,r3_27,r3_28,r3_29,r3_30,r3_31,r3_32,r3_33,p3,l3_0,hki,hsn,List.length_map]) | (exfalso; omega)
      all_goals first | done | trace_state
    rcases hXY with ⟨q, _⟩ | ⟨_, rfl, rfl⟩
    · exact absurd q hsn
    obtain ⟨g1, _⟩ := h8 (by omega)
    repeat' first | ((with_reducible (first | refine condD ?_ ?_ | refine condE ?_ ?_ | refine condN ?_ ?_ | refine condI ?_ ?_ | refine condS ?_ ?_)) <;> intro h) | ((with_reducible (first | refine guardD (by with_unfolding_all rfl) ?_ ?_ | refine guardE (by with_unfolding_all rfl) ?_ ?_ | refine guardN (by with_unfolding_all rfl) ?_ ?_ | refine guardI (by with_unfolding_all rfl) ?_ ?_ | refine guardS (by with_unfolding_all rfl) ?_ ?_)) <;> intro h) | ((refine callG alive_c ?_)) | (with_reducible refine And.intro ?_ ?_; omega) | (simp only [Z0,Z1,Z2,Z3,Z4,Z5,Z6,Z7,Z8,Z9,Za,Zb,Zc,Zd,Ze,Zf,List.cons.injEq,Zg,Zh,Zi,Zj,Zk,Zl,Zm,Zn,Zo,Zp,beq_self_eq_true,bne_self_eq_false,decide_true,decide_false,Zq,Zr,Zs,Zt,Zu,Zv,Zw,Zx,Zy,Zz,Y0,Y1,Y2,Y3,Y4,Y5,Y6,Y7,Y8,Y9,Ya,Yb,Yc,Yd,Ye,Yf,Yg,Yh,Yi,Yj,Yk,Yl,Ym,Yn,Yo,Yp,Yq,lk,ef,Yr,Ys,Yt,Yu,Yv,Yw,Yx,Yy,Yz,X0,X1,X2,X3,X4,X5,X6,X7,X8,X9,Xa,Xb,Xc,Xd,Xe,Xf,Xg,Xh,Xi,Xj,Xk,Xl,Xm,Xn,Xo,Xp,Xq,Xr,Xs,hv,Xt,ev,Xu,Xv,Xw,Xx,Xy,Xz,W0,W1,W2,W3,W4,W5,W6,W7,W8,W9,Wa,Wb,Wc,Wd,We,Wf,Wg,Wh,Wi,Wj,Wk,Wl,Wm,Wn,Wo,Wp,Wq,Wr,Ws,Wt,Value.oneCell',Wu,Wv,Ww,Wx,true_and,and_true,and_self,implies_true,Wy,Wz,V0,V1,false_implies,V2,V3,V4,V5,V6,V7,V8,V9,Va,Vb,Vc,Vd,Ve,Vf,Vg,Vh,Vi,reduceCtorEq,if_true,if_false,Vj,↓reduceIte,Vk,Vl,Vm,Vn,Vo,Vp,Vq,ne_eq,not_false_eq_true,not_true_eq_false,Vr,Vs,r3_0,r3_1,r3_2,r3_3,r3_4,r3_5,r3_6,r3_7,r3_8,r3_9,r3_10,r3_11,r3_12,r3_13,r3_14,r3_15,r3_16,r3_17,r3_18,r3_19,r3_20,r3_21,r3_22,r3_23,r3_24,r3_25,r3_26,r3_27,r3_28,r3_29,r3_30,r3_31,r3_32,r3_33,p3,l3_0,hki,hsn,List.length_map]) | (exfalso; omega)
    refine loopS (fun i : Nat => mk [(7, .box [.val (.bool c.begun), .val (.int .i64 c.next), .val (.int .i64 c.last.target), .val (.int .i64 c.last.first), .val (.int .i64 c.last.breaks), .ro (c.last.ents.map LE.av), .val (.bool c.last.ended), .ro (c.queue.map QI.av), .val (.int .i64 c.lost)]), (8, .ro (pl.map oneI)), (9, .val (.int .i64 sn)), (103, .ro (pl.map oneI)), (104, .val (.int .i64 pl.length)), (105, .val (.int .i64 i))]) (fun i => i ≤ pl.length) (fun i => pl.length - i) 0 (weak_mk ?_) (Nat.zero_le _) ?_
    · simp only [Vt,Vu,Vv,Vw,Vx,Vy,Z0,Z1,Z2,Z3,Z4,Z5,Z6,Z7,Z8,Z9,Za,Zb,Zc,Zd,Ze,Zf,List.cons.injEq,Zg,Zh,Zi,Zj,Zk,Zl,Zm,Zn,Zo,Zp,beq_self_eq_true,bne_self_eq_false,decide_true,decide_false,Zq,Zr,Zs,Zt,Zu,Zv,Zw,Zx,Zy,Zz,Y0,Y1,Y2,Y3,Y4,Y5,Y6,Y7,Y8,Y9,Ya,Yb,Yc,Yd,Ye,Yf,Yg,Yh,Yi,Yj,Yk,Yl,Ym,Yn,Yo,Yp,Yq,lk,ef,Yr,Ys,Yt,Yu,Yv,Yw,Yx,Yy,Yz,X0,X1,X2,X3,X4,X5,X6,X7,X8,X9,Xa,Xb,Xc,Xd,Xe,Xf,Xg,Xh,Xi,Xj,Xk,Xl,Xm,Xn,Xo,Xp,Xq,Xr,Xs,hv,Xt,ev,Xu,Xv,Xw,Xx,Xy,Xz,W0,W1,W2,W3,W4,W5,W6,W7,W8,W9,Wa,Wb,Wc,Wd,We,Wf,Wg,Wh,Wi,Wj,Wk,Wl,Wm,Wn,Wo,Wp,Wq,Wr,Ws,Wt,Value.oneCell',Wu,Wv,Ww,Wx,true_and,and_true,and_self,implies_true,Wy,Wz,V0,V1,false_implies,V2,V3,V4,V5,V6,V7,V8,V9,Va,Vb,Vc,Vd,Ve,Vf,Vg,Vh,Vi,reduceCtorEq,if_true,if_false,Vj,↓reduceIte,Vk,Vl,Vm,Vn,Vo,Vp,Vq,ne_eq,not_false_eq_true,not_true_eq_false,Vr,Nat.zero_ne_one]
      all_goals first | done | rfl | simp | trace_state
    rintro J hJ i hi
    by_cases hlt : i < pl.length
    · have hii : (i : Int) < pl.length := by omega
      have i0 : (0 : Int) ≤ (i : Int) := by omega
      have hw := i_add1 i (by omega)
      have gI := getD_map (f := oneI) (d := []) hlt
      simp only [oneI] at gI
      rcases Nat.eq_zero_or_pos i with hz | hz
      · subst hz
        have hz1 : ¬ (0 : Int) < ((0 : Nat) : Int) := by decide
        repeat' first | ((with_reducible (first | refine condD ?_ ?_ | refine condE ?_ ?_ | refine condN ?_ ?_ | refine condI ?_ ?_ | refine condS ?_ ?_)) <;> intro h) | ((with_reducible (first | refine guardD (by with_unfolding_all rfl) ?_ ?_ | refine guardE (by with_unfolding_all rfl) ?_ ?_ | refine guardN (by with_unfolding_all rfl) ?_ ?_ | refine guardI (by with_unfolding_all rfl) ?_ ?_ | refine guardS (by with_unfolding_all rfl) ?_ ?_)) <;> intro h) | (with_reducible refine And.intro ?_ ?_; omega) | (simp only [Z0,Z1,Z2,Z3,Z4,Z5,Z6,Z7,Z8,Z9,Za,Zb,Zc,Zd,Ze,Zf,List.cons.injEq,Zg,Zh,Zi,Zj,Zk,Zl,Zm,Zn,Zo,Zp,beq_self_eq_true,bne_self_eq_false,decide_true,decide_false,Zq,Zr,Zs,Zt,Zu,Zv,Zw,Zx,Zy,Zz,Y0,Y1,Y2,Y3,Y4,Y5,Y6,Y7,Y8,Y9,Ya,Yb,Yc,Yd,Ye,Yf,Yg,Yh,Yi,Yj,Yk,Yl,Ym,Yn,Yo,Yp,Yq,lk,ef,Yr,Ys,Yt,Yu,Yv,Yw,Yx,Yy,Yz,X0,X1,X2,X3,X4,X5,X6,X7,X8,X9,Xa,Xb,Xc,Xd,Xe,Xf,Xg,Xh,Xi,Xj,Xk,Xl,Xm,Xn,Xo,Xp,Xq,Xr,Xs,hv,Xt,ev,Xu,Xv,Xw,Xx,Xy,Xz,W0,W1,W2,W3,W4,W5,W6,W7,W8,W9,Wa,Wb,Wc,Wd,We,Wf,Wg,Wh,Wi,Wj,Wk,Wl,Wm,Wn,Wo,Wp,Wq,Wr,Ws,Wt,Value.oneCell',Wu,Wv,Ww,Wx,true_and,and_true,and_self,implies_true,Wy,Wz,V0,V1,false_implies,V2,V3,V4,V5,V6,V7,V8,V9,Va,Vb,Vc,Vd,Ve,Vf,Vg,Vh,Vi,reduceCtorEq,if_true,if_false,Vj,↓reduceIte,Vk,Vl,Vm,Vn,Vo,Vp,Vq,ne_eq,not_false_eq_true,not_true_eq_false,Vr,Vs,r3_0,r3_1,r3_2,r3_3,r3_4,r3_5,r3_6,r3_7,r3_8,r3_9,r3_10,r3_11,r3_12,r3_13,r3_14,r3_15,r3_16,r3_17,r3_18,r3_19,r3_20,r3_21,r3_22,r3_23,r3_24,r3_25,r3_26,r3_27,r3_28,r3_29,r3_30,r3_31,r3_32,r3_33,p3,l3_1,hii,i0,hw,gI,hz1,List.length_map]) | (exfalso; omega)
        all_goals first | done | omega | exact again hJ 1 (weak_mk (by simp only [Vt,Vu,Vv,Vw,Vx,Vy,Z0,Z1,Z2,Z3,Z4,Z5,Z6,Z7,Z8,Z9,Za,Zb,Zc,Zd,Ze,Zf,List.cons.injEq,Zg,Zh,Zi,Zj,Zk,Zl,Zm,Zn,Zo,Zp,beq_self_eq_true,bne_self_eq_false,decide_true,decide_false,Zq,Zr,Zs,Zt,Zu,Zv,Zw,Zx,Zy,Zz,Y0,Y1,Y2,Y3,Y4,Y5,Y6,Y7,Y8,Y9,Ya,Yb,Yc,Yd,Ye,Yf,Yg,Yh,Yi,Yj,Yk,Yl,Ym,Yn,Yo,Yp,Yq,lk,ef,Yr,Ys,Yt,Yu,Yv,Yw,Yx,Yy,Yz,X0,X1,X2,X3,X4,X5,X6,X7,X8,X9,Xa,Xb,Xc,Xd,Xe,Xf,Xg,Xh,Xi,Xj,Xk,Xl,Xm,Xn,Xo,Xp,Xq,Xr,Xs,hv,Xt,ev,Xu,Xv,Xw,Xx,Xy,Xz,W0,W1,W2,W3,W4,W5,W6,W7,W8,W9,Wa,Wb,Wc,Wd,We,Wf,Wg,Wh,Wi,Wj,Wk,Wl,Wm,Wn,Wo,Wp,Wq,Wr,Ws,Wt,Value.oneCell',Wu,Wv,Ww,Wx,true_and,and_true,and_self,implies_true,Wy,Wz,V0,V1,false_implies,V2,V3,V4,V5,V6,V7,V8,V9,Va,Vb,Vc,Vd,Ve,Vf,Vg,Vh,Vi,reduceCtorEq,if_true,if_false,Vj,↓reduceIte,Vk,Vl,Vm,Vn,Vo,Vp,Vq,ne_eq,not_false_eq_true,not_true_eq_false,Vr,Nat.zero_ne_one]; all_goals first | done | rfl)) (by omega) (by omega) | trace_state
      · obtain ⟨j, rfl⟩ : ∃ j, i = j + 1 := ⟨i - 1, by omega⟩
        have hz1 : (0 : Int) < ((j + 1 : Nat) : Int) := by omega
        have hjl : j < pl.length := by omega
        have hjj : (j : Int) < pl.length := by omega
        have j0 : (0 : Int) ≤ (j : Int) := by omega
        have wj : IntKind.i64.wrap (((j + 1 : Nat) : Int) - 1) = (j : Int) := by rw [wrap_in (by omega) (by omega)]; omega
        have gJ := getD_map (f := oneI) (d := []) hjl
        simp only [oneI] at gJ
        obtain ⟨b', hb'⟩ := riseTo_left h6
        have hris' : ¬ pl[j + 1] ≤ pl[j] := Int.not_le.2 (riseTo_get hb' j hlt)
        generalize pl[j + 1] = u at *
        generalize pl[j] = v at *
        repeat' first | ((with_reducible (first | refine condD ?_ ?_ | refine condE ?_ ?_ | refine condN ?_ ?_ | refine condI ?_ ?_ | refine condS ?_ ?_)) <;> intro h) | ((with_reducible (first | refine guardD (by with_unfolding_all rfl) ?_ ?_ | refine guardE (by with_unfolding_all rfl) ?_ ?_ | refine guardN (by with_unfolding_all rfl) ?_ ?_ | refine guardI (by with_unfolding_all rfl) ?_ ?_ | refine guardS (by with_unfolding_all rfl) ?_ ?_)) <;> intro h) | (with_reducible refine And.intro ?_ ?_; omega) | (simp only [Z0,Z1,Z2,Z3,Z4,Z5,Z6,Z7,Z8,Z9,Za,Zb,Zc,Zd,Ze,Zf,List.cons.injEq,Zg,Zh,Zi,Zj,Zk,Zl,Zm,Zn,Zo,Zp,beq_self_eq_true,bne_self_eq_false,decide_true,decide_false,Zq,Zr,Zs,Zt,Zu,Zv,Zw,Zx,Zy,Zz,Y0,Y1,Y2,Y3,Y4,Y5,Y6,Y7,Y8,Y9,Ya,Yb,Yc,Yd,Ye,Yf,Yg,Yh,Yi,Yj,Yk,Yl,Ym,Yn,Yo,Yp,Yq,lk,ef,Yr,Ys,Yt,Yu,Yv,Yw,Yx,Yy,Yz,X0,X1,X2,X3,X4,X5,X6,X7,X8,X9,Xa,Xb,Xc,Xd,Xe,Xf,Xg,Xh,Xi,Xj,Xk,Xl,Xm,Xn,Xo,Xp,Xq,Xr,Xs,hv,Xt,ev,Xu,Xv,Xw,Xx,Xy,Xz,W0,W1,W2,W3,W4,W5,W6,W7,W8,W9,Wa,Wb,Wc,Wd,We,Wf,Wg,Wh,Wi,Wj,Wk,Wl,Wm,Wn,Wo,Wp,Wq,Wr,Ws,Wt,Value.oneCell',Wu,Wv,Ww,Wx,true_and,and_true,and_self,implies_true,Wy,Wz,V0,V1,false_implies,V2,V3,V4,V5,V6,V7,V8,V9,Va,Vb,Vc,Vd,Ve,Vf,Vg,Vh,Vi,reduceCtorEq,if_true,if_false,Vj,↓reduceIte,Vk,Vl,Vm,Vn,Vo,Vp,Vq,ne_eq,not_false_eq_true,not_true_eq_false,Vr,Vs,r3_0,r3_1,r3_2,r3_3,r3_4,r3_5,r3_6,r3_7,r3_8,r3_9,r3_10,r3_11,r3_12,r3_13,r3_14,r3_15,r3_16,r3_17,r3_18,r3_19,r3_20,r3_21,r3_22,r3_23,r3_24,r3_25,r3_26,r3_27,r3_28,r3_29,r3_30,r3_31,r3_32,r3_33,p3,l3_1,hii,i0,hw,gI,hz1,hjj,j0,wj,gJ,hris',List.length_map]) | (exfalso; omega)
        all_goals first | done | omega | exact again hJ (j + 1 + 1) (weak_mk (by simp only [Vt,Vu,Vv,Vw,Vx,Vy,Z0,Z1,Z2,Z3,Z4,Z5,Z6,Z7,Z8,Z9,Za,Zb,Zc,Zd,Ze,Zf,List.cons.injEq,Zg,Zh,Zi,Zj,Zk,Zl,Zm,Zn,Zo,Zp,beq_self_eq_true,bne_self_eq_false,decide_true,decide_false,Zq,Zr,Zs,Zt,Zu,Zv,Zw,Zx,Zy,Zz,Y0,Y1,Y2,Y3,Y4,Y5,Y6,Y7,Y8,Y9,Ya,Yb,Yc,Yd,Ye,Yf,Yg,Yh,Yi,Yj,Yk,Yl,Ym,Yn,Yo,Yp,Yq,lk,ef,Yr,Ys,Yt,Yu,Yv,Yw,Yx,Yy,Yz,X0,X1,X2,X3,X4,X5,X6,X7,X8,X9,Xa,Xb,Xc,Xd,Xe,Xf,Xg,Xh,Xi,Xj,Xk,Xl,Xm,Xn,Xo,Xp,Xq,Xr,Xs,hv,Xt,ev,Xu,Xv,Xw,Xx,Xy,Xz,W0,W1,W2,W3,W4,W5,W6,W7,W8,W9,Wa,Wb,Wc,Wd,We,Wf,Wg,Wh,Wi,Wj,Wk,Wl,Wm,Wn,Wo,Wp,Wq,Wr,Ws,Wt,Value.oneCell',Wu,Wv,Ww,Wx,true_and,and_true,and_self,implies_true,Wy,Wz,V0,V1,false_implies,V2,V3,V4,V5,V6,V7,V8,V9,Va,Vb,Vc,Vd,Ve,Vf,Vg,Vh,Vi,reduceCtorEq,if_true,if_false,Vj,↓reduceIte,Vk,Vl,Vm,Vn,Vo,Vp,Vq,ne_eq,not_false_eq_true,not_true_eq_false,Vr,Nat.zero_ne_one]; all_goals first | done | rfl)) (by omega) (by omega) | trace_state
    · have hii : ¬ (i : Int) < pl.length := by omega
      have w1 : IntKind.i64.wrap (c.next - sn) = c.next - sn := wrap_in (by omega) (by omega)
      have w2 : IntKind.i64.wrap ((pl.length : Int) + c.queue.length) = (pl.length : Int) + c.queue.length := wrap_in (by omega) (by omega)
      have w3 : IntKind.i64.wrap ((pl.length : Int) + c.queue.length + c.lost) = c.next - sn := by rw [wrap_in (by omega) (by omega)]; omega
      clear hJ
      repeat' first | ((with_reducible (first | refine condD ?_ ?_ | refine condE ?_ ?_ | refine condN ?_ ?_ | refine condI ?_ ?_ | refine condS ?_ ?_)) <;> intro h) | ((with_reducible (first | refine guardD (by with_unfolding_all rfl) ?_ ?_ | refine guardE (by with_unfolding_all rfl) ?_ ?_ | refine guardN (by with_unfolding_all rfl) ?_ ?_ | refine guardI (by with_unfolding_all rfl) ?_ ?_ | refine guardS (by with_unfolding_all rfl) ?_ ?_)) <;> intro h) | (with_reducible refine And.intro ?_ ?_; omega) | (simp only [Z0,Z1,Z2,Z3,Z4,Z5,Z6,Z7,Z8,Z9,Za,Zb,Zc,Zd,Ze,Zf,List.cons.injEq,Zg,Zh,Zi,Zj,Zk,Zl,Zm,Zn,Zo,Zp,beq_self_eq_true,bne_self_eq_false,decide_true,decide_false,Zq,Zr,Zs,Zt,Zu,Zv,Zw,Zx,Zy,Zz,Y0,Y1,Y2,Y3,Y4,Y5,Y6,Y7,Y8,Y9,Ya,Yb,Yc,Yd,Ye,Yf,Yg,Yh,Yi,Yj,Yk,Yl,Ym,Yn,Yo,Yp,Yq,lk,ef,Yr,Ys,Yt,Yu,Yv,Yw,Yx,Yy,Yz,X0,X1,X2,X3,X4,X5,X6,X7,X8,X9,Xa,Xb,Xc,Xd,Xe,Xf,Xg,Xh,Xi,Xj,Xk,Xl,Xm,Xn,Xo,Xp,Xq,Xr,Xs,hv,Xt,ev,Xu,Xv,Xw,Xx,Xy,Xz,W0,W1,W2,W3,W4,W5,W6,W7,W8,W9,Wa,Wb,Wc,Wd,We,Wf,Wg,Wh,Wi,Wj,Wk,Wl,Wm,Wn,Wo,Wp,Wq,Wr,Ws,Wt,Value.oneCell',Wu,Wv,Ww,Wx,true_and,and_true,and_self,implies_true,Wy,Wz,V0,V1,false_implies,V2,V3,V4,V5,V6,V7,V8,V9,Va,Vb,Vc,Vd,Ve,Vf,Vg,Vh,Vi,reduceCtorEq,if_true,if_false,Vj,↓reduceIte,Vk,Vl,Vm,Vn,Vo,Vp,Vq,ne_eq,not_false_eq_true,not_true_eq_false,Vr,Vs,r3_0,r3_1,r3_2,r3_3,r3_4,r3_5,r3_6,r3_7,r3_8,r3_9,r3_10,r3_11,r3_12,r3_13,r3_14,r3_15,r3_16,r3_17,r3_18,r3_19,r3_20,r3_21,r3_22,r3_23,r3_24,r3_25,r3_26,r3_27,r3_28,r3_29,r3_30,r3_31,r3_32,r3_33,p3,l3_1,hii,w1,w2,w3,List.length_map]) | (exfalso; omega)
      all_goals first | done | trace_state
  have hw := i_add1 k (by omega)
  have gK := getD_map (f := Chg.av) (d := []) h
  have hki : (k : Int) < ch.length := by omega
  have k0 : (0 : Int) ≤ (k : Int) := by omega
  have i1 : k + 1 ≤ ch.length := h
  have i3 : ch.length - (k + 1) < ch.length - k := by omega
  have hplk : pl.length ≤ k + 1 := by omega
  obtain ⟨hx1, hx2⟩ := hch ch[k] (List.getElem_mem h)
  generalize ch[k] = x at *
  cases hx : x.load
  case false =>
    have ca := add_c l x.ent hok.1 hx1 hx2
    by_cases hA : addF l x.ent = 0
    case neg =>
      rw [if_neg hA] at ca
      generalize addF l x.ent = f at *
      simp only [PL.av, cAV, LE.av, Chg.av, hx, zPLn] at ca gK ⊢
      repeat' first | ((with_reducible (first | refine condD ?_ ?_ | refine condE ?_ ?_ | refine condN ?_ ?_ | refine condI ?_ ?_ | refine condS ?_ ?_)) <;> intro h) | ((with_reducible (first | refine guardD (by with_unfolding_all rfl) ?_ ?_ | refine guardE (by with_unfolding_all rfl) ?_ ?_ | refine guardN (by with_unfolding_all rfl) ?_ ?_ | refine guardI (by with_unfolding_all rfl) ?_ ?_ | refine guardS (by with_unfolding_all rfl) ?_ ?_)) <;> intro h) | ((refine callG ca ?_)) | (with_reducible refine And.intro ?_ ?_; omega) | (simp only [Z0,Z1,Z2,Z3,Z4,Z5,Z6,Z7,Z8,Z9,Za,Zb,Zc,Zd,Ze,Zf,List.cons.injEq,Zg,Zh,Zi,Zj,Zk,Zl,Zm,Zn,Zo,Zp,beq_self_eq_true,bne_self_eq_false,decide_true,decide_false,Zq,Zr,Zs,Zt,Zu,Zv,Zw,Zx,Zy,Zz,Y0,Y1,Y2,Y3,Y4,Y5,Y6,Y7,Y8,Y9,Ya,Yb,Yc,Yd,Ye,Yf,Yg,Yh,Yi,Yj,Yk,Yl,Ym,Yn,Yo,Yp,Yq,lk,ef,Yr,Ys,Yt,Yu,Yv,Yw,Yx,Yy,Yz,X0,X1,X2,X3,X4,X5,X6,X7,X8,X9,Xa,Xb,Xc,Xd,Xe,Xf,Xg,Xh,Xi,Xj,Xk,Xl,Xm,Xn,Xo,Xp,Xq,Xr,Xs,hv,Xt,ev,Xu,Xv,Xw,Xx,Xy,Xz,W0,W1,W2,W3,W4,W5,W6,W7,W8,W9,Wa,Wb,Wc,Wd,We,Wf,Wg,Wh,Wi,Wj,Wk,Wl,Wm,Wn,Wo,Wp,Wq,Wr,Ws,Wt,Value.oneCell',Wu,Wv,Ww,Wx,true_and,and_true,and_self,implies_true,Wy,Wz,V0,V1,false_implies,V2,V3,V4,V5,V6,V7,V8,V9,Va,Vb,Vc,Vd,Ve,Vf,Vg,Vh,Vi,reduceCtorEq,if_true,if_false,Vj,↓reduceIte,Vk,Vl,Vm,Vn,Vo,Vp,Vq,ne_eq,not_false_eq_true,not_true_eq_false,Vr,Vs,r3_0,r3_1,r3_2,r3_3,r3_4,r3_5,r3_6,r3_7,r3_8,r3_9,r3_10,r3_11,r3_12,r3_13,r3_14,r3_15,r3_16,r3_17,r3_18,r3_19,r3_20,r3_21,r3_22,r3_23,r3_24,r3_25,r3_26,r3_27,r3_28,r3_29,r3_30,r3_31,r3_32,r3_33,p3,l3_0,hki,k0,hw,gK,bne0_t hA,List.length_map]) | (exfalso; omega)
      refine again (T := fun p : LvI => lvT back ch p) (p := fun p => p.k ≤ ch.length ∧ p.s.ok ∧ LvXY p.s.c p.s.start p.X p.Y ∧ p.s.played.length ≤ p.k) (μ := fun p => ch.length - p.k) (fun p hp => hJ' p.k p.X p.Y p.s.l p.s.c p.s.played p.s.start hp.1 hp.2.1 hp.2.2.1 hp.2.2.2) ⟨k + 1, X, Y, ⟨l, c, pl, sn⟩⟩ (weak_mk ?_) ⟨i1, hok, hXY, hplk⟩ i3
      simp only [PL.av, cAV]
      simp only [Vt,Vu,Vv,Vw,Vx,Vy,Z0,Z1,Z2,Z3,Z4,Z5,Z6,Z7,Z8,Z9,Za,Zb,Zc,Zd,Ze,Zf,List.cons.injEq,Zg,Zh,Zi,Zj,Zk,Zl,Zm,Zn,Zo,Zp,beq_self_eq_true,bne_self_eq_false,decide_true,decide_false,Zq,Zr,Zs,Zt,Zu,Zv,Zw,Zx,Zy,Zz,Y0,Y1,Y2,Y3,Y4,Y5,Y6,Y7,Y8,Y9,Ya,Yb,Yc,Yd,Ye,Yf,Yg,Yh,Yi,Yj,Yk,Yl,Ym,Yn,Yo,Yp,Yq,lk,ef,Yr,Ys,Yt,Yu,Yv,Yw,Yx,Yy,Yz,X0,X1,X2,X3,X4,X5,X6,X7,X8,X9,Xa,Xb,Xc,Xd,Xe,Xf,Xg,Xh,Xi,Xj,Xk,Xl,Xm,Xn,Xo,Xp,Xq,Xr,Xs,hv,Xt,ev,Xu,Xv,Xw,Xx,Xy,Xz,W0,W1,W2,W3,W4,W5,W6,W7,W8,W9,Wa,Wb,Wc,Wd,We,Wf,Wg,Wh,Wi,Wj,Wk,Wl,Wm,Wn,Wo,Wp,Wq,Wr,Ws,Wt,Value.oneCell',Wu,Wv,Ww,Wx,true_and,and_true,and_self,implies_true,Wy,Wz,V0,V1,false_implies,V2,V3,V4,V5,V6,V7,V8,V9,Va,Vb,Vc,Vd,Ve,Vf,Vg,Vh,Vi,reduceCtorEq,if_true,if_false,Vj,↓reduceIte,Vk,Vl,Vm,Vn,Vo,Vp,Vq,ne_eq,not_false_eq_true,not_true_eq_false,Vr,Nat.zero_ne_one]
      all_goals first | done | trace_state
    rw [if_pos hA] at ca
    have hok2 := lvAdd_st hok hx1 hx hA
    have cf := lv_follows (x := x) hA
    have hale : l.ents.length ≤ 1000 := by
      unfold addF at hA
      split at hA; · rename_i q; exact absurd hA q
      rename_i q; exact (ckF_0.1 (show ckF l = 0 by omega)).2.2.2.1
    have hAok := addL_ok (e := x.ent) hok.1 hale hx1
    have cs := slide_c (addL l x.ent) hAok x.keep
    have cw := follow_c l (lvNow l x) hok.1 hok2.1
    rw [cf] at cw
    by_cases hS : slF (addL l x.ent) x.keep = 0
    case neg =>
      have hN : lvNow l x = addL l x.ent := by unfold lvNow; rw [if_neg (fun q => hS q.1)]
      rw [hN] at hok2 cw
      rw [if_neg hS] at cs
      generalize addL l x.ent = A at *
      generalize slF A x.keep = f at *
      simp only [PL.av, cAV, LE.av, Chg.av, hx, zPLn] at ca cs cw gK ⊢
      repeat' first | ((with_reducible (first | refine condD ?_ ?_ | refine condE ?_ ?_ | refine condN ?_ ?_ | refine condI ?_ ?_ | refine condS ?_ ?_)) <;> intro h) | ((with_reducible (first | refine guardD (by with_unfolding_all rfl) ?_ ?_ | refine guardE (by with_unfolding_all rfl) ?_ ?_ | refine guardN (by with_unfolding_all rfl) ?_ ?_ | refine guardI (by with_unfolding_all rfl) ?_ ?_ | refine guardS (by with_unfolding_all rfl) ?_ ?_)) <;> intro h) | ((refine callG ca ?_)) | ((refine callG cs ?_)) | ((refine callG cw ?_)) | (with_reducible refine And.intro ?_ ?_; omega) | (simp only [Z0,Z1,Z2,Z3,Z4,Z5,Z6,Z7,Z8,Z9,Za,Zb,Zc,Zd,Ze,Zf,List.cons.injEq,Zg,Zh,Zi,Zj,Zk,Zl,Zm,Zn,Zo,Zp,beq_self_eq_true,bne_self_eq_false,decide_true,decide_false,Zq,Zr,Zs,Zt,Zu,Zv,Zw,Zx,Zy,Zz,Y0,Y1,Y2,Y3,Y4,Y5,Y6,Y7,Y8,Y9,Ya,Yb,Yc,Yd,Ye,Yf,Yg,Yh,Yi,Yj,Yk,Yl,Ym,Yn,Yo,Yp,Yq,lk,ef,Yr,Ys,Yt,Yu,Yv,Yw,Yx,Yy,Yz,X0,X1,X2,X3,X4,X5,X6,X7,X8,X9,Xa,Xb,Xc,Xd,Xe,Xf,Xg,Xh,Xi,Xj,Xk,Xl,Xm,Xn,Xo,Xp,Xq,Xr,Xs,hv,Xt,ev,Xu,Xv,Xw,Xx,Xy,Xz,W0,W1,W2,W3,W4,W5,W6,W7,W8,W9,Wa,Wb,Wc,Wd,We,Wf,Wg,Wh,Wi,Wj,Wk,Wl,Wm,Wn,Wo,Wp,Wq,Wr,Ws,Wt,Value.oneCell',Wu,Wv,Ww,Wx,true_and,and_true,and_self,implies_true,Wy,Wz,V0,V1,false_implies,V2,V3,V4,V5,V6,V7,V8,V9,Va,Vb,Vc,Vd,Ve,Vf,Vg,Vh,Vi,reduceCtorEq,if_true,if_false,Vj,↓reduceIte,Vk,Vl,Vm,Vn,Vo,Vp,Vq,ne_eq,not_false_eq_true,not_true_eq_false,Vr,Vs,r3_0,r3_1,r3_2,r3_3,r3_4,r3_5,r3_6,r3_7,r3_8,r3_9,r3_10,r3_11,r3_12,r3_13,r3_14,r3_15,r3_16,r3_17,r3_18,r3_19,r3_20,r3_21,r3_22,r3_23,r3_24,r3_25,r3_26,r3_27,r3_28,r3_29,r3_30,r3_31,r3_32,r3_33,p3,l3_0,hki,k0,hw,gK,beq0_f hS,List.length_map]) | (exfalso; omega)
      refine again (T := fun p : LvI => lvT back ch p) (p := fun p => p.k ≤ ch.length ∧ p.s.ok ∧ LvXY p.s.c p.s.start p.X p.Y ∧ p.s.played.length ≤ p.k) (μ := fun p => ch.length - p.k) (fun p hp => hJ' p.k p.X p.Y p.s.l p.s.c p.s.played p.s.start hp.1 hp.2.1 hp.2.2.1 hp.2.2.2) ⟨k + 1, X, Y, ⟨A, c, pl, sn⟩⟩ (weak_mk ?_) ⟨i1, hok2, hXY, hplk⟩ i3
      simp only [PL.av, cAV]
      simp only [Vt,Vu,Vv,Vw,Vx,Vy,Z0,Z1,Z2,Z3,Z4,Z5,Z6,Z7,Z8,Z9,Za,Zb,Zc,Zd,Ze,Zf,List.cons.injEq,Zg,Zh,Zi,Zj,Zk,Zl,Zm,Zn,Zo,Zp,beq_self_eq_true,bne_self_eq_false,decide_true,decide_false,Zq,Zr,Zs,Zt,Zu,Zv,Zw,Zx,Zy,Zz,Y0,Y1,Y2,Y3,Y4,Y5,Y6,Y7,Y8,Y9,Ya,Yb,Yc,Yd,Ye,Yf,Yg,Yh,Yi,Yj,Yk,Yl,Ym,Yn,Yo,Yp,Yq,lk,ef,Yr,Ys,Yt,Yu,Yv,Yw,Yx,Yy,Yz,X0,X1,X2,X3,X4,X5,X6,X7,X8,X9,Xa,Xb,Xc,Xd,Xe,Xf,Xg,Xh,Xi,Xj,Xk,Xl,Xm,Xn,Xo,Xp,Xq,Xr,Xs,hv,Xt,ev,Xu,Xv,Xw,Xx,Xy,Xz,W0,W1,W2,W3,W4,W5,W6,W7,W8,W9,Wa,Wb,Wc,Wd,We,Wf,Wg,Wh,Wi,Wj,Wk,Wl,Wm,Wn,Wo,Wp,Wq,Wr,Ws,Wt,Value.oneCell',Wu,Wv,Ww,Wx,true_and,and_true,and_self,implies_true,Wy,Wz,V0,V1,false_implies,V2,V3,V4,V5,V6,V7,V8,V9,Va,Vb,Vc,Vd,Ve,Vf,Vg,Vh,Vi,reduceCtorEq,if_true,if_false,Vj,↓reduceIte,Vk,Vl,Vm,Vn,Vo,Vp,Vq,ne_eq,not_false_eq_true,not_true_eq_false,Vr,Nat.zero_ne_one]
      all_goals first | done | trace_state
    rw [if_pos hS] at cs
    by_cases hB : 0 < (slL (addL l x.ent) x.keep).ents.length
    · have hN : lvNow l x = slL (addL l x.ent) x.keep := by unfold lvNow; rw [if_pos ⟨hS, hB⟩]
      rw [hN] at hok2 cw
      have hBi : (0 : Int) < (slL (addL l x.ent) x.keep).ents.length := by omega
      generalize ((slS (addL l x.ent) x.keep).1 : Int) = gone at *
      generalize slL (addL l x.ent) x.keep = B at *
      generalize addL l x.ent = A at *
      simp only [PL.av, cAV, LE.av, Chg.av, hx] at ca cs cw gK ⊢
      repeat' first | ((with_reducible (first | refine condD ?_ ?_ | refine condE ?_ ?_ | refine condN ?_ ?_ | refine condI ?_ ?_ | refine condS ?_ ?_)) <;> intro h) | ((with_reducible (first | refine guardD (by with_unfolding_all rfl) ?_ ?_ | refine guardE (by with_unfolding_all rfl) ?_ ?_ | refine guardN (by with_unfolding_all rfl) ?_ ?_ | refine guardI (by with_unfolding_all rfl) ?_ ?_ | refine guardS (by with_unfolding_all rfl) ?_ ?_)) <;> intro h) | ((refine callG ca ?_)) | ((refine callG cs ?_)) | ((refine callG cw ?_)) | (with_reducible refine And.intro ?_ ?_; omega) | (simp only [Z0,Z1,Z2,Z3,Z4,Z5,Z6,Z7,Z8,Z9,Za,Zb,Zc,Zd,Ze,Zf,List.cons.injEq,Zg,Zh,Zi,Zj,Zk,Zl,Zm,Zn,Zo,Zp,beq_self_eq_true,bne_self_eq_false,decide_true,decide_false,Zq,Zr,Zs,Zt,Zu,Zv,Zw,Zx,Zy,Zz,Y0,Y1,Y2,Y3,Y4,Y5,Y6,Y7,Y8,Y9,Ya,Yb,Yc,Yd,Ye,Yf,Yg,Yh,Yi,Yj,Yk,Yl,Ym,Yn,Yo,Yp,Yq,lk,ef,Yr,Ys,Yt,Yu,Yv,Yw,Yx,Yy,Yz,X0,X1,X2,X3,X4,X5,X6,X7,X8,X9,Xa,Xb,Xc,Xd,Xe,Xf,Xg,Xh,Xi,Xj,Xk,Xl,Xm,Xn,Xo,Xp,Xq,Xr,Xs,hv,Xt,ev,Xu,Xv,Xw,Xx,Xy,Xz,W0,W1,W2,W3,W4,W5,W6,W7,W8,W9,Wa,Wb,Wc,Wd,We,Wf,Wg,Wh,Wi,Wj,Wk,Wl,Wm,Wn,Wo,Wp,Wq,Wr,Ws,Wt,Value.oneCell',Wu,Wv,Ww,Wx,true_and,and_true,and_self,implies_true,Wy,Wz,V0,V1,false_implies,V2,V3,V4,V5,V6,V7,V8,V9,Va,Vb,Vc,Vd,Ve,Vf,Vg,Vh,Vi,reduceCtorEq,if_true,if_false,Vj,↓reduceIte,Vk,Vl,Vm,Vn,Vo,Vp,Vq,ne_eq,not_false_eq_true,not_true_eq_false,Vr,Vs,r3_0,r3_1,r3_2,r3_3,r3_4,r3_5,r3_6,r3_7,r3_8,r3_9,r3_10,r3_11,r3_12,r3_13,r3_14,r3_15,r3_16,r3_17,r3_18,r3_19,r3_20,r3_21,r3_22,r3_23,r3_24,r3_25,r3_26,r3_27,r3_28,r3_29,r3_30,r3_31,r3_32,r3_33,p3,l3_0,hki,k0,hw,gK,hBi,List.length_map]) | (exfalso; omega)
      refine again (T := fun p : LvI => lvT back ch p) (p := fun p => p.k ≤ ch.length ∧ p.s.ok ∧ LvXY p.s.c p.s.start p.X p.Y ∧ p.s.played.length ≤ p.k) (μ := fun p => ch.length - p.k) (fun p hp => hJ' p.k p.X p.Y p.s.l p.s.c p.s.played p.s.start hp.1 hp.2.1 hp.2.2.1 hp.2.2.2) ⟨k + 1, X, Y, ⟨B, c, pl, sn⟩⟩ (weak_mk ?_) ⟨i1, hok2, hXY, hplk⟩ i3
      simp only [PL.av, cAV]
      simp only [Vt,Vu,Vv,Vw,Vx,Vy,Z0,Z1,Z2,Z3,Z4,Z5,Z6,Z7,Z8,Z9,Za,Zb,Zc,Zd,Ze,Zf,List.cons.injEq,Zg,Zh,Zi,Zj,Zk,Zl,Zm,Zn,Zo,Zp,beq_self_eq_true,bne_self_eq_false,decide_true,decide_false,Zq,Zr,Zs,Zt,Zu,Zv,Zw,Zx,Zy,Zz,Y0,Y1,Y2,Y3,Y4,Y5,Y6,Y7,Y8,Y9,Ya,Yb,Yc,Yd,Ye,Yf,Yg,Yh,Yi,Yj,Yk,Yl,Ym,Yn,Yo,Yp,Yq,lk,ef,Yr,Ys,Yt,Yu,Yv,Yw,Yx,Yy,Yz,X0,X1,X2,X3,X4,X5,X6,X7,X8,X9,Xa,Xb,Xc,Xd,Xe,Xf,Xg,Xh,Xi,Xj,Xk,Xl,Xm,Xn,Xo,Xp,Xq,Xr,Xs,hv,Xt,ev,Xu,Xv,Xw,Xx,Xy,Xz,W0,W1,W2,W3,W4,W5,W6,W7,W8,W9,Wa,Wb,Wc,Wd,We,Wf,Wg,Wh,Wi,Wj,Wk,Wl,Wm,Wn,Wo,Wp,Wq,Wr,Ws,Wt,Value.oneCell',Wu,Wv,Ww,Wx,true_and,and_true,and_self,implies_true,Wy,Wz,V0,V1,false_implies,V2,V3,V4,V5,V6,V7,V8,V9,Va,Vb,Vc,Vd,Ve,Vf,Vg,Vh,Vi,reduceCtorEq,if_true,if_false,Vj,↓reduceIte,Vk,Vl,Vm,Vn,Vo,Vp,Vq,ne_eq,not_false_eq_true,not_true_eq_false,Vr,Nat.zero_ne_one]
      all_goals first | done | trace_state
    · have hN : lvNow l x = addL l x.ent := by unfold lvNow; rw [if_neg (fun q => hB q.2)]
      rw [hN] at hok2 cw
      have hBi : ¬ (0 : Int) < (slL (addL l x.ent) x.keep).ents.length := by omega
      generalize ((slS (addL l x.ent) x.keep).1 : Int) = gone at *
      generalize slL (addL l x.ent) x.keep = B at *
      generalize addL l x.ent = A at *
      simp only [PL.av, cAV, LE.av, Chg.av, hx] at ca cs cw gK ⊢
      repeat' first | ((with_reducible (first | refine condD ?_ ?_ | refine condE ?_ ?_ | refine condN ?_ ?_ | refine condI ?_ ?_ | refine condS ?_ ?_)) <;> intro h) | ((with_reducible (first | refine guardD (by with_unfolding_all rfl) ?_ ?_ | refine guardE (by with_unfolding_all rfl) ?_ ?_ | refine guardN (by with_unfolding_all rfl) ?_ ?_ | refine guardI (by with_unfolding_all rfl) ?_ ?_ | refine guardS (by with_unfolding_all rfl) ?_ ?_)) <;> intro h) | ((refine callG ca ?_)) | ((refine callG cs ?_)) | ((refine callG cw ?_)) | (with_reducible refine And.intro ?_ ?_; omega) | (simp only [Z0,Z1,Z2,Z3,Z4,Z5,Z6,Z7,Z8,Z9,Za,Zb,Zc,Zd,Ze,Zf,List.cons.injEq,Zg,Zh,Zi,Zj,Zk,Zl,Zm,Zn,Zo,Zp,beq_self_eq_true,bne_self_eq_false,decide_true,decide_false,Zq,Zr,Zs,Zt,Zu,Zv,Zw,Zx,Zy,Zz,Y0,Y1,Y2,Y3,Y4,Y5,Y6,Y7,Y8,Y9,Ya,Yb,Yc,Yd,Ye,Yf,Yg,Yh,Yi,Yj,Yk,Yl,Ym,Yn,Yo,Yp,Yq,lk,ef,Yr,Ys,Yt,Yu,Yv,Yw,Yx,Yy,Yz,X0,X1,X2,X3,X4,X5,X6,X7,X8,X9,Xa,Xb,Xc,Xd,Xe,Xf,Xg,Xh,Xi,Xj,Xk,Xl,Xm,Xn,Xo,Xp,Xq,Xr,Xs,hv,Xt,ev,Xu,Xv,Xw,Xx,Xy,Xz,W0,W1,W2,W3,W4,W5,W6,W7,W8,W9,Wa,Wb,Wc,Wd,We,Wf,Wg,Wh,Wi,Wj,Wk,Wl,Wm,Wn,Wo,Wp,Wq,Wr,Ws,Wt,Value.oneCell',Wu,Wv,Ww,Wx,true_and,and_true,and_self,implies_true,Wy,Wz,V0,V1,false_implies,V2,V3,V4,V5,V6,V7,V8,V9,Va,Vb,Vc,Vd,Ve,Vf,Vg,Vh,Vi,reduceCtorEq,if_true,if_false,Vj,↓reduceIte,Vk,Vl,Vm,Vn,Vo,Vp,Vq,ne_eq,not_false_eq_true,not_true_eq_false,Vr,Vs,r3_0,r3_1,r3_2,r3_3,r3_4,r3_5,r3_6,r3_7,r3_8,r3_9,r3_10,r3_11,r3_12,r3_13,r3_14,r3_15,r3_16,r3_17,r3_18,r3_19,r3_20,r3_21,r3_22,r3_23,r3_24,r3_25,r3_26,r3_27,r3_28,r3_29,r3_30,r3_31,r3_32,r3_33,p3,l3_0,hki,k0,hw,gK,hBi,List.length_map]) | (exfalso; omega)
      refine again (T := fun p : LvI => lvT back ch p) (p := fun p => p.k ≤ ch.length ∧ p.s.ok ∧ LvXY p.s.c p.s.start p.X p.Y ∧ p.s.played.length ≤ p.k) (μ := fun p => ch.length - p.k) (fun p hp => hJ' p.k p.X p.Y p.s.l p.s.c p.s.played p.s.start hp.1 hp.2.1 hp.2.2.1 hp.2.2.2) ⟨k + 1, X, Y, ⟨A, c, pl, sn⟩⟩ (weak_mk ?_) ⟨i1, hok2, hXY, hplk⟩ i3
      simp only [PL.av, cAV]
      simp only [Vt,Vu,Vv,Vw,Vx,Vy,Z0,Z1,Z2,Z3,Z4,Z5,Z6,Z7,Z8,Z9,Za,Zb,Zc,Zd,Ze,Zf,List.cons.injEq,Zg,Zh,Zi,Zj,Zk,Zl,Zm,Zn,Zo,Zp,beq_self_eq_true,bne_self_eq_false,decide_true,decide_false,Zq,Zr,Zs,Zt,Zu,Zv,Zw,Zx,Zy,Zz,Y0,Y1,Y2,Y3,Y4,Y5,Y6,Y7,Y8,Y9,Ya,Yb,Yc,Yd,Ye,Yf,Yg,Yh,Yi,Yj,Yk,Yl,Ym,Yn,Yo,Yp,Yq,lk,ef,Yr,Ys,Yt,Yu,Yv,Yw,Yx,Yy,Yz,X0,X1,X2,X3,X4,X5,X6,X7,X8,X9,Xa,Xb,Xc,Xd,Xe,Xf,Xg,Xh,Xi,Xj,Xk,Xl,Xm,Xn,Xo,Xp,Xq,Xr,Xs,hv,Xt,ev,Xu,Xv,Xw,Xx,Xy,Xz,W0,W1,W2,W3,W4,W5,W6,W7,W8,W9,Wa,Wb,Wc,Wd,We,Wf,Wg,Wh,Wi,Wj,Wk,Wl,Wm,Wn,Wo,Wp,Wq,Wr,Ws,Wt,Value.oneCell',Wu,Wv,Ww,Wx,true_and,and_true,and_self,implies_true,Wy,Wz,V0,V1,false_implies,V2,V3,V4,V5,V6,V7,V8,V9,Va,Vb,Vc,Vd,Ve,Vf,Vg,Vh,Vi,reduceCtorEq,if_true,if_false,Vj,↓reduceIte,Vk,Vl,Vm,Vn,Vo,Vp,Vq,ne_eq,not_false_eq_true,not_true_eq_false,Vr,Nat.zero_ne_one]
      all_goals first | done | trace_state
  case true =>
    have cl := load_s hok hXY back
    by_cases hL : loadF c l back = 0
    · rw [if_pos hL] at cl
      obtain ⟨st, hst, hok3, hs3⟩ := lvLoad_st hok hL
      generalize loadC c l back = C at *
      have hXY3 : LvXY C st (.ro (C.last.ents.map LE.av)) (.ro (C.queue.map QI.av)) := .inr ⟨hs3, rfl, rfl⟩
      by_cases hsn : sn < 0
      · rw [if_pos hsn] at hst
        have hq3 := hok3.2.2.2.1
        have hq3 : C.queue.length ≤ 2000 := hq3
        have hn3 := hok3.2.2.2.2.2.2.2.2
        have hn3 : 0 ≤ C.next ∧ C.next ≤ 4000000000000000 ∧ 0 ≤ C.lost ∧ C.lost ≤ 4000000000000000 := hn3
        have ws : IntKind.i64.wrap (C.next - (C.queue.length : Int)) = st := by rw [wrap_in (by omega) (by omega)]; omega
        clear hst hXY
        by_cases hP : playF C = 0
        · obtain ⟨y, T, hy, cp⟩ := play_s1 hok3 hXY3 hP
          obtain ⟨hok4, hs4⟩ := lvPlay_st hok3 hP hy
          generalize playC C = D at *
          have hap : pl.map oneI ++ [[AV.val (.int .i64 y.num)]] = (pl ++ [y.num]).map oneI := by rw [List.map_append]; rfl
          have hplk2 : (pl ++ [y.num]).length ≤ k + 1 := by rw [List.length_append, List.length_singleton]; omega
          simp only [PL.av, CL.av, QI.av, cAV, Chg.av, hx] at cl cp gK ⊢
          repeat' first | ((with_reducible (first | refine condD ?_ ?_ | refine condE ?_ ?_ | refine condN ?_ ?_ | refine condI ?_ ?_ | refine condS ?_ ?_)) <;> intro h) | ((with_reducible (first | refine guardD (by with_unfolding_all rfl) ?_ ?_ | refine guardE (by with_unfolding_all rfl) ?_ ?_ | refine guardN (by with_unfolding_all rfl) ?_ ?_ | refine guardI (by with_unfolding_all rfl) ?_ ?_ | refine guardS (by with_unfolding_all rfl) ?_ ?_)) <;> intro h) | ((refine callG cl ?_)) | ((refine callG cp ?_)) | (with_reducible refine And.intro ?_ ?_; omega) | (simp only [Z0,Z1,Z2,Z3,Z4,Z5,Z6,Z7,Z8,Z9,Za,Zb,Zc,Zd,Ze,Zf,List.cons.injEq,Zg,Zh,Zi,Zj,Zk,Zl,Zm,Zn,Zo,Zp,beq_self_eq_true,bne_self_eq_false,decide_true,decide_false,Zq,Zr,Zs,Zt,Zu,Zv,Zw,Zx,Zy,Zz,Y0,Y1,Y2,Y3,Y4,Y5,Y6,Y7,Y8,Y9,Ya,Yb,Yc,Yd,Ye,Yf,Yg,Yh,Yi,Yj,Yk,Yl,Ym,Yn,Yo,Yp,Yq,lk,ef,Yr,Ys,Yt,Yu,Yv,Yw,Yx,Yy,Yz,X0,X1,X2,X3,X4,X5,X6,X7,X8,X9,Xa,Xb,Xc,Xd,Xe,Xf,Xg,Xh,Xi,Xj,Xk,Xl,Xm,Xn,Xo,Xp,Xq,Xr,Xs,hv,Xt,ev,Xu,Xv,Xw,Xx,Xy,Xz,W0,W1,W2,W3,W4,W5,W6,W7,W8,W9,Wa,Wb,Wc,Wd,We,Wf,Wg,Wh,Wi,Wj,Wk,Wl,Wm,Wn,Wo,Wp,Wq,Wr,Ws,Wt,Value.oneCell',Wu,Wv,Ww,Wx,true_and,and_true,and_self,implies_true,Wy,Wz,V0,V1,false_implies,V2,V3,V4,V5,V6,V7,V8,V9,Va,Vb,Vc,Vd,Ve,Vf,Vg,Vh,Vi,reduceCtorEq,if_true,if_false,Vj,↓reduceIte,Vk,Vl,Vm,Vn,Vo,Vp,Vq,ne_eq,not_false_eq_true,not_true_eq_false,Vr,Vs,r3_0,r3_1,r3_2,r3_3,r3_4,r3_5,r3_6,r3_7,r3_8,r3_9,r3_10,r3_11,r3_12,r3_13,r3_14,r3_15,r3_16,r3_17,r3_18,r3_19,r3_20,r3_21,r3_22,r3_23,r3_24,r3_25,r3_26,r3_27,r3_28,r3_29,r3_30,r3_31,r3_32,r3_33,p3,l3_0,hki,k0,hw,gK,hsn,ws,List.length_map]) | (exfalso; omega)
          refine opwG (weak_mk (l := [(2, .val (.int .i64 back)), (3, .box [.val (.int .i64 l.target), .val (.int .i64 l.first), .val (.int .i64 l.breaks), .ro (l.ents.map LE.av), .val (.bool l.ended)]), (7, .box [.val (.bool C.begun), .val (.int .i64 C.next), .val (.int .i64 C.last.target), .val (.int .i64 C.last.first), .val (.int .i64 C.last.breaks), .ro (C.last.ents.map LE.av), .val (.bool C.last.ended), .ro (C.queue.map QI.av), .val (.int .i64 C.lost)]), (8, .own 3 1 (pl.map oneI)), (9, .val (.int .i64 st)), (14, .roAt [.val (.bool D.begun), .val (.int .i64 D.next), .val (.int .i64 D.last.target), .val (.int .i64 D.last.first), .val (.int .i64 D.last.breaks), .ro (D.last.ents.map LE.av), .val (.bool D.last.ended), .ro (D.queue.map QI.av), .val (.int .i64 D.lost)] 0), (15, .box [.val (.int .i64 y.num), .val (.string y.ent.uri), .val (.int .i64 y.ent.milli), .val (.bool y.ent.brk), .val (.int .i64 y.ent.date), .val (.string y.ent.key), .val (.bool y.ent.gap), .ro (y.ent.extra.map oneS)]), (24, .ro (ch.map Chg.av)), (25, .val (.int .i64 ch.length)), (26, .val (.int .i64 k))]) ?_) ?_
          · simp only [Vt,Vu,Vv,Vw,Vx,Vy,Z0,Z1,Z2,Z3,Z4,Z5,Z6,Z7,Z8,Z9,Za,Zb,Zc,Zd,Ze,Zf,List.cons.injEq,Zg,Zh,Zi,Zj,Zk,Zl,Zm,Zn,Zo,Zp,beq_self_eq_true,bne_self_eq_false,decide_true,decide_false,Zq,Zr,Zs,Zt,Zu,Zv,Zw,Zx,Zy,Zz,Y0,Y1,Y2,Y3,Y4,Y5,Y6,Y7,Y8,Y9,Ya,Yb,Yc,Yd,Ye,Yf,Yg,Yh,Yi,Yj,Yk,Yl,Ym,Yn,Yo,Yp,Yq,lk,ef,Yr,Ys,Yt,Yu,Yv,Yw,Yx,Yy,Yz,X0,X1,X2,X3,X4,X5,X6,X7,X8,X9,Xa,Xb,Xc,Xd,Xe,Xf,Xg,Xh,Xi,Xj,Xk,Xl,Xm,Xn,Xo,Xp,Xq,Xr,Xs,hv,Xt,ev,Xu,Xv,Xw,Xx,Xy,Xz,W0,W1,W2,W3,W4,W5,W6,W7,W8,W9,Wa,Wb,Wc,Wd,We,Wf,Wg,Wh,Wi,Wj,Wk,Wl,Wm,Wn,Wo,Wp,Wq,Wr,Ws,Wt,Value.oneCell',Wu,Wv,Ww,Wx,true_and,and_true,and_self,implies_true,Wy,Wz,V0,V1,false_implies,V2,V3,V4,V5,V6,V7,V8,V9,Va,Vb,Vc,Vd,Ve,Vf,Vg,Vh,Vi,reduceCtorEq,if_true,if_false,Vj,↓reduceIte,Vk,Vl,Vm,Vn,Vo,Vp,Vq,ne_eq,not_false_eq_true,not_true_eq_false,Vr,Nat.zero_ne_one]
            all_goals first | done | trace_state
          repeat' first | ((with_reducible (first | refine condD ?_ ?_ | refine condE ?_ ?_ | refine condN ?_ ?_ | refine condI ?_ ?_ | refine condS ?_ ?_)) <;> intro h) | ((with_reducible (first | refine guardD (by with_unfolding_all rfl) ?_ ?_ | refine guardE (by with_unfolding_all rfl) ?_ ?_ | refine guardN (by with_unfolding_all rfl) ?_ ?_ | refine guardI (by with_unfolding_all rfl) ?_ ?_ | refine guardS (by with_unfolding_all rfl) ?_ ?_)) <;> intro h) | (with_reducible refine And.intro ?_ ?_; omega) | (simp only [Z0,Z1,Z2,Z3,Z4,Z5,Z6,Z7,Z8,Z9,Za,Zb,Zc,Zd,Ze,Zf,List.cons.injEq,Zg,Zh,Zi,Zj,Zk,Zl,Zm,Zn,Zo,Zp,beq_self_eq_true,bne_self_eq_false,decide_true,decide_false,Zq,Zr,Zs,Zt,Zu,Zv,Zw,Zx,Zy,Zz,Y0,Y1,Y2,Y3,Y4,Y5,Y6,Y7,Y8,Y9,Ya,Yb,Yc,Yd,Ye,Yf,Yg,Yh,Yi,Yj,Yk,Yl,Ym,Yn,Yo,Yp,Yq,lk,ef,Yr,Ys,Yt,Yu,Yv,Yw,Yx,Yy,Yz,X0,X1,X2,X3,X4,X5,X6,X7,X8,X9,Xa,Xb,Xc,Xd,Xe,Xf,Xg,Xh,Xi,Xj,Xk,Xl,Xm,Xn,Xo,Xp,Xq,Xr,Xs,hv,Xt,ev,Xu,Xv,Xw,Xx,Xy,Xz,W0,W1,W2,W3,W4,W5,W6,W7,W8,W9,Wa,Wb,Wc,Wd,We,Wf,Wg,Wh,Wi,Wj,Wk,Wl,Wm,Wn,Wo,Wp,Wq,Wr,Ws,Wt,Value.oneCell',Wu,Wv,Ww,Wx,true_and,and_true,and_self,implies_true,Wy,Wz,V0,V1,false_implies,V2,V3,V4,V5,V6,V7,V8,V9,Va,Vb,Vc,Vd,Ve,Vf,Vg,Vh,Vi,reduceCtorEq,if_true,if_false,Vj,↓reduceIte,Vk,Vl,Vm,Vn,Vo,Vp,Vq,ne_eq,not_false_eq_true,not_true_eq_false,Vr,Vs,r3_0,r3_1,r3_2,r3_3,r3_4,r3_5,r3_6,r3_7,r3_8,r3_9,r3_10,r3_11,r3_12,r3_13,r3_14,r3_15,r3_16,r3_17,r3_18,r3_19,r3_20,r3_21,r3_22,r3_23,r3_24,r3_25,r3_26,r3_27,r3_28,r3_29,r3_30,r3_31,r3_32,r3_33,p3,l3_0,hw,hap,List.length_map]) | (exfalso; omega)
          all_goals first | done | omega | skip
          refine again (T := fun p : LvI => lvT back ch p) (p := fun p => p.k ≤ ch.length ∧ p.s.ok ∧ LvXY p.s.c p.s.start p.X p.Y ∧ p.s.played.length ≤ p.k) (μ := fun p => ch.length - p.k) (fun p hp => hJ' p.k p.X p.Y p.s.l p.s.c p.s.played p.s.start hp.1 hp.2.1 hp.2.2.1 hp.2.2.2) ⟨k + 1, .ro (D.last.ents.map LE.av), .ro (D.queue.map QI.av), ⟨l, D, pl ++ [y.num], st⟩⟩ (weak_mk ?_) ⟨i1, hok4, .inr ⟨hs4, rfl, rfl⟩, hplk2⟩ i3
          simp only [PL.av, cAV]
          simp only [Vt,Vu,Vv,Vw,Vx,Vy,Z0,Z1,Z2,Z3,Z4,Z5,Z6,Z7,Z8,Z9,Za,Zb,Zc,Zd,Ze,Zf,List.cons.injEq,Zg,Zh,Zi,Zj,Zk,Zl,Zm,Zn,Zo,Zp,beq_self_eq_true,bne_self_eq_false,decide_true,decide_false,Zq,Zr,Zs,Zt,Zu,Zv,Zw,Zx,Zy,Zz,Y0,Y1,Y2,Y3,Y4,Y5,Y6,Y7,Y8,Y9,Ya,Yb,Yc,Yd,Ye,Yf,Yg,Yh,Yi,Yj,Yk,Yl,Ym,Yn,Yo,Yp,Yq,lk,ef,Yr,Ys,Yt,Yu,Yv,Yw,Yx,Yy,Yz,X0,X1,X2,X3,X4,X5,X6,X7,X8,X9,Xa,Xb,Xc,Xd,Xe,Xf,Xg,Xh,Xi,Xj,Xk,Xl,Xm,Xn,Xo,Xp,Xq,Xr,Xs,hv,Xt,ev,Xu,Xv,Xw,Xx,Xy,Xz,W0,W1,W2,W3,W4,W5,W6,W7,W8,W9,Wa,Wb,Wc,Wd,We,Wf,Wg,Wh,Wi,Wj,Wk,Wl,Wm,Wn,Wo,Wp,Wq,Wr,Ws,Wt,Value.oneCell',Wu,Wv,Ww,Wx,true_and,and_true,and_self,implies_true,Wy,Wz,V0,V1,false_implies,V2,V3,V4,V5,V6,V7,V8,V9,Va,Vb,Vc,Vd,Ve,Vf,Vg,Vh,Vi,reduceCtorEq,if_true,if_false,Vj,↓reduceIte,Vk,Vl,Vm,Vn,Vo,Vp,Vq,ne_eq,not_false_eq_true,not_true_eq_false,Vr,Nat.zero_ne_one]
          all_goals first | done | trace_state
        · have cp := play_s0 hok3 hXY3 hP
          generalize playF C = fp at *
          simp only [PL.av, CL.av, cAV, Chg.av, hx, zCLp, zQIp] at cl cp gK ⊢
          repeat' first | ((with_reducible (first | refine condD ?_ ?_ | refine condE ?_ ?_ | refine condN ?_ ?_ | refine condI ?_ ?_ | refine condS ?_ ?_)) <;> intro h) | ((with_reducible (first | refine guardD (by with_unfolding_all rfl) ?_ ?_ | refine guardE (by with_unfolding_all rfl) ?_ ?_ | refine guardN (by with_unfolding_all rfl) ?_ ?_ | refine guardI (by with_unfolding_all rfl) ?_ ?_ | refine guardS (by with_unfolding_all rfl) ?_ ?_)) <;> intro h) | ((refine callG cl ?_)) | ((refine callG cp ?_)) | (with_reducible refine And.intro ?_ ?_; omega) | (simp only [Z0,Z1,Z2,Z3,Z4,Z5,Z6,Z7,Z8,Z9,Za,Zb,Zc,Zd,Ze,Zf,List.cons.injEq,Zg,Zh,Zi,Zj,Zk,Zl,Zm,Zn,Zo,Zp,beq_self_eq_true,bne_self_eq_false,decide_true,decide_false,Zq,Zr,Zs,Zt,Zu,Zv,Zw,Zx,Zy,Zz,Y0,Y1,Y2,Y3,Y4,Y5,Y6,Y7,Y8,Y9,Ya,Yb,Yc,Yd,Ye,Yf,Yg,Yh,Yi,Yj,Yk,Yl,Ym,Yn,Yo,Yp,Yq,lk,ef,Yr,Ys,Yt,Yu,Yv,Yw,Yx,Yy,Yz,X0,X1,X2,X3,X4,X5,X6,X7,X8,X9,Xa,Xb,Xc,Xd,Xe,Xf,Xg,Xh,Xi,Xj,Xk,Xl,Xm,Xn,Xo,Xp,Xq,Xr,Xs,hv,Xt,ev,Xu,Xv,Xw,Xx,Xy,Xz,W0,W1,W2,W3,W4,W5,W6,W7,W8,W9,Wa,Wb,Wc,Wd,We,Wf,Wg,Wh,Wi,Wj,Wk,Wl,Wm,Wn,Wo,Wp,Wq,Wr,Ws,Wt,Value.oneCell',Wu,Wv,Ww,Wx,true_and,and_true,and_self,implies_true,Wy,Wz,V0,V1,false_implies,V2,V3,V4,V5,V6,V7,V8,V9,Va,Vb,Vc,Vd,Ve,Vf,Vg,Vh,Vi,reduceCtorEq,if_true,if_false,Vj,↓reduceIte,Vk,Vl,Vm,Vn,Vo,Vp,Vq,ne_eq,not_false_eq_true,not_true_eq_false,Vr,Vs,r3_0,r3_1,r3_2,r3_3,r3_4,r3_5,r3_6,r3_7,r3_8,r3_9,r3_10,r3_11,r3_12,r3_13,r3_14,r3_15,r3_16,r3_17,r3_18,r3_19,r3_20,r3_21,r3_22,r3_23,r3_24,r3_25,r3_26,r3_27,r3_28,r3_29,r3_30,r3_31,r3_32,r3_33,p3,l3_0,hki,k0,hw,gK,hsn,ws,beq0_f hP,List.length_map]) | (exfalso; omega)
          refine again (T := fun p : LvI => lvT back ch p) (p := fun p => p.k ≤ ch.length ∧ p.s.ok ∧ LvXY p.s.c p.s.start p.X p.Y ∧ p.s.played.length ≤ p.k) (μ := fun p => ch.length - p.k) (fun p hp => hJ' p.k p.X p.Y p.s.l p.s.c p.s.played p.s.start hp.1 hp.2.1 hp.2.2.1 hp.2.2.2) ⟨k + 1, .ro (C.last.ents.map LE.av), .ro (C.queue.map QI.av), ⟨l, C, pl, st⟩⟩ (weak_mk ?_) ⟨i1, hok3, hXY3, hplk⟩ i3
          simp only [PL.av, cAV]
          simp only [Vt,Vu,Vv,Vw,Vx,Vy,Z0,Z1,Z2,Z3,Z4,Z5,Z6,Z7,Z8,Z9,Za,Zb,Zc,Zd,Ze,Zf,List.cons.injEq,Zg,Zh,Zi,Zj,Zk,Zl,Zm,Zn,Zo,Zp,beq_self_eq_true,bne_self_eq_false,decide_true,decide_false,Zq,Zr,Zs,Zt,Zu,Zv,Zw,Zx,Zy,Zz,Y0,Y1,Y2,Y3,Y4,Y5,Y6,Y7,Y8,Y9,Ya,Yb,Yc,Yd,Ye,Yf,Yg,Yh,Yi,Yj,Yk,Yl,Ym,Yn,Yo,Yp,Yq,lk,ef,Yr,Ys,Yt,Yu,Yv,Yw,Yx,Yy,Yz,X0,X1,X2,X3,X4,X5,X6,X7,X8,X9,Xa,Xb,Xc,Xd,Xe,Xf,Xg,Xh,Xi,Xj,Xk,Xl,Xm,Xn,Xo,Xp,Xq,Xr,Xs,hv,Xt,ev,Xu,Xv,Xw,Xx,Xy,Xz,W0,W1,W2,W3,W4,W5,W6,W7,W8,W9,Wa,Wb,Wc,Wd,We,Wf,Wg,Wh,Wi,Wj,Wk,Wl,Wm,Wn,Wo,Wp,Wq,Wr,Ws,Wt,Value.oneCell',Wu,Wv,Ww,Wx,true_and,and_true,and_self,implies_true,Wy,Wz,V0,V1,false_implies,V2,V3,V4,V5,V6,V7,V8,V9,Va,Vb,Vc,Vd,Ve,Vf,Vg,Vh,Vi,reduceCtorEq,if_true,if_false,Vj,↓reduceIte,Vk,Vl,Vm,Vn,Vo,Vp,Vq,ne_eq,not_false_eq_true,not_true_eq_false,Vr,Nat.zero_ne_one]
          all_goals first | done | trace_state
      · rw [if_neg hsn] at hst
        subst hst
        clear hXY
        by_cases hP : playF C = 0
        · obtain ⟨y, T, hy, cp⟩ := play_s1 hok3 hXY3 hP
          obtain ⟨hok4, hs4⟩ := lvPlay_st hok3 hP hy
          generalize playC C = D at *
          have hap : pl.map oneI ++ [[AV.val (.int .i64 y.num)]] = (pl ++ [y.num]).map oneI := by rw [List.map_append]; rfl
          have hplk2 : (pl ++ [y.num]).length ≤ k + 1 := by rw [List.length_append, List.length_singleton]; omega
          simp only [PL.av, CL.av, QI.av, cAV, Chg.av, hx] at cl cp gK ⊢
          repeat' first | ((with_reducible (first | refine condD ?_ ?_ | refine condE ?_ ?_ | refine condN ?_ ?_ | refine condI ?_ ?_ | refine condS ?_ ?_)) <;> intro h) | ((with_reducible (first | refine guardD (by with_unfolding_all rfl) ?_ ?_ | refine guardE (by with_unfolding_all rfl) ?_ ?_ | refine guardN (by with_unfolding_all rfl) ?_ ?_ | refine guardI (by with_unfolding_all rfl) ?_ ?_ | refine guardS (by with_unfolding_all rfl) ?_ ?_)) <;> intro h) | ((refine callG cl ?_)) | ((refine callG cp ?_)) | (with_reducible refine And.intro ?_ ?_; omega) | (simp only [Z0,Z1,Z2,Z3,Z4,Z5,Z6,Z7,Z8,Z9,Za,Zb,Zc,Zd,Ze,Zf,List.cons.injEq,Zg,Zh,Zi,Zj,Zk,Zl,Zm,Zn,Zo,Zp,beq_self_eq_true,bne_self_eq_false,decide_true,decide_false,Zq,Zr,Zs,Zt,Zu,Zv,Zw,Zx,Zy,Zz,Y0,Y1,Y2,Y3,Y4,Y5,Y6,Y7,Y8,Y9,Ya,Yb,Yc,Yd,Ye,Yf,Yg,Yh,Yi,Yj,Yk,Yl,Ym,Yn,Yo,Yp,Yq,lk,ef,Yr,Ys,Yt,Yu,Yv,Yw,Yx,Yy,Yz,X0,X1,X2,X3,X4,X5,X6,X7,X8,X9,Xa,Xb,Xc,Xd,Xe,Xf,Xg,Xh,Xi,Xj,Xk,Xl,Xm,Xn,Xo,Xp,Xq,Xr,Xs,hv,Xt,ev,Xu,Xv,Xw,Xx,Xy,Xz,W0,W1,W2,W3,W4,W5,W6,W7,W8,W9,Wa,Wb,Wc,Wd,We,Wf,Wg,Wh,Wi,Wj,Wk,Wl,Wm,Wn,Wo,Wp,Wq,Wr,Ws,Wt,Value.oneCell',Wu,Wv,Ww,Wx,true_and,and_true,and_self,implies_true,Wy,Wz,V0,V1,false_implies,V2,V3,V4,V5,V6,V7,V8,V9,Va,Vb,Vc,Vd,Ve,Vf,Vg,Vh,Vi,reduceCtorEq,if_true,if_false,Vj,↓reduceIte,Vk,Vl,Vm,Vn,Vo,Vp,Vq,ne_eq,not_false_eq_true,not_true_eq_false,Vr,Vs,r3_0,r3_1,r3_2,r3_3,r3_4,r3_5,r3_6,r3_7,r3_8,r3_9,r3_10,r3_11,r3_12,r3_13,r3_14,r3_15,r3_16,r3_17,r3_18,r3_19,r3_20,r3_21,r3_22,r3_23,r3_24,r3_25,r3_26,r3_27,r3_28,r3_29,r3_30,r3_31,r3_32,r3_33,p3,l3_0,hki,k0,hw,gK,hsn,List.length_map]) | (exfalso; omega)
          refine opwG (weak_mk (l := [(2, .val (.int .i64 back)), (3, .box [.val (.int .i64 l.target), .val (.int .i64 l.first), .val (.int .i64 l.breaks), .ro (l.ents.map LE.av), .val (.bool l.ended)]), (7, .box [.val (.bool C.begun), .val (.int .i64 C.next), .val (.int .i64 C.last.target), .val (.int .i64 C.last.first), .val (.int .i64 C.last.breaks), .ro (C.last.ents.map LE.av), .val (.bool C.last.ended), .ro (C.queue.map QI.av), .val (.int .i64 C.lost)]), (8, .own 3 1 (pl.map oneI)), (9, .val (.int .i64 st)), (14, .roAt [.val (.bool D.begun), .val (.int .i64 D.next), .val (.int .i64 D.last.target), .val (.int .i64 D.last.first), .val (.int .i64 D.last.breaks), .ro (D.last.ents.map LE.av), .val (.bool D.last.ended), .ro (D.queue.map QI.av), .val (.int .i64 D.lost)] 0), (15, .box [.val (.int .i64 y.num), .val (.string y.ent.uri), .val (.int .i64 y.ent.milli), .val (.bool y.ent.brk), .val (.int .i64 y.ent.date), .val (.string y.ent.key), .val (.bool y.ent.gap), .ro (y.ent.extra.map oneS)]), (24, .ro (ch.map Chg.av)), (25, .val (.int .i64 ch.length)), (26, .val (.int .i64 k))]) ?_) ?_
          · simp only [Vt,Vu,Vv,Vw,Vx,Vy,Z0,Z1,Z2,Z3,Z4,Z5,Z6,Z7,Z8,Z9,Za,Zb,Zc,Zd,Ze,Zf,List.cons.injEq,Zg,Zh,Zi,Zj,Zk,Zl,Zm,Zn,Zo,Zp,beq_self_eq_true,bne_self_eq_false,decide_true,decide_false,Zq,Zr,Zs,Zt,Zu,Zv,Zw,Zx,Zy,Zz,Y0,Y1,Y2,Y3,Y4,Y5,Y6,Y7,Y8,Y9,Ya,Yb,Yc,Yd,Ye,Yf,Yg,Yh,Yi,Yj,Yk,Yl,Ym,Yn,Yo,Yp,Yq,lk,ef,Yr,Ys,Yt,Yu,Yv,Yw,Yx,Yy,Yz,X0,X1,X2,X3,X4,X5,X6,X7,X8,X9,Xa,Xb,Xc,Xd,Xe,Xf,Xg,Xh,Xi,Xj,Xk,Xl,Xm,Xn,Xo,Xp,Xq,Xr,Xs,hv,Xt,ev,Xu,Xv,Xw,Xx,Xy,Xz,W0,W1,W2,W3,W4,W5,W6,W7,W8,W9,Wa,Wb,Wc,Wd,We,Wf,Wg,Wh,Wi,Wj,Wk,Wl,Wm,Wn,Wo,Wp,Wq,Wr,Ws,Wt,Value.oneCell',Wu,Wv,Ww,Wx,true_and,and_true,and_self,implies_true,Wy,Wz,V0,V1,false_implies,V2,V3,V4,V5,V6,V7,V8,V9,Va,Vb,Vc,Vd,Ve,Vf,Vg,Vh,Vi,reduceCtorEq,if_true,if_false,Vj,↓reduceIte,Vk,Vl,Vm,Vn,Vo,Vp,Vq,ne_eq,not_false_eq_true,not_true_eq_false,Vr,Nat.zero_ne_one]
            all_goals first | done | trace_state
          repeat' first | ((with_reducible (first | refine condD ?_ ?_ | refine condE ?_ ?_ | refine condN ?_ ?_ | refine condI ?_ ?_ | refine condS ?_ ?_)) <;> intro h) | ((with_reducible (first | refine guardD (by with_unfolding_all rfl) ?_ ?_ | refine guardE (by with_unfolding_all rfl) ?_ ?_ | refine guardN (by with_unfolding_all rfl) ?_ ?_ | refine guardI (by with_unfolding_all rfl) ?_ ?_ | refine guardS (by with_unfolding_all rfl) ?_ ?_)) <;> intro h) | (with_reducible refine And.intro ?_ ?_; omega) | (simp only [Z0,Z1,Z2,Z3,Z4,Z5,Z6,Z7,Z8,Z9,Za,Zb,Zc,Zd,Ze,Zf,List.cons.injEq,Zg,Zh,Zi,Zj,Zk,Zl,Zm,Zn,Zo,Zp,beq_self_eq_true,bne_self_eq_false,decide_true,decide_false,Zq,Zr,Zs,Zt,Zu,Zv,Zw,Zx,Zy,Zz,Y0,Y1,Y2,Y3,Y4,Y5,Y6,Y7,Y8,Y9,Ya,Yb,Yc,Yd,Ye,Yf,Yg,Yh,Yi,Yj,Yk,Yl,Ym,Yn,Yo,Yp,Yq,lk,ef,Yr,Ys,Yt,Yu,Yv,Yw,Yx,Yy,Yz,X0,X1,X2,X3,X4,X5,X6,X7,X8,X9,Xa,Xb,Xc,Xd,Xe,Xf,Xg,Xh,Xi,Xj,Xk,Xl,Xm,Xn,Xo,Xp,Xq,Xr,Xs,hv,Xt,ev,Xu,Xv,Xw,Xx,Xy,Xz,W0,W1,W2,W3,W4,W5,W6,W7,W8,W9,Wa,Wb,Wc,Wd,We,Wf,Wg,Wh,Wi,Wj,Wk,Wl,Wm,Wn,Wo,Wp,Wq,Wr,Ws,Wt,Value.oneCell',Wu,Wv,Ww,Wx,true_and,and_true,and_self,implies_true,Wy,Wz,V0,V1,false_implies,V2,V3,V4,V5,V6,V7,V8,V9,Va,Vb,Vc,Vd,Ve,Vf,Vg,Vh,Vi,reduceCtorEq,if_true,if_false,Vj,↓reduceIte,Vk,Vl,Vm,Vn,Vo,Vp,Vq,ne_eq,not_false_eq_true,not_true_eq_false,Vr,Vs,r3_0,r3_1,r3_2,r3_3,r3_4,r3_5,r3_6,r3_7,r3_8,r3_9,r3_10,r3_11,r3_12,r3_13,r3_14,r3_15,r3_16,r3_17,r3_18,r3_19,r3_20,r3_21,r3_22,r3_23,r3_24,r3_25,r3_26,r3_27,r3_28,r3_29,r3_30,r3_31,r3_32,r3_33,p3,l3_0,hw,hap,List.length_map]) | (exfalso; omega)
          all_goals first | done | omega | skip
          refine again (T := fun p : LvI => lvT back ch p) (p := fun p => p.k ≤ ch.length ∧ p.s.ok ∧ LvXY p.s.c p.s.start p.X p.Y ∧ p.s.played.length ≤ p.k) (μ := fun p => ch.length - p.k) (fun p hp => hJ' p.k p.X p.Y p.s.l p.s.c p.s.played p.s.start hp.1 hp.2.1 hp.2.2.1 hp.2.2.2) ⟨k + 1, .ro (D.last.ents.map LE.av), .ro (D.queue.map QI.av), ⟨l, D, pl ++ [y.num], st⟩⟩ (weak_mk ?_) ⟨i1, hok4, .inr ⟨hs4, rfl, rfl⟩, hplk2⟩ i3
          simp only [PL.av, cAV]
          simp only [Vt,Vu,Vv,Vw,Vx,Vy,Z0,Z1,Z2,Z3,Z4,Z5,Z6,Z7,Z8,Z9,Za,Zb,Zc,Zd,Ze,Zf,List.cons.injEq,Zg,Zh,Zi,Zj,Zk,Zl,Zm,Zn,Zo,Zp,beq_self_eq_true,bne_self_eq_false,decide_true,decide_false,Zq,Zr,Zs,Zt,Zu,Zv,Zw,Zx,Zy,Zz,Y0,Y1,Y2,Y3,Y4,Y5,Y6,Y7,Y8,Y9,Ya,Yb,Yc,Yd,Ye,Yf,Yg,Yh,Yi,Yj,Yk,Yl,Ym,Yn,Yo,Yp,Yq,lk,ef,Yr,Ys,Yt,Yu,Yv,Yw,Yx,Yy,Yz,X0,X1,X2,X3,X4,X5,X6,X7,X8,X9,Xa,Xb,Xc,Xd,Xe,Xf,Xg,Xh,Xi,Xj,Xk,Xl,Xm,Xn,Xo,Xp,Xq,Xr,Xs,hv,Xt,ev,Xu,Xv,Xw,Xx,Xy,Xz,W0,W1,W2,W3,W4,W5,W6,W7,W8,W9,Wa,Wb,Wc,Wd,We,Wf,Wg,Wh,Wi,Wj,Wk,Wl,Wm,Wn,Wo,Wp,Wq,Wr,Ws,Wt,Value.oneCell',Wu,Wv,Ww,Wx,true_and,and_true,and_self,implies_true,Wy,Wz,V0,V1,false_implies,V2,V3,V4,V5,V6,V7,V8,V9,Va,Vb,Vc,Vd,Ve,Vf,Vg,Vh,Vi,reduceCtorEq,if_true,if_false,Vj,↓reduceIte,Vk,Vl,Vm,Vn,Vo,Vp,Vq,ne_eq,not_false_eq_true,not_true_eq_false,Vr,Nat.zero_ne_one]
          all_goals first | done | trace_state
        · have cp := play_s0 hok3 hXY3 hP
          generalize playF C = fp at *
          simp only [PL.av, CL.av, cAV, Chg.av, hx, zCLp, zQIp] at cl cp gK ⊢
          repeat' first | ((with_reducible (first | refine condD ?_ ?_ | refine condE ?_ ?_ | refine condN ?_ ?_ | refine condI ?_ ?_ | refine condS ?_ ?_)) <;> intro h) | ((with_reducible (first | refine guardD (by with_unfolding_all rfl) ?_ ?_ | refine guardE (by with_unfolding_all rfl) ?_ ?_ | refine guardN (by with_unfolding_all rfl) ?_ ?_ | refine guardI (by with_unfolding_all rfl) ?_ ?_ | refine guardS (by with_unfolding_all rfl) ?_ ?_)) <;> intro h) | ((refine callG cl ?_)) | ((refine callG cp ?_)) | (with_reducible refine And.intro ?_ ?_; omega) | (simp only [Z0,Z1,Z2,Z3,Z4,Z5,Z6,Z7,Z8,Z9,Za,Zb,Zc,Zd,Ze,Zf,List.cons.injEq,Zg,Zh,Zi,Zj,Zk,Zl,Zm,Zn,Zo,Zp,beq_self_eq_true,bne_self_eq_false,decide_true,decide_false,Zq,Zr,Zs,Zt,Zu,Zv,Zw,Zx,Zy,Zz,Y0,Y1,Y2,Y3,Y4,Y5,Y6,Y7,Y8,Y9,Ya,Yb,Yc,Yd,Ye,Yf,Yg,Yh,Yi,Yj,Yk,Yl,Ym,Yn,Yo,Yp,Yq,lk,ef,Yr,Ys,Yt,Yu,Yv,Yw,Yx,Yy,Yz,X0,X1,X2,X3,X4,X5,X6,X7,X8,X9,Xa,Xb,Xc,Xd,Xe,Xf,Xg,Xh,Xi,Xj,Xk,Xl,Xm,Xn,Xo,Xp,Xq,Xr,Xs,hv,Xt,ev,Xu,Xv,Xw,Xx,Xy,Xz,W0,W1,W2,W3,W4,W5,W6,W7,W8,W9,Wa,Wb,Wc,Wd,We,Wf,Wg,Wh,Wi,Wj,Wk,Wl,Wm,Wn,Wo,Wp,Wq,Wr,Ws,Wt,Value.oneCell',Wu,Wv,Ww,Wx,true_and,and_true,and_self,implies_true,Wy,Wz,V0,V1,false_implies,V2,V3,V4,V5,V6,V7,V8,V9,Va,Vb,Vc,Vd,Ve,Vf,Vg,Vh,Vi,reduceCtorEq,if_true,if_false,Vj,↓reduceIte,Vk,Vl,Vm,Vn,Vo,Vp,Vq,ne_eq,not_false_eq_true,not_true_eq_false,Vr,Vs,r3_0,r3_1,r3_2,r3_3,r3_4,r3_5,r3_6,r3_7,r3_8,r3_9,r3_10,r3_11,r3_12,r3_13,r3_14,r3_15,r3_16,r3_17,r3_18,r3_19,r3_20,r3_21,r3_22,r3_23,r3_24,r3_25,r3_26,r3_27,r3_28,r3_29,r3_30,r3_31,r3_32,r3_33,p3,l3_0,hki,k0,hw,gK,hsn,beq0_f hP,List.length_map]) | (exfalso; omega)
          refine again (T := fun p : LvI => lvT back ch p) (p := fun p => p.k ≤ ch.length ∧ p.s.ok ∧ LvXY p.s.c p.s.start p.X p.Y ∧ p.s.played.length ≤ p.k) (μ := fun p => ch.length - p.k) (fun p hp => hJ' p.k p.X p.Y p.s.l p.s.c p.s.played p.s.start hp.1 hp.2.1 hp.2.2.1 hp.2.2.2) ⟨k + 1, .ro (C.last.ents.map LE.av), .ro (C.queue.map QI.av), ⟨l, C, pl, st⟩⟩ (weak_mk ?_) ⟨i1, hok3, hXY3, hplk⟩ i3
          simp only [PL.av, cAV]
          simp only [Vt,Vu,Vv,Vw,Vx,Vy,Z0,Z1,Z2,Z3,Z4,Z5,Z6,Z7,Z8,Z9,Za,Zb,Zc,Zd,Ze,Zf,List.cons.injEq,Zg,Zh,Zi,Zj,Zk,Zl,Zm,Zn,Zo,Zp,beq_self_eq_true,bne_self_eq_false,decide_true,decide_false,Zq,Zr,Zs,Zt,Zu,Zv,Zw,Zx,Zy,Zz,Y0,Y1,Y2,Y3,Y4,Y5,Y6,Y7,Y8,Y9,Ya,Yb,Yc,Yd,Ye,Yf,Yg,Yh,Yi,Yj,Yk,Yl,Ym,Yn,Yo,Yp,Yq,lk,ef,Yr,Ys,Yt,Yu,Yv,Yw,Yx,Yy,Yz,X0,X1,X2,X3,X4,X5,X6,X7,X8,X9,Xa,Xb,Xc,Xd,Xe,Xf,Xg,Xh,Xi,Xj,Xk,Xl,Xm,Xn,Xo,Xp,Xq,Xr,Xs,hv,Xt,ev,Xu,Xv,Xw,Xx,Xy,Xz,W0,W1,W2,W3,W4,W5,W6,W7,W8,W9,Wa,Wb,Wc,Wd,We,Wf,Wg,Wh,Wi,Wj,Wk,Wl,Wm,Wn,Wo,Wp,Wq,Wr,Ws,Wt,Value.oneCell',Wu,Wv,Ww,Wx,true_and,and_true,and_self,implies_true,Wy,Wz,V0,V1,false_implies,V2,V3,V4,V5,V6,V7,V8,V9,Va,Vb,Vc,Vd,Ve,Vf,Vg,Vh,Vi,reduceCtorEq,if_true,if_false,Vj,↓reduceIte,Vk,Vl,Vm,Vn,Vo,Vp,Vq,ne_eq,not_false_eq_true,not_true_eq_false,Vr,Nat.zero_ne_one]
          all_goals first | done | trace_state
    · rw [if_neg hL] at cl
      generalize loadF c l back = fl at *
      by_cases hP : playF c = 0
      · obtain ⟨y, T, hy, cp⟩ := play_s1 hok hXY hP
        obtain ⟨hok4, hs4⟩ := lvPlay_st hok hP hy
        generalize playC c = D at *
        have hap : pl.map oneI ++ [[AV.val (.int .i64 y.num)]] = (pl ++ [y.num]).map oneI := by rw [List.map_append]; rfl
        have hplk2 : (pl ++ [y.num]).length ≤ k + 1 := by rw [List.length_append, List.length_singleton]; omega
        simp only [PL.av, CL.av, QI.av, cAV, Chg.av, hx, zCLn] at cl cp gK ⊢
        repeat' first | ((with_reducible (first | refine condD ?_ ?_ | refine condE ?_ ?_ | refine condN ?_ ?_ | refine condI ?_ ?_ | refine condS ?_ ?_)) <;> intro h) | ((with_reducible (first | refine guardD (by with_unfolding_all rfl) ?_ ?_ | refine guardE (by with_unfolding_all rfl) ?_ ?_ | refine guardN (by with_unfolding_all rfl) ?_ ?_ | refine guardI (by with_unfolding_all rfl) ?_ ?_ | refine guardS (by with_unfolding_all rfl) ?_ ?_)) <;> intro h) | ((refine callG cl ?_)) | ((refine callG cp ?_)) | (with_reducible refine And.intro ?_ ?_; omega) | (simp only [Z0,Z1,Z2,Z3,Z4,Z5,Z6,Z7,Z8,Z9,Za,Zb,Zc,Zd,Ze,Zf,List.cons.injEq,Zg,Zh,Zi,Zj,Zk,Zl,Zm,Zn,Zo,Zp,beq_self_eq_true,bne_self_eq_false,decide_true,decide_false,Zq,Zr,Zs,Zt,Zu,Zv,Zw,Zx,Zy,Zz,Y0,Y1,Y2,Y3,Y4,Y5,Y6,Y7,Y8,Y9,Ya,Yb,Yc,Yd,Ye,Yf,Yg,Yh,Yi,Yj,Yk,Yl,Ym,Yn,Yo,Yp,Yq,lk,ef,Yr,Ys,Yt,Yu,Yv,Yw,Yx,Yy,Yz,X0,X1,X2,X3,X4,X5,X6,X7,X8,X9,Xa,Xb,Xc,Xd,Xe,Xf,Xg,Xh,Xi,Xj,Xk,Xl,Xm,Xn,Xo,Xp,Xq,Xr,Xs,hv,Xt,ev,Xu,Xv,Xw,Xx,Xy,Xz,W0,W1,W2,W3,W4,W5,W6,W7,W8,W9,Wa,Wb,Wc,Wd,We,Wf,Wg,Wh,Wi,Wj,Wk,Wl,Wm,Wn,Wo,Wp,Wq,Wr,Ws,Wt,Value.oneCell',Wu,Wv,Ww,Wx,true_and,and_true,and_self,implies_true,Wy,Wz,V0,V1,false_implies,V2,V3,V4,V5,V6,V7,V8,V9,Va,Vb,Vc,Vd,Ve,Vf,Vg,Vh,Vi,reduceCtorEq,if_true,if_false,Vj,↓reduceIte,Vk,Vl,Vm,Vn,Vo,Vp,Vq,ne_eq,not_false_eq_true,not_true_eq_false,Vr,Vs,r3_0,r3_1,r3_2,r3_3,r3_4,r3_5,r3_6,r3_7,r3_8,r3_9,r3_10,r3_11,r3_12,r3_13,r3_14,r3_15,r3_16,r3_17,r3_18,r3_19,r3_20,r3_21,r3_22,r3_23,r3_24,r3_25,r3_26,r3_27,r3_28,r3_29,r3_30,r3_31,r3_32,r3_33,p3,l3_0,hki,k0,hw,gK,beq0_f hL,List.length_map]) | (exfalso; omega)
        refine opwG (weak_mk (l := [(2, .val (.int .i64 back)), (3, .box [.val (.int .i64 l.target), .val (.int .i64 l.first), .val (.int .i64 l.breaks), .ro (l.ents.map LE.av), .val (.bool l.ended)]), (7, .box [.val (.bool c.begun), .val (.int .i64 c.next), .val (.int .i64 c.last.target), .val (.int .i64 c.last.first), .val (.int .i64 c.last.breaks), X, .val (.bool c.last.ended), Y, .val (.int .i64 c.lost)]), (8, .own 3 1 (pl.map oneI)), (9, .val (.int .i64 sn)), (14, .roAt [.val (.bool D.begun), .val (.int .i64 D.next), .val (.int .i64 D.last.target), .val (.int .i64 D.last.first), .val (.int .i64 D.last.breaks), .ro (D.last.ents.map LE.av), .val (.bool D.last.ended), .ro (D.queue.map QI.av), .val (.int .i64 D.lost)] 0), (15, .box [.val (.int .i64 y.num), .val (.string y.ent.uri), .val (.int .i64 y.ent.milli), .val (.bool y.ent.brk), .val (.int .i64 y.ent.date), .val (.string y.ent.key), .val (.bool y.ent.gap), .ro (y.ent.extra.map oneS)]), (24, .ro (ch.map Chg.av)), (25, .val (.int .i64 ch.length)), (26, .val (.int .i64 k))]) ?_) ?_
        · simp only [Vt,Vu,Vv,Vw,Vx,Vy,Z0,Z1,Z2,Z3,Z4,Z5,Z6,Z7,Z8,Z9,Za,Zb,Zc,Zd,Ze,Zf,List.cons.injEq,Zg,Zh,Zi,Zj,Zk,Zl,Zm,Zn,Zo,Zp,beq_self_eq_true,bne_self_eq_false,decide_true,decide_false,Zq,Zr,Zs,Zt,Zu,Zv,Zw,Zx,Zy,Zz,Y0,Y1,Y2,Y3,Y4,Y5,Y6,Y7,Y8,Y9,Ya,Yb,Yc,Yd,Ye,Yf,Yg,Yh,Yi,Yj,Yk,Yl,Ym,Yn,Yo,Yp,Yq,lk,ef,Yr,Ys,Yt,Yu,Yv,Yw,Yx,Yy,Yz,X0,X1,X2,X3,X4,X5,X6,X7,X8,X9,Xa,Xb,Xc,Xd,Xe,Xf,Xg,Xh,Xi,Xj,Xk,Xl,Xm,Xn,Xo,Xp,Xq,Xr,Xs,hv,Xt,ev,Xu,Xv,Xw,Xx,Xy,Xz,W0,W1,W2,W3,W4,W5,W6,W7,W8,W9,Wa,Wb,Wc,Wd,We,Wf,Wg,Wh,Wi,Wj,Wk,Wl,Wm,Wn,Wo,Wp,Wq,Wr,Ws,Wt,Value.oneCell',Wu,Wv,Ww,Wx,true_and,and_true,and_self,implies_true,Wy,Wz,V0,V1,false_implies,V2,V3,V4,V5,V6,V7,V8,V9,Va,Vb,Vc,Vd,Ve,Vf,Vg,Vh,Vi,reduceCtorEq,if_true,if_false,Vj,↓reduceIte,Vk,Vl,Vm,Vn,Vo,Vp,Vq,ne_eq,not_false_eq_true,not_true_eq_false,Vr,Nat.zero_ne_one]
          all_goals first | done | trace_state
        repeat' first | ((with_reducible (first | refine condD ?_ ?_ | refine condE ?_ ?_ | refine condN ?_ ?_ | refine condI ?_ ?_ | refine condS ?_ ?_)) <;> intro h) | ((with_reducible (first | refine guardD (by with_unfolding_all rfl) ?_ ?_ | refine guardE (by with_unfolding_all rfl) ?_ ?_ | refine guardN (by with_unfolding_all rfl) ?_ ?_ | refine guardI (by with_unfolding_all rfl) ?_ ?_ | refine guardS (by with_unfolding_all rfl) ?_ ?_)) <;> intro h) | (with_reducible refine And.intro ?_ ?_; omega) | (simp only [Z0,Z1,Z2,Z3,Z4,Z5,Z6,Z7,Z8,Z9,Za,Zb,Zc,Zd,Ze,Zf,List.cons.injEq,Zg,Zh,Zi,Zj,Zk,Zl,Zm,Zn,Zo,Zp,beq_self_eq_true,bne_self_eq_false,decide_true,decide_false,Zq,Zr,Zs,Zt,Zu,Zv,Zw,Zx,Zy,Zz,Y0,Y1,Y2,Y3,Y4,Y5,Y6,Y7,Y8,Y9,Ya,Yb,Yc,Yd,Ye,Yf,Yg,Yh,Yi,Yj,Yk,Yl,Ym,Yn,Yo,Yp,Yq,lk,ef,Yr,Ys,Yt,Yu,Yv,Yw,Yx,Yy,Yz,X0,X1,X2,X3,X4,X5,X6,X7,X8,X9,Xa,Xb,Xc,Xd,Xe,Xf,Xg,Xh,Xi,Xj,Xk,Xl,Xm,Xn,Xo,Xp,Xq,Xr,Xs,hv,Xt,ev,Xu,Xv,Xw,Xx,Xy,Xz,W0,W1,W2,W3,W4,W5,W6,W7,W8,W9,Wa,Wb,Wc,Wd,We,Wf,Wg,Wh,Wi,Wj,Wk,Wl,Wm,Wn,Wo,Wp,Wq,Wr,Ws,Wt,Value.oneCell',Wu,Wv,Ww,Wx,true_and,and_true,and_self,implies_true,Wy,Wz,V0,V1,false_implies,V2,V3,V4,V5,V6,V7,V8,V9,Va,Vb,Vc,Vd,Ve,Vf,Vg,Vh,Vi,reduceCtorEq,if_true,if_false,Vj,↓reduceIte,Vk,Vl,Vm,Vn,Vo,Vp,Vq,ne_eq,not_false_eq_true,not_true_eq_false,Vr,Vs,r3_0,r3_1,r3_2,r3_3,r3_4,r3_5,r3_6,r3_7,r3_8,r3_9,r3_10,r3_11,r3_12,r3_13,r3_14,r3_15,r3_16,r3_17,r3_18,r3_19,r3_20,r3_21,r3_22,r3_23,r3_24,r3_25,r3_26,r3_27,r3_28,r3_29,r3_30,r3_31,r3_32,r3_33,p3,l3_0,hw,hap,List.length_map]) | (exfalso; omega)
        all_goals first | done | omega | skip
        refine again (T := fun p : LvI => lvT back ch p) (p := fun p => p.k ≤ ch.length ∧ p.s.ok ∧ LvXY p.s.c p.s.start p.X p.Y ∧ p.s.played.length ≤ p.k) (μ := fun p => ch.length - p.k) (fun p hp => hJ' p.k p.X p.Y p.s.l p.s.c p.s.played p.s.start hp.1 hp.2.1 hp.2.2.1 hp.2.2.2) ⟨k + 1, .ro (D.last.ents.map LE.av), .ro (D.queue.map QI.av), ⟨l, D, pl ++ [y.num], sn⟩⟩ (weak_mk ?_) ⟨i1, hok4, .inr ⟨hs4, rfl, rfl⟩, hplk2⟩ i3
        simp only [PL.av, cAV]
        simp only [Vt,Vu,Vv,Vw,Vx,Vy,Z0,Z1,Z2,Z3,Z4,Z5,Z6,Z7,Z8,Z9,Za,Zb,Zc,Zd,Ze,Zf,List.cons.injEq,Zg,Zh,Zi,Zj,Zk,Zl,Zm,Zn,Zo,Zp,beq_self_eq_true,bne_self_eq_false,decide_true,decide_false,Zq,Zr,Zs,Zt,Zu,Zv,Zw,Zx,Zy,Zz,Y0,Y1,Y2,Y3,Y4,Y5,Y6,Y7,Y8,Y9,Ya,Yb,Yc,Yd,Ye,Yf,Yg,Yh,Yi,Yj,Yk,Yl,Ym,Yn,Yo,Yp,Yq,lk,ef,Yr,Ys,Yt,Yu,Yv,Yw,Yx,Yy,Yz,X0,X1,X2,X3,X4,X5,X6,X7,X8,X9,Xa,Xb,Xc,Xd,Xe,Xf,Xg,Xh,Xi,Xj,Xk,Xl,Xm,Xn,Xo,Xp,Xq,Xr,Xs,hv,Xt,ev,Xu,Xv,Xw,Xx,Xy,Xz,W0,W1,W2,W3,W4,W5,W6,W7,W8,W9,Wa,Wb,Wc,Wd,We,Wf,Wg,Wh,Wi,Wj,Wk,Wl,Wm,Wn,Wo,Wp,Wq,Wr,Ws,Wt,Value.oneCell',Wu,Wv,Ww,Wx,true_and,and_true,and_self,implies_true,Wy,Wz,V0,V1,false_implies,V2,V3,V4,V5,V6,V7,V8,V9,Va,Vb,Vc,Vd,Ve,Vf,Vg,Vh,Vi,reduceCtorEq,if_true,if_false,Vj,↓reduceIte,Vk,Vl,Vm,Vn,Vo,Vp,Vq,ne_eq,not_false_eq_true,not_true_eq_false,Vr,Nat.zero_ne_one]
        all_goals first | done | trace_state
      · have cp := play_s0 hok hXY hP
        generalize playF c = fp at *
        simp only [PL.av, CL.av, cAV, Chg.av, hx, zCLp, zQIp, zCLn] at cl cp gK ⊢
        repeat' first | ((with_reducible (first | refine condD ?_ ?_ | refine condE ?_ ?_ | refine condN ?_ ?_ | refine condI ?_ ?_ | refine condS ?_ ?_)) <;> intro h) | ((with_reducible (first | refine guardD (by with_unfolding_all rfl) ?_ ?_ | refine guardE (by with_unfolding_all rfl) ?_ ?_ | refine guardN (by with_unfolding_all rfl) ?_ ?_ | refine guardI (by with_unfolding_all rfl) ?_ ?_ | refine guardS (by with_unfolding_all rfl) ?_ ?_)) <;> intro h) | ((refine callG cl ?_)) | ((refine callG cp ?_)) | (with_reducible refine And.intro ?_ ?_; omega) | (simp only [Z0,Z1,Z2,Z3,Z4,Z5,Z6,Z7,Z8,Z9,Za,Zb,Zc,Zd,Ze,Zf,List.cons.injEq,Zg,Zh,Zi,Zj,Zk,Zl,Zm,Zn,Zo,Zp,beq_self_eq_true,bne_self_eq_false,decide_true,decide_false,Zq,Zr,Zs,Zt,Zu,Zv,Zw,Zx,Zy,Zz,Y0,Y1,Y2,Y3,Y4,Y5,Y6,Y7,Y8,Y9,Ya,Yb,Yc,Yd,Ye,Yf,Yg,Yh,Yi,Yj,Yk,Yl,Ym,Yn,Yo,Yp,Yq,lk,ef,Yr,Ys,Yt,Yu,Yv,Yw,Yx,Yy,Yz,X0,X1,X2,X3,X4,X5,X6,X7,X8,X9,Xa,Xb,Xc,Xd,Xe,Xf,Xg,Xh,Xi,Xj,Xk,Xl,Xm,Xn,Xo,Xp,Xq,Xr,Xs,hv,Xt,ev,Xu,Xv,Xw,Xx,Xy,Xz,W0,W1,W2,W3,W4,W5,W6,W7,W8,W9,Wa,Wb,Wc,Wd,We,Wf,Wg,Wh,Wi,Wj,Wk,Wl,Wm,Wn,Wo,Wp,Wq,Wr,Ws,Wt,Value.oneCell',Wu,Wv,Ww,Wx,true_and,and_true,and_self,implies_true,Wy,Wz,V0,V1,false_implies,V2,V3,V4,V5,V6,V7,V8,V9,Va,Vb,Vc,Vd,Ve,Vf,Vg,Vh,Vi,reduceCtorEq,if_true,if_false,Vj,↓reduceIte,Vk,Vl,Vm,Vn,Vo,Vp,Vq,ne_eq,not_false_eq_true,not_true_eq_false,Vr,Vs,r3_0,r3_1,r3_2,r3_3,r3_4,r3_5,r3_6,r3_7,r3_8,r3_9,r3_10,r3_11,r3_12,r3_13,r3_14,r3_15,r3_16,r3_17,r3_18,r3_19,r3_20,r3_21,r3_22,r3_23,r3_24,r3_25,r3_26,r3_27,r3_28,r3_29,r3_30,r3_31,r3_32,r3_33,p3,l3_0,hki,k0,hw,gK,beq0_f hL,beq0_f hP,List.length_map]) | (exfalso; omega)
        refine again (T := fun p : LvI => lvT back ch p) (p := fun p => p.k ≤ ch.length ∧ p.s.ok ∧ LvXY p.s.c p.s.start p.X p.Y ∧ p.s.played.length ≤ p.k) (μ := fun p => ch.length - p.k) (fun p hp => hJ' p.k p.X p.Y p.s.l p.s.c p.s.played p.s.start hp.1 hp.2.1 hp.2.2.1 hp.2.2.2) ⟨k + 1, X, Y, ⟨l, c, pl, sn⟩⟩ (weak_mk ?_) ⟨i1, hok, hXY, hplk⟩ i3
        simp only [PL.av, cAV]
        simp only [Vt,Vu,Vv,Vw,Vx,Vy,Z0,Z1,Z2,Z3,Z4,Z5,Z6,Z7,Z8,Z9,Za,Zb,Zc,Zd,Ze,Zf,List.cons.injEq,Zg,Zh,Zi,Zj,Zk,Zl,Zm,Zn,Zo,Zp,beq_self_eq_true,bne_self_eq_false,decide_true,decide_false,Zq,Zr,Zs,Zt,Zu,Zv,Zw,Zx,Zy,Zz,Y0,Y1,Y2,Y3,Y4,Y5,Y6,Y7,Y8,Y9,Ya,Yb,Yc,Yd,Ye,Yf,Yg,Yh,Yi,Yj,Yk,Yl,Ym,Yn,Yo,Yp,Yq,lk,ef,Yr,Ys,Yt,Yu,Yv,Yw,Yx,Yy,Yz,X0,X1,X2,X3,X4,X5,X6,X7,X8,X9,Xa,Xb,Xc,Xd,Xe,Xf,Xg,Xh,Xi,Xj,Xk,Xl,Xm,Xn,Xo,Xp,Xq,Xr,Xs,hv,Xt,ev,Xu,Xv,Xw,Xx,Xy,Xz,W0,W1,W2,W3,W4,W5,W6,W7,W8,W9,Wa,Wb,Wc,Wd,We,Wf,Wg,Wh,Wi,Wj,Wk,Wl,Wm,Wn,Wo,Wp,Wq,Wr,Ws,Wt,Value.oneCell',Wu,Wv,Ww,Wx,true_and,and_true,and_self,implies_true,Wy,Wz,V0,V1,false_implies,V2,V3,V4,V5,V6,V7,V8,V9,Va,Vb,Vc,Vd,Ve,Vf,Vg,Vh,Vi,reduceCtorEq,if_true,if_false,Vj,↓reduceIte,Vk,Vl,Vm,Vn,Vo,Vp,Vq,ne_eq,not_false_eq_true,not_true_eq_false,Vr,Nat.zero_ne_one]
        all_goals first | done | trace_state
end Go.Proofs.Ytpecmhdepggnoaa
