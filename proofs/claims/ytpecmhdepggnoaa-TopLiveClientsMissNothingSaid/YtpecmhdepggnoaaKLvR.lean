/- Live lists: begin, by the machine on data. -/
import Derived.Test.YtpecmhdepggnoaaKLvK
import Derived.Test.YtpecmhdepggnoaaKLvJ
namespace Go.Proofs.Ytpecmhdepggnoaa
open Go.RowKit
open Go.Proofs.Ytpecmhdepggnoaa renaming done_eq → Z0, done_eq' → Z1, donet_eq → Z2, donet_eq' → Z3, fin_val → Z4, fin_tup → Z5, fin_agg → Z6, fin_ro → Z7, res_one → Z8, res_more → Z9, rv_t → Za, rv_c → Zb, rv_l → Zc, int_eq → Zg, bool_eq → Zh, toNat_pred → Zr, toNat_succ → Zs, cnd_t → Zu, cnd_f → Zv, grd_tt → Zw, grd_u → Zx, grd_tf → Zy, grd_ft → Zz, grd_ff → Y0, g_skip → Y1, g_ops → Y2, g_seq → Y3, g_block → Y4, g_exit → Y5, g_ret → Y6, g_nil → Y7, r_all → Y8, o_nil → Y9, g_cond → Ya, o_guard → Yb, o_call → Yc, o_callm → Yd, o_callt → Ye, o_callx → Yf, o_callv → Yg, o_callc → Yh, o_callh → Yi, o_apph → Yj, noav_alias → Yk, noav_nil → Yl, o_mv → Ym, o_pick → Yn, o_bin → Yo, o_never → Yp, o_eqs → Yq, o_eqb → Yr, o_un → Ys, o_conv → Yt, o_load → Yu, o_loadr → Yv, o_idxr → Yw, o_loads → Yx, o_loadsr → Yy, o_fld → Yz, o_idx → X0, o_idxs → X1, o_len → X2, o_lens → X3, o_ext → X4, o_nilck → X5, o_slc → X6, o_slcs → X7, o_build → X8, o_minmax → X9, o_mkfn → Xa, o_mkfnr → Xb, o_alloc → Xc, o_box → Xd, o_boxs → Xe, o_row → Xf, o_rowr → Xg, o_mk → Xh, o_asg → Xi, o_app → Xj, o_appa → Xk, o_store → Xl, o_stores → Xm, o_eqnil → Xn, eqAV → Xo, view_t → Xp, view_c → Xq, view_nil → Xr, view_fn → Xs, look_own → Xt, look_box → Xu, look_junk → Xv, look_val → Xw, look_nilsl → Xx, look_ro → Xy, look_roAt → Xz, look_agg → W0, look_tup → W1, look_clo → W2, look_alias → W3, look_ref → W4, look_into → W5, look_fnv → W6, look_held → W7, rowOf → W8, cellsOf → W9, argv → Wa, vbin → Wb, elemOf → Wc, putParts → Wd, setAt → We, put_at → Wm, mk_at → Wn, mk_nil → Wo, initSt → Wp
open Go.Proofs.Ytpecmhdepggnoaa.AV.tup renaming injEq → Zd
open Go.Proofs.Ytpecmhdepggnoaa.AV.agg renaming injEq → Ze
open Go.Proofs.Ytpecmhdepggnoaa.AV.ro renaming injEq → Zf
open _root_.Int renaming toNat_natCast → Zi, reduceToNat → Zj, toNat_zero → Zk, toNat_one → Zl, reduceLE → Zm, reduceLT → Zn, reduceBEq → Zo, reduceBNe → Zp, reduceNeg → Zq
open _root_.List renaming length_map → Zt, map_cons → Wq, map_nil → Wr, forall_mem_cons → Ws, not_mem_nil → Wt, length_cons → Wu, length_nil → Wv, getD_cons_zero → Ww, getD_cons_succ → Wx, getD_nil → Wy, drop_succ_cons → Wz, drop_zero → V0, take_succ_cons → V1, take_zero → V2, set_cons_zero → V3, set_cons_succ → V4, all_cons → V5, all_nil → V6
open Go.Proofs.Ytpecmhdepggnoaa.ASt renaming rid → Wf, hold → Wg, free → Wh
open Go.Proofs.Ytpecmhdepggnoaa.AV renaming kill → Wi, isHome → Wj, noLoan → Wk, cellOK → Wl
open _root_.Bool renaming and_true → V7, true_and → V8, not_true → V9, not_false → Va, false_eq_true → Vb
open _root_.Nat renaming reduceEqDiff → Vc, reduceBNe → Vd, reduceAdd → Ve, reduceSub → Vf, reduceMul → Vg, reduceLeDiff → Vh, reduceLT → Vi, one_ne_zero → Vj, zero_ne_one → Vk
set_option linter.unusedSimpArgs false
--@short

/-- No slice in it is told to be nil. -/
def AV.noNil1 : AV → AV
  | .nilsl => .ro []
  | x => x
def AV.noNil : AV → AV
  | .agg cs => .agg (cs.map AV.noNil1)
  | x => x
theorem rel_noNil1 {w : World} {I : Nat → Prop} {av : AV} {v : Value} (h : Rel w I av v) : Rel w I av.noNil1 v := by
  unfold AV.noNil1
  split
  · cases h; exact .ro0 _ _
  · exact h
theorem rel_noNil {w : World} {I : Nat → Prop} {av : AV} {v : Value} (h : Rel w I av v) : Rel w I av.noNil v := by
  unfold AV.noNil
  split
  · cases h with
    | agg _ vs hl h1 hrel =>
      refine .agg _ vs (by rw [List.length_map]; exact hl) h1 fun j av hj => ?_
      rw [List.getElem?_map, Option.map_eq_some_iff] at hj
      obtain ⟨x, hx, rfl⟩ := hj
      exact rel_noNil1 (hrel j x hx)
  · exact h
theorem call_noNil {P : Program} {f : Nat} {args : List AV} {res : AV} (h : CallOK P f (args.map AV.noNil) res) : CallOK P f args res := by
  intro w S vs ht hS hvl hvr
  refine h w S vs ht hS (by rw [List.length_map]; exact hvl) fun j av v hj hv => ?_
  rw [List.getElem?_map, Option.map_eq_some_iff] at hj
  obtain ⟨x, hx, rfl⟩ := hj
  exact rel_noNil (hvr j x v hx hv)
/-! headend/list.begin -/
def r27_0 : List POp := [⟨3, .boxs (.t 0), none⟩,
  ⟨4, .boxs (.t 1), none⟩,
  ⟨6, .asg (.c (.int .i64 0)), none⟩,
  ⟨7, .asg (.c (.int .i64 0)), none⟩]
def r27_1 : List POp := [⟨13, .loads 9 (.t 3), none⟩,
  ⟨14, .mv (.t 2), none⟩,
  ⟨15, .call 31 [.t 13, .t 14], none⟩,
  ⟨8, .asg (.t 15), none⟩]
def r27_2 : List POp := [⟨16, .mv (.t 8), none⟩,
  ⟨17, .bin .neq (.t 16) (.c (.int .i64 0)), none⟩]
def r27_3 : List POp := [⟨18, .mv (.t 8), none⟩,
  ⟨6, .mv (.c (.int .i64 0)), none⟩,
  ⟨7, .mv (.t 18), none⟩]
def r27_4 : List POp := [⟨19, .fld 0 (.t 3), none⟩,
  ⟨20, .load (.t 19), none⟩]
def r27_5 : List POp := [⟨21, .fld 2 (.t 3), none⟩,
  ⟨22, .loads 5 (.t 21), none⟩,
  ⟨23, .call 26 [.t 22], none⟩,
  ⟨9, .asg (.t 23), none⟩]
def r27_6 : List POp := [⟨24, .mv (.t 9), none⟩,
  ⟨25, .bin .neq (.t 24) (.c (.int .i64 0)), none⟩]
def r27_7 : List POp := [⟨26, .mv (.t 9), none⟩,
  ⟨6, .mv (.c (.int .i64 0)), none⟩,
  ⟨7, .mv (.t 26), none⟩]
def r27_8 : List POp := [⟨27, .fld 1 (.t 3), none⟩,
  ⟨28, .load (.t 27), none⟩,
  ⟨29, .fld 2 (.t 3), none⟩,
  ⟨30, .loads 5 (.t 29), none⟩,
  ⟨31, .loads 5 (.t 4), none⟩,
  ⟨32, .call 35 [.t 30, .t 31], none⟩,
  ⟨6, .mv (.t 28), none⟩,
  ⟨7, .mv (.t 32), none⟩]
def r27_9 : List POp := [⟨33, .fld 1 (.t 3), none⟩,
  ⟨34, .load (.t 33), none⟩,
  ⟨35, .bin .neq (.t 34) (.c (.int .i64 0)), none⟩,
  ⟨36, .mv (.t 35), none⟩,
  ⟨37, .fld 8 (.t 3), some (36, false)⟩,
  ⟨38, .load (.t 37), some (36, false)⟩,
  ⟨39, .bin .neq (.t 38) (.c (.int .i64 0)), some (36, false)⟩,
  ⟨40, .pick (.t 36) (.c (.bool true)) (.t 39), none⟩,
  ⟨41, .mv (.t 40), none⟩,
  ⟨42, .fld 7 (.t 3), some (41, false)⟩,
  ⟨43, .load (.t 42), some (41, false)⟩,
  ⟨44, .len (.t 43), some (41, false)⟩,
  ⟨45, .bin .gtr (.t 44) (.c (.int .i64 0)), some (41, false)⟩,
  ⟨46, .pick (.t 41) (.c (.bool true)) (.t 45), none⟩,
  ⟨47, .mv (.t 46), none⟩,
  ⟨48, .fld 2 (.t 3), some (47, false)⟩,
  ⟨49, .loads 5 (.t 48), some (47, false)⟩,
  ⟨50, .build [.int .i64 0, .int .i64 0, .int .i64 0, .slice none 0 0, .bool false] [], some (47, false)⟩,
  ⟨51, .call 54 [.t 49, .t 50], some (47, false)⟩,
  ⟨52, .un .not (.t 51), some (47, false)⟩,
  ⟨53, .pick (.t 47) (.c (.bool true)) (.t 52), none⟩]
def r27_10 : List POp := [⟨6, .asg (.c (.int .i64 0)), none⟩,
  ⟨7, .asg (.c (.int .i64 3)), none⟩]
def r27_11 : List POp := [⟨55, .loads 5 (.t 4), none⟩,
  ⟨56, .mv (.t 2), none⟩,
  ⟨57, .call 55 [.t 55, .t 56], none⟩,
  ⟨54, .mv (.t 57), none⟩,
  ⟨58, .ext 0 (.t 54), none⟩,
  ⟨59, .ext 1 (.t 54), none⟩,
  ⟨60, .ext 2 (.t 54), none⟩,
  ⟨10, .mv (.t 58), none⟩,
  ⟨11, .mv (.t 59), none⟩,
  ⟨12, .mv (.t 60), none⟩]
def r27_12 : List POp := [⟨61, .fld 1 (.t 4), none⟩,
  ⟨62, .load (.t 61), none⟩,
  ⟨63, .mv (.t 10), none⟩,
  ⟨64, .bin .add (.t 62) (.t 63), none⟩,
  ⟨65, .mv (.t 12), none⟩,
  ⟨6, .mv (.t 64), none⟩,
  ⟨7, .mv (.t 65), none⟩]
def p27 : PCode := .seq (.ops r27_0) (.seq (.seq (.ops r27_1) (.seq (.ops r27_2) (.cond (.t 17) (.seq (.ops r27_3) (.ret)) (.skip)))) (.seq (.seq (.ops r27_4) (.cond (.t 20) (.seq (.seq (.ops r27_5) (.seq (.ops r27_6) (.cond (.t 25) (.seq (.ops r27_7) (.ret)) (.skip)))) (.seq (.ops r27_8) (.ret))) (.skip))) (.seq (.seq (.ops r27_9) (.cond (.t 53) (.seq (.ops r27_10) (.ret)) (.skip))) (.seq (.ops r27_11) (.seq (.ops r27_12) (.ret))))))
theorem ok27 : okFunc Try.prog 27 [.t 6, .t 7] 3 p27 = true := by kernel_rfl
set_option maxHeartbeats 1000000 in
theorem begin_c (c : CL) (l : PL) (hc : c.last.ok) (hq : c.queue.length ≤ 2000) (k2 : ckF l = 0) (back : Int) : CallOK Try.prog 27 [.agg c.av, .agg l.av, .val (.int .i64 back)] (.tup [.val (.int .i64 (beginF c l back).1), .val (.int .i64 (beginF c l back).2)]) := by
  refine call_of mixed ok27 rfl ?_
  obtain ⟨_, ⟨f0, f1⟩, _, f4, _⟩ := ckF_0.1 k2
  have c1 := clientfault_c c (by omega) back
  have c2 := check_c c.last hc
  have c3 := follows_c c.last l hc
  have c4 := startat_c l f4 back
  have c5 := samel_c c.last zPL hc
  have hst := stF_le l back
  replace c5 := call_noNil (args := [.agg c.last.av, .agg [.val (.int .i64 0), .val (.int .i64 0), .val (.int .i64 0), .nilsl, .val (.bool false)]]) c5
  simp only [PL.av, CL.av, zPL, List.map_nil] at c1 c2 c3 c4 c5 ⊢
  unfold beginF
  by_cases q1 : clF c back = 0
  case neg =>
    rw [if_pos q1]
    generalize clF c back = f at *
    repeat' first | ((with_reducible (first | refine condD ?_ ?_ | refine condE ?_ ?_ | refine condN ?_ ?_ | refine condI ?_ ?_ | refine condS ?_ ?_)) <;> intro h) | ((with_reducible (first | refine guardD (by with_unfolding_all rfl) ?_ ?_ | refine guardE (by with_unfolding_all rfl) ?_ ?_ | refine guardN (by with_unfolding_all rfl) ?_ ?_ | refine guardI (by with_unfolding_all rfl) ?_ ?_ | refine guardS (by with_unfolding_all rfl) ?_ ?_)) <;> intro h) | ((refine callG c1 ?_)) | (with_reducible refine And.intro ?_ ?_; omega) | (simp only [Z0,Z1,Z2,Z3,Z4,Z5,Z6,Z7,Z8,Z9,Za,Zb,Zc,Zd,Ze,Zf,List.cons.injEq,Zg,Zh,Zi,Zj,Zk,Zl,Zm,Zn,Zo,Zp,beq_self_eq_true,bne_self_eq_false,decide_true,decide_false,Zq,Zr,Zs,Zt,Zu,Zv,Zw,Zx,Zy,Zz,Y0,Y1,Y2,Y3,Y4,Y5,Y6,x_c,x_o,x_l,x_b,g_b,Y7,Y8,Y9,Ya,Yb,Yc,Yd,Ye,Yf,Yg,Yh,Yi,Yj,Yk,Yl,lk,ef,Ym,Yn,Yo,Yp,Yq,Yr,Ys,Yt,Yu,Yv,Yw,Yx,Yy,Yz,X0,X1,X2,X3,X4,X5,X6,X7,X8,X9,Xa,Xb,Xc,Xd,Xe,Xf,Xg,Xh,Xi,Xj,Xk,Xl,Xm,Xn,hv,Xo,ev,Xp,Xq,Xr,Xs,Xt,Xu,Xv,Xw,Xx,Xy,Xz,W0,W1,W2,W3,W4,W5,W6,W7,W8,W9,Wa,Wb,vun,bnd,Wc,Wd,We,zav,Wf,Wg,Wh,Wi,Wj,Wk,Wl,Value.oneCell',Wm,Wn,Wo,Wp,true_and,and_true,and_self,implies_true,Wq,Wr,Ws,Wt,false_implies,Wu,Wv,Ww,Wx,Wy,Wz,V0,V1,V2,V3,V4,V5,V6,V7,V8,V9,Va,reduceCtorEq,if_true,if_false,Vb,↓reduceIte,Vc,Vd,Ve,Vf,Vg,Vh,Vi,ne_eq,not_false_eq_true,not_true_eq_false,Vj,Vk,r27_0,r27_1,r27_2,r27_3,r27_4,r27_5,r27_6,r27_7,r27_8,r27_9,r27_10,r27_11,r27_12,p27,bne0_t q1]) | (exfalso; omega)
    all_goals first | done | trace_state
  rw [if_neg (not_not_intro q1)]
  rw [q1] at c1
  cases q2 : c.begun
  case true =>
    rw [if_pos rfl]
    rw [q2] at c1
    by_cases q3 : ckF c.last = 0
    case neg =>
      rw [if_pos q3]
      generalize ckF c.last = f at *
      repeat' first | ((with_reducible (first | refine condD ?_ ?_ | refine condE ?_ ?_ | refine condN ?_ ?_ | refine condI ?_ ?_ | refine condS ?_ ?_)) <;> intro h) | ((with_reducible (first | refine guardD (by with_unfolding_all rfl) ?_ ?_ | refine guardE (by with_unfolding_all rfl) ?_ ?_ | refine guardN (by with_unfolding_all rfl) ?_ ?_ | refine guardI (by with_unfolding_all rfl) ?_ ?_ | refine guardS (by with_unfolding_all rfl) ?_ ?_)) <;> intro h) | ((refine callG c1 ?_)) | ((refine callG c2 ?_)) | (with_reducible refine And.intro ?_ ?_; omega) | (simp only [Z0,Z1,Z2,Z3,Z4,Z5,Z6,Z7,Z8,Z9,Za,Zb,Zc,Zd,Ze,Zf,List.cons.injEq,Zg,Zh,Zi,Zj,Zk,Zl,Zm,Zn,Zo,Zp,beq_self_eq_true,bne_self_eq_false,decide_true,decide_false,Zq,Zr,Zs,Zt,Zu,Zv,Zw,Zx,Zy,Zz,Y0,Y1,Y2,Y3,Y4,Y5,Y6,x_c,x_o,x_l,x_b,g_b,Y7,Y8,Y9,Ya,Yb,Yc,Yd,Ye,Yf,Yg,Yh,Yi,Yj,Yk,Yl,lk,ef,Ym,Yn,Yo,Yp,Yq,Yr,Ys,Yt,Yu,Yv,Yw,Yx,Yy,Yz,X0,X1,X2,X3,X4,X5,X6,X7,X8,X9,Xa,Xb,Xc,Xd,Xe,Xf,Xg,Xh,Xi,Xj,Xk,Xl,Xm,Xn,hv,Xo,ev,Xp,Xq,Xr,Xs,Xt,Xu,Xv,Xw,Xx,Xy,Xz,W0,W1,W2,W3,W4,W5,W6,W7,W8,W9,Wa,Wb,vun,bnd,Wc,Wd,We,zav,Wf,Wg,Wh,Wi,Wj,Wk,Wl,Value.oneCell',Wm,Wn,Wo,Wp,true_and,and_true,and_self,implies_true,Wq,Wr,Ws,Wt,false_implies,Wu,Wv,Ww,Wx,Wy,Wz,V0,V1,V2,V3,V4,V5,V6,V7,V8,V9,Va,reduceCtorEq,if_true,if_false,Vb,↓reduceIte,Vc,Vd,Ve,Vf,Vg,Vh,Vi,ne_eq,not_false_eq_true,not_true_eq_false,Vj,Vk,r27_0,r27_1,r27_2,r27_3,r27_4,r27_5,r27_6,r27_7,r27_8,r27_9,r27_10,r27_11,r27_12,p27,bne0_t q3]) | (exfalso; omega)
      all_goals first | done | trace_state
    rw [if_neg (not_not_intro q3)]
    rw [q3] at c2
    have c6 := c3 q3 k2
    generalize folF c.last l = f at *
    repeat' first | ((with_reducible (first | refine condD ?_ ?_ | refine condE ?_ ?_ | refine condN ?_ ?_ | refine condI ?_ ?_ | refine condS ?_ ?_)) <;> intro h) | ((with_reducible (first | refine guardD (by with_unfolding_all rfl) ?_ ?_ | refine guardE (by with_unfolding_all rfl) ?_ ?_ | refine guardN (by with_unfolding_all rfl) ?_ ?_ | refine guardI (by with_unfolding_all rfl) ?_ ?_ | refine guardS (by with_unfolding_all rfl) ?_ ?_)) <;> intro h) | ((refine callG c1 ?_)) | ((refine callG c2 ?_)) | ((refine callG c6 ?_)) | (with_reducible refine And.intro ?_ ?_; omega) | (simp only [Z0,Z1,Z2,Z3,Z4,Z5,Z6,Z7,Z8,Z9,Za,Zb,Zc,Zd,Ze,Zf,List.cons.injEq,Zg,Zh,Zi,Zj,Zk,Zl,Zm,Zn,Zo,Zp,beq_self_eq_true,bne_self_eq_false,decide_true,decide_false,Zq,Zr,Zs,Zt,Zu,Zv,Zw,Zx,Zy,Zz,Y0,Y1,Y2,Y3,Y4,Y5,Y6,x_c,x_o,x_l,x_b,g_b,Y7,Y8,Y9,Ya,Yb,Yc,Yd,Ye,Yf,Yg,Yh,Yi,Yj,Yk,Yl,lk,ef,Ym,Yn,Yo,Yp,Yq,Yr,Ys,Yt,Yu,Yv,Yw,Yx,Yy,Yz,X0,X1,X2,X3,X4,X5,X6,X7,X8,X9,Xa,Xb,Xc,Xd,Xe,Xf,Xg,Xh,Xi,Xj,Xk,Xl,Xm,Xn,hv,Xo,ev,Xp,Xq,Xr,Xs,Xt,Xu,Xv,Xw,Xx,Xy,Xz,W0,W1,W2,W3,W4,W5,W6,W7,W8,W9,Wa,Wb,vun,bnd,Wc,Wd,We,zav,Wf,Wg,Wh,Wi,Wj,Wk,Wl,Value.oneCell',Wm,Wn,Wo,Wp,true_and,and_true,and_self,implies_true,Wq,Wr,Ws,Wt,false_implies,Wu,Wv,Ww,Wx,Wy,Wz,V0,V1,V2,V3,V4,V5,V6,V7,V8,V9,Va,reduceCtorEq,if_true,if_false,Vb,↓reduceIte,Vc,Vd,Ve,Vf,Vg,Vh,Vi,ne_eq,not_false_eq_true,not_true_eq_false,Vj,Vk,r27_0,r27_1,r27_2,r27_3,r27_4,r27_5,r27_6,r27_7,r27_8,r27_9,r27_10,r27_11,r27_12,p27]) | (exfalso; omega)
    all_goals first | done | trace_state
  rw [if_neg (by decide)]
  rw [q2] at c1
  by_cases q3 : c.next = 0
  case neg =>
    rw [if_pos q3]
    repeat' first | ((with_reducible (first | refine condD ?_ ?_ | refine condE ?_ ?_ | refine condN ?_ ?_ | refine condI ?_ ?_ | refine condS ?_ ?_)) <;> intro h) | ((with_reducible (first | refine guardD (by with_unfolding_all rfl) ?_ ?_ | refine guardE (by with_unfolding_all rfl) ?_ ?_ | refine guardN (by with_unfolding_all rfl) ?_ ?_ | refine guardI (by with_unfolding_all rfl) ?_ ?_ | refine guardS (by with_unfolding_all rfl) ?_ ?_)) <;> intro h) | ((refine callG c1 ?_)) | (with_reducible refine And.intro ?_ ?_; omega) | (simp only [Z0,Z1,Z2,Z3,Z4,Z5,Z6,Z7,Z8,Z9,Za,Zb,Zc,Zd,Ze,Zf,List.cons.injEq,Zg,Zh,Zi,Zj,Zk,Zl,Zm,Zn,Zo,Zp,beq_self_eq_true,bne_self_eq_false,decide_true,decide_false,Zq,Zr,Zs,Zt,Zu,Zv,Zw,Zx,Zy,Zz,Y0,Y1,Y2,Y3,Y4,Y5,Y6,x_c,x_o,x_l,x_b,g_b,Y7,Y8,Y9,Ya,Yb,Yc,Yd,Ye,Yf,Yg,Yh,Yi,Yj,Yk,Yl,lk,ef,Ym,Yn,Yo,Yp,Yq,Yr,Ys,Yt,Yu,Yv,Yw,Yx,Yy,Yz,X0,X1,X2,X3,X4,X5,X6,X7,X8,X9,Xa,Xb,Xc,Xd,Xe,Xf,Xg,Xh,Xi,Xj,Xk,Xl,Xm,Xn,hv,Xo,ev,Xp,Xq,Xr,Xs,Xt,Xu,Xv,Xw,Xx,Xy,Xz,W0,W1,W2,W3,W4,W5,W6,W7,W8,W9,Wa,Wb,vun,bnd,Wc,Wd,We,zav,Wf,Wg,Wh,Wi,Wj,Wk,Wl,Value.oneCell',Wm,Wn,Wo,Wp,true_and,and_true,and_self,implies_true,Wq,Wr,Ws,Wt,false_implies,Wu,Wv,Ww,Wx,Wy,Wz,V0,V1,V2,V3,V4,V5,V6,V7,V8,V9,Va,reduceCtorEq,if_true,if_false,Vb,↓reduceIte,Vc,Vd,Ve,Vf,Vg,Vh,Vi,ne_eq,not_false_eq_true,not_true_eq_false,Vj,Vk,r27_0,r27_1,r27_2,r27_3,r27_4,r27_5,r27_6,r27_7,r27_8,r27_9,r27_10,r27_11,r27_12,p27,Zt,bne0_t q3]) | (exfalso; omega)
    all_goals first | done | trace_state
  rw [if_neg (not_not_intro q3)]
  rw [q3] at c1 ⊢
  by_cases q4 : c.lost = 0
  case neg =>
    rw [if_pos q4]
    repeat' first | ((with_reducible (first | refine condD ?_ ?_ | refine condE ?_ ?_ | refine condN ?_ ?_ | refine condI ?_ ?_ | refine condS ?_ ?_)) <;> intro h) | ((with_reducible (first | refine guardD (by with_unfolding_all rfl) ?_ ?_ | refine guardE (by with_unfolding_all rfl) ?_ ?_ | refine guardN (by with_unfolding_all rfl) ?_ ?_ | refine guardI (by with_unfolding_all rfl) ?_ ?_ | refine guardS (by with_unfolding_all rfl) ?_ ?_)) <;> intro h) | ((refine callG c1 ?_)) | (with_reducible refine And.intro ?_ ?_; omega) | (simp only [Z0,Z1,Z2,Z3,Z4,Z5,Z6,Z7,Z8,Z9,Za,Zb,Zc,Zd,Ze,Zf,List.cons.injEq,Zg,Zh,Zi,Zj,Zk,Zl,Zm,Zn,Zo,Zp,beq_self_eq_true,bne_self_eq_false,decide_true,decide_false,Zq,Zr,Zs,Zt,Zu,Zv,Zw,Zx,Zy,Zz,Y0,Y1,Y2,Y3,Y4,Y5,Y6,x_c,x_o,x_l,x_b,g_b,Y7,Y8,Y9,Ya,Yb,Yc,Yd,Ye,Yf,Yg,Yh,Yi,Yj,Yk,Yl,lk,ef,Ym,Yn,Yo,Yp,Yq,Yr,Ys,Yt,Yu,Yv,Yw,Yx,Yy,Yz,X0,X1,X2,X3,X4,X5,X6,X7,X8,X9,Xa,Xb,Xc,Xd,Xe,Xf,Xg,Xh,Xi,Xj,Xk,Xl,Xm,Xn,hv,Xo,ev,Xp,Xq,Xr,Xs,Xt,Xu,Xv,Xw,Xx,Xy,Xz,W0,W1,W2,W3,W4,W5,W6,W7,W8,W9,Wa,Wb,vun,bnd,Wc,Wd,We,zav,Wf,Wg,Wh,Wi,Wj,Wk,Wl,Value.oneCell',Wm,Wn,Wo,Wp,true_and,and_true,and_self,implies_true,Wq,Wr,Ws,Wt,false_implies,Wu,Wv,Ww,Wx,Wy,Wz,V0,V1,V2,V3,V4,V5,V6,V7,V8,V9,Va,reduceCtorEq,if_true,if_false,Vb,↓reduceIte,Vc,Vd,Ve,Vf,Vg,Vh,Vi,ne_eq,not_false_eq_true,not_true_eq_false,Vj,Vk,r27_0,r27_1,r27_2,r27_3,r27_4,r27_5,r27_6,r27_7,r27_8,r27_9,r27_10,r27_11,r27_12,p27,Zt,bne0_t q4]) | (exfalso; omega)
    all_goals first | done | trace_state
  rw [if_neg (not_not_intro q4)]
  rw [q4] at c1 ⊢
  by_cases q5 : c.queue = []
  case neg =>
    rw [if_pos q5]
    have q5' : (0 : Int) < c.queue.length := by
      have := List.length_pos_iff.2 q5; omega
    repeat' first | ((with_reducible (first | refine condD ?_ ?_ | refine condE ?_ ?_ | refine condN ?_ ?_ | refine condI ?_ ?_ | refine condS ?_ ?_)) <;> intro h) | ((with_reducible (first | refine guardD (by with_unfolding_all rfl) ?_ ?_ | refine guardE (by with_unfolding_all rfl) ?_ ?_ | refine guardN (by with_unfolding_all rfl) ?_ ?_ | refine guardI (by with_unfolding_all rfl) ?_ ?_ | refine guardS (by with_unfolding_all rfl) ?_ ?_)) <;> intro h) | ((refine callG c1 ?_)) | (with_reducible refine And.intro ?_ ?_; omega) | (simp only [Z0,Z1,Z2,Z3,Z4,Z5,Z6,Z7,Z8,Z9,Za,Zb,Zc,Zd,Ze,Zf,List.cons.injEq,Zg,Zh,Zi,Zj,Zk,Zl,Zm,Zn,Zo,Zp,beq_self_eq_true,bne_self_eq_false,decide_true,decide_false,Zq,Zr,Zs,Zt,Zu,Zv,Zw,Zx,Zy,Zz,Y0,Y1,Y2,Y3,Y4,Y5,Y6,x_c,x_o,x_l,x_b,g_b,Y7,Y8,Y9,Ya,Yb,Yc,Yd,Ye,Yf,Yg,Yh,Yi,Yj,Yk,Yl,lk,ef,Ym,Yn,Yo,Yp,Yq,Yr,Ys,Yt,Yu,Yv,Yw,Yx,Yy,Yz,X0,X1,X2,X3,X4,X5,X6,X7,X8,X9,Xa,Xb,Xc,Xd,Xe,Xf,Xg,Xh,Xi,Xj,Xk,Xl,Xm,Xn,hv,Xo,ev,Xp,Xq,Xr,Xs,Xt,Xu,Xv,Xw,Xx,Xy,Xz,W0,W1,W2,W3,W4,W5,W6,W7,W8,W9,Wa,Wb,vun,bnd,Wc,Wd,We,zav,Wf,Wg,Wh,Wi,Wj,Wk,Wl,Value.oneCell',Wm,Wn,Wo,Wp,true_and,and_true,and_self,implies_true,Wq,Wr,Ws,Wt,false_implies,Wu,Wv,Ww,Wx,Wy,Wz,V0,V1,V2,V3,V4,V5,V6,V7,V8,V9,Va,reduceCtorEq,if_true,if_false,Vb,↓reduceIte,Vc,Vd,Ve,Vf,Vg,Vh,Vi,ne_eq,not_false_eq_true,not_true_eq_false,Vj,Vk,r27_0,r27_1,r27_2,r27_3,r27_4,r27_5,r27_6,r27_7,r27_8,r27_9,r27_10,r27_11,r27_12,p27,Zt,q5']) | (exfalso; omega)
    all_goals first | done | trace_state
  rw [if_neg (not_not_intro q5)]
  have q5' : ¬ (0 : Int) < c.queue.length := by rw [q5]; decide
  cases q6 : sameL c.last ⟨0, 0, 0, [], false⟩
  · rw [show sameL c.last zPL = false from q6, if_pos rfl]
    rw [q6] at c5
    repeat' first | ((with_reducible (first | refine condD ?_ ?_ | refine condE ?_ ?_ | refine condN ?_ ?_ | refine condI ?_ ?_ | refine condS ?_ ?_)) <;> intro h) | ((with_reducible (first | refine guardD (by with_unfolding_all rfl) ?_ ?_ | refine guardE (by with_unfolding_all rfl) ?_ ?_ | refine guardN (by with_unfolding_all rfl) ?_ ?_ | refine guardI (by with_unfolding_all rfl) ?_ ?_ | refine guardS (by with_unfolding_all rfl) ?_ ?_)) <;> intro h) | ((refine callG c1 ?_)) | ((refine callG c5 ?_)) | (with_reducible refine And.intro ?_ ?_; omega) | (simp only [Z0,Z1,Z2,Z3,Z4,Z5,Z6,Z7,Z8,Z9,Za,Zb,Zc,Zd,Ze,Zf,List.cons.injEq,Zg,Zh,Zi,Zj,Zk,Zl,Zm,Zn,Zo,Zp,beq_self_eq_true,bne_self_eq_false,decide_true,decide_false,Zq,Zr,Zs,Zt,Zu,Zv,Zw,Zx,Zy,Zz,Y0,Y1,Y2,Y3,Y4,Y5,Y6,x_c,x_o,x_l,x_b,g_b,Y7,Y8,Y9,Ya,Yb,Yc,Yd,Ye,Yf,Yg,Yh,Yi,Yj,Yk,Yl,lk,ef,Ym,Yn,Yo,Yp,Yq,Yr,Ys,Yt,Yu,Yv,Yw,Yx,Yy,Yz,X0,X1,X2,X3,X4,X5,X6,X7,X8,X9,Xa,Xb,Xc,Xd,Xe,Xf,Xg,Xh,Xi,Xj,Xk,Xl,Xm,Xn,hv,Xo,ev,Xp,Xq,Xr,Xs,Xt,Xu,Xv,Xw,Xx,Xy,Xz,W0,W1,W2,W3,W4,W5,W6,W7,W8,W9,Wa,Wb,vun,bnd,Wc,Wd,We,zav,Wf,Wg,Wh,Wi,Wj,Wk,Wl,Value.oneCell',Wm,Wn,Wo,Wp,true_and,and_true,and_self,implies_true,Wq,Wr,Ws,Wt,false_implies,Wu,Wv,Ww,Wx,Wy,Wz,V0,V1,V2,V3,V4,V5,V6,V7,V8,V9,Va,reduceCtorEq,if_true,if_false,Vb,↓reduceIte,Vc,Vd,Ve,Vf,Vg,Vh,Vi,ne_eq,not_false_eq_true,not_true_eq_false,Vj,Vk,r27_0,r27_1,r27_2,r27_3,r27_4,r27_5,r27_6,r27_7,r27_8,r27_9,r27_10,r27_11,r27_12,p27,Zt,q5']) | (exfalso; omega)
    all_goals first | done | trace_state
  · rw [show sameL c.last zPL = true from q6, if_neg (by decide)]
    rw [q6] at c5
    have w1 : IntKind.i64.wrap (l.first + ((stF l back).1.1 : Int)) = l.first + (stF l back).1.1 := wrap_in (by omega) (by omega)
    generalize stF l back = s at *
    repeat' first | ((with_reducible (first | refine condD ?_ ?_ | refine condE ?_ ?_ | refine condN ?_ ?_ | refine condI ?_ ?_ | refine condS ?_ ?_)) <;> intro h) | ((with_reducible (first | refine guardD (by with_unfolding_all rfl) ?_ ?_ | refine guardE (by with_unfolding_all rfl) ?_ ?_ | refine guardN (by with_unfolding_all rfl) ?_ ?_ | refine guardI (by with_unfolding_all rfl) ?_ ?_ | refine guardS (by with_unfolding_all rfl) ?_ ?_)) <;> intro h) | ((refine callG c1 ?_)) | ((refine callG c5 ?_)) | ((refine callG c4 ?_)) | (with_reducible refine And.intro ?_ ?_; omega) | (simp only [Z0,Z1,Z2,Z3,Z4,Z5,Z6,Z7,Z8,Z9,Za,Zb,Zc,Zd,Ze,Zf,List.cons.injEq,Zg,Zh,Zi,Zj,Zk,Zl,Zm,Zn,Zo,Zp,beq_self_eq_true,bne_self_eq_false,decide_true,decide_false,Zq,Zr,Zs,Zt,Zu,Zv,Zw,Zx,Zy,Zz,Y0,Y1,Y2,Y3,Y4,Y5,Y6,x_c,x_o,x_l,x_b,g_b,Y7,Y8,Y9,Ya,Yb,Yc,Yd,Ye,Yf,Yg,Yh,Yi,Yj,Yk,Yl,lk,ef,Ym,Yn,Yo,Yp,Yq,Yr,Ys,Yt,Yu,Yv,Yw,Yx,Yy,Yz,X0,X1,X2,X3,X4,X5,X6,X7,X8,X9,Xa,Xb,Xc,Xd,Xe,Xf,Xg,Xh,Xi,Xj,Xk,Xl,Xm,Xn,hv,Xo,ev,Xp,Xq,Xr,Xs,Xt,Xu,Xv,Xw,Xx,Xy,Xz,W0,W1,W2,W3,W4,W5,W6,W7,W8,W9,Wa,Wb,vun,bnd,Wc,Wd,We,zav,Wf,Wg,Wh,Wi,Wj,Wk,Wl,Value.oneCell',Wm,Wn,Wo,Wp,true_and,and_true,and_self,implies_true,Wq,Wr,Ws,Wt,false_implies,Wu,Wv,Ww,Wx,Wy,Wz,V0,V1,V2,V3,V4,V5,V6,V7,V8,V9,Va,reduceCtorEq,if_true,if_false,Vb,↓reduceIte,Vc,Vd,Ve,Vf,Vg,Vh,Vi,ne_eq,not_false_eq_true,not_true_eq_false,Vj,Vk,r27_0,r27_1,r27_2,r27_3,r27_4,r27_5,r27_6,r27_7,r27_8,r27_9,r27_10,r27_11,r27_12,p27,Zt,q5',w1]) | (exfalso; omega)
    all_goals first | done | trace_state
end Go.Proofs.Ytpecmhdepggnoaa
