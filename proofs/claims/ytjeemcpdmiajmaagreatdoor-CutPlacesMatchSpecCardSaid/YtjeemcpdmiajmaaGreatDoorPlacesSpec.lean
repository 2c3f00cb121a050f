/- The reference's common places: headendref4's moment, order, Common, by the machine on data. -/
import Derived.Test.YtjeemcpdmiajmaaGreatDoorKRefPlc
import Derived.Test.YtjeemcpdmiajmaaGreatDoorKNumP
import Derived.Test.YtjeemcpdmiajmaaGreatDoorKNumF
import Derived.Test.YtjeemcpdmiajmaaGreatDoorKGrid
import Derived.Test.YtjeemcpdmiajmaaGreatDoorRows
namespace Go.Proofs.YtjeemcpdmiajmaaGreatDoor
open Go.RowKit Go.Lib
open Go.Proofs.YtjeemcpdmiajmaaGreatDoor renaming done_eq → Z0, done_eq' → Z1, donet_eq → Z2, donet_eq' → Z3, fin_val → Z4, fin_tup → Z5, fin_agg → Z6, fin_ro → Z7, res_one → Z8, res_more → Z9, rv_t → Za, rv_c → Zb, rv_l → Zc, int_eq → Zg, bool_eq → Zh, toNat_pred → Zr, toNat_succ → Zs, cnd_t → Zu, cnd_f → Zv, grd_tt → Zw, grd_u → Zx, grd_tf → Zy, grd_ft → Zz, grd_ff → Y0, g_skip → Y1, g_ops → Y2, g_seq → Y3, g_block → Y4, g_exit → Y5, g_ret → Y6, x_c → Y7, x_o → Y8, x_l → Y9, x_b → Ya, g_b → Yb, g_nil → Yc, r_all → Yd, o_nil → Ye, g_cond → Yf, o_guard → Yg, o_call → Yh, o_mv → Yi, o_pick → Yj, o_bin → Yk, o_load → Yl, o_loads → Ym, o_fld → Yn, o_idx → Yo, o_len → Yp, o_row → Yq, o_asg → Yr, o_app → Ys, eqAV → Yt, view_t → Yu, view_c → Yv, view_nil → Yw, view_fn → Yx, look_own → Yy, look_box → Yz, look_junk → X0, look_val → X1, look_nilsl → X2, look_ro → X3, look_roAt → X4, look_agg → X5, look_tup → X6, look_clo → X7, look_alias → X8, look_ref → X9, look_into → Xa, rowOf → Xb, cellsOf → Xc, argv → Xd, vbin → Xe, vun → Xf, bnd → Xg, elemOf → Xh, putParts → Xi, setAt → Xj, zav → Xk, put_at → Xr, mk_at → Xs, mk_nil → Xt, initSt → Xu, wk_cons → Wp, wk_nil → Wq, vint_eq → Wr, vbool_eq → Ws
open Go.Proofs.YtjeemcpdmiajmaaGreatDoor.AV.tup renaming injEq → Zd
open Go.Proofs.YtjeemcpdmiajmaaGreatDoor.AV.agg renaming injEq → Ze
open Go.Proofs.YtjeemcpdmiajmaaGreatDoor.AV.ro renaming injEq → Zf
open _root_.Int renaming toNat_natCast → Zi, reduceToNat → Zj, toNat_zero → Zk, toNat_one → Zl, reduceLE → Zm, reduceLT → Zn, reduceBEq → Zo, reduceBNe → Zp, reduceNeg → Zq
open _root_.List renaming length_map → Zt, map_cons → Xv, map_nil → Xw, forall_mem_cons → Xx, not_mem_nil → Xy, length_cons → Xz, length_nil → W0, getD_cons_zero → W1, getD_cons_succ → W2, getD_nil → W3, drop_succ_cons → W4, drop_zero → W5, take_succ_cons → W6, take_zero → W7, set_cons_zero → W8, set_cons_succ → W9, all_cons → Wa, all_nil → Wb
open Go.Proofs.YtjeemcpdmiajmaaGreatDoor.ASt renaming rid → Xl, free → Xm
open Go.Proofs.YtjeemcpdmiajmaaGreatDoor.AV renaming kill → Xn, isHome → Xo, noLoan → Xp, cellOK → Xq
open _root_.Bool renaming and_true → Wc, true_and → Wd, not_true → We, not_false → Wf, false_eq_true → Wg
open _root_.Nat renaming reduceEqDiff → Wh, reduceAdd → Wi, reduceSub → Wj, reduceMul → Wk, reduceLeDiff → Wl, reduceLT → Wm, one_ne_zero → Wn, zero_ne_one → Wo
open Go.Proofs.YtjeemcpdmiajmaaGreatDoor.AV.val renaming injEq → Wt
set_option linter.unusedSimpArgs false
--@short

theorem lm_s10 {n : Nat} (h : n < 10000 ^ 10) : (lm n).length ≤ 10 := lm_len h
/-! headend/headendref4.moment -/
def r24_0 : List POp := [⟨4, .alloc [.bool false, .slice none 0 0, .slice none 0 0], none⟩]
def r24_1 : List POp := [⟨5, .mv (.t 0), none⟩,
  ⟨6, .call 38 [.t 5], none⟩,
  ⟨7, .mv (.t 1), none⟩,
  ⟨8, .call 38 [.t 7], none⟩,
  ⟨9, .call 37 [.t 6, .t 8], none⟩,
  ⟨0, .stores 3 (.t 4) (.t 9), none⟩]
def p24 : PCode := .seq (.ops r24_0) (.seq (.ops r24_1) (.ret))
theorem ok24 : okFunc Tryz.prog 24 [.c 4 3] 2 p24 = true := by kernel_rfl
theorem moment_c (t : Int) (S : Nat) (ht : t.natAbs ≤ 10000000000000000) (h0 : 0 < S) (hS : S ≤ 1000000000) :
    CallOK Tryz.prog 24 [.val (.int .i64 t), .val (.int .i64 S)] (.agg (RQ t S)) := by
  refine call_of mixed ok24 rfl ?_
  have i1 := int_c t (by omega) (by omega)
  have i2 := int_c S (by omega) (by omega)
  have l1 : (lm 1).length ≤ 400 := by rw [lm_1]; decide
  have o1 := over_q t S 1 1 (by decide) h0 (by decide) (Nat.le_trans (lm_s10 (by omega)) (by decide)) l1 (Nat.le_trans (lm_s10 (by omega)) (by decide)) l1
  rw [show t * ((1 : Nat) : Int) = t by omega, Nat.one_mul] at o1
  obtain ⟨u1, u2, u3, hR⟩ := rq_agg t S
  rw [hR] at o1 ⊢
  clear hR
  generalize RQ t 1 = R1 at *
  generalize RQ (S : Int) 1 = R2 at *
  repeat' first | ((with_reducible (first | refine condD ?_ ?_ | refine condE ?_ ?_ | refine condN ?_ ?_ | refine condI ?_ ?_ | refine condS ?_ ?_)) <;> intro h) | ((refine callG i1 ?_)) | ((refine callG i2 ?_)) | ((refine callG o1 ?_)) | (with_reducible refine And.intro ?_ ?_; omega) | (simp only [Z0,Z1,Z2,Z3,Z4,Z5,Z6,Z7,Z8,Z9,Za,Zb,Zc,Zd,Ze,Zf,List.cons.injEq,Zg,Zh,Zi,Zj,Zk,Zl,Zm,Zn,Zo,Zp,beq_self_eq_true,bne_self_eq_false,decide_true,decide_false,Zq,Zr,Zs,Zt,Zu,Zv,Zw,Zx,Zy,Zz,Y0,Y1,Y2,Y3,Y4,Y5,Y6,Y7,Y8,Y9,Ya,Yb,Yc,Yd,Ye,Yf,Yg,Yh,lk,ef,Yi,o_alloc,o_stores,hv,Yt,ev,Yu,Yv,Yw,Yx,Yy,Yz,X0,X1,X2,X3,X4,X5,X6,X7,X8,X9,Xa,Xb,Xc,Xd,Xe,Xf,Xg,Xh,Xi,Xj,Xk,Xl,Xm,Xn,Xo,Xp,Xq,Value.oneCell',Xr,Xs,Xt,Xu,true_and,and_true,and_self,implies_true,Xv,Xw,Xx,Xy,false_implies,Xz,W0,W1,W2,W3,W4,W5,W6,W7,W8,W9,Wa,Wb,Wc,Wd,We,Wf,reduceCtorEq,if_true,if_false,Wg,↓reduceIte,Wh,Wi,Wj,Wk,Wl,Wm,ne_eq,not_false_eq_true,not_true_eq_false,Wn,Wo,r24_0,r24_1,p24]) | (exfalso; omega)
/-! headend/headendref4.order -/
def r15_0 : List POp := [⟨8, .asg (.c (.int .i64 0)), none⟩]
def r15_1 : List POp := [⟨9, .mv (.t 0), none⟩,
  ⟨10, .mv (.t 1), none⟩,
  ⟨11, .call 24 [.t 9, .t 10], none⟩,
  ⟨12, .mv (.t 2), none⟩,
  ⟨13, .mv (.t 3), none⟩,
  ⟨14, .call 24 [.t 12, .t 13], none⟩,
  ⟨15, .call 23 [.t 11, .t 14], none⟩,
  ⟨8, .asg (.t 15), none⟩]
def p15 : PCode := .seq (.ops r15_0) (.seq (.ops r15_1) (.ret))
theorem ok15 : okFunc Tryz.prog 15 [.t 8] 4 p15 = true := by kernel_rfl
theorem order_c (a b : Int) (S O : Nat) (ha : a.natAbs ≤ 10000000000000000) (hb : b.natAbs ≤ 10000000000000000) (h0 : 0 < S) (hS : S ≤ 1000000000) (h1 : 0 < O) (hO : O ≤ 1000000000) :
    CallOK Tryz.prog 15 [.val (.int .i64 a), .val (.int .i64 S), .val (.int .i64 b), .val (.int .i64 O)] (.val (.int .i64 (cmpI (a * O) (b * S)))) := by
  refine call_of mixed ok15 rfl ?_
  have m1 := moment_c a S ha h0 hS
  have m2 := moment_c b O hb h1 hO
  have hc := compare_q a b S O h0 h1 (Nat.le_trans (lm_s10 (by omega)) (by decide)) (Nat.le_trans (lm_s10 (by omega)) (by decide)) (Nat.le_trans (lm_s10 (by omega)) (by decide)) (Nat.le_trans (lm_s10 (by omega)) (by decide))
  generalize cmpI (a * O) (b * S) = c at *
  generalize RQ a S = R1 at *
  generalize RQ b O = R2 at *
  repeat' first | ((with_reducible (first | refine condD ?_ ?_ | refine condE ?_ ?_ | refine condN ?_ ?_ | refine condI ?_ ?_ | refine condS ?_ ?_)) <;> intro h) | ((refine callG m1 ?_)) | ((refine callG m2 ?_)) | ((refine callG hc ?_)) | (with_reducible refine And.intro ?_ ?_; omega) | (simp only [Z0,Z1,Z2,Z3,Z4,Z5,Z6,Z7,Z8,Z9,Za,Zb,Zc,Zd,Ze,Zf,List.cons.injEq,Zg,Zh,Zi,Zj,Zk,Zl,Zm,Zn,Zo,Zp,beq_self_eq_true,bne_self_eq_false,decide_true,decide_false,Zq,Zr,Zs,Zt,Zu,Zv,Zw,Zx,Zy,Zz,Y0,Y1,Y2,Y3,Y4,Y5,Y6,Y7,Y8,Y9,Ya,Yb,Yc,Yd,Ye,Yf,Yg,Yh,lk,ef,Yi,Yr,hv,Yt,ev,Yu,Yv,Yw,Yx,Yy,Yz,X0,X1,X2,X3,X4,X5,X6,X7,X8,X9,Xa,Xb,Xc,Xd,Xe,Xf,Xg,Xh,Xi,Xj,Xk,Xl,Xm,Xn,Xo,Xp,Xq,Value.oneCell',Xr,Xs,Xt,Xu,true_and,and_true,and_self,implies_true,Xv,Xw,Xx,Xy,false_implies,Xz,W0,W1,W2,W3,W4,W5,W6,W7,W8,W9,Wa,Wb,Wc,Wd,We,Wf,reduceCtorEq,if_true,if_false,Wg,↓reduceIte,Wh,Wi,Wj,Wk,Wl,Wm,ne_eq,not_false_eq_true,not_true_eq_false,Wn,Wo,r15_0,r15_1,p15]) | (exfalso; omega)
theorem cmpI_eq (x y : Int) : (cmpI x y == 0) = decide (x = y) := by
  unfold cmpI
  by_cases h : x = y
  · subst h
    rw [if_neg (Int.lt_irrefl _), if_neg (Int.lt_irrefl _)]
    simp
  · rw [decide_eq_false h]
    split
    · rfl
    · split
      · rfl
      · omega
def commG (sc t : Int) (r : Str) : Bool := r.sound || foundP r.scale sc t (plcT r.smps)
theorem allP_is (sc t : Int) (l : List Str) : allP sc t l = l.all (commG sc t) := rfl
theorem plcT_len (l : List Smp) : (plcT l).length ≤ 5000 := by unfold plcT; rw [List.length_map]; exact placesL_len l
theorem plcT_bd {l : List Smp} (hs : smpF l = 0) : ∀ t ∈ plcT l, t.natAbs ≤ 2000000000000000 := by
  intro t ht
  obtain ⟨p, hp, rfl⟩ := List.mem_map.1 ht
  have := placesL_bd hs p hp
  omega
theorem tail_take {α : Type} {l : List α} {i : Nat} (h1 : 1 ≤ i) (h : i < l.length) : (l.take (i + 1)).drop 1 = (l.take i).drop 1 ++ [l[i]] := by
  rw [List.take_succ_eq_append_getElem h, List.drop_append_of_le_length (by rw [List.length_take]; omega)]
/-! headend/headendref4.Common -/
def r5_0 : List POp := [⟨2, .asg .nil, none⟩,
  ⟨3, .asg (.c (.int .i64 0)), none⟩]
def r5_1 : List POp := [⟨13, .mv (.t 0), none⟩,
  ⟨14, .call 7 [.t 13], none⟩,
  ⟨4, .asg (.t 14), none⟩]
def r5_2 : List POp := [⟨15, .mv (.t 4), none⟩,
  ⟨16, .bin .neq (.t 15) (.c (.int .i64 0)), none⟩]
def r5_3 : List POp := [⟨17, .mv (.t 4), none⟩,
  ⟨2, .asg .nil, none⟩,
  ⟨3, .mv (.t 17), none⟩]
def r5_4 : List POp := [⟨5, .asg .nil, none⟩]
def r5_5 : List POp := [⟨18, .mv (.t 0), none⟩,
  ⟨19, .idx 4 (.t 18) (.c (.int .i64 0)), none⟩,
  ⟨20, .loads 4 (.t 19), none⟩,
  ⟨21, .call 14 [.t 20], none⟩,
  ⟨22, .len (.t 21), none⟩,
  ⟨23, .mv (.c (.int .i64 0)), none⟩]
def r5_6 : List POp := [⟨24, .bin .lss (.t 23) (.t 22), none⟩]
def r5_7 : List POp := [⟨25, .idx 1 (.t 21) (.t 23), none⟩,
  ⟨26, .load (.t 25), none⟩,
  ⟨7, .asg (.t 26), none⟩]
def r5_8 : List POp := [⟨8, .asg (.c (.bool true)), none⟩]
def r5_9 : List POp := [⟨9, .asg (.c (.int .i64 1)), none⟩]
def r5_10 : List POp := [⟨27, .mv (.t 9), none⟩,
  ⟨28, .mv (.t 0), none⟩,
  ⟨29, .len (.t 28), none⟩,
  ⟨30, .bin .lss (.t 27) (.t 29), none⟩]
def r5_12 : List POp := [⟨33, .mv (.t 0), none⟩,
  ⟨34, .mv (.t 9), none⟩,
  ⟨35, .idx 4 (.t 33) (.t 34), none⟩,
  ⟨36, .fld 2 (.t 35), none⟩,
  ⟨37, .load (.t 36), none⟩]
def r5_13 : List POp := [⟨10, .asg (.c (.bool false)), none⟩]
def r5_14 : List POp := [⟨38, .mv (.t 0), none⟩,
  ⟨39, .mv (.t 9), none⟩,
  ⟨40, .idx 4 (.t 38) (.t 39), none⟩,
  ⟨41, .loads 4 (.t 40), none⟩,
  ⟨42, .call 14 [.t 41], none⟩,
  ⟨43, .len (.t 42), none⟩,
  ⟨44, .mv (.c (.int .i64 0)), none⟩]
def r5_15 : List POp := [⟨45, .bin .lss (.t 44) (.t 43), none⟩]
def r5_16 : List POp := [⟨46, .idx 1 (.t 42) (.t 44), none⟩,
  ⟨47, .load (.t 46), none⟩,
  ⟨12, .asg (.t 47), none⟩]
def r5_17 : List POp := [⟨48, .mv (.t 10), none⟩,
  ⟨49, .mv (.t 48), none⟩,
  ⟨50, .mv (.t 7), some (49, false)⟩,
  ⟨51, .mv (.t 0), some (49, false)⟩,
  ⟨52, .idx 4 (.t 51) (.c (.int .i64 0)), some (49, false)⟩,
  ⟨53, .fld 1 (.t 52), some (49, false)⟩,
  ⟨54, .load (.t 53), some (49, false)⟩,
  ⟨55, .mv (.t 12), some (49, false)⟩,
  ⟨56, .mv (.t 0), some (49, false)⟩,
  ⟨57, .mv (.t 9), some (49, false)⟩,
  ⟨58, .idx 4 (.t 56) (.t 57), some (49, false)⟩,
  ⟨59, .fld 1 (.t 58), some (49, false)⟩,
  ⟨60, .load (.t 59), some (49, false)⟩,
  ⟨61, .call 15 [.t 50, .t 54, .t 55, .t 60], some (49, false)⟩,
  ⟨62, .bin .eql (.t 61) (.c (.int .i64 0)), some (49, false)⟩,
  ⟨63, .pick (.t 49) (.c (.bool true)) (.t 62), none⟩,
  ⟨10, .asg (.t 63), none⟩]
def r5_18 : List POp := [⟨64, .bin .add (.t 44) (.c (.int .i64 1)), none⟩,
  ⟨44, .mv (.t 64), none⟩]
def r5_19 : List POp := [⟨65, .mv (.t 8), none⟩,
  ⟨66, .mv (.t 65), none⟩,
  ⟨67, .mv (.t 10), some (66, true)⟩,
  ⟨68, .pick (.t 66) (.t 67) (.c (.bool false)), none⟩,
  ⟨8, .asg (.t 68), none⟩]
def r5_11 : List POp := [⟨31, .mv (.t 9), none⟩,
  ⟨32, .bin .add (.t 31) (.c (.int .i64 1)), none⟩,
  ⟨9, .asg (.t 32), none⟩]
def r5_20 : List POp := [⟨69, .mv (.t 8), none⟩]
def r5_21 : List POp := [⟨70, .mv (.t 5), none⟩,
  ⟨71, .mv (.t 7), none⟩,
  ⟨72, .row 3 1 [.t 71], none⟩,
  ⟨73, .app 3 1 8 (.t 70) (.t 72), none⟩,
  ⟨5, .asg (.t 73), none⟩]
def r5_22 : List POp := [⟨74, .bin .add (.t 23) (.c (.int .i64 1)), none⟩,
  ⟨23, .mv (.t 74), none⟩]
def r5_23 : List POp := [⟨75, .mv (.t 5), none⟩,
  ⟨2, .asg (.t 75), none⟩,
  ⟨3, .asg (.c (.int .i64 0)), none⟩]
def l5_2 : PCode := .seq (.ops r5_15) (.seq (.cond (.t 45) (.skip) (.exit 4)) (.seq (.block 5 (.seq (.ops r5_16) (.ops r5_17))) (.ops r5_18)))
def l5_1 : PCode := .seq (.seq (.ops r5_10) (.cond (.t 30) (.skip) (.exit 2))) (.seq (.block 3 (.seq (.seq (.ops r5_12) (.cond (.t 37) (.exit 3) (.skip))) (.seq (.ops r5_13) (.seq (.seq (.ops r5_14) (.block 4 (.loop l5_2))) (.ops r5_19))))) (.ops r5_11))
def l5_0 : PCode := .seq (.ops r5_6) (.seq (.cond (.t 24) (.skip) (.exit 0)) (.seq (.block 1 (.seq (.ops r5_7) (.seq (.ops r5_8) (.seq (.seq (.ops r5_9) (.block 2 (.loop l5_1))) (.seq (.ops r5_20) (.cond (.t 69) (.ops r5_21) (.skip))))))) (.ops r5_22)))
def p5 : PCode := .seq (.ops r5_0) (.seq (.seq (.ops r5_1) (.seq (.ops r5_2) (.cond (.t 16) (.seq (.ops r5_3) (.ret)) (.skip)))) (.seq (.ops r5_4) (.seq (.seq (.ops r5_5) (.block 0 (.loop l5_0))) (.seq (.ops r5_23) (.ret)))))
theorem ok5 : okFunc Tryz.prog 5 [.t 2, .t 3] 1 p5 = true := by kernel_rfl
set_option maxHeartbeats 2000000 in
theorem rcommon_c (l : List Str) (hnm : ∀ r ∈ l, NmOK r) : CallOK Tryz.prog 5 [.ro (l.map Str.av)] (.tup [.ro ((commonF l).1.map oneI), .val (.int .i64 (commonF l).2)]) := by
  refine call_of mixed ok5 rfl ?_
  have hc := rrend_c l hnm
  by_cases h0 : rendF l = 0
  case neg =>
    rw [show commonF l = ([], rendF l) from if_pos h0]
    have hb0 := bne0_t h0
    have hb1 := beq0_f h0
    generalize rendF l = e at *
    repeat' first | ((with_reducible (first | refine condD ?_ ?_ | refine condE ?_ ?_ | refine condN ?_ ?_ | refine condI ?_ ?_ | refine condS ?_ ?_)) <;> intro h) | ((with_reducible (first | refine guardD (by with_unfolding_all rfl) ?_ ?_ | refine guardE (by with_unfolding_all rfl) ?_ ?_ | refine guardN (by with_unfolding_all rfl) ?_ ?_ | refine guardI (by with_unfolding_all rfl) ?_ ?_ | refine guardS (by with_unfolding_all rfl) ?_ ?_)) <;> intro h) | ((refine callG hc ?_)) | (with_reducible refine And.intro ?_ ?_; omega) | (simp only [Z0,Z1,Z2,Z3,Z4,Z5,Z6,Z7,Z8,Z9,Za,Zb,Zc,Zd,Ze,Zf,List.cons.injEq,Zg,Zh,Zi,Zj,Zk,Zl,Zm,Zn,Zo,Zp,beq_self_eq_true,bne_self_eq_false,decide_true,decide_false,Zq,Zr,Zs,Zt,Zu,Zv,Zw,Zx,Zy,Zz,Y0,Y1,Y2,Y3,Y4,Y5,Y6,Y7,Y8,Y9,Ya,Yb,Yc,Yd,Ye,Yf,Yg,Yh,lk,ef,Yi,Yj,Yk,Yl,Ym,Yn,Yo,Yp,Yq,Yr,Ys,hv,Yt,ev,Yu,Yv,Yw,Yx,Yy,Yz,X0,X1,X2,X3,X4,X5,X6,X7,X8,X9,Xa,Xb,Xc,Xd,Xe,Xf,Xg,Xh,Xi,Xj,Xk,Xl,Xm,Xn,Xo,Xp,Xq,Value.oneCell',Xr,Xs,Xt,Xu,true_and,and_true,and_self,implies_true,Xv,Xw,Xx,Xy,false_implies,Xz,W0,W1,W2,W3,W4,W5,W6,W7,W8,W9,Wa,Wb,Wc,Wd,We,Wf,reduceCtorEq,if_true,if_false,Wg,↓reduceIte,Wh,Wi,Wj,Wk,Wl,Wm,ne_eq,not_false_eq_true,not_true_eq_false,Wn,Wo,r5_0,r5_1,r5_2,r5_3,r5_4,r5_5,r5_6,r5_7,r5_8,r5_9,r5_10,r5_12,r5_13,r5_14,r5_15,r5_16,r5_17,r5_18,r5_19,r5_11,r5_20,r5_21,r5_22,r5_23,p5,hb0,hb1]) | (exfalso; omega)
    all_goals first | done | simp
  obtain ⟨hp, hl12, hst⟩ := rendF_0 h0
  have hok : ∀ k (hk : k < l.length), StrOK l[k] := fun k hk => strF_ok (hst k hk)
  have hok0 := hok 0 hp
  obtain ⟨s0, r0, hts⟩ : ∃ s r, l = s :: r := by
    cases l with
    | nil => simp at hp
    | cons s r => exact ⟨s, r, rfl⟩
  have g0 : (l.map Str.av).getD 0 [] = s0.av := by rw [hts]; rfl
  have hs0 : scale0 l = s0.scale := by rw [hts]; rfl
  have hm0 : smps0 l = s0.smps := by rw [hts]; rfl
  have he0 : l[0] = s0 := by simp [hts]
  rw [he0] at hok0
  obtain ⟨a1, a2, a3, a4⟩ := hok0
  have hC : commonF l = ((plcT s0.smps).filter fun t => allP s0.scale t (l.drop 1), 0) := by
    have h1 := common_is h0 (by rw [hs0]; omega)
    rw [hs0, hm0] at h1
    rw [show commonF l = ((commonF l).1, 0) by rw [show commonF l = ((leftGo (scale0 l) (l.drop 1) (placesL (smps0 l))).map Prod.fst, 0) from if_neg (by simp [h0])], h1]
  rw [hC]
  clear hC hs0 hm0 he0 hts
  rw [h0] at hc
  have hPl := rplaces_c s0 a1
  have hPb := plcT_bd a1
  have hPn := plcT_len s0.smps
  generalize plcT s0.smps = P at *
  obtain ⟨S, hS⟩ : ∃ S : Nat, s0.scale = S := ⟨s0.scale.toNat, by omega⟩
  simp only [Str.av] at g0 hPl
  rw [hS] at g0 hPl a3 a4 ⊢
  have hpi : (0 : Int) < l.length := by omega
  have hp1 : 1 ≤ l.length := hp
  repeat' first | ((with_reducible (first | refine condD ?_ ?_ | refine condE ?_ ?_ | refine condN ?_ ?_ | refine condI ?_ ?_ | refine condS ?_ ?_)) <;> intro h) | ((with_reducible (first | refine guardD (by with_unfolding_all rfl) ?_ ?_ | refine guardE (by with_unfolding_all rfl) ?_ ?_ | refine guardN (by with_unfolding_all rfl) ?_ ?_ | refine guardI (by with_unfolding_all rfl) ?_ ?_ | refine guardS (by with_unfolding_all rfl) ?_ ?_)) <;> intro h) | ((refine callG hc ?_)) | ((refine callG hPl ?_)) | (with_reducible refine And.intro ?_ ?_; omega) | (simp only [Z0,Z1,Z2,Z3,Z4,Z5,Z6,Z7,Z8,Z9,Za,Zb,Zc,Zd,Ze,Zf,List.cons.injEq,Zg,Zh,Zi,Zj,Zk,Zl,Zm,Zn,Zo,Zp,beq_self_eq_true,bne_self_eq_false,decide_true,decide_false,Zq,Zr,Zs,Zt,Zu,Zv,Zw,Zx,Zy,Zz,Y0,Y1,Y2,Y3,Y4,Y5,Y6,Y7,Y8,Y9,Ya,Yb,Yc,Yd,Ye,Yf,Yg,Yh,lk,ef,Yi,Yj,Yk,Yl,Ym,Yn,Yo,Yp,Yq,Yr,Ys,hv,Yt,ev,Yu,Yv,Yw,Yx,Yy,Yz,X0,X1,X2,X3,X4,X5,X6,X7,X8,X9,Xa,Xb,Xc,Xd,Xe,Xf,Xg,Xh,Xi,Xj,Xk,Xl,Xm,Xn,Xo,Xp,Xq,Value.oneCell',Xr,Xs,Xt,Xu,true_and,and_true,and_self,implies_true,Xv,Xw,Xx,Xy,false_implies,Xz,W0,W1,W2,W3,W4,W5,W6,W7,W8,W9,Wa,Wb,Wc,Wd,We,Wf,reduceCtorEq,if_true,if_false,Wg,↓reduceIte,Wh,Wi,Wj,Wk,Wl,Wm,ne_eq,not_false_eq_true,not_true_eq_false,Wn,Wo,r5_0,r5_1,r5_2,r5_3,r5_4,r5_5,r5_6,r5_7,r5_8,r5_9,r5_10,r5_12,r5_13,r5_14,r5_15,r5_16,r5_17,r5_18,r5_19,r5_11,r5_20,r5_21,r5_22,r5_23,p5,g0,hpi,hp,List.length_map]) | (exfalso; omega)
  refine loopS (fun k : Nat => mk [(0, .ro (l.map Str.av)), (5, .own 3 1 (((P.take k).filter fun t => allP S t (l.drop 1)).map oneI)), (21, .ro (P.map oneI)), (22, .val (.int .i64 P.length)), (23, .val (.int .i64 k))]) (fun k => k ≤ P.length) (fun k => P.length - k) 0 (weak_mk ?_) (Nat.zero_le _) ?_
  · simp only [Wp,Wq,wk1,Wr,Ws,Wt,Z4,Z5,Z6,Z7,Z8,Z9,Za,Zb,Zc,Zd,Ze,Zf,List.cons.injEq,Zg,Zh,Zi,Zj,Zk,Zl,Zm,Zn,Zo,Zp,beq_self_eq_true,bne_self_eq_false,decide_true,decide_false,Zq,Zr,Zs,Zt,Zu,Zv,Zw,Zx,Zy,Zz,Y0,hv,Yt,ev,Yu,Yv,Yw,Yx,Yy,Yz,X0,X1,X2,X3,X4,X5,X6,X7,X8,X9,Xa,Xb,Xc,Xd,Xe,Xf,Xg,Xh,Xi,Xj,Xk,Xl,Xm,Xn,Xo,Xp,Xq,Value.oneCell',Xr,Xs,Xt,Xu,true_and,and_true,and_self,implies_true,Xv,Xw,Xx,Xy,false_implies,Xz,W0,W1,W2,W3,W4,W5,W6,W7,W8,W9,Wa,Wb,Wc,Wd,We,Wf,reduceCtorEq,if_true,if_false,Wg,↓reduceIte,Wh,Wi,Wj,Wk,Wl,Wm,ne_eq,not_false_eq_true,not_true_eq_false,Wn,Nat.zero_ne_one]
    all_goals first | done | rfl | simp
  rintro J hJ k hk
  simp only [Z0,Z1,Z2,Z3,Z4,Z5,Z6,Z7,Z8,Z9,Za,Zb,Zc,Zd,Ze,Zf,List.cons.injEq,Zg,Zh,Zi,Zj,Zk,Zl,Zm,Zn,Zo,Zp,beq_self_eq_true,bne_self_eq_false,decide_true,decide_false,Zq,Zr,Zs,Zt,Zu,Zv,Zw,Zx,Zy,Zz,Y0,Y1,Y2,Y3,Y4,Y5,Y6,Y7,Y8,Y9,Ya,Yb,Yc,Yd,Ye,Yf,Yg,Yh,lk,ef,Yi,Yj,Yk,Yl,Ym,Yn,Yo,Yp,Yq,Yr,Ys,hv,Yt,ev,Yu,Yv,Yw,Yx,Yy,Yz,X0,X1,X2,X3,X4,X5,X6,X7,X8,X9,Xa,Xb,Xc,Xd,Xe,Xf,Xg,Xh,Xi,Xj,Xk,Xl,Xm,Xn,Xo,Xp,Xq,Value.oneCell',Xr,Xs,Xt,Xu,true_and,and_true,and_self,implies_true,Xv,Xw,Xx,Xy,false_implies,Xz,W0,W1,W2,W3,W4,W5,W6,W7,W8,W9,Wa,Wb,Wc,Wd,We,Wf,reduceCtorEq,if_true,if_false,Wg,↓reduceIte,Wh,Wi,Wj,Wk,Wl,Wm,ne_eq,not_false_eq_true,not_true_eq_false,Wn,Wo,r5_0,r5_1,r5_2,r5_3,r5_4,r5_5,r5_6,r5_7,r5_8,r5_9,r5_10,r5_12,r5_13,r5_14,r5_15,r5_16,r5_17,r5_18,r5_19,r5_11,r5_20,r5_21,r5_22,r5_23,p5,l5_0]
  refine condD (fun h => ?_) (fun h => ?_)
  · have hlt : k < P.length := by omega
    have hw := i_add1 k (by omega)
    have gP := getD_map (f := oneI) (d := []) hlt
    simp only [oneI] at gP
    have hpb := hPb _ (List.getElem_mem hlt)
    have hft := filter_take (f := fun t => allP S t (l.drop 1)) hlt
    have hfl : ((P.take k).filter fun t => allP S t (l.drop 1)).length ≤ 5000 := Nat.le_trans (List.length_filter_le _ _) (by rw [List.length_take]; omega)
    generalize P[k] = p at *
    repeat' first | ((with_reducible (first | refine condD ?_ ?_ | refine condE ?_ ?_ | refine condN ?_ ?_ | refine condI ?_ ?_ | refine condS ?_ ?_)) <;> intro h) | ((with_reducible (first | refine guardD (by with_unfolding_all rfl) ?_ ?_ | refine guardE (by with_unfolding_all rfl) ?_ ?_ | refine guardN (by with_unfolding_all rfl) ?_ ?_ | refine guardI (by with_unfolding_all rfl) ?_ ?_ | refine guardS (by with_unfolding_all rfl) ?_ ?_)) <;> intro h) | (with_reducible refine And.intro ?_ ?_; omega) | (simp only [Z0,Z1,Z2,Z3,Z4,Z5,Z6,Z7,Z8,Z9,Za,Zb,Zc,Zd,Ze,Zf,List.cons.injEq,Zg,Zh,Zi,Zj,Zk,Zl,Zm,Zn,Zo,Zp,beq_self_eq_true,bne_self_eq_false,decide_true,decide_false,Zq,Zr,Zs,Zt,Zu,Zv,Zw,Zx,Zy,Zz,Y0,Y1,Y2,Y3,Y4,Y5,Y6,Y7,Y8,Y9,Ya,Yb,Yc,Yd,Ye,Yf,Yg,Yh,lk,ef,Yi,Yj,Yk,Yl,Ym,Yn,Yo,Yp,Yq,Yr,Ys,hv,Yt,ev,Yu,Yv,Yw,Yx,Yy,Yz,X0,X1,X2,X3,X4,X5,X6,X7,X8,X9,Xa,Xb,Xc,Xd,Xe,Xf,Xg,Xh,Xi,Xj,Xk,Xl,Xm,Xn,Xo,Xp,Xq,Value.oneCell',Xr,Xs,Xt,Xu,true_and,and_true,and_self,implies_true,Xv,Xw,Xx,Xy,false_implies,Xz,W0,W1,W2,W3,W4,W5,W6,W7,W8,W9,Wa,Wb,Wc,Wd,We,Wf,reduceCtorEq,if_true,if_false,Wg,↓reduceIte,Wh,Wi,Wj,Wk,Wl,Wm,ne_eq,not_false_eq_true,not_true_eq_false,Wn,Wo,r5_0,r5_1,r5_2,r5_3,r5_4,r5_5,r5_6,r5_7,r5_8,r5_9,r5_10,r5_12,r5_13,r5_14,r5_15,r5_16,r5_17,r5_18,r5_19,r5_11,r5_20,r5_21,r5_22,r5_23,p5,l5_0,gP]) | (exfalso; omega)
    refine loopS (fun i : Nat => mk [(0, .ro (l.map Str.av)), (5, .own 3 1 (((P.take k).filter fun t => allP S t (l.drop 1)).map oneI)), (7, .val (.int .i64 p)), (8, .val (.bool (((l.take i).drop 1).all (commG S p)))), (9, .val (.int .i64 i)), (21, .ro (P.map oneI)), (22, .val (.int .i64 P.length)), (23, .val (.int .i64 k))]) (fun i => 1 ≤ i ∧ i ≤ l.length) (fun i => l.length - i) 1 (weak_mk ?_) ⟨Nat.le_refl _, hp1⟩ ?_
    · simp only [Wp,Wq,wk1,Wr,Ws,Wt,Z4,Z5,Z6,Z7,Z8,Z9,Za,Zb,Zc,Zd,Ze,Zf,List.cons.injEq,Zg,Zh,Zi,Zj,Zk,Zl,Zm,Zn,Zo,Zp,beq_self_eq_true,bne_self_eq_false,decide_true,decide_false,Zq,Zr,Zs,Zt,Zu,Zv,Zw,Zx,Zy,Zz,Y0,hv,Yt,ev,Yu,Yv,Yw,Yx,Yy,Yz,X0,X1,X2,X3,X4,X5,X6,X7,X8,X9,Xa,Xb,Xc,Xd,Xe,Xf,Xg,Xh,Xi,Xj,Xk,Xl,Xm,Xn,Xo,Xp,Xq,Value.oneCell',Xr,Xs,Xt,Xu,true_and,and_true,and_self,implies_true,Xv,Xw,Xx,Xy,false_implies,Xz,W0,W1,W2,W3,W4,W5,W6,W7,W8,W9,Wa,Wb,Wc,Wd,We,Wf,reduceCtorEq,if_true,if_false,Wg,↓reduceIte,Wh,Wi,Wj,Wk,Wl,Wm,ne_eq,not_false_eq_true,not_true_eq_false,Wn,Nat.zero_ne_one]
      have : (l.take 1).drop 1 = [] := List.drop_eq_nil_of_le (by rw [List.length_take]; omega)
      simp [this]
    rintro J1 hJ1 i ⟨hi1, hi⟩
    simp only [Z0,Z1,Z2,Z3,Z4,Z5,Z6,Z7,Z8,Z9,Za,Zb,Zc,Zd,Ze,Zf,List.cons.injEq,Zg,Zh,Zi,Zj,Zk,Zl,Zm,Zn,Zo,Zp,beq_self_eq_true,bne_self_eq_false,decide_true,decide_false,Zq,Zr,Zs,Zt,Zu,Zv,Zw,Zx,Zy,Zz,Y0,Y1,Y2,Y3,Y4,Y5,Y6,Y7,Y8,Y9,Ya,Yb,Yc,Yd,Ye,Yf,Yg,Yh,lk,ef,Yi,Yj,Yk,Yl,Ym,Yn,Yo,Yp,Yq,Yr,Ys,hv,Yt,ev,Yu,Yv,Yw,Yx,Yy,Yz,X0,X1,X2,X3,X4,X5,X6,X7,X8,X9,Xa,Xb,Xc,Xd,Xe,Xf,Xg,Xh,Xi,Xj,Xk,Xl,Xm,Xn,Xo,Xp,Xq,Value.oneCell',Xr,Xs,Xt,Xu,true_and,and_true,and_self,implies_true,Xv,Xw,Xx,Xy,false_implies,Xz,W0,W1,W2,W3,W4,W5,W6,W7,W8,W9,Wa,Wb,Wc,Wd,We,Wf,reduceCtorEq,if_true,if_false,Wg,↓reduceIte,Wh,Wi,Wj,Wk,Wl,Wm,ne_eq,not_false_eq_true,not_true_eq_false,Wn,Wo,r5_0,r5_1,r5_2,r5_3,r5_4,r5_5,r5_6,r5_7,r5_8,r5_9,r5_10,r5_12,r5_13,r5_14,r5_15,r5_16,r5_17,r5_18,r5_19,r5_11,r5_20,r5_21,r5_22,r5_23,p5,l5_1,List.length_map]
    refine condD (fun h => ?_) (fun h => ?_)
    · have hlti : i < l.length := by omega
      have hwi := i_add1 i (by omega)
      have gI := getD_map (f := Str.av) (d := []) hlti
      have hii : (i : Int) < l.length := by omega
      have hi0 : (0 : Int) ≤ i := by omega
      obtain ⟨b1, b2, b3, b4⟩ := hok i hlti
      have hAl : ((l.take (i + 1)).drop 1).all (commG S p) = (((l.take i).drop 1).all (commG S p) && commG S p l[i]) := by rw [tail_take hi1 hlti, List.all_append]; simp
      have hG : commG S p l[i] = (l[i].sound || foundP l[i].scale S p (plcT l[i].smps)) := rfl
      have hPr := rplaces_c l[i] b1
      have hTb := plcT_bd b1
      have hTn := plcT_len l[i].smps
      simp only [Str.av] at gI hPr
      cases hso : l[i].sound with
      | true =>
        rw [hso, Bool.true_or] at hG
        rw [hG, Bool.and_true] at hAl
        rw [hso] at gI
        repeat' first | ((with_reducible (first | refine condD ?_ ?_ | refine condE ?_ ?_ | refine condN ?_ ?_ | refine condI ?_ ?_ | refine condS ?_ ?_)) <;> intro h) | ((with_reducible (first | refine guardD (by with_unfolding_all rfl) ?_ ?_ | refine guardE (by with_unfolding_all rfl) ?_ ?_ | refine guardN (by with_unfolding_all rfl) ?_ ?_ | refine guardI (by with_unfolding_all rfl) ?_ ?_ | refine guardS (by with_unfolding_all rfl) ?_ ?_)) <;> intro h) | (with_reducible refine And.intro ?_ ?_; omega) | (simp only [Z0,Z1,Z2,Z3,Z4,Z5,Z6,Z7,Z8,Z9,Za,Zb,Zc,Zd,Ze,Zf,List.cons.injEq,Zg,Zh,Zi,Zj,Zk,Zl,Zm,Zn,Zo,Zp,beq_self_eq_true,bne_self_eq_false,decide_true,decide_false,Zq,Zr,Zs,Zt,Zu,Zv,Zw,Zx,Zy,Zz,Y0,Y1,Y2,Y3,Y4,Y5,Y6,Y7,Y8,Y9,Ya,Yb,Yc,Yd,Ye,Yf,Yg,Yh,lk,ef,Yi,Yj,Yk,Yl,Ym,Yn,Yo,Yp,Yq,Yr,Ys,hv,Yt,ev,Yu,Yv,Yw,Yx,Yy,Yz,X0,X1,X2,X3,X4,X5,X6,X7,X8,X9,Xa,Xb,Xc,Xd,Xe,Xf,Xg,Xh,Xi,Xj,Xk,Xl,Xm,Xn,Xo,Xp,Xq,Value.oneCell',Xr,Xs,Xt,Xu,true_and,and_true,and_self,implies_true,Xv,Xw,Xx,Xy,false_implies,Xz,W0,W1,W2,W3,W4,W5,W6,W7,W8,W9,Wa,Wb,Wc,Wd,We,Wf,reduceCtorEq,if_true,if_false,Wg,↓reduceIte,Wh,Wi,Wj,Wk,Wl,Wm,ne_eq,not_false_eq_true,not_true_eq_false,Wn,Wo,r5_0,r5_1,r5_2,r5_3,r5_4,r5_5,r5_6,r5_7,r5_8,r5_9,r5_10,r5_12,r5_13,r5_14,r5_15,r5_16,r5_17,r5_18,r5_19,r5_11,r5_20,r5_21,r5_22,r5_23,p5,l5_1,gI,hwi,hii,hi0,List.length_map]) | (exfalso; omega)
        all_goals first | omega | exact again hJ1 (i + 1) (weak_mk (by simp only [Wp,Wq,wk1,Wr,Ws,Wt,Z4,Z5,Z6,Z7,Z8,Z9,Za,Zb,Zc,Zd,Ze,Zf,List.cons.injEq,Zg,Zh,Zi,Zj,Zk,Zl,Zm,Zn,Zo,Zp,beq_self_eq_true,bne_self_eq_false,decide_true,decide_false,Zq,Zr,Zs,Zt,Zu,Zv,Zw,Zx,Zy,Zz,Y0,hv,Yt,ev,Yu,Yv,Yw,Yx,Yy,Yz,X0,X1,X2,X3,X4,X5,X6,X7,X8,X9,Xa,Xb,Xc,Xd,Xe,Xf,Xg,Xh,Xi,Xj,Xk,Xl,Xm,Xn,Xo,Xp,Xq,Value.oneCell',Xr,Xs,Xt,Xu,true_and,and_true,and_self,implies_true,Xv,Xw,Xx,Xy,false_implies,Xz,W0,W1,W2,W3,W4,W5,W6,W7,W8,W9,Wa,Wb,Wc,Wd,We,Wf,reduceCtorEq,if_true,if_false,Wg,↓reduceIte,Wh,Wi,Wj,Wk,Wl,Wm,ne_eq,not_false_eq_true,not_true_eq_false,Wn,Nat.zero_ne_one]; first | done | exact hAl.symm)) ⟨by omega, by omega⟩ (by omega)
      | false =>
        rw [hso, Bool.false_or] at hG
        rw [hG] at hAl
        rw [hso] at gI hPr
        obtain ⟨O, hO⟩ : ∃ O : Nat, l[i].scale = O := ⟨l[i].scale.toNat, by omega⟩
        rw [hO] at gI hPr hAl b3 b4
        generalize plcT l[i].smps = T at *
        obtain ⟨al, hal⟩ : ∃ al, al = ((l.take i).drop 1).all (commG S p) := ⟨_, rfl⟩
        rw [← hal] at hAl ⊢
        repeat' first | ((with_reducible (first | refine condD ?_ ?_ | refine condE ?_ ?_ | refine condN ?_ ?_ | refine condI ?_ ?_ | refine condS ?_ ?_)) <;> intro h) | ((with_reducible (first | refine guardD (by with_unfolding_all rfl) ?_ ?_ | refine guardE (by with_unfolding_all rfl) ?_ ?_ | refine guardN (by with_unfolding_all rfl) ?_ ?_ | refine guardI (by with_unfolding_all rfl) ?_ ?_ | refine guardS (by with_unfolding_all rfl) ?_ ?_)) <;> intro h) | ((refine callG hPr ?_)) | (with_reducible refine And.intro ?_ ?_; omega) | (simp only [Z0,Z1,Z2,Z3,Z4,Z5,Z6,Z7,Z8,Z9,Za,Zb,Zc,Zd,Ze,Zf,List.cons.injEq,Zg,Zh,Zi,Zj,Zk,Zl,Zm,Zn,Zo,Zp,beq_self_eq_true,bne_self_eq_false,decide_true,decide_false,Zq,Zr,Zs,Zt,Zu,Zv,Zw,Zx,Zy,Zz,Y0,Y1,Y2,Y3,Y4,Y5,Y6,Y7,Y8,Y9,Ya,Yb,Yc,Yd,Ye,Yf,Yg,Yh,lk,ef,Yi,Yj,Yk,Yl,Ym,Yn,Yo,Yp,Yq,Yr,Ys,hv,Yt,ev,Yu,Yv,Yw,Yx,Yy,Yz,X0,X1,X2,X3,X4,X5,X6,X7,X8,X9,Xa,Xb,Xc,Xd,Xe,Xf,Xg,Xh,Xi,Xj,Xk,Xl,Xm,Xn,Xo,Xp,Xq,Value.oneCell',Xr,Xs,Xt,Xu,true_and,and_true,and_self,implies_true,Xv,Xw,Xx,Xy,false_implies,Xz,W0,W1,W2,W3,W4,W5,W6,W7,W8,W9,Wa,Wb,Wc,Wd,We,Wf,reduceCtorEq,if_true,if_false,Wg,↓reduceIte,Wh,Wi,Wj,Wk,Wl,Wm,ne_eq,not_false_eq_true,not_true_eq_false,Wn,Wo,r5_0,r5_1,r5_2,r5_3,r5_4,r5_5,r5_6,r5_7,r5_8,r5_9,r5_10,r5_12,r5_13,r5_14,r5_15,r5_16,r5_17,r5_18,r5_19,r5_11,r5_20,r5_21,r5_22,r5_23,p5,l5_1,gI,hii,hi0,List.length_map]) | (exfalso; omega)
        refine loopS (fun j : Nat => mk [(0, .ro (l.map Str.av)), (5, .own 3 1 (((P.take k).filter fun t => allP S t (l.drop 1)).map oneI)), (7, .val (.int .i64 p)), (8, .val (.bool al)), (9, .val (.int .i64 i)), (10, .val (.bool (foundP O S p (T.take j)))), (21, .ro (P.map oneI)), (22, .val (.int .i64 P.length)), (23, .val (.int .i64 k)), (42, .ro (T.map oneI)), (43, .val (.int .i64 T.length)), (44, .val (.int .i64 j))]) (fun j => j ≤ T.length) (fun j => T.length - j) 0 (weak_mk ?_) (Nat.zero_le _) ?_
        · simp only [Wp,Wq,wk1,Wr,Ws,Wt,Z4,Z5,Z6,Z7,Z8,Z9,Za,Zb,Zc,Zd,Ze,Zf,List.cons.injEq,Zg,Zh,Zi,Zj,Zk,Zl,Zm,Zn,Zo,Zp,beq_self_eq_true,bne_self_eq_false,decide_true,decide_false,Zq,Zr,Zs,Zt,Zu,Zv,Zw,Zx,Zy,Zz,Y0,hv,Yt,ev,Yu,Yv,Yw,Yx,Yy,Yz,X0,X1,X2,X3,X4,X5,X6,X7,X8,X9,Xa,Xb,Xc,Xd,Xe,Xf,Xg,Xh,Xi,Xj,Xk,Xl,Xm,Xn,Xo,Xp,Xq,Value.oneCell',Xr,Xs,Xt,Xu,true_and,and_true,and_self,implies_true,Xv,Xw,Xx,Xy,false_implies,Xz,W0,W1,W2,W3,W4,W5,W6,W7,W8,W9,Wa,Wb,Wc,Wd,We,Wf,reduceCtorEq,if_true,if_false,Wg,↓reduceIte,Wh,Wi,Wj,Wk,Wl,Wm,ne_eq,not_false_eq_true,not_true_eq_false,Wn,Nat.zero_ne_one]
          all_goals first | done | rfl | simp [foundP]
        rintro J2 hJ2 j hj
        simp only [Z0,Z1,Z2,Z3,Z4,Z5,Z6,Z7,Z8,Z9,Za,Zb,Zc,Zd,Ze,Zf,List.cons.injEq,Zg,Zh,Zi,Zj,Zk,Zl,Zm,Zn,Zo,Zp,beq_self_eq_true,bne_self_eq_false,decide_true,decide_false,Zq,Zr,Zs,Zt,Zu,Zv,Zw,Zx,Zy,Zz,Y0,Y1,Y2,Y3,Y4,Y5,Y6,Y7,Y8,Y9,Ya,Yb,Yc,Yd,Ye,Yf,Yg,Yh,lk,ef,Yi,Yj,Yk,Yl,Ym,Yn,Yo,Yp,Yq,Yr,Ys,hv,Yt,ev,Yu,Yv,Yw,Yx,Yy,Yz,X0,X1,X2,X3,X4,X5,X6,X7,X8,X9,Xa,Xb,Xc,Xd,Xe,Xf,Xg,Xh,Xi,Xj,Xk,Xl,Xm,Xn,Xo,Xp,Xq,Value.oneCell',Xr,Xs,Xt,Xu,true_and,and_true,and_self,implies_true,Xv,Xw,Xx,Xy,false_implies,Xz,W0,W1,W2,W3,W4,W5,W6,W7,W8,W9,Wa,Wb,Wc,Wd,We,Wf,reduceCtorEq,if_true,if_false,Wg,↓reduceIte,Wh,Wi,Wj,Wk,Wl,Wm,ne_eq,not_false_eq_true,not_true_eq_false,Wn,Wo,r5_0,r5_1,r5_2,r5_3,r5_4,r5_5,r5_6,r5_7,r5_8,r5_9,r5_10,r5_12,r5_13,r5_14,r5_15,r5_16,r5_17,r5_18,r5_19,r5_11,r5_20,r5_21,r5_22,r5_23,p5,l5_2]
        refine condD (fun h => ?_) (fun h => ?_)
        · have hltj : j < T.length := by omega
          have hwj := i_add1 j (by omega)
          have gT := getD_map (f := oneI) (d := []) hltj
          simp only [oneI] at gT
          have htb := hTb _ (List.getElem_mem hltj)
          have hF : foundP O S p (T.take (j + 1)) = (foundP O S p (T.take j) || decide (p * O = T[j] * S)) := by
            unfold foundP
            rw [List.take_succ_eq_append_getElem hltj, List.any_append]
            simp
          have hor := order_c p T[j] S O (by omega) (by omega) (by omega) (by omega) (by omega) (by omega)
          have hce := cmpI_eq (p * O) (T[j] * S)
          generalize T[j] = t at *
          generalize cmpI (p * O) (t * S) = c at *
          rw [← hce] at hF
          cases hfd : foundP O S p (T.take j) with
          | true =>
            rw [hfd, Bool.true_or] at hF
            repeat' first | ((with_reducible (first | refine condD ?_ ?_ | refine condE ?_ ?_ | refine condN ?_ ?_ | refine condI ?_ ?_ | refine condS ?_ ?_)) <;> intro h) | ((with_reducible (first | refine guardD (by with_unfolding_all rfl) ?_ ?_ | refine guardE (by with_unfolding_all rfl) ?_ ?_ | refine guardN (by with_unfolding_all rfl) ?_ ?_ | refine guardI (by with_unfolding_all rfl) ?_ ?_ | refine guardS (by with_unfolding_all rfl) ?_ ?_)) <;> intro h) | (with_reducible refine And.intro ?_ ?_; omega) | (simp only [Z0,Z1,Z2,Z3,Z4,Z5,Z6,Z7,Z8,Z9,Za,Zb,Zc,Zd,Ze,Zf,List.cons.injEq,Zg,Zh,Zi,Zj,Zk,Zl,Zm,Zn,Zo,Zp,beq_self_eq_true,bne_self_eq_false,decide_true,decide_false,Zq,Zr,Zs,Zt,Zu,Zv,Zw,Zx,Zy,Zz,Y0,Y1,Y2,Y3,Y4,Y5,Y6,Y7,Y8,Y9,Ya,Yb,Yc,Yd,Ye,Yf,Yg,Yh,lk,ef,Yi,Yj,Yk,Yl,Ym,Yn,Yo,Yp,Yq,Yr,Ys,hv,Yt,ev,Yu,Yv,Yw,Yx,Yy,Yz,X0,X1,X2,X3,X4,X5,X6,X7,X8,X9,Xa,Xb,Xc,Xd,Xe,Xf,Xg,Xh,Xi,Xj,Xk,Xl,Xm,Xn,Xo,Xp,Xq,Value.oneCell',Xr,Xs,Xt,Xu,true_and,and_true,and_self,implies_true,Xv,Xw,Xx,Xy,false_implies,Xz,W0,W1,W2,W3,W4,W5,W6,W7,W8,W9,Wa,Wb,Wc,Wd,We,Wf,reduceCtorEq,if_true,if_false,Wg,↓reduceIte,Wh,Wi,Wj,Wk,Wl,Wm,ne_eq,not_false_eq_true,not_true_eq_false,Wn,Wo,r5_0,r5_1,r5_2,r5_3,r5_4,r5_5,r5_6,r5_7,r5_8,r5_9,r5_10,r5_12,r5_13,r5_14,r5_15,r5_16,r5_17,r5_18,r5_19,r5_11,r5_20,r5_21,r5_22,r5_23,p5,l5_2,gT,gI,g0,hpi,hp,hii,hi0,hwj,List.length_map]) | (exfalso; omega)
            all_goals first | omega | exact again hJ2 (j + 1) (weak_mk (by simp only [Wp,Wq,wk1,Wr,Ws,Wt,Z4,Z5,Z6,Z7,Z8,Z9,Za,Zb,Zc,Zd,Ze,Zf,List.cons.injEq,Zg,Zh,Zi,Zj,Zk,Zl,Zm,Zn,Zo,Zp,beq_self_eq_true,bne_self_eq_false,decide_true,decide_false,Zq,Zr,Zs,Zt,Zu,Zv,Zw,Zx,Zy,Zz,Y0,hv,Yt,ev,Yu,Yv,Yw,Yx,Yy,Yz,X0,X1,X2,X3,X4,X5,X6,X7,X8,X9,Xa,Xb,Xc,Xd,Xe,Xf,Xg,Xh,Xi,Xj,Xk,Xl,Xm,Xn,Xo,Xp,Xq,Value.oneCell',Xr,Xs,Xt,Xu,true_and,and_true,and_self,implies_true,Xv,Xw,Xx,Xy,false_implies,Xz,W0,W1,W2,W3,W4,W5,W6,W7,W8,W9,Wa,Wb,Wc,Wd,We,Wf,reduceCtorEq,if_true,if_false,Wg,↓reduceIte,Wh,Wi,Wj,Wk,Wl,Wm,ne_eq,not_false_eq_true,not_true_eq_false,Wn,Nat.zero_ne_one]; first | done | exact hF.symm)) (by omega) (by omega)
          | false =>
            rw [hfd, Bool.false_or] at hF
            repeat' first | ((with_reducible (first | refine condD ?_ ?_ | refine condE ?_ ?_ | refine condN ?_ ?_ | refine condI ?_ ?_ | refine condS ?_ ?_)) <;> intro h) | ((with_reducible (first | refine guardD (by with_unfolding_all rfl) ?_ ?_ | refine guardE (by with_unfolding_all rfl) ?_ ?_ | refine guardN (by with_unfolding_all rfl) ?_ ?_ | refine guardI (by with_unfolding_all rfl) ?_ ?_ | refine guardS (by with_unfolding_all rfl) ?_ ?_)) <;> intro h) | ((refine callG hor ?_)) | (with_reducible refine And.intro ?_ ?_; omega) | (simp only [Z0,Z1,Z2,Z3,Z4,Z5,Z6,Z7,Z8,Z9,Za,Zb,Zc,Zd,Ze,Zf,List.cons.injEq,Zg,Zh,Zi,Zj,Zk,Zl,Zm,Zn,Zo,Zp,beq_self_eq_true,bne_self_eq_false,decide_true,decide_false,Zq,Zr,Zs,Zt,Zu,Zv,Zw,Zx,Zy,Zz,Y0,Y1,Y2,Y3,Y4,Y5,Y6,Y7,Y8,Y9,Ya,Yb,Yc,Yd,Ye,Yf,Yg,Yh,lk,ef,Yi,Yj,Yk,Yl,Ym,Yn,Yo,Yp,Yq,Yr,Ys,hv,Yt,ev,Yu,Yv,Yw,Yx,Yy,Yz,X0,X1,X2,X3,X4,X5,X6,X7,X8,X9,Xa,Xb,Xc,Xd,Xe,Xf,Xg,Xh,Xi,Xj,Xk,Xl,Xm,Xn,Xo,Xp,Xq,Value.oneCell',Xr,Xs,Xt,Xu,true_and,and_true,and_self,implies_true,Xv,Xw,Xx,Xy,false_implies,Xz,W0,W1,W2,W3,W4,W5,W6,W7,W8,W9,Wa,Wb,Wc,Wd,We,Wf,reduceCtorEq,if_true,if_false,Wg,↓reduceIte,Wh,Wi,Wj,Wk,Wl,Wm,ne_eq,not_false_eq_true,not_true_eq_false,Wn,Wo,r5_0,r5_1,r5_2,r5_3,r5_4,r5_5,r5_6,r5_7,r5_8,r5_9,r5_10,r5_12,r5_13,r5_14,r5_15,r5_16,r5_17,r5_18,r5_19,r5_11,r5_20,r5_21,r5_22,r5_23,p5,l5_2,gT,gI,g0,hpi,hp,hii,hi0,hwj,List.length_map]) | (exfalso; omega)
            all_goals first | omega | exact again hJ2 (j + 1) (weak_mk (by simp only [Wp,Wq,wk1,Wr,Ws,Wt,Z4,Z5,Z6,Z7,Z8,Z9,Za,Zb,Zc,Zd,Ze,Zf,List.cons.injEq,Zg,Zh,Zi,Zj,Zk,Zl,Zm,Zn,Zo,Zp,beq_self_eq_true,bne_self_eq_false,decide_true,decide_false,Zq,Zr,Zs,Zt,Zu,Zv,Zw,Zx,Zy,Zz,Y0,hv,Yt,ev,Yu,Yv,Yw,Yx,Yy,Yz,X0,X1,X2,X3,X4,X5,X6,X7,X8,X9,Xa,Xb,Xc,Xd,Xe,Xf,Xg,Xh,Xi,Xj,Xk,Xl,Xm,Xn,Xo,Xp,Xq,Value.oneCell',Xr,Xs,Xt,Xu,true_and,and_true,and_self,implies_true,Xv,Xw,Xx,Xy,false_implies,Xz,W0,W1,W2,W3,W4,W5,W6,W7,W8,W9,Wa,Wb,Wc,Wd,We,Wf,reduceCtorEq,if_true,if_false,Wg,↓reduceIte,Wh,Wi,Wj,Wk,Wl,Wm,ne_eq,not_false_eq_true,not_true_eq_false,Wn,Nat.zero_ne_one]; first | done | exact hF.symm)) (by omega) (by omega)
        have hje : j = T.length := by omega
        subst hje
        rw [List.take_length]
        clear hJ2
        generalize foundP O S p T = fd at *
        cases al with
        | true =>
          rw [Bool.true_and] at hAl
          repeat' first | ((with_reducible (first | refine condD ?_ ?_ | refine condE ?_ ?_ | refine condN ?_ ?_ | refine condI ?_ ?_ | refine condS ?_ ?_)) <;> intro h) | ((with_reducible (first | refine guardD (by with_unfolding_all rfl) ?_ ?_ | refine guardE (by with_unfolding_all rfl) ?_ ?_ | refine guardN (by with_unfolding_all rfl) ?_ ?_ | refine guardI (by with_unfolding_all rfl) ?_ ?_ | refine guardS (by with_unfolding_all rfl) ?_ ?_)) <;> intro h) | (with_reducible refine And.intro ?_ ?_; omega) | (simp only [Z0,Z1,Z2,Z3,Z4,Z5,Z6,Z7,Z8,Z9,Za,Zb,Zc,Zd,Ze,Zf,List.cons.injEq,Zg,Zh,Zi,Zj,Zk,Zl,Zm,Zn,Zo,Zp,beq_self_eq_true,bne_self_eq_false,decide_true,decide_false,Zq,Zr,Zs,Zt,Zu,Zv,Zw,Zx,Zy,Zz,Y0,Y1,Y2,Y3,Y4,Y5,Y6,Y7,Y8,Y9,Ya,Yb,Yc,Yd,Ye,Yf,Yg,Yh,lk,ef,Yi,Yj,Yk,Yl,Ym,Yn,Yo,Yp,Yq,Yr,Ys,hv,Yt,ev,Yu,Yv,Yw,Yx,Yy,Yz,X0,X1,X2,X3,X4,X5,X6,X7,X8,X9,Xa,Xb,Xc,Xd,Xe,Xf,Xg,Xh,Xi,Xj,Xk,Xl,Xm,Xn,Xo,Xp,Xq,Value.oneCell',Xr,Xs,Xt,Xu,true_and,and_true,and_self,implies_true,Xv,Xw,Xx,Xy,false_implies,Xz,W0,W1,W2,W3,W4,W5,W6,W7,W8,W9,Wa,Wb,Wc,Wd,We,Wf,reduceCtorEq,if_true,if_false,Wg,↓reduceIte,Wh,Wi,Wj,Wk,Wl,Wm,ne_eq,not_false_eq_true,not_true_eq_false,Wn,Wo,r5_0,r5_1,r5_2,r5_3,r5_4,r5_5,r5_6,r5_7,r5_8,r5_9,r5_10,r5_12,r5_13,r5_14,r5_15,r5_16,r5_17,r5_18,r5_19,r5_11,r5_20,r5_21,r5_22,r5_23,p5,l5_2,hwi]) | (exfalso; omega)
          all_goals first | omega | exact again hJ1 (i + 1) (weak_mk (by simp only [Wp,Wq,wk1,Wr,Ws,Wt,Z4,Z5,Z6,Z7,Z8,Z9,Za,Zb,Zc,Zd,Ze,Zf,List.cons.injEq,Zg,Zh,Zi,Zj,Zk,Zl,Zm,Zn,Zo,Zp,beq_self_eq_true,bne_self_eq_false,decide_true,decide_false,Zq,Zr,Zs,Zt,Zu,Zv,Zw,Zx,Zy,Zz,Y0,hv,Yt,ev,Yu,Yv,Yw,Yx,Yy,Yz,X0,X1,X2,X3,X4,X5,X6,X7,X8,X9,Xa,Xb,Xc,Xd,Xe,Xf,Xg,Xh,Xi,Xj,Xk,Xl,Xm,Xn,Xo,Xp,Xq,Value.oneCell',Xr,Xs,Xt,Xu,true_and,and_true,and_self,implies_true,Xv,Xw,Xx,Xy,false_implies,Xz,W0,W1,W2,W3,W4,W5,W6,W7,W8,W9,Wa,Wb,Wc,Wd,We,Wf,reduceCtorEq,if_true,if_false,Wg,↓reduceIte,Wh,Wi,Wj,Wk,Wl,Wm,ne_eq,not_false_eq_true,not_true_eq_false,Wn,Nat.zero_ne_one]; first | done | exact hAl.symm)) ⟨by omega, by omega⟩ (by omega)
        | false =>
          rw [Bool.false_and] at hAl
          repeat' first | ((with_reducible (first | refine condD ?_ ?_ | refine condE ?_ ?_ | refine condN ?_ ?_ | refine condI ?_ ?_ | refine condS ?_ ?_)) <;> intro h) | ((with_reducible (first | refine guardD (by with_unfolding_all rfl) ?_ ?_ | refine guardE (by with_unfolding_all rfl) ?_ ?_ | refine guardN (by with_unfolding_all rfl) ?_ ?_ | refine guardI (by with_unfolding_all rfl) ?_ ?_ | refine guardS (by with_unfolding_all rfl) ?_ ?_)) <;> intro h) | (with_reducible refine And.intro ?_ ?_; omega) | (simp only [Z0,Z1,Z2,Z3,Z4,Z5,Z6,Z7,Z8,Z9,Za,Zb,Zc,Zd,Ze,Zf,List.cons.injEq,Zg,Zh,Zi,Zj,Zk,Zl,Zm,Zn,Zo,Zp,beq_self_eq_true,bne_self_eq_false,decide_true,decide_false,Zq,Zr,Zs,Zt,Zu,Zv,Zw,Zx,Zy,Zz,Y0,Y1,Y2,Y3,Y4,Y5,Y6,Y7,Y8,Y9,Ya,Yb,Yc,Yd,Ye,Yf,Yg,Yh,lk,ef,Yi,Yj,Yk,Yl,Ym,Yn,Yo,Yp,Yq,Yr,Ys,hv,Yt,ev,Yu,Yv,Yw,Yx,Yy,Yz,X0,X1,X2,X3,X4,X5,X6,X7,X8,X9,Xa,Xb,Xc,Xd,Xe,Xf,Xg,Xh,Xi,Xj,Xk,Xl,Xm,Xn,Xo,Xp,Xq,Value.oneCell',Xr,Xs,Xt,Xu,true_and,and_true,and_self,implies_true,Xv,Xw,Xx,Xy,false_implies,Xz,W0,W1,W2,W3,W4,W5,W6,W7,W8,W9,Wa,Wb,Wc,Wd,We,Wf,reduceCtorEq,if_true,if_false,Wg,↓reduceIte,Wh,Wi,Wj,Wk,Wl,Wm,ne_eq,not_false_eq_true,not_true_eq_false,Wn,Wo,r5_0,r5_1,r5_2,r5_3,r5_4,r5_5,r5_6,r5_7,r5_8,r5_9,r5_10,r5_12,r5_13,r5_14,r5_15,r5_16,r5_17,r5_18,r5_19,r5_11,r5_20,r5_21,r5_22,r5_23,p5,l5_2,hwi]) | (exfalso; omega)
          all_goals first | omega | exact again hJ1 (i + 1) (weak_mk (by simp only [Wp,Wq,wk1,Wr,Ws,Wt,Z4,Z5,Z6,Z7,Z8,Z9,Za,Zb,Zc,Zd,Ze,Zf,List.cons.injEq,Zg,Zh,Zi,Zj,Zk,Zl,Zm,Zn,Zo,Zp,beq_self_eq_true,bne_self_eq_false,decide_true,decide_false,Zq,Zr,Zs,Zt,Zu,Zv,Zw,Zx,Zy,Zz,Y0,hv,Yt,ev,Yu,Yv,Yw,Yx,Yy,Yz,X0,X1,X2,X3,X4,X5,X6,X7,X8,X9,Xa,Xb,Xc,Xd,Xe,Xf,Xg,Xh,Xi,Xj,Xk,Xl,Xm,Xn,Xo,Xp,Xq,Value.oneCell',Xr,Xs,Xt,Xu,true_and,and_true,and_self,implies_true,Xv,Xw,Xx,Xy,false_implies,Xz,W0,W1,W2,W3,W4,W5,W6,W7,W8,W9,Wa,Wb,Wc,Wd,We,Wf,reduceCtorEq,if_true,if_false,Wg,↓reduceIte,Wh,Wi,Wj,Wk,Wl,Wm,ne_eq,not_false_eq_true,not_true_eq_false,Wn,Nat.zero_ne_one]; first | done | exact hAl.symm)) ⟨by omega, by omega⟩ (by omega)
    have hie : i = l.length := by omega
    subst hie
    rw [List.take_length]
    clear hJ1
    rw [show allP S p (l.drop 1) = (l.drop 1).all (commG S p) from rfl] at hft
    cases hal : (l.drop 1).all (commG S p) with
    | true =>
      rw [hal, if_pos rfl] at hft
      have happ : ((P.take k).filter fun t => allP S t (l.drop 1)).map oneI ++ [[.val (.int .i64 p)]] = ((P.take (k + 1)).filter fun t => allP S t (l.drop 1)).map oneI := by rw [hft, List.map_append]; rfl
      repeat' first | ((with_reducible (first | refine condD ?_ ?_ | refine condE ?_ ?_ | refine condN ?_ ?_ | refine condI ?_ ?_ | refine condS ?_ ?_)) <;> intro h) | ((with_reducible (first | refine guardD (by with_unfolding_all rfl) ?_ ?_ | refine guardE (by with_unfolding_all rfl) ?_ ?_ | refine guardN (by with_unfolding_all rfl) ?_ ?_ | refine guardI (by with_unfolding_all rfl) ?_ ?_ | refine guardS (by with_unfolding_all rfl) ?_ ?_)) <;> intro h) | (with_reducible refine And.intro ?_ ?_; omega) | (simp only [Z0,Z1,Z2,Z3,Z4,Z5,Z6,Z7,Z8,Z9,Za,Zb,Zc,Zd,Ze,Zf,List.cons.injEq,Zg,Zh,Zi,Zj,Zk,Zl,Zm,Zn,Zo,Zp,beq_self_eq_true,bne_self_eq_false,decide_true,decide_false,Zq,Zr,Zs,Zt,Zu,Zv,Zw,Zx,Zy,Zz,Y0,Y1,Y2,Y3,Y4,Y5,Y6,Y7,Y8,Y9,Ya,Yb,Yc,Yd,Ye,Yf,Yg,Yh,lk,ef,Yi,Yj,Yk,Yl,Ym,Yn,Yo,Yp,Yq,Yr,Ys,hv,Yt,ev,Yu,Yv,Yw,Yx,Yy,Yz,X0,X1,X2,X3,X4,X5,X6,X7,X8,X9,Xa,Xb,Xc,Xd,Xe,Xf,Xg,Xh,Xi,Xj,Xk,Xl,Xm,Xn,Xo,Xp,Xq,Value.oneCell',Xr,Xs,Xt,Xu,true_and,and_true,and_self,implies_true,Xv,Xw,Xx,Xy,false_implies,Xz,W0,W1,W2,W3,W4,W5,W6,W7,W8,W9,Wa,Wb,Wc,Wd,We,Wf,reduceCtorEq,if_true,if_false,Wg,↓reduceIte,Wh,Wi,Wj,Wk,Wl,Wm,ne_eq,not_false_eq_true,not_true_eq_false,Wn,Wo,r5_0,r5_1,r5_2,r5_3,r5_4,r5_5,r5_6,r5_7,r5_8,r5_9,r5_10,r5_12,r5_13,r5_14,r5_15,r5_16,r5_17,r5_18,r5_19,r5_11,r5_20,r5_21,r5_22,r5_23,p5,l5_1,happ,hw,List.length_map]) | (exfalso; omega)
      all_goals first | omega | exact again hJ (k + 1) (weak_mk (by simp only [Wp,Wq,wk1,Wr,Ws,Wt,Z4,Z5,Z6,Z7,Z8,Z9,Za,Zb,Zc,Zd,Ze,Zf,List.cons.injEq,Zg,Zh,Zi,Zj,Zk,Zl,Zm,Zn,Zo,Zp,beq_self_eq_true,bne_self_eq_false,decide_true,decide_false,Zq,Zr,Zs,Zt,Zu,Zv,Zw,Zx,Zy,Zz,Y0,hv,Yt,ev,Yu,Yv,Yw,Yx,Yy,Yz,X0,X1,X2,X3,X4,X5,X6,X7,X8,X9,Xa,Xb,Xc,Xd,Xe,Xf,Xg,Xh,Xi,Xj,Xk,Xl,Xm,Xn,Xo,Xp,Xq,Value.oneCell',Xr,Xs,Xt,Xu,true_and,and_true,and_self,implies_true,Xv,Xw,Xx,Xy,false_implies,Xz,W0,W1,W2,W3,W4,W5,W6,W7,W8,W9,Wa,Wb,Wc,Wd,We,Wf,reduceCtorEq,if_true,if_false,Wg,↓reduceIte,Wh,Wi,Wj,Wk,Wl,Wm,ne_eq,not_false_eq_true,not_true_eq_false,Wn,Nat.zero_ne_one])) (by omega) (by omega)
    | false =>
      rw [hal, if_neg (by simp), List.append_nil] at hft
      repeat' first | ((with_reducible (first | refine condD ?_ ?_ | refine condE ?_ ?_ | refine condN ?_ ?_ | refine condI ?_ ?_ | refine condS ?_ ?_)) <;> intro h) | ((with_reducible (first | refine guardD (by with_unfolding_all rfl) ?_ ?_ | refine guardE (by with_unfolding_all rfl) ?_ ?_ | refine guardN (by with_unfolding_all rfl) ?_ ?_ | refine guardI (by with_unfolding_all rfl) ?_ ?_ | refine guardS (by with_unfolding_all rfl) ?_ ?_)) <;> intro h) | (with_reducible refine And.intro ?_ ?_; omega) | (simp only [Z0,Z1,Z2,Z3,Z4,Z5,Z6,Z7,Z8,Z9,Za,Zb,Zc,Zd,Ze,Zf,List.cons.injEq,Zg,Zh,Zi,Zj,Zk,Zl,Zm,Zn,Zo,Zp,beq_self_eq_true,bne_self_eq_false,decide_true,decide_false,Zq,Zr,Zs,Zt,Zu,Zv,Zw,Zx,Zy,Zz,Y0,Y1,Y2,Y3,Y4,Y5,Y6,Y7,Y8,Y9,Ya,Yb,Yc,Yd,Ye,Yf,Yg,Yh,lk,ef,Yi,Yj,Yk,Yl,Ym,Yn,Yo,Yp,Yq,Yr,Ys,hv,Yt,ev,Yu,Yv,Yw,Yx,Yy,Yz,X0,X1,X2,X3,X4,X5,X6,X7,X8,X9,Xa,Xb,Xc,Xd,Xe,Xf,Xg,Xh,Xi,Xj,Xk,Xl,Xm,Xn,Xo,Xp,Xq,Value.oneCell',Xr,Xs,Xt,Xu,true_and,and_true,and_self,implies_true,Xv,Xw,Xx,Xy,false_implies,Xz,W0,W1,W2,W3,W4,W5,W6,W7,W8,W9,Wa,Wb,Wc,Wd,We,Wf,reduceCtorEq,if_true,if_false,Wg,↓reduceIte,Wh,Wi,Wj,Wk,Wl,Wm,ne_eq,not_false_eq_true,not_true_eq_false,Wn,Wo,r5_0,r5_1,r5_2,r5_3,r5_4,r5_5,r5_6,r5_7,r5_8,r5_9,r5_10,r5_12,r5_13,r5_14,r5_15,r5_16,r5_17,r5_18,r5_19,r5_11,r5_20,r5_21,r5_22,r5_23,p5,l5_1,hw]) | (exfalso; omega)
      all_goals first | omega | exact again hJ (k + 1) (weak_mk (by simp only [Wp,Wq,wk1,Wr,Ws,Wt,Z4,Z5,Z6,Z7,Z8,Z9,Za,Zb,Zc,Zd,Ze,Zf,List.cons.injEq,Zg,Zh,Zi,Zj,Zk,Zl,Zm,Zn,Zo,Zp,beq_self_eq_true,bne_self_eq_false,decide_true,decide_false,Zq,Zr,Zs,Zt,Zu,Zv,Zw,Zx,Zy,Zz,Y0,hv,Yt,ev,Yu,Yv,Yw,Yx,Yy,Yz,X0,X1,X2,X3,X4,X5,X6,X7,X8,X9,Xa,Xb,Xc,Xd,Xe,Xf,Xg,Xh,Xi,Xj,Xk,Xl,Xm,Xn,Xo,Xp,Xq,Value.oneCell',Xr,Xs,Xt,Xu,true_and,and_true,and_self,implies_true,Xv,Xw,Xx,Xy,false_implies,Xz,W0,W1,W2,W3,W4,W5,W6,W7,W8,W9,Wa,Wb,Wc,Wd,We,Wf,reduceCtorEq,if_true,if_false,Wg,↓reduceIte,Wh,Wi,Wj,Wk,Wl,Wm,ne_eq,not_false_eq_true,not_true_eq_false,Wn,Nat.zero_ne_one]; first | done | rw [hft])) (by omega) (by omega)
  have hke : k = P.length := by omega
  subst hke
  rw [List.take_length]
  clear hJ
  repeat' first | ((with_reducible (first | refine condD ?_ ?_ | refine condE ?_ ?_ | refine condN ?_ ?_ | refine condI ?_ ?_ | refine condS ?_ ?_)) <;> intro h) | ((with_reducible (first | refine guardD (by with_unfolding_all rfl) ?_ ?_ | refine guardE (by with_unfolding_all rfl) ?_ ?_ | refine guardN (by with_unfolding_all rfl) ?_ ?_ | refine guardI (by with_unfolding_all rfl) ?_ ?_ | refine guardS (by with_unfolding_all rfl) ?_ ?_)) <;> intro h) | (with_reducible refine And.intro ?_ ?_; omega) | (simp only [Z0,Z1,Z2,Z3,Z4,Z5,Z6,Z7,Z8,Z9,Za,Zb,Zc,Zd,Ze,Zf,List.cons.injEq,Zg,Zh,Zi,Zj,Zk,Zl,Zm,Zn,Zo,Zp,beq_self_eq_true,bne_self_eq_false,decide_true,decide_false,Zq,Zr,Zs,Zt,Zu,Zv,Zw,Zx,Zy,Zz,Y0,Y1,Y2,Y3,Y4,Y5,Y6,Y7,Y8,Y9,Ya,Yb,Yc,Yd,Ye,Yf,Yg,Yh,lk,ef,Yi,Yj,Yk,Yl,Ym,Yn,Yo,Yp,Yq,Yr,Ys,hv,Yt,ev,Yu,Yv,Yw,Yx,Yy,Yz,X0,X1,X2,X3,X4,X5,X6,X7,X8,X9,Xa,Xb,Xc,Xd,Xe,Xf,Xg,Xh,Xi,Xj,Xk,Xl,Xm,Xn,Xo,Xp,Xq,Value.oneCell',Xr,Xs,Xt,Xu,true_and,and_true,and_self,implies_true,Xv,Xw,Xx,Xy,false_implies,Xz,W0,W1,W2,W3,W4,W5,W6,W7,W8,W9,Wa,Wb,Wc,Wd,We,Wf,reduceCtorEq,if_true,if_false,Wg,↓reduceIte,Wh,Wi,Wj,Wk,Wl,Wm,ne_eq,not_false_eq_true,not_true_eq_false,Wn,Wo,r5_0,r5_1,r5_2,r5_3,r5_4,r5_5,r5_6,r5_7,r5_8,r5_9,r5_10,r5_12,r5_13,r5_14,r5_15,r5_16,r5_17,r5_18,r5_19,r5_11,r5_20,r5_21,r5_22,r5_23,p5,l5_0]) | (exfalso; omega)
end Go.Proofs.YtjeemcpdmiajmaaGreatDoor
/- CutPlacesMatchSpec: CheckRenditions, Places and Common are as specified, with all errors. For every input; no condition beyond the card's tied tables. -/
namespace Go.Proofs.YtjeemcpdmiajmaaGreatDoor
open Go.RowKit
open Go.Proofs.YtjeemcpdmiajmaaGreatDoor renaming done_eq → Z0, done_eq' → Z1, donet_eq → Z2, donet_eq' → Z3, fin_val → Z4, fin_tup → Z5, fin_agg → Z6, fin_ro → Z7, res_one → Z8, res_more → Z9, rv_t → Za, rv_c → Zb, rv_l → Zc, int_eq → Zg, bool_eq → Zh, toNat_pred → Zr, toNat_succ → Zs, cnd_t → Zu, cnd_f → Zv, grd_tt → Zw, grd_u → Zx, grd_tf → Zy, grd_ft → Zz, grd_ff → Y0, g_skip → Y1, g_block → Y2, g_exit → Y3, g_cond → Y4, o_guard → Y5, o_call → Y6, o_pick → Y7, o_loads → Y8, eqAV → Y9, view_t → Ya, view_c → Yb, view_nil → Yc, view_fn → Yd, look_own → Ye, look_box → Yf, look_junk → Yg, look_val → Yh, look_nilsl → Yi, look_ro → Yj, look_roAt → Yk, look_agg → Yl, look_tup → Ym, look_clo → Yn, look_alias → Yo, look_ref → Yp, look_into → Yq, rowOf → Yr, cellsOf → Ys, argv → Yt, vbin → Yu, elemOf → Yv, putParts → Yw, setAt → Yx, put_at → X4, mk_at → X5, mk_nil → X6, initSt → X7
open Go.Proofs.YtjeemcpdmiajmaaGreatDoor.AV.tup renaming injEq → Zd
open Go.Proofs.YtjeemcpdmiajmaaGreatDoor.AV.agg renaming injEq → Ze
open Go.Proofs.YtjeemcpdmiajmaaGreatDoor.AV.ro renaming injEq → Zf
open _root_.Int renaming toNat_natCast → Zi, reduceToNat → Zj, toNat_zero → Zk, toNat_one → Zl, reduceLE → Zm, reduceLT → Zn, reduceBEq → Zo, reduceBNe → Zp, reduceNeg → Zq
open _root_.List renaming length_map → Zt, map_cons → X8, map_nil → X9, forall_mem_cons → Xa, not_mem_nil → Xb, length_cons → Xc, length_nil → Xd, getD_cons_zero → Xe, getD_cons_succ → Xf, getD_nil → Xg, drop_succ_cons → Xh, drop_zero → Xi, take_succ_cons → Xj, take_zero → Xk, set_cons_zero → Xl, set_cons_succ → Xm, all_cons → Xn, all_nil → Xo
open Go.Proofs.YtjeemcpdmiajmaaGreatDoor.ASt renaming rid → Yy, free → Yz
open Go.Proofs.YtjeemcpdmiajmaaGreatDoor.AV renaming kill → X0, isHome → X1, noLoan → X2, cellOK → X3
open _root_.Bool renaming and_true → Xp, true_and → Xq, not_true → Xr, not_false → Xs, false_eq_true → Xt
open _root_.Nat renaming reduceEqDiff → Xu, reduceAdd → Xv, reduceSub → Xw, reduceMul → Xx, reduceLeDiff → Xy, reduceLT → Xz, one_ne_zero → W0, zero_ne_one → W1
open Go.Proofs.YtjeemcpdmiajmaaGreatDoor.AV.val renaming injEq → W2
set_option linter.unusedSimpArgs false

theorem all_smpC (x : List AV) (h : HasAll [.int .i64, .int .i64, .int .i64, .int .i64, .bool] x) : ∃ s : Smp, x = s.av ∧ True := by
  obtain ⟨v0, r, rfl, h0, h⟩ := all_cons h
  obtain ⟨v1, r, rfl, h1, h⟩ := all_cons h
  obtain ⟨v2, r, rfl, h2, h⟩ := all_cons h
  obtain ⟨v3, r, rfl, h3, h⟩ := all_cons h
  obtain ⟨v4, r, rfl, h4, h⟩ := all_cons h
  obtain rfl := all_nil h
  obtain ⟨n0, rfl, _⟩ := has_int h0
  obtain ⟨n1, rfl, _⟩ := has_int h1
  obtain ⟨n2, rfl, _⟩ := has_int h2
  obtain ⟨n3, rfl, _⟩ := has_int h3
  obtain ⟨n4, rfl⟩ := has_bool h4
  exact ⟨⟨n0, n1, n2, n3, n4⟩, rfl, trivial⟩
theorem all_strC (x : List AV) (h : HasAll [.str, .int .i64, .bool, .row [.int .i64, .int .i64, .int .i64, .int .i64, .bool]] x) : ∃ s : Str, x = s.av ∧ NmOK s := by
  obtain ⟨v0, r, rfl, h0, h⟩ := all_cons h
  obtain ⟨v1, r, rfl, h1, h⟩ := all_cons h
  obtain ⟨v2, r, rfl, h2, h⟩ := all_cons h
  obtain ⟨v3, r, rfl, h3, h⟩ := all_cons h
  obtain rfl := all_nil h
  obtain ⟨n0, rfl, hz0⟩ := has_str h0
  obtain ⟨n1, rfl, _⟩ := has_int h1
  obtain ⟨k, rfl⟩ := has_bool h2
  obtain ⟨l, rfl, hl, _⟩ := has_row h3 all_smpC
  exact ⟨⟨n0, n1, k, l⟩, rfl, Nat.le_trans hz0 (by decide)⟩
theorem commonF_len (l : List Str) : (commonF l).1.length ≤ 5000 := by
  unfold commonF
  split
  · simp
  · rw [List.length_map]
    exact Nat.le_trans leftGo_len (placesL_len _)
theorem placesF_len (r : Str) : (placesF r).1.length ≤ 5000 := by
  unfold placesF
  split
  · simp
  · rw [List.length_map]
    exact placesL_len _
/-! headend/headendlaw4.CutPlacesMatchSpec -/
def r3_0 : List POp := [⟨2, .asg (.c (.bool false)), none⟩]
def r3_1 : List POp := [⟨13, .mv (.t 0), none⟩,
  ⟨14, .call 4 [.t 13], none⟩,
  ⟨12, .mv (.t 14), none⟩,
  ⟨15, .ext 0 (.t 12), none⟩,
  ⟨16, .ext 1 (.t 12), none⟩,
  ⟨3, .asg (.t 15), none⟩,
  ⟨4, .mv (.t 16), none⟩]
def r3_2 : List POp := [⟨18, .mv (.t 0), none⟩,
  ⟨19, .call 5 [.t 18], none⟩,
  ⟨17, .mv (.t 19), none⟩,
  ⟨20, .ext 0 (.t 17), none⟩,
  ⟨21, .ext 1 (.t 17), none⟩,
  ⟨5, .asg (.t 20), none⟩,
  ⟨6, .mv (.t 21), none⟩]
def r3_3 : List POp := [⟨22, .mv (.t 0), none⟩,
  ⟨23, .call 6 [.t 22], none⟩,
  ⟨24, .mv (.t 0), none⟩,
  ⟨25, .call 7 [.t 24], none⟩,
  ⟨26, .bin .neq (.t 23) (.t 25), none⟩,
  ⟨27, .mv (.t 26), none⟩,
  ⟨28, .mv (.t 3), some (27, false)⟩,
  ⟨29, .mv (.t 5), some (27, false)⟩,
  ⟨30, .call 8 [.t 28, .t 29], some (27, false)⟩,
  ⟨31, .un .not (.t 30), some (27, false)⟩,
  ⟨32, .pick (.t 27) (.c (.bool true)) (.t 31), none⟩,
  ⟨33, .mv (.t 32), none⟩,
  ⟨34, .mv (.t 4), some (33, false)⟩,
  ⟨35, .mv (.t 6), some (33, false)⟩,
  ⟨36, .bin .neq (.t 34) (.t 35), some (33, false)⟩,
  ⟨37, .pick (.t 33) (.c (.bool true)) (.t 36), none⟩]
def r3_4 : List POp := [⟨2, .asg (.c (.bool false)), none⟩]
def r3_5 : List POp := [⟨7, .asg (.c (.int .i64 0)), none⟩]
def r3_6 : List POp := [⟨38, .mv (.t 7), none⟩,
  ⟨39, .mv (.t 0), none⟩,
  ⟨40, .len (.t 39), none⟩,
  ⟨41, .bin .lss (.t 38) (.t 40), none⟩]
def r3_8 : List POp := [⟨45, .mv (.t 0), none⟩,
  ⟨46, .mv (.t 7), none⟩,
  ⟨47, .idx 4 (.t 45) (.t 46), none⟩,
  ⟨48, .loads 4 (.t 47), none⟩,
  ⟨49, .call 9 [.t 48], none⟩,
  ⟨44, .mv (.t 49), none⟩,
  ⟨50, .ext 0 (.t 44), none⟩,
  ⟨51, .ext 1 (.t 44), none⟩,
  ⟨8, .asg (.t 50), none⟩,
  ⟨9, .mv (.t 51), none⟩]
def r3_9 : List POp := [⟨53, .mv (.t 0), none⟩,
  ⟨54, .mv (.t 7), none⟩,
  ⟨55, .idx 4 (.t 53) (.t 54), none⟩,
  ⟨56, .loads 4 (.t 55), none⟩,
  ⟨57, .call 10 [.t 56], none⟩,
  ⟨52, .mv (.t 57), none⟩,
  ⟨58, .ext 0 (.t 52), none⟩,
  ⟨59, .ext 1 (.t 52), none⟩,
  ⟨10, .asg (.t 58), none⟩,
  ⟨11, .mv (.t 59), none⟩]
def r3_10 : List POp := [⟨60, .mv (.t 8), none⟩,
  ⟨61, .mv (.t 10), none⟩,
  ⟨62, .call 8 [.t 60, .t 61], none⟩,
  ⟨63, .un .not (.t 62), none⟩,
  ⟨64, .mv (.t 63), none⟩,
  ⟨65, .mv (.t 9), some (64, false)⟩,
  ⟨66, .mv (.t 11), some (64, false)⟩,
  ⟨67, .bin .neq (.t 65) (.t 66), some (64, false)⟩,
  ⟨68, .pick (.t 64) (.c (.bool true)) (.t 67), none⟩]
def r3_11 : List POp := [⟨2, .asg (.c (.bool false)), none⟩]
def r3_7 : List POp := [⟨42, .mv (.t 7), none⟩,
  ⟨43, .bin .add (.t 42) (.c (.int .i64 1)), none⟩,
  ⟨7, .asg (.t 43), none⟩]
def r3_12 : List POp := [⟨69, .call 11 [], none⟩,
  ⟨2, .asg (.t 69), none⟩]
def l3_0 : PCode := .seq (.seq (.ops r3_6) (.cond (.t 41) (.skip) (.exit 0))) (.seq (.block 1 (.seq (.ops r3_8) (.seq (.ops r3_9) (.seq (.ops r3_10) (.cond (.t 68) (.seq (.ops r3_11) (.ret)) (.skip)))))) (.ops r3_7))
def p3 : PCode := .seq (.ops r3_0) (.seq (.ops r3_1) (.seq (.ops r3_2) (.seq (.seq (.ops r3_3) (.cond (.t 37) (.seq (.ops r3_4) (.ret)) (.skip))) (.seq (.seq (.ops r3_5) (.block 0 (.loop l3_0))) (.seq (.ops r3_12) (.ret))))))
theorem ok3 : okFunc Tryz.prog 3 [.t 2] 1 p3 = true := by kernel_rfl
set_option maxRecDepth 20000 in
set_option maxHeartbeats 2000000 in
theorem placesspec_d (l : List Str) (hl : l.length ≤ maxLen) (hnm : ∀ r ∈ l, NmOK r) : CallOK Tryz.prog 3 [.ro (l.map Str.av)] (.val (.bool true)) := by
  refine call_of mixed ok3 rfl ?_
  have hl9 : l.length ≤ 9223372036854775807 := Nat.le_trans hl (by decide)
  have a1 := common_c' l
  have b1 := rcommon_c l hnm
  have q1 := eqi_c (commonF l).1 (Nat.le_trans (commonF_len l) (by decide))
  have a2 := rend_c l
  have b2 := rrend_c l hnm
  have n : ∀ x : Int, (x != x) = false := fun x => by simp
  generalize commonF l = C at *
  generalize rendF l = e at *
  obtain ⟨C1, C2⟩ := C
  simp only at a1 b1 q1
  repeat' first | ((with_reducible (first | refine condD ?_ ?_ | refine condE ?_ ?_ | refine condN ?_ ?_ | refine condI ?_ ?_ | refine condS ?_ ?_)) <;> intro h) | ((with_reducible (first | refine guardD (by with_unfolding_all rfl) ?_ ?_ | refine guardE (by with_unfolding_all rfl) ?_ ?_ | refine guardN (by with_unfolding_all rfl) ?_ ?_ | refine guardI (by with_unfolding_all rfl) ?_ ?_ | refine guardS (by with_unfolding_all rfl) ?_ ?_)) <;> intro h) | ((refine callG a1 ?_)) | ((refine callG b1 ?_)) | ((refine callG q1 ?_)) | ((refine callG a2 ?_)) | ((refine callG b2 ?_)) | (with_reducible refine And.intro ?_ ?_; omega) | (simp only [Z0,Z1,Z2,Z3,Z4,Z5,Z6,Z7,Z8,Z9,Za,Zb,Zc,Zd,Ze,Zf,List.cons.injEq,Zg,Zh,Zi,Zj,Zk,Zl,Zm,Zn,Zo,Zp,beq_self_eq_true,bne_self_eq_false,decide_true,decide_false,Zq,Zr,Zs,Zt,Zu,Zv,Zw,Zx,Zy,Zz,Y0,Y1,g_ops,g_seq,Y2,Y3,g_ret,x_c,x_o,x_l,x_b,g_b,g_nil,r_all,o_nil,Y4,Y5,Y6,lk,ef,o_mv,Y7,o_bin,o_un,Y8,o_idx,o_len,o_ext,o_asg,hv,Y9,ev,Ya,Yb,Yc,Yd,Ye,Yf,Yg,Yh,Yi,Yj,Yk,Yl,Ym,Yn,Yo,Yp,Yq,Yr,Ys,Yt,Yu,vun,bnd,Yv,Yw,Yx,zav,Yy,Yz,X0,X1,X2,X3,Value.oneCell',X4,X5,X6,X7,true_and,and_true,and_self,implies_true,X8,X9,Xa,Xb,false_implies,Xc,Xd,Xe,Xf,Xg,Xh,Xi,Xj,Xk,Xl,Xm,Xn,Xo,Xp,Xq,Xr,Xs,reduceCtorEq,if_true,if_false,Xt,↓reduceIte,Xu,Xv,Xw,Xx,Xy,Xz,ne_eq,not_false_eq_true,not_true_eq_false,W0,W1,r3_0,r3_1,r3_2,r3_3,r3_4,r3_5,r3_6,r3_8,r3_9,r3_10,r3_11,r3_7,r3_12,p3,n,List.length_map]) | (exfalso; omega)
  refine loopS (fun i : Nat => mk [(0, .ro (l.map Str.av)), (7, .val (.int .i64 i))]) (fun i => i ≤ l.length) (fun i => l.length - i) 0 (weak_mk ?_) (Nat.zero_le _) ?_
  · simp only [wk_cons,wk_nil,wk1,vint_eq,vbool_eq,W2,Z4,Z5,Z6,Z7,Z8,Z9,Za,Zb,Zc,Zd,Ze,Zf,List.cons.injEq,Zg,Zh,Zi,Zj,Zk,Zl,Zm,Zn,Zo,Zp,beq_self_eq_true,bne_self_eq_false,decide_true,decide_false,Zq,Zr,Zs,Zt,Zu,Zv,Zw,Zx,Zy,Zz,Y0,hv,Y9,ev,Ya,Yb,Yc,Yd,Ye,Yf,Yg,Yh,Yi,Yj,Yk,Yl,Ym,Yn,Yo,Yp,Yq,Yr,Ys,Yt,Yu,vun,bnd,Yv,Yw,Yx,zav,Yy,Yz,X0,X1,X2,X3,Value.oneCell',X4,X5,X6,X7,true_and,and_true,and_self,implies_true,X8,X9,Xa,Xb,false_implies,Xc,Xd,Xe,Xf,Xg,Xh,Xi,Xj,Xk,Xl,Xm,Xn,Xo,Xp,Xq,Xr,Xs,reduceCtorEq,if_true,if_false,Xt,↓reduceIte,Xu,Xv,Xw,Xx,Xy,Xz,ne_eq,not_false_eq_true,not_true_eq_false,W0,Nat.zero_ne_one]
    all_goals first | done | rfl | simp
  rintro J hJ i hi
  simp only [Z0,Z1,Z2,Z3,Z4,Z5,Z6,Z7,Z8,Z9,Za,Zb,Zc,Zd,Ze,Zf,List.cons.injEq,Zg,Zh,Zi,Zj,Zk,Zl,Zm,Zn,Zo,Zp,beq_self_eq_true,bne_self_eq_false,decide_true,decide_false,Zq,Zr,Zs,Zt,Zu,Zv,Zw,Zx,Zy,Zz,Y0,Y1,g_ops,g_seq,Y2,Y3,g_ret,x_c,x_o,x_l,x_b,g_b,g_nil,r_all,o_nil,Y4,Y5,Y6,lk,ef,o_mv,Y7,o_bin,o_un,Y8,o_idx,o_len,o_ext,o_asg,hv,Y9,ev,Ya,Yb,Yc,Yd,Ye,Yf,Yg,Yh,Yi,Yj,Yk,Yl,Ym,Yn,Yo,Yp,Yq,Yr,Ys,Yt,Yu,vun,bnd,Yv,Yw,Yx,zav,Yy,Yz,X0,X1,X2,X3,Value.oneCell',X4,X5,X6,X7,true_and,and_true,and_self,implies_true,X8,X9,Xa,Xb,false_implies,Xc,Xd,Xe,Xf,Xg,Xh,Xi,Xj,Xk,Xl,Xm,Xn,Xo,Xp,Xq,Xr,Xs,reduceCtorEq,if_true,if_false,Xt,↓reduceIte,Xu,Xv,Xw,Xx,Xy,Xz,ne_eq,not_false_eq_true,not_true_eq_false,W0,W1,r3_0,r3_1,r3_2,r3_3,r3_4,r3_5,r3_6,r3_8,r3_9,r3_10,r3_11,r3_7,r3_12,p3,l3_0,List.length_map]
  refine condD (fun h => ?_) (fun h => ?_)
  · have hlt : i < l.length := by omega
    have hw := i_add1 i (by omega)
    have gI := getD_map (f := Str.av) (d := []) hlt
    have hii : (i : Int) < l.length := by omega
    have hi0 : (0 : Int) ≤ i := by omega
    have a3 := cplaces_c l[i]
    have b3 := rPlaces_c l[i] (hnm _ (List.getElem_mem hlt))
    have q3 := eqi_c (placesF l[i]).1 (Nat.le_trans (placesF_len _) (by decide))
    simp only [Str.av] at gI a3 b3
    generalize placesF l[i] = D at *
    obtain ⟨D1, D2⟩ := D
    simp only at a3 b3 q3
    repeat' first | ((with_reducible (first | refine condD ?_ ?_ | refine condE ?_ ?_ | refine condN ?_ ?_ | refine condI ?_ ?_ | refine condS ?_ ?_)) <;> intro h) | ((with_reducible (first | refine guardD (by with_unfolding_all rfl) ?_ ?_ | refine guardE (by with_unfolding_all rfl) ?_ ?_ | refine guardN (by with_unfolding_all rfl) ?_ ?_ | refine guardI (by with_unfolding_all rfl) ?_ ?_ | refine guardS (by with_unfolding_all rfl) ?_ ?_)) <;> intro h) | ((refine callG a3 ?_)) | ((refine callG b3 ?_)) | ((refine callG q3 ?_)) | (with_reducible refine And.intro ?_ ?_; omega) | (simp only [Z0,Z1,Z2,Z3,Z4,Z5,Z6,Z7,Z8,Z9,Za,Zb,Zc,Zd,Ze,Zf,List.cons.injEq,Zg,Zh,Zi,Zj,Zk,Zl,Zm,Zn,Zo,Zp,beq_self_eq_true,bne_self_eq_false,decide_true,decide_false,Zq,Zr,Zs,Zt,Zu,Zv,Zw,Zx,Zy,Zz,Y0,Y1,g_ops,g_seq,Y2,Y3,g_ret,x_c,x_o,x_l,x_b,g_b,g_nil,r_all,o_nil,Y4,Y5,Y6,lk,ef,o_mv,Y7,o_bin,o_un,Y8,o_idx,o_len,o_ext,o_asg,hv,Y9,ev,Ya,Yb,Yc,Yd,Ye,Yf,Yg,Yh,Yi,Yj,Yk,Yl,Ym,Yn,Yo,Yp,Yq,Yr,Ys,Yt,Yu,vun,bnd,Yv,Yw,Yx,zav,Yy,Yz,X0,X1,X2,X3,Value.oneCell',X4,X5,X6,X7,true_and,and_true,and_self,implies_true,X8,X9,Xa,Xb,false_implies,Xc,Xd,Xe,Xf,Xg,Xh,Xi,Xj,Xk,Xl,Xm,Xn,Xo,Xp,Xq,Xr,Xs,reduceCtorEq,if_true,if_false,Xt,↓reduceIte,Xu,Xv,Xw,Xx,Xy,Xz,ne_eq,not_false_eq_true,not_true_eq_false,W0,W1,r3_0,r3_1,r3_2,r3_3,r3_4,r3_5,r3_6,r3_8,r3_9,r3_10,r3_11,r3_7,r3_12,p3,l3_0,gI,n,hw,hii,hi0,List.length_map]) | (exfalso; omega)
    all_goals first | omega | exact again hJ (i + 1) (weak_mk (by simp only [wk_cons,wk_nil,wk1,vint_eq,vbool_eq,W2,Z4,Z5,Z6,Z7,Z8,Z9,Za,Zb,Zc,Zd,Ze,Zf,List.cons.injEq,Zg,Zh,Zi,Zj,Zk,Zl,Zm,Zn,Zo,Zp,beq_self_eq_true,bne_self_eq_false,decide_true,decide_false,Zq,Zr,Zs,Zt,Zu,Zv,Zw,Zx,Zy,Zz,Y0,hv,Y9,ev,Ya,Yb,Yc,Yd,Ye,Yf,Yg,Yh,Yi,Yj,Yk,Yl,Ym,Yn,Yo,Yp,Yq,Yr,Ys,Yt,Yu,vun,bnd,Yv,Yw,Yx,zav,Yy,Yz,X0,X1,X2,X3,Value.oneCell',X4,X5,X6,X7,true_and,and_true,and_self,implies_true,X8,X9,Xa,Xb,false_implies,Xc,Xd,Xe,Xf,Xg,Xh,Xi,Xj,Xk,Xl,Xm,Xn,Xo,Xp,Xq,Xr,Xs,reduceCtorEq,if_true,if_false,Xt,↓reduceIte,Xu,Xv,Xw,Xx,Xy,Xz,ne_eq,not_false_eq_true,not_true_eq_false,W0,Nat.zero_ne_one])) (by omega) (by omega)
  · clear hJ
    repeat' first | ((with_reducible (first | refine condD ?_ ?_ | refine condE ?_ ?_ | refine condN ?_ ?_ | refine condI ?_ ?_ | refine condS ?_ ?_)) <;> intro h) | ((with_reducible (first | refine guardD (by with_unfolding_all rfl) ?_ ?_ | refine guardE (by with_unfolding_all rfl) ?_ ?_ | refine guardN (by with_unfolding_all rfl) ?_ ?_ | refine guardI (by with_unfolding_all rfl) ?_ ?_ | refine guardS (by with_unfolding_all rfl) ?_ ?_)) <;> intro h) | ((refine callG awake_c ?_)) | (with_reducible refine And.intro ?_ ?_; omega) | (simp only [Z0,Z1,Z2,Z3,Z4,Z5,Z6,Z7,Z8,Z9,Za,Zb,Zc,Zd,Ze,Zf,List.cons.injEq,Zg,Zh,Zi,Zj,Zk,Zl,Zm,Zn,Zo,Zp,beq_self_eq_true,bne_self_eq_false,decide_true,decide_false,Zq,Zr,Zs,Zt,Zu,Zv,Zw,Zx,Zy,Zz,Y0,Y1,g_ops,g_seq,Y2,Y3,g_ret,x_c,x_o,x_l,x_b,g_b,g_nil,r_all,o_nil,Y4,Y5,Y6,lk,ef,o_mv,Y7,o_bin,o_un,Y8,o_idx,o_len,o_ext,o_asg,hv,Y9,ev,Ya,Yb,Yc,Yd,Ye,Yf,Yg,Yh,Yi,Yj,Yk,Yl,Ym,Yn,Yo,Yp,Yq,Yr,Ys,Yt,Yu,vun,bnd,Yv,Yw,Yx,zav,Yy,Yz,X0,X1,X2,X3,Value.oneCell',X4,X5,X6,X7,true_and,and_true,and_self,implies_true,X8,X9,Xa,Xb,false_implies,Xc,Xd,Xe,Xf,Xg,Xh,Xi,Xj,Xk,Xl,Xm,Xn,Xo,Xp,Xq,Xr,Xs,reduceCtorEq,if_true,if_false,Xt,↓reduceIte,Xu,Xv,Xw,Xx,Xy,Xz,ne_eq,not_false_eq_true,not_true_eq_false,W0,W1,r3_0,r3_1,r3_2,r3_3,r3_4,r3_5,r3_6,r3_8,r3_9,r3_10,r3_11,r3_7,r3_12,p3,l3_0]) | (exfalso; omega)
theorem placesspec_c : ∀ avs, HasArgs [.one (.row [.str, .int .i64, .bool, .row [.int .i64, .int .i64, .int .i64, .int .i64, .bool]])] avs → CallOK Tryz.prog 3 avs (.val (.bool true)) := by
  intro avs h
  obtain ⟨v0, r, rfl, h0, h⟩ := args_cons h
  obtain rfl := args_nil h
  obtain ⟨n0, rfl, hl0, hb0⟩ := has_row h0 all_strC
  exact placesspec_d n0 hl0 hb0

/-! ### The row -/
open Go.ChangeShapes Go.WideShapes Go.ChangeAt

set_option maxRecDepth 100000 in
theorem placesspec_door (os : Os) (args : Array Value) : laidMetH Tryz.prog Rows.cutPlacesMatchSpecRow.laid ((World.doorLaid Tryz.prog 400 os).forCall (fun _ _ => 0) ⟨#[], args, []⟩).memory :=
  laidMetH_of_parts3 (fuel := 8) (laidMet_of_run' 8 (by kernel_rfl) (by kernel_rfl)) (by kernel_rfl) (by kernel_rfl)
set_option maxRecDepth 100000 in
theorem placesspec_lifted (os : Os) (started : os.Started) (H : Type) (enc : TypeId × Value → H) :
    ReturnsInHanded {} Tryz.checked os 3 .any (fun w args => (Rows.cutPlacesMatchSpecSpec.pre enc Tryz.prog Tryz.f3 [] false w args ∧ laidMetH Tryz.prog Rows.cutPlacesMatchSpecRow.laid w) ∧ sizedMet enc Tryz.prog Tryz.f3 (OpenSpec.ofChange Rows.cutPlacesMatchSpecSpec) false w args) (Rows.cutPlacesMatchSpecSpec.post enc Tryz.prog Tryz.f3 false true false false) := by
  refine returnsInHanded_of_change_and (C := Tryz.checked) (X := fun w _ => laidMetH Tryz.prog Rows.cutPlacesMatchSpecRow.laid w) (fun _ _ _ hh h => h.of_heap hh) own_knob started (by kernel_rfl) Tryz.func3
    (ChangeSpec.witness_shaped (enc := enc) (C := Tryz.checked) (os := os) (X := fun w _ => laidMetH Tryz.prog Rows.cutPlacesMatchSpecRow.laid w) false (World.doorLaid Tryz.prog 400 os) #[.slice none 0 0] 8 rfl (World.shaped_of_RefB (by kernel_rfl) (by kernel_rfl)) (by kernel_rfl) (by kernel_rfl) (by kernel_rfl) (placesspec_door os _)) ?_
  intro W base args ds gs before hval hW _ _ hL _
  refine law_step rfl (by kernel_rfl) (fun ds h => ?_) ?_ hval hW ?_
  · match ds, h with | [a], _ => exact ⟨rfl, rfl, rfl⟩
  · rw [Tryz.params3]
    intro t ht
    simp only [List.mem_cons, List.not_mem_nil, or_false] at ht
    repeat' (first | (rcases ht with rfl | ht) | subst ht)
    all_goals exact ⟨by kernel_rfl, of_decide_eq_true (by kernel_rfl)⟩
  · rw [Tryz.params3]
    intro hin
    exact law_dmT (ss := [.one (.row [.str, .int .i64, .bool, .row [.int .i64, .int .i64, .int .i64, .int .i64, .bool]])]) (by kernel_rfl) hin (tab_of_laid 2 (by kernel_rfl) (by kernel_rfl) hL) placesspec_c
theorem placesspec_row : Rows.CutPlacesMatchSpecSaid :=
  OpenClaim.holds_of_wide 3 Tryz.f3 rfl rfl rfl rfl rfl rfl rfl ⟨rfl, rfl, rfl, rfl, rfl⟩ rfl rfl rfl rfl rfl (by kernel_rfl) Tryz.func3 (by kernel_rfl)
    (of_decide_eq_true (by kernel_rfl)) (by unfold Func.isWrapper; first | (rw [if_pos (by decide +kernel)]; kernel_rfl) | (rw [if_neg (by decide +kernel)]; exact ⟨rfl, rfl⟩))
    (fun os started H enc _ => placesspec_lifted os started H enc)

/-- The card: what the row lists is tied to the program's text. -/
theorem placesspec_holds : Rows.CutPlacesMatchSpecCardSaid :=
  Claim7.holds_tied_plain_at .later [] [.data, .data, .data, .sentinel, .sentinel] true (true, "41f9c870319f0a082ccc2fe2a94ed4b1facca277491494baf94c4cbca8f3d7b0") true
    placesspec_row (fun _ h => by cases h) (by kernel_rfl) (fun _ h => by cases h) cutPlacesMatchSpec_row_tie rfl ⟨rfl, rfl⟩ (by kernel_rfl) rfl
    (fun f fn hf hfn => by
      obtain rfl : f = 3 := Option.some.inj ((show Tryz.prog.funcNamed "headend/headendlaw4.CutPlacesMatchSpec" = some 3 by kernel_rfl).symm.trans hf) |>.symm
      obtain rfl : fn = Tryz.f3 := (Option.some.inj (Tryz.func3.symm.trans hfn)).symm
      exact ⟨by kernel_rfl, fun j t ht => by
        rw [Tryz.params3] at ht
        have hm := Array.mem_of_getElem? ht
        have hall : ([22].all fun u => !Tryz.prog.wantsStandIn u) = true := by kernel_rfl
        have hm : t ∈ [22] := by simpa using hm
        exact (show Tryz.prog.wantsStandIn t = false by simpa using List.all_eq_true.1 hall t hm)⟩)
    (by kernel_rfl)

end Go.Proofs.YtjeemcpdmiajmaaGreatDoor
