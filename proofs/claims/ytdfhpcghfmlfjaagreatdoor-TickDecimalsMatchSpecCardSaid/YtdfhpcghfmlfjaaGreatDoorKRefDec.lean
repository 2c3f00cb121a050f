/- The reference's decimals: headendref1's Turned, Decimal, by the machine on data. -/
import Derived.Test.YtdfhpcghfmlfjaaGreatDoorKRefDecP
import Derived.Test.YtdfhpcghfmlfjaaGreatDoorKSlc
namespace Go.Proofs.YtdfhpcghfmlfjaaGreatDoor
open Go.RowKit Go.Lib
open Go.Proofs.YtdfhpcghfmlfjaaGreatDoor renaming done_eq → Z0, done_eq' → Z1, donet_eq → Z2, donet_eq' → Z3, fin_val → Z4, fin_tup → Z5, fin_agg → Z6, fin_ro → Z7, res_one → Z8, res_more → Z9, rv_t → Za, rv_c → Zb, rv_l → Zc, int_eq → Zg, bool_eq → Zh, toNat_pred → Zr, toNat_succ → Zs, cnd_t → Zu, cnd_f → Zv, grd_tt → Zw, grd_u → Zx, grd_tf → Zy, grd_ft → Zz, grd_ff → Y0, g_skip → Y1, g_ops → Y2, g_seq → Y3, g_block → Y4, g_exit → Y5, g_ret → Y6, x_c → Y7, x_o → Y8, x_l → Y9, x_b → Ya, g_b → Yb, g_nil → Yc, r_all → Yd, o_nil → Ye, g_cond → Yf, o_guard → Yg, o_call → Yh, o_mv → Yi, o_pick → Yj, o_bin → Yk, o_un → Yl, o_len → Ym, o_lens → Yn, o_slcs → Yo, o_asg → Yp, eqAV → Yq, view_t → Yr, view_c → Ys, view_nil → Yt, view_fn → Yu, look_own → Yv, look_box → Yw, look_junk → Yx, look_val → Yy, look_nilsl → Yz, look_ro → X0, look_roAt → X1, look_agg → X2, look_tup → X3, look_clo → X4, look_alias → X5, look_ref → X6, look_into → X7, rowOf → X8, cellsOf → X9, argv → Xa, vbin → Xb, vun → Xc, bnd → Xd, elemOf → Xe, putParts → Xf, setAt → Xg, zav → Xh, put_at → Xo, mk_at → Xp, mk_nil → Xq, initSt → Xr, wk_cons → Wm, wk_nil → Wn, vint_eq → Wo, vbool_eq → Wp
open Go.Proofs.YtdfhpcghfmlfjaaGreatDoor.AV.tup renaming injEq → Zd
open Go.Proofs.YtdfhpcghfmlfjaaGreatDoor.AV.agg renaming injEq → Ze
open Go.Proofs.YtdfhpcghfmlfjaaGreatDoor.AV.ro renaming injEq → Zf
open _root_.Int renaming toNat_natCast → Zi, reduceToNat → Zj, toNat_zero → Zk, toNat_one → Zl, reduceLE → Zm, reduceLT → Zn, reduceBEq → Zo, reduceBNe → Zp, reduceNeg → Zq
open _root_.List renaming length_map → Zt, map_cons → Xs, map_nil → Xt, forall_mem_cons → Xu, not_mem_nil → Xv, length_cons → Xw, length_nil → Xx, getD_cons_zero → Xy, getD_cons_succ → Xz, getD_nil → W0, drop_succ_cons → W1, drop_zero → W2, take_succ_cons → W3, take_zero → W4, set_cons_zero → W5, set_cons_succ → W6, all_cons → W7, all_nil → W8
open Go.Proofs.YtdfhpcghfmlfjaaGreatDoor.ASt renaming rid → Xi, free → Xj
open Go.Proofs.YtdfhpcghfmlfjaaGreatDoor.AV renaming kill → Xk, isHome → Xl, noLoan → Xm, cellOK → Xn
open _root_.Bool renaming and_true → W9, true_and → Wa, not_true → Wb, not_false → Wc, false_eq_true → Wd
open _root_.Nat renaming reduceEqDiff → We, reduceAdd → Wf, reduceSub → Wg, reduceMul → Wh, reduceLeDiff → Wi, reduceLT → Wj, one_ne_zero → Wk, zero_ne_one → Wl
open Go.Proofs.YtdfhpcghfmlfjaaGreatDoor.AV.val renaming injEq → Wq
set_option linter.unusedSimpArgs false

theorem lm_s10 {n : Nat} (h : n < 10000 ^ 10) : (lm n).length ≤ 10 := lm_len h
/-! headend/headendref1.Turned -/
def r18_0 : List POp := [⟨6, .alloc [.bool false, .slice none 0 0, .slice none 0 0], none⟩]
def r18_1 : List POp := [⟨7, .mv (.t 0), none⟩,
  ⟨8, .call 36 [.t 7], none⟩,
  ⟨9, .mv (.t 2), none⟩,
  ⟨10, .call 36 [.t 9], none⟩,
  ⟨11, .call 35 [.t 8, .t 10], none⟩,
  ⟨12, .mv (.t 1), none⟩,
  ⟨13, .call 36 [.t 12], none⟩,
  ⟨14, .call 46 [.t 11, .t 13], none⟩,
  ⟨0, .stores 3 (.t 6) (.t 14), none⟩]
def p18 : PCode := .seq (.ops r18_0) (.seq (.ops r18_1) (.ret))
theorem ok18 : okFunc Tryz.prog 18 [.c 6 3] 3 p18 = true := by kernel_rfl
theorem turned_c (n : Int) (P S : Nat) (hn : n.natAbs ≤ 1000000000000000) (hP : P ≤ 1000000000) (h0 : 0 < S) (hS : S ≤ 1000000000) :
    CallOK Tryz.prog 18 [.val (.int .i64 n), .val (.int .i64 S), .val (.int .i64 P)] (.agg (RQ (n * (P : Int)) S)) := by
  refine call_of mixed ok18 rfl ?_
  have i1 := int_c n (by omega) (by omega)
  have i2 := int_c P (by omega) (by omega)
  have i3 := int_c S (by omega) (by omega)
  have l1 : (lm 1).length ≤ 400 := by rw [lm_1]; decide
  have hb : (n * (P : Int)).natAbs ≤ 1000000000000000 * 1000000000 := by rw [Int.natAbs_mul, Int.natAbs_natCast]; exact Nat.mul_le_mul hn hP
  have t1 := times_q n (P : Int) 1 1 (by decide) (by decide) (Nat.le_trans (lm_s10 (by omega)) (by decide)) l1 (Nat.le_trans (lm_s10 (by omega)) (by decide)) l1
  rw [Nat.mul_one] at t1
  have t2 := over_q (n * (P : Int)) S 1 1 (by decide) h0 (by decide) (Nat.le_trans (lm_s10 (by omega)) (by decide)) l1 (Nat.le_trans (lm_s10 (by omega)) (by decide)) l1
  rw [show n * (P : Int) * ((1 : Nat) : Int) = n * (P : Int) by omega, Nat.one_mul] at t2
  obtain ⟨u1, u2, u3, hR⟩ : ∃ u v w, RQ (n * (P : Int)) S = [u, v, w] := ⟨_, _, _, rfl⟩
  rw [hR] at t2 ⊢
  clear hR
  generalize RQ (n * (P : Int)) 1 = R3 at *
  generalize RQ n 1 = R1 at *
  generalize RQ (P : Int) 1 = R2 at *
  generalize RQ (S : Int) 1 = R5 at *
  repeat' first | ((with_reducible (first | refine condD ?_ ?_ | refine condE ?_ ?_ | refine condN ?_ ?_ | refine condI ?_ ?_ | refine condS ?_ ?_)) <;> intro h) | ((refine callG i1 ?_)) | ((refine callG i2 ?_)) | ((refine callG i3 ?_)) | ((refine callG t1 ?_)) | ((refine callG t2 ?_)) | (with_reducible refine And.intro ?_ ?_; omega) | (simp only [Z0,Z1,Z2,Z3,Z4,Z5,Z6,Z7,Z8,Z9,Za,Zb,Zc,Zd,Ze,Zf,List.cons.injEq,Zg,Zh,Zi,Zj,Zk,Zl,Zm,Zn,Zo,Zp,beq_self_eq_true,bne_self_eq_false,decide_true,decide_false,Zq,Zr,Zs,Zt,Zu,Zv,Zw,Zx,Zy,Zz,Y0,Y1,Y2,Y3,Y4,Y5,Y6,Y7,Y8,Y9,Ya,Yb,Yc,Yd,Ye,Yf,Yg,Yh,lk,ef,Yi,o_alloc,o_stores,hv,Yq,ev,Yr,Ys,Yt,Yu,Yv,Yw,Yx,Yy,Yz,X0,X1,X2,X3,X4,X5,X6,X7,X8,X9,Xa,Xb,Xc,Xd,Xe,Xf,Xg,Xh,Xi,Xj,Xk,Xl,Xm,Xn,Value.oneCell',Xo,Xp,Xq,Xr,true_and,and_true,and_self,implies_true,Xs,Xt,Xu,Xv,false_implies,Xw,Xx,Xy,Xz,W0,W1,W2,W3,W4,W5,W6,W7,W8,W9,Wa,Wb,Wc,reduceCtorEq,if_true,if_false,Wd,↓reduceIte,We,Wf,Wg,Wh,Wi,Wj,ne_eq,not_false_eq_true,not_true_eq_false,Wk,Wl,r18_0,r18_1,p18]) | (exfalso; omega)
/-! headend/headendref1.Decimal -/
def r5_0 : List POp := [⟨6, .asg (.c (.string ⟨#[]⟩)), none⟩,
  ⟨7, .asg (.c (.int .i64 0)), none⟩]
def r5_1 : List POp := [⟨12, .mv (.t 0), none⟩,
  ⟨13, .call 15 [.t 12], none⟩,
  ⟨14, .un .not (.t 13), none⟩,
  ⟨15, .mv (.t 14), none⟩,
  ⟨16, .mv (.t 1), some (15, false)⟩,
  ⟨17, .call 16 [.t 16], some (15, false)⟩,
  ⟨18, .un .not (.t 17), some (15, false)⟩,
  ⟨19, .pick (.t 15) (.c (.bool true)) (.t 18), none⟩,
  ⟨20, .mv (.t 19), none⟩,
  ⟨21, .mv (.t 2), some (20, false)⟩,
  ⟨22, .bin .lss (.t 21) (.c (.int .i64 0)), some (20, false)⟩,
  ⟨23, .pick (.t 20) (.c (.bool true)) (.t 22), none⟩,
  ⟨24, .mv (.t 23), none⟩,
  ⟨25, .mv (.t 2), some (24, false)⟩,
  ⟨26, .bin .gtr (.t 25) (.c (.int .i64 9)), some (24, false)⟩,
  ⟨27, .pick (.t 24) (.c (.bool true)) (.t 26), none⟩]
def r5_2 : List POp := [⟨6, .asg (.c (.string ⟨#[]⟩)), none⟩,
  ⟨7, .asg (.c (.int .i64 1)), none⟩]
def r5_3 : List POp := [⟨8, .asg (.c (.int .i64 1)), none⟩]
def r5_4 : List POp := [⟨9, .asg (.c (.int .i64 0)), none⟩]
def r5_5 : List POp := [⟨28, .mv (.t 9), none⟩,
  ⟨29, .mv (.t 2), none⟩,
  ⟨30, .bin .lss (.t 28) (.t 29), none⟩]
def r5_7 : List POp := [⟨33, .mv (.t 8), none⟩,
  ⟨34, .bin .mul (.t 33) (.c (.int .i64 10)), none⟩,
  ⟨8, .asg (.t 34), none⟩]
def r5_6 : List POp := [⟨31, .mv (.t 9), none⟩,
  ⟨32, .bin .add (.t 31) (.c (.int .i64 1)), none⟩,
  ⟨9, .asg (.t 32), none⟩]
def r5_8 : List POp := [⟨35, .mv (.t 0), none⟩,
  ⟨36, .mv (.t 1), none⟩,
  ⟨37, .mv (.t 8), none⟩,
  ⟨38, .call 18 [.t 35, .t 36, .t 37], none⟩,
  ⟨39, .call 17 [.t 38, .c (.int .i64 2)], none⟩,
  ⟨10, .asg (.t 39), none⟩]
def r5_9 : List POp := [⟨40, .mv (.t 10), none⟩,
  ⟨41, .call 19 [.t 40], none⟩,
  ⟨11, .asg (.t 41), none⟩]
def r5_10 : List POp := [⟨42, .mv (.t 11), none⟩,
  ⟨43, .lens (.t 42), none⟩,
  ⟨44, .mv (.t 2), none⟩,
  ⟨45, .bin .leq (.t 43) (.t 44), none⟩]
def r5_11 : List POp := [⟨46, .mv (.t 11), none⟩,
  ⟨47, .bin .add (.c (.string ⟨#[48]⟩)) (.t 46), none⟩,
  ⟨11, .asg (.t 47), none⟩]
def r5_12 : List POp := [⟨48, .mv (.t 2), none⟩,
  ⟨49, .bin .gtr (.t 48) (.c (.int .i64 0)), none⟩]
def r5_13 : List POp := [⟨50, .mv (.t 11), none⟩,
  ⟨51, .mv (.t 11), none⟩,
  ⟨52, .lens (.t 51), none⟩,
  ⟨53, .mv (.t 2), none⟩,
  ⟨54, .bin .sub (.t 52) (.t 53), none⟩,
  ⟨55, .slcs none (some (.t 54)) (.t 50), none⟩,
  ⟨56, .bin .add (.t 55) (.c (.string ⟨#[46]⟩)), none⟩,
  ⟨57, .mv (.t 11), none⟩,
  ⟨58, .mv (.t 11), none⟩,
  ⟨59, .lens (.t 58), none⟩,
  ⟨60, .mv (.t 2), none⟩,
  ⟨61, .bin .sub (.t 59) (.t 60), none⟩,
  ⟨62, .slcs (some (.t 61)) none (.t 57), none⟩,
  ⟨63, .bin .add (.t 56) (.t 62), none⟩,
  ⟨11, .asg (.t 63), none⟩]
def r5_14 : List POp := [⟨64, .mv (.t 0), none⟩,
  ⟨65, .bin .lss (.t 64) (.c (.int .i64 0)), none⟩,
  ⟨66, .mv (.t 65), none⟩,
  ⟨67, .mv (.t 10), some (66, true)⟩,
  ⟨68, .len (.t 67), some (66, true)⟩,
  ⟨69, .bin .gtr (.t 68) (.c (.int .i64 0)), some (66, true)⟩,
  ⟨70, .pick (.t 66) (.t 69) (.c (.bool false)), none⟩]
def r5_15 : List POp := [⟨71, .mv (.t 11), none⟩,
  ⟨72, .bin .add (.c (.string ⟨#[45]⟩)) (.t 71), none⟩,
  ⟨11, .asg (.t 72), none⟩]
def r5_16 : List POp := [⟨73, .mv (.t 11), none⟩,
  ⟨6, .asg (.t 73), none⟩,
  ⟨7, .asg (.c (.int .i64 0)), none⟩]
def l5_1 : PCode := .seq (.seq (.ops r5_10) (.cond (.t 45) (.skip) (.exit 2))) (.block 3 (.ops r5_11))
def l5_0 : PCode := .seq (.seq (.ops r5_5) (.cond (.t 30) (.skip) (.exit 0))) (.seq (.block 1 (.ops r5_7)) (.ops r5_6))
def p5 : PCode := .seq (.ops r5_0) (.seq (.seq (.ops r5_1) (.cond (.t 27) (.seq (.ops r5_2) (.ret)) (.skip))) (.seq (.ops r5_3) (.seq (.seq (.ops r5_4) (.block 0 (.loop l5_0))) (.seq (.ops r5_8) (.seq (.ops r5_9) (.seq (.block 2 (.loop l5_1)) (.seq (.seq (.ops r5_12) (.cond (.t 49) (.ops r5_13) (.skip))) (.seq (.seq (.ops r5_14) (.cond (.t 70) (.ops r5_15) (.skip))) (.seq (.ops r5_16) (.ret))))))))))
theorem ok5 : okFunc Tryz.prog 5 [.t 6, .t 7] 3 p5 = true := by kernel_rfl
set_option maxHeartbeats 4000000 in
set_option maxRecDepth 20000 in
theorem rdecimal_c (n sc more : Int) : CallOK Tryz.prog 5 [.val (.int .i64 n), .val (.int .i64 sc), .val (.int .i64 more)] (.tup [.val (.string (BS (decF n sc more).1)), .val (.int .i64 (decF n sc more).2)]) := by
  refine call_of mixed ok5 rfl ?_
  have c1 := istime_c n
  have c2 := isscale_c sc
  cases hb : decBad n sc more with
  | true =>
    rw [show decF n sc more = ([], 1) by simp [decF, hb]]
    by_cases b1 : noTime n = true
    · rw [b1] at c1
      repeat' first | ((with_reducible (first | refine condD ?_ ?_ | refine condE ?_ ?_ | refine condN ?_ ?_ | refine condI ?_ ?_ | refine condS ?_ ?_)) <;> intro h) | ((with_reducible (first | refine guardD (by with_unfolding_all rfl) ?_ ?_ | refine guardE (by with_unfolding_all rfl) ?_ ?_ | refine guardN (by with_unfolding_all rfl) ?_ ?_ | refine guardI (by with_unfolding_all rfl) ?_ ?_ | refine guardS (by with_unfolding_all rfl) ?_ ?_)) <;> intro h) | ((refine callG c1 ?_)) | (with_reducible refine And.intro ?_ ?_; omega) | (simp only [Z0,Z1,Z2,Z3,Z4,Z5,Z6,Z7,Z8,Z9,Za,Zb,Zc,Zd,Ze,Zf,List.cons.injEq,Zg,Zh,Zi,Zj,Zk,Zl,Zm,Zn,Zo,Zp,beq_self_eq_true,bne_self_eq_false,decide_true,decide_false,Zq,Zr,Zs,Zt,Zu,Zv,Zw,Zx,Zy,Zz,Y0,Y1,Y2,Y3,Y4,Y5,Y6,Y7,Y8,Y9,Ya,Yb,Yc,Yd,Ye,Yf,Yg,Yh,lk,ef,Yi,Yj,Yk,Yl,Ym,Yn,Yo,Yp,hv,Yq,ev,Yr,Ys,Yt,Yu,Yv,Yw,Yx,Yy,Yz,X0,X1,X2,X3,X4,X5,X6,X7,X8,X9,Xa,Xb,Xc,Xd,Xe,Xf,Xg,Xh,Xi,Xj,Xk,Xl,Xm,Xn,Value.oneCell',Xo,Xp,Xq,Xr,true_and,and_true,and_self,implies_true,Xs,Xt,Xu,Xv,false_implies,Xw,Xx,Xy,Xz,W0,W1,W2,W3,W4,W5,W6,W7,W8,W9,Wa,Wb,Wc,reduceCtorEq,if_true,if_false,Wd,↓reduceIte,We,Wf,Wg,Wh,Wi,Wj,ne_eq,not_false_eq_true,not_true_eq_false,Wk,Wl,r5_0,r5_1,r5_2,r5_3,r5_4,r5_5,r5_7,r5_6,r5_8,r5_9,r5_10,r5_11,r5_12,r5_13,r5_14,r5_15,r5_16,p5,BS_nil]) | (exfalso; omega)
    rw [Bool.not_eq_true] at b1
    rw [b1] at c1
    by_cases b2 : noScale sc = true
    · rw [b2] at c2
      repeat' first | ((with_reducible (first | refine condD ?_ ?_ | refine condE ?_ ?_ | refine condN ?_ ?_ | refine condI ?_ ?_ | refine condS ?_ ?_)) <;> intro h) | ((with_reducible (first | refine guardD (by with_unfolding_all rfl) ?_ ?_ | refine guardE (by with_unfolding_all rfl) ?_ ?_ | refine guardN (by with_unfolding_all rfl) ?_ ?_ | refine guardI (by with_unfolding_all rfl) ?_ ?_ | refine guardS (by with_unfolding_all rfl) ?_ ?_)) <;> intro h) | ((refine callG c1 ?_)) | ((refine callG c2 ?_)) | (with_reducible refine And.intro ?_ ?_; omega) | (simp only [Z0,Z1,Z2,Z3,Z4,Z5,Z6,Z7,Z8,Z9,Za,Zb,Zc,Zd,Ze,Zf,List.cons.injEq,Zg,Zh,Zi,Zj,Zk,Zl,Zm,Zn,Zo,Zp,beq_self_eq_true,bne_self_eq_false,decide_true,decide_false,Zq,Zr,Zs,Zt,Zu,Zv,Zw,Zx,Zy,Zz,Y0,Y1,Y2,Y3,Y4,Y5,Y6,Y7,Y8,Y9,Ya,Yb,Yc,Yd,Ye,Yf,Yg,Yh,lk,ef,Yi,Yj,Yk,Yl,Ym,Yn,Yo,Yp,hv,Yq,ev,Yr,Ys,Yt,Yu,Yv,Yw,Yx,Yy,Yz,X0,X1,X2,X3,X4,X5,X6,X7,X8,X9,Xa,Xb,Xc,Xd,Xe,Xf,Xg,Xh,Xi,Xj,Xk,Xl,Xm,Xn,Value.oneCell',Xo,Xp,Xq,Xr,true_and,and_true,and_self,implies_true,Xs,Xt,Xu,Xv,false_implies,Xw,Xx,Xy,Xz,W0,W1,W2,W3,W4,W5,W6,W7,W8,W9,Wa,Wb,Wc,reduceCtorEq,if_true,if_false,Wd,↓reduceIte,We,Wf,Wg,Wh,Wi,Wj,ne_eq,not_false_eq_true,not_true_eq_false,Wk,Wl,r5_0,r5_1,r5_2,r5_3,r5_4,r5_5,r5_7,r5_6,r5_8,r5_9,r5_10,r5_11,r5_12,r5_13,r5_14,r5_15,r5_16,p5,BS_nil]) | (exfalso; omega)
    rw [Bool.not_eq_true] at b2
    rw [b2] at c2
    have b3 : outB more 0 9 = true := by simpa [decBad, b1, b2] using hb
    have b4 := outB_t b3
    by_cases b5 : more < 0
    · repeat' first | ((with_reducible (first | refine condD ?_ ?_ | refine condE ?_ ?_ | refine condN ?_ ?_ | refine condI ?_ ?_ | refine condS ?_ ?_)) <;> intro h) | ((with_reducible (first | refine guardD (by with_unfolding_all rfl) ?_ ?_ | refine guardE (by with_unfolding_all rfl) ?_ ?_ | refine guardN (by with_unfolding_all rfl) ?_ ?_ | refine guardI (by with_unfolding_all rfl) ?_ ?_ | refine guardS (by with_unfolding_all rfl) ?_ ?_)) <;> intro h) | ((refine callG c1 ?_)) | ((refine callG c2 ?_)) | (with_reducible refine And.intro ?_ ?_; omega) | (simp only [Z0,Z1,Z2,Z3,Z4,Z5,Z6,Z7,Z8,Z9,Za,Zb,Zc,Zd,Ze,Zf,List.cons.injEq,Zg,Zh,Zi,Zj,Zk,Zl,Zm,Zn,Zo,Zp,beq_self_eq_true,bne_self_eq_false,decide_true,decide_false,Zq,Zr,Zs,Zt,Zu,Zv,Zw,Zx,Zy,Zz,Y0,Y1,Y2,Y3,Y4,Y5,Y6,Y7,Y8,Y9,Ya,Yb,Yc,Yd,Ye,Yf,Yg,Yh,lk,ef,Yi,Yj,Yk,Yl,Ym,Yn,Yo,Yp,hv,Yq,ev,Yr,Ys,Yt,Yu,Yv,Yw,Yx,Yy,Yz,X0,X1,X2,X3,X4,X5,X6,X7,X8,X9,Xa,Xb,Xc,Xd,Xe,Xf,Xg,Xh,Xi,Xj,Xk,Xl,Xm,Xn,Value.oneCell',Xo,Xp,Xq,Xr,true_and,and_true,and_self,implies_true,Xs,Xt,Xu,Xv,false_implies,Xw,Xx,Xy,Xz,W0,W1,W2,W3,W4,W5,W6,W7,W8,W9,Wa,Wb,Wc,reduceCtorEq,if_true,if_false,Wd,↓reduceIte,We,Wf,Wg,Wh,Wi,Wj,ne_eq,not_false_eq_true,not_true_eq_false,Wk,Wl,r5_0,r5_1,r5_2,r5_3,r5_4,r5_5,r5_7,r5_6,r5_8,r5_9,r5_10,r5_11,r5_12,r5_13,r5_14,r5_15,r5_16,p5,BS_nil,b5]) | (exfalso; omega)
    · have b6 : 9 < more := by omega
      repeat' first | ((with_reducible (first | refine condD ?_ ?_ | refine condE ?_ ?_ | refine condN ?_ ?_ | refine condI ?_ ?_ | refine condS ?_ ?_)) <;> intro h) | ((with_reducible (first | refine guardD (by with_unfolding_all rfl) ?_ ?_ | refine guardE (by with_unfolding_all rfl) ?_ ?_ | refine guardN (by with_unfolding_all rfl) ?_ ?_ | refine guardI (by with_unfolding_all rfl) ?_ ?_ | refine guardS (by with_unfolding_all rfl) ?_ ?_)) <;> intro h) | ((refine callG c1 ?_)) | ((refine callG c2 ?_)) | (with_reducible refine And.intro ?_ ?_; omega) | (simp only [Z0,Z1,Z2,Z3,Z4,Z5,Z6,Z7,Z8,Z9,Za,Zb,Zc,Zd,Ze,Zf,List.cons.injEq,Zg,Zh,Zi,Zj,Zk,Zl,Zm,Zn,Zo,Zp,beq_self_eq_true,bne_self_eq_false,decide_true,decide_false,Zq,Zr,Zs,Zt,Zu,Zv,Zw,Zx,Zy,Zz,Y0,Y1,Y2,Y3,Y4,Y5,Y6,Y7,Y8,Y9,Ya,Yb,Yc,Yd,Ye,Yf,Yg,Yh,lk,ef,Yi,Yj,Yk,Yl,Ym,Yn,Yo,Yp,hv,Yq,ev,Yr,Ys,Yt,Yu,Yv,Yw,Yx,Yy,Yz,X0,X1,X2,X3,X4,X5,X6,X7,X8,X9,Xa,Xb,Xc,Xd,Xe,Xf,Xg,Xh,Xi,Xj,Xk,Xl,Xm,Xn,Value.oneCell',Xo,Xp,Xq,Xr,true_and,and_true,and_self,implies_true,Xs,Xt,Xu,Xv,false_implies,Xw,Xx,Xy,Xz,W0,W1,W2,W3,W4,W5,W6,W7,W8,W9,Wa,Wb,Wc,reduceCtorEq,if_true,if_false,Wd,↓reduceIte,We,Wf,Wg,Wh,Wi,Wj,ne_eq,not_false_eq_true,not_true_eq_false,Wk,Wl,r5_0,r5_1,r5_2,r5_3,r5_4,r5_5,r5_7,r5_6,r5_8,r5_9,r5_10,r5_11,r5_12,r5_13,r5_14,r5_15,r5_16,p5,BS_nil,b5,b6]) | (exfalso; omega)
  | false =>
  obtain ⟨⟨o1, o2, o3⟩, n1, n2, s1, s2, m1, m2⟩ := decBad_f hb
  rw [show decF n sc more = (decFt n sc more, 0) by simp [decF, hb]]
  clear hb
  rw [o1] at c1
  rw [o2] at c2
  obtain ⟨S, rfl⟩ : ∃ k : Nat, sc = k := ⟨sc.toNat, by omega⟩
  obtain ⟨mo, rfl⟩ : ∃ k : Nat, more = k := ⟨more.toNat, by omega⟩
  rw [decFt_nat]
  have hS : 0 < S := by omega
  have hP : 10 ^ mo ≤ 10 ^ 9 := Nat.pow_le_pow_right (by decide) (by omega)
  have hPp : 0 < 10 ^ mo := Nat.pow_pos (by decide)
  have q1 : ¬ (mo : Int) < 0 := by omega
  have q2 : ¬ (9 : Int) < mo := by omega
  have hT := turned_c n (10 ^ mo) S (by omega) (by omega) hS (by omega)
  have hNb : (n * ((10 ^ mo : Nat) : Int)).natAbs = n.natAbs * 10 ^ mo := by rw [Int.natAbs_mul, Int.natAbs_natCast]
  have hNl : n.natAbs * 10 ^ mo ≤ 1000000000000000 * 10 ^ 9 := Nat.mul_le_mul (by omega) hP
  have hRd := round_q (n * ((10 ^ mo : Nat) : Int)) S 2 hS (by rw [hNb]; exact Nat.le_trans (lm_s10 (by omega)) (by decide)) (Nat.le_trans (lm_s10 (by omega)) (by decide))
  rw [rnd_half, hNb] at hRd
  have hVb : half (n.natAbs * 10 ^ mo) S ≤ n.natAbs * 10 ^ mo + 1 := by
    have := Nat.div_le_self (n.natAbs * 10 ^ mo) S
    unfold half
    split <;> omega
  have hWR := dec_WR n.natAbs S (10 ^ mo) hS
  have hRl := decR_lt (size := n.natAbs) hS hPp
  have hDg := digits_c (half (n.natAbs * 10 ^ mo) S) (Nat.le_trans (lm_s10 (by omega)) (by decide))
  have hWb : decW n.natAbs S (10 ^ mo) ≤ 1000000000000001 := by
    have := Nat.div_le_self n.natAbs S
    unfold decW
    split <;> omega
  have hlp := lm_pos_len (n := half (n.natAbs * 10 ^ mo) S)
  obtain ⟨X, hX⟩ : ∃ X, X = decTx (decide (n < 0) && decide (0 < half (n.natAbs * 10 ^ mo) S)) (decW n.natAbs S (10 ^ mo)) mo (decR n.natAbs S (10 ^ mo)) := ⟨_, rfl⟩
  rw [← hX]
  unfold decTx at hX
  generalize decW n.natAbs S (10 ^ mo) = W at *
  generalize decR n.natAbs S (10 ^ mo) = R at *
  obtain ⟨V, hV⟩ : ∃ V, V = half (n.natAbs * 10 ^ mo) S := ⟨_, rfl⟩
  rw [← hV] at hWR hRd hDg hX hVb hlp
  clear hV hNb hNl
  obtain ⟨hd1, hd2⟩ := dig_len (W := W) hRl
  rw [← hWR] at hd1 hd2
  have hsp := dgs_split mo (nDigits W) W R hRl
  rw [← hWR, dgs_dec _ _ rfl] at hsp
  have hVd : dgs (nDigits V) V = decDigits V := dgs_dec _ _ rfl
  rw [← hVd] at hDg
  have hVlt := lt_pow_nDigits V
  have hnp := nDigits_pos W
  have hn17 : nDigits W ≤ 16 := nDigits_le 16 _ (by decide) (by omega)
  have hDWl : (decDigits W).length = nDigits W := decDigits_length W
  clear hWR hVd hVb hWb hRl
  generalize decDigits W = DW at *
  generalize nDigits W = wl at *
  generalize nDigits V = L at *
  have dl := dgs_len mo R
  generalize dgs mo R = D at *
  obtain ⟨RR, hRR⟩ : ∃ RR, RR = RQ (n * ((10 ^ mo : Nat) : Int)) S := ⟨_, rfl⟩
  rw [← hRR] at hT hRd
  clear hRR
  repeat' first | ((with_reducible (first | refine condD ?_ ?_ | refine condE ?_ ?_ | refine condN ?_ ?_ | refine condI ?_ ?_ | refine condS ?_ ?_)) <;> intro h) | ((with_reducible (first | refine guardD (by with_unfolding_all rfl) ?_ ?_ | refine guardE (by with_unfolding_all rfl) ?_ ?_ | refine guardN (by with_unfolding_all rfl) ?_ ?_ | refine guardI (by with_unfolding_all rfl) ?_ ?_ | refine guardS (by with_unfolding_all rfl) ?_ ?_)) <;> intro h) | ((refine callG c1 ?_)) | ((refine callG c2 ?_)) | (with_reducible refine And.intro ?_ ?_; omega) | (simp only [Z0,Z1,Z2,Z3,Z4,Z5,Z6,Z7,Z8,Z9,Za,Zb,Zc,Zd,Ze,Zf,List.cons.injEq,Zg,Zh,Zi,Zj,Zk,Zl,Zm,Zn,Zo,Zp,beq_self_eq_true,bne_self_eq_false,decide_true,decide_false,Zq,Zr,Zs,Zt,Zu,Zv,Zw,Zx,Zy,Zz,Y0,Y1,Y2,Y3,Y4,Y5,Y6,Y7,Y8,Y9,Ya,Yb,Yc,Yd,Ye,Yf,Yg,Yh,lk,ef,Yi,Yj,Yk,Yl,Ym,Yn,Yo,Yp,hv,Yq,ev,Yr,Ys,Yt,Yu,Yv,Yw,Yx,Yy,Yz,X0,X1,X2,X3,X4,X5,X6,X7,X8,X9,Xa,Xb,Xc,Xd,Xe,Xf,Xg,Xh,Xi,Xj,Xk,Xl,Xm,Xn,Value.oneCell',Xo,Xp,Xq,Xr,true_and,and_true,and_self,implies_true,Xs,Xt,Xu,Xv,false_implies,Xw,Xx,Xy,Xz,W0,W1,W2,W3,W4,W5,W6,W7,W8,W9,Wa,Wb,Wc,reduceCtorEq,if_true,if_false,Wd,↓reduceIte,We,Wf,Wg,Wh,Wi,Wj,ne_eq,not_false_eq_true,not_true_eq_false,Wk,Wl,r5_0,r5_1,r5_2,r5_3,r5_4,r5_5,r5_7,r5_6,r5_8,r5_9,r5_10,r5_11,r5_12,r5_13,r5_14,r5_15,r5_16,p5,BS_nil,q1,q2]) | (exfalso; omega)
  refine loopS (fun k : Nat => mk [(0, .val (.int .i64 n)), (1, .val (.int .i64 S)), (2, .val (.int .i64 mo)), (8, .val (.int .i64 (10 ^ k : Nat))), (9, .val (.int .i64 k))]) (fun k => k ≤ mo) (fun k => mo - k) 0 (weak_mk ?_) (Nat.zero_le _) ?_
  · simp only [Wm,Wn,wk1,Wo,Wp,Wq,Z4,Z5,Z6,Z7,Z8,Z9,Za,Zb,Zc,Zd,Ze,Zf,List.cons.injEq,Zg,Zh,Zi,Zj,Zk,Zl,Zm,Zn,Zo,Zp,beq_self_eq_true,bne_self_eq_false,decide_true,decide_false,Zq,Zr,Zs,Zt,Zu,Zv,Zw,Zx,Zy,Zz,Y0,hv,Yq,ev,Yr,Ys,Yt,Yu,Yv,Yw,Yx,Yy,Yz,X0,X1,X2,X3,X4,X5,X6,X7,X8,X9,Xa,Xb,Xc,Xd,Xe,Xf,Xg,Xh,Xi,Xj,Xk,Xl,Xm,Xn,Value.oneCell',Xo,Xp,Xq,Xr,true_and,and_true,and_self,implies_true,Xs,Xt,Xu,Xv,false_implies,Xw,Xx,Xy,Xz,W0,W1,W2,W3,W4,W5,W6,W7,W8,W9,Wa,Wb,Wc,reduceCtorEq,if_true,if_false,Wd,↓reduceIte,We,Wf,Wg,Wh,Wi,Wj,ne_eq,not_false_eq_true,not_true_eq_false,Wk,Nat.zero_ne_one]
    first | rfl | exact ⟨rfl, rfl⟩
  rintro J hJ k hk
  simp only [Z0,Z1,Z2,Z3,Z4,Z5,Z6,Z7,Z8,Z9,Za,Zb,Zc,Zd,Ze,Zf,List.cons.injEq,Zg,Zh,Zi,Zj,Zk,Zl,Zm,Zn,Zo,Zp,beq_self_eq_true,bne_self_eq_false,decide_true,decide_false,Zq,Zr,Zs,Zt,Zu,Zv,Zw,Zx,Zy,Zz,Y0,Y1,Y2,Y3,Y4,Y5,Y6,Y7,Y8,Y9,Ya,Yb,Yc,Yd,Ye,Yf,Yg,Yh,lk,ef,Yi,Yj,Yk,Yl,Ym,Yn,Yo,Yp,hv,Yq,ev,Yr,Ys,Yt,Yu,Yv,Yw,Yx,Yy,Yz,X0,X1,X2,X3,X4,X5,X6,X7,X8,X9,Xa,Xb,Xc,Xd,Xe,Xf,Xg,Xh,Xi,Xj,Xk,Xl,Xm,Xn,Value.oneCell',Xo,Xp,Xq,Xr,true_and,and_true,and_self,implies_true,Xs,Xt,Xu,Xv,false_implies,Xw,Xx,Xy,Xz,W0,W1,W2,W3,W4,W5,W6,W7,W8,W9,Wa,Wb,Wc,reduceCtorEq,if_true,if_false,Wd,↓reduceIte,We,Wf,Wg,Wh,Wi,Wj,ne_eq,not_false_eq_true,not_true_eq_false,Wk,Wl,r5_0,r5_1,r5_2,r5_3,r5_4,r5_5,r5_7,r5_6,r5_8,r5_9,r5_10,r5_11,r5_12,r5_13,r5_14,r5_15,r5_16,p5,l5_0]
  refine condD (fun h => ?_) (fun h => ?_)
  · have hw := i_add1 k (by omega)
    have hp : 10 ^ k ≤ 10 ^ 9 := Nat.pow_le_pow_right (by decide) (by omega)
    have hw2 : IntKind.i64.wrap (((10 ^ k : Nat) : Int) * 10) = ((10 ^ (k + 1) : Nat) : Int) := by
      rw [Nat.pow_succ]
      generalize 10 ^ k = z at *
      rw [wrap_in (by omega) (by omega)]; omega
    repeat' first | ((with_reducible (first | refine condD ?_ ?_ | refine condE ?_ ?_ | refine condN ?_ ?_ | refine condI ?_ ?_ | refine condS ?_ ?_)) <;> intro h) | ((with_reducible (first | refine guardD (by with_unfolding_all rfl) ?_ ?_ | refine guardE (by with_unfolding_all rfl) ?_ ?_ | refine guardN (by with_unfolding_all rfl) ?_ ?_ | refine guardI (by with_unfolding_all rfl) ?_ ?_ | refine guardS (by with_unfolding_all rfl) ?_ ?_)) <;> intro h) | (with_reducible refine And.intro ?_ ?_; omega) | (simp only [Z0,Z1,Z2,Z3,Z4,Z5,Z6,Z7,Z8,Z9,Za,Zb,Zc,Zd,Ze,Zf,List.cons.injEq,Zg,Zh,Zi,Zj,Zk,Zl,Zm,Zn,Zo,Zp,beq_self_eq_true,bne_self_eq_false,decide_true,decide_false,Zq,Zr,Zs,Zt,Zu,Zv,Zw,Zx,Zy,Zz,Y0,Y1,Y2,Y3,Y4,Y5,Y6,Y7,Y8,Y9,Ya,Yb,Yc,Yd,Ye,Yf,Yg,Yh,lk,ef,Yi,Yj,Yk,Yl,Ym,Yn,Yo,Yp,hv,Yq,ev,Yr,Ys,Yt,Yu,Yv,Yw,Yx,Yy,Yz,X0,X1,X2,X3,X4,X5,X6,X7,X8,X9,Xa,Xb,Xc,Xd,Xe,Xf,Xg,Xh,Xi,Xj,Xk,Xl,Xm,Xn,Value.oneCell',Xo,Xp,Xq,Xr,true_and,and_true,and_self,implies_true,Xs,Xt,Xu,Xv,false_implies,Xw,Xx,Xy,Xz,W0,W1,W2,W3,W4,W5,W6,W7,W8,W9,Wa,Wb,Wc,reduceCtorEq,if_true,if_false,Wd,↓reduceIte,We,Wf,Wg,Wh,Wi,Wj,ne_eq,not_false_eq_true,not_true_eq_false,Wk,Wl,r5_0,r5_1,r5_2,r5_3,r5_4,r5_5,r5_7,r5_6,r5_8,r5_9,r5_10,r5_11,r5_12,r5_13,r5_14,r5_15,r5_16,p5,l5_0,hw,hw2]) | (exfalso; omega)
    all_goals first | omega | exact again hJ (k + 1) (weak_mk (by simp only [Wm,Wn,wk1,Wo,Wp,Wq,Z4,Z5,Z6,Z7,Z8,Z9,Za,Zb,Zc,Zd,Ze,Zf,List.cons.injEq,Zg,Zh,Zi,Zj,Zk,Zl,Zm,Zn,Zo,Zp,beq_self_eq_true,bne_self_eq_false,decide_true,decide_false,Zq,Zr,Zs,Zt,Zu,Zv,Zw,Zx,Zy,Zz,Y0,hv,Yq,ev,Yr,Ys,Yt,Yu,Yv,Yw,Yx,Yy,Yz,X0,X1,X2,X3,X4,X5,X6,X7,X8,X9,Xa,Xb,Xc,Xd,Xe,Xf,Xg,Xh,Xi,Xj,Xk,Xl,Xm,Xn,Value.oneCell',Xo,Xp,Xq,Xr,true_and,and_true,and_self,implies_true,Xs,Xt,Xu,Xv,false_implies,Xw,Xx,Xy,Xz,W0,W1,W2,W3,W4,W5,W6,W7,W8,W9,Wa,Wb,Wc,reduceCtorEq,if_true,if_false,Wd,↓reduceIte,We,Wf,Wg,Wh,Wi,Wj,ne_eq,not_false_eq_true,not_true_eq_false,Wk,Nat.zero_ne_one])) (by omega) (by omega)
  have hke : k = mo := by omega
  subst hke
  clear hJ
  generalize 10 ^ k = P at *
  repeat' first | ((with_reducible (first | refine condD ?_ ?_ | refine condE ?_ ?_ | refine condN ?_ ?_ | refine condI ?_ ?_ | refine condS ?_ ?_)) <;> intro h) | ((with_reducible (first | refine guardD (by with_unfolding_all rfl) ?_ ?_ | refine guardE (by with_unfolding_all rfl) ?_ ?_ | refine guardN (by with_unfolding_all rfl) ?_ ?_ | refine guardI (by with_unfolding_all rfl) ?_ ?_ | refine guardS (by with_unfolding_all rfl) ?_ ?_)) <;> intro h) | ((refine callG hT ?_)) | ((refine callG hRd ?_)) | ((refine callG hDg ?_)) | (with_reducible refine And.intro ?_ ?_; omega) | (simp only [Z0,Z1,Z2,Z3,Z4,Z5,Z6,Z7,Z8,Z9,Za,Zb,Zc,Zd,Ze,Zf,List.cons.injEq,Zg,Zh,Zi,Zj,Zk,Zl,Zm,Zn,Zo,Zp,beq_self_eq_true,bne_self_eq_false,decide_true,decide_false,Zq,Zr,Zs,Zt,Zu,Zv,Zw,Zx,Zy,Zz,Y0,Y1,Y2,Y3,Y4,Y5,Y6,Y7,Y8,Y9,Ya,Yb,Yc,Yd,Ye,Yf,Yg,Yh,lk,ef,Yi,Yj,Yk,Yl,Ym,Yn,Yo,Yp,hv,Yq,ev,Yr,Ys,Yt,Yu,Yv,Yw,Yx,Yy,Yz,X0,X1,X2,X3,X4,X5,X6,X7,X8,X9,Xa,Xb,Xc,Xd,Xe,Xf,Xg,Xh,Xi,Xj,Xk,Xl,Xm,Xn,Value.oneCell',Xo,Xp,Xq,Xr,true_and,and_true,and_self,implies_true,Xs,Xt,Xu,Xv,false_implies,Xw,Xx,Xy,Xz,W0,W1,W2,W3,W4,W5,W6,W7,W8,W9,Wa,Wb,Wc,reduceCtorEq,if_true,if_false,Wd,↓reduceIte,We,Wf,Wg,Wh,Wi,Wj,ne_eq,not_false_eq_true,not_true_eq_false,Wk,Wl,r5_0,r5_1,r5_2,r5_3,r5_4,r5_5,r5_7,r5_6,r5_8,r5_9,r5_10,r5_11,r5_12,r5_13,r5_14,r5_15,r5_16,p5,l5_0]) | (exfalso; omega)
  refine loopS (fun j : Nat => mk [(0, .val (.int .i64 n)), (2, .val (.int .i64 k)), (10, .ro ((lm V).map oneN)), (11, .val (.string (BS (dgs j V))))]) (fun j => L ≤ j ∧ j ≤ k + wl ∧ (j < k + wl → wl = 1)) (fun j => k + wl - j) L (weak_mk ?_) ⟨Nat.le_refl _, hd1, hd2⟩ ?_
  · simp only [Wm,Wn,wk1,Wo,Wp,Wq,Z4,Z5,Z6,Z7,Z8,Z9,Za,Zb,Zc,Zd,Ze,Zf,List.cons.injEq,Zg,Zh,Zi,Zj,Zk,Zl,Zm,Zn,Zo,Zp,beq_self_eq_true,bne_self_eq_false,decide_true,decide_false,Zq,Zr,Zs,Zt,Zu,Zv,Zw,Zx,Zy,Zz,Y0,hv,Yq,ev,Yr,Ys,Yt,Yu,Yv,Yw,Yx,Yy,Yz,X0,X1,X2,X3,X4,X5,X6,X7,X8,X9,Xa,Xb,Xc,Xd,Xe,Xf,Xg,Xh,Xi,Xj,Xk,Xl,Xm,Xn,Value.oneCell',Xo,Xp,Xq,Xr,true_and,and_true,and_self,implies_true,Xs,Xt,Xu,Xv,false_implies,Xw,Xx,Xy,Xz,W0,W1,W2,W3,W4,W5,W6,W7,W8,W9,Wa,Wb,Wc,reduceCtorEq,if_true,if_false,Wd,↓reduceIte,We,Wf,Wg,Wh,Wi,Wj,ne_eq,not_false_eq_true,not_true_eq_false,Wk,Nat.zero_ne_one]
  rintro J hJ j ⟨h1, h2, h3⟩
  simp only [Z0,Z1,Z2,Z3,Z4,Z5,Z6,Z7,Z8,Z9,Za,Zb,Zc,Zd,Ze,Zf,List.cons.injEq,Zg,Zh,Zi,Zj,Zk,Zl,Zm,Zn,Zo,Zp,beq_self_eq_true,bne_self_eq_false,decide_true,decide_false,Zq,Zr,Zs,Zt,Zu,Zv,Zw,Zx,Zy,Zz,Y0,Y1,Y2,Y3,Y4,Y5,Y6,Y7,Y8,Y9,Ya,Yb,Yc,Yd,Ye,Yf,Yg,Yh,lk,ef,Yi,Yj,Yk,Yl,Ym,Yn,Yo,Yp,hv,Yq,ev,Yr,Ys,Yt,Yu,Yv,Yw,Yx,Yy,Yz,X0,X1,X2,X3,X4,X5,X6,X7,X8,X9,Xa,Xb,Xc,Xd,Xe,Xf,Xg,Xh,Xi,Xj,Xk,Xl,Xm,Xn,Value.oneCell',Xo,Xp,Xq,Xr,true_and,and_true,and_self,implies_true,Xs,Xt,Xu,Xv,false_implies,Xw,Xx,Xy,Xz,W0,W1,W2,W3,W4,W5,W6,W7,W8,W9,Wa,Wb,Wc,reduceCtorEq,if_true,if_false,Wd,↓reduceIte,We,Wf,Wg,Wh,Wi,Wj,ne_eq,not_false_eq_true,not_true_eq_false,Wk,Wl,r5_0,r5_1,r5_2,r5_3,r5_4,r5_5,r5_7,r5_6,r5_8,r5_9,r5_10,r5_11,r5_12,r5_13,r5_14,r5_15,r5_16,p5,l5_1,BS_size,dgs_len]
  refine condD (fun h => ?_) (fun h => ?_)
  · have hz : 10 ^ L ≤ 10 ^ j := Nat.pow_le_pow_right (by decide) h1
    have hs : BS [48] ++ BS (dgs j V) = BS (dgs (j + 1) V) := by rw [BS_app, List.singleton_append, dgs_zero j V (by omega)]
    repeat' first | ((with_reducible (first | refine condD ?_ ?_ | refine condE ?_ ?_ | refine condN ?_ ?_ | refine condI ?_ ?_ | refine condS ?_ ?_)) <;> intro h) | ((with_reducible (first | refine guardD (by with_unfolding_all rfl) ?_ ?_ | refine guardE (by with_unfolding_all rfl) ?_ ?_ | refine guardN (by with_unfolding_all rfl) ?_ ?_ | refine guardI (by with_unfolding_all rfl) ?_ ?_ | refine guardS (by with_unfolding_all rfl) ?_ ?_)) <;> intro h) | (with_reducible refine And.intro ?_ ?_; omega) | (simp only [Z0,Z1,Z2,Z3,Z4,Z5,Z6,Z7,Z8,Z9,Za,Zb,Zc,Zd,Ze,Zf,List.cons.injEq,Zg,Zh,Zi,Zj,Zk,Zl,Zm,Zn,Zo,Zp,beq_self_eq_true,bne_self_eq_false,decide_true,decide_false,Zq,Zr,Zs,Zt,Zu,Zv,Zw,Zx,Zy,Zz,Y0,Y1,Y2,Y3,Y4,Y5,Y6,Y7,Y8,Y9,Ya,Yb,Yc,Yd,Ye,Yf,Yg,Yh,lk,ef,Yi,Yj,Yk,Yl,Ym,Yn,Yo,Yp,hv,Yq,ev,Yr,Ys,Yt,Yu,Yv,Yw,Yx,Yy,Yz,X0,X1,X2,X3,X4,X5,X6,X7,X8,X9,Xa,Xb,Xc,Xd,Xe,Xf,Xg,Xh,Xi,Xj,Xk,Xl,Xm,Xn,Value.oneCell',Xo,Xp,Xq,Xr,true_and,and_true,and_self,implies_true,Xs,Xt,Xu,Xv,false_implies,Xw,Xx,Xy,Xz,W0,W1,W2,W3,W4,W5,W6,W7,W8,W9,Wa,Wb,Wc,reduceCtorEq,if_true,if_false,Wd,↓reduceIte,We,Wf,Wg,Wh,Wi,Wj,ne_eq,not_false_eq_true,not_true_eq_false,Wk,Wl,r5_0,r5_1,r5_2,r5_3,r5_4,r5_5,r5_7,r5_6,r5_8,r5_9,r5_10,r5_11,r5_12,r5_13,r5_14,r5_15,r5_16,p5,l5_1,BS_size,dgs_len,BS_48,hs]) | (exfalso; omega)
    all_goals first | omega | exact again hJ (j + 1) (weak_mk (by simp only [Wm,Wn,wk1,Wo,Wp,Wq,Z4,Z5,Z6,Z7,Z8,Z9,Za,Zb,Zc,Zd,Ze,Zf,List.cons.injEq,Zg,Zh,Zi,Zj,Zk,Zl,Zm,Zn,Zo,Zp,beq_self_eq_true,bne_self_eq_false,decide_true,decide_false,Zq,Zr,Zs,Zt,Zu,Zv,Zw,Zx,Zy,Zz,Y0,hv,Yq,ev,Yr,Ys,Yt,Yu,Yv,Yw,Yx,Yy,Yz,X0,X1,X2,X3,X4,X5,X6,X7,X8,X9,Xa,Xb,Xc,Xd,Xe,Xf,Xg,Xh,Xi,Xj,Xk,Xl,Xm,Xn,Value.oneCell',Xo,Xp,Xq,Xr,true_and,and_true,and_self,implies_true,Xs,Xt,Xu,Xv,false_implies,Xw,Xx,Xy,Xz,W0,W1,W2,W3,W4,W5,W6,W7,W8,W9,Wa,Wb,Wc,reduceCtorEq,if_true,if_false,Wd,↓reduceIte,We,Wf,Wg,Wh,Wi,Wj,ne_eq,not_false_eq_true,not_true_eq_false,Wk,Nat.zero_ne_one])) ⟨by omega, by omega, by omega⟩ (by omega)
  have hje : j = wl + k := by
    by_cases q : j < k + wl
    · have := h3 q; omega
    · omega
  subst hje
  clear hJ
  rw [hsp]
  have e1 : IntKind.i64.wrap (((wl + k : Nat) : Int) - k) = ((wl : Nat) : Int) := by rw [wrap_in (by omega) (by omega)]; omega
  have hTl : (DW ++ D).length = wl + k := by rw [List.length_append, hDWl, dl]
  have x1 : (BS (DW ++ D)).extract 0 wl = BS DW := by rw [BS_ext, List.drop_zero, Nat.sub_zero, List.take_left' hDWl]
  have x2 : (BS (DW ++ D)).extract wl (wl + k) = BS D := by rw [BS_ext, List.drop_left' hDWl, List.take_of_length_le (by omega)]
  have y0 : (0 : Int) ≤ ((wl : Nat) : Int) := by omega
  have y1 : wl ≤ wl + k := by omega
  by_cases h0 : n < 0
  · by_cases ht : 0 < V
    · have hti : (0 : Int) < (((lm V).length : Nat) : Int) := by have := hlp.2 ht; omega
      rw [decide_eq_true h0, decide_eq_true ht, Bool.and_self, if_pos rfl] at hX
      by_cases hmo : 0 < k
      · rw [if_pos hmo] at hX
        have hmi : (0 : Int) < k := by omega
        have hf : [45] ++ (DW ++ [46] ++ D) = X := by simp [hX]
        repeat' first | ((with_reducible (first | refine condD ?_ ?_ | refine condE ?_ ?_ | refine condN ?_ ?_ | refine condI ?_ ?_ | refine condS ?_ ?_)) <;> intro h) | ((with_reducible (first | refine guardD (by with_unfolding_all rfl) ?_ ?_ | refine guardE (by with_unfolding_all rfl) ?_ ?_ | refine guardN (by with_unfolding_all rfl) ?_ ?_ | refine guardI (by with_unfolding_all rfl) ?_ ?_ | refine guardS (by with_unfolding_all rfl) ?_ ?_)) <;> intro h) | (with_reducible refine And.intro ?_ ?_; omega) | (simp only [Z0,Z1,Z2,Z3,Z4,Z5,Z6,Z7,Z8,Z9,Za,Zb,Zc,Zd,Ze,Zf,List.cons.injEq,Zg,Zh,Zi,Zj,Zk,Zl,Zm,Zn,Zo,Zp,beq_self_eq_true,bne_self_eq_false,decide_true,decide_false,Zq,Zr,Zs,Zt,Zu,Zv,Zw,Zx,Zy,Zz,Y0,Y1,Y2,Y3,Y4,Y5,Y6,Y7,Y8,Y9,Ya,Yb,Yc,Yd,Ye,Yf,Yg,Yh,lk,ef,Yi,Yj,Yk,Yl,Ym,Yn,Yo,Yp,hv,Yq,ev,Yr,Ys,Yt,Yu,Yv,Yw,Yx,Yy,Yz,X0,X1,X2,X3,X4,X5,X6,X7,X8,X9,Xa,Xb,Xc,Xd,Xe,Xf,Xg,Xh,Xi,Xj,Xk,Xl,Xm,Xn,Value.oneCell',Xo,Xp,Xq,Xr,true_and,and_true,and_self,implies_true,Xs,Xt,Xu,Xv,false_implies,Xw,Xx,Xy,Xz,W0,W1,W2,W3,W4,W5,W6,W7,W8,W9,Wa,Wb,Wc,reduceCtorEq,if_true,if_false,Wd,↓reduceIte,We,Wf,Wg,Wh,Wi,Wj,ne_eq,not_false_eq_true,not_true_eq_false,Wk,Wl,r5_0,r5_1,r5_2,r5_3,r5_4,r5_5,r5_7,r5_6,r5_8,r5_9,r5_10,r5_11,r5_12,r5_13,r5_14,r5_15,r5_16,p5,l5_1,e1,h0,hti,hmi,BS_45,BS_46,BS_app,BS_size,hTl,x1,x2,y0,y1,hf,Zt,List.length_append,List.length_singleton,hDWl,dl,Nat.le_refl,Nat.zero_le]) | (exfalso; omega)
        all_goals omega
      · rw [if_neg hmo] at hX
        have hmi : ¬ (0 : Int) < k := by omega
        have hD0 : D = [] := List.eq_nil_of_length_eq_zero (by omega)
        subst hD0
        have hf : [45] ++ (DW ++ []) = X := by simp [hX]
        repeat' first | ((with_reducible (first | refine condD ?_ ?_ | refine condE ?_ ?_ | refine condN ?_ ?_ | refine condI ?_ ?_ | refine condS ?_ ?_)) <;> intro h) | ((with_reducible (first | refine guardD (by with_unfolding_all rfl) ?_ ?_ | refine guardE (by with_unfolding_all rfl) ?_ ?_ | refine guardN (by with_unfolding_all rfl) ?_ ?_ | refine guardI (by with_unfolding_all rfl) ?_ ?_ | refine guardS (by with_unfolding_all rfl) ?_ ?_)) <;> intro h) | (with_reducible refine And.intro ?_ ?_; omega) | (simp only [Z0,Z1,Z2,Z3,Z4,Z5,Z6,Z7,Z8,Z9,Za,Zb,Zc,Zd,Ze,Zf,List.cons.injEq,Zg,Zh,Zi,Zj,Zk,Zl,Zm,Zn,Zo,Zp,beq_self_eq_true,bne_self_eq_false,decide_true,decide_false,Zq,Zr,Zs,Zt,Zu,Zv,Zw,Zx,Zy,Zz,Y0,Y1,Y2,Y3,Y4,Y5,Y6,Y7,Y8,Y9,Ya,Yb,Yc,Yd,Ye,Yf,Yg,Yh,lk,ef,Yi,Yj,Yk,Yl,Ym,Yn,Yo,Yp,hv,Yq,ev,Yr,Ys,Yt,Yu,Yv,Yw,Yx,Yy,Yz,X0,X1,X2,X3,X4,X5,X6,X7,X8,X9,Xa,Xb,Xc,Xd,Xe,Xf,Xg,Xh,Xi,Xj,Xk,Xl,Xm,Xn,Value.oneCell',Xo,Xp,Xq,Xr,true_and,and_true,and_self,implies_true,Xs,Xt,Xu,Xv,false_implies,Xw,Xx,Xy,Xz,W0,W1,W2,W3,W4,W5,W6,W7,W8,W9,Wa,Wb,Wc,reduceCtorEq,if_true,if_false,Wd,↓reduceIte,We,Wf,Wg,Wh,Wi,Wj,ne_eq,not_false_eq_true,not_true_eq_false,Wk,Wl,r5_0,r5_1,r5_2,r5_3,r5_4,r5_5,r5_7,r5_6,r5_8,r5_9,r5_10,r5_11,r5_12,r5_13,r5_14,r5_15,r5_16,p5,l5_1,e1,h0,hti,hmi,BS_45,BS_46,BS_app,BS_size,hTl,hf,Zt,List.length_append,List.length_singleton,hDWl,dl,Nat.le_refl,Nat.zero_le]) | (exfalso; omega)
        all_goals omega
    · have hti : ¬ (0 : Int) < (((lm V).length : Nat) : Int) := by
        intro q
        exact ht (hlp.1 (by omega))
      rw [decide_eq_false ht, Bool.and_false, if_neg (by simp), List.nil_append] at hX
      by_cases hmo : 0 < k
      · rw [if_pos hmo] at hX
        have hmi : (0 : Int) < k := by omega
        have hf : DW ++ [46] ++ D = X := by simp [hX]
        repeat' first | ((with_reducible (first | refine condD ?_ ?_ | refine condE ?_ ?_ | refine condN ?_ ?_ | refine condI ?_ ?_ | refine condS ?_ ?_)) <;> intro h) | ((with_reducible (first | refine guardD (by with_unfolding_all rfl) ?_ ?_ | refine guardE (by with_unfolding_all rfl) ?_ ?_ | refine guardN (by with_unfolding_all rfl) ?_ ?_ | refine guardI (by with_unfolding_all rfl) ?_ ?_ | refine guardS (by with_unfolding_all rfl) ?_ ?_)) <;> intro h) | (with_reducible refine And.intro ?_ ?_; omega) | (simp only [Z0,Z1,Z2,Z3,Z4,Z5,Z6,Z7,Z8,Z9,Za,Zb,Zc,Zd,Ze,Zf,List.cons.injEq,Zg,Zh,Zi,Zj,Zk,Zl,Zm,Zn,Zo,Zp,beq_self_eq_true,bne_self_eq_false,decide_true,decide_false,Zq,Zr,Zs,Zt,Zu,Zv,Zw,Zx,Zy,Zz,Y0,Y1,Y2,Y3,Y4,Y5,Y6,Y7,Y8,Y9,Ya,Yb,Yc,Yd,Ye,Yf,Yg,Yh,lk,ef,Yi,Yj,Yk,Yl,Ym,Yn,Yo,Yp,hv,Yq,ev,Yr,Ys,Yt,Yu,Yv,Yw,Yx,Yy,Yz,X0,X1,X2,X3,X4,X5,X6,X7,X8,X9,Xa,Xb,Xc,Xd,Xe,Xf,Xg,Xh,Xi,Xj,Xk,Xl,Xm,Xn,Value.oneCell',Xo,Xp,Xq,Xr,true_and,and_true,and_self,implies_true,Xs,Xt,Xu,Xv,false_implies,Xw,Xx,Xy,Xz,W0,W1,W2,W3,W4,W5,W6,W7,W8,W9,Wa,Wb,Wc,reduceCtorEq,if_true,if_false,Wd,↓reduceIte,We,Wf,Wg,Wh,Wi,Wj,ne_eq,not_false_eq_true,not_true_eq_false,Wk,Wl,r5_0,r5_1,r5_2,r5_3,r5_4,r5_5,r5_7,r5_6,r5_8,r5_9,r5_10,r5_11,r5_12,r5_13,r5_14,r5_15,r5_16,p5,l5_1,e1,h0,hti,hmi,BS_45,BS_46,BS_app,BS_size,hTl,x1,x2,y0,y1,hf,Zt,List.length_append,List.length_singleton,hDWl,dl,Nat.le_refl,Nat.zero_le]) | (exfalso; omega)
        all_goals omega
      · rw [if_neg hmo] at hX
        have hmi : ¬ (0 : Int) < k := by omega
        have hD0 : D = [] := List.eq_nil_of_length_eq_zero (by omega)
        subst hD0
        have hf : DW ++ [] = X := by simp [hX]
        repeat' first | ((with_reducible (first | refine condD ?_ ?_ | refine condE ?_ ?_ | refine condN ?_ ?_ | refine condI ?_ ?_ | refine condS ?_ ?_)) <;> intro h) | ((with_reducible (first | refine guardD (by with_unfolding_all rfl) ?_ ?_ | refine guardE (by with_unfolding_all rfl) ?_ ?_ | refine guardN (by with_unfolding_all rfl) ?_ ?_ | refine guardI (by with_unfolding_all rfl) ?_ ?_ | refine guardS (by with_unfolding_all rfl) ?_ ?_)) <;> intro h) | (with_reducible refine And.intro ?_ ?_; omega) | (simp only [Z0,Z1,Z2,Z3,Z4,Z5,Z6,Z7,Z8,Z9,Za,Zb,Zc,Zd,Ze,Zf,List.cons.injEq,Zg,Zh,Zi,Zj,Zk,Zl,Zm,Zn,Zo,Zp,beq_self_eq_true,bne_self_eq_false,decide_true,decide_false,Zq,Zr,Zs,Zt,Zu,Zv,Zw,Zx,Zy,Zz,Y0,Y1,Y2,Y3,Y4,Y5,Y6,Y7,Y8,Y9,Ya,Yb,Yc,Yd,Ye,Yf,Yg,Yh,lk,ef,Yi,Yj,Yk,Yl,Ym,Yn,Yo,Yp,hv,Yq,ev,Yr,Ys,Yt,Yu,Yv,Yw,Yx,Yy,Yz,X0,X1,X2,X3,X4,X5,X6,X7,X8,X9,Xa,Xb,Xc,Xd,Xe,Xf,Xg,Xh,Xi,Xj,Xk,Xl,Xm,Xn,Value.oneCell',Xo,Xp,Xq,Xr,true_and,and_true,and_self,implies_true,Xs,Xt,Xu,Xv,false_implies,Xw,Xx,Xy,Xz,W0,W1,W2,W3,W4,W5,W6,W7,W8,W9,Wa,Wb,Wc,reduceCtorEq,if_true,if_false,Wd,↓reduceIte,We,Wf,Wg,Wh,Wi,Wj,ne_eq,not_false_eq_true,not_true_eq_false,Wk,Wl,r5_0,r5_1,r5_2,r5_3,r5_4,r5_5,r5_7,r5_6,r5_8,r5_9,r5_10,r5_11,r5_12,r5_13,r5_14,r5_15,r5_16,p5,l5_1,e1,h0,hti,hmi,BS_45,BS_46,BS_app,BS_size,hTl,hf,Zt,List.length_append,List.length_singleton,hDWl,dl,Nat.le_refl,Nat.zero_le]) | (exfalso; omega)
        all_goals omega
  · rw [decide_eq_false h0, Bool.false_and, if_neg (by simp), List.nil_append] at hX
    by_cases hmo : 0 < k
    · rw [if_pos hmo] at hX
      have hmi : (0 : Int) < k := by omega
      have hf : DW ++ [46] ++ D = X := by simp [hX]
      repeat' first | ((with_reducible (first | refine condD ?_ ?_ | refine condE ?_ ?_ | refine condN ?_ ?_ | refine condI ?_ ?_ | refine condS ?_ ?_)) <;> intro h) | ((with_reducible (first | refine guardD (by with_unfolding_all rfl) ?_ ?_ | refine guardE (by with_unfolding_all rfl) ?_ ?_ | refine guardN (by with_unfolding_all rfl) ?_ ?_ | refine guardI (by with_unfolding_all rfl) ?_ ?_ | refine guardS (by with_unfolding_all rfl) ?_ ?_)) <;> intro h) | (with_reducible refine And.intro ?_ ?_; omega) | (simp only [Z0,Z1,Z2,Z3,Z4,Z5,Z6,Z7,Z8,Z9,Za,Zb,Zc,Zd,Ze,Zf,List.cons.injEq,Zg,Zh,Zi,Zj,Zk,Zl,Zm,Zn,Zo,Zp,beq_self_eq_true,bne_self_eq_false,decide_true,decide_false,Zq,Zr,Zs,Zt,Zu,Zv,Zw,Zx,Zy,Zz,Y0,Y1,Y2,Y3,Y4,Y5,Y6,Y7,Y8,Y9,Ya,Yb,Yc,Yd,Ye,Yf,Yg,Yh,lk,ef,Yi,Yj,Yk,Yl,Ym,Yn,Yo,Yp,hv,Yq,ev,Yr,Ys,Yt,Yu,Yv,Yw,Yx,Yy,Yz,X0,X1,X2,X3,X4,X5,X6,X7,X8,X9,Xa,Xb,Xc,Xd,Xe,Xf,Xg,Xh,Xi,Xj,Xk,Xl,Xm,Xn,Value.oneCell',Xo,Xp,Xq,Xr,true_and,and_true,and_self,implies_true,Xs,Xt,Xu,Xv,false_implies,Xw,Xx,Xy,Xz,W0,W1,W2,W3,W4,W5,W6,W7,W8,W9,Wa,Wb,Wc,reduceCtorEq,if_true,if_false,Wd,↓reduceIte,We,Wf,Wg,Wh,Wi,Wj,ne_eq,not_false_eq_true,not_true_eq_false,Wk,Wl,r5_0,r5_1,r5_2,r5_3,r5_4,r5_5,r5_7,r5_6,r5_8,r5_9,r5_10,r5_11,r5_12,r5_13,r5_14,r5_15,r5_16,p5,l5_1,e1,h0,hmi,BS_45,BS_46,BS_app,BS_size,hTl,x1,x2,y0,y1,hf,Zt,List.length_append,List.length_singleton,hDWl,dl,Nat.le_refl,Nat.zero_le]) | (exfalso; omega)
      all_goals omega
    · rw [if_neg hmo] at hX
      have hmi : ¬ (0 : Int) < k := by omega
      have hD0 : D = [] := List.eq_nil_of_length_eq_zero (by omega)
      subst hD0
      have hf : DW ++ [] = X := by simp [hX]
      repeat' first | ((with_reducible (first | refine condD ?_ ?_ | refine condE ?_ ?_ | refine condN ?_ ?_ | refine condI ?_ ?_ | refine condS ?_ ?_)) <;> intro h) | ((with_reducible (first | refine guardD (by with_unfolding_all rfl) ?_ ?_ | refine guardE (by with_unfolding_all rfl) ?_ ?_ | refine guardN (by with_unfolding_all rfl) ?_ ?_ | refine guardI (by with_unfolding_all rfl) ?_ ?_ | refine guardS (by with_unfolding_all rfl) ?_ ?_)) <;> intro h) | (with_reducible refine And.intro ?_ ?_; omega) | (simp only [Z0,Z1,Z2,Z3,Z4,Z5,Z6,Z7,Z8,Z9,Za,Zb,Zc,Zd,Ze,Zf,List.cons.injEq,Zg,Zh,Zi,Zj,Zk,Zl,Zm,Zn,Zo,Zp,beq_self_eq_true,bne_self_eq_false,decide_true,decide_false,Zq,Zr,Zs,Zt,Zu,Zv,Zw,Zx,Zy,Zz,Y0,Y1,Y2,Y3,Y4,Y5,Y6,Y7,Y8,Y9,Ya,Yb,Yc,Yd,Ye,Yf,Yg,Yh,lk,ef,Yi,Yj,Yk,Yl,Ym,Yn,Yo,Yp,hv,Yq,ev,Yr,Ys,Yt,Yu,Yv,Yw,Yx,Yy,Yz,X0,X1,X2,X3,X4,X5,X6,X7,X8,X9,Xa,Xb,Xc,Xd,Xe,Xf,Xg,Xh,Xi,Xj,Xk,Xl,Xm,Xn,Value.oneCell',Xo,Xp,Xq,Xr,true_and,and_true,and_self,implies_true,Xs,Xt,Xu,Xv,false_implies,Xw,Xx,Xy,Xz,W0,W1,W2,W3,W4,W5,W6,W7,W8,W9,Wa,Wb,Wc,reduceCtorEq,if_true,if_false,Wd,↓reduceIte,We,Wf,Wg,Wh,Wi,Wj,ne_eq,not_false_eq_true,not_true_eq_false,Wk,Wl,r5_0,r5_1,r5_2,r5_3,r5_4,r5_5,r5_7,r5_6,r5_8,r5_9,r5_10,r5_11,r5_12,r5_13,r5_14,r5_15,r5_16,p5,l5_1,e1,h0,hmi,BS_45,BS_46,BS_app,BS_size,hTl,hf,Zt,List.length_append,List.length_singleton,hDWl,dl,Nat.le_refl,Nat.zero_le]) | (exfalso; omega)
      all_goals omega
end Go.Proofs.YtdfhpcghfmlfjaaGreatDoor
