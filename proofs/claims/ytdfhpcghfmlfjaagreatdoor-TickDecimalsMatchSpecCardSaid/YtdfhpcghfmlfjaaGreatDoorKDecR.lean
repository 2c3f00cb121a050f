/- Decimals of any scale: tick.ReadDecimal, by the machine on data. -/
import Derived.Test.YtdfhpcghfmlfjaaGreatDoorKDecG
namespace Go.Proofs.YtdfhpcghfmlfjaaGreatDoor
open Go.RowKit Go.Lib
open Go.Proofs.YtdfhpcghfmlfjaaGreatDoor renaming done_eq → Z0, done_eq' → Z1, donet_eq → Z2, donet_eq' → Z3, fin_val → Z4, fin_tup → Z5, fin_agg → Z6, fin_ro → Z7, res_one → Z8, res_more → Z9, rv_t → Za, rv_c → Zb, rv_l → Zc, int_eq → Zg, bool_eq → Zh, toNat_pred → Zr, toNat_succ → Zs, cnd_t → Zu, cnd_f → Zv, grd_tt → Zw, grd_u → Zx, grd_tf → Zy, grd_ft → Zz, grd_ff → Y0, g_skip → Y1, g_ops → Y2, g_seq → Y3, g_block → Y4, g_exit → Y5, g_ret → Y6, x_c → Y7, x_o → Y8, x_l → Y9, x_b → Ya, g_b → Yb, g_nil → Yc, r_all → Yd, o_nil → Ye, g_cond → Yf, o_guard → Yg, o_call → Yh, o_mv → Yi, o_pick → Yj, o_bin → Yk, o_un → Yl, o_idxs → Ym, o_lens → Yn, o_ext → Yo, o_asg → Yp, eqAV → Yq, view_t → Yr, view_c → Ys, view_nil → Yt, view_fn → Yu, look_own → Yv, look_box → Yw, look_junk → Yx, look_val → Yy, look_nilsl → Yz, look_ro → X0, look_roAt → X1, look_agg → X2, look_tup → X3, look_clo → X4, look_alias → X5, look_ref → X6, look_into → X7, rowOf → X8, cellsOf → X9, argv → Xa, vbin → Xb, vun → Xc, bnd → Xd, elemOf → Xe, putParts → Xf, setAt → Xg, zav → Xh, put_at → Xo, mk_at → Xp, mk_nil → Xq, initSt → Xr
open Go.Proofs.YtdfhpcghfmlfjaaGreatDoor.AV.tup renaming injEq → Zd
open Go.Proofs.YtdfhpcghfmlfjaaGreatDoor.AV.agg renaming injEq → Ze
open Go.Proofs.YtdfhpcghfmlfjaaGreatDoor.AV.ro renaming injEq → Zf
open _root_.Int renaming toNat_natCast → Zi, reduceToNat → Zj, toNat_zero → Zk, toNat_one → Zl, reduceLE → Zm, reduceLT → Zn, reduceBEq → Zo, reduceBNe → Zp, reduceNeg → Zq
open _root_.List renaming length_map → Zt, map_cons → Xs, map_nil → Xt, forall_mem_cons → Xu, not_mem_nil → Xv, length_cons → Xw, length_nil → Xx, getD_cons_zero → Xy, getD_cons_succ → Xz, getD_nil → W0, drop_succ_cons → W1, drop_zero → W2, take_succ_cons → W3, take_zero → W4, set_cons_zero → W5, set_cons_succ → W6, all_cons → W7, all_nil → W8
open Go.Proofs.YtdfhpcghfmlfjaaGreatDoor.ASt renaming rid → Xi, free → Xj
open Go.Proofs.YtdfhpcghfmlfjaaGreatDoor.AV renaming kill → Xk, isHome → Xl, noLoan → Xm, cellOK → Xn
open _root_.Bool renaming and_true → W9, true_and → Wa, not_true → Wb, not_false → Wc, false_eq_true → Wd
open _root_.Nat renaming reduceEqDiff → We, reduceAdd → Wf, reduceSub → Wg, reduceMul → Wh, reduceLeDiff → Wi, reduceLT → Wj, one_ne_zero → Wk, zero_ne_one → Wl
set_option linter.unusedSimpArgs false

def rdN (neg : Bool) (W P : List UInt8) (S : Nat) (way : Int) : Nat := rndN neg ((numL W * 10 ^ P.length + numL P) * S) (10 ^ P.length) way
def rdFin (neg : Bool) (N : Nat) : Int × Int := if 1000000000000000 < N then (0, 1) else ((if neg then -(N : Int) else N), 0)
def rdF (T : List UInt8) (sc way : Int) : Int × Int :=
  if noScale sc then (0, 1) else if outB way 1 3 then (0, 4) else if rdBad T (cutW (trimPrefix T [45])) (cutP (trimPrefix T [45])) (cutB (trimPrefix T [45])) then (0, 10)
  else rdFin (hasPrefix T [45]) (rdN (hasPrefix T [45]) (cutW (trimPrefix T [45])) (cutP (trimPrefix T [45])) sc.toNat way)
theorem rdN_split (neg : Bool) (w p S k : Nat) (way : Int) (hk : 0 < k) : rndN neg ((w * k + p) * S) k way = w * S + p * S / k + if upN neg (p * S % k) k way then 1 else 0 := by
  have e : (w * k + p) * S = p * S + k * (w * S) := by
    rw [Nat.add_mul, Nat.mul_right_comm, Nat.mul_comm (w * S) k]; omega
  unfold rndN
  rw [e, Nat.add_mul_mod_self_left, Nat.add_mul_div_left _ _ hk]
  split <;> omega
theorem rdN_ge (neg : Bool) (w p S k : Nat) (way : Int) (hk : 0 < k) : w * S ≤ rndN neg ((w * k + p) * S) k way := by
  rw [rdN_split _ _ _ _ _ _ hk, Nat.add_assoc]
  exact Nat.le_add_right _ _
theorem scl_w {w S : Nat} (hw : w ≤ 9999999999999999) (_hS : S ≤ 1000000000) : scl (w : Int) S 1 1 = ((min (w * S) 1152921504606846976 : Nat) : Int) := by
  rw [scl_pos _ _ _ (by omega), Int.natAbs_natCast]
  congr 1
  unfold sclA
  have e : rndB 1 (decide ((w : Int) < 0)) (w * S % 1) 1 = false := by
    simp [rndB]; omega
  rw [e, Nat.div_one]
  split
  · omega
  · simp
theorem noT (N : Nat) (neg : Bool) : noTime (if neg then -(N : Int) else N) = decide (1000000000000000 < N) := by
  cases neg <;> simp only [noTime, outB, if_true, Bool.false_eq_true, if_false] <;> rw [Bool.eq_iff_iff] <;> simp <;> omega
theorem cut_any (l : List UInt8) (hl : l.length ≤ 9223372036854775807) : CallOK Tryz.prog 22 [.val (.string (BS l)), .val (.string (BS [46]))] (.tup [.val (.string (BS (cutW l))), .val (.string (BS (cutP l))), .val (.bool (cutB l))]) := by
  have hlen := cut_len l
  cases h : cutB l with
  | true =>
    have hl2 := congrArg List.length (cut_yes' h)
    rw [List.length_append, List.length_cons] at hl2
    have := cut_yes (cutW l) (cutP l) (cutW_no l) (by omega)
    rw [← cut_yes' h] at this
    exact this
  | false =>
    obtain ⟨h1, h2⟩ := cut_no' h
    have := cut_no (cutW l) (cutW_no l)
    rw [← h1] at this
    rw [h2, ← h1]
    exact this
/-! headend/tick.ReadDecimal -/
def r6_0 : List POp := [⟨6, .asg (.c (.int .i64 0)), none⟩,
  ⟨7, .asg (.c (.int .i64 0)), none⟩]
def r6_1 : List POp := [⟨17, .mv (.t 1), none⟩,
  ⟨18, .call 10 [.t 17], none⟩,
  ⟨16, .asg (.t 18), none⟩]
def r6_2 : List POp := [⟨6, .asg (.c (.int .i64 0)), none⟩,
  ⟨7, .asg (.c (.int .i64 1)), none⟩]
def r6_3 : List POp := [⟨20, .mv (.t 2), none⟩,
  ⟨21, .call 20 [.t 20], none⟩,
  ⟨19, .asg (.t 21), none⟩]
def r6_4 : List POp := [⟨6, .asg (.c (.int .i64 0)), none⟩,
  ⟨7, .asg (.c (.int .i64 4)), none⟩]
def r6_5 : List POp := [⟨23, .mv (.t 0), none⟩,
  ⟨24, .call 21 [.t 23, .c (.string ⟨#[45]⟩)], none⟩,
  ⟨22, .mv (.t 24), none⟩,
  ⟨25, .ext 0 (.t 22), none⟩,
  ⟨26, .ext 1 (.t 22), none⟩,
  ⟨8, .mv (.t 25), none⟩,
  ⟨9, .mv (.t 26), none⟩]
def r6_6 : List POp := [⟨28, .mv (.t 8), none⟩,
  ⟨29, .call 22 [.t 28, .c (.string ⟨#[46]⟩)], none⟩,
  ⟨27, .mv (.t 29), none⟩,
  ⟨30, .ext 0 (.t 27), none⟩,
  ⟨31, .ext 1 (.t 27), none⟩,
  ⟨32, .ext 2 (.t 27), none⟩,
  ⟨10, .mv (.t 30), none⟩,
  ⟨11, .mv (.t 31), none⟩,
  ⟨12, .mv (.t 32), none⟩]
def r6_7 : List POp := [⟨33, .mv (.t 0), none⟩,
  ⟨34, .lens (.t 33), none⟩,
  ⟨35, .bin .gtr (.t 34) (.c (.int .i64 30)), none⟩,
  ⟨36, .mv (.t 35), none⟩,
  ⟨37, .mv (.t 10), some (36, false)⟩,
  ⟨38, .call 23 [.t 37], some (36, false)⟩,
  ⟨39, .un .not (.t 38), some (36, false)⟩,
  ⟨40, .pick (.t 36) (.c (.bool true)) (.t 39), none⟩,
  ⟨41, .mv (.t 40), none⟩,
  ⟨42, .mv (.t 10), some (41, false)⟩,
  ⟨43, .idxs (.t 42) (.c (.int .i64 0)), some (41, false)⟩,
  ⟨44, .bin .eql (.t 43) (.c (.int .u8 48)), some (41, false)⟩,
  ⟨45, .mv (.t 44), some (41, false)⟩,
  ⟨46, .mv (.t 10), some (45, true)⟩,
  ⟨47, .lens (.t 46), some (45, true)⟩,
  ⟨48, .bin .gtr (.t 47) (.c (.int .i64 1)), some (45, true)⟩,
  ⟨49, .pick (.t 45) (.t 48) (.c (.bool false)), some (41, false)⟩,
  ⟨50, .pick (.t 41) (.c (.bool true)) (.t 49), none⟩,
  ⟨51, .mv (.t 50), none⟩,
  ⟨52, .mv (.t 12), some (51, false)⟩,
  ⟨53, .mv (.t 52), some (51, false)⟩,
  ⟨54, .mv (.t 11), some (53, true)⟩,
  ⟨55, .call 23 [.t 54], some (53, true)⟩,
  ⟨56, .un .not (.t 55), some (53, true)⟩,
  ⟨57, .mv (.t 56), some (53, true)⟩,
  ⟨58, .mv (.t 11), some (57, false)⟩,
  ⟨59, .lens (.t 58), some (57, false)⟩,
  ⟨60, .bin .gtr (.t 59) (.c (.int .i64 9)), some (57, false)⟩,
  ⟨61, .pick (.t 57) (.c (.bool true)) (.t 60), some (53, true)⟩,
  ⟨62, .pick (.t 53) (.t 61) (.c (.bool false)), some (51, false)⟩,
  ⟨63, .pick (.t 51) (.c (.bool true)) (.t 62), none⟩]
def r6_8 : List POp := [⟨6, .asg (.c (.int .i64 0)), none⟩,
  ⟨7, .asg (.c (.int .i64 10)), none⟩]
def r6_9 : List POp := [⟨64, .mv (.t 10), none⟩,
  ⟨65, .lens (.t 64), none⟩,
  ⟨66, .bin .gtr (.t 65) (.c (.int .i64 16)), none⟩]
def r6_10 : List POp := [⟨6, .asg (.c (.int .i64 0)), none⟩,
  ⟨7, .asg (.c (.int .i64 1)), none⟩]
def r6_11 : List POp := [⟨67, .mv (.t 10), none⟩,
  ⟨68, .call 24 [.t 67], none⟩,
  ⟨69, .mv (.t 1), none⟩,
  ⟨70, .call 13 [.t 68, .t 69, .c (.int .i64 1), .c (.int .i64 1)], none⟩,
  ⟨13, .asg (.t 70), none⟩]
def r6_12 : List POp := [⟨71, .mv (.t 13), none⟩,
  ⟨72, .bin .gtr (.t 71) (.c (.int .i64 1000000000000000)), none⟩]
def r6_13 : List POp := [⟨6, .asg (.c (.int .i64 0)), none⟩,
  ⟨7, .asg (.c (.int .i64 1)), none⟩]
def r6_14 : List POp := [⟨73, .mv (.t 11), none⟩,
  ⟨74, .lens (.t 73), none⟩,
  ⟨75, .call 12 [.t 74], none⟩,
  ⟨14, .asg (.t 75), none⟩]
def r6_15 : List POp := [⟨76, .mv (.t 11), none⟩,
  ⟨77, .call 24 [.t 76], none⟩,
  ⟨78, .mv (.t 1), none⟩,
  ⟨79, .bin .mul (.t 77) (.t 78), none⟩,
  ⟨15, .asg (.t 79), none⟩]
def r6_16 : List POp := [⟨80, .mv (.t 13), none⟩,
  ⟨81, .mv (.t 15), none⟩,
  ⟨82, .mv (.t 14), none⟩,
  ⟨83, .bin .quo (.t 81) (.t 82), none⟩,
  ⟨84, .bin .add (.t 80) (.t 83), none⟩,
  ⟨13, .asg (.t 84), none⟩]
def r6_17 : List POp := [⟨85, .mv (.t 9), none⟩]
def r6_18 : List POp := [⟨86, .mv (.t 13), none⟩,
  ⟨87, .un .neg (.t 86), none⟩,
  ⟨13, .asg (.t 87), none⟩]
def r6_19 : List POp := [⟨88, .mv (.t 13), none⟩,
  ⟨89, .mv (.t 15), none⟩,
  ⟨90, .mv (.t 14), none⟩,
  ⟨91, .bin .rem (.t 89) (.t 90), none⟩,
  ⟨92, .mv (.t 14), none⟩,
  ⟨93, .mv (.t 2), none⟩,
  ⟨94, .call 25 [.t 91, .t 92, .t 93], none⟩,
  ⟨95, .bin .add (.t 88) (.t 94), none⟩,
  ⟨13, .asg (.t 95), none⟩]
def r6_20 : List POp := [⟨96, .mv (.t 13), none⟩,
  ⟨97, .mv (.t 15), none⟩,
  ⟨98, .mv (.t 14), none⟩,
  ⟨99, .bin .rem (.t 97) (.t 98), none⟩,
  ⟨100, .mv (.t 14), none⟩,
  ⟨101, .mv (.t 2), none⟩,
  ⟨102, .call 26 [.t 99, .t 100, .t 101], none⟩,
  ⟨103, .bin .add (.t 96) (.t 102), none⟩,
  ⟨13, .asg (.t 103), none⟩]
def r6_21 : List POp := [⟨104, .mv (.t 13), none⟩,
  ⟨105, .call 9 [.t 104], none⟩]
def r6_22 : List POp := [⟨6, .asg (.c (.int .i64 0)), none⟩,
  ⟨7, .asg (.c (.int .i64 1)), none⟩]
def r6_23 : List POp := [⟨106, .mv (.t 13), none⟩,
  ⟨6, .asg (.t 106), none⟩,
  ⟨7, .asg (.c (.int .i64 0)), none⟩]
def p6 : PCode := .seq (.ops r6_0) (.seq (.block 0 (.seq (.ops r6_1) (.cond (.t 16) (.seq (.ops r6_2) (.ret)) (.seq (.ops r6_3) (.cond (.t 19) (.seq (.ops r6_4) (.ret)) (.skip)))))) (.seq (.ops r6_5) (.seq (.ops r6_6) (.seq (.seq (.ops r6_7) (.cond (.t 63) (.seq (.ops r6_8) (.ret)) (.skip))) (.seq (.seq (.ops r6_9) (.cond (.t 66) (.seq (.ops r6_10) (.ret)) (.skip))) (.seq (.ops r6_11) (.seq (.seq (.ops r6_12) (.cond (.t 72) (.seq (.ops r6_13) (.ret)) (.skip))) (.seq (.ops r6_14) (.seq (.ops r6_15) (.seq (.ops r6_16) (.seq (.seq (.ops r6_17) (.cond (.t 85) (.seq (.ops r6_18) (.ops r6_19)) (.ops r6_20))) (.seq (.seq (.ops r6_21) (.cond (.t 105) (.seq (.ops r6_22) (.ret)) (.skip))) (.seq (.ops r6_23) (.ret))))))))))))))
theorem ok6 : okFunc Tryz.prog 6 [.t 6, .t 7] 3 p6 = true := by kernel_rfl
set_option maxHeartbeats 8000000 in
set_option maxRecDepth 20000 in
theorem rdec_g (T : List UInt8) (sc way : Int) (hT : T.length ≤ 9223372036854775807) : CallOK Tryz.prog 6 [.val (.string (BS T)), .val (.int .i64 sc), .val (.int .i64 way)] (.tup [.val (.int .i64 (rdF T sc way).1), .val (.int .i64 (rdF T sc way).2)]) := by
  refine call_of mixed ok6 rfl ?_
  by_cases o2 : noScale sc = true
  · rw [show rdF T sc way = (0, 1) by simp [rdF, o2]]
    repeat' first | ((with_reducible (first | refine condD ?_ ?_ | refine condE ?_ ?_ | refine condN ?_ ?_ | refine condI ?_ ?_ | refine condS ?_ ?_)) <;> intro h) | ((with_reducible (first | refine guardD (by with_unfolding_all rfl) ?_ ?_ | refine guardE (by with_unfolding_all rfl) ?_ ?_ | refine guardN (by with_unfolding_all rfl) ?_ ?_ | refine guardI (by with_unfolding_all rfl) ?_ ?_ | refine guardS (by with_unfolding_all rfl) ?_ ?_)) <;> intro h) | ((refine callG (noscale_c _) ?_)) | (with_reducible refine And.intro ?_ ?_; omega) | (simp only [Z0,Z1,Z2,Z3,Z4,Z5,Z6,Z7,Z8,Z9,Za,Zb,Zc,Zd,Ze,Zf,List.cons.injEq,Zg,Zh,Zi,Zj,Zk,Zl,Zm,Zn,Zo,Zp,beq_self_eq_true,bne_self_eq_false,decide_true,decide_false,Zq,Zr,Zs,Zt,Zu,Zv,Zw,Zx,Zy,Zz,Y0,Y1,Y2,Y3,Y4,Y5,Y6,Y7,Y8,Y9,Ya,Yb,Yc,Yd,Ye,Yf,Yg,Yh,lk,ef,Yi,Yj,Yk,Yl,Ym,Yn,Yo,Yp,hv,Yq,ev,Yr,Ys,Yt,Yu,Yv,Yw,Yx,Yy,Yz,X0,X1,X2,X3,X4,X5,X6,X7,X8,X9,Xa,Xb,Xc,Xd,Xe,Xf,Xg,Xh,Xi,Xj,Xk,Xl,Xm,Xn,Value.oneCell',Xo,Xp,Xq,Xr,true_and,and_true,and_self,implies_true,Xs,Xt,Xu,Xv,false_implies,Xw,Xx,Xy,Xz,W0,W1,W2,W3,W4,W5,W6,W7,W8,W9,Wa,Wb,Wc,reduceCtorEq,if_true,if_false,Wd,↓reduceIte,We,Wf,Wg,Wh,Wi,Wj,ne_eq,not_false_eq_true,not_true_eq_false,Wk,Wl,r6_0,r6_1,r6_2,r6_3,r6_4,r6_5,r6_6,r6_7,r6_8,r6_9,r6_10,r6_11,r6_12,r6_13,r6_14,r6_15,r6_16,r6_17,r6_18,r6_19,r6_20,r6_21,r6_22,r6_23,p6,o2]) | (exfalso; omega)
  rw [Bool.not_eq_true] at o2
  by_cases hw : outB way 1 3 = true
  · rw [show rdF T sc way = (0, 4) by simp [rdF, o2, hw]]
    repeat' first | ((with_reducible (first | refine condD ?_ ?_ | refine condE ?_ ?_ | refine condN ?_ ?_ | refine condI ?_ ?_ | refine condS ?_ ?_)) <;> intro h) | ((with_reducible (first | refine guardD (by with_unfolding_all rfl) ?_ ?_ | refine guardE (by with_unfolding_all rfl) ?_ ?_ | refine guardN (by with_unfolding_all rfl) ?_ ?_ | refine guardI (by with_unfolding_all rfl) ?_ ?_ | refine guardS (by with_unfolding_all rfl) ?_ ?_)) <;> intro h) | ((refine callG (noscale_c _) ?_)) | ((refine callG (noway_c _) ?_)) | (with_reducible refine And.intro ?_ ?_; omega) | (simp only [Z0,Z1,Z2,Z3,Z4,Z5,Z6,Z7,Z8,Z9,Za,Zb,Zc,Zd,Ze,Zf,List.cons.injEq,Zg,Zh,Zi,Zj,Zk,Zl,Zm,Zn,Zo,Zp,beq_self_eq_true,bne_self_eq_false,decide_true,decide_false,Zq,Zr,Zs,Zt,Zu,Zv,Zw,Zx,Zy,Zz,Y0,Y1,Y2,Y3,Y4,Y5,Y6,Y7,Y8,Y9,Ya,Yb,Yc,Yd,Ye,Yf,Yg,Yh,lk,ef,Yi,Yj,Yk,Yl,Ym,Yn,Yo,Yp,hv,Yq,ev,Yr,Ys,Yt,Yu,Yv,Yw,Yx,Yy,Yz,X0,X1,X2,X3,X4,X5,X6,X7,X8,X9,Xa,Xb,Xc,Xd,Xe,Xf,Xg,Xh,Xi,Xj,Xk,Xl,Xm,Xn,Value.oneCell',Xo,Xp,Xq,Xr,true_and,and_true,and_self,implies_true,Xs,Xt,Xu,Xv,false_implies,Xw,Xx,Xy,Xz,W0,W1,W2,W3,W4,W5,W6,W7,W8,W9,Wa,Wb,Wc,reduceCtorEq,if_true,if_false,Wd,↓reduceIte,We,Wf,Wg,Wh,Wi,Wj,ne_eq,not_false_eq_true,not_true_eq_false,Wk,Wl,r6_0,r6_1,r6_2,r6_3,r6_4,r6_5,r6_6,r6_7,r6_8,r6_9,r6_10,r6_11,r6_12,r6_13,r6_14,r6_15,r6_16,r6_17,r6_18,r6_19,r6_20,r6_21,r6_22,r6_23,p6,o2,hw]) | (exfalso; omega)
  rw [Bool.not_eq_true] at hw
  have hF : rdF T sc way = if rdBad T (cutW (trimPrefix T [45])) (cutP (trimPrefix T [45])) (cutB (trimPrefix T [45])) then (0, 10)
      else rdFin (hasPrefix T [45]) (rdN (hasPrefix T [45]) (cutW (trimPrefix T [45])) (cutP (trimPrefix T [45])) sc.toNat way) := by simp [rdF, o2, hw]
  rw [hF]
  clear hF
  have hCP := cutp_c T
  have hUl := trim_len T
  have hCut := cut_any (trimPrefix T [45]) (by omega)
  have hWP := cut_len (trimPrefix T [45])
  have hPz : cutB (trimPrefix T [45]) = false → cutP (trimPrefix T [45]) = [] := fun h => (cut_no' h).2
  generalize hasPrefix T [45] = neg at *
  generalize cutW (trimPrefix T [45]) = W at *
  generalize cutP (trimPrefix T [45]) = P at *
  generalize cutB (trimPrefix T [45]) = pt at *
  generalize trimPrefix T [45] = U at *
  by_cases c30 : 30 < T.length
  · have i30 : (30 : Int) < T.length := by omega
    rw [if_pos (by simp [rdBad, c30])]
    repeat' first | ((with_reducible (first | refine condD ?_ ?_ | refine condE ?_ ?_ | refine condN ?_ ?_ | refine condI ?_ ?_ | refine condS ?_ ?_)) <;> intro h) | ((with_reducible (first | refine guardD (by with_unfolding_all rfl) ?_ ?_ | refine guardE (by with_unfolding_all rfl) ?_ ?_ | refine guardN (by with_unfolding_all rfl) ?_ ?_ | refine guardI (by with_unfolding_all rfl) ?_ ?_ | refine guardS (by with_unfolding_all rfl) ?_ ?_)) <;> intro h) | ((refine callG (noscale_c _) ?_)) | ((refine callG (noway_c _) ?_)) | ((refine callG hCP ?_)) | ((refine callG hCut ?_)) | (with_reducible refine And.intro ?_ ?_; omega) | (simp only [Z0,Z1,Z2,Z3,Z4,Z5,Z6,Z7,Z8,Z9,Za,Zb,Zc,Zd,Ze,Zf,List.cons.injEq,Zg,Zh,Zi,Zj,Zk,Zl,Zm,Zn,Zo,Zp,beq_self_eq_true,bne_self_eq_false,decide_true,decide_false,Zq,Zr,Zs,Zt,Zu,Zv,Zw,Zx,Zy,Zz,Y0,Y1,Y2,Y3,Y4,Y5,Y6,Y7,Y8,Y9,Ya,Yb,Yc,Yd,Ye,Yf,Yg,Yh,lk,ef,Yi,Yj,Yk,Yl,Ym,Yn,Yo,Yp,hv,Yq,ev,Yr,Ys,Yt,Yu,Yv,Yw,Yx,Yy,Yz,X0,X1,X2,X3,X4,X5,X6,X7,X8,X9,Xa,Xb,Xc,Xd,Xe,Xf,Xg,Xh,Xi,Xj,Xk,Xl,Xm,Xn,Value.oneCell',Xo,Xp,Xq,Xr,true_and,and_true,and_self,implies_true,Xs,Xt,Xu,Xv,false_implies,Xw,Xx,Xy,Xz,W0,W1,W2,W3,W4,W5,W6,W7,W8,W9,Wa,Wb,Wc,reduceCtorEq,if_true,if_false,Wd,↓reduceIte,We,Wf,Wg,Wh,Wi,Wj,ne_eq,not_false_eq_true,not_true_eq_false,Wk,Wl,r6_0,r6_1,r6_2,r6_3,r6_4,r6_5,r6_6,r6_7,r6_8,r6_9,r6_10,r6_11,r6_12,r6_13,r6_14,r6_15,r6_16,r6_17,r6_18,r6_19,r6_20,r6_21,r6_22,r6_23,p6,BS_45,BS_46,BS_size,o2,hw,i30]) | (exfalso; omega)
  have i30 : ¬ (30 : Int) < T.length := by omega
  have hA1 := alldg_c W (by omega)
  have hA2 := alldg_c P (by omega)
  cases r1 : rowB W with
  | false =>
    rw [r1] at hA1
    rw [if_pos (by simp [rdBad, r1])]
    repeat' first | ((with_reducible (first | refine condD ?_ ?_ | refine condE ?_ ?_ | refine condN ?_ ?_ | refine condI ?_ ?_ | refine condS ?_ ?_)) <;> intro h) | ((with_reducible (first | refine guardD (by with_unfolding_all rfl) ?_ ?_ | refine guardE (by with_unfolding_all rfl) ?_ ?_ | refine guardN (by with_unfolding_all rfl) ?_ ?_ | refine guardI (by with_unfolding_all rfl) ?_ ?_ | refine guardS (by with_unfolding_all rfl) ?_ ?_)) <;> intro h) | ((refine callG (noscale_c _) ?_)) | ((refine callG (noway_c _) ?_)) | ((refine callG hCP ?_)) | ((refine callG hCut ?_)) | ((refine callG hA1 ?_)) | (with_reducible refine And.intro ?_ ?_; omega) | (simp only [Z0,Z1,Z2,Z3,Z4,Z5,Z6,Z7,Z8,Z9,Za,Zb,Zc,Zd,Ze,Zf,List.cons.injEq,Zg,Zh,Zi,Zj,Zk,Zl,Zm,Zn,Zo,Zp,beq_self_eq_true,bne_self_eq_false,decide_true,decide_false,Zq,Zr,Zs,Zt,Zu,Zv,Zw,Zx,Zy,Zz,Y0,Y1,Y2,Y3,Y4,Y5,Y6,Y7,Y8,Y9,Ya,Yb,Yc,Yd,Ye,Yf,Yg,Yh,lk,ef,Yi,Yj,Yk,Yl,Ym,Yn,Yo,Yp,hv,Yq,ev,Yr,Ys,Yt,Yu,Yv,Yw,Yx,Yy,Yz,X0,X1,X2,X3,X4,X5,X6,X7,X8,X9,Xa,Xb,Xc,Xd,Xe,Xf,Xg,Xh,Xi,Xj,Xk,Xl,Xm,Xn,Value.oneCell',Xo,Xp,Xq,Xr,true_and,and_true,and_self,implies_true,Xs,Xt,Xu,Xv,false_implies,Xw,Xx,Xy,Xz,W0,W1,W2,W3,W4,W5,W6,W7,W8,W9,Wa,Wb,Wc,reduceCtorEq,if_true,if_false,Wd,↓reduceIte,We,Wf,Wg,Wh,Wi,Wj,ne_eq,not_false_eq_true,not_true_eq_false,Wk,Wl,r6_0,r6_1,r6_2,r6_3,r6_4,r6_5,r6_6,r6_7,r6_8,r6_9,r6_10,r6_11,r6_12,r6_13,r6_14,r6_15,r6_16,r6_17,r6_18,r6_19,r6_20,r6_21,r6_22,r6_23,p6,BS_45,BS_46,BS_size,o2,hw,i30]) | (exfalso; omega)
  | true =>
  rw [r1] at hA1
  obtain ⟨hWne, hWd⟩ := rowB_t r1
  have hWp : 0 < W.length := List.length_pos_iff.2 hWne
  have hWpi : (0 : Int) < W.length := by omega
  by_cases z0 : W.getD 0 0 = 48 ∧ 1 < W.length
  · have z1 : ((((W.getD 0 0).toNat : Nat) : Int) == 48) = true := by rw [z0.1]; rfl
    have z2 : (1 : Int) < W.length := by omega
    rw [if_pos (by unfold rdBad; rw [decide_eq_true z0.1, decide_eq_true z0.2]; simp)]
    generalize hw0 : W.getD 0 0 = w0 at *
    repeat' first | ((with_reducible (first | refine condD ?_ ?_ | refine condE ?_ ?_ | refine condN ?_ ?_ | refine condI ?_ ?_ | refine condS ?_ ?_)) <;> intro h) | ((with_reducible (first | refine guardD (by with_unfolding_all rfl) ?_ ?_ | refine guardE (by with_unfolding_all rfl) ?_ ?_ | refine guardN (by with_unfolding_all rfl) ?_ ?_ | refine guardI (by with_unfolding_all rfl) ?_ ?_ | refine guardS (by with_unfolding_all rfl) ?_ ?_)) <;> intro h) | ((refine callG (noscale_c _) ?_)) | ((refine callG (noway_c _) ?_)) | ((refine callG hCP ?_)) | ((refine callG hCut ?_)) | ((refine callG hA1 ?_)) | (with_reducible refine And.intro ?_ ?_; omega) | (simp only [Z0,Z1,Z2,Z3,Z4,Z5,Z6,Z7,Z8,Z9,Za,Zb,Zc,Zd,Ze,Zf,List.cons.injEq,Zg,Zh,Zi,Zj,Zk,Zl,Zm,Zn,Zo,Zp,beq_self_eq_true,bne_self_eq_false,decide_true,decide_false,Zq,Zr,Zs,Zt,Zu,Zv,Zw,Zx,Zy,Zz,Y0,Y1,Y2,Y3,Y4,Y5,Y6,Y7,Y8,Y9,Ya,Yb,Yc,Yd,Ye,Yf,Yg,Yh,lk,ef,Yi,Yj,Yk,Yl,Ym,Yn,Yo,Yp,hv,Yq,ev,Yr,Ys,Yt,Yu,Yv,Yw,Yx,Yy,Yz,X0,X1,X2,X3,X4,X5,X6,X7,X8,X9,Xa,Xb,Xc,Xd,Xe,Xf,Xg,Xh,Xi,Xj,Xk,Xl,Xm,Xn,Value.oneCell',Xo,Xp,Xq,Xr,true_and,and_true,and_self,implies_true,Xs,Xt,Xu,Xv,false_implies,Xw,Xx,Xy,Xz,W0,W1,W2,W3,W4,W5,W6,W7,W8,W9,Wa,Wb,Wc,reduceCtorEq,if_true,if_false,Wd,↓reduceIte,We,Wf,Wg,Wh,Wi,Wj,ne_eq,not_false_eq_true,not_true_eq_false,Wk,Wl,r6_0,r6_1,r6_2,r6_3,r6_4,r6_5,r6_6,r6_7,r6_8,r6_9,r6_10,r6_11,r6_12,r6_13,r6_14,r6_15,r6_16,r6_17,r6_18,r6_19,r6_20,r6_21,r6_22,r6_23,p6,BS_45,BS_46,BS_size,BS_data,o2,hw,i30,hw0,hWpi,z1,z2]) | (exfalso; omega)
  have h48 : ((((W.getD 0 0).toNat : Nat) : Int) == 48) = true ∧ ¬ (1 : Int) < W.length ∨ ((((W.getD 0 0).toNat : Nat) : Int) == 48) = false := by
    by_cases q : W.getD 0 0 = 48
    · left
      exact ⟨by rw [q]; rfl, fun z => z0 ⟨q, by omega⟩⟩
    · right
      rw [beq_eq_false_iff_ne]
      intro z
      exact q (UInt8.toNat_inj.1 (by change _ = 48; omega))
  have hbd : (decide (W.getD 0 0 = 48) && decide (1 < W.length)) = false := by
    rw [← Bool.decide_and]; exact decide_eq_false z0
  have hBad : rdBad T W P pt = (pt && (!rowB P || decide (9 < P.length))) := by
    unfold rdBad
    rw [decide_eq_false c30, r1, hbd]
    simp
  rw [hBad]
  have hlead : 16 < W.length → 10000000000000000 ≤ numL W := fun h => by
    have h0 : W.getD 0 0 ≠ 48 := fun e => z0 ⟨e, by omega⟩
    have h1 := numL_ge hWne hWd h0
    have h2 : 10 ^ 16 ≤ 10 ^ (W.length - 1) := Nat.pow_le_pow_right (by decide) (by omega)
    omega
  have hWn : W.length ≤ 16 → numL W ≤ 9999999999999999 := fun h => by
    have h1 := numL_lt hWd
    have h2 : 10 ^ W.length ≤ 10 ^ 16 := Nat.pow_le_pow_right (by decide) h
    omega
  generalize hw0 : W.getD 0 0 = w0 at *
  clear hBad hbd z0
  by_cases b1 : pt = true ∧ rowB P = false
  · obtain ⟨rfl, r2⟩ := b1
    rw [r2] at hA2
    rw [r2, if_pos (by simp)]
    rcases h48 with ⟨z1, z2⟩ | z1
    · repeat' first | ((with_reducible (first | refine condD ?_ ?_ | refine condE ?_ ?_ | refine condN ?_ ?_ | refine condI ?_ ?_ | refine condS ?_ ?_)) <;> intro h) | ((with_reducible (first | refine guardD (by with_unfolding_all rfl) ?_ ?_ | refine guardE (by with_unfolding_all rfl) ?_ ?_ | refine guardN (by with_unfolding_all rfl) ?_ ?_ | refine guardI (by with_unfolding_all rfl) ?_ ?_ | refine guardS (by with_unfolding_all rfl) ?_ ?_)) <;> intro h) | ((refine callG (noscale_c _) ?_)) | ((refine callG (noway_c _) ?_)) | ((refine callG hCP ?_)) | ((refine callG hCut ?_)) | ((refine callG hA1 ?_)) | ((refine callG hA2 ?_)) | (with_reducible refine And.intro ?_ ?_; omega) | (simp only [Z0,Z1,Z2,Z3,Z4,Z5,Z6,Z7,Z8,Z9,Za,Zb,Zc,Zd,Ze,Zf,List.cons.injEq,Zg,Zh,Zi,Zj,Zk,Zl,Zm,Zn,Zo,Zp,beq_self_eq_true,bne_self_eq_false,decide_true,decide_false,Zq,Zr,Zs,Zt,Zu,Zv,Zw,Zx,Zy,Zz,Y0,Y1,Y2,Y3,Y4,Y5,Y6,Y7,Y8,Y9,Ya,Yb,Yc,Yd,Ye,Yf,Yg,Yh,lk,ef,Yi,Yj,Yk,Yl,Ym,Yn,Yo,Yp,hv,Yq,ev,Yr,Ys,Yt,Yu,Yv,Yw,Yx,Yy,Yz,X0,X1,X2,X3,X4,X5,X6,X7,X8,X9,Xa,Xb,Xc,Xd,Xe,Xf,Xg,Xh,Xi,Xj,Xk,Xl,Xm,Xn,Value.oneCell',Xo,Xp,Xq,Xr,true_and,and_true,and_self,implies_true,Xs,Xt,Xu,Xv,false_implies,Xw,Xx,Xy,Xz,W0,W1,W2,W3,W4,W5,W6,W7,W8,W9,Wa,Wb,Wc,reduceCtorEq,if_true,if_false,Wd,↓reduceIte,We,Wf,Wg,Wh,Wi,Wj,ne_eq,not_false_eq_true,not_true_eq_false,Wk,Wl,r6_0,r6_1,r6_2,r6_3,r6_4,r6_5,r6_6,r6_7,r6_8,r6_9,r6_10,r6_11,r6_12,r6_13,r6_14,r6_15,r6_16,r6_17,r6_18,r6_19,r6_20,r6_21,r6_22,r6_23,p6,BS_45,BS_46,BS_size,BS_data,o2,hw,i30,hw0,hWpi,z1,z2]) | (exfalso; omega)
    · repeat' first | ((with_reducible (first | refine condD ?_ ?_ | refine condE ?_ ?_ | refine condN ?_ ?_ | refine condI ?_ ?_ | refine condS ?_ ?_)) <;> intro h) | ((with_reducible (first | refine guardD (by with_unfolding_all rfl) ?_ ?_ | refine guardE (by with_unfolding_all rfl) ?_ ?_ | refine guardN (by with_unfolding_all rfl) ?_ ?_ | refine guardI (by with_unfolding_all rfl) ?_ ?_ | refine guardS (by with_unfolding_all rfl) ?_ ?_)) <;> intro h) | ((refine callG (noscale_c _) ?_)) | ((refine callG (noway_c _) ?_)) | ((refine callG hCP ?_)) | ((refine callG hCut ?_)) | ((refine callG hA1 ?_)) | ((refine callG hA2 ?_)) | (with_reducible refine And.intro ?_ ?_; omega) | (simp only [Z0,Z1,Z2,Z3,Z4,Z5,Z6,Z7,Z8,Z9,Za,Zb,Zc,Zd,Ze,Zf,List.cons.injEq,Zg,Zh,Zi,Zj,Zk,Zl,Zm,Zn,Zo,Zp,beq_self_eq_true,bne_self_eq_false,decide_true,decide_false,Zq,Zr,Zs,Zt,Zu,Zv,Zw,Zx,Zy,Zz,Y0,Y1,Y2,Y3,Y4,Y5,Y6,Y7,Y8,Y9,Ya,Yb,Yc,Yd,Ye,Yf,Yg,Yh,lk,ef,Yi,Yj,Yk,Yl,Ym,Yn,Yo,Yp,hv,Yq,ev,Yr,Ys,Yt,Yu,Yv,Yw,Yx,Yy,Yz,X0,X1,X2,X3,X4,X5,X6,X7,X8,X9,Xa,Xb,Xc,Xd,Xe,Xf,Xg,Xh,Xi,Xj,Xk,Xl,Xm,Xn,Value.oneCell',Xo,Xp,Xq,Xr,true_and,and_true,and_self,implies_true,Xs,Xt,Xu,Xv,false_implies,Xw,Xx,Xy,Xz,W0,W1,W2,W3,W4,W5,W6,W7,W8,W9,Wa,Wb,Wc,reduceCtorEq,if_true,if_false,Wd,↓reduceIte,We,Wf,Wg,Wh,Wi,Wj,ne_eq,not_false_eq_true,not_true_eq_false,Wk,Wl,r6_0,r6_1,r6_2,r6_3,r6_4,r6_5,r6_6,r6_7,r6_8,r6_9,r6_10,r6_11,r6_12,r6_13,r6_14,r6_15,r6_16,r6_17,r6_18,r6_19,r6_20,r6_21,r6_22,r6_23,p6,BS_45,BS_46,BS_size,BS_data,o2,hw,i30,hw0,hWpi,z1]) | (exfalso; omega)
  have hr2 : pt = true → rowB P = true := fun q => by
    cases r2 : rowB P with
    | true => rfl
    | false => exact absurd ⟨q, r2⟩ b1
  by_cases b2 : pt = true ∧ 9 < P.length
  · obtain ⟨rfl, p9⟩ := b2
    have i9 : (9 : Int) < P.length := by omega
    rw [hr2 rfl] at hA2
    rw [hr2 rfl, decide_eq_true p9, if_pos (by simp)]
    rcases h48 with ⟨z1, z2⟩ | z1
    · repeat' first | ((with_reducible (first | refine condD ?_ ?_ | refine condE ?_ ?_ | refine condN ?_ ?_ | refine condI ?_ ?_ | refine condS ?_ ?_)) <;> intro h) | ((with_reducible (first | refine guardD (by with_unfolding_all rfl) ?_ ?_ | refine guardE (by with_unfolding_all rfl) ?_ ?_ | refine guardN (by with_unfolding_all rfl) ?_ ?_ | refine guardI (by with_unfolding_all rfl) ?_ ?_ | refine guardS (by with_unfolding_all rfl) ?_ ?_)) <;> intro h) | ((refine callG (noscale_c _) ?_)) | ((refine callG (noway_c _) ?_)) | ((refine callG hCP ?_)) | ((refine callG hCut ?_)) | ((refine callG hA1 ?_)) | ((refine callG hA2 ?_)) | (with_reducible refine And.intro ?_ ?_; omega) | (simp only [Z0,Z1,Z2,Z3,Z4,Z5,Z6,Z7,Z8,Z9,Za,Zb,Zc,Zd,Ze,Zf,List.cons.injEq,Zg,Zh,Zi,Zj,Zk,Zl,Zm,Zn,Zo,Zp,beq_self_eq_true,bne_self_eq_false,decide_true,decide_false,Zq,Zr,Zs,Zt,Zu,Zv,Zw,Zx,Zy,Zz,Y0,Y1,Y2,Y3,Y4,Y5,Y6,Y7,Y8,Y9,Ya,Yb,Yc,Yd,Ye,Yf,Yg,Yh,lk,ef,Yi,Yj,Yk,Yl,Ym,Yn,Yo,Yp,hv,Yq,ev,Yr,Ys,Yt,Yu,Yv,Yw,Yx,Yy,Yz,X0,X1,X2,X3,X4,X5,X6,X7,X8,X9,Xa,Xb,Xc,Xd,Xe,Xf,Xg,Xh,Xi,Xj,Xk,Xl,Xm,Xn,Value.oneCell',Xo,Xp,Xq,Xr,true_and,and_true,and_self,implies_true,Xs,Xt,Xu,Xv,false_implies,Xw,Xx,Xy,Xz,W0,W1,W2,W3,W4,W5,W6,W7,W8,W9,Wa,Wb,Wc,reduceCtorEq,if_true,if_false,Wd,↓reduceIte,We,Wf,Wg,Wh,Wi,Wj,ne_eq,not_false_eq_true,not_true_eq_false,Wk,Wl,r6_0,r6_1,r6_2,r6_3,r6_4,r6_5,r6_6,r6_7,r6_8,r6_9,r6_10,r6_11,r6_12,r6_13,r6_14,r6_15,r6_16,r6_17,r6_18,r6_19,r6_20,r6_21,r6_22,r6_23,p6,BS_45,BS_46,BS_size,BS_data,o2,hw,i30,i9,hw0,hWpi,z1,z2]) | (exfalso; omega)
    · repeat' first | ((with_reducible (first | refine condD ?_ ?_ | refine condE ?_ ?_ | refine condN ?_ ?_ | refine condI ?_ ?_ | refine condS ?_ ?_)) <;> intro h) | ((with_reducible (first | refine guardD (by with_unfolding_all rfl) ?_ ?_ | refine guardE (by with_unfolding_all rfl) ?_ ?_ | refine guardN (by with_unfolding_all rfl) ?_ ?_ | refine guardI (by with_unfolding_all rfl) ?_ ?_ | refine guardS (by with_unfolding_all rfl) ?_ ?_)) <;> intro h) | ((refine callG (noscale_c _) ?_)) | ((refine callG (noway_c _) ?_)) | ((refine callG hCP ?_)) | ((refine callG hCut ?_)) | ((refine callG hA1 ?_)) | ((refine callG hA2 ?_)) | (with_reducible refine And.intro ?_ ?_; omega) | (simp only [Z0,Z1,Z2,Z3,Z4,Z5,Z6,Z7,Z8,Z9,Za,Zb,Zc,Zd,Ze,Zf,List.cons.injEq,Zg,Zh,Zi,Zj,Zk,Zl,Zm,Zn,Zo,Zp,beq_self_eq_true,bne_self_eq_false,decide_true,decide_false,Zq,Zr,Zs,Zt,Zu,Zv,Zw,Zx,Zy,Zz,Y0,Y1,Y2,Y3,Y4,Y5,Y6,Y7,Y8,Y9,Ya,Yb,Yc,Yd,Ye,Yf,Yg,Yh,lk,ef,Yi,Yj,Yk,Yl,Ym,Yn,Yo,Yp,hv,Yq,ev,Yr,Ys,Yt,Yu,Yv,Yw,Yx,Yy,Yz,X0,X1,X2,X3,X4,X5,X6,X7,X8,X9,Xa,Xb,Xc,Xd,Xe,Xf,Xg,Xh,Xi,Xj,Xk,Xl,Xm,Xn,Value.oneCell',Xo,Xp,Xq,Xr,true_and,and_true,and_self,implies_true,Xs,Xt,Xu,Xv,false_implies,Xw,Xx,Xy,Xz,W0,W1,W2,W3,W4,W5,W6,W7,W8,W9,Wa,Wb,Wc,reduceCtorEq,if_true,if_false,Wd,↓reduceIte,We,Wf,Wg,Wh,Wi,Wj,ne_eq,not_false_eq_true,not_true_eq_false,Wk,Wl,r6_0,r6_1,r6_2,r6_3,r6_4,r6_5,r6_6,r6_7,r6_8,r6_9,r6_10,r6_11,r6_12,r6_13,r6_14,r6_15,r6_16,r6_17,r6_18,r6_19,r6_20,r6_21,r6_22,r6_23,p6,BS_45,BS_46,BS_size,BS_data,o2,hw,i30,i9,hw0,hWpi,z1]) | (exfalso; omega)
  have hp9 : P.length ≤ 9 := by
    cases pt with
    | true => exact Nat.le_of_not_lt fun z => b2 ⟨rfl, z⟩
    | false => rw [hPz rfl]; decide
  have hPd : ∀ c ∈ P, digB c = true := by
    cases pt with
    | true => exact (rowB_t (hr2 rfl)).2
    | false => rw [hPz rfl]; simp
  have i9 : ¬ (9 : Int) < P.length := by omega
  rw [if_neg (by
    cases pt with
    | true => rw [hr2 rfl, decide_eq_false (by omega)]; simp
    | false => simp)]
  have hA2' : pt = true → CallOK Tryz.prog 23 [.val (.string (BS P))] (.val (.bool true)) := fun q => by rw [hr2 q] at hA2; exact hA2
  clear hA2 b1 b2 hr2 r1 hPz
  have bS := noScale_bd o2
  obtain ⟨S, rfl⟩ : ∃ k : Nat, sc = k := ⟨sc.toNat, by omega⟩
  rw [Int.toNat_natCast]
  have hkp : 0 < 10 ^ P.length := Nat.pow_pos (by decide)
  have hk9 : 10 ^ P.length ≤ 10 ^ 9 := Nat.pow_le_pow_right (by decide) hp9
  have hge := rdN_ge neg (numL W) (numL P) S (10 ^ P.length) way hkp
  have hsp := rdN_split neg (numL W) (numL P) S (10 ^ P.length) way hkp
  have hPn := numL_lt hPd
  unfold rdN
  obtain ⟨N, hN⟩ : ∃ N, N = rndN neg ((numL W * 10 ^ P.length + numL P) * S) (10 ^ P.length) way := ⟨_, rfl⟩
  rw [← hN] at hge hsp ⊢
  clear hN
  by_cases c16 : 16 < W.length
  · have i16 : (16 : Int) < W.length := by omega
    have hlo := hlead c16
    have hbig : 1000000000000000 < N := by
      have : numL W * 1 ≤ numL W * S := Nat.mul_le_mul_left _ (by omega)
      omega
    rw [rdFin, if_pos hbig]
    clear hge hsp
    rcases h48 with ⟨z1, z2⟩ | z1
    · exfalso; omega
    · cases pt with
      | true =>
        have hA2 := hA2' rfl
        repeat' first | ((with_reducible (first | refine condD ?_ ?_ | refine condE ?_ ?_ | refine condN ?_ ?_ | refine condI ?_ ?_ | refine condS ?_ ?_)) <;> intro h) | ((with_reducible (first | refine guardD (by with_unfolding_all rfl) ?_ ?_ | refine guardE (by with_unfolding_all rfl) ?_ ?_ | refine guardN (by with_unfolding_all rfl) ?_ ?_ | refine guardI (by with_unfolding_all rfl) ?_ ?_ | refine guardS (by with_unfolding_all rfl) ?_ ?_)) <;> intro h) | ((refine callG (noscale_c _) ?_)) | ((refine callG (noway_c _) ?_)) | ((refine callG hCP ?_)) | ((refine callG hCut ?_)) | ((refine callG hA1 ?_)) | ((refine callG hA2 ?_)) | (with_reducible refine And.intro ?_ ?_; omega) | (simp only [Z0,Z1,Z2,Z3,Z4,Z5,Z6,Z7,Z8,Z9,Za,Zb,Zc,Zd,Ze,Zf,List.cons.injEq,Zg,Zh,Zi,Zj,Zk,Zl,Zm,Zn,Zo,Zp,beq_self_eq_true,bne_self_eq_false,decide_true,decide_false,Zq,Zr,Zs,Zt,Zu,Zv,Zw,Zx,Zy,Zz,Y0,Y1,Y2,Y3,Y4,Y5,Y6,Y7,Y8,Y9,Ya,Yb,Yc,Yd,Ye,Yf,Yg,Yh,lk,ef,Yi,Yj,Yk,Yl,Ym,Yn,Yo,Yp,hv,Yq,ev,Yr,Ys,Yt,Yu,Yv,Yw,Yx,Yy,Yz,X0,X1,X2,X3,X4,X5,X6,X7,X8,X9,Xa,Xb,Xc,Xd,Xe,Xf,Xg,Xh,Xi,Xj,Xk,Xl,Xm,Xn,Value.oneCell',Xo,Xp,Xq,Xr,true_and,and_true,and_self,implies_true,Xs,Xt,Xu,Xv,false_implies,Xw,Xx,Xy,Xz,W0,W1,W2,W3,W4,W5,W6,W7,W8,W9,Wa,Wb,Wc,reduceCtorEq,if_true,if_false,Wd,↓reduceIte,We,Wf,Wg,Wh,Wi,Wj,ne_eq,not_false_eq_true,not_true_eq_false,Wk,Wl,r6_0,r6_1,r6_2,r6_3,r6_4,r6_5,r6_6,r6_7,r6_8,r6_9,r6_10,r6_11,r6_12,r6_13,r6_14,r6_15,r6_16,r6_17,r6_18,r6_19,r6_20,r6_21,r6_22,r6_23,p6,BS_45,BS_46,BS_size,BS_data,o2,hw,i30,i9,i16,hw0,hWpi,z1]) | (exfalso; omega)
      | false =>
        repeat' first | ((with_reducible (first | refine condD ?_ ?_ | refine condE ?_ ?_ | refine condN ?_ ?_ | refine condI ?_ ?_ | refine condS ?_ ?_)) <;> intro h) | ((with_reducible (first | refine guardD (by with_unfolding_all rfl) ?_ ?_ | refine guardE (by with_unfolding_all rfl) ?_ ?_ | refine guardN (by with_unfolding_all rfl) ?_ ?_ | refine guardI (by with_unfolding_all rfl) ?_ ?_ | refine guardS (by with_unfolding_all rfl) ?_ ?_)) <;> intro h) | ((refine callG (noscale_c _) ?_)) | ((refine callG (noway_c _) ?_)) | ((refine callG hCP ?_)) | ((refine callG hCut ?_)) | ((refine callG hA1 ?_)) | (with_reducible refine And.intro ?_ ?_; omega) | (simp only [Z0,Z1,Z2,Z3,Z4,Z5,Z6,Z7,Z8,Z9,Za,Zb,Zc,Zd,Ze,Zf,List.cons.injEq,Zg,Zh,Zi,Zj,Zk,Zl,Zm,Zn,Zo,Zp,beq_self_eq_true,bne_self_eq_false,decide_true,decide_false,Zq,Zr,Zs,Zt,Zu,Zv,Zw,Zx,Zy,Zz,Y0,Y1,Y2,Y3,Y4,Y5,Y6,Y7,Y8,Y9,Ya,Yb,Yc,Yd,Ye,Yf,Yg,Yh,lk,ef,Yi,Yj,Yk,Yl,Ym,Yn,Yo,Yp,hv,Yq,ev,Yr,Ys,Yt,Yu,Yv,Yw,Yx,Yy,Yz,X0,X1,X2,X3,X4,X5,X6,X7,X8,X9,Xa,Xb,Xc,Xd,Xe,Xf,Xg,Xh,Xi,Xj,Xk,Xl,Xm,Xn,Value.oneCell',Xo,Xp,Xq,Xr,true_and,and_true,and_self,implies_true,Xs,Xt,Xu,Xv,false_implies,Xw,Xx,Xy,Xz,W0,W1,W2,W3,W4,W5,W6,W7,W8,W9,Wa,Wb,Wc,reduceCtorEq,if_true,if_false,Wd,↓reduceIte,We,Wf,Wg,Wh,Wi,Wj,ne_eq,not_false_eq_true,not_true_eq_false,Wk,Wl,r6_0,r6_1,r6_2,r6_3,r6_4,r6_5,r6_6,r6_7,r6_8,r6_9,r6_10,r6_11,r6_12,r6_13,r6_14,r6_15,r6_16,r6_17,r6_18,r6_19,r6_20,r6_21,r6_22,r6_23,p6,BS_45,BS_46,BS_size,BS_data,o2,hw,i30,i9,i16,hw0,hWpi,z1]) | (exfalso; omega)
  have i16 : ¬ (16 : Int) < W.length := by omega
  have hWnb := hWn (by omega)
  have hN1 := number_c W (by omega) hWd
  have hSc := scaledI_c (numL W : Int) (S : Int) 1 1 (by omega) (by omega) (by omega) (by omega) (by omega) (by omega)
  rw [Int.toNat_natCast, show (1 : Int).toNat = 1 from rfl, scl_w hWnb (by omega)] at hSc
  clear hlead hWn
  by_cases hws : 1000000000000000 < numL W * S
  · have hbig : 1000000000000000 < N := by omega
    rw [rdFin, if_pos hbig]
    clear hge hsp
    have imx : (1000000000000000 : Int) < ((min (numL W * S) 1152921504606846976 : Nat) : Int) := by omega
    generalize min (numL W * S) 1152921504606846976 = ws at *
    rcases h48 with ⟨z1, z2⟩ | z1
    · cases pt with
      | true =>
        have hA2 := hA2' rfl
        repeat' first | ((with_reducible (first | refine condD ?_ ?_ | refine condE ?_ ?_ | refine condN ?_ ?_ | refine condI ?_ ?_ | refine condS ?_ ?_)) <;> intro h) | ((with_reducible (first | refine guardD (by with_unfolding_all rfl) ?_ ?_ | refine guardE (by with_unfolding_all rfl) ?_ ?_ | refine guardN (by with_unfolding_all rfl) ?_ ?_ | refine guardI (by with_unfolding_all rfl) ?_ ?_ | refine guardS (by with_unfolding_all rfl) ?_ ?_)) <;> intro h) | ((refine callG (noscale_c _) ?_)) | ((refine callG (noway_c _) ?_)) | ((refine callG hCP ?_)) | ((refine callG hCut ?_)) | ((refine callG hA1 ?_)) | ((refine callG hA2 ?_)) | ((refine callG hN1 ?_)) | ((refine callG hSc ?_)) | (with_reducible refine And.intro ?_ ?_; omega) | (simp only [Z0,Z1,Z2,Z3,Z4,Z5,Z6,Z7,Z8,Z9,Za,Zb,Zc,Zd,Ze,Zf,List.cons.injEq,Zg,Zh,Zi,Zj,Zk,Zl,Zm,Zn,Zo,Zp,beq_self_eq_true,bne_self_eq_false,decide_true,decide_false,Zq,Zr,Zs,Zt,Zu,Zv,Zw,Zx,Zy,Zz,Y0,Y1,Y2,Y3,Y4,Y5,Y6,Y7,Y8,Y9,Ya,Yb,Yc,Yd,Ye,Yf,Yg,Yh,lk,ef,Yi,Yj,Yk,Yl,Ym,Yn,Yo,Yp,hv,Yq,ev,Yr,Ys,Yt,Yu,Yv,Yw,Yx,Yy,Yz,X0,X1,X2,X3,X4,X5,X6,X7,X8,X9,Xa,Xb,Xc,Xd,Xe,Xf,Xg,Xh,Xi,Xj,Xk,Xl,Xm,Xn,Value.oneCell',Xo,Xp,Xq,Xr,true_and,and_true,and_self,implies_true,Xs,Xt,Xu,Xv,false_implies,Xw,Xx,Xy,Xz,W0,W1,W2,W3,W4,W5,W6,W7,W8,W9,Wa,Wb,Wc,reduceCtorEq,if_true,if_false,Wd,↓reduceIte,We,Wf,Wg,Wh,Wi,Wj,ne_eq,not_false_eq_true,not_true_eq_false,Wk,Wl,r6_0,r6_1,r6_2,r6_3,r6_4,r6_5,r6_6,r6_7,r6_8,r6_9,r6_10,r6_11,r6_12,r6_13,r6_14,r6_15,r6_16,r6_17,r6_18,r6_19,r6_20,r6_21,r6_22,r6_23,p6,BS_45,BS_46,BS_size,BS_data,o2,hw,i30,i9,i16,hw0,hWpi,z1,z2,imx]) | (exfalso; omega)
      | false =>
        repeat' first | ((with_reducible (first | refine condD ?_ ?_ | refine condE ?_ ?_ | refine condN ?_ ?_ | refine condI ?_ ?_ | refine condS ?_ ?_)) <;> intro h) | ((with_reducible (first | refine guardD (by with_unfolding_all rfl) ?_ ?_ | refine guardE (by with_unfolding_all rfl) ?_ ?_ | refine guardN (by with_unfolding_all rfl) ?_ ?_ | refine guardI (by with_unfolding_all rfl) ?_ ?_ | refine guardS (by with_unfolding_all rfl) ?_ ?_)) <;> intro h) | ((refine callG (noscale_c _) ?_)) | ((refine callG (noway_c _) ?_)) | ((refine callG hCP ?_)) | ((refine callG hCut ?_)) | ((refine callG hA1 ?_)) | ((refine callG hN1 ?_)) | ((refine callG hSc ?_)) | (with_reducible refine And.intro ?_ ?_; omega) | (simp only [Z0,Z1,Z2,Z3,Z4,Z5,Z6,Z7,Z8,Z9,Za,Zb,Zc,Zd,Ze,Zf,List.cons.injEq,Zg,Zh,Zi,Zj,Zk,Zl,Zm,Zn,Zo,Zp,beq_self_eq_true,bne_self_eq_false,decide_true,decide_false,Zq,Zr,Zs,Zt,Zu,Zv,Zw,Zx,Zy,Zz,Y0,Y1,Y2,Y3,Y4,Y5,Y6,Y7,Y8,Y9,Ya,Yb,Yc,Yd,Ye,Yf,Yg,Yh,lk,ef,Yi,Yj,Yk,Yl,Ym,Yn,Yo,Yp,hv,Yq,ev,Yr,Ys,Yt,Yu,Yv,Yw,Yx,Yy,Yz,X0,X1,X2,X3,X4,X5,X6,X7,X8,X9,Xa,Xb,Xc,Xd,Xe,Xf,Xg,Xh,Xi,Xj,Xk,Xl,Xm,Xn,Value.oneCell',Xo,Xp,Xq,Xr,true_and,and_true,and_self,implies_true,Xs,Xt,Xu,Xv,false_implies,Xw,Xx,Xy,Xz,W0,W1,W2,W3,W4,W5,W6,W7,W8,W9,Wa,Wb,Wc,reduceCtorEq,if_true,if_false,Wd,↓reduceIte,We,Wf,Wg,Wh,Wi,Wj,ne_eq,not_false_eq_true,not_true_eq_false,Wk,Wl,r6_0,r6_1,r6_2,r6_3,r6_4,r6_5,r6_6,r6_7,r6_8,r6_9,r6_10,r6_11,r6_12,r6_13,r6_14,r6_15,r6_16,r6_17,r6_18,r6_19,r6_20,r6_21,r6_22,r6_23,p6,BS_45,BS_46,BS_size,BS_data,o2,hw,i30,i9,i16,hw0,hWpi,z1,z2,imx]) | (exfalso; omega)
    · cases pt with
      | true =>
        have hA2 := hA2' rfl
        repeat' first | ((with_reducible (first | refine condD ?_ ?_ | refine condE ?_ ?_ | refine condN ?_ ?_ | refine condI ?_ ?_ | refine condS ?_ ?_)) <;> intro h) | ((with_reducible (first | refine guardD (by with_unfolding_all rfl) ?_ ?_ | refine guardE (by with_unfolding_all rfl) ?_ ?_ | refine guardN (by with_unfolding_all rfl) ?_ ?_ | refine guardI (by with_unfolding_all rfl) ?_ ?_ | refine guardS (by with_unfolding_all rfl) ?_ ?_)) <;> intro h) | ((refine callG (noscale_c _) ?_)) | ((refine callG (noway_c _) ?_)) | ((refine callG hCP ?_)) | ((refine callG hCut ?_)) | ((refine callG hA1 ?_)) | ((refine callG hA2 ?_)) | ((refine callG hN1 ?_)) | ((refine callG hSc ?_)) | (with_reducible refine And.intro ?_ ?_; omega) | (simp only [Z0,Z1,Z2,Z3,Z4,Z5,Z6,Z7,Z8,Z9,Za,Zb,Zc,Zd,Ze,Zf,List.cons.injEq,Zg,Zh,Zi,Zj,Zk,Zl,Zm,Zn,Zo,Zp,beq_self_eq_true,bne_self_eq_false,decide_true,decide_false,Zq,Zr,Zs,Zt,Zu,Zv,Zw,Zx,Zy,Zz,Y0,Y1,Y2,Y3,Y4,Y5,Y6,Y7,Y8,Y9,Ya,Yb,Yc,Yd,Ye,Yf,Yg,Yh,lk,ef,Yi,Yj,Yk,Yl,Ym,Yn,Yo,Yp,hv,Yq,ev,Yr,Ys,Yt,Yu,Yv,Yw,Yx,Yy,Yz,X0,X1,X2,X3,X4,X5,X6,X7,X8,X9,Xa,Xb,Xc,Xd,Xe,Xf,Xg,Xh,Xi,Xj,Xk,Xl,Xm,Xn,Value.oneCell',Xo,Xp,Xq,Xr,true_and,and_true,and_self,implies_true,Xs,Xt,Xu,Xv,false_implies,Xw,Xx,Xy,Xz,W0,W1,W2,W3,W4,W5,W6,W7,W8,W9,Wa,Wb,Wc,reduceCtorEq,if_true,if_false,Wd,↓reduceIte,We,Wf,Wg,Wh,Wi,Wj,ne_eq,not_false_eq_true,not_true_eq_false,Wk,Wl,r6_0,r6_1,r6_2,r6_3,r6_4,r6_5,r6_6,r6_7,r6_8,r6_9,r6_10,r6_11,r6_12,r6_13,r6_14,r6_15,r6_16,r6_17,r6_18,r6_19,r6_20,r6_21,r6_22,r6_23,p6,BS_45,BS_46,BS_size,BS_data,o2,hw,i30,i9,i16,hw0,hWpi,z1,imx]) | (exfalso; omega)
      | false =>
        repeat' first | ((with_reducible (first | refine condD ?_ ?_ | refine condE ?_ ?_ | refine condN ?_ ?_ | refine condI ?_ ?_ | refine condS ?_ ?_)) <;> intro h) | ((with_reducible (first | refine guardD (by with_unfolding_all rfl) ?_ ?_ | refine guardE (by with_unfolding_all rfl) ?_ ?_ | refine guardN (by with_unfolding_all rfl) ?_ ?_ | refine guardI (by with_unfolding_all rfl) ?_ ?_ | refine guardS (by with_unfolding_all rfl) ?_ ?_)) <;> intro h) | ((refine callG (noscale_c _) ?_)) | ((refine callG (noway_c _) ?_)) | ((refine callG hCP ?_)) | ((refine callG hCut ?_)) | ((refine callG hA1 ?_)) | ((refine callG hN1 ?_)) | ((refine callG hSc ?_)) | (with_reducible refine And.intro ?_ ?_; omega) | (simp only [Z0,Z1,Z2,Z3,Z4,Z5,Z6,Z7,Z8,Z9,Za,Zb,Zc,Zd,Ze,Zf,List.cons.injEq,Zg,Zh,Zi,Zj,Zk,Zl,Zm,Zn,Zo,Zp,beq_self_eq_true,bne_self_eq_false,decide_true,decide_false,Zq,Zr,Zs,Zt,Zu,Zv,Zw,Zx,Zy,Zz,Y0,Y1,Y2,Y3,Y4,Y5,Y6,Y7,Y8,Y9,Ya,Yb,Yc,Yd,Ye,Yf,Yg,Yh,lk,ef,Yi,Yj,Yk,Yl,Ym,Yn,Yo,Yp,hv,Yq,ev,Yr,Ys,Yt,Yu,Yv,Yw,Yx,Yy,Yz,X0,X1,X2,X3,X4,X5,X6,X7,X8,X9,Xa,Xb,Xc,Xd,Xe,Xf,Xg,Xh,Xi,Xj,Xk,Xl,Xm,Xn,Value.oneCell',Xo,Xp,Xq,Xr,true_and,and_true,and_self,implies_true,Xs,Xt,Xu,Xv,false_implies,Xw,Xx,Xy,Xz,W0,W1,W2,W3,W4,W5,W6,W7,W8,W9,Wa,Wb,Wc,reduceCtorEq,if_true,if_false,Wd,↓reduceIte,We,Wf,Wg,Wh,Wi,Wj,ne_eq,not_false_eq_true,not_true_eq_false,Wk,Wl,r6_0,r6_1,r6_2,r6_3,r6_4,r6_5,r6_6,r6_7,r6_8,r6_9,r6_10,r6_11,r6_12,r6_13,r6_14,r6_15,r6_16,r6_17,r6_18,r6_19,r6_20,r6_21,r6_22,r6_23,p6,BS_45,BS_46,BS_size,BS_data,o2,hw,i30,i9,i16,hw0,hWpi,z1,imx]) | (exfalso; omega)
  have hmin : min (numL W * S) 1152921504606846976 = numL W * S := by omega
  rw [hmin] at hSc
  have imx : ¬ (1000000000000000 : Int) < ((numL W * S : Nat) : Int) := by omega
  have hN2 := number_c P (by omega) hPd
  have hpw := power_c P.length hp9
  have hbg : numL P * S ≤ 1000000000 * 1000000000 := Nat.mul_le_mul (by omega) (by omega)
  have v1 : IntKind.i64.wrap ((numL P : Int) * (S : Int)) = ((numL P * S : Nat) : Int) := by rw [← Int.natCast_mul, wrap_in (by omega) (by omega)]
  have dv : ((numL P * S : Nat) : Int).tdiv ((10 ^ P.length : Nat) : Int) = ((numL P * S / 10 ^ P.length : Nat) : Int) := tdiv_nat _ _
  have md : ((numL P * S : Nat) : Int).tmod ((10 ^ P.length : Nat) : Int) = ((numL P * S % 10 ^ P.length : Nat) : Int) := tmod_nat _ _
  have hml := Nat.mod_lt (numL P * S) hkp
  have hdl : numL P * S / 10 ^ P.length ≤ 1000000000 := by
    have h1 : numL P * S ≤ 10 ^ P.length * S := Nat.mul_le_mul_right _ (by omega)
    have h2 : numL P * S / 10 ^ P.length ≤ S := by
      rw [Nat.div_le_iff_le_mul_add_pred hkp]
      omega
    omega
  have hdq0 : (0 : Int) ≤ ((numL P * S / 10 ^ P.length : Nat) : Int) := Int.natCast_nonneg _
  have hdq1 : ((numL P * S / 10 ^ P.length : Nat) : Int) ≤ 1000000000 := Int.ofNat_le.2 hdl
  have v2 : IntKind.i64.wrap ((numL P * S / 10 ^ P.length : Nat) : Int) = ((numL P * S / 10 ^ P.length : Nat) : Int) := wrap_in (by omega) (by omega)
  have hRA := rabg_c (numL P * S % 10 ^ P.length) (10 ^ P.length) way hml (by omega) hw
  have hRB := rblg_c (numL P * S % 10 ^ P.length) (10 ^ P.length) way hml (by omega) hw
  have hPzz : ¬ (((10 ^ P.length : Nat) : Int) = 0) := by omega
  generalize numL W * S = ws at *
  generalize numL P * S / 10 ^ P.length = fq at *
  generalize numL P * S % 10 ^ P.length = fr at *
  generalize numL P * S = f at *
  generalize 10 ^ P.length = pp at *
  have v3 : IntKind.i64.wrap ((ws : Int) + (fq : Int)) = ((ws + fq : Nat) : Int) := by rw [wrap_in (by omega) (by omega)]; omega
  generalize hQ : ws + fq = Q at *
  have hQb : Q ≤ 1000001000000000 := by omega
  have v4 : IntKind.i64.wrap (0 - (Q : Int)) = -(Q : Int) := by rw [wrap_in (by omega) (by omega)]; omega
  clear hge hQ hmin hbg hdl hml
  cases neg with
  | true =>
    have v5 : IntKind.i64.wrap (-(Q : Int) + (if upN true fr pp way = true then -1 else 0)) = -(N : Int) := by
      rw [hsp]
      cases upN true fr pp way
      · simp only [Bool.false_eq_true, if_false]; rw [wrap_in (by omega) (by omega)]; omega
      · simp only [if_true]; rw [wrap_in (by omega) (by omega)]; omega
    have hnt := noT N true
    simp only [if_true] at hnt
    generalize (if upN true fr pp way = true then (-1 : Int) else 0) = up at *
    by_cases hbig : 1000000000000000 < N
    · rw [rdFin, if_pos hbig]
      rw [decide_eq_true hbig] at hnt
      rcases h48 with ⟨z1, z2⟩ | z1
      · cases pt with
        | true =>
          have hA2 := hA2' rfl
          repeat' first | ((with_reducible (first | refine condD ?_ ?_ | refine condE ?_ ?_ | refine condN ?_ ?_ | refine condI ?_ ?_ | refine condS ?_ ?_)) <;> intro h) | ((with_reducible (first | refine guardD (by with_unfolding_all rfl) ?_ ?_ | refine guardE (by with_unfolding_all rfl) ?_ ?_ | refine guardN (by with_unfolding_all rfl) ?_ ?_ | refine guardI (by with_unfolding_all rfl) ?_ ?_ | refine guardS (by with_unfolding_all rfl) ?_ ?_)) <;> intro h) | ((refine callG (noscale_c _) ?_)) | ((refine callG (noway_c _) ?_)) | ((refine callG hCP ?_)) | ((refine callG hCut ?_)) | ((refine callG hA1 ?_)) | ((refine callG hA2 ?_)) | ((refine callG hN1 ?_)) | ((refine callG hSc ?_)) | ((refine callG hpw ?_)) | ((refine callG hN2 ?_)) | ((refine callG hRA ?_)) | ((refine callG hRB ?_)) | ((refine callG (notime_c _) ?_)) | (with_reducible refine And.intro ?_ ?_; omega) | (simp only [Z0,Z1,Z2,Z3,Z4,Z5,Z6,Z7,Z8,Z9,Za,Zb,Zc,Zd,Ze,Zf,List.cons.injEq,Zg,Zh,Zi,Zj,Zk,Zl,Zm,Zn,Zo,Zp,beq_self_eq_true,bne_self_eq_false,decide_true,decide_false,Zq,Zr,Zs,Zt,Zu,Zv,Zw,Zx,Zy,Zz,Y0,Y1,Y2,Y3,Y4,Y5,Y6,Y7,Y8,Y9,Ya,Yb,Yc,Yd,Ye,Yf,Yg,Yh,lk,ef,Yi,Yj,Yk,Yl,Ym,Yn,Yo,Yp,hv,Yq,ev,Yr,Ys,Yt,Yu,Yv,Yw,Yx,Yy,Yz,X0,X1,X2,X3,X4,X5,X6,X7,X8,X9,Xa,Xb,Xc,Xd,Xe,Xf,Xg,Xh,Xi,Xj,Xk,Xl,Xm,Xn,Value.oneCell',Xo,Xp,Xq,Xr,true_and,and_true,and_self,implies_true,Xs,Xt,Xu,Xv,false_implies,Xw,Xx,Xy,Xz,W0,W1,W2,W3,W4,W5,W6,W7,W8,W9,Wa,Wb,Wc,reduceCtorEq,if_true,if_false,Wd,↓reduceIte,We,Wf,Wg,Wh,Wi,Wj,ne_eq,not_false_eq_true,not_true_eq_false,Wk,Wl,r6_0,r6_1,r6_2,r6_3,r6_4,r6_5,r6_6,r6_7,r6_8,r6_9,r6_10,r6_11,r6_12,r6_13,r6_14,r6_15,r6_16,r6_17,r6_18,r6_19,r6_20,r6_21,r6_22,r6_23,p6,BS_45,BS_46,BS_size,BS_data,o2,hw,i30,i9,i16,hw0,hWpi,z1,z2,imx,hPzz,v1,dv,md,v2,v3,v4,v5,hnt]) | (exfalso; omega)
        | false =>
          repeat' first | ((with_reducible (first | refine condD ?_ ?_ | refine condE ?_ ?_ | refine condN ?_ ?_ | refine condI ?_ ?_ | refine condS ?_ ?_)) <;> intro h) | ((with_reducible (first | refine guardD (by with_unfolding_all rfl) ?_ ?_ | refine guardE (by with_unfolding_all rfl) ?_ ?_ | refine guardN (by with_unfolding_all rfl) ?_ ?_ | refine guardI (by with_unfolding_all rfl) ?_ ?_ | refine guardS (by with_unfolding_all rfl) ?_ ?_)) <;> intro h) | ((refine callG (noscale_c _) ?_)) | ((refine callG (noway_c _) ?_)) | ((refine callG hCP ?_)) | ((refine callG hCut ?_)) | ((refine callG hA1 ?_)) | ((refine callG hN1 ?_)) | ((refine callG hSc ?_)) | ((refine callG hpw ?_)) | ((refine callG hN2 ?_)) | ((refine callG hRA ?_)) | ((refine callG hRB ?_)) | ((refine callG (notime_c _) ?_)) | (with_reducible refine And.intro ?_ ?_; omega) | (simp only [Z0,Z1,Z2,Z3,Z4,Z5,Z6,Z7,Z8,Z9,Za,Zb,Zc,Zd,Ze,Zf,List.cons.injEq,Zg,Zh,Zi,Zj,Zk,Zl,Zm,Zn,Zo,Zp,beq_self_eq_true,bne_self_eq_false,decide_true,decide_false,Zq,Zr,Zs,Zt,Zu,Zv,Zw,Zx,Zy,Zz,Y0,Y1,Y2,Y3,Y4,Y5,Y6,Y7,Y8,Y9,Ya,Yb,Yc,Yd,Ye,Yf,Yg,Yh,lk,ef,Yi,Yj,Yk,Yl,Ym,Yn,Yo,Yp,hv,Yq,ev,Yr,Ys,Yt,Yu,Yv,Yw,Yx,Yy,Yz,X0,X1,X2,X3,X4,X5,X6,X7,X8,X9,Xa,Xb,Xc,Xd,Xe,Xf,Xg,Xh,Xi,Xj,Xk,Xl,Xm,Xn,Value.oneCell',Xo,Xp,Xq,Xr,true_and,and_true,and_self,implies_true,Xs,Xt,Xu,Xv,false_implies,Xw,Xx,Xy,Xz,W0,W1,W2,W3,W4,W5,W6,W7,W8,W9,Wa,Wb,Wc,reduceCtorEq,if_true,if_false,Wd,↓reduceIte,We,Wf,Wg,Wh,Wi,Wj,ne_eq,not_false_eq_true,not_true_eq_false,Wk,Wl,r6_0,r6_1,r6_2,r6_3,r6_4,r6_5,r6_6,r6_7,r6_8,r6_9,r6_10,r6_11,r6_12,r6_13,r6_14,r6_15,r6_16,r6_17,r6_18,r6_19,r6_20,r6_21,r6_22,r6_23,p6,BS_45,BS_46,BS_size,BS_data,o2,hw,i30,i9,i16,hw0,hWpi,z1,z2,imx,hPzz,v1,dv,md,v2,v3,v4,v5,hnt]) | (exfalso; omega)
      · cases pt with
        | true =>
          have hA2 := hA2' rfl
          repeat' first | ((with_reducible (first | refine condD ?_ ?_ | refine condE ?_ ?_ | refine condN ?_ ?_ | refine condI ?_ ?_ | refine condS ?_ ?_)) <;> intro h) | ((with_reducible (first | refine guardD (by with_unfolding_all rfl) ?_ ?_ | refine guardE (by with_unfolding_all rfl) ?_ ?_ | refine guardN (by with_unfolding_all rfl) ?_ ?_ | refine guardI (by with_unfolding_all rfl) ?_ ?_ | refine guardS (by with_unfolding_all rfl) ?_ ?_)) <;> intro h) | ((refine callG (noscale_c _) ?_)) | ((refine callG (noway_c _) ?_)) | ((refine callG hCP ?_)) | ((refine callG hCut ?_)) | ((refine callG hA1 ?_)) | ((refine callG hA2 ?_)) | ((refine callG hN1 ?_)) | ((refine callG hSc ?_)) | ((refine callG hpw ?_)) | ((refine callG hN2 ?_)) | ((refine callG hRA ?_)) | ((refine callG hRB ?_)) | ((refine callG (notime_c _) ?_)) | (with_reducible refine And.intro ?_ ?_; omega) | (simp only [Z0,Z1,Z2,Z3,Z4,Z5,Z6,Z7,Z8,Z9,Za,Zb,Zc,Zd,Ze,Zf,List.cons.injEq,Zg,Zh,Zi,Zj,Zk,Zl,Zm,Zn,Zo,Zp,beq_self_eq_true,bne_self_eq_false,decide_true,decide_false,Zq,Zr,Zs,Zt,Zu,Zv,Zw,Zx,Zy,Zz,Y0,Y1,Y2,Y3,Y4,Y5,Y6,Y7,Y8,Y9,Ya,Yb,Yc,Yd,Ye,Yf,Yg,Yh,lk,ef,Yi,Yj,Yk,Yl,Ym,Yn,Yo,Yp,hv,Yq,ev,Yr,Ys,Yt,Yu,Yv,Yw,Yx,Yy,Yz,X0,X1,X2,X3,X4,X5,X6,X7,X8,X9,Xa,Xb,Xc,Xd,Xe,Xf,Xg,Xh,Xi,Xj,Xk,Xl,Xm,Xn,Value.oneCell',Xo,Xp,Xq,Xr,true_and,and_true,and_self,implies_true,Xs,Xt,Xu,Xv,false_implies,Xw,Xx,Xy,Xz,W0,W1,W2,W3,W4,W5,W6,W7,W8,W9,Wa,Wb,Wc,reduceCtorEq,if_true,if_false,Wd,↓reduceIte,We,Wf,Wg,Wh,Wi,Wj,ne_eq,not_false_eq_true,not_true_eq_false,Wk,Wl,r6_0,r6_1,r6_2,r6_3,r6_4,r6_5,r6_6,r6_7,r6_8,r6_9,r6_10,r6_11,r6_12,r6_13,r6_14,r6_15,r6_16,r6_17,r6_18,r6_19,r6_20,r6_21,r6_22,r6_23,p6,BS_45,BS_46,BS_size,BS_data,o2,hw,i30,i9,i16,hw0,hWpi,z1,imx,hPzz,v1,dv,md,v2,v3,v4,v5,hnt]) | (exfalso; omega)
        | false =>
          repeat' first | ((with_reducible (first | refine condD ?_ ?_ | refine condE ?_ ?_ | refine condN ?_ ?_ | refine condI ?_ ?_ | refine condS ?_ ?_)) <;> intro h) | ((with_reducible (first | refine guardD (by with_unfolding_all rfl) ?_ ?_ | refine guardE (by with_unfolding_all rfl) ?_ ?_ | refine guardN (by with_unfolding_all rfl) ?_ ?_ | refine guardI (by with_unfolding_all rfl) ?_ ?_ | refine guardS (by with_unfolding_all rfl) ?_ ?_)) <;> intro h) | ((refine callG (noscale_c _) ?_)) | ((refine callG (noway_c _) ?_)) | ((refine callG hCP ?_)) | ((refine callG hCut ?_)) | ((refine callG hA1 ?_)) | ((refine callG hN1 ?_)) | ((refine callG hSc ?_)) | ((refine callG hpw ?_)) | ((refine callG hN2 ?_)) | ((refine callG hRA ?_)) | ((refine callG hRB ?_)) | ((refine callG (notime_c _) ?_)) | (with_reducible refine And.intro ?_ ?_; omega) | (simp only [Z0,Z1,Z2,Z3,Z4,Z5,Z6,Z7,Z8,Z9,Za,Zb,Zc,Zd,Ze,Zf,List.cons.injEq,Zg,Zh,Zi,Zj,Zk,Zl,Zm,Zn,Zo,Zp,beq_self_eq_true,bne_self_eq_false,decide_true,decide_false,Zq,Zr,Zs,Zt,Zu,Zv,Zw,Zx,Zy,Zz,Y0,Y1,Y2,Y3,Y4,Y5,Y6,Y7,Y8,Y9,Ya,Yb,Yc,Yd,Ye,Yf,Yg,Yh,lk,ef,Yi,Yj,Yk,Yl,Ym,Yn,Yo,Yp,hv,Yq,ev,Yr,Ys,Yt,Yu,Yv,Yw,Yx,Yy,Yz,X0,X1,X2,X3,X4,X5,X6,X7,X8,X9,Xa,Xb,Xc,Xd,Xe,Xf,Xg,Xh,Xi,Xj,Xk,Xl,Xm,Xn,Value.oneCell',Xo,Xp,Xq,Xr,true_and,and_true,and_self,implies_true,Xs,Xt,Xu,Xv,false_implies,Xw,Xx,Xy,Xz,W0,W1,W2,W3,W4,W5,W6,W7,W8,W9,Wa,Wb,Wc,reduceCtorEq,if_true,if_false,Wd,↓reduceIte,We,Wf,Wg,Wh,Wi,Wj,ne_eq,not_false_eq_true,not_true_eq_false,Wk,Wl,r6_0,r6_1,r6_2,r6_3,r6_4,r6_5,r6_6,r6_7,r6_8,r6_9,r6_10,r6_11,r6_12,r6_13,r6_14,r6_15,r6_16,r6_17,r6_18,r6_19,r6_20,r6_21,r6_22,r6_23,p6,BS_45,BS_46,BS_size,BS_data,o2,hw,i30,i9,i16,hw0,hWpi,z1,imx,hPzz,v1,dv,md,v2,v3,v4,v5,hnt]) | (exfalso; omega)
    · rw [rdFin, if_neg hbig, if_pos rfl]
      rw [decide_eq_false hbig] at hnt
      rcases h48 with ⟨z1, z2⟩ | z1
      · cases pt with
        | true =>
          have hA2 := hA2' rfl
          repeat' first | ((with_reducible (first | refine condD ?_ ?_ | refine condE ?_ ?_ | refine condN ?_ ?_ | refine condI ?_ ?_ | refine condS ?_ ?_)) <;> intro h) | ((with_reducible (first | refine guardD (by with_unfolding_all rfl) ?_ ?_ | refine guardE (by with_unfolding_all rfl) ?_ ?_ | refine guardN (by with_unfolding_all rfl) ?_ ?_ | refine guardI (by with_unfolding_all rfl) ?_ ?_ | refine guardS (by with_unfolding_all rfl) ?_ ?_)) <;> intro h) | ((refine callG (noscale_c _) ?_)) | ((refine callG (noway_c _) ?_)) | ((refine callG hCP ?_)) | ((refine callG hCut ?_)) | ((refine callG hA1 ?_)) | ((refine callG hA2 ?_)) | ((refine callG hN1 ?_)) | ((refine callG hSc ?_)) | ((refine callG hpw ?_)) | ((refine callG hN2 ?_)) | ((refine callG hRA ?_)) | ((refine callG hRB ?_)) | ((refine callG (notime_c _) ?_)) | (with_reducible refine And.intro ?_ ?_; omega) | (simp only [Z0,Z1,Z2,Z3,Z4,Z5,Z6,Z7,Z8,Z9,Za,Zb,Zc,Zd,Ze,Zf,List.cons.injEq,Zg,Zh,Zi,Zj,Zk,Zl,Zm,Zn,Zo,Zp,beq_self_eq_true,bne_self_eq_false,decide_true,decide_false,Zq,Zr,Zs,Zt,Zu,Zv,Zw,Zx,Zy,Zz,Y0,Y1,Y2,Y3,Y4,Y5,Y6,Y7,Y8,Y9,Ya,Yb,Yc,Yd,Ye,Yf,Yg,Yh,lk,ef,Yi,Yj,Yk,Yl,Ym,Yn,Yo,Yp,hv,Yq,ev,Yr,Ys,Yt,Yu,Yv,Yw,Yx,Yy,Yz,X0,X1,X2,X3,X4,X5,X6,X7,X8,X9,Xa,Xb,Xc,Xd,Xe,Xf,Xg,Xh,Xi,Xj,Xk,Xl,Xm,Xn,Value.oneCell',Xo,Xp,Xq,Xr,true_and,and_true,and_self,implies_true,Xs,Xt,Xu,Xv,false_implies,Xw,Xx,Xy,Xz,W0,W1,W2,W3,W4,W5,W6,W7,W8,W9,Wa,Wb,Wc,reduceCtorEq,if_true,if_false,Wd,↓reduceIte,We,Wf,Wg,Wh,Wi,Wj,ne_eq,not_false_eq_true,not_true_eq_false,Wk,Wl,r6_0,r6_1,r6_2,r6_3,r6_4,r6_5,r6_6,r6_7,r6_8,r6_9,r6_10,r6_11,r6_12,r6_13,r6_14,r6_15,r6_16,r6_17,r6_18,r6_19,r6_20,r6_21,r6_22,r6_23,p6,BS_45,BS_46,BS_size,BS_data,o2,hw,i30,i9,i16,hw0,hWpi,z1,z2,imx,hPzz,v1,dv,md,v2,v3,v4,v5,hnt]) | (exfalso; omega)
        | false =>
          repeat' first | ((with_reducible (first | refine condD ?_ ?_ | refine condE ?_ ?_ | refine condN ?_ ?_ | refine condI ?_ ?_ | refine condS ?_ ?_)) <;> intro h) | ((with_reducible (first | refine guardD (by with_unfolding_all rfl) ?_ ?_ | refine guardE (by with_unfolding_all rfl) ?_ ?_ | refine guardN (by with_unfolding_all rfl) ?_ ?_ | refine guardI (by with_unfolding_all rfl) ?_ ?_ | refine guardS (by with_unfolding_all rfl) ?_ ?_)) <;> intro h) | ((refine callG (noscale_c _) ?_)) | ((refine callG (noway_c _) ?_)) | ((refine callG hCP ?_)) | ((refine callG hCut ?_)) | ((refine callG hA1 ?_)) | ((refine callG hN1 ?_)) | ((refine callG hSc ?_)) | ((refine callG hpw ?_)) | ((refine callG hN2 ?_)) | ((refine callG hRA ?_)) | ((refine callG hRB ?_)) | ((refine callG (notime_c _) ?_)) | (with_reducible refine And.intro ?_ ?_; omega) | (simp only [Z0,Z1,Z2,Z3,Z4,Z5,Z6,Z7,Z8,Z9,Za,Zb,Zc,Zd,Ze,Zf,List.cons.injEq,Zg,Zh,Zi,Zj,Zk,Zl,Zm,Zn,Zo,Zp,beq_self_eq_true,bne_self_eq_false,decide_true,decide_false,Zq,Zr,Zs,Zt,Zu,Zv,Zw,Zx,Zy,Zz,Y0,Y1,Y2,Y3,Y4,Y5,Y6,Y7,Y8,Y9,Ya,Yb,Yc,Yd,Ye,Yf,Yg,Yh,lk,ef,Yi,Yj,Yk,Yl,Ym,Yn,Yo,Yp,hv,Yq,ev,Yr,Ys,Yt,Yu,Yv,Yw,Yx,Yy,Yz,X0,X1,X2,X3,X4,X5,X6,X7,X8,X9,Xa,Xb,Xc,Xd,Xe,Xf,Xg,Xh,Xi,Xj,Xk,Xl,Xm,Xn,Value.oneCell',Xo,Xp,Xq,Xr,true_and,and_true,and_self,implies_true,Xs,Xt,Xu,Xv,false_implies,Xw,Xx,Xy,Xz,W0,W1,W2,W3,W4,W5,W6,W7,W8,W9,Wa,Wb,Wc,reduceCtorEq,if_true,if_false,Wd,↓reduceIte,We,Wf,Wg,Wh,Wi,Wj,ne_eq,not_false_eq_true,not_true_eq_false,Wk,Wl,r6_0,r6_1,r6_2,r6_3,r6_4,r6_5,r6_6,r6_7,r6_8,r6_9,r6_10,r6_11,r6_12,r6_13,r6_14,r6_15,r6_16,r6_17,r6_18,r6_19,r6_20,r6_21,r6_22,r6_23,p6,BS_45,BS_46,BS_size,BS_data,o2,hw,i30,i9,i16,hw0,hWpi,z1,z2,imx,hPzz,v1,dv,md,v2,v3,v4,v5,hnt]) | (exfalso; omega)
      · cases pt with
        | true =>
          have hA2 := hA2' rfl
          repeat' first | ((with_reducible (first | refine condD ?_ ?_ | refine condE ?_ ?_ | refine condN ?_ ?_ | refine condI ?_ ?_ | refine condS ?_ ?_)) <;> intro h) | ((with_reducible (first | refine guardD (by with_unfolding_all rfl) ?_ ?_ | refine guardE (by with_unfolding_all rfl) ?_ ?_ | refine guardN (by with_unfolding_all rfl) ?_ ?_ | refine guardI (by with_unfolding_all rfl) ?_ ?_ | refine guardS (by with_unfolding_all rfl) ?_ ?_)) <;> intro h) | ((refine callG (noscale_c _) ?_)) | ((refine callG (noway_c _) ?_)) | ((refine callG hCP ?_)) | ((refine callG hCut ?_)) | ((refine callG hA1 ?_)) | ((refine callG hA2 ?_)) | ((refine callG hN1 ?_)) | ((refine callG hSc ?_)) | ((refine callG hpw ?_)) | ((refine callG hN2 ?_)) | ((refine callG hRA ?_)) | ((refine callG hRB ?_)) | ((refine callG (notime_c _) ?_)) | (with_reducible refine And.intro ?_ ?_; omega) | (simp only [Z0,Z1,Z2,Z3,Z4,Z5,Z6,Z7,Z8,Z9,Za,Zb,Zc,Zd,Ze,Zf,List.cons.injEq,Zg,Zh,Zi,Zj,Zk,Zl,Zm,Zn,Zo,Zp,beq_self_eq_true,bne_self_eq_false,decide_true,decide_false,Zq,Zr,Zs,Zt,Zu,Zv,Zw,Zx,Zy,Zz,Y0,Y1,Y2,Y3,Y4,Y5,Y6,Y7,Y8,Y9,Ya,Yb,Yc,Yd,Ye,Yf,Yg,Yh,lk,ef,Yi,Yj,Yk,Yl,Ym,Yn,Yo,Yp,hv,Yq,ev,Yr,Ys,Yt,Yu,Yv,Yw,Yx,Yy,Yz,X0,X1,X2,X3,X4,X5,X6,X7,X8,X9,Xa,Xb,Xc,Xd,Xe,Xf,Xg,Xh,Xi,Xj,Xk,Xl,Xm,Xn,Value.oneCell',Xo,Xp,Xq,Xr,true_and,and_true,and_self,implies_true,Xs,Xt,Xu,Xv,false_implies,Xw,Xx,Xy,Xz,W0,W1,W2,W3,W4,W5,W6,W7,W8,W9,Wa,Wb,Wc,reduceCtorEq,if_true,if_false,Wd,↓reduceIte,We,Wf,Wg,Wh,Wi,Wj,ne_eq,not_false_eq_true,not_true_eq_false,Wk,Wl,r6_0,r6_1,r6_2,r6_3,r6_4,r6_5,r6_6,r6_7,r6_8,r6_9,r6_10,r6_11,r6_12,r6_13,r6_14,r6_15,r6_16,r6_17,r6_18,r6_19,r6_20,r6_21,r6_22,r6_23,p6,BS_45,BS_46,BS_size,BS_data,o2,hw,i30,i9,i16,hw0,hWpi,z1,imx,hPzz,v1,dv,md,v2,v3,v4,v5,hnt]) | (exfalso; omega)
        | false =>
          repeat' first | ((with_reducible (first | refine condD ?_ ?_ | refine condE ?_ ?_ | refine condN ?_ ?_ | refine condI ?_ ?_ | refine condS ?_ ?_)) <;> intro h) | ((with_reducible (first | refine guardD (by with_unfolding_all rfl) ?_ ?_ | refine guardE (by with_unfolding_all rfl) ?_ ?_ | refine guardN (by with_unfolding_all rfl) ?_ ?_ | refine guardI (by with_unfolding_all rfl) ?_ ?_ | refine guardS (by with_unfolding_all rfl) ?_ ?_)) <;> intro h) | ((refine callG (noscale_c _) ?_)) | ((refine callG (noway_c _) ?_)) | ((refine callG hCP ?_)) | ((refine callG hCut ?_)) | ((refine callG hA1 ?_)) | ((refine callG hN1 ?_)) | ((refine callG hSc ?_)) | ((refine callG hpw ?_)) | ((refine callG hN2 ?_)) | ((refine callG hRA ?_)) | ((refine callG hRB ?_)) | ((refine callG (notime_c _) ?_)) | (with_reducible refine And.intro ?_ ?_; omega) | (simp only [Z0,Z1,Z2,Z3,Z4,Z5,Z6,Z7,Z8,Z9,Za,Zb,Zc,Zd,Ze,Zf,List.cons.injEq,Zg,Zh,Zi,Zj,Zk,Zl,Zm,Zn,Zo,Zp,beq_self_eq_true,bne_self_eq_false,decide_true,decide_false,Zq,Zr,Zs,Zt,Zu,Zv,Zw,Zx,Zy,Zz,Y0,Y1,Y2,Y3,Y4,Y5,Y6,Y7,Y8,Y9,Ya,Yb,Yc,Yd,Ye,Yf,Yg,Yh,lk,ef,Yi,Yj,Yk,Yl,Ym,Yn,Yo,Yp,hv,Yq,ev,Yr,Ys,Yt,Yu,Yv,Yw,Yx,Yy,Yz,X0,X1,X2,X3,X4,X5,X6,X7,X8,X9,Xa,Xb,Xc,Xd,Xe,Xf,Xg,Xh,Xi,Xj,Xk,Xl,Xm,Xn,Value.oneCell',Xo,Xp,Xq,Xr,true_and,and_true,and_self,implies_true,Xs,Xt,Xu,Xv,false_implies,Xw,Xx,Xy,Xz,W0,W1,W2,W3,W4,W5,W6,W7,W8,W9,Wa,Wb,Wc,reduceCtorEq,if_true,if_false,Wd,↓reduceIte,We,Wf,Wg,Wh,Wi,Wj,ne_eq,not_false_eq_true,not_true_eq_false,Wk,Wl,r6_0,r6_1,r6_2,r6_3,r6_4,r6_5,r6_6,r6_7,r6_8,r6_9,r6_10,r6_11,r6_12,r6_13,r6_14,r6_15,r6_16,r6_17,r6_18,r6_19,r6_20,r6_21,r6_22,r6_23,p6,BS_45,BS_46,BS_size,BS_data,o2,hw,i30,i9,i16,hw0,hWpi,z1,imx,hPzz,v1,dv,md,v2,v3,v4,v5,hnt]) | (exfalso; omega)
  | false =>
    have v5 : IntKind.i64.wrap ((Q : Int) + (if upN false fr pp way = true then 1 else 0)) = (N : Int) := by
      rw [hsp]
      cases upN false fr pp way
      · simp only [Bool.false_eq_true, if_false]; rw [wrap_in (by omega) (by omega)]; omega
      · simp only [if_true]; rw [wrap_in (by omega) (by omega)]; omega
    have hnt := noT N false
    simp only [Bool.false_eq_true, if_false] at hnt
    generalize (if upN false fr pp way = true then (1 : Int) else 0) = up at *
    by_cases hbig : 1000000000000000 < N
    · rw [rdFin, if_pos hbig]
      rw [decide_eq_true hbig] at hnt
      rcases h48 with ⟨z1, z2⟩ | z1
      · cases pt with
        | true =>
          have hA2 := hA2' rfl
          repeat' first | ((with_reducible (first | refine condD ?_ ?_ | refine condE ?_ ?_ | refine condN ?_ ?_ | refine condI ?_ ?_ | refine condS ?_ ?_)) <;> intro h) | ((with_reducible (first | refine guardD (by with_unfolding_all rfl) ?_ ?_ | refine guardE (by with_unfolding_all rfl) ?_ ?_ | refine guardN (by with_unfolding_all rfl) ?_ ?_ | refine guardI (by with_unfolding_all rfl) ?_ ?_ | refine guardS (by with_unfolding_all rfl) ?_ ?_)) <;> intro h) | ((refine callG (noscale_c _) ?_)) | ((refine callG (noway_c _) ?_)) | ((refine callG hCP ?_)) | ((refine callG hCut ?_)) | ((refine callG hA1 ?_)) | ((refine callG hA2 ?_)) | ((refine callG hN1 ?_)) | ((refine callG hSc ?_)) | ((refine callG hpw ?_)) | ((refine callG hN2 ?_)) | ((refine callG hRA ?_)) | ((refine callG hRB ?_)) | ((refine callG (notime_c _) ?_)) | (with_reducible refine And.intro ?_ ?_; omega) | (simp only [Z0,Z1,Z2,Z3,Z4,Z5,Z6,Z7,Z8,Z9,Za,Zb,Zc,Zd,Ze,Zf,List.cons.injEq,Zg,Zh,Zi,Zj,Zk,Zl,Zm,Zn,Zo,Zp,beq_self_eq_true,bne_self_eq_false,decide_true,decide_false,Zq,Zr,Zs,Zt,Zu,Zv,Zw,Zx,Zy,Zz,Y0,Y1,Y2,Y3,Y4,Y5,Y6,Y7,Y8,Y9,Ya,Yb,Yc,Yd,Ye,Yf,Yg,Yh,lk,ef,Yi,Yj,Yk,Yl,Ym,Yn,Yo,Yp,hv,Yq,ev,Yr,Ys,Yt,Yu,Yv,Yw,Yx,Yy,Yz,X0,X1,X2,X3,X4,X5,X6,X7,X8,X9,Xa,Xb,Xc,Xd,Xe,Xf,Xg,Xh,Xi,Xj,Xk,Xl,Xm,Xn,Value.oneCell',Xo,Xp,Xq,Xr,true_and,and_true,and_self,implies_true,Xs,Xt,Xu,Xv,false_implies,Xw,Xx,Xy,Xz,W0,W1,W2,W3,W4,W5,W6,W7,W8,W9,Wa,Wb,Wc,reduceCtorEq,if_true,if_false,Wd,↓reduceIte,We,Wf,Wg,Wh,Wi,Wj,ne_eq,not_false_eq_true,not_true_eq_false,Wk,Wl,r6_0,r6_1,r6_2,r6_3,r6_4,r6_5,r6_6,r6_7,r6_8,r6_9,r6_10,r6_11,r6_12,r6_13,r6_14,r6_15,r6_16,r6_17,r6_18,r6_19,r6_20,r6_21,r6_22,r6_23,p6,BS_45,BS_46,BS_size,BS_data,o2,hw,i30,i9,i16,hw0,hWpi,z1,z2,imx,hPzz,v1,dv,md,v2,v3,v4,v5,hnt]) | (exfalso; omega)
        | false =>
          repeat' first | ((with_reducible (first | refine condD ?_ ?_ | refine condE ?_ ?_ | refine condN ?_ ?_ | refine condI ?_ ?_ | refine condS ?_ ?_)) <;> intro h) | ((with_reducible (first | refine guardD (by with_unfolding_all rfl) ?_ ?_ | refine guardE (by with_unfolding_all rfl) ?_ ?_ | refine guardN (by with_unfolding_all rfl) ?_ ?_ | refine guardI (by with_unfolding_all rfl) ?_ ?_ | refine guardS (by with_unfolding_all rfl) ?_ ?_)) <;> intro h) | ((refine callG (noscale_c _) ?_)) | ((refine callG (noway_c _) ?_)) | ((refine callG hCP ?_)) | ((refine callG hCut ?_)) | ((refine callG hA1 ?_)) | ((refine callG hN1 ?_)) | ((refine callG hSc ?_)) | ((refine callG hpw ?_)) | ((refine callG hN2 ?_)) | ((refine callG hRA ?_)) | ((refine callG hRB ?_)) | ((refine callG (notime_c _) ?_)) | (with_reducible refine And.intro ?_ ?_; omega) | (simp only [Z0,Z1,Z2,Z3,Z4,Z5,Z6,Z7,Z8,Z9,Za,Zb,Zc,Zd,Ze,Zf,List.cons.injEq,Zg,Zh,Zi,Zj,Zk,Zl,Zm,Zn,Zo,Zp,beq_self_eq_true,bne_self_eq_false,decide_true,decide_false,Zq,Zr,Zs,Zt,Zu,Zv,Zw,Zx,Zy,Zz,Y0,Y1,Y2,Y3,Y4,Y5,Y6,Y7,Y8,Y9,Ya,Yb,Yc,Yd,Ye,Yf,Yg,Yh,lk,ef,Yi,Yj,Yk,Yl,Ym,Yn,Yo,Yp,hv,Yq,ev,Yr,Ys,Yt,Yu,Yv,Yw,Yx,Yy,Yz,X0,X1,X2,X3,X4,X5,X6,X7,X8,X9,Xa,Xb,Xc,Xd,Xe,Xf,Xg,Xh,Xi,Xj,Xk,Xl,Xm,Xn,Value.oneCell',Xo,Xp,Xq,Xr,true_and,and_true,and_self,implies_true,Xs,Xt,Xu,Xv,false_implies,Xw,Xx,Xy,Xz,W0,W1,W2,W3,W4,W5,W6,W7,W8,W9,Wa,Wb,Wc,reduceCtorEq,if_true,if_false,Wd,↓reduceIte,We,Wf,Wg,Wh,Wi,Wj,ne_eq,not_false_eq_true,not_true_eq_false,Wk,Wl,r6_0,r6_1,r6_2,r6_3,r6_4,r6_5,r6_6,r6_7,r6_8,r6_9,r6_10,r6_11,r6_12,r6_13,r6_14,r6_15,r6_16,r6_17,r6_18,r6_19,r6_20,r6_21,r6_22,r6_23,p6,BS_45,BS_46,BS_size,BS_data,o2,hw,i30,i9,i16,hw0,hWpi,z1,z2,imx,hPzz,v1,dv,md,v2,v3,v4,v5,hnt]) | (exfalso; omega)
      · cases pt with
        | true =>
          have hA2 := hA2' rfl
          repeat' first | ((with_reducible (first | refine condD ?_ ?_ | refine condE ?_ ?_ | refine condN ?_ ?_ | refine condI ?_ ?_ | refine condS ?_ ?_)) <;> intro h) | ((with_reducible (first | refine guardD (by with_unfolding_all rfl) ?_ ?_ | refine guardE (by with_unfolding_all rfl) ?_ ?_ | refine guardN (by with_unfolding_all rfl) ?_ ?_ | refine guardI (by with_unfolding_all rfl) ?_ ?_ | refine guardS (by with_unfolding_all rfl) ?_ ?_)) <;> intro h) | ((refine callG (noscale_c _) ?_)) | ((refine callG (noway_c _) ?_)) | ((refine callG hCP ?_)) | ((refine callG hCut ?_)) | ((refine callG hA1 ?_)) | ((refine callG hA2 ?_)) | ((refine callG hN1 ?_)) | ((refine callG hSc ?_)) | ((refine callG hpw ?_)) | ((refine callG hN2 ?_)) | ((refine callG hRA ?_)) | ((refine callG hRB ?_)) | ((refine callG (notime_c _) ?_)) | (with_reducible refine And.intro ?_ ?_; omega) | (simp only [Z0,Z1,Z2,Z3,Z4,Z5,Z6,Z7,Z8,Z9,Za,Zb,Zc,Zd,Ze,Zf,List.cons.injEq,Zg,Zh,Zi,Zj,Zk,Zl,Zm,Zn,Zo,Zp,beq_self_eq_true,bne_self_eq_false,decide_true,decide_false,Zq,Zr,Zs,Zt,Zu,Zv,Zw,Zx,Zy,Zz,Y0,Y1,Y2,Y3,Y4,Y5,Y6,Y7,Y8,Y9,Ya,Yb,Yc,Yd,Ye,Yf,Yg,Yh,lk,ef,Yi,Yj,Yk,Yl,Ym,Yn,Yo,Yp,hv,Yq,ev,Yr,Ys,Yt,Yu,Yv,Yw,Yx,Yy,Yz,X0,X1,X2,X3,X4,X5,X6,X7,X8,X9,Xa,Xb,Xc,Xd,Xe,Xf,Xg,Xh,Xi,Xj,Xk,Xl,Xm,Xn,Value.oneCell',Xo,Xp,Xq,Xr,true_and,and_true,and_self,implies_true,Xs,Xt,Xu,Xv,false_implies,Xw,Xx,Xy,Xz,W0,W1,W2,W3,W4,W5,W6,W7,W8,W9,Wa,Wb,Wc,reduceCtorEq,if_true,if_false,Wd,↓reduceIte,We,Wf,Wg,Wh,Wi,Wj,ne_eq,not_false_eq_true,not_true_eq_false,Wk,Wl,r6_0,r6_1,r6_2,r6_3,r6_4,r6_5,r6_6,r6_7,r6_8,r6_9,r6_10,r6_11,r6_12,r6_13,r6_14,r6_15,r6_16,r6_17,r6_18,r6_19,r6_20,r6_21,r6_22,r6_23,p6,BS_45,BS_46,BS_size,BS_data,o2,hw,i30,i9,i16,hw0,hWpi,z1,imx,hPzz,v1,dv,md,v2,v3,v4,v5,hnt]) | (exfalso; omega)
        | false =>
          repeat' first | ((with_reducible (first | refine condD ?_ ?_ | refine condE ?_ ?_ | refine condN ?_ ?_ | refine condI ?_ ?_ | refine condS ?_ ?_)) <;> intro h) | ((with_reducible (first | refine guardD (by with_unfolding_all rfl) ?_ ?_ | refine guardE (by with_unfolding_all rfl) ?_ ?_ | refine guardN (by with_unfolding_all rfl) ?_ ?_ | refine guardI (by with_unfolding_all rfl) ?_ ?_ | refine guardS (by with_unfolding_all rfl) ?_ ?_)) <;> intro h) | ((refine callG (noscale_c _) ?_)) | ((refine callG (noway_c _) ?_)) | ((refine callG hCP ?_)) | ((refine callG hCut ?_)) | ((refine callG hA1 ?_)) | ((refine callG hN1 ?_)) | ((refine callG hSc ?_)) | ((refine callG hpw ?_)) | ((refine callG hN2 ?_)) | ((refine callG hRA ?_)) | ((refine callG hRB ?_)) | ((refine callG (notime_c _) ?_)) | (with_reducible refine And.intro ?_ ?_; omega) | (simp only [Z0,Z1,Z2,Z3,Z4,Z5,Z6,Z7,Z8,Z9,Za,Zb,Zc,Zd,Ze,Zf,List.cons.injEq,Zg,Zh,Zi,Zj,Zk,Zl,Zm,Zn,Zo,Zp,beq_self_eq_true,bne_self_eq_false,decide_true,decide_false,Zq,Zr,Zs,Zt,Zu,Zv,Zw,Zx,Zy,Zz,Y0,Y1,Y2,Y3,Y4,Y5,Y6,Y7,Y8,Y9,Ya,Yb,Yc,Yd,Ye,Yf,Yg,Yh,lk,ef,Yi,Yj,Yk,Yl,Ym,Yn,Yo,Yp,hv,Yq,ev,Yr,Ys,Yt,Yu,Yv,Yw,Yx,Yy,Yz,X0,X1,X2,X3,X4,X5,X6,X7,X8,X9,Xa,Xb,Xc,Xd,Xe,Xf,Xg,Xh,Xi,Xj,Xk,Xl,Xm,Xn,Value.oneCell',Xo,Xp,Xq,Xr,true_and,and_true,and_self,implies_true,Xs,Xt,Xu,Xv,false_implies,Xw,Xx,Xy,Xz,W0,W1,W2,W3,W4,W5,W6,W7,W8,W9,Wa,Wb,Wc,reduceCtorEq,if_true,if_false,Wd,↓reduceIte,We,Wf,Wg,Wh,Wi,Wj,ne_eq,not_false_eq_true,not_true_eq_false,Wk,Wl,r6_0,r6_1,r6_2,r6_3,r6_4,r6_5,r6_6,r6_7,r6_8,r6_9,r6_10,r6_11,r6_12,r6_13,r6_14,r6_15,r6_16,r6_17,r6_18,r6_19,r6_20,r6_21,r6_22,r6_23,p6,BS_45,BS_46,BS_size,BS_data,o2,hw,i30,i9,i16,hw0,hWpi,z1,imx,hPzz,v1,dv,md,v2,v3,v4,v5,hnt]) | (exfalso; omega)
    · rw [rdFin, if_neg hbig, if_neg (by simp)]
      rw [decide_eq_false hbig] at hnt
      rcases h48 with ⟨z1, z2⟩ | z1
      · cases pt with
        | true =>
          have hA2 := hA2' rfl
          repeat' first | ((with_reducible (first | refine condD ?_ ?_ | refine condE ?_ ?_ | refine condN ?_ ?_ | refine condI ?_ ?_ | refine condS ?_ ?_)) <;> intro h) | ((with_reducible (first | refine guardD (by with_unfolding_all rfl) ?_ ?_ | refine guardE (by with_unfolding_all rfl) ?_ ?_ | refine guardN (by with_unfolding_all rfl) ?_ ?_ | refine guardI (by with_unfolding_all rfl) ?_ ?_ | refine guardS (by with_unfolding_all rfl) ?_ ?_)) <;> intro h) | ((refine callG (noscale_c _) ?_)) | ((refine callG (noway_c _) ?_)) | ((refine callG hCP ?_)) | ((refine callG hCut ?_)) | ((refine callG hA1 ?_)) | ((refine callG hA2 ?_)) | ((refine callG hN1 ?_)) | ((refine callG hSc ?_)) | ((refine callG hpw ?_)) | ((refine callG hN2 ?_)) | ((refine callG hRA ?_)) | ((refine callG hRB ?_)) | ((refine callG (notime_c _) ?_)) | (with_reducible refine And.intro ?_ ?_; omega) | (simp only [Z0,Z1,Z2,Z3,Z4,Z5,Z6,Z7,Z8,Z9,Za,Zb,Zc,Zd,Ze,Zf,List.cons.injEq,Zg,Zh,Zi,Zj,Zk,Zl,Zm,Zn,Zo,Zp,beq_self_eq_true,bne_self_eq_false,decide_true,decide_false,Zq,Zr,Zs,Zt,Zu,Zv,Zw,Zx,Zy,Zz,Y0,Y1,Y2,Y3,Y4,Y5,Y6,Y7,Y8,Y9,Ya,Yb,Yc,Yd,Ye,Yf,Yg,Yh,lk,ef,Yi,Yj,Yk,Yl,Ym,Yn,Yo,Yp,hv,Yq,ev,Yr,Ys,Yt,Yu,Yv,Yw,Yx,Yy,Yz,X0,X1,X2,X3,X4,X5,X6,X7,X8,X9,Xa,Xb,Xc,Xd,Xe,Xf,Xg,Xh,Xi,Xj,Xk,Xl,Xm,Xn,Value.oneCell',Xo,Xp,Xq,Xr,true_and,and_true,and_self,implies_true,Xs,Xt,Xu,Xv,false_implies,Xw,Xx,Xy,Xz,W0,W1,W2,W3,W4,W5,W6,W7,W8,W9,Wa,Wb,Wc,reduceCtorEq,if_true,if_false,Wd,↓reduceIte,We,Wf,Wg,Wh,Wi,Wj,ne_eq,not_false_eq_true,not_true_eq_false,Wk,Wl,r6_0,r6_1,r6_2,r6_3,r6_4,r6_5,r6_6,r6_7,r6_8,r6_9,r6_10,r6_11,r6_12,r6_13,r6_14,r6_15,r6_16,r6_17,r6_18,r6_19,r6_20,r6_21,r6_22,r6_23,p6,BS_45,BS_46,BS_size,BS_data,o2,hw,i30,i9,i16,hw0,hWpi,z1,z2,imx,hPzz,v1,dv,md,v2,v3,v4,v5,hnt]) | (exfalso; omega)
        | false =>
          repeat' first | ((with_reducible (first | refine condD ?_ ?_ | refine condE ?_ ?_ | refine condN ?_ ?_ | refine condI ?_ ?_ | refine condS ?_ ?_)) <;> intro h) | ((with_reducible (first | refine guardD (by with_unfolding_all rfl) ?_ ?_ | refine guardE (by with_unfolding_all rfl) ?_ ?_ | refine guardN (by with_unfolding_all rfl) ?_ ?_ | refine guardI (by with_unfolding_all rfl) ?_ ?_ | refine guardS (by with_unfolding_all rfl) ?_ ?_)) <;> intro h) | ((refine callG (noscale_c _) ?_)) | ((refine callG (noway_c _) ?_)) | ((refine callG hCP ?_)) | ((refine callG hCut ?_)) | ((refine callG hA1 ?_)) | ((refine callG hN1 ?_)) | ((refine callG hSc ?_)) | ((refine callG hpw ?_)) | ((refine callG hN2 ?_)) | ((refine callG hRA ?_)) | ((refine callG hRB ?_)) | ((refine callG (notime_c _) ?_)) | (with_reducible refine And.intro ?_ ?_; omega) | (simp only [Z0,Z1,Z2,Z3,Z4,Z5,Z6,Z7,Z8,Z9,Za,Zb,Zc,Zd,Ze,Zf,List.cons.injEq,Zg,Zh,Zi,Zj,Zk,Zl,Zm,Zn,Zo,Zp,beq_self_eq_true,bne_self_eq_false,decide_true,decide_false,Zq,Zr,Zs,Zt,Zu,Zv,Zw,Zx,Zy,Zz,Y0,Y1,Y2,Y3,Y4,Y5,Y6,Y7,Y8,Y9,Ya,Yb,Yc,Yd,Ye,Yf,Yg,Yh,lk,ef,Yi,Yj,Yk,Yl,Ym,Yn,Yo,Yp,hv,Yq,ev,Yr,Ys,Yt,Yu,Yv,Yw,Yx,Yy,Yz,X0,X1,X2,X3,X4,X5,X6,X7,X8,X9,Xa,Xb,Xc,Xd,Xe,Xf,Xg,Xh,Xi,Xj,Xk,Xl,Xm,Xn,Value.oneCell',Xo,Xp,Xq,Xr,true_and,and_true,and_self,implies_true,Xs,Xt,Xu,Xv,false_implies,Xw,Xx,Xy,Xz,W0,W1,W2,W3,W4,W5,W6,W7,W8,W9,Wa,Wb,Wc,reduceCtorEq,if_true,if_false,Wd,↓reduceIte,We,Wf,Wg,Wh,Wi,Wj,ne_eq,not_false_eq_true,not_true_eq_false,Wk,Wl,r6_0,r6_1,r6_2,r6_3,r6_4,r6_5,r6_6,r6_7,r6_8,r6_9,r6_10,r6_11,r6_12,r6_13,r6_14,r6_15,r6_16,r6_17,r6_18,r6_19,r6_20,r6_21,r6_22,r6_23,p6,BS_45,BS_46,BS_size,BS_data,o2,hw,i30,i9,i16,hw0,hWpi,z1,z2,imx,hPzz,v1,dv,md,v2,v3,v4,v5,hnt]) | (exfalso; omega)
      · cases pt with
        | true =>
          have hA2 := hA2' rfl
          repeat' first | ((with_reducible (first | refine condD ?_ ?_ | refine condE ?_ ?_ | refine condN ?_ ?_ | refine condI ?_ ?_ | refine condS ?_ ?_)) <;> intro h) | ((with_reducible (first | refine guardD (by with_unfolding_all rfl) ?_ ?_ | refine guardE (by with_unfolding_all rfl) ?_ ?_ | refine guardN (by with_unfolding_all rfl) ?_ ?_ | refine guardI (by with_unfolding_all rfl) ?_ ?_ | refine guardS (by with_unfolding_all rfl) ?_ ?_)) <;> intro h) | ((refine callG (noscale_c _) ?_)) | ((refine callG (noway_c _) ?_)) | ((refine callG hCP ?_)) | ((refine callG hCut ?_)) | ((refine callG hA1 ?_)) | ((refine callG hA2 ?_)) | ((refine callG hN1 ?_)) | ((refine callG hSc ?_)) | ((refine callG hpw ?_)) | ((refine callG hN2 ?_)) | ((refine callG hRA ?_)) | ((refine callG hRB ?_)) | ((refine callG (notime_c _) ?_)) | (with_reducible refine And.intro ?_ ?_; omega) | (simp only [Z0,Z1,Z2,Z3,Z4,Z5,Z6,Z7,Z8,Z9,Za,Zb,Zc,Zd,Ze,Zf,List.cons.injEq,Zg,Zh,Zi,Zj,Zk,Zl,Zm,Zn,Zo,Zp,beq_self_eq_true,bne_self_eq_false,decide_true,decide_false,Zq,Zr,Zs,Zt,Zu,Zv,Zw,Zx,Zy,Zz,Y0,Y1,Y2,Y3,Y4,Y5,Y6,Y7,Y8,Y9,Ya,Yb,Yc,Yd,Ye,Yf,Yg,Yh,lk,ef,Yi,Yj,Yk,Yl,Ym,Yn,Yo,Yp,hv,Yq,ev,Yr,Ys,Yt,Yu,Yv,Yw,Yx,Yy,Yz,X0,X1,X2,X3,X4,X5,X6,X7,X8,X9,Xa,Xb,Xc,Xd,Xe,Xf,Xg,Xh,Xi,Xj,Xk,Xl,Xm,Xn,Value.oneCell',Xo,Xp,Xq,Xr,true_and,and_true,and_self,implies_true,Xs,Xt,Xu,Xv,false_implies,Xw,Xx,Xy,Xz,W0,W1,W2,W3,W4,W5,W6,W7,W8,W9,Wa,Wb,Wc,reduceCtorEq,if_true,if_false,Wd,↓reduceIte,We,Wf,Wg,Wh,Wi,Wj,ne_eq,not_false_eq_true,not_true_eq_false,Wk,Wl,r6_0,r6_1,r6_2,r6_3,r6_4,r6_5,r6_6,r6_7,r6_8,r6_9,r6_10,r6_11,r6_12,r6_13,r6_14,r6_15,r6_16,r6_17,r6_18,r6_19,r6_20,r6_21,r6_22,r6_23,p6,BS_45,BS_46,BS_size,BS_data,o2,hw,i30,i9,i16,hw0,hWpi,z1,imx,hPzz,v1,dv,md,v2,v3,v4,v5,hnt]) | (exfalso; omega)
        | false =>
          repeat' first | ((with_reducible (first | refine condD ?_ ?_ | refine condE ?_ ?_ | refine condN ?_ ?_ | refine condI ?_ ?_ | refine condS ?_ ?_)) <;> intro h) | ((with_reducible (first | refine guardD (by with_unfolding_all rfl) ?_ ?_ | refine guardE (by with_unfolding_all rfl) ?_ ?_ | refine guardN (by with_unfolding_all rfl) ?_ ?_ | refine guardI (by with_unfolding_all rfl) ?_ ?_ | refine guardS (by with_unfolding_all rfl) ?_ ?_)) <;> intro h) | ((refine callG (noscale_c _) ?_)) | ((refine callG (noway_c _) ?_)) | ((refine callG hCP ?_)) | ((refine callG hCut ?_)) | ((refine callG hA1 ?_)) | ((refine callG hN1 ?_)) | ((refine callG hSc ?_)) | ((refine callG hpw ?_)) | ((refine callG hN2 ?_)) | ((refine callG hRA ?_)) | ((refine callG hRB ?_)) | ((refine callG (notime_c _) ?_)) | (with_reducible refine And.intro ?_ ?_; omega) | (simp only [Z0,Z1,Z2,Z3,Z4,Z5,Z6,Z7,Z8,Z9,Za,Zb,Zc,Zd,Ze,Zf,List.cons.injEq,Zg,Zh,Zi,Zj,Zk,Zl,Zm,Zn,Zo,Zp,beq_self_eq_true,bne_self_eq_false,decide_true,decide_false,Zq,Zr,Zs,Zt,Zu,Zv,Zw,Zx,Zy,Zz,Y0,Y1,Y2,Y3,Y4,Y5,Y6,Y7,Y8,Y9,Ya,Yb,Yc,Yd,Ye,Yf,Yg,Yh,lk,ef,Yi,Yj,Yk,Yl,Ym,Yn,Yo,Yp,hv,Yq,ev,Yr,Ys,Yt,Yu,Yv,Yw,Yx,Yy,Yz,X0,X1,X2,X3,X4,X5,X6,X7,X8,X9,Xa,Xb,Xc,Xd,Xe,Xf,Xg,Xh,Xi,Xj,Xk,Xl,Xm,Xn,Value.oneCell',Xo,Xp,Xq,Xr,true_and,and_true,and_self,implies_true,Xs,Xt,Xu,Xv,false_implies,Xw,Xx,Xy,Xz,W0,W1,W2,W3,W4,W5,W6,W7,W8,W9,Wa,Wb,Wc,reduceCtorEq,if_true,if_false,Wd,↓reduceIte,We,Wf,Wg,Wh,Wi,Wj,ne_eq,not_false_eq_true,not_true_eq_false,Wk,Wl,r6_0,r6_1,r6_2,r6_3,r6_4,r6_5,r6_6,r6_7,r6_8,r6_9,r6_10,r6_11,r6_12,r6_13,r6_14,r6_15,r6_16,r6_17,r6_18,r6_19,r6_20,r6_21,r6_22,r6_23,p6,BS_45,BS_46,BS_size,BS_data,o2,hw,i30,i9,i16,hw0,hWpi,z1,imx,hPzz,v1,dv,md,v2,v3,v4,v5,hnt]) | (exfalso; omega)
end Go.Proofs.YtdfhpcghfmlfjaaGreatDoor
