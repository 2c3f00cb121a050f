/- wide.Scaled, wide.Floor, by the machine on data. -/
import Derived.Test.YtpecmhdepggnoaaKDiv
namespace Go.Proofs.Ytpecmhdepggnoaa
open Go.RowKit
open Go.Proofs.Ytpecmhdepggnoaa renaming done_eq → Z0, done_eq' → Z1, donet_eq → Z2, donet_eq' → Z3, fin_val → Z4, fin_tup → Z5, fin_agg → Z6, fin_ro → Z7, res_one → Z8, res_more → Z9, rv_t → Za, rv_c → Zb, rv_l → Zc, int_eq → Zg, bool_eq → Zh, toNat_pred → Zr, toNat_succ → Zs, cnd_t → Zu, cnd_f → Zv, grd_tt → Zw, grd_u → Zx, grd_tf → Zy, grd_ft → Zz, grd_ff → Y0, g_skip → Y1, g_ops → Y2, g_seq → Y3, g_block → Y4, g_exit → Y5, g_ret → Y6, g_nil → Y7, r_all → Y8, o_nil → Y9, g_cond → Ya, o_guard → Yb, o_call → Yc, o_mv → Yd, o_bin → Ye, o_un → Yf, o_conv → Yg, o_ext → Yh, o_asg → Yi, eqAV → Yj, view_t → Yk, view_c → Yl, view_nil → Ym, view_fn → Yn, look_own → Yo, look_box → Yp, look_junk → Yq, look_val → Yr, look_nilsl → Ys, look_ro → Yt, look_roAt → Yu, look_agg → Yv, look_tup → Yw, look_clo → Yx, look_alias → Yy, look_ref → Yz, look_into → X0, rowOf → X1, cellsOf → X2, argv → X3, vbin → X4, elemOf → X5, putParts → X6, setAt → X7, put_at → Xe, mk_at → Xf, mk_nil → Xg, initSt → Xh
open Go.Proofs.Ytpecmhdepggnoaa.AV.tup renaming injEq → Zd
open Go.Proofs.Ytpecmhdepggnoaa.AV.agg renaming injEq → Ze
open Go.Proofs.Ytpecmhdepggnoaa.AV.ro renaming injEq → Zf
open _root_.Int renaming toNat_natCast → Zi, reduceToNat → Zj, toNat_zero → Zk, toNat_one → Zl, reduceLE → Zm, reduceLT → Zn, reduceBEq → Zo, reduceBNe → Zp, reduceNeg → Zq
open _root_.List renaming length_map → Zt, map_cons → Xi, map_nil → Xj, forall_mem_cons → Xk, not_mem_nil → Xl, length_cons → Xm, length_nil → Xn, getD_cons_zero → Xo, getD_cons_succ → Xp, getD_nil → Xq, drop_succ_cons → Xr, drop_zero → Xs, take_succ_cons → Xt, take_zero → Xu, set_cons_zero → Xv, set_cons_succ → Xw, all_cons → Xx, all_nil → Xy
open Go.Proofs.Ytpecmhdepggnoaa.ASt renaming rid → X8, free → X9
open Go.Proofs.Ytpecmhdepggnoaa.AV renaming kill → Xa, isHome → Xb, noLoan → Xc, cellOK → Xd
open _root_.Bool renaming and_true → Xz, true_and → W0, not_true → W1, not_false → W2, false_eq_true → W3
open _root_.Nat renaming reduceEqDiff → W4, reduceAdd → W5, reduceSub → W6, reduceMul → W7, reduceLeDiff → W8, reduceLT → W9, one_ne_zero → Wa, zero_ne_one → Wb
set_option linter.unusedSimpArgs false

/-! headend/wide.Scaled -/
def r38_0 : List POp := [⟨8, .asg (.c (.int .i64 0)), none⟩]
def r38_1 : List POp := [⟨14, .mv (.t 0), none⟩,
  ⟨15, .bin .lss (.t 14) (.c (.int .i64 0)), none⟩,
  ⟨9, .asg (.t 15), none⟩]
def r38_2 : List POp := [⟨17, .mv (.t 0), none⟩,
  ⟨18, .call 63 [.t 17], none⟩,
  ⟨19, .mv (.t 1), none⟩,
  ⟨20, .conv .u64 (.t 19), none⟩,
  ⟨21, .call 62 [.t 18, .t 20], none⟩,
  ⟨16, .mv (.t 21), none⟩,
  ⟨22, .ext 0 (.t 16), none⟩,
  ⟨23, .ext 1 (.t 16), none⟩,
  ⟨10, .mv (.t 22), none⟩,
  ⟨11, .mv (.t 23), none⟩]
def r38_3 : List POp := [⟨12, .asg (.c (.int .u64 1152921504606846976)), none⟩,
  ⟨13, .asg (.c (.int .u64 0)), none⟩]
def r38_4 : List POp := [⟨24, .mv (.t 10), none⟩,
  ⟨25, .mv (.t 2), none⟩,
  ⟨26, .conv .u64 (.t 25), none⟩,
  ⟨27, .bin .lss (.t 24) (.t 26), none⟩]
def r38_5 : List POp := [⟨29, .mv (.t 10), none⟩,
  ⟨30, .mv (.t 11), none⟩,
  ⟨31, .mv (.t 2), none⟩,
  ⟨32, .conv .u64 (.t 31), none⟩,
  ⟨33, .call 64 [.t 29, .t 30, .t 32], none⟩,
  ⟨28, .mv (.t 33), none⟩,
  ⟨34, .ext 0 (.t 28), none⟩,
  ⟨35, .ext 1 (.t 28), none⟩,
  ⟨12, .mv (.t 34), none⟩,
  ⟨13, .mv (.t 35), none⟩]
def r38_6 : List POp := [⟨36, .mv (.t 3), none⟩,
  ⟨37, .mv (.t 9), none⟩,
  ⟨38, .mv (.t 13), none⟩,
  ⟨39, .mv (.t 2), none⟩,
  ⟨40, .conv .u64 (.t 39), none⟩,
  ⟨41, .call 65 [.t 36, .t 37, .t 38, .t 40], none⟩]
def r38_7 : List POp := [⟨42, .mv (.t 12), none⟩,
  ⟨43, .bin .add (.t 42) (.c (.int .u64 1)), none⟩,
  ⟨12, .asg (.t 43), none⟩]
def r38_8 : List POp := [⟨44, .mv (.t 12), none⟩,
  ⟨45, .bin .gtr (.t 44) (.c (.int .u64 1152921504606846976)), none⟩]
def r38_9 : List POp := [⟨12, .asg (.c (.int .u64 1152921504606846976)), none⟩]
def r38_10 : List POp := [⟨46, .mv (.t 9), none⟩]
def r38_11 : List POp := [⟨47, .mv (.t 12), none⟩,
  ⟨48, .conv .i64 (.t 47), none⟩,
  ⟨49, .un .neg (.t 48), none⟩,
  ⟨8, .asg (.t 49), none⟩]
def r38_12 : List POp := [⟨50, .mv (.t 12), none⟩,
  ⟨51, .conv .i64 (.t 50), none⟩,
  ⟨8, .asg (.t 51), none⟩]
def p38 : PCode := .seq (.ops r38_0) (.seq (.ops r38_1) (.seq (.ops r38_2) (.seq (.ops r38_3) (.seq (.seq (.ops r38_4) (.cond (.t 27) (.ops r38_5) (.skip))) (.seq (.seq (.ops r38_6) (.cond (.t 41) (.ops r38_7) (.skip))) (.seq (.seq (.ops r38_8) (.cond (.t 45) (.ops r38_9) (.skip))) (.seq (.seq (.ops r38_10) (.cond (.t 46) (.seq (.ops r38_11) (.ret)) (.skip))) (.seq (.ops r38_12) (.ret)))))))))
theorem ok38 : okFunc Try.prog 38 [.t 8] 4 p38 = true := by kernel_rfl
theorem div64_all (hi lo y : Nat) (h : hi < y) (hl : lo < 18446744073709551616) (hy : y < 18446744073709551616) : CallOK Try.prog 64 [.val (.int .u64 hi), .val (.int .u64 lo), .val (.int .u64 y)]
    (.tup [.val (.int .u64 (((hi * 18446744073709551616 + lo) / y : Nat) : Int)), .val (.int .u64 (((hi * 18446744073709551616 + lo) % y : Nat) : Int))]) := by
  rcases Nat.eq_zero_or_pos hi with rfl | h0
  · rw [Nat.zero_mul, Nat.zero_add]
    exact div64_small lo y hl h hy
  · exact div64_c hi lo y h hl hy h0
/-- The size of n times by / part, as it is computed. -/
def sclA (way : Int) (neg : Bool) (Q p : Nat) : Nat := if 18446744073709551616 * p ≤ Q then 1152921504606846976 else min (if rndB way neg (Q % p) p = true then (Q / p + 1) % 18446744073709551616 else Q / p) 1152921504606846976
def scl (n : Int) (b p : Nat) (way : Int) : Int := if n < 0 then -((sclA way (decide (n < 0)) (n.natAbs * b) p : Nat) : Int) else ((sclA way (decide (n < 0)) (n.natAbs * b) p : Nat) : Int)
theorem scl_neg {n : Int} (b p : Nat) (way : Int) (h : n < 0) : scl n b p way = -((sclA way (decide (n < 0)) (n.natAbs * b) p : Nat) : Int) := if_pos h
theorem scl_pos {n : Int} (b p : Nat) (way : Int) (h : ¬ n < 0) : scl n b p way = ((sclA way (decide (n < 0)) (n.natAbs * b) p : Nat) : Int) := if_neg h
theorem sclA_le (way : Int) (neg : Bool) (Q p : Nat) : sclA way neg Q p ≤ 1152921504606846976 := by
  unfold sclA; split
  · exact Nat.le_refl _
  · exact Nat.min_le_right _ _
theorem rndB_0 (way : Int) (neg : Bool) {p : Nat} (h : 0 < p) : rndB way neg 0 p = false := by
  unfold rndB
  split
  · simp
  · split
    · simp
    · simp; omega
theorem fin_n1 {q : Nat} (h : ¬ (1152921504606846976 : Int) < q) : IntKind.i64.wrap (0 - IntKind.i64.wrap (q : Int)) = -((min q 1152921504606846976 : Nat) : Int) := by
  rw [wrap_in (n := (q : Int)) (by omega) (by omega), wrap_in (by omega) (by omega)]; omega
theorem fin_p1 {q : Nat} (h : ¬ (1152921504606846976 : Int) < q) : IntKind.i64.wrap (q : Int) = ((min q 1152921504606846976 : Nat) : Int) := by
  rw [wrap_in (n := (q : Int)) (by omega) (by omega)]; omega
theorem fin_n2 {q : Nat} (h : (1152921504606846976 : Int) < q) : IntKind.i64.wrap (0 - IntKind.i64.wrap 1152921504606846976) = -((min q 1152921504606846976 : Nat) : Int) := by
  rw [wrap_in (n := 1152921504606846976) (by omega) (by omega), wrap_in (by omega) (by omega)]; omega
theorem fin_p2 {q : Nat} (h : (1152921504606846976 : Int) < q) : IntKind.i64.wrap 1152921504606846976 = ((min q 1152921504606846976 : Nat) : Int) := by
  rw [wrap_in (n := 1152921504606846976) (by omega) (by omega)]; omega
theorem rounds_0 (way : Int) (neg : Bool) (p : Nat) (h : 0 < p) (hp : p ≤ 9223372036854775807) : CallOK Try.prog 65 [.val (.int .i64 way), .val (.bool neg), .val (.int .u64 0), .val (.int .u64 p)] (.val (.bool false)) := by
  have := rounds_c way neg 0 p (by omega) (by omega)
  rwa [rndB_0 _ _ h] at this
theorem scaled_c (n : Int) (b p : Nat) (way : Int) (h0 : -9223372036854775808 ≤ n) (h1 : n ≤ 9223372036854775807) (hb : b ≤ 9223372036854775807) (hp0 : 0 < p) (hp : p ≤ 9223372036854775807) :
    CallOK Try.prog 38 [.val (.int .i64 n), .val (.int .i64 b), .val (.int .i64 p), .val (.int .i64 way)] (.val (.int .i64 (scl n b p way))) := by
  refine call_of mixed ok38 rfl ?_
  have hwb : IntKind.u64.wrap (b : Int) = b := u_wrap (by omega) (by omega)
  have hwp : IntKind.u64.wrap (p : Int) = p := u_wrap (by omega) (by omega)
  have hmul := mul64_c n.natAbs b (by omega) (by omega)
  obtain ⟨Q, hQ⟩ : ∃ Q, Q = n.natAbs * b := ⟨_, rfl⟩
  rw [← hQ] at hmul
  have hsp := fun h => scl_pos (n := n) b p way h
  have hsn := fun h => scl_neg (n := n) b p way h
  rw [← hQ] at hsp hsn
  clear hQ
  have hQ1 : Q / 18446744073709551616 * 18446744073709551616 + Q % 18446744073709551616 = Q := by omega
  by_cases hov : p ≤ Q / 18446744073709551616
  · have hA : ∀ neg, sclA way neg Q p = 1152921504606846976 := fun neg => if_pos (by omega)
    have hov' : ¬ (((Q / 18446744073709551616 : Nat) : Int) < p) := by omega
    rw [hA] at hsp hsn
    by_cases hneg : n < 0
    · rw [hsn hneg]
      clear hsp hsn hA
      repeat' first | ((with_reducible (first | refine condD ?_ ?_ | refine condE ?_ ?_ | refine condN ?_ ?_ | refine condI ?_ ?_ | refine condS ?_ ?_)) <;> intro h) | ((refine callG (size_c _ h0 h1) ?_)) | ((refine callG hmul ?_)) | ((refine callG (rounds_0 way true p hp0 hp) ?_)) | (with_reducible refine And.intro ?_ ?_; omega) | (simp only [Z0,Z1,Z2,Z3,Z4,Z5,Z6,Z7,Z8,Z9,Za,Zb,Zc,Zd,Ze,Zf,List.cons.injEq,Zg,Zh,Zi,Zj,Zk,Zl,Zm,Zn,Zo,Zp,beq_self_eq_true,bne_self_eq_false,decide_true,decide_false,Zq,Zr,Zs,Zt,Zu,Zv,Zw,Zx,Zy,Zz,Y0,Y1,Y2,Y3,Y4,Y5,Y6,x_c,x_o,x_l,x_b,g_b,Y7,Y8,Y9,Ya,Yb,Yc,lk,ef,Yd,Ye,Yf,Yg,Yh,Yi,hv,Yj,ev,Yk,Yl,Ym,Yn,Yo,Yp,Yq,Yr,Ys,Yt,Yu,Yv,Yw,Yx,Yy,Yz,X0,X1,X2,X3,X4,vun,bnd,X5,X6,X7,zav,X8,X9,Xa,Xb,Xc,Xd,Value.oneCell',Xe,Xf,Xg,Xh,true_and,and_true,and_self,implies_true,Xi,Xj,Xk,Xl,false_implies,Xm,Xn,Xo,Xp,Xq,Xr,Xs,Xt,Xu,Xv,Xw,Xx,Xy,Xz,W0,W1,W2,reduceCtorEq,if_true,if_false,W3,↓reduceIte,W4,W5,W6,W7,W8,W9,ne_eq,not_false_eq_true,not_true_eq_false,Wa,Wb,r38_0,r38_1,r38_2,r38_3,r38_4,r38_5,r38_6,r38_7,r38_8,r38_9,r38_10,r38_11,r38_12,p38,hneg,hwb,hwp,hov']) | (exfalso; omega)
      all_goals rfl
    · rw [hsp hneg]
      clear hsp hsn hA
      repeat' first | ((with_reducible (first | refine condD ?_ ?_ | refine condE ?_ ?_ | refine condN ?_ ?_ | refine condI ?_ ?_ | refine condS ?_ ?_)) <;> intro h) | ((refine callG (size_c _ h0 h1) ?_)) | ((refine callG hmul ?_)) | ((refine callG (rounds_0 way false p hp0 hp) ?_)) | (with_reducible refine And.intro ?_ ?_; omega) | (simp only [Z0,Z1,Z2,Z3,Z4,Z5,Z6,Z7,Z8,Z9,Za,Zb,Zc,Zd,Ze,Zf,List.cons.injEq,Zg,Zh,Zi,Zj,Zk,Zl,Zm,Zn,Zo,Zp,beq_self_eq_true,bne_self_eq_false,decide_true,decide_false,Zq,Zr,Zs,Zt,Zu,Zv,Zw,Zx,Zy,Zz,Y0,Y1,Y2,Y3,Y4,Y5,Y6,x_c,x_o,x_l,x_b,g_b,Y7,Y8,Y9,Ya,Yb,Yc,lk,ef,Yd,Ye,Yf,Yg,Yh,Yi,hv,Yj,ev,Yk,Yl,Ym,Yn,Yo,Yp,Yq,Yr,Ys,Yt,Yu,Yv,Yw,Yx,Yy,Yz,X0,X1,X2,X3,X4,vun,bnd,X5,X6,X7,zav,X8,X9,Xa,Xb,Xc,Xd,Value.oneCell',Xe,Xf,Xg,Xh,true_and,and_true,and_self,implies_true,Xi,Xj,Xk,Xl,false_implies,Xm,Xn,Xo,Xp,Xq,Xr,Xs,Xt,Xu,Xv,Xw,Xx,Xy,Xz,W0,W1,W2,reduceCtorEq,if_true,if_false,W3,↓reduceIte,W4,W5,W6,W7,W8,W9,ne_eq,not_false_eq_true,not_true_eq_false,Wa,Wb,r38_0,r38_1,r38_2,r38_3,r38_4,r38_5,r38_6,r38_7,r38_8,r38_9,r38_10,r38_11,r38_12,p38,hneg,hwb,hwp,hov']) | (exfalso; omega)
      all_goals rfl
  · have hov' : ((Q / 18446744073709551616 : Nat) : Int) < p := by omega
    have hdiv := div64_all (Q / 18446744073709551616) (Q % 18446744073709551616) p (by omega) (Nat.mod_lt _ (by decide)) (by omega)
    rw [hQ1] at hdiv
    have hr : Q % p < p := Nat.mod_lt _ hp0
    have hrd := rounds_c way (decide (n < 0)) (Q % p) p (by omega) (by omega)
    have hA : ∀ neg, sclA way neg Q p = min (if rndB way neg (Q % p) p = true then (Q / p + 1) % 18446744073709551616 else Q / p) 1152921504606846976 := fun neg => if_neg (by omega)
    have hq : Q / p < 18446744073709551616 := by rw [Nat.div_lt_iff_lt_mul hp0]; omega
    rw [hA] at hsp hsn
    clear hA
    obtain ⟨q1, hq1, hq1b, hwq⟩ : ∃ q1, q1 = (Q / p + 1) % 18446744073709551616 ∧ q1 < 18446744073709551616 ∧ IntKind.u64.wrap (((Q / p : Nat) : Int) + 1) = (q1 : Int) := by
      refine ⟨_, rfl, Nat.mod_lt _ (by decide), ?_⟩
      have := u_mod (Q / p + 1)
      rw [← this]; rfl
    rw [← hq1] at hsp hsn
    have hov'2 := hov'
    clear hq1 hov hov'
    generalize rndB way (decide (n < 0)) (Q % p) p = rb at hsp hsn hrd
    generalize Q / p = q at hq hdiv hsp hsn hwq
    cases rb
    · simp only [Bool.false_eq_true, if_false] at hsp hsn
      by_cases hneg : n < 0
      · rw [hsn hneg]
        clear hsp hsn
        rw [decide_eq_true hneg] at hrd
        repeat' first | ((with_reducible (first | refine condD ?_ ?_ | refine condE ?_ ?_ | refine condN ?_ ?_ | refine condI ?_ ?_ | refine condS ?_ ?_)) <;> intro h) | ((refine callG (size_c _ h0 h1) ?_)) | ((refine callG hmul ?_)) | ((refine callG hdiv ?_)) | ((refine callG hrd ?_)) | (with_reducible refine And.intro ?_ ?_; omega) | (simp only [Z0,Z1,Z2,Z3,Z4,Z5,Z6,Z7,Z8,Z9,Za,Zb,Zc,Zd,Ze,Zf,List.cons.injEq,Zg,Zh,Zi,Zj,Zk,Zl,Zm,Zn,Zo,Zp,beq_self_eq_true,bne_self_eq_false,decide_true,decide_false,Zq,Zr,Zs,Zt,Zu,Zv,Zw,Zx,Zy,Zz,Y0,Y1,Y2,Y3,Y4,Y5,Y6,x_c,x_o,x_l,x_b,g_b,Y7,Y8,Y9,Ya,Yb,Yc,lk,ef,Yd,Ye,Yf,Yg,Yh,Yi,hv,Yj,ev,Yk,Yl,Ym,Yn,Yo,Yp,Yq,Yr,Ys,Yt,Yu,Yv,Yw,Yx,Yy,Yz,X0,X1,X2,X3,X4,vun,bnd,X5,X6,X7,zav,X8,X9,Xa,Xb,Xc,Xd,Value.oneCell',Xe,Xf,Xg,Xh,true_and,and_true,and_self,implies_true,Xi,Xj,Xk,Xl,false_implies,Xm,Xn,Xo,Xp,Xq,Xr,Xs,Xt,Xu,Xv,Xw,Xx,Xy,Xz,W0,W1,W2,reduceCtorEq,if_true,if_false,W3,↓reduceIte,W4,W5,W6,W7,W8,W9,ne_eq,not_false_eq_true,not_true_eq_false,Wa,Wb,r38_0,r38_1,r38_2,r38_3,r38_4,r38_5,r38_6,r38_7,r38_8,r38_9,r38_10,r38_11,r38_12,p38,hwb,hwp,hneg,hov'2,hwq]) | (exfalso; omega)
        all_goals first | exact fin_n1 (by assumption) | exact fin_n2 (by assumption)
      · rw [hsp hneg]
        clear hsp hsn
        rw [decide_eq_false hneg] at hrd
        repeat' first | ((with_reducible (first | refine condD ?_ ?_ | refine condE ?_ ?_ | refine condN ?_ ?_ | refine condI ?_ ?_ | refine condS ?_ ?_)) <;> intro h) | ((refine callG (size_c _ h0 h1) ?_)) | ((refine callG hmul ?_)) | ((refine callG hdiv ?_)) | ((refine callG hrd ?_)) | (with_reducible refine And.intro ?_ ?_; omega) | (simp only [Z0,Z1,Z2,Z3,Z4,Z5,Z6,Z7,Z8,Z9,Za,Zb,Zc,Zd,Ze,Zf,List.cons.injEq,Zg,Zh,Zi,Zj,Zk,Zl,Zm,Zn,Zo,Zp,beq_self_eq_true,bne_self_eq_false,decide_true,decide_false,Zq,Zr,Zs,Zt,Zu,Zv,Zw,Zx,Zy,Zz,Y0,Y1,Y2,Y3,Y4,Y5,Y6,x_c,x_o,x_l,x_b,g_b,Y7,Y8,Y9,Ya,Yb,Yc,lk,ef,Yd,Ye,Yf,Yg,Yh,Yi,hv,Yj,ev,Yk,Yl,Ym,Yn,Yo,Yp,Yq,Yr,Ys,Yt,Yu,Yv,Yw,Yx,Yy,Yz,X0,X1,X2,X3,X4,vun,bnd,X5,X6,X7,zav,X8,X9,Xa,Xb,Xc,Xd,Value.oneCell',Xe,Xf,Xg,Xh,true_and,and_true,and_self,implies_true,Xi,Xj,Xk,Xl,false_implies,Xm,Xn,Xo,Xp,Xq,Xr,Xs,Xt,Xu,Xv,Xw,Xx,Xy,Xz,W0,W1,W2,reduceCtorEq,if_true,if_false,W3,↓reduceIte,W4,W5,W6,W7,W8,W9,ne_eq,not_false_eq_true,not_true_eq_false,Wa,Wb,r38_0,r38_1,r38_2,r38_3,r38_4,r38_5,r38_6,r38_7,r38_8,r38_9,r38_10,r38_11,r38_12,p38,hwb,hwp,hneg,hov'2,hwq]) | (exfalso; omega)
        all_goals first | exact fin_p1 (by assumption) | exact fin_p2 (by assumption)
    · simp only [if_true] at hsp hsn
      by_cases hneg : n < 0
      · rw [hsn hneg]
        clear hsp hsn
        rw [decide_eq_true hneg] at hrd
        repeat' first | ((with_reducible (first | refine condD ?_ ?_ | refine condE ?_ ?_ | refine condN ?_ ?_ | refine condI ?_ ?_ | refine condS ?_ ?_)) <;> intro h) | ((refine callG (size_c _ h0 h1) ?_)) | ((refine callG hmul ?_)) | ((refine callG hdiv ?_)) | ((refine callG hrd ?_)) | (with_reducible refine And.intro ?_ ?_; omega) | (simp only [Z0,Z1,Z2,Z3,Z4,Z5,Z6,Z7,Z8,Z9,Za,Zb,Zc,Zd,Ze,Zf,List.cons.injEq,Zg,Zh,Zi,Zj,Zk,Zl,Zm,Zn,Zo,Zp,beq_self_eq_true,bne_self_eq_false,decide_true,decide_false,Zq,Zr,Zs,Zt,Zu,Zv,Zw,Zx,Zy,Zz,Y0,Y1,Y2,Y3,Y4,Y5,Y6,x_c,x_o,x_l,x_b,g_b,Y7,Y8,Y9,Ya,Yb,Yc,lk,ef,Yd,Ye,Yf,Yg,Yh,Yi,hv,Yj,ev,Yk,Yl,Ym,Yn,Yo,Yp,Yq,Yr,Ys,Yt,Yu,Yv,Yw,Yx,Yy,Yz,X0,X1,X2,X3,X4,vun,bnd,X5,X6,X7,zav,X8,X9,Xa,Xb,Xc,Xd,Value.oneCell',Xe,Xf,Xg,Xh,true_and,and_true,and_self,implies_true,Xi,Xj,Xk,Xl,false_implies,Xm,Xn,Xo,Xp,Xq,Xr,Xs,Xt,Xu,Xv,Xw,Xx,Xy,Xz,W0,W1,W2,reduceCtorEq,if_true,if_false,W3,↓reduceIte,W4,W5,W6,W7,W8,W9,ne_eq,not_false_eq_true,not_true_eq_false,Wa,Wb,r38_0,r38_1,r38_2,r38_3,r38_4,r38_5,r38_6,r38_7,r38_8,r38_9,r38_10,r38_11,r38_12,p38,hwb,hwp,hneg,hov'2,hwq]) | (exfalso; omega)
        all_goals first | exact fin_n1 (by assumption) | exact fin_n2 (by assumption)
      · rw [hsp hneg]
        clear hsp hsn
        rw [decide_eq_false hneg] at hrd
        repeat' first | ((with_reducible (first | refine condD ?_ ?_ | refine condE ?_ ?_ | refine condN ?_ ?_ | refine condI ?_ ?_ | refine condS ?_ ?_)) <;> intro h) | ((refine callG (size_c _ h0 h1) ?_)) | ((refine callG hmul ?_)) | ((refine callG hdiv ?_)) | ((refine callG hrd ?_)) | (with_reducible refine And.intro ?_ ?_; omega) | (simp only [Z0,Z1,Z2,Z3,Z4,Z5,Z6,Z7,Z8,Z9,Za,Zb,Zc,Zd,Ze,Zf,List.cons.injEq,Zg,Zh,Zi,Zj,Zk,Zl,Zm,Zn,Zo,Zp,beq_self_eq_true,bne_self_eq_false,decide_true,decide_false,Zq,Zr,Zs,Zt,Zu,Zv,Zw,Zx,Zy,Zz,Y0,Y1,Y2,Y3,Y4,Y5,Y6,x_c,x_o,x_l,x_b,g_b,Y7,Y8,Y9,Ya,Yb,Yc,lk,ef,Yd,Ye,Yf,Yg,Yh,Yi,hv,Yj,ev,Yk,Yl,Ym,Yn,Yo,Yp,Yq,Yr,Ys,Yt,Yu,Yv,Yw,Yx,Yy,Yz,X0,X1,X2,X3,X4,vun,bnd,X5,X6,X7,zav,X8,X9,Xa,Xb,Xc,Xd,Value.oneCell',Xe,Xf,Xg,Xh,true_and,and_true,and_self,implies_true,Xi,Xj,Xk,Xl,false_implies,Xm,Xn,Xo,Xp,Xq,Xr,Xs,Xt,Xu,Xv,Xw,Xx,Xy,Xz,W0,W1,W2,reduceCtorEq,if_true,if_false,W3,↓reduceIte,W4,W5,W6,W7,W8,W9,ne_eq,not_false_eq_true,not_true_eq_false,Wa,Wb,r38_0,r38_1,r38_2,r38_3,r38_4,r38_5,r38_6,r38_7,r38_8,r38_9,r38_10,r38_11,r38_12,p38,hwb,hwp,hneg,hov'2,hwq]) | (exfalso; omega)
        all_goals first | exact fin_p1 (by assumption) | exact fin_p2 (by assumption)
theorem scaledI_c (n b p way : Int) (h0 : -9223372036854775808 ≤ n) (h1 : n ≤ 9223372036854775807) (hb0 : 0 ≤ b) (hb : b ≤ 9223372036854775807) (hp0 : 0 < p) (hp : p ≤ 9223372036854775807) :
    CallOK Try.prog 38 [.val (.int .i64 n), .val (.int .i64 b), .val (.int .i64 p), .val (.int .i64 way)] (.val (.int .i64 (scl n b.toNat p.toNat way))) := by
  obtain ⟨b, rfl⟩ : ∃ k : Nat, b = k := ⟨b.toNat, by omega⟩
  obtain ⟨p, rfl⟩ : ∃ k : Nat, p = k := ⟨p.toNat, by omega⟩
  exact scaled_c n b p way h0 h1 (by omega) (by omega) (by omega)
end Go.Proofs.Ytpecmhdepggnoaa
