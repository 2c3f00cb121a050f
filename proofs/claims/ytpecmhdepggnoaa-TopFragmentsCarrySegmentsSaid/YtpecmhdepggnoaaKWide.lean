/- Numbers of 128 bits: wide.Times, Compare, by the machine on data. -/
import Derived.Test.YtpecmhdepggnoaaKBits
import Derived.Test.YtpecmhdepggnoaaKNat
import Derived.Shelf.Spec.BitsCarry
namespace Go.Proofs.Ytpecmhdepggnoaa
open Go.RowKit
open Go.Proofs.Ytpecmhdepggnoaa renaming done_eq → Z0, done_eq' → Z1, donet_eq → Z2, donet_eq' → Z3, fin_val → Z4, fin_tup → Z5, fin_agg → Z6, fin_ro → Z7, res_one → Z8, res_more → Z9, rv_t → Za, rv_c → Zb, rv_l → Zc, int_eq → Zg, bool_eq → Zh, toNat_pred → Zr, toNat_succ → Zs, cnd_t → Zu, cnd_f → Zv, grd_tt → Zw, grd_u → Zx, grd_tf → Zy, grd_ft → Zz, grd_ff → Y0, g_skip → Y1, g_ops → Y2, g_seq → Y3, g_block → Y4, g_exit → Y5, g_ret → Y6, g_nil → Y7, r_all → Y8, o_nil → Y9, g_cond → Ya, o_guard → Yb, o_call → Yc, o_mv → Yd, o_bin → Ye, o_asg → Yf, eqAV → Yg, view_t → Yh, view_c → Yi, view_nil → Yj, view_fn → Yk, look_own → Yl, look_box → Ym, look_junk → Yn, look_val → Yo, look_nilsl → Yp, look_ro → Yq, look_roAt → Yr, look_agg → Ys, look_tup → Yt, look_clo → Yu, look_alias → Yv, look_ref → Yw, look_into → Yx, rowOf → Yy, cellsOf → Yz, argv → X0, vbin → X1, elemOf → X2, putParts → X3, setAt → X4, put_at → Xb, mk_at → Xc, mk_nil → Xd, initSt → Xe
open Go.Proofs.Ytpecmhdepggnoaa.AV.tup renaming injEq → Zd
open Go.Proofs.Ytpecmhdepggnoaa.AV.agg renaming injEq → Ze
open Go.Proofs.Ytpecmhdepggnoaa.AV.ro renaming injEq → Zf
open _root_.Int renaming toNat_natCast → Zi, reduceToNat → Zj, toNat_zero → Zk, toNat_one → Zl, reduceLE → Zm, reduceLT → Zn, reduceBEq → Zo, reduceBNe → Zp, reduceNeg → Zq
open _root_.List renaming length_map → Zt, map_cons → Xf, map_nil → Xg, forall_mem_cons → Xh, not_mem_nil → Xi, length_cons → Xj, length_nil → Xk, getD_cons_zero → Xl, getD_cons_succ → Xm, getD_nil → Xn, drop_succ_cons → Xo, drop_zero → Xp, take_succ_cons → Xq, take_zero → Xr, set_cons_zero → Xs, set_cons_succ → Xt, all_cons → Xu, all_nil → Xv
open Go.Proofs.Ytpecmhdepggnoaa.ASt renaming rid → X5, free → X6
open Go.Proofs.Ytpecmhdepggnoaa.AV renaming kill → X7, isHome → X8, noLoan → X9, cellOK → Xa
open _root_.Bool renaming and_true → Xw, true_and → Xx, not_true → Xy, not_false → Xz, false_eq_true → W0
open _root_.Nat renaming reduceEqDiff → W1, reduceAdd → W2, reduceSub → W3, reduceMul → W4, reduceLeDiff → W5, reduceLT → W6, one_ne_zero → W7, zero_ne_one → W8
set_option linter.unusedSimpArgs false

theorem sub64_x (x y b : Nat) (hb : b ≤ 1) : ExtOK Try.prog 120 [.int .u64 x, .int .u64 y, .int .u64 b] [.int .u64 (((x + 18446744073709551616 - y - b) % 18446744073709551616 : Nat) : Int), .int .u64 ((if x < y + b then 1 else 0 : Nat) : Int)] := by
  intro w
  show (callFunc 120 #[.int .u64 x, .int .u64 y, .int .u64 b]).run Try.prog w = _
  rw [run_callFunc_extern Try.func120 (by kernel_rfl) (by kernel_rfl) (by kernel_rfl) (e := sub64Entry) (by kernel_rfl), run_sub64 x y b hb]
  rfl

theorem sub0_x (y b : Int) (hy : 0 ≤ y) (hy1 : y < 18446744073709551616) (hb : 0 ≤ b) (hb1 : b ≤ 1) : ExtOK Try.prog 120 [.int .u64 0, .int .u64 y, .int .u64 b] [.int .u64 ((-y - b) % 18446744073709551616), .int .u64 (if 0 < y + b then 1 else 0)] := by
  have h := sub64_x 0 y.toNat b.toNat (by omega)
  have e1 : (((0 + 18446744073709551616 - y.toNat - b.toNat) % 18446744073709551616 : Nat) : Int) = (-y - b) % 18446744073709551616 := by omega
  have e2 : ((if 0 < y.toNat + b.toNat then 1 else 0 : Nat) : Int) = if 0 < y + b then 1 else 0 := by
    by_cases h : 0 < y + b
    · rw [if_pos h, if_pos (by omega)]; rfl
    · rw [if_neg h, if_neg (by omega)]; rfl
  have e3 : ((y.toNat : Nat) : Int) = y := by omega
  have e4 : ((b.toNat : Nat) : Int) = b := by omega
  rw [e1, e2, e3, e4] at h
  exact h

/-- A number of 128 bits. -/
def wideV (p : Int) : AV := .agg [.val (.int .i64 (p / 18446744073709551616)), .val (.int .u64 (p % 18446744073709551616))]
theorem abs_prod (a b : Int) (ha0 : -9223372036854775808 ≤ a) (ha1 : a ≤ 9223372036854775807) (hb0 : -9223372036854775808 ≤ b) (hb1 : b ≤ 9223372036854775807) : a.natAbs * b.natAbs ≤ 85070591730234615865843651857942052864 ∧ ((decide (a < 0) = decide (b < 0)) → a * b = ((a.natAbs * b.natAbs : Nat) : Int)) ∧ (¬ (decide (a < 0) = decide (b < 0)) → a * b = -((a.natAbs * b.natAbs : Nat) : Int)) := by
  have h1 : a.natAbs * b.natAbs ≤ 9223372036854775808 * 9223372036854775808 := Nat.mul_le_mul (by omega) (by omega)
  refine ⟨by omega, fun h => ?_, fun h => ?_⟩
  · rw [Int.natCast_mul]
    by_cases h2 : a < 0
    · have h3 : b < 0 := by simpa [h2] using h
      rw [show a = -(a.natAbs : Int) by omega, show b = -(b.natAbs : Int) by omega, Int.neg_mul_neg]
      simp
    · have h3 : ¬ b < 0 := by simpa [h2] using h
      rw [show (a.natAbs : Int) = a by omega, show (b.natAbs : Int) = b by omega]
  · rw [Int.natCast_mul]
    by_cases h2 : a < 0
    · have h3 : ¬ b < 0 := by simpa [h2] using h
      rw [show (a.natAbs : Int) = -a by omega, show (b.natAbs : Int) = b by omega, Int.neg_mul, Int.neg_neg]
    · have h3 : b < 0 := by simpa [h2] using h
      rw [show (a.natAbs : Int) = a by omega, show (b.natAbs : Int) = -b by omega, Int.mul_neg, Int.neg_neg]
theorem wrap_hi (n : Int) (h0 : 0 ≤ n) (h1 : n < 18446744073709551616) : IntKind.i64.wrap n = if n < 9223372036854775808 then n else n - 18446744073709551616 := by
  unfold IntKind.wrap
  simp [IntKind.bits, IntKind.signed]
  split <;> omega

/-! headend/wide.Times -/
def r116_0 : List POp := [⟨4, .alloc [.int .i64 0, .int .u64 0], none⟩]
def r116_1 : List POp := [⟨9, .mv (.t 0), none⟩,
  ⟨10, .bin .lss (.t 9) (.c (.int .i64 0)), none⟩,
  ⟨11, .mv (.t 1), none⟩,
  ⟨12, .bin .lss (.t 11) (.c (.int .i64 0)), none⟩,
  ⟨13, .eqb true (.t 10) (.t 12), none⟩,
  ⟨5, .asg (.t 13), none⟩]
def r116_2 : List POp := [⟨15, .mv (.t 0), none⟩,
  ⟨16, .call 63 [.t 15], none⟩,
  ⟨17, .mv (.t 1), none⟩,
  ⟨18, .call 63 [.t 17], none⟩,
  ⟨19, .call 62 [.t 16, .t 18], none⟩,
  ⟨14, .mv (.t 19), none⟩,
  ⟨20, .ext 0 (.t 14), none⟩,
  ⟨21, .ext 1 (.t 14), none⟩,
  ⟨6, .mv (.t 20), none⟩,
  ⟨7, .mv (.t 21), none⟩]
def r116_3 : List POp := [⟨22, .mv (.t 5), none⟩,
  ⟨23, .un .not (.t 22), none⟩]
def r116_4 : List POp := [⟨24, .mv (.t 6), none⟩,
  ⟨25, .conv .i64 (.t 24), none⟩,
  ⟨26, .mv (.t 7), none⟩,
  ⟨27, .build [.int .i64 0, .int .u64 0] [(0, 1, .t 25), (1, 1, .t 26)], none⟩,
  ⟨0, .stores 2 (.t 4) (.t 27), none⟩]
def r116_5 : List POp := [⟨29, .mv (.t 7), none⟩,
  ⟨30, .callx 120 [.c (.int .u64 0), .t 29, .c (.int .u64 0)], none⟩,
  ⟨28, .mv (.t 30), none⟩,
  ⟨31, .ext 0 (.t 28), none⟩,
  ⟨32, .ext 1 (.t 28), none⟩,
  ⟨7, .mv (.t 31), none⟩,
  ⟨8, .mv (.t 32), none⟩]
def r116_6 : List POp := [⟨34, .mv (.t 6), none⟩,
  ⟨35, .mv (.t 8), none⟩,
  ⟨36, .callx 120 [.c (.int .u64 0), .t 34, .t 35], none⟩,
  ⟨33, .mv (.t 36), none⟩,
  ⟨37, .ext 0 (.t 33), none⟩,
  ⟨38, .ext 1 (.t 33), none⟩,
  ⟨6, .mv (.t 37), none⟩]
def r116_7 : List POp := [⟨39, .mv (.t 6), none⟩,
  ⟨40, .conv .i64 (.t 39), none⟩,
  ⟨41, .mv (.t 7), none⟩,
  ⟨42, .build [.int .i64 0, .int .u64 0] [(0, 1, .t 40), (1, 1, .t 41)], none⟩,
  ⟨0, .stores 2 (.t 4) (.t 42), none⟩]
def p116 : PCode := .seq (.ops r116_0) (.seq (.ops r116_1) (.seq (.ops r116_2) (.seq (.seq (.ops r116_3) (.cond (.t 23) (.seq (.ops r116_4) (.ret)) (.skip))) (.seq (.ops r116_5) (.seq (.ops r116_6) (.seq (.ops r116_7) (.ret)))))))
theorem ok116 : okFunc Try.prog 116 [.c 4 2] 2 p116 = true := by kernel_rfl
theorem wtimes_c (a b : Int) (ha0 : -9223372036854775808 ≤ a) (ha1 : a ≤ 9223372036854775807) (hb0 : -9223372036854775808 ≤ b) (hb1 : b ≤ 9223372036854775807) : CallOK Try.prog 116 [.val (.int .i64 a), .val (.int .i64 b)] (wideV (a * b)) := by
  unfold wideV
  refine call_of mixed ok116 rfl ?_
  obtain ⟨hP, hs, hd⟩ := abs_prod a b ha0 ha1 hb0 hb1
  have c1 := size_c a ha0 ha1
  have c2 := size_c b hb0 hb1
  have c3 := mul64_c a.natAbs b.natAbs (by omega) (by omega)
  generalize hp : a.natAbs * b.natAbs = P at *
  obtain ⟨hi, hhi⟩ : ∃ hi : Int, hi = ((P / 18446744073709551616 : Nat) : Int) := ⟨_, rfl⟩
  obtain ⟨lo, hlo⟩ : ∃ lo : Int, lo = ((P % 18446744073709551616 : Nat) : Int) := ⟨_, rfl⟩
  rw [← hhi, ← hlo] at c3
  by_cases h : decide (a < 0) = decide (b < 0)
  · have e := hs h
    have e1 : IntKind.i64.wrap hi = a * b / 18446744073709551616 := by
      rw [wrap_hi _ (by omega) (by omega), if_pos (by omega)]; omega
    have e2 : lo = a * b % 18446744073709551616 := by omega
    clear hp
    repeat' first | ((with_reducible (first | refine condD ?_ ?_ | refine condE ?_ ?_ | refine condN ?_ ?_ | refine condI ?_ ?_ | refine condS ?_ ?_)) <;> intro h) | ((refine callG c1 ?_)) | ((refine callG c2 ?_)) | ((refine callG c3 ?_)) | (with_reducible refine And.intro ?_ ?_; omega) | (simp only [Z0,Z1,Z2,Z3,Z4,Z5,Z6,Z7,Z8,Z9,Za,Zb,Zc,Zd,Ze,Zf,List.cons.injEq,Zg,Zh,Zi,Zj,Zk,Zl,Zm,Zn,Zo,Zp,beq_self_eq_true,bne_self_eq_false,decide_true,decide_false,Zq,Zr,Zs,Zt,Zu,Zv,Zw,Zx,Zy,Zz,Y0,Y1,Y2,Y3,Y4,Y5,Y6,x_c,x_o,x_l,x_b,g_b,Y7,Y8,Y9,Ya,Yb,Yc,o_callx,lk,ef,Yd,Ye,o_eqb,o_un,o_conv,o_ext,o_build,o_alloc,Yf,o_stores,hv,Yg,ev,Yh,Yi,Yj,Yk,Yl,Ym,Yn,Yo,Yp,Yq,Yr,Ys,Yt,Yu,Yv,Yw,Yx,Yy,Yz,X0,X1,vun,bnd,X2,X3,X4,zav,X5,X6,X7,X8,X9,Xa,Value.oneCell',Xb,Xc,Xd,Xe,true_and,and_true,and_self,implies_true,Xf,Xg,Xh,Xi,false_implies,Xj,Xk,Xl,Xm,Xn,Xo,Xp,Xq,Xr,Xs,Xt,Xu,Xv,Xw,Xx,Xy,Xz,reduceCtorEq,if_true,if_false,W0,↓reduceIte,W1,W2,W3,W4,W5,W6,ne_eq,not_false_eq_true,not_true_eq_false,W7,W8,r116_0,r116_1,r116_2,r116_3,r116_4,r116_5,r116_6,r116_7,p116,h,e1]) | (exfalso; omega)
    exact e2
  · have e := hd h
    have h' : (decide (a < 0) == decide (b < 0)) = false := beq_false_of_ne h
    have s1 := sub0_x lo 0 (by omega) (by omega) (by omega) (by omega)
    obtain ⟨bo, hbo⟩ : ∃ bo : Int, bo = (if 0 < lo + 0 then 1 else 0) := ⟨_, rfl⟩
    rw [← hbo] at s1
    have hb01 : (0 < lo ∧ bo = 1) ∨ (lo = 0 ∧ bo = 0) := by
      by_cases h0 : 0 < lo
      · rw [if_pos (by omega)] at hbo; exact .inl ⟨h0, hbo⟩
      · rw [if_neg (by omega)] at hbo; exact .inr ⟨by omega, hbo⟩
    have s2 := sub0_x hi bo (by omega) (by omega) (by omega) (by omega)
    have e1 : IntKind.i64.wrap ((-hi - bo) % 18446744073709551616) = a * b / 18446744073709551616 := by
      rw [wrap_hi _ (by omega) (by omega)]; split <;> omega
    have e2 : (-lo - 0) % 18446744073709551616 = a * b % 18446744073709551616 := by omega
    clear hp hbo
    repeat' first | ((with_reducible (first | refine condD ?_ ?_ | refine condE ?_ ?_ | refine condN ?_ ?_ | refine condI ?_ ?_ | refine condS ?_ ?_)) <;> intro h) | ((refine callG c1 ?_)) | ((refine callG c2 ?_)) | ((refine callG c3 ?_)) | ((refine extG s1 rfl ?_)) | ((refine extG s2 rfl ?_)) | (with_reducible refine And.intro ?_ ?_; omega) | (simp only [Z0,Z1,Z2,Z3,Z4,Z5,Z6,Z7,Z8,Z9,Za,Zb,Zc,Zd,Ze,Zf,List.cons.injEq,Zg,Zh,Zi,Zj,Zk,Zl,Zm,Zn,Zo,Zp,beq_self_eq_true,bne_self_eq_false,decide_true,decide_false,Zq,Zr,Zs,Zt,Zu,Zv,Zw,Zx,Zy,Zz,Y0,Y1,Y2,Y3,Y4,Y5,Y6,x_c,x_o,x_l,x_b,g_b,Y7,Y8,Y9,Ya,Yb,Yc,o_callx,lk,ef,Yd,Ye,o_eqb,o_un,o_conv,o_ext,o_build,o_alloc,Yf,o_stores,hv,Yg,ev,Yh,Yi,Yj,Yk,Yl,Ym,Yn,Yo,Yp,Yq,Yr,Ys,Yt,Yu,Yv,Yw,Yx,Yy,Yz,X0,X1,vun,bnd,X2,X3,X4,zav,X5,X6,X7,X8,X9,Xa,Value.oneCell',Xb,Xc,Xd,Xe,true_and,and_true,and_self,implies_true,Xf,Xg,Xh,Xi,false_implies,Xj,Xk,Xl,Xm,Xn,Xo,Xp,Xq,Xr,Xs,Xt,Xu,Xv,Xw,Xx,Xy,Xz,reduceCtorEq,if_true,if_false,W0,↓reduceIte,W1,W2,W3,W4,W5,W6,ne_eq,not_false_eq_true,not_true_eq_false,W7,W8,r116_0,r116_1,r116_2,r116_3,r116_4,r116_5,r116_6,r116_7,p116,h',e1,e2]) | (exfalso; omega)
    done

/-! cmp.isNaN[int64] -/
def r124_0 : List POp := [⟨2, .asg (.c (.bool false)), none⟩]
def r124_1 : List POp := [⟨3, .mv (.t 0), none⟩,
  ⟨4, .mv (.t 0), none⟩,
  ⟨5, .bin .neq (.t 3) (.t 4), none⟩,
  ⟨2, .asg (.t 5), none⟩]
def p124 : PCode := .seq (.ops r124_0) (.seq (.ops r124_1) (.ret))
theorem ok124 : okFunc Try.prog 124 [.t 2] 1 p124 = true := by kernel_rfl
theorem nan64_c (a : Int) : CallOK Try.prog 124 [.val (.int .i64 a)] (.val (.bool false)) := by
  refine call_of mixed ok124 rfl ?_
  repeat' first | ((with_reducible (first | refine condD ?_ ?_ | refine condE ?_ ?_ | refine condN ?_ ?_ | refine condI ?_ ?_ | refine condS ?_ ?_)) <;> intro h) | (with_reducible refine And.intro ?_ ?_; omega) | (simp only [Z0,Z1,Z2,Z3,Z4,Z5,Z6,Z7,Z8,Z9,Za,Zb,Zc,Zd,Ze,Zf,List.cons.injEq,Zg,Zh,Zi,Zj,Zk,Zl,Zm,Zn,Zo,Zp,beq_self_eq_true,bne_self_eq_false,decide_true,decide_false,Zq,Zr,Zs,Zt,Zu,Zv,Zw,Zx,Zy,Zz,Y0,Y1,Y2,Y3,Y4,Y5,Y6,x_c,x_o,x_l,x_b,g_b,Y7,Y8,Y9,Ya,Yb,lk,ef,Yd,Ye,Yf,hv,Yg,ev,Yh,Yi,Yj,Yk,Yl,Ym,Yn,Yo,Yp,Yq,Yr,Ys,Yt,Yu,Yv,Yw,Yx,Yy,Yz,X0,X1,vun,bnd,X2,X3,X4,zav,X5,X6,X7,X8,X9,Xa,Value.oneCell',Xb,Xc,Xd,Xe,true_and,and_true,and_self,implies_true,Xf,Xg,Xh,Xi,false_implies,Xj,Xk,Xl,Xm,Xn,Xo,Xp,Xq,Xr,Xs,Xt,Xu,Xv,Xw,Xx,Xy,Xz,reduceCtorEq,if_true,if_false,W0,↓reduceIte,W1,W2,W3,W4,W5,W6,ne_eq,not_false_eq_true,not_true_eq_false,W7,W8,r124_0,r124_1,p124]) | (exfalso; omega)
/-! cmp.isNaN[uint64] -/
def r125_0 : List POp := [⟨2, .asg (.c (.bool false)), none⟩]
def r125_1 : List POp := [⟨3, .mv (.t 0), none⟩,
  ⟨4, .mv (.t 0), none⟩,
  ⟨5, .bin .neq (.t 3) (.t 4), none⟩,
  ⟨2, .asg (.t 5), none⟩]
def p125 : PCode := .seq (.ops r125_0) (.seq (.ops r125_1) (.ret))
theorem ok125 : okFunc Try.prog 125 [.t 2] 1 p125 = true := by kernel_rfl
theorem nanu_c (a : Int) : CallOK Try.prog 125 [.val (.int .u64 a)] (.val (.bool false)) := by
  refine call_of mixed ok125 rfl ?_
  repeat' first | ((with_reducible (first | refine condD ?_ ?_ | refine condE ?_ ?_ | refine condN ?_ ?_ | refine condI ?_ ?_ | refine condS ?_ ?_)) <;> intro h) | (with_reducible refine And.intro ?_ ?_; omega) | (simp only [Z0,Z1,Z2,Z3,Z4,Z5,Z6,Z7,Z8,Z9,Za,Zb,Zc,Zd,Ze,Zf,List.cons.injEq,Zg,Zh,Zi,Zj,Zk,Zl,Zm,Zn,Zo,Zp,beq_self_eq_true,bne_self_eq_false,decide_true,decide_false,Zq,Zr,Zs,Zt,Zu,Zv,Zw,Zx,Zy,Zz,Y0,Y1,Y2,Y3,Y4,Y5,Y6,x_c,x_o,x_l,x_b,g_b,Y7,Y8,Y9,Ya,Yb,lk,ef,Yd,Ye,Yf,hv,Yg,ev,Yh,Yi,Yj,Yk,Yl,Ym,Yn,Yo,Yp,Yq,Yr,Ys,Yt,Yu,Yv,Yw,Yx,Yy,Yz,X0,X1,vun,bnd,X2,X3,X4,zav,X5,X6,X7,X8,X9,Xa,Value.oneCell',Xb,Xc,Xd,Xe,true_and,and_true,and_self,implies_true,Xf,Xg,Xh,Xi,false_implies,Xj,Xk,Xl,Xm,Xn,Xo,Xp,Xq,Xr,Xs,Xt,Xu,Xv,Xw,Xx,Xy,Xz,reduceCtorEq,if_true,if_false,W0,↓reduceIte,W1,W2,W3,W4,W5,W6,ne_eq,not_false_eq_true,not_true_eq_false,W7,W8,r125_0,r125_1,p125]) | (exfalso; omega)
def cmp3 (a b : Int) : Int := if a < b then -1 else if b < a then 1 else 0
/-! cmp.Compare[int64] -/
def r121_0 : List POp := [⟨4, .asg (.c (.int .i64 0)), none⟩]
def r121_1 : List POp := [⟨7, .mv (.t 0), none⟩,
  ⟨8, .call 124 [.t 7], none⟩,
  ⟨5, .asg (.t 8), none⟩]
def r121_2 : List POp := [⟨9, .mv (.t 1), none⟩,
  ⟨10, .call 124 [.t 9], none⟩,
  ⟨6, .asg (.t 10), none⟩]
def r121_3 : List POp := [⟨11, .mv (.t 5), none⟩]
def r121_4 : List POp := [⟨12, .mv (.t 6), none⟩]
def r121_5 : List POp := [⟨4, .asg (.c (.int .i64 0)), none⟩]
def r121_6 : List POp := [⟨4, .asg (.c (.int .i64 (-1))), none⟩]
def r121_7 : List POp := [⟨13, .mv (.t 6), none⟩]
def r121_8 : List POp := [⟨4, .asg (.c (.int .i64 1)), none⟩]
def r121_9 : List POp := [⟨14, .mv (.t 0), none⟩,
  ⟨15, .mv (.t 1), none⟩,
  ⟨16, .bin .lss (.t 14) (.t 15), none⟩]
def r121_10 : List POp := [⟨4, .asg (.c (.int .i64 (-1))), none⟩]
def r121_11 : List POp := [⟨17, .mv (.t 0), none⟩,
  ⟨18, .mv (.t 1), none⟩,
  ⟨19, .bin .gtr (.t 17) (.t 18), none⟩]
def r121_12 : List POp := [⟨4, .asg (.c (.int .i64 1)), none⟩]
def r121_13 : List POp := [⟨4, .asg (.c (.int .i64 0)), none⟩]
def p121 : PCode := .seq (.ops r121_0) (.seq (.ops r121_1) (.seq (.ops r121_2) (.seq (.seq (.ops r121_3) (.cond (.t 11) (.seq (.seq (.ops r121_4) (.cond (.t 12) (.seq (.ops r121_5) (.ret)) (.skip))) (.seq (.ops r121_6) (.ret))) (.skip))) (.seq (.seq (.ops r121_7) (.cond (.t 13) (.seq (.ops r121_8) (.ret)) (.skip))) (.seq (.seq (.ops r121_9) (.cond (.t 16) (.seq (.ops r121_10) (.ret)) (.skip))) (.seq (.seq (.ops r121_11) (.cond (.t 19) (.seq (.ops r121_12) (.ret)) (.skip))) (.seq (.ops r121_13) (.ret))))))))
theorem ok121 : okFunc Try.prog 121 [.t 4] 2 p121 = true := by kernel_rfl
theorem cmp64_c (a b : Int) : CallOK Try.prog 121 [.val (.int .i64 a), .val (.int .i64 b)] (.val (.int .i64 (cmp3 a b))) := by
  refine call_of mixed ok121 rfl ?_
  unfold cmp3
  repeat' first | ((with_reducible (first | refine condD ?_ ?_ | refine condE ?_ ?_ | refine condN ?_ ?_ | refine condI ?_ ?_ | refine condS ?_ ?_)) <;> intro h) | ((refine callG (nan64_c _) ?_)) | (with_reducible refine And.intro ?_ ?_; omega) | (simp only [Z0,Z1,Z2,Z3,Z4,Z5,Z6,Z7,Z8,Z9,Za,Zb,Zc,Zd,Ze,Zf,List.cons.injEq,Zg,Zh,Zi,Zj,Zk,Zl,Zm,Zn,Zo,Zp,beq_self_eq_true,bne_self_eq_false,decide_true,decide_false,Zq,Zr,Zs,Zt,Zu,Zv,Zw,Zx,Zy,Zz,Y0,Y1,Y2,Y3,Y4,Y5,Y6,x_c,x_o,x_l,x_b,g_b,Y7,Y8,Y9,Ya,Yb,Yc,lk,ef,Yd,Ye,Yf,hv,Yg,ev,Yh,Yi,Yj,Yk,Yl,Ym,Yn,Yo,Yp,Yq,Yr,Ys,Yt,Yu,Yv,Yw,Yx,Yy,Yz,X0,X1,vun,bnd,X2,X3,X4,zav,X5,X6,X7,X8,X9,Xa,Value.oneCell',Xb,Xc,Xd,Xe,true_and,and_true,and_self,implies_true,Xf,Xg,Xh,Xi,false_implies,Xj,Xk,Xl,Xm,Xn,Xo,Xp,Xq,Xr,Xs,Xt,Xu,Xv,Xw,Xx,Xy,Xz,reduceCtorEq,if_true,if_false,W0,↓reduceIte,W1,W2,W3,W4,W5,W6,ne_eq,not_false_eq_true,not_true_eq_false,W7,W8,r121_0,r121_1,r121_2,r121_3,r121_4,r121_5,r121_6,r121_7,r121_8,r121_9,r121_10,r121_11,r121_12,r121_13,p121]) | (exfalso; omega)
  all_goals (first | done | (split <;> first | omega | (split <;> omega) | rfl))
/-! cmp.Compare[uint64] -/
def r122_0 : List POp := [⟨4, .asg (.c (.int .i64 0)), none⟩]
def r122_1 : List POp := [⟨7, .mv (.t 0), none⟩,
  ⟨8, .call 125 [.t 7], none⟩,
  ⟨5, .asg (.t 8), none⟩]
def r122_2 : List POp := [⟨9, .mv (.t 1), none⟩,
  ⟨10, .call 125 [.t 9], none⟩,
  ⟨6, .asg (.t 10), none⟩]
def r122_3 : List POp := [⟨11, .mv (.t 5), none⟩]
def r122_4 : List POp := [⟨12, .mv (.t 6), none⟩]
def r122_5 : List POp := [⟨4, .asg (.c (.int .i64 0)), none⟩]
def r122_6 : List POp := [⟨4, .asg (.c (.int .i64 (-1))), none⟩]
def r122_7 : List POp := [⟨13, .mv (.t 6), none⟩]
def r122_8 : List POp := [⟨4, .asg (.c (.int .i64 1)), none⟩]
def r122_9 : List POp := [⟨14, .mv (.t 0), none⟩,
  ⟨15, .mv (.t 1), none⟩,
  ⟨16, .bin .lss (.t 14) (.t 15), none⟩]
def r122_10 : List POp := [⟨4, .asg (.c (.int .i64 (-1))), none⟩]
def r122_11 : List POp := [⟨17, .mv (.t 0), none⟩,
  ⟨18, .mv (.t 1), none⟩,
  ⟨19, .bin .gtr (.t 17) (.t 18), none⟩]
def r122_12 : List POp := [⟨4, .asg (.c (.int .i64 1)), none⟩]
def r122_13 : List POp := [⟨4, .asg (.c (.int .i64 0)), none⟩]
def p122 : PCode := .seq (.ops r122_0) (.seq (.ops r122_1) (.seq (.ops r122_2) (.seq (.seq (.ops r122_3) (.cond (.t 11) (.seq (.seq (.ops r122_4) (.cond (.t 12) (.seq (.ops r122_5) (.ret)) (.skip))) (.seq (.ops r122_6) (.ret))) (.skip))) (.seq (.seq (.ops r122_7) (.cond (.t 13) (.seq (.ops r122_8) (.ret)) (.skip))) (.seq (.seq (.ops r122_9) (.cond (.t 16) (.seq (.ops r122_10) (.ret)) (.skip))) (.seq (.seq (.ops r122_11) (.cond (.t 19) (.seq (.ops r122_12) (.ret)) (.skip))) (.seq (.ops r122_13) (.ret))))))))
theorem ok122 : okFunc Try.prog 122 [.t 4] 2 p122 = true := by kernel_rfl
theorem cmpu_c (a b : Int) : CallOK Try.prog 122 [.val (.int .u64 a), .val (.int .u64 b)] (.val (.int .i64 (cmp3 a b))) := by
  refine call_of mixed ok122 rfl ?_
  unfold cmp3
  repeat' first | ((with_reducible (first | refine condD ?_ ?_ | refine condE ?_ ?_ | refine condN ?_ ?_ | refine condI ?_ ?_ | refine condS ?_ ?_)) <;> intro h) | ((refine callG (nanu_c _) ?_)) | (with_reducible refine And.intro ?_ ?_; omega) | (simp only [Z0,Z1,Z2,Z3,Z4,Z5,Z6,Z7,Z8,Z9,Za,Zb,Zc,Zd,Ze,Zf,List.cons.injEq,Zg,Zh,Zi,Zj,Zk,Zl,Zm,Zn,Zo,Zp,beq_self_eq_true,bne_self_eq_false,decide_true,decide_false,Zq,Zr,Zs,Zt,Zu,Zv,Zw,Zx,Zy,Zz,Y0,Y1,Y2,Y3,Y4,Y5,Y6,x_c,x_o,x_l,x_b,g_b,Y7,Y8,Y9,Ya,Yb,Yc,lk,ef,Yd,Ye,Yf,hv,Yg,ev,Yh,Yi,Yj,Yk,Yl,Ym,Yn,Yo,Yp,Yq,Yr,Ys,Yt,Yu,Yv,Yw,Yx,Yy,Yz,X0,X1,vun,bnd,X2,X3,X4,zav,X5,X6,X7,X8,X9,Xa,Value.oneCell',Xb,Xc,Xd,Xe,true_and,and_true,and_self,implies_true,Xf,Xg,Xh,Xi,false_implies,Xj,Xk,Xl,Xm,Xn,Xo,Xp,Xq,Xr,Xs,Xt,Xu,Xv,Xw,Xx,Xy,Xz,reduceCtorEq,if_true,if_false,W0,↓reduceIte,W1,W2,W3,W4,W5,W6,ne_eq,not_false_eq_true,not_true_eq_false,W7,W8,r122_0,r122_1,r122_2,r122_3,r122_4,r122_5,r122_6,r122_7,r122_8,r122_9,r122_10,r122_11,r122_12,r122_13,p122]) | (exfalso; omega)
  all_goals (first | done | (split <;> first | omega | (split <;> omega) | rfl))
/-! (headend/wide.Int).Compare -/
def r117_0 : List POp := [⟨2, .boxs (.t 0), none⟩,
  ⟨3, .boxs (.t 1), none⟩,
  ⟨4, .asg (.c (.int .i64 0)), none⟩]
def r117_1 : List POp := [⟨6, .fld 0 (.t 2), none⟩,
  ⟨7, .load (.t 6), none⟩,
  ⟨8, .fld 0 (.t 3), none⟩,
  ⟨9, .load (.t 8), none⟩,
  ⟨10, .call 121 [.t 7, .t 9], none⟩,
  ⟨5, .asg (.t 10), none⟩]
def r117_2 : List POp := [⟨11, .mv (.t 5), none⟩,
  ⟨12, .bin .neq (.t 11) (.c (.int .i64 0)), none⟩]
def r117_3 : List POp := [⟨13, .mv (.t 5), none⟩,
  ⟨4, .asg (.t 13), none⟩]
def r117_4 : List POp := [⟨14, .fld 1 (.t 2), none⟩,
  ⟨15, .load (.t 14), none⟩,
  ⟨16, .fld 1 (.t 3), none⟩,
  ⟨17, .load (.t 16), none⟩,
  ⟨18, .call 122 [.t 15, .t 17], none⟩,
  ⟨4, .asg (.t 18), none⟩]
def p117 : PCode := .seq (.ops r117_0) (.seq (.seq (.ops r117_1) (.seq (.ops r117_2) (.cond (.t 12) (.seq (.ops r117_3) (.ret)) (.skip)))) (.seq (.ops r117_4) (.ret)))
theorem ok117 : okFunc Try.prog 117 [.t 4] 2 p117 = true := by kernel_rfl
theorem cmp3_wide (p q : Int) : (if cmp3 (p / 18446744073709551616) (q / 18446744073709551616) ≠ 0 then cmp3 (p / 18446744073709551616) (q / 18446744073709551616) else cmp3 (p % 18446744073709551616) (q % 18446744073709551616)) = cmp3 p q := by
  unfold cmp3
  repeat' split
  all_goals omega
theorem wcmp_c (p q : Int) : CallOK Try.prog 117 [wideV p, wideV q] (.val (.int .i64 (cmp3 p q))) := by
  rw [← cmp3_wide]
  unfold wideV
  generalize p / 18446744073709551616 = ph
  generalize q / 18446744073709551616 = qh
  generalize p % 18446744073709551616 = pl
  generalize q % 18446744073709551616 = ql
  refine call_of mixed ok117 rfl ?_
  have c1 := cmp64_c ph qh
  have c2 := cmpu_c pl ql
  generalize cmp3 ph qh = c at *
  generalize cmp3 pl ql = d at *
  by_cases hc : c = 0
  · subst hc
    repeat' first | ((with_reducible (first | refine condD ?_ ?_ | refine condE ?_ ?_ | refine condN ?_ ?_ | refine condI ?_ ?_ | refine condS ?_ ?_)) <;> intro h) | ((refine callG c1 ?_)) | ((refine callG c2 ?_)) | (with_reducible refine And.intro ?_ ?_; omega) | (simp only [Z0,Z1,Z2,Z3,Z4,Z5,Z6,Z7,Z8,Z9,Za,Zb,Zc,Zd,Ze,Zf,List.cons.injEq,Zg,Zh,Zi,Zj,Zk,Zl,Zm,Zn,Zo,Zp,beq_self_eq_true,bne_self_eq_false,decide_true,decide_false,Zq,Zr,Zs,Zt,Zu,Zv,Zw,Zx,Zy,Zz,Y0,Y1,Y2,Y3,Y4,Y5,Y6,x_c,x_o,x_l,x_b,g_b,Y7,Y8,Y9,Ya,Yb,Yc,lk,ef,Yd,Ye,o_load,o_fld,o_boxs,Yf,hv,Yg,ev,Yh,Yi,Yj,Yk,Yl,Ym,Yn,Yo,Yp,Yq,Yr,Ys,Yt,Yu,Yv,Yw,Yx,Yy,Yz,X0,X1,vun,bnd,X2,X3,X4,zav,X5,X6,X7,X8,X9,Xa,Value.oneCell',Xb,Xc,Xd,Xe,true_and,and_true,and_self,implies_true,Xf,Xg,Xh,Xi,false_implies,Xj,Xk,Xl,Xm,Xn,Xo,Xp,Xq,Xr,Xs,Xt,Xu,Xv,Xw,Xx,Xy,Xz,reduceCtorEq,if_true,if_false,W0,↓reduceIte,W1,W2,W3,W4,W5,W6,ne_eq,not_false_eq_true,not_true_eq_false,W7,W8,r117_0,r117_1,r117_2,r117_3,r117_4,p117]) | (exfalso; omega)
  · rw [if_pos hc]
    repeat' first | ((with_reducible (first | refine condD ?_ ?_ | refine condE ?_ ?_ | refine condN ?_ ?_ | refine condI ?_ ?_ | refine condS ?_ ?_)) <;> intro h) | ((refine callG c1 ?_)) | ((refine callG c2 ?_)) | (with_reducible refine And.intro ?_ ?_; omega) | (simp only [Z0,Z1,Z2,Z3,Z4,Z5,Z6,Z7,Z8,Z9,Za,Zb,Zc,Zd,Ze,Zf,List.cons.injEq,Zg,Zh,Zi,Zj,Zk,Zl,Zm,Zn,Zo,Zp,beq_self_eq_true,bne_self_eq_false,decide_true,decide_false,Zq,Zr,Zs,Zt,Zu,Zv,Zw,Zx,Zy,Zz,Y0,Y1,Y2,Y3,Y4,Y5,Y6,x_c,x_o,x_l,x_b,g_b,Y7,Y8,Y9,Ya,Yb,Yc,lk,ef,Yd,Ye,o_load,o_fld,o_boxs,Yf,hv,Yg,ev,Yh,Yi,Yj,Yk,Yl,Ym,Yn,Yo,Yp,Yq,Yr,Ys,Yt,Yu,Yv,Yw,Yx,Yy,Yz,X0,X1,vun,bnd,X2,X3,X4,zav,X5,X6,X7,X8,X9,Xa,Value.oneCell',Xb,Xc,Xd,Xe,true_and,and_true,and_self,implies_true,Xf,Xg,Xh,Xi,false_implies,Xj,Xk,Xl,Xm,Xn,Xo,Xp,Xq,Xr,Xs,Xt,Xu,Xv,Xw,Xx,Xy,Xz,reduceCtorEq,if_true,if_false,W0,↓reduceIte,W1,W2,W3,W4,W5,W6,ne_eq,not_false_eq_true,not_true_eq_false,W7,W8,r117_0,r117_1,r117_2,r117_3,r117_4,p117,hc]) | (exfalso; omega)
/-! headend/wide.Compare -/
def r109_0 : List POp := [⟨8, .asg (.c (.int .i64 0)), none⟩]
def r109_1 : List POp := [⟨9, .mv (.t 0), none⟩,
  ⟨10, .mv (.t 3), none⟩,
  ⟨11, .call 116 [.t 9, .t 10], none⟩,
  ⟨12, .mv (.t 2), none⟩,
  ⟨13, .mv (.t 1), none⟩,
  ⟨14, .call 116 [.t 12, .t 13], none⟩,
  ⟨15, .call 117 [.t 11, .t 14], none⟩,
  ⟨8, .asg (.t 15), none⟩]
def p109 : PCode := .seq (.ops r109_0) (.seq (.ops r109_1) (.ret))
theorem ok109 : okFunc Try.prog 109 [.t 8] 4 p109 = true := by kernel_rfl
theorem wc_c (a b c d : Int) (ha0 : -9223372036854775808 ≤ a) (ha1 : a ≤ 9223372036854775807) (hb0 : -9223372036854775808 ≤ b) (hb1 : b ≤ 9223372036854775807) (hc0 : -9223372036854775808 ≤ c) (hc1 : c ≤ 9223372036854775807) (hd0 : -9223372036854775808 ≤ d) (hd1 : d ≤ 9223372036854775807) : CallOK Try.prog 109 [.val (.int .i64 a), .val (.int .i64 b), .val (.int .i64 c), .val (.int .i64 d)] (.val (.int .i64 (cmp3 (a * d) (c * b)))) := by
  have c1 := wtimes_c a d ha0 ha1 hd0 hd1
  have c2 := wtimes_c c b hc0 hc1 hb0 hb1
  have c3 := wcmp_c (a * d) (c * b)
  generalize a * d = p at *
  generalize c * b = q at *
  unfold wideV at c1 c2 c3
  refine call_of mixed ok109 rfl ?_
  repeat' first | ((with_reducible (first | refine condD ?_ ?_ | refine condE ?_ ?_ | refine condN ?_ ?_ | refine condI ?_ ?_ | refine condS ?_ ?_)) <;> intro h) | ((refine callG c1 ?_)) | ((refine callG c2 ?_)) | ((refine callG c3 ?_)) | (with_reducible refine And.intro ?_ ?_; omega) | (simp only [Z0,Z1,Z2,Z3,Z4,Z5,Z6,Z7,Z8,Z9,Za,Zb,Zc,Zd,Ze,Zf,List.cons.injEq,Zg,Zh,Zi,Zj,Zk,Zl,Zm,Zn,Zo,Zp,beq_self_eq_true,bne_self_eq_false,decide_true,decide_false,Zq,Zr,Zs,Zt,Zu,Zv,Zw,Zx,Zy,Zz,Y0,Y1,Y2,Y3,Y4,Y5,Y6,x_c,x_o,x_l,x_b,g_b,Y7,Y8,Y9,Ya,Yb,Yc,lk,ef,Yd,Yf,hv,Yg,ev,Yh,Yi,Yj,Yk,Yl,Ym,Yn,Yo,Yp,Yq,Yr,Ys,Yt,Yu,Yv,Yw,Yx,Yy,Yz,X0,X1,vun,bnd,X2,X3,X4,zav,X5,X6,X7,X8,X9,Xa,Value.oneCell',Xb,Xc,Xd,Xe,true_and,and_true,and_self,implies_true,Xf,Xg,Xh,Xi,false_implies,Xj,Xk,Xl,Xm,Xn,Xo,Xp,Xq,Xr,Xs,Xt,Xu,Xv,Xw,Xx,Xy,Xz,reduceCtorEq,if_true,if_false,W0,↓reduceIte,W1,W2,W3,W4,W5,W6,ne_eq,not_false_eq_true,not_true_eq_false,W7,W8,r109_0,r109_1,p109]) | (exfalso; omega)
end Go.Proofs.Ytpecmhdepggnoaa
