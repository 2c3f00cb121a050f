/- Division of numbers of two words by Knuth's way: the plain law. -/
import Derived.Test.YtpecmhdepggnoaaDmN
import Derived.Test.YtpecmhdepggnoaaKBits
import Derived.Lib.BitFns
namespace Go.Proofs.Ytpecmhdepggnoaa
open Go.RowKit

/-- While the test holds, the guess is too great. -/
theorem kn_great {u un y1 y0 q r : Nat} (h : q * y1 + r = u) (hu : u < y1 * 4294967296 + y0) (hn : un < 4294967296) (ht : 4294967296 ≤ q ∨ 4294967296 * r + un < q * y0) : (u * 4294967296 + un) / (y1 * 4294967296 + y0) + 1 ≤ q := by
  have hy : 0 < y1 * 4294967296 + y0 := by omega
  rcases ht with ht | ht
  · have : (u * 4294967296 + un) / (y1 * 4294967296 + y0) < 4294967296 := by
      rw [Nat.div_lt_iff_lt_mul hy]; omega
    omega
  · rw [Nat.add_one_le_iff, Nat.div_lt_iff_lt_mul hy, Nat.mul_add, ← Nat.mul_assoc]
    generalize q * y1 = A at *
    generalize q * y0 = C at *
    omega
/-- When it does not, the guess is right. -/
theorem kn_done {u un y1 y0 q r : Nat} (hy : 0 < y1) (h : q * y1 + r = u) (hq : (u * 4294967296 + un) / (y1 * 4294967296 + y0) ≤ q) (ht : q * y0 ≤ 4294967296 * r + un) : q = (u * 4294967296 + un) / (y1 * 4294967296 + y0) := by
  have hy : 0 < y1 * 4294967296 + y0 := by omega
  refine Nat.le_antisymm ?_ hq
  rw [Nat.le_div_iff_mul_le hy, Nat.mul_add, ← Nat.mul_assoc]
  generalize q * y1 = A at *
  generalize q * y0 = C at *
  omega
/-- The first guess is not too small, -/
theorem kn_first {u un y1 y0 : Nat} (hy : 0 < y1) (hn : un < 4294967296) : (u * 4294967296 + un) / (y1 * 4294967296 + y0) ≤ u / y1 := by
  rw [Nat.le_div_iff_mul_le hy]
  have h1 : (u * 4294967296 + un) / (y1 * 4294967296 + y0) * (y1 * 4294967296 + y0) ≤ u * 4294967296 + un := Nat.div_mul_le_self _ _
  rw [Nat.mul_add, ← Nat.mul_assoc] at h1
  generalize (u * 4294967296 + un) / (y1 * 4294967296 + y0) = q at *
  generalize q * y1 = A at *
  generalize q * y0 = C at *
  omega
/-- and not much too great. -/
theorem kn_near {u y1 y0 : Nat} (hu : u < y1 * 4294967296 + y0) (h1 : 2147483648 ≤ y1) (h0 : y0 < 4294967296) : u / y1 ≤ 4294967297 := by
  have : u / y1 < 4294967298 := by
    rw [Nat.div_lt_iff_lt_mul (by omega)]; omega
  omega
theorem kn_rem {u y1 : Nat} : u / y1 * y1 + (u - u / y1 * y1) = u := by
  have := Nat.div_mul_le_self u y1; omega
theorem kn_next {q y1 r u : Nat} (hq : 0 < q) (h : q * y1 + r = u) : (q - 1) * y1 + (r + y1) = u := by
  obtain ⟨p, rfl⟩ : ∃ p, q = p + 1 := ⟨q - 1, by omega⟩
  rw [Nat.add_mul] at h
  simp only [Nat.add_sub_cancel]; omega
/-- The product is small enough. -/
theorem kn_small {q y0 : Nat} (hq : q ≤ 4294967297) (h0 : y0 < 4294967296) : q * y0 ≤ 18446744073709551615 := by
  have : q * y0 ≤ 4294967297 * 4294967295 := Nat.mul_le_mul hq (by omega)
  omega
/-- When the loop is left in its middle, the test would not hold either. -/
theorem kn_break {q y0 r un : Nat} (hq : q ≤ 4294967296) (h0 : y0 < 4294967296) (hr : 4294967296 ≤ r) : q * y0 ≤ 4294967296 * r + un := by
  have : q * y0 ≤ 4294967296 * 4294967295 := Nat.mul_le_mul hq (by omega)
  omega
/-- What is left, reckoned modulo 2^64. -/
theorem kn_left {u un y q : Nat} (hq : q = (u * 4294967296 + un) / y) : ((u : Int) * 4294967296 + un - (q : Int) * y) = (((u * 4294967296 + un) % y : Nat) : Int) := by
  subst hq
  have h1 := Nat.div_add_mod (u * 4294967296 + un) y
  rw [Nat.mul_comm] at h1
  have h2 : (((u * 4294967296 + un) / y * y : Nat) : Int) = (((u * 4294967296 + un) / y : Nat) : Int) * (y : Int) := Int.natCast_mul _ _
  rw [← h2]
  generalize (u * 4294967296 + un) / y * y = P at *
  omega
/-- Two digits together. -/
theorem kn_two {N un0 y : Nat} (hy : 0 < y) : (N * 4294967296 + un0) / y = N / y * 4294967296 + (N % y * 4294967296 + un0) / y ∧ (N * 4294967296 + un0) % y = (N % y * 4294967296 + un0) % y := by
  have h1 := Nat.div_add_mod N y
  have e : N * 4294967296 + un0 = (N % y * 4294967296 + un0) + y * (N / y * 4294967296) := by
    rw [← Nat.mul_assoc]
    generalize y * (N / y) = P at *
    omega
  rw [e, Nat.add_mul_div_left _ _ hy, Nat.add_mul_mod_self_left]
  exact ⟨Nat.add_comm _ _, rfl⟩
/-- Shifted both, the quotient stays, and the rest is shifted. -/
theorem kn_shift {N y k : Nat} (hk : 0 < k) : (N * k) / (y * k) = N / y ∧ (N * k) % (y * k) / k = N % y := by
  refine ⟨Nat.mul_div_mul_right _ _ hk, ?_⟩
  rw [Nat.mul_mod_mul_right, Nat.mul_div_cancel _ hk]
end Go.Proofs.Ytpecmhdepggnoaa
/- Wide quotients: math/bits Len64, LeadingZeros64, Div64, by the machine on data. -/
namespace Go.Proofs.Ytpecmhdepggnoaa
open Go.RowKit
open Go.Proofs.Ytpecmhdepggnoaa renaming done_eq → Z0, done_eq' → Z1, donet_eq → Z2, donet_eq' → Z3, fin_val → Z4, fin_tup → Z5, fin_agg → Z6, fin_ro → Z7, res_one → Z8, res_more → Z9, rv_t → Za, rv_c → Zb, rv_l → Zc, int_eq → Zg, bool_eq → Zh, toNat_pred → Zr, toNat_succ → Zs, cnd_t → Zu, cnd_f → Zv, grd_tt → Zw, grd_u → Zx, grd_tf → Zy, grd_ft → Zz, grd_ff → Y0, g_skip → Y1, g_ops → Y2, g_seq → Y3, g_block → Y4, g_exit → Y5, g_ret → Y6, x_c → Y7, x_o → Y8, x_l → Y9, x_b → Ya, g_b → Yb, g_nil → Yc, r_all → Yd, o_nil → Ye, g_cond → Yf, o_guard → Yg, o_call → Yh, o_mv → Yi, o_pick → Yj, o_bin → Yk, o_never → Yl, o_conv → Ym, o_asg → Yn, eqAV → Yo, view_t → Yp, view_c → Yq, view_nil → Yr, view_fn → Ys, look_own → Yt, look_box → Yu, look_junk → Yv, look_val → Yw, look_nilsl → Yx, look_ro → Yy, look_roAt → Yz, look_agg → X0, look_tup → X1, look_clo → X2, look_alias → X3, look_ref → X4, look_into → X5, rowOf → X6, cellsOf → X7, argv → X8, vbin → X9, vun → Xa, bnd → Xb, elemOf → Xc, putParts → Xd, setAt → Xe, zav → Xf, put_at → Xm, mk_at → Xn, mk_nil → Xo, initSt → Xp, wk_cons → Wk, wk_nil → Wl, vint_eq → Wm, vbool_eq → Wn
open Go.Proofs.Ytpecmhdepggnoaa.AV.tup renaming injEq → Zd
open Go.Proofs.Ytpecmhdepggnoaa.AV.agg renaming injEq → Ze
open Go.Proofs.Ytpecmhdepggnoaa.AV.ro renaming injEq → Zf
open _root_.Int renaming toNat_natCast → Zi, reduceToNat → Zj, toNat_zero → Zk, toNat_one → Zl, reduceLE → Zm, reduceLT → Zn, reduceBEq → Zo, reduceBNe → Zp, reduceNeg → Zq
open _root_.List renaming length_map → Zt, map_cons → Xq, map_nil → Xr, forall_mem_cons → Xs, not_mem_nil → Xt, length_cons → Xu, length_nil → Xv, getD_cons_zero → Xw, getD_cons_succ → Xx, getD_nil → Xy, drop_succ_cons → Xz, drop_zero → W0, take_succ_cons → W1, take_zero → W2, set_cons_zero → W3, set_cons_succ → W4, all_cons → W5, all_nil → W6
open Go.Proofs.Ytpecmhdepggnoaa.ASt renaming rid → Xg, free → Xh
open Go.Proofs.Ytpecmhdepggnoaa.AV renaming kill → Xi, isHome → Xj, noLoan → Xk, cellOK → Xl
open _root_.Bool renaming and_true → W7, true_and → W8, not_true → W9, not_false → Wa, false_eq_true → Wb
open _root_.Nat renaming reduceEqDiff → Wc, reduceAdd → Wd, reduceSub → We, reduceMul → Wf, reduceLeDiff → Wg, reduceLT → Wh, one_ne_zero → Wi, zero_ne_one → Wj
open Go.Proofs.Ytpecmhdepggnoaa.AV.val renaming injEq → Wo
set_option linter.unusedSimpArgs false

theorem bitLen_bd : ∀ (k x : Nat), x < 2 ^ k → k ≤ 64 → 0 < x → 2 ^ (Lib.bitLen x - 1) ≤ x ∧ x < 2 ^ Lib.bitLen x ∧ 0 < Lib.bitLen x
  | 0, x, h, _, h0 => by simp at h; omega
  | k + 1, x, h, hk, h0 => by
    have hx : x < 2 ^ 64 := Nat.lt_of_lt_of_le h (Nat.pow_le_pow_right (by decide) hk)
    rw [Lib.bitLen_half x (by omega) hx]
    by_cases h1 : x / 2 = 0
    · have : x = 1 := by omega
      subst this
      decide
    · obtain ⟨a, b, c⟩ := bitLen_bd k (x / 2) (by rw [Nat.pow_succ] at h; omega) (by omega) (by omega)
      generalize Lib.bitLen (x / 2) = m at *
      obtain ⟨m, rfl⟩ : ∃ q, m = q + 1 := ⟨m - 1, by omega⟩
      have e1 : (2 : Nat) ^ (1 + (m + 1) - 1) = 2 ^ m * 2 := by rw [show 1 + (m + 1) - 1 = m + 1 by omega, Nat.pow_succ]
      have e2 : (2 : Nat) ^ (1 + (m + 1)) = 2 ^ (m + 1) * 2 := by rw [show 1 + (m + 1) = (m + 1) + 1 by omega, Nat.pow_succ]
      rw [e1, e2]
      simp only [Nat.add_sub_cancel] at a
      omega

theorem u_conv8 (x : Nat) : IntKind.u8.wrap (x : Int) = ((x % 256 : Nat) : Int) := by
  unfold IntKind.wrap
  simp [IntKind.bits, IntKind.signed]
theorem u_shrN (x k : Nat) (h : k ≤ 64) : (x : Int).fdiv (2 ^ (min k IntKind.u64.bits)) = ((x / 2 ^ k : Nat) : Int) := by
  have e : min k IntKind.u64.bits = k := by show min k 64 = k; omega
  rw [e, Int.fdiv_eq_ediv_of_nonneg _ (by exact_mod_cast Nat.zero_le (2 ^ k))]
  rw [Int.natCast_ediv]; norm_cast
theorem u_shlN (x k : Nat) (h : k ≤ 64) : IntKind.u64.wrap ((x : Int) * 2 ^ (min k IntKind.u64.bits)) = ((x * 2 ^ k % 18446744073709551616 : Nat) : Int) := by
  have e : min k IntKind.u64.bits = k := by show min k 64 = k; omega
  rw [e, ← u_mod]; norm_cast
theorem u_or (a b k : Nat) (hb : b < 2 ^ k) (h : a * 2 ^ k + b < 18446744073709551616) : IntKind.u64.wrap ((BitVec.ofInt IntKind.u64.bits ((a * 2 ^ k : Nat) : Int) ||| BitVec.ofInt IntKind.u64.bits (b : Int)).toNat : Int) = ((a * 2 ^ k + b : Nat) : Int) := by
  have e : (BitVec.ofInt IntKind.u64.bits ((a * 2 ^ k : Nat) : Int) ||| BitVec.ofInt IntKind.u64.bits (b : Int)).toNat = a * 2 ^ k + b := by
    show (BitVec.ofInt 64 ((a * 2 ^ k : Nat) : Int) ||| BitVec.ofInt 64 (b : Int)).toNat = _
    rw [BitVec.toNat_or, BitVec.toNat_ofInt, BitVec.toNat_ofInt]
    have e1 : (((a * 2 ^ k : Nat) : Int) % ((2 ^ 64 : Nat) : Int)).toNat = a * 2 ^ k := by omega
    have e2 : ((b : Int) % ((2 ^ 64 : Nat) : Int)).toNat = b := by omega
    rw [e1, e2, ← Nat.shiftLeft_eq, Nat.shiftLeft_add_eq_or_of_lt hb]
  rw [e]
  exact u_wrap (by omega) (by omega)
theorem u_sub (a b : Nat) (h : b ≤ a) (ha : a < 18446744073709551616) : IntKind.u64.wrap ((a : Int) - (b : Int)) = ((a - b : Nat) : Int) := by
  rw [← Int.natCast_sub h]; exact u_wrap (by omega) (by omega)
theorem u_quo (a b : Nat) (ha : a < 18446744073709551616) : IntKind.u64.wrap ((a : Int).tdiv (b : Int)) = ((a / b : Nat) : Int) := by
  rw [Int.tdiv_eq_ediv_of_nonneg (by omega), ← Int.natCast_ediv]
  have : a / b ≤ a := Nat.div_le_self _ _
  generalize a / b = q at *
  exact u_wrap (by omega) (by omega)

theorem u_ring (a b c : Int) : IntKind.u64.wrap (IntKind.u64.wrap (IntKind.u64.wrap a + b) - IntKind.u64.wrap c) = IntKind.u64.wrap (a + b - c) := by
  unfold IntKind.wrap
  simp [IntKind.bits, IntKind.signed]
/-! math/bits.Len64 -/
def s97_0 : ByteArray := ⟨#[0, 1, 2, 2, 3, 3, 3, 3, 4, 4, 4, 4, 4, 4, 4, 4, 5, 5, 5, 5, 5, 5, 5, 5, 5, 5, 5, 5, 5, 5, 5, 5, 6, 6, 6, 6, 6, 6, 6, 6, 6, 6, 6, 6, 6, 6, 6, 6, 6, 6, 6, 6, 6, 6, 6, 6, 6, 6, 6, 6, 6, 6, 6, 6, 7, 7, 7, 7, 7, 7, 7, 7, 7, 7, 7, 7, 7, 7, 7, 7, 7, 7, 7, 7, 7, 7, 7, 7, 7, 7, 7, 7, 7, 7, 7, 7, 7, 7, 7, 7, 7, 7, 7, 7, 7, 7, 7, 7, 7, 7, 7, 7, 7, 7, 7, 7, 7, 7, 7, 7, 7, 7, 7, 7, 7, 7, 7, 7, 8, 8, 8, 8, 8, 8, 8, 8, 8, 8, 8, 8, 8, 8, 8, 8, 8, 8, 8, 8, 8, 8, 8, 8, 8, 8, 8, 8, 8, 8, 8, 8, 8, 8, 8, 8, 8, 8, 8, 8, 8, 8, 8, 8, 8, 8, 8, 8, 8, 8, 8, 8, 8, 8, 8, 8, 8, 8, 8, 8, 8, 8, 8, 8, 8, 8, 8, 8, 8, 8, 8, 8, 8, 8, 8, 8, 8, 8, 8, 8, 8, 8, 8, 8, 8, 8, 8, 8, 8, 8, 8, 8, 8, 8, 8, 8, 8, 8, 8, 8, 8, 8, 8, 8, 8, 8, 8, 8, 8, 8, 8, 8, 8, 8, 8, 8, 8, 8, 8, 8, 8, 8, 8, 8, 8, 8, 8, 8]⟩
def r97_0 : List POp := [⟨2, .asg (.c (.int .i64 0)), none⟩]
def r97_1 : List POp := [⟨3, .mv (.t 0), none⟩,
  ⟨4, .bin .geq (.t 3) (.c (.int .u64 4294967296)), none⟩]
def r97_2 : List POp := [⟨5, .mv (.t 0), none⟩,
  ⟨6, .bin .shr (.t 5) (.c (.int .u64 32)), none⟩,
  ⟨0, .asg (.t 6), none⟩]
def r97_3 : List POp := [⟨2, .asg (.c (.int .i64 32)), none⟩]
def r97_4 : List POp := [⟨7, .mv (.t 0), none⟩,
  ⟨8, .bin .geq (.t 7) (.c (.int .u64 65536)), none⟩]
def r97_5 : List POp := [⟨9, .mv (.t 0), none⟩,
  ⟨10, .bin .shr (.t 9) (.c (.int .u64 16)), none⟩,
  ⟨0, .asg (.t 10), none⟩]
def r97_6 : List POp := [⟨11, .mv (.t 2), none⟩,
  ⟨12, .bin .add (.t 11) (.c (.int .i64 16)), none⟩,
  ⟨2, .asg (.t 12), none⟩]
def r97_7 : List POp := [⟨13, .mv (.t 0), none⟩,
  ⟨14, .bin .geq (.t 13) (.c (.int .u64 256)), none⟩]
def r97_8 : List POp := [⟨15, .mv (.t 0), none⟩,
  ⟨16, .bin .shr (.t 15) (.c (.int .u64 8)), none⟩,
  ⟨0, .asg (.t 16), none⟩]
def r97_9 : List POp := [⟨17, .mv (.t 2), none⟩,
  ⟨18, .bin .add (.t 17) (.c (.int .i64 8)), none⟩,
  ⟨2, .asg (.t 18), none⟩]
def r97_10 : List POp := [⟨19, .mv (.t 2), none⟩,
  ⟨20, .mv (.t 0), none⟩,
  ⟨21, .conv .u8 (.t 20), none⟩,
  ⟨22, .idxs (.c (.string s97_0)) (.t 21), none⟩,
  ⟨23, .conv .i64 (.t 22), none⟩,
  ⟨24, .bin .add (.t 19) (.t 23), none⟩,
  ⟨2, .asg (.t 24), none⟩]
def p97 : PCode := .seq (.ops r97_0) (.seq (.seq (.ops r97_1) (.cond (.t 4) (.seq (.ops r97_2) (.ops r97_3)) (.skip))) (.seq (.seq (.ops r97_4) (.cond (.t 8) (.seq (.ops r97_5) (.ops r97_6)) (.skip))) (.seq (.seq (.ops r97_7) (.cond (.t 14) (.seq (.ops r97_8) (.ops r97_9)) (.skip))) (.seq (.ops r97_10) (.ret)))))
theorem ok97 : okFunc Try.prog 97 [.t 2] 1 p97 = true := by kernel_rfl
theorem len8_tab : ∀ n : _root_.Fin 256, ((s97_0.data.toList.getD n.val 0).toNat : Nat) = Lib.bitLen n.val := by decide +kernel
theorem len8_at (x : Nat) : (s97_0.data.toList.getD (x % 256) 0).toNat = Lib.bitLen (x % 256) := len8_tab ⟨x % 256, Nat.mod_lt _ (by decide)⟩
theorem len8_sz : s97_0.size = 256 := by decide +kernel
theorem i_in {n : Int} (h1 : -9223372036854775808 ≤ n) (h2 : n ≤ 9223372036854775807) : IntKind.i64.wrap n = n := wrap_in h1 h2
theorem len64_c (x : Nat) (hx : x < 18446744073709551616) : CallOK Try.prog 97 [.val (.int .u64 x)] (.val (.int .i64 (Lib.bitLen x : Nat))) := by
  refine call_of mixed ok97 rfl ?_
  have b8 : ∀ k : Nat, Lib.bitLen (k % 256) ≤ 8 := fun k => Lib.bitLen_le8 ⟨k % 256, Nat.mod_lt _ (by decide)⟩
  repeat' first | ((with_reducible (first | refine condD ?_ ?_ | refine condE ?_ ?_ | refine condN ?_ ?_ | refine condI ?_ ?_ | refine condS ?_ ?_)) <;> intro h) | (with_reducible refine And.intro ?_ ?_; omega) | (simp only [Z0,Z1,Z2,Z3,Z4,Z5,Z6,Z7,Z8,Z9,Za,Zb,Zc,Zd,Ze,Zf,List.cons.injEq,Zg,Zh,Zi,Zj,Zk,Zl,Zm,Zn,Zo,Zp,beq_self_eq_true,bne_self_eq_false,decide_true,decide_false,Zq,Zr,Zs,Zt,Zu,Zv,Zw,Zx,Zy,Zz,Y0,Y1,Y2,Y3,Y4,Y5,Y6,Y7,Y8,Y9,Ya,Yb,Yc,Yd,Ye,Yf,Yg,lk,ef,Yi,Yk,Ym,o_idxs,Yn,hv,Yo,ev,Yp,Yq,Yr,Ys,Yt,Yu,Yv,Yw,Yx,Yy,Yz,X0,X1,X2,X3,X4,X5,X6,X7,X8,X9,Xa,Xb,Xc,Xd,Xe,Xf,Xg,Xh,Xi,Xj,Xk,Xl,Value.oneCell',Xm,Xn,Xo,Xp,true_and,and_true,and_self,implies_true,Xq,Xr,Xs,Xt,false_implies,Xu,Xv,Xw,Xx,Xy,Xz,W0,W1,W2,W3,W4,W5,W6,W7,W8,W9,Wa,reduceCtorEq,if_true,if_false,Wb,↓reduceIte,Wc,Wd,We,Wf,Wg,Wh,ne_eq,not_false_eq_true,not_true_eq_false,Wi,Wj,r97_0,r97_1,r97_2,r97_3,r97_4,r97_5,r97_6,r97_7,r97_8,r97_9,r97_10,p97,u_conv8,len8_at,len8_sz,u_shrN _ 32 (by decide),u_shrN _ 16 (by decide),u_shrN _ 8 (by decide),Nat.reducePow]) | (exfalso; omega)
  · have k := b8 (x / 4294967296 / 65536 / 256)
    have s := Lib.bitLen_shift56 x (by omega) hx
    rw [show x / 72057594037927936 = x / 4294967296 / 65536 / 256 % 256 by omega] at s
    simp only [IntKind.wrap_i64]
    omega
  · have k := b8 (x / 4294967296 / 65536)
    have s := Lib.bitLen_shift48 x (by omega) hx
    rw [show x / 281474976710656 = x / 4294967296 / 65536 % 256 by omega] at s
    simp only [IntKind.wrap_i64]
    omega
  · have k := b8 (x / 4294967296 / 256)
    have s := Lib.bitLen_shift40 x (by omega) hx
    rw [show x / 1099511627776 = x / 4294967296 / 256 % 256 by omega] at s
    simp only [IntKind.wrap_i64]
    omega
  · have k := b8 (x / 4294967296)
    have s := Lib.bitLen_shift32 x (by omega) hx
    rw [show x / 4294967296 = x / 4294967296 % 256 by omega] at s
    simp only [IntKind.wrap_i64]
    omega
  · have k := b8 (x / 65536 / 256)
    have s := Lib.bitLen_shift24 x (by omega) hx
    rw [show x / 16777216 = x / 65536 / 256 % 256 by omega] at s
    simp only [IntKind.wrap_i64]
    omega
  · have k := b8 (x / 65536)
    have s := Lib.bitLen_shift16 x (by omega) hx
    rw [show x / 65536 = x / 65536 % 256 by omega] at s
    simp only [IntKind.wrap_i64]
    omega
  · have k := b8 (x / 256)
    have s := Lib.bitLen_shift8 x (by omega) hx
    rw [show x / 256 = x / 256 % 256 by omega] at s
    simp only [IntKind.wrap_i64]
    omega
  · have k := b8 x
    rw [show x % 256 = x by omega] at k ⊢
    simp only [IntKind.wrap_i64]
    omega
/-! math/bits.LeadingZeros64 -/
def r85_0 : List POp := [⟨2, .asg (.c (.int .i64 0)), none⟩]
def r85_1 : List POp := [⟨3, .mv (.t 0), none⟩,
  ⟨4, .call 97 [.t 3], none⟩,
  ⟨5, .bin .sub (.c (.int .i64 64)) (.t 4), none⟩,
  ⟨2, .asg (.t 5), none⟩]
def p85 : PCode := .seq (.ops r85_0) (.seq (.ops r85_1) (.ret))
theorem ok85 : okFunc Try.prog 85 [.t 2] 1 p85 = true := by kernel_rfl
theorem lz64_c (x : Nat) (hx : x < 18446744073709551616) : CallOK Try.prog 85 [.val (.int .u64 x)] (.val (.int .i64 (64 - Lib.bitLen x : Nat))) := by
  refine call_of mixed ok85 rfl ?_
  have h := Lib.bitLen_le x 64 (by decide) hx
  repeat' first | ((with_reducible (first | refine condD ?_ ?_ | refine condE ?_ ?_ | refine condN ?_ ?_ | refine condI ?_ ?_ | refine condS ?_ ?_)) <;> intro h) | ((refine callG (len64_c x hx) ?_)) | (with_reducible refine And.intro ?_ ?_; omega) | (simp only [Z0,Z1,Z2,Z3,Z4,Z5,Z6,Z7,Z8,Z9,Za,Zb,Zc,Zd,Ze,Zf,List.cons.injEq,Zg,Zh,Zi,Zj,Zk,Zl,Zm,Zn,Zo,Zp,beq_self_eq_true,bne_self_eq_false,decide_true,decide_false,Zq,Zr,Zs,Zt,Zu,Zv,Zw,Zx,Zy,Zz,Y0,Y1,Y2,Y3,Y4,Y5,Y6,Y7,Y8,Y9,Ya,Yb,Yc,Yd,Ye,Yf,Yg,Yh,lk,ef,Yi,Yk,Yn,hv,Yo,ev,Yp,Yq,Yr,Ys,Yt,Yu,Yv,Yw,Yx,Yy,Yz,X0,X1,X2,X3,X4,X5,X6,X7,X8,X9,Xa,Xb,Xc,Xd,Xe,Xf,Xg,Xh,Xi,Xj,Xk,Xl,Value.oneCell',Xm,Xn,Xo,Xp,true_and,and_true,and_self,implies_true,Xq,Xr,Xs,Xt,false_implies,Xu,Xv,Xw,Xx,Xy,Xz,W0,W1,W2,W3,W4,W5,W6,W7,W8,W9,Wa,reduceCtorEq,if_true,if_false,Wb,↓reduceIte,Wc,Wd,We,Wf,Wg,Wh,ne_eq,not_false_eq_true,not_true_eq_false,Wi,Wj,r85_0,r85_1,p85]) | (exfalso; omega)
  rw [IntKind.wrap_i64]; omega
/-- The second digit, from the head of its loop on. -/
theorem div64_l2 {res : AV} {st : ASt} (Y s y1 y0 q1 r1 l0 q0 r0 Q R : Nat) (hYs : Y = y1 * 4294967296 + y0) (by1 : 2147483648 ≤ y1) (by0 : y0 < 4294967296) (bl0 : l0 < 4294967296) (hrY : r1 < Y) (hY2 : Y < 18446744073709551616)
    (hq0 : q0 = (r1 * 4294967296 + l0) / Y) (hr0 : r0 = (r1 * 4294967296 + l0) % Y) (hQ : q1 * 4294967296 + q0 = Q) (hQb : Q < 18446744073709551616) (hs : s ≤ 64) (hR : r0 / 2 ^ s = R) (hres : res = .tup [.val (.int .u64 Q), .val (.int .u64 R)])
    (hw : Weak st (mk [(2, .val (.int .u64 Y)), (8, .val (.int .u64 s)), (9, .val (.int .u64 y1)), (10, .val (.int .u64 y0)), (14, .val (.int .u64 l0)), (15, .val (.int .u64 q1)), (16, .val (.int .u64 (r1 - r1 / y1 * y1 : Nat))), (17, .val (.int .u64 r1)), (18, .val (.int .u64 (r1 / y1 : Nat)))])) :
    go Try.prog (Done [.t 6, .t 7] res) [.c (.loop l64_1), .b 2, .c (.seq (.ops r64_28) .ret)] .normal st := by
  subst hres
  have hnear := kn_near (u := r1) (y1 := y1) (y0 := y0) (by omega) by1 by0
  have hfirst := kn_first (u := r1) (un := l0) (y1 := y1) (y0 := y0) (by omega) bl0
  have hrem := kn_rem (u := r1) (y1 := y1)
  have hmod : r1 - r1 / y1 * y1 < y1 := by
    have := Nat.div_add_mod r1 y1
    have := Nat.mod_lt r1 (show 0 < y1 by omega)
    rw [Nat.mul_comm (r1 / y1)]; omega
  rw [← hYs, ← hq0] at hfirst
  have hq0b : q0 < 4294967296 := by rw [hq0, Nat.div_lt_iff_lt_mul (by omega)]; omega
  have z1 : IntKind.u64.wrap ((q1 : Int) * 4294967296) = ((q1 * 4294967296 : Nat) : Int) := by
    rw [show (q1 : Int) * 4294967296 = ((q1 * 4294967296 : Nat) : Int) by omega]; exact u_wrap (by omega) (by omega)
  have z2 := u_add (q1 * 4294967296) q0 (by omega)
  rw [hQ] at z2
  have hr0Y : r0 < Y := by rw [hr0]; exact Nat.mod_lt _ (by omega)
  have z3 : IntKind.u64.wrap (IntKind.u64.wrap (IntKind.u64.wrap ((r1 : Int) * 4294967296) + (l0 : Int)) - IntKind.u64.wrap ((q0 : Int) * (Y : Int))) = (r0 : Int) := by
    rw [u_ring, kn_left hq0, ← hr0]; exact u_wrap (by omega) (by omega)
  have z4 := u_shrN r0 s hs
  rw [hR] at z4
  refine loopS (fun p : Nat × Nat => mk [(2, .val (.int .u64 Y)), (8, .val (.int .u64 s)), (9, .val (.int .u64 y1)), (10, .val (.int .u64 y0)), (14, .val (.int .u64 l0)), (15, .val (.int .u64 q1)), (16, .val (.int .u64 p.2)), (17, .val (.int .u64 r1)), (18, .val (.int .u64 p.1))])
    (fun p => p.1 * y1 + p.2 = r1 ∧ q0 ≤ p.1 ∧ p.1 ≤ 4294967297 ∧ p.2 < 4294967296) (fun p => p.1) (r1 / y1, r1 - r1 / y1 * y1) hw ⟨hrem, hfirst, hnear, by simp only; omega⟩ ?_
  rintro J hJ ⟨q, r⟩ ⟨i1, i2, i3, i4⟩
  simp only at i1 i2 i3 i4
  have hs1 := kn_small i3 by0
  have k1 := u_mul q y0 (by omega)
  have k2 : IntKind.u64.wrap (4294967296 * (r : Int)) = ((4294967296 * r : Nat) : Int) := by rw [show (4294967296 * (r : Int)) = ((4294967296 * r : Nat) : Int) by omega]; exact u_wrap (by omega) (by omega)
  have k3 := u_add (4294967296 * r) l0 (by omega)
  have hs0 : (0 : Int) ≤ s := by omega
  have hcase : (4294967296 ≤ q ∨ 4294967296 * r + l0 < q * y0) ∨ (¬ ((4294967296 : Int) ≤ q) ∧ ¬ (((4294967296 * r + l0 : Nat) : Int) < ((q * y0 : Nat) : Int))) := by omega
  rcases hcase with ht | ⟨hA, hB⟩
  · have hgr := kn_great i1 (by omega) bl0 ht
    rw [← hYs, ← hq0] at hgr
    have k4 : IntKind.u64.wrap ((q : Int) - 1) = ((q - 1 : Nat) : Int) := u_sub q 1 (by omega) (by omega)
    have k5 := u_add r y1 (by omega)
    have hnx := kn_next (show 0 < q by omega) i1
    have ht' : ((4294967296 : Int) ≤ q) ∨ (¬ ((4294967296 : Int) ≤ q) ∧ (((4294967296 * r + l0 : Nat) : Int) < ((q * y0 : Nat) : Int))) := by omega
    by_cases hb : 4294967296 ≤ r + y1
    · have hd := kn_break (q := q - 1) (y0 := y0) (un := l0) (by omega) by0 hb
      have hqq : q - 1 = q0 := by
        rw [hq0, hYs]; exact kn_done (by omega) hnx (by rw [← hYs, ← hq0]; omega) hd
      rw [hqq] at k4
      have hb' : (4294967296 : Int) ≤ ((r + y1 : Nat) : Int) := by omega
      clear hJ hd hgr hnx hrem hfirst hnear hmod
      rcases ht' with hA | ⟨hA, hB⟩
      · repeat' first | ((with_reducible (first | refine condD ?_ ?_ | refine condE ?_ ?_ | refine condN ?_ ?_ | refine condI ?_ ?_ | refine condS ?_ ?_)) <;> intro h) | ((with_reducible (first | refine guardD (by with_unfolding_all rfl) ?_ ?_ | refine guardE (by with_unfolding_all rfl) ?_ ?_ | refine guardN (by with_unfolding_all rfl) ?_ ?_ | refine guardI (by with_unfolding_all rfl) ?_ ?_ | refine guardS (by with_unfolding_all rfl) ?_ ?_)) <;> intro h) | (with_reducible refine And.intro ?_ ?_; omega) | (simp only [Z0,Z1,Z2,Z3,Z4,Z5,Z6,Z7,Z8,Z9,Za,Zb,Zc,Zd,Ze,Zf,List.cons.injEq,Zg,Zh,Zi,Zj,Zk,Zl,Zm,Zn,Zo,Zp,beq_self_eq_true,bne_self_eq_false,decide_true,decide_false,Zq,Zr,Zs,Zt,Zu,Zv,Zw,Zx,Zy,Zz,Y0,Y1,Y2,Y3,Y4,Y5,Y6,Y7,Y8,Y9,Ya,Yb,Yc,Yd,Ye,Yf,Yg,Yh,lk,ef,Yi,Yj,Yk,Yl,Ym,Yn,hv,Yo,ev,Yp,Yq,Yr,Ys,Yt,Yu,Yv,Yw,Yx,Yy,Yz,X0,X1,X2,X3,X4,X5,X6,X7,X8,X9,Xa,Xb,Xc,Xd,Xe,Xf,Xg,Xh,Xi,Xj,Xk,Xl,Value.oneCell',Xm,Xn,Xo,Xp,true_and,and_true,and_self,implies_true,Xq,Xr,Xs,Xt,false_implies,Xu,Xv,Xw,Xx,Xy,Xz,W0,W1,W2,W3,W4,W5,W6,W7,W8,W9,Wa,reduceCtorEq,if_true,if_false,Wb,↓reduceIte,Wc,Wd,We,Wf,Wg,Wh,ne_eq,not_false_eq_true,not_true_eq_false,Wi,Wj,r64_0,r64_1,r64_2,r64_3,r64_4,r64_5,r64_6,r64_7,r64_8,r64_9,r64_10,r64_11,r64_12,r64_13,r64_14,r64_15,r64_16,r64_17,r64_18,r64_19,r64_20,r64_21,r64_22,r64_23,r64_24,r64_25,r64_26,r64_27,r64_28,p64,l64_1,hA,hb',hs0,k1,k2,k3,k4,k5,z1,z2,z3,z4]) | (exfalso; omega)
      · repeat' first | ((with_reducible (first | refine condD ?_ ?_ | refine condE ?_ ?_ | refine condN ?_ ?_ | refine condI ?_ ?_ | refine condS ?_ ?_)) <;> intro h) | ((with_reducible (first | refine guardD (by with_unfolding_all rfl) ?_ ?_ | refine guardE (by with_unfolding_all rfl) ?_ ?_ | refine guardN (by with_unfolding_all rfl) ?_ ?_ | refine guardI (by with_unfolding_all rfl) ?_ ?_ | refine guardS (by with_unfolding_all rfl) ?_ ?_)) <;> intro h) | (with_reducible refine And.intro ?_ ?_; omega) | (simp only [Z0,Z1,Z2,Z3,Z4,Z5,Z6,Z7,Z8,Z9,Za,Zb,Zc,Zd,Ze,Zf,List.cons.injEq,Zg,Zh,Zi,Zj,Zk,Zl,Zm,Zn,Zo,Zp,beq_self_eq_true,bne_self_eq_false,decide_true,decide_false,Zq,Zr,Zs,Zt,Zu,Zv,Zw,Zx,Zy,Zz,Y0,Y1,Y2,Y3,Y4,Y5,Y6,Y7,Y8,Y9,Ya,Yb,Yc,Yd,Ye,Yf,Yg,Yh,lk,ef,Yi,Yj,Yk,Yl,Ym,Yn,hv,Yo,ev,Yp,Yq,Yr,Ys,Yt,Yu,Yv,Yw,Yx,Yy,Yz,X0,X1,X2,X3,X4,X5,X6,X7,X8,X9,Xa,Xb,Xc,Xd,Xe,Xf,Xg,Xh,Xi,Xj,Xk,Xl,Value.oneCell',Xm,Xn,Xo,Xp,true_and,and_true,and_self,implies_true,Xq,Xr,Xs,Xt,false_implies,Xu,Xv,Xw,Xx,Xy,Xz,W0,W1,W2,W3,W4,W5,W6,W7,W8,W9,Wa,reduceCtorEq,if_true,if_false,Wb,↓reduceIte,Wc,Wd,We,Wf,Wg,Wh,ne_eq,not_false_eq_true,not_true_eq_false,Wi,Wj,r64_0,r64_1,r64_2,r64_3,r64_4,r64_5,r64_6,r64_7,r64_8,r64_9,r64_10,r64_11,r64_12,r64_13,r64_14,r64_15,r64_16,r64_17,r64_18,r64_19,r64_20,r64_21,r64_22,r64_23,r64_24,r64_25,r64_26,r64_27,r64_28,p64,l64_1,hA,hB,hb',hs0,k1,k2,k3,k4,k5,z1,z2,z3,z4]) | (exfalso; omega)
    · have hb' : ¬ ((4294967296 : Int) ≤ ((r + y1 : Nat) : Int)) := by omega
      rcases ht' with hA | ⟨hA, hB⟩
      · repeat' first | ((with_reducible (first | refine condD ?_ ?_ | refine condE ?_ ?_ | refine condN ?_ ?_ | refine condI ?_ ?_ | refine condS ?_ ?_)) <;> intro h) | ((with_reducible (first | refine guardD (by with_unfolding_all rfl) ?_ ?_ | refine guardE (by with_unfolding_all rfl) ?_ ?_ | refine guardN (by with_unfolding_all rfl) ?_ ?_ | refine guardI (by with_unfolding_all rfl) ?_ ?_ | refine guardS (by with_unfolding_all rfl) ?_ ?_)) <;> intro h) | (with_reducible refine And.intro ?_ ?_; omega) | (simp only [Z0,Z1,Z2,Z3,Z4,Z5,Z6,Z7,Z8,Z9,Za,Zb,Zc,Zd,Ze,Zf,List.cons.injEq,Zg,Zh,Zi,Zj,Zk,Zl,Zm,Zn,Zo,Zp,beq_self_eq_true,bne_self_eq_false,decide_true,decide_false,Zq,Zr,Zs,Zt,Zu,Zv,Zw,Zx,Zy,Zz,Y0,Y1,Y2,Y3,Y4,Y5,Y6,Y7,Y8,Y9,Ya,Yb,Yc,Yd,Ye,Yf,Yg,Yh,lk,ef,Yi,Yj,Yk,Yl,Ym,Yn,hv,Yo,ev,Yp,Yq,Yr,Ys,Yt,Yu,Yv,Yw,Yx,Yy,Yz,X0,X1,X2,X3,X4,X5,X6,X7,X8,X9,Xa,Xb,Xc,Xd,Xe,Xf,Xg,Xh,Xi,Xj,Xk,Xl,Value.oneCell',Xm,Xn,Xo,Xp,true_and,and_true,and_self,implies_true,Xq,Xr,Xs,Xt,false_implies,Xu,Xv,Xw,Xx,Xy,Xz,W0,W1,W2,W3,W4,W5,W6,W7,W8,W9,Wa,reduceCtorEq,if_true,if_false,Wb,↓reduceIte,Wc,Wd,We,Wf,Wg,Wh,ne_eq,not_false_eq_true,not_true_eq_false,Wi,Wj,r64_0,r64_1,r64_2,r64_3,r64_4,r64_5,r64_6,r64_7,r64_8,r64_9,r64_10,r64_11,r64_12,r64_13,r64_14,r64_15,r64_16,r64_17,r64_18,r64_19,r64_20,r64_21,r64_22,r64_23,r64_24,r64_25,r64_26,r64_27,r64_28,p64,l64_1,hA,hb',k1,k2,k3,k4,k5]) | (exfalso; omega)
        exact again hJ (q - 1, r + y1) (weak_mk (by simp only [Wk,Wl,wk1,Wm,Wn,Wo,Z4,Z5,Z6,Z7,Z8,Z9,Za,Zb,Zc,Zd,Ze,Zf,List.cons.injEq,Zg,Zh,Zi,Zj,Zk,Zl,Zm,Zn,Zo,Zp,beq_self_eq_true,bne_self_eq_false,decide_true,decide_false,Zq,Zr,Zs,Zt,Zu,Zv,Zw,Zx,Zy,Zz,Y0,hv,Yo,ev,Yp,Yq,Yr,Ys,Yt,Yu,Yv,Yw,Yx,Yy,Yz,X0,X1,X2,X3,X4,X5,X6,X7,X8,X9,Xa,Xb,Xc,Xd,Xe,Xf,Xg,Xh,Xi,Xj,Xk,Xl,Value.oneCell',Xm,Xn,Xo,Xp,true_and,and_true,and_self,implies_true,Xq,Xr,Xs,Xt,false_implies,Xu,Xv,Xw,Xx,Xy,Xz,W0,W1,W2,W3,W4,W5,W6,W7,W8,W9,Wa,reduceCtorEq,if_true,if_false,Wb,↓reduceIte,Wc,Wd,We,Wf,Wg,Wh,ne_eq,not_false_eq_true,not_true_eq_false,Wi,Nat.zero_ne_one])) ⟨hnx, by simp only; omega, by simp only; omega, by simp only; omega⟩ (by simp only; omega)
      · repeat' first | ((with_reducible (first | refine condD ?_ ?_ | refine condE ?_ ?_ | refine condN ?_ ?_ | refine condI ?_ ?_ | refine condS ?_ ?_)) <;> intro h) | ((with_reducible (first | refine guardD (by with_unfolding_all rfl) ?_ ?_ | refine guardE (by with_unfolding_all rfl) ?_ ?_ | refine guardN (by with_unfolding_all rfl) ?_ ?_ | refine guardI (by with_unfolding_all rfl) ?_ ?_ | refine guardS (by with_unfolding_all rfl) ?_ ?_)) <;> intro h) | (with_reducible refine And.intro ?_ ?_; omega) | (simp only [Z0,Z1,Z2,Z3,Z4,Z5,Z6,Z7,Z8,Z9,Za,Zb,Zc,Zd,Ze,Zf,List.cons.injEq,Zg,Zh,Zi,Zj,Zk,Zl,Zm,Zn,Zo,Zp,beq_self_eq_true,bne_self_eq_false,decide_true,decide_false,Zq,Zr,Zs,Zt,Zu,Zv,Zw,Zx,Zy,Zz,Y0,Y1,Y2,Y3,Y4,Y5,Y6,Y7,Y8,Y9,Ya,Yb,Yc,Yd,Ye,Yf,Yg,Yh,lk,ef,Yi,Yj,Yk,Yl,Ym,Yn,hv,Yo,ev,Yp,Yq,Yr,Ys,Yt,Yu,Yv,Yw,Yx,Yy,Yz,X0,X1,X2,X3,X4,X5,X6,X7,X8,X9,Xa,Xb,Xc,Xd,Xe,Xf,Xg,Xh,Xi,Xj,Xk,Xl,Value.oneCell',Xm,Xn,Xo,Xp,true_and,and_true,and_self,implies_true,Xq,Xr,Xs,Xt,false_implies,Xu,Xv,Xw,Xx,Xy,Xz,W0,W1,W2,W3,W4,W5,W6,W7,W8,W9,Wa,reduceCtorEq,if_true,if_false,Wb,↓reduceIte,Wc,Wd,We,Wf,Wg,Wh,ne_eq,not_false_eq_true,not_true_eq_false,Wi,Wj,r64_0,r64_1,r64_2,r64_3,r64_4,r64_5,r64_6,r64_7,r64_8,r64_9,r64_10,r64_11,r64_12,r64_13,r64_14,r64_15,r64_16,r64_17,r64_18,r64_19,r64_20,r64_21,r64_22,r64_23,r64_24,r64_25,r64_26,r64_27,r64_28,p64,l64_1,hA,hB,hb',k1,k2,k3,k4,k5]) | (exfalso; omega)
        exact again hJ (q - 1, r + y1) (weak_mk (by simp only [Wk,Wl,wk1,Wm,Wn,Wo,Z4,Z5,Z6,Z7,Z8,Z9,Za,Zb,Zc,Zd,Ze,Zf,List.cons.injEq,Zg,Zh,Zi,Zj,Zk,Zl,Zm,Zn,Zo,Zp,beq_self_eq_true,bne_self_eq_false,decide_true,decide_false,Zq,Zr,Zs,Zt,Zu,Zv,Zw,Zx,Zy,Zz,Y0,hv,Yo,ev,Yp,Yq,Yr,Ys,Yt,Yu,Yv,Yw,Yx,Yy,Yz,X0,X1,X2,X3,X4,X5,X6,X7,X8,X9,Xa,Xb,Xc,Xd,Xe,Xf,Xg,Xh,Xi,Xj,Xk,Xl,Value.oneCell',Xm,Xn,Xo,Xp,true_and,and_true,and_self,implies_true,Xq,Xr,Xs,Xt,false_implies,Xu,Xv,Xw,Xx,Xy,Xz,W0,W1,W2,W3,W4,W5,W6,W7,W8,W9,Wa,reduceCtorEq,if_true,if_false,Wb,↓reduceIte,Wc,Wd,We,Wf,Wg,Wh,ne_eq,not_false_eq_true,not_true_eq_false,Wi,Nat.zero_ne_one])) ⟨hnx, by simp only; omega, by simp only; omega, by simp only; omega⟩ (by simp only; omega)
  · have hqq : q = q0 := by rw [hq0, hYs]; exact kn_done (by omega) i1 (by rw [← hYs, ← hq0]; exact i2) (by omega)
    subst hqq
    clear hJ hrem hfirst hnear hmod
    repeat' first | ((with_reducible (first | refine condD ?_ ?_ | refine condE ?_ ?_ | refine condN ?_ ?_ | refine condI ?_ ?_ | refine condS ?_ ?_)) <;> intro h) | ((with_reducible (first | refine guardD (by with_unfolding_all rfl) ?_ ?_ | refine guardE (by with_unfolding_all rfl) ?_ ?_ | refine guardN (by with_unfolding_all rfl) ?_ ?_ | refine guardI (by with_unfolding_all rfl) ?_ ?_ | refine guardS (by with_unfolding_all rfl) ?_ ?_)) <;> intro h) | (with_reducible refine And.intro ?_ ?_; omega) | (simp only [Z0,Z1,Z2,Z3,Z4,Z5,Z6,Z7,Z8,Z9,Za,Zb,Zc,Zd,Ze,Zf,List.cons.injEq,Zg,Zh,Zi,Zj,Zk,Zl,Zm,Zn,Zo,Zp,beq_self_eq_true,bne_self_eq_false,decide_true,decide_false,Zq,Zr,Zs,Zt,Zu,Zv,Zw,Zx,Zy,Zz,Y0,Y1,Y2,Y3,Y4,Y5,Y6,Y7,Y8,Y9,Ya,Yb,Yc,Yd,Ye,Yf,Yg,Yh,lk,ef,Yi,Yj,Yk,Yl,Ym,Yn,hv,Yo,ev,Yp,Yq,Yr,Ys,Yt,Yu,Yv,Yw,Yx,Yy,Yz,X0,X1,X2,X3,X4,X5,X6,X7,X8,X9,Xa,Xb,Xc,Xd,Xe,Xf,Xg,Xh,Xi,Xj,Xk,Xl,Value.oneCell',Xm,Xn,Xo,Xp,true_and,and_true,and_self,implies_true,Xq,Xr,Xs,Xt,false_implies,Xu,Xv,Xw,Xx,Xy,Xz,W0,W1,W2,W3,W4,W5,W6,W7,W8,W9,Wa,reduceCtorEq,if_true,if_false,Wb,↓reduceIte,Wc,Wd,We,Wf,Wg,Wh,ne_eq,not_false_eq_true,not_true_eq_false,Wi,Wj,r64_0,r64_1,r64_2,r64_3,r64_4,r64_5,r64_6,r64_7,r64_8,r64_9,r64_10,r64_11,r64_12,r64_13,r64_14,r64_15,r64_16,r64_17,r64_18,r64_19,r64_20,r64_21,r64_22,r64_23,r64_24,r64_25,r64_26,r64_27,r64_28,p64,l64_1,hA,hB,hs0,k1,k2,k3,z1,z2,z3,z4]) | (exfalso; omega)
theorem div64_c (hi lo y : Nat) (h : hi < y) (hl : lo < 18446744073709551616) (hy : y < 18446744073709551616) (h0 : 0 < hi) : CallOK Try.prog 64 [.val (.int .u64 hi), .val (.int .u64 lo), .val (.int .u64 y)]
    (.tup [.val (.int .u64 (((hi * 18446744073709551616 + lo) / y : Nat) : Int)), .val (.int .u64 (((hi * 18446744073709551616 + lo) % y : Nat) : Int))]) := by
  refine call_of mixed ok64 rfl ?_
  obtain ⟨b1, b2, b3⟩ := bitLen_bd 64 y hy (by decide) (by omega)
  have b4 := Lib.bitLen_le y 64 (by decide) hy
  obtain ⟨s, hs⟩ : ∃ s, s = 64 - Lib.bitLen y := ⟨_, rfl⟩
  have hK : 2 ^ (64 - s) * 2 ^ s = 18446744073709551616 := by rw [← Nat.pow_add, show 64 - s + s = 64 by omega]
  have hlb : Lib.bitLen y = 64 - s := by omega
  rw [hlb] at b1 b2
  have hlz := lz64_c y hy
  rw [← hs] at hlz
  have hK0 : 0 < 2 ^ s := Nat.two_pow_pos s
  have hM : 2 ^ (64 - s) = 2 * 2 ^ (64 - s - 1) := by
    obtain ⟨m, hm⟩ : ∃ m, 64 - s = m + 1 := ⟨64 - s - 1, by omega⟩
    rw [hm, Nat.pow_succ, Nat.add_sub_cancel, Nat.mul_comm]
  -- Y
  have hY1 : 9223372036854775808 ≤ y * 2 ^ s := by
    have : 2 ^ (64 - s - 1) * 2 ^ s ≤ y * 2 ^ s := Nat.mul_le_mul_right _ b1
    have e : 2 * (2 ^ (64 - s - 1) * 2 ^ s) = 18446744073709551616 := by rw [← Nat.mul_assoc, ← hM]; exact hK
    omega
  have hY2 : y * 2 ^ s < 18446744073709551616 := by
    rw [← hK]; exact Nat.mul_lt_mul_of_pos_right b2 hK0
  have hU0 : hi * 2 ^ s + 2 ^ s ≤ y * 2 ^ s := by
    have : (hi + 1) * 2 ^ s ≤ y * 2 ^ s := Nat.mul_le_mul_right _ h
    rw [Nat.add_mul] at this; omega
  have hlo : lo / 2 ^ (64 - s) < 2 ^ s := by
    rw [Nat.div_lt_iff_lt_mul (Nat.two_pow_pos _), Nat.mul_comm, hK]; exact hl
  have hdm : lo / 2 ^ (64 - s) = lo * 2 ^ s / 18446744073709551616 := by
    rw [← hK, Nat.mul_div_mul_right _ _ hK0]
  have hN : (hi * 18446744073709551616 + lo) * 2 ^ s = (hi * 2 ^ s + lo / 2 ^ (64 - s)) * 18446744073709551616 + lo * 2 ^ s % 18446744073709551616 := by
    rw [hdm, Nat.add_mul, Nat.mul_right_comm]
    have := Nat.div_add_mod (lo * 2 ^ s) 18446744073709551616
    rw [Nat.add_mul]
    generalize lo * 2 ^ s = A at *
    generalize hi * 2 ^ s = B at *
    omega
  have hq := (kn_shift (N := hi * 18446744073709551616 + lo) (y := y) hK0)
  rw [hN] at hq
  obtain ⟨Y, hY⟩ : ∃ Y, Y = y * 2 ^ s := ⟨_, rfl⟩
  obtain ⟨U, hU⟩ : ∃ U, U = hi * 2 ^ s + lo / 2 ^ (64 - s) := ⟨_, rfl⟩
  obtain ⟨L, hL⟩ : ∃ L, L = lo * 2 ^ s % 18446744073709551616 := ⟨_, rfl⟩
  have f1 := u_shlN y s (by omega)
  rw [Nat.mod_eq_of_lt hY2, ← hY] at f1
  have f2 := u_shlN hi s (by omega)
  rw [Nat.mod_eq_of_lt (show hi * 2 ^ s < 18446744073709551616 by omega)] at f2
  have f3 := u_shlN lo s (by omega)
  rw [← hL] at f3
  have f4 : IntKind.u64.wrap (64 - (s : Int)) = ((64 - s : Nat) : Int) := u_sub 64 s (by omega) (by omega)
  have f5 := u_shrN lo (64 - s) (by omega)
  have f6 := u_or hi (lo / 2 ^ (64 - s)) s hlo (by omega)
  rw [← hU] at f6
  have f7 : IntKind.u64.wrap (s : Int) = (s : Int) := u_wrap (by omega) (by omega)
  have hne : ¬ ((y : Int) = 0) := by omega
  have hne2 : ((y : Int) == 0) = false := by simp; omega
  have hne3 : ((hi : Int) == 0) = false := by simp; omega
  have hne4 : ¬ ((y : Int) ≤ hi) := by omega
  rw [← hU, ← hL, ← hY] at hq
  rw [← hY] at hY1 hY2 hU0
  have hUY : U < Y := by omega
  have hLb : L < 18446744073709551616 := by rw [hL]; exact Nat.mod_lt _ (by decide)
  have hQ : (hi * 18446744073709551616 + lo) / y < 18446744073709551616 := by
    rw [Nat.div_lt_iff_lt_mul (by omega)]
    have : (hi + 1) * 18446744073709551616 ≤ y * 18446744073709551616 := Nat.mul_le_mul_right _ h
    omega
  clear hN hdm hlo hM b1 b2 b3 b4 hlb hU hL hU0
  obtain ⟨y1, hy1⟩ : ∃ q, q = Y / 4294967296 := ⟨_, rfl⟩
  obtain ⟨y0, hy0⟩ : ∃ q, q = Y % 4294967296 := ⟨_, rfl⟩
  obtain ⟨l1, hl1⟩ : ∃ q, q = L / 4294967296 := ⟨_, rfl⟩
  obtain ⟨l0, hl0⟩ : ∃ q, q = L % 4294967296 := ⟨_, rfl⟩
  have g1 := u_shr32 Y
  have g2 := u_and32 Y hY2
  have g3 := u_shr32 L
  have g4 := u_and32 L hLb
  rw [← hy1] at g1
  rw [← hy0] at g2
  rw [← hl1] at g3
  rw [← hl0] at g4
  have hYs : Y = y1 * 4294967296 + y0 := by omega
  have by1 : 2147483648 ≤ y1 := by omega
  have by0 : y0 < 4294967296 := by omega
  have bl1 : l1 < 4294967296 := by omega
  have bl0 : l0 < 4294967296 := by omega
  have hLs : U * 18446744073709551616 + L = (U * 4294967296 + l1) * 4294967296 + l0 := by omega
  have hyn : ¬ ((y1 : Int) = 0) := by omega
  have hy1b : y1 < 18446744073709551616 := by omega
  have hUb : U < 18446744073709551616 := by omega
  have hnear := kn_near (u := U) (y1 := y1) (y0 := y0) (by omega) by1 by0
  have hfirst := kn_first (u := U) (un := l1) (y1 := y1) (y0 := y0) (by omega) bl1
  have hrem := kn_rem (u := U) (y1 := y1)
  have hmod : U - U / y1 * y1 < y1 := by
    have := Nat.div_add_mod U y1
    have := Nat.mod_lt U (show 0 < y1 by omega)
    rw [Nat.mul_comm (U / y1)]; omega
  have g5 := u_quo U y1 hUb
  have g6 := u_mul (U / y1) y1 (by omega)
  have g7 := u_sub U (U / y1 * y1) (by omega) hUb
  rw [hLs] at hq
  repeat' first | ((with_reducible (first | refine condD ?_ ?_ | refine condE ?_ ?_ | refine condN ?_ ?_ | refine condI ?_ ?_ | refine condS ?_ ?_)) <;> intro h) | ((with_reducible (first | refine guardD (by with_unfolding_all rfl) ?_ ?_ | refine guardE (by with_unfolding_all rfl) ?_ ?_ | refine guardN (by with_unfolding_all rfl) ?_ ?_ | refine guardI (by with_unfolding_all rfl) ?_ ?_ | refine guardS (by with_unfolding_all rfl) ?_ ?_)) <;> intro h) | ((refine callG hlz ?_)) | (with_reducible refine And.intro ?_ ?_; omega) | (simp only [Z0,Z1,Z2,Z3,Z4,Z5,Z6,Z7,Z8,Z9,Za,Zb,Zc,Zd,Ze,Zf,List.cons.injEq,Zg,Zh,Zi,Zj,Zk,Zl,Zm,Zn,Zo,Zp,beq_self_eq_true,bne_self_eq_false,decide_true,decide_false,Zq,Zr,Zs,Zt,Zu,Zv,Zw,Zx,Zy,Zz,Y0,Y1,Y2,Y3,Y4,Y5,Y6,Y7,Y8,Y9,Ya,Yb,Yc,Yd,Ye,Yf,Yg,Yh,lk,ef,Yi,Yj,Yk,Yl,Ym,Yn,hv,Yo,ev,Yp,Yq,Yr,Ys,Yt,Yu,Yv,Yw,Yx,Yy,Yz,X0,X1,X2,X3,X4,X5,X6,X7,X8,X9,Xa,Xb,Xc,Xd,Xe,Xf,Xg,Xh,Xi,Xj,Xk,Xl,Value.oneCell',Xm,Xn,Xo,Xp,true_and,and_true,and_self,implies_true,Xq,Xr,Xs,Xt,false_implies,Xu,Xv,Xw,Xx,Xy,Xz,W0,W1,W2,W3,W4,W5,W6,W7,W8,W9,Wa,reduceCtorEq,if_true,if_false,Wb,↓reduceIte,Wc,Wd,We,Wf,Wg,Wh,ne_eq,not_false_eq_true,not_true_eq_false,Wi,Wj,r64_0,r64_1,r64_2,r64_3,r64_4,r64_5,r64_6,r64_7,r64_8,r64_9,r64_10,r64_11,r64_12,r64_13,r64_14,r64_15,r64_16,r64_17,r64_18,r64_19,r64_20,r64_21,r64_22,r64_23,r64_24,r64_25,r64_26,r64_27,r64_28,p64,hne,hne2,hne3,hne4,f1,f2,f3,f4,f5,f6,f7,g1,g2,g3,g4,hyn,g5,g6,g7]) | (exfalso; omega)
  clear f1 f2 f3 f4 f5 f6 f7 g1 g2 g3 g4 g5 g6 g7 hne hne2 hne3 hne4 hlz
  obtain ⟨qt, hqt⟩ : ∃ q, q = (U * 4294967296 + l1) / Y := ⟨_, rfl⟩
  obtain ⟨rt, hrt⟩ : ∃ q, q = (U * 4294967296 + l1) % Y := ⟨_, rfl⟩
  obtain ⟨t2, t3⟩ := kn_two (N := U * 4294967296 + l1) (un0 := l0) (y := Y) (by omega)
  rw [← hqt, ← hrt] at t2
  rw [← hrt] at t3
  rw [t2, t3] at hq
  have hrY : rt < Y := by rw [hrt]; exact Nat.mod_lt _ (by omega)
  have hqtb : qt < 4294967296 := by rw [hqt, Nat.div_lt_iff_lt_mul (by omega)]; omega
  rw [← hYs, ← hqt] at hfirst
  have m1 : IntKind.u64.wrap (IntKind.u64.wrap (IntKind.u64.wrap ((U : Int) * 4294967296) + (l1 : Int)) - IntKind.u64.wrap ((qt : Int) * (Y : Int))) = (rt : Int) := by
    rw [u_ring, kn_left hqt, ← hrt]; exact u_wrap (by omega) (by omega)
  have m2 := u_quo rt y1 (by omega)
  have hmod2 : rt - rt / y1 * y1 < y1 := by
    have := Nat.div_add_mod rt y1
    have := Nat.mod_lt rt (show 0 < y1 by omega)
    rw [Nat.mul_comm (rt / y1)]; omega
  have hrem2 := kn_rem (u := rt) (y1 := y1)
  have m3 := u_mul (rt / y1) y1 (by omega)
  have m4 := u_sub rt (rt / y1 * y1) (by omega) (by omega)
  obtain ⟨q0, hq0⟩ : ∃ q, q = (rt * 4294967296 + l0) / Y := ⟨_, rfl⟩
  obtain ⟨r0, hr0⟩ : ∃ q, q = (rt * 4294967296 + l0) % Y := ⟨_, rfl⟩
  rw [← hq0, ← hr0] at hq
  obtain ⟨hqA, hqB⟩ := hq
  refine loopS (fun p : Nat × Nat => mk [(2, .val (.int .u64 Y)), (8, .val (.int .u64 s)), (9, .val (.int .u64 y1)), (10, .val (.int .u64 y0)), (11, .val (.int .u64 U)), (13, .val (.int .u64 l1)), (14, .val (.int .u64 l0)), (15, .val (.int .u64 p.1)), (16, .val (.int .u64 p.2))])
    (fun p => p.1 * y1 + p.2 = U ∧ qt ≤ p.1 ∧ p.1 ≤ 4294967297 ∧ p.2 < 4294967296) (fun p => p.1) (U / y1, U - U / y1 * y1) (weak_mk ?_) ⟨hrem, hfirst, hnear, by simp only; omega⟩ ?_
  · simp only [Wk,Wl,wk1,Wm,Wn,Wo,Z4,Z5,Z6,Z7,Z8,Z9,Za,Zb,Zc,Zd,Ze,Zf,List.cons.injEq,Zg,Zh,Zi,Zj,Zk,Zl,Zm,Zn,Zo,Zp,beq_self_eq_true,bne_self_eq_false,decide_true,decide_false,Zq,Zr,Zs,Zt,Zu,Zv,Zw,Zx,Zy,Zz,Y0,hv,Yo,ev,Yp,Yq,Yr,Ys,Yt,Yu,Yv,Yw,Yx,Yy,Yz,X0,X1,X2,X3,X4,X5,X6,X7,X8,X9,Xa,Xb,Xc,Xd,Xe,Xf,Xg,Xh,Xi,Xj,Xk,Xl,Value.oneCell',Xm,Xn,Xo,Xp,true_and,and_true,and_self,implies_true,Xq,Xr,Xs,Xt,false_implies,Xu,Xv,Xw,Xx,Xy,Xz,W0,W1,W2,W3,W4,W5,W6,W7,W8,W9,Wa,reduceCtorEq,if_true,if_false,Wb,↓reduceIte,Wc,Wd,We,Wf,Wg,Wh,ne_eq,not_false_eq_true,not_true_eq_false,Wi,Nat.zero_ne_one]
  · rintro J hJ ⟨q, r⟩ ⟨i1, i2, i3, i4⟩
    simp only at i1 i2 i3 i4
    have hs1 := kn_small i3 by0
    have k1 := u_mul q y0 (by omega)
    have k2 : IntKind.u64.wrap (4294967296 * (r : Int)) = ((4294967296 * r : Nat) : Int) := by rw [show (4294967296 * (r : Int)) = ((4294967296 * r : Nat) : Int) by omega]; exact u_wrap (by omega) (by omega)
    have k3 := u_add (4294967296 * r) l1 (by omega)
    have hlast : q * y0 ≤ 4294967296 * r + l1 → q = qt := fun hd => by
      rw [hqt, hYs]; exact kn_done (by omega) i1 (by rw [← hYs, ← hqt]; exact i2) hd
    have hcase : (4294967296 ≤ q ∨ 4294967296 * r + l1 < q * y0) ∨ (¬ ((4294967296 : Int) ≤ q) ∧ ¬ (((4294967296 * r + l1 : Nat) : Int) < ((q * y0 : Nat) : Int))) := by omega
    rcases hcase with ht | ⟨hA, hB⟩
    · have hgr := kn_great i1 (by omega) bl1 ht
      rw [← hYs, ← hqt] at hgr
      have k4 : IntKind.u64.wrap ((q : Int) - 1) = ((q - 1 : Nat) : Int) := u_sub q 1 (by omega) (by omega)
      have k5 := u_add r y1 (by omega)
      have hnx := kn_next (show 0 < q by omega) i1
      have ht' : ((4294967296 : Int) ≤ q) ∨ (¬ ((4294967296 : Int) ≤ q) ∧ (((4294967296 * r + l1 : Nat) : Int) < ((q * y0 : Nat) : Int))) := by omega
      by_cases hb : 4294967296 ≤ r + y1
      · have hd := kn_break (q := q - 1) (y0 := y0) (un := l1) (by omega) by0 hb
        have hqq : q - 1 = qt := by
          rw [hqt, hYs]; exact kn_done (by omega) hnx (by rw [← hYs, ← hqt]; omega) hd
        rw [hqq] at k4
        have hb' : (4294967296 : Int) ≤ ((r + y1 : Nat) : Int) := by omega
        clear hJ hd hgr hnx hrem hfirst hnear hmod
        rcases ht' with hA | ⟨hA, hB⟩
        · repeat' first | ((with_reducible (first | refine condD ?_ ?_ | refine condE ?_ ?_ | refine condN ?_ ?_ | refine condI ?_ ?_ | refine condS ?_ ?_)) <;> intro h) | ((with_reducible (first | refine guardD (by with_unfolding_all rfl) ?_ ?_ | refine guardE (by with_unfolding_all rfl) ?_ ?_ | refine guardN (by with_unfolding_all rfl) ?_ ?_ | refine guardI (by with_unfolding_all rfl) ?_ ?_ | refine guardS (by with_unfolding_all rfl) ?_ ?_)) <;> intro h) | (with_reducible refine And.intro ?_ ?_; omega) | (simp only [Z0,Z1,Z2,Z3,Z4,Z5,Z6,Z7,Z8,Z9,Za,Zb,Zc,Zd,Ze,Zf,List.cons.injEq,Zg,Zh,Zi,Zj,Zk,Zl,Zm,Zn,Zo,Zp,beq_self_eq_true,bne_self_eq_false,decide_true,decide_false,Zq,Zr,Zs,Zt,Zu,Zv,Zw,Zx,Zy,Zz,Y0,Y1,Y2,Y3,Y4,Y5,Y6,Y7,Y8,Y9,Ya,Yb,Yc,Yd,Ye,Yf,Yg,Yh,lk,ef,Yi,Yj,Yk,Yl,Ym,Yn,hv,Yo,ev,Yp,Yq,Yr,Ys,Yt,Yu,Yv,Yw,Yx,Yy,Yz,X0,X1,X2,X3,X4,X5,X6,X7,X8,X9,Xa,Xb,Xc,Xd,Xe,Xf,Xg,Xh,Xi,Xj,Xk,Xl,Value.oneCell',Xm,Xn,Xo,Xp,true_and,and_true,and_self,implies_true,Xq,Xr,Xs,Xt,false_implies,Xu,Xv,Xw,Xx,Xy,Xz,W0,W1,W2,W3,W4,W5,W6,W7,W8,W9,Wa,reduceCtorEq,if_true,if_false,Wb,↓reduceIte,Wc,Wd,We,Wf,Wg,Wh,ne_eq,not_false_eq_true,not_true_eq_false,Wi,Wj,r64_0,r64_1,r64_2,r64_3,r64_4,r64_5,r64_6,r64_7,r64_8,r64_9,r64_10,r64_11,r64_12,r64_13,r64_14,r64_15,r64_16,r64_17,r64_18,r64_19,r64_20,r64_21,r64_22,r64_23,r64_24,r64_25,r64_26,r64_27,r64_28,p64,l64_0,hA,hb',hyn,k1,k2,k3,k4,k5,m1,m2,m3,m4]) | (exfalso; omega)
          exact div64_l2 Y s y1 y0 qt rt l0 q0 r0 _ _ hYs by1 by0 bl0 hrY hY2 hq0 hr0 hqA hQ (by omega) hqB rfl (weak_mk (by simp only [Wk,Wl,wk1,Wm,Wn,Wo,Z4,Z5,Z6,Z7,Z8,Z9,Za,Zb,Zc,Zd,Ze,Zf,List.cons.injEq,Zg,Zh,Zi,Zj,Zk,Zl,Zm,Zn,Zo,Zp,beq_self_eq_true,bne_self_eq_false,decide_true,decide_false,Zq,Zr,Zs,Zt,Zu,Zv,Zw,Zx,Zy,Zz,Y0,hv,Yo,ev,Yp,Yq,Yr,Ys,Yt,Yu,Yv,Yw,Yx,Yy,Yz,X0,X1,X2,X3,X4,X5,X6,X7,X8,X9,Xa,Xb,Xc,Xd,Xe,Xf,Xg,Xh,Xi,Xj,Xk,Xl,Value.oneCell',Xm,Xn,Xo,Xp,true_and,and_true,and_self,implies_true,Xq,Xr,Xs,Xt,false_implies,Xu,Xv,Xw,Xx,Xy,Xz,W0,W1,W2,W3,W4,W5,W6,W7,W8,W9,Wa,reduceCtorEq,if_true,if_false,Wb,↓reduceIte,Wc,Wd,We,Wf,Wg,Wh,ne_eq,not_false_eq_true,not_true_eq_false,Wi,Nat.zero_ne_one]))
        · repeat' first | ((with_reducible (first | refine condD ?_ ?_ | refine condE ?_ ?_ | refine condN ?_ ?_ | refine condI ?_ ?_ | refine condS ?_ ?_)) <;> intro h) | ((with_reducible (first | refine guardD (by with_unfolding_all rfl) ?_ ?_ | refine guardE (by with_unfolding_all rfl) ?_ ?_ | refine guardN (by with_unfolding_all rfl) ?_ ?_ | refine guardI (by with_unfolding_all rfl) ?_ ?_ | refine guardS (by with_unfolding_all rfl) ?_ ?_)) <;> intro h) | (with_reducible refine And.intro ?_ ?_; omega) | (simp only [Z0,Z1,Z2,Z3,Z4,Z5,Z6,Z7,Z8,Z9,Za,Zb,Zc,Zd,Ze,Zf,List.cons.injEq,Zg,Zh,Zi,Zj,Zk,Zl,Zm,Zn,Zo,Zp,beq_self_eq_true,bne_self_eq_false,decide_true,decide_false,Zq,Zr,Zs,Zt,Zu,Zv,Zw,Zx,Zy,Zz,Y0,Y1,Y2,Y3,Y4,Y5,Y6,Y7,Y8,Y9,Ya,Yb,Yc,Yd,Ye,Yf,Yg,Yh,lk,ef,Yi,Yj,Yk,Yl,Ym,Yn,hv,Yo,ev,Yp,Yq,Yr,Ys,Yt,Yu,Yv,Yw,Yx,Yy,Yz,X0,X1,X2,X3,X4,X5,X6,X7,X8,X9,Xa,Xb,Xc,Xd,Xe,Xf,Xg,Xh,Xi,Xj,Xk,Xl,Value.oneCell',Xm,Xn,Xo,Xp,true_and,and_true,and_self,implies_true,Xq,Xr,Xs,Xt,false_implies,Xu,Xv,Xw,Xx,Xy,Xz,W0,W1,W2,W3,W4,W5,W6,W7,W8,W9,Wa,reduceCtorEq,if_true,if_false,Wb,↓reduceIte,Wc,Wd,We,Wf,Wg,Wh,ne_eq,not_false_eq_true,not_true_eq_false,Wi,Wj,r64_0,r64_1,r64_2,r64_3,r64_4,r64_5,r64_6,r64_7,r64_8,r64_9,r64_10,r64_11,r64_12,r64_13,r64_14,r64_15,r64_16,r64_17,r64_18,r64_19,r64_20,r64_21,r64_22,r64_23,r64_24,r64_25,r64_26,r64_27,r64_28,p64,l64_0,hA,hB,hb',hyn,k1,k2,k3,k4,k5,m1,m2,m3,m4]) | (exfalso; omega)
          exact div64_l2 Y s y1 y0 qt rt l0 q0 r0 _ _ hYs by1 by0 bl0 hrY hY2 hq0 hr0 hqA hQ (by omega) hqB rfl (weak_mk (by simp only [Wk,Wl,wk1,Wm,Wn,Wo,Z4,Z5,Z6,Z7,Z8,Z9,Za,Zb,Zc,Zd,Ze,Zf,List.cons.injEq,Zg,Zh,Zi,Zj,Zk,Zl,Zm,Zn,Zo,Zp,beq_self_eq_true,bne_self_eq_false,decide_true,decide_false,Zq,Zr,Zs,Zt,Zu,Zv,Zw,Zx,Zy,Zz,Y0,hv,Yo,ev,Yp,Yq,Yr,Ys,Yt,Yu,Yv,Yw,Yx,Yy,Yz,X0,X1,X2,X3,X4,X5,X6,X7,X8,X9,Xa,Xb,Xc,Xd,Xe,Xf,Xg,Xh,Xi,Xj,Xk,Xl,Value.oneCell',Xm,Xn,Xo,Xp,true_and,and_true,and_self,implies_true,Xq,Xr,Xs,Xt,false_implies,Xu,Xv,Xw,Xx,Xy,Xz,W0,W1,W2,W3,W4,W5,W6,W7,W8,W9,Wa,reduceCtorEq,if_true,if_false,Wb,↓reduceIte,Wc,Wd,We,Wf,Wg,Wh,ne_eq,not_false_eq_true,not_true_eq_false,Wi,Nat.zero_ne_one]))
      · have hb' : ¬ ((4294967296 : Int) ≤ ((r + y1 : Nat) : Int)) := by omega
        rcases ht' with hA | ⟨hA, hB⟩
        · repeat' first | ((with_reducible (first | refine condD ?_ ?_ | refine condE ?_ ?_ | refine condN ?_ ?_ | refine condI ?_ ?_ | refine condS ?_ ?_)) <;> intro h) | ((with_reducible (first | refine guardD (by with_unfolding_all rfl) ?_ ?_ | refine guardE (by with_unfolding_all rfl) ?_ ?_ | refine guardN (by with_unfolding_all rfl) ?_ ?_ | refine guardI (by with_unfolding_all rfl) ?_ ?_ | refine guardS (by with_unfolding_all rfl) ?_ ?_)) <;> intro h) | (with_reducible refine And.intro ?_ ?_; omega) | (simp only [Z0,Z1,Z2,Z3,Z4,Z5,Z6,Z7,Z8,Z9,Za,Zb,Zc,Zd,Ze,Zf,List.cons.injEq,Zg,Zh,Zi,Zj,Zk,Zl,Zm,Zn,Zo,Zp,beq_self_eq_true,bne_self_eq_false,decide_true,decide_false,Zq,Zr,Zs,Zt,Zu,Zv,Zw,Zx,Zy,Zz,Y0,Y1,Y2,Y3,Y4,Y5,Y6,Y7,Y8,Y9,Ya,Yb,Yc,Yd,Ye,Yf,Yg,Yh,lk,ef,Yi,Yj,Yk,Yl,Ym,Yn,hv,Yo,ev,Yp,Yq,Yr,Ys,Yt,Yu,Yv,Yw,Yx,Yy,Yz,X0,X1,X2,X3,X4,X5,X6,X7,X8,X9,Xa,Xb,Xc,Xd,Xe,Xf,Xg,Xh,Xi,Xj,Xk,Xl,Value.oneCell',Xm,Xn,Xo,Xp,true_and,and_true,and_self,implies_true,Xq,Xr,Xs,Xt,false_implies,Xu,Xv,Xw,Xx,Xy,Xz,W0,W1,W2,W3,W4,W5,W6,W7,W8,W9,Wa,reduceCtorEq,if_true,if_false,Wb,↓reduceIte,Wc,Wd,We,Wf,Wg,Wh,ne_eq,not_false_eq_true,not_true_eq_false,Wi,Wj,r64_0,r64_1,r64_2,r64_3,r64_4,r64_5,r64_6,r64_7,r64_8,r64_9,r64_10,r64_11,r64_12,r64_13,r64_14,r64_15,r64_16,r64_17,r64_18,r64_19,r64_20,r64_21,r64_22,r64_23,r64_24,r64_25,r64_26,r64_27,r64_28,p64,l64_0,hA,hb',k1,k2,k3,k4,k5]) | (exfalso; omega)
          exact again hJ (q - 1, r + y1) (weak_mk (by simp only [Wk,Wl,wk1,Wm,Wn,Wo,Z4,Z5,Z6,Z7,Z8,Z9,Za,Zb,Zc,Zd,Ze,Zf,List.cons.injEq,Zg,Zh,Zi,Zj,Zk,Zl,Zm,Zn,Zo,Zp,beq_self_eq_true,bne_self_eq_false,decide_true,decide_false,Zq,Zr,Zs,Zt,Zu,Zv,Zw,Zx,Zy,Zz,Y0,hv,Yo,ev,Yp,Yq,Yr,Ys,Yt,Yu,Yv,Yw,Yx,Yy,Yz,X0,X1,X2,X3,X4,X5,X6,X7,X8,X9,Xa,Xb,Xc,Xd,Xe,Xf,Xg,Xh,Xi,Xj,Xk,Xl,Value.oneCell',Xm,Xn,Xo,Xp,true_and,and_true,and_self,implies_true,Xq,Xr,Xs,Xt,false_implies,Xu,Xv,Xw,Xx,Xy,Xz,W0,W1,W2,W3,W4,W5,W6,W7,W8,W9,Wa,reduceCtorEq,if_true,if_false,Wb,↓reduceIte,Wc,Wd,We,Wf,Wg,Wh,ne_eq,not_false_eq_true,not_true_eq_false,Wi,Nat.zero_ne_one])) ⟨hnx, by simp only; omega, by simp only; omega, by simp only; omega⟩ (by simp only; omega)
        · repeat' first | ((with_reducible (first | refine condD ?_ ?_ | refine condE ?_ ?_ | refine condN ?_ ?_ | refine condI ?_ ?_ | refine condS ?_ ?_)) <;> intro h) | ((with_reducible (first | refine guardD (by with_unfolding_all rfl) ?_ ?_ | refine guardE (by with_unfolding_all rfl) ?_ ?_ | refine guardN (by with_unfolding_all rfl) ?_ ?_ | refine guardI (by with_unfolding_all rfl) ?_ ?_ | refine guardS (by with_unfolding_all rfl) ?_ ?_)) <;> intro h) | (with_reducible refine And.intro ?_ ?_; omega) | (simp only [Z0,Z1,Z2,Z3,Z4,Z5,Z6,Z7,Z8,Z9,Za,Zb,Zc,Zd,Ze,Zf,List.cons.injEq,Zg,Zh,Zi,Zj,Zk,Zl,Zm,Zn,Zo,Zp,beq_self_eq_true,bne_self_eq_false,decide_true,decide_false,Zq,Zr,Zs,Zt,Zu,Zv,Zw,Zx,Zy,Zz,Y0,Y1,Y2,Y3,Y4,Y5,Y6,Y7,Y8,Y9,Ya,Yb,Yc,Yd,Ye,Yf,Yg,Yh,lk,ef,Yi,Yj,Yk,Yl,Ym,Yn,hv,Yo,ev,Yp,Yq,Yr,Ys,Yt,Yu,Yv,Yw,Yx,Yy,Yz,X0,X1,X2,X3,X4,X5,X6,X7,X8,X9,Xa,Xb,Xc,Xd,Xe,Xf,Xg,Xh,Xi,Xj,Xk,Xl,Value.oneCell',Xm,Xn,Xo,Xp,true_and,and_true,and_self,implies_true,Xq,Xr,Xs,Xt,false_implies,Xu,Xv,Xw,Xx,Xy,Xz,W0,W1,W2,W3,W4,W5,W6,W7,W8,W9,Wa,reduceCtorEq,if_true,if_false,Wb,↓reduceIte,Wc,Wd,We,Wf,Wg,Wh,ne_eq,not_false_eq_true,not_true_eq_false,Wi,Wj,r64_0,r64_1,r64_2,r64_3,r64_4,r64_5,r64_6,r64_7,r64_8,r64_9,r64_10,r64_11,r64_12,r64_13,r64_14,r64_15,r64_16,r64_17,r64_18,r64_19,r64_20,r64_21,r64_22,r64_23,r64_24,r64_25,r64_26,r64_27,r64_28,p64,l64_0,hA,hB,hb',k1,k2,k3,k4,k5]) | (exfalso; omega)
          exact again hJ (q - 1, r + y1) (weak_mk (by simp only [Wk,Wl,wk1,Wm,Wn,Wo,Z4,Z5,Z6,Z7,Z8,Z9,Za,Zb,Zc,Zd,Ze,Zf,List.cons.injEq,Zg,Zh,Zi,Zj,Zk,Zl,Zm,Zn,Zo,Zp,beq_self_eq_true,bne_self_eq_false,decide_true,decide_false,Zq,Zr,Zs,Zt,Zu,Zv,Zw,Zx,Zy,Zz,Y0,hv,Yo,ev,Yp,Yq,Yr,Ys,Yt,Yu,Yv,Yw,Yx,Yy,Yz,X0,X1,X2,X3,X4,X5,X6,X7,X8,X9,Xa,Xb,Xc,Xd,Xe,Xf,Xg,Xh,Xi,Xj,Xk,Xl,Value.oneCell',Xm,Xn,Xo,Xp,true_and,and_true,and_self,implies_true,Xq,Xr,Xs,Xt,false_implies,Xu,Xv,Xw,Xx,Xy,Xz,W0,W1,W2,W3,W4,W5,W6,W7,W8,W9,Wa,reduceCtorEq,if_true,if_false,Wb,↓reduceIte,Wc,Wd,We,Wf,Wg,Wh,ne_eq,not_false_eq_true,not_true_eq_false,Wi,Nat.zero_ne_one])) ⟨hnx, by simp only; omega, by simp only; omega, by simp only; omega⟩ (by simp only; omega)
    · have hqq := hlast (by omega)
      subst hqq
      repeat' first | ((with_reducible (first | refine condD ?_ ?_ | refine condE ?_ ?_ | refine condN ?_ ?_ | refine condI ?_ ?_ | refine condS ?_ ?_)) <;> intro h) | ((with_reducible (first | refine guardD (by with_unfolding_all rfl) ?_ ?_ | refine guardE (by with_unfolding_all rfl) ?_ ?_ | refine guardN (by with_unfolding_all rfl) ?_ ?_ | refine guardI (by with_unfolding_all rfl) ?_ ?_ | refine guardS (by with_unfolding_all rfl) ?_ ?_)) <;> intro h) | (with_reducible refine And.intro ?_ ?_; omega) | (simp only [Z0,Z1,Z2,Z3,Z4,Z5,Z6,Z7,Z8,Z9,Za,Zb,Zc,Zd,Ze,Zf,List.cons.injEq,Zg,Zh,Zi,Zj,Zk,Zl,Zm,Zn,Zo,Zp,beq_self_eq_true,bne_self_eq_false,decide_true,decide_false,Zq,Zr,Zs,Zt,Zu,Zv,Zw,Zx,Zy,Zz,Y0,Y1,Y2,Y3,Y4,Y5,Y6,Y7,Y8,Y9,Ya,Yb,Yc,Yd,Ye,Yf,Yg,Yh,lk,ef,Yi,Yj,Yk,Yl,Ym,Yn,hv,Yo,ev,Yp,Yq,Yr,Ys,Yt,Yu,Yv,Yw,Yx,Yy,Yz,X0,X1,X2,X3,X4,X5,X6,X7,X8,X9,Xa,Xb,Xc,Xd,Xe,Xf,Xg,Xh,Xi,Xj,Xk,Xl,Value.oneCell',Xm,Xn,Xo,Xp,true_and,and_true,and_self,implies_true,Xq,Xr,Xs,Xt,false_implies,Xu,Xv,Xw,Xx,Xy,Xz,W0,W1,W2,W3,W4,W5,W6,W7,W8,W9,Wa,reduceCtorEq,if_true,if_false,Wb,↓reduceIte,Wc,Wd,We,Wf,Wg,Wh,ne_eq,not_false_eq_true,not_true_eq_false,Wi,Wj,r64_0,r64_1,r64_2,r64_3,r64_4,r64_5,r64_6,r64_7,r64_8,r64_9,r64_10,r64_11,r64_12,r64_13,r64_14,r64_15,r64_16,r64_17,r64_18,r64_19,r64_20,r64_21,r64_22,r64_23,r64_24,r64_25,r64_26,r64_27,r64_28,p64,l64_0,hA,hB,hyn,k1,k2,k3,m1,m2,m3,m4]) | (exfalso; omega)
      exact div64_l2 Y s y1 y0 q rt l0 q0 r0 _ _ hYs by1 by0 bl0 hrY hY2 hq0 hr0 hqA hQ (by omega) hqB rfl (weak_mk (by simp only [Wk,Wl,wk1,Wm,Wn,Wo,Z4,Z5,Z6,Z7,Z8,Z9,Za,Zb,Zc,Zd,Ze,Zf,List.cons.injEq,Zg,Zh,Zi,Zj,Zk,Zl,Zm,Zn,Zo,Zp,beq_self_eq_true,bne_self_eq_false,decide_true,decide_false,Zq,Zr,Zs,Zt,Zu,Zv,Zw,Zx,Zy,Zz,Y0,hv,Yo,ev,Yp,Yq,Yr,Ys,Yt,Yu,Yv,Yw,Yx,Yy,Yz,X0,X1,X2,X3,X4,X5,X6,X7,X8,X9,Xa,Xb,Xc,Xd,Xe,Xf,Xg,Xh,Xi,Xj,Xk,Xl,Value.oneCell',Xm,Xn,Xo,Xp,true_and,and_true,and_self,implies_true,Xq,Xr,Xs,Xt,false_implies,Xu,Xv,Xw,Xx,Xy,Xz,W0,W1,W2,W3,W4,W5,W6,W7,W8,W9,Wa,reduceCtorEq,if_true,if_false,Wb,↓reduceIte,Wc,Wd,We,Wf,Wg,Wh,ne_eq,not_false_eq_true,not_true_eq_false,Wi,Nat.zero_ne_one]))
end Go.Proofs.Ytpecmhdepggnoaa
