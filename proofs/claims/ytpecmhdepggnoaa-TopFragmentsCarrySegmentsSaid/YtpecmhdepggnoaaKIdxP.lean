/- Indexes of segments: the plain law. -/
import Derived.Test.YtpecmhdepggnoaaKPiece
import Derived.Test.YtpecmhdepggnoaaKNat
namespace Go.Proofs.Ytpecmhdepggnoaa
open Go.RowKit
set_option linter.unusedSimpArgs false

/-! ### Numbers as bytes, the most significant one first -/
def beB (n : Nat) : Nat → List Nat
  | 0 => []
  | k + 1 => n / 256 ^ k % 256 :: beB n k
def beV : List Nat → Nat → Nat
  | [], a => a
  | x :: r, a => beV r (a * 256 + x)
theorem beB_len (n : Nat) : ∀ k, (beB n k).length = k
  | 0 => rfl
  | k + 1 => by rw [beB, List.length_cons, beB_len n k]
theorem beB_lt (n : Nat) : ∀ k, ∀ x ∈ beB n k, x < 256
  | 0, x, h => by simp [beB] at h
  | k + 1, x, h => by
    rw [beB] at h
    rcases List.mem_cons.1 h with rfl | h
    · exact Nat.mod_lt _ (by decide)
    · exact beB_lt n k x h
theorem beV_beB (n : Nat) : ∀ (k a : Nat), beV (beB n k) a = a * 256 ^ k + n % 256 ^ k
  | 0, a => by simp [beB, beV]; omega
  | k + 1, a => by
    rw [beB, beV, beV_beB n k, Nat.mod_pow_succ, Nat.pow_succ, Nat.add_mul, Nat.mul_assoc, Nat.mul_comm 256, Nat.mul_comm (n / 256 ^ k % 256)]
    omega
theorem beV_acc : ∀ (l : List Nat) (a : Nat), beV l a = a * 256 ^ l.length + beV l 0
  | [], a => by simp [beV]
  | x :: r, a => by
    rw [beV, beV_acc r, beV, beV_acc r (0 * 256 + x), List.length_cons, Nat.pow_succ, Nat.add_mul, Nat.zero_mul, Nat.zero_add, Nat.mul_assoc, Nat.mul_comm 256]
    omega
theorem beV_lt : ∀ (l : List Nat), (∀ x ∈ l, x < 256) → beV l 0 < 256 ^ l.length
  | [], _ => by simp [beV]
  | x :: r, h => by
    have h1 := beV_lt r fun y hy => h y (by simp [hy])
    have hx := h x (by simp)
    rw [beV, beV_acc, Nat.zero_mul, Nat.zero_add, List.length_cons, Nat.pow_succ]
    have : x * 256 ^ r.length + 256 ^ r.length ≤ 256 * 256 ^ r.length := by
      rw [← Nat.succ_mul]; exact Nat.mul_le_mul_right _ hx
    rw [Nat.mul_comm (256 ^ r.length)]
    omega
theorem beB_beV : ∀ (l : List Nat) (a : Nat), (∀ x ∈ l, x < 256) → beB (beV l a) l.length = l
  | [], _, _ => rfl
  | x :: r, a, h => by
    have hr := fun y hy => h y (List.mem_cons_of_mem x hy)
    have hx := h x (by simp)
    rw [List.length_cons, beB, beV, beB_beV r _ hr]
    congr 1
    have hp : 0 < 256 ^ r.length := Nat.pow_pos (by decide)
    have hlt := beV_lt r hr
    have e : beV r (a * 256 + x) = 256 ^ r.length * (a * 256 + x) + beV r 0 := by rw [beV_acc, Nat.mul_comm]
    rw [e, Nat.mul_add_div hp, Nat.div_eq_of_lt hlt, Nat.add_zero]
    omega

def u64 (n : Int) : Nat := (n % 18446744073709551616).toNat
def s64 (n : Nat) : Int := IntKind.i64.wrap n
theorem wrap_i64 (n : Int) : IntKind.i64.wrap n = if 9223372036854775808 ≤ n % 18446744073709551616 then n % 18446744073709551616 - 18446744073709551616 else n % 18446744073709551616 := by
  have h : IntKind.i64.wrap n = if (IntKind.i64.signed && decide (n % (2 ^ IntKind.i64.bits : Int) ≥ (2 ^ (IntKind.i64.bits - 1) : Int))) = true then n % (2 ^ IntKind.i64.bits : Int) - (2 ^ IntKind.i64.bits : Int) else n % (2 ^ IntKind.i64.bits : Int) := rfl
  have e1 : (2 ^ IntKind.i64.bits : Int) = 18446744073709551616 := by decide
  have e2 : (2 ^ (IntKind.i64.bits - 1) : Int) = 9223372036854775808 := by decide
  rw [h, e1, e2]
  simp [IntKind.signed]
theorem u64_lt (n : Int) : u64 n < 18446744073709551616 := by unfold u64; omega
theorem u64_s64 {n : Nat} (h : n < 18446744073709551616) : u64 (s64 n) = n := by
  unfold u64 s64
  rw [wrap_i64]
  split <;> omega
theorem s64_u64 {n : Int} (h0 : -9223372036854775808 ≤ n) (h1 : n ≤ 9223372036854775807) : s64 (u64 n) = n := by
  unfold u64 s64
  rw [wrap_i64]
  split <;> omega
theorem s64_bd (n : Nat) : -9223372036854775808 ≤ s64 n ∧ s64 n ≤ 9223372036854775807 := by
  unfold s64
  rw [wrap_i64]
  split <;> omega
theorem s64_small {n : Nat} (h : n < 9223372036854775808) : s64 n = n := by
  unfold s64
  rw [wrap_in (by omega) (by omega)]
theorem u64_pos {n : Int} (h0 : 0 ≤ n) (h1 : n ≤ 9223372036854775807) : u64 n = n.toNat := by unfold u64; omega

/-! ### What is wrong with an index -/
def sumB (a b : Int) : Bool := decide (-1000000000000000 ≤ a + b) && decide (a + b ≤ 1000000000000000)
def outIx (s : Seg) : Bool := outB s.number 0 1000000000000000 || !sumB s.beg s.lead || outB s.bytes 0 4294967295 || outB s.len 0 4294967295
def offIx (q s : Seg) : Bool := s.number != IntKind.i64.wrap (q.number + 1) || s.bw != IntKind.i64.wrap (q.bw + q.len)
def ixGo : Option Seg → List Seg → Int
  | _, [] => 0
  | p, s :: r => if outIx s then 1 else if p.any (fun q => offIx q s) then 8 else ixGo (some s) r
def ixF (l : List Seg) (scale : Int) : Int := if noScale scale then 1 else if 1000 < l.length then 2 else ixGo none l
theorem outIx_f {s : Seg} (h : outIx s = false) : 0 ≤ s.number ∧ s.number ≤ 1000000000000000 ∧ -1000000000000000 ≤ s.bnd ∧ s.bnd ≤ 1000000000000000 ∧ 0 ≤ s.bytes ∧ s.bytes ≤ 4294967295 ∧ 0 ≤ s.len ∧ s.len ≤ 4294967295 ∧ s.bw = s.bnd := by
  simp only [outIx, Bool.or_eq_false_iff, Bool.not_eq_false'] at h
  obtain ⟨⟨⟨h1, h2⟩, h3⟩, h4⟩ := h
  have a1 := outB_f h1
  have a3 := outB_f h3
  have a4 := outB_f h4
  simp only [sumB, Bool.and_eq_true, decide_eq_true_eq] at h2
  have : s.bw = s.bnd := by unfold Seg.bw Seg.bnd; exact wrap_in (by omega) (by omega)
  refine ⟨a1.1, a1.2, ?_, ?_, a3.1, a3.2, a4.1, a4.2, this⟩ <;> unfold Seg.bnd <;> omega
theorem ixGo_cons {p : Option Seg} {s : Seg} {r : List Seg} (h : ixGo p (s :: r) = 0) : outIx s = false ∧ p.any (fun q => offIx q s) = false ∧ ixGo (some s) r = 0 := by
  rw [ixGo] at h
  split at h
  · cases h
  · rename_i h1
    split at h
    · cases h
    · rename_i h2
      exact ⟨by simpa using h1, by simpa using h2, h⟩
theorem ixGo_out : ∀ {l : List Seg} {p : Option Seg}, ixGo p l = 0 → ∀ s ∈ l, outIx s = false
  | [], _, _, s, hs => by simp at hs
  | x :: r, p, h, s, hs => by
    obtain ⟨h1, _, h3⟩ := ixGo_cons h
    rcases List.mem_cons.1 hs with rfl | hs
    · exact h1
    · exact ixGo_out h3 s hs
theorem ixF_0 {l : List Seg} {scale : Int} (h : ixF l scale = 0) : noScale scale = false ∧ l.length ≤ 1000 ∧ ixGo none l = 0 := by
  unfold ixF at h
  split at h
  · cases h
  · rename_i h1
    split at h
    · cases h
    · exact ⟨by simpa using h1, by omega, h⟩
/-- A segment as it is read again. -/
def Seg.clean (s : Seg) : Seg := ⟨s.number, 0, 0, s.bnd, s.len, s.bytes, 0⟩
theorem clean_out {s : Seg} (h : outIx s = false) : outIx s.clean = false := by
  obtain ⟨a1, a2, a3, a4, a5, a6, a7, a8, _⟩ := outIx_f h
  have : sumB s.clean.beg s.clean.lead = true := by simp [sumB, Seg.clean]; omega
  have n1 : outB s.clean.number 0 1000000000000000 = false := by show outB s.number 0 1000000000000000 = false; simp [outB]; omega
  have n2 : outB s.clean.bytes 0 4294967295 = false := by show outB s.bytes 0 4294967295 = false; simp [outB]; omega
  have n3 : outB s.clean.len 0 4294967295 = false := by show outB s.len 0 4294967295 = false; simp [outB]; omega
  simp [outIx, this, n1, n2, n3]
theorem clean_bw {s : Seg} (h : outIx s = false) : s.clean.bw = s.bw := by
  obtain ⟨_, _, a3, a4, _, _, _, _, e⟩ := outIx_f h
  rw [e]
  unfold Seg.bw
  have : s.clean.bnd = s.bnd := by simp [Seg.clean, Seg.bnd]
  rw [this]
  exact wrap_in (by omega) (by omega)
theorem clean_go : ∀ {l : List Seg} {p : Option Seg}, (∀ q, p = some q → outIx q = false) → ixGo p l = 0 → ixGo (p.map Seg.clean) (l.map Seg.clean) = 0
  | [], _, _, _ => rfl
  | s :: r, p, hp, h => by
    obtain ⟨h1, h2, h3⟩ := ixGo_cons h
    rw [List.map_cons, ixGo, clean_out h1]
    have h2' : (p.map Seg.clean).any (fun q => offIx q s.clean) = false := by
      cases p with
      | none => rfl
      | some q =>
        have hq := hp q rfl
        simp only [Option.any_some, Option.map_some] at h2 ⊢
        unfold offIx at h2 ⊢
        rw [clean_bw h1, clean_bw hq]
        exact h2
    rw [h2']
    simp only [Bool.false_eq_true, if_false]
    exact clean_go (p := some s) (fun q hq => by injection hq with hq; rw [← hq]; exact h1) h3

/-! ### Written -/
def segB (s : Seg) : List Nat := beB (u64 s.bytes) 4 ++ beB (u64 s.len) 4
def numOf (l : List Seg) : Int := match l with
  | [] => 0
  | s :: _ => s.number
def begOf (l : List Seg) : Int := match l with
  | [] => 0
  | s :: _ => s.bw
def idxB (l : List Seg) (scale : Int) : List Nat := beB (u64 scale) 4 ++ beB (u64 (numOf l)) 8 ++ beB (u64 (begOf l)) 8 ++ beB (u64 l.length) 2 ++ l.flatMap segB
theorem segB_len (s : Seg) : (segB s).length = 8 := by simp [segB, beB_len]
theorem segsB_len (l : List Seg) : (l.flatMap segB).length = 8 * l.length := by
  induction l with
  | nil => rfl
  | cons s r ih => rw [List.flatMap_cons, List.length_append, segB_len, ih, List.length_cons]; omega
theorem idxB_len (l : List Seg) (scale : Int) : (idxB l scale).length = 22 + 8 * l.length := by
  simp only [idxB, List.length_append, beB_len, segsB_len]
theorem idxB_lt (l : List Seg) (scale : Int) : ∀ x ∈ idxB l scale, x < 256 := by
  intro x hx
  simp only [idxB, List.mem_append, List.mem_flatMap, segB] at hx
  rcases hx with (((h | h) | h) | h) | ⟨s, _, h | h⟩ <;> exact beB_lt _ _ _ h

/-! ### Read -/
def tkN (b : List Nat) (at_ : Nat) (bad : Bool) (many : Nat) : Int × Nat × Bool := if bad || decide (b.length < at_ + many) then (0, at_, true) else (s64 (beV ((b.drop at_).take many) 0), at_ + many, false)
def rdGo (b : List Nat) : Nat → Int → Int → Nat → Bool → List Seg → List Seg × Nat × Bool
  | 0, _, _, at_, bad, out => (out, at_, bad)
  | c + 1, num, beg, at_, bad, out => if bad then (out, at_, bad) else
    rdGo b c (IntKind.i64.wrap (num + 1)) (IntKind.i64.wrap (beg + (tkN b (tkN b at_ bad 4).2.1 (tkN b at_ bad 4).2.2 4).1)) (tkN b (tkN b at_ bad 4).2.1 (tkN b at_ bad 4).2.2 4).2.1 (tkN b (tkN b at_ bad 4).2.1 (tkN b at_ bad 4).2.2 4).2.2
      (out ++ [⟨num, 0, 0, beg, (tkN b (tkN b at_ bad 4).2.1 (tkN b at_ bad 4).2.2 4).1, (tkN b at_ bad 4).1, 0⟩])
def rdA (b : List Nat) : Int × Nat × Bool := tkN b 0 false 4
def rdB (b : List Nat) : Int × Nat × Bool := tkN b (rdA b).2.1 (rdA b).2.2 8
def rdC (b : List Nat) : Int × Nat × Bool := tkN b (rdB b).2.1 (rdB b).2.2 8
def rdD (b : List Nat) : Int × Nat × Bool := tkN b (rdC b).2.1 (rdC b).2.2 2
def rdL (b : List Nat) : List Seg × Nat × Bool := rdGo b (rdD b).1.toNat (rdB b).1 (rdC b).1 (rdD b).2.1 (rdD b).2.2 []
/-- The segments, the scale, the place of an error, the error. -/
def rdF (b : List Nat) : List Seg × Int × Int × Int :=
  if 100000 < b.length then ([], 0, 0, 2) else if (rdL b).2.2 || decide ((rdL b).2.1 < b.length) then ([], 0, (rdL b).2.1, 10) else
  if ixF (rdL b).1 (rdA b).1 ≠ 0 then ([], 0, 0, ixF (rdL b).1 (rdA b).1) else
  if (rdD b).1 = 0 ∧ ((rdB b).1 ≠ 0 ∨ (rdC b).1 ≠ 0) then ([], 0, 0, 3) else ((rdL b).1, (rdA b).1, 0, 0)
theorem tkN_ok {pre mid post : List Nat} {k : Nat} (h : mid.length = k) : tkN (pre ++ mid ++ post) pre.length false k = (s64 (beV mid 0), pre.length + k, false) := by
  unfold tkN
  have : decide ((pre ++ mid ++ post).length < pre.length + k) = false := by simp; omega
  rw [this, if_neg (by simp), List.append_assoc, List.drop_left, List.take_left' h]
theorem tkN_be {pre post : List Nat} {n k : Nat} : tkN (pre ++ beB n k ++ post) pre.length false k = (s64 (n % 256 ^ k), pre.length + k, false) := by
  rw [tkN_ok (beB_len n k), beV_beB, Nat.zero_mul, Nat.zero_add]
theorem rdGo_write : ∀ (l : List Seg) (p : Option Seg) (pre : List Nat) (num beg : Int) (out : List Seg), ixGo p l = 0 → (∀ s r, l = s :: r → num = s.number ∧ beg = s.bw) →
    rdGo (pre ++ l.flatMap segB) l.length num beg pre.length false out = (out ++ l.map Seg.clean, pre.length + 8 * l.length, false)
  | [], _, pre, _, _, out, _, _ => by simp [rdGo]
  | s :: r, p, pre, num, beg, out, h, hh => by
    obtain ⟨h1, _, h3⟩ := ixGo_cons h
    obtain ⟨e1, e2⟩ := hh s r rfl
    obtain ⟨a1, a2, a3, a4, a5, a6, a7, a8, a9⟩ := outIx_f h1
    have hb : u64 s.bytes % 256 ^ 4 = s.bytes.toNat := by rw [u64_pos a5 (by omega)]; exact Nat.mod_eq_of_lt (by omega)
    have hl : u64 s.len % 256 ^ 4 = s.len.toNat := by rw [u64_pos a7 (by omega)]; exact Nat.mod_eq_of_lt (by omega)
    have t1 : tkN (pre ++ (s :: r).flatMap segB) pre.length false 4 = (s.bytes, pre.length + 4, false) := by
      have := tkN_be (pre := pre) (post := beB (u64 s.len) 4 ++ r.flatMap segB) (n := u64 s.bytes) (k := 4)
      rw [hb, s64_small (by omega), show ((s.bytes.toNat : Nat) : Int) = s.bytes by omega] at this
      rw [← this, List.flatMap_cons, segB]
      simp only [List.append_assoc]
    have t2 : tkN (pre ++ (s :: r).flatMap segB) (pre.length + 4) false 4 = (s.len, pre.length + 8, false) := by
      have := tkN_be (pre := pre ++ beB (u64 s.bytes) 4) (post := r.flatMap segB) (n := u64 s.len) (k := 4)
      rw [hl, s64_small (by omega), show ((s.len.toNat : Nat) : Int) = s.len by omega] at this
      rw [List.length_append, beB_len] at this
      rw [show pre.length + 8 = pre.length + 4 + 4 by omega, ← this, List.flatMap_cons, segB]
      simp only [List.append_assoc]
    rw [List.length_cons, rdGo, if_neg (by simp), t1]
    simp only
    rw [t2]
    simp only
    have hsplit : pre ++ (s :: r).flatMap segB = (pre ++ segB s) ++ r.flatMap segB := by rw [List.flatMap_cons, List.append_assoc]
    have hpl : pre.length + 8 = (pre ++ segB s).length := by rw [List.length_append, segB_len]
    rw [hsplit, hpl, rdGo_write r (some s) (pre ++ segB s) _ _ _ h3 (fun u v hu => by
      subst hu
      obtain ⟨_, q2, _⟩ := ixGo_cons h3
      simp only [Option.any_some, offIx, Bool.or_eq_false_iff, bne_eq_false_iff_eq] at q2
      rw [e1, e2]
      exact ⟨q2.1.symm, q2.2.symm⟩)]
    have hc : (⟨num, 0, 0, beg, s.len, s.bytes, 0⟩ : Seg) = s.clean := by rw [e1, e2, a9]; rfl
    rw [hc, List.length_append, segB_len, List.map_cons]
    simp only [List.append_assoc, List.cons_append, List.nil_append, Prod.mk.injEq, and_true, true_and]
    try omega
theorem read_written {l : List Seg} {scale : Int} (h : ixF l scale = 0) : rdF (idxB l scale) = (l.map Seg.clean, scale, 0, 0) := by
  obtain ⟨hs, hl, hg⟩ := ixF_0 h
  have bs := outB_f hs
  have hA : rdA (idxB l scale) = (scale, 4, false) := by
    have := tkN_be (pre := []) (post := beB (u64 (numOf l)) 8 ++ beB (u64 (begOf l)) 8 ++ beB (u64 l.length) 2 ++ l.flatMap segB) (n := u64 scale) (k := 4)
    rw [u64_pos (by omega) (by omega), Nat.mod_eq_of_lt (by omega), s64_small (by omega), show ((scale.toNat : Nat) : Int) = scale by omega] at this
    unfold rdA
    rw [show (4 : Nat) = ([] : List Nat).length + 4 from rfl, ← this]
    unfold idxB
    rw [u64_pos (n := scale) (by omega) (by omega)]
    simp only [List.append_assoc, List.nil_append, List.length_nil]
    try rfl
  have big : (256 : Nat) ^ 8 = 18446744073709551616 := by decide
  have hnum : -9223372036854775808 ≤ numOf l ∧ numOf l ≤ 9223372036854775807 := by
    cases l with
    | nil => simp [numOf]
    | cons s r => have := outIx_f (ixGo_cons hg).1; simp only [numOf]; omega
  have hbeg : -9223372036854775808 ≤ begOf l ∧ begOf l ≤ 9223372036854775807 := by
    cases l with
    | nil => simp [begOf]
    | cons s r => have := outIx_f (ixGo_cons hg).1; simp only [begOf]; omega
  have hB : rdB (idxB l scale) = (numOf l, 12, false) := by
    have := tkN_be (pre := beB (u64 scale) 4) (post := beB (u64 (begOf l)) 8 ++ beB (u64 l.length) 2 ++ l.flatMap segB) (n := u64 (numOf l)) (k := 8)
    rw [big, Nat.mod_eq_of_lt (u64_lt _), s64_u64 hnum.1 hnum.2, beB_len] at this
    unfold rdB
    rw [hA]
    simp only
    rw [show (12 : Nat) = 4 + 8 from rfl, ← this]
    unfold idxB
    simp only [List.append_assoc]
  have hC : rdC (idxB l scale) = (begOf l, 20, false) := by
    have := tkN_be (pre := beB (u64 scale) 4 ++ beB (u64 (numOf l)) 8) (post := beB (u64 l.length) 2 ++ l.flatMap segB) (n := u64 (begOf l)) (k := 8)
    rw [big, Nat.mod_eq_of_lt (u64_lt _), s64_u64 hbeg.1 hbeg.2, List.length_append, beB_len, beB_len] at this
    unfold rdC
    rw [hB]
    simp only
    rw [show (20 : Nat) = 4 + 8 + 8 from rfl, ← this]
    unfold idxB
    simp only [List.append_assoc]
  have hD : rdD (idxB l scale) = ((l.length : Int), 22, false) := by
    have := tkN_be (pre := beB (u64 scale) 4 ++ beB (u64 (numOf l)) 8 ++ beB (u64 (begOf l)) 8) (post := l.flatMap segB) (n := u64 l.length) (k := 2)
    have ul : u64 (l.length : Int) = l.length := by rw [u64_pos (by omega) (by omega), Int.toNat_natCast]
    rw [ul, Nat.mod_eq_of_lt (by omega), s64_small (by omega), List.length_append, List.length_append, beB_len, beB_len, beB_len] at this
    unfold rdD
    rw [hC]
    simp only
    rw [show (22 : Nat) = 4 + 8 + 8 + 2 from rfl, ← this]
    unfold idxB
    rw [ul]
  have hL : rdL (idxB l scale) = (l.map Seg.clean, 22 + 8 * l.length, false) := by
    unfold rdL
    rw [hD, hB, hC]
    simp only [Int.toNat_natCast]
    have := rdGo_write l none (beB (u64 scale) 4 ++ beB (u64 (numOf l)) 8 ++ beB (u64 (begOf l)) 8 ++ beB (u64 l.length) 2) (numOf l) (begOf l) [] hg (fun s r e => by subst e; exact ⟨rfl, rfl⟩)
    simp only [List.length_append, beB_len] at this
    rw [List.nil_append] at this
    exact this
  have hix : ixF (l.map Seg.clean) scale = 0 := by
    rw [ixF, hs, if_neg (by simp), if_neg (by rw [List.length_map]; omega)]
    exact clean_go (p := none) (fun q hq => by cases hq) hg
  unfold rdF
  rw [hL, hA, hB, hC, hD]
  simp only
  rw [if_neg (by rw [idxB_len]; omega), if_neg (by rw [idxB_len]; simp), hix, if_neg (by simp), if_neg]
  rintro ⟨q1, q2⟩
  have : l = [] := List.eq_nil_of_length_eq_zero (by omega)
  subst this
  simp [numOf, begOf] at q2
theorem tkN_bad (b : List Nat) (at_ k : Nat) : tkN b at_ true k = (0, at_, true) := by simp [tkN]
theorem tkN_good {b : List Nat} {at_ k : Nat} {bad : Bool} (h : (tkN b at_ bad k).2.2 = false) : bad = false ∧ at_ + k ≤ b.length ∧ tkN b at_ bad k = (s64 (beV ((b.drop at_).take k) 0), at_ + k, false) := by
  unfold tkN at h ⊢
  split at h
  · cases h
  · rename_i q
    simp only [Bool.or_eq_true, decide_eq_true_eq, not_or, Bool.not_eq_true] at q
    refine ⟨q.1, by omega, ?_⟩
    rw [if_neg (by simp [q.1]; omega)]
theorem take_be {b : List Nat} (hb : ∀ x ∈ b, x < 256) {at_ k : Nat} (h : at_ + k ≤ b.length) (hk : k ≤ 8) : beB (u64 (s64 (beV ((b.drop at_).take k) 0))) k = (b.drop at_).take k := by
  have hl : ((b.drop at_).take k).length = k := by rw [List.length_take, List.length_drop]; omega
  have hlt : ∀ x ∈ (b.drop at_).take k, x < 256 := fun x hx => hb x (List.mem_of_mem_drop (List.mem_of_mem_take hx))
  have h1 := beV_lt _ hlt
  rw [hl] at h1
  have h2 : 256 ^ k ≤ 256 ^ 8 := Nat.pow_le_pow_right (by decide) hk
  have h3 : (256 : Nat) ^ 8 = 18446744073709551616 := by decide
  rw [u64_s64 (by omega)]
  have := beB_beV _ 0 hlt
  rw [hl] at this
  exact this
theorem rdGo_bad (b : List Nat) : ∀ (c : Nat) (num beg : Int) (at_ : Nat) (out : List Seg), (rdGo b c num beg at_ true out).2.2 = true
  | 0, _, _, _, _ => rfl
  | c + 1, _, _, _, _ => by simp [rdGo]
theorem drop_split {α : Type} (b : List α) (i j k : Nat) : (b.drop i).take (j + k) = (b.drop i).take j ++ (b.drop (i + j)).take k := by
  rw [List.take_add, List.drop_drop]
theorem rdGo_read {b : List Nat} (hb : ∀ x ∈ b, x < 256) : ∀ (c : Nat) (num beg : Int) (at_ : Nat) (out : List Seg), at_ ≤ b.length → (rdGo b c num beg at_ false out).2.2 = false →
    ∃ l : List Seg, (rdGo b c num beg at_ false out).1 = out ++ l ∧ l.length = c ∧ (rdGo b c num beg at_ false out).2.1 = at_ + 8 * c ∧ at_ + 8 * c ≤ b.length ∧ l.flatMap segB = (b.drop at_).take (8 * c) ∧ ∀ s r, l = s :: r → s.number = num ∧ s.beg = beg ∧ s.lead = 0
  | 0, num, beg, at_, out, hat, _ => ⟨[], by simp [rdGo], rfl, rfl, by omega, by simp, fun s r h => by cases h⟩
  | c + 1, num, beg, at_, out, hat, h => by
    rw [rdGo, if_neg (by simp)] at h ⊢
    have g2 : (tkN b (tkN b at_ false 4).2.1 (tkN b at_ false 4).2.2 4).2.2 = false := by
      cases q : (tkN b (tkN b at_ false 4).2.1 (tkN b at_ false 4).2.2 4).2.2 with
      | false => rfl
      | true => rw [q, rdGo_bad] at h; cases h
    obtain ⟨q1, q2, q3⟩ := tkN_good g2
    obtain ⟨_, p2, p3⟩ := tkN_good q1
    rw [p3] at q2 q3 h ⊢
    simp only at q2 q3 h ⊢
    rw [q3] at h ⊢
    simp only at h ⊢
    obtain ⟨l, r1, r2, r3, r4, r5, r6⟩ := rdGo_read hb c _ _ (at_ + 4 + 4) _ (by omega) h
    refine ⟨⟨num, 0, 0, beg, s64 (beV ((b.drop (at_ + 4)).take 4) 0), s64 (beV ((b.drop at_).take 4) 0), 0⟩ :: l, by rw [r1]; simp, by simp [r2], by rw [r3]; omega, by omega, ?_, fun s r e => by injection e with e _; subst e; exact ⟨rfl, rfl, rfl⟩⟩
    rw [List.flatMap_cons, r5, segB]
    simp only
    rw [take_be hb p2 (by omega), take_be hb q2 (by omega), show 8 * (c + 1) = 4 + (4 + 8 * c) by omega, drop_split, drop_split, List.append_assoc]
theorem written_read {b : List Nat} (hb : ∀ x ∈ b, x < 256) (h : (rdF b).2.2.2 = 0) : ixF (rdF b).1 (rdF b).2.1 = 0 ∧ idxB (rdF b).1 (rdF b).2.1 = b := by
  unfold rdF at h ⊢
  split at h
  · cases h
  split at h
  · cases h
  split at h
  · rename_i q; exact absurd h q
  split at h
  · cases h
  rename_i n1 n2 n3 n4
  rw [if_neg n1, if_neg n2, if_neg n3, if_neg n4]
  simp only
  simp only [ne_eq, Decidable.not_not] at n3
  refine ⟨n3, ?_⟩
  simp only [Bool.or_eq_true, decide_eq_true_eq, not_or, Bool.not_eq_true] at n2
  obtain ⟨nb, na⟩ := n2
  have bad4 : (rdD b).2.2 = false := by
    cases q : (rdD b).2.2 with
    | false => rfl
    | true => unfold rdL at nb; rw [q, rdGo_bad] at nb; cases nb
  obtain ⟨bad3, d2, d3⟩ := tkN_good (show (tkN b (rdC b).2.1 (rdC b).2.2 2).2.2 = false from bad4)
  obtain ⟨bad2, c2, c3⟩ := tkN_good (show (tkN b (rdB b).2.1 (rdB b).2.2 8).2.2 = false from bad3)
  obtain ⟨bad1, b2, b3⟩ := tkN_good (show (tkN b (rdA b).2.1 (rdA b).2.2 8).2.2 = false from bad2)
  obtain ⟨_, a2, a3⟩ := tkN_good (show (tkN b 0 false 4).2.2 = false from bad1)
  change rdA b = _ at a3
  change rdB b = _ at b3
  change rdC b = _ at c3
  change rdD b = _ at d3
  rw [a3] at b2 b3
  rw [b3] at c2 c3
  rw [c3] at d2 d3
  simp only [Nat.zero_add] at a2 a3 b2 b3 c2 c3 d2 d3
  have hlt := beV_lt ((b.drop (4 + 8 + 8)).take 2) fun x hx => hb x (List.mem_of_mem_drop (List.mem_of_mem_take hx))
  have hl2 : ((b.drop (4 + 8 + 8)).take 2).length = 2 := by rw [List.length_take, List.length_drop]; omega
  rw [hl2] at hlt
  have hp : (rdD b).1 = (beV ((b.drop (4 + 8 + 8)).take 2) 0 : Nat) := by rw [d3]; exact s64_small (by omega)
  have hL : (rdL b) = rdGo b (rdD b).1.toNat (rdB b).1 (rdC b).1 (4 + 8 + 8 + 2) false [] := by
    unfold rdL; rw [show (rdD b).2.1 = 4 + 8 + 8 + 2 from by rw [d3], show (rdD b).2.2 = false from by rw [d3]]
  rw [hL] at nb na
  obtain ⟨l, r1, r2, r3, r4, r5, r6⟩ := rdGo_read hb _ _ _ _ [] (by omega) nb
  rw [r3] at na
  rw [← hL] at r1
  rw [r1, List.nil_append]
  have hlen : (l.length : Int) = (rdD b).1 := by rw [r2]; omega
  have hnum : numOf l = (rdB b).1 := by
    cases l with
    | nil =>
      have : ¬ ((rdB b).1 ≠ 0 ∨ (rdC b).1 ≠ 0) := fun q => n4 ⟨by rw [← hlen]; rfl, q⟩
      simp only [not_or, Decidable.not_not] at this
      rw [this.1]; rfl
    | cons s r => exact (r6 s r rfl).1
  have hbeg : begOf l = (rdC b).1 := by
    cases l with
    | nil =>
      have : ¬ ((rdB b).1 ≠ 0 ∨ (rdC b).1 ≠ 0) := fun q => n4 ⟨by rw [← hlen]; rfl, q⟩
      simp only [not_or, Decidable.not_not] at this
      rw [this.2]; rfl
    | cons s r =>
      obtain ⟨_, e1, e2⟩ := r6 s r rfl
      simp only [begOf, Seg.bw, Seg.bnd, e1, e2, Int.add_zero]
      rw [c3]
      have := s64_bd (beV ((b.drop (4 + 8)).take 8) 0)
      exact wrap_in (by simp only; omega) (by simp only; omega)
  unfold idxB
  rw [hnum, hbeg, hlen, r5, hp]
  rw [show (rdB b).1 = s64 (beV ((b.drop 4).take 8) 0) from by rw [b3], show (rdC b).1 = s64 (beV ((b.drop (4 + 8)).take 8) 0) from by rw [c3], show (rdA b).1 = s64 (beV ((b.drop 0).take 4) 0) from by rw [a3]]
  rw [take_be hb (at_ := 0) (by omega) (by omega), take_be hb (at_ := 4) (by omega) (by omega), take_be hb (at_ := 4 + 8) (by omega) (by omega)]
  have hd : beB (u64 ((beV ((b.drop (4 + 8 + 8)).take 2) 0 : Nat) : Int)) 2 = (b.drop (4 + 8 + 8)).take 2 := by
    rw [← s64_small (n := beV ((b.drop (4 + 8 + 8)).take 2) 0) (by omega)]
    exact take_be hb (by omega) (by omega)
  rw [hd]
  have e1 := drop_split b 0 4 8
  have e2 := drop_split b 0 (4 + 8) 8
  have e3 := drop_split b 0 (4 + 8 + 8) 2
  have e4 := drop_split b 0 (4 + 8 + 8 + 2) (8 * (rdD b).1.toNat)
  simp only [Nat.zero_add] at e1 e2 e3 e4
  rw [← hp, ← e1, ← e2, ← e3, ← e4, List.drop_zero]
  exact List.take_of_length_le (by omega)
end Go.Proofs.Ytpecmhdepggnoaa
