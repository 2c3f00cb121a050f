/- Indexes of segments: wide.IsSum, cut.indexFault, appendNumber, IndexBytes, taker.number, ReadIndex, by the machine on data. -/
import Derived.Test.YtpecmhdepggnoaaKDo
import Derived.Test.YtpecmhdepggnoaaKIdxP
import Derived.Test.YtpecmhdepggnoaaKWide
import Derived.Test.YtpecmhdepggnoaaShelf
namespace Go.Proofs.Ytpecmhdepggnoaa
open Go.RowKit
set_option linter.unusedSimpArgs false

theorem wrap_u64 (n : Int) : IntKind.u64.wrap n = n % 18446744073709551616 := by
  have h : IntKind.u64.wrap n = if (IntKind.u64.signed && decide (n % (2 ^ IntKind.u64.bits : Int) ≥ (2 ^ (IntKind.u64.bits - 1) : Int))) = true then n % (2 ^ IntKind.u64.bits : Int) - (2 ^ IntKind.u64.bits : Int) else n % (2 ^ IntKind.u64.bits : Int) := rfl
  have e1 : (2 ^ IntKind.u64.bits : Int) = 18446744073709551616 := by decide
  rw [h, e1]
  simp [IntKind.signed]
theorem conv_u64 (n : Int) : IntKind.u64.wrap n = ((u64 n : Nat) : Int) := by rw [wrap_u64]; unfold u64; omega
def prvG (l : List Seg) (k : Nat) : Option Seg := if k = 0 then none else l[k-1]?
theorem prvG_succ (l : List Seg) (k : Nat) (h : k < l.length) : prvG l (k + 1) = some l[k] := by simp [prvG, h]
def SegI (s : Seg) : Prop := (-9223372036854775808 ≤ s.beg ∧ s.beg ≤ 9223372036854775807) ∧ (-9223372036854775808 ≤ s.lead ∧ s.lead ≤ 9223372036854775807)
def oneU (n : Nat) : List AV := [.val (.int .u8 n)]
theorem wrap_u8 (n : Int) : IntKind.u8.wrap n = n % 256 := by
  have h : IntKind.u8.wrap n = if (IntKind.u8.signed && decide (n % (2 ^ IntKind.u8.bits : Int) ≥ (2 ^ (IntKind.u8.bits - 1) : Int))) = true then n % (2 ^ IntKind.u8.bits : Int) - (2 ^ IntKind.u8.bits : Int) else n % (2 ^ IntKind.u8.bits : Int) := rfl
  have e1 : (2 ^ IntKind.u8.bits : Int) = 256 := by decide
  rw [h, e1]
  simp [IntKind.signed]
theorem bytes_flat (l : List Nat) : ∀ x ∈ l.map oneU, ∀ av ∈ x, av.Flat := fun x hx av h => by
  obtain ⟨s, _, rfl⟩ := List.mem_map.1 hx
  simp only [oneU, List.mem_cons, List.not_mem_nil, or_false] at h
  rw [h]; exact .val _
end Go.Proofs.Ytpecmhdepggnoaa
/- Indexes of segments, read: taker.number, ReadIndex, bytes.Equal, by the machine on data. -/
namespace Go.Proofs.Ytpecmhdepggnoaa
open Go.RowKit
set_option linter.unusedSimpArgs false

theorem or_nat (n x : Nat) (hx : x < 256) : n * 256 ||| x = n * 256 + x := by
  have := Nat.shiftLeft_add_eq_or_of_lt (i := 8) (b := x) (by omega) n
  rw [Nat.shiftLeft_eq] at this
  exact this.symm
theorem ofint_nat (a : Nat) (h : a < 18446744073709551616) : (BitVec.ofInt IntKind.u64.bits ((a : Nat) : Int)).toNat = a := by
  rw [BitVec.ofInt_natCast, BitVec.toNat_ofNat]
  have e : (2 ^ IntKind.u64.bits : Nat) = 18446744073709551616 := by decide
  rw [e]
  exact Nat.mod_eq_of_lt h
theorem or_byte (n x : Nat) (hn : n * 256 + 255 < 18446744073709551616) (hx : x < 256) : IntKind.u64.wrap ((BitVec.ofInt IntKind.u64.bits ((n * 256 : Nat) : Int) ||| BitVec.ofInt IntKind.u64.bits ((x : Nat) : Int)).toNat : Int) = ((n * 256 + x : Nat) : Int) := by
  have h1 : n * 256 < 18446744073709551616 := Nat.lt_of_le_of_lt (Nat.le_add_right _ _) hn
  have h2 : x < 18446744073709551616 := Nat.lt_trans hx (by decide)
  rw [BitVec.toNat_or, ofint_nat (n * 256) h1, ofint_nat x h2, or_nat n x hx, wrap_u64]
  omega
theorem sh8 (n : Nat) (hn : n * 256 < 18446744073709551616) : IntKind.u64.wrap ((n : Int) * 2 ^ min 8 IntKind.u64.bits) = ((n * 256 : Nat) : Int) := by
  have e : (2 : Int) ^ min 8 IntKind.u64.bits = 256 := by decide
  rw [e, wrap_u64]
  omega
theorem tkN_at {b : List Nat} {at_ k : Nat} {bad : Bool} (h : at_ ≤ b.length) : (tkN b at_ bad k).2.1 ≤ b.length := by
  unfold tkN
  split
  · exact h
  · rename_i q
    simp only [Bool.or_eq_true, decide_eq_true_eq, not_or] at q
    simp only
    omega
theorem tkN_bd (b : List Nat) (at_ k : Nat) (bad : Bool) : -9223372036854775808 ≤ (tkN b at_ bad k).1 ∧ (tkN b at_ bad k).1 ≤ 9223372036854775807 := by
  unfold tkN
  split
  · simp
  · exact s64_bd _
theorem tkN_two {b : List Nat} (hb : ∀ x ∈ b, x < 256) (at_ : Nat) (bad : Bool) : 0 ≤ (tkN b at_ bad 2).1 ∧ (tkN b at_ bad 2).1 ≤ 65535 := by
  unfold tkN
  split
  · simp
  · have hlt := beV_lt ((b.drop at_).take 2) fun x hx => hb x (List.mem_of_mem_drop (List.mem_of_mem_take hx))
    have hl : ((b.drop at_).take 2).length ≤ 2 := List.length_take_le _ _
    have h2 : 256 ^ ((b.drop at_).take 2).length ≤ 256 ^ 2 := Nat.pow_le_pow_right (by decide) hl
    simp only
    rw [s64_small (by omega)]
    omega
theorem beV_snoc (l : List Nat) (x a : Nat) : beV (l ++ [x]) a = beV l a * 256 + x := by
  induction l generalizing a with
  | nil => rfl
  | cons y r ih => rw [List.cons_append, beV, ih, beV]
end Go.Proofs.Ytpecmhdepggnoaa
