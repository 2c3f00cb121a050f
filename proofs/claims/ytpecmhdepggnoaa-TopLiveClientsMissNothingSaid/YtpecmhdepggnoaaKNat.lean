/- Sums and products of machine numbers that stay in their range. -/
import Derived.Test.YtpecmhdepggnoaaKDo
namespace Go.Proofs.Ytpecmhdepggnoaa
open Go.RowKit

theorem i_add (a b : Nat) (h : a + b < 9223372036854775808) : IntKind.i64.wrap ((a : Int) + (b : Int)) = ((a + b : Nat) : Int) := by
  rw [← Int.natCast_add]; exact wrap_in (by omega) (by omega)
theorem i_add1 (a : Nat) (h : a < 9223372036854775807) : IntKind.i64.wrap ((a : Int) + 1) = ((a + 1 : Nat) : Int) := wrap_in (by omega) (by omega)
theorem i_sub1 (a : Nat) (h : 0 < a) (ha : a < 9223372036854775808) : IntKind.i64.wrap ((a : Int) - 1) = ((a - 1 : Nat) : Int) := by
  rw [wrap_in (by omega) (by omega)]; omega
theorem i_sub (a b : Nat) (h : b ≤ a) (ha : a < 9223372036854775808) : IntKind.i64.wrap ((a : Int) - (b : Int)) = ((a - b : Nat) : Int) := by
  rw [← Int.natCast_sub h]; exact wrap_in (by omega) (by omega)
theorem i_mul (a b : Nat) (h : a * b < 9223372036854775808) : IntKind.i64.wrap ((a : Int) * (b : Int)) = ((a * b : Nat) : Int) := by
  rw [← Int.natCast_mul]; exact wrap_in (by omega) (by omega)
theorem i_quo (a b : Nat) (ha : a < 9223372036854775808) : IntKind.i64.wrap ((a : Int).tdiv (b : Int)) = ((a / b : Nat) : Int) := by
  rw [Int.tdiv_eq_ediv_of_nonneg (by omega), ← Int.natCast_ediv]
  have : a / b ≤ a := Nat.div_le_self _ _
  generalize a / b = q at *
  exact wrap_in (by omega) (by omega)
theorem i_quo2 (a : Nat) (ha : a < 9223372036854775808) : IntKind.i64.wrap ((a : Int).tdiv 2) = ((a / 2 : Nat) : Int) := i_quo a 2 ha
theorem beq0_f {f : Int} (h : f ≠ 0) : (f == 0) = false := by simpa using h
theorem bne0_t {f : Int} (h : f ≠ 0) : (f != 0) = true := by simpa using h
theorem getD_lastI {α β : Type} (f : α → β) (l : List α) (c d : β) : (l.map f ++ [c]).getD l.length d = c := by
  rw [List.getD_eq_getElem?_getD, List.getElem?_append_right (by simp)]; simp
theorem nil_or_lastI {α : Type} (l : List α) : l = [] ∨ ∃ pre p, l = pre ++ [p] := by
  rcases List.eq_nil_or_concat l with h | ⟨pre, p, h⟩
  · exact .inl h
  · exact .inr ⟨pre, p, by simpa using h⟩
/-- A list of which the first k elements are turned. -/
def upd {α : Type} (f : α → α) (k : Nat) (l : List α) : List α := (l.take k).map f ++ l.drop k
theorem upd_zero {α : Type} (f : α → α) (l : List α) : upd f 0 l = l := by simp [upd]
theorem upd_all {α : Type} (f : α → α) (l : List α) : upd f l.length l = l.map f := by simp [upd]
theorem upd_len {α : Type} (f : α → α) (k : Nat) (l : List α) : (upd f k l).length = l.length := by
  simp [upd]; omega
theorem upd_get {α : Type} (f : α → α) (k : Nat) (l : List α) (h : k < l.length) : (upd f k l)[k]'(by rw [upd_len]; exact h) = l[k] := by
  unfold upd
  have hk : ((l.take k).map f).length = k := by rw [List.length_map, List.length_take]; omega
  rw [List.getElem_append_right (by omega)]
  simp only [hk, Nat.sub_self, List.getElem_drop, Nat.add_zero]
theorem upd_set {α β : Type} (f : α → α) (g : α → β) (k : Nat) (l : List α) (h : k < l.length) : ((upd f k l).map g).set k (g (f l[k])) = (upd f (k + 1) l).map g := by
  unfold upd
  have hk : (((l.take k).map f).map g).length = k := by rw [List.length_map, List.length_map, List.length_take]; omega
  rw [List.drop_eq_getElem_cons h, List.map_append, List.set_append_right _ _ (by omega), hk, Nat.sub_self, List.take_succ_eq_append_getElem h,
    List.map_cons, List.set_cons_zero, List.map_append, List.map_append, List.map_append, List.append_assoc]
  rfl
/-- The greatest number up to n with a property, 0 if there is none. -/
def lastOf (f : Nat → Bool) : Nat → Nat
  | 0 => 0
  | n + 1 => if f (n + 1) then n + 1 else lastOf f n
theorem lastOf_le (f : Nat → Bool) : ∀ n, lastOf f n ≤ n
  | 0 => Nat.le_refl _
  | n + 1 => by
    unfold lastOf; split
    · exact Nat.le_refl _
    · exact Nat.le_succ_of_le (lastOf_le f n)
theorem lastOf_is (f : Nat → Bool) (h0 : f 0 = true) : ∀ n, f (lastOf f n) = true
  | 0 => h0
  | n + 1 => by
    unfold lastOf; split
    · assumption
    · exact lastOf_is f h0 n
theorem lastOf_max (f : Nat → Bool) : ∀ n j, j ≤ n → f j = true → j ≤ lastOf f n
  | 0, _, h, _ => h
  | n + 1, j, h, hj => by
    unfold lastOf; split
    · exact h
    · rename_i hn
      rcases Nat.lt_or_ge n j with h1 | h1
      · obtain rfl : j = n + 1 := by omega
        exact absurd hj hn
      · exact lastOf_max f n j h1 hj
end Go.Proofs.Ytpecmhdepggnoaa
