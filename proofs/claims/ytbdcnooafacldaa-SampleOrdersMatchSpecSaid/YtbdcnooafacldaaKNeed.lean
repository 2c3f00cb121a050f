/- What is needed to present a span: sample.Needed, Cut, by the machine on data. -/
import Derived.Test.YtbdcnooafacldaaKEnds
namespace Go.Proofs.Ytbdcnooafacldaa
open Go.RowKit
set_option linter.unusedSimpArgs false

def kept (f t s : Int) : List AV := [.val (.int .i64 f), .val (.int .i64 t), .val (.int .i64 s)]
def span (a b : Int) : List AV := [.val (.int .i64 a), .val (.int .i64 b)]
theorem all_span (x : List AV) (h : HasAll [.int .i64, .int .i64] x) : ∃ p : Int × Int, x = span p.1 p.2 ∧ (I64 p.1 ∧ I64 p.2) := by
  obtain ⟨v0, r, rfl, h0, h⟩ := all_cons h
  obtain ⟨v1, r, rfl, h1, h⟩ := all_cons h
  obtain rfl := all_nil h
  obtain ⟨n0, rfl, b0⟩ := has_int h0
  obtain ⟨n1, rfl, b1⟩ := has_int h1
  exact ⟨(n0, n1), rfl, b0, b1⟩
theorem all_kept (x : List AV) (h : HasAll [.int .i64, .int .i64, .int .i64] x) : ∃ p : Int × Int × Int, x = kept p.1 p.2.1 p.2.2 ∧ (I64 p.1 ∧ I64 p.2.1 ∧ I64 p.2.2) := by
  obtain ⟨v0, r, rfl, h0, h⟩ := all_cons h
  obtain ⟨v1, r, rfl, h1, h⟩ := all_cons h
  obtain ⟨v2, r, rfl, h2, h⟩ := all_cons h
  obtain rfl := all_nil h
  obtain ⟨n0, rfl, b0⟩ := has_int h0
  obtain ⟨n1, rfl, b1⟩ := has_int h1
  obtain ⟨n2, rfl, b2⟩ := has_int h2
  exact ⟨(n0, n1, n2), rfl, b0, b1, b2⟩
theorem ones_len' (l : List Int) : (∀ x ∈ l.map oneI, x.length = 1) = True := by
  refine eq_true fun x hx => ?_
  obtain ⟨n, _, rfl⟩ := List.mem_map.1 hx
  rfl
theorem smps_len (l : List Smp) : (∀ x ∈ l.map Smp.av, x.length = 5) = True := by
  refine eq_true fun x hx => ?_
  obtain ⟨n, _, rfl⟩ := List.mem_map.1 hx
  rfl
theorem minOf_is {l : List Int} (h : l ≠ []) : Go.Lib.minOf l ∈ l ∧ ∀ x ∈ l, Go.Lib.minOf l ≤ x := by
  have key : ∀ (r : List Int) (a : Int), (r.foldl min a = a ∨ r.foldl min a ∈ r) ∧ r.foldl min a ≤ a ∧ ∀ x ∈ r, r.foldl min a ≤ x := by
    intro r
    induction r with
    | nil => intro a; simp
    | cons b r ih =>
      intro a
      obtain ⟨h1, h2, h3⟩ := ih (min a b)
      rw [List.foldl_cons]
      refine ⟨?_, by omega, fun x hx => ?_⟩
      · rcases h1 with h1 | h1
        · rw [h1]
          rcases Int.le_total a b with hab | hab
          · left; omega
          · right; rw [show min a b = b by omega]; exact List.mem_cons_self
        · exact .inr (List.mem_cons_of_mem _ h1)
      · rcases List.mem_cons.1 hx with rfl | hx
        · omega
        · exact h3 x hx
  cases l with
  | nil => exact absurd rfl h
  | cons a r =>
    obtain ⟨h1, h2, h3⟩ := key (a :: r) a
    refine ⟨?_, h3⟩
    show (a :: r).foldl min a ∈ a :: r
    rcases h1 with h1 | h1
    · rw [h1]; exact List.mem_cons_self
    · exact h1
theorem maxOf_is {l : List Int} (h : l ≠ []) : Go.Lib.maxOf l ∈ l ∧ ∀ x ∈ l, x ≤ Go.Lib.maxOf l := by
  have key : ∀ (r : List Int) (a : Int), (r.foldl max a = a ∨ r.foldl max a ∈ r) ∧ a ≤ r.foldl max a ∧ ∀ x ∈ r, x ≤ r.foldl max a := by
    intro r
    induction r with
    | nil => intro a; simp
    | cons b r ih =>
      intro a
      obtain ⟨h1, h2, h3⟩ := ih (max a b)
      rw [List.foldl_cons]
      refine ⟨?_, by omega, fun x hx => ?_⟩
      · rcases h1 with h1 | h1
        · rw [h1]
          rcases Int.le_total a b with hab | hab
          · right; rw [show max a b = b by omega]; exact List.mem_cons_self
          · left; omega
        · exact .inr (List.mem_cons_of_mem _ h1)
      · rcases List.mem_cons.1 hx with rfl | hx
        · omega
        · exact h3 x hx
  cases l with
  | nil => exact absurd rfl h
  | cons a r =>
    obtain ⟨h1, h2, h3⟩ := key (a :: r) a
    refine ⟨?_, h3⟩
    show (a :: r).foldl max a ∈ a :: r
    rcases h1 with h1 | h1
    · rw [h1]; exact List.mem_cons_self
    · exact h1

/-- Is sample k presented within the span? -/
def hitP (P E : List Int) (a b : Int) (k : Nat) : Bool := decide ((if P.getD k 0 < a then a else P.getD k 0) < (if b < E.getD k 0 then b else E.getD k 0))
/-- The first and the last one among the first k. -/
def flK (P E : List Int) (a b : Int) : Nat → Int × Int
  | 0 => (-1, -1)
  | k + 1 => if hitP P E a b k then (if (flK P E a b k).1 < 0 then (k : Int) else (flK P E a b k).1, (k : Int)) else flK P E a b k
/-- Back to a Key. -/
def backK (l : List Smp) : Nat → Nat
  | 0 => 0
  | j + 1 => if (l.getD (j + 1) ⟨0, 0, 0, 0, false⟩).key then j + 1 else backK l j
theorem backK_le (l : List Smp) : ∀ j, backK l j ≤ j
  | 0 => Nat.le_refl _
  | j + 1 => by
    have := backK_le l j
    unfold backK; split <;> omega
theorem backK_key (l : List Smp) : ∀ j, 0 < backK l j → (l.getD (backK l j) ⟨0, 0, 0, 0, false⟩).key = true
  | 0, h => by simp [backK] at h
  | j + 1, h => by
    unfold backK at h ⊢
    split
    · assumption
    · rename_i hk
      rw [if_neg hk] at h
      exact backK_key l j h
/-- A Key that lies between is not passed. -/
theorem backK_ge (l : List Smp) (q : Nat) (hq : (l.getD q ⟨0, 0, 0, 0, false⟩).key = true ∨ q = 0) : ∀ j, q ≤ j → q ≤ backK l j
  | 0, h => by omega
  | j + 1, h => by
    unfold backK
    split
    · exact h
    · rename_i hk
      refine backK_ge l q hq j ?_
      rcases hq with hq | rfl
      · have : q ≠ j + 1 := fun e => hk (e ▸ hq)
        omega
      · omega
theorem flK_is (P E : List Int) (a b : Int) : ∀ n, ((flK P E a b n).1 < 0 ∧ ∀ k, k < n → hitP P E a b k = false) ∨
    ∃ f t : Nat, flK P E a b n = ((f : Int), (t : Int)) ∧ f ≤ t ∧ t < n ∧ hitP P E a b f = true ∧ ∀ k, k < n → hitP P E a b k = true → f ≤ k ∧ k ≤ t
  | 0 => .inl ⟨by simp [flK], fun k hk => by omega⟩
  | n + 1 => by
    unfold flK
    cases hh : hitP P E a b n
    · simp only [Bool.false_eq_true, if_false]
      rcases flK_is P E a b n with ⟨h1, h2⟩ | ⟨f, t, e, h1, h2, h3, h4⟩
      · refine .inl ⟨h1, fun k hk => ?_⟩
        by_cases e : k = n
        · rw [e]; exact hh
        · exact h2 k (by omega)
      · refine .inr ⟨f, t, e, h1, by omega, h3, fun k hk hp => ?_⟩
        by_cases e : k = n
        · rw [e, hh] at hp; cases hp
        · exact h4 k (by omega) hp
    · simp only [if_true]
      rcases flK_is P E a b n with ⟨h1, h2⟩ | ⟨f, t, e, h1, h2, h3, h4⟩
      · refine .inr ⟨n, n, by simp [h1], Nat.le_refl _, by omega, hh, fun k hk hp => ?_⟩
        by_cases e : k = n
        · omega
        · rw [h2 k (by omega)] at hp; cases hp
      · refine .inr ⟨f, n, by rw [e]; simp [show ¬ (f : Int) < 0 by omega], by omega, by omega, h3, fun k hk hp => ?_⟩
        by_cases e : k = n
        · omega
        · have := h4 k (by omega) hp; omega
def needG (l : List Smp) (a b : Int) : (Int × Int × Int) × Int :=
  if (flK (presL l) (endsL l) a b l.length).1 < 0 then ((0, 0, 0), 9) else
    ((((backK l (flK (presL l) (endsL l) a b l.length).1.toNat : Nat) : Int), (flK (presL l) (endsL l) a b l.length).2 + 1,
      max 0 (a - Go.Lib.minOf (((presL l).take ((flK (presL l) (endsL l) a b l.length).2.toNat + 1)).drop (backK l (flK (presL l) (endsL l) a b l.length).1.toNat)))), 0)
def needF (l : List Smp) (a b : Int) : (Int × Int × Int) × Int :=
  if smpF l ≠ 0 then ((0, 0, 0), smpF l) else if b ≤ a then ((0, 0, 0), 8) else if noTime a || noTime b then ((0, 0, 0), 1) else needG l a b
def cutF (l : List Smp) (f t : Int) : List Smp × Int :=
  if smpF l ≠ 0 then ([], smpF l) else if f < 0 ∨ t < f ∨ (l.length : Int) < t then ([], 1) else ((l.take t.toNat).drop f.toNat, 0)
end Go.Proofs.Ytbdcnooafacldaa
