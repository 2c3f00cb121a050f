/- Rows of numbers in order, without doubles. -/
import Derived.Test.YtbdcnooafacldaaKSort
import Derived.Test.YtbdcnooafacldaaKGetD
namespace Go.Proofs.Ytbdcnooafacldaa
open Go.RowKit
set_option linter.unusedSimpArgs false

theorem sort_mem {l : List Int} {x : Int} : x ∈ sortI l ↔ x ∈ l := (List.mergeSort_perm l _).mem_iff
/-! ### Compact of a row in order -/
theorem arr_get (l : List Int) (j : Nat) : l.toArray[j]! = l.getD j 0 := by
  by_cases h : j < l.length
  · rw [getElem!_pos _ j (by simpa using h), getD_in h]; simp
  · rw [getElem!_neg _ j (by simpa using h), List.getD_eq_getElem?_getD, List.getElem?_eq_none (by omega)]; rfl
theorem compact_len (l : List Int) : (Go.Lib.compact l).length ≤ l.length := by
  unfold Go.Lib.compact Go.Lib.compactUpTo
  rw [List.length_map]
  exact Nat.le_trans (List.length_filter_le _ _) (by simp)
theorem cu_of (l : List Int) : ∀ m x, x ∈ Go.Lib.compactUpTo l.toArray m → ∃ j, j < m ∧ x = l.getD j 0
  | 0, x, h => by simp [Go.Lib.compactUpTo] at h
  | m + 1, x, h => by
    rw [Go.Lib.compactUpTo_succ, List.mem_append] at h
    rcases h with h | h
    · obtain ⟨j, hj, e⟩ := cu_of l m x h
      exact ⟨j, by omega, e⟩
    · split at h
      · rw [List.mem_singleton, arr_get] at h
        exact ⟨m, by omega, h⟩
      · simp at h
theorem cu_has (l : List Int) : ∀ m j, j < m → l.getD j 0 ∈ Go.Lib.compactUpTo l.toArray m
  | 0, j, h => by omega
  | m + 1, j, h => by
    rw [Go.Lib.compactUpTo_succ, List.mem_append]
    by_cases e : j = m
    · subst e
      by_cases hk : Go.Lib.keeps l.toArray j = true
      · right; rw [if_pos hk, arr_get]; exact List.mem_singleton_self _
      · left
        have : j ≠ 0 ∧ l.getD j 0 = l.getD (j - 1) 0 := by
          simp only [Go.Lib.keeps, decide_eq_true_eq, not_or, arr_get, ne_eq, Decidable.not_not] at hk
          exact hk
        rw [this.2]
        exact cu_has l j (j - 1) (by omega)
    · exact .inl (cu_has l m j (by omega))
theorem compact_mem {l : List Int} {x : Int} : x ∈ Go.Lib.compact l ↔ x ∈ l := by
  unfold Go.Lib.compact
  constructor
  · intro h
    obtain ⟨j, hj, rfl⟩ := cu_of l _ x h
    rw [getD_in hj]; exact List.getElem_mem hj
  · intro h
    obtain ⟨j, hj, rfl⟩ := List.getElem_of_mem h
    rw [← getD_in (d := 0) hj]; exact cu_has l _ j hj
theorem cu_up {l : List Int} (h : l.Pairwise (· ≤ ·)) : ∀ m, m ≤ l.length → (Go.Lib.compactUpTo l.toArray m).Pairwise (· < ·)
  | 0, _ => by simp [Go.Lib.compactUpTo]
  | m + 1, hm => by
    rw [Go.Lib.compactUpTo_succ, List.pairwise_append]
    refine ⟨cu_up h m (by omega), by split <;> simp, fun a ha b hb => ?_⟩
    split at hb
    · rename_i hk
      rw [List.mem_singleton, arr_get] at hb
      subst hb
      obtain ⟨j, hj, rfl⟩ := cu_of l m a ha
      have hne : l.getD m 0 ≠ l.getD (m - 1) 0 := by
        simp only [Go.Lib.keeps, decide_eq_true_eq, arr_get] at hk
        rcases hk with hk | hk
        · omega
        · exact hk
      have le : ∀ i k, i ≤ k → k < l.length → l.getD i 0 ≤ l.getD k 0 := fun i k hik hk => by
        rw [getD_in (show i < l.length by omega), getD_in hk]
        by_cases e : i = k
        · subst e; exact Int.le_refl _
        · exact List.pairwise_iff_getElem.1 h i k (by omega) hk (by omega)
      have h1 := le j (m - 1) (by omega) (by omega)
      have h2 := le (m - 1) m (by omega) (by omega)
      omega
    · simp at hb
theorem compact_up {l : List Int} (h : l.Pairwise (· ≤ ·)) : (Go.Lib.compact l).Pairwise (· < ·) := cu_up h _ (Nat.le_refl _)
theorem sortI_ord (l : List Int) : (sortI l).Pairwise (· ≤ ·) := by
  have := List.pairwise_mergeSort (le := fun x y : Int => decide (x ≤ y)) (fun a b c h1 h2 => by simp at *; omega) (fun a b => by simp; omega) l
  refine this.imp fun h => by simpa using h

end Go.Proofs.Ytbdcnooafacldaa
