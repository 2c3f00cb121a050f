/- Sorting by insertion: the plain law. -/
import Derived.Test.YtlpbnpmmndcleaaKEdges
namespace Go.Proofs.Ytlpbnpmmndcleaa
open Go.RowKit
set_option linter.unusedSimpArgs false

def posK (out : List Int) (x : Int) : Nat → Nat
  | 0 => 0
  | k + 1 => if x < out.getD k 0 then posK out x k else k + 1
def insK (out : List Int) (x : Int) : List Int := out.take (posK out x out.length) ++ [x] ++ out.drop (posK out x out.length)
def srK (l : List Int) : Nat → List Int
  | 0 => []
  | k + 1 => insK (srK l k) (l.getD k 0)
theorem posK_le (out : List Int) (x : Int) : ∀ k, posK out x k ≤ k
  | 0 => Nat.le_refl _
  | k + 1 => by
    have := posK_le out x k
    unfold posK; split <;> omega
theorem posK_above (out : List Int) (x : Int) : ∀ k j, posK out x k ≤ j → j < k → x < out.getD j 0
  | 0, j, _, h => by omega
  | k + 1, j, h1, h2 => by
    unfold posK at h1
    split at h1
    · rename_i hx
      by_cases e : j = k
      · subst e; exact hx
      · exact posK_above out x k j h1 (by omega)
    · omega
theorem posK_below (out : List Int) (x : Int) : ∀ k, 0 < posK out x k → out.getD (posK out x k - 1) 0 ≤ x
  | 0, h => by simp [posK] at h
  | k + 1, h => by
    unfold posK at h ⊢
    split
    · rename_i hx
      rw [if_pos hx] at h
      exact posK_below out x k h
    · rename_i hx
      rw [Nat.add_sub_cancel]; omega
theorem insK_perm (out : List Int) (x : Int) : (insK out x).Perm (x :: out) := by
  unfold insK
  generalize posK out x out.length = k
  have h : out.take k ++ out.drop k = out := List.take_append_drop k out
  calc (out.take k ++ [x] ++ out.drop k).Perm ([x] ++ out.take k ++ out.drop k) := (List.perm_append_comm (l₁ := out.take k) (l₂ := [x])).append_right _
    _ = x :: (out.take k ++ out.drop k) := by simp
    _ = x :: out := by rw [h]
theorem insK_len (out : List Int) (x : Int) : (insK out x).length = out.length + 1 := by rw [(insK_perm out x).length_eq]; rfl
theorem insK_up {out : List Int} (x : Int) (h : out.Pairwise (· ≤ ·)) : (insK out x).Pairwise (· ≤ ·) := by
  have hle := posK_le out x out.length
  have ha := posK_above out x out.length
  have hb := posK_below out x out.length
  unfold insK
  generalize posK out x out.length = k at *
  have low : ∀ a ∈ out.take k, a ≤ x := fun a hm => by
    obtain ⟨i, hi, rfl⟩ := List.getElem_of_mem hm
    rw [List.length_take] at hi
    rw [List.getElem_take]
    have h1 := hb (by omega)
    rw [getD_in (show k - 1 < out.length by omega)] at h1
    by_cases e : i = k - 1
    · subst e; exact h1
    · exact Int.le_trans (List.pairwise_iff_getElem.1 h i (k - 1) (by omega) (by omega) (by omega)) h1
  have high : ∀ a ∈ out.drop k, x ≤ a := fun a hm => by
    obtain ⟨i, hi, rfl⟩ := List.getElem_of_mem hm
    rw [List.length_drop] at hi
    rw [List.getElem_drop]
    have h1 := ha (k + i) (by omega) (by omega)
    rw [getD_in (show k + i < out.length by omega)] at h1
    omega
  clear ha hb
  rw [List.pairwise_append, List.pairwise_append]
  refine ⟨⟨h.take, List.pairwise_singleton _ _, fun a ha b hb => ?_⟩, h.drop, fun a ha b hb => ?_⟩
  · rw [List.mem_singleton] at hb; subst hb; exact low a ha
  · rw [List.mem_append, List.mem_singleton] at ha
    rcases ha with ha | rfl
    · exact Int.le_trans (low a ha) (high b hb)
    · exact high b hb
theorem srK_perm (l : List Int) : ∀ k, k ≤ l.length → (srK l k).Perm (l.take k)
  | 0, _ => by simp [srK]
  | k + 1, h => by
    have hlt : k < l.length := by omega
    rw [srK, List.take_succ_eq_append_getElem hlt, getD_in hlt]
    refine (insK_perm _ _).trans (((srK_perm l k (by omega)).cons _).trans ?_)
    exact (List.perm_append_comm (l₁ := [l[k]]) (l₂ := l.take k))
theorem srK_up (l : List Int) : ∀ k, (srK l k).Pairwise (· ≤ ·)
  | 0 => List.Pairwise.nil
  | k + 1 => insK_up _ (srK_up l k)
theorem sortI_up' (l : List Int) : (sortI l).Pairwise (· ≤ ·) := by
  have := List.pairwise_mergeSort (le := fun x y : Int => decide (x ≤ y)) (fun a b c h1 h2 => by simp at *; omega) (fun a b => by simp; omega) l
  refine this.imp fun h => by simpa using h
theorem up_uniq {a b : List Int} (ha : a.Pairwise (· ≤ ·)) (hb : b.Pairwise (· ≤ ·)) (h : a.Perm b) : a = b :=
  List.Perm.eq_of_pairwise (le := (· ≤ ·)) (fun x y _ _ h1 h2 => by omega) ha hb h
theorem srK_all (l : List Int) : srK l l.length = sortI l := by
  refine up_uniq (srK_up l _) (sortI_up' l) ?_
  have := srK_perm l l.length (Nat.le_refl _)
  rw [List.take_length] at this
  exact this.trans (List.mergeSort_perm l _).symm
theorem srK_len (l : List Int) : ∀ k, (srK l k).length = k
  | 0 => rfl
  | k + 1 => by rw [srK, insK_len, srK_len l k]
theorem ones_len (l : List Int) : (∀ x ∈ l.map oneI, x.length = 1) = True := by
  refine eq_true fun x hx => ?_
  obtain ⟨n, _, rfl⟩ := List.mem_map.1 hx
  rfl
end Go.Proofs.Ytlpbnpmmndcleaa
