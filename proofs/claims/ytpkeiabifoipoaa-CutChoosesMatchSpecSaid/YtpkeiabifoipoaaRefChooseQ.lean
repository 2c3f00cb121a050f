/- The reference's arrays: what a scan for one place gives is the plan of cut.Choose. -/
import Derived.Test.YtpkeiabifoipoaaRefChooseP
import Derived.Test.YtpkeiabifoipoaaKChooseP
namespace Go.Proofs.Ytpkeiabifoipoaa

/-- The plan from the end. -/
def endPlan : Plan := ⟨true, 0, 0, 0⟩
theorem all_snoc {x t m fin : Int} {e : Plan} : ∀ (r : List Int) (q : List Plan) (k : Nat) (p : Plan), r.length = q.length →
    allScan x t m k p (r ++ [fin]) (q ++ [e]) = if fin - x ≤ m then planStep x t (allScan x t m k p r q) fin e (k + r.length) else allScan x t m k p r q
  | [], [], k, p, _ => by simp [allScan]
  | _ :: _, [], _, _, h => by simp at h
  | [], _ :: _, _, _, h => by simp at h
  | y :: r, q :: qs, k, p, h => by
    simp only [List.cons_append, allScan]
    rw [all_snoc r qs _ _ (by simpa using h)]
    rw [show k + (y :: r).length = k + 1 + r.length by simp; omega]
theorem step_next {x t y : Int} {a q : Plan} {k : Nat} (h : a.next ≠ -1) : (planStep x t a y q k).next ≠ -1 := by
  unfold planStep
  split
  · split
    · simp only [planCand]; omega
    · exact h
  · exact h
theorem all_next {x t m : Int} : ∀ (r : List Int) (q : List Plan) (k : Nat) (a : Plan), a.next ≠ -1 → (allScan x t m k a r q).next ≠ -1
  | [], _, _, _, h => by simpa [allScan] using h
  | _ :: _, [], _, _, h => by simpa [allScan] using h
  | y :: r, q :: qs, k, a, h => by
    unfold allScan
    split
    · exact all_next r qs _ _ (step_next h)
    · exact all_next r qs _ _ h
theorem atN_id {n : Nat} {p : Plan} (h : p.next ≠ -1) : atN n p = p := by unfold atN; rw [if_neg h]
/-- All the plans as the reference has them. -/
def refPlans (l : List Int) (fin t m : Int) : List Plan := (bests fin t m 0 l).map (atN l.length) ++ [endPlan]
theorem refPlans_length (l : List Int) (fin t m : Int) : (refPlans l fin t m).length = l.length + 1 := by simp [refPlans, bests_length]
theorem ref_at {l : List Int} {fin t m : Int} {i : Nat} (hi : i < l.length) (hs : l.Pairwise (· < ·)) (hm : ∀ p ∈ bests fin t m 0 l, p.can = true → 1 ≤ p.many) :
    allScan l[i] t m (i + 1) noPlan ((l ++ [fin]).drop (i + 1)) ((refPlans l fin t m).drop (i + 1)) = atN l.length (planAt fin t m l i) := by
  have hlb : (bests fin t m 0 l).length = l.length := bests_length _ _ _ _ _
  unfold refPlans
  rw [List.drop_append_of_le_length (by omega), List.drop_append_of_le_length (by simp; omega), all_snoc _ _ _ _ (by simp [hlb]), ← List.map_drop, all_atN, bests_at fin t m l i hi,
    scan_end (List.Pairwise.sublist (List.drop_sublist _ _) hs) (fun p hp => hm p (List.mem_of_mem_drop hp))]
  have hn := all_next (x := l[i]) (t := t) (m := m) (l.drop (i + 1)) ((bests fin t m 0 l).drop (i + 1)) (i + 1) ⟨false, 0, 0, 0⟩ (by simp)
  have hk : i + 1 + (l.drop (i + 1)).length = l.length := by simp; omega
  rw [hk, show noPlan = ⟨false, 0, 0, 0⟩ from rfl]
  generalize allScan l[i] t m (i + 1) ⟨false, 0, 0, 0⟩ (l.drop (i + 1)) ((bests fin t m 0 l).drop (i + 1)) = a at hn ⊢
  split
  · unfold planStep mergeE
    rw [if_pos (show endPlan.can = true from rfl)]
    have e1 : planNew a (planCand l[i] t fin endPlan l.length) = planNew a ⟨true, sq (fin - l[i]) t, 1, -1⟩ := by
      unfold planNew planCand endPlan; simp
    rw [e1]
    split
    · simp [atN, planCand, endPlan]
    · exact (atN_id hn).symm
  · exact (atN_id hn).symm
end Go.Proofs.Ytpkeiabifoipoaa
