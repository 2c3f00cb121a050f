/- The plain law between cut.Choose and the reference's Choose. -/
import Derived.Test.YtpkeiabifoipoaaChooseP
namespace Go.Proofs.Ytpkeiabifoipoaa

/-- The better of a plan and the end's. -/
def mergeE (e : Plan) (a : Plan) : Plan := if planNew a e then e else a
/-- A scan that goes on behind what is too far. -/
def allScan (x t m : Int) : Nat → Plan → List Int → List Plan → Plan
  | k, p, y :: r, q :: s => allScan x t m (k + 1) (if y - x ≤ m then planStep x t p y q k else p) r s
  | _, p, _, _ => p
theorem planNew_iff (p c : Plan) : planNew p c = true ↔ (p.can = true → c.sum < p.sum ∨ (c.sum = p.sum ∧ c.many < p.many)) := by
  unfold planNew; cases p.can <;> simp
theorem merge_cand {e a c : Plan} (he : e.can = true) (hc : c.can = true) (h1 : e.many = 1) (ha : a.can = true → 2 ≤ a.many) (h2 : 2 ≤ c.many) :
    (if planNew (mergeE e a) c then c else mergeE e a) = mergeE e (if planNew a c then c else a) := by
  have iEC := planNew_iff e c
  have iCE := planNew_iff c e
  have iAE := planNew_iff a e
  have iAC := planNew_iff a c
  simp only [he, hc, true_implies] at iEC iCE
  unfold mergeE
  by_cases hA : planNew a e = true <;> by_cases hC : planNew a c = true <;> simp only [hA, hC, if_true, if_false, Bool.false_eq_true]
  · by_cases hB : planNew e c = true <;> by_cases hD : planNew c e = true <;> simp only [hB, hD, if_true, if_false, Bool.false_eq_true]
    · have := iEC.1 hB; have := iCE.1 hD; omega
    · have h3 := fun h => hB (iEC.2 h); have h4 := fun h => hD (iCE.2 h); exfalso; by_cases q1 : c.sum < e.sum
      · exact h3 (.inl q1)
      · exact h4 (by omega)
  · rw [if_neg]
    intro hB
    have := iEC.1 hB
    apply hC; rw [iAC]; intro hac
    have := iAE.1 hA hac
    have := ha hac
    omega
  · rw [if_neg]
    intro hD
    have := iCE.1 hD
    apply hA; rw [iAE]; intro hac
    have := iAC.1 hC hac
    have := ha hac
    omega
theorem step_merge {x t y : Int} {e a q : Plan} {k : Nat} (he : e.can = true) (h1 : e.many = 1) (ha : a.can = true → 2 ≤ a.many) (hq : q.can = true → 1 ≤ q.many) :
    planStep x t (mergeE e a) y q k = mergeE e (planStep x t a y q k) := by
  unfold planStep
  split
  · rename_i hc
    exact merge_cand he rfl h1 ha (by have := hq hc; simp only [planCand]; omega)
  · rfl
theorem step_many {x t y : Int} {a q : Plan} {k : Nat} (ha : a.can = true → 2 ≤ a.many) (hq : q.can = true → 1 ≤ q.many) : (planStep x t a y q k).can = true → 2 ≤ (planStep x t a y q k).many := by
  unfold planStep
  split
  · rename_i hc
    split
    · intro _; have := hq hc; simp only [planCand]; omega
    · exact ha
  · exact ha
theorem all_merge {x t m : Int} {e : Plan} (he : e.can = true) (h1 : e.many = 1) : ∀ (r : List Int) (q : List Plan) (k : Nat) (a : Plan), (a.can = true → 2 ≤ a.many) → (∀ p ∈ q, p.can = true → 1 ≤ p.many) →
    allScan x t m k (mergeE e a) r q = mergeE e (allScan x t m k a r q)
  | [], _, _, _, _, _ => by simp [allScan]
  | _ :: _, [], _, _, _, _ => by simp [allScan]
  | y :: r, q :: qs, k, a, ha, hq => by
    unfold allScan
    split
    · rw [step_merge he h1 ha (hq q (by simp))]
      exact all_merge he h1 r qs _ _ (step_many ha (hq q (by simp))) (fun p hp => hq p (by simp [hp]))
    · exact all_merge he h1 r qs _ _ ha (fun p hp => hq p (by simp [hp]))
theorem all_far {x t m : Int} : ∀ (r : List Int) (q : List Plan) (k : Nat) (p : Plan), (∀ y ∈ r, m < y - x) → allScan x t m k p r q = p
  | [], _, _, _, _ => by simp [allScan]
  | _ :: _, [], _, _, _ => by simp [allScan]
  | y :: r, q :: qs, k, p, h => by
    unfold allScan
    rw [if_neg (by have := h y (by simp); omega)]
    exact all_far r qs _ _ (fun z hz => h z (by simp [hz]))
theorem scan_all {x t m : Int} : ∀ (r : List Int) (q : List Plan) (k : Nat) (p : Plan), r.Pairwise (· < ·) → planScan x t m k p r q = allScan x t m k p r q
  | [], _, _, _, _ => by simp [allScan, planScan]
  | _ :: _, [], _, _, _ => by simp [allScan, planScan]
  | y :: r, q :: qs, k, p, h => by
    have h' := List.pairwise_cons.1 h
    unfold planScan allScan
    by_cases hy : y - x ≤ m
    · rw [if_pos hy, if_pos hy]; exact scan_all r qs _ _ h'.2
    · rw [if_neg hy, if_neg hy, all_far r qs _ _ (fun z hz => by have := h'.1 z hz; omega)]
theorem scan_end {x t m fin : Int} {k : Nat} {r : List Int} {q : List Plan} (hr : r.Pairwise (· < ·)) (hq : ∀ p ∈ q, p.can = true → 1 ≤ p.many) :
    planScan x t m k (planEnd x fin t m) r q = if fin - x ≤ m then mergeE ⟨true, sq (fin - x) t, 1, -1⟩ (allScan x t m k ⟨false, 0, 0, 0⟩ r q) else allScan x t m k ⟨false, 0, 0, 0⟩ r q := by
  rw [scan_all r q k _ hr]
  unfold planEnd
  split
  · rw [← all_merge rfl rfl r q k ⟨false, 0, 0, 0⟩ (by simp) hq]
    rfl
  · rfl
/-- The plan as the reference holds it: n is the number behind the last place. -/
def atN (n : Nat) (p : Plan) : Plan := ⟨p.can, p.sum, p.many, if p.next = -1 then n else p.next⟩
theorem step_atN {x t y : Int} {a q : Plan} {k n : Nat} : planStep x t a y (atN n q) k = planStep x t a y q k := rfl
theorem all_atN {x t m : Int} {n : Nat} : ∀ (r : List Int) (q : List Plan) (k : Nat) (a : Plan), allScan x t m k a r (q.map (atN n)) = allScan x t m k a r q
  | [], _, _, _ => by simp [allScan]
  | _ :: _, [], _, _ => by simp [allScan]
  | y :: r, q :: qs, k, a => by
    simp only [List.map_cons, allScan, step_atN]
    exact all_atN r qs _ _
end Go.Proofs.Ytpkeiabifoipoaa
