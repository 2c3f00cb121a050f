/- The plain law of cut.Choose: the plan from each place, from the last one back, is the best one. -/
namespace Go.Proofs.Ytpkeiabifoipoaa

structure Plan where
  can : Bool
  sum : Int
  many : Int
  next : Int

def sq (d t : Int) : Int := (d - t) * (d - t)
def planCand (x t y : Int) (q : Plan) (k : Nat) : Plan := ⟨true, sq (y - x) t + q.sum, q.many + 1, k⟩
def planNew (p c : Plan) : Bool := !p.can || decide (c.sum < p.sum) || (decide (c.sum = p.sum) && decide (c.many < p.many))
/-- The plan p, or the one over place k, at y, from which q is the best. -/
def planStep (x t : Int) (p : Plan) (y : Int) (q : Plan) (k : Nat) : Plan :=
  if q.can then (if planNew p (planCand x t y q k) then planCand x t y q k else p) else p
def planScan (x t m : Int) : Nat → Plan → List Int → List Plan → Plan
  | k, p, y :: r, q :: s => if y - x ≤ m then planScan x t m (k + 1) (planStep x t p y q k) r s else p
  | _, p, _, _ => p
def planEnd (x fin t m : Int) : Plan := if fin - x ≤ m then ⟨true, sq (fin - x) t, 1, -1⟩ else ⟨false, 0, 0, 0⟩
/-- The best plans from the places on, the first of which has number i. -/
def bests (fin t m : Int) : Nat → List Int → List Plan
  | _, [] => []
  | i, x :: r => planScan x t m (i + 1) (planEnd x fin t m) r (bests fin t m (i + 1) r) :: bests fin t m (i + 1) r
theorem bests_length (fin t m : Int) : ∀ (l : List Int) (i : Nat), (bests fin t m i l).length = l.length
  | [], _ => rfl
  | _ :: r, i => by simp [bests, bests_length fin t m r (i + 1)]

/-! ### It is the best -/
def Better (p : Plan) (s m : Int) : Prop := p.can = true ∧ (p.sum < s ∨ p.sum = s ∧ p.many ≤ m)
theorem step_keeps {x t y : Int} {p q : Plan} {k : Nat} {s m : Int} (h : Better p s m) : Better (planStep x t p y q k) s m := by
  obtain ⟨hc, h⟩ := h
  unfold planStep
  split
  · split
    · rename_i hn
      simp [planNew, hc] at hn
      exact ⟨rfl, by omega⟩
    · exact ⟨hc, h⟩
  · exact ⟨hc, h⟩
theorem step_has {x t y : Int} {p q : Plan} {k : Nat} (hq : q.can = true) : Better (planStep x t p y q k) (sq (y - x) t + q.sum) (q.many + 1) := by
  unfold planStep
  rw [if_pos hq]
  split
  · exact ⟨rfl, .inr ⟨rfl, Int.le_refl _⟩⟩
  · rename_i hn
    have hn' : planNew p (planCand x t y q k) = false := by simpa using hn
    unfold planNew at hn'
    simp only [Bool.or_eq_false_iff, Bool.and_eq_false_iff, decide_eq_false_iff_not, Bool.not_eq_false'] at hn'
    obtain ⟨⟨h1, h2⟩, h3⟩ := hn'
    refine ⟨h1, ?_⟩
    simp only [planCand] at h2 h3
    omega
theorem scan_keeps {x t m : Int} {s c : Int} : ∀ (r : List Int) (q : List Plan) (k : Nat) (p : Plan), Better p s c → Better (planScan x t m k p r q) s c
  | [], _, _, _, h => by simpa [planScan] using h
  | _ :: _, [], _, _, h => by simpa [planScan] using h
  | y :: r, q :: qs, k, p, h => by
    unfold planScan
    split
    · exact scan_keeps r qs _ _ (step_keeps h)
    · exact h
/-- What a choice of places costs: the one at x is the last chosen. -/
def costFrom (fin t m : Int) (sel : Nat → Bool) : Int → Nat → List Int → Option (Int × Int)
  | x, _, [] => if fin - x ≤ m then some (sq (fin - x) t, 1) else none
  | x, i, y :: r => if sel i then (if y - x ≤ m then (costFrom fin t m sel y (i + 1) r).map (fun c => (sq (y - x) t + c.1, c.2 + 1)) else none) else costFrom fin t m sel x (i + 1) r
theorem cost_far {fin t m : Int} {sel : Nat → Bool} : ∀ (r : List Int) (x : Int) (i : Nat), (∀ y ∈ r, m < y - x) → m < fin - x → costFrom fin t m sel x i r = none
  | [], x, i, _, h => by simp [costFrom]; omega
  | y :: r, x, i, hy, h => by
    have h1 := hy y (by simp)
    unfold costFrom
    split
    · rw [if_neg (by omega)]
    · exact cost_far r x (i + 1) (fun z hz => hy z (by simp [hz])) h
theorem scan_best {fin t m : Int} {sel : Nat → Bool} : ∀ (r : List Int) (x : Int) (j : Nat) (p : Plan) (s c : Int), r.Pairwise (· < ·) → (∀ y ∈ r, y < fin) →
    (fin - x ≤ m → Better p (sq (fin - x) t) 1) → costFrom fin t m sel x j r = some (s, c) → Better (planScan x t m j p r (bests fin t m j r)) s c
  | [], x, j, p, s, c, _, _, hp, h => by
    unfold costFrom at h
    split at h
    · rename_i hm
      simp at h
      obtain ⟨rfl, rfl⟩ := h
      simpa [planScan] using hp hm
    · cases h
  | y :: r, x, j, p, s, c, hs, hf, hp, h => by
    have hs' := List.pairwise_cons.1 hs
    unfold costFrom at h
    have hb : bests fin t m j (y :: r) = planScan y t m (j + 1) (planEnd y fin t m) r (bests fin t m (j + 1) r) :: bests fin t m (j + 1) r := rfl
    rw [hb]
    unfold planScan
    by_cases hsel : sel j = true
    · rw [if_pos hsel] at h
      split at h
      · rename_i hym
        rw [if_pos hym]
        rw [Option.map_eq_some_iff] at h
        obtain ⟨⟨s', c'⟩, hc, he⟩ := h
        simp at he
        obtain ⟨rfl, rfl⟩ := he
        have hq := scan_best r y (j + 1) (planEnd y fin t m) s' c' hs'.2 (fun z hz => hf z (by simp [hz])) (fun h => by unfold planEnd; rw [if_pos h]; exact ⟨rfl, .inr ⟨rfl, Int.le_refl _⟩⟩) hc
        refine scan_keeps _ _ _ _ ?_
        obtain ⟨hqc, hq⟩ := hq
        have h2 := step_has (x := x) (t := t) (y := y) (p := p) (k := j) hqc
        obtain ⟨h3, h4⟩ := h2
        exact ⟨h3, by omega⟩
      · cases h
    · rw [if_neg hsel] at h
      by_cases hym : y - x ≤ m
      · rw [if_pos hym]
        exact scan_best r x (j + 1) _ s c hs'.2 (fun z hz => hf z (by simp [hz])) (fun h => step_keeps (hp h)) h
      · rw [cost_far r x (j + 1) (fun z hz => by have := hs'.1 z hz; omega) (by have := hf y (by simp); omega)] at h
        cases h

/-! ### The way along the plans -/
/-- What a plan leads to: the end, or a later place that has a plan. -/
def Leads (i n : Nat) (q : Nat → Plan) (p : Plan) : Prop := p.can = true → (p.next = -1 ∧ p.many = 1) ∨ ∃ k : Nat, i < k ∧ k < n ∧ p.next = k ∧ (q k).can = true ∧ p.many = (q k).many + 1
theorem step_leads {x t y : Int} {p q : Plan} {k i n : Nat} {f : Nat → Plan} (hp : Leads i n f p) (hk : i < k) (hn : k < n) (hq : f k = q) : Leads i n f (planStep x t p y q k) := by
  unfold planStep
  split
  · rename_i hc
    split
    · intro _
      exact .inr ⟨k, hk, hn, rfl, by rw [hq]; exact hc, by rw [hq]; rfl⟩
    · exact hp
  · exact hp
theorem scan_leads {x t m : Int} {i n : Nat} {f : Nat → Plan} : ∀ (r : List Int) (q : List Plan) (k : Nat) (p : Plan), Leads i n f p → i < k → k + q.length = n → (∀ j, (h : j < q.length) → f (k + j) = q[j]) → Leads i n f (planScan x t m k p r q)
  | [], _, _, _, h, _, _, _ => by simpa [planScan] using h
  | _ :: _, [], _, _, h, _, _, _ => by simpa [planScan] using h
  | y :: r, q :: qs, k, p, h, hk, hn, hf => by
    unfold planScan
    split
    · refine scan_leads r qs (k + 1) _ (step_leads h hk (by simp at hn; omega) (hf 0 (by simp))) (by omega) (by simp at hn; omega) (fun j hj => ?_)
      have := hf (j + 1) (by simp; omega)
      rw [show k + 1 + j = k + (j + 1) by omega, this]
      rfl
    · exact h
theorem bests_leads {fin t m : Int} {n : Nat} {f : Nat → Plan} : ∀ (l : List Int) (i : Nat), i + l.length = n → (∀ j, (h : j < (bests fin t m i l).length) → f (i + j) = (bests fin t m i l)[j]) →
    ∀ j, i ≤ j → j < n → Leads j n f (f j)
  | [], i, hn, _, j, h1, h2 => by simp at hn; omega
  | x :: r, i, hn, hf, j, h1, h2 => by
    have htail : ∀ j, (h : j < (bests fin t m (i + 1) r).length) → f (i + 1 + j) = (bests fin t m (i + 1) r)[j] := fun j hj => by
      have := hf (j + 1) (by simp [bests]; exact hj)
      rw [show i + 1 + j = i + (j + 1) by omega, this]
      rfl
    by_cases hj : j = i
    · subst hj
      have h0 := hf 0 (by simp [bests])
      have h0' : f j = planScan x t m (j + 1) (planEnd x fin t m) r (bests fin t m (j + 1) r) := h0
      rw [h0']
      refine scan_leads r _ (j + 1) _ (fun hc => ?_) (by omega) (by rw [bests_length]; simp at hn; omega) htail
      unfold planEnd at hc ⊢
      split
      · exact .inl ⟨rfl, rfl⟩
      · rename_i h; rw [if_neg h] at hc; cases hc
    · exact bests_leads r (i + 1) (by simp at hn; omega) htail j (by omega) h2
/-- The places that are chosen, from number i on. -/
def pathGo (f : Nat → Plan) (l : Nat → Int) : Nat → Int → List Int
  | 0, _ => []
  | c + 1, i => if i < 0 then [] else l i.toNat :: pathGo f l c (f i.toNat).next
theorem path_length {n : Nat} {f : Nat → Plan} {l : Nat → Int} (hl : ∀ j, j < n → Leads j n f (f j)) : ∀ (c i : Nat), n - i ≤ c → i < n → (f i).can = true → ((pathGo f l c i).length : Int) = (f i).many
  | 0, i, hc, hi, _ => by omega
  | c + 1, i, hc, hi, hcan => by
    have h0 : ¬ ((i : Int) < 0) := by omega
    unfold pathGo
    rw [if_neg h0, Int.toNat_natCast]
    rcases hl i hi hcan with ⟨h1, h2⟩ | ⟨k, h1, h2, h3, h4, h5⟩
    · rw [h1, h2]
      cases c <;> simp [pathGo]
    · rw [h3, h5, List.length_cons]
      have := path_length (l := l) hl c k (by omega) h2 h4
      omega
end Go.Proofs.Ytpkeiabifoipoaa
