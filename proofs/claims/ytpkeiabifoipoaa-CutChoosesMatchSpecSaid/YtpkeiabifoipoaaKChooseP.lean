/- cut.Choose: the plain law, over the machine's words. -/
import Derived.Test.YtpkeiabifoipoaaKGrid
import Derived.Test.YtpkeiabifoipoaaRefChooseP
namespace Go.Proofs.Ytpkeiabifoipoaa
open Go.RowKit
set_option linter.unusedSimpArgs false

theorem sq_bd {d t : Int} (h1 : 0 ≤ d) (h2 : d ≤ 50000000) (h3 : 1 ≤ t) (h4 : t ≤ 50000000) : 0 ≤ (d - t) * (d - t) ∧ (d - t) * (d - t) ≤ 2500000000000000 := by
  have h : -50000000 ≤ d - t ∧ d - t ≤ 50000000 := by omega
  generalize d - t = e at h
  obtain ⟨ha, hb⟩ := h
  refine ⟨?_, ?_⟩
  · rcases Int.le_total 0 e with h | h
    · exact Int.mul_nonneg h h
    · have := Int.mul_nonneg (a := -e) (b := -e) (by omega) (by omega)
      rwa [Int.neg_mul_neg] at this
  · rcases Int.le_total 0 e with h | h
    · have := Int.mul_le_mul hb hb h (by omega)
      omega
    · have := Int.mul_le_mul (a := -e) (b := -e) (c := 50000000) (d := 50000000) (by omega) (by omega) (by omega) (by omega)
      rw [Int.neg_mul_neg] at this
      omega

def noPlan : Plan := ⟨false, 0, 0, 0⟩
/-- The best plan from place i. -/
def planAt (fin t m : Int) (l : List Int) (i : Nat) : Plan := (bests fin t m 0 l)[i]?.getD noPlan
def chooseF (l : List Int) (fin sc t m : Int) : Int :=
  if wishF l sc t m ≠ 0 then wishF l sc t m else if noTime fin then 1 else if fin ≤ l[l.length - 1]?.getD 0 then 8 else if 1000000000000 < fin - l[0]?.getD 0 then 1 else if (planAt fin t m l 0).can then 0 else 9
def choosePath (l : List Int) (fin t m : Int) : List Int := pathGo (planAt fin t m l) (fun i => l[i]?.getD 0) l.length 0

theorem bests_drop (fin t m : Int) : ∀ (l : List Int) (i j : Nat), (bests fin t m i l).drop j = bests fin t m (i + j) (l.drop j)
  | _, _, 0 => by simp
  | [], i, j + 1 => by simp [bests]
  | x :: r, i, j + 1 => by simp only [bests, List.drop_succ_cons]; rw [bests_drop fin t m r (i + 1) j, show i + 1 + j = i + (j + 1) by omega]
theorem bests_at (fin t m : Int) (l : List Int) (i : Nat) (hi : i < l.length) : planAt fin t m l i = planScan l[i] t m (i + 1) (planEnd l[i] fin t m) (l.drop (i + 1)) ((bests fin t m 0 l).drop (i + 1)) := by
  have h := bests_drop fin t m l 0 i
  rw [Nat.zero_add, List.drop_eq_getElem_cons hi] at h
  have hb : i < (bests fin t m 0 l).length := by rw [bests_length]; exact hi
  rw [List.drop_eq_getElem_cons hb] at h
  unfold planAt
  rw [List.getElem?_eq_getElem hb, Option.getD_some]
  have h2 := List.head_eq_of_cons_eq h
  rw [h2, bests_drop, Nat.zero_add]

/-! ### Bounds -/
def PlanBd (n : Nat) (p : Plan) : Prop := p.can = true → 0 ≤ p.sum ∧ p.sum ≤ 2500000000000000 * n ∧ 1 ≤ p.many ∧ p.many ≤ n
theorem step_bd {x t y : Int} {p q : Plan} {k n : Nat} (hp : PlanBd (n + 1) p) (hq : PlanBd n q) (h1 : 0 ≤ sq (y - x) t) (h2 : sq (y - x) t ≤ 2500000000000000) : PlanBd (n + 1) (planStep x t p y q k) := by
  unfold planStep
  split
  · rename_i hc
    split
    · intro _
      obtain ⟨a1, a2, a3, a4⟩ := hq hc
      refine ⟨?_, ?_, ?_, ?_⟩ <;> simp only [planCand] <;> omega
    · exact hp
  · exact hp
theorem PlanBd.more {n m : Nat} {p : Plan} (h : PlanBd n p) (hn : n ≤ m) : PlanBd m p := fun hc => by
  obtain ⟨a1, a2, a3, a4⟩ := h hc
  refine ⟨a1, ?_, a3, ?_⟩ <;> omega
theorem scan_bd {x t m : Int} (ht1 : 1 ≤ t) (ht2 : t ≤ 50000000) (hm : m ≤ 50000000) {n : Nat} : ∀ (r : List Int) (q : List Plan) (k : Nat) (p : Plan), (∀ y ∈ r, x < y) → PlanBd (n + 1) p → (∀ p ∈ q, PlanBd n p) → PlanBd (n + 1) (planScan x t m k p r q)
  | [], _, _, _, _, h, _ => by simpa [planScan] using h
  | _ :: _, [], _, _, _, h, _ => by simpa [planScan] using h
  | y :: r, q :: qs, k, p, hx, h, hq => by
    unfold planScan
    split
    · rename_i hy
      have h1 := hx y (by simp)
      obtain ⟨s1, s2⟩ := sq_bd (d := y - x) (t := t) (by omega) (by omega) ht1 ht2
      exact scan_bd ht1 ht2 hm r qs _ _ (fun z hz => hx z (by simp [hz])) (step_bd h (hq q (by simp)) s1 s2) (fun z hz => hq z (by simp [hz]))
    · exact h
theorem bests_bd {fin t m : Int} (ht1 : 1 ≤ t) (ht2 : t ≤ 50000000) (hm : m ≤ 50000000) : ∀ (l : List Int) (i : Nat), l.Pairwise (· < ·) → (∀ x ∈ l, x < fin) → ∀ p ∈ bests fin t m i l, PlanBd l.length p
  | [], _, _, _, p, hp => by simp [bests] at hp
  | x :: r, i, hs, hf, p, hp => by
    have hs' := List.pairwise_cons.1 hs
    have ih := bests_bd ht1 ht2 hm r (i + 1) hs'.2 (fun z hz => hf z (by simp [hz]))
    simp only [bests] at hp
    rcases List.mem_cons.1 hp with rfl | hp
    · refine scan_bd ht1 ht2 hm r _ _ _ hs'.1 (fun hc => ?_) ih
      have hx := hf x (by simp)
      unfold planEnd at hc ⊢
      split
      · obtain ⟨s1, s2⟩ := sq_bd (d := fin - x) (t := t) (by omega) (by omega) ht1 ht2
        have s1' : 0 ≤ sq (fin - x) t := s1
        have s2' : sq (fin - x) t ≤ 2500000000000000 := s2
        refine ⟨s1', ?_, ?_, ?_⟩ <;> simp <;> omega
      · rename_i h; rw [if_neg h] at hc; cases hc
    · exact (ih p hp).more (by simp)

def chooseOut (l : List Int) (fin sc t m : Int) : List Int := if chooseF l fin sc t m = 0 then choosePath l fin t m else []
def chooseSum (l : List Int) (fin sc t m : Int) : Int := if chooseF l fin sc t m = 0 then (planAt fin t m l 0).sum else 0
theorem Up_lt {l : List Int} (h : l.Pairwise (· < ·)) : ∀ a b, (h1 : a < b) → (h2 : b < l.length) → l[a] < l[b] := fun a b h1 h2 => List.pairwise_iff_getElem.1 h a b (by omega) h2 h1
theorem riseGo_pw : ∀ {l : List Int} {p : Option Int}, riseGo p l = 0 → l.Pairwise (· < ·) ∧ ∀ q, p = some q → ∀ x ∈ l, q < x
  | [], _, _ => ⟨List.Pairwise.nil, fun _ _ _ h => by simp at h⟩
  | t :: r, p, h => by
    unfold riseGo at h
    split at h
    · omega
    split at h
    · omega
    rename_i hp
    obtain ⟨h1, h2⟩ := riseGo_pw h
    have hq : ∀ q, p = some q → q < t := fun q e => by subst e; simpa using hp
    refine ⟨List.Pairwise.cons (fun x hx => h2 t rfl x hx) h1, fun q e x hx => ?_⟩
    rcases List.mem_cons.1 hx with rfl | hx
    · exact hq q e
    · exact Int.lt_trans (hq q e) (h2 t rfl x hx)

theorem path_step {f : Nat → Plan} {g : Nat → Int} {n k : Nat} : pathGo f g (n + 1) k = g k :: pathGo f g n (f k).next := by
  rw [pathGo, if_neg (by omega), Int.toNat_natCast]
theorem path_neg {f : Nat → Plan} {g : Nat → Int} {n : Nat} {i : Int} (h : i < 0) : pathGo f g n i = [] := by
  cases n with
  | zero => rfl
  | succ n => rw [pathGo, if_pos h]
/-- The plans that are there when those from k on are known. -/
def plansFrom (l : List Int) (fin t m : Int) (k : Nat) : List Plan := List.replicate k noPlan ++ (bests fin t m 0 l).drop k
theorem plansFrom_length (l : List Int) (fin t m : Int) {k : Nat} (hk : k ≤ l.length) : (plansFrom l fin t m k).length = l.length := by
  unfold plansFrom; rw [List.length_append, List.length_replicate, List.length_drop, bests_length]; omega
theorem plansFrom_drop (l : List Int) (fin t m : Int) {k : Nat} : (plansFrom l fin t m k).drop k = (bests fin t m 0 l).drop k := by
  unfold plansFrom; rw [List.drop_left' (by simp)]
theorem plansFrom_set (l : List Int) (fin t m : Int) {k : Nat} (hk : k < l.length) : (plansFrom l fin t m (k + 1)).set k (planAt fin t m l k) = plansFrom l fin t m k := by
  have hb : k < (bests fin t m 0 l).length := by rw [bests_length]; exact hk
  unfold plansFrom
  rw [List.drop_eq_getElem_cons hb, List.replicate_succ', List.append_assoc, List.set_append_right _ _ (by simp)]
  simp [planAt, List.getElem?_eq_getElem hb]
theorem plansFrom_bd {l : List Int} {fin t m : Int} {n k : Nat} (h : ∀ p ∈ bests fin t m 0 l, PlanBd n p) {j : Nat} (hj : k < j) (h2 : j < (plansFrom l fin t m (k + 1)).length) : PlanBd n (plansFrom l fin t m (k + 1))[j] := by
  have hm : (plansFrom l fin t m (k + 1))[j] ∈ (plansFrom l fin t m (k + 1)).drop (k + 1) :=
    List.mem_iff_getElem.2 ⟨j - (k + 1), by rw [List.length_drop]; omega, by rw [List.getElem_drop]; congr 1; omega⟩
  rw [plansFrom_drop] at hm
  exact h _ (List.mem_of_mem_drop hm)
theorem plansFrom_0 (l : List Int) (fin t m : Int) : plansFrom l fin t m 0 = bests fin t m 0 l := by simp [plansFrom]
theorem plansFrom_n (l : List Int) (fin t m : Int) : plansFrom l fin t m l.length = List.replicate l.length noPlan := by
  unfold plansFrom; rw [List.drop_eq_nil_of_le (by rw [bests_length]; exact Nat.le_refl _), List.append_nil]
def Plan.av (p : Plan) : List AV := [.val (.bool p.can), .val (.int .i64 p.sum), .val (.int .i64 p.many), .val (.int .i64 p.next)]
end Go.Proofs.Ytpkeiabifoipoaa
