/- cut.Choose: the boundaries that are chosen. -/
import Derived.Test.YtpkeiabifoipoaaPlan
import Derived.Test.YtpkeiabifoipoaaRow
namespace Go.Proofs.Ytpkeiabifoipoaa
open Go.RowKit
attribute [local go_sem] cell_grow frozen_grow cell_growBut frozen_growBut

def noPlan : Plan := ⟨false, 0, 0, 0⟩
/-- The best plan from place i. -/
def planAt (fin t m : Int) (l : List Int) (i : Nat) : Plan := (bests fin t m 0 l)[i]?.getD noPlan
def chooseF (l : List Int) (fin sc t m : Int) : Int :=
  if wishF l sc t m ≠ 0 then wishF l sc t m else if noTime fin then 1 else if fin ≤ l[l.length - 1]?.getD 0 then 8 else if 1000000000000 < fin - l[0]?.getD 0 then 1 else if (planAt fin t m l 0).can then 0 else 9
def choosePath (l : List Int) (fin t m : Int) : List Int := pathGo (planAt fin t m l) (fun i => l[i]?.getD 0) l.length 0

theorem bests_drop (fin t m : Int) : ∀ (l : List Int) (i j : Nat), (bests fin t m i l).drop j = bests fin t m (i + j) (l.drop j)
  | _, _, 0 => by simp
  | [], i, j + 1 => by simp [bests]
  | x :: r, i, j + 1 => by simp only [bests, List.drop_succ_cons]; rw [bests_drop fin t m r (i + 1) j, show i + 1 + j = i + (j + 1) by omega]
theorem bests_at (fin t m : Int) (l : List Int) (i : Nat) (hi : i < l.length) : planAt fin t m l i = planScan l[i] t m (i + 1) (planEnd l[i] fin t m) (l.drop (i + 1)) ((bests fin t m 0 l).drop (i + 1)) := by
  have h := bests_drop fin t m l 0 i
  rw [Nat.zero_add, List.drop_eq_getElem_cons hi] at h
  have hb : i < (bests fin t m 0 l).length := by rw [bests_length]; exact hi
  rw [List.drop_eq_getElem_cons hb] at h
  unfold planAt
  rw [List.getElem?_eq_getElem hb, Option.getD_some]
  have h2 := List.head_eq_of_cons_eq h
  rw [h2, bests_drop, Nat.zero_add]

/-! ### Bounds -/
def PlanBd (n : Nat) (p : Plan) : Prop := p.can = true → 0 ≤ p.sum ∧ p.sum ≤ 2500000000000000 * n ∧ 1 ≤ p.many ∧ p.many ≤ n
theorem step_bd {x t y : Int} {p q : Plan} {k n : Nat} (hp : PlanBd (n + 1) p) (hq : PlanBd n q) (h1 : 0 ≤ sq (y - x) t) (h2 : sq (y - x) t ≤ 2500000000000000) : PlanBd (n + 1) (planStep x t p y q k) := by
  unfold planStep
  split
  · rename_i hc
    split
    · intro _
      obtain ⟨a1, a2, a3, a4⟩ := hq hc
      refine ⟨?_, ?_, ?_, ?_⟩ <;> simp only [planCand] <;> omega
    · exact hp
  · exact hp
theorem PlanBd.more {n m : Nat} {p : Plan} (h : PlanBd n p) (hn : n ≤ m) : PlanBd m p := fun hc => by
  obtain ⟨a1, a2, a3, a4⟩ := h hc
  refine ⟨a1, ?_, a3, ?_⟩ <;> omega
theorem scan_bd {x t m : Int} (ht1 : 1 ≤ t) (ht2 : t ≤ 50000000) (hm : m ≤ 50000000) {n : Nat} : ∀ (r : List Int) (q : List Plan) (k : Nat) (p : Plan), (∀ y ∈ r, x < y) → PlanBd (n + 1) p → (∀ p ∈ q, PlanBd n p) → PlanBd (n + 1) (planScan x t m k p r q)
  | [], _, _, _, _, h, _ => by simpa [planScan] using h
  | _ :: _, [], _, _, _, h, _ => by simpa [planScan] using h
  | y :: r, q :: qs, k, p, hx, h, hq => by
    unfold planScan
    split
    · rename_i hy
      have h1 := hx y (by simp)
      obtain ⟨s1, s2⟩ := sq_bd (d := y - x) (t := t) (by omega) (by omega) ht1 ht2
      exact scan_bd ht1 ht2 hm r qs _ _ (fun z hz => hx z (by simp [hz])) (step_bd h (hq q (by simp)) s1 s2) (fun z hz => hq z (by simp [hz]))
    · exact h
theorem bests_bd {fin t m : Int} (ht1 : 1 ≤ t) (ht2 : t ≤ 50000000) (hm : m ≤ 50000000) : ∀ (l : List Int) (i : Nat), l.Pairwise (· < ·) → (∀ x ∈ l, x < fin) → ∀ p ∈ bests fin t m i l, PlanBd l.length p
  | [], _, _, _, p, hp => by simp [bests] at hp
  | x :: r, i, hs, hf, p, hp => by
    have hs' := List.pairwise_cons.1 hs
    have ih := bests_bd ht1 ht2 hm r (i + 1) hs'.2 (fun z hz => hf z (by simp [hz]))
    simp only [bests] at hp
    rcases List.mem_cons.1 hp with rfl | hp
    · refine scan_bd ht1 ht2 hm r _ _ _ hs'.1 (fun hc => ?_) ih
      have hx := hf x (by simp)
      unfold planEnd at hc ⊢
      split
      · obtain ⟨s1, s2⟩ := sq_bd (d := fin - x) (t := t) (by omega) (by omega) ht1 ht2
        have s1' : 0 ≤ sq (fin - x) t := s1
        have s2' : sq (fin - x) t ≤ 2500000000000000 := s2
        refine ⟨s1', ?_, ?_, ?_⟩ <;> simp <;> omega
      · rename_i h; rw [if_neg h] at hc; cases hc
    · exact (ih p hp).more (by simp)

def chooseOut (l : List Int) (fin sc t m : Int) : List Int := if chooseF l fin sc t m = 0 then choosePath l fin t m else []
def chooseSum (l : List Int) (fin sc t m : Int) : Int := if chooseF l fin sc t m = 0 then (planAt fin t m l 0).sum else 0
/-- What Choose leaves. -/
def ChooseLeaves (l : List Int) (fin sc t m : Int) (w : World) (e : Ending) (w' : World) : Prop :=
  ∃ A c, e = .returned (.tuple #[.slice A (chooseOut l fin sc t m).length c, .int .i64 (chooseSum l fin sc t m), .int .i64 (chooseF l fin sc t m)]) ∧
    w'.ownsRow w.heap.size 3 1 (.slice A (chooseOut l fin sc t m).length c) (chooseOut l fin sc t m).length ((chooseOut l fin sc t m).map (Value.int .i64)) ∧ Below w.heap.size w w'
theorem leaves_no {l : List Int} {fin sc t m f : Int} {w w' : World} (hf : chooseF l fin sc t m = f) (h0 : f ≠ 0) (hb : Below w.heap.size w w') :
    ChooseLeaves l fin sc t m w (.returned (.tuple #[.slice none 0 0, .int .i64 0, .int .i64 f])) w' := by
  have ho : chooseOut l fin sc t m = [] := by unfold chooseOut; rw [hf, if_neg h0]
  have hs : chooseSum l fin sc t m = 0 := by unfold chooseSum; rw [hf, if_neg h0]
  refine ⟨none, 0, ?_, ?_, hb⟩
  · rw [ho, hs, hf]; rfl
  · rw [ho]; exact World.ownsRow_nil _ _ _ _

theorem plan_info : (Try.prog.info? 77).map (fun i => (i.zero, i.size, i.bytes)) = some (some (.agg #[.bool false, .int .i64 0, .int .i64 0, .int .i64 0]), 4, 32) := by kernel_rfl
theorem make_plans (n : Nat) (hn : n ≤ 1000) (w : World) : (Instr.makeSlice 75 (.int .i64 (n : Int)) (.int .i64 (n : Int))).run Try.prog w =
    .ok (.slice (some ⟨w.heap.size, 0, none⟩) n n) (w.alloc (.cells ((List.replicate n noPlan).flatMap Plan.enc).toArray 77)) := by
  obtain ⟨i0, hi, hz0, hz1, hz2⟩ := info_parts plan_info
  have h := run_make (P := Try.prog) w 75 77 i0 _ Try.underlying75 hi hz0 .i64 .i64 n n (by omega) (by omega) (by rw [hz2]; omega) (by omega)
  rw [h, hz1, Int.toNat_natCast, ← made_rows (f := Plan.enc) (k := 4) (fun _ => rfl) (by omega) noPlan n]
  rfl
end Go.Proofs.Ytpkeiabifoipoaa
