/- The reference's numbers as fractions: what Times, Over, round give does not depend on how a fraction is written. -/
import Derived.Test.YtjeemcpdmiajmaaDoorKNumR
namespace Go.Proofs.YtjeemcpdmiajmaaDoor
open Go.RowKit
set_option linter.unusedSimpArgs false

/-- The number z / q in lowest terms. -/
def RQ (z : Int) (q : Nat) : List AV := numAV (decide (z < 0)) (z.natAbs / Nat.gcd z.natAbs q) (q / Nat.gcd z.natAbs q)
theorem rq_of (neg : Bool) (t b : Nat) : numAV (neg && decide (0 < t)) (t / Nat.gcd t b) (b / Nat.gcd t b) = RQ (if neg then -(t : Int) else t) b := by
  unfold RQ
  have e1 : (if neg then -(t : Int) else t).natAbs = t := by split <;> omega
  have e2 : decide ((if neg then -(t : Int) else t) < 0) = (neg && decide (0 < t)) := by
    cases neg
    · simp
    · simp only [if_true, Bool.true_and]
      exact decide_eq_decide.2 (by omega)
  rw [e1, e2]
theorem rq_scale (z : Int) (q k : Nat) (hk : 0 < k) : RQ (z * k) (q * k) = RQ z q := by
  unfold RQ
  have e1 : (z * k).natAbs = z.natAbs * k := by rw [Int.natAbs_mul, Int.natAbs_natCast]
  have e2 : decide (z * k < 0) = decide (z < 0) := decide_eq_decide.2 ⟨fun h => by
    refine Int.not_le.1 fun q => ?_
    have := Int.mul_nonneg q (show (0 : Int) ≤ k by omega)
    omega, fun h => Int.mul_neg_of_neg_of_pos h (by omega)⟩
  rw [e1, e2, Nat.gcd_mul_right, Nat.mul_div_mul_right _ _ hk, Nat.mul_div_mul_right _ _ hk]
theorem sgn_eq {a : Int} {g : Nat} (hg : g ∣ a.natAbs) : a = (if decide (a < 0) then -((a.natAbs / g : Nat) : Int) else ((a.natAbs / g : Nat) : Int)) * (g : Int) := by
  have h := Nat.div_mul_cancel hg
  have h2 : ((a.natAbs / g : Nat) : Int) * (g : Int) = (a.natAbs : Int) := by rw [← Int.natCast_mul, h]
  by_cases q : a < 0
  · rw [decide_eq_true q, if_pos rfl, Int.neg_mul, h2]; omega
  · rw [decide_eq_false q, if_neg (by simp), h2]; omega
theorem mul_sgn (n1 n2 : Bool) (t1 t2 : Nat) : (if (!(n1 == n2)) = true then -((t1 * t2 : Nat) : Int) else ((t1 * t2 : Nat) : Int)) = (if n1 = true then -(t1 : Int) else (t1 : Int)) * (if n2 = true then -(t2 : Int) else (t2 : Int)) := by
  cases n1 <;> cases n2 <;> simp [Int.neg_mul, Int.mul_neg]
theorem gcd_pos {z : Int} {q : Nat} (hq : 0 < q) : 0 < Nat.gcd z.natAbs q := Nat.gcd_pos_of_pos_right _ hq
theorem red_le {a g k : Nat} (h : (lm a).length ≤ k) : (lm (a / g)).length ≤ k := Nat.le_trans (lm_le (Nat.div_le_self _ _)) h
theorem red_pos {z : Int} {q : Nat} (hq : 0 < q) : 0 < q / Nat.gcd z.natAbs q := Nat.div_pos (Nat.le_of_dvd hq (Nat.gcd_dvd_right _ _)) (gcd_pos hq)
theorem mul4 (a b c d : Int) : a * b * (c * d) = a * c * (b * d) := by rw [Int.mul_assoc, Int.mul_left_comm b, ← Int.mul_assoc]
theorem mul4n (a b c d : Nat) : a * b * (c * d) = a * c * (b * d) := by rw [Nat.mul_assoc, Nat.mul_left_comm b, ← Nat.mul_assoc]
theorem up_red (neg : Bool) (r b g : Nat) (way : Int) (hg : 0 < g) : upN neg (r * g) (b * g) way = upN neg r b way := by
  unfold upN
  have e1 : decide (0 < r * g) = decide (0 < r) := decide_eq_decide.2 ⟨fun h => Nat.pos_of_ne_zero fun e => by rw [e, Nat.zero_mul] at h; exact Nat.lt_irrefl _ h, fun h => Nat.mul_pos h hg⟩
  have e2 : decide (b * g ≤ r * g + r * g) = decide (b ≤ r + r) := decide_eq_decide.2 (by rw [← Nat.add_mul]; exact Nat.mul_le_mul_right_iff hg)
  rw [e1, e2]
theorem rnd_red (neg : Bool) (t b g : Nat) (way : Int) (hg : 0 < g) : rndN neg (t * g) (b * g) way = rndN neg t b way := by
  unfold rndN
  rw [Nat.mul_div_mul_right _ _ hg, Nat.mul_mod_mul_right, up_red _ _ _ _ _ hg]
theorem round_q (z : Int) (q : Nat) (way : Int) (hq : 0 < q) (h1 : (lm z.natAbs).length ≤ 800) (h2 : (lm q).length ≤ 800) :
    CallOK Tryd.prog 31 [.agg (RQ z q), .val (.int .i64 way)] (.ro ((lm (rndN (decide (z < 0)) z.natAbs q way)).map oneN)) := by
  have h := round_c (decide (z < 0)) (z.natAbs / Nat.gcd z.natAbs q) (q / Nat.gcd z.natAbs q) way (red_pos hq) (red_le h1) (red_le h2)
  rw [← rnd_red _ _ _ _ _ (gcd_pos (z := z) hq), Nat.div_mul_cancel (Nat.gcd_dvd_left _ _), Nat.div_mul_cancel (Nat.gcd_dvd_right _ _)] at h
  exact h
end Go.Proofs.YtjeemcpdmiajmaaDoor
