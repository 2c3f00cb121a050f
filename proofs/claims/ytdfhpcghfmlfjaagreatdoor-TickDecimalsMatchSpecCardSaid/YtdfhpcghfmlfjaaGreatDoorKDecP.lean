/- Decimals of any scale, in plain numbers. -/
import Derived.Test.YtdfhpcghfmlfjaaGreatDoorKDec
namespace Go.Proofs.YtdfhpcghfmlfjaaGreatDoor
open Go.RowKit Go.Lib
set_option linter.unusedSimpArgs false

/-- A quotient, rounded to the nearest. -/
def half (Q p : Nat) : Nat := if p ≤ Q % p + Q % p then Q / p + 1 else Q / p
theorem half_le {r S P : Nat} (hr : r < S) : half (r * P) S ≤ P := by
  have hS : 0 < S := by omega
  rcases Nat.eq_zero_or_pos P with z | z
  · subst z
    unfold half
    rw [Nat.mul_zero, Nat.zero_div, Nat.zero_mod, if_neg (by omega)]
    exact Nat.le_refl _
  · have h1 : r * P / S < P := by
      rw [Nat.div_lt_iff_lt_mul hS, Nat.mul_comm P S]
      exact Nat.mul_lt_mul_of_pos_right hr z
    unfold half
    split <;> omega
theorem half_split (size S P : Nat) (hS : 0 < S) : half (size * P) S = size / S * P + half (size % S * P) S := by
  have e : size * P = size % S * P + S * (size / S * P) := by
    have h := Nat.div_add_mod size S
    calc size * P = (S * (size / S) + size % S) * P := by rw [h]
      _ = _ := by rw [Nat.add_mul, Nat.mul_assoc]; omega
  unfold half
  rw [e, Nat.add_mul_mod_self_left, Nat.add_mul_div_left _ _ hS]
  split <;> omega
theorem scl_half {r S P : Nat} (hr : r < S) (hP : P ≤ 1000000000) : scl (r : Int) P S 2 = (half (r * P) S : Nat) := by
  have hS : 0 < S := by omega
  have hh := half_le (P := P) hr
  have hq : r * P ≤ S * 1000000000 := Nat.mul_le_mul (by omega) hP
  rw [scl_pos _ _ _ (by omega), Int.natAbs_natCast]
  congr 1
  unfold sclA
  rw [if_neg (by omega)]
  have e : rndB 2 (decide ((r : Int) < 0)) (r * P % S) S = decide (S ≤ 2 * (r * P % S)) := rfl
  rw [e]
  unfold half at hh ⊢
  simp only [decide_eq_true_eq]
  generalize r * P / S = q at *
  generalize r * P % S = m at *
  split
  · rename_i h
    rw [if_pos (by omega)] at hh ⊢
    omega
  · rename_i h
    rw [if_neg (by omega)] at hh ⊢
    omega
/-- The whole part and the rest of a decimal. -/
def decW (size S P : Nat) : Nat := if half (size % S * P) S = P then size / S + 1 else size / S
def decR (size S P : Nat) : Nat := if half (size % S * P) S = P then 0 else half (size % S * P) S
theorem dec_WR (size S P : Nat) (hS : 0 < S) : half (size * P) S = decW size S P * P + decR size S P := by
  rw [half_split size S P hS]
  unfold decW decR
  split
  · rename_i h; rw [h, Nat.add_mul]; omega
  · rfl
theorem decR_lt {size S P : Nat} (hS : 0 < S) (hP : 0 < P) : decR size S P < P := by
  have := half_le (P := P) (Nat.mod_lt size hS)
  unfold decR
  split <;> omega
/-- What Decimal writes. -/
def decTx (neg : Bool) (whole more part : Nat) : List UInt8 := (if neg then [45] else []) ++ (decDigits whole ++ (if 0 < more then 46 :: dgs more part else []))
def decFt (n sc more : Int) : List UInt8 :=
  decTx (decide (n < 0) && decide (0 < half (n.natAbs * 10 ^ more.toNat) sc.toNat)) (decW n.natAbs sc.toNat (10 ^ more.toNat)) more.toNat (decR n.natAbs sc.toNat (10 ^ more.toNat))
theorem decFt_nat (n : Int) (S mo : Nat) : decFt n S mo = decTx (decide (n < 0) && decide (0 < half (n.natAbs * 10 ^ mo) S)) (decW n.natAbs S (10 ^ mo)) mo (decR n.natAbs S (10 ^ mo)) := rfl
def decBad (n sc more : Int) : Bool := noTime n || noScale sc || outB more 0 9
def decF (n sc more : Int) : List UInt8 × Int := if decBad n sc more then ([], 1) else (decFt n sc more, 0)
theorem decBad_f {n sc more : Int} (h : decBad n sc more = false) : (noTime n = false ∧ noScale sc = false ∧ outB more 0 9 = false) ∧ -1000000000000000 ≤ n ∧ n ≤ 1000000000000000 ∧ 1 ≤ sc ∧ sc ≤ 1000000000 ∧ 0 ≤ more ∧ more ≤ 9 := by
  simp only [decBad, Bool.or_eq_false_iff] at h
  have h1 : -1000000000000000 ≤ n ∧ n ≤ 1000000000000000 := outB_f h.1.1
  have h2 := noScale_bd h.1.2
  have h3 := outB_f h.2
  exact ⟨⟨h.1.1, h.1.2, h.2⟩, h1.1, h1.2, h2.1, h2.2, h3.1, h3.2⟩
/-! ### Reading -/
def rowB (l : List UInt8) : Bool := l.all digB && decide (l ≠ [])
/-- A text at its first point. -/
def cutW : List UInt8 → List UInt8
  | [] => []
  | c :: r => if c = 46 then [] else c :: cutW r
def cutP : List UInt8 → List UInt8
  | [] => []
  | c :: r => if c = 46 then r else cutP r
def cutB (l : List UInt8) : Bool := l.any fun c => c == 46
theorem cutW_no : ∀ (l : List UInt8), ∀ c ∈ cutW l, c ≠ 46
  | [], c, h => by simp [cutW] at h
  | a :: r, c, h => by
    unfold cutW at h
    split at h
    · simp at h
    · rename_i ha
      rcases List.mem_cons.1 h with rfl | h
      · exact ha
      · exact cutW_no r c h
theorem cut_yes' : ∀ {l : List UInt8}, cutB l = true → l = cutW l ++ 46 :: cutP l
  | [], h => by simp [cutB] at h
  | a :: r, h => by
    unfold cutW cutP
    split
    · rename_i ha; rw [ha]; rfl
    · rename_i ha
      have : cutB r = true := by
        simp only [cutB, List.any_cons, Bool.or_eq_true, beq_iff_eq] at h ⊢
        rcases h with h | h
        · exact absurd h ha
        · exact h
      rw [List.cons_append, ← cut_yes' this]
theorem cut_no' : ∀ {l : List UInt8}, cutB l = false → l = cutW l ∧ cutP l = []
  | [], _ => ⟨rfl, rfl⟩
  | a :: r, h => by
    simp only [cutB, List.any_cons, Bool.or_eq_false_iff, beq_eq_false_iff_ne] at h
    obtain ⟨h1, h2⟩ := cut_no' (l := r) h.2
    unfold cutW cutP
    rw [if_neg h.1, if_neg h.1, ← h1]
    exact ⟨rfl, h2⟩
theorem cut_len (l : List UInt8) : (cutW l).length + (cutP l).length ≤ l.length := by
  cases h : cutB l with
  | true =>
    have := congrArg List.length (cut_yes' h)
    rw [List.length_append, List.length_cons] at this
    omega
  | false =>
    obtain ⟨h1, h2⟩ := cut_no' h
    rw [h2, ← h1]
    simp
theorem trim_len (l : List UInt8) : (trimPrefix l [45]).length ≤ l.length := by
  unfold trimPrefix
  split
  · rw [List.length_drop]; omega
  · exact Nat.le_refl _
theorem numL_appD (a : List UInt8) : ∀ b : List UInt8, numL (a ++ b) = numL a * 10 ^ b.length + numL b := by
  have key : ∀ (b : List UInt8) (x : Nat), b.foldl (fun a c => 10 * a + (c.toNat - 48)) x = x * 10 ^ b.length + numL b := by
    intro b
    induction b with
    | nil => intro x; simp [numL]
    | cons c r ih =>
      intro x
      rw [List.foldl_cons, ih, show numL (c :: r) = r.foldl (fun a c => 10 * a + (c.toNat - 48)) (10 * 0 + (c.toNat - 48)) from rfl, ih, List.length_cons, Nat.pow_succ]
      simp only [Nat.mul_zero, Nat.zero_add]
      rw [Nat.add_mul, Nat.add_assoc, Nat.mul_comm (10 ^ r.length) 10, ← Nat.mul_assoc, Nat.mul_comm 10 x]
  intro b
  rw [show numL (a ++ b) = b.foldl (fun a c => 10 * a + (c.toNat - 48)) (numL a) by simp [numL], key]
theorem numL_lt {l : List UInt8} (h : ∀ c ∈ l, digB c = true) : numL l < 10 ^ l.length := (dgs_num l.length l rfl h).2
theorem numL_ge {l : List UInt8} (hne : l ≠ []) (hd : ∀ c ∈ l, digB c = true) (h0 : l.getD 0 0 ≠ 48) : 10 ^ (l.length - 1) ≤ numL l := by
  cases l with
  | nil => exact absurd rfl hne
  | cons c r =>
    have hc := hd c (by simp)
    simp only [digB, Bool.and_eq_true, decide_eq_true_eq] at hc
    rw [List.getD_cons_zero] at h0
    have hn : c.toNat ≠ 48 := fun e => h0 (UInt8.toNat_inj.1 (by rw [e]; rfl))
    have e := numL_appD [c] r
    rw [List.singleton_append] at e
    rw [e, List.length_cons, Nat.add_sub_cancel]
    have h1 : numL [c] = c.toNat - 48 := by simp [numL]
    rw [h1]
    have : 10 ^ r.length ≤ (c.toNat - 48) * 10 ^ r.length := Nat.le_mul_of_pos_left _ (by omega)
    omega
/-- Whether ReadDecimal finds no decimal. -/
def rdBad (T : List UInt8) (W P : List UInt8) (pt : Bool) : Bool := decide (30 < T.length) || !rowB W || (decide (W.getD 0 0 = 48) && decide (1 < W.length)) || (pt && (!rowB P || decide (9 < P.length)))
theorem rowB_t {l : List UInt8} (h : rowB l = true) : l ≠ [] ∧ ∀ c ∈ l, digB c = true := by
  simp only [rowB, Bool.and_eq_true, decide_eq_true_eq, List.all_eq_true] at h
  exact ⟨h.2, h.1⟩
end Go.Proofs.YtdfhpcghfmlfjaaGreatDoor
