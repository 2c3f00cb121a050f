/- Dates: the plain law. -/
import Derived.Test.YtjeemcpdmiajmaaDoorDmN
import Derived.Lib.ItoaMem
namespace Go.Proofs.YtjeemcpdmiajmaaDoor
open Go.RowKit Go.Lib
set_option linter.unusedSimpArgs false

/-! ### The calendar -/
def leapN (y : Nat) : Bool := (decide (y % 4 = 0) && decide (y % 100 ≠ 0)) || decide (y % 400 = 0)
def mdN (y m : Nat) : Nat := if m = 2 then (if leapN y then 29 else 28) else if m = 4 ∨ m = 6 ∨ m = 9 ∨ m = 11 then 30 else 31
def ydN (y : Nat) : Nat := 365 * (y - 1970) + ((y - 1) / 4 - 492) - ((y - 1) / 100 - 19) + ((y - 1) / 400 - 4)
theorem quo_next {y n : Nat} (hy : 1 ≤ y) : y / n = (y - 1) / n + (if y % n = 0 then 1 else 0) := by
  obtain ⟨k, rfl⟩ : ∃ k, y = k + 1 := ⟨y - 1, by omega⟩
  rw [Nat.add_sub_cancel, Nat.succ_div]
  simp only [Nat.dvd_iff_mod_eq_zero]
theorem ydN_next {y : Nat} (h : 1970 ≤ y) : ydN (y + 1) = ydN y + 365 + (if leapN y then 1 else 0) := by
  have q4 := quo_next (y := y) (n := 4) (by omega)
  have q100 := quo_next (y := y) (n := 100) (by omega)
  have q400 := quo_next (y := y) (n := 400) (by omega)
  have b4 : 492 ≤ (y - 1) / 4 := by omega
  have b100 : 19 ≤ (y - 1) / 100 := by omega
  have b400 : 4 ≤ (y - 1) / 400 := by omega
  have i1 : y % 400 = 0 → y % 100 = 0 := by omega
  have i2 : y % 100 = 0 → y % 4 = 0 := by omega
  have e : y + 1 - 1970 = y - 1970 + 1 := by omega
  have e1 : ydN (y + 1) = 365 * (y - 1970 + 1) + ((y - 1) / 4 + (if y % 4 = 0 then 1 else 0) - 492) - ((y - 1) / 100 + (if y % 100 = 0 then 1 else 0) - 19) + ((y - 1) / 400 + (if y % 400 = 0 then 1 else 0) - 4) := by
    rw [← q4, ← q100, ← q400, ← e]; rfl
  rw [e1, show ydN y = 365 * (y - 1970) + ((y - 1) / 4 - 492) - ((y - 1) / 100 - 19) + ((y - 1) / 400 - 4) from rfl, show leapN y = ((decide (y % 4 = 0) && decide (y % 100 ≠ 0)) || decide (y % 400 = 0)) from rfl]
  generalize (y - 1) / 4 = A at *
  generalize (y - 1) / 100 = B at *
  generalize (y - 1) / 400 = C at *
  by_cases h4 : y % 4 = 0
  · by_cases h100 : y % 100 = 0
    · by_cases h400 : y % 400 = 0
      · rw [if_pos h4, if_pos h100, if_pos h400, if_pos (by simp [h400])]; omega
      · rw [if_pos h4, if_pos h100, if_neg h400, if_neg (by simp [h100, h400])]; omega
    · have h400 : ¬ y % 400 = 0 := fun q => h100 (i1 q)
      rw [if_pos h4, if_neg h100, if_neg h400, if_pos (by simp [h4, h100])]; omega
  · have h100 : ¬ y % 100 = 0 := fun q => h4 (i2 q)
    have h400 : ¬ y % 400 = 0 := fun q => h100 (i1 q)
    rw [if_neg h4, if_neg h100, if_neg h400, if_neg (by simp [h4, h400])]; omega
theorem ydN_low {j : Nat} : ydN (1970 + j) ≤ 366 * j := by
  unfold ydN
  have e : 1970 + j - 1 = 1969 + j := by omega
  rw [e]
  omega
theorem ydN_ge {y : Nat} (h : 1970 ≤ y) : 365 * (y - 1970) ≤ ydN y := by unfold ydN; omega
theorem ydN_mono {a b : Nat} (h : 1970 ≤ a) (hab : a ≤ b) : ydN a ≤ ydN b := by
  induction b with
  | zero => omega
  | succ b ih =>
    by_cases q : a = b + 1
    · rw [q]; exact Nat.le_refl _
    · have := ih (by omega)
      have := ydN_next (y := b) (by omega)
      omega
theorem ydN_lt {a b : Nat} (h : 1970 ≤ a) (hab : a < b) : ydN a < ydN b := by
  have := ydN_next h
  have := ydN_mono (a := a + 1) (by omega) hab
  omega
theorem year_of : ∀ (n d : Nat), d < ydN (1970 + n) → ∃ y, 1970 ≤ y ∧ y < 1970 + n ∧ ydN y ≤ d ∧ d < ydN (y + 1)
  | 0, d, h => by simp [ydN] at h
  | n + 1, d, h => by
    by_cases q : d < ydN (1970 + n)
    · obtain ⟨y, h1, h2, h3⟩ := year_of n d q
      exact ⟨y, h1, by omega, h3⟩
    · exact ⟨1970 + n, by omega, by omega, by omega, h⟩
/-- The days of the months before month m. -/
def mSum (y : Nat) : Nat → Nat
  | 0 => 0
  | m + 1 => mSum y m + (if m = 0 then 0 else mdN y m)
theorem mdN_bd (y m : Nat) : 28 ≤ mdN y m ∧ mdN y m ≤ 31 := by unfold mdN; split <;> split <;> omega
theorem mSum_next {y m : Nat} (h : 1 ≤ m) : mSum y (m + 1) = mSum y m + mdN y m := by rw [mSum, if_neg (by omega)]
theorem mSum_1 (y : Nat) : mSum y 1 = 0 := by simp [mSum]
theorem mSum_13 (y : Nat) : mSum y 13 = 365 + (if leapN y then 1 else 0) := by
  simp only [mSum, mdN]
  cases leapN y <;> simp
theorem mSum_mono {y a b : Nat} (hab : a ≤ b) : mSum y a ≤ mSum y b := by
  induction b with
  | zero => have : a = 0 := by omega
            subst this; exact Nat.le_refl _
  | succ b ih =>
    by_cases q : a = b + 1
    · rw [q]; exact Nat.le_refl _
    · have := ih (by omega)
      rw [mSum]; omega
theorem month_of (y : Nat) : ∀ (n d : Nat), d < mSum y (1 + n) → ∃ m, 1 ≤ m ∧ m < 1 + n ∧ mSum y m ≤ d ∧ d < mSum y (m + 1)
  | 0, d, h => by simp [mSum] at h
  | n + 1, d, h => by
    by_cases q : d < mSum y (1 + n)
    · obtain ⟨m, h1, h2, h3⟩ := month_of y n d q
      exact ⟨m, h1, by omega, h3⟩
    · exact ⟨1 + n, by omega, by omega, by omega, h⟩
/-! ### Fields -/
structure Fld where
  y : Nat
  mo : Nat
  d : Nat
  h : Nat
  mi : Nat
  s : Nat
  ms : Nat
def Fld.Ok (f : Fld) : Prop := 1970 ≤ f.y ∧ f.y ≤ 9999 ∧ 1 ≤ f.mo ∧ f.mo ≤ 12 ∧ 1 ≤ f.d ∧ f.d ≤ mdN f.y f.mo ∧ f.h ≤ 23 ∧ f.mi ≤ 59 ∧ f.s ≤ 59 ∧ f.ms ≤ 999
def Fld.day (f : Fld) : Nat := ydN f.y + mSum f.y f.mo + (f.d - 1)
def Fld.val (f : Fld) : Nat := f.day * 86400000 + f.h * 3600000 + f.mi * 60000 + f.s * 1000 + f.ms
theorem yd_10000 : ydN 10000 = 2932897 := by decide
theorem day_lt {f : Fld} (h : f.Ok) : ydN f.y ≤ f.day ∧ f.day < ydN (f.y + 1) := by
  obtain ⟨h1, h2, h3, h4, h5, h6, _⟩ := h
  have e := ydN_next h1
  have e2 := mSum_next (y := f.y) h3
  have e3 := mSum_mono (y := f.y) (show f.mo + 1 ≤ 13 by omega)
  rw [mSum_13] at e3
  unfold Fld.day
  omega
theorem val_lt {f : Fld} (h : f.Ok) : f.val ≤ 253402300799999 := by
  have h1 := (day_lt h).2
  have h2 := ydN_mono (a := f.y + 1) (b := 10000) (by have := h.1; omega) (by have := h.2.1; omega)
  rw [yd_10000] at h2
  obtain ⟨_, _, _, _, _, _, h7, h8, h9, h10⟩ := h
  unfold Fld.val
  omega
/-- The fields of a moment. -/
theorem fld_of {n : Nat} (h : n ≤ 253402300799999) : ∃ f : Fld, f.Ok ∧ f.val = n := by
  obtain ⟨y, a1, a2, a3, a4⟩ := year_of 8030 (n / 86400000) (by rw [show 1970 + 8030 = 10000 from rfl, yd_10000]; omega)
  have e := ydN_next a1
  obtain ⟨m, b1, b2, b3, b4⟩ := month_of y 12 (n / 86400000 - ydN y) (by rw [show 1 + 12 = 13 from rfl, mSum_13]; omega)
  have e2 := mSum_next (y := y) b1
  refine ⟨⟨y, m, n / 86400000 - ydN y - mSum y m + 1, n % 86400000 / 3600000, n % 86400000 / 60000 % 60, n % 86400000 / 1000 % 60, n % 86400000 % 1000⟩, ⟨a1, by simp only; omega, b1, by simp only; omega, by simp only; omega, by simp only; omega, by simp only; omega, by simp only; omega, by simp only; omega, by simp only; omega⟩, ?_⟩
  simp only [Fld.val, Fld.day]
  omega
/-- In the order of fields. -/
def Fld.lt (a b : Fld) : Prop := a.y < b.y ∨ (a.y = b.y ∧ (a.mo < b.mo ∨ (a.mo = b.mo ∧ (a.d < b.d ∨ (a.d = b.d ∧ (a.h < b.h ∨ (a.h = b.h ∧ (a.mi < b.mi ∨ (a.mi = b.mi ∧ (a.s < b.s ∨ (a.s = b.s ∧ a.ms < b.ms)))))))))))
theorem day_mono {a b : Fld} (ha : a.Ok) (hb : b.Ok) (h : a.y < b.y ∨ (a.y = b.y ∧ (a.mo < b.mo ∨ (a.mo = b.mo ∧ a.d < b.d)))) : a.day < b.day := by
  have h1 := day_lt ha
  have h2 := day_lt hb
  rcases h with h | ⟨e, h | ⟨e2, h⟩⟩
  · have := ydN_mono (a := a.y + 1) (b := b.y) (by have := ha.1; omega) h
    omega
  · obtain ⟨_, _, a3, a4, a5, a6, _⟩ := ha
    have e2 := mSum_next (y := a.y) a3
    have e3 := mSum_mono (y := a.y) (show a.mo + 1 ≤ b.mo from h)
    unfold Fld.day
    rw [← e]
    omega
  · have := ha.2.2.2.2.1
    unfold Fld.day
    rw [← e, ← e2]
    omega
theorem val_mono {a b : Fld} (ha : a.Ok) (hb : b.Ok) (h : a.lt b) : a.val < b.val := by
  have key : a.day < b.day ∨ (a.day = b.day ∧ (a.h < b.h ∨ (a.h = b.h ∧ (a.mi < b.mi ∨ (a.mi = b.mi ∧ (a.s < b.s ∨ (a.s = b.s ∧ a.ms < b.ms))))))) := by
    rcases h with h | ⟨e, h | ⟨e2, h | ⟨e3, h⟩⟩⟩
    · exact .inl (day_mono ha hb (.inl h))
    · exact .inl (day_mono ha hb (.inr ⟨e, .inl h⟩))
    · exact .inl (day_mono ha hb (.inr ⟨e, .inr ⟨e2, h⟩⟩))
    · refine .inr ⟨?_, h⟩
      unfold Fld.day
      rw [e, e2, e3]
  obtain ⟨_, _, _, _, _, _, a7, a8, a9, a10⟩ := ha
  obtain ⟨_, _, _, _, _, _, b7, b8, b9, b10⟩ := hb
  unfold Fld.val
  omega
theorem fld_tri (a b : Fld) : a.lt b ∨ a = b ∨ b.lt a := by
  obtain ⟨a1, a2, a3, a4, a5, a6, a7⟩ := a
  obtain ⟨b1, b2, b3, b4, b5, b6, b7⟩ := b
  simp only [Fld.lt, Fld.mk.injEq]
  omega
theorem fld_eq {a b : Fld} (ha : a.Ok) (hb : b.Ok) (h : a.val = b.val) : a = b := by
  rcases fld_tri a b with q | q | q
  · have := val_mono ha hb q; omega
  · exact q
  · have := val_mono hb ha q; omega
/-! ### Digits -/
def dgs : Nat → Nat → List UInt8
  | 0, _ => []
  | k + 1, n => dgs k (n / 10) ++ [UInt8.ofNat (48 + n % 10)]
theorem dgs_len : ∀ k n, (dgs k n).length = k
  | 0, _ => rfl
  | k + 1, n => by rw [dgs, List.length_append, dgs_len k]; rfl
theorem dgs_dec : ∀ k n, nDigits n = k → dgs k n = decDigits n
  | 0, n, h => by have := nDigits_pos n; omega
  | k + 1, n, h => by
    by_cases q : n < 10
    · rw [nDigits_small q] at h
      have : k = 0 := by omega
      subst this
      rw [decDigits_one q, dgs, dgs, Nat.mod_eq_of_lt q]; rfl
    · rw [nDigits_big q] at h
      rw [dgs, dgs_dec k (n / 10) (by omega)]
      conv => rhs; rw [decDigits, dif_neg q]
theorem dgs_zero : ∀ k n, n < 10 ^ k → (48 : UInt8) :: dgs k n = dgs (k + 1) n
  | 0, n, h => by
    have : n = 0 := by simpa using h
    subst this
    rfl
  | k + 1, n, h => by
    rw [dgs, ← List.cons_append, dgs_zero k (n / 10) (by rw [Nat.pow_succ] at h; omega)]
    rfl
def digB (c : UInt8) : Bool := decide (48 ≤ c.toNat) && decide (c.toNat ≤ 57)
def numL (l : List UInt8) : Nat := l.foldl (fun a c => 10 * a + (c.toNat - 48)) 0
theorem numL_snoc (l : List UInt8) (c : UInt8) : numL (l ++ [c]) = 10 * numL l + (c.toNat - 48) := by simp [numL]
theorem dgs_dig : ∀ k n, ∀ c ∈ dgs k n, digB c = true
  | 0, _, c, h => by simp [dgs] at h
  | k + 1, n, c, h => by
    rw [dgs, List.mem_append, List.mem_singleton] at h
    rcases h with h | rfl
    · exact dgs_dig k _ c h
    · have : (UInt8.ofNat (48 + n % 10)).toNat = 48 + n % 10 := by
        rw [UInt8.toNat_ofNat']; omega
      simp only [digB, this, Bool.and_eq_true, decide_eq_true_eq]
      omega
theorem num_dgs : ∀ k n, n < 10 ^ k → numL (dgs k n) = n
  | 0, n, h => by have : n = 0 := by simpa using h
                  subst this; rfl
  | k + 1, n, h => by
    rw [dgs, numL_snoc, num_dgs k (n / 10) (by rw [Nat.pow_succ] at h; omega), UInt8.toNat_ofNat']
    omega
theorem list_snoc {α : Type} {k : Nat} {l : List α} (h : l.length = k + 1) : ∃ r c, l = r ++ [c] ∧ r.length = k := by
  have hne : l ≠ [] := fun e => by rw [e] at h; simp at h
  exact ⟨l.dropLast, l.getLast hne, (List.dropLast_concat_getLast hne).symm, by rw [List.length_dropLast]; omega⟩
theorem dgs_num : ∀ (k : Nat) (l : List UInt8), l.length = k → (∀ c ∈ l, digB c = true) → dgs k (numL l) = l ∧ numL l < 10 ^ k
  | 0, l, h, _ => by
    obtain rfl := List.eq_nil_of_length_eq_zero h
    exact ⟨rfl, by simp [numL]⟩
  | k + 1, l, h, hd => by
    obtain ⟨r, c, rfl, hr⟩ := list_snoc h
    have hc := hd c (by simp)
    simp only [digB, Bool.and_eq_true, decide_eq_true_eq] at hc
    obtain ⟨e1, e2⟩ := dgs_num k r hr (fun x hx => hd x (by simp [hx]))
    rw [numL_snoc]
    refine ⟨?_, by rw [Nat.pow_succ]; omega⟩
    rw [dgs, show (10 * numL r + (c.toNat - 48)) / 10 = numL r by omega, e1, show 48 + (10 * numL r + (c.toNat - 48)) % 10 = c.toNat by omega, UInt8.ofNat_toNat]
/-! ### Texts -/
def txt (f : Fld) : List UInt8 := dgs 4 f.y ++ (45 :: (dgs 2 f.mo ++ (45 :: (dgs 2 f.d ++ (84 :: (dgs 2 f.h ++ (58 :: (dgs 2 f.mi ++ (58 :: (dgs 2 f.s ++ (46 :: (dgs 3 f.ms ++ [90])))))))))))) 
theorem txt_len (f : Fld) : (txt f).length = 24 := rfl
def lessB (a b : List UInt8) : Bool := Op.bytesLess a b
theorem less_cons (c : UInt8) (a b : List UInt8) : lessB (c :: a) (c :: b) = lessB a b := by
  have : ¬ c < c := by simp
  simp [lessB, Op.bytesLess, this]
theorem less_app : ∀ {a b : List UInt8} (x y : List UInt8), a.length = b.length → lessB (a ++ x) (b ++ y) = (lessB a b || (a == b && lessB x y))
  | [], [], x, y, _ => by simp [lessB, Op.bytesLess]
  | [], _ :: _, _, _, h => by simp at h
  | _ :: _, [], _, _, h => by simp at h
  | c :: a, d :: b, x, y, h => by
    have ih := less_app (a := a) (b := b) x y (by simpa using h)
    simp only [lessB] at ih
    simp only [lessB, List.cons_append, Op.bytesLess, ih]
    by_cases q : c = d
    · subst q
      have : ¬ c < c := by simp
      simp [this]
    · have q' : (c == d) = false := by simpa using q
      simp [q', q]
theorem dgs_inj {k a b : Nat} (ha : a < 10 ^ k) (hb : b < 10 ^ k) : (dgs k a == dgs k b) = decide (a = b) := by
  by_cases q : a = b
  · subst q; simp
  · have : dgs k a ≠ dgs k b := fun e => q (by rw [← num_dgs k a ha, e, num_dgs k b hb])
    simp [q, this]
theorem u8_lt {a b : Nat} (ha : a < 256) (hb : b < 256) : (UInt8.ofNat a < UInt8.ofNat b) = (a < b) := by
  rw [UInt8.lt_iff_toNat_lt, UInt8.toNat_ofNat', UInt8.toNat_ofNat', Nat.mod_eq_of_lt ha, Nat.mod_eq_of_lt hb]
theorem less_dgs : ∀ (k : Nat) {a b : Nat}, a < 10 ^ k → b < 10 ^ k → lessB (dgs k a) (dgs k b) = decide (a < b)
  | 0, a, b, ha, hb => by
    have h1 : a = 0 := by simpa using ha
    have h2 : b = 0 := by simpa using hb
    subst h1; subst h2
    simp [dgs, lessB, Op.bytesLess]
  | k + 1, a, b, ha, hb => by
    have ha' : a / 10 < 10 ^ k := by rw [Nat.pow_succ] at ha; omega
    have hb' : b / 10 < 10 ^ k := by rw [Nat.pow_succ] at hb; omega
    rw [dgs, dgs, less_app _ _ (by rw [dgs_len, dgs_len]), less_dgs k ha' hb', dgs_inj ha' hb']
    have : lessB [UInt8.ofNat (48 + a % 10)] [UInt8.ofNat (48 + b % 10)] = decide (a % 10 < b % 10) := by
      simp only [lessB, Op.bytesLess, Bool.and_false, Bool.or_false]
      refine decide_eq_decide.2 ?_
      rw [u8_lt (by omega) (by omega)]
      omega
    rw [this]
    by_cases h1 : a / 10 < b / 10
    · have : a < b := by omega
      simp [h1, this]
    · by_cases h2 : a / 10 = b / 10
      · by_cases h3 : a % 10 < b % 10
        · have : a < b := by omega
          simp [h2, h3, this]
        · have : ¬ a < b := by omega
          simp only [h1, h2, h3, this]; simp
      · have : ¬ a < b := by omega
        simp [h1, h2, this]
theorem less_fld {k a b : Nat} (ha : a < 10 ^ k) (hb : b < 10 ^ k) (x y : List UInt8) : lessB (dgs k a ++ x) (dgs k b ++ y) = (decide (a < b) || (decide (a = b) && lessB x y)) := by
  rw [less_app _ _ (by rw [dgs_len, dgs_len]), less_dgs k ha hb, dgs_inj ha hb]
theorem less_txt {a b : Fld} (ha : a.Ok) (hb : b.Ok) : lessB (txt a) (txt b) = true ↔ a.lt b := by
  obtain ⟨a1, a2, a3, a4, a5, a6, a7, a8, a9, a10⟩ := ha
  obtain ⟨b1, b2, b3, b4, b5, b6, b7, b8, b9, b10⟩ := hb
  have ma := mdN_bd a.y a.mo
  have mb := mdN_bd b.y b.mo
  have e90 : lessB [90] [90] = false := by decide
  unfold txt
  rw [less_fld (by omega) (by omega), less_cons, less_fld (by omega) (by omega), less_cons, less_fld (by omega) (by omega), less_cons, less_fld (by omega) (by omega), less_cons, less_fld (by omega) (by omega), less_cons, less_fld (by omega) (by omega), less_cons, less_fld (by omega) (by omega), e90]
  simp only [Fld.lt, Bool.or_eq_true, Bool.and_eq_true, decide_eq_true_eq, Bool.and_false, Bool.or_false]
theorem less_val {a b : Fld} (ha : a.Ok) (hb : b.Ok) : lessB (txt a) (txt b) = decide (a.val < b.val) := by
  rw [Bool.eq_iff_iff, decide_eq_true_eq, less_txt ha hb]
  constructor
  · exact val_mono ha hb
  · intro h
    rcases fld_tri a b with q | q | q
    · exact q
    · rw [q] at h; omega
    · have := val_mono hb ha q; omega
def form : List UInt8 := [48, 48, 48, 48, 45, 48, 48, 45, 48, 48, 84, 48, 48, 58, 48, 48, 58, 48, 48, 46, 48, 48, 48, 90]
def okAt (l : List UInt8) (i : Nat) : Bool := if form.getD i 0 = 48 then digB (l.getD i 0) else l.getD i 0 == form.getD i 0
def fldL (l : List UInt8) : Fld := ⟨numL (l.take 4), numL ((l.drop 5).take 2), numL ((l.drop 8).take 2), numL ((l.drop 11).take 2), numL ((l.drop 14).take 2), numL ((l.drop 17).take 2), numL ((l.drop 20).take 3)⟩
def Fld.OkR (f : Fld) : Prop := 1970 ≤ f.y ∧ 1 ≤ f.mo ∧ f.mo ≤ 12 ∧ 1 ≤ f.d ∧ f.d ≤ mdN f.y f.mo ∧ f.h ≤ 23 ∧ f.mi ≤ 59 ∧ f.s ≤ 59
theorem digB_of (n : Nat) : digB (UInt8.ofNat (48 + n % 10)) = true := dgs_dig 1 n _ (by simp [dgs])
theorem txt_ok (f : Fld) : ∀ i, i < 24 → okAt (txt f) i = true := by
  intro i hi
  have : i = 0 ∨ i = 1 ∨ i = 2 ∨ i = 3 ∨ i = 4 ∨ i = 5 ∨ i = 6 ∨ i = 7 ∨ i = 8 ∨ i = 9 ∨ i = 10 ∨ i = 11 ∨ i = 12 ∨ i = 13 ∨ i = 14 ∨ i = 15 ∨ i = 16 ∨ i = 17 ∨ i = 18 ∨ i = 19 ∨ i = 20 ∨ i = 21 ∨ i = 22 ∨ i = 23 := by omega
  rcases this with rfl | rfl | rfl | rfl | rfl | rfl | rfl | rfl | rfl | rfl | rfl | rfl | rfl | rfl | rfl | rfl | rfl | rfl | rfl | rfl | rfl | rfl | rfl | rfl <;> first | exact digB_of _ | rfl
theorem fldL_txt {f : Fld} (h : f.Ok) : fldL (txt f) = f := by
  obtain ⟨a1, a2, a3, a4, a5, a6, a7, a8, a9, a10⟩ := h
  have ma := mdN_bd f.y f.mo
  have e1 : (txt f).take 4 = dgs 4 f.y := rfl
  have e2 : ((txt f).drop 5).take 2 = dgs 2 f.mo := rfl
  have e3 : ((txt f).drop 8).take 2 = dgs 2 f.d := rfl
  have e4 : ((txt f).drop 11).take 2 = dgs 2 f.h := rfl
  have e5 : ((txt f).drop 14).take 2 = dgs 2 f.mi := rfl
  have e6 : ((txt f).drop 17).take 2 = dgs 2 f.s := rfl
  have e7 : ((txt f).drop 20).take 3 = dgs 3 f.ms := rfl
  unfold fldL
  rw [e1, e2, e3, e4, e5, e6, e7, num_dgs 4 _ (by omega), num_dgs 2 _ (by omega), num_dgs 2 _ (by omega), num_dgs 2 _ (by omega), num_dgs 2 _ (by omega), num_dgs 2 _ (by omega), num_dgs 3 _ (by omega)]
theorem piece_dig {l : List UInt8} (hl : l.length = 24) (ho : ∀ i, i < 24 → okAt l i = true) {a k : Nat} (hak : a + k ≤ 24) (hf : ∀ j, j < k → form.getD (a + j) 0 = 48) : dgs k (numL ((l.drop a).take k)) = (l.drop a).take k ∧ numL ((l.drop a).take k) < 10 ^ k := by
  refine dgs_num k _ (by rw [List.length_take, List.length_drop]; omega) fun c hc => ?_
  obtain ⟨j, hj, rfl⟩ := List.getElem_of_mem hc
  rw [List.length_take, List.length_drop] at hj
  have := ho (a + j) (by omega)
  unfold okAt at this
  rw [if_pos (hf j (by omega)), List.getD_eq_getElem?_getD, List.getElem?_eq_getElem (show a + j < l.length by omega)] at this
  rw [List.getElem_take, List.getElem_drop]
  exact this
theorem sep_at {l : List UInt8} (hl : l.length = 24) (ho : ∀ i, i < 24 → okAt l i = true) {a : Nat} (ha : a < 24) (hf : form.getD a 0 ≠ 48) : l.drop a = form.getD a 0 :: l.drop (a + 1) := by
  have := ho a ha
  unfold okAt at this
  rw [if_neg hf, List.getD_eq_getElem?_getD, List.getElem?_eq_getElem (show a < l.length by omega)] at this
  rw [List.drop_eq_getElem_cons (show a < l.length by omega)]
  congr 1
  simpa using this
theorem cut_at (l : List UInt8) (a k : Nat) : l.drop a = (l.drop a).take k ++ l.drop (a + k) := by
  rw [← List.drop_drop, List.take_append_drop]
theorem txt_fldL {l : List UInt8} (hl : l.length = 24) (ho : ∀ i, i < 24 → okAt l i = true) : txt (fldL l) = l ∧ (fldL l).y ≤ 9999 ∧ (fldL l).ms ≤ 999 := by
  have d1 := piece_dig hl ho (a := 0) (k := 4) (by omega) (by decide)
  have d2 := piece_dig hl ho (a := 5) (k := 2) (by omega) (by decide)
  have d3 := piece_dig hl ho (a := 8) (k := 2) (by omega) (by decide)
  have d4 := piece_dig hl ho (a := 11) (k := 2) (by omega) (by decide)
  have d5 := piece_dig hl ho (a := 14) (k := 2) (by omega) (by decide)
  have d6 := piece_dig hl ho (a := 17) (k := 2) (by omega) (by decide)
  have d7 := piece_dig hl ho (a := 20) (k := 3) (by omega) (by decide)
  rw [List.drop_zero] at d1
  refine ⟨?_, by have := d1.2; simp only [fldL]; omega, by have := d7.2; simp only [fldL]; omega⟩
  unfold txt fldL
  simp only
  rw [d1.1, d2.1, d3.1, d4.1, d5.1, d6.1, d7.1]
  have s1 := sep_at hl ho (a := 4) (by omega) (by decide)
  have s2 := sep_at hl ho (a := 7) (by omega) (by decide)
  have s3 := sep_at hl ho (a := 10) (by omega) (by decide)
  have s4 := sep_at hl ho (a := 13) (by omega) (by decide)
  have s5 := sep_at hl ho (a := 16) (by omega) (by decide)
  have s6 := sep_at hl ho (a := 19) (by omega) (by decide)
  have s7 := sep_at hl ho (a := 23) (by omega) (by decide)
  have c1 := cut_at l 0 4
  rw [List.drop_zero] at c1
  have e24 : l.drop 24 = [] := List.drop_eq_nil_of_le (by omega)
  conv =>
    rhs
    rw [c1, show l.drop (0 + 4) = l.drop 4 from rfl, s1, show l.drop (4 + 1) = l.drop 5 from rfl, cut_at l 5 2, show l.drop (5 + 2) = l.drop 7 from rfl, s2, show l.drop (7 + 1) = l.drop 8 from rfl, cut_at l 8 2, show l.drop (8 + 2) = l.drop 10 from rfl, s3, show l.drop (10 + 1) = l.drop 11 from rfl, cut_at l 11 2, show l.drop (11 + 2) = l.drop 13 from rfl, s4,
      show l.drop (13 + 1) = l.drop 14 from rfl, cut_at l 14 2, show l.drop (14 + 2) = l.drop 16 from rfl, s5, show l.drop (16 + 1) = l.drop 17 from rfl, cut_at l 17 2, show l.drop (17 + 2) = l.drop 19 from rfl, s6, show l.drop (19 + 1) = l.drop 20 from rfl, cut_at l 20 3, show l.drop (20 + 3) = l.drop 23 from rfl, s7, show l.drop (23 + 1) = l.drop 24 from rfl, e24]
  simp [form]
end Go.Proofs.YtjeemcpdmiajmaaDoor
