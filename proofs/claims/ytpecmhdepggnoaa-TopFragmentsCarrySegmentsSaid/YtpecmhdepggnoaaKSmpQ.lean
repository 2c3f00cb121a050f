/- Times and scales in their bounds. -/
import Derived.Test.YtpecmhdepggnoaaKNat
import Derived.Test.YtpecmhdepggnoaaDmP
import Derived.Test.YtpecmhdepggnoaaKPiece
namespace Go.Proofs.Ytpecmhdepggnoaa
open Go.RowKit
set_option linter.unusedSimpArgs false

theorem all_int (x : List AV) (h : HasAll [.int .i64] x) : ∃ n : Int, x = oneI n ∧ I64 n := by
  obtain ⟨v0, r, rfl, h0, h⟩ := all_cons h
  obtain rfl := all_nil h
  obtain ⟨n, rfl, hn⟩ := has_int h0
  exact ⟨n, rfl, hn⟩
theorem noTime_bd {n : Int} (h : noTime n = false) : -1000000000000000 ≤ n ∧ n ≤ 1000000000000000 := outB_f h
theorem noTime_far {n : Int} (h : noTime n = true) : n < -1000000000000000 ∨ 1000000000000000 < n := outB_t h
theorem noScale_bd {n : Int} (h : noScale n = false) : 1 ≤ n ∧ n ≤ 1000000000 := outB_f h
theorem noTime_of {n : Int} (h1 : -1000000000000000 ≤ n) (h2 : n ≤ 1000000000000000) : noTime n = false := by
  simp only [noTime, outB, Bool.or_eq_false_iff, decide_eq_false_iff_not]; omega
end Go.Proofs.Ytpecmhdepggnoaa
/- Samples that are right: their times and sizes, in plain numbers. -/
namespace Go.Proofs.Ytpecmhdepggnoaa
open Go.RowKit
set_option linter.unusedSimpArgs false

def Timed : Int → List Smp → Prop
  | _, [] => True
  | t, s :: r => s.time = t ∧ Timed (t + s.step) r
theorem badSmp_bd {s : Smp} (h : badSmp s = false) : -1000000000000000 ≤ s.time ∧ s.time ≤ 1000000000000000 ∧ 0 ≤ s.step ∧ s.step ≤ 1000000000 ∧ -1000000000 ≤ s.shift ∧ s.shift ≤ 1000000000 ∧ 0 ≤ s.size ∧ s.size ≤ 100000 := by
  simp only [badSmp, Bool.or_eq_false_iff] at h
  obtain ⟨⟨⟨h1, h2⟩, h3⟩, h4⟩ := h
  have := noTime_bd h1
  have := outB_f h2
  have := outB_f h3
  have := outB_f h4
  omega
theorem endW_eq {s : Smp} (h : badSmp s = false) : s.endW = s.time + s.step := by
  have := badSmp_bd h
  exact wrap_in (by omega) (by omega)
theorem smpGo_0 : ∀ {l : List Smp} {p : Option Int}, smpGo p l = 0 → (∀ s ∈ l, badSmp s = false) ∧ (∀ q, p = some q → Timed q l) ∧ (∀ s r, l = s :: r → Timed s.time l)
  | [], _, _ => ⟨by simp, fun _ _ => trivial, fun _ _ e => by cases e⟩
  | s :: r, p, h => by
    unfold smpGo at h
    split at h
    · cases h
    · rename_i h1
      split at h
      · cases h
      · rename_i h2
        obtain ⟨a, b, _⟩ := smpGo_0 h
        have hs : badSmp s = false := by simpa using h1
        have hb := b _ rfl
        rw [endW_eq hs] at hb
        refine ⟨?_, ?_, ?_⟩
        · intro x hx
          rcases List.mem_cons.1 hx with rfl | hx
          · exact hs
          · exact a x hx
        · rintro q rfl
          have hq : s.time = q := by simpa using h2
          subst hq
          exact ⟨rfl, hb⟩
        · intro s' r' e
          injection e with e1 e2
          subst e1
          exact ⟨rfl, hb⟩
theorem smpF_0 {l : List Smp} (h : smpF l = 0) : l.length ≤ 5000 ∧ (∀ s ∈ l, badSmp s = false) ∧ (∀ s r, l = s :: r → Timed s.time l) ∧ ∀ s, l.getLast? = some s → noTime (s.time + s.step) = false := by
  unfold smpF at h
  split at h
  · cases h
  · split at h
    · rename_i h1; exact absurd h h1
    · rename_i h1
      obtain ⟨a, _, b⟩ := smpGo_0 (show smpGo none l = 0 by simpa using h1)
      split at h
      · cases h
      · rename_i h2
        refine ⟨by omega, a, b, fun s hs => ?_⟩
        rw [hs] at h2
        have := a s (List.mem_of_getLast? hs)
        rw [← endW_eq this]
        simpa using h2
theorem timed_bd : ∀ {l : List Smp} {t : Int}, Timed t l → (∀ s ∈ l, badSmp s = false) → ∀ k (h : k < l.length), t ≤ l[k].time ∧ l[k].time ≤ t + 1000000000 * k
  | [], _, _, _, k, h => by simp at h
  | s :: r, t, ht, hb, k, h => by
    obtain ⟨h1, h2⟩ := ht
    have b := badSmp_bd (hb s List.mem_cons_self)
    cases k with
    | zero => simp; omega
    | succ k =>
      have := timed_bd h2 (fun x hx => hb x (List.mem_cons_of_mem _ hx)) k (by simpa using h)
      simp only [List.getElem_cons_succ]
      omega
/-- The sum of sizes. -/
def sizes : List Smp → Int
  | [] => 0
  | s :: r => s.size + sizes r
theorem sizes_bd : ∀ {l : List Smp}, (∀ s ∈ l, badSmp s = false) → 0 ≤ sizes l ∧ sizes l ≤ 100000 * l.length
  | [], _ => by simp [sizes]
  | s :: r, h => by
    have b := badSmp_bd (h s List.mem_cons_self)
    have := sizes_bd fun x hx => h x (List.mem_cons_of_mem s hx)
    simp only [sizes, List.length_cons]; omega
theorem sizes_take {l : List Smp} : ∀ {k : Nat} (h : k < l.length), sizes (l.take (k + 1)) = sizes (l.take k) + l[k].size := by
  induction l with
  | nil => intro k h; simp at h
  | cons s r ih =>
    intro k h
    cases k with
    | zero => simp [sizes]
    | succ k =>
      have := ih (k := k) (by simpa using h)
      simp only [List.take_succ_cons, sizes, List.getElem_cons_succ] at this ⊢
      omega
theorem sizes_split (l : List Smp) (k : Nat) : sizes l = sizes (l.take k) + sizes (l.drop k) := by
  induction l generalizing k with
  | nil => simp [sizes]
  | cons s r ih =>
    cases k with
    | zero => simp [sizes]
    | succ k => simp only [List.take_succ_cons, List.drop_succ_cons, sizes]; rw [ih k]; omega
end Go.Proofs.Ytpecmhdepggnoaa
/- A part of samples that are right is right (plain). -/
namespace Go.Proofs.Ytpecmhdepggnoaa
open Go.RowKit
set_option linter.unusedSimpArgs false

/-! ### Part of samples that are right -/
theorem smpGo_none {p : Option Int} {l : List Smp} (h : smpGo p l = 0) : smpGo none l = 0 := by
  cases l with
  | nil => rfl
  | cons s r =>
    unfold smpGo at h ⊢
    split at h
    · cases h
    · rename_i h1
      split at h
      · cases h
      · rw [if_neg h1]; simpa using h
theorem smpGo_tail {p : Option Int} {s : Smp} {r : List Smp} (h : smpGo p (s :: r) = 0) : badSmp s = false ∧ smpGo (some s.endW) r = 0 := by
  unfold smpGo at h
  split at h
  · cases h
  · rename_i h1
    split at h
    · cases h
    · exact ⟨by simpa using h1, h⟩
theorem smpGo_drop : ∀ (f : Nat) {p : Option Int} {l : List Smp}, smpGo p l = 0 → smpGo none (l.drop f) = 0
  | 0, _, _, h => by simpa using smpGo_none h
  | f + 1, _, [], _ => rfl
  | f + 1, _, s :: r, h => by rw [List.drop_succ_cons]; exact smpGo_drop f (smpGo_tail h).2
theorem smpGo_take : ∀ (t : Nat) {p : Option Int} {l : List Smp}, smpGo p l = 0 → smpGo p (l.take t) = 0
  | 0, _, _, _ => by simp [smpGo]
  | t + 1, _, [], _ => by simp [smpGo]
  | t + 1, p, s :: r, h => by
    rw [List.take_succ_cons]
    have ht := smpGo_tail h
    unfold smpGo at h ⊢
    split at h
    · cases h
    · rename_i h1
      split at h
      · cases h
      · rename_i h2
        rw [if_neg h1, if_neg h2]; exact smpGo_take t ht.2
theorem smpGo_next : ∀ {l : List Smp} {p : Option Int}, smpGo p l = 0 → ∀ k (h : k + 1 < l.length), l[k + 1].time = l[k].endW
  | [], _, _, k, h => by simp at h
  | s :: r, p, hg, k, h => by
    have ht := smpGo_tail hg
    cases k with
    | zero =>
      cases r with
      | nil => simp at h
      | cons u v =>
        have h2 := ht.2
        unfold smpGo at h2
        split at h2
        · cases h2
        · split at h2
          · cases h2
          · rename_i q
            simpa using q
    | succ k => simpa using smpGo_next ht.2 k (by simpa using h)
theorem smpF_part {l : List Smp} (h : smpF l = 0) {q t : Nat} (hqt : q ≤ t) (ht : t < l.length) : smpF ((l.take (t + 1)).drop q) = 0 := by
  have h0 := h
  unfold smpF at h
  split at h
  · cases h
  rename_i hl
  split at h
  · rename_i h1; exact absurd h h1
  rename_i h1
  simp only [ne_eq, Decidable.not_not] at h1
  split at h
  · cases h
  rename_i hlast
  have hg : smpGo none ((l.take (t + 1)).drop q) = 0 := smpGo_drop q (smpGo_take (t + 1) h1)
  have hlen : ((l.take (t + 1)).drop q).length = t + 1 - q := by rw [List.length_drop, List.length_take]; omega
  have hgl : ((l.take (t + 1)).drop q).getLast? = some l[t] := by
    rw [List.getLast?_eq_getElem?, hlen, List.getElem?_drop, List.getElem?_take, if_pos (by omega), show q + (t + 1 - q - 1) = t by omega, List.getElem?_eq_getElem ht]
  unfold smpF
  rw [if_neg (by omega), hg, if_neg (by simp), hgl]
  simp only [Option.any_some]
  rw [if_neg]
  rw [Bool.not_eq_true]
  by_cases hn : t + 1 < l.length
  · rw [← smpGo_next h1 t hn]
    have hb := (smpF_0 h0).2.1 _ (List.getElem_mem hn)
    simp only [badSmp, Bool.or_eq_false_iff] at hb
    exact hb.1.1.1
  · have hle : l.getLast? = some l[t] := by
      rw [List.getLast?_eq_getElem?, show l.length - 1 = t by omega, List.getElem?_eq_getElem ht]
    rw [hle] at hlast
    simpa using hlast
end Go.Proofs.Ytpecmhdepggnoaa
