/- Samples that are right: their times and sizes, in plain numbers. -/
import Derived.Test.YtbdcnooafacldaaKSmp
import Derived.Test.YtbdcnooafacldaaKBd
namespace Go.Proofs.Ytbdcnooafacldaa
open Go.RowKit
set_option linter.unusedSimpArgs false

def Timed : Int → List Smp → Prop
  | _, [] => True
  | t, s :: r => s.time = t ∧ Timed (t + s.step) r
theorem badSmp_bd {s : Smp} (h : badSmp s = false) : -1000000000000000 ≤ s.time ∧ s.time ≤ 1000000000000000 ∧ 0 ≤ s.step ∧ s.step ≤ 1000000000 ∧ -1000000000 ≤ s.shift ∧ s.shift ≤ 1000000000 ∧ 0 ≤ s.size ∧ s.size ≤ 100000 := by
  simp only [badSmp, Bool.or_eq_false_iff] at h
  obtain ⟨⟨⟨h1, h2⟩, h3⟩, h4⟩ := h
  have := noTime_bd h1
  have := outB_f h2
  have := outB_f h3
  have := outB_f h4
  omega
theorem endW_eq {s : Smp} (h : badSmp s = false) : s.endW = s.time + s.step := by
  have := badSmp_bd h
  exact wrap_in (by omega) (by omega)
theorem smpGo_0 : ∀ {l : List Smp} {p : Option Int}, smpGo p l = 0 → (∀ s ∈ l, badSmp s = false) ∧ (∀ q, p = some q → Timed q l) ∧ (∀ s r, l = s :: r → Timed s.time l)
  | [], _, _ => ⟨by simp, fun _ _ => trivial, fun _ _ e => by cases e⟩
  | s :: r, p, h => by
    unfold smpGo at h
    split at h
    · cases h
    · rename_i h1
      split at h
      · cases h
      · rename_i h2
        obtain ⟨a, b, _⟩ := smpGo_0 h
        have hs : badSmp s = false := by simpa using h1
        have hb := b _ rfl
        rw [endW_eq hs] at hb
        refine ⟨?_, ?_, ?_⟩
        · intro x hx
          rcases List.mem_cons.1 hx with rfl | hx
          · exact hs
          · exact a x hx
        · rintro q rfl
          have hq : s.time = q := by simpa using h2
          subst hq
          exact ⟨rfl, hb⟩
        · intro s' r' e
          injection e with e1 e2
          subst e1
          exact ⟨rfl, hb⟩
theorem smpF_0 {l : List Smp} (h : smpF l = 0) : l.length ≤ 5000 ∧ (∀ s ∈ l, badSmp s = false) ∧ (∀ s r, l = s :: r → Timed s.time l) ∧ ∀ s, l.getLast? = some s → noTime (s.time + s.step) = false := by
  unfold smpF at h
  split at h
  · cases h
  · split at h
    · rename_i h1; exact absurd h h1
    · rename_i h1
      obtain ⟨a, _, b⟩ := smpGo_0 (show smpGo none l = 0 by simpa using h1)
      split at h
      · cases h
      · rename_i h2
        refine ⟨by omega, a, b, fun s hs => ?_⟩
        rw [hs] at h2
        have := a s (List.mem_of_getLast? hs)
        rw [← endW_eq this]
        simpa using h2
theorem timed_bd : ∀ {l : List Smp} {t : Int}, Timed t l → (∀ s ∈ l, badSmp s = false) → ∀ k (h : k < l.length), t ≤ l[k].time ∧ l[k].time ≤ t + 1000000000 * k
  | [], _, _, _, k, h => by simp at h
  | s :: r, t, ht, hb, k, h => by
    obtain ⟨h1, h2⟩ := ht
    have b := badSmp_bd (hb s List.mem_cons_self)
    cases k with
    | zero => simp; omega
    | succ k =>
      have := timed_bd h2 (fun x hx => hb x (List.mem_cons_of_mem _ hx)) k (by simpa using h)
      simp only [List.getElem_cons_succ]
      omega
/-- The sum of sizes. -/
def sizes : List Smp → Int
  | [] => 0
  | s :: r => s.size + sizes r
theorem sizes_bd : ∀ {l : List Smp}, (∀ s ∈ l, badSmp s = false) → 0 ≤ sizes l ∧ sizes l ≤ 100000 * l.length
  | [], _ => by simp [sizes]
  | s :: r, h => by
    have b := badSmp_bd (h s List.mem_cons_self)
    have := sizes_bd fun x hx => h x (List.mem_cons_of_mem s hx)
    simp only [sizes, List.length_cons]; omega
theorem sizes_take {l : List Smp} : ∀ {k : Nat} (h : k < l.length), sizes (l.take (k + 1)) = sizes (l.take k) + l[k].size := by
  induction l with
  | nil => intro k h; simp at h
  | cons s r ih =>
    intro k h
    cases k with
    | zero => simp [sizes]
    | succ k =>
      have := ih (k := k) (by simpa using h)
      simp only [List.take_succ_cons, sizes, List.getElem_cons_succ] at this ⊢
      omega
theorem sizes_split (l : List Smp) (k : Nat) : sizes l = sizes (l.take k) + sizes (l.drop k) := by
  induction l generalizing k with
  | nil => simp [sizes]
  | cons s r ih =>
    cases k with
    | zero => simp [sizes]
    | succ k => simp only [List.take_succ_cons, List.drop_succ_cons, sizes]; rw [ih k]; omega
end Go.Proofs.Ytbdcnooafacldaa
