/- What has a moment is among what is fetched: the law's function, by the machine on data. -/
import Derived.Test.YtpkeiabifoipoaaDmP
import Derived.Test.YtpkeiabifoipoaaKRng
import Derived.Test.YtpkeiabifoipoaaKGrid
namespace Go.Proofs.Ytpkeiabifoipoaa
open Go.RowKit
set_option linter.unusedSimpArgs false

def Seg.fits (s : Seg) : Prop := I64 s.number ∧ I64 s.frm ∧ I64 s.to ∧ I64 s.beg ∧ I64 s.len ∧ I64 s.bytes ∧ I64 s.lead
theorem all_seg (x : List AV) (h : HasAll [.int .i64, .int .i64, .int .i64, .int .i64, .int .i64, .int .i64, .int .i64] x) : ∃ s : Seg, x = s.av ∧ s.fits := by
  obtain ⟨v0, r, rfl, h0, h⟩ := all_cons h
  obtain ⟨v1, r, rfl, h1, h⟩ := all_cons h
  obtain ⟨v2, r, rfl, h2, h⟩ := all_cons h
  obtain ⟨v3, r, rfl, h3, h⟩ := all_cons h
  obtain ⟨v4, r, rfl, h4, h⟩ := all_cons h
  obtain ⟨v5, r, rfl, h5, h⟩ := all_cons h
  obtain ⟨v6, r, rfl, h6, h⟩ := all_cons h
  obtain rfl := all_nil h
  obtain ⟨n0, rfl, b0⟩ := has_int h0
  obtain ⟨n1, rfl, b1⟩ := has_int h1
  obtain ⟨n2, rfl, b2⟩ := has_int h2
  obtain ⟨n3, rfl, b3⟩ := has_int h3
  obtain ⟨n4, rfl, b4⟩ := has_int h4
  obtain ⟨n5, rfl, b5⟩ := has_int h5
  obtain ⟨n6, rfl, b6⟩ := has_int h6
  exact ⟨⟨n0, n1, n2, n3, n4, n5, n6⟩, rfl, b0, b1, b2, b3, b4, b5, b6⟩

/-! ### The plain law -/
theorem wrap_wrap_sub (t a b : Int) : IntKind.i64.wrap (IntKind.i64.wrap (t - a) - b) = IntKind.i64.wrap (t - IntKind.i64.wrap (a + b)) := by
  simp only [IntKind.wrap_i64]; omega
theorem seekGo_0 {l : List Seg} {t : Int} : ∀ {n : Nat}, n ≤ l.length → (seekGo l t n).2.2 = 0 →
    ∃ k d, ∃ h : k < l.length, k < n ∧ seekGo l t n = ((k : Int), d, 0) ∧ d = IntKind.i64.wrap (t - l[k].bw) ∧ 0 ≤ d ∧ d < l[k].len
  | 0, _, h => by simp [seekGo] at h
  | n + 1, hn, h => by
    have hlt : n < l.length := by omega
    unfold seekGo at h ⊢
    rw [List.getElem?_eq_getElem hlt] at h ⊢
    simp only at h ⊢
    split at h
    · rename_i hc
      rw [if_pos hc]
      exact ⟨n, _, hlt, by omega, rfl, rfl, hc.1, hc.2⟩
    · rename_i hc
      rw [if_neg hc]
      obtain ⟨k, d, hk, h1, h2⟩ := seekGo_0 (by omega) h
      exact ⟨k, d, hk, by omega, h2⟩
theorem seek_0 {l : List Seg} {t : Int} (h : (seek l t).2.2 = 0) : row l = 0 ∧ noTime t = false ∧ ∃ k d, ∃ h : k < l.length, seek l t = ((k : Int), d, 0) ∧ d = IntKind.i64.wrap (t - l[k].bw) ∧ 0 ≤ d ∧ d < l[k].len := by
  unfold seek at h ⊢
  split at h
  · rename_i h1; exact absurd h h1
  · rename_i h1
    simp only [ne_eq, Decidable.not_not] at h1
    split at h
    · simp at h
    · rename_i h2
      rw [if_neg (by simp [h1]), if_neg h2]
      obtain ⟨k, d, hk, _, h3⟩ := seekGo_0 (Nat.le_refl _) h
      exact ⟨h1, by simpa using h2, k, d, hk, h3⟩
theorem seekGo_no {l : List Seg} {t : Int} : ∀ {n : Nat}, n ≤ l.length → (seekGo l t n).2.2 ≠ 0 → (seekGo l t n).1 = 0 ∧ (seekGo l t n).2.1 = 0
  | 0, _, _ => by simp [seekGo]
  | n + 1, hn, h => by
    have hlt : n < l.length := by omega
    unfold seekGo at h ⊢
    rw [List.getElem?_eq_getElem hlt] at h ⊢
    simp only at h ⊢
    split at h
    · simp at h
    · rename_i hc
      rw [if_neg hc]
      exact seekGo_no (by omega) h
theorem seek_no {l : List Seg} {t : Int} (h : (seek l t).2.2 ≠ 0) : (seek l t).1 = 0 ∧ (seek l t).2.1 = 0 := by
  unfold seek at h ⊢
  split at h
  · rename_i h1; rw [if_pos h1]; exact ⟨rfl, rfl⟩
  · rename_i h1
    rw [if_neg h1]
    split at h
    · rename_i h2; rw [if_pos h2]; exact ⟨rfl, rfl⟩
    · rename_i h2; rw [if_neg h2]; exact seekGo_no (Nat.le_refl _) h
/-- The first and the last that meet: none before the first one, the given one between them. -/
theorem fetGo_has {a b : Int} : ∀ (l : List Seg) (k : Nat) (p : Int × Int), (p.1 < 0 → p = (-1, -1)) → (0 ≤ p.1 → p.1 ≤ p.2 ∧ p.2 < k) →
    (∀ i, (h : i < l.length) → meets a b l[i] = true → 0 ≤ (fetGo a b k p l).1 ∧ (fetGo a b k p l).1 ≤ ((k + i : Nat) : Int) ∧ ((k + i : Nat) : Int) ≤ (fetGo a b k p l).2) ∧
    (0 ≤ p.1 → (fetGo a b k p l).1 = p.1) ∧ (0 ≤ (fetGo a b k p l).1 → (fetGo a b k p l).2 < ((k + l.length : Nat) : Int) ∧ (fetGo a b k p l).1 ≤ (fetGo a b k p l).2) ∧ p.2 ≤ (fetGo a b k p l).2
  | [], k, p, h1, h2 => by
    refine ⟨fun i h => by simp at h, fun _ => rfl, fun h => ?_, Int.le_refl _⟩
    have := h2 h
    exact ⟨by simpa [fetGo] using this.2, this.1⟩
  | s :: r, k, p, h1, h2 => by
    have hA : (if meets a b s then (if p.1 < 0 then (k : Int) else p.1, (k : Int)) else p).1 < 0 → (if meets a b s then (if p.1 < 0 then (k : Int) else p.1, (k : Int)) else p) = (-1, -1) := fun h => by
      by_cases hm : meets a b s = true
      · rw [if_pos hm] at h
        by_cases hp : p.1 < 0
        · simp only [hp, if_true] at h; omega
        · simp only [hp, if_false] at h
      · rw [if_neg hm] at h ⊢; exact h1 h
    have hB : 0 ≤ (if meets a b s then (if p.1 < 0 then (k : Int) else p.1, (k : Int)) else p).1 → (if meets a b s then (if p.1 < 0 then (k : Int) else p.1, (k : Int)) else p).1 ≤ (if meets a b s then (if p.1 < 0 then (k : Int) else p.1, (k : Int)) else p).2 ∧ (if meets a b s then (if p.1 < 0 then (k : Int) else p.1, (k : Int)) else p).2 < ((k + 1 : Nat) : Int) := fun h => by
      by_cases hm : meets a b s = true
      · rw [if_pos hm] at h ⊢
        by_cases hp : p.1 < 0
        · simp only [hp, if_true]; omega
        · have := h2 (by omega); simp only [hp, if_false]; omega
      · rw [if_neg hm] at h ⊢
        have := h2 h
        omega
    have hq := fetGo_has (a := a) (b := b) r (k + 1) _ hA hB
    clear hA hB
    obtain ⟨q1, q2, q3, q4⟩ := hq
    unfold fetGo
    refine ⟨fun i hi hm => ?_, fun h => ?_, fun h => ?_, ?_⟩
    · cases i with
      | zero =>
        have hs : meets a b s = true := hm
        simp only [hs, if_true] at q1 q2 q3 q4 ⊢
        by_cases hp : p.1 < 0
        · simp only [hp, if_true] at q2 q4 ⊢
          have := q2 (by omega)
          omega
        · simp only [hp, if_false] at q2 q4 ⊢
          have := q2 (by omega)
          have := h2 (by omega)
          omega
      | succ i =>
        have := q1 i (by simpa using hi) (by simpa using hm)
        omega
    · have : 0 ≤ (if meets a b s then (if p.1 < 0 then (k : Int) else p.1, (k : Int)) else p).1 := by split <;> simp [show ¬ p.1 < 0 by omega, h]
      rw [q2 this]
      split <;> simp [show ¬ p.1 < 0 by omega]
    · have := q3 h
      simp only [List.length_cons]
      omega
    · refine Int.le_trans ?_ q4
      split
      · simp only
        by_cases hp : p.1 < 0
        · rw [h1 hp]; simp
        · have := h2 (by omega); omega
      · exact Int.le_refl _
/-- Where segments lie. -/
def rngL : Int → List Seg → List Rg
  | _, [] => []
  | st, s :: r => ⟨st, st + s.bytes⟩ :: rngL (st + s.bytes) r
theorem rngGo_0 : ∀ (l : List Seg) (st : Int) (out : List Rg), 0 ≤ st → st ≤ 1000000000000000 → (rngGo st out l).2 = 0 → (rngGo st out l).1 = out ++ rngL st l ∧ ∀ s ∈ l, 0 ≤ s.bytes
  | [], st, out, _, _, _ => by simp [rngGo, rngL]
  | s :: r, st, out, h0, h1, h => by
    unfold rngGo at h ⊢
    split at h
    · cases h
    · rename_i hb
      rw [if_neg hb]
      simp only [rngBad, Bool.or_eq_true, not_or, Bool.not_eq_true, decide_eq_true_eq, Int.not_lt] at hb
      obtain ⟨b1, b2⟩ := outB_f hb.1
      have hw : IntKind.i64.wrap (st + s.bytes) = st + s.bytes := wrap_in (by omega) (by omega)
      rw [hw] at h ⊢
      have hb2 := hb.2
      rw [hw] at hb2
      obtain ⟨e1, e2⟩ := rngGo_0 r _ _ (by omega) hb2 h
      rw [e1]
      refine ⟨by simp [rngL], fun x hx => ?_⟩
      rcases List.mem_cons.1 hx with rfl | hx
      · exact b1
      · exact e2 x hx
theorem rng_0 {l : List Seg} {st : Int} (h : (rng l st).2 = 0) : (rng l st).1 = rngL st l ∧ ∀ s ∈ l, 0 ≤ s.bytes := by
  unfold rng at h ⊢
  split at h
  · cases h
  · rename_i h1
    split at h
    · cases h
    · rename_i h2
      rw [if_neg h1, if_neg h2]
      obtain ⟨b1, b2⟩ := outB_f (by simpa using h1)
      have := rngGo_0 l st [] b1 b2 h
      simpa using this
theorem rngL_low : ∀ (l : List Seg) (st : Int), (∀ s ∈ l, 0 ≤ s.bytes) → ∀ x ∈ rngL st l, st ≤ x.frm ∧ x.frm ≤ x.to
  | [], _, _, x, hx => by simp [rngL] at hx
  | s :: r, st, h, x, hx => by
    have hs := h s (by simp)
    rcases List.mem_cons.1 hx with rfl | hx
    · exact ⟨Int.le_refl _, by simp only; omega⟩
    · have := rngL_low r _ (fun y hy => h y (by simp [hy])) x hx
      omega
theorem rngL_up : ∀ (l : List Seg) (st : Int), (∀ s ∈ l, 0 ≤ s.bytes) → ∀ i j, (hi : i < (rngL st l).length) → (hj : j < (rngL st l).length) → i ≤ j → (rngL st l)[i].frm ≤ (rngL st l)[j].frm ∧ (rngL st l)[i].to ≤ (rngL st l)[j].to
  | [], _, _, i, j, hi, _, _ => by simp [rngL] at hi
  | s :: r, st, h, i, j, hi, hj, hij => by
    have hr : ∀ y ∈ r, 0 ≤ y.bytes := fun y hy => h y (by simp [hy])
    have hs := h s (by simp)
    cases i with
    | zero =>
      cases j with
      | zero => exact ⟨Int.le_refl _, Int.le_refl _⟩
      | succ j =>
        have hj' : j < (rngL (st + s.bytes) r).length := by simpa [rngL] using hj
        have := rngL_low r (st + s.bytes) hr _ (List.getElem_mem hj')
        simp only [rngL, List.getElem_cons_zero, List.getElem_cons_succ]
        omega
    | succ i =>
      cases j with
      | zero => omega
      | succ j => simpa [rngL] using rngL_up r (st + s.bytes) hr i j (by simpa [rngL] using hi) (by simpa [rngL] using hj) (by omega)

theorem row_good : ∀ {l : List Seg} {p : Option Int}, rowGo p l = 0 → ∀ s ∈ l, badSeg s = false
  | [], _, _, s, hs => by simp at hs
  | x :: r, p, h, s, hs => by
    unfold rowGo at h
    split at h
    · cases h
    · rename_i hb
      split at h
      · cases h
      · rcases List.mem_cons.1 hs with rfl | hs
        · simpa using hb
        · exact row_good h s hs
theorem row_0 {l : List Seg} (h : row l = 0) : rowGo none l = 0 := by
  unfold row at h
  split at h
  · cases h
  · exact h
theorem noTime_b {n : Int} (h : noTime n = false) : -1000000000000000 ≤ n ∧ n ≤ 1000000000000000 := outB_f h
theorem bad_seg {s : Seg} (h : badSeg s = false) : s.bw = s.beg + s.lead ∧ IntKind.i64.wrap (s.bw + s.len) = s.beg + s.lead + s.len ∧ -1000000000000000 ≤ s.beg ∧ s.beg ≤ 1000000000000000 ∧ -1000000000000000 ≤ s.lead ∧ s.lead ≤ 1000000000000000 ∧ s.len ≤ 1000000000000000 := by
  simp only [badSeg, Bool.or_eq_false_iff] at h
  obtain ⟨⟨⟨h1, h2⟩, h3⟩, h4⟩ := h
  have b1 := noTime_b h1
  have b2 := noTime_b h2
  have b3 := noTime_b h3
  have e : s.bw = s.beg + s.lead := by unfold Seg.bw Seg.bnd; exact wrap_in (by omega) (by omega)
  refine ⟨e, ?_, b1.1, b1.2, b2.1, b2.2, b3.2⟩
  rw [e]
  exact wrap_in (by omega) (by omega)
theorem fetch_late {l : List Seg} {a b st : Int} (h1 : (rng l st).2 ≠ 0) : (fetch l a b st).2 = (rng l st).2 := by
  have e : firstF [(rng l st).2, row l] = (rng l st).2 := by simp [firstF, h1]
  simp [fetch, e, h1]
theorem fetch_far {l : List Seg} {a b st : Int} (h1 : (rng l st).2 = 0) (h2 : row l = 0) (h3 : noTime b = true) : fetch l a b st = (⟨0, 0⟩, 1) := by
  simp [fetch, firstF, h1, h2, h3]
theorem fetch_has {l : List Seg} {a b st : Int} {k : Nat} (hk : k < l.length) (h1 : (rng l st).2 = 0) (h2 : row l = 0) (h3 : noTime a = false) (h4 : noTime b = false) (h5 : a < b) (h6 : 0 ≤ a - l[k].bw) (h7 : a - l[k].bw < l[k].len) :
    ∃ i j, ∃ hi : i < (rng l st).1.length, ∃ hj : j < (rng l st).1.length, i ≤ k ∧ k ≤ j ∧ fetch l a b st = (⟨(rng l st).1[i].frm, (rng l st).1[j].to⟩, 0) := by
  have hrl := rng_len h1
  obtain ⟨e1, e2, _⟩ := bad_seg (row_good (row_0 h2) l[k] (List.getElem_mem hk))
  have hm : meets a b l[k] = true := by
    simp only [meets, decide_eq_true_eq, e2, e1] at *
    split <;> split <;> omega
  obtain ⟨q1, q2, q3, q4⟩ := fetGo_has (a := a) (b := b) l 0 (-1, -1) (fun _ => rfl) (fun h => by simp at h)
  obtain ⟨r1, r2, r3⟩ := q1 k hk hm
  obtain ⟨r4, r5⟩ := q3 r1
  have hF : fetch l a b st = (⟨((rng l st).1.getD (fetGo a b 0 (-1, -1) l).1.toNat ⟨0, 0⟩).frm, ((rng l st).1.getD (fetGo a b 0 (-1, -1) l).2.toNat ⟨0, 0⟩).to⟩, 0) := by
    simp [fetch, firstF, h1, h2, h3, h4, show ¬ b ≤ a by omega, show ¬ (fetGo a b 0 (-1, -1) l).1 < 0 by omega]
  have hi : (fetGo a b 0 (-1, -1) l).1.toNat < (rng l st).1.length := by omega
  have hj : (fetGo a b 0 (-1, -1) l).2.toNat < (rng l st).1.length := by omega
  exact ⟨_, _, hi, hj, by omega, by omega, by rw [hF]; simp [hi, hj]⟩

/-! headend/headendlaw4.CutSeeksAreFetched -/
def r7_0 : List POp := [⟨8, .asg (.c (.bool false)), none⟩]
def r7_1 : List POp := [⟨16, .mv (.t 0), none⟩,
  ⟨17, .mv (.t 2), none⟩,
  ⟨18, .call 19 [.t 16, .t 17], none⟩,
  ⟨15, .mv (.t 18), none⟩,
  ⟨19, .ext 0 (.t 15), none⟩,
  ⟨20, .ext 1 (.t 15), none⟩,
  ⟨21, .ext 2 (.t 15), none⟩,
  ⟨9, .mv (.t 19), none⟩,
  ⟨10, .mv (.t 20), none⟩,
  ⟨11, .mv (.t 21), none⟩]
def r7_2 : List POp := [⟨22, .mv (.t 11), none⟩,
  ⟨23, .bin .neq (.t 22) (.c (.int .i64 0)), none⟩,
  ⟨24, .mv (.t 23), none⟩,
  ⟨25, .mv (.t 3), some (24, false)⟩,
  ⟨26, .bin .lss (.t 25) (.c (.int .i64 1)), some (24, false)⟩,
  ⟨27, .pick (.t 24) (.c (.bool true)) (.t 26), none⟩,
  ⟨28, .mv (.t 27), none⟩,
  ⟨29, .mv (.t 3), some (28, false)⟩,
  ⟨30, .bin .gtr (.t 29) (.c (.int .i64 1000000)), some (28, false)⟩,
  ⟨31, .pick (.t 28) (.c (.bool true)) (.t 30), none⟩]
def r7_3 : List POp := [⟨32, .mv (.t 11), none⟩,
  ⟨33, .bin .eql (.t 32) (.c (.int .i64 0)), none⟩,
  ⟨34, .mv (.t 33), none⟩,
  ⟨35, .mv (.t 9), some (34, false)⟩,
  ⟨36, .bin .eql (.t 35) (.c (.int .i64 0)), some (34, false)⟩,
  ⟨37, .mv (.t 36), some (34, false)⟩,
  ⟨38, .mv (.t 10), some (37, true)⟩,
  ⟨39, .bin .eql (.t 38) (.c (.int .i64 0)), some (37, true)⟩,
  ⟨40, .pick (.t 37) (.t 39) (.c (.bool false)), some (34, false)⟩,
  ⟨41, .pick (.t 34) (.c (.bool true)) (.t 40), none⟩,
  ⟨42, .mv (.t 41), none⟩,
  ⟨43, .call 12 [], some (42, true)⟩,
  ⟨44, .pick (.t 42) (.t 43) (.c (.bool false)), none⟩,
  ⟨8, .asg (.t 44), none⟩]
def r7_4 : List POp := [⟨45, .mv (.t 9), none⟩,
  ⟨46, .bin .lss (.t 45) (.c (.int .i64 0)), none⟩,
  ⟨47, .mv (.t 46), none⟩,
  ⟨48, .mv (.t 9), some (47, false)⟩,
  ⟨49, .mv (.t 0), some (47, false)⟩,
  ⟨50, .len (.t 49), some (47, false)⟩,
  ⟨51, .bin .geq (.t 48) (.t 50), some (47, false)⟩,
  ⟨52, .pick (.t 47) (.c (.bool true)) (.t 51), none⟩,
  ⟨53, .mv (.t 52), none⟩,
  ⟨54, .mv (.t 10), some (53, false)⟩,
  ⟨55, .mv (.t 2), some (53, false)⟩,
  ⟨56, .mv (.t 0), some (53, false)⟩,
  ⟨57, .mv (.t 9), some (53, false)⟩,
  ⟨58, .idx 7 (.t 56) (.t 57), some (53, false)⟩,
  ⟨59, .fld 3 (.t 58), some (53, false)⟩,
  ⟨60, .load (.t 59), some (53, false)⟩,
  ⟨61, .bin .sub (.t 55) (.t 60), some (53, false)⟩,
  ⟨62, .mv (.t 0), some (53, false)⟩,
  ⟨63, .mv (.t 9), some (53, false)⟩,
  ⟨64, .idx 7 (.t 62) (.t 63), some (53, false)⟩,
  ⟨65, .fld 6 (.t 64), some (53, false)⟩,
  ⟨66, .load (.t 65), some (53, false)⟩,
  ⟨67, .bin .sub (.t 61) (.t 66), some (53, false)⟩,
  ⟨68, .bin .neq (.t 54) (.t 67), some (53, false)⟩,
  ⟨69, .pick (.t 53) (.c (.bool true)) (.t 68), none⟩]
def r7_5 : List POp := [⟨8, .asg (.c (.bool false)), none⟩]
def r7_6 : List POp := [⟨71, .mv (.t 0), none⟩,
  ⟨72, .mv (.t 1), none⟩,
  ⟨73, .call 20 [.t 71, .t 72], none⟩,
  ⟨70, .mv (.t 73), none⟩,
  ⟨74, .ext 0 (.t 70), none⟩,
  ⟨75, .ext 1 (.t 70), none⟩,
  ⟨12, .asg (.t 74), none⟩,
  ⟨11, .mv (.t 75), none⟩]
def r7_7 : List POp := [⟨77, .mv (.t 0), none⟩,
  ⟨78, .mv (.t 2), none⟩,
  ⟨79, .mv (.t 2), none⟩,
  ⟨80, .mv (.t 3), none⟩,
  ⟨81, .bin .add (.t 79) (.t 80), none⟩,
  ⟨82, .build [.int .i64 0, .int .i64 0] [(0, 1, .t 78), (1, 1, .t 81)], none⟩,
  ⟨83, .mv (.t 1), none⟩,
  ⟨84, .call 21 [.t 77, .t 82, .t 83], none⟩,
  ⟨76, .mv (.t 84), none⟩,
  ⟨85, .ext 0 (.t 76), none⟩,
  ⟨86, .ext 1 (.t 76), none⟩,
  ⟨13, .alloc [.int .i64 0, .int .i64 0], none⟩,
  ⟨0, .stores 2 (.t 13) (.t 85), none⟩,
  ⟨14, .mv (.t 86), none⟩]
def r7_8 : List POp := [⟨87, .mv (.t 11), none⟩,
  ⟨88, .bin .neq (.t 87) (.c (.int .i64 0)), none⟩,
  ⟨89, .mv (.t 88), none⟩,
  ⟨90, .mv (.t 14), some (89, false)⟩,
  ⟨91, .bin .neq (.t 90) (.c (.int .i64 0)), some (89, false)⟩,
  ⟨92, .pick (.t 89) (.c (.bool true)) (.t 91), none⟩]
def r7_9 : List POp := [⟨93, .mv (.t 11), none⟩,
  ⟨94, .mv (.t 14), none⟩,
  ⟨95, .bin .eql (.t 93) (.t 94), none⟩,
  ⟨96, .mv (.t 95), none⟩,
  ⟨97, .mv (.t 11), some (96, false)⟩,
  ⟨98, .bin .eql (.t 97) (.c (.int .i64 0)), some (96, false)⟩,
  ⟨99, .pick (.t 96) (.c (.bool true)) (.t 98), none⟩,
  ⟨100, .mv (.t 99), none⟩,
  ⟨101, .mv (.t 11), some (100, true)⟩,
  ⟨102, .bin .neq (.t 101) (.c (.int .i64 0)), some (100, true)⟩,
  ⟨103, .mv (.t 102), some (100, true)⟩,
  ⟨104, .mv (.t 14), some (103, false)⟩,
  ⟨105, .bin .eql (.t 104) (.c (.int .i64 1)), some (103, false)⟩,
  ⟨106, .pick (.t 103) (.c (.bool true)) (.t 105), some (100, true)⟩,
  ⟨107, .pick (.t 100) (.t 106) (.c (.bool false)), none⟩,
  ⟨108, .mv (.t 107), none⟩,
  ⟨109, .call 12 [], some (108, true)⟩,
  ⟨110, .pick (.t 108) (.t 109) (.c (.bool false)), none⟩,
  ⟨8, .asg (.t 110), none⟩]
def r7_10 : List POp := [⟨111, .fld 0 (.t 13), none⟩,
  ⟨112, .load (.t 111), none⟩,
  ⟨113, .mv (.t 12), none⟩,
  ⟨114, .mv (.t 9), none⟩,
  ⟨115, .idx 2 (.t 113) (.t 114), none⟩,
  ⟨116, .fld 0 (.t 115), none⟩,
  ⟨117, .load (.t 116), none⟩,
  ⟨118, .bin .leq (.t 112) (.t 117), none⟩,
  ⟨119, .mv (.t 118), none⟩,
  ⟨120, .mv (.t 12), some (119, true)⟩,
  ⟨121, .mv (.t 9), some (119, true)⟩,
  ⟨122, .idx 2 (.t 120) (.t 121), some (119, true)⟩,
  ⟨123, .fld 1 (.t 122), some (119, true)⟩,
  ⟨124, .load (.t 123), some (119, true)⟩,
  ⟨125, .fld 1 (.t 13), some (119, true)⟩,
  ⟨126, .load (.t 125), some (119, true)⟩,
  ⟨127, .bin .leq (.t 124) (.t 126), some (119, true)⟩,
  ⟨128, .pick (.t 119) (.t 127) (.c (.bool false)), none⟩,
  ⟨129, .mv (.t 128), none⟩,
  ⟨130, .call 12 [], some (129, true)⟩,
  ⟨131, .pick (.t 129) (.t 130) (.c (.bool false)), none⟩,
  ⟨8, .asg (.t 131), none⟩]
def p7 : PCode := .seq (.ops r7_0) (.seq (.ops r7_1) (.seq (.seq (.ops r7_2) (.cond (.t 31) (.seq (.ops r7_3) (.ret)) (.skip))) (.seq (.seq (.ops r7_4) (.cond (.t 69) (.seq (.ops r7_5) (.ret)) (.skip))) (.seq (.ops r7_6) (.seq (.ops r7_7) (.seq (.seq (.ops r7_8) (.cond (.t 92) (.seq (.ops r7_9) (.ret)) (.skip))) (.seq (.ops r7_10) (.ret))))))))
theorem ok7 : okFunc Try.prog 7 [.t 8] 4 p7 = true := by kernel_rfl
set_option maxRecDepth 20000 in
theorem seeksD (l : List Seg) (st t n : Int) : CallOK Try.prog 7 [.ro (l.map Seg.av), .val (.int .i64 st), .val (.int .i64 t), .val (.int .i64 n)] (.val (.bool true)) := by
  refine call_of mixed ok7 rfl ?_
  have hs := seek_c l t
  by_cases h0 : (seek l t).2.2 = 0
  · obtain ⟨hrow, hnt, k, d, hk, he, hd, hd0, hd1⟩ := seek_0 h0
    rw [he] at hs
    simp only at hs
    obtain ⟨b1, b2, b3, b4, b5, b6, b7⟩ := bad_seg (row_good (row_0 hrow) l[k] (List.getElem_mem hk))
    have bt := noTime_b hnt
    have hd' : d = t - l[k].bw := by rw [hd]; exact wrap_in (by omega) (by omega)
    have hd2 : (d != IntKind.i64.wrap (IntKind.i64.wrap (t - l[k].beg) - l[k].lead)) = false := by
      rw [wrap_wrap_sub, hd]; simp [Seg.bw, Seg.bnd]
    by_cases hlong : n < 1 ∨ 1000000 < n
    · rcases hlong with hlong | hlong
      · repeat' first | (with_reducible refine condD (fun h => ?_) (fun h => ?_)) | (with_reducible refine condE (fun h => ?_) (fun h => ?_)) | (with_reducible refine condN (fun h => ?_) (fun h => ?_)) | (with_reducible refine condI (fun h => ?_) (fun h => ?_)) | (with_reducible refine condS (fun h => ?_) (fun h => ?_)) | (with_reducible refine guardD (by with_unfolding_all rfl) (fun h => ?_) (fun h => ?_)) | (with_reducible refine guardE (by with_unfolding_all rfl) (fun h => ?_) (fun h => ?_)) | (with_reducible refine guardN (by with_unfolding_all rfl) (fun h => ?_) (fun h => ?_)) | (with_reducible refine guardI (by with_unfolding_all rfl) (fun h => ?_) (fun h => ?_)) | (with_reducible refine guardS (by with_unfolding_all rfl) (fun h => ?_) (fun h => ?_)) | ((refine callG hs ?_)) | ((refine callG awake_c ?_)) | (with_reducible refine And.intro ?_ ?_; omega) | (simp only [done_eq, done_eq', donet_eq, donet_eq', fin_val, fin_tup, fin_agg, fin_ro, res_one, res_more, rv_t, rv_c, rv_l, AV.tup.injEq, AV.agg.injEq, AV.ro.injEq, List.cons.injEq, int_eq, bool_eq, Int.toNat_natCast, Int.reduceToNat, Int.toNat_zero, Int.toNat_one, Int.reduceLE, Int.reduceLT, Int.reduceBEq, Int.reduceBNe, beq_self_eq_true, bne_self_eq_false, decide_true, decide_false,  Int.reduceNeg, toNat_pred, toNat_succ, List.length_map, cnd_t, cnd_f, grd_tt, grd_u, grd_tf, grd_ft, grd_ff, g_skip, g_ops, g_seq, g_block, g_exit, g_ret, x_c, x_o, x_l, x_b, g_b, g_nil, r_all, o_nil, g_cond, o_guard, o_call, o_callm, o_callt, o_callx, o_callv, lk, ef, o_mv, o_pick, o_bin, o_never, o_eqs, o_eqb, o_un, o_conv, o_load, o_loadr, o_idxr, o_loads, o_fld, o_idx, o_idxs, o_len, o_lens, o_ext, o_nilck, o_slc, o_slcs, o_build, o_minmax, o_mkfn, o_alloc, o_box, o_boxs, o_row, o_rowr, o_mk, o_asg, o_app, o_store, o_stores, o_eqnil, hv, eqAV, ev, view_t, view_c, view_nil, view_fn, look_own, look_box, look_junk, look_val, look_nilsl, look_ro, look_roAt, look_agg, look_tup, look_clo, look_alias, look_ref, look_into, rowOf, cellsOf, argv, vbin, vun, bnd, elemOf, putParts, setAt, zav, ASt.rid, ASt.free, AV.kill, AV.isHome, AV.noLoan, AV.cellOK, Value.oneCell', put_at, mk_at, mk_nil, initSt, true_and, and_true, and_self, implies_true, List.map_cons, List.map_nil, List.forall_mem_cons, List.not_mem_nil, false_implies, List.length_cons, List.length_nil, List.getD_cons_zero, List.getD_cons_succ, List.getD_nil, List.drop_succ_cons, List.drop_zero, List.take_succ_cons, List.take_zero, List.set_cons_zero, List.set_cons_succ, List.all_cons, List.all_nil, Bool.and_true, Bool.true_and, Bool.not_true, Bool.not_false, reduceCtorEq, if_true, if_false, Bool.false_eq_true, ↓reduceIte, Nat.reduceEqDiff, Nat.reduceAdd, Nat.reduceSub, Nat.reduceMul, Nat.reduceLeDiff, Nat.reduceLT, ne_eq, not_false_eq_true, not_true_eq_false, Nat.one_ne_zero, Nat.zero_ne_one, r7_0, r7_1, r7_2, r7_3, r7_4, r7_5, r7_6, r7_7, r7_8, r7_9, r7_10, p7, hlong]) | (exfalso; omega)
      · have hlong' : ¬ n < 1 := by omega
        repeat' first | (with_reducible refine condD (fun h => ?_) (fun h => ?_)) | (with_reducible refine condE (fun h => ?_) (fun h => ?_)) | (with_reducible refine condN (fun h => ?_) (fun h => ?_)) | (with_reducible refine condI (fun h => ?_) (fun h => ?_)) | (with_reducible refine condS (fun h => ?_) (fun h => ?_)) | (with_reducible refine guardD (by with_unfolding_all rfl) (fun h => ?_) (fun h => ?_)) | (with_reducible refine guardE (by with_unfolding_all rfl) (fun h => ?_) (fun h => ?_)) | (with_reducible refine guardN (by with_unfolding_all rfl) (fun h => ?_) (fun h => ?_)) | (with_reducible refine guardI (by with_unfolding_all rfl) (fun h => ?_) (fun h => ?_)) | (with_reducible refine guardS (by with_unfolding_all rfl) (fun h => ?_) (fun h => ?_)) | ((refine callG hs ?_)) | ((refine callG awake_c ?_)) | (with_reducible refine And.intro ?_ ?_; omega) | (simp only [done_eq, done_eq', donet_eq, donet_eq', fin_val, fin_tup, fin_agg, fin_ro, res_one, res_more, rv_t, rv_c, rv_l, AV.tup.injEq, AV.agg.injEq, AV.ro.injEq, List.cons.injEq, int_eq, bool_eq, Int.toNat_natCast, Int.reduceToNat, Int.toNat_zero, Int.toNat_one, Int.reduceLE, Int.reduceLT, Int.reduceBEq, Int.reduceBNe, beq_self_eq_true, bne_self_eq_false, decide_true, decide_false,  Int.reduceNeg, toNat_pred, toNat_succ, List.length_map, cnd_t, cnd_f, grd_tt, grd_u, grd_tf, grd_ft, grd_ff, g_skip, g_ops, g_seq, g_block, g_exit, g_ret, x_c, x_o, x_l, x_b, g_b, g_nil, r_all, o_nil, g_cond, o_guard, o_call, o_callm, o_callt, o_callx, o_callv, lk, ef, o_mv, o_pick, o_bin, o_never, o_eqs, o_eqb, o_un, o_conv, o_load, o_loadr, o_idxr, o_loads, o_fld, o_idx, o_idxs, o_len, o_lens, o_ext, o_nilck, o_slc, o_slcs, o_build, o_minmax, o_mkfn, o_alloc, o_box, o_boxs, o_row, o_rowr, o_mk, o_asg, o_app, o_store, o_stores, o_eqnil, hv, eqAV, ev, view_t, view_c, view_nil, view_fn, look_own, look_box, look_junk, look_val, look_nilsl, look_ro, look_roAt, look_agg, look_tup, look_clo, look_alias, look_ref, look_into, rowOf, cellsOf, argv, vbin, vun, bnd, elemOf, putParts, setAt, zav, ASt.rid, ASt.free, AV.kill, AV.isHome, AV.noLoan, AV.cellOK, Value.oneCell', put_at, mk_at, mk_nil, initSt, true_and, and_true, and_self, implies_true, List.map_cons, List.map_nil, List.forall_mem_cons, List.not_mem_nil, false_implies, List.length_cons, List.length_nil, List.getD_cons_zero, List.getD_cons_succ, List.getD_nil, List.drop_succ_cons, List.drop_zero, List.take_succ_cons, List.take_zero, List.set_cons_zero, List.set_cons_succ, List.all_cons, List.all_nil, Bool.and_true, Bool.true_and, Bool.not_true, Bool.not_false, reduceCtorEq, if_true, if_false, Bool.false_eq_true, ↓reduceIte, Nat.reduceEqDiff, Nat.reduceAdd, Nat.reduceSub, Nat.reduceMul, Nat.reduceLeDiff, Nat.reduceLT, ne_eq, not_false_eq_true, not_true_eq_false, Nat.one_ne_zero, Nat.zero_ne_one, r7_0, r7_1, r7_2, r7_3, r7_4, r7_5, r7_6, r7_7, r7_8, r7_9, r7_10, p7, hlong, hlong']) | (exfalso; omega)
    · have hl1 : ¬ n < 1 := by omega
      have hl2 : ¬ 1000000 < n := by omega
      have hk0 : ¬ (k : Int) < 0 := by omega
      have hk1 : ¬ (l.length : Int) ≤ k := by omega
      have hw : IntKind.i64.wrap (t + n) = t + n := wrap_in (by omega) (by omega)
      by_cases hz : (rng l st).2 = 0
      · have hrl := rng_len hz
        have hk' : k < (rng l st).1.length := by omega
        have hr := ranges_c l st
        rw [hz] at hr
        cases hnb : noTime (t + n)
        · obtain ⟨i, j, hi, hj, hik, hkj, hF⟩ := fetch_has hk hz hrow hnt hnb (by omega) (by omega) (by omega)
          have hf := fetch_c l t (t + n) st
          rw [hF] at hf
          simp only [Rg.av] at hf
          obtain ⟨u1, u2⟩ := rng_0 hz
          have up1 : (rng l st).1[i].frm ≤ (rng l st).1[k].frm := by
            have := rngL_up l st u2 i k (by rw [← u1]; exact hi) (by rw [← u1]; exact hk') hik
            simp only [u1]; exact this.1
          have up2 : (rng l st).1[k].to ≤ (rng l st).1[j].to := by
            have := rngL_up l st u2 k j (by rw [← u1]; exact hk') (by rw [← u1]; exact hj) hkj
            simp only [u1]; exact this.2
          repeat' first | (with_reducible refine condD (fun h => ?_) (fun h => ?_)) | (with_reducible refine condE (fun h => ?_) (fun h => ?_)) | (with_reducible refine condN (fun h => ?_) (fun h => ?_)) | (with_reducible refine condI (fun h => ?_) (fun h => ?_)) | (with_reducible refine condS (fun h => ?_) (fun h => ?_)) | (with_reducible refine guardD (by with_unfolding_all rfl) (fun h => ?_) (fun h => ?_)) | (with_reducible refine guardE (by with_unfolding_all rfl) (fun h => ?_) (fun h => ?_)) | (with_reducible refine guardN (by with_unfolding_all rfl) (fun h => ?_) (fun h => ?_)) | (with_reducible refine guardI (by with_unfolding_all rfl) (fun h => ?_) (fun h => ?_)) | (with_reducible refine guardS (by with_unfolding_all rfl) (fun h => ?_) (fun h => ?_)) | ((refine callG hs ?_)) | ((refine callG awake_c ?_)) | ((refine callG hr ?_)) | ((refine callG hf ?_)) | (with_reducible refine And.intro ?_ ?_; omega) | (simp only [done_eq, done_eq', donet_eq, donet_eq', fin_val, fin_tup, fin_agg, fin_ro, res_one, res_more, rv_t, rv_c, rv_l, AV.tup.injEq, AV.agg.injEq, AV.ro.injEq, List.cons.injEq, int_eq, bool_eq, Int.toNat_natCast, Int.reduceToNat, Int.toNat_zero, Int.toNat_one, Int.reduceLE, Int.reduceLT, Int.reduceBEq, Int.reduceBNe, beq_self_eq_true, bne_self_eq_false, decide_true, decide_false,  Int.reduceNeg, toNat_pred, toNat_succ, List.length_map, cnd_t, cnd_f, grd_tt, grd_u, grd_tf, grd_ft, grd_ff, g_skip, g_ops, g_seq, g_block, g_exit, g_ret, x_c, x_o, x_l, x_b, g_b, g_nil, r_all, o_nil, g_cond, o_guard, o_call, o_callm, o_callt, o_callx, o_callv, lk, ef, o_mv, o_pick, o_bin, o_never, o_eqs, o_eqb, o_un, o_conv, o_load, o_loadr, o_idxr, o_loads, o_fld, o_idx, o_idxs, o_len, o_lens, o_ext, o_nilck, o_slc, o_slcs, o_build, o_minmax, o_mkfn, o_alloc, o_box, o_boxs, o_row, o_rowr, o_mk, o_asg, o_app, o_store, o_stores, o_eqnil, hv, eqAV, ev, view_t, view_c, view_nil, view_fn, look_own, look_box, look_junk, look_val, look_nilsl, look_ro, look_roAt, look_agg, look_tup, look_clo, look_alias, look_ref, look_into, rowOf, cellsOf, argv, vbin, vun, bnd, elemOf, putParts, setAt, zav, ASt.rid, ASt.free, AV.kill, AV.isHome, AV.noLoan, AV.cellOK, Value.oneCell', put_at, mk_at, mk_nil, initSt, true_and, and_true, and_self, implies_true, List.map_cons, List.map_nil, List.forall_mem_cons, List.not_mem_nil, false_implies, List.length_cons, List.length_nil, List.getD_cons_zero, List.getD_cons_succ, List.getD_nil, List.drop_succ_cons, List.drop_zero, List.take_succ_cons, List.take_zero, List.set_cons_zero, List.set_cons_succ, List.all_cons, List.all_nil, Bool.and_true, Bool.true_and, Bool.not_true, Bool.not_false, reduceCtorEq, if_true, if_false, Bool.false_eq_true, ↓reduceIte, Nat.reduceEqDiff, Nat.reduceAdd, Nat.reduceSub, Nat.reduceMul, Nat.reduceLeDiff, Nat.reduceLT, ne_eq, not_false_eq_true, not_true_eq_false, Nat.one_ne_zero, Nat.zero_ne_one, r7_0, r7_1, r7_2, r7_3, r7_4, r7_5, r7_6, r7_7, r7_8, r7_9, r7_10, p7, getD_map hk, getD_map hk', Seg.av, Rg.av, hl1, hl2, hk0, hk1, hd2, hw, up1, up2]) | (exfalso; omega)
        · have hf := fetch_c l t (t + n) st
          rw [fetch_far hz hrow hnb] at hf
          simp only [Rg.av] at hf
          repeat' first | (with_reducible refine condD (fun h => ?_) (fun h => ?_)) | (with_reducible refine condE (fun h => ?_) (fun h => ?_)) | (with_reducible refine condN (fun h => ?_) (fun h => ?_)) | (with_reducible refine condI (fun h => ?_) (fun h => ?_)) | (with_reducible refine condS (fun h => ?_) (fun h => ?_)) | (with_reducible refine guardD (by with_unfolding_all rfl) (fun h => ?_) (fun h => ?_)) | (with_reducible refine guardE (by with_unfolding_all rfl) (fun h => ?_) (fun h => ?_)) | (with_reducible refine guardN (by with_unfolding_all rfl) (fun h => ?_) (fun h => ?_)) | (with_reducible refine guardI (by with_unfolding_all rfl) (fun h => ?_) (fun h => ?_)) | (with_reducible refine guardS (by with_unfolding_all rfl) (fun h => ?_) (fun h => ?_)) | ((refine callG hs ?_)) | ((refine callG awake_c ?_)) | ((refine callG hr ?_)) | ((refine callG hf ?_)) | (with_reducible refine And.intro ?_ ?_; omega) | (simp only [done_eq, done_eq', donet_eq, donet_eq', fin_val, fin_tup, fin_agg, fin_ro, res_one, res_more, rv_t, rv_c, rv_l, AV.tup.injEq, AV.agg.injEq, AV.ro.injEq, List.cons.injEq, int_eq, bool_eq, Int.toNat_natCast, Int.reduceToNat, Int.toNat_zero, Int.toNat_one, Int.reduceLE, Int.reduceLT, Int.reduceBEq, Int.reduceBNe, beq_self_eq_true, bne_self_eq_false, decide_true, decide_false,  Int.reduceNeg, toNat_pred, toNat_succ, List.length_map, cnd_t, cnd_f, grd_tt, grd_u, grd_tf, grd_ft, grd_ff, g_skip, g_ops, g_seq, g_block, g_exit, g_ret, x_c, x_o, x_l, x_b, g_b, g_nil, r_all, o_nil, g_cond, o_guard, o_call, o_callm, o_callt, o_callx, o_callv, lk, ef, o_mv, o_pick, o_bin, o_never, o_eqs, o_eqb, o_un, o_conv, o_load, o_loadr, o_idxr, o_loads, o_fld, o_idx, o_idxs, o_len, o_lens, o_ext, o_nilck, o_slc, o_slcs, o_build, o_minmax, o_mkfn, o_alloc, o_box, o_boxs, o_row, o_rowr, o_mk, o_asg, o_app, o_store, o_stores, o_eqnil, hv, eqAV, ev, view_t, view_c, view_nil, view_fn, look_own, look_box, look_junk, look_val, look_nilsl, look_ro, look_roAt, look_agg, look_tup, look_clo, look_alias, look_ref, look_into, rowOf, cellsOf, argv, vbin, vun, bnd, elemOf, putParts, setAt, zav, ASt.rid, ASt.free, AV.kill, AV.isHome, AV.noLoan, AV.cellOK, Value.oneCell', put_at, mk_at, mk_nil, initSt, true_and, and_true, and_self, implies_true, List.map_cons, List.map_nil, List.forall_mem_cons, List.not_mem_nil, false_implies, List.length_cons, List.length_nil, List.getD_cons_zero, List.getD_cons_succ, List.getD_nil, List.drop_succ_cons, List.drop_zero, List.take_succ_cons, List.take_zero, List.set_cons_zero, List.set_cons_succ, List.all_cons, List.all_nil, Bool.and_true, Bool.true_and, Bool.not_true, Bool.not_false, reduceCtorEq, if_true, if_false, Bool.false_eq_true, ↓reduceIte, Nat.reduceEqDiff, Nat.reduceAdd, Nat.reduceSub, Nat.reduceMul, Nat.reduceLeDiff, Nat.reduceLT, ne_eq, not_false_eq_true, not_true_eq_false, Nat.one_ne_zero, Nat.zero_ne_one, r7_0, r7_1, r7_2, r7_3, r7_4, r7_5, r7_6, r7_7, r7_8, r7_9, r7_10, p7, getD_map hk, Seg.av, Rg.av, hl1, hl2, hk0, hk1, hd2, hw]) | (exfalso; omega)
      · have hf := fetch_c l t (t + n) st
        rw [fetch_late hz] at hf
        simp only [Rg.av] at hf
        have hz1 : ((rng l st).2 != 0) = true := by simpa using hz
        have hz2 : ((rng l st).2 == 0) = false := by simpa using hz
        repeat' first | (with_reducible refine condD (fun h => ?_) (fun h => ?_)) | (with_reducible refine condE (fun h => ?_) (fun h => ?_)) | (with_reducible refine condN (fun h => ?_) (fun h => ?_)) | (with_reducible refine condI (fun h => ?_) (fun h => ?_)) | (with_reducible refine condS (fun h => ?_) (fun h => ?_)) | (with_reducible refine guardD (by with_unfolding_all rfl) (fun h => ?_) (fun h => ?_)) | (with_reducible refine guardE (by with_unfolding_all rfl) (fun h => ?_) (fun h => ?_)) | (with_reducible refine guardN (by with_unfolding_all rfl) (fun h => ?_) (fun h => ?_)) | (with_reducible refine guardI (by with_unfolding_all rfl) (fun h => ?_) (fun h => ?_)) | (with_reducible refine guardS (by with_unfolding_all rfl) (fun h => ?_) (fun h => ?_)) | ((refine callG hs ?_)) | ((refine callG awake_c ?_)) | ((refine callG (ranges_c _ _) ?_)) | ((refine callG hf ?_)) | (with_reducible refine And.intro ?_ ?_; omega) | (simp only [done_eq, done_eq', donet_eq, donet_eq', fin_val, fin_tup, fin_agg, fin_ro, res_one, res_more, rv_t, rv_c, rv_l, AV.tup.injEq, AV.agg.injEq, AV.ro.injEq, List.cons.injEq, int_eq, bool_eq, Int.toNat_natCast, Int.reduceToNat, Int.toNat_zero, Int.toNat_one, Int.reduceLE, Int.reduceLT, Int.reduceBEq, Int.reduceBNe, beq_self_eq_true, bne_self_eq_false, decide_true, decide_false,  Int.reduceNeg, toNat_pred, toNat_succ, List.length_map, cnd_t, cnd_f, grd_tt, grd_u, grd_tf, grd_ft, grd_ff, g_skip, g_ops, g_seq, g_block, g_exit, g_ret, x_c, x_o, x_l, x_b, g_b, g_nil, r_all, o_nil, g_cond, o_guard, o_call, o_callm, o_callt, o_callx, o_callv, lk, ef, o_mv, o_pick, o_bin, o_never, o_eqs, o_eqb, o_un, o_conv, o_load, o_loadr, o_idxr, o_loads, o_fld, o_idx, o_idxs, o_len, o_lens, o_ext, o_nilck, o_slc, o_slcs, o_build, o_minmax, o_mkfn, o_alloc, o_box, o_boxs, o_row, o_rowr, o_mk, o_asg, o_app, o_store, o_stores, o_eqnil, hv, eqAV, ev, view_t, view_c, view_nil, view_fn, look_own, look_box, look_junk, look_val, look_nilsl, look_ro, look_roAt, look_agg, look_tup, look_clo, look_alias, look_ref, look_into, rowOf, cellsOf, argv, vbin, vun, bnd, elemOf, putParts, setAt, zav, ASt.rid, ASt.free, AV.kill, AV.isHome, AV.noLoan, AV.cellOK, Value.oneCell', put_at, mk_at, mk_nil, initSt, true_and, and_true, and_self, implies_true, List.map_cons, List.map_nil, List.forall_mem_cons, List.not_mem_nil, false_implies, List.length_cons, List.length_nil, List.getD_cons_zero, List.getD_cons_succ, List.getD_nil, List.drop_succ_cons, List.drop_zero, List.take_succ_cons, List.take_zero, List.set_cons_zero, List.set_cons_succ, List.all_cons, List.all_nil, Bool.and_true, Bool.true_and, Bool.not_true, Bool.not_false, reduceCtorEq, if_true, if_false, Bool.false_eq_true, ↓reduceIte, Nat.reduceEqDiff, Nat.reduceAdd, Nat.reduceSub, Nat.reduceMul, Nat.reduceLeDiff, Nat.reduceLT, ne_eq, not_false_eq_true, not_true_eq_false, Nat.one_ne_zero, Nat.zero_ne_one, r7_0, r7_1, r7_2, r7_3, r7_4, r7_5, r7_6, r7_7, r7_8, r7_9, r7_10, p7, getD_map hk, Seg.av, Rg.av, hl1, hl2, hk0, hk1, hd2, hw, hz1, hz2]) | (exfalso; omega)
  · obtain ⟨e1, e2⟩ := seek_no h0
    rw [e1, e2] at hs
    have hb : ((seek l t).2.2 != 0) = true := by simpa using h0
    have hb2 : ((seek l t).2.2 == 0) = false := by simpa using h0
    repeat' first | (with_reducible refine condD (fun h => ?_) (fun h => ?_)) | (with_reducible refine condE (fun h => ?_) (fun h => ?_)) | (with_reducible refine condN (fun h => ?_) (fun h => ?_)) | (with_reducible refine condI (fun h => ?_) (fun h => ?_)) | (with_reducible refine condS (fun h => ?_) (fun h => ?_)) | (with_reducible refine guardD (by with_unfolding_all rfl) (fun h => ?_) (fun h => ?_)) | (with_reducible refine guardE (by with_unfolding_all rfl) (fun h => ?_) (fun h => ?_)) | (with_reducible refine guardN (by with_unfolding_all rfl) (fun h => ?_) (fun h => ?_)) | (with_reducible refine guardI (by with_unfolding_all rfl) (fun h => ?_) (fun h => ?_)) | (with_reducible refine guardS (by with_unfolding_all rfl) (fun h => ?_) (fun h => ?_)) | ((refine callG hs ?_)) | ((refine callG awake_c ?_)) | (with_reducible refine And.intro ?_ ?_; omega) | (simp only [done_eq, done_eq', donet_eq, donet_eq', fin_val, fin_tup, fin_agg, fin_ro, res_one, res_more, rv_t, rv_c, rv_l, AV.tup.injEq, AV.agg.injEq, AV.ro.injEq, List.cons.injEq, int_eq, bool_eq, Int.toNat_natCast, Int.reduceToNat, Int.toNat_zero, Int.toNat_one, Int.reduceLE, Int.reduceLT, Int.reduceBEq, Int.reduceBNe, beq_self_eq_true, bne_self_eq_false, decide_true, decide_false,  Int.reduceNeg, toNat_pred, toNat_succ, List.length_map, cnd_t, cnd_f, grd_tt, grd_u, grd_tf, grd_ft, grd_ff, g_skip, g_ops, g_seq, g_block, g_exit, g_ret, x_c, x_o, x_l, x_b, g_b, g_nil, r_all, o_nil, g_cond, o_guard, o_call, o_callm, o_callt, o_callx, o_callv, lk, ef, o_mv, o_pick, o_bin, o_never, o_eqs, o_eqb, o_un, o_conv, o_load, o_loadr, o_idxr, o_loads, o_fld, o_idx, o_idxs, o_len, o_lens, o_ext, o_nilck, o_slc, o_slcs, o_build, o_minmax, o_mkfn, o_alloc, o_box, o_boxs, o_row, o_rowr, o_mk, o_asg, o_app, o_store, o_stores, o_eqnil, hv, eqAV, ev, view_t, view_c, view_nil, view_fn, look_own, look_box, look_junk, look_val, look_nilsl, look_ro, look_roAt, look_agg, look_tup, look_clo, look_alias, look_ref, look_into, rowOf, cellsOf, argv, vbin, vun, bnd, elemOf, putParts, setAt, zav, ASt.rid, ASt.free, AV.kill, AV.isHome, AV.noLoan, AV.cellOK, Value.oneCell', put_at, mk_at, mk_nil, initSt, true_and, and_true, and_self, implies_true, List.map_cons, List.map_nil, List.forall_mem_cons, List.not_mem_nil, false_implies, List.length_cons, List.length_nil, List.getD_cons_zero, List.getD_cons_succ, List.getD_nil, List.drop_succ_cons, List.drop_zero, List.take_succ_cons, List.take_zero, List.set_cons_zero, List.set_cons_succ, List.all_cons, List.all_nil, Bool.and_true, Bool.true_and, Bool.not_true, Bool.not_false, reduceCtorEq, if_true, if_false, Bool.false_eq_true, ↓reduceIte, Nat.reduceEqDiff, Nat.reduceAdd, Nat.reduceSub, Nat.reduceMul, Nat.reduceLeDiff, Nat.reduceLT, ne_eq, not_false_eq_true, not_true_eq_false, Nat.one_ne_zero, Nat.zero_ne_one, r7_0, r7_1, r7_2, r7_3, r7_4, r7_5, r7_6, r7_7, r7_8, r7_9, r7_10, p7, hb, hb2]) | (exfalso; omega)
theorem seeks_c : ∀ avs, HasArgs [.one (.row [.int .i64, .int .i64, .int .i64, .int .i64, .int .i64, .int .i64, .int .i64]), .one (.int .i64), .one (.int .i64), .one (.int .i64)] avs → CallOK Try.prog 7 avs (.val (.bool true)) := by
  intro avs h
  obtain ⟨v0, r, rfl, h0, h⟩ := args_cons h
  obtain ⟨v1, r, rfl, h1, h⟩ := args_cons h
  obtain ⟨v2, r, rfl, h2, h⟩ := args_cons h
  obtain ⟨v3, r, rfl, h3, h⟩ := args_cons h
  obtain rfl := args_nil h
  obtain ⟨l, rfl, _, _⟩ := has_row h0 all_seg
  obtain ⟨n1, rfl, _⟩ := has_int h1
  obtain ⟨n2, rfl, _⟩ := has_int h2
  obtain ⟨n3, rfl, _⟩ := has_int h3
  exact seeksD l n1 n2 n3
end Go.Proofs.Ytpkeiabifoipoaa
