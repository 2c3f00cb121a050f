/- Interleaving, in plain numbers. -/
import Derived.Test.YtbdcnooafacldaaDoorKPar
import Derived.Test.YtbdcnooafacldaaDoorKWide
import Derived.Test.YtbdcnooafacldaaDoorKGetD
namespace Go.Proofs.YtbdcnooafacldaaDoor
open Go.RowKit
set_option linter.unusedSimpArgs false

structure Sl3 where
  track : Nat
  from' : Nat
  n : Nat
def Sl3.av (s : Sl3) : List AV := [.val (.int .i64 s.track), .val (.int .i64 s.from'), .val (.int .i64 s.n)]
def oneK (n : Nat) : List AV := [.val (.int .i64 n)]
def trk (l : List Par) (i : Nat) : Par := l.getD i ⟨0, []⟩
def Par.tm (p : Par) (k : Nat) : Int := (p.smps.getD k ⟨0, 0, 0, 0, false⟩).time
theorem trk_in {l : List Par} {i : Nat} (h : i < l.length) : trk l i = l[i] := getD_in h
theorem tm_in {p : Par} {k : Nat} (h : k < p.smps.length) : p.tm k = p.smps[k].time := by unfold Par.tm; rw [getD_in h]
def earlier (l : List Par) (nx : List Nat) (i j : Nat) : Bool := decide (cmp3 ((trk l i).tm (nx.getD i 0) * (trk l j).scale) ((trk l j).tm (nx.getD j 0) * (trk l i).scale) < 0)
def bestStep (l : List Par) (nx : List Nat) (b : Option Nat) (i : Nat) : Option Nat :=
  if nx.getD i 0 = (trk l i).smps.length then b else match b with
    | none => some i
    | some j => if earlier l nx i j then some i else some j
def bestTo (l : List Par) (nx : List Nat) : Nat → Option Nat
  | 0 => none
  | k + 1 => bestStep l nx (bestTo l nx k) k
theorem best_some {l : List Par} {nx : List Nat} : ∀ {k j : Nat}, bestTo l nx k = some j → j < k ∧ nx.getD j 0 ≠ (trk l j).smps.length
  | 0, j, h => by cases h
  | k + 1, j, h => by
    unfold bestTo bestStep at h
    split at h
    · have := best_some h; exact ⟨by omega, this.2⟩
    · rename_i hk
      split at h
      · cases h; exact ⟨by omega, hk⟩
      · rename_i j' hb
        have := best_some hb
        split at h
        · cases h; exact ⟨by omega, hk⟩
        · cases h; exact ⟨by omega, this.2⟩
theorem best_none {l : List Par} {nx : List Nat} : ∀ {k : Nat}, bestTo l nx k = none → ∀ i, i < k → nx.getD i 0 = (trk l i).smps.length
  | 0, _, i, h => by omega
  | k + 1, h, i, hi => by
    unfold bestTo bestStep at h
    split at h
    · rename_i hk
      by_cases e : i = k
      · subst e; exact hk
      · exact best_none h i (by omega)
    · split at h
      · cases h
      · split at h <;> cases h
def putOut (l : List Par) (most : Int) (nx : List Nat) (o : List Sl3) (j : Nat) : List Sl3 :=
  match o.getLast? with
  | some s => if s.track = j ∧ (trk l j).tm (nx.getD j 0) - (trk l j).tm s.from' ≤ most then o.dropLast ++ [⟨s.track, s.from', s.n + 1⟩] else o ++ [⟨j, nx.getD j 0, 1⟩]
  | none => o ++ [⟨j, nx.getD j 0, 1⟩]
def ilRun (l : List Par) (most : Int) : Nat → List Nat → List Sl3 → List Sl3
  | 0, _, o => o
  | f + 1, nx, o => match bestTo l nx l.length with
    | none => o
    | some j => ilRun l most f (nx.set j (nx.getD j 0 + 1)) (putOut l most nx o j)
/-- How many samples are left. -/
def left : List Par → List Nat → Nat
  | p :: l, n :: nx => (p.smps.length - n) + left l nx
  | _, _ => 0
theorem left_set : ∀ {l : List Par} {nx : List Nat} {j : Nat}, j < l.length → j < nx.length → nx.getD j 0 < (trk l j).smps.length → left l (nx.set j (nx.getD j 0 + 1)) + 1 = left l nx
  | [], _, _, h, _, _ => by simp at h
  | _ :: _, [], _, _, h, _ => by simp at h
  | p :: l, n :: nx, 0, _, _, h => by
    simp [trk, left] at h ⊢
    omega
  | p :: l, n :: nx, j + 1, h1, h2, h3 => by
    have := left_set (l := l) (nx := nx) (j := j) (by simpa using h1) (by simpa using h2) (by simpa [trk] using h3)
    simp [left] at this ⊢
    omega
def zeros (l : List Par) : List Nat := List.replicate l.length 0
theorem left_zero : ∀ (l : List Par), (∀ p ∈ l, p.smps.length ≤ 5000) → left l (zeros l) ≤ 5000 * l.length
  | [], _ => by simp [left]
  | p :: l, h => by
    have h1 := h p List.mem_cons_self
    have h2 := left_zero l fun q hq => h q (List.mem_cons_of_mem _ hq)
    unfold zeros at h2 ⊢
    simp [List.replicate_succ, left]
    omega
def adv (nx : List Nat) (s : Sl3) : List Nat := nx.set s.track (nx.getD s.track 0 + s.n)
def advs (nx : List Nat) (o : List Sl3) : List Nat := o.foldl adv nx
def good (l : List Par) (most : Int) (nx : List Nat) (s : Sl3) : Prop := s.track < l.length ∧ 1 ≤ s.n ∧ s.from' = nx.getD s.track 0 ∧ s.from' + s.n ≤ (trk l s.track).smps.length ∧ (trk l s.track).tm (s.from' + s.n - 1) - (trk l s.track).tm s.from' ≤ most
def goods (l : List Par) (most : Int) : List Nat → List Sl3 → Prop
  | _, [] => True
  | nx, s :: r => good l most nx s ∧ goods l most (adv nx s) r
theorem goods_snoc {l : List Par} {most : Int} : ∀ {o : List Sl3} {nx : List Nat} {s : Sl3}, goods l most nx (o ++ [s]) ↔ goods l most nx o ∧ good l most (advs nx o) s
  | [], nx, s => by simp [goods, advs]
  | x :: o, nx, s => by
    simp only [List.cons_append, goods, goods_snoc (o := o), and_assoc]
    rfl
theorem adv_len (nx : List Nat) (s : Sl3) : (adv nx s).length = nx.length := by simp [adv]
theorem advs_len : ∀ (o : List Sl3) (nx : List Nat), (advs nx o).length = nx.length
  | [], _ => rfl
  | s :: o, nx => by
    show (advs (adv nx s) o).length = _
    rw [advs_len o, adv_len]
theorem advs_snoc (nx : List Nat) (o : List Sl3) (s : Sl3) : advs nx (o ++ [s]) = adv (advs nx o) s := by simp [advs]
structure IInv (l : List Par) (most : Int) (f : Nat) (nx : List Nat) (o : List Sl3) : Prop where
  gs : goods l most (zeros l) o
  ad : advs (zeros l) o = nx
  le : ∀ i, i < l.length → nx.getD i 0 ≤ (trk l i).smps.length
  lf : left l nx ≤ f
  sz : o.length + f ≤ 40000
theorem IInv.len {l : List Par} {most : Int} {f : Nat} {nx : List Nat} {o : List Sl3} (h : IInv l most f nx o) : nx.length = l.length := by
  rw [← h.ad, advs_len]; simp [zeros]
theorem getD_set_eq {nx : List Nat} {j v : Nat} (h : j < nx.length) : (nx.set j v).getD j 0 = v := by simp [h]
theorem getD_set_ne {nx : List Nat} {i j v : Nat} (h : i ≠ j) : (nx.set j v).getD i 0 = nx.getD i 0 := by
  simp [List.getElem?_set, Ne.symm h]
theorem IInv.next {l : List Par} {most : Int} (hm : 0 ≤ most) {f : Nat} {nx : List Nat} {o : List Sl3} (h : IInv l most f nx o) {j : Nat} (hj : bestTo l nx l.length = some j) : ∃ g, f = g + 1 ∧ IInv l most g (nx.set j (nx.getD j 0 + 1)) (putOut l most nx o j) := by
  obtain ⟨hj1, hj2⟩ := best_some hj
  have hlen := h.len
  have hle := h.le j hj1
  have hlt : nx.getD j 0 < (trk l j).smps.length := by omega
  have hl := left_set hj1 (by omega : j < nx.length) hlt
  have hlf := h.lf
  have hsz := h.sz
  have hle2 : ∀ i, i < l.length → (nx.set j (nx.getD j 0 + 1)).getD i 0 ≤ (trk l i).smps.length := by
    intro i hi
    by_cases e : i = j
    · subst e; rw [getD_set_eq (by omega)]; omega
    · rw [getD_set_ne e]; exact h.le i hi
  refine ⟨f - 1, by omega, ?_⟩
  have happ : IInv l most (f - 1) (nx.set j (nx.getD j 0 + 1)) (o ++ [⟨j, nx.getD j 0, 1⟩]) := by
    refine ⟨goods_snoc.2 ⟨h.gs, ?_⟩, ?_, hle2, by omega, by simp; omega⟩
    · rw [h.ad]
      exact ⟨hj1, Nat.le_refl _, rfl, by simp only; omega, by simp only [Nat.add_sub_cancel]; omega⟩
    · rw [advs_snoc, h.ad]; rfl
  unfold putOut
  split
  · rename_i s hs
    split
    · rename_i hc
      obtain ⟨hc1, hc2⟩ := hc
      obtain ⟨pre, rfl⟩ : ∃ pre, o = pre ++ [s] := by
        rcases nil_or_lastI o with rfl | ⟨pre, p, rfl⟩
        · cases hs
        · rw [List.getLast?_concat] at hs; cases hs; exact ⟨pre, rfl⟩
      obtain ⟨g1, g2⟩ := goods_snoc.1 h.gs
      have had := h.ad
      rw [advs_snoc] at had
      obtain ⟨a1, a2, a3, a4, a5⟩ := g2
      have hpl : (advs (zeros l) pre).length = l.length := by rw [advs_len]; simp [zeros]
      subst hc1
      have hat : nx.getD s.track 0 = s.from' + s.n := by
        rw [← had]; unfold adv; rw [getD_set_eq (by omega), a3]
      rw [hat] at hc2 hlt hle2 hl ⊢
      rw [List.dropLast_concat]
      refine ⟨goods_snoc.2 ⟨g1, a1, by simp only; omega, a3, by simp only; omega, ?_⟩, ?_, hle2, by omega, by simp at hsz ⊢; omega⟩
      · simp only
        rw [show s.from' + (s.n + 1) - 1 = s.from' + s.n by omega]
        exact hc2
      · rw [advs_snoc, ← had]
        unfold adv
        simp only [List.set_set]
        rw [← a3, Nat.add_assoc]
    · exact happ
  · exact happ
theorem IInv.run {l : List Par} {most : Int} (hm : 0 ≤ most) : ∀ {f : Nat} {nx : List Nat} {o : List Sl3}, IInv l most f nx o → goods l most (zeros l) (ilRun l most f nx o) ∧ ∀ i, i < l.length → (advs (zeros l) (ilRun l most f nx o)).getD i 0 = (trk l i).smps.length
  | f, nx, o, h => by
    cases hb : bestTo l nx l.length with
    | none =>
      have e : ilRun l most f nx o = o := by cases f with | zero => rfl | succ f => simp only [ilRun, hb]
      rw [e]
      refine ⟨h.gs, fun i hi => ?_⟩
      rw [h.ad]; exact best_none hb i hi
    | some j =>
      obtain ⟨g, rfl, h2⟩ := h.next hm hb
      have e : ilRun l most (g + 1) nx o = ilRun l most g (nx.set j (nx.getD j 0 + 1)) (putOut l most nx o j) := by simp only [ilRun, hb]
      rw [e]
      exact IInv.run hm h2
theorem IInv.start {l : List Par} {most : Int} (hl : l.length ≤ 8) (h : ∀ p ∈ l, p.smps.length ≤ 5000) : IInv l most (left l (zeros l)) (zeros l) [] := by
  have := left_zero l h
  refine ⟨trivial, rfl, fun i hi => ?_, Nat.le_refl _, by simp; omega⟩
  simp [zeros, hi]
def parsF : List Par → Int
  | [] => 0
  | p :: r => if parF p ≠ 0 then parF p else parsF r
theorem parsF_drop {l : List Par} {k : Nat} (h : k < l.length) : parsF (l.drop k) = if parF l[k] ≠ 0 then parF l[k] else parsF (l.drop (k + 1)) := by
  rw [List.drop_eq_getElem_cons h]; rfl
theorem parsF_0 : ∀ {l : List Par}, parsF l = 0 → ∀ p ∈ l, parF p = 0
  | [], _, p, h => by cases h
  | q :: r, h, p, hp => by
    unfold parsF at h
    split at h
    · rename_i h1; exact absurd h h1
    · rename_i h1
      rcases List.mem_cons.1 hp with rfl | hp
      · simpa using h1
      · exact parsF_0 h p hp
def interF (l : List Par) (most : Int) : List Sl3 × Int :=
  if 8 < l.length then ([], 2) else if parsF l ≠ 0 then ([], parsF l) else if outB most 0 1000000000000 then ([], 1) else (ilRun l most (left l (zeros l)) (zeros l) [], 0)
end Go.Proofs.YtbdcnooafacldaaDoor
