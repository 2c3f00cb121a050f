/- The reference's groups: AllGroups, Groups, by the machine on data. -/
import Derived.Test.YtkklgckmdnejfaaKGroupsW
import Derived.Test.YtkklgckmdnejfaaKRefEnds
namespace Go.Proofs.Ytkklgckmdnejfaa
open Go.RowKit
set_option linter.unusedSimpArgs false

def Grp.open (g : Grp) : Grp := ⟨g.frm, g.to, g.key, false, g.beg, g.fin⟩
/-- The group from f on, as far as i. -/
def part (l : List Smp) (P E : List Int) (f i : Nat) : Grp := ⟨f, i, (l.getD f ⟨0, 0, 0, 0, false⟩).key, false, Go.Lib.minOf (sub P f i), Go.Lib.maxOf (sub E f i)⟩
theorem sub_snoc {P : List Int} {f i : Nat} (hf : f ≤ i) (hi : i < P.length) : sub P f (i + 1) = sub P f i ++ [P[i]] := by
  unfold sub
  rw [List.take_succ_eq_append_getElem hi, List.drop_append_of_le_length (by rw [List.length_take]; omega)]
theorem sub_one {P : List Int} {i : Nat} (hi : i < P.length) : sub P i (i + 1) = [P[i]] := by
  rw [sub_snoc (Nat.le_refl _) hi]
  have : sub P i i = [] := by
    unfold sub
    exact List.drop_eq_nil_of_le (by rw [List.length_take]; omega)
  rw [this, List.nil_append]
theorem min_snoc {A : List Int} {x : Int} (h : A ≠ []) : Go.Lib.minOf (A ++ [x]) = if x < Go.Lib.minOf A then x else Go.Lib.minOf A := by
  obtain ⟨a1, a2⟩ := minOf_is h
  obtain ⟨b1, b2⟩ := minOf_is (l := A ++ [x]) (by simp)
  have h1 := b2 _ (List.mem_append_left [x] a1)
  have h2 := b2 x (by simp)
  rcases List.mem_append.1 b1 with h3 | h3
  · have := a2 _ h3; split <;> omega
  · rw [List.mem_singleton] at h3; split <;> omega
theorem max_snoc {A : List Int} {x : Int} (h : A ≠ []) : Go.Lib.maxOf (A ++ [x]) = if Go.Lib.maxOf A < x then x else Go.Lib.maxOf A := by
  obtain ⟨a1, a2⟩ := maxOf_is h
  obtain ⟨b1, b2⟩ := maxOf_is (l := A ++ [x]) (by simp)
  have h1 := b2 _ (List.mem_append_left [x] a1)
  have h2 := b2 x (by simp)
  rcases List.mem_append.1 b1 with h3 | h3
  · have := a2 _ h3; split <;> omega
  · rw [List.mem_singleton] at h3; split <;> omega
theorem nk_step {l : List Smp} {i : Nat} (hi : i < l.length) : nk (l.drop i) = if l[i].key then 0 else nk (l.drop (i + 1)) + 1 := by
  rw [List.drop_eq_getElem_cons hi, nk]
/-- All that is known where sample i comes. -/
def Inv (l : List Smp) (P E : List Int) (i : Nat) (cur : List Grp) : Prop :=
  (i = 0 ∧ cur = []) ∨ ∃ dn f u, cur = dn ++ [part l P E f i] ∧ f < i ∧ toOf l f = i + nk (l.drop i) ∧ l.length ≤ f + u ∧ dn ++ (groupsGo l u f).map Grp.open = (groupsL l).map Grp.open
theorem inv_end {l : List Smp} {cur : List Grp} (h : Inv l (presL l) (endsL l) l.length cur) (hl : 0 < l.length) : cur = (groupsL l).map Grp.open := by
  rcases h with ⟨h, _⟩ | ⟨dn, f, u, rfl, hf, ht, hu, hg⟩
  · omega
  · rw [List.drop_eq_nil_of_le (Nat.le_refl _), nk, Nat.add_zero] at ht
    rw [← hg]
    obtain ⟨u', rfl⟩ : ∃ u', u = u' + 1 := ⟨u - 1, by omega⟩
    rw [groupsGo, if_pos hf, ht]
    have : groupsGo l u' l.length = [] := by
      cases u' with
      | zero => rfl
      | succ u => rw [groupsGo, if_neg (by omega)]
    rw [this, List.map_cons, List.map_nil]
    congr 2
    simp only [part, Grp.open, grpAt, ht]
/-- With the mark set. -/
def closeG (P : List Int) (g : Grp) : Grp := ⟨g.frm, g.to, g.key, g.key && (g.beg == P.getD g.frm 0) && !((sub P (g.frm + 1) g.to).contains g.beg) && (decide (g.frm = 0) || decide (lastK P g.frm < g.beg)), g.beg, g.fin⟩
theorem mem_groupsGo {l : List Smp} : ∀ {u f g}, g ∈ groupsGo l u f → ∃ k, k < l.length ∧ g = grpAt l k
  | 0, f, g, h => by simp [groupsGo] at h
  | u + 1, f, g, h => by
    unfold groupsGo at h
    split at h
    · rename_i hf
      rcases List.mem_cons.1 h with rfl | h
      · exact ⟨f, hf, rfl⟩
      · exact mem_groupsGo h
    · simp at h
theorem close_all (l : List Smp) : ((groupsL l).map Grp.open).map (closeG (presL l)) = groupsL l := by
  rw [List.map_map]
  have : ∀ g ∈ groupsL l, (closeG (presL l) ∘ Grp.open) g = g := fun g hg => by
    obtain ⟨k, _, rfl⟩ := mem_groupsGo hg
    rfl
  rw [List.map_congr_left this, List.map_id']
def allNe (P : List Int) (b : Int) (s : Nat) : Nat → Bool
  | 0 => true
  | j + 1 => allNe P b s j && (P.getD (s + j) 0 != b)
def allLt (P : List Int) (b : Int) : Nat → Bool
  | 0 => true
  | j + 1 => allLt P b j && decide (P.getD j 0 < b)
theorem allNe_is (P : List Int) (b : Int) (s : Nat) : ∀ j, allNe P b s j = true ↔ ∀ i, i < j → P.getD (s + i) 0 ≠ b
  | 0 => by simp [allNe]
  | j + 1 => by
    rw [allNe, Bool.and_eq_true, allNe_is P b s j, bne_iff_ne]
    constructor
    · intro h i hi
      by_cases e : i = j
      · rw [e]; exact h.2
      · exact h.1 i (by omega)
    · intro h
      exact ⟨fun i hi => h i (by omega), h j (by omega)⟩
theorem allLt_is (P : List Int) (b : Int) : ∀ j, allLt P b j = true ↔ ∀ i, i < j → P.getD i 0 < b
  | 0 => by simp [allLt]
  | j + 1 => by
    rw [allLt, Bool.and_eq_true, allLt_is P b j, decide_eq_true_eq]
    constructor
    · intro h i hi
      by_cases e : i = j
      · rw [e]; exact h.2
      · exact h.1 i (by omega)
    · intro h
      exact ⟨fun i hi => h i (by omega), h j (by omega)⟩
theorem ne_contains {P : List Int} {b : Int} {f t : Nat} (hf : f < t) (ht : t ≤ P.length) : allNe P b (f + 1) (t - (f + 1)) = !((sub P (f + 1) t).contains b) := by
  rw [Bool.eq_iff_iff, allNe_is, Bool.not_eq_true', ← Bool.not_eq_true, List.contains_iff_mem]
  constructor
  · intro h hm
    obtain ⟨i, hi, h1, h2, e⟩ := sub_mem hm
    have := h (i - (f + 1)) (by omega)
    rw [show f + 1 + (i - (f + 1)) = i by omega, getD_in hi] at this
    exact this e.symm
  · intro h i hi e
    refine h ?_
    rw [getD_in (show f + 1 + i < P.length by omega)] at e
    rw [← e]; exact mem_sub (by omega) (by omega) (by omega)
theorem lt_last {P : List Int} {b : Int} {f : Nat} (hf : f ≤ P.length) : allLt P b f = (decide (f = 0) || decide (lastK P f < b)) := by
  rw [Bool.eq_iff_iff, allLt_is, Bool.or_eq_true, decide_eq_true_eq, decide_eq_true_eq]
  constructor
  · intro h
    by_cases e : f = 0
    · exact .inl e
    · right
      have n1 : P.take f ≠ [] := fun e => by have := congrArg List.length e; rw [List.length_take, List.length_nil] at this; omega
      rw [show lastK P f = Go.Lib.maxOf (P.take f) from if_neg e]
      obtain ⟨i, hi, e'⟩ := List.getElem_of_mem (maxOf_is n1).1
      rw [List.length_take] at hi
      rw [← e', List.getElem_take]
      have := h i (by omega)
      rwa [getD_in (show i < P.length by omega)] at this
  · rintro (h | h) i hi
    · omega
    · have n1 : P.take f ≠ [] := fun e => by have := congrArg List.length e; rw [List.length_take, List.length_nil] at this; omega
      rw [show lastK P f = Go.Lib.maxOf (P.take f) from if_neg (by omega)] at h
      rw [getD_in (show i < P.length by omega)]
      have := (maxOf_is n1).2 P[i] (List.mem_take_iff_getElem.2 ⟨i, by omega, rfl⟩)
      omega
theorem inv_key {l : List Smp} {P E : List Int} {i : Nat} {cur : List Grp} (h : Inv l P E i cur) (hP : P = presL l) (hE : E = endsL l) (hi : i < l.length) (hk : i = 0 ∨ l[i].key = true) : Inv l P E (i + 1) (cur ++ [part l P E i (i + 1)]) := by
  rcases h with ⟨rfl, rfl⟩ | ⟨dn, f, u, rfl, hf, ht, hu, hg⟩
  · exact .inr ⟨[], 0, l.length, rfl, by omega, by unfold toOf; omega, by omega, rfl⟩
  · have hk' : l[i].key = true := by
      rcases hk with rfl | hk
      · omega
      · exact hk
    rw [nk_step hi, hk'] at ht
    simp only [if_true, Nat.add_zero] at ht
    obtain ⟨u', rfl⟩ : ∃ u', u = u' + 1 := ⟨u - 1, by omega⟩
    rw [groupsGo, if_pos (by omega), ht, List.map_cons] at hg
    refine .inr ⟨dn ++ [part l P E f i], i, u', rfl, by omega, by unfold toOf; omega, by omega, ?_⟩
    rw [← hg, List.append_assoc]
    congr 1
    simp only [List.singleton_append]
    congr 1
    subst hP; subst hE
    simp only [part, Grp.open, grpAt, ht]
theorem inv_go {l : List Smp} {P E : List Int} {i f : Nat} {dn : List Grp} (h : ∃ u, f < i ∧ toOf l f = i + nk (l.drop i) ∧ l.length ≤ f + u ∧ dn ++ (groupsGo l u f).map Grp.open = (groupsL l).map Grp.open) (hi : i < l.length) (hk : l[i].key = false) : Inv l P E (i + 1) (dn ++ [part l P E f (i + 1)]) := by
  obtain ⟨u, hf, ht, hu, hg⟩ := h
  rw [nk_step hi, hk] at ht
  simp only [Bool.false_eq_true, if_false] at ht
  exact .inr ⟨dn, f, u, rfl, by omega, by omega, hu, hg⟩
end Go.Proofs.Ytkklgckmdnejfaa
