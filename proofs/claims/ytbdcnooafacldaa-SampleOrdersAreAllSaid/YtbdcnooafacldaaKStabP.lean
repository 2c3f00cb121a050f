/- Stable sorting in plain lists: an order, insertion, blocks, swaps. -/
import Derived.Test.YtbdcnooafacldaaKNat
namespace Go.Proofs.Ytbdcnooafacldaa
open Go.RowKit
set_option linter.unusedSimpArgs false

/-- The order of keys, then of numbers. -/
def leK (f : Int → Int) (x y : Int) : Prop := f x < f y ∨ (f x = f y ∧ x ≤ y)
def ltK (f : Int → Int) (x y : Int) : Prop := f x < f y ∨ (f x = f y ∧ x < y)
instance (f : Int → Int) (x y : Int) : Decidable (ltK f x y) := inferInstanceAs (Decidable (_ ∨ _))
theorem leK_anti {f : Int → Int} {x y : Int} (h1 : leK f x y) (h2 : leK f y x) : x = y := by unfold leK at *; omega
theorem leK_trans {f : Int → Int} {x y z : Int} (h1 : leK f x y) (h2 : leK f y z) : leK f x z := by unfold leK at *; omega
theorem not_ltK {f : Int → Int} {x y : Int} : ¬ ltK f x y ↔ leK f y x := by unfold leK ltK; omega
theorem ltK_le {f : Int → Int} {x y : Int} (h : ltK f x y) : leK f x y := by unfold leK ltK at *; omega
/-- Sorted. -/
def SrtK (f : Int → Int) (l : List Int) : Prop := l.Pairwise (leK f)
theorem srtK_eq {f : Int → Int} {l r : List Int} (h1 : SrtK f l) (h2 : SrtK f r) (h : l.Perm r) : l = r := h.eq_of_pairwise (fun _ _ _ _ => leK_anti) h1 h2
def ins (f : Int → Int) (x : Int) : List Int → List Int
  | [] => [x]
  | y :: r => if ltK f x y then x :: y :: r else y :: ins f x r
def srt (f : Int → Int) (l : List Int) : List Int := l.foldl (fun a x => ins f x a) []
theorem ins_perm (f : Int → Int) (x : Int) : ∀ l, (ins f x l).Perm (x :: l)
  | [] => .refl _
  | y :: r => by
    unfold ins
    split
    · exact .refl _
    · exact ((ins_perm f x r).cons y).trans (.swap x y r)
theorem ins_srt {f : Int → Int} {x : Int} : ∀ {l}, SrtK f l → SrtK f (ins f x l)
  | [], _ => by simp [ins, SrtK]
  | y :: r, h => by
    unfold ins
    have h' := List.pairwise_cons.1 h
    split
    · rename_i q
      refine List.pairwise_cons.2 ⟨fun z hz => ?_, h⟩
      rcases List.mem_cons.1 hz with rfl | hz
      · exact ltK_le q
      · exact leK_trans (ltK_le q) (h'.1 z hz)
    · rename_i q
      refine List.pairwise_cons.2 ⟨fun z hz => ?_, ins_srt h'.2⟩
      rcases List.mem_cons.1 ((ins_perm f x r).mem_iff.1 hz) with rfl | hz
      · exact not_ltK.1 q
      · exact h'.1 z hz
theorem foldl_ins {f : Int → Int} : ∀ (l a : List Int), SrtK f a → SrtK f (l.foldl (fun a x => ins f x a) a) ∧ (l.foldl (fun a x => ins f x a) a).Perm (a ++ l)
  | [], a, h => ⟨h, by simp⟩
  | x :: r, a, h => by
    obtain ⟨h1, h2⟩ := foldl_ins r (ins f x a) (ins_srt h)
    refine ⟨h1, h2.trans ?_⟩
    exact ((ins_perm f x a).append_right r).trans (List.perm_middle.symm)
theorem srt_srt (f : Int → Int) (l : List Int) : SrtK f (srt f l) := (foldl_ins l [] .nil).1
theorem srt_perm (f : Int → Int) (l : List Int) : (srt f l).Perm l := by
  have := (foldl_ins l [] (.nil : SrtK f [])).2
  rwa [List.nil_append] at this
theorem srt_len (f : Int → Int) (l : List Int) : (srt f l).length = l.length := (srt_perm f l).length_eq
theorem srt_mem {f : Int → Int} {l : List Int} {x : Int} : x ∈ srt f l ↔ x ∈ l := (srt_perm f l).mem_iff
theorem srt_is {f : Int → Int} {l r : List Int} (h : SrtK f l) (hp : l.Perm r) : l = srt f r := srtK_eq h (srt_srt f r) (hp.trans (srt_perm f r).symm)
theorem srt_snoc (f : Int → Int) (l : List Int) (x : Int) : srt f (l ++ [x]) = ins f x (srt f l) := by simp [srt]
theorem srt_nil (f : Int → Int) : srt f [] = [] := rfl
theorem srt_one (f : Int → Int) (x : Int) : srt f [x] = [x] := rfl
/-- The place where a number is put in. -/
theorem ins_at {f : Int → Int} {x : Int} {A B : List Int} (h : SrtK f (A ++ B)) (hA : ∀ y ∈ A, leK f y x) (hB : ∀ y ∈ B, leK f x y) : A ++ x :: B = ins f x (A ++ B) := by
  refine srtK_eq ?_ (ins_srt h) (List.perm_middle.trans (ins_perm f x (A ++ B)).symm)
  obtain ⟨h1, h2, h3⟩ := List.pairwise_append.1 h
  refine List.pairwise_append.2 ⟨h1, List.pairwise_cons.2 ⟨hB, h2⟩, fun a ha b hb => ?_⟩
  rcases List.mem_cons.1 hb with rfl | hb
  · exact hA a ha
  · exact h3 a ha b hb
/-- Two sorted halves, and their parts. -/
theorem merge_parts {f : Int → Int} {A B C D : List Int} (h1 : SrtK f (A ++ B)) (h2 : SrtK f (C ++ D)) (hAD : ∀ x ∈ A, ∀ y ∈ D, leK f x y) (hCB : ∀ x ∈ C, ∀ y ∈ B, leK f x y) : srt f (A ++ C) ++ srt f (B ++ D) = srt f (A ++ B ++ (C ++ D)) := by
  obtain ⟨a1, a2, a3⟩ := List.pairwise_append.1 h1
  obtain ⟨c1, c2, c3⟩ := List.pairwise_append.1 h2
  refine srt_is (List.pairwise_append.2 ⟨srt_srt _ _, srt_srt _ _, fun x hx y hy => ?_⟩) ?_
  · rw [srt_mem, List.mem_append] at hx hy
    rcases hx with hx | hx <;> rcases hy with hy | hy
    · exact a3 x hx y hy
    · exact hAD x hx y hy
    · exact hCB x hx y hy
    · exact c3 x hx y hy
  · refine ((srt_perm f (A ++ C)).append (srt_perm f (B ++ D))).trans ?_
    rw [List.append_assoc, List.append_assoc]
    refine List.Perm.append_left A ?_
    rw [← List.append_assoc, ← List.append_assoc]
    exact List.Perm.append_right D List.perm_append_comm
theorem srt_of {f : Int → Int} {l : List Int} (h : SrtK f l) : srt f l = l := (srt_is h (.refl _)).symm
/-! ### Blocks -/
def blkS (f : Int → Int) (w : Nat) (X : List Int) : List Int := if _h : 0 < w ∧ 0 < X.length then srt f (X.take w) ++ blkS f w (X.drop w) else []
termination_by X.length
decreasing_by simp; omega
theorem blk_nil (f : Int → Int) (w : Nat) : blkS f w [] = [] := by unfold blkS; simp
theorem blk_cons {f : Int → Int} {w : Nat} {X : List Int} (hw : 0 < w) (hX : 0 < X.length) : blkS f w X = srt f (X.take w) ++ blkS f w (X.drop w) := by
  rw [blkS, dif_pos ⟨hw, hX⟩]
theorem blk_one {f : Int → Int} {w : Nat} {X : List Int} (hw : 0 < w) (hX : X.length ≤ w) : blkS f w X = srt f X := by
  by_cases h : 0 < X.length
  · rw [blk_cons hw h, List.take_of_length_le hX, List.drop_of_length_le hX, blk_nil, List.append_nil]
  · have : X = [] := List.eq_nil_of_length_eq_zero (by omega)
    subst this
    rw [blk_nil]; rfl
theorem blk_perm {f : Int → Int} {w : Nat} (hw : 0 < w) : ∀ (n : Nat) {X : List Int}, X.length ≤ n → (blkS f w X).Perm X
  | 0, X, _ => by
    have : X = [] := List.eq_nil_of_length_eq_zero (by omega)
    subst this; rw [blk_nil]
  | n + 1, X, h => by
    by_cases hX : 0 < X.length
    · rw [blk_cons hw hX]
      have := blk_perm (f := f) hw n (X := X.drop w) (by rw [List.length_drop]; omega)
      exact ((srt_perm f _).append this).trans (by rw [List.take_append_drop])
    · have : X = [] := List.eq_nil_of_length_eq_zero (by omega)
      subst this; rw [blk_nil]
theorem blk_len {f : Int → Int} {w : Nat} {X : List Int} (hw : 0 < w) : (blkS f w X).length = X.length := (blk_perm hw X.length (Nat.le_refl _)).length_eq
theorem blk_app {f : Int → Int} {w : Nat} (hw : 0 < w) : ∀ (k : Nat) {A B : List Int}, A.length = w * k → blkS f w (A ++ B) = blkS f w A ++ blkS f w B
  | 0, A, B, h => by
    have : A = [] := List.eq_nil_of_length_eq_zero (by simpa using h)
    subst this; rw [blk_nil, List.nil_append, List.nil_append]
  | k + 1, A, B, h => by
    have hA : w ≤ A.length := by rw [h, Nat.mul_add]; omega
    rw [blk_cons (X := A ++ B) hw (by rw [List.length_append]; omega), blk_cons (X := A) hw (by omega), List.take_append_of_le_length hA, List.drop_append_of_le_length hA, blk_app hw k (by rw [List.length_drop, h, Nat.mul_add]; omega), List.append_assoc]
/-! ### Swaps -/
theorem zip_get {Q : List Int} {u : Int} {R : List Int} {i : Nat} (hi : Q.length = i) : (Q ++ u :: R)[i]? = some u := by
  subst hi
  rw [List.getElem?_append_right (Nat.le_refl _), Nat.sub_self]
  rfl
theorem zip_set {Q : List Int} {u v : Int} {R : List Int} {i : Nat} (hi : Q.length = i) : (Q ++ u :: R).set i v = Q ++ v :: R := by
  subst hi
  rw [List.set_append_right _ _ (Nat.le_refl _), Nat.sub_self]
  rfl
/-- What rotating leaves to do: A and B, which lie side by side, the one for the other. -/
theorem swp_round {P A B M S : List Int} {k : Nat} (hA : k < A.length) (hB : k < B.length) :
    P ++ (B.take k ++ A.drop k) ++ M ++ (A.take k ++ B.drop k) ++ S = (P ++ B.take k) ++ A[k] :: (A.drop (k + 1) ++ M ++ A.take k ++ B[k] :: (B.drop (k + 1) ++ S)) ∧
    P ++ (B.take (k + 1) ++ A.drop (k + 1)) ++ M ++ (A.take (k + 1) ++ B.drop (k + 1)) ++ S = (P ++ B.take k) ++ B[k] :: (A.drop (k + 1) ++ M ++ A.take k ++ A[k] :: (B.drop (k + 1) ++ S)) := by
  rw [List.drop_eq_getElem_cons hA, List.drop_eq_getElem_cons hB, List.take_succ_eq_append_getElem hA, List.take_succ_eq_append_getElem hB]
  simp only [List.append_assoc, List.cons_append, List.nil_append, and_self]
theorem one_get {Z : List Int} {i : Nat} {u : Int} (h : Z[i]? = some u) : (Z.map oneI).getD i [] = [.val (.int .i64 u)] := by
  rw [List.getD_eq_getElem?_getD, List.getElem?_map, h]
  rfl
theorem one_set (Z : List Int) (i : Nat) (v : Int) : (Z.map oneI).set i [.val (.int .i64 v)] = (Z.set i v).map oneI := by
  rw [List.map_set]
  rfl
/-- The facts of a swap: first the first place, or first the second one. -/
theorem swp_facts {Z Q M R : List Int} {u v : Int} {i j : Nat} (hZ : Z = Q ++ u :: (M ++ v :: R)) (hi : Q.length = i) (hj : i + 1 + M.length = j) :
    ((Z.map oneI).getD i [] = [.val (.int .i64 u)] ∧ (Z.map oneI).getD j [] = [.val (.int .i64 v)]) ∧
    (∃ Z1 : List Int, (Z.map oneI).set i [.val (.int .i64 v)] = Z1.map oneI ∧ Z1.length = Z.length ∧ (Z1.map oneI).getD j [] = [.val (.int .i64 v)] ∧ (Z1.map oneI).set j [.val (.int .i64 u)] = (Q ++ v :: (M ++ u :: R)).map oneI) ∧
    (∃ Z2 : List Int, (Z.map oneI).set j [.val (.int .i64 u)] = Z2.map oneI ∧ Z2.length = Z.length ∧ (Z2.map oneI).getD i [] = [.val (.int .i64 u)] ∧ (Z2.map oneI).set i [.val (.int .i64 v)] = (Q ++ v :: (M ++ u :: R)).map oneI) := by
  have e : ∀ a b : Int, Q ++ a :: (M ++ b :: R) = (Q ++ a :: M) ++ b :: R := fun a b => by simp only [List.append_assoc, List.cons_append]
  have hl : ∀ a : Int, (Q ++ a :: M).length = j := fun a => by rw [List.length_append, List.length_cons]; omega
  subst hZ
  refine ⟨⟨one_get (zip_get hi), one_get (by rw [e]; exact zip_get (hl u))⟩, ⟨Q ++ v :: (M ++ v :: R), ?_, by simp, one_get (by rw [e]; exact zip_get (hl v)), ?_⟩, ⟨Q ++ u :: (M ++ u :: R), ?_, by simp, one_get (zip_get hi), ?_⟩⟩
  · rw [one_set, zip_set hi]
  · rw [one_set, e, zip_set (hl v), ← e]
  · rw [one_set, e, zip_set (hl u), ← e]
  · rw [one_set, zip_set hi]
end Go.Proofs.Ytbdcnooafacldaa
