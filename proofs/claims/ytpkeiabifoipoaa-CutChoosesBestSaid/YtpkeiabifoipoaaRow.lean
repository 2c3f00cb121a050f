/- Rows of structs that a call makes and writes: what make leaves, what a store into an element does. -/
import Derived.Test.YtpkeiabifoipoaaOwn
namespace Go.Proofs.Ytpkeiabifoipoaa
open Go.RowKit

section
variable {α : Type} {f : α → List Value} {k : Nat}
theorem made_rows (hf : ∀ x, (f x).length = k) (hk : 0 < k) (x : α) (n : Nat) : madeCells (f x).toArray (n * k) = ((List.replicate n x).flatMap f).toArray := by
  have hlen : ∀ n, ((List.replicate n x).flatMap f).length = n * k := by
    intro n
    induction n with
    | zero => simp
    | succ n ih => rw [List.replicate_succ, List.flatMap_cons, List.length_append, ih, hf, Nat.succ_mul]; omega
  apply Array.ext
  · rw [size_madeCells]; simp [hlen]
  · intro j h1 h2
    rw [size_madeCells] at h1
    have hj : j / k < n := Nat.div_lt_of_lt_mul (by rw [Nat.mul_comm]; exact h1)
    have hm : j % k < k := Nat.mod_lt _ hk
    have he := flatMap_at f k hf (List.replicate n x) (j / k) (j % k) x (by simp [hj]) hm
    rw [Nat.mul_comm, Nat.div_add_mod] at he
    have h3 : ((List.replicate n x).flatMap f)[j]? = some (((List.replicate n x).flatMap f)[j]'(by rw [hlen]; exact h1)) := List.getElem?_eq_getElem _
    rw [h3, List.getElem?_eq_getElem (by rw [hf]; exact hm)] at he
    injection he with he
    simp only [madeCells, Array.getElem_map, Array.getElem_range, List.getElem_toArray]
    rw [he]
    have hsz : (f x).toArray.size = k := by simp [hf]
    rw [hsz, getElem!_pos _ _ (by rw [hsz]; exact hm)]
    simp
theorem set_mid {β : Type} (A B C : List β) (v : β) {n j : Nat} (hn : A.length = n) (hj : j < B.length) : (A ++ B ++ C).set (n + j) v = A ++ B.set j v ++ C := by
  subst hn
  rw [List.append_assoc, List.set_append_right _ _ (by omega), List.append_assoc]
  congr 1
  rw [show A.length + j - A.length = j by omega, List.set_append_left _ _ hj]
theorem rows_mid (hf : ∀ x, (f x).length = k) (P : List α) {i : Nat} (hi : i < P.length) : P.flatMap f = (P.take i).flatMap f ++ f P[i] ++ (P.drop (i + 1)).flatMap f ∧ ((P.take i).flatMap f).length = i * k := by
  refine ⟨?_, ?_⟩
  · have e : P = P.take i ++ P[i] :: P.drop (i + 1) := by rw [← List.drop_eq_getElem_cons hi, List.take_append_drop]
    have h := congrArg (List.flatMap f) e
    rw [List.flatMap_append, List.flatMap_cons, ← List.append_assoc] at h
    exact h
  · have : ∀ (l : List α), (l.flatMap f).length = l.length * k := by
      intro l
      induction l with
      | nil => simp
      | cons a l ih => rw [List.flatMap_cons, List.length_append, ih, hf, List.length_cons, Nat.succ_mul]; omega
    rw [this, List.length_take]
    congr 1
    omega
theorem rows_set (P : List α) {i : Nat} (hi : i < P.length) (x : α) : (P.set i x).flatMap f = (P.take i).flatMap f ++ f x ++ (P.drop (i + 1)).flatMap f := by
  rw [List.set_eq_take_append_cons_drop, if_pos hi]
  simp
theorem rows_length (hf : ∀ x, (f x).length = k) (l : List α) : (l.flatMap f).length = l.length * k := by
  induction l with
  | nil => simp
  | cons a l ih => rw [List.flatMap_cons, List.length_append, ih, hf, List.length_cons, Nat.succ_mul]; omega
end
theorem Blk.rd {w : World} {g : Nat} {t : TypeId} {xs : List Value} (h : Blk w g t xs.toArray) : Rd w w.heap.size (some ⟨g, 0, none⟩) xs := fun _ =>
  ⟨g, 0, rfl, h.lt, fun j u hu => by rw [Nat.zero_add]; exact h.cell j u (by simpa using hu)⟩
end Go.Proofs.Ytpkeiabifoipoaa
