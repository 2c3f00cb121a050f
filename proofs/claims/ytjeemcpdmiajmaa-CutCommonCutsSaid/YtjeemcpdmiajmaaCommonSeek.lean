/- TopCommonCutsAreSeekable: the law's function. -/
import Derived.Test.YtjeemcpdmiajmaaKFrOK
import Derived.Test.YtjeemcpdmiajmaaKComes
namespace Go.Proofs.Ytjeemcpdmiajmaa
open Go.RowKit
set_option linter.unusedSimpArgs false

/-- What the law asks of a segment of a strand. -/
def segLaw (r : Str) (s : Seg) : Prop := r.sound = false → s.len ≠ 0 → -1000000000000000 ≤ s.beg → s.beg < 1000000000000000 →
  (needF r.smps s.beg (s.beg + 1)).2 = 0 ∧ s.frm ≤ (needF r.smps s.beg (s.beg + 1)).1.1 ∧ (needF r.smps s.beg (s.beg + 1)).1.1 < s.to
theorem allGo_len {sc first : Int} {B : List Int} : ∀ {ts : List Str} {acc : List (List Seg)}, (allGo sc B first ts acc).2 = 0 → (allGo sc B first ts acc).1.length = acc.length + ts.length
  | [], acc, _ => by simp [allGo]
  | s :: t, acc, h => by
    rw [allGo] at h ⊢
    split at h
    · rename_i h1; exact absurd h h1
    · rename_i h1
      rw [if_neg h1, allGo_len h]
      simp
      omega
theorem allF_no {ts : List Str} {B : List Int} {first : Int} (h : (allF ts B first).2 ≠ 0) : (allF ts B first).1 = [] := by
  unfold allF at h ⊢
  split
  · rfl
  rename_i h1
  rw [if_neg h1] at h
  generalize scale0 ts = sc at *
  have key : ∀ (ts : List Str) (acc : List (List Seg)), (allGo sc B first ts acc).2 ≠ 0 → (allGo sc B first ts acc).1 = [] := by
    intro ts
    induction ts with
    | nil => intro acc h; exact absurd rfl h
    | cons s t ih =>
      intro acc h
      rw [allGo] at h ⊢
      split
      · rfl
      · rename_i h1
        rw [if_neg h1] at h
        exact ih _ h
  exact key ts [] h
end Go.Proofs.Ytjeemcpdmiajmaa
