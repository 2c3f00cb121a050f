/- The reference's index, in plain numbers. -/
import Derived.Test.YtjeemcpdmiajmaaDoorKIdxR
import Derived.Test.YtjeemcpdmiajmaaDoorKNumP
import Derived.Test.YtjeemcpdmiajmaaDoorKNumF
import Derived.Test.YtjeemcpdmiajmaaDoorKNumX
namespace Go.Proofs.YtjeemcpdmiajmaaDoor
open Go.RowKit
set_option linter.unusedSimpArgs false

theorem rnd_one (neg : Bool) (t : Nat) (way : Int) : rndN neg t 1 way = t := by
  have h : t % 1 = 0 := Nat.mod_one t
  unfold rndN upN
  rw [h]
  simp
def begV (s : Seg) : Int := if sumB s.beg s.lead then s.beg + s.lead else 0
theorem begV_ok {s : Seg} (h : outIx s = false) : begV s = s.bw := by
  obtain ⟨_, _, _, _, _, _, _, _, e⟩ := outIx_f h
  simp only [outIx, Bool.or_eq_false_iff, Bool.not_eq_false'] at h
  unfold begV
  rw [if_pos h.1.1.2, e]
  rfl
/-- The index so far: the first k segments. -/
theorem ixGo_at {l : List Seg} {k : Nat} (hk : k < l.length) (p : Option Seg) : ixGo p (l.drop k) = if outIx l[k] then 1 else if p.any (fun q => offIx q l[k]) then 8 else ixGo (some l[k]) (l.drop (k + 1)) := by
  rw [List.drop_eq_getElem_cons hk, ixGo]
theorem off_is {q s : Seg} (hq : outIx q = false) (hs : outIx s = false) : offIx q s = (s.number != q.number + 1 || begV s != begV q + q.len) := by
  rw [begV_ok hs, begV_ok hq]
  obtain ⟨a1, a2, a3, a4, a5, a6, a7, a8, a9⟩ := outIx_f hq
  unfold offIx
  rw [wrap_in (by omega) (by omega), wrap_in (by omega) (by omega)]
/-! ### Reading -/
theorem rd_badA {b : List Nat} (hl : ¬ 100000 < b.length) (h : b.length < 4) : rdF b = ([], 0, 0, 10) := by
  have hA : rdA b = (0, 0, true) := by
    unfold rdA tkN
    rw [if_pos (by simp; omega)]
  have hB : rdB b = (0, 0, true) := by unfold rdB; rw [hA, tkN_bad]
  have hC : rdC b = (0, 0, true) := by unfold rdC; rw [hB, tkN_bad]
  have hD : rdD b = (0, 0, true) := by unfold rdD; rw [hC, tkN_bad]
  have hL : rdL b = ([], 0, true) := by unfold rdL; rw [hB, hC, hD]; rfl
  unfold rdF
  rw [if_neg hl, hL]
  rfl
theorem rd_badB {b : List Nat} (hl : ¬ 100000 < b.length) {x : Int} {a : Nat} (hA : rdA b = (x, a, false)) (h : b.length < a + 8) : rdF b = ([], 0, ((a : Nat) : Int), 10) := by
  have hB : rdB b = (0, a, true) := by
    unfold rdB
    rw [hA]
    unfold tkN
    rw [if_pos (by simp; omega)]
  have hC : rdC b = (0, a, true) := by unfold rdC; rw [hB, tkN_bad]
  have hD : rdD b = (0, a, true) := by unfold rdD; rw [hC, tkN_bad]
  have hL : rdL b = ([], a, true) := by unfold rdL; rw [hB, hC, hD]; rfl
  unfold rdF
  rw [if_neg hl, hL]
  rfl
theorem rd_badC {b : List Nat} (hl : ¬ 100000 < b.length) {x : Int} {a : Nat} (hB : rdB b = (x, a, false)) (h : b.length < a + 8) : rdF b = ([], 0, ((a : Nat) : Int), 10) := by
  have hC : rdC b = (0, a, true) := by
    unfold rdC
    rw [hB]
    unfold tkN
    rw [if_pos (by simp; omega)]
  have hD : rdD b = (0, a, true) := by unfold rdD; rw [hC, tkN_bad]
  have hL : rdL b = ([], a, true) := by unfold rdL; rw [hC, hD]; rfl
  unfold rdF
  rw [if_neg hl, hL]
  rfl
theorem rd_badD {b : List Nat} (hl : ¬ 100000 < b.length) {x : Int} {a : Nat} (hC : rdC b = (x, a, false)) (h : b.length < a + 2) : rdF b = ([], 0, ((a : Nat) : Int), 10) := by
  have hD : rdD b = (0, a, true) := by
    unfold rdD
    rw [hC]
    unfold tkN
    rw [if_pos (by simp; omega)]
  have hL : rdL b = ([], a, true) := by unfold rdL; rw [hD]; rfl
  unfold rdF
  rw [if_neg hl, hL]
  rfl
theorem tkN_yes {b : List Nat} {at_ k : Nat} (h : at_ + k ≤ b.length) : tkN b at_ false k = (s64 (beV ((b.drop at_).take k) 0), at_ + k, false) := by
  unfold tkN
  rw [if_neg (by simp; omega)]
theorem tkN_no {b : List Nat} {at_ k : Nat} (h : b.length < at_ + k) : tkN b at_ false k = (0, at_, true) := by
  unfold tkN
  rw [if_pos (by simp; omega)]
/-! ### A round of reading -/
theorem rd_round {b : List Nat} {c at_ : Nat} {num beg : Int} {out : List Seg} (h : at_ + 8 ≤ b.length) : rdGo b (c + 1) num beg at_ false out =
    rdGo b c (IntKind.i64.wrap (num + 1)) (IntKind.i64.wrap (beg + s64 (beV ((b.drop (at_ + 4)).take 4) 0))) (at_ + 8) false (out ++ [⟨num, 0, 0, beg, s64 (beV ((b.drop (at_ + 4)).take 4) 0), s64 (beV ((b.drop at_).take 4) 0), 0⟩]) := by
  rw [rdGo, if_neg (by simp), tkN_yes (show at_ + 4 ≤ b.length by omega)]
  simp only
  rw [tkN_yes (show at_ + 4 + 4 ≤ b.length by omega)]
theorem rdGo_stop (b : List Nat) (c : Nat) (num beg : Int) (at_ : Nat) (out : List Seg) : (rdGo b c num beg at_ true out).2 = (at_, true) := by
  cases c with
  | zero => rfl
  | succ c => simp [rdGo]
theorem rd_bad1 {b : List Nat} {c at_ : Nat} {num beg : Int} {out : List Seg} (h : b.length < at_ + 4) : (rdGo b (c + 1) num beg at_ false out).2 = (at_, true) := by
  rw [rdGo, if_neg (by simp), tkN_no h]
  simp only
  rw [tkN_bad]
  exact rdGo_stop _ _ _ _ _ _
theorem rd_bad2 {b : List Nat} {c at_ : Nat} {num beg : Int} {out : List Seg} (h1 : at_ + 4 ≤ b.length) (h : b.length < at_ + 8) : (rdGo b (c + 1) num beg at_ false out).2 = (at_ + 4, true) := by
  rw [rdGo, if_neg (by simp), tkN_yes h1]
  simp only
  rw [tkN_no (show b.length < at_ + 4 + 4 by omega)]
  exact rdGo_stop _ _ _ _ _ _
theorem rd_fail {b : List Nat} (hl : ¬ 100000 < b.length) {a : Nat} (h : (rdL b).2 = (a, true)) : rdF b = ([], 0, ((a : Nat) : Int), 10) := by
  unfold rdF
  rw [if_neg hl, h]
  simp
theorem wrap_next (x : Int) (i : Nat) : IntKind.i64.wrap (IntKind.i64.wrap (x + i) + 1) = IntKind.i64.wrap (x + ((i + 1 : Nat) : Int)) := by
  rw [wrap_i64, wrap_i64, wrap_i64]
  split <;> split <;> (try split) <;> omega
theorem set_zero (a x : Nat) (r : List Nat) : (List.replicate (a + 1) 0 ++ r).set a x = List.replicate a 0 ++ (x :: r) := by
  rw [List.replicate_succ', List.append_assoc, List.set_append_right _ _ (by simp)]
  simp
end Go.Proofs.YtjeemcpdmiajmaaDoor
