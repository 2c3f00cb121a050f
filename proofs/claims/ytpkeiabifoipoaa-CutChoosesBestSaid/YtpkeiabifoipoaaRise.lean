/- cut.risingFault, cut.wishFault: the fault of increasing times, and of places with a wish. -/
import Derived.Test.YtpkeiabifoipoaaKit
namespace Go.Proofs.Ytpkeiabifoipoaa
open Go.RowKit
attribute [local go_sem] cell_grow frozen_grow

/-- Times, p before them: increasing times. -/
def riseGo : Option Int → List Int → Int
  | _, [] => 0
  | p, t :: r => if noTime t then 1 else if (p.any fun q => decide (t ≤ q)) then 8 else riseGo (some t) r
def rise (l : List Int) : Int := if l.length = 0 then 9 else if 1000 < l.length then 2 else riseGo none l
/-- The element before index k. -/
def prv (l : List Int) (k : Nat) : Option Int := if k = 0 then none else l[k-1]?
theorem prv_succ (l : List Int) (k : Nat) (h : k < l.length) : prv l (k + 1) = some l[k] := by simp [prv, h]
theorem riseGo_1 (l : List Int) (k : Nat) (h : k < l.length) (ht : noTime l[k] = true) : riseGo (prv l k) (l.drop k) = 1 := by
  rw [List.drop_eq_getElem_cons h, riseGo, if_pos ht]
theorem riseGo_8 (l : List Int) (k : Nat) (h : k < l.length) (ht : noTime l[k] = false) (h0 : 0 < k) (hle : l[k] ≤ l[k-1]) : riseGo (prv l k) (l.drop k) = 8 := by
  have hp : prv l k = some l[k-1] := by simp only [prv]; rw [if_neg (by omega), List.getElem?_eq_getElem]
  rw [List.drop_eq_getElem_cons h, riseGo, hp]
  simp [ht, hle]
theorem riseGo_next (l : List Int) (k : Nat) (h : k < l.length) (ht : noTime l[k] = false) (hle : 0 < k → l[k-1]'(by omega) < l[k]) : riseGo (prv l k) (l.drop k) = riseGo (prv l (k + 1)) (l.drop (k + 1)) := by
  rw [List.drop_eq_getElem_cons h, riseGo, prv_succ l k h]
  by_cases h0 : k = 0
  · subst h0; simp [ht, prv]
  · have hp : prv l k = some l[k-1] := by simp only [prv]; rw [if_neg h0, List.getElem?_eq_getElem]
    rw [hp]
    have := hle (by omega)
    simp [ht]
    omega
theorem riseGo_end (l : List Int) (k : Nat) (h : l.length ≤ k) : riseGo (prv l k) (l.drop k) = 0 := by rw [List.drop_eq_nil_of_le h]; rfl

set_option maxHeartbeats 400000 in
theorem rise_any (A : Option Addr) (c : Nat) (l : List Int) (w : World) (hl : l.length ≤ maxLen) (hR : Rd w w.heap.size A (l.map (Value.int .i64))) :
   Calls Try.prog 50 #[.slice A l.length c] w fun e w' => e = .returned (.int .i64 (rise l)) ∧ w = w' := by
  unfold maxLen at hl
  by_cases h0 : l.length = 0
  · have hd : ((l.length : Int) == 0) = true := by simpa using h0
    have HR := Lib.hid (show rise l = 9 by simp [rise, h0])
    clear h0
    go_enter Try.func50, Try.ntmps50
    go_wp2_with fail
    go_ret
    exact ⟨ret_int HR.out.symm, rfl⟩
  have hd : ((l.length : Int) == 0) = false := by simpa using h0
  by_cases h1 : 1000 < l.length
  · have HR := Lib.hid (show rise l = 2 by unfold rise; rw [if_neg h0, if_pos h1])
    clear h0
    go_enter Try.func50, Try.ntmps50
    go_wp2_with fail
    go_ret
    exact ⟨ret_int HR.out.symm, rfl⟩
  have HR := Lib.hid (show rise l = riseGo (prv l 0) (l.drop 0) by unfold rise; rw [if_neg h0, if_neg h1]; simp [prv])
  have hd1 : decide ((1000 : Int) < l.length) = false := by simp; omega
  clear h0 h1
  go_enter Try.func50, Try.ntmps50
  go_wp2_with fail
  go_loop [15] (fun i => ∃ k : Nat, k ≤ l.length ∧ i = .int .i64 k ∧ Hid (rise l = riseGo (prv l k) (l.drop k))) (fun i => l.length - (intOf i).toNat)
  case atStart => exact ⟨0, Nat.zero_le _, rfl, HR⟩
  case round =>
    clear HR
    obtain ⟨k, hk, rfl, HR⟩ := hrel
    by_cases hlt : k < l.length
    · obtain ⟨b, off, rfl, hb, hc⟩ := hR.ints hlt
      have h1 := hc k _ (List.getElem?_eq_getElem hlt)
      have h2 : 0 < k → w.cell? ⟨b, off + (k-1), none⟩ = some (.int .i64 (l[k-1]'(by omega))) := fun h => hc (k-1) _ (List.getElem?_eq_getElem (by omega))
      clear hc
      cases hn : noTime l[k]
      · have H := Lib.hid hn
        clear hn
        go_wp2_with (go_at_call 32; refine (notime_f H.out _).mono ?_; rintro e w' ⟨rfl, rfl⟩)
        · go_ret
          exact ⟨ret_int (by rw [HR.out, riseGo_8 l k hlt H.out (by assumption) (by assumption)]), rfl⟩
        all_goals
          go_round
          case rel => exact ⟨k + 1, by omega, by go_num, Lib.hid (by rw [HR.out, riseGo_next l k hlt H.out (fun _ => by first | assumption | omega)])⟩
          case measure => simp [intOf]; omega
      · have H := Lib.hid hn
        clear hn
        go_wp2_with (go_at_call 32; refine (notime_t H.out _).mono ?_; rintro e w' ⟨rfl, rfl⟩)
        go_ret
        exact ⟨ret_int (by rw [HR.out, riseGo_1 l k hlt H.out]), rfl⟩
    · go_wp2_with fail
      go_ret
      exact ⟨ret_int (by rw [HR.out, riseGo_end l k (by omega)]), rfl⟩
end Go.Proofs.Ytpkeiabifoipoaa
