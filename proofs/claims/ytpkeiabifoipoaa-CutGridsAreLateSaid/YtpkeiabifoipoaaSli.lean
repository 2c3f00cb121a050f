/- slices.Index, Contains, Equal over numbers. -/
import Derived.Test.YtpkeiabifoipoaaOwn
namespace Go.Proofs.Ytpkeiabifoipoaa
open Go.RowKit
attribute [local go_sem] cell_grow frozen_grow

/-- The first index of x in l; -1: none. -/
def indexOf (x : Int) (l : List Int) : Int := match l.findIdx? (fun y => x == y) with | some i => i | none => -1
theorem indexOf_hit {x : Int} {l : List Int} {k : Nat} (hk : k < l.length) (h : l[k] = x) (hn : ∀ j, (hj : j < k) → l[j]'(by omega) ≠ x) : indexOf x l = k := by
  unfold indexOf
  rw [show l.findIdx? (fun y => x == y) = some k from ?_]
  rw [List.findIdx?_eq_some_iff_getElem]
  exact ⟨hk, by simp [h], fun j hj => by have := hn j hj; simp; exact fun h => this h.symm⟩
theorem indexOf_none {x : Int} {l : List Int} (hn : ∀ j, (hj : j < l.length) → l[j] ≠ x) : indexOf x l = -1 := by
  unfold indexOf
  rw [show l.findIdx? (fun y => x == y) = none from ?_]
  rw [List.findIdx?_eq_none_iff]
  intro y hy
  obtain ⟨j, hj, rfl⟩ := List.getElem_of_mem hy
  have := hn j hj
  simp; exact fun h => this h.symm
theorem indexOf_mem {x : Int} {l : List Int} (h : x ∈ l) : 0 ≤ indexOf x l := by
  unfold indexOf
  cases hh : l.findIdx? (fun y => x == y) with
  | none => rw [List.findIdx?_eq_none_iff] at hh; have := hh x h; simp at this
  | some i => simp

set_option maxHeartbeats 400000 in
theorem index_any (A : Option Addr) (c : Nat) (l : List Int) (x : Int) (w : World) (hl : l.length ≤ maxLen) (hR : Rd w w.heap.size A (l.map (Value.int .i64))) :
    Calls Try.prog 31 #[.slice A l.length c, .int .i64 x] w fun e w' => e = .returned (.int .i64 (indexOf x l)) ∧ w = w' := by
  unfold maxLen at hl
  go_enter Try.func31, Try.ntmps31
  go_wp2_with fail
  go_loop [8] (fun i => ∃ k : Nat, k ≤ l.length ∧ i = .int .i64 k ∧ Hid (∀ j, (hj : j < k) → ∀ hj' : j < l.length, l[j] ≠ x)) (fun i => l.length - (intOf i).toNat)
  case atStart => exact ⟨0, Nat.zero_le _, rfl, Lib.hid (fun j hj => by omega)⟩
  case round =>
    obtain ⟨k, hk, rfl, HN⟩ := hrel
    by_cases hlt : k < l.length
    · obtain ⟨b, off, rfl, hb, hc⟩ := hR.ints hlt
      have h1 := hc k _ (List.getElem?_eq_getElem hlt)
      clear hc
      by_cases he : l[k] = x
      · have hd : (x == l[k]) = true := by simp [he]
        have HE := Lib.hid (indexOf_hit hlt he (fun j hj => HN.out j hj _))
        clear he
        go_wp2_with fail
        go_ret
        exact ⟨ret_int HE.out.symm, rfl⟩
      · have hd : (x == l[k]) = false := by simp; exact fun h => he h.symm
        have HE := Lib.hid he
        clear he
        go_wp2_with fail
        go_round
        case rel => exact ⟨k + 1, by omega, by go_num, Lib.hid (fun j hj hj' => by
          by_cases h : j = k
          · subst h; exact HE.out
          · exact HN.out j (by omega) hj')⟩
        case measure => simp [intOf]; omega
    · have HE := Lib.hid (indexOf_none (x := x) (l := l) (fun j hj => HN.out j (by omega) hj))
      go_wp2_with fail
      go_ret
      exact ⟨ret_int HE.out.symm, rfl⟩

theorem contains_yes (A : Option Addr) (c : Nat) (l : List Int) (x : Int) (hx : x ∈ l) (w : World) (hl : l.length ≤ maxLen) (hR : Rd w w.heap.size A (l.map (Value.int .i64))) :
    Calls Try.prog 13 #[.slice A l.length c, .int .i64 x] w fun e w' => e = .returned (.bool true) ∧ w = w' := by
  have h0 := indexOf_mem hx
  go_enter Try.func13, Try.ntmps13
  go_wp2_with (go_at_call 31; refine (index_any A c l x _ hl hR).mono ?_; rintro e w' ⟨rfl, rfl⟩)
  go_ret
  exact ⟨rfl, rfl⟩

set_option maxHeartbeats 400000 in
/-- Equal of one list with itself, wherever the two lie. -/
theorem equal_yes (A : Option Addr) (c : Nat) (A' : Option Addr) (c' : Nat) (l : List Int) (w : World) (hl : l.length ≤ maxLen) (hR : Rd w w.heap.size A (l.map (Value.int .i64))) (hR' : Rd w w.heap.size A' (l.map (Value.int .i64))) :
    Calls Try.prog 17 #[.slice A l.length c, .slice A' l.length c'] w (Gives (.bool true) w) := by
  unfold maxLen at hl
  go_enter Try.func17, Try.ntmps17
  go_wp2_with fail
  go_loopw [13] (fun i wr => ∃ k : Nat, k ≤ l.length ∧ i = .int .i64 k ∧ ∃ x, wr = grow w x) (fun i _ => l.length - (intOf i).toNat)
  case atStart => exact ⟨0, Nat.zero_le _, rfl, _, grow_self w⟩
  case round =>
    obtain ⟨k, hk, rfl, x, rfl⟩ := hrel
    by_cases hlt : k < l.length
    · obtain ⟨b, off, rfl, hb, hc⟩ := hR.ints hlt
      obtain ⟨b', off', rfl, hb', hc'⟩ := hR'.ints hlt
      have h1 := hc k _ (List.getElem?_eq_getElem hlt)
      have h1' := hc' k _ (List.getElem?_eq_getElem hlt)
      clear hc hc'
      have hki : (k : Int) < l.length := by omega
      have hk0 : (0 : Int) ≤ k := by omega
      have hd : (l[k] != l[k]) = false := by simp
      go_wp2_with fail
      go_quiet (fail)
      go_wp2_with fail
      go_roundw
      case rel => exact ⟨k + 1, by omega, by go_num, grow_trans (below_drewN (Below.refl _ _) _)⟩
      case measure => simp [intOf]; omega
    · go_wp2_with fail
      go_ret
      exact ⟨rfl, grow_below _ _⟩
end Go.Proofs.Ytpkeiabifoipoaa
