/- cut.Grid: the boundaries that one finds without knowing what comes. -/
import Derived.Test.YtpkeiabifoipoaaWish
import Derived.Deep.LoopGhost
namespace Go.Proofs.Ytpkeiabifoipoaa
open Go.RowKit
attribute [local go_sem] cell_grow frozen_grow cell_growBut frozen_growBut

/-- The boundaries out of the places that are left, number k being the next one. -/
def gridGo (p t : Int) : Nat → List Int → List Int
  | _, [] => []
  | k, x :: r => if x - p < k * t then gridGo p t k r else x :: gridGo p t (k + 1) r
def grid (t : Int) : List Int → List Int
  | [] => []
  | p :: r => p :: gridGo p t 1 r
theorem gridGo_skip {p t : Int} {k i : Nat} {l : List Int} (h : i < l.length) (hs : l[i] - p < k * t) : gridGo p t k (l.drop i) = gridGo p t k (l.drop (i + 1)) := by
  rw [List.drop_eq_getElem_cons h, gridGo, if_pos hs]
theorem gridGo_take {p t : Int} {k i : Nat} {l : List Int} (h : i < l.length) (hs : k * t ≤ l[i] - p) : gridGo p t k (l.drop i) = l[i] :: gridGo p t (k + 1) (l.drop (i + 1)) := by
  rw [List.drop_eq_getElem_cons h, gridGo, if_neg (by omega)]
theorem rise_0 {l : List Int} (h : rise l = 0) : 0 < l.length ∧ l.length ≤ 1000 ∧ riseGo none l = 0 := by
  unfold rise at h
  split at h
  · omega
  · split at h
    · omega
    · exact ⟨by omega, by omega, h⟩
theorem riseGo_times : ∀ {l : List Int} {p : Option Int}, riseGo p l = 0 → ∀ x ∈ l, -1000000000000000 ≤ x ∧ x ≤ 1000000000000000
  | [], _, _, x, hx => by simp at hx
  | t :: r, p, h, x, hx => by
    unfold riseGo at h
    cases ht : noTime t
    · rw [ht] at h
      simp only [Bool.false_eq_true, if_false] at h
      split at h
      · omega
      · rcases List.mem_cons.1 hx with rfl | hx
        · exact of_noTime_f ht
        · exact riseGo_times h x hx
    · simp [ht] at h
theorem mul_bd {k : Nat} {t : Int} (hk : k ≤ 1001) (h1 : 1 ≤ t) (h2 : t ≤ 50000000) : 0 ≤ (k : Int) * t ∧ (k : Int) * t ≤ 50050000000 := by
  constructor
  · exact Int.mul_nonneg (by omega) (by omega)
  · calc (k : Int) * t ≤ 1001 * t := Int.mul_le_mul_of_nonneg_right (by omega) (by omega)
      _ ≤ _ := by omega

theorem int_info : (Try.prog.info? 3).map (fun i => (i.zero, i.size, i.bytes)) = some (some (.int .i64 0), 1, 8) := by kernel_rfl

set_option maxRecDepth 100000 in
set_option maxHeartbeats 1000000 in
theorem grid_yes (A : Option Addr) (c : Nat) (l : List Int) (sc t m : Int) (w : World) (hf : wishF l sc t m = 0) (hR : Rd w w.heap.size A (l.map (Value.int .i64))) :
    Calls Try.prog 11 #[.slice A l.length c, .agg #[.int .i64 sc, .int .i64 t, .int .i64 m]] w fun e w' => ∃ A' c', e = .returned (.tuple #[.slice A' (grid t l).length c', .int .i64 0]) ∧
      w'.ownsRow w.heap.size 3 1 (.slice A' (grid t l).length c') (grid t l).length ((grid t l).map (Value.int .i64)) ∧ Below w.heap.size w w' := by
  obtain ⟨i0, hi, hz0, hz1, hz2⟩ := info_parts int_info
  have hwb : wishB sc t m = false := by
    unfold wishF at hf; cases h : wishB sc t m
    · rfl
    · simp [h] at hf
  have hr : rise l = 0 := by unfold wishF at hf; rw [hwb] at hf; simpa using hf
  obtain ⟨_, ht, _⟩ := wishB_f hwb
  obtain ⟨ht1, ht2⟩ := of_outB_f ht
  obtain ⟨hl0, hl1, hrg⟩ := rise_0 hr
  have HT := Lib.hid (riseGo_times hrg)
  clear hwb hr ht hrg
  obtain ⟨b, off, rfl, hb, hc⟩ := hR.ints hl0
  have hc0 := hc 0 _ (List.getElem?_eq_getElem hl0)
  simp only [Nat.add_zero] at hc0
  have hl0b := HT.out _ (List.getElem_mem hl0)
  obtain ⟨hl0b1, hl0b2⟩ := hl0b
  have HC := Lib.hid hc
  clear hc
  go_enter Try.func11, Try.ntmps11
  go_wp2_with (go_at_call 30; refine (wish_any (some ⟨b, off, none⟩) c l sc t m _ (by unfold maxLen; omega) (hR.go ((Below.refl _ _).alloc (Nat.le_refl _) _))).mono ?_; rw [hf]; rintro e w1 ⟨rfl, hb1⟩; obtain ⟨x1, rfl⟩ : ∃ x1, w1 = grow _ x1 := ⟨_, grow_of hb1⟩)
  have hz := size_grow (w.alloc (.cells #[.int .i64 sc, .int .i64 t, .int .i64 m] 24)) x1
  simp only [World.size_alloc] at hz
  go_loopg [7, 8, 9] (l.length - 1) (fun gk v i kk wr => ∃ (j kn : Nat) (A : Option Addr) (c : Nat) (out : List Int), gk = l.length - j ∧ j ≤ l.length ∧ 1 ≤ kn ∧ kn ≤ j ∧ i = .int .i64 j ∧ kk = .int .i64 kn ∧ v = .slice A out.length c ∧
    wr.ownsRow (w.heap.size + 1) 3 1 (.slice A out.length c) out.length (out.map (Value.int .i64)) ∧ Below w.heap.size w wr ∧ wr.cell? ⟨w.heap.size, 1, none⟩ = some (.int .i64 t) ∧ w.heap.size < wr.heap.size ∧ out.length ≤ j ∧
    Hid (out ++ gridGo l[0] t kn (l.drop j) = grid t l))
  case atStart =>
    have hB1 : Below w.heap.size w (grow (w.alloc (.cells #[.int .i64 sc, .int .i64 t, .int .i64 m] 24)) x1) := ((Below.refl _ _).alloc (Nat.le_refl _) _).trans (hb1.mono (by simp))
    refine ⟨1, 1, _, 1, [l[0]], rfl, by omega, by omega, by omega, rfl, rfl, rfl, ?_, hB1.alloc (by omega) _, ?_, by simp; omega, by simp, Lib.hid (by cases l with | nil => simp at hl0 | cons p r => simp [grid])⟩
    · exact ⟨by simp, .inr ⟨_, 1, _, rfl, by omega, heap_alloc_new _ _, by simp, by simp [maxLen], by simp, by simp⟩⟩
    · have h1 : w.heap.size < (grow (w.alloc (.cells #[.int .i64 sc, .int .i64 t, .int .i64 m] 24)) x1).heap.size := by omega
      rw [World.cell?_alloc_lt _ _ _ h1, cell_grow, if_pos (by simp), World.cell?_alloc_new]
      rfl
  case round =>
    obtain ⟨j, kn, A, c2, out, rfl, hj, hk1, hkj, rfl, rfl, rfl, hown, hbw, hcw, hsw, hol, HG⟩ := hrel
    have hmul := mul_bd (k := kn) (by omega) ht1 ht2
    obtain ⟨hmul1, hmul2⟩ := hmul
    go_wp2_with fail
    go_loopw [8] (fun i w2 => ∃ j' : Nat, j ≤ j' ∧ j' ≤ l.length ∧ i = .int .i64 j' ∧ (∃ x, w2 = grow wr x) ∧ Hid (out ++ gridGo l[0] t kn (l.drop j') = grid t l)) (fun i _ => l.length - (intOf i).toNat)
    case atStart => exact ⟨j, Nat.le_refl _, hj, rfl, ⟨_, grow_self wr⟩, HG⟩
    case round =>
      clear HG
      obtain ⟨j', hjj, hj', rfl, ⟨x, rfl⟩, HG⟩ := hrel
      have hbr : b < wr.heap.size := by omega
      have hcr0 : wr.cell? ⟨b, off, none⟩ = some (.int .i64 l[0]) := (hbw.cell (p := ⟨b, off, none⟩) hb).trans hc0
      by_cases hlt : j' < l.length
      · have hcj : wr.cell? ⟨b, off + j', none⟩ = some (.int .i64 l[j']) := (hbw.cell (p := ⟨b, off + j', none⟩) hb).trans (HC.out _ _ (List.getElem?_eq_getElem hlt))
        obtain ⟨hb3, hb4⟩ := HT.out _ (List.getElem_mem hlt)
        have hj0 : (0 : Int) ≤ j' := by omega
        have hj1 : (j' : Int) < l.length := by omega
        have hl0' : (0 : Int) < l.length := by omega
        go_wp2_with fail
        refine wp_region_grown (by kernel_rfl) (by kernel_rfl) ?_
        repeat (go_big_quiet_step (fail))
        refine wpQuiet_nil ?_
        rintro _ ⟨x2, rfl⟩
        have hx2 := size_grow wr x2
        by_cases hs : l[j'] - l[0] < (kn : Int) * t
        · go_wp2_with fail
          go_roundw
          case rel => exact ⟨j' + 1, by omega, by omega, by go_num, ⟨x2, rfl⟩, Lib.hid (by rw [← HG.out, gridGo_skip hlt hs])⟩
          case measure => simp [intOf]; omega
        · have HG' := Lib.hid (show out ++ [l[j']] ++ gridGo l[0] t (kn + 1) (l.drop (j' + 1)) = grid t l by rw [← HG.out, gridGo_take hlt (by omega)]; simp)
          clear HG
          go_wp2_with (at_builtin; refine wpList_append1 rfl _ _ 22 rfl (w.heap.size + 1) 3 i0 (.int .i64 0) 1 8 Try.underlying22 hi hz0 hz1 hz2 rfl (by decide) A out.length c2 (out.map (Value.int .i64)) rfl ((own_grow hown x2).alloc _) (grow wr x2).heap.size 1 1 [.int .i64 l[j']] rfl rfl (new_cells _ _ _) (one_all _ rfl) (by unfold maxLen; omega) (by omega) (by simp; omega) wr.heap.size (fun b hb => (own_lt hown b hb).2) ?_)
          intro A' c' y hown'
          go_wp2_with fail
          go_roundg (l.length - (j' + 1))
          case measure => omega
          case rel =>
            have hB := growBut_below (w.heap.size + 1) wr.heap.size ((grow wr x2).alloc (.cells #[.int .i64 l[j']] 3)) y (by simp; omega)
            have hB2 : Below (w.heap.size + 1) wr (growBut (w.heap.size + 1) wr.heap.size ((grow wr x2).alloc (.cells #[.int .i64 l[j']] 3)) y) := (((grow_below wr x2).mono (by omega)).alloc (by omega) _).trans hB
            exact ⟨j' + 1, kn + 1, A', c', out ++ [l[j']], rfl, by omega, by omega, by omega, by go_num, by go_num, by simp, by simpa using hown', hbw.trans (hB2.mono (by omega)), (hB2.cell (p := ⟨w.heap.size, 1, none⟩) (by simp)).trans hcw, by have := hB2.size; omega, by simp; omega, HG'⟩
      · have hd : decide ((j' : Int) < l.length) = false := by simp; omega
        have HE := Lib.hid (show out = grid t l by rw [← HG.out, List.drop_eq_nil_of_le (by omega)]; simp [gridGo])
        go_wp2_with fail
        refine wp_region_grown (by kernel_rfl) (by kernel_rfl) ?_
        repeat (go_big_quiet_step (fail))
        refine wpQuiet_nil ?_
        rintro _ ⟨x2, rfl⟩
        go_wp2_with fail
        go_ret2
        rw [← HE.out]
        exact ⟨A, c2, rfl, own_mono (own_grow hown x2) (by omega), hbw.trans ((grow_below wr x2).mono (by omega))⟩
theorem grid_no (A : Option Addr) (c : Nat) (l : List Int) (sc t m : Int) (w : World) (hf : wishF l sc t m ≠ 0) (hl : l.length ≤ maxLen) (hR : Rd w w.heap.size A (l.map (Value.int .i64))) :
    Calls Try.prog 11 #[.slice A l.length c, .agg #[.int .i64 sc, .int .i64 t, .int .i64 m]] w (Gives (.tuple #[.slice none 0 0, .int .i64 (wishF l sc t m)]) w) := by
  have hd : (wishF l sc t m != 0) = true := by simpa using hf
  clear hf
  go_enter Try.func11, Try.ntmps11
  go_wp2_with (go_at_call 30; refine (wish_any A c l sc t m _ hl (hR.go ((Below.refl _ _).alloc (Nat.le_refl _) _))).mono ?_; rintro e w1 ⟨rfl, hb1⟩)
  go_ret2
  exact ⟨rfl, ((Below.refl _ _).alloc (Nat.le_refl _) _).trans (hb1.mono (by simp))⟩
end Go.Proofs.Ytpkeiabifoipoaa
