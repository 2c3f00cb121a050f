/- CutGridsAreLate: a boundary that cut.Grid finds is a place, and number k of them is not before the k-th multiple of the target. For every input; no condition. -/
import Derived.Test.YtpkeiabifoipoaaLaw
import Derived.Test.YtpkeiabifoipoaaAwake4
import Derived.Test.YtpkeiabifoipoaaSli
namespace Go.Proofs.Ytpkeiabifoipoaa
open Go.RowKit
attribute [local go_sem] cell_grow frozen_grow

section
open Go.ChangeShapes Go.WideShapes Go.Joins Go.Deep
set_option maxRecDepth 100000 in
theorem arg_wish {H : Type} {enc : TypeId × Value → H} {W : World} {v : Value} (ho : ∃ base, Value.okWide Try.prog W .any base 24 v) (hd : ∃ d p, DataW.Trod enc Try.prog W 0 (fun _ => true) true 24 v d p) :
    ∃ x0 x1 x2, v = .agg #[.int .i64 x0, .int .i64 x1, .int .i64 x2] := by
  obtain ⟨base, ho⟩ := ho
  obtain ⟨d, p, hd⟩ := hd
  obtain ⟨v0, v1, v2, y0, y1, y2, n, rfl, _, _, h0, h1, h2⟩ := open_agg3 Try.underlying24 (by kernel_rfl) (by kernel_rfl) ho hd
  obtain ⟨x0, e0, _, _⟩ := DataW.trod_int Try.underlying3 h0
  obtain ⟨x1, e1, _, _⟩ := DataW.trod_int Try.underlying3 h1
  obtain ⟨x2, e2, _, _⟩ := DataW.trod_int Try.underlying3 h2
  simp at e0 e1 e2
  subst e0 e1 e2
  exact ⟨x0, x1, x2, rfl⟩
end

/-! ### The plain law -/
theorem gridGo_sub (p t : Int) : ∀ (l : List Int) (k : Nat), ∀ x ∈ gridGo p t k l, x ∈ l
  | [], _, x, h => by simp [gridGo] at h
  | y :: l, k, x, h => by
    unfold gridGo at h
    split at h
    · exact List.mem_cons_of_mem _ (gridGo_sub p t l k x h)
    · rcases List.mem_cons.1 h with rfl | h
      · simp
      · exact List.mem_cons_of_mem _ (gridGo_sub p t l (k + 1) x h)
theorem gridGo_late (p t : Int) (ht : 0 ≤ t) : ∀ (l : List Int) (k i : Nat) (h : i < (gridGo p t k l).length), ((k + i : Nat) : Int) * t ≤ (gridGo p t k l)[i] - p
  | [], k, i, h => by simp [gridGo] at h
  | y :: l, k, i, h => by
    unfold gridGo at h ⊢
    by_cases hs : y - p < k * t
    · simp only [hs, if_true] at h ⊢
      exact gridGo_late p t ht l k i h
    · simp only [hs, if_false] at h ⊢
      cases i with
      | zero => simp; omega
      | succ i =>
        have := gridGo_late p t ht l (k + 1) i (by simpa using h)
        simp only [List.getElem_cons_succ]
        rw [show k + (i + 1) = k + 1 + i by omega]
        exact this
def Up (l : List Int) : Prop := l.Pairwise (· < ·)
theorem riseGo_up : ∀ {l : List Int} {p : Option Int}, riseGo p l = 0 → Up l ∧ ∀ q, p = some q → ∀ x ∈ l, q < x
  | [], _, _ => ⟨List.Pairwise.nil, fun _ _ _ h => by simp at h⟩
  | t :: r, p, h => by
    unfold riseGo at h
    split at h
    · omega
    split at h
    · omega
    rename_i hp
    obtain ⟨h1, h2⟩ := riseGo_up h
    have hq : ∀ q, p = some q → q < t := fun q e => by subst e; simpa using hp
    refine ⟨List.Pairwise.cons (fun x hx => h2 t rfl x hx) h1, fun q e x hx => ?_⟩
    rcases List.mem_cons.1 hx with rfl | hx
    · exact hq q e
    · exact Int.lt_trans (hq q e) (h2 t rfl x hx)
theorem gridGo_up (p t : Int) : ∀ (l : List Int) (k : Nat), Up l → Up (gridGo p t k l)
  | [], _, _ => by simp [gridGo, Up]
  | y :: l, k, h => by
    have h' := List.pairwise_cons.1 h
    unfold gridGo
    split
    · exact gridGo_up p t l k h'.2
    · exact List.Pairwise.cons (fun x hx => h'.1 x (gridGo_sub p t l (k + 1) x hx)) (gridGo_up p t l (k + 1) h'.2)
/-- What the law says of the boundaries. -/
theorem grid_law {l : List Int} {t : Int} (ht : 1 ≤ t) (hl : 0 < l.length) (hr : riseGo none l = 0) :
    (∀ x ∈ grid t l, x ∈ l) ∧ (∀ i, (h : i < (grid t l).length) → (i : Int) * t ≤ (grid t l)[i] - l[0]) ∧ Up (grid t l) ∧ 0 < (grid t l).length ∧ (grid t l)[0]? = some l[0] ∧ (grid t l).length ≤ l.length := by
  cases l with
  | nil => simp at hl
  | cons p r =>
    have hu := (riseGo_up hr).1
    have hu' := List.pairwise_cons.1 hu
    refine ⟨?_, ?_, ?_, by simp [grid], by simp [grid], ?_⟩
    · intro x hx
      rcases List.mem_cons.1 hx with rfl | hx
      · simp
      · exact List.mem_cons_of_mem _ (gridGo_sub p t r 1 x hx)
    · intro i h
      cases i with
      | zero => simp [grid]
      | succ i =>
        have := gridGo_late p t (by omega) r 1 i (by simpa [grid] using h)
        rw [Nat.add_comm] at this
        exact this
    · exact List.Pairwise.cons (fun x hx => hu'.1 x (gridGo_sub p t r 1 x hx)) (gridGo_up p t r 1 hu'.2)
    · have : ∀ (l : List Int) (k : Nat), (gridGo p t k l).length ≤ l.length := by
        intro l
        induction l with
        | nil => intro k; simp [gridGo]
        | cons y l ih => intro k; unfold gridGo; split
                         · have := ih k; simp; omega
                         · have := ih (k + 1); simp; omega
      have := this r 1
      simp [grid]; omega

/-! ### The walk -/
set_option maxRecDepth 100000 in
set_option maxHeartbeats 1600000 in
theorem law_yes (A : Option Addr) (c : Nat) (l : List Int) (sc t m : Int) (w : World) (hf : wishF l sc t m = 0) (hR : Rd w w.heap.size A (l.map (Value.int .i64))) :
    Calls Try.prog 3 #[.slice A l.length c, .agg #[.int .i64 sc, .int .i64 t, .int .i64 m]] w (Gives (.bool true) w) := by
  have hwb : wishB sc t m = false := by
    unfold wishF at hf; cases h : wishB sc t m
    · rfl
    · simp [h] at hf
  have hr : rise l = 0 := by unfold wishF at hf; rw [hwb] at hf; simpa using hf
  obtain ⟨_, ht, _⟩ := wishB_f hwb
  obtain ⟨ht1, ht2⟩ := of_outB_f ht
  obtain ⟨hl0, hl1, hrg⟩ := rise_0 hr
  have HT := Lib.hid (riseGo_times hrg)
  obtain ⟨hmem, hlate, hup, hg0, hgf, hgl⟩ := grid_law ht1 hl0 hrg
  have HM := Lib.hid hmem
  have HL := Lib.hid hlate
  have HU := Lib.hid hup
  have HF := Lib.hid hgf
  clear hwb hr ht hrg hmem hlate hup hgf
  obtain ⟨b, off, rfl, hb, hc⟩ := hR.ints hl0
  have hc0 := hc 0 _ (List.getElem?_eq_getElem hl0)
  simp only [Nat.add_zero] at hc0
  have hl0b := HT.out _ (List.getElem_mem hl0)
  obtain ⟨hl0b1, hl0b2⟩ := hl0b
  clear hc
  have hb0 : Below w.heap.size w (w.alloc (.cells #[.int .i64 sc, .int .i64 t, .int .i64 m] 24)) := (Below.refl _ _).alloc (Nat.le_refl _) _
  go_enter Try.func3, Try.ntmps3
  go_wp2_with fail
  refine (grid_yes (some ⟨b, off, none⟩) c l sc t m _ hf (hR.go hb0)).mono ?_
  rintro e w1 ⟨A', c', rfl, hown, hb1⟩
  generalize hg : grid t l = g at *
  clear hg
  have hcw : w1.cell? ⟨w.heap.size, 1, none⟩ = some (.int .i64 t) := by rw [hb1.cell (p := ⟨w.heap.size, 1, none⟩) (by simp), World.cell?_alloc_new]; rfl
  have hsz : w.heap.size + 1 ≤ w1.heap.size := by have := hb1.size; simpa using this
  have hR1 := (hR.go hb0).go hb1
  have hB1 := hb0.trans (hb1.mono (by simp))
  have hc1 := (hB1.cell (p := ⟨b, off, none⟩) hb).trans hc0
  have hRg := own_rd hown
  clear hb1 hown hR hb0 hc0
  go_wp2_with fail
  go_loopw [7] (fun i wr => ∃ k : Nat, k ≤ g.length ∧ i = .int .i64 k ∧ ∃ x, wr = grow w1 x) (fun i _ => g.length - (intOf i).toNat)
  case atStart => exact ⟨0, Nat.zero_le _, rfl, _, grow_self w1⟩
  case round =>
    obtain ⟨k, hk, rfl, x, rfl⟩ := hrel
    by_cases hlt : k < g.length
    · obtain ⟨b', off', rfl, hb', hc'⟩ := hRg.ints hlt
      have h1 := hc' k _ (List.getElem?_eq_getElem hlt)
      have h2 : 0 < k → w1.cell? ⟨b', off' + (k-1), none⟩ = some (.int .i64 (g[k-1]'(by omega))) := fun h => hc' (k-1) _ (List.getElem?_eq_getElem (by omega))
      clear hc'
      have hx := size_grow w1 x
      have hm := HM.out _ (List.getElem_mem hlt)
      obtain ⟨hm1, hm2⟩ := HT.out _ hm
      have hlt1 := HL.out k hlt
      have hmul := mul_bd (k := k) (t := t) (by omega) ht1 ht2
      obtain ⟨hmul1, hmul2⟩ := hmul
      have hk0 : (0 : Int) ≤ k := by omega
      have hk1 : (k : Int) < g.length := by omega
      have hl0' : (0 : Int) < l.length := by omega
      have hb1' : b < w1.heap.size := by omega
      have HM' := Lib.hid hm
      clear hm
      go_wp2_with fail
      have hd1 : decide (g[k] - l[0] < (k : Int) * t) = false := decide_eq_false (by omega)
      by_cases hpos : 0 < k
      · have hpos' : (0 : Int) < k := by omega
        have h2' := h2 hpos
        have hup : g[k-1] < g[k] := List.pairwise_iff_getElem.1 HU.out (k-1) k (by omega) hlt (by omega)
        have hd2 : decide (g[k] ≤ g[k-1]) = false := decide_eq_false (by omega)
        have hd3 : decide ((0 : Int) < k) = true := decide_eq_true hpos'
        clear h2
        refine wp_region_grown (by kernel_rfl) (by kernel_rfl) ?_
        repeat (go_big_quiet_step ((go_at_call 13; exact call_same (contains_yes _ c l _ HM'.out _ (by unfold maxLen; omega) (hR1.go (grow_below _ _))))))
        refine wpQuiet_nil ?_
        rintro _ ⟨x2, rfl⟩
        go_wp2_with fail
        go_roundw
        case rel => exact ⟨k + 1, by omega, by go_num, x2, rfl⟩
        case measure => simp [intOf]; omega
      · have hd3 : decide ((0 : Int) < k) = false := decide_eq_false (by omega)
        clear h2
        refine wp_region_grown (by kernel_rfl) (by kernel_rfl) ?_
        repeat (go_big_quiet_step ((go_at_call 13; exact call_same (contains_yes _ c l _ HM'.out _ (by unfold maxLen; omega) (hR1.go (grow_below _ _))))))
        refine wpQuiet_nil ?_
        rintro _ ⟨x2, rfl⟩
        go_wp2_with fail
        go_roundw
        case rel => exact ⟨k + 1, by omega, by go_num, x2, rfl⟩
        case measure => simp [intOf]; omega
    · obtain ⟨b', off', rfl, hb', hc'⟩ := hRg.ints hg0
      have h1 := hc' 0 _ (List.getElem?_eq_getElem hg0)
      have h0 : g[0] = l[0] := by have := HF.out; rw [List.getElem?_eq_getElem hg0] at this; exact Option.some.inj this
      rw [h0] at h1
      simp only [Nat.add_zero] at h1
      clear hc' h0
      have hx := size_grow w1 x
      have hg0' : (0 : Int) < g.length := by omega
      have hl0' : (0 : Int) < l.length := by omega
      have hb1' : b < w1.heap.size := by omega
      have hd4 : decide ((0 : Int) < g.length) = true := decide_eq_true hg0'
      have hd5 : (l[0] == l[0]) = true := by simp
      go_wp2_with fail
      refine wp_region_grown (by kernel_rfl) (by kernel_rfl) ?_
      repeat (go_big_quiet_step ((go_at_call 12; exact call_gives (awake_any _))))
      refine wpQuiet_nil ?_
      rintro _ ⟨x2, rfl⟩
      go_wp2_with fail
      go_ret
      exact ⟨rfl, hB1.trans ((grow_below _ _).mono (by omega))⟩

theorem law_no (A : Option Addr) (c : Nat) (l : List Int) (sc t m : Int) (w : World) (hf : wishF l sc t m ≠ 0) (hl : l.length ≤ maxLen) (hR : Rd w w.heap.size A (l.map (Value.int .i64))) :
    Calls Try.prog 3 #[.slice A l.length c, .agg #[.int .i64 sc, .int .i64 t, .int .i64 m]] w (Gives (.bool true) w) := by
  have hd : (wishF l sc t m != 0) = true := by simpa using hf
  have hb0 : Below w.heap.size w (w.alloc (.cells #[.int .i64 sc, .int .i64 t, .int .i64 m] 24)) := (Below.refl _ _).alloc (Nat.le_refl _) _
  go_enter Try.func3, Try.ntmps3
  go_wp2_with fail
  refine (grid_no A c l sc t m _ hf hl (hR.go hb0)).mono ?_
  rintro e w1 ⟨rfl, hb1⟩
  have hB1 := hb0.trans (hb1.mono (by simp))
  clear hf
  go_wp2_with fail
  refine (awake_any _).mono ?_
  rintro e w2 ⟨rfl, hb2⟩
  go_wp2_with fail
  go_ret
  exact ⟨rfl, hB1.trans (hb2.mono hB1.size)⟩

/-! ### The row -/
open Go.ChangeShapes Go.WideShapes Go.ChangeAt
set_option maxRecDepth 100000 in
theorem late_lifted (os : Os) (started : os.Started) (H : Type) (enc : TypeId × Value → H) :
    ReturnsInHanded {} Try.checked os 3 .any (Rows.cutGridsAreLateSpec.pre6 enc Try.prog Try.f3 Rows.cutGridsAreLateRow.domain false) (Rows.cutGridsAreLateSpec.post enc Try.prog Try.f3 false true false false) := by
  refine returnsInHanded_of_change (C := Try.checked) own_knob started (by kernel_rfl) Try.func3
    (ChangeSpec.witness6 (enc := enc) (C := Try.checked) false ⟨#[], #[.slice none 0 0, .agg #[.int .i64 0, .int .i64 0, .int .i64 0]], []⟩ 8 (by kernel_rfl) (by kernel_rfl) (by kernel_rfl) (by kernel_rfl)) ?_
  intro W base args ds gs before hval hW _ _
  refine law_step rfl (by kernel_rfl) (fun ds h => ?_) ?_ hval hW ?_
  · match ds, h with | [a, b], _ => exact ⟨rfl, rfl, rfl⟩
  · rw [Try.params3]
    intro t ht
    simp at ht
    rcases ht with rfl | rfl <;> exact ⟨by kernel_rfl, of_decide_eq_true (by kernel_rfl)⟩
  · rw [Try.params3]
    obtain ⟨args⟩ := args
    intro hin
    obtain ⟨v0, vs0, rfl, o0, d0, hin⟩ := argsIn_cons hin
    obtain ⟨v1, vs1, rfl, o1, d1, hin⟩ := argsIn_cons hin
    obtain rfl := argsIn_nil hin
    obtain ⟨A, c, l, rfl, hl, hR, _⟩ := arg_ints Try.underlying22 Try.underlying3 (by kernel_rfl) o0 d0
    obtain ⟨x0, x1, x2, rfl⟩ := arg_wish o1 d1
    by_cases hf : wishF l x0 x1 x2 = 0
    · exact law_yes A c l x0 x1 x2 W hf hR
    · exact law_no A c l x0 x1 x2 W hf hl hR

theorem late_holds : Rows.CutGridsAreLateSaid :=
  OpenClaim.holds_of_wide 3 Try.f3 rfl rfl rfl rfl rfl rfl rfl ⟨rfl, rfl, rfl, rfl, rfl⟩ rfl rfl rfl rfl rfl (by kernel_rfl) Try.func3 (by kernel_rfl)
    (of_decide_eq_true (by kernel_rfl)) (by unfold Func.isWrapper; first | (rw [if_pos (by decide +kernel)]; kernel_rfl) | (rw [if_neg (by decide +kernel)]; exact ⟨rfl, rfl⟩))
    (fun os started H enc _ => late_lifted os started H enc)
end Go.Proofs.Ytpkeiabifoipoaa
