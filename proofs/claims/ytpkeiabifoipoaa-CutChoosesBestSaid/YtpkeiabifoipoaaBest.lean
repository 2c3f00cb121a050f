/- CutChoosesBest: no other boundaries out of the places have a lesser sum of squares, or, with the same one, fewer boundaries. For every input; no condition. -/
import Derived.Test.YtpkeiabifoipoaaArgs
import Derived.Test.YtpkeiabifoipoaaAwake4
import Derived.Test.YtpkeiabifoipoaaChooseW
namespace Go.Proofs.Ytpkeiabifoipoaa
open Go.RowKit
attribute [local go_sem] cell_grow frozen_grow cell_growBut frozen_growBut

/-- The places that the bits of a number choose. -/
def bitOf (set : Int) (k : Nat) : Int := (set / 2 ^ (k % 61)).tmod 2
def selOf (set : Int) (k : Nat) : Bool := !(decide (60 < (k : Int)) || (bitOf set k == 0))

theorem wishF_9 {l : List Int} {sc t m : Int} (hl : l.length ≠ 0) (h : wishF l sc t m = 9) : False := by
  have hr : ∀ (l : List Int) (p : Option Int), riseGo p l ≠ 9 := by
    intro l
    induction l with
    | nil => intro p; simp [riseGo]
    | cons x l ih =>
      intro p; unfold riseGo
      split
      · decide
      split
      · decide
      · exact ih _
  unfold wishF rise at h
  split at h
  · omega
  · split at h
    · omega
    · exact hr _ _ h

section
variable {l : List Int} {fin t m : Int} {sel : Nat → Bool} {x s n : Int} {k : Nat} {T : Option (Int × Int)}
theorem cost_skip (hk : k < l.length) (hs : sel k = false) (h : T = (costFrom fin t m sel x k (l.drop k)).map (fun y => (s + y.1, n - 1 + y.2))) :
    T = (costFrom fin t m sel x (k + 1) (l.drop (k + 1))).map (fun y => (s + y.1, n - 1 + y.2)) := by
  rw [h, List.drop_eq_getElem_cons hk, costFrom, if_neg (by simp [hs])]
theorem cost_take (hk : k < l.length) (hs : sel k = true) (hm : l[k] - x ≤ m) (h : T = (costFrom fin t m sel x k (l.drop k)).map (fun y => (s + y.1, n - 1 + y.2))) :
    T = (costFrom fin t m sel l[k] (k + 1) (l.drop (k + 1))).map (fun y => (s + (l[k] - x - t) * (l[k] - x - t) + y.1, n + 1 - 1 + y.2)) := by
  rw [h, List.drop_eq_getElem_cons hk, costFrom, if_pos hs, if_pos hm, Option.map_map]
  congr 1
  funext y
  simp only [Function.comp, sq, Prod.mk.injEq]
  constructor <;> omega
theorem cost_end (hm : fin - x ≤ m) (h : T = (costFrom fin t m sel x l.length (l.drop l.length)).map (fun y => (s + y.1, n - 1 + y.2))) :
    T = some (s + (fin - x - t) * (fin - x - t), n) := by
  rw [h, List.drop_eq_nil_of_le (Nat.le_refl _), costFrom, if_pos hm]
  simp [sq]
end
section
variable (A : Option Addr) (c : Nat) (l : List Int) (fin sc t m set : Int) (w : World)
set_option maxHeartbeats 800000 in
theorem best_no (h0 : chooseF l fin sc t m ≠ 0) (h9 : chooseF l fin sc t m ≠ 9) (hl : l.length ≤ maxLen) (hR : Rd w w.heap.size A (l.map (Value.int .i64))) :
    Calls Try.prog 4 #[.slice A l.length c, .int .i64 fin, .agg #[.int .i64 sc, .int .i64 t, .int .i64 m], .int .i64 set] w (Gives (.bool true) w) := by
  have hd1 : (chooseF l fin sc t m != 0) = true := by simpa using h0
  have hd2 : (chooseF l fin sc t m != 9) = true := by simpa using h9
  have ho : chooseOut l fin sc t m = [] := by unfold chooseOut; rw [if_neg h0]
  have hs : chooseSum l fin sc t m = 0 := by unfold chooseSum; rw [if_neg h0]
  have HO := Lib.hid ho
  have HS := Lib.hid hs
  clear h0 h9 ho hs
  have hb0 : Below w.heap.size w (w.alloc (.cells #[.int .i64 sc, .int .i64 t, .int .i64 m] 24)) := (Below.refl _ _).alloc (Nat.le_refl _) _
  go_enter Try.func4, Try.ntmps4
  go_wp2_with fail
  refine (choose_any A c l fin sc t m _ hl (hR.go hb0)).mono ?_
  rintro e w1 ⟨A1, c1, rfl, _, hb1⟩
  rw [HO.out, HS.out]
  have hB1 := bl_trans hb0 hb1
  clear hb0 hb1
  go_wp2_with fail
  refine (awake_any _).mono ?_
  rintro e w2 ⟨rfl, hb2⟩
  go_wp2_with fail
  go_ret
  exact ⟨rfl, bl_trans hB1 hb2⟩

set_option maxHeartbeats 800000 in
theorem best_nil (h9 : chooseF [] fin sc t m = 9) :
    Calls Try.prog 4 #[.slice A 0 c, .int .i64 fin, .agg #[.int .i64 sc, .int .i64 t, .int .i64 m], .int .i64 set] w (Gives (.bool true) w) := by
  have H9 := Lib.hid h9
  clear h9
  have hb0 : Below w.heap.size w (w.alloc (.cells #[.int .i64 sc, .int .i64 t, .int .i64 m] 24)) := (Below.refl _ _).alloc (Nat.le_refl _) _
  go_enter Try.func4, Try.ntmps4
  go_wp2_with fail
  refine (choose_any A c [] fin sc t m _ (Nat.zero_le _) Rd.nil).mono ?_
  rintro e w1 ⟨A1, c1, rfl, _, hb1⟩
  rw [H9.out]
  have hB1 := bl_trans hb0 hb1
  clear hb0 hb1
  go_wp2_with fail
  refine (awake_any _).mono ?_
  rintro e w2 ⟨rfl, hb2⟩
  go_wp2_with fail
  go_ret
  exact ⟨rfl, bl_trans hB1 hb2⟩

set_option maxRecDepth 100000 in
set_option maxHeartbeats 3200000 in
theorem best_main (hl0 : 0 < l.length) (hfF : chooseF l fin sc t m = 0 ∨ chooseF l fin sc t m = 9) (hR : Rd w w.heap.size A (l.map (Value.int .i64))) :
    Calls Try.prog 4 #[.slice A l.length c, .int .i64 fin, .agg #[.int .i64 sc, .int .i64 t, .int .i64 m], .int .i64 set] w (Gives (.bool true) w) := by
  have hf : wishF l sc t m = 0 := by
    by_cases h : wishF l sc t m = 0
    · exact h
    · have e : chooseF l fin sc t m = wishF l sc t m := by unfold chooseF; rw [if_pos h]
      rw [e] at hfF
      rcases hfF with h' | h'
      · exact h'
      · exact (wishF_9 (by omega) h').elim
  have hwb : wishB sc t m = false := by
    unfold wishF at hf; cases h : wishB sc t m
    · rfl
    · simp [h] at hf
  have hr : rise l = 0 := by unfold wishF at hf; rw [hwb] at hf; simpa using hf
  obtain ⟨_, ht, hmo⟩ := wishB_f hwb
  obtain ⟨ht1, ht2⟩ := of_outB_f ht
  obtain ⟨_, hm⟩ := of_outB_f hmo
  obtain ⟨_, hl1, hrg⟩ := rise_0 hr
  have HT := Lib.hid (riseGo_times hrg)
  have HU := Lib.hid (riseGo_pw hrg).1
  clear hwb hr hrg ht hmo
  have hn : noTime fin = false := by
    cases h : noTime fin
    · rfl
    · have e : chooseF l fin sc t m = 1 := by unfold chooseF; rw [if_neg (by simpa using hf), if_pos h]
      rw [e] at hfF; omega
  have h2 : ¬ fin ≤ l[l.length - 1]?.getD 0 := fun h => by
    have e : chooseF l fin sc t m = 8 := by unfold chooseF; rw [if_neg (by simpa using hf), if_neg (by simp [hn]), if_pos h]
    rw [e] at hfF; omega
  have h3 : ¬ (1000000000000 : Int) < fin - l[0]?.getD 0 := fun h => by
    have e : chooseF l fin sc t m = 1 := by unfold chooseF; rw [if_neg (by simpa using hf), if_neg (by simp [hn]), if_neg h2, if_pos h]
    rw [e] at hfF; omega
  have HF := Lib.hid (show chooseF l fin sc t m = if (planAt fin t m l 0).can then 0 else 9 by
    unfold chooseF; rw [if_neg (by simpa using hf), if_neg (by simp [hn]), if_neg h2, if_neg h3])
  have hgl : l[l.length - 1]?.getD 0 = l[l.length - 1]'(by omega) := by rw [List.getElem?_eq_getElem (by omega)]; rfl
  rw [hgl] at h2
  have HFin := Lib.hid (show ∀ x ∈ l, x < fin from fun x hx => by
    obtain ⟨j, hj, rfl⟩ := List.getElem_of_mem hx
    rcases Nat.lt_or_ge j (l.length - 1) with h | h
    · have := Up_lt HU.out j (l.length - 1) h (by omega); omega
    · have e : j = l.length - 1 := by omega
      subst e; omega)
  obtain ⟨f1, f2⟩ := of_noTime_f hn
  clear h2 h3 hgl hfF
  obtain ⟨b, off, rfl, hb, hc⟩ := hR.ints hl0
  have hc0 := hc 0 _ (List.getElem?_eq_getElem hl0)
  simp only [Nat.add_zero] at hc0
  have HC := Lib.hid hc
  clear hc
  have hb0 : Below w.heap.size w (w.alloc (.cells #[.int .i64 sc, .int .i64 t, .int .i64 m] 24)) := (Below.refl _ _).alloc (Nat.le_refl _) _
  have hl0' : (0 : Int) < l.length := by omega
  have hdl : ((l.length : Int) == 0) = false := beq_eq_false_iff_ne.2 (by omega)
  go_enter Try.func4, Try.ntmps4
  go_wp2_with fail
  refine (choose_any (some ⟨b, off, none⟩) c l fin sc t m _ (by unfold maxLen; omega) (hR.go hb0)).mono ?_
  rintro e w1 ⟨A1, c1, rfl, hown, hb1⟩
  have hB := bl_trans hb0 hb1
  have hw1 : Blk w1 w.heap.size 24 #[.int .i64 sc, .int .i64 t, .int .i64 m] := (Blk.new _ _ _).below hb1 (by simp)
  have HLd := Lib.hid (bests_leads (fin := fin) (t := t) (m := m) (n := l.length) (f := planAt fin t m l) l 0 (by simp) (fun j hj => by
    unfold planAt; rw [Nat.zero_add, List.getElem?_eq_getElem hj]; rfl))
  have HLn := Lib.hid (show (planAt fin t m l 0).can = true → (((chooseOut l fin sc t m).length : Nat) : Int) = (planAt fin t m l 0).many ∧ chooseSum l fin sc t m = (planAt fin t m l 0).sum from fun hcan => by
    have e : chooseF l fin sc t m = 0 := by rw [HF.out, hcan]; rfl
    unfold chooseOut chooseSum
    rw [if_pos e, if_pos e]
    exact ⟨path_length (fun j hj => HLd.out j (Nat.zero_le _) hj) l.length 0 (by omega) hl0 hcan, rfl⟩)
  have HBst := Lib.hid (show ∀ s c, costFrom fin t m (selOf set) l[0] 1 (l.drop 1) = some (s, c) → Better (planAt fin t m l 0) s c from fun s c hc => by
    rw [bests_at fin t m l 0 hl0, bests_drop, Nat.zero_add]
    refine scan_best (l.drop 1) l[0] 1 _ s c ?_ ?_ ?_ hc
    · exact List.Pairwise.sublist (List.drop_sublist 1 l) HU.out
    · exact fun y hy => HFin.out y (List.mem_of_mem_drop hy)
    · intro h; unfold planEnd; rw [if_pos h]; exact ⟨rfl, .inr ⟨rfl, Int.le_refl _⟩⟩)
  clear hb0 hb1 hown
  generalize (chooseOut l fin sc t m).length = no at *
  generalize chooseSum l fin sc t m = su at *
  generalize chooseF l fin sc t m = F at *
  go_upto_region 2 with (fail)
  go_cut [31] (fun v wc => v = .bool false ∧ wc = w1)
  case first =>
    cases hcan : (planAt fin t m l 0).can
    · have e : F = 9 := by rw [HF.out, hcan]; rfl
      subst e
      go_wp2_with fail
      go_meet
      exact ⟨rfl, rfl⟩
    · have e : F = 0 := by rw [HF.out, hcan]; rfl
      subst e
      go_wp2_with fail
      go_meet
      exact ⟨rfl, rfl⟩
  case rest =>
    obtain ⟨rfl, rfl⟩ := hcut
    have hc1 := (hB.cell (p := ⟨b, off, none⟩) hb).trans hc0
    have hbw : b < wc.heap.size := by have := hB.size; omega
    go_wp2_with fail
    refine wp_region_grow (by kernel_rfl) (by kernel_rfl) ?_
    repeat (go_big_quiet_step (fail))
    refine wpQuiet_nil ?_
    rintro _ ⟨x2, rfl⟩
    have hBW := bl_grow hB x2
    have hWb := hw1.grow x2
    generalize grow wc x2 = W at hBW hWb ⊢
    clear hc1 hbw hB hw1
    have y1 := hWb.cell 1 _ rfl
    have y2 := hWb.cell 2 _ rfl
    have hWs := hWb.lt
    go_wp2_with fail
    go_loopg [12, 13, 14, 15] l.length (fun gk sv cv lv kv wr => ∃ (k : Nat) (s n last : Int), gk = l.length + 1 - k ∧ 1 ≤ k ∧ k ≤ l.length + 1 ∧ sv = .int .i64 s ∧ cv = .int .i64 n ∧ lv = .int .i64 last ∧ kv = .int .i64 k ∧ wr = W ∧ 0 ≤ s ∧ s ≤ 2500000000000000 * ((k : Int) - 1) ∧ 1 ≤ n ∧ n ≤ k ∧
      ((k ≤ l.length ∧ (∃ j : Nat, j < k ∧ l[j]? = some last) ∧ Hid (costFrom fin t m (selOf set) l[0] 1 (l.drop 1) = (costFrom fin t m (selOf set) last k (l.drop k)).map (fun x => (s + x.1, n - 1 + x.2)))) ∨
        (k = l.length + 1 ∧ Hid (costFrom fin t m (selOf set) l[0] 1 (l.drop 1) = some (s, n)))))
    case atStart => exact ⟨1, 0, 1, l[0], by omega, by omega, by omega, rfl, rfl, rfl, rfl, rfl, by omega, by omega, by omega, by omega, .inl ⟨by omega, ⟨0, by omega, List.getElem?_eq_getElem hl0⟩, Lib.hid (by simp)⟩⟩
    case round =>
      obtain ⟨k, s, n, last, rfl, hk1, hk2, rfl, rfl, rfl, rfl, rfl, hs1, hs2, hn1, hn2, hcase⟩ := hrel
      rcases hcase with ⟨hkl, ⟨j, hj, hjl⟩, HG⟩ | ⟨rfl, HG⟩
      · obtain ⟨hjl', rfl⟩ := List.getElem?_eq_some_iff.1 hjl
        clear hjl
        obtain ⟨e1, e2⟩ := HT.out _ (List.getElem_mem hjl')
        have hdk : decide ((k : Int) ≤ l.length) = true := decide_eq_true (by omega)
        by_cases hlt : k < l.length
        · have hdk2 : decide ((k : Int) < l.length) = true := decide_eq_true (by omega)
          have hk0 : (0 : Int) ≤ k := by omega
          have hki : (k : Int) < l.length := by omega
          by_cases h60 : 60 < (k : Int)
          · have hd60 : decide (60 < (k : Int)) = true := decide_eq_true h60
            have HG' := Lib.hid (cost_skip hlt (sel := selOf set) (by unfold selOf; rw [hd60]; rfl) HG.out)
            go_wp2_with fail
            go_roundg (l.length + 1 - (k + 1))
            case measure => omega
            case rel => exact ⟨k + 1, s, n, l[j], rfl, by omega, by omega, rfl, rfl, rfl, by go_num, rfl, hs1, by omega, hn1, by omega, .inl ⟨by omega, ⟨j, by omega, List.getElem?_eq_getElem hjl'⟩, HG'⟩⟩
          · have hd60 : decide (60 < (k : Int)) = false := decide_eq_false h60
            cases hbit : (set / 2 ^ (k % 61)).tmod 2 == 0
            · have hxk := (hBW.cell (p := ⟨b, off + k, none⟩) hb).trans (HC.out k _ (List.getElem?_eq_getElem hlt))
              obtain ⟨z1, z2⟩ := HT.out _ (List.getElem_mem hlt)
              have hup := Up_lt HU.out j k hj hlt
              have hsel : selOf set k = true := by unfold selOf bitOf; rw [hd60, hbit]; rfl
              have HSel := Lib.hid hsel
              clear hsel
              by_cases hfar : m < l[k] - l[j]
              · have hdf : decide (m < l[k] - l[j]) = true := decide_eq_true hfar
                go_wp2_with fail
                refine (awake_any _).mono ?_
                rintro e w2 ⟨rfl, hb2⟩
                go_wp2_with fail
                go_ret
                exact ⟨rfl, bl_trans hBW hb2⟩
              · have hdf : decide (m < l[k] - l[j]) = false := decide_eq_false hfar
                obtain ⟨v1, v2⟩ := sq_bd (d := l[k] - l[j]) (t := t) (by omega) (by omega) ht1 ht2
                have HG' := Lib.hid (cost_take hlt HSel.out (by omega) HG.out)
                go_wp2_with fail
                go_roundg (l.length + 1 - (k + 1))
                case measure => omega
                case rel => exact ⟨k + 1, _, n + 1, l[k], rfl, by omega, by omega, rfl, rfl, rfl, by go_num, rfl, by omega, by omega, by omega, by omega, .inl ⟨by omega, ⟨k, by omega, List.getElem?_eq_getElem hlt⟩, HG'⟩⟩
            · have HG' := Lib.hid (cost_skip hlt (sel := selOf set) (by unfold selOf bitOf; rw [hd60, hbit]; rfl) HG.out)
              go_wp2_with fail
              go_roundg (l.length + 1 - (k + 1))
              case measure => omega
              case rel => exact ⟨k + 1, s, n, l[j], rfl, by omega, by omega, rfl, rfl, rfl, by go_num, rfl, hs1, by omega, hn1, by omega, .inl ⟨by omega, ⟨j, by omega, List.getElem?_eq_getElem hjl'⟩, HG'⟩⟩
        · obtain rfl : k = l.length := by omega
          have hdk2 : decide ((l.length : Int) < l.length) = false := decide_eq_false (by omega)
          have hup := HFin.out _ (List.getElem_mem hjl')
          by_cases hfar : m < fin - l[j]
          · have hdf : decide (m < fin - l[j]) = true := decide_eq_true hfar
            go_wp2_with fail
            refine (awake_any _).mono ?_
            rintro e w2 ⟨rfl, hb2⟩
            go_wp2_with fail
            go_ret
            exact ⟨rfl, bl_trans hBW hb2⟩
          · have hdf : decide (m < fin - l[j]) = false := decide_eq_false hfar
            obtain ⟨v1, v2⟩ := sq_bd (d := fin - l[j]) (t := t) (by omega) (by omega) ht1 ht2
            have HG' := Lib.hid (cost_end (by omega) HG.out)
            go_wp2_with fail
            go_roundg (l.length + 1 - (l.length + 1))
            case measure => omega
            case rel => exact ⟨l.length + 1, _, n, fin, rfl, by omega, by omega, rfl, rfl, rfl, by go_num, rfl, by omega, by omega, by omega, by omega, .inr ⟨rfl, HG'⟩⟩
      · have hdk : decide (((l.length + 1 : Nat) : Int) ≤ l.length) = false := decide_eq_false (by omega)
        obtain ⟨hcan, hbest⟩ := HBst.out _ _ HG.out
        obtain ⟨hno, rfl⟩ := HLn.out hcan
        have hF0 : F = 0 := by rw [HF.out, hcan]; rfl
        subst hF0
        rcases hbest with hlt | ⟨he, hle⟩
        · have hd1 : decide ((planAt fin t m l 0).sum < s) = true := decide_eq_true hlt
          go_wp2_with fail
          refine (awake_any _).mono ?_
          rintro e w2 ⟨rfl, hb2⟩
          go_wp2_with fail
          go_ret
          exact ⟨rfl, bl_trans hBW hb2⟩
        · have hd1 : decide ((planAt fin t m l 0).sum < s) = false := decide_eq_false (by omega)
          have hd2 : ((planAt fin t m l 0).sum == s) = true := beq_iff_eq.2 he
          have hd3 : decide ((no : Int) ≤ n) = true := decide_eq_true (by omega)
          go_wp2_with fail
          refine (awake_any _).mono ?_
          rintro e w2 ⟨rfl, hb2⟩
          go_wp2_with fail
          go_ret
          exact ⟨rfl, bl_trans hBW hb2⟩
theorem best_any (hl : l.length ≤ maxLen) (hR : Rd w w.heap.size A (l.map (Value.int .i64))) :
    Calls Try.prog 4 #[.slice A l.length c, .int .i64 fin, .agg #[.int .i64 sc, .int .i64 t, .int .i64 m], .int .i64 set] w (Gives (.bool true) w) := by
  by_cases h0 : chooseF l fin sc t m = 0 ∨ chooseF l fin sc t m = 9
  · by_cases hl0 : 0 < l.length
    · exact best_main A c l fin sc t m set w hl0 h0 hR
    · obtain rfl : l = [] := List.eq_nil_of_length_eq_zero (by omega)
      refine best_nil A c fin sc t m set w ?_
      rcases h0 with h | h
      · exfalso
        have hw : wishF [] sc t m ≠ 0 := by unfold wishF rise; split <;> simp
        unfold chooseF at h; rw [if_pos hw] at h; exact hw h
      · exact h
  · exact best_no A c l fin sc t m set w (fun h => h0 (.inl h)) (fun h => h0 (.inr h)) hl hR
end

/-! ### The row -/
open Go.ChangeShapes Go.WideShapes Go.ChangeAt
set_option maxRecDepth 100000 in
theorem best_lifted (os : Os) (started : os.Started) (H : Type) (enc : TypeId × Value → H) :
    ReturnsInHanded {} Try.checked os 4 .any (Rows.cutChoosesBestSpec.pre6 enc Try.prog Try.f4 Rows.cutChoosesBestRow.domain false) (Rows.cutChoosesBestSpec.post enc Try.prog Try.f4 false true false false) := by
  refine returnsInHanded_of_change (C := Try.checked) own_knob started (by kernel_rfl) Try.func4
    (ChangeSpec.witness6 (enc := enc) (C := Try.checked) false ⟨#[], #[.slice none 0 0, .int .i64 0, .agg #[.int .i64 0, .int .i64 0, .int .i64 0], .int .i64 0], []⟩ 8 (by kernel_rfl) (by kernel_rfl) (by kernel_rfl) (by kernel_rfl)) ?_
  intro W base args ds gs before hval hW _ _
  refine law_step rfl (by kernel_rfl) (fun ds h => ?_) ?_ hval hW ?_
  · match ds, h with | [a, b, c, d], _ => exact ⟨rfl, rfl, rfl⟩
  · rw [Try.params4]
    intro t ht
    simp at ht
    rcases ht with rfl | rfl | rfl | rfl <;> exact ⟨by kernel_rfl, of_decide_eq_true (by kernel_rfl)⟩
  · rw [Try.params4]
    obtain ⟨args⟩ := args
    intro hin
    obtain ⟨v0, vs0, rfl, o0, d0, hin⟩ := argsIn_cons hin
    obtain ⟨v1, vs1, rfl, o1, d1, hin⟩ := argsIn_cons hin
    obtain ⟨v2, vs2, rfl, o2, d2, hin⟩ := argsIn_cons hin
    obtain ⟨v3, vs3, rfl, o3, d3, hin⟩ := argsIn_cons hin
    obtain rfl := argsIn_nil hin
    obtain ⟨A, c, l, rfl, hl, hR, _⟩ := arg_ints Try.underlying22 Try.underlying3 (by kernel_rfl) o0 d0
    obtain ⟨fin, rfl, _, _⟩ := arg_int Try.underlying3 o1 d1
    obtain ⟨x0, x1, x2, rfl⟩ := in_wish o2 d2
    obtain ⟨set, rfl, _, _⟩ := arg_int Try.underlying3 o3 d3
    exact best_any A c l fin x0 x1 x2 set W hl hR

theorem best_holds : Rows.CutChoosesBestSaid :=
  OpenClaim.holds_of_wide 4 Try.f4 rfl rfl rfl rfl rfl rfl rfl ⟨rfl, rfl, rfl, rfl, rfl⟩ rfl rfl rfl rfl rfl (by kernel_rfl) Try.func4 (by kernel_rfl)
    (of_decide_eq_true (by kernel_rfl)) (by unfold Func.isWrapper; first | (rw [if_pos (by decide +kernel)]; kernel_rfl) | (rw [if_neg (by decide +kernel)]; exact ⟨rfl, rfl⟩))
    (fun os started H enc _ => best_lifted os started H enc)
end Go.Proofs.Ytpkeiabifoipoaa
