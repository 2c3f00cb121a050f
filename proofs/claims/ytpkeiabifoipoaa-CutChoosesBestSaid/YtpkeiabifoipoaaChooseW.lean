/- cut.Choose: the walk. -/
import Derived.Test.YtpkeiabifoipoaaChoose
namespace Go.Proofs.Ytpkeiabifoipoaa
open Go.RowKit
attribute [local go_sem] cell_grow frozen_grow cell_growBut frozen_growBut

theorem Up_lt {l : List Int} (h : l.Pairwise (· < ·)) : ∀ a b, (h1 : a < b) → (h2 : b < l.length) → l[a] < l[b] := fun a b h1 h2 => List.pairwise_iff_getElem.1 h a b (by omega) h2 h1
theorem riseGo_pw : ∀ {l : List Int} {p : Option Int}, riseGo p l = 0 → l.Pairwise (· < ·) ∧ ∀ q, p = some q → ∀ x ∈ l, q < x
  | [], _, _ => ⟨List.Pairwise.nil, fun _ _ _ h => by simp at h⟩
  | t :: r, p, h => by
    unfold riseGo at h
    split at h
    · omega
    split at h
    · omega
    rename_i hp
    obtain ⟨h1, h2⟩ := riseGo_pw h
    have hq : ∀ q, p = some q → q < t := fun q e => by subst e; simpa using hp
    refine ⟨List.Pairwise.cons (fun x hx => h2 t rfl x hx) h1, fun q e x hx => ?_⟩
    rcases List.mem_cons.1 hx with rfl | hx
    · exact hq q e
    · exact Int.lt_trans (hq q e) (h2 t rfl x hx)

section
variable (A : Option Addr) (c : Nat) (l : List Int) (fin sc t m : Int) (w : World)
set_option maxHeartbeats 800000 in
theorem choose_1 (hf : wishF l sc t m ≠ 0) (hl : l.length ≤ maxLen) (hR : Rd w w.heap.size A (l.map (Value.int .i64))) :
    Calls Try.prog 14 #[.slice A l.length c, .int .i64 fin, .agg #[.int .i64 sc, .int .i64 t, .int .i64 m]] w (ChooseLeaves l fin sc t m w) := by
  have hd : (wishF l sc t m != 0) = true := by simpa using hf
  have HF := Lib.hid (show chooseF l fin sc t m = wishF l sc t m by unfold chooseF; rw [if_pos hf])
  have HN := Lib.hid hf
  clear hf
  have hb0 : Below w.heap.size w (w.alloc (.cells #[.int .i64 sc, .int .i64 t, .int .i64 m] 24)) := (Below.refl _ _).alloc (Nat.le_refl _) _
  go_enter Try.func14, Try.ntmps14
  go_wp2_with fail
  refine (wish_any A c l sc t m _ hl (hR.go hb0)).mono ?_
  rintro e w1 ⟨rfl, hb1⟩
  go_wp2_with fail
  go_ret3
  exact leaves_no HF.out HN.out (bl_trans hb0 hb1)

set_option maxHeartbeats 1600000 in
/-- The checks that come behind the wish's. -/
theorem choose_2 (hf : wishF l sc t m = 0) (hx : noTime fin = true ∨ fin ≤ l[l.length - 1]?.getD 0 ∨ (1000000000000 : Int) < fin - l[0]?.getD 0) (hR : Rd w w.heap.size A (l.map (Value.int .i64))) :
    Calls Try.prog 14 #[.slice A l.length c, .int .i64 fin, .agg #[.int .i64 sc, .int .i64 t, .int .i64 m]] w (ChooseLeaves l fin sc t m w) := by
  have hwb : wishB sc t m = false := by
    unfold wishF at hf; cases h : wishB sc t m
    · rfl
    · simp [h] at hf
  have hr : rise l = 0 := by unfold wishF at hf; rw [hwb] at hf; simpa using hf
  obtain ⟨hl0, hl1, hrg⟩ := rise_0 hr
  have HT := Lib.hid (riseGo_times hrg)
  clear hwb hr hrg
  obtain ⟨b, off, rfl, hb, hc⟩ := hR.ints hl0
  have hc0 := hc 0 _ (List.getElem?_eq_getElem hl0)
  have hcl := hc (l.length - 1) _ (List.getElem?_eq_getElem (by omega))
  simp only [Nat.add_zero] at hc0
  obtain ⟨e1, e2⟩ := HT.out _ (List.getElem_mem hl0)
  have hg0 : l[0]?.getD 0 = l[0] := by rw [List.getElem?_eq_getElem hl0]; rfl
  have hgl : l[l.length - 1]?.getD 0 = l[l.length - 1]'(by omega) := by rw [List.getElem?_eq_getElem (by omega)]; rfl
  rw [hg0, hgl] at hx
  have HF0 := Lib.hid (show chooseF l fin sc t m = if noTime fin then 1 else if fin ≤ l[l.length - 1]'(by omega) then 8 else if (1000000000000 : Int) < fin - l[0] then 1 else if (planAt fin t m l 0).can then 0 else 9 by
    unfold chooseF; rw [if_neg (by simpa using hf), hg0, hgl])
  clear hc hg0 hgl
  have hb0 : Below w.heap.size w (w.alloc (.cells #[.int .i64 sc, .int .i64 t, .int .i64 m] 24)) := (Below.refl _ _).alloc (Nat.le_refl _) _
  have hk0 : 0 ≤ (l.length : Int) - 1 := by omega
  have hk1 : (l.length : Int) - 1 < l.length := by omega
  have hl0' : (0 : Int) < l.length := by omega
  go_enter Try.func14, Try.ntmps14
  go_wp2_with fail
  refine (wish_any (some ⟨b, off, none⟩) c l sc t m _ (by unfold maxLen; omega) (hR.go hb0)).mono ?_
  rw [hf]
  rintro e w1 ⟨rfl, hb1⟩
  have hB := bl_trans hb0 hb1
  have d0 := (hB.cell (p := ⟨b, off, none⟩) hb).trans hc0
  have d1 := (hB.cell (p := ⟨b, off + (l.length - 1), none⟩) hb).trans hcl
  clear hc0 hcl hb0 hb1
  cases hn : noTime fin
  · obtain ⟨f1, f2⟩ := of_noTime_f hn
    by_cases h2 : fin ≤ l[l.length - 1]'(by omega)
    · have HF := Lib.hid (show chooseF l fin sc t m = 8 by rw [HF0.out, hn, if_neg (by simp), if_pos h2])
      have hd2 : decide (fin ≤ l[l.length - 1]'(by omega)) = true := decide_eq_true h2
      clear hx
      go_wp2_with (go_at_call 32; refine (notime_any _ _).mono ?_; rintro e w' ⟨rfl, rfl⟩)
      go_ret3
      exact leaves_no HF.out (by decide) hB
    · have h3 : (1000000000000 : Int) < fin - l[0] := by
        rcases hx with h | h | h
        · rw [hn] at h; cases h
        · exact absurd h h2
        · exact h
      have HF := Lib.hid (show chooseF l fin sc t m = 1 by rw [HF0.out, hn, if_neg (by simp), if_neg h2, if_pos h3])
      have hd2 : decide (fin ≤ l[l.length - 1]'(by omega)) = false := decide_eq_false h2
      have hd3 : decide ((1000000000000 : Int) < fin - l[0]) = true := decide_eq_true h3
      clear hx
      go_wp2_with (go_at_call 32; refine (notime_any _ _).mono ?_; rintro e w' ⟨rfl, rfl⟩)
      go_ret3
      exact leaves_no HF.out (by decide) hB
  · have HF := Lib.hid (show chooseF l fin sc t m = 1 by rw [HF0.out, hn]; rfl)
    clear hx
    go_wp2_with (go_at_call 32; refine (notime_any _ _).mono ?_; rintro e w' ⟨rfl, rfl⟩)
    go_ret3
    exact leaves_no HF.out (by decide) hB

theorem path_step {f : Nat → Plan} {g : Nat → Int} {n k : Nat} : pathGo f g (n + 1) k = g k :: pathGo f g n (f k).next := by
  rw [pathGo, if_neg (by omega), Int.toNat_natCast]
theorem path_neg {f : Nat → Plan} {g : Nat → Int} {n : Nat} {i : Int} (h : i < 0) : pathGo f g n i = [] := by
  cases n with
  | zero => rfl
  | succ n => rw [pathGo, if_pos h]
/-- The plans that are there when those from k on are known. -/
def plansFrom (l : List Int) (fin t m : Int) (k : Nat) : List Plan := List.replicate k noPlan ++ (bests fin t m 0 l).drop k
theorem plansFrom_length (l : List Int) (fin t m : Int) {k : Nat} (hk : k ≤ l.length) : (plansFrom l fin t m k).length = l.length := by
  unfold plansFrom; rw [List.length_append, List.length_replicate, List.length_drop, bests_length]; omega
theorem plansFrom_drop (l : List Int) (fin t m : Int) {k : Nat} : (plansFrom l fin t m k).drop k = (bests fin t m 0 l).drop k := by
  unfold plansFrom; rw [List.drop_left' (by simp)]
theorem plansFrom_set (l : List Int) (fin t m : Int) {k : Nat} (hk : k < l.length) : (plansFrom l fin t m (k + 1)).set k (planAt fin t m l k) = plansFrom l fin t m k := by
  have hb : k < (bests fin t m 0 l).length := by rw [bests_length]; exact hk
  unfold plansFrom
  rw [List.drop_eq_getElem_cons hb, List.replicate_succ', List.append_assoc, List.set_append_right _ _ (by simp)]
  simp [planAt, List.getElem?_eq_getElem hb]
theorem plansFrom_bd {l : List Int} {fin t m : Int} {n k : Nat} (h : ∀ p ∈ bests fin t m 0 l, PlanBd n p) {j : Nat} (hj : k < j) (h2 : j < (plansFrom l fin t m (k + 1)).length) : PlanBd n (plansFrom l fin t m (k + 1))[j] := by
  have hm : (plansFrom l fin t m (k + 1))[j] ∈ (plansFrom l fin t m (k + 1)).drop (k + 1) :=
    List.mem_iff_getElem.2 ⟨j - (k + 1), by rw [List.length_drop]; omega, by rw [List.getElem_drop]; congr 1; omega⟩
  rw [plansFrom_drop] at hm
  exact h _ (List.mem_of_mem_drop hm)
theorem plansFrom_0 (l : List Int) (fin t m : Int) : plansFrom l fin t m 0 = bests fin t m 0 l := by simp [plansFrom]
theorem plansFrom_n (l : List Int) (fin t m : Int) : plansFrom l fin t m l.length = List.replicate l.length noPlan := by
  unfold plansFrom; rw [List.drop_eq_nil_of_le (by rw [bests_length]; exact Nat.le_refl _), List.append_nil]
/-- A plan stored in its place. -/
theorem Blk.plan {w : World} {g : Nat} {P : List Plan} {k : Nat} (h : Blk w g 77 (P.flatMap Plan.enc).toArray) (hk : k < P.length) (p : Plan) :
    Blk ((((w.setCell ⟨g, k * 4, none⟩ (.bool p.can)).setCell ⟨g, k * 4 + 1, none⟩ (.int .i64 p.sum)).setCell ⟨g, k * 4 + 2, none⟩ (.int .i64 p.many)).setCell ⟨g, k * 4 + 3, none⟩ (.int .i64 p.next)) g 77 ((P.set k p).flatMap Plan.enc).toArray := by
  have h1 := (((h.set_ (k * 4) (.bool p.can)).set_ (k * 4 + 1) (.int .i64 p.sum)).set_ (k * 4 + 2) (.int .i64 p.many)).set_ (k * 4 + 3) (.int .i64 p.next)
  obtain ⟨e1, e2⟩ := rows_mid (f := Plan.enc) (k := 4) (fun _ => rfl) P hk
  rw [e1] at h1
  simp only [List.setIfInBounds_toArray] at h1
  rw [show k * 4 = k * 4 + 0 from rfl, set_mid _ _ _ _ e2 (by simp [Plan.enc]), Nat.add_zero, set_mid _ _ _ _ e2 (by simp [Plan.enc]), set_mid _ _ _ _ e2 (by simp [Plan.enc]), set_mid _ _ _ _ e2 (by simp [Plan.enc])] at h1
  rw [rows_set P hk p]
  simpa [Plan.enc] using h1

set_option maxRecDepth 100000 in
set_option maxHeartbeats 3200000 in
theorem choose_3 (hf : wishF l sc t m = 0) (hn : noTime fin = false) (h2 : l[l.length - 1]?.getD 0 < fin) (h3 : fin - l[0]?.getD 0 ≤ 1000000000000) (hR : Rd w w.heap.size A (l.map (Value.int .i64))) :
    Calls Try.prog 14 #[.slice A l.length c, .int .i64 fin, .agg #[.int .i64 sc, .int .i64 t, .int .i64 m]] w (ChooseLeaves l fin sc t m w) := by
  have hwb : wishB sc t m = false := by
    unfold wishF at hf; cases h : wishB sc t m
    · rfl
    · simp [h] at hf
  have hr : rise l = 0 := by unfold wishF at hf; rw [hwb] at hf; simpa using hf
  obtain ⟨_, ht, hmo⟩ := wishB_f hwb
  obtain ⟨ht1, ht2⟩ := of_outB_f ht
  obtain ⟨_, hm⟩ := of_outB_f hmo
  obtain ⟨hl0, hl1, hrg⟩ := rise_0 hr
  have HT := Lib.hid (riseGo_times hrg)
  have HU := Lib.hid (riseGo_pw hrg).1
  clear hwb hr hrg ht hmo
  obtain ⟨f1, f2⟩ := of_noTime_f hn
  obtain ⟨b, off, rfl, hb, hc⟩ := hR.ints hl0
  have hc0 := hc 0 _ (List.getElem?_eq_getElem hl0)
  have hcl := hc (l.length - 1) _ (List.getElem?_eq_getElem (by omega))
  have HC := Lib.hid hc
  simp only [Nat.add_zero] at hc0
  obtain ⟨e1, e2⟩ := HT.out _ (List.getElem_mem hl0)
  have hg0 : l[0]?.getD 0 = l[0] := by rw [List.getElem?_eq_getElem hl0]; rfl
  have hgl : l[l.length - 1]?.getD 0 = l[l.length - 1]'(by omega) := by rw [List.getElem?_eq_getElem (by omega)]; rfl
  have HF := Lib.hid (show chooseF l fin sc t m = if (planAt fin t m l 0).can then 0 else 9 by
    unfold chooseF; rw [if_neg (by simpa using hf), if_neg (by simp [hn]), if_neg (by omega), if_neg (by omega)])
  rw [hg0] at h3
  rw [hgl] at h2
  clear hc hg0 hgl
  have HFin := Lib.hid (show ∀ x ∈ l, x < fin from fun x hx => by
    obtain ⟨j, hj, rfl⟩ := List.getElem_of_mem hx
    rcases Nat.lt_or_ge j (l.length - 1) with h | h
    · have := Up_lt HU.out j (l.length - 1) h (by omega); omega
    · have e : j = l.length - 1 := by omega
      subst e; omega)
  have hb0 : Below w.heap.size w (w.alloc (.cells #[.int .i64 sc, .int .i64 t, .int .i64 m] 24)) := (Below.refl _ _).alloc (Nat.le_refl _) _
  have hk0 : 0 ≤ (l.length : Int) - 1 := by omega
  have hk1 : (l.length : Int) - 1 < l.length := by omega
  have hl0' : (0 : Int) < l.length := by omega
  have hd2 : decide (fin ≤ l[l.length - 1]'(by omega)) = false := decide_eq_false (by omega)
  have hd3 : decide ((1000000000000 : Int) < fin - l[0]) = false := decide_eq_false (by omega)
  have hmk := fun W => make_plans l.length hl1 W
  go_enter Try.func14, Try.ntmps14
  go_wp2_with fail
  refine (wish_any (some ⟨b, off, none⟩) c l sc t m _ (by unfold maxLen; omega) (hR.go hb0)).mono ?_
  rw [hf]
  rintro e w1 ⟨rfl, hb1⟩
  have hB := bl_trans hb0 hb1
  have hw1 : Blk w1 w.heap.size 24 #[.int .i64 sc, .int .i64 t, .int .i64 m] := (Blk.new _ _ _).below hb1 (by simp)
  have d0 := (hB.cell (p := ⟨b, off, none⟩) hb).trans hc0
  have d1 := (hB.cell (p := ⟨b, off + (l.length - 1), none⟩) hb).trans hcl
  clear hc0 hcl hb0 hb1
  go_wp2_with (go_at_call 32; refine (notime_any _ _).mono ?_; rintro e w' ⟨rfl, rfl⟩)
  clear d1 hmk
  have hp0 := (Blk.new w1 77 ((List.replicate l.length noPlan).flatMap Plan.enc).toArray)
  have hw2 := hw1.alloc (.cells ((List.replicate l.length noPlan).flatMap Plan.enc).toArray 77)
  have hB2 := bl_alloc hB (.cells ((List.replicate l.length noPlan).flatMap Plan.enc).toArray 77)
  have hgw : w.heap.size < w1.heap.size := hw1.lt
  rw [← plansFrom_n l fin t m] at hp0 hw2 hB2 ⊢
  generalize w1.heap.size = g at hp0 hgw ⊢
  generalize w1.alloc _ = w2 at hp0 hw2 hB2 ⊢
  clear hw1 hB d0
  have HQ := Lib.hid (show ∀ k, k < l.length → ∀ j, k < j → (h2 : j < (plansFrom l fin t m (k + 1)).length) → (plansFrom l fin t m (k + 1))[j].can = true → 0 ≤ (plansFrom l fin t m (k + 1))[j].sum ∧ (plansFrom l fin t m (k + 1))[j].sum ≤ 2500000000000000000 ∧ 0 ≤ (plansFrom l fin t m (k + 1))[j].many ∧ (plansFrom l fin t m (k + 1))[j].many ≤ 1000 from fun k hk j hj h2 hcan => by
    obtain ⟨x1, x2, x3, x4⟩ := plansFrom_bd (bests_bd ht1 ht2 hm l 0 HU.out HFin.out) hj h2 hcan
    omega)
  have HB := Lib.hid (show ∀ k, (hk : k < l.length) → planScan l[k] t m (k + 1) (planEnd l[k] fin t m) (l.drop (k + 1)) ((plansFrom l fin t m (k + 1)).drop (k + 1)) = planAt fin t m l k from fun k hk => by
    rw [plansFrom_drop, bests_at _ _ _ _ _ hk])
  go_loopg [12] l.length (fun gk v wr => ∃ i : Int, (gk : Int) = i + 1 ∧ gk ≤ l.length ∧ v = .int .i64 i ∧ Blk wr g 77 ((plansFrom l fin t m gk).flatMap Plan.enc).toArray ∧ Blk wr w.heap.size 24 #[.int .i64 sc, .int .i64 t, .int .i64 m] ∧ Below w.heap.size w wr)
  case atStart => exact ⟨_, by omega, Nat.le_refl _, rfl, hp0, hw2, hB2⟩
  case round =>
    clear hp0 hw2 hB2
    obtain ⟨i, hgi, hgl, rfl, hp, hw, hB⟩ := hrel
    by_cases hi : 0 ≤ i
    · obtain ⟨k, rfl⟩ := Int.eq_ofNat_of_zero_le hi
      obtain rfl : gk = k + 1 := by omega
      clear hgi hi
      have hk : k < l.length := by omega
      have hki : (k : Int) < l.length := by omega
      have y0 := hw.cell 0 _ rfl
      have y1 := hw.cell 1 _ rfl
      have y2 := hw.cell 2 _ rfl
      have HP := Lib.hid (plansFrom_length l fin t m (k := k + 1) (by omega))
      have hgr := hp.lt
      go_wp2_with fail
      refine (plan_any (some ⟨b, off, none⟩) c l fin sc t m (some ⟨g, 0, none⟩) l.length (plansFrom l fin t m (k + 1)) k _ (hR.go hB) hp.rd HP.out hk hl1 (Up_lt HU.out) HT.out HFin.out f2 ht1 ht2 hm (HQ.out k hk)).mono ?_
      rintro e w3 ⟨rfl, hb3⟩
      rw [HB.out k hk]
      have hp3 := hp.below hb3 hgr
      have hw3 := hw.below hb3 hw.lt
      have hB3 := bl_trans hB hb3
      have z0 := hp3.frozen (k * 4)
      have z1 := hp3.frozen (k * 4 + 1)
      have z2 := hp3.frozen (k * 4 + 2)
      have z3 := hp3.frozen (k * 4 + 3)
      clear y0 y1 y2 hp hw hB
      have HS := Lib.hid (plansFrom_set l fin t m hk)
      have hkP : k < (plansFrom l fin t m (k + 1)).length := by rw [HP.out]; exact hk
      have hpl := fun p => Blk.plan hp3 hkP p
      obtain ⟨_, _, eg, _, hcp⟩ := hp3.rd.plans hkP
      obtain ⟨rfl, rfl⟩ : _ ∧ _ := by simpa using eg
      obtain ⟨q0, q1, q2, q3⟩ := hcp k _ (List.getElem?_eq_getElem hkP)
      rw [Nat.zero_add] at q0 q1 q2 q3
      clear hcp eg
      generalize planAt fin t m l k = p at HS ⊢
      rw [show p.enc.toArray = #[.bool p.can, .int .i64 p.sum, .int .i64 p.many, .int .i64 p.next] from rfl]
      go_wp2_with fail
      go_roundg k
      case measure => omega
      case rel => 
        refine ⟨_, (by omega : (k : Int) = ((k : Int) - 1) + 1), by omega, rfl, ?_, ?_, ?_⟩
        · rw [← HS.out]; exact hpl p
        · exact (((hw3.far (by simp; omega) _).far (by simp; omega) _).far (by simp; omega) _).far (by simp; omega) _
        · exact bl_set (bl_set (bl_set (bl_set hB3 (by simp; omega) _) (by simp; omega) _) (by simp; omega) _) (by simp; omega) _
    · have hgk : gk = 0 := by omega
      subst hgk
      obtain rfl : i = -1 := by omega
      clear hgi hi
      rw [plansFrom_0] at hp
      have HL := Lib.hid (bests_length fin t m l 0)
      have hb0 : 0 < (bests fin t m 0 l).length := by rw [HL.out]; exact hl0
      have HPl := Lib.hid (fun k (hk : k < l.length) => (by
        unfold planAt; rw [List.getElem?_eq_getElem (by rw [HL.out]; exact hk)]; rfl : planAt fin t m l k = (bests fin t m 0 l)[k]'(by rw [HL.out]; exact hk)))
      obtain ⟨_, _, eg, _, hcp⟩ := hp.rd.plans hb0
      obtain ⟨rfl, rfl⟩ : _ ∧ _ := by simpa using eg
      have HCP := Lib.hid hcp
      obtain ⟨q0, q1, q2, q3⟩ := hcp 0 _ (List.getElem?_eq_getElem hb0)
      rw [← HPl.out 0 hl0] at q0 q1 q2 q3
      clear hcp
      cases hcan : (planAt fin t m l 0).can
      · rw [hcan] at q0
        have HF' := Lib.hid (show chooseF l fin sc t m = 9 by rw [HF.out, hcan]; rfl)
        go_wp2_with fail
        go_ret3
        exact leaves_no HF'.out (by decide) hB
      · rw [hcan] at q0
        have HF' := Lib.hid (show chooseF l fin sc t m = 0 by rw [HF.out, hcan]; rfl)
        go_wp2_with fail
        obtain ⟨i0, hi0, hz0, hz1, hz2⟩ := info_parts (int_info)
        have HLd := Lib.hid (bests_leads (fin := fin) (t := t) (m := m) (n := l.length) (f := planAt fin t m l) l 0 (by simp) (fun j hj => by
          rw [Nat.zero_add]; exact HPl.out j (by rw [← HL.out]; exact hj)))
        have hgr := hp.lt
        have hbr : b < wr.heap.size := by have := hB.size; omega
        obtain ⟨wy, ewy⟩ : ∃ wy, wy = wr := ⟨wr, rfl⟩
        subst ewy
        go_loopg [13, 14] l.length (fun gk v iv wr => ∃ (out : List Int) (A2 : Option Addr) (c2 : Nat) (i : Int), v = .slice A2 out.length c2 ∧ iv = .int .i64 i ∧ wr.ownsRow wy.heap.size 3 1 (.slice A2 out.length c2) out.length (out.map (Value.int .i64)) ∧ Below wy.heap.size wy wr ∧ out.length + gk = l.length ∧
          Hid (out ++ pathGo (planAt fin t m l) (fun i => l[i]?.getD 0) gk i = choosePath l fin t m) ∧ (i = -1 ∨ ∃ k : Nat, i = k ∧ k < l.length ∧ l.length ≤ k + gk ∧ (planAt fin t m l k).can = true))
        case atStart => exact ⟨[], none, 0, 0, rfl, rfl, World.ownsRow_nil _ _ _ _, Below.refl _ _, by simp, Lib.hid rfl, .inr ⟨0, rfl, hl0, by omega, hcan⟩⟩
        case round =>
          obtain ⟨out, A2, c2, i, rfl, rfl, hown, hbx, hgl2, HG, hi⟩ := hrel
          rcases hi with rfl | ⟨k, rfl, hk, hgk, hck⟩
          · have HE := Lib.hid (show out = choosePath l fin t m by rw [← HG.out, path_neg (by omega), List.append_nil])
            have y1 := (hbx.cell (p := ⟨g, 0 + 0 * 4 + 1, none⟩) hgr).trans q1
            simp only [Nat.zero_mul, Nat.zero_add, Nat.add_zero] at y1
            have hgx : g < wr.heap.size := by have := hbx.size; omega
            clear q0 q1 q2 q3
            go_wp2_with fail
            refine wp_region_grow (by kernel_rfl) (by kernel_rfl) ?_
            repeat (go_big_quiet_step (fail))
            refine wpQuiet_nil ?_
            rintro _ ⟨x2, rfl⟩
            go_wp2_with fail
            go_ret3
            have ho : chooseOut l fin sc t m = out := by unfold chooseOut; rw [HF'.out, if_pos rfl, HE.out]
            have hs : chooseSum l fin sc t m = (planAt fin t m l 0).sum := by unfold chooseSum; rw [HF'.out, if_pos rfl]
            refine ⟨A2, c2, ?_, ?_, ?_⟩
            · rw [ho, hs, HF'.out]; rfl
            · rw [ho]; exact own_mono (own_grow hown x2) hB.size
            · exact bl_grow (bl_trans hB hbx) x2
          · obtain ⟨G, rfl⟩ : ∃ G, gk = G + 1 := ⟨gk - 1, by omega⟩
            have x0 := (hbx.cell (p := ⟨b, off + k, none⟩) hbr).trans ((hB.cell (p := ⟨b, off + k, none⟩) hb).trans (HC.out k _ (List.getElem?_eq_getElem hk)))
            have hk0 : (0 : Int) ≤ k := by omega
            have hk1 : (k : Int) < l.length := by omega
            have hbxx : b < wr.heap.size := by have := hbx.size; omega
            clear q0 q1 q2 q3
            have HG' := Lib.hid (show (out ++ [l[k]]) ++ pathGo (planAt fin t m l) (fun i => l[i]?.getD 0) G (planAt fin t m l k).next = choosePath l fin t m by
              rw [← HG.out, path_step, List.getElem?_eq_getElem hk]; simp)
            go_wp2_with (at_builtin; refine wpList_append1 rfl _ _ 22 rfl wy.heap.size 3 i0 (.int .i64 0) 1 8 Try.underlying22 hi0 hz0 hz1 hz2 rfl (by decide) A2 out.length c2 (out.map (Value.int .i64)) rfl (own_below hown ((Below.refl _ _).alloc (Nat.le_refl _) _)) wr.heap.size 1 1 [.int .i64 l[k]] rfl rfl (new_cells _ _ _) (one_all _ rfl) (by unfold maxLen; omega) (by omega) (by have := hbx.size; simp; omega) wr.heap.size (fun b hb => (own_lt hown b hb).2) ?_)
            intro A' c' y hown'
            have hB2 := (bl_alloc hbx (.cells #[.int .i64 l[k]] 3)).trans (growBut_below wy.heap.size wr.heap.size (wr.alloc (.cells #[.int .i64 l[k]] 3)) y (by have := hbx.size; simp; omega))
            generalize growBut _ _ _ y = wz at hown' hB2 ⊢
            have y3 := (hB2.cell (p := ⟨g, 0 + k * 4 + 3, none⟩) hgr).trans (HCP.out k _ (List.getElem?_eq_getElem (by rw [HL.out]; exact hk))).2.2.2
            rw [← HPl.out k hk] at y3
            simp only [Nat.zero_add] at y3
            clear x0
            go_wp2_with fail
            go_roundg G
            case measure => omega
            case rel =>
              refine ⟨out ++ [l[k]], A', c', (planAt fin t m l k).next, by simp, rfl, by simpa using hown', hB2, by simp; omega, HG', ?_⟩
              rcases HLd.out k (Nat.zero_le _) hk hck with ⟨h1, _⟩ | ⟨k', h1, h2, h3, h4, _⟩
              · exact .inl h1
              · exact .inr ⟨k', h3, h2, by omega, h4⟩
theorem choose_any (hl : l.length ≤ maxLen) (hR : Rd w w.heap.size A (l.map (Value.int .i64))) :
    Calls Try.prog 14 #[.slice A l.length c, .int .i64 fin, .agg #[.int .i64 sc, .int .i64 t, .int .i64 m]] w (ChooseLeaves l fin sc t m w) := by
  by_cases hf : wishF l sc t m = 0
  · by_cases h1 : noTime fin = true
    · exact choose_2 A c l fin sc t m w hf (.inl h1) hR
    by_cases h2 : fin ≤ l[l.length - 1]?.getD 0
    · exact choose_2 A c l fin sc t m w hf (.inr (.inl h2)) hR
    by_cases h3 : (1000000000000 : Int) < fin - l[0]?.getD 0
    · exact choose_2 A c l fin sc t m w hf (.inr (.inr h3)) hR
    exact choose_3 A c l fin sc t m w hf (by simpa using h1) (by omega) (by omega) hR
  · exact choose_1 A c l fin sc t m w hf hl hR
end
end Go.Proofs.Ytpkeiabifoipoaa
