/- cut.planFrom: the best plan from a place on, with what is best from later ones on. -/
import Derived.Test.YtpkeiabifoipoaaFloat
import Derived.Test.YtpkeiabifoipoaaGrid
import Derived.Test.YtpkeiabifoipoaaChooseP
import Derived.Deep.LoopGhost
import Derived.Deep.DeepCutAuto
namespace Go.Proofs.Ytpkeiabifoipoaa
open Go.RowKit
attribute [local go_sem] cell_grow frozen_grow cell_growBut frozen_growBut cell_growP

theorem sq_bd {d t : Int} (h1 : 0 ≤ d) (h2 : d ≤ 50000000) (h3 : 1 ≤ t) (h4 : t ≤ 50000000) : 0 ≤ (d - t) * (d - t) ∧ (d - t) * (d - t) ≤ 2500000000000000 := by
  have h : -50000000 ≤ d - t ∧ d - t ≤ 50000000 := by omega
  generalize d - t = e at h
  obtain ⟨ha, hb⟩ := h
  refine ⟨?_, ?_⟩
  · rcases Int.le_total 0 e with h | h
    · exact Int.mul_nonneg h h
    · have := Int.mul_nonneg (a := -e) (b := -e) (by omega) (by omega)
      rwa [Int.neg_mul_neg] at this
  · rcases Int.le_total 0 e with h | h
    · have := Int.mul_le_mul hb hb h (by omega)
      omega
    · have := Int.mul_le_mul (a := -e) (b := -e) (c := 50000000) (d := 50000000) (by omega) (by omega) (by omega) (by omega)
      rw [Int.neg_mul_neg] at this
      omega

set_option maxHeartbeats 800000 in
/-- The closure 'square', with the places, the number i and the wish that it has caught. -/
theorem square_any (b off c : Nat) (l : List Int) (i : Nat) (y t : Int) (p1 p2 p3 : Nat) (w : World) (hi : i < l.length) (_hl : l.length ≤ 1000)
    (h1 : w.cell? ⟨p1, 0, none⟩ = some (.slice (some ⟨b, off, none⟩) l.length c)) (h2 : w.cell? ⟨p2, 0, none⟩ = some (.int .i64 i)) (h3 : w.cell? ⟨p3, 1, none⟩ = some (.int .i64 t))
    (hc : w.cell? ⟨b, off + i, none⟩ = some (.int .i64 l[i])) (hb1 : p1 < w.heap.size) (hb2 : p2 < w.heap.size) (hb3 : p3 < w.heap.size) (hb : b < w.heap.size)
    (_hx1 : -1000000000000000 ≤ l[i]) (_hx2 : l[i] ≤ 1000000000000000) (hy1 : 0 ≤ y - l[i]) (hy2 : y - l[i] ≤ 50000000) (ht1 : 1 ≤ t) (ht2 : t ≤ 50000000) :
    Calls Try.prog 51 #[.int .i64 y, .pointer (some ⟨p1, 0, none⟩), .pointer (some ⟨p2, 0, none⟩), .pointer (some ⟨p3, 0, none⟩)] w (Gives (.int .i64 (sq (y - l[i]) t)) w) := by
  obtain ⟨q1, q2⟩ := sq_bd hy1 hy2 ht1 ht2
  have hi0 : (0 : Int) ≤ i := by omega
  have hi1 : (i : Int) < l.length := by omega
  unfold sq
  go_enter Try.func51, Try.ntmps51
  go_wp2_with fail
  refine wp_region_grow (by kernel_rfl) (by kernel_rfl) ?_
  repeat (go_big_quiet_step (fail))
  refine wpQuiet_nil ?_
  rintro _ ⟨x2, rfl⟩
  go_wp2_with fail
  go_ret
  exact ⟨rfl, grow_below _ _⟩

def Plan.enc (p : Plan) : List Value := [.bool p.can, .int .i64 p.sum, .int .i64 p.many, .int .i64 p.next]
theorem Rd.plans {w : World} {B : Nat} {A : Option Addr} {l : List Plan} (h : Rd w B A (l.flatMap Plan.enc)) {k : Nat} (hk : k < l.length) :
    ∃ b off, A = some ⟨b, off, none⟩ ∧ b < B ∧ ∀ i p, l[i]? = some p → (w.cell? ⟨b, off + i * 4, none⟩ = some (.bool p.can) ∧ w.cell? ⟨b, off + i * 4 + 1, none⟩ = some (.int .i64 p.sum) ∧ w.cell? ⟨b, off + i * 4 + 2, none⟩ = some (.int .i64 p.many) ∧ w.cell? ⟨b, off + i * 4 + 3, none⟩ = some (.int .i64 p.next)) := by
  obtain ⟨b, off, rfl, hb, hc⟩ := Rd.rows Plan.enc 4 (by omega) (fun _ => rfl) h hk
  refine ⟨b, off, rfl, hb, fun i p hp => ⟨?_, ?_, ?_, ?_⟩⟩
  · exact hc i 0 p _ hp (by omega) rfl
  · exact hc i 1 p _ hp (by omega) rfl
  · exact hc i 2 p _ hp (by omega) rfl
  · exact hc i 3 p _ hp (by omega) rfl

/-- What holds of the call's own blocks while it looks for the best plan. -/
structure PlanIn (w wr : World) (S : Value) (sc t m i : Int) (p : Plan) : Prop where
  below : Below w.heap.size w wr
  b0 : Blk wr w.heap.size 22 #[S]
  b1 : Blk wr (w.heap.size + 1) 24 #[.int .i64 sc, .int .i64 t, .int .i64 m]
  b2 : Blk wr (w.heap.size + 1 + 1) 3 #[.int .i64 i]
  b3 : Blk wr (w.heap.size + 1 + 1 + 1) 77 #[.bool false, .int .i64 0, .int .i64 0, .int .i64 0]
  b4 : Blk wr (w.heap.size + 1 + 1 + 1 + 1) 77 #[.bool p.can, .int .i64 p.sum, .int .i64 p.many, .int .i64 p.next]
section
variable {w wr : World} {S : Value} {sc t m i : Int} {p : Plan}
theorem PlanIn.go (h : PlanIn w wr S sc t m i p) {w2 : World} (hb : Below wr.heap.size wr w2) : PlanIn w w2 S sc t m i p :=
  ⟨h.below.trans (hb.mono h.below.size), h.b0.below hb h.b0.lt, h.b1.below hb h.b1.lt, h.b2.below hb h.b2.lt, h.b3.below hb h.b3.lt, h.b4.below hb h.b4.lt⟩
theorem PlanIn.alloc (h : PlanIn w wr S sc t m i p) (o : Obj) : PlanIn w (wr.alloc o) S sc t m i p := h.go ((Below.refl _ _).alloc (Nat.le_refl _) o)
theorem PlanIn.far (h : PlanIn w wr S sc t m i p) {a : Addr} (ha : w.heap.size + 1 + 1 + 1 + 1 < a.block) (u : Value) : PlanIn w (wr.setCell a u) S sc t m i p :=
  ⟨h.below.setCell (by omega) u, h.b0.far (by omega) u, h.b1.far (by omega) u, h.b2.far (by omega) u, h.b3.far (by omega) u, h.b4.far (by omega) u⟩
theorem PlanIn.store (h : PlanIn w wr S sc t m i p) (p' : Plan) : PlanIn w ((((wr.setCell ⟨w.heap.size + 1 + 1 + 1 + 1, 0, none⟩ (.bool p'.can)).setCell ⟨w.heap.size + 1 + 1 + 1 + 1, 1, none⟩ (.int .i64 p'.sum)).setCell ⟨w.heap.size + 1 + 1 + 1 + 1, 2, none⟩ (.int .i64 p'.many)).setCell ⟨w.heap.size + 1 + 1 + 1 + 1, 3, none⟩ (.int .i64 p'.next)) S sc t m i p' := by
  have hne : ∀ (k : Nat), k < 4 → ∀ (o : Nat), w.heap.size + k ≠ (⟨w.heap.size + 1 + 1 + 1 + 1, o, none⟩ : Addr).block := fun k hk o => by show _ ≠ w.heap.size + 1 + 1 + 1 + 1; omega
  have hle : ∀ o : Nat, w.heap.size ≤ (⟨w.heap.size + 1 + 1 + 1 + 1, o, none⟩ : Addr).block := fun o => by show _ ≤ w.heap.size + 1 + 1 + 1 + 1; omega
  refine ⟨(((h.below.setCell (hle _) _).setCell (hle _) _).setCell (hle _) _).setCell (hle _) _, ?_, ?_, ?_, ?_, ?_⟩
  · exact (((h.b0.far (hne 0 (by omega) _) _).far (hne 0 (by omega) _) _).far (hne 0 (by omega) _) _).far (hne 0 (by omega) _) _
  · exact (((h.b1.far (hne 1 (by omega) _) _).far (hne 1 (by omega) _) _).far (hne 1 (by omega) _) _).far (hne 1 (by omega) _) _
  · exact (((h.b2.far (hne 2 (by omega) _) _).far (hne 2 (by omega) _) _).far (hne 2 (by omega) _) _).far (hne 2 (by omega) _) _
  · exact (((h.b3.far (hne 3 (by omega) _) _).far (hne 3 (by omega) _) _).far (hne 3 (by omega) _) _).far (hne 3 (by omega) _) _
  · exact (((h.b4.set_ 0 _).set_ 1 _).set_ 2 _).set_ 3 _
theorem PlanIn.size (h : PlanIn w wr S sc t m i p) : w.heap.size + 1 + 1 + 1 + 1 < wr.heap.size := h.b4.lt
end

set_option maxRecDepth 100000 in
set_option maxHeartbeats 1600000 in
theorem plan_any (A : Option Addr) (c : Nat) (l : List Int) (fin sc t m : Int) (A2 : Option Addr) (c2 : Nat) (ps : List Plan) (i : Nat) (w : World)
    (hR : Rd w w.heap.size A (l.map (Value.int .i64))) (hR2 : Rd w w.heap.size A2 (ps.flatMap Plan.enc)) (hps : ps.length = l.length) (hi : i < l.length) (hl : l.length ≤ 1000)
    (hup : ∀ a b, (h1 : a < b) → (h2 : b < l.length) → l[a] < l[b]) (htm : ∀ x ∈ l, -1000000000000000 ≤ x ∧ x ≤ 1000000000000000) (hfin : ∀ x ∈ l, x < fin) (hfin2 : fin ≤ 1000000000000000)
    (ht1 : 1 ≤ t) (ht2 : t ≤ 50000000) (hm : m ≤ 50000000) (hq : ∀ k, (h1 : i < k) → (h2 : k < ps.length) → ps[k].can = true → 0 ≤ ps[k].sum ∧ ps[k].sum ≤ 2500000000000000000 ∧ 0 ≤ ps[k].many ∧ ps[k].many ≤ 1000) :
    Calls Try.prog 33 #[.slice A l.length c, .int .i64 fin, .agg #[.int .i64 sc, .int .i64 t, .int .i64 m], .slice A2 l.length c2, .int .i64 i] w
      (Gives (.agg (planScan l[i] t m (i + 1) (planEnd l[i] fin t m) (l.drop (i + 1)) (ps.drop (i + 1))).enc.toArray) w) := by
  obtain ⟨b, off, rfl, hb, hc⟩ := hR.ints hi
  obtain ⟨b', off', rfl, hb', hc'⟩ := hR2.plans (k := i) (by omega)
  have hci := hc i _ (List.getElem?_eq_getElem hi)
  obtain ⟨hx1, hx2⟩ := htm _ (List.getElem_mem hi)
  have hxf := hfin _ (List.getElem_mem hi)
  have HC := Lib.hid hc
  have HC' := Lib.hid hc'
  have HU := Lib.hid hup
  have HT := Lib.hid htm
  have HF := Lib.hid hfin
  have HQ := Lib.hid hq
  have HP := Lib.hid hps
  clear hc hc' hup htm hfin hq hps
  have hi0 : (0 : Int) ≤ i := by omega
  have hi1 : (i : Int) < l.length := by omega
  have hb5 : ∀ n : Nat, b < w.heap.size + n := fun n => by omega
  have hb51 := hb5 1
  have hb52 := hb5 2
  have hb53 := hb5 3
  have hb54 := hb5 4
  have hb55 := hb5 5
  clear hb5
  have hW0 : PlanIn w (((((w.alloc (.cells #[.slice (some ⟨b, off, none⟩) l.length c] 22)).alloc (.cells #[.int .i64 sc, .int .i64 t, .int .i64 m] 24)).alloc (.cells #[.int .i64 i] 3)).alloc
      (.cells #[.bool false, .int .i64 0, .int .i64 0, .int .i64 0] 77)).alloc (.cells #[.bool false, .int .i64 0, .int .i64 0, .int .i64 0] 77)) (.slice (some ⟨b, off, none⟩) l.length c) sc t m i ⟨false, 0, 0, 0⟩ :=
    ⟨(((((Below.refl _ _).alloc (Nat.le_refl _) _).alloc (by simp) _).alloc (by simp; omega) _).alloc (by simp; omega) _).alloc (by simp; omega) _, ((((Blk.new _ _ _).alloc _).alloc _).alloc _).alloc _, (((Blk.new' _ _ _ (by simp)).alloc _).alloc _).alloc _,
      ((Blk.new' _ _ _ (by simp)).alloc _).alloc _, (Blk.new' _ _ _ (by simp)).alloc _, Blk.new' _ _ _ (by simp)⟩
  go_enter Try.func33, Try.ntmps33
  go_wp2_with fail
  refine wp_region_grow (by kernel_rfl) (by kernel_rfl) ?_
  repeat (go_big_quiet_step (fail))
  refine wpQuiet_nil ?_
  rintro _ ⟨x2, rfl⟩
  have hW1 := hW0.go (grow_below _ x2)
  generalize grow _ x2 = w1 at hW1 ⊢
  clear hW0
  go_upto_if 24 with (fail)
  go_cut [] (fun wc => PlanIn w wc (.slice (some ⟨b, off, none⟩) l.length c) sc t m i (planEnd l[i] fin t m))
  case first =>
    by_cases hend : fin - l[i] ≤ m
    · obtain ⟨q1, q2⟩ := sq_bd (d := fin - l[i]) (t := t) (by omega) (by omega) ht1 ht2
      have HE := Lib.hid (show planEnd l[i] fin t m = ⟨true, sq (fin - l[i]) t, 1, -1⟩ by unfold planEnd; rw [if_pos hend])
      have hbs : b < w1.heap.size := by have := hW1.below.size; omega
      have hs1 := hW1.size
      have hd : decide (fin - l[i] ≤ m) = true := decide_eq_true hend
      go_wp2_with fail
      refine (square_any b off c l i fin t w.heap.size (w.heap.size + 1 + 1) (w.heap.size + 1) _ hi hl (hW1.b0.cell 0 _ rfl) (hW1.b2.cell 0 _ rfl) (hW1.b1.cell 1 _ rfl) ((hW1.below.cell (p := ⟨b, off + i, none⟩) hb).trans hci) (by omega) (by omega) (by omega) hbs hx1 hx2 (by omega) (by omega) ht1 ht2).mono ?_
      rintro e w2 ⟨rfl, hb2⟩
      have hW2 := hW1.go hb2
      clear hW1 hs1 hbs
      have d0 := hW2.b4.cell 0 _ rfl
      have d1 := hW2.b4.cell 1 _ rfl
      have d2 := hW2.b4.cell 2 _ rfl
      have d3 := hW2.b4.cell 3 _ rfl
      have z0 := hW2.b4.frozen 0
      have z1 := hW2.b4.frozen 1
      have z2 := hW2.b4.frozen 2
      have z3 := hW2.b4.frozen 3
      go_wp2_with fail
      have hW3 := hW2.store ⟨true, sq (fin - l[i]) t, 1, -1⟩
      go_meet
      rw [HE.out]
      exact hW3
    · have HE := Lib.hid (show planEnd l[i] fin t m = ⟨false, 0, 0, 0⟩ by unfold planEnd; rw [if_neg hend])
      have hd : decide (fin - l[i] ≤ m) = false := decide_eq_false hend
      go_wp2_with fail
      go_meet
      rw [HE.out]
      exact hW1
  case rest =>
    clear hW1
    have e0 := hcut.b2.cell 0 _ rfl
    go_wp2_with fail
    clear e0
    go_loopg [13] (l.length - (i + 1)) (fun gk kk wr => ∃ (k : Nat) (p : Plan), gk = l.length - k ∧ i < k ∧ k ≤ l.length ∧ kk = .int .i64 k ∧ PlanIn w wr (.slice (some ⟨b, off, none⟩) l.length c) sc t m i p ∧
      Hid (planScan l[i] t m k p (l.drop k) (ps.drop k) = planScan l[i] t m (i + 1) (planEnd l[i] fin t m) (l.drop (i + 1)) (ps.drop (i + 1))))
    case atStart => exact ⟨i + 1, _, rfl, by omega, by omega, by go_num, hcut, Lib.hid rfl⟩
    case round =>
      clear hcut
      obtain ⟨k, p, rfl, hik, hk, rfl, hW, HG⟩ := hrel
      have hsz := hW.size
      have hbs : b < wr.heap.size := by omega
      have hbs' : b' < wr.heap.size := by omega
      have f0 := hW.b0.cell 0 _ rfl
      have f1 := hW.b1.cell 1 _ rfl
      have f2 := hW.b1.cell 2 _ rfl
      have f3 := hW.b2.cell 0 _ rfl
      have hciw := (hW.below.cell (p := ⟨b, off + i, none⟩) hb).trans hci
      have hs0 : w.heap.size < wr.heap.size := by omega
      have hs1 : w.heap.size + 1 < wr.heap.size := by omega
      have hs2 : w.heap.size + 1 + 1 < wr.heap.size := by omega
      by_cases hlt : k < l.length
      · have hckw := (hW.below.cell (p := ⟨b, off + k, none⟩) hb).trans (HC.out k _ (List.getElem?_eq_getElem hlt))
        obtain ⟨hy1, hy2⟩ := HT.out _ (List.getElem_mem hlt)
        have hyx := HU.out i k hik hlt
        have hk0 : (0 : Int) ≤ k := by omega
        have hk1 : (k : Int) < l.length := by omega
        by_cases hnear : l[k] - l[i] ≤ m
        · have hk2 : k < ps.length := by rw [HP.out]; exact hlt
          have hd1 : decide (l[k] - l[i] ≤ m) = true := decide_eq_true hnear
          have hd3 : decide ((k : Int) < l.length) = true := decide_eq_true hk1
          have HG' := Lib.hid (show planScan l[i] t m (k + 1) (planStep l[i] t p l[k] ps[k] k) (l.drop (k + 1)) (ps.drop (k + 1)) = planScan l[i] t m (i + 1) (planEnd l[i] fin t m) (l.drop (i + 1)) (ps.drop (i + 1)) by
            rw [← HG.out, List.drop_eq_getElem_cons hlt, List.drop_eq_getElem_cons (l := ps) hk2, planScan, if_pos hnear])
          clear HG
          go_wp2_with fail
          refine wp_region_grow (by kernel_rfl) (by kernel_rfl) ?_
          repeat (go_big_quiet_step (fail))
          refine wpQuiet_nil ?_
          rintro _ ⟨x2, rfl⟩
          have hWg := hW.go (grow_below _ x2)
          generalize grow wr x2 = w2 at hWg ⊢
          clear f0 f1 f2 f3 hciw hckw hsz hbs hbs' hs0 hs1 hs2 hW
          have hsz := hWg.size
          obtain ⟨b0, b1, b2, b3⟩ := HC'.out k _ (List.getElem?_eq_getElem hk2)
          have g0 := (hWg.below.cell (p := ⟨b', off' + k * 4, none⟩) hb').trans b0
          have g1 := (hWg.below.cell (p := ⟨b', off' + k * 4 + 1, none⟩) hb').trans b1
          have g2 := (hWg.below.cell (p := ⟨b', off' + k * 4 + 2, none⟩) hb').trans b2
          clear b0 b1 b2 b3
          have hbs : b < w2.heap.size := by omega
          have hbs' : b' < w2.heap.size := by omega
          cases hcan : ps[k].can
          · have HN := Lib.hid (show planStep l[i] t p l[k] ps[k] k = p by unfold planStep; rw [hcan]; rfl)
            go_wp2_with fail
            go_roundg (l.length - (k + 1))
            case measure => omega
            case rel => exact ⟨k + 1, p, rfl, by omega, by omega, by go_num, hWg, Lib.hid (by rw [← HG'.out, HN.out])⟩
          · obtain ⟨u1, u2, u3, u4⟩ := HQ.out k hik hk2 hcan
            obtain ⟨v1, v2⟩ := sq_bd (d := l[k] - l[i]) (t := t) (by omega) (by omega) ht1 ht2
            have v1' : 0 ≤ sq (l[k] - l[i]) t := v1
            have v2' : sq (l[k] - l[i]) t ≤ 2500000000000000 := v2
            clear v1 v2
            have HS := Lib.hid (fun (W : World) (hbW : Below w2.heap.size w2 W) => square_any b off c l i l[k] t w.heap.size (w.heap.size + 1 + 1) (w.heap.size + 1) W hi hl ((hWg.go hbW).b0.cell 0 _ rfl) ((hWg.go hbW).b2.cell 0 _ rfl) ((hWg.go hbW).b1.cell 1 _ rfl)
              (((hWg.go hbW).below.cell (p := ⟨b, off + i, none⟩) hb).trans hci) (by have := (hWg.go hbW).size; omega) (by have := (hWg.go hbW).size; omega) (by have := (hWg.go hbW).size; omega) (by have := (hWg.go hbW).size; omega) hx1 hx2 (by omega) (by omega) ht1 ht2)
            have f0 := hWg.b0.cell 0 _ rfl
            have hs0 : w.heap.size < w2.heap.size := by omega
            have hckw := (hWg.below.cell (p := ⟨b, off + k, none⟩) hb).trans (HC.out k _ (List.getElem?_eq_getElem hlt))
            have p0 := hWg.b4.cell 0 _ rfl
            have p1 := hWg.b4.cell 1 _ rfl
            have p2 := hWg.b4.cell 2 _ rfl
            have p3 := hWg.b4.cell 3 _ rfl
            have z0 := hWg.b4.frozen 0
            have z1 := hWg.b4.frozen 1
            have z2 := hWg.b4.frozen 2
            have z3 := hWg.b4.frozen 3
            have hs4 : w.heap.size + 1 + 1 + 1 + 1 < w2.heap.size := hsz
            clear hnear
            go_wp2_with fail
            have HC1 := Lib.hid hcan
            clear hcan
            refine wp_region_float 20 _ 77 #[.bool false, .int .i64 0, .int .i64 0, .int .i64 0] (by kernel_rfl) (by kernel_rfl) (by kernel_rfl) rfl rfl (fun _ _ => by kernel_rfl) ?_
            apply Exists.intro
            refine ⟨fun u => ?_, ?_⟩
            · simp only [List.take_succ_cons, List.take_zero]
              repeat (go_big_quiet_step ((go_at_call 51; exact call_givesP u _ (HS.out _ (growP_below u _)))))
              exact wpQuiet_nil rfl
            · intro w3 g hb3 hg hblk
              have hW3 := hWg.go hb3
              clear hWg f0 hs0 hckw p0 p1 p2 p3 z0 z1 z2 z3 hs4 g0 g1 g2 hbs hbs' HS
              simp only [List.drop_succ_cons, List.drop_zero, Act.put, List.setIfInBounds_toArray, List.set_cons_succ, List.set_cons_zero]
              have q0 := hblk.cell 0 _ rfl
              have q1 := hblk.cell 1 _ rfl
              have q2 := hblk.cell 2 _ rfl
              have q3 := hblk.cell 3 _ rfl
              have y0 := hblk.frozen 0
              have y1 := hblk.frozen 1
              have y2 := hblk.frozen 2
              have y3 := hblk.frozen 3
              have hsz3 := hW3.size
              have hg4 : ∀ o : Nat, w.heap.size + 1 + 1 + 1 + 1 < (⟨g, o, none⟩ : Addr).block := fun o => by show _ < g; omega
              have hgne : ¬ (w.heap.size + 1 + 1 + 1 + 1 = g) := by omega
              have hgne' : ¬ (g = w.heap.size + 1 + 1 + 1 + 1) := by omega
              have p0 := hW3.b4.cell 0 _ rfl
              have p1 := hW3.b4.cell 1 _ rfl
              have p2 := hW3.b4.cell 2 _ rfl
              have p3 := hW3.b4.cell 3 _ rfl
              have z0 := hW3.b4.frozen 0
              have z1 := hW3.b4.frozen 1
              have z2 := hW3.b4.frozen 2
              have z3 := hW3.b4.frozen 3
              cases hpc : p.can
              · have HN := Lib.hid (show planStep l[i] t p l[k] ps[k] k = planCand l[i] t l[k] ps[k] k by unfold planStep planNew; rw [HC1.out, hpc]; rfl)
                go_wp2_with fail
                go_roundg (l.length - (k + 1))
                case measure => omega
                case rel => exact ⟨k + 1, _, rfl, by omega, by omega, by go_num, ((((hW3.far (hg4 0) _).far (hg4 1) _).far (hg4 2) _).far (hg4 3) _).store ⟨true, sq (l[k] - l[i]) t + ps[k].sum, ps[k].many + 1, k⟩, Lib.hid (by rw [← HG'.out, HN.out]; rfl)⟩
              · by_cases s1 : sq (l[k] - l[i]) t + ps[k].sum < p.sum
                · have HN := Lib.hid (show planStep l[i] t p l[k] ps[k] k = planCand l[i] t l[k] ps[k] k by unfold planStep planNew; rw [HC1.out, hpc]; simp [planCand, s1])
                  have hs1 : decide (sq (l[k] - l[i]) t + ps[k].sum < p.sum) = true := decide_eq_true s1
                  clear s1
                  go_wp2_with fail
                  go_roundg (l.length - (k + 1))
                  case measure => omega
                  case rel => exact ⟨k + 1, _, rfl, by omega, by omega, by go_num, ((((hW3.far (hg4 0) _).far (hg4 1) _).far (hg4 2) _).far (hg4 3) _).store ⟨true, sq (l[k] - l[i]) t + ps[k].sum, ps[k].many + 1, k⟩, Lib.hid (by rw [← HG'.out, HN.out]; rfl)⟩
                · by_cases s2 : sq (l[k] - l[i]) t + ps[k].sum = p.sum
                  · by_cases s3 : ps[k].many + 1 < p.many
                    · have HN := Lib.hid (show planStep l[i] t p l[k] ps[k] k = planCand l[i] t l[k] ps[k] k by unfold planStep planNew; rw [HC1.out, hpc]; simp [planCand, s2, s3])
                      have hs1 : decide (sq (l[k] - l[i]) t + ps[k].sum < p.sum) = false := decide_eq_false s1
                      have hs2 : (sq (l[k] - l[i]) t + ps[k].sum == p.sum) = true := beq_iff_eq.2 s2
                      have hs3 : decide (ps[k].many + 1 < p.many) = true := decide_eq_true s3
                      clear s1 s2 s3
                      go_wp2_with fail
                      go_roundg (l.length - (k + 1))
                      case measure => omega
                      case rel => exact ⟨k + 1, _, rfl, by omega, by omega, by go_num, ((((hW3.far (hg4 0) _).far (hg4 1) _).far (hg4 2) _).far (hg4 3) _).store ⟨true, sq (l[k] - l[i]) t + ps[k].sum, ps[k].many + 1, k⟩, Lib.hid (by rw [← HG'.out, HN.out]; rfl)⟩
                    · have HN := Lib.hid (show planStep l[i] t p l[k] ps[k] k = p by unfold planStep planNew; rw [HC1.out, hpc]; simp [planCand, s2, s3])
                      have hs1 : decide (sq (l[k] - l[i]) t + ps[k].sum < p.sum) = false := decide_eq_false s1
                      have hs2 : (sq (l[k] - l[i]) t + ps[k].sum == p.sum) = true := beq_iff_eq.2 s2
                      have hs3 : decide (ps[k].many + 1 < p.many) = false := decide_eq_false s3
                      clear s1 s2 s3
                      go_wp2_with fail
                      go_roundg (l.length - (k + 1))
                      case measure => omega
                      case rel => exact ⟨k + 1, p, rfl, by omega, by omega, by go_num, ((((hW3.far (hg4 0) _).far (hg4 1) _).far (hg4 2) _).far (hg4 3) _), Lib.hid (by rw [← HG'.out, HN.out])⟩
                  · have HN := Lib.hid (show planStep l[i] t p l[k] ps[k] k = p by unfold planStep planNew; rw [HC1.out, hpc]; simp [planCand, s1, s2])
                    have hs1 : decide (sq (l[k] - l[i]) t + ps[k].sum < p.sum) = false := decide_eq_false s1
                    have hs2 : (sq (l[k] - l[i]) t + ps[k].sum == p.sum) = false := beq_eq_false_iff_ne.2 s2
                    clear s1 s2
                    go_wp2_with fail
                    go_roundg (l.length - (k + 1))
                    case measure => omega
                    case rel => exact ⟨k + 1, p, rfl, by omega, by omega, by go_num, ((((hW3.far (hg4 0) _).far (hg4 1) _).far (hg4 2) _).far (hg4 3) _), Lib.hid (by rw [← HG'.out, HN.out])⟩
        · have hd2 : decide (l[k] - l[i] ≤ m) = false := decide_eq_false hnear
          have hd3 : decide ((k : Int) < l.length) = true := decide_eq_true hk1
          have HR := Lib.hid (show p = planScan l[i] t m (i + 1) (planEnd l[i] fin t m) (l.drop (i + 1)) (ps.drop (i + 1)) by
            rw [← HG.out, List.drop_eq_getElem_cons hlt, List.drop_eq_getElem_cons (l := ps) (by rw [HP.out]; exact hlt), planScan, if_neg hnear])
          go_wp2_with fail
          refine wp_region_grow (by kernel_rfl) (by kernel_rfl) ?_
          repeat (go_big_quiet_step (fail))
          refine wpQuiet_nil ?_
          rintro _ ⟨x2, rfl⟩
          have hWg := hW.go (grow_below _ x2)
          generalize grow wr x2 = w2 at hWg ⊢
          clear f0 f1 f2 f3 hciw hckw hsz hbs hbs' hs0 hs1 hs2
          have p0 := hWg.b4.cell 0 _ rfl
          have p1 := hWg.b4.cell 1 _ rfl
          have p2 := hWg.b4.cell 2 _ rfl
          have p3 := hWg.b4.cell 3 _ rfl
          have r0 := hWg.b3.cell 0 _ rfl
          have r1 := hWg.b3.cell 1 _ rfl
          have r2 := hWg.b3.cell 2 _ rfl
          have r3 := hWg.b3.cell 3 _ rfl
          have z0 := hWg.b3.frozen 0
          have z1 := hWg.b3.frozen 1
          have z2 := hWg.b3.frozen 2
          have z3 := hWg.b3.frozen 3
          go_wp2_with fail
          refine bodyPost_ret (v := .agg p.enc.toArray) (by simp [results, Try.results33, go_sem, Plan.enc, *]) rfl ⟨by rw [HR.out], ?_⟩
          exact (((hWg.below.setCell (by simp; omega) _).setCell (by simp; omega) _).setCell (by simp; omega) _).setCell (by simp; omega) _
      · have hkl : k = l.length := by omega
        subst hkl
        have hd3 : decide ((l.length : Int) < l.length) = false := decide_eq_false (by omega)
        have HR := Lib.hid (show p = planScan l[i] t m (i + 1) (planEnd l[i] fin t m) (l.drop (i + 1)) (ps.drop (i + 1)) by
          rw [← HG.out, List.drop_eq_nil_of_le (Nat.le_refl _)]; simp [planScan])
        go_wp2_with fail
        refine wp_region_grow (by kernel_rfl) (by kernel_rfl) ?_
        repeat (go_big_quiet_step (fail))
        refine wpQuiet_nil ?_
        rintro _ ⟨x2, rfl⟩
        have hWg := hW.go (grow_below _ x2)
        generalize grow wr x2 = w2 at hWg ⊢
        clear f0 f1 f2 f3 hciw hsz hbs hbs' hs0 hs1 hs2
        have p0 := hWg.b4.cell 0 _ rfl
        have p1 := hWg.b4.cell 1 _ rfl
        have p2 := hWg.b4.cell 2 _ rfl
        have p3 := hWg.b4.cell 3 _ rfl
        have r0 := hWg.b3.cell 0 _ rfl
        have r1 := hWg.b3.cell 1 _ rfl
        have r2 := hWg.b3.cell 2 _ rfl
        have r3 := hWg.b3.cell 3 _ rfl
        have z0 := hWg.b3.frozen 0
        have z1 := hWg.b3.frozen 1
        have z2 := hWg.b3.frozen 2
        have z3 := hWg.b3.frozen 3
        go_wp2_with fail
        refine bodyPost_ret (v := .agg p.enc.toArray) (by simp [results, Try.results33, go_sem, Plan.enc, *]) rfl ⟨by rw [HR.out], ?_⟩
        exact (((hWg.below.setCell (by simp; omega) _).setCell (by simp; omega) _).setCell (by simp; omega) _).setCell (by simp; omega) _
end Go.Proofs.Ytpkeiabifoipoaa
