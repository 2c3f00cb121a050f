/- TickClocksComeBack. -/
import Derived.Test.YtlpbnpmmndcleaaKMedia
import Derived.Test.YtlpbnpmmndcleaaDmP
namespace Go.Proofs.Ytlpbnpmmndcleaa
open Go.RowKit
set_option linter.unusedSimpArgs false

theorem lastA_far {m : Int} : ∀ {l : List Anc} {a : Anc}, (∀ y ∈ l, m < y.media) → lastA m a l = a
  | [], _, _ => rfl
  | x :: r, a, h => by
    have := h x (by simp)
    rw [lastA, if_neg (by omega)]
    exact lastA_far fun y hy => h y (by simp [hy])
theorem lastA_idx {m : Int} : ∀ (r : List Anc) (a : Anc), (a :: r).Pairwise (fun a b => a.media < b.media) → ∃ k, ∃ hk : k < (a :: r).length, lastA m a r = (a :: r)[k] ∧ (k = 0 ∨ (a :: r)[k].media ≤ m) ∧ ∀ h : k + 1 < (a :: r).length, m < (a :: r)[k + 1].media
  | [], a, _ => ⟨0, by simp, rfl, .inl rfl, fun h => by simp at h⟩
  | x :: t, a, hp => by
    have hp' := (List.pairwise_cons.1 hp).2
    by_cases hx : x.media ≤ m
    · obtain ⟨k, hk, h1, h2, h3⟩ := lastA_idx (m := m) t x hp'
      refine ⟨k + 1, by simp at hk ⊢; omega, ?_, ?_, fun h => ?_⟩
      · rw [lastA, if_pos hx, h1]; rfl
      · right
        rcases h2 with rfl | h2
        · exact hx
        · exact h2
      · exact h3 (by simp at h ⊢; omega)
    · refine ⟨0, by simp, ?_, .inl rfl, fun h => by simp; omega⟩
      rw [lastA, if_neg hx]
      refine lastA_far fun y hy => ?_
      have := (List.pairwise_cons.1 hp').1 y hy
      omega
theorem getA {l : List Anc} {k : Nat} (h : k < l.length) : l.getD k ⟨0, 0⟩ = l[k] := by rw [List.getD_eq_getElem?_getD, List.getElem?_eq_getElem h]; rfl
theorem mx_ge (a b : Int) : a ≤ mxI a b ∧ b ≤ mxI a b := by unfold mxI; split <;> omega
theorem mn_le (a b : Int) : mnI a b ≤ a ∧ mnI a b ≤ b := by unfold mnI; split <;> omega
theorem medK_ok {l : List Anc} {sc w : Int} (lb : ∀ a ∈ l, badAnc a = false) (lp : l.Pairwise fun a b => a.media < b.media) : ∀ k, k ≤ l.length → OkS (medK l sc w k) ∧ (∀ u ∈ medK l sc w k, -1000000000000000 ≤ u.f ∧ u.t ≤ 1000000000000000) ∧ ∀ u ∈ medK l sc w k, u.t ≤ hiA l (k - 1)
  | 0, _ => ⟨okS_nil, by simp [medK], by simp [medK]⟩
  | k + 1, hk => by
    obtain ⟨h1, h2, h3⟩ := medK_ok (sc := sc) (w := w) lb lp k (by omega)
    have hlt : k < l.length := by omega
    have ba := badAnc_bd (lb l[k] (List.getElem_mem hlt))
    have hlo : -1000000000000000 ≤ loA l k ∧ (k ≠ 0 → hiA l (k - 1) = loA l k) := by
      unfold loA
      by_cases q : k = 0
      · simp [q]
      · rw [if_neg q, getA hlt]
        refine ⟨ba.1, fun _ => ?_⟩
        rw [hiA, if_pos (by omega), show k - 1 + 1 = k by omega, getA hlt]
    have hhi : hiA l k ≤ 1000000000000000 ∧ l[k].media ≤ hiA l k := by
      unfold hiA
      by_cases q : k + 1 < l.length
      · rw [if_pos q, getA q]
        have bb := badAnc_bd (lb l[k + 1] (List.getElem_mem q))
        have := List.pairwise_iff_getElem.1 lp k (k + 1) hlt q (by omega)
        omega
      · rw [if_neg q]; omega
    have hll : k ≠ 0 → loA l k ≤ hiA l k := fun q => by unfold loA; rw [if_neg q, getA hlt]; exact hhi.2
    have m1 := mx_ge (loA l k) ((l.getD k ⟨0, 0⟩).media + scl (w - (l.getD k ⟨0, 0⟩).wall) sc.toNat 1000 3)
    have m2 := mn_le (hiA l k) ((l.getD k ⟨0, 0⟩).media + scl (w - (l.getD k ⟨0, 0⟩).wall + 1) sc.toNat 1000 3)
    change loA l k ≤ mLo l sc w k ∧ _ at m1
    change mHi l sc w k ≤ hiA l k ∧ _ at m2
    have hprev : ∀ u ∈ medK l sc w k, u.t ≤ mLo l sc w k := fun u hu => by
      have := h3 u hu
      by_cases q : k = 0
      · subst q; simp [medK] at hu
      · rw [hlo.2 q] at this; omega
    rw [medK, Nat.add_sub_cancel]
    split
    · rename_i hc
      obtain ⟨p1, p2, p3⟩ := addS_ok (s := ⟨mLo l sc w k, mHi l sc w k⟩) h1 hc hprev
      refine ⟨p1, fun u hu => ?_, fun u hu => ?_⟩
      · obtain ⟨q1, q2⟩ := addS_mem hu
        refine ⟨?_, ?_⟩
        · rcases q1 with q1 | ⟨x, hx, q1⟩
          · rw [q1]; show _ ≤ mLo l sc w k; omega
          · rw [q1]; exact (h2 x hx).1
        · rcases q2 with q2 | ⟨x, hx, q2⟩
          · rw [q2]; show mHi l sc w k ≤ _; omega
          · rw [q2]; exact (h2 x hx).2
      · have := p3 u hu; simp only at this; omega
    · refine ⟨h1, h2, fun u hu => ?_⟩
      by_cases q : k = 0
      · subst q; simp [medK] at hu
      · have := h3 u hu
        rw [hlo.2 q] at this
        have := hll q
        omega
theorem medK_has {l : List Anc} {sc w : Int} (lb : ∀ a ∈ l, badAnc a = false) (lp : l.Pairwise fun a b => a.media < b.media) {m : Int} {j : Nat} (h1 : mLo l sc w j ≤ m) (h2 : m < mHi l sc w j) : ∀ k, j < k → k ≤ l.length → hasB (medK l sc w k) m = true
  | 0, h, _ => by omega
  | k + 1, hj, hk => by
    obtain ⟨a1, a2, a3⟩ := medK_ok (sc := sc) (w := w) lb lp k (by omega)
    have hb := medK_ok (sc := sc) (w := w) lb lp (k + 1) hk
    have hlt : k < l.length := by omega
    have hprev : ∀ u ∈ medK l sc w k, u.t ≤ mLo l sc w k := fun u hu => by
      have := a3 u hu
      by_cases q : k = 0
      · subst q; simp [medK] at hu
      · have e : hiA l (k - 1) = loA l k := by
          rw [loA, if_neg q, hiA, if_pos (by omega), show k - 1 + 1 = k by omega]
        rw [e] at this
        have m1 := mx_ge (loA l k) ((l.getD k ⟨0, 0⟩).media + scl (w - (l.getD k ⟨0, 0⟩).wall) sc.toNat 1000 3)
        change loA l k ≤ mLo l sc w k ∧ _ at m1
        omega
    rw [medK]
    by_cases hjk : j = k
    · subst hjk
      rw [if_pos (by omega), (addS_ok (s := ⟨mLo l sc w j, mHi l sc w j⟩) a1 (by simp only; omega) hprev).2.1]
      rw [sp_has.2 ⟨h1, h2⟩, Bool.or_true]
    · have ih := medK_has lb lp h1 h2 k (by omega) (by omega)
      split
      · rename_i hc
        rw [(addS_ok (s := ⟨mLo l sc w k, mHi l sc w k⟩) a1 hc hprev).2.1, ih, Bool.true_or]
      · exact ih
/-- The tick lies in the span of its anchor. -/
theorem anc_near {l : List Anc} {sc m : Int} {k : Nat} (lb : ∀ a ∈ l, badAnc a = false) (hk : k < l.length) (hs : noScale sc = false) (hm : noTime m = false) (hmx : m < 1000000000000000) (h0 : k = 0 ∨ l[k].media ≤ m) (h1 : ∀ h : k + 1 < l.length, m < l[k + 1].media) :
    mLo l sc (byF l[k] sc m) k ≤ m ∧ m < mHi l sc (byF l[k] sc m) k := by
  have ba := badAnc_bd (lb l[k] (List.getElem_mem hk))
  have bs := noScale_bd hs
  have bm := noTime_bd hm
  have hd : byF l[k] sc m - l[k].wall = (m - l[k].media) * 1000 / sc := by unfold byF; omega
  rw [mLo, mHi, getA hk, hd]
  obtain ⟨x, hx⟩ : ∃ x, x = m - l[k].media := ⟨_, rfl⟩
  rw [← hx]
  obtain ⟨d, hdd⟩ : ∃ d, d = x * 1000 / sc := ⟨_, rfl⟩
  rw [← hdd]
  have f1 : sc * d ≤ x * 1000 := by rw [hdd]; exact Int.mul_ediv_self_le (by omega)
  have f2 : x * 1000 < sc * d + sc := by
    have := Int.lt_mul_ediv_self_add (x := x * 1000) (k := sc) (by omega)
    rw [← hdd] at this; exact this
  have hsc : ((sc.toNat : Nat) : Int) = sc := by omega
  have key : ∀ z : Int, -3000000000000000000 ≤ sc * z → sc * z ≤ 3000000000000000000 → z.natAbs * sc.toNat ≤ 1000000000000000000 * 1000 := fun z z1 z2 => by
    have e : z.natAbs * sc.toNat = (sc * z).natAbs := by
      rw [Int.natAbs_mul, Nat.mul_comm]
      congr 1
      omega
    rw [e]; omega
  have g1 := scl_up (n := d) (b := sc.toNat) (p := 1000) (by omega) (key d (by omega) (by omega))
  have e2 : sc * (d + 1) = sc * d + sc := by rw [Int.mul_add, Int.mul_one]
  have g2 := scl_up (n := d + 1) (b := sc.toNat) (p := 1000) (by omega) (key (d + 1) (by omega) (by omega))
  rw [hsc, Int.mul_comm d sc] at g1
  rw [hsc, Int.mul_comm (d + 1) sc, e2] at g2
  have e1000 : ((1000 : Nat) : Int) = 1000 := rfl
  rw [e1000] at g1 g2
  generalize scl d sc.toNat 1000 3 = S1 at *
  generalize scl (d + 1) sc.toNat 1000 3 = S2 at *
  generalize sc * d = D at *
  have c1 : S1 ≤ x := by omega
  have c2 : x < S2 := by omega
  refine ⟨?_, ?_⟩
  · have : loA l k ≤ m := by
      unfold loA
      split
      · omega
      · rename_i q; rw [getA hk]; exact h0.resolve_left q
    unfold mxI
    split <;> omega
  · have : m < hiA l k := by
      unfold hiA
      split
      · rename_i q; rw [getA q]; exact h1 q
      · omega
    unfold mnI
    split <;> omega
theorem wallF_no' {l : List Anc} {scale m : Int} (h : (wallF l scale m).2 ≠ 0) : (wallF l scale m).1 = 0 := by
  unfold wallF at h ⊢
  split
  · rfl
  · split
    · rfl
    · split
      · rfl
      · rename_i h1 h2 h3
        rw [if_neg h1, if_neg h2, if_neg h3] at h
        exact absurd rfl h
theorem wallF_ok' {l : List Anc} {scale m : Int} (h : (wallF l scale m).2 = 0) : clsF l scale = 0 ∧ noTime m = false ∧ outB (wallF l scale m).1 0 253402300799999 = false ∧ (wallF l scale m).1 = byF (lastA m (l.getD 0 ⟨0, 0⟩) l) scale m := by
  unfold wallF at h ⊢
  split at h
  · rename_i h1; exact absurd h h1
  · split at h
    · cases h
    · split at h
      · cases h
      · rename_i h1 h2 h3
        rw [if_neg h1, if_neg h2, if_neg h3]
        exact ⟨by simpa using h1, by simpa using h2, by simpa using h3, rfl⟩
/-- What the law needs of the spans. -/
theorem clkback_p {l : List Anc} {scale m : Int} (h : (wallF l scale m).2 = 0) : ∃ s : List Sp, mediaF l scale (wallF l scale m).1 = (s, 0) ∧ spsF s = 0 ∧ s.length ≤ l.length ∧ (hasB s m = true ∨ m = 1000000000000000) := by
  obtain ⟨hc, hm, hw, he⟩ := wallF_ok' h
  obtain ⟨k0, ks⟩ := clsF_0 hc
  obtain ⟨l0, l1, lb, lp⟩ := clkF_0 k0
  refine ⟨medK l scale (wallF l scale m).1 l.length, by rw [mediaF, if_neg (by simp [hc]), if_neg (by simp [hw])], ?_, medK_len _ _ _ _, ?_⟩
  · obtain ⟨a1, a2, a3⟩ := medK_ok (sc := scale) (w := (wallF l scale m).1) lb lp l.length (Nat.le_refl _)
    refine spsF_of (by have := medK_len l scale (wallF l scale m).1 l.length; omega) (fun s hs => ?_) a1
    have h1 := a2 s hs
    have h2 := a1.1 s hs
    exact ⟨noTime_of (by omega) (by omega), noTime_of (by omega) (by omega)⟩
  · have bm := noTime_bd hm
    by_cases hmx : m = 1000000000000000
    · exact .inr hmx
    · left
      cases l with
      | nil => simp at l0
      | cons x r =>
        obtain ⟨k, hk, e1, e2, e3⟩ := lastA_idx (m := m) r x lp
        have e : lastA m x (x :: r) = (x :: r)[k] := by rw [lastA]; simpa using e1
        rw [List.getD_cons_zero, e] at he
        obtain ⟨n1, n2⟩ := anc_near lb hk ks hm (by omega) e2 e3
        rw [← he] at n1 n2
        exact medK_has lb lp n1 n2 _ hk (Nat.le_refl _)
theorem all_anc' (x : List AV) (h : HasAll [.int .i64, .int .i64] x) : ∃ s : Anc, x = s.av ∧ True := by
  obtain ⟨v0, r, rfl, h0, h⟩ := all_cons h
  obtain ⟨v1, r, rfl, h1, h⟩ := all_cons h
  obtain rfl := all_nil h
  obtain ⟨n0, rfl, _⟩ := has_int h0
  obtain ⟨n1, rfl, _⟩ := has_int h1
  exact ⟨⟨n0, n1⟩, rfl, trivial⟩
/-! headend/headendlaw1.TickClocksComeBack -/
def r10_0 : List POp := [⟨6, .asg (.c (.bool false)), none⟩]
def r10_1 : List POp := [⟨12, .mv (.t 0), none⟩,
  ⟨13, .mv (.t 1), none⟩,
  ⟨14, .mv (.t 2), none⟩,
  ⟨15, .call 25 [.t 12, .t 13, .t 14], none⟩,
  ⟨11, .mv (.t 15), none⟩,
  ⟨16, .ext 0 (.t 11), none⟩,
  ⟨17, .ext 1 (.t 11), none⟩,
  ⟨7, .mv (.t 16), none⟩,
  ⟨8, .mv (.t 17), none⟩]
def r10_2 : List POp := [⟨18, .mv (.t 8), none⟩,
  ⟨19, .bin .neq (.t 18) (.c (.int .i64 0)), none⟩]
def r10_3 : List POp := [⟨20, .mv (.t 7), none⟩,
  ⟨21, .bin .eql (.t 20) (.c (.int .i64 0)), none⟩,
  ⟨22, .mv (.t 21), none⟩,
  ⟨23, .call 14 [], some (22, true)⟩,
  ⟨24, .pick (.t 22) (.t 23) (.c (.bool false)), none⟩,
  ⟨6, .asg (.t 24), none⟩]
def r10_4 : List POp := [⟨26, .mv (.t 0), none⟩,
  ⟨27, .mv (.t 1), none⟩,
  ⟨28, .mv (.t 7), none⟩,
  ⟨29, .call 26 [.t 26, .t 27, .t 28], none⟩,
  ⟨25, .mv (.t 29), none⟩,
  ⟨30, .ext 0 (.t 25), none⟩,
  ⟨31, .ext 1 (.t 25), none⟩,
  ⟨9, .asg (.t 30), none⟩,
  ⟨8, .mv (.t 31), none⟩]
def r10_5 : List POp := [⟨32, .mv (.t 8), none⟩,
  ⟨33, .bin .neq (.t 32) (.c (.int .i64 0)), none⟩,
  ⟨34, .mv (.t 33), none⟩,
  ⟨35, .mv (.t 9), some (34, false)⟩,
  ⟨36, .len (.t 35), some (34, false)⟩,
  ⟨37, .mv (.t 0), some (34, false)⟩,
  ⟨38, .len (.t 37), some (34, false)⟩,
  ⟨39, .bin .gtr (.t 36) (.t 38), some (34, false)⟩,
  ⟨40, .pick (.t 34) (.c (.bool true)) (.t 39), none⟩,
  ⟨41, .mv (.t 40), none⟩,
  ⟨42, .mv (.t 9), some (41, false)⟩,
  ⟨43, .call 27 [.t 42], some (41, false)⟩,
  ⟨44, .bin .neq (.t 43) (.c (.int .i64 0)), some (41, false)⟩,
  ⟨45, .pick (.t 41) (.c (.bool true)) (.t 44), none⟩]
def r10_6 : List POp := [⟨6, .asg (.c (.bool false)), none⟩]
def r10_7 : List POp := [⟨10, .asg (.c (.int .i64 0)), none⟩]
def r10_8 : List POp := [⟨46, .mv (.t 10), none⟩,
  ⟨47, .mv (.t 9), none⟩,
  ⟨48, .len (.t 47), none⟩,
  ⟨49, .bin .lss (.t 46) (.t 48), none⟩]
def r10_10 : List POp := [⟨52, .mv (.t 9), none⟩,
  ⟨53, .mv (.t 10), none⟩,
  ⟨54, .idx 2 (.t 52) (.t 53), none⟩,
  ⟨55, .fld 0 (.t 54), none⟩,
  ⟨56, .load (.t 55), none⟩,
  ⟨57, .mv (.t 2), none⟩,
  ⟨58, .bin .leq (.t 56) (.t 57), none⟩,
  ⟨59, .mv (.t 58), none⟩,
  ⟨60, .mv (.t 2), some (59, true)⟩,
  ⟨61, .mv (.t 9), some (59, true)⟩,
  ⟨62, .mv (.t 10), some (59, true)⟩,
  ⟨63, .idx 2 (.t 61) (.t 62), some (59, true)⟩,
  ⟨64, .fld 1 (.t 63), some (59, true)⟩,
  ⟨65, .load (.t 64), some (59, true)⟩,
  ⟨66, .bin .lss (.t 60) (.t 65), some (59, true)⟩,
  ⟨67, .pick (.t 59) (.t 66) (.c (.bool false)), none⟩]
def r10_11 : List POp := [⟨68, .call 14 [], none⟩,
  ⟨6, .asg (.t 68), none⟩]
def r10_9 : List POp := [⟨50, .mv (.t 10), none⟩,
  ⟨51, .bin .add (.t 50) (.c (.int .i64 1)), none⟩,
  ⟨10, .asg (.t 51), none⟩]
def r10_12 : List POp := [⟨69, .mv (.t 2), none⟩,
  ⟨70, .bin .eql (.t 69) (.c (.int .i64 1000000000000000)), none⟩,
  ⟨71, .mv (.t 70), none⟩,
  ⟨72, .call 14 [], some (71, true)⟩,
  ⟨73, .pick (.t 71) (.t 72) (.c (.bool false)), none⟩,
  ⟨6, .asg (.t 73), none⟩]
def l10_0 : PCode := .seq (.seq (.ops r10_8) (.cond (.t 49) (.skip) (.exit 0))) (.seq (.block 1 (.seq (.ops r10_10) (.cond (.t 67) (.seq (.ops r10_11) (.ret)) (.skip)))) (.ops r10_9))
def p10 : PCode := .seq (.ops r10_0) (.seq (.ops r10_1) (.seq (.seq (.ops r10_2) (.cond (.t 19) (.seq (.ops r10_3) (.ret)) (.skip))) (.seq (.ops r10_4) (.seq (.seq (.ops r10_5) (.cond (.t 45) (.seq (.ops r10_6) (.ret)) (.skip))) (.seq (.seq (.ops r10_7) (.block 0 (.loop l10_0))) (.seq (.ops r10_12) (.ret)))))))
theorem ok10 : okFunc Try.prog 10 [.t 6] 3 p10 = true := by kernel_rfl
theorem clkback_d (l : List Anc) (scale m : Int) (hl0 : l.length ≤ 9223372036854775807) : CallOK Try.prog 10 [.ro (l.map Anc.av), .val (.int .i64 scale), .val (.int .i64 m)] (.val (.bool true)) := by
  refine call_of mixed ok10 rfl ?_
  have hw := wall_c l scale m hl0
  by_cases h0 : (wallF l scale m).2 = 0
  · obtain ⟨s, hs, h1, h2, h3⟩ := clkback_p h0
    have hmd := media_c l scale (wallF l scale m).1 hl0
    rw [h0] at hw
    rw [hs] at hmd
    have hsp := spans_c s (by omega)
    rw [h1] at hsp
    have c1 : ¬ ((l.length : Int) < s.length) := by omega
    generalize (wallF l scale m).1 = W at *
    simp only at hmd
    repeat' first | (with_reducible refine condD (fun h => ?_) (fun h => ?_)) | (with_reducible refine condE (fun h => ?_) (fun h => ?_)) | (with_reducible refine condN (fun h => ?_) (fun h => ?_)) | (with_reducible refine condI (fun h => ?_) (fun h => ?_)) | (with_reducible refine condS (fun h => ?_) (fun h => ?_)) | (with_reducible refine guardD (by with_unfolding_all rfl) (fun h => ?_) (fun h => ?_)) | (with_reducible refine guardE (by with_unfolding_all rfl) (fun h => ?_) (fun h => ?_)) | (with_reducible refine guardN (by with_unfolding_all rfl) (fun h => ?_) (fun h => ?_)) | (with_reducible refine guardI (by with_unfolding_all rfl) (fun h => ?_) (fun h => ?_)) | (with_reducible refine guardS (by with_unfolding_all rfl) (fun h => ?_) (fun h => ?_)) | ((refine callG hw ?_)) | ((refine callG hmd ?_)) | ((refine callG hsp ?_)) | (with_reducible refine And.intro ?_ ?_; omega) | (simp only [done_eq, done_eq', donet_eq, donet_eq', fin_val, fin_tup, fin_agg, fin_ro, res_one, res_more, rv_t, rv_c, rv_l, AV.tup.injEq, AV.agg.injEq, AV.ro.injEq, List.cons.injEq, int_eq, bool_eq, Int.toNat_natCast, Int.reduceToNat, Int.toNat_zero, Int.toNat_one, Int.reduceLE, Int.reduceLT, Int.reduceBEq, Int.reduceBNe, beq_self_eq_true, bne_self_eq_false, decide_true, decide_false,  Int.reduceNeg, toNat_pred, toNat_succ, List.length_map, cnd_t, cnd_f, grd_tt, grd_u, grd_tf, grd_ft, grd_ff, g_skip, g_ops, g_seq, g_block, g_exit, g_ret, x_c, x_o, x_l, x_b, g_b, g_nil, r_all, o_nil, g_cond, o_guard, o_call, o_callm, o_callx, o_callv, lk, ef, o_mv, o_pick, o_bin, o_never, o_eqs, o_eqb, o_un, o_conv, o_load, o_loadr, o_idxr, o_loads, o_fld, o_idx, o_idxs, o_len, o_lens, o_ext, o_nilck, o_slc, o_slcs, o_build, o_minmax, o_mkfn, o_alloc, o_box, o_boxs, o_row, o_rowr, o_mk, o_asg, o_app, o_store, o_stores, o_eqnil, hv, eqAV, ev, view_t, view_c, view_nil, view_fn, look_own, look_box, look_junk, look_val, look_nilsl, look_ro, look_roAt, look_agg, look_tup, look_clo, look_alias, look_ref, look_into, rowOf, cellsOf, argv, vbin, vun, bnd, elemOf, putParts, setAt, zav, ASt.rid, ASt.free, AV.kill, AV.isHome, AV.noLoan, AV.cellOK, Value.oneCell', put_at, mk_at, mk_nil, initSt, true_and, and_true, and_self, implies_true, List.map_cons, List.map_nil, List.forall_mem_cons, List.not_mem_nil, false_implies, List.length_cons, List.length_nil, List.getD_cons_zero, List.getD_cons_succ, List.getD_nil, List.drop_succ_cons, List.drop_zero, List.take_succ_cons, List.take_zero, List.set_cons_zero, List.set_cons_succ, List.all_cons, List.all_nil, Bool.and_true, Bool.true_and, Bool.not_true, Bool.not_false, reduceCtorEq, if_true, if_false, Bool.false_eq_true, ↓reduceIte, Nat.reduceEqDiff, Nat.reduceAdd, Nat.reduceSub, Nat.reduceMul, Nat.reduceLeDiff, Nat.reduceLT, ne_eq, not_false_eq_true, not_true_eq_false, Nat.one_ne_zero, Nat.zero_ne_one, r10_0, r10_1, r10_2, r10_3, r10_4, r10_5, r10_6, r10_7, r10_8, r10_10, r10_11, r10_9, r10_12, p10, c1]) | (exfalso; omega)
    refine loopS (fun k : Nat => mk [(2, .val (.int .i64 m)), (9, .ro (s.map Sp.av)), (10, .val (.int .i64 k))]) (fun k => k ≤ s.length ∧ hasB (s.take k) m = false) (fun k => s.length - k) 0 (weak_mk ?_) ⟨Nat.zero_le _, by simp [hasB]⟩ ?_
    · simp only [wk_cons, wk_nil, wk1, vint_eq, vbool_eq, AV.val.injEq, done_eq, done_eq', donet_eq, donet_eq', fin_val, fin_tup, fin_agg, fin_ro, res_one, res_more, rv_t, rv_c, rv_l, AV.tup.injEq, AV.agg.injEq, AV.ro.injEq, List.cons.injEq, int_eq, bool_eq, Int.toNat_natCast, Int.reduceToNat, Int.toNat_zero, Int.toNat_one, Int.reduceLE, Int.reduceLT, Int.reduceBEq, Int.reduceBNe, beq_self_eq_true, bne_self_eq_false, decide_true, decide_false,  Int.reduceNeg, toNat_pred, toNat_succ, List.length_map, cnd_t, cnd_f, grd_tt, grd_u, grd_tf, grd_ft, grd_ff, g_skip, g_ops, g_seq, g_block, g_exit, g_ret, x_c, x_o, x_l, x_b, g_b, g_nil, r_all, o_nil, g_cond, o_guard, o_call, o_callm, o_callx, o_callv, lk, ef, o_mv, o_pick, o_bin, o_never, o_eqs, o_eqb, o_un, o_conv, o_load, o_loadr, o_idxr, o_loads, o_fld, o_idx, o_idxs, o_len, o_lens, o_ext, o_nilck, o_slc, o_slcs, o_build, o_minmax, o_mkfn, o_alloc, o_box, o_boxs, o_row, o_rowr, o_mk, o_asg, o_app, o_store, o_stores, o_eqnil, hv, eqAV, ev, view_t, view_c, view_nil, view_fn, look_own, look_box, look_junk, look_val, look_nilsl, look_ro, look_roAt, look_agg, look_tup, look_clo, look_alias, look_ref, look_into, rowOf, cellsOf, argv, vbin, vun, bnd, elemOf, putParts, setAt, zav, ASt.rid, ASt.free, AV.kill, AV.isHome, AV.noLoan, AV.cellOK, Value.oneCell', put_at, mk_at, mk_nil, initSt, true_and, and_true, and_self, implies_true, List.map_cons, List.map_nil, List.forall_mem_cons, List.not_mem_nil, false_implies, List.length_cons, List.length_nil, List.getD_cons_zero, List.getD_cons_succ, List.getD_nil, List.drop_succ_cons, List.drop_zero, List.take_succ_cons, List.take_zero, List.set_cons_zero, List.set_cons_succ, List.all_cons, List.all_nil, Bool.and_true, Bool.true_and, Bool.not_true, Bool.not_false, reduceCtorEq, if_true, if_false, Bool.false_eq_true, ↓reduceIte, Nat.reduceEqDiff, Nat.reduceAdd, Nat.reduceSub, Nat.reduceMul, Nat.reduceLeDiff, Nat.reduceLT, ne_eq, not_false_eq_true, not_true_eq_false, Nat.one_ne_zero, Nat.zero_ne_one]
      simp
    · rintro J hJ k ⟨hk, hg⟩
      simp only [done_eq, done_eq', donet_eq, donet_eq', fin_val, fin_tup, fin_agg, fin_ro, res_one, res_more, rv_t, rv_c, rv_l, AV.tup.injEq, AV.agg.injEq, AV.ro.injEq, List.cons.injEq, int_eq, bool_eq, Int.toNat_natCast, Int.reduceToNat, Int.toNat_zero, Int.toNat_one, Int.reduceLE, Int.reduceLT, Int.reduceBEq, Int.reduceBNe, beq_self_eq_true, bne_self_eq_false, decide_true, decide_false,  Int.reduceNeg, toNat_pred, toNat_succ, List.length_map, cnd_t, cnd_f, grd_tt, grd_u, grd_tf, grd_ft, grd_ff, g_skip, g_ops, g_seq, g_block, g_exit, g_ret, x_c, x_o, x_l, x_b, g_b, g_nil, r_all, o_nil, g_cond, o_guard, o_call, o_callm, o_callx, o_callv, lk, ef, o_mv, o_pick, o_bin, o_never, o_eqs, o_eqb, o_un, o_conv, o_load, o_loadr, o_idxr, o_loads, o_fld, o_idx, o_idxs, o_len, o_lens, o_ext, o_nilck, o_slc, o_slcs, o_build, o_minmax, o_mkfn, o_alloc, o_box, o_boxs, o_row, o_rowr, o_mk, o_asg, o_app, o_store, o_stores, o_eqnil, hv, eqAV, ev, view_t, view_c, view_nil, view_fn, look_own, look_box, look_junk, look_val, look_nilsl, look_ro, look_roAt, look_agg, look_tup, look_clo, look_alias, look_ref, look_into, rowOf, cellsOf, argv, vbin, vun, bnd, elemOf, putParts, setAt, zav, ASt.rid, ASt.free, AV.kill, AV.isHome, AV.noLoan, AV.cellOK, Value.oneCell', put_at, mk_at, mk_nil, initSt, true_and, and_true, and_self, implies_true, List.map_cons, List.map_nil, List.forall_mem_cons, List.not_mem_nil, false_implies, List.length_cons, List.length_nil, List.getD_cons_zero, List.getD_cons_succ, List.getD_nil, List.drop_succ_cons, List.drop_zero, List.take_succ_cons, List.take_zero, List.set_cons_zero, List.set_cons_succ, List.all_cons, List.all_nil, Bool.and_true, Bool.true_and, Bool.not_true, Bool.not_false, reduceCtorEq, if_true, if_false, Bool.false_eq_true, ↓reduceIte, Nat.reduceEqDiff, Nat.reduceAdd, Nat.reduceSub, Nat.reduceMul, Nat.reduceLeDiff, Nat.reduceLT, ne_eq, not_false_eq_true, not_true_eq_false, Nat.one_ne_zero, Nat.zero_ne_one, r10_0, r10_1, r10_2, r10_3, r10_4, r10_5, r10_6, r10_7, r10_8, r10_10, r10_11, r10_9, r10_12, p10, l10_0]
      refine condD (fun h => ?_) (fun h => ?_)
      · have hlt : k < s.length := by omega
        have hw' := i_add1 k (by omega)
        have e : hasB (s.take (k + 1)) m = Sp.has s[k] m := by rw [List.take_succ_eq_append_getElem hlt, hasB_app, hg]; simp [hasB]
        by_cases hq : Sp.has s[k] m = true
        · obtain ⟨q1, q2⟩ := sp_has.1 hq
          repeat' first | (with_reducible refine condD (fun h => ?_) (fun h => ?_)) | (with_reducible refine condE (fun h => ?_) (fun h => ?_)) | (with_reducible refine condN (fun h => ?_) (fun h => ?_)) | (with_reducible refine condI (fun h => ?_) (fun h => ?_)) | (with_reducible refine condS (fun h => ?_) (fun h => ?_)) | (with_reducible refine guardD (by with_unfolding_all rfl) (fun h => ?_) (fun h => ?_)) | (with_reducible refine guardE (by with_unfolding_all rfl) (fun h => ?_) (fun h => ?_)) | (with_reducible refine guardN (by with_unfolding_all rfl) (fun h => ?_) (fun h => ?_)) | (with_reducible refine guardI (by with_unfolding_all rfl) (fun h => ?_) (fun h => ?_)) | (with_reducible refine guardS (by with_unfolding_all rfl) (fun h => ?_) (fun h => ?_)) | ((refine callG awake1_c ?_)) | (with_reducible refine And.intro ?_ ?_; omega) | (simp only [done_eq, done_eq', donet_eq, donet_eq', fin_val, fin_tup, fin_agg, fin_ro, res_one, res_more, rv_t, rv_c, rv_l, AV.tup.injEq, AV.agg.injEq, AV.ro.injEq, List.cons.injEq, int_eq, bool_eq, Int.toNat_natCast, Int.reduceToNat, Int.toNat_zero, Int.toNat_one, Int.reduceLE, Int.reduceLT, Int.reduceBEq, Int.reduceBNe, beq_self_eq_true, bne_self_eq_false, decide_true, decide_false,  Int.reduceNeg, toNat_pred, toNat_succ, List.length_map, cnd_t, cnd_f, grd_tt, grd_u, grd_tf, grd_ft, grd_ff, g_skip, g_ops, g_seq, g_block, g_exit, g_ret, x_c, x_o, x_l, x_b, g_b, g_nil, r_all, o_nil, g_cond, o_guard, o_call, o_callm, o_callx, o_callv, lk, ef, o_mv, o_pick, o_bin, o_never, o_eqs, o_eqb, o_un, o_conv, o_load, o_loadr, o_idxr, o_loads, o_fld, o_idx, o_idxs, o_len, o_lens, o_ext, o_nilck, o_slc, o_slcs, o_build, o_minmax, o_mkfn, o_alloc, o_box, o_boxs, o_row, o_rowr, o_mk, o_asg, o_app, o_store, o_stores, o_eqnil, hv, eqAV, ev, view_t, view_c, view_nil, view_fn, look_own, look_box, look_junk, look_val, look_nilsl, look_ro, look_roAt, look_agg, look_tup, look_clo, look_alias, look_ref, look_into, rowOf, cellsOf, argv, vbin, vun, bnd, elemOf, putParts, setAt, zav, ASt.rid, ASt.free, AV.kill, AV.isHome, AV.noLoan, AV.cellOK, Value.oneCell', put_at, mk_at, mk_nil, initSt, true_and, and_true, and_self, implies_true, List.map_cons, List.map_nil, List.forall_mem_cons, List.not_mem_nil, false_implies, List.length_cons, List.length_nil, List.getD_cons_zero, List.getD_cons_succ, List.getD_nil, List.drop_succ_cons, List.drop_zero, List.take_succ_cons, List.take_zero, List.set_cons_zero, List.set_cons_succ, List.all_cons, List.all_nil, Bool.and_true, Bool.true_and, Bool.not_true, Bool.not_false, reduceCtorEq, if_true, if_false, Bool.false_eq_true, ↓reduceIte, Nat.reduceEqDiff, Nat.reduceAdd, Nat.reduceSub, Nat.reduceMul, Nat.reduceLeDiff, Nat.reduceLT, ne_eq, not_false_eq_true, not_true_eq_false, Nat.one_ne_zero, Nat.zero_ne_one, r10_0, r10_1, r10_2, r10_3, r10_4, r10_5, r10_6, r10_7, r10_8, r10_10, r10_11, r10_9, r10_12, p10, l10_0, Sp.av, getD_map hlt, q1, q2]) | (exfalso; omega)
        · have hq' : s[k].f ≤ m → ¬ m < s[k].t := fun a b => hq (sp_has.2 ⟨a, b⟩)
          rw [Bool.not_eq_true] at hq
          rw [hq] at e
          by_cases q1 : s[k].f ≤ m
          · have q2 := hq' q1
            repeat' first | (with_reducible refine condD (fun h => ?_) (fun h => ?_)) | (with_reducible refine condE (fun h => ?_) (fun h => ?_)) | (with_reducible refine condN (fun h => ?_) (fun h => ?_)) | (with_reducible refine condI (fun h => ?_) (fun h => ?_)) | (with_reducible refine condS (fun h => ?_) (fun h => ?_)) | (with_reducible refine guardD (by with_unfolding_all rfl) (fun h => ?_) (fun h => ?_)) | (with_reducible refine guardE (by with_unfolding_all rfl) (fun h => ?_) (fun h => ?_)) | (with_reducible refine guardN (by with_unfolding_all rfl) (fun h => ?_) (fun h => ?_)) | (with_reducible refine guardI (by with_unfolding_all rfl) (fun h => ?_) (fun h => ?_)) | (with_reducible refine guardS (by with_unfolding_all rfl) (fun h => ?_) (fun h => ?_)) | (with_reducible refine And.intro ?_ ?_; omega) | (simp only [done_eq, done_eq', donet_eq, donet_eq', fin_val, fin_tup, fin_agg, fin_ro, res_one, res_more, rv_t, rv_c, rv_l, AV.tup.injEq, AV.agg.injEq, AV.ro.injEq, List.cons.injEq, int_eq, bool_eq, Int.toNat_natCast, Int.reduceToNat, Int.toNat_zero, Int.toNat_one, Int.reduceLE, Int.reduceLT, Int.reduceBEq, Int.reduceBNe, beq_self_eq_true, bne_self_eq_false, decide_true, decide_false,  Int.reduceNeg, toNat_pred, toNat_succ, List.length_map, cnd_t, cnd_f, grd_tt, grd_u, grd_tf, grd_ft, grd_ff, g_skip, g_ops, g_seq, g_block, g_exit, g_ret, x_c, x_o, x_l, x_b, g_b, g_nil, r_all, o_nil, g_cond, o_guard, o_call, o_callm, o_callx, o_callv, lk, ef, o_mv, o_pick, o_bin, o_never, o_eqs, o_eqb, o_un, o_conv, o_load, o_loadr, o_idxr, o_loads, o_fld, o_idx, o_idxs, o_len, o_lens, o_ext, o_nilck, o_slc, o_slcs, o_build, o_minmax, o_mkfn, o_alloc, o_box, o_boxs, o_row, o_rowr, o_mk, o_asg, o_app, o_store, o_stores, o_eqnil, hv, eqAV, ev, view_t, view_c, view_nil, view_fn, look_own, look_box, look_junk, look_val, look_nilsl, look_ro, look_roAt, look_agg, look_tup, look_clo, look_alias, look_ref, look_into, rowOf, cellsOf, argv, vbin, vun, bnd, elemOf, putParts, setAt, zav, ASt.rid, ASt.free, AV.kill, AV.isHome, AV.noLoan, AV.cellOK, Value.oneCell', put_at, mk_at, mk_nil, initSt, true_and, and_true, and_self, implies_true, List.map_cons, List.map_nil, List.forall_mem_cons, List.not_mem_nil, false_implies, List.length_cons, List.length_nil, List.getD_cons_zero, List.getD_cons_succ, List.getD_nil, List.drop_succ_cons, List.drop_zero, List.take_succ_cons, List.take_zero, List.set_cons_zero, List.set_cons_succ, List.all_cons, List.all_nil, Bool.and_true, Bool.true_and, Bool.not_true, Bool.not_false, reduceCtorEq, if_true, if_false, Bool.false_eq_true, ↓reduceIte, Nat.reduceEqDiff, Nat.reduceAdd, Nat.reduceSub, Nat.reduceMul, Nat.reduceLeDiff, Nat.reduceLT, ne_eq, not_false_eq_true, not_true_eq_false, Nat.one_ne_zero, Nat.zero_ne_one, r10_0, r10_1, r10_2, r10_3, r10_4, r10_5, r10_6, r10_7, r10_8, r10_10, r10_11, r10_9, r10_12, p10, l10_0, Sp.av, getD_map hlt, q1, q2]) | (exfalso; omega)
            all_goals exact again hJ (k + 1) (weak_mk (by simp only [wk_cons, wk_nil, wk1, vint_eq, vbool_eq, AV.val.injEq, done_eq, done_eq', donet_eq, donet_eq', fin_val, fin_tup, fin_agg, fin_ro, res_one, res_more, rv_t, rv_c, rv_l, AV.tup.injEq, AV.agg.injEq, AV.ro.injEq, List.cons.injEq, int_eq, bool_eq, Int.toNat_natCast, Int.reduceToNat, Int.toNat_zero, Int.toNat_one, Int.reduceLE, Int.reduceLT, Int.reduceBEq, Int.reduceBNe, beq_self_eq_true, bne_self_eq_false, decide_true, decide_false,  Int.reduceNeg, toNat_pred, toNat_succ, List.length_map, cnd_t, cnd_f, grd_tt, grd_u, grd_tf, grd_ft, grd_ff, g_skip, g_ops, g_seq, g_block, g_exit, g_ret, x_c, x_o, x_l, x_b, g_b, g_nil, r_all, o_nil, g_cond, o_guard, o_call, o_callm, o_callx, o_callv, lk, ef, o_mv, o_pick, o_bin, o_never, o_eqs, o_eqb, o_un, o_conv, o_load, o_loadr, o_idxr, o_loads, o_fld, o_idx, o_idxs, o_len, o_lens, o_ext, o_nilck, o_slc, o_slcs, o_build, o_minmax, o_mkfn, o_alloc, o_box, o_boxs, o_row, o_rowr, o_mk, o_asg, o_app, o_store, o_stores, o_eqnil, hv, eqAV, ev, view_t, view_c, view_nil, view_fn, look_own, look_box, look_junk, look_val, look_nilsl, look_ro, look_roAt, look_agg, look_tup, look_clo, look_alias, look_ref, look_into, rowOf, cellsOf, argv, vbin, vun, bnd, elemOf, putParts, setAt, zav, ASt.rid, ASt.free, AV.kill, AV.isHome, AV.noLoan, AV.cellOK, Value.oneCell', put_at, mk_at, mk_nil, initSt, true_and, and_true, and_self, implies_true, List.map_cons, List.map_nil, List.forall_mem_cons, List.not_mem_nil, false_implies, List.length_cons, List.length_nil, List.getD_cons_zero, List.getD_cons_succ, List.getD_nil, List.drop_succ_cons, List.drop_zero, List.take_succ_cons, List.take_zero, List.set_cons_zero, List.set_cons_succ, List.all_cons, List.all_nil, Bool.and_true, Bool.true_and, Bool.not_true, Bool.not_false, reduceCtorEq, if_true, if_false, Bool.false_eq_true, ↓reduceIte, Nat.reduceEqDiff, Nat.reduceAdd, Nat.reduceSub, Nat.reduceMul, Nat.reduceLeDiff, Nat.reduceLT, ne_eq, not_false_eq_true, not_true_eq_false, Nat.one_ne_zero, Nat.zero_ne_one]; exact hw')) ⟨by omega, e⟩ (by omega)
          · repeat' first | (with_reducible refine condD (fun h => ?_) (fun h => ?_)) | (with_reducible refine condE (fun h => ?_) (fun h => ?_)) | (with_reducible refine condN (fun h => ?_) (fun h => ?_)) | (with_reducible refine condI (fun h => ?_) (fun h => ?_)) | (with_reducible refine condS (fun h => ?_) (fun h => ?_)) | (with_reducible refine guardD (by with_unfolding_all rfl) (fun h => ?_) (fun h => ?_)) | (with_reducible refine guardE (by with_unfolding_all rfl) (fun h => ?_) (fun h => ?_)) | (with_reducible refine guardN (by with_unfolding_all rfl) (fun h => ?_) (fun h => ?_)) | (with_reducible refine guardI (by with_unfolding_all rfl) (fun h => ?_) (fun h => ?_)) | (with_reducible refine guardS (by with_unfolding_all rfl) (fun h => ?_) (fun h => ?_)) | (with_reducible refine And.intro ?_ ?_; omega) | (simp only [done_eq, done_eq', donet_eq, donet_eq', fin_val, fin_tup, fin_agg, fin_ro, res_one, res_more, rv_t, rv_c, rv_l, AV.tup.injEq, AV.agg.injEq, AV.ro.injEq, List.cons.injEq, int_eq, bool_eq, Int.toNat_natCast, Int.reduceToNat, Int.toNat_zero, Int.toNat_one, Int.reduceLE, Int.reduceLT, Int.reduceBEq, Int.reduceBNe, beq_self_eq_true, bne_self_eq_false, decide_true, decide_false,  Int.reduceNeg, toNat_pred, toNat_succ, List.length_map, cnd_t, cnd_f, grd_tt, grd_u, grd_tf, grd_ft, grd_ff, g_skip, g_ops, g_seq, g_block, g_exit, g_ret, x_c, x_o, x_l, x_b, g_b, g_nil, r_all, o_nil, g_cond, o_guard, o_call, o_callm, o_callx, o_callv, lk, ef, o_mv, o_pick, o_bin, o_never, o_eqs, o_eqb, o_un, o_conv, o_load, o_loadr, o_idxr, o_loads, o_fld, o_idx, o_idxs, o_len, o_lens, o_ext, o_nilck, o_slc, o_slcs, o_build, o_minmax, o_mkfn, o_alloc, o_box, o_boxs, o_row, o_rowr, o_mk, o_asg, o_app, o_store, o_stores, o_eqnil, hv, eqAV, ev, view_t, view_c, view_nil, view_fn, look_own, look_box, look_junk, look_val, look_nilsl, look_ro, look_roAt, look_agg, look_tup, look_clo, look_alias, look_ref, look_into, rowOf, cellsOf, argv, vbin, vun, bnd, elemOf, putParts, setAt, zav, ASt.rid, ASt.free, AV.kill, AV.isHome, AV.noLoan, AV.cellOK, Value.oneCell', put_at, mk_at, mk_nil, initSt, true_and, and_true, and_self, implies_true, List.map_cons, List.map_nil, List.forall_mem_cons, List.not_mem_nil, false_implies, List.length_cons, List.length_nil, List.getD_cons_zero, List.getD_cons_succ, List.getD_nil, List.drop_succ_cons, List.drop_zero, List.take_succ_cons, List.take_zero, List.set_cons_zero, List.set_cons_succ, List.all_cons, List.all_nil, Bool.and_true, Bool.true_and, Bool.not_true, Bool.not_false, reduceCtorEq, if_true, if_false, Bool.false_eq_true, ↓reduceIte, Nat.reduceEqDiff, Nat.reduceAdd, Nat.reduceSub, Nat.reduceMul, Nat.reduceLeDiff, Nat.reduceLT, ne_eq, not_false_eq_true, not_true_eq_false, Nat.one_ne_zero, Nat.zero_ne_one, r10_0, r10_1, r10_2, r10_3, r10_4, r10_5, r10_6, r10_7, r10_8, r10_10, r10_11, r10_9, r10_12, p10, l10_0, Sp.av, getD_map hlt, q1]) | (exfalso; omega)
            all_goals exact again hJ (k + 1) (weak_mk (by simp only [wk_cons, wk_nil, wk1, vint_eq, vbool_eq, AV.val.injEq, done_eq, done_eq', donet_eq, donet_eq', fin_val, fin_tup, fin_agg, fin_ro, res_one, res_more, rv_t, rv_c, rv_l, AV.tup.injEq, AV.agg.injEq, AV.ro.injEq, List.cons.injEq, int_eq, bool_eq, Int.toNat_natCast, Int.reduceToNat, Int.toNat_zero, Int.toNat_one, Int.reduceLE, Int.reduceLT, Int.reduceBEq, Int.reduceBNe, beq_self_eq_true, bne_self_eq_false, decide_true, decide_false,  Int.reduceNeg, toNat_pred, toNat_succ, List.length_map, cnd_t, cnd_f, grd_tt, grd_u, grd_tf, grd_ft, grd_ff, g_skip, g_ops, g_seq, g_block, g_exit, g_ret, x_c, x_o, x_l, x_b, g_b, g_nil, r_all, o_nil, g_cond, o_guard, o_call, o_callm, o_callx, o_callv, lk, ef, o_mv, o_pick, o_bin, o_never, o_eqs, o_eqb, o_un, o_conv, o_load, o_loadr, o_idxr, o_loads, o_fld, o_idx, o_idxs, o_len, o_lens, o_ext, o_nilck, o_slc, o_slcs, o_build, o_minmax, o_mkfn, o_alloc, o_box, o_boxs, o_row, o_rowr, o_mk, o_asg, o_app, o_store, o_stores, o_eqnil, hv, eqAV, ev, view_t, view_c, view_nil, view_fn, look_own, look_box, look_junk, look_val, look_nilsl, look_ro, look_roAt, look_agg, look_tup, look_clo, look_alias, look_ref, look_into, rowOf, cellsOf, argv, vbin, vun, bnd, elemOf, putParts, setAt, zav, ASt.rid, ASt.free, AV.kill, AV.isHome, AV.noLoan, AV.cellOK, Value.oneCell', put_at, mk_at, mk_nil, initSt, true_and, and_true, and_self, implies_true, List.map_cons, List.map_nil, List.forall_mem_cons, List.not_mem_nil, false_implies, List.length_cons, List.length_nil, List.getD_cons_zero, List.getD_cons_succ, List.getD_nil, List.drop_succ_cons, List.drop_zero, List.take_succ_cons, List.take_zero, List.set_cons_zero, List.set_cons_succ, List.all_cons, List.all_nil, Bool.and_true, Bool.true_and, Bool.not_true, Bool.not_false, reduceCtorEq, if_true, if_false, Bool.false_eq_true, ↓reduceIte, Nat.reduceEqDiff, Nat.reduceAdd, Nat.reduceSub, Nat.reduceMul, Nat.reduceLeDiff, Nat.reduceLT, ne_eq, not_false_eq_true, not_true_eq_false, Nat.one_ne_zero, Nat.zero_ne_one]; exact hw')) ⟨by omega, e⟩ (by omega)
      · have hke : k = s.length := by omega
        subst hke
        rw [List.take_length] at hg
        have hm : m = 1000000000000000 := by
          rcases h3 with h3 | h3
          · rw [hg] at h3; cases h3
          · exact h3
        subst hm
        clear hJ
        repeat' first | (with_reducible refine condD (fun h => ?_) (fun h => ?_)) | (with_reducible refine condE (fun h => ?_) (fun h => ?_)) | (with_reducible refine condN (fun h => ?_) (fun h => ?_)) | (with_reducible refine condI (fun h => ?_) (fun h => ?_)) | (with_reducible refine condS (fun h => ?_) (fun h => ?_)) | (with_reducible refine guardD (by with_unfolding_all rfl) (fun h => ?_) (fun h => ?_)) | (with_reducible refine guardE (by with_unfolding_all rfl) (fun h => ?_) (fun h => ?_)) | (with_reducible refine guardN (by with_unfolding_all rfl) (fun h => ?_) (fun h => ?_)) | (with_reducible refine guardI (by with_unfolding_all rfl) (fun h => ?_) (fun h => ?_)) | (with_reducible refine guardS (by with_unfolding_all rfl) (fun h => ?_) (fun h => ?_)) | ((refine callG awake1_c ?_)) | (with_reducible refine And.intro ?_ ?_; omega) | (simp only [done_eq, done_eq', donet_eq, donet_eq', fin_val, fin_tup, fin_agg, fin_ro, res_one, res_more, rv_t, rv_c, rv_l, AV.tup.injEq, AV.agg.injEq, AV.ro.injEq, List.cons.injEq, int_eq, bool_eq, Int.toNat_natCast, Int.reduceToNat, Int.toNat_zero, Int.toNat_one, Int.reduceLE, Int.reduceLT, Int.reduceBEq, Int.reduceBNe, beq_self_eq_true, bne_self_eq_false, decide_true, decide_false,  Int.reduceNeg, toNat_pred, toNat_succ, List.length_map, cnd_t, cnd_f, grd_tt, grd_u, grd_tf, grd_ft, grd_ff, g_skip, g_ops, g_seq, g_block, g_exit, g_ret, x_c, x_o, x_l, x_b, g_b, g_nil, r_all, o_nil, g_cond, o_guard, o_call, o_callm, o_callx, o_callv, lk, ef, o_mv, o_pick, o_bin, o_never, o_eqs, o_eqb, o_un, o_conv, o_load, o_loadr, o_idxr, o_loads, o_fld, o_idx, o_idxs, o_len, o_lens, o_ext, o_nilck, o_slc, o_slcs, o_build, o_minmax, o_mkfn, o_alloc, o_box, o_boxs, o_row, o_rowr, o_mk, o_asg, o_app, o_store, o_stores, o_eqnil, hv, eqAV, ev, view_t, view_c, view_nil, view_fn, look_own, look_box, look_junk, look_val, look_nilsl, look_ro, look_roAt, look_agg, look_tup, look_clo, look_alias, look_ref, look_into, rowOf, cellsOf, argv, vbin, vun, bnd, elemOf, putParts, setAt, zav, ASt.rid, ASt.free, AV.kill, AV.isHome, AV.noLoan, AV.cellOK, Value.oneCell', put_at, mk_at, mk_nil, initSt, true_and, and_true, and_self, implies_true, List.map_cons, List.map_nil, List.forall_mem_cons, List.not_mem_nil, false_implies, List.length_cons, List.length_nil, List.getD_cons_zero, List.getD_cons_succ, List.getD_nil, List.drop_succ_cons, List.drop_zero, List.take_succ_cons, List.take_zero, List.set_cons_zero, List.set_cons_succ, List.all_cons, List.all_nil, Bool.and_true, Bool.true_and, Bool.not_true, Bool.not_false, reduceCtorEq, if_true, if_false, Bool.false_eq_true, ↓reduceIte, Nat.reduceEqDiff, Nat.reduceAdd, Nat.reduceSub, Nat.reduceMul, Nat.reduceLeDiff, Nat.reduceLT, ne_eq, not_false_eq_true, not_true_eq_false, Nat.one_ne_zero, Nat.zero_ne_one, r10_0, r10_1, r10_2, r10_3, r10_4, r10_5, r10_6, r10_7, r10_8, r10_10, r10_11, r10_9, r10_12, p10, l10_0]) | (exfalso; omega)
  · rw [wallF_no' h0] at hw
    generalize (wallF l scale m).2 = e at *
    repeat' first | (with_reducible refine condD (fun h => ?_) (fun h => ?_)) | (with_reducible refine condE (fun h => ?_) (fun h => ?_)) | (with_reducible refine condN (fun h => ?_) (fun h => ?_)) | (with_reducible refine condI (fun h => ?_) (fun h => ?_)) | (with_reducible refine condS (fun h => ?_) (fun h => ?_)) | (with_reducible refine guardD (by with_unfolding_all rfl) (fun h => ?_) (fun h => ?_)) | (with_reducible refine guardE (by with_unfolding_all rfl) (fun h => ?_) (fun h => ?_)) | (with_reducible refine guardN (by with_unfolding_all rfl) (fun h => ?_) (fun h => ?_)) | (with_reducible refine guardI (by with_unfolding_all rfl) (fun h => ?_) (fun h => ?_)) | (with_reducible refine guardS (by with_unfolding_all rfl) (fun h => ?_) (fun h => ?_)) | ((refine callG hw ?_)) | ((refine callG awake1_c ?_)) | (with_reducible refine And.intro ?_ ?_; omega) | (simp only [done_eq, done_eq', donet_eq, donet_eq', fin_val, fin_tup, fin_agg, fin_ro, res_one, res_more, rv_t, rv_c, rv_l, AV.tup.injEq, AV.agg.injEq, AV.ro.injEq, List.cons.injEq, int_eq, bool_eq, Int.toNat_natCast, Int.reduceToNat, Int.toNat_zero, Int.toNat_one, Int.reduceLE, Int.reduceLT, Int.reduceBEq, Int.reduceBNe, beq_self_eq_true, bne_self_eq_false, decide_true, decide_false,  Int.reduceNeg, toNat_pred, toNat_succ, List.length_map, cnd_t, cnd_f, grd_tt, grd_u, grd_tf, grd_ft, grd_ff, g_skip, g_ops, g_seq, g_block, g_exit, g_ret, x_c, x_o, x_l, x_b, g_b, g_nil, r_all, o_nil, g_cond, o_guard, o_call, o_callm, o_callx, o_callv, lk, ef, o_mv, o_pick, o_bin, o_never, o_eqs, o_eqb, o_un, o_conv, o_load, o_loadr, o_idxr, o_loads, o_fld, o_idx, o_idxs, o_len, o_lens, o_ext, o_nilck, o_slc, o_slcs, o_build, o_minmax, o_mkfn, o_alloc, o_box, o_boxs, o_row, o_rowr, o_mk, o_asg, o_app, o_store, o_stores, o_eqnil, hv, eqAV, ev, view_t, view_c, view_nil, view_fn, look_own, look_box, look_junk, look_val, look_nilsl, look_ro, look_roAt, look_agg, look_tup, look_clo, look_alias, look_ref, look_into, rowOf, cellsOf, argv, vbin, vun, bnd, elemOf, putParts, setAt, zav, ASt.rid, ASt.free, AV.kill, AV.isHome, AV.noLoan, AV.cellOK, Value.oneCell', put_at, mk_at, mk_nil, initSt, true_and, and_true, and_self, implies_true, List.map_cons, List.map_nil, List.forall_mem_cons, List.not_mem_nil, false_implies, List.length_cons, List.length_nil, List.getD_cons_zero, List.getD_cons_succ, List.getD_nil, List.drop_succ_cons, List.drop_zero, List.take_succ_cons, List.take_zero, List.set_cons_zero, List.set_cons_succ, List.all_cons, List.all_nil, Bool.and_true, Bool.true_and, Bool.not_true, Bool.not_false, reduceCtorEq, if_true, if_false, Bool.false_eq_true, ↓reduceIte, Nat.reduceEqDiff, Nat.reduceAdd, Nat.reduceSub, Nat.reduceMul, Nat.reduceLeDiff, Nat.reduceLT, ne_eq, not_false_eq_true, not_true_eq_false, Nat.one_ne_zero, Nat.zero_ne_one, r10_0, r10_1, r10_2, r10_3, r10_4, r10_5, r10_6, r10_7, r10_8, r10_10, r10_11, r10_9, r10_12, p10, beq0_f h0, bne0_t h0]) | (exfalso; omega)
theorem clkback_c : ∀ avs, HasArgs [.one (.row [.int .i64, .int .i64]), .one (.int .i64), .one (.int .i64)] avs → CallOK Try.prog 10 avs (.val (.bool true)) := by
  intro avs h
  obtain ⟨v0, r, rfl, h0, h⟩ := args_cons h
  obtain ⟨v1, r, rfl, h1, h⟩ := args_cons h
  obtain ⟨v2, r, rfl, h2, h⟩ := args_cons h
  obtain rfl := args_nil h
  obtain ⟨n0, rfl, hl0, hb0⟩ := has_row h0 all_anc'
  obtain ⟨n1, rfl, hb1⟩ := has_int h1
  obtain ⟨n2, rfl, hb2⟩ := has_int h2
  exact clkback_d n0 n1 n2 (by unfold maxLen at hl0; omega)

/-! ### The row -/
open Go.ChangeShapes Go.WideShapes Go.ChangeAt
set_option maxRecDepth 100000 in
theorem clkback_lifted (os : Os) (started : os.Started) (H : Type) (enc : TypeId × Value → H) :
    ReturnsInHanded {} Try.checked os 10 .any (Rows.tickClocksComeBackSpec.pre6 enc Try.prog Try.f10 Rows.tickClocksComeBackRow.domain false) (Rows.tickClocksComeBackSpec.post enc Try.prog Try.f10 false true false false) := by
  refine returnsInHanded_of_change (C := Try.checked) own_knob started (by kernel_rfl) Try.func10
    (ChangeSpec.witness6 (enc := enc) (C := Try.checked) false ⟨#[], #[.slice none 0 0, .int .i64 0, .int .i64 0], []⟩ 8 (by kernel_rfl) (by kernel_rfl) (by kernel_rfl) (by kernel_rfl)) ?_
  intro W base args ds gs before hval hW _ _
  refine law_step rfl (by kernel_rfl) (fun ds h => ?_) ?_ hval hW ?_
  · match ds, h with | [a, b, c], _ => exact ⟨rfl, rfl, rfl⟩
  · rw [Try.params10]
    intro t ht
    simp only [List.mem_cons, List.not_mem_nil, or_false] at ht
    repeat' (first | (rcases ht with rfl | ht) | subst ht)
    all_goals exact ⟨by kernel_rfl, of_decide_eq_true (by kernel_rfl)⟩
  · rw [Try.params10]
    intro hin
    exact law_dm (ss := [.one (.row [.int .i64, .int .i64]), .one (.int .i64), .one (.int .i64)]) (by kernel_rfl) hin clkback_c

theorem clkback_holds : Rows.TickClocksComeBackSaid :=
  OpenClaim.holds_of_wide 10 Try.f10 rfl rfl rfl rfl rfl rfl rfl ⟨rfl, rfl, rfl, rfl, rfl⟩ rfl rfl rfl rfl rfl (by kernel_rfl) Try.func10 (by kernel_rfl)
    (of_decide_eq_true (by kernel_rfl)) (by unfold Func.isWrapper; first | (rw [if_pos (by decide +kernel)]; kernel_rfl) | (rw [if_neg (by decide +kernel)]; exact ⟨rfl, rfl⟩))
    (fun os started H enc _ => clkback_lifted os started H enc)

end Go.Proofs.Ytlpbnpmmndcleaa
