/- TopCommonCutsAreSeekable: the plain law (under way). -/
import Derived.Test.YtjeemcpdmiajmaaCommonSeek
namespace Go.Proofs.Ytjeemcpdmiajmaa
open Go.RowKit
set_option linter.unusedSimpArgs false

theorem allGo_get {sc first : Int} {B : List Int} : ∀ {ts : List Str} {acc : List (List Seg)}, (allGo sc B first ts acc).2 = 0 → (allGo sc B first ts acc).1 = acc ++ ts.map (fun s => (segF s sc B first).1) ∧ ∀ s ∈ ts, (segF s sc B first).2 = 0
  | [], acc, _ => by simp [allGo]
  | s :: t, acc, h => by
    rw [allGo] at h ⊢
    split at h
    · rename_i h1; exact absurd h h1
    · rename_i h1
      rw [if_neg h1]
      obtain ⟨e1, e2⟩ := allGo_get h
      refine ⟨by rw [e1]; simp, fun x hx => ?_⟩
      rcases List.mem_cons.1 hx with rfl | hx
      · simpa using h1
      · exact e2 x hx
theorem segF_ok {r : Str} {sc first : Int} {B : List Int} (h : (segF r sc B first).2 = 0) : noScale sc = false ∧ rise B = 0 ∧ (fstGo r sc B [] []).2.2 = 0 ∧ ¬ segLen r ((fstGo r sc B [] []).1.map Int.toNat) (fstGo r sc B [] []).2.1 (B.length - 1) < 0 ∧ (segF r sc B first).1 = segsL r first ((fstGo r sc B [] []).1.map Int.toNat) (fstGo r sc B [] []).2.1 := by
  unfold segF at h ⊢
  split at h
  · cases h
  rename_i h1
  split at h
  · rename_i h2; exact absurd h h2
  rename_i h2
  split at h
  · cases h
  rename_i h3
  split at h
  · rename_i h4; exact absurd h h4
  rename_i h4
  split at h
  · cases h
  rename_i h5
  split at h
  · cases h
  rename_i h6
  rw [if_neg h1, if_neg h2, if_neg h3, if_neg h4, if_neg h5, if_neg h6]
  exact ⟨by simpa using h1, by simpa using h2, by simpa using h4, h6, rfl⟩
theorem segF_len {r : Str} {sc first : Int} {B : List Int} (hr : StrOK r) : (segF r sc B first).1.length ≤ 1000 := by
  by_cases h : (segF r sc B first).2 = 0
  · obtain ⟨h1, h2, h3, _, h5⟩ := segF_ok h
    obtain ⟨F, x1, x2, _⟩ := fr_ok hr h1 h2 h3
    have := (rise_0 h2).2.1
    rw [h5, segsL, List.length_map, List.length_range, List.length_map, x1, List.length_map]
    omega
  · have : (segF r sc B first).1 = [] := by
      unfold segF at h ⊢
      split
      · rfl
      split
      · rfl
      split
      · rfl
      split
      · rfl
      split
      · rfl
      split
      · rfl
      rename_i h1 h2 h3 h4 h5 h6
      rw [if_neg h1, if_neg h2, if_neg h3, if_neg h4, if_neg h5, if_neg h6] at h
      exact absurd rfl h
    rw [this]; simp
theorem sclA_exact {neg : Bool} {m p : Nat} (hp : 0 < p) (hm : m ≤ 2000000000000000) : sclA 1 neg (m * p) p = m := by
  unfold sclA
  have h1 : ¬ 18446744073709551616 * p ≤ m * p := fun h => by
    have := Nat.le_of_mul_le_mul_right h hp
    omega
  rw [if_neg h1, Nat.mul_mod_left, Nat.mul_div_cancel _ hp]
  have h2 : ¬ rndB 1 neg 0 p = true := by simp [rndB]
  rw [if_neg h2]
  omega
/-- The cut at a place of the rendition's own is exact. -/
theorem scl_exact {b p : Nat} {n t : Int} (hp : 0 < p) (hb : 0 < b) (h : t * p = n * b) (ht : -2000000000000000 ≤ t ∧ t ≤ 2000000000000000) : scl n b p 1 = t := by
  have ha : n.natAbs * b = t.natAbs * p := by
    have := congrArg Int.natAbs h
    rw [Int.natAbs_mul, Int.natAbs_mul, Int.natAbs_natCast, Int.natAbs_natCast] at this
    exact this.symm
  have hpi : (0 : Int) < p := by omega
  have hbi : (0 : Int) < b := by omega
  unfold scl
  rw [ha, sclA_exact hp (by omega)]
  split
  · rename_i hn
    have h1 : t * p < 0 := by rw [h]; exact Int.mul_neg_of_neg_of_pos hn hbi
    have : t < 0 := by
      refine Int.not_le.1 fun q => ?_
      have := Int.mul_nonneg q (Int.le_of_lt hpi)
      omega
    omega
  · rename_i hn
    have h1 : 0 ≤ t * p := by rw [h]; exact Int.mul_nonneg (Int.not_lt.1 hn) (Int.le_of_lt hbi)
    have : 0 ≤ t := by
      refine Int.not_lt.1 fun q => ?_
      have := Int.mul_neg_of_neg_of_pos q hpi
      omega
    omega
theorem fstGo_cu {r : Str} {sc : Int} : ∀ {B fr cu fr' cu' : List Int}, fstGo r sc B fr cu = (fr', cu', 0) → cu' = cu ++ B.map (cutOf r sc)
  | [], fr, cu, fr', cu', h => by
    simp only [fstGo, Prod.mk.injEq] at h
    simp [h.2.1]
  | b :: B, fr, cu, fr', cu', h => by
    rw [fstGo] at h
    split at h
    · simp at h
    split at h
    · rename_i h2
      simp only [Prod.mk.injEq] at h
      exact absurd h.2.2 h2
    rw [fstGo_cu h]
    simp
theorem cut_place {r : Str} {sc b : Int} (hr : StrOK r) (hsc : noScale sc = false) {p : Int × Nat} (hp : p ∈ placesL r.smps) (h : p.1 * sc = b * r.scale) : cutOf r sc b = p.1 := by
  have h1 := noScale_bd hsc
  obtain ⟨hs, _, h2, _⟩ := hr
  have e1 : ((sc.toNat : Nat) : Int) = sc := by omega
  have e2 : ((r.scale.toNat : Nat) : Int) = r.scale := by omega
  exact scl_exact (by omega) (by omega) (by rw [e1, e2]; exact h) (placesL_bd hs p hp)
/-- Where the segments of pictures begin. -/
theorem pic_at {r : Str} {sc : Int} {B : List Int} (hr : StrOK r) (hso : ¬ r.sound = true) (hsc : noScale sc = false) {fr cu : List Int} (h : fstGo r sc B [] [] = (fr, cu, 0)) :
    ∃ F : List Nat, fr = F.map (fun (a : Nat) => (a : Int)) ∧ F.length = B.length ∧ cu.length = B.length ∧ ∀ k (h1 : k < B.length) (h2 : k < F.length) (h3 : k < cu.length), F[k] < r.smps.length ∧ (grpAt r.smps F[k]).closed = true ∧ (grpAt r.smps F[k]).beg * sc = B[k] * r.scale ∧ cu[k] = (grpAt r.smps F[k]).beg := by
  obtain ⟨t, x1, x2, x3, x4⟩ := fstGo_pic hso h
  have hc := fstGo_cu h
  rw [List.nil_append] at hc x1
  subst hc
  refine ⟨t, x1, x3, by simp, fun k h1 h2 h3 => ?_⟩
  obtain ⟨p, hp, he, e⟩ := x4 k h1 h2
  have hcut := cut_place hr hsc hp he
  obtain ⟨f, hf, hc, rfl⟩ := placesL_mem hr.1 hp
  simp only at e he hcut
  rw [e]
  exact ⟨hf, hc, he, by rw [List.getElem_map]; exact hcut⟩
theorem endsL_get' {l : List Smp} {k : Nat} (h : k < l.length) : (endsL l)[k]'(by rw [endsL_len]; exact h) = (nextI (presL l) (l[k].time + l[k].shift)).getD (l[k].time + l[k].shift + l[k].step) := by
  simp [endsL, endOf]
/-- What has something presented behind it ends beyond its beginning. -/
theorem open_next {l : List Smp} {f g : Nat} (hf : f < l.length) (hg : g < l.length) (h : (presL l)[f]'(by rw [presL_len]; exact hf) < (presL l)[g]'(by rw [presL_len]; exact hg)) : (presL l)[f]'(by rw [presL_len]; exact hf) < (endsL l)[f]'(by rw [endsL_len]; exact hf) := by
  have hpf := pres_get hf
  have hef := endsL_get' hf
  rw [← hpf] at hef
  rcases nextI_is (presL l) ((presL l)[f]'(by rw [presL_len]; exact hf)) with ⟨e, h'⟩ | ⟨e, e1, _, h', _⟩
  · have := h' _ (List.getElem_mem (show g < (presL l).length by rw [presL_len]; exact hg))
    omega
  · rw [hef, e1, Option.getD_some]; exact h'
/-- What is needed from the beginning of a closed group on lies in the group or behind it. -/
theorem closed_hit {l : List Smp} {f i : Nat} (hs : smpF l = 0) (hfi : f ≤ i) (hi : i < l.length) (hc : (grpAt l f).closed = true) (hh : hitP (presL l) (endsL l) (grpAt l f).beg ((grpAt l f).beg + 1) i = true) (b1 : -1000000000000000 ≤ (grpAt l f).beg) (b2 : (grpAt l f).beg < 1000000000000000) :
    (needF l (grpAt l f).beg ((grpAt l f).beg + 1)).2 = 0 ∧ (f : Int) ≤ (needF l (grpAt l f).beg ((grpAt l f).beg + 1)).1.1 ∧ (needF l (grpAt l f).beg ((grpAt l f).beg + 1)).1.1 ≤ (i : Int) := by
  have hf : f < l.length := by omega
  have hPl := presL_len l
  have hEl := endsL_len l
  have hfp : f < (presL l).length := by omega
  obtain ⟨c1, c2⟩ := closed_beg hc
  have hkey : (l.getD f ⟨0, 0, 0, 0, false⟩).key = true := by
    simp only [grpAt, closedB, Bool.and_eq_true] at hc
    exact hc.1.1.1
  generalize (grpAt l f).beg = B at *
  rw [getD_at hfp] at c1
  have hn1 : noTime B = false := by simp [noTime, outB]; omega
  have hn2 : noTime (B + 1) = false := by simp [noTime, outB]; omega
  have hF : needF l B (B + 1) = needG l B (B + 1) := by
    unfold needF
    rw [if_neg (by simpa using hs), if_neg (by omega), if_neg (by simp [hn1, hn2])]
  rw [hF]
  unfold needG
  rcases flK_is (presL l) (endsL l) B (B + 1) l.length with ⟨_, h⟩ | ⟨g, t, hgt, r1, r2, r3, r4⟩
  · rw [h i hi] at hh; cases hh
  · have hle := (r4 i hi hh).1
    have hge : f ≤ g := by
      rcases Nat.lt_or_ge g f with hlt | hge
      · exfalso
        have hgl : g < l.length := by omega
        have hgp : g < (presL l).length := by omega
        have hL' : lastK (presL l) f < B := by
          rcases c2 with hL | hL
          · omega
          · exact hL
        have hpg := lastK_ge' hgp hlt
        have heg := endsL_get' hgl
        rw [← pres_get hgl] at heg
        rcases nextI_is (presL l) (presL l)[g] with ⟨e, h⟩ | ⟨e, e1, _, _, h⟩
        · have := h _ (List.getElem_mem hfp); omega
        · rw [e1, Option.getD_some] at heg
          have := h _ (List.getElem_mem hfp) (by omega)
          unfold hitP at r3
          rw [getD_at hgp, getD_at (show g < (endsL l).length by omega)] at r3
          simp only [decide_eq_true_eq] at r3
          split at r3 <;> split at r3 <;> omega
      · exact hge
    have hg0 : ¬ (g : Int) < 0 := by omega
    have h1 := backK_le l g
    have h2 := backK_ge l f (.inl hkey) g hge
    rw [hgt]
    simp only [hg0, if_false, Int.toNat_natCast]
    exact ⟨trivial, by omega, by omega⟩
theorem hit_one {P E : List Int} {m : Int} {k : Nat} (h1 : P.getD k 0 ≤ m) (h2 : m < E.getD k 0) : hitP P E m (m + 1) k = true := by
  unfold hitP
  rw [decide_eq_true_eq]
  split <;> split <;> omega
/-- What the law asks, of each segment of a rendition that was cut. -/
theorem segs_law {r : Str} {sc first : Int} {B : List Int} (hr : StrOK r) (h : (segF r sc B first).2 = 0) : ∀ s ∈ (segF r sc B first).1, segLaw r s := by
  obtain ⟨h1, h2, h3, h4, h5⟩ := segF_ok h
  rw [h5]
  intro s hs hso hz b1 b2
  obtain ⟨fr, cu, e⟩ : ∃ x y, fstGo r sc B [] [] = (x, y, 0) := ⟨_, _, Prod.ext rfl (Prod.ext rfl h3)⟩
  obtain ⟨F, x1, x2, x3, x4⟩ := pic_at hr (by simp [hso]) h1 e
  rw [e] at hs h4
  simp only at hs h4
  rw [x1, show (F.map (fun (a : Nat) => (a : Int))).map Int.toNat = F by
    rw [List.map_map]
    exact (List.map_congr_left (fun a _ => by simp)).trans (List.map_id F)] at hs h4
  unfold segsL at hs
  obtain ⟨k, hk, rfl⟩ := List.mem_map.1 hs
  rw [List.mem_range] at hk
  obtain ⟨y1, y2, y3, y4⟩ := x4 k (by omega) hk (by omega)
  obtain ⟨hs0, hn, hsc, _⟩ := hr
  have hPl := presL_len r.smps
  have hEl := endsL_len r.smps
  obtain ⟨c1, _⟩ := closed_beg y2
  have hfp : F[k] < (presL r.smps).length := by omega
  have hfe : F[k] < (endsL r.smps).length := by omega
  rw [getD_at hfp] at c1
  have hpb := pres_bd (smpF_0 hs0).2.1
  have heb := ends_bd (smpF_0 hs0).2.1
  simp only [segAt] at hz b1 b2 ⊢
  rw [getD_at hk, getD_at hfp, ← c1] at b1 b2 ⊢
  by_cases hl : k + 1 < F.length
  · obtain ⟨z1, z2, z3, z4⟩ := x4 (k + 1) (by omega) hl (by omega)
    have hlt := rise_at (rise_0 h2).2.2 k (by omega)
    have hm : B[k] * r.scale < B[k + 1] * r.scale := Int.mul_lt_mul_of_pos_right hlt (by omega)
    rw [← y3, ← z3] at hm
    have hbb := Int.lt_of_mul_lt_mul_right hm (by have := noScale_bd h1; omega)
    have hfg := closed_lt z1 y2 z2 hbb
    obtain ⟨d1, _⟩ := closed_beg z2
    rw [getD_at (show F[k + 1] < (presL r.smps).length by omega)] at d1
    have ho := open_next y1 z1 (by rw [← c1, ← d1]; exact hbb)
    obtain ⟨n1, n2, n3⟩ := closed_hit hs0 (Nat.le_refl _) y1 y2 (hit_one (by rw [getD_at hfp]; omega) (by rw [getD_at hfe]; omega)) b1 b2
    refine ⟨n1, n2, ?_⟩
    rw [segTo, if_pos hl, getD_at hl]
    omega
  · have hkl : B.length - 1 = k := by omega
    rw [hkl] at h4
    rw [segLen, if_neg hl, List.take_length, getD_at hk, getD_at (show k < cu.length by omega), y4] at hz h4
    rw [segTo, if_neg hl]
    have hne : (endsL r.smps).drop F[k] ≠ [] := by
      intro q
      have := congrArg List.length q
      rw [List.length_drop, List.length_nil] at this
      omega
    have hmx := (maxOf_is hne).1
    have hmb := heb _ (List.mem_of_mem_drop hmx)
    have hpf := hpb _ (List.getElem_mem hfp)
    generalize Go.Lib.maxOf ((endsL r.smps).drop F[k]) = M at *
    rw [wrap_in (by omega) (by omega)] at hz h4
    have hM : (grpAt r.smps F[k]).beg < M := by omega
    by_cases hex : ∃ g, ∃ hg : g < r.smps.length, (grpAt r.smps F[k]).beg < (presL r.smps)[g]'(by omega)
    · obtain ⟨g, hg, hlt⟩ := hex
      have ho := open_next y1 hg (by rw [← c1]; exact hlt)
      obtain ⟨n1, n2, n3⟩ := closed_hit hs0 (Nat.le_refl _) y1 y2 (hit_one (by rw [getD_at hfp]; omega) (by rw [getD_at hfe]; omega)) b1 b2
      exact ⟨n1, n2, by omega⟩
    · obtain ⟨i, hi, hie⟩ := List.getElem_of_mem hmx
      rw [List.length_drop] at hi
      rw [List.getElem_drop] at hie
      have hil : F[k] + i < r.smps.length := by omega
      have hip : (presL r.smps)[F[k] + i]'(by omega) ≤ (grpAt r.smps F[k]).beg := Int.not_lt.1 fun q => hex ⟨_, hil, q⟩
      obtain ⟨n1, n2, n3⟩ := closed_hit hs0 (Nat.le_add_right F[k] i) hil y2 (hit_one (by rw [getD_at (show F[k] + i < (presL r.smps).length by omega)]; exact hip) (by rw [getD_at (show F[k] + i < (endsL r.smps).length by omega), hie]; exact hM)) b1 b2
      exact ⟨n1, n2, by omega⟩
/-- The hypotheses of the law's function. -/
theorem allF_yes {ts : List Str} {B : List Int} {first : Int} (h : (allF ts B first).2 = 0) : ts.length ≤ 12 ∧ (allF ts B first).1 = ts.map (fun s => (segF s (scale0 ts) B first).1) ∧ ∀ s ∈ ts, StrOK s ∧ (segF s (scale0 ts) B first).2 = 0 := by
  unfold allF at h ⊢
  split at h
  · rename_i h1; exact absurd h h1
  rename_i h1
  rw [if_neg h1]
  obtain ⟨_, h12, hst⟩ := rendF_0 (by simpa using h1)
  obtain ⟨e1, e2⟩ := allGo_get h
  refine ⟨h12, by simpa using e1, fun s hs => ⟨?_, e2 s hs⟩⟩
  obtain ⟨k, hk, rfl⟩ := List.getElem_of_mem hs
  exact strF_ok (hst k hk)
theorem all_short {ts : List Str} {B : List Int} {first : Int} : ∀ l ∈ (allF ts B first).1, l.length ≤ 1000 := by
  intro l hl
  by_cases h : (allF ts B first).2 = 0
  · obtain ⟨_, e1, e2⟩ := allF_yes h
    rw [e1] at hl
    obtain ⟨s, hs, rfl⟩ := List.mem_map.1 hl
    exact segF_len (e2 s hs).1
  · rw [allF_no h] at hl; cases hl
theorem all_laws {ts : List Str} {B : List Int} (h : (allF ts B 0).2 = 0) : ts.length ≤ 12 ∧ (allF ts B 0).1.length = ts.length ∧ ∀ i (h1 : i < ts.length) (h2 : i < (allF ts B 0).1.length), ∀ s ∈ (allF ts B 0).1[i], segLaw ts[i] s := by
  obtain ⟨h12, e1, e2⟩ := allF_yes h
  refine ⟨h12, by rw [e1, List.length_map], fun i h1 h2 s hs => ?_⟩
  simp only [e1, List.getElem_map] at hs
  obtain ⟨a, b⟩ := e2 _ (List.getElem_mem h1)
  exact segs_law a b s hs
end Go.Proofs.Ytjeemcpdmiajmaa
