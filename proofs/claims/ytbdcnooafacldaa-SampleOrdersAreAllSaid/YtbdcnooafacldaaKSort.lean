/- The library's slices at whole numbers: Sort, Compact, BinarySearch, Min, Max, Contains: the shelf's contracts, said of data. -/
import Derived.Test.YtbdcnooafacldaaKNat
import Derived.Test.YtbdcnooafacldaaShelf
namespace Go.Proofs.Ytbdcnooafacldaa
open Go.RowKit
set_option linter.unusedSimpArgs false

theorem flat_ints (l : List Int) : (l.map oneI).flatten = l.map fun n => AV.val (.int .i64 n) := by
  induction l with
  | nil => rfl
  | cons x r ih => rw [List.map_cons, List.flatten_cons, ih]; rfl
theorem rel_val {w : World} {I : Nat → Prop} {v u : Value} (h : Rel w I (.val v) u) : u = v := by cases h; rfl
theorem ints_one (l : List Int) : ∀ u ∈ l.map (Value.int .i64), u.oneCell' = true := by
  intro u hu
  obtain ⟨n, _, rfl⟩ := List.mem_map.1 hu
  rfl
/-- A row of whole numbers of one's own. -/
theorem own_ints {w : World} {base : Nat} {I : Nat → Prop} {e : Nat} {l : List Int} {v : Value} {bo : Option Nat} (h : OwnAt w base I e 1 (l.map oneI) v bo) :
    l.length ≤ maxLen ∧ ((v = .slice none 0 0 ∧ l = [] ∧ bo = none) ∨ ∃ g cap cur, v = .slice (some ⟨g, 0, none⟩) l.length cap ∧ bo = some g ∧ base ≤ g ∧ Blk w g e cur ∧ l.length ≤ cap ∧ cap ≤ maxLen ∧ cur.size = cap ∧ cur.toList.take l.length = l.map (Value.int .i64)) := by
  obtain ⟨cells, ⟨hcl, hown⟩, hm, h0, hbo, h1, hx, hrel⟩ := h
  rw [List.length_map] at hx hcl hown
  rw [Nat.mul_one] at hcl hown
  have hcells : cells = l.map (Value.int .i64) := by
    apply List.ext_getElem?
    intro j
    by_cases hj : j < l.length
    · have hf : (l.map oneI).flatten[j]? = some (.val (.int .i64 l[j])) := by rw [flat_ints, List.getElem?_map, List.getElem?_eq_getElem hj]; rfl
      have := rel_val (hrel j _ hf)
      have hj' : j < cells.length := by omega
      rw [List.getD_eq_getElem?_getD, List.getElem?_eq_getElem hj'] at this
      rw [List.getElem?_eq_getElem hj', List.getElem?_map, List.getElem?_eq_getElem hj]
      simpa using this
    · rw [List.getElem?_eq_none (by omega), List.getElem?_eq_none (by simp; omega)]
  refine ⟨hx, ?_⟩
  rcases hown with ⟨hv, hz⟩ | ⟨g, cap, cur, hv, hg, hb, hc, hcm, hcs, ht⟩
  · refine .inl ⟨hv, List.eq_nil_of_length_eq_zero hz, ?_⟩
    rw [← hbo, hv]; rfl
  · refine .inr ⟨g, cap, cur, hv, ?_, hg, hb, hc, hcm, by rw [hcs, Nat.mul_one], by rw [ht, hcells]⟩
    rw [← hbo, hv]; rfl
theorem own_of_ints {w : World} {base : Nat} {I : Nat → Prop} {e g cap : Nat} {l : List Int} {cur : Array Value} (hg : base ≤ g) (hb : Blk w g e cur) (hc : l.length ≤ cap) (hm : cap ≤ maxLen) (hs : cur.size = cap) (ht : cur.toList.take l.length = l.map (Value.int .i64)) :
    OwnAt w base I e 1 (l.map oneI) (.slice (some ⟨g, 0, none⟩) l.length cap) (some g) := by
  refine ⟨l.map (Value.int .i64), ⟨by simp, .inr ⟨g, cap, cur, by simp, hg, hb, by simpa using hc, hm, by rw [hs, Nat.mul_one], by simpa using ht⟩⟩, fun x hx => ?_, Nat.one_pos, rfl, ints_one l, by simp; omega, fun j av hj => ?_⟩
  · obtain ⟨n, _, rfl⟩ := List.mem_map.1 hx
    rfl
  · rw [flat_ints, List.getElem?_map] at hj
    obtain ⟨n, hn, rfl⟩ := Option.map_eq_some_iff.1 hj
    rw [List.getD_eq_getElem?_getD, List.getElem?_map, hn]
    exact Rel.val _
/-- A row of whole numbers that nobody writes. -/
theorem ro_ints {w : World} {I : Nat → Prop} {l : List Int} {v : Value} (h : Rel w I (.ro (l.map oneI)) v) :
    (l = [] ∧ ∃ A c, v = .slice A 0 c) ∨ ∃ b off c, v = .slice (some ⟨b, off, none⟩) l.length c ∧ I b ∧ l.length ≤ c ∧ l.length ≤ maxLen ∧ ∀ j, j < l.length → w.cell? ⟨b, off + j, none⟩ = some (.int .i64 (l.getD j 0)) := by
  generalize hxs : l.map oneI = xs at h
  cases h with
  | ro0 A c => exact .inl ⟨List.map_eq_nil_iff.1 hxs, A, c, rfl⟩
  | ro _ b off c m f hb hm hc hx hcell hrel =>
    subst hxs
    rw [List.length_map] at *
    refine .inr ⟨b, off, c, rfl, hb, hc, hx, fun j hj => ?_⟩
    have hmm : m = 1 := (hm (oneI l[j]) (List.mem_map.2 ⟨_, List.getElem_mem hj, rfl⟩)).symm
    subst hmm
    obtain ⟨h1, _⟩ := hcell j (by omega)
    rw [h1, rel_val (hrel j (.val (.int .i64 l[j])) (by rw [flat_ints, List.getElem?_map, List.getElem?_eq_getElem hj]; rfl)), List.getD_eq_getElem?_getD, List.getElem?_eq_getElem hj]
    rfl
theorem ro_of_ints {w : World} {I : Nat → Prop} {b off c : Nat} {l : List Int} (hb : I b) (hc : l.length ≤ c) (hm : l.length ≤ maxLen) (h : ∀ j, j < l.length → w.cell? ⟨b, off + j, none⟩ = some (.int .i64 (l.getD j 0))) : Rel w I (.ro (l.map oneI)) (.slice (some ⟨b, off, none⟩) l.length c) := by
  have := Rel.ro (w := w) (I := I) (l.map oneI) b off c 1 (fun j => .int .i64 (l.getD j 0)) hb (fun x hx => by obtain ⟨n, _, rfl⟩ := List.mem_map.1 hx; rfl) (by simpa using hc) (by simpa using hm) (fun j hj => ⟨h j (by simpa using hj), rfl⟩) (fun j av hj => by
    rw [flat_ints, List.getElem?_map] at hj
    obtain ⟨n, hn, rfl⟩ := Option.map_eq_some_iff.1 hj
    rw [List.getD_eq_getElem?_getD, hn]
    exact Rel.val _)
  rwa [List.length_map] at this
/-- The world with a row written. -/
theorem put_blk {w : World} {g e n : Nat} {cur : Array Value} {enc : Int → Value} {d : Array Int} {os : Array Obj} (h : Blk w g e cur) :
    Past w (Go.Sort.grow (Go.Sort.putRow enc (Go.Sort.ahead w n) g 0 d) os) (some g) ∧ Blk (Go.Sort.grow (Go.Sort.putRow enc (Go.Sort.ahead w n) g 0 d) os) g e (Go.Sort.putCells enc 0 d cur) := by
  have hlt := h.lt
  unfold Blk at h ⊢
  simp only [Go.Sort.grow, Go.Sort.putRow, Go.Sort.mapBlock, Go.Sort.ahead]
  refine ⟨⟨rfl, rfl, rfl, by simp, fun b hb hne => ?_⟩, ?_⟩
  · have hne' : g ≠ b := fun e => hne (by rw [e])
    rw [Array.getElem?_append, if_pos (by simpa using hb), Array.getElem?_modify, if_neg hne']
  · rw [Array.getElem?_append, if_pos (by simpa using hlt), Array.getElem?_modify, if_pos rfl, h]
    rfl
theorem put_take (enc : Int → Value) (l : List Int) (cur : Array Value) (h : l.length ≤ cur.size) : (Go.Sort.putCells enc 0 l.toArray cur).toList.take l.length = l.map enc ∧ (Go.Sort.putCells enc 0 l.toArray cur).size = cur.size := by
  unfold Go.Sort.putCells
  refine ⟨?_, by simp⟩
  apply List.ext_getElem?
  intro j
  by_cases hj : j < l.length
  · have hc : j < cur.size := by omega
    rw [List.getElem?_take_of_lt hj, Array.getElem?_toList, Array.getElem?_mapIdx, Array.getElem?_eq_getElem hc, Option.map_some, if_pos ⟨Nat.zero_le _, by simpa using hj⟩, List.getElem?_map, List.getElem?_eq_getElem hj]
    simp [hj]
  · rw [List.getElem?_eq_none (by simp; omega), List.getElem?_eq_none (by simp; omega)]
theorem holds_ints {w : World} {g e : Nat} {cur : Array Value} {l : List Int} (hb : Blk w g e cur) (ht : cur.toList.take l.length = l.map (Value.int .i64)) : Go.Sort.Holds (Value.int .i64) w g 0 l.toArray := by
  intro j hj
  have hj' : j < l.length := by simpa using hj
  have hc : cur[j]? = some (.int .i64 l[j]) := by
    have := congrArg (·[j]?) ht
    simp only [List.getElem?_take_of_lt hj', List.getElem?_map, List.getElem?_eq_getElem hj'] at this
    simpa using this
  rw [Nat.zero_add]
  exact ⟨by rw [hb.cell j _ hc]; simp [hj'], hb.frozen j⟩
def sortI (l : List Int) : List Int := l.mergeSort fun x y => decide (x ≤ y)
theorem sortI_len (l : List Int) : (sortI l).length = l.length := List.length_mergeSort _
theorem sort_c (e : Nat) (l : List Int) (hl : l.length ≤ 1000000000) : TurnOK Try.prog 26 (.own e 1 (l.map oneI)) (.own e 1 ((sortI l).map oneI)) [] (.tup []) := by
  intro w base S v0 bo vs hT hS hbase hh hvl _
  obtain rfl : vs = [] := List.eq_nil_of_length_eq_zero hvl
  obtain ⟨hlen, h⟩ := own_ints hh
  have htup : ∀ {w' : World} {I : Nat → Prop}, Rel w' I (.tup []) (.tuple #[]) := fun {w' I} => Rel.tup [] #[] rfl (by simp)
  rcases h with ⟨rfl, rfl, rfl⟩ | ⟨g, cap, cur, rfl, rfl, hg, hb, hc, hcm, hcs, ht⟩
  · refine (Try.slices_Sort_int_none none 0 w).mono ?_
    rintro ev w' ⟨rfl, rfl⟩
    refine ⟨_, rfl, ⟨rfl, rfl, rfl, Nat.le_refl _, fun _ _ _ => rfl⟩, ?_, htup⟩
    exact OwnAt.mono (w := w') (I := S) (fun b hb => .inl hb) (fun _ _ _ => rfl) (fun _ _ => rfl) (show OwnAt w' base S e 1 ((sortI []).map oneI) (.slice none 0 0) none by simpa [sortI, HomeAt] using hh)
  · refine (Try.slices_Sort_int g 0 cap l w (holds_ints hb ht) hb.lt (by omega)).mono ?_
    rintro ev w' ⟨rfl, n, os, rfl⟩
    obtain ⟨hp, hb'⟩ := put_blk (enc := Value.int .i64) (n := n) (os := os) (d := (sortI l).toArray) hb
    refine ⟨_, rfl, hp, ?_, htup⟩
    obtain ⟨t1, t2⟩ := put_take (Value.int .i64) (sortI l) cur (by rw [sortI_len]; omega)
    rw [← sortI_len l]
    exact own_of_ints hg hb' (by rw [sortI_len]; exact hc) hcm (by rw [t2]; exact hcs) t1
theorem compact_c (e : Nat) (l : List Int) (hcl : (Go.Lib.compact l).length ≤ l.length) : TakeOK Try.prog 27 e 1 (l.map oneI) [] (.ro ((Go.Lib.compact l).map oneI)) := by
  intro w base S v0 bo vs hT hS hbase hh hvl _
  obtain rfl : vs = [] := List.eq_nil_of_length_eq_zero hvl
  obtain ⟨hlen, h⟩ := own_ints hh
  rcases h with ⟨rfl, rfl, rfl⟩ | ⟨g, cap, cur, rfl, rfl, hg, hb, hc, hcm, hcs, ht⟩
  · refine (Try.slices_Compact_int_empty none 0 w).mono ?_
    rintro ev w' ⟨rfl, rfl⟩
    refine ⟨_, rfl, ⟨rfl, rfl, rfl, Nat.le_refl _, fun _ _ _ => rfl⟩, ?_⟩
    exact Rel.ro0 _ _
  · refine (Try.slices_Compact_int g 0 cap l w (holds_ints hb ht) (by unfold maxLen at hlen; omega) hc).mono ?_
    rintro ev w' ⟨rfl, q, rfl⟩
    obtain ⟨hp, hb'⟩ := put_blk (enc := Value.int .i64) (n := q) (os := #[]) (d := (Go.Lib.compact l ++ List.replicate (l.length - (Go.Lib.compact l).length) 0).toArray) hb
    rw [Go.Sort.grow_empty] at hp hb'
    refine ⟨_, rfl, hp, ?_⟩
    obtain ⟨t1, t2⟩ := put_take (Value.int .i64) (Go.Lib.compact l ++ List.replicate (l.length - (Go.Lib.compact l).length) 0) cur (by simp; omega)
    refine ro_of_ints (.inr (.inl rfl)) (by omega) (by omega) fun j hj => ?_
    rw [Nat.zero_add]
    refine hb'.cell j _ ?_
    have := congrArg (·[j]?) t1
    have hj2 : j < (Go.Lib.compact l ++ List.replicate (l.length - (Go.Lib.compact l).length) 0).length := by simp; omega
    simp only [List.getElem?_take_of_lt hj2, List.getElem?_map] at this
    rw [Array.getElem?_toList] at this
    rw [this, List.getElem?_append_left hj, List.getD_eq_getElem?_getD, List.getElem?_eq_getElem hj]
    rfl
theorem search_c (l : List Int) (x : Int) (hl : l.length ≤ 1000000000) (hs : l.Pairwise (· ≤ ·)) : CallOK Try.prog 28 [.ro (l.map oneI), .val (.int .i64 x)] (.tup [.val (.int .i64 (l.countP (· < x) : Nat)), .val (.bool (l.contains x))]) := by
  intro w S vs hT hS hvl hr
  match vs, hvl with
  | [v0, v1], _ =>
    have h0 := hr 0 _ v0 rfl rfl
    have h1 := rel_val (hr 1 _ v1 rfl rfl)
    subst h1
    have htup : ∀ {w' : World} {I : Nat → Prop} (a b : Value), Rel w' I (.tup [.val a, .val b]) (.tuple #[a, b]) := fun {w' I} a b => Rel.tup [.val a, .val b] #[a, b] rfl fun j av hj => by
      match j, hj with
      | 0, hj => injection hj with hj; subst hj; exact Rel.val _
      | 1, hj => injection hj with hj; subst hj; exact Rel.val _
    rcases ro_ints h0 with ⟨rfl, A, c, rfl⟩ | ⟨b, off, c, rfl, hb, hc, hm, hcell⟩
    · refine (Try.slices_BinarySearch_int_empty A c x w).mono ?_
      rintro ev w' ⟨rfl, rfl⟩
      exact ⟨_, rfl, Below.refl _ _, htup _ _⟩
    · refine (Try.slices_BinarySearch_int b off l.length c l x w (Nat.le_refl _) (by omega) hcell (by rw [List.take_length]; exact hs)).mono ?_
      rintro ev w' ⟨rfl, q, rfl⟩
      rw [List.take_length]
      exact ⟨_, rfl, below_drewN (Below.refl _ _) q, htup _ _⟩
end Go.Proofs.Ytbdcnooafacldaa
