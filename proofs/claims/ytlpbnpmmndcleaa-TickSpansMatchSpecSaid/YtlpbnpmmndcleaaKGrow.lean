/- The library's slices.Grow: the shelf's contract, said of data; a call that only reads, as one that takes. -/
import Derived.Test.YtlpbnpmmndcleaaKSort
import Derived.Shelf.Spec.SlicesGrow
namespace Go.Proofs.Ytlpbnpmmndcleaa
open Go.RowKit
set_option linter.unusedSimpArgs false

/-- A function that reads its first argument may take it. -/
theorem take_of_call {P : Program} {f e m : Nat} {xs : List (List AV)} {args : List AV} {res : AV} (h : CallOK P f (.ro xs :: args) res) (hr : ∀ e m ys, res ≠ .own e m ys) : TakeOK P f e m xs args res := by
  intro w base S v0 bo vs hS hbase hown hvl hrel
  have hlt : ∀ g, bo = some g → g < w.heap.size := fun g hg => by
    obtain ⟨cells, ho, _, _, hb, _⟩ := hown
    exact (ho.lt g (by rw [hb, hg])).2
  have hro : Rel w (fun b => S b ∨ bo = some b) (.ro xs) v0 := own_ro (OwnAt.mono (w := w) (fun b hb => .inl hb) (fun _ _ _ => rfl) (fun _ _ => rfl) hown) (fun g hg => .inr hg)
  refine (h w (fun b => S b ∨ bo = some b) (v0 :: vs) (fun b hb => ?_) (by simp [hvl]) (fun j av v ha hv => ?_)).mono ?_
  · rcases hb with hb | hb
    · exact (hS b hb).1
    · exact hlt b hb
  · cases j with
    | zero => simp at ha hv; subst ha; subst hv; exact hro
    | succ j => exact (hrel j av v (by simpa using ha) (by simpa using hv)).mono (fun b hb => .inl hb) (fun _ _ _ => rfl)
  · rintro ev w' ⟨v, rfl, hb, hres⟩
    refine ⟨v, rfl, ⟨hb.os, hb.tape, hb.output, hb.size, fun b hlt _ => hb.block b hlt⟩, ?_⟩
    cases res <;> first
      | (refine Rel.mono (w := w') (fun b hb => ?_) (fun _ _ _ => rfl) hres
         rcases hb with (hb | hb) | hb
         · exact .inl hb
         · exact .inr (.inl hb)
         · exact .inr (.inr hb))
      | exact absurd rfl (hr _ _ _)
theorem grow_any {P : Program} {ρ : Go.Shelf.Ren} (L : Lays8.n4 P ρ) {i0 : TypeInfo} {z : Value} (hi0 : P.info? (ρ.t 25) = some i0) (hz0 : i0.zero = some z) {m : Nat} (hm : i0.size = m) (h0 : 0 < m) (hzs : z.cells.size = m) (hby : i0.bytes ≤ 1000) (n : Nat) (hn : n ≤ 1000000) :
    TakeOK P (ρ.f 4) (ρ.t 25) m [] [.val (.int .i64 n)] (.own (ρ.t 25) m []) := by
  intro w base S v0 bo vs hS hbase hown hvl hrel
  match vs, hvl with
  | [v1], _ =>
    have h1 := rel_val (hrel 0 _ v1 rfl rfl)
    subst h1
    obtain ⟨cells, ⟨hcl, hrow⟩, _, _, hbo, _⟩ := hown
    have hsame : ∀ {w' : World} {A : Option Addr} {c : Nat}, w' = w → v0 = .slice A 0 c → v0.ownBlock = bo → OwnAt w base S (ρ.t 25) m [] v0 bo → Past w w' bo ∧ TakeRes w S w' base bo v0 (.own (ρ.t 25) m []) := by
      rintro w' A c rfl rfl hb ho
      refine ⟨⟨rfl, rfl, rfl, Nat.le_refl _, fun _ _ _ => rfl⟩, fun g hg => .inl (by rw [← hb]; exact hg), ?_⟩
      obtain ⟨cells, o1, o2, o3, o4, o5, o6, o7⟩ := ho
      exact ⟨cells, o1, o2, o3, rfl, o5, o6, by simp⟩
    have hbig : (0 + n) * i0.bytes ≤ 140737488355328 := by
      have : (0 + n) * i0.bytes ≤ 1000000 * 1000 := Nat.mul_le_mul (by omega) hby
      omega
    have hgrown : ∀ (c : Nat) (cs : List Value), c < n → cs.length = c * i0.size →
        Past w (w.drew.alloc (.cells (cs.toArray ++ Builtin.zeroCells z.cells (0 + n - c) ++ Builtin.zeroCells z.cells (grownCap w (0 + n) c (ρ.t 25) - (0 + n))) (ρ.t 25))) bo ∧
        TakeRes w S (w.drew.alloc (.cells (cs.toArray ++ Builtin.zeroCells z.cells (0 + n - c) ++ Builtin.zeroCells z.cells (grownCap w (0 + n) c (ρ.t 25) - (0 + n))) (ρ.t 25))) base bo (.slice (some ⟨w.heap.size, 0, none⟩) 0 (grownCap w (0 + n) c (ρ.t 25))) (.own (ρ.t 25) m []) := by
      intro c cs hc hl
      have hge := grownCap_ge w (0 + n) c (ρ.t 25)
      have hle := grownCap_le_maxLen w (0 + n) c (ρ.t 25) (by unfold maxLen; omega)
      generalize grownCap w (0 + n) c (ρ.t 25) = C at *
      generalize hA : cs.toArray ++ Builtin.zeroCells z.cells (0 + n - c) ++ Builtin.zeroCells z.cells (C - (0 + n)) = A
      have hAs : A.size = C * m := by
        rw [← hA, Array.size_append, Array.size_append, size_zeroCells, size_zeroCells, hzs, List.size_toArray, hl, hm, ← Nat.add_mul, ← Nat.add_mul]
        congr 1; omega
      refine ⟨⟨rfl, rfl, rfl, (by show w.heap.size ≤ (w.heap.push _).size; simp), fun b hb _ => ?_⟩, fun g hg => .inr ?_, ?_⟩
      · show (w.heap.push _)[b]? = _
        rw [Array.getElem?_push, if_neg (by omega)]
      · injection hg with hg
        simp only at hg
        subst hg
        show w.heap.size ≤ w.heap.size ∧ w.heap.size < (w.heap.push _).size
        simp
      · refine ⟨[], ⟨by simp, .inr ⟨w.heap.size, C, A, rfl, hbase, ?_, Nat.zero_le _, hle, hAs, by simp⟩⟩, by simp, h0, rfl, by simp, by simp, by simp⟩
        show (w.heap.push _)[w.heap.size]? = _
        rw [Array.getElem?_push, if_pos rfl]
    rcases hrow with ⟨hv, _⟩ | ⟨g, cap, cur, hv, hbg, hgg, hnc, hcm, hcs, htake⟩
    · subst hv
      by_cases hz : n = 0
      · subst hz
        refine (Any8.slices_Grow_room L none 0 0 0 w (Nat.le_refl _) (by omega) (by omega) (by omega)).mono ?_
        rintro ev w' ⟨rfl, hw⟩
        obtain ⟨a1, a2⟩ := hsame hw rfl hbo ⟨cells, ⟨hcl, .inl ⟨rfl, rfl⟩⟩, by simp, h0, hbo, by simp [show cells = [] from List.eq_nil_of_length_eq_zero (by simpa using hcl)], by simp, by simp⟩
        exact ⟨_, rfl, a1, a2⟩
      · refine (Any8.slices_Grow_grow L i0 z hi0 hz0 (by omega) none 0 0 n [] w (Nat.le_refl _) (by omega) hbig (by omega) (by simp) (fun _ => rfl) (by simp)).mono ?_
        rintro ev w' ⟨rfl, rfl⟩
        obtain ⟨a1, a2⟩ := hgrown 0 [] (by omega) (by simp)
        exact ⟨_, rfl, a1, a2⟩
    · subst hv
      have hcm' : cap ≤ 9223372036854775807 := by unfold maxLen at hcm; omega
      by_cases hz : n ≤ cap
      · refine (Any8.slices_Grow_room L (some ⟨g, 0, none⟩) 0 cap n w (Nat.zero_le _) hcm' (by omega) (by omega)).mono ?_
        rintro ev w' ⟨rfl, hw⟩
        obtain ⟨a1, a2⟩ := hsame hw rfl hbo ⟨cells, ⟨hcl, .inr ⟨g, cap, cur, rfl, hbg, hgg, hnc, hcm, hcs, htake⟩⟩, by simp, h0, hbo, by simp [show cells = [] from List.eq_nil_of_length_eq_zero (by simpa using hcl)], by simp, by simp⟩
        exact ⟨_, rfl, a1, a2⟩
      · refine (Any8.slices_Grow_grow L i0 z hi0 hz0 (by omega) (some ⟨g, 0, none⟩) 0 cap n cur.toList w (Nat.zero_le _) (by omega) hbig (by omega) (by rw [Array.length_toList, hcs, hm]) (fun h => by cases h) (fun a ha j v hj => ?_)).mono ?_
        · injection ha with ha
          subst ha
          have : (⟨g, 0, none⟩ : Addr).add j = ⟨g, j, none⟩ := by rw [Addr.add_mid]; simp
          rw [this]
          exact Blk.cell (w := w) (t := ρ.t 25) (cs := cur) hgg j v (by simpa using hj)
        · rintro ev w' ⟨rfl, rfl⟩
          obtain ⟨a1, a2⟩ := hgrown cap cur.toList (by omega) (by rw [Array.length_toList, hcs, hm])
          exact ⟨_, rfl, a1, a2⟩
end Go.Proofs.Ytlpbnpmmndcleaa
