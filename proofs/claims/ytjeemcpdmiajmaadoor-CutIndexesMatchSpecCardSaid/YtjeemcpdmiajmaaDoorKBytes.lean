/- Rows of bytes; bytes.Equal said of data. -/
import Derived.Test.YtjeemcpdmiajmaaDoorKIdx
import Derived.Test.YtjeemcpdmiajmaaDoorKSort
import Derived.Test.YtjeemcpdmiajmaaDoorDmP
namespace Go.Proofs.YtjeemcpdmiajmaaDoor
open Go.RowKit
set_option linter.unusedSimpArgs false

theorem has_u8 {av : AV} (h : Has (.int .u8) av) : ∃ n : Nat, av = .val (.int .u8 n) ∧ n < 256 := by
  cases h with
  | @int k n h =>
    have hb : 0 ≤ n ∧ n < 256 := by
      have e1 : IntKind.u8.min = 0 := by decide
      have e2 : IntKind.u8.max = 255 := by decide
      have := h
      simp [Lit.wf, e1, e2] at this
      omega
    exact ⟨n.toNat, by rw [Int.toNat_of_nonneg hb.1], by omega⟩
theorem all_u8 (x : List AV) (h : HasAll [.int .u8] x) : ∃ n : Nat, x = oneU n ∧ n < 256 := by
  obtain ⟨v0, r, rfl, h0, h⟩ := all_cons h
  obtain rfl := all_nil h
  obtain ⟨n0, rfl, h1⟩ := has_u8 h0
  exact ⟨n0, rfl, h1⟩
theorem rel_val' {w : World} {I : Nat → Prop} {v u : Value} (h : Rel w I (.val v) u) : u = v := by cases h; rfl
theorem flat_u8 (l : List Nat) : (l.map oneU).flatten = l.map fun (n : Nat) => AV.val (.int .u8 (n : Int)) := by
  induction l with
  | nil => rfl
  | cons x r ih => rw [List.map_cons, List.flatten_cons, ih]; rfl
theorem ro_u8 {w : World} {I : Nat → Prop} {l : List Nat} {v : Value} (h : Rel w I (.ro (l.map oneU)) v) : ∃ p c, v = .slice p l.length c ∧ Go.Lib.BytesIn w p l.length (l.map fun (n : Nat) => (n : Int)) := by
  generalize hxs : l.map oneU = xs at h
  cases h with
  | ro0 A c =>
    obtain rfl := List.map_eq_nil_iff.1 hxs
    exact ⟨A, c, rfl, Go.Lib.BytesIn.nil w A _⟩
  | ro _ b off c m f hb hm hc hx hcell hrel =>
    subst hxs
    rw [List.length_map] at *
    refine ⟨some ⟨b, off, none⟩, c, rfl, fun _ => ⟨b, off, rfl, fun j hj => ?_⟩⟩
    have hmm : m = 1 := (hm (oneU l[j]) (List.mem_map.2 ⟨_, List.getElem_mem hj, rfl⟩)).symm
    subst hmm
    obtain ⟨h1, _⟩ := hcell j (by omega)
    rw [h1, rel_val' (hrel j (.val (.int .u8 (l[j] : Nat))) (by rw [flat_u8, List.getElem?_map, List.getElem?_eq_getElem hj]; rfl)), List.getD_eq_getElem?_getD, List.getElem?_map, List.getElem?_eq_getElem hj]
    rfl
theorem eqb_c (l : List Nat) : CallOK Tryd.prog 6 [.ro (l.map oneU), .ro (l.map oneU)] (.val (.bool true)) := by
  intro w S vs hT hS hvl hr
  match vs, hvl with
  | [v0, v1], _ =>
    obtain ⟨p, c, rfl, h0⟩ := ro_u8 (hr 0 _ v0 rfl rfl)
    obtain ⟨q, d, rfl, h1⟩ := ro_u8 (hr 1 _ v1 rfl rfl)
    refine (Tryd.bytes_Equal_all p q l.length c l.length d _ _ w (List.length_map _) (List.length_map _) h0 h1).mono ?_
    rintro ev w' ⟨rfl, rfl⟩
    rw [beq_self_eq_true]
    exact ⟨_, rfl, Below.refl _ _, Rel.val _⟩
end Go.Proofs.YtjeemcpdmiajmaaDoor
