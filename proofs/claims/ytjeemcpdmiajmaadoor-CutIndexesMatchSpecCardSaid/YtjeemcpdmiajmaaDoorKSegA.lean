/- Segments as arguments. -/
import Derived.Test.YtjeemcpdmiajmaaDoorKSeg
import Derived.Test.YtjeemcpdmiajmaaDoorDmP
namespace Go.Proofs.YtjeemcpdmiajmaaDoor
open Go.RowKit
set_option linter.unusedSimpArgs false

def Seg.fits (s : Seg) : Prop := I64 s.number ∧ I64 s.frm ∧ I64 s.to ∧ I64 s.beg ∧ I64 s.len ∧ I64 s.bytes ∧ I64 s.lead
theorem all_seg (x : List AV) (h : HasAll [.int .i64, .int .i64, .int .i64, .int .i64, .int .i64, .int .i64, .int .i64] x) : ∃ s : Seg, x = s.av ∧ s.fits := by
  obtain ⟨v0, r, rfl, h0, h⟩ := all_cons h
  obtain ⟨v1, r, rfl, h1, h⟩ := all_cons h
  obtain ⟨v2, r, rfl, h2, h⟩ := all_cons h
  obtain ⟨v3, r, rfl, h3, h⟩ := all_cons h
  obtain ⟨v4, r, rfl, h4, h⟩ := all_cons h
  obtain ⟨v5, r, rfl, h5, h⟩ := all_cons h
  obtain ⟨v6, r, rfl, h6, h⟩ := all_cons h
  obtain rfl := all_nil h
  obtain ⟨n0, rfl, b0⟩ := has_int h0
  obtain ⟨n1, rfl, b1⟩ := has_int h1
  obtain ⟨n2, rfl, b2⟩ := has_int h2
  obtain ⟨n3, rfl, b3⟩ := has_int h3
  obtain ⟨n4, rfl, b4⟩ := has_int h4
  obtain ⟨n5, rfl, b5⟩ := has_int h5
  obtain ⟨n6, rfl, b6⟩ := has_int h6
  exact ⟨⟨n0, n1, n2, n3, n4, n5, n6⟩, rfl, b0, b1, b2, b3, b4, b5, b6⟩

end Go.Proofs.YtjeemcpdmiajmaaDoor
