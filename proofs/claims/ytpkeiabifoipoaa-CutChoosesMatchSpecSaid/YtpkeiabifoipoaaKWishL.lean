/- A wish as an argument. -/
import Derived.Test.YtpkeiabifoipoaaDmP
import Derived.Test.YtpkeiabifoipoaaKDo
namespace Go.Proofs.Ytpkeiabifoipoaa
open Go.RowKit
theorem all_int0 (x : List AV) (h : HasAll [.int .i64] x) : ∃ n : Int, x = oneI n ∧ True := by
  obtain ⟨v0, r, rfl, h0, h⟩ := all_cons h
  obtain rfl := all_nil h
  obtain ⟨n0, rfl, _⟩ := has_int h0
  exact ⟨n0, rfl, trivial⟩
theorem in_wishM (x : List AV) (h : HasAll [.int .i64, .int .i64, .int .i64] x) : ∃ n : Int × Int × Int, x = [.val (.int .i64 n.1), .val (.int .i64 n.2.1), .val (.int .i64 n.2.2)] ∧ True := by
  obtain ⟨v0, r, rfl, h0, h⟩ := all_cons h
  obtain ⟨v1, r, rfl, h1, h⟩ := all_cons h
  obtain ⟨v2, r, rfl, h2, h⟩ := all_cons h
  obtain rfl := all_nil h
  obtain ⟨n0, rfl, _⟩ := has_int h0
  obtain ⟨n1, rfl, _⟩ := has_int h1
  obtain ⟨n2, rfl, _⟩ := has_int h2
  exact ⟨(n0, n1, n2), rfl, trivial⟩
end Go.Proofs.Ytpkeiabifoipoaa
