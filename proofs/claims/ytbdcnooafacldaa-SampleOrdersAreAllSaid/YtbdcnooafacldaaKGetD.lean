/- An element of a list. -/
import Derived.Test.YtbdcnooafacldaaKDo
namespace Go.Proofs.Ytbdcnooafacldaa
theorem getD_in {α : Type} {l : List α} {k : Nat} {d : α} (h : k < l.length) : l.getD k d = l[k] := by
  rw [List.getD_eq_getElem?_getD, List.getElem?_eq_getElem h]; rfl
end Go.Proofs.Ytbdcnooafacldaa
