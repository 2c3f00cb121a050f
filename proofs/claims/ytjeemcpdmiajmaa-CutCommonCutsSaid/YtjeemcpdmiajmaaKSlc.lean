/- The library's slices at whole numbers: Equal, IndexFunc, ContainsFunc, by the machine on data; the reference's small tests. -/
import Derived.Test.YtjeemcpdmiajmaaKNat
namespace Go.Proofs.Ytjeemcpdmiajmaa
open Go.RowKit
set_option linter.unusedSimpArgs false

theorem len_in (l : List Int) : ((l.map oneI).length : Int) = l.length := by simp
end Go.Proofs.Ytjeemcpdmiajmaa
