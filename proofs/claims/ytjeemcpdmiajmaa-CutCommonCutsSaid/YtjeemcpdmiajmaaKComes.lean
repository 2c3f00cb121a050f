/- One simple thing that play.Came does. -/
import Derived.Test.YtjeemcpdmiajmaaKDo
import Derived.Test.YtjeemcpdmiajmaaKNat
namespace Go.Proofs.Ytjeemcpdmiajmaa
open Go.RowKit
set_option linter.unusedSimpArgs false

def flow1 : AV := .ro [[.val (.int .i64 0), .val (.int .i64 2)]]
end Go.Proofs.Ytjeemcpdmiajmaa
