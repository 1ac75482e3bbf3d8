/- Lemmas. -/
import Derived.Test.YtimfnpjcedjmiadGreatK26
set_option maxRecDepth 100000
set_option maxHeartbeats 64000000
set_option linter.all false
namespace Go.Proofs.YtimfnpjcedjmiadGreat
open Go.RowKit
theorem gather_1 : zdK 1 := zd3 1
theorem gather_2 : zdK 2 := zd3 2
end Go.Proofs.YtimfnpjcedjmiadGreat
