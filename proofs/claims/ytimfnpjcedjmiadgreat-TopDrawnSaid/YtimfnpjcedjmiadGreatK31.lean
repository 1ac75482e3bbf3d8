/- Lemmas. -/
import Derived.Test.YtimfnpjcedjmiadGreatK26
set_option maxRecDepth 100000
set_option maxHeartbeats 64000000
set_option linter.all false
namespace Go.Proofs.YtimfnpjcedjmiadGreat
open Go.RowKit
theorem gather_4 : zdK 4 := zd3 4
theorem gather_3 : zdK 3 := zd3 3
end Go.Proofs.YtimfnpjcedjmiadGreat
