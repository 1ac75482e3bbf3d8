/- Lemmas. -/
import Derived.Test.YtimfnpjcedjmiadGreatK26
set_option maxRecDepth 100000
set_option maxHeartbeats 64000000
set_option linter.all false
namespace Go.Proofs.YtimfnpjcedjmiadGreat
open Go.RowKit
theorem gather_6 : zdK 6 := zd3 6
end Go.Proofs.YtimfnpjcedjmiadGreat
