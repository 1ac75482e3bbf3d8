/- Lemmas. -/
import Derived.Test.YtimfnpjcedjmiadGreatK35
set_option maxRecDepth 100000
set_option maxHeartbeats 64000000
set_option linter.all false
namespace Go.Proofs.YtimfnpjcedjmiadGreat
open Go.RowKit
theorem gather_5:zdL 5:=zdf 5
end Go.Proofs.YtimfnpjcedjmiadGreat
