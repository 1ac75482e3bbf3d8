/- Lemmas. -/
import Derived.Test.YtimfnpjcedjmiadGreatK35
set_option maxRecDepth 100000
set_option maxHeartbeats 64000000
set_option linter.all false
namespace Go.Proofs.YtimfnpjcedjmiadGreat
open Go.RowKit
theorem gather_1:zdL 1:=zdf 1
theorem gather_2:zdL 2:=zdf 2
end Go.Proofs.YtimfnpjcedjmiadGreat
