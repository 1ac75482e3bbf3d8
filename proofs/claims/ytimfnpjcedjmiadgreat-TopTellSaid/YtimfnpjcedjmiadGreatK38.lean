/- Lemmas. -/
import Derived.Test.YtimfnpjcedjmiadGreatK35
set_option maxRecDepth 100000
set_option maxHeartbeats 64000000
set_option linter.all false
namespace Go.Proofs.YtimfnpjcedjmiadGreat
open Go.RowKit
theorem gather_4:zdL 4:=zdf 4
theorem gather_3:zdL 3:=zdf 3
end Go.Proofs.YtimfnpjcedjmiadGreat
