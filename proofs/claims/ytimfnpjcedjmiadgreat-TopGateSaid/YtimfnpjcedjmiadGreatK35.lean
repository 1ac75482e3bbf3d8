/- Lemmas. -/
import Derived.Test.YtimfnpjcedjmiadGreatK31
set_option maxRecDepth 100000
set_option maxHeartbeats 64000000
set_option linter.all false
namespace Go.Proofs.YtimfnpjcedjmiadGreat
open Go.RowKit
theorem gather_5:zdO 5:=zd8 5
end Go.Proofs.YtimfnpjcedjmiadGreat
