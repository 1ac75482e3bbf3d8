/- Lemmas. -/
import Derived.Test.YtimfnpjcedjmiadGreatK33
set_option maxRecDepth 100000
set_option maxHeartbeats 64000000
set_option linter.all false
namespace Go.Proofs.YtimfnpjcedjmiadGreat
open Go.RowKit
theorem gather_6:zdU 6:=zdm 6
end Go.Proofs.YtimfnpjcedjmiadGreat
