/- Lemmas. -/
import Derived.Test.YtimfnpjcedjmiadGreatK33
set_option maxRecDepth 100000
set_option maxHeartbeats 64000000
set_option linter.all false
namespace Go.Proofs.YtimfnpjcedjmiadGreat
open Go.RowKit
theorem gather_4:zdU 4:=zdm 4
theorem gather_3:zdU 3:=zdm 3
end Go.Proofs.YtimfnpjcedjmiadGreat
