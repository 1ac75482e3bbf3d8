/- Lemmas. -/
import Derived.Test.YtimfnpjcedjmiadGreatK33
set_option maxRecDepth 100000
set_option maxHeartbeats 64000000
set_option linter.all false
namespace Go.Proofs.YtimfnpjcedjmiadGreat
open Go.RowKit
theorem gather_1:zdU 1:=zdm 1
theorem gather_2:zdU 2:=zdm 2
end Go.Proofs.YtimfnpjcedjmiadGreat
