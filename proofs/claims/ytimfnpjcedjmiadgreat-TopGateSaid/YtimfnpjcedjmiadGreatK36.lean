/- Lemmas. -/
import Derived.Test.YtimfnpjcedjmiadGreatK31
set_option maxRecDepth 100000
set_option maxHeartbeats 64000000
set_option linter.all false
namespace Go.Proofs.YtimfnpjcedjmiadGreat
open Go.RowKit
theorem gather_4:zdO 4:=zd8 4
theorem gather_3:zdO 3:=zd8 3
end Go.Proofs.YtimfnpjcedjmiadGreat
