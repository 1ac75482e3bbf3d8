/- Lemmas. -/
import Derived.Test.YtimfnpjcedjmiadGreatK31
set_option maxRecDepth 100000
set_option maxHeartbeats 64000000
set_option linter.all false
namespace Go.Proofs.YtimfnpjcedjmiadGreat
open Go.RowKit
theorem gather_1:zdO 1:=zd8 1
theorem gather_2:zdO 2:=zd8 2
end Go.Proofs.YtimfnpjcedjmiadGreat
