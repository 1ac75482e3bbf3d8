/- Lemmas. -/
import Derived.Test.YtimfnpjcedjmiadGreatK45
set_option maxRecDepth 100000
set_option maxHeartbeats 64000000
set_option linter.all false
namespace Go.Proofs.YtimfnpjcedjmiadGreat
open Go.RowKit
theorem rst_5:RstS 5:=zm7 5
theorem rst_6:RstS 6:=zm7 6
end Go.Proofs.YtimfnpjcedjmiadGreat
