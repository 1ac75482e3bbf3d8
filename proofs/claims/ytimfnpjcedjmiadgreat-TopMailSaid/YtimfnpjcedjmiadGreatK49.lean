/- Lemmas. -/
import Derived.Test.YtimfnpjcedjmiadGreatK45
set_option maxRecDepth 100000
set_option maxHeartbeats 64000000
set_option linter.all false
namespace Go.Proofs.YtimfnpjcedjmiadGreat
open Go.RowKit
theorem rst_1:RstS 1:=zm7 1
theorem rst_2:RstS 2:=zm7 2
theorem rst_3:RstS 3:=zm7 3
theorem rst_4:RstS 4:=zm7 4
end Go.Proofs.YtimfnpjcedjmiadGreat
