/- Lemmas. -/
import Derived.Test.YtimfnpjcedjmiadGreatK45
set_option maxRecDepth 100000
set_option maxHeartbeats 64000000
set_option linter.all false
namespace Go.Proofs.YtimfnpjcedjmiadGreat
open Go.RowKit
theorem rst_1:RstS 1:=zmS 1
theorem rst_2:RstS 2:=zmS 2
theorem rst_3:RstS 3:=zmS 3
theorem rst_4:RstS 4:=zmS 4
end Go.Proofs.YtimfnpjcedjmiadGreat
