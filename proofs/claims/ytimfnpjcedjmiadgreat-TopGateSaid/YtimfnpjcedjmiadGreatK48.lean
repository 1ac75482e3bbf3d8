/- Lemmas. -/
import Derived.Test.YtimfnpjcedjmiadGreatK44
set_option maxRecDepth 100000
set_option maxHeartbeats 64000000
set_option linter.all false
namespace Go.Proofs.YtimfnpjcedjmiadGreat
open Go.RowKit
theorem rst_1:RstS 1:=zlg 1
theorem rst_2:RstS 2:=zlg 2
theorem rst_3:RstS 3:=zlg 3
theorem rst_4:RstS 4:=zlg 4
end Go.Proofs.YtimfnpjcedjmiadGreat
