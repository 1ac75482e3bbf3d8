/- Lemmas. -/
import Derived.Test.YtimfnpjcedjmiadGreatK34
set_option maxRecDepth 100000
set_option maxHeartbeats 64000000
set_option linter.all false
namespace Go.Proofs.YtimfnpjcedjmiadGreat
open Go.RowKit
theorem plug_1 : zj5 1 := zhO 1
theorem plug_2 : zj5 2 := zhO 2
theorem plug_3 : zj5 3 := zhO 3
theorem plug_4 : zj5 4 := zhO 4
end Go.Proofs.YtimfnpjcedjmiadGreat
