/- Lemmas. -/
import Derived.Test.YtimfnpjcedjmiadGreatK39
set_option maxRecDepth 100000
set_option maxHeartbeats 64000000
set_option linter.all false
namespace Go.Proofs.YtimfnpjcedjmiadGreat
open Go.RowKit
theorem plug_1:zjM 1:=zh2 1
theorem plug_2:zjM 2:=zh2 2
theorem plug_3:zjM 3:=zh2 3
theorem plug_4:zjM 4:=zh2 4
end Go.Proofs.YtimfnpjcedjmiadGreat
