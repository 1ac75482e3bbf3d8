/- Lemmas. -/
import Derived.Test.YtimfnpjcedjmiadGreatK41
set_option maxRecDepth 100000
set_option maxHeartbeats 64000000
set_option linter.all false
namespace Go.Proofs.YtimfnpjcedjmiadGreat
open Go.RowKit
theorem plug_1:zjq 1:=zh3 1
theorem plug_2:zjq 2:=zh3 2
theorem plug_3:zjq 3:=zh3 3
theorem plug_4:zjq 4:=zh3 4
end Go.Proofs.YtimfnpjcedjmiadGreat
