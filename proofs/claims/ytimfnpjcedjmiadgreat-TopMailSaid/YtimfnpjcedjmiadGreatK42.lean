/- Lemmas. -/
import Derived.Test.YtimfnpjcedjmiadGreatK41
set_option maxRecDepth 100000
set_option maxHeartbeats 64000000
set_option linter.all false
namespace Go.Proofs.YtimfnpjcedjmiadGreat
open Go.RowKit
theorem plug_1:zjU 1:=zha 1
theorem plug_2:zjU 2:=zha 2
theorem plug_3:zjU 3:=zha 3
theorem plug_4:zjU 4:=zha 4
end Go.Proofs.YtimfnpjcedjmiadGreat
