/- Lemmas. -/
import Derived.Test.YtimfnpjcedjmiadGreatK41
set_option maxRecDepth 100000
set_option maxHeartbeats 64000000
set_option linter.all false
namespace Go.Proofs.YtimfnpjcedjmiadGreat
open Go.RowKit
theorem del_5:DelS 5:=zmp 5
theorem del_6:DelS 6:=zmp 6
end Go.Proofs.YtimfnpjcedjmiadGreat
