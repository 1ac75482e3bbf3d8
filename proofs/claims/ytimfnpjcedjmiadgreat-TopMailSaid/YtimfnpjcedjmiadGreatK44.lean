/- Lemmas. -/
import Derived.Test.YtimfnpjcedjmiadGreatK41
set_option maxRecDepth 100000
set_option maxHeartbeats 64000000
set_option linter.all false
namespace Go.Proofs.YtimfnpjcedjmiadGreat
open Go.RowKit
theorem del_1:DelS 1:=zmp 1
theorem del_2:DelS 2:=zmp 2
theorem del_3:DelS 3:=zmp 3
theorem del_4:DelS 4:=zmp 4
end Go.Proofs.YtimfnpjcedjmiadGreat
