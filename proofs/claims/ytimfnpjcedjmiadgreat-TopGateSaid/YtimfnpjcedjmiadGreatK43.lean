/- Lemmas. -/
import Derived.Test.YtimfnpjcedjmiadGreatK39
set_option maxRecDepth 100000
set_option maxHeartbeats 64000000
set_option linter.all false
namespace Go.Proofs.YtimfnpjcedjmiadGreat
open Go.RowKit
theorem del_1:DelS 1:=zmD 1
theorem del_2:DelS 2:=zmD 2
theorem del_3:DelS 3:=zmD 3
theorem del_4:DelS 4:=zmD 4
end Go.Proofs.YtimfnpjcedjmiadGreat
