/- Lemmas. -/
import Derived.Test.YtimfnpjcedjmiadGreatK32
set_option maxRecDepth 100000
set_option maxHeartbeats 64000000
set_option linter.all false
namespace Go.Proofs.YtimfnpjcedjmiadGreat
open Go.RowKit
theorem new_1:NewS 1:=zmE 1
theorem new_2:NewS 2:=zmE 2
theorem new_3:NewS 3:=zmE 3
theorem new_4:NewS 4:=zmE 4
end Go.Proofs.YtimfnpjcedjmiadGreat
