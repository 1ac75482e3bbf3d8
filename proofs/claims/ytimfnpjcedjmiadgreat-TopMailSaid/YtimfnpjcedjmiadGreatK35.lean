/- Lemmas. -/
import Derived.Test.YtimfnpjcedjmiadGreatK33
set_option maxRecDepth 100000
set_option maxHeartbeats 64000000
set_option linter.all false
namespace Go.Proofs.YtimfnpjcedjmiadGreat
open Go.RowKit
theorem new_1:NewS 1:=zmh 1
theorem new_2:NewS 2:=zmh 2
theorem new_3:NewS 3:=zmh 3
theorem new_4:NewS 4:=zmh 4
end Go.Proofs.YtimfnpjcedjmiadGreat
