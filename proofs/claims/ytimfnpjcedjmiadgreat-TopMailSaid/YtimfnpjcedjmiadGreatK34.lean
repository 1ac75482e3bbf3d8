/- Lemmas. -/
import Derived.Test.YtimfnpjcedjmiadGreatK33
set_option maxRecDepth 100000
set_option maxHeartbeats 64000000
set_option linter.all false
namespace Go.Proofs.YtimfnpjcedjmiadGreat
open Go.RowKit
theorem new_5:NewS 5:=zmh 5
theorem new_6:NewS 6:=zmh 6
end Go.Proofs.YtimfnpjcedjmiadGreat
