/- Lemmas. -/
import Derived.Test.YtimfnpjcedjmiadGreatK31
set_option maxRecDepth 100000
set_option maxHeartbeats 64000000
set_option linter.all false
namespace Go.Proofs.YtimfnpjcedjmiadGreat
open Go.RowKit
theorem new_1:NewS 1:=zlj 1
theorem new_2:NewS 2:=zlj 2
theorem new_3:NewS 3:=zlj 3
theorem new_4:NewS 4:=zlj 4
end Go.Proofs.YtimfnpjcedjmiadGreat
