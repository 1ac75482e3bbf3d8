/- Lemmas. -/
import Derived.Test.YtimfnpjcedjmiadGreatK45
set_option maxRecDepth 100000
set_option maxHeartbeats 64000000
set_option linter.all false
namespace Go.Proofs.YtimfnpjcedjmiadGreat
open Go.RowKit
theorem round_1:zf9 1:=zfL 1
theorem round_2:zf9 2:=zfL 2
theorem round_3:zf9 3:=zfL 3
end Go.Proofs.YtimfnpjcedjmiadGreat
