/- Lemmas. -/
import Derived.Test.YtimfnpjcedjmiadGreatK45
set_option maxRecDepth 100000
set_option maxHeartbeats 64000000
set_option linter.all false
namespace Go.Proofs.YtimfnpjcedjmiadGreat
open Go.RowKit
theorem round_4:zf9 4:=zfL 4
theorem round_5:zf9 5:=zfL 5
theorem round_6:zf9 6:=zfL 6
end Go.Proofs.YtimfnpjcedjmiadGreat
