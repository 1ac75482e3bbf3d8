/- Lemmas. -/
import Derived.Test.YtimfnpjcedjmiadGreatK45
set_option maxRecDepth 100000
set_option maxHeartbeats 64000000
set_option linter.all false
namespace Go.Proofs.YtimfnpjcedjmiadGreat
open Go.RowKit
theorem round_4:zfh 4:=zfE 4
theorem round_5:zfh 5:=zfE 5
theorem round_6:zfh 6:=zfE 6
end Go.Proofs.YtimfnpjcedjmiadGreat
