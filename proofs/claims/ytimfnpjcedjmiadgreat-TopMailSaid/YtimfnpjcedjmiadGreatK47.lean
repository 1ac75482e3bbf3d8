/- Lemmas. -/
import Derived.Test.YtimfnpjcedjmiadGreatK45
set_option maxRecDepth 100000
set_option maxHeartbeats 64000000
set_option linter.all false
namespace Go.Proofs.YtimfnpjcedjmiadGreat
open Go.RowKit
theorem round_1:zfh 1:=zfE 1
theorem round_2:zfh 2:=zfE 2
theorem round_3:zfh 3:=zfE 3
end Go.Proofs.YtimfnpjcedjmiadGreat
