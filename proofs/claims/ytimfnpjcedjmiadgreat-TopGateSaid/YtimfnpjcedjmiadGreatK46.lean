/- Lemmas. -/
import Derived.Test.YtimfnpjcedjmiadGreatK44
set_option maxRecDepth 100000
set_option maxHeartbeats 64000000
set_option linter.all false
namespace Go.Proofs.YtimfnpjcedjmiadGreat
open Go.RowKit
theorem round_1:zfV 1:=zeh 1
theorem round_2:zfV 2:=zeh 2
theorem round_3:zfV 3:=zeh 3
end Go.Proofs.YtimfnpjcedjmiadGreat
