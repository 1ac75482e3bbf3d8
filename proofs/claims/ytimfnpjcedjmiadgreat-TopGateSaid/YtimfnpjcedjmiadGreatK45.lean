/- Lemmas. -/
import Derived.Test.YtimfnpjcedjmiadGreatK44
set_option maxRecDepth 100000
set_option maxHeartbeats 64000000
set_option linter.all false
namespace Go.Proofs.YtimfnpjcedjmiadGreat
open Go.RowKit
theorem round_4:zfV 4:=zeh 4
theorem round_5:zfV 5:=zeh 5
theorem round_6:zfV 6:=zeh 6
end Go.Proofs.YtimfnpjcedjmiadGreat
