/- Lemmas. -/
import Derived.Test.YtimfnpjcedjmiadGreatK38
set_option maxRecDepth 100000
set_option maxHeartbeats 64000000
set_option linter.all false
namespace Go.Proofs.YtimfnpjcedjmiadGreat
open Go.RowKit
theorem round_4 : zfV 4 := zes 4
theorem round_5 : zfV 5 := zes 5
theorem round_6 : zfV 6 := zes 6
end Go.Proofs.YtimfnpjcedjmiadGreat
