/- Lemmas. -/
import Derived.Test.YtimfnpjcedjmiadGreatK34
set_option maxRecDepth 100000
set_option maxHeartbeats 64000000
set_option linter.all false
namespace Go.Proofs.YtimfnpjcedjmiadGreat
open Go.RowKit
theorem del_1 : DelS 1 := zlo 1
theorem del_2 : DelS 2 := zlo 2
theorem del_3 : DelS 3 := zlo 3
theorem del_4 : DelS 4 := zlo 4
end Go.Proofs.YtimfnpjcedjmiadGreat
