/-
  '==' and '!=' between structs of the program's own.
-/
import Derived.Test.YtimfnpjcedjmiaaDoorBase
namespace Go.Proofs.YtimfnpjcedjmiaaDoor
open Go.RowKit
end Go.Proofs.YtimfnpjcedjmiaaDoor
