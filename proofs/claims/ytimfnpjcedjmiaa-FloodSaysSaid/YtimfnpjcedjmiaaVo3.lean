/-
  Words that my texts share: states.
-/
import Derived.Test.YtimfnpjcedjmiaaVoc
namespace Go.Proofs.Ytimfnpjcedjmiaa
open Go.RowKit
/-- States: owner, number, edges. -/
abbrev St3 := Int × Int × List (Int × Int)
def stRow (s : St3) : List AV := [.v (.int .i64 s.1), .v (.int .i64 s.2.1), .sl 2 (s.2.2.map opRow) none]
end Go.Proofs.Ytimfnpjcedjmiaa
