/-
  No cell of these rows narrows 'for every input' (looked for: loops, veiled, ifaces, maps, wideKeys, modest, calm, conditions, laid).
  DERIVED. THE GIVEN ROWS OF THIS SEAT. 6 by the template 'for every input the law returns true; each argument reads behind the call as it read before'; 0 by the template 'total and deterministic' (their statements: YtimfnpjcedjmiacTotals.lean).
  GIVEN WITH THE SEED: the statements are not yours to turn. If you find one false, say at which input.
  Laid BY PROGRAM, IN A SANDBOX (cutbox-rows.mjs): the forced cells as the released guide's own fill.sh prints them over the translation e6f57f2cb1b5740d… (all of the seat's roots in one cut). By AI agents, Wed Nov 11 2026. No macro, syntax, notation, axiom, sorry.
-/
import Derived.Test.YtimfnpjcedjmiacChecked
import GoSem.Claim
import GoSem.ClaimJoined
import GoSem.ClaimMapViews
import Derived.JoinedTies
import Derived.KernelRfl
namespace Go.Proofs.Ytimfnpjcedjmiac
/- THE CELL 'sum', in the pinned program and in every row, IS THE sha256 OF THE DUMP (.gsa) THAT YtimfnpjcedjmiacProg.lean LOADS. Nothing in Lean hashes anything: it is a label: what it is worth is what the hold of that sum in a sandbox is worth. -/
noncomputable def Try.pinned : Pinned := { name := "ytimfnpjcedjmiac", sum := "e6f57f2cb1b5740dcdc1e379fe40f3fb0e4d73bdf8c4083f30c3e90b106c2bff", checked := Try.checked }
namespace Rows
def none {H : Type} : Left H := { results := [], args := [] }

/-- 'towpathtop.TopTimed': WHATEVER THE INPUT: true; the input reads as it did. -/
def topTimedSpec : ChangeSpec := { name := "topTimed", fn := fun _ => fun
  | [d1, d2] => { results := [.lit (.bool true)], args := [d1, d2] }
  | _ => none }
def topTimedRow : OpenClaim := { program := "ytimfnpjcedjmiac", sum := "e6f57f2cb1b5740dcdc1e379fe40f3fb0e4d73bdf8c4083f30c3e90b106c2bff", func := "towpath/towpathtop.TopTimed", spec := "topTimed", apart := false }
def TopTimedSaid : Prop := topTimedRow.holds Try.pinned (OpenSpec.ofChange topTimedSpec)

/-- ITS FALSE NEIGHBOUR: 'it returns false'. Refute it at one input. -/
def topTimedWrong : ChangeSpec := { name := "topTimed", fn := fun _ => fun
  | [d1, d2] => { results := [.lit (.bool false)], args := [d1, d2] }
  | _ => none }
def TopTimedWrongFalsely : Prop := topTimedRow.holds Try.pinned (OpenSpec.ofChange topTimedWrong)

/-- 'towpathtop.TopState': WHATEVER THE INPUT: true; the input reads as it did. -/
def topStateSpec : ChangeSpec := { name := "topState", fn := fun _ => fun
  | [d1, d2, d3] => { results := [.lit (.bool true)], args := [d1, d2, d3] }
  | _ => none }
def topStateRow : OpenClaim := { program := "ytimfnpjcedjmiac", sum := "e6f57f2cb1b5740dcdc1e379fe40f3fb0e4d73bdf8c4083f30c3e90b106c2bff", func := "towpath/towpathtop.TopState", spec := "topState", unfollowed := true, recurses := true, apart := false }
def TopStateSaid : Prop := topStateRow.holds Try.pinned (OpenSpec.ofChange topStateSpec)

/-- ITS FALSE NEIGHBOUR: 'it returns false'. Refute it at one input. -/
def topStateWrong : ChangeSpec := { name := "topState", fn := fun _ => fun
  | [d1, d2, d3] => { results := [.lit (.bool false)], args := [d1, d2, d3] }
  | _ => none }
def TopStateWrongFalsely : Prop := topStateRow.holds Try.pinned (OpenSpec.ofChange topStateWrong)

/-- 'towpathtop.TopNewest': WHATEVER THE INPUT: true; the input reads as it did. -/
def topNewestSpec : ChangeSpec := { name := "topNewest", fn := fun _ => fun
  | [d1, d2] => { results := [.lit (.bool true)], args := [d1, d2] }
  | _ => none }
def topNewestRow : OpenClaim := { program := "ytimfnpjcedjmiac", sum := "e6f57f2cb1b5740dcdc1e379fe40f3fb0e4d73bdf8c4083f30c3e90b106c2bff", func := "towpath/towpathtop.TopNewest", spec := "topNewest", unfollowed := true, recurses := true, apart := false }
def TopNewestSaid : Prop := topNewestRow.holds Try.pinned (OpenSpec.ofChange topNewestSpec)

/-- ITS FALSE NEIGHBOUR: 'it returns false'. Refute it at one input. -/
def topNewestWrong : ChangeSpec := { name := "topNewest", fn := fun _ => fun
  | [d1, d2] => { results := [.lit (.bool false)], args := [d1, d2] }
  | _ => none }
def TopNewestWrongFalsely : Prop := topNewestRow.holds Try.pinned (OpenSpec.ofChange topNewestWrong)

/-- 'towpathtop.TopSilence': WHATEVER THE INPUT: true; the input reads as it did. -/
def topSilenceSpec : ChangeSpec := { name := "topSilence", fn := fun _ => fun
  | [d1, d2, d3] => { results := [.lit (.bool true)], args := [d1, d2, d3] }
  | _ => none }
def topSilenceRow : OpenClaim := { program := "ytimfnpjcedjmiac", sum := "e6f57f2cb1b5740dcdc1e379fe40f3fb0e4d73bdf8c4083f30c3e90b106c2bff", func := "towpath/towpathtop.TopSilence", spec := "topSilence", apart := false }
def TopSilenceSaid : Prop := topSilenceRow.holds Try.pinned (OpenSpec.ofChange topSilenceSpec)

/-- ITS FALSE NEIGHBOUR: 'it returns false'. Refute it at one input. -/
def topSilenceWrong : ChangeSpec := { name := "topSilence", fn := fun _ => fun
  | [d1, d2, d3] => { results := [.lit (.bool false)], args := [d1, d2, d3] }
  | _ => none }
def TopSilenceWrongFalsely : Prop := topSilenceRow.holds Try.pinned (OpenSpec.ofChange topSilenceWrong)

/-- 'towpathtop.TopSpread': WHATEVER THE INPUT: true; the input reads as it did. -/
def topSpreadSpec : ChangeSpec := { name := "topSpread", fn := fun _ => fun
  | [d1, d2] => { results := [.lit (.bool true)], args := [d1, d2] }
  | _ => none }
def topSpreadRow : OpenClaim := { program := "ytimfnpjcedjmiac", sum := "e6f57f2cb1b5740dcdc1e379fe40f3fb0e4d73bdf8c4083f30c3e90b106c2bff", func := "towpath/towpathtop.TopSpread", spec := "topSpread", unfollowed := true, recurses := true, apart := false }
def TopSpreadSaid : Prop := topSpreadRow.holds Try.pinned (OpenSpec.ofChange topSpreadSpec)

/-- ITS FALSE NEIGHBOUR: 'it returns false'. Refute it at one input. -/
def topSpreadWrong : ChangeSpec := { name := "topSpread", fn := fun _ => fun
  | [d1, d2] => { results := [.lit (.bool false)], args := [d1, d2] }
  | _ => none }
def TopSpreadWrongFalsely : Prop := topSpreadRow.holds Try.pinned (OpenSpec.ofChange topSpreadWrong)

/-- 'towpathtop.TopOpened': WHATEVER THE INPUT: true; the input reads as it did. -/
def topOpenedSpec : ChangeSpec := { name := "topOpened", fn := fun _ => fun
  | [d1, d2, d3, d4, d5] => { results := [.lit (.bool true)], args := [d1, d2, d3, d4, d5] }
  | _ => none }
def topOpenedRow : OpenClaim := { program := "ytimfnpjcedjmiac", sum := "e6f57f2cb1b5740dcdc1e379fe40f3fb0e4d73bdf8c4083f30c3e90b106c2bff", func := "towpath/towpathtop.TopOpened", spec := "topOpened", unfollowed := true, recurses := true, apart := false }
def TopOpenedSaid : Prop := topOpenedRow.holds Try.pinned (OpenSpec.ofChange topOpenedSpec)

/-- ITS FALSE NEIGHBOUR: 'it returns false'. Refute it at one input. -/
def topOpenedWrong : ChangeSpec := { name := "topOpened", fn := fun _ => fun
  | [d1, d2, d3, d4, d5] => { results := [.lit (.bool false)], args := [d1, d2, d3, d4, d5] }
  | _ => none }
def TopOpenedWrongFalsely : Prop := topOpenedRow.holds Try.pinned (OpenSpec.ofChange topOpenedWrong)

/- THE SECOND FORM. 'bulk': how many values and letters a reading holds, each counted each time it is reached (what is shared counts as often as it is met; a slice's spare places count too). A statement '..UptoSaid' is the law's where the arguments, and the package variables that the reading takes, are together of bulk at most 1048576: NARROWER than '..Said'. Prove '..Said' where nothing that the law and all that it calls make is longer than what came in: it says more and counts as full. Else prove '..UptoSaid'. A law counts once. -/
mutual
def uptoBulk {H : Type} : DataW H → Nat
  | .lit (.string bytes) => bytes.length + 1
  | .lit _ => 1
  | .nil => 1
  | .ptr d => uptoBulk d + 1
  | .slice elems spare => uptoBulkAll elems + uptoBulkAll spare + 1
  | .agg parts => uptoBulkAll parts + 1
  | .iface _ d => uptoBulk d + 1
  | .map entries => uptoBulkEntries entries + 1
  | .held _ => 1
def uptoBulkAll {H : Type} : List (DataW H) → Nat
  | [] => 0
  | d :: r => uptoBulk d + uptoBulkAll r
def uptoBulkEntries {H : Type} : List (Lit × DataW H) → Nat
  | [] => 0
  | x :: r => uptoBulkEntry x + uptoBulkEntries r
def uptoBulkEntry {H : Type} : Lit × DataW H → Nat
  | (.string bytes, d) => bytes.length + uptoBulk d + 1
  | (_, d) => uptoBulk d + 1
 end
def uptoSmall : (H : Type) → List (DataW H) → Bool := fun _ ds => decide (uptoBulkAll ds ≤ 1048576)
def OpenSpec.upto (s : _root_.Go.ChangeSpec) : _root_.Go.OpenSpec := { _root_.Go.OpenSpec.ofChange s with cond := some uptoSmall }

/-- 'towpathtop.TopTimed', WHERE WHAT IT READS IS OF BULK AT MOST 1048576: true; the input reads as it did. -/
def topTimedUptoRow : OpenClaim := { program := "ytimfnpjcedjmiac", sum := "e6f57f2cb1b5740dcdc1e379fe40f3fb0e4d73bdf8c4083f30c3e90b106c2bff", func := "towpath/towpathtop.TopTimed", spec := "topTimed", apart := false, narrowed := true }
def TopTimedUptoSaid : Prop := topTimedUptoRow.holds Try.pinned (OpenSpec.upto topTimedSpec)

/-- 'towpathtop.TopState', WHERE WHAT IT READS IS OF BULK AT MOST 1048576: true; the input reads as it did. -/
def topStateUptoRow : OpenClaim := { program := "ytimfnpjcedjmiac", sum := "e6f57f2cb1b5740dcdc1e379fe40f3fb0e4d73bdf8c4083f30c3e90b106c2bff", func := "towpath/towpathtop.TopState", spec := "topState", unfollowed := true, recurses := true, apart := false, narrowed := true }
def TopStateUptoSaid : Prop := topStateUptoRow.holds Try.pinned (OpenSpec.upto topStateSpec)

/-- 'towpathtop.TopNewest', WHERE WHAT IT READS IS OF BULK AT MOST 1048576: true; the input reads as it did. -/
def topNewestUptoRow : OpenClaim := { program := "ytimfnpjcedjmiac", sum := "e6f57f2cb1b5740dcdc1e379fe40f3fb0e4d73bdf8c4083f30c3e90b106c2bff", func := "towpath/towpathtop.TopNewest", spec := "topNewest", unfollowed := true, recurses := true, apart := false, narrowed := true }
def TopNewestUptoSaid : Prop := topNewestUptoRow.holds Try.pinned (OpenSpec.upto topNewestSpec)

/-- 'towpathtop.TopSilence', WHERE WHAT IT READS IS OF BULK AT MOST 1048576: true; the input reads as it did. -/
def topSilenceUptoRow : OpenClaim := { program := "ytimfnpjcedjmiac", sum := "e6f57f2cb1b5740dcdc1e379fe40f3fb0e4d73bdf8c4083f30c3e90b106c2bff", func := "towpath/towpathtop.TopSilence", spec := "topSilence", apart := false, narrowed := true }
def TopSilenceUptoSaid : Prop := topSilenceUptoRow.holds Try.pinned (OpenSpec.upto topSilenceSpec)

/-- 'towpathtop.TopSpread', WHERE WHAT IT READS IS OF BULK AT MOST 1048576: true; the input reads as it did. -/
def topSpreadUptoRow : OpenClaim := { program := "ytimfnpjcedjmiac", sum := "e6f57f2cb1b5740dcdc1e379fe40f3fb0e4d73bdf8c4083f30c3e90b106c2bff", func := "towpath/towpathtop.TopSpread", spec := "topSpread", unfollowed := true, recurses := true, apart := false, narrowed := true }
def TopSpreadUptoSaid : Prop := topSpreadUptoRow.holds Try.pinned (OpenSpec.upto topSpreadSpec)

/-- 'towpathtop.TopOpened', WHERE WHAT IT READS IS OF BULK AT MOST 1048576: true; the input reads as it did. -/
def topOpenedUptoRow : OpenClaim := { program := "ytimfnpjcedjmiac", sum := "e6f57f2cb1b5740dcdc1e379fe40f3fb0e4d73bdf8c4083f30c3e90b106c2bff", func := "towpath/towpathtop.TopOpened", spec := "topOpened", unfollowed := true, recurses := true, apart := false, narrowed := true }
def TopOpenedUptoSaid : Prop := topOpenedUptoRow.holds Try.pinned (OpenSpec.upto topOpenedSpec)

end Rows
end Go.Proofs.Ytimfnpjcedjmiac
