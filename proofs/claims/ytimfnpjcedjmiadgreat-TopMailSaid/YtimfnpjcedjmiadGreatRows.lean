/-
  No cell of these rows narrows 'for every input' (looked for: loops, veiled, ifaces, maps, wideKeys, modest, calm, conditions, laid).
  DERIVED. THE GIVEN ROWS OF THIS SEAT. 4 by the template 'for every input the law returns true; each argument reads behind the call as it read before'; 0 by the template 'total and deterministic' (their statements: YtimfnpjcedjmiadGreatTotals.lean).
  GIVEN WITH THE SEED: the statements are not yours to turn. If you find one false, say at which input.
  Laid BY PROGRAM, IN A SANDBOX (cutbox-rows.mjs): the forced cells as the released guide's own fill.sh prints them over the translation 863b3a1b56e52926… (all of the seat's roots in one cut). By AI agents, Wed Nov 11 2026. No macro, syntax, notation, axiom, sorry.
-/
import Derived.Test.YtimfnpjcedjmiadGreatChecked
import GoSem.Claim
import GoSem.ClaimJoined
import GoSem.ClaimMapViews
import Derived.JoinedTies
import Derived.KernelRfl
namespace Go.Proofs.YtimfnpjcedjmiadGreat
/- THE CELL 'sum', in the pinned program and in every row, IS THE sha256 OF THE DUMP (.gsa) THAT YtimfnpjcedjmiadGreatProg.lean LOADS. Nothing in Lean hashes anything: it is a label: what it is worth is what the hold of that sum in a sandbox is worth. -/
noncomputable def Tryz.pinned : Pinned := { name := "ytimfnpjcedjmiadgreat", sum := "863b3a1b56e52926aa6cd513be728bf0062b6783f541071a95bd7b472f58b9ad", checked := Tryz.checked }
namespace Rows
def none {H : Type} : Left H := { results := [], args := [] }

/-- 'towpathtop.TopTell': WHATEVER THE INPUT: true; the input reads as it did. -/
def topTellSpec : ChangeSpec := { name := "topTell", fn := fun _ => fun
  | [d1, d2, d3] => { results := [.lit (.bool true)], args := [d1, d2, d3] }
  | _ => none }
def topTellRow : OpenClaim := { program := "ytimfnpjcedjmiadgreat", sum := "863b3a1b56e52926aa6cd513be728bf0062b6783f541071a95bd7b472f58b9ad", func := "towpath/towpathtop.TopTell", spec := "topTell", unfollowed := true, recurses := true, plainKeys := false, apart := false }
def TopTellSaid : Prop := topTellRow.holds Tryz.pinned (OpenSpec.ofChange topTellSpec)

/-- ITS FALSE NEIGHBOUR: 'it returns false'. Refute it at one input. -/
def topTellWrong : ChangeSpec := { name := "topTell", fn := fun _ => fun
  | [d1, d2, d3] => { results := [.lit (.bool false)], args := [d1, d2, d3] }
  | _ => none }
def TopTellWrongFalsely : Prop := topTellRow.holds Tryz.pinned (OpenSpec.ofChange topTellWrong)

/-- 'towpathtop.TopMail': WHATEVER THE INPUT: true; the input reads as it did. -/
def topMailSpec : ChangeSpec := { name := "topMail", fn := fun _ => fun
  | [d1, d2, d3] => { results := [.lit (.bool true)], args := [d1, d2, d3] }
  | _ => none }
def topMailRow : OpenClaim := { program := "ytimfnpjcedjmiadgreat", sum := "863b3a1b56e52926aa6cd513be728bf0062b6783f541071a95bd7b472f58b9ad", func := "towpath/towpathtop.TopMail", spec := "topMail", unfollowed := true, recurses := true, plainKeys := false, apart := false }
def TopMailSaid : Prop := topMailRow.holds Tryz.pinned (OpenSpec.ofChange topMailSpec)

/-- ITS FALSE NEIGHBOUR: 'it returns false'. Refute it at one input. -/
def topMailWrong : ChangeSpec := { name := "topMail", fn := fun _ => fun
  | [d1, d2, d3] => { results := [.lit (.bool false)], args := [d1, d2, d3] }
  | _ => none }
def TopMailWrongFalsely : Prop := topMailRow.holds Tryz.pinned (OpenSpec.ofChange topMailWrong)

/-- 'towpathtop.TopDrawn': WHATEVER THE INPUT: true; the input reads as it did. -/
def topDrawnSpec : ChangeSpec := { name := "topDrawn", fn := fun _ => fun
  | [d1, d2, d3, d4] => { results := [.lit (.bool true)], args := [d1, d2, d3, d4] }
  | _ => none }
def topDrawnRow : OpenClaim := { program := "ytimfnpjcedjmiadgreat", sum := "863b3a1b56e52926aa6cd513be728bf0062b6783f541071a95bd7b472f58b9ad", func := "towpath/towpathtop.TopDrawn", spec := "topDrawn", unfollowed := true, recurses := true, plainKeys := false, apart := false }
def TopDrawnSaid : Prop := topDrawnRow.holds Tryz.pinned (OpenSpec.ofChange topDrawnSpec)

/-- ITS FALSE NEIGHBOUR: 'it returns false'. Refute it at one input. -/
def topDrawnWrong : ChangeSpec := { name := "topDrawn", fn := fun _ => fun
  | [d1, d2, d3, d4] => { results := [.lit (.bool false)], args := [d1, d2, d3, d4] }
  | _ => none }
def TopDrawnWrongFalsely : Prop := topDrawnRow.holds Tryz.pinned (OpenSpec.ofChange topDrawnWrong)

/-- 'towpathtop.TopGate': WHATEVER THE INPUT: true; the input reads as it did. -/
def topGateSpec : ChangeSpec := { name := "topGate", fn := fun _ => fun
  | [d1, d2, d3] => { results := [.lit (.bool true)], args := [d1, d2, d3] }
  | _ => none }
def topGateRow : OpenClaim := { program := "ytimfnpjcedjmiadgreat", sum := "863b3a1b56e52926aa6cd513be728bf0062b6783f541071a95bd7b472f58b9ad", func := "towpath/towpathtop.TopGate", spec := "topGate", unfollowed := true, recurses := true, plainKeys := false, apart := false }
def TopGateSaid : Prop := topGateRow.holds Tryz.pinned (OpenSpec.ofChange topGateSpec)

/-- ITS FALSE NEIGHBOUR: 'it returns false'. Refute it at one input. -/
def topGateWrong : ChangeSpec := { name := "topGate", fn := fun _ => fun
  | [d1, d2, d3] => { results := [.lit (.bool false)], args := [d1, d2, d3] }
  | _ => none }
def TopGateWrongFalsely : Prop := topGateRow.holds Tryz.pinned (OpenSpec.ofChange topGateWrong)

/- THE SECOND FORM. 'bulk': how many values and letters a reading holds, each counted each time it is reached (what is shared counts as often as it is met; a slice's spare places count too). A statement '..UptoSaid' is the law's where the arguments, and the package variables that the reading takes, are together of bulk at most 1048576: NARROWER than '..Said'. Prove '..Said' where nothing that the law and all that it calls make is longer than what came in: it says more and counts as full. Else prove '..UptoSaid'. A law counts once. -/
mutual
def uptoBulk {H : Type} : DataW H → Nat
  | .lit (.string bytes) => bytes.length + 1
  | .lit _ => 1
  | .nil => 1
  | .ptr d => uptoBulk d + 1
  | .slice elems spare => uptoBulkAll elems + uptoBulkAll spare + 1
  | .agg parts => uptoBulkAll parts + 1
  | .iface _ d => uptoBulk d + 1
  | .map entries => uptoBulkEntries entries + 1
  | .held _ => 1
def uptoBulkAll {H : Type} : List (DataW H) → Nat
  | [] => 0
  | d :: r => uptoBulk d + uptoBulkAll r
def uptoBulkEntries {H : Type} : List (Lit × DataW H) → Nat
  | [] => 0
  | x :: r => uptoBulkEntry x + uptoBulkEntries r
def uptoBulkEntry {H : Type} : Lit × DataW H → Nat
  | (.string bytes, d) => bytes.length + uptoBulk d + 1
  | (_, d) => uptoBulk d + 1
 end
def uptoSmall : (H : Type) → List (DataW H) → Bool := fun _ ds => decide (uptoBulkAll ds ≤ 1048576)
def OpenSpec.upto (s : _root_.Go.ChangeSpec) : _root_.Go.OpenSpec := { _root_.Go.OpenSpec.ofChange s with cond := some uptoSmall }

/-- 'towpathtop.TopTell', WHERE WHAT IT READS IS OF BULK AT MOST 1048576: true; the input reads as it did. -/
def topTellUptoRow : OpenClaim := { program := "ytimfnpjcedjmiadgreat", sum := "863b3a1b56e52926aa6cd513be728bf0062b6783f541071a95bd7b472f58b9ad", func := "towpath/towpathtop.TopTell", spec := "topTell", unfollowed := true, recurses := true, plainKeys := false, apart := false, narrowed := true }
def TopTellUptoSaid : Prop := topTellUptoRow.holds Tryz.pinned (OpenSpec.upto topTellSpec)

/-- 'towpathtop.TopMail', WHERE WHAT IT READS IS OF BULK AT MOST 1048576: true; the input reads as it did. -/
def topMailUptoRow : OpenClaim := { program := "ytimfnpjcedjmiadgreat", sum := "863b3a1b56e52926aa6cd513be728bf0062b6783f541071a95bd7b472f58b9ad", func := "towpath/towpathtop.TopMail", spec := "topMail", unfollowed := true, recurses := true, plainKeys := false, apart := false, narrowed := true }
def TopMailUptoSaid : Prop := topMailUptoRow.holds Tryz.pinned (OpenSpec.upto topMailSpec)

/-- 'towpathtop.TopDrawn', WHERE WHAT IT READS IS OF BULK AT MOST 1048576: true; the input reads as it did. -/
def topDrawnUptoRow : OpenClaim := { program := "ytimfnpjcedjmiadgreat", sum := "863b3a1b56e52926aa6cd513be728bf0062b6783f541071a95bd7b472f58b9ad", func := "towpath/towpathtop.TopDrawn", spec := "topDrawn", unfollowed := true, recurses := true, plainKeys := false, apart := false, narrowed := true }
def TopDrawnUptoSaid : Prop := topDrawnUptoRow.holds Tryz.pinned (OpenSpec.upto topDrawnSpec)

/-- 'towpathtop.TopGate', WHERE WHAT IT READS IS OF BULK AT MOST 1048576: true; the input reads as it did. -/
def topGateUptoRow : OpenClaim := { program := "ytimfnpjcedjmiadgreat", sum := "863b3a1b56e52926aa6cd513be728bf0062b6783f541071a95bd7b472f58b9ad", func := "towpath/towpathtop.TopGate", spec := "topGate", unfollowed := true, recurses := true, plainKeys := false, apart := false, narrowed := true }
def TopGateUptoSaid : Prop := topGateUptoRow.holds Tryz.pinned (OpenSpec.upto topGateSpec)

end Rows
end Go.Proofs.YtimfnpjcedjmiadGreat
