/-
  No cell of these rows narrows 'for every input' (looked for: loops, veiled, ifaces, maps, wideKeys, modest, calm, conditions, laid).
  DERIVED. THE GIVEN ROWS OF THIS SEAT. 10 by the template 'for every input the law returns true; each argument reads behind the call as it read before'; 0 by the template 'total and deterministic' (their statements: YtimfnpjcedjmiaaTotals.lean).
  GIVEN WITH THE SEED: the statements are not yours to turn. If you find one false, say at which input.
  Laid BY PROGRAM, IN A SANDBOX (cutbox-rows.mjs): the forced cells as the released guide's own fill.sh prints them over the translation 04a3e1eccd145ceb… (all of the seat's roots in one cut). By AI agents, Wed Nov 11 2026. No macro, syntax, notation, axiom, sorry.
-/
import Derived.Test.YtimfnpjcedjmiaaChecked
import GoSem.Claim
import GoSem.ClaimJoined
import GoSem.ClaimMapViews
import Derived.JoinedTies
import Derived.KernelRfl
namespace Go.Proofs.Ytimfnpjcedjmiaa
/- THE CELL 'sum', in the pinned program and in every row, IS THE sha256 OF THE DUMP (.gsa) THAT YtimfnpjcedjmiaaProg.lean LOADS. Nothing in Lean hashes anything: it is a label: what it is worth is what the hold of that sum in a sandbox is worth. -/
noncomputable def Try.pinned : Pinned := { name := "ytimfnpjcedjmiaa", sum := "04a3e1eccd145ceb72e141184d3646e0df25f7b334e836eecc0b4f1cb725cd53", checked := Try.checked }
namespace Rows
def none {H : Type} : Left H := { results := [], args := [] }

/-- 'towpathlaw.HelloSays': WHATEVER THE INPUT: true; the input reads as it did. -/
def helloSaysSpec : ChangeSpec := { name := "helloSays", fn := fun _ => fun
  | [d1, d2, d3, d4] => { results := [.lit (.bool true)], args := [d1, d2, d3, d4] }
  | _ => none }
def helloSaysRow : OpenClaim := { program := "ytimfnpjcedjmiaa", sum := "04a3e1eccd145ceb72e141184d3646e0df25f7b334e836eecc0b4f1cb725cd53", func := "towpath/towpathlaw.HelloSays", spec := "helloSays", apart := false }
def HelloSaysSaid : Prop := helloSaysRow.holds Try.pinned (OpenSpec.ofChange helloSaysSpec)

/-- ITS FALSE NEIGHBOUR: 'it returns false'. Refute it at one input. -/
def helloSaysWrong : ChangeSpec := { name := "helloSays", fn := fun _ => fun
  | [d1, d2, d3, d4] => { results := [.lit (.bool false)], args := [d1, d2, d3, d4] }
  | _ => none }
def HelloSaysWrongFalsely : Prop := helloSaysRow.holds Try.pinned (OpenSpec.ofChange helloSaysWrong)

/-- 'towpathlaw.PacketSays': WHATEVER THE INPUT: true; the input reads as it did. -/
def packetSaysSpec : ChangeSpec := { name := "packetSays", fn := fun _ => fun
  | [d1, d2] => { results := [.lit (.bool true)], args := [d1, d2] }
  | _ => none }
def packetSaysRow : OpenClaim := { program := "ytimfnpjcedjmiaa", sum := "04a3e1eccd145ceb72e141184d3646e0df25f7b334e836eecc0b4f1cb725cd53", func := "towpath/towpathlaw.PacketSays", spec := "packetSays", unfollowed := true, recurses := true, apart := false }
def PacketSaysSaid : Prop := packetSaysRow.holds Try.pinned (OpenSpec.ofChange packetSaysSpec)

/-- ITS FALSE NEIGHBOUR: 'it returns false'. Refute it at one input. -/
def packetSaysWrong : ChangeSpec := { name := "packetSays", fn := fun _ => fun
  | [d1, d2] => { results := [.lit (.bool false)], args := [d1, d2] }
  | _ => none }
def PacketSaysWrongFalsely : Prop := packetSaysRow.holds Try.pinned (OpenSpec.ofChange packetSaysWrong)

/-- 'towpathlaw.PolicySays': WHATEVER THE INPUT: true; the input reads as it did. -/
def policySaysSpec : ChangeSpec := { name := "policySays", fn := fun _ => fun
  | [d1, d2, d3, d4, d5] => { results := [.lit (.bool true)], args := [d1, d2, d3, d4, d5] }
  | _ => none }
def policySaysRow : OpenClaim := { program := "ytimfnpjcedjmiaa", sum := "04a3e1eccd145ceb72e141184d3646e0df25f7b334e836eecc0b4f1cb725cd53", func := "towpath/towpathlaw.PolicySays", spec := "policySays", apart := false }
def PolicySaysSaid : Prop := policySaysRow.holds Try.pinned (OpenSpec.ofChange policySaysSpec)

/-- ITS FALSE NEIGHBOUR: 'it returns false'. Refute it at one input. -/
def policySaysWrong : ChangeSpec := { name := "policySays", fn := fun _ => fun
  | [d1, d2, d3, d4, d5] => { results := [.lit (.bool false)], args := [d1, d2, d3, d4, d5] }
  | _ => none }
def PolicySaysWrongFalsely : Prop := policySaysRow.holds Try.pinned (OpenSpec.ofChange policySaysWrong)

/-- 'towpathlaw.WaysSays': WHATEVER THE INPUT: true; the input reads as it did. -/
def waysSaysSpec : ChangeSpec := { name := "waysSays", fn := fun _ => fun
  | [d1, d2, d3] => { results := [.lit (.bool true)], args := [d1, d2, d3] }
  | _ => none }
def waysSaysRow : OpenClaim := { program := "ytimfnpjcedjmiaa", sum := "04a3e1eccd145ceb72e141184d3646e0df25f7b334e836eecc0b4f1cb725cd53", func := "towpath/towpathlaw.WaysSays", spec := "waysSays", unfollowed := true, recurses := true, apart := false }
def WaysSaysSaid : Prop := waysSaysRow.holds Try.pinned (OpenSpec.ofChange waysSaysSpec)

/-- ITS FALSE NEIGHBOUR: 'it returns false'. Refute it at one input. -/
def waysSaysWrong : ChangeSpec := { name := "waysSays", fn := fun _ => fun
  | [d1, d2, d3] => { results := [.lit (.bool false)], args := [d1, d2, d3] }
  | _ => none }
def WaysSaysWrongFalsely : Prop := waysSaysRow.holds Try.pinned (OpenSpec.ofChange waysSaysWrong)

/-- 'towpathlaw.FrameSays': WHATEVER THE INPUT: true; the input reads as it did. -/
def frameSaysSpec : ChangeSpec := { name := "frameSays", fn := fun _ => fun
  | [d1, d2] => { results := [.lit (.bool true)], args := [d1, d2] }
  | _ => none }
def frameSaysRow : OpenClaim := { program := "ytimfnpjcedjmiaa", sum := "04a3e1eccd145ceb72e141184d3646e0df25f7b334e836eecc0b4f1cb725cd53", func := "towpath/towpathlaw.FrameSays", spec := "frameSays", apart := false }
def FrameSaysSaid : Prop := frameSaysRow.holds Try.pinned (OpenSpec.ofChange frameSaysSpec)

/-- ITS FALSE NEIGHBOUR: 'it returns false'. Refute it at one input. -/
def frameSaysWrong : ChangeSpec := { name := "frameSays", fn := fun _ => fun
  | [d1, d2] => { results := [.lit (.bool false)], args := [d1, d2] }
  | _ => none }
def FrameSaysWrongFalsely : Prop := frameSaysRow.holds Try.pinned (OpenSpec.ofChange frameSaysWrong)

/-- 'towpathlaw.AutoSays': WHATEVER THE INPUT: true; the input reads as it did. -/
def autoSaysSpec : ChangeSpec := { name := "autoSays", fn := fun _ => fun
  | [d1, d2] => { results := [.lit (.bool true)], args := [d1, d2] }
  | _ => none }
def autoSaysRow : OpenClaim := { program := "ytimfnpjcedjmiaa", sum := "04a3e1eccd145ceb72e141184d3646e0df25f7b334e836eecc0b4f1cb725cd53", func := "towpath/towpathlaw.AutoSays", spec := "autoSays", apart := false }
def AutoSaysSaid : Prop := autoSaysRow.holds Try.pinned (OpenSpec.ofChange autoSaysSpec)

/-- ITS FALSE NEIGHBOUR: 'it returns false'. Refute it at one input. -/
def autoSaysWrong : ChangeSpec := { name := "autoSays", fn := fun _ => fun
  | [d1, d2] => { results := [.lit (.bool false)], args := [d1, d2] }
  | _ => none }
def AutoSaysWrongFalsely : Prop := autoSaysRow.holds Try.pinned (OpenSpec.ofChange autoSaysWrong)

/-- 'towpathlaw.StateSays': WHATEVER THE INPUT: true; the input reads as it did. -/
def stateSaysSpec : ChangeSpec := { name := "stateSays", fn := fun _ => fun
  | [d1, d2, d3] => { results := [.lit (.bool true)], args := [d1, d2, d3] }
  | _ => none }
def stateSaysRow : OpenClaim := { program := "ytimfnpjcedjmiaa", sum := "04a3e1eccd145ceb72e141184d3646e0df25f7b334e836eecc0b4f1cb725cd53", func := "towpath/towpathlaw.StateSays", spec := "stateSays", unfollowed := true, recurses := true, apart := false }
def StateSaysSaid : Prop := stateSaysRow.holds Try.pinned (OpenSpec.ofChange stateSaysSpec)

/-- ITS FALSE NEIGHBOUR: 'it returns false'. Refute it at one input. -/
def stateSaysWrong : ChangeSpec := { name := "stateSays", fn := fun _ => fun
  | [d1, d2, d3] => { results := [.lit (.bool false)], args := [d1, d2, d3] }
  | _ => none }
def StateSaysWrongFalsely : Prop := stateSaysRow.holds Try.pinned (OpenSpec.ofChange stateSaysWrong)

/-- 'towpathlaw.FloodSays': WHATEVER THE INPUT: true; the input reads as it did. -/
def floodSaysSpec : ChangeSpec := { name := "floodSays", fn := fun _ => fun
  | [d1, d2] => { results := [.lit (.bool true)], args := [d1, d2] }
  | _ => none }
def floodSaysRow : OpenClaim := { program := "ytimfnpjcedjmiaa", sum := "04a3e1eccd145ceb72e141184d3646e0df25f7b334e836eecc0b4f1cb725cd53", func := "towpath/towpathlaw.FloodSays", spec := "floodSays", unfollowed := true, recurses := true, apart := false }
def FloodSaysSaid : Prop := floodSaysRow.holds Try.pinned (OpenSpec.ofChange floodSaysSpec)

/-- ITS FALSE NEIGHBOUR: 'it returns false'. Refute it at one input. -/
def floodSaysWrong : ChangeSpec := { name := "floodSays", fn := fun _ => fun
  | [d1, d2] => { results := [.lit (.bool false)], args := [d1, d2] }
  | _ => none }
def FloodSaysWrongFalsely : Prop := floodSaysRow.holds Try.pinned (OpenSpec.ofChange floodSaysWrong)

/-- 'towpathlaw.LinkSays': WHATEVER THE INPUT: true; the input reads as it did. -/
def linkSaysSpec : ChangeSpec := { name := "linkSays", fn := fun _ => fun
  | [d1, d2, d3] => { results := [.lit (.bool true)], args := [d1, d2, d3] }
  | _ => none }
def linkSaysRow : OpenClaim := { program := "ytimfnpjcedjmiaa", sum := "04a3e1eccd145ceb72e141184d3646e0df25f7b334e836eecc0b4f1cb725cd53", func := "towpath/towpathlaw.LinkSays", spec := "linkSays", unfollowed := true, recurses := true, apart := false }
def LinkSaysSaid : Prop := linkSaysRow.holds Try.pinned (OpenSpec.ofChange linkSaysSpec)

/-- ITS FALSE NEIGHBOUR: 'it returns false'. Refute it at one input. -/
def linkSaysWrong : ChangeSpec := { name := "linkSays", fn := fun _ => fun
  | [d1, d2, d3] => { results := [.lit (.bool false)], args := [d1, d2, d3] }
  | _ => none }
def LinkSaysWrongFalsely : Prop := linkSaysRow.holds Try.pinned (OpenSpec.ofChange linkSaysWrong)

/-- 'towpathtop.TopSum': WHATEVER THE INPUT: true; the input reads as it did. -/
def topSumSpec : ChangeSpec := { name := "topSum", fn := fun _ => fun
  | [d1, d2, d3] => { results := [.lit (.bool true)], args := [d1, d2, d3] }
  | _ => none }
def topSumRow : OpenClaim := { program := "ytimfnpjcedjmiaa", sum := "04a3e1eccd145ceb72e141184d3646e0df25f7b334e836eecc0b4f1cb725cd53", func := "towpath/towpathtop.TopSum", spec := "topSum", apart := false }
def TopSumSaid : Prop := topSumRow.holds Try.pinned (OpenSpec.ofChange topSumSpec)

/-- ITS FALSE NEIGHBOUR: 'it returns false'. Refute it at one input. -/
def topSumWrong : ChangeSpec := { name := "topSum", fn := fun _ => fun
  | [d1, d2, d3] => { results := [.lit (.bool false)], args := [d1, d2, d3] }
  | _ => none }
def TopSumWrongFalsely : Prop := topSumRow.holds Try.pinned (OpenSpec.ofChange topSumWrong)

/- THE SECOND FORM. 'bulk': how many values and letters a reading holds, each counted each time it is reached (what is shared counts as often as it is met; a slice's spare places count too). A statement '..UptoSaid' is the law's where the arguments, and the package variables that the reading takes, are together of bulk at most 1048576: NARROWER than '..Said'. Prove '..Said' where nothing that the law and all that it calls make is longer than what came in: it says more and counts as full. Else prove '..UptoSaid'. A law counts once. -/
mutual
def uptoBulk {H : Type} : DataW H → Nat
  | .lit (.string bytes) => bytes.length + 1
  | .lit _ => 1
  | .nil => 1
  | .ptr d => uptoBulk d + 1
  | .slice elems spare => uptoBulkAll elems + uptoBulkAll spare + 1
  | .agg parts => uptoBulkAll parts + 1
  | .iface _ d => uptoBulk d + 1
  | .map entries => uptoBulkEntries entries + 1
  | .held _ => 1
def uptoBulkAll {H : Type} : List (DataW H) → Nat
  | [] => 0
  | d :: r => uptoBulk d + uptoBulkAll r
def uptoBulkEntries {H : Type} : List (Lit × DataW H) → Nat
  | [] => 0
  | x :: r => uptoBulkEntry x + uptoBulkEntries r
def uptoBulkEntry {H : Type} : Lit × DataW H → Nat
  | (.string bytes, d) => bytes.length + uptoBulk d + 1
  | (_, d) => uptoBulk d + 1
 end
def uptoSmall : (H : Type) → List (DataW H) → Bool := fun _ ds => decide (uptoBulkAll ds ≤ 1048576)
def OpenSpec.upto (s : _root_.Go.ChangeSpec) : _root_.Go.OpenSpec := { _root_.Go.OpenSpec.ofChange s with cond := some uptoSmall }

/-- 'towpathlaw.HelloSays', WHERE WHAT IT READS IS OF BULK AT MOST 1048576: true; the input reads as it did. -/
def helloSaysUptoRow : OpenClaim := { program := "ytimfnpjcedjmiaa", sum := "04a3e1eccd145ceb72e141184d3646e0df25f7b334e836eecc0b4f1cb725cd53", func := "towpath/towpathlaw.HelloSays", spec := "helloSays", apart := false, narrowed := true }
def HelloSaysUptoSaid : Prop := helloSaysUptoRow.holds Try.pinned (OpenSpec.upto helloSaysSpec)

/-- 'towpathlaw.PacketSays', WHERE WHAT IT READS IS OF BULK AT MOST 1048576: true; the input reads as it did. -/
def packetSaysUptoRow : OpenClaim := { program := "ytimfnpjcedjmiaa", sum := "04a3e1eccd145ceb72e141184d3646e0df25f7b334e836eecc0b4f1cb725cd53", func := "towpath/towpathlaw.PacketSays", spec := "packetSays", unfollowed := true, recurses := true, apart := false, narrowed := true }
def PacketSaysUptoSaid : Prop := packetSaysUptoRow.holds Try.pinned (OpenSpec.upto packetSaysSpec)

/-- 'towpathlaw.PolicySays', WHERE WHAT IT READS IS OF BULK AT MOST 1048576: true; the input reads as it did. -/
def policySaysUptoRow : OpenClaim := { program := "ytimfnpjcedjmiaa", sum := "04a3e1eccd145ceb72e141184d3646e0df25f7b334e836eecc0b4f1cb725cd53", func := "towpath/towpathlaw.PolicySays", spec := "policySays", apart := false, narrowed := true }
def PolicySaysUptoSaid : Prop := policySaysUptoRow.holds Try.pinned (OpenSpec.upto policySaysSpec)

/-- 'towpathlaw.WaysSays', WHERE WHAT IT READS IS OF BULK AT MOST 1048576: true; the input reads as it did. -/
def waysSaysUptoRow : OpenClaim := { program := "ytimfnpjcedjmiaa", sum := "04a3e1eccd145ceb72e141184d3646e0df25f7b334e836eecc0b4f1cb725cd53", func := "towpath/towpathlaw.WaysSays", spec := "waysSays", unfollowed := true, recurses := true, apart := false, narrowed := true }
def WaysSaysUptoSaid : Prop := waysSaysUptoRow.holds Try.pinned (OpenSpec.upto waysSaysSpec)

/-- 'towpathlaw.FrameSays', WHERE WHAT IT READS IS OF BULK AT MOST 1048576: true; the input reads as it did. -/
def frameSaysUptoRow : OpenClaim := { program := "ytimfnpjcedjmiaa", sum := "04a3e1eccd145ceb72e141184d3646e0df25f7b334e836eecc0b4f1cb725cd53", func := "towpath/towpathlaw.FrameSays", spec := "frameSays", apart := false, narrowed := true }
def FrameSaysUptoSaid : Prop := frameSaysUptoRow.holds Try.pinned (OpenSpec.upto frameSaysSpec)

/-- 'towpathlaw.AutoSays', WHERE WHAT IT READS IS OF BULK AT MOST 1048576: true; the input reads as it did. -/
def autoSaysUptoRow : OpenClaim := { program := "ytimfnpjcedjmiaa", sum := "04a3e1eccd145ceb72e141184d3646e0df25f7b334e836eecc0b4f1cb725cd53", func := "towpath/towpathlaw.AutoSays", spec := "autoSays", apart := false, narrowed := true }
def AutoSaysUptoSaid : Prop := autoSaysUptoRow.holds Try.pinned (OpenSpec.upto autoSaysSpec)

/-- 'towpathlaw.StateSays', WHERE WHAT IT READS IS OF BULK AT MOST 1048576: true; the input reads as it did. -/
def stateSaysUptoRow : OpenClaim := { program := "ytimfnpjcedjmiaa", sum := "04a3e1eccd145ceb72e141184d3646e0df25f7b334e836eecc0b4f1cb725cd53", func := "towpath/towpathlaw.StateSays", spec := "stateSays", unfollowed := true, recurses := true, apart := false, narrowed := true }
def StateSaysUptoSaid : Prop := stateSaysUptoRow.holds Try.pinned (OpenSpec.upto stateSaysSpec)

/-- 'towpathlaw.FloodSays', WHERE WHAT IT READS IS OF BULK AT MOST 1048576: true; the input reads as it did. -/
def floodSaysUptoRow : OpenClaim := { program := "ytimfnpjcedjmiaa", sum := "04a3e1eccd145ceb72e141184d3646e0df25f7b334e836eecc0b4f1cb725cd53", func := "towpath/towpathlaw.FloodSays", spec := "floodSays", unfollowed := true, recurses := true, apart := false, narrowed := true }
def FloodSaysUptoSaid : Prop := floodSaysUptoRow.holds Try.pinned (OpenSpec.upto floodSaysSpec)

/-- 'towpathlaw.LinkSays', WHERE WHAT IT READS IS OF BULK AT MOST 1048576: true; the input reads as it did. -/
def linkSaysUptoRow : OpenClaim := { program := "ytimfnpjcedjmiaa", sum := "04a3e1eccd145ceb72e141184d3646e0df25f7b334e836eecc0b4f1cb725cd53", func := "towpath/towpathlaw.LinkSays", spec := "linkSays", unfollowed := true, recurses := true, apart := false, narrowed := true }
def LinkSaysUptoSaid : Prop := linkSaysUptoRow.holds Try.pinned (OpenSpec.upto linkSaysSpec)

/-- 'towpathtop.TopSum', WHERE WHAT IT READS IS OF BULK AT MOST 1048576: true; the input reads as it did. -/
def topSumUptoRow : OpenClaim := { program := "ytimfnpjcedjmiaa", sum := "04a3e1eccd145ceb72e141184d3646e0df25f7b334e836eecc0b4f1cb725cd53", func := "towpath/towpathtop.TopSum", spec := "topSum", apart := false, narrowed := true }
def TopSumUptoSaid : Prop := topSumUptoRow.holds Try.pinned (OpenSpec.upto topSumSpec)

end Rows
end Go.Proofs.Ytimfnpjcedjmiaa
