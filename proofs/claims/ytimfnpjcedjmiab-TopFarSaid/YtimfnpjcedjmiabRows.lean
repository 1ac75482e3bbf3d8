/-
  No cell of these rows narrows 'for every input' (looked for: loops, veiled, ifaces, maps, wideKeys, modest, calm, conditions, laid).
  DERIVED. THE GIVEN ROWS OF THIS SEAT. 10 by the template 'for every input the law returns true; each argument reads behind the call as it read before'; 0 by the template 'total and deterministic' (their statements: YtimfnpjcedjmiabTotals.lean).
  GIVEN WITH THE SEED: the statements are not yours to turn. If you find one false, say at which input.
  Laid BY PROGRAM, IN A SANDBOX (cutbox-rows.mjs): the forced cells as the released guide's own fill.sh prints them over the translation 46df3b26f0998273… (all of the seat's roots in one cut). By AI agents, Wed Nov 11 2026. No macro, syntax, notation, axiom, sorry.
-/
import Derived.Test.YtimfnpjcedjmiabChecked
import GoSem.Claim
import GoSem.ClaimJoined
import GoSem.ClaimMapViews
import Derived.JoinedTies
import Derived.KernelRfl
namespace Go.Proofs.Ytimfnpjcedjmiab
/- THE CELL 'sum', in the pinned program and in every row, IS THE sha256 OF THE DUMP (.gsa) THAT YtimfnpjcedjmiabProg.lean LOADS. Nothing in Lean hashes anything: it is a label: what it is worth is what the hold of that sum in a sandbox is worth. -/
noncomputable def Try.pinned : Pinned := { name := "ytimfnpjcedjmiab", sum := "46df3b26f099827391befa81c713746222029954cb2dc79970d30d10d0e89358", checked := Try.checked }
namespace Rows
def none {H : Type} : Left H := { results := [], args := [] }

/-- 'towpathtop.TopHeard': WHATEVER THE INPUT: true; the input reads as it did. -/
def topHeardSpec : ChangeSpec := { name := "topHeard", fn := fun _ => fun
  | [d1, d2, d3] => { results := [.lit (.bool true)], args := [d1, d2, d3] }
  | _ => none }
def topHeardRow : OpenClaim := { program := "ytimfnpjcedjmiab", sum := "46df3b26f099827391befa81c713746222029954cb2dc79970d30d10d0e89358", func := "towpath/towpathtop.TopHeard", spec := "topHeard", apart := false }
def TopHeardSaid : Prop := topHeardRow.holds Try.pinned (OpenSpec.ofChange topHeardSpec)

/-- ITS FALSE NEIGHBOUR: 'it returns false'. Refute it at one input. -/
def topHeardWrong : ChangeSpec := { name := "topHeard", fn := fun _ => fun
  | [d1, d2, d3] => { results := [.lit (.bool false)], args := [d1, d2, d3] }
  | _ => none }
def TopHeardWrongFalsely : Prop := topHeardRow.holds Try.pinned (OpenSpec.ofChange topHeardWrong)

/-- 'towpathtop.TopRefuse': WHATEVER THE INPUT: true; the input reads as it did. -/
def topRefuseSpec : ChangeSpec := { name := "topRefuse", fn := fun _ => fun
  | [d1, d2, d3, d4] => { results := [.lit (.bool true)], args := [d1, d2, d3, d4] }
  | _ => none }
def topRefuseRow : OpenClaim := { program := "ytimfnpjcedjmiab", sum := "46df3b26f099827391befa81c713746222029954cb2dc79970d30d10d0e89358", func := "towpath/towpathtop.TopRefuse", spec := "topRefuse", apart := false }
def TopRefuseSaid : Prop := topRefuseRow.holds Try.pinned (OpenSpec.ofChange topRefuseSpec)

/-- ITS FALSE NEIGHBOUR: 'it returns false'. Refute it at one input. -/
def topRefuseWrong : ChangeSpec := { name := "topRefuse", fn := fun _ => fun
  | [d1, d2, d3, d4] => { results := [.lit (.bool false)], args := [d1, d2, d3, d4] }
  | _ => none }
def TopRefuseWrongFalsely : Prop := topRefuseRow.holds Try.pinned (OpenSpec.ofChange topRefuseWrong)

/-- 'towpathtop.TopPacket': WHATEVER THE INPUT: true; the input reads as it did. -/
def topPacketSpec : ChangeSpec := { name := "topPacket", fn := fun _ => fun
  | [d] => { results := [.lit (.bool true)], args := [d] }
  | _ => none }
def topPacketRow : OpenClaim := { program := "ytimfnpjcedjmiab", sum := "46df3b26f099827391befa81c713746222029954cb2dc79970d30d10d0e89358", func := "towpath/towpathtop.TopPacket", spec := "topPacket", unfollowed := true, recurses := true, apart := false }
def TopPacketSaid : Prop := topPacketRow.holds Try.pinned (OpenSpec.ofChange topPacketSpec)

/-- ITS FALSE NEIGHBOUR: 'it returns false'. Refute it at one input. -/
def topPacketWrong : ChangeSpec := { name := "topPacket", fn := fun _ => fun
  | [d] => { results := [.lit (.bool false)], args := [d] }
  | _ => none }
def TopPacketWrongFalsely : Prop := topPacketRow.holds Try.pinned (OpenSpec.ofChange topPacketWrong)

/-- 'towpathtop.TopAgree': WHATEVER THE INPUT: true; the input reads as it did. -/
def topAgreeSpec : ChangeSpec := { name := "topAgree", fn := fun _ => fun
  | [d1, d2, d3, d4] => { results := [.lit (.bool true)], args := [d1, d2, d3, d4] }
  | _ => none }
def topAgreeRow : OpenClaim := { program := "ytimfnpjcedjmiab", sum := "46df3b26f099827391befa81c713746222029954cb2dc79970d30d10d0e89358", func := "towpath/towpathtop.TopAgree", spec := "topAgree", apart := false }
def TopAgreeSaid : Prop := topAgreeRow.holds Try.pinned (OpenSpec.ofChange topAgreeSpec)

/-- ITS FALSE NEIGHBOUR: 'it returns false'. Refute it at one input. -/
def topAgreeWrong : ChangeSpec := { name := "topAgree", fn := fun _ => fun
  | [d1, d2, d3, d4] => { results := [.lit (.bool false)], args := [d1, d2, d3, d4] }
  | _ => none }
def TopAgreeWrongFalsely : Prop := topAgreeRow.holds Try.pinned (OpenSpec.ofChange topAgreeWrong)

/-- 'towpathtop.TopFar': WHATEVER THE INPUT: true; the input reads as it did. -/
def topFarSpec : ChangeSpec := { name := "topFar", fn := fun _ => fun
  | [d1, d2] => { results := [.lit (.bool true)], args := [d1, d2] }
  | _ => none }
def topFarRow : OpenClaim := { program := "ytimfnpjcedjmiab", sum := "46df3b26f099827391befa81c713746222029954cb2dc79970d30d10d0e89358", func := "towpath/towpathtop.TopFar", spec := "topFar", unfollowed := true, recurses := true, apart := false }
def TopFarSaid : Prop := topFarRow.holds Try.pinned (OpenSpec.ofChange topFarSpec)

/-- ITS FALSE NEIGHBOUR: 'it returns false'. Refute it at one input. -/
def topFarWrong : ChangeSpec := { name := "topFar", fn := fun _ => fun
  | [d1, d2] => { results := [.lit (.bool false)], args := [d1, d2] }
  | _ => none }
def TopFarWrongFalsely : Prop := topFarRow.holds Try.pinned (OpenSpec.ofChange topFarWrong)

/-- 'towpathtop.TopWay': WHATEVER THE INPUT: true; the input reads as it did. -/
def topWaySpec : ChangeSpec := { name := "topWay", fn := fun _ => fun
  | [d1, d2] => { results := [.lit (.bool true)], args := [d1, d2] }
  | _ => none }
def topWayRow : OpenClaim := { program := "ytimfnpjcedjmiab", sum := "46df3b26f099827391befa81c713746222029954cb2dc79970d30d10d0e89358", func := "towpath/towpathtop.TopWay", spec := "topWay", unfollowed := true, recurses := true, apart := false }
def TopWaySaid : Prop := topWayRow.holds Try.pinned (OpenSpec.ofChange topWaySpec)

/-- ITS FALSE NEIGHBOUR: 'it returns false'. Refute it at one input. -/
def topWayWrong : ChangeSpec := { name := "topWay", fn := fun _ => fun
  | [d1, d2] => { results := [.lit (.bool false)], args := [d1, d2] }
  | _ => none }
def TopWayWrongFalsely : Prop := topWayRow.holds Try.pinned (OpenSpec.ofChange topWayWrong)

/-- 'towpathtop.TopBack': WHATEVER THE INPUT: true; the input reads as it did. -/
def topBackSpec : ChangeSpec := { name := "topBack", fn := fun _ => fun
  | [d1, d2, d3] => { results := [.lit (.bool true)], args := [d1, d2, d3] }
  | _ => none }
def topBackRow : OpenClaim := { program := "ytimfnpjcedjmiab", sum := "46df3b26f099827391befa81c713746222029954cb2dc79970d30d10d0e89358", func := "towpath/towpathtop.TopBack", spec := "topBack", unfollowed := true, recurses := true, apart := false }
def TopBackSaid : Prop := topBackRow.holds Try.pinned (OpenSpec.ofChange topBackSpec)

/-- ITS FALSE NEIGHBOUR: 'it returns false'. Refute it at one input. -/
def topBackWrong : ChangeSpec := { name := "topBack", fn := fun _ => fun
  | [d1, d2, d3] => { results := [.lit (.bool false)], args := [d1, d2, d3] }
  | _ => none }
def TopBackWrongFalsely : Prop := topBackRow.holds Try.pinned (OpenSpec.ofChange topBackWrong)

/-- 'towpathtop.TopFrame': WHATEVER THE INPUT: true; the input reads as it did. -/
def topFrameSpec : ChangeSpec := { name := "topFrame", fn := fun _ => fun
  | [d1, d2] => { results := [.lit (.bool true)], args := [d1, d2] }
  | _ => none }
def topFrameRow : OpenClaim := { program := "ytimfnpjcedjmiab", sum := "46df3b26f099827391befa81c713746222029954cb2dc79970d30d10d0e89358", func := "towpath/towpathtop.TopFrame", spec := "topFrame", apart := false }
def TopFrameSaid : Prop := topFrameRow.holds Try.pinned (OpenSpec.ofChange topFrameSpec)

/-- ITS FALSE NEIGHBOUR: 'it returns false'. Refute it at one input. -/
def topFrameWrong : ChangeSpec := { name := "topFrame", fn := fun _ => fun
  | [d1, d2] => { results := [.lit (.bool false)], args := [d1, d2] }
  | _ => none }
def TopFrameWrongFalsely : Prop := topFrameRow.holds Try.pinned (OpenSpec.ofChange topFrameWrong)

/-- 'towpathtop.TopStream': WHATEVER THE INPUT: true; the input reads as it did. -/
def topStreamSpec : ChangeSpec := { name := "topStream", fn := fun _ => fun
  | [d] => { results := [.lit (.bool true)], args := [d] }
  | _ => none }
def topStreamRow : OpenClaim := { program := "ytimfnpjcedjmiab", sum := "46df3b26f099827391befa81c713746222029954cb2dc79970d30d10d0e89358", func := "towpath/towpathtop.TopStream", spec := "topStream", apart := false }
def TopStreamSaid : Prop := topStreamRow.holds Try.pinned (OpenSpec.ofChange topStreamSpec)

/-- ITS FALSE NEIGHBOUR: 'it returns false'. Refute it at one input. -/
def topStreamWrong : ChangeSpec := { name := "topStream", fn := fun _ => fun
  | [d] => { results := [.lit (.bool false)], args := [d] }
  | _ => none }
def TopStreamWrongFalsely : Prop := topStreamRow.holds Try.pinned (OpenSpec.ofChange topStreamWrong)

/-- 'towpathtop.TopUp': WHATEVER THE INPUT: true; the input reads as it did. -/
def topUpSpec : ChangeSpec := { name := "topUp", fn := fun _ => fun
  | [d] => { results := [.lit (.bool true)], args := [d] }
  | _ => none }
def topUpRow : OpenClaim := { program := "ytimfnpjcedjmiab", sum := "46df3b26f099827391befa81c713746222029954cb2dc79970d30d10d0e89358", func := "towpath/towpathtop.TopUp", spec := "topUp", apart := false }
def TopUpSaid : Prop := topUpRow.holds Try.pinned (OpenSpec.ofChange topUpSpec)

/-- ITS FALSE NEIGHBOUR: 'it returns false'. Refute it at one input. -/
def topUpWrong : ChangeSpec := { name := "topUp", fn := fun _ => fun
  | [d] => { results := [.lit (.bool false)], args := [d] }
  | _ => none }
def TopUpWrongFalsely : Prop := topUpRow.holds Try.pinned (OpenSpec.ofChange topUpWrong)

/- THE SECOND FORM. 'bulk': how many values and letters a reading holds, each counted each time it is reached (what is shared counts as often as it is met; a slice's spare places count too). A statement '..UptoSaid' is the law's where the arguments, and the package variables that the reading takes, are together of bulk at most 1048576: NARROWER than '..Said'. Prove '..Said' where nothing that the law and all that it calls make is longer than what came in: it says more and counts as full. Else prove '..UptoSaid'. A law counts once. -/
mutual
def uptoBulk {H : Type} : DataW H → Nat
  | .lit (.string bytes) => bytes.length + 1
  | .lit _ => 1
  | .nil => 1
  | .ptr d => uptoBulk d + 1
  | .slice elems spare => uptoBulkAll elems + uptoBulkAll spare + 1
  | .agg parts => uptoBulkAll parts + 1
  | .iface _ d => uptoBulk d + 1
  | .map entries => uptoBulkEntries entries + 1
  | .held _ => 1
def uptoBulkAll {H : Type} : List (DataW H) → Nat
  | [] => 0
  | d :: r => uptoBulk d + uptoBulkAll r
def uptoBulkEntries {H : Type} : List (Lit × DataW H) → Nat
  | [] => 0
  | x :: r => uptoBulkEntry x + uptoBulkEntries r
def uptoBulkEntry {H : Type} : Lit × DataW H → Nat
  | (.string bytes, d) => bytes.length + uptoBulk d + 1
  | (_, d) => uptoBulk d + 1
 end
def uptoSmall : (H : Type) → List (DataW H) → Bool := fun _ ds => decide (uptoBulkAll ds ≤ 1048576)
def OpenSpec.upto (s : _root_.Go.ChangeSpec) : _root_.Go.OpenSpec := { _root_.Go.OpenSpec.ofChange s with cond := some uptoSmall }

/-- 'towpathtop.TopHeard', WHERE WHAT IT READS IS OF BULK AT MOST 1048576: true; the input reads as it did. -/
def topHeardUptoRow : OpenClaim := { program := "ytimfnpjcedjmiab", sum := "46df3b26f099827391befa81c713746222029954cb2dc79970d30d10d0e89358", func := "towpath/towpathtop.TopHeard", spec := "topHeard", apart := false, narrowed := true }
def TopHeardUptoSaid : Prop := topHeardUptoRow.holds Try.pinned (OpenSpec.upto topHeardSpec)

/-- 'towpathtop.TopRefuse', WHERE WHAT IT READS IS OF BULK AT MOST 1048576: true; the input reads as it did. -/
def topRefuseUptoRow : OpenClaim := { program := "ytimfnpjcedjmiab", sum := "46df3b26f099827391befa81c713746222029954cb2dc79970d30d10d0e89358", func := "towpath/towpathtop.TopRefuse", spec := "topRefuse", apart := false, narrowed := true }
def TopRefuseUptoSaid : Prop := topRefuseUptoRow.holds Try.pinned (OpenSpec.upto topRefuseSpec)

/-- 'towpathtop.TopPacket', WHERE WHAT IT READS IS OF BULK AT MOST 1048576: true; the input reads as it did. -/
def topPacketUptoRow : OpenClaim := { program := "ytimfnpjcedjmiab", sum := "46df3b26f099827391befa81c713746222029954cb2dc79970d30d10d0e89358", func := "towpath/towpathtop.TopPacket", spec := "topPacket", unfollowed := true, recurses := true, apart := false, narrowed := true }
def TopPacketUptoSaid : Prop := topPacketUptoRow.holds Try.pinned (OpenSpec.upto topPacketSpec)

/-- 'towpathtop.TopAgree', WHERE WHAT IT READS IS OF BULK AT MOST 1048576: true; the input reads as it did. -/
def topAgreeUptoRow : OpenClaim := { program := "ytimfnpjcedjmiab", sum := "46df3b26f099827391befa81c713746222029954cb2dc79970d30d10d0e89358", func := "towpath/towpathtop.TopAgree", spec := "topAgree", apart := false, narrowed := true }
def TopAgreeUptoSaid : Prop := topAgreeUptoRow.holds Try.pinned (OpenSpec.upto topAgreeSpec)

/-- 'towpathtop.TopFar', WHERE WHAT IT READS IS OF BULK AT MOST 1048576: true; the input reads as it did. -/
def topFarUptoRow : OpenClaim := { program := "ytimfnpjcedjmiab", sum := "46df3b26f099827391befa81c713746222029954cb2dc79970d30d10d0e89358", func := "towpath/towpathtop.TopFar", spec := "topFar", unfollowed := true, recurses := true, apart := false, narrowed := true }
def TopFarUptoSaid : Prop := topFarUptoRow.holds Try.pinned (OpenSpec.upto topFarSpec)

/-- 'towpathtop.TopWay', WHERE WHAT IT READS IS OF BULK AT MOST 1048576: true; the input reads as it did. -/
def topWayUptoRow : OpenClaim := { program := "ytimfnpjcedjmiab", sum := "46df3b26f099827391befa81c713746222029954cb2dc79970d30d10d0e89358", func := "towpath/towpathtop.TopWay", spec := "topWay", unfollowed := true, recurses := true, apart := false, narrowed := true }
def TopWayUptoSaid : Prop := topWayUptoRow.holds Try.pinned (OpenSpec.upto topWaySpec)

/-- 'towpathtop.TopBack', WHERE WHAT IT READS IS OF BULK AT MOST 1048576: true; the input reads as it did. -/
def topBackUptoRow : OpenClaim := { program := "ytimfnpjcedjmiab", sum := "46df3b26f099827391befa81c713746222029954cb2dc79970d30d10d0e89358", func := "towpath/towpathtop.TopBack", spec := "topBack", unfollowed := true, recurses := true, apart := false, narrowed := true }
def TopBackUptoSaid : Prop := topBackUptoRow.holds Try.pinned (OpenSpec.upto topBackSpec)

/-- 'towpathtop.TopFrame', WHERE WHAT IT READS IS OF BULK AT MOST 1048576: true; the input reads as it did. -/
def topFrameUptoRow : OpenClaim := { program := "ytimfnpjcedjmiab", sum := "46df3b26f099827391befa81c713746222029954cb2dc79970d30d10d0e89358", func := "towpath/towpathtop.TopFrame", spec := "topFrame", apart := false, narrowed := true }
def TopFrameUptoSaid : Prop := topFrameUptoRow.holds Try.pinned (OpenSpec.upto topFrameSpec)

/-- 'towpathtop.TopStream', WHERE WHAT IT READS IS OF BULK AT MOST 1048576: true; the input reads as it did. -/
def topStreamUptoRow : OpenClaim := { program := "ytimfnpjcedjmiab", sum := "46df3b26f099827391befa81c713746222029954cb2dc79970d30d10d0e89358", func := "towpath/towpathtop.TopStream", spec := "topStream", apart := false, narrowed := true }
def TopStreamUptoSaid : Prop := topStreamUptoRow.holds Try.pinned (OpenSpec.upto topStreamSpec)

/-- 'towpathtop.TopUp', WHERE WHAT IT READS IS OF BULK AT MOST 1048576: true; the input reads as it did. -/
def topUpUptoRow : OpenClaim := { program := "ytimfnpjcedjmiab", sum := "46df3b26f099827391befa81c713746222029954cb2dc79970d30d10d0e89358", func := "towpath/towpathtop.TopUp", spec := "topUp", apart := false, narrowed := true }
def TopUpUptoSaid : Prop := topUpUptoRow.holds Try.pinned (OpenSpec.upto topUpSpec)

end Rows
end Go.Proofs.Ytimfnpjcedjmiab
