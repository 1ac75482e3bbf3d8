/-
  Package hello and the reference's like: what each function computes.
-/
import Derived.Test.YtimfnpjcedjmiabBase
namespace Go.Proofs.Ytimfnpjcedjmiab
open Go.RowKit

structure MHello where
  fr : Int
  sn : Int
def MHello.v (h : MHello) : Value := .agg #[.int .i64 h.fr, .int .i64 h.sn]
structure MPeer where
  who : Int
  both : Bool
  left : Int
def MPeer.v (p : MPeer) : Value := .agg #[.int .i64 p.who, .bool p.both, .int .i64 p.left]
def MPeer.no : MPeer := ⟨0, false, 0⟩
def MPeer.hear (me : Int) (h : MHello) : MPeer := if h.fr = me then .no else ⟨h.fr, h.sn == me, 4⟩
def MPeer.tick (p : MPeer) : MPeer := if p.left ≤ 1 then .no else ⟨p.who, p.both, p.left - 1⟩
def helloOk (h : MHello) : Bool := decide (1 ≤ h.fr) && decide (h.fr ≤ 6) && decide (0 ≤ h.sn) && decide (h.sn ≤ 6)
def helloStr (h : MHello) : ByteArray := strOfNums [h.fr, h.sn]

set_option maxRecDepth 100000 in
theorem hear_any (p : MPeer) (me : Int) (h : MHello) (w : World) :
    Calls Try.prog 13 #[p.v, .int .i64 me, h.v] w fun e w' => e = .returned (MPeer.hear me h).v ∧ Below w.heap.size w w' := by
  obtain ⟨wh, b, lf⟩ := p
  obtain ⟨fr, sn⟩ := h
  simp only [MPeer.v, MHello.v, MPeer.hear]
  by_cases hh : fr = me
  · rw [if_pos hh]
    go_enter Try.func13, Try.ntmps13
    go_wp2
    go_returns
    exact ⟨rfl, by go_grown⟩
  · rw [if_neg hh]
    go_enter Try.func13, Try.ntmps13
    go_wp2
    go_returns
    exact ⟨rfl, by go_grown⟩
set_option maxRecDepth 100000 in
theorem ptick_any (p : MPeer) (w : World) (h0 : 0 ≤ p.left) (h4 : p.left ≤ 4) :
    Calls Try.prog 15 #[p.v] w fun e w' => e = .returned p.tick.v ∧ Below w.heap.size w w' := by
  obtain ⟨wh, b, lf⟩ := p
  simp only [MPeer.v, MPeer.tick] at *
  by_cases hh : lf ≤ 1
  · rw [if_pos hh]
    go_enter Try.func15, Try.ntmps15
    go_wp2
    go_returns
    exact ⟨rfl, by go_grown⟩
  · rw [if_neg hh]
    go_enter Try.func15, Try.ntmps15
    go_wp2
    go_returns
    exact ⟨rfl, by go_grown⟩
set_option maxRecDepth 100000 in
theorem says_any (p : MPeer) (me : Int) (w : World) :
    Calls Try.prog 14 #[p.v, .int .i64 me] w fun e w' => e = .returned (MHello.mk me p.who).v ∧ Below w.heap.size w w' := by
  obtain ⟨wh, b, lf⟩ := p
  simp only [MPeer.v, MHello.v]
  go_enter Try.func14, Try.ntmps14
  go_wp2
  go_returns
  exact ⟨rfl, by go_grown⟩

/-- A hello out of bytes. -/
def helloOf (s : ByteArray) : Option MHello :=
  match s.data.toList with
  | [a, b] => let h : MHello := ⟨a.toNat, b.toNat⟩; if helloOk h then some h else none
  | _ => none
def helloZ : MHello := ⟨0, 0⟩
theorem helloOf_len {s : ByteArray} (h : s.size ≠ 2) : helloOf s = none := by
  unfold helloOf
  split
  · rename_i a b he
    exact absurd (by rw [← ByteArray.size_data, ← Array.length_toList, he]; rfl) h
  · rfl
theorem helloOf_two {s : ByteArray} (h : s.size = 2) : helloOf s = (let m : MHello := ⟨(s[0]'(by omega)).toNat, (s[1]'(by omega)).toNat⟩; if helloOk m then some m else none) := by
  obtain ⟨⟨l⟩⟩ := s
  match l, h with
  | [a, b], _ => rfl
end Go.Proofs.Ytimfnpjcedjmiab
