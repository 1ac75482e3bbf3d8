/-
  Package auto, and the reference's table: what a state does by an event.
-/
import Derived.Test.YtimfnpjcedjmiaaSame
namespace Go.Proofs.Ytimfnpjcedjmiaa
open Go.RowKit

/-- The table, by events; '-': that does not come. -/
def turnTab : List (List (List UInt8)) := [
  [[50], [105, 114, 54], [45], [45], [45], [45], [45], [45], [45], [45]],
  [[45], [45], [48], [115, 49], [48], [49], [49], [49], [49], [100, 49]],
  [[115, 49], [49], [105, 114, 54], [51], [53], [53], [54], [55], [56], [57]],
  [[48], [102, 48], [50], [50], [52], [52], [105, 116, 52], [105, 116, 52], [105, 116, 52], [100, 105, 116, 52]],
  [[45], [45], [45], [45], [116, 52], [116, 53], [114, 54], [114, 54], [114, 56], [45]],
  [[45], [45], [45], [45], [102, 50], [102, 51], [102, 51], [102, 51], [102, 51], [45]],
  [[45], [45], [107, 50], [105, 114, 97, 56], [52], [53], [97, 56], [97, 117, 57], [97, 56], [100, 114, 97, 56]],
  [[45], [45], [107, 50], [105, 114, 110, 54], [52], [53], [110, 54], [110, 55], [110, 54], [100, 114, 110, 54]],
  [[45], [45], [107, 50], [107, 51], [52], [53], [105, 55], [114, 54], [105, 117, 57], [100, 114, 54]],
  [[45], [45], [107, 50], [107, 51], [52], [53], [105, 114, 54], [114, 54], [105, 114, 56], [100, 114, 54]],
  [[45], [45], [107, 50], [107, 51], [107, 52], [107, 53], [107, 54], [107, 54], [107, 54], [100, 122, 107, 53]],
  [[45], [45], [50], [51], [102, 50], [102, 51], [54], [54], [56], [100, 114, 54]]]
def turnRow (s e : Nat) : List UInt8 := ((turnTab.getD e []).getD s [])
/-- What is done, and the next state; below 0: that does not come. -/
def turnDo (s e : Nat) : ByteArray := ⟨(turnRow s e).dropLast.toArray⟩
def turnNext (s e : Nat) : Int := if turnRow s e = [45] then -1 else (((turnRow s e).getLastD 48).toNat : Int) - 48

@[go_sem] theorem idx6_0 (a0 b0 a1 b1 a2 b2 a3 b3 a4 b4 a5 b5 : Value) (w : World) : (Instr.index 200 (.agg #[a0, b0, a1, b1, a2, b2, a3, b3, a4, b4, a5, b5]) (.int .i64 0)).run Try.prog w = .ok (.agg #[a0, b0]) w := by kernel_rfl
@[go_sem] theorem idx6_1 (a0 b0 a1 b1 a2 b2 a3 b3 a4 b4 a5 b5 : Value) (w : World) : (Instr.index 200 (.agg #[a0, b0, a1, b1, a2, b2, a3, b3, a4, b4, a5, b5]) (.int .i64 1)).run Try.prog w = .ok (.agg #[a1, b1]) w := by kernel_rfl
@[go_sem] theorem idx6_2 (a0 b0 a1 b1 a2 b2 a3 b3 a4 b4 a5 b5 : Value) (w : World) : (Instr.index 200 (.agg #[a0, b0, a1, b1, a2, b2, a3, b3, a4, b4, a5, b5]) (.int .i64 2)).run Try.prog w = .ok (.agg #[a2, b2]) w := by kernel_rfl
@[go_sem] theorem idx6_3 (a0 b0 a1 b1 a2 b2 a3 b3 a4 b4 a5 b5 : Value) (w : World) : (Instr.index 200 (.agg #[a0, b0, a1, b1, a2, b2, a3, b3, a4, b4, a5, b5]) (.int .i64 3)).run Try.prog w = .ok (.agg #[a3, b3]) w := by kernel_rfl
@[go_sem] theorem idx6_4 (a0 b0 a1 b1 a2 b2 a3 b3 a4 b4 a5 b5 : Value) (w : World) : (Instr.index 200 (.agg #[a0, b0, a1, b1, a2, b2, a3, b3, a4, b4, a5, b5]) (.int .i64 4)).run Try.prog w = .ok (.agg #[a4, b4]) w := by kernel_rfl
@[go_sem] theorem idx6_5 (a0 b0 a1 b1 a2 b2 a3 b3 a4 b4 a5 b5 : Value) (w : World) : (Instr.index 200 (.agg #[a0, b0, a1, b1, a2, b2, a3, b3, a4, b4, a5, b5]) (.int .i64 5)).run Try.prog w = .ok (.agg #[a5, b5]) w := by kernel_rfl
@[go_sem] theorem idx4_0 (a0 b0 a1 b1 a2 b2 a3 b3 : Value) (w : World) : (Instr.index 202 (.agg #[a0, b0, a1, b1, a2, b2, a3, b3]) (.int .i64 0)).run Try.prog w = .ok (.agg #[a0, b0]) w := by kernel_rfl
@[go_sem] theorem idx4_1 (a0 b0 a1 b1 a2 b2 a3 b3 : Value) (w : World) : (Instr.index 202 (.agg #[a0, b0, a1, b1, a2, b2, a3, b3]) (.int .i64 1)).run Try.prog w = .ok (.agg #[a1, b1]) w := by kernel_rfl
@[go_sem] theorem idx4_2 (a0 b0 a1 b1 a2 b2 a3 b3 : Value) (w : World) : (Instr.index 202 (.agg #[a0, b0, a1, b1, a2, b2, a3, b3]) (.int .i64 2)).run Try.prog w = .ok (.agg #[a2, b2]) w := by kernel_rfl
@[go_sem] theorem idx4_3 (a0 b0 a1 b1 a2 b2 a3 b3 : Value) (w : World) : (Instr.index 202 (.agg #[a0, b0, a1, b1, a2, b2, a3, b3]) (.int .i64 3)).run Try.prog w = .ok (.agg #[a3, b3]) w := by kernel_rfl
@[go_sem] theorem idx2_0 (a0 b0 a1 b1 : Value) (w : World) : (Instr.index 201 (.agg #[a0, b0, a1, b1]) (.int .i64 0)).run Try.prog w = .ok (.agg #[a0, b0]) w := by kernel_rfl
@[go_sem] theorem idx2_1 (a0 b0 a1 b1 : Value) (w : World) : (Instr.index 201 (.agg #[a0, b0, a1, b1]) (.int .i64 1)).run Try.prog w = .ok (.agg #[a1, b1]) w := by kernel_rfl

theorem six {s : Int} (h0 : 0 ≤ s) (h : s < 6) : s = 0 ∨ s = 1 ∨ s = 2 ∨ s = 3 ∨ s = 4 ∨ s = 5 := by omega
theorem twelve {e : Int} (h0 : 0 ≤ e) (h : e < 12) : e = 0 ∨ e = 1 ∨ e = 2 ∨ e = 3 ∨ e = 4 ∨ e = 5 ∨ e = 6 ∨ e = 7 ∨ e = 8 ∨ e = 9 ∨ e = 10 ∨ e = 11 := by omega
set_option maxHeartbeats 8000000 in
set_option maxRecDepth 100000 in
theorem early_any (s e : Int) (h0 : 0 ≤ s) (hs : s < 6) (h1 : 0 ≤ e) (he : e < 12) (w : World) :
    Calls Try.prog 113 #[.int .i64 s, .int .i64 e] w fun r w' => r = .returned (.agg #[.string (turnDo s.toNat e.toNat), .int .i64 (turnNext s.toNat e.toNat)]) ∧ Below w.heap.size w w' := by
  rcases six h0 hs with rfl | rfl | rfl | rfl | rfl | rfl
  all_goals rcases twelve h1 he with rfl | rfl | rfl | rfl | rfl | rfl | rfl | rfl | rfl | rfl | rfl | rfl
  all_goals
    clear h0 hs h1 he
    go_enter Try.func113, Try.ntmps113
    go_wp2
    go_returns
    exact ⟨rfl, by repeat' (first | (with_reducible exact Below.refl _ _) | (with_reducible assumption) | (with_reducible refine Below.plus ?_ ?_ _ _) | (with_reducible refine Below.alloc ?_ ?_ _) | (with_reducible refine Below.drew ?_) | (with_reducible refine Below.drewN ?_ _) | (with_reducible refine Below.setCell ?_ ?_ _) | (with_reducible exact Nat.le_refl _) | omega | (simp; omega) | (simp; done))⟩
set_option maxHeartbeats 8000000 in
set_option maxRecDepth 100000 in
theorem late_any (s e : Int) (h0 : 6 ≤ s) (hs : s < 10) (h1 : 0 ≤ e) (he : e < 12) (w : World) :
    Calls Try.prog 114 #[.int .i64 s, .int .i64 e] w fun r w' => r = .returned (.agg #[.string (turnDo s.toNat e.toNat), .int .i64 (turnNext s.toNat e.toNat)]) ∧ Below w.heap.size w w' := by
  obtain rfl | rfl | rfl | rfl : s = 6 ∨ s = 7 ∨ s = 8 ∨ s = 9 := by omega
  all_goals rcases twelve h1 he with rfl | rfl | rfl | rfl | rfl | rfl | rfl | rfl | rfl | rfl | rfl | rfl
  all_goals
    clear h0 hs h1 he
    go_enter Try.func114, Try.ntmps114
    go_wp2
    go_returns
    exact ⟨rfl, by repeat' (first | (with_reducible exact Below.refl _ _) | (with_reducible assumption) | (with_reducible refine Below.plus ?_ ?_ _ _) | (with_reducible refine Below.alloc ?_ ?_ _) | (with_reducible refine Below.drew ?_) | (with_reducible refine Below.drewN ?_ _) | (with_reducible refine Below.setCell ?_ ?_ _) | (with_reducible exact Nat.le_refl _) | omega | (simp; omega) | (simp; done))⟩
end Go.Proofs.Ytimfnpjcedjmiaa
