/-
  The law's own 'same': an error held against a number.
-/
import Derived.Test.YtimfnpjcedjmiaaBase
namespace Go.Proofs.Ytimfnpjcedjmiaa
open Go.RowKit
theorem ta_errno (k : Int) (w : World) : (Instr.typeAssert (.iface 160 (.int .i64 k)) 28 160 true).run Try.prog w = .ok (.tuple #[.int .i64 k, .bool true]) w := by kernel_rfl
@[go_sem] theorem eqg_errv_nil (op : BinOp) (x : Operand) (k : Int) (w : World) : (eqGuard op 28 x (.const .nilIface) (errv k) .nilIface).run Try.prog w = .ok () w := by
  by_cases h : k = 0
  · subst h; rw [errv_zero]; cases op <;> cases x <;> rfl
  · rw [errv_pos h]; cases op <;> rfl
@[go_sem] theorem eql_errv_nil (k : Int) (w : World) : (binOp .eql 28 (errv k) .nilIface).run Try.prog w = .ok (.bool (k == 0)) w := by
  by_cases h : k = 0
  · subst h; kernel_rfl
  · rw [errv_pos h, show (k == 0) = false from by simpa using h]; kernel_rfl
@[go_sem] theorem neq_errv_nil (k : Int) (w : World) : (binOp .neq 28 (errv k) .nilIface).run Try.prog w = .ok (.bool (k != 0)) w := by
  by_cases h : k = 0
  · subst h; kernel_rfl
  · rw [errv_pos h, show (k != 0) = true from by simpa using h]; kernel_rfl
set_option maxRecDepth 100000 in
theorem same_nil (f : Int) (w : World) : Calls Try.prog 16 #[.nilIface, .int .i64 f] w fun e w' => e = .returned (.bool (f == 0)) ∧ w = w' := by
  go_enter Try.func16, Try.ntmps16
  go_wp2
  go_ret
  exact ⟨rfl, rfl⟩
set_option maxRecDepth 100000 in
theorem same_err (k f : Int) (hk : 0 < k) (w : World) : Calls Try.prog 16 #[errv k, .int .i64 f] w fun e w' => e = .returned (.bool (k == f)) ∧ w = w' := by
  rw [errv_pos (by omega)]
  have ta := ta_errno k
  by_cases h : 0 < f
  · go_enter Try.func16, Try.ntmps16
    go_wp2
    go_ret
    exact ⟨rfl, rfl⟩
  · have hf : (k == f) = false := by rw [beq_eq_false_iff_ne]; omega
    rw [hf]
    clear hf
    go_enter Try.func16, Try.ntmps16
    go_wp2
    go_ret
    exact ⟨rfl, rfl⟩
theorem same_any (k f : Int) (hk : 0 ≤ k) (w : World) : Calls Try.prog 16 #[errv k, .int .i64 f] w fun e w' => e = .returned (.bool (k == f)) ∧ w = w' := by
  by_cases h : k = 0
  · subst h
    refine (same_nil f w).mono ?_
    rintro e w' ⟨rfl, rfl⟩
    refine ⟨ret_congr ?_, rfl⟩
    congr 1
    rw [Bool.eq_iff_iff]; simp; omega
  · exact same_err k f (by omega) w
end Go.Proofs.Ytimfnpjcedjmiaa
