/-
  '==' and '!=' between structs of the program's own.
-/
import Derived.Test.YtimfnpjcedjmiacBase
namespace Go.Proofs.Ytimfnpjcedjmiac
open Go.RowKit
theorem sih_option : Try.prog.stoodInHeld 110 = false := by kernel_rfl
theorem egt_option : Try.prog.eqGuardType Try.prog.depth 110 = false := by kernel_rfl
@[go_sem] theorem eqg_option (op : BinOp) (x y : Operand) (xs ys : Array Value) (w : World) : (eqGuard op 110 x y (.agg xs) (.agg ys)).run Try.prog w = .ok () w := run_eqGuard_agg w op 110 x y xs ys egt_option
@[go_sem] theorem eql_option (a b c d : Int) (w : World) : (binOp .eql 110 (.agg #[.int .i64 a, .int .i64 b]) (.agg #[.int .i64 c, .int .i64 d])).run Try.prog w = .ok (.bool ((a == c && b == d))) w := by
  rw [run_eql_struct, run_equalIn_struct _ _ _ _ _ (by simp [Program.fieldsOf, Try.underlying110]) sih_option]
  by_cases h1 : a = c <;> by_cases h2 : b = d <;> simp [Program.fieldsOf, Try.underlying110, Op.eqFields, go_sem, h1, h2]
@[go_sem] theorem neq_option (a b c d : Int) (w : World) : (binOp .neq 110 (.agg #[.int .i64 a, .int .i64 b]) (.agg #[.int .i64 c, .int .i64 d])).run Try.prog w = .ok (.bool (!(a == c && b == d))) w := by
  rw [run_neq_struct, run_equalIn_struct _ _ _ _ _ (by simp [Program.fieldsOf, Try.underlying110]) sih_option]
  by_cases h1 : a = c <;> by_cases h2 : b = d <;> simp [Program.fieldsOf, Try.underlying110, Op.eqFields, go_sem, h1, h2]
theorem sih_edge : Try.prog.stoodInHeld 74 = false := by kernel_rfl
theorem egt_edge : Try.prog.eqGuardType Try.prog.depth 74 = false := by kernel_rfl
@[go_sem] theorem eqg_edge (op : BinOp) (x y : Operand) (xs ys : Array Value) (w : World) : (eqGuard op 74 x y (.agg xs) (.agg ys)).run Try.prog w = .ok () w := run_eqGuard_agg w op 74 x y xs ys egt_edge
@[go_sem] theorem eql_edge (a b c d : Int) (w : World) : (binOp .eql 74 (.agg #[.int .i64 a, .int .i64 b]) (.agg #[.int .i64 c, .int .i64 d])).run Try.prog w = .ok (.bool ((a == c && b == d))) w := by
  rw [run_eql_struct, run_equalIn_struct _ _ _ _ _ (by simp [Program.fieldsOf, Try.underlying74]) sih_edge]
  by_cases h1 : a = c <;> by_cases h2 : b = d <;> simp [Program.fieldsOf, Try.underlying74, Op.eqFields, go_sem, h1, h2]
@[go_sem] theorem neq_edge (a b c d : Int) (w : World) : (binOp .neq 74 (.agg #[.int .i64 a, .int .i64 b]) (.agg #[.int .i64 c, .int .i64 d])).run Try.prog w = .ok (.bool (!(a == c && b == d))) w := by
  rw [run_neq_struct, run_equalIn_struct _ _ _ _ _ (by simp [Program.fieldsOf, Try.underlying74]) sih_edge]
  by_cases h1 : a = c <;> by_cases h2 : b = d <;> simp [Program.fieldsOf, Try.underlying74, Op.eqFields, go_sem, h1, h2]
theorem sih_policy : Try.prog.stoodInHeld 91 = false := by kernel_rfl
theorem egt_policy : Try.prog.eqGuardType Try.prog.depth 91 = false := by kernel_rfl
@[go_sem] theorem eqg_policy (op : BinOp) (x y : Operand) (xs ys : Array Value) (w : World) : (eqGuard op 91 x y (.agg xs) (.agg ys)).run Try.prog w = .ok () w := run_eqGuard_agg w op 91 x y xs ys egt_policy
@[go_sem] theorem eql_policy (a b c d : Int) (w : World) : (binOp .eql 91 (.agg #[.int .i64 a, .int .i64 b]) (.agg #[.int .i64 c, .int .i64 d])).run Try.prog w = .ok (.bool ((a == c && b == d))) w := by
  rw [run_eql_struct, run_equalIn_struct _ _ _ _ _ (by simp [Program.fieldsOf, Try.underlying91]) sih_policy]
  by_cases h1 : a = c <;> by_cases h2 : b = d <;> simp [Program.fieldsOf, Try.underlying91, Op.eqFields, go_sem, h1, h2]
@[go_sem] theorem neq_policy (a b c d : Int) (w : World) : (binOp .neq 91 (.agg #[.int .i64 a, .int .i64 b]) (.agg #[.int .i64 c, .int .i64 d])).run Try.prog w = .ok (.bool (!(a == c && b == d))) w := by
  rw [run_neq_struct, run_equalIn_struct _ _ _ _ _ (by simp [Program.fieldsOf, Try.underlying91]) sih_policy]
  by_cases h1 : a = c <;> by_cases h2 : b = d <;> simp [Program.fieldsOf, Try.underlying91, Op.eqFields, go_sem, h1, h2]
end Go.Proofs.Ytimfnpjcedjmiac
