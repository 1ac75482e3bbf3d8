/-
  '==' and '!=' between structs of the program's own.
-/
import Derived.Test.YtimfnpjcedjmiaaBase
namespace Go.Proofs.Ytimfnpjcedjmiaa
open Go.RowKit
theorem sih_hello : Try.prog.stoodInHeld 26 = false := by kernel_rfl
theorem egt_hello : Try.prog.eqGuardType Try.prog.depth 26 = false := by kernel_rfl
@[go_sem] theorem eqg_hello (op : BinOp) (x y : Operand) (xs ys : Array Value) (w : World) : (eqGuard op 26 x y (.agg xs) (.agg ys)).run Try.prog w = .ok () w := run_eqGuard_agg w op 26 x y xs ys egt_hello
@[go_sem] theorem eql_hello (a b c d : Int) (w : World) : (binOp .eql 26 (.agg #[.int .i64 a, .int .i64 b]) (.agg #[.int .i64 c, .int .i64 d])).run Try.prog w = .ok (.bool ((a == c && b == d))) w := by
  rw [run_eql_struct, run_equalIn_struct _ _ _ _ _ (by simp [Program.fieldsOf, Try.underlying26]) sih_hello]
  by_cases h1 : a = c <;> by_cases h2 : b = d <;> simp [Program.fieldsOf, Try.underlying26, Op.eqFields, go_sem, h1, h2]
@[go_sem] theorem neq_hello (a b c d : Int) (w : World) : (binOp .neq 26 (.agg #[.int .i64 a, .int .i64 b]) (.agg #[.int .i64 c, .int .i64 d])).run Try.prog w = .ok (.bool (!(a == c && b == d))) w := by
  rw [run_neq_struct, run_equalIn_struct _ _ _ _ _ (by simp [Program.fieldsOf, Try.underlying26]) sih_hello]
  by_cases h1 : a = c <;> by_cases h2 : b = d <;> simp [Program.fieldsOf, Try.underlying26, Op.eqFields, go_sem, h1, h2]
theorem sih_option : Try.prog.stoodInHeld 163 = false := by kernel_rfl
theorem egt_option : Try.prog.eqGuardType Try.prog.depth 163 = false := by kernel_rfl
@[go_sem] theorem eqg_option (op : BinOp) (x y : Operand) (xs ys : Array Value) (w : World) : (eqGuard op 163 x y (.agg xs) (.agg ys)).run Try.prog w = .ok () w := run_eqGuard_agg w op 163 x y xs ys egt_option
@[go_sem] theorem eql_option (a b c d : Int) (w : World) : (binOp .eql 163 (.agg #[.int .i64 a, .int .i64 b]) (.agg #[.int .i64 c, .int .i64 d])).run Try.prog w = .ok (.bool ((a == c && b == d))) w := by
  rw [run_eql_struct, run_equalIn_struct _ _ _ _ _ (by simp [Program.fieldsOf, Try.underlying163]) sih_option]
  by_cases h1 : a = c <;> by_cases h2 : b = d <;> simp [Program.fieldsOf, Try.underlying163, Op.eqFields, go_sem, h1, h2]
@[go_sem] theorem neq_option (a b c d : Int) (w : World) : (binOp .neq 163 (.agg #[.int .i64 a, .int .i64 b]) (.agg #[.int .i64 c, .int .i64 d])).run Try.prog w = .ok (.bool (!(a == c && b == d))) w := by
  rw [run_neq_struct, run_equalIn_struct _ _ _ _ _ (by simp [Program.fieldsOf, Try.underlying163]) sih_option]
  by_cases h1 : a = c <;> by_cases h2 : b = d <;> simp [Program.fieldsOf, Try.underlying163, Op.eqFields, go_sem, h1, h2]
theorem sih_edge : Try.prog.stoodInHeld 168 = false := by kernel_rfl
theorem egt_edge : Try.prog.eqGuardType Try.prog.depth 168 = false := by kernel_rfl
@[go_sem] theorem eqg_edge (op : BinOp) (x y : Operand) (xs ys : Array Value) (w : World) : (eqGuard op 168 x y (.agg xs) (.agg ys)).run Try.prog w = .ok () w := run_eqGuard_agg w op 168 x y xs ys egt_edge
@[go_sem] theorem eql_edge (a b c d : Int) (w : World) : (binOp .eql 168 (.agg #[.int .i64 a, .int .i64 b]) (.agg #[.int .i64 c, .int .i64 d])).run Try.prog w = .ok (.bool ((a == c && b == d))) w := by
  rw [run_eql_struct, run_equalIn_struct _ _ _ _ _ (by simp [Program.fieldsOf, Try.underlying168]) sih_edge]
  by_cases h1 : a = c <;> by_cases h2 : b = d <;> simp [Program.fieldsOf, Try.underlying168, Op.eqFields, go_sem, h1, h2]
@[go_sem] theorem neq_edge (a b c d : Int) (w : World) : (binOp .neq 168 (.agg #[.int .i64 a, .int .i64 b]) (.agg #[.int .i64 c, .int .i64 d])).run Try.prog w = .ok (.bool (!(a == c && b == d))) w := by
  rw [run_neq_struct, run_equalIn_struct _ _ _ _ _ (by simp [Program.fieldsOf, Try.underlying168]) sih_edge]
  by_cases h1 : a = c <;> by_cases h2 : b = d <;> simp [Program.fieldsOf, Try.underlying168, Op.eqFields, go_sem, h1, h2]
theorem sih_policy : Try.prog.stoodInHeld 61 = false := by kernel_rfl
theorem egt_policy : Try.prog.eqGuardType Try.prog.depth 61 = false := by kernel_rfl
@[go_sem] theorem eqg_policy (op : BinOp) (x y : Operand) (xs ys : Array Value) (w : World) : (eqGuard op 61 x y (.agg xs) (.agg ys)).run Try.prog w = .ok () w := run_eqGuard_agg w op 61 x y xs ys egt_policy
@[go_sem] theorem eql_policy (a b c d : Int) (w : World) : (binOp .eql 61 (.agg #[.int .i64 a, .int .i64 b]) (.agg #[.int .i64 c, .int .i64 d])).run Try.prog w = .ok (.bool ((a == c && b == d))) w := by
  rw [run_eql_struct, run_equalIn_struct _ _ _ _ _ (by simp [Program.fieldsOf, Try.underlying61]) sih_policy]
  by_cases h1 : a = c <;> by_cases h2 : b = d <;> simp [Program.fieldsOf, Try.underlying61, Op.eqFields, go_sem, h1, h2]
@[go_sem] theorem neq_policy (a b c d : Int) (w : World) : (binOp .neq 61 (.agg #[.int .i64 a, .int .i64 b]) (.agg #[.int .i64 c, .int .i64 d])).run Try.prog w = .ok (.bool (!(a == c && b == d))) w := by
  rw [run_neq_struct, run_equalIn_struct _ _ _ _ _ (by simp [Program.fieldsOf, Try.underlying61]) sih_policy]
  by_cases h1 : a = c <;> by_cases h2 : b = d <;> simp [Program.fieldsOf, Try.underlying61, Op.eqFields, go_sem, h1, h2]
theorem sih_hop : Try.prog.stoodInHeld 78 = false := by kernel_rfl
theorem egt_hop : Try.prog.eqGuardType Try.prog.depth 78 = false := by kernel_rfl
@[go_sem] theorem eqg_hop (op : BinOp) (x y : Operand) (xs ys : Array Value) (w : World) : (eqGuard op 78 x y (.agg xs) (.agg ys)).run Try.prog w = .ok () w := run_eqGuard_agg w op 78 x y xs ys egt_hop
@[go_sem] theorem eql_hop (a b e c d f : Int) (w : World) : (binOp .eql 78 (.agg #[.int .i64 a, .int .i64 b, .int .i64 e]) (.agg #[.int .i64 c, .int .i64 d, .int .i64 f])).run Try.prog w = .ok (.bool ((a == c && b == d && e == f))) w := by
  rw [run_eql_struct, run_equalIn_struct _ _ _ _ _ (by simp [Program.fieldsOf, Try.underlying78]) sih_hop]
  by_cases h1 : a = c <;> by_cases h2 : b = d <;> by_cases h3 : e = f <;> simp [Program.fieldsOf, Try.underlying78, Op.eqFields, go_sem, h1, h2, h3]
@[go_sem] theorem neq_hop (a b e c d f : Int) (w : World) : (binOp .neq 78 (.agg #[.int .i64 a, .int .i64 b, .int .i64 e]) (.agg #[.int .i64 c, .int .i64 d, .int .i64 f])).run Try.prog w = .ok (.bool (!(a == c && b == d && e == f))) w := by
  rw [run_neq_struct, run_equalIn_struct _ _ _ _ _ (by simp [Program.fieldsOf, Try.underlying78]) sih_hop]
  by_cases h1 : a = c <;> by_cases h2 : b = d <;> by_cases h3 : e = f <;> simp [Program.fieldsOf, Try.underlying78, Op.eqFields, go_sem, h1, h2, h3]
end Go.Proofs.Ytimfnpjcedjmiaa
