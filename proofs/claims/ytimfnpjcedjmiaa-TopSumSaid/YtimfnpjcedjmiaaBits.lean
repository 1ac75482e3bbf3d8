/-
  Bits of integers: masks.
-/
import Derived.Test.YtimfnpjcedjmiaaBase
namespace Go.Proofs.Ytimfnpjcedjmiaa
open Go.RowKit
/-- 'x & m' at a small m. -/
theorem and_small (x : Int) (m : Nat) (hm : m < 1073741824) : 0 ≤ bits .and .i64 x (m : Int) ∧ bits .and .i64 x (m : Int) ≤ m := by
  have h1 : (BitVec.ofInt 64 (m : Int)).toNat = m := by
    rw [BitVec.toNat_ofInt]; omega
  have h2 : bits .and .i64 x (m : Int) = IntKind.i64.wrap (((BitVec.ofInt 64 x).toNat &&& m : Nat) : Int) := by
    show IntKind.i64.wrap ((BitVec.ofInt 64 x &&& BitVec.ofInt 64 (m : Int)).toNat : Int) = _
    rw [BitVec.toNat_and, h1]
  have h3 : (BitVec.ofInt 64 x).toNat &&& m ≤ m := Nat.and_le_right
  rw [h2, IntKind.wrap_i64]
  omega

end Go.Proofs.Ytimfnpjcedjmiaa
