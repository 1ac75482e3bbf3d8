/-
  Words that my texts share: rows, bytes, masks.
-/
import Derived.Test.YtimfnpjcedjmiaaGD
namespace Go.Proofs.Ytimfnpjcedjmiaa
open Go.RowKit
set_option linter.unusedSimpArgs false
def opRow (o : Int × Int) : List AV := [.v (.int .i64 o.1), .v (.int .i64 o.2)]
def iRow (x : Int) : List AV := [.v (.int .i64 x)]
def sRow (s : ByteArray) : List AV := [.v (.string s)]
theorem drop_cons {α : Type} {l : List α} {k : Nat} (h : k < l.length) : l.drop k = l[k] :: l.drop (k + 1) := List.drop_eq_getElem_cons h
theorem drop_nil {α : Type} {l : List α} {k : Nat} (h : l.length ≤ k) : l.drop k = [] := List.drop_eq_nil_of_le h
theorem take_succ' {α : Type} {l : List α} {k : Nat} (h : k < l.length) : l.take (k + 1) = l.take k ++ [l[k]] := by rw [List.take_add_one, List.getElem?_eq_getElem h]; rfl
def u8 (n : Int) : UInt8 := UInt8.ofNat (n % 256).toNat
def bRow (b : UInt8) : List AV := [.v (.int .u8 b.toNat)]
theorem wrap_u8 (n : Int) : IntKind.u8.wrap n = ((u8 n).toNat : Int) := by
  rw [show IntKind.u8.wrap n = n % 256 by simp [IntKind.wrap, IntKind.bits, IntKind.signed]]
  unfold u8
  rw [UInt8.toNat_ofNat']
  omega
theorem u8_toNat (c : UInt8) : u8 (c.toNat : Int) = c := by
  unfold u8
  have := UInt8.toNat_lt c
  rw [← UInt8.toNat_inj, UInt8.toNat_ofNat']
  omega
/-- The bytes of a text. -/
abbrev bs (s : ByteArray) : List UInt8 := s.data.toList
abbrev tx (l : List UInt8) : ByteArray := ⟨l.toArray⟩
theorem byteRows_eq (s : ByteArray) : byteRows s = (bs s).map bRow := rfl
theorem bs_len (s : ByteArray) : (bs s).length = s.size := Array.length_toList
theorem byteAt_eq {s : ByteArray} {k : Nat} (h : k < (bs s).length) : byteAt s k = ((bs s)[k]).toNat := by
  unfold byteAt
  rw [List.getD_eq_getElem?_getD, List.getElem?_eq_getElem h]; rfl
theorem bs_append (s t : ByteArray) : bs (s ++ t) = bs s ++ bs t := by simp [bs]
theorem bs_tx (l : List UInt8) : bs (tx l) = l := rfl
theorem tx_bs (s : ByteArray) : tx (bs s) = s := by cases s; simp [tx, bs]
-- bits
theorem nat64 {m : Nat} (h : m < 4294967296) : (BitVec.ofInt 64 (m : Int)).toNat = m := by rw [BitVec.ofInt_natCast, BitVec.toNat_ofNat]; omega
theorem xor64 {m n : Nat} (hm : m < 4294967296) (hn : n < 4294967296) : IntKind.i64.wrap ((BitVec.ofInt IntKind.i64.bits (m : Int) ^^^ BitVec.ofInt IntKind.i64.bits (n : Int)).toNat : Int) = ((m ^^^ n : Nat) : Int) := by
  show IntKind.i64.wrap ((BitVec.ofInt 64 (m : Int) ^^^ BitVec.ofInt 64 (n : Int)).toNat : Int) = _
  have : m ^^^ n < 2 ^ 32 := Nat.xor_lt_two_pow (n := 32) hm hn
  rw [BitVec.toNat_xor, nat64 hm, nat64 hn, wrap_in (by unfold In64; omega)]
theorem and64 {m n : Nat} (hm : m < 4294967296) (hn : n < 4294967296) : IntKind.i64.wrap ((BitVec.ofInt IntKind.i64.bits (m : Int) &&& BitVec.ofInt IntKind.i64.bits (n : Int)).toNat : Int) = ((m &&& n : Nat) : Int) := by
  show IntKind.i64.wrap ((BitVec.ofInt 64 (m : Int) &&& BitVec.ofInt 64 (n : Int)).toNat : Int) = _
  have : m &&& n ≤ m := Nat.and_le_left
  rw [BitVec.toNat_and, nat64 hm, nat64 hn, wrap_in (by unfold In64; omega)]
theorem and64_1 {m : Nat} (hm : m < 4294967296) : IntKind.i64.wrap ((BitVec.ofInt IntKind.i64.bits (m : Int) &&& BitVec.ofInt IntKind.i64.bits 1).toNat : Int) = ((m % 2 : Nat) : Int) := by
  rw [show (1 : Int) = ((1 : Nat) : Int) from rfl, and64 hm (by decide), Nat.and_one_is_mod]
theorem xor8 {m n : Nat} (hm : m < 256) (hn : n < 256) : IntKind.u8.wrap ((BitVec.ofInt IntKind.u8.bits (m : Int) ^^^ BitVec.ofInt IntKind.u8.bits (n : Int)).toNat : Int) = ((m ^^^ n : Nat) : Int) := by
  show IntKind.u8.wrap ((BitVec.ofInt 8 (m : Int) ^^^ BitVec.ofInt 8 (n : Int)).toNat : Int) = _
  have : m ^^^ n < 2 ^ 8 := Nat.xor_lt_two_pow (n := 8) hm hn
  rw [BitVec.toNat_xor, BitVec.ofInt_natCast, BitVec.ofInt_natCast, BitVec.toNat_ofNat, BitVec.toNat_ofNat, show IntKind.u8.wrap (((m % 2 ^ 8 ^^^ n % 2 ^ 8 : Nat) : Nat) : Int) = (((m % 2 ^ 8 ^^^ n % 2 ^ 8 : Nat) : Nat) : Int) % 256 by simp [IntKind.wrap, IntKind.bits, IntKind.signed], Nat.mod_eq_of_lt (a := m) (by omega), Nat.mod_eq_of_lt (a := n) (by omega)]
  omega
theorem xorU (c d : UInt8) : IntKind.u8.wrap ((BitVec.ofInt IntKind.u8.bits (c.toNat : Int) ^^^ BitVec.ofInt IntKind.u8.bits (d.toNat : Int)).toNat : Int) = (((c ^^^ d).toNat : Nat) : Int) := by
  rw [xor8 (UInt8.toNat_lt c) (UInt8.toNat_lt d), UInt8.toNat_xor]
theorem fdiv_2 {m : Nat} {i : Int} (hi : i = 1) : (m : Int).fdiv (2 ^ (min i.toNat IntKind.i64.bits)) = ((m / 2 : Nat) : Int) := by
  subst hi
  rw [show min (1 : Int).toNat IntKind.i64.bits = 1 from rfl, Int.fdiv_eq_ediv_of_nonneg _ (by decide)]; omega
theorem tdiv_2 {m : Nat} : (m : Int).tdiv 2 = ((m / 2 : Nat) : Int) := by rw [Int.tdiv_eq_ediv_of_nonneg (by omega)]; omega
theorem tmod_2 {m : Nat} : (m : Int).tmod 2 = ((m % 2 : Nat) : Int) := by rw [Int.tmod_eq_emod_of_nonneg (by omega)]; omega
end Go.Proofs.Ytimfnpjcedjmiaa
