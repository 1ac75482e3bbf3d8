/-
  Plain Lean: a byte that is turned turns the sum.
-/
import Derived.Test.YtimfnpjcedjmiaaMFr
namespace Go.Proofs.Ytimfnpjcedjmiaa
theorem xor_injR {a b c : Nat} (h : a ^^^ c = b ^^^ c) : a = b := by
  have := congrArg (· ^^^ c) h
  simpa [Nat.xor_assoc] using this
theorem xor_injL {a b c : Nat} (h : c ^^^ a = c ^^^ b) : a = b := xor_injR (c := c) (by rw [Nat.xor_comm a c, Nat.xor_comm b c]; exact h)
theorem crc1_mix {x y : Nat} (hx : x < 65536) (hy : y < 65536) (h : (x / 2) ^^^ 33800 = y / 2) : False := by
  have hb := congrArg (fun n => n.testBit 15) h
  have e1 : (x / 2).testBit 15 = false := Nat.testBit_lt_two_pow (by omega)
  have e2 : (y / 2).testBit 15 = false := Nat.testBit_lt_two_pow (by omega)
  have e3 : (33800 : Nat).testBit 15 = true := by decide
  simp only [Nat.testBit_xor, e1, e2, e3] at hb
  cases hb
theorem crc1_inj {x y : Nat} (hx : x < 65536) (hy : y < 65536) (h : crc1 x = crc1 y) : x = y := by
  unfold crc1 at h
  split at h
  · split at h
    · have := xor_injR h; omega
    · exact (crc1_mix hx hy h).elim
  · split at h
    · exact (crc1_mix hy hx h.symm).elim
    · omega
theorem crcN_inj {x y : Nat} (hx : x < 65536) (hy : y < 65536) : ∀ n, crcN x n = crcN y n → x = y
  | 0, h => h
  | n + 1, h => crcN_inj hx hy n (crc1_inj (crcN_lt hx n) (crcN_lt hy n) h)
theorem crcB_x (x : Nat) (c : UInt8) (h : x < 65536) : x ^^^ c.toNat < 65536 := xor_lt h (by have := UInt8.toNat_lt c; omega)
theorem crcB_injX {x y : Nat} {c : UInt8} (hx : x < 65536) (hy : y < 65536) (h : crcB x c = crcB y c) : x = y := xor_injR (crcN_inj (crcB_x x c hx) (crcB_x y c hy) 8 h)
theorem crcB_injC {x : Nat} {c d : UInt8} (hx : x < 65536) (h : crcB x c = crcB x d) : c = d := by
  have := xor_injL (crcN_inj (crcB_x x c hx) (crcB_x x d hx) 8 h)
  exact UInt8.toNat_inj.1 this
theorem crcF_inj : ∀ (l : List UInt8) {x y : Nat}, x < 65536 → y < 65536 → l.foldl crcB x = l.foldl crcB y → x = y
  | [], _, _, _, _, h => h
  | c :: l, _, _, hx, hy, h => crcB_injX hx hy (crcF_inj l (crcB_lt hx c) (crcB_lt hy c) h)
/-- A byte that is turned turns the sum. -/
theorem sumL_turn (l m : List UInt8) (c d : UInt8) (h : c ≠ d) : sumL (l ++ c :: m) ≠ sumL (l ++ d :: m) := by
  intro e
  have e := xor_injR e
  unfold crcL at e
  rw [List.foldl_append, List.foldl_append, List.foldl_cons, List.foldl_cons] at e
  have hl := crcF_lt l (x := 65535) (by decide)
  exact h (crcB_injC hl (crcF_inj m (crcB_lt hl c) (crcB_lt hl d) e))
theorem sumL_set {l : List UInt8} {i : Nat} (hi : i < l.length) {d : UInt8} (h : l[i] ≠ d) : sumL (l.set i d) ≠ sumL l := by
  have e1 : l.set i d = l.take i ++ d :: l.drop (i + 1) := List.set_eq_take_append_cons_drop .. |>.trans (by rw [if_pos hi])
  have e2 : l = l.take i ++ l[i] :: l.drop (i + 1) := by rw [← List.drop_eq_getElem_cons hi, List.take_append_drop]
  intro e
  rw [e1] at e
  exact sumL_turn _ _ _ _ h (e.trans (congrArg sumL e2)).symm
end Go.Proofs.Ytimfnpjcedjmiaa
