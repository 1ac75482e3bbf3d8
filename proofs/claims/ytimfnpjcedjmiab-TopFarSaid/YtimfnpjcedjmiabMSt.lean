/-
  Several parts in one text: GSt GSt2 GSt3 GSt4 GSt5 GSt6 GSt7 GSt8 GSt9.
-/
import Derived.Test.YtimfnpjcedjmiabMPkt
/-
  Package state and the reference's like: what a state may be.
-/
namespace Go.Proofs.Ytimfnpjcedjmiab
open Go.RowKit
set_option linter.unusedSimpArgs false
def edgBad (e : Int × Int) : Bool := decide (e.1 < 1) || decide (6 < e.1) || decide (e.2 < 1) || decide (20 < e.2)
/-- What is wrong with edges, behind one to p. -/
def efault (o : Int) : Int → List (Int × Int) → Int
  | _, [] => 0
  | p, e :: r => if edgBad e then 1 else if e.1 = o ∨ e.1 ≤ p then 3 else efault o e.1 r
def sfault (o q : Int) (l : List (Int × Int)) : Int :=
  if o < 1 ∨ 6 < o ∨ q < 1 ∨ 1000000 < q then 1 else if 6 < l.length then 2 else efault o 0 l
theorem efault_nonneg (o : Int) : ∀ (p : Int) (l : List (Int × Int)), 0 ≤ efault o p l
  | p, [] => by simp [efault]
  | p, e :: r => by
    unfold efault
    split
    · omega
    · split
      · omega
      · exact efault_nonneg o _ r
theorem sfault_nonneg (o q : Int) (l : List (Int × Int)) : 0 ≤ sfault o q l := by
  have := efault_nonneg o 0 l
  unfold sfault
  (repeat' split) <;> omega
/-- Who the edge ahead goes to. -/
def lastTo (l : List (Int × Int)) (k : Nat) : Int := if h : 0 < k ∧ k ≤ l.length then (l[k - 1]'(by omega)).1 else 0
theorem lastTo_succ {l : List (Int × Int)} {k : Nat} (h : k < l.length) : lastTo l (k + 1) = l[k].1 := by
  unfold lastTo
  rw [dif_pos ⟨by omega, by omega⟩]
  rfl
theorem lastTo_at {l : List (Int × Int)} {k : Nat} {i : Int} (hi : i = (k : Int) - 1) (h0 : 0 < k) (h : i.toNat < l.length) : l[i.toNat].1 = lastTo l k := by
  subst hi
  unfold lastTo
  rw [dif_pos ⟨h0, by omega⟩]
  congr 2
  omega
theorem lastTo_zero {l : List (Int × Int)} : lastTo l 0 = 0 := by simp [lastTo]
theorem efault_step {l : List (Int × Int)} {k : Nat} {o : Int} (h : k < l.length) : efault o (lastTo l k) (l.drop k) = if edgBad l[k] then 1 else if l[k].1 = o ∨ l[k].1 ≤ lastTo l k then 3 else efault o (lastTo l (k + 1)) (l.drop (k + 1)) := by
  rw [drop_cons h, lastTo_succ h]
  rfl
set_option maxHeartbeats 4000000 in
set_option maxRecDepth 100000 in
theorem rsfault_ok (o q : Int) (l : List (Int × Int)) : Fn Try.prog 38 [.agg [.v (.int .i64 o), .v (.int .i64 q), .sl 2 (l.map opRow) none]] [] (.v (.int .i64 (sfault o q l))) [] := by
  refine fn_of mixed [] [] Try.func38 rfl (by decide +kernel) Try.ntmps38 rfl (congrArg Array.toList Try.results38) rfl (by decide +kernel) ?_
  (iterate 2 all_goals (try (repeat' (conv => whnf); (first | (with_reducible refine And.intro ?_ ?_) | (with_reducible exact True.intro) | (intro h; (first | (cases h) | ((first | (simp only [vis, Int.reduceToNat] at h) | skip); (try (exfalso; omega))))) | (with_reducible refine Vc.mk ?_; fail) | (with_reducible refine cutG ?_; fail) | (refine idx_map ?_ ?_) | (refine idx_mapI ?_ ?_ ?_) ))))
  all_goals (try (refine Vc.mk ?_; (first | (exact rfl) | (decide) | omega | (unfold In64; omega) | (simp only [wrap_byte, Int.reduceToNat, Int.toNat_natCast, In64]; omega) | (simp only [maxLen, Fits, viewR, viewL, AV.view, List.length_map, List.length_append, List.length_cons, List.length_nil]; omega) | (simp [viewR, viewL, AV.view, ]; done) | skip)))
  all_goals (try (((try (conv => whnf)); refine ⟨[], rfl, rfl, ?_, ?_⟩); (repeat' (conv => whnf); (first | (with_reducible refine And.intro ?_ ?_) | (with_reducible exact True.intro) | (with_reducible exact Or.inl rfl) | (refine Vc.mk ?_; (first | (exact rfl) | (exact ⟨rfl, .inl rfl⟩) | omega | skip)))); unfold sfault; (repeat' split) <;> first | rfl | omega))
  all_goals
    have hp : sfault o q l = efault o (lastTo l 0) l := by unfold sfault; rw [lastTo_zero]; (repeat' split) <;> first | rfl | omega
    refine lpG (fun k : Nat => ⟨[(1, .box 0 0), (3, .v (.int .i64 k))], [.cells [.v (.int .i64 o), .v (.int .i64 q), .sl 2 (l.map opRow) none]]⟩) (fun k => k ≤ l.length ∧ sfault o q l = efault o (lastTo l k) (l.drop k)) (fun k => l.length - k) 0 ⟨by omega, hp⟩ (by (refine le_sub [0] rfl rfl ?_ ?_); all_goals ((repeat' (conv => whnf); (first | (with_reducible refine And.intro ?_ ?_) | (with_reducible exact True.intro) | (with_reducible exact Or.inl rfl) | (refine Vc.mk ?_; (first | (exact rfl) | (exact ⟨rfl, .inl rfl⟩) | omega | skip)))); all_goals (try simp))) ?_
    rintro k ⟨hk, hq⟩
    (iterate 2 all_goals (try (repeat' (conv => whnf); (first | (with_reducible refine And.intro ?_ ?_) | (with_reducible exact True.intro) | (intro h; (first | (cases h) | ((first | (simp only [vis, Int.reduceToNat] at h) | skip); (try (exfalso; omega))))) | (with_reducible refine Vc.mk ?_; fail) | (with_reducible refine cutG ?_; fail) | (refine idx_map ?_ ?_) | (refine idx_mapI ?_ ?_ ?_) ))))
    all_goals (try omega)
    all_goals (try (refine Vc.mk ?_; (first | (exact rfl) | (decide) | omega | (unfold In64; omega) | (simp only [wrap_byte, Int.reduceToNat, Int.toNat_natCast, In64]; omega) | (simp only [maxLen, Fits, viewR, viewL, AV.view, List.length_map, List.length_append, List.length_cons, List.length_nil]; omega) | (simp [viewR, viewL, AV.view, ]; done) | skip)))
    all_goals (try
      (have hk' : k < l.length := by omega
       rw [efault_step hk'] at hq
       have hb : edgBad l[k] = true := by simp only [edgBad, Bool.or_eq_true, decide_eq_true_eq]; omega
       rw [if_pos hb] at hq
       ((try (conv => whnf)); refine ⟨[], rfl, rfl, ?_, ?_⟩)
       · (repeat' (conv => whnf); (first | (with_reducible refine And.intro ?_ ?_) | (with_reducible exact True.intro) | (with_reducible exact Or.inl rfl) | (refine Vc.mk ?_; (first | (exact rfl) | (exact ⟨rfl, .inl rfl⟩) | omega | skip))))
       · (repeat' (conv => whnf); (first | (with_reducible refine And.intro ?_ ?_) | (with_reducible exact True.intro) | (with_reducible exact Or.inl rfl) | (refine Vc.mk ?_; (first | (exact rfl) | (exact ⟨rfl, .inl rfl⟩) | omega | skip)))); all_goals exact hq.symm))
    all_goals (try
      (have e : k = l.length := by omega
       subst e
       rw [List.drop_length] at hq
       ((try (conv => whnf)); refine ⟨[], rfl, rfl, ?_, ?_⟩)
       · (repeat' (conv => whnf); (first | (with_reducible refine And.intro ?_ ?_) | (with_reducible exact True.intro) | (with_reducible exact Or.inl rfl) | (refine Vc.mk ?_; (first | (exact rfl) | (exact ⟨rfl, .inl rfl⟩) | omega | skip))))
       · (repeat' (conv => whnf); (first | (with_reducible refine And.intro ?_ ?_) | (with_reducible exact True.intro) | (with_reducible exact Or.inl rfl) | (refine Vc.mk ?_; (first | (exact rfl) | (exact ⟨rfl, .inl rfl⟩) | omega | skip)))); all_goals exact hq.symm))
  all_goals
    have hk' : k < l.length := by omega
    have hb : ¬ edgBad l[k] = true := by simp only [edgBad, Bool.or_eq_true, decide_eq_true_eq]; omega
    rw [efault_step hk', if_neg hb] at hq
    have hla : lastTo l k = 0 ∧ k = 0 ∨ ∃ (h0 : 0 < k) (hx : ((k : Int) - 1).toNat < l.length), l[((k : Int) - 1).toNat].1 = lastTo l k := by
      rcases Nat.eq_zero_or_pos k with h0 | h0
      · exact .inl ⟨by rw [h0, lastTo_zero], h0⟩
      · exact .inr ⟨h0, by omega, lastTo_at rfl h0 (by omega)⟩
    by_cases hc : l[k].1 = o ∨ l[k].1 ≤ lastTo l k
    · rw [if_pos hc] at hq
      first
        | (exfalso; rcases hla with ⟨e1, e2⟩ | ⟨h0, hx, e1⟩ <;> omega)
        | (((try (conv => whnf)); refine ⟨[], rfl, rfl, ?_, ?_⟩); (repeat' (conv => whnf); (first | (with_reducible refine And.intro ?_ ?_) | (with_reducible exact True.intro) | (with_reducible exact Or.inl rfl) | (refine Vc.mk ?_; (first | (exact rfl) | (exact ⟨rfl, .inl rfl⟩) | omega | skip)))); all_goals exact hq.symm)
    · rw [if_neg hc] at hq
      first
        | (exfalso; rcases hla with ⟨e1, e2⟩ | ⟨h0, hx, e1⟩ <;> omega)
        | (refine nextG (k + 1) ⟨by omega, hq⟩ (by omega) (by (refine le_sub [0] rfl rfl ?_ ?_); all_goals (repeat' (conv => whnf); (first | (with_reducible refine And.intro ?_ ?_) | (with_reducible exact True.intro) | (with_reducible exact Or.inl rfl) | (refine Vc.mk ?_; (first | (exact rfl) | (exact ⟨rfl, .inl rfl⟩) | omega | skip))))))
end Go.Proofs.Ytimfnpjcedjmiab

/-
  Bytes of states.
-/
namespace Go.Proofs.Ytimfnpjcedjmiab
open Go.RowKit
set_option linter.unusedSimpArgs false
def sbyt (o q : Int) (l : List (Int × Int)) : List UInt8 := [u8 o, u8 q, u8 (q / 256), u8 (q / 65536)] ++ l.flatMap fun e => [u8 e.1, u8 e.2]
theorem sbyt_succ {c i : Int} {l : List (Int × Int)} {k : Nat} (h : k < l.length) : sbyt c i (l.take (k + 1)) = sbyt c i (l.take k) ++ [u8 l[k].1, u8 l[k].2] := by
  unfold sbyt
  rw [List.take_add_one, List.getElem?_eq_getElem h, List.flatMap_append, List.append_assoc]
  simp
theorem sbyt_len {c i : Int} {l : List (Int × Int)} : (sbyt c i l).length = 4 + 2 * l.length := by
  unfold sbyt
  have : (l.flatMap fun o : Int × Int => [u8 o.1, u8 o.2]).length = 2 * l.length := by
    induction l with
    | nil => rfl
    | cons o l ih => simp only [List.flatMap_cons, List.length_append, ih, List.length_cons, List.length_nil]; omega
  simp only [List.length_append, this, List.length_cons, List.length_nil]
theorem u8_mod {n m : Int} (h : n % 256 = m % 256) : u8 n = u8 m := by unfold u8; rw [h]
theorem u8_8 {q : Int} : u8 (q.fdiv 256) = u8 (q / 256) := by rw [Int.fdiv_eq_ediv_of_nonneg _ (by decide)]
theorem u8_16 {q : Int} : u8 (q.fdiv 65536) = u8 (q / 65536) := by rw [Int.fdiv_eq_ediv_of_nonneg _ (by decide)]
theorem u8_r0 {q : Int} (h : 0 ≤ q) : u8 (q.tmod 256) = u8 q := u8_mod (by rw [Int.tmod_eq_emod_of_nonneg h]; omega)
theorem u8_r1 {q : Int} (h : 0 ≤ q) : u8 ((q.tdiv 256).tmod 256) = u8 (q / 256) := u8_mod (by rw [Int.tdiv_eq_ediv_of_nonneg h, Int.tmod_eq_emod_of_nonneg (by omega)]; omega)
theorem u8_r2 {q : Int} (h : 0 ≤ q) : u8 (q.tdiv 65536) = u8 (q / 65536) := by rw [Int.tdiv_eq_ediv_of_nonneg h]
end Go.Proofs.Ytimfnpjcedjmiab

/-
  States of bytes.
-/
namespace Go.Proofs.Ytimfnpjcedjmiab
open Go.RowKit
set_option linter.unusedSimpArgs false
theorem or64 {x y k : Nat} (hx : x < 2 ^ k) (hb : y * 2 ^ k + x < 2 ^ 63) : (BitVec.ofInt 64 (x : Int) ||| BitVec.ofInt 64 ((y * 2 ^ k : Nat) : Int)).toNat = y * 2 ^ k + x := by
  rw [BitVec.ofInt_natCast, BitVec.ofInt_natCast, BitVec.toNat_or, BitVec.toNat_ofNat, BitVec.toNat_ofNat, Nat.mod_eq_of_lt (by omega), Nat.mod_eq_of_lt (by omega), Nat.or_comm, ← Nat.shiftLeft_eq, ← Nat.shiftLeft_add_eq_or_of_lt hx]
theorem seq_or {a b c : Nat} (ha : a < 256) (hb : b < 256) (hc : c < 256) :
    IntKind.i64.wrap (BitVec.ofInt IntKind.i64.bits (IntKind.i64.wrap (BitVec.ofInt IntKind.i64.bits (a : Int) ||| BitVec.ofInt IntKind.i64.bits (IntKind.i64.wrap ((b : Int) * 2 ^ (min (8 : Int).toNat IntKind.i64.bits)))).toNat) ||| BitVec.ofInt IntKind.i64.bits (IntKind.i64.wrap ((c : Int) * 2 ^ (min (16 : Int).toNat IntKind.i64.bits)))).toNat = a + 256 * b + 65536 * c := by
  have e8 : (b : Int) * 2 ^ (min (8 : Int).toNat IntKind.i64.bits) = ((b * 2 ^ 8 : Nat) : Int) := by simp [IntKind.bits]
  have e16 : (c : Int) * 2 ^ (min (16 : Int).toNat IntKind.i64.bits) = ((c * 2 ^ 16 : Nat) : Int) := by simp [IntKind.bits]
  rw [e8, e16, wrap_in (x := ((b * 2 ^ 8 : Nat) : Int)) (by unfold In64; omega), wrap_in (x := ((c * 2 ^ 16 : Nat) : Int)) (by unfold In64; omega)]
  show IntKind.i64.wrap (BitVec.ofInt 64 (IntKind.i64.wrap (BitVec.ofInt 64 (a : Int) ||| BitVec.ofInt 64 ((b * 2 ^ 8 : Nat) : Int)).toNat) ||| BitVec.ofInt 64 ((c * 2 ^ 16 : Nat) : Int)).toNat = _
  rw [or64 (by omega) (by omega), wrap_in (x := ((b * 2 ^ 8 + a : Nat) : Int)) (by unfold In64; omega), or64 (by omega) (by omega), wrap_in (by unfold In64; omega)]
  omega
def sopts (s : ByteArray) (n : Nat) : List (Int × Int) := (List.range n).map fun q => ((byteAt s (4 + 2 * q) : Int), (byteAt s (5 + 2 * q) : Int))
theorem sopts_succ {s : ByteArray} {n : Nat} : sopts s (n + 1) = sopts s n ++ [((byteAt s (4 + 2 * n) : Int), (byteAt s (5 + 2 * n) : Int))] := by
  unfold sopts; rw [List.range_succ, List.map_append]; rfl
theorem sopts_len {s : ByteArray} {n : Nat} : (sopts s n).length = n := by simp [sopts]
def sseq (s : ByteArray) : Int := byteAt s 1 + 256 * byteAt s 2 + 65536 * byteAt s 3
def snum (s : ByteArray) : Nat := (s.size - 4) / 2
def sgood (s : ByteArray) : Bool := decide (4 ≤ s.size) && decide (s.size % 2 = 0) && decide (sfault (byteAt s 0) (sseq s) (sopts s (snum s)) = 0)
theorem sgood_iff {s : ByteArray} : sgood s = true ↔ 4 ≤ s.size ∧ s.size % 2 = 0 ∧ sfault (byteAt s 0) (sseq s) (sopts s (snum s)) = 0 := by simp [sgood, and_assoc]
def scode (s : ByteArray) : Int := if sgood s then byteAt s 0 else 0
def sid (s : ByteArray) : Int := if sgood s then sseq s else 0
def sopt (s : ByteArray) : List (Int × Int) := if sgood s then sopts s (snum s) else []
def serr (s : ByteArray) : Int := if sgood s then 0 else 4
end Go.Proofs.Ytimfnpjcedjmiab

/-
  States of bytes: the reference's.
-/
namespace Go.Proofs.Ytimfnpjcedjmiab
open Go.RowKit
set_option linter.unusedSimpArgs false
end Go.Proofs.Ytimfnpjcedjmiab

/-
  States: alike, copied.
-/
namespace Go.Proofs.Ytimfnpjcedjmiab
open Go.RowKit
set_option linter.unusedSimpArgs false
end Go.Proofs.Ytimfnpjcedjmiab

/-
  Compared.
-/
namespace Go.Proofs.Ytimfnpjcedjmiab
open Go.RowKit
set_option linter.unusedSimpArgs false
def cmpI (a b : Int) : Int := if a < b then -1 else if b < a then 1 else 0
def orI (a b : Int) : Int := if a ≠ 0 then a else b
/-- The first that is not 0. -/
def orL : List Int → Int
  | [] => 0
  | x :: r => if x ≠ 0 then x else orL r
end Go.Proofs.Ytimfnpjcedjmiab

/-
  Newer.
-/
namespace Go.Proofs.Ytimfnpjcedjmiab
open Go.RowKit
set_option linter.unusedSimpArgs false
def cmpE : List (Int × Int) → List (Int × Int) → Int
  | [], [] => 0
  | [], _ :: _ => -1
  | _ :: _, [] => 1
  | x :: la, y :: lb => if orL [cmpI x.1 y.1, cmpI x.2 y.2] ≠ 0 then orL [cmpI x.1 y.1, cmpI x.2 y.2] else cmpE la lb
end Go.Proofs.Ytimfnpjcedjmiab

/-
  Newer: of two states.
-/
namespace Go.Proofs.Ytimfnpjcedjmiab
open Go.RowKit
set_option linter.unusedSimpArgs false
end Go.Proofs.Ytimfnpjcedjmiab

/-
  Newer: the reference's.
-/
namespace Go.Proofs.Ytimfnpjcedjmiab
open Go.RowKit
set_option linter.unusedSimpArgs false
def edgOk (l : List (Int × Int)) : Prop := ∀ i (h : i < l.length), 1 ≤ l[i].1 ∧ l[i].1 ≤ 6 ∧ 1 ≤ l[i].2 ∧ l[i].2 ≤ 20
theorem orL2 (a b : Int) : orL [a, b] = if a ≠ 0 then a else b := by
  simp only [orL]
  by_cases h : a = 0
  · subst h; simp; intro h; exact h.symm
  · simp [h]
theorem cmpE_cons {x y : Int × Int} {la lb : List (Int × Int)} : cmpE (x :: la) (y :: lb) = if orL [cmpI x.1 y.1, cmpI x.2 y.2] ≠ 0 then orL [cmpI x.1 y.1, cmpI x.2 y.2] else cmpE la lb := rfl
end Go.Proofs.Ytimfnpjcedjmiab
