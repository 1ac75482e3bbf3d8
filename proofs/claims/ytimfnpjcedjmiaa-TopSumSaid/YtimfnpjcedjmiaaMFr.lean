/-
  Package frame and the reference's like: sums, frames.
-/
import Derived.Test.YtimfnpjcedjmiaaVoc
namespace Go.Proofs.Ytimfnpjcedjmiaa
open Go.RowKit
set_option linter.unusedSimpArgs false
set_option linter.unusedVariables false
def crc1 (x : Nat) : Nat := if x % 2 = 1 then (x / 2) ^^^ 33800 else x / 2
def crcN (x : Nat) : Nat → Nat
  | 0 => x
  | n + 1 => crc1 (crcN x n)
def crcB (x : Nat) (c : UInt8) : Nat := crcN (x ^^^ c.toNat) 8
def crcL (l : List UInt8) : Nat := l.foldl crcB 65535
def sumL (l : List UInt8) : Nat := crcL l ^^^ 65535
theorem xor_lt {m n : Nat} (hm : m < 65536) (hn : n < 65536) : m ^^^ n < 65536 := Nat.xor_lt_two_pow (n := 16) hm hn
theorem crc1_lt {x : Nat} (h : x < 65536) : crc1 x < 65536 := by
  unfold crc1
  split
  · exact xor_lt (by omega) (by decide)
  · omega
theorem crcN_lt {x : Nat} (h : x < 65536) : ∀ n, crcN x n < 65536
  | 0 => h
  | n + 1 => crc1_lt (crcN_lt h n)
theorem crcB_lt {x : Nat} (h : x < 65536) (c : UInt8) : crcB x c < 65536 := crcN_lt (xor_lt h (by have := UInt8.toNat_lt c; omega)) 8
theorem crcF_lt : ∀ (l : List UInt8) {x : Nat}, x < 65536 → l.foldl crcB x < 65536
  | [], x, h => h
  | c :: l, x, h => crcF_lt l (crcB_lt h c)
theorem crcL_lt (l : List UInt8) : crcL l < 65536 := crcF_lt l (by decide)
theorem sumL_lt (l : List UInt8) : sumL l < 65536 := xor_lt (crcL_lt l) (by decide)
theorem crcL_succ {l : List UInt8} {k : Nat} (h : k < l.length) : crcL (l.take (k + 1)) = crcB (crcL (l.take k)) l[k] := by
  unfold crcL
  rw [take_succ' h, List.foldl_append]; rfl
theorem crc1_odd {x : Nat} (h : x % 2 = 1) : crc1 x = (x / 2) ^^^ 33800 := by unfold crc1; rw [if_pos h]
theorem crc1_even {x : Nat} (h : x % 2 ≠ 1) : crc1 x = x / 2 := by unfold crc1; rw [if_neg h]
set_option maxHeartbeats 4000000 in
set_option maxRecDepth 100000 in
theorem sum_ok (s : ByteArray) (hs : s.size ≤ 1000000) : Fn Try.prog 50 [.v (.string s)] [] (.v (.int .i64 (sumL (bs s)))) [] := by
  have hl := bs_len s
  refine fn_of mixed [] [] Try.func50 rfl (by decide +kernel) Try.ntmps50 rfl (congrArg Array.toList Try.results50) rfl (by decide +kernel) ?_
  (iterate 2 all_goals (try (repeat' (conv => whnf); (first | (with_reducible refine And.intro ?_ ?_) | (with_reducible exact True.intro) | (intro h; (first | (cases h) | ((first | (simp only [vis, Int.reduceToNat] at h) | skip); (try (exfalso; omega))))) | (with_reducible refine Vc.mk ?_; fail) | (with_reducible refine cutG ?_; fail) | (refine idx_map ?_ ?_) | (refine idx_mapI ?_ ?_ ?_) ))))
  refine lpG (fun k : Nat => ⟨[(0, .v (.string s)), (3, .v (.int .i64 (crcL ((bs s).take k)))), (7, .v (.int .i64 s.size)), (8, .v (.int .i64 k))], []⟩) (fun k => k ≤ s.size) (fun k => s.size - k) 0 (by omega) (by (refine le_sub [] rfl rfl ?_ ?_); all_goals ((repeat' (conv => whnf); (first | (with_reducible refine And.intro ?_ ?_) | (with_reducible exact True.intro) | (with_reducible exact Or.inl rfl) | (refine Vc.mk ?_; (first | (exact rfl) | (exact ⟨rfl, .inl rfl⟩) | omega | skip)))); all_goals (try simp [crcL]))) ?_
  rintro k hk
  have hc := crcL_lt ((bs s).take k)
  (iterate 2 all_goals (try (repeat' (conv => whnf); (first | (with_reducible refine And.intro ?_ ?_) | (with_reducible exact True.intro) | (intro h; (first | (cases h) | ((first | (simp only [vis, Int.reduceToNat] at h) | skip); (try (exfalso; omega))))) | (with_reducible refine Vc.mk ?_; fail) | (with_reducible refine cutG ?_; fail) | (refine idx_map ?_ ?_) | (refine idx_mapI ?_ ?_ ?_) ))))
  all_goals (try omega)
  all_goals (try (first | (exact GLt) | (refine Vc.mk ?_)))
  · have hk' : k < (bs s).length := by omega
    have hb := UInt8.toNat_lt (bs s)[k]
    refine lpG (fun j : Nat => ⟨[(0, .v (.string s)), (3, .v (.int .i64 (crcN (crcL ((bs s).take k) ^^^ ((bs s)[k]).toNat) j))), (7, .v (.int .i64 s.size)), (8, .v (.int .i64 k)), (17, .v (.int .i64 j))], []⟩) (fun j => j ≤ 8) (fun j => 8 - j) 0 (by omega) (by
      (refine le_sub [] rfl rfl ?_ ?_); all_goals ((repeat' (conv => whnf); (first | (with_reducible refine And.intro ?_ ?_) | (with_reducible exact True.intro) | (with_reducible exact Or.inl rfl) | (refine Vc.mk ?_; (first | (exact rfl) | (exact ⟨rfl, .inl rfl⟩) | omega | skip)))); all_goals (try (rw [show ((k : Int)).toNat = k from Int.toNat_natCast k, wrap_byte, byteAt_eq hk', xor64 (by omega) (by omega)]; rfl)))) ?_
    rintro j hj
    have hx := crcN_lt (xor_lt hc (by omega : (bs s)[k].toNat < 65536)) j
    generalize hgx : crcN (crcL ((bs s).take k) ^^^ ((bs s)[k]).toNat) j = x at *
    (iterate 2 all_goals (try (repeat' (conv => whnf); (first | (with_reducible refine And.intro ?_ ?_) | (with_reducible exact True.intro) | (intro h; (first | (cases h) | ((first | (simp only [vis, Int.reduceToNat] at h) | skip); (try (exfalso; omega))))) | (with_reducible refine Vc.mk ?_; fail) | (with_reducible refine cutG ?_; fail) | (refine idx_map ?_ ?_) | (refine idx_mapI ?_ ?_ ?_) ))))
    all_goals (try omega)
    all_goals (try (first | (exact GLt) | (refine Vc.mk ?_)))
    · rw [and64_1 (by omega)] at h
      refine nextG (j + 1) (by omega) (by omega) (by (refine le_sub [] rfl rfl ?_ ?_); all_goals ((repeat' (conv => whnf); (first | (with_reducible refine And.intro ?_ ?_) | (with_reducible exact True.intro) | (with_reducible exact Or.inl rfl) | (refine Vc.mk ?_; (first | (exact rfl) | (exact ⟨rfl, .inl rfl⟩) | omega | skip)))); all_goals (try (rw [fdiv_2 rfl, show (33800 : Int) = ((33800 : Nat) : Int) from rfl, xor64 (by omega) (by decide)]; show _ = ((crc1 (crcN _ j) : Nat) : Int); rw [hgx, crc1_odd (by omega)]))))
    · rw [and64_1 (by omega)] at h
      refine nextG (j + 1) (by omega) (by omega) (by (refine le_sub [] rfl rfl ?_ ?_); all_goals ((repeat' (conv => whnf); (first | (with_reducible refine And.intro ?_ ?_) | (with_reducible exact True.intro) | (with_reducible exact Or.inl rfl) | (refine Vc.mk ?_; (first | (exact rfl) | (exact ⟨rfl, .inl rfl⟩) | omega | skip)))); all_goals (try (rw [fdiv_2 rfl]; show _ = ((crc1 (crcN _ j) : Nat) : Int); rw [hgx, crc1_even (by omega)]))))
    · have e : j = 8 := by omega
      subst e
      refine nextG (k + 1) (by omega) (by omega) (by (refine le_sub [] rfl rfl ?_ ?_); all_goals ((repeat' (conv => whnf); (first | (with_reducible refine And.intro ?_ ?_) | (with_reducible exact True.intro) | (with_reducible exact Or.inl rfl) | (refine Vc.mk ?_; (first | (exact rfl) | (exact ⟨rfl, .inl rfl⟩) | omega | skip)))); all_goals (try (rw [crcL_succ hk']; unfold crcB; rw [hgx]))))
  · have e : k = s.size := by omega
    subst e
    rw [← hl, List.take_length] at hc
    ((try (conv => whnf)); refine ⟨[], rfl, rfl, ?_, ?_⟩); (repeat' (conv => whnf); (first | (with_reducible refine And.intro ?_ ?_) | (with_reducible exact True.intro) | (with_reducible exact Or.inl rfl) | (refine Vc.mk ?_; (first | (exact rfl) | (exact ⟨rfl, .inl rfl⟩) | omega | skip))))
    all_goals (rw [← hl, List.take_length, show (65535 : Int) = ((65535 : Nat) : Int) from rfl, xor64 (by omega) (by decide)]; rfl)
set_option maxHeartbeats 4000000 in
set_option maxRecDepth 100000 in
theorem rsum_ok (s : ByteArray) (hs : s.size ≤ 1000000) : Fn Try.prog 51 [.v (.string s)] [] (.v (.int .i64 (sumL (bs s)))) [] := by
  have hl := bs_len s
  refine fn_of mixed [] [] Try.func51 rfl (by decide +kernel) Try.ntmps51 rfl (congrArg Array.toList Try.results51) rfl (by decide +kernel) ?_
  (iterate 2 all_goals (try (repeat' (conv => whnf); (first | (with_reducible refine And.intro ?_ ?_) | (with_reducible exact True.intro) | (intro h; (first | (cases h) | ((first | (simp only [vis, Int.reduceToNat] at h) | skip); (try (exfalso; omega))))) | (with_reducible refine Vc.mk ?_; fail) | (with_reducible refine cutG ?_; fail) | (refine idx_map ?_ ?_) | (refine idx_mapI ?_ ?_ ?_) ))))
  refine lpG (fun k : Nat => ⟨[(0, .v (.string s)), (3, .v (.int .i64 (crcL ((bs s).take k)))), (4, .v (.int .i64 k))], []⟩) (fun k => k ≤ s.size) (fun k => s.size - k) 0 (by omega) (by (refine le_sub [] rfl rfl ?_ ?_); all_goals ((repeat' (conv => whnf); (first | (with_reducible refine And.intro ?_ ?_) | (with_reducible exact True.intro) | (with_reducible exact Or.inl rfl) | (refine Vc.mk ?_; (first | (exact rfl) | (exact ⟨rfl, .inl rfl⟩) | omega | skip)))); all_goals (try simp [crcL]))) ?_
  rintro k hk
  have hc := crcL_lt ((bs s).take k)
  (iterate 2 all_goals (try (repeat' (conv => whnf); (first | (with_reducible refine And.intro ?_ ?_) | (with_reducible exact True.intro) | (intro h; (first | (cases h) | ((first | (simp only [vis, Int.reduceToNat] at h) | skip); (try (exfalso; omega))))) | (with_reducible refine Vc.mk ?_; fail) | (with_reducible refine cutG ?_; fail) | (refine idx_map ?_ ?_) | (refine idx_mapI ?_ ?_ ?_) ))))
  all_goals (try omega)
  all_goals (try (first | (exact GLt) | (refine Vc.mk ?_)))
  · have hk' : k < (bs s).length := by omega
    have hb := UInt8.toNat_lt (bs s)[k]
    refine lpG (fun j : Nat => ⟨[(0, .v (.string s)), (3, .v (.int .i64 (crcN (crcL ((bs s).take k) ^^^ ((bs s)[k]).toNat) j))), (4, .v (.int .i64 k)), (5, .v (.int .i64 j))], []⟩) (fun j => j ≤ 8) (fun j => 8 - j) 0 (by omega) (by
      (refine le_sub [] rfl rfl ?_ ?_); all_goals ((repeat' (conv => whnf); (first | (with_reducible refine And.intro ?_ ?_) | (with_reducible exact True.intro) | (with_reducible exact Or.inl rfl) | (refine Vc.mk ?_; (first | (exact rfl) | (exact ⟨rfl, .inl rfl⟩) | omega | skip)))); all_goals (try (rw [show ((k : Int)).toNat = k from Int.toNat_natCast k, wrap_byte, byteAt_eq hk', xor64 (by omega) (by omega)]; rfl)))) ?_
    rintro j hj
    have hx := crcN_lt (xor_lt hc (by omega : (bs s)[k].toNat < 65536)) j
    generalize hgx : crcN (crcL ((bs s).take k) ^^^ ((bs s)[k]).toNat) j = x at *
    have tm : (x : Int).tmod 2 = ((x % 2 : Nat) : Int) := tmod_2
    have td : (x : Int).tdiv 2 = ((x / 2 : Nat) : Int) := tdiv_2
    (iterate 2 all_goals (try (repeat' (conv => whnf); (first | (with_reducible refine And.intro ?_ ?_) | (with_reducible exact True.intro) | (intro h; (first | (cases h) | ((first | (simp only [vis, Int.reduceToNat] at h) | skip); (try (exfalso; omega))))) | (with_reducible refine Vc.mk ?_; fail) | (with_reducible refine cutG ?_; fail) | (refine idx_map ?_ ?_) | (refine idx_mapI ?_ ?_ ?_) ))))
    all_goals (try omega)
    all_goals (try (refine Vc.mk ?_; first | decide | (unfold In64; omega)))
    · refine nextG (j + 1) (by omega) (by omega) (by (refine le_sub [] rfl rfl ?_ ?_); all_goals ((repeat' (conv => whnf); (first | (with_reducible refine And.intro ?_ ?_) | (with_reducible exact True.intro) | (with_reducible exact Or.inl rfl) | (refine Vc.mk ?_; (first | (exact rfl) | (exact ⟨rfl, .inl rfl⟩) | omega | skip)))); all_goals (try (rw [td, show (33800 : Int) = ((33800 : Nat) : Int) from rfl, xor64 (by omega) (by decide)]; show _ = ((crc1 (crcN _ j) : Nat) : Int); rw [hgx, crc1_odd (by omega)]))))
    · refine nextG (j + 1) (by omega) (by omega) (by (refine le_sub [] rfl rfl ?_ ?_); all_goals ((repeat' (conv => whnf); (first | (with_reducible refine And.intro ?_ ?_) | (with_reducible exact True.intro) | (with_reducible exact Or.inl rfl) | (refine Vc.mk ?_; (first | (exact rfl) | (exact ⟨rfl, .inl rfl⟩) | omega | skip)))); all_goals (try (rw [td]; show _ = ((crc1 (crcN _ j) : Nat) : Int); rw [hgx, crc1_even (by omega)]))))
    · have e : j = 8 := by omega
      subst e
      refine nextG (k + 1) (by omega) (by omega) (by (refine le_sub [] rfl rfl ?_ ?_); all_goals ((repeat' (conv => whnf); (first | (with_reducible refine And.intro ?_ ?_) | (with_reducible exact True.intro) | (with_reducible exact Or.inl rfl) | (refine Vc.mk ?_; (first | (exact rfl) | (exact ⟨rfl, .inl rfl⟩) | omega | skip)))); all_goals (try (rw [crcL_succ hk']; unfold crcB; rw [hgx]))))
  · have e : k = s.size := by omega
    subst e
    rw [← hl, List.take_length] at hc
    ((try (conv => whnf)); refine ⟨[], rfl, rfl, ?_, ?_⟩); (repeat' (conv => whnf); (first | (with_reducible refine And.intro ?_ ?_) | (with_reducible exact True.intro) | (with_reducible exact Or.inl rfl) | (refine Vc.mk ?_; (first | (exact rfl) | (exact ⟨rfl, .inl rfl⟩) | omega | skip))))
    all_goals (rw [← hl, List.take_length, show (65535 : Int) = ((65535 : Nat) : Int) from rfl, xor64 (by omega) (by decide)]; rfl)
/-- A byte, escaped where it has to be. -/
def escB (c : UInt8) : List UInt8 := if c = 126 ∨ c = 125 ∨ c.toNat < 32 then [125, c ^^^ 32] else [c]
def trail (l : List UInt8) : List UInt8 := l ++ [u8 (sumL l), u8 ((sumL l / 256 : Nat) : Int)]
/-- A frame, without its last flag. -/
def frmO (l : List UInt8) : List UInt8 := [126] ++ l.flatMap escB
def frm (l : List UInt8) : List UInt8 := frmO (trail l) ++ [126]
theorem escB_len (c : UInt8) : (escB c).length ≤ 2 := by unfold escB; split <;> simp
theorem frmO_succ {l : List UInt8} {k : Nat} (h : k < l.length) : frmO (l.take (k + 1)) = frmO (l.take k) ++ escB l[k] := by
  unfold frmO
  rw [take_succ' h, List.flatMap_append, List.append_assoc]; simp
theorem frmO_len (l : List UInt8) : (frmO l).length ≤ 1 + 2 * l.length := by
  induction l with
  | nil => simp [frmO]
  | cons c l ih =>
    have := escB_len c
    simp only [frmO, List.flatMap_cons, List.length_append, List.length_cons, List.length_nil] at ih ⊢
    omega
theorem fdiv_256 {m : Nat} : u8 ((m : Int).fdiv (2 ^ (min (8 : Int).toNat IntKind.i64.bits))) = u8 ((m / 256 : Nat) : Int) := by
  rw [show min (8 : Int).toNat IntKind.i64.bits = 8 from rfl, Int.fdiv_eq_ediv_of_nonneg _ (by decide)]
  congr 1
theorem u8_flag {c : UInt8} : ((c.toNat : Int) = 126 ↔ c = 126) ∧ ((c.toNat : Int) = 125 ↔ c = 125) := by
  constructor <;> (rw [← UInt8.toNat_inj]; simp; omega)
set_option maxHeartbeats 4000000 in
set_option maxRecDepth 100000 in
theorem make_ok (s : ByteArray) (hs : s.size ≤ 1000000) : Fn Try.prog 48 [.v (.string s)] [] (.tup [.v (.string (if 60 < s.size then ByteArray.empty else tx (frm (bs s)))), .err (if 60 < s.size then 2 else 0)]) [] := by
  have hl := bs_len s
  have hsl := sumL_lt (bs s)
  refine fn_of mixed [] [] Try.func48 rfl (by decide +kernel) Try.ntmps48 rfl (congrArg Array.toList Try.results48) rfl (by decide +kernel) ?_
  (iterate 2 all_goals (try (repeat' (conv => whnf); (first | (with_reducible refine And.intro ?_ ?_) | (with_reducible exact True.intro) | (intro h; (first | (cases h) | ((first | (simp only [vis, Int.reduceToNat] at h) | skip); (try (exfalso; omega))))) | (with_reducible refine Vc.mk ?_; fail) | (with_reducible refine cutG ?_; fail) | (refine idx_map ?_ ?_) | (refine idx_mapI ?_ ?_ ?_) ))))
  (all_goals (try ((first | (refine call0 (sum_ok s hs) ?_ ?_) | (refine pure0 (sum_ok s hs) rfl ?_ ?_)); (· (repeat' (conv => whnf); (first | (with_reducible refine And.intro ?_ ?_) | (with_reducible exact True.intro) | (with_reducible exact Or.inl rfl) | (refine Vc.mk ?_; (first | (exact rfl) | (exact ⟨rfl, .inl rfl⟩) | omega | skip))))); (iterate 2 all_goals (try (repeat' (conv => whnf); (first | (with_reducible refine And.intro ?_ ?_) | (with_reducible exact True.intro) | (intro h; (first | (cases h) | ((first | (simp only [vis, Int.reduceToNat] at h) | skip); (try (exfalso; omega))))) | (with_reducible refine Vc.mk ?_; fail) | (with_reducible refine cutG ?_; fail) | (refine idx_map ?_ ?_) | (refine idx_mapI ?_ ?_ ?_) )))))))
  all_goals (try (first | (exact GLt) | (refine Vc.mk ?_)))
  · have : 60 < s.size := by omega
    ((try (conv => whnf)); refine ⟨[], rfl, rfl, ?_, ?_⟩); (repeat' (conv => whnf); (first | (with_reducible refine And.intro ?_ ?_) | (with_reducible exact True.intro) | (with_reducible exact Or.inl rfl) | (refine Vc.mk ?_; (first | (exact rfl) | (exact ⟨rfl, .inl rfl⟩) | omega | skip))))
    all_goals first | (simp [this]; done) | (simp [this]; rfl)
  · have h60 : ¬ 60 < s.size := by omega
    simp only [h60, if_false]
    conv => whnf
    refine ⟨[u8 (sumL (bs s)), u8 ((sumL (bs s) / 256 : Nat) : Int)], ?_, ?_⟩
    · simp [bRow, viewR, viewL, AV.view, wrap_u8]
      rw [Int.fdiv_eq_ediv_of_nonneg _ (by decide)]; rfl
    (iterate 2 all_goals (try (repeat' (conv => whnf); (first | (with_reducible refine And.intro ?_ ?_) | (with_reducible exact True.intro) | (intro h; (first | (cases h) | ((first | (simp only [vis, Int.reduceToNat] at h) | skip); (try (exfalso; omega))))) | (with_reducible refine Vc.mk ?_; fail) | (with_reducible refine cutG ?_; fail) | (refine idx_map ?_ ?_) | (refine idx_mapI ?_ ?_ ?_) ))))
    · refine Vc.mk ?_; show s.size + 2 ≤ _; omega
    · refine Vc.mk ?_; rw [ByteArray.size_append]; show s.size + 2 ≤ _; unfold maxLen; omega
    have hbt : ∀ t : ByteArray, t = s ++ tx [u8 (sumL (bs s)), u8 ((sumL (bs s) / 256 : Nat) : Int)] → bs t = trail (bs s) ∧ t.size = (trail (bs s)).length := by
      rintro t rfl
      rw [bs_append, ← bs_len, bs_append]
      exact ⟨rfl, rfl⟩
    have htl : (trail (bs s)).length = s.size + 2 := by simp [trail, hl]
    refine lpG (fun k : Nat => ⟨[(5, .sl 1 ((frmO ((trail (bs s)).take k)).map bRow) (some (0, 1))), (24, .sl 1 ((trail (bs s)).map bRow) none), (25, .v (.int .i64 (s.size + 2 : Nat))), (26, .v (.int .i64 k))], [.grow 5 1 1]⟩) (fun k => k ≤ s.size + 2) (fun k => s.size + 2 - k) 0 (by omega) (by
      (refine le_sub [0] rfl rfl ?_ ?_); all_goals ((repeat' (conv => whnf); (first | (with_reducible refine And.intro ?_ ?_) | (with_reducible exact True.intro) | (with_reducible exact Or.inl rfl) | (refine Vc.mk ?_; (first | (exact rfl) | (exact ⟨rfl, .inl rfl⟩) | omega | skip)))); all_goals (try first | (simp [frmO, bRow, viewR, viewL, AV.view]; done) | (rw [← htl, ← (hbt _ rfl).1]; rfl) | (rw [byteRows_eq, List.length_map, ← htl, ← (hbt _ rfl).1]; done)))) ?_
    rintro k hk
    have hb := frmO_len ((trail (bs s)).take k)
    rw [List.length_take] at hb
    (iterate 2 all_goals (try (repeat' (conv => whnf); (first | (with_reducible refine And.intro ?_ ?_) | (with_reducible exact True.intro) | (intro h; (first | (cases h) | ((first | (simp only [vis, Int.reduceToNat] at h) | skip); (try (exfalso; omega))))) | (with_reducible refine Vc.mk ?_; fail) | (with_reducible refine cutG ?_; fail) | (refine idx_map ?_ ?_) | (refine idx_mapI ?_ ?_ ?_) ))))
    all_goals (try omega)
    all_goals (try (first | (exact GLt) | (refine Vc.mk ?_)))
    all_goals (try
      (have hk' : k < (trail (bs s)).length := by omega
       have hc := UInt8.toNat_lt (trail (bs s))[k]
       have u1 := u8_flag (c := (trail (bs s))[k])
       first
         | (have he : escB (trail (bs s))[k] = [125, (trail (bs s))[k] ^^^ 32] := if_pos (by first | exact .inl (u1.1.1 (by omega)) | exact .inr (.inl (u1.2.1 (by omega))) | exact .inr (.inr (by omega)))
            refine nextG (k + 1) (by omega) (by omega) (by (refine le_sub [0] rfl rfl ?_ ?_); all_goals ((repeat' (conv => whnf); (first | (with_reducible refine And.intro ?_ ?_) | (with_reducible exact True.intro) | (with_reducible exact Or.inl rfl) | (refine Vc.mk ?_; (first | (exact rfl) | (exact ⟨rfl, .inl rfl⟩) | omega | skip)))); try (rw [frmO_succ hk', he, List.map_append]; simp [bRow, viewR, viewL, AV.view]; first | done | exact xorU _ 32))))
         | (have he : escB (trail (bs s))[k] = [(trail (bs s))[k]] := if_neg (by rintro (e | e | e); exact absurd (u1.1.2 e) (by omega); exact absurd (u1.2.2 e) (by omega); omega)
            refine nextG (k + 1) (by omega) (by omega) (by (refine le_sub [0] rfl rfl ?_ ?_); all_goals ((repeat' (conv => whnf); (first | (with_reducible refine And.intro ?_ ?_) | (with_reducible exact True.intro) | (with_reducible exact Or.inl rfl) | (refine Vc.mk ?_; (first | (exact rfl) | (exact ⟨rfl, .inl rfl⟩) | omega | skip)))); try (rw [frmO_succ hk', he, List.map_append]; simp [bRow, viewR, viewL, AV.view]; done))))))
    have e : k = (trail (bs s)).length := by omega
    subst e
    rw [List.take_length] at hb ⊢
    conv => whnf
    refine ⟨frm (bs s), ?_, ?_⟩
    · simp [frm, bRow, viewR, viewL, AV.view]
    (iterate 2 all_goals (try (repeat' (conv => whnf); (first | (with_reducible refine And.intro ?_ ?_) | (with_reducible exact True.intro) | (intro h; (first | (cases h) | ((first | (simp only [vis, Int.reduceToNat] at h) | skip); (try (exfalso; omega))))) | (with_reducible refine Vc.mk ?_; fail) | (with_reducible refine cutG ?_; fail) | (refine idx_map ?_ ?_) | (refine idx_mapI ?_ ?_ ?_) ))))
    ((try (conv => whnf)); refine ⟨[], rfl, rfl, ?_, ?_⟩); (repeat' (conv => whnf); (first | (with_reducible refine And.intro ?_ ?_) | (with_reducible exact True.intro) | (with_reducible exact Or.inl rfl) | (refine Vc.mk ?_; (first | (exact rfl) | (exact ⟨rfl, .inl rfl⟩) | omega | skip))))
theorem app_tx (s : ByteArray) (l : List UInt8) : s ++ tx l = tx (bs s ++ l) := by
  rw [← tx_bs (s ++ tx l), bs_append]
theorem u8_mod256 {m : Nat} : u8 ((m : Int).tmod 256) = u8 m := by
  rw [Int.tmod_eq_emod_of_nonneg (by omega)]; unfold u8; rw [Int.emod_emod_of_dvd _ (Int.dvd_refl 256)]
theorem u8_div256 {m : Nat} : u8 ((m : Int).tdiv 256) = u8 ((m / 256 : Nat) : Int) := by
  rw [Int.tdiv_eq_ediv_of_nonneg (by omega)]; rfl
set_option maxHeartbeats 4000000 in
set_option maxRecDepth 100000 in
theorem rmake_ok (s : ByteArray) (hs : s.size ≤ 1000000) : Fn Try.prog 49 [.v (.string s)] [] (.tup [.v (.string (if 60 < s.size then ByteArray.empty else tx (frm (bs s)))), .v (.int .i64 (if 60 < s.size then 2 else 0))]) [] := by
  have hl := bs_len s
  have hsl := sumL_lt (bs s)
  refine fn_of mixed [] [] Try.func49 rfl (by decide +kernel) Try.ntmps49 rfl (congrArg Array.toList Try.results49) rfl (by decide +kernel) ?_
  (iterate 2 all_goals (try (repeat' (conv => whnf); (first | (with_reducible refine And.intro ?_ ?_) | (with_reducible exact True.intro) | (intro h; (first | (cases h) | ((first | (simp only [vis, Int.reduceToNat] at h) | skip); (try (exfalso; omega))))) | (with_reducible refine Vc.mk ?_; fail) | (with_reducible refine cutG ?_; fail) | (refine idx_map ?_ ?_) | (refine idx_mapI ?_ ?_ ?_) ))))
  (all_goals (try ((first | (refine call0 (rsum_ok s hs) ?_ ?_) | (refine pure0 (rsum_ok s hs) rfl ?_ ?_)); (· (repeat' (conv => whnf); (first | (with_reducible refine And.intro ?_ ?_) | (with_reducible exact True.intro) | (with_reducible exact Or.inl rfl) | (refine Vc.mk ?_; (first | (exact rfl) | (exact ⟨rfl, .inl rfl⟩) | omega | skip))))); (iterate 2 all_goals (try (repeat' (conv => whnf); (first | (with_reducible refine And.intro ?_ ?_) | (with_reducible exact True.intro) | (intro h; (first | (cases h) | ((first | (simp only [vis, Int.reduceToNat] at h) | skip); (try (exfalso; omega))))) | (with_reducible refine Vc.mk ?_; fail) | (with_reducible refine cutG ?_; fail) | (refine idx_map ?_ ?_) | (refine idx_mapI ?_ ?_ ?_) )))))))
  all_goals (try (first | (exact GLt) | (refine Vc.mk ?_)))
  · have : 60 < s.size := by omega
    ((try (conv => whnf)); refine ⟨[], rfl, rfl, ?_, ?_⟩); (repeat' (conv => whnf); (first | (with_reducible refine And.intro ?_ ?_) | (with_reducible exact True.intro) | (with_reducible exact Or.inl rfl) | (refine Vc.mk ?_; (first | (exact rfl) | (exact ⟨rfl, .inl rfl⟩) | omega | skip))))
    all_goals first | (simp [this]; done) | (simp [this]; rfl)
  · rw [Int.tdiv_eq_ediv_of_nonneg (by omega)]; unfold In64; omega
  · have h60 : ¬ 60 < s.size := by omega
    simp only [h60, if_false]
    conv => whnf
    refine ⟨[u8 (sumL (bs s)), u8 ((sumL (bs s) / 256 : Nat) : Int)], ?_, ?_⟩
    · simp only [bRow, viewR, viewL, AV.view, wrap_u8, u8_mod256, u8_div256]; rfl
    (iterate 2 all_goals (try (repeat' (conv => whnf); (first | (with_reducible refine And.intro ?_ ?_) | (with_reducible exact True.intro) | (intro h; (first | (cases h) | ((first | (simp only [vis, Int.reduceToNat] at h) | skip); (try (exfalso; omega))))) | (with_reducible refine Vc.mk ?_; fail) | (with_reducible refine cutG ?_; fail) | (refine idx_map ?_ ?_) | (refine idx_mapI ?_ ?_ ?_) ))))
    · refine Vc.mk ?_; show s.size + 2 ≤ _; omega
    rw [app_tx]
    rw [show bs s ++ [u8 (sumL (bs s)), u8 ((sumL (bs s) / 256 : Nat) : Int)] = trail (bs s) from rfl]
    have htl : (trail (bs s)).length = s.size + 2 := by simp [trail, hl]
    refine lpG (fun k : Nat => ⟨[(5, .v (.string (tx (trail (bs s))))), (6, .sl 1 ((frmO ((trail (bs s)).take k)).map bRow) (some (0, 1))), (7, .v (.int .i64 k))], [.grow 5 1 1]⟩) (fun k => k ≤ s.size + 2) (fun k => s.size + 2 - k) 0 (by omega) (by
      (refine le_sub [1] rfl rfl ?_ ?_); all_goals ((repeat' (conv => whnf); (first | (with_reducible refine And.intro ?_ ?_) | (with_reducible exact True.intro) | (with_reducible exact Or.inl rfl) | (refine Vc.mk ?_; (first | (exact rfl) | (exact ⟨rfl, .inl rfl⟩) | omega | skip)))); all_goals (try first | (simp [frmO, bRow, viewR, viewL, AV.view]; done)))) ?_
    rintro k hk
    have hz : (tx (trail (bs s))).size = s.size + 2 := htl
    have hb := frmO_len ((trail (bs s)).take k)
    rw [List.length_take] at hb
    (iterate 2 all_goals (try (repeat' (conv => whnf); (first | (with_reducible refine And.intro ?_ ?_) | (with_reducible exact True.intro) | (intro h; (first | (cases h) | ((first | (simp only [vis, Int.reduceToNat] at h) | skip); (try (exfalso; omega))))) | (with_reducible refine Vc.mk ?_; fail) | (with_reducible refine cutG ?_; fail) | (refine idx_map ?_ ?_) | (refine idx_mapI ?_ ?_ ?_) ))))
    all_goals (try omega)
    all_goals (try (first | (exact GLt) | (refine Vc.mk ?_)))
    all_goals (try
      (have hk' : k < (trail (bs s)).length := by omega
       have hbt : byteAt (tx (trail (bs s))) k = (trail (bs s))[k].toNat := byteAt_eq (s := tx (trail (bs s))) hk'
       have hc := UInt8.toNat_lt (trail (bs s))[k]
       have u1 := u8_flag (c := (trail (bs s))[k])
       first
         | (have he : escB (trail (bs s))[k] = [125, (trail (bs s))[k] ^^^ 32] := if_pos (by first | exact .inl (u1.1.1 (by omega)) | exact .inr (.inl (u1.2.1 (by omega))) | exact .inr (.inr (by omega)))
            refine nextG (k + 1) (by omega) (by omega) (by (refine le_sub [0] rfl rfl ?_ ?_); all_goals ((repeat' (conv => whnf); (first | (with_reducible refine And.intro ?_ ?_) | (with_reducible exact True.intro) | (with_reducible exact Or.inl rfl) | (refine Vc.mk ?_; (first | (exact rfl) | (exact ⟨rfl, .inl rfl⟩) | omega | skip)))); try (rw [frmO_succ hk', he, List.map_append]; simp [bRow, viewR, viewL, AV.view, hbt]; first | done | exact xorU _ 32))))
         | (have he : escB (trail (bs s))[k] = [(trail (bs s))[k]] := if_neg (by rintro (e | e | e); exact absurd (u1.1.2 e) (by omega); exact absurd (u1.2.2 e) (by omega); omega)
            refine nextG (k + 1) (by omega) (by omega) (by (refine le_sub [0] rfl rfl ?_ ?_); all_goals ((repeat' (conv => whnf); (first | (with_reducible refine And.intro ?_ ?_) | (with_reducible exact True.intro) | (with_reducible exact Or.inl rfl) | (refine Vc.mk ?_; (first | (exact rfl) | (exact ⟨rfl, .inl rfl⟩) | omega | skip)))); try (rw [frmO_succ hk', he, List.map_append]; simp [bRow, viewR, viewL, AV.view, hbt]; done))))))
    have e : k = (trail (bs s)).length := by omega
    subst e
    rw [List.take_length] at hb ⊢
    conv => whnf
    refine ⟨frm (bs s), ?_, ?_⟩
    · simp [frm, bRow, viewR, viewL, AV.view]
    (iterate 2 all_goals (try (repeat' (conv => whnf); (first | (with_reducible refine And.intro ?_ ?_) | (with_reducible exact True.intro) | (intro h; (first | (cases h) | ((first | (simp only [vis, Int.reduceToNat] at h) | skip); (try (exfalso; omega))))) | (with_reducible refine Vc.mk ?_; fail) | (with_reducible refine cutG ?_; fail) | (refine idx_map ?_ ?_) | (refine idx_mapI ?_ ?_ ?_) ))))
    ((try (conv => whnf)); refine ⟨[], rfl, rfl, ?_, ?_⟩); (repeat' (conv => whnf); (first | (with_reducible refine And.intro ?_ ?_) | (with_reducible exact True.intro) | (with_reducible exact Or.inl rfl) | (refine Vc.mk ?_; (first | (exact rfl) | (exact ⟨rfl, .inl rfl⟩) | omega | skip))))
end Go.Proofs.Ytimfnpjcedjmiaa
