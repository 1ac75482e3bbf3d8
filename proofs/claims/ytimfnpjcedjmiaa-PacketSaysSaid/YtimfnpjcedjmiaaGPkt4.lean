/-
  Packets of bytes.
-/
import Derived.Test.YtimfnpjcedjmiaaGPkt3
import Derived.Test.YtimfnpjcedjmiaaG26
namespace Go.Proofs.Ytimfnpjcedjmiaa
open Go.RowKit
set_option linter.unusedSimpArgs false
def popts (s : ByteArray) (n : Nat) : List (Int × Int) := (List.range n).map fun q => ((byteAt s (3 + 2 * q) : Int), (byteAt s (4 + 2 * q) : Int))
theorem popts_succ {s : ByteArray} {n : Nat} : popts s (n + 1) = popts s n ++ [((byteAt s (3 + 2 * n) : Int), (byteAt s (4 + 2 * n) : Int))] := by
  unfold popts; rw [List.range_succ, List.map_append]; rfl
theorem popts_len {s : ByteArray} {n : Nat} : (popts s n).length = n := by simp [popts]
def pgood (s : ByteArray) : Bool := decide (3 ≤ s.size) && decide (s.size = 3 + 2 * byteAt s 2) && decide (pfault (byteAt s 0) (byteAt s 1) (popts s (byteAt s 2)) = 0)
theorem pgood_iff {s : ByteArray} : pgood s = true ↔ 3 ≤ s.size ∧ s.size = 3 + 2 * byteAt s 2 ∧ pfault (byteAt s 0) (byteAt s 1) (popts s (byteAt s 2)) = 0 := by simp [pgood, and_assoc]
def pcode (s : ByteArray) : Int := if pgood s then byteAt s 0 else 0
def pid (s : ByteArray) : Int := if pgood s then byteAt s 1 else 0
def popt (s : ByteArray) : List (Int × Int) := if pgood s then popts s (byteAt s 2) else []
def perr (s : ByteArray) : Int := if pgood s then 0 else 4
set_option maxHeartbeats 4000000 in
set_option maxRecDepth 100000 in
theorem pparse_ok (s : ByteArray) (hs : s.size ≤ 1000) : Fn Try.prog 29 [.v (.string s)] [] (.tup [.agg [.v (.int .i64 (pcode s)), .v (.int .i64 (pid s)), .sl 2 ((popt s).map opRow) none], .err (perr s)]) [] := by
  have b0 := byteAt_lt s 0
  have b1 := byteAt_lt s 1
  have b2 := byteAt_lt s 2
  refine fn_of mixed [] [] Try.func29 rfl (by decide +kernel) Try.ntmps29 rfl (congrArg Array.toList Try.results29) rfl (by decide +kernel) ?_
  ((repeat' (conv => whnf); (first | (with_reducible refine And.intro ?_ ?_) | (with_reducible exact True.intro) | (intro h; (first | (cases h) | ((first | (simp only [wrap_byte, Int.reduceToNat, Int.toNat_natCast, not_true_eq_false, neg_tt, neg_ff, neg_t, neg_f, decide_eq_true_eq, decide_eq_false_iff_not, beq_iff_eq, beq_eq_false_iff_ne, bne_iff_ne, bne_eq_false_iff_eq, Bool.not_eq_true', Bool.not_eq_false', ne_eq, Classical.not_not, Int.not_lt, Int.not_le, List.length_map] at h) | skip); (try (exfalso; omega))))) | (with_reducible refine Vc.mk ?_; fail) | (with_reducible refine cutG ?_; fail) | (refine idx_map ?_ ?_) | (refine idx_mapI ?_ ?_ ?_) ));(all_goals (try (repeat' (conv => whnf); (first | (with_reducible refine And.intro ?_ ?_) | (with_reducible exact True.intro) | (intro h; (first | (cases h) | ((first | (simp only [wrap_byte, Int.reduceToNat, Int.toNat_natCast, not_true_eq_false, neg_tt, neg_ff, neg_t, neg_f, decide_eq_true_eq, decide_eq_false_iff_not, beq_iff_eq, beq_eq_false_iff_ne, bne_iff_ne, bne_eq_false_iff_eq, Bool.not_eq_true', Bool.not_eq_false', ne_eq, Classical.not_not, Int.not_lt, Int.not_le, List.length_map] at h) | skip); (try (exfalso; omega))))) | (with_reducible refine Vc.mk ?_; fail) | (with_reducible refine cutG ?_; fail) | (refine idx_map ?_ ?_) | (refine idx_mapI ?_ ?_ ?_) )))))
  all_goals (try (refine Vc.mk ?_; (first | (exact rfl) | (decide) | omega | (unfold In64; omega) | (simp only [wrap_byte, Int.reduceToNat, Int.toNat_natCast, In64]; omega) | (simp only [maxLen, Fits, viewR, viewL, AV.view, List.length_map, List.length_append, List.length_cons, List.length_nil]; omega) | (simp [viewR, viewL, AV.view, ]; done) | skip)))
  all_goals (try
    (have hb : ¬ pgood s = true := fun h' => by have := pgood_iff.1 h'; omega
     ((try (conv => whnf)); refine ⟨[], rfl, rfl, ?_, ?_⟩); (repeat' (conv => whnf); (first | (with_reducible refine And.intro ?_ ?_) | (with_reducible exact True.intro) | (with_reducible exact Or.inl rfl) | (refine Vc.mk ?_; (first | (exact rfl) | (exact ⟨rfl, .inl rfl⟩) | omega | skip)))); all_goals simp [pcode, pid, popt, perr, hb]))
  refine lpG (fun k : Nat => ⟨[(0, .v (.string s)), (2, .box 0 0), (4, .box 1 0), (5, .v (.int .i64 (3 + 2 * (k : Int))))], [.cells [.any, .any, .any], .cells [.v (.int .i64 (byteAt s 0)), .v (.int .i64 (byteAt s 1)), .sl 2 ((popts s k).map opRow) (some (2, 1))], .grow 163 2 1]⟩) (fun k => k ≤ byteAt s 2) (fun k => byteAt s 2 - k) 0 (by omega) ?_ ?_
  · refine AS.le_trans (le_nilC 1 2 163 2 _ rfl rfl) ?_
    (refine le_sub [0, 1, 2] rfl rfl ?_ ?_)
    all_goals ((repeat' (conv => whnf); (first | (with_reducible refine And.intro ?_ ?_) | (with_reducible exact True.intro) | (with_reducible exact Or.inl rfl) | (refine Vc.mk ?_; (first | (exact rfl) | (exact ⟨rfl, .inl rfl⟩) | omega | skip)))); all_goals (try simp [wrap_byte, popts]))
  intro k hk
  have hlen := popts_len (s := s) (n := k)
  have e1 : (3 + 2 * (k : Int)).toNat = 3 + 2 * k := by omega
  have e2 : (3 + 2 * (k : Int) + 1).toNat = 4 + 2 * k := by omega
  ((repeat' (conv => whnf); (first | (with_reducible refine And.intro ?_ ?_) | (with_reducible exact True.intro) | (intro h; (first | (cases h) | ((first | (simp only [wrap_byte, Int.reduceToNat, Int.toNat_natCast, not_true_eq_false, neg_tt, neg_ff, neg_t, neg_f, decide_eq_true_eq, decide_eq_false_iff_not, beq_iff_eq, beq_eq_false_iff_ne, bne_iff_ne, bne_eq_false_iff_eq, Bool.not_eq_true', Bool.not_eq_false', ne_eq, Classical.not_not, Int.not_lt, Int.not_le, List.length_map] at h) | skip); (try (exfalso; omega))))) | (with_reducible refine Vc.mk ?_; fail) | (with_reducible refine cutG ?_; fail) | (refine idx_map ?_ ?_) | (refine idx_mapI ?_ ?_ ?_) ));(all_goals (try (repeat' (conv => whnf); (first | (with_reducible refine And.intro ?_ ?_) | (with_reducible exact True.intro) | (intro h; (first | (cases h) | ((first | (simp only [wrap_byte, Int.reduceToNat, Int.toNat_natCast, not_true_eq_false, neg_tt, neg_ff, neg_t, neg_f, decide_eq_true_eq, decide_eq_false_iff_not, beq_iff_eq, beq_eq_false_iff_ne, bne_iff_ne, bne_eq_false_iff_eq, Bool.not_eq_true', Bool.not_eq_false', ne_eq, Classical.not_not, Int.not_lt, Int.not_le, List.length_map] at h) | skip); (try (exfalso; omega))))) | (with_reducible refine Vc.mk ?_; fail) | (with_reducible refine cutG ?_; fail) | (refine idx_map ?_ ?_) | (refine idx_mapI ?_ ?_ ?_) )))))
  all_goals (try omega)
  all_goals (try (refine Vc.mk ?_; (first | (exact rfl) | (decide) | omega | (unfold In64; omega) | (simp only [wrap_byte, Int.reduceToNat, Int.toNat_natCast, In64]; omega) | (simp only [maxLen, Fits, viewR, viewL, AV.view, List.length_map, List.length_append, List.length_cons, List.length_nil]; omega) | (simp [viewR, viewL, AV.view, ]; done) | skip)))
  · refine nextG (k + 1) (by omega) (by omega) (by (refine le_sub [0, 1, 2] rfl rfl ?_ ?_); all_goals ((repeat' (conv => whnf); (first | (with_reducible refine And.intro ?_ ?_) | (with_reducible exact True.intro) | (with_reducible exact Or.inl rfl) | (refine Vc.mk ?_; (first | (exact rfl) | (exact ⟨rfl, .inl rfl⟩) | omega | skip)))); all_goals (try (rw [popts_succ]; simp [opRow, wrap_byte, viewR, viewL, AV.view, e1, e2]))))
  have e : k = byteAt s 2 := by omega
  subst e
  (refine ⟨_, _, _, _, [], check_ok (byteAt s 0) (byteAt s 1) (popts s (byteAt s 2)), rfl, rfl, rfl, ?_, ?_, ?_⟩)
  · (repeat' (conv => whnf); (first | (with_reducible refine And.intro ?_ ?_) | (with_reducible exact True.intro) | (with_reducible exact Or.inl rfl) | (refine Vc.mk ?_; (first | (exact rfl) | (exact ⟨rfl, .inl rfl⟩) | omega | skip))))
  · (repeat' (conv => whnf); (first | (with_reducible refine And.intro ?_ ?_) | (with_reducible exact True.intro) | (with_reducible exact Or.inl rfl) | (refine Vc.mk ?_; (first | (exact rfl) | (exact ⟨rfl, .inl rfl⟩) | omega | skip))))
  ((repeat' (conv => whnf); (first | (with_reducible refine And.intro ?_ ?_) | (with_reducible exact True.intro) | (intro h; (first | (cases h) | ((first | (simp only [wrap_byte, Int.reduceToNat, Int.toNat_natCast, not_true_eq_false, neg_tt, neg_ff, neg_t, neg_f, decide_eq_true_eq, decide_eq_false_iff_not, beq_iff_eq, beq_eq_false_iff_ne, bne_iff_ne, bne_eq_false_iff_eq, Bool.not_eq_true', Bool.not_eq_false', ne_eq, Classical.not_not, Int.not_lt, Int.not_le, List.length_map] at h) | skip); (try (exfalso; omega))))) | (with_reducible refine Vc.mk ?_; fail) | (with_reducible refine cutG ?_; fail) | (refine idx_map ?_ ?_) | (refine idx_mapI ?_ ?_ ?_) ));(all_goals (try (repeat' (conv => whnf); (first | (with_reducible refine And.intro ?_ ?_) | (with_reducible exact True.intro) | (intro h; (first | (cases h) | ((first | (simp only [wrap_byte, Int.reduceToNat, Int.toNat_natCast, not_true_eq_false, neg_tt, neg_ff, neg_t, neg_f, decide_eq_true_eq, decide_eq_false_iff_not, beq_iff_eq, beq_eq_false_iff_ne, bne_iff_ne, bne_eq_false_iff_eq, Bool.not_eq_true', Bool.not_eq_false', ne_eq, Classical.not_not, Int.not_lt, Int.not_le, List.length_map] at h) | skip); (try (exfalso; omega))))) | (with_reducible refine Vc.mk ?_; fail) | (with_reducible refine cutG ?_; fail) | (refine idx_map ?_ ?_) | (refine idx_mapI ?_ ?_ ?_) )))))
  all_goals (try (refine Vc.mk ?_; (first | (exact rfl) | (decide) | omega | (unfold In64; omega) | (simp only [wrap_byte, Int.reduceToNat, Int.toNat_natCast, In64]; omega) | (simp only [maxLen, Fits, viewR, viewL, AV.view, List.length_map, List.length_append, List.length_cons, List.length_nil]; omega) | (simp [viewR, viewL, AV.view, ]; done) | skip)))
  · have hb : ¬ pgood s = true := fun h' => by have := pgood_iff.1 h'; omega
    ((try (conv => whnf)); refine ⟨[], rfl, rfl, ?_, ?_⟩); (repeat' (conv => whnf); (first | (with_reducible refine And.intro ?_ ?_) | (with_reducible exact True.intro) | (with_reducible exact Or.inl rfl) | (refine Vc.mk ?_; (first | (exact rfl) | (exact ⟨rfl, .inl rfl⟩) | omega | skip)))); all_goals simp [pcode, pid, popt, perr, hb]
  · have hb : pgood s = true := pgood_iff.2 ⟨by omega, by omega, by omega⟩
    ((try (conv => whnf)); refine ⟨[], rfl, rfl, ?_, ?_⟩); (repeat' (conv => whnf); (first | (with_reducible refine And.intro ?_ ?_) | (with_reducible exact True.intro) | (with_reducible exact Or.inl rfl) | (refine Vc.mk ?_; (first | (exact rfl) | (exact ⟨rfl, .inl rfl⟩) | omega | skip)))); all_goals simp [pcode, pid, popt, perr, hb]
end Go.Proofs.Ytimfnpjcedjmiaa
