/-
  The reference's table of a link.
-/
import Derived.Test.YtimfnpjcedjmiaaLLk
import Derived.Test.YtimfnpjcedjmiaaGF
namespace Go.Proofs.Ytimfnpjcedjmiaa
open Go.RowKit
set_option linter.unusedSimpArgs false
set_option linter.unusedVariables false
def turnT : List (List (List UInt8)) := [
  [[50], [105, 114, 54], [45], [45], [45], [45], [45], [45], [45], [45]],
  [[45], [45], [48], [115, 49], [48], [49], [49], [49], [49], [100, 49]],
  [[115, 49], [49], [105, 114, 54], [51], [53], [53], [54], [55], [56], [57]],
  [[48], [102, 48], [50], [50], [52], [52], [105, 116, 52], [105, 116, 52], [105, 116, 52], [100, 105, 116, 52]],
  [[45], [45], [45], [45], [116, 52], [116, 53], [114, 54], [114, 54], [114, 56], [45]],
  [[45], [45], [45], [45], [102, 50], [102, 51], [102, 51], [102, 51], [102, 51], [45]],
  [[45], [45], [107, 50], [105, 114, 97, 56], [52], [53], [97, 56], [97, 117, 57], [97, 56], [100, 114, 97, 56]],
  [[45], [45], [107, 50], [105, 114, 110, 54], [52], [53], [110, 54], [110, 55], [110, 54], [100, 114, 110, 54]],
  [[45], [45], [107, 50], [107, 51], [52], [53], [105, 55], [114, 54], [105, 117, 57], [100, 114, 54]],
  [[45], [45], [107, 50], [107, 51], [52], [53], [105, 114, 54], [114, 54], [105, 114, 56], [100, 114, 54]],
  [[45], [45], [107, 50], [107, 51], [107, 52], [107, 53], [107, 54], [107, 54], [107, 54], [100, 122, 107, 53]],
  [[45], [45], [50], [51], [102, 50], [102, 51], [54], [54], [56], [100, 114, 54]]]
def turnS (s e : Nat) : List UInt8 := (turnT.getD e []).getD s []
def turnOk (s e : Nat) : Bool :=
  if (tx (turnS s e)).toList = (⟨#[45]⟩ : ByteArray).toList then decide ((aT s e).2 = -1) && decide (stepD s e = []) else
    decide (1 ≤ (turnS s e).length ∧ (turnS s e).length ≤ 5) && decide (((turnS s e).getLastD 0).toNat = 48 + (aT s e).2) && decide (0 ≤ (aT s e).2) && decide ((aT s e).2 ≤ 9) && decide ((turnS s e).dropLast = stepD s e)
theorem turn_all : ∀ e : Fin 12, ∀ s : Fin 10, turnOk s e = true := by decide +kernel
theorem extract_tx0 {l : List UInt8} {n : Nat} (h : n ≤ l.length) : (tx l).extract 0 n = tx (l.take n) := by
  apply ByteArray.ext
  simp [tx, ByteArray.extract, ByteArray.copySlice]
set_option maxHeartbeats 4000000 in
set_option maxRecDepth 100000 in
theorem rturn_ok (s e : Int) (s0 : 0 ≤ s) (s9 : s ≤ 9) (e0 : 0 ≤ e) (e9 : e ≤ 11) : Fn Try.prog 58 [.v (.int .i64 s), .v (.int .i64 e)] [] (.tup [.v (.string (tx (stepD s e))), .v (.int .i64 (aT s e).2)]) [] := by
  have hT : turnT.length = 12 := rfl
  have hR : ∀ r ∈ turnT, r.length = 10 := by decide
  have he : e.toNat < turnT.length := by omega
  have hs : s.toNat < (turnT[e.toNat]'he).length := by rw [hR _ (List.getElem_mem he)]; omega
  have hS : turnS s.toNat e.toNat = (turnT[e.toNat]'he)[s.toNat]'hs := by unfold turnS; simp [List.getD_eq_getElem?_getD, he, hs]
  have ht := turn_all ⟨e.toNat, by omega⟩ ⟨s.toNat, by omega⟩
  simp only [turnOk, Int.toNat_of_nonneg s0, Int.toNat_of_nonneg e0, hS] at ht
  generalize hL : (turnT[e.toNat]'he)[s.toNat]'hs = L at *
  refine fn_of mixed [] [2] Try.func58 rfl (by decide +kernel) Try.ntmps58 rfl (congrArg Array.toList Try.results58) rfl (by decide +kernel) ?_
  ((repeat' (conv => whnf); (first | (with_reducible refine And.intro ?_ ?_) | (with_reducible exact True.intro) | (intro h; (first | (cases h) | ((first | (simp only [wrap_byte, Int.reduceToNat, Int.toNat_natCast, not_true_eq_false, neg_tt, neg_ff, neg_t, neg_f, decide_eq_true_eq, decide_eq_false_iff_not, beq_iff_eq, beq_eq_false_iff_ne, bne_iff_ne, bne_eq_false_iff_eq, Bool.not_eq_true', Bool.not_eq_false', ne_eq, Classical.not_not, Int.not_lt, Int.not_le, List.length_map] at h) | skip); (try (exfalso; omega))))) | (with_reducible refine Vc.mk ?_; fail) | (with_reducible refine cutG ?_; fail) | (refine idx_map ?_ ?_) | (refine idx_mapI ?_ ?_ ?_) ));(all_goals (try (repeat' (conv => whnf); (first | (with_reducible refine And.intro ?_ ?_) | (with_reducible exact True.intro) | (intro h; (first | (cases h) | ((first | (simp only [wrap_byte, Int.reduceToNat, Int.toNat_natCast, not_true_eq_false, neg_tt, neg_ff, neg_t, neg_f, decide_eq_true_eq, decide_eq_false_iff_not, beq_iff_eq, beq_eq_false_iff_ne, bne_iff_ne, bne_eq_false_iff_eq, Bool.not_eq_true', Bool.not_eq_false', ne_eq, Classical.not_not, Int.not_lt, Int.not_le, List.length_map] at h) | skip); (try (exfalso; omega))))) | (with_reducible refine Vc.mk ?_; fail) | (with_reducible refine cutG ?_; fail) | (refine idx_map ?_ ?_) | (refine idx_mapI ?_ ?_ ?_) )))))
  refine cutK ⟨[(0, .v (.int .i64 s)), (1, .v (.int .i64 e)), (6, .sl 1 (turnT.map fun r => [.sl 1 (r.map fun t => sRow (tx t)) none]) none)], []⟩ ?_ (fun hy => ?_)
  · ((repeat' (conv => whnf); (first | (with_reducible refine And.intro ?_ ?_) | (with_reducible exact True.intro) | (intro h; (first | (cases h) | ((first | (simp only [wrap_byte, Int.reduceToNat, Int.toNat_natCast, not_true_eq_false, neg_tt, neg_ff, neg_t, neg_f, decide_eq_true_eq, decide_eq_false_iff_not, beq_iff_eq, beq_eq_false_iff_ne, bne_iff_ne, bne_eq_false_iff_eq, Bool.not_eq_true', Bool.not_eq_false', ne_eq, Classical.not_not, Int.not_lt, Int.not_le, List.length_map] at h) | skip); (try (exfalso; omega))))) | (with_reducible refine Vc.mk ?_; fail) | (with_reducible refine cutG ?_; fail) | (refine idx_map ?_ ?_) | (refine idx_mapI ?_ ?_ ?_) ));(all_goals (try (repeat' (conv => whnf); (first | (with_reducible refine And.intro ?_ ?_) | (with_reducible exact True.intro) | (intro h; (first | (cases h) | ((first | (simp only [wrap_byte, Int.reduceToNat, Int.toNat_natCast, not_true_eq_false, neg_tt, neg_ff, neg_t, neg_f, decide_eq_true_eq, decide_eq_false_iff_not, beq_iff_eq, beq_eq_false_iff_ne, bne_iff_ne, bne_eq_false_iff_eq, Bool.not_eq_true', Bool.not_eq_false', ne_eq, Classical.not_not, Int.not_lt, Int.not_le, List.length_map] at h) | skip); (try (exfalso; omega))))) | (with_reducible refine Vc.mk ?_; fail) | (with_reducible refine cutG ?_; fail) | (refine idx_map ?_ ?_) | (refine idx_mapI ?_ ?_ ?_) )))))
    all_goals (try first | assumption | omega)
    all_goals (try (refine Vc.mk ?_; (first | (exact rfl) | (decide) | omega | (unfold In64; omega) | (simp only [wrap_byte, Int.reduceToNat, Int.toNat_natCast, In64]; omega) | (simp only [maxLen, Fits, viewR, viewL, AV.view, List.length_map, List.length_append, List.length_cons, List.length_nil]; omega) | (simp [viewR, viewL, AV.view, ]; done) | skip)))
    · rw [hL] at h
      rw [if_pos h] at ht
      simp only [Bool.and_eq_true, decide_eq_true_eq] at ht
      rw [ht.1, ht.2]
      ((try (conv => whnf)); refine ⟨[], rfl, rfl, ?_, ?_⟩); (repeat' (conv => whnf); (first | (with_reducible refine And.intro ?_ ?_) | (with_reducible exact True.intro) | (with_reducible exact Or.inl rfl) | (refine Vc.mk ?_; (first | (exact rfl) | (exact ⟨rfl, .inl rfl⟩) | omega | skip))))
    all_goals
      rw [hL] at h ⊢
      rw [if_neg h] at ht
      simp only [Bool.and_eq_true, decide_eq_true_eq] at ht
      obtain ⟨⟨⟨⟨h1, h2⟩, h3⟩, h4⟩, h5⟩ := ht
      have hz : (tx L).size = L.length := rfl
    · exact ⟨by omega, by omega⟩
    · exact ⟨by omega, by omega⟩
    · exact ⟨by omega, by omega⟩
    have hn : ((tx L).size - 1 : Int).toNat = L.length - 1 := by omega
    have e1 : byteAt (tx L) (L.length - 1) = (L.getLastD 0).toNat := by
      show (L.getD (L.length - 1) 0).toNat = _
      simp [List.getD_eq_getElem?_getD, List.getLastD_eq_getLast?, List.getLast?_eq_getElem?]
    have e2 : (tx L).extract 0 (L.length - 1) = tx (stepD s e) := by
      rw [extract_tx0 (by omega), ← h5, List.dropLast_eq_take]
    rw [hn]
    ((try (conv => whnf)); refine ⟨[], rfl, rfl, ?_, ?_⟩); (repeat' (conv => whnf); (first | (with_reducible refine And.intro ?_ ?_) | (with_reducible exact True.intro) | (with_reducible exact Or.inl rfl) | (refine Vc.mk ?_; (first | (exact rfl) | (exact ⟨rfl, .inl rfl⟩) | omega | skip))))
    all_goals (try exact e2)
    rw [e1, h2]
    generalize (aT s e).2 = v at h3 h4
    rw [show 48 + v - 48 = v from by omega]
    rcases cases10 h3 h4 with rfl | rfl | rfl | rfl | rfl | rfl | rfl | rfl | rfl | rfl <;> rfl
  · refine ⟨_, ?_, hy⟩
    (refine le_sub [] rfl rfl ?_ ?_); all_goals ((repeat' (conv => whnf); (first | (with_reducible refine And.intro ?_ ?_) | (with_reducible exact True.intro) | (with_reducible exact Or.inl rfl) | (refine Vc.mk ?_; (first | (exact rfl) | (exact ⟨rfl, .inl rfl⟩) | omega | skip)))); all_goals (try rfl))
end Go.Proofs.Ytimfnpjcedjmiaa
