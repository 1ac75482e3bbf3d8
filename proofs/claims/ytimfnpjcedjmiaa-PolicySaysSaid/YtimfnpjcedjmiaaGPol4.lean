/-
  Package policy and the reference's like.
-/
import Derived.Test.YtimfnpjcedjmiaaGPol
namespace Go.Proofs.Ytimfnpjcedjmiaa
open Go.RowKit
set_option linter.unusedSimpArgs false
set_option maxHeartbeats 4000000 in
set_option maxRecDepth 100000 in
theorem rjudge_ok (s m : Int) (l : List (Int × Int)) (hl : l.length ≤ 1000000) (hm : 0 ≤ m) : Fn Try.prog 35 [.agg [.v (.int .i64 s), .v (.int .i64 m)], .sl 2 (l.map opRow) none] [] (.tup [.v (.int .i64 (if rej l ≠ [] then 4 else if nak m l ≠ [] then 3 else 2)), .sl 2 ((if rej l ≠ [] then rej l else if nak m l ≠ [] then nak m l else l).map opRow) none]) [] := by
  refine fn_of mixed [] [] Try.func35 rfl (by decide +kernel) Try.ntmps35 rfl (congrArg Array.toList Try.results35) rfl (by decide +kernel) ?_
  ((repeat' (conv => whnf); (first | (with_reducible refine And.intro ?_ ?_) | (with_reducible exact True.intro) | (intro h; (first | (cases h) | ((first | (simp only [not_true_eq_false, neg_tt, neg_ff, neg_t, neg_f, decide_eq_true_eq, decide_eq_false_iff_not, beq_iff_eq, beq_eq_false_iff_ne, bne_iff_ne, bne_eq_false_iff_eq, Bool.not_eq_true', Bool.not_eq_false', ne_eq, Classical.not_not, Int.not_lt, Int.not_le, List.length_map] at h) | skip); (try (exfalso; omega))))) | (with_reducible refine Vc.mk ?_; fail) | (with_reducible refine cutG ?_; fail) | (refine idx_map ?_ ?_) | (refine idx_mapI ?_ ?_ ?_) ));(all_goals (try (repeat' (conv => whnf); (first | (with_reducible refine And.intro ?_ ?_) | (with_reducible exact True.intro) | (intro h; (first | (cases h) | ((first | (simp only [not_true_eq_false, neg_tt, neg_ff, neg_t, neg_f, decide_eq_true_eq, decide_eq_false_iff_not, beq_iff_eq, beq_eq_false_iff_ne, bne_iff_ne, bne_eq_false_iff_eq, Bool.not_eq_true', Bool.not_eq_false', ne_eq, Classical.not_not, Int.not_lt, Int.not_le, List.length_map] at h) | skip); (try (exfalso; omega))))) | (with_reducible refine Vc.mk ?_; fail) | (with_reducible refine cutG ?_; fail) | (refine idx_map ?_ ?_) | (refine idx_mapI ?_ ?_ ?_) )))))
  refine lpG (fun k : Nat => ⟨[(8, .v (.int .i64 k)), (7, .sl 2 ((nak m (l.take k)).map opRow) (some (2, 1))), (6, .sl 2 ((rej (l.take k)).map opRow) (some (1, 1))), (2, .box 0 0), (1, .sl 2 (l.map opRow) none)], [.cells [.v (.int .i64 s), .v (.int .i64 m)], .grow 163 2 1, .grow 163 2 1]⟩) (fun k => k ≤ l.length) (fun k => l.length - k) 0 (by omega) ?_ ?_
  · refine AS.le_trans (le_nil 6 163 2 rfl) (AS.le_trans (le_nil 7 163 2 rfl) ?_)
    (refine le_sub [0, 1, 2] rfl rfl ?_ ?_)
    all_goals repeat' (conv => whnf); (first | (with_reducible refine And.intro ?_ ?_) | (with_reducible exact True.intro) | (with_reducible exact Or.inl rfl) | (refine Vc.mk ?_; (first | (exact rfl) | (exact ⟨rfl, .inl rfl⟩) | omega | skip)))
  intro k hk
  have ht : m.tmod 255 = m % 255 := Int.tmod_eq_emod_of_nonneg hm
  have h1 : (rej (l.take k)).length ≤ k := by unfold rej; exact Nat.le_trans (List.length_filter_le ..) (List.length_take_le ..)
  have h2 : (nak m (l.take k)).length ≤ k := by unfold nak; exact Nat.le_trans (List.length_filterMap_le ..) (List.length_take_le ..)
  ((repeat' (conv => whnf); (first | (with_reducible refine And.intro ?_ ?_) | (with_reducible exact True.intro) | (intro h; (first | (cases h) | ((first | (simp only [not_true_eq_false, neg_tt, neg_ff, neg_t, neg_f, decide_eq_true_eq, decide_eq_false_iff_not, beq_iff_eq, beq_eq_false_iff_ne, bne_iff_ne, bne_eq_false_iff_eq, Bool.not_eq_true', Bool.not_eq_false', ne_eq, Classical.not_not, Int.not_lt, Int.not_le, List.length_map] at h) | skip); (try (exfalso; omega))))) | (with_reducible refine Vc.mk ?_; fail) | (with_reducible refine cutG ?_; fail) | (refine idx_map ?_ ?_) | (refine idx_mapI ?_ ?_ ?_) ));(all_goals (try (repeat' (conv => whnf); (first | (with_reducible refine And.intro ?_ ?_) | (with_reducible exact True.intro) | (intro h; (first | (cases h) | ((first | (simp only [not_true_eq_false, neg_tt, neg_ff, neg_t, neg_f, decide_eq_true_eq, decide_eq_false_iff_not, beq_iff_eq, beq_eq_false_iff_ne, bne_iff_ne, bne_eq_false_iff_eq, Bool.not_eq_true', Bool.not_eq_false', ne_eq, Classical.not_not, Int.not_lt, Int.not_le, List.length_map] at h) | skip); (try (exfalso; omega))))) | (with_reducible refine Vc.mk ?_; fail) | (with_reducible refine cutG ?_; fail) | (refine idx_map ?_ ?_) | (refine idx_mapI ?_ ?_ ?_) )))))
  all_goals (try (refine Vc.mk ?_; (first | (exact rfl) | (decide) | omega | (unfold In64; omega) | (simp only [maxLen, Fits, viewR, viewL, AV.view, List.length_map, List.length_append, List.length_cons, List.length_nil]; omega) | (simp [viewR, viewL, AV.view, opRow]; done) | skip)))
  all_goals (try (refine nextG (k + 1) ?_ ?_ (by (refine le_sub [0, 1, 2] rfl rfl ?_ ?_); all_goals (repeat' (conv => whnf); (first | (with_reducible refine And.intro ?_ ?_) | (with_reducible exact True.intro) | (with_reducible exact Or.inl rfl) | (refine Vc.mk ?_; (first | (exact rfl) | (exact ⟨rfl, .inl rfl⟩) | omega | skip))); (try (first | (rw [nak_succ (by omega)]; simp [nakOf, opRow, viewR, viewL, AV.view, *]; done) | (rw [rej_succ (by omega)]; simp [opRow, viewR, viewL, AV.view, *]; done)))))))
  all_goals (try omega)
  all_goals (try (refine Vc.mk ?_; (first | (exact rfl) | (decide) | omega | (unfold In64; omega) | (simp only [maxLen, Fits, viewR, viewL, AV.view, List.length_map, List.length_append, List.length_cons, List.length_nil]; omega) | (simp [viewR, viewL, AV.view, opRow]; done) | skip)))
  all_goals
    have e : k = l.length := by omega
    subst e
    rw [List.take_length] at *
    ((try (conv => whnf)); refine ⟨[], rfl, rfl, ?_, ?_⟩)
    repeat' (conv => whnf); (first | (with_reducible refine And.intro ?_ ?_) | (with_reducible exact True.intro) | (with_reducible exact Or.inl rfl) | (refine Vc.mk ?_; (first | (exact rfl) | (exact ⟨rfl, .inl rfl⟩) | omega | skip)))
    all_goals (by_cases hr : rej l = [] <;> by_cases hn : nak m l = [] <;> simp_all)
end Go.Proofs.Ytimfnpjcedjmiaa
