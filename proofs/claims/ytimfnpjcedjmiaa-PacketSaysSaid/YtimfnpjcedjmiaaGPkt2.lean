/-
  The reference's faults of packets.
-/
import Derived.Test.YtimfnpjcedjmiaaGPkt
namespace Go.Proofs.Ytimfnpjcedjmiaa
open Go.RowKit
set_option linter.unusedSimpArgs false
theorem any_take {l : List (Int × Int)} {k j : Nat} {a : Int} (hj : j < k) (hk : k ≤ l.length) (h : l[j].1 = a) : (l.take k).any (fun q => q.1 == a) = true := by
  rw [List.any_eq_true]
  exact ⟨l[j], by rw [List.mem_iff_getElem]; exact ⟨j, by simp; omega, by simp⟩, by simpa using h⟩
theorem any_take_no {l : List (Int × Int)} {k : Nat} {a : Int} (h : ∀ j (hj : j < l.length), j < k → l[j].1 ≠ a) : (l.take k).any (fun q => q.1 == a) = false := by
  rw [List.any_eq_false]
  intro x hx
  obtain ⟨i, hi, rfl⟩ := List.mem_iff_getElem.1 hx
  simp only [List.length_take] at hi
  simpa using h i (by omega) (by omega)
set_option maxHeartbeats 4000000 in
set_option maxRecDepth 100000 in
theorem rfault_ok (c i : Int) (l : List (Int × Int)) : Fn Try.prog 25 [.agg [.v (.int .i64 c), .v (.int .i64 i), .sl 2 (l.map opRow) none]] [] (.v (.int .i64 (pfault c i l))) [] := by
  refine fn_of mixed [] [] Try.func25 rfl (by decide +kernel) Try.ntmps25 rfl (congrArg Array.toList Try.results25) rfl (by decide +kernel) ?_
  ((repeat' (conv => whnf); (first | (with_reducible refine And.intro ?_ ?_) | (with_reducible exact True.intro) | (intro h; (first | (cases h) | ((first | (simp only [wrap_byte, Int.reduceToNat, Int.toNat_natCast, not_true_eq_false, neg_tt, neg_ff, neg_t, neg_f, decide_eq_true_eq, decide_eq_false_iff_not, beq_iff_eq, beq_eq_false_iff_ne, bne_iff_ne, bne_eq_false_iff_eq, Bool.not_eq_true', Bool.not_eq_false', ne_eq, Classical.not_not, Int.not_lt, Int.not_le, List.length_map] at h) | skip); (try (exfalso; omega))))) | (with_reducible refine Vc.mk ?_; fail) | (with_reducible refine cutG ?_; fail) | (refine idx_map ?_ ?_) | (refine idx_mapI ?_ ?_ ?_) ));(all_goals (try (repeat' (conv => whnf); (first | (with_reducible refine And.intro ?_ ?_) | (with_reducible exact True.intro) | (intro h; (first | (cases h) | ((first | (simp only [wrap_byte, Int.reduceToNat, Int.toNat_natCast, not_true_eq_false, neg_tt, neg_ff, neg_t, neg_f, decide_eq_true_eq, decide_eq_false_iff_not, beq_iff_eq, beq_eq_false_iff_ne, bne_iff_ne, bne_eq_false_iff_eq, Bool.not_eq_true', Bool.not_eq_false', ne_eq, Classical.not_not, Int.not_lt, Int.not_le, List.length_map] at h) | skip); (try (exfalso; omega))))) | (with_reducible refine Vc.mk ?_; fail) | (with_reducible refine cutG ?_; fail) | (refine idx_map ?_ ?_) | (refine idx_mapI ?_ ?_ ?_) )))))
  all_goals (try (refine Vc.mk ?_; (first | (exact rfl) | (decide) | omega | (unfold In64; omega) | (simp only [wrap_byte, Int.reduceToNat, Int.toNat_natCast, In64]; omega) | (simp only [maxLen, Fits, viewR, viewL, AV.view, List.length_map, List.length_append, List.length_cons, List.length_nil]; omega) | (simp [viewR, viewL, AV.view, ]; done) | skip)))
  all_goals (try (((try (conv => whnf)); refine ⟨[], rfl, rfl, ?_, ?_⟩); (repeat' (conv => whnf); (first | (with_reducible refine And.intro ?_ ?_) | (with_reducible exact True.intro) | (with_reducible exact Or.inl rfl) | (refine Vc.mk ?_; (first | (exact rfl) | (exact ⟨rfl, .inl rfl⟩) | omega | skip)))); unfold pfault; (repeat' split) <;> first | rfl | omega))
  all_goals
    have hp : pfault c i l = ofault [] l := by unfold pfault; (repeat' split) <;> first | rfl | omega
    refine lpG (fun k : Nat => ⟨[(1, .box 0 0), (3, .v (.int .i64 k))], [.cells [.v (.int .i64 c), .v (.int .i64 i), .sl 2 (l.map opRow) none]]⟩) (fun k => k ≤ l.length ∧ pfault c i l = ofault (l.take k) (l.drop k)) (fun k => l.length - k) 0 ⟨by omega, hp⟩ (by (refine le_sub [0] rfl rfl ?_ ?_); all_goals ((repeat' (conv => whnf); (first | (with_reducible refine And.intro ?_ ?_) | (with_reducible exact True.intro) | (with_reducible exact Or.inl rfl) | (refine Vc.mk ?_; (first | (exact rfl) | (exact ⟨rfl, .inl rfl⟩) | omega | skip)))); all_goals (try simp))) ?_
    rintro k ⟨hk, hq⟩
    ((repeat' (conv => whnf); (first | (with_reducible refine And.intro ?_ ?_) | (with_reducible exact True.intro) | (intro h; (first | (cases h) | ((first | (simp only [wrap_byte, Int.reduceToNat, Int.toNat_natCast, not_true_eq_false, neg_tt, neg_ff, neg_t, neg_f, decide_eq_true_eq, decide_eq_false_iff_not, beq_iff_eq, beq_eq_false_iff_ne, bne_iff_ne, bne_eq_false_iff_eq, Bool.not_eq_true', Bool.not_eq_false', ne_eq, Classical.not_not, Int.not_lt, Int.not_le, List.length_map] at h) | skip); (try (exfalso; omega))))) | (with_reducible refine Vc.mk ?_; fail) | (with_reducible refine cutG ?_; fail) | (refine idx_map ?_ ?_) | (refine idx_mapI ?_ ?_ ?_) ));(all_goals (try (repeat' (conv => whnf); (first | (with_reducible refine And.intro ?_ ?_) | (with_reducible exact True.intro) | (intro h; (first | (cases h) | ((first | (simp only [wrap_byte, Int.reduceToNat, Int.toNat_natCast, not_true_eq_false, neg_tt, neg_ff, neg_t, neg_f, decide_eq_true_eq, decide_eq_false_iff_not, beq_iff_eq, beq_eq_false_iff_ne, bne_iff_ne, bne_eq_false_iff_eq, Bool.not_eq_true', Bool.not_eq_false', ne_eq, Classical.not_not, Int.not_lt, Int.not_le, List.length_map] at h) | skip); (try (exfalso; omega))))) | (with_reducible refine Vc.mk ?_; fail) | (with_reducible refine cutG ?_; fail) | (refine idx_map ?_ ?_) | (refine idx_mapI ?_ ?_ ?_) )))))
    all_goals (try omega)
    all_goals (try (refine Vc.mk ?_; (first | (exact rfl) | (decide) | omega | (unfold In64; omega) | (simp only [wrap_byte, Int.reduceToNat, Int.toNat_natCast, In64]; omega) | (simp only [maxLen, Fits, viewR, viewL, AV.view, List.length_map, List.length_append, List.length_cons, List.length_nil]; omega) | (simp [viewR, viewL, AV.view, ]; done) | skip)))
    all_goals (try
      (have hk' : k < l.length := by omega
       rw [ofault_step hk'] at hq
       have hb : optBad l[k] = true := by simp only [optBad, Bool.or_eq_true, decide_eq_true_eq]; omega
       rw [if_pos hb] at hq
       ((try (conv => whnf)); refine ⟨[], rfl, rfl, ?_, ?_⟩)
       · (repeat' (conv => whnf); (first | (with_reducible refine And.intro ?_ ?_) | (with_reducible exact True.intro) | (with_reducible exact Or.inl rfl) | (refine Vc.mk ?_; (first | (exact rfl) | (exact ⟨rfl, .inl rfl⟩) | omega | skip))))
       · (repeat' (conv => whnf); (first | (with_reducible refine And.intro ?_ ?_) | (with_reducible exact True.intro) | (with_reducible exact Or.inl rfl) | (refine Vc.mk ?_; (first | (exact rfl) | (exact ⟨rfl, .inl rfl⟩) | omega | skip)))); all_goals exact hq.symm))
    all_goals (try
      (have e : k = l.length := by omega
       subst e
       rw [List.drop_length] at hq
       ((try (conv => whnf)); refine ⟨[], rfl, rfl, ?_, ?_⟩)
       · (repeat' (conv => whnf); (first | (with_reducible refine And.intro ?_ ?_) | (with_reducible exact True.intro) | (with_reducible exact Or.inl rfl) | (refine Vc.mk ?_; (first | (exact rfl) | (exact ⟨rfl, .inl rfl⟩) | omega | skip))))
       · (repeat' (conv => whnf); (first | (with_reducible refine And.intro ?_ ?_) | (with_reducible exact True.intro) | (with_reducible exact Or.inl rfl) | (refine Vc.mk ?_; (first | (exact rfl) | (exact ⟨rfl, .inl rfl⟩) | omega | skip)))); all_goals exact hq.symm))
  all_goals
    have hk' : k < l.length := by omega
    have hb : ¬ optBad l[k] = true := by simp only [optBad, Bool.or_eq_true, decide_eq_true_eq]; omega
    rw [ofault_step hk', if_neg hb] at hq
    refine lpG (fun j : Nat => ⟨[(1, .box 0 0), (3, .v (.int .i64 k)), (5, .v (.int .i64 j)), (4, .box 1 0)], [.cells [.v (.int .i64 c), .v (.int .i64 i), .sl 2 (l.map opRow) none], .cells [.v (.int .i64 l[k].1), .v (.int .i64 l[k].2)]]⟩) (fun j => j ≤ k ∧ ∀ q (hq : q < l.length), q < j → l[q].1 ≠ l[k].1) (fun j => k - j) 0 ⟨by omega, fun q _ h => by omega⟩ (by (refine le_sub [0, 1] rfl rfl ?_ ?_); all_goals ((repeat' (conv => whnf); (first | (with_reducible refine And.intro ?_ ?_) | (with_reducible exact True.intro) | (with_reducible exact Or.inl rfl) | (refine Vc.mk ?_; (first | (exact rfl) | (exact ⟨rfl, .inl rfl⟩) | omega | skip)))); all_goals (try simp))) ?_
    rintro j ⟨hj, hno⟩
    ((repeat' (conv => whnf); (first | (with_reducible refine And.intro ?_ ?_) | (with_reducible exact True.intro) | (intro h; (first | (cases h) | ((first | (simp only [wrap_byte, Int.reduceToNat, Int.toNat_natCast, not_true_eq_false, neg_tt, neg_ff, neg_t, neg_f, decide_eq_true_eq, decide_eq_false_iff_not, beq_iff_eq, beq_eq_false_iff_ne, bne_iff_ne, bne_eq_false_iff_eq, Bool.not_eq_true', Bool.not_eq_false', ne_eq, Classical.not_not, Int.not_lt, Int.not_le, List.length_map] at h) | skip); (try (exfalso; omega))))) | (with_reducible refine Vc.mk ?_; fail) | (with_reducible refine cutG ?_; fail) | (refine idx_map ?_ ?_) | (refine idx_mapI ?_ ?_ ?_) ));(all_goals (try (repeat' (conv => whnf); (first | (with_reducible refine And.intro ?_ ?_) | (with_reducible exact True.intro) | (intro h; (first | (cases h) | ((first | (simp only [wrap_byte, Int.reduceToNat, Int.toNat_natCast, not_true_eq_false, neg_tt, neg_ff, neg_t, neg_f, decide_eq_true_eq, decide_eq_false_iff_not, beq_iff_eq, beq_eq_false_iff_ne, bne_iff_ne, bne_eq_false_iff_eq, Bool.not_eq_true', Bool.not_eq_false', ne_eq, Classical.not_not, Int.not_lt, Int.not_le, List.length_map] at h) | skip); (try (exfalso; omega))))) | (with_reducible refine Vc.mk ?_; fail) | (with_reducible refine cutG ?_; fail) | (refine idx_map ?_ ?_) | (refine idx_mapI ?_ ?_ ?_) )))))
    all_goals (try omega)
    all_goals (try (refine Vc.mk ?_; (first | (exact rfl) | (decide) | omega | (unfold In64; omega) | (simp only [wrap_byte, Int.reduceToNat, Int.toNat_natCast, In64]; omega) | (simp only [maxLen, Fits, viewR, viewL, AV.view, List.length_map, List.length_append, List.length_cons, List.length_nil]; omega) | (simp [viewR, viewL, AV.view, ]; done) | skip)))
    · rw [if_pos (any_take (j := j) (by omega) hk h)] at hq
      ((try (conv => whnf)); refine ⟨[], rfl, rfl, ?_, ?_⟩)
      · (repeat' (conv => whnf); (first | (with_reducible refine And.intro ?_ ?_) | (with_reducible exact True.intro) | (with_reducible exact Or.inl rfl) | (refine Vc.mk ?_; (first | (exact rfl) | (exact ⟨rfl, .inl rfl⟩) | omega | skip))))
      · (repeat' (conv => whnf); (first | (with_reducible refine And.intro ?_ ?_) | (with_reducible exact True.intro) | (with_reducible exact Or.inl rfl) | (refine Vc.mk ?_; (first | (exact rfl) | (exact ⟨rfl, .inl rfl⟩) | omega | skip)))); all_goals exact hq.symm
    · refine nextG (j + 1) ⟨by omega, fun q hq' hlt => ?_⟩ (by omega) (by (refine le_sub [0, 1] rfl rfl ?_ ?_); all_goals (repeat' (conv => whnf); (first | (with_reducible refine And.intro ?_ ?_) | (with_reducible exact True.intro) | (with_reducible exact Or.inl rfl) | (refine Vc.mk ?_; (first | (exact rfl) | (exact ⟨rfl, .inl rfl⟩) | omega | skip)))))
      rcases Nat.lt_or_ge q j with g | g
      · exact hno q hq' g
      · have : q = j := by omega
        subst this
        exact h
    · have e : j = k := by omega
      subst e
      rw [any_take_no hno] at hq
      refine nextG (j + 1) ⟨by omega, hq⟩ (by omega) (by (refine le_sub [0] rfl rfl ?_ ?_); all_goals (repeat' (conv => whnf); (first | (with_reducible refine And.intro ?_ ?_) | (with_reducible exact True.intro) | (with_reducible exact Or.inl rfl) | (refine Vc.mk ?_; (first | (exact rfl) | (exact ⟨rfl, .inl rfl⟩) | omega | skip)))))
end Go.Proofs.Ytimfnpjcedjmiaa
