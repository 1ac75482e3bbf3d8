/-
  Package auto: a state, an event: what is done, the next state.
-/
import Derived.Test.YtimfnpjcedjmiaaVoc
namespace Go.Proofs.Ytimfnpjcedjmiaa
open Go.RowKit
set_option linter.unusedSimpArgs false
set_option linter.unusedVariables false
/-- C1's table: by events, by states; below 0: it does not come. -/
def autoT : List (List (List UInt8 × Int)) := [
  [([], 2), ([105, 114], 6), ([], -1), ([], -1), ([], -1), ([], -1), ([], -1), ([], -1), ([], -1), ([], -1)],
  [([], -1), ([], -1), ([], 0), ([115], 1), ([], 0), ([], 1), ([], 1), ([], 1), ([], 1), ([100], 1)],
  [([115], 1), ([], 1), ([105, 114], 6), ([], 3), ([], 5), ([], 5), ([], 6), ([], 7), ([], 8), ([], 9)],
  [([], 0), ([102], 0), ([], 2), ([], 2), ([], 4), ([], 4), ([105, 116], 4), ([105, 116], 4), ([105, 116], 4), ([100, 105, 116], 4)],
  [([], -1), ([], -1), ([], -1), ([], -1), ([116], 4), ([116], 5), ([114], 6), ([114], 6), ([114], 8), ([], -1)],
  [([], -1), ([], -1), ([], -1), ([], -1), ([102], 2), ([102], 3), ([102], 3), ([102], 3), ([102], 3), ([], -1)],
  [([], -1), ([], -1), ([107], 2), ([105, 114, 97], 8), ([], 4), ([], 5), ([97], 8), ([97, 117], 9), ([97], 8), ([100, 114, 97], 8)],
  [([], -1), ([], -1), ([107], 2), ([105, 114, 110], 6), ([], 4), ([], 5), ([110], 6), ([110], 7), ([110], 6), ([100, 114, 110], 6)],
  [([], -1), ([], -1), ([107], 2), ([107], 3), ([], 4), ([], 5), ([105], 7), ([114], 6), ([105, 117], 9), ([100, 114], 6)],
  [([], -1), ([], -1), ([107], 2), ([107], 3), ([], 4), ([], 5), ([105, 114], 6), ([114], 6), ([105, 114], 8), ([100, 114], 6)],
  [([], -1), ([], -1), ([107], 2), ([107], 3), ([107], 4), ([107], 5), ([107], 6), ([107], 6), ([107], 6), ([100, 122, 107], 5)],
  [([], -1), ([], -1), ([], 2), ([], 3), ([102], 2), ([102], 3), ([], 6), ([], 6), ([], 8), ([100, 114], 6)]]
def aT (s e : Int) : List UInt8 × Int := (autoT.getD e.toNat []).getD s.toNat ([], -1)
theorem cases6 {s : Int} (h0 : 0 ≤ s) (h : s ≤ 5) : s = 0 ∨ s = 1 ∨ s = 2 ∨ s = 3 ∨ s = 4 ∨ s = 5 := by omega
theorem cases12 {s : Int} (h0 : 0 ≤ s) (h : s ≤ 11) : s = 0 ∨ s = 1 ∨ s = 2 ∨ s = 3 ∨ s = 4 ∨ s = 5 ∨ s = 6 ∨ s = 7 ∨ s = 8 ∨ s = 9 ∨ s = 10 ∨ s = 11 := by omega
set_option maxHeartbeats 4000000 in
set_option maxRecDepth 100000 in
theorem ending_ok (s e : Int) (h0 : 4 ≤ s) (h1 : s ≤ 5) (h2 : 4 ≤ e) (h3 : e ≤ 11) : Fn Try.prog 129 [.v (.int .i64 s), .v (.int .i64 e)] [] (.agg [.v (.string (tx (aT s e).1)), .v (.int .i64 (aT s e).2)]) [] := by
  rcases (by omega : s = 4 ∨ s = 5) with rfl | rfl <;> rcases (by omega : e = 4 ∨ e = 5 ∨ e = 6 ∨ e = 7 ∨ e = 8 ∨ e = 9 ∨ e = 10 ∨ e = 11) with rfl | rfl | rfl | rfl | rfl | rfl | rfl | rfl
  all_goals
    refine fn_of mixed [] [] Try.func129 rfl (by decide +kernel) Try.ntmps129 rfl (congrArg Array.toList Try.results129) rfl (by decide +kernel) ?_
    (iterate 2 all_goals (try (repeat' (conv => whnf); (first | with_reducible refine And.intro ?_ ?_ | with_reducible exact True.intro | (intro h; (first | cases h | ((try simp only [vis, Int.reduceToNat] at h); (try (exfalso; omega))))) | (with_reducible refine Vc.mk ?_; fail) | (with_reducible refine cutG ?_; fail) | refine idx_map ?_ ?_ | refine idx_mapI ?_ ?_ ?_ ))))
    all_goals (try ((first | with_reducible refine Vc.mk ?_ | refine Vc.mk ?_); (try exact GLt)))
    all_goals (((try (conv => whnf)); refine ⟨[], rfl, rfl, ?_, ?_⟩); (repeat' (conv => whnf); (first | with_reducible refine And.intro ?_ ?_ | with_reducible exact True.intro | with_reducible exact Or.inl rfl | (refine Vc.mk ?_; (first | exact rfl | exact ⟨rfl, .inl rfl⟩ | omega | skip)))))
set_option maxHeartbeats 16000000 in
set_option maxRecDepth 100000 in
theorem early_ok (s e : Int) (h0 : 0 ≤ s) (h1 : s ≤ 5) (h2 : 0 ≤ e) (h3 : e ≤ 11) : Fn Try.prog 113 [.v (.int .i64 s), .v (.int .i64 e)] [] (.agg [.v (.string (tx (aT s e).1)), .v (.int .i64 (aT s e).2)]) [] := by
  rcases cases6 h0 h1 with rfl | rfl | rfl | rfl | rfl | rfl <;> rcases cases12 h2 h3 with rfl | rfl | rfl | rfl | rfl | rfl | rfl | rfl | rfl | rfl | rfl | rfl
  all_goals
    refine fn_of mixed [] [] Try.func113 rfl (by decide +kernel) Try.ntmps113 rfl (congrArg Array.toList Try.results113) rfl (by decide +kernel) ?_
    (iterate 2 all_goals (try (repeat' (conv => whnf); (first | with_reducible refine And.intro ?_ ?_ | with_reducible exact True.intro | (intro h; (first | cases h | ((try simp only [vis, Int.reduceToNat] at h); (try (exfalso; omega))))) | (with_reducible refine Vc.mk ?_; fail) | (with_reducible refine cutG ?_; fail) | refine idx_map ?_ ?_ | refine idx_mapI ?_ ?_ ?_ | (refine StopAt.mk (by decide) (by decide) ?_)))))
    all_goals (try ((first | with_reducible refine Vc.mk ?_ | refine Vc.mk ?_); (try exact GLt)))
    all_goals (try (refine call0 (ending_ok _ _ (by decide) (by decide) (by decide) (by decide)) ?_ ?_; (· (repeat' (conv => whnf); (first | with_reducible refine And.intro ?_ ?_ | with_reducible exact True.intro | with_reducible exact Or.inl rfl | (refine Vc.mk ?_; (first | exact rfl | exact ⟨rfl, .inl rfl⟩ | omega | skip))))); (iterate 2 all_goals (try (repeat' (conv => whnf); (first | with_reducible refine And.intro ?_ ?_ | with_reducible exact True.intro | (intro h; (first | cases h | ((try simp only [vis, Int.reduceToNat] at h); (try (exfalso; omega))))) | (with_reducible refine Vc.mk ?_; fail) | (with_reducible refine cutG ?_; fail) | refine idx_map ?_ ?_ | refine idx_mapI ?_ ?_ ?_ ))))))
    all_goals (((try (conv => whnf)); refine ⟨[], rfl, rfl, ?_, ?_⟩); (repeat' (conv => whnf); (first | with_reducible refine And.intro ?_ ?_ | with_reducible exact True.intro | with_reducible exact Or.inl rfl | (refine Vc.mk ?_; (first | exact rfl | exact ⟨rfl, .inl rfl⟩ | omega | skip)))))
set_option maxHeartbeats 16000000 in
set_option maxRecDepth 100000 in
theorem late_ok (s e : Int) (h0 : 6 ≤ s) (h1 : s ≤ 9) (h2 : 0 ≤ e) (h3 : e ≤ 11) : Fn Try.prog 114 [.v (.int .i64 s), .v (.int .i64 e)] [] (.agg [.v (.string (tx (aT s e).1)), .v (.int .i64 (aT s e).2)]) [] := by
  rcases (by omega : s = 6 ∨ s = 7 ∨ s = 8 ∨ s = 9) with rfl | rfl | rfl | rfl <;> rcases cases12 h2 h3 with rfl | rfl | rfl | rfl | rfl | rfl | rfl | rfl | rfl | rfl | rfl | rfl
  all_goals
    refine fn_of mixed [] [] Try.func114 rfl (by decide +kernel) Try.ntmps114 rfl (congrArg Array.toList Try.results114) rfl (by decide +kernel) ?_
    (iterate 2 all_goals (try (repeat' (conv => whnf); (first | with_reducible refine And.intro ?_ ?_ | with_reducible exact True.intro | (intro h; (first | cases h | ((try simp only [vis, Int.reduceToNat] at h); (try (exfalso; omega))))) | (with_reducible refine Vc.mk ?_; fail) | (with_reducible refine cutG ?_; fail) | refine idx_map ?_ ?_ | refine idx_mapI ?_ ?_ ?_ | (refine StopAt.mk (by decide) (by decide) ?_)))))
    all_goals (try ((first | with_reducible refine Vc.mk ?_ | refine Vc.mk ?_); (try exact GLt)))
    all_goals (((try (conv => whnf)); refine ⟨[], rfl, rfl, ?_, ?_⟩); (repeat' (conv => whnf); (first | with_reducible refine And.intro ?_ ?_ | with_reducible exact True.intro | with_reducible exact Or.inl rfl | (refine Vc.mk ?_; (first | exact rfl | exact ⟨rfl, .inl rfl⟩ | omega | skip)))))
def autoIn (s e : Int) : Bool := decide (0 ≤ s) && decide (s ≤ 9) && decide (0 ≤ e) && decide (e ≤ 11)
/-- What is done, the next state, what is wrong. -/
def stepD (s e : Int) : List UInt8 := if autoIn s e then (if (aT s e).2 = -1 then [] else (aT s e).1) else []
def stepN (s e : Int) : Int := if autoIn s e then (if (aT s e).2 = -1 then 0 else (aT s e).2) else 0
def stepE (s e : Int) : Int := if autoIn s e then (if (aT s e).2 = -1 then 7 else 0) else 1
set_option maxHeartbeats 4000000 in
set_option maxRecDepth 100000 in
theorem step_ok (s e : Int) : Fn Try.prog 56 [.v (.int .i64 s), .v (.int .i64 e)] [] (.tup [.v (.string (tx (stepD s e))), .v (.int .i64 (stepN s e)), .err (stepE s e)]) [] := by
  by_cases hin : autoIn s e = true
  · have hb : 0 ≤ s ∧ s ≤ 9 ∧ 0 ≤ e ∧ e ≤ 11 := by
      simp only [autoIn, Bool.and_eq_true, decide_eq_true_eq] at hin; omega
    have eD : stepD s e = if (aT s e).2 = -1 then [] else (aT s e).1 := by unfold stepD; rw [if_pos hin]
    have eN : stepN s e = if (aT s e).2 = -1 then 0 else (aT s e).2 := by unfold stepN; rw [if_pos hin]
    have eE : stepE s e = if (aT s e).2 = -1 then 7 else 0 := by unfold stepE; rw [if_pos hin]
    rw [eD, eN, eE]
    by_cases h6 : s < 6
    · refine fn_of mixed [] [] Try.func56 rfl (by decide +kernel) Try.ntmps56 rfl (congrArg Array.toList Try.results56) rfl (by decide +kernel) ?_
      (iterate 2 all_goals (try (repeat' (conv => whnf); (first | with_reducible refine And.intro ?_ ?_ | with_reducible exact True.intro | (intro h; (first | cases h | ((try simp only [vis, Int.reduceToNat] at h); (try (exfalso; omega))))) | (with_reducible refine Vc.mk ?_; fail) | (with_reducible refine cutG ?_; fail) | refine idx_map ?_ ?_ | refine idx_mapI ?_ ?_ ?_ ))))
      all_goals (try omega)
      all_goals (try ((first | with_reducible refine Vc.mk ?_ | refine Vc.mk ?_); (try exact GLt)))
      (all_goals (try ((first | (refine call0 (early_ok s e (by omega) (by omega) (by omega) (by omega)) ?_ ?_) | (refine pure0 (early_ok s e (by omega) (by omega) (by omega) (by omega)) rfl ?_ ?_)); (· (repeat' (conv => whnf); (first | with_reducible refine And.intro ?_ ?_ | with_reducible exact True.intro | with_reducible exact Or.inl rfl | (refine Vc.mk ?_; (first | exact rfl | exact ⟨rfl, .inl rfl⟩ | omega | skip))))); (iterate 2 all_goals (try (repeat' (conv => whnf); (first | with_reducible refine And.intro ?_ ?_ | with_reducible exact True.intro | (intro h; (first | cases h | ((try simp only [vis, Int.reduceToNat] at h); (try (exfalso; omega))))) | (with_reducible refine Vc.mk ?_; fail) | (with_reducible refine cutG ?_; fail) | refine idx_map ?_ ?_ | refine idx_mapI ?_ ?_ ?_ )))))))
      all_goals (try ((first | with_reducible refine Vc.mk ?_ | refine Vc.mk ?_); (try exact GLt)))
      · ((try (conv => whnf)); refine ⟨[], rfl, rfl, ?_, ?_⟩); (repeat' (conv => whnf); (first | with_reducible refine And.intro ?_ ?_ | with_reducible exact True.intro | with_reducible exact Or.inl rfl | (refine Vc.mk ?_; (first | exact rfl | exact ⟨rfl, .inl rfl⟩ | omega | skip))))
        all_goals (simp [h]; try rfl)
      · ((try (conv => whnf)); refine ⟨[], rfl, rfl, ?_, ?_⟩); (repeat' (conv => whnf); (first | with_reducible refine And.intro ?_ ?_ | with_reducible exact True.intro | with_reducible exact Or.inl rfl | (refine Vc.mk ?_; (first | exact rfl | exact ⟨rfl, .inl rfl⟩ | omega | skip))))
        all_goals (simp [h])
    · refine fn_of mixed [] [] Try.func56 rfl (by decide +kernel) Try.ntmps56 rfl (congrArg Array.toList Try.results56) rfl (by decide +kernel) ?_
      (iterate 2 all_goals (try (repeat' (conv => whnf); (first | with_reducible refine And.intro ?_ ?_ | with_reducible exact True.intro | (intro h; (first | cases h | ((try simp only [vis, Int.reduceToNat] at h); (try (exfalso; omega))))) | (with_reducible refine Vc.mk ?_; fail) | (with_reducible refine cutG ?_; fail) | refine idx_map ?_ ?_ | refine idx_mapI ?_ ?_ ?_ ))))
      all_goals (try omega)
      all_goals (try ((first | with_reducible refine Vc.mk ?_ | refine Vc.mk ?_); (try exact GLt)))
      (all_goals (try ((first | (refine call0 (late_ok s e (by omega) (by omega) (by omega) (by omega)) ?_ ?_) | (refine pure0 (late_ok s e (by omega) (by omega) (by omega) (by omega)) rfl ?_ ?_)); (· (repeat' (conv => whnf); (first | with_reducible refine And.intro ?_ ?_ | with_reducible exact True.intro | with_reducible exact Or.inl rfl | (refine Vc.mk ?_; (first | exact rfl | exact ⟨rfl, .inl rfl⟩ | omega | skip))))); (iterate 2 all_goals (try (repeat' (conv => whnf); (first | with_reducible refine And.intro ?_ ?_ | with_reducible exact True.intro | (intro h; (first | cases h | ((try simp only [vis, Int.reduceToNat] at h); (try (exfalso; omega))))) | (with_reducible refine Vc.mk ?_; fail) | (with_reducible refine cutG ?_; fail) | refine idx_map ?_ ?_ | refine idx_mapI ?_ ?_ ?_ )))))))
      all_goals (try ((first | with_reducible refine Vc.mk ?_ | refine Vc.mk ?_); (try exact GLt)))
      · ((try (conv => whnf)); refine ⟨[], rfl, rfl, ?_, ?_⟩); (repeat' (conv => whnf); (first | with_reducible refine And.intro ?_ ?_ | with_reducible exact True.intro | with_reducible exact Or.inl rfl | (refine Vc.mk ?_; (first | exact rfl | exact ⟨rfl, .inl rfl⟩ | omega | skip))))
        all_goals (simp [h]; try rfl)
      · ((try (conv => whnf)); refine ⟨[], rfl, rfl, ?_, ?_⟩); (repeat' (conv => whnf); (first | with_reducible refine And.intro ?_ ?_ | with_reducible exact True.intro | with_reducible exact Or.inl rfl | (refine Vc.mk ?_; (first | exact rfl | exact ⟨rfl, .inl rfl⟩ | omega | skip))))
        all_goals (simp [h])
  · have hb : ¬ (0 ≤ s ∧ s ≤ 9 ∧ 0 ≤ e ∧ e ≤ 11) := by
      intro hb
      apply hin
      simp only [autoIn, Bool.and_eq_true, decide_eq_true_eq]; omega
    have eD : stepD s e = [] := by unfold stepD; rw [if_neg hin]
    have eN : stepN s e = 0 := by unfold stepN; rw [if_neg hin]
    have eE : stepE s e = 1 := by unfold stepE; rw [if_neg hin]
    rw [eD, eN, eE]
    refine fn_of mixed [] [] Try.func56 rfl (by decide +kernel) Try.ntmps56 rfl (congrArg Array.toList Try.results56) rfl (by decide +kernel) ?_
    (iterate 2 all_goals (try (repeat' (conv => whnf); (first | with_reducible refine And.intro ?_ ?_ | with_reducible exact True.intro | (intro h; (first | cases h | ((try simp only [vis, Int.reduceToNat] at h); (try (exfalso; omega))))) | (with_reducible refine Vc.mk ?_; fail) | (with_reducible refine cutG ?_; fail) | refine idx_map ?_ ?_ | refine idx_mapI ?_ ?_ ?_ ))))
    all_goals (try omega)
    all_goals (try ((first | with_reducible refine Vc.mk ?_ | refine Vc.mk ?_); (try exact GLt)))
    all_goals (((try (conv => whnf)); refine ⟨[], rfl, rfl, ?_, ?_⟩); (repeat' (conv => whnf); (first | with_reducible refine And.intro ?_ ?_ | with_reducible exact True.intro | with_reducible exact Or.inl rfl | (refine Vc.mk ?_; (first | exact rfl | exact ⟨rfl, .inl rfl⟩ | omega | skip)))))
set_option maxRecDepth 100000 in
theorem timed_ok (s : Int) : Fn Try.prog 57 [.v (.int .i64 s)] [] (.v (.bool (decide (4 ≤ s ∧ s ≤ 8)))) [] := by
  refine fn_of mixed [] [] Try.func57 rfl (by decide +kernel) Try.ntmps57 rfl (congrArg Array.toList Try.results57) rfl (by decide +kernel) ?_
  (iterate 2 all_goals (try (repeat' (conv => whnf); (first | with_reducible refine And.intro ?_ ?_ | with_reducible exact True.intro | (intro h; (first | cases h | ((try simp only [vis, Int.reduceToNat] at h); (try (exfalso; omega))))) | (with_reducible refine Vc.mk ?_; fail) | (with_reducible refine cutG ?_; fail) | refine idx_map ?_ ?_ | refine idx_mapI ?_ ?_ ?_ ))))
  all_goals (((try (conv => whnf)); refine ⟨[], rfl, rfl, ?_, ?_⟩); (repeat' (conv => whnf); (first | with_reducible refine And.intro ?_ ?_ | with_reducible exact True.intro | with_reducible exact Or.inl rfl | (refine Vc.mk ?_; (first | exact rfl | exact ⟨rfl, .inl rfl⟩ | omega | skip)))))
  all_goals (simp; omega)
end Go.Proofs.Ytimfnpjcedjmiaa
