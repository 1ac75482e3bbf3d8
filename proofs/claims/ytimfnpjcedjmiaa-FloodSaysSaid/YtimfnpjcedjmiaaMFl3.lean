/-
  Package flood: what is owed at a port.
-/
import Derived.Test.YtimfnpjcedjmiaaMFl2
import Derived.Test.YtimfnpjcedjmiaaGQ
namespace Go.Proofs.Ytimfnpjcedjmiaa
open Go.RowKit
set_option linter.unusedSimpArgs false
set_option linter.unusedVariables false
/-- A base, seen from without. -/
def baR (b : Ba) : Res := .obj (packP (baM b))
def baR' (kn : Int → Option St3) (ow : List (Int → Bool)) : Res := .obj (packP (baL kn ow))
set_option maxHeartbeats 16000000 in
set_option maxRecDepth 100000 in
theorem owedF1_ok (kn : Int → Option St3) (a : Int → Bool) (p : Int) (s : St3) : Fn Try.prog 122 [.agg (stRow s), .box 0 0, .box 1 0] ([.cells [.v (.int .i64 p)], .cells [.box 2 0]] ++ renRs (extG 2 (baL kn [a]).length) (baL kn [a])) (.v (.bool (!getW [a] p s.1))) ([.cells [.v (.int .i64 p)], .cells [.box 2 0]] ++ renRs (extG 2 (baL kn [a]).length) (baL kn [a])) := by
  unfold stRow
  by_cases hp : 0 ≤ p ∧ p < 1
  · obtain rfl : p = 0 := by omega
    show Fn Try.prog 122 _ _ (.v (.bool (!a s.1))) _
    cases ha : a s.1 with
    | true =>
      have hl : owM a (.int .i64 s.1) = some [.v (.bool true)] := by simp [owM, ha]
      refine fn_of mixed [] [] Try.func122 rfl (by decide +kernel) Try.ntmps122 rfl (congrArg Array.toList Try.results122) rfl (by decide +kernel) ?_
      ((iterate 2 all_goals (try (repeat' (conv => whnf); (first | with_reducible refine And.intro ?_ ?_ | with_reducible exact True.intro | (intro h; (first | cases h | ((try simp only [vis, Int.reduceToNat] at h); (try (exfalso; omega))))) | (with_reducible refine Vc.mk ?_; fail) | (with_reducible refine cutG ?_; fail) | refine idx_map ?_ ?_ | refine idx_mapI ?_ ?_ ?_ | (refine StopAt.mk (by decide) (by decide) ?_) | (refine StopRow.mk _ rfl ?_))))); (all_goals (try omega)); (all_goals (try ((first | with_reducible refine Vc.mk ?_ | refine Vc.mk ?_); (try exact GLt)))); (all_goals (try (exact ⟨by decide, by decide⟩))))
      refine lookS hl ?_
      ((iterate 2 all_goals (try (repeat' (conv => whnf); (first | with_reducible refine And.intro ?_ ?_ | with_reducible exact True.intro | (intro h; (first | cases h | ((try simp only [vis, Int.reduceToNat] at h); (try (exfalso; omega))))) | (with_reducible refine Vc.mk ?_; fail) | (with_reducible refine cutG ?_; fail) | refine idx_map ?_ ?_ | refine idx_mapI ?_ ?_ ?_ | (refine StopAt.mk (by decide) (by decide) ?_) | (refine StopRow.mk _ rfl ?_))))); (all_goals (try omega)); (all_goals (try ((first | with_reducible refine Vc.mk ?_ | refine Vc.mk ?_); (try exact GLt)))); (all_goals (try (exact ⟨by decide, by decide⟩))))
      ((try (conv => whnf)); refine ⟨[0, 1, 2, 3, 4, 5], rfl, rfl, ?_, ?_⟩); (repeat' (conv => whnf); (first | with_reducible refine And.intro ?_ ?_ | with_reducible exact True.intro | with_reducible exact Or.inl rfl | (refine Vc.mk ?_; (first | exact rfl | exact ⟨rfl, .inl rfl⟩ | omega | skip))))
      all_goals rfl
    | false =>
      have hl : owM a (.int .i64 s.1) = none := by simp [owM, ha]
      refine fn_of mixed [] [] Try.func122 rfl (by decide +kernel) Try.ntmps122 rfl (congrArg Array.toList Try.results122) rfl (by decide +kernel) ?_
      ((iterate 2 all_goals (try (repeat' (conv => whnf); (first | with_reducible refine And.intro ?_ ?_ | with_reducible exact True.intro | (intro h; (first | cases h | ((try simp only [vis, Int.reduceToNat] at h); (try (exfalso; omega))))) | (with_reducible refine Vc.mk ?_; fail) | (with_reducible refine cutG ?_; fail) | refine idx_map ?_ ?_ | refine idx_mapI ?_ ?_ ?_ | (refine StopAt.mk (by decide) (by decide) ?_) | (refine StopRow.mk _ rfl ?_))))); (all_goals (try omega)); (all_goals (try ((first | with_reducible refine Vc.mk ?_ | refine Vc.mk ?_); (try exact GLt)))); (all_goals (try (exact ⟨by decide, by decide⟩))))
      refine lookN hl ?_
      ((iterate 2 all_goals (try (repeat' (conv => whnf); (first | with_reducible refine And.intro ?_ ?_ | with_reducible exact True.intro | (intro h; (first | cases h | ((try simp only [vis, Int.reduceToNat] at h); (try (exfalso; omega))))) | (with_reducible refine Vc.mk ?_; fail) | (with_reducible refine cutG ?_; fail) | refine idx_map ?_ ?_ | refine idx_mapI ?_ ?_ ?_ | (refine StopAt.mk (by decide) (by decide) ?_) | (refine StopRow.mk _ rfl ?_))))); (all_goals (try omega)); (all_goals (try ((first | with_reducible refine Vc.mk ?_ | refine Vc.mk ?_); (try exact GLt)))); (all_goals (try (exact ⟨by decide, by decide⟩))))
      ((try (conv => whnf)); refine ⟨[0, 1, 2, 3, 4, 5], rfl, rfl, ?_, ?_⟩); (repeat' (conv => whnf); (first | with_reducible refine And.intro ?_ ?_ | with_reducible exact True.intro | with_reducible exact Or.inl rfl | (refine Vc.mk ?_; (first | exact rfl | exact ⟨rfl, .inl rfl⟩ | omega | skip))))
      all_goals rfl
  · have hV : getW [a] p s.1 = false := by
      unfold getW
      rw [if_neg (by omega)]; rfl
    rw [hV]
    refine fn_of mixed [] [] Try.func122 rfl (by decide +kernel) Try.ntmps122 rfl (congrArg Array.toList Try.results122) rfl (by decide +kernel) ?_
    ((iterate 2 all_goals (try (repeat' (conv => whnf); (first | with_reducible refine And.intro ?_ ?_ | with_reducible exact True.intro | (intro h; (first | cases h | ((try simp only [vis, Int.reduceToNat] at h); (try (exfalso; omega))))) | (with_reducible refine Vc.mk ?_; fail) | (with_reducible refine cutG ?_; fail) | refine idx_map ?_ ?_ | refine idx_mapI ?_ ?_ ?_ | (refine StopAt.mk (by decide) (by decide) ?_) | (refine StopRow.mk _ rfl ?_))))); (all_goals (try omega)); (all_goals (try ((first | with_reducible refine Vc.mk ?_ | refine Vc.mk ?_); (try exact GLt)))); (all_goals (try (exact ⟨by decide, by decide⟩))))
    all_goals (((try (conv => whnf)); refine ⟨[0, 1, 2, 3, 4, 5], rfl, rfl, ?_, ?_⟩); (repeat' (conv => whnf); (first | with_reducible refine And.intro ?_ ?_ | with_reducible exact True.intro | with_reducible exact Or.inl rfl | (refine Vc.mk ?_; (first | exact rfl | exact ⟨rfl, .inl rfl⟩ | omega | skip)))); all_goals rfl)
set_option maxHeartbeats 16000000 in
set_option maxRecDepth 100000 in
theorem owedF2_ok (kn : Int → Option St3) (a b : Int → Bool) (p : Int) (s : St3) : Fn Try.prog 122 [.agg (stRow s), .box 0 0, .box 1 0] ([.cells [.v (.int .i64 p)], .cells [.box 2 0]] ++ renRs (extG 2 (baL kn [a, b]).length) (baL kn [a, b])) (.v (.bool (!getW [a, b] p s.1))) ([.cells [.v (.int .i64 p)], .cells [.box 2 0]] ++ renRs (extG 2 (baL kn [a, b]).length) (baL kn [a, b])) := by
  unfold stRow
  by_cases hp : 0 ≤ p ∧ p < 2
  · refine or3 (by omega : p = 0 ∨ p = 1 ∨ p = 2) (fun e => ?_) (fun e => ?_) (fun e => ?_)
    all_goals (subst e)
    all_goals (try (exfalso; omega))
    · show Fn Try.prog 122 _ _ (.v (.bool (!a s.1))) _
      cases ha : a s.1 with
      | true =>
        have hl : owM a (.int .i64 s.1) = some [.v (.bool true)] := by simp [owM, ha]
        refine fn_of mixed [] [] Try.func122 rfl (by decide +kernel) Try.ntmps122 rfl (congrArg Array.toList Try.results122) rfl (by decide +kernel) ?_
        ((iterate 2 all_goals (try (repeat' (conv => whnf); (first | with_reducible refine And.intro ?_ ?_ | with_reducible exact True.intro | (intro h; (first | cases h | ((try simp only [vis, Int.reduceToNat] at h); (try (exfalso; omega))))) | (with_reducible refine Vc.mk ?_; fail) | (with_reducible refine cutG ?_; fail) | refine idx_map ?_ ?_ | refine idx_mapI ?_ ?_ ?_ | (refine StopAt.mk (by decide) (by decide) ?_) | (refine StopRow.mk _ rfl ?_))))); (all_goals (try omega)); (all_goals (try ((first | with_reducible refine Vc.mk ?_ | refine Vc.mk ?_); (try exact GLt)))); (all_goals (try (exact ⟨by decide, by decide⟩))))
        refine lookS hl ?_
        ((iterate 2 all_goals (try (repeat' (conv => whnf); (first | with_reducible refine And.intro ?_ ?_ | with_reducible exact True.intro | (intro h; (first | cases h | ((try simp only [vis, Int.reduceToNat] at h); (try (exfalso; omega))))) | (with_reducible refine Vc.mk ?_; fail) | (with_reducible refine cutG ?_; fail) | refine idx_map ?_ ?_ | refine idx_mapI ?_ ?_ ?_ | (refine StopAt.mk (by decide) (by decide) ?_) | (refine StopRow.mk _ rfl ?_))))); (all_goals (try omega)); (all_goals (try ((first | with_reducible refine Vc.mk ?_ | refine Vc.mk ?_); (try exact GLt)))); (all_goals (try (exact ⟨by decide, by decide⟩))))
        ((try (conv => whnf)); refine ⟨[0, 1, 2, 3, 4, 5, 6], rfl, rfl, ?_, ?_⟩); (repeat' (conv => whnf); (first | with_reducible refine And.intro ?_ ?_ | with_reducible exact True.intro | with_reducible exact Or.inl rfl | (refine Vc.mk ?_; (first | exact rfl | exact ⟨rfl, .inl rfl⟩ | omega | skip))))
        all_goals rfl
      | false =>
        have hl : owM a (.int .i64 s.1) = none := by simp [owM, ha]
        refine fn_of mixed [] [] Try.func122 rfl (by decide +kernel) Try.ntmps122 rfl (congrArg Array.toList Try.results122) rfl (by decide +kernel) ?_
        ((iterate 2 all_goals (try (repeat' (conv => whnf); (first | with_reducible refine And.intro ?_ ?_ | with_reducible exact True.intro | (intro h; (first | cases h | ((try simp only [vis, Int.reduceToNat] at h); (try (exfalso; omega))))) | (with_reducible refine Vc.mk ?_; fail) | (with_reducible refine cutG ?_; fail) | refine idx_map ?_ ?_ | refine idx_mapI ?_ ?_ ?_ | (refine StopAt.mk (by decide) (by decide) ?_) | (refine StopRow.mk _ rfl ?_))))); (all_goals (try omega)); (all_goals (try ((first | with_reducible refine Vc.mk ?_ | refine Vc.mk ?_); (try exact GLt)))); (all_goals (try (exact ⟨by decide, by decide⟩))))
        refine lookN hl ?_
        ((iterate 2 all_goals (try (repeat' (conv => whnf); (first | with_reducible refine And.intro ?_ ?_ | with_reducible exact True.intro | (intro h; (first | cases h | ((try simp only [vis, Int.reduceToNat] at h); (try (exfalso; omega))))) | (with_reducible refine Vc.mk ?_; fail) | (with_reducible refine cutG ?_; fail) | refine idx_map ?_ ?_ | refine idx_mapI ?_ ?_ ?_ | (refine StopAt.mk (by decide) (by decide) ?_) | (refine StopRow.mk _ rfl ?_))))); (all_goals (try omega)); (all_goals (try ((first | with_reducible refine Vc.mk ?_ | refine Vc.mk ?_); (try exact GLt)))); (all_goals (try (exact ⟨by decide, by decide⟩))))
        ((try (conv => whnf)); refine ⟨[0, 1, 2, 3, 4, 5, 6], rfl, rfl, ?_, ?_⟩); (repeat' (conv => whnf); (first | with_reducible refine And.intro ?_ ?_ | with_reducible exact True.intro | with_reducible exact Or.inl rfl | (refine Vc.mk ?_; (first | exact rfl | exact ⟨rfl, .inl rfl⟩ | omega | skip))))
        all_goals rfl
    · show Fn Try.prog 122 _ _ (.v (.bool (!b s.1))) _
      cases ha : b s.1 with
      | true =>
        have hl : owM b (.int .i64 s.1) = some [.v (.bool true)] := by simp [owM, ha]
        refine fn_of mixed [] [] Try.func122 rfl (by decide +kernel) Try.ntmps122 rfl (congrArg Array.toList Try.results122) rfl (by decide +kernel) ?_
        ((iterate 2 all_goals (try (repeat' (conv => whnf); (first | with_reducible refine And.intro ?_ ?_ | with_reducible exact True.intro | (intro h; (first | cases h | ((try simp only [vis, Int.reduceToNat] at h); (try (exfalso; omega))))) | (with_reducible refine Vc.mk ?_; fail) | (with_reducible refine cutG ?_; fail) | refine idx_map ?_ ?_ | refine idx_mapI ?_ ?_ ?_ | (refine StopAt.mk (by decide) (by decide) ?_) | (refine StopRow.mk _ rfl ?_))))); (all_goals (try omega)); (all_goals (try ((first | with_reducible refine Vc.mk ?_ | refine Vc.mk ?_); (try exact GLt)))); (all_goals (try (exact ⟨by decide, by decide⟩))))
        refine lookS hl ?_
        ((iterate 2 all_goals (try (repeat' (conv => whnf); (first | with_reducible refine And.intro ?_ ?_ | with_reducible exact True.intro | (intro h; (first | cases h | ((try simp only [vis, Int.reduceToNat] at h); (try (exfalso; omega))))) | (with_reducible refine Vc.mk ?_; fail) | (with_reducible refine cutG ?_; fail) | refine idx_map ?_ ?_ | refine idx_mapI ?_ ?_ ?_ | (refine StopAt.mk (by decide) (by decide) ?_) | (refine StopRow.mk _ rfl ?_))))); (all_goals (try omega)); (all_goals (try ((first | with_reducible refine Vc.mk ?_ | refine Vc.mk ?_); (try exact GLt)))); (all_goals (try (exact ⟨by decide, by decide⟩))))
        ((try (conv => whnf)); refine ⟨[0, 1, 2, 3, 4, 5, 6], rfl, rfl, ?_, ?_⟩); (repeat' (conv => whnf); (first | with_reducible refine And.intro ?_ ?_ | with_reducible exact True.intro | with_reducible exact Or.inl rfl | (refine Vc.mk ?_; (first | exact rfl | exact ⟨rfl, .inl rfl⟩ | omega | skip))))
        all_goals rfl
      | false =>
        have hl : owM b (.int .i64 s.1) = none := by simp [owM, ha]
        refine fn_of mixed [] [] Try.func122 rfl (by decide +kernel) Try.ntmps122 rfl (congrArg Array.toList Try.results122) rfl (by decide +kernel) ?_
        ((iterate 2 all_goals (try (repeat' (conv => whnf); (first | with_reducible refine And.intro ?_ ?_ | with_reducible exact True.intro | (intro h; (first | cases h | ((try simp only [vis, Int.reduceToNat] at h); (try (exfalso; omega))))) | (with_reducible refine Vc.mk ?_; fail) | (with_reducible refine cutG ?_; fail) | refine idx_map ?_ ?_ | refine idx_mapI ?_ ?_ ?_ | (refine StopAt.mk (by decide) (by decide) ?_) | (refine StopRow.mk _ rfl ?_))))); (all_goals (try omega)); (all_goals (try ((first | with_reducible refine Vc.mk ?_ | refine Vc.mk ?_); (try exact GLt)))); (all_goals (try (exact ⟨by decide, by decide⟩))))
        refine lookN hl ?_
        ((iterate 2 all_goals (try (repeat' (conv => whnf); (first | with_reducible refine And.intro ?_ ?_ | with_reducible exact True.intro | (intro h; (first | cases h | ((try simp only [vis, Int.reduceToNat] at h); (try (exfalso; omega))))) | (with_reducible refine Vc.mk ?_; fail) | (with_reducible refine cutG ?_; fail) | refine idx_map ?_ ?_ | refine idx_mapI ?_ ?_ ?_ | (refine StopAt.mk (by decide) (by decide) ?_) | (refine StopRow.mk _ rfl ?_))))); (all_goals (try omega)); (all_goals (try ((first | with_reducible refine Vc.mk ?_ | refine Vc.mk ?_); (try exact GLt)))); (all_goals (try (exact ⟨by decide, by decide⟩))))
        ((try (conv => whnf)); refine ⟨[0, 1, 2, 3, 4, 5, 6], rfl, rfl, ?_, ?_⟩); (repeat' (conv => whnf); (first | with_reducible refine And.intro ?_ ?_ | with_reducible exact True.intro | with_reducible exact Or.inl rfl | (refine Vc.mk ?_; (first | exact rfl | exact ⟨rfl, .inl rfl⟩ | omega | skip))))
        all_goals rfl
  · have hV : getW [a, b] p s.1 = false := by
      unfold getW
      rw [if_neg (by omega)]
      unfold getW
      rw [if_neg (by omega)]; rfl
    rw [hV]
    refine fn_of mixed [] [] Try.func122 rfl (by decide +kernel) Try.ntmps122 rfl (congrArg Array.toList Try.results122) rfl (by decide +kernel) ?_
    ((iterate 2 all_goals (try (repeat' (conv => whnf); (first | with_reducible refine And.intro ?_ ?_ | with_reducible exact True.intro | (intro h; (first | cases h | ((try simp only [vis, Int.reduceToNat] at h); (try (exfalso; omega))))) | (with_reducible refine Vc.mk ?_; fail) | (with_reducible refine cutG ?_; fail) | refine idx_map ?_ ?_ | refine idx_mapI ?_ ?_ ?_ | (refine StopAt.mk (by decide) (by decide) ?_) | (refine StopRow.mk _ rfl ?_))))); (all_goals (try omega)); (all_goals (try ((first | with_reducible refine Vc.mk ?_ | refine Vc.mk ?_); (try exact GLt)))); (all_goals (try (exact ⟨by decide, by decide⟩))))
    all_goals (((try (conv => whnf)); refine ⟨[0, 1, 2, 3, 4, 5, 6], rfl, rfl, ?_, ?_⟩); (repeat' (conv => whnf); (first | with_reducible refine And.intro ?_ ?_ | with_reducible exact True.intro | with_reducible exact Or.inl rfl | (refine Vc.mk ?_; (first | exact rfl | exact ⟨rfl, .inl rfl⟩ | omega | skip)))); all_goals rfl)
set_option maxHeartbeats 16000000 in
set_option maxRecDepth 100000 in
theorem owedF3_ok (kn : Int → Option St3) (a b c : Int → Bool) (p : Int) (s : St3) : Fn Try.prog 122 [.agg (stRow s), .box 0 0, .box 1 0] ([.cells [.v (.int .i64 p)], .cells [.box 2 0]] ++ renRs (extG 2 (baL kn [a, b, c]).length) (baL kn [a, b, c])) (.v (.bool (!getW [a, b, c] p s.1))) ([.cells [.v (.int .i64 p)], .cells [.box 2 0]] ++ renRs (extG 2 (baL kn [a, b, c]).length) (baL kn [a, b, c])) := by
  unfold stRow
  by_cases hp : 0 ≤ p ∧ p < 3
  · refine or3 (by omega : p = 0 ∨ p = 1 ∨ p = 2) (fun e => ?_) (fun e => ?_) (fun e => ?_)
    all_goals (subst e)
    · show Fn Try.prog 122 _ _ (.v (.bool (!a s.1))) _
      cases ha : a s.1 with
      | true =>
        have hl : owM a (.int .i64 s.1) = some [.v (.bool true)] := by simp [owM, ha]
        refine fn_of mixed [] [] Try.func122 rfl (by decide +kernel) Try.ntmps122 rfl (congrArg Array.toList Try.results122) rfl (by decide +kernel) ?_
        ((iterate 2 all_goals (try (repeat' (conv => whnf); (first | with_reducible refine And.intro ?_ ?_ | with_reducible exact True.intro | (intro h; (first | cases h | ((try simp only [vis, Int.reduceToNat] at h); (try (exfalso; omega))))) | (with_reducible refine Vc.mk ?_; fail) | (with_reducible refine cutG ?_; fail) | refine idx_map ?_ ?_ | refine idx_mapI ?_ ?_ ?_ | (refine StopAt.mk (by decide) (by decide) ?_) | (refine StopRow.mk _ rfl ?_))))); (all_goals (try omega)); (all_goals (try ((first | with_reducible refine Vc.mk ?_ | refine Vc.mk ?_); (try exact GLt)))); (all_goals (try (exact ⟨by decide, by decide⟩))))
        refine lookS hl ?_
        ((iterate 2 all_goals (try (repeat' (conv => whnf); (first | with_reducible refine And.intro ?_ ?_ | with_reducible exact True.intro | (intro h; (first | cases h | ((try simp only [vis, Int.reduceToNat] at h); (try (exfalso; omega))))) | (with_reducible refine Vc.mk ?_; fail) | (with_reducible refine cutG ?_; fail) | refine idx_map ?_ ?_ | refine idx_mapI ?_ ?_ ?_ | (refine StopAt.mk (by decide) (by decide) ?_) | (refine StopRow.mk _ rfl ?_))))); (all_goals (try omega)); (all_goals (try ((first | with_reducible refine Vc.mk ?_ | refine Vc.mk ?_); (try exact GLt)))); (all_goals (try (exact ⟨by decide, by decide⟩))))
        ((try (conv => whnf)); refine ⟨[0, 1, 2, 3, 4, 5, 6, 7], rfl, rfl, ?_, ?_⟩); (repeat' (conv => whnf); (first | with_reducible refine And.intro ?_ ?_ | with_reducible exact True.intro | with_reducible exact Or.inl rfl | (refine Vc.mk ?_; (first | exact rfl | exact ⟨rfl, .inl rfl⟩ | omega | skip))))
        all_goals rfl
      | false =>
        have hl : owM a (.int .i64 s.1) = none := by simp [owM, ha]
        refine fn_of mixed [] [] Try.func122 rfl (by decide +kernel) Try.ntmps122 rfl (congrArg Array.toList Try.results122) rfl (by decide +kernel) ?_
        ((iterate 2 all_goals (try (repeat' (conv => whnf); (first | with_reducible refine And.intro ?_ ?_ | with_reducible exact True.intro | (intro h; (first | cases h | ((try simp only [vis, Int.reduceToNat] at h); (try (exfalso; omega))))) | (with_reducible refine Vc.mk ?_; fail) | (with_reducible refine cutG ?_; fail) | refine idx_map ?_ ?_ | refine idx_mapI ?_ ?_ ?_ | (refine StopAt.mk (by decide) (by decide) ?_) | (refine StopRow.mk _ rfl ?_))))); (all_goals (try omega)); (all_goals (try ((first | with_reducible refine Vc.mk ?_ | refine Vc.mk ?_); (try exact GLt)))); (all_goals (try (exact ⟨by decide, by decide⟩))))
        refine lookN hl ?_
        ((iterate 2 all_goals (try (repeat' (conv => whnf); (first | with_reducible refine And.intro ?_ ?_ | with_reducible exact True.intro | (intro h; (first | cases h | ((try simp only [vis, Int.reduceToNat] at h); (try (exfalso; omega))))) | (with_reducible refine Vc.mk ?_; fail) | (with_reducible refine cutG ?_; fail) | refine idx_map ?_ ?_ | refine idx_mapI ?_ ?_ ?_ | (refine StopAt.mk (by decide) (by decide) ?_) | (refine StopRow.mk _ rfl ?_))))); (all_goals (try omega)); (all_goals (try ((first | with_reducible refine Vc.mk ?_ | refine Vc.mk ?_); (try exact GLt)))); (all_goals (try (exact ⟨by decide, by decide⟩))))
        ((try (conv => whnf)); refine ⟨[0, 1, 2, 3, 4, 5, 6, 7], rfl, rfl, ?_, ?_⟩); (repeat' (conv => whnf); (first | with_reducible refine And.intro ?_ ?_ | with_reducible exact True.intro | with_reducible exact Or.inl rfl | (refine Vc.mk ?_; (first | exact rfl | exact ⟨rfl, .inl rfl⟩ | omega | skip))))
        all_goals rfl
    · show Fn Try.prog 122 _ _ (.v (.bool (!b s.1))) _
      cases ha : b s.1 with
      | true =>
        have hl : owM b (.int .i64 s.1) = some [.v (.bool true)] := by simp [owM, ha]
        refine fn_of mixed [] [] Try.func122 rfl (by decide +kernel) Try.ntmps122 rfl (congrArg Array.toList Try.results122) rfl (by decide +kernel) ?_
        ((iterate 2 all_goals (try (repeat' (conv => whnf); (first | with_reducible refine And.intro ?_ ?_ | with_reducible exact True.intro | (intro h; (first | cases h | ((try simp only [vis, Int.reduceToNat] at h); (try (exfalso; omega))))) | (with_reducible refine Vc.mk ?_; fail) | (with_reducible refine cutG ?_; fail) | refine idx_map ?_ ?_ | refine idx_mapI ?_ ?_ ?_ | (refine StopAt.mk (by decide) (by decide) ?_) | (refine StopRow.mk _ rfl ?_))))); (all_goals (try omega)); (all_goals (try ((first | with_reducible refine Vc.mk ?_ | refine Vc.mk ?_); (try exact GLt)))); (all_goals (try (exact ⟨by decide, by decide⟩))))
        refine lookS hl ?_
        ((iterate 2 all_goals (try (repeat' (conv => whnf); (first | with_reducible refine And.intro ?_ ?_ | with_reducible exact True.intro | (intro h; (first | cases h | ((try simp only [vis, Int.reduceToNat] at h); (try (exfalso; omega))))) | (with_reducible refine Vc.mk ?_; fail) | (with_reducible refine cutG ?_; fail) | refine idx_map ?_ ?_ | refine idx_mapI ?_ ?_ ?_ | (refine StopAt.mk (by decide) (by decide) ?_) | (refine StopRow.mk _ rfl ?_))))); (all_goals (try omega)); (all_goals (try ((first | with_reducible refine Vc.mk ?_ | refine Vc.mk ?_); (try exact GLt)))); (all_goals (try (exact ⟨by decide, by decide⟩))))
        ((try (conv => whnf)); refine ⟨[0, 1, 2, 3, 4, 5, 6, 7], rfl, rfl, ?_, ?_⟩); (repeat' (conv => whnf); (first | with_reducible refine And.intro ?_ ?_ | with_reducible exact True.intro | with_reducible exact Or.inl rfl | (refine Vc.mk ?_; (first | exact rfl | exact ⟨rfl, .inl rfl⟩ | omega | skip))))
        all_goals rfl
      | false =>
        have hl : owM b (.int .i64 s.1) = none := by simp [owM, ha]
        refine fn_of mixed [] [] Try.func122 rfl (by decide +kernel) Try.ntmps122 rfl (congrArg Array.toList Try.results122) rfl (by decide +kernel) ?_
        ((iterate 2 all_goals (try (repeat' (conv => whnf); (first | with_reducible refine And.intro ?_ ?_ | with_reducible exact True.intro | (intro h; (first | cases h | ((try simp only [vis, Int.reduceToNat] at h); (try (exfalso; omega))))) | (with_reducible refine Vc.mk ?_; fail) | (with_reducible refine cutG ?_; fail) | refine idx_map ?_ ?_ | refine idx_mapI ?_ ?_ ?_ | (refine StopAt.mk (by decide) (by decide) ?_) | (refine StopRow.mk _ rfl ?_))))); (all_goals (try omega)); (all_goals (try ((first | with_reducible refine Vc.mk ?_ | refine Vc.mk ?_); (try exact GLt)))); (all_goals (try (exact ⟨by decide, by decide⟩))))
        refine lookN hl ?_
        ((iterate 2 all_goals (try (repeat' (conv => whnf); (first | with_reducible refine And.intro ?_ ?_ | with_reducible exact True.intro | (intro h; (first | cases h | ((try simp only [vis, Int.reduceToNat] at h); (try (exfalso; omega))))) | (with_reducible refine Vc.mk ?_; fail) | (with_reducible refine cutG ?_; fail) | refine idx_map ?_ ?_ | refine idx_mapI ?_ ?_ ?_ | (refine StopAt.mk (by decide) (by decide) ?_) | (refine StopRow.mk _ rfl ?_))))); (all_goals (try omega)); (all_goals (try ((first | with_reducible refine Vc.mk ?_ | refine Vc.mk ?_); (try exact GLt)))); (all_goals (try (exact ⟨by decide, by decide⟩))))
        ((try (conv => whnf)); refine ⟨[0, 1, 2, 3, 4, 5, 6, 7], rfl, rfl, ?_, ?_⟩); (repeat' (conv => whnf); (first | with_reducible refine And.intro ?_ ?_ | with_reducible exact True.intro | with_reducible exact Or.inl rfl | (refine Vc.mk ?_; (first | exact rfl | exact ⟨rfl, .inl rfl⟩ | omega | skip))))
        all_goals rfl
    · show Fn Try.prog 122 _ _ (.v (.bool (!c s.1))) _
      cases ha : c s.1 with
      | true =>
        have hl : owM c (.int .i64 s.1) = some [.v (.bool true)] := by simp [owM, ha]
        refine fn_of mixed [] [] Try.func122 rfl (by decide +kernel) Try.ntmps122 rfl (congrArg Array.toList Try.results122) rfl (by decide +kernel) ?_
        ((iterate 2 all_goals (try (repeat' (conv => whnf); (first | with_reducible refine And.intro ?_ ?_ | with_reducible exact True.intro | (intro h; (first | cases h | ((try simp only [vis, Int.reduceToNat] at h); (try (exfalso; omega))))) | (with_reducible refine Vc.mk ?_; fail) | (with_reducible refine cutG ?_; fail) | refine idx_map ?_ ?_ | refine idx_mapI ?_ ?_ ?_ | (refine StopAt.mk (by decide) (by decide) ?_) | (refine StopRow.mk _ rfl ?_))))); (all_goals (try omega)); (all_goals (try ((first | with_reducible refine Vc.mk ?_ | refine Vc.mk ?_); (try exact GLt)))); (all_goals (try (exact ⟨by decide, by decide⟩))))
        refine lookS hl ?_
        ((iterate 2 all_goals (try (repeat' (conv => whnf); (first | with_reducible refine And.intro ?_ ?_ | with_reducible exact True.intro | (intro h; (first | cases h | ((try simp only [vis, Int.reduceToNat] at h); (try (exfalso; omega))))) | (with_reducible refine Vc.mk ?_; fail) | (with_reducible refine cutG ?_; fail) | refine idx_map ?_ ?_ | refine idx_mapI ?_ ?_ ?_ | (refine StopAt.mk (by decide) (by decide) ?_) | (refine StopRow.mk _ rfl ?_))))); (all_goals (try omega)); (all_goals (try ((first | with_reducible refine Vc.mk ?_ | refine Vc.mk ?_); (try exact GLt)))); (all_goals (try (exact ⟨by decide, by decide⟩))))
        ((try (conv => whnf)); refine ⟨[0, 1, 2, 3, 4, 5, 6, 7], rfl, rfl, ?_, ?_⟩); (repeat' (conv => whnf); (first | with_reducible refine And.intro ?_ ?_ | with_reducible exact True.intro | with_reducible exact Or.inl rfl | (refine Vc.mk ?_; (first | exact rfl | exact ⟨rfl, .inl rfl⟩ | omega | skip))))
        all_goals rfl
      | false =>
        have hl : owM c (.int .i64 s.1) = none := by simp [owM, ha]
        refine fn_of mixed [] [] Try.func122 rfl (by decide +kernel) Try.ntmps122 rfl (congrArg Array.toList Try.results122) rfl (by decide +kernel) ?_
        ((iterate 2 all_goals (try (repeat' (conv => whnf); (first | with_reducible refine And.intro ?_ ?_ | with_reducible exact True.intro | (intro h; (first | cases h | ((try simp only [vis, Int.reduceToNat] at h); (try (exfalso; omega))))) | (with_reducible refine Vc.mk ?_; fail) | (with_reducible refine cutG ?_; fail) | refine idx_map ?_ ?_ | refine idx_mapI ?_ ?_ ?_ | (refine StopAt.mk (by decide) (by decide) ?_) | (refine StopRow.mk _ rfl ?_))))); (all_goals (try omega)); (all_goals (try ((first | with_reducible refine Vc.mk ?_ | refine Vc.mk ?_); (try exact GLt)))); (all_goals (try (exact ⟨by decide, by decide⟩))))
        refine lookN hl ?_
        ((iterate 2 all_goals (try (repeat' (conv => whnf); (first | with_reducible refine And.intro ?_ ?_ | with_reducible exact True.intro | (intro h; (first | cases h | ((try simp only [vis, Int.reduceToNat] at h); (try (exfalso; omega))))) | (with_reducible refine Vc.mk ?_; fail) | (with_reducible refine cutG ?_; fail) | refine idx_map ?_ ?_ | refine idx_mapI ?_ ?_ ?_ | (refine StopAt.mk (by decide) (by decide) ?_) | (refine StopRow.mk _ rfl ?_))))); (all_goals (try omega)); (all_goals (try ((first | with_reducible refine Vc.mk ?_ | refine Vc.mk ?_); (try exact GLt)))); (all_goals (try (exact ⟨by decide, by decide⟩))))
        ((try (conv => whnf)); refine ⟨[0, 1, 2, 3, 4, 5, 6, 7], rfl, rfl, ?_, ?_⟩); (repeat' (conv => whnf); (first | with_reducible refine And.intro ?_ ?_ | with_reducible exact True.intro | with_reducible exact Or.inl rfl | (refine Vc.mk ?_; (first | exact rfl | exact ⟨rfl, .inl rfl⟩ | omega | skip))))
        all_goals rfl
  · have hV : getW [a, b, c] p s.1 = false := by
      unfold getW
      rw [if_neg (by omega)]
      unfold getW
      rw [if_neg (by omega)]
      unfold getW
      rw [if_neg (by omega)]; rfl
    rw [hV]
    refine fn_of mixed [] [] Try.func122 rfl (by decide +kernel) Try.ntmps122 rfl (congrArg Array.toList Try.results122) rfl (by decide +kernel) ?_
    ((iterate 2 all_goals (try (repeat' (conv => whnf); (first | with_reducible refine And.intro ?_ ?_ | with_reducible exact True.intro | (intro h; (first | cases h | ((try simp only [vis, Int.reduceToNat] at h); (try (exfalso; omega))))) | (with_reducible refine Vc.mk ?_; fail) | (with_reducible refine cutG ?_; fail) | refine idx_map ?_ ?_ | refine idx_mapI ?_ ?_ ?_ | (refine StopAt.mk (by decide) (by decide) ?_) | (refine StopRow.mk _ rfl ?_))))); (all_goals (try omega)); (all_goals (try ((first | with_reducible refine Vc.mk ?_ | refine Vc.mk ?_); (try exact GLt)))); (all_goals (try (exact ⟨by decide, by decide⟩))))
    all_goals (((try (conv => whnf)); refine ⟨[0, 1, 2, 3, 4, 5, 6, 7], rfl, rfl, ?_, ?_⟩); (repeat' (conv => whnf); (first | with_reducible refine And.intro ?_ ?_ | with_reducible exact True.intro | with_reducible exact Or.inl rfl | (refine Vc.mk ?_; (first | exact rfl | exact ⟨rfl, .inl rfl⟩ | omega | skip)))); all_goals rfl)
/-- What the predicate's memory is. -/
def clM (kn : Int → Option St3) (ow : List (Int → Bool)) (p : Int) : List Res := [.cells [.v (.int .i64 p)], .cells [.box 2 0], baR' kn ow]
set_option maxRecDepth 100000 in
theorem owedC_ok (kn : Int → Option St3) (ow : List (Int → Bool)) (h1 : 1 ≤ ow.length) (h3 : ow.length ≤ 3) (p : Int) (s : St3) : Fn Try.prog 122 [.agg (stRow s), .box 0 0, .box 1 0] (clM kn ow p) (.v (.bool (!getW ow p s.1))) (clM kn ow p) := by
  refine np3 (p := fun ow => Fn Try.prog 122 [.agg (stRow s), .box 0 0, .box 1 0] (clM kn ow p) (.v (.bool (!getW ow p s.1))) (clM kn ow p)) h1 h3 (fun a => ?_) (fun a b => ?_) (fun a b c => ?_)
  · exact fn_pack (mt := [.cells [.v (.int .i64 p)], .cells [.box 2 0], .gone]) (m' := baL kn [a]) (ρ := [0, 1, 2]) (κ := [2, 3, 4, 5]) (owedF1_ok kn a p s) rfl rfl rfl rfl (by (repeat' (conv => whnf); (first | with_reducible refine And.intro ?_ ?_ | with_reducible exact True.intro | with_reducible exact Or.inl rfl | (refine Vc.mk ?_; (first | exact rfl | exact ⟨rfl, .inl rfl⟩ | omega | skip))))) (by (repeat' (conv => whnf); (first | with_reducible refine And.intro ?_ ?_ | with_reducible exact True.intro | with_reducible exact Or.inl rfl | (refine Vc.mk ?_; (first | exact rfl | exact ⟨rfl, .inl rfl⟩ | omega | skip)))); all_goals rfl) (by (repeat' (conv => whnf); (first | with_reducible refine And.intro ?_ ?_ | with_reducible exact True.intro | with_reducible exact Or.inl rfl | (refine Vc.mk ?_; (first | exact rfl | exact ⟨rfl, .inl rfl⟩ | omega | skip))))) rfl rfl rfl rfl rfl
  · exact fn_pack (mt := [.cells [.v (.int .i64 p)], .cells [.box 2 0], .gone]) (m' := baL kn [a, b]) (ρ := [0, 1, 2]) (κ := [2, 3, 4, 5, 6]) (owedF2_ok kn a b p s) rfl rfl rfl rfl (by (repeat' (conv => whnf); (first | with_reducible refine And.intro ?_ ?_ | with_reducible exact True.intro | with_reducible exact Or.inl rfl | (refine Vc.mk ?_; (first | exact rfl | exact ⟨rfl, .inl rfl⟩ | omega | skip))))) (by (repeat' (conv => whnf); (first | with_reducible refine And.intro ?_ ?_ | with_reducible exact True.intro | with_reducible exact Or.inl rfl | (refine Vc.mk ?_; (first | exact rfl | exact ⟨rfl, .inl rfl⟩ | omega | skip)))); all_goals rfl) (by (repeat' (conv => whnf); (first | with_reducible refine And.intro ?_ ?_ | with_reducible exact True.intro | with_reducible exact Or.inl rfl | (refine Vc.mk ?_; (first | exact rfl | exact ⟨rfl, .inl rfl⟩ | omega | skip))))) rfl rfl rfl rfl rfl
  · exact fn_pack (mt := [.cells [.v (.int .i64 p)], .cells [.box 2 0], .gone]) (m' := baL kn [a, b, c]) (ρ := [0, 1, 2]) (κ := [2, 3, 4, 5, 6, 7]) (owedF3_ok kn a b c p s) rfl rfl rfl rfl (by (repeat' (conv => whnf); (first | with_reducible refine And.intro ?_ ?_ | with_reducible exact True.intro | with_reducible exact Or.inl rfl | (refine Vc.mk ?_; (first | exact rfl | exact ⟨rfl, .inl rfl⟩ | omega | skip))))) (by (repeat' (conv => whnf); (first | with_reducible refine And.intro ?_ ?_ | with_reducible exact True.intro | with_reducible exact Or.inl rfl | (refine Vc.mk ?_; (first | exact rfl | exact ⟨rfl, .inl rfl⟩ | omega | skip)))); all_goals rfl) (by (repeat' (conv => whnf); (first | with_reducible refine And.intro ?_ ?_ | with_reducible exact True.intro | with_reducible exact Or.inl rfl | (refine Vc.mk ?_; (first | exact rfl | exact ⟨rfl, .inl rfl⟩ | omega | skip))))) rfl rfl rfl rfl rfl
-- the search, over rows
def firstS (D : St3 → Bool) : List St3 → Nat → Int
  | [], _ => -1
  | s :: r, k => if D s = true then k else firstS D r (k + 1)
theorem firstS_none {D : St3 → Bool} : ∀ {l : List St3} {k : Nat}, (∀ s ∈ l, D s = false) → firstS D l k = -1
  | [], k, h => rfl
  | s :: r, k, h => by
    unfold firstS
    rw [if_neg (by rw [h s (List.mem_cons_self ..)]; decide)]
    exact firstS_none fun t ht => h t (List.mem_cons_of_mem _ ht)
theorem firstS_some {D : St3 → Bool} : ∀ {l : List St3} {k : Nat}, (∃ s ∈ l, D s = true) → ∃ i : Nat, i < l.length ∧ firstS D l k = ((k + i : Nat) : Int) ∧ (∀ s ∈ l.take i, D s = false) ∧ ∀ s, l[i]? = some s → D s = true
  | [], k, h => by obtain ⟨s, hs, _⟩ := h; cases hs
  | s :: r, k, h => by
    by_cases hd : D s = true
    · exact ⟨0, by simp, by unfold firstS; rw [if_pos hd]; simp, by simp, fun t ht => by simp at ht; subst ht; exact hd⟩
    · obtain ⟨t, ht, hdt⟩ := h
      have hr : ∃ s ∈ r, D s = true := by
        rcases List.mem_cons.1 ht with rfl | ht
        · exact absurd hdt hd
        · exact ⟨t, ht, hdt⟩
      obtain ⟨i, h1, h2, h3, h4⟩ := firstS_some (k := k + 1) hr
      refine ⟨i + 1, by simp; omega, ?_, ?_, ?_⟩
      · unfold firstS; rw [if_neg hd, h2]; congr 1; omega
      · intro u hu
        rw [List.take_succ_cons] at hu
        rcases List.mem_cons.1 hu with rfl | hu
        · simpa using hd
        · exact h3 u hu
      · intro u hu; exact h4 u (by simpa using hu)
set_option maxHeartbeats 16000000 in
set_option maxRecDepth 100000 in
theorem idxS_ok (kn : Int → Option St3) (ow : List (Int → Bool)) (p : Int) (l : List St3) (D : St3 → Bool) (hl : l.length ≤ 1000000) (hD : ∀ s, Fn Try.prog 122 [.agg (stRow s), .box 0 0, .box 1 0] (clM kn ow p) (.v (.bool (D s))) (clM kn ow p)) :
    Fn Try.prog 131 [.arr 0 0 l.length, .clo 122 [.box 1 0, .box 2 0]] [.arr true 105 3 0 (l.map stRow), .cells [.v (.int .i64 p)], .cells [.box 3 0], baR' kn ow] (.v (.int .i64 (firstS D l 0))) [.arr true 105 3 0 (l.map stRow), .cells [.v (.int .i64 p)], .cells [.box 3 0], baR' kn ow] := by
  unfold clM at hD
  refine fn_of mixed [] [] Try.func131 rfl (by decide +kernel) Try.ntmps131 rfl (congrArg Array.toList Try.results131) rfl (by decide +kernel) ?_
  ((iterate 2 all_goals (try (repeat' (conv => whnf); (first | with_reducible refine And.intro ?_ ?_ | with_reducible exact True.intro | (intro h; (first | cases h | ((try simp only [vis, Int.reduceToNat] at h); (try (exfalso; omega))))) | (with_reducible refine Vc.mk ?_; fail) | (with_reducible refine cutG ?_; fail) | refine idx_map ?_ ?_ | refine idx_mapI ?_ ?_ ?_ | (refine StopAt.mk (by decide) (by decide) ?_) | (refine StopRow.mk _ rfl ?_))))); (all_goals (try omega)); (all_goals (try ((first | with_reducible refine Vc.mk ?_ | refine Vc.mk ?_); (try exact GLt)))); (all_goals (try (exact ⟨by decide, by decide⟩))))
  refine lpG (fun k : Nat => ⟨[(0, .arr 0 0 l.length), (1, .clo 122 [.box 1 0, .box 2 0]), (7, .v (.int .i64 l.length)), (8, .v (.int .i64 k))], [.arr true 105 3 0 (l.map stRow), .cells [.v (.int .i64 p)], .cells [.box 3 0], baR' kn ow]⟩) (fun k => k ≤ l.length ∧ firstS D l 0 = firstS D (l.drop k) k) (fun k => l.length - k) 0 ⟨by omega, rfl⟩ (by (refine le_sub [0, 1, 2, 3] rfl rfl ?_ ?_); all_goals ((repeat' (conv => whnf); (first | with_reducible refine And.intro ?_ ?_ | with_reducible exact True.intro | with_reducible exact Or.inl rfl | (refine Vc.mk ?_; (first | exact rfl | exact ⟨rfl, .inl rfl⟩ | omega | skip)))); all_goals rfl)) ?_
  rintro k ⟨hk, hp⟩
  by_cases hk' : k < l.length
  · have hDk := hD l[k]
    unfold stRow at hDk
    rw [drop_cons hk', show firstS D (l[k] :: l.drop (k + 1)) k = if D l[k] = true then (k : Int) else firstS D (l.drop (k + 1)) (k + 1) from rfl] at hp
    cases hd : D l[k] with
    | true =>
      rw [if_pos hd] at hp
      rw [hd] at hDk
      (iterate 2 all_goals (try (repeat' (conv => whnf); (first | with_reducible refine And.intro ?_ ?_ | with_reducible exact True.intro | (intro h; (first | cases h | ((try simp only [vis, Int.reduceToNat] at h); (try (exfalso; omega))))) | (with_reducible refine Vc.mk ?_; fail) | (with_reducible refine cutG ?_; fail) | refine idx_map ?_ ?_ | refine idx_mapI ?_ ?_ ?_ | (refine StopAt.mk (by omega) (by omega) ?_) | (refine row_map hk' ?_)))))
      all_goals (try omega)
      all_goals (try ((first | with_reducible refine Vc.mk ?_ | refine Vc.mk ?_); (try exact GLt)))
      (refine ⟨_, _, _, _, [1, 2, 3], hDk, rfl, rfl, rfl, ?_, ?_, ?_⟩)
      · (repeat' (conv => whnf); (first | with_reducible refine And.intro ?_ ?_ | with_reducible exact True.intro | with_reducible exact Or.inl rfl | (refine Vc.mk ?_; (first | exact rfl | exact ⟨rfl, .inl rfl⟩ | omega | skip))))
        all_goals rfl
      · (repeat' (conv => whnf); (first | with_reducible refine And.intro ?_ ?_ | with_reducible exact True.intro | with_reducible exact Or.inl rfl | (refine Vc.mk ?_; (first | exact rfl | exact ⟨rfl, .inl rfl⟩ | omega | skip))))
      ((iterate 2 all_goals (try (repeat' (conv => whnf); (first | with_reducible refine And.intro ?_ ?_ | with_reducible exact True.intro | (intro h; (first | cases h | ((try simp only [vis, Int.reduceToNat] at h); (try (exfalso; omega))))) | (with_reducible refine Vc.mk ?_; fail) | (with_reducible refine cutG ?_; fail) | refine idx_map ?_ ?_ | refine idx_mapI ?_ ?_ ?_ | (refine StopAt.mk (by decide) (by decide) ?_) | (refine StopRow.mk _ rfl ?_))))); (all_goals (try omega)); (all_goals (try ((first | with_reducible refine Vc.mk ?_ | refine Vc.mk ?_); (try exact GLt)))); (all_goals (try (exact ⟨by decide, by decide⟩))))
      ((try (conv => whnf)); refine ⟨[0, 1, 2, 3], rfl, rfl, ?_, ?_⟩); (repeat' (conv => whnf); (first | with_reducible refine And.intro ?_ ?_ | with_reducible exact True.intro | with_reducible exact Or.inl rfl | (refine Vc.mk ?_; (first | exact rfl | exact ⟨rfl, .inl rfl⟩ | omega | skip))))
      all_goals (first | rfl | exact hp.symm)
    | false =>
      rw [if_neg (by rw [hd]; decide)] at hp
      rw [hd] at hDk
      (iterate 2 all_goals (try (repeat' (conv => whnf); (first | with_reducible refine And.intro ?_ ?_ | with_reducible exact True.intro | (intro h; (first | cases h | ((try simp only [vis, Int.reduceToNat] at h); (try (exfalso; omega))))) | (with_reducible refine Vc.mk ?_; fail) | (with_reducible refine cutG ?_; fail) | refine idx_map ?_ ?_ | refine idx_mapI ?_ ?_ ?_ | (refine StopAt.mk (by omega) (by omega) ?_) | (refine row_map hk' ?_)))))
      all_goals (try omega)
      all_goals (try ((first | with_reducible refine Vc.mk ?_ | refine Vc.mk ?_); (try exact GLt)))
      (refine ⟨_, _, _, _, [1, 2, 3], hDk, rfl, rfl, rfl, ?_, ?_, ?_⟩)
      · (repeat' (conv => whnf); (first | with_reducible refine And.intro ?_ ?_ | with_reducible exact True.intro | with_reducible exact Or.inl rfl | (refine Vc.mk ?_; (first | exact rfl | exact ⟨rfl, .inl rfl⟩ | omega | skip))))
        all_goals rfl
      · (repeat' (conv => whnf); (first | with_reducible refine And.intro ?_ ?_ | with_reducible exact True.intro | with_reducible exact Or.inl rfl | (refine Vc.mk ?_; (first | exact rfl | exact ⟨rfl, .inl rfl⟩ | omega | skip))))
      ((iterate 2 all_goals (try (repeat' (conv => whnf); (first | with_reducible refine And.intro ?_ ?_ | with_reducible exact True.intro | (intro h; (first | cases h | ((try simp only [vis, Int.reduceToNat] at h); (try (exfalso; omega))))) | (with_reducible refine Vc.mk ?_; fail) | (with_reducible refine cutG ?_; fail) | refine idx_map ?_ ?_ | refine idx_mapI ?_ ?_ ?_ | (refine StopAt.mk (by decide) (by decide) ?_) | (refine StopRow.mk _ rfl ?_))))); (all_goals (try omega)); (all_goals (try ((first | with_reducible refine Vc.mk ?_ | refine Vc.mk ?_); (try exact GLt)))); (all_goals (try (exact ⟨by decide, by decide⟩))))
      refine nextG (k + 1) ⟨by omega, hp⟩ (by omega) (by (refine le_sub [0, 1, 2, 3] rfl rfl ?_ ?_); all_goals ((repeat' (conv => whnf); (first | with_reducible refine And.intro ?_ ?_ | with_reducible exact True.intro | with_reducible exact Or.inl rfl | (refine Vc.mk ?_; (first | exact rfl | exact ⟨rfl, .inl rfl⟩ | omega | skip)))); all_goals rfl))
  · have ek : k = l.length := by omega
    subst ek
    ((iterate 2 all_goals (try (repeat' (conv => whnf); (first | with_reducible refine And.intro ?_ ?_ | with_reducible exact True.intro | (intro h; (first | cases h | ((try simp only [vis, Int.reduceToNat] at h); (try (exfalso; omega))))) | (with_reducible refine Vc.mk ?_; fail) | (with_reducible refine cutG ?_; fail) | refine idx_map ?_ ?_ | refine idx_mapI ?_ ?_ ?_ | (refine StopAt.mk (by decide) (by decide) ?_) | (refine StopRow.mk _ rfl ?_))))); (all_goals (try omega)); (all_goals (try ((first | with_reducible refine Vc.mk ?_ | refine Vc.mk ?_); (try exact GLt)))); (all_goals (try (exact ⟨by decide, by decide⟩))))
    ((try (conv => whnf)); refine ⟨[0, 1, 2, 3], rfl, rfl, ?_, ?_⟩); (repeat' (conv => whnf); (first | with_reducible refine And.intro ?_ ?_ | with_reducible exact True.intro | with_reducible exact Or.inl rfl | (refine Vc.mk ?_; (first | exact rfl | exact ⟨rfl, .inl rfl⟩ | omega | skip))))
    all_goals (first | rfl | (rw [hp]; simp [firstS]))
/-- Of the first j rows those that are kept. -/
def kc (K : St3 → Bool) (l : List St3) (j : Nat) : Nat := ((l.take j).filter K).length
structure KInv (K : St3 → Bool) (l l' : List St3) (j : Nat) : Prop where
  len : l'.length = l.length
  lt : kc K l j < j
  jle : j ≤ l.length
  low : l'.take (kc K l j) = (l.take j).filter K
  high : l'.drop j = l.drop j
theorem KInv.at {K : St3 → Bool} {l l' : List St3} {j : Nat} (h : KInv K l l' j) (hj : j < l.length) : ∃ h' : j < l'.length, l'[j] = l[j] := by
  refine ⟨by rw [h.len]; exact hj, ?_⟩
  have e := h.high
  rw [drop_cons (by rw [h.len]; exact hj), drop_cons hj] at e
  exact (List.cons.inj e).1
theorem KInv.skip {K : St3 → Bool} {l l' : List St3} {j : Nat} (h : KInv K l l' j) (hj : j < l.length) (hk : K l[j] = false) : KInv K l l' (j + 1) ∧ kc K l (j + 1) = kc K l j := by
  have hf : (l.take (j + 1)).filter K = (l.take j).filter K := by rw [take_succ' hj, List.filter_append]; simp [hk]
  have hc : kc K l (j + 1) = kc K l j := by unfold kc; rw [hf]
  refine ⟨⟨h.len, by rw [hc]; have := h.lt; omega, hj, by rw [hc, hf]; exact h.low, ?_⟩, hc⟩
  have e := h.high
  rw [drop_cons (by rw [h.len]; exact hj), drop_cons hj] at e
  exact (List.cons.inj e).2
theorem KInv.keep {K : St3 → Bool} {l l' : List St3} {j : Nat} (h : KInv K l l' j) (hj : j < l.length) (hk : K l[j] = true) : KInv K l (l'.set (kc K l j) l[j]) (j + 1) ∧ kc K l (j + 1) = kc K l j + 1 := by
  have hf : (l.take (j + 1)).filter K = (l.take j).filter K ++ [l[j]] := by rw [take_succ' hj, List.filter_append]; simp [hk]
  have hc : kc K l (j + 1) = kc K l j + 1 := by unfold kc; rw [hf]; simp
  have hlt := h.lt
  have hl := h.len
  refine ⟨⟨by rw [List.length_set]; exact hl, by rw [hc]; omega, hj, ?_, ?_⟩, hc⟩
  · rw [hc, hf, take_succ' (by rw [List.length_set]; omega), List.getElem_set_self, List.take_set_of_le (Nat.le_refl _), h.low]
  · rw [List.drop_set_of_lt (by omega)]
    have e := h.high
    rw [drop_cons (by omega), drop_cons hj] at e
    exact (List.cons.inj e).2
theorem KInv.start {K : St3 → Bool} {l : List St3} {i : Nat} (hi : i < l.length) (h : ∀ s ∈ l.take i, K s = true) (hd : K l[i] = false) : KInv K l l (i + 1) ∧ kc K l (i + 1) = i := by
  have hf0 : (l.take i).filter K = l.take i := List.filter_eq_self.2 h
  have hf : (l.take (i + 1)).filter K = l.take i := by rw [take_succ' hi, List.filter_append, hf0]; simp [hd]
  have hc : kc K l (i + 1) = i := by unfold kc; rw [hf, List.length_take]; omega
  exact ⟨⟨rfl, by rw [hc]; omega, hi, by rw [hc, hf], rfl⟩, hc⟩
def zRow : List AV := [.v (.int .i64 0), .v (.int .i64 0), .v (.slice none 0 0)]
theorem KInv.done {K : St3 → Bool} {l l' : List St3} (h : KInv K l l' l.length) : (l'.map stRow).take (kc K l l.length) ++ List.replicate (l.length - kc K l l.length) zRow ++ (l'.map stRow).drop l.length = (l.filter K).map stRow ++ List.replicate (l.length - (l.filter K).length) zRow := by
  have h1 := h.low
  have hc : kc K l l.length = (l.filter K).length := by unfold kc; rw [List.take_length]
  rw [← List.map_take, h1, List.take_length, hc, List.drop_eq_nil_of_le (by rw [List.length_map, h.len]; exact Nat.le_refl _), List.append_nil]
set_option maxHeartbeats 16000000 in
set_option maxRecDepth 100000 in
theorem delS_ok (kn : Int → Option St3) (ow : List (Int → Bool)) (p : Int) (l : List St3) (K : St3 → Bool) (hl : l.length ≤ 1000000) (hD : ∀ s, Fn Try.prog 122 [.agg (stRow s), .box 0 0, .box 1 0] (clM kn ow p) (.v (.bool (!K s))) (clM kn ow p)) :
    Fn Try.prog 121 [.arr 0 0 l.length, .clo 122 [.box 1 0, .box 2 0]] [.arr true 105 3 0 (l.map stRow), .cells [.v (.int .i64 p)], .cells [.box 3 0], baR' kn ow] (.arr 0 0 (l.filter K).length) [.arr true 105 3 0 ((l.filter K).map stRow ++ List.replicate (l.length - (l.filter K).length) zRow), .cells [.v (.int .i64 p)], .cells [.box 3 0], baR' kn ow] := by
  have hidx := idxS_ok kn ow p l (fun s => !K s) hl hD
  unfold clM at hD
  by_cases hall : ∀ s ∈ l, K s = true
  · rw [firstS_none (fun s hs => by simp [hall s hs])] at hidx
    have hf : l.filter K = l := List.filter_eq_self.2 hall
    rw [hf]
    refine fn_of mixed [] [] Try.func121 rfl (by decide +kernel) Try.ntmps121 rfl (congrArg Array.toList Try.results121) rfl (by decide +kernel) ?_
    ((iterate 2 all_goals (try (repeat' (conv => whnf); (first | with_reducible refine And.intro ?_ ?_ | with_reducible exact True.intro | (intro h; (first | cases h | ((try simp only [vis, Int.reduceToNat] at h); (try (exfalso; omega))))) | (with_reducible refine Vc.mk ?_; fail) | (with_reducible refine cutG ?_; fail) | refine idx_map ?_ ?_ | refine idx_mapI ?_ ?_ ?_ | (refine StopAt.mk (by decide) (by decide) ?_) | (refine StopRow.mk _ rfl ?_))))); (all_goals (try omega)); (all_goals (try ((first | with_reducible refine Vc.mk ?_ | refine Vc.mk ?_); (try exact GLt)))); (all_goals (try (exact ⟨by decide, by decide⟩))))
    (refine ⟨_, _, _, _, [0, 1, 2, 3], hidx, rfl, rfl, rfl, ?_, ?_, ?_⟩)
    · (repeat' (conv => whnf); (first | with_reducible refine And.intro ?_ ?_ | with_reducible exact True.intro | with_reducible exact Or.inl rfl | (refine Vc.mk ?_; (first | exact rfl | exact ⟨rfl, .inl rfl⟩ | omega | skip))))
      all_goals rfl
    · (repeat' (conv => whnf); (first | with_reducible refine And.intro ?_ ?_ | with_reducible exact True.intro | with_reducible exact Or.inl rfl | (refine Vc.mk ?_; (first | exact rfl | exact ⟨rfl, .inl rfl⟩ | omega | skip))))
      all_goals rfl
    ((iterate 2 all_goals (try (repeat' (conv => whnf); (first | with_reducible refine And.intro ?_ ?_ | with_reducible exact True.intro | (intro h; (first | cases h | ((try simp only [vis, Int.reduceToNat] at h); (try (exfalso; omega))))) | (with_reducible refine Vc.mk ?_; fail) | (with_reducible refine cutG ?_; fail) | refine idx_map ?_ ?_ | refine idx_mapI ?_ ?_ ?_ | (refine StopAt.mk (by decide) (by decide) ?_) | (refine StopRow.mk _ rfl ?_))))); (all_goals (try omega)); (all_goals (try ((first | with_reducible refine Vc.mk ?_ | refine Vc.mk ?_); (try exact GLt)))); (all_goals (try (exact ⟨by decide, by decide⟩))))
    ((try (conv => whnf)); refine ⟨[0, 1, 2, 3], rfl, rfl, ?_, ?_⟩); (repeat' (conv => whnf); (first | with_reducible refine And.intro ?_ ?_ | with_reducible exact True.intro | with_reducible exact Or.inl rfl | (refine Vc.mk ?_; (first | exact rfl | exact ⟨rfl, .inl rfl⟩ | omega | skip))))
    all_goals (first | rfl | (simp; done))
  · have hex : ∃ s ∈ l, (!K s) = true := by
      obtain ⟨s, hs⟩ := Classical.not_forall.1 hall
      obtain ⟨h1, h2⟩ := Classical.not_imp.1 hs
      exact ⟨s, h1, by simpa using h2⟩
    obtain ⟨i0, hi0, hfs, hbef, hat⟩ := firstS_some (k := 0) hex
    rw [hfs, Nat.zero_add] at hidx
    have hkd : K l[i0] = false := by have := hat l[i0] (List.getElem?_eq_getElem hi0); simpa using this
    have hstart := KInv.start (K := K) hi0 (fun s hs => by simpa using hbef s hs) hkd
    clear hfs hbef hat hex hall
    refine fn_of mixed [] [] Try.func121 rfl (by decide +kernel) Try.ntmps121 rfl (congrArg Array.toList Try.results121) rfl (by decide +kernel) ?_
    ((iterate 2 all_goals (try (repeat' (conv => whnf); (first | with_reducible refine And.intro ?_ ?_ | with_reducible exact True.intro | (intro h; (first | cases h | ((try simp only [vis, Int.reduceToNat] at h); (try (exfalso; omega))))) | (with_reducible refine Vc.mk ?_; fail) | (with_reducible refine cutG ?_; fail) | refine idx_map ?_ ?_ | refine idx_mapI ?_ ?_ ?_ | (refine StopAt.mk (by decide) (by decide) ?_) | (refine StopRow.mk _ rfl ?_))))); (all_goals (try omega)); (all_goals (try ((first | with_reducible refine Vc.mk ?_ | refine Vc.mk ?_); (try exact GLt)))); (all_goals (try (exact ⟨by decide, by decide⟩))))
    (refine ⟨_, _, _, _, [0, 1, 2, 3], hidx, rfl, rfl, rfl, ?_, ?_, ?_⟩)
    · (repeat' (conv => whnf); (first | with_reducible refine And.intro ?_ ?_ | with_reducible exact True.intro | with_reducible exact Or.inl rfl | (refine Vc.mk ?_; (first | exact rfl | exact ⟨rfl, .inl rfl⟩ | omega | skip))))
      all_goals rfl
    · (repeat' (conv => whnf); (first | with_reducible refine And.intro ?_ ?_ | with_reducible exact True.intro | with_reducible exact Or.inl rfl | (refine Vc.mk ?_; (first | exact rfl | exact ⟨rfl, .inl rfl⟩ | omega | skip))))
      all_goals rfl
    ((iterate 2 all_goals (try (repeat' (conv => whnf); (first | with_reducible refine And.intro ?_ ?_ | with_reducible exact True.intro | (intro h; (first | cases h | ((try simp only [vis, Int.reduceToNat] at h); (try (exfalso; omega))))) | (with_reducible refine Vc.mk ?_; fail) | (with_reducible refine cutG ?_; fail) | refine idx_map ?_ ?_ | refine idx_mapI ?_ ?_ ?_ | (refine StopAt.mk (by decide) (by decide) ?_) | (refine StopRow.mk _ rfl ?_))))); (all_goals (try omega)); (all_goals (try ((first | with_reducible refine Vc.mk ?_ | refine Vc.mk ?_); (try exact GLt)))); (all_goals (try (exact ⟨by decide, by decide⟩))))
    refine lpG2 (fun (j : Nat) (l' : List St3) => ⟨[(0, .arr 0 0 l.length), (1, .clo 122 [.box 1 0, .box 2 0]), (5, .v (.int .i64 (kc K l j))), (6, .v (.int .i64 j))], [.arr true 105 3 0 (l'.map stRow), .cells [.v (.int .i64 p)], .cells [.box 3 0], baR' kn ow]⟩) (fun j l' => KInv K l l' j) (fun j l' => l.length - j) (i0 + 1) l hstart.1 (by rw [hstart.2]; (refine le_sub [0, 1, 2, 3] rfl rfl ?_ ?_); all_goals ((repeat' (conv => whnf); (first | with_reducible refine And.intro ?_ ?_ | with_reducible exact True.intro | with_reducible exact Or.inl rfl | (refine Vc.mk ?_; (first | exact rfl | exact ⟨rfl, .inl rfl⟩ | omega | skip)))); all_goals rfl)) ?_
    intro j l' hI
    have hjle := hI.jle
    have hlt := hI.lt
    have hlen := hI.len
    by_cases hj : j < l.length
    · obtain ⟨hj', hat⟩ := hI.at hj
      have hDk := hD l[j]
      unfold stRow at hDk
      rw [← hat] at hDk
      cases hk : K l[j] with
      | true =>
        have hn := hI.keep hj hk
        rw [← hat] at hk
        rw [hk] at hDk
        have hset : (l'.map stRow).set (kc K l j) (stRow l'[j]) = (l'.set (kc K l j) l[j]).map stRow := by rw [List.map_set, hat]
        unfold stRow at hset
        have hki : kc K l j < l'.length := by omega
        (iterate 2 all_goals (try (repeat' (conv => whnf); (first | with_reducible refine And.intro ?_ ?_ | with_reducible exact True.intro | (intro h; (first | cases h | ((try simp only [vis, Int.reduceToNat] at h); (try (exfalso; omega))))) | (with_reducible refine Vc.mk ?_; fail) | (with_reducible refine cutG ?_; fail) | refine idx_map ?_ ?_ | refine idx_mapI ?_ ?_ ?_ | (refine StopAt.mk (by omega) (by omega) ?_) | (refine row_map (k := j) hj' ?_) | (refine row_map (k := kc K l j) hki ?_)))))
        all_goals (try omega)
        all_goals (try ((first | with_reducible refine Vc.mk ?_ | refine Vc.mk ?_); (try exact GLt)))
        (refine ⟨_, _, _, _, [1, 2, 3], hDk, rfl, rfl, rfl, ?_, ?_, ?_⟩)
        · (repeat' (conv => whnf); (first | with_reducible refine And.intro ?_ ?_ | with_reducible exact True.intro | with_reducible exact Or.inl rfl | (refine Vc.mk ?_; (first | exact rfl | exact ⟨rfl, .inl rfl⟩ | omega | skip))))
          all_goals rfl
        · (repeat' (conv => whnf); (first | with_reducible refine And.intro ?_ ?_ | with_reducible exact True.intro | with_reducible exact Or.inl rfl | (refine Vc.mk ?_; (first | exact rfl | exact ⟨rfl, .inl rfl⟩ | omega | skip))))
        (iterate 2 all_goals (try (repeat' (conv => whnf); (first | with_reducible refine And.intro ?_ ?_ | with_reducible exact True.intro | (intro h; (first | cases h | ((try simp only [vis, Int.reduceToNat] at h); (try (exfalso; omega))))) | (with_reducible refine Vc.mk ?_; fail) | (with_reducible refine cutG ?_; fail) | refine idx_map ?_ ?_ | refine idx_mapI ?_ ?_ ?_ | (refine StopAt.mk (by omega) (by omega) ?_) | (refine row_map (k := kc K l j) hki ?_)))))
        all_goals (try omega)
        all_goals (try ((first | with_reducible refine Vc.mk ?_ | refine Vc.mk ?_); (try exact GLt)))
        refine nextG2 (j + 1) (l'.set (kc K l j) l[j]) hn.1 (by omega) (by rw [hn.2]; (refine le_sub [0, 1, 2, 3] rfl rfl ?_ ?_); all_goals ((repeat' (conv => whnf); (first | with_reducible refine And.intro ?_ ?_ | with_reducible exact True.intro | with_reducible exact Or.inl rfl | (refine Vc.mk ?_; (first | exact rfl | exact ⟨rfl, .inl rfl⟩ | omega | skip)))); all_goals (first | rfl | exact hset)))
      | false =>
        have hn := hI.skip hj hk
        rw [← hat] at hk
        rw [hk] at hDk
        (iterate 2 all_goals (try (repeat' (conv => whnf); (first | with_reducible refine And.intro ?_ ?_ | with_reducible exact True.intro | (intro h; (first | cases h | ((try simp only [vis, Int.reduceToNat] at h); (try (exfalso; omega))))) | (with_reducible refine Vc.mk ?_; fail) | (with_reducible refine cutG ?_; fail) | refine idx_map ?_ ?_ | refine idx_mapI ?_ ?_ ?_ | (refine StopAt.mk (by omega) (by omega) ?_) | (refine row_map (k := j) hj' ?_)))))
        all_goals (try omega)
        all_goals (try ((first | with_reducible refine Vc.mk ?_ | refine Vc.mk ?_); (try exact GLt)))
        (refine ⟨_, _, _, _, [1, 2, 3], hDk, rfl, rfl, rfl, ?_, ?_, ?_⟩)
        · (repeat' (conv => whnf); (first | with_reducible refine And.intro ?_ ?_ | with_reducible exact True.intro | with_reducible exact Or.inl rfl | (refine Vc.mk ?_; (first | exact rfl | exact ⟨rfl, .inl rfl⟩ | omega | skip))))
          all_goals rfl
        · (repeat' (conv => whnf); (first | with_reducible refine And.intro ?_ ?_ | with_reducible exact True.intro | with_reducible exact Or.inl rfl | (refine Vc.mk ?_; (first | exact rfl | exact ⟨rfl, .inl rfl⟩ | omega | skip))))
        ((iterate 2 all_goals (try (repeat' (conv => whnf); (first | with_reducible refine And.intro ?_ ?_ | with_reducible exact True.intro | (intro h; (first | cases h | ((try simp only [vis, Int.reduceToNat] at h); (try (exfalso; omega))))) | (with_reducible refine Vc.mk ?_; fail) | (with_reducible refine cutG ?_; fail) | refine idx_map ?_ ?_ | refine idx_mapI ?_ ?_ ?_ | (refine StopAt.mk (by decide) (by decide) ?_) | (refine StopRow.mk _ rfl ?_))))); (all_goals (try omega)); (all_goals (try ((first | with_reducible refine Vc.mk ?_ | refine Vc.mk ?_); (try exact GLt)))); (all_goals (try (exact ⟨by decide, by decide⟩))))
        refine nextG2 (j + 1) l' hn.1 (by omega) (by rw [hn.2]; (refine le_sub [0, 1, 2, 3] rfl rfl ?_ ?_); all_goals ((repeat' (conv => whnf); (first | with_reducible refine And.intro ?_ ?_ | with_reducible exact True.intro | with_reducible exact Or.inl rfl | (refine Vc.mk ?_; (first | exact rfl | exact ⟨rfl, .inl rfl⟩ | omega | skip)))); all_goals rfl))
    · have ej : j = l.length := by omega
      subst ej
      have hd := hI.done
      have hc : kc K l l.length = (l.filter K).length := by unfold kc; rw [List.take_length]
      rw [hc] at hd hlt ⊢
      unfold zRow at hd ⊢
      ((iterate 2 all_goals (try (repeat' (conv => whnf); (first | with_reducible refine And.intro ?_ ?_ | with_reducible exact True.intro | (intro h; (first | cases h | ((try simp only [vis, Int.reduceToNat] at h); (try (exfalso; omega))))) | (with_reducible refine Vc.mk ?_; fail) | (with_reducible refine cutG ?_; fail) | refine idx_map ?_ ?_ | refine idx_mapI ?_ ?_ ?_ | (refine StopAt.mk (by decide) (by decide) ?_) | (refine StopRow.mk _ rfl ?_))))); (all_goals (try omega)); (all_goals (try ((first | with_reducible refine Vc.mk ?_ | refine Vc.mk ?_); (try exact GLt)))); (all_goals (try (exact ⟨by decide, by decide⟩))))
      ((try (conv => whnf)); refine ⟨[0, 1, 2, 3], rfl, rfl, ?_, ?_⟩); (repeat' (conv => whnf); (first | with_reducible refine And.intro ?_ ?_ | with_reducible exact True.intro | with_reducible exact Or.inl rfl | (refine Vc.mk ?_; (first | exact rfl | exact ⟨rfl, .inl rfl⟩ | omega | skip))))
      all_goals (first | rfl | exact hd)
end Go.Proofs.Ytimfnpjcedjmiaa
