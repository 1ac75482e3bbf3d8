/-
  The statement Names: the numbers and the errors of package api are those of the document.
-/
import Derived.Test.YtimfnpjcedjmiaaDoorGE
namespace Go.Proofs.YtimfnpjcedjmiaaDoor
open Go.RowKit
set_option linter.unusedSimpArgs false
set_option linter.unusedVariables false
theorem small_ok : Fn Tryd.prog 10 [.v (.int .i64 8)] [] (.v (.string ⟨#[56]⟩)) [] := by
  refine fn_of mixed [] [] Tryd.func10 rfl (by decide +kernel) Tryd.ntmps10 rfl (congrArg Array.toList Tryd.results10) rfl (by decide +kernel) ?_
  (iterate 2 all_goals (try (repeat' (conv => whnf); (first | (with_reducible refine And.intro ?_ ?_) | (with_reducible exact True.intro) | (intro h; (first | (cases h) | ((first | (simp only [vis, Int.reduceToNat] at h) | skip); (try (exfalso; omega))))) | (with_reducible refine Vc.mk ?_; fail) | (with_reducible refine cutG ?_; fail) | (refine idx_map ?_ ?_) | (refine idx_mapI ?_ ?_ ?_) ))))
  all_goals (try (first | (exact GLt) | (refine Vc.mk ?_)))
  all_goals (((try (conv => whnf)); refine ⟨[], rfl, rfl, ?_, ?_⟩); (repeat' (conv => whnf); (first | (with_reducible refine And.intro ?_ ?_) | (with_reducible exact True.intro) | (with_reducible exact Or.inl rfl) | (refine Vc.mk ?_; (first | (exact rfl) | (exact ⟨rfl, .inl rfl⟩) | omega | skip)))))
theorem formatInt_ok : Fn Tryd.prog 9 [.v (.int .i64 8), .v (.int .i64 10)] [] (.v (.string ⟨#[56]⟩)) [] := by
  have h := small_ok
  refine fn_of mixed [] [] Tryd.func9 rfl (by decide +kernel) Tryd.ntmps9 rfl (congrArg Array.toList Tryd.results9) rfl (by decide +kernel) ?_
  (iterate 2 all_goals (try (repeat' (conv => whnf); (first | (with_reducible refine And.intro ?_ ?_) | (with_reducible exact True.intro) | (intro h; (first | (cases h) | ((first | (simp only [vis, Int.reduceToNat] at h) | skip); (try (exfalso; omega))))) | (with_reducible refine Vc.mk ?_; fail) | (with_reducible refine cutG ?_; fail) | (refine idx_map ?_ ?_) | (refine idx_mapI ?_ ?_ ?_) ))))
  all_goals (try (first | (exact GLt) | (refine Vc.mk ?_)))
  (all_goals (try ((first | (refine call0 (h) ?_ ?_) | (refine pure0 (h) rfl ?_ ?_)); (· (repeat' (conv => whnf); (first | (with_reducible refine And.intro ?_ ?_) | (with_reducible exact True.intro) | (with_reducible exact Or.inl rfl) | (refine Vc.mk ?_; (first | (exact rfl) | (exact ⟨rfl, .inl rfl⟩) | omega | skip))))); (iterate 2 all_goals (try (repeat' (conv => whnf); (first | (with_reducible refine And.intro ?_ ?_) | (with_reducible exact True.intro) | (intro h; (first | (cases h) | ((first | (simp only [vis, Int.reduceToNat] at h) | skip); (try (exfalso; omega))))) | (with_reducible refine Vc.mk ?_; fail) | (with_reducible refine cutG ?_; fail) | (refine idx_map ?_ ?_) | (refine idx_mapI ?_ ?_ ?_) )))))))
  all_goals (((try (conv => whnf)); refine ⟨[], rfl, rfl, ?_, ?_⟩); (repeat' (conv => whnf); (first | (with_reducible refine And.intro ?_ ?_) | (with_reducible exact True.intro) | (with_reducible exact Or.inl rfl) | (refine Vc.mk ?_; (first | (exact rfl) | (exact ⟨rfl, .inl rfl⟩) | omega | skip)))))
theorem iitoa_ok : Fn Tryd.prog 8 [.v (.int .i64 8)] [] (.v (.string ⟨#[56]⟩)) [] := by
  have h := formatInt_ok
  refine fn_of mixed [] [] Tryd.func8 rfl (by decide +kernel) Tryd.ntmps8 rfl (congrArg Array.toList Tryd.results8) rfl (by decide +kernel) ?_
  (iterate 2 all_goals (try (repeat' (conv => whnf); (first | (with_reducible refine And.intro ?_ ?_) | (with_reducible exact True.intro) | (intro h; (first | (cases h) | ((first | (simp only [vis, Int.reduceToNat] at h) | skip); (try (exfalso; omega))))) | (with_reducible refine Vc.mk ?_; fail) | (with_reducible refine cutG ?_; fail) | (refine idx_map ?_ ?_) | (refine idx_mapI ?_ ?_ ?_) ))))
  all_goals (try (first | (exact GLt) | (refine Vc.mk ?_)))
  (all_goals (try ((first | (refine call0 (h) ?_ ?_) | (refine pure0 (h) rfl ?_ ?_)); (· (repeat' (conv => whnf); (first | (with_reducible refine And.intro ?_ ?_) | (with_reducible exact True.intro) | (with_reducible exact Or.inl rfl) | (refine Vc.mk ?_; (first | (exact rfl) | (exact ⟨rfl, .inl rfl⟩) | omega | skip))))); (iterate 2 all_goals (try (repeat' (conv => whnf); (first | (with_reducible refine And.intro ?_ ?_) | (with_reducible exact True.intro) | (intro h; (first | (cases h) | ((first | (simp only [vis, Int.reduceToNat] at h) | skip); (try (exfalso; omega))))) | (with_reducible refine Vc.mk ?_; fail) | (with_reducible refine cutG ?_; fail) | (refine idx_map ?_ ?_) | (refine idx_mapI ?_ ?_ ?_) )))))))
  all_goals (((try (conv => whnf)); refine ⟨[], rfl, rfl, ?_, ?_⟩); (repeat' (conv => whnf); (first | (with_reducible refine And.intro ?_ ?_) | (with_reducible exact True.intro) | (with_reducible exact Or.inl rfl) | (refine Vc.mk ?_; (first | (exact rfl) | (exact ⟨rfl, .inl rfl⟩) | omega | skip)))))
theorem itoa_ok : Fn Tryd.prog 7 [.v (.int .i64 8)] [] (.v (.string ⟨#[56]⟩)) [] := by
  have h := iitoa_ok
  refine fn_of mixed [] [] Tryd.func7 rfl (by decide +kernel) Tryd.ntmps7 rfl (congrArg Array.toList Tryd.results7) rfl (by decide +kernel) ?_
  (iterate 2 all_goals (try (repeat' (conv => whnf); (first | (with_reducible refine And.intro ?_ ?_) | (with_reducible exact True.intro) | (intro h; (first | (cases h) | ((first | (simp only [vis, Int.reduceToNat] at h) | skip); (try (exfalso; omega))))) | (with_reducible refine Vc.mk ?_; fail) | (with_reducible refine cutG ?_; fail) | (refine idx_map ?_ ?_) | (refine idx_mapI ?_ ?_ ?_) ))))
  all_goals (try (first | (exact GLt) | (refine Vc.mk ?_)))
  (all_goals (try ((first | (refine call0 (h) ?_ ?_) | (refine pure0 (h) rfl ?_ ?_)); (· (repeat' (conv => whnf); (first | (with_reducible refine And.intro ?_ ?_) | (with_reducible exact True.intro) | (with_reducible exact Or.inl rfl) | (refine Vc.mk ?_; (first | (exact rfl) | (exact ⟨rfl, .inl rfl⟩) | omega | skip))))); (iterate 2 all_goals (try (repeat' (conv => whnf); (first | (with_reducible refine And.intro ?_ ?_) | (with_reducible exact True.intro) | (intro h; (first | (cases h) | ((first | (simp only [vis, Int.reduceToNat] at h) | skip); (try (exfalso; omega))))) | (with_reducible refine Vc.mk ?_; fail) | (with_reducible refine cutG ?_; fail) | (refine idx_map ?_ ?_) | (refine idx_mapI ?_ ?_ ?_) )))))))
  all_goals (((try (conv => whnf)); refine ⟨[], rfl, rfl, ?_, ?_⟩); (repeat' (conv => whnf); (first | (with_reducible refine And.intro ?_ ?_) | (with_reducible exact True.intro) | (with_reducible exact Or.inl rfl) | (refine Vc.mk ?_; (first | (exact rfl) | (exact ⟨rfl, .inl rfl⟩) | omega | skip)))))
theorem errE_ok : Fn Tryd.prog 6 [.v (.int .i64 8)] [] (.v (.string ⟨#[116, 111, 119, 112, 97, 116, 104, 58, 32, 101, 114, 114, 111, 114, 32, 56]⟩)) [] := by
  have h := itoa_ok
  refine fn_of mixed [] [] Tryd.func6 rfl (by decide +kernel) Tryd.ntmps6 rfl (congrArg Array.toList Tryd.results6) rfl (by decide +kernel) ?_
  (iterate 2 all_goals (try (repeat' (conv => whnf); (first | (with_reducible refine And.intro ?_ ?_) | (with_reducible exact True.intro) | (intro h; (first | (cases h) | ((first | (simp only [vis, Int.reduceToNat] at h) | skip); (try (exfalso; omega))))) | (with_reducible refine Vc.mk ?_; fail) | (with_reducible refine cutG ?_; fail) | (refine idx_map ?_ ?_) | (refine idx_mapI ?_ ?_ ?_) ))))
  all_goals (try (first | (exact GLt) | (refine Vc.mk ?_)))
  (all_goals (try ((first | (refine call0 (h) ?_ ?_) | (refine pure0 (h) rfl ?_ ?_)); (· (repeat' (conv => whnf); (first | (with_reducible refine And.intro ?_ ?_) | (with_reducible exact True.intro) | (with_reducible exact Or.inl rfl) | (refine Vc.mk ?_; (first | (exact rfl) | (exact ⟨rfl, .inl rfl⟩) | omega | skip))))); (iterate 2 all_goals (try (repeat' (conv => whnf); (first | (with_reducible refine And.intro ?_ ?_) | (with_reducible exact True.intro) | (intro h; (first | (cases h) | ((first | (simp only [vis, Int.reduceToNat] at h) | skip); (try (exfalso; omega))))) | (with_reducible refine Vc.mk ?_; fail) | (with_reducible refine cutG ?_; fail) | (refine idx_map ?_ ?_) | (refine idx_mapI ?_ ?_ ?_) )))))))
  all_goals (try (refine Vc.mk ?_; decide))
  all_goals (((try (conv => whnf)); refine ⟨[], rfl, rfl, ?_, ?_⟩); (repeat' (conv => whnf); (first | (with_reducible refine And.intro ?_ ?_) | (with_reducible exact True.intro) | (with_reducible exact Or.inl rfl) | (refine Vc.mk ?_; (first | (exact rfl) | (exact ⟨rfl, .inl rfl⟩) | omega | skip)))))
set_option maxHeartbeats 4000000 in
set_option maxRecDepth 100000 in
theorem sameNumbers_ok (l : List Int) (hl : l.length ≤ 1000) : Fn Tryd.prog 5 [.sl 1 (l.map iRow) none, .sl 1 (l.map iRow) none] [] (.v (.bool true)) [] := by
  refine fn_of mixed [] [] Tryd.func5 rfl (by decide +kernel) Tryd.ntmps5 rfl (congrArg Array.toList Tryd.results5) rfl (by decide +kernel) ?_
  (iterate 2 all_goals (try (repeat' (conv => whnf); (first | (with_reducible refine And.intro ?_ ?_) | (with_reducible exact True.intro) | (intro h; (first | (cases h) | ((first | (simp only [vis, Int.reduceToNat] at h) | skip); (try (exfalso; omega))))) | (with_reducible refine Vc.mk ?_; fail) | (with_reducible refine cutG ?_; fail) | (refine idx_map ?_ ?_) | (refine idx_mapI ?_ ?_ ?_) ))))
  all_goals (try (exfalso; simp at h; done))
  refine lpG (fun k : Nat => ⟨[(0, .sl 1 (l.map iRow) none), (1, .sl 1 (l.map iRow) none), (5, .v (.int .i64 k))], []⟩) (fun k => k ≤ l.length) (fun k => l.length - k) 0 (by omega) (by (refine le_sub [] rfl rfl ?_ ?_); all_goals ((repeat' (conv => whnf); (first | (with_reducible refine And.intro ?_ ?_) | (with_reducible exact True.intro) | (with_reducible exact Or.inl rfl) | (refine Vc.mk ?_; (first | (exact rfl) | (exact ⟨rfl, .inl rfl⟩) | omega | skip)))); all_goals (try rfl))) ?_
  rintro k hk
  (iterate 2 all_goals (try (repeat' (conv => whnf); (first | (with_reducible refine And.intro ?_ ?_) | (with_reducible exact True.intro) | (intro h; (first | (cases h) | ((first | (simp only [vis, Int.reduceToNat] at h) | skip); (try (exfalso; omega))))) | (with_reducible refine Vc.mk ?_; fail) | (with_reducible refine cutG ?_; fail) | (refine idx_map ?_ ?_) | (refine idx_mapI ?_ ?_ ?_) ))))
  all_goals (try omega)
  all_goals (try (first | (exact GLt) | (refine Vc.mk ?_)))
  all_goals (try (exfalso; simp at h; done))
  · refine nextG (k + 1) (by omega) (by omega) (by (refine le_sub [] rfl rfl ?_ ?_); all_goals ((repeat' (conv => whnf); (first | (with_reducible refine And.intro ?_ ?_) | (with_reducible exact True.intro) | (with_reducible exact Or.inl rfl) | (refine Vc.mk ?_; (first | (exact rfl) | (exact ⟨rfl, .inl rfl⟩) | omega | skip)))); all_goals (try rfl)))
  · ((try (conv => whnf)); refine ⟨[], rfl, rfl, ?_, ?_⟩); (repeat' (conv => whnf); (first | (with_reducible refine And.intro ?_ ?_) | (with_reducible exact True.intro) | (with_reducible exact Or.inl rfl) | (refine Vc.mk ?_; (first | (exact rfl) | (exact ⟨rfl, .inl rfl⟩) | omega | skip))))
def numsA : List Int := [60, 6, 3, 20, 1000000, 4, 3, 4, 8, 20, 2000, 40, 255, 60, 100] ++ [0, 1, 2, 3, 4, 5, 6, 7, 8, 9] ++ [0, 1, 2, 3, 4, 5, 6, 7, 8, 9, 10, 11] ++ [1, 2, 3, 4, 5, 6, 1, 5] ++ [117, 100, 115, 102, 105, 122, 114, 97, 110, 116, 107]
def errsA : List Int := [1, 2, 3, 4, 5, 6, 7, 8]
theorem errsA_at : ∀ k : Fin 8, errsA[k.val]'(by have := k.isLt; exact this) = (k.val : Int) + 1 := by decide
set_option maxHeartbeats 4000000 in
set_option maxRecDepth 100000 in
theorem names_ok : Fn Tryd.prog 3 [] [] (.v (.bool true)) [] := by
  have h1 := errE_ok
  have h2 := sameNumbers_ok numsA (by decide)
  refine fn_of mixed [] [] Tryd.func3 rfl (by decide +kernel) Tryd.ntmps3 rfl (congrArg Array.toList Tryd.results3) rfl (by decide +kernel) ?_
  (iterate 2 all_goals (try (repeat' (conv => whnf); (first | (with_reducible refine And.intro ?_ ?_) | (with_reducible exact True.intro) | (intro h; (first | (cases h) | ((first | (simp only [vis, Int.reduceToNat] at h) | skip); (try (exfalso; omega))))) | (with_reducible refine Vc.mk ?_; fail) | (with_reducible refine cutG ?_; fail) | (refine idx_map ?_ ?_) | (refine idx_mapI ?_ ?_ ?_) ))))
  all_goals (try (refine Vc.mk ?_; decide))
  all_goals (try (first | (exact GLt) | (refine Vc.mk ?_)))
  refine lpG (fun k : Nat => ⟨[(1, .sl 1 (numsA.map iRow) none), (2, .sl 1 (numsA.map iRow) none), (3, .sl 1 (errsA.map fun e => [.err e]) none), (4, .v (.int .i64 k))], []⟩) (fun k => k ≤ 8) (fun k => 8 - k) 0 (by omega) (by (refine le_sub [] rfl rfl ?_ ?_); all_goals ((repeat' (conv => whnf); (first | (with_reducible refine And.intro ?_ ?_) | (with_reducible exact True.intro) | (with_reducible exact Or.inl rfl) | (refine Vc.mk ?_; (first | (exact rfl) | (exact ⟨rfl, .inl rfl⟩) | omega | skip)))); all_goals (try rfl))) ?_
  rintro k hk
  by_cases hk' : k < 8
  · have hke : k < errsA.length := hk'
    have he : errsA[k] = (k : Int) + 1 := errsA_at ⟨k, hk'⟩
    have hs := gsame_ok errsA[k] (k + 1) (by omega)
    rw [show (errsA[k] == (k : Int) + 1) = true from by rw [he]; exact beq_self_eq_true _] at hs
    have hlen : errsA.length = 8 := rfl
    (iterate 2 all_goals (try (repeat' (conv => whnf); (first | (with_reducible refine And.intro ?_ ?_) | (with_reducible exact True.intro) | (intro h; (first | (cases h) | ((first | (simp only [vis, Int.reduceToNat] at h) | skip); (try (exfalso; omega))))) | (with_reducible refine Vc.mk ?_; fail) | (with_reducible refine cutG ?_; fail) | (refine idx_map ?_ ?_) | (refine idx_mapI ?_ ?_ ?_) ))))
    all_goals (try omega)
    all_goals (try (first | (exact GLt) | (refine Vc.mk ?_)))
    (all_goals (try ((first | (refine call0 (hs) ?_ ?_) | (refine pure0 (hs) rfl ?_ ?_)); (· (repeat' (conv => whnf); (first | (with_reducible refine And.intro ?_ ?_) | (with_reducible exact True.intro) | (with_reducible exact Or.inl rfl) | (refine Vc.mk ?_; (first | (exact rfl) | (exact ⟨rfl, .inl rfl⟩) | omega | skip))))); (iterate 2 all_goals (try (repeat' (conv => whnf); (first | (with_reducible refine And.intro ?_ ?_) | (with_reducible exact True.intro) | (intro h; (first | (cases h) | ((first | (simp only [vis, Int.reduceToNat] at h) | skip); (try (exfalso; omega))))) | (with_reducible refine Vc.mk ?_; fail) | (with_reducible refine cutG ?_; fail) | (refine idx_map ?_ ?_) | (refine idx_mapI ?_ ?_ ?_) )))))))
    all_goals (try omega)
    all_goals (try (first | (exact GLt) | (refine Vc.mk ?_)))
    all_goals (refine nextG (k + 1) (by omega) (by omega) (by (refine le_sub [] rfl rfl ?_ ?_); all_goals ((repeat' (conv => whnf); (first | (with_reducible refine And.intro ?_ ?_) | (with_reducible exact True.intro) | (with_reducible exact Or.inl rfl) | (refine Vc.mk ?_; (first | (exact rfl) | (exact ⟨rfl, .inl rfl⟩) | omega | skip)))); all_goals (try rfl))))
  · have e : k = 8 := by omega
    subst e
    (iterate 2 all_goals (try (repeat' (conv => whnf); (first | (with_reducible refine And.intro ?_ ?_) | (with_reducible exact True.intro) | (intro h; (first | (cases h) | ((first | (simp only [vis, Int.reduceToNat] at h) | skip); (try (exfalso; omega))))) | (with_reducible refine Vc.mk ?_; fail) | (with_reducible refine cutG ?_; fail) | (refine idx_map ?_ ?_) | (refine idx_mapI ?_ ?_ ?_) ))))
    all_goals (try omega)
    all_goals (try (first | (exact GLt) | (refine Vc.mk ?_)))
    (all_goals (try ((first | (refine call0 (h2) ?_ ?_) | (refine pure0 (h2) rfl ?_ ?_)); (· (repeat' (conv => whnf); (first | (with_reducible refine And.intro ?_ ?_) | (with_reducible exact True.intro) | (with_reducible exact Or.inl rfl) | (refine Vc.mk ?_; (first | (exact rfl) | (exact ⟨rfl, .inl rfl⟩) | omega | skip))))); (iterate 2 all_goals (try (repeat' (conv => whnf); (first | (with_reducible refine And.intro ?_ ?_) | (with_reducible exact True.intro) | (intro h; (first | (cases h) | ((first | (simp only [vis, Int.reduceToNat] at h) | skip); (try (exfalso; omega))))) | (with_reducible refine Vc.mk ?_; fail) | (with_reducible refine cutG ?_; fail) | (refine idx_map ?_ ?_) | (refine idx_mapI ?_ ?_ ?_) )))))))
    all_goals (try (first | (exact GLt) | (refine Vc.mk ?_)))
    (all_goals (try ((first | (refine call0 (h1) ?_ ?_) | (refine pure0 (h1) rfl ?_ ?_)); (· (repeat' (conv => whnf); (first | (with_reducible refine And.intro ?_ ?_) | (with_reducible exact True.intro) | (with_reducible exact Or.inl rfl) | (refine Vc.mk ?_; (first | (exact rfl) | (exact ⟨rfl, .inl rfl⟩) | omega | skip))))); (iterate 2 all_goals (try (repeat' (conv => whnf); (first | (with_reducible refine And.intro ?_ ?_) | (with_reducible exact True.intro) | (intro h; (first | (cases h) | ((first | (simp only [vis, Int.reduceToNat] at h) | skip); (try (exfalso; omega))))) | (with_reducible refine Vc.mk ?_; fail) | (with_reducible refine cutG ?_; fail) | (refine idx_map ?_ ?_) | (refine idx_mapI ?_ ?_ ?_) )))))))
    all_goals (try (first | (exact GLt) | (refine Vc.mk ?_)))
    all_goals (((try (conv => whnf)); refine ⟨[], rfl, rfl, ?_, ?_⟩); (repeat' (conv => whnf); (first | (with_reducible refine And.intro ?_ ?_) | (with_reducible exact True.intro) | (with_reducible exact Or.inl rfl) | (refine Vc.mk ?_; (first | (exact rfl) | (exact ⟨rfl, .inl rfl⟩) | omega | skip)))))
    all_goals (exact beq_self_eq_true _)
end Go.Proofs.YtimfnpjcedjmiaaDoor
