/-
  Package ways: a round of the search for the nearest one.
-/
import Derived.Test.YtimfnpjcedjmiabMWb0
namespace Go.Proofs.Ytimfnpjcedjmiab
open Go.RowKit
set_option linter.unusedSimpArgs false
set_option linter.unusedVariables false
set_option maxHeartbeats 64000000 in
set_option maxRecDepth 100000 in
theorem pick_round (l : List St3) (r : Int) (far next : Int → Int) (done : Int → Bool) (m a : Int) (hm1 : 1 ≤ m) (hm : m ≤ 6) (ha : a = 0 ∨ (1 ≤ a ∧ a < m)) (K : AS → Prop) (X : Nat → AS → Prop) (R : AS → Prop)
    (hk : (done m = true ∨ far m < 0 ∨ (a ≠ 0 ∧ far a ≤ far m)) → ∀ A, AS.le 0 A (pickA l r far next done (m + 1) a) → K A)
    (ht : done m = false → 0 ≤ far m → (a = 0 ∨ far m < far a) → ∀ A, AS.le 0 A (pickA l r far next done (m + 1) m) → K A) :
    vawp Try.prog [] 0 [8, 11, 19] (nthLoop Try.f27 2) K X R (pickA l r far next done m a) := by
  refine or6 (by omega : m = 1 ∨ m = 2 ∨ m = 3 ∨ m = 4 ∨ m = 5 ∨ m = 6) (fun em => ?_) (fun em => ?_) (fun em => ?_) (fun em => ?_) (fun em => ?_) (fun em => ?_)
  all_goals
    refine or6 (by omega : a = 0 ∨ a = 1 ∨ a = 2 ∨ a = 3 ∨ a = 4 ∨ a = 5) (fun ea => ?_) (fun ea => ?_) (fun ea => ?_) (fun ea => ?_) (fun ea => ?_) (fun ea => ?_)
  all_goals (try (exfalso; omega))
  all_goals
    subst em ea
    (iterate 2 all_goals (try (repeat' (conv => whnf); (first | (with_reducible refine And.intro ?_ ?_) | (with_reducible exact True.intro) | (intro h; (first | (cases h) | ((first | (simp only [vis, Int.reduceToNat] at h) | skip); (try (exfalso; omega))))) | (with_reducible refine Vc.mk ?_; fail) | (with_reducible refine cutG ?_; fail) | (refine idx_map ?_ ?_) | (refine idx_mapI ?_ ?_ ?_) | (refine StopAt.mk (by decide) (by decide) ?_)))))
    all_goals (try omega)
    all_goals (try (refine Vc.mk ?_; (first | (exact rfl) | (decide) | omega | (unfold In64; omega) | (simp only [wrap_byte, Int.reduceToNat, Int.toNat_natCast, In64]; omega) | (simp only [maxLen, Fits, viewR, viewL, AV.view, List.length_map, List.length_append, List.length_cons, List.length_nil]; omega) | (simp [viewR, viewL, AV.view, ]; done) | skip)))
    all_goals first
      | (refine ht (by assumption) (by assumption) (by omega) _ ?_
         (refine le_sub [0, 1, 2] rfl rfl ?_ ?_); all_goals ((repeat' (conv => whnf); (first | (with_reducible refine And.intro ?_ ?_) | (with_reducible exact True.intro) | (with_reducible exact Or.inl rfl) | (refine Vc.mk ?_; (first | (exact rfl) | (exact ⟨rfl, .inl rfl⟩) | omega | skip)))); all_goals (try rfl)))
      | (refine hk (by first | (exact .inl (by assumption)) | (exact .inr (by omega))) _ ?_
         (refine le_sub [0, 1, 2] rfl rfl ?_ ?_); all_goals ((repeat' (conv => whnf); (first | (with_reducible refine And.intro ?_ ?_) | (with_reducible exact True.intro) | (with_reducible exact Or.inl rfl) | (refine Vc.mk ?_; (first | (exact rfl) | (exact ⟨rfl, .inl rfl⟩) | omega | skip)))); all_goals (try rfl)))
end Go.Proofs.Ytimfnpjcedjmiab
