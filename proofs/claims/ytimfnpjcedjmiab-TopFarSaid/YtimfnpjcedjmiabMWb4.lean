/-
  Package ways: a round of what is told.
-/
import Derived.Test.YtimfnpjcedjmiabMWb0
namespace Go.Proofs.Ytimfnpjcedjmiab
open Go.RowKit
set_option linter.unusedSimpArgs false
set_option linter.unusedVariables false
def outA (r : Int) (far next : Int → Int) (out : List Hp) (n : Int) : AS := ⟨[(1, .v (.int .i64 r)), (5, .box 0 0), (6, .box 1 0), (14, .sl 3 (out.map hRow) (some (2, 1))), (15, .v (.int .i64 n))], [.cells (farC far), .cells (farC next), .grow 62 3 1]⟩
set_option maxHeartbeats 64000000 in
set_option maxRecDepth 100000 in
theorem out_round (r : Int) (far next : Int → Int) (out : List Hp) (hout : out.length ≤ 6) (n : Int) (h1 : 1 ≤ n) (h6 : n ≤ 6) (K : AS → Prop) (X : Nat → AS → Prop) (R : AS → Prop)
    (hk : ∀ A, AS.le 0 A (outA r far next (out ++ (if n ≠ r ∧ 0 ≤ far n then [(n, far n, next n)] else [])) (n + 1)) → K A) :
    vawp Try.prog [] 0 [8, 11, 19] (nthLoop Try.f27 4) K X R (outA r far next out n) := by
  by_cases hc : n ≠ r ∧ 0 ≤ far n
  · rw [if_pos hc] at hk
    refine or6 (by omega : n = 1 ∨ n = 2 ∨ n = 3 ∨ n = 4 ∨ n = 5 ∨ n = 6) (fun en => ?_) (fun en => ?_) (fun en => ?_) (fun en => ?_) (fun en => ?_) (fun en => ?_)
    all_goals
      subst en
      (iterate 2 all_goals (try (repeat' (conv => whnf); (first | (with_reducible refine And.intro ?_ ?_) | (with_reducible exact True.intro) | (intro h; (first | (cases h) | ((first | (simp only [vis, Int.reduceToNat] at h) | skip); (try (exfalso; omega))))) | (with_reducible refine Vc.mk ?_; fail) | (with_reducible refine cutG ?_; fail) | (refine idx_map ?_ ?_) | (refine idx_mapI ?_ ?_ ?_) | (refine StopAt.mk (by decide) (by decide) ?_)))))
      all_goals (try omega)
      all_goals (try (refine Vc.mk ?_; (first | (exact rfl) | (decide) | omega | (unfold In64; omega) | (simp only [wrap_byte, Int.reduceToNat, Int.toNat_natCast, In64]; omega) | (simp only [maxLen, Fits, viewR, viewL, AV.view, List.length_map, List.length_append, List.length_cons, List.length_nil]; omega) | (simp [viewR, viewL, AV.view, ]; done) | skip)))
      all_goals (refine hk _ ?_; (refine le_sub [0, 1, 2] rfl rfl ?_ ?_); all_goals ((repeat' (conv => whnf); (first | (with_reducible refine And.intro ?_ ?_) | (with_reducible exact True.intro) | (with_reducible exact Or.inl rfl) | (refine Vc.mk ?_; (first | (exact rfl) | (exact ⟨rfl, .inl rfl⟩) | omega | skip)))); all_goals (try first | rfl | (simp [hRow, viewR, viewL, AV.view]; done))))
  · rw [if_neg hc] at hk
    refine or6 (by omega : n = 1 ∨ n = 2 ∨ n = 3 ∨ n = 4 ∨ n = 5 ∨ n = 6) (fun en => ?_) (fun en => ?_) (fun en => ?_) (fun en => ?_) (fun en => ?_) (fun en => ?_)
    all_goals
      subst en
      (iterate 2 all_goals (try (repeat' (conv => whnf); (first | (with_reducible refine And.intro ?_ ?_) | (with_reducible exact True.intro) | (intro h; (first | (cases h) | ((first | (simp only [vis, Int.reduceToNat] at h) | skip); (try (exfalso; omega))))) | (with_reducible refine Vc.mk ?_; fail) | (with_reducible refine cutG ?_; fail) | (refine idx_map ?_ ?_) | (refine idx_mapI ?_ ?_ ?_) | (refine StopAt.mk (by decide) (by decide) ?_)))))
      all_goals (try omega)
      all_goals (try (refine Vc.mk ?_; (first | (exact rfl) | (decide) | omega | (unfold In64; omega) | (simp only [wrap_byte, Int.reduceToNat, Int.toNat_natCast, In64]; omega) | (simp only [maxLen, Fits, viewR, viewL, AV.view, List.length_map, List.length_append, List.length_cons, List.length_nil]; omega) | (simp [viewR, viewL, AV.view, ]; done) | skip)))
      all_goals (refine hk _ ?_; (refine le_sub [0, 1, 2] rfl rfl ?_ ?_); all_goals ((repeat' (conv => whnf); (first | (with_reducible refine And.intro ?_ ?_) | (with_reducible exact True.intro) | (with_reducible exact Or.inl rfl) | (refine Vc.mk ?_; (first | (exact rfl) | (exact ⟨rfl, .inl rfl⟩) | omega | skip)))); all_goals (try first | rfl | (simp; done))))
end Go.Proofs.Ytimfnpjcedjmiab
