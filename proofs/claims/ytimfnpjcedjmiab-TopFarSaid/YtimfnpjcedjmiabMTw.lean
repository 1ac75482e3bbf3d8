/-
  Ways, for the statements of what they are for.
-/
import Derived.Test.YtimfnpjcedjmiabMWb
import Derived.Test.YtimfnpjcedjmiabMWc
import Derived.Test.YtimfnpjcedjmiabMWf
import Derived.Test.YtimfnpjcedjmiabMWd
import Derived.Test.YtimfnpjcedjmiabLWc
namespace Go.Proofs.Ytimfnpjcedjmiab
open Go.RowKit
set_option linter.unusedSimpArgs false
set_option linter.unusedVariables false
theorem toH_in {n : Int} : ∀ {l : List Hp} {h : Hp}, toH n l = some h → h ∈ l ∧ h.1 = n
  | [], h, e => by cases e
  | x :: r, h, e => by
    unfold toH at e
    split at e
    · rename_i g
      obtain rfl := Option.some.inj e
      exact ⟨List.mem_cons_self .., g⟩
    · obtain ⟨h1, h2⟩ := toH_in e
      exact ⟨List.mem_cons_of_mem _ h1, h2⟩
theorem toH_no {n : Int} : ∀ {l : List Hp}, toH n l = none → ∀ h ∈ l, h.1 ≠ n
  | [], _, h, hh => by cases hh
  | x :: r, e, h, hh => by
    unfold toH at e
    split at e
    · cases e
    · rename_i g
      rcases List.mem_cons.1 hh with rfl | hh
      · exact g
      · exact toH_no e h hh
theorem hopsR_mem {l : List St3} {r : Int} (hr : nod r) {n d f : Int} : (n, d, f) ∈ hopsR l r ↔ nod n ∧ Best (met l) r n d f := by
  unfold hopsR hopsM
  have hr' : 1 ≤ r ∧ r ≤ 6 := hr
  rw [if_pos hr', mem_hopsTo]
  unfold nod
  constructor
  · rintro ⟨h1, h2, h3⟩; exact ⟨⟨h1, by omega⟩, h3⟩
  · rintro ⟨⟨h1, h2⟩, h3⟩; exact ⟨h1, by omega, h3⟩
theorem toH_hops {l : List St3} {r n : Int} (hr : nod r) (hn : nod n) : (∃ d f, Best (met l) r n d f ∧ toH n (hopsR l r) = some (n, d, f)) ∨ ((∀ d f, ¬ Best (met l) r n d f) ∧ toH n (hopsR l r) = none) := by
  cases e : toH n (hopsR l r) with
  | some h =>
    obtain ⟨m, d, f⟩ := h
    obtain ⟨h1, h2⟩ := toH_in e
    dsimp only at h2
    subst h2
    exact .inl ⟨d, f, ((hopsR_mem hr).1 h1).2, rfl⟩
  | none =>
    refine .inr ⟨fun d f h => ?_, rfl⟩
    exact toH_no e _ ((hopsR_mem hr).2 ⟨hn, h⟩) rfl
theorem hopsR_len (l : List St3) (r : Int) : (hopsR l r).length ≤ 6 := by
  unfold hopsR
  split
  · exact hopsTo_len _ _ 6
  · decide
def lNear : List St3 := [(1, 1, [(2, 5)]), (2, 1, [(1, 5)])]
theorem okL_near : OkL lNear := by
  refine ⟨by decide, fun i h => ?_, fun i h k hk => ?_⟩
  · match i, h with
    | 0, _ => exact (by decide : sfault 1 1 [(2, 5)] = 0)
    | 1, _ => exact (by decide : sfault 2 1 [(1, 5)] = 0)
  · match i, h, k, hk with
    | 1, _, 0, _ => exact (by decide : ¬ (1 : Int) = 2)
theorem hopsM_wk2 {M : Int → Int → Int} {r : Int} (hM : MOk M) (hr : nod r) : hopsM M r = [1, 2, 3, 4, 5, 6].flatMap fun n => if 0 < (wkN M 6 r 0 0 (beenL []) (fun _ => (0, 0, 0)) n).1 then [wkN M 6 r 0 0 (beenL []) (fun _ => (0, 0, 0)) n] else [] := by
  have h := fun n hn => wkN_hop (M := M) (r := r) (n := n) hM hr hn _ rfl
  show ((((([] ++ hopAt M r 1) ++ hopAt M r 2) ++ hopAt M r 3) ++ hopAt M r 4) ++ hopAt M r 5) ++ hopAt M r 6 = _
  rw [h 1 (by unfold nod; omega), h 2 (by unfold nod; omega), h 3 (by unfold nod; omega), h 4 (by unfold nod; omega), h 5 (by unfold nod; omega), h 6 (by unfold nod; omega)]
  simp only [List.flatMap_cons, List.flatMap_nil, List.nil_append, List.append_nil, List.append_assoc]
theorem hops_near : hopsR lNear 1 = [(2, 5, 2)] := by
  unfold hopsR
  rw [if_pos (by decide), hopsM_wk2 okL_near.metric (by unfold nod; decide)]
  decide +kernel
set_option maxHeartbeats 4000000 in
set_option maxRecDepth 100000 in
theorem nearby_ok : Fn Try.prog 25 [] [] (.v (.bool true)) [] := by
  have h1 := hops_ok lNear 1 okL_near.small okL_near.metric
  rw [hops_near] at h1
  have h2 := sameHops_ok [(2, 5, 2)] [(2, 5, 2)] (by decide)
  rw [decide_eq_true rfl] at h2
  refine fn_of mixed [] [] Try.func25 rfl (by decide +kernel) Try.ntmps25 rfl (congrArg Array.toList Try.results25) rfl (by decide +kernel) ?_
  (iterate 2 all_goals (try (repeat' (conv => whnf); (first | (with_reducible refine And.intro ?_ ?_) | (with_reducible exact True.intro) | (intro h; (first | (cases h) | ((first | (simp only [vis, Int.reduceToNat] at h) | skip); (try (exfalso; omega))))) | (with_reducible refine Vc.mk ?_; fail) | (with_reducible refine cutG ?_; fail) | (refine idx_map ?_ ?_) | (refine idx_mapI ?_ ?_ ?_) ))))
  (refine ⟨_, _, _, _, [], h1, rfl, rfl, rfl, ?_, ?_, ?_⟩)
  · (repeat' (conv => whnf); (first | (with_reducible refine And.intro ?_ ?_) | (with_reducible exact True.intro) | (with_reducible exact Or.inl rfl) | (refine Vc.mk ?_; (first | (exact rfl) | (exact ⟨rfl, .inl rfl⟩) | omega | skip))))
    all_goals rfl
  · (repeat' (conv => whnf); (first | (with_reducible refine And.intro ?_ ?_) | (with_reducible exact True.intro) | (with_reducible exact Or.inl rfl) | (refine Vc.mk ?_; (first | (exact rfl) | (exact ⟨rfl, .inl rfl⟩) | omega | skip))))
    all_goals rfl
  (iterate 2 all_goals (try (repeat' (conv => whnf); (first | (with_reducible refine And.intro ?_ ?_) | (with_reducible exact True.intro) | (intro h; (first | (cases h) | ((first | (simp only [vis, Int.reduceToNat] at h) | skip); (try (exfalso; omega))))) | (with_reducible refine Vc.mk ?_; fail) | (with_reducible refine cutG ?_; fail) | (refine idx_map ?_ ?_) | (refine idx_mapI ?_ ?_ ?_) ))))
  (refine ⟨_, _, _, _, [], h2, rfl, rfl, rfl, ?_, ?_, ?_⟩)
  · (repeat' (conv => whnf); (first | (with_reducible refine And.intro ?_ ?_) | (with_reducible exact True.intro) | (with_reducible exact Or.inl rfl) | (refine Vc.mk ?_; (first | (exact rfl) | (exact ⟨rfl, .inl rfl⟩) | omega | skip))))
    all_goals rfl
  · (repeat' (conv => whnf); (first | (with_reducible refine And.intro ?_ ?_) | (with_reducible exact True.intro) | (with_reducible exact Or.inl rfl) | (refine Vc.mk ?_; (first | (exact rfl) | (exact ⟨rfl, .inl rfl⟩) | omega | skip))))
    all_goals rfl
  (iterate 2 all_goals (try (repeat' (conv => whnf); (first | (with_reducible refine And.intro ?_ ?_) | (with_reducible exact True.intro) | (intro h; (first | (cases h) | ((first | (simp only [vis, Int.reduceToNat] at h) | skip); (try (exfalso; omega))))) | (with_reducible refine Vc.mk ?_; fail) | (with_reducible refine cutG ?_; fail) | (refine idx_map ?_ ?_) | (refine idx_mapI ?_ ?_ ?_) ))))
  all_goals (try (refine Vc.mk ?_; (first | (exact rfl) | (decide) | omega | (unfold In64; omega) | (simp only [wrap_byte, Int.reduceToNat, Int.toNat_natCast, In64]; omega) | (simp only [maxLen, Fits, viewR, viewL, AV.view, List.length_map, List.length_append, List.length_cons, List.length_nil]; omega) | (simp [viewR, viewL, AV.view, ]; done) | skip)))
  all_goals (((try (conv => whnf)); refine ⟨[], rfl, rfl, ?_, ?_⟩); (repeat' (conv => whnf); (first | (with_reducible refine And.intro ?_ ?_) | (with_reducible exact True.intro) | (with_reducible exact Or.inl rfl) | (refine Vc.mk ?_; (first | (exact rfl) | (exact ⟨rfl, .inl rfl⟩) | omega | skip)))))
end Go.Proofs.Ytimfnpjcedjmiab
