/-
  The reference's base of states, further.
-/
import Derived.Test.YtimfnpjcedjmiaaMRb
namespace Go.Proofs.Ytimfnpjcedjmiaa
open Go.RowKit
set_option linter.unusedSimpArgs false
set_option linter.unusedVariables false
theorem np3p {ow : List (Int → Bool)} {p : Int} (h1 : 1 ≤ ow.length) (h3 : ow.length ≤ 3) (hp : 0 ≤ p ∧ p < ow.length) {C : List (Int → Bool) → Int → Prop} (c1 : ∀ a, C [a] 0) (c2 : ∀ a b, C [a, b] 0) (c3 : ∀ a b, C [a, b] 1) (c4 : ∀ a b c, C [a, b, c] 0) (c5 : ∀ a b c, C [a, b, c] 1) (c6 : ∀ a b c, C [a, b, c] 2) : C ow p := by
  match ow, h1, h3, hp with
  | [a], _, _, hp =>
    obtain rfl : p = 0 := by simp at hp; omega
    exact c1 a
  | [a, b], _, _, hp =>
    rcases (by simp at hp; omega : p = 0 ∨ p = 1) with rfl | rfl
    · exact c2 a b
    · exact c3 a b
  | [a, b, c], _, _, hp =>
    rcases (by simp at hp; omega : p = 0 ∨ p = 1 ∨ p = 2) with rfl | rfl | rfl
    · exact c4 a b c
    · exact c5 a b c
    · exact c6 a b c
/-- How the one of them is known, against which a state is held. -/
theorem rtakK {kn : Int → Option St3} {ow : List (Int → Bool)} (hkn : ∀ n s, kn n = some s → s.1 = n ∧ sf s = 0) {q g : Int} {l : List (Int × Int)} (h0 : sfault q g l = 0) :
    (¬ 0 < (stO (kn q)).2.1 ∧ takK ⟨kn, ow⟩ (q, g, l) = 1) ∨ (0 < (stO (kn q)).2.1 ∧ ∃ v, takK ⟨kn, ow⟩ (q, g, l) = v ∧ (v = 1 ∨ v = 0 ∨ v = -1) ∧ Fn Try.prog 70 [.agg [.v (.int .i64 q), .v (.int .i64 g), .sl 2 (l.map opRow) none], .agg [.v (.int .i64 (stO (kn q)).1), .v (.int .i64 (stO (kn q)).2.1), .sl 2 ((stO (kn q)).2.2.map opRow) none]] [] (.v (.int .i64 v)) []) := by
  have hsq := seqOk hkn q
  have hl : l.length ≤ 1000000 := by have := (sfault_good h0).2.2.2.2.1; omega
  cases hk : kn q with
  | none => exact .inl ⟨by rw [hk] at hsq; have := hsq.pos; simp [stO], by unfold takK; dsimp only; rw [hk]⟩
  | some t =>
    rw [hk] at hsq
    refine .inr ⟨hsq.pos.2 rfl, _, rfl, takK_cases _ _, ?_⟩
    have hK : takK ⟨kn, ow⟩ (q, g, l) = orL [cmpI g t.2.1, cmpE l t.2.2] := by unfold takK; dsimp only; rw [hk]; rfl
    rw [hK]
    exact rsnewer_ok q g _ _ l _ hl hsq.len (edgOk_sf (s := (q, g, l)) h0) hsq.edg
theorem rhrK {kn : Int → Option St3} {ow : List (Int → Bool)} (hkn : ∀ n s, kn n = some s → s.1 = n ∧ sf s = 0) {q g : Int} {l : List (Int × Int)} (h0 : sfault q g l = 0) :
    ((stO (kn q)).2.1 = 0 ∧ hrK ⟨kn, ow⟩ (q, g, l) = -1) ∨ (0 < (stO (kn q)).2.1 ∧ ∃ v, hrK ⟨kn, ow⟩ (q, g, l) = v ∧ Fn Try.prog 70 [.agg [.v (.int .i64 (stO (kn q)).1), .v (.int .i64 (stO (kn q)).2.1), .sl 2 ((stO (kn q)).2.2.map opRow) none], .agg [.v (.int .i64 q), .v (.int .i64 g), .sl 2 (l.map opRow) none]] [] (.v (.int .i64 v)) []) := by
  have hsq := seqOk hkn q
  have hl : l.length ≤ 1000000 := by have := (sfault_good h0).2.2.2.2.1; omega
  cases hk : kn q with
  | none => exact .inl ⟨rfl, by unfold hrK; dsimp only; rw [hk]⟩
  | some t =>
    rw [hk] at hsq
    refine .inr ⟨hsq.pos.2 rfl, _, rfl, ?_⟩
    have hK : hrK ⟨kn, ow⟩ (q, g, l) = orL [cmpI t.2.1 g, cmpE t.2.2 l] := by unfold hrK; dsimp only; rw [hk]; rfl
    rw [hK]
    exact rsnewer_ok _ _ q g _ l hsq.len hl hsq.edg (edgOk_sf (s := (q, g, l)) h0)
theorem rset0 {kn : Int → Option St3} {ow : List (Int → Bool)} (h1 : 1 ≤ ow.length) (h3 : ow.length ≤ 3) {q g : Int} {l : List (Int × Int)} (h0 : sfault q g l = 0) : Fn Try.prog 75 [.box 0 0, .agg [.v (.int .i64 q), .v (.int .i64 g), .sl 2 (l.map opRow) none]] (rbL kn ow) (.v (.int .i64 0)) (rbL (upI kn q (some (q, g, l))) (allW ow 0 q (-1))) := by
  have h := rbset_ok kn ow h1 h3 (q, g, l)
  rw [show sf (q, g, l) = 0 from h0, show setB ⟨kn, ow⟩ (q, g, l) = ⟨upI kn q (some (q, g, l)), allW ow 0 q (-1)⟩ from if_pos h0] at h
  exact h
set_option maxHeartbeats 64000000 in
set_option maxRecDepth 100000 in
theorem rbtake_1 (kn : Int → Option St3) (ow : List (Int → Bool)) (h1 : 1 ≤ ow.length) (h3 : ow.length ≤ 3) (p : Int) (hp : 0 ≤ p ∧ p < ow.length) (q g : Int) (l : List (Int × Int)) (hq1 : 1 ≤ q) (hq6 : q ≤ 6) (hck : Fn Try.prog 61 [.agg [.v (.int .i64 q), .v (.int .i64 g), .sl 2 (l.map opRow) none]] [] (.v (.int .i64 0)) [])
    (hset : Fn Try.prog 75 [.box 0 0, .agg [.v (.int .i64 q), .v (.int .i64 g), .sl 2 (l.map opRow) none]] (rbL kn ow) (.v (.int .i64 0)) (rbL (upI kn q (some (q, g, l))) (allW ow 0 q (-1)))) (hn : ¬ 0 < (stO (kn q)).2.1) :
    Fn Try.prog 77 [.box 0 0, .v (.int .i64 p), .agg (stRow (q, g, l))] (rbL kn ow) (.tup [.v (.int .i64 1), .v (.int .i64 0)]) (rbL (upI kn q (some (q, g, l))) (modW (allW ow 0 q p) p fun o => upI o q false)) := by
  revert hset
  refine np3p (C := fun ow p => Fn Try.prog 75 [.box 0 0, .agg [.v (.int .i64 q), .v (.int .i64 g), .sl 2 (l.map opRow) none]] (rbL kn ow) (.v (.int .i64 0)) (rbL (upI kn q (some (q, g, l))) (allW ow 0 q (-1))) → Fn Try.prog 77 [.box 0 0, .v (.int .i64 p), .agg (stRow (q, g, l))] (rbL kn ow) (.tup [.v (.int .i64 1), .v (.int .i64 0)]) (rbL (upI kn q (some (q, g, l))) (modW (allW ow 0 q p) p fun o => upI o q false))) h1 h3 hp (fun a => ?_) (fun a b => ?_) (fun a b => ?_) (fun a b c => ?_) (fun a b c => ?_) (fun a b c => ?_)
  all_goals (intro hset; rcases (by omega : q = 1 ∨ q = 2 ∨ q = 3 ∨ q = 4 ∨ q = 5 ∨ q = 6) with rfl | rfl | rfl | rfl | rfl | rfl)
  all_goals
    unfold stRow
    dsimp only
    refine fn_of mixed [] [] Try.func77 rfl (by decide +kernel) Try.ntmps77 rfl (congrArg Array.toList Try.results77) rfl (by decide +kernel) ?_
    ((iterate 2 all_goals (try (repeat' (conv => whnf); (first | with_reducible refine And.intro ?_ ?_ | with_reducible exact True.intro | (intro h; (first | cases h | ((try simp only [vis, Int.reduceToNat] at h); (try (exfalso; omega))))) | (with_reducible refine Vc.mk ?_; fail) | (with_reducible refine cutG ?_; fail) | refine idx_map ?_ ?_ | refine idx_mapI ?_ ?_ ?_ | (refine StopAt.mk (by decide) (by decide) ?_) | (refine StopRow.mk _ rfl ?_))))); (all_goals (try omega)); (all_goals (try ((first | with_reducible refine Vc.mk ?_ | refine Vc.mk ?_); (try exact GLt)))); (all_goals (try (exact ⟨by decide, by decide⟩))))
    (all_goals (try ((first | (refine call0 (hck) ?_ ?_) | (refine pure0 (hck) rfl ?_ ?_)); (· (repeat' (conv => whnf); (first | with_reducible refine And.intro ?_ ?_ | with_reducible exact True.intro | with_reducible exact Or.inl rfl | (refine Vc.mk ?_; (first | exact rfl | exact ⟨rfl, .inl rfl⟩ | omega | skip))))); (iterate 2 all_goals (try (repeat' (conv => whnf); (first | with_reducible refine And.intro ?_ ?_ | with_reducible exact True.intro | (intro h; (first | cases h | ((try simp only [vis, Int.reduceToNat] at h); (try (exfalso; omega))))) | (with_reducible refine Vc.mk ?_; fail) | (with_reducible refine cutG ?_; fail) | refine idx_map ?_ ?_ | refine idx_mapI ?_ ?_ ?_ )))))))
    ((iterate 2 all_goals (try (repeat' (conv => whnf); (first | with_reducible refine And.intro ?_ ?_ | with_reducible exact True.intro | (intro h; (first | cases h | ((try simp only [vis, Int.reduceToNat] at h); (try (exfalso; omega))))) | (with_reducible refine Vc.mk ?_; fail) | (with_reducible refine cutG ?_; fail) | refine idx_map ?_ ?_ | refine idx_mapI ?_ ?_ ?_ | (refine StopAt.mk (by decide) (by decide) ?_) | (refine StopRow.mk _ rfl ?_))))); (all_goals (try omega)); (all_goals (try ((first | with_reducible refine Vc.mk ?_ | refine Vc.mk ?_); (try exact GLt)))); (all_goals (try (exact ⟨by decide, by decide⟩))))
    ((all_goals (try omega)); (all_goals (try ((first | with_reducible refine Vc.mk ?_ | refine Vc.mk ?_); (try exact GLt)))); ((refine ⟨_, _, _, _, [0, 1], hset, rfl, rfl, rfl, ?_, ?_, ?_⟩)); (· ((repeat' (conv => whnf); (first | with_reducible refine And.intro ?_ ?_ | with_reducible exact True.intro | with_reducible exact Or.inl rfl | (refine Vc.mk ?_; (first | exact rfl | exact ⟨rfl, .inl rfl⟩ | omega | skip)))); all_goals rfl)); (· ((repeat' (conv => whnf); (first | with_reducible refine And.intro ?_ ?_ | with_reducible exact True.intro | with_reducible exact Or.inl rfl | (refine Vc.mk ?_; (first | exact rfl | exact ⟨rfl, .inl rfl⟩ | omega | skip)))); all_goals rfl)); (iterate 2 all_goals (try (repeat' (conv => whnf); (first | with_reducible refine And.intro ?_ ?_ | with_reducible exact True.intro | (intro h; (first | cases h | ((try simp only [vis, Int.reduceToNat] at h); (try (exfalso; omega))))) | (with_reducible refine Vc.mk ?_; fail) | (with_reducible refine cutG ?_; fail) | refine idx_map ?_ ?_ | refine idx_mapI ?_ ?_ ?_ )))); (all_goals (try omega)); (all_goals (try ((first | with_reducible refine Vc.mk ?_ | refine Vc.mk ?_); (try exact GLt)))))
    ((iterate 2 all_goals (try (repeat' (conv => whnf); (first | with_reducible refine And.intro ?_ ?_ | with_reducible exact True.intro | (intro h; (first | cases h | ((try simp only [vis, Int.reduceToNat] at h); (try (exfalso; omega))))) | (with_reducible refine Vc.mk ?_; fail) | (with_reducible refine cutG ?_; fail) | refine idx_map ?_ ?_ | refine idx_mapI ?_ ?_ ?_ | (refine StopAt.mk (by decide) (by decide) ?_) | (refine StopRow.mk _ rfl ?_))))); (all_goals (try omega)); (all_goals (try ((first | with_reducible refine Vc.mk ?_ | refine Vc.mk ?_); (try exact GLt)))); (all_goals (try (exact ⟨by decide, by decide⟩))))
    ((try (conv => whnf)); refine ⟨[0, 1], rfl, rfl, ?_, ?_⟩); (repeat' (conv => whnf); (first | with_reducible refine And.intro ?_ ?_ | with_reducible exact True.intro | with_reducible exact Or.inl rfl | (refine Vc.mk ?_; (first | exact rfl | exact ⟨rfl, .inl rfl⟩ | omega | skip))))
    all_goals rfl
end Go.Proofs.Ytimfnpjcedjmiaa
