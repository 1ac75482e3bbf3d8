/-
  The reference's base of states: the whole of each.
-/
import Derived.Test.YtimfnpjcedjmiaaMRb3
import Derived.Test.YtimfnpjcedjmiaaMRb4
import Derived.Test.YtimfnpjcedjmiaaMRb5
import Derived.Test.YtimfnpjcedjmiaaMRb6
import Derived.Test.YtimfnpjcedjmiaaMRb7
import Derived.Test.YtimfnpjcedjmiaaGO
namespace Go.Proofs.Ytimfnpjcedjmiaa
open Go.RowKit
set_option linter.unusedSimpArgs false
set_option linter.unusedVariables false
theorem inP_t {kn : Int → Option St3} {ow : List (Int → Bool)} {p : Int} (h : 0 ≤ p ∧ p < ow.length) : inP ⟨kn, ow⟩ p = true := by unfold inP; rw [decide_eq_true h.1, decide_eq_true h.2]; rfl
theorem inP_f {kn : Int → Option St3} {ow : List (Int → Bool)} {p : Int} (h : ¬ (0 ≤ p ∧ p < ow.length)) : ¬ inP ⟨kn, ow⟩ p = true := by unfold inP; simp; omega
set_option maxHeartbeats 16000000 in
set_option maxRecDepth 100000 in
theorem rbtake_ok (kn : Int → Option St3) (ow : List (Int → Bool)) (h1 : 1 ≤ ow.length) (h3 : ow.length ≤ 3) (hkn : ∀ n s, kn n = some s → s.1 = n ∧ sf s = 0) (p : Int) (s : St3) : Fn Try.prog 77 [.box 0 0, .v (.int .i64 p), .agg (stRow s)] (rbL kn ow) (.tup [.v (.int .i64 (takeV ⟨kn, ow⟩ p s)), .v (.int .i64 (takeE ⟨kn, ow⟩ p s))]) (rbM (takeB ⟨kn, ow⟩ p s)) := by
  obtain ⟨q, g, l⟩ := s
  have hck := rsfault_ok q g l
  have hnn := sfault_nonneg q g l
  by_cases hp : 0 ≤ p ∧ p < ow.length
  · have hin := inP_t (kn := kn) hp
    by_cases h0 : sfault q g l = 0
    · have hE : takeE ⟨kn, ow⟩ p (q, g, l) = 0 := (if_pos hin).trans h0
      have hT : takeV ⟨kn, ow⟩ p (q, g, l) = takK ⟨kn, ow⟩ (q, g, l) := if_pos ⟨hin, h0⟩
      have hV : takeB ⟨kn, ow⟩ p (q, g, l) = if takK ⟨kn, ow⟩ (q, g, l) = 1 then ⟨upI kn q (some (q, g, l)), modW (allW ow 0 q p) p fun o => upI o q false⟩ else if takK ⟨kn, ow⟩ (q, g, l) = 0 then ⟨kn, modW ow p fun o => upI o q false⟩ else ⟨kn, modW ow p fun o => upI o q true⟩ := if_pos ⟨hin, h0⟩
      rw [hE, hT, hV]
      rw [h0] at hck
      have hg := sfault_good h0
      have hset := rset0 (kn := kn) h1 h3 h0
      rcases rtakK (ow := ow) hkn h0 with ⟨hn, hk⟩ | ⟨hs, v, hk, hv, hw⟩
      · rw [hk, if_pos rfl]
        exact rbtake_1 kn ow h1 h3 p hp q g l hg.1 hg.2.1 hck hset hn
      · rw [hk]
        rcases hv with rfl | rfl | rfl
        · rw [if_pos rfl]
          exact rbtake_2 kn ow h1 h3 p hp q g l hg.1 hg.2.1 hck hset hs hw
        · rw [if_neg (by decide), if_pos rfl]
          exact rbtake_3 kn ow h1 h3 p hp q g l hg.1 hg.2.1 hck hs hw
        · rw [if_neg (by decide), if_neg (by decide)]
          exact rbtake_4 kn ow h1 h3 p hp q g l hg.1 hg.2.1 hck hs hw
    · have hE : takeE ⟨kn, ow⟩ p (q, g, l) = sfault q g l := if_pos hin
      have hT : takeV ⟨kn, ow⟩ p (q, g, l) = 0 := if_neg (fun h => h0 h.2)
      have hV : takeB ⟨kn, ow⟩ p (q, g, l) = ⟨kn, ow⟩ := if_neg (fun h => h0 h.2)
      rw [hE, hT, hV]
      generalize sfault q g l = F at *
      clear hE hT hV hin hkn
      refine np3p (C := fun ow p => Fn Try.prog 77 [.box 0 0, .v (.int .i64 p), .agg (stRow (q, g, l))] (rbL kn ow) (.tup [.v (.int .i64 0), .v (.int .i64 F)]) (rbM ⟨kn, ow⟩)) h1 h3 hp (fun a => ?_) (fun a b => ?_) (fun a b => ?_) (fun a b c => ?_) (fun a b c => ?_) (fun a b c => ?_)
      all_goals
        unfold stRow
        dsimp only
        refine fn_of mixed [] [] Try.func77 rfl (by decide +kernel) Try.ntmps77 rfl (congrArg Array.toList Try.results77) rfl (by decide +kernel) ?_
        ((iterate 2 all_goals (try (repeat' (conv => whnf); (first | with_reducible refine And.intro ?_ ?_ | with_reducible exact True.intro | (intro h; (first | cases h | ((try simp only [vis, Int.reduceToNat] at h); (try (exfalso; omega))))) | (with_reducible refine Vc.mk ?_; fail) | (with_reducible refine cutG ?_; fail) | refine idx_map ?_ ?_ | refine idx_mapI ?_ ?_ ?_ | (refine StopAt.mk (by decide) (by decide) ?_) | (refine StopRow.mk _ rfl ?_))))); (all_goals (try omega)); (all_goals (try ((first | with_reducible refine Vc.mk ?_ | refine Vc.mk ?_); (try exact GLt)))); (all_goals (try (exact ⟨by decide, by decide⟩))))
        (all_goals (try ((first | (refine call0 (hck) ?_ ?_) | (refine pure0 (hck) rfl ?_ ?_)); (· (repeat' (conv => whnf); (first | with_reducible refine And.intro ?_ ?_ | with_reducible exact True.intro | with_reducible exact Or.inl rfl | (refine Vc.mk ?_; (first | exact rfl | exact ⟨rfl, .inl rfl⟩ | omega | skip))))); (iterate 2 all_goals (try (repeat' (conv => whnf); (first | with_reducible refine And.intro ?_ ?_ | with_reducible exact True.intro | (intro h; (first | cases h | ((try simp only [vis, Int.reduceToNat] at h); (try (exfalso; omega))))) | (with_reducible refine Vc.mk ?_; fail) | (with_reducible refine cutG ?_; fail) | refine idx_map ?_ ?_ | refine idx_mapI ?_ ?_ ?_ )))))))
        ((iterate 2 all_goals (try (repeat' (conv => whnf); (first | with_reducible refine And.intro ?_ ?_ | with_reducible exact True.intro | (intro h; (first | cases h | ((try simp only [vis, Int.reduceToNat] at h); (try (exfalso; omega))))) | (with_reducible refine Vc.mk ?_; fail) | (with_reducible refine cutG ?_; fail) | refine idx_map ?_ ?_ | refine idx_mapI ?_ ?_ ?_ | (refine StopAt.mk (by decide) (by decide) ?_) | (refine StopRow.mk _ rfl ?_))))); (all_goals (try omega)); (all_goals (try ((first | with_reducible refine Vc.mk ?_ | refine Vc.mk ?_); (try exact GLt)))); (all_goals (try (exact ⟨by decide, by decide⟩))))
        ((try (conv => whnf)); refine ⟨[0, 1], rfl, rfl, ?_, ?_⟩); (repeat' (conv => whnf); (first | with_reducible refine And.intro ?_ ?_ | with_reducible exact True.intro | with_reducible exact Or.inl rfl | (refine Vc.mk ?_; (first | exact rfl | exact ⟨rfl, .inl rfl⟩ | omega | skip))))
        all_goals rfl
  · have hin := inP_f (kn := kn) hp
    have hE : takeE ⟨kn, ow⟩ p (q, g, l) = 1 := if_neg hin
    have hT : takeV ⟨kn, ow⟩ p (q, g, l) = 0 := if_neg (fun h => hin h.1)
    have hV : takeB ⟨kn, ow⟩ p (q, g, l) = ⟨kn, ow⟩ := if_neg (fun h => hin h.1)
    rw [hE, hT, hV]
    clear hE hT hV hin hkn
    revert hp
    refine np3 (p := fun ow => ¬ (0 ≤ p ∧ p < (ow.length : Int)) → Fn Try.prog 77 [.box 0 0, .v (.int .i64 p), .agg (stRow (q, g, l))] (rbL kn ow) (.tup [.v (.int .i64 0), .v (.int .i64 1)]) (rbM ⟨kn, ow⟩)) h1 h3 (fun a => ?_) (fun a b => ?_) (fun a b c => ?_)
    all_goals
      intro hp
      simp only [List.length_cons, List.length_nil] at hp
      unfold stRow
      dsimp only
      refine fn_of mixed [] [] Try.func77 rfl (by decide +kernel) Try.ntmps77 rfl (congrArg Array.toList Try.results77) rfl (by decide +kernel) ?_
      ((iterate 2 all_goals (try (repeat' (conv => whnf); (first | with_reducible refine And.intro ?_ ?_ | with_reducible exact True.intro | (intro h; (first | cases h | ((try simp only [vis, Int.reduceToNat] at h); (try (exfalso; omega))))) | (with_reducible refine Vc.mk ?_; fail) | (with_reducible refine cutG ?_; fail) | refine idx_map ?_ ?_ | refine idx_mapI ?_ ?_ ?_ | (refine StopAt.mk (by decide) (by decide) ?_) | (refine StopRow.mk _ rfl ?_))))); (all_goals (try omega)); (all_goals (try ((first | with_reducible refine Vc.mk ?_ | refine Vc.mk ?_); (try exact GLt)))); (all_goals (try (exact ⟨by decide, by decide⟩))))
      all_goals (try (exfalso; omega))
      all_goals (((try (conv => whnf)); refine ⟨[0, 1], rfl, rfl, ?_, ?_⟩); (repeat' (conv => whnf); (first | with_reducible refine And.intro ?_ ?_ | with_reducible exact True.intro | with_reducible exact Or.inl rfl | (refine Vc.mk ?_; (first | exact rfl | exact ⟨rfl, .inl rfl⟩ | omega | skip)))); all_goals rfl)
set_option maxHeartbeats 16000000 in
set_option maxRecDepth 100000 in
theorem rbheard_ok (kn : Int → Option St3) (ow : List (Int → Bool)) (h1 : 1 ≤ ow.length) (h3 : ow.length ≤ 3) (hkn : ∀ n s, kn n = some s → s.1 = n ∧ sf s = 0) (p : Int) (s : St3) : Fn Try.prog 79 [.box 0 0, .v (.int .i64 p), .agg (stRow s)] (rbL kn ow) (.v (.int .i64 (takeE ⟨kn, ow⟩ p s))) (rbM (hrdB ⟨kn, ow⟩ p s)) := by
  obtain ⟨q, g, l⟩ := s
  have hck := rsfault_ok q g l
  have hnn := sfault_nonneg q g l
  by_cases hp : 0 ≤ p ∧ p < ow.length
  · have hin := inP_t (kn := kn) hp
    by_cases h0 : sfault q g l = 0
    · have hE : takeE ⟨kn, ow⟩ p (q, g, l) = 0 := (if_pos hin).trans h0
      rw [hE]
      rw [h0] at hck
      have hg := sfault_good h0
      rcases rhrK (ow := ow) hkn h0 with ⟨hn, hk⟩ | ⟨hs, v, hk, hw⟩
      · rw [show hrdB ⟨kn, ow⟩ p (q, g, l) = ⟨kn, modW ow p fun o => upI o q false⟩ from if_pos ⟨hin, h0, by rw [hk]; decide⟩]
        exact rbheard_1 kn ow h1 h3 p hp q g l hg.1 hg.2.1 hck hn
      · by_cases hv : v ≤ 0
        · rw [show hrdB ⟨kn, ow⟩ p (q, g, l) = ⟨kn, modW ow p fun o => upI o q false⟩ from if_pos ⟨hin, h0, by rw [hk]; exact hv⟩]
          exact rbheard_2 kn ow h1 h3 p hp q g l hg.1 hg.2.1 hck hs hv hw
        · rw [show hrdB ⟨kn, ow⟩ p (q, g, l) = ⟨kn, ow⟩ from if_neg (fun h => hv (by rw [← hk]; exact h.2.2))]
          exact rbheard_3 kn ow h1 h3 p hp q g l hg.1 hg.2.1 hck hs hv hw
    · have hE : takeE ⟨kn, ow⟩ p (q, g, l) = sfault q g l := if_pos hin
      have hV : hrdB ⟨kn, ow⟩ p (q, g, l) = ⟨kn, ow⟩ := if_neg (fun h => h0 h.2.1)
      rw [hE, hV]
      generalize sfault q g l = F at *
      clear hE hV hin hkn
      refine np3p (C := fun ow p => Fn Try.prog 79 [.box 0 0, .v (.int .i64 p), .agg (stRow (q, g, l))] (rbL kn ow) (.v (.int .i64 F)) (rbM ⟨kn, ow⟩)) h1 h3 hp (fun a => ?_) (fun a b => ?_) (fun a b => ?_) (fun a b c => ?_) (fun a b c => ?_) (fun a b c => ?_)
      all_goals
        unfold stRow
        dsimp only
        refine fn_of mixed [] [] Try.func79 rfl (by decide +kernel) Try.ntmps79 rfl (congrArg Array.toList Try.results79) rfl (by decide +kernel) ?_
        ((iterate 2 all_goals (try (repeat' (conv => whnf); (first | with_reducible refine And.intro ?_ ?_ | with_reducible exact True.intro | (intro h; (first | cases h | ((try simp only [vis, Int.reduceToNat] at h); (try (exfalso; omega))))) | (with_reducible refine Vc.mk ?_; fail) | (with_reducible refine cutG ?_; fail) | refine idx_map ?_ ?_ | refine idx_mapI ?_ ?_ ?_ | (refine StopAt.mk (by decide) (by decide) ?_) | (refine StopRow.mk _ rfl ?_))))); (all_goals (try omega)); (all_goals (try ((first | with_reducible refine Vc.mk ?_ | refine Vc.mk ?_); (try exact GLt)))); (all_goals (try (exact ⟨by decide, by decide⟩))))
        (all_goals (try ((first | (refine call0 (hck) ?_ ?_) | (refine pure0 (hck) rfl ?_ ?_)); (· (repeat' (conv => whnf); (first | with_reducible refine And.intro ?_ ?_ | with_reducible exact True.intro | with_reducible exact Or.inl rfl | (refine Vc.mk ?_; (first | exact rfl | exact ⟨rfl, .inl rfl⟩ | omega | skip))))); (iterate 2 all_goals (try (repeat' (conv => whnf); (first | with_reducible refine And.intro ?_ ?_ | with_reducible exact True.intro | (intro h; (first | cases h | ((try simp only [vis, Int.reduceToNat] at h); (try (exfalso; omega))))) | (with_reducible refine Vc.mk ?_; fail) | (with_reducible refine cutG ?_; fail) | refine idx_map ?_ ?_ | refine idx_mapI ?_ ?_ ?_ )))))))
        ((iterate 2 all_goals (try (repeat' (conv => whnf); (first | with_reducible refine And.intro ?_ ?_ | with_reducible exact True.intro | (intro h; (first | cases h | ((try simp only [vis, Int.reduceToNat] at h); (try (exfalso; omega))))) | (with_reducible refine Vc.mk ?_; fail) | (with_reducible refine cutG ?_; fail) | refine idx_map ?_ ?_ | refine idx_mapI ?_ ?_ ?_ | (refine StopAt.mk (by decide) (by decide) ?_) | (refine StopRow.mk _ rfl ?_))))); (all_goals (try omega)); (all_goals (try ((first | with_reducible refine Vc.mk ?_ | refine Vc.mk ?_); (try exact GLt)))); (all_goals (try (exact ⟨by decide, by decide⟩))))
        ((try (conv => whnf)); refine ⟨[0, 1], rfl, rfl, ?_, ?_⟩); (repeat' (conv => whnf); (first | with_reducible refine And.intro ?_ ?_ | with_reducible exact True.intro | with_reducible exact Or.inl rfl | (refine Vc.mk ?_; (first | exact rfl | exact ⟨rfl, .inl rfl⟩ | omega | skip))))
        all_goals rfl
  · have hin := inP_f (kn := kn) hp
    have hE : takeE ⟨kn, ow⟩ p (q, g, l) = 1 := if_neg hin
    have hV : hrdB ⟨kn, ow⟩ p (q, g, l) = ⟨kn, ow⟩ := if_neg (fun h => hin h.1)
    rw [hE, hV]
    clear hE hV hin hkn
    revert hp
    refine np3 (p := fun ow => ¬ (0 ≤ p ∧ p < (ow.length : Int)) → Fn Try.prog 79 [.box 0 0, .v (.int .i64 p), .agg (stRow (q, g, l))] (rbL kn ow) (.v (.int .i64 1)) (rbM ⟨kn, ow⟩)) h1 h3 (fun a => ?_) (fun a b => ?_) (fun a b c => ?_)
    all_goals
      intro hp
      simp only [List.length_cons, List.length_nil] at hp
      unfold stRow
      dsimp only
      refine fn_of mixed [] [] Try.func79 rfl (by decide +kernel) Try.ntmps79 rfl (congrArg Array.toList Try.results79) rfl (by decide +kernel) ?_
      ((iterate 2 all_goals (try (repeat' (conv => whnf); (first | with_reducible refine And.intro ?_ ?_ | with_reducible exact True.intro | (intro h; (first | cases h | ((try simp only [vis, Int.reduceToNat] at h); (try (exfalso; omega))))) | (with_reducible refine Vc.mk ?_; fail) | (with_reducible refine cutG ?_; fail) | refine idx_map ?_ ?_ | refine idx_mapI ?_ ?_ ?_ | (refine StopAt.mk (by decide) (by decide) ?_) | (refine StopRow.mk _ rfl ?_))))); (all_goals (try omega)); (all_goals (try ((first | with_reducible refine Vc.mk ?_ | refine Vc.mk ?_); (try exact GLt)))); (all_goals (try (exact ⟨by decide, by decide⟩))))
      all_goals (try (exfalso; omega))
      all_goals (((try (conv => whnf)); refine ⟨[0, 1], rfl, rfl, ?_, ?_⟩); (repeat' (conv => whnf); (first | with_reducible refine And.intro ?_ ?_ | with_reducible exact True.intro | with_reducible exact Or.inl rfl | (refine Vc.mk ?_; (first | exact rfl | exact ⟨rfl, .inl rfl⟩ | omega | skip)))); all_goals rfl)
set_option maxHeartbeats 16000000 in
set_option maxRecDepth 100000 in
theorem rbmeet_ok (kn : Int → Option St3) (ow : List (Int → Bool)) (h1 : 1 ≤ ow.length) (h3 : ow.length ≤ 3) (hkn : ∀ n s, kn n = some s → s.1 = n ∧ sf s = 0) (p : Int) : Fn Try.prog 81 [.box 0 0, .v (.int .i64 p)] (rbL kn ow) (.v (.int .i64 (metE ⟨kn, ow⟩ p))) (rbM (metB ⟨kn, ow⟩ p)) := by
  by_cases hp : 0 ≤ p ∧ p < ow.length
  · have hin := inP_t (kn := kn) hp
    rw [show metE ⟨kn, ow⟩ p = 0 from if_pos hin, show metB ⟨kn, ow⟩ p = ⟨kn, modW ow p fun o n => o n || (kn n).isSome⟩ from if_pos hin]
    exact rbmeet_1 kn ow h1 h3 hkn p hp
  · have hin := inP_f (kn := kn) hp
    rw [show metE ⟨kn, ow⟩ p = 1 from if_neg hin, show metB ⟨kn, ow⟩ p = ⟨kn, ow⟩ from if_neg hin]
    clear hin hkn
    revert hp
    refine np3 (p := fun ow => ¬ (0 ≤ p ∧ p < (ow.length : Int)) → Fn Try.prog 81 [.box 0 0, .v (.int .i64 p)] (rbL kn ow) (.v (.int .i64 1)) (rbM ⟨kn, ow⟩)) h1 h3 (fun a => ?_) (fun a b => ?_) (fun a b c => ?_)
    all_goals
      intro hp
      simp only [List.length_cons, List.length_nil] at hp
      refine fn_of mixed [] [] Try.func81 rfl (by decide +kernel) Try.ntmps81 rfl (congrArg Array.toList Try.results81) rfl (by decide +kernel) ?_
      ((iterate 2 all_goals (try (repeat' (conv => whnf); (first | with_reducible refine And.intro ?_ ?_ | with_reducible exact True.intro | (intro h; (first | cases h | ((try simp only [vis, Int.reduceToNat] at h); (try (exfalso; omega))))) | (with_reducible refine Vc.mk ?_; fail) | (with_reducible refine cutG ?_; fail) | refine idx_map ?_ ?_ | refine idx_mapI ?_ ?_ ?_ | (refine StopAt.mk (by decide) (by decide) ?_) | (refine StopRow.mk _ rfl ?_))))); (all_goals (try omega)); (all_goals (try ((first | with_reducible refine Vc.mk ?_ | refine Vc.mk ?_); (try exact GLt)))); (all_goals (try (exact ⟨by decide, by decide⟩))))
      all_goals (try (exfalso; omega))
      all_goals (((try (conv => whnf)); refine ⟨[0, 1], rfl, rfl, ?_, ?_⟩); (repeat' (conv => whnf); (first | with_reducible refine And.intro ?_ ?_ | with_reducible exact True.intro | with_reducible exact Or.inl rfl | (refine Vc.mk ?_; (first | exact rfl | exact ⟨rfl, .inl rfl⟩ | omega | skip)))); all_goals rfl)
set_option maxHeartbeats 16000000 in
set_option maxRecDepth 100000 in
theorem rbpart_ok (kn : Int → Option St3) (ow : List (Int → Bool)) (h1 : 1 ≤ ow.length) (h3 : ow.length ≤ 3) (p : Int) : Fn Try.prog 83 [.box 0 0, .v (.int .i64 p)] (rbL kn ow) (.tup []) (rbM (parB ⟨kn, ow⟩ p)) := by
  by_cases hp : 0 ≤ p ∧ p < ow.length
  · have hin := inP_t (kn := kn) hp
    rw [show parB ⟨kn, ow⟩ p = ⟨kn, modW ow p fun _ _ => false⟩ from if_pos hin]
    exact rbpart_1 kn ow h1 h3 p hp
  · have hin := inP_f (kn := kn) hp
    rw [show parB ⟨kn, ow⟩ p = ⟨kn, ow⟩ from if_neg hin]
    clear hin
    revert hp
    refine np3 (p := fun ow => ¬ (0 ≤ p ∧ p < (ow.length : Int)) → Fn Try.prog 83 [.box 0 0, .v (.int .i64 p)] (rbL kn ow) (.tup []) (rbM ⟨kn, ow⟩)) h1 h3 (fun a => ?_) (fun a b => ?_) (fun a b c => ?_)
    all_goals
      intro hp
      simp only [List.length_cons, List.length_nil] at hp
      refine fn_of mixed [] [] Try.func83 rfl (by decide +kernel) Try.ntmps83 rfl (congrArg Array.toList Try.results83) rfl (by decide +kernel) ?_
      ((iterate 2 all_goals (try (repeat' (conv => whnf); (first | with_reducible refine And.intro ?_ ?_ | with_reducible exact True.intro | (intro h; (first | cases h | ((try simp only [vis, Int.reduceToNat] at h); (try (exfalso; omega))))) | (with_reducible refine Vc.mk ?_; fail) | (with_reducible refine cutG ?_; fail) | refine idx_map ?_ ?_ | refine idx_mapI ?_ ?_ ?_ | (refine StopAt.mk (by decide) (by decide) ?_) | (refine StopRow.mk _ rfl ?_))))); (all_goals (try omega)); (all_goals (try ((first | with_reducible refine Vc.mk ?_ | refine Vc.mk ?_); (try exact GLt)))); (all_goals (try (exact ⟨by decide, by decide⟩))))
      all_goals (try (exfalso; omega))
      all_goals (((try (conv => whnf)); refine ⟨[0, 1], rfl, rfl, ?_, ?_⟩); (repeat' (conv => whnf); (first | with_reducible refine And.intro ?_ ?_ | with_reducible exact True.intro | with_reducible exact Or.inl rfl | (refine Vc.mk ?_; (first | exact rfl | exact ⟨rfl, .inl rfl⟩ | omega | skip)))); all_goals rfl)
theorem getW_out : ∀ {ow : List (Int → Bool)} {p : Int}, ¬ (0 ≤ p ∧ p < ow.length) → getW ow p = fun _ => false
  | [], p, h => rfl
  | o :: r, p, h => by
    funext n
    unfold getW
    simp only [List.length_cons] at h
    rw [if_neg (by omega), getW_out (by omega)]
set_option maxHeartbeats 16000000 in
set_option maxRecDepth 100000 in
theorem rbowed_ok (kn : Int → Option St3) (ow : List (Int → Bool)) (h1 : 1 ≤ ow.length) (h3 : ow.length ≤ 3) (hkn : ∀ n s, kn n = some s → s.1 = n ∧ sf s = 0) (p : Int) : Fn Try.prog 88 [.box 0 0, .v (.int .i64 p)] (rbL kn ow) (.sl 3 ((owdB ⟨kn, ow⟩ p).map stRow) none) (rbL kn ow) := by
  have hV : owdB ⟨kn, ow⟩ p = owdK kn (getW ow p) 6 := by unfold owdB owdK; rw [stsK_eq kn (ow := ow)]
  rw [hV]
  by_cases hp : 0 ≤ p ∧ p < ow.length
  · exact rbowed_1 kn ow h1 h3 hkn p hp
  · rw [getW_out hp, show owdK kn (fun _ => false) 6 = [] from by unfold owdK; simp]
    clear hV hkn
    revert hp
    refine np3 (p := fun ow => ¬ (0 ≤ p ∧ p < (ow.length : Int)) → Fn Try.prog 88 [.box 0 0, .v (.int .i64 p)] (rbL kn ow) (.sl 3 (([] : List St3).map stRow) none) (rbL kn ow)) h1 h3 (fun a => ?_) (fun a b => ?_) (fun a b c => ?_)
    all_goals
      intro hp
      simp only [List.length_cons, List.length_nil] at hp
      refine fn_of mixed [] [] Try.func88 rfl (by decide +kernel) Try.ntmps88 rfl (congrArg Array.toList Try.results88) rfl (by decide +kernel) ?_
      ((iterate 2 all_goals (try (repeat' (conv => whnf); (first | with_reducible refine And.intro ?_ ?_ | with_reducible exact True.intro | (intro h; (first | cases h | ((try simp only [vis, Int.reduceToNat] at h); (try (exfalso; omega))))) | (with_reducible refine Vc.mk ?_; fail) | (with_reducible refine cutG ?_; fail) | refine idx_map ?_ ?_ | refine idx_mapI ?_ ?_ ?_ | (refine StopAt.mk (by decide) (by decide) ?_) | (refine StopRow.mk _ rfl ?_))))); (all_goals (try omega)); (all_goals (try ((first | with_reducible refine Vc.mk ?_ | refine Vc.mk ?_); (try exact GLt)))); (all_goals (try (exact ⟨by decide, by decide⟩))))
    · refine lpG (fun (n : Nat) => ⟨[(0, .box 0 0), (1, .v (.int .i64 p)), (5, .v (.slice none 0 0)), (6, .v (.int .i64 ((n : Int) + 1)))], rbL kn [a]⟩) (fun n => n ≤ 6) (fun n => 6 - n) 0 (by omega) (by (refine le_sub [0, 1] rfl rfl ?_ ?_); all_goals ((repeat' (conv => whnf); (first | with_reducible refine And.intro ?_ ?_ | with_reducible exact True.intro | with_reducible exact Or.inl rfl | (refine Vc.mk ?_; (first | exact rfl | exact ⟨rfl, .inl rfl⟩ | omega | skip)))); all_goals (try rfl))) ?_
      rintro n hn
      ((iterate 2 all_goals (try (repeat' (conv => whnf); (first | with_reducible refine And.intro ?_ ?_ | with_reducible exact True.intro | (intro h; (first | cases h | ((try simp only [vis, Int.reduceToNat] at h); (try (exfalso; omega))))) | (with_reducible refine Vc.mk ?_; fail) | (with_reducible refine cutG ?_; fail) | refine idx_map ?_ ?_ | refine idx_mapI ?_ ?_ ?_ | (refine StopAt.mk (by decide) (by decide) ?_) | (refine StopRow.mk _ rfl ?_))))); (all_goals (try omega)); (all_goals (try ((first | with_reducible refine Vc.mk ?_ | refine Vc.mk ?_); (try exact GLt)))); (all_goals (try (exact ⟨by decide, by decide⟩))))
      all_goals first
        | (exfalso; omega)
        | (refine nextG (n + 1) (by omega) (by omega) ?_; (refine le_sub [0, 1] rfl rfl ?_ ?_); all_goals ((repeat' (conv => whnf); (first | with_reducible refine And.intro ?_ ?_ | with_reducible exact True.intro | with_reducible exact Or.inl rfl | (refine Vc.mk ?_; (first | exact rfl | exact ⟨rfl, .inl rfl⟩ | omega | skip)))); all_goals rfl); done)
        | (((try (conv => whnf)); refine ⟨[0, 1], rfl, rfl, ?_, ?_⟩); (repeat' (conv => whnf); (first | with_reducible refine And.intro ?_ ?_ | with_reducible exact True.intro | with_reducible exact Or.inl rfl | (refine Vc.mk ?_; (first | exact rfl | exact ⟨rfl, .inl rfl⟩ | omega | skip)))); all_goals (try rfl))
    · refine lpG (fun (n : Nat) => ⟨[(0, .box 0 0), (1, .v (.int .i64 p)), (5, .v (.slice none 0 0)), (6, .v (.int .i64 ((n : Int) + 1)))], rbL kn [a, b]⟩) (fun n => n ≤ 6) (fun n => 6 - n) 0 (by omega) (by (refine le_sub [0, 1] rfl rfl ?_ ?_); all_goals ((repeat' (conv => whnf); (first | with_reducible refine And.intro ?_ ?_ | with_reducible exact True.intro | with_reducible exact Or.inl rfl | (refine Vc.mk ?_; (first | exact rfl | exact ⟨rfl, .inl rfl⟩ | omega | skip)))); all_goals (try rfl))) ?_
      rintro n hn
      ((iterate 2 all_goals (try (repeat' (conv => whnf); (first | with_reducible refine And.intro ?_ ?_ | with_reducible exact True.intro | (intro h; (first | cases h | ((try simp only [vis, Int.reduceToNat] at h); (try (exfalso; omega))))) | (with_reducible refine Vc.mk ?_; fail) | (with_reducible refine cutG ?_; fail) | refine idx_map ?_ ?_ | refine idx_mapI ?_ ?_ ?_ | (refine StopAt.mk (by decide) (by decide) ?_) | (refine StopRow.mk _ rfl ?_))))); (all_goals (try omega)); (all_goals (try ((first | with_reducible refine Vc.mk ?_ | refine Vc.mk ?_); (try exact GLt)))); (all_goals (try (exact ⟨by decide, by decide⟩))))
      all_goals first
        | (exfalso; omega)
        | (refine nextG (n + 1) (by omega) (by omega) ?_; (refine le_sub [0, 1] rfl rfl ?_ ?_); all_goals ((repeat' (conv => whnf); (first | with_reducible refine And.intro ?_ ?_ | with_reducible exact True.intro | with_reducible exact Or.inl rfl | (refine Vc.mk ?_; (first | exact rfl | exact ⟨rfl, .inl rfl⟩ | omega | skip)))); all_goals rfl); done)
        | (((try (conv => whnf)); refine ⟨[0, 1], rfl, rfl, ?_, ?_⟩); (repeat' (conv => whnf); (first | with_reducible refine And.intro ?_ ?_ | with_reducible exact True.intro | with_reducible exact Or.inl rfl | (refine Vc.mk ?_; (first | exact rfl | exact ⟨rfl, .inl rfl⟩ | omega | skip)))); all_goals (try rfl))
    · refine lpG (fun (n : Nat) => ⟨[(0, .box 0 0), (1, .v (.int .i64 p)), (5, .v (.slice none 0 0)), (6, .v (.int .i64 ((n : Int) + 1)))], rbL kn [a, b, c]⟩) (fun n => n ≤ 6) (fun n => 6 - n) 0 (by omega) (by (refine le_sub [0, 1] rfl rfl ?_ ?_); all_goals ((repeat' (conv => whnf); (first | with_reducible refine And.intro ?_ ?_ | with_reducible exact True.intro | with_reducible exact Or.inl rfl | (refine Vc.mk ?_; (first | exact rfl | exact ⟨rfl, .inl rfl⟩ | omega | skip)))); all_goals (try rfl))) ?_
      rintro n hn
      ((iterate 2 all_goals (try (repeat' (conv => whnf); (first | with_reducible refine And.intro ?_ ?_ | with_reducible exact True.intro | (intro h; (first | cases h | ((try simp only [vis, Int.reduceToNat] at h); (try (exfalso; omega))))) | (with_reducible refine Vc.mk ?_; fail) | (with_reducible refine cutG ?_; fail) | refine idx_map ?_ ?_ | refine idx_mapI ?_ ?_ ?_ | (refine StopAt.mk (by decide) (by decide) ?_) | (refine StopRow.mk _ rfl ?_))))); (all_goals (try omega)); (all_goals (try ((first | with_reducible refine Vc.mk ?_ | refine Vc.mk ?_); (try exact GLt)))); (all_goals (try (exact ⟨by decide, by decide⟩))))
      all_goals first
        | (exfalso; omega)
        | (refine nextG (n + 1) (by omega) (by omega) ?_; (refine le_sub [0, 1] rfl rfl ?_ ?_); all_goals ((repeat' (conv => whnf); (first | with_reducible refine And.intro ?_ ?_ | with_reducible exact True.intro | with_reducible exact Or.inl rfl | (refine Vc.mk ?_; (first | exact rfl | exact ⟨rfl, .inl rfl⟩ | omega | skip)))); all_goals rfl); done)
        | (((try (conv => whnf)); refine ⟨[0, 1], rfl, rfl, ?_, ?_⟩); (repeat' (conv => whnf); (first | with_reducible refine And.intro ?_ ?_ | with_reducible exact True.intro | with_reducible exact Or.inl rfl | (refine Vc.mk ?_; (first | exact rfl | exact ⟨rfl, .inl rfl⟩ | omega | skip)))); all_goals (try rfl))
end Go.Proofs.Ytimfnpjcedjmiaa
