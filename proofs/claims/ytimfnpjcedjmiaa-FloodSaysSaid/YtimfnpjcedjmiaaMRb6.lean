/-
  The reference's base of states: who is met, who parts.
-/
import Derived.Test.YtimfnpjcedjmiaaMRb2
import Derived.Test.YtimfnpjcedjmiaaGE
namespace Go.Proofs.Ytimfnpjcedjmiaa
open Go.RowKit
set_option linter.unusedSimpArgs false
set_option linter.unusedVariables false
theorem kn_out {kn : Int → Option St3} (hkn : ∀ n s, kn n = some s → s.1 = n ∧ sf s = 0) {n : Int} (h : n < 1 ∨ 6 < n) : (kn n).isSome = false := by
  cases hk : kn n with
  | none => rfl
  | some s => have := (Ba.ok.range (b := ⟨kn, [fun _ => false]⟩) ⟨hkn, by simp, by simp⟩ hk); omega
def MetT (kn : Int → Option St3) (a f : Int → Bool) (n : Nat) : Prop := ∀ i : Int, f i = (a i || (decide (1 ≤ i ∧ i ≤ n) && (kn i).isSome))
theorem MetT.start {kn : Int → Option St3} {a : Int → Bool} : MetT kn a a 0 := fun i => by rw [decide_eq_false (by omega)]; simp
theorem MetT.put {kn : Int → Option St3} {a f : Int → Bool} {n : Nat} (h : MetT kn a f n) {N : Int} (hN : N = (n : Int) + 1) (hk : (kn N).isSome = true) : MetT kn a (upI f N true) (n + 1) := by
  intro i
  by_cases e : i = N
  · subst e; rw [upI_self, decide_eq_true (by omega), hk]; simp
  · rw [upI_ne e, h i]
    congr 2
    exact decide_eq_decide.2 (by omega)
theorem MetT.keep {kn : Int → Option St3} {a f : Int → Bool} {n : Nat} (h : MetT kn a f n) {N : Int} (hN : N = (n : Int) + 1) (hk : (kn N).isSome = false) : MetT kn a f (n + 1) := by
  intro i
  by_cases e : i = N
  · subst e; rw [h i, hk]; simp
  · rw [h i]
    congr 2
    exact decide_eq_decide.2 (by omega)
theorem MetT.end {kn : Int → Option St3} (hkn : ∀ n s, kn n = some s → s.1 = n ∧ sf s = 0) {a f : Int → Bool} (h : MetT kn a f 6) : f = fun i => a i || (kn i).isSome := by
  funext i
  rw [h i]
  by_cases e : 1 ≤ i ∧ i ≤ 6
  · rw [decide_eq_true (by omega)]; simp
  · rw [kn_out hkn (by omega)]; simp
def rbA (kn : Int → Option St3) (ow : List (Int → Bool)) (x : List (Nat × AV)) : AS := ⟨(0, .box 0 0) :: x, rbL kn ow⟩
set_option maxHeartbeats 64000000 in
set_option maxRecDepth 100000 in
theorem rbmeet_1 (kn : Int → Option St3) (ow : List (Int → Bool)) (h1 : 1 ≤ ow.length) (h3 : ow.length ≤ 3) (hkn : ∀ n s, kn n = some s → s.1 = n ∧ sf s = 0) (p : Int) (hp : 0 ≤ p ∧ p < ow.length) : Fn Try.prog 81 [.box 0 0, .v (.int .i64 p)] (rbL kn ow) (.v (.int .i64 0)) (rbL kn (modW ow p fun o n => o n || (kn n).isSome)) := by
  have hsq := fun n => (seqOk hkn n).pos
  have hEnd := fun (a f : Int → Bool) (h : MetT kn a f 6) => MetT.end hkn h
  clear hkn
  refine np3p (C := fun ow p => Fn Try.prog 81 [.box 0 0, .v (.int .i64 p)] (rbL kn ow) (.v (.int .i64 0)) (rbL kn (modW ow p fun o n => o n || (kn n).isSome))) h1 h3 hp (fun a => ?_) (fun a b => ?_) (fun a b => ?_) (fun a b c => ?_) (fun a b c => ?_) (fun a b c => ?_)
  all_goals
    refine fn_of mixed [] [] Try.func81 rfl (by decide +kernel) Try.ntmps81 rfl (congrArg Array.toList Try.results81) rfl (by decide +kernel) ?_
    ((iterate 2 all_goals (try (repeat' (conv => whnf); (first | with_reducible refine And.intro ?_ ?_ | with_reducible exact True.intro | (intro h; (first | cases h | ((try simp only [vis, Int.reduceToNat] at h); (try (exfalso; omega))))) | (with_reducible refine Vc.mk ?_; fail) | (with_reducible refine cutG ?_; fail) | refine idx_map ?_ ?_ | refine idx_mapI ?_ ?_ ?_ | (refine StopAt.mk (by decide) (by decide) ?_) | (refine StopRow.mk _ rfl ?_))))); (all_goals (try omega)); (all_goals (try ((first | with_reducible refine Vc.mk ?_ | refine Vc.mk ?_); (try exact GLt)))); (all_goals (try (exact ⟨by decide, by decide⟩))))
  · refine lpG2 (fun (n : Nat) (f : Int → Bool) => rbA kn [f] [(1, .v (.int .i64 0)), (5, .v (.int .i64 ((n : Int) + 1)))]) (fun n f => n ≤ 6 ∧ MetT kn a f n) (fun n f => 6 - n) 0 a ⟨by omega, MetT.start⟩ (by (refine le_sub [0, 1] rfl rfl ?_ ?_); all_goals ((repeat' (conv => whnf); (first | with_reducible refine And.intro ?_ ?_ | with_reducible exact True.intro | with_reducible exact Or.inl rfl | (refine Vc.mk ?_; (first | exact rfl | exact ⟨rfl, .inl rfl⟩ | omega | skip)))); all_goals rfl)) ?_
    rintro n f ⟨hn, hf⟩
    by_cases hn6 : n < 6
    · obtain ⟨N, hN⟩ : ∃ N : Int, N = (n : Int) + 1 := ⟨_, rfl⟩
      have hq := hsq N
      have hS1 := fun hk => hf.put hN hk
      have hS2 := fun hk => hf.keep hN hk
      obtain ⟨n', hn'⟩ : ∃ n', n' = n + 1 := ⟨_, rfl⟩
      rw [← hn'] at hS1 hS2
      clear hf hsq hEnd
      refine or6 (by omega : n = 0 ∨ n = 1 ∨ n = 2 ∨ n = 3 ∨ n = 4 ∨ n = 5) (fun en => ?_) (fun en => ?_) (fun en => ?_) (fun en => ?_) (fun en => ?_) (fun en => ?_)
      all_goals
        subst en
        first | (obtain rfl : N = 1 := hN) | (obtain rfl : N = 2 := hN) | (obtain rfl : N = 3 := hN) | (obtain rfl : N = 4 := hN) | (obtain rfl : N = 5 := hN) | (obtain rfl : N = 6 := hN)
        unfold rbA
        dsimp only
        ((iterate 2 all_goals (try (repeat' (conv => whnf); (first | with_reducible refine And.intro ?_ ?_ | with_reducible exact True.intro | (intro h; (first | cases h | ((try simp only [vis, Int.reduceToNat] at h); (try (exfalso; omega))))) | (with_reducible refine Vc.mk ?_; fail) | (with_reducible refine cutG ?_; fail) | refine idx_map ?_ ?_ | refine idx_mapI ?_ ?_ ?_ | (refine StopAt.mk (by decide) (by decide) ?_) | (refine StopRow.mk _ rfl ?_))))); (all_goals (try omega)); (all_goals (try ((first | with_reducible refine Vc.mk ?_ | refine Vc.mk ?_); (try exact GLt)))); (all_goals (try (exact ⟨by decide, by decide⟩))))
        all_goals first
          | (refine nextG2 n' (upI f _ true) ⟨by omega, hS1 (hq.1 (by omega))⟩ (by omega) ?_; subst hn'; (refine le_sub [0, 1] rfl rfl ?_ ?_); all_goals ((repeat' (conv => whnf); (first | with_reducible refine And.intro ?_ ?_ | with_reducible exact True.intro | with_reducible exact Or.inl rfl | (refine Vc.mk ?_; (first | exact rfl | exact ⟨rfl, .inl rfl⟩ | omega | skip)))); all_goals rfl); done)
          | (refine nextG2 n' f ⟨by omega, hS2 (by first | (exact Bool.eq_false_iff.2 (fun hx => by have := hq.2 hx; omega)))⟩ (by omega) ?_; subst hn'; (refine le_sub [0, 1] rfl rfl ?_ ?_); all_goals ((repeat' (conv => whnf); (first | with_reducible refine And.intro ?_ ?_ | with_reducible exact True.intro | with_reducible exact Or.inl rfl | (refine Vc.mk ?_; (first | exact rfl | exact ⟨rfl, .inl rfl⟩ | omega | skip)))); all_goals rfl); done)
    · have en : n = 6 := by omega
      subst en
      obtain rfl := hEnd _ _ hf
      unfold rbA
      dsimp only
      ((iterate 2 all_goals (try (repeat' (conv => whnf); (first | with_reducible refine And.intro ?_ ?_ | with_reducible exact True.intro | (intro h; (first | cases h | ((try simp only [vis, Int.reduceToNat] at h); (try (exfalso; omega))))) | (with_reducible refine Vc.mk ?_; fail) | (with_reducible refine cutG ?_; fail) | refine idx_map ?_ ?_ | refine idx_mapI ?_ ?_ ?_ | (refine StopAt.mk (by decide) (by decide) ?_) | (refine StopRow.mk _ rfl ?_))))); (all_goals (try omega)); (all_goals (try ((first | with_reducible refine Vc.mk ?_ | refine Vc.mk ?_); (try exact GLt)))); (all_goals (try (exact ⟨by decide, by decide⟩))))
      ((try (conv => whnf)); refine ⟨[0, 1], rfl, rfl, ?_, ?_⟩); (repeat' (conv => whnf); (first | with_reducible refine And.intro ?_ ?_ | with_reducible exact True.intro | with_reducible exact Or.inl rfl | (refine Vc.mk ?_; (first | exact rfl | exact ⟨rfl, .inl rfl⟩ | omega | skip))))
      all_goals rfl
  · refine lpG2 (fun (n : Nat) (f : Int → Bool) => rbA kn [f, b] [(1, .v (.int .i64 0)), (5, .v (.int .i64 ((n : Int) + 1)))]) (fun n f => n ≤ 6 ∧ MetT kn a f n) (fun n f => 6 - n) 0 a ⟨by omega, MetT.start⟩ (by (refine le_sub [0, 1] rfl rfl ?_ ?_); all_goals ((repeat' (conv => whnf); (first | with_reducible refine And.intro ?_ ?_ | with_reducible exact True.intro | with_reducible exact Or.inl rfl | (refine Vc.mk ?_; (first | exact rfl | exact ⟨rfl, .inl rfl⟩ | omega | skip)))); all_goals rfl)) ?_
    rintro n f ⟨hn, hf⟩
    by_cases hn6 : n < 6
    · obtain ⟨N, hN⟩ : ∃ N : Int, N = (n : Int) + 1 := ⟨_, rfl⟩
      have hq := hsq N
      have hS1 := fun hk => hf.put hN hk
      have hS2 := fun hk => hf.keep hN hk
      obtain ⟨n', hn'⟩ : ∃ n', n' = n + 1 := ⟨_, rfl⟩
      rw [← hn'] at hS1 hS2
      clear hf hsq hEnd
      refine or6 (by omega : n = 0 ∨ n = 1 ∨ n = 2 ∨ n = 3 ∨ n = 4 ∨ n = 5) (fun en => ?_) (fun en => ?_) (fun en => ?_) (fun en => ?_) (fun en => ?_) (fun en => ?_)
      all_goals
        subst en
        first | (obtain rfl : N = 1 := hN) | (obtain rfl : N = 2 := hN) | (obtain rfl : N = 3 := hN) | (obtain rfl : N = 4 := hN) | (obtain rfl : N = 5 := hN) | (obtain rfl : N = 6 := hN)
        unfold rbA
        dsimp only
        ((iterate 2 all_goals (try (repeat' (conv => whnf); (first | with_reducible refine And.intro ?_ ?_ | with_reducible exact True.intro | (intro h; (first | cases h | ((try simp only [vis, Int.reduceToNat] at h); (try (exfalso; omega))))) | (with_reducible refine Vc.mk ?_; fail) | (with_reducible refine cutG ?_; fail) | refine idx_map ?_ ?_ | refine idx_mapI ?_ ?_ ?_ | (refine StopAt.mk (by decide) (by decide) ?_) | (refine StopRow.mk _ rfl ?_))))); (all_goals (try omega)); (all_goals (try ((first | with_reducible refine Vc.mk ?_ | refine Vc.mk ?_); (try exact GLt)))); (all_goals (try (exact ⟨by decide, by decide⟩))))
        all_goals first
          | (refine nextG2 n' (upI f _ true) ⟨by omega, hS1 (hq.1 (by omega))⟩ (by omega) ?_; subst hn'; (refine le_sub [0, 1] rfl rfl ?_ ?_); all_goals ((repeat' (conv => whnf); (first | with_reducible refine And.intro ?_ ?_ | with_reducible exact True.intro | with_reducible exact Or.inl rfl | (refine Vc.mk ?_; (first | exact rfl | exact ⟨rfl, .inl rfl⟩ | omega | skip)))); all_goals rfl); done)
          | (refine nextG2 n' f ⟨by omega, hS2 (by first | (exact Bool.eq_false_iff.2 (fun hx => by have := hq.2 hx; omega)))⟩ (by omega) ?_; subst hn'; (refine le_sub [0, 1] rfl rfl ?_ ?_); all_goals ((repeat' (conv => whnf); (first | with_reducible refine And.intro ?_ ?_ | with_reducible exact True.intro | with_reducible exact Or.inl rfl | (refine Vc.mk ?_; (first | exact rfl | exact ⟨rfl, .inl rfl⟩ | omega | skip)))); all_goals rfl); done)
    · have en : n = 6 := by omega
      subst en
      obtain rfl := hEnd _ _ hf
      unfold rbA
      dsimp only
      ((iterate 2 all_goals (try (repeat' (conv => whnf); (first | with_reducible refine And.intro ?_ ?_ | with_reducible exact True.intro | (intro h; (first | cases h | ((try simp only [vis, Int.reduceToNat] at h); (try (exfalso; omega))))) | (with_reducible refine Vc.mk ?_; fail) | (with_reducible refine cutG ?_; fail) | refine idx_map ?_ ?_ | refine idx_mapI ?_ ?_ ?_ | (refine StopAt.mk (by decide) (by decide) ?_) | (refine StopRow.mk _ rfl ?_))))); (all_goals (try omega)); (all_goals (try ((first | with_reducible refine Vc.mk ?_ | refine Vc.mk ?_); (try exact GLt)))); (all_goals (try (exact ⟨by decide, by decide⟩))))
      ((try (conv => whnf)); refine ⟨[0, 1], rfl, rfl, ?_, ?_⟩); (repeat' (conv => whnf); (first | with_reducible refine And.intro ?_ ?_ | with_reducible exact True.intro | with_reducible exact Or.inl rfl | (refine Vc.mk ?_; (first | exact rfl | exact ⟨rfl, .inl rfl⟩ | omega | skip))))
      all_goals rfl
  · refine lpG2 (fun (n : Nat) (f : Int → Bool) => rbA kn [a, f] [(1, .v (.int .i64 1)), (5, .v (.int .i64 ((n : Int) + 1)))]) (fun n f => n ≤ 6 ∧ MetT kn b f n) (fun n f => 6 - n) 0 b ⟨by omega, MetT.start⟩ (by (refine le_sub [0, 1] rfl rfl ?_ ?_); all_goals ((repeat' (conv => whnf); (first | with_reducible refine And.intro ?_ ?_ | with_reducible exact True.intro | with_reducible exact Or.inl rfl | (refine Vc.mk ?_; (first | exact rfl | exact ⟨rfl, .inl rfl⟩ | omega | skip)))); all_goals rfl)) ?_
    rintro n f ⟨hn, hf⟩
    by_cases hn6 : n < 6
    · obtain ⟨N, hN⟩ : ∃ N : Int, N = (n : Int) + 1 := ⟨_, rfl⟩
      have hq := hsq N
      have hS1 := fun hk => hf.put hN hk
      have hS2 := fun hk => hf.keep hN hk
      obtain ⟨n', hn'⟩ : ∃ n', n' = n + 1 := ⟨_, rfl⟩
      rw [← hn'] at hS1 hS2
      clear hf hsq hEnd
      refine or6 (by omega : n = 0 ∨ n = 1 ∨ n = 2 ∨ n = 3 ∨ n = 4 ∨ n = 5) (fun en => ?_) (fun en => ?_) (fun en => ?_) (fun en => ?_) (fun en => ?_) (fun en => ?_)
      all_goals
        subst en
        first | (obtain rfl : N = 1 := hN) | (obtain rfl : N = 2 := hN) | (obtain rfl : N = 3 := hN) | (obtain rfl : N = 4 := hN) | (obtain rfl : N = 5 := hN) | (obtain rfl : N = 6 := hN)
        unfold rbA
        dsimp only
        ((iterate 2 all_goals (try (repeat' (conv => whnf); (first | with_reducible refine And.intro ?_ ?_ | with_reducible exact True.intro | (intro h; (first | cases h | ((try simp only [vis, Int.reduceToNat] at h); (try (exfalso; omega))))) | (with_reducible refine Vc.mk ?_; fail) | (with_reducible refine cutG ?_; fail) | refine idx_map ?_ ?_ | refine idx_mapI ?_ ?_ ?_ | (refine StopAt.mk (by decide) (by decide) ?_) | (refine StopRow.mk _ rfl ?_))))); (all_goals (try omega)); (all_goals (try ((first | with_reducible refine Vc.mk ?_ | refine Vc.mk ?_); (try exact GLt)))); (all_goals (try (exact ⟨by decide, by decide⟩))))
        all_goals first
          | (refine nextG2 n' (upI f _ true) ⟨by omega, hS1 (hq.1 (by omega))⟩ (by omega) ?_; subst hn'; (refine le_sub [0, 1] rfl rfl ?_ ?_); all_goals ((repeat' (conv => whnf); (first | with_reducible refine And.intro ?_ ?_ | with_reducible exact True.intro | with_reducible exact Or.inl rfl | (refine Vc.mk ?_; (first | exact rfl | exact ⟨rfl, .inl rfl⟩ | omega | skip)))); all_goals rfl); done)
          | (refine nextG2 n' f ⟨by omega, hS2 (by first | (exact Bool.eq_false_iff.2 (fun hx => by have := hq.2 hx; omega)))⟩ (by omega) ?_; subst hn'; (refine le_sub [0, 1] rfl rfl ?_ ?_); all_goals ((repeat' (conv => whnf); (first | with_reducible refine And.intro ?_ ?_ | with_reducible exact True.intro | with_reducible exact Or.inl rfl | (refine Vc.mk ?_; (first | exact rfl | exact ⟨rfl, .inl rfl⟩ | omega | skip)))); all_goals rfl); done)
    · have en : n = 6 := by omega
      subst en
      obtain rfl := hEnd _ _ hf
      unfold rbA
      dsimp only
      ((iterate 2 all_goals (try (repeat' (conv => whnf); (first | with_reducible refine And.intro ?_ ?_ | with_reducible exact True.intro | (intro h; (first | cases h | ((try simp only [vis, Int.reduceToNat] at h); (try (exfalso; omega))))) | (with_reducible refine Vc.mk ?_; fail) | (with_reducible refine cutG ?_; fail) | refine idx_map ?_ ?_ | refine idx_mapI ?_ ?_ ?_ | (refine StopAt.mk (by decide) (by decide) ?_) | (refine StopRow.mk _ rfl ?_))))); (all_goals (try omega)); (all_goals (try ((first | with_reducible refine Vc.mk ?_ | refine Vc.mk ?_); (try exact GLt)))); (all_goals (try (exact ⟨by decide, by decide⟩))))
      ((try (conv => whnf)); refine ⟨[0, 1], rfl, rfl, ?_, ?_⟩); (repeat' (conv => whnf); (first | with_reducible refine And.intro ?_ ?_ | with_reducible exact True.intro | with_reducible exact Or.inl rfl | (refine Vc.mk ?_; (first | exact rfl | exact ⟨rfl, .inl rfl⟩ | omega | skip))))
      all_goals rfl
  · refine lpG2 (fun (n : Nat) (f : Int → Bool) => rbA kn [f, b, c] [(1, .v (.int .i64 0)), (5, .v (.int .i64 ((n : Int) + 1)))]) (fun n f => n ≤ 6 ∧ MetT kn a f n) (fun n f => 6 - n) 0 a ⟨by omega, MetT.start⟩ (by (refine le_sub [0, 1] rfl rfl ?_ ?_); all_goals ((repeat' (conv => whnf); (first | with_reducible refine And.intro ?_ ?_ | with_reducible exact True.intro | with_reducible exact Or.inl rfl | (refine Vc.mk ?_; (first | exact rfl | exact ⟨rfl, .inl rfl⟩ | omega | skip)))); all_goals rfl)) ?_
    rintro n f ⟨hn, hf⟩
    by_cases hn6 : n < 6
    · obtain ⟨N, hN⟩ : ∃ N : Int, N = (n : Int) + 1 := ⟨_, rfl⟩
      have hq := hsq N
      have hS1 := fun hk => hf.put hN hk
      have hS2 := fun hk => hf.keep hN hk
      obtain ⟨n', hn'⟩ : ∃ n', n' = n + 1 := ⟨_, rfl⟩
      rw [← hn'] at hS1 hS2
      clear hf hsq hEnd
      refine or6 (by omega : n = 0 ∨ n = 1 ∨ n = 2 ∨ n = 3 ∨ n = 4 ∨ n = 5) (fun en => ?_) (fun en => ?_) (fun en => ?_) (fun en => ?_) (fun en => ?_) (fun en => ?_)
      all_goals
        subst en
        first | (obtain rfl : N = 1 := hN) | (obtain rfl : N = 2 := hN) | (obtain rfl : N = 3 := hN) | (obtain rfl : N = 4 := hN) | (obtain rfl : N = 5 := hN) | (obtain rfl : N = 6 := hN)
        unfold rbA
        dsimp only
        ((iterate 2 all_goals (try (repeat' (conv => whnf); (first | with_reducible refine And.intro ?_ ?_ | with_reducible exact True.intro | (intro h; (first | cases h | ((try simp only [vis, Int.reduceToNat] at h); (try (exfalso; omega))))) | (with_reducible refine Vc.mk ?_; fail) | (with_reducible refine cutG ?_; fail) | refine idx_map ?_ ?_ | refine idx_mapI ?_ ?_ ?_ | (refine StopAt.mk (by decide) (by decide) ?_) | (refine StopRow.mk _ rfl ?_))))); (all_goals (try omega)); (all_goals (try ((first | with_reducible refine Vc.mk ?_ | refine Vc.mk ?_); (try exact GLt)))); (all_goals (try (exact ⟨by decide, by decide⟩))))
        all_goals first
          | (refine nextG2 n' (upI f _ true) ⟨by omega, hS1 (hq.1 (by omega))⟩ (by omega) ?_; subst hn'; (refine le_sub [0, 1] rfl rfl ?_ ?_); all_goals ((repeat' (conv => whnf); (first | with_reducible refine And.intro ?_ ?_ | with_reducible exact True.intro | with_reducible exact Or.inl rfl | (refine Vc.mk ?_; (first | exact rfl | exact ⟨rfl, .inl rfl⟩ | omega | skip)))); all_goals rfl); done)
          | (refine nextG2 n' f ⟨by omega, hS2 (by first | (exact Bool.eq_false_iff.2 (fun hx => by have := hq.2 hx; omega)))⟩ (by omega) ?_; subst hn'; (refine le_sub [0, 1] rfl rfl ?_ ?_); all_goals ((repeat' (conv => whnf); (first | with_reducible refine And.intro ?_ ?_ | with_reducible exact True.intro | with_reducible exact Or.inl rfl | (refine Vc.mk ?_; (first | exact rfl | exact ⟨rfl, .inl rfl⟩ | omega | skip)))); all_goals rfl); done)
    · have en : n = 6 := by omega
      subst en
      obtain rfl := hEnd _ _ hf
      unfold rbA
      dsimp only
      ((iterate 2 all_goals (try (repeat' (conv => whnf); (first | with_reducible refine And.intro ?_ ?_ | with_reducible exact True.intro | (intro h; (first | cases h | ((try simp only [vis, Int.reduceToNat] at h); (try (exfalso; omega))))) | (with_reducible refine Vc.mk ?_; fail) | (with_reducible refine cutG ?_; fail) | refine idx_map ?_ ?_ | refine idx_mapI ?_ ?_ ?_ | (refine StopAt.mk (by decide) (by decide) ?_) | (refine StopRow.mk _ rfl ?_))))); (all_goals (try omega)); (all_goals (try ((first | with_reducible refine Vc.mk ?_ | refine Vc.mk ?_); (try exact GLt)))); (all_goals (try (exact ⟨by decide, by decide⟩))))
      ((try (conv => whnf)); refine ⟨[0, 1], rfl, rfl, ?_, ?_⟩); (repeat' (conv => whnf); (first | with_reducible refine And.intro ?_ ?_ | with_reducible exact True.intro | with_reducible exact Or.inl rfl | (refine Vc.mk ?_; (first | exact rfl | exact ⟨rfl, .inl rfl⟩ | omega | skip))))
      all_goals rfl
  · refine lpG2 (fun (n : Nat) (f : Int → Bool) => rbA kn [a, f, c] [(1, .v (.int .i64 1)), (5, .v (.int .i64 ((n : Int) + 1)))]) (fun n f => n ≤ 6 ∧ MetT kn b f n) (fun n f => 6 - n) 0 b ⟨by omega, MetT.start⟩ (by (refine le_sub [0, 1] rfl rfl ?_ ?_); all_goals ((repeat' (conv => whnf); (first | with_reducible refine And.intro ?_ ?_ | with_reducible exact True.intro | with_reducible exact Or.inl rfl | (refine Vc.mk ?_; (first | exact rfl | exact ⟨rfl, .inl rfl⟩ | omega | skip)))); all_goals rfl)) ?_
    rintro n f ⟨hn, hf⟩
    by_cases hn6 : n < 6
    · obtain ⟨N, hN⟩ : ∃ N : Int, N = (n : Int) + 1 := ⟨_, rfl⟩
      have hq := hsq N
      have hS1 := fun hk => hf.put hN hk
      have hS2 := fun hk => hf.keep hN hk
      obtain ⟨n', hn'⟩ : ∃ n', n' = n + 1 := ⟨_, rfl⟩
      rw [← hn'] at hS1 hS2
      clear hf hsq hEnd
      refine or6 (by omega : n = 0 ∨ n = 1 ∨ n = 2 ∨ n = 3 ∨ n = 4 ∨ n = 5) (fun en => ?_) (fun en => ?_) (fun en => ?_) (fun en => ?_) (fun en => ?_) (fun en => ?_)
      all_goals
        subst en
        first | (obtain rfl : N = 1 := hN) | (obtain rfl : N = 2 := hN) | (obtain rfl : N = 3 := hN) | (obtain rfl : N = 4 := hN) | (obtain rfl : N = 5 := hN) | (obtain rfl : N = 6 := hN)
        unfold rbA
        dsimp only
        ((iterate 2 all_goals (try (repeat' (conv => whnf); (first | with_reducible refine And.intro ?_ ?_ | with_reducible exact True.intro | (intro h; (first | cases h | ((try simp only [vis, Int.reduceToNat] at h); (try (exfalso; omega))))) | (with_reducible refine Vc.mk ?_; fail) | (with_reducible refine cutG ?_; fail) | refine idx_map ?_ ?_ | refine idx_mapI ?_ ?_ ?_ | (refine StopAt.mk (by decide) (by decide) ?_) | (refine StopRow.mk _ rfl ?_))))); (all_goals (try omega)); (all_goals (try ((first | with_reducible refine Vc.mk ?_ | refine Vc.mk ?_); (try exact GLt)))); (all_goals (try (exact ⟨by decide, by decide⟩))))
        all_goals first
          | (refine nextG2 n' (upI f _ true) ⟨by omega, hS1 (hq.1 (by omega))⟩ (by omega) ?_; subst hn'; (refine le_sub [0, 1] rfl rfl ?_ ?_); all_goals ((repeat' (conv => whnf); (first | with_reducible refine And.intro ?_ ?_ | with_reducible exact True.intro | with_reducible exact Or.inl rfl | (refine Vc.mk ?_; (first | exact rfl | exact ⟨rfl, .inl rfl⟩ | omega | skip)))); all_goals rfl); done)
          | (refine nextG2 n' f ⟨by omega, hS2 (by first | (exact Bool.eq_false_iff.2 (fun hx => by have := hq.2 hx; omega)))⟩ (by omega) ?_; subst hn'; (refine le_sub [0, 1] rfl rfl ?_ ?_); all_goals ((repeat' (conv => whnf); (first | with_reducible refine And.intro ?_ ?_ | with_reducible exact True.intro | with_reducible exact Or.inl rfl | (refine Vc.mk ?_; (first | exact rfl | exact ⟨rfl, .inl rfl⟩ | omega | skip)))); all_goals rfl); done)
    · have en : n = 6 := by omega
      subst en
      obtain rfl := hEnd _ _ hf
      unfold rbA
      dsimp only
      ((iterate 2 all_goals (try (repeat' (conv => whnf); (first | with_reducible refine And.intro ?_ ?_ | with_reducible exact True.intro | (intro h; (first | cases h | ((try simp only [vis, Int.reduceToNat] at h); (try (exfalso; omega))))) | (with_reducible refine Vc.mk ?_; fail) | (with_reducible refine cutG ?_; fail) | refine idx_map ?_ ?_ | refine idx_mapI ?_ ?_ ?_ | (refine StopAt.mk (by decide) (by decide) ?_) | (refine StopRow.mk _ rfl ?_))))); (all_goals (try omega)); (all_goals (try ((first | with_reducible refine Vc.mk ?_ | refine Vc.mk ?_); (try exact GLt)))); (all_goals (try (exact ⟨by decide, by decide⟩))))
      ((try (conv => whnf)); refine ⟨[0, 1], rfl, rfl, ?_, ?_⟩); (repeat' (conv => whnf); (first | with_reducible refine And.intro ?_ ?_ | with_reducible exact True.intro | with_reducible exact Or.inl rfl | (refine Vc.mk ?_; (first | exact rfl | exact ⟨rfl, .inl rfl⟩ | omega | skip))))
      all_goals rfl
  · refine lpG2 (fun (n : Nat) (f : Int → Bool) => rbA kn [a, b, f] [(1, .v (.int .i64 2)), (5, .v (.int .i64 ((n : Int) + 1)))]) (fun n f => n ≤ 6 ∧ MetT kn c f n) (fun n f => 6 - n) 0 c ⟨by omega, MetT.start⟩ (by (refine le_sub [0, 1] rfl rfl ?_ ?_); all_goals ((repeat' (conv => whnf); (first | with_reducible refine And.intro ?_ ?_ | with_reducible exact True.intro | with_reducible exact Or.inl rfl | (refine Vc.mk ?_; (first | exact rfl | exact ⟨rfl, .inl rfl⟩ | omega | skip)))); all_goals rfl)) ?_
    rintro n f ⟨hn, hf⟩
    by_cases hn6 : n < 6
    · obtain ⟨N, hN⟩ : ∃ N : Int, N = (n : Int) + 1 := ⟨_, rfl⟩
      have hq := hsq N
      have hS1 := fun hk => hf.put hN hk
      have hS2 := fun hk => hf.keep hN hk
      obtain ⟨n', hn'⟩ : ∃ n', n' = n + 1 := ⟨_, rfl⟩
      rw [← hn'] at hS1 hS2
      clear hf hsq hEnd
      refine or6 (by omega : n = 0 ∨ n = 1 ∨ n = 2 ∨ n = 3 ∨ n = 4 ∨ n = 5) (fun en => ?_) (fun en => ?_) (fun en => ?_) (fun en => ?_) (fun en => ?_) (fun en => ?_)
      all_goals
        subst en
        first | (obtain rfl : N = 1 := hN) | (obtain rfl : N = 2 := hN) | (obtain rfl : N = 3 := hN) | (obtain rfl : N = 4 := hN) | (obtain rfl : N = 5 := hN) | (obtain rfl : N = 6 := hN)
        unfold rbA
        dsimp only
        ((iterate 2 all_goals (try (repeat' (conv => whnf); (first | with_reducible refine And.intro ?_ ?_ | with_reducible exact True.intro | (intro h; (first | cases h | ((try simp only [vis, Int.reduceToNat] at h); (try (exfalso; omega))))) | (with_reducible refine Vc.mk ?_; fail) | (with_reducible refine cutG ?_; fail) | refine idx_map ?_ ?_ | refine idx_mapI ?_ ?_ ?_ | (refine StopAt.mk (by decide) (by decide) ?_) | (refine StopRow.mk _ rfl ?_))))); (all_goals (try omega)); (all_goals (try ((first | with_reducible refine Vc.mk ?_ | refine Vc.mk ?_); (try exact GLt)))); (all_goals (try (exact ⟨by decide, by decide⟩))))
        all_goals first
          | (refine nextG2 n' (upI f _ true) ⟨by omega, hS1 (hq.1 (by omega))⟩ (by omega) ?_; subst hn'; (refine le_sub [0, 1] rfl rfl ?_ ?_); all_goals ((repeat' (conv => whnf); (first | with_reducible refine And.intro ?_ ?_ | with_reducible exact True.intro | with_reducible exact Or.inl rfl | (refine Vc.mk ?_; (first | exact rfl | exact ⟨rfl, .inl rfl⟩ | omega | skip)))); all_goals rfl); done)
          | (refine nextG2 n' f ⟨by omega, hS2 (by first | (exact Bool.eq_false_iff.2 (fun hx => by have := hq.2 hx; omega)))⟩ (by omega) ?_; subst hn'; (refine le_sub [0, 1] rfl rfl ?_ ?_); all_goals ((repeat' (conv => whnf); (first | with_reducible refine And.intro ?_ ?_ | with_reducible exact True.intro | with_reducible exact Or.inl rfl | (refine Vc.mk ?_; (first | exact rfl | exact ⟨rfl, .inl rfl⟩ | omega | skip)))); all_goals rfl); done)
    · have en : n = 6 := by omega
      subst en
      obtain rfl := hEnd _ _ hf
      unfold rbA
      dsimp only
      ((iterate 2 all_goals (try (repeat' (conv => whnf); (first | with_reducible refine And.intro ?_ ?_ | with_reducible exact True.intro | (intro h; (first | cases h | ((try simp only [vis, Int.reduceToNat] at h); (try (exfalso; omega))))) | (with_reducible refine Vc.mk ?_; fail) | (with_reducible refine cutG ?_; fail) | refine idx_map ?_ ?_ | refine idx_mapI ?_ ?_ ?_ | (refine StopAt.mk (by decide) (by decide) ?_) | (refine StopRow.mk _ rfl ?_))))); (all_goals (try omega)); (all_goals (try ((first | with_reducible refine Vc.mk ?_ | refine Vc.mk ?_); (try exact GLt)))); (all_goals (try (exact ⟨by decide, by decide⟩))))
      ((try (conv => whnf)); refine ⟨[0, 1], rfl, rfl, ?_, ?_⟩); (repeat' (conv => whnf); (first | with_reducible refine And.intro ?_ ?_ | with_reducible exact True.intro | with_reducible exact Or.inl rfl | (refine Vc.mk ?_; (first | exact rfl | exact ⟨rfl, .inl rfl⟩ | omega | skip))))
      all_goals rfl
set_option maxHeartbeats 64000000 in
set_option maxRecDepth 100000 in
theorem rbpart_1 (kn : Int → Option St3) (ow : List (Int → Bool)) (h1 : 1 ≤ ow.length) (h3 : ow.length ≤ 3) (p : Int) (hp : 0 ≤ p ∧ p < ow.length) : Fn Try.prog 83 [.box 0 0, .v (.int .i64 p)] (rbL kn ow) (.tup []) (rbL kn (modW ow p fun _ _ => false)) := by
  refine np3p (C := fun ow p => Fn Try.prog 83 [.box 0 0, .v (.int .i64 p)] (rbL kn ow) (.tup []) (rbL kn (modW ow p fun _ _ => false))) h1 h3 hp (fun a => ?_) (fun a b => ?_) (fun a b => ?_) (fun a b c => ?_) (fun a b c => ?_) (fun a b c => ?_)
  all_goals
    refine fn_of mixed [] [] Try.func83 rfl (by decide +kernel) Try.ntmps83 rfl (congrArg Array.toList Try.results83) rfl (by decide +kernel) ?_
    ((iterate 2 all_goals (try (repeat' (conv => whnf); (first | with_reducible refine And.intro ?_ ?_ | with_reducible exact True.intro | (intro h; (first | cases h | ((try simp only [vis, Int.reduceToNat] at h); (try (exfalso; omega))))) | (with_reducible refine Vc.mk ?_; fail) | (with_reducible refine cutG ?_; fail) | refine idx_map ?_ ?_ | refine idx_mapI ?_ ?_ ?_ | (refine StopAt.mk (by decide) (by decide) ?_) | (refine StopRow.mk _ rfl ?_))))); (all_goals (try omega)); (all_goals (try ((first | with_reducible refine Vc.mk ?_ | refine Vc.mk ?_); (try exact GLt)))); (all_goals (try (exact ⟨by decide, by decide⟩))))
    ((try (conv => whnf)); refine ⟨[0, 1], rfl, rfl, ?_, ?_⟩); (repeat' (conv => whnf); (first | with_reducible refine And.intro ?_ ?_ | with_reducible exact True.intro | with_reducible exact Or.inl rfl | (refine Vc.mk ?_; (first | exact rfl | exact ⟨rfl, .inl rfl⟩ | omega | skip))))
    all_goals rfl
end Go.Proofs.Ytimfnpjcedjmiaa
