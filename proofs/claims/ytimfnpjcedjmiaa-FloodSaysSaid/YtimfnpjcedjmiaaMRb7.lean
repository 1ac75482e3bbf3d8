/-
  The reference's base of states: the states, and those that are owed.
-/
import Derived.Test.YtimfnpjcedjmiaaMRb2
import Derived.Test.YtimfnpjcedjmiaaGE
namespace Go.Proofs.Ytimfnpjcedjmiaa
open Go.RowKit
set_option linter.unusedSimpArgs false
set_option linter.unusedVariables false
theorem stO_some {o : Option St3} {s : St3} (h : o = some s) : stO o = s := by rw [h]; rfl
theorem stsK_put {kn : Int → Option St3} {n : Nat} {N : Int} (hN : N = (n : Int) + 1) (hk : (kn N).isSome = true) : stsK kn (n + 1) = stsK kn n ++ [stO (kn N)] := by
  subst hN
  cases h : kn ((n : Int) + 1) with
  | none => rw [h] at hk; cases hk
  | some s => rw [stsK_some h]; rfl
theorem stsK_keep {kn : Int → Option St3} {n : Nat} {N : Int} (hN : N = (n : Int) + 1) (hk : ¬ (kn N).isSome = true) : stsK kn (n + 1) = stsK kn n := by
  subst hN
  exact stsK_none (by simpa using hk)
set_option maxHeartbeats 64000000 in
set_option maxRecDepth 100000 in
theorem rbstates_ok (kn : Int → Option St3) (ow : List (Int → Bool)) (h1 : 1 ≤ ow.length) (h3 : ow.length ≤ 3) (hkn : ∀ n s, kn n = some s → s.1 = n ∧ sf s = 0) : Fn Try.prog 86 [.box 0 0] (rbL kn ow) (.sl 3 ((stsB ⟨kn, ow⟩).map stRow) none) (rbL kn ow) := by
  have hsq := fun n => (seqOk hkn n).pos
  have hlen := stsK_len kn
  rw [← stsK_eq kn (ow := ow)]
  refine np3 (p := fun ow => Fn Try.prog 86 [.box 0 0] (rbL kn ow) (.sl 3 ((stsK kn 6).map stRow) none) (rbL kn ow)) h1 h3 (fun a => ?_) (fun a b => ?_) (fun a b c => ?_)
  all_goals
    refine fn_of mixed [] [] Try.func86 rfl (by decide +kernel) Try.ntmps86 rfl (congrArg Array.toList Try.results86) rfl (by decide +kernel) ?_
    ((iterate 2 all_goals (try (repeat' (conv => whnf); (first | with_reducible refine And.intro ?_ ?_ | with_reducible exact True.intro | (intro h; (first | cases h | ((try simp only [vis, Int.reduceToNat] at h); (try (exfalso; omega))))) | (with_reducible refine Vc.mk ?_; fail) | (with_reducible refine cutG ?_; fail) | refine idx_map ?_ ?_ | refine idx_mapI ?_ ?_ ?_ | (refine StopAt.mk (by decide) (by decide) ?_) | (refine StopRow.mk _ rfl ?_))))); (all_goals (try omega)); (all_goals (try ((first | with_reducible refine Vc.mk ?_ | refine Vc.mk ?_); (try exact GLt)))); (all_goals (try (exact ⟨by decide, by decide⟩))))
  · refine lpG (fun (n : Nat) => ⟨(0, .box 0 0) :: (3, .sl 3 ((stsK kn n).map stRow) (some (2, 1))) :: (4, .v (.int .i64 ((n : Int) + 1))) :: [], rbL kn [a] ++ [.grow 105 3 1]⟩) (fun n => n ≤ 6) (fun n => 6 - n) 0 (by omega) (AS.le_trans (le_nil 3 105 3 rfl) (by (refine le_sub [0, 1, 2] rfl rfl ?_ ?_); all_goals ((repeat' (conv => whnf); (first | with_reducible refine And.intro ?_ ?_ | with_reducible exact True.intro | with_reducible exact Or.inl rfl | (refine Vc.mk ?_; (first | exact rfl | exact ⟨rfl, .inl rfl⟩ | omega | skip)))); all_goals (try rfl)))) ?_
    rintro n hn
    have hl := hlen n
    by_cases hn6 : n < 6
    · obtain ⟨N, hN⟩ : ∃ N : Int, N = (n : Int) + 1 := ⟨_, rfl⟩
      have hq := hsq N
      have hS1 := fun hk => stsK_put (kn := kn) hN hk
      have hS2 := fun hk => stsK_keep (kn := kn) hN hk
      obtain ⟨n', hn'⟩ : ∃ n', n' = n + 1 := ⟨_, rfl⟩
      rw [← hn'] at hS1 hS2
      clear hsq
      refine or6 (by omega : n = 0 ∨ n = 1 ∨ n = 2 ∨ n = 3 ∨ n = 4 ∨ n = 5) (fun en => ?_) (fun en => ?_) (fun en => ?_) (fun en => ?_) (fun en => ?_) (fun en => ?_)
      all_goals
        subst en
        first | (obtain rfl : N = 1 := hN) | (obtain rfl : N = 2 := hN) | (obtain rfl : N = 3 := hN) | (obtain rfl : N = 4 := hN) | (obtain rfl : N = 5 := hN) | (obtain rfl : N = 6 := hN)
        ((iterate 2 all_goals (try (repeat' (conv => whnf); (first | with_reducible refine And.intro ?_ ?_ | with_reducible exact True.intro | (intro h; (first | cases h | ((try simp only [vis, Int.reduceToNat] at h); (try (exfalso; omega))))) | (with_reducible refine Vc.mk ?_; fail) | (with_reducible refine cutG ?_; fail) | refine idx_map ?_ ?_ | refine idx_mapI ?_ ?_ ?_ | (refine StopAt.mk (by decide) (by decide) ?_) | (refine StopRow.mk _ rfl ?_))))); (all_goals (try omega)); (all_goals (try ((first | with_reducible refine Vc.mk ?_ | refine Vc.mk ?_); (try exact GLt)))); (all_goals (try (exact ⟨by decide, by decide⟩))))
        all_goals (try (exact ⟨by simp [maxLen]; omega, by simp; omega⟩))
        all_goals first
          | (have hE := hS1 (hq.1 (by omega)); refine nextG n' (by omega) (by omega) ?_; rw [hE]; subst hn'; (refine le_sub [0, 1, 2] rfl rfl ?_ ?_); all_goals ((repeat' (conv => whnf); (first | with_reducible refine And.intro ?_ ?_ | with_reducible exact True.intro | with_reducible exact Or.inl rfl | (refine Vc.mk ?_; (first | exact rfl | exact ⟨rfl, .inl rfl⟩ | omega | skip)))); all_goals (first | rfl | (simp [stRow, viewR, viewL, AV.view]; done) | (simp [stRow, viewR, viewL, AV.view, List.take_of_length_le])); done))
          | (have hE := hS2 (fun hx => by have := hq.2 hx; omega); refine nextG n' (by omega) (by omega) ?_; rw [hE]; subst hn'; (refine le_sub [0, 1, 2] rfl rfl ?_ ?_); all_goals ((repeat' (conv => whnf); (first | with_reducible refine And.intro ?_ ?_ | with_reducible exact True.intro | with_reducible exact Or.inl rfl | (refine Vc.mk ?_; (first | exact rfl | exact ⟨rfl, .inl rfl⟩ | omega | skip)))); all_goals (first | rfl | (simp; done))); done)
    · have en : n = 6 := by omega
      subst en
      ((iterate 2 all_goals (try (repeat' (conv => whnf); (first | with_reducible refine And.intro ?_ ?_ | with_reducible exact True.intro | (intro h; (first | cases h | ((try simp only [vis, Int.reduceToNat] at h); (try (exfalso; omega))))) | (with_reducible refine Vc.mk ?_; fail) | (with_reducible refine cutG ?_; fail) | refine idx_map ?_ ?_ | refine idx_mapI ?_ ?_ ?_ | (refine StopAt.mk (by decide) (by decide) ?_) | (refine StopRow.mk _ rfl ?_))))); (all_goals (try omega)); (all_goals (try ((first | with_reducible refine Vc.mk ?_ | refine Vc.mk ?_); (try exact GLt)))); (all_goals (try (exact ⟨by decide, by decide⟩))))
      ((try (conv => whnf)); refine ⟨[0, 1], rfl, rfl, ?_, ?_⟩); (repeat' (conv => whnf); (first | with_reducible refine And.intro ?_ ?_ | with_reducible exact True.intro | with_reducible exact Or.inl rfl | (refine Vc.mk ?_; (first | exact rfl | exact ⟨rfl, .inl rfl⟩ | omega | skip))))
      all_goals (try rfl)
  · refine lpG (fun (n : Nat) => ⟨(0, .box 0 0) :: (3, .sl 3 ((stsK kn n).map stRow) (some (2, 1))) :: (4, .v (.int .i64 ((n : Int) + 1))) :: [], rbL kn [a, b] ++ [.grow 105 3 1]⟩) (fun n => n ≤ 6) (fun n => 6 - n) 0 (by omega) (AS.le_trans (le_nil 3 105 3 rfl) (by (refine le_sub [0, 1, 2] rfl rfl ?_ ?_); all_goals ((repeat' (conv => whnf); (first | with_reducible refine And.intro ?_ ?_ | with_reducible exact True.intro | with_reducible exact Or.inl rfl | (refine Vc.mk ?_; (first | exact rfl | exact ⟨rfl, .inl rfl⟩ | omega | skip)))); all_goals (try rfl)))) ?_
    rintro n hn
    have hl := hlen n
    by_cases hn6 : n < 6
    · obtain ⟨N, hN⟩ : ∃ N : Int, N = (n : Int) + 1 := ⟨_, rfl⟩
      have hq := hsq N
      have hS1 := fun hk => stsK_put (kn := kn) hN hk
      have hS2 := fun hk => stsK_keep (kn := kn) hN hk
      obtain ⟨n', hn'⟩ : ∃ n', n' = n + 1 := ⟨_, rfl⟩
      rw [← hn'] at hS1 hS2
      clear hsq
      refine or6 (by omega : n = 0 ∨ n = 1 ∨ n = 2 ∨ n = 3 ∨ n = 4 ∨ n = 5) (fun en => ?_) (fun en => ?_) (fun en => ?_) (fun en => ?_) (fun en => ?_) (fun en => ?_)
      all_goals
        subst en
        first | (obtain rfl : N = 1 := hN) | (obtain rfl : N = 2 := hN) | (obtain rfl : N = 3 := hN) | (obtain rfl : N = 4 := hN) | (obtain rfl : N = 5 := hN) | (obtain rfl : N = 6 := hN)
        ((iterate 2 all_goals (try (repeat' (conv => whnf); (first | with_reducible refine And.intro ?_ ?_ | with_reducible exact True.intro | (intro h; (first | cases h | ((try simp only [vis, Int.reduceToNat] at h); (try (exfalso; omega))))) | (with_reducible refine Vc.mk ?_; fail) | (with_reducible refine cutG ?_; fail) | refine idx_map ?_ ?_ | refine idx_mapI ?_ ?_ ?_ | (refine StopAt.mk (by decide) (by decide) ?_) | (refine StopRow.mk _ rfl ?_))))); (all_goals (try omega)); (all_goals (try ((first | with_reducible refine Vc.mk ?_ | refine Vc.mk ?_); (try exact GLt)))); (all_goals (try (exact ⟨by decide, by decide⟩))))
        all_goals (try (exact ⟨by simp [maxLen]; omega, by simp; omega⟩))
        all_goals first
          | (have hE := hS1 (hq.1 (by omega)); refine nextG n' (by omega) (by omega) ?_; rw [hE]; subst hn'; (refine le_sub [0, 1, 2] rfl rfl ?_ ?_); all_goals ((repeat' (conv => whnf); (first | with_reducible refine And.intro ?_ ?_ | with_reducible exact True.intro | with_reducible exact Or.inl rfl | (refine Vc.mk ?_; (first | exact rfl | exact ⟨rfl, .inl rfl⟩ | omega | skip)))); all_goals (first | rfl | (simp [stRow, viewR, viewL, AV.view]; done) | (simp [stRow, viewR, viewL, AV.view, List.take_of_length_le])); done))
          | (have hE := hS2 (fun hx => by have := hq.2 hx; omega); refine nextG n' (by omega) (by omega) ?_; rw [hE]; subst hn'; (refine le_sub [0, 1, 2] rfl rfl ?_ ?_); all_goals ((repeat' (conv => whnf); (first | with_reducible refine And.intro ?_ ?_ | with_reducible exact True.intro | with_reducible exact Or.inl rfl | (refine Vc.mk ?_; (first | exact rfl | exact ⟨rfl, .inl rfl⟩ | omega | skip)))); all_goals (first | rfl | (simp; done))); done)
    · have en : n = 6 := by omega
      subst en
      ((iterate 2 all_goals (try (repeat' (conv => whnf); (first | with_reducible refine And.intro ?_ ?_ | with_reducible exact True.intro | (intro h; (first | cases h | ((try simp only [vis, Int.reduceToNat] at h); (try (exfalso; omega))))) | (with_reducible refine Vc.mk ?_; fail) | (with_reducible refine cutG ?_; fail) | refine idx_map ?_ ?_ | refine idx_mapI ?_ ?_ ?_ | (refine StopAt.mk (by decide) (by decide) ?_) | (refine StopRow.mk _ rfl ?_))))); (all_goals (try omega)); (all_goals (try ((first | with_reducible refine Vc.mk ?_ | refine Vc.mk ?_); (try exact GLt)))); (all_goals (try (exact ⟨by decide, by decide⟩))))
      ((try (conv => whnf)); refine ⟨[0, 1], rfl, rfl, ?_, ?_⟩); (repeat' (conv => whnf); (first | with_reducible refine And.intro ?_ ?_ | with_reducible exact True.intro | with_reducible exact Or.inl rfl | (refine Vc.mk ?_; (first | exact rfl | exact ⟨rfl, .inl rfl⟩ | omega | skip))))
      all_goals (try rfl)
  · refine lpG (fun (n : Nat) => ⟨(0, .box 0 0) :: (3, .sl 3 ((stsK kn n).map stRow) (some (2, 1))) :: (4, .v (.int .i64 ((n : Int) + 1))) :: [], rbL kn [a, b, c] ++ [.grow 105 3 1]⟩) (fun n => n ≤ 6) (fun n => 6 - n) 0 (by omega) (AS.le_trans (le_nil 3 105 3 rfl) (by (refine le_sub [0, 1, 2] rfl rfl ?_ ?_); all_goals ((repeat' (conv => whnf); (first | with_reducible refine And.intro ?_ ?_ | with_reducible exact True.intro | with_reducible exact Or.inl rfl | (refine Vc.mk ?_; (first | exact rfl | exact ⟨rfl, .inl rfl⟩ | omega | skip)))); all_goals (try rfl)))) ?_
    rintro n hn
    have hl := hlen n
    by_cases hn6 : n < 6
    · obtain ⟨N, hN⟩ : ∃ N : Int, N = (n : Int) + 1 := ⟨_, rfl⟩
      have hq := hsq N
      have hS1 := fun hk => stsK_put (kn := kn) hN hk
      have hS2 := fun hk => stsK_keep (kn := kn) hN hk
      obtain ⟨n', hn'⟩ : ∃ n', n' = n + 1 := ⟨_, rfl⟩
      rw [← hn'] at hS1 hS2
      clear hsq
      refine or6 (by omega : n = 0 ∨ n = 1 ∨ n = 2 ∨ n = 3 ∨ n = 4 ∨ n = 5) (fun en => ?_) (fun en => ?_) (fun en => ?_) (fun en => ?_) (fun en => ?_) (fun en => ?_)
      all_goals
        subst en
        first | (obtain rfl : N = 1 := hN) | (obtain rfl : N = 2 := hN) | (obtain rfl : N = 3 := hN) | (obtain rfl : N = 4 := hN) | (obtain rfl : N = 5 := hN) | (obtain rfl : N = 6 := hN)
        ((iterate 2 all_goals (try (repeat' (conv => whnf); (first | with_reducible refine And.intro ?_ ?_ | with_reducible exact True.intro | (intro h; (first | cases h | ((try simp only [vis, Int.reduceToNat] at h); (try (exfalso; omega))))) | (with_reducible refine Vc.mk ?_; fail) | (with_reducible refine cutG ?_; fail) | refine idx_map ?_ ?_ | refine idx_mapI ?_ ?_ ?_ | (refine StopAt.mk (by decide) (by decide) ?_) | (refine StopRow.mk _ rfl ?_))))); (all_goals (try omega)); (all_goals (try ((first | with_reducible refine Vc.mk ?_ | refine Vc.mk ?_); (try exact GLt)))); (all_goals (try (exact ⟨by decide, by decide⟩))))
        all_goals (try (exact ⟨by simp [maxLen]; omega, by simp; omega⟩))
        all_goals first
          | (have hE := hS1 (hq.1 (by omega)); refine nextG n' (by omega) (by omega) ?_; rw [hE]; subst hn'; (refine le_sub [0, 1, 2] rfl rfl ?_ ?_); all_goals ((repeat' (conv => whnf); (first | with_reducible refine And.intro ?_ ?_ | with_reducible exact True.intro | with_reducible exact Or.inl rfl | (refine Vc.mk ?_; (first | exact rfl | exact ⟨rfl, .inl rfl⟩ | omega | skip)))); all_goals (first | rfl | (simp [stRow, viewR, viewL, AV.view]; done) | (simp [stRow, viewR, viewL, AV.view, List.take_of_length_le])); done))
          | (have hE := hS2 (fun hx => by have := hq.2 hx; omega); refine nextG n' (by omega) (by omega) ?_; rw [hE]; subst hn'; (refine le_sub [0, 1, 2] rfl rfl ?_ ?_); all_goals ((repeat' (conv => whnf); (first | with_reducible refine And.intro ?_ ?_ | with_reducible exact True.intro | with_reducible exact Or.inl rfl | (refine Vc.mk ?_; (first | exact rfl | exact ⟨rfl, .inl rfl⟩ | omega | skip)))); all_goals (first | rfl | (simp; done))); done)
    · have en : n = 6 := by omega
      subst en
      ((iterate 2 all_goals (try (repeat' (conv => whnf); (first | with_reducible refine And.intro ?_ ?_ | with_reducible exact True.intro | (intro h; (first | cases h | ((try simp only [vis, Int.reduceToNat] at h); (try (exfalso; omega))))) | (with_reducible refine Vc.mk ?_; fail) | (with_reducible refine cutG ?_; fail) | refine idx_map ?_ ?_ | refine idx_mapI ?_ ?_ ?_ | (refine StopAt.mk (by decide) (by decide) ?_) | (refine StopRow.mk _ rfl ?_))))); (all_goals (try omega)); (all_goals (try ((first | with_reducible refine Vc.mk ?_ | refine Vc.mk ?_); (try exact GLt)))); (all_goals (try (exact ⟨by decide, by decide⟩))))
      ((try (conv => whnf)); refine ⟨[0, 1], rfl, rfl, ?_, ?_⟩); (repeat' (conv => whnf); (first | with_reducible refine And.intro ?_ ?_ | with_reducible exact True.intro | with_reducible exact Or.inl rfl | (refine Vc.mk ?_; (first | exact rfl | exact ⟨rfl, .inl rfl⟩ | omega | skip))))
      all_goals (try rfl)
def owdK (kn : Int → Option St3) (o : Int → Bool) (n : Nat) : List St3 := (stsK kn n).filter fun s => o s.1
theorem owdK_len (kn : Int → Option St3) (o : Int → Bool) (n : Nat) : (owdK kn o n).length ≤ n := Nat.le_trans (List.length_filter_le ..) (stsK_len kn n)
theorem owdK_put {kn : Int → Option St3} (hkn : ∀ n s, kn n = some s → s.1 = n ∧ sf s = 0) {o : Int → Bool} {n : Nat} {N : Int} (hN : N = (n : Int) + 1) (hk : (kn N).isSome = true ∧ o N = true) : owdK kn o (n + 1) = owdK kn o n ++ [stO (kn N)] := by
  unfold owdK
  rw [stsK_put hN hk.1, List.filter_append]
  cases h : kn N with
  | none => have := hk.1; rw [h] at this; cases this
  | some s =>
    have e := (hkn N s h).1
    congr 1
    simp [stO, e, hk.2]
theorem owdK_keep {kn : Int → Option St3} (hkn : ∀ n s, kn n = some s → s.1 = n ∧ sf s = 0) {o : Int → Bool} {n : Nat} {N : Int} (hN : N = (n : Int) + 1) (hk : (kn N).isSome = true → o N = false) : owdK kn o (n + 1) = owdK kn o n := by
  unfold owdK
  cases h : kn N with
  | none => rw [stsK_keep hN (by rw [h]; simp)]
  | some s =>
    have e := (hkn N s h).1
    rw [stsK_put hN (by rw [h]; rfl), List.filter_append, h]
    simp [stO, e, hk (by rw [h]; rfl)]
set_option maxHeartbeats 64000000 in
set_option maxRecDepth 100000 in
theorem rbowed_1 (kn : Int → Option St3) (ow : List (Int → Bool)) (h1 : 1 ≤ ow.length) (h3 : ow.length ≤ 3) (hkn : ∀ n s, kn n = some s → s.1 = n ∧ sf s = 0) (p : Int) (hp : 0 ≤ p ∧ p < ow.length) : Fn Try.prog 88 [.box 0 0, .v (.int .i64 p)] (rbL kn ow) (.sl 3 ((owdK kn (getW ow p) 6).map stRow) none) (rbL kn ow) := by
  have hsq := fun n => (seqOk hkn n).pos
  refine np3p (C := fun ow p => Fn Try.prog 88 [.box 0 0, .v (.int .i64 p)] (rbL kn ow) (.sl 3 ((owdK kn (getW ow p) 6).map stRow) none) (rbL kn ow)) h1 h3 hp (fun a => ?_) (fun a b => ?_) (fun a b => ?_) (fun a b c => ?_) (fun a b c => ?_) (fun a b c => ?_)
  all_goals
    refine fn_of mixed [] [] Try.func88 rfl (by decide +kernel) Try.ntmps88 rfl (congrArg Array.toList Try.results88) rfl (by decide +kernel) ?_
    ((iterate 2 all_goals (try (repeat' (conv => whnf); (first | with_reducible refine And.intro ?_ ?_ | with_reducible exact True.intro | (intro h; (first | cases h | ((try simp only [vis, Int.reduceToNat] at h); (try (exfalso; omega))))) | (with_reducible refine Vc.mk ?_; fail) | (with_reducible refine cutG ?_; fail) | refine idx_map ?_ ?_ | refine idx_mapI ?_ ?_ ?_ | (refine StopAt.mk (by decide) (by decide) ?_) | (refine StopRow.mk _ rfl ?_))))); (all_goals (try omega)); (all_goals (try ((first | with_reducible refine Vc.mk ?_ | refine Vc.mk ?_); (try exact GLt)))); (all_goals (try (exact ⟨by decide, by decide⟩))))
  · refine lpG (fun (n : Nat) => ⟨(0, .box 0 0) :: (5, .sl 3 ((owdK kn a n).map stRow) (some (2, 1))) :: (6, .v (.int .i64 ((n : Int) + 1))) :: [(1, .v (.int .i64 0))], rbL kn [a] ++ [.grow 105 3 1]⟩) (fun n => n ≤ 6) (fun n => 6 - n) 0 (by omega) (AS.le_trans (le_nil 5 105 3 rfl) (by (refine le_sub [0, 1, 2] rfl rfl ?_ ?_); all_goals ((repeat' (conv => whnf); (first | with_reducible refine And.intro ?_ ?_ | with_reducible exact True.intro | with_reducible exact Or.inl rfl | (refine Vc.mk ?_; (first | exact rfl | exact ⟨rfl, .inl rfl⟩ | omega | skip)))); all_goals (try rfl)))) ?_
    rintro n hn
    have hl := owdK_len kn a n
    by_cases hn6 : n < 6
    · obtain ⟨N, hN⟩ : ∃ N : Int, N = (n : Int) + 1 := ⟨_, rfl⟩
      have hq := hsq N
      have hS1 := fun hk => owdK_put (o := a) hkn hN hk
      have hS2 := fun hk => owdK_keep (o := a) hkn hN hk
      obtain ⟨n', hn'⟩ : ∃ n', n' = n + 1 := ⟨_, rfl⟩
      rw [← hn'] at hS1 hS2
      clear hsq
      refine or6 (by omega : n = 0 ∨ n = 1 ∨ n = 2 ∨ n = 3 ∨ n = 4 ∨ n = 5) (fun en => ?_) (fun en => ?_) (fun en => ?_) (fun en => ?_) (fun en => ?_) (fun en => ?_)
      all_goals
        subst en
        first | (obtain rfl : N = 1 := hN) | (obtain rfl : N = 2 := hN) | (obtain rfl : N = 3 := hN) | (obtain rfl : N = 4 := hN) | (obtain rfl : N = 5 := hN) | (obtain rfl : N = 6 := hN)
        ((iterate 2 all_goals (try (repeat' (conv => whnf); (first | with_reducible refine And.intro ?_ ?_ | with_reducible exact True.intro | (intro h; (first | cases h | ((try simp only [vis, Int.reduceToNat] at h); (try (exfalso; omega))))) | (with_reducible refine Vc.mk ?_; fail) | (with_reducible refine cutG ?_; fail) | refine idx_map ?_ ?_ | refine idx_mapI ?_ ?_ ?_ | (refine StopAt.mk (by decide) (by decide) ?_) | (refine StopRow.mk _ rfl ?_))))); (all_goals (try omega)); (all_goals (try ((first | with_reducible refine Vc.mk ?_ | refine Vc.mk ?_); (try exact GLt)))); (all_goals (try (exact ⟨by decide, by decide⟩))))
        all_goals (try (exact ⟨by simp [maxLen]; omega, by simp; omega⟩))
        all_goals first
          | (have hE := hS1 ⟨hq.1 (by omega), by assumption⟩; refine nextG n' (by omega) (by omega) ?_; rw [hE]; subst hn'; (refine le_sub [0, 1, 2] rfl rfl ?_ ?_); all_goals ((repeat' (conv => whnf); (first | with_reducible refine And.intro ?_ ?_ | with_reducible exact True.intro | with_reducible exact Or.inl rfl | (refine Vc.mk ?_; (first | exact rfl | exact ⟨rfl, .inl rfl⟩ | omega | skip)))); all_goals (first | rfl | (simp [stRow, viewR, viewL, AV.view]; done) | (simp [stRow, viewR, viewL, AV.view, List.take_of_length_le])); done))
          | (have hE := hS2 (fun hx => by first | (have := hq.2 hx; omega) | assumption); refine nextG n' (by omega) (by omega) ?_; rw [hE]; subst hn'; (refine le_sub [0, 1, 2] rfl rfl ?_ ?_); all_goals ((repeat' (conv => whnf); (first | with_reducible refine And.intro ?_ ?_ | with_reducible exact True.intro | with_reducible exact Or.inl rfl | (refine Vc.mk ?_; (first | exact rfl | exact ⟨rfl, .inl rfl⟩ | omega | skip)))); all_goals (first | rfl | (simp; done))); done)
    · have en : n = 6 := by omega
      subst en
      ((iterate 2 all_goals (try (repeat' (conv => whnf); (first | with_reducible refine And.intro ?_ ?_ | with_reducible exact True.intro | (intro h; (first | cases h | ((try simp only [vis, Int.reduceToNat] at h); (try (exfalso; omega))))) | (with_reducible refine Vc.mk ?_; fail) | (with_reducible refine cutG ?_; fail) | refine idx_map ?_ ?_ | refine idx_mapI ?_ ?_ ?_ | (refine StopAt.mk (by decide) (by decide) ?_) | (refine StopRow.mk _ rfl ?_))))); (all_goals (try omega)); (all_goals (try ((first | with_reducible refine Vc.mk ?_ | refine Vc.mk ?_); (try exact GLt)))); (all_goals (try (exact ⟨by decide, by decide⟩))))
      ((try (conv => whnf)); refine ⟨[0, 1], rfl, rfl, ?_, ?_⟩); (repeat' (conv => whnf); (first | with_reducible refine And.intro ?_ ?_ | with_reducible exact True.intro | with_reducible exact Or.inl rfl | (refine Vc.mk ?_; (first | exact rfl | exact ⟨rfl, .inl rfl⟩ | omega | skip))))
      all_goals (try rfl)
  · refine lpG (fun (n : Nat) => ⟨(0, .box 0 0) :: (5, .sl 3 ((owdK kn a n).map stRow) (some (2, 1))) :: (6, .v (.int .i64 ((n : Int) + 1))) :: [(1, .v (.int .i64 0))], rbL kn [a, b] ++ [.grow 105 3 1]⟩) (fun n => n ≤ 6) (fun n => 6 - n) 0 (by omega) (AS.le_trans (le_nil 5 105 3 rfl) (by (refine le_sub [0, 1, 2] rfl rfl ?_ ?_); all_goals ((repeat' (conv => whnf); (first | with_reducible refine And.intro ?_ ?_ | with_reducible exact True.intro | with_reducible exact Or.inl rfl | (refine Vc.mk ?_; (first | exact rfl | exact ⟨rfl, .inl rfl⟩ | omega | skip)))); all_goals (try rfl)))) ?_
    rintro n hn
    have hl := owdK_len kn a n
    by_cases hn6 : n < 6
    · obtain ⟨N, hN⟩ : ∃ N : Int, N = (n : Int) + 1 := ⟨_, rfl⟩
      have hq := hsq N
      have hS1 := fun hk => owdK_put (o := a) hkn hN hk
      have hS2 := fun hk => owdK_keep (o := a) hkn hN hk
      obtain ⟨n', hn'⟩ : ∃ n', n' = n + 1 := ⟨_, rfl⟩
      rw [← hn'] at hS1 hS2
      clear hsq
      refine or6 (by omega : n = 0 ∨ n = 1 ∨ n = 2 ∨ n = 3 ∨ n = 4 ∨ n = 5) (fun en => ?_) (fun en => ?_) (fun en => ?_) (fun en => ?_) (fun en => ?_) (fun en => ?_)
      all_goals
        subst en
        first | (obtain rfl : N = 1 := hN) | (obtain rfl : N = 2 := hN) | (obtain rfl : N = 3 := hN) | (obtain rfl : N = 4 := hN) | (obtain rfl : N = 5 := hN) | (obtain rfl : N = 6 := hN)
        ((iterate 2 all_goals (try (repeat' (conv => whnf); (first | with_reducible refine And.intro ?_ ?_ | with_reducible exact True.intro | (intro h; (first | cases h | ((try simp only [vis, Int.reduceToNat] at h); (try (exfalso; omega))))) | (with_reducible refine Vc.mk ?_; fail) | (with_reducible refine cutG ?_; fail) | refine idx_map ?_ ?_ | refine idx_mapI ?_ ?_ ?_ | (refine StopAt.mk (by decide) (by decide) ?_) | (refine StopRow.mk _ rfl ?_))))); (all_goals (try omega)); (all_goals (try ((first | with_reducible refine Vc.mk ?_ | refine Vc.mk ?_); (try exact GLt)))); (all_goals (try (exact ⟨by decide, by decide⟩))))
        all_goals (try (exact ⟨by simp [maxLen]; omega, by simp; omega⟩))
        all_goals first
          | (have hE := hS1 ⟨hq.1 (by omega), by assumption⟩; refine nextG n' (by omega) (by omega) ?_; rw [hE]; subst hn'; (refine le_sub [0, 1, 2] rfl rfl ?_ ?_); all_goals ((repeat' (conv => whnf); (first | with_reducible refine And.intro ?_ ?_ | with_reducible exact True.intro | with_reducible exact Or.inl rfl | (refine Vc.mk ?_; (first | exact rfl | exact ⟨rfl, .inl rfl⟩ | omega | skip)))); all_goals (first | rfl | (simp [stRow, viewR, viewL, AV.view]; done) | (simp [stRow, viewR, viewL, AV.view, List.take_of_length_le])); done))
          | (have hE := hS2 (fun hx => by first | (have := hq.2 hx; omega) | assumption); refine nextG n' (by omega) (by omega) ?_; rw [hE]; subst hn'; (refine le_sub [0, 1, 2] rfl rfl ?_ ?_); all_goals ((repeat' (conv => whnf); (first | with_reducible refine And.intro ?_ ?_ | with_reducible exact True.intro | with_reducible exact Or.inl rfl | (refine Vc.mk ?_; (first | exact rfl | exact ⟨rfl, .inl rfl⟩ | omega | skip)))); all_goals (first | rfl | (simp; done))); done)
    · have en : n = 6 := by omega
      subst en
      ((iterate 2 all_goals (try (repeat' (conv => whnf); (first | with_reducible refine And.intro ?_ ?_ | with_reducible exact True.intro | (intro h; (first | cases h | ((try simp only [vis, Int.reduceToNat] at h); (try (exfalso; omega))))) | (with_reducible refine Vc.mk ?_; fail) | (with_reducible refine cutG ?_; fail) | refine idx_map ?_ ?_ | refine idx_mapI ?_ ?_ ?_ | (refine StopAt.mk (by decide) (by decide) ?_) | (refine StopRow.mk _ rfl ?_))))); (all_goals (try omega)); (all_goals (try ((first | with_reducible refine Vc.mk ?_ | refine Vc.mk ?_); (try exact GLt)))); (all_goals (try (exact ⟨by decide, by decide⟩))))
      ((try (conv => whnf)); refine ⟨[0, 1], rfl, rfl, ?_, ?_⟩); (repeat' (conv => whnf); (first | with_reducible refine And.intro ?_ ?_ | with_reducible exact True.intro | with_reducible exact Or.inl rfl | (refine Vc.mk ?_; (first | exact rfl | exact ⟨rfl, .inl rfl⟩ | omega | skip))))
      all_goals (try rfl)
  · refine lpG (fun (n : Nat) => ⟨(0, .box 0 0) :: (5, .sl 3 ((owdK kn b n).map stRow) (some (2, 1))) :: (6, .v (.int .i64 ((n : Int) + 1))) :: [(1, .v (.int .i64 1))], rbL kn [a, b] ++ [.grow 105 3 1]⟩) (fun n => n ≤ 6) (fun n => 6 - n) 0 (by omega) (AS.le_trans (le_nil 5 105 3 rfl) (by (refine le_sub [0, 1, 2] rfl rfl ?_ ?_); all_goals ((repeat' (conv => whnf); (first | with_reducible refine And.intro ?_ ?_ | with_reducible exact True.intro | with_reducible exact Or.inl rfl | (refine Vc.mk ?_; (first | exact rfl | exact ⟨rfl, .inl rfl⟩ | omega | skip)))); all_goals (try rfl)))) ?_
    rintro n hn
    have hl := owdK_len kn b n
    by_cases hn6 : n < 6
    · obtain ⟨N, hN⟩ : ∃ N : Int, N = (n : Int) + 1 := ⟨_, rfl⟩
      have hq := hsq N
      have hS1 := fun hk => owdK_put (o := b) hkn hN hk
      have hS2 := fun hk => owdK_keep (o := b) hkn hN hk
      obtain ⟨n', hn'⟩ : ∃ n', n' = n + 1 := ⟨_, rfl⟩
      rw [← hn'] at hS1 hS2
      clear hsq
      refine or6 (by omega : n = 0 ∨ n = 1 ∨ n = 2 ∨ n = 3 ∨ n = 4 ∨ n = 5) (fun en => ?_) (fun en => ?_) (fun en => ?_) (fun en => ?_) (fun en => ?_) (fun en => ?_)
      all_goals
        subst en
        first | (obtain rfl : N = 1 := hN) | (obtain rfl : N = 2 := hN) | (obtain rfl : N = 3 := hN) | (obtain rfl : N = 4 := hN) | (obtain rfl : N = 5 := hN) | (obtain rfl : N = 6 := hN)
        ((iterate 2 all_goals (try (repeat' (conv => whnf); (first | with_reducible refine And.intro ?_ ?_ | with_reducible exact True.intro | (intro h; (first | cases h | ((try simp only [vis, Int.reduceToNat] at h); (try (exfalso; omega))))) | (with_reducible refine Vc.mk ?_; fail) | (with_reducible refine cutG ?_; fail) | refine idx_map ?_ ?_ | refine idx_mapI ?_ ?_ ?_ | (refine StopAt.mk (by decide) (by decide) ?_) | (refine StopRow.mk _ rfl ?_))))); (all_goals (try omega)); (all_goals (try ((first | with_reducible refine Vc.mk ?_ | refine Vc.mk ?_); (try exact GLt)))); (all_goals (try (exact ⟨by decide, by decide⟩))))
        all_goals (try (exact ⟨by simp [maxLen]; omega, by simp; omega⟩))
        all_goals first
          | (have hE := hS1 ⟨hq.1 (by omega), by assumption⟩; refine nextG n' (by omega) (by omega) ?_; rw [hE]; subst hn'; (refine le_sub [0, 1, 2] rfl rfl ?_ ?_); all_goals ((repeat' (conv => whnf); (first | with_reducible refine And.intro ?_ ?_ | with_reducible exact True.intro | with_reducible exact Or.inl rfl | (refine Vc.mk ?_; (first | exact rfl | exact ⟨rfl, .inl rfl⟩ | omega | skip)))); all_goals (first | rfl | (simp [stRow, viewR, viewL, AV.view]; done) | (simp [stRow, viewR, viewL, AV.view, List.take_of_length_le])); done))
          | (have hE := hS2 (fun hx => by first | (have := hq.2 hx; omega) | assumption); refine nextG n' (by omega) (by omega) ?_; rw [hE]; subst hn'; (refine le_sub [0, 1, 2] rfl rfl ?_ ?_); all_goals ((repeat' (conv => whnf); (first | with_reducible refine And.intro ?_ ?_ | with_reducible exact True.intro | with_reducible exact Or.inl rfl | (refine Vc.mk ?_; (first | exact rfl | exact ⟨rfl, .inl rfl⟩ | omega | skip)))); all_goals (first | rfl | (simp; done))); done)
    · have en : n = 6 := by omega
      subst en
      ((iterate 2 all_goals (try (repeat' (conv => whnf); (first | with_reducible refine And.intro ?_ ?_ | with_reducible exact True.intro | (intro h; (first | cases h | ((try simp only [vis, Int.reduceToNat] at h); (try (exfalso; omega))))) | (with_reducible refine Vc.mk ?_; fail) | (with_reducible refine cutG ?_; fail) | refine idx_map ?_ ?_ | refine idx_mapI ?_ ?_ ?_ | (refine StopAt.mk (by decide) (by decide) ?_) | (refine StopRow.mk _ rfl ?_))))); (all_goals (try omega)); (all_goals (try ((first | with_reducible refine Vc.mk ?_ | refine Vc.mk ?_); (try exact GLt)))); (all_goals (try (exact ⟨by decide, by decide⟩))))
      ((try (conv => whnf)); refine ⟨[0, 1], rfl, rfl, ?_, ?_⟩); (repeat' (conv => whnf); (first | with_reducible refine And.intro ?_ ?_ | with_reducible exact True.intro | with_reducible exact Or.inl rfl | (refine Vc.mk ?_; (first | exact rfl | exact ⟨rfl, .inl rfl⟩ | omega | skip))))
      all_goals (try rfl)
  · refine lpG (fun (n : Nat) => ⟨(0, .box 0 0) :: (5, .sl 3 ((owdK kn a n).map stRow) (some (2, 1))) :: (6, .v (.int .i64 ((n : Int) + 1))) :: [(1, .v (.int .i64 0))], rbL kn [a, b, c] ++ [.grow 105 3 1]⟩) (fun n => n ≤ 6) (fun n => 6 - n) 0 (by omega) (AS.le_trans (le_nil 5 105 3 rfl) (by (refine le_sub [0, 1, 2] rfl rfl ?_ ?_); all_goals ((repeat' (conv => whnf); (first | with_reducible refine And.intro ?_ ?_ | with_reducible exact True.intro | with_reducible exact Or.inl rfl | (refine Vc.mk ?_; (first | exact rfl | exact ⟨rfl, .inl rfl⟩ | omega | skip)))); all_goals (try rfl)))) ?_
    rintro n hn
    have hl := owdK_len kn a n
    by_cases hn6 : n < 6
    · obtain ⟨N, hN⟩ : ∃ N : Int, N = (n : Int) + 1 := ⟨_, rfl⟩
      have hq := hsq N
      have hS1 := fun hk => owdK_put (o := a) hkn hN hk
      have hS2 := fun hk => owdK_keep (o := a) hkn hN hk
      obtain ⟨n', hn'⟩ : ∃ n', n' = n + 1 := ⟨_, rfl⟩
      rw [← hn'] at hS1 hS2
      clear hsq
      refine or6 (by omega : n = 0 ∨ n = 1 ∨ n = 2 ∨ n = 3 ∨ n = 4 ∨ n = 5) (fun en => ?_) (fun en => ?_) (fun en => ?_) (fun en => ?_) (fun en => ?_) (fun en => ?_)
      all_goals
        subst en
        first | (obtain rfl : N = 1 := hN) | (obtain rfl : N = 2 := hN) | (obtain rfl : N = 3 := hN) | (obtain rfl : N = 4 := hN) | (obtain rfl : N = 5 := hN) | (obtain rfl : N = 6 := hN)
        ((iterate 2 all_goals (try (repeat' (conv => whnf); (first | with_reducible refine And.intro ?_ ?_ | with_reducible exact True.intro | (intro h; (first | cases h | ((try simp only [vis, Int.reduceToNat] at h); (try (exfalso; omega))))) | (with_reducible refine Vc.mk ?_; fail) | (with_reducible refine cutG ?_; fail) | refine idx_map ?_ ?_ | refine idx_mapI ?_ ?_ ?_ | (refine StopAt.mk (by decide) (by decide) ?_) | (refine StopRow.mk _ rfl ?_))))); (all_goals (try omega)); (all_goals (try ((first | with_reducible refine Vc.mk ?_ | refine Vc.mk ?_); (try exact GLt)))); (all_goals (try (exact ⟨by decide, by decide⟩))))
        all_goals (try (exact ⟨by simp [maxLen]; omega, by simp; omega⟩))
        all_goals first
          | (have hE := hS1 ⟨hq.1 (by omega), by assumption⟩; refine nextG n' (by omega) (by omega) ?_; rw [hE]; subst hn'; (refine le_sub [0, 1, 2] rfl rfl ?_ ?_); all_goals ((repeat' (conv => whnf); (first | with_reducible refine And.intro ?_ ?_ | with_reducible exact True.intro | with_reducible exact Or.inl rfl | (refine Vc.mk ?_; (first | exact rfl | exact ⟨rfl, .inl rfl⟩ | omega | skip)))); all_goals (first | rfl | (simp [stRow, viewR, viewL, AV.view]; done) | (simp [stRow, viewR, viewL, AV.view, List.take_of_length_le])); done))
          | (have hE := hS2 (fun hx => by first | (have := hq.2 hx; omega) | assumption); refine nextG n' (by omega) (by omega) ?_; rw [hE]; subst hn'; (refine le_sub [0, 1, 2] rfl rfl ?_ ?_); all_goals ((repeat' (conv => whnf); (first | with_reducible refine And.intro ?_ ?_ | with_reducible exact True.intro | with_reducible exact Or.inl rfl | (refine Vc.mk ?_; (first | exact rfl | exact ⟨rfl, .inl rfl⟩ | omega | skip)))); all_goals (first | rfl | (simp; done))); done)
    · have en : n = 6 := by omega
      subst en
      ((iterate 2 all_goals (try (repeat' (conv => whnf); (first | with_reducible refine And.intro ?_ ?_ | with_reducible exact True.intro | (intro h; (first | cases h | ((try simp only [vis, Int.reduceToNat] at h); (try (exfalso; omega))))) | (with_reducible refine Vc.mk ?_; fail) | (with_reducible refine cutG ?_; fail) | refine idx_map ?_ ?_ | refine idx_mapI ?_ ?_ ?_ | (refine StopAt.mk (by decide) (by decide) ?_) | (refine StopRow.mk _ rfl ?_))))); (all_goals (try omega)); (all_goals (try ((first | with_reducible refine Vc.mk ?_ | refine Vc.mk ?_); (try exact GLt)))); (all_goals (try (exact ⟨by decide, by decide⟩))))
      ((try (conv => whnf)); refine ⟨[0, 1], rfl, rfl, ?_, ?_⟩); (repeat' (conv => whnf); (first | with_reducible refine And.intro ?_ ?_ | with_reducible exact True.intro | with_reducible exact Or.inl rfl | (refine Vc.mk ?_; (first | exact rfl | exact ⟨rfl, .inl rfl⟩ | omega | skip))))
      all_goals (try rfl)
  · refine lpG (fun (n : Nat) => ⟨(0, .box 0 0) :: (5, .sl 3 ((owdK kn b n).map stRow) (some (2, 1))) :: (6, .v (.int .i64 ((n : Int) + 1))) :: [(1, .v (.int .i64 1))], rbL kn [a, b, c] ++ [.grow 105 3 1]⟩) (fun n => n ≤ 6) (fun n => 6 - n) 0 (by omega) (AS.le_trans (le_nil 5 105 3 rfl) (by (refine le_sub [0, 1, 2] rfl rfl ?_ ?_); all_goals ((repeat' (conv => whnf); (first | with_reducible refine And.intro ?_ ?_ | with_reducible exact True.intro | with_reducible exact Or.inl rfl | (refine Vc.mk ?_; (first | exact rfl | exact ⟨rfl, .inl rfl⟩ | omega | skip)))); all_goals (try rfl)))) ?_
    rintro n hn
    have hl := owdK_len kn b n
    by_cases hn6 : n < 6
    · obtain ⟨N, hN⟩ : ∃ N : Int, N = (n : Int) + 1 := ⟨_, rfl⟩
      have hq := hsq N
      have hS1 := fun hk => owdK_put (o := b) hkn hN hk
      have hS2 := fun hk => owdK_keep (o := b) hkn hN hk
      obtain ⟨n', hn'⟩ : ∃ n', n' = n + 1 := ⟨_, rfl⟩
      rw [← hn'] at hS1 hS2
      clear hsq
      refine or6 (by omega : n = 0 ∨ n = 1 ∨ n = 2 ∨ n = 3 ∨ n = 4 ∨ n = 5) (fun en => ?_) (fun en => ?_) (fun en => ?_) (fun en => ?_) (fun en => ?_) (fun en => ?_)
      all_goals
        subst en
        first | (obtain rfl : N = 1 := hN) | (obtain rfl : N = 2 := hN) | (obtain rfl : N = 3 := hN) | (obtain rfl : N = 4 := hN) | (obtain rfl : N = 5 := hN) | (obtain rfl : N = 6 := hN)
        ((iterate 2 all_goals (try (repeat' (conv => whnf); (first | with_reducible refine And.intro ?_ ?_ | with_reducible exact True.intro | (intro h; (first | cases h | ((try simp only [vis, Int.reduceToNat] at h); (try (exfalso; omega))))) | (with_reducible refine Vc.mk ?_; fail) | (with_reducible refine cutG ?_; fail) | refine idx_map ?_ ?_ | refine idx_mapI ?_ ?_ ?_ | (refine StopAt.mk (by decide) (by decide) ?_) | (refine StopRow.mk _ rfl ?_))))); (all_goals (try omega)); (all_goals (try ((first | with_reducible refine Vc.mk ?_ | refine Vc.mk ?_); (try exact GLt)))); (all_goals (try (exact ⟨by decide, by decide⟩))))
        all_goals (try (exact ⟨by simp [maxLen]; omega, by simp; omega⟩))
        all_goals first
          | (have hE := hS1 ⟨hq.1 (by omega), by assumption⟩; refine nextG n' (by omega) (by omega) ?_; rw [hE]; subst hn'; (refine le_sub [0, 1, 2] rfl rfl ?_ ?_); all_goals ((repeat' (conv => whnf); (first | with_reducible refine And.intro ?_ ?_ | with_reducible exact True.intro | with_reducible exact Or.inl rfl | (refine Vc.mk ?_; (first | exact rfl | exact ⟨rfl, .inl rfl⟩ | omega | skip)))); all_goals (first | rfl | (simp [stRow, viewR, viewL, AV.view]; done) | (simp [stRow, viewR, viewL, AV.view, List.take_of_length_le])); done))
          | (have hE := hS2 (fun hx => by first | (have := hq.2 hx; omega) | assumption); refine nextG n' (by omega) (by omega) ?_; rw [hE]; subst hn'; (refine le_sub [0, 1, 2] rfl rfl ?_ ?_); all_goals ((repeat' (conv => whnf); (first | with_reducible refine And.intro ?_ ?_ | with_reducible exact True.intro | with_reducible exact Or.inl rfl | (refine Vc.mk ?_; (first | exact rfl | exact ⟨rfl, .inl rfl⟩ | omega | skip)))); all_goals (first | rfl | (simp; done))); done)
    · have en : n = 6 := by omega
      subst en
      ((iterate 2 all_goals (try (repeat' (conv => whnf); (first | with_reducible refine And.intro ?_ ?_ | with_reducible exact True.intro | (intro h; (first | cases h | ((try simp only [vis, Int.reduceToNat] at h); (try (exfalso; omega))))) | (with_reducible refine Vc.mk ?_; fail) | (with_reducible refine cutG ?_; fail) | refine idx_map ?_ ?_ | refine idx_mapI ?_ ?_ ?_ | (refine StopAt.mk (by decide) (by decide) ?_) | (refine StopRow.mk _ rfl ?_))))); (all_goals (try omega)); (all_goals (try ((first | with_reducible refine Vc.mk ?_ | refine Vc.mk ?_); (try exact GLt)))); (all_goals (try (exact ⟨by decide, by decide⟩))))
      ((try (conv => whnf)); refine ⟨[0, 1], rfl, rfl, ?_, ?_⟩); (repeat' (conv => whnf); (first | with_reducible refine And.intro ?_ ?_ | with_reducible exact True.intro | with_reducible exact Or.inl rfl | (refine Vc.mk ?_; (first | exact rfl | exact ⟨rfl, .inl rfl⟩ | omega | skip))))
      all_goals (try rfl)
  · refine lpG (fun (n : Nat) => ⟨(0, .box 0 0) :: (5, .sl 3 ((owdK kn c n).map stRow) (some (2, 1))) :: (6, .v (.int .i64 ((n : Int) + 1))) :: [(1, .v (.int .i64 2))], rbL kn [a, b, c] ++ [.grow 105 3 1]⟩) (fun n => n ≤ 6) (fun n => 6 - n) 0 (by omega) (AS.le_trans (le_nil 5 105 3 rfl) (by (refine le_sub [0, 1, 2] rfl rfl ?_ ?_); all_goals ((repeat' (conv => whnf); (first | with_reducible refine And.intro ?_ ?_ | with_reducible exact True.intro | with_reducible exact Or.inl rfl | (refine Vc.mk ?_; (first | exact rfl | exact ⟨rfl, .inl rfl⟩ | omega | skip)))); all_goals (try rfl)))) ?_
    rintro n hn
    have hl := owdK_len kn c n
    by_cases hn6 : n < 6
    · obtain ⟨N, hN⟩ : ∃ N : Int, N = (n : Int) + 1 := ⟨_, rfl⟩
      have hq := hsq N
      have hS1 := fun hk => owdK_put (o := c) hkn hN hk
      have hS2 := fun hk => owdK_keep (o := c) hkn hN hk
      obtain ⟨n', hn'⟩ : ∃ n', n' = n + 1 := ⟨_, rfl⟩
      rw [← hn'] at hS1 hS2
      clear hsq
      refine or6 (by omega : n = 0 ∨ n = 1 ∨ n = 2 ∨ n = 3 ∨ n = 4 ∨ n = 5) (fun en => ?_) (fun en => ?_) (fun en => ?_) (fun en => ?_) (fun en => ?_) (fun en => ?_)
      all_goals
        subst en
        first | (obtain rfl : N = 1 := hN) | (obtain rfl : N = 2 := hN) | (obtain rfl : N = 3 := hN) | (obtain rfl : N = 4 := hN) | (obtain rfl : N = 5 := hN) | (obtain rfl : N = 6 := hN)
        ((iterate 2 all_goals (try (repeat' (conv => whnf); (first | with_reducible refine And.intro ?_ ?_ | with_reducible exact True.intro | (intro h; (first | cases h | ((try simp only [vis, Int.reduceToNat] at h); (try (exfalso; omega))))) | (with_reducible refine Vc.mk ?_; fail) | (with_reducible refine cutG ?_; fail) | refine idx_map ?_ ?_ | refine idx_mapI ?_ ?_ ?_ | (refine StopAt.mk (by decide) (by decide) ?_) | (refine StopRow.mk _ rfl ?_))))); (all_goals (try omega)); (all_goals (try ((first | with_reducible refine Vc.mk ?_ | refine Vc.mk ?_); (try exact GLt)))); (all_goals (try (exact ⟨by decide, by decide⟩))))
        all_goals (try (exact ⟨by simp [maxLen]; omega, by simp; omega⟩))
        all_goals first
          | (have hE := hS1 ⟨hq.1 (by omega), by assumption⟩; refine nextG n' (by omega) (by omega) ?_; rw [hE]; subst hn'; (refine le_sub [0, 1, 2] rfl rfl ?_ ?_); all_goals ((repeat' (conv => whnf); (first | with_reducible refine And.intro ?_ ?_ | with_reducible exact True.intro | with_reducible exact Or.inl rfl | (refine Vc.mk ?_; (first | exact rfl | exact ⟨rfl, .inl rfl⟩ | omega | skip)))); all_goals (first | rfl | (simp [stRow, viewR, viewL, AV.view]; done) | (simp [stRow, viewR, viewL, AV.view, List.take_of_length_le])); done))
          | (have hE := hS2 (fun hx => by first | (have := hq.2 hx; omega) | assumption); refine nextG n' (by omega) (by omega) ?_; rw [hE]; subst hn'; (refine le_sub [0, 1, 2] rfl rfl ?_ ?_); all_goals ((repeat' (conv => whnf); (first | with_reducible refine And.intro ?_ ?_ | with_reducible exact True.intro | with_reducible exact Or.inl rfl | (refine Vc.mk ?_; (first | exact rfl | exact ⟨rfl, .inl rfl⟩ | omega | skip)))); all_goals (first | rfl | (simp; done))); done)
    · have en : n = 6 := by omega
      subst en
      ((iterate 2 all_goals (try (repeat' (conv => whnf); (first | with_reducible refine And.intro ?_ ?_ | with_reducible exact True.intro | (intro h; (first | cases h | ((try simp only [vis, Int.reduceToNat] at h); (try (exfalso; omega))))) | (with_reducible refine Vc.mk ?_; fail) | (with_reducible refine cutG ?_; fail) | refine idx_map ?_ ?_ | refine idx_mapI ?_ ?_ ?_ | (refine StopAt.mk (by decide) (by decide) ?_) | (refine StopRow.mk _ rfl ?_))))); (all_goals (try omega)); (all_goals (try ((first | with_reducible refine Vc.mk ?_ | refine Vc.mk ?_); (try exact GLt)))); (all_goals (try (exact ⟨by decide, by decide⟩))))
      ((try (conv => whnf)); refine ⟨[0, 1], rfl, rfl, ?_, ?_⟩); (repeat' (conv => whnf); (first | with_reducible refine And.intro ?_ ?_ | with_reducible exact True.intro | with_reducible exact Or.inl rfl | (refine Vc.mk ?_; (first | exact rfl | exact ⟨rfl, .inl rfl⟩ | omega | skip))))
      all_goals (try rfl)
end Go.Proofs.Ytimfnpjcedjmiaa
