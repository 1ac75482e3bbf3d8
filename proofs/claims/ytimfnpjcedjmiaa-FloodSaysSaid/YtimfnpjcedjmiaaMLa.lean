/-
  Acts: few, and not large.
-/
import Derived.Test.YtimfnpjcedjmiaaGActs
import Derived.Test.YtimfnpjcedjmiaaMLk
namespace Go.Proofs.Ytimfnpjcedjmiaa
open Go.RowKit
set_option linter.unusedSimpArgs false
set_option linter.unusedVariables false
def lightA (l : List Ac) (n : Int) : Bool := decide ((l.length : Int) ≤ n) && l.all fun q => decide (q.s.size ≤ 200) && decide (q.p.o.length ≤ 12) && decide (q.x.2.2.length ≤ 9)
theorem lightA_out {l : List Ac} {n : Int} (h : lightA l n = true) : (l.length : Int) ≤ n ∧ ∀ q ∈ l, q.s.size ≤ 200 ∧ q.p.o.length ≤ 12 ∧ q.x.2.2.length ≤ 9 := by
  simp only [lightA, Bool.and_eq_true, decide_eq_true_eq, List.all_eq_true, and_assoc] at h
  exact h
theorem lightA_bad {l : List Ac} {n : Int} {k : Nat} (hk : k < l.length) (h : 200 < l[k].s.size ∨ 12 < l[k].p.o.length ∨ 9 < l[k].x.2.2.length) : lightA l n = false := by
  cases e : lightA l n with
  | false => rfl
  | true =>
    have := (lightA_out e).2 l[k] (List.getElem_mem hk)
    omega
set_option maxRecDepth 100000 in
theorem lightPk_ok (p : Pk) : Fn Try.prog 24 [pkAV p] [] (.v (.bool (decide (p.o.length ≤ 12)))) [] := by
  unfold pkAV pkRow
  refine fn_of mixed [] [] Try.func24 rfl (by decide +kernel) Try.ntmps24 rfl (congrArg Array.toList Try.results24) rfl (by decide +kernel) ?_
  (iterate 2 all_goals (try (repeat' (conv => whnf); (first | with_reducible refine And.intro ?_ ?_ | with_reducible exact True.intro | (intro h; (first | cases h | ((try simp only [vis, Int.reduceToNat] at h); (try (exfalso; omega))))) | (with_reducible refine Vc.mk ?_; fail) | (with_reducible refine cutG ?_; fail) | refine idx_map ?_ ?_ | refine idx_mapI ?_ ?_ ?_ ))))
  all_goals (try ((first | with_reducible refine Vc.mk ?_ | refine Vc.mk ?_); (try exact GLt)))
  ((try (conv => whnf)); refine ⟨[], rfl, rfl, ?_, ?_⟩); (repeat' (conv => whnf); (first | with_reducible refine And.intro ?_ ?_ | with_reducible exact True.intro | with_reducible exact Or.inl rfl | (refine Vc.mk ?_; (first | exact rfl | exact ⟨rfl, .inl rfl⟩ | omega | skip))))
  all_goals (simp; try omega)
set_option maxHeartbeats 8000000 in
set_option maxRecDepth 100000 in
theorem lightActs_ok (l : List Ac) (n : Int) (hn : n ≤ 1000) : Fn Try.prog 72 [.sl 12 (l.map acRow) none, .v (.int .i64 n)] [] (.v (.bool (lightA l n))) [] := by
  refine fn_of mixed [] [] Try.func72 rfl (by decide +kernel) Try.ntmps72 rfl (congrArg Array.toList Try.results72) rfl (by decide +kernel) ?_
  (iterate 2 all_goals (try (repeat' (conv => whnf); (first | with_reducible refine And.intro ?_ ?_ | with_reducible exact True.intro | (intro h; (first | cases h | ((try simp only [vis, Int.reduceToNat] at h); (try (exfalso; omega))))) | (with_reducible refine Vc.mk ?_; fail) | (with_reducible refine cutG ?_; fail) | refine idx_map ?_ ?_ | refine idx_mapI ?_ ?_ ?_ ))))
  all_goals (try omega)
  · ((try (conv => whnf)); refine ⟨[], rfl, rfl, ?_, ?_⟩); (repeat' (conv => whnf); (first | with_reducible refine And.intro ?_ ?_ | with_reducible exact True.intro | with_reducible exact Or.inl rfl | (refine Vc.mk ?_; (first | exact rfl | exact ⟨rfl, .inl rfl⟩ | omega | skip))))
    have hd : decide ((l.length : Int) ≤ n) = false := decide_eq_false (by omega)
    unfold lightA
    rw [hd]; rfl
  refine lpG (fun k : Nat => ⟨[(0, .sl 12 (l.map acRow) none), (5, .v (.int .i64 k))], []⟩) (fun k => k ≤ l.length ∧ ∀ i (h : i < l.length), i < k → l[i].s.size ≤ 200 ∧ l[i].p.o.length ≤ 12 ∧ l[i].x.2.2.length ≤ 9) (fun k => l.length - k) 0 ⟨by omega, fun i _ h => by omega⟩ (by (refine le_sub [] rfl rfl ?_ ?_); all_goals (repeat' (conv => whnf); (first | with_reducible refine And.intro ?_ ?_ | with_reducible exact True.intro | with_reducible exact Or.inl rfl | (refine Vc.mk ?_; (first | exact rfl | exact ⟨rfl, .inl rfl⟩ | omega | skip))))) ?_
  rintro k ⟨hk, hg⟩
  by_cases hk' : k < l.length
  · have hp := lightPk_ok l[k].p
    have hbad := lightA_bad (n := n) hk'
    unfold pkAV pkRow at hp
    by_cases h12 : l[k].p.o.length ≤ 12
    · rw [decide_eq_true h12] at hp
      (iterate 2 all_goals (try (repeat' (conv => whnf); (first | with_reducible refine And.intro ?_ ?_ | with_reducible exact True.intro | (intro h; (first | cases h | ((try simp only [vis, Int.reduceToNat] at h); (try (exfalso; omega))))) | (with_reducible refine Vc.mk ?_; fail) | (with_reducible refine cutG ?_; fail) | refine idx_map ?_ ?_ | refine idx_mapI ?_ ?_ ?_ ))))
      all_goals (try omega)
      all_goals (try ((first | with_reducible refine Vc.mk ?_ | refine Vc.mk ?_); (try exact GLt)))
      (all_goals (try ((first | (refine call0 (hp) ?_ ?_) | (refine pure0 (hp) rfl ?_ ?_)); (· (repeat' (conv => whnf); (first | with_reducible refine And.intro ?_ ?_ | with_reducible exact True.intro | with_reducible exact Or.inl rfl | (refine Vc.mk ?_; (first | exact rfl | exact ⟨rfl, .inl rfl⟩ | omega | skip))))); (iterate 2 all_goals (try (repeat' (conv => whnf); (first | with_reducible refine And.intro ?_ ?_ | with_reducible exact True.intro | (intro h; (first | cases h | ((try simp only [vis, Int.reduceToNat] at h); (try (exfalso; omega))))) | (with_reducible refine Vc.mk ?_; fail) | (with_reducible refine cutG ?_; fail) | refine idx_map ?_ ?_ | refine idx_mapI ?_ ?_ ?_ )))))))
      all_goals (try omega)
      all_goals (try ((first | with_reducible refine Vc.mk ?_ | refine Vc.mk ?_); (try exact GLt)))
      all_goals first
        | (((try (conv => whnf)); refine ⟨[], rfl, rfl, ?_, ?_⟩); (repeat' (conv => whnf); (first | with_reducible refine And.intro ?_ ?_ | with_reducible exact True.intro | with_reducible exact Or.inl rfl | (refine Vc.mk ?_; (first | exact rfl | exact ⟨rfl, .inl rfl⟩ | omega | skip)))); exact (hbad (by omega)).symm)
        | (refine nextG (k + 1) ⟨by omega, fun i h hi => ?_⟩ (by omega) (by (refine le_sub [] rfl rfl ?_ ?_); all_goals (repeat' (conv => whnf); (first | with_reducible refine And.intro ?_ ?_ | with_reducible exact True.intro | with_reducible exact Or.inl rfl | (refine Vc.mk ?_; (first | exact rfl | exact ⟨rfl, .inl rfl⟩ | omega | skip)))))
           by_cases e : i = k
           · subst e
             refine ⟨by omega, by omega, by omega⟩
           · exact hg i h (by omega))
    · rw [decide_eq_false h12] at hp
      (iterate 2 all_goals (try (repeat' (conv => whnf); (first | with_reducible refine And.intro ?_ ?_ | with_reducible exact True.intro | (intro h; (first | cases h | ((try simp only [vis, Int.reduceToNat] at h); (try (exfalso; omega))))) | (with_reducible refine Vc.mk ?_; fail) | (with_reducible refine cutG ?_; fail) | refine idx_map ?_ ?_ | refine idx_mapI ?_ ?_ ?_ ))))
      all_goals (try omega)
      all_goals (try ((first | with_reducible refine Vc.mk ?_ | refine Vc.mk ?_); (try exact GLt)))
      (all_goals (try ((first | (refine call0 (hp) ?_ ?_) | (refine pure0 (hp) rfl ?_ ?_)); (· (repeat' (conv => whnf); (first | with_reducible refine And.intro ?_ ?_ | with_reducible exact True.intro | with_reducible exact Or.inl rfl | (refine Vc.mk ?_; (first | exact rfl | exact ⟨rfl, .inl rfl⟩ | omega | skip))))); (iterate 2 all_goals (try (repeat' (conv => whnf); (first | with_reducible refine And.intro ?_ ?_ | with_reducible exact True.intro | (intro h; (first | cases h | ((try simp only [vis, Int.reduceToNat] at h); (try (exfalso; omega))))) | (with_reducible refine Vc.mk ?_; fail) | (with_reducible refine cutG ?_; fail) | refine idx_map ?_ ?_ | refine idx_mapI ?_ ?_ ?_ )))))))
      all_goals (try omega)
      all_goals (try ((first | with_reducible refine Vc.mk ?_ | refine Vc.mk ?_); (try exact GLt)))
      all_goals (((try (conv => whnf)); refine ⟨[], rfl, rfl, ?_, ?_⟩); (repeat' (conv => whnf); (first | with_reducible refine And.intro ?_ ?_ | with_reducible exact True.intro | with_reducible exact Or.inl rfl | (refine Vc.mk ?_; (first | exact rfl | exact ⟨rfl, .inl rfl⟩ | omega | skip)))); exact (hbad (by omega)).symm)
  · have ek : k = l.length := by omega
    subst ek
    (iterate 2 all_goals (try (repeat' (conv => whnf); (first | with_reducible refine And.intro ?_ ?_ | with_reducible exact True.intro | (intro h; (first | cases h | ((try simp only [vis, Int.reduceToNat] at h); (try (exfalso; omega))))) | (with_reducible refine Vc.mk ?_; fail) | (with_reducible refine cutG ?_; fail) | refine idx_map ?_ ?_ | refine idx_mapI ?_ ?_ ?_ ))))
    all_goals (try omega)
    ((try (conv => whnf)); refine ⟨[], rfl, rfl, ?_, ?_⟩); (repeat' (conv => whnf); (first | with_reducible refine And.intro ?_ ?_ | with_reducible exact True.intro | with_reducible exact Or.inl rfl | (refine Vc.mk ?_; (first | exact rfl | exact ⟨rfl, .inl rfl⟩ | omega | skip))))
    symm
    simp only [lightA, Bool.and_eq_true, decide_eq_true_eq, List.all_eq_true]
    refine ⟨by omega, fun q hq => ?_⟩
    obtain ⟨i, hi, rfl⟩ := List.mem_iff_getElem.1 hq
    have := hg i hi hi
    exact ⟨⟨this.1, this.2.1⟩, this.2.2⟩
end Go.Proofs.Ytimfnpjcedjmiaa
