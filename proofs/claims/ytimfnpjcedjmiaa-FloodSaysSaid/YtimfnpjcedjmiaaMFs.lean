/-
  Both bases, for the statement FloodSays.
-/
import Derived.Test.YtimfnpjcedjmiaaMFl4
import Derived.Test.YtimfnpjcedjmiaaMFlP
import Derived.Test.YtimfnpjcedjmiaaMRb8
namespace Go.Proofs.Ytimfnpjcedjmiaa
open Go.RowKit
set_option linter.unusedSimpArgs false
set_option linter.unusedVariables false
set_option maxHeartbeats 4000000 in
set_option maxRecDepth 100000 in
theorem sameSts_refl (l : List St3) (hl : l.length ≤ 1000000) (hs : ∀ s ∈ l, s.2.2.length ≤ 1000000) : Fn Try.prog 84 [.sl 3 (l.map stRow) none, .sl 3 (l.map stRow) none] [] (.v (.bool true)) [] := by
  refine fn_of mixed [] [] Try.func84 rfl (by decide +kernel) Try.ntmps84 rfl (congrArg Array.toList Try.results84) rfl (by decide +kernel) ?_
  (iterate 2 all_goals (try (repeat' (conv => whnf); (first | with_reducible refine And.intro ?_ ?_ | with_reducible exact True.intro | (intro h; (first | cases h | ((try simp only [vis, Int.reduceToNat] at h); (try (exfalso; omega))))) | (with_reducible refine Vc.mk ?_; fail) | (with_reducible refine cutG ?_; fail) | refine idx_map ?_ ?_ | refine idx_mapI ?_ ?_ ?_ ))))
  all_goals (try (exfalso; omega))
  refine lpG (fun k : Nat => ⟨[(0, .sl 3 (l.map stRow) none), (1, .sl 3 (l.map stRow) none), (5, .v (.int .i64 k))], []⟩) (fun k => k ≤ l.length) (fun k => l.length - k) 0 (by omega) (by (refine le_sub [] rfl rfl ?_ ?_); all_goals (repeat' (conv => whnf); (first | with_reducible refine And.intro ?_ ?_ | with_reducible exact True.intro | with_reducible exact Or.inl rfl | (refine Vc.mk ?_; (first | exact rfl | exact ⟨rfl, .inl rfl⟩ | omega | skip))))) ?_
  intro k hk
  by_cases hk' : k < l.length
  · have hsm := rsameS_ok l[k].1 l[k].2.1 l[k].1 l[k].2.1 l[k].2.2 l[k].2.2 (hs _ (List.getElem_mem hk'))
    simp only [beq_self_eq_true, Bool.and_self] at hsm
    (iterate 2 all_goals (try (repeat' (conv => whnf); (first | with_reducible refine And.intro ?_ ?_ | with_reducible exact True.intro | (intro h; (first | cases h | ((try simp only [vis, Int.reduceToNat] at h); (try (exfalso; omega))))) | (with_reducible refine Vc.mk ?_; fail) | (with_reducible refine cutG ?_; fail) | refine idx_map ?_ ?_ | refine idx_mapI ?_ ?_ ?_ ))))
    all_goals (try omega)
    all_goals (try ((first | with_reducible refine Vc.mk ?_ | refine Vc.mk ?_); (try exact GLt)))
    (all_goals (try ((first | (refine call0 (hsm) ?_ ?_) | (refine pure0 (hsm) rfl ?_ ?_)); (· (repeat' (conv => whnf); (first | with_reducible refine And.intro ?_ ?_ | with_reducible exact True.intro | with_reducible exact Or.inl rfl | (refine Vc.mk ?_; (first | exact rfl | exact ⟨rfl, .inl rfl⟩ | omega | skip))))); (iterate 2 all_goals (try (repeat' (conv => whnf); (first | with_reducible refine And.intro ?_ ?_ | with_reducible exact True.intro | (intro h; (first | cases h | ((try simp only [vis, Int.reduceToNat] at h); (try (exfalso; omega))))) | (with_reducible refine Vc.mk ?_; fail) | (with_reducible refine cutG ?_; fail) | refine idx_map ?_ ?_ | refine idx_mapI ?_ ?_ ?_ )))))))
    all_goals (try omega)
    all_goals (try ((first | with_reducible refine Vc.mk ?_ | refine Vc.mk ?_); (try exact GLt)))
    all_goals (refine nextG (k + 1) (by omega) (by omega) (by (refine le_sub [] rfl rfl ?_ ?_); all_goals (repeat' (conv => whnf); (first | with_reducible refine And.intro ?_ ?_ | with_reducible exact True.intro | with_reducible exact Or.inl rfl | (refine Vc.mk ?_; (first | exact rfl | exact ⟨rfl, .inl rfl⟩ | omega | skip))))))
  · (iterate 2 all_goals (try (repeat' (conv => whnf); (first | with_reducible refine And.intro ?_ ?_ | with_reducible exact True.intro | (intro h; (first | cases h | ((try simp only [vis, Int.reduceToNat] at h); (try (exfalso; omega))))) | (with_reducible refine Vc.mk ?_; fail) | (with_reducible refine cutG ?_; fail) | refine idx_map ?_ ?_ | refine idx_mapI ?_ ?_ ?_ ))))
    all_goals (try omega)
    all_goals (((try (conv => whnf)); refine ⟨[], rfl, rfl, ?_, ?_⟩); (repeat' (conv => whnf); (first | with_reducible refine And.intro ?_ ?_ | with_reducible exact True.intro | with_reducible exact Or.inl rfl | (refine Vc.mk ?_; (first | exact rfl | exact ⟨rfl, .inl rfl⟩ | omega | skip)))))
/-- What the reference's base holds, however many ports. -/
def rbS (b : Ba) : List Res := [.cells (knC b.kn (.arr 1 0 b.ow.length)), .arr true 170 7 0 (b.ow.map owC)]
theorem rbS_eq {b : Ba} (hb : b.ok) : rbL b.kn b.ow = rbS b := by
  obtain ⟨kn, ow⟩ := b
  exact np3 (p := fun ow => rbL kn ow = rbS ⟨kn, ow⟩) hb.n1 hb.n3 (fun a => rfl) (fun a b => rfl) (fun a b c => rfl)
section
variable {b : Ba}
theorem xpart_ok (hb : b.ok) (p : Int) : Fn Try.prog 82 [.box 0 0, .v (.int .i64 p)] [baR b] (.tup []) [baR (parB b p)] :=
  fn_packB hb.n1 hb.n3 (parB_ok hb p).n1 (parB_ok hb p).n3 (fpart_ok b.kn b.ow hb.n1 hb.n3 p) rfl
theorem sset_ok (hb : b.ok) (s : St3) : Fn Try.prog 75 [.box 0 0, .agg (stRow s)] (rbS b) (.v (.int .i64 (sf s))) (rbS (setB b s)) := by
  have h := rbset_ok b.kn b.ow hb.n1 hb.n3 s
  rw [rbS_eq hb] at h
  unfold rbM at h
  rw [rbS_eq (b := setB ⟨b.kn, b.ow⟩ s) (setB_ok hb s)] at h
  exact h
theorem stake_ok (hb : b.ok) (p : Int) (s : St3) : Fn Try.prog 77 [.box 0 0, .v (.int .i64 p), .agg (stRow s)] (rbS b) (.tup [.v (.int .i64 (takeV b p s)), .v (.int .i64 (takeE b p s))]) (rbS (takeB b p s)) := by
  have h := rbtake_ok b.kn b.ow hb.n1 hb.n3 hb.kn p s
  rw [rbS_eq hb] at h
  unfold rbM at h
  rw [rbS_eq (b := takeB ⟨b.kn, b.ow⟩ p s) (takeB_ok hb p s)] at h
  exact h
theorem sheard_ok (hb : b.ok) (p : Int) (s : St3) : Fn Try.prog 79 [.box 0 0, .v (.int .i64 p), .agg (stRow s)] (rbS b) (.v (.int .i64 (takeE b p s))) (rbS (hrdB b p s)) := by
  have h := rbheard_ok b.kn b.ow hb.n1 hb.n3 hb.kn p s
  rw [rbS_eq hb] at h
  unfold rbM at h
  rw [rbS_eq (b := hrdB ⟨b.kn, b.ow⟩ p s) (hrdB_ok hb p s)] at h
  exact h
theorem smeet_ok (hb : b.ok) (p : Int) : Fn Try.prog 81 [.box 0 0, .v (.int .i64 p)] (rbS b) (.v (.int .i64 (metE b p))) (rbS (metB b p)) := by
  have h := rbmeet_ok b.kn b.ow hb.n1 hb.n3 hb.kn p
  rw [rbS_eq hb] at h
  unfold rbM at h
  rw [rbS_eq (b := metB ⟨b.kn, b.ow⟩ p) (metB_ok hb p)] at h
  exact h
theorem spart_ok (hb : b.ok) (p : Int) : Fn Try.prog 83 [.box 0 0, .v (.int .i64 p)] (rbS b) (.tup []) (rbS (parB b p)) := by
  have h := rbpart_ok b.kn b.ow hb.n1 hb.n3 p
  rw [rbS_eq hb] at h
  unfold rbM at h
  rw [rbS_eq (b := parB ⟨b.kn, b.ow⟩ p) (parB_ok hb p)] at h
  exact h
theorem sstates_ok (hb : b.ok) : Fn Try.prog 86 [.box 0 0] (rbS b) (.sl 3 ((stsB b).map stRow) none) (rbS b) := by
  have h := rbstates_ok b.kn b.ow hb.n1 hb.n3 hb.kn
  rw [rbS_eq hb] at h
  exact h
theorem sowed_ok (hb : b.ok) (p : Int) : Fn Try.prog 88 [.box 0 0, .v (.int .i64 p)] (rbS b) (.sl 3 ((owdB b p).map stRow) none) (rbS b) := by
  have h := rbowed_ok b.kn b.ow hb.n1 hb.n3 hb.kn p
  rw [rbS_eq hb] at h
  exact h
end
set_option maxHeartbeats 8000000 in
set_option maxRecDepth 100000 in
theorem bases_ok : Fn Try.prog 71 [] [] (.v (.bool true)) [] := by
  have h0 := xnew_ok 2 (by decide) (by decide)
  have k0 := newB_ok (n := 2) (by decide) (by decide)
  have h1 := xtake_ok k0 0 (3, 1, [])
  have k1 := takeB_ok k0 0 (3, 1, [])
  have h2 := xowed_ok k1 0
  have h3 := xowed_ok k1 1
  have e1 : takeV (newB 2) 0 (3, 1, []) = 1 := by decide
  have e2 : takeE (newB 2) 0 (3, 1, []) = 0 := by decide
  have e3 : (owdB (takeB (newB 2) 0 (3, 1, [])) 0).length = 0 := by decide
  have e4 : (owdB (takeB (newB 2) 0 (3, 1, [])) 1).length = 1 := by decide
  have g0 := gsame_ok 0 0 (by decide)
  rw [e1, e2] at h1
  generalize takeB (newB 2) 0 (3, 1, []) = b1 at *
  generalize owdB b1 0 = O at *
  generalize owdB b1 1 = S at *
  generalize newB 2 = b0 at *
  unfold stRow at h1
  unfold baR at *
  refine fn_of mixed [] [] Try.func71 rfl (by decide +kernel) Try.ntmps71 rfl (congrArg Array.toList Try.results71) rfl (by decide +kernel) ?_
  (iterate 2 all_goals (try (repeat' (conv => whnf); (first | with_reducible refine And.intro ?_ ?_ | with_reducible exact True.intro | (intro h; (first | cases h | ((try simp only [vis, Int.reduceToNat] at h); (try (exfalso; omega))))) | (with_reducible refine Vc.mk ?_; fail) | (with_reducible refine cutG ?_; fail) | refine idx_map ?_ ?_ | refine idx_mapI ?_ ?_ ?_ ))))
  ((all_goals (try omega)); (all_goals (try ((first | with_reducible refine Vc.mk ?_ | refine Vc.mk ?_); (try exact GLt)))); ((refine ⟨_, _, _, _, [], h0, rfl, rfl, rfl, ?_, ?_, ?_⟩)); (· ((repeat' (conv => whnf); (first | with_reducible refine And.intro ?_ ?_ | with_reducible exact True.intro | with_reducible exact Or.inl rfl | (refine Vc.mk ?_; (first | exact rfl | exact ⟨rfl, .inl rfl⟩ | omega | skip)))); all_goals rfl)); (· ((repeat' (conv => whnf); (first | with_reducible refine And.intro ?_ ?_ | with_reducible exact True.intro | with_reducible exact Or.inl rfl | (refine Vc.mk ?_; (first | exact rfl | exact ⟨rfl, .inl rfl⟩ | omega | skip)))); all_goals rfl)); (iterate 2 all_goals (try (repeat' (conv => whnf); (first | with_reducible refine And.intro ?_ ?_ | with_reducible exact True.intro | (intro h; (first | cases h | ((try simp only [vis, Int.reduceToNat] at h); (try (exfalso; omega))))) | (with_reducible refine Vc.mk ?_; fail) | (with_reducible refine cutG ?_; fail) | refine idx_map ?_ ?_ | refine idx_mapI ?_ ?_ ?_ )))); (all_goals (try omega)); (all_goals (try ((first | with_reducible refine Vc.mk ?_ | refine Vc.mk ?_); (try exact GLt)))))
  ((all_goals (try omega)); (all_goals (try ((first | with_reducible refine Vc.mk ?_ | refine Vc.mk ?_); (try exact GLt)))); ((refine ⟨_, _, _, _, [0], h1, rfl, rfl, rfl, ?_, ?_, ?_⟩)); (· ((repeat' (conv => whnf); (first | with_reducible refine And.intro ?_ ?_ | with_reducible exact True.intro | with_reducible exact Or.inl rfl | (refine Vc.mk ?_; (first | exact rfl | exact ⟨rfl, .inl rfl⟩ | omega | skip)))); all_goals rfl)); (· ((repeat' (conv => whnf); (first | with_reducible refine And.intro ?_ ?_ | with_reducible exact True.intro | with_reducible exact Or.inl rfl | (refine Vc.mk ?_; (first | exact rfl | exact ⟨rfl, .inl rfl⟩ | omega | skip)))); all_goals rfl)); (iterate 2 all_goals (try (repeat' (conv => whnf); (first | with_reducible refine And.intro ?_ ?_ | with_reducible exact True.intro | (intro h; (first | cases h | ((try simp only [vis, Int.reduceToNat] at h); (try (exfalso; omega))))) | (with_reducible refine Vc.mk ?_; fail) | (with_reducible refine cutG ?_; fail) | refine idx_map ?_ ?_ | refine idx_mapI ?_ ?_ ?_ )))); (all_goals (try omega)); (all_goals (try ((first | with_reducible refine Vc.mk ?_ | refine Vc.mk ?_); (try exact GLt)))))
  (all_goals (try ((first | (refine call0 (g0) ?_ ?_) | (refine pure0 (g0) rfl ?_ ?_)); (· (repeat' (conv => whnf); (first | with_reducible refine And.intro ?_ ?_ | with_reducible exact True.intro | with_reducible exact Or.inl rfl | (refine Vc.mk ?_; (first | exact rfl | exact ⟨rfl, .inl rfl⟩ | omega | skip))))); (iterate 2 all_goals (try (repeat' (conv => whnf); (first | with_reducible refine And.intro ?_ ?_ | with_reducible exact True.intro | (intro h; (first | cases h | ((try simp only [vis, Int.reduceToNat] at h); (try (exfalso; omega))))) | (with_reducible refine Vc.mk ?_; fail) | (with_reducible refine cutG ?_; fail) | refine idx_map ?_ ?_ | refine idx_mapI ?_ ?_ ?_ )))))))
  all_goals (try omega)
  all_goals (try ((first | with_reducible refine Vc.mk ?_ | refine Vc.mk ?_); (try exact GLt)))
  ((all_goals (try omega)); (all_goals (try ((first | with_reducible refine Vc.mk ?_ | refine Vc.mk ?_); (try exact GLt)))); ((refine ⟨_, _, _, _, [0], h2, rfl, rfl, rfl, ?_, ?_, ?_⟩)); (· ((repeat' (conv => whnf); (first | with_reducible refine And.intro ?_ ?_ | with_reducible exact True.intro | with_reducible exact Or.inl rfl | (refine Vc.mk ?_; (first | exact rfl | exact ⟨rfl, .inl rfl⟩ | omega | skip)))); all_goals rfl)); (· ((repeat' (conv => whnf); (first | with_reducible refine And.intro ?_ ?_ | with_reducible exact True.intro | with_reducible exact Or.inl rfl | (refine Vc.mk ?_; (first | exact rfl | exact ⟨rfl, .inl rfl⟩ | omega | skip)))); all_goals rfl)); (iterate 2 all_goals (try (repeat' (conv => whnf); (first | with_reducible refine And.intro ?_ ?_ | with_reducible exact True.intro | (intro h; (first | cases h | ((try simp only [vis, Int.reduceToNat] at h); (try (exfalso; omega))))) | (with_reducible refine Vc.mk ?_; fail) | (with_reducible refine cutG ?_; fail) | refine idx_map ?_ ?_ | refine idx_mapI ?_ ?_ ?_ )))); (all_goals (try omega)); (all_goals (try ((first | with_reducible refine Vc.mk ?_ | refine Vc.mk ?_); (try exact GLt)))))
  all_goals (try (exfalso; simp [e3] at *; done))
  ((all_goals (try omega)); (all_goals (try ((first | with_reducible refine Vc.mk ?_ | refine Vc.mk ?_); (try exact GLt)))); ((refine ⟨_, _, _, _, [0], h3, rfl, rfl, rfl, ?_, ?_, ?_⟩)); (· ((repeat' (conv => whnf); (first | with_reducible refine And.intro ?_ ?_ | with_reducible exact True.intro | with_reducible exact Or.inl rfl | (refine Vc.mk ?_; (first | exact rfl | exact ⟨rfl, .inl rfl⟩ | omega | skip)))); all_goals rfl)); (· ((repeat' (conv => whnf); (first | with_reducible refine And.intro ?_ ?_ | with_reducible exact True.intro | with_reducible exact Or.inl rfl | (refine Vc.mk ?_; (first | exact rfl | exact ⟨rfl, .inl rfl⟩ | omega | skip)))); all_goals rfl)); (iterate 2 all_goals (try (repeat' (conv => whnf); (first | with_reducible refine And.intro ?_ ?_ | with_reducible exact True.intro | (intro h; (first | cases h | ((try simp only [vis, Int.reduceToNat] at h); (try (exfalso; omega))))) | (with_reducible refine Vc.mk ?_; fail) | (with_reducible refine cutG ?_; fail) | refine idx_map ?_ ?_ | refine idx_mapI ?_ ?_ ?_ )))); (all_goals (try omega)); (all_goals (try ((first | with_reducible refine Vc.mk ?_ | refine Vc.mk ?_); (try exact GLt)))))
  all_goals (((try (conv => whnf)); refine ⟨[], rfl, rfl, ?_, ?_⟩); (repeat' (conv => whnf); (first | with_reducible refine And.intro ?_ ?_ | with_reducible exact True.intro | with_reducible exact Or.inl rfl | (refine Vc.mk ?_; (first | exact rfl | exact ⟨rfl, .inl rfl⟩ | omega | skip)))); all_goals (first | rfl | (simp [e3, e4]; done)))
end Go.Proofs.Ytimfnpjcedjmiaa
