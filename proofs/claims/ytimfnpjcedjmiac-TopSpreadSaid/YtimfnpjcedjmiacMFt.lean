/-
  Bases, for the statements of what they are for.
-/
import Derived.Test.YtimfnpjcedjmiacMFl4
import Derived.Test.YtimfnpjcedjmiacBits
namespace Go.Proofs.Ytimfnpjcedjmiac
open Go.RowKit
set_option linter.unusedSimpArgs false
set_option linter.unusedVariables false
theorem and_inN {x : Int} {m : Nat} (hm : m < 1073741824) : 0 ≤ IntKind.i64.wrap ((BitVec.ofInt IntKind.i64.bits x &&& BitVec.ofInt IntKind.i64.bits (m : Int)).toNat : Int) ∧ IntKind.i64.wrap ((BitVec.ofInt IntKind.i64.bits x &&& BitVec.ofInt IntKind.i64.bits (m : Int)).toNat : Int) ≤ m := and_small x m hm
def lightLB (l : List St3) (n : Int) : Bool := decide ((l.length : Int) ≤ n) && l.all fun s => decide (s.2.2.length ≤ 9) && decide (sf s = 0)
theorem lightLB_out {l : List St3} {n : Int} (h : lightLB l n = true) : (l.length : Int) ≤ n ∧ ∀ s ∈ l, sf s = 0 := by
  simp only [lightLB, Bool.and_eq_true, decide_eq_true_eq, List.all_eq_true] at h
  exact ⟨h.1, fun s hs => (h.2 s hs).2⟩
set_option maxHeartbeats 8000000 in
set_option maxRecDepth 100000 in
theorem lightList_ok (l : List St3) (n : Int) (hn : n ≤ 1000) : Fn Try.prog 18 [.sl 3 (l.map stRow) none, .v (.int .i64 n)] [] (.v (.bool (lightLB l n))) [] := by
  refine fn_of mixed [] [] Try.func18 rfl (by decide +kernel) Try.ntmps18 rfl (congrArg Array.toList Try.results18) rfl (by decide +kernel) ?_
  (iterate 2 all_goals (try (repeat' (conv => whnf); (first | (with_reducible refine And.intro ?_ ?_) | (with_reducible exact True.intro) | (intro h; (first | (cases h) | ((first | (simp only [vis, Int.reduceToNat] at h) | skip); (try (exfalso; omega))))) | (with_reducible refine Vc.mk ?_; fail) | (with_reducible refine cutG ?_; fail) | (refine idx_map ?_ ?_) | (refine idx_mapI ?_ ?_ ?_) ))))
  all_goals (try omega)
  · ((try (conv => whnf)); refine ⟨[], rfl, rfl, ?_, ?_⟩); (repeat' (conv => whnf); (first | (with_reducible refine And.intro ?_ ?_) | (with_reducible exact True.intro) | (with_reducible exact Or.inl rfl) | (refine Vc.mk ?_; (first | (exact rfl) | (exact ⟨rfl, .inl rfl⟩) | omega | skip))))
    have hd : decide ((l.length : Int) ≤ n) = false := decide_eq_false (by omega)
    unfold lightLB
    rw [hd]; rfl
  refine lpG (fun k : Nat => ⟨[(0, .sl 3 (l.map stRow) none), (5, .v (.int .i64 k))], []⟩) (fun k => k ≤ l.length ∧ ∀ i (h : i < l.length), i < k → l[i].2.2.length ≤ 9 ∧ sf l[i] = 0) (fun k => l.length - k) 0 ⟨by omega, fun i _ h => by omega⟩ (by (refine le_sub [] rfl rfl ?_ ?_); all_goals ((repeat' (conv => whnf); (first | (with_reducible refine And.intro ?_ ?_) | (with_reducible exact True.intro) | (with_reducible exact Or.inl rfl) | (refine Vc.mk ?_; (first | (exact rfl) | (exact ⟨rfl, .inl rfl⟩) | omega | skip)))); all_goals rfl)) ?_
  rintro k ⟨hk, hg⟩
  by_cases hk' : k < l.length
  · have hls := lightS_ok l[k].1 l[k].2.1 l[k].2.2
    have hck := scheck_ok l[k].1 l[k].2.1 l[k].2.2
    have hsn := sfault_nonneg l[k].1 l[k].2.1 l[k].2.2
    have hbad : (9 < l[k].2.2.length ∨ sf l[k] ≠ 0) → lightLB l n = false := fun h => by
      cases e : lightLB l n with
      | false => rfl
      | true =>
        exfalso
        simp only [lightLB, Bool.and_eq_true, decide_eq_true_eq, List.all_eq_true] at e
        have := e.2 l[k] (List.getElem_mem hk')
        omega
    have hsf : sf l[k] = sfault l[k].1 l[k].2.1 l[k].2.2 := rfl
    have hg1 : l[k].2.2.length ≤ 9 → sf l[k] = 0 → ∀ i (h : i < l.length), i < k + 1 → l[i].2.2.length ≤ 9 ∧ sf l[i] = 0 := fun h1 h2 i h hi => by
      by_cases e : i = k
      · subst e; exact ⟨h1, h2⟩
      · exact hg i h (by omega)
    generalize sfault l[k].1 l[k].2.1 l[k].2.2 = F at *
    by_cases h9 : l[k].2.2.length ≤ 9
    · rw [decide_eq_true h9] at hls
      (iterate 2 all_goals (try (repeat' (conv => whnf); (first | (with_reducible refine And.intro ?_ ?_) | (with_reducible exact True.intro) | (intro h; (first | (cases h) | ((first | (simp only [vis, Int.reduceToNat] at h) | skip); (try (exfalso; omega))))) | (with_reducible refine Vc.mk ?_; fail) | (with_reducible refine cutG ?_; fail) | (refine idx_map ?_ ?_) | (refine idx_mapI ?_ ?_ ?_) ))))
      all_goals (try omega)
      all_goals (try (refine Vc.mk ?_; (first | (exact rfl) | (decide) | omega | (unfold In64; omega) | (simp only [wrap_byte, Int.reduceToNat, Int.toNat_natCast, In64]; omega) | (simp only [maxLen, Fits, viewR, viewL, AV.view, List.length_map, List.length_append, List.length_cons, List.length_nil]; omega) | (simp [viewR, viewL, AV.view, ]; done) | skip)))
      (all_goals (try ((first | (refine call0 (hls) ?_ ?_) | (refine pure0 (hls) rfl ?_ ?_)); (· (repeat' (conv => whnf); (first | (with_reducible refine And.intro ?_ ?_) | (with_reducible exact True.intro) | (with_reducible exact Or.inl rfl) | (refine Vc.mk ?_; (first | (exact rfl) | (exact ⟨rfl, .inl rfl⟩) | omega | skip))))); (iterate 2 all_goals (try (repeat' (conv => whnf); (first | (with_reducible refine And.intro ?_ ?_) | (with_reducible exact True.intro) | (intro h; (first | (cases h) | ((first | (simp only [vis, Int.reduceToNat] at h) | skip); (try (exfalso; omega))))) | (with_reducible refine Vc.mk ?_; fail) | (with_reducible refine cutG ?_; fail) | (refine idx_map ?_ ?_) | (refine idx_mapI ?_ ?_ ?_) )))))))
      all_goals (try omega)
      all_goals (try (refine Vc.mk ?_; (first | (exact rfl) | (decide) | omega | (unfold In64; omega) | (simp only [wrap_byte, Int.reduceToNat, Int.toNat_natCast, In64]; omega) | (simp only [maxLen, Fits, viewR, viewL, AV.view, List.length_map, List.length_append, List.length_cons, List.length_nil]; omega) | (simp [viewR, viewL, AV.view, ]; done) | skip)))
      (all_goals (try ((first | (refine call0 (hck) ?_ ?_) | (refine pure0 (hck) rfl ?_ ?_)); (· (repeat' (conv => whnf); (first | (with_reducible refine And.intro ?_ ?_) | (with_reducible exact True.intro) | (with_reducible exact Or.inl rfl) | (refine Vc.mk ?_; (first | (exact rfl) | (exact ⟨rfl, .inl rfl⟩) | omega | skip))))); (iterate 2 all_goals (try (repeat' (conv => whnf); (first | (with_reducible refine And.intro ?_ ?_) | (with_reducible exact True.intro) | (intro h; (first | (cases h) | ((first | (simp only [vis, Int.reduceToNat] at h) | skip); (try (exfalso; omega))))) | (with_reducible refine Vc.mk ?_; fail) | (with_reducible refine cutG ?_; fail) | (refine idx_map ?_ ?_) | (refine idx_mapI ?_ ?_ ?_) )))))))
      all_goals (try omega)
      all_goals (try (refine Vc.mk ?_; (first | (exact rfl) | (decide) | omega | (unfold In64; omega) | (simp only [wrap_byte, Int.reduceToNat, Int.toNat_natCast, In64]; omega) | (simp only [maxLen, Fits, viewR, viewL, AV.view, List.length_map, List.length_append, List.length_cons, List.length_nil]; omega) | (simp [viewR, viewL, AV.view, ]; done) | skip)))
      all_goals first
        | (refine nextG (k + 1) ⟨by omega, hg1 h9 (by omega)⟩ (by omega) (by (refine le_sub [] rfl rfl ?_ ?_); all_goals ((repeat' (conv => whnf); (first | (with_reducible refine And.intro ?_ ?_) | (with_reducible exact True.intro) | (with_reducible exact Or.inl rfl) | (refine Vc.mk ?_; (first | (exact rfl) | (exact ⟨rfl, .inl rfl⟩) | omega | skip)))); all_goals rfl)); done)
        | (((try (conv => whnf)); refine ⟨[], rfl, rfl, ?_, ?_⟩); (repeat' (conv => whnf); (first | (with_reducible refine And.intro ?_ ?_) | (with_reducible exact True.intro) | (with_reducible exact Or.inl rfl) | (refine Vc.mk ?_; (first | (exact rfl) | (exact ⟨rfl, .inl rfl⟩) | omega | skip)))); exact (hbad (by omega)).symm)
    · rw [decide_eq_false h9] at hls
      (iterate 2 all_goals (try (repeat' (conv => whnf); (first | (with_reducible refine And.intro ?_ ?_) | (with_reducible exact True.intro) | (intro h; (first | (cases h) | ((first | (simp only [vis, Int.reduceToNat] at h) | skip); (try (exfalso; omega))))) | (with_reducible refine Vc.mk ?_; fail) | (with_reducible refine cutG ?_; fail) | (refine idx_map ?_ ?_) | (refine idx_mapI ?_ ?_ ?_) ))))
      all_goals (try omega)
      all_goals (try (refine Vc.mk ?_; (first | (exact rfl) | (decide) | omega | (unfold In64; omega) | (simp only [wrap_byte, Int.reduceToNat, Int.toNat_natCast, In64]; omega) | (simp only [maxLen, Fits, viewR, viewL, AV.view, List.length_map, List.length_append, List.length_cons, List.length_nil]; omega) | (simp [viewR, viewL, AV.view, ]; done) | skip)))
      (all_goals (try ((first | (refine call0 (hls) ?_ ?_) | (refine pure0 (hls) rfl ?_ ?_)); (· (repeat' (conv => whnf); (first | (with_reducible refine And.intro ?_ ?_) | (with_reducible exact True.intro) | (with_reducible exact Or.inl rfl) | (refine Vc.mk ?_; (first | (exact rfl) | (exact ⟨rfl, .inl rfl⟩) | omega | skip))))); (iterate 2 all_goals (try (repeat' (conv => whnf); (first | (with_reducible refine And.intro ?_ ?_) | (with_reducible exact True.intro) | (intro h; (first | (cases h) | ((first | (simp only [vis, Int.reduceToNat] at h) | skip); (try (exfalso; omega))))) | (with_reducible refine Vc.mk ?_; fail) | (with_reducible refine cutG ?_; fail) | (refine idx_map ?_ ?_) | (refine idx_mapI ?_ ?_ ?_) )))))))
      all_goals (try omega)
      all_goals (try (refine Vc.mk ?_; (first | (exact rfl) | (decide) | omega | (unfold In64; omega) | (simp only [wrap_byte, Int.reduceToNat, Int.toNat_natCast, In64]; omega) | (simp only [maxLen, Fits, viewR, viewL, AV.view, List.length_map, List.length_append, List.length_cons, List.length_nil]; omega) | (simp [viewR, viewL, AV.view, ]; done) | skip)))
      all_goals (((try (conv => whnf)); refine ⟨[], rfl, rfl, ?_, ?_⟩); (repeat' (conv => whnf); (first | (with_reducible refine And.intro ?_ ?_) | (with_reducible exact True.intro) | (with_reducible exact Or.inl rfl) | (refine Vc.mk ?_; (first | (exact rfl) | (exact ⟨rfl, .inl rfl⟩) | omega | skip)))); exact (hbad (by omega)).symm)
  · have ek : k = l.length := by omega
    subst ek
    (iterate 2 all_goals (try (repeat' (conv => whnf); (first | (with_reducible refine And.intro ?_ ?_) | (with_reducible exact True.intro) | (intro h; (first | (cases h) | ((first | (simp only [vis, Int.reduceToNat] at h) | skip); (try (exfalso; omega))))) | (with_reducible refine Vc.mk ?_; fail) | (with_reducible refine cutG ?_; fail) | (refine idx_map ?_ ?_) | (refine idx_mapI ?_ ?_ ?_) ))))
    all_goals (try omega)
    ((try (conv => whnf)); refine ⟨[], rfl, rfl, ?_, ?_⟩); (repeat' (conv => whnf); (first | (with_reducible refine And.intro ?_ ?_) | (with_reducible exact True.intro) | (with_reducible exact Or.inl rfl) | (refine Vc.mk ?_; (first | (exact rfl) | (exact ⟨rfl, .inl rfl⟩) | omega | skip))))
    symm
    simp only [lightLB, Bool.and_eq_true, decide_eq_true_eq, List.all_eq_true]
    refine ⟨by omega, fun s hs => ?_⟩
    obtain ⟨i, hi, rfl⟩ := List.mem_iff_getElem.1 hs
    exact hg i hi hi
set_option maxHeartbeats 4000000 in
set_option maxRecDepth 100000 in
theorem based_ok : Fn Try.prog 17 [] [] (.v (.bool true)) [] := by
  have h0 := xnew_ok 1 (by decide) (by decide)
  have k0 := newB_ok (n := 1) (by decide) (by decide)
  have h1 := xset_ok k0 (1, 1, []) (by decide)
  have k1 := setB_ok k0 (1, 1, [])
  have h2 := xowed_ok k1 0
  have h3 := xstates_ok k1
  have e1 : sf (1, 1, []) = 0 := by decide
  have e2 : (owdB (setB (newB 1) (1, 1, [])) 0).length = 1 := by decide
  have e3 : (stsB (setB (newB 1) (1, 1, []))).length = 1 := by decide
  rw [e1] at h1
  generalize setB (newB 1) (1, 1, []) = b1 at *
  generalize owdB b1 0 = O at *
  generalize stsB b1 = S at *
  generalize newB 1 = b0 at *
  unfold stRow at h1
  unfold baR at *
  refine fn_of mixed [] [] Try.func17 rfl (by decide +kernel) Try.ntmps17 rfl (congrArg Array.toList Try.results17) rfl (by decide +kernel) ?_
  (iterate 2 all_goals (try (repeat' (conv => whnf); (first | (with_reducible refine And.intro ?_ ?_) | (with_reducible exact True.intro) | (intro h; (first | (cases h) | ((first | (simp only [vis, Int.reduceToNat] at h) | skip); (try (exfalso; omega))))) | (with_reducible refine Vc.mk ?_; fail) | (with_reducible refine cutG ?_; fail) | (refine idx_map ?_ ?_) | (refine idx_mapI ?_ ?_ ?_) ))))
  ((all_goals (try omega)); (all_goals (try (refine Vc.mk ?_; (first | (exact rfl) | (decide) | omega | (unfold In64; omega) | (simp only [wrap_byte, Int.reduceToNat, Int.toNat_natCast, In64]; omega) | (simp only [maxLen, Fits, viewR, viewL, AV.view, List.length_map, List.length_append, List.length_cons, List.length_nil]; omega) | (simp [viewR, viewL, AV.view, ]; done) | skip)))); ((refine ⟨_, _, _, _, [], h0, rfl, rfl, rfl, ?_, ?_, ?_⟩)); (· ((repeat' (conv => whnf); (first | (with_reducible refine And.intro ?_ ?_) | (with_reducible exact True.intro) | (with_reducible exact Or.inl rfl) | (refine Vc.mk ?_; (first | (exact rfl) | (exact ⟨rfl, .inl rfl⟩) | omega | skip)))); all_goals rfl)); (· ((repeat' (conv => whnf); (first | (with_reducible refine And.intro ?_ ?_) | (with_reducible exact True.intro) | (with_reducible exact Or.inl rfl) | (refine Vc.mk ?_; (first | (exact rfl) | (exact ⟨rfl, .inl rfl⟩) | omega | skip)))); all_goals rfl)); (iterate 2 all_goals (try (repeat' (conv => whnf); (first | (with_reducible refine And.intro ?_ ?_) | (with_reducible exact True.intro) | (intro h; (first | (cases h) | ((first | (simp only [vis, Int.reduceToNat] at h) | skip); (try (exfalso; omega))))) | (with_reducible refine Vc.mk ?_; fail) | (with_reducible refine cutG ?_; fail) | (refine idx_map ?_ ?_) | (refine idx_mapI ?_ ?_ ?_) )))); (all_goals (try omega)); (all_goals (try (refine Vc.mk ?_; (first | (exact rfl) | (decide) | omega | (unfold In64; omega) | (simp only [wrap_byte, Int.reduceToNat, Int.toNat_natCast, In64]; omega) | (simp only [maxLen, Fits, viewR, viewL, AV.view, List.length_map, List.length_append, List.length_cons, List.length_nil]; omega) | (simp [viewR, viewL, AV.view, ]; done) | skip)))))
  ((all_goals (try omega)); (all_goals (try (refine Vc.mk ?_; (first | (exact rfl) | (decide) | omega | (unfold In64; omega) | (simp only [wrap_byte, Int.reduceToNat, Int.toNat_natCast, In64]; omega) | (simp only [maxLen, Fits, viewR, viewL, AV.view, List.length_map, List.length_append, List.length_cons, List.length_nil]; omega) | (simp [viewR, viewL, AV.view, ]; done) | skip)))); ((refine ⟨_, _, _, _, [0], h1, rfl, rfl, rfl, ?_, ?_, ?_⟩)); (· ((repeat' (conv => whnf); (first | (with_reducible refine And.intro ?_ ?_) | (with_reducible exact True.intro) | (with_reducible exact Or.inl rfl) | (refine Vc.mk ?_; (first | (exact rfl) | (exact ⟨rfl, .inl rfl⟩) | omega | skip)))); all_goals rfl)); (· ((repeat' (conv => whnf); (first | (with_reducible refine And.intro ?_ ?_) | (with_reducible exact True.intro) | (with_reducible exact Or.inl rfl) | (refine Vc.mk ?_; (first | (exact rfl) | (exact ⟨rfl, .inl rfl⟩) | omega | skip)))); all_goals rfl)); (iterate 2 all_goals (try (repeat' (conv => whnf); (first | (with_reducible refine And.intro ?_ ?_) | (with_reducible exact True.intro) | (intro h; (first | (cases h) | ((first | (simp only [vis, Int.reduceToNat] at h) | skip); (try (exfalso; omega))))) | (with_reducible refine Vc.mk ?_; fail) | (with_reducible refine cutG ?_; fail) | (refine idx_map ?_ ?_) | (refine idx_mapI ?_ ?_ ?_) )))); (all_goals (try omega)); (all_goals (try (refine Vc.mk ?_; (first | (exact rfl) | (decide) | omega | (unfold In64; omega) | (simp only [wrap_byte, Int.reduceToNat, Int.toNat_natCast, In64]; omega) | (simp only [maxLen, Fits, viewR, viewL, AV.view, List.length_map, List.length_append, List.length_cons, List.length_nil]; omega) | (simp [viewR, viewL, AV.view, ]; done) | skip)))))
  ((all_goals (try omega)); (all_goals (try (refine Vc.mk ?_; (first | (exact rfl) | (decide) | omega | (unfold In64; omega) | (simp only [wrap_byte, Int.reduceToNat, Int.toNat_natCast, In64]; omega) | (simp only [maxLen, Fits, viewR, viewL, AV.view, List.length_map, List.length_append, List.length_cons, List.length_nil]; omega) | (simp [viewR, viewL, AV.view, ]; done) | skip)))); ((refine ⟨_, _, _, _, [0], h2, rfl, rfl, rfl, ?_, ?_, ?_⟩)); (· ((repeat' (conv => whnf); (first | (with_reducible refine And.intro ?_ ?_) | (with_reducible exact True.intro) | (with_reducible exact Or.inl rfl) | (refine Vc.mk ?_; (first | (exact rfl) | (exact ⟨rfl, .inl rfl⟩) | omega | skip)))); all_goals rfl)); (· ((repeat' (conv => whnf); (first | (with_reducible refine And.intro ?_ ?_) | (with_reducible exact True.intro) | (with_reducible exact Or.inl rfl) | (refine Vc.mk ?_; (first | (exact rfl) | (exact ⟨rfl, .inl rfl⟩) | omega | skip)))); all_goals rfl)); (iterate 2 all_goals (try (repeat' (conv => whnf); (first | (with_reducible refine And.intro ?_ ?_) | (with_reducible exact True.intro) | (intro h; (first | (cases h) | ((first | (simp only [vis, Int.reduceToNat] at h) | skip); (try (exfalso; omega))))) | (with_reducible refine Vc.mk ?_; fail) | (with_reducible refine cutG ?_; fail) | (refine idx_map ?_ ?_) | (refine idx_mapI ?_ ?_ ?_) )))); (all_goals (try omega)); (all_goals (try (refine Vc.mk ?_; (first | (exact rfl) | (decide) | omega | (unfold In64; omega) | (simp only [wrap_byte, Int.reduceToNat, Int.toNat_natCast, In64]; omega) | (simp only [maxLen, Fits, viewR, viewL, AV.view, List.length_map, List.length_append, List.length_cons, List.length_nil]; omega) | (simp [viewR, viewL, AV.view, ]; done) | skip)))))
  all_goals (try (exfalso; simp [e2] at *; done))
  ((all_goals (try omega)); (all_goals (try (refine Vc.mk ?_; (first | (exact rfl) | (decide) | omega | (unfold In64; omega) | (simp only [wrap_byte, Int.reduceToNat, Int.toNat_natCast, In64]; omega) | (simp only [maxLen, Fits, viewR, viewL, AV.view, List.length_map, List.length_append, List.length_cons, List.length_nil]; omega) | (simp [viewR, viewL, AV.view, ]; done) | skip)))); ((refine ⟨_, _, _, _, [0], h3, rfl, rfl, rfl, ?_, ?_, ?_⟩)); (· ((repeat' (conv => whnf); (first | (with_reducible refine And.intro ?_ ?_) | (with_reducible exact True.intro) | (with_reducible exact Or.inl rfl) | (refine Vc.mk ?_; (first | (exact rfl) | (exact ⟨rfl, .inl rfl⟩) | omega | skip)))); all_goals rfl)); (· ((repeat' (conv => whnf); (first | (with_reducible refine And.intro ?_ ?_) | (with_reducible exact True.intro) | (with_reducible exact Or.inl rfl) | (refine Vc.mk ?_; (first | (exact rfl) | (exact ⟨rfl, .inl rfl⟩) | omega | skip)))); all_goals rfl)); (iterate 2 all_goals (try (repeat' (conv => whnf); (first | (with_reducible refine And.intro ?_ ?_) | (with_reducible exact True.intro) | (intro h; (first | (cases h) | ((first | (simp only [vis, Int.reduceToNat] at h) | skip); (try (exfalso; omega))))) | (with_reducible refine Vc.mk ?_; fail) | (with_reducible refine cutG ?_; fail) | (refine idx_map ?_ ?_) | (refine idx_mapI ?_ ?_ ?_) )))); (all_goals (try omega)); (all_goals (try (refine Vc.mk ?_; (first | (exact rfl) | (decide) | omega | (unfold In64; omega) | (simp only [wrap_byte, Int.reduceToNat, Int.toNat_natCast, In64]; omega) | (simp only [maxLen, Fits, viewR, viewL, AV.view, List.length_map, List.length_append, List.length_cons, List.length_nil]; omega) | (simp [viewR, viewL, AV.view, ]; done) | skip)))))
  all_goals (((try (conv => whnf)); refine ⟨[], rfl, rfl, ?_, ?_⟩); (repeat' (conv => whnf); (first | (with_reducible refine And.intro ?_ ?_) | (with_reducible exact True.intro) | (with_reducible exact Or.inl rfl) | (refine Vc.mk ?_; (first | (exact rfl) | (exact ⟨rfl, .inl rfl⟩) | omega | skip)))); all_goals (first | rfl | (simp [e2, e3]; done)))
theorem owd_any {b : Ba} (hb : b.ok) {n p : Int} (h1 : 1 ≤ n) (h6 : n ≤ 6) : ((owdB b p).any fun s => s.1 == n) = ((b.kn n).isSome && getW b.ow p n) := by
  rw [Bool.eq_iff_iff, List.any_eq_true, Bool.and_eq_true]
  unfold owdB
  constructor
  · rintro ⟨s, hs, he⟩
    obtain ⟨hs1, hs2⟩ := List.mem_filter.1 hs
    have he : s.1 = n := by simpa using he
    have := (stsB_mem hb s hs1).2
    rw [he] at this hs2
    exact ⟨by rw [this]; rfl, hs2⟩
  · rintro ⟨hk, hw⟩
    cases hk2 : b.kn n with
    | none => rw [hk2] at hk; cases hk
    | some s =>
      have hs := (hb.kn n s hk2).1
      refine ⟨s, List.mem_filter.2 ⟨?_, by rw [hs]; exact hw⟩, by simpa using hs⟩
      unfold stsB
      refine List.mem_filterMap.2 ⟨n, ?_, hk2⟩
      simp; omega
end Go.Proofs.Ytimfnpjcedjmiac
