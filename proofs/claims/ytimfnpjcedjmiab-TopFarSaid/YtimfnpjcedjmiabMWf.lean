/-
  Few states that may be, of unlike owners.
-/
import Derived.Test.YtimfnpjcedjmiabMWa
import Derived.Test.YtimfnpjcedjmiabMSt
namespace Go.Proofs.Ytimfnpjcedjmiab
open Go.RowKit
set_option linter.unusedSimpArgs false
set_option linter.unusedVariables false
/-- Few states that may be. -/
structure OkL (l : List St3) : Prop where
  few : l.length ≤ 6
  good : ∀ i (h : i < l.length), sfault l[i].1 l[i].2.1 l[i].2.2 = 0
  unlike : ∀ i (h : i < l.length) k (hk : k < i), ¬ l[k].1 = l[i].1
noncomputable def lightB (l : List St3) : Bool := @decide (OkL l) (Classical.propDecidable _)
theorem lightB_t {l : List St3} (h : OkL l) : lightB l = true := by unfold lightB; exact @decide_eq_true _ (Classical.propDecidable _) h
theorem lightB_f {l : List St3} (h : ¬ OkL l) : lightB l = false := by unfold lightB; exact @decide_eq_false _ (Classical.propDecidable _) h
theorem lightB_ok {l : List St3} (h : lightB l = true) : OkL l := by
  by_cases g : OkL l
  · exact g
  · rw [lightB_f g] at h; cases h
theorem efault_len {o : Int} : ∀ {l : List (Int × Int)} {p : Int}, p ≤ 6 → efault o p l = 0 → (l.length : Int) ≤ 6 - p
  | [], p, hp, h => by simp; omega
  | e :: r, p, hp, h => by
    unfold efault at h
    split at h
    · omega
    · rename_i hb
      split at h
      · omega
      · rename_i hc
        simp only [edgBad, Bool.or_eq_true, decide_eq_true_eq] at hb
        have ih := efault_len (by omega) h
        simp only [List.length_cons]; omega
theorem efault_edg {o : Int} : ∀ {l : List (Int × Int)} {p : Int}, efault o p l = 0 → ∀ e ∈ l, 1 ≤ e.1 ∧ e.1 ≤ 6 ∧ 1 ≤ e.2 ∧ e.2 ≤ 20 ∧ e.1 ≠ o
  | [], p, h => fun e he => by cases he
  | e :: r, p, h => by
    unfold efault at h
    split at h
    · omega
    · rename_i hb
      split at h
      · omega
      · rename_i hc
        simp only [edgBad, Bool.or_eq_true, decide_eq_true_eq] at hb
        intro x hx
        rcases List.mem_cons.1 hx with rfl | hx
        · refine ⟨by omega, by omega, by omega, by omega, fun e => hc (.inl e)⟩
        · exact efault_edg h x hx
theorem sfault_wgood {o q : Int} {l : List (Int × Int)} (h : sfault o q l = 0) : l.length ≤ 6 ∧ ∀ e ∈ l, 1 ≤ e.1 ∧ e.1 ≤ 6 ∧ 1 ≤ e.2 ∧ e.2 ≤ 20 ∧ e.1 ≠ o := by
  unfold sfault at h
  split at h
  · omega
  · split at h
    · omega
    · exact ⟨by have := efault_len (by decide) h; omega, efault_edg h⟩
theorem OkL.mem {l : List St3} (h : OkL l) : ∀ s ∈ l, sfault s.1 s.2.1 s.2.2 = 0 := by
  intro s hs
  obtain ⟨i, hi, rfl⟩ := List.mem_iff_getElem.1 hs
  exact h.good i hi
theorem OkL.small {l : List St3} (h : OkL l) : smallL l := ⟨by have := h.few; omega, fun s hs => by have := (sfault_wgood (h.mem s hs)).1; omega⟩
theorem OkL.metric {l : List St3} (h : OkL l) : MOk (met l) := by
  have key : ∀ a b, 0 ≤ (mL a b l).1 ∧ (mL a b l).1 ≤ 20 := by
    intro a b
    have step : ∀ (l : List St3) (q : Int × Bool), (∀ s ∈ l, sfault s.1 s.2.1 s.2.2 = 0) → 0 ≤ q.1 ∧ q.1 ≤ 20 → 0 ≤ (l.foldl (mE a b) q).1 ∧ (l.foldl (mE a b) q).1 ≤ 20 := by
      intro l
      induction l with
      | nil => intro q _ hq; exact hq
      | cons s r ih =>
        intro q hs hq
        refine ih _ (fun x hx => hs x (List.mem_cons_of_mem _ hx)) ?_
        have hg := (sfault_wgood (hs s (List.mem_cons_self ..))).2
        unfold mE
        have inner : ∀ (es : List (Int × Int)) (q : Int × Bool), (∀ e ∈ es, 1 ≤ e.1 ∧ e.1 ≤ 6 ∧ 1 ≤ e.2 ∧ e.2 ≤ 20 ∧ e.1 ≠ s.1) → 0 ≤ q.1 ∧ q.1 ≤ 20 → 0 ≤ (es.foldl (mS a b s.1) q).1 ∧ (es.foldl (mS a b s.1) q).1 ≤ 20 := by
          intro es
          induction es with
          | nil => intro q _ hq; exact hq
          | cons e r ih =>
            intro q he hq
            refine ih _ (fun x hx => he x (List.mem_cons_of_mem _ hx)) ?_
            have := he e (List.mem_cons_self ..)
            unfold mS
            dsimp only
            split
            · omega
            · exact hq
        exact inner _ _ hg hq
    exact step l _ h.mem ⟨Int.le_refl _, by decide⟩
  refine ⟨fun a b => ?_, fun a b => ?_⟩
  all_goals
    have := key a b
    unfold met
    split
    · omega
    · omega
set_option maxHeartbeats 16000000 in
set_option maxRecDepth 100000 in
theorem lightStates_ok (l : List St3) : Fn Try.prog 26 [.sl 3 (l.map stRow) none] [] (.v (.bool (lightB l))) [] := by
  refine fn_of mixed [] [] Try.func26 rfl (by decide +kernel) Try.ntmps26 rfl (congrArg Array.toList Try.results26) rfl (by decide +kernel) ?_
  (iterate 2 all_goals (try (repeat' (conv => whnf); (first | (with_reducible refine And.intro ?_ ?_) | (with_reducible exact True.intro) | (intro h; (first | (cases h) | ((first | (simp only [vis, Int.reduceToNat] at h) | skip); (try (exfalso; omega))))) | (with_reducible refine Vc.mk ?_; fail) | (with_reducible refine cutG ?_; fail) | (refine idx_map ?_ ?_) | (refine idx_mapI ?_ ?_ ?_) ))))
  all_goals (try omega)
  · ((try (conv => whnf)); refine ⟨[], rfl, rfl, ?_, ?_⟩); (repeat' (conv => whnf); (first | (with_reducible refine And.intro ?_ ?_) | (with_reducible exact True.intro) | (with_reducible exact Or.inl rfl) | (refine Vc.mk ?_; (first | (exact rfl) | (exact ⟨rfl, .inl rfl⟩) | omega | skip))))
    exact (lightB_f fun h => by have := h.few; omega).symm
  have hl6 : l.length ≤ 6 := by omega
  refine lpG (fun k : Nat => ⟨[(0, .sl 3 (l.map stRow) none), (3, .v (.int .i64 k))], []⟩) (fun k => k ≤ l.length ∧ (∀ i (h : i < l.length), i < k → sfault l[i].1 l[i].2.1 l[i].2.2 = 0) ∧ ∀ i (h : i < l.length), i < k → ∀ j (hj : j < i), ¬ l[j].1 = l[i].1) (fun k => l.length - k) 0 ⟨by omega, fun i _ h => by omega, fun i _ h => by omega⟩ (by (refine le_sub [] rfl rfl ?_ ?_); all_goals (repeat' (conv => whnf); (first | (with_reducible refine And.intro ?_ ?_) | (with_reducible exact True.intro) | (with_reducible exact Or.inl rfl) | (refine Vc.mk ?_; (first | (exact rfl) | (exact ⟨rfl, .inl rfl⟩) | omega | skip))))) ?_
  rintro k ⟨hk, hg, hu⟩
  by_cases hk' : k < l.length
  · have hsn := sfault_nonneg l[k].1 l[k].2.1 l[k].2.2
    have hrf := rsfault_ok l[k].1 l[k].2.1 l[k].2.2
    have hb : sfault l[k].1 l[k].2.1 l[k].2.2 ≠ 0 → lightB l = false := fun h => lightB_f fun g => h (g.good k hk')
    have hg0 : sfault l[k].1 l[k].2.1 l[k].2.2 = 0 → ∀ i (h : i < l.length), i < k + 1 → sfault l[i].1 l[i].2.1 l[i].2.2 = 0 := fun h0 i h hi => by
      by_cases e : i = k
      · subst e; exact h0
      · exact hg i h (by omega)
    generalize sfault l[k].1 l[k].2.1 l[k].2.2 = F at *
    (iterate 2 all_goals (try (repeat' (conv => whnf); (first | (with_reducible refine And.intro ?_ ?_) | (with_reducible exact True.intro) | (intro h; (first | (cases h) | ((first | (simp only [vis, Int.reduceToNat] at h) | skip); (try (exfalso; omega))))) | (with_reducible refine Vc.mk ?_; fail) | (with_reducible refine cutG ?_; fail) | (refine idx_map ?_ ?_) | (refine idx_mapI ?_ ?_ ?_) ))))
    all_goals (try omega)
    all_goals (try (refine Vc.mk ?_; (first | (exact rfl) | (decide) | omega | (unfold In64; omega) | (simp only [wrap_byte, Int.reduceToNat, Int.toNat_natCast, In64]; omega) | (simp only [maxLen, Fits, viewR, viewL, AV.view, List.length_map, List.length_append, List.length_cons, List.length_nil]; omega) | (simp [viewR, viewL, AV.view, ]; done) | skip)))
    all_goals (refine call0 hrf ?_ ?_; (· (repeat' (conv => whnf); (first | (with_reducible refine And.intro ?_ ?_) | (with_reducible exact True.intro) | (with_reducible exact Or.inl rfl) | (refine Vc.mk ?_; (first | (exact rfl) | (exact ⟨rfl, .inl rfl⟩) | omega | skip))))); (iterate 2 all_goals (try (repeat' (conv => whnf); (first | (with_reducible refine And.intro ?_ ?_) | (with_reducible exact True.intro) | (intro h; (first | (cases h) | ((first | (simp only [vis, Int.reduceToNat] at h) | skip); (try (exfalso; omega))))) | (with_reducible refine Vc.mk ?_; fail) | (with_reducible refine cutG ?_; fail) | (refine idx_map ?_ ?_) | (refine idx_mapI ?_ ?_ ?_) )))))
    all_goals (try omega)
    all_goals (try (refine Vc.mk ?_; (first | (exact rfl) | (decide) | omega | (unfold In64; omega) | (simp only [wrap_byte, Int.reduceToNat, Int.toNat_natCast, In64]; omega) | (simp only [maxLen, Fits, viewR, viewL, AV.view, List.length_map, List.length_append, List.length_cons, List.length_nil]; omega) | (simp [viewR, viewL, AV.view, ]; done) | skip)))
    · ((try (conv => whnf)); refine ⟨[], rfl, rfl, ?_, ?_⟩); (repeat' (conv => whnf); (first | (with_reducible refine And.intro ?_ ?_) | (with_reducible exact True.intro) | (with_reducible exact Or.inl rfl) | (refine Vc.mk ?_; (first | (exact rfl) | (exact ⟨rfl, .inl rfl⟩) | omega | skip))))
      exact (hb (by omega)).symm
    have hg1 := hg0 (by omega)
    clear hb hg0 hrf
    refine lpG (fun j : Nat => ⟨[(0, .sl 3 (l.map stRow) none), (3, .v (.int .i64 k)), (4, .v (.int .i64 j))], []⟩) (fun j => j ≤ k ∧ ∀ i (hi : i < j) (hk : j ≤ k), ¬ (l[i]'(by omega)).1 = l[k].1) (fun j => k - j) 0 ⟨by omega, fun i h => by omega⟩ (by (refine le_sub [] rfl rfl ?_ ?_); all_goals (repeat' (conv => whnf); (first | (with_reducible refine And.intro ?_ ?_) | (with_reducible exact True.intro) | (with_reducible exact Or.inl rfl) | (refine Vc.mk ?_; (first | (exact rfl) | (exact ⟨rfl, .inl rfl⟩) | omega | skip))))) ?_
    rintro j ⟨hj, hju⟩
    by_cases hj' : j < k
    · (iterate 2 all_goals (try (repeat' (conv => whnf); (first | (with_reducible refine And.intro ?_ ?_) | (with_reducible exact True.intro) | (intro h; (first | (cases h) | ((first | (simp only [vis, Int.reduceToNat] at h) | skip); (try (exfalso; omega))))) | (with_reducible refine Vc.mk ?_; fail) | (with_reducible refine cutG ?_; fail) | (refine idx_map ?_ ?_) | (refine idx_mapI ?_ ?_ ?_) ))))
      all_goals (try omega)
      all_goals (try (refine Vc.mk ?_; (first | (exact rfl) | (decide) | omega | (unfold In64; omega) | (simp only [wrap_byte, Int.reduceToNat, Int.toNat_natCast, In64]; omega) | (simp only [maxLen, Fits, viewR, viewL, AV.view, List.length_map, List.length_append, List.length_cons, List.length_nil]; omega) | (simp [viewR, viewL, AV.view, ]; done) | skip)))
      · ((try (conv => whnf)); refine ⟨[], rfl, rfl, ?_, ?_⟩); (repeat' (conv => whnf); (first | (with_reducible refine And.intro ?_ ?_) | (with_reducible exact True.intro) | (with_reducible exact Or.inl rfl) | (refine Vc.mk ?_; (first | (exact rfl) | (exact ⟨rfl, .inl rfl⟩) | omega | skip))))
        refine (lightB_f fun g => ?_).symm
        exact g.unlike k hk' j hj' (by assumption)
      · refine nextG (j + 1) ⟨by omega, fun i hi hk2 => ?_⟩ (by omega) (by (refine le_sub [] rfl rfl ?_ ?_); all_goals (repeat' (conv => whnf); (first | (with_reducible refine And.intro ?_ ?_) | (with_reducible exact True.intro) | (with_reducible exact Or.inl rfl) | (refine Vc.mk ?_; (first | (exact rfl) | (exact ⟨rfl, .inl rfl⟩) | omega | skip)))))
        by_cases e : i = j
        · subst e; assumption
        · exact hju i (by omega) (by omega)
    · have ej : j = k := by omega
      subst ej
      (iterate 2 all_goals (try (repeat' (conv => whnf); (first | (with_reducible refine And.intro ?_ ?_) | (with_reducible exact True.intro) | (intro h; (first | (cases h) | ((first | (simp only [vis, Int.reduceToNat] at h) | skip); (try (exfalso; omega))))) | (with_reducible refine Vc.mk ?_; fail) | (with_reducible refine cutG ?_; fail) | (refine idx_map ?_ ?_) | (refine idx_mapI ?_ ?_ ?_) ))))
      all_goals (try omega)
      all_goals (try (refine Vc.mk ?_; (first | (exact rfl) | (decide) | omega | (unfold In64; omega) | (simp only [wrap_byte, Int.reduceToNat, Int.toNat_natCast, In64]; omega) | (simp only [maxLen, Fits, viewR, viewL, AV.view, List.length_map, List.length_append, List.length_cons, List.length_nil]; omega) | (simp [viewR, viewL, AV.view, ]; done) | skip)))
      refine nextG (j + 1) ⟨by omega, hg1, fun i h hi q hq => ?_⟩ (by omega) (by (refine le_sub [] rfl rfl ?_ ?_); all_goals (repeat' (conv => whnf); (first | (with_reducible refine And.intro ?_ ?_) | (with_reducible exact True.intro) | (with_reducible exact Or.inl rfl) | (refine Vc.mk ?_; (first | (exact rfl) | (exact ⟨rfl, .inl rfl⟩) | omega | skip)))))
      by_cases e : i = j
      · subst e; exact hju q hq (Nat.le_refl _)
      · exact hu i h (by omega) q hq
  · have ek : k = l.length := by omega
    subst ek
    (iterate 2 all_goals (try (repeat' (conv => whnf); (first | (with_reducible refine And.intro ?_ ?_) | (with_reducible exact True.intro) | (intro h; (first | (cases h) | ((first | (simp only [vis, Int.reduceToNat] at h) | skip); (try (exfalso; omega))))) | (with_reducible refine Vc.mk ?_; fail) | (with_reducible refine cutG ?_; fail) | (refine idx_map ?_ ?_) | (refine idx_mapI ?_ ?_ ?_) ))))
    all_goals (try omega)
    all_goals (try (refine Vc.mk ?_; (first | (exact rfl) | (decide) | omega | (unfold In64; omega) | (simp only [wrap_byte, Int.reduceToNat, Int.toNat_natCast, In64]; omega) | (simp only [maxLen, Fits, viewR, viewL, AV.view, List.length_map, List.length_append, List.length_cons, List.length_nil]; omega) | (simp [viewR, viewL, AV.view, ]; done) | skip)))
    ((try (conv => whnf)); refine ⟨[], rfl, rfl, ?_, ?_⟩); (repeat' (conv => whnf); (first | (with_reducible refine And.intro ?_ ?_) | (with_reducible exact True.intro) | (with_reducible exact Or.inl rfl) | (refine Vc.mk ?_; (first | (exact rfl) | (exact ⟨rfl, .inl rfl⟩) | omega | skip))))
    exact (lightB_t ⟨hl6, fun i h => hg i h h, fun i h j hj => hu i h h j hj⟩).symm
end Go.Proofs.Ytimfnpjcedjmiab
