/-
  The statement TopSilence: who is not answered asks some times, and no more; then it waits.
-/
import Derived.Test.YtimfnpjcedjmiacMLkE
import Derived.Test.YtimfnpjcedjmiacBits
namespace Go.Proofs.Ytimfnpjcedjmiac
open Go.RowKit
set_option linter.unusedSimpArgs false
set_option linter.unusedVariables false
theorem and_in {x : Int} {m : Nat} (hm : m < 1073741824) : 0 ≤ IntKind.i64.wrap ((BitVec.ofInt IntKind.i64.bits x &&& BitVec.ofInt IntKind.i64.bits (m : Int)).toNat : Int) ∧ IntKind.i64.wrap ((BitVec.ofInt IntKind.i64.bits x &&& BitVec.ofInt IntKind.i64.bits (m : Int)).toNat : Int) ≤ m := and_small x m hm
set_option maxHeartbeats 8000000 in
set_option maxRecDepth 100000 in
theorem topSilence_ok (s m t : Int) : Fn Try.prog 6 [.v (.int .i64 s), .v (.int .i64 m), .v (.int .i64 t)] [] (.v (.bool true)) [] := by
  have he := end_ok 90 7 (by decide)
  have ho := xlout_ok (bgL 90 7 255 3 3 1)
  by_cases h : polOk s m = true
  · have hb : bgL s m 255 3 3 1 = { silL s m 0 with out := silO s m 0 } := beg_sil.symm ▸ do_beg.symm ▸ rfl
    have h0 := end_ok s m h
    have h1 := xlout_ok (bgL s m 255 3 3 1)
    have e1 : outL (bgL s m 255 3 3 1) = silL s m 0 := by rw [hb]; show { silL s m 0 with out := [] } = _; have := silL_out (s := s) (m := m) (n := 0); cases hq : silL s m 0; rw [hq] at this; simp at this; subst this; rfl
    have e2 : (bgL s m 255 3 3 1).out.length = 1 := rfl
    rw [e1] at h1
    generalize bgL s m 255 3 3 1 = q0 at *
    have hn := and_in (x := t) (m := 63) (by decide)
    rw [show ((63 : Nat) : Int) = 63 from rfl] at hn
    generalize hN : IntKind.i64.wrap ((BitVec.ofInt IntKind.i64.bits t &&& BitVec.ofInt IntKind.i64.bits 63).toNat : Int) = n at hn
    obtain ⟨hn0, hn9⟩ := hn
    refine fn_of mixed [] [] Try.func6 rfl (by decide +kernel) Try.ntmps6 rfl (congrArg Array.toList Try.results6) rfl (by decide +kernel) ?_
    (iterate 2 all_goals (try (repeat' (conv => whnf); (first | (with_reducible refine And.intro ?_ ?_) | (with_reducible exact True.intro) | (intro h; (first | (cases h) | ((first | (simp only [vis, Int.reduceToNat] at h) | skip); (try (exfalso; omega))))) | (with_reducible refine Vc.mk ?_; fail) | (with_reducible refine cutG ?_; fail) | (refine idx_map ?_ ?_) | (refine idx_mapI ?_ ?_ ?_) ))))
    (refine ⟨_, _, _, _, [], he, rfl, rfl, rfl, ?_, ?_, ?_⟩)
    · (repeat' (conv => whnf); (first | (with_reducible refine And.intro ?_ ?_) | (with_reducible exact True.intro) | (with_reducible exact Or.inl rfl) | (refine Vc.mk ?_; (first | (exact rfl) | (exact ⟨rfl, .inl rfl⟩) | omega | skip))))
    · (repeat' (conv => whnf); (first | (with_reducible refine And.intro ?_ ?_) | (with_reducible exact True.intro) | (with_reducible exact Or.inl rfl) | (refine Vc.mk ?_; (first | (exact rfl) | (exact ⟨rfl, .inl rfl⟩) | omega | skip))))
    (iterate 2 all_goals (try (repeat' (conv => whnf); (first | (with_reducible refine And.intro ?_ ?_) | (with_reducible exact True.intro) | (intro h; (first | (cases h) | ((first | (simp only [vis, Int.reduceToNat] at h) | skip); (try (exfalso; omega))))) | (with_reducible refine Vc.mk ?_; fail) | (with_reducible refine cutG ?_; fail) | (refine idx_map ?_ ?_) | (refine idx_mapI ?_ ?_ ?_) ))))
    all_goals (try (refine Vc.mk ?_; (first | (exact rfl) | (decide) | omega | (unfold In64; omega) | (simp only [wrap_byte, Int.reduceToNat, Int.toNat_natCast, In64]; omega) | (simp only [maxLen, Fits, viewR, viewL, AV.view, List.length_map, List.length_append, List.length_cons, List.length_nil]; omega) | (simp [viewR, viewL, AV.view, ]; done) | skip)))
    (refine ⟨_, _, _, _, [0], ho, rfl, rfl, rfl, ?_, ?_, ?_⟩)
    · (repeat' (conv => whnf); (first | (with_reducible refine And.intro ?_ ?_) | (with_reducible exact True.intro) | (with_reducible exact Or.inl rfl) | (refine Vc.mk ?_; (first | (exact rfl) | (exact ⟨rfl, .inl rfl⟩) | omega | skip))))
      all_goals rfl
    · (repeat' (conv => whnf); (first | (with_reducible refine And.intro ?_ ?_) | (with_reducible exact True.intro) | (with_reducible exact Or.inl rfl) | (refine Vc.mk ?_; (first | (exact rfl) | (exact ⟨rfl, .inl rfl⟩) | omega | skip))))
    (iterate 2 all_goals (try (repeat' (conv => whnf); (first | (with_reducible refine And.intro ?_ ?_) | (with_reducible exact True.intro) | (intro h; (first | (cases h) | ((first | (simp only [vis, Int.reduceToNat] at h) | skip); (try (exfalso; omega))))) | (with_reducible refine Vc.mk ?_; fail) | (with_reducible refine cutG ?_; fail) | (refine idx_map ?_ ?_) | (refine idx_mapI ?_ ?_ ?_) ))))
    all_goals (try (refine Vc.mk ?_; (first | (exact rfl) | (decide) | omega | (unfold In64; omega) | (simp only [wrap_byte, Int.reduceToNat, Int.toNat_natCast, In64]; omega) | (simp only [maxLen, Fits, viewR, viewL, AV.view, List.length_map, List.length_append, List.length_cons, List.length_nil]; omega) | (simp [viewR, viewL, AV.view, ]; done) | skip)))
    (refine ⟨_, _, _, _, [], h0, rfl, rfl, rfl, ?_, ?_, ?_⟩)
    · (repeat' (conv => whnf); (first | (with_reducible refine And.intro ?_ ?_) | (with_reducible exact True.intro) | (with_reducible exact Or.inl rfl) | (refine Vc.mk ?_; (first | (exact rfl) | (exact ⟨rfl, .inl rfl⟩) | omega | skip))))
    · (repeat' (conv => whnf); (first | (with_reducible refine And.intro ?_ ?_) | (with_reducible exact True.intro) | (with_reducible exact Or.inl rfl) | (refine Vc.mk ?_; (first | (exact rfl) | (exact ⟨rfl, .inl rfl⟩) | omega | skip))))
    (iterate 2 all_goals (try (repeat' (conv => whnf); (first | (with_reducible refine And.intro ?_ ?_) | (with_reducible exact True.intro) | (intro h; (first | (cases h) | ((first | (simp only [vis, Int.reduceToNat] at h) | skip); (try (exfalso; omega))))) | (with_reducible refine Vc.mk ?_; fail) | (with_reducible refine cutG ?_; fail) | (refine idx_map ?_ ?_) | (refine idx_mapI ?_ ?_ ?_) ))))
    all_goals (try (refine Vc.mk ?_; (first | (exact rfl) | (decide) | omega | (unfold In64; omega) | (simp only [wrap_byte, Int.reduceToNat, Int.toNat_natCast, In64]; omega) | (simp only [maxLen, Fits, viewR, viewL, AV.view, List.length_map, List.length_append, List.length_cons, List.length_nil]; omega) | (simp [viewR, viewL, AV.view, ]; done) | skip)))
    (refine ⟨_, _, _, _, [1], h1, rfl, rfl, rfl, ?_, ?_, ?_⟩)
    · (repeat' (conv => whnf); (first | (with_reducible refine And.intro ?_ ?_) | (with_reducible exact True.intro) | (with_reducible exact Or.inl rfl) | (refine Vc.mk ?_; (first | (exact rfl) | (exact ⟨rfl, .inl rfl⟩) | omega | skip))))
      all_goals rfl
    · (repeat' (conv => whnf); (first | (with_reducible refine And.intro ?_ ?_) | (with_reducible exact True.intro) | (with_reducible exact Or.inl rfl) | (refine Vc.mk ?_; (first | (exact rfl) | (exact ⟨rfl, .inl rfl⟩) | omega | skip))))
    (iterate 2 all_goals (try (repeat' (conv => whnf); (first | (with_reducible refine And.intro ?_ ?_) | (with_reducible exact True.intro) | (intro h; (first | (cases h) | ((first | (simp only [vis, Int.reduceToNat] at h) | skip); (try (exfalso; omega))))) | (with_reducible refine Vc.mk ?_; fail) | (with_reducible refine cutG ?_; fail) | (refine idx_map ?_ ?_) | (refine idx_mapI ?_ ?_ ?_) ))))
    all_goals (try (refine Vc.mk ?_; (first | (exact rfl) | (decide) | omega | (unfold In64; omega) | (simp only [wrap_byte, Int.reduceToNat, Int.toNat_natCast, In64]; omega) | (simp only [maxLen, Fits, viewR, viewL, AV.view, List.length_map, List.length_append, List.length_cons, List.length_nil]; omega) | (simp [viewR, viewL, AV.view, ]; done) | skip)))
    refine lpG (fun k : Nat => ⟨[(7, .box 0 0), (9, .v (.int .i64 (silN k))), (10, .v (.int .i64 n)), (11, .v (.int .i64 k))], [lkR (silL s m k)]⟩) (fun k => (k : Int) ≤ n) (fun k => n.toNat - k) 0 (by omega) (by (refine le_sub [1] rfl rfl ?_ ?_); all_goals ((repeat' (conv => whnf); (first | (with_reducible refine And.intro ?_ ?_) | (with_reducible exact True.intro) | (with_reducible exact Or.inl rfl) | (refine Vc.mk ?_; (first | (exact rfl) | (exact ⟨rfl, .inl rfl⟩) | omega | skip)))); all_goals (first | rfl | (simp [e2, silN]; done) | exact hN))) ?_
    intro k hk
    by_cases hkn : (k : Int) < n
    · have ht := xltick_ok (silL s m k) ((silL_ok h (by omega)).mono (by decide))
      rw [sil_tick (by omega)] at ht
      have hso := xlout_ok { silL s m ((k : Int) + 1) with out := silO s m ((k : Int) + 1) }
      have e3 : outL { silL s m ((k : Int) + 1) with out := silO s m ((k : Int) + 1) } = silL s m ((k : Int) + 1) := by
        have := silL_out (s := s) (m := m) (n := (k : Int) + 1)
        cases hq : silL s m ((k : Int) + 1); rw [hq] at this; simp at this; subst this; rfl
      rw [e3] at hso
      have hnx := silN_next (s := s) (m := m) (n := k) (by omega)
      have hol : (silO s m ((k : Int) + 1)).length ≤ 1 := by unfold silO; split <;> simp
      dsimp only at hso
      have hsn : 0 ≤ silN k ∧ silN k ≤ 5 := by unfold silN; split <;> omega
      generalize hq : ({ silL s m ((k : Int) + 1) with out := silO s m ((k : Int) + 1) } : Lk) = q1 at *
      (iterate 2 all_goals (try (repeat' (conv => whnf); (first | (with_reducible refine And.intro ?_ ?_) | (with_reducible exact True.intro) | (intro h; (first | (cases h) | ((first | (simp only [vis, Int.reduceToNat] at h) | skip); (try (exfalso; omega))))) | (with_reducible refine Vc.mk ?_; fail) | (with_reducible refine cutG ?_; fail) | (refine idx_map ?_ ?_) | (refine idx_mapI ?_ ?_ ?_) ))))
      all_goals (try omega)
      all_goals (try (refine Vc.mk ?_; (first | (exact rfl) | (decide) | omega | (unfold In64; omega) | (simp only [wrap_byte, Int.reduceToNat, Int.toNat_natCast, In64]; omega) | (simp only [maxLen, Fits, viewR, viewL, AV.view, List.length_map, List.length_append, List.length_cons, List.length_nil]; omega) | (simp [viewR, viewL, AV.view, ]; done) | skip)))
      (refine ⟨_, _, _, _, [0], ht, rfl, rfl, rfl, ?_, ?_, ?_⟩)
      · (repeat' (conv => whnf); (first | (with_reducible refine And.intro ?_ ?_) | (with_reducible exact True.intro) | (with_reducible exact Or.inl rfl) | (refine Vc.mk ?_; (first | (exact rfl) | (exact ⟨rfl, .inl rfl⟩) | omega | skip))))
        all_goals rfl
      · (repeat' (conv => whnf); (first | (with_reducible refine And.intro ?_ ?_) | (with_reducible exact True.intro) | (with_reducible exact Or.inl rfl) | (refine Vc.mk ?_; (first | (exact rfl) | (exact ⟨rfl, .inl rfl⟩) | omega | skip))))
      (iterate 2 all_goals (try (repeat' (conv => whnf); (first | (with_reducible refine And.intro ?_ ?_) | (with_reducible exact True.intro) | (intro h; (first | (cases h) | ((first | (simp only [vis, Int.reduceToNat] at h) | skip); (try (exfalso; omega))))) | (with_reducible refine Vc.mk ?_; fail) | (with_reducible refine cutG ?_; fail) | (refine idx_map ?_ ?_) | (refine idx_mapI ?_ ?_ ?_) ))))
      all_goals (try (refine Vc.mk ?_; (first | (exact rfl) | (decide) | omega | (unfold In64; omega) | (simp only [wrap_byte, Int.reduceToNat, Int.toNat_natCast, In64]; omega) | (simp only [maxLen, Fits, viewR, viewL, AV.view, List.length_map, List.length_append, List.length_cons, List.length_nil]; omega) | (simp [viewR, viewL, AV.view, ]; done) | skip)))
      (refine ⟨_, _, _, _, [0], hso, rfl, rfl, rfl, ?_, ?_, ?_⟩)
      · (repeat' (conv => whnf); (first | (with_reducible refine And.intro ?_ ?_) | (with_reducible exact True.intro) | (with_reducible exact Or.inl rfl) | (refine Vc.mk ?_; (first | (exact rfl) | (exact ⟨rfl, .inl rfl⟩) | omega | skip))))
        all_goals rfl
      · (repeat' (conv => whnf); (first | (with_reducible refine And.intro ?_ ?_) | (with_reducible exact True.intro) | (with_reducible exact Or.inl rfl) | (refine Vc.mk ?_; (first | (exact rfl) | (exact ⟨rfl, .inl rfl⟩) | omega | skip))))
      (iterate 2 all_goals (try (repeat' (conv => whnf); (first | (with_reducible refine And.intro ?_ ?_) | (with_reducible exact True.intro) | (intro h; (first | (cases h) | ((first | (simp only [vis, Int.reduceToNat] at h) | skip); (try (exfalso; omega))))) | (with_reducible refine Vc.mk ?_; fail) | (with_reducible refine cutG ?_; fail) | (refine idx_map ?_ ?_) | (refine idx_mapI ?_ ?_ ?_) ))))
      all_goals (try (refine Vc.mk ?_; (first | (exact rfl) | (decide) | omega | (unfold In64; omega) | (simp only [wrap_byte, Int.reduceToNat, Int.toNat_natCast, In64]; omega) | (simp only [maxLen, Fits, viewR, viewL, AV.view, List.length_map, List.length_append, List.length_cons, List.length_nil]; omega) | (simp [viewR, viewL, AV.view, ]; done) | skip)))
      all_goals (try (unfold In64; simp only [List.length_map]; omega))
      refine nextG (k + 1) (by omega) (by omega) (by (refine le_sub [0] rfl rfl ?_ ?_); all_goals ((repeat' (conv => whnf); (first | (with_reducible refine And.intro ?_ ?_) | (with_reducible exact True.intro) | (with_reducible exact Or.inl rfl) | (refine Vc.mk ?_; (first | (exact rfl) | (exact ⟨rfl, .inl rfl⟩) | omega | skip)))); all_goals (first | rfl | (rw [show ((k + 1 : Nat) : Int) = (k : Int) + 1 from rfl]; simp only [List.length_map]; omega) | (simp only [List.length_map]; rw [show ((k + 1 : Nat) : Int) = (k : Int) + 1 from rfl, hnx]))))
    · have ek : (k : Int) = n := by omega
      subst ek
      have hst := xlstate_ok (silL s m k)
      have hmin := silN_min (n := k) (by omega)
      have hs3 := sil_st (s := s) (m := m) (n := k) (by omega)
      have hdv : (k : Int).tdiv 3 = (k : Int) / 3 := Int.tdiv_eq_ediv_of_nonneg (by omega)
      generalize (silL s m k).st = S at *
      rw [Int.min_def] at hmin
      (iterate 2 all_goals (try (repeat' (conv => whnf); (first | (with_reducible refine And.intro ?_ ?_) | (with_reducible exact True.intro) | (intro h; (first | (cases h) | ((first | (simp only [vis, Int.reduceToNat] at h) | skip); (try (exfalso; omega))))) | (with_reducible refine Vc.mk ?_; fail) | (with_reducible refine cutG ?_; fail) | (refine idx_map ?_ ?_) | (refine idx_mapI ?_ ?_ ?_) ))))
      all_goals (try omega)
      all_goals (try (refine Vc.mk ?_; (first | (exact rfl) | (decide) | omega | (unfold In64; omega) | (simp only [wrap_byte, Int.reduceToNat, Int.toNat_natCast, In64]; omega) | (simp only [maxLen, Fits, viewR, viewL, AV.view, List.length_map, List.length_append, List.length_cons, List.length_nil]; omega) | (simp [viewR, viewL, AV.view, ]; done) | skip)))
      all_goals (try (unfold In64; rw [hdv]; omega))
      all_goals (try ((refine ⟨_, _, _, _, [0], hst, rfl, rfl, rfl, ?_, ?_, ?_⟩); (· (repeat' (conv => whnf); (first | (with_reducible refine And.intro ?_ ?_) | (with_reducible exact True.intro) | (with_reducible exact Or.inl rfl) | (refine Vc.mk ?_; (first | (exact rfl) | (exact ⟨rfl, .inl rfl⟩) | omega | skip)))); all_goals rfl); (· (repeat' (conv => whnf); (first | (with_reducible refine And.intro ?_ ?_) | (with_reducible exact True.intro) | (with_reducible exact Or.inl rfl) | (refine Vc.mk ?_; (first | (exact rfl) | (exact ⟨rfl, .inl rfl⟩) | omega | skip))))); (iterate 2 all_goals (try (repeat' (conv => whnf); (first | (with_reducible refine And.intro ?_ ?_) | (with_reducible exact True.intro) | (intro h; (first | (cases h) | ((first | (simp only [vis, Int.reduceToNat] at h) | skip); (try (exfalso; omega))))) | (with_reducible refine Vc.mk ?_; fail) | (with_reducible refine cutG ?_; fail) | (refine idx_map ?_ ?_) | (refine idx_mapI ?_ ?_ ?_) ))))))
      all_goals (try omega)
      all_goals (try (refine Vc.mk ?_; (first | (exact rfl) | (decide) | omega | (unfold In64; omega) | (simp only [wrap_byte, Int.reduceToNat, Int.toNat_natCast, In64]; omega) | (simp only [maxLen, Fits, viewR, viewL, AV.view, List.length_map, List.length_append, List.length_cons, List.length_nil]; omega) | (simp [viewR, viewL, AV.view, ]; done) | skip)))
      all_goals (try (((try (conv => whnf)); refine ⟨[], rfl, rfl, ?_, ?_⟩); (repeat' (conv => whnf); (first | (with_reducible refine And.intro ?_ ?_) | (with_reducible exact True.intro) | (with_reducible exact Or.inl rfl) | (refine Vc.mk ?_; (first | (exact rfl) | (exact ⟨rfl, .inl rfl⟩) | omega | skip))))))
      all_goals (try (rw [hdv] at *))
      all_goals (first | done | (rw [beq_iff_eq, Bool.eq_iff_iff, beq_iff_eq, decide_eq_true_iff]; exact hs3) | (simp; omega) | skip)
  · have h0 := end_no s m h
    refine fn_of mixed [] [] Try.func6 rfl (by decide +kernel) Try.ntmps6 rfl (congrArg Array.toList Try.results6) rfl (by decide +kernel) ?_
    (iterate 2 all_goals (try (repeat' (conv => whnf); (first | (with_reducible refine And.intro ?_ ?_) | (with_reducible exact True.intro) | (intro h; (first | (cases h) | ((first | (simp only [vis, Int.reduceToNat] at h) | skip); (try (exfalso; omega))))) | (with_reducible refine Vc.mk ?_; fail) | (with_reducible refine cutG ?_; fail) | (refine idx_map ?_ ?_) | (refine idx_mapI ?_ ?_ ?_) ))))
    (refine ⟨_, _, _, _, [], he, rfl, rfl, rfl, ?_, ?_, ?_⟩)
    · (repeat' (conv => whnf); (first | (with_reducible refine And.intro ?_ ?_) | (with_reducible exact True.intro) | (with_reducible exact Or.inl rfl) | (refine Vc.mk ?_; (first | (exact rfl) | (exact ⟨rfl, .inl rfl⟩) | omega | skip))))
    · (repeat' (conv => whnf); (first | (with_reducible refine And.intro ?_ ?_) | (with_reducible exact True.intro) | (with_reducible exact Or.inl rfl) | (refine Vc.mk ?_; (first | (exact rfl) | (exact ⟨rfl, .inl rfl⟩) | omega | skip))))
    (iterate 2 all_goals (try (repeat' (conv => whnf); (first | (with_reducible refine And.intro ?_ ?_) | (with_reducible exact True.intro) | (intro h; (first | (cases h) | ((first | (simp only [vis, Int.reduceToNat] at h) | skip); (try (exfalso; omega))))) | (with_reducible refine Vc.mk ?_; fail) | (with_reducible refine cutG ?_; fail) | (refine idx_map ?_ ?_) | (refine idx_mapI ?_ ?_ ?_) ))))
    all_goals (try (refine Vc.mk ?_; (first | (exact rfl) | (decide) | omega | (unfold In64; omega) | (simp only [wrap_byte, Int.reduceToNat, Int.toNat_natCast, In64]; omega) | (simp only [maxLen, Fits, viewR, viewL, AV.view, List.length_map, List.length_append, List.length_cons, List.length_nil]; omega) | (simp [viewR, viewL, AV.view, ]; done) | skip)))
    (refine ⟨_, _, _, _, [0], ho, rfl, rfl, rfl, ?_, ?_, ?_⟩)
    · (repeat' (conv => whnf); (first | (with_reducible refine And.intro ?_ ?_) | (with_reducible exact True.intro) | (with_reducible exact Or.inl rfl) | (refine Vc.mk ?_; (first | (exact rfl) | (exact ⟨rfl, .inl rfl⟩) | omega | skip))))
      all_goals rfl
    · (repeat' (conv => whnf); (first | (with_reducible refine And.intro ?_ ?_) | (with_reducible exact True.intro) | (with_reducible exact Or.inl rfl) | (refine Vc.mk ?_; (first | (exact rfl) | (exact ⟨rfl, .inl rfl⟩) | omega | skip))))
    (iterate 2 all_goals (try (repeat' (conv => whnf); (first | (with_reducible refine And.intro ?_ ?_) | (with_reducible exact True.intro) | (intro h; (first | (cases h) | ((first | (simp only [vis, Int.reduceToNat] at h) | skip); (try (exfalso; omega))))) | (with_reducible refine Vc.mk ?_; fail) | (with_reducible refine cutG ?_; fail) | (refine idx_map ?_ ?_) | (refine idx_mapI ?_ ?_ ?_) ))))
    all_goals (try (refine Vc.mk ?_; (first | (exact rfl) | (decide) | omega | (unfold In64; omega) | (simp only [wrap_byte, Int.reduceToNat, Int.toNat_natCast, In64]; omega) | (simp only [maxLen, Fits, viewR, viewL, AV.view, List.length_map, List.length_append, List.length_cons, List.length_nil]; omega) | (simp [viewR, viewL, AV.view, ]; done) | skip)))
    (all_goals (try ((first | (refine call0 (h0) ?_ ?_) | (refine pure0 (h0) rfl ?_ ?_)); (· (repeat' (conv => whnf); (first | (with_reducible refine And.intro ?_ ?_) | (with_reducible exact True.intro) | (with_reducible exact Or.inl rfl) | (refine Vc.mk ?_; (first | (exact rfl) | (exact ⟨rfl, .inl rfl⟩) | omega | skip))))); (iterate 2 all_goals (try (repeat' (conv => whnf); (first | (with_reducible refine And.intro ?_ ?_) | (with_reducible exact True.intro) | (intro h; (first | (cases h) | ((first | (simp only [vis, Int.reduceToNat] at h) | skip); (try (exfalso; omega))))) | (with_reducible refine Vc.mk ?_; fail) | (with_reducible refine cutG ?_; fail) | (refine idx_map ?_ ?_) | (refine idx_mapI ?_ ?_ ?_) )))))))
    all_goals (try (refine Vc.mk ?_; (first | (exact rfl) | (decide) | omega | (unfold In64; omega) | (simp only [wrap_byte, Int.reduceToNat, Int.toNat_natCast, In64]; omega) | (simp only [maxLen, Fits, viewR, viewL, AV.view, List.length_map, List.length_append, List.length_cons, List.length_nil]; omega) | (simp [viewR, viewL, AV.view, ]; done) | skip)))
    all_goals (((try (conv => whnf)); refine ⟨[], rfl, rfl, ?_, ?_⟩); (repeat' (conv => whnf); (first | (with_reducible refine And.intro ?_ ?_) | (with_reducible exact True.intro) | (with_reducible exact Or.inl rfl) | (refine Vc.mk ?_; (first | (exact rfl) | (exact ⟨rfl, .inl rfl⟩) | omega | skip)))); all_goals rfl)
theorem topSilence_walk (W : World) (v0 v1 v2 : Value) (i0 : InInt W v0) (i1 : InInt W v1) (i2 : InInt W v2) :
    Calls Try.prog 6 #[v0, v1, v2] W fun e w' => e = .returned (.bool true) ∧ Below W.heap.size W w' := by
  obtain ⟨a, rfl, _⟩ := i0
  obtain ⟨b, rfl, _⟩ := i1
  obtain ⟨c, rfl, _⟩ := i2
  exact fn_law (topSilence_ok a b c) W [_, _, _] ⟨.v _ _, .v _ _, .v _ _, trivial⟩
end Go.Proofs.Ytimfnpjcedjmiac
