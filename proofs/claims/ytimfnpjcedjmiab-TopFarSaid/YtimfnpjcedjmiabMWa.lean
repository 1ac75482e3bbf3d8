/-
  Package ways and the reference's like: edges.
-/
import Derived.Test.YtimfnpjcedjmiabVo3
import Derived.Test.YtimfnpjcedjmiabLWb
namespace Go.Proofs.Ytimfnpjcedjmiab
open Go.RowKit
set_option linter.unusedSimpArgs false
set_option linter.unusedVariables false
/-- An edge is looked at: of o. -/
def mS (a b o : Int) (q : Int × Bool) (e : Int × Int) : Int × Bool := (if o = a ∧ e.1 = b then e.2 else q.1, q.2 || (decide (o = b) && decide (e.1 = a)))
def mE (a b : Int) (q : Int × Bool) (s : St3) : Int × Bool := s.2.2.foldl (mS a b s.1) q
def mL (a b : Int) (l : List St3) : Int × Bool := l.foldl (mE a b) (0, false)
/-- The metric of an edge that both tell. -/
def met (l : List St3) (a b : Int) : Int := if (mL a b l).2 then (mL a b l).1 else 0
theorem mL_succ {a b : Int} {l : List St3} {k : Nat} (h : k < l.length) : mL a b (l.take (k + 1)) = mE a b (mL a b (l.take k)) l[k] := by
  unfold mL
  rw [take_succ' h, List.foldl_append]; rfl
theorem mF_succ {a b o : Int} {q : Int × Bool} {l : List (Int × Int)} {k : Nat} (h : k < l.length) : (l.take (k + 1)).foldl (mS a b o) q = (if o = a ∧ l[k].1 = b then l[k].2 else ((l.take k).foldl (mS a b o) q).1, ((l.take k).foldl (mS a b o) q).2 || (decide (o = b) && decide (l[k].1 = a))) := by
  rw [take_succ' h, List.foldl_append]; rfl
def hRow (h : Hp) : List AV := [.v (.int .i64 h.1), .v (.int .i64 h.2.1), .v (.int .i64 h.2.2)]
def smallL (l : List St3) : Prop := l.length ≤ 1000000 ∧ ∀ s ∈ l, s.2.2.length ≤ 1000000
set_option maxHeartbeats 16000000 in
set_option maxRecDepth 100000 in
theorem metric_ok (l : List St3) (a b : Int) (hl : smallL l) : Fn Try.prog 39 [.sl 3 (l.map stRow) none, .v (.int .i64 a), .v (.int .i64 b)] [] (.v (.int .i64 (met l a b))) [] := by
  obtain ⟨hl1, hl2⟩ := hl
  refine fn_of mixed [] [] Try.func39 rfl (by decide +kernel) Try.ntmps39 rfl (congrArg Array.toList Try.results39) rfl (by decide +kernel) ?_
  (iterate 2 all_goals (try (repeat' (conv => whnf); (first | (with_reducible refine And.intro ?_ ?_) | (with_reducible exact True.intro) | (intro h; (first | (cases h) | ((first | (simp only [vis, Int.reduceToNat] at h) | skip); (try (exfalso; omega))))) | (with_reducible refine Vc.mk ?_; fail) | (with_reducible refine cutG ?_; fail) | (refine idx_map ?_ ?_) | (refine idx_mapI ?_ ?_ ?_) ))))
  refine lpG (fun k : Nat => ⟨[(1, .v (.int .i64 a)), (2, .v (.int .i64 b)), (7, .v (.int .i64 (mL a b (l.take k)).1)), (8, .v (.bool (mL a b (l.take k)).2)), (13, .sl 3 (l.map stRow) none), (14, .v (.int .i64 l.length)), (15, .v (.int .i64 k))], []⟩) (fun k => k ≤ l.length) (fun k => l.length - k) 0 (by omega) (by (refine le_sub [] rfl rfl ?_ ?_); all_goals ((repeat' (conv => whnf); (first | (with_reducible refine And.intro ?_ ?_) | (with_reducible exact True.intro) | (with_reducible exact Or.inl rfl) | (refine Vc.mk ?_; (first | (exact rfl) | (exact ⟨rfl, .inl rfl⟩) | omega | skip)))); all_goals (try (simp [mL]; done)))) ?_
  rintro k hk
  by_cases hk' : k < l.length
  · have hel := hl2 l[k] (List.getElem_mem hk')
    have hS := mL_succ (a := a) (b := b) hk'
    unfold mE at hS
    generalize mL a b (l.take k) = Q at *
    (iterate 2 all_goals (try (repeat' (conv => whnf); (first | (with_reducible refine And.intro ?_ ?_) | (with_reducible exact True.intro) | (intro h; (first | (cases h) | ((first | (simp only [vis, Int.reduceToNat] at h) | skip); (try (exfalso; omega))))) | (with_reducible refine Vc.mk ?_; fail) | (with_reducible refine cutG ?_; fail) | (refine idx_map ?_ ?_) | (refine idx_mapI ?_ ?_ ?_) ))))
    all_goals (try omega)
    all_goals (try (refine Vc.mk ?_; (first | (exact rfl) | (decide) | omega | (unfold In64; omega) | (simp only [wrap_byte, Int.reduceToNat, Int.toNat_natCast, In64]; omega) | (simp only [maxLen, Fits, viewR, viewL, AV.view, List.length_map, List.length_append, List.length_cons, List.length_nil]; omega) | (simp [viewR, viewL, AV.view, ]; done) | skip)))
    refine lpG (fun j : Nat => ⟨[(1, .v (.int .i64 a)), (2, .v (.int .i64 b)), (7, .v (.int .i64 ((l[k].2.2.take j).foldl (mS a b l[k].1) Q).1)), (8, .v (.bool ((l[k].2.2.take j).foldl (mS a b l[k].1) Q).2)), (10, .box 0 0), (13, .sl 3 (l.map stRow) none), (14, .v (.int .i64 l.length)), (15, .v (.int .i64 k)), (20, .sl 2 (l[k].2.2.map opRow) none), (21, .v (.int .i64 l[k].2.2.length)), (22, .v (.int .i64 j))], [.cells (stRow l[k])]⟩) (fun j => j ≤ l[k].2.2.length) (fun j => l[k].2.2.length - j) 0 (by omega) (by (refine le_sub [0] rfl rfl ?_ ?_); all_goals ((repeat' (conv => whnf); (first | (with_reducible refine And.intro ?_ ?_) | (with_reducible exact True.intro) | (with_reducible exact Or.inl rfl) | (refine Vc.mk ?_; (first | (exact rfl) | (exact ⟨rfl, .inl rfl⟩) | omega | skip)))); all_goals (try (simp; done)))) ?_
    rintro j hj
    by_cases hj' : j < l[k].2.2.length
    · have hF := mF_succ (a := a) (b := b) (o := l[k].1) (q := Q) hj'
      generalize (l[k].2.2.take j).foldl (mS a b l[k].1) Q = R at *
      obtain ⟨n, back⟩ := R
      dsimp only at hF ⊢
      unfold stRow
      cases back
      all_goals
        (iterate 2 all_goals (try (repeat' (conv => whnf); (first | (with_reducible refine And.intro ?_ ?_) | (with_reducible exact True.intro) | (intro h; (first | (cases h) | ((first | (simp only [vis, Int.reduceToNat] at h) | skip); (try (exfalso; omega))))) | (with_reducible refine Vc.mk ?_; fail) | (with_reducible refine cutG ?_; fail) | (refine idx_map ?_ ?_) | (refine idx_mapI ?_ ?_ ?_) ))))
        all_goals (try omega)
        all_goals (try (refine Vc.mk ?_; (first | (exact rfl) | (decide) | omega | (unfold In64; omega) | (simp only [wrap_byte, Int.reduceToNat, Int.toNat_natCast, In64]; omega) | (simp only [maxLen, Fits, viewR, viewL, AV.view, List.length_map, List.length_append, List.length_cons, List.length_nil]; omega) | (simp [viewR, viewL, AV.view, ]; done) | skip)))
        all_goals (refine nextG (j + 1) (by omega) (by omega) (by rw [hF]; (refine le_sub [0] rfl rfl ?_ ?_); all_goals ((repeat' (conv => whnf); (first | (with_reducible refine And.intro ?_ ?_) | (with_reducible exact True.intro) | (with_reducible exact Or.inl rfl) | (refine Vc.mk ?_; (first | (exact rfl) | (exact ⟨rfl, .inl rfl⟩) | omega | skip)))); all_goals (first | (simp_all; done) | (simp_all; rw [Bool.eq_iff_iff]; simp; done)))))
    · have e : j = l[k].2.2.length := by omega
      subst e
      rw [List.take_length, ← hS]
      unfold stRow
      (iterate 2 all_goals (try (repeat' (conv => whnf); (first | (with_reducible refine And.intro ?_ ?_) | (with_reducible exact True.intro) | (intro h; (first | (cases h) | ((first | (simp only [vis, Int.reduceToNat] at h) | skip); (try (exfalso; omega))))) | (with_reducible refine Vc.mk ?_; fail) | (with_reducible refine cutG ?_; fail) | (refine idx_map ?_ ?_) | (refine idx_mapI ?_ ?_ ?_) ))))
      all_goals (try omega)
      all_goals (try (refine Vc.mk ?_; (first | (exact rfl) | (decide) | omega | (unfold In64; omega) | (simp only [wrap_byte, Int.reduceToNat, Int.toNat_natCast, In64]; omega) | (simp only [maxLen, Fits, viewR, viewL, AV.view, List.length_map, List.length_append, List.length_cons, List.length_nil]; omega) | (simp [viewR, viewL, AV.view, ]; done) | skip)))
      refine nextG (k + 1) (by omega) (by omega) (by (refine le_sub [] rfl rfl ?_ ?_); all_goals (repeat' (conv => whnf); (first | (with_reducible refine And.intro ?_ ?_) | (with_reducible exact True.intro) | (with_reducible exact Or.inl rfl) | (refine Vc.mk ?_; (first | (exact rfl) | (exact ⟨rfl, .inl rfl⟩) | omega | skip)))))
  · have e : k = l.length := by omega
    subst e
    rw [List.take_length]
    unfold met
    generalize mL a b l = Q
    obtain ⟨n, back⟩ := Q
    cases back
    all_goals
      (iterate 2 all_goals (try (repeat' (conv => whnf); (first | (with_reducible refine And.intro ?_ ?_) | (with_reducible exact True.intro) | (intro h; (first | (cases h) | ((first | (simp only [vis, Int.reduceToNat] at h) | skip); (try (exfalso; omega))))) | (with_reducible refine Vc.mk ?_; fail) | (with_reducible refine cutG ?_; fail) | (refine idx_map ?_ ?_) | (refine idx_mapI ?_ ?_ ?_) ))))
      all_goals (try omega)
      all_goals (try (refine Vc.mk ?_; (first | (exact rfl) | (decide) | omega | (unfold In64; omega) | (simp only [wrap_byte, Int.reduceToNat, Int.toNat_natCast, In64]; omega) | (simp only [maxLen, Fits, viewR, viewL, AV.view, List.length_map, List.length_append, List.length_cons, List.length_nil]; omega) | (simp [viewR, viewL, AV.view, ]; done) | skip)))
      all_goals (((try (conv => whnf)); refine ⟨[], rfl, rfl, ?_, ?_⟩); (repeat' (conv => whnf); (first | (with_reducible refine And.intro ?_ ?_) | (with_reducible exact True.intro) | (with_reducible exact Or.inl rfl) | (refine Vc.mk ?_; (first | (exact rfl) | (exact ⟨rfl, .inl rfl⟩) | omega | skip)))))
set_option maxHeartbeats 16000000 in
set_option maxRecDepth 100000 in
theorem edge_ok (l : List St3) (a b : Int) (hl : smallL l) : Fn Try.prog 28 [.sl 3 (l.map stRow) none, .v (.int .i64 a), .v (.int .i64 b)] [] (.v (.int .i64 (met l a b))) [] := by
  obtain ⟨hl1, hl2⟩ := hl
  refine fn_of mixed [] [] Try.func28 rfl (by decide +kernel) Try.ntmps28 rfl (congrArg Array.toList Try.results28) rfl (by decide +kernel) ?_
  (iterate 2 all_goals (try (repeat' (conv => whnf); (first | (with_reducible refine And.intro ?_ ?_) | (with_reducible exact True.intro) | (intro h; (first | (cases h) | ((first | (simp only [vis, Int.reduceToNat] at h) | skip); (try (exfalso; omega))))) | (with_reducible refine Vc.mk ?_; fail) | (with_reducible refine cutG ?_; fail) | (refine idx_map ?_ ?_) | (refine idx_mapI ?_ ?_ ?_) ))))
  refine lpG (fun k : Nat => ⟨[(0, .sl 3 (l.map stRow) none), (1, .v (.int .i64 a)), (2, .v (.int .i64 b)), (7, .v (.int .i64 (mL a b (l.take k)).1)), (8, .v (.bool (mL a b (l.take k)).2)), (9, .v (.int .i64 k))], []⟩) (fun k => k ≤ l.length) (fun k => l.length - k) 0 (by omega) (by (refine le_sub [] rfl rfl ?_ ?_); all_goals ((repeat' (conv => whnf); (first | (with_reducible refine And.intro ?_ ?_) | (with_reducible exact True.intro) | (with_reducible exact Or.inl rfl) | (refine Vc.mk ?_; (first | (exact rfl) | (exact ⟨rfl, .inl rfl⟩) | omega | skip)))); all_goals (try (simp [mL]; done)))) ?_
  rintro k hk
  by_cases hk' : k < l.length
  · have hel := hl2 l[k] (List.getElem_mem hk')
    have hS := mL_succ (a := a) (b := b) hk'
    unfold mE at hS
    generalize mL a b (l.take k) = Q at *
    (iterate 2 all_goals (try (repeat' (conv => whnf); (first | (with_reducible refine And.intro ?_ ?_) | (with_reducible exact True.intro) | (intro h; (first | (cases h) | ((first | (simp only [vis, Int.reduceToNat] at h) | skip); (try (exfalso; omega))))) | (with_reducible refine Vc.mk ?_; fail) | (with_reducible refine cutG ?_; fail) | (refine idx_map ?_ ?_) | (refine idx_mapI ?_ ?_ ?_) ))))
    all_goals (try omega)
    all_goals (try (refine Vc.mk ?_; (first | (exact rfl) | (decide) | omega | (unfold In64; omega) | (simp only [wrap_byte, Int.reduceToNat, Int.toNat_natCast, In64]; omega) | (simp only [maxLen, Fits, viewR, viewL, AV.view, List.length_map, List.length_append, List.length_cons, List.length_nil]; omega) | (simp [viewR, viewL, AV.view, ]; done) | skip)))
    refine lpG (fun j : Nat => ⟨[(0, .sl 3 (l.map stRow) none), (1, .v (.int .i64 a)), (2, .v (.int .i64 b)), (7, .v (.int .i64 ((l[k].2.2.take j).foldl (mS a b l[k].1) Q).1)), (8, .v (.bool ((l[k].2.2.take j).foldl (mS a b l[k].1) Q).2)), (9, .v (.int .i64 k)), (10, .v (.int .i64 j))], []⟩) (fun j => j ≤ l[k].2.2.length) (fun j => l[k].2.2.length - j) 0 (by omega) (by (refine le_sub [] rfl rfl ?_ ?_); all_goals ((repeat' (conv => whnf); (first | (with_reducible refine And.intro ?_ ?_) | (with_reducible exact True.intro) | (with_reducible exact Or.inl rfl) | (refine Vc.mk ?_; (first | (exact rfl) | (exact ⟨rfl, .inl rfl⟩) | omega | skip)))); all_goals (try (simp; done)))) ?_
    rintro j hj
    by_cases hj' : j < l[k].2.2.length
    · have hF := mF_succ (a := a) (b := b) (o := l[k].1) (q := Q) hj'
      generalize (l[k].2.2.take j).foldl (mS a b l[k].1) Q = R at *
      obtain ⟨n, back⟩ := R
      dsimp only at hF ⊢
      cases back
      all_goals
        (iterate 2 all_goals (try (repeat' (conv => whnf); (first | (with_reducible refine And.intro ?_ ?_) | (with_reducible exact True.intro) | (intro h; (first | (cases h) | ((first | (simp only [vis, Int.reduceToNat] at h) | skip); (try (exfalso; omega))))) | (with_reducible refine Vc.mk ?_; fail) | (with_reducible refine cutG ?_; fail) | (refine idx_map ?_ ?_) | (refine idx_mapI ?_ ?_ ?_) ))))
        all_goals (try omega)
        all_goals (try (refine Vc.mk ?_; (first | (exact rfl) | (decide) | omega | (unfold In64; omega) | (simp only [wrap_byte, Int.reduceToNat, Int.toNat_natCast, In64]; omega) | (simp only [maxLen, Fits, viewR, viewL, AV.view, List.length_map, List.length_append, List.length_cons, List.length_nil]; omega) | (simp [viewR, viewL, AV.view, ]; done) | skip)))
        all_goals (refine nextG (j + 1) (by omega) (by omega) (by rw [hF]; (refine le_sub [] rfl rfl ?_ ?_); all_goals ((repeat' (conv => whnf); (first | (with_reducible refine And.intro ?_ ?_) | (with_reducible exact True.intro) | (with_reducible exact Or.inl rfl) | (refine Vc.mk ?_; (first | (exact rfl) | (exact ⟨rfl, .inl rfl⟩) | omega | skip)))); all_goals (first | (simp_all; done) | (simp_all; rw [Bool.eq_iff_iff]; simp; done)))))
    · have e : j = l[k].2.2.length := by omega
      subst e
      rw [List.take_length, ← hS]
      (iterate 2 all_goals (try (repeat' (conv => whnf); (first | (with_reducible refine And.intro ?_ ?_) | (with_reducible exact True.intro) | (intro h; (first | (cases h) | ((first | (simp only [vis, Int.reduceToNat] at h) | skip); (try (exfalso; omega))))) | (with_reducible refine Vc.mk ?_; fail) | (with_reducible refine cutG ?_; fail) | (refine idx_map ?_ ?_) | (refine idx_mapI ?_ ?_ ?_) ))))
      all_goals (try omega)
      all_goals (try (refine Vc.mk ?_; (first | (exact rfl) | (decide) | omega | (unfold In64; omega) | (simp only [wrap_byte, Int.reduceToNat, Int.toNat_natCast, In64]; omega) | (simp only [maxLen, Fits, viewR, viewL, AV.view, List.length_map, List.length_append, List.length_cons, List.length_nil]; omega) | (simp [viewR, viewL, AV.view, ]; done) | skip)))
      refine nextG (k + 1) (by omega) (by omega) (by (refine le_sub [] rfl rfl ?_ ?_); all_goals (repeat' (conv => whnf); (first | (with_reducible refine And.intro ?_ ?_) | (with_reducible exact True.intro) | (with_reducible exact Or.inl rfl) | (refine Vc.mk ?_; (first | (exact rfl) | (exact ⟨rfl, .inl rfl⟩) | omega | skip)))))
  · have e : k = l.length := by omega
    subst e
    rw [List.take_length]
    unfold met
    generalize mL a b l = Q
    obtain ⟨n, back⟩ := Q
    cases back
    all_goals
      (iterate 2 all_goals (try (repeat' (conv => whnf); (first | (with_reducible refine And.intro ?_ ?_) | (with_reducible exact True.intro) | (intro h; (first | (cases h) | ((first | (simp only [vis, Int.reduceToNat] at h) | skip); (try (exfalso; omega))))) | (with_reducible refine Vc.mk ?_; fail) | (with_reducible refine cutG ?_; fail) | (refine idx_map ?_ ?_) | (refine idx_mapI ?_ ?_ ?_) ))))
      all_goals (try omega)
      all_goals (try (refine Vc.mk ?_; (first | (exact rfl) | (decide) | omega | (unfold In64; omega) | (simp only [wrap_byte, Int.reduceToNat, Int.toNat_natCast, In64]; omega) | (simp only [maxLen, Fits, viewR, viewL, AV.view, List.length_map, List.length_append, List.length_cons, List.length_nil]; omega) | (simp [viewR, viewL, AV.view, ]; done) | skip)))
      all_goals (((try (conv => whnf)); refine ⟨[], rfl, rfl, ?_, ?_⟩); (repeat' (conv => whnf); (first | (with_reducible refine And.intro ?_ ?_) | (with_reducible exact True.intro) | (with_reducible exact Or.inl rfl) | (refine Vc.mk ?_; (first | (exact rfl) | (exact ⟨rfl, .inl rfl⟩) | omega | skip)))))
end Go.Proofs.Ytimfnpjcedjmiab
