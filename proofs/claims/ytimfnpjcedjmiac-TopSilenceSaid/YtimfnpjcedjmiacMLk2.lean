/-
  One end of a link: the program's events.
-/
import Derived.Test.YtimfnpjcedjmiacMLk
namespace Go.Proofs.Ytimfnpjcedjmiac
open Go.RowKit
set_option linter.unusedSimpArgs false
set_option linter.unusedVariables false
set_option maxHeartbeats 4000000 in
set_option maxRecDepth 100000 in
theorem equalO_ok (la lb : List (Int × Int)) : Fn Try.prog 58 [.sl 2 (la.map opRow) none, .sl 2 (lb.map opRow) none] [] (.v (.bool (la == lb))) [] := by
  refine fn_light ⟨_, Try.func58, rfl, by decide +kernel⟩ 0 rfl fun ha => ?_
  simp only [List.length_map, maxLen] at ha
  refine fn_of mixed [] [] Try.func58 rfl (by decide +kernel) Try.ntmps58 rfl (congrArg Array.toList Try.results58) rfl (by decide +kernel) ?_
  (iterate 2 all_goals (try (repeat' (conv => whnf); (first | (with_reducible refine And.intro ?_ ?_) | (with_reducible exact True.intro) | (intro h; (first | (cases h) | ((first | (simp only [vis, Int.reduceToNat] at h) | skip); (try (exfalso; omega))))) | (with_reducible refine Vc.mk ?_; fail) | (with_reducible refine cutG ?_; fail) | (refine idx_map ?_ ?_) | (refine idx_mapI ?_ ?_ ?_) ))))
  · ((try (conv => whnf)); refine ⟨[], rfl, rfl, ?_, ?_⟩); (repeat' (conv => whnf); (first | (with_reducible refine And.intro ?_ ?_) | (with_reducible exact True.intro) | (with_reducible exact Or.inl rfl) | (refine Vc.mk ?_; (first | (exact rfl) | (exact ⟨rfl, .inl rfl⟩) | omega | skip))))
    have : ¬ la = lb := fun e => by subst e; omega
    simp [this]
  refine lpG (fun k : Nat => ⟨[(0, .sl 2 (la.map opRow) none), (1, .sl 2 (lb.map opRow) none), (12, .v (.int .i64 la.length)), (13, .v (.int .i64 k))], []⟩) (fun k => k ≤ la.length ∧ ∀ i, i < k → la[i]? = lb[i]?) (fun k => la.length - k) 0 ⟨by omega, fun i h => by omega⟩ (by (refine le_sub [] rfl rfl ?_ ?_); all_goals ((repeat' (conv => whnf); (first | (with_reducible refine And.intro ?_ ?_) | (with_reducible exact True.intro) | (with_reducible exact Or.inl rfl) | (refine Vc.mk ?_; (first | (exact rfl) | (exact ⟨rfl, .inl rfl⟩) | omega | skip)))); all_goals (try simp))) ?_
  rintro k ⟨hk, hp⟩
  (iterate 2 all_goals (try (repeat' (conv => whnf); (first | (with_reducible refine And.intro ?_ ?_) | (with_reducible exact True.intro) | (intro h; (first | (cases h) | ((first | (simp only [vis, Int.reduceToNat] at h) | skip); (try (exfalso; omega))))) | (with_reducible refine Vc.mk ?_; fail) | (with_reducible refine cutG ?_; fail) | (refine idx_map ?_ ?_) | (refine idx_mapI ?_ ?_ ?_) | (refine ne_option ?_)))))
  all_goals (try omega)
  all_goals (try (refine Vc.mk ?_; (first | (exact rfl) | (decide) | omega | (unfold In64; omega) | (simp only [wrap_byte, Int.reduceToNat, Int.toNat_natCast, In64]; omega) | (simp only [maxLen, Fits, viewR, viewL, AV.view, List.length_map, List.length_append, List.length_cons, List.length_nil]; omega) | (simp [viewR, viewL, AV.view, ]; done) | skip)))
  · ((try (conv => whnf)); refine ⟨[], rfl, rfl, ?_, ?_⟩); (repeat' (conv => whnf); (first | (with_reducible refine And.intro ?_ ?_) | (with_reducible exact True.intro) | (with_reducible exact Or.inl rfl) | (refine Vc.mk ?_; (first | (exact rfl) | (exact ⟨rfl, .inl rfl⟩) | omega | skip))))
    have : ¬ la = lb := fun e => by subst e; simp at h
    simp [this]
  · refine nextG (k + 1) ⟨by omega, fun i hi => ?_⟩ (by omega) (by (refine le_sub [] rfl rfl ?_ ?_); all_goals (repeat' (conv => whnf); (first | (with_reducible refine And.intro ?_ ?_) | (with_reducible exact True.intro) | (with_reducible exact Or.inl rfl) | (refine Vc.mk ?_; (first | (exact rfl) | (exact ⟨rfl, .inl rfl⟩) | omega | skip)))))
    by_cases hik : i = k
    · subst hik
      rw [List.getElem?_eq_getElem (by omega), List.getElem?_eq_getElem (by omega)]
      simp at h
      rw [Prod.ext h.1 h.2]
    · exact hp i (by omega)
  · ((try (conv => whnf)); refine ⟨[], rfl, rfl, ?_, ?_⟩); (repeat' (conv => whnf); (first | (with_reducible refine And.intro ?_ ?_) | (with_reducible exact True.intro) | (with_reducible exact Or.inl rfl) | (refine Vc.mk ?_; (first | (exact rfl) | (exact ⟨rfl, .inl rfl⟩) | omega | skip))))
    have : la = lb := List.ext_getElem? fun i => by
      by_cases hi : i < k
      · exact hp i hi
      · rw [List.getElem?_eq_none (by omega), List.getElem?_eq_none (by omega)]
    simp [this]
set_option maxHeartbeats 8000000 in
set_option maxRecDepth 100000 in
theorem levent_ok (l : Lk) (h : l.ok 900) (e : Int) (e0 : 0 ≤ e) (e9 : e ≤ 11) (x i c : Int) (o a : List (Int × Int)) (ha : a.length ≤ 1000000) :
    Fn Try.prog 47 [.box 0 0, .v (.int .i64 e), .agg [.v (.int .i64 x), .v (.int .i64 i), .sl 2 (o.map opRow) none], .v (.int .i64 c), .sl 2 (a.map opRow) none] (lkM l 0) (.err (stepE l.st e)) (lkM (evtL l e i c a) 1) := by
  have ht := tab h.st0 h.st9 e0 e9
  have hs := step_ok l.st e
  by_cases hE : stepE l.st e = 0
  · have hact := lact_ok (ownL l (stepN l.st e)) ((ownL_ok h ht.2.1 ht.2.2.1).mono (by decide)) (stepD l.st e) (by omega) ht.2.2.2.2 x i c o a ha
    have hV : evtL l e i c a = actL i c a (ownL l (stepN l.st e)) (stepD l.st e) := by unfold evtL; rw [if_pos hE]
    rw [hV, hE]
    rw [hE] at hs
    generalize actL i c a (ownL l (stepN l.st e)) (stepD l.st e) = q at *
    generalize stepD l.st e = d at *
    by_cases hn : stepN l.st e ≤ 3
    · have hO : ownL l (stepN l.st e) = { l with ns := l.os, nm := l.om, sz := 255, st := stepN l.st e } := by unfold ownL; rw [if_pos hn]
      rw [hO] at hact
      generalize stepN l.st e = n at *
      unfold lkM lkC at *
      refine fn_of mixed [] [] Try.func47 rfl (by decide +kernel) Try.ntmps47 rfl (congrArg Array.toList Try.results47) rfl (by decide +kernel) ?_
      (iterate 2 all_goals (try (repeat' (conv => whnf); (first | (with_reducible refine And.intro ?_ ?_) | (with_reducible exact True.intro) | (intro h; (first | (cases h) | ((first | (simp only [vis, Int.reduceToNat] at h) | skip); (try (exfalso; omega))))) | (with_reducible refine Vc.mk ?_; fail) | (with_reducible refine cutG ?_; fail) | (refine idx_map ?_ ?_) | (refine idx_mapI ?_ ?_ ?_) ))))
      (all_goals (try ((first | (refine call0 (hs) ?_ ?_) | (refine pure0 (hs) rfl ?_ ?_)); (· (repeat' (conv => whnf); (first | (with_reducible refine And.intro ?_ ?_) | (with_reducible exact True.intro) | (with_reducible exact Or.inl rfl) | (refine Vc.mk ?_; (first | (exact rfl) | (exact ⟨rfl, .inl rfl⟩) | omega | skip))))); (iterate 2 all_goals (try (repeat' (conv => whnf); (first | (with_reducible refine And.intro ?_ ?_) | (with_reducible exact True.intro) | (intro h; (first | (cases h) | ((first | (simp only [vis, Int.reduceToNat] at h) | skip); (try (exfalso; omega))))) | (with_reducible refine Vc.mk ?_; fail) | (with_reducible refine cutG ?_; fail) | (refine idx_map ?_ ?_) | (refine idx_mapI ?_ ?_ ?_) )))))))
      all_goals (try omega)
      all_goals (try (refine Vc.mk ?_; (first | (exact rfl) | (decide) | omega | (unfold In64; omega) | (simp only [wrap_byte, Int.reduceToNat, Int.toNat_natCast, In64]; omega) | (simp only [maxLen, Fits, viewR, viewL, AV.view, List.length_map, List.length_append, List.length_cons, List.length_nil]; omega) | (simp [viewR, viewL, AV.view, ]; done) | skip)))
      (refine ⟨_, _, _, _, [0, 1], hact, rfl, rfl, rfl, ?_, ?_, ?_⟩)
      · (repeat' (conv => whnf); (first | (with_reducible refine And.intro ?_ ?_) | (with_reducible exact True.intro) | (with_reducible exact Or.inl rfl) | (refine Vc.mk ?_; (first | (exact rfl) | (exact ⟨rfl, .inl rfl⟩) | omega | skip))))
      · (repeat' (conv => whnf); (first | (with_reducible refine And.intro ?_ ?_) | (with_reducible exact True.intro) | (with_reducible exact Or.inl rfl) | (refine Vc.mk ?_; (first | (exact rfl) | (exact ⟨rfl, .inl rfl⟩) | omega | skip))))
      (iterate 2 all_goals (try (repeat' (conv => whnf); (first | (with_reducible refine And.intro ?_ ?_) | (with_reducible exact True.intro) | (intro h; (first | (cases h) | ((first | (simp only [vis, Int.reduceToNat] at h) | skip); (try (exfalso; omega))))) | (with_reducible refine Vc.mk ?_; fail) | (with_reducible refine cutG ?_; fail) | (refine idx_map ?_ ?_) | (refine idx_mapI ?_ ?_ ?_) ))))
      ((try (conv => whnf)); refine ⟨[0, 1], rfl, rfl, ?_, ?_⟩); (repeat' (conv => whnf); (first | (with_reducible refine And.intro ?_ ?_) | (with_reducible exact True.intro) | (with_reducible exact Or.inl rfl) | (refine Vc.mk ?_; (first | (exact rfl) | (exact ⟨rfl, .inl rfl⟩) | omega | skip))))
    · have hO : ownL l (stepN l.st e) = { l with st := stepN l.st e } := by unfold ownL; rw [if_neg hn]
      rw [hO] at hact
      generalize stepN l.st e = n at *
      unfold lkM lkC at *
      refine fn_of mixed [] [] Try.func47 rfl (by decide +kernel) Try.ntmps47 rfl (congrArg Array.toList Try.results47) rfl (by decide +kernel) ?_
      (iterate 2 all_goals (try (repeat' (conv => whnf); (first | (with_reducible refine And.intro ?_ ?_) | (with_reducible exact True.intro) | (intro h; (first | (cases h) | ((first | (simp only [vis, Int.reduceToNat] at h) | skip); (try (exfalso; omega))))) | (with_reducible refine Vc.mk ?_; fail) | (with_reducible refine cutG ?_; fail) | (refine idx_map ?_ ?_) | (refine idx_mapI ?_ ?_ ?_) ))))
      (all_goals (try ((first | (refine call0 (hs) ?_ ?_) | (refine pure0 (hs) rfl ?_ ?_)); (· (repeat' (conv => whnf); (first | (with_reducible refine And.intro ?_ ?_) | (with_reducible exact True.intro) | (with_reducible exact Or.inl rfl) | (refine Vc.mk ?_; (first | (exact rfl) | (exact ⟨rfl, .inl rfl⟩) | omega | skip))))); (iterate 2 all_goals (try (repeat' (conv => whnf); (first | (with_reducible refine And.intro ?_ ?_) | (with_reducible exact True.intro) | (intro h; (first | (cases h) | ((first | (simp only [vis, Int.reduceToNat] at h) | skip); (try (exfalso; omega))))) | (with_reducible refine Vc.mk ?_; fail) | (with_reducible refine cutG ?_; fail) | (refine idx_map ?_ ?_) | (refine idx_mapI ?_ ?_ ?_) )))))))
      all_goals (try omega)
      all_goals (try (refine Vc.mk ?_; (first | (exact rfl) | (decide) | omega | (unfold In64; omega) | (simp only [wrap_byte, Int.reduceToNat, Int.toNat_natCast, In64]; omega) | (simp only [maxLen, Fits, viewR, viewL, AV.view, List.length_map, List.length_append, List.length_cons, List.length_nil]; omega) | (simp [viewR, viewL, AV.view, ]; done) | skip)))
      (refine ⟨_, _, _, _, [0, 1], hact, rfl, rfl, rfl, ?_, ?_, ?_⟩)
      · (repeat' (conv => whnf); (first | (with_reducible refine And.intro ?_ ?_) | (with_reducible exact True.intro) | (with_reducible exact Or.inl rfl) | (refine Vc.mk ?_; (first | (exact rfl) | (exact ⟨rfl, .inl rfl⟩) | omega | skip))))
      · (repeat' (conv => whnf); (first | (with_reducible refine And.intro ?_ ?_) | (with_reducible exact True.intro) | (with_reducible exact Or.inl rfl) | (refine Vc.mk ?_; (first | (exact rfl) | (exact ⟨rfl, .inl rfl⟩) | omega | skip))))
      (iterate 2 all_goals (try (repeat' (conv => whnf); (first | (with_reducible refine And.intro ?_ ?_) | (with_reducible exact True.intro) | (intro h; (first | (cases h) | ((first | (simp only [vis, Int.reduceToNat] at h) | skip); (try (exfalso; omega))))) | (with_reducible refine Vc.mk ?_; fail) | (with_reducible refine cutG ?_; fail) | (refine idx_map ?_ ?_) | (refine idx_mapI ?_ ?_ ?_) ))))
      ((try (conv => whnf)); refine ⟨[0, 1], rfl, rfl, ?_, ?_⟩); (repeat' (conv => whnf); (first | (with_reducible refine And.intro ?_ ?_) | (with_reducible exact True.intro) | (with_reducible exact Or.inl rfl) | (refine Vc.mk ?_; (first | (exact rfl) | (exact ⟨rfl, .inl rfl⟩) | omega | skip))))
  · have hV : evtL l e i c a = l := by unfold evtL; rw [if_neg hE]
    rw [hV]
    generalize stepE l.st e = E at *
    unfold lkM lkC at *
    refine fn_of mixed [] [] Try.func47 rfl (by decide +kernel) Try.ntmps47 rfl (congrArg Array.toList Try.results47) rfl (by decide +kernel) ?_
    (iterate 2 all_goals (try (repeat' (conv => whnf); (first | (with_reducible refine And.intro ?_ ?_) | (with_reducible exact True.intro) | (intro h; (first | (cases h) | ((first | (simp only [vis, Int.reduceToNat] at h) | skip); (try (exfalso; omega))))) | (with_reducible refine Vc.mk ?_; fail) | (with_reducible refine cutG ?_; fail) | (refine idx_map ?_ ?_) | (refine idx_mapI ?_ ?_ ?_) ))))
    (all_goals (try ((first | (refine call0 (hs) ?_ ?_) | (refine pure0 (hs) rfl ?_ ?_)); (· (repeat' (conv => whnf); (first | (with_reducible refine And.intro ?_ ?_) | (with_reducible exact True.intro) | (with_reducible exact Or.inl rfl) | (refine Vc.mk ?_; (first | (exact rfl) | (exact ⟨rfl, .inl rfl⟩) | omega | skip))))); (iterate 2 all_goals (try (repeat' (conv => whnf); (first | (with_reducible refine And.intro ?_ ?_) | (with_reducible exact True.intro) | (intro h; (first | (cases h) | ((first | (simp only [vis, Int.reduceToNat] at h) | skip); (try (exfalso; omega))))) | (with_reducible refine Vc.mk ?_; fail) | (with_reducible refine cutG ?_; fail) | (refine idx_map ?_ ?_) | (refine idx_mapI ?_ ?_ ?_) )))))))
    all_goals (try omega)
    all_goals (try (refine Vc.mk ?_; (first | (exact rfl) | (decide) | omega | (unfold In64; omega) | (simp only [wrap_byte, Int.reduceToNat, Int.toNat_natCast, In64]; omega) | (simp only [maxLen, Fits, viewR, viewL, AV.view, List.length_map, List.length_append, List.length_cons, List.length_nil]; omega) | (simp [viewR, viewL, AV.view, ]; done) | skip)))
    all_goals (((try (conv => whnf)); refine ⟨[0, 1], rfl, rfl, ?_, ?_⟩); (repeat' (conv => whnf); (first | (with_reducible refine And.intro ?_ ?_) | (with_reducible exact True.intro) | (with_reducible exact Or.inl rfl) | (refine Vc.mk ?_; (first | (exact rfl) | (exact ⟨rfl, .inl rfl⟩) | omega | skip)))))
set_option maxHeartbeats 8000000 in
set_option maxRecDepth 100000 in
theorem ldo_ok (l : Lk) (h : l.ok 900) (e : Int) : Fn Try.prog 33 [.box 0 0, .v (.int .i64 e)] (lkM l 0) (.err (doE l e)) (lkM (doL l e) 1) := by
  by_cases he : e < 0 ∨ 3 < e
  · have h1 : doE l e = 1 := by unfold doE; rw [if_pos he]
    have h2 : doL l e = l := by unfold doL; rw [if_pos he]
    rw [h1, h2]
    unfold lkM lkC
    refine fn_of mixed [] [] Try.func33 rfl (by decide +kernel) Try.ntmps33 rfl (congrArg Array.toList Try.results33) rfl (by decide +kernel) ?_
    (iterate 2 all_goals (try (repeat' (conv => whnf); (first | (with_reducible refine And.intro ?_ ?_) | (with_reducible exact True.intro) | (intro h; (first | (cases h) | ((first | (simp only [vis, Int.reduceToNat] at h) | skip); (try (exfalso; omega))))) | (with_reducible refine Vc.mk ?_; fail) | (with_reducible refine cutG ?_; fail) | (refine idx_map ?_ ?_) | (refine idx_mapI ?_ ?_ ?_) ))))
    all_goals (try omega)
    all_goals (try (refine Vc.mk ?_; (first | (exact rfl) | (decide) | omega | (unfold In64; omega) | (simp only [wrap_byte, Int.reduceToNat, Int.toNat_natCast, In64]; omega) | (simp only [maxLen, Fits, viewR, viewL, AV.view, List.length_map, List.length_append, List.length_cons, List.length_nil]; omega) | (simp [viewR, viewL, AV.view, ]; done) | skip)))
    all_goals (((try (conv => whnf)); refine ⟨[0, 1], rfl, rfl, ?_, ?_⟩); (repeat' (conv => whnf); (first | (with_reducible refine And.intro ?_ ?_) | (with_reducible exact True.intro) | (with_reducible exact Or.inl rfl) | (refine Vc.mk ?_; (first | (exact rfl) | (exact ⟨rfl, .inl rfl⟩) | omega | skip)))))
  · have h1 : doE l e = stepE l.st e := by unfold doE; rw [if_neg he]
    have h2 : doL l e = evtL l e 0 0 [] := by unfold doL; rw [if_neg he]
    have hev := levent_ok l h e (by omega) (by omega) 0 0 0 [] [] (by decide)
    rw [h1, h2]
    generalize evtL l e 0 0 [] = q at *
    unfold lkM lkC at *
    refine fn_of mixed [] [] Try.func33 rfl (by decide +kernel) Try.ntmps33 rfl (congrArg Array.toList Try.results33) rfl (by decide +kernel) ?_
    (iterate 2 all_goals (try (repeat' (conv => whnf); (first | (with_reducible refine And.intro ?_ ?_) | (with_reducible exact True.intro) | (intro h; (first | (cases h) | ((first | (simp only [vis, Int.reduceToNat] at h) | skip); (try (exfalso; omega))))) | (with_reducible refine Vc.mk ?_; fail) | (with_reducible refine cutG ?_; fail) | (refine idx_map ?_ ?_) | (refine idx_mapI ?_ ?_ ?_) ))))
    all_goals (try omega)
    all_goals ((refine ⟨_, _, _, _, [0, 1], hev, rfl, rfl, rfl, ?_, ?_, ?_⟩); (· (repeat' (conv => whnf); (first | (with_reducible refine And.intro ?_ ?_) | (with_reducible exact True.intro) | (with_reducible exact Or.inl rfl) | (refine Vc.mk ?_; (first | (exact rfl) | (exact ⟨rfl, .inl rfl⟩) | omega | skip))))); (· (repeat' (conv => whnf); (first | (with_reducible refine And.intro ?_ ?_) | (with_reducible exact True.intro) | (with_reducible exact Or.inl rfl) | (refine Vc.mk ?_; (first | (exact rfl) | (exact ⟨rfl, .inl rfl⟩) | omega | skip))))); (iterate 2 all_goals (try (repeat' (conv => whnf); (first | (with_reducible refine And.intro ?_ ?_) | (with_reducible exact True.intro) | (intro h; (first | (cases h) | ((first | (simp only [vis, Int.reduceToNat] at h) | skip); (try (exfalso; omega))))) | (with_reducible refine Vc.mk ?_; fail) | (with_reducible refine cutG ?_; fail) | (refine idx_map ?_ ?_) | (refine idx_mapI ?_ ?_ ?_) )))))
    all_goals (((try (conv => whnf)); refine ⟨[0, 1], rfl, rfl, ?_, ?_⟩); (repeat' (conv => whnf); (first | (with_reducible refine And.intro ?_ ?_) | (with_reducible exact True.intro) | (with_reducible exact Or.inl rfl) | (refine Vc.mk ?_; (first | (exact rfl) | (exact ⟨rfl, .inl rfl⟩) | omega | skip)))))
set_option maxHeartbeats 8000000 in
set_option maxRecDepth 100000 in
theorem ltick_ok (l : Lk) (h : l.ok 800) : Fn Try.prog 25 [.box 0 0] (lkM l 0) (.tup []) (lkM (tickL l) 1) := by
  have htm := timed_ok l.st
  have g3 := h.tm0
  have g4 := h.tm3
  have g5 := h.left0
  have g6 := h.left4
  by_cases ht : 4 ≤ l.st ∧ l.st ≤ 8
  · rw [decide_eq_true ht] at htm
    by_cases h0 : 0 < l.tm - 1
    · have hV : tickL l = { l with tm := l.tm - 1 } := by unfold tickL; rw [if_pos ht, if_pos h0]
      rw [hV]
      unfold lkM lkC
      refine fn_of mixed [] [] Try.func25 rfl (by decide +kernel) Try.ntmps25 rfl (congrArg Array.toList Try.results25) rfl (by decide +kernel) ?_
      (iterate 2 all_goals (try (repeat' (conv => whnf); (first | (with_reducible refine And.intro ?_ ?_) | (with_reducible exact True.intro) | (intro h; (first | (cases h) | ((first | (simp only [vis, Int.reduceToNat] at h) | skip); (try (exfalso; omega))))) | (with_reducible refine Vc.mk ?_; fail) | (with_reducible refine cutG ?_; fail) | (refine idx_map ?_ ?_) | (refine idx_mapI ?_ ?_ ?_) ))))
      (all_goals (try ((first | (refine call0 (htm) ?_ ?_) | (refine pure0 (htm) rfl ?_ ?_)); (· (repeat' (conv => whnf); (first | (with_reducible refine And.intro ?_ ?_) | (with_reducible exact True.intro) | (with_reducible exact Or.inl rfl) | (refine Vc.mk ?_; (first | (exact rfl) | (exact ⟨rfl, .inl rfl⟩) | omega | skip))))); (iterate 2 all_goals (try (repeat' (conv => whnf); (first | (with_reducible refine And.intro ?_ ?_) | (with_reducible exact True.intro) | (intro h; (first | (cases h) | ((first | (simp only [vis, Int.reduceToNat] at h) | skip); (try (exfalso; omega))))) | (with_reducible refine Vc.mk ?_; fail) | (with_reducible refine cutG ?_; fail) | (refine idx_map ?_ ?_) | (refine idx_mapI ?_ ?_ ?_) )))))))
      all_goals (try omega)
      all_goals (try (refine Vc.mk ?_; (first | (exact rfl) | (decide) | omega | (unfold In64; omega) | (simp only [wrap_byte, Int.reduceToNat, Int.toNat_natCast, In64]; omega) | (simp only [maxLen, Fits, viewR, viewL, AV.view, List.length_map, List.length_append, List.length_cons, List.length_nil]; omega) | (simp [viewR, viewL, AV.view, ]; done) | skip)))
      all_goals (((try (conv => whnf)); refine ⟨[0, 1], rfl, rfl, ?_, ?_⟩); (repeat' (conv => whnf); (first | (with_reducible refine And.intro ?_ ?_) | (with_reducible exact True.intro) | (with_reducible exact Or.inl rfl) | (refine Vc.mk ?_; (first | (exact rfl) | (exact ⟨rfl, .inl rfl⟩) | omega | skip)))))
    · have hok' : Lk.ok 900 { l with tm := l.tm - 1 } := by
        obtain ⟨h1, h2, h3, h4, h5, h6, h7, h8, h9', h10, h11, h12, h13, h14, h15, h16, h17⟩ := h.mono (j := 899) (by decide)
        refine ⟨?_, ?_, ?_, ?_, ?_, ?_, ?_, ?_, ?_, ?_, ?_, ?_, ?_, ?_, ?_, ?_, ?_⟩ <;> dsimp only <;> first | omega | assumption
      by_cases hl : l.left ≤ 0
      · have hV : tickL l = evtL { l with tm := l.tm - 1 } 5 0 0 [] := by unfold tickL; rw [if_pos ht, if_neg h0, if_pos hl]
        have hev := levent_ok _ hok' 5 (by decide) (by decide) 0 0 0 [] [] (by decide)
        rw [hV]
        generalize evtL { l with tm := l.tm - 1 } 5 0 0 [] = q at *
        unfold lkM lkC at *
        refine fn_of mixed [] [] Try.func25 rfl (by decide +kernel) Try.ntmps25 rfl (congrArg Array.toList Try.results25) rfl (by decide +kernel) ?_
        (iterate 2 all_goals (try (repeat' (conv => whnf); (first | (with_reducible refine And.intro ?_ ?_) | (with_reducible exact True.intro) | (intro h; (first | (cases h) | ((first | (simp only [vis, Int.reduceToNat] at h) | skip); (try (exfalso; omega))))) | (with_reducible refine Vc.mk ?_; fail) | (with_reducible refine cutG ?_; fail) | (refine idx_map ?_ ?_) | (refine idx_mapI ?_ ?_ ?_) ))))
        (all_goals (try ((first | (refine call0 (htm) ?_ ?_) | (refine pure0 (htm) rfl ?_ ?_)); (· (repeat' (conv => whnf); (first | (with_reducible refine And.intro ?_ ?_) | (with_reducible exact True.intro) | (with_reducible exact Or.inl rfl) | (refine Vc.mk ?_; (first | (exact rfl) | (exact ⟨rfl, .inl rfl⟩) | omega | skip))))); (iterate 2 all_goals (try (repeat' (conv => whnf); (first | (with_reducible refine And.intro ?_ ?_) | (with_reducible exact True.intro) | (intro h; (first | (cases h) | ((first | (simp only [vis, Int.reduceToNat] at h) | skip); (try (exfalso; omega))))) | (with_reducible refine Vc.mk ?_; fail) | (with_reducible refine cutG ?_; fail) | (refine idx_map ?_ ?_) | (refine idx_mapI ?_ ?_ ?_) )))))))
        all_goals (try omega)
        all_goals (try (refine Vc.mk ?_; (first | (exact rfl) | (decide) | omega | (unfold In64; omega) | (simp only [wrap_byte, Int.reduceToNat, Int.toNat_natCast, In64]; omega) | (simp only [maxLen, Fits, viewR, viewL, AV.view, List.length_map, List.length_append, List.length_cons, List.length_nil]; omega) | (simp [viewR, viewL, AV.view, ]; done) | skip)))
        all_goals ((refine ⟨_, _, _, _, [0, 1], hev, rfl, rfl, rfl, ?_, ?_, ?_⟩); (· (repeat' (conv => whnf); (first | (with_reducible refine And.intro ?_ ?_) | (with_reducible exact True.intro) | (with_reducible exact Or.inl rfl) | (refine Vc.mk ?_; (first | (exact rfl) | (exact ⟨rfl, .inl rfl⟩) | omega | skip))))); (· (repeat' (conv => whnf); (first | (with_reducible refine And.intro ?_ ?_) | (with_reducible exact True.intro) | (with_reducible exact Or.inl rfl) | (refine Vc.mk ?_; (first | (exact rfl) | (exact ⟨rfl, .inl rfl⟩) | omega | skip))))); (iterate 2 all_goals (try (repeat' (conv => whnf); (first | (with_reducible refine And.intro ?_ ?_) | (with_reducible exact True.intro) | (intro h; (first | (cases h) | ((first | (simp only [vis, Int.reduceToNat] at h) | skip); (try (exfalso; omega))))) | (with_reducible refine Vc.mk ?_; fail) | (with_reducible refine cutG ?_; fail) | (refine idx_map ?_ ?_) | (refine idx_mapI ?_ ?_ ?_) )))))
        all_goals (((try (conv => whnf)); refine ⟨[0, 1], rfl, rfl, ?_, ?_⟩); (repeat' (conv => whnf); (first | (with_reducible refine And.intro ?_ ?_) | (with_reducible exact True.intro) | (with_reducible exact Or.inl rfl) | (refine Vc.mk ?_; (first | (exact rfl) | (exact ⟨rfl, .inl rfl⟩) | omega | skip)))))
      · have hV : tickL l = evtL { l with tm := l.tm - 1 } 4 0 0 [] := by unfold tickL; rw [if_pos ht, if_neg h0, if_neg hl]
        have hev := levent_ok _ hok' 4 (by decide) (by decide) 0 0 0 [] [] (by decide)
        rw [hV]
        generalize evtL { l with tm := l.tm - 1 } 4 0 0 [] = q at *
        unfold lkM lkC at *
        refine fn_of mixed [] [] Try.func25 rfl (by decide +kernel) Try.ntmps25 rfl (congrArg Array.toList Try.results25) rfl (by decide +kernel) ?_
        (iterate 2 all_goals (try (repeat' (conv => whnf); (first | (with_reducible refine And.intro ?_ ?_) | (with_reducible exact True.intro) | (intro h; (first | (cases h) | ((first | (simp only [vis, Int.reduceToNat] at h) | skip); (try (exfalso; omega))))) | (with_reducible refine Vc.mk ?_; fail) | (with_reducible refine cutG ?_; fail) | (refine idx_map ?_ ?_) | (refine idx_mapI ?_ ?_ ?_) ))))
        (all_goals (try ((first | (refine call0 (htm) ?_ ?_) | (refine pure0 (htm) rfl ?_ ?_)); (· (repeat' (conv => whnf); (first | (with_reducible refine And.intro ?_ ?_) | (with_reducible exact True.intro) | (with_reducible exact Or.inl rfl) | (refine Vc.mk ?_; (first | (exact rfl) | (exact ⟨rfl, .inl rfl⟩) | omega | skip))))); (iterate 2 all_goals (try (repeat' (conv => whnf); (first | (with_reducible refine And.intro ?_ ?_) | (with_reducible exact True.intro) | (intro h; (first | (cases h) | ((first | (simp only [vis, Int.reduceToNat] at h) | skip); (try (exfalso; omega))))) | (with_reducible refine Vc.mk ?_; fail) | (with_reducible refine cutG ?_; fail) | (refine idx_map ?_ ?_) | (refine idx_mapI ?_ ?_ ?_) )))))))
        all_goals (try omega)
        all_goals (try (refine Vc.mk ?_; (first | (exact rfl) | (decide) | omega | (unfold In64; omega) | (simp only [wrap_byte, Int.reduceToNat, Int.toNat_natCast, In64]; omega) | (simp only [maxLen, Fits, viewR, viewL, AV.view, List.length_map, List.length_append, List.length_cons, List.length_nil]; omega) | (simp [viewR, viewL, AV.view, ]; done) | skip)))
        all_goals ((refine ⟨_, _, _, _, [0, 1], hev, rfl, rfl, rfl, ?_, ?_, ?_⟩); (· (repeat' (conv => whnf); (first | (with_reducible refine And.intro ?_ ?_) | (with_reducible exact True.intro) | (with_reducible exact Or.inl rfl) | (refine Vc.mk ?_; (first | (exact rfl) | (exact ⟨rfl, .inl rfl⟩) | omega | skip))))); (· (repeat' (conv => whnf); (first | (with_reducible refine And.intro ?_ ?_) | (with_reducible exact True.intro) | (with_reducible exact Or.inl rfl) | (refine Vc.mk ?_; (first | (exact rfl) | (exact ⟨rfl, .inl rfl⟩) | omega | skip))))); (iterate 2 all_goals (try (repeat' (conv => whnf); (first | (with_reducible refine And.intro ?_ ?_) | (with_reducible exact True.intro) | (intro h; (first | (cases h) | ((first | (simp only [vis, Int.reduceToNat] at h) | skip); (try (exfalso; omega))))) | (with_reducible refine Vc.mk ?_; fail) | (with_reducible refine cutG ?_; fail) | (refine idx_map ?_ ?_) | (refine idx_mapI ?_ ?_ ?_) )))))
        all_goals (((try (conv => whnf)); refine ⟨[0, 1], rfl, rfl, ?_, ?_⟩); (repeat' (conv => whnf); (first | (with_reducible refine And.intro ?_ ?_) | (with_reducible exact True.intro) | (with_reducible exact Or.inl rfl) | (refine Vc.mk ?_; (first | (exact rfl) | (exact ⟨rfl, .inl rfl⟩) | omega | skip)))))
  · rw [decide_eq_false ht] at htm
    have hV : tickL l = l := by unfold tickL; rw [if_neg ht]
    rw [hV]
    unfold lkM lkC
    refine fn_of mixed [] [] Try.func25 rfl (by decide +kernel) Try.ntmps25 rfl (congrArg Array.toList Try.results25) rfl (by decide +kernel) ?_
    (iterate 2 all_goals (try (repeat' (conv => whnf); (first | (with_reducible refine And.intro ?_ ?_) | (with_reducible exact True.intro) | (intro h; (first | (cases h) | ((first | (simp only [vis, Int.reduceToNat] at h) | skip); (try (exfalso; omega))))) | (with_reducible refine Vc.mk ?_; fail) | (with_reducible refine cutG ?_; fail) | (refine idx_map ?_ ?_) | (refine idx_mapI ?_ ?_ ?_) ))))
    (all_goals (try ((first | (refine call0 (htm) ?_ ?_) | (refine pure0 (htm) rfl ?_ ?_)); (· (repeat' (conv => whnf); (first | (with_reducible refine And.intro ?_ ?_) | (with_reducible exact True.intro) | (with_reducible exact Or.inl rfl) | (refine Vc.mk ?_; (first | (exact rfl) | (exact ⟨rfl, .inl rfl⟩) | omega | skip))))); (iterate 2 all_goals (try (repeat' (conv => whnf); (first | (with_reducible refine And.intro ?_ ?_) | (with_reducible exact True.intro) | (intro h; (first | (cases h) | ((first | (simp only [vis, Int.reduceToNat] at h) | skip); (try (exfalso; omega))))) | (with_reducible refine Vc.mk ?_; fail) | (with_reducible refine cutG ?_; fail) | (refine idx_map ?_ ?_) | (refine idx_mapI ?_ ?_ ?_) )))))))
    all_goals (try omega)
    all_goals (try (refine Vc.mk ?_; (first | (exact rfl) | (decide) | omega | (unfold In64; omega) | (simp only [wrap_byte, Int.reduceToNat, Int.toNat_natCast, In64]; omega) | (simp only [maxLen, Fits, viewR, viewL, AV.view, List.length_map, List.length_append, List.length_cons, List.length_nil]; omega) | (simp [viewR, viewL, AV.view, ]; done) | skip)))
    all_goals (((try (conv => whnf)); refine ⟨[0, 1], rfl, rfl, ?_, ?_⟩); (repeat' (conv => whnf); (first | (with_reducible refine And.intro ?_ ?_) | (with_reducible exact True.intro) | (with_reducible exact Or.inl rfl) | (refine Vc.mk ?_; (first | (exact rfl) | (exact ⟨rfl, .inl rfl⟩) | omega | skip)))))
theorem szOf_succ {o : List (Int × Int)} {k : Nat} (h : k < o.length) : szOf (o.take (k + 1)) = if o[k].1 = 1 then o[k].2 else szOf (o.take k) := by
  unfold szOf
  rw [take_succ' h, List.foldl_append]; rfl
set_option maxHeartbeats 8000000 in
set_option maxRecDepth 100000 in
theorem lreq_ok (l : Lk) (h : l.ok 900) (p : Pk) (ho : p.o.length ≤ 8) : Fn Try.prog 57 [.box 0 0, pkAV p] (lkM l 0) (.err (reqE l p)) (lkM (reqL l p) 1) := by
  obtain ⟨c, i, o⟩ := p
  dsimp only at ho
  have hj := judge_ok l.ns l.nm o (by omega) h.nm0
  have hjc : (if rej o ≠ [] then (4 : Int) else if nak l.nm o ≠ [] then 3 else 2) = jcode l.nm o := rfl
  have hja : (if rej o ≠ [] then rej o else if nak l.nm o ≠ [] then nak l.nm o else o) = jans l.nm o := rfl
  rw [hjc, hja] at hj
  have hc2 : jcode l.nm o = 4 ∨ jcode l.nm o = 3 ∨ jcode l.nm o = 2 := by unfold jcode; split; · exact .inl rfl
                                                                          split; · exact .inr (.inl rfl)
                                                                          exact .inr (.inr rfl)
  have hal : (jans l.nm o).length ≤ 8 := by
    unfold jans
    split
    · exact Nat.le_trans (List.length_filter_le ..) ho
    · split
      · exact Nat.le_trans (List.length_filterMap_le ..) ho
      · exact ho
  have ht := tab h.st0 h.st9 (e := 6) (by decide) (by decide)
  by_cases hc : jcode l.nm o = 2
  · have hE : reqE l ⟨c, i, o⟩ = stepE l.st 6 := by unfold reqE; rw [if_pos hc]
    have hV : reqL l ⟨c, i, o⟩ = if stepE l.st 6 = 0 ∧ 6 ≤ (evtL l 6 i 2 (jans l.nm o)).st then { evtL l 6 i 2 (jans l.nm o) with sz := szOf o } else evtL l 6 i 2 (jans l.nm o) := by unfold reqL; rw [if_pos hc]
    have hev := levent_ok l h 6 (by decide) (by decide) c i 2 o (jans l.nm o) (by omega)
    rw [hE, hV]
    rw [hc] at hj
    generalize jans l.nm o = a at *
    generalize evtL l 6 i 2 a = q at *
    generalize stepE l.st 6 = E at *
    by_cases hq : E = 0 ∧ 6 ≤ q.st
    · rw [if_pos hq]
      obtain ⟨hE0, hq6⟩ := hq
      subst hE0
      unfold lkM lkC at *
      refine fn_of mixed [] [] Try.func57 rfl (by decide +kernel) Try.ntmps57 rfl (congrArg Array.toList Try.results57) rfl (by decide +kernel) ?_
      (iterate 2 all_goals (try (repeat' (conv => whnf); (first | (with_reducible refine And.intro ?_ ?_) | (with_reducible exact True.intro) | (intro h; (first | (cases h) | ((first | (simp only [vis, Int.reduceToNat] at h) | skip); (try (exfalso; omega))))) | (with_reducible refine Vc.mk ?_; fail) | (with_reducible refine cutG ?_; fail) | (refine idx_map ?_ ?_) | (refine idx_mapI ?_ ?_ ?_) ))))
      (all_goals (try ((first | (refine call0 (hj) ?_ ?_) | (refine pure0 (hj) rfl ?_ ?_)); (· (repeat' (conv => whnf); (first | (with_reducible refine And.intro ?_ ?_) | (with_reducible exact True.intro) | (with_reducible exact Or.inl rfl) | (refine Vc.mk ?_; (first | (exact rfl) | (exact ⟨rfl, .inl rfl⟩) | omega | skip))))); (iterate 2 all_goals (try (repeat' (conv => whnf); (first | (with_reducible refine And.intro ?_ ?_) | (with_reducible exact True.intro) | (intro h; (first | (cases h) | ((first | (simp only [vis, Int.reduceToNat] at h) | skip); (try (exfalso; omega))))) | (with_reducible refine Vc.mk ?_; fail) | (with_reducible refine cutG ?_; fail) | (refine idx_map ?_ ?_) | (refine idx_mapI ?_ ?_ ?_) )))))))
      all_goals (try omega)
      all_goals (try (refine Vc.mk ?_; (first | (exact rfl) | (decide) | omega | (unfold In64; omega) | (simp only [wrap_byte, Int.reduceToNat, Int.toNat_natCast, In64]; omega) | (simp only [maxLen, Fits, viewR, viewL, AV.view, List.length_map, List.length_append, List.length_cons, List.length_nil]; omega) | (simp [viewR, viewL, AV.view, ]; done) | skip)))
      all_goals ((refine ⟨_, _, _, _, [0, 1], hev, rfl, rfl, rfl, ?_, ?_, ?_⟩); (· (repeat' (conv => whnf); (first | (with_reducible refine And.intro ?_ ?_) | (with_reducible exact True.intro) | (with_reducible exact Or.inl rfl) | (refine Vc.mk ?_; (first | (exact rfl) | (exact ⟨rfl, .inl rfl⟩) | omega | skip))))); (· (repeat' (conv => whnf); (first | (with_reducible refine And.intro ?_ ?_) | (with_reducible exact True.intro) | (with_reducible exact Or.inl rfl) | (refine Vc.mk ?_; (first | (exact rfl) | (exact ⟨rfl, .inl rfl⟩) | omega | skip))))); (iterate 2 all_goals (try (repeat' (conv => whnf); (first | (with_reducible refine And.intro ?_ ?_) | (with_reducible exact True.intro) | (intro h; (first | (cases h) | ((first | (simp only [vis, Int.reduceToNat] at h) | skip); (try (exfalso; omega))))) | (with_reducible refine Vc.mk ?_; fail) | (with_reducible refine cutG ?_; fail) | (refine idx_map ?_ ?_) | (refine idx_mapI ?_ ?_ ?_) )))))
      all_goals (try omega)
      all_goals (try (refine Vc.mk ?_; (first | (exact rfl) | (decide) | omega | (unfold In64; omega) | (simp only [wrap_byte, Int.reduceToNat, Int.toNat_natCast, In64]; omega) | (simp only [maxLen, Fits, viewR, viewL, AV.view, List.length_map, List.length_append, List.length_cons, List.length_nil]; omega) | (simp [viewR, viewL, AV.view, ]; done) | skip)))
      refine lpG (fun k : Nat => ⟨[(0, .box 0 0), (7, .err 0), (45, .sl 2 (o.map opRow) none), (46, .v (.int .i64 o.length)), (47, .v (.int .i64 k))], [lkC { q with sz := szOf (o.take k) } 1 1, .grow 97 3 1]⟩) (fun k => k ≤ o.length) (fun k => o.length - k) 0 (by omega) (by unfold lkC; (refine le_sub [0, 1] rfl rfl ?_ ?_); all_goals ((repeat' (conv => whnf); (first | (with_reducible refine And.intro ?_ ?_) | (with_reducible exact True.intro) | (with_reducible exact Or.inl rfl) | (refine Vc.mk ?_; (first | (exact rfl) | (exact ⟨rfl, .inl rfl⟩) | omega | skip)))); all_goals (try first | rfl | (simp; done)))) ?_
      intro k hk
      unfold lkC
      by_cases hk' : k < o.length
      · have hS := szOf_succ hk'
        by_cases h1 : o[k].1 = 1
        · rw [if_pos h1] at hS
          (iterate 2 all_goals (try (repeat' (conv => whnf); (first | (with_reducible refine And.intro ?_ ?_) | (with_reducible exact True.intro) | (intro h; (first | (cases h) | ((first | (simp only [vis, Int.reduceToNat] at h) | skip); (try (exfalso; omega))))) | (with_reducible refine Vc.mk ?_; fail) | (with_reducible refine cutG ?_; fail) | (refine idx_map ?_ ?_) | (refine idx_mapI ?_ ?_ ?_) ))))
          all_goals (try omega)
          all_goals (try (refine Vc.mk ?_; (first | (exact rfl) | (decide) | omega | (unfold In64; omega) | (simp only [wrap_byte, Int.reduceToNat, Int.toNat_natCast, In64]; omega) | (simp only [maxLen, Fits, viewR, viewL, AV.view, List.length_map, List.length_append, List.length_cons, List.length_nil]; omega) | (simp [viewR, viewL, AV.view, ]; done) | skip)))
          all_goals (refine nextG (k + 1) (by omega) (by omega) (by rw [hS]; (refine le_sub [0, 1] rfl rfl ?_ ?_); all_goals ((repeat' (conv => whnf); (first | (with_reducible refine And.intro ?_ ?_) | (with_reducible exact True.intro) | (with_reducible exact Or.inl rfl) | (refine Vc.mk ?_; (first | (exact rfl) | (exact ⟨rfl, .inl rfl⟩) | omega | skip)))); all_goals (try rfl))))
        · rw [if_neg h1] at hS
          (iterate 2 all_goals (try (repeat' (conv => whnf); (first | (with_reducible refine And.intro ?_ ?_) | (with_reducible exact True.intro) | (intro h; (first | (cases h) | ((first | (simp only [vis, Int.reduceToNat] at h) | skip); (try (exfalso; omega))))) | (with_reducible refine Vc.mk ?_; fail) | (with_reducible refine cutG ?_; fail) | (refine idx_map ?_ ?_) | (refine idx_mapI ?_ ?_ ?_) ))))
          all_goals (try omega)
          all_goals (try (refine Vc.mk ?_; (first | (exact rfl) | (decide) | omega | (unfold In64; omega) | (simp only [wrap_byte, Int.reduceToNat, Int.toNat_natCast, In64]; omega) | (simp only [maxLen, Fits, viewR, viewL, AV.view, List.length_map, List.length_append, List.length_cons, List.length_nil]; omega) | (simp [viewR, viewL, AV.view, ]; done) | skip)))
          all_goals (refine nextG (k + 1) (by omega) (by omega) (by rw [hS]; (refine le_sub [0, 1] rfl rfl ?_ ?_); all_goals ((repeat' (conv => whnf); (first | (with_reducible refine And.intro ?_ ?_) | (with_reducible exact True.intro) | (with_reducible exact Or.inl rfl) | (refine Vc.mk ?_; (first | (exact rfl) | (exact ⟨rfl, .inl rfl⟩) | omega | skip)))); all_goals (try rfl))))
      · have ek : k = o.length := by omega
        subst ek
        rw [List.take_length]
        (iterate 2 all_goals (try (repeat' (conv => whnf); (first | (with_reducible refine And.intro ?_ ?_) | (with_reducible exact True.intro) | (intro h; (first | (cases h) | ((first | (simp only [vis, Int.reduceToNat] at h) | skip); (try (exfalso; omega))))) | (with_reducible refine Vc.mk ?_; fail) | (with_reducible refine cutG ?_; fail) | (refine idx_map ?_ ?_) | (refine idx_mapI ?_ ?_ ?_) ))))
        all_goals (try omega)
        all_goals (try (refine Vc.mk ?_; (first | (exact rfl) | (decide) | omega | (unfold In64; omega) | (simp only [wrap_byte, Int.reduceToNat, Int.toNat_natCast, In64]; omega) | (simp only [maxLen, Fits, viewR, viewL, AV.view, List.length_map, List.length_append, List.length_cons, List.length_nil]; omega) | (simp [viewR, viewL, AV.view, ]; done) | skip)))
        all_goals (((try (conv => whnf)); refine ⟨[0, 1], rfl, rfl, ?_, ?_⟩); (repeat' (conv => whnf); (first | (with_reducible refine And.intro ?_ ?_) | (with_reducible exact True.intro) | (with_reducible exact Or.inl rfl) | (refine Vc.mk ?_; (first | (exact rfl) | (exact ⟨rfl, .inl rfl⟩) | omega | skip)))))
    · rw [if_neg hq]
      unfold lkM lkC at *
      refine fn_of mixed [] [] Try.func57 rfl (by decide +kernel) Try.ntmps57 rfl (congrArg Array.toList Try.results57) rfl (by decide +kernel) ?_
      (iterate 2 all_goals (try (repeat' (conv => whnf); (first | (with_reducible refine And.intro ?_ ?_) | (with_reducible exact True.intro) | (intro h; (first | (cases h) | ((first | (simp only [vis, Int.reduceToNat] at h) | skip); (try (exfalso; omega))))) | (with_reducible refine Vc.mk ?_; fail) | (with_reducible refine cutG ?_; fail) | (refine idx_map ?_ ?_) | (refine idx_mapI ?_ ?_ ?_) ))))
      (all_goals (try ((first | (refine call0 (hj) ?_ ?_) | (refine pure0 (hj) rfl ?_ ?_)); (· (repeat' (conv => whnf); (first | (with_reducible refine And.intro ?_ ?_) | (with_reducible exact True.intro) | (with_reducible exact Or.inl rfl) | (refine Vc.mk ?_; (first | (exact rfl) | (exact ⟨rfl, .inl rfl⟩) | omega | skip))))); (iterate 2 all_goals (try (repeat' (conv => whnf); (first | (with_reducible refine And.intro ?_ ?_) | (with_reducible exact True.intro) | (intro h; (first | (cases h) | ((first | (simp only [vis, Int.reduceToNat] at h) | skip); (try (exfalso; omega))))) | (with_reducible refine Vc.mk ?_; fail) | (with_reducible refine cutG ?_; fail) | (refine idx_map ?_ ?_) | (refine idx_mapI ?_ ?_ ?_) )))))))
      all_goals (try omega)
      all_goals (try (refine Vc.mk ?_; (first | (exact rfl) | (decide) | omega | (unfold In64; omega) | (simp only [wrap_byte, Int.reduceToNat, Int.toNat_natCast, In64]; omega) | (simp only [maxLen, Fits, viewR, viewL, AV.view, List.length_map, List.length_append, List.length_cons, List.length_nil]; omega) | (simp [viewR, viewL, AV.view, ]; done) | skip)))
      all_goals ((refine ⟨_, _, _, _, [0, 1], hev, rfl, rfl, rfl, ?_, ?_, ?_⟩); (· (repeat' (conv => whnf); (first | (with_reducible refine And.intro ?_ ?_) | (with_reducible exact True.intro) | (with_reducible exact Or.inl rfl) | (refine Vc.mk ?_; (first | (exact rfl) | (exact ⟨rfl, .inl rfl⟩) | omega | skip))))); (· (repeat' (conv => whnf); (first | (with_reducible refine And.intro ?_ ?_) | (with_reducible exact True.intro) | (with_reducible exact Or.inl rfl) | (refine Vc.mk ?_; (first | (exact rfl) | (exact ⟨rfl, .inl rfl⟩) | omega | skip))))); (iterate 2 all_goals (try (repeat' (conv => whnf); (first | (with_reducible refine And.intro ?_ ?_) | (with_reducible exact True.intro) | (intro h; (first | (cases h) | ((first | (simp only [vis, Int.reduceToNat] at h) | skip); (try (exfalso; omega))))) | (with_reducible refine Vc.mk ?_; fail) | (with_reducible refine cutG ?_; fail) | (refine idx_map ?_ ?_) | (refine idx_mapI ?_ ?_ ?_) )))))
      all_goals (try omega)
      all_goals (try (refine Vc.mk ?_; (first | (exact rfl) | (decide) | omega | (unfold In64; omega) | (simp only [wrap_byte, Int.reduceToNat, Int.toNat_natCast, In64]; omega) | (simp only [maxLen, Fits, viewR, viewL, AV.view, List.length_map, List.length_append, List.length_cons, List.length_nil]; omega) | (simp [viewR, viewL, AV.view, ]; done) | skip)))
      all_goals (((try (conv => whnf)); refine ⟨[0, 1], rfl, rfl, ?_, ?_⟩); (repeat' (conv => whnf); (first | (with_reducible refine And.intro ?_ ?_) | (with_reducible exact True.intro) | (with_reducible exact Or.inl rfl) | (refine Vc.mk ?_; (first | (exact rfl) | (exact ⟨rfl, .inl rfl⟩) | omega | skip)))))
  · have hE : reqE l ⟨c, i, o⟩ = stepE l.st 7 := by unfold reqE; rw [if_neg hc]
    have hV : reqL l ⟨c, i, o⟩ = evtL l 7 i (jcode l.nm o) (jans l.nm o) := by unfold reqL; rw [if_neg hc]
    have hev := levent_ok l h 7 (by decide) (by decide) c i (jcode l.nm o) o (jans l.nm o) (by omega)
    rw [hE, hV]
    generalize jans l.nm o = a at *
    generalize jcode l.nm o = jc at *
    generalize evtL l 7 i jc a = q at *
    unfold lkM lkC at *
    refine fn_of mixed [] [] Try.func57 rfl (by decide +kernel) Try.ntmps57 rfl (congrArg Array.toList Try.results57) rfl (by decide +kernel) ?_
    (iterate 2 all_goals (try (repeat' (conv => whnf); (first | (with_reducible refine And.intro ?_ ?_) | (with_reducible exact True.intro) | (intro h; (first | (cases h) | ((first | (simp only [vis, Int.reduceToNat] at h) | skip); (try (exfalso; omega))))) | (with_reducible refine Vc.mk ?_; fail) | (with_reducible refine cutG ?_; fail) | (refine idx_map ?_ ?_) | (refine idx_mapI ?_ ?_ ?_) ))))
    (all_goals (try ((first | (refine call0 (hj) ?_ ?_) | (refine pure0 (hj) rfl ?_ ?_)); (· (repeat' (conv => whnf); (first | (with_reducible refine And.intro ?_ ?_) | (with_reducible exact True.intro) | (with_reducible exact Or.inl rfl) | (refine Vc.mk ?_; (first | (exact rfl) | (exact ⟨rfl, .inl rfl⟩) | omega | skip))))); (iterate 2 all_goals (try (repeat' (conv => whnf); (first | (with_reducible refine And.intro ?_ ?_) | (with_reducible exact True.intro) | (intro h; (first | (cases h) | ((first | (simp only [vis, Int.reduceToNat] at h) | skip); (try (exfalso; omega))))) | (with_reducible refine Vc.mk ?_; fail) | (with_reducible refine cutG ?_; fail) | (refine idx_map ?_ ?_) | (refine idx_mapI ?_ ?_ ?_) )))))))
    all_goals (try omega)
    all_goals (try (refine Vc.mk ?_; (first | (exact rfl) | (decide) | omega | (unfold In64; omega) | (simp only [wrap_byte, Int.reduceToNat, Int.toNat_natCast, In64]; omega) | (simp only [maxLen, Fits, viewR, viewL, AV.view, List.length_map, List.length_append, List.length_cons, List.length_nil]; omega) | (simp [viewR, viewL, AV.view, ]; done) | skip)))
    all_goals ((refine ⟨_, _, _, _, [0, 1], hev, rfl, rfl, rfl, ?_, ?_, ?_⟩); (· (repeat' (conv => whnf); (first | (with_reducible refine And.intro ?_ ?_) | (with_reducible exact True.intro) | (with_reducible exact Or.inl rfl) | (refine Vc.mk ?_; (first | (exact rfl) | (exact ⟨rfl, .inl rfl⟩) | omega | skip))))); (· (repeat' (conv => whnf); (first | (with_reducible refine And.intro ?_ ?_) | (with_reducible exact True.intro) | (with_reducible exact Or.inl rfl) | (refine Vc.mk ?_; (first | (exact rfl) | (exact ⟨rfl, .inl rfl⟩) | omega | skip))))); (iterate 2 all_goals (try (repeat' (conv => whnf); (first | (with_reducible refine And.intro ?_ ?_) | (with_reducible exact True.intro) | (intro h; (first | (cases h) | ((first | (simp only [vis, Int.reduceToNat] at h) | skip); (try (exfalso; omega))))) | (with_reducible refine Vc.mk ?_; fail) | (with_reducible refine cutG ?_; fail) | (refine idx_map ?_ ?_) | (refine idx_mapI ?_ ?_ ?_) )))))
    all_goals (try omega)
    all_goals (try (refine Vc.mk ?_; (first | (exact rfl) | (decide) | omega | (unfold In64; omega) | (simp only [wrap_byte, Int.reduceToNat, Int.toNat_natCast, In64]; omega) | (simp only [maxLen, Fits, viewR, viewL, AV.view, List.length_map, List.length_append, List.length_cons, List.length_nil]; omega) | (simp [viewR, viewL, AV.view, ]; done) | skip)))
    all_goals (((try (conv => whnf)); refine ⟨[0, 1], rfl, rfl, ?_, ?_⟩); (repeat' (conv => whnf); (first | (with_reducible refine And.intro ?_ ?_) | (with_reducible exact True.intro) | (with_reducible exact Or.inl rfl) | (refine Vc.mk ?_; (first | (exact rfl) | (exact ⟨rfl, .inl rfl⟩) | omega | skip)))))
end Go.Proofs.Ytimfnpjcedjmiac
