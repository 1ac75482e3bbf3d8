/-
  The reference's hops; few states that may be.
-/
import Derived.Test.YtimfnpjcedjmiaaMWd
import Derived.Test.YtimfnpjcedjmiaaMWb0
import Derived.Test.YtimfnpjcedjmiaaMSt
import Derived.Test.YtimfnpjcedjmiaaGF
namespace Go.Proofs.Ytimfnpjcedjmiaa
open Go.RowKit
set_option linter.unusedSimpArgs false
set_option linter.unusedVariables false
def routA (b : Int → Hp) (out : List Hp) (n : Int) : AS := ⟨[(5, .box 0 0), (7, .sl 3 (out.map hRow) (some (1, 1))), (8, .v (.int .i64 n))], [.cells (bstC b), .grow 78 3 1]⟩
set_option maxHeartbeats 64000000 in
set_option maxRecDepth 100000 in
theorem rout_round (b : Int → Hp) (out : List Hp) (hout : out.length ≤ 6) (n : Int) (h1 : 1 ≤ n) (h6 : n ≤ 6) (K : AS → Prop) (X : Nat → AS → Prop) (R : AS → Prop)
    (hk : ∀ A, AS.le 0 A (routA b (out ++ (if 0 < (b n).1 then [b n] else [])) (n + 1)) → K A) :
    vawp Try.prog [] 0 [] (nthLoop Try.f44 0) K X R (routA b out n) := by
  by_cases hc : 0 < (b n).1
  · rw [if_pos hc] at hk
    refine or6 (by omega : n = 1 ∨ n = 2 ∨ n = 3 ∨ n = 4 ∨ n = 5 ∨ n = 6) (fun en => ?_) (fun en => ?_) (fun en => ?_) (fun en => ?_) (fun en => ?_) (fun en => ?_)
    all_goals
      subst en
      ((repeat' (conv => whnf); (first | (with_reducible refine And.intro ?_ ?_) | (with_reducible exact True.intro) | (intro h; (first | (cases h) | ((first | (simp only [wrap_byte, Int.reduceToNat, Int.toNat_natCast, not_true_eq_false, neg_tt, neg_ff, neg_t, neg_f, decide_eq_true_eq, decide_eq_false_iff_not, beq_iff_eq, beq_eq_false_iff_ne, bne_iff_ne, bne_eq_false_iff_eq, Bool.not_eq_true', Bool.not_eq_false', ne_eq, Classical.not_not, Int.not_lt, Int.not_le, List.length_map] at h) | skip); (try (exfalso; omega))))) | (with_reducible refine Vc.mk ?_; fail) | (with_reducible refine cutG ?_; fail) | (refine idx_map ?_ ?_) | (refine idx_mapI ?_ ?_ ?_) | (refine StopAt.mk (by decide) (by decide) ?_)));(all_goals (try (repeat' (conv => whnf); (first | (with_reducible refine And.intro ?_ ?_) | (with_reducible exact True.intro) | (intro h; (first | (cases h) | ((first | (simp only [wrap_byte, Int.reduceToNat, Int.toNat_natCast, not_true_eq_false, neg_tt, neg_ff, neg_t, neg_f, decide_eq_true_eq, decide_eq_false_iff_not, beq_iff_eq, beq_eq_false_iff_ne, bne_iff_ne, bne_eq_false_iff_eq, Bool.not_eq_true', Bool.not_eq_false', ne_eq, Classical.not_not, Int.not_lt, Int.not_le, List.length_map] at h) | skip); (try (exfalso; omega))))) | (with_reducible refine Vc.mk ?_; fail) | (with_reducible refine cutG ?_; fail) | (refine idx_map ?_ ?_) | (refine idx_mapI ?_ ?_ ?_) | (refine StopAt.mk (by decide) (by decide) ?_))))))
      all_goals (try omega)
      all_goals (try (refine Vc.mk ?_; (first | (exact rfl) | (decide) | omega | (unfold In64; omega) | (simp only [wrap_byte, Int.reduceToNat, Int.toNat_natCast, In64]; omega) | (simp only [maxLen, Fits, viewR, viewL, AV.view, List.length_map, List.length_append, List.length_cons, List.length_nil]; omega) | (simp [viewR, viewL, AV.view, ]; done) | skip)))
      all_goals (refine hk _ ?_; (refine le_sub [0, 1] rfl rfl ?_ ?_); all_goals ((repeat' (conv => whnf); (first | (with_reducible refine And.intro ?_ ?_) | (with_reducible exact True.intro) | (with_reducible exact Or.inl rfl) | (refine Vc.mk ?_; (first | (exact rfl) | (exact ⟨rfl, .inl rfl⟩) | omega | skip)))); all_goals (try first | rfl | (simp [hRow, viewR, viewL, AV.view]; done))))
  · rw [if_neg hc] at hk
    refine or6 (by omega : n = 1 ∨ n = 2 ∨ n = 3 ∨ n = 4 ∨ n = 5 ∨ n = 6) (fun en => ?_) (fun en => ?_) (fun en => ?_) (fun en => ?_) (fun en => ?_) (fun en => ?_)
    all_goals
      subst en
      ((repeat' (conv => whnf); (first | (with_reducible refine And.intro ?_ ?_) | (with_reducible exact True.intro) | (intro h; (first | (cases h) | ((first | (simp only [wrap_byte, Int.reduceToNat, Int.toNat_natCast, not_true_eq_false, neg_tt, neg_ff, neg_t, neg_f, decide_eq_true_eq, decide_eq_false_iff_not, beq_iff_eq, beq_eq_false_iff_ne, bne_iff_ne, bne_eq_false_iff_eq, Bool.not_eq_true', Bool.not_eq_false', ne_eq, Classical.not_not, Int.not_lt, Int.not_le, List.length_map] at h) | skip); (try (exfalso; omega))))) | (with_reducible refine Vc.mk ?_; fail) | (with_reducible refine cutG ?_; fail) | (refine idx_map ?_ ?_) | (refine idx_mapI ?_ ?_ ?_) | (refine StopAt.mk (by decide) (by decide) ?_)));(all_goals (try (repeat' (conv => whnf); (first | (with_reducible refine And.intro ?_ ?_) | (with_reducible exact True.intro) | (intro h; (first | (cases h) | ((first | (simp only [wrap_byte, Int.reduceToNat, Int.toNat_natCast, not_true_eq_false, neg_tt, neg_ff, neg_t, neg_f, decide_eq_true_eq, decide_eq_false_iff_not, beq_iff_eq, beq_eq_false_iff_ne, bne_iff_ne, bne_eq_false_iff_eq, Bool.not_eq_true', Bool.not_eq_false', ne_eq, Classical.not_not, Int.not_lt, Int.not_le, List.length_map] at h) | skip); (try (exfalso; omega))))) | (with_reducible refine Vc.mk ?_; fail) | (with_reducible refine cutG ?_; fail) | (refine idx_map ?_ ?_) | (refine idx_mapI ?_ ?_ ?_) | (refine StopAt.mk (by decide) (by decide) ?_))))))
      all_goals (try omega)
      all_goals (try (refine Vc.mk ?_; (first | (exact rfl) | (decide) | omega | (unfold In64; omega) | (simp only [wrap_byte, Int.reduceToNat, Int.toNat_natCast, In64]; omega) | (simp only [maxLen, Fits, viewR, viewL, AV.view, List.length_map, List.length_append, List.length_cons, List.length_nil]; omega) | (simp [viewR, viewL, AV.view, ]; done) | skip)))
      all_goals (refine hk _ ?_; (refine le_sub [0, 1] rfl rfl ?_ ?_); all_goals ((repeat' (conv => whnf); (first | (with_reducible refine And.intro ?_ ?_) | (with_reducible exact True.intro) | (with_reducible exact Or.inl rfl) | (refine Vc.mk ?_; (first | (exact rfl) | (exact ⟨rfl, .inl rfl⟩) | omega | skip)))); all_goals (try first | rfl | (simp; done))))
set_option maxHeartbeats 64000000 in
set_option maxRecDepth 100000 in
theorem rhops_ok (l : List St3) (r : Int) (hl : smallL l) (hM : MOk (met l)) : Fn Try.prog 44 [.sl 3 (l.map stRow) none, .v (.int .i64 r)] [] (.sl 3 ((hopsR l r).map hRow) none) [] := by
  by_cases hr : 1 ≤ r ∧ r ≤ 6
  · have hR : hopsR l r = hopsM (met l) r := by unfold hopsR; rw [if_pos hr]
    rw [hR]
    have hw := walk_ok l hl hM 6 r 0 0 (beenL []) (fun _ => (0, 0, 0)) hr rfl (by decide) (by decide) (by decide)
    have hhop := fun n hn => wkN_hop (M := met l) (r := r) (n := n) hM hr hn _ rfl
    have hsucc : ∀ k, hopsTo (met l) r (k + 1) = hopsTo (met l) r k ++ hopAt (met l) r ((k : Int) + 1) := fun k => rfl
    have hlen := hopsTo_len (met l) r
    generalize wkN (met l) 6 r 0 0 (beenL []) (fun _ => (0, 0, 0)) = b at *
    have hex : ∃ o2 d2 y2 z2, (.seq (.seq (.region 8 o2 d2) y2) z2 : Code) = nthLoop Try.f44 0 ∧ Try.f44.body = some (reb [(8, .seq (.seq (.region 8 o2 d2) y2) z2)] (bodyOf Try.f44)) := ⟨_, _, _, _, rfl, by kernel_rfl⟩
    refine Exists.elim hex fun o2 hex => Exists.elim hex fun d2 hex => Exists.elim hex fun y2 hex => Exists.elim hex fun z2 hex => ?_
    have hc2 := hex.1
    have hcb := hex.2
    clear hex
    refine fn_of mixed [] [] Try.func44 (hcb) (by decide +kernel) Try.ntmps44 rfl (congrArg Array.toList Try.results44) rfl (named_ok (hcb) (by decide +kernel)) ?_
    ((repeat' (conv => whnf); (first | (with_reducible refine And.intro ?_ ?_) | (with_reducible exact True.intro) | (intro h; (first | (cases h) | ((first | (simp only [wrap_byte, Int.reduceToNat, Int.toNat_natCast, not_true_eq_false, neg_tt, neg_ff, neg_t, neg_f, decide_eq_true_eq, decide_eq_false_iff_not, beq_iff_eq, beq_eq_false_iff_ne, bne_iff_ne, bne_eq_false_iff_eq, Bool.not_eq_true', Bool.not_eq_false', ne_eq, Classical.not_not, Int.not_lt, Int.not_le, List.length_map] at h) | skip); (try (exfalso; omega))))) | (with_reducible refine Vc.mk ?_; fail) | (with_reducible refine cutG ?_; fail) | (refine idx_map ?_ ?_) | (refine idx_mapI ?_ ?_ ?_) ));(all_goals (try (repeat' (conv => whnf); (first | (with_reducible refine And.intro ?_ ?_) | (with_reducible exact True.intro) | (intro h; (first | (cases h) | ((first | (simp only [wrap_byte, Int.reduceToNat, Int.toNat_natCast, not_true_eq_false, neg_tt, neg_ff, neg_t, neg_f, decide_eq_true_eq, decide_eq_false_iff_not, beq_iff_eq, beq_eq_false_iff_ne, bne_iff_ne, bne_eq_false_iff_eq, Bool.not_eq_true', Bool.not_eq_false', ne_eq, Classical.not_not, Int.not_lt, Int.not_le, List.length_map] at h) | skip); (try (exfalso; omega))))) | (with_reducible refine Vc.mk ?_; fail) | (with_reducible refine cutG ?_; fail) | (refine idx_map ?_ ?_) | (refine idx_mapI ?_ ?_ ?_) )))))
    all_goals (try omega)
    (refine ⟨_, _, _, _, [0], hw, rfl, rfl, rfl, ?_, ?_, ?_⟩)
    · (repeat' (conv => whnf); (first | (with_reducible refine And.intro ?_ ?_) | (with_reducible exact True.intro) | (with_reducible exact Or.inl rfl) | (refine Vc.mk ?_; (first | (exact rfl) | (exact ⟨rfl, .inl rfl⟩) | omega | skip))))
      all_goals rfl
    · (repeat' (conv => whnf); (first | (with_reducible refine And.intro ?_ ?_) | (with_reducible exact True.intro) | (with_reducible exact Or.inl rfl) | (refine Vc.mk ?_; (first | (exact rfl) | (exact ⟨rfl, .inl rfl⟩) | omega | skip))))
      all_goals rfl
    ((repeat' (conv => whnf); (first | (with_reducible refine And.intro ?_ ?_) | (with_reducible exact True.intro) | (intro h; (first | (cases h) | ((first | (simp only [wrap_byte, Int.reduceToNat, Int.toNat_natCast, not_true_eq_false, neg_tt, neg_ff, neg_t, neg_f, decide_eq_true_eq, decide_eq_false_iff_not, beq_iff_eq, beq_eq_false_iff_ne, bne_iff_ne, bne_eq_false_iff_eq, Bool.not_eq_true', Bool.not_eq_false', ne_eq, Classical.not_not, Int.not_lt, Int.not_le, List.length_map] at h) | skip); (try (exfalso; omega))))) | (with_reducible refine Vc.mk ?_; fail) | (with_reducible refine cutG ?_; fail) | (refine idx_map ?_ ?_) | (refine idx_mapI ?_ ?_ ?_) ));(all_goals (try (repeat' (conv => whnf); (first | (with_reducible refine And.intro ?_ ?_) | (with_reducible exact True.intro) | (intro h; (first | (cases h) | ((first | (simp only [wrap_byte, Int.reduceToNat, Int.toNat_natCast, not_true_eq_false, neg_tt, neg_ff, neg_t, neg_f, decide_eq_true_eq, decide_eq_false_iff_not, beq_iff_eq, beq_eq_false_iff_ne, bne_iff_ne, bne_eq_false_iff_eq, Bool.not_eq_true', Bool.not_eq_false', ne_eq, Classical.not_not, Int.not_lt, Int.not_le, List.length_map] at h) | skip); (try (exfalso; omega))))) | (with_reducible refine Vc.mk ?_; fail) | (with_reducible refine cutG ?_; fail) | (refine idx_map ?_ ?_) | (refine idx_mapI ?_ ?_ ?_) )))))
    refine lpG (fun k : Nat => routA b (hopsTo (met l) r k) ((k : Int) + 1)) (fun k => k ≤ 6) (fun k => 6 - k) 0 (by omega) (by
      refine AS.le_trans (le_nil 7 78 3 rfl) ?_
      (refine le_sub [0, 2] rfl rfl ?_ ?_); all_goals ((repeat' (conv => whnf); (first | (with_reducible refine And.intro ?_ ?_) | (with_reducible exact True.intro) | (with_reducible exact Or.inl rfl) | (refine Vc.mk ?_; (first | (exact rfl) | (exact ⟨rfl, .inl rfl⟩) | omega | skip)))); all_goals (try rfl))) ?_
    rintro k hk
    by_cases hk6 : k < 6
    · have hS := hsucc k
      rw [hhop _ ⟨by omega, by omega⟩] at hS
      have hl2 := hlen k
      refine vawp_as (P := Try.prog) (mt := []) (cuts := []) hc2 (rout_round b (hopsTo (met l) r k) (by omega) ((k : Int) + 1) (by omega) (by omega) _ _ _ ?_)
      intro A hle
      exact nextG (k + 1) (by omega) (by omega) (by rw [hS]; exact hle)
    · have ek : k = 6 := by omega
      subst ek
      refine vawp_as (P := Try.prog) (mt := []) (cuts := []) hc2 ?_
      ((repeat' (conv => whnf); (first | (with_reducible refine And.intro ?_ ?_) | (with_reducible exact True.intro) | (intro h; (first | (cases h) | ((first | (simp only [wrap_byte, Int.reduceToNat, Int.toNat_natCast, not_true_eq_false, neg_tt, neg_ff, neg_t, neg_f, decide_eq_true_eq, decide_eq_false_iff_not, beq_iff_eq, beq_eq_false_iff_ne, bne_iff_ne, bne_eq_false_iff_eq, Bool.not_eq_true', Bool.not_eq_false', ne_eq, Classical.not_not, Int.not_lt, Int.not_le, List.length_map] at h) | skip); (try (exfalso; omega))))) | (with_reducible refine Vc.mk ?_; fail) | (with_reducible refine cutG ?_; fail) | (refine idx_map ?_ ?_) | (refine idx_mapI ?_ ?_ ?_) ));(all_goals (try (repeat' (conv => whnf); (first | (with_reducible refine And.intro ?_ ?_) | (with_reducible exact True.intro) | (intro h; (first | (cases h) | ((first | (simp only [wrap_byte, Int.reduceToNat, Int.toNat_natCast, not_true_eq_false, neg_tt, neg_ff, neg_t, neg_f, decide_eq_true_eq, decide_eq_false_iff_not, beq_iff_eq, beq_eq_false_iff_ne, bne_iff_ne, bne_eq_false_iff_eq, Bool.not_eq_true', Bool.not_eq_false', ne_eq, Classical.not_not, Int.not_lt, Int.not_le, List.length_map] at h) | skip); (try (exfalso; omega))))) | (with_reducible refine Vc.mk ?_; fail) | (with_reducible refine cutG ?_; fail) | (refine idx_map ?_ ?_) | (refine idx_mapI ?_ ?_ ?_) )))))
      all_goals (try omega)
      ((try (conv => whnf)); refine ⟨[], rfl, rfl, ?_, ?_⟩); (repeat' (conv => whnf); (first | (with_reducible refine And.intro ?_ ?_) | (with_reducible exact True.intro) | (with_reducible exact Or.inl rfl) | (refine Vc.mk ?_; (first | (exact rfl) | (exact ⟨rfl, .inl rfl⟩) | omega | skip))))
      all_goals rfl
  · have hR : hopsR l r = [] := by unfold hopsR; rw [if_neg hr]
    rw [hR]
    refine fn_of mixed [] [] Try.func44 rfl (by decide +kernel) Try.ntmps44 rfl (congrArg Array.toList Try.results44) rfl (by decide +kernel) ?_
    ((repeat' (conv => whnf); (first | (with_reducible refine And.intro ?_ ?_) | (with_reducible exact True.intro) | (intro h; (first | (cases h) | ((first | (simp only [wrap_byte, Int.reduceToNat, Int.toNat_natCast, not_true_eq_false, neg_tt, neg_ff, neg_t, neg_f, decide_eq_true_eq, decide_eq_false_iff_not, beq_iff_eq, beq_eq_false_iff_ne, bne_iff_ne, bne_eq_false_iff_eq, Bool.not_eq_true', Bool.not_eq_false', ne_eq, Classical.not_not, Int.not_lt, Int.not_le, List.length_map] at h) | skip); (try (exfalso; omega))))) | (with_reducible refine Vc.mk ?_; fail) | (with_reducible refine cutG ?_; fail) | (refine idx_map ?_ ?_) | (refine idx_mapI ?_ ?_ ?_) ));(all_goals (try (repeat' (conv => whnf); (first | (with_reducible refine And.intro ?_ ?_) | (with_reducible exact True.intro) | (intro h; (first | (cases h) | ((first | (simp only [wrap_byte, Int.reduceToNat, Int.toNat_natCast, not_true_eq_false, neg_tt, neg_ff, neg_t, neg_f, decide_eq_true_eq, decide_eq_false_iff_not, beq_iff_eq, beq_eq_false_iff_ne, bne_iff_ne, bne_eq_false_iff_eq, Bool.not_eq_true', Bool.not_eq_false', ne_eq, Classical.not_not, Int.not_lt, Int.not_le, List.length_map] at h) | skip); (try (exfalso; omega))))) | (with_reducible refine Vc.mk ?_; fail) | (with_reducible refine cutG ?_; fail) | (refine idx_map ?_ ?_) | (refine idx_mapI ?_ ?_ ?_) )))))
    all_goals (try omega)
    all_goals (((try (conv => whnf)); refine ⟨[], rfl, rfl, ?_, ?_⟩); (repeat' (conv => whnf); (first | (with_reducible refine And.intro ?_ ?_) | (with_reducible exact True.intro) | (with_reducible exact Or.inl rfl) | (refine Vc.mk ?_; (first | (exact rfl) | (exact ⟨rfl, .inl rfl⟩) | omega | skip)))))
end Go.Proofs.Ytimfnpjcedjmiaa
