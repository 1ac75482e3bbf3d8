/-
  The reference's base of states.
-/
import Derived.Test.YtimfnpjcedjmiaaLFl
import Derived.Test.YtimfnpjcedjmiaaMFl2
import Derived.Test.YtimfnpjcedjmiaaGQ
namespace Go.Proofs.Ytimfnpjcedjmiaa
open Go.RowKit
set_option linter.unusedSimpArgs false
set_option linter.unusedVariables false
def owC (o : Int → Bool) : List AV := [.v (.bool (o 0)), .v (.bool (o 1)), .v (.bool (o 2)), .v (.bool (o 3)), .v (.bool (o 4)), .v (.bool (o 5)), .v (.bool (o 6))]
def knC (kn : Int → Option St3) (x : AV) : List AV := [
  .v (.int .i64 (stO (kn 0)).1), .v (.int .i64 (stO (kn 0)).2.1), .sl 2 ((stO (kn 0)).2.2.map opRow) none,
  .v (.int .i64 (stO (kn 1)).1), .v (.int .i64 (stO (kn 1)).2.1), .sl 2 ((stO (kn 1)).2.2.map opRow) none,
  .v (.int .i64 (stO (kn 2)).1), .v (.int .i64 (stO (kn 2)).2.1), .sl 2 ((stO (kn 2)).2.2.map opRow) none,
  .v (.int .i64 (stO (kn 3)).1), .v (.int .i64 (stO (kn 3)).2.1), .sl 2 ((stO (kn 3)).2.2.map opRow) none,
  .v (.int .i64 (stO (kn 4)).1), .v (.int .i64 (stO (kn 4)).2.1), .sl 2 ((stO (kn 4)).2.2.map opRow) none,
  .v (.int .i64 (stO (kn 5)).1), .v (.int .i64 (stO (kn 5)).2.1), .sl 2 ((stO (kn 5)).2.2.map opRow) none,
  .v (.int .i64 (stO (kn 6)).1), .v (.int .i64 (stO (kn 6)).2.1), .sl 2 ((stO (kn 6)).2.2.map opRow) none, x]
/-- What the reference's base holds. -/
def rbL (kn : Int → Option St3) : List (Int → Bool) → List Res
  | [a] => [.cells (knC kn (.arr 1 0 1)), .arr true 170 7 0 [owC a]]
  | [a, b] => [.cells (knC kn (.arr 1 0 2)), .arr true 170 7 0 [owC a, owC b]]
  | [a, b, c] => [.cells (knC kn (.arr 1 0 3)), .arr true 170 7 0 [owC a, owC b, owC c]]
  | _ => []
def rbM (b : Ba) : List Res := rbL b.kn b.ow
/-- What is known of a router's state. -/
structure SeqOk (o : Option St3) : Prop where
  pos : 0 < (stO o).2.1 ↔ o.isSome = true
  nn : 0 ≤ (stO o).2.1
  len : (stO o).2.2.length ≤ 1000000
  edg : edgOk (stO o).2.2
theorem edgOk_sf {s : St3} (h : sf s = 0) : edgOk s.2.2 := fun i hi => (sfault_good (show sfault s.1 s.2.1 s.2.2 = 0 from h)).2.2.2.2.2 _ (List.getElem_mem hi)
theorem seqOk {kn : Int → Option St3} (h : ∀ n s, kn n = some s → s.1 = n ∧ sf s = 0) (n : Int) : SeqOk (kn n) := by
  cases hk : kn n with
  | none => exact ⟨by simp [stO], by simp [stO], by simp [stO], fun i hi => by simp [stO] at hi⟩
  | some s =>
    have hs := (h n s hk).2
    have hg := sfault_good (show sfault s.1 s.2.1 s.2.2 = 0 from hs)
    exact ⟨by simp [stO]; omega, by simp [stO]; omega, by simp only [stO, Option.getD_some]; omega, edgOk_sf hs⟩
theorem or6s {q : Int} (h1 : 1 ≤ q) (h6 : q ≤ 6) {p : Int → Prop} (c1 : p 1) (c2 : p 2) (c3 : p 3) (c4 : p 4) (c5 : p 5) (c6 : p 6) : p q := by
  rcases (by omega : q = 1 ∨ q = 2 ∨ q = 3 ∨ q = 4 ∨ q = 5 ∨ q = 6) with rfl | rfl | rfl | rfl | rfl | rfl <;> assumption
def rsetA (kn : Int → Option St3) (ow : List (Int → Bool)) (g : Int) (l : List (Int × Int)) (n : Nat) (q : Int) (k : Nat) : AS := ⟨[(0, .box 0 0), (3, .box 2 0), (6, .v (.int .i64 k))], rbL (upI kn q (some (q, g, l))) (allK ow 0 q (-1) k) ++ [.cells (stRow (q, g, l))]⟩
set_option maxHeartbeats 16000000 in
set_option maxRecDepth 100000 in
theorem rbset_ok (kn : Int → Option St3) (ow : List (Int → Bool)) (h1 : 1 ≤ ow.length) (h3 : ow.length ≤ 3) (s : St3) : Fn Try.prog 75 [.box 0 0, .agg (stRow s)] (rbL kn ow) (.v (.int .i64 (sf s))) (rbM (setB ⟨kn, ow⟩ s)) := by
  obtain ⟨q, g, l⟩ := s
  have hck := rsfault_ok q g l
  have hsf : sf (q, g, l) = sfault q g l := rfl
  have hnn := sfault_nonneg q g l
  by_cases h0 : sfault q g l = 0
  · have hV : setB ⟨kn, ow⟩ (q, g, l) = ⟨upI kn q (some (q, g, l)), allW ow 0 q (-1)⟩ := if_pos h0
    have hg := sfault_good h0
    rw [hV, hsf, h0]
    rw [h0] at hck
    clear hV hsf h0 hnn
    have hq1 := hg.1
    have hq6 := hg.2.1
    clear hg
    revert hck
    refine or6s (p := fun q => Fn Try.prog 61 [.agg [.v (.int .i64 q), .v (.int .i64 g), .sl 2 (l.map opRow) none]] [] (.v (.int .i64 0)) [] → Fn Try.prog 75 [.box 0 0, .agg (stRow (q, g, l))] (rbL kn ow) (.v (.int .i64 0)) (rbM ⟨upI kn q (some (q, g, l)), allW ow 0 q (-1)⟩)) hq1 hq6 (fun hck => ?_) (fun hck => ?_) (fun hck => ?_) (fun hck => ?_) (fun hck => ?_) (fun hck => ?_)
    all_goals (refine np3 (p := fun ow => Fn Try.prog 75 [.box 0 0, .agg (stRow (_, g, l))] (rbL kn ow) (.v (.int .i64 0)) (rbM ⟨upI kn _ (some (_, g, l)), allW ow 0 _ (-1)⟩)) h1 h3 (fun a => ?_) (fun a b => ?_) (fun a b c => ?_))
    all_goals
      unfold stRow
      dsimp only
      refine fn_of mixed [] [] Try.func75 rfl (by decide +kernel) Try.ntmps75 rfl (congrArg Array.toList Try.results75) rfl (by decide +kernel) ?_
      ((iterate 2 all_goals (try (repeat' (conv => whnf); (first | with_reducible refine And.intro ?_ ?_ | with_reducible exact True.intro | (intro h; (first | cases h | ((try simp only [vis, Int.reduceToNat] at h); (try (exfalso; omega))))) | (with_reducible refine Vc.mk ?_; fail) | (with_reducible refine cutG ?_; fail) | refine idx_map ?_ ?_ | refine idx_mapI ?_ ?_ ?_ | (refine StopAt.mk (by decide) (by decide) ?_) | (refine StopRow.mk _ rfl ?_))))); (all_goals (try omega)); (all_goals (try ((first | with_reducible refine Vc.mk ?_ | refine Vc.mk ?_); (try exact GLt)))); (all_goals (try (exact ⟨by decide, by decide⟩))))
      (all_goals (try ((first | (refine call0 (hck) ?_ ?_) | (refine pure0 (hck) rfl ?_ ?_)); (· (repeat' (conv => whnf); (first | with_reducible refine And.intro ?_ ?_ | with_reducible exact True.intro | with_reducible exact Or.inl rfl | (refine Vc.mk ?_; (first | exact rfl | exact ⟨rfl, .inl rfl⟩ | omega | skip))))); (iterate 2 all_goals (try (repeat' (conv => whnf); (first | with_reducible refine And.intro ?_ ?_ | with_reducible exact True.intro | (intro h; (first | cases h | ((try simp only [vis, Int.reduceToNat] at h); (try (exfalso; omega))))) | (with_reducible refine Vc.mk ?_; fail) | (with_reducible refine cutG ?_; fail) | refine idx_map ?_ ?_ | refine idx_mapI ?_ ?_ ?_ )))))))
      ((iterate 2 all_goals (try (repeat' (conv => whnf); (first | with_reducible refine And.intro ?_ ?_ | with_reducible exact True.intro | (intro h; (first | cases h | ((try simp only [vis, Int.reduceToNat] at h); (try (exfalso; omega))))) | (with_reducible refine Vc.mk ?_; fail) | (with_reducible refine cutG ?_; fail) | refine idx_map ?_ ?_ | refine idx_mapI ?_ ?_ ?_ | (refine StopAt.mk (by decide) (by decide) ?_) | (refine StopRow.mk _ rfl ?_))))); (all_goals (try omega)); (all_goals (try ((first | with_reducible refine Vc.mk ?_ | refine Vc.mk ?_); (try exact GLt)))); (all_goals (try (exact ⟨by decide, by decide⟩))))
    all_goals first
      | (refine lpG (rsetA kn [a, b, c] g l 3 1) (fun k => k ≤ 3) (fun k => 3 - k) 0 (by omega) ?_ ?_; (· ((refine le_sub [0, 1, 2] rfl rfl ?_ ?_); all_goals ((repeat' (conv => whnf); (first | with_reducible refine And.intro ?_ ?_ | with_reducible exact True.intro | with_reducible exact Or.inl rfl | (refine Vc.mk ?_; (first | exact rfl | exact ⟨rfl, .inl rfl⟩ | omega | skip)))); all_goals rfl))))
      | (refine lpG (rsetA kn [a, b, c] g l 3 2) (fun k => k ≤ 3) (fun k => 3 - k) 0 (by omega) ?_ ?_; (· ((refine le_sub [0, 1, 2] rfl rfl ?_ ?_); all_goals ((repeat' (conv => whnf); (first | with_reducible refine And.intro ?_ ?_ | with_reducible exact True.intro | with_reducible exact Or.inl rfl | (refine Vc.mk ?_; (first | exact rfl | exact ⟨rfl, .inl rfl⟩ | omega | skip)))); all_goals rfl))))
      | (refine lpG (rsetA kn [a, b, c] g l 3 3) (fun k => k ≤ 3) (fun k => 3 - k) 0 (by omega) ?_ ?_; (· ((refine le_sub [0, 1, 2] rfl rfl ?_ ?_); all_goals ((repeat' (conv => whnf); (first | with_reducible refine And.intro ?_ ?_ | with_reducible exact True.intro | with_reducible exact Or.inl rfl | (refine Vc.mk ?_; (first | exact rfl | exact ⟨rfl, .inl rfl⟩ | omega | skip)))); all_goals rfl))))
      | (refine lpG (rsetA kn [a, b, c] g l 3 4) (fun k => k ≤ 3) (fun k => 3 - k) 0 (by omega) ?_ ?_; (· ((refine le_sub [0, 1, 2] rfl rfl ?_ ?_); all_goals ((repeat' (conv => whnf); (first | with_reducible refine And.intro ?_ ?_ | with_reducible exact True.intro | with_reducible exact Or.inl rfl | (refine Vc.mk ?_; (first | exact rfl | exact ⟨rfl, .inl rfl⟩ | omega | skip)))); all_goals rfl))))
      | (refine lpG (rsetA kn [a, b, c] g l 3 5) (fun k => k ≤ 3) (fun k => 3 - k) 0 (by omega) ?_ ?_; (· ((refine le_sub [0, 1, 2] rfl rfl ?_ ?_); all_goals ((repeat' (conv => whnf); (first | with_reducible refine And.intro ?_ ?_ | with_reducible exact True.intro | with_reducible exact Or.inl rfl | (refine Vc.mk ?_; (first | exact rfl | exact ⟨rfl, .inl rfl⟩ | omega | skip)))); all_goals rfl))))
      | (refine lpG (rsetA kn [a, b, c] g l 3 6) (fun k => k ≤ 3) (fun k => 3 - k) 0 (by omega) ?_ ?_; (· ((refine le_sub [0, 1, 2] rfl rfl ?_ ?_); all_goals ((repeat' (conv => whnf); (first | with_reducible refine And.intro ?_ ?_ | with_reducible exact True.intro | with_reducible exact Or.inl rfl | (refine Vc.mk ?_; (first | exact rfl | exact ⟨rfl, .inl rfl⟩ | omega | skip)))); all_goals rfl))))
      | (refine lpG (rsetA kn [a, b] g l 2 1) (fun k => k ≤ 2) (fun k => 2 - k) 0 (by omega) ?_ ?_; (· ((refine le_sub [0, 1, 2] rfl rfl ?_ ?_); all_goals ((repeat' (conv => whnf); (first | with_reducible refine And.intro ?_ ?_ | with_reducible exact True.intro | with_reducible exact Or.inl rfl | (refine Vc.mk ?_; (first | exact rfl | exact ⟨rfl, .inl rfl⟩ | omega | skip)))); all_goals rfl))))
      | (refine lpG (rsetA kn [a, b] g l 2 2) (fun k => k ≤ 2) (fun k => 2 - k) 0 (by omega) ?_ ?_; (· ((refine le_sub [0, 1, 2] rfl rfl ?_ ?_); all_goals ((repeat' (conv => whnf); (first | with_reducible refine And.intro ?_ ?_ | with_reducible exact True.intro | with_reducible exact Or.inl rfl | (refine Vc.mk ?_; (first | exact rfl | exact ⟨rfl, .inl rfl⟩ | omega | skip)))); all_goals rfl))))
      | (refine lpG (rsetA kn [a, b] g l 2 3) (fun k => k ≤ 2) (fun k => 2 - k) 0 (by omega) ?_ ?_; (· ((refine le_sub [0, 1, 2] rfl rfl ?_ ?_); all_goals ((repeat' (conv => whnf); (first | with_reducible refine And.intro ?_ ?_ | with_reducible exact True.intro | with_reducible exact Or.inl rfl | (refine Vc.mk ?_; (first | exact rfl | exact ⟨rfl, .inl rfl⟩ | omega | skip)))); all_goals rfl))))
      | (refine lpG (rsetA kn [a, b] g l 2 4) (fun k => k ≤ 2) (fun k => 2 - k) 0 (by omega) ?_ ?_; (· ((refine le_sub [0, 1, 2] rfl rfl ?_ ?_); all_goals ((repeat' (conv => whnf); (first | with_reducible refine And.intro ?_ ?_ | with_reducible exact True.intro | with_reducible exact Or.inl rfl | (refine Vc.mk ?_; (first | exact rfl | exact ⟨rfl, .inl rfl⟩ | omega | skip)))); all_goals rfl))))
      | (refine lpG (rsetA kn [a, b] g l 2 5) (fun k => k ≤ 2) (fun k => 2 - k) 0 (by omega) ?_ ?_; (· ((refine le_sub [0, 1, 2] rfl rfl ?_ ?_); all_goals ((repeat' (conv => whnf); (first | with_reducible refine And.intro ?_ ?_ | with_reducible exact True.intro | with_reducible exact Or.inl rfl | (refine Vc.mk ?_; (first | exact rfl | exact ⟨rfl, .inl rfl⟩ | omega | skip)))); all_goals rfl))))
      | (refine lpG (rsetA kn [a, b] g l 2 6) (fun k => k ≤ 2) (fun k => 2 - k) 0 (by omega) ?_ ?_; (· ((refine le_sub [0, 1, 2] rfl rfl ?_ ?_); all_goals ((repeat' (conv => whnf); (first | with_reducible refine And.intro ?_ ?_ | with_reducible exact True.intro | with_reducible exact Or.inl rfl | (refine Vc.mk ?_; (first | exact rfl | exact ⟨rfl, .inl rfl⟩ | omega | skip)))); all_goals rfl))))
      | (refine lpG (rsetA kn [a] g l 1 1) (fun k => k ≤ 1) (fun k => 1 - k) 0 (by omega) ?_ ?_; (· ((refine le_sub [0, 1, 2] rfl rfl ?_ ?_); all_goals ((repeat' (conv => whnf); (first | with_reducible refine And.intro ?_ ?_ | with_reducible exact True.intro | with_reducible exact Or.inl rfl | (refine Vc.mk ?_; (first | exact rfl | exact ⟨rfl, .inl rfl⟩ | omega | skip)))); all_goals rfl))))
      | (refine lpG (rsetA kn [a] g l 1 2) (fun k => k ≤ 1) (fun k => 1 - k) 0 (by omega) ?_ ?_; (· ((refine le_sub [0, 1, 2] rfl rfl ?_ ?_); all_goals ((repeat' (conv => whnf); (first | with_reducible refine And.intro ?_ ?_ | with_reducible exact True.intro | with_reducible exact Or.inl rfl | (refine Vc.mk ?_; (first | exact rfl | exact ⟨rfl, .inl rfl⟩ | omega | skip)))); all_goals rfl))))
      | (refine lpG (rsetA kn [a] g l 1 3) (fun k => k ≤ 1) (fun k => 1 - k) 0 (by omega) ?_ ?_; (· ((refine le_sub [0, 1, 2] rfl rfl ?_ ?_); all_goals ((repeat' (conv => whnf); (first | with_reducible refine And.intro ?_ ?_ | with_reducible exact True.intro | with_reducible exact Or.inl rfl | (refine Vc.mk ?_; (first | exact rfl | exact ⟨rfl, .inl rfl⟩ | omega | skip)))); all_goals rfl))))
      | (refine lpG (rsetA kn [a] g l 1 4) (fun k => k ≤ 1) (fun k => 1 - k) 0 (by omega) ?_ ?_; (· ((refine le_sub [0, 1, 2] rfl rfl ?_ ?_); all_goals ((repeat' (conv => whnf); (first | with_reducible refine And.intro ?_ ?_ | with_reducible exact True.intro | with_reducible exact Or.inl rfl | (refine Vc.mk ?_; (first | exact rfl | exact ⟨rfl, .inl rfl⟩ | omega | skip)))); all_goals rfl))))
      | (refine lpG (rsetA kn [a] g l 1 5) (fun k => k ≤ 1) (fun k => 1 - k) 0 (by omega) ?_ ?_; (· ((refine le_sub [0, 1, 2] rfl rfl ?_ ?_); all_goals ((repeat' (conv => whnf); (first | with_reducible refine And.intro ?_ ?_ | with_reducible exact True.intro | with_reducible exact Or.inl rfl | (refine Vc.mk ?_; (first | exact rfl | exact ⟨rfl, .inl rfl⟩ | omega | skip)))); all_goals rfl))))
      | (refine lpG (rsetA kn [a] g l 1 6) (fun k => k ≤ 1) (fun k => 1 - k) 0 (by omega) ?_ ?_; (· ((refine le_sub [0, 1, 2] rfl rfl ?_ ?_); all_goals ((repeat' (conv => whnf); (first | with_reducible refine And.intro ?_ ?_ | with_reducible exact True.intro | with_reducible exact Or.inl rfl | (refine Vc.mk ?_; (first | exact rfl | exact ⟨rfl, .inl rfl⟩ | omega | skip)))); all_goals rfl))))
    all_goals
      intro k hk
      refine or4 (by omega : k = 0 ∨ k = 1 ∨ k = 2 ∨ k = 3) (fun e => ?_) (fun e => ?_) (fun e => ?_) (fun e => ?_)
    all_goals (subst e)
    all_goals (try (exfalso; omega))
    all_goals
      unfold rsetA stRow
      dsimp only
      ((iterate 2 all_goals (try (repeat' (conv => whnf); (first | with_reducible refine And.intro ?_ ?_ | with_reducible exact True.intro | (intro h; (first | cases h | ((try simp only [vis, Int.reduceToNat] at h); (try (exfalso; omega))))) | (with_reducible refine Vc.mk ?_; fail) | (with_reducible refine cutG ?_; fail) | refine idx_map ?_ ?_ | refine idx_mapI ?_ ?_ ?_ | (refine StopAt.mk (by decide) (by decide) ?_) | (refine StopRow.mk _ rfl ?_))))); (all_goals (try omega)); (all_goals (try ((first | with_reducible refine Vc.mk ?_ | refine Vc.mk ?_); (try exact GLt)))); (all_goals (try (exact ⟨by decide, by decide⟩))))
    all_goals first
      | (refine nextG 1 (by omega) (by omega) ?_; (refine le_sub [0, 1, 2] rfl rfl ?_ ?_); all_goals ((repeat' (conv => whnf); (first | with_reducible refine And.intro ?_ ?_ | with_reducible exact True.intro | with_reducible exact Or.inl rfl | (refine Vc.mk ?_; (first | exact rfl | exact ⟨rfl, .inl rfl⟩ | omega | skip)))); all_goals rfl); done)
      | (refine nextG 2 (by omega) (by omega) ?_; (refine le_sub [0, 1, 2] rfl rfl ?_ ?_); all_goals ((repeat' (conv => whnf); (first | with_reducible refine And.intro ?_ ?_ | with_reducible exact True.intro | with_reducible exact Or.inl rfl | (refine Vc.mk ?_; (first | exact rfl | exact ⟨rfl, .inl rfl⟩ | omega | skip)))); all_goals rfl); done)
      | (refine nextG 3 (by omega) (by omega) ?_; (refine le_sub [0, 1, 2] rfl rfl ?_ ?_); all_goals ((repeat' (conv => whnf); (first | with_reducible refine And.intro ?_ ?_ | with_reducible exact True.intro | with_reducible exact Or.inl rfl | (refine Vc.mk ?_; (first | exact rfl | exact ⟨rfl, .inl rfl⟩ | omega | skip)))); all_goals rfl); done)
      | (((try (conv => whnf)); refine ⟨[0, 1], rfl, rfl, ?_, ?_⟩); (repeat' (conv => whnf); (first | with_reducible refine And.intro ?_ ?_ | with_reducible exact True.intro | with_reducible exact Or.inl rfl | (refine Vc.mk ?_; (first | exact rfl | exact ⟨rfl, .inl rfl⟩ | omega | skip)))); all_goals rfl)
  · have hV : setB ⟨kn, ow⟩ (q, g, l) = ⟨kn, ow⟩ := if_neg h0
    rw [hV, hsf]
    generalize sfault q g l = F at *
    refine np3 (p := fun ow => Fn Try.prog 75 [.box 0 0, .agg (stRow (q, g, l))] (rbL kn ow) (.v (.int .i64 F)) (rbM ⟨kn, ow⟩)) h1 h3 (fun a => ?_) (fun a b => ?_) (fun a b c => ?_)
    all_goals
      unfold stRow
      dsimp only
      refine fn_of mixed [] [] Try.func75 rfl (by decide +kernel) Try.ntmps75 rfl (congrArg Array.toList Try.results75) rfl (by decide +kernel) ?_
      ((iterate 2 all_goals (try (repeat' (conv => whnf); (first | with_reducible refine And.intro ?_ ?_ | with_reducible exact True.intro | (intro h; (first | cases h | ((try simp only [vis, Int.reduceToNat] at h); (try (exfalso; omega))))) | (with_reducible refine Vc.mk ?_; fail) | (with_reducible refine cutG ?_; fail) | refine idx_map ?_ ?_ | refine idx_mapI ?_ ?_ ?_ | (refine StopAt.mk (by decide) (by decide) ?_) | (refine StopRow.mk _ rfl ?_))))); (all_goals (try omega)); (all_goals (try ((first | with_reducible refine Vc.mk ?_ | refine Vc.mk ?_); (try exact GLt)))); (all_goals (try (exact ⟨by decide, by decide⟩))))
      (all_goals (try ((first | (refine call0 (hck) ?_ ?_) | (refine pure0 (hck) rfl ?_ ?_)); (· (repeat' (conv => whnf); (first | with_reducible refine And.intro ?_ ?_ | with_reducible exact True.intro | with_reducible exact Or.inl rfl | (refine Vc.mk ?_; (first | exact rfl | exact ⟨rfl, .inl rfl⟩ | omega | skip))))); (iterate 2 all_goals (try (repeat' (conv => whnf); (first | with_reducible refine And.intro ?_ ?_ | with_reducible exact True.intro | (intro h; (first | cases h | ((try simp only [vis, Int.reduceToNat] at h); (try (exfalso; omega))))) | (with_reducible refine Vc.mk ?_; fail) | (with_reducible refine cutG ?_; fail) | refine idx_map ?_ ?_ | refine idx_mapI ?_ ?_ ?_ )))))))
      ((iterate 2 all_goals (try (repeat' (conv => whnf); (first | with_reducible refine And.intro ?_ ?_ | with_reducible exact True.intro | (intro h; (first | cases h | ((try simp only [vis, Int.reduceToNat] at h); (try (exfalso; omega))))) | (with_reducible refine Vc.mk ?_; fail) | (with_reducible refine cutG ?_; fail) | refine idx_map ?_ ?_ | refine idx_mapI ?_ ?_ ?_ | (refine StopAt.mk (by decide) (by decide) ?_) | (refine StopRow.mk _ rfl ?_))))); (all_goals (try omega)); (all_goals (try ((first | with_reducible refine Vc.mk ?_ | refine Vc.mk ?_); (try exact GLt)))); (all_goals (try (exact ⟨by decide, by decide⟩))))
    all_goals (((try (conv => whnf)); refine ⟨[0, 1], rfl, rfl, ?_, ?_⟩); (repeat' (conv => whnf); (first | with_reducible refine And.intro ?_ ?_ | with_reducible exact True.intro | with_reducible exact Or.inl rfl | (refine Vc.mk ?_; (first | exact rfl | exact ⟨rfl, .inl rfl⟩ | omega | skip)))); all_goals rfl)
end Go.Proofs.Ytimfnpjcedjmiaa
