/-
  Package flood: a base of states.
-/
import Derived.Test.YtimfnpjcedjmiaaLFl
import Derived.Test.YtimfnpjcedjmiaaGO
namespace Go.Proofs.Ytimfnpjcedjmiaa
open Go.RowKit
set_option linter.unusedSimpArgs false
set_option linter.unusedVariables false
def knM (kn : Int → Option St3) : Value → Option (List AV)
  | .int .i64 n => (kn n).map stRow
  | _ => none
def owM (o : Int → Bool) : Value → Option (List AV)
  | .int .i64 n => if o n then some [.v (.bool true)] else none
  | _ => none
theorem keyEq_i64 {v : Value} {n : Int} : keyEq v (.int .i64 n) = true ↔ v = .int .i64 n := by
  constructor
  · exact keyEq_out
  · rintro rfl; simp [keyEq, kEq_self]
theorem updF_kn {kn : Int → Option St3} {n : Int} {s : St3} : updF (knM kn) (.int .i64 n) (some (stRow s)) = knM (upI kn n (some s)) := by
  funext v
  unfold updF
  cases h : keyEq v (.int .i64 n) with
  | true => rw [keyEq_i64.1 h]; simp [knM, upI]
  | false =>
    cases v with
    | int k m =>
      cases k with
      | i64 =>
        have hne : m ≠ n := fun e => by subst e; simp [keyEq, kEq_self] at h
        simp [knM, upI, hne]
      | _ => rfl
    | _ => rfl
theorem updF_owT {o : Int → Bool} {n : Int} : updF (owM o) (.int .i64 n) (some [.v (.bool true)]) = owM (upI o n true) := by
  funext v
  unfold updF
  cases h : keyEq v (.int .i64 n) with
  | true => rw [keyEq_i64.1 h]; simp [owM, upI]
  | false =>
    cases v with
    | int k m =>
      cases k with
      | i64 =>
        have hne : m ≠ n := fun e => by subst e; simp [keyEq, kEq_self] at h
        simp [owM, upI, hne]
      | _ => rfl
    | _ => rfl
theorem updF_owF {o : Int → Bool} {n : Int} : updF (owM o) (.int .i64 n) none = owM (upI o n false) := by
  funext v
  unfold updF
  cases h : keyEq v (.int .i64 n) with
  | true => rw [keyEq_i64.1 h]; simp [owM, upI]
  | false =>
    cases v with
    | int k m =>
      cases k with
      | i64 =>
        have hne : m ≠ n := fun e => by subst e; simp [keyEq, kEq_self] at h
        simp [owM, upI, hne]
      | _ => rfl
    | _ => rfl
theorem owM_none : (fun _ => none) = owM (fun _ => false) := by
  funext v
  cases v with
  | int k m => cases k <;> rfl
  | _ => rfl
theorem knM_none : (fun _ => none) = knM (fun _ => none) := by
  funext v
  cases v with
  | int k m => cases k <;> rfl
  | _ => rfl
def kmR (kn : Int → Option St3) : Res := .map (some .i64) true (knM kn)
def omR (o : Int → Bool) : Res := .map (some .i64) false (owM o)
/-- What a base holds. -/
def baL (kn : Int → Option St3) : List (Int → Bool) → List Res
  | [a] => [.cells [.map 1, .arr 2 0 1], kmR kn, .arr false 192 1 0 [[.map 3]], omR a]
  | [a, b] => [.cells [.map 1, .arr 2 0 2], kmR kn, .arr false 192 1 0 [[.map 3], [.map 4]], omR a, omR b]
  | [a, b, c] => [.cells [.map 1, .arr 2 0 3], kmR kn, .arr false 192 1 0 [[.map 3], [.map 4], [.map 5]], omR a, omR b, omR c]
  | _ => []
def baM (b : Ba) : List Res := baL b.kn b.ow
theorem np3 {α : Type} {l : List α} (h1 : 1 ≤ l.length) (h3 : l.length ≤ 3) {p : List α → Prop} (c1 : ∀ a, p [a]) (c2 : ∀ a b, p [a, b]) (c3 : ∀ a b c, p [a, b, c]) : p l := by
  match l, h1, h3 with
  | [a], _, _ => exact c1 a
  | [a, b], _, _ => exact c2 a b
  | [a, b, c], _, _ => exact c3 a b c
theorem or4 {a b c d p : Prop} (h : a ∨ b ∨ c ∨ d) (h1 : a → p) (h2 : b → p) (h3 : c → p) (h4 : d → p) : p := by
  rcases h with h | h | h | h
  · exact h1 h
  · exact h2 h
  · exact h3 h
  · exact h4 h
theorem lookN {o : Option (List AV)} {K : Option (List AV) → Prop} (h : o = none) (k : K none) : StopLook o K := by
  subst h
  exact ⟨fun l e => (by cases e), fun _ => k⟩
theorem lookS {o : Option (List AV)} {l : List AV} {K : Option (List AV) → Prop} (h : o = some l) (k : K (some l)) : StopLook o K := by
  subst h
  exact ⟨fun m e => (by cases e; exact k), fun e => (by cases e)⟩
set_option maxHeartbeats 16000000 in
set_option maxRecDepth 100000 in
theorem fall_ok (kn : Int → Option St3) (ow : List (Int → Bool)) (h1 : 1 ≤ ow.length) (h3 : ow.length ≤ 3) (n but : Int) : Fn Try.prog 120 [.box 0 0, .v (.int .i64 n), .v (.int .i64 but)] (baL kn ow) (.tup []) (baL kn (allW ow 0 n but)) := by
  refine np3 (p := fun ow => Fn Try.prog 120 [.box 0 0, .v (.int .i64 n), .v (.int .i64 but)] (baL kn ow) (.tup []) (baL kn (allW ow 0 n but))) h1 h3 (fun a => ?_) (fun a b => ?_) (fun a b c => ?_)
  · refine fn_of mixed [] [] Try.func120 rfl (by decide +kernel) Try.ntmps120 rfl (congrArg Array.toList Try.results120) rfl (by decide +kernel) ?_
    (iterate 2 all_goals (try (repeat' (conv => whnf); (first | with_reducible refine And.intro ?_ ?_ | with_reducible exact True.intro | (intro h; (first | cases h | ((try simp only [vis, Int.reduceToNat] at h); (try (exfalso; omega))))) | (with_reducible refine Vc.mk ?_; fail) | (with_reducible refine cutG ?_; fail) | refine idx_map ?_ ?_ | refine idx_mapI ?_ ?_ ?_ ))))
    refine lpG (fun k : Nat => ⟨[(0, .box 0 0), (1, .v (.int .i64 n)), (2, .v (.int .i64 but)), (11, .v (.int .i64 1)), (12, .v (.int .i64 k))], baL kn (allK [a] 0 n but k)⟩) (fun k => k ≤ 1) (fun k => 1 - k) 0 (by omega) (by (refine le_sub [0, 1, 2, 3] rfl rfl ?_ ?_); all_goals ((repeat' (conv => whnf); (first | with_reducible refine And.intro ?_ ?_ | with_reducible exact True.intro | with_reducible exact Or.inl rfl | (refine Vc.mk ?_; (first | exact rfl | exact ⟨rfl, .inl rfl⟩ | omega | skip)))); all_goals (try rfl))) ?_
    intro k hk
    refine or4 (by omega : k = 0 ∨ k = 1 ∨ k = 2 ∨ k = 3) (fun e => ?_) (fun e => ?_) (fun e => ?_) (fun e => ?_)
    all_goals (subst e)
    all_goals (try (exfalso; omega))
    · by_cases h : (0 : Int) = but
      · ((iterate 2 all_goals (try (repeat' (conv => whnf); (first | with_reducible refine And.intro ?_ ?_ | with_reducible exact True.intro | (intro h; (first | cases h | ((try simp only [vis, Int.reduceToNat] at h); (try (exfalso; omega))))) | (with_reducible refine Vc.mk ?_; fail) | (with_reducible refine cutG ?_; fail) | refine idx_map ?_ ?_ | refine idx_mapI ?_ ?_ ?_ | (refine StopAt.mk (by decide) (by decide) ?_) | (refine StopRow.mk _ rfl ?_))))); (all_goals (try omega)); (all_goals (try ((first | with_reducible refine Vc.mk ?_ | refine Vc.mk ?_); (try exact GLt)))); (all_goals (try (exact ⟨by decide, by decide⟩))))
        refine nextG 1 (by omega) (by omega) (by (refine le_sub [0, 1, 2, 3] rfl rfl ?_ ?_); all_goals ((repeat' (conv => whnf); (first | with_reducible refine And.intro ?_ ?_ | with_reducible exact True.intro | with_reducible exact Or.inl rfl | (refine Vc.mk ?_; (first | exact rfl | exact ⟨rfl, .inl rfl⟩ | omega | skip)))); all_goals (try first | rfl | (exact congrArg owM (aO_same h).symm))))
      · ((iterate 2 all_goals (try (repeat' (conv => whnf); (first | with_reducible refine And.intro ?_ ?_ | with_reducible exact True.intro | (intro h; (first | cases h | ((try simp only [vis, Int.reduceToNat] at h); (try (exfalso; omega))))) | (with_reducible refine Vc.mk ?_; fail) | (with_reducible refine cutG ?_; fail) | refine idx_map ?_ ?_ | refine idx_mapI ?_ ?_ ?_ | (refine StopAt.mk (by decide) (by decide) ?_) | (refine StopRow.mk _ rfl ?_))))); (all_goals (try omega)); (all_goals (try ((first | with_reducible refine Vc.mk ?_ | refine Vc.mk ?_); (try exact GLt)))); (all_goals (try (exact ⟨by decide, by decide⟩))))
        refine nextG 1 (by omega) (by omega) (by (refine le_sub [0, 1, 2, 3] rfl rfl ?_ ?_); all_goals ((repeat' (conv => whnf); (first | with_reducible refine And.intro ?_ ?_ | with_reducible exact True.intro | with_reducible exact Or.inl rfl | (refine Vc.mk ?_; (first | exact rfl | exact ⟨rfl, .inl rfl⟩ | omega | skip)))); all_goals (try first | rfl | (exact updF_owT.trans (congrArg owM (aO_other h).symm)))))
    · ((iterate 2 all_goals (try (repeat' (conv => whnf); (first | with_reducible refine And.intro ?_ ?_ | with_reducible exact True.intro | (intro h; (first | cases h | ((try simp only [vis, Int.reduceToNat] at h); (try (exfalso; omega))))) | (with_reducible refine Vc.mk ?_; fail) | (with_reducible refine cutG ?_; fail) | refine idx_map ?_ ?_ | refine idx_mapI ?_ ?_ ?_ | (refine StopAt.mk (by decide) (by decide) ?_) | (refine StopRow.mk _ rfl ?_))))); (all_goals (try omega)); (all_goals (try ((first | with_reducible refine Vc.mk ?_ | refine Vc.mk ?_); (try exact GLt)))); (all_goals (try (exact ⟨by decide, by decide⟩))))
      ((try (conv => whnf)); refine ⟨[0, 1, 2, 3], rfl, rfl, ?_, ?_⟩); (repeat' (conv => whnf); (first | with_reducible refine And.intro ?_ ?_ | with_reducible exact True.intro | with_reducible exact Or.inl rfl | (refine Vc.mk ?_; (first | exact rfl | exact ⟨rfl, .inl rfl⟩ | omega | skip))))
      all_goals (try rfl)
  · refine fn_of mixed [] [] Try.func120 rfl (by decide +kernel) Try.ntmps120 rfl (congrArg Array.toList Try.results120) rfl (by decide +kernel) ?_
    (iterate 2 all_goals (try (repeat' (conv => whnf); (first | with_reducible refine And.intro ?_ ?_ | with_reducible exact True.intro | (intro h; (first | cases h | ((try simp only [vis, Int.reduceToNat] at h); (try (exfalso; omega))))) | (with_reducible refine Vc.mk ?_; fail) | (with_reducible refine cutG ?_; fail) | refine idx_map ?_ ?_ | refine idx_mapI ?_ ?_ ?_ ))))
    refine lpG (fun k : Nat => ⟨[(0, .box 0 0), (1, .v (.int .i64 n)), (2, .v (.int .i64 but)), (11, .v (.int .i64 2)), (12, .v (.int .i64 k))], baL kn (allK [a, b] 0 n but k)⟩) (fun k => k ≤ 2) (fun k => 2 - k) 0 (by omega) (by (refine le_sub [0, 1, 2, 3, 4] rfl rfl ?_ ?_); all_goals ((repeat' (conv => whnf); (first | with_reducible refine And.intro ?_ ?_ | with_reducible exact True.intro | with_reducible exact Or.inl rfl | (refine Vc.mk ?_; (first | exact rfl | exact ⟨rfl, .inl rfl⟩ | omega | skip)))); all_goals (try rfl))) ?_
    intro k hk
    refine or4 (by omega : k = 0 ∨ k = 1 ∨ k = 2 ∨ k = 3) (fun e => ?_) (fun e => ?_) (fun e => ?_) (fun e => ?_)
    all_goals (subst e)
    all_goals (try (exfalso; omega))
    · by_cases h : (0 : Int) = but
      · ((iterate 2 all_goals (try (repeat' (conv => whnf); (first | with_reducible refine And.intro ?_ ?_ | with_reducible exact True.intro | (intro h; (first | cases h | ((try simp only [vis, Int.reduceToNat] at h); (try (exfalso; omega))))) | (with_reducible refine Vc.mk ?_; fail) | (with_reducible refine cutG ?_; fail) | refine idx_map ?_ ?_ | refine idx_mapI ?_ ?_ ?_ | (refine StopAt.mk (by decide) (by decide) ?_) | (refine StopRow.mk _ rfl ?_))))); (all_goals (try omega)); (all_goals (try ((first | with_reducible refine Vc.mk ?_ | refine Vc.mk ?_); (try exact GLt)))); (all_goals (try (exact ⟨by decide, by decide⟩))))
        refine nextG 1 (by omega) (by omega) (by (refine le_sub [0, 1, 2, 3, 4] rfl rfl ?_ ?_); all_goals ((repeat' (conv => whnf); (first | with_reducible refine And.intro ?_ ?_ | with_reducible exact True.intro | with_reducible exact Or.inl rfl | (refine Vc.mk ?_; (first | exact rfl | exact ⟨rfl, .inl rfl⟩ | omega | skip)))); all_goals (try first | rfl | (exact congrArg owM (aO_same h).symm))))
      · ((iterate 2 all_goals (try (repeat' (conv => whnf); (first | with_reducible refine And.intro ?_ ?_ | with_reducible exact True.intro | (intro h; (first | cases h | ((try simp only [vis, Int.reduceToNat] at h); (try (exfalso; omega))))) | (with_reducible refine Vc.mk ?_; fail) | (with_reducible refine cutG ?_; fail) | refine idx_map ?_ ?_ | refine idx_mapI ?_ ?_ ?_ | (refine StopAt.mk (by decide) (by decide) ?_) | (refine StopRow.mk _ rfl ?_))))); (all_goals (try omega)); (all_goals (try ((first | with_reducible refine Vc.mk ?_ | refine Vc.mk ?_); (try exact GLt)))); (all_goals (try (exact ⟨by decide, by decide⟩))))
        refine nextG 1 (by omega) (by omega) (by (refine le_sub [0, 1, 2, 3, 4] rfl rfl ?_ ?_); all_goals ((repeat' (conv => whnf); (first | with_reducible refine And.intro ?_ ?_ | with_reducible exact True.intro | with_reducible exact Or.inl rfl | (refine Vc.mk ?_; (first | exact rfl | exact ⟨rfl, .inl rfl⟩ | omega | skip)))); all_goals (try first | rfl | (exact updF_owT.trans (congrArg owM (aO_other h).symm)))))
    · by_cases h : (1 : Int) = but
      · ((iterate 2 all_goals (try (repeat' (conv => whnf); (first | with_reducible refine And.intro ?_ ?_ | with_reducible exact True.intro | (intro h; (first | cases h | ((try simp only [vis, Int.reduceToNat] at h); (try (exfalso; omega))))) | (with_reducible refine Vc.mk ?_; fail) | (with_reducible refine cutG ?_; fail) | refine idx_map ?_ ?_ | refine idx_mapI ?_ ?_ ?_ | (refine StopAt.mk (by decide) (by decide) ?_) | (refine StopRow.mk _ rfl ?_))))); (all_goals (try omega)); (all_goals (try ((first | with_reducible refine Vc.mk ?_ | refine Vc.mk ?_); (try exact GLt)))); (all_goals (try (exact ⟨by decide, by decide⟩))))
        refine nextG 2 (by omega) (by omega) (by (refine le_sub [0, 1, 2, 3, 4] rfl rfl ?_ ?_); all_goals ((repeat' (conv => whnf); (first | with_reducible refine And.intro ?_ ?_ | with_reducible exact True.intro | with_reducible exact Or.inl rfl | (refine Vc.mk ?_; (first | exact rfl | exact ⟨rfl, .inl rfl⟩ | omega | skip)))); all_goals (try first | rfl | (exact congrArg owM (aO_same h).symm))))
      · ((iterate 2 all_goals (try (repeat' (conv => whnf); (first | with_reducible refine And.intro ?_ ?_ | with_reducible exact True.intro | (intro h; (first | cases h | ((try simp only [vis, Int.reduceToNat] at h); (try (exfalso; omega))))) | (with_reducible refine Vc.mk ?_; fail) | (with_reducible refine cutG ?_; fail) | refine idx_map ?_ ?_ | refine idx_mapI ?_ ?_ ?_ | (refine StopAt.mk (by decide) (by decide) ?_) | (refine StopRow.mk _ rfl ?_))))); (all_goals (try omega)); (all_goals (try ((first | with_reducible refine Vc.mk ?_ | refine Vc.mk ?_); (try exact GLt)))); (all_goals (try (exact ⟨by decide, by decide⟩))))
        refine nextG 2 (by omega) (by omega) (by (refine le_sub [0, 1, 2, 3, 4] rfl rfl ?_ ?_); all_goals ((repeat' (conv => whnf); (first | with_reducible refine And.intro ?_ ?_ | with_reducible exact True.intro | with_reducible exact Or.inl rfl | (refine Vc.mk ?_; (first | exact rfl | exact ⟨rfl, .inl rfl⟩ | omega | skip)))); all_goals (try first | rfl | (exact updF_owT.trans (congrArg owM (aO_other h).symm)))))
    · ((iterate 2 all_goals (try (repeat' (conv => whnf); (first | with_reducible refine And.intro ?_ ?_ | with_reducible exact True.intro | (intro h; (first | cases h | ((try simp only [vis, Int.reduceToNat] at h); (try (exfalso; omega))))) | (with_reducible refine Vc.mk ?_; fail) | (with_reducible refine cutG ?_; fail) | refine idx_map ?_ ?_ | refine idx_mapI ?_ ?_ ?_ | (refine StopAt.mk (by decide) (by decide) ?_) | (refine StopRow.mk _ rfl ?_))))); (all_goals (try omega)); (all_goals (try ((first | with_reducible refine Vc.mk ?_ | refine Vc.mk ?_); (try exact GLt)))); (all_goals (try (exact ⟨by decide, by decide⟩))))
      ((try (conv => whnf)); refine ⟨[0, 1, 2, 3, 4], rfl, rfl, ?_, ?_⟩); (repeat' (conv => whnf); (first | with_reducible refine And.intro ?_ ?_ | with_reducible exact True.intro | with_reducible exact Or.inl rfl | (refine Vc.mk ?_; (first | exact rfl | exact ⟨rfl, .inl rfl⟩ | omega | skip))))
      all_goals (try rfl)
  · refine fn_of mixed [] [] Try.func120 rfl (by decide +kernel) Try.ntmps120 rfl (congrArg Array.toList Try.results120) rfl (by decide +kernel) ?_
    (iterate 2 all_goals (try (repeat' (conv => whnf); (first | with_reducible refine And.intro ?_ ?_ | with_reducible exact True.intro | (intro h; (first | cases h | ((try simp only [vis, Int.reduceToNat] at h); (try (exfalso; omega))))) | (with_reducible refine Vc.mk ?_; fail) | (with_reducible refine cutG ?_; fail) | refine idx_map ?_ ?_ | refine idx_mapI ?_ ?_ ?_ ))))
    refine lpG (fun k : Nat => ⟨[(0, .box 0 0), (1, .v (.int .i64 n)), (2, .v (.int .i64 but)), (11, .v (.int .i64 3)), (12, .v (.int .i64 k))], baL kn (allK [a, b, c] 0 n but k)⟩) (fun k => k ≤ 3) (fun k => 3 - k) 0 (by omega) (by (refine le_sub [0, 1, 2, 3, 4, 5] rfl rfl ?_ ?_); all_goals ((repeat' (conv => whnf); (first | with_reducible refine And.intro ?_ ?_ | with_reducible exact True.intro | with_reducible exact Or.inl rfl | (refine Vc.mk ?_; (first | exact rfl | exact ⟨rfl, .inl rfl⟩ | omega | skip)))); all_goals (try rfl))) ?_
    intro k hk
    refine or4 (by omega : k = 0 ∨ k = 1 ∨ k = 2 ∨ k = 3) (fun e => ?_) (fun e => ?_) (fun e => ?_) (fun e => ?_)
    all_goals (subst e)
    all_goals (try (exfalso; omega))
    · by_cases h : (0 : Int) = but
      · ((iterate 2 all_goals (try (repeat' (conv => whnf); (first | with_reducible refine And.intro ?_ ?_ | with_reducible exact True.intro | (intro h; (first | cases h | ((try simp only [vis, Int.reduceToNat] at h); (try (exfalso; omega))))) | (with_reducible refine Vc.mk ?_; fail) | (with_reducible refine cutG ?_; fail) | refine idx_map ?_ ?_ | refine idx_mapI ?_ ?_ ?_ | (refine StopAt.mk (by decide) (by decide) ?_) | (refine StopRow.mk _ rfl ?_))))); (all_goals (try omega)); (all_goals (try ((first | with_reducible refine Vc.mk ?_ | refine Vc.mk ?_); (try exact GLt)))); (all_goals (try (exact ⟨by decide, by decide⟩))))
        refine nextG 1 (by omega) (by omega) (by (refine le_sub [0, 1, 2, 3, 4, 5] rfl rfl ?_ ?_); all_goals ((repeat' (conv => whnf); (first | with_reducible refine And.intro ?_ ?_ | with_reducible exact True.intro | with_reducible exact Or.inl rfl | (refine Vc.mk ?_; (first | exact rfl | exact ⟨rfl, .inl rfl⟩ | omega | skip)))); all_goals (try first | rfl | (exact congrArg owM (aO_same h).symm))))
      · ((iterate 2 all_goals (try (repeat' (conv => whnf); (first | with_reducible refine And.intro ?_ ?_ | with_reducible exact True.intro | (intro h; (first | cases h | ((try simp only [vis, Int.reduceToNat] at h); (try (exfalso; omega))))) | (with_reducible refine Vc.mk ?_; fail) | (with_reducible refine cutG ?_; fail) | refine idx_map ?_ ?_ | refine idx_mapI ?_ ?_ ?_ | (refine StopAt.mk (by decide) (by decide) ?_) | (refine StopRow.mk _ rfl ?_))))); (all_goals (try omega)); (all_goals (try ((first | with_reducible refine Vc.mk ?_ | refine Vc.mk ?_); (try exact GLt)))); (all_goals (try (exact ⟨by decide, by decide⟩))))
        refine nextG 1 (by omega) (by omega) (by (refine le_sub [0, 1, 2, 3, 4, 5] rfl rfl ?_ ?_); all_goals ((repeat' (conv => whnf); (first | with_reducible refine And.intro ?_ ?_ | with_reducible exact True.intro | with_reducible exact Or.inl rfl | (refine Vc.mk ?_; (first | exact rfl | exact ⟨rfl, .inl rfl⟩ | omega | skip)))); all_goals (try first | rfl | (exact updF_owT.trans (congrArg owM (aO_other h).symm)))))
    · by_cases h : (1 : Int) = but
      · ((iterate 2 all_goals (try (repeat' (conv => whnf); (first | with_reducible refine And.intro ?_ ?_ | with_reducible exact True.intro | (intro h; (first | cases h | ((try simp only [vis, Int.reduceToNat] at h); (try (exfalso; omega))))) | (with_reducible refine Vc.mk ?_; fail) | (with_reducible refine cutG ?_; fail) | refine idx_map ?_ ?_ | refine idx_mapI ?_ ?_ ?_ | (refine StopAt.mk (by decide) (by decide) ?_) | (refine StopRow.mk _ rfl ?_))))); (all_goals (try omega)); (all_goals (try ((first | with_reducible refine Vc.mk ?_ | refine Vc.mk ?_); (try exact GLt)))); (all_goals (try (exact ⟨by decide, by decide⟩))))
        refine nextG 2 (by omega) (by omega) (by (refine le_sub [0, 1, 2, 3, 4, 5] rfl rfl ?_ ?_); all_goals ((repeat' (conv => whnf); (first | with_reducible refine And.intro ?_ ?_ | with_reducible exact True.intro | with_reducible exact Or.inl rfl | (refine Vc.mk ?_; (first | exact rfl | exact ⟨rfl, .inl rfl⟩ | omega | skip)))); all_goals (try first | rfl | (exact congrArg owM (aO_same h).symm))))
      · ((iterate 2 all_goals (try (repeat' (conv => whnf); (first | with_reducible refine And.intro ?_ ?_ | with_reducible exact True.intro | (intro h; (first | cases h | ((try simp only [vis, Int.reduceToNat] at h); (try (exfalso; omega))))) | (with_reducible refine Vc.mk ?_; fail) | (with_reducible refine cutG ?_; fail) | refine idx_map ?_ ?_ | refine idx_mapI ?_ ?_ ?_ | (refine StopAt.mk (by decide) (by decide) ?_) | (refine StopRow.mk _ rfl ?_))))); (all_goals (try omega)); (all_goals (try ((first | with_reducible refine Vc.mk ?_ | refine Vc.mk ?_); (try exact GLt)))); (all_goals (try (exact ⟨by decide, by decide⟩))))
        refine nextG 2 (by omega) (by omega) (by (refine le_sub [0, 1, 2, 3, 4, 5] rfl rfl ?_ ?_); all_goals ((repeat' (conv => whnf); (first | with_reducible refine And.intro ?_ ?_ | with_reducible exact True.intro | with_reducible exact Or.inl rfl | (refine Vc.mk ?_; (first | exact rfl | exact ⟨rfl, .inl rfl⟩ | omega | skip)))); all_goals (try first | rfl | (exact updF_owT.trans (congrArg owM (aO_other h).symm)))))
    · by_cases h : (2 : Int) = but
      · ((iterate 2 all_goals (try (repeat' (conv => whnf); (first | with_reducible refine And.intro ?_ ?_ | with_reducible exact True.intro | (intro h; (first | cases h | ((try simp only [vis, Int.reduceToNat] at h); (try (exfalso; omega))))) | (with_reducible refine Vc.mk ?_; fail) | (with_reducible refine cutG ?_; fail) | refine idx_map ?_ ?_ | refine idx_mapI ?_ ?_ ?_ | (refine StopAt.mk (by decide) (by decide) ?_) | (refine StopRow.mk _ rfl ?_))))); (all_goals (try omega)); (all_goals (try ((first | with_reducible refine Vc.mk ?_ | refine Vc.mk ?_); (try exact GLt)))); (all_goals (try (exact ⟨by decide, by decide⟩))))
        refine nextG 3 (by omega) (by omega) (by (refine le_sub [0, 1, 2, 3, 4, 5] rfl rfl ?_ ?_); all_goals ((repeat' (conv => whnf); (first | with_reducible refine And.intro ?_ ?_ | with_reducible exact True.intro | with_reducible exact Or.inl rfl | (refine Vc.mk ?_; (first | exact rfl | exact ⟨rfl, .inl rfl⟩ | omega | skip)))); all_goals (try first | rfl | (exact congrArg owM (aO_same h).symm))))
      · ((iterate 2 all_goals (try (repeat' (conv => whnf); (first | with_reducible refine And.intro ?_ ?_ | with_reducible exact True.intro | (intro h; (first | cases h | ((try simp only [vis, Int.reduceToNat] at h); (try (exfalso; omega))))) | (with_reducible refine Vc.mk ?_; fail) | (with_reducible refine cutG ?_; fail) | refine idx_map ?_ ?_ | refine idx_mapI ?_ ?_ ?_ | (refine StopAt.mk (by decide) (by decide) ?_) | (refine StopRow.mk _ rfl ?_))))); (all_goals (try omega)); (all_goals (try ((first | with_reducible refine Vc.mk ?_ | refine Vc.mk ?_); (try exact GLt)))); (all_goals (try (exact ⟨by decide, by decide⟩))))
        refine nextG 3 (by omega) (by omega) (by (refine le_sub [0, 1, 2, 3, 4, 5] rfl rfl ?_ ?_); all_goals ((repeat' (conv => whnf); (first | with_reducible refine And.intro ?_ ?_ | with_reducible exact True.intro | with_reducible exact Or.inl rfl | (refine Vc.mk ?_; (first | exact rfl | exact ⟨rfl, .inl rfl⟩ | omega | skip)))); all_goals (try first | rfl | (exact updF_owT.trans (congrArg owM (aO_other h).symm)))))
    · ((iterate 2 all_goals (try (repeat' (conv => whnf); (first | with_reducible refine And.intro ?_ ?_ | with_reducible exact True.intro | (intro h; (first | cases h | ((try simp only [vis, Int.reduceToNat] at h); (try (exfalso; omega))))) | (with_reducible refine Vc.mk ?_; fail) | (with_reducible refine cutG ?_; fail) | refine idx_map ?_ ?_ | refine idx_mapI ?_ ?_ ?_ | (refine StopAt.mk (by decide) (by decide) ?_) | (refine StopRow.mk _ rfl ?_))))); (all_goals (try omega)); (all_goals (try ((first | with_reducible refine Vc.mk ?_ | refine Vc.mk ?_); (try exact GLt)))); (all_goals (try (exact ⟨by decide, by decide⟩))))
      ((try (conv => whnf)); refine ⟨[0, 1, 2, 3, 4, 5], rfl, rfl, ?_, ?_⟩); (repeat' (conv => whnf); (first | with_reducible refine And.intro ?_ ?_ | with_reducible exact True.intro | with_reducible exact Or.inl rfl | (refine Vc.mk ?_; (first | exact rfl | exact ⟨rfl, .inl rfl⟩ | omega | skip))))
      all_goals (try rfl)
set_option maxHeartbeats 16000000 in
set_option maxRecDepth 100000 in
theorem fnew_no (n : Int) (h : n < 1 ∨ 3 < n) : Fn Try.prog 73 [.v (.int .i64 n)] [] (.tup [.v (.pointer none), .err 1]) [] := by
  refine fn_of mixed [] [] Try.func73 rfl (by decide +kernel) Try.ntmps73 rfl (congrArg Array.toList Try.results73) rfl (by decide +kernel) ?_
  ((iterate 2 all_goals (try (repeat' (conv => whnf); (first | with_reducible refine And.intro ?_ ?_ | with_reducible exact True.intro | (intro h; (first | cases h | ((try simp only [vis, Int.reduceToNat] at h); (try (exfalso; omega))))) | (with_reducible refine Vc.mk ?_; fail) | (with_reducible refine cutG ?_; fail) | refine idx_map ?_ ?_ | refine idx_mapI ?_ ?_ ?_ | (refine StopAt.mk (by decide) (by decide) ?_) | (refine StopRow.mk _ rfl ?_))))); (all_goals (try omega)); (all_goals (try ((first | with_reducible refine Vc.mk ?_ | refine Vc.mk ?_); (try exact GLt)))); (all_goals (try (exact ⟨by decide, by decide⟩))))
  all_goals (((try (conv => whnf)); refine ⟨[], rfl, rfl, ?_, ?_⟩); (repeat' (conv => whnf); (first | with_reducible refine And.intro ?_ ?_ | with_reducible exact True.intro | with_reducible exact Or.inl rfl | (refine Vc.mk ?_; (first | exact rfl | exact ⟨rfl, .inl rfl⟩ | omega | skip)))))
def newA (E : Nat) (n : Int) (k : Nat) : AS :=
  match k with
  | 0 => ⟨[(4, .box 1 0), (15, .v (.int .i64 n)), (16, .v (.int .i64 0))], [.map (some .i64) true fun _ => none, .cells [.map 0, .arr 2 0 0], .arr false E 1 0 []]⟩
  | 1 => ⟨[(4, .box 1 0), (15, .v (.int .i64 n)), (16, .v (.int .i64 1))], [.map (some .i64) true fun _ => none, .cells [.map 0, .arr 2 1 1], .arr false E 1 1 [[.map 3]], .map (some .i64) false fun _ => none]⟩
  | 2 => ⟨[(4, .box 1 0), (15, .v (.int .i64 n)), (16, .v (.int .i64 2))], [.map (some .i64) true fun _ => none, .cells [.map 0, .arr 2 2 2], .arr false E 1 2 [[.map 3], [.map 4]], .map (some .i64) false fun _ => none, .map (some .i64) false fun _ => none]⟩
  | _ => ⟨[(4, .box 1 0), (15, .v (.int .i64 n)), (16, .v (.int .i64 3))], [.map (some .i64) true fun _ => none, .cells [.map 0, .arr 2 3 3], .arr false E 1 3 [[.map 3], [.map 4], [.map 5]], .map (some .i64) false fun _ => none, .map (some .i64) false fun _ => none, .map (some .i64) false fun _ => none]⟩
set_option maxHeartbeats 16000000 in
set_option maxRecDepth 100000 in
theorem fnew_ok (n : Nat) (h1 : 1 ≤ n) (h3 : n ≤ 3) : Fn Try.prog 73 [.v (.int .i64 n)] [] (.tup [.box 0 0, .err 0]) (baM (newB n)) := by
  have hb : baM (newB n) = baL (fun _ => none) (List.replicate n fun _ => false) := rfl
  rw [hb]
  refine fn_ofL mixed [] [] Try.func73 rfl (by decide +kernel) Try.ntmps73 rfl (congrArg Array.toList Try.results73) rfl (by decide +kernel) ?_
  ((iterate 2 all_goals (try (repeat' (conv => whnf); (first | with_reducible refine And.intro ?_ ?_ | with_reducible exact True.intro | (intro h; (first | cases h | ((try simp only [vis, Int.reduceToNat] at h); (try (exfalso; omega))))) | (with_reducible refine Vc.mk ?_; fail) | (with_reducible refine cutG ?_; fail) | refine idx_map ?_ ?_ | refine idx_mapI ?_ ?_ ?_ | (refine StopAt.mk (by decide) (by decide) ?_) | (refine StopRow.mk _ rfl ?_))))); (all_goals (try omega)); (all_goals (try ((first | with_reducible refine Vc.mk ?_ | refine Vc.mk ?_); (try exact GLt)))); (all_goals (try (exact ⟨by decide, by decide⟩))))
  refine lpG (fun k : Nat => newA 192 n k) (fun k => k ≤ n) (fun k => n - k) 0 (by omega) (AS.le_trans (le_nilAC false 1 1 192 1 _ rfl rfl) (by unfold newA; (refine le_sub [0, 1, 2] rfl rfl ?_ ?_); all_goals ((repeat' (conv => whnf); (first | with_reducible refine And.intro ?_ ?_ | with_reducible exact True.intro | with_reducible exact Or.inl rfl | (refine Vc.mk ?_; (first | exact rfl | exact ⟨rfl, .inl rfl⟩ | omega | skip)))); all_goals (try rfl)))) ?_
  intro k hk
  by_cases hkn : k < n
  · refine or4 (by omega : k = 0 ∨ k = 1 ∨ k = 2 ∨ k = 3) (fun e => ?_) (fun e => ?_) (fun e => ?_) (fun e => ?_)
    all_goals (subst e)
    all_goals (try (exfalso; omega))
    · unfold newA
      ((iterate 2 all_goals (try (repeat' (conv => whnf); (first | with_reducible refine And.intro ?_ ?_ | with_reducible exact True.intro | (intro h; (first | cases h | ((try simp only [vis, Int.reduceToNat] at h); (try (exfalso; omega))))) | (with_reducible refine Vc.mk ?_; fail) | (with_reducible refine cutG ?_; fail) | refine idx_map ?_ ?_ | refine idx_mapI ?_ ?_ ?_ | (refine StopAt.mk (by decide) (by decide) ?_) | (refine StopRow.mk _ rfl ?_))))); (all_goals (try omega)); (all_goals (try ((first | with_reducible refine Vc.mk ?_ | refine Vc.mk ?_); (try exact GLt)))); (all_goals (try (exact ⟨by decide, by decide⟩))))
      refine nextG 1 (by omega) (by omega) (by (refine le_sub [0, 1, 2, 3] rfl rfl ?_ ?_); all_goals ((repeat' (conv => whnf); (first | with_reducible refine And.intro ?_ ?_ | with_reducible exact True.intro | with_reducible exact Or.inl rfl | (refine Vc.mk ?_; (first | exact rfl | exact ⟨rfl, .inl rfl⟩ | omega | skip)))); all_goals (try rfl)))
    · unfold newA
      ((iterate 2 all_goals (try (repeat' (conv => whnf); (first | with_reducible refine And.intro ?_ ?_ | with_reducible exact True.intro | (intro h; (first | cases h | ((try simp only [vis, Int.reduceToNat] at h); (try (exfalso; omega))))) | (with_reducible refine Vc.mk ?_; fail) | (with_reducible refine cutG ?_; fail) | refine idx_map ?_ ?_ | refine idx_mapI ?_ ?_ ?_ | (refine StopAt.mk (by decide) (by decide) ?_) | (refine StopRow.mk _ rfl ?_))))); (all_goals (try omega)); (all_goals (try ((first | with_reducible refine Vc.mk ?_ | refine Vc.mk ?_); (try exact GLt)))); (all_goals (try (exact ⟨by decide, by decide⟩))))
      refine nextG 2 (by omega) (by omega) (by (refine le_sub [0, 1, 2, 3, 4] rfl rfl ?_ ?_); all_goals ((repeat' (conv => whnf); (first | with_reducible refine And.intro ?_ ?_ | with_reducible exact True.intro | with_reducible exact Or.inl rfl | (refine Vc.mk ?_; (first | exact rfl | exact ⟨rfl, .inl rfl⟩ | omega | skip)))); all_goals (try rfl)))
    · unfold newA
      ((iterate 2 all_goals (try (repeat' (conv => whnf); (first | with_reducible refine And.intro ?_ ?_ | with_reducible exact True.intro | (intro h; (first | cases h | ((try simp only [vis, Int.reduceToNat] at h); (try (exfalso; omega))))) | (with_reducible refine Vc.mk ?_; fail) | (with_reducible refine cutG ?_; fail) | refine idx_map ?_ ?_ | refine idx_mapI ?_ ?_ ?_ | (refine StopAt.mk (by decide) (by decide) ?_) | (refine StopRow.mk _ rfl ?_))))); (all_goals (try omega)); (all_goals (try ((first | with_reducible refine Vc.mk ?_ | refine Vc.mk ?_); (try exact GLt)))); (all_goals (try (exact ⟨by decide, by decide⟩))))
      refine nextG 3 (by omega) (by omega) (by (refine le_sub [0, 1, 2, 3, 4, 5] rfl rfl ?_ ?_); all_goals ((repeat' (conv => whnf); (first | with_reducible refine And.intro ?_ ?_ | with_reducible exact True.intro | with_reducible exact Or.inl rfl | (refine Vc.mk ?_; (first | exact rfl | exact ⟨rfl, .inl rfl⟩ | omega | skip)))); all_goals (try rfl)))
  · have ek : k = n := by omega
    subst ek
    clear hk hkn hb
    refine or3 (by omega : k = 1 ∨ k = 2 ∨ k = 3) (fun e => ?_) (fun e => ?_) (fun e => ?_)
    all_goals (subst e)
    · unfold newA
      ((iterate 2 all_goals (try (repeat' (conv => whnf); (first | with_reducible refine And.intro ?_ ?_ | with_reducible exact True.intro | (intro h; (first | cases h | ((try simp only [vis, Int.reduceToNat] at h); (try (exfalso; omega))))) | (with_reducible refine Vc.mk ?_; fail) | (with_reducible refine cutG ?_; fail) | refine idx_map ?_ ?_ | refine idx_mapI ?_ ?_ ?_ | (refine StopAt.mk (by decide) (by decide) ?_) | (refine StopRow.mk _ rfl ?_))))); (all_goals (try omega)); (all_goals (try ((first | with_reducible refine Vc.mk ?_ | refine Vc.mk ?_); (try exact GLt)))); (all_goals (try (exact ⟨by decide, by decide⟩))))
      ((try (conv => whnf)); refine ⟨_, AS.le_refl _ _, ?_⟩; ((try (conv => whnf)); refine ⟨[1, 0, 2, 3], rfl, rfl, ?_, ?_⟩)); (repeat' (conv => whnf); (first | with_reducible refine And.intro ?_ ?_ | with_reducible exact True.intro | with_reducible exact Or.inl rfl | (refine Vc.mk ?_; (first | exact rfl | exact ⟨rfl, .inl rfl⟩ | omega | skip))))
      all_goals (first | (exact ⟨rfl, rfl, knM_none⟩) | (exact ⟨rfl, rfl, owM_none⟩) | (exact knM_none) | (exact owM_none) | rfl)
    · unfold newA
      ((iterate 2 all_goals (try (repeat' (conv => whnf); (first | with_reducible refine And.intro ?_ ?_ | with_reducible exact True.intro | (intro h; (first | cases h | ((try simp only [vis, Int.reduceToNat] at h); (try (exfalso; omega))))) | (with_reducible refine Vc.mk ?_; fail) | (with_reducible refine cutG ?_; fail) | refine idx_map ?_ ?_ | refine idx_mapI ?_ ?_ ?_ | (refine StopAt.mk (by decide) (by decide) ?_) | (refine StopRow.mk _ rfl ?_))))); (all_goals (try omega)); (all_goals (try ((first | with_reducible refine Vc.mk ?_ | refine Vc.mk ?_); (try exact GLt)))); (all_goals (try (exact ⟨by decide, by decide⟩))))
      ((try (conv => whnf)); refine ⟨_, AS.le_refl _ _, ?_⟩; ((try (conv => whnf)); refine ⟨[1, 0, 2, 3, 4], rfl, rfl, ?_, ?_⟩)); (repeat' (conv => whnf); (first | with_reducible refine And.intro ?_ ?_ | with_reducible exact True.intro | with_reducible exact Or.inl rfl | (refine Vc.mk ?_; (first | exact rfl | exact ⟨rfl, .inl rfl⟩ | omega | skip))))
      all_goals (first | (exact ⟨rfl, rfl, knM_none⟩) | (exact ⟨rfl, rfl, owM_none⟩) | (exact knM_none) | (exact owM_none) | rfl)
    · unfold newA
      ((iterate 2 all_goals (try (repeat' (conv => whnf); (first | with_reducible refine And.intro ?_ ?_ | with_reducible exact True.intro | (intro h; (first | cases h | ((try simp only [vis, Int.reduceToNat] at h); (try (exfalso; omega))))) | (with_reducible refine Vc.mk ?_; fail) | (with_reducible refine cutG ?_; fail) | refine idx_map ?_ ?_ | refine idx_mapI ?_ ?_ ?_ | (refine StopAt.mk (by decide) (by decide) ?_) | (refine StopRow.mk _ rfl ?_))))); (all_goals (try omega)); (all_goals (try ((first | with_reducible refine Vc.mk ?_ | refine Vc.mk ?_); (try exact GLt)))); (all_goals (try (exact ⟨by decide, by decide⟩))))
      ((try (conv => whnf)); refine ⟨_, AS.le_refl _ _, ?_⟩; ((try (conv => whnf)); refine ⟨[1, 0, 2, 3, 4, 5], rfl, rfl, ?_, ?_⟩)); (repeat' (conv => whnf); (first | with_reducible refine And.intro ?_ ?_ | with_reducible exact True.intro | with_reducible exact Or.inl rfl | (refine Vc.mk ?_; (first | exact rfl | exact ⟨rfl, .inl rfl⟩ | omega | skip))))
      all_goals (first | (exact ⟨rfl, rfl, knM_none⟩) | (exact ⟨rfl, rfl, owM_none⟩) | (exact knM_none) | (exact owM_none) | rfl)
set_option maxHeartbeats 16000000 in
set_option maxRecDepth 100000 in
theorem fset_ok (kn : Int → Option St3) (ow : List (Int → Bool)) (h1 : 1 ≤ ow.length) (h3 : ow.length ≤ 3) (s : St3) (hs : s.2.2.length ≤ 1000000) : Fn Try.prog 74 [.box 0 0, .agg (stRow s)] (baL kn ow) (.err (sf s)) (baM (setB ⟨kn, ow⟩ s)) := by
  obtain ⟨q, g, l⟩ := s
  have hck := scheck_ok q g l
  have hcp := scopy_ok q g (l.map opRow) (by simpa using hs)
  have hsf : sf (q, g, l) = sfault q g l := rfl
  have hnn := sfault_nonneg q g l
  have hall := fun ow h1 h3 => fall_ok (upI kn q (some (q, g, l))) ow h1 h3 q (-1)
  refine np3 (p := fun ow => Fn Try.prog 74 [.box 0 0, .agg (stRow (q, g, l))] (baL kn ow) (.err (sf (q, g, l))) (baM (setB ⟨kn, ow⟩ (q, g, l)))) h1 h3 (fun a => ?_) (fun a b => ?_) (fun a b c => ?_)
  · by_cases h0 : sfault q g l = 0
    · have hal := hall [a] (by simp) (by simp)
      have hV : setB ⟨kn, [a]⟩ (q, g, l) = ⟨upI kn q (some (q, g, l)), allW [a] 0 q (-1)⟩ := if_pos h0
      rw [hV, hsf, h0]
      rw [h0] at hck
      unfold stRow
      refine fn_of mixed [] [] Try.func74 rfl (by decide +kernel) Try.ntmps74 rfl (congrArg Array.toList Try.results74) rfl (by decide +kernel) ?_
      ((iterate 2 all_goals (try (repeat' (conv => whnf); (first | with_reducible refine And.intro ?_ ?_ | with_reducible exact True.intro | (intro h; (first | cases h | ((try simp only [vis, Int.reduceToNat] at h); (try (exfalso; omega))))) | (with_reducible refine Vc.mk ?_; fail) | (with_reducible refine cutG ?_; fail) | refine idx_map ?_ ?_ | refine idx_mapI ?_ ?_ ?_ | (refine StopAt.mk (by decide) (by decide) ?_) | (refine StopRow.mk _ rfl ?_))))); (all_goals (try omega)); (all_goals (try ((first | with_reducible refine Vc.mk ?_ | refine Vc.mk ?_); (try exact GLt)))); (all_goals (try (exact ⟨by decide, by decide⟩))))
      (all_goals (try ((first | (refine call0 (hck) ?_ ?_) | (refine pure0 (hck) rfl ?_ ?_)); (· (repeat' (conv => whnf); (first | with_reducible refine And.intro ?_ ?_ | with_reducible exact True.intro | with_reducible exact Or.inl rfl | (refine Vc.mk ?_; (first | exact rfl | exact ⟨rfl, .inl rfl⟩ | omega | skip))))); (iterate 2 all_goals (try (repeat' (conv => whnf); (first | with_reducible refine And.intro ?_ ?_ | with_reducible exact True.intro | (intro h; (first | cases h | ((try simp only [vis, Int.reduceToNat] at h); (try (exfalso; omega))))) | (with_reducible refine Vc.mk ?_; fail) | (with_reducible refine cutG ?_; fail) | refine idx_map ?_ ?_ | refine idx_mapI ?_ ?_ ?_ )))))))
      ((iterate 2 all_goals (try (repeat' (conv => whnf); (first | with_reducible refine And.intro ?_ ?_ | with_reducible exact True.intro | (intro h; (first | cases h | ((try simp only [vis, Int.reduceToNat] at h); (try (exfalso; omega))))) | (with_reducible refine Vc.mk ?_; fail) | (with_reducible refine cutG ?_; fail) | refine idx_map ?_ ?_ | refine idx_mapI ?_ ?_ ?_ | (refine StopAt.mk (by decide) (by decide) ?_) | (refine StopRow.mk _ rfl ?_))))); (all_goals (try omega)); (all_goals (try ((first | with_reducible refine Vc.mk ?_ | refine Vc.mk ?_); (try exact GLt)))); (all_goals (try (exact ⟨by decide, by decide⟩))))
      (all_goals (try ((first | (refine call0 (hcp) ?_ ?_) | (refine pure0 (hcp) rfl ?_ ?_)); (· (repeat' (conv => whnf); (first | with_reducible refine And.intro ?_ ?_ | with_reducible exact True.intro | with_reducible exact Or.inl rfl | (refine Vc.mk ?_; (first | exact rfl | exact ⟨rfl, .inl rfl⟩ | omega | skip))))); (iterate 2 all_goals (try (repeat' (conv => whnf); (first | with_reducible refine And.intro ?_ ?_ | with_reducible exact True.intro | (intro h; (first | cases h | ((try simp only [vis, Int.reduceToNat] at h); (try (exfalso; omega))))) | (with_reducible refine Vc.mk ?_; fail) | (with_reducible refine cutG ?_; fail) | refine idx_map ?_ ?_ | refine idx_mapI ?_ ?_ ?_ )))))))
      ((iterate 2 all_goals (try (repeat' (conv => whnf); (first | with_reducible refine And.intro ?_ ?_ | with_reducible exact True.intro | (intro h; (first | cases h | ((try simp only [vis, Int.reduceToNat] at h); (try (exfalso; omega))))) | (with_reducible refine Vc.mk ?_; fail) | (with_reducible refine cutG ?_; fail) | refine idx_map ?_ ?_ | refine idx_mapI ?_ ?_ ?_ | (refine StopAt.mk (by decide) (by decide) ?_) | (refine StopRow.mk _ rfl ?_))))); (all_goals (try omega)); (all_goals (try ((first | with_reducible refine Vc.mk ?_ | refine Vc.mk ?_); (try exact GLt)))); (all_goals (try (exact ⟨by decide, by decide⟩))))
      (refine ⟨_, _, _, _, [0, 1, 2, 3], hal, rfl, rfl, rfl, ?_, ?_, ?_⟩)
      · (repeat' (conv => whnf); (first | with_reducible refine And.intro ?_ ?_ | with_reducible exact True.intro | with_reducible exact Or.inl rfl | (refine Vc.mk ?_; (first | exact rfl | exact ⟨rfl, .inl rfl⟩ | omega | skip))))
        all_goals (first | rfl | (exact updF_kn (s := (q, g, l))))
      · (repeat' (conv => whnf); (first | with_reducible refine And.intro ?_ ?_ | with_reducible exact True.intro | with_reducible exact Or.inl rfl | (refine Vc.mk ?_; (first | exact rfl | exact ⟨rfl, .inl rfl⟩ | omega | skip))))
      ((iterate 2 all_goals (try (repeat' (conv => whnf); (first | with_reducible refine And.intro ?_ ?_ | with_reducible exact True.intro | (intro h; (first | cases h | ((try simp only [vis, Int.reduceToNat] at h); (try (exfalso; omega))))) | (with_reducible refine Vc.mk ?_; fail) | (with_reducible refine cutG ?_; fail) | refine idx_map ?_ ?_ | refine idx_mapI ?_ ?_ ?_ | (refine StopAt.mk (by decide) (by decide) ?_) | (refine StopRow.mk _ rfl ?_))))); (all_goals (try omega)); (all_goals (try ((first | with_reducible refine Vc.mk ?_ | refine Vc.mk ?_); (try exact GLt)))); (all_goals (try (exact ⟨by decide, by decide⟩))))
      ((try (conv => whnf)); refine ⟨[0, 1, 2, 3], rfl, rfl, ?_, ?_⟩); (repeat' (conv => whnf); (first | with_reducible refine And.intro ?_ ?_ | with_reducible exact True.intro | with_reducible exact Or.inl rfl | (refine Vc.mk ?_; (first | exact rfl | exact ⟨rfl, .inl rfl⟩ | omega | skip))))
      all_goals (try rfl)
    · have hV : setB ⟨kn, [a]⟩ (q, g, l) = ⟨kn, [a]⟩ := if_neg h0
      rw [hV, hsf]
      generalize sfault q g l = F at *
      unfold stRow
      refine fn_of mixed [] [] Try.func74 rfl (by decide +kernel) Try.ntmps74 rfl (congrArg Array.toList Try.results74) rfl (by decide +kernel) ?_
      ((iterate 2 all_goals (try (repeat' (conv => whnf); (first | with_reducible refine And.intro ?_ ?_ | with_reducible exact True.intro | (intro h; (first | cases h | ((try simp only [vis, Int.reduceToNat] at h); (try (exfalso; omega))))) | (with_reducible refine Vc.mk ?_; fail) | (with_reducible refine cutG ?_; fail) | refine idx_map ?_ ?_ | refine idx_mapI ?_ ?_ ?_ | (refine StopAt.mk (by decide) (by decide) ?_) | (refine StopRow.mk _ rfl ?_))))); (all_goals (try omega)); (all_goals (try ((first | with_reducible refine Vc.mk ?_ | refine Vc.mk ?_); (try exact GLt)))); (all_goals (try (exact ⟨by decide, by decide⟩))))
      (all_goals (try ((first | (refine call0 (hck) ?_ ?_) | (refine pure0 (hck) rfl ?_ ?_)); (· (repeat' (conv => whnf); (first | with_reducible refine And.intro ?_ ?_ | with_reducible exact True.intro | with_reducible exact Or.inl rfl | (refine Vc.mk ?_; (first | exact rfl | exact ⟨rfl, .inl rfl⟩ | omega | skip))))); (iterate 2 all_goals (try (repeat' (conv => whnf); (first | with_reducible refine And.intro ?_ ?_ | with_reducible exact True.intro | (intro h; (first | cases h | ((try simp only [vis, Int.reduceToNat] at h); (try (exfalso; omega))))) | (with_reducible refine Vc.mk ?_; fail) | (with_reducible refine cutG ?_; fail) | refine idx_map ?_ ?_ | refine idx_mapI ?_ ?_ ?_ )))))))
      ((iterate 2 all_goals (try (repeat' (conv => whnf); (first | with_reducible refine And.intro ?_ ?_ | with_reducible exact True.intro | (intro h; (first | cases h | ((try simp only [vis, Int.reduceToNat] at h); (try (exfalso; omega))))) | (with_reducible refine Vc.mk ?_; fail) | (with_reducible refine cutG ?_; fail) | refine idx_map ?_ ?_ | refine idx_mapI ?_ ?_ ?_ | (refine StopAt.mk (by decide) (by decide) ?_) | (refine StopRow.mk _ rfl ?_))))); (all_goals (try omega)); (all_goals (try ((first | with_reducible refine Vc.mk ?_ | refine Vc.mk ?_); (try exact GLt)))); (all_goals (try (exact ⟨by decide, by decide⟩))))
      all_goals (((try (conv => whnf)); refine ⟨[0, 1, 2, 3], rfl, rfl, ?_, ?_⟩); (repeat' (conv => whnf); (first | with_reducible refine And.intro ?_ ?_ | with_reducible exact True.intro | with_reducible exact Or.inl rfl | (refine Vc.mk ?_; (first | exact rfl | exact ⟨rfl, .inl rfl⟩ | omega | skip)))); all_goals rfl)
  · by_cases h0 : sfault q g l = 0
    · have hal := hall [a, b] (by simp) (by simp)
      have hV : setB ⟨kn, [a, b]⟩ (q, g, l) = ⟨upI kn q (some (q, g, l)), allW [a, b] 0 q (-1)⟩ := if_pos h0
      rw [hV, hsf, h0]
      rw [h0] at hck
      unfold stRow
      refine fn_of mixed [] [] Try.func74 rfl (by decide +kernel) Try.ntmps74 rfl (congrArg Array.toList Try.results74) rfl (by decide +kernel) ?_
      ((iterate 2 all_goals (try (repeat' (conv => whnf); (first | with_reducible refine And.intro ?_ ?_ | with_reducible exact True.intro | (intro h; (first | cases h | ((try simp only [vis, Int.reduceToNat] at h); (try (exfalso; omega))))) | (with_reducible refine Vc.mk ?_; fail) | (with_reducible refine cutG ?_; fail) | refine idx_map ?_ ?_ | refine idx_mapI ?_ ?_ ?_ | (refine StopAt.mk (by decide) (by decide) ?_) | (refine StopRow.mk _ rfl ?_))))); (all_goals (try omega)); (all_goals (try ((first | with_reducible refine Vc.mk ?_ | refine Vc.mk ?_); (try exact GLt)))); (all_goals (try (exact ⟨by decide, by decide⟩))))
      (all_goals (try ((first | (refine call0 (hck) ?_ ?_) | (refine pure0 (hck) rfl ?_ ?_)); (· (repeat' (conv => whnf); (first | with_reducible refine And.intro ?_ ?_ | with_reducible exact True.intro | with_reducible exact Or.inl rfl | (refine Vc.mk ?_; (first | exact rfl | exact ⟨rfl, .inl rfl⟩ | omega | skip))))); (iterate 2 all_goals (try (repeat' (conv => whnf); (first | with_reducible refine And.intro ?_ ?_ | with_reducible exact True.intro | (intro h; (first | cases h | ((try simp only [vis, Int.reduceToNat] at h); (try (exfalso; omega))))) | (with_reducible refine Vc.mk ?_; fail) | (with_reducible refine cutG ?_; fail) | refine idx_map ?_ ?_ | refine idx_mapI ?_ ?_ ?_ )))))))
      ((iterate 2 all_goals (try (repeat' (conv => whnf); (first | with_reducible refine And.intro ?_ ?_ | with_reducible exact True.intro | (intro h; (first | cases h | ((try simp only [vis, Int.reduceToNat] at h); (try (exfalso; omega))))) | (with_reducible refine Vc.mk ?_; fail) | (with_reducible refine cutG ?_; fail) | refine idx_map ?_ ?_ | refine idx_mapI ?_ ?_ ?_ | (refine StopAt.mk (by decide) (by decide) ?_) | (refine StopRow.mk _ rfl ?_))))); (all_goals (try omega)); (all_goals (try ((first | with_reducible refine Vc.mk ?_ | refine Vc.mk ?_); (try exact GLt)))); (all_goals (try (exact ⟨by decide, by decide⟩))))
      (all_goals (try ((first | (refine call0 (hcp) ?_ ?_) | (refine pure0 (hcp) rfl ?_ ?_)); (· (repeat' (conv => whnf); (first | with_reducible refine And.intro ?_ ?_ | with_reducible exact True.intro | with_reducible exact Or.inl rfl | (refine Vc.mk ?_; (first | exact rfl | exact ⟨rfl, .inl rfl⟩ | omega | skip))))); (iterate 2 all_goals (try (repeat' (conv => whnf); (first | with_reducible refine And.intro ?_ ?_ | with_reducible exact True.intro | (intro h; (first | cases h | ((try simp only [vis, Int.reduceToNat] at h); (try (exfalso; omega))))) | (with_reducible refine Vc.mk ?_; fail) | (with_reducible refine cutG ?_; fail) | refine idx_map ?_ ?_ | refine idx_mapI ?_ ?_ ?_ )))))))
      ((iterate 2 all_goals (try (repeat' (conv => whnf); (first | with_reducible refine And.intro ?_ ?_ | with_reducible exact True.intro | (intro h; (first | cases h | ((try simp only [vis, Int.reduceToNat] at h); (try (exfalso; omega))))) | (with_reducible refine Vc.mk ?_; fail) | (with_reducible refine cutG ?_; fail) | refine idx_map ?_ ?_ | refine idx_mapI ?_ ?_ ?_ | (refine StopAt.mk (by decide) (by decide) ?_) | (refine StopRow.mk _ rfl ?_))))); (all_goals (try omega)); (all_goals (try ((first | with_reducible refine Vc.mk ?_ | refine Vc.mk ?_); (try exact GLt)))); (all_goals (try (exact ⟨by decide, by decide⟩))))
      (refine ⟨_, _, _, _, [0, 1, 2, 3, 4], hal, rfl, rfl, rfl, ?_, ?_, ?_⟩)
      · (repeat' (conv => whnf); (first | with_reducible refine And.intro ?_ ?_ | with_reducible exact True.intro | with_reducible exact Or.inl rfl | (refine Vc.mk ?_; (first | exact rfl | exact ⟨rfl, .inl rfl⟩ | omega | skip))))
        all_goals (first | rfl | (exact updF_kn (s := (q, g, l))))
      · (repeat' (conv => whnf); (first | with_reducible refine And.intro ?_ ?_ | with_reducible exact True.intro | with_reducible exact Or.inl rfl | (refine Vc.mk ?_; (first | exact rfl | exact ⟨rfl, .inl rfl⟩ | omega | skip))))
      ((iterate 2 all_goals (try (repeat' (conv => whnf); (first | with_reducible refine And.intro ?_ ?_ | with_reducible exact True.intro | (intro h; (first | cases h | ((try simp only [vis, Int.reduceToNat] at h); (try (exfalso; omega))))) | (with_reducible refine Vc.mk ?_; fail) | (with_reducible refine cutG ?_; fail) | refine idx_map ?_ ?_ | refine idx_mapI ?_ ?_ ?_ | (refine StopAt.mk (by decide) (by decide) ?_) | (refine StopRow.mk _ rfl ?_))))); (all_goals (try omega)); (all_goals (try ((first | with_reducible refine Vc.mk ?_ | refine Vc.mk ?_); (try exact GLt)))); (all_goals (try (exact ⟨by decide, by decide⟩))))
      ((try (conv => whnf)); refine ⟨[0, 1, 2, 3, 4], rfl, rfl, ?_, ?_⟩); (repeat' (conv => whnf); (first | with_reducible refine And.intro ?_ ?_ | with_reducible exact True.intro | with_reducible exact Or.inl rfl | (refine Vc.mk ?_; (first | exact rfl | exact ⟨rfl, .inl rfl⟩ | omega | skip))))
      all_goals (try rfl)
    · have hV : setB ⟨kn, [a, b]⟩ (q, g, l) = ⟨kn, [a, b]⟩ := if_neg h0
      rw [hV, hsf]
      generalize sfault q g l = F at *
      unfold stRow
      refine fn_of mixed [] [] Try.func74 rfl (by decide +kernel) Try.ntmps74 rfl (congrArg Array.toList Try.results74) rfl (by decide +kernel) ?_
      ((iterate 2 all_goals (try (repeat' (conv => whnf); (first | with_reducible refine And.intro ?_ ?_ | with_reducible exact True.intro | (intro h; (first | cases h | ((try simp only [vis, Int.reduceToNat] at h); (try (exfalso; omega))))) | (with_reducible refine Vc.mk ?_; fail) | (with_reducible refine cutG ?_; fail) | refine idx_map ?_ ?_ | refine idx_mapI ?_ ?_ ?_ | (refine StopAt.mk (by decide) (by decide) ?_) | (refine StopRow.mk _ rfl ?_))))); (all_goals (try omega)); (all_goals (try ((first | with_reducible refine Vc.mk ?_ | refine Vc.mk ?_); (try exact GLt)))); (all_goals (try (exact ⟨by decide, by decide⟩))))
      (all_goals (try ((first | (refine call0 (hck) ?_ ?_) | (refine pure0 (hck) rfl ?_ ?_)); (· (repeat' (conv => whnf); (first | with_reducible refine And.intro ?_ ?_ | with_reducible exact True.intro | with_reducible exact Or.inl rfl | (refine Vc.mk ?_; (first | exact rfl | exact ⟨rfl, .inl rfl⟩ | omega | skip))))); (iterate 2 all_goals (try (repeat' (conv => whnf); (first | with_reducible refine And.intro ?_ ?_ | with_reducible exact True.intro | (intro h; (first | cases h | ((try simp only [vis, Int.reduceToNat] at h); (try (exfalso; omega))))) | (with_reducible refine Vc.mk ?_; fail) | (with_reducible refine cutG ?_; fail) | refine idx_map ?_ ?_ | refine idx_mapI ?_ ?_ ?_ )))))))
      ((iterate 2 all_goals (try (repeat' (conv => whnf); (first | with_reducible refine And.intro ?_ ?_ | with_reducible exact True.intro | (intro h; (first | cases h | ((try simp only [vis, Int.reduceToNat] at h); (try (exfalso; omega))))) | (with_reducible refine Vc.mk ?_; fail) | (with_reducible refine cutG ?_; fail) | refine idx_map ?_ ?_ | refine idx_mapI ?_ ?_ ?_ | (refine StopAt.mk (by decide) (by decide) ?_) | (refine StopRow.mk _ rfl ?_))))); (all_goals (try omega)); (all_goals (try ((first | with_reducible refine Vc.mk ?_ | refine Vc.mk ?_); (try exact GLt)))); (all_goals (try (exact ⟨by decide, by decide⟩))))
      all_goals (((try (conv => whnf)); refine ⟨[0, 1, 2, 3, 4], rfl, rfl, ?_, ?_⟩); (repeat' (conv => whnf); (first | with_reducible refine And.intro ?_ ?_ | with_reducible exact True.intro | with_reducible exact Or.inl rfl | (refine Vc.mk ?_; (first | exact rfl | exact ⟨rfl, .inl rfl⟩ | omega | skip)))); all_goals rfl)
  · by_cases h0 : sfault q g l = 0
    · have hal := hall [a, b, c] (by simp) (by simp)
      have hV : setB ⟨kn, [a, b, c]⟩ (q, g, l) = ⟨upI kn q (some (q, g, l)), allW [a, b, c] 0 q (-1)⟩ := if_pos h0
      rw [hV, hsf, h0]
      rw [h0] at hck
      unfold stRow
      refine fn_of mixed [] [] Try.func74 rfl (by decide +kernel) Try.ntmps74 rfl (congrArg Array.toList Try.results74) rfl (by decide +kernel) ?_
      ((iterate 2 all_goals (try (repeat' (conv => whnf); (first | with_reducible refine And.intro ?_ ?_ | with_reducible exact True.intro | (intro h; (first | cases h | ((try simp only [vis, Int.reduceToNat] at h); (try (exfalso; omega))))) | (with_reducible refine Vc.mk ?_; fail) | (with_reducible refine cutG ?_; fail) | refine idx_map ?_ ?_ | refine idx_mapI ?_ ?_ ?_ | (refine StopAt.mk (by decide) (by decide) ?_) | (refine StopRow.mk _ rfl ?_))))); (all_goals (try omega)); (all_goals (try ((first | with_reducible refine Vc.mk ?_ | refine Vc.mk ?_); (try exact GLt)))); (all_goals (try (exact ⟨by decide, by decide⟩))))
      (all_goals (try ((first | (refine call0 (hck) ?_ ?_) | (refine pure0 (hck) rfl ?_ ?_)); (· (repeat' (conv => whnf); (first | with_reducible refine And.intro ?_ ?_ | with_reducible exact True.intro | with_reducible exact Or.inl rfl | (refine Vc.mk ?_; (first | exact rfl | exact ⟨rfl, .inl rfl⟩ | omega | skip))))); (iterate 2 all_goals (try (repeat' (conv => whnf); (first | with_reducible refine And.intro ?_ ?_ | with_reducible exact True.intro | (intro h; (first | cases h | ((try simp only [vis, Int.reduceToNat] at h); (try (exfalso; omega))))) | (with_reducible refine Vc.mk ?_; fail) | (with_reducible refine cutG ?_; fail) | refine idx_map ?_ ?_ | refine idx_mapI ?_ ?_ ?_ )))))))
      ((iterate 2 all_goals (try (repeat' (conv => whnf); (first | with_reducible refine And.intro ?_ ?_ | with_reducible exact True.intro | (intro h; (first | cases h | ((try simp only [vis, Int.reduceToNat] at h); (try (exfalso; omega))))) | (with_reducible refine Vc.mk ?_; fail) | (with_reducible refine cutG ?_; fail) | refine idx_map ?_ ?_ | refine idx_mapI ?_ ?_ ?_ | (refine StopAt.mk (by decide) (by decide) ?_) | (refine StopRow.mk _ rfl ?_))))); (all_goals (try omega)); (all_goals (try ((first | with_reducible refine Vc.mk ?_ | refine Vc.mk ?_); (try exact GLt)))); (all_goals (try (exact ⟨by decide, by decide⟩))))
      (all_goals (try ((first | (refine call0 (hcp) ?_ ?_) | (refine pure0 (hcp) rfl ?_ ?_)); (· (repeat' (conv => whnf); (first | with_reducible refine And.intro ?_ ?_ | with_reducible exact True.intro | with_reducible exact Or.inl rfl | (refine Vc.mk ?_; (first | exact rfl | exact ⟨rfl, .inl rfl⟩ | omega | skip))))); (iterate 2 all_goals (try (repeat' (conv => whnf); (first | with_reducible refine And.intro ?_ ?_ | with_reducible exact True.intro | (intro h; (first | cases h | ((try simp only [vis, Int.reduceToNat] at h); (try (exfalso; omega))))) | (with_reducible refine Vc.mk ?_; fail) | (with_reducible refine cutG ?_; fail) | refine idx_map ?_ ?_ | refine idx_mapI ?_ ?_ ?_ )))))))
      ((iterate 2 all_goals (try (repeat' (conv => whnf); (first | with_reducible refine And.intro ?_ ?_ | with_reducible exact True.intro | (intro h; (first | cases h | ((try simp only [vis, Int.reduceToNat] at h); (try (exfalso; omega))))) | (with_reducible refine Vc.mk ?_; fail) | (with_reducible refine cutG ?_; fail) | refine idx_map ?_ ?_ | refine idx_mapI ?_ ?_ ?_ | (refine StopAt.mk (by decide) (by decide) ?_) | (refine StopRow.mk _ rfl ?_))))); (all_goals (try omega)); (all_goals (try ((first | with_reducible refine Vc.mk ?_ | refine Vc.mk ?_); (try exact GLt)))); (all_goals (try (exact ⟨by decide, by decide⟩))))
      (refine ⟨_, _, _, _, [0, 1, 2, 3, 4, 5], hal, rfl, rfl, rfl, ?_, ?_, ?_⟩)
      · (repeat' (conv => whnf); (first | with_reducible refine And.intro ?_ ?_ | with_reducible exact True.intro | with_reducible exact Or.inl rfl | (refine Vc.mk ?_; (first | exact rfl | exact ⟨rfl, .inl rfl⟩ | omega | skip))))
        all_goals (first | rfl | (exact updF_kn (s := (q, g, l))))
      · (repeat' (conv => whnf); (first | with_reducible refine And.intro ?_ ?_ | with_reducible exact True.intro | with_reducible exact Or.inl rfl | (refine Vc.mk ?_; (first | exact rfl | exact ⟨rfl, .inl rfl⟩ | omega | skip))))
      ((iterate 2 all_goals (try (repeat' (conv => whnf); (first | with_reducible refine And.intro ?_ ?_ | with_reducible exact True.intro | (intro h; (first | cases h | ((try simp only [vis, Int.reduceToNat] at h); (try (exfalso; omega))))) | (with_reducible refine Vc.mk ?_; fail) | (with_reducible refine cutG ?_; fail) | refine idx_map ?_ ?_ | refine idx_mapI ?_ ?_ ?_ | (refine StopAt.mk (by decide) (by decide) ?_) | (refine StopRow.mk _ rfl ?_))))); (all_goals (try omega)); (all_goals (try ((first | with_reducible refine Vc.mk ?_ | refine Vc.mk ?_); (try exact GLt)))); (all_goals (try (exact ⟨by decide, by decide⟩))))
      ((try (conv => whnf)); refine ⟨[0, 1, 2, 3, 4, 5], rfl, rfl, ?_, ?_⟩); (repeat' (conv => whnf); (first | with_reducible refine And.intro ?_ ?_ | with_reducible exact True.intro | with_reducible exact Or.inl rfl | (refine Vc.mk ?_; (first | exact rfl | exact ⟨rfl, .inl rfl⟩ | omega | skip))))
      all_goals (try rfl)
    · have hV : setB ⟨kn, [a, b, c]⟩ (q, g, l) = ⟨kn, [a, b, c]⟩ := if_neg h0
      rw [hV, hsf]
      generalize sfault q g l = F at *
      unfold stRow
      refine fn_of mixed [] [] Try.func74 rfl (by decide +kernel) Try.ntmps74 rfl (congrArg Array.toList Try.results74) rfl (by decide +kernel) ?_
      ((iterate 2 all_goals (try (repeat' (conv => whnf); (first | with_reducible refine And.intro ?_ ?_ | with_reducible exact True.intro | (intro h; (first | cases h | ((try simp only [vis, Int.reduceToNat] at h); (try (exfalso; omega))))) | (with_reducible refine Vc.mk ?_; fail) | (with_reducible refine cutG ?_; fail) | refine idx_map ?_ ?_ | refine idx_mapI ?_ ?_ ?_ | (refine StopAt.mk (by decide) (by decide) ?_) | (refine StopRow.mk _ rfl ?_))))); (all_goals (try omega)); (all_goals (try ((first | with_reducible refine Vc.mk ?_ | refine Vc.mk ?_); (try exact GLt)))); (all_goals (try (exact ⟨by decide, by decide⟩))))
      (all_goals (try ((first | (refine call0 (hck) ?_ ?_) | (refine pure0 (hck) rfl ?_ ?_)); (· (repeat' (conv => whnf); (first | with_reducible refine And.intro ?_ ?_ | with_reducible exact True.intro | with_reducible exact Or.inl rfl | (refine Vc.mk ?_; (first | exact rfl | exact ⟨rfl, .inl rfl⟩ | omega | skip))))); (iterate 2 all_goals (try (repeat' (conv => whnf); (first | with_reducible refine And.intro ?_ ?_ | with_reducible exact True.intro | (intro h; (first | cases h | ((try simp only [vis, Int.reduceToNat] at h); (try (exfalso; omega))))) | (with_reducible refine Vc.mk ?_; fail) | (with_reducible refine cutG ?_; fail) | refine idx_map ?_ ?_ | refine idx_mapI ?_ ?_ ?_ )))))))
      ((iterate 2 all_goals (try (repeat' (conv => whnf); (first | with_reducible refine And.intro ?_ ?_ | with_reducible exact True.intro | (intro h; (first | cases h | ((try simp only [vis, Int.reduceToNat] at h); (try (exfalso; omega))))) | (with_reducible refine Vc.mk ?_; fail) | (with_reducible refine cutG ?_; fail) | refine idx_map ?_ ?_ | refine idx_mapI ?_ ?_ ?_ | (refine StopAt.mk (by decide) (by decide) ?_) | (refine StopRow.mk _ rfl ?_))))); (all_goals (try omega)); (all_goals (try ((first | with_reducible refine Vc.mk ?_ | refine Vc.mk ?_); (try exact GLt)))); (all_goals (try (exact ⟨by decide, by decide⟩))))
      all_goals (((try (conv => whnf)); refine ⟨[0, 1, 2, 3, 4, 5], rfl, rfl, ?_, ?_⟩); (repeat' (conv => whnf); (first | with_reducible refine And.intro ?_ ?_ | with_reducible exact True.intro | with_reducible exact Or.inl rfl | (refine Vc.mk ?_; (first | exact rfl | exact ⟨rfl, .inl rfl⟩ | omega | skip)))); all_goals rfl)
set_option maxHeartbeats 16000000 in
set_option maxRecDepth 100000 in
theorem fheard_ok (kn : Int → Option St3) (ow : List (Int → Bool)) (h1 : 1 ≤ ow.length) (h3 : ow.length ≤ 3) (hkn : ∀ n s, kn n = some s → s.1 = n ∧ sf s = 0) (p : Int) (s : St3) : Fn Try.prog 78 [.box 0 0, .v (.int .i64 p), .agg (stRow s)] (baL kn ow) (.err (takeE ⟨kn, ow⟩ p s)) (baM (hrdB ⟨kn, ow⟩ p s)) := by
  obtain ⟨q, g, l⟩ := s
  have hck := scheck_ok q g l
  have hsf : sf (q, g, l) = sfault q g l := rfl
  have hnn := sfault_nonneg q g l
  have hll : sfault q g l = 0 → l.length ≤ 1000000 := fun h => by have := (sfault_good h).2.2.2.2.1; omega
  refine np3 (p := fun ow => Fn Try.prog 78 [.box 0 0, .v (.int .i64 p), .agg (stRow (q, g, l))] (baL kn ow) (.err (takeE ⟨kn, ow⟩ p (q, g, l))) (baM (hrdB ⟨kn, ow⟩ p (q, g, l)))) h1 h3 (fun a => ?_) (fun a b => ?_) (fun a b c => ?_)
  · by_cases hp : 0 ≤ p ∧ p < 1
    · have hin : inP ⟨kn, [a]⟩ p = true := by simp [inP]; omega
      by_cases h0 : sfault q g l = 0
      · have hE : takeE ⟨kn, [a]⟩ p (q, g, l) = 0 := (if_pos hin).trans h0
        rw [hE]
        rw [h0] at hck
        have hl := hll h0
        cases hk : kn q with
        | none =>
          have hw := snewer_ok 0 0 q g [] l (by decide) hl
          have hlo : orL [cmpI 0 g, cmpE [] l] ≤ 0 := by
            have hg := (sfault_good h0).2.2.1
            rw [orL2]
            have : cmpI 0 g = -1 := if_pos (by omega)
            rw [this, if_pos (by decide)]; decide
          have hV : hrdB ⟨kn, [a]⟩ p (q, g, l) = ⟨kn, modW [a] p fun o => upI o q false⟩ := if_pos ⟨hin, h0, by unfold hrK; dsimp only; rw [hk]; show (-1 : Int) ≤ 0; decide⟩
          rw [hV]
          have hlook : knM kn (.int .i64 q) = none := by simp [knM, hk]
          generalize orL [cmpI 0 g, cmpE [] l] = v at *
          refine or3 (by omega : p = 0 ∨ p = 1 ∨ p = 2) (fun e => ?_) (fun e => ?_) (fun e => ?_)
          all_goals (subst e)
          all_goals (try (exfalso; omega))
          all_goals
            unfold stRow
            refine fn_of mixed [] [] Try.func78 rfl (by decide +kernel) Try.ntmps78 rfl (congrArg Array.toList Try.results78) rfl (by decide +kernel) ?_
            ((iterate 2 all_goals (try (repeat' (conv => whnf); (first | with_reducible refine And.intro ?_ ?_ | with_reducible exact True.intro | (intro h; (first | cases h | ((try simp only [vis, Int.reduceToNat] at h); (try (exfalso; omega))))) | (with_reducible refine Vc.mk ?_; fail) | (with_reducible refine cutG ?_; fail) | refine idx_map ?_ ?_ | refine idx_mapI ?_ ?_ ?_ | (refine StopAt.mk (by decide) (by decide) ?_) | (refine StopRow.mk _ rfl ?_))))); (all_goals (try omega)); (all_goals (try ((first | with_reducible refine Vc.mk ?_ | refine Vc.mk ?_); (try exact GLt)))); (all_goals (try (exact ⟨by decide, by decide⟩))))
            (all_goals (try ((first | (refine call0 (hck) ?_ ?_) | (refine pure0 (hck) rfl ?_ ?_)); (· (repeat' (conv => whnf); (first | with_reducible refine And.intro ?_ ?_ | with_reducible exact True.intro | with_reducible exact Or.inl rfl | (refine Vc.mk ?_; (first | exact rfl | exact ⟨rfl, .inl rfl⟩ | omega | skip))))); (iterate 2 all_goals (try (repeat' (conv => whnf); (first | with_reducible refine And.intro ?_ ?_ | with_reducible exact True.intro | (intro h; (first | cases h | ((try simp only [vis, Int.reduceToNat] at h); (try (exfalso; omega))))) | (with_reducible refine Vc.mk ?_; fail) | (with_reducible refine cutG ?_; fail) | refine idx_map ?_ ?_ | refine idx_mapI ?_ ?_ ?_ )))))))
            ((iterate 2 all_goals (try (repeat' (conv => whnf); (first | with_reducible refine And.intro ?_ ?_ | with_reducible exact True.intro | (intro h; (first | cases h | ((try simp only [vis, Int.reduceToNat] at h); (try (exfalso; omega))))) | (with_reducible refine Vc.mk ?_; fail) | (with_reducible refine cutG ?_; fail) | refine idx_map ?_ ?_ | refine idx_mapI ?_ ?_ ?_ | (refine StopAt.mk (by decide) (by decide) ?_) | (refine StopRow.mk _ rfl ?_))))); (all_goals (try omega)); (all_goals (try ((first | with_reducible refine Vc.mk ?_ | refine Vc.mk ?_); (try exact GLt)))); (all_goals (try (exact ⟨by decide, by decide⟩))))
            (refine lookN hlook ?_)
            ((iterate 2 all_goals (try (repeat' (conv => whnf); (first | with_reducible refine And.intro ?_ ?_ | with_reducible exact True.intro | (intro h; (first | cases h | ((try simp only [vis, Int.reduceToNat] at h); (try (exfalso; omega))))) | (with_reducible refine Vc.mk ?_; fail) | (with_reducible refine cutG ?_; fail) | refine idx_map ?_ ?_ | refine idx_mapI ?_ ?_ ?_ | (refine StopAt.mk (by decide) (by decide) ?_) | (refine StopRow.mk _ rfl ?_))))); (all_goals (try omega)); (all_goals (try ((first | with_reducible refine Vc.mk ?_ | refine Vc.mk ?_); (try exact GLt)))); (all_goals (try (exact ⟨by decide, by decide⟩))))
            (refine ⟨_, _, _, _, [], hw, rfl, rfl, rfl, ?_, ?_, ?_⟩)
            · (repeat' (conv => whnf); (first | with_reducible refine And.intro ?_ ?_ | with_reducible exact True.intro | with_reducible exact Or.inl rfl | (refine Vc.mk ?_; (first | exact rfl | exact ⟨rfl, .inl rfl⟩ | omega | skip))))
            · (repeat' (conv => whnf); (first | with_reducible refine And.intro ?_ ?_ | with_reducible exact True.intro | with_reducible exact Or.inl rfl | (refine Vc.mk ?_; (first | exact rfl | exact ⟨rfl, .inl rfl⟩ | omega | skip))))
            ((iterate 2 all_goals (try (repeat' (conv => whnf); (first | with_reducible refine And.intro ?_ ?_ | with_reducible exact True.intro | (intro h; (first | cases h | ((try simp only [vis, Int.reduceToNat] at h); (try (exfalso; omega))))) | (with_reducible refine Vc.mk ?_; fail) | (with_reducible refine cutG ?_; fail) | refine idx_map ?_ ?_ | refine idx_mapI ?_ ?_ ?_ | (refine StopAt.mk (by decide) (by decide) ?_) | (refine StopRow.mk _ rfl ?_))))); (all_goals (try omega)); (all_goals (try ((first | with_reducible refine Vc.mk ?_ | refine Vc.mk ?_); (try exact GLt)))); (all_goals (try (exact ⟨by decide, by decide⟩))))
            ((try (conv => whnf)); refine ⟨[0, 1, 2, 3], rfl, rfl, ?_, ?_⟩); (repeat' (conv => whnf); (first | with_reducible refine And.intro ?_ ?_ | with_reducible exact True.intro | with_reducible exact Or.inl rfl | (refine Vc.mk ?_; (first | exact rfl | exact ⟨rfl, .inl rfl⟩ | omega | skip))))
            all_goals (first | rfl | (exact updF_owF))
        | some t =>
          obtain ⟨q2, g2, l2⟩ := t
          obtain ⟨e2, ht⟩ := hkn q _ hk
          have hl2 : l2.length ≤ 1000000 := by have := (sfault_good (show sfault q2 g2 l2 = 0 from ht)).2.2.2.2.1; omega
          have hw := snewer_ok q2 g2 q g l2 l hl2 hl
          have hK : hrK ⟨kn, [a]⟩ (q, g, l) = orL [cmpI g2 g, cmpE l2 l] := by unfold hrK; dsimp only; rw [hk]; rfl
          have hlook : knM kn (.int .i64 q) = some [.v (.int .i64 q2), .v (.int .i64 g2), .sl 2 (l2.map opRow) none] := by simp [knM, hk, stRow]
          by_cases hv : orL [cmpI g2 g, cmpE l2 l] ≤ 0
          · have hV : hrdB ⟨kn, [a]⟩ p (q, g, l) = ⟨kn, modW [a] p fun o => upI o q false⟩ := if_pos ⟨hin, h0, by rw [hK]; exact hv⟩
            rw [hV]
            clear hK
            generalize orL [cmpI g2 g, cmpE l2 l] = v at *
            refine or3 (by omega : p = 0 ∨ p = 1 ∨ p = 2) (fun e => ?_) (fun e => ?_) (fun e => ?_)
            all_goals (subst e)
            all_goals (try (exfalso; omega))
            all_goals
              unfold stRow
              refine fn_of mixed [] [] Try.func78 rfl (by decide +kernel) Try.ntmps78 rfl (congrArg Array.toList Try.results78) rfl (by decide +kernel) ?_
              ((iterate 2 all_goals (try (repeat' (conv => whnf); (first | with_reducible refine And.intro ?_ ?_ | with_reducible exact True.intro | (intro h; (first | cases h | ((try simp only [vis, Int.reduceToNat] at h); (try (exfalso; omega))))) | (with_reducible refine Vc.mk ?_; fail) | (with_reducible refine cutG ?_; fail) | refine idx_map ?_ ?_ | refine idx_mapI ?_ ?_ ?_ | (refine StopAt.mk (by decide) (by decide) ?_) | (refine StopRow.mk _ rfl ?_))))); (all_goals (try omega)); (all_goals (try ((first | with_reducible refine Vc.mk ?_ | refine Vc.mk ?_); (try exact GLt)))); (all_goals (try (exact ⟨by decide, by decide⟩))))
              (all_goals (try ((first | (refine call0 (hck) ?_ ?_) | (refine pure0 (hck) rfl ?_ ?_)); (· (repeat' (conv => whnf); (first | with_reducible refine And.intro ?_ ?_ | with_reducible exact True.intro | with_reducible exact Or.inl rfl | (refine Vc.mk ?_; (first | exact rfl | exact ⟨rfl, .inl rfl⟩ | omega | skip))))); (iterate 2 all_goals (try (repeat' (conv => whnf); (first | with_reducible refine And.intro ?_ ?_ | with_reducible exact True.intro | (intro h; (first | cases h | ((try simp only [vis, Int.reduceToNat] at h); (try (exfalso; omega))))) | (with_reducible refine Vc.mk ?_; fail) | (with_reducible refine cutG ?_; fail) | refine idx_map ?_ ?_ | refine idx_mapI ?_ ?_ ?_ )))))))
              ((iterate 2 all_goals (try (repeat' (conv => whnf); (first | with_reducible refine And.intro ?_ ?_ | with_reducible exact True.intro | (intro h; (first | cases h | ((try simp only [vis, Int.reduceToNat] at h); (try (exfalso; omega))))) | (with_reducible refine Vc.mk ?_; fail) | (with_reducible refine cutG ?_; fail) | refine idx_map ?_ ?_ | refine idx_mapI ?_ ?_ ?_ | (refine StopAt.mk (by decide) (by decide) ?_) | (refine StopRow.mk _ rfl ?_))))); (all_goals (try omega)); (all_goals (try ((first | with_reducible refine Vc.mk ?_ | refine Vc.mk ?_); (try exact GLt)))); (all_goals (try (exact ⟨by decide, by decide⟩))))
              (refine lookS hlook ?_)
              ((iterate 2 all_goals (try (repeat' (conv => whnf); (first | with_reducible refine And.intro ?_ ?_ | with_reducible exact True.intro | (intro h; (first | cases h | ((try simp only [vis, Int.reduceToNat] at h); (try (exfalso; omega))))) | (with_reducible refine Vc.mk ?_; fail) | (with_reducible refine cutG ?_; fail) | refine idx_map ?_ ?_ | refine idx_mapI ?_ ?_ ?_ | (refine StopAt.mk (by decide) (by decide) ?_) | (refine StopRow.mk _ rfl ?_))))); (all_goals (try omega)); (all_goals (try ((first | with_reducible refine Vc.mk ?_ | refine Vc.mk ?_); (try exact GLt)))); (all_goals (try (exact ⟨by decide, by decide⟩))))
              (all_goals (try ((first | (refine call0 (hw) ?_ ?_) | (refine pure0 (hw) rfl ?_ ?_)); (· (repeat' (conv => whnf); (first | with_reducible refine And.intro ?_ ?_ | with_reducible exact True.intro | with_reducible exact Or.inl rfl | (refine Vc.mk ?_; (first | exact rfl | exact ⟨rfl, .inl rfl⟩ | omega | skip))))); (iterate 2 all_goals (try (repeat' (conv => whnf); (first | with_reducible refine And.intro ?_ ?_ | with_reducible exact True.intro | (intro h; (first | cases h | ((try simp only [vis, Int.reduceToNat] at h); (try (exfalso; omega))))) | (with_reducible refine Vc.mk ?_; fail) | (with_reducible refine cutG ?_; fail) | refine idx_map ?_ ?_ | refine idx_mapI ?_ ?_ ?_ )))))))
              ((iterate 2 all_goals (try (repeat' (conv => whnf); (first | with_reducible refine And.intro ?_ ?_ | with_reducible exact True.intro | (intro h; (first | cases h | ((try simp only [vis, Int.reduceToNat] at h); (try (exfalso; omega))))) | (with_reducible refine Vc.mk ?_; fail) | (with_reducible refine cutG ?_; fail) | refine idx_map ?_ ?_ | refine idx_mapI ?_ ?_ ?_ | (refine StopAt.mk (by decide) (by decide) ?_) | (refine StopRow.mk _ rfl ?_))))); (all_goals (try omega)); (all_goals (try ((first | with_reducible refine Vc.mk ?_ | refine Vc.mk ?_); (try exact GLt)))); (all_goals (try (exact ⟨by decide, by decide⟩))))
              ((try (conv => whnf)); refine ⟨[0, 1, 2, 3], rfl, rfl, ?_, ?_⟩); (repeat' (conv => whnf); (first | with_reducible refine And.intro ?_ ?_ | with_reducible exact True.intro | with_reducible exact Or.inl rfl | (refine Vc.mk ?_; (first | exact rfl | exact ⟨rfl, .inl rfl⟩ | omega | skip))))
              all_goals (first | rfl | (exact updF_owF))
          · have hV : hrdB ⟨kn, [a]⟩ p (q, g, l) = ⟨kn, [a]⟩ := if_neg (fun h => hv (by rw [← hK]; exact h.2.2))
            rw [hV]
            clear hK
            generalize orL [cmpI g2 g, cmpE l2 l] = v at *
            unfold stRow
            refine fn_of mixed [] [] Try.func78 rfl (by decide +kernel) Try.ntmps78 rfl (congrArg Array.toList Try.results78) rfl (by decide +kernel) ?_
            ((iterate 2 all_goals (try (repeat' (conv => whnf); (first | with_reducible refine And.intro ?_ ?_ | with_reducible exact True.intro | (intro h; (first | cases h | ((try simp only [vis, Int.reduceToNat] at h); (try (exfalso; omega))))) | (with_reducible refine Vc.mk ?_; fail) | (with_reducible refine cutG ?_; fail) | refine idx_map ?_ ?_ | refine idx_mapI ?_ ?_ ?_ | (refine StopAt.mk (by decide) (by decide) ?_) | (refine StopRow.mk _ rfl ?_))))); (all_goals (try omega)); (all_goals (try ((first | with_reducible refine Vc.mk ?_ | refine Vc.mk ?_); (try exact GLt)))); (all_goals (try (exact ⟨by decide, by decide⟩))))
            (all_goals (try ((first | (refine call0 (hck) ?_ ?_) | (refine pure0 (hck) rfl ?_ ?_)); (· (repeat' (conv => whnf); (first | with_reducible refine And.intro ?_ ?_ | with_reducible exact True.intro | with_reducible exact Or.inl rfl | (refine Vc.mk ?_; (first | exact rfl | exact ⟨rfl, .inl rfl⟩ | omega | skip))))); (iterate 2 all_goals (try (repeat' (conv => whnf); (first | with_reducible refine And.intro ?_ ?_ | with_reducible exact True.intro | (intro h; (first | cases h | ((try simp only [vis, Int.reduceToNat] at h); (try (exfalso; omega))))) | (with_reducible refine Vc.mk ?_; fail) | (with_reducible refine cutG ?_; fail) | refine idx_map ?_ ?_ | refine idx_mapI ?_ ?_ ?_ )))))))
            ((iterate 2 all_goals (try (repeat' (conv => whnf); (first | with_reducible refine And.intro ?_ ?_ | with_reducible exact True.intro | (intro h; (first | cases h | ((try simp only [vis, Int.reduceToNat] at h); (try (exfalso; omega))))) | (with_reducible refine Vc.mk ?_; fail) | (with_reducible refine cutG ?_; fail) | refine idx_map ?_ ?_ | refine idx_mapI ?_ ?_ ?_ | (refine StopAt.mk (by decide) (by decide) ?_) | (refine StopRow.mk _ rfl ?_))))); (all_goals (try omega)); (all_goals (try ((first | with_reducible refine Vc.mk ?_ | refine Vc.mk ?_); (try exact GLt)))); (all_goals (try (exact ⟨by decide, by decide⟩))))
            (refine lookS hlook ?_)
            ((iterate 2 all_goals (try (repeat' (conv => whnf); (first | with_reducible refine And.intro ?_ ?_ | with_reducible exact True.intro | (intro h; (first | cases h | ((try simp only [vis, Int.reduceToNat] at h); (try (exfalso; omega))))) | (with_reducible refine Vc.mk ?_; fail) | (with_reducible refine cutG ?_; fail) | refine idx_map ?_ ?_ | refine idx_mapI ?_ ?_ ?_ | (refine StopAt.mk (by decide) (by decide) ?_) | (refine StopRow.mk _ rfl ?_))))); (all_goals (try omega)); (all_goals (try ((first | with_reducible refine Vc.mk ?_ | refine Vc.mk ?_); (try exact GLt)))); (all_goals (try (exact ⟨by decide, by decide⟩))))
            (all_goals (try ((first | (refine call0 (hw) ?_ ?_) | (refine pure0 (hw) rfl ?_ ?_)); (· (repeat' (conv => whnf); (first | with_reducible refine And.intro ?_ ?_ | with_reducible exact True.intro | with_reducible exact Or.inl rfl | (refine Vc.mk ?_; (first | exact rfl | exact ⟨rfl, .inl rfl⟩ | omega | skip))))); (iterate 2 all_goals (try (repeat' (conv => whnf); (first | with_reducible refine And.intro ?_ ?_ | with_reducible exact True.intro | (intro h; (first | cases h | ((try simp only [vis, Int.reduceToNat] at h); (try (exfalso; omega))))) | (with_reducible refine Vc.mk ?_; fail) | (with_reducible refine cutG ?_; fail) | refine idx_map ?_ ?_ | refine idx_mapI ?_ ?_ ?_ )))))))
            ((iterate 2 all_goals (try (repeat' (conv => whnf); (first | with_reducible refine And.intro ?_ ?_ | with_reducible exact True.intro | (intro h; (first | cases h | ((try simp only [vis, Int.reduceToNat] at h); (try (exfalso; omega))))) | (with_reducible refine Vc.mk ?_; fail) | (with_reducible refine cutG ?_; fail) | refine idx_map ?_ ?_ | refine idx_mapI ?_ ?_ ?_ | (refine StopAt.mk (by decide) (by decide) ?_) | (refine StopRow.mk _ rfl ?_))))); (all_goals (try omega)); (all_goals (try ((first | with_reducible refine Vc.mk ?_ | refine Vc.mk ?_); (try exact GLt)))); (all_goals (try (exact ⟨by decide, by decide⟩))))
            ((try (conv => whnf)); refine ⟨[0, 1, 2, 3], rfl, rfl, ?_, ?_⟩); (repeat' (conv => whnf); (first | with_reducible refine And.intro ?_ ?_ | with_reducible exact True.intro | with_reducible exact Or.inl rfl | (refine Vc.mk ?_; (first | exact rfl | exact ⟨rfl, .inl rfl⟩ | omega | skip))))
            all_goals rfl
      · have hE : takeE ⟨kn, [a]⟩ p (q, g, l) = sfault q g l := if_pos hin
        have hV : hrdB ⟨kn, [a]⟩ p (q, g, l) = ⟨kn, [a]⟩ := if_neg (fun h => h0 h.2.1)
        rw [hE, hV]
        generalize sfault q g l = F at *
        unfold stRow
        refine fn_of mixed [] [] Try.func78 rfl (by decide +kernel) Try.ntmps78 rfl (congrArg Array.toList Try.results78) rfl (by decide +kernel) ?_
        ((iterate 2 all_goals (try (repeat' (conv => whnf); (first | with_reducible refine And.intro ?_ ?_ | with_reducible exact True.intro | (intro h; (first | cases h | ((try simp only [vis, Int.reduceToNat] at h); (try (exfalso; omega))))) | (with_reducible refine Vc.mk ?_; fail) | (with_reducible refine cutG ?_; fail) | refine idx_map ?_ ?_ | refine idx_mapI ?_ ?_ ?_ | (refine StopAt.mk (by decide) (by decide) ?_) | (refine StopRow.mk _ rfl ?_))))); (all_goals (try omega)); (all_goals (try ((first | with_reducible refine Vc.mk ?_ | refine Vc.mk ?_); (try exact GLt)))); (all_goals (try (exact ⟨by decide, by decide⟩))))
        (all_goals (try ((first | (refine call0 (hck) ?_ ?_) | (refine pure0 (hck) rfl ?_ ?_)); (· (repeat' (conv => whnf); (first | with_reducible refine And.intro ?_ ?_ | with_reducible exact True.intro | with_reducible exact Or.inl rfl | (refine Vc.mk ?_; (first | exact rfl | exact ⟨rfl, .inl rfl⟩ | omega | skip))))); (iterate 2 all_goals (try (repeat' (conv => whnf); (first | with_reducible refine And.intro ?_ ?_ | with_reducible exact True.intro | (intro h; (first | cases h | ((try simp only [vis, Int.reduceToNat] at h); (try (exfalso; omega))))) | (with_reducible refine Vc.mk ?_; fail) | (with_reducible refine cutG ?_; fail) | refine idx_map ?_ ?_ | refine idx_mapI ?_ ?_ ?_ )))))))
        ((iterate 2 all_goals (try (repeat' (conv => whnf); (first | with_reducible refine And.intro ?_ ?_ | with_reducible exact True.intro | (intro h; (first | cases h | ((try simp only [vis, Int.reduceToNat] at h); (try (exfalso; omega))))) | (with_reducible refine Vc.mk ?_; fail) | (with_reducible refine cutG ?_; fail) | refine idx_map ?_ ?_ | refine idx_mapI ?_ ?_ ?_ | (refine StopAt.mk (by decide) (by decide) ?_) | (refine StopRow.mk _ rfl ?_))))); (all_goals (try omega)); (all_goals (try ((first | with_reducible refine Vc.mk ?_ | refine Vc.mk ?_); (try exact GLt)))); (all_goals (try (exact ⟨by decide, by decide⟩))))
        all_goals (((try (conv => whnf)); refine ⟨[0, 1, 2, 3], rfl, rfl, ?_, ?_⟩); (repeat' (conv => whnf); (first | with_reducible refine And.intro ?_ ?_ | with_reducible exact True.intro | with_reducible exact Or.inl rfl | (refine Vc.mk ?_; (first | exact rfl | exact ⟨rfl, .inl rfl⟩ | omega | skip)))); all_goals rfl)
    · have hin : inP ⟨kn, [a]⟩ p = false := by simp [inP]; omega
      have hE : takeE ⟨kn, [a]⟩ p (q, g, l) = 1 := by unfold takeE; rw [hin]; rfl
      have hV : hrdB ⟨kn, [a]⟩ p (q, g, l) = ⟨kn, [a]⟩ := if_neg (fun h => by rw [hin] at h; exact absurd h.1 (by decide))
      rw [hE, hV]
      unfold stRow
      refine fn_of mixed [] [] Try.func78 rfl (by decide +kernel) Try.ntmps78 rfl (congrArg Array.toList Try.results78) rfl (by decide +kernel) ?_
      ((iterate 2 all_goals (try (repeat' (conv => whnf); (first | with_reducible refine And.intro ?_ ?_ | with_reducible exact True.intro | (intro h; (first | cases h | ((try simp only [vis, Int.reduceToNat] at h); (try (exfalso; omega))))) | (with_reducible refine Vc.mk ?_; fail) | (with_reducible refine cutG ?_; fail) | refine idx_map ?_ ?_ | refine idx_mapI ?_ ?_ ?_ | (refine StopAt.mk (by decide) (by decide) ?_) | (refine StopRow.mk _ rfl ?_))))); (all_goals (try omega)); (all_goals (try ((first | with_reducible refine Vc.mk ?_ | refine Vc.mk ?_); (try exact GLt)))); (all_goals (try (exact ⟨by decide, by decide⟩))))
      all_goals (((try (conv => whnf)); refine ⟨[0, 1, 2, 3], rfl, rfl, ?_, ?_⟩); (repeat' (conv => whnf); (first | with_reducible refine And.intro ?_ ?_ | with_reducible exact True.intro | with_reducible exact Or.inl rfl | (refine Vc.mk ?_; (first | exact rfl | exact ⟨rfl, .inl rfl⟩ | omega | skip)))); all_goals rfl)
  · by_cases hp : 0 ≤ p ∧ p < 2
    · have hin : inP ⟨kn, [a, b]⟩ p = true := by simp [inP]; omega
      by_cases h0 : sfault q g l = 0
      · have hE : takeE ⟨kn, [a, b]⟩ p (q, g, l) = 0 := (if_pos hin).trans h0
        rw [hE]
        rw [h0] at hck
        have hl := hll h0
        cases hk : kn q with
        | none =>
          have hw := snewer_ok 0 0 q g [] l (by decide) hl
          have hlo : orL [cmpI 0 g, cmpE [] l] ≤ 0 := by
            have hg := (sfault_good h0).2.2.1
            rw [orL2]
            have : cmpI 0 g = -1 := if_pos (by omega)
            rw [this, if_pos (by decide)]; decide
          have hV : hrdB ⟨kn, [a, b]⟩ p (q, g, l) = ⟨kn, modW [a, b] p fun o => upI o q false⟩ := if_pos ⟨hin, h0, by unfold hrK; dsimp only; rw [hk]; show (-1 : Int) ≤ 0; decide⟩
          rw [hV]
          have hlook : knM kn (.int .i64 q) = none := by simp [knM, hk]
          generalize orL [cmpI 0 g, cmpE [] l] = v at *
          refine or3 (by omega : p = 0 ∨ p = 1 ∨ p = 2) (fun e => ?_) (fun e => ?_) (fun e => ?_)
          all_goals (subst e)
          all_goals (try (exfalso; omega))
          all_goals
            unfold stRow
            refine fn_of mixed [] [] Try.func78 rfl (by decide +kernel) Try.ntmps78 rfl (congrArg Array.toList Try.results78) rfl (by decide +kernel) ?_
            ((iterate 2 all_goals (try (repeat' (conv => whnf); (first | with_reducible refine And.intro ?_ ?_ | with_reducible exact True.intro | (intro h; (first | cases h | ((try simp only [vis, Int.reduceToNat] at h); (try (exfalso; omega))))) | (with_reducible refine Vc.mk ?_; fail) | (with_reducible refine cutG ?_; fail) | refine idx_map ?_ ?_ | refine idx_mapI ?_ ?_ ?_ | (refine StopAt.mk (by decide) (by decide) ?_) | (refine StopRow.mk _ rfl ?_))))); (all_goals (try omega)); (all_goals (try ((first | with_reducible refine Vc.mk ?_ | refine Vc.mk ?_); (try exact GLt)))); (all_goals (try (exact ⟨by decide, by decide⟩))))
            (all_goals (try ((first | (refine call0 (hck) ?_ ?_) | (refine pure0 (hck) rfl ?_ ?_)); (· (repeat' (conv => whnf); (first | with_reducible refine And.intro ?_ ?_ | with_reducible exact True.intro | with_reducible exact Or.inl rfl | (refine Vc.mk ?_; (first | exact rfl | exact ⟨rfl, .inl rfl⟩ | omega | skip))))); (iterate 2 all_goals (try (repeat' (conv => whnf); (first | with_reducible refine And.intro ?_ ?_ | with_reducible exact True.intro | (intro h; (first | cases h | ((try simp only [vis, Int.reduceToNat] at h); (try (exfalso; omega))))) | (with_reducible refine Vc.mk ?_; fail) | (with_reducible refine cutG ?_; fail) | refine idx_map ?_ ?_ | refine idx_mapI ?_ ?_ ?_ )))))))
            ((iterate 2 all_goals (try (repeat' (conv => whnf); (first | with_reducible refine And.intro ?_ ?_ | with_reducible exact True.intro | (intro h; (first | cases h | ((try simp only [vis, Int.reduceToNat] at h); (try (exfalso; omega))))) | (with_reducible refine Vc.mk ?_; fail) | (with_reducible refine cutG ?_; fail) | refine idx_map ?_ ?_ | refine idx_mapI ?_ ?_ ?_ | (refine StopAt.mk (by decide) (by decide) ?_) | (refine StopRow.mk _ rfl ?_))))); (all_goals (try omega)); (all_goals (try ((first | with_reducible refine Vc.mk ?_ | refine Vc.mk ?_); (try exact GLt)))); (all_goals (try (exact ⟨by decide, by decide⟩))))
            (refine lookN hlook ?_)
            ((iterate 2 all_goals (try (repeat' (conv => whnf); (first | with_reducible refine And.intro ?_ ?_ | with_reducible exact True.intro | (intro h; (first | cases h | ((try simp only [vis, Int.reduceToNat] at h); (try (exfalso; omega))))) | (with_reducible refine Vc.mk ?_; fail) | (with_reducible refine cutG ?_; fail) | refine idx_map ?_ ?_ | refine idx_mapI ?_ ?_ ?_ | (refine StopAt.mk (by decide) (by decide) ?_) | (refine StopRow.mk _ rfl ?_))))); (all_goals (try omega)); (all_goals (try ((first | with_reducible refine Vc.mk ?_ | refine Vc.mk ?_); (try exact GLt)))); (all_goals (try (exact ⟨by decide, by decide⟩))))
            (refine ⟨_, _, _, _, [], hw, rfl, rfl, rfl, ?_, ?_, ?_⟩)
            · (repeat' (conv => whnf); (first | with_reducible refine And.intro ?_ ?_ | with_reducible exact True.intro | with_reducible exact Or.inl rfl | (refine Vc.mk ?_; (first | exact rfl | exact ⟨rfl, .inl rfl⟩ | omega | skip))))
            · (repeat' (conv => whnf); (first | with_reducible refine And.intro ?_ ?_ | with_reducible exact True.intro | with_reducible exact Or.inl rfl | (refine Vc.mk ?_; (first | exact rfl | exact ⟨rfl, .inl rfl⟩ | omega | skip))))
            ((iterate 2 all_goals (try (repeat' (conv => whnf); (first | with_reducible refine And.intro ?_ ?_ | with_reducible exact True.intro | (intro h; (first | cases h | ((try simp only [vis, Int.reduceToNat] at h); (try (exfalso; omega))))) | (with_reducible refine Vc.mk ?_; fail) | (with_reducible refine cutG ?_; fail) | refine idx_map ?_ ?_ | refine idx_mapI ?_ ?_ ?_ | (refine StopAt.mk (by decide) (by decide) ?_) | (refine StopRow.mk _ rfl ?_))))); (all_goals (try omega)); (all_goals (try ((first | with_reducible refine Vc.mk ?_ | refine Vc.mk ?_); (try exact GLt)))); (all_goals (try (exact ⟨by decide, by decide⟩))))
            ((try (conv => whnf)); refine ⟨[0, 1, 2, 3, 4], rfl, rfl, ?_, ?_⟩); (repeat' (conv => whnf); (first | with_reducible refine And.intro ?_ ?_ | with_reducible exact True.intro | with_reducible exact Or.inl rfl | (refine Vc.mk ?_; (first | exact rfl | exact ⟨rfl, .inl rfl⟩ | omega | skip))))
            all_goals (first | rfl | (exact updF_owF))
        | some t =>
          obtain ⟨q2, g2, l2⟩ := t
          obtain ⟨e2, ht⟩ := hkn q _ hk
          have hl2 : l2.length ≤ 1000000 := by have := (sfault_good (show sfault q2 g2 l2 = 0 from ht)).2.2.2.2.1; omega
          have hw := snewer_ok q2 g2 q g l2 l hl2 hl
          have hK : hrK ⟨kn, [a, b]⟩ (q, g, l) = orL [cmpI g2 g, cmpE l2 l] := by unfold hrK; dsimp only; rw [hk]; rfl
          have hlook : knM kn (.int .i64 q) = some [.v (.int .i64 q2), .v (.int .i64 g2), .sl 2 (l2.map opRow) none] := by simp [knM, hk, stRow]
          by_cases hv : orL [cmpI g2 g, cmpE l2 l] ≤ 0
          · have hV : hrdB ⟨kn, [a, b]⟩ p (q, g, l) = ⟨kn, modW [a, b] p fun o => upI o q false⟩ := if_pos ⟨hin, h0, by rw [hK]; exact hv⟩
            rw [hV]
            clear hK
            generalize orL [cmpI g2 g, cmpE l2 l] = v at *
            refine or3 (by omega : p = 0 ∨ p = 1 ∨ p = 2) (fun e => ?_) (fun e => ?_) (fun e => ?_)
            all_goals (subst e)
            all_goals (try (exfalso; omega))
            all_goals
              unfold stRow
              refine fn_of mixed [] [] Try.func78 rfl (by decide +kernel) Try.ntmps78 rfl (congrArg Array.toList Try.results78) rfl (by decide +kernel) ?_
              ((iterate 2 all_goals (try (repeat' (conv => whnf); (first | with_reducible refine And.intro ?_ ?_ | with_reducible exact True.intro | (intro h; (first | cases h | ((try simp only [vis, Int.reduceToNat] at h); (try (exfalso; omega))))) | (with_reducible refine Vc.mk ?_; fail) | (with_reducible refine cutG ?_; fail) | refine idx_map ?_ ?_ | refine idx_mapI ?_ ?_ ?_ | (refine StopAt.mk (by decide) (by decide) ?_) | (refine StopRow.mk _ rfl ?_))))); (all_goals (try omega)); (all_goals (try ((first | with_reducible refine Vc.mk ?_ | refine Vc.mk ?_); (try exact GLt)))); (all_goals (try (exact ⟨by decide, by decide⟩))))
              (all_goals (try ((first | (refine call0 (hck) ?_ ?_) | (refine pure0 (hck) rfl ?_ ?_)); (· (repeat' (conv => whnf); (first | with_reducible refine And.intro ?_ ?_ | with_reducible exact True.intro | with_reducible exact Or.inl rfl | (refine Vc.mk ?_; (first | exact rfl | exact ⟨rfl, .inl rfl⟩ | omega | skip))))); (iterate 2 all_goals (try (repeat' (conv => whnf); (first | with_reducible refine And.intro ?_ ?_ | with_reducible exact True.intro | (intro h; (first | cases h | ((try simp only [vis, Int.reduceToNat] at h); (try (exfalso; omega))))) | (with_reducible refine Vc.mk ?_; fail) | (with_reducible refine cutG ?_; fail) | refine idx_map ?_ ?_ | refine idx_mapI ?_ ?_ ?_ )))))))
              ((iterate 2 all_goals (try (repeat' (conv => whnf); (first | with_reducible refine And.intro ?_ ?_ | with_reducible exact True.intro | (intro h; (first | cases h | ((try simp only [vis, Int.reduceToNat] at h); (try (exfalso; omega))))) | (with_reducible refine Vc.mk ?_; fail) | (with_reducible refine cutG ?_; fail) | refine idx_map ?_ ?_ | refine idx_mapI ?_ ?_ ?_ | (refine StopAt.mk (by decide) (by decide) ?_) | (refine StopRow.mk _ rfl ?_))))); (all_goals (try omega)); (all_goals (try ((first | with_reducible refine Vc.mk ?_ | refine Vc.mk ?_); (try exact GLt)))); (all_goals (try (exact ⟨by decide, by decide⟩))))
              (refine lookS hlook ?_)
              ((iterate 2 all_goals (try (repeat' (conv => whnf); (first | with_reducible refine And.intro ?_ ?_ | with_reducible exact True.intro | (intro h; (first | cases h | ((try simp only [vis, Int.reduceToNat] at h); (try (exfalso; omega))))) | (with_reducible refine Vc.mk ?_; fail) | (with_reducible refine cutG ?_; fail) | refine idx_map ?_ ?_ | refine idx_mapI ?_ ?_ ?_ | (refine StopAt.mk (by decide) (by decide) ?_) | (refine StopRow.mk _ rfl ?_))))); (all_goals (try omega)); (all_goals (try ((first | with_reducible refine Vc.mk ?_ | refine Vc.mk ?_); (try exact GLt)))); (all_goals (try (exact ⟨by decide, by decide⟩))))
              (all_goals (try ((first | (refine call0 (hw) ?_ ?_) | (refine pure0 (hw) rfl ?_ ?_)); (· (repeat' (conv => whnf); (first | with_reducible refine And.intro ?_ ?_ | with_reducible exact True.intro | with_reducible exact Or.inl rfl | (refine Vc.mk ?_; (first | exact rfl | exact ⟨rfl, .inl rfl⟩ | omega | skip))))); (iterate 2 all_goals (try (repeat' (conv => whnf); (first | with_reducible refine And.intro ?_ ?_ | with_reducible exact True.intro | (intro h; (first | cases h | ((try simp only [vis, Int.reduceToNat] at h); (try (exfalso; omega))))) | (with_reducible refine Vc.mk ?_; fail) | (with_reducible refine cutG ?_; fail) | refine idx_map ?_ ?_ | refine idx_mapI ?_ ?_ ?_ )))))))
              ((iterate 2 all_goals (try (repeat' (conv => whnf); (first | with_reducible refine And.intro ?_ ?_ | with_reducible exact True.intro | (intro h; (first | cases h | ((try simp only [vis, Int.reduceToNat] at h); (try (exfalso; omega))))) | (with_reducible refine Vc.mk ?_; fail) | (with_reducible refine cutG ?_; fail) | refine idx_map ?_ ?_ | refine idx_mapI ?_ ?_ ?_ | (refine StopAt.mk (by decide) (by decide) ?_) | (refine StopRow.mk _ rfl ?_))))); (all_goals (try omega)); (all_goals (try ((first | with_reducible refine Vc.mk ?_ | refine Vc.mk ?_); (try exact GLt)))); (all_goals (try (exact ⟨by decide, by decide⟩))))
              ((try (conv => whnf)); refine ⟨[0, 1, 2, 3, 4], rfl, rfl, ?_, ?_⟩); (repeat' (conv => whnf); (first | with_reducible refine And.intro ?_ ?_ | with_reducible exact True.intro | with_reducible exact Or.inl rfl | (refine Vc.mk ?_; (first | exact rfl | exact ⟨rfl, .inl rfl⟩ | omega | skip))))
              all_goals (first | rfl | (exact updF_owF))
          · have hV : hrdB ⟨kn, [a, b]⟩ p (q, g, l) = ⟨kn, [a, b]⟩ := if_neg (fun h => hv (by rw [← hK]; exact h.2.2))
            rw [hV]
            clear hK
            generalize orL [cmpI g2 g, cmpE l2 l] = v at *
            unfold stRow
            refine fn_of mixed [] [] Try.func78 rfl (by decide +kernel) Try.ntmps78 rfl (congrArg Array.toList Try.results78) rfl (by decide +kernel) ?_
            ((iterate 2 all_goals (try (repeat' (conv => whnf); (first | with_reducible refine And.intro ?_ ?_ | with_reducible exact True.intro | (intro h; (first | cases h | ((try simp only [vis, Int.reduceToNat] at h); (try (exfalso; omega))))) | (with_reducible refine Vc.mk ?_; fail) | (with_reducible refine cutG ?_; fail) | refine idx_map ?_ ?_ | refine idx_mapI ?_ ?_ ?_ | (refine StopAt.mk (by decide) (by decide) ?_) | (refine StopRow.mk _ rfl ?_))))); (all_goals (try omega)); (all_goals (try ((first | with_reducible refine Vc.mk ?_ | refine Vc.mk ?_); (try exact GLt)))); (all_goals (try (exact ⟨by decide, by decide⟩))))
            (all_goals (try ((first | (refine call0 (hck) ?_ ?_) | (refine pure0 (hck) rfl ?_ ?_)); (· (repeat' (conv => whnf); (first | with_reducible refine And.intro ?_ ?_ | with_reducible exact True.intro | with_reducible exact Or.inl rfl | (refine Vc.mk ?_; (first | exact rfl | exact ⟨rfl, .inl rfl⟩ | omega | skip))))); (iterate 2 all_goals (try (repeat' (conv => whnf); (first | with_reducible refine And.intro ?_ ?_ | with_reducible exact True.intro | (intro h; (first | cases h | ((try simp only [vis, Int.reduceToNat] at h); (try (exfalso; omega))))) | (with_reducible refine Vc.mk ?_; fail) | (with_reducible refine cutG ?_; fail) | refine idx_map ?_ ?_ | refine idx_mapI ?_ ?_ ?_ )))))))
            ((iterate 2 all_goals (try (repeat' (conv => whnf); (first | with_reducible refine And.intro ?_ ?_ | with_reducible exact True.intro | (intro h; (first | cases h | ((try simp only [vis, Int.reduceToNat] at h); (try (exfalso; omega))))) | (with_reducible refine Vc.mk ?_; fail) | (with_reducible refine cutG ?_; fail) | refine idx_map ?_ ?_ | refine idx_mapI ?_ ?_ ?_ | (refine StopAt.mk (by decide) (by decide) ?_) | (refine StopRow.mk _ rfl ?_))))); (all_goals (try omega)); (all_goals (try ((first | with_reducible refine Vc.mk ?_ | refine Vc.mk ?_); (try exact GLt)))); (all_goals (try (exact ⟨by decide, by decide⟩))))
            (refine lookS hlook ?_)
            ((iterate 2 all_goals (try (repeat' (conv => whnf); (first | with_reducible refine And.intro ?_ ?_ | with_reducible exact True.intro | (intro h; (first | cases h | ((try simp only [vis, Int.reduceToNat] at h); (try (exfalso; omega))))) | (with_reducible refine Vc.mk ?_; fail) | (with_reducible refine cutG ?_; fail) | refine idx_map ?_ ?_ | refine idx_mapI ?_ ?_ ?_ | (refine StopAt.mk (by decide) (by decide) ?_) | (refine StopRow.mk _ rfl ?_))))); (all_goals (try omega)); (all_goals (try ((first | with_reducible refine Vc.mk ?_ | refine Vc.mk ?_); (try exact GLt)))); (all_goals (try (exact ⟨by decide, by decide⟩))))
            (all_goals (try ((first | (refine call0 (hw) ?_ ?_) | (refine pure0 (hw) rfl ?_ ?_)); (· (repeat' (conv => whnf); (first | with_reducible refine And.intro ?_ ?_ | with_reducible exact True.intro | with_reducible exact Or.inl rfl | (refine Vc.mk ?_; (first | exact rfl | exact ⟨rfl, .inl rfl⟩ | omega | skip))))); (iterate 2 all_goals (try (repeat' (conv => whnf); (first | with_reducible refine And.intro ?_ ?_ | with_reducible exact True.intro | (intro h; (first | cases h | ((try simp only [vis, Int.reduceToNat] at h); (try (exfalso; omega))))) | (with_reducible refine Vc.mk ?_; fail) | (with_reducible refine cutG ?_; fail) | refine idx_map ?_ ?_ | refine idx_mapI ?_ ?_ ?_ )))))))
            ((iterate 2 all_goals (try (repeat' (conv => whnf); (first | with_reducible refine And.intro ?_ ?_ | with_reducible exact True.intro | (intro h; (first | cases h | ((try simp only [vis, Int.reduceToNat] at h); (try (exfalso; omega))))) | (with_reducible refine Vc.mk ?_; fail) | (with_reducible refine cutG ?_; fail) | refine idx_map ?_ ?_ | refine idx_mapI ?_ ?_ ?_ | (refine StopAt.mk (by decide) (by decide) ?_) | (refine StopRow.mk _ rfl ?_))))); (all_goals (try omega)); (all_goals (try ((first | with_reducible refine Vc.mk ?_ | refine Vc.mk ?_); (try exact GLt)))); (all_goals (try (exact ⟨by decide, by decide⟩))))
            ((try (conv => whnf)); refine ⟨[0, 1, 2, 3, 4], rfl, rfl, ?_, ?_⟩); (repeat' (conv => whnf); (first | with_reducible refine And.intro ?_ ?_ | with_reducible exact True.intro | with_reducible exact Or.inl rfl | (refine Vc.mk ?_; (first | exact rfl | exact ⟨rfl, .inl rfl⟩ | omega | skip))))
            all_goals rfl
      · have hE : takeE ⟨kn, [a, b]⟩ p (q, g, l) = sfault q g l := if_pos hin
        have hV : hrdB ⟨kn, [a, b]⟩ p (q, g, l) = ⟨kn, [a, b]⟩ := if_neg (fun h => h0 h.2.1)
        rw [hE, hV]
        generalize sfault q g l = F at *
        unfold stRow
        refine fn_of mixed [] [] Try.func78 rfl (by decide +kernel) Try.ntmps78 rfl (congrArg Array.toList Try.results78) rfl (by decide +kernel) ?_
        ((iterate 2 all_goals (try (repeat' (conv => whnf); (first | with_reducible refine And.intro ?_ ?_ | with_reducible exact True.intro | (intro h; (first | cases h | ((try simp only [vis, Int.reduceToNat] at h); (try (exfalso; omega))))) | (with_reducible refine Vc.mk ?_; fail) | (with_reducible refine cutG ?_; fail) | refine idx_map ?_ ?_ | refine idx_mapI ?_ ?_ ?_ | (refine StopAt.mk (by decide) (by decide) ?_) | (refine StopRow.mk _ rfl ?_))))); (all_goals (try omega)); (all_goals (try ((first | with_reducible refine Vc.mk ?_ | refine Vc.mk ?_); (try exact GLt)))); (all_goals (try (exact ⟨by decide, by decide⟩))))
        (all_goals (try ((first | (refine call0 (hck) ?_ ?_) | (refine pure0 (hck) rfl ?_ ?_)); (· (repeat' (conv => whnf); (first | with_reducible refine And.intro ?_ ?_ | with_reducible exact True.intro | with_reducible exact Or.inl rfl | (refine Vc.mk ?_; (first | exact rfl | exact ⟨rfl, .inl rfl⟩ | omega | skip))))); (iterate 2 all_goals (try (repeat' (conv => whnf); (first | with_reducible refine And.intro ?_ ?_ | with_reducible exact True.intro | (intro h; (first | cases h | ((try simp only [vis, Int.reduceToNat] at h); (try (exfalso; omega))))) | (with_reducible refine Vc.mk ?_; fail) | (with_reducible refine cutG ?_; fail) | refine idx_map ?_ ?_ | refine idx_mapI ?_ ?_ ?_ )))))))
        ((iterate 2 all_goals (try (repeat' (conv => whnf); (first | with_reducible refine And.intro ?_ ?_ | with_reducible exact True.intro | (intro h; (first | cases h | ((try simp only [vis, Int.reduceToNat] at h); (try (exfalso; omega))))) | (with_reducible refine Vc.mk ?_; fail) | (with_reducible refine cutG ?_; fail) | refine idx_map ?_ ?_ | refine idx_mapI ?_ ?_ ?_ | (refine StopAt.mk (by decide) (by decide) ?_) | (refine StopRow.mk _ rfl ?_))))); (all_goals (try omega)); (all_goals (try ((first | with_reducible refine Vc.mk ?_ | refine Vc.mk ?_); (try exact GLt)))); (all_goals (try (exact ⟨by decide, by decide⟩))))
        all_goals (((try (conv => whnf)); refine ⟨[0, 1, 2, 3, 4], rfl, rfl, ?_, ?_⟩); (repeat' (conv => whnf); (first | with_reducible refine And.intro ?_ ?_ | with_reducible exact True.intro | with_reducible exact Or.inl rfl | (refine Vc.mk ?_; (first | exact rfl | exact ⟨rfl, .inl rfl⟩ | omega | skip)))); all_goals rfl)
    · have hin : inP ⟨kn, [a, b]⟩ p = false := by simp [inP]; omega
      have hE : takeE ⟨kn, [a, b]⟩ p (q, g, l) = 1 := by unfold takeE; rw [hin]; rfl
      have hV : hrdB ⟨kn, [a, b]⟩ p (q, g, l) = ⟨kn, [a, b]⟩ := if_neg (fun h => by rw [hin] at h; exact absurd h.1 (by decide))
      rw [hE, hV]
      unfold stRow
      refine fn_of mixed [] [] Try.func78 rfl (by decide +kernel) Try.ntmps78 rfl (congrArg Array.toList Try.results78) rfl (by decide +kernel) ?_
      ((iterate 2 all_goals (try (repeat' (conv => whnf); (first | with_reducible refine And.intro ?_ ?_ | with_reducible exact True.intro | (intro h; (first | cases h | ((try simp only [vis, Int.reduceToNat] at h); (try (exfalso; omega))))) | (with_reducible refine Vc.mk ?_; fail) | (with_reducible refine cutG ?_; fail) | refine idx_map ?_ ?_ | refine idx_mapI ?_ ?_ ?_ | (refine StopAt.mk (by decide) (by decide) ?_) | (refine StopRow.mk _ rfl ?_))))); (all_goals (try omega)); (all_goals (try ((first | with_reducible refine Vc.mk ?_ | refine Vc.mk ?_); (try exact GLt)))); (all_goals (try (exact ⟨by decide, by decide⟩))))
      all_goals (((try (conv => whnf)); refine ⟨[0, 1, 2, 3, 4], rfl, rfl, ?_, ?_⟩); (repeat' (conv => whnf); (first | with_reducible refine And.intro ?_ ?_ | with_reducible exact True.intro | with_reducible exact Or.inl rfl | (refine Vc.mk ?_; (first | exact rfl | exact ⟨rfl, .inl rfl⟩ | omega | skip)))); all_goals rfl)
  · by_cases hp : 0 ≤ p ∧ p < 3
    · have hin : inP ⟨kn, [a, b, c]⟩ p = true := by simp [inP]; omega
      by_cases h0 : sfault q g l = 0
      · have hE : takeE ⟨kn, [a, b, c]⟩ p (q, g, l) = 0 := (if_pos hin).trans h0
        rw [hE]
        rw [h0] at hck
        have hl := hll h0
        cases hk : kn q with
        | none =>
          have hw := snewer_ok 0 0 q g [] l (by decide) hl
          have hlo : orL [cmpI 0 g, cmpE [] l] ≤ 0 := by
            have hg := (sfault_good h0).2.2.1
            rw [orL2]
            have : cmpI 0 g = -1 := if_pos (by omega)
            rw [this, if_pos (by decide)]; decide
          have hV : hrdB ⟨kn, [a, b, c]⟩ p (q, g, l) = ⟨kn, modW [a, b, c] p fun o => upI o q false⟩ := if_pos ⟨hin, h0, by unfold hrK; dsimp only; rw [hk]; show (-1 : Int) ≤ 0; decide⟩
          rw [hV]
          have hlook : knM kn (.int .i64 q) = none := by simp [knM, hk]
          generalize orL [cmpI 0 g, cmpE [] l] = v at *
          refine or3 (by omega : p = 0 ∨ p = 1 ∨ p = 2) (fun e => ?_) (fun e => ?_) (fun e => ?_)
          all_goals (subst e)
          all_goals (try (exfalso; omega))
          all_goals
            unfold stRow
            refine fn_of mixed [] [] Try.func78 rfl (by decide +kernel) Try.ntmps78 rfl (congrArg Array.toList Try.results78) rfl (by decide +kernel) ?_
            ((iterate 2 all_goals (try (repeat' (conv => whnf); (first | with_reducible refine And.intro ?_ ?_ | with_reducible exact True.intro | (intro h; (first | cases h | ((try simp only [vis, Int.reduceToNat] at h); (try (exfalso; omega))))) | (with_reducible refine Vc.mk ?_; fail) | (with_reducible refine cutG ?_; fail) | refine idx_map ?_ ?_ | refine idx_mapI ?_ ?_ ?_ | (refine StopAt.mk (by decide) (by decide) ?_) | (refine StopRow.mk _ rfl ?_))))); (all_goals (try omega)); (all_goals (try ((first | with_reducible refine Vc.mk ?_ | refine Vc.mk ?_); (try exact GLt)))); (all_goals (try (exact ⟨by decide, by decide⟩))))
            (all_goals (try ((first | (refine call0 (hck) ?_ ?_) | (refine pure0 (hck) rfl ?_ ?_)); (· (repeat' (conv => whnf); (first | with_reducible refine And.intro ?_ ?_ | with_reducible exact True.intro | with_reducible exact Or.inl rfl | (refine Vc.mk ?_; (first | exact rfl | exact ⟨rfl, .inl rfl⟩ | omega | skip))))); (iterate 2 all_goals (try (repeat' (conv => whnf); (first | with_reducible refine And.intro ?_ ?_ | with_reducible exact True.intro | (intro h; (first | cases h | ((try simp only [vis, Int.reduceToNat] at h); (try (exfalso; omega))))) | (with_reducible refine Vc.mk ?_; fail) | (with_reducible refine cutG ?_; fail) | refine idx_map ?_ ?_ | refine idx_mapI ?_ ?_ ?_ )))))))
            ((iterate 2 all_goals (try (repeat' (conv => whnf); (first | with_reducible refine And.intro ?_ ?_ | with_reducible exact True.intro | (intro h; (first | cases h | ((try simp only [vis, Int.reduceToNat] at h); (try (exfalso; omega))))) | (with_reducible refine Vc.mk ?_; fail) | (with_reducible refine cutG ?_; fail) | refine idx_map ?_ ?_ | refine idx_mapI ?_ ?_ ?_ | (refine StopAt.mk (by decide) (by decide) ?_) | (refine StopRow.mk _ rfl ?_))))); (all_goals (try omega)); (all_goals (try ((first | with_reducible refine Vc.mk ?_ | refine Vc.mk ?_); (try exact GLt)))); (all_goals (try (exact ⟨by decide, by decide⟩))))
            (refine lookN hlook ?_)
            ((iterate 2 all_goals (try (repeat' (conv => whnf); (first | with_reducible refine And.intro ?_ ?_ | with_reducible exact True.intro | (intro h; (first | cases h | ((try simp only [vis, Int.reduceToNat] at h); (try (exfalso; omega))))) | (with_reducible refine Vc.mk ?_; fail) | (with_reducible refine cutG ?_; fail) | refine idx_map ?_ ?_ | refine idx_mapI ?_ ?_ ?_ | (refine StopAt.mk (by decide) (by decide) ?_) | (refine StopRow.mk _ rfl ?_))))); (all_goals (try omega)); (all_goals (try ((first | with_reducible refine Vc.mk ?_ | refine Vc.mk ?_); (try exact GLt)))); (all_goals (try (exact ⟨by decide, by decide⟩))))
            (refine ⟨_, _, _, _, [], hw, rfl, rfl, rfl, ?_, ?_, ?_⟩)
            · (repeat' (conv => whnf); (first | with_reducible refine And.intro ?_ ?_ | with_reducible exact True.intro | with_reducible exact Or.inl rfl | (refine Vc.mk ?_; (first | exact rfl | exact ⟨rfl, .inl rfl⟩ | omega | skip))))
            · (repeat' (conv => whnf); (first | with_reducible refine And.intro ?_ ?_ | with_reducible exact True.intro | with_reducible exact Or.inl rfl | (refine Vc.mk ?_; (first | exact rfl | exact ⟨rfl, .inl rfl⟩ | omega | skip))))
            ((iterate 2 all_goals (try (repeat' (conv => whnf); (first | with_reducible refine And.intro ?_ ?_ | with_reducible exact True.intro | (intro h; (first | cases h | ((try simp only [vis, Int.reduceToNat] at h); (try (exfalso; omega))))) | (with_reducible refine Vc.mk ?_; fail) | (with_reducible refine cutG ?_; fail) | refine idx_map ?_ ?_ | refine idx_mapI ?_ ?_ ?_ | (refine StopAt.mk (by decide) (by decide) ?_) | (refine StopRow.mk _ rfl ?_))))); (all_goals (try omega)); (all_goals (try ((first | with_reducible refine Vc.mk ?_ | refine Vc.mk ?_); (try exact GLt)))); (all_goals (try (exact ⟨by decide, by decide⟩))))
            ((try (conv => whnf)); refine ⟨[0, 1, 2, 3, 4, 5], rfl, rfl, ?_, ?_⟩); (repeat' (conv => whnf); (first | with_reducible refine And.intro ?_ ?_ | with_reducible exact True.intro | with_reducible exact Or.inl rfl | (refine Vc.mk ?_; (first | exact rfl | exact ⟨rfl, .inl rfl⟩ | omega | skip))))
            all_goals (first | rfl | (exact updF_owF))
        | some t =>
          obtain ⟨q2, g2, l2⟩ := t
          obtain ⟨e2, ht⟩ := hkn q _ hk
          have hl2 : l2.length ≤ 1000000 := by have := (sfault_good (show sfault q2 g2 l2 = 0 from ht)).2.2.2.2.1; omega
          have hw := snewer_ok q2 g2 q g l2 l hl2 hl
          have hK : hrK ⟨kn, [a, b, c]⟩ (q, g, l) = orL [cmpI g2 g, cmpE l2 l] := by unfold hrK; dsimp only; rw [hk]; rfl
          have hlook : knM kn (.int .i64 q) = some [.v (.int .i64 q2), .v (.int .i64 g2), .sl 2 (l2.map opRow) none] := by simp [knM, hk, stRow]
          by_cases hv : orL [cmpI g2 g, cmpE l2 l] ≤ 0
          · have hV : hrdB ⟨kn, [a, b, c]⟩ p (q, g, l) = ⟨kn, modW [a, b, c] p fun o => upI o q false⟩ := if_pos ⟨hin, h0, by rw [hK]; exact hv⟩
            rw [hV]
            clear hK
            generalize orL [cmpI g2 g, cmpE l2 l] = v at *
            refine or3 (by omega : p = 0 ∨ p = 1 ∨ p = 2) (fun e => ?_) (fun e => ?_) (fun e => ?_)
            all_goals (subst e)
            all_goals (try (exfalso; omega))
            all_goals
              unfold stRow
              refine fn_of mixed [] [] Try.func78 rfl (by decide +kernel) Try.ntmps78 rfl (congrArg Array.toList Try.results78) rfl (by decide +kernel) ?_
              ((iterate 2 all_goals (try (repeat' (conv => whnf); (first | with_reducible refine And.intro ?_ ?_ | with_reducible exact True.intro | (intro h; (first | cases h | ((try simp only [vis, Int.reduceToNat] at h); (try (exfalso; omega))))) | (with_reducible refine Vc.mk ?_; fail) | (with_reducible refine cutG ?_; fail) | refine idx_map ?_ ?_ | refine idx_mapI ?_ ?_ ?_ | (refine StopAt.mk (by decide) (by decide) ?_) | (refine StopRow.mk _ rfl ?_))))); (all_goals (try omega)); (all_goals (try ((first | with_reducible refine Vc.mk ?_ | refine Vc.mk ?_); (try exact GLt)))); (all_goals (try (exact ⟨by decide, by decide⟩))))
              (all_goals (try ((first | (refine call0 (hck) ?_ ?_) | (refine pure0 (hck) rfl ?_ ?_)); (· (repeat' (conv => whnf); (first | with_reducible refine And.intro ?_ ?_ | with_reducible exact True.intro | with_reducible exact Or.inl rfl | (refine Vc.mk ?_; (first | exact rfl | exact ⟨rfl, .inl rfl⟩ | omega | skip))))); (iterate 2 all_goals (try (repeat' (conv => whnf); (first | with_reducible refine And.intro ?_ ?_ | with_reducible exact True.intro | (intro h; (first | cases h | ((try simp only [vis, Int.reduceToNat] at h); (try (exfalso; omega))))) | (with_reducible refine Vc.mk ?_; fail) | (with_reducible refine cutG ?_; fail) | refine idx_map ?_ ?_ | refine idx_mapI ?_ ?_ ?_ )))))))
              ((iterate 2 all_goals (try (repeat' (conv => whnf); (first | with_reducible refine And.intro ?_ ?_ | with_reducible exact True.intro | (intro h; (first | cases h | ((try simp only [vis, Int.reduceToNat] at h); (try (exfalso; omega))))) | (with_reducible refine Vc.mk ?_; fail) | (with_reducible refine cutG ?_; fail) | refine idx_map ?_ ?_ | refine idx_mapI ?_ ?_ ?_ | (refine StopAt.mk (by decide) (by decide) ?_) | (refine StopRow.mk _ rfl ?_))))); (all_goals (try omega)); (all_goals (try ((first | with_reducible refine Vc.mk ?_ | refine Vc.mk ?_); (try exact GLt)))); (all_goals (try (exact ⟨by decide, by decide⟩))))
              (refine lookS hlook ?_)
              ((iterate 2 all_goals (try (repeat' (conv => whnf); (first | with_reducible refine And.intro ?_ ?_ | with_reducible exact True.intro | (intro h; (first | cases h | ((try simp only [vis, Int.reduceToNat] at h); (try (exfalso; omega))))) | (with_reducible refine Vc.mk ?_; fail) | (with_reducible refine cutG ?_; fail) | refine idx_map ?_ ?_ | refine idx_mapI ?_ ?_ ?_ | (refine StopAt.mk (by decide) (by decide) ?_) | (refine StopRow.mk _ rfl ?_))))); (all_goals (try omega)); (all_goals (try ((first | with_reducible refine Vc.mk ?_ | refine Vc.mk ?_); (try exact GLt)))); (all_goals (try (exact ⟨by decide, by decide⟩))))
              (all_goals (try ((first | (refine call0 (hw) ?_ ?_) | (refine pure0 (hw) rfl ?_ ?_)); (· (repeat' (conv => whnf); (first | with_reducible refine And.intro ?_ ?_ | with_reducible exact True.intro | with_reducible exact Or.inl rfl | (refine Vc.mk ?_; (first | exact rfl | exact ⟨rfl, .inl rfl⟩ | omega | skip))))); (iterate 2 all_goals (try (repeat' (conv => whnf); (first | with_reducible refine And.intro ?_ ?_ | with_reducible exact True.intro | (intro h; (first | cases h | ((try simp only [vis, Int.reduceToNat] at h); (try (exfalso; omega))))) | (with_reducible refine Vc.mk ?_; fail) | (with_reducible refine cutG ?_; fail) | refine idx_map ?_ ?_ | refine idx_mapI ?_ ?_ ?_ )))))))
              ((iterate 2 all_goals (try (repeat' (conv => whnf); (first | with_reducible refine And.intro ?_ ?_ | with_reducible exact True.intro | (intro h; (first | cases h | ((try simp only [vis, Int.reduceToNat] at h); (try (exfalso; omega))))) | (with_reducible refine Vc.mk ?_; fail) | (with_reducible refine cutG ?_; fail) | refine idx_map ?_ ?_ | refine idx_mapI ?_ ?_ ?_ | (refine StopAt.mk (by decide) (by decide) ?_) | (refine StopRow.mk _ rfl ?_))))); (all_goals (try omega)); (all_goals (try ((first | with_reducible refine Vc.mk ?_ | refine Vc.mk ?_); (try exact GLt)))); (all_goals (try (exact ⟨by decide, by decide⟩))))
              ((try (conv => whnf)); refine ⟨[0, 1, 2, 3, 4, 5], rfl, rfl, ?_, ?_⟩); (repeat' (conv => whnf); (first | with_reducible refine And.intro ?_ ?_ | with_reducible exact True.intro | with_reducible exact Or.inl rfl | (refine Vc.mk ?_; (first | exact rfl | exact ⟨rfl, .inl rfl⟩ | omega | skip))))
              all_goals (first | rfl | (exact updF_owF))
          · have hV : hrdB ⟨kn, [a, b, c]⟩ p (q, g, l) = ⟨kn, [a, b, c]⟩ := if_neg (fun h => hv (by rw [← hK]; exact h.2.2))
            rw [hV]
            clear hK
            generalize orL [cmpI g2 g, cmpE l2 l] = v at *
            unfold stRow
            refine fn_of mixed [] [] Try.func78 rfl (by decide +kernel) Try.ntmps78 rfl (congrArg Array.toList Try.results78) rfl (by decide +kernel) ?_
            ((iterate 2 all_goals (try (repeat' (conv => whnf); (first | with_reducible refine And.intro ?_ ?_ | with_reducible exact True.intro | (intro h; (first | cases h | ((try simp only [vis, Int.reduceToNat] at h); (try (exfalso; omega))))) | (with_reducible refine Vc.mk ?_; fail) | (with_reducible refine cutG ?_; fail) | refine idx_map ?_ ?_ | refine idx_mapI ?_ ?_ ?_ | (refine StopAt.mk (by decide) (by decide) ?_) | (refine StopRow.mk _ rfl ?_))))); (all_goals (try omega)); (all_goals (try ((first | with_reducible refine Vc.mk ?_ | refine Vc.mk ?_); (try exact GLt)))); (all_goals (try (exact ⟨by decide, by decide⟩))))
            (all_goals (try ((first | (refine call0 (hck) ?_ ?_) | (refine pure0 (hck) rfl ?_ ?_)); (· (repeat' (conv => whnf); (first | with_reducible refine And.intro ?_ ?_ | with_reducible exact True.intro | with_reducible exact Or.inl rfl | (refine Vc.mk ?_; (first | exact rfl | exact ⟨rfl, .inl rfl⟩ | omega | skip))))); (iterate 2 all_goals (try (repeat' (conv => whnf); (first | with_reducible refine And.intro ?_ ?_ | with_reducible exact True.intro | (intro h; (first | cases h | ((try simp only [vis, Int.reduceToNat] at h); (try (exfalso; omega))))) | (with_reducible refine Vc.mk ?_; fail) | (with_reducible refine cutG ?_; fail) | refine idx_map ?_ ?_ | refine idx_mapI ?_ ?_ ?_ )))))))
            ((iterate 2 all_goals (try (repeat' (conv => whnf); (first | with_reducible refine And.intro ?_ ?_ | with_reducible exact True.intro | (intro h; (first | cases h | ((try simp only [vis, Int.reduceToNat] at h); (try (exfalso; omega))))) | (with_reducible refine Vc.mk ?_; fail) | (with_reducible refine cutG ?_; fail) | refine idx_map ?_ ?_ | refine idx_mapI ?_ ?_ ?_ | (refine StopAt.mk (by decide) (by decide) ?_) | (refine StopRow.mk _ rfl ?_))))); (all_goals (try omega)); (all_goals (try ((first | with_reducible refine Vc.mk ?_ | refine Vc.mk ?_); (try exact GLt)))); (all_goals (try (exact ⟨by decide, by decide⟩))))
            (refine lookS hlook ?_)
            ((iterate 2 all_goals (try (repeat' (conv => whnf); (first | with_reducible refine And.intro ?_ ?_ | with_reducible exact True.intro | (intro h; (first | cases h | ((try simp only [vis, Int.reduceToNat] at h); (try (exfalso; omega))))) | (with_reducible refine Vc.mk ?_; fail) | (with_reducible refine cutG ?_; fail) | refine idx_map ?_ ?_ | refine idx_mapI ?_ ?_ ?_ | (refine StopAt.mk (by decide) (by decide) ?_) | (refine StopRow.mk _ rfl ?_))))); (all_goals (try omega)); (all_goals (try ((first | with_reducible refine Vc.mk ?_ | refine Vc.mk ?_); (try exact GLt)))); (all_goals (try (exact ⟨by decide, by decide⟩))))
            (all_goals (try ((first | (refine call0 (hw) ?_ ?_) | (refine pure0 (hw) rfl ?_ ?_)); (· (repeat' (conv => whnf); (first | with_reducible refine And.intro ?_ ?_ | with_reducible exact True.intro | with_reducible exact Or.inl rfl | (refine Vc.mk ?_; (first | exact rfl | exact ⟨rfl, .inl rfl⟩ | omega | skip))))); (iterate 2 all_goals (try (repeat' (conv => whnf); (first | with_reducible refine And.intro ?_ ?_ | with_reducible exact True.intro | (intro h; (first | cases h | ((try simp only [vis, Int.reduceToNat] at h); (try (exfalso; omega))))) | (with_reducible refine Vc.mk ?_; fail) | (with_reducible refine cutG ?_; fail) | refine idx_map ?_ ?_ | refine idx_mapI ?_ ?_ ?_ )))))))
            ((iterate 2 all_goals (try (repeat' (conv => whnf); (first | with_reducible refine And.intro ?_ ?_ | with_reducible exact True.intro | (intro h; (first | cases h | ((try simp only [vis, Int.reduceToNat] at h); (try (exfalso; omega))))) | (with_reducible refine Vc.mk ?_; fail) | (with_reducible refine cutG ?_; fail) | refine idx_map ?_ ?_ | refine idx_mapI ?_ ?_ ?_ | (refine StopAt.mk (by decide) (by decide) ?_) | (refine StopRow.mk _ rfl ?_))))); (all_goals (try omega)); (all_goals (try ((first | with_reducible refine Vc.mk ?_ | refine Vc.mk ?_); (try exact GLt)))); (all_goals (try (exact ⟨by decide, by decide⟩))))
            ((try (conv => whnf)); refine ⟨[0, 1, 2, 3, 4, 5], rfl, rfl, ?_, ?_⟩); (repeat' (conv => whnf); (first | with_reducible refine And.intro ?_ ?_ | with_reducible exact True.intro | with_reducible exact Or.inl rfl | (refine Vc.mk ?_; (first | exact rfl | exact ⟨rfl, .inl rfl⟩ | omega | skip))))
            all_goals rfl
      · have hE : takeE ⟨kn, [a, b, c]⟩ p (q, g, l) = sfault q g l := if_pos hin
        have hV : hrdB ⟨kn, [a, b, c]⟩ p (q, g, l) = ⟨kn, [a, b, c]⟩ := if_neg (fun h => h0 h.2.1)
        rw [hE, hV]
        generalize sfault q g l = F at *
        unfold stRow
        refine fn_of mixed [] [] Try.func78 rfl (by decide +kernel) Try.ntmps78 rfl (congrArg Array.toList Try.results78) rfl (by decide +kernel) ?_
        ((iterate 2 all_goals (try (repeat' (conv => whnf); (first | with_reducible refine And.intro ?_ ?_ | with_reducible exact True.intro | (intro h; (first | cases h | ((try simp only [vis, Int.reduceToNat] at h); (try (exfalso; omega))))) | (with_reducible refine Vc.mk ?_; fail) | (with_reducible refine cutG ?_; fail) | refine idx_map ?_ ?_ | refine idx_mapI ?_ ?_ ?_ | (refine StopAt.mk (by decide) (by decide) ?_) | (refine StopRow.mk _ rfl ?_))))); (all_goals (try omega)); (all_goals (try ((first | with_reducible refine Vc.mk ?_ | refine Vc.mk ?_); (try exact GLt)))); (all_goals (try (exact ⟨by decide, by decide⟩))))
        (all_goals (try ((first | (refine call0 (hck) ?_ ?_) | (refine pure0 (hck) rfl ?_ ?_)); (· (repeat' (conv => whnf); (first | with_reducible refine And.intro ?_ ?_ | with_reducible exact True.intro | with_reducible exact Or.inl rfl | (refine Vc.mk ?_; (first | exact rfl | exact ⟨rfl, .inl rfl⟩ | omega | skip))))); (iterate 2 all_goals (try (repeat' (conv => whnf); (first | with_reducible refine And.intro ?_ ?_ | with_reducible exact True.intro | (intro h; (first | cases h | ((try simp only [vis, Int.reduceToNat] at h); (try (exfalso; omega))))) | (with_reducible refine Vc.mk ?_; fail) | (with_reducible refine cutG ?_; fail) | refine idx_map ?_ ?_ | refine idx_mapI ?_ ?_ ?_ )))))))
        ((iterate 2 all_goals (try (repeat' (conv => whnf); (first | with_reducible refine And.intro ?_ ?_ | with_reducible exact True.intro | (intro h; (first | cases h | ((try simp only [vis, Int.reduceToNat] at h); (try (exfalso; omega))))) | (with_reducible refine Vc.mk ?_; fail) | (with_reducible refine cutG ?_; fail) | refine idx_map ?_ ?_ | refine idx_mapI ?_ ?_ ?_ | (refine StopAt.mk (by decide) (by decide) ?_) | (refine StopRow.mk _ rfl ?_))))); (all_goals (try omega)); (all_goals (try ((first | with_reducible refine Vc.mk ?_ | refine Vc.mk ?_); (try exact GLt)))); (all_goals (try (exact ⟨by decide, by decide⟩))))
        all_goals (((try (conv => whnf)); refine ⟨[0, 1, 2, 3, 4, 5], rfl, rfl, ?_, ?_⟩); (repeat' (conv => whnf); (first | with_reducible refine And.intro ?_ ?_ | with_reducible exact True.intro | with_reducible exact Or.inl rfl | (refine Vc.mk ?_; (first | exact rfl | exact ⟨rfl, .inl rfl⟩ | omega | skip)))); all_goals rfl)
    · have hin : inP ⟨kn, [a, b, c]⟩ p = false := by simp [inP]; omega
      have hE : takeE ⟨kn, [a, b, c]⟩ p (q, g, l) = 1 := by unfold takeE; rw [hin]; rfl
      have hV : hrdB ⟨kn, [a, b, c]⟩ p (q, g, l) = ⟨kn, [a, b, c]⟩ := if_neg (fun h => by rw [hin] at h; exact absurd h.1 (by decide))
      rw [hE, hV]
      unfold stRow
      refine fn_of mixed [] [] Try.func78 rfl (by decide +kernel) Try.ntmps78 rfl (congrArg Array.toList Try.results78) rfl (by decide +kernel) ?_
      ((iterate 2 all_goals (try (repeat' (conv => whnf); (first | with_reducible refine And.intro ?_ ?_ | with_reducible exact True.intro | (intro h; (first | cases h | ((try simp only [vis, Int.reduceToNat] at h); (try (exfalso; omega))))) | (with_reducible refine Vc.mk ?_; fail) | (with_reducible refine cutG ?_; fail) | refine idx_map ?_ ?_ | refine idx_mapI ?_ ?_ ?_ | (refine StopAt.mk (by decide) (by decide) ?_) | (refine StopRow.mk _ rfl ?_))))); (all_goals (try omega)); (all_goals (try ((first | with_reducible refine Vc.mk ?_ | refine Vc.mk ?_); (try exact GLt)))); (all_goals (try (exact ⟨by decide, by decide⟩))))
      all_goals (((try (conv => whnf)); refine ⟨[0, 1, 2, 3, 4, 5], rfl, rfl, ?_, ?_⟩); (repeat' (conv => whnf); (first | with_reducible refine And.intro ?_ ?_ | with_reducible exact True.intro | with_reducible exact Or.inl rfl | (refine Vc.mk ?_; (first | exact rfl | exact ⟨rfl, .inl rfl⟩ | omega | skip)))); all_goals rfl)
end Go.Proofs.Ytimfnpjcedjmiaa
