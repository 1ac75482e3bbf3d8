/-
  Package ways: the hop to a router; lists of hops; few states, each of which may be.
-/
import Derived.Test.YtimfnpjcedjmiabMWa
import Derived.Test.YtimfnpjcedjmiabLWb
import Derived.Test.YtimfnpjcedjmiabMSt
namespace Go.Proofs.Ytimfnpjcedjmiab
open Go.RowKit
set_option linter.unusedSimpArgs false
set_option linter.unusedVariables false

def firstH (n : Int) : List Hp → Nat → Int
  | [], _ => -1
  | h :: r, k => if h.1 = n then k else firstH n r (k + 1)
/-- The hop to a router. -/
def toH (n : Int) : List Hp → Option Hp
  | [] => none
  | h :: r => if h.1 = n then some h else toH n r
def toV (n : Int) (l : List Hp) : Hp := (toH n l).getD (0, 0, 0)
theorem firstH_none {n : Int} : ∀ {l : List Hp} {k : Nat}, toH n l = none → firstH n l k = -1
  | [], k, h => rfl
  | x :: r, k, h => by
    unfold toH at h
    split at h
    · cases h
    · rename_i g; unfold firstH; rw [if_neg g]; exact firstH_none h
theorem firstH_some {n : Int} : ∀ {l : List Hp} {k : Nat} {x : Hp}, toH n l = some x → ∃ i : Nat, firstH n l k = ((k + i : Nat) : Int) ∧ l[i]? = some x
  | [], k, x, h => by cases h
  | y :: r, k, x, h => by
    unfold toH at h
    split at h
    · rename_i g; unfold firstH; rw [if_pos g]; exact ⟨0, by simp, by simpa using h⟩
    · rename_i g
      unfold firstH; rw [if_neg g]
      obtain ⟨i, h1, h2⟩ := firstH_some (k := k + 1) h
      exact ⟨i + 1, by rw [h1]; congr 1; omega, by simpa using h2⟩
set_option maxRecDepth 100000 in
theorem toF_ok (a b c n : Int) : Fn Try.prog 41 [.agg [.v (.int .i64 a), .v (.int .i64 b), .v (.int .i64 c)], .box 0 0] [.cells [.v (.int .i64 n)]] (.v (.bool (a == n))) [.cells [.v (.int .i64 n)]] := by
  refine fn_of mixed [] [] Try.func41 rfl (by decide +kernel) Try.ntmps41 rfl (congrArg Array.toList Try.results41) rfl (by decide +kernel) ?_
  (iterate 2 all_goals (try (repeat' (conv => whnf); (first | (with_reducible refine And.intro ?_ ?_) | (with_reducible exact True.intro) | (intro h; (first | (cases h) | ((first | (simp only [vis, Int.reduceToNat] at h) | skip); (try (exfalso; omega))))) | (with_reducible refine Vc.mk ?_; fail) | (with_reducible refine cutG ?_; fail) | (refine idx_map ?_ ?_) | (refine idx_mapI ?_ ?_ ?_) ))))
  all_goals (((try (conv => whnf)); refine ⟨[0], rfl, rfl, ?_, ?_⟩); (repeat' (conv => whnf); (first | (with_reducible refine And.intro ?_ ?_) | (with_reducible exact True.intro) | (with_reducible exact Or.inl rfl) | (refine Vc.mk ?_; (first | (exact rfl) | (exact ⟨rfl, .inl rfl⟩) | omega | skip)))))
set_option maxRecDepth 100000 in
theorem indexH_ok (l : List Hp) (n : Int) (hl : l.length ≤ 1000000) : Fn Try.prog 40 [.sl 3 (l.map hRow) none, .clo 41 [.box 0 0]] [.cells [.v (.int .i64 n)]] (.v (.int .i64 (firstH n l 0))) [.cells [.v (.int .i64 n)]] := by
  refine fn_of mixed [] [] Try.func40 rfl (by decide +kernel) Try.ntmps40 rfl (congrArg Array.toList Try.results40) rfl (by decide +kernel) ?_
  (iterate 2 all_goals (try (repeat' (conv => whnf); (first | (with_reducible refine And.intro ?_ ?_) | (with_reducible exact True.intro) | (intro h; (first | (cases h) | ((first | (simp only [vis, Int.reduceToNat] at h) | skip); (try (exfalso; omega))))) | (with_reducible refine Vc.mk ?_; fail) | (with_reducible refine cutG ?_; fail) | (refine idx_map ?_ ?_) | (refine idx_mapI ?_ ?_ ?_) ))))
  refine lpG (fun k : Nat => ⟨[(0, .sl 3 (l.map hRow) none), (1, .clo 41 [.box 0 0]), (7, .v (.int .i64 l.length)), (8, .v (.int .i64 k))], [.cells [.v (.int .i64 n)]]⟩) (fun k => k ≤ l.length ∧ firstH n l 0 = firstH n (l.drop k) k) (fun k => l.length - k) 0 ⟨by omega, rfl⟩ (by (refine le_sub [0] rfl rfl ?_ ?_); all_goals ((repeat' (conv => whnf); (first | (with_reducible refine And.intro ?_ ?_) | (with_reducible exact True.intro) | (with_reducible exact Or.inl rfl) | (refine Vc.mk ?_; (first | (exact rfl) | (exact ⟨rfl, .inl rfl⟩) | omega | skip)))); all_goals (try simp))) ?_
  rintro k ⟨hk, hp⟩
  (iterate 2 all_goals (try (repeat' (conv => whnf); (first | (with_reducible refine And.intro ?_ ?_) | (with_reducible exact True.intro) | (intro h; (first | (cases h) | ((first | (simp only [vis, Int.reduceToNat] at h) | skip); (try (exfalso; omega))))) | (with_reducible refine Vc.mk ?_; fail) | (with_reducible refine cutG ?_; fail) | (refine idx_map ?_ ?_) | (refine idx_mapI ?_ ?_ ?_) ))))
  all_goals (try omega)
  · have hk' : k < l.length := by omega
    (refine ⟨_, _, _, _, [0], toF_ok l[k].1 l[k].2.1 l[k].2.2 n, rfl, rfl, rfl, ?_, ?_, ?_⟩)
    · (repeat' (conv => whnf); (first | (with_reducible refine And.intro ?_ ?_) | (with_reducible exact True.intro) | (with_reducible exact Or.inl rfl) | (refine Vc.mk ?_; (first | (exact rfl) | (exact ⟨rfl, .inl rfl⟩) | omega | skip))))
    · (repeat' (conv => whnf); (first | (with_reducible refine And.intro ?_ ?_) | (with_reducible exact True.intro) | (with_reducible exact Or.inl rfl) | (refine Vc.mk ?_; (first | (exact rfl) | (exact ⟨rfl, .inl rfl⟩) | omega | skip))))
    (iterate 2 all_goals (try (repeat' (conv => whnf); (first | (with_reducible refine And.intro ?_ ?_) | (with_reducible exact True.intro) | (intro h; (first | (cases h) | ((first | (simp only [vis, Int.reduceToNat] at h) | skip); (try (exfalso; omega))))) | (with_reducible refine Vc.mk ?_; fail) | (with_reducible refine cutG ?_; fail) | (refine idx_map ?_ ?_) | (refine idx_mapI ?_ ?_ ?_) ))))
    all_goals (try (refine Vc.mk ?_; (first | (exact rfl) | (decide) | omega | (unfold In64; omega) | (simp only [wrap_byte, Int.reduceToNat, Int.toNat_natCast, In64]; omega) | (simp only [maxLen, Fits, viewR, viewL, AV.view, List.length_map, List.length_append, List.length_cons, List.length_nil]; omega) | (simp [viewR, viewL, AV.view, ]; done) | skip)))
    · ((try (conv => whnf)); refine ⟨[0], rfl, rfl, ?_, ?_⟩); (repeat' (conv => whnf); (first | (with_reducible refine And.intro ?_ ?_) | (with_reducible exact True.intro) | (with_reducible exact Or.inl rfl) | (refine Vc.mk ?_; (first | (exact rfl) | (exact ⟨rfl, .inl rfl⟩) | omega | skip))))
      rw [hp, drop_cons (by omega)]
      simp [firstH, h]
    · refine nextG (k + 1) ⟨by omega, ?_⟩ (by omega) (by (refine le_sub [0] rfl rfl ?_ ?_); all_goals (repeat' (conv => whnf); (first | (with_reducible refine And.intro ?_ ?_) | (with_reducible exact True.intro) | (with_reducible exact Or.inl rfl) | (refine Vc.mk ?_; (first | (exact rfl) | (exact ⟨rfl, .inl rfl⟩) | omega | skip)))))
      rw [hp, drop_cons (by omega)]
      simp [firstH, h]
  · have e : k = l.length := by omega
    subst e
    ((try (conv => whnf)); refine ⟨[0], rfl, rfl, ?_, ?_⟩); (repeat' (conv => whnf); (first | (with_reducible refine And.intro ?_ ?_) | (with_reducible exact True.intro) | (with_reducible exact Or.inl rfl) | (refine Vc.mk ?_; (first | (exact rfl) | (exact ⟨rfl, .inl rfl⟩) | omega | skip))))
    rw [hp]
    simp [firstH]
set_option maxHeartbeats 4000000 in
set_option maxRecDepth 100000 in
theorem to_ok (l : List Hp) (n : Int) (hl : l.length ≤ 1000000) : Fn Try.prog 29 [.sl 3 (l.map hRow) none, .v (.int .i64 n)] [] (.tup [.agg [.v (.int .i64 (toV n l).1), .v (.int .i64 (toV n l).2.1), .v (.int .i64 (toV n l).2.2)], .v (.bool (toH n l).isSome)]) [] := by
  have hi := indexH_ok l n hl
  cases ht : toH n l with
  | none =>
    rw [firstH_none ht] at hi
    have hv : toV n l = (0, 0, 0) := by unfold toV; rw [ht]; rfl
    rw [hv]
    refine fn_of mixed [] [] Try.func29 rfl (by decide +kernel) Try.ntmps29 rfl (congrArg Array.toList Try.results29) rfl (by decide +kernel) ?_
    (iterate 2 all_goals (try (repeat' (conv => whnf); (first | (with_reducible refine And.intro ?_ ?_) | (with_reducible exact True.intro) | (intro h; (first | (cases h) | ((first | (simp only [vis, Int.reduceToNat] at h) | skip); (try (exfalso; omega))))) | (with_reducible refine Vc.mk ?_; fail) | (with_reducible refine cutG ?_; fail) | (refine idx_map ?_ ?_) | (refine idx_mapI ?_ ?_ ?_) ))))
    (refine ⟨_, _, _, _, [0], hi, rfl, rfl, rfl, ?_, ?_, ?_⟩)
    · (repeat' (conv => whnf); (first | (with_reducible refine And.intro ?_ ?_) | (with_reducible exact True.intro) | (with_reducible exact Or.inl rfl) | (refine Vc.mk ?_; (first | (exact rfl) | (exact ⟨rfl, .inl rfl⟩) | omega | skip))))
    · (repeat' (conv => whnf); (first | (with_reducible refine And.intro ?_ ?_) | (with_reducible exact True.intro) | (with_reducible exact Or.inl rfl) | (refine Vc.mk ?_; (first | (exact rfl) | (exact ⟨rfl, .inl rfl⟩) | omega | skip))))
    (iterate 2 all_goals (try (repeat' (conv => whnf); (first | (with_reducible refine And.intro ?_ ?_) | (with_reducible exact True.intro) | (intro h; (first | (cases h) | ((first | (simp only [vis, Int.reduceToNat] at h) | skip); (try (exfalso; omega))))) | (with_reducible refine Vc.mk ?_; fail) | (with_reducible refine cutG ?_; fail) | (refine idx_map ?_ ?_) | (refine idx_mapI ?_ ?_ ?_) ))))
    all_goals (try omega)
    all_goals (((try (conv => whnf)); refine ⟨[], rfl, rfl, ?_, ?_⟩); (repeat' (conv => whnf); (first | (with_reducible refine And.intro ?_ ?_) | (with_reducible exact True.intro) | (with_reducible exact Or.inl rfl) | (refine Vc.mk ?_; (first | (exact rfl) | (exact ⟨rfl, .inl rfl⟩) | omega | skip)))))
  | some x =>
    obtain ⟨i, h1, h2⟩ := firstH_some (k := 0) ht
    rw [h1] at hi
    have hv : toV n l = x := by unfold toV; rw [ht]; rfl
    have hil : i < l.length := (List.getElem?_eq_some_iff.1 h2).1
    have hx : l[i] = x := by rw [List.getElem?_eq_getElem hil] at h2; exact Option.some.inj h2
    rw [hv]
    rw [Nat.zero_add] at hi
    refine fn_of mixed [] [] Try.func29 rfl (by decide +kernel) Try.ntmps29 rfl (congrArg Array.toList Try.results29) rfl (by decide +kernel) ?_
    (iterate 2 all_goals (try (repeat' (conv => whnf); (first | (with_reducible refine And.intro ?_ ?_) | (with_reducible exact True.intro) | (intro h; (first | (cases h) | ((first | (simp only [vis, Int.reduceToNat] at h) | skip); (try (exfalso; omega))))) | (with_reducible refine Vc.mk ?_; fail) | (with_reducible refine cutG ?_; fail) | (refine idx_map ?_ ?_) | (refine idx_mapI ?_ ?_ ?_) ))))
    (refine ⟨_, _, _, _, [0], hi, rfl, rfl, rfl, ?_, ?_, ?_⟩)
    · (repeat' (conv => whnf); (first | (with_reducible refine And.intro ?_ ?_) | (with_reducible exact True.intro) | (with_reducible exact Or.inl rfl) | (refine Vc.mk ?_; (first | (exact rfl) | (exact ⟨rfl, .inl rfl⟩) | omega | skip))))
    · (repeat' (conv => whnf); (first | (with_reducible refine And.intro ?_ ?_) | (with_reducible exact True.intro) | (with_reducible exact Or.inl rfl) | (refine Vc.mk ?_; (first | (exact rfl) | (exact ⟨rfl, .inl rfl⟩) | omega | skip))))
    (iterate 2 all_goals (try (repeat' (conv => whnf); (first | (with_reducible refine And.intro ?_ ?_) | (with_reducible exact True.intro) | (intro h; (first | (cases h) | ((first | (simp only [vis, Int.reduceToNat] at h) | skip); (try (exfalso; omega))))) | (with_reducible refine Vc.mk ?_; fail) | (with_reducible refine cutG ?_; fail) | (refine idx_map ?_ ?_) | (refine idx_mapI ?_ ?_ ?_) ))))
    all_goals (try omega)
    all_goals (((try (conv => whnf)); refine ⟨[], rfl, rfl, ?_, ?_⟩); (repeat' (conv => whnf); (first | (with_reducible refine And.intro ?_ ?_) | (with_reducible exact True.intro) | (with_reducible exact Or.inl rfl) | (refine Vc.mk ?_; (first | (exact rfl) | (exact ⟨rfl, .inl rfl⟩) | omega | skip)))))
    all_goals (try (rw [hx]))
set_option maxHeartbeats 4000000 in
set_option maxRecDepth 100000 in
theorem sameHops_ok (la lb : List Hp) (ha : la.length ≤ 1000000) : Fn Try.prog 37 [.sl 3 (la.map hRow) none, .sl 3 (lb.map hRow) none] [] (.v (.bool (decide (la = lb)))) [] := by
  refine fn_of mixed [] [] Try.func37 rfl (by decide +kernel) Try.ntmps37 rfl (congrArg Array.toList Try.results37) rfl (by decide +kernel) ?_
  (iterate 2 all_goals (try (repeat' (conv => whnf); (first | (with_reducible refine And.intro ?_ ?_) | (with_reducible exact True.intro) | (intro h; (first | (cases h) | ((first | (simp only [vis, Int.reduceToNat] at h) | skip); (try (exfalso; omega))))) | (with_reducible refine Vc.mk ?_; fail) | (with_reducible refine cutG ?_; fail) | (refine idx_map ?_ ?_) | (refine idx_mapI ?_ ?_ ?_) ))))
  · ((try (conv => whnf)); refine ⟨[], rfl, rfl, ?_, ?_⟩); (repeat' (conv => whnf); (first | (with_reducible refine And.intro ?_ ?_) | (with_reducible exact True.intro) | (with_reducible exact Or.inl rfl) | (refine Vc.mk ?_; (first | (exact rfl) | (exact ⟨rfl, .inl rfl⟩) | omega | skip))))
    have : ¬ la = lb := fun e => by subst e; omega
    simp [this]
  refine lpG (fun k : Nat => ⟨[(0, .sl 3 (la.map hRow) none), (1, .sl 3 (lb.map hRow) none), (5, .v (.int .i64 k))], []⟩) (fun k => k ≤ la.length ∧ ∀ i, i < k → la[i]? = lb[i]?) (fun k => la.length - k) 0 ⟨by omega, fun i h => by omega⟩ (by (refine le_sub [] rfl rfl ?_ ?_); all_goals (repeat' (conv => whnf); (first | (with_reducible refine And.intro ?_ ?_) | (with_reducible exact True.intro) | (with_reducible exact Or.inl rfl) | (refine Vc.mk ?_; (first | (exact rfl) | (exact ⟨rfl, .inl rfl⟩) | omega | skip))))) ?_
  rintro k ⟨hk, hp⟩
  (iterate 2 all_goals (try (repeat' (conv => whnf); (first | (with_reducible refine And.intro ?_ ?_) | (with_reducible exact True.intro) | (intro h; (first | (cases h) | ((first | (simp only [vis, Int.reduceToNat] at h) | skip); (try (exfalso; omega))))) | (with_reducible refine Vc.mk ?_; fail) | (with_reducible refine cutG ?_; fail) | (refine idx_map ?_ ?_) | (refine idx_mapI ?_ ?_ ?_) | (refine ne_hop ?_)))))
  all_goals (try omega)
  all_goals (try (refine Vc.mk ?_; (first | (exact rfl) | (decide) | omega | (unfold In64; omega) | (simp only [wrap_byte, Int.reduceToNat, Int.toNat_natCast, In64]; omega) | (simp only [maxLen, Fits, viewR, viewL, AV.view, List.length_map, List.length_append, List.length_cons, List.length_nil]; omega) | (simp [viewR, viewL, AV.view, ]; done) | skip)))
  · ((try (conv => whnf)); refine ⟨[], rfl, rfl, ?_, ?_⟩); (repeat' (conv => whnf); (first | (with_reducible refine And.intro ?_ ?_) | (with_reducible exact True.intro) | (with_reducible exact Or.inl rfl) | (refine Vc.mk ?_; (first | (exact rfl) | (exact ⟨rfl, .inl rfl⟩) | omega | skip))))
    have : ¬ la = lb := fun e => by subst e; simp at h
    simp [this]
  · refine nextG (k + 1) ⟨by omega, fun i hi => ?_⟩ (by omega) (by (refine le_sub [] rfl rfl ?_ ?_); all_goals (repeat' (conv => whnf); (first | (with_reducible refine And.intro ?_ ?_) | (with_reducible exact True.intro) | (with_reducible exact Or.inl rfl) | (refine Vc.mk ?_; (first | (exact rfl) | (exact ⟨rfl, .inl rfl⟩) | omega | skip)))))
    by_cases hik : i = k
    · subst hik
      rw [List.getElem?_eq_getElem (by omega), List.getElem?_eq_getElem (by omega)]
      simp at h
      rw [Prod.ext h.1.1 (Prod.ext h.1.2 h.2)]
    · exact hp i (by omega)
  · ((try (conv => whnf)); refine ⟨[], rfl, rfl, ?_, ?_⟩); (repeat' (conv => whnf); (first | (with_reducible refine And.intro ?_ ?_) | (with_reducible exact True.intro) | (with_reducible exact Or.inl rfl) | (refine Vc.mk ?_; (first | (exact rfl) | (exact ⟨rfl, .inl rfl⟩) | omega | skip))))
    have : la = lb := List.ext_getElem? fun i => by
      by_cases hi : i < k
      · exact hp i hi
      · rw [List.getElem?_eq_none (by omega), List.getElem?_eq_none (by omega)]
    simp [this]
end Go.Proofs.Ytimfnpjcedjmiab
