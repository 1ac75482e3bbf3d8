/-
  Several parts in one text: GPol GPol2 GPol3 GPol4 GPol5.
-/
import Derived.Test.YtimfnpjcedjmiaaVoc
/-
  Package policy and the reference's like.
-/
namespace Go.Proofs.Ytimfnpjcedjmiaa
open Go.RowKit
set_option linter.unusedSimpArgs false
def asks (s m : Int) : List (Int × Int) := (if 0 < s then [(1, s)] else []) ++ (if 0 < m then [(5, m)] else [])
def rej (l : List (Int × Int)) : List (Int × Int) := l.filter fun o => o.1 != 1 && o.1 != 5
def nakOf (m : Int) (o : Int × Int) : Option (Int × Int) :=
  if o.1 = 1 ∧ o.2 < 40 then some (1, 40) else if o.1 = 5 ∧ (o.2 = 0 ∨ o.2 = m) then some (5, m % 255 + 1) else none
def nak (m : Int) (l : List (Int × Int)) : List (Int × Int) := l.filterMap (nakOf m)
theorem rej_succ {l : List (Int × Int)} {k : Nat} (h : k < l.length) : rej (l.take (k + 1)) = rej (l.take k) ++ (if l[k].1 ≠ 1 ∧ l[k].1 ≠ 5 then [l[k]] else []) := by
  unfold rej
  rw [List.take_add_one, List.getElem?_eq_getElem h, List.filter_append]
  simp [List.filter_cons]
theorem nak_succ {l : List (Int × Int)} {m : Int} {k : Nat} (h : k < l.length) : nak m (l.take (k + 1)) = nak m (l.take k) ++ (nakOf m l[k]).toList := by
  unfold nak
  rw [List.take_add_one, List.getElem?_eq_getElem h, List.filterMap_append]
  cases e : nakOf m l[k] <;> simp [e]
def polOk (s m : Int) : Bool := decide (40 ≤ s) && decide (s ≤ 255) && decide (1 ≤ m) && decide (m ≤ 255)
theorem polOk_iff {s m : Int} : polOk s m = true ↔ (40 ≤ s ∧ s ≤ 255 ∧ 1 ≤ m ∧ m ≤ 255) := by simp [polOk, and_assoc]
set_option maxHeartbeats 4000000 in
set_option maxRecDepth 100000 in
theorem asks_ok (s m : Int) : Fn Try.prog 39 [.agg [.v (.int .i64 s), .v (.int .i64 m)]] [] (.sl 2 ((asks s m).map opRow) none) [] := by
  refine fn_of mixed [] [] Try.func39 rfl (by decide +kernel) Try.ntmps39 rfl (congrArg Array.toList Try.results39) rfl (by decide +kernel) ?_
  (iterate 2 all_goals (try (repeat' (conv => whnf); (first | with_reducible refine And.intro ?_ ?_ | with_reducible exact True.intro | (intro h; (first | cases h | ((try simp only [vis, Int.reduceToNat] at h); (try (exfalso; omega))))) | (with_reducible refine Vc.mk ?_; fail) | (with_reducible refine cutG ?_; fail) | refine idx_map ?_ ?_ | refine idx_mapI ?_ ?_ ?_ ))))
  all_goals (try ((first | with_reducible refine Vc.mk ?_ | refine Vc.mk ?_); (try exact GLt)))
  all_goals (((try (conv => whnf)); refine ⟨[], rfl, rfl, ?_, ?_⟩); (repeat' (conv => whnf); (first | with_reducible refine And.intro ?_ ?_ | with_reducible exact True.intro | with_reducible exact Or.inl rfl | (refine Vc.mk ?_; (first | exact rfl | exact ⟨rfl, .inl rfl⟩ | omega | skip)))))
  all_goals (first | (exact rfl) | (decide) | omega | (unfold In64; omega) | (simp [viewR, viewL, AV.view, asks, opRow, *]; done) | skip)
set_option maxHeartbeats 4000000 in
set_option maxRecDepth 100000 in
theorem rasks_ok (s m : Int) : Fn Try.prog 40 [.agg [.v (.int .i64 s), .v (.int .i64 m)]] [] (.sl 2 ((asks s m).map opRow) none) [] := by
  refine fn_of mixed [] [] Try.func40 rfl (by decide +kernel) Try.ntmps40 rfl (congrArg Array.toList Try.results40) rfl (by decide +kernel) ?_
  (iterate 2 all_goals (try (repeat' (conv => whnf); (first | with_reducible refine And.intro ?_ ?_ | with_reducible exact True.intro | (intro h; (first | cases h | ((try simp only [vis, Int.reduceToNat] at h); (try (exfalso; omega))))) | (with_reducible refine Vc.mk ?_; fail) | (with_reducible refine cutG ?_; fail) | refine idx_map ?_ ?_ | refine idx_mapI ?_ ?_ ?_ ))))
  all_goals (try ((first | with_reducible refine Vc.mk ?_ | refine Vc.mk ?_); (try exact GLt)))
  all_goals (((try (conv => whnf)); refine ⟨[], rfl, rfl, ?_, ?_⟩); (repeat' (conv => whnf); (first | with_reducible refine And.intro ?_ ?_ | with_reducible exact True.intro | with_reducible exact Or.inl rfl | (refine Vc.mk ?_; (first | exact rfl | exact ⟨rfl, .inl rfl⟩ | omega | skip)))))
  all_goals (first | (exact rfl) | (decide) | omega | (unfold In64; omega) | (simp [viewR, viewL, AV.view, asks, opRow, *]; done) | skip)
set_option maxHeartbeats 4000000 in
set_option maxRecDepth 100000 in
theorem new_ok (s m : Int) : Fn Try.prog 33 [.v (.int .i64 s), .v (.int .i64 m)] [] (.tup [.agg [.v (.int .i64 (if polOk s m then s else 0)), .v (.int .i64 (if polOk s m then m else 0))], .err (if polOk s m then 0 else 1)]) [] := by
  refine fn_of mixed [] [] Try.func33 rfl (by decide +kernel) Try.ntmps33 rfl (congrArg Array.toList Try.results33) rfl (by decide +kernel) ?_
  (iterate 2 all_goals (try (repeat' (conv => whnf); (first | with_reducible refine And.intro ?_ ?_ | with_reducible exact True.intro | (intro h; (first | cases h | ((try simp only [vis, Int.reduceToNat] at h); (try (exfalso; omega))))) | (with_reducible refine Vc.mk ?_; fail) | (with_reducible refine cutG ?_; fail) | refine idx_map ?_ ?_ | refine idx_mapI ?_ ?_ ?_ ))))
  all_goals (try ((first | with_reducible refine Vc.mk ?_ | refine Vc.mk ?_); (try exact GLt)))
  all_goals (((try (conv => whnf)); refine ⟨[], rfl, rfl, ?_, ?_⟩); (repeat' (conv => whnf); (first | with_reducible refine And.intro ?_ ?_ | with_reducible exact True.intro | with_reducible exact Or.inl rfl | (refine Vc.mk ?_; (first | exact rfl | exact ⟨rfl, .inl rfl⟩ | omega | skip)))))
  all_goals first
    | (have hp : polOk s m = true := polOk_iff.2 ⟨by omega, by omega, by omega, by omega⟩
       simp [hp]; done)
    | (have hp : ¬ polOk s m = true := fun h => by have := polOk_iff.1 h; omega
       simp [hp]; done)
    | trace_state
set_option maxHeartbeats 4000000 in
set_option maxRecDepth 100000 in
theorem sameOptions_ok (la lb : List (Int × Int)) : Fn Try.prog 38 [.sl 2 (la.map opRow) none, .sl 2 (lb.map opRow) none] [] (.v (.bool (la == lb))) [] := by
  refine fn_light ⟨_, Try.func38, rfl, by decide +kernel⟩ 0 rfl fun ha => ?_
  simp only [List.length_map, maxLen] at ha
  refine fn_of mixed [] [] Try.func38 rfl (by decide +kernel) Try.ntmps38 rfl (congrArg Array.toList Try.results38) rfl (by decide +kernel) ?_
  (iterate 2 all_goals (try (repeat' (conv => whnf); (first | with_reducible refine And.intro ?_ ?_ | with_reducible exact True.intro | (intro h; (first | cases h | ((try simp only [vis, Int.reduceToNat] at h); (try (exfalso; omega))))) | (with_reducible refine Vc.mk ?_; fail) | (with_reducible refine cutG ?_; fail) | refine idx_map ?_ ?_ | refine idx_mapI ?_ ?_ ?_ ))))
  · ((try (conv => whnf)); refine ⟨[], rfl, rfl, ?_, ?_⟩); (repeat' (conv => whnf); (first | with_reducible refine And.intro ?_ ?_ | with_reducible exact True.intro | with_reducible exact Or.inl rfl | (refine Vc.mk ?_; (first | exact rfl | exact ⟨rfl, .inl rfl⟩ | omega | skip))))
    have : ¬ la = lb := fun e => by subst e; omega
    simp [this]
  refine lpG (fun k : Nat => ⟨[(0, .sl 2 (la.map opRow) none), (1, .sl 2 (lb.map opRow) none), (5, .v (.int .i64 k))], []⟩) (fun k => k ≤ la.length ∧ ∀ i, i < k → la[i]? = lb[i]?) (fun k => la.length - k) 0 ⟨by omega, fun i h => by omega⟩ (by (refine le_sub [] rfl rfl ?_ ?_); all_goals (repeat' (conv => whnf); (first | with_reducible refine And.intro ?_ ?_ | with_reducible exact True.intro | with_reducible exact Or.inl rfl | (refine Vc.mk ?_; (first | exact rfl | exact ⟨rfl, .inl rfl⟩ | omega | skip))))) ?_
  rintro k ⟨hk, hp⟩
  (iterate 2 all_goals (try (repeat' (conv => whnf); (first | with_reducible refine And.intro ?_ ?_ | with_reducible exact True.intro | (intro h; (first | cases h | ((try simp only [vis, Int.reduceToNat] at h); (try (exfalso; omega))))) | (with_reducible refine Vc.mk ?_; fail) | (with_reducible refine cutG ?_; fail) | refine idx_map ?_ ?_ | refine idx_mapI ?_ ?_ ?_ | (refine ne_option ?_)))))
  all_goals (try omega)
  all_goals (try ((first | with_reducible refine Vc.mk ?_ | refine Vc.mk ?_); (try exact GLt)))
  · ((try (conv => whnf)); refine ⟨[], rfl, rfl, ?_, ?_⟩); (repeat' (conv => whnf); (first | with_reducible refine And.intro ?_ ?_ | with_reducible exact True.intro | with_reducible exact Or.inl rfl | (refine Vc.mk ?_; (first | exact rfl | exact ⟨rfl, .inl rfl⟩ | omega | skip))))
    have : ¬ la = lb := fun e => by subst e; simp at h
    simp [this]
  · refine nextG (k + 1) ⟨by omega, fun i hi => ?_⟩ (by omega) (by (refine le_sub [] rfl rfl ?_ ?_); all_goals (repeat' (conv => whnf); (first | with_reducible refine And.intro ?_ ?_ | with_reducible exact True.intro | with_reducible exact Or.inl rfl | (refine Vc.mk ?_; (first | exact rfl | exact ⟨rfl, .inl rfl⟩ | omega | skip)))))
    by_cases hik : i = k
    · subst hik
      rw [List.getElem?_eq_getElem (by omega), List.getElem?_eq_getElem (by omega)]
      simp at h
      rw [Prod.ext h.1 h.2]
    · exact hp i (by omega)
  · ((try (conv => whnf)); refine ⟨[], rfl, rfl, ?_, ?_⟩); (repeat' (conv => whnf); (first | with_reducible refine And.intro ?_ ?_ | with_reducible exact True.intro | with_reducible exact Or.inl rfl | (refine Vc.mk ?_; (first | exact rfl | exact ⟨rfl, .inl rfl⟩ | omega | skip))))
    have : la = lb := List.ext_getElem? fun i => by
      by_cases hi : i < k
      · exact hp i hi
      · rw [List.getElem?_eq_none (by omega), List.getElem?_eq_none (by omega)]
    simp [this]
def told1 (c : Int) (p o : Int × Int) : Int × Int :=
  if c = 4 ∧ o.1 = 1 then (0, p.2) else if c = 4 ∧ o.1 = 5 then (p.1, 0) else if c = 3 ∧ o.1 = 1 ∧ 0 < p.1 ∧ 40 ≤ o.2 then (o.2, p.2) else if c = 3 ∧ o.1 = 5 ∧ 0 < p.2 ∧ 0 < o.2 then (p.1, o.2) else p
def told (c : Int) (p : Int × Int) (l : List (Int × Int)) : Int × Int := l.foldl (told1 c) p
theorem told_succ {c : Int} {p : Int × Int} {l : List (Int × Int)} {k : Nat} (h : k < l.length) : told c p (l.take (k + 1)) = told1 c (told c p (l.take k)) l[k] := by
  unfold told
  rw [List.take_add_one, List.getElem?_eq_getElem h, List.foldl_append]
  rfl
end Go.Proofs.Ytimfnpjcedjmiaa

/-
  Package policy and the reference's like.
-/
namespace Go.Proofs.Ytimfnpjcedjmiaa
open Go.RowKit
set_option linter.unusedSimpArgs false
set_option maxHeartbeats 4000000 in
set_option maxRecDepth 100000 in
theorem rtold_ok (s m c : Int) (l : List (Int × Int)) : Fn Try.prog 37 [.agg [.v (.int .i64 s), .v (.int .i64 m)], .v (.int .i64 c), .sl 2 (l.map opRow) none] [] (.agg [.v (.int .i64 (told c (s, m) l).1), .v (.int .i64 (told c (s, m) l).2)]) [] := by
  refine fn_light ⟨_, Try.func37, rfl, by decide +kernel⟩ 2 rfl fun ha => ?_
  simp only [List.length_map, maxLen] at ha
  refine fn_of mixed [] [] Try.func37 rfl (by decide +kernel) Try.ntmps37 rfl (congrArg Array.toList Try.results37) rfl (by decide +kernel) ?_
  (iterate 2 all_goals (try (repeat' (conv => whnf); (first | with_reducible refine And.intro ?_ ?_ | with_reducible exact True.intro | (intro h; (first | cases h | ((try simp only [vis, Int.reduceToNat] at h); (try (exfalso; omega))))) | (with_reducible refine Vc.mk ?_; fail) | (with_reducible refine cutG ?_; fail) | refine idx_map ?_ ?_ | refine idx_mapI ?_ ?_ ?_ ))))
  refine lpG (fun k : Nat => ⟨[(7, .v (.int .i64 k)), (6, .box 1 0), (3, .box 0 0), (1, .v (.int .i64 c)), (2, .sl 2 (l.map opRow) none)], [.cells [.v (.int .i64 (told c (s, m) (l.take k)).1), .v (.int .i64 (told c (s, m) (l.take k)).2)], .cells [.any, .any]]⟩) (fun k => k ≤ l.length) (fun k => l.length - k) 0 (by omega) (by (refine le_sub [0, 1] rfl rfl ?_ ?_); all_goals (repeat' (conv => whnf); (first | with_reducible refine And.intro ?_ ?_ | with_reducible exact True.intro | with_reducible exact Or.inl rfl | (refine Vc.mk ?_; (first | exact rfl | exact ⟨rfl, .inl rfl⟩ | omega | skip))))) ?_
  intro k hk
  (iterate 2 all_goals (try (repeat' (conv => whnf); (first | with_reducible refine And.intro ?_ ?_ | with_reducible exact True.intro | (intro h; (first | cases h | ((try simp only [vis, Int.reduceToNat] at h); (try (exfalso; omega))))) | (with_reducible refine Vc.mk ?_; fail) | (with_reducible refine cutG ?_; fail) | refine idx_map ?_ ?_ | refine idx_mapI ?_ ?_ ?_ ))))
  all_goals (try omega)
  all_goals (try ((first | with_reducible refine Vc.mk ?_ | refine Vc.mk ?_); (try exact GLt)))
  all_goals (try (refine nextG (k + 1) ?_ ?_ (by (refine le_sub [0, 1] rfl rfl ?_ ?_); all_goals ((repeat' (conv => whnf); (first | with_reducible refine And.intro ?_ ?_ | with_reducible exact True.intro | with_reducible exact Or.inl rfl | (refine Vc.mk ?_; (first | exact rfl | exact ⟨rfl, .inl rfl⟩ | omega | skip)))); all_goals (try (rw [told_succ (by omega)]; unfold told1; (repeat' split) <;> first | rfl | omega))))))
  all_goals (try omega)
  have e : k = l.length := by omega
  subst e
  rw [List.take_length]
  ((try (conv => whnf)); refine ⟨[], rfl, rfl, ?_, ?_⟩); (repeat' (conv => whnf); (first | with_reducible refine And.intro ?_ ?_ | with_reducible exact True.intro | with_reducible exact Or.inl rfl | (refine Vc.mk ?_; (first | exact rfl | exact ⟨rfl, .inl rfl⟩ | omega | skip))))
end Go.Proofs.Ytimfnpjcedjmiaa

/-
  Package policy and the reference's like.
-/
namespace Go.Proofs.Ytimfnpjcedjmiaa
open Go.RowKit
set_option linter.unusedSimpArgs false
set_option maxHeartbeats 4000000 in
set_option maxRecDepth 100000 in
theorem told_ok (s m c : Int) (l : List (Int × Int)) : Fn Try.prog 36 [.agg [.v (.int .i64 s), .v (.int .i64 m)], .v (.int .i64 c), .sl 2 (l.map opRow) none] [] (.agg [.v (.int .i64 (told c (s, m) l).1), .v (.int .i64 (told c (s, m) l).2)]) [] := by
  refine fn_light ⟨_, Try.func36, rfl, by decide +kernel⟩ 2 rfl fun ha => ?_
  simp only [List.length_map, maxLen] at ha
  refine fn_of mixed [] [] Try.func36 rfl (by decide +kernel) Try.ntmps36 rfl (congrArg Array.toList Try.results36) rfl (by decide +kernel) ?_
  (iterate 2 all_goals (try (repeat' (conv => whnf); (first | with_reducible refine And.intro ?_ ?_ | with_reducible exact True.intro | (intro h; (first | cases h | ((try simp only [vis, Int.reduceToNat] at h); (try (exfalso; omega))))) | (with_reducible refine Vc.mk ?_; fail) | (with_reducible refine cutG ?_; fail) | refine idx_map ?_ ?_ | refine idx_mapI ?_ ?_ ?_ ))))
  refine lpG (fun k : Nat => ⟨[(11, .v (.int .i64 k)), (10, .v (.int .i64 l.length)), (9, .sl 2 (l.map opRow) none), (6, .box 1 0), (3, .box 0 0), (1, .v (.int .i64 c)), (2, .sl 2 (l.map opRow) none)], [.cells [.v (.int .i64 (told c (s, m) (l.take k)).1), .v (.int .i64 (told c (s, m) (l.take k)).2)], .cells [.any, .any]]⟩) (fun k => k ≤ l.length) (fun k => l.length - k) 0 (by omega) (by (refine le_sub [0, 1] rfl rfl ?_ ?_); all_goals ((repeat' (conv => whnf); (first | with_reducible refine And.intro ?_ ?_ | with_reducible exact True.intro | with_reducible exact Or.inl rfl | (refine Vc.mk ?_; (first | exact rfl | exact ⟨rfl, .inl rfl⟩ | omega | skip)))); all_goals (try simp))) ?_
  intro k hk
  (iterate 2 all_goals (try (repeat' (conv => whnf); (first | with_reducible refine And.intro ?_ ?_ | with_reducible exact True.intro | (intro h; (first | cases h | ((try simp only [vis, Int.reduceToNat] at h); (try (exfalso; omega))))) | (with_reducible refine Vc.mk ?_; fail) | (with_reducible refine cutG ?_; fail) | refine idx_map ?_ ?_ | refine idx_mapI ?_ ?_ ?_ ))))
  all_goals (try omega)
  all_goals (try ((first | with_reducible refine Vc.mk ?_ | refine Vc.mk ?_); (try exact GLt)))
  all_goals (try (refine nextG (k + 1) ?_ ?_ (by (refine le_sub [0, 1] rfl rfl ?_ ?_); all_goals ((repeat' (conv => whnf); (first | with_reducible refine And.intro ?_ ?_ | with_reducible exact True.intro | with_reducible exact Or.inl rfl | (refine Vc.mk ?_; (first | exact rfl | exact ⟨rfl, .inl rfl⟩ | omega | skip)))); all_goals (try (rw [told_succ (by omega)]; unfold told1; (repeat' split) <;> first | rfl | omega))))))
  all_goals (try omega)
  have e : k = l.length := by omega
  subst e
  rw [List.take_length]
  ((try (conv => whnf)); refine ⟨[], rfl, rfl, ?_, ?_⟩); (repeat' (conv => whnf); (first | with_reducible refine And.intro ?_ ?_ | with_reducible exact True.intro | with_reducible exact Or.inl rfl | (refine Vc.mk ?_; (first | exact rfl | exact ⟨rfl, .inl rfl⟩ | omega | skip))))
end Go.Proofs.Ytimfnpjcedjmiaa

/-
  Package policy and the reference's like.
-/
namespace Go.Proofs.Ytimfnpjcedjmiaa
open Go.RowKit
set_option linter.unusedSimpArgs false
set_option maxHeartbeats 4000000 in
set_option maxRecDepth 100000 in
theorem rjudge_ok (s m : Int) (l : List (Int × Int)) (hl : l.length ≤ 1000000) (hm : 0 ≤ m) : Fn Try.prog 35 [.agg [.v (.int .i64 s), .v (.int .i64 m)], .sl 2 (l.map opRow) none] [] (.tup [.v (.int .i64 (if rej l ≠ [] then 4 else if nak m l ≠ [] then 3 else 2)), .sl 2 ((if rej l ≠ [] then rej l else if nak m l ≠ [] then nak m l else l).map opRow) none]) [] := by
  refine fn_of mixed [] [] Try.func35 rfl (by decide +kernel) Try.ntmps35 rfl (congrArg Array.toList Try.results35) rfl (by decide +kernel) ?_
  (iterate 2 all_goals (try (repeat' (conv => whnf); (first | with_reducible refine And.intro ?_ ?_ | with_reducible exact True.intro | (intro h; (first | cases h | ((try simp only [vis, Int.reduceToNat] at h); (try (exfalso; omega))))) | (with_reducible refine Vc.mk ?_; fail) | (with_reducible refine cutG ?_; fail) | refine idx_map ?_ ?_ | refine idx_mapI ?_ ?_ ?_ ))))
  refine lpG (fun k : Nat => ⟨[(8, .v (.int .i64 k)), (7, .sl 2 ((nak m (l.take k)).map opRow) (some (2, 1))), (6, .sl 2 ((rej (l.take k)).map opRow) (some (1, 1))), (2, .box 0 0), (1, .sl 2 (l.map opRow) none)], [.cells [.v (.int .i64 s), .v (.int .i64 m)], .grow 163 2 1, .grow 163 2 1]⟩) (fun k => k ≤ l.length) (fun k => l.length - k) 0 (by omega) ?_ ?_
  · refine AS.le_trans (le_nil 6 163 2 rfl) (AS.le_trans (le_nil 7 163 2 rfl) ?_)
    (refine le_sub [0, 1, 2] rfl rfl ?_ ?_)
    all_goals (repeat' (conv => whnf); (first | with_reducible refine And.intro ?_ ?_ | with_reducible exact True.intro | with_reducible exact Or.inl rfl | (refine Vc.mk ?_; (first | exact rfl | exact ⟨rfl, .inl rfl⟩ | omega | skip))))
  intro k hk
  have ht : m.tmod 255 = m % 255 := Int.tmod_eq_emod_of_nonneg hm
  have h1 : (rej (l.take k)).length ≤ k := by unfold rej; exact Nat.le_trans (List.length_filter_le ..) (List.length_take_le ..)
  have h2 : (nak m (l.take k)).length ≤ k := by unfold nak; exact Nat.le_trans (List.length_filterMap_le ..) (List.length_take_le ..)
  (iterate 2 all_goals (try (repeat' (conv => whnf); (first | with_reducible refine And.intro ?_ ?_ | with_reducible exact True.intro | (intro h; (first | cases h | ((try simp only [vis, Int.reduceToNat] at h); (try (exfalso; omega))))) | (with_reducible refine Vc.mk ?_; fail) | (with_reducible refine cutG ?_; fail) | refine idx_map ?_ ?_ | refine idx_mapI ?_ ?_ ?_ ))))
  all_goals (try (refine Vc.mk ?_; (first | (exact rfl) | (decide) | omega | (unfold In64; omega) | (simp only [wrap_byte, Int.reduceToNat, Int.toNat_natCast, In64]; omega) | (simp only [maxLen, Fits, viewR, viewL, AV.view, List.length_map, List.length_append, List.length_cons, List.length_nil]; omega) | (simp [viewR, viewL, AV.view, opRow]; done) | skip)))
  all_goals (try (refine nextG (k + 1) ?_ ?_ (by (refine le_sub [0, 1, 2] rfl rfl ?_ ?_); all_goals ((repeat' (conv => whnf); (first | with_reducible refine And.intro ?_ ?_ | with_reducible exact True.intro | with_reducible exact Or.inl rfl | (refine Vc.mk ?_; (first | exact rfl | exact ⟨rfl, .inl rfl⟩ | omega | skip)))); all_goals (try (first | (rw [nak_succ (by omega)]; simp [nakOf, opRow, viewR, viewL, AV.view, *]; done) | (rw [rej_succ (by omega)]; simp [opRow, viewR, viewL, AV.view, *]; done)))))))
  all_goals (try omega)
  all_goals (try (refine Vc.mk ?_; (first | (exact rfl) | (decide) | omega | (unfold In64; omega) | (simp only [wrap_byte, Int.reduceToNat, Int.toNat_natCast, In64]; omega) | (simp only [maxLen, Fits, viewR, viewL, AV.view, List.length_map, List.length_append, List.length_cons, List.length_nil]; omega) | (simp [viewR, viewL, AV.view, opRow]; done) | skip)))
  all_goals
    have e : k = l.length := by omega
    subst e
    rw [List.take_length] at *
    ((try (conv => whnf)); refine ⟨[], rfl, rfl, ?_, ?_⟩)
    (repeat' (conv => whnf); (first | with_reducible refine And.intro ?_ ?_ | with_reducible exact True.intro | with_reducible exact Or.inl rfl | (refine Vc.mk ?_; (first | exact rfl | exact ⟨rfl, .inl rfl⟩ | omega | skip))))
    all_goals (by_cases hr : rej l = [] <;> by_cases hn : nak m l = [] <;> simp_all)
end Go.Proofs.Ytimfnpjcedjmiaa

/-
  Package policy and the reference's like.
-/
namespace Go.Proofs.Ytimfnpjcedjmiaa
open Go.RowKit
set_option linter.unusedSimpArgs false
set_option maxRecDepth 100000 in
theorem cloneO_ok (rows : List (List AV)) (hl : rows.length ≤ 1000000) : Fn Try.prog 106 [.sl 2 rows none] [] (.sl 2 rows none) [] := by
  refine fn_of mixed [] [] Try.func106 rfl (by decide +kernel) Try.ntmps106 rfl (congrArg Array.toList Try.results106) rfl (by decide +kernel) ?_
  (iterate 2 all_goals (try (repeat' (conv => whnf); (first | with_reducible refine And.intro ?_ ?_ | with_reducible exact True.intro | (intro h; (first | cases h | ((try simp only [vis, Int.reduceToNat] at h); (try (exfalso; omega))))) | (with_reducible refine Vc.mk ?_; fail) | (with_reducible refine cutG ?_; fail) | refine idx_map ?_ ?_ | refine idx_mapI ?_ ?_ ?_ ))))
  all_goals (try ((first | with_reducible refine Vc.mk ?_ | refine Vc.mk ?_); (try exact GLt)))
  all_goals (((try (conv => whnf)); refine ⟨[], rfl, rfl, ?_, ?_⟩); (repeat' (conv => whnf); (first | with_reducible refine And.intro ?_ ?_ | with_reducible exact True.intro | with_reducible exact Or.inl rfl | (refine Vc.mk ?_; (first | exact rfl | exact ⟨rfl, .inl rfl⟩ | omega | skip)))))
  all_goals simp_all
set_option maxHeartbeats 4000000 in
set_option maxRecDepth 100000 in
theorem judge_ok (s m : Int) (l : List (Int × Int)) (hl : l.length ≤ 1000000) (hm : 0 ≤ m) : Fn Try.prog 34 [.agg [.v (.int .i64 s), .v (.int .i64 m)], .sl 2 (l.map opRow) none] [] (.tup [.v (.int .i64 (if rej l ≠ [] then 4 else if nak m l ≠ [] then 3 else 2)), .sl 2 ((if rej l ≠ [] then rej l else if nak m l ≠ [] then nak m l else l).map opRow) none]) [] := by
  refine fn_of mixed [] [] Try.func34 rfl (by decide +kernel) Try.ntmps34 rfl (congrArg Array.toList Try.results34) rfl (by decide +kernel) ?_
  (iterate 2 all_goals (try (repeat' (conv => whnf); (first | with_reducible refine And.intro ?_ ?_ | with_reducible exact True.intro | (intro h; (first | cases h | ((try simp only [vis, Int.reduceToNat] at h); (try (exfalso; omega))))) | (with_reducible refine Vc.mk ?_; fail) | (with_reducible refine cutG ?_; fail) | refine idx_map ?_ ?_ | refine idx_mapI ?_ ?_ ?_ ))))
  refine lpG (fun k : Nat => ⟨[(12, .v (.int .i64 k)), (11, .v (.int .i64 l.length)), (10, .sl 2 (l.map opRow) none), (7, .sl 2 ((nak m (l.take k)).map opRow) (some (2, 1))), (6, .sl 2 ((rej (l.take k)).map opRow) (some (1, 1))), (2, .box 0 0), (1, .sl 2 (l.map opRow) none)], [.cells [.v (.int .i64 s), .v (.int .i64 m)], .grow 163 2 1, .grow 163 2 1]⟩) (fun k => k ≤ l.length) (fun k => l.length - k) 0 (by omega) ?_ ?_
  · refine AS.le_trans (le_nil 6 163 2 rfl) (AS.le_trans (le_nil 7 163 2 rfl) ?_)
    (refine le_sub [0, 1, 2] rfl rfl ?_ ?_)
    all_goals ((repeat' (conv => whnf); (first | with_reducible refine And.intro ?_ ?_ | with_reducible exact True.intro | with_reducible exact Or.inl rfl | (refine Vc.mk ?_; (first | exact rfl | exact ⟨rfl, .inl rfl⟩ | omega | skip)))); all_goals (try simp))
  intro k hk
  have ht : m.tmod 255 = m % 255 := Int.tmod_eq_emod_of_nonneg hm
  have h1 : (rej (l.take k)).length ≤ k := by unfold rej; exact Nat.le_trans (List.length_filter_le ..) (List.length_take_le ..)
  have h2 : (nak m (l.take k)).length ≤ k := by unfold nak; exact Nat.le_trans (List.length_filterMap_le ..) (List.length_take_le ..)
  (iterate 2 all_goals (try (repeat' (conv => whnf); (first | with_reducible refine And.intro ?_ ?_ | with_reducible exact True.intro | (intro h; (first | cases h | ((try simp only [vis, Int.reduceToNat] at h); (try (exfalso; omega))))) | (with_reducible refine Vc.mk ?_; fail) | (with_reducible refine cutG ?_; fail) | refine idx_map ?_ ?_ | refine idx_mapI ?_ ?_ ?_ ))))
  all_goals (try (refine Vc.mk ?_; (first | (exact rfl) | (decide) | omega | (unfold In64; omega) | (simp only [wrap_byte, Int.reduceToNat, Int.toNat_natCast, In64]; omega) | (simp only [maxLen, Fits, viewR, viewL, AV.view, List.length_map, List.length_append, List.length_cons, List.length_nil]; omega) | (simp [viewR, viewL, AV.view, opRow]; done) | skip)))
  all_goals (try (refine nextG (k + 1) ?_ ?_ (by (refine le_sub [0, 1, 2] rfl rfl ?_ ?_); all_goals ((repeat' (conv => whnf); (first | with_reducible refine And.intro ?_ ?_ | with_reducible exact True.intro | with_reducible exact Or.inl rfl | (refine Vc.mk ?_; (first | exact rfl | exact ⟨rfl, .inl rfl⟩ | omega | skip)))); all_goals (try (first | (rw [nak_succ (by omega)]; simp [nakOf, opRow, viewR, viewL, AV.view, *]; done) | (rw [rej_succ (by omega)]; simp [opRow, viewR, viewL, AV.view, *]; done)))))))
  all_goals (try omega)
  all_goals (try (refine Vc.mk ?_; (first | (exact rfl) | (decide) | omega | (unfold In64; omega) | (simp only [wrap_byte, Int.reduceToNat, Int.toNat_natCast, In64]; omega) | (simp only [maxLen, Fits, viewR, viewL, AV.view, List.length_map, List.length_append, List.length_cons, List.length_nil]; omega) | (simp [viewR, viewL, AV.view, opRow]; done) | skip)))
  all_goals (try ((refine ⟨_, _, _, _, [], cloneO_ok (l.map opRow) (by simpa using hl), rfl, rfl, rfl, ?_, ?_, ?_⟩); (· (repeat' (conv => whnf); (first | with_reducible refine And.intro ?_ ?_ | with_reducible exact True.intro | with_reducible exact Or.inl rfl | (refine Vc.mk ?_; (first | exact rfl | exact ⟨rfl, .inl rfl⟩ | omega | skip))))); (· (repeat' (conv => whnf); (first | with_reducible refine And.intro ?_ ?_ | with_reducible exact True.intro | with_reducible exact Or.inl rfl | (refine Vc.mk ?_; (first | exact rfl | exact ⟨rfl, .inl rfl⟩ | omega | skip))))); (iterate 2 all_goals (try (repeat' (conv => whnf); (first | with_reducible refine And.intro ?_ ?_ | with_reducible exact True.intro | (intro h; (first | cases h | ((try simp only [vis, Int.reduceToNat] at h); (try (exfalso; omega))))) | (with_reducible refine Vc.mk ?_; fail) | (with_reducible refine cutG ?_; fail) | refine idx_map ?_ ?_ | refine idx_mapI ?_ ?_ ?_ ))))))
  all_goals
    have e : k = l.length := by omega
    subst e
    rw [List.take_length] at *
    ((try (conv => whnf)); refine ⟨[], rfl, rfl, ?_, ?_⟩)
    (repeat' (conv => whnf); (first | with_reducible refine And.intro ?_ ?_ | with_reducible exact True.intro | with_reducible exact Or.inl rfl | (refine Vc.mk ?_; (first | exact rfl | exact ⟨rfl, .inl rfl⟩ | omega | skip))))
    all_goals (by_cases hr : rej l = [] <;> by_cases hn : nak m l = [] <;> simp_all)
end Go.Proofs.Ytimfnpjcedjmiaa
