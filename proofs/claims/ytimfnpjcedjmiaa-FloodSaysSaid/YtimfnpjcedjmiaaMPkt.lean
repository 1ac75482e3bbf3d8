/-
  Several parts in one text: GPkt GPkt2 GPkt3 GPkt4 GPkt5.
-/
import Derived.Test.YtimfnpjcedjmiaaMPol
import Derived.Test.YtimfnpjcedjmiaaGD
/-
  Package packet and the reference's like: what a packet may be.
-/
namespace Go.Proofs.Ytimfnpjcedjmiaa
open Go.RowKit
set_option linter.unusedSimpArgs false
/-- The first of such a kind. -/
def firstO (a : Int) : List (Int × Int) → Nat → Int
  | [], _ => -1
  | o :: r, k => if o.1 = a then k else firstO a r (k + 1)
theorem firstO_any {a : Int} : ∀ {l : List (Int × Int)} {k : Nat}, decide (0 ≤ firstO a l k) = l.any (fun o => o.1 == a)
  | [], k => by simp [firstO]
  | o :: r, k => by
    unfold firstO
    by_cases h : o.1 = a
    · simp [h]
    · simp [h, firstO_any (l := r)]
def optBad (o : Int × Int) : Bool := decide (o.1 < 0) || decide (255 < o.1) || decide (o.2 < 0) || decide (255 < o.2)
/-- What is wrong with options, of which some were looked at. -/
def ofault : List (Int × Int) → List (Int × Int) → Int
  | _, [] => 0
  | p, o :: r => if optBad o then 1 else if p.any (fun q => q.1 == o.1) then 3 else ofault (p ++ [o]) r
def pfault (c i : Int) (l : List (Int × Int)) : Int :=
  if c < 1 ∨ 6 < c ∨ i < 0 ∨ 255 < i then 1 else if 8 < l.length then 2 else if 4 < c ∧ 0 < l.length then 3 else ofault [] l
theorem ofault_nonneg : ∀ (p l : List (Int × Int)), 0 ≤ ofault p l
  | p, [] => by simp [ofault]
  | p, o :: r => by
    unfold ofault
    split
    · omega
    · split
      · omega
      · exact ofault_nonneg _ r
theorem pfault_nonneg (c i : Int) (l : List (Int × Int)) : 0 ≤ pfault c i l := by
  have := ofault_nonneg [] l
  unfold pfault
  (repeat' split) <;> omega
theorem ofault_step {l : List (Int × Int)} {k : Nat} (h : k < l.length) : ofault (l.take k) (l.drop k) = if optBad l[k] then 1 else if (l.take k).any (fun q => q.1 == l[k].1) then 3 else ofault (l.take (k + 1)) (l.drop (k + 1)) := by
  rw [drop_cons h, List.take_add_one, List.getElem?_eq_getElem h]
  rfl
set_option maxRecDepth 100000 in
theorem checkF_ok (k n a b : Int) : Fn Try.prog 105 [.agg [.v (.int .i64 k), .v (.int .i64 n)], .box 0 0] [.cells [.v (.int .i64 a), .v (.int .i64 b)]] (.v (.bool (k == a))) [.cells [.v (.int .i64 a), .v (.int .i64 b)]] := by
  refine fn_of mixed [] [] Try.func105 rfl (by decide +kernel) Try.ntmps105 rfl (congrArg Array.toList Try.results105) rfl (by decide +kernel) ?_
  (iterate 2 all_goals (try (repeat' (conv => whnf); (first | with_reducible refine And.intro ?_ ?_ | with_reducible exact True.intro | (intro h; (first | cases h | ((try simp only [vis, Int.reduceToNat] at h); (try (exfalso; omega))))) | (with_reducible refine Vc.mk ?_; fail) | (with_reducible refine cutG ?_; fail) | refine idx_map ?_ ?_ | refine idx_mapI ?_ ?_ ?_ ))))
  all_goals (((try (conv => whnf)); refine ⟨[0], rfl, rfl, ?_, ?_⟩); (repeat' (conv => whnf); (first | with_reducible refine And.intro ?_ ?_ | with_reducible exact True.intro | with_reducible exact Or.inl rfl | (refine Vc.mk ?_; (first | exact rfl | exact ⟨rfl, .inl rfl⟩ | omega | skip)))))
set_option maxRecDepth 100000 in
theorem indexO_ok (l : List (Int × Int)) (a b : Int) (hl : l.length ≤ 1000000) : Fn Try.prog 127 [.sl 2 (l.map opRow) none, .clo 105 [.box 0 0]] [.cells [.v (.int .i64 a), .v (.int .i64 b)]] (.v (.int .i64 (firstO a l 0))) [.cells [.v (.int .i64 a), .v (.int .i64 b)]] := by
  refine fn_of mixed [] [] Try.func127 rfl (by decide +kernel) Try.ntmps127 rfl (congrArg Array.toList Try.results127) rfl (by decide +kernel) ?_
  (iterate 2 all_goals (try (repeat' (conv => whnf); (first | with_reducible refine And.intro ?_ ?_ | with_reducible exact True.intro | (intro h; (first | cases h | ((try simp only [vis, Int.reduceToNat] at h); (try (exfalso; omega))))) | (with_reducible refine Vc.mk ?_; fail) | (with_reducible refine cutG ?_; fail) | refine idx_map ?_ ?_ | refine idx_mapI ?_ ?_ ?_ ))))
  refine lpG (fun k : Nat => ⟨[(0, .sl 2 (l.map opRow) none), (1, .clo 105 [.box 0 0]), (7, .v (.int .i64 l.length)), (8, .v (.int .i64 k))], [.cells [.v (.int .i64 a), .v (.int .i64 b)]]⟩) (fun k => k ≤ l.length ∧ firstO a l 0 = firstO a (l.drop k) k) (fun k => l.length - k) 0 ⟨by omega, rfl⟩ (by (refine le_sub [0] rfl rfl ?_ ?_); all_goals ((repeat' (conv => whnf); (first | with_reducible refine And.intro ?_ ?_ | with_reducible exact True.intro | with_reducible exact Or.inl rfl | (refine Vc.mk ?_; (first | exact rfl | exact ⟨rfl, .inl rfl⟩ | omega | skip)))); all_goals (try simp))) ?_
  rintro k ⟨hk, hp⟩
  (iterate 2 all_goals (try (repeat' (conv => whnf); (first | with_reducible refine And.intro ?_ ?_ | with_reducible exact True.intro | (intro h; (first | cases h | ((try simp only [vis, Int.reduceToNat] at h); (try (exfalso; omega))))) | (with_reducible refine Vc.mk ?_; fail) | (with_reducible refine cutG ?_; fail) | refine idx_map ?_ ?_ | refine idx_mapI ?_ ?_ ?_ ))))
  all_goals (try omega)
  · have hk' : k < l.length := by omega
    (refine ⟨_, _, _, _, [0], checkF_ok l[k].1 l[k].2 a b, rfl, rfl, rfl, ?_, ?_, ?_⟩)
    · (repeat' (conv => whnf); (first | with_reducible refine And.intro ?_ ?_ | with_reducible exact True.intro | with_reducible exact Or.inl rfl | (refine Vc.mk ?_; (first | exact rfl | exact ⟨rfl, .inl rfl⟩ | omega | skip))))
    · (repeat' (conv => whnf); (first | with_reducible refine And.intro ?_ ?_ | with_reducible exact True.intro | with_reducible exact Or.inl rfl | (refine Vc.mk ?_; (first | exact rfl | exact ⟨rfl, .inl rfl⟩ | omega | skip))))
    (iterate 2 all_goals (try (repeat' (conv => whnf); (first | with_reducible refine And.intro ?_ ?_ | with_reducible exact True.intro | (intro h; (first | cases h | ((try simp only [vis, Int.reduceToNat] at h); (try (exfalso; omega))))) | (with_reducible refine Vc.mk ?_; fail) | (with_reducible refine cutG ?_; fail) | refine idx_map ?_ ?_ | refine idx_mapI ?_ ?_ ?_ ))))
    all_goals (try ((first | with_reducible refine Vc.mk ?_ | refine Vc.mk ?_); (try exact GLt)))
    · ((try (conv => whnf)); refine ⟨[0], rfl, rfl, ?_, ?_⟩); (repeat' (conv => whnf); (first | with_reducible refine And.intro ?_ ?_ | with_reducible exact True.intro | with_reducible exact Or.inl rfl | (refine Vc.mk ?_; (first | exact rfl | exact ⟨rfl, .inl rfl⟩ | omega | skip))))
      rw [hp, drop_cons (by omega)]
      simp [firstO, h]
    · refine nextG (k + 1) ⟨by omega, ?_⟩ (by omega) (by (refine le_sub [0] rfl rfl ?_ ?_); all_goals (repeat' (conv => whnf); (first | with_reducible refine And.intro ?_ ?_ | with_reducible exact True.intro | with_reducible exact Or.inl rfl | (refine Vc.mk ?_; (first | exact rfl | exact ⟨rfl, .inl rfl⟩ | omega | skip)))))
      rw [hp, drop_cons (by omega)]
      simp [firstO, h]
  · have e : k = l.length := by omega
    subst e
    ((try (conv => whnf)); refine ⟨[0], rfl, rfl, ?_, ?_⟩); (repeat' (conv => whnf); (first | with_reducible refine And.intro ?_ ?_ | with_reducible exact True.intro | with_reducible exact Or.inl rfl | (refine Vc.mk ?_; (first | exact rfl | exact ⟨rfl, .inl rfl⟩ | omega | skip))))
    rw [hp]
    simp [firstO]
set_option maxRecDepth 100000 in
theorem contains_ok (l : List (Int × Int)) (a b : Int) (hl : l.length ≤ 1000000) : Fn Try.prog 104 [.sl 2 (l.map opRow) none, .clo 105 [.box 0 0]] [.cells [.v (.int .i64 a), .v (.int .i64 b)]] (.v (.bool (l.any (fun o => o.1 == a)))) [.cells [.v (.int .i64 a), .v (.int .i64 b)]] := by
  refine fn_of mixed [] [] Try.func104 rfl (by decide +kernel) Try.ntmps104 rfl (congrArg Array.toList Try.results104) rfl (by decide +kernel) ?_
  (iterate 2 all_goals (try (repeat' (conv => whnf); (first | with_reducible refine And.intro ?_ ?_ | with_reducible exact True.intro | (intro h; (first | cases h | ((try simp only [vis, Int.reduceToNat] at h); (try (exfalso; omega))))) | (with_reducible refine Vc.mk ?_; fail) | (with_reducible refine cutG ?_; fail) | refine idx_map ?_ ?_ | refine idx_mapI ?_ ?_ ?_ ))))
  (refine ⟨_, _, _, _, [0], indexO_ok l a b hl, rfl, rfl, rfl, ?_, ?_, ?_⟩)
  · (repeat' (conv => whnf); (first | with_reducible refine And.intro ?_ ?_ | with_reducible exact True.intro | with_reducible exact Or.inl rfl | (refine Vc.mk ?_; (first | exact rfl | exact ⟨rfl, .inl rfl⟩ | omega | skip))))
  · (repeat' (conv => whnf); (first | with_reducible refine And.intro ?_ ?_ | with_reducible exact True.intro | with_reducible exact Or.inl rfl | (refine Vc.mk ?_; (first | exact rfl | exact ⟨rfl, .inl rfl⟩ | omega | skip))))
  (iterate 2 all_goals (try (repeat' (conv => whnf); (first | with_reducible refine And.intro ?_ ?_ | with_reducible exact True.intro | (intro h; (first | cases h | ((try simp only [vis, Int.reduceToNat] at h); (try (exfalso; omega))))) | (with_reducible refine Vc.mk ?_; fail) | (with_reducible refine cutG ?_; fail) | refine idx_map ?_ ?_ | refine idx_mapI ?_ ?_ ?_ ))))
  ((try (conv => whnf)); refine ⟨[0], rfl, rfl, ?_, ?_⟩); (repeat' (conv => whnf); (first | with_reducible refine And.intro ?_ ?_ | with_reducible exact True.intro | with_reducible exact Or.inl rfl | (refine Vc.mk ?_; (first | exact rfl | exact ⟨rfl, .inl rfl⟩ | omega | skip))))
  exact firstO_any
set_option maxHeartbeats 4000000 in
set_option maxRecDepth 100000 in
theorem check_ok (c i : Int) (l : List (Int × Int)) : Fn Try.prog 27 [.agg [.v (.int .i64 c), .v (.int .i64 i), .sl 2 (l.map opRow) none]] [] (.err (pfault c i l)) [] := by
  refine fn_of mixed [] [] Try.func27 rfl (by decide +kernel) Try.ntmps27 rfl (congrArg Array.toList Try.results27) rfl (by decide +kernel) ?_
  (iterate 2 all_goals (try (repeat' (conv => whnf); (first | with_reducible refine And.intro ?_ ?_ | with_reducible exact True.intro | (intro h; (first | cases h | ((try simp only [vis, Int.reduceToNat] at h); (try (exfalso; omega))))) | (with_reducible refine Vc.mk ?_; fail) | (with_reducible refine cutG ?_; fail) | refine idx_map ?_ ?_ | refine idx_mapI ?_ ?_ ?_ ))))
  all_goals (try ((first | with_reducible refine Vc.mk ?_ | refine Vc.mk ?_); (try exact GLt)))
  all_goals (try (((try (conv => whnf)); refine ⟨[], rfl, rfl, ?_, ?_⟩); (repeat' (conv => whnf); (first | with_reducible refine And.intro ?_ ?_ | with_reducible exact True.intro | with_reducible exact Or.inl rfl | (refine Vc.mk ?_; (first | exact rfl | exact ⟨rfl, .inl rfl⟩ | omega | skip)))); unfold pfault; (repeat' split) <;> first | rfl | omega))
  all_goals
    have hp : pfault c i l = ofault [] l := by unfold pfault; (repeat' split) <;> first | rfl | omega
    refine lpG (fun k : Nat => ⟨[(1, .box 0 0), (40, .sl 2 (l.map opRow) none), (41, .v (.int .i64 l.length)), (42, .v (.int .i64 k))], [.cells [.v (.int .i64 c), .v (.int .i64 i), .sl 2 (l.map opRow) none]]⟩) (fun k => k ≤ l.length ∧ pfault c i l = ofault (l.take k) (l.drop k)) (fun k => l.length - k) 0 ⟨by omega, hp⟩ (by (refine le_sub [0] rfl rfl ?_ ?_); all_goals ((repeat' (conv => whnf); (first | with_reducible refine And.intro ?_ ?_ | with_reducible exact True.intro | with_reducible exact Or.inl rfl | (refine Vc.mk ?_; (first | exact rfl | exact ⟨rfl, .inl rfl⟩ | omega | skip)))); all_goals (try simp))) ?_
    rintro k ⟨hk, hq⟩
    (iterate 2 all_goals (try (repeat' (conv => whnf); (first | with_reducible refine And.intro ?_ ?_ | with_reducible exact True.intro | (intro h; (first | cases h | ((try simp only [vis, Int.reduceToNat] at h); (try (exfalso; omega))))) | (with_reducible refine Vc.mk ?_; fail) | (with_reducible refine cutG ?_; fail) | refine idx_map ?_ ?_ | refine idx_mapI ?_ ?_ ?_ ))))
    all_goals (try omega)
    all_goals (try ((first | with_reducible refine Vc.mk ?_ | refine Vc.mk ?_); (try exact GLt)))
    all_goals (try
      (have hk' : k < l.length := by omega
       rw [ofault_step hk'] at hq
       have hb : optBad l[k] = true := by simp only [optBad, Bool.or_eq_true, decide_eq_true_eq]; omega
       rw [if_pos hb] at hq
       ((try (conv => whnf)); refine ⟨[], rfl, rfl, ?_, ?_⟩)
       · (repeat' (conv => whnf); (first | with_reducible refine And.intro ?_ ?_ | with_reducible exact True.intro | with_reducible exact Or.inl rfl | (refine Vc.mk ?_; (first | exact rfl | exact ⟨rfl, .inl rfl⟩ | omega | skip))))
       · (repeat' (conv => whnf); (first | with_reducible refine And.intro ?_ ?_ | with_reducible exact True.intro | with_reducible exact Or.inl rfl | (refine Vc.mk ?_; (first | exact rfl | exact ⟨rfl, .inl rfl⟩ | omega | skip)))); all_goals exact hq.symm))
    all_goals (try
      (have e : k = l.length := by omega
       subst e
       rw [List.drop_length] at hq
       ((try (conv => whnf)); refine ⟨[], rfl, rfl, ?_, ?_⟩)
       · (repeat' (conv => whnf); (first | with_reducible refine And.intro ?_ ?_ | with_reducible exact True.intro | with_reducible exact Or.inl rfl | (refine Vc.mk ?_; (first | exact rfl | exact ⟨rfl, .inl rfl⟩ | omega | skip))))
       · (repeat' (conv => whnf); (first | with_reducible refine And.intro ?_ ?_ | with_reducible exact True.intro | with_reducible exact Or.inl rfl | (refine Vc.mk ?_; (first | exact rfl | exact ⟨rfl, .inl rfl⟩ | omega | skip)))); all_goals exact hq.symm))
  all_goals
    have hk' : k < l.length := by omega
    have hb : ¬ optBad l[k] = true := by simp only [optBad, Bool.or_eq_true, decide_eq_true_eq]; omega
    rw [ofault_step hk', if_neg hb] at hq
    (refine ⟨_, _, _, _, [1], contains_ok (l.take k) l[k].1 l[k].2 (by simp; omega), rfl, rfl, rfl, ?_, ?_, ?_⟩)
    · (repeat' (conv => whnf); (first | with_reducible refine And.intro ?_ ?_ | with_reducible exact True.intro | with_reducible exact Or.inl rfl | (refine Vc.mk ?_; (first | exact rfl | exact ⟨rfl, .inl rfl⟩ | omega | skip))))
    · (repeat' (conv => whnf); (first | with_reducible refine And.intro ?_ ?_ | with_reducible exact True.intro | with_reducible exact Or.inl rfl | (refine Vc.mk ?_; (first | exact rfl | exact ⟨rfl, .inl rfl⟩ | omega | skip))))
      all_goals simp [List.map_take]
    (iterate 2 all_goals (try (repeat' (conv => whnf); (first | with_reducible refine And.intro ?_ ?_ | with_reducible exact True.intro | (intro h; (first | cases h | ((try simp only [vis, Int.reduceToNat] at h); (try (exfalso; omega))))) | (with_reducible refine Vc.mk ?_; fail) | (with_reducible refine cutG ?_; fail) | refine idx_map ?_ ?_ | refine idx_mapI ?_ ?_ ?_ ))))
    all_goals (try ((first | with_reducible refine Vc.mk ?_ | refine Vc.mk ?_); (try exact GLt)))
    · rw [if_pos h] at hq
      ((try (conv => whnf)); refine ⟨[], rfl, rfl, ?_, ?_⟩)
      · (repeat' (conv => whnf); (first | with_reducible refine And.intro ?_ ?_ | with_reducible exact True.intro | with_reducible exact Or.inl rfl | (refine Vc.mk ?_; (first | exact rfl | exact ⟨rfl, .inl rfl⟩ | omega | skip))))
      · (repeat' (conv => whnf); (first | with_reducible refine And.intro ?_ ?_ | with_reducible exact True.intro | with_reducible exact Or.inl rfl | (refine Vc.mk ?_; (first | exact rfl | exact ⟨rfl, .inl rfl⟩ | omega | skip))))
        all_goals exact hq.symm
    · rw [if_neg (by rw [h]; simp)] at hq
      refine nextG (k + 1) ⟨by omega, hq⟩ (by omega) (by (refine le_sub [0] rfl rfl ?_ ?_); all_goals (repeat' (conv => whnf); (first | with_reducible refine And.intro ?_ ?_ | with_reducible exact True.intro | with_reducible exact Or.inl rfl | (refine Vc.mk ?_; (first | exact rfl | exact ⟨rfl, .inl rfl⟩ | omega | skip)))))
end Go.Proofs.Ytimfnpjcedjmiaa

/-
  The reference's faults of packets.
-/
namespace Go.Proofs.Ytimfnpjcedjmiaa
open Go.RowKit
set_option linter.unusedSimpArgs false
theorem any_take {l : List (Int × Int)} {k j : Nat} {a : Int} (hj : j < k) (hk : k ≤ l.length) (h : l[j].1 = a) : (l.take k).any (fun q => q.1 == a) = true := by
  rw [List.any_eq_true]
  exact ⟨l[j], by rw [List.mem_iff_getElem]; exact ⟨j, by simp; omega, by simp⟩, by simpa using h⟩
theorem any_take_no {l : List (Int × Int)} {k : Nat} {a : Int} (h : ∀ j (hj : j < l.length), j < k → l[j].1 ≠ a) : (l.take k).any (fun q => q.1 == a) = false := by
  rw [List.any_eq_false]
  intro x hx
  obtain ⟨i, hi, rfl⟩ := List.mem_iff_getElem.1 hx
  simp only [List.length_take] at hi
  simpa using h i (by omega) (by omega)
set_option maxHeartbeats 4000000 in
set_option maxRecDepth 100000 in
theorem rfault_ok (c i : Int) (l : List (Int × Int)) : Fn Try.prog 25 [.agg [.v (.int .i64 c), .v (.int .i64 i), .sl 2 (l.map opRow) none]] [] (.v (.int .i64 (pfault c i l))) [] := by
  refine fn_of mixed [] [] Try.func25 rfl (by decide +kernel) Try.ntmps25 rfl (congrArg Array.toList Try.results25) rfl (by decide +kernel) ?_
  (iterate 2 all_goals (try (repeat' (conv => whnf); (first | with_reducible refine And.intro ?_ ?_ | with_reducible exact True.intro | (intro h; (first | cases h | ((try simp only [vis, Int.reduceToNat] at h); (try (exfalso; omega))))) | (with_reducible refine Vc.mk ?_; fail) | (with_reducible refine cutG ?_; fail) | refine idx_map ?_ ?_ | refine idx_mapI ?_ ?_ ?_ ))))
  all_goals (try ((first | with_reducible refine Vc.mk ?_ | refine Vc.mk ?_); (try exact GLt)))
  all_goals (try (((try (conv => whnf)); refine ⟨[], rfl, rfl, ?_, ?_⟩); (repeat' (conv => whnf); (first | with_reducible refine And.intro ?_ ?_ | with_reducible exact True.intro | with_reducible exact Or.inl rfl | (refine Vc.mk ?_; (first | exact rfl | exact ⟨rfl, .inl rfl⟩ | omega | skip)))); unfold pfault; (repeat' split) <;> first | rfl | omega))
  all_goals
    have hp : pfault c i l = ofault [] l := by unfold pfault; (repeat' split) <;> first | rfl | omega
    refine lpG (fun k : Nat => ⟨[(1, .box 0 0), (3, .v (.int .i64 k))], [.cells [.v (.int .i64 c), .v (.int .i64 i), .sl 2 (l.map opRow) none]]⟩) (fun k => k ≤ l.length ∧ pfault c i l = ofault (l.take k) (l.drop k)) (fun k => l.length - k) 0 ⟨by omega, hp⟩ (by (refine le_sub [0] rfl rfl ?_ ?_); all_goals ((repeat' (conv => whnf); (first | with_reducible refine And.intro ?_ ?_ | with_reducible exact True.intro | with_reducible exact Or.inl rfl | (refine Vc.mk ?_; (first | exact rfl | exact ⟨rfl, .inl rfl⟩ | omega | skip)))); all_goals (try simp))) ?_
    rintro k ⟨hk, hq⟩
    (iterate 2 all_goals (try (repeat' (conv => whnf); (first | with_reducible refine And.intro ?_ ?_ | with_reducible exact True.intro | (intro h; (first | cases h | ((try simp only [vis, Int.reduceToNat] at h); (try (exfalso; omega))))) | (with_reducible refine Vc.mk ?_; fail) | (with_reducible refine cutG ?_; fail) | refine idx_map ?_ ?_ | refine idx_mapI ?_ ?_ ?_ ))))
    all_goals (try omega)
    all_goals (try ((first | with_reducible refine Vc.mk ?_ | refine Vc.mk ?_); (try exact GLt)))
    all_goals (try
      (have hk' : k < l.length := by omega
       rw [ofault_step hk'] at hq
       have hb : optBad l[k] = true := by simp only [optBad, Bool.or_eq_true, decide_eq_true_eq]; omega
       rw [if_pos hb] at hq
       ((try (conv => whnf)); refine ⟨[], rfl, rfl, ?_, ?_⟩)
       · (repeat' (conv => whnf); (first | with_reducible refine And.intro ?_ ?_ | with_reducible exact True.intro | with_reducible exact Or.inl rfl | (refine Vc.mk ?_; (first | exact rfl | exact ⟨rfl, .inl rfl⟩ | omega | skip))))
       · (repeat' (conv => whnf); (first | with_reducible refine And.intro ?_ ?_ | with_reducible exact True.intro | with_reducible exact Or.inl rfl | (refine Vc.mk ?_; (first | exact rfl | exact ⟨rfl, .inl rfl⟩ | omega | skip)))); all_goals exact hq.symm))
    all_goals (try
      (have e : k = l.length := by omega
       subst e
       rw [List.drop_length] at hq
       ((try (conv => whnf)); refine ⟨[], rfl, rfl, ?_, ?_⟩)
       · (repeat' (conv => whnf); (first | with_reducible refine And.intro ?_ ?_ | with_reducible exact True.intro | with_reducible exact Or.inl rfl | (refine Vc.mk ?_; (first | exact rfl | exact ⟨rfl, .inl rfl⟩ | omega | skip))))
       · (repeat' (conv => whnf); (first | with_reducible refine And.intro ?_ ?_ | with_reducible exact True.intro | with_reducible exact Or.inl rfl | (refine Vc.mk ?_; (first | exact rfl | exact ⟨rfl, .inl rfl⟩ | omega | skip)))); all_goals exact hq.symm))
  all_goals
    have hk' : k < l.length := by omega
    have hb : ¬ optBad l[k] = true := by simp only [optBad, Bool.or_eq_true, decide_eq_true_eq]; omega
    rw [ofault_step hk', if_neg hb] at hq
    refine lpG (fun j : Nat => ⟨[(1, .box 0 0), (3, .v (.int .i64 k)), (5, .v (.int .i64 j)), (4, .box 1 0)], [.cells [.v (.int .i64 c), .v (.int .i64 i), .sl 2 (l.map opRow) none], .cells [.v (.int .i64 l[k].1), .v (.int .i64 l[k].2)]]⟩) (fun j => j ≤ k ∧ ∀ q (hq : q < l.length), q < j → l[q].1 ≠ l[k].1) (fun j => k - j) 0 ⟨by omega, fun q _ h => by omega⟩ (by (refine le_sub [0, 1] rfl rfl ?_ ?_); all_goals ((repeat' (conv => whnf); (first | with_reducible refine And.intro ?_ ?_ | with_reducible exact True.intro | with_reducible exact Or.inl rfl | (refine Vc.mk ?_; (first | exact rfl | exact ⟨rfl, .inl rfl⟩ | omega | skip)))); all_goals (try simp))) ?_
    rintro j ⟨hj, hno⟩
    (iterate 2 all_goals (try (repeat' (conv => whnf); (first | with_reducible refine And.intro ?_ ?_ | with_reducible exact True.intro | (intro h; (first | cases h | ((try simp only [vis, Int.reduceToNat] at h); (try (exfalso; omega))))) | (with_reducible refine Vc.mk ?_; fail) | (with_reducible refine cutG ?_; fail) | refine idx_map ?_ ?_ | refine idx_mapI ?_ ?_ ?_ ))))
    all_goals (try omega)
    all_goals (try ((first | with_reducible refine Vc.mk ?_ | refine Vc.mk ?_); (try exact GLt)))
    · rw [if_pos (any_take (j := j) (by omega) hk h)] at hq
      ((try (conv => whnf)); refine ⟨[], rfl, rfl, ?_, ?_⟩)
      · (repeat' (conv => whnf); (first | with_reducible refine And.intro ?_ ?_ | with_reducible exact True.intro | with_reducible exact Or.inl rfl | (refine Vc.mk ?_; (first | exact rfl | exact ⟨rfl, .inl rfl⟩ | omega | skip))))
      · (repeat' (conv => whnf); (first | with_reducible refine And.intro ?_ ?_ | with_reducible exact True.intro | with_reducible exact Or.inl rfl | (refine Vc.mk ?_; (first | exact rfl | exact ⟨rfl, .inl rfl⟩ | omega | skip)))); all_goals exact hq.symm
    · refine nextG (j + 1) ⟨by omega, fun q hq' hlt => ?_⟩ (by omega) (by (refine le_sub [0, 1] rfl rfl ?_ ?_); all_goals (repeat' (conv => whnf); (first | with_reducible refine And.intro ?_ ?_ | with_reducible exact True.intro | with_reducible exact Or.inl rfl | (refine Vc.mk ?_; (first | exact rfl | exact ⟨rfl, .inl rfl⟩ | omega | skip)))))
      rcases Nat.lt_or_ge q j with g | g
      · exact hno q hq' g
      · have : q = j := by omega
        subst this
        exact h
    · have e : j = k := by omega
      subst e
      rw [any_take_no hno] at hq
      refine nextG (j + 1) ⟨by omega, hq⟩ (by omega) (by (refine le_sub [0] rfl rfl ?_ ?_); all_goals (repeat' (conv => whnf); (first | with_reducible refine And.intro ?_ ?_ | with_reducible exact True.intro | with_reducible exact Or.inl rfl | (refine Vc.mk ?_; (first | exact rfl | exact ⟨rfl, .inl rfl⟩ | omega | skip)))))
end Go.Proofs.Ytimfnpjcedjmiaa

/-
  Bytes of packets.
-/
namespace Go.Proofs.Ytimfnpjcedjmiaa
open Go.RowKit
set_option linter.unusedSimpArgs false
/-- A byte. -/
def pbyt (c i : Int) (n : Nat) (l : List (Int × Int)) : List UInt8 := [u8 c, u8 i, u8 n] ++ l.flatMap fun o => [u8 o.1, u8 o.2]
def pbytes (c i : Int) (l : List (Int × Int)) : List UInt8 := pbyt c i l.length l
theorem pbyt_succ {c i : Int} {n : Nat} {l : List (Int × Int)} {k : Nat} (h : k < l.length) : pbyt c i n (l.take (k + 1)) = pbyt c i n (l.take k) ++ [u8 l[k].1, u8 l[k].2] := by
  unfold pbyt
  rw [List.take_add_one, List.getElem?_eq_getElem h, List.flatMap_append, List.append_assoc]
  simp
theorem pbyt_len {c i : Int} {n : Nat} {l : List (Int × Int)} : (pbyt c i n l).length = 3 + 2 * l.length := by
  unfold pbyt
  have : (l.flatMap fun o : Int × Int => [u8 o.1, u8 o.2]).length = 2 * l.length := by
    induction l with
    | nil => rfl
    | cons o l ih => simp only [List.flatMap_cons, List.length_append, ih, List.length_cons, List.length_nil]; omega
  simp only [List.length_append, this, List.length_cons, List.length_nil]
set_option maxHeartbeats 4000000 in
set_option maxRecDepth 100000 in
theorem rbytes_ok (c i : Int) (l : List (Int × Int)) (hl : l.length ≤ 1000000) : Fn Try.prog 28 [.agg [.v (.int .i64 c), .v (.int .i64 i), .sl 2 (l.map opRow) none]] [] (.v (.string ⟨(pbytes c i l).toArray⟩)) [] := by
  refine fn_of mixed [] [] Try.func28 rfl (by decide +kernel) Try.ntmps28 rfl (congrArg Array.toList Try.results28) rfl (by decide +kernel) ?_
  (iterate 2 all_goals (try (repeat' (conv => whnf); (first | with_reducible refine And.intro ?_ ?_ | with_reducible exact True.intro | (intro h; (first | cases h | ((try simp only [vis, Int.reduceToNat] at h); (try (exfalso; omega))))) | (with_reducible refine Vc.mk ?_; fail) | (with_reducible refine cutG ?_; fail) | refine idx_map ?_ ?_ | refine idx_mapI ?_ ?_ ?_ ))))
  all_goals (try ((first | with_reducible refine Vc.mk ?_ | refine Vc.mk ?_); (try exact GLt)))
  refine lpG (fun k : Nat => ⟨[(1, .box 0 0), (3, .sl 1 ((pbyt c i l.length (l.take k)).map bRow) (some (1, 1))), (4, .v (.int .i64 k))], [.cells [.v (.int .i64 c), .v (.int .i64 i), .sl 2 (l.map opRow) none], .grow 5 1 1]⟩) (fun k => k ≤ l.length) (fun k => l.length - k) 0 (by omega) (by (refine le_sub [0, 1] rfl rfl ?_ ?_); all_goals ((repeat' (conv => whnf); (first | with_reducible refine And.intro ?_ ?_ | with_reducible exact True.intro | with_reducible exact Or.inl rfl | (refine Vc.mk ?_; (first | exact rfl | exact ⟨rfl, .inl rfl⟩ | omega | skip)))); all_goals (try simp [pbyt, bRow, wrap_u8, viewR, viewL, AV.view]))) ?_
  rintro k hk
  have hb := pbyt_len (c := c) (i := i) (n := l.length) (l := l.take k)
  rw [List.length_take] at hb
  (iterate 2 all_goals (try (repeat' (conv => whnf); (first | with_reducible refine And.intro ?_ ?_ | with_reducible exact True.intro | (intro h; (first | cases h | ((try simp only [vis, Int.reduceToNat] at h); (try (exfalso; omega))))) | (with_reducible refine Vc.mk ?_; fail) | (with_reducible refine cutG ?_; fail) | refine idx_map ?_ ?_ | refine idx_mapI ?_ ?_ ?_ ))))
  all_goals (try omega)
  all_goals (try ((first | with_reducible refine Vc.mk ?_ | refine Vc.mk ?_); (try exact GLt)))
  · refine nextG (k + 1) (by omega) (by omega) (by (refine le_sub [0, 1] rfl rfl ?_ ?_); all_goals ((repeat' (conv => whnf); (first | with_reducible refine And.intro ?_ ?_ | with_reducible exact True.intro | with_reducible exact Or.inl rfl | (refine Vc.mk ?_; (first | exact rfl | exact ⟨rfl, .inl rfl⟩ | omega | skip)))); try (rw [pbyt_succ (by omega)]; simp [bRow, wrap_u8, viewR, viewL, AV.view]; done)))
  · have e : k = l.length := by omega
    subst e
    rw [List.take_length]
    conv => whnf
    refine ⟨pbyt c i l.length l, rfl, ?_⟩
    (iterate 2 all_goals (try (repeat' (conv => whnf); (first | with_reducible refine And.intro ?_ ?_ | with_reducible exact True.intro | (intro h; (first | cases h | ((try simp only [vis, Int.reduceToNat] at h); (try (exfalso; omega))))) | (with_reducible refine Vc.mk ?_; fail) | (with_reducible refine cutG ?_; fail) | refine idx_map ?_ ?_ | refine idx_mapI ?_ ?_ ?_ ))))
    ((try (conv => whnf)); refine ⟨[], rfl, rfl, ?_, ?_⟩); (repeat' (conv => whnf); (first | with_reducible refine And.intro ?_ ?_ | with_reducible exact True.intro | with_reducible exact Or.inl rfl | (refine Vc.mk ?_; (first | exact rfl | exact ⟨rfl, .inl rfl⟩ | omega | skip))))
set_option maxHeartbeats 4000000 in
set_option maxRecDepth 100000 in
theorem pbytes_ok (c i : Int) (l : List (Int × Int)) (hl : l.length ≤ 1000000) : Fn Try.prog 26 [.agg [.v (.int .i64 c), .v (.int .i64 i), .sl 2 (l.map opRow) none]] [] (.tup [.v (.string (if pfault c i l = 0 then ⟨(pbytes c i l).toArray⟩ else ByteArray.empty)), .err (pfault c i l)]) [] := by
  refine fn_of mixed [] [] Try.func26 rfl (by decide +kernel) Try.ntmps26 rfl (congrArg Array.toList Try.results26) rfl (by decide +kernel) ?_
  (iterate 2 all_goals (try (repeat' (conv => whnf); (first | with_reducible refine And.intro ?_ ?_ | with_reducible exact True.intro | (intro h; (first | cases h | ((try simp only [vis, Int.reduceToNat] at h); (try (exfalso; omega))))) | (with_reducible refine Vc.mk ?_; fail) | (with_reducible refine cutG ?_; fail) | refine idx_map ?_ ?_ | refine idx_mapI ?_ ?_ ?_ ))))
  refine call0 (check_ok c i l) ?_ ?_
  · (repeat' (conv => whnf); (first | with_reducible refine And.intro ?_ ?_ | with_reducible exact True.intro | with_reducible exact Or.inl rfl | (refine Vc.mk ?_; (first | exact rfl | exact ⟨rfl, .inl rfl⟩ | omega | skip))))
  (iterate 2 all_goals (try (repeat' (conv => whnf); (first | with_reducible refine And.intro ?_ ?_ | with_reducible exact True.intro | (intro h; (first | cases h | ((try simp only [vis, Int.reduceToNat] at h); (try (exfalso; omega))))) | (with_reducible refine Vc.mk ?_; fail) | (with_reducible refine cutG ?_; fail) | refine idx_map ?_ ?_ | refine idx_mapI ?_ ?_ ?_ ))))
  all_goals (try ((first | with_reducible refine Vc.mk ?_ | refine Vc.mk ?_); (try exact GLt)))
  · ((try (conv => whnf)); refine ⟨[], rfl, rfl, ?_, ?_⟩); (repeat' (conv => whnf); (first | with_reducible refine And.intro ?_ ?_ | with_reducible exact True.intro | with_reducible exact Or.inl rfl | (refine Vc.mk ?_; (first | exact rfl | exact ⟨rfl, .inl rfl⟩ | omega | skip))))
    rw [if_neg h]
    rfl
  rw [h]
  simp only [if_true]
  refine lpG (fun k : Nat => ⟨[(1, .box 0 0), (5, .sl 1 ((pbyt c i l.length (l.take k)).map bRow) (some (1, 1))), (25, .sl 2 (l.map opRow) none), (26, .v (.int .i64 l.length)), (27, .v (.int .i64 k))], [.cells [.v (.int .i64 c), .v (.int .i64 i), .sl 2 (l.map opRow) none], .grow 5 1 1]⟩) (fun k => k ≤ l.length) (fun k => l.length - k) 0 (by omega) (by (refine le_sub [0, 1] rfl rfl ?_ ?_); all_goals ((repeat' (conv => whnf); (first | with_reducible refine And.intro ?_ ?_ | with_reducible exact True.intro | with_reducible exact Or.inl rfl | (refine Vc.mk ?_; (first | exact rfl | exact ⟨rfl, .inl rfl⟩ | omega | skip)))); all_goals (try simp [pbyt, bRow, wrap_u8, viewR, viewL, AV.view]))) ?_
  rintro k hk
  have hb := pbyt_len (c := c) (i := i) (n := l.length) (l := l.take k)
  rw [List.length_take] at hb
  (iterate 2 all_goals (try (repeat' (conv => whnf); (first | with_reducible refine And.intro ?_ ?_ | with_reducible exact True.intro | (intro h; (first | cases h | ((try simp only [vis, Int.reduceToNat] at h); (try (exfalso; omega))))) | (with_reducible refine Vc.mk ?_; fail) | (with_reducible refine cutG ?_; fail) | refine idx_map ?_ ?_ | refine idx_mapI ?_ ?_ ?_ ))))
  all_goals (try omega)
  all_goals (try ((first | with_reducible refine Vc.mk ?_ | refine Vc.mk ?_); (try exact GLt)))
  · refine nextG (k + 1) (by omega) (by omega) (by (refine le_sub [0, 1] rfl rfl ?_ ?_); all_goals ((repeat' (conv => whnf); (first | with_reducible refine And.intro ?_ ?_ | with_reducible exact True.intro | with_reducible exact Or.inl rfl | (refine Vc.mk ?_; (first | exact rfl | exact ⟨rfl, .inl rfl⟩ | omega | skip)))); try (rw [pbyt_succ (by omega)]; simp [bRow, wrap_u8, viewR, viewL, AV.view]; done)))
  · have e : k = l.length := by omega
    subst e
    rw [List.take_length]
    conv => whnf
    refine ⟨pbyt c i l.length l, rfl, ?_⟩
    (iterate 2 all_goals (try (repeat' (conv => whnf); (first | with_reducible refine And.intro ?_ ?_ | with_reducible exact True.intro | (intro h; (first | cases h | ((try simp only [vis, Int.reduceToNat] at h); (try (exfalso; omega))))) | (with_reducible refine Vc.mk ?_; fail) | (with_reducible refine cutG ?_; fail) | refine idx_map ?_ ?_ | refine idx_mapI ?_ ?_ ?_ ))))
    ((try (conv => whnf)); refine ⟨[], rfl, rfl, ?_, ?_⟩); (repeat' (conv => whnf); (first | with_reducible refine And.intro ?_ ?_ | with_reducible exact True.intro | with_reducible exact Or.inl rfl | (refine Vc.mk ?_; (first | exact rfl | exact ⟨rfl, .inl rfl⟩ | omega | skip))))
end Go.Proofs.Ytimfnpjcedjmiaa

/-
  Packets of bytes.
-/
namespace Go.Proofs.Ytimfnpjcedjmiaa
open Go.RowKit
set_option linter.unusedSimpArgs false
def popts (s : ByteArray) (n : Nat) : List (Int × Int) := (List.range n).map fun q => ((byteAt s (3 + 2 * q) : Int), (byteAt s (4 + 2 * q) : Int))
theorem popts_succ {s : ByteArray} {n : Nat} : popts s (n + 1) = popts s n ++ [((byteAt s (3 + 2 * n) : Int), (byteAt s (4 + 2 * n) : Int))] := by
  unfold popts; rw [List.range_succ, List.map_append]; rfl
theorem popts_len {s : ByteArray} {n : Nat} : (popts s n).length = n := by simp [popts]
def pgood (s : ByteArray) : Bool := decide (3 ≤ s.size) && decide (s.size = 3 + 2 * byteAt s 2) && decide (pfault (byteAt s 0) (byteAt s 1) (popts s (byteAt s 2)) = 0)
theorem pgood_iff {s : ByteArray} : pgood s = true ↔ 3 ≤ s.size ∧ s.size = 3 + 2 * byteAt s 2 ∧ pfault (byteAt s 0) (byteAt s 1) (popts s (byteAt s 2)) = 0 := by simp [pgood, and_assoc]
def pcode (s : ByteArray) : Int := if pgood s then byteAt s 0 else 0
def pid (s : ByteArray) : Int := if pgood s then byteAt s 1 else 0
def popt (s : ByteArray) : List (Int × Int) := if pgood s then popts s (byteAt s 2) else []
def perr (s : ByteArray) : Int := if pgood s then 0 else 4
set_option maxHeartbeats 4000000 in
set_option maxRecDepth 100000 in
theorem pparse_ok (s : ByteArray) (hs : s.size ≤ 1000) : Fn Try.prog 29 [.v (.string s)] [] (.tup [.agg [.v (.int .i64 (pcode s)), .v (.int .i64 (pid s)), .sl 2 ((popt s).map opRow) none], .err (perr s)]) [] := by
  have b0 := byteAt_lt s 0
  have b1 := byteAt_lt s 1
  have b2 := byteAt_lt s 2
  refine fn_of mixed [] [] Try.func29 rfl (by decide +kernel) Try.ntmps29 rfl (congrArg Array.toList Try.results29) rfl (by decide +kernel) ?_
  (iterate 2 all_goals (try (repeat' (conv => whnf); (first | with_reducible refine And.intro ?_ ?_ | with_reducible exact True.intro | (intro h; (first | cases h | ((try simp only [vis, Int.reduceToNat] at h); (try (exfalso; omega))))) | (with_reducible refine Vc.mk ?_; fail) | (with_reducible refine cutG ?_; fail) | refine idx_map ?_ ?_ | refine idx_mapI ?_ ?_ ?_ ))))
  all_goals (try ((first | with_reducible refine Vc.mk ?_ | refine Vc.mk ?_); (try exact GLt)))
  all_goals (try
    (have hb : ¬ pgood s = true := fun h' => by have := pgood_iff.1 h'; omega
     ((try (conv => whnf)); refine ⟨[], rfl, rfl, ?_, ?_⟩); (repeat' (conv => whnf); (first | with_reducible refine And.intro ?_ ?_ | with_reducible exact True.intro | with_reducible exact Or.inl rfl | (refine Vc.mk ?_; (first | exact rfl | exact ⟨rfl, .inl rfl⟩ | omega | skip)))); all_goals simp [pcode, pid, popt, perr, hb]))
  refine lpG (fun k : Nat => ⟨[(0, .v (.string s)), (2, .box 0 0), (4, .box 1 0), (5, .v (.int .i64 (3 + 2 * (k : Int))))], [.cells [.any, .any, .any], .cells [.v (.int .i64 (byteAt s 0)), .v (.int .i64 (byteAt s 1)), .sl 2 ((popts s k).map opRow) (some (2, 1))], .grow 163 2 1]⟩) (fun k => k ≤ byteAt s 2) (fun k => byteAt s 2 - k) 0 (by omega) ?_ ?_
  · refine AS.le_trans (le_nilC 1 2 163 2 _ rfl rfl) ?_
    (refine le_sub [0, 1, 2] rfl rfl ?_ ?_)
    all_goals ((repeat' (conv => whnf); (first | with_reducible refine And.intro ?_ ?_ | with_reducible exact True.intro | with_reducible exact Or.inl rfl | (refine Vc.mk ?_; (first | exact rfl | exact ⟨rfl, .inl rfl⟩ | omega | skip)))); all_goals (try simp [wrap_byte, popts]))
  intro k hk
  have hlen := popts_len (s := s) (n := k)
  have e1 : (3 + 2 * (k : Int)).toNat = 3 + 2 * k := by omega
  have e2 : (3 + 2 * (k : Int) + 1).toNat = 4 + 2 * k := by omega
  (iterate 2 all_goals (try (repeat' (conv => whnf); (first | with_reducible refine And.intro ?_ ?_ | with_reducible exact True.intro | (intro h; (first | cases h | ((try simp only [vis, Int.reduceToNat] at h); (try (exfalso; omega))))) | (with_reducible refine Vc.mk ?_; fail) | (with_reducible refine cutG ?_; fail) | refine idx_map ?_ ?_ | refine idx_mapI ?_ ?_ ?_ ))))
  all_goals (try omega)
  all_goals (try ((first | with_reducible refine Vc.mk ?_ | refine Vc.mk ?_); (try exact GLt)))
  · refine nextG (k + 1) (by omega) (by omega) (by (refine le_sub [0, 1, 2] rfl rfl ?_ ?_); all_goals ((repeat' (conv => whnf); (first | with_reducible refine And.intro ?_ ?_ | with_reducible exact True.intro | with_reducible exact Or.inl rfl | (refine Vc.mk ?_; (first | exact rfl | exact ⟨rfl, .inl rfl⟩ | omega | skip)))); all_goals (try (rw [popts_succ]; simp [opRow, wrap_byte, viewR, viewL, AV.view, e1, e2]))))
  have e : k = byteAt s 2 := by omega
  subst e
  (refine ⟨_, _, _, _, [], check_ok (byteAt s 0) (byteAt s 1) (popts s (byteAt s 2)), rfl, rfl, rfl, ?_, ?_, ?_⟩)
  · (repeat' (conv => whnf); (first | with_reducible refine And.intro ?_ ?_ | with_reducible exact True.intro | with_reducible exact Or.inl rfl | (refine Vc.mk ?_; (first | exact rfl | exact ⟨rfl, .inl rfl⟩ | omega | skip))))
  · (repeat' (conv => whnf); (first | with_reducible refine And.intro ?_ ?_ | with_reducible exact True.intro | with_reducible exact Or.inl rfl | (refine Vc.mk ?_; (first | exact rfl | exact ⟨rfl, .inl rfl⟩ | omega | skip))))
  (iterate 2 all_goals (try (repeat' (conv => whnf); (first | with_reducible refine And.intro ?_ ?_ | with_reducible exact True.intro | (intro h; (first | cases h | ((try simp only [vis, Int.reduceToNat] at h); (try (exfalso; omega))))) | (with_reducible refine Vc.mk ?_; fail) | (with_reducible refine cutG ?_; fail) | refine idx_map ?_ ?_ | refine idx_mapI ?_ ?_ ?_ ))))
  all_goals (try ((first | with_reducible refine Vc.mk ?_ | refine Vc.mk ?_); (try exact GLt)))
  · have hb : ¬ pgood s = true := fun h' => by have := pgood_iff.1 h'; omega
    ((try (conv => whnf)); refine ⟨[], rfl, rfl, ?_, ?_⟩); (repeat' (conv => whnf); (first | with_reducible refine And.intro ?_ ?_ | with_reducible exact True.intro | with_reducible exact Or.inl rfl | (refine Vc.mk ?_; (first | exact rfl | exact ⟨rfl, .inl rfl⟩ | omega | skip)))); all_goals simp [pcode, pid, popt, perr, hb]
  · have hb : pgood s = true := pgood_iff.2 ⟨by omega, by omega, by omega⟩
    ((try (conv => whnf)); refine ⟨[], rfl, rfl, ?_, ?_⟩); (repeat' (conv => whnf); (first | with_reducible refine And.intro ?_ ?_ | with_reducible exact True.intro | with_reducible exact Or.inl rfl | (refine Vc.mk ?_; (first | exact rfl | exact ⟨rfl, .inl rfl⟩ | omega | skip)))); all_goals simp [pcode, pid, popt, perr, hb]
end Go.Proofs.Ytimfnpjcedjmiaa

/-
  Packets of bytes: the reference's.
-/
namespace Go.Proofs.Ytimfnpjcedjmiaa
open Go.RowKit
set_option linter.unusedSimpArgs false
set_option maxHeartbeats 4000000 in
set_option maxRecDepth 100000 in
theorem rof_ok (s : ByteArray) (hs : s.size ≤ 1000) : Fn Try.prog 30 [.v (.string s)] [] (.tup [.agg [.v (.int .i64 (pcode s)), .v (.int .i64 (pid s)), .sl 2 ((popt s).map opRow) none], .v (.int .i64 (perr s))]) [] := by
  have b0 := byteAt_lt s 0
  have b1 := byteAt_lt s 1
  have b2 := byteAt_lt s 2
  have hpf := pfault_nonneg (byteAt s 0) (byteAt s 1) (popts s (byteAt s 2))
  refine fn_of mixed [] [] Try.func30 rfl (by decide +kernel) Try.ntmps30 rfl (congrArg Array.toList Try.results30) rfl (by decide +kernel) ?_
  (iterate 2 all_goals (try (repeat' (conv => whnf); (first | with_reducible refine And.intro ?_ ?_ | with_reducible exact True.intro | (intro h; (first | cases h | ((try simp only [vis, Int.reduceToNat] at h); (try (exfalso; omega))))) | (with_reducible refine Vc.mk ?_; fail) | (with_reducible refine cutG ?_; fail) | refine idx_map ?_ ?_ | refine idx_mapI ?_ ?_ ?_ ))))
  all_goals (try ((first | with_reducible refine Vc.mk ?_ | refine Vc.mk ?_); (try exact GLt)))
  all_goals (try
    (have hb : ¬ pgood s = true := fun h' => by have := pgood_iff.1 h'; omega
     ((try (conv => whnf)); refine ⟨[], rfl, rfl, ?_, ?_⟩); (repeat' (conv => whnf); (first | with_reducible refine And.intro ?_ ?_ | with_reducible exact True.intro | with_reducible exact Or.inl rfl | (refine Vc.mk ?_; (first | exact rfl | exact ⟨rfl, .inl rfl⟩ | omega | skip)))); all_goals simp [pcode, pid, popt, perr, hb]))
  refine lpG (fun k : Nat => ⟨[(0, .v (.string s)), (2, .box 0 0), (4, .box 1 0), (5, .v (.int .i64 (3 + 2 * (k : Int))))], [.cells [.any, .any, .any], .cells [.v (.int .i64 (byteAt s 0)), .v (.int .i64 (byteAt s 1)), .sl 2 ((popts s k).map opRow) (some (2, 1))], .grow 163 2 1]⟩) (fun k => k ≤ byteAt s 2) (fun k => byteAt s 2 - k) 0 (by omega) ?_ ?_
  · refine AS.le_trans (le_nilC 1 2 163 2 _ rfl rfl) ?_
    (refine le_sub [0, 1, 2] rfl rfl ?_ ?_)
    all_goals ((repeat' (conv => whnf); (first | with_reducible refine And.intro ?_ ?_ | with_reducible exact True.intro | with_reducible exact Or.inl rfl | (refine Vc.mk ?_; (first | exact rfl | exact ⟨rfl, .inl rfl⟩ | omega | skip)))); all_goals (try simp [wrap_byte, popts]))
  intro k hk
  have hlen := popts_len (s := s) (n := k)
  have e1 : (3 + 2 * (k : Int)).toNat = 3 + 2 * k := by omega
  have e2 : (3 + 2 * (k : Int) + 1).toNat = 4 + 2 * k := by omega
  (iterate 2 all_goals (try (repeat' (conv => whnf); (first | with_reducible refine And.intro ?_ ?_ | with_reducible exact True.intro | (intro h; (first | cases h | ((try simp only [vis, Int.reduceToNat] at h); (try (exfalso; omega))))) | (with_reducible refine Vc.mk ?_; fail) | (with_reducible refine cutG ?_; fail) | refine idx_map ?_ ?_ | refine idx_mapI ?_ ?_ ?_ ))))
  all_goals (try omega)
  all_goals (try ((first | with_reducible refine Vc.mk ?_ | refine Vc.mk ?_); (try exact GLt)))
  · refine nextG (k + 1) (by omega) (by omega) (by (refine le_sub [0, 1, 2] rfl rfl ?_ ?_); all_goals ((repeat' (conv => whnf); (first | with_reducible refine And.intro ?_ ?_ | with_reducible exact True.intro | with_reducible exact Or.inl rfl | (refine Vc.mk ?_; (first | exact rfl | exact ⟨rfl, .inl rfl⟩ | omega | skip)))); all_goals (try (rw [popts_succ]; simp [opRow, wrap_byte, viewR, viewL, AV.view, e1, e2]))))
  have e : k = byteAt s 2 := by omega
  subst e
  (refine ⟨_, _, _, _, [], rfault_ok (byteAt s 0) (byteAt s 1) (popts s (byteAt s 2)), rfl, rfl, rfl, ?_, ?_, ?_⟩)
  · (repeat' (conv => whnf); (first | with_reducible refine And.intro ?_ ?_ | with_reducible exact True.intro | with_reducible exact Or.inl rfl | (refine Vc.mk ?_; (first | exact rfl | exact ⟨rfl, .inl rfl⟩ | omega | skip))))
  · (repeat' (conv => whnf); (first | with_reducible refine And.intro ?_ ?_ | with_reducible exact True.intro | with_reducible exact Or.inl rfl | (refine Vc.mk ?_; (first | exact rfl | exact ⟨rfl, .inl rfl⟩ | omega | skip))))
  (iterate 2 all_goals (try (repeat' (conv => whnf); (first | with_reducible refine And.intro ?_ ?_ | with_reducible exact True.intro | (intro h; (first | cases h | ((try simp only [vis, Int.reduceToNat] at h); (try (exfalso; omega))))) | (with_reducible refine Vc.mk ?_; fail) | (with_reducible refine cutG ?_; fail) | refine idx_map ?_ ?_ | refine idx_mapI ?_ ?_ ?_ ))))
  all_goals (try ((first | with_reducible refine Vc.mk ?_ | refine Vc.mk ?_); (try exact GLt)))
  · have hb : ¬ pgood s = true := fun h' => by have := pgood_iff.1 h'; omega
    ((try (conv => whnf)); refine ⟨[], rfl, rfl, ?_, ?_⟩); (repeat' (conv => whnf); (first | with_reducible refine And.intro ?_ ?_ | with_reducible exact True.intro | with_reducible exact Or.inl rfl | (refine Vc.mk ?_; (first | exact rfl | exact ⟨rfl, .inl rfl⟩ | omega | skip)))); all_goals simp [pcode, pid, popt, perr, hb]
  · have hb : pgood s = true := pgood_iff.2 ⟨by omega, by omega, by omega⟩
    ((try (conv => whnf)); refine ⟨[], rfl, rfl, ?_, ?_⟩); (repeat' (conv => whnf); (first | with_reducible refine And.intro ?_ ?_ | with_reducible exact True.intro | with_reducible exact Or.inl rfl | (refine Vc.mk ?_; (first | exact rfl | exact ⟨rfl, .inl rfl⟩ | omega | skip)))); all_goals simp [pcode, pid, popt, perr, hb]
set_option maxHeartbeats 4000000 in
set_option maxRecDepth 100000 in
theorem rsameP_ok (c i d j : Int) (l m : List (Int × Int)) : Fn Try.prog 31 [.agg [.v (.int .i64 c), .v (.int .i64 i), .sl 2 (l.map opRow) none], .agg [.v (.int .i64 d), .v (.int .i64 j), .sl 2 (m.map opRow) none]] [] (.v (.bool (c == d && i == j && l == m))) [] := by
  refine fn_of mixed [] [] Try.func31 rfl (by decide +kernel) Try.ntmps31 rfl (congrArg Array.toList Try.results31) rfl (by decide +kernel) ?_
  (iterate 2 all_goals (try (repeat' (conv => whnf); (first | with_reducible refine And.intro ?_ ?_ | with_reducible exact True.intro | (intro h; (first | cases h | ((try simp only [vis, Int.reduceToNat] at h); (try (exfalso; omega))))) | (with_reducible refine Vc.mk ?_; fail) | (with_reducible refine cutG ?_; fail) | refine idx_map ?_ ?_ | refine idx_mapI ?_ ?_ ?_ ))))
  (all_goals (try ((first | (refine call0 (sameOptions_ok l m) ?_ ?_) | (refine pure0 (sameOptions_ok l m) rfl ?_ ?_)); (· (repeat' (conv => whnf); (first | with_reducible refine And.intro ?_ ?_ | with_reducible exact True.intro | with_reducible exact Or.inl rfl | (refine Vc.mk ?_; (first | exact rfl | exact ⟨rfl, .inl rfl⟩ | omega | skip))))); (iterate 2 all_goals (try (repeat' (conv => whnf); (first | with_reducible refine And.intro ?_ ?_ | with_reducible exact True.intro | (intro h; (first | cases h | ((try simp only [vis, Int.reduceToNat] at h); (try (exfalso; omega))))) | (with_reducible refine Vc.mk ?_; fail) | (with_reducible refine cutG ?_; fail) | refine idx_map ?_ ?_ | refine idx_mapI ?_ ?_ ?_ )))))))
  all_goals (((try (conv => whnf)); refine ⟨[], rfl, rfl, ?_, ?_⟩); (repeat' (conv => whnf); (first | with_reducible refine And.intro ?_ ?_ | with_reducible exact True.intro | with_reducible exact Or.inl rfl | (refine Vc.mk ?_; (first | exact rfl | exact ⟨rfl, .inl rfl⟩ | omega | skip)))); all_goals simp_all)
end Go.Proofs.Ytimfnpjcedjmiaa
