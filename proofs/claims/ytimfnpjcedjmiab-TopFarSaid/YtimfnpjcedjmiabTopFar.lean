/-
  The statement TopFar: no way is shorter than what is told, and what is told is a way.
-/
import Derived.Test.YtimfnpjcedjmiabMTw
import Derived.Test.YtimfnpjcedjmiabLWd
import Derived.Test.YtimfnpjcedjmiabGSts
namespace Go.Proofs.Ytimfnpjcedjmiab
open Go.RowKit
set_option linter.unusedSimpArgs false
set_option linter.unusedVariables false
/-- What is far. -/
def FarOk (M : Int → Int → Int) (r n x : Int) : Prop := (n = r ∧ x = 0) ∨ (n ≠ r ∧ ((∃ g, Best M r n x g) ∨ ((∀ d g, ¬ Best M r n d g) ∧ x = -1)))
theorem FarOk.law {M : Int → Int → Int} {r : Int} {F : Int → Int} (hr : nod r) (hF : ∀ n, nod n → FarOk M r n (F n)) {a b : Int} (ha : nod a) (hb : nod b) (hm : 0 < M a b) (h0 : 0 ≤ F a) : 0 ≤ F b ∧ F b ≤ F a + M a b := by
  rcases hF b hb with ⟨rfl, e⟩ | ⟨hne, h⟩
  · omega
  · have hfa : (a = r ∧ F a = 0) ∨ ∃ g, Best M r a (F a) g := by
      rcases hF a ha with h | ⟨_, h | ⟨_, h⟩⟩
      · exact .inl h
      · exact .inr h
      · omega
    have hk : ∃ d' f', Best M r b d' f' ∧ d' ≤ F a + M a b := by
      rcases hfa with h | ⟨g, h⟩
      · exact Best.edge (f := 0) hr hb hm hne (.inl h)
      · exact Best.edge hr hb hm hne (.inr h)
    obtain ⟨d', f', h1, h2⟩ := hk
    rcases h with ⟨g, h⟩ | ⟨h, _⟩
    · obtain ⟨e, _⟩ := h.uniq h1
      have := h.pos
      omega
    · exact absurd h1 (h _ _)
theorem FarOk.few {M : Int → Int → Int} (hM : MOk M) {r n x : Int} (hr : nod r) (h : FarOk M r n x) : -1 ≤ x ∧ x ≤ 120 := by
  rcases h with ⟨_, h⟩ | ⟨_, ⟨g, h⟩ | ⟨_, h⟩⟩
  · omega
  · have := h.pos
    have := best_far hM hr h
    omega
  · omega
/-- Where those ahead of the i-th were laid. -/
def FarI (M : Int → Int → Int) (r : Int) (H : List Hp) (i : Nat) (F : Int → Int) : Prop := ∀ n, nod n → FarOk M r n (F n) ∨ (F n = (if n = r then 0 else -1) ∧ ∀ j (h : j < H.length), j < i → H[j].1 ≠ n)
theorem FarI.next {M : Int → Int → Int} {r : Int} {H : List Hp} {i : Nat} {F : Int → Int} (h : FarI M r H i F) (hi : i < H.length) (hb : Best M r H[i].1 H[i].2.1 H[i].2.2) : FarI M r H (i + 1) (upd F H[i].1 H[i].2.1) := by
  intro n hn
  by_cases e : n = H[i].1
  · subst e
    rw [upd_same]
    exact .inl (.inr ⟨hb.1, .inl ⟨_, hb⟩⟩)
  · rw [upd_ne _ _ e]
    rcases h n hn with h | ⟨h1, h2⟩
    · exact .inl h
    · refine .inr ⟨h1, fun j hj hji => ?_⟩
      by_cases ej : j = i
      · subst ej
        exact fun e' => e e'.symm
      · exact h2 j hj (by omega)
theorem FarI.end {l : List St3} {r : Int} {F : Int → Int} (hr : nod r) (h : FarI (met l) r (hopsR l r) (hopsR l r).length F) : ∀ n, nod n → FarOk (met l) r n (F n) := by
  intro n hn
  rcases h n hn with h | ⟨h1, h2⟩
  · exact h
  · by_cases e : n = r
    · rw [if_pos e] at h1
      exact .inl ⟨e, h1⟩
    · rw [if_neg e] at h1
      refine .inr ⟨e, .inr ⟨fun d g hb => ?_, h1⟩⟩
      obtain ⟨j, hj, ej⟩ := List.getElem_of_mem ((hopsR_mem hr).2 ⟨hn, hb⟩)
      exact h2 j hj hj (by rw [ej])
def farA (l : List St3) (H : List Hp) (r : Int) (F : Int → Int) (x : Nat × AV) : AS := ⟨[(0, .sl 3 (l.map stRow) none), (1, .v (.int .i64 r)), (6, .sl 3 (H.map hRow) none), (7, .box 0 0), x], [.cells (farC F)]⟩
set_option maxHeartbeats 64000000 in
set_option maxRecDepth 100000 in
theorem topFar_ok (l : List St3) (r : Int) : Fn Try.prog 7 [.sl 3 (l.map stRow) none, .v (.int .i64 r)] [] (.v (.bool true)) [] := by
  have hls := lightStates_ok l
  by_cases hl : OkL l
  · rw [lightB_t hl] at hls
    by_cases hr : nod r
    · have hr1 := hr.1
      have hr2 := hr.2
      have he := fun x y => edge_ok l x y hl.small
      have hh := fun u => hops_ok l u hl.small hl.metric
      have ht := fun u n => to_ok (hopsR l u) n (by have := hopsR_len l u; omega)
      have hmost : ∀ a b, met l a b ≤ 20 := hl.metric.most
      have hpos : ∀ a b, 0 ≤ met l a b := hl.metric.pos
      have h1 := hh r
      have hlen := hopsR_len l r
      have hbest : ∀ i (h : i < (hopsR l r).length), nod (hopsR l r)[i].1 ∧ Best (met l) r (hopsR l r)[i].1 (hopsR l r)[i].2.1 (hopsR l r)[i].2.2 := fun i h => (hopsR_mem hr).1 (List.getElem_mem h)
      have hend := fun F => FarI.end (l := l) (F := F) hr
      have hfew := fun n x => FarOk.few (n := n) (x := x) hl.metric hr
      generalize hopsR l r = H at h1 hlen hbest hend
      refine fn_of mixed [] [] Try.func7 rfl (by decide +kernel) Try.ntmps7 rfl (congrArg Array.toList Try.results7) rfl (by decide +kernel) ?_
      (iterate 2 all_goals (try (repeat' (conv => whnf); (first | (with_reducible refine And.intro ?_ ?_) | (with_reducible exact True.intro) | (intro h; (first | (cases h) | ((first | (simp only [vis, Int.reduceToNat] at h) | skip); (try (exfalso; omega))))) | (with_reducible refine Vc.mk ?_; fail) | (with_reducible refine cutG ?_; fail) | (refine idx_map ?_ ?_) | (refine idx_mapI ?_ ?_ ?_) ))))
      (all_goals (try ((first | (refine call0 (nearby_ok) ?_ ?_) | (refine pure0 (nearby_ok) rfl ?_ ?_)); (· (repeat' (conv => whnf); (first | (with_reducible refine And.intro ?_ ?_) | (with_reducible exact True.intro) | (with_reducible exact Or.inl rfl) | (refine Vc.mk ?_; (first | (exact rfl) | (exact ⟨rfl, .inl rfl⟩) | omega | skip))))); (iterate 2 all_goals (try (repeat' (conv => whnf); (first | (with_reducible refine And.intro ?_ ?_) | (with_reducible exact True.intro) | (intro h; (first | (cases h) | ((first | (simp only [vis, Int.reduceToNat] at h) | skip); (try (exfalso; omega))))) | (with_reducible refine Vc.mk ?_; fail) | (with_reducible refine cutG ?_; fail) | (refine idx_map ?_ ?_) | (refine idx_mapI ?_ ?_ ?_) )))))))
      (all_goals (try ((first | (refine call0 (hls) ?_ ?_) | (refine pure0 (hls) rfl ?_ ?_)); (· (repeat' (conv => whnf); (first | (with_reducible refine And.intro ?_ ?_) | (with_reducible exact True.intro) | (with_reducible exact Or.inl rfl) | (refine Vc.mk ?_; (first | (exact rfl) | (exact ⟨rfl, .inl rfl⟩) | omega | skip))))); (iterate 2 all_goals (try (repeat' (conv => whnf); (first | (with_reducible refine And.intro ?_ ?_) | (with_reducible exact True.intro) | (intro h; (first | (cases h) | ((first | (simp only [vis, Int.reduceToNat] at h) | skip); (try (exfalso; omega))))) | (with_reducible refine Vc.mk ?_; fail) | (with_reducible refine cutG ?_; fail) | (refine idx_map ?_ ?_) | (refine idx_mapI ?_ ?_ ?_) )))))))
      all_goals (try omega)
      all_goals (try (exfalso; (first | omega | (cases h; done))))
      (all_goals (try ((first | (refine call0 (h1) ?_ ?_) | (refine pure0 (h1) rfl ?_ ?_)); (· (repeat' (conv => whnf); (first | (with_reducible refine And.intro ?_ ?_) | (with_reducible exact True.intro) | (with_reducible exact Or.inl rfl) | (refine Vc.mk ?_; (first | (exact rfl) | (exact ⟨rfl, .inl rfl⟩) | omega | skip))))); (iterate 2 all_goals (try (repeat' (conv => whnf); (first | (with_reducible refine And.intro ?_ ?_) | (with_reducible exact True.intro) | (intro h; (first | (cases h) | ((first | (simp only [vis, Int.reduceToNat] at h) | skip); (try (exfalso; omega))))) | (with_reducible refine Vc.mk ?_; fail) | (with_reducible refine cutG ?_; fail) | (refine idx_map ?_ ?_) | (refine idx_mapI ?_ ?_ ?_) )))))))
      all_goals (try omega)
      refine lpG2 (fun (n : Nat) (F : Int → Int) => farA l H r F (8, .v (.int .i64 ((n : Int) + 1)))) (fun n F => n ≤ 6 ∧ ∀ i, 1 ≤ i → i ≤ (n : Int) → F i = if i = r then 0 else -1) (fun n F => 6 - n) 0 (fun _ => 0) ⟨by omega, fun i h1 h2 => by omega⟩ (by (refine le_sub [0] rfl rfl ?_ ?_); all_goals ((repeat' (conv => whnf); (first | (with_reducible refine And.intro ?_ ?_) | (with_reducible exact True.intro) | (with_reducible exact Or.inl rfl) | (refine Vc.mk ?_; (first | (exact rfl) | (exact ⟨rfl, .inl rfl⟩) | omega | skip)))); all_goals rfl)) ?_
      rintro n F ⟨hn, hF⟩
      by_cases hn6 : n < 6
      · obtain ⟨n', hn'⟩ : ∃ n', n' = n + 1 := ⟨_, rfl⟩
        have hS : ∀ x, x = (if (n : Int) + 1 = r then 0 else -1) → ∀ i, 1 ≤ i → i ≤ (n' : Int) → upd F ((n : Int) + 1) x i = if i = r then 0 else -1 := fun x hx i h1 h2 => by
          by_cases e : i = (n : Int) + 1
          · subst e; rw [upd_same, hx]
          · rw [upd_ne _ _ e]; exact hF i h1 (by omega)
        refine or6 (by omega : n = 0 ∨ n = 1 ∨ n = 2 ∨ n = 3 ∨ n = 4 ∨ n = 5) (fun en => ?_) (fun en => ?_) (fun en => ?_) (fun en => ?_) (fun en => ?_) (fun en => ?_)
        all_goals
          subst en
          (iterate 2 all_goals (try (repeat' (conv => whnf); (first | (with_reducible refine And.intro ?_ ?_) | (with_reducible exact True.intro) | (intro h; (first | (cases h) | ((first | (simp only [vis, Int.reduceToNat] at h) | skip); (try (exfalso; omega))))) | (with_reducible refine Vc.mk ?_; fail) | (with_reducible refine cutG ?_; fail) | (refine idx_map ?_ ?_) | (refine idx_mapI ?_ ?_ ?_) | (refine StopAt.mk (by decide) (by decide) ?_)))))
          all_goals (try omega)
          all_goals (try (refine Vc.mk ?_; (first | (exact rfl) | (decide) | omega | (unfold In64; omega) | (simp only [wrap_byte, Int.reduceToNat, Int.toNat_natCast, In64]; omega) | (simp only [maxLen, Fits, viewR, viewL, AV.view, List.length_map, List.length_append, List.length_cons, List.length_nil]; omega) | (simp [viewR, viewL, AV.view, ]; done) | skip)))
          all_goals first
            | (refine nextG2 n' (upd F _ 0) ⟨by omega, hS 0 (by rw [if_pos (by omega)])⟩ (by omega) (by subst hn'; (refine le_sub [0] rfl rfl ?_ ?_); all_goals ((repeat' (conv => whnf); (first | (with_reducible refine And.intro ?_ ?_) | (with_reducible exact True.intro) | (with_reducible exact Or.inl rfl) | (refine Vc.mk ?_; (first | (exact rfl) | (exact ⟨rfl, .inl rfl⟩) | omega | skip)))); all_goals (try rfl))))
            | (refine nextG2 n' (upd F _ (-1)) ⟨by omega, hS (-1) (by rw [if_neg (by omega)])⟩ (by omega) (by subst hn'; (refine le_sub [0] rfl rfl ?_ ?_); all_goals ((repeat' (conv => whnf); (first | (with_reducible refine And.intro ?_ ?_) | (with_reducible exact True.intro) | (with_reducible exact Or.inl rfl) | (refine Vc.mk ?_; (first | (exact rfl) | (exact ⟨rfl, .inl rfl⟩) | omega | skip)))); all_goals (try rfl))))
      have en : n = 6 := by omega
      subst en
      have hI : FarI (met l) r H 0 F := fun i hi => .inr ⟨hF i hi.1 hi.2, fun j hj h => by omega⟩
      clear hF
      (iterate 2 all_goals (try (repeat' (conv => whnf); (first | (with_reducible refine And.intro ?_ ?_) | (with_reducible exact True.intro) | (intro h; (first | (cases h) | ((first | (simp only [vis, Int.reduceToNat] at h) | skip); (try (exfalso; omega))))) | (with_reducible refine Vc.mk ?_; fail) | (with_reducible refine cutG ?_; fail) | (refine idx_map ?_ ?_) | (refine idx_mapI ?_ ?_ ?_) ))))
      all_goals (try omega)
      all_goals (try (refine Vc.mk ?_; (first | (exact rfl) | (decide) | omega | (unfold In64; omega) | (simp only [wrap_byte, Int.reduceToNat, Int.toNat_natCast, In64]; omega) | (simp only [maxLen, Fits, viewR, viewL, AV.view, List.length_map, List.length_append, List.length_cons, List.length_nil]; omega) | (simp [viewR, viewL, AV.view, ]; done) | skip)))
      refine lpG2 (fun (i : Nat) (F : Int → Int) => farA l H r F (9, .v (.int .i64 i))) (fun i F => i ≤ H.length ∧ FarI (met l) r H i F) (fun i F => H.length - i) 0 F ⟨by omega, hI⟩ (by (refine le_sub [0] rfl rfl ?_ ?_); all_goals ((repeat' (conv => whnf); (first | (with_reducible refine And.intro ?_ ?_) | (with_reducible exact True.intro) | (with_reducible exact Or.inl rfl) | (refine Vc.mk ?_; (first | (exact rfl) | (exact ⟨rfl, .inl rfl⟩) | omega | skip)))); all_goals rfl)) ?_
      clear hI
      rintro i F ⟨hi, hI⟩
      by_cases hi6 : i < H.length
      · obtain ⟨hnt, hb⟩ := hbest i hi6
        have hnx := hI.next hi6 hb
        refine or6 (by unfold nod at hnt; omega : H[i].1 = 1 ∨ H[i].1 = 2 ∨ H[i].1 = 3 ∨ H[i].1 = 4 ∨ H[i].1 = 5 ∨ H[i].1 = 6) (fun et => ?_) (fun et => ?_) (fun et => ?_) (fun et => ?_) (fun et => ?_) (fun et => ?_)
        all_goals
          rw [et] at hnx
          (iterate 2 all_goals (try (repeat' (conv => whnf); (first | (with_reducible refine And.intro ?_ ?_) | (with_reducible exact True.intro) | (intro h; (first | (cases h) | ((first | (simp only [vis, Int.reduceToNat] at h) | skip); (try (exfalso; omega))))) | (with_reducible refine Vc.mk ?_; fail) | (with_reducible refine cutG ?_; fail) | (refine idx_map ?_ ?_) | (refine idx_mapI ?_ ?_ ?_) | (refine StopAt.mk (by omega) (by omega) ?_; (first | rw [show H[i].1.toNat = 1 from by omega] | rw [show H[i].1.toNat = 2 from by omega] | rw [show H[i].1.toNat = 3 from by omega] | rw [show H[i].1.toNat = 4 from by omega] | rw [show H[i].1.toNat = 5 from by omega] | rw [show H[i].1.toNat = 6 from by omega]))))))
          all_goals (try omega)
          all_goals (try (refine Vc.mk ?_; (first | (exact rfl) | (decide) | omega | (unfold In64; omega) | (simp only [wrap_byte, Int.reduceToNat, Int.toNat_natCast, In64]; omega) | (simp only [maxLen, Fits, viewR, viewL, AV.view, List.length_map, List.length_append, List.length_cons, List.length_nil]; omega) | (simp [viewR, viewL, AV.view, ]; done) | skip)))
          all_goals (refine nextG2 (i + 1) (upd F _ H[i].2.1) ⟨by omega, hnx⟩ (by omega) (by (refine le_sub [0] rfl rfl ?_ ?_); all_goals ((repeat' (conv => whnf); (first | (with_reducible refine And.intro ?_ ?_) | (with_reducible exact True.intro) | (with_reducible exact Or.inl rfl) | (refine Vc.mk ?_; (first | (exact rfl) | (exact ⟨rfl, .inl rfl⟩) | omega | skip)))); all_goals (try rfl))))
      have ei : i = H.length := by omega
      subst ei
      have hF := hend F hI
      have hlaw := fun a b => FarOk.law (a := a) (b := b) hr hF
      have hb := fun n hn => hfew n (F n) (hF n hn)
      clear hI
      (iterate 2 all_goals (try (repeat' (conv => whnf); (first | (with_reducible refine And.intro ?_ ?_) | (with_reducible exact True.intro) | (intro h; (first | (cases h) | ((first | (simp only [vis, Int.reduceToNat] at h) | skip); (try (exfalso; omega))))) | (with_reducible refine Vc.mk ?_; fail) | (with_reducible refine cutG ?_; fail) | (refine idx_map ?_ ?_) | (refine idx_mapI ?_ ?_ ?_) ))))
      all_goals (try omega)
      all_goals (try (refine Vc.mk ?_; (first | (exact rfl) | (decide) | omega | (unfold In64; omega) | (simp only [wrap_byte, Int.reduceToNat, Int.toNat_natCast, In64]; omega) | (simp only [maxLen, Fits, viewR, viewL, AV.view, List.length_map, List.length_append, List.length_cons, List.length_nil]; omega) | (simp [viewR, viewL, AV.view, ]; done) | skip)))
      refine lpG (fun (a : Nat) => farA l H r F (10, .v (.int .i64 ((a : Int) + 1)))) (fun a => a ≤ 6) (fun a => 6 - a) 0 (by omega) (by (refine le_sub [0] rfl rfl ?_ ?_); all_goals ((repeat' (conv => whnf); (first | (with_reducible refine And.intro ?_ ?_) | (with_reducible exact True.intro) | (with_reducible exact Or.inl rfl) | (refine Vc.mk ?_; (first | (exact rfl) | (exact ⟨rfl, .inl rfl⟩) | omega | skip)))); all_goals rfl)) ?_
      rintro a ha
      by_cases ha6 : a < 6
      · (iterate 2 all_goals (try (repeat' (conv => whnf); (first | (with_reducible refine And.intro ?_ ?_) | (with_reducible exact True.intro) | (intro h; (first | (cases h) | ((first | (simp only [vis, Int.reduceToNat] at h) | skip); (try (exfalso; omega))))) | (with_reducible refine Vc.mk ?_; fail) | (with_reducible refine cutG ?_; fail) | (refine idx_map ?_ ?_) | (refine idx_mapI ?_ ?_ ?_) ))))
        all_goals (try omega)
        all_goals (try (refine Vc.mk ?_; (first | (exact rfl) | (decide) | omega | (unfold In64; omega) | (simp only [wrap_byte, Int.reduceToNat, Int.toNat_natCast, In64]; omega) | (simp only [maxLen, Fits, viewR, viewL, AV.view, List.length_map, List.length_append, List.length_cons, List.length_nil]; omega) | (simp [viewR, viewL, AV.view, ]; done) | skip)))
        refine lpG (fun (b : Nat) => ⟨[(0, .sl 3 (l.map stRow) none), (1, .v (.int .i64 r)), (6, .sl 3 (H.map hRow) none), (7, .box 0 0), (10, .v (.int .i64 ((a : Int) + 1))), (11, .v (.int .i64 ((b : Int) + 1)))], [.cells (farC F)]⟩) (fun b => b ≤ 6) (fun b => 6 - b) 0 (by omega) (by (refine le_sub [0] rfl rfl ?_ ?_); all_goals ((repeat' (conv => whnf); (first | (with_reducible refine And.intro ?_ ?_) | (with_reducible exact True.intro) | (with_reducible exact Or.inl rfl) | (refine Vc.mk ?_; (first | (exact rfl) | (exact ⟨rfl, .inl rfl⟩) | omega | skip)))); all_goals rfl)) ?_
        rintro b hb6
        by_cases hb7 : b < 6
        · obtain ⟨A, hA⟩ : ∃ A : Int, A = (a : Int) + 1 := ⟨_, rfl⟩
          obtain ⟨B, hB⟩ : ∃ B : Int, B = (b : Int) + 1 := ⟨_, rfl⟩
          have hab := he A B
          have hL := hlaw A B ⟨by omega, by omega⟩ ⟨by omega, by omega⟩
          have hba := hb A ⟨by omega, by omega⟩
          have hbb := hb B ⟨by omega, by omega⟩
          have hm1 := hmost A B
          have hm0 := hpos A B
          clear hlaw hb he hend hF hbest hmost hpos
          generalize hE : met l A B = E at hab hL hm1 hm0
          obtain ⟨b', hb'⟩ : ∃ b', b' = b + 1 := ⟨_, rfl⟩
          refine or6 (by omega : a = 0 ∨ a = 1 ∨ a = 2 ∨ a = 3 ∨ a = 4 ∨ a = 5) (fun ea => ?_) (fun ea => ?_) (fun ea => ?_) (fun ea => ?_) (fun ea => ?_) (fun ea => ?_)
          all_goals (refine or6 (by omega : b = 0 ∨ b = 1 ∨ b = 2 ∨ b = 3 ∨ b = 4 ∨ b = 5) (fun eb => ?_) (fun eb => ?_) (fun eb => ?_) (fun eb => ?_) (fun eb => ?_) (fun eb => ?_))
          all_goals
            subst ea eb
            first | (obtain rfl : A = 1 := hA) | (obtain rfl : A = 2 := hA) | (obtain rfl : A = 3 := hA) | (obtain rfl : A = 4 := hA) | (obtain rfl : A = 5 := hA) | (obtain rfl : A = 6 := hA)
            first | (obtain rfl : B = 1 := hB) | (obtain rfl : B = 2 := hB) | (obtain rfl : B = 3 := hB) | (obtain rfl : B = 4 := hB) | (obtain rfl : B = 5 := hB) | (obtain rfl : B = 6 := hB)
            (iterate 2 all_goals (try (repeat' (conv => whnf); (first | (with_reducible refine And.intro ?_ ?_) | (with_reducible exact True.intro) | (intro h; (first | (cases h) | ((first | (simp only [vis, Int.reduceToNat] at h) | skip); (try (exfalso; omega))))) | (with_reducible refine Vc.mk ?_; fail) | (with_reducible refine cutG ?_; fail) | (refine idx_map ?_ ?_) | (refine idx_mapI ?_ ?_ ?_) ))))
            refine call0 hab ?_ ?_
            · (repeat' (conv => whnf); (first | (with_reducible refine And.intro ?_ ?_) | (with_reducible exact True.intro) | (with_reducible exact Or.inl rfl) | (refine Vc.mk ?_; (first | (exact rfl) | (exact ⟨rfl, .inl rfl⟩) | omega | skip))))
            (iterate 2 all_goals (try (repeat' (conv => whnf); (first | (with_reducible refine And.intro ?_ ?_) | (with_reducible exact True.intro) | (intro h; (first | (cases h) | ((first | (simp only [vis, Int.reduceToNat] at h) | skip); (try (exfalso; omega))))) | (with_reducible refine Vc.mk ?_; fail) | (with_reducible refine cutG ?_; fail) | (refine idx_map ?_ ?_) | (refine idx_mapI ?_ ?_ ?_) | (refine StopAt.mk (by decide) (by decide) ?_)))))
            all_goals (try omega)
            all_goals (try (refine Vc.mk ?_; (first | (exact rfl) | (decide) | omega | (unfold In64; omega) | (simp only [wrap_byte, Int.reduceToNat, Int.toNat_natCast, In64]; omega) | (simp only [maxLen, Fits, viewR, viewL, AV.view, List.length_map, List.length_append, List.length_cons, List.length_nil]; omega) | (simp [viewR, viewL, AV.view, ]; done) | skip)))
            all_goals (refine nextG b' (by omega) (by omega) (by subst hb'; (refine le_sub [0] rfl rfl ?_ ?_); all_goals ((repeat' (conv => whnf); (first | (with_reducible refine And.intro ?_ ?_) | (with_reducible exact True.intro) | (with_reducible exact Or.inl rfl) | (refine Vc.mk ?_; (first | (exact rfl) | (exact ⟨rfl, .inl rfl⟩) | omega | skip)))); all_goals (try rfl))))
        · have eb : b = 6 := by omega
          subst eb
          (iterate 2 all_goals (try (repeat' (conv => whnf); (first | (with_reducible refine And.intro ?_ ?_) | (with_reducible exact True.intro) | (intro h; (first | (cases h) | ((first | (simp only [vis, Int.reduceToNat] at h) | skip); (try (exfalso; omega))))) | (with_reducible refine Vc.mk ?_; fail) | (with_reducible refine cutG ?_; fail) | (refine idx_map ?_ ?_) | (refine idx_mapI ?_ ?_ ?_) ))))
          all_goals (try omega)
          all_goals (try (refine Vc.mk ?_; (first | (exact rfl) | (decide) | omega | (unfold In64; omega) | (simp only [wrap_byte, Int.reduceToNat, Int.toNat_natCast, In64]; omega) | (simp only [maxLen, Fits, viewR, viewL, AV.view, List.length_map, List.length_append, List.length_cons, List.length_nil]; omega) | (simp [viewR, viewL, AV.view, ]; done) | skip)))
          all_goals (refine nextG (a + 1) (by omega) (by omega) (by (refine le_sub [0] rfl rfl ?_ ?_); all_goals ((repeat' (conv => whnf); (first | (with_reducible refine And.intro ?_ ?_) | (with_reducible exact True.intro) | (with_reducible exact Or.inl rfl) | (refine Vc.mk ?_; (first | (exact rfl) | (exact ⟨rfl, .inl rfl⟩) | omega | skip)))); all_goals (try rfl))))
      have ea : a = 6 := by omega
      subst ea
      clear hlaw hb hF hend
      (iterate 2 all_goals (try (repeat' (conv => whnf); (first | (with_reducible refine And.intro ?_ ?_) | (with_reducible exact True.intro) | (intro h; (first | (cases h) | ((first | (simp only [vis, Int.reduceToNat] at h) | skip); (try (exfalso; omega))))) | (with_reducible refine Vc.mk ?_; fail) | (with_reducible refine cutG ?_; fail) | (refine idx_map ?_ ?_) | (refine idx_mapI ?_ ?_ ?_) ))))
      all_goals (try omega)
      all_goals (try (refine Vc.mk ?_; (first | (exact rfl) | (decide) | omega | (unfold In64; omega) | (simp only [wrap_byte, Int.reduceToNat, Int.toNat_natCast, In64]; omega) | (simp only [maxLen, Fits, viewR, viewL, AV.view, List.length_map, List.length_append, List.length_cons, List.length_nil]; omega) | (simp [viewR, viewL, AV.view, ]; done) | skip)))
      refine lpG (fun (i : Nat) => ⟨[(0, .sl 3 (l.map stRow) none), (1, .v (.int .i64 r)), (6, .sl 3 (H.map hRow) none), (13, .v (.int .i64 i))], []⟩) (fun i => i ≤ H.length) (fun i => H.length - i) 0 (by omega) (by (refine le_sub [] rfl rfl ?_ ?_); all_goals ((repeat' (conv => whnf); (first | (with_reducible refine And.intro ?_ ?_) | (with_reducible exact True.intro) | (with_reducible exact Or.inl rfl) | (refine Vc.mk ?_; (first | (exact rfl) | (exact ⟨rfl, .inl rfl⟩) | omega | skip)))); all_goals rfl)) ?_
      rintro i hi
      by_cases hi6 : i < H.length
      · obtain ⟨hnt, hb⟩ := hbest i hi6
        obtain ⟨_, hg, hm0, ho⟩ := hb.first
        have hbf := best_far hl.metric hr hb
        have hm1 := hmost r H[i].2.2
        have he1 := he r H[i].2.2
        have hh1 := hh H[i].2.2
        have ht1 := ht H[i].2.2 H[i].1
        rcases ho with ⟨e1, e2⟩ | ⟨e1, d', f', h3, e3, h0⟩
        · (iterate 2 all_goals (try (repeat' (conv => whnf); (first | (with_reducible refine And.intro ?_ ?_) | (with_reducible exact True.intro) | (intro h; (first | (cases h) | ((first | (simp only [vis, Int.reduceToNat] at h) | skip); (try (exfalso; omega))))) | (with_reducible refine Vc.mk ?_; fail) | (with_reducible refine cutG ?_; fail) | (refine idx_map ?_ ?_) | (refine idx_mapI ?_ ?_ ?_) ))))
          all_goals (try omega)
          all_goals (try (refine Vc.mk ?_; (first | (exact rfl) | (decide) | omega | (unfold In64; omega) | (simp only [wrap_byte, Int.reduceToNat, Int.toNat_natCast, In64]; omega) | (simp only [maxLen, Fits, viewR, viewL, AV.view, List.length_map, List.length_append, List.length_cons, List.length_nil]; omega) | (simp [viewR, viewL, AV.view, ]; done) | skip)))
          (all_goals (try ((first | (refine call0 (he1) ?_ ?_) | (refine pure0 (he1) rfl ?_ ?_)); (· (repeat' (conv => whnf); (first | (with_reducible refine And.intro ?_ ?_) | (with_reducible exact True.intro) | (with_reducible exact Or.inl rfl) | (refine Vc.mk ?_; (first | (exact rfl) | (exact ⟨rfl, .inl rfl⟩) | omega | skip))))); (iterate 2 all_goals (try (repeat' (conv => whnf); (first | (with_reducible refine And.intro ?_ ?_) | (with_reducible exact True.intro) | (intro h; (first | (cases h) | ((first | (simp only [vis, Int.reduceToNat] at h) | skip); (try (exfalso; omega))))) | (with_reducible refine Vc.mk ?_; fail) | (with_reducible refine cutG ?_; fail) | (refine idx_map ?_ ?_) | (refine idx_mapI ?_ ?_ ?_) )))))))
          all_goals (try (refine Vc.mk ?_; (first | (exact rfl) | (decide) | omega | (unfold In64; omega) | (simp only [wrap_byte, Int.reduceToNat, Int.toNat_natCast, In64]; omega) | (simp only [maxLen, Fits, viewR, viewL, AV.view, List.length_map, List.length_append, List.length_cons, List.length_nil]; omega) | (simp [viewR, viewL, AV.view, ]; done) | skip)))
          all_goals (try omega)
          all_goals (refine nextG (i + 1) (by omega) (by omega) (by (refine le_sub [] rfl rfl ?_ ?_); all_goals ((repeat' (conv => whnf); (first | (with_reducible refine And.intro ?_ ?_) | (with_reducible exact True.intro) | (with_reducible exact Or.inl rfl) | (refine Vc.mk ?_; (first | (exact rfl) | (exact ⟨rfl, .inl rfl⟩) | omega | skip)))); all_goals (try rfl))))
        · obtain ⟨d2, g2, h4, e4⟩ | ⟨h4, _⟩ := toH_hops (l := l) hg hnt
          · obtain ⟨rfl, rfl⟩ := h4.uniq h3
            have hV : toV H[i].1 (hopsR l H[i].2.2) = (H[i].1, d2, g2) := by unfold toV; rw [e4]; rfl
            rw [hV, e4] at ht1
            (iterate 2 all_goals (try (repeat' (conv => whnf); (first | (with_reducible refine And.intro ?_ ?_) | (with_reducible exact True.intro) | (intro h; (first | (cases h) | ((first | (simp only [vis, Int.reduceToNat] at h) | skip); (try (exfalso; omega))))) | (with_reducible refine Vc.mk ?_; fail) | (with_reducible refine cutG ?_; fail) | (refine idx_map ?_ ?_) | (refine idx_mapI ?_ ?_ ?_) ))))
            all_goals (try omega)
            all_goals (try (refine Vc.mk ?_; (first | (exact rfl) | (decide) | omega | (unfold In64; omega) | (simp only [wrap_byte, Int.reduceToNat, Int.toNat_natCast, In64]; omega) | (simp only [maxLen, Fits, viewR, viewL, AV.view, List.length_map, List.length_append, List.length_cons, List.length_nil]; omega) | (simp [viewR, viewL, AV.view, ]; done) | skip)))
            (all_goals (try ((first | (refine call0 (he1) ?_ ?_) | (refine pure0 (he1) rfl ?_ ?_)); (· (repeat' (conv => whnf); (first | (with_reducible refine And.intro ?_ ?_) | (with_reducible exact True.intro) | (with_reducible exact Or.inl rfl) | (refine Vc.mk ?_; (first | (exact rfl) | (exact ⟨rfl, .inl rfl⟩) | omega | skip))))); (iterate 2 all_goals (try (repeat' (conv => whnf); (first | (with_reducible refine And.intro ?_ ?_) | (with_reducible exact True.intro) | (intro h; (first | (cases h) | ((first | (simp only [vis, Int.reduceToNat] at h) | skip); (try (exfalso; omega))))) | (with_reducible refine Vc.mk ?_; fail) | (with_reducible refine cutG ?_; fail) | (refine idx_map ?_ ?_) | (refine idx_mapI ?_ ?_ ?_) )))))))
            all_goals (try (refine Vc.mk ?_; (first | (exact rfl) | (decide) | omega | (unfold In64; omega) | (simp only [wrap_byte, Int.reduceToNat, Int.toNat_natCast, In64]; omega) | (simp only [maxLen, Fits, viewR, viewL, AV.view, List.length_map, List.length_append, List.length_cons, List.length_nil]; omega) | (simp [viewR, viewL, AV.view, ]; done) | skip)))
            all_goals (try omega)
            (all_goals (try ((first | (refine call0 (hh1) ?_ ?_) | (refine pure0 (hh1) rfl ?_ ?_)); (· (repeat' (conv => whnf); (first | (with_reducible refine And.intro ?_ ?_) | (with_reducible exact True.intro) | (with_reducible exact Or.inl rfl) | (refine Vc.mk ?_; (first | (exact rfl) | (exact ⟨rfl, .inl rfl⟩) | omega | skip))))); (iterate 2 all_goals (try (repeat' (conv => whnf); (first | (with_reducible refine And.intro ?_ ?_) | (with_reducible exact True.intro) | (intro h; (first | (cases h) | ((first | (simp only [vis, Int.reduceToNat] at h) | skip); (try (exfalso; omega))))) | (with_reducible refine Vc.mk ?_; fail) | (with_reducible refine cutG ?_; fail) | (refine idx_map ?_ ?_) | (refine idx_mapI ?_ ?_ ?_) )))))))
            (all_goals (try ((first | (refine call0 (ht1) ?_ ?_) | (refine pure0 (ht1) rfl ?_ ?_)); (· (repeat' (conv => whnf); (first | (with_reducible refine And.intro ?_ ?_) | (with_reducible exact True.intro) | (with_reducible exact Or.inl rfl) | (refine Vc.mk ?_; (first | (exact rfl) | (exact ⟨rfl, .inl rfl⟩) | omega | skip))))); (iterate 2 all_goals (try (repeat' (conv => whnf); (first | (with_reducible refine And.intro ?_ ?_) | (with_reducible exact True.intro) | (intro h; (first | (cases h) | ((first | (simp only [vis, Int.reduceToNat] at h) | skip); (try (exfalso; omega))))) | (with_reducible refine Vc.mk ?_; fail) | (with_reducible refine cutG ?_; fail) | (refine idx_map ?_ ?_) | (refine idx_mapI ?_ ?_ ?_) )))))))
            all_goals (try (refine Vc.mk ?_; (first | (exact rfl) | (decide) | omega | (unfold In64; omega) | (simp only [wrap_byte, Int.reduceToNat, Int.toNat_natCast, In64]; omega) | (simp only [maxLen, Fits, viewR, viewL, AV.view, List.length_map, List.length_append, List.length_cons, List.length_nil]; omega) | (simp [viewR, viewL, AV.view, ]; done) | skip)))
            all_goals (try omega)
            all_goals (refine nextG (i + 1) (by omega) (by omega) (by (refine le_sub [] rfl rfl ?_ ?_); all_goals ((repeat' (conv => whnf); (first | (with_reducible refine And.intro ?_ ?_) | (with_reducible exact True.intro) | (with_reducible exact Or.inl rfl) | (refine Vc.mk ?_; (first | (exact rfl) | (exact ⟨rfl, .inl rfl⟩) | omega | skip)))); all_goals (try rfl))))
          · exact absurd h3 (h4 _ _)
      · (iterate 2 all_goals (try (repeat' (conv => whnf); (first | (with_reducible refine And.intro ?_ ?_) | (with_reducible exact True.intro) | (intro h; (first | (cases h) | ((first | (simp only [vis, Int.reduceToNat] at h) | skip); (try (exfalso; omega))))) | (with_reducible refine Vc.mk ?_; fail) | (with_reducible refine cutG ?_; fail) | (refine idx_map ?_ ?_) | (refine idx_mapI ?_ ?_ ?_) ))))
        all_goals (try omega)
        all_goals (((try (conv => whnf)); refine ⟨[], rfl, rfl, ?_, ?_⟩); (repeat' (conv => whnf); (first | (with_reducible refine And.intro ?_ ?_) | (with_reducible exact True.intro) | (with_reducible exact Or.inl rfl) | (refine Vc.mk ?_; (first | (exact rfl) | (exact ⟨rfl, .inl rfl⟩) | omega | skip)))))
    · refine fn_of mixed [] [] Try.func7 rfl (by decide +kernel) Try.ntmps7 rfl (congrArg Array.toList Try.results7) rfl (by decide +kernel) ?_
      unfold nod at hr
      (iterate 2 all_goals (try (repeat' (conv => whnf); (first | (with_reducible refine And.intro ?_ ?_) | (with_reducible exact True.intro) | (intro h; (first | (cases h) | ((first | (simp only [vis, Int.reduceToNat] at h) | skip); (try (exfalso; omega))))) | (with_reducible refine Vc.mk ?_; fail) | (with_reducible refine cutG ?_; fail) | (refine idx_map ?_ ?_) | (refine idx_mapI ?_ ?_ ?_) ))))
      (all_goals (try ((first | (refine call0 (nearby_ok) ?_ ?_) | (refine pure0 (nearby_ok) rfl ?_ ?_)); (· (repeat' (conv => whnf); (first | (with_reducible refine And.intro ?_ ?_) | (with_reducible exact True.intro) | (with_reducible exact Or.inl rfl) | (refine Vc.mk ?_; (first | (exact rfl) | (exact ⟨rfl, .inl rfl⟩) | omega | skip))))); (iterate 2 all_goals (try (repeat' (conv => whnf); (first | (with_reducible refine And.intro ?_ ?_) | (with_reducible exact True.intro) | (intro h; (first | (cases h) | ((first | (simp only [vis, Int.reduceToNat] at h) | skip); (try (exfalso; omega))))) | (with_reducible refine Vc.mk ?_; fail) | (with_reducible refine cutG ?_; fail) | (refine idx_map ?_ ?_) | (refine idx_mapI ?_ ?_ ?_) )))))))
      (all_goals (try ((first | (refine call0 (hls) ?_ ?_) | (refine pure0 (hls) rfl ?_ ?_)); (· (repeat' (conv => whnf); (first | (with_reducible refine And.intro ?_ ?_) | (with_reducible exact True.intro) | (with_reducible exact Or.inl rfl) | (refine Vc.mk ?_; (first | (exact rfl) | (exact ⟨rfl, .inl rfl⟩) | omega | skip))))); (iterate 2 all_goals (try (repeat' (conv => whnf); (first | (with_reducible refine And.intro ?_ ?_) | (with_reducible exact True.intro) | (intro h; (first | (cases h) | ((first | (simp only [vis, Int.reduceToNat] at h) | skip); (try (exfalso; omega))))) | (with_reducible refine Vc.mk ?_; fail) | (with_reducible refine cutG ?_; fail) | (refine idx_map ?_ ?_) | (refine idx_mapI ?_ ?_ ?_) )))))))
      all_goals (try omega)
      all_goals (((try (conv => whnf)); refine ⟨[], rfl, rfl, ?_, ?_⟩); (repeat' (conv => whnf); (first | (with_reducible refine And.intro ?_ ?_) | (with_reducible exact True.intro) | (with_reducible exact Or.inl rfl) | (refine Vc.mk ?_; (first | (exact rfl) | (exact ⟨rfl, .inl rfl⟩) | omega | skip)))))
  · rw [lightB_f hl] at hls
    refine fn_of mixed [] [] Try.func7 rfl (by decide +kernel) Try.ntmps7 rfl (congrArg Array.toList Try.results7) rfl (by decide +kernel) ?_
    (iterate 2 all_goals (try (repeat' (conv => whnf); (first | (with_reducible refine And.intro ?_ ?_) | (with_reducible exact True.intro) | (intro h; (first | (cases h) | ((first | (simp only [vis, Int.reduceToNat] at h) | skip); (try (exfalso; omega))))) | (with_reducible refine Vc.mk ?_; fail) | (with_reducible refine cutG ?_; fail) | (refine idx_map ?_ ?_) | (refine idx_mapI ?_ ?_ ?_) ))))
    (all_goals (try ((first | (refine call0 (nearby_ok) ?_ ?_) | (refine pure0 (nearby_ok) rfl ?_ ?_)); (· (repeat' (conv => whnf); (first | (with_reducible refine And.intro ?_ ?_) | (with_reducible exact True.intro) | (with_reducible exact Or.inl rfl) | (refine Vc.mk ?_; (first | (exact rfl) | (exact ⟨rfl, .inl rfl⟩) | omega | skip))))); (iterate 2 all_goals (try (repeat' (conv => whnf); (first | (with_reducible refine And.intro ?_ ?_) | (with_reducible exact True.intro) | (intro h; (first | (cases h) | ((first | (simp only [vis, Int.reduceToNat] at h) | skip); (try (exfalso; omega))))) | (with_reducible refine Vc.mk ?_; fail) | (with_reducible refine cutG ?_; fail) | (refine idx_map ?_ ?_) | (refine idx_mapI ?_ ?_ ?_) )))))))
    (all_goals (try ((first | (refine call0 (hls) ?_ ?_) | (refine pure0 (hls) rfl ?_ ?_)); (· (repeat' (conv => whnf); (first | (with_reducible refine And.intro ?_ ?_) | (with_reducible exact True.intro) | (with_reducible exact Or.inl rfl) | (refine Vc.mk ?_; (first | (exact rfl) | (exact ⟨rfl, .inl rfl⟩) | omega | skip))))); (iterate 2 all_goals (try (repeat' (conv => whnf); (first | (with_reducible refine And.intro ?_ ?_) | (with_reducible exact True.intro) | (intro h; (first | (cases h) | ((first | (simp only [vis, Int.reduceToNat] at h) | skip); (try (exfalso; omega))))) | (with_reducible refine Vc.mk ?_; fail) | (with_reducible refine cutG ?_; fail) | (refine idx_map ?_ ?_) | (refine idx_mapI ?_ ?_ ?_) )))))))
    all_goals (try (refine Vc.mk ?_; (first | (exact rfl) | (decide) | omega | (unfold In64; omega) | (simp only [wrap_byte, Int.reduceToNat, Int.toNat_natCast, In64]; omega) | (simp only [maxLen, Fits, viewR, viewL, AV.view, List.length_map, List.length_append, List.length_cons, List.length_nil]; omega) | (simp [viewR, viewL, AV.view, ]; done) | skip)))
    all_goals (((try (conv => whnf)); refine ⟨[], rfl, rfl, ?_, ?_⟩); (repeat' (conv => whnf); (first | (with_reducible refine And.intro ?_ ?_) | (with_reducible exact True.intro) | (with_reducible exact Or.inl rfl) | (refine Vc.mk ?_; (first | (exact rfl) | (exact ⟨rfl, .inl rfl⟩) | omega | skip)))))
theorem topFar_walk (W : World) (v0 v1 : Value) (i0 : GStates W v0) (i1 : InInt W v1) :
    Calls Try.prog 7 #[v0, v1] W fun e w' => e = .returned (.bool true) ∧ Below W.heap.size W w' := by
  obtain ⟨l, _, hl⟩ := i0
  obtain ⟨r, rfl, _⟩ := i1
  exact fn_law (topFar_ok l r) W [_, _] ⟨hl, .v _ _, trivial⟩
end Go.Proofs.Ytimfnpjcedjmiab
