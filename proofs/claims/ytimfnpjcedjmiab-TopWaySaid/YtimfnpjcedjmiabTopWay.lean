/-
  The statement TopWay: who goes on from next to next comes there.
-/
import Derived.Test.YtimfnpjcedjmiabMTw
import Derived.Test.YtimfnpjcedjmiabGSts
namespace Go.Proofs.Ytimfnpjcedjmiab
open Go.RowKit
set_option linter.unusedSimpArgs false
set_option linter.unusedVariables false
/-- Where one is on the way to `t`, that is `d` far from the root: at `u`, having gone `f`. -/
structure WayS (M : Int → Int → Int) (t d : Int) (u f : Int) (been : Int → Bool) : Prop where
  nu : nod u
  f0 : 0 ≤ f
  rest : (u = t ∧ f = d) ∨ (u ≠ t ∧ ∃ d' g, Best M u t d' g ∧ f + d' = d)
  seen : ∀ x, been x = true → nod x → ∃ dx gx, Best M x t dx gx ∧ d - f < dx
theorem WayS.start {M : Int → Int → Int} {r t d f : Int} (hr : nod r) (h : Best M r t d f) : WayS M t d r 0 (fun _ => false) :=
  ⟨hr, by omega, .inr ⟨fun e => h.1 e.symm, d, f, h, by omega⟩, fun x h => by cases h⟩
theorem WayS.le {M : Int → Int → Int} {t d u f : Int} {been : Int → Bool} (h : WayS M t d u f been) : f ≤ d := by
  rcases h.rest with ⟨_, e⟩ | ⟨_, d', g, hb, e⟩
  · omega
  · have := hb.pos; omega
theorem WayS.new {M : Int → Int → Int} {t d u f : Int} {been : Int → Bool} (h : WayS M t d u f been) (hne : u ≠ t) : been u = false := by
  cases hb : been u with
  | false => rfl
  | true =>
    obtain ⟨dx, gx, h1, h2⟩ := h.seen u hb h.nu
    rcases h.rest with ⟨e, _⟩ | ⟨_, d', g, h3, e⟩
    · exact absurd e hne
    · obtain ⟨e1, _⟩ := h1.uniq h3
      omega
theorem WayS.next {M : Int → Int → Int} {t d u f : Int} {been : Int → Bool} (h : WayS M t d u f been) (hne : u ≠ t) {d' g : Int} (hb : Best M u t d' g) : nod g ∧ 0 < M u g ∧ f + M u g ≤ d ∧ WayS M t d g (f + M u g) (upd been u true) := by
  have e : f + d' = d := by
    rcases h.rest with ⟨e, _⟩ | ⟨_, d1, g1, h3, e⟩
    · exact absurd e hne
    · obtain ⟨e1, _⟩ := h3.uniq hb
      omega
  obtain ⟨hn, hg, hm, ho⟩ := hb.first
  have hf0 := h.f0
  have hr : (g = t ∧ f + M u g = d) ∨ (g ≠ t ∧ ∃ d2 g2, Best M g t d2 g2 ∧ f + M u g + d2 = d) := by
    rcases ho with ⟨e1, e2⟩ | ⟨e1, d2, g2, h2, e2, _⟩
    · exact .inl ⟨e1.symm, by omega⟩
    · exact .inr ⟨fun e => e1 e.symm, d2, g2, h2, by omega⟩
  have hle : f + M u g ≤ d := by
    rcases hr with ⟨_, e⟩ | ⟨_, d2, g2, h2, e⟩
    · omega
    · have := h2.pos; omega
  refine ⟨hg, hm, hle, hg, by omega, hr, fun x hx hnx => ?_⟩
  by_cases ex : x = u
  · subst ex
    exact ⟨d', g, hb, by omega⟩
  · rw [upd_ne _ _ ex] at hx
    obtain ⟨dx, gx, h1, h2⟩ := h.seen x hx hnx
    exact ⟨dx, gx, h1, by omega⟩
/-- The best way is no longer than six edges may be. -/
theorem best_few {M : Int → Int → Int} (hM : MOk M) {n : Int} : ∀ (k : Nat) (been : Int → Bool) (u d g : Int), freeN been ≤ k → nod u → Best M u n d g → (∀ x, been x = true → nod x → ∃ dx gx, Best M x n dx gx ∧ d < dx) → d ≤ 20 * (k : Int)
  | k, been, u, d, g, hk, hu, hb, hs => by
    have hnb : been u = false := by
      cases hx : been u with
      | false => rfl
      | true =>
        obtain ⟨dx, gx, h1, h2⟩ := hs u hx hu
        obtain ⟨e1, _⟩ := h1.uniq hb
        omega
    have hf := freeN_upd (been := been) (a := u) hu hnb
    have hm := hM.most u g
    obtain ⟨_, hg, hm0, ho⟩ := hb.first
    match k, hk with
    | 0, hk => omega
    | k + 1, hk =>
      rcases ho with ⟨_, e⟩ | ⟨_, d', g', h', e, h0⟩
      · omega
      · have := best_few hM k (upd been u true) g d' g' (by omega) hg h' (fun x hx hnx => by
          by_cases ex : x = u
          · subst ex
            exact ⟨d, g, hb, by omega⟩
          · rw [upd_ne _ _ ex] at hx
            obtain ⟨dx, gx, h1, h2⟩ := hs x hx hnx
            exact ⟨dx, gx, h1, by omega⟩)
        omega
theorem best_far {M : Int → Int → Int} (hM : MOk M) {r n d g : Int} (hr : nod r) (hb : Best M r n d g) : d ≤ 120 := by
  have := best_few hM 6 (fun _ => false) r d g (by have := freeN_le (fun _ => false); omega) hr hb (fun x h => by cases h)
  omega
def wayA (l : List St3) (H : List Hp) (r : Int) (i : Nat) (u f : Int) (been : Int → Bool) : AS := ⟨[(0, .sl 3 (l.map stRow) none), (1, .v (.int .i64 r)), (6, .sl 3 (H.map hRow) none), (7, .v (.int .i64 i)), (8, .v (.int .i64 u)), (9, .v (.int .i64 f)), (10, .box 0 0)], [.cells (donC been)]⟩
set_option maxHeartbeats 16000000 in
set_option maxRecDepth 100000 in
theorem topWay_ok (l : List St3) (r : Int) : Fn Try.prog 8 [.sl 3 (l.map stRow) none, .v (.int .i64 r)] [] (.v (.bool true)) [] := by
  have hls := lightStates_ok l
  by_cases hl : OkL l
  · rw [lightB_t hl] at hls
    by_cases hr : nod r
    · have hr1 := hr.1
      have hr2 := hr.2
      have he := fun x y => edge_ok l x y hl.small
      have hh := fun u => hops_ok l u hl.small hl.metric
      have ht := fun u n => to_ok (hopsR l u) n (by have := hopsR_len l u; omega)
      have hmost : ∀ a b, met l a b ≤ 20 := hl.metric.most
      have h1 := hh r
      have hlen := hopsR_len l r
      have hbest : ∀ h ∈ hopsR l r, nod h.1 ∧ Best (met l) r h.1 h.2.1 h.2.2 := fun h hh => (hopsR_mem hr).1 hh
      have hd : ∀ i (h : i < (hopsR l r).length), (hopsR l r)[i].2.1 ≤ 1000000 := fun i h => by
        have := best_far hl.metric hr (hbest _ (List.getElem_mem h)).2; omega
      generalize hopsR l r = H at h1 hlen hbest hd
      refine fn_of mixed [] [] Try.func8 rfl (by decide +kernel) Try.ntmps8 rfl (congrArg Array.toList Try.results8) rfl (by decide +kernel) ?_
      (iterate 2 all_goals (try (repeat' (conv => whnf); (first | (with_reducible refine And.intro ?_ ?_) | (with_reducible exact True.intro) | (intro h; (first | (cases h) | ((first | (simp only [vis, Int.reduceToNat] at h) | skip); (try (exfalso; omega))))) | (with_reducible refine Vc.mk ?_; fail) | (with_reducible refine cutG ?_; fail) | (refine idx_map ?_ ?_) | (refine idx_mapI ?_ ?_ ?_) ))))
      (all_goals (try ((first | (refine call0 (nearby_ok) ?_ ?_) | (refine pure0 (nearby_ok) rfl ?_ ?_)); (· (repeat' (conv => whnf); (first | (with_reducible refine And.intro ?_ ?_) | (with_reducible exact True.intro) | (with_reducible exact Or.inl rfl) | (refine Vc.mk ?_; (first | (exact rfl) | (exact ⟨rfl, .inl rfl⟩) | omega | skip))))); (iterate 2 all_goals (try (repeat' (conv => whnf); (first | (with_reducible refine And.intro ?_ ?_) | (with_reducible exact True.intro) | (intro h; (first | (cases h) | ((first | (simp only [vis, Int.reduceToNat] at h) | skip); (try (exfalso; omega))))) | (with_reducible refine Vc.mk ?_; fail) | (with_reducible refine cutG ?_; fail) | (refine idx_map ?_ ?_) | (refine idx_mapI ?_ ?_ ?_) )))))))
      (all_goals (try ((first | (refine call0 (hls) ?_ ?_) | (refine pure0 (hls) rfl ?_ ?_)); (· (repeat' (conv => whnf); (first | (with_reducible refine And.intro ?_ ?_) | (with_reducible exact True.intro) | (with_reducible exact Or.inl rfl) | (refine Vc.mk ?_; (first | (exact rfl) | (exact ⟨rfl, .inl rfl⟩) | omega | skip))))); (iterate 2 all_goals (try (repeat' (conv => whnf); (first | (with_reducible refine And.intro ?_ ?_) | (with_reducible exact True.intro) | (intro h; (first | (cases h) | ((first | (simp only [vis, Int.reduceToNat] at h) | skip); (try (exfalso; omega))))) | (with_reducible refine Vc.mk ?_; fail) | (with_reducible refine cutG ?_; fail) | (refine idx_map ?_ ?_) | (refine idx_mapI ?_ ?_ ?_) )))))))
      all_goals (try omega)
      all_goals (try (exfalso; (first | omega | (cases h; done))))
      (all_goals (try ((first | (refine call0 (h1) ?_ ?_) | (refine pure0 (h1) rfl ?_ ?_)); (· (repeat' (conv => whnf); (first | (with_reducible refine And.intro ?_ ?_) | (with_reducible exact True.intro) | (with_reducible exact Or.inl rfl) | (refine Vc.mk ?_; (first | (exact rfl) | (exact ⟨rfl, .inl rfl⟩) | omega | skip))))); (iterate 2 all_goals (try (repeat' (conv => whnf); (first | (with_reducible refine And.intro ?_ ?_) | (with_reducible exact True.intro) | (intro h; (first | (cases h) | ((first | (simp only [vis, Int.reduceToNat] at h) | skip); (try (exfalso; omega))))) | (with_reducible refine Vc.mk ?_; fail) | (with_reducible refine cutG ?_; fail) | (refine idx_map ?_ ?_) | (refine idx_mapI ?_ ?_ ?_) )))))))
      all_goals (try omega)
      refine lpG (fun i : Nat => ⟨[(0, .sl 3 (l.map stRow) none), (1, .v (.int .i64 r)), (6, .sl 3 (H.map hRow) none), (7, .v (.int .i64 i))], []⟩) (fun i => i ≤ H.length) (fun i => H.length - i) 0 (by omega) (by (refine le_sub [] rfl rfl ?_ ?_); all_goals ((repeat' (conv => whnf); (first | (with_reducible refine And.intro ?_ ?_) | (with_reducible exact True.intro) | (with_reducible exact Or.inl rfl) | (refine Vc.mk ?_; (first | (exact rfl) | (exact ⟨rfl, .inl rfl⟩) | omega | skip)))); all_goals rfl)) ?_
      rintro i hi
      by_cases hi6 : i < H.length
      · obtain ⟨hnt, hb⟩ := hbest H[i] (List.getElem_mem hi6)
        (iterate 2 all_goals (try (repeat' (conv => whnf); (first | (with_reducible refine And.intro ?_ ?_) | (with_reducible exact True.intro) | (intro h; (first | (cases h) | ((first | (simp only [vis, Int.reduceToNat] at h) | skip); (try (exfalso; omega))))) | (with_reducible refine Vc.mk ?_; fail) | (with_reducible refine cutG ?_; fail) | (refine idx_map ?_ ?_) | (refine idx_mapI ?_ ?_ ?_) ))))
        all_goals (try omega)
        all_goals (try (refine Vc.mk ?_; (first | (exact rfl) | (decide) | omega | (unfold In64; omega) | (simp only [wrap_byte, Int.reduceToNat, Int.toNat_natCast, In64]; omega) | (simp only [maxLen, Fits, viewR, viewL, AV.view, List.length_map, List.length_append, List.length_cons, List.length_nil]; omega) | (simp [viewR, viewL, AV.view, ]; done) | skip)))
        refine lpG3 (wayA l H r i) (fun u f been => WayS (met l) H[i].1 H[i].2.1 u f been) (fun u f been => (H[i].2.1 - f).toNat) r 0 (fun _ => false) (WayS.start hr hb) (by (refine le_sub [0] rfl rfl ?_ ?_); all_goals ((repeat' (conv => whnf); (first | (with_reducible refine And.intro ?_ ?_) | (with_reducible exact True.intro) | (with_reducible exact Or.inl rfl) | (refine Vc.mk ?_; (first | (exact rfl) | (exact ⟨rfl, .inl rfl⟩) | omega | skip)))); all_goals rfl)) ?_
        intro u f been hw
        by_cases hne : u = H[i].1
        · have hf : f = H[i].2.1 := by
            rcases hw.rest with ⟨_, e⟩ | ⟨e, _⟩
            · exact e
            · exact absurd hne e
          (iterate 2 all_goals (try (repeat' (conv => whnf); (first | (with_reducible refine And.intro ?_ ?_) | (with_reducible exact True.intro) | (intro h; (first | (cases h) | ((first | (simp only [vis, Int.reduceToNat] at h) | skip); (try (exfalso; omega))))) | (with_reducible refine Vc.mk ?_; fail) | (with_reducible refine cutG ?_; fail) | (refine idx_map ?_ ?_) | (refine idx_mapI ?_ ?_ ?_) ))))
          all_goals (try omega)
          all_goals (try (refine Vc.mk ?_; (first | (exact rfl) | (decide) | omega | (unfold In64; omega) | (simp only [wrap_byte, Int.reduceToNat, Int.toNat_natCast, In64]; omega) | (simp only [maxLen, Fits, viewR, viewL, AV.view, List.length_map, List.length_append, List.length_cons, List.length_nil]; omega) | (simp [viewR, viewL, AV.view, ]; done) | skip)))
          all_goals first
            | (exfalso; omega)
            | (refine nextG (i + 1) (by omega) (by omega) ?_; (refine le_sub [] rfl rfl ?_ ?_); all_goals ((repeat' (conv => whnf); (first | (with_reducible refine And.intro ?_ ?_) | (with_reducible exact True.intro) | (with_reducible exact Or.inl rfl) | (refine Vc.mk ?_; (first | (exact rfl) | (exact ⟨rfl, .inl rfl⟩) | omega | skip)))); all_goals (try rfl)))
        · have hbn := hw.new hne
          have hfd := hw.le
          have hf0 := hw.f0
          obtain ⟨d', g, hbu⟩ : ∃ d' g, Best (met l) u H[i].1 d' g := by
            rcases hw.rest with ⟨e, _⟩ | ⟨_, d', g, h3, _⟩
            · exact absurd e hne
            · exact ⟨d', g, h3⟩
          obtain ⟨hg, hm, hle, hnx⟩ := hw.next hne hbu
          have htu := ht u H[i].1
          obtain ⟨d2, g2, h3, e3⟩ | ⟨h3, _⟩ := toH_hops (l := l) hw.nu hnt
          · obtain ⟨rfl, rfl⟩ := h3.uniq hbu
            have hV : toV H[i].1 (hopsR l u) = (H[i].1, d2, g2) := by unfold toV; rw [e3]; rfl
            rw [hV, e3] at htu
            have hhu := hh u
            have heu := he u g2
            have hg1 := hg.1
            have hg2 := hg.2
            have hun := hw.nu
            have hm20 := hmost u g2
            generalize hopsR l u = HU at htu hhu
            generalize hE : met l u g2 = E at heu hm hle hnx hm20
            have hbd : H[i].2.1 ≤ 1000000 := hd i hi6
            clear h3 hbu hw hV e3 hb
            refine or6 (by unfold nod at hun; omega : u = 1 ∨ u = 2 ∨ u = 3 ∨ u = 4 ∨ u = 5 ∨ u = 6) (fun eu => ?_) (fun eu => ?_) (fun eu => ?_) (fun eu => ?_) (fun eu => ?_) (fun eu => ?_)
            all_goals
              subst eu
              (iterate 2 all_goals (try (repeat' (conv => whnf); (first | (with_reducible refine And.intro ?_ ?_) | (with_reducible exact True.intro) | (intro h; (first | (cases h) | ((first | (simp only [vis, Int.reduceToNat] at h) | skip); (try (exfalso; omega))))) | (with_reducible refine Vc.mk ?_; fail) | (with_reducible refine cutG ?_; fail) | (refine idx_map ?_ ?_) | (refine idx_mapI ?_ ?_ ?_) | (refine StopAt.mk (by decide) (by decide) ?_)))))
              all_goals (try omega)
              all_goals (try (refine Vc.mk ?_; (first | (exact rfl) | (decide) | omega | (unfold In64; omega) | (simp only [wrap_byte, Int.reduceToNat, Int.toNat_natCast, In64]; omega) | (simp only [maxLen, Fits, viewR, viewL, AV.view, List.length_map, List.length_append, List.length_cons, List.length_nil]; omega) | (simp [viewR, viewL, AV.view, ]; done) | skip)))
              all_goals (try (exfalso; rw [hbn] at h; cases h; done))
              (all_goals (try ((first | (refine call0 (hhu) ?_ ?_) | (refine pure0 (hhu) rfl ?_ ?_)); (· (repeat' (conv => whnf); (first | (with_reducible refine And.intro ?_ ?_) | (with_reducible exact True.intro) | (with_reducible exact Or.inl rfl) | (refine Vc.mk ?_; (first | (exact rfl) | (exact ⟨rfl, .inl rfl⟩) | omega | skip))))); (iterate 2 all_goals (try (repeat' (conv => whnf); (first | (with_reducible refine And.intro ?_ ?_) | (with_reducible exact True.intro) | (intro h; (first | (cases h) | ((first | (simp only [vis, Int.reduceToNat] at h) | skip); (try (exfalso; omega))))) | (with_reducible refine Vc.mk ?_; fail) | (with_reducible refine cutG ?_; fail) | (refine idx_map ?_ ?_) | (refine idx_mapI ?_ ?_ ?_) )))))))
              (all_goals (try ((first | (refine call0 (htu) ?_ ?_) | (refine pure0 (htu) rfl ?_ ?_)); (· (repeat' (conv => whnf); (first | (with_reducible refine And.intro ?_ ?_) | (with_reducible exact True.intro) | (with_reducible exact Or.inl rfl) | (refine Vc.mk ?_; (first | (exact rfl) | (exact ⟨rfl, .inl rfl⟩) | omega | skip))))); (iterate 2 all_goals (try (repeat' (conv => whnf); (first | (with_reducible refine And.intro ?_ ?_) | (with_reducible exact True.intro) | (intro h; (first | (cases h) | ((first | (simp only [vis, Int.reduceToNat] at h) | skip); (try (exfalso; omega))))) | (with_reducible refine Vc.mk ?_; fail) | (with_reducible refine cutG ?_; fail) | (refine idx_map ?_ ?_) | (refine idx_mapI ?_ ?_ ?_) )))))))
              all_goals (try (refine Vc.mk ?_; (first | (exact rfl) | (decide) | omega | (unfold In64; omega) | (simp only [wrap_byte, Int.reduceToNat, Int.toNat_natCast, In64]; omega) | (simp only [maxLen, Fits, viewR, viewL, AV.view, List.length_map, List.length_append, List.length_cons, List.length_nil]; omega) | (simp [viewR, viewL, AV.view, ]; done) | skip)))
              all_goals (try omega)
              (all_goals (try ((first | (refine call0 (heu) ?_ ?_) | (refine pure0 (heu) rfl ?_ ?_)); (· (repeat' (conv => whnf); (first | (with_reducible refine And.intro ?_ ?_) | (with_reducible exact True.intro) | (with_reducible exact Or.inl rfl) | (refine Vc.mk ?_; (first | (exact rfl) | (exact ⟨rfl, .inl rfl⟩) | omega | skip))))); (iterate 2 all_goals (try (repeat' (conv => whnf); (first | (with_reducible refine And.intro ?_ ?_) | (with_reducible exact True.intro) | (intro h; (first | (cases h) | ((first | (simp only [vis, Int.reduceToNat] at h) | skip); (try (exfalso; omega))))) | (with_reducible refine Vc.mk ?_; fail) | (with_reducible refine cutG ?_; fail) | (refine idx_map ?_ ?_) | (refine idx_mapI ?_ ?_ ?_) )))))))
              all_goals (try (refine Vc.mk ?_; (first | (exact rfl) | (decide) | omega | (unfold In64; omega) | (simp only [wrap_byte, Int.reduceToNat, Int.toNat_natCast, In64]; omega) | (simp only [maxLen, Fits, viewR, viewL, AV.view, List.length_map, List.length_append, List.length_cons, List.length_nil]; omega) | (simp [viewR, viewL, AV.view, ]; done) | skip)))
              all_goals (try omega)
              all_goals (refine nextG3 g2 (f + E) (upd been _ true) hnx (by omega) ?_; (refine le_sub [0] rfl rfl ?_ ?_); all_goals ((repeat' (conv => whnf); (first | (with_reducible refine And.intro ?_ ?_) | (with_reducible exact True.intro) | (with_reducible exact Or.inl rfl) | (refine Vc.mk ?_; (first | (exact rfl) | (exact ⟨rfl, .inl rfl⟩) | omega | skip)))); all_goals (try rfl)))
          · exact absurd hbu (h3 _ _)
      · (iterate 2 all_goals (try (repeat' (conv => whnf); (first | (with_reducible refine And.intro ?_ ?_) | (with_reducible exact True.intro) | (intro h; (first | (cases h) | ((first | (simp only [vis, Int.reduceToNat] at h) | skip); (try (exfalso; omega))))) | (with_reducible refine Vc.mk ?_; fail) | (with_reducible refine cutG ?_; fail) | (refine idx_map ?_ ?_) | (refine idx_mapI ?_ ?_ ?_) ))))
        all_goals (try omega)
        all_goals (((try (conv => whnf)); refine ⟨[], rfl, rfl, ?_, ?_⟩); (repeat' (conv => whnf); (first | (with_reducible refine And.intro ?_ ?_) | (with_reducible exact True.intro) | (with_reducible exact Or.inl rfl) | (refine Vc.mk ?_; (first | (exact rfl) | (exact ⟨rfl, .inl rfl⟩) | omega | skip)))))
    · refine fn_of mixed [] [] Try.func8 rfl (by decide +kernel) Try.ntmps8 rfl (congrArg Array.toList Try.results8) rfl (by decide +kernel) ?_
      unfold nod at hr
      (iterate 2 all_goals (try (repeat' (conv => whnf); (first | (with_reducible refine And.intro ?_ ?_) | (with_reducible exact True.intro) | (intro h; (first | (cases h) | ((first | (simp only [vis, Int.reduceToNat] at h) | skip); (try (exfalso; omega))))) | (with_reducible refine Vc.mk ?_; fail) | (with_reducible refine cutG ?_; fail) | (refine idx_map ?_ ?_) | (refine idx_mapI ?_ ?_ ?_) ))))
      (all_goals (try ((first | (refine call0 (nearby_ok) ?_ ?_) | (refine pure0 (nearby_ok) rfl ?_ ?_)); (· (repeat' (conv => whnf); (first | (with_reducible refine And.intro ?_ ?_) | (with_reducible exact True.intro) | (with_reducible exact Or.inl rfl) | (refine Vc.mk ?_; (first | (exact rfl) | (exact ⟨rfl, .inl rfl⟩) | omega | skip))))); (iterate 2 all_goals (try (repeat' (conv => whnf); (first | (with_reducible refine And.intro ?_ ?_) | (with_reducible exact True.intro) | (intro h; (first | (cases h) | ((first | (simp only [vis, Int.reduceToNat] at h) | skip); (try (exfalso; omega))))) | (with_reducible refine Vc.mk ?_; fail) | (with_reducible refine cutG ?_; fail) | (refine idx_map ?_ ?_) | (refine idx_mapI ?_ ?_ ?_) )))))))
      (all_goals (try ((first | (refine call0 (hls) ?_ ?_) | (refine pure0 (hls) rfl ?_ ?_)); (· (repeat' (conv => whnf); (first | (with_reducible refine And.intro ?_ ?_) | (with_reducible exact True.intro) | (with_reducible exact Or.inl rfl) | (refine Vc.mk ?_; (first | (exact rfl) | (exact ⟨rfl, .inl rfl⟩) | omega | skip))))); (iterate 2 all_goals (try (repeat' (conv => whnf); (first | (with_reducible refine And.intro ?_ ?_) | (with_reducible exact True.intro) | (intro h; (first | (cases h) | ((first | (simp only [vis, Int.reduceToNat] at h) | skip); (try (exfalso; omega))))) | (with_reducible refine Vc.mk ?_; fail) | (with_reducible refine cutG ?_; fail) | (refine idx_map ?_ ?_) | (refine idx_mapI ?_ ?_ ?_) )))))))
      all_goals (try omega)
      all_goals (((try (conv => whnf)); refine ⟨[], rfl, rfl, ?_, ?_⟩); (repeat' (conv => whnf); (first | (with_reducible refine And.intro ?_ ?_) | (with_reducible exact True.intro) | (with_reducible exact Or.inl rfl) | (refine Vc.mk ?_; (first | (exact rfl) | (exact ⟨rfl, .inl rfl⟩) | omega | skip)))))
  · rw [lightB_f hl] at hls
    refine fn_of mixed [] [] Try.func8 rfl (by decide +kernel) Try.ntmps8 rfl (congrArg Array.toList Try.results8) rfl (by decide +kernel) ?_
    (iterate 2 all_goals (try (repeat' (conv => whnf); (first | (with_reducible refine And.intro ?_ ?_) | (with_reducible exact True.intro) | (intro h; (first | (cases h) | ((first | (simp only [vis, Int.reduceToNat] at h) | skip); (try (exfalso; omega))))) | (with_reducible refine Vc.mk ?_; fail) | (with_reducible refine cutG ?_; fail) | (refine idx_map ?_ ?_) | (refine idx_mapI ?_ ?_ ?_) ))))
    (all_goals (try ((first | (refine call0 (nearby_ok) ?_ ?_) | (refine pure0 (nearby_ok) rfl ?_ ?_)); (· (repeat' (conv => whnf); (first | (with_reducible refine And.intro ?_ ?_) | (with_reducible exact True.intro) | (with_reducible exact Or.inl rfl) | (refine Vc.mk ?_; (first | (exact rfl) | (exact ⟨rfl, .inl rfl⟩) | omega | skip))))); (iterate 2 all_goals (try (repeat' (conv => whnf); (first | (with_reducible refine And.intro ?_ ?_) | (with_reducible exact True.intro) | (intro h; (first | (cases h) | ((first | (simp only [vis, Int.reduceToNat] at h) | skip); (try (exfalso; omega))))) | (with_reducible refine Vc.mk ?_; fail) | (with_reducible refine cutG ?_; fail) | (refine idx_map ?_ ?_) | (refine idx_mapI ?_ ?_ ?_) )))))))
    (all_goals (try ((first | (refine call0 (hls) ?_ ?_) | (refine pure0 (hls) rfl ?_ ?_)); (· (repeat' (conv => whnf); (first | (with_reducible refine And.intro ?_ ?_) | (with_reducible exact True.intro) | (with_reducible exact Or.inl rfl) | (refine Vc.mk ?_; (first | (exact rfl) | (exact ⟨rfl, .inl rfl⟩) | omega | skip))))); (iterate 2 all_goals (try (repeat' (conv => whnf); (first | (with_reducible refine And.intro ?_ ?_) | (with_reducible exact True.intro) | (intro h; (first | (cases h) | ((first | (simp only [vis, Int.reduceToNat] at h) | skip); (try (exfalso; omega))))) | (with_reducible refine Vc.mk ?_; fail) | (with_reducible refine cutG ?_; fail) | (refine idx_map ?_ ?_) | (refine idx_mapI ?_ ?_ ?_) )))))))
    all_goals (try (refine Vc.mk ?_; (first | (exact rfl) | (decide) | omega | (unfold In64; omega) | (simp only [wrap_byte, Int.reduceToNat, Int.toNat_natCast, In64]; omega) | (simp only [maxLen, Fits, viewR, viewL, AV.view, List.length_map, List.length_append, List.length_cons, List.length_nil]; omega) | (simp [viewR, viewL, AV.view, ]; done) | skip)))
    all_goals (((try (conv => whnf)); refine ⟨[], rfl, rfl, ?_, ?_⟩); (repeat' (conv => whnf); (first | (with_reducible refine And.intro ?_ ?_) | (with_reducible exact True.intro) | (with_reducible exact Or.inl rfl) | (refine Vc.mk ?_; (first | (exact rfl) | (exact ⟨rfl, .inl rfl⟩) | omega | skip)))))
theorem topWay_walk (W : World) (v0 v1 : Value) (i0 : GStates W v0) (i1 : InInt W v1) :
    Calls Try.prog 8 #[v0, v1] W fun e w' => e = .returned (.bool true) ∧ Below W.heap.size W w' := by
  obtain ⟨l, _, hl⟩ := i0
  obtain ⟨r, rfl, _⟩ := i1
  exact fn_law (topWay_ok l r) W [_, _] ⟨hl, .v _ _, trivial⟩
end Go.Proofs.Ytimfnpjcedjmiab
