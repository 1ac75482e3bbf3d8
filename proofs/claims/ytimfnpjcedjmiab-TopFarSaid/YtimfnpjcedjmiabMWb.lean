/-
  Package ways: hops.
-/
import Derived.Test.YtimfnpjcedjmiabMWb1
import Derived.Test.YtimfnpjcedjmiabMWb2
import Derived.Test.YtimfnpjcedjmiabMWb3
import Derived.Test.YtimfnpjcedjmiabMWb4
import Derived.Test.YtimfnpjcedjmiabGF
namespace Go.Proofs.Ytimfnpjcedjmiab
open Go.RowKit
set_option linter.unusedSimpArgs false
set_option linter.unusedVariables false
def outS (l : List St3) (r : Int) (far next : Int → Int) (done : Int → Bool) : AS := ⟨[(0, .sl 3 (l.map stRow) none), (1, .v (.int .i64 r)), (5, .box 0 0), (6, .box 1 0), (7, .box 2 0)], [.cells (farC far), .cells (farC next), .cells (donC done)]⟩
set_option maxHeartbeats 64000000 in
set_option maxRecDepth 100000 in
theorem hops_ok (l : List St3) (r : Int) (hl : smallL l) (hM : MOk (met l)) : Fn Try.prog 27 [.sl 3 (l.map stRow) none, .v (.int .i64 r)] [] (.sl 3 ((hopsR l r).map hRow) none) [] := by
  have hex : ∃ o2 d2 y2 z2 o3 d3 y3 z3 o4 d4 y4 z4, (.seq (.seq (.region 13 o2 d2) y2) z2 : Code) = nthLoop Try.f27 2 ∧ (.seq (.seq (.region 20 o3 d3) y3) z3 : Code) = nthLoop Try.f27 3 ∧ (.seq (.seq (.region 31 o4 d4) y4) z4 : Code) = nthLoop Try.f27 4 ∧ Try.f27.body = some (reb [(13, .seq (.seq (.region 13 o2 d2) y2) z2), (20, .seq (.seq (.region 20 o3 d3) y3) z3), (31, .seq (.seq (.region 31 o4 d4) y4) z4)] (bodyOf Try.f27)) := ⟨_, _, _, _, _, _, _, _, _, _, _, _, rfl, rfl, rfl, by kernel_rfl⟩
  refine Exists.elim hex fun o2 hex => Exists.elim hex fun d2 hex => Exists.elim hex fun y2 hex => Exists.elim hex fun z2 hex => ?_
  refine Exists.elim hex fun o3 hex => Exists.elim hex fun d3 hex => Exists.elim hex fun y3 hex => Exists.elim hex fun z3 hex => ?_
  refine Exists.elim hex fun o4 hex => Exists.elim hex fun d4 hex => Exists.elim hex fun y4 hex => Exists.elim hex fun z4 hex => ?_
  have hc2 := hex.1
  have hc3 := hex.2.1
  have hc4 := hex.2.2.1
  have hcb := hex.2.2.2
  clear hex
  refine fn_of mixed [] [8, 11, 19] Try.func27 (hcb) (by decide +kernel) Try.ntmps27 rfl (congrArg Array.toList Try.results27) rfl (named_ok (hcb) (by decide +kernel)) ?_
  (iterate 2 all_goals (try (repeat' (conv => whnf); (first | (with_reducible refine And.intro ?_ ?_) | (with_reducible exact True.intro) | (intro h; (first | (cases h) | ((first | (simp only [vis, Int.reduceToNat] at h) | skip); (try (exfalso; omega))))) | (with_reducible refine Vc.mk ?_; fail) | (with_reducible refine cutG ?_; fail) | (refine idx_map ?_ ?_) | (refine idx_mapI ?_ ?_ ?_) ))))
  refine cutK ⟨[(0, .sl 3 (l.map stRow) none), (1, .v (.int .i64 r)), (5, .box 0 0), (6, .box 1 0), (7, .box 2 0)], [.cells (farC fun _ => -1), .cells (farC fun _ => 0), .cells (donC fun _ => false)]⟩ ?_ (fun hy => ?_)
  rotate_left
  · (iterate 2 all_goals (try (repeat' (conv => whnf); (first | (with_reducible refine And.intro ?_ ?_) | (with_reducible exact True.intro) | (intro h; (first | (cases h) | ((first | (simp only [vis, Int.reduceToNat] at h) | skip); (try (exfalso; omega))))) | (with_reducible refine Vc.mk ?_; fail) | (with_reducible refine cutG ?_; fail) | (refine idx_map ?_ ?_) | (refine idx_mapI ?_ ?_ ?_) ))))
    (conv => whnf)
    refine lpG (fun k : Nat => ⟨[(0, .sl 3 (l.map stRow) none), (1, .v (.int .i64 r)), (5, .box 0 0), (6, .box 1 0), (7, .box 2 0), (16, .v (.int .i64 k))], [.cells (farC fun i => if i < k then -1 else 0), .cells (farC fun _ => 0), .cells (donC fun _ => false)]⟩) (fun k => k ≤ 7) (fun k => 7 - k) 0 (by omega) (by (refine le_sub [0, 1, 2] rfl rfl ?_ ?_); all_goals (repeat' (conv => whnf); (first | (with_reducible refine And.intro ?_ ?_) | (with_reducible exact True.intro) | (with_reducible exact Or.inl rfl) | (refine Vc.mk ?_; (first | (exact rfl) | (exact ⟨rfl, .inl rfl⟩) | omega | skip))))) ?_
    rintro k hk
    by_cases hk7 : k < 7
    · skip
      obtain ⟨k', hk'⟩ : ∃ k', k' = k + 1 := ⟨_, rfl⟩
      clear hy
      refine or7 (by omega : k = 0 ∨ k = 1 ∨ k = 2 ∨ k = 3 ∨ k = 4 ∨ k = 5 ∨ k = 6) (fun ek => ?_) (fun ek => ?_) (fun ek => ?_) (fun ek => ?_) (fun ek => ?_) (fun ek => ?_) (fun ek => ?_)
      all_goals
        subst ek
        (iterate 2 all_goals (try (repeat' (conv => whnf); (first | (with_reducible refine And.intro ?_ ?_) | (with_reducible exact True.intro) | (intro h; (first | (cases h) | ((first | (simp only [vis, Int.reduceToNat] at h) | skip); (try (exfalso; omega))))) | (with_reducible refine Vc.mk ?_; fail) | (with_reducible refine cutG ?_; fail) | (refine idx_map ?_ ?_) | (refine idx_mapI ?_ ?_ ?_) | (refine StopAt.mk (by decide) (by decide) ?_)))))
        all_goals (try omega)
        all_goals (try (refine Vc.mk ?_; (first | (exact rfl) | (decide) | omega | (unfold In64; omega) | (simp only [wrap_byte, Int.reduceToNat, Int.toNat_natCast, In64]; omega) | (simp only [maxLen, Fits, viewR, viewL, AV.view, List.length_map, List.length_append, List.length_cons, List.length_nil]; omega) | (simp [viewR, viewL, AV.view, ]; done) | skip)))
        all_goals (refine nextG k' (by omega) (by omega) (by subst hk'; (refine le_sub [0, 1, 2] rfl rfl ?_ ?_); all_goals ((repeat' (conv => whnf); (first | (with_reducible refine And.intro ?_ ?_) | (with_reducible exact True.intro) | (with_reducible exact Or.inl rfl) | (refine Vc.mk ?_; (first | (exact rfl) | (exact ⟨rfl, .inl rfl⟩) | omega | skip)))); all_goals (try first | rfl | decide))))
    · have ek : k = 7 := by omega
      subst ek
      (iterate 2 all_goals (try (repeat' (conv => whnf); (first | (with_reducible refine And.intro ?_ ?_) | (with_reducible exact True.intro) | (intro h; (first | (cases h) | ((first | (simp only [vis, Int.reduceToNat] at h) | skip); (try (exfalso; omega))))) | (with_reducible refine Vc.mk ?_; fail) | (with_reducible refine cutG ?_; fail) | (refine idx_map ?_ ?_) | (refine idx_mapI ?_ ?_ ?_) ))))
      all_goals (try omega)
      exact ⟨_, by (refine le_sub [0, 1, 2] rfl rfl ?_ ?_); all_goals ((repeat' (conv => whnf); (first | (with_reducible refine And.intro ?_ ?_) | (with_reducible exact True.intro) | (with_reducible exact Or.inl rfl) | (refine Vc.mk ?_; (first | (exact rfl) | (exact ⟨rfl, .inl rfl⟩) | omega | skip)))); all_goals (try first | rfl | decide)), hy⟩
  by_cases hr : 1 ≤ r ∧ r ≤ 6
  · have hR : hopsR l r = hopsM (met l) r := by unfold hopsR; rw [if_pos hr]
    rw [hR]
    (iterate 2 all_goals (try (repeat' (conv => whnf); (first | (with_reducible refine And.intro ?_ ?_) | (with_reducible exact True.intro) | (intro h; (first | (cases h) | ((first | (simp only [vis, Int.reduceToNat] at h) | skip); (try (exfalso; omega))))) | (with_reducible refine Vc.mk ?_; fail) | (with_reducible refine cutG ?_; fail) | (refine idx_map ?_ ?_) | (refine idx_mapI ?_ ?_ ?_) ))))
    all_goals (try omega)
    refine cutK ⟨[(0, .sl 3 (l.map stRow) none), (1, .v (.int .i64 r)), (5, .box 0 0), (6, .box 1 0), (7, .box 2 0)], [.cells (farC (upd (fun _ => -1) r 0)), .cells (farC fun _ => 0), .cells (donC fun _ => false)]⟩ ?_ (fun hy => ?_)
    rotate_left
    · skip
      refine or6 (by omega : r = 1 ∨ r = 2 ∨ r = 3 ∨ r = 4 ∨ r = 5 ∨ r = 6) (fun er => ?_) (fun er => ?_) (fun er => ?_) (fun er => ?_) (fun er => ?_) (fun er => ?_)
      all_goals
        subst er
        (iterate 2 all_goals (try (repeat' (conv => whnf); (first | (with_reducible refine And.intro ?_ ?_) | (with_reducible exact True.intro) | (intro h; (first | (cases h) | ((first | (simp only [vis, Int.reduceToNat] at h) | skip); (try (exfalso; omega))))) | (with_reducible refine Vc.mk ?_; fail) | (with_reducible refine cutG ?_; fail) | (refine idx_map ?_ ?_) | (refine idx_mapI ?_ ?_ ?_) | (refine StopAt.mk (by decide) (by decide) ?_)))))
        exact ⟨_, by (refine le_sub [0, 1, 2] rfl rfl ?_ ?_); all_goals ((repeat' (conv => whnf); (first | (with_reducible refine And.intro ?_ ?_) | (with_reducible exact True.intro) | (with_reducible exact Or.inl rfl) | (refine Vc.mk ?_; (first | (exact rfl) | (exact ⟨rfl, .inl rfl⟩) | omega | skip)))); all_goals (try first | rfl | decide)), hy⟩
    have hrn : nod r := hr
    (conv => whnf)
    refine lpG3 (outS l r)
      (fun far next done => DInv (met l) r far next done ∧ ∀ n, nod n → far n ≤ 20 * (6 - freeN done)) (fun far next done => freeN done) _ _ _ ⟨DInv.start hrn, fun n hn => ?_⟩ (AS.le_refl _ _) ?_
    · have := freeN_le (fun _ => false)
      show upd (fun _ => (-1 : Int)) r 0 n ≤ 20 * (6 - freeN (fun _ => false))
      by_cases e : n = r
      · rw [e, upd_same]; omega
      · rw [upd_ne _ _ e]; omega
    intro far next done hq
    have hD := hq.1
    have hB := hq.2
    clear hq
    have hfr := freeN_le done
    (iterate 2 all_goals (try (repeat' (conv => whnf); (first | (with_reducible refine And.intro ?_ ?_) | (with_reducible exact True.intro) | (intro h; (first | (cases h) | ((first | (simp only [vis, Int.reduceToNat] at h) | skip); (try (exfalso; omega))))) | (with_reducible refine Vc.mk ?_; fail) | (with_reducible refine cutG ?_; fail) | (refine idx_map ?_ ?_) | (refine idx_mapI ?_ ?_ ?_) ))))
    (conv => whnf)
    refine lpG2 (fun m a => pickA l r far next done m a)
      (fun m a => 1 ≤ m ∧ m ≤ 7 ∧ Pick far done m a) (fun m a => (7 - m).toNat) 1 0 ⟨by decide, by decide, .inl ⟨rfl, fun n h1 h2 => by omega⟩⟩ ?_ ?_
    · (refine le_sub [0, 1, 2] rfl rfl ?_ ?_); all_goals ((repeat' (conv => whnf); (first | (with_reducible refine And.intro ?_ ?_) | (with_reducible exact True.intro) | (with_reducible exact Or.inl rfl) | (refine Vc.mk ?_; (first | (exact rfl) | (exact ⟨rfl, .inl rfl⟩) | omega | skip)))); all_goals rfl)
    intro m a hq
    have hm1 := hq.1
    have hm7 := hq.2.1
    have hP := hq.2.2
    clear hq
    by_cases hm : m ≤ 6
    · have ha : a = 0 ∨ (1 ≤ a ∧ a < m) := by
        rcases hP with ⟨h, _⟩ | ⟨h, h2, _⟩
        · exact .inl h
        · exact .inr ⟨h, h2⟩
      refine vawp_as (P := Try.prog) (mt := []) (cuts := [8, 11, 19]) hc2 (pick_round l r far next done m a hm1 hm ha _ _ _ ?_ ?_)
      · intro h A hle
        exact nextG2 (m + 1) a ⟨by omega, by omega, hP.keep hm1 h⟩ (by omega) hle
      · intro h1 h2 h3 A hle
        exact nextG2 (m + 1) m ⟨by omega, by omega, hP.take hm1 h1 h2 h3⟩ (by omega) hle
    · have em : m = 7 := by omega
      subst em
      refine vawp_as (P := Try.prog) (mt := []) (cuts := [8, 11, 19]) hc2 ?_
      by_cases ha : a = 0
      · subst ha
        have hend : ∀ n, nod n → done n = false → far n < 0 := by
          rcases hP with ⟨_, h⟩ | ⟨h, _⟩
          · exact fun n hn hd => h n hn.1 (by have := hn.2; omega) hd
          · omega
        have hhop := fun n hn => hD.hop hend (n := n) hn
        have hsucc : ∀ k, hopsTo (met l) r (k + 1) = hopsTo (met l) r k ++ hopAt (met l) r ((k : Int) + 1) := fun k => rfl
        have hlen := hopsTo_len (met l) r
        clear hD hB hP
        (iterate 2 all_goals (try (repeat' (conv => whnf); (first | (with_reducible refine And.intro ?_ ?_) | (with_reducible exact True.intro) | (intro h; (first | (cases h) | ((first | (simp only [vis, Int.reduceToNat] at h) | skip); (try (exfalso; omega))))) | (with_reducible refine Vc.mk ?_; fail) | (with_reducible refine cutG ?_; fail) | (refine idx_map ?_ ?_) | (refine idx_mapI ?_ ?_ ?_) ))))
        all_goals (try omega)
        (conv => whnf)
        refine lpG (fun k : Nat => outA r far next (hopsTo (met l) r k) ((k : Int) + 1)) (fun k => k ≤ 6) (fun k => 6 - k) 0 (by omega) (by
          refine AS.le_trans (le_nil 14 62 3 rfl) ?_
          (refine le_sub [0, 1, 3] rfl rfl ?_ ?_); all_goals ((repeat' (conv => whnf); (first | (with_reducible refine And.intro ?_ ?_) | (with_reducible exact True.intro) | (with_reducible exact Or.inl rfl) | (refine Vc.mk ?_; (first | (exact rfl) | (exact ⟨rfl, .inl rfl⟩) | omega | skip)))); all_goals (try rfl))) ?_
        rintro k hk
        by_cases hk6 : k < 6
        · have hS := hsucc k
          rw [hhop _ ⟨by omega, by omega⟩] at hS
          have hl2 := hlen k
          refine vawp_as (P := Try.prog) (mt := []) (cuts := [8, 11, 19]) hc4 (out_round r far next (hopsTo (met l) r k) (by omega) ((k : Int) + 1) (by omega) (by omega) _ _ _ ?_)
          intro A hle
          exact nextG (k + 1) (by omega) (by omega) (by rw [hS]; exact hle)
        · have ek : k = 6 := by omega
          subst ek
          refine vawp_as (P := Try.prog) (mt := []) (cuts := [8, 11, 19]) hc4 ?_
          (iterate 2 all_goals (try (repeat' (conv => whnf); (first | (with_reducible refine And.intro ?_ ?_) | (with_reducible exact True.intro) | (intro h; (first | (cases h) | ((first | (simp only [vis, Int.reduceToNat] at h) | skip); (try (exfalso; omega))))) | (with_reducible refine Vc.mk ?_; fail) | (with_reducible refine cutG ?_; fail) | (refine idx_map ?_ ?_) | (refine idx_mapI ?_ ?_ ?_) ))))
          all_goals (try omega)
          ((try (conv => whnf)); refine ⟨[], rfl, rfl, ?_, ?_⟩); (repeat' (conv => whnf); (first | (with_reducible refine And.intro ?_ ?_) | (with_reducible exact True.intro) | (with_reducible exact Or.inl rfl) | (refine Vc.mk ?_; (first | (exact rfl) | (exact ⟨rfl, .inl rfl⟩) | omega | skip))))
          all_goals rfl
      · have hR0 := RInv.start hD hP ha
        have ha16 : 1 ≤ a ∧ a ≤ 6 ∧ done a = false := by
          rcases hP with ⟨h, _⟩ | ⟨h, h2, h3, _⟩
          · exact absurd h ha
          · exact ⟨h, by omega, h3⟩
        have hfu := freeN_upd (been := done) (a := a) ⟨ha16.1, ha16.2.1⟩ ha16.2.2
        have hB1 : ∀ n, nod n → far n ≤ 20 * (6 - freeN (upd done a true)) := fun n hn => by have := hB n hn; omega
        have hB2 : far a ≤ 20 * (6 - freeN (upd done a true)) - 20 := by have := hB a ⟨ha16.1, ha16.2.1⟩; omega
        have hfr2 := freeN_le (upd done a true)
        have hex : ∃ dn, dn = upd done a true ∧ RInv (met l) r a 1 far next dn ∧ freeN dn + 1 = freeN done ∧ (∀ n, nod n → far n ≤ 20 * (6 - freeN dn)) ∧ far a ≤ 20 * (6 - freeN dn) - 20 ∧ freeN dn ≤ 6 := ⟨_, rfl, hR0, hfu, hB1, hB2, hfr2⟩
        clear hR0 hfu hB1 hB2 hfr2 hB hP hD
        refine Exists.elim hex fun dn hex => ?_
        have hdn := hex.1
        have hR0 := hex.2.1
        have hfu := hex.2.2.1
        have hB1 := hex.2.2.2.1
        have hB2 := hex.2.2.2.2.1
        have hfr2 := hex.2.2.2.2.2
        clear hex
        have hmet := fun m => metric_ok l a m hl
        have hMp := fun m => hM.pos a m
        have hMm := fun m => hM.most a m
        (iterate 2 all_goals (try (repeat' (conv => whnf); (first | (with_reducible refine And.intro ?_ ?_) | (with_reducible exact True.intro) | (intro h; (first | (cases h) | ((first | (simp only [vis, Int.reduceToNat] at h) | skip); (try (exfalso; omega))))) | (with_reducible refine Vc.mk ?_; fail) | (with_reducible refine cutG ?_; fail) | (refine idx_map ?_ ?_) | (refine idx_mapI ?_ ?_ ?_) ))))
        all_goals (try omega)
        refine cutK ⟨[(0, .sl 3 (l.map stRow) none), (1, .v (.int .i64 r)), (5, .box 0 0), (6, .box 1 0), (7, .box 2 0), (9, .v (.int .i64 a))], [.cells (farC far), .cells (farC next), .cells (donC dn)]⟩ ?_ (fun hy => ?_)
        rotate_left
        · clear hR0 hfu hB1 hB2 hmet hMp hMm
          refine or6 (by omega : a = 1 ∨ a = 2 ∨ a = 3 ∨ a = 4 ∨ a = 5 ∨ a = 6) (fun ea => ?_) (fun ea => ?_) (fun ea => ?_) (fun ea => ?_) (fun ea => ?_) (fun ea => ?_)
          all_goals
            subst ea
            (iterate 2 all_goals (try (repeat' (conv => whnf); (first | (with_reducible refine And.intro ?_ ?_) | (with_reducible exact True.intro) | (intro h; (first | (cases h) | ((first | (simp only [vis, Int.reduceToNat] at h) | skip); (try (exfalso; omega))))) | (with_reducible refine Vc.mk ?_; fail) | (with_reducible refine cutG ?_; fail) | (refine idx_map ?_ ?_) | (refine idx_mapI ?_ ?_ ?_) | (refine StopAt.mk (by decide) (by decide) ?_)))))
            exact ⟨_, by (refine le_sub [0, 1, 2] rfl rfl ?_ ?_); all_goals ((repeat' (conv => whnf); (first | (with_reducible refine And.intro ?_ ?_) | (with_reducible exact True.intro) | (with_reducible exact Or.inl rfl) | (refine Vc.mk ?_; (first | (exact rfl) | (exact ⟨rfl, .inl rfl⟩) | omega | skip)))); all_goals (try first | rfl | (rw [hdn]; rfl))), hy⟩
        (conv => whnf)
        refine lpG3 (fun m f g => relA l r a dn m f g)
          (fun m f g => 1 ≤ m ∧ m ≤ 7 ∧ RInv (met l) r a m f g dn ∧ (∀ n, nod n → f n ≤ 20 * (6 - freeN dn)) ∧ f a ≤ 20 * (6 - freeN dn) - 20) (fun m f g => (7 - m).toNat) 1 far next ⟨Int.le_refl 1, (by show (1 : Int) ≤ 7; decide), hR0, hB1, hB2⟩ (by (refine le_sub [0, 1, 2] rfl rfl ?_ ?_); all_goals ((repeat' (conv => whnf); (first | (with_reducible refine And.intro ?_ ?_) | (with_reducible exact True.intro) | (with_reducible exact Or.inl rfl) | (refine Vc.mk ?_; (first | (exact rfl) | (exact ⟨rfl, .inl rfl⟩) | omega | skip)))); all_goals (try rfl))) ?_
        intro m f g hq
        have hm1 := hq.1
        have hm7 := hq.2.1
        have hR := hq.2.2.1
        have hC1 := hq.2.2.2.1
        have hC2 := hq.2.2.2.2
        clear hq hR0 hB1 hB2
        by_cases hm6 : m ≤ 6
        · have hmn : nod m := ⟨hm1, hm6⟩
          have hCm := hC1 m hmn
          have hap := hR.apos
          have had := hR.adone
          have hmet' := hmet m
          have hMp' := hMp m
          have hMm' := hMm m
          have hCt : dn m = false → (∀ n, nod n → upd f m (f a + met l a m) n ≤ 20 * (6 - freeN dn)) ∧ upd f m (f a + met l a m) a ≤ 20 * (6 - freeN dn) - 20 := by
            intro hdm
            constructor
            · intro n hn
              by_cases e : n = m
              · subst e; rw [upd_same]; omega
              · rw [upd_ne _ _ e]; exact hC1 n hn
            · have e : a ≠ m := by rintro rfl; rw [had] at hdm; cases hdm
              rw [upd_ne _ _ e]; exact hC2
          have hk : ((met l a m = 0 ∨ dn m = true) ∨ (0 ≤ f m ∧ lx (f m) (g m) (f a + met l a m) (byOf r a m g))) → RInv (met l) r a (m + 1) f g dn := by
            rintro (h | ⟨h, h'⟩)
            · exact hR.skip hM h hmn
            · exact hR.keep hmn h h'
          have ht : met l a m ≠ 0 → dn m = false → (f m < 0 ∨ lx (f a + met l a m) (byOf r a m g) (f m) (g m)) → RInv (met l) r a (m + 1) (upd f m (f a + met l a m)) (upd g m (byOf r a m g)) dn := fun h1 h2 h3 => hR.take hmn (by omega) h2 h3
          have hby1 : a = r → byOf r a m g = m := fun e => by unfold byOf; rw [if_pos e]
          have hby2 : a ≠ r → byOf r a m g = g a := fun e => by unfold byOf; rw [if_neg e]
          by_cases ha3 : a ≤ 3
          · refine vawp_as (P := Try.prog) (mt := []) (cuts := [8, 11, 19]) hc3 (rel_roundA l r a hl f g dn m hm1 hm6 ha16.1 ha3 hap (by omega) hMp' hMm' (byOf r a m g) hby1 hby2 _ _ _ ?_ ?_)
            · intro h A hle
              exact nextG3 (m + 1) f g ⟨by omega, by omega, hk h, hC1, hC2⟩ (by omega) hle
            · intro h1 h2 h3 A hle
              exact nextG3 (m + 1) _ _ ⟨by omega, by omega, ht h1 h2 h3, (hCt h2).1, (hCt h2).2⟩ (by omega) hle
          · refine vawp_as (P := Try.prog) (mt := []) (cuts := [8, 11, 19]) hc3 (rel_roundB l r a hl f g dn m hm1 hm6 (by omega) ha16.2.1 hap (by omega) hMp' hMm' (byOf r a m g) hby1 hby2 _ _ _ ?_ ?_)
            · intro h A hle
              exact nextG3 (m + 1) f g ⟨by omega, by omega, hk h, hC1, hC2⟩ (by omega) hle
            · intro h1 h2 h3 A hle
              exact nextG3 (m + 1) _ _ ⟨by omega, by omega, ht h1 h2 h3, (hCt h2).1, (hCt h2).2⟩ (by omega) hle
        · have em : m = 7 := by omega
          subst em
          refine vawp_as (P := Try.prog) (mt := []) (cuts := [8, 11, 19]) hc3 ?_
          (iterate 2 all_goals (try (repeat' (conv => whnf); (first | (with_reducible refine And.intro ?_ ?_) | (with_reducible exact True.intro) | (intro h; (first | (cases h) | ((first | (simp only [vis, Int.reduceToNat] at h) | skip); (try (exfalso; omega))))) | (with_reducible refine Vc.mk ?_; fail) | (with_reducible refine cutG ?_; fail) | (refine idx_map ?_ ?_) | (refine idx_mapI ?_ ?_ ?_) ))))
          all_goals (try omega)
          refine nextG3 f g dn ⟨hR.done, hC1⟩ (by omega) (by (refine le_sub [0, 1, 2] rfl rfl ?_ ?_); all_goals ((repeat' (conv => whnf); (first | (with_reducible refine And.intro ?_ ?_) | (with_reducible exact True.intro) | (with_reducible exact Or.inl rfl) | (refine Vc.mk ?_; (first | (exact rfl) | (exact ⟨rfl, .inl rfl⟩) | omega | skip)))); all_goals (try rfl)))
  · have hR : hopsR l r = [] := by unfold hopsR; rw [if_neg hr]
    rw [hR]
    (iterate 2 all_goals (try (repeat' (conv => whnf); (first | (with_reducible refine And.intro ?_ ?_) | (with_reducible exact True.intro) | (intro h; (first | (cases h) | ((first | (simp only [vis, Int.reduceToNat] at h) | skip); (try (exfalso; omega))))) | (with_reducible refine Vc.mk ?_; fail) | (with_reducible refine cutG ?_; fail) | (refine idx_map ?_ ?_) | (refine idx_mapI ?_ ?_ ?_) ))))
    all_goals (try omega)
    all_goals (((try (conv => whnf)); refine ⟨[], rfl, rfl, ?_, ?_⟩); (repeat' (conv => whnf); (first | (with_reducible refine And.intro ?_ ?_) | (with_reducible exact True.intro) | (with_reducible exact Or.inl rfl) | (refine Vc.mk ?_; (first | (exact rfl) | (exact ⟨rfl, .inl rfl⟩) | omega | skip)))))
end Go.Proofs.Ytimfnpjcedjmiab
