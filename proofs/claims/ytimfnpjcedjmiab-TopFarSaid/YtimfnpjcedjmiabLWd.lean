/-
  Plain law: how far the best way may be.
-/
import Derived.Test.YtimfnpjcedjmiabLWc
import Derived.Test.YtimfnpjcedjmiabMWb0
namespace Go.Proofs.Ytimfnpjcedjmiab
set_option linter.unusedSimpArgs false
set_option linter.unusedVariables false
/-- The best way is no longer than six edges may be. -/
theorem best_few {M : Int → Int → Int} (hM : MOk M) {n : Int} : ∀ (k : Nat) (been : Int → Bool) (u d g : Int), freeN been ≤ k → nod u → Best M u n d g → (∀ x, been x = true → nod x → ∃ dx gx, Best M x n dx gx ∧ d < dx) → d ≤ 20 * (k : Int)
  | k, been, u, d, g, hk, hu, hb, hs => by
    have hnb : been u = false := by
      cases hx : been u with
      | false => rfl
      | true =>
        obtain ⟨dx, gx, h1, h2⟩ := hs u hx hu
        obtain ⟨e1, _⟩ := h1.uniq hb
        omega
    have hf := freeN_upd (been := been) (a := u) hu hnb
    have hm := hM.most u g
    obtain ⟨_, hg, hm0, ho⟩ := hb.first
    match k, hk with
    | 0, hk => omega
    | k + 1, hk =>
      rcases ho with ⟨_, e⟩ | ⟨_, d', g', h', e, h0⟩
      · omega
      · have := best_few hM k (upd been u true) g d' g' (by omega) hg h' (fun x hx hnx => by
          by_cases ex : x = u
          · subst ex
            exact ⟨d, g, hb, by omega⟩
          · rw [upd_ne _ _ ex] at hx
            obtain ⟨dx, gx, h1, h2⟩ := hs x hx hnx
            exact ⟨dx, gx, h1, by omega⟩)
        omega
theorem best_far {M : Int → Int → Int} (hM : MOk M) {r n d g : Int} (hr : nod r) (hb : Best M r n d g) : d ≤ 120 := by
  have := best_few hM 6 (fun _ => false) r d g (by have := freeN_le (fun _ => false); omega) hr hb (fun x h => by cases h)
  omega
end Go.Proofs.Ytimfnpjcedjmiab
