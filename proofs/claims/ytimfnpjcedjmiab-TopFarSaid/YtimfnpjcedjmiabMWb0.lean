/-
  Package ways: hops: words.
-/
import Derived.Test.YtimfnpjcedjmiabMWa
import Derived.Test.YtimfnpjcedjmiabGE
import Derived.Test.YtimfnpjcedjmiabLWb
namespace Go.Proofs.Ytimfnpjcedjmiab
open Go.RowKit
set_option linter.unusedSimpArgs false
set_option linter.unusedVariables false
noncomputable def hopsR (l : List St3) (r : Int) : List Hp := if 1 ≤ r ∧ r ≤ 6 then hopsM (met l) r else []
theorem Pick.keep {far : Int → Int} {done : Int → Bool} {m a : Int} (h : Pick far done m a) (hm : 1 ≤ m) (hk : done m = true ∨ far m < 0 ∨ (a ≠ 0 ∧ far a ≤ far m)) : Pick far done (m + 1) a := by
  rcases h with ⟨h0, h1⟩ | ⟨h1, h2, h3, h4, h5⟩
  · refine .inl ⟨h0, fun n hn hnm hd => ?_⟩
    by_cases e : n = m
    · subst e
      rcases hk with hk | hk | hk
      · rw [hk] at hd; cases hd
      · exact hk
      · exact absurd h0 hk.1
    · exact h1 n hn (by omega) hd
  · refine .inr ⟨h1, by omega, h3, h4, fun n hn hnm hd h0 => ?_⟩
    by_cases e : n = m
    · subst e
      rcases hk with hk | hk | hk
      · rw [hk] at hd; cases hd
      · omega
      · exact hk.2
    · exact h5 n hn (by omega) hd h0
theorem Pick.take {far : Int → Int} {done : Int → Bool} {m a : Int} (h : Pick far done m a) (hm : 1 ≤ m) (hd : done m = false) (h0 : 0 ≤ far m) (hl : a = 0 ∨ far m < far a) : Pick far done (m + 1) m := by
  refine .inr ⟨hm, by omega, hd, h0, fun n hn hnm hdn hn0 => ?_⟩
  by_cases e : n = m
  · subst e; omega
  · rcases h with ⟨g0, g1⟩ | ⟨g1, g2, g3, g4, g5⟩
    · have := g1 n hn (by omega) hdn; omega
    · have := g5 n hn (by omega) hdn hn0
      rcases hl with hl | hl <;> omega
def farC (f : Int → Int) : List AV := [.v (.int .i64 (f 0)), .v (.int .i64 (f 1)), .v (.int .i64 (f 2)), .v (.int .i64 (f 3)), .v (.int .i64 (f 4)), .v (.int .i64 (f 5)), .v (.int .i64 (f 6))]
def donC (f : Int → Bool) : List AV := [.v (.bool (f 0)), .v (.bool (f 1)), .v (.bool (f 2)), .v (.bool (f 3)), .v (.bool (f 4)), .v (.bool (f 5)), .v (.bool (f 6))]
theorem donC_eq {f g : Int → Bool} (h : f = g) : donC f = donC g := by rw [h]
theorem DInv.start {M : Int → Int → Int} {r : Int} (hr : nod r) : DInv M r (upd (fun _ => -1) r 0) (fun _ => 0) (fun _ => false) := by
  refine ⟨hr, upd_same _ _ _, fun _ n hn => ⟨rfl, fun h => by rw [upd_ne _ _ h]; decide⟩, fun n hn hne h0 => ?_, fun u hu hd => (by cases hd), fun u hu hd => (by cases hd)⟩
  rw [upd_ne _ _ hne] at h0; omega
theorem freeN_le (f : Int → Bool) : freeN f ≤ 6 := by
  unfold freeN
  exact List.countP_le_length
theorem DInv.hop {M : Int → Int → Int} {r : Int} {far next : Int → Int} {done : Int → Bool} (h : DInv M r far next done) (hend : ∀ n, nod n → done n = false → far n < 0) {n : Int} (hn : nod n) : hopAt M r n = if n ≠ r ∧ 0 ≤ far n then [(n, far n, next n)] else [] := by
  unfold hopAt
  by_cases e : n = r
  · subst e
    rw [hopV_self, if_neg (by simp)]
  · obtain ⟨h1, h2⟩ := h.best hend hn e
    by_cases h0 : 0 ≤ far n
    · rw [hopV_some (h1 h0), if_pos ⟨e, h0⟩]
    · rw [hopV_none (h2 h0), if_neg (by simp [h0])]
/-- Where the nearest one is looked for. -/
def pickA (l : List St3) (r : Int) (far next : Int → Int) (done : Int → Bool) (m a : Int) : AS := ⟨[(0, .sl 3 (l.map stRow) none), (1, .v (.int .i64 r)), (5, .box 0 0), (6, .box 1 0), (7, .box 2 0), (9, .v (.int .i64 a)), (10, .v (.int .i64 m))], [.cells (farC far), .cells (farC next), .cells (donC done)]⟩
/-- Where its edges are looked at. -/
def relA (l : List St3) (r a : Int) (done : Int → Bool) (m : Int) (far next : Int → Int) : AS := ⟨[(0, .sl 3 (l.map stRow) none), (1, .v (.int .i64 r)), (5, .box 0 0), (6, .box 1 0), (7, .box 2 0), (9, .v (.int .i64 a)), (11, .v (.int .i64 m))], [.cells (farC far), .cells (farC next), .cells (donC done)]⟩
end Go.Proofs.Ytimfnpjcedjmiab
