/-
  Package auto's faces, and the reference's table as a function.
-/
import Derived.Test.YtimfnpjcedjmiaaAutoTab
import Derived.Outline
import Derived.Deep.DeepCutAuto
namespace Go.Proofs.Ytimfnpjcedjmiaa
open Go.RowKit

theorem turnNext_ge (s e : Nat) (hs : s < 10) (he : e < 12) : -1 ≤ turnNext s e ∧ turnNext s e ≤ 9 := by
  have : ∀ e : Fin 12, ∀ s : Fin 10, -1 ≤ turnNext s e ∧ turnNext s e ≤ 9 := by decide
  exact this ⟨e, he⟩ ⟨s, hs⟩

/-- What Step answers of a state and an event that there are. -/
def stepV (s e : Nat) : Value := if turnNext s e = -1 then .tuple #[.string ByteArray.empty, .int .i64 0, errv 7] else .tuple #[.string (turnDo s e), .int .i64 (turnNext s e), .nilIface]
set_option maxHeartbeats 1000000 in
set_option maxRecDepth 100000 in
theorem step_any (s e : Int) (h0 : 0 ≤ s) (hs : s ≤ 9) (h1 : 0 ≤ e) (he : e ≤ 11) (w : World) :
    Calls Try.prog 56 #[.int .i64 s, .int .i64 e] w fun r w' => r = .returned (stepV s.toNat e.toNat) ∧ Below w.heap.size w w' := by
  have hc : (s < 6 ∧ ∀ w, Calls Try.prog 113 #[.int .i64 s, .int .i64 e] w fun r w' => r = .returned (.agg #[.string (turnDo s.toNat e.toNat), .int .i64 (turnNext s.toNat e.toNat)]) ∧ Below w.heap.size w w') ∨
      (6 ≤ s ∧ ∀ w, Calls Try.prog 114 #[.int .i64 s, .int .i64 e] w fun r w' => r = .returned (.agg #[.string (turnDo s.toNat e.toNat), .int .i64 (turnNext s.toNat e.toNat)]) ∧ Below w.heap.size w w') := by
    by_cases h : s < 6
    · exact .inl ⟨h, fun w => early_any s e h0 h h1 (by omega) w⟩
    · exact .inr ⟨by omega, fun w => late_any s e (by omega) (by omega) h1 (by omega) w⟩
  have hn := turnNext_ge s.toNat e.toNat (by omega) (by omega)
  unfold stepV
  rw [errv_pos (show (7 : Int) ≠ 0 by omega)]
  generalize turnDo s.toNat e.toNat = t at *
  generalize turnNext s.toNat e.toNat = n at *
  obtain ⟨hn1, hn2⟩ := hn
  rcases hc with ⟨h6, hc⟩ | ⟨h6, hc⟩
  all_goals
    by_cases hm : n = -1
    · subst hm
      rw [if_pos rfl]
      go_enter Try.func56, Try.ntmps56
      go_wp2_with (first | (go_at_call 113; (with_reducible refine (hc _).mono ?_); rintro e w' ⟨rfl, hb⟩; obtain ⟨exe, de, rfl⟩ := plus_of hb; clear hb) | (go_at_call 114; (with_reducible refine (hc _).mono ?_); rintro e w' ⟨rfl, hb⟩; obtain ⟨exe, de, rfl⟩ := plus_of hb; clear hb))
      go_ret3
      exact ⟨rfl, by repeat' (first | (with_reducible exact Below.refl _ _) | (with_reducible assumption) | (with_reducible refine Below.plus ?_ ?_ _ _) | (with_reducible refine Below.alloc ?_ ?_ _) | (with_reducible refine Below.drew ?_) | (with_reducible refine Below.drewN ?_ _) | (with_reducible refine Below.setCell ?_ ?_ _) | (with_reducible exact Nat.le_refl _) | omega | (simp; omega) | (simp; done))⟩
    · rw [if_neg hm]
      go_enter Try.func56, Try.ntmps56
      go_wp2_with (first | (go_at_call 113; (with_reducible refine (hc _).mono ?_); rintro e w' ⟨rfl, hb⟩; obtain ⟨exe, de, rfl⟩ := plus_of hb; clear hb) | (go_at_call 114; (with_reducible refine (hc _).mono ?_); rintro e w' ⟨rfl, hb⟩; obtain ⟨exe, de, rfl⟩ := plus_of hb; clear hb))
      (refine wp_region_quietp (by kernel_rfl) (by kernel_rfl) ?_; (repeat (go_big_quiet_step (fail))); refine wpQuiet_nil ?_; rintro _ ⟨⟨exq, dq⟩, rfl⟩; dsimp only)
      go_wp2
      go_ret3
      exact ⟨rfl, by repeat' (first | (with_reducible exact Below.refl _ _) | (with_reducible assumption) | (with_reducible refine Below.plus ?_ ?_ _ _) | (with_reducible refine Below.alloc ?_ ?_ _) | (with_reducible refine Below.drew ?_) | (with_reducible refine Below.drewN ?_ _) | (with_reducible refine Below.setCell ?_ ?_ _) | (with_reducible exact Nat.le_refl _) | omega | (simp; omega) | (simp; done))⟩
set_option maxRecDepth 100000 in
theorem timed_any (s : Int) (w : World) : Calls Try.prog 57 #[.int .i64 s] w fun r w' => r = .returned (.bool (decide (4 ≤ s) && decide (s ≤ 8))) ∧ w = w' := by
  by_cases h1 : 4 ≤ s
  · have h2 : decide (4 ≤ s) = true := by simpa using h1
    rw [h2, Bool.true_and]
    go_enter Try.func57, Try.ntmps57
    go_wp2
    all_goals go_returns
    all_goals first | exact ⟨rfl, rfl⟩ | exact ⟨by simp; omega, rfl⟩
  · have h2 : decide (4 ≤ s) = false := by simpa using h1
    rw [h2, Bool.false_and]
    go_enter Try.func57, Try.ntmps57
    go_wp2
    go_returns
    exact ⟨rfl, rfl⟩
set_option maxRecDepth 100000 in
theorem step_bound (s e : Int) (h : s < 0 ∨ 9 < s ∨ e < 0 ∨ 11 < e) (w : World) :
    Calls Try.prog 56 #[.int .i64 s, .int .i64 e] w fun r w' => r = .returned (.tuple #[.string ByteArray.empty, .int .i64 0, errv 1]) ∧ w = w' := by
  rw [errv_pos (by omega)]
  by_cases h1 : s < 0
  · clear h
    go_enter Try.func56, Try.ntmps56
    go_wp2
    go_ret3
    exact ⟨rfl, rfl⟩
  by_cases h2 : 9 < s
  · clear h
    go_enter Try.func56, Try.ntmps56
    go_wp2
    go_ret3
    exact ⟨rfl, rfl⟩
  by_cases h3 : e < 0
  · clear h
    go_enter Try.func56, Try.ntmps56
    go_wp2
    go_ret3
    exact ⟨rfl, rfl⟩
  have h4 : 11 < e := by omega
  clear h
  go_enter Try.func56, Try.ntmps56
  go_wp2
  go_ret3
  exact ⟨rfl, rfl⟩
end Go.Proofs.Ytimfnpjcedjmiaa
