/-
  The statement AutoSays: any state, any event.
-/
import Derived.Test.YtimfnpjcedjmiaaAuto
import Derived.Test.YtimfnpjcedjmiaaTurn
import Derived.Test.YtimfnpjcedjmiaaOpen
namespace Go.Proofs.Ytimfnpjcedjmiaa
open Go.RowKit
theorem turn_facts : ∀ e : Fin 12, ∀ s : Fin 10, turnNext s e = -1 → turnDo s e = ByteArray.empty := by decide +kernel
set_option maxHeartbeats 2000000 in
set_option maxRecDepth 100000 in
theorem autoSays_walk (w : World) (v0 v1 : Value) (i0 : InInt w v0) (i1 : InInt w v1) :
    Calls Try.prog 8 #[v0, v1] w fun e w' => e = .returned (.bool true) ∧ Below w.heap.size w w' := by
  obtain ⟨s, rfl, _⟩ := i0
  obtain ⟨e, rfl, _⟩ := i1
  have hc := fun w => step_any 0 2 (by omega) (by omega) (by omega) (by omega) w
  have hcv : stepV (0 : Int).toNat (2 : Int).toNat = .tuple #[.string (turnDo 0 2), .int .i64 1, .nilIface] := by rfl
  have hcd : ((turnDo 0 2).toList == [115]) = true := by kernel_rfl
  rw [hcv] at hc
  have hct := fun w => timed_any s w
  generalize turnDo 0 2 = t0 at *
  have hs1 := fun w => same_err 1 1 (by omega) w
  have hs7 := fun w => same_err 7 7 (by omega) w
  simp only [beq_self_eq_true] at hs1 hs7
  clear hcv
  have hstep : ∃ (d : ByteArray) (n k : Int), 0 ≤ k ∧ (∀ w, Calls Try.prog 56 #[.int .i64 s, .int .i64 e] w fun r w' => r = .returned (.tuple #[.string d, .int .i64 n, errv k]) ∧ Below w.heap.size w w') ∧
      (((s < 0 ∨ 9 < s ∨ e < 0 ∨ 11 < e) ∧ d = ByteArray.empty ∧ n = 0 ∧ k = 1) ∨
       ∃ m, 0 ≤ s ∧ s ≤ 9 ∧ 0 ≤ e ∧ e ≤ 11 ∧ (∀ w, Calls Try.prog 58 #[.int .i64 s, .int .i64 e] w fun r w' => r = .returned (.tuple #[.string d, .int .i64 m]) ∧ Below w.heap.size w w') ∧ ((m = -1 ∧ n = 0 ∧ k = 7 ∧ d = ByteArray.empty) ∨ (0 ≤ m ∧ n = m ∧ k = 0))) := by
    by_cases hb : s < 0 ∨ 9 < s ∨ e < 0 ∨ 11 < e
    · exact ⟨ByteArray.empty, 0, 1, by omega, fun w => (step_bound s e hb w).mono fun r w' ⟨h1, h2⟩ => ⟨h1, h2 ▸ Below.refl _ _⟩, .inl ⟨hb, rfl, rfl, rfl⟩⟩
    · have h1 := fun w => step_any s e (by omega) (by omega) (by omega) (by omega) w
      have h2 := fun w => turn_any s e (by omega) (by omega) (by omega) (by omega) w
      have hn := turnNext_ge s.toNat e.toNat (by omega) (by omega)
      have hf := turn_facts ⟨e.toNat, by omega⟩ ⟨s.toNat, by omega⟩
      simp only at hf
      unfold stepV at h1
      unfold turnV at h2
      by_cases hm : turnNext s.toNat e.toNat = -1
      · rw [if_pos hm] at h1
        rw [hm, hf hm] at h2
        exact ⟨_, _, 7, by omega, h1, .inr ⟨-1, by omega, by omega, by omega, by omega, h2, .inl ⟨rfl, rfl, rfl, rfl⟩⟩⟩
      · rw [if_neg hm] at h1
        exact ⟨_, _, 0, by omega, h1, .inr ⟨_, by omega, by omega, by omega, by omega, h2, .inr ⟨by omega, rfl, rfl⟩⟩⟩
  obtain ⟨d, n, k, hk, hcs, hcase⟩ := hstep
  have HC := Lib.hid hcase
  clear hcase
  go_enter Try.func8, Try.ntmps8
  go_upto_region 5 with (first | (go_at_call 56; (with_reducible refine (hc _).mono ?_); rintro e w' ⟨rfl, hb⟩; obtain ⟨ex1, d1, rfl⟩ := plus_of hb; clear hb) | (go_at_call 56; (with_reducible refine (hcs _).mono ?_); rintro e w' ⟨rfl, hb⟩; obtain ⟨ex2, d2, rfl⟩ := plus_of hb; clear hb))
  go_cut [40] (fun b wr => b = .bool false ∧ Below w.heap.size w wr)
  case first =>
    by_cases h4 : 4 ≤ s
    · by_cases h8 : s ≤ 8
      · have e4 : decide (4 ≤ s) = true := by simpa using h4
        have e8 : decide (s ≤ 8) = true := by simpa using h8
        rw [e4, e8] at hct
        go_wp2_with (go_at_call 57; (with_reducible refine (hct _).mono ?_); rintro e w' ⟨rfl, rfl⟩)
        all_goals (go_meet; case rel => exact ⟨rfl, by repeat' (first | (with_reducible exact Below.refl _ _) | (with_reducible assumption) | (with_reducible refine Below.plus ?_ ?_ _ _) | (with_reducible refine Below.alloc ?_ ?_ _) | (with_reducible refine Below.drew ?_) | (with_reducible refine Below.drewN ?_ _) | (with_reducible refine Below.setCell ?_ ?_ _) | (with_reducible exact Nat.le_refl _) | omega | (simp; omega) | (simp; done))⟩)
      · have e4 : decide (4 ≤ s) = true := by simpa using h4
        have e8 : decide (s ≤ 8) = false := by simpa using h8
        rw [e4, e8] at hct
        go_wp2_with (go_at_call 57; (with_reducible refine (hct _).mono ?_); rintro e w' ⟨rfl, rfl⟩)
        all_goals (go_meet; case rel => exact ⟨rfl, by repeat' (first | (with_reducible exact Below.refl _ _) | (with_reducible assumption) | (with_reducible refine Below.plus ?_ ?_ _ _) | (with_reducible refine Below.alloc ?_ ?_ _) | (with_reducible refine Below.drew ?_) | (with_reducible refine Below.drewN ?_ _) | (with_reducible refine Below.setCell ?_ ?_ _) | (with_reducible exact Nat.le_refl _) | omega | (simp; omega) | (simp; done))⟩)
    · have e4 : decide (4 ≤ s) = false := by simpa using h4
      rw [e4] at hct
      go_wp2_with (go_at_call 57; (with_reducible refine (hct _).mono ?_); rintro e w' ⟨rfl, rfl⟩)
      all_goals (go_meet; case rel => exact ⟨rfl, by repeat' (first | (with_reducible exact Below.refl _ _) | (with_reducible assumption) | (with_reducible refine Below.plus ?_ ?_ _ _) | (with_reducible refine Below.alloc ?_ ?_ _) | (with_reducible refine Below.drew ?_) | (with_reducible refine Below.drewN ?_ _) | (with_reducible refine Below.setCell ?_ ?_ _) | (with_reducible exact Nat.le_refl _) | omega | (simp; omega) | (simp; done))⟩)
  case rest =>
    obtain ⟨rfl, hW⟩ := hcut
    have hs0 := hW.size
    clear hcs hc hct hcd
    rcases HC.out with ⟨hb, rfl, rfl, rfl⟩ | ⟨m, h1, h2, h3, h4, hct, hm⟩
    · by_cases b1 : s < 0
      · clear hb
        go_wp2_with (go_at_call 16; (with_reducible refine (hs1 _).mono ?_); rintro e w' ⟨rfl, rfl⟩)
        go_returns
        exact ⟨rfl, by repeat' (first | (with_reducible exact Below.refl _ _) | (with_reducible assumption) | (with_reducible refine Below.plus ?_ ?_ _ _) | (with_reducible refine Below.alloc ?_ ?_ _) | (with_reducible refine Below.drew ?_) | (with_reducible refine Below.drewN ?_ _) | (with_reducible refine Below.setCell ?_ ?_ _) | (with_reducible exact Nat.le_refl _) | omega | (simp; omega) | (simp; done))⟩
      by_cases b2 : 9 < s
      · clear hb
        go_wp2_with (go_at_call 16; (with_reducible refine (hs1 _).mono ?_); rintro e w' ⟨rfl, rfl⟩)
        go_returns
        exact ⟨rfl, by repeat' (first | (with_reducible exact Below.refl _ _) | (with_reducible assumption) | (with_reducible refine Below.plus ?_ ?_ _ _) | (with_reducible refine Below.alloc ?_ ?_ _) | (with_reducible refine Below.drew ?_) | (with_reducible refine Below.drewN ?_ _) | (with_reducible refine Below.setCell ?_ ?_ _) | (with_reducible exact Nat.le_refl _) | omega | (simp; omega) | (simp; done))⟩
      by_cases b3 : e < 0
      · clear hb
        go_wp2_with (go_at_call 16; (with_reducible refine (hs1 _).mono ?_); rintro e w' ⟨rfl, rfl⟩)
        go_returns
        exact ⟨rfl, by repeat' (first | (with_reducible exact Below.refl _ _) | (with_reducible assumption) | (with_reducible refine Below.plus ?_ ?_ _ _) | (with_reducible refine Below.alloc ?_ ?_ _) | (with_reducible refine Below.drew ?_) | (with_reducible refine Below.drewN ?_ _) | (with_reducible refine Below.setCell ?_ ?_ _) | (with_reducible exact Nat.le_refl _) | omega | (simp; omega) | (simp; done))⟩
      have b4 : 11 < e := by omega
      clear hb
      go_wp2_with (go_at_call 16; (with_reducible refine (hs1 _).mono ?_); rintro e w' ⟨rfl, rfl⟩)
      go_returns
      exact ⟨rfl, by repeat' (first | (with_reducible exact Below.refl _ _) | (with_reducible assumption) | (with_reducible refine Below.plus ?_ ?_ _ _) | (with_reducible refine Below.alloc ?_ ?_ _) | (with_reducible refine Below.drew ?_) | (with_reducible refine Below.drewN ?_ _) | (with_reducible refine Below.setCell ?_ ?_ _) | (with_reducible exact Nat.le_refl _) | omega | (simp; omega) | (simp; done))⟩
    · rcases hm with ⟨rfl, rfl, rfl, rfl⟩ | ⟨hm, rfl, rfl⟩
      · go_wp2_with (first | (go_at_call 58; (with_reducible refine (hct _).mono ?_); rintro e w' ⟨rfl, hb⟩; obtain ⟨ex1, d1, rfl⟩ := plus_of hb; clear hb) | (go_at_call 16; (with_reducible refine (hs7 _).mono ?_); rintro e w' ⟨rfl, rfl⟩))
        go_returns
        exact ⟨rfl, by repeat' (first | (with_reducible exact Below.refl _ _) | (with_reducible assumption) | (with_reducible refine Below.plus ?_ ?_ _ _) | (with_reducible refine Below.alloc ?_ ?_ _) | (with_reducible refine Below.drew ?_) | (with_reducible refine Below.drewN ?_ _) | (with_reducible refine Below.setCell ?_ ?_ _) | (with_reducible exact Nat.le_refl _) | omega | (simp; omega) | (simp; done))⟩
      · go_wp2_with (first | (go_at_call 58; (with_reducible refine (hct _).mono ?_); rintro e w' ⟨rfl, hb⟩; obtain ⟨ex1, d1, rfl⟩ := plus_of hb; clear hb) | (go_at_call 16; (with_reducible refine (hs7 _).mono ?_); rintro e w' ⟨rfl, rfl⟩))
        go_returns
        exact ⟨rfl, by repeat' (first | (with_reducible exact Below.refl _ _) | (with_reducible assumption) | (with_reducible refine Below.plus ?_ ?_ _ _) | (with_reducible refine Below.alloc ?_ ?_ _) | (with_reducible refine Below.drew ?_) | (with_reducible refine Below.drewN ?_ _) | (with_reducible refine Below.setCell ?_ ?_ _) | (with_reducible exact Nat.le_refl _) | omega | (simp; omega) | (simp; done))⟩
end Go.Proofs.Ytimfnpjcedjmiaa
