/-
  Package hello and the reference's like: what each function computes.
-/
import Derived.Test.YtimfnpjcedjmiaaBase
namespace Go.Proofs.Ytimfnpjcedjmiaa
open Go.RowKit

structure MHello where
  fr : Int
  sn : Int
def MHello.v (h : MHello) : Value := .agg #[.int .i64 h.fr, .int .i64 h.sn]
structure MPeer where
  who : Int
  both : Bool
  left : Int
def MPeer.v (p : MPeer) : Value := .agg #[.int .i64 p.who, .bool p.both, .int .i64 p.left]
def MPeer.no : MPeer := ⟨0, false, 0⟩
def MPeer.hear (me : Int) (h : MHello) : MPeer := if h.fr = me then .no else ⟨h.fr, h.sn == me, 4⟩
def MPeer.tick (p : MPeer) : MPeer := if p.left ≤ 1 then .no else ⟨p.who, p.both, p.left - 1⟩
def helloOk (h : MHello) : Bool := decide (1 ≤ h.fr) && decide (h.fr ≤ 6) && decide (0 ≤ h.sn) && decide (h.sn ≤ 6)
def helloStr (h : MHello) : ByteArray := strOfNums [h.fr, h.sn]

set_option maxRecDepth 100000 in
theorem hear_any (p : MPeer) (me : Int) (h : MHello) (w : World) :
    Calls Try.prog 18 #[p.v, .int .i64 me, h.v] w fun e w' => e = .returned (MPeer.hear me h).v ∧ Below w.heap.size w w' := by
  obtain ⟨wh, b, lf⟩ := p
  obtain ⟨fr, sn⟩ := h
  simp only [MPeer.v, MHello.v, MPeer.hear]
  by_cases hh : fr = me
  · rw [if_pos hh]
    go_enter Try.func18, Try.ntmps18
    go_wp2
    go_returns
    exact ⟨rfl, by go_grown⟩
  · rw [if_neg hh]
    go_enter Try.func18, Try.ntmps18
    go_wp2
    go_returns
    exact ⟨rfl, by go_grown⟩
set_option maxRecDepth 100000 in
theorem rhear_any (p : MPeer) (me : Int) (h : MHello) (w : World) :
    Calls Try.prog 19 #[p.v, .int .i64 me, h.v] w fun e w' => e = .returned (MPeer.hear me h).v ∧ Below w.heap.size w w' := by
  obtain ⟨wh, b, lf⟩ := p
  obtain ⟨fr, sn⟩ := h
  simp only [MPeer.v, MHello.v, MPeer.hear]
  by_cases hh : fr = me
  · rw [if_pos hh]
    go_enter Try.func19, Try.ntmps19
    go_wp2
    go_returns
    exact ⟨rfl, by go_grown⟩
  · rw [if_neg hh]
    go_enter Try.func19, Try.ntmps19
    go_wp2
    go_returns
    exact ⟨rfl, by go_grown⟩
set_option maxRecDepth 100000 in
theorem ptick_any (p : MPeer) (w : World) (h0 : 0 ≤ p.left) (h4 : p.left ≤ 4) :
    Calls Try.prog 20 #[p.v] w fun e w' => e = .returned p.tick.v ∧ Below w.heap.size w w' := by
  obtain ⟨wh, b, lf⟩ := p
  simp only [MPeer.v, MPeer.tick] at *
  by_cases hh : lf ≤ 1
  · rw [if_pos hh]
    go_enter Try.func20, Try.ntmps20
    go_wp2
    go_returns
    exact ⟨rfl, by go_grown⟩
  · rw [if_neg hh]
    go_enter Try.func20, Try.ntmps20
    go_wp2
    go_returns
    exact ⟨rfl, by go_grown⟩
set_option maxRecDepth 100000 in
theorem rptick_any (p : MPeer) (w : World) (h0 : 0 ≤ p.left) (h4 : p.left ≤ 4) :
    Calls Try.prog 21 #[p.v] w fun e w' => e = .returned p.tick.v ∧ Below w.heap.size w w' := by
  obtain ⟨wh, b, lf⟩ := p
  simp only [MPeer.v, MPeer.tick] at *
  by_cases hh : lf ≤ 1
  · rw [if_pos hh]
    go_enter Try.func21, Try.ntmps21
    go_wp2
    go_returns
    exact ⟨rfl, by go_grown⟩
  · rw [if_neg hh]
    go_enter Try.func21, Try.ntmps21
    go_wp2
    go_returns
    exact ⟨rfl, by go_grown⟩
set_option maxRecDepth 100000 in
theorem says_any (p : MPeer) (me : Int) (w : World) :
    Calls Try.prog 22 #[p.v, .int .i64 me] w fun e w' => e = .returned (MHello.mk me p.who).v ∧ Below w.heap.size w w' := by
  obtain ⟨wh, b, lf⟩ := p
  simp only [MPeer.v, MHello.v]
  go_enter Try.func22, Try.ntmps22
  go_wp2
  go_returns
  exact ⟨rfl, by go_grown⟩
set_option maxRecDepth 100000 in
theorem hbytes_good (h : MHello) (w : World) (hk : helloOk h = true) :
    Calls Try.prog 17 #[h.v] w fun e w' => e = .returned (.tuple #[.string (helloStr h), .nilIface]) ∧ Below w.heap.size w w' := by
  obtain ⟨f, s⟩ := h
  simp only [helloOk, MHello.v, helloStr, Bool.and_eq_true, decide_eq_true_eq] at *
  obtain ⟨⟨⟨h1, h2⟩, h3⟩, h4⟩ := hk
  have hc := conv_two
  by_cases h5 : s = 0
  · subst h5
    go_enter Try.func17, Try.ntmps17
    go_wp2
    go_returns
    exact ⟨rfl, by go_grown⟩
  · have h6 : 1 ≤ s := by omega
    have h7 : (s != 0) = true := by simpa using h5
    go_enter Try.func17, Try.ntmps17
    go_wp2
    go_returns
    exact ⟨rfl, by go_grown⟩
set_option maxRecDepth 100000 in
theorem hbytes_bad (h : MHello) (w : World) (hk : helloOk h = false) :
    Calls Try.prog 17 #[h.v] w fun e w' => e = .returned (.tuple #[.string ByteArray.empty, errv 1]) ∧ Below w.heap.size w w' := by
  obtain ⟨f, s⟩ := h
  simp only [helloOk, MHello.v, Bool.and_eq_false_iff, decide_eq_false_iff_not] at *
  rw [errv_pos (by omega)]
  by_cases h1 : f < 1
  · clear hk
    go_enter Try.func17, Try.ntmps17
    go_wp2
    go_returns
    exact ⟨rfl, by go_grown⟩
  by_cases h2 : 6 < f
  · clear hk
    go_enter Try.func17, Try.ntmps17
    go_wp2
    go_returns
    exact ⟨rfl, by go_grown⟩
  have h5 : (s != 0) = true := by rw [bne_iff_ne]; omega
  by_cases h3 : s < 1
  · clear hk
    go_enter Try.func17, Try.ntmps17
    go_wp2
    go_returns
    exact ⟨rfl, by go_grown⟩
  have h4 : 6 < s := by omega
  have h6 : decide (s ≤ 6) = false := by simpa using h4
  clear hk
  go_enter Try.func17, Try.ntmps17
  go_wp2
  go_returns
  exact ⟨rfl, by go_grown⟩

/-- A hello out of bytes. -/
def helloOf (s : ByteArray) : Option MHello :=
  match s.data.toList with
  | [a, b] => let h : MHello := ⟨a.toNat, b.toNat⟩; if helloOk h then some h else none
  | _ => none
def helloZ : MHello := ⟨0, 0⟩
theorem helloOf_len {s : ByteArray} (h : s.size ≠ 2) : helloOf s = none := by
  unfold helloOf
  split
  · rename_i a b he
    exact absurd (by rw [← ByteArray.size_data, ← Array.length_toList, he]; rfl) h
  · rfl
theorem helloOf_two {s : ByteArray} (h : s.size = 2) : helloOf s = (let m : MHello := ⟨(s[0]'(by omega)).toNat, (s[1]'(by omega)).toNat⟩; if helloOk m then some m else none) := by
  obtain ⟨⟨l⟩⟩ := s
  match l, h with
  | [a, b], _ => rfl
set_option maxRecDepth 100000 in
theorem hparse_good (s : ByteArray) (h : MHello) (w : World) (hs : helloOf s = some h) :
    Calls Try.prog 14 #[.string s] w fun e w' => e = .returned (.tuple #[h.v, .nilIface]) ∧ Below w.heap.size w w' := by
  by_cases h2 : s.size = 2
  · rw [helloOf_two h2] at hs
    dsimp only at hs
    have h0 : 0 < s.size := by omega
    have h1 : 1 < s.size := by omega
    split at hs
    · rename_i hok
      obtain rfl := Option.some.inj hs
      have b0 := s[0].toNat_lt
      have b1 := s[1].toNat_lt
      have HC := fun w => hbytes_good ⟨s[0].toNat, s[1].toNat⟩ w hok
      clear hok hs
      simp only [MHello.v] at *
      go_enter Try.func14, Try.ntmps14
      go_wp2
      go_region
      all_goals go_wp2_with (go_at_call 17; refine (HC _).mono ?_; rintro e w' ⟨rfl, hb⟩; obtain ⟨ex, d, rfl⟩ := plus_of hb; clear hb)
      all_goals go_returns
      all_goals exact ⟨rfl, by repeat' (first | (with_reducible exact Below.refl _ _) | (with_reducible assumption) | (with_reducible refine Below.plus ?_ ?_ _ _) | (with_reducible refine Below.alloc ?_ ?_ _) | (with_reducible refine Below.drew ?_) | (with_reducible refine Below.drewN ?_ _) | (with_reducible refine Below.setCell ?_ ?_ _) | (with_reducible exact Nat.le_refl _) | omega | (simp; omega) | (simp; done))⟩
    · exact absurd hs (by simp)
  · rw [helloOf_len h2] at hs
    exact absurd hs (by simp)
set_option maxRecDepth 100000 in
theorem hparse_bad (s : ByteArray) (w : World) (hs : helloOf s = none) :
    Calls Try.prog 14 #[.string s] w fun e w' => e = .returned (.tuple #[helloZ.v, errv 4]) ∧ Below w.heap.size w w' := by
  rw [errv_pos (by omega)]
  simp only [MHello.v, helloZ]
  by_cases h2 : s.size = 2
  · rw [helloOf_two h2] at hs
    dsimp only at hs
    have h0 : 0 < s.size := by omega
    have h1 : 1 < s.size := by omega
    split at hs
    · exact absurd hs (by simp)
    · rename_i hok
      have b0 := s[0].toNat_lt
      have b1 := s[1].toNat_lt
      have HC := fun w => hbytes_bad ⟨s[0].toNat, s[1].toNat⟩ w (by simpa using hok)
      clear hok hs
      simp only [MHello.v, errv_pos (show (1 : Int) ≠ 0 by omega)] at *
      go_enter Try.func14, Try.ntmps14
      go_wp2
      go_region
      all_goals go_wp2_with (go_at_call 17; refine (HC _).mono ?_; rintro e w' ⟨rfl, hb⟩; obtain ⟨ex, d, rfl⟩ := plus_of hb; clear hb)
      all_goals go_returns
      all_goals exact ⟨rfl, by repeat' (first | (with_reducible exact Below.refl _ _) | (with_reducible assumption) | (with_reducible refine Below.plus ?_ ?_ _ _) | (with_reducible refine Below.alloc ?_ ?_ _) | (with_reducible refine Below.drew ?_) | (with_reducible refine Below.drewN ?_ _) | (with_reducible refine Below.setCell ?_ ?_ _) | (with_reducible exact Nat.le_refl _) | omega | (simp; omega) | (simp; done))⟩
  · have h3 : ¬ (s.size : Int) = 2 := by omega
    go_enter Try.func14, Try.ntmps14
    go_wp2
    go_returns
    exact ⟨rfl, by repeat' (first | (with_reducible exact Below.refl _ _) | (with_reducible assumption) | (with_reducible refine Below.plus ?_ ?_ _ _) | (with_reducible refine Below.alloc ?_ ?_ _) | (with_reducible refine Below.drew ?_) | (with_reducible refine Below.drewN ?_ _) | (with_reducible refine Below.setCell ?_ ?_ _) | (with_reducible exact Nat.le_refl _) | omega | (simp; omega) | (simp; done))⟩
set_option maxRecDepth 100000 in
theorem rhelloOf_good (s : ByteArray) (h : MHello) (w : World) (hs : helloOf s = some h) :
    Calls Try.prog 15 #[.string s] w fun e w' => e = .returned (.tuple #[h.v, .int .i64 0]) ∧ Below w.heap.size w w' := by
  by_cases h2 : s.size = 2
  · rw [helloOf_two h2] at hs
    dsimp only at hs
    have h0 : 0 < s.size := by omega
    have h1 : 1 < s.size := by omega
    split at hs
    · rename_i hok
      obtain rfl := Option.some.inj hs
      have b0 := s[0].toNat_lt
      have b1 := s[1].toNat_lt
      simp only [helloOk, Bool.and_eq_true, decide_eq_true_eq] at hok
      obtain ⟨⟨⟨k1, k2⟩, k3⟩, k4⟩ := hok
      clear hs
      simp only [MHello.v] at *
      go_enter Try.func15, Try.ntmps15
      go_wp2
      go_region
      all_goals go_wp2
      all_goals go_returns
      all_goals exact ⟨rfl, by repeat' (first | (with_reducible exact Below.refl _ _) | (with_reducible assumption) | (with_reducible refine Below.plus ?_ ?_ _ _) | (with_reducible refine Below.alloc ?_ ?_ _) | (with_reducible refine Below.drew ?_) | (with_reducible refine Below.drewN ?_ _) | (with_reducible refine Below.setCell ?_ ?_ _) | (with_reducible exact Nat.le_refl _) | omega | (simp; omega) | (simp; done))⟩
    · exact absurd hs (by simp)
  · rw [helloOf_len h2] at hs
    exact absurd hs (by simp)
set_option maxRecDepth 100000 in
theorem rhelloOf_bad (s : ByteArray) (w : World) (hs : helloOf s = none) :
    Calls Try.prog 15 #[.string s] w fun e w' => e = .returned (.tuple #[helloZ.v, .int .i64 4]) ∧ Below w.heap.size w w' := by
  simp only [MHello.v, helloZ]
  by_cases h2 : s.size = 2
  · rw [helloOf_two h2] at hs
    dsimp only at hs
    have h0 : 0 < s.size := by omega
    have h1 : 1 < s.size := by omega
    have hk : helloOk ⟨s[0].toNat, s[1].toNat⟩ = false := by
      cases hh : helloOk ⟨s[0].toNat, s[1].toNat⟩ with
      | false => rfl
      | true => rw [hh] at hs; simp at hs
    have b0 := s[0].toNat_lt
    have b1 := s[1].toNat_lt
    simp only [helloOk, Bool.and_eq_false_iff, decide_eq_false_iff_not] at hk
    clear hs
    by_cases k1 : (s[0].toNat : Int) < 1
    · clear hk
      go_enter Try.func15, Try.ntmps15
      go_wp2
      go_returns
      exact ⟨rfl, by repeat' (first | (with_reducible exact Below.refl _ _) | (with_reducible assumption) | (with_reducible refine Below.plus ?_ ?_ _ _) | (with_reducible refine Below.alloc ?_ ?_ _) | (with_reducible refine Below.drew ?_) | (with_reducible refine Below.drewN ?_ _) | (with_reducible refine Below.setCell ?_ ?_ _) | (with_reducible exact Nat.le_refl _) | omega | (simp; omega) | (simp; done))⟩
    by_cases k2 : 6 < (s[0].toNat : Int)
    · clear hk
      go_enter Try.func15, Try.ntmps15
      go_wp2
      go_returns
      exact ⟨rfl, by repeat' (first | (with_reducible exact Below.refl _ _) | (with_reducible assumption) | (with_reducible refine Below.plus ?_ ?_ _ _) | (with_reducible refine Below.alloc ?_ ?_ _) | (with_reducible refine Below.drew ?_) | (with_reducible refine Below.drewN ?_ _) | (with_reducible refine Below.setCell ?_ ?_ _) | (with_reducible exact Nat.le_refl _) | omega | (simp; omega) | (simp; done))⟩
    have k3 : 6 < (s[1].toNat : Int) := by omega
    clear hk
    go_enter Try.func15, Try.ntmps15
    go_wp2
    go_returns
    exact ⟨rfl, by repeat' (first | (with_reducible exact Below.refl _ _) | (with_reducible assumption) | (with_reducible refine Below.plus ?_ ?_ _ _) | (with_reducible refine Below.alloc ?_ ?_ _) | (with_reducible refine Below.drew ?_) | (with_reducible refine Below.drewN ?_ _) | (with_reducible refine Below.setCell ?_ ?_ _) | (with_reducible exact Nat.le_refl _) | omega | (simp; omega) | (simp; done))⟩
  · have h3 : ¬ (s.size : Int) = 2 := by omega
    go_enter Try.func15, Try.ntmps15
    go_wp2
    go_returns
    exact ⟨rfl, by repeat' (first | (with_reducible exact Below.refl _ _) | (with_reducible assumption) | (with_reducible refine Below.plus ?_ ?_ _ _) | (with_reducible refine Below.alloc ?_ ?_ _) | (with_reducible refine Below.drew ?_) | (with_reducible refine Below.drewN ?_ _) | (with_reducible refine Below.setCell ?_ ?_ _) | (with_reducible exact Nat.le_refl _) | omega | (simp; omega) | (simp; done))⟩
end Go.Proofs.Ytimfnpjcedjmiaa
