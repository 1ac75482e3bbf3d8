/-
  The statement TopHeard: two who tell each other whom they hear come to hear each other; who is not heard any more for some ticks is nobody.
-/
import Derived.Test.YtimfnpjcedjmiabHello
import Derived.Test.YtimfnpjcedjmiabOpen
import Derived.Test.YtimfnpjcedjmiabBits
import Derived.Outline
import Derived.Deep.DeepCutAuto
import Derived.Deep.RegionWith
import Derived.Deep.CutBlock
namespace Go.Proofs.Ytimfnpjcedjmiab
open Go.RowKit

theorem rnd0 {a b : Int} (hb : 1 ≤ b) (hab : ¬ a = b) {x y' x' : MPeer} (h : x = MPeer.no) (hy : y' = MPeer.hear b ⟨a, x.who⟩) (hx : x' = MPeer.hear a ⟨b, y'.who⟩) : x' = ⟨b, true, 4⟩ ∧ y' = ⟨a, false, 4⟩ := by
  have e : ¬ (0 : Int) = b := by omega
  have e' : ¬ b = a := fun h => hab h.symm
  subst h hy hx
  simp [MPeer.hear, MPeer.no, hab, e, e']
theorem tick_at {b : Int} {k : Nat} {x y : MPeer} (hx : x = if k < 4 then ⟨b, true, 4 - k⟩ else MPeer.no) (hy : y = MPeer.tick x) : y = if k + 1 < 4 then ⟨b, true, 4 - ((k + 1 : Nat) : Int)⟩ else MPeer.no := by
  subst hx hy
  by_cases h : k < 4
  · rw [if_pos h]
    by_cases h3 : k + 1 < 4
    · rw [if_pos h3]; unfold MPeer.tick; rw [if_neg (by simp only; omega)]; simp only [MPeer.mk.injEq, true_and]; omega
    · rw [if_neg h3]; unfold MPeer.tick; rw [if_pos (by simp only; omega)]
  · rw [if_neg h, if_neg (by omega)]; rfl
theorem rnd1 {a b : Int} (_hb : 1 ≤ b) (hab : ¬ a = b) {x y' x' : MPeer} (h : x = ⟨b, true, 4⟩) (hy : y' = MPeer.hear b ⟨a, x.who⟩) (hx : x' = MPeer.hear a ⟨b, y'.who⟩) : x' = ⟨b, true, 4⟩ ∧ y' = ⟨a, true, 4⟩ := by
  have e' : ¬ b = a := fun h => hab h.symm
  subst h hy hx
  simp [MPeer.hear, hab, e']

set_option maxHeartbeats 2000000 in
set_option maxRecDepth 100000 in
theorem topHeard_good (a b ticks : Int) (ha : 1 ≤ a ∧ a ≤ 6) (hb : 1 ≤ b ∧ b ≤ 6) (hab : ¬ a = b) (w : World) :
    Calls Try.prog 3 #[.int .i64 a, .int .i64 b, .int .i64 ticks] w fun e w' => e = .returned (.bool true) ∧ Below w.heap.size w w' := by
  have c1 := fun w => hear_any MPeer.no 1 ⟨2, 0⟩ w
  have e1 : MPeer.hear 1 ⟨2, 0⟩ = ⟨2, false, 4⟩ := by simp [MPeer.hear]
  rw [e1] at c1
  simp only [MPeer.v, MHello.v, MPeer.no] at c1
  obtain ⟨ha1, ha2⟩ := ha
  obtain ⟨hb1, hb2⟩ := hb
  go_enter Try.func3, Try.ntmps3
  go_upto_region 4 with (go_at_call 13; (with_reducible refine (c1 _).mono ?_); rintro e w' ⟨rfl, hb⟩; obtain ⟨ex1, d1, rfl⟩ := plus_of hb; clear hb)
  have hab' : (a == b) = false := by simpa using hab
  go_upto_if 41 with (fail)
  go_cut [7] (fun _ wr => Below w.heap.size w wr)
  case first =>
    go_wp2
    go_meet
    case rel => repeat' (first | (with_reducible exact Below.refl _ _) | (with_reducible assumption) | (with_reducible refine Below.plus ?_ ?_ _ _) | (with_reducible refine Below.alloc ?_ ?_ _) | (with_reducible refine Below.drew ?_) | (with_reducible refine Below.drewN ?_ _) | (with_reducible refine Below.setCell ?_ ?_ _) | (with_reducible exact Nat.le_refl _) | omega | (simp; omega) | (simp; done))
  case rest =>
  obtain ⟨W0, hWW⟩ : ∃ W, W = wc := ⟨wc, rfl⟩
  subst hWW
  have hW0 : Below w.heap.size w W0 := hcut
  have hs0 := hW0.size
  clear hcut c1
  have hS := fun p me w => says_any p me w
  have hH := fun p me h w => hear_any p me h w
  simp only [MPeer.v, MHello.v] at hS hH
  go_upto_block 0 with (fail)
  go_cut [10] (fun _ wr => Below (W0.heap.size + 1 + 1) (World.alloc (W0.alloc (.cells #[.int .i64 ((⟨b, true, 4⟩ : MPeer)).who, .bool ((⟨b, true, 4⟩ : MPeer)).both, .int .i64 ((⟨b, true, 4⟩ : MPeer)).left] 23)) (.cells #[.int .i64 ((⟨a, true, 4⟩ : MPeer)).who, .bool ((⟨a, true, 4⟩ : MPeer)).both, .int .i64 ((⟨a, true, 4⟩ : MPeer)).left] 23)) wr)
  case first =>
    go_wp2
    go_loopw [10] (fun i wr => ∃ (k : Nat) (x y : MPeer), k ≤ 2 ∧ i = .int .i64 k ∧ (k = 0 → x = MPeer.no ∧ y = MPeer.no) ∧ (k = 1 → x = ⟨b, true, 4⟩ ∧ y = ⟨a, false, 4⟩) ∧ (k = 2 → x = ⟨b, true, 4⟩ ∧ y = ⟨a, true, 4⟩) ∧ Below (W0.heap.size + 1 + 1) (World.alloc (W0.alloc (.cells #[.int .i64 (x).who, .bool (x).both, .int .i64 (x).left] 23)) (.cells #[.int .i64 (y).who, .bool (y).both, .int .i64 (y).left] 23)) wr) (fun i _ => 2 - (intOf i).toNat)
    case atStart => exact ⟨0, MPeer.no, MPeer.no, by omega, rfl, by simp, by simp, by simp, Below.refl _ _⟩
    case round =>
      obtain ⟨k, ⟨xw, xb, xl⟩, ⟨yw, yb, yl⟩, hk, rfl, h0, h1, h2, hZ⟩ := hrel
      obtain ⟨ex0, d0, rfl⟩ := plus_of' (by simp) hZ
      clear hZ
      by_cases hlt : k < 2
      · obtain ⟨⟨yw', yb', yl'⟩, hy'⟩ : ∃ q, q = MPeer.hear b ⟨a, xw⟩ := ⟨_, rfl⟩
        obtain ⟨⟨xw', xb', xl'⟩, hx'⟩ : ∃ q, q = MPeer.hear a ⟨b, yw'⟩ := ⟨_, rfl⟩
        have s1 := fun w => says_any ⟨xw, xb, xl⟩ a w
        have s2 := fun w => says_any ⟨yw', yb', yl'⟩ b w
        have g1 := fun w => hear_any ⟨yw, yb, yl⟩ b ⟨a, xw⟩ w
        have g2 := fun w => hear_any ⟨xw, xb, xl⟩ a ⟨b, yw'⟩ w
        rw [← hy'] at g1
        rw [← hx'] at g2
        simp only [MPeer.v, MHello.v] at s1 s2 g1 g2
        have H0 := Lib.hid h0
        have H1 := Lib.hid h1
        have HY := Lib.hid hy'
        have HX := Lib.hid hx'
        clear h0 h1 h2 hy' hx' hS hH
        go_upto_region 11 with (fail)
        go_cut [] (fun wr => Below (W0.heap.size + 1 + 1) (World.alloc (W0.alloc (.cells #[.int .i64 xw, .bool xb, .int .i64 xl] 23)) (.cells #[.int .i64 yw', .bool yb', .int .i64 yl'] 23)) wr)
        case first =>
          go_region_with (first | (go_at_call 14; (with_reducible refine (s1 _).mono ?_); rintro e w' ⟨rfl, hb⟩; obtain ⟨exe, de, rfl⟩ := plus_of hb; clear hb) | (go_at_call 13; (with_reducible refine (g1 _).mono ?_); rintro e w' ⟨rfl, hb⟩; obtain ⟨exf, df, rfl⟩ := plus_of hb; clear hb))
          all_goals (go_wp2; go_meet; case rel => repeat' (first | (with_reducible exact Below.refl _ _) | (with_reducible assumption) | (with_reducible refine Below.plus ?_ ?_ _ _) | (with_reducible refine Below.alloc ?_ ?_ _) | (with_reducible refine Below.drew ?_) | (with_reducible refine Below.drewN ?_ _) | (with_reducible refine Below.setCell ?_ ?_ _) | (with_reducible exact Nat.le_refl _) | omega | (simp; omega) | (simp; done)))
        case rest =>
          obtain ⟨ex1, d1, rfl⟩ := plus_of' (by simp) hcut
          clear hcut
          go_upto_region 12 with (fail)
          go_region_with (first | (go_at_call 14; (with_reducible refine (s2 _).mono ?_); rintro e w' ⟨rfl, hb⟩; obtain ⟨exe, de, rfl⟩ := plus_of hb; clear hb) | (go_at_call 13; (with_reducible refine (g2 _).mono ?_); rintro e w' ⟨rfl, hb⟩; obtain ⟨exf, df, rfl⟩ := plus_of hb; clear hb))
          all_goals
            go_wp2
            go_roundw
            case rel => exact ⟨k + 1, ⟨xw', xb', xl'⟩, ⟨yw', yb', yl'⟩, by omega, by go_num, by simp, fun hk1 => rnd0 hb1 hab (H0.out (by omega)).1 HY.out HX.out, fun hk2 => rnd1 hb1 hab (H1.out (by omega)).1 HY.out HX.out, by repeat' (first | (with_reducible exact Below.refl _ _) | (with_reducible assumption) | (with_reducible refine Below.plus ?_ ?_ _ _) | (with_reducible refine Below.alloc ?_ ?_ _) | (with_reducible refine Below.drew ?_) | (with_reducible refine Below.drewN ?_ _) | (with_reducible refine Below.setCell ?_ ?_ _) | (with_reducible exact Nat.le_refl _) | omega | (simp; omega) | (simp; done))⟩
            case measure => simp [intOf]; omega
      · obtain rfl : k = 2 := by omega
        obtain ⟨hx, hy⟩ := h2 rfl
        simp only [MPeer.mk.injEq] at hx hy
        obtain ⟨rfl, rfl, rfl⟩ := hx
        obtain ⟨rfl, rfl, rfl⟩ := hy
        clear h0 h1 h2
        go_wp2
        go_meet
        case rel => repeat' (first | (with_reducible exact Below.refl _ _) | (with_reducible assumption) | (with_reducible refine Below.plus ?_ ?_ _ _) | (with_reducible refine Below.alloc ?_ ?_ _) | (with_reducible refine Below.drew ?_) | (with_reducible refine Below.drewN ?_ _) | (with_reducible refine Below.setCell ?_ ?_ _) | (with_reducible exact Nat.le_refl _) | omega | (simp; omega) | (simp; done))
  case rest =>
    obtain ⟨ex0, d0, rfl⟩ := plus_of' (by simp) hcut
    clear hcut
    obtain ⟨n, hn⟩ : ∃ n, n = bits .and .i64 ticks 7 := ⟨_, rfl⟩
    have hn7 := and_small ticks 7 (by omega)
    obtain ⟨hn0, hn7⟩ : 0 ≤ n ∧ n ≤ 7 := by rw [hn]; exact hn7
    go_wp2
    rw [show bits .and .i64 ticks 7 = n from hn.symm]
    clear hn hS hH
    go_loopw [12] (fun i wr => ∃ (k : Nat) (x : MPeer), (k : Int) ≤ n ∧ i = .int .i64 k ∧ x = (if k < 4 then ⟨b, true, 4 - k⟩ else MPeer.no) ∧ Below (W0.heap.size + 1 + 1) (World.alloc (W0.alloc (.cells #[.int .i64 x.who, .bool x.both, .int .i64 x.left] 23)) (.cells #[.int .i64 a, .bool true, .int .i64 4] 23)) wr) (fun i _ => n.toNat - (intOf i).toNat)
    case atStart => exact ⟨0, ⟨b, true, 4⟩, by omega, rfl, by simp, by repeat' (first | (with_reducible exact Below.refl _ _) | (with_reducible assumption) | (with_reducible refine Below.plus ?_ ?_ _ _) | (with_reducible refine Below.alloc ?_ ?_ _) | (with_reducible refine Below.drew ?_) | (with_reducible refine Below.drewN ?_ _) | (with_reducible refine Below.setCell ?_ ?_ _) | (with_reducible exact Nat.le_refl _) | omega | (simp; omega) | (simp; done))⟩
    case round =>
      obtain ⟨k, ⟨xw, xb, xl⟩, hk, rfl, hx, hZ⟩ := hrel
      obtain ⟨ex1, d1, rfl⟩ := plus_of' (by simp) hZ
      clear hZ
      by_cases hlt : (k : Int) < n
      · have HX := Lib.hid hx
        have hl : 0 ≤ xl ∧ xl ≤ 4 := by
          have := congrArg MPeer.left hx
          simp only at this
          split at this <;> simp [MPeer.no] at this <;> omega
        have hc := fun w => ptick_any ⟨xw, xb, xl⟩ w hl.1 hl.2
        obtain ⟨⟨yw, yb, yl⟩, hy⟩ : ∃ q, q = MPeer.tick ⟨xw, xb, xl⟩ := ⟨_, rfl⟩
        rw [← hy] at hc
        simp only [MPeer.v] at hc
        have HY := Lib.hid hy
        clear hx hl hy
        go_wp2_with (go_at_call 15; (with_reducible refine (hc _).mono ?_); rintro e w' ⟨rfl, hb⟩; obtain ⟨exe, de, rfl⟩ := plus_of hb; clear hb)
        go_roundw
        case rel => exact ⟨k + 1, ⟨yw, yb, yl⟩, by omega, by go_num, tick_at HX.out HY.out, by repeat' (first | (with_reducible exact Below.refl _ _) | (with_reducible assumption) | (with_reducible refine Below.plus ?_ ?_ _ _) | (with_reducible refine Below.alloc ?_ ?_ _) | (with_reducible refine Below.drew ?_) | (with_reducible refine Below.drewN ?_ _) | (with_reducible refine Below.setCell ?_ ?_ _) | (with_reducible exact Nat.le_refl _) | omega | (simp; omega) | (simp; done))⟩
        case measure => simp [intOf]; omega
      · have hkn : (k : Int) = n := by omega
        subst hkn
        by_cases h4 : k < 4
        · rw [if_pos h4] at hx
          simp only [MPeer.mk.injEq] at hx
          obtain ⟨rfl, rfl, rfl⟩ := hx
          have hb0 : (xw == 0) = false := by rw [beq_eq_false_iff_ne]; omega
          have hk4 : decide ((4 : Int) ≤ (k : Int)) = false := by simp; omega
          have hp : decide (0 < xw) = true := by simp; omega
          go_wp2
          all_goals go_returns
          all_goals exact ⟨rfl, by repeat' (first | (with_reducible exact Below.refl _ _) | (with_reducible assumption) | (with_reducible refine Below.plus ?_ ?_ _ _) | (with_reducible refine Below.alloc ?_ ?_ _) | (with_reducible refine Below.drew ?_) | (with_reducible refine Below.drewN ?_ _) | (with_reducible refine Below.setCell ?_ ?_ _) | (with_reducible exact Nat.le_refl _) | omega | (simp; omega) | (simp; done))⟩
        · rw [if_neg h4] at hx
          simp only [MPeer.no, MPeer.mk.injEq] at hx
          obtain ⟨rfl, rfl, rfl⟩ := hx
          have hk4 : decide ((4 : Int) ≤ (k : Int)) = true := by simp; omega
          go_wp2
          all_goals go_returns
          all_goals exact ⟨rfl, by repeat' (first | (with_reducible exact Below.refl _ _) | (with_reducible assumption) | (with_reducible refine Below.plus ?_ ?_ _ _) | (with_reducible refine Below.alloc ?_ ?_ _) | (with_reducible refine Below.drew ?_) | (with_reducible refine Below.drewN ?_ _) | (with_reducible refine Below.setCell ?_ ?_ _) | (with_reducible exact Nat.le_refl _) | omega | (simp; omega) | (simp; done))⟩

set_option maxRecDepth 100000 in
theorem topHeard_out (a b ticks : Int) (h : a < 1 ∨ 6 < a ∨ b < 1 ∨ 6 < b ∨ a = b) (w : World) :
    Calls Try.prog 3 #[.int .i64 a, .int .i64 b, .int .i64 ticks] w fun e w' => e = .returned (.bool true) ∧ Below w.heap.size w w' := by
  have c1 := fun w => hear_any MPeer.no 1 ⟨2, 0⟩ w
  have e1 : MPeer.hear 1 ⟨2, 0⟩ = ⟨2, false, 4⟩ := by simp [MPeer.hear]
  rw [e1] at c1
  simp only [MPeer.v, MHello.v, MPeer.no] at c1
  by_cases h1 : a < 1
  · clear h
    go_enter Try.func3, Try.ntmps3
    go_wp2_with (go_at_call 13; (with_reducible refine (c1 _).mono ?_); rintro e w' ⟨rfl, hb⟩; obtain ⟨ex1, d1, rfl⟩ := plus_of hb; clear hb)
    go_returns
    exact ⟨rfl, by repeat' (first | (with_reducible exact Below.refl _ _) | (with_reducible assumption) | (with_reducible refine Below.plus ?_ ?_ _ _) | (with_reducible refine Below.alloc ?_ ?_ _) | (with_reducible refine Below.drew ?_) | (with_reducible refine Below.drewN ?_ _) | (with_reducible refine Below.setCell ?_ ?_ _) | (with_reducible exact Nat.le_refl _) | omega | (simp; omega) | (simp; done))⟩
  by_cases h2 : 6 < a
  · clear h
    go_enter Try.func3, Try.ntmps3
    go_wp2_with (go_at_call 13; (with_reducible refine (c1 _).mono ?_); rintro e w' ⟨rfl, hb⟩; obtain ⟨ex1, d1, rfl⟩ := plus_of hb; clear hb)
    go_returns
    exact ⟨rfl, by repeat' (first | (with_reducible exact Below.refl _ _) | (with_reducible assumption) | (with_reducible refine Below.plus ?_ ?_ _ _) | (with_reducible refine Below.alloc ?_ ?_ _) | (with_reducible refine Below.drew ?_) | (with_reducible refine Below.drewN ?_ _) | (with_reducible refine Below.setCell ?_ ?_ _) | (with_reducible exact Nat.le_refl _) | omega | (simp; omega) | (simp; done))⟩
  by_cases h3 : b < 1
  · clear h
    go_enter Try.func3, Try.ntmps3
    go_wp2_with (go_at_call 13; (with_reducible refine (c1 _).mono ?_); rintro e w' ⟨rfl, hb⟩; obtain ⟨ex1, d1, rfl⟩ := plus_of hb; clear hb)
    go_returns
    exact ⟨rfl, by repeat' (first | (with_reducible exact Below.refl _ _) | (with_reducible assumption) | (with_reducible refine Below.plus ?_ ?_ _ _) | (with_reducible refine Below.alloc ?_ ?_ _) | (with_reducible refine Below.drew ?_) | (with_reducible refine Below.drewN ?_ _) | (with_reducible refine Below.setCell ?_ ?_ _) | (with_reducible exact Nat.le_refl _) | omega | (simp; omega) | (simp; done))⟩
  by_cases h4 : 6 < b
  · clear h
    go_enter Try.func3, Try.ntmps3
    go_wp2_with (go_at_call 13; (with_reducible refine (c1 _).mono ?_); rintro e w' ⟨rfl, hb⟩; obtain ⟨ex1, d1, rfl⟩ := plus_of hb; clear hb)
    go_returns
    exact ⟨rfl, by repeat' (first | (with_reducible exact Below.refl _ _) | (with_reducible assumption) | (with_reducible refine Below.plus ?_ ?_ _ _) | (with_reducible refine Below.alloc ?_ ?_ _) | (with_reducible refine Below.drew ?_) | (with_reducible refine Below.drewN ?_ _) | (with_reducible refine Below.setCell ?_ ?_ _) | (with_reducible exact Nat.le_refl _) | omega | (simp; omega) | (simp; done))⟩
  obtain rfl : a = b := by omega
  clear h
  go_enter Try.func3, Try.ntmps3
  go_wp2_with (go_at_call 13; (with_reducible refine (c1 _).mono ?_); rintro e w' ⟨rfl, hb⟩; obtain ⟨ex1, d1, rfl⟩ := plus_of hb; clear hb)
  go_returns
  exact ⟨rfl, by repeat' (first | (with_reducible exact Below.refl _ _) | (with_reducible assumption) | (with_reducible refine Below.plus ?_ ?_ _ _) | (with_reducible refine Below.alloc ?_ ?_ _) | (with_reducible refine Below.drew ?_) | (with_reducible refine Below.drewN ?_ _) | (with_reducible refine Below.setCell ?_ ?_ _) | (with_reducible exact Nat.le_refl _) | omega | (simp; omega) | (simp; done))⟩

theorem topHeard_walk (w : World) (v0 v1 v2 : Value) (i0 : InInt w v0) (i1 : InInt w v1) (i2 : InInt w v2) :
    Calls Try.prog 3 #[v0, v1, v2] w fun e w' => e = .returned (.bool true) ∧ Below w.heap.size w w' := by
  obtain ⟨a, rfl, _⟩ := i0
  obtain ⟨b, rfl, _⟩ := i1
  obtain ⟨t, rfl, _⟩ := i2
  by_cases h : a < 1 ∨ 6 < a ∨ b < 1 ∨ 6 < b ∨ a = b
  · exact topHeard_out a b t h w
  · exact topHeard_good a b t (by omega) (by omega) (by omega) w
end Go.Proofs.Ytimfnpjcedjmiab
