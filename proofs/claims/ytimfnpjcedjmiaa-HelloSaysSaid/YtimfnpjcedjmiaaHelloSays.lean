/-
  The statement HelloSays: any hellos, any bytes, a router, ticks between.
-/
import Derived.Test.YtimfnpjcedjmiaaHello
import Derived.Test.YtimfnpjcedjmiaaSame
import Derived.Test.YtimfnpjcedjmiaaEq
import Derived.Test.YtimfnpjcedjmiaaOpen
import Derived.Outline
import Derived.Deep.DeepCutAuto
import Derived.Deep.RegionWith
import Derived.Deep.CutBlock
namespace Go.Proofs.Ytimfnpjcedjmiaa
open Go.RowKit

set_option maxRecDepth 100000 in
theorem hellos_true (w : World) : Calls Try.prog 13 #[] w fun e w' => e = .returned (.bool true) ∧ Below w.heap.size w w' := by
  have c1 := fun w => hear_any MPeer.no 1 ⟨2, 1⟩ w
  have c2 := fun w => says_any ⟨2, true, 4⟩ 1 w
  have c3 := fun w => hbytes_good ⟨1, 2⟩ w (by decide)
  have c4 := fun w => same_nil 0 w
  have e0 : ((helloStr ⟨1, 2⟩).toList == [1, 2]) = true := by kernel_rfl
  have e1 : MPeer.hear 1 ⟨2, 1⟩ = ⟨2, true, 4⟩ := by simp [MPeer.hear]
  rw [e1] at c1
  simp only [MPeer.v, MHello.v, MPeer.no] at c1 c2 c3
  go_enter Try.func13, Try.ntmps13
  go_wp2_with (first | (go_at_call 18; refine (c1 _).mono ?_; rintro e w' ⟨rfl, hb⟩; obtain ⟨ex, d, rfl⟩ := plus_of hb; clear hb) | (go_at_call 22; refine (c2 _).mono ?_; rintro e w' ⟨rfl, hb⟩; obtain ⟨ex, d, rfl⟩ := plus_of hb; clear hb) | (go_at_call 17; refine (c3 _).mono ?_; rintro e w' ⟨rfl, hb⟩; obtain ⟨ex, d, rfl⟩ := plus_of hb; clear hb) | (go_at_call 16; refine (c4 _).mono ?_; rintro e w' ⟨rfl, rfl⟩))
  go_returns
  exact ⟨rfl, by repeat' (first | (with_reducible exact Below.refl _ _) | (with_reducible assumption) | (with_reducible refine Below.plus ?_ ?_ _ _) | (with_reducible refine Below.alloc ?_ ?_ _) | (with_reducible refine Below.drew ?_) | (with_reducible refine Below.drewN ?_ _) | (with_reducible refine Below.setCell ?_ ?_ _) | (with_reducible exact Nat.le_refl _) | omega | (simp; omega) | (simp; done))⟩

theorem helloOf_cases (s : ByteArray) : ∃ (h : MHello) (k : Int), 0 ≤ k ∧
    (∀ w, Calls Try.prog 14 #[.string s] w fun e w' => e = .returned (.tuple #[h.v, errv k]) ∧ Below w.heap.size w w') ∧
    (∀ w, Calls Try.prog 15 #[.string s] w fun e w' => e = .returned (.tuple #[h.v, .int .i64 k]) ∧ Below w.heap.size w w') := by
  cases hh : helloOf s with
  | none => exact ⟨helloZ, 4, by omega, fun w => hparse_bad s w hh, fun w => rhelloOf_bad s w hh⟩
  | some h => exact ⟨h, 0, by omega, fun w => hparse_good s h w hh, fun w => rhelloOf_good s h w hh⟩

theorem hbytes_cases (h : MHello) : ∃ (t : ByteArray) (k : Int), 0 ≤ k ∧
    (∀ w, Calls Try.prog 17 #[h.v] w fun e w' => e = .returned (.tuple #[.string t, errv k]) ∧ Below w.heap.size w w') ∧
    ((helloOk h = true ∧ t = helloStr h ∧ k = 0) ∨ (helloOk h = false ∧ t = ByteArray.empty ∧ k = 1)) := by
  cases hh : helloOk h with
  | true => exact ⟨helloStr h, 0, by omega, fun w => hbytes_good h w hh, .inl ⟨rfl, rfl, rfl⟩⟩
  | false => exact ⟨ByteArray.empty, 1, by omega, fun w => hbytes_bad h w hh, .inr ⟨rfl, rfl, rfl⟩⟩

set_option maxRecDepth 100000 in
theorem helloSays_short (me : Int) (ao1 ao2 : Option Addr) (n1 c1 n2 c2 : Nat) (s : ByteArray) (w : World) (h : 30 < n1 ∨ 30 < n2 ∨ 20 < s.size) :
    Calls Try.prog 3 #[.int .i64 me, .slice ao1 n1 c1, .slice ao2 n2 c2, .string s] w fun e w' => e = .returned (.bool true) ∧ Below w.heap.size w w' := by
  have hc := hellos_true
  go_enter Try.func3, Try.ntmps3
  by_cases h1 : 30 < n1
  · clear h
    go_wp2_with (go_at_call 13; refine (hc _).mono ?_; rintro e w' ⟨rfl, hb⟩; obtain ⟨ex, d, rfl⟩ := plus_of hb; clear hb)
    go_returns
    exact ⟨rfl, by repeat' (first | (with_reducible exact Below.refl _ _) | (with_reducible assumption) | (with_reducible refine Below.plus ?_ ?_ _ _) | (with_reducible refine Below.alloc ?_ ?_ _) | (with_reducible refine Below.drew ?_) | (with_reducible refine Below.drewN ?_ _) | (with_reducible refine Below.setCell ?_ ?_ _) | (with_reducible exact Nat.le_refl _) | omega | (simp; omega) | (simp; done))⟩
  by_cases h2 : 30 < n2
  · clear h
    go_wp2_with (go_at_call 13; refine (hc _).mono ?_; rintro e w' ⟨rfl, hb⟩; obtain ⟨ex, d, rfl⟩ := plus_of hb; clear hb)
    go_returns
    exact ⟨rfl, by repeat' (first | (with_reducible exact Below.refl _ _) | (with_reducible assumption) | (with_reducible refine Below.plus ?_ ?_ _ _) | (with_reducible refine Below.alloc ?_ ?_ _) | (with_reducible refine Below.drew ?_) | (with_reducible refine Below.drewN ?_ _) | (with_reducible refine Below.setCell ?_ ?_ _) | (with_reducible exact Nat.le_refl _) | omega | (simp; omega) | (simp; done))⟩
  have h3 : 20 < s.size := by omega
  clear h
  go_wp2_with (go_at_call 13; refine (hc _).mono ?_; rintro e w' ⟨rfl, hb⟩; obtain ⟨ex, d, rfl⟩ := plus_of hb; clear hb)
  go_returns
  exact ⟨rfl, by repeat' (first | (with_reducible exact Below.refl _ _) | (with_reducible assumption) | (with_reducible refine Below.plus ?_ ?_ _ _) | (with_reducible refine Below.alloc ?_ ?_ _) | (with_reducible refine Below.drew ?_) | (with_reducible refine Below.drewN ?_ _) | (with_reducible refine Below.setCell ?_ ?_ _) | (with_reducible exact Nat.le_refl _) | omega | (simp; omega) | (simp; done))⟩

set_option maxHeartbeats 4000000 in
set_option maxRecDepth 100000 in
theorem helloSays_long (me : Int) (ao1 ao2 : Option Addr) (c1 c2 : Nat) (l : List MHello) (ts : List Int) (s : ByteArray) (w : World) (h1 : l.length ≤ 30) (h2 : ts.length ≤ 30) (h3 : s.size ≤ 20)
    (a1 : Arr 2 w ao1 (l.map fun h => [.int .i64 h.fr, .int .i64 h.sn])) (a2 : Arr 1 w ao2 (ts.map fun t => [.int .i64 t])) :
    Calls Try.prog 3 #[.int .i64 me, .slice ao1 l.length c1, .slice ao2 ts.length c2, .string s] w fun e w' => e = .returned (.bool true) ∧ Below w.heap.size w w' := by
  have hc := hellos_true
  obtain ⟨ph, pk, hk, hp, hr⟩ := helloOf_cases s
  obtain ⟨pf, ps⟩ := ph
  have hsm := fun w => same_any pk pk hk w
  simp only [beq_self_eq_true] at hsm
  simp only [MHello.v] at hp hr
  have A1 := Lib.hid a1
  have A2 := Lib.hid a2
  clear a1 a2
  generalize hn1 : l.length = n1 at *
  generalize hn2 : ts.length = n2 at *
  have N1 := Lib.hid hn1
  have N2 := Lib.hid hn2
  clear hn1 hn2
  go_enter Try.func3, Try.ntmps3
  go_upto_if 59 with (first | (go_at_call 13; refine (hc _).mono ?_; rintro e w' ⟨rfl, hb⟩; obtain ⟨exh, dh, rfl⟩ := plus_of hb; clear hb) | (go_at_call 14; refine (hp _).mono ?_; rintro e w' ⟨rfl, hb⟩; obtain ⟨exp, dp, rfl⟩ := plus_of hb; clear hb) | (go_at_call 15; refine (hr _).mono ?_; rintro e w' ⟨rfl, hb⟩; obtain ⟨exr, dr, rfl⟩ := plus_of hb; clear hb) | (go_at_call 16; refine (hsm _).mono ?_; rintro e w' ⟨rfl, rfl⟩))
  go_cut [10, 12] (fun _ _ wr => Below w.heap.size w wr)
  case first =>
    go_wp2
    go_meet
    case rel => repeat' (first | (with_reducible exact Below.refl _ _) | (with_reducible assumption) | (with_reducible refine Below.plus ?_ ?_ _ _) | (with_reducible refine Below.alloc ?_ ?_ _) | (with_reducible refine Below.drew ?_) | (with_reducible refine Below.drewN ?_ _) | (with_reducible refine Below.setCell ?_ ?_ _) | (with_reducible exact Nat.le_refl _) | omega | (simp; omega) | (simp; done))
  case rest =>
  obtain ⟨W0, hWW⟩ : ∃ W, W = wc := ⟨wc, rfl⟩
  subst hWW
  have hW0 : Below w.heap.size w W0 := hcut
  clear hcut
  go_wp2
  go_loopw [16] (fun i wr => ∃ (k : Nat) (p : MPeer), k ≤ n1 ∧ i = .int .i64 k ∧ 0 ≤ p.left ∧ p.left ≤ 4 ∧ Below (W0.heap.size + 1 + 1) (World.alloc (W0.alloc (.cells #[.int .i64 p.who, .bool p.both, .int .i64 p.left] 35)) (.cells #[.int .i64 p.who, .bool p.both, .int .i64 p.left] 36)) wr) (fun i _ => n1 - (intOf i).toNat)
  case atStart => exact ⟨0, MPeer.no, Nat.zero_le _, rfl, by decide, by decide, Below.refl _ _⟩
  case round =>
    obtain ⟨k, ⟨pw, pb, pl⟩, hk1, rfl, hl0, hl4, hY⟩ := hrel
    obtain ⟨ex0, d0, rfl⟩ := plus_of' (by simp) hY
    clear hY
    simp only at hl0 hl4
    by_cases hlt : k < n1
    · obtain ⟨⟨fr, sn⟩, hh⟩ : ∃ h, l[k]? = some h := ⟨_, List.getElem?_eq_getElem (by rw [N1.out]; exact hlt)⟩
      obtain ⟨b, off, rfl, hbs, hc1, hc2⟩ := (A1.out.below hW0).at2 k (u := .int .i64 fr) (v := .int .i64 sn) (by simp [hh])
      have hcH := fun p w => hear_any p me ⟨fr, sn⟩ w
      have hcR := fun p w => rhear_any p me ⟨fr, sn⟩ w
      obtain ⟨⟨qw, qb, ql⟩, hq⟩ : ∃ q, q = MPeer.hear me ⟨fr, sn⟩ := ⟨_, rfl⟩
      have hq4 : 0 ≤ ql ∧ ql ≤ 4 := by
        have := congrArg MPeer.left hq
        simp only [MPeer.hear] at this
        split at this <;> simp [MPeer.no] at this <;> omega
      rw [← hq] at hcH hcR
      simp only [MPeer.v, MHello.v] at hcH hcR
      have HH := Lib.hid hh
      clear hh hq
      obtain ⟨hq0, hq4⟩ := hq4
      obtain ⟨bt, bk, hbk, hcB, hcase⟩ := hbytes_cases ⟨fr, sn⟩
      simp only [MHello.v] at hcB
      have HC := Lib.hid hcase
      clear hcase
      go_upto_region 15 with (go_at_call 17; refine (hcB _).mono ?_; rintro e w' ⟨rfl, hb⟩; obtain ⟨exb, db, rfl⟩ := plus_of hb; clear hb)
      go_cut [20] (fun g wr => g = .bool (helloOk ⟨fr, sn⟩) ∧ Below (W0.heap.size + 1 + 1 + ex0.size + 1) (World.alloc (plus (World.alloc (W0.alloc (.cells #[.int .i64 pw, .bool pb, .int .i64 pl] 35)) (.cells #[.int .i64 pw, .bool pb, .int .i64 pl] 36)) ex0 d0) (.cells #[.int .i64 fr, .int .i64 sn] 26)) wr)
      case first =>
        go_wp2
        all_goals (go_meet; case rel => exact ⟨by first | (simp [helloOk, *]; done) | (simp [helloOk, *]; omega), by repeat' (first | (with_reducible exact Below.refl _ _) | (with_reducible assumption) | (with_reducible refine Below.plus ?_ ?_ _ _) | (with_reducible refine Below.alloc ?_ ?_ _) | (with_reducible refine Below.drew ?_) | (with_reducible refine Below.drewN ?_ _) | (with_reducible refine Below.setCell ?_ ?_ _) | (with_reducible exact Nat.le_refl _) | omega | (simp; omega) | (simp; done))⟩)
      case rest =>
        obtain ⟨rfl, hcut⟩ := hcut
        obtain ⟨exc, dc, rfl⟩ := plus_of' (by simp) hcut
        clear hcut
        go_upto_region 16 with (fail)
        go_cut [18, 19, 20, 126] (fun _ _ _ g wr => g = .bool false ∧ Below (W0.heap.size + 1 + 1 + ex0.size + 1) (World.alloc (plus (World.alloc (W0.alloc (.cells #[.int .i64 pw, .bool pb, .int .i64 pl] 35)) (.cells #[.int .i64 pw, .bool pb, .int .i64 pl] 36)) ex0 d0) (.cells #[.int .i64 fr, .int .i64 sn] 26)) wr)
        case first =>
          rcases HC.out with ⟨hok, rfl, rfl⟩ | ⟨hok, rfl, rfl⟩
          · rw [hok]
            simp only [helloOk, Bool.and_eq_true, decide_eq_true_eq] at hok
            obtain ⟨⟨⟨k1, k2⟩, k3⟩, k4⟩ := hok
            have hcv := conv_two
            simp only [helloStr]
            go_wp2
            go_meet
            case rel => exact ⟨rfl, by repeat' (first | (with_reducible exact Below.refl _ _) | (with_reducible assumption) | (with_reducible refine Below.plus ?_ ?_ _ _) | (with_reducible refine Below.alloc ?_ ?_ _) | (with_reducible refine Below.drew ?_) | (with_reducible refine Below.drewN ?_ _) | (with_reducible refine Below.setCell ?_ ?_ _) | (with_reducible exact Nat.le_refl _) | omega | (simp; omega) | (simp; done))⟩
          · rw [hok]
            have hs1 := fun w => same_err 1 1 (by omega) w
            simp only [beq_self_eq_true] at hs1
            clear hok
            go_wp2_with (go_at_call 16; refine (hs1 _).mono ?_; rintro e w' ⟨rfl, rfl⟩)
            go_meet
            case rel => exact ⟨rfl, by repeat' (first | (with_reducible exact Below.refl _ _) | (with_reducible assumption) | (with_reducible refine Below.plus ?_ ?_ _ _) | (with_reducible refine Below.alloc ?_ ?_ _) | (with_reducible refine Below.drew ?_) | (with_reducible refine Below.drewN ?_ _) | (with_reducible refine Below.setCell ?_ ?_ _) | (with_reducible exact Nat.le_refl _) | omega | (simp; omega) | (simp; done))⟩
        case rest =>
          obtain ⟨rfl, hcut⟩ := hcut
          obtain ⟨exg, dg, rfl⟩ := plus_of' (by simp) hcut
          clear hcut
          clear hcB
          go_upto_block 2 with (first | (go_at_call 18; refine (hcH ⟨_, _, _⟩ _).mono ?_; rintro e w' ⟨rfl, hb⟩; obtain ⟨exe, de, rfl⟩ := plus_of hb; clear hb) | (go_at_call 19; refine (hcR ⟨_, _, _⟩ _).mono ?_; rintro e w' ⟨rfl, hb⟩; obtain ⟨exf, df, rfl⟩ := plus_of hb; clear hb))
          clear hcH hcR
          go_cut [21] (fun _ wr => ∃ p : MPeer, 0 ≤ p.left ∧ p.left ≤ 4 ∧ Below (W0.heap.size + 1 + 1) (World.alloc (W0.alloc (.cells #[.int .i64 p.who, .bool p.both, .int .i64 p.left] 35)) (.cells #[.int .i64 p.who, .bool p.both, .int .i64 p.left] 36)) wr)
          case first =>
            go_wp2
            go_loopw [21] (fun j wr => ∃ (m : Nat) (p : MPeer), m ≤ 9 ∧ j = .int .i64 m ∧ 0 ≤ p.left ∧ p.left ≤ 4 ∧ Below (W0.heap.size + 1 + 1) (World.alloc (W0.alloc (.cells #[.int .i64 p.who, .bool p.both, .int .i64 p.left] 35)) (.cells #[.int .i64 p.who, .bool p.both, .int .i64 p.left] 36)) wr) (fun j _ => 9 - (intOf j).toNat)
            case atStart => exact ⟨0, ⟨qw, qb, ql⟩, by omega, rfl, hq0, hq4, by repeat' (first | (with_reducible exact Below.refl _ _) | (with_reducible assumption) | (with_reducible refine Below.plus ?_ ?_ _ _) | (with_reducible refine Below.alloc ?_ ?_ _) | (with_reducible refine Below.drew ?_) | (with_reducible refine Below.drewN ?_ _) | (with_reducible refine Below.setCell ?_ ?_ _) | (with_reducible exact Nat.le_refl _) | omega | (simp; omega) | (simp; done))⟩
            case round =>
              obtain ⟨m, ⟨xw, xb, xl⟩, hm9, rfl, hx0, hx4, hZ⟩ := hrel
              obtain ⟨ex5, d5, rfl⟩ := plus_of' (by simp) hZ
              clear hZ
              simp only at hx0 hx4
              by_cases hk2 : k < n2
              · obtain ⟨tk, htk⟩ : ∃ t, ts[k]? = some t := ⟨_, List.getElem?_eq_getElem (by rw [N2.out]; exact hk2)⟩
                obtain ⟨b2, off2, rfl, hbs2, hd1⟩ := (A2.out.below hW0).at1 k (v := .int .i64 tk) (by simp [htk])
                have HT := Lib.hid htk
                clear htk
                by_cases hm1 : (m : Int) < tk
                · by_cases hm2 : m < 9
                  · have hc1 := fun w => ptick_any ⟨xw, xb, xl⟩ w hx0 hx4
                    have hc2 := fun w => rptick_any ⟨xw, xb, xl⟩ w hx0 hx4
                    obtain ⟨⟨yw, yb, yl⟩, hy⟩ : ∃ q, q = MPeer.tick ⟨xw, xb, xl⟩ := ⟨_, rfl⟩
                    have hy4 : 0 ≤ yl ∧ yl ≤ 4 := by
                      have := congrArg MPeer.left hy
                      simp only [MPeer.tick] at this
                      split at this <;> simp [MPeer.no] at this <;> omega
                    rw [← hy] at hc1 hc2
                    simp only [MPeer.v] at hc1 hc2
                    clear hy
                    go_wp2_with (first | (go_at_call 20; refine (hc1 _).mono ?_; rintro e w' ⟨rfl, hb⟩; obtain ⟨exe, de, rfl⟩ := plus_of hb; clear hb) | (go_at_call 21; refine (hc2 _).mono ?_; rintro e w' ⟨rfl, hb⟩; obtain ⟨exf, df, rfl⟩ := plus_of hb; clear hb))
                    go_roundw
                    case rel => exact ⟨m + 1, ⟨yw, yb, yl⟩, by omega, by go_num, hy4.1, hy4.2, by repeat' (first | (with_reducible exact Below.refl _ _) | (with_reducible assumption) | (with_reducible refine Below.plus ?_ ?_ _ _) | (with_reducible refine Below.alloc ?_ ?_ _) | (with_reducible refine Below.drew ?_) | (with_reducible refine Below.drewN ?_ _) | (with_reducible refine Below.setCell ?_ ?_ _) | (with_reducible exact Nat.le_refl _) | omega | (simp; omega) | (simp; done))⟩
                    case measure => simp [intOf]; omega
                  · go_wp2
                    go_meet
                    case rel => exact ⟨⟨xw, xb, xl⟩, hx0, hx4, by repeat' (first | (with_reducible exact Below.refl _ _) | (with_reducible assumption) | (with_reducible refine Below.plus ?_ ?_ _ _) | (with_reducible refine Below.alloc ?_ ?_ _) | (with_reducible refine Below.drew ?_) | (with_reducible refine Below.drewN ?_ _) | (with_reducible refine Below.setCell ?_ ?_ _) | (with_reducible exact Nat.le_refl _) | omega | (simp; omega) | (simp; done))⟩
                · go_wp2
                  go_meet
                  case rel => exact ⟨⟨xw, xb, xl⟩, hx0, hx4, by repeat' (first | (with_reducible exact Below.refl _ _) | (with_reducible assumption) | (with_reducible refine Below.plus ?_ ?_ _ _) | (with_reducible refine Below.alloc ?_ ?_ _) | (with_reducible refine Below.drew ?_) | (with_reducible refine Below.drewN ?_ _) | (with_reducible refine Below.setCell ?_ ?_ _) | (with_reducible exact Nat.le_refl _) | omega | (simp; omega) | (simp; done))⟩
              · go_wp2
                go_meet
                case rel => exact ⟨⟨xw, xb, xl⟩, hx0, hx4, by repeat' (first | (with_reducible exact Below.refl _ _) | (with_reducible assumption) | (with_reducible refine Below.plus ?_ ?_ _ _) | (with_reducible refine Below.alloc ?_ ?_ _) | (with_reducible refine Below.drew ?_) | (with_reducible refine Below.drewN ?_ _) | (with_reducible refine Below.setCell ?_ ?_ _) | (with_reducible exact Nat.le_refl _) | omega | (simp; omega) | (simp; done))⟩
          case rest =>
            obtain ⟨⟨xw, xb, xl⟩, hx0, hx4, hZ⟩ := hcut
            obtain ⟨ex5, d5, rfl⟩ := plus_of' (by simp) hZ
            clear hZ
            have hcS := fun w => says_any ⟨xw, xb, xl⟩ me w
            simp only [MPeer.v, MHello.v] at hcS
            simp only at hx0 hx4
            go_wp2
            (refine wp_region_quietp (by kernel_rfl) (by kernel_rfl) ?_; (repeat (go_big_quiet_step ((go_at_call 22; refine (hcS _).mono ?_; rintro e w' ⟨rfl, hb⟩; exact ⟨rfl, plus_sub hb⟩)))); refine wpQuiet_nil ?_; rintro _ ⟨⟨exq, dq⟩, rfl⟩; dsimp only)
            go_wp2

            go_roundw
            case rel => exact ⟨k + 1, ⟨xw, xb, xl⟩, by omega, by go_num, hx0, hx4, by repeat' (first | (with_reducible exact Below.refl _ _) | (with_reducible assumption) | (with_reducible refine Below.plus ?_ ?_ _ _) | (with_reducible refine Below.alloc ?_ ?_ _) | (with_reducible refine Below.drew ?_) | (with_reducible refine Below.drewN ?_ _) | (with_reducible refine Below.setCell ?_ ?_ _) | (with_reducible exact Nat.le_refl _) | omega | (simp; omega) | (simp; done))⟩
            case measure => simp [intOf]; omega
    · go_wp2
      go_returns
      exact ⟨rfl, by have hs0 := hW0.size; repeat' (first | (with_reducible exact Below.refl _ _) | (with_reducible assumption) | (with_reducible refine Below.plus ?_ ?_ _ _) | (with_reducible refine Below.alloc ?_ ?_ _) | (with_reducible refine Below.drew ?_) | (with_reducible refine Below.drewN ?_ _) | (with_reducible refine Below.setCell ?_ ?_ _) | (with_reducible exact Nat.le_refl _) | omega | (simp; omega) | (simp; done))⟩

theorem helloSays_walk (w : World) (v0 v1 v2 v3 : Value) (i0 : InInt w v0) (i1 : InPairs w v1) (i2 : InInts w v2) (i3 : InString w v3) :
    Calls Try.prog 3 #[v0, v1, v2, v3] w fun e w' => e = .returned (.bool true) ∧ Below w.heap.size w w' := by
  obtain ⟨me, rfl, _⟩ := i0
  obtain ⟨ao1, c1, l, rfl, _, _, a1⟩ := i1
  obtain ⟨ao2, c2, ts, rfl, _, _, a2⟩ := i2
  obtain ⟨s, rfl, _⟩ := i3
  by_cases h1 : 30 < l.length
  · exact helloSays_short me ao1 ao2 _ c1 _ c2 s w (.inl h1)
  by_cases h2 : 30 < ts.length
  · exact helloSays_short me ao1 ao2 _ c1 _ c2 s w (.inr (.inl h2))
  by_cases h3 : 20 < s.size
  · exact helloSays_short me ao1 ao2 _ c1 _ c2 s w (.inr (.inr h3))
  have := helloSays_long me ao1 ao2 c1 c2 (l.map fun n => ⟨n.1, n.2⟩) ts s w (by simp; omega) (by omega) (by omega) (by simpa [Function.comp_def] using a1) a2
  simpa using this
end Go.Proofs.Ytimfnpjcedjmiaa
