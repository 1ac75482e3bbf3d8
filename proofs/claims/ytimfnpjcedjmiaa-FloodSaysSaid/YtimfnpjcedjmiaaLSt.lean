/-
  Plain law: a state's bytes are read as it; what is newer.
-/
import Derived.Test.YtimfnpjcedjmiaaMSt
import Derived.Test.YtimfnpjcedjmiaaLPkt
namespace Go.Proofs.Ytimfnpjcedjmiaa
open Go.RowKit
set_option linter.unusedSimpArgs false
set_option linter.unusedVariables false
theorem efault_good {o : Int} : ∀ (p : Int) (l : List (Int × Int)), efault o p l = 0 → ∀ e ∈ l, 1 ≤ e.1 ∧ e.1 ≤ 6 ∧ 1 ≤ e.2 ∧ e.2 ≤ 20
  | p, [], h => by simp
  | p, e :: r, h => by
    unfold efault at h
    split at h
    · omega
    · rename_i hb
      split at h
      · omega
      · intro x hx
        rcases List.mem_cons.1 hx with rfl | hx
        · simp only [edgBad, Bool.or_eq_true, decide_eq_true_eq] at hb; omega
        · exact efault_good _ r h x hx
theorem sfault_good {o q : Int} {l : List (Int × Int)} (h : sfault o q l = 0) : 1 ≤ o ∧ o ≤ 6 ∧ 1 ≤ q ∧ q ≤ 1000000 ∧ l.length ≤ 6 ∧ ∀ e ∈ l, 1 ≤ e.1 ∧ e.1 ≤ 6 ∧ 1 ≤ e.2 ∧ e.2 ≤ 20 := by
  unfold sfault at h
  split at h
  · omega
  · split at h
    · omega
    · exact ⟨by omega, by omega, by omega, by omega, by omega, efault_good _ _ h⟩
theorem u8_byte (n : Int) : ((u8 n).toNat : Int) = n % 256 := by
  unfold u8
  rw [UInt8.toNat_ofNat']
  omega
theorem st_read {o q : Int} {l : List (Int × Int)} (h : sfault o q l = 0) : serr (tx (sbyt o q l)) = 0 ∧ scode (tx (sbyt o q l)) = o ∧ sid (tx (sbyt o q l)) = q ∧ sopt (tx (sbyt o q l)) = l := by
  obtain ⟨h1, h2, h3, h4, h5, h6⟩ := sfault_good h
  have e : sbyt o q l = u8 o :: u8 q :: u8 (q / 256) :: u8 (q / 65536) :: pairB l := rfl
  have b0 : (byteAt (tx (sbyt o q l)) 0 : Int) = o := by rw [e]; exact u8_id (by omega) (by omega)
  have b1 : (byteAt (tx (sbyt o q l)) 1 : Int) = q % 256 := by rw [e]; exact u8_byte _
  have b2 : (byteAt (tx (sbyt o q l)) 2 : Int) = q / 256 % 256 := by rw [e]; exact u8_byte _
  have b3 : (byteAt (tx (sbyt o q l)) 3 : Int) = q / 65536 % 256 := by rw [e]; exact u8_byte _
  have bq : sseq (tx (sbyt o q l)) = q := by unfold sseq; rw [b1, b2, b3]; omega
  have hsz : (tx (sbyt o q l)).size = 4 + 2 * l.length := by
    show (sbyt o q l).length = _
    rw [e]; simp only [List.length_cons, pairB_len]; omega
  have hn : snum (tx (sbyt o q l)) = l.length := by unfold snum; rw [hsz]; omega
  have hp : sopts (tx (sbyt o q l)) l.length = l := by
    apply List.ext_getElem
    · simp [sopts]
    · intro k h1 h2
      have hm := h6 l[k] (List.getElem_mem h2)
      obtain ⟨g1, g2⟩ := pairB_get l k h2
      have x1 : (byteAt (tx (sbyt o q l)) (4 + 2 * k) : Int) = l[k].1 := by
        rw [e, show byteAt (tx (u8 o :: u8 q :: u8 (q / 256) :: u8 (q / 65536) :: pairB l)) (4 + 2 * k) = ((pairB l).getD (2 * k) 0).toNat from by
          show ((u8 o :: u8 q :: u8 (q / 256) :: u8 (q / 65536) :: pairB l).getD (4 + 2 * k) 0).toNat = _
          rw [show 4 + 2 * k = 2 * k + 1 + 1 + 1 + 1 by omega]; rfl, g1]
        exact u8_id (by omega) (by omega)
      have x2 : (byteAt (tx (sbyt o q l)) (5 + 2 * k) : Int) = l[k].2 := by
        rw [e, show byteAt (tx (u8 o :: u8 q :: u8 (q / 256) :: u8 (q / 65536) :: pairB l)) (5 + 2 * k) = ((pairB l).getD (2 * k + 1) 0).toNat from by
          show ((u8 o :: u8 q :: u8 (q / 256) :: u8 (q / 65536) :: pairB l).getD (5 + 2 * k) 0).toNat = _
          rw [show 5 + 2 * k = 2 * k + 1 + 1 + 1 + 1 + 1 by omega]; rfl, g2]
        exact u8_id (by omega) (by omega)
      simp only [sopts, List.getElem_map, List.getElem_range]
      exact Prod.ext x1 x2
  have hg : sgood (tx (sbyt o q l)) = true := sgood_iff.2 ⟨by omega, by omega, by rw [b0, bq, hn, hp]; exact h⟩
  refine ⟨by simp [serr, hg], by simp [scode, hg, b0], by simp [sid, hg, bq], ?_⟩
  unfold sopt
  rw [if_pos hg, hn, hp]
-- what is newer
def cmp1 (x y : Int × Int) : Int := orL [cmpI x.1 y.1, cmpI x.2 y.2]
def nw (q r : Int) (la lb : List (Int × Int)) : Int := orL [cmpI q r, cmpE la lb]
theorem cmpI_neg (a b : Int) : cmpI b a = - cmpI a b := by unfold cmpI; (repeat' split) <;> omega
theorem cmpI_zero {a b : Int} : cmpI a b = 0 ↔ a = b := by unfold cmpI; (repeat' split) <;> omega
theorem cmpI_pos {a b : Int} : 0 < cmpI a b ↔ b < a := by unfold cmpI; (repeat' split) <;> omega
theorem cmp1_neg (x y : Int × Int) : cmp1 y x = - cmp1 x y := by
  unfold cmp1
  rw [orL2, orL2, cmpI_neg x.1 y.1, cmpI_neg x.2 y.2]
  (repeat' split) <;> omega
theorem cmp1_zero {x y : Int × Int} : cmp1 x y = 0 ↔ x = y := by
  unfold cmp1
  rw [orL2]
  have h1 := cmpI_zero (a := x.1) (b := y.1)
  have h2 := cmpI_zero (a := x.2) (b := y.2)
  constructor
  · intro h
    split at h
    · rename_i g; exact absurd h g
    · rename_i g; exact Prod.ext (h1.1 (by omega)) (h2.1 h)
  · rintro rfl
    rw [if_neg (by rw [h1.2 rfl]; simp)]
    exact h2.2 rfl
theorem cmp1_pos {x y : Int × Int} : 0 < cmp1 x y ↔ y.1 < x.1 ∨ (x.1 = y.1 ∧ y.2 < x.2) := by
  unfold cmp1
  rw [orL2]
  have h1 := cmpI_zero (a := x.1) (b := y.1)
  have h2 := cmpI_pos (a := x.1) (b := y.1)
  have h3 := cmpI_pos (a := x.2) (b := y.2)
  split
  · rename_i g
    constructor
    · intro h; exact .inl (h2.1 h)
    · rintro (h | ⟨h, _⟩)
      · exact h2.2 h
      · exact absurd (h1.2 h) g
  · rename_i g
    have e := h1.1 (by omega)
    rw [h3]
    omega
theorem cmp1_trans {x y z : Int × Int} (h : 0 < cmp1 x y) (k : 0 < cmp1 y z) : 0 < cmp1 x z := by
  rw [cmp1_pos] at *
  omega
theorem cmpE_cons1 {x y : Int × Int} {la lb : List (Int × Int)} : cmpE (x :: la) (y :: lb) = if cmp1 x y ≠ 0 then cmp1 x y else cmpE la lb := rfl
theorem cmpE_neg : ∀ (la lb : List (Int × Int)), cmpE lb la = - cmpE la lb
  | [], [] => rfl
  | [], _ :: _ => rfl
  | _ :: _, [] => rfl
  | x :: la, y :: lb => by
    rw [cmpE_cons1, cmpE_cons1, cmp1_neg x y, cmpE_neg la lb]
    (repeat' split) <;> omega
theorem cmpE_zero : ∀ {la lb : List (Int × Int)}, cmpE la lb = 0 ↔ la = lb
  | [], [] => by simp [cmpE]
  | [], _ :: _ => by simp [cmpE]
  | _ :: _, [] => by simp [cmpE]
  | x :: la, y :: lb => by
    rw [cmpE_cons1]
    have h1 := cmp1_zero (x := x) (y := y)
    have ih := cmpE_zero (la := la) (lb := lb)
    constructor
    · intro h
      split at h
      · rename_i g; exact absurd h g
      · rename_i g; rw [h1.1 (by omega), ih.1 h]
    · intro h
      obtain ⟨rfl, rfl⟩ := List.cons.inj h
      rw [if_neg (by rw [h1.2 rfl]; simp)]
      exact ih.2 rfl
theorem cmpE_trans : ∀ {la lb lc : List (Int × Int)}, 0 < cmpE la lb → 0 < cmpE lb lc → 0 < cmpE la lc
  | [], [], lc, h, k => by simp [cmpE] at h
  | [], _ :: _, lc, h, k => by simp [cmpE] at h
  | _ :: _, [], [], h, k => by simp [cmpE] at k
  | _ :: _, [], _ :: _, h, k => by simp [cmpE] at k
  | _ :: _, _ :: _, [], h, k => by simp [cmpE]
  | x :: la, y :: lb, z :: lc, h, k => by
    rw [cmpE_cons1] at *
    by_cases e1 : cmp1 x y = 0
    · rw [if_neg (by rw [e1]; simp)] at h
      have := cmp1_zero.1 e1
      subst this
      by_cases e2 : cmp1 x z = 0
      · rw [if_neg (by rw [e2]; simp)] at k ⊢
        exact cmpE_trans h k
      · rw [if_pos e2] at k ⊢; exact k
    · rw [if_pos e1] at h
      by_cases e2 : cmp1 y z = 0
      · have := cmp1_zero.1 e2
        subst this
        rw [if_pos e1]; exact h
      · rw [if_pos e2] at k
        have := cmp1_trans h k
        rw [if_pos (by omega)]; exact this
theorem nw_eq (q r : Int) (la lb : List (Int × Int)) : nw q r la lb = if cmpI q r ≠ 0 then cmpI q r else cmpE la lb := orL2 _ _
theorem nw_neg (q r : Int) (la lb : List (Int × Int)) : nw r q lb la = - nw q r la lb := by
  rw [nw_eq, nw_eq, cmpI_neg q r, cmpE_neg la lb]
  (repeat' split) <;> omega
theorem nw_zero {q r : Int} {la lb : List (Int × Int)} : nw q r la lb = 0 ↔ q = r ∧ la = lb := by
  rw [nw_eq]
  have h1 := cmpI_zero (a := q) (b := r)
  have h2 := cmpE_zero (la := la) (lb := lb)
  constructor
  · intro h
    split at h
    · rename_i g; exact absurd h g
    · rename_i g; exact ⟨h1.1 (by omega), h2.1 h⟩
  · rintro ⟨rfl, rfl⟩
    rw [if_neg (by rw [h1.2 rfl]; simp)]
    exact h2.2 rfl
theorem nw_trans {q r s : Int} {la lb lc : List (Int × Int)} (h : 0 < nw q r la lb) (k : 0 < nw r s lb lc) : 0 < nw q s la lc := by
  rw [nw_eq] at *
  by_cases e1 : cmpI q r = 0
  · rw [if_neg (by rw [e1]; simp)] at h
    have := cmpI_zero.1 e1
    subst this
    by_cases e2 : cmpI q s = 0
    · rw [if_neg (by rw [e2]; simp)] at k ⊢
      exact cmpE_trans h k
    · rw [if_pos e2] at k ⊢; exact k
  · rw [if_pos e1] at h
    by_cases e2 : cmpI r s = 0
    · have := cmpI_zero.1 e2
      subst this
      rw [if_pos e1]; exact h
    · rw [if_pos e2] at k
      have g1 := cmpI_pos.1 h
      have g2 := cmpI_pos.1 k
      have g3 := cmpI_pos.2 (show s < q by omega)
      rw [if_pos (by omega)]; exact g3
theorem cmpI_range (a b : Int) : -1 ≤ cmpI a b ∧ cmpI a b ≤ 1 := by unfold cmpI; (repeat' split) <;> omega
theorem cmpE_range : ∀ (la lb : List (Int × Int)), -1 ≤ cmpE la lb ∧ cmpE la lb ≤ 1
  | [], [] => by simp [cmpE]
  | [], _ :: _ => by simp [cmpE]
  | _ :: _, [] => by simp [cmpE]
  | x :: la, y :: lb => by
    have h1 := cmpI_range x.1 y.1
    have h2 := cmpI_range x.2 y.2
    have ih := cmpE_range la lb
    rw [cmpE_cons1]
    unfold cmp1
    rw [orL2]
    (repeat' split) <;> omega
theorem nw_range (q r : Int) (la lb : List (Int × Int)) : -1 ≤ nw q r la lb ∧ nw q r la lb ≤ 1 := by
  have h1 := cmpI_range q r
  have h2 := cmpE_range la lb
  rw [nw_eq]
  split <;> omega
end Go.Proofs.Ytimfnpjcedjmiaa
