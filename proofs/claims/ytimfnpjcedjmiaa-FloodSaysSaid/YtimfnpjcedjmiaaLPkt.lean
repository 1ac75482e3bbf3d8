/-
  Plain law: a packet's bytes are read as it.
-/
import Derived.Test.YtimfnpjcedjmiaaMPkt
namespace Go.Proofs.Ytimfnpjcedjmiaa
open Go.RowKit
set_option linter.unusedSimpArgs false
set_option linter.unusedVariables false
/-- Pairs, byte by byte. -/
def pairB (l : List (Int × Int)) : List UInt8 := l.flatMap fun o => [u8 o.1, u8 o.2]
theorem pairB_len (l : List (Int × Int)) : (pairB l).length = 2 * l.length := by
  induction l with
  | nil => rfl
  | cons o l ih => simp only [pairB, List.flatMap_cons, List.length_append, List.length_cons, List.length_nil] at ih ⊢; omega
theorem pairB_get : ∀ (l : List (Int × Int)) (q : Nat) (h : q < l.length), (pairB l).getD (2 * q) 0 = u8 l[q].1 ∧ (pairB l).getD (2 * q + 1) 0 = u8 l[q].2
  | [], q, h => by simp at h
  | o :: l, 0, h => by simp [pairB]
  | o :: l, q + 1, h => by
    have := pairB_get l q (by simpa using h)
    rw [show 2 * (q + 1) = 2 * q + 1 + 1 by omega]
    simpa [pairB] using this
theorem u8_id {n : Int} (h0 : 0 ≤ n) (h : n ≤ 255) : ((u8 n).toNat : Int) = n := by
  unfold u8
  rw [UInt8.toNat_ofNat']
  omega
theorem ofault_good : ∀ (p l : List (Int × Int)), ofault p l = 0 → ∀ o ∈ l, 0 ≤ o.1 ∧ o.1 ≤ 255 ∧ 0 ≤ o.2 ∧ o.2 ≤ 255
  | p, [], h => by simp
  | p, o :: r, h => by
    unfold ofault at h
    split at h
    · omega
    · rename_i hb
      split at h
      · omega
      · intro x hx
        rcases List.mem_cons.1 hx with rfl | hx
        · simp only [optBad, Bool.or_eq_true, decide_eq_true_eq] at hb; omega
        · exact ofault_good _ r h x hx
theorem pfault_good {c i : Int} {l : List (Int × Int)} (h : pfault c i l = 0) : 1 ≤ c ∧ c ≤ 6 ∧ 0 ≤ i ∧ i ≤ 255 ∧ l.length ≤ 8 ∧ ∀ o ∈ l, 0 ≤ o.1 ∧ o.1 ≤ 255 ∧ 0 ≤ o.2 ∧ o.2 ≤ 255 := by
  unfold pfault at h
  split at h
  · omega
  · split at h
    · omega
    · split at h
      · omega
      · exact ⟨by omega, by omega, by omega, by omega, by omega, ofault_good _ _ h⟩
theorem pkt_read {c i : Int} {l : List (Int × Int)} (h : pfault c i l = 0) : perr (tx (pbytes c i l)) = 0 ∧ pcode (tx (pbytes c i l)) = c ∧ pid (tx (pbytes c i l)) = i ∧ popt (tx (pbytes c i l)) = l := by
  obtain ⟨h1, h2, h3, h4, h5, h6⟩ := pfault_good h
  have e : pbytes c i l = u8 c :: u8 i :: u8 l.length :: pairB l := rfl
  have b0 : (byteAt (tx (pbytes c i l)) 0 : Int) = c := by rw [e]; exact u8_id (by omega) (by omega)
  have b1 : (byteAt (tx (pbytes c i l)) 1 : Int) = i := by rw [e]; exact u8_id (by omega) (by omega)
  have b2 : byteAt (tx (pbytes c i l)) 2 = l.length := by
    have : (byteAt (tx (pbytes c i l)) 2 : Int) = l.length := by rw [e]; exact u8_id (by omega) (by omega)
    omega
  have hsz : (tx (pbytes c i l)).size = 3 + 2 * l.length := by
    show (pbytes c i l).length = _
    rw [e]; simp only [List.length_cons, pairB_len]; omega
  have hp : popts (tx (pbytes c i l)) l.length = l := by
    apply List.ext_getElem
    · simp [popts]
    · intro q h1 h2
      have hm := h6 l[q] (List.getElem_mem h2)
      obtain ⟨g1, g2⟩ := pairB_get l q h2
      have x1 : (byteAt (tx (pbytes c i l)) (3 + 2 * q) : Int) = l[q].1 := by
        rw [e, show byteAt (tx (u8 c :: u8 i :: u8 l.length :: pairB l)) (3 + 2 * q) = ((pairB l).getD (2 * q) 0).toNat from by
          show ((u8 c :: u8 i :: u8 l.length :: pairB l).getD (3 + 2 * q) 0).toNat = _
          rw [show 3 + 2 * q = 2 * q + 1 + 1 + 1 by omega]; rfl, g1]
        exact u8_id (by omega) (by omega)
      have x2 : (byteAt (tx (pbytes c i l)) (4 + 2 * q) : Int) = l[q].2 := by
        rw [e, show byteAt (tx (u8 c :: u8 i :: u8 l.length :: pairB l)) (4 + 2 * q) = ((pairB l).getD (2 * q + 1) 0).toNat from by
          show ((u8 c :: u8 i :: u8 l.length :: pairB l).getD (4 + 2 * q) 0).toNat = _
          rw [show 4 + 2 * q = 2 * q + 1 + 1 + 1 + 1 by omega]; rfl, g2]
        exact u8_id (by omega) (by omega)
      simp only [popts, List.getElem_map, List.getElem_range]
      exact Prod.ext x1 x2
  have hg : pgood (tx (pbytes c i l)) = true := pgood_iff.2 ⟨by omega, by rw [b2]; exact hsz, by rw [b0, b1, b2, hp]; exact h⟩
  refine ⟨by simp [perr, hg], by simp [pcode, hg, b0], by simp [pid, hg, b1], ?_⟩
  unfold popt
  rw [if_pos hg, b2, hp]
end Go.Proofs.Ytimfnpjcedjmiaa
