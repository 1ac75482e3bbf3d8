/-
  Plain law: what a frame carries is read of it.
-/
import Derived.Test.YtimfnpjcedjmiabMRd
namespace Go.Proofs.Ytimfnpjcedjmiab
open Go.RowKit
set_option linter.unusedSimpArgs false
set_option linter.unusedVariables false
def escP (n : Nat) : Bool := let c := UInt8.ofNat n; if c = 126 ∨ c = 125 ∨ c.toNat < 32 then decide (c ^^^ 32 ≠ 126) && decide (c ^^^ 32 ≠ 125) && decide (32 ≤ (c ^^^ 32).toNat) && decide (c ^^^ 32 ^^^ 32 = c) else true
theorem escP_all : ∀ n : Fin 256, escP n.val = true := by decide +kernel
theorem esc_of {c : UInt8} (h : c = 126 ∨ c = 125 ∨ c.toNat < 32) : c ^^^ 32 ≠ 126 ∧ c ^^^ 32 ≠ 125 ∧ 32 ≤ (c ^^^ 32).toNat ∧ c ^^^ 32 ^^^ 32 = c := by
  have h1 := escP_all ⟨c.toNat, UInt8.toNat_lt c⟩
  unfold escP at h1
  simp only [UInt8.ofNat_toNat] at h1
  rw [if_pos h] at h1
  simpa [and_assoc] using h1
/-- Nothing is escaped, nothing lost. -/
structure Clean (r : Rd) : Prop where
  ok : r.ok
  e : r.e = false
  x : r.x = false
theorem rd_len {r : Rd} (h : r.ok) : r.b.length = r.n := by
  obtain ⟨h1, h2, h3⟩ := h
  unfold Rd.b; rw [List.length_take]; omega
theorem rd_push {r : Rd} (h : Clean r) {c : UInt8} (h1 : c ≠ 126) (h2 : c ≠ 125) (h3 : ¬ c.toNat < 32) (h4 : r.n + 1 ≤ 62) : rdStep r c = ⟨r.b ++ [c], r.n + 1, false, false⟩ := by
  unfold rdStep
  rw [if_neg h1, if_neg h2, if_neg h3, if_neg (by omega), h.e, h.x]
  rfl
theorem rd_b {r : Rd} (h : r.ok) (c : UInt8) : Rd.b ⟨r.b ++ [c], r.n + 1, false, false⟩ = r.b ++ [c] := by
  show (r.b ++ [c]).take (r.n + 1) = _
  exact List.take_of_length_le (by simp [rd_len h])
theorem rdS_no {r : Rd} {o : List (List UInt8)} {n : Nat} {c : UInt8} (h : rdDone r c = false) : rdS (r, o, n) c = (rdStep r c, o, n) := by simp [rdS, h]
theorem rdDone_no {r : Rd} {c : UInt8} (h : c ≠ 126) : rdDone r c = false := by unfold rdDone; rw [decide_eq_false h]; rfl
theorem rd_esc {r : Rd} (h : Clean r) (c : UInt8) (h4 : r.n + 1 ≤ 62) (o : List (List UInt8)) (n : Nat) : (escB c).foldl rdS (r, o, n) = (⟨r.b ++ [c], r.n + 1, false, false⟩, o, n) := by
  unfold escB
  split
  · rename_i hc
    obtain ⟨g1, g2, g3, g4⟩ := esc_of hc
    simp only [List.foldl_cons, List.foldl_nil]
    have e1 : rdStep r 125 = ⟨r.buf, r.n, true, false⟩ := by
      unfold rdStep
      rw [if_neg (by decide), if_pos rfl, h.e, h.x]; rfl
    rw [rdS_no (c := 125) (rdDone_no (by decide)), e1, rdS_no (rdDone_no g1)]
    congr 1
    unfold rdStep
    rw [if_neg g1, if_neg g2, if_neg (by omega), if_neg (by show ¬ 62 < r.n + 1; omega)]
    simp only [if_true, g4]
    rfl
  · rename_i hc
    simp only [not_or] at hc
    simp only [List.foldl_cons, List.foldl_nil]
    rw [rdS_no (rdDone_no hc.1), rd_push h hc.1 hc.2.1 hc.2.2 h4]
theorem rd_body : ∀ (l : List UInt8) (r : Rd) (o : List (List UInt8)) (n : Nat), Clean r → r.n + l.length ≤ 62 → ∃ r', (l.flatMap escB).foldl rdS (r, o, n) = (r', o, n) ∧ Clean r' ∧ r'.b = r.b ++ l
  | [], r, o, n, h, hl => ⟨r, rfl, h, by simp⟩
  | c :: l, r, o, n, h, hl => by
    simp only [List.length_cons] at hl
    rw [List.flatMap_cons, List.foldl_append, rd_esc h c (by omega)]
    have hlen := rd_len h.ok
    obtain ⟨r', h1, h2, h3⟩ := rd_body l ⟨r.b ++ [c], r.n + 1, false, false⟩ o n ⟨⟨by simp [hlen], by show r.n + 1 ≤ 62; omega, by simp [hlen]; omega⟩, rfl, rfl⟩ (by show r.n + 1 + l.length ≤ 62; omega)
    refine ⟨r', h1, h2, ?_⟩
    rw [h3, rd_b h.ok]; simp
theorem u8_nat {n : Nat} (h : n < 256) : (u8 (n : Int)).toNat = n := by
  unfold u8
  rw [UInt8.toNat_ofNat']
  omega
theorem body_trail (l : List UInt8) : bodyE (trail l) = 0 := by
  have hs := sumL_lt l
  have hl : (trail l).length = l.length + 2 := by simp [trail]
  have h0 : (trail l).getD (l.length) 0 = u8 (sumL l) := by
    rw [List.getD_eq_getElem?_getD]
    unfold trail
    rw [List.getElem?_append_right (Nat.le_refl _)]
    simp
  have h1 : (trail l).getD (l.length + 1) 0 = u8 ((sumL l / 256 : Nat) : Int) := by
    rw [List.getD_eq_getElem?_getD]
    unfold trail
    rw [List.getElem?_append_right (by omega)]
    simp
  have h2 : (trail l).take l.length = l := by unfold trail; simp
  unfold bodyE
  rw [hl, if_neg (by omega), show l.length + 2 - 2 = l.length by omega, show l.length + 2 - 1 = l.length + 1 by omega, h0, h1, h2]
  have e0 : (u8 (sumL l)).toNat = sumL l % 256 := by
    rw [show u8 (sumL l) = u8 ((sumL l % 256 : Nat) : Int) from by unfold u8; congr 2; omega]
    exact u8_nat (by omega)
  have e1 : (u8 ((sumL l / 256 : Nat) : Int)).toNat = sumL l / 256 := u8_nat (by omega)
  rw [e0, e1, if_pos (by omega)]
theorem rd_frm {r : Rd} (h : Clean r) (hn : r.n = 0) {l : List UInt8} (hl : l.length ≤ 60) (o : List (List UInt8)) (n : Nat) : (frm l).foldl rdS (r, o, n) = (⟨[], 0, false, false⟩, o ++ [l], n) := by
  have htl : (trail l).length = l.length + 2 := by simp [trail]
  have hb0 : r.b = [] := by unfold Rd.b; rw [hn]; rfl
  unfold frm frmO
  rw [List.foldl_append, List.foldl_append]
  have d0 : rdDone r 126 = false := by unfold rdDone; rw [hn, h.e, h.x]; rfl
  have s0 : rdStep r 126 = r := by unfold rdStep; rw [if_pos rfl, if_neg (by rw [d0]; decide)]
  have f0 : [126].foldl rdS (r, o, n) = (r, o, n) := by
    simp only [List.foldl_cons, List.foldl_nil]
    rw [rdS_no d0, s0]
  rw [f0]
  obtain ⟨r', h1, h2, h3⟩ := rd_body (trail l) r o n h (by rw [hn, htl]; omega)
  rw [h1]
  rw [hb0, List.nil_append] at h3
  have hlen := rd_len h2.ok
  rw [h3, htl] at hlen
  have d1 : rdDone r' 126 = true := by unfold rdDone; rw [h2.e, h2.x, decide_eq_false (by omega : ¬ r'.n = 0)]; rfl
  have e1 : rdE r' = 0 := by unfold rdE; rw [h2.x, h2.e, if_neg (by decide), h3]; exact body_trail l
  have t1 : rdT r' = l := by
    unfold rdT
    rw [if_pos e1, h3, htl, show l.length + 2 - 2 = l.length by omega]
    unfold trail; simp
  have s1 : rdStep r' 126 = ⟨[], 0, false, false⟩ := by unfold rdStep; rw [if_pos rfl, if_pos d1]
  simp only [List.foldl_cons, List.foldl_nil, rdS, d1, e1, s1, t1, decide_true, Bool.and_self, if_true, Bool.not_true, Bool.and_false, Bool.false_eq_true, if_false]
theorem rdF_eq : ∀ (l : List UInt8) (r : Rd) (o : List (List UInt8)) (n : Nat), l.foldl rdS (r, o, n) = ((rdAll r l).1, o ++ (rdAll r l).2.1, n + (rdAll r l).2.2)
  | [], r, o, n => by simp [rdAll]
  | c :: l, r, o, n => by
    have e1 : rdAll r (c :: l) = l.foldl rdS (rdS (r, [], 0) c) := rfl
    rw [List.foldl_cons, e1]
    generalize hq : rdS (r, o, n) c = q
    generalize hq' : rdS (r, [], 0) c = q'
    obtain ⟨a, b, d⟩ := q
    obtain ⟨a', b', d'⟩ := q'
    rw [rdF_eq l a b d, rdF_eq l a' b' d']
    simp only [rdS, Prod.mk.injEq] at hq hq'
    obtain ⟨rfl, rfl, rfl⟩ := hq
    obtain ⟨rfl, rfl, rfl⟩ := hq'
    refine Prod.ext rfl (Prod.ext ?_ ?_)
    · simp only
      split <;> simp
    · simp only
      split <;> omega
theorem rdAll_append (r : Rd) (a b : List UInt8) : rdAll r (a ++ b) = ((rdAll (rdAll r a).1 b).1, (rdAll r a).2.1 ++ (rdAll (rdAll r a).1 b).2.1, (rdAll r a).2.2 + (rdAll (rdAll r a).1 b).2.2) := by
  have : rdAll r (a ++ b) = b.foldl rdS (rdAll r a) := by unfold rdAll; rw [List.foldl_append]
  rw [this]
  generalize rdAll r a = q
  obtain ⟨x, y, z⟩ := q
  exact rdF_eq b x y z
theorem rd_init : Clean ⟨[], 0, false, false⟩ := ⟨⟨Nat.le_refl _, by decide, by decide⟩, rfl, rfl⟩
theorem rdAll_frm {l : List UInt8} (hl : l.length ≤ 60) : rdAll ⟨[], 0, false, false⟩ (frm l) = (⟨[], 0, false, false⟩, [l], 0) := rd_frm rd_init rfl hl [] 0
theorem rdAll_frms : ∀ (ls : List (List UInt8)), (∀ l ∈ ls, l.length ≤ 60) → rdAll ⟨[], 0, false, false⟩ (ls.flatMap frm) = (⟨[], 0, false, false⟩, ls, 0)
  | [], h => rfl
  | l :: ls, h => by
    rw [List.flatMap_cons, rdAll_append, rdAll_frm (h l (List.mem_cons_self ..)), rdAll_frms ls (fun x hx => h x (List.mem_cons_of_mem _ hx))]
    rfl
-- inside of a frame there is no flag
theorem escB_good (c d : UInt8) (h : d ∈ escB c) : d ≠ 126 ∧ 32 ≤ d.toNat := by
  unfold escB at h
  split at h
  · rename_i hc
    obtain ⟨g1, g2, g3, g4⟩ := esc_of hc
    simp only [List.mem_cons, List.not_mem_nil, or_false] at h
    rcases h with rfl | rfl
    · exact ⟨by decide, by decide⟩
    · exact ⟨g1, g3⟩
  · rename_i hc
    simp only [not_or] at hc
    simp only [List.mem_cons, List.not_mem_nil, or_false] at h
    subst h
    exact ⟨hc.1, by omega⟩
theorem frm_inner {l : List UInt8} {i : Nat} (h1 : 1 ≤ i) (h2 : i + 1 < (frm l).length) : (frm l)[i] ≠ 126 ∧ 32 ≤ (frm l)[i].toNat := by
  have hm : (frm l)[i] ∈ (trail l).flatMap escB := by
    have e : frm l = [126] ++ ((trail l).flatMap escB ++ [126]) := by unfold frm frmO; rw [List.append_assoc]
    have hlen : (frm l).length = ((trail l).flatMap escB).length + 2 := by rw [e]; simp
    have : (frm l)[i] = ((trail l).flatMap escB)[i - 1]'(by omega) := by
      simp only [e]
      rw [List.getElem_append_right (by simpa using h1), List.getElem_append_left (by show i - 1 < _; omega)]
      simp
    rw [this]
    exact List.getElem_mem _
  obtain ⟨c, _, hc⟩ := List.mem_flatMap.1 hm
  exact escB_good c _ hc
theorem frm_len (l : List UInt8) : (frm l).length ≤ 2 * l.length + 6 := by
  have := frmO_len (trail l)
  have hl : (trail l).length = l.length + 2 := by simp [trail]
  unfold frm
  simp only [List.length_append, List.length_cons, List.length_nil]
  omega
end Go.Proofs.Ytimfnpjcedjmiab
