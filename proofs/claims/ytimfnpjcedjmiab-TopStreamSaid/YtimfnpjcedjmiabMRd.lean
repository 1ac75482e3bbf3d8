/-
  The reader of frames.
-/
import Derived.Test.YtimfnpjcedjmiabGE
import Derived.Test.YtimfnpjcedjmiabMFr
namespace Go.Proofs.Ytimfnpjcedjmiab
open Go.RowKit
set_option linter.unusedSimpArgs false
set_option linter.unusedVariables false
/-- What a reader holds: what lies in its array, how much of it counts; escaped; lost. -/
structure Rd where
  buf : List UInt8
  n : Nat
  e : Bool
  x : Bool
def Rd.b (r : Rd) : List UInt8 := r.buf.take r.n
def Rd.ok (r : Rd) : Prop := r.n ≤ r.buf.length ∧ r.n ≤ 62 ∧ r.buf.length ≤ 63
def rdM (r : Rd) (g : Nat) : List Res := [.cells [.arr 1 g r.n, .v (.bool r.e), .v (.bool r.x)], .arr true 5 1 g (r.buf.map bRow)]
/-- What is wrong with a body, and what it carries. -/
def bodyE (b : List UInt8) : Int := if b.length < 2 then 4 else if ((b.getD (b.length - 2) 0).toNat + 256 * (b.getD (b.length - 1) 0).toNat : Nat) = sumL (b.take (b.length - 2)) then 0 else 5
def bodyT (b : List UInt8) : List UInt8 := if bodyE b = 0 then b.take (b.length - 2) else []
def rdE (r : Rd) : Int := if r.x || r.e then 4 else bodyE r.b
def rdT (r : Rd) : List UInt8 := if rdE r = 0 then r.b.take (r.b.length - 2) else []
theorem byteAt_tx {l : List UInt8} {i : Nat} : byteAt (tx l) i = (l.getD i 0).toNat := rfl
theorem extract_tx {l : List UInt8} {n : Nat} (h : n ≤ l.length) : (tx l).extract 0 n = tx (l.take n) := by
  apply ByteArray.ext
  simp [tx, ByteArray.extract, ByteArray.copySlice]
theorem tx_size {l : List UInt8} : (tx l).size = l.length := rfl
set_option maxHeartbeats 4000000 in
set_option maxRecDepth 100000 in
theorem body_ok (r : Rd) (hr : r.ok) : Fn Try.prog 48 [.box 0 0] (rdM r 0) (.tup [.v (.string (tx (rdT r))), .err (rdE r)]) (rdM r 0) := by
  obtain ⟨h1, h2, h3⟩ := hr
  have hb : r.b.length = r.n := by unfold Rd.b; rw [List.length_take]; omega
  have hz : (⟨r.b.toArray⟩ : ByteArray).size = r.n := hb
  have hs := sum_ok (tx (r.b.take (r.b.length - 2))) (by rw [tx_size, List.length_take]; omega)
  rw [bs_tx] at hs
  refine fn_of mixed [] [] Try.func48 rfl (by decide +kernel) Try.ntmps48 rfl (congrArg Array.toList Try.results48) rfl (by decide +kernel) ?_
  unfold rdM
  ((repeat' (conv => whnf); (first | (with_reducible refine And.intro ?_ ?_) | (with_reducible exact True.intro) | (intro h; (first | (cases h) | ((first | (simp only [wrap_byte, Int.reduceToNat, Int.toNat_natCast, not_true_eq_false, neg_tt, neg_ff, neg_t, neg_f, decide_eq_true_eq, decide_eq_false_iff_not, beq_iff_eq, beq_eq_false_iff_ne, bne_iff_ne, bne_eq_false_iff_eq, Bool.not_eq_true', Bool.not_eq_false', ne_eq, Classical.not_not, Int.not_lt, Int.not_le, List.length_map] at h) | skip); (try (exfalso; omega))))) | (with_reducible refine Vc.mk ?_; fail) | (with_reducible refine cutG ?_; fail) | (refine idx_map ?_ ?_) | (refine idx_mapI ?_ ?_ ?_) ));(all_goals (try (repeat' (conv => whnf); (first | (with_reducible refine And.intro ?_ ?_) | (with_reducible exact True.intro) | (intro h; (first | (cases h) | ((first | (simp only [wrap_byte, Int.reduceToNat, Int.toNat_natCast, not_true_eq_false, neg_tt, neg_ff, neg_t, neg_f, decide_eq_true_eq, decide_eq_false_iff_not, beq_iff_eq, beq_eq_false_iff_ne, bne_iff_ne, bne_eq_false_iff_eq, Bool.not_eq_true', Bool.not_eq_false', ne_eq, Classical.not_not, Int.not_lt, Int.not_le, List.length_map] at h) | skip); (try (exfalso; omega))))) | (with_reducible refine Vc.mk ?_; fail) | (with_reducible refine cutG ?_; fail) | (refine idx_map ?_ ?_) | (refine idx_mapI ?_ ?_ ?_) )))))
  conv => whnf
  refine ⟨r.b, by unfold Rd.b; rw [List.map_take]; rfl, ?_⟩
  ((repeat' (conv => whnf); (first | (with_reducible refine And.intro ?_ ?_) | (with_reducible exact True.intro) | (intro h; (first | (cases h) | ((first | (simp only [wrap_byte, Int.reduceToNat, Int.toNat_natCast, not_true_eq_false, neg_tt, neg_ff, neg_t, neg_f, decide_eq_true_eq, decide_eq_false_iff_not, beq_iff_eq, beq_eq_false_iff_ne, bne_iff_ne, bne_eq_false_iff_eq, Bool.not_eq_true', Bool.not_eq_false', ne_eq, Classical.not_not, Int.not_lt, Int.not_le, List.length_map] at h) | skip); (try (exfalso; omega))))) | (with_reducible refine Vc.mk ?_; fail) | (with_reducible refine cutG ?_; fail) | (refine idx_map ?_ ?_) | (refine idx_mapI ?_ ?_ ?_) ));(all_goals (try (repeat' (conv => whnf); (first | (with_reducible refine And.intro ?_ ?_) | (with_reducible exact True.intro) | (intro h; (first | (cases h) | ((first | (simp only [wrap_byte, Int.reduceToNat, Int.toNat_natCast, not_true_eq_false, neg_tt, neg_ff, neg_t, neg_f, decide_eq_true_eq, decide_eq_false_iff_not, beq_iff_eq, beq_eq_false_iff_ne, bne_iff_ne, bne_eq_false_iff_eq, Bool.not_eq_true', Bool.not_eq_false', ne_eq, Classical.not_not, Int.not_lt, Int.not_le, List.length_map] at h) | skip); (try (exfalso; omega))))) | (with_reducible refine Vc.mk ?_; fail) | (with_reducible refine cutG ?_; fail) | (refine idx_map ?_ ?_) | (refine idx_mapI ?_ ?_ ?_) )))))
  all_goals (try (refine Vc.mk ?_; first | (unfold In64; omega) | decide | omega))
  all_goals (try
    (have hE : rdE r = 4 := by
       unfold rdE bodyE
       (repeat' split) <;> first | rfl | (exfalso; omega) | (exfalso; simp_all; done)
     have hT : rdT r = [] := by unfold rdT; rw [hE, if_neg (by decide)]
     rw [hE, hT]
     ((try (conv => whnf)); refine ⟨[0, 1], rfl, rfl, ?_, ?_⟩); (repeat' (conv => whnf); (first | (with_reducible refine And.intro ?_ ?_) | (with_reducible exact True.intro) | (with_reducible exact Or.inl rfl) | (refine Vc.mk ?_; (first | (exact rfl) | (exact ⟨rfl, .inl rfl⟩) | omega | skip))))
     done))
  (refine ⟨_, _, _, _, [], hs, rfl, rfl, rfl, ?_, ?_, ?_⟩)
  · (repeat' (conv => whnf); (first | (with_reducible refine And.intro ?_ ?_) | (with_reducible exact True.intro) | (with_reducible exact Or.inl rfl) | (refine Vc.mk ?_; (first | (exact rfl) | (exact ⟨rfl, .inl rfl⟩) | omega | skip))))
  · (repeat' (conv => whnf); (first | (with_reducible refine And.intro ?_ ?_) | (with_reducible exact True.intro) | (with_reducible exact Or.inl rfl) | (refine Vc.mk ?_; (first | (exact rfl) | (exact ⟨rfl, .inl rfl⟩) | omega | skip))))
    rw [← extract_tx (by omega)]
    congr 1
    show ((r.b.length : Int) - 2).toNat = _
    omega
  have b0 := UInt8.toNat_lt (r.b.getD (r.n - 2) 0)
  have b1 := UInt8.toNat_lt (r.b.getD (r.n - 1) 0)
  have e0 : byteAt (tx r.b) ((tx r.b).size - 2 : Int).toNat = (r.b.getD (r.n - 2) 0).toNat := by rw [byteAt_tx]; congr 2; show ((r.b.length : Int) - 2).toNat = _; omega
  have e1 : byteAt (tx r.b) ((tx r.b).size - 2 + 1 : Int).toNat = (r.b.getD (r.n - 1) 0).toNat := by rw [byteAt_tx]; congr 2; show ((r.b.length : Int) - 2 + 1).toNat = _; omega
  ((repeat' (conv => whnf); (first | (with_reducible refine And.intro ?_ ?_) | (with_reducible exact True.intro) | (intro h; (first | (cases h) | ((first | (simp only [wrap_byte, Int.reduceToNat, Int.toNat_natCast, not_true_eq_false, neg_tt, neg_ff, neg_t, neg_f, decide_eq_true_eq, decide_eq_false_iff_not, beq_iff_eq, beq_eq_false_iff_ne, bne_iff_ne, bne_eq_false_iff_eq, Bool.not_eq_true', Bool.not_eq_false', ne_eq, Classical.not_not, Int.not_lt, Int.not_le, List.length_map] at h) | skip); (try (exfalso; omega))))) | (with_reducible refine Vc.mk ?_; fail) | (with_reducible refine cutG ?_; fail) | (refine idx_map ?_ ?_) | (refine idx_mapI ?_ ?_ ?_) ));(all_goals (try (repeat' (conv => whnf); (first | (with_reducible refine And.intro ?_ ?_) | (with_reducible exact True.intro) | (intro h; (first | (cases h) | ((first | (simp only [wrap_byte, Int.reduceToNat, Int.toNat_natCast, not_true_eq_false, neg_tt, neg_ff, neg_t, neg_f, decide_eq_true_eq, decide_eq_false_iff_not, beq_iff_eq, beq_eq_false_iff_ne, bne_iff_ne, bne_eq_false_iff_eq, Bool.not_eq_true', Bool.not_eq_false', ne_eq, Classical.not_not, Int.not_lt, Int.not_le, List.length_map] at h) | skip); (try (exfalso; omega))))) | (with_reducible refine Vc.mk ?_; fail) | (with_reducible refine cutG ?_; fail) | (refine idx_map ?_ ?_) | (refine idx_mapI ?_ ?_ ?_) )))))
  all_goals (try (refine Vc.mk ?_; first | omega | (unfold In64; omega) | (simp only [wrap_byte]; simp only [e0, e1]; unfold In64; omega) | decide))
  · have hE : rdE r = 5 := by
      simp only [e0, e1, hb] at h
      unfold rdE bodyE
      rw [if_neg (by simp_all), if_neg (by omega), if_neg (by rw [hb]; omega)]
    have hT : rdT r = [] := by unfold rdT; rw [hE, if_neg (by decide)]
    rw [hE, hT]
    ((try (conv => whnf)); refine ⟨[0, 1], rfl, rfl, ?_, ?_⟩); (repeat' (conv => whnf); (first | (with_reducible refine And.intro ?_ ?_) | (with_reducible exact True.intro) | (with_reducible exact Or.inl rfl) | (refine Vc.mk ?_; (first | (exact rfl) | (exact ⟨rfl, .inl rfl⟩) | omega | skip))))
  · have hE : rdE r = 0 := by
      simp only [e0, e1, hb] at h
      unfold rdE bodyE
      rw [if_neg (by simp_all), if_neg (by omega), if_pos (by rw [hb]; omega)]
    have hT : rdT r = r.b.take (r.n - 2) := by unfold rdT; rw [hE, if_pos rfl, hb]
    rw [hE, hT]
    ((try (conv => whnf)); refine ⟨[0, 1], rfl, rfl, ?_, ?_⟩); (repeat' (conv => whnf); (first | (with_reducible refine And.intro ?_ ?_) | (with_reducible exact True.intro) | (with_reducible exact Or.inl rfl) | (refine Vc.mk ?_; (first | (exact rfl) | (exact ⟨rfl, .inl rfl⟩) | omega | skip))))
    rw [← extract_tx (by omega)]
    congr 1
    show ((r.b.length : Int) - 2).toNat = _
    omega
/-- A byte comes. -/
def rdDone (r : Rd) (c : UInt8) : Bool := decide (c = 126) && !(decide (r.n = 0) && !r.x && !r.e)
def rdStep (r : Rd) (c : UInt8) : Rd :=
  if c = 126 then (if rdDone r c then ⟨[], 0, false, false⟩ else r)
  else if c = 125 then ⟨r.buf, r.n, true, r.x || r.e⟩
  else if c.toNat < 32 then ⟨r.buf, r.n, r.e, true⟩
  else if 62 < r.n + 1 then ⟨r.b ++ [if r.e then c ^^^ 32 else c], 1, false, true⟩
  else ⟨r.b ++ [if r.e then c ^^^ 32 else c], r.n + 1, false, r.x⟩
theorem rdStep_ok {r : Rd} (h : r.ok) (c : UInt8) : (rdStep r c).ok := by
  obtain ⟨h1, h2, h3⟩ := h
  have hb : r.b.length = r.n := by unfold Rd.b; rw [List.length_take]; omega
  unfold rdStep Rd.ok
  (repeat' split) <;> (try simp only [List.length_append, List.length_cons, List.length_nil, hb]) <;> omega
set_option maxHeartbeats 8000000 in
set_option maxRecDepth 100000 in
theorem take_ok (r : Rd) (hr : r.ok) (c : UInt8) : Fn Try.prog 43 [.box 0 0, .v (.int .u8 c.toNat)] (rdM r 0) (.tup [.v (.string (tx (if rdDone r c then rdT r else []))), .v (.bool (rdDone r c)), .err (if rdDone r c then rdE r else 0)]) (rdM (rdStep r c) 1) := by
  have hbody := body_ok r hr
  have hc := UInt8.toNat_lt c
  have u1 := (u8_flag (c := c)).1
  have u2 := (u8_flag (c := c)).2
  obtain ⟨h1, h2, h3⟩ := hr
  by_cases c1 : c = 126
  · subst c1
    by_cases hd : rdDone r 126 = true
    · have hS : rdStep r 126 = ⟨[], 0, false, false⟩ := by unfold rdStep; rw [if_pos rfl, if_pos hd]
      simp only [hS, hd, if_true]
      have hd' : ¬ (r.n = 0 ∧ r.x = false ∧ r.e = false) := by
        rintro ⟨e1, e2, e3⟩
        simp [rdDone, e1, e2, e3] at hd
      obtain ⟨buf, n, e, x⟩ := r
      unfold rdM at hbody ⊢
      cases e <;> cases x <;> simp only [Bool.false_eq_true, and_true, and_false, not_false_eq_true] at hd'
      all_goals
        refine fn_of mixed [] [12] Try.func43 rfl (by decide +kernel) Try.ntmps43 rfl (congrArg Array.toList Try.results43) rfl (by decide +kernel) ?_
        ((repeat' (conv => whnf); (first | (with_reducible refine And.intro ?_ ?_) | (with_reducible exact True.intro) | (intro h; (first | (cases h) | ((first | (simp only [wrap_byte, Int.reduceToNat, Int.toNat_natCast, not_true_eq_false, neg_tt, neg_ff, neg_t, neg_f, decide_eq_true_eq, decide_eq_false_iff_not, beq_iff_eq, beq_eq_false_iff_ne, bne_iff_ne, bne_eq_false_iff_eq, Bool.not_eq_true', Bool.not_eq_false', ne_eq, Classical.not_not, Int.not_lt, Int.not_le, List.length_map] at h) | skip); (try (exfalso; omega))))) | (with_reducible refine Vc.mk ?_; fail) | (with_reducible refine cutG ?_; fail) | (refine idx_map ?_ ?_) | (refine idx_mapI ?_ ?_ ?_) ));(all_goals (try (repeat' (conv => whnf); (first | (with_reducible refine And.intro ?_ ?_) | (with_reducible exact True.intro) | (intro h; (first | (cases h) | ((first | (simp only [wrap_byte, Int.reduceToNat, Int.toNat_natCast, not_true_eq_false, neg_tt, neg_ff, neg_t, neg_f, decide_eq_true_eq, decide_eq_false_iff_not, beq_iff_eq, beq_eq_false_iff_ne, bne_iff_ne, bne_eq_false_iff_eq, Bool.not_eq_true', Bool.not_eq_false', ne_eq, Classical.not_not, Int.not_lt, Int.not_le, List.length_map] at h) | skip); (try (exfalso; omega))))) | (with_reducible refine Vc.mk ?_; fail) | (with_reducible refine cutG ?_; fail) | (refine idx_map ?_ ?_) | (refine idx_mapI ?_ ?_ ?_) )))))
        all_goals (try (exfalso; omega))
        all_goals (try ((refine ⟨_, _, _, _, [0, 1], hbody, rfl, rfl, rfl, ?_, ?_, ?_⟩); (· (repeat' (conv => whnf); (first | (with_reducible refine And.intro ?_ ?_) | (with_reducible exact True.intro) | (with_reducible exact Or.inl rfl) | (refine Vc.mk ?_; (first | (exact rfl) | (exact ⟨rfl, .inl rfl⟩) | omega | skip))))); (· (repeat' (conv => whnf); (first | (with_reducible refine And.intro ?_ ?_) | (with_reducible exact True.intro) | (with_reducible exact Or.inl rfl) | (refine Vc.mk ?_; (first | (exact rfl) | (exact ⟨rfl, .inl rfl⟩) | omega | skip))))); ((repeat' (conv => whnf); (first | (with_reducible refine And.intro ?_ ?_) | (with_reducible exact True.intro) | (intro h; (first | (cases h) | ((first | (simp only [wrap_byte, Int.reduceToNat, Int.toNat_natCast, not_true_eq_false, neg_tt, neg_ff, neg_t, neg_f, decide_eq_true_eq, decide_eq_false_iff_not, beq_iff_eq, beq_eq_false_iff_ne, bne_iff_ne, bne_eq_false_iff_eq, Bool.not_eq_true', Bool.not_eq_false', ne_eq, Classical.not_not, Int.not_lt, Int.not_le, List.length_map] at h) | skip); (try (exfalso; omega))))) | (with_reducible refine Vc.mk ?_; fail) | (with_reducible refine cutG ?_; fail) | (refine idx_map ?_ ?_) | (refine idx_mapI ?_ ?_ ?_) ));(all_goals (try (repeat' (conv => whnf); (first | (with_reducible refine And.intro ?_ ?_) | (with_reducible exact True.intro) | (intro h; (first | (cases h) | ((first | (simp only [wrap_byte, Int.reduceToNat, Int.toNat_natCast, not_true_eq_false, neg_tt, neg_ff, neg_t, neg_f, decide_eq_true_eq, decide_eq_false_iff_not, beq_iff_eq, beq_eq_false_iff_ne, bne_iff_ne, bne_eq_false_iff_eq, Bool.not_eq_true', Bool.not_eq_false', ne_eq, Classical.not_not, Int.not_lt, Int.not_le, List.length_map] at h) | skip); (try (exfalso; omega))))) | (with_reducible refine Vc.mk ?_; fail) | (with_reducible refine cutG ?_; fail) | (refine idx_map ?_ ?_) | (refine idx_mapI ?_ ?_ ?_) )))))))
        all_goals
          refine ⟨_, AS.le_trans (le_anewC 1 0 0 _ rfl (by decide) rfl rfl) (AS.le_refl _ _), ?_⟩
          ((repeat' (conv => whnf); (first | (with_reducible refine And.intro ?_ ?_) | (with_reducible exact True.intro) | (intro h; (first | (cases h) | ((first | (simp only [wrap_byte, Int.reduceToNat, Int.toNat_natCast, not_true_eq_false, neg_tt, neg_ff, neg_t, neg_f, decide_eq_true_eq, decide_eq_false_iff_not, beq_iff_eq, beq_eq_false_iff_ne, bne_iff_ne, bne_eq_false_iff_eq, Bool.not_eq_true', Bool.not_eq_false', ne_eq, Classical.not_not, Int.not_lt, Int.not_le, List.length_map] at h) | skip); (try (exfalso; omega))))) | (with_reducible refine Vc.mk ?_; fail) | (with_reducible refine cutG ?_; fail) | (refine idx_map ?_ ?_) | (refine idx_mapI ?_ ?_ ?_) ));(all_goals (try (repeat' (conv => whnf); (first | (with_reducible refine And.intro ?_ ?_) | (with_reducible exact True.intro) | (intro h; (first | (cases h) | ((first | (simp only [wrap_byte, Int.reduceToNat, Int.toNat_natCast, not_true_eq_false, neg_tt, neg_ff, neg_t, neg_f, decide_eq_true_eq, decide_eq_false_iff_not, beq_iff_eq, beq_eq_false_iff_ne, bne_iff_ne, bne_eq_false_iff_eq, Bool.not_eq_true', Bool.not_eq_false', ne_eq, Classical.not_not, Int.not_lt, Int.not_le, List.length_map] at h) | skip); (try (exfalso; omega))))) | (with_reducible refine Vc.mk ?_; fail) | (with_reducible refine cutG ?_; fail) | (refine idx_map ?_ ?_) | (refine idx_mapI ?_ ?_ ?_) )))))
          ((try (conv => whnf)); refine ⟨[0, 1], rfl, rfl, ?_, ?_⟩); (repeat' (conv => whnf); (first | (with_reducible refine And.intro ?_ ?_) | (with_reducible exact True.intro) | (with_reducible exact Or.inl rfl) | (refine Vc.mk ?_; (first | (exact rfl) | (exact ⟨rfl, .inl rfl⟩) | omega | skip))))
    · have hS : rdStep r 126 = r := by unfold rdStep; rw [if_pos rfl, if_neg hd]
      have hf : rdDone r 126 = false := by simpa using hd
      simp only [hS, hf, Bool.false_eq_true, if_false]
      have hd' : r.n = 0 ∧ r.x = false ∧ r.e = false := by
        simpa [rdDone, and_assoc] using hf
      obtain ⟨buf, n, e, x⟩ := r
      obtain ⟨e1, e2, e3⟩ := hd'
      simp only at e1 e2 e3
      subst e1 e2 e3
      unfold rdM at hbody ⊢
      refine fn_of mixed [] [] Try.func43 rfl (by decide +kernel) Try.ntmps43 rfl (congrArg Array.toList Try.results43) rfl (by decide +kernel) ?_
      ((repeat' (conv => whnf); (first | (with_reducible refine And.intro ?_ ?_) | (with_reducible exact True.intro) | (intro h; (first | (cases h) | ((first | (simp only [wrap_byte, Int.reduceToNat, Int.toNat_natCast, not_true_eq_false, neg_tt, neg_ff, neg_t, neg_f, decide_eq_true_eq, decide_eq_false_iff_not, beq_iff_eq, beq_eq_false_iff_ne, bne_iff_ne, bne_eq_false_iff_eq, Bool.not_eq_true', Bool.not_eq_false', ne_eq, Classical.not_not, Int.not_lt, Int.not_le, List.length_map] at h) | skip); (try (exfalso; omega))))) | (with_reducible refine Vc.mk ?_; fail) | (with_reducible refine cutG ?_; fail) | (refine idx_map ?_ ?_) | (refine idx_mapI ?_ ?_ ?_) ));(all_goals (try (repeat' (conv => whnf); (first | (with_reducible refine And.intro ?_ ?_) | (with_reducible exact True.intro) | (intro h; (first | (cases h) | ((first | (simp only [wrap_byte, Int.reduceToNat, Int.toNat_natCast, not_true_eq_false, neg_tt, neg_ff, neg_t, neg_f, decide_eq_true_eq, decide_eq_false_iff_not, beq_iff_eq, beq_eq_false_iff_ne, bne_iff_ne, bne_eq_false_iff_eq, Bool.not_eq_true', Bool.not_eq_false', ne_eq, Classical.not_not, Int.not_lt, Int.not_le, List.length_map] at h) | skip); (try (exfalso; omega))))) | (with_reducible refine Vc.mk ?_; fail) | (with_reducible refine cutG ?_; fail) | (refine idx_map ?_ ?_) | (refine idx_mapI ?_ ?_ ?_) )))))
      all_goals (((try (conv => whnf)); refine ⟨[0, 1], rfl, rfl, ?_, ?_⟩); (repeat' (conv => whnf); (first | (with_reducible refine And.intro ?_ ?_) | (with_reducible exact True.intro) | (with_reducible exact Or.inl rfl) | (refine Vc.mk ?_; (first | (exact rfl) | (exact ⟨rfl, .inl rfl⟩) | omega | skip)))))
  have hf : rdDone r c = false := by simp [rdDone, c1]
  simp only [hf, Bool.false_eq_true, if_false]
  have n1 : ¬ (c.toNat : Int) = 126 := fun e => c1 (u1.1 e)
  by_cases c2 : c = 125
  · subst c2
    have hS : rdStep r 125 = ⟨r.buf, r.n, true, r.x || r.e⟩ := by unfold rdStep; rw [if_neg (by decide), if_pos rfl]
    simp only [hS]
    obtain ⟨buf, n, e, x⟩ := r
    unfold rdM
    cases e <;> cases x
    all_goals
      refine fn_of mixed [] [] Try.func43 rfl (by decide +kernel) Try.ntmps43 rfl (congrArg Array.toList Try.results43) rfl (by decide +kernel) ?_
      ((repeat' (conv => whnf); (first | (with_reducible refine And.intro ?_ ?_) | (with_reducible exact True.intro) | (intro h; (first | (cases h) | ((first | (simp only [wrap_byte, Int.reduceToNat, Int.toNat_natCast, not_true_eq_false, neg_tt, neg_ff, neg_t, neg_f, decide_eq_true_eq, decide_eq_false_iff_not, beq_iff_eq, beq_eq_false_iff_ne, bne_iff_ne, bne_eq_false_iff_eq, Bool.not_eq_true', Bool.not_eq_false', ne_eq, Classical.not_not, Int.not_lt, Int.not_le, List.length_map] at h) | skip); (try (exfalso; omega))))) | (with_reducible refine Vc.mk ?_; fail) | (with_reducible refine cutG ?_; fail) | (refine idx_map ?_ ?_) | (refine idx_mapI ?_ ?_ ?_) ));(all_goals (try (repeat' (conv => whnf); (first | (with_reducible refine And.intro ?_ ?_) | (with_reducible exact True.intro) | (intro h; (first | (cases h) | ((first | (simp only [wrap_byte, Int.reduceToNat, Int.toNat_natCast, not_true_eq_false, neg_tt, neg_ff, neg_t, neg_f, decide_eq_true_eq, decide_eq_false_iff_not, beq_iff_eq, beq_eq_false_iff_ne, bne_iff_ne, bne_eq_false_iff_eq, Bool.not_eq_true', Bool.not_eq_false', ne_eq, Classical.not_not, Int.not_lt, Int.not_le, List.length_map] at h) | skip); (try (exfalso; omega))))) | (with_reducible refine Vc.mk ?_; fail) | (with_reducible refine cutG ?_; fail) | (refine idx_map ?_ ?_) | (refine idx_mapI ?_ ?_ ?_) )))))
      all_goals (try (exfalso; omega))
      all_goals (((try (conv => whnf)); refine ⟨[0, 1], rfl, rfl, ?_, ?_⟩); (repeat' (conv => whnf); (first | (with_reducible refine And.intro ?_ ?_) | (with_reducible exact True.intro) | (with_reducible exact Or.inl rfl) | (refine Vc.mk ?_; (first | (exact rfl) | (exact ⟨rfl, .inl rfl⟩) | omega | skip)))))
  have n2 : ¬ (c.toNat : Int) = 125 := fun e => c2 (u2.1 e)
  by_cases c3 : c.toNat < 32
  · have hS : rdStep r c = ⟨r.buf, r.n, r.e, true⟩ := by unfold rdStep; rw [if_neg c1, if_neg c2, if_pos c3]
    simp only [hS]
    obtain ⟨buf, n, e, x⟩ := r
    unfold rdM
    refine fn_of mixed [] [] Try.func43 rfl (by decide +kernel) Try.ntmps43 rfl (congrArg Array.toList Try.results43) rfl (by decide +kernel) ?_
    ((repeat' (conv => whnf); (first | (with_reducible refine And.intro ?_ ?_) | (with_reducible exact True.intro) | (intro h; (first | (cases h) | ((first | (simp only [wrap_byte, Int.reduceToNat, Int.toNat_natCast, not_true_eq_false, neg_tt, neg_ff, neg_t, neg_f, decide_eq_true_eq, decide_eq_false_iff_not, beq_iff_eq, beq_eq_false_iff_ne, bne_iff_ne, bne_eq_false_iff_eq, Bool.not_eq_true', Bool.not_eq_false', ne_eq, Classical.not_not, Int.not_lt, Int.not_le, List.length_map] at h) | skip); (try (exfalso; omega))))) | (with_reducible refine Vc.mk ?_; fail) | (with_reducible refine cutG ?_; fail) | (refine idx_map ?_ ?_) | (refine idx_mapI ?_ ?_ ?_) ));(all_goals (try (repeat' (conv => whnf); (first | (with_reducible refine And.intro ?_ ?_) | (with_reducible exact True.intro) | (intro h; (first | (cases h) | ((first | (simp only [wrap_byte, Int.reduceToNat, Int.toNat_natCast, not_true_eq_false, neg_tt, neg_ff, neg_t, neg_f, decide_eq_true_eq, decide_eq_false_iff_not, beq_iff_eq, beq_eq_false_iff_ne, bne_iff_ne, bne_eq_false_iff_eq, Bool.not_eq_true', Bool.not_eq_false', ne_eq, Classical.not_not, Int.not_lt, Int.not_le, List.length_map] at h) | skip); (try (exfalso; omega))))) | (with_reducible refine Vc.mk ?_; fail) | (with_reducible refine cutG ?_; fail) | (refine idx_map ?_ ?_) | (refine idx_mapI ?_ ?_ ?_) )))))
    all_goals (try (exfalso; omega))
    all_goals (((try (conv => whnf)); refine ⟨[0, 1], rfl, rfl, ?_, ?_⟩); (repeat' (conv => whnf); (first | (with_reducible refine And.intro ?_ ?_) | (with_reducible exact True.intro) | (with_reducible exact Or.inl rfl) | (refine Vc.mk ?_; (first | (exact rfl) | (exact ⟨rfl, .inl rfl⟩) | omega | skip)))))
  by_cases c4 : 62 < r.n + 1
  · have hS : rdStep r c = ⟨r.b ++ [if r.e then c ^^^ 32 else c], 1, false, true⟩ := by unfold rdStep; rw [if_neg c1, if_neg c2, if_neg c3, if_pos c4]
    simp only [hS]
    obtain ⟨buf, n, e, x⟩ := r
    dsimp only at h1 h2 h3 c4
    unfold rdM
    cases e
    all_goals
      refine fn_of mixed [] [] Try.func43 rfl (by decide +kernel) Try.ntmps43 rfl (congrArg Array.toList Try.results43) rfl (by decide +kernel) ?_
      ((repeat' (conv => whnf); (first | (with_reducible refine And.intro ?_ ?_) | (with_reducible exact True.intro) | (intro h; (first | (cases h) | ((first | (simp only [wrap_byte, Int.reduceToNat, Int.toNat_natCast, not_true_eq_false, neg_tt, neg_ff, neg_t, neg_f, decide_eq_true_eq, decide_eq_false_iff_not, beq_iff_eq, beq_eq_false_iff_ne, bne_iff_ne, bne_eq_false_iff_eq, Bool.not_eq_true', Bool.not_eq_false', ne_eq, Classical.not_not, Int.not_lt, Int.not_le, List.length_map] at h) | skip); (try (exfalso; omega))))) | (with_reducible refine Vc.mk ?_; fail) | (with_reducible refine cutG ?_; fail) | (refine idx_map ?_ ?_) | (refine idx_mapI ?_ ?_ ?_) ));(all_goals (try (repeat' (conv => whnf); (first | (with_reducible refine And.intro ?_ ?_) | (with_reducible exact True.intro) | (intro h; (first | (cases h) | ((first | (simp only [wrap_byte, Int.reduceToNat, Int.toNat_natCast, not_true_eq_false, neg_tt, neg_ff, neg_t, neg_f, decide_eq_true_eq, decide_eq_false_iff_not, beq_iff_eq, beq_eq_false_iff_ne, bne_iff_ne, bne_eq_false_iff_eq, Bool.not_eq_true', Bool.not_eq_false', ne_eq, Classical.not_not, Int.not_lt, Int.not_le, List.length_map] at h) | skip); (try (exfalso; omega))))) | (with_reducible refine Vc.mk ?_; fail) | (with_reducible refine cutG ?_; fail) | (refine idx_map ?_ ?_) | (refine idx_mapI ?_ ?_ ?_) )))))
      all_goals (try (exfalso; omega))
      all_goals (try (refine Vc.mk ?_; (first | (exact rfl) | (decide) | omega | (unfold In64; omega) | (simp only [wrap_byte, Int.reduceToNat, Int.toNat_natCast, In64]; omega) | (simp only [maxLen, Fits, viewR, viewL, AV.view, List.length_map, List.length_append, List.length_cons, List.length_nil]; omega) | (simp [viewR, viewL, AV.view, ]; done) | skip)))
      all_goals (try (exfalso; simp only [viewR, viewL, List.length_cons, List.length_nil] at h; omega))
      all_goals (((try (conv => whnf)); refine ⟨[0, 1], rfl, rfl, ?_, ?_⟩); (repeat' (conv => whnf); (first | (with_reducible refine And.intro ?_ ?_) | (with_reducible exact True.intro) | (with_reducible exact Or.inl rfl) | (refine Vc.mk ?_; (first | (exact rfl) | (exact ⟨rfl, .inl rfl⟩) | omega | skip)))))
      all_goals (simp [Rd.b, bRow, List.map_take, viewR, viewL, AV.view]; first | done | exact xorU _ 32)
  · have hS : rdStep r c = ⟨r.b ++ [if r.e then c ^^^ 32 else c], r.n + 1, false, r.x⟩ := by unfold rdStep; rw [if_neg c1, if_neg c2, if_neg c3, if_neg c4]
    simp only [hS]
    obtain ⟨buf, n, e, x⟩ := r
    dsimp only at h1 h2 h3 c4
    unfold rdM
    cases e
    all_goals
      refine fn_of mixed [] [] Try.func43 rfl (by decide +kernel) Try.ntmps43 rfl (congrArg Array.toList Try.results43) rfl (by decide +kernel) ?_
      ((repeat' (conv => whnf); (first | (with_reducible refine And.intro ?_ ?_) | (with_reducible exact True.intro) | (intro h; (first | (cases h) | ((first | (simp only [wrap_byte, Int.reduceToNat, Int.toNat_natCast, not_true_eq_false, neg_tt, neg_ff, neg_t, neg_f, decide_eq_true_eq, decide_eq_false_iff_not, beq_iff_eq, beq_eq_false_iff_ne, bne_iff_ne, bne_eq_false_iff_eq, Bool.not_eq_true', Bool.not_eq_false', ne_eq, Classical.not_not, Int.not_lt, Int.not_le, List.length_map] at h) | skip); (try (exfalso; omega))))) | (with_reducible refine Vc.mk ?_; fail) | (with_reducible refine cutG ?_; fail) | (refine idx_map ?_ ?_) | (refine idx_mapI ?_ ?_ ?_) ));(all_goals (try (repeat' (conv => whnf); (first | (with_reducible refine And.intro ?_ ?_) | (with_reducible exact True.intro) | (intro h; (first | (cases h) | ((first | (simp only [wrap_byte, Int.reduceToNat, Int.toNat_natCast, not_true_eq_false, neg_tt, neg_ff, neg_t, neg_f, decide_eq_true_eq, decide_eq_false_iff_not, beq_iff_eq, beq_eq_false_iff_ne, bne_iff_ne, bne_eq_false_iff_eq, Bool.not_eq_true', Bool.not_eq_false', ne_eq, Classical.not_not, Int.not_lt, Int.not_le, List.length_map] at h) | skip); (try (exfalso; omega))))) | (with_reducible refine Vc.mk ?_; fail) | (with_reducible refine cutG ?_; fail) | (refine idx_map ?_ ?_) | (refine idx_mapI ?_ ?_ ?_) )))))
      all_goals (try (exfalso; omega))
      all_goals (try (refine Vc.mk ?_; (first | (exact rfl) | (decide) | omega | (unfold In64; omega) | (simp only [wrap_byte, Int.reduceToNat, Int.toNat_natCast, In64]; omega) | (simp only [maxLen, Fits, viewR, viewL, AV.view, List.length_map, List.length_append, List.length_cons, List.length_nil]; omega) | (simp [viewR, viewL, AV.view, ]; done) | skip)))
      all_goals (try (exfalso; simp only [viewR, viewL, List.length_cons, List.length_nil] at h; omega))
      all_goals (((try (conv => whnf)); refine ⟨[0, 1], rfl, rfl, ?_, ?_⟩); (repeat' (conv => whnf); (first | (with_reducible refine And.intro ?_ ?_) | (with_reducible exact True.intro) | (with_reducible exact Or.inl rfl) | (refine Vc.mk ?_; (first | (exact rfl) | (exact ⟨rfl, .inl rfl⟩) | omega | skip)))))
      all_goals (simp [Rd.b, bRow, List.map_take, viewR, viewL, AV.view]; first | done | exact xorU _ 32)
/-- Bytes come, one by one: what is carried, how much is bad. -/
def rdS (q : Rd × List (List UInt8) × Nat) (c : UInt8) : Rd × List (List UInt8) × Nat :=
  (rdStep q.1 c, if rdDone q.1 c && decide (rdE q.1 = 0) then q.2.1 ++ [rdT q.1] else q.2.1, if rdDone q.1 c && !decide (rdE q.1 = 0) then q.2.2 + 1 else q.2.2)
def rdAll (r : Rd) (l : List UInt8) : Rd × List (List UInt8) × Nat := l.foldl rdS (r, [], 0)
theorem rdAll_succ {r : Rd} {l : List UInt8} {k : Nat} (h : k < l.length) : rdAll r (l.take (k + 1)) = rdS (rdAll r (l.take k)) l[k] := by
  unfold rdAll
  rw [take_succ' h, List.foldl_append]; rfl
theorem rdF_ok : ∀ (l : List UInt8) (q : Rd × List (List UInt8) × Nat), q.1.ok → (l.foldl rdS q).1.ok
  | [], q, h => h
  | c :: l, q, h => rdF_ok l _ (rdStep_ok h c)
theorem rdF_len : ∀ (l : List UInt8) (q : Rd × List (List UInt8) × Nat), (l.foldl rdS q).2.1.length ≤ q.2.1.length + l.length ∧ (l.foldl rdS q).2.2 ≤ q.2.2 + l.length
  | [], q => by simp
  | c :: l, q => by
    obtain ⟨h1, h2⟩ := rdF_len l (rdS q c)
    have g : (rdS q c).2.1.length ≤ q.2.1.length + 1 ∧ (rdS q c).2.2 ≤ q.2.2 + 1 := by
      unfold rdS
      dsimp only
      constructor <;> split <;> simp
    simp only [List.foldl_cons, List.length_cons]
    omega
theorem rdAll_ok {r : Rd} (h : r.ok) (l : List UInt8) : (rdAll r l).1.ok := rdF_ok l _ h
theorem rdAll_len (r : Rd) (l : List UInt8) : (rdAll r l).2.1.length ≤ l.length ∧ (rdAll r l).2.2 ≤ l.length := by
  have := rdF_len l (r, [], 0)
  simpa [rdAll] using this
set_option maxHeartbeats 8000000 in
set_option maxRecDepth 100000 in
theorem all_ok (r : Rd) (hr : r.ok) (s : ByteArray) (hs : s.size ≤ 1000000) : Fn Try.prog 32 [.box 0 0, .v (.string s)] (rdM r 0) (.tup [.sl 1 ((rdAll r (bs s)).2.1.map fun t => sRow (tx t)) none, .v (.int .i64 (rdAll r (bs s)).2.2)]) (rdM (rdAll r (bs s)).1 1) := by
  have hl := bs_len s
  refine fn_of mixed [] [] Try.func32 rfl (by decide +kernel) Try.ntmps32 rfl (congrArg Array.toList Try.results32) rfl (by decide +kernel) ?_
  unfold rdM
  ((repeat' (conv => whnf); (first | (with_reducible refine And.intro ?_ ?_) | (with_reducible exact True.intro) | (intro h; (first | (cases h) | ((first | (simp only [wrap_byte, Int.reduceToNat, Int.toNat_natCast, not_true_eq_false, neg_tt, neg_ff, neg_t, neg_f, decide_eq_true_eq, decide_eq_false_iff_not, beq_iff_eq, beq_eq_false_iff_ne, bne_iff_ne, bne_eq_false_iff_eq, Bool.not_eq_true', Bool.not_eq_false', ne_eq, Classical.not_not, Int.not_lt, Int.not_le, List.length_map] at h) | skip); (try (exfalso; omega))))) | (with_reducible refine Vc.mk ?_; fail) | (with_reducible refine cutG ?_; fail) | (refine idx_map ?_ ?_) | (refine idx_mapI ?_ ?_ ?_) ));(all_goals (try (repeat' (conv => whnf); (first | (with_reducible refine And.intro ?_ ?_) | (with_reducible exact True.intro) | (intro h; (first | (cases h) | ((first | (simp only [wrap_byte, Int.reduceToNat, Int.toNat_natCast, not_true_eq_false, neg_tt, neg_ff, neg_t, neg_f, decide_eq_true_eq, decide_eq_false_iff_not, beq_iff_eq, beq_eq_false_iff_ne, bne_iff_ne, bne_eq_false_iff_eq, Bool.not_eq_true', Bool.not_eq_false', ne_eq, Classical.not_not, Int.not_lt, Int.not_le, List.length_map] at h) | skip); (try (exfalso; omega))))) | (with_reducible refine Vc.mk ?_; fail) | (with_reducible refine cutG ?_; fail) | (refine idx_map ?_ ?_) | (refine idx_mapI ?_ ?_ ?_) )))))
  refine lpG (fun k : Nat => ⟨[(0, .box 0 0), (1, .v (.string s)), (4, .sl 1 ((rdAll r ((bs s).take k)).2.1.map fun t => sRow (tx t)) (some (2, 1))), (5, .v (.int .i64 (rdAll r ((bs s).take k)).2.2)), (11, .v (.int .i64 s.size)), (12, .v (.int .i64 k))], [.cells [.arr 1 1 (rdAll r ((bs s).take k)).1.n, .v (.bool (rdAll r ((bs s).take k)).1.e), .v (.bool (rdAll r ((bs s).take k)).1.x)], .arr true 5 1 1 ((rdAll r ((bs s).take k)).1.buf.map bRow), .grow 9 1 1]⟩) (fun k => k ≤ s.size) (fun k => s.size - k) 0 (by omega) (by
    refine AS.le_trans (le_nil 4 9 1 rfl) ?_
    (refine le_sub [0, 1, 2] rfl rfl ?_ ?_); all_goals ((repeat' (conv => whnf); (first | (with_reducible refine And.intro ?_ ?_) | (with_reducible exact True.intro) | (with_reducible exact Or.inl rfl) | (refine Vc.mk ?_; (first | (exact rfl) | (exact ⟨rfl, .inl rfl⟩) | omega | skip)))); all_goals (try first | rfl | (simp [rdAll]; done)))) ?_
  rintro k hk
  have hR := rdAll_ok hr ((bs s).take k)
  have hN := rdAll_len r ((bs s).take k)
  rw [List.length_take] at hN
  obtain ⟨hN1, hN2⟩ := hN
  by_cases hk' : k < (bs s).length
  · have hS := rdAll_succ (r := r) hk'
    generalize hq : rdAll r ((bs s).take k) = q at *
    obtain ⟨R, out, bad⟩ := q
    dsimp only at hR hN1 hN2 ⊢
    have ht := take_ok R hR (bs s)[k]
    have hbt := byteAt_eq hk'
    unfold rdM at ht
    unfold rdS at hS
    dsimp only at hS
    ((repeat' (conv => whnf); (first | (with_reducible refine And.intro ?_ ?_) | (with_reducible exact True.intro) | (intro h; (first | (cases h) | ((first | (simp only [wrap_byte, Int.reduceToNat, Int.toNat_natCast, not_true_eq_false, neg_tt, neg_ff, neg_t, neg_f, decide_eq_true_eq, decide_eq_false_iff_not, beq_iff_eq, beq_eq_false_iff_ne, bne_iff_ne, bne_eq_false_iff_eq, Bool.not_eq_true', Bool.not_eq_false', ne_eq, Classical.not_not, Int.not_lt, Int.not_le, List.length_map] at h) | skip); (try (exfalso; omega))))) | (with_reducible refine Vc.mk ?_; fail) | (with_reducible refine cutG ?_; fail) | (refine idx_map ?_ ?_) | (refine idx_mapI ?_ ?_ ?_) ));(all_goals (try (repeat' (conv => whnf); (first | (with_reducible refine And.intro ?_ ?_) | (with_reducible exact True.intro) | (intro h; (first | (cases h) | ((first | (simp only [wrap_byte, Int.reduceToNat, Int.toNat_natCast, not_true_eq_false, neg_tt, neg_ff, neg_t, neg_f, decide_eq_true_eq, decide_eq_false_iff_not, beq_iff_eq, beq_eq_false_iff_ne, bne_iff_ne, bne_eq_false_iff_eq, Bool.not_eq_true', Bool.not_eq_false', ne_eq, Classical.not_not, Int.not_lt, Int.not_le, List.length_map] at h) | skip); (try (exfalso; omega))))) | (with_reducible refine Vc.mk ?_; fail) | (with_reducible refine cutG ?_; fail) | (refine idx_map ?_ ?_) | (refine idx_mapI ?_ ?_ ?_) )))))
    all_goals (try (exfalso; omega))
    all_goals (try (refine Vc.mk ?_; (first | (exact rfl) | (decide) | omega | (unfold In64; omega) | (simp only [wrap_byte, Int.reduceToNat, Int.toNat_natCast, In64]; omega) | (simp only [maxLen, Fits, viewR, viewL, AV.view, List.length_map, List.length_append, List.length_cons, List.length_nil]; omega) | (simp [viewR, viewL, AV.view, ]; done) | skip)))
    by_cases hd : rdDone R (bs s)[k] = true
    · by_cases he : rdE R = 0
      · simp only [hd, he, if_true] at ht
        simp only [hd, he, decide_true, Bool.and_self, if_true, Bool.not_true, Bool.and_false, Bool.false_eq_true, if_false] at hS
        (refine ⟨_, _, _, _, [0, 1], ht, rfl, rfl, rfl, ?_, ?_, ?_⟩)
        · (repeat' (conv => whnf); (first | (with_reducible refine And.intro ?_ ?_) | (with_reducible exact True.intro) | (with_reducible exact Or.inl rfl) | (refine Vc.mk ?_; (first | (exact rfl) | (exact ⟨rfl, .inl rfl⟩) | omega | skip))))
        · (repeat' (conv => whnf); (first | (with_reducible refine And.intro ?_ ?_) | (with_reducible exact True.intro) | (with_reducible exact Or.inl rfl) | (refine Vc.mk ?_; (first | (exact rfl) | (exact ⟨rfl, .inl rfl⟩) | omega | skip))))
          rw [Int.toNat_natCast, hbt]
        ((repeat' (conv => whnf); (first | (with_reducible refine And.intro ?_ ?_) | (with_reducible exact True.intro) | (intro h; (first | (cases h) | ((first | (simp only [wrap_byte, Int.reduceToNat, Int.toNat_natCast, not_true_eq_false, neg_tt, neg_ff, neg_t, neg_f, decide_eq_true_eq, decide_eq_false_iff_not, beq_iff_eq, beq_eq_false_iff_ne, bne_iff_ne, bne_eq_false_iff_eq, Bool.not_eq_true', Bool.not_eq_false', ne_eq, Classical.not_not, Int.not_lt, Int.not_le, List.length_map] at h) | skip); (try (exfalso; omega))))) | (with_reducible refine Vc.mk ?_; fail) | (with_reducible refine cutG ?_; fail) | (refine idx_map ?_ ?_) | (refine idx_mapI ?_ ?_ ?_) ));(all_goals (try (repeat' (conv => whnf); (first | (with_reducible refine And.intro ?_ ?_) | (with_reducible exact True.intro) | (intro h; (first | (cases h) | ((first | (simp only [wrap_byte, Int.reduceToNat, Int.toNat_natCast, not_true_eq_false, neg_tt, neg_ff, neg_t, neg_f, decide_eq_true_eq, decide_eq_false_iff_not, beq_iff_eq, beq_eq_false_iff_ne, bne_iff_ne, bne_eq_false_iff_eq, Bool.not_eq_true', Bool.not_eq_false', ne_eq, Classical.not_not, Int.not_lt, Int.not_le, List.length_map] at h) | skip); (try (exfalso; omega))))) | (with_reducible refine Vc.mk ?_; fail) | (with_reducible refine cutG ?_; fail) | (refine idx_map ?_ ?_) | (refine idx_mapI ?_ ?_ ?_) )))))
        all_goals (try (refine Vc.mk ?_; (first | (exact rfl) | (decide) | omega | (unfold In64; omega) | (simp only [wrap_byte, Int.reduceToNat, Int.toNat_natCast, In64]; omega) | (simp only [maxLen, Fits, viewR, viewL, AV.view, List.length_map, List.length_append, List.length_cons, List.length_nil]; omega) | (simp [viewR, viewL, AV.view, ]; done) | skip)))
        all_goals (try (exact absurd rfl h))
        refine nextG (k + 1) (by omega) (by omega) (by rw [hS]; (refine le_sub [0, 1, 2] rfl rfl ?_ ?_); all_goals ((repeat' (conv => whnf); (first | (with_reducible refine And.intro ?_ ?_) | (with_reducible exact True.intro) | (with_reducible exact Or.inl rfl) | (refine Vc.mk ?_; (first | (exact rfl) | (exact ⟨rfl, .inl rfl⟩) | omega | skip)))); all_goals (try (simp [sRow, viewR, viewL, AV.view]; done))))
      · simp only [hd, if_true] at ht
        simp only [hd, he, decide_false, Bool.and_false, Bool.not_false, Bool.and_self, if_true, Bool.false_eq_true, if_false] at hS
        (refine ⟨_, _, _, _, [0, 1], ht, rfl, rfl, rfl, ?_, ?_, ?_⟩)
        · (repeat' (conv => whnf); (first | (with_reducible refine And.intro ?_ ?_) | (with_reducible exact True.intro) | (with_reducible exact Or.inl rfl) | (refine Vc.mk ?_; (first | (exact rfl) | (exact ⟨rfl, .inl rfl⟩) | omega | skip))))
        · (repeat' (conv => whnf); (first | (with_reducible refine And.intro ?_ ?_) | (with_reducible exact True.intro) | (with_reducible exact Or.inl rfl) | (refine Vc.mk ?_; (first | (exact rfl) | (exact ⟨rfl, .inl rfl⟩) | omega | skip))))
          rw [Int.toNat_natCast, hbt]
        ((repeat' (conv => whnf); (first | (with_reducible refine And.intro ?_ ?_) | (with_reducible exact True.intro) | (intro h; (first | (cases h) | ((first | (simp only [wrap_byte, Int.reduceToNat, Int.toNat_natCast, not_true_eq_false, neg_tt, neg_ff, neg_t, neg_f, decide_eq_true_eq, decide_eq_false_iff_not, beq_iff_eq, beq_eq_false_iff_ne, bne_iff_ne, bne_eq_false_iff_eq, Bool.not_eq_true', Bool.not_eq_false', ne_eq, Classical.not_not, Int.not_lt, Int.not_le, List.length_map] at h) | skip); (try (exfalso; omega))))) | (with_reducible refine Vc.mk ?_; fail) | (with_reducible refine cutG ?_; fail) | (refine idx_map ?_ ?_) | (refine idx_mapI ?_ ?_ ?_) ));(all_goals (try (repeat' (conv => whnf); (first | (with_reducible refine And.intro ?_ ?_) | (with_reducible exact True.intro) | (intro h; (first | (cases h) | ((first | (simp only [wrap_byte, Int.reduceToNat, Int.toNat_natCast, not_true_eq_false, neg_tt, neg_ff, neg_t, neg_f, decide_eq_true_eq, decide_eq_false_iff_not, beq_iff_eq, beq_eq_false_iff_ne, bne_iff_ne, bne_eq_false_iff_eq, Bool.not_eq_true', Bool.not_eq_false', ne_eq, Classical.not_not, Int.not_lt, Int.not_le, List.length_map] at h) | skip); (try (exfalso; omega))))) | (with_reducible refine Vc.mk ?_; fail) | (with_reducible refine cutG ?_; fail) | (refine idx_map ?_ ?_) | (refine idx_mapI ?_ ?_ ?_) )))))
        all_goals (try (refine Vc.mk ?_; (first | (exact rfl) | (decide) | omega | (unfold In64; omega) | (simp only [wrap_byte, Int.reduceToNat, Int.toNat_natCast, In64]; omega) | (simp only [maxLen, Fits, viewR, viewL, AV.view, List.length_map, List.length_append, List.length_cons, List.length_nil]; omega) | (simp [viewR, viewL, AV.view, ]; done) | skip)))
        all_goals (try (exact absurd h he))
        refine nextG (k + 1) (by omega) (by omega) (by rw [hS]; (refine le_sub [0, 1, 2] rfl rfl ?_ ?_); all_goals ((repeat' (conv => whnf); (first | (with_reducible refine And.intro ?_ ?_) | (with_reducible exact True.intro) | (with_reducible exact Or.inl rfl) | (refine Vc.mk ?_; (first | (exact rfl) | (exact ⟨rfl, .inl rfl⟩) | omega | skip)))); all_goals (try (simp [sRow, viewR, viewL, AV.view]; done))))
    · have hf : rdDone R (bs s)[k] = false := by simpa using hd
      simp only [hf, Bool.false_eq_true, if_false] at ht
      simp only [hf, Bool.false_and, Bool.false_eq_true, if_false] at hS
      (refine ⟨_, _, _, _, [0, 1], ht, rfl, rfl, rfl, ?_, ?_, ?_⟩)
      · (repeat' (conv => whnf); (first | (with_reducible refine And.intro ?_ ?_) | (with_reducible exact True.intro) | (with_reducible exact Or.inl rfl) | (refine Vc.mk ?_; (first | (exact rfl) | (exact ⟨rfl, .inl rfl⟩) | omega | skip))))
      · (repeat' (conv => whnf); (first | (with_reducible refine And.intro ?_ ?_) | (with_reducible exact True.intro) | (with_reducible exact Or.inl rfl) | (refine Vc.mk ?_; (first | (exact rfl) | (exact ⟨rfl, .inl rfl⟩) | omega | skip))))
        rw [Int.toNat_natCast, hbt]
      ((repeat' (conv => whnf); (first | (with_reducible refine And.intro ?_ ?_) | (with_reducible exact True.intro) | (intro h; (first | (cases h) | ((first | (simp only [wrap_byte, Int.reduceToNat, Int.toNat_natCast, not_true_eq_false, neg_tt, neg_ff, neg_t, neg_f, decide_eq_true_eq, decide_eq_false_iff_not, beq_iff_eq, beq_eq_false_iff_ne, bne_iff_ne, bne_eq_false_iff_eq, Bool.not_eq_true', Bool.not_eq_false', ne_eq, Classical.not_not, Int.not_lt, Int.not_le, List.length_map] at h) | skip); (try (exfalso; omega))))) | (with_reducible refine Vc.mk ?_; fail) | (with_reducible refine cutG ?_; fail) | (refine idx_map ?_ ?_) | (refine idx_mapI ?_ ?_ ?_) ));(all_goals (try (repeat' (conv => whnf); (first | (with_reducible refine And.intro ?_ ?_) | (with_reducible exact True.intro) | (intro h; (first | (cases h) | ((first | (simp only [wrap_byte, Int.reduceToNat, Int.toNat_natCast, not_true_eq_false, neg_tt, neg_ff, neg_t, neg_f, decide_eq_true_eq, decide_eq_false_iff_not, beq_iff_eq, beq_eq_false_iff_ne, bne_iff_ne, bne_eq_false_iff_eq, Bool.not_eq_true', Bool.not_eq_false', ne_eq, Classical.not_not, Int.not_lt, Int.not_le, List.length_map] at h) | skip); (try (exfalso; omega))))) | (with_reducible refine Vc.mk ?_; fail) | (with_reducible refine cutG ?_; fail) | (refine idx_map ?_ ?_) | (refine idx_mapI ?_ ?_ ?_) )))))
      all_goals (try (refine Vc.mk ?_; (first | (exact rfl) | (decide) | omega | (unfold In64; omega) | (simp only [wrap_byte, Int.reduceToNat, Int.toNat_natCast, In64]; omega) | (simp only [maxLen, Fits, viewR, viewL, AV.view, List.length_map, List.length_append, List.length_cons, List.length_nil]; omega) | (simp [viewR, viewL, AV.view, ]; done) | skip)))
      refine nextG (k + 1) (by omega) (by omega) (by rw [hS]; (refine le_sub [0, 1, 2] rfl rfl ?_ ?_); all_goals ((repeat' (conv => whnf); (first | (with_reducible refine And.intro ?_ ?_) | (with_reducible exact True.intro) | (with_reducible exact Or.inl rfl) | (refine Vc.mk ?_; (first | (exact rfl) | (exact ⟨rfl, .inl rfl⟩) | omega | skip)))); all_goals (try (simp [sRow, viewR, viewL, AV.view]; done))))
  · have e : k = (bs s).length := by omega
    subst e
    rw [List.take_length]
    ((repeat' (conv => whnf); (first | (with_reducible refine And.intro ?_ ?_) | (with_reducible exact True.intro) | (intro h; (first | (cases h) | ((first | (simp only [wrap_byte, Int.reduceToNat, Int.toNat_natCast, not_true_eq_false, neg_tt, neg_ff, neg_t, neg_f, decide_eq_true_eq, decide_eq_false_iff_not, beq_iff_eq, beq_eq_false_iff_ne, bne_iff_ne, bne_eq_false_iff_eq, Bool.not_eq_true', Bool.not_eq_false', ne_eq, Classical.not_not, Int.not_lt, Int.not_le, List.length_map] at h) | skip); (try (exfalso; omega))))) | (with_reducible refine Vc.mk ?_; fail) | (with_reducible refine cutG ?_; fail) | (refine idx_map ?_ ?_) | (refine idx_mapI ?_ ?_ ?_) ));(all_goals (try (repeat' (conv => whnf); (first | (with_reducible refine And.intro ?_ ?_) | (with_reducible exact True.intro) | (intro h; (first | (cases h) | ((first | (simp only [wrap_byte, Int.reduceToNat, Int.toNat_natCast, not_true_eq_false, neg_tt, neg_ff, neg_t, neg_f, decide_eq_true_eq, decide_eq_false_iff_not, beq_iff_eq, beq_eq_false_iff_ne, bne_iff_ne, bne_eq_false_iff_eq, Bool.not_eq_true', Bool.not_eq_false', ne_eq, Classical.not_not, Int.not_lt, Int.not_le, List.length_map] at h) | skip); (try (exfalso; omega))))) | (with_reducible refine Vc.mk ?_; fail) | (with_reducible refine cutG ?_; fail) | (refine idx_map ?_ ?_) | (refine idx_mapI ?_ ?_ ?_) )))))
    all_goals (try (exfalso; omega))
    ((try (conv => whnf)); refine ⟨[0, 1], rfl, rfl, ?_, ?_⟩); (repeat' (conv => whnf); (first | (with_reducible refine And.intro ?_ ?_) | (with_reducible exact True.intro) | (with_reducible exact Or.inl rfl) | (refine Vc.mk ?_; (first | (exact rfl) | (exact ⟨rfl, .inl rfl⟩) | omega | skip))))
end Go.Proofs.Ytimfnpjcedjmiab
