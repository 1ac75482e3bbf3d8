/-
  The reference's reading of frames.
-/
import Derived.Test.YtimfnpjcedjmiabMRd
namespace Go.Proofs.Ytimfnpjcedjmiab
open Go.RowKit
set_option linter.unusedSimpArgs false
set_option linter.unusedVariables false
def carL : List UInt8 → List UInt8 → Option (List UInt8)
  | [], acc => some acc
  | c :: r, acc =>
    if c.toNat < 32 then none
    else if c = 125 then
      match r with
      | [] => none
      | d :: r' => if d = 125 ∨ d.toNat < 32 then none else if 62 < acc.length + 1 then none else carL r' (acc ++ [d ^^^ 32])
    else if 62 < acc.length + 1 then none else carL r (acc ++ [c])
def carE (s : List UInt8) : Int := match carL s [] with
  | none => 4
  | some b => bodyE b
def carT (s : List UInt8) : List UInt8 := match carL s [] with
  | none => []
  | some b => bodyT b
theorem carL_low {c : UInt8} {r acc : List UInt8} (h : c.toNat < 32) : carL (c :: r) acc = none := by unfold carL; rw [if_pos h]
theorem carL_esc0 {acc : List UInt8} : carL [125] acc = none := by unfold carL; rw [if_neg (by decide), if_pos rfl]
theorem carL_escB {d : UInt8} {r acc : List UInt8} (h : d = 125 ∨ d.toNat < 32) : carL (125 :: d :: r) acc = none := by unfold carL; rw [if_neg (by decide), if_pos rfl]; simp only; rw [if_pos h]
theorem carL_escM {d : UInt8} {r acc : List UInt8} (h2 : 62 < acc.length + 1) : carL (125 :: d :: r) acc = none := by
  unfold carL; rw [if_neg (by decide), if_pos rfl]; simp only; split <;> first | rfl | (rw [if_pos h2])
theorem carL_esc {d : UInt8} {r acc : List UInt8} (h : ¬ (d = 125 ∨ d.toNat < 32)) (h2 : ¬ 62 < acc.length + 1) : carL (125 :: d :: r) acc = carL r (acc ++ [d ^^^ 32]) := by
  conv => lhs; unfold carL
  rw [if_neg (by decide), if_pos rfl]; simp only; rw [if_neg h, if_neg h2]
theorem carL_many {c : UInt8} {r acc : List UInt8} (h : c ≠ 125) (h2 : 62 < acc.length + 1) : carL (c :: r) acc = none := by
  unfold carL; split <;> first | rfl | (rw [if_neg h, if_pos h2]) | (rw [if_pos h2])
theorem carL_one {c : UInt8} {r acc : List UInt8} (h : ¬ c.toNat < 32) (h1 : c ≠ 125) (h2 : ¬ 62 < acc.length + 1) : carL (c :: r) acc = carL r (acc ++ [c]) := by
  conv => lhs; unfold carL
  rw [if_neg h, if_neg h1, if_neg h2]
/-- Reading, byte by byte: what is carried, what is bad, what came since the last flag. -/
abbrev Rg := List (List UInt8) × List Int × List UInt8
def rgS (q : Rg) (c : UInt8) : Rg :=
  if c = 126 then (if q.2.2 = [] then (q.1, q.2.1, []) else if carE q.2.2 = 0 then (q.1 ++ [carT q.2.2], q.2.1, []) else (q.1, q.2.1 ++ [carE q.2.2], []))
  else (q.1, q.2.1, q.2.2 ++ [c])
def rgAll (l : List UInt8) : Rg := l.foldl rgS ([], [], [])
theorem rgAll_succ {l : List UInt8} {k : Nat} (h : k < l.length) : rgAll (l.take (k + 1)) = rgS (rgAll (l.take k)) l[k] := by
  unfold rgAll
  rw [take_succ' h, List.foldl_append]; rfl
theorem rgF_len : ∀ (l : List UInt8) (q : Rg), (l.foldl rgS q).1.length ≤ q.1.length + l.length ∧ (l.foldl rgS q).2.1.length ≤ q.2.1.length + l.length
  | [], q => by simp
  | c :: l, q => by
    obtain ⟨h1, h2⟩ := rgF_len l (rgS q c)
    have g : (rgS q c).1.length ≤ q.1.length + 1 ∧ (rgS q c).2.1.length ≤ q.2.1.length + 1 := by
      unfold rgS
      (repeat' split) <;> simp
    simp only [List.foldl_cons, List.length_cons]
    omega
theorem rgAll_len (l : List UInt8) : (rgAll l).1.length ≤ l.length ∧ (rgAll l).2.1.length ≤ l.length := by
  have := rgF_len l ([], [], [])
  simpa [rgAll] using this
theorem extract_bs (s : ByteArray) {a b : Nat} (h : b ≤ (bs s).length) : s.extract a b = tx (((bs s).take b).drop a) := by
  apply ByteArray.ext
  rw [ByteArray.data_extract]
  apply Array.ext'
  simp [bs, List.drop_take]
theorem toList_bs (s : ByteArray) : s.toList = bs s := by
  rw [ByteArray.toList_eq]
set_option maxHeartbeats 4000000 in
set_option maxRecDepth 100000 in
theorem sameTexts_ok (la lb : List ByteArray) (ha : la.length ≤ 1000000) : Fn Try.prog 33 [.sl 1 (la.map sRow) none, .sl 1 (lb.map sRow) none] [] (.v (.bool (decide (la = lb)))) [] := by
  refine fn_of mixed [] [] Try.func33 rfl (by decide +kernel) Try.ntmps33 rfl (congrArg Array.toList Try.results33) rfl (by decide +kernel) ?_
  ((repeat' (conv => whnf); (first | (with_reducible refine And.intro ?_ ?_) | (with_reducible exact True.intro) | (intro h; (first | (cases h) | ((first | (simp only [wrap_byte, Int.reduceToNat, Int.toNat_natCast, not_true_eq_false, neg_tt, neg_ff, neg_t, neg_f, decide_eq_true_eq, decide_eq_false_iff_not, beq_iff_eq, beq_eq_false_iff_ne, bne_iff_ne, bne_eq_false_iff_eq, Bool.not_eq_true', Bool.not_eq_false', ne_eq, Classical.not_not, Int.not_lt, Int.not_le, List.length_map] at h) | skip); (try (exfalso; omega))))) | (with_reducible refine Vc.mk ?_; fail) | (with_reducible refine cutG ?_; fail) | (refine idx_map ?_ ?_) | (refine idx_mapI ?_ ?_ ?_) ));(all_goals (try (repeat' (conv => whnf); (first | (with_reducible refine And.intro ?_ ?_) | (with_reducible exact True.intro) | (intro h; (first | (cases h) | ((first | (simp only [wrap_byte, Int.reduceToNat, Int.toNat_natCast, not_true_eq_false, neg_tt, neg_ff, neg_t, neg_f, decide_eq_true_eq, decide_eq_false_iff_not, beq_iff_eq, beq_eq_false_iff_ne, bne_iff_ne, bne_eq_false_iff_eq, Bool.not_eq_true', Bool.not_eq_false', ne_eq, Classical.not_not, Int.not_lt, Int.not_le, List.length_map] at h) | skip); (try (exfalso; omega))))) | (with_reducible refine Vc.mk ?_; fail) | (with_reducible refine cutG ?_; fail) | (refine idx_map ?_ ?_) | (refine idx_mapI ?_ ?_ ?_) )))))
  · have : ¬ la = lb := by rintro rfl; omega
    ((try (conv => whnf)); refine ⟨[], rfl, rfl, ?_, ?_⟩); (repeat' (conv => whnf); (first | (with_reducible refine And.intro ?_ ?_) | (with_reducible exact True.intro) | (with_reducible exact Or.inl rfl) | (refine Vc.mk ?_; (first | (exact rfl) | (exact ⟨rfl, .inl rfl⟩) | omega | skip))))
    simp [this]
  refine lpG (fun k : Nat => ⟨[(0, .sl 1 (la.map sRow) none), (1, .sl 1 (lb.map sRow) none), (5, .v (.int .i64 k))], []⟩) (fun k => k ≤ la.length ∧ ∀ i, i < k → la[i]? = lb[i]?) (fun k => la.length - k) 0 ⟨by omega, fun i hi => by omega⟩ (by (refine le_sub [] rfl rfl ?_ ?_); all_goals (repeat' (conv => whnf); (first | (with_reducible refine And.intro ?_ ?_) | (with_reducible exact True.intro) | (with_reducible exact Or.inl rfl) | (refine Vc.mk ?_; (first | (exact rfl) | (exact ⟨rfl, .inl rfl⟩) | omega | skip))))) ?_
  rintro k ⟨hk, hp⟩
  ((repeat' (conv => whnf); (first | (with_reducible refine And.intro ?_ ?_) | (with_reducible exact True.intro) | (intro h; (first | (cases h) | ((first | (simp only [wrap_byte, Int.reduceToNat, Int.toNat_natCast, not_true_eq_false, neg_tt, neg_ff, neg_t, neg_f, decide_eq_true_eq, decide_eq_false_iff_not, beq_iff_eq, beq_eq_false_iff_ne, bne_iff_ne, bne_eq_false_iff_eq, Bool.not_eq_true', Bool.not_eq_false', ne_eq, Classical.not_not, Int.not_lt, Int.not_le, List.length_map] at h) | skip); (try (exfalso; omega))))) | (with_reducible refine Vc.mk ?_; fail) | (with_reducible refine cutG ?_; fail) | (refine idx_map ?_ ?_) | (refine idx_mapI ?_ ?_ ?_) ));(all_goals (try (repeat' (conv => whnf); (first | (with_reducible refine And.intro ?_ ?_) | (with_reducible exact True.intro) | (intro h; (first | (cases h) | ((first | (simp only [wrap_byte, Int.reduceToNat, Int.toNat_natCast, not_true_eq_false, neg_tt, neg_ff, neg_t, neg_f, decide_eq_true_eq, decide_eq_false_iff_not, beq_iff_eq, beq_eq_false_iff_ne, bne_iff_ne, bne_eq_false_iff_eq, Bool.not_eq_true', Bool.not_eq_false', ne_eq, Classical.not_not, Int.not_lt, Int.not_le, List.length_map] at h) | skip); (try (exfalso; omega))))) | (with_reducible refine Vc.mk ?_; fail) | (with_reducible refine cutG ?_; fail) | (refine idx_map ?_ ?_) | (refine idx_mapI ?_ ?_ ?_) )))))
  all_goals (try omega)
  all_goals (try (refine Vc.mk ?_; (first | (exact rfl) | (decide) | omega | (unfold In64; omega) | (simp only [wrap_byte, Int.reduceToNat, Int.toNat_natCast, In64]; omega) | (simp only [maxLen, Fits, viewR, viewL, AV.view, List.length_map, List.length_append, List.length_cons, List.length_nil]; omega) | (simp [viewR, viewL, AV.view, ]; done) | skip)))
  · have : ¬ la = lb := by
      rintro rfl
      simp at h
    ((try (conv => whnf)); refine ⟨[], rfl, rfl, ?_, ?_⟩)
    · (repeat' (conv => whnf); (first | (with_reducible refine And.intro ?_ ?_) | (with_reducible exact True.intro) | (with_reducible exact Or.inl rfl) | (refine Vc.mk ?_; (first | (exact rfl) | (exact ⟨rfl, .inl rfl⟩) | omega | skip))))
    · (repeat' (conv => whnf); (first | (with_reducible refine And.intro ?_ ?_) | (with_reducible exact True.intro) | (with_reducible exact Or.inl rfl) | (refine Vc.mk ?_; (first | (exact rfl) | (exact ⟨rfl, .inl rfl⟩) | omega | skip))))
      all_goals simp [this]
  · refine nextG (k + 1) ⟨by omega, fun i hi => ?_⟩ (by omega) (by (refine le_sub [] rfl rfl ?_ ?_); all_goals (repeat' (conv => whnf); (first | (with_reducible refine And.intro ?_ ?_) | (with_reducible exact True.intro) | (with_reducible exact Or.inl rfl) | (refine Vc.mk ?_; (first | (exact rfl) | (exact ⟨rfl, .inl rfl⟩) | omega | skip)))))
    by_cases hik : i = k
    · subst hik
      rw [List.getElem?_eq_getElem (by omega), List.getElem?_eq_getElem (by omega)]
      simp [toList_bs] at h
      congr 1
      rw [← tx_bs la[i], ← tx_bs lb[i]]
      congr 1
      simp [bs, h]
    · exact hp i (by omega)
  · have : la = lb := List.ext_getElem? fun i => by
      by_cases hi : i < k
      · exact hp i hi
      · rw [List.getElem?_eq_none (by omega), List.getElem?_eq_none (by omega)]
    ((try (conv => whnf)); refine ⟨[], rfl, rfl, ?_, ?_⟩)
    · (repeat' (conv => whnf); (first | (with_reducible refine And.intro ?_ ?_) | (with_reducible exact True.intro) | (with_reducible exact Or.inl rfl) | (refine Vc.mk ?_; (first | (exact rfl) | (exact ⟨rfl, .inl rfl⟩) | omega | skip))))
    · (repeat' (conv => whnf); (first | (with_reducible refine And.intro ?_ ?_) | (with_reducible exact True.intro) | (with_reducible exact Or.inl rfl) | (refine Vc.mk ?_; (first | (exact rfl) | (exact ⟨rfl, .inl rfl⟩) | omega | skip))))
      all_goals simp [this]
end Go.Proofs.Ytimfnpjcedjmiab
