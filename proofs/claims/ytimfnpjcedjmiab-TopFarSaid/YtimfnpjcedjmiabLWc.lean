/-
  Plain law: a best way goes by its first edge and then a best way; and the way back.
-/
import Derived.Test.YtimfnpjcedjmiabLWa
namespace Go.Proofs.Ytimfnpjcedjmiab
set_option linter.unusedSimpArgs false
set_option linter.unusedVariables false
section
variable {M : Int → Int → Int}
theorem wk_first {r n d f : Int} (h : Wk M r n d f) : 0 < M r f ∧ ((n = f ∧ d = M r f) ∨ ∃ g, Wk M f n (d - M r f) g) := by
  induction h with
  | one h hm => exact ⟨hm, .inl ⟨rfl, rfl⟩⟩
  | @step u n d f hu hn hm ih =>
    obtain ⟨h0, h1⟩ := ih
    refine ⟨h0, .inr ?_⟩
    rcases h1 with ⟨rfl, rfl⟩ | ⟨g, h1⟩
    · refine ⟨n, ?_⟩
      rw [show M r u + M u n - M r u = M u n from by omega]
      exact .one hn hm
    · refine ⟨g, ?_⟩
      rw [show d + M u n - M r f = (d - M r f) + M u n from by omega]
      exact .step h1 hn hm
theorem wk_cons {r u n d f : Int} (hu : nod u) (hm : 0 < M r u) (h : Wk M u n d f) : Wk M r n (M r u + d) u := by
  induction h with
  | @one n h hm' => exact .step (.one hu hm) h hm'
  | @step v n d f hv hn hm' ih =>
    rw [← Int.add_assoc]
    exact .step ih hn hm'
/-- The best way goes by its first edge, and from there it is the best. -/
theorem Best.first {r n d f : Int} (h : Best M r n d f) : nod n ∧ nod f ∧ 0 < M r f ∧ ((n = f ∧ d = M r f) ∨ (n ≠ f ∧ ∃ d' f', Best M f n d' f' ∧ d = M r f + d' ∧ 0 < d')) := by
  obtain ⟨hne, hw, hmin⟩ := h
  have hnd := hw.nod
  obtain ⟨h0, h1⟩ := wk_first hw
  refine ⟨hnd.1, hnd.2, h0, ?_⟩
  by_cases e : n = f
  · subst e
    refine .inl ⟨rfl, ?_⟩
    rcases h1 with ⟨_, e⟩ | ⟨g, h1⟩
    · exact e
    · have := h1.pos
      have := hmin _ _ (.one hnd.1 h0)
      unfold lx at this; omega
  · refine .inr ⟨e, ?_⟩
    rcases h1 with ⟨e', _⟩ | ⟨g, h1⟩
    · exact absurd e' e
    · obtain ⟨d', f', hb⟩ := Best.exists h1 e
      refine ⟨d', f', hb, ?_, hb.2.1.pos⟩
      have k1 := hb.2.2 _ _ h1
      have k2 := hmin _ _ (wk_cons hnd.2 h0 hb.2.1)
      unfold lx at k1 k2; omega
theorem Best.pos {r n d f : Int} (h : Best M r n d f) : 0 < d := h.2.1.pos
/-- No way is shorter than what is told. -/
theorem Best.edge {r a b d f : Int} (hr : nod r) (hb : nod b) (hm : 0 < M a b) (hne : b ≠ r) (h : (a = r ∧ d = 0) ∨ Best M r a d f) : ∃ d' f', Best M r b d' f' ∧ d' ≤ d + M a b := by
  have hw : ∃ f, Wk M r b (d + M a b) f := by
    rcases h with ⟨rfl, rfl⟩ | h
    · exact ⟨b, by rw [Int.zero_add]; exact .one hb hm⟩
    · exact ⟨f, .step h.2.1 hb hm⟩
  obtain ⟨g, hw⟩ := hw
  obtain ⟨d', f', h⟩ := Best.exists hw hne
  refine ⟨d', f', h, ?_⟩
  have := h.2.2 _ _ hw
  unfold lx at this; omega
/-- The way back. -/
theorem wk_back (hs : ∀ x y, nod x → nod y → M x y = M y x) {r n d f : Int} (hr : nod r) (h : Wk M r n d f) : ∃ g, Wk M n r d g := by
  induction h with
  | @one n h hm =>
    refine ⟨r, ?_⟩
    rw [hs r n hr h] at hm ⊢
    exact .one hr hm
  | @step u n d f hu hn hm ih =>
    obtain ⟨g, ih⟩ := ih
    have hun := hu.nod.1
    refine ⟨u, ?_⟩
    rw [hs u n hun hn] at hm ⊢
    rw [Int.add_comm]
    exact wk_cons hun hm ih
theorem Best.back (hs : ∀ x y, nod x → nod y → M x y = M y x) {a b d f : Int} (ha : nod a) (hb : nod b) (h : Best M a b d f) : ∃ f', Best M b a d f' := by
  obtain ⟨g, hw⟩ := wk_back hs ha h.2.1
  obtain ⟨d', f', h'⟩ := Best.exists hw (fun e => h.1 e.symm)
  obtain ⟨g', hw'⟩ := wk_back hs hb h'.2.1
  have k1 := h.2.2 _ _ hw'
  have k2 := h'.2.2 _ _ hw
  have : d' = d := by unfold lx at k1 k2; omega
  subst this
  exact ⟨f', h'⟩
end
end Go.Proofs.Ytimfnpjcedjmiab
