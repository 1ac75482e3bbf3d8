/-
  Plain law: the program's reader reads as the document does.
-/
import Derived.Test.YtimfnpjcedjmiaaMRe
namespace Go.Proofs.Ytimfnpjcedjmiaa
open Go.RowKit
set_option linter.unusedSimpArgs false
set_option linter.unusedVariables false
/-- What a reader holds is what came since the last flag. -/
structure Sim (r : Rd) (cur : List UInt8) : Prop where
  ok : r.ok
  flag : ∀ c ∈ cur, c ≠ 126
  bad : r.x = true → cur ≠ [] ∧ ∀ t, carL (cur ++ t) [] = none
  clean : r.x = false → r.e = false → (cur = [] ↔ r.n = 0) ∧ ∀ t, carL (cur ++ t) [] = carL t r.b
  esc : r.x = false → r.e = true → cur ≠ [] ∧ ∀ t, carL (cur ++ t) [] = carL (125 :: t) r.b
theorem Rd.b_len {r : Rd} (h : r.ok) : r.b.length = r.n := by
  obtain ⟨h1, h2, h3⟩ := h
  unfold Rd.b; rw [List.length_take]; omega
def rd0 : Rd := ⟨[], 0, false, false⟩
theorem rd0_ok : rd0.ok := ⟨Nat.le_refl _, by decide, by decide⟩
theorem Sim.init : Sim rd0 [] := ⟨rd0_ok, by simp, (fun h => by cases h), fun _ _ => ⟨by simp [rd0], fun t => rfl⟩, fun _ h => by cases h⟩
theorem Sim.none {r : Rd} {cur : List UInt8} (h : Sim r cur) : rdDone r 126 = true ↔ cur ≠ [] := by
  obtain ⟨buf, n, e, x⟩ := r
  cases x with
  | true => simp [rdDone]; exact (h.bad rfl).1
  | false => cases e with
    | true => simp [rdDone]; exact (h.esc rfl rfl).1
    | false =>
      have := (h.clean rfl rfl).1
      simp only at this
      simp [rdDone, this]
theorem Sim.err {r : Rd} {cur : List UInt8} (h : Sim r cur) : rdE r = carE cur ∧ rdT r = carT cur := by
  have key : rdE r = carE cur ∧ (rdE r = 0 → rdT r = carT cur) := by
    obtain ⟨buf, n, e, x⟩ := r
    cases x with
    | true =>
      have h1 := (h.bad rfl).2 []
      rw [List.append_nil] at h1
      refine ⟨by simp [rdE, carE, h1], fun e => by simp [rdE] at e⟩
    | false => cases e with
      | true =>
        have h1 := (h.esc rfl rfl).2 []
        rw [List.append_nil, carL_esc0] at h1
        refine ⟨by simp [rdE, carE, h1], fun e => by simp [rdE] at e⟩
      | false =>
        have h1 := (h.clean rfl rfl).2 []
        rw [List.append_nil] at h1
        have h2 : carL cur [] = some (Rd.b ⟨buf, n, false, false⟩) := h1
        refine ⟨by simp [rdE, carE, h2], fun e => ?_⟩
        have e' : bodyE (Rd.b ⟨buf, n, false, false⟩) = 0 := by simpa [rdE] using e
        simp [rdT, e, carT, h2, bodyT, e']
  refine ⟨key.1, ?_⟩
  by_cases h0 : rdE r = 0
  · exact key.2 h0
  · have h1 : rdT r = [] := by unfold rdT; rw [if_neg h0]
    rw [h1]
    unfold carT
    have h2 : carE cur ≠ 0 := by rw [← key.1]; exact h0
    cases hc : carL cur [] with
    | none => rfl
    | some b =>
      simp only
      unfold bodyT
      have : carE cur = bodyE b := by unfold carE; rw [hc]
      rw [if_neg (by rw [← this]; exact h2)]
theorem Sim.flagged {r : Rd} {cur : List UInt8} (h : Sim r cur) : Sim (rdStep r 126) [] := by
  unfold rdStep
  rw [if_pos rfl]
  split
  · exact Sim.init
  · rename_i hd
    have : cur = [] := by
      rcases Decidable.em (cur = []) with e | e
      · exact e
      · exact absurd (h.none.2 e) hd
    subst this
    exact h
theorem append_cons' {α : Type} (l : List α) (c : α) (t : List α) : l ++ [c] ++ t = l ++ c :: t := by simp
theorem Sim.step {r : Rd} {cur : List UInt8} {c : UInt8} (h : Sim r cur) (hc : c ≠ 126) : Sim (rdStep r c) (cur ++ [c]) := by
  have hok := rdStep_ok h.ok c
  have hfl : ∀ d ∈ cur ++ [c], d ≠ 126 := by
    intro d hd
    rcases List.mem_append.1 hd with g | g
    · exact h.flag d g
    · rw [List.mem_singleton.1 g]; exact hc
  have hne : cur ++ [c] ≠ [] := by simp
  have hbl := Rd.b_len h.ok
  obtain ⟨h1, h2, h3⟩ := h.ok
  obtain ⟨buf, n, e, x⟩ := r
  unfold rdStep at hok ⊢
  rw [if_neg hc] at hok ⊢
  dsimp only at h1 h2 h3 hbl hok ⊢
  by_cases c2 : c = 125
  · subst c2
    simp only [if_true] at hok ⊢
    refine ⟨hok, hfl, fun hx => ⟨hne, fun t => ?_⟩, fun hx he => (by cases he), fun hx _ => ⟨hne, fun t => ?_⟩⟩
    · rw [append_cons']
      cases x with
      | true => exact (h.bad rfl).2 _
      | false =>
        cases e with
        | false => simp at hx
        | true => rw [(h.esc rfl rfl).2, carL_escB (.inl rfl)]
    · rw [append_cons']
      cases x with
      | true => simp at hx
      | false =>
        cases e with
        | true => simp at hx
        | false => exact (h.clean rfl rfl).2 _
  rw [if_neg c2] at hok ⊢
  by_cases c3 : c.toNat < 32
  · rw [if_pos c3] at hok ⊢
    refine ⟨hok, hfl, fun hx => ⟨hne, fun t => ?_⟩, fun hx => (by cases hx), fun hx => (by cases hx)⟩
    rw [append_cons']
    cases x with
    | true => exact (h.bad rfl).2 _
    | false =>
      cases e with
      | true => rw [(h.esc rfl rfl).2, carL_escB (.inr c3)]
      | false => rw [(h.clean rfl rfl).2, carL_low c3]
  rw [if_neg c3] at hok ⊢
  by_cases c4 : 62 < n + 1
  · rw [if_pos c4] at hok ⊢
    refine ⟨hok, hfl, fun hx => ⟨hne, fun t => ?_⟩, fun hx => (by cases hx), fun hx => (by cases hx)⟩
    rw [append_cons']
    cases x with
    | true => exact (h.bad rfl).2 _
    | false =>
      cases e with
      | true => rw [(h.esc rfl rfl).2, carL_escM (by omega)]
      | false => rw [(h.clean rfl rfl).2, carL_many c2 (by omega)]
  · rw [if_neg c4] at hok ⊢
    have hb' : ∀ d : UInt8, (Rd.b ⟨Rd.b ⟨buf, n, e, x⟩ ++ [d], n + 1, false, x⟩) = Rd.b ⟨buf, n, e, x⟩ ++ [d] := by
      intro d
      show (Rd.b ⟨buf, n, e, x⟩ ++ [d]).take (n + 1) = _
      exact List.take_of_length_le (by simp only [List.length_append, hbl, List.length_cons, List.length_nil]; omega)
    refine ⟨hok, hfl, fun hx => ⟨hne, fun t => ?_⟩, fun hx _ => ⟨by simp, fun t => ?_⟩, fun hx he => (by cases he)⟩
    · rw [append_cons']
      dsimp only at hx
      subst hx
      exact (h.bad rfl).2 _
    · rw [append_cons', hb']
      dsimp only at hx
      subst hx
      cases e with
      | true =>
        rw [(h.esc rfl rfl).2, carL_esc (by rintro (g | g); exact c2 g; exact c3 g) (by omega)]
        rfl
      | false =>
        rw [(h.clean rfl rfl).2, carL_one c3 c2 (by omega)]
        rfl
/-- Both readings side by side. -/
theorem sim_fold : ∀ (l : List UInt8) (r : Rd) (o : List (List UInt8)) (n : Nat) (o' : List (List UInt8)) (b : List Int) (cur : List UInt8), Sim r cur →
    Sim (l.foldl rdS (r, o, n)).1 (l.foldl rgS (o', b, cur)).2.2 ∧ ∃ ys ws, (l.foldl rdS (r, o, n)).2.1 = o ++ ys ∧ (l.foldl rgS (o', b, cur)).1 = o' ++ ys ∧ (l.foldl rdS (r, o, n)).2.2 = n + List.length (α := Int) ws ∧ (l.foldl rgS (o', b, cur)).2.1 = b ++ ws
  | [], r, o, n, o', b, cur, h => ⟨h, [], [], by simp, by simp, by simp, by simp⟩
  | c :: l, r, o, n, o', b, cur, h => by
    simp only [List.foldl_cons]
    by_cases hc : c = 126
    · subst hc
      obtain ⟨he, ht⟩ := h.err
      have hn := h.none
      by_cases hcur : cur = []
      · have hd : rdDone r 126 = false := by
          cases hd : rdDone r 126 with
          | false => rfl
          | true => exact absurd hcur (hn.1 hd)
        have e1 : rdS (r, o, n) 126 = (rdStep r 126, o, n) := by simp [rdS, hd]
        have e2 : rgS (o', b, cur) 126 = (o', b, []) := by simp [rgS, hcur]
        rw [e1, e2]
        exact sim_fold l _ _ _ _ _ _ h.flagged
      · have hd := hn.2 hcur
        by_cases h0 : carE cur = 0
        · have e1 : rdS (r, o, n) 126 = (rdStep r 126, o ++ [rdT r], n) := by simp [rdS, hd, he, h0]
          have e2 : rgS (o', b, cur) 126 = (o' ++ [carT cur], b, []) := by simp [rgS, hcur, h0]
          rw [e1, e2]
          obtain ⟨g, ys, ws, g1, g2, g3, g4⟩ := sim_fold l _ (o ++ [rdT r]) n (o' ++ [carT cur]) b _ h.flagged
          exact ⟨g, rdT r :: ys, ws, by simp [g1], by simp [g2, ht], g3, g4⟩
        · have e1 : rdS (r, o, n) 126 = (rdStep r 126, o, n + 1) := by simp [rdS, hd, he, h0]
          have e2 : rgS (o', b, cur) 126 = (o', b ++ [carE cur], []) := by simp [rgS, hcur, h0]
          rw [e1, e2]
          obtain ⟨g, ys, ws, g1, g2, g3, g4⟩ := sim_fold l _ o (n + 1) o' (b ++ [carE cur]) _ h.flagged
          exact ⟨g, ys, carE cur :: ws, g1, g2, by rw [g3]; simp; omega, by simp [g4]⟩
    · have hd : rdDone r c = false := by simp [rdDone, hc]
      have e1 : rdS (r, o, n) c = (rdStep r c, o, n) := by simp [rdS, hd]
      have e2 : rgS (o', b, cur) c = (o', b, cur ++ [c]) := by simp [rgS, hc]
      rw [e1, e2]
      exact sim_fold l _ _ _ _ _ _ (h.step hc)
theorem rg_flagless : ∀ (l cur : List UInt8), (∀ c ∈ l, c ≠ 126) → l.foldl rgS ([], [], cur) = ([], [], cur ++ l)
  | [], cur, h => by simp
  | c :: l, cur, h => by
    have hc := h c (List.mem_cons_self ..)
    have e2 : rgS ([], [], cur) c = ([], [], cur ++ [c]) := by simp [rgS, hc]
    rw [List.foldl_cons, e2, rg_flagless l _ (fun d hd => h d (List.mem_cons_of_mem _ hd))]
    simp
/-- A piece: the reader, that holds what is left, and the document's reading of what is left and the piece. -/
theorem sim_piece {r : Rd} {cur : List UInt8} (h : Sim r cur) (l : List UInt8) : Sim (rdAll r l).1 (rgAll (cur ++ l)).2.2 ∧ (rdAll r l).2.1 = (rgAll (cur ++ l)).1 ∧ (rdAll r l).2.2 = (rgAll (cur ++ l)).2.1.length := by
  have e : rgAll (cur ++ l) = l.foldl rgS ([], [], cur) := by
    unfold rgAll
    rw [List.foldl_append, rg_flagless cur [] h.flag]
    rfl
  rw [e]
  obtain ⟨g, ys, ws, g1, g2, g3, g4⟩ := sim_fold l r [] 0 [] [] cur h
  refine ⟨g, ?_, ?_⟩
  · unfold rdAll; rw [g1, g2]
  · unfold rdAll; rw [g3, g4]; simp
theorem sim_all (l : List UInt8) : Sim (rdAll rd0 l).1 (rgAll l).2.2 := (sim_piece Sim.init l).1
end Go.Proofs.Ytimfnpjcedjmiaa
