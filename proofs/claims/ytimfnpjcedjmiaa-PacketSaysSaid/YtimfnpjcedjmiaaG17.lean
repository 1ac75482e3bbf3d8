/-
  Engine G, part 17: the law of a call.
-/
import Derived.Test.YtimfnpjcedjmiaaG16
namespace Go.Proofs.Ytimfnpjcedjmiaa
open Go.RowKit
set_option linter.unusedSimpArgs false
set_option linter.unusedVariables false

/-- Memory as a contract may begin with it. -/
def gen0 : List Res → Bool
  | [] => true
  | r :: l => match r with
    | .gone => false
    | .grow _ _ g => match g with
      | 0 => gen0 l
      | _ => false
    | .arr _ _ _ g _ => match g with
      | 0 => gen0 l
      | _ => false
    | _ => gen0 l
theorem gen0_out : ∀ {m : List Res}, gen0 m = true → ∀ (j : Nat) (r : Res), m[j]? = some r → isGone r = false ∧ (genR r).getD 0 = 0
  | [], _, j, r, h => by simp at h
  | q :: l, h, j, r, hj => by
    have hl : gen0 l = true ∧ isGone q = false ∧ (genR q).getD 0 = 0 := by
      unfold gen0 at h
      cases q with
      | gone => cases h
      | grow E s g => cases g with
        | zero => exact ⟨h, rfl, rfl⟩
        | succ => cases h
      | arr f E s g rows => cases g with
        | zero => exact ⟨h, rfl, rfl⟩
        | succ => cases h
      | _ => exact ⟨h, rfl, rfl⟩
    cases j with
    | zero => simp at hj; subst hj; exact hl.2
    | succ j => exact gen0_out hl.1 j r (by simpa using hj)

theorem idxOf_some {l : List Nat} {i j : Nat} (h : l.idxOf? i = some j) : l[j]? = some i := by
  rw [List.idxOf?_eq_some_iff] at h
  obtain ⟨h1, h2, _⟩ := h
  rw [List.getElem?_eq_getElem h1, h2]
theorem idxOf_of {l : List Nat} (hn : l.Nodup) {i j : Nat} (h : l[j]? = some i) : l.idxOf? i = some j := by
  rw [List.idxOf?_eq_some_iff]
  obtain ⟨h1, h2⟩ := List.getElem?_eq_some_iff.1 h
  refine ⟨h1, h2, fun k hk => ?_⟩
  have := List.pairwise_iff_getElem.1 hn k j (by omega) h1 hk
  intro e
  exact this (e.trans h2.symm)

section
variable {P : Program} {n : Nat} {fp : Nat → Prop} {w0 : Start} {σ : Store} {μ : Ghost} {Ds : Nat → Nat → Prop} {A : AS} {a : Act} {w : World}

theorem MemOk.an (h : MemOk σ μ w A.mem Ds) {i : Nat} {r : Res} (hr : A.mem[i]? = some r) (hg : isGone r = false) : ∃ an, μ i = some an ∧ ((∃ v, an = .fix v ∧ genR r = none) ∨ ∃ ao n cap g, an = .cur ao n cap g ∧ genR r = some g) := by
  have h3 := h.ok i r hr
  cases r with
  | gone => cases hg
  | cells l => obtain ⟨b, c, T, q1, _⟩ := h3; exact ⟨_, q1, .inl ⟨_, rfl, rfl⟩⟩
  | grow E s g0 => obtain ⟨ao', n', cap', xs, q1, _⟩ := h3; exact ⟨_, q1, .inr ⟨_, _, _, _, rfl, rfl⟩⟩
  | arr fr E s g0 rows => obtain ⟨ao', cap', xs, q1, _⟩ := h3; exact ⟨_, q1, .inr ⟨_, _, _, _, rfl, rfl⟩⟩
  | map kk ag f => obtain ⟨r, es, c, q1, _⟩ := h3; exact ⟨_, q1, .inl ⟨_, rfl, rfl⟩⟩
  | siter s p => obtain ⟨r, q1, _⟩ := h3; exact ⟨_, q1, .inl ⟨_, rfl, rfl⟩⟩
  | obj p => obtain ⟨r, q1, _⟩ := h3; exact ⟨_, q1, .inl ⟨_, rfl, rfl⟩⟩
theorem RR.gen {m m' : List Res} {ρ : List Nat} {r r' : Res} (h : RR m m' ρ r r') (hg : isGone r' = false) : isGone r = false ∧ ((genR r').isSome = (genR r).isSome) := by
  unfold RR at h
  split at h
  · cases hg
  all_goals (split at h <;> first | exact ⟨rfl, rfl⟩ | exact h.elim)

set_option maxHeartbeats 1000000 in
theorem call_sound (h : Rel n fp w0 σ μ Ds A a w) {f : FuncId} {args : List AV} {m m' : List Res} {r : AV} {ρ : List Nat} {l : List AV} {vs : Array Value} (hF : Fn P f args m r m') (h0 : gen0 m = true) (hnd : ρ.Nodup)
    (hM : RM A.mem m ρ ρ m) (hA : RKL1 A.mem m ρ l args) (hle : m.length ≤ m'.length) (hl : vs.size = l.length) (hvs : ∀ (i : Nat) (av : AV) (x : Value), l[i]? = some av → vs[i]? = some x → RepV σ μ av x) :
    Calls P f vs w fun e w' => ∃ x σ' μ' Ds', e = .returned x ∧ RepV σ' μ' (avCall A.mem ρ m' r) x ∧ Rel n fp w0 σ' μ' Ds' ⟨A.fr, memCall A.mem ρ m'⟩ a w' := by
  obtain ⟨hal, haget⟩ := RKL1.get hA
  obtain ⟨hrl, hrget⟩ := RM.get hM
  have hmc := h.mem.sub hnd hM
  refine (hF.2 w σ (subG μ ρ m) (subD Ds ρ m) vs h.agree hmc (hl.trans hal) (fun i av x hi hx => ?_)).mono ?_
  · obtain ⟨b, hb, hk⟩ := haget i av hi
    exact (hvs i b x hb hx).sub1 h.mem hk
  rintro e w' ⟨x, σ', μc, Dc, rfl, hp⟩
  -- the numbers
  let L := A.mem.length
  let c := m'.length - ρ.length
  let ids : List Nat := ρ ++ (List.range c).map (L + ·)
  have hρlt : ∀ j i, ρ[j]? = some i → i < L := fun j i hj => by
    have hj' : j < m.length := by rw [← hrl]; exact (List.getElem?_eq_some_iff.1 hj).1
    obtain ⟨i', r', h1, h2, _⟩ := hrget j _ (List.getElem?_eq_getElem hj')
    rw [hj] at h1
    obtain rfl := Option.some.inj h1
    exact (List.getElem?_eq_some_iff.1 h2).1
  have hidsn : ids.Nodup := by
    refine List.nodup_append.2 ⟨hnd, ?_, fun a ha b hb => ?_⟩
    · rw [List.Nodup, List.pairwise_map]; exact List.nodup_range.imp (fun h e => h (by omega))
    · obtain ⟨j, hj⟩ := List.getElem?_of_mem ha
      have := hρlt j a hj
      simp only [List.mem_map, List.mem_range] at hb
      obtain ⟨q, _, rfl⟩ := hb
      omega
  have hidsl : ids.length = m'.length := by simp [ids, c]; omega
  have hg : ∀ j i, ids[j]? = some i → (rhoG A.mem L c ρ)[j]? = some (i, if j < ρ.length then (genM A.mem i).getD 0 else 0) := by
    intro j i hj
    rw [rhoG_eq]
    simp only [ids] at hj
    rw [List.getElem?_append] at hj ⊢
    simp only [List.length_map]
    split at hj
    · rename_i hlt
      rw [if_pos hlt, if_pos hlt]
      simp [hj]
    · rename_i hge
      rw [if_neg hge, if_neg hge, extG_get]
      have hlt := (List.getElem?_eq_some_iff.1 hj).1
      simp only [List.length_map, List.length_range] at hlt
      rw [if_pos hlt]
      simp [hlt] at hj
      rw [hj]
  let sh : Nat → Nat := fun j => if j < ρ.length then (genM A.mem (ids.getD j 0)).getD 0 else 0
  let μ' : Ghost := fun i => match ids.idxOf? i with
    | some j => (μc j).map (shA (if j < ρ.length then (genM A.mem i).getD 0 else 0))
    | none => μ i
  let D' : Nat → Nat → Prop := fun i => match ids.idxOf? i with
    | some j => Dc j
    | none => Ds i
  have hNum : Num (rhoG A.mem L c ρ) μc μ' := by
    intro j an hj
    have hlt : j < ids.length := by
      rw [hidsl]
      rcases Nat.lt_or_ge j m'.length with g | g
      · exact g
      · rw [(hp.mem.out j g).1] at hj; cases hj
    refine ⟨_, _, hg j _ (List.getElem?_eq_getElem hlt), ?_⟩
    simp only [μ']
    rw [idxOf_of hidsn (List.getElem?_eq_getElem hlt)]
    simp [hj]
  have hDc : ∀ j b, Dc j b → (∃ i, ρ[j]? = some i) ∨ w.heap.size ≤ b ∨ ∃ q i, ρ[q]? = some i ∧ Ds i b := fun j b hb => by
    rcases hp.own j b hb with g | ⟨q, ⟨i, h1, h2⟩, _⟩
    · exact .inr (.inl g)
    · exact .inr (.inr ⟨q, i, h1, h2⟩)
  have hother : ∀ i b, i ∉ ρ → Ds i b → w'.heap[b]? = w.heap[b]? ∧ ∀ o, σ' b o = σ b o := fun i b hi hb => by
    have hno : ¬ ∃ id, subD Ds ρ m id b := by
      rintro ⟨q, ⟨i', h1, h2⟩, _⟩
      have := h.mem.apart i i' b hb h2
      subst this
      exact hi (List.mem_of_getElem? h1)
    have hlt := h.mem.live hb
    exact ⟨hp.keeps.block b hlt hno, fun o => hp.old b o hlt hno⟩
  have hgle : Gle μ μ' := by
    intro i an hi
    simp only [μ']
    cases hq : ids.idxOf? i with
    | none => exact ⟨an, hi, an.le_refl⟩
    | some j =>
      have hj := idxOf_some hq
      have hiL : i < L := by
        rcases Nat.lt_or_ge i L with g | g
        · exact g
        · rw [(h.mem.out i g).1] at hi; cases hi
      have hjρ : j < ρ.length := by
        rcases Nat.lt_or_ge j ρ.length with g | g
        · exact g
        · simp only [ids] at hj
          rw [List.getElem?_append_right g] at hj
          simp only [List.getElem?_map, Option.map_eq_some_iff] at hj
          obtain ⟨q, _, rfl⟩ := hj
          omega
      have hρj : ρ[j]? = some i := by simp only [ids] at hj; rwa [List.getElem?_append_left hjρ] at hj
      obtain ⟨i', r1, g1, g2, g3⟩ := hrget j _ (List.getElem?_eq_getElem (by omega : j < m.length))
      rw [hρj] at g1
      obtain rfl := Option.some.inj g1
      obtain ⟨z1, z2⟩ := gen0_out h0 j _ (List.getElem?_eq_getElem (by omega : j < m.length))
      obtain ⟨y1, y2⟩ := g3.gen z1
      obtain ⟨an', x1, x2⟩ := h.mem.an g2 y1
      rw [hi] at x1
      obtain rfl := Option.some.inj x1
      have hsub : subG μ ρ m j = some (reG 0 an) := by
        have : (genM m j).getD 0 = 0 := by rw [genM_eq, List.getElem?_eq_getElem (by omega : j < m.length)]; exact z2
        simp [subG, hρj, hi, this]
      obtain ⟨ac, c1, c2⟩ := hp.gle j _ hsub
      have hgm : genM A.mem i = genR r1 := by rw [genM_eq, g2]; rfl
      refine ⟨_, by simp only [c1]; rfl, ?_⟩
      rw [if_pos hjρ, hgm]
      rcases x2 with ⟨v, rfl, _⟩ | ⟨ao, nn, cap, gA, rfl, hgA⟩
      · cases ac with
        | fix v' => exact c2
        | cur => exact c2.elim
      · cases ac with
        | fix v' => exact c2.elim
        | cur ao' n' cap' q =>
          rw [hgA]
          obtain ⟨_, d2⟩ := c2
          exact ⟨Nat.le_add_right _ _, fun e => d2 (by simp only [Option.getD_some] at e; omega)⟩
  have hmem : MemOk σ' μ' w' (memCall A.mem ρ m') D' := by
    have hget := fun i => setsM_get (mem0 := A.mem) (g := rhoG A.mem L c ρ) (is := ρ) (rs := m') (mem := A.mem) (i := i) (by omega) (fun j hj => by obtain ⟨q, hq⟩ := List.getElem?_of_mem hj; exact hρlt q j hq) hnd
    have hlen : (memCall A.mem ρ m').length = L + c := setsM_len (by omega)
    refine ⟨fun i r' hr' => ?_, fun i j b hi hj => ?_, fun i hi => ?_⟩
    · have hr' : (setsM A.mem (rhoG A.mem L c ρ) ρ m' A.mem)[i]? = some r' := hr'
      rw [hget i] at hr'
      cases hq : ρ.idxOf? i with
      | some j =>
        rw [hq] at hr'
        simp only [Option.map_eq_some_iff] at hr'
        obtain ⟨r0, hr0, rfl⟩ := hr'
        have hjρ := idxOf_some hq
        have hjlt := (List.getElem?_eq_some_iff.1 hjρ).1
        have hj : ids[j]? = some i := by simp only [ids]; rw [List.getElem?_append_left hjlt]; exact hjρ
        have hD : D' i = Dc j := by simp only [D']; rw [idxOf_of hidsn hj]
        rw [hD]
        have := hg j i hj
        rw [if_pos hjlt] at this
        exact (hp.mem.ok j r0 hr0).ren hNum this
      | none =>
        rw [hq] at hr'
        simp only at hr'
        have hni : i ∉ ρ := by rw [← List.idxOf?_eq_none_iff]; exact hq
        split at hr'
        · rename_i hlt
          have hno : ids.idxOf? i = none := by
            rw [List.idxOf?_eq_none_iff]
            simp only [ids, List.mem_append, List.mem_map, List.mem_range, not_or, not_exists, not_and]
            exact ⟨hni, fun q _ e => by omega⟩
          have hD : D' i = Ds i := by simp only [D']; rw [hno]
          have hμ : μ' i = μ i := by simp only [μ']; rw [hno]
          rw [hD]
          exact (h.mem.ok i r' hr').ext hμ hgle (fun b hb => hother i b hni hb) hp.mono
        · rename_i hge
          simp only [Option.map_eq_some_iff] at hr'
          obtain ⟨r0, hr0, rfl⟩ := hr'
          have hltm := (List.getElem?_eq_some_iff.1 hr0).1
          have hj : ids[ρ.length + (i - L)]? = some i := by
            simp only [ids]
            rw [List.getElem?_append_right (by omega)]
            have : i - L < c := by simp only [c]; omega
            simp [this]; omega
          have hD : D' i = Dc (ρ.length + (i - L)) := by simp only [D']; rw [idxOf_of hidsn hj]
          rw [hD]
          have := hg _ i hj
          rw [if_neg (by omega)] at this
          exact (hp.mem.ok _ r0 hr0).ren hNum this
    · simp only [D'] at hi hj
      cases hq1 : ids.idxOf? i with
      | some p =>
        rw [hq1] at hi
        cases hq2 : ids.idxOf? j with
        | some q =>
          rw [hq2] at hj
          have := hp.mem.apart p q b hi hj
          subst this
          have e1 := idxOf_some hq1
          have e2 := idxOf_some hq2
          rw [e1] at e2
          exact Option.some.inj e2
        | none =>
          rw [hq2] at hj
          exfalso
          have hni : j ∉ ρ := fun hmem => by
            rw [List.idxOf?_eq_none_iff] at hq2
            exact hq2 (List.mem_append_left _ hmem)
          rcases hp.own p b hi with g | ⟨q, ⟨i', h1, h2⟩, _⟩
          · have := h.mem.live hj; omega
          · have := h.mem.apart j i' b hj h2
            subst this
            exact hni (List.mem_of_getElem? h1)
      | none =>
        rw [hq1] at hi
        have hni : i ∉ ρ := fun hmem => by
          rw [List.idxOf?_eq_none_iff] at hq1
          exact hq1 (List.mem_append_left _ hmem)
        cases hq2 : ids.idxOf? j with
        | some q =>
          rw [hq2] at hj
          exfalso
          rcases hp.own q b hj with g | ⟨q, ⟨i', h1, h2⟩, _⟩
          · have := h.mem.live hi; omega
          · have := h.mem.apart i i' b hi h2
            subst this
            exact hni (List.mem_of_getElem? h1)
        | none => rw [hq2] at hj; exact h.mem.apart i j b hi hj
    · rw [hlen] at hi
      have hno : ids.idxOf? i = none := by
        rw [List.idxOf?_eq_none_iff]
        simp only [ids, List.mem_append, List.mem_map, List.mem_range, not_or, not_exists, not_and]
        refine ⟨fun hmem => ?_, fun q hq e => by omega⟩
        obtain ⟨q, hq⟩ := List.getElem?_of_mem hmem
        have := hρlt q i hq
        omega
      simp only [μ', D']
      rw [hno]
      exact h.mem.out i (by omega)
  refine ⟨x, σ', μ', D', rfl, hp.rep.ren hNum, ?_⟩
  refine ⟨h.defers, h.size, fun t av ht => (h.frame t av ht).mono hp.mono hgle, hp.agree, hmem, fun i b hi => ?_, ?_, ?_, fun b o y hy => hp.mono _ _ _ (h.mono b o y hy), h.gle.trans hgle, h.kout, ?_⟩
  · simp only [D'] at hi
    cases hq : ids.idxOf? i with
    | some j =>
      rw [hq] at hi
      rcases hp.own j b hi with g | ⟨q, ⟨i', h1, h2⟩, _⟩
      · exact .inl (Nat.le_trans h.keeps.size g)
      · exact h.own i' b h2
    | none => rw [hq] at hi; exact h.own i b hi
  · refine ⟨hp.keeps.os.trans h.keeps.os, hp.keeps.tape.trans h.keeps.tape, hp.keeps.output.trans h.keeps.output, Nat.le_trans h.keeps.size hp.keeps.size, fun k hk hf => ?_⟩
    rw [hp.keeps.block k (Nat.lt_of_lt_of_le hk h.keeps.size)]
    · exact h.keeps.block k hk hf
    · rintro ⟨q, ⟨i', h1, h2⟩, _⟩
      rcases h.own i' k h2 with g | g
      · omega
      · exact hf g
  · intro b o hb hf
    rw [hp.old b o (Nat.lt_of_lt_of_le hb h.keeps.size)]
    · exact h.old b o hb hf
    · rintro ⟨q, ⟨i', h1, h2⟩, _⟩
      rcases h.own i' b h2 with g | g
      · omega
      · exact hf g
  · have hlen : (memCall A.mem ρ m').length = L + c := setsM_len (by omega)
    rw [hlen]
    exact Nat.le_trans h.klen (Nat.le_add_right _ _)
end
end Go.Proofs.Ytimfnpjcedjmiaa
