/-
  Engine G, extensions: memory of several blocks as one object.
-/
import Derived.Test.YtimfnpjcedjmiaaGP
namespace Go.Proofs.Ytimfnpjcedjmiaa
open Go.RowKit
set_option linter.unusedSimpArgs false
set_option linter.unusedVariables false
/-- An object: memory, of which the first block is its head. -/
def packP (m : List Res) : OPred where
  rep σ w b D := ∃ μ Ds, MemOk σ μ w m Ds ∧ μ 0 = some (.fix (.pointer (some ⟨b, 0, none⟩))) ∧ ∀ k, D k ↔ ∃ i, Ds i k
  ext := by
    rintro σ σ' w w' x D ⟨μ, Ds, h1, h2, h3⟩ hw hs
    exact ⟨μ, Ds, ⟨fun id r hr => (h1.ok id r hr).ext rfl (Gle.refl _) (fun b hb => hw b ((h3 b).2 ⟨id, hb⟩)) hs, h1.apart, h1.out⟩, h2, h3⟩
  live := by
    rintro σ w x D b ⟨μ, Ds, h1, h2, h3⟩ hb
    obtain ⟨i, hi⟩ := (h3 b).1 hb
    exact h1.live hi
theorem shA_zero (a : An) : shA 0 a = a := by cases a <;> simp [shA]
theorem renRs_get {g : List (Nat × Nat)} {l : List Res} {j : Nat} : (renRs g l)[j]? = l[j]?.map (renR g 0) := by rw [renRs_eq, List.getElem?_map]
theorem renRs_len {g : List (Nat × Nat)} {l : List Res} : (renRs g l).length = l.length := by rw [renRs_eq, List.length_map]
/-- What is kept of memory: its numbers ahead stay. -/
theorem gle_keep {σ : Store} {μ μE : Ghost} {w : World} {mE mt : List Res} {DE : Nat → Nat → Prop} {ρ : List Nat} {L : Nat} (hm : MemOk σ μE w mE DE) (hag : Agree σ w) (hg : ∀ i a, i < L → μ i = some a → ∃ a', μE i = some a' ∧ a.le a') (hz : ∀ i ao n cap g, i < L → μ i = some (.cur ao n cap g) → g = 0)
    (hp : parOk mE 0 L ρ mt = true) (hM : RM mE mt ρ ρ mt) (hL : L ≤ mE.length) : ∀ i a, i < L → μ i = some a → ∃ a', subG μE ρ mt i = some a' ∧ a.le a' := by
  let w0 : Start := ⟨w, σ, fun i => if i < L then μ i else none, L, (fun i ao n cap g hi => by
    have hi' : (if i < L then μ i else none) = some (.cur ao n cap g) := hi
    split at hi'
    · exact hz i ao n cap g (by assumption) hi'
    · cases hi')⟩
  have hrel : Rel 0 (fun _ => True) w0 σ μE DE ⟨[], mE⟩ { tmps := #[], defers := [] } w :=
    ⟨rfl, rfl, fun t av h => (by cases h), hag, hm, fun _ _ _ => .inr trivial, ⟨rfl, rfl, rfl, Nat.le_refl _, fun _ _ _ => rfl⟩, fun _ _ _ h => absurd trivial h, fun _ _ _ h => h, (fun i a ha => by
      have ha' : (if i < L then μ i else none) = some a := ha
      split at ha'
      · exact hg i a (by assumption) ha'
      · cases ha'), (fun i hi => if_neg (Nat.not_lt.2 hi)), hL⟩
  have := gle_sub hrel hp hM
  intro i a hi ha
  exact this i a ((if_pos hi).trans ha)
theorem gen0_zero {σ : Store} {μ : Ghost} {w : World} {m : List Res} {Ds : Nat → Nat → Prop} (h : MemOk σ μ w m Ds) {k : Nat} (h0 : gen0 (m.take k) = true) : ∀ i ao n cap g, i < k → μ i = some (.cur ao n cap g) → g = 0 := by
  intro i ao n cap g hik hi
  have hlt : i < m.length := by
    rcases Nat.lt_or_ge i m.length with q | q
    · exact q
    · rw [(h.out i q).1] at hi; cases hi
  obtain ⟨z1, z2⟩ := gen0_out h0 i m[i] (by rw [List.getElem?_take, if_pos hik, List.getElem?_eq_getElem hlt])
  obtain ⟨an, x1, x2⟩ := MemOk.an (A := ⟨[], m⟩) h (List.getElem?_eq_getElem hlt) z1
  rw [hi] at x1
  obtain rfl := Option.some.inj x1
  rcases x2 with ⟨v, e, _⟩ | ⟨_, _, _, gA, e, hg⟩
  · cases e
  · cases e
    rw [hg] at z2
    exact z2
/-- Not among them. -/
def apartL (L : Nat) (ρ κ : List Nat) : Bool := (List.range ρ.length).all fun j => j == L || !κ.contains (ρ.getD j 0)
theorem apartL_out {L : Nat} {ρ κ : List Nat} (h : apartL L ρ κ = true) {j i : Nat} (hj : ρ[j]? = some i) (hne : j ≠ L) (hk : i ∈ κ) : False := by
  simp only [apartL, List.all_eq_true, List.mem_range, Bool.or_eq_true, beq_iff_eq, Bool.not_eq_true'] at h
  have hlt := (List.getElem?_eq_some_iff.1 hj).1
  rcases h j hlt with e | e
  · exact hne e
  · rw [List.getD_eq_getElem?_getD, hj] at e
    simp only [Option.getD_some] at e
    have : κ.contains i = true := by simpa using hk
    rw [this] at e; cases e
def headCells (m : List Res) : Bool :=
  match m with
  | .cells _ :: _ => true
  | _ => false
/-- A contract, seen from without: behind memory of its own the object lies. -/
theorem fn_pack {P : Program} {f : FuncId} {args : List AV} {rE r : AV} {pre m mE mt m' : List Res} {ρ κ : List Nat} {L : Nat} (hF : Fn P f args (pre ++ renRs (extG L m.length) m) rE mE) (hL : pre.length = L)
    (h0 : gen0 pre = true) (hρ : decide ρ.Nodup = true) (hκ : decide κ.Nodup = true) (hM : RM mE mt ρ ρ mt) (hO : RM mE m' κ κ m') (hr : RK mE mt ρ rE r) (hp : parOk mE 0 L ρ mt = true)
    (hρL : ρ[L]? = some L) (hκ0 : κ[0]? = some L) (hap : apartL L ρ κ = true) (hg : (m'.all fun q => !isGone q) = true) : Fn P f args (pre ++ [.obj (packP m)]) r (mt.set L (.obj (packP m'))) := by
  subst hL
  refine ⟨hF.1, fun w σ μ Ds vs hag hmem hlen hargs => ?_⟩
  have hLlt : pre.length < (pre ++ [Res.obj (packP m)]).length := by simp
  obtain ⟨b, hb, μ1, Ds1, hm1, h10, hD1⟩ := hmem.ok pre.length (.obj (packP m)) (by simp)
  let μc : Ghost := fun i => if i < pre.length then μ i else μ1 (i - pre.length)
  let Dc : Nat → Nat → Prop := fun i => if i < pre.length then Ds i else Ds1 (i - pre.length)
  have hout : ∀ i, pre.length < i → μ i = none := fun i hi => (hmem.out i (by simp; omega)).1
  have hDout : ∀ i k, Ds i k → i ≤ pre.length := fun i k hk => by
    rcases Nat.lt_or_ge pre.length i with g | g
    · exact absurd hk ((hmem.out i (by simp; omega)).2 k)
    · exact g
  have hgc : Gle μ μc := fun i a ha => by
    rcases Nat.lt_trichotomy i pre.length with g | g | g
    · exact ⟨a, by simp only [μc, if_pos g]; exact ha, An.le_refl _⟩
    · subst g
      rw [hb] at ha
      obtain rfl := Option.some.inj ha
      exact ⟨_, by simp only [μc, Nat.lt_irrefl, if_false, Nat.sub_self]; exact h10, An.le_refl _⟩
    · rw [hout i g] at ha; cases ha
  have hNum : Num (extG pre.length m.length) μ1 μc := fun j a ha => by
    have hj : j < m.length := by
      rcases Nat.lt_or_ge j m.length with q | q
      · exact q
      · rw [(hm1.out j q).1] at ha; cases ha
    refine ⟨pre.length + j, 0, by rw [extG_get, if_pos hj], ?_⟩
    simp only [μc]
    rw [if_neg (by omega), show pre.length + j - pre.length = j by omega, shA_zero]
    exact ha
  have hDc : ∀ i k, Dc i k → ∃ j, Ds j k := fun i k hk => by
    simp only [Dc] at hk
    split at hk
    · exact ⟨i, hk⟩
    · exact ⟨pre.length, (hD1 k).2 ⟨_, hk⟩⟩
  have hmc : MemOk σ μc w (pre ++ renRs (extG pre.length m.length) m) Dc := by
    refine ⟨fun id q hq => ?_, fun i j k hi hj => ?_, fun id hid => ?_⟩
    · rw [List.getElem?_append] at hq
      split at hq
      · rename_i hlt
        simp only [Dc, if_pos hlt]
        exact (hmem.ok id q (by rw [List.getElem?_append_left hlt]; exact hq)).ext (by simp only [μc, if_pos hlt]) hgc (fun _ _ => ⟨rfl, fun _ => rfl⟩) (fun _ _ _ h => h)
      · rename_i hge
        rw [renRs_get, Option.map_eq_some_iff] at hq
        obtain ⟨q0, hq0, rfl⟩ := hq
        have hlt := (List.getElem?_eq_some_iff.1 hq0).1
        simp only [Dc, if_neg hge]
        have := (hm1.ok _ q0 hq0).ren hNum (i := id) (s := 0) (by rw [extG_get, if_pos hlt]; simp; omega)
        exact this
    · simp only [Dc] at hi hj
      split at hi <;> split at hj
      · exact hmem.apart i j k hi hj
      · have := hmem.apart i pre.length k hi ((hD1 k).2 ⟨_, hj⟩); omega
      · have := hmem.apart j pre.length k hj ((hD1 k).2 ⟨_, hi⟩); omega
      · have := hm1.apart _ _ k hi hj; omega
    · simp only [List.length_append, renRs_len] at hid
      have h2 := hm1.out (id - pre.length) (by omega)
      refine ⟨by simp only [μc]; rw [if_neg (by omega)]; exact h2.1, fun k hk => ?_⟩
      simp only [Dc] at hk
      rw [if_neg (by omega)] at hk
      exact h2.2 k hk
  refine (hF.2 w σ μc Dc vs hag hmc hlen (fun i av x h1 h2 => (hargs i av x h1 h2).mono (fun _ _ _ h => h) hgc)).mono ?_
  rintro e w' ⟨x, σ', μE, DE, rfl, hpost⟩
  have hs := hpost.mem.sub (of_decide_eq_true hρ) hM
  have ho := hpost.mem.sub (of_decide_eq_true hκ) hO
  have hlM := (RM.get hM).1
  have hLt : pre.length < mt.length := by rw [← hlM]; exact (List.getElem?_eq_some_iff.1 hρL).1
  have hEL : μE pre.length = some (.fix (.pointer (some ⟨b, 0, none⟩))) := by
    obtain ⟨a', h1, h2⟩ := hpost.gle pre.length (.fix (.pointer (some ⟨b, 0, none⟩))) (by simp only [μc, Nat.lt_irrefl, if_false, Nat.sub_self]; exact h10)
    cases a' with
    | fix v => simp only [An.le] at h2; subst h2; exact h1
    | cur => exact h2.elim
  have hDk : ∀ k, (∃ i, subD DE κ m' i k) → ∃ i, i ∈ κ ∧ DE i k := fun k ⟨i, ⟨i', h1, h2⟩, _⟩ => ⟨i', List.mem_of_getElem? h1, h2⟩
  let D' : Nat → Nat → Prop := fun j => if j = pre.length then (fun k => ∃ i, subD DE κ m' i k) else subD DE ρ mt j
  refine ⟨x, σ', subG μE ρ mt, D', rfl, ⟨hpost.rep.sub hpost.mem hr, ⟨fun j q hj => ?_, fun i j k hi hj => ?_, fun j hj => ?_⟩, fun i a ha => ?_, hpost.agree, ?_, fun c o hc hno => hpost.old c o hc (fun ⟨i, hi⟩ => hno (hDc i c hi)), hpost.mono, fun j k hk => ?_⟩⟩
  · rw [List.getElem?_set] at hj
    by_cases hjL : pre.length = j
    · subst hjL
      rw [if_pos rfl, if_pos hLt] at hj
      obtain rfl := Option.some.inj hj
      simp only [D', if_true]
      exact ⟨b, subG_fix hρL hEL, _, _, ho, subG_fix hκ0 hEL, fun k => Iff.rfl⟩
    · rw [if_neg hjL] at hj
      simp only [D', if_neg (fun e : j = pre.length => hjL e.symm)]
      exact hs.ok j q hj
  · simp only [D'] at hi hj
    split at hi <;> split at hj
    · omega
    · rename_i _ hne
      exfalso
      obtain ⟨p, hp1, hp2⟩ := hDk k hi
      obtain ⟨⟨q, h1, h2⟩, _⟩ := hj
      have := hpost.mem.apart p q k hp2 h2
      subst this
      exact apartL_out hap h1 hne hp1
    · rename_i hne _
      exfalso
      obtain ⟨p, hp1, hp2⟩ := hDk k hj
      obtain ⟨⟨q, h1, h2⟩, _⟩ := hi
      have := hpost.mem.apart p q k hp2 h2
      subst this
      exact apartL_out hap h1 hne hp1
    · exact hs.apart i j k hi hj
  · rw [List.length_set] at hj
    refine ⟨(hs.out j hj).1, fun k hk => ?_⟩
    simp only [D'] at hk
    rw [if_neg (by omega)] at hk
    exact (hs.out j hj).2 k hk
  · rcases Nat.lt_trichotomy i pre.length with g | g | g
    · have hmt : ∀ i, i < pre.length → (pre ++ [Res.obj (packP m)])[i]? = pre[i]? := fun i hi => List.getElem?_append_left hi
      refine gle_keep (μ := μ) (L := pre.length) hpost.mem hpost.agree (fun i a hi ha => hpost.gle i a (by simp only [μc, if_pos hi]; exact ha)) (gen0_zero hmem (k := pre.length) (by rw [List.take_left]; exact h0)) hp hM ?_ i a g ha
      rcases Nat.lt_or_ge pre.length mE.length with q | q
      · omega
      · rw [(hpost.mem.out _ q).1] at hEL; cases hEL
    · subst g
      rw [hb] at ha
      obtain rfl := Option.some.inj ha
      exact ⟨_, subG_fix hρL hEL, An.le_refl _⟩
    · rw [hout i g] at ha; cases ha
  · refine ⟨hpost.keeps.os, hpost.keeps.tape, hpost.keeps.output, hpost.keeps.size, fun k hk hno => hpost.keeps.block k hk (fun ⟨i, hi⟩ => hno (hDc i k hi))⟩
  · have key : ∀ i, DE i k → w.heap.size ≤ k ∨ ∃ j, Ds j k := fun i hi => by
      rcases hpost.own i k hi with g | ⟨q, hq⟩
      · exact .inl g
      · exact .inr (hDc q k hq)
    simp only [D'] at hk
    split at hk
    · obtain ⟨p, _, hp2⟩ := hDk k hk
      exact key p hp2
    · obtain ⟨⟨q, h1, h2⟩, _⟩ := hk
      exact key q h2
/-- A contract of what makes an object. -/
theorem fn_packN {P : Program} {f : FuncId} {args : List AV} {rE r : AV} {pre mE mt m' : List Res} {ρ κ : List Nat} {L q0 k0 : Nat} (hF : Fn P f args pre rE mE) (hL : pre.length = k0)
    (h0 : gen0 pre = true) (hρ : decide ρ.Nodup = true) (hκ : decide κ.Nodup = true) (hM : RM mE mt ρ ρ mt) (hO : RM mE m' κ κ m') (hr : RK mE mt ρ rE r) (hp : parOk mE 0 k0 ρ mt = true)
    (hρL : ρ[L]? = some q0) (hκ0 : κ[0]? = some q0) (hap : apartL L ρ κ = true) (hge : Nat.ble k0 L = true) (hh : headCells m' = true) : Fn P f args pre r (mt.set L (.obj (packP m'))) := by
  subst hL
  have hge := Nat.le_of_ble_eq_true hge
  refine ⟨hF.1, fun w σ μ Ds vs hag hmem hlen hargs => ?_⟩
  refine (hF.2 w σ μ Ds vs hag hmem hlen hargs).mono ?_
  rintro e w' ⟨x, σ', μE, DE, rfl, hpost⟩
  have hs := hpost.mem.sub (of_decide_eq_true hρ) hM
  have ho := hpost.mem.sub (of_decide_eq_true hκ) hO
  have hlM := (RM.get hM).1
  have hLt : L < mt.length := by rw [← hlM]; exact (List.getElem?_eq_some_iff.1 hρL).1
  obtain ⟨b, hb⟩ : ∃ b, subG μE κ m' 0 = some (.fix (.pointer (some ⟨b, 0, none⟩))) := by
    unfold headCells at hh
    split at hh
    · obtain ⟨b, c, T, h1, _⟩ := ho.ok 0 _ (by rfl)
      exact ⟨b, h1⟩
    · cases hh
  have hEL : μE q0 = some (.fix (.pointer (some ⟨b, 0, none⟩))) := by
    simp only [subG, hκ0, Option.bind_some, Option.map_eq_some_iff] at hb
    obtain ⟨a, ha, hr⟩ := hb
    cases a with
    | fix v => simp only [reG, An.fix.injEq] at hr; subst hr; exact ha
    | cur => simp [reG] at hr
  have hDk : ∀ k, (∃ i, subD DE κ m' i k) → ∃ i, i ∈ κ ∧ DE i k := fun k ⟨i, ⟨i', h1, h2⟩, _⟩ => ⟨i', List.mem_of_getElem? h1, h2⟩
  let D' : Nat → Nat → Prop := fun j => if j = L then (fun k => ∃ i, subD DE κ m' i k) else subD DE ρ mt j
  refine ⟨x, σ', subG μE ρ mt, D', rfl, ⟨hpost.rep.sub hpost.mem hr, ⟨fun j q hj => ?_, fun i j k hi hj => ?_, fun j hj => ?_⟩, fun i a ha => ?_, hpost.agree, hpost.keeps, hpost.old, hpost.mono, fun j k hk => ?_⟩⟩
  · rw [List.getElem?_set] at hj
    by_cases hjL : L = j
    · subst hjL
      rw [if_pos rfl, if_pos hLt] at hj
      obtain rfl := Option.some.inj hj
      simp only [D', if_true]
      exact ⟨b, subG_fix hρL hEL, _, _, ho, hb, fun k => Iff.rfl⟩
    · rw [if_neg hjL] at hj
      simp only [D', if_neg (fun e : j = L => hjL e.symm)]
      exact hs.ok j q hj
  · simp only [D'] at hi hj
    split at hi <;> split at hj
    · omega
    · rename_i _ hne
      exfalso
      obtain ⟨p, hp1, hp2⟩ := hDk k hi
      obtain ⟨⟨q, h1, h2⟩, _⟩ := hj
      have := hpost.mem.apart p q k hp2 h2
      subst this
      exact apartL_out hap h1 hne hp1
    · rename_i hne _
      exfalso
      obtain ⟨p, hp1, hp2⟩ := hDk k hj
      obtain ⟨⟨q, h1, h2⟩, _⟩ := hi
      have := hpost.mem.apart p q k hp2 h2
      subst this
      exact apartL_out hap h1 hne hp1
    · exact hs.apart i j k hi hj
  · rw [List.length_set] at hj
    refine ⟨(hs.out j hj).1, fun k hk => ?_⟩
    simp only [D'] at hk
    rw [if_neg (by omega)] at hk
    exact (hs.out j hj).2 k hk
  · have hik : i < pre.length := by
      rcases Nat.lt_or_ge i pre.length with g | g
      · exact g
      · rw [(hmem.out i g).1] at ha; cases ha
    refine gle_keep (μ := μ) (L := pre.length) hpost.mem hpost.agree (fun i a hi ha => hpost.gle i a ha) (gen0_zero hmem (k := pre.length) (by rw [List.take_length]; exact h0)) hp hM ?_ i a hik ha
    rcases Nat.lt_or_ge mE.length pre.length with q | q
    · exfalso
      have h1 := (parOk_out hp).2 mE.length q
      rw [Nat.zero_add] at h1
      have hlt : mE.length < mt.length := by
        have := h1.1
        have := (List.getElem?_eq_some_iff.1 this).1
        omega
      obtain ⟨i', r', e1, e2, _⟩ := (RM.get hM).2 mE.length mt[mE.length] (List.getElem?_eq_getElem hlt)
      rw [h1.1] at e1
      obtain rfl := Option.some.inj e1
      have := (List.getElem?_eq_some_iff.1 e2).1
      omega
    · exact q
  · have key : ∀ i, DE i k → w.heap.size ≤ k ∨ ∃ j, Ds j k := fun i hi => hpost.own i k hi
    simp only [D'] at hk
    split at hk
    · obtain ⟨p, _, hp2⟩ := hDk k hk
      exact key p hp2
    · obtain ⟨⟨q, h1, h2⟩, _⟩ := hk
      exact key q h2
end Go.Proofs.Ytimfnpjcedjmiaa
