/-
  Plain law: two bases that tell each other what they owe.
-/
import Derived.Test.YtimfnpjcedjmiacLNe
namespace Go.Proofs.Ytimfnpjcedjmiac
set_option linter.unusedSimpArgs false
set_option linter.unusedVariables false
def tell1 (q : Ba × Ba) (s : St3) : Ba × Ba := (if 0 ≤ takeV q.2 0 s then hrdB q.1 0 s else q.1, takeB q.2 0 s)
def tellL (q : Ba × Ba) (l : List St3) : Ba × Ba := l.foldl tell1 q
def tellM (q : Ba × Ba) : Ba × Ba := tellL q (owdB q.1 0)
def swapB (q : Ba × Ba) : Ba × Ba := (q.2, q.1)
/-- Two bases of a port each. -/
structure ok2B (q : Ba × Ba) : Prop where
  a : q.1.ok
  b : q.2.ok
  la : q.1.ow.length = 1
  lb : q.2.ow.length = 1
/-- What one base knows of an owner; does it owe it? -/
def w1 (b : Ba) (n : Int) : Option St3 × Bool := (b.kn n, getW b.ow 0 n)
theorem ofB_w1 {b : Ba} (h : b.ow.length = 1) (n : Int) : ofB b n (b.kn n, fun p => getW b.ow p n) := ⟨rfl, fun p _ _ => rfl⟩
/-- An owner's state is told. -/
def T1 (s : St3) (q : (Option St3 × Bool) × (Option St3 × Bool)) : (Option St3 × Bool) × (Option St3 × Bool) :=
  match q.2.1 with
  | none => ((q.1.1, false), (some s, false))
  | some t => if nws s t = 1 then ((q.1.1, false), (some s, false)) else if nws s t = 0 then ((q.1.1, false), (some t, false)) else (q.1, (some t, true))
theorem hrd_w1 {b : Ba} (h : b.ow.length = 1) {s : St3} (hs : sf s = 0) (hk : b.kn s.1 = some s) (n : Int) : w1 (hrdB b 0 s) n = if n = s.1 then (b.kn n, false) else w1 b n := by
  have hz : nws s s = 0 := nw_zero.2 ⟨rfl, rfl⟩
  have hr : hrK b s = 0 := by unfold hrK; rw [hk]; exact hz
  have hin := inP_of (b := b) (p := 0) (by decide) (by rw [h]; decide)
  unfold hrdB w1
  rw [if_pos ⟨hin, hs, by omega⟩]
  dsimp only
  obtain ⟨o, g1, g2, g3⟩ := getW_modW_self (l := b.ow) (p := 0) (n := n) (F := fun o => upI o s.1 false) (by decide) (by rw [h]; decide)
  rw [g2]
  unfold upI
  split
  · rfl
  · rw [g1]
theorem hrd_len {b : Ba} {p : Int} {s : St3} : (hrdB b p s).ow.length = b.ow.length := by
  unfold hrdB
  split
  · simp [modW_len]
  · rfl
theorem hrd_kn {b : Ba} {p : Int} {s : St3} : (hrdB b p s).kn = b.kn := by
  unfold hrdB
  split <;> rfl
theorem take_w1 {b : Ba} (h : b.ow.length = 1) {s : St3} (hs : sf s = 0) (n : Int) : w1 (takeB b 0 s) n = if n = s.1 then (match b.kn n with
    | none => (some s, false)
    | some t => if nws s t = 1 then (some s, false) else if nws s t = 0 then (some t, false) else (some t, true)) else w1 b n := by
  have hof := take_of (ofB_w1 h n) hs (p := 0) (by decide) (by rw [h]; decide)
  obtain ⟨h1, h2⟩ := hof
  have h20 := h2 0 (by decide) (by rw [takeB_len, h]; decide)
  unfold w1
  rw [h1, h20]
  unfold one1
  by_cases e : n = s.1
  · subst e
    rw [if_pos rfl, if_pos rfl]
    dsimp only
    cases b.kn s.1 with
    | none => simp
    | some t =>
      dsimp only
      split
      · simp
      · split <;> simp [upI]
  · rw [if_neg (fun g => e g.symm), if_neg e]
theorem takeV_eq {b : Ba} (h : b.ow.length = 1) {s : St3} (hs : sf s = 0) : takeV b 0 s = takK b s := by
  unfold takeV
  rw [if_pos ⟨inP_of (by decide) (by rw [h]; decide), hs⟩]
theorem takeE_eq {b : Ba} (h : b.ow.length = 1) {s : St3} (hs : sf s = 0) : takeE b 0 s = 0 := by
  unfold takeE
  rw [if_pos (inP_of (by decide) (by rw [h]; decide))]; exact hs
theorem tell1_w1 {q : Ba × Ba} (hq : ok2B q) {s : St3} (hs : sf s = 0) (hk : q.1.kn s.1 = some s) (n : Int) : (w1 (tell1 q s).1 n, w1 (tell1 q s).2 n) = if n = s.1 then T1 s (w1 q.1 n, w1 q.2 n) else (w1 q.1 n, w1 q.2 n) := by
  have hv := takeV_eq hq.lb hs
  have ht := take_w1 hq.lb hs n
  have hr := hrd_w1 hq.la hs hk n
  have hx : w1 (tell1 q s).1 n = if 0 ≤ takK q.2 s then w1 (hrdB q.1 0 s) n else w1 q.1 n := by
    unfold tell1
    rw [hv]
    dsimp only
    split <;> rfl
  rw [hx, show (tell1 q s).2 = takeB q.2 0 s from rfl, ht, hr]
  by_cases e : n = s.1
  · rw [if_pos e, if_pos e, if_pos e]
    unfold T1 takK
    rw [← e]
    unfold w1
    dsimp only
    cases q.2.kn n with
    | none => simp
    | some t =>
      dsimp only
      have hrg := nws_range s t
      by_cases h1 : nws s t = 1
      · rw [if_pos h1, if_pos h1, if_pos (by omega)]
      · by_cases h0 : nws s t = 0
        · rw [if_neg h1, if_pos h0, if_neg h1, if_pos h0, if_pos (by omega)]
        · rw [if_neg h1, if_neg h0, if_neg h1, if_neg h0, if_neg (by omega)]
  · rw [if_neg e, if_neg e, if_neg e]
    split <;> rfl
theorem tell1_ok {q : Ba × Ba} (hq : ok2B q) (s : St3) : ok2B (tell1 q s) := by
  refine ⟨?_, takeB_ok hq.b 0 s, ?_, by rw [show (tell1 q s).2 = takeB q.2 0 s from rfl, takeB_len]; exact hq.lb⟩
  · unfold tell1
    dsimp only
    split
    · exact hrdB_ok hq.a 0 s
    · exact hq.a
  · unfold tell1
    dsimp only
    split
    · rw [hrd_len]; exact hq.la
    · exact hq.la
theorem tell1_kn {q : Ba × Ba} {s : St3} : (tell1 q s).1.kn = q.1.kn := by
  unfold tell1
  dsimp only
  split
  · exact hrd_kn
  · rfl
theorem tellL_ok : ∀ {l : List St3} {q : Ba × Ba}, ok2B q → ok2B (tellL q l)
  | [], q, h => h
  | s :: l, q, h => tellL_ok (l := l) (tell1_ok h s)
theorem tellL_kn : ∀ {l : List St3} {q : Ba × Ba}, (tellL q l).1.kn = q.1.kn
  | [], q => rfl
  | s :: l, q => (tellL_kn (l := l) (q := tell1 q s)).trans tell1_kn
theorem tellL_w1 {n : Int} : ∀ {l : List St3} {q : Ba × Ba}, ok2B q → (∀ s ∈ l, sf s = 0 ∧ q.1.kn s.1 = some s) → (l.map (·.1)).Nodup →
    (w1 (tellL q l).1 n, w1 (tellL q l).2 n) = if n ∈ l.map (·.1) then (match q.1.kn n with
      | some s => T1 s (w1 q.1 n, w1 q.2 n)
      | none => (w1 q.1 n, w1 q.2 n)) else (w1 q.1 n, w1 q.2 n)
  | [], q, hq, hl, hn => by simp [tellL]
  | s :: l, q, hq, hl, hn => by
    obtain ⟨h1, h2⟩ := hl s (List.mem_cons_self ..)
    have hn' : s.1 ∉ l.map (·.1) ∧ (l.map (·.1)).Nodup := List.nodup_cons.1 hn
    have hst := tell1_w1 hq h1 h2 n
    have ih := tellL_w1 (n := n) (l := l) (q := tell1 q s) (tell1_ok hq s) (fun t ht => by rw [tell1_kn]; exact hl t (List.mem_cons_of_mem _ ht)) hn'.2
    show (w1 (tellL (tell1 q s) l).1 n, w1 (tellL (tell1 q s) l).2 n) = _
    rw [ih, tell1_kn]
    by_cases e : n = s.1
    · subst e
      rw [if_neg hn'.1, hst, if_pos rfl, if_pos (by simp), h2]
    · rw [hst, if_neg e]
      have hm : n ∈ (s :: l).map (·.1) ↔ n ∈ l.map (·.1) := by simp [e]
      by_cases hnl : n ∈ l.map (·.1)
      · rw [if_pos hnl, if_pos (hm.2 hnl)]
      · rw [if_neg hnl, if_neg (fun g => hnl (hm.1 g))]
theorem filterMap_nodup {kn : Int → Option St3} (h : ∀ n s, kn n = some s → s.1 = n) : ∀ {l : List Int}, l.Nodup → ((l.filterMap kn).map (·.1)).Nodup
  | [], _ => by simp
  | n :: l, hn => by
    have hn' := List.nodup_cons.1 hn
    rw [List.filterMap_cons]
    split
    · exact filterMap_nodup h hn'.2
    · rename_i s hs
      rw [List.map_cons, List.nodup_cons]
      refine ⟨fun hm => ?_, filterMap_nodup h hn'.2⟩
      obtain ⟨t, ht, e⟩ := List.mem_map.1 hm
      obtain ⟨m, hm1, hm2⟩ := List.mem_filterMap.1 ht
      have := h m t hm2
      have h2 := h n s hs
      exact hn'.1 (by rw [← h2, ← e, this]; exact hm1)
theorem owd_nodup {b : Ba} (hb : b.ok) (p : Int) : ((owdB b p).map (·.1)).Nodup := by
  have h := filterMap_nodup (fun n s hs => (hb.kn n s hs).1) (l := [1, 2, 3, 4, 5, 6]) (by decide)
  exact h.sublist ((List.filter_sublist ..).map _)
theorem owd_mem {b : Ba} (hb : b.ok) {n : Int} : n ∈ (owdB b 0).map (·.1) ↔ (b.kn n).isSome = true ∧ getW b.ow 0 n = true := by
  unfold owdB
  rw [List.mem_map]
  constructor
  · rintro ⟨s, hs, rfl⟩
    obtain ⟨h1, h2⟩ := List.mem_filter.1 hs
    exact ⟨by rw [(stsB_mem hb s h1).2]; rfl, h2⟩
  · rintro ⟨h1, h2⟩
    cases hk : b.kn n with
    | none => rw [hk] at h1; cases h1
    | some s =>
      have hs := hb.kn n s hk
      have hr := hb.range hk
      refine ⟨s, List.mem_filter.2 ⟨?_, by rw [hs.1]; exact h2⟩, hs.1⟩
      unfold stsB
      exact List.mem_filterMap.2 ⟨n, by simp; omega, hk⟩
/-- What is owed is told: of each owner. -/
theorem tellM_w1 {q : Ba × Ba} (hq : ok2B q) (n : Int) : (w1 (tellM q).1 n, w1 (tellM q).2 n) = match q.1.kn n, getW q.1.ow 0 n with
    | some s, true => T1 s (w1 q.1 n, w1 q.2 n)
    | _, _ => (w1 q.1 n, w1 q.2 n) := by
  unfold tellM
  rw [tellL_w1 hq (fun s hs => by
    have := stsB_mem hq.a s (List.mem_filter.1 hs).1
    exact this) (owd_nodup hq.a 0)]
  have hm := owd_mem hq.a (n := n)
  cases hk : q.1.kn n with
  | none =>
    dsimp only
    split <;> rfl
  | some s =>
    rw [hk] at hm
    cases hg : getW q.1.ow 0 n with
    | true =>
      rw [hg] at hm
      rw [if_pos (hm.2 ⟨rfl, rfl⟩)]
    | false =>
      rw [hg] at hm
      rw [if_neg (fun g => by have := (hm.1 g).2; cases this)]
theorem tellM_ok {q : Ba × Ba} (h : ok2B q) : ok2B (tellM q) := tellL_ok h
theorem swapB_ok {q : Ba × Ba} (h : ok2B q) : ok2B (swapB q) := ⟨h.b, h.a, h.lb, h.la⟩
def roundB (q : Ba × Ba) : Ba × Ba := swapB (tellM (swapB (tellM q)))
theorem roundB_ok {q : Ba × Ba} (h : ok2B q) : ok2B (roundB q) := swapB_ok (tellM_ok (swapB_ok (tellM_ok h)))
/-- Of one owner: both know the newest, and owe nothing. -/
def fin1 (k j : Option St3) (q : (Option St3 × Bool) × (Option St3 × Bool)) : Prop :=
  q.1.1 = q.2.1 ∧ q.1.2 = false ∧ q.2.2 = false ∧ (∀ s, k = some s → ∃ u, q.1.1 = some u ∧ nws s u ≤ 0) ∧ (∀ s, j = some s → ∃ u, q.1.1 = some u ∧ nws s u ≤ 0)
theorem nws_swap (s t : St3) : nws t s = - nws s t := nw_neg _ _ _ _
theorem nws_self (s : St3) : nws s s = 0 := nw_zero.2 ⟨rfl, rfl⟩
theorem nws_zero {s t : St3} (h : nws s t = 0) (ho : s.1 = t.1) : s = t := by
  obtain ⟨h1, h2⟩ := nw_zero.1 h
  exact Prod.ext ho (Prod.ext h1 h2)
theorem round_w1 {q : Ba × Ba} (hq : ok2B q) (n : Int) (h1 : getW q.1.ow 0 n = (q.1.kn n).isSome) (h2 : getW q.2.ow 0 n = (q.2.kn n).isSome) : fin1 (q.1.kn n) (q.2.kn n) (w1 (roundB q).1 n, w1 (roundB q).2 n) := by
  have a1 := tellM_w1 hq n
  have a2 := tellM_w1 (swapB_ok (tellM_ok hq)) n
  have b1 : w1 (roundB q).1 n = w1 (tellM (swapB (tellM q))).2 n := rfl
  have b2 : w1 (roundB q).2 n = w1 (tellM (swapB (tellM q))).1 n := rfl
  rw [b1, b2]
  have c1 : (swapB (tellM q)).1 = (tellM q).2 := rfl
  have c2 : (swapB (tellM q)).2 = (tellM q).1 := rfl
  rw [c1, c2] at a2
  have e1 : w1 (tellM q).1 n = ((tellM q).1.kn n, getW (tellM q).1.ow 0 n) := rfl
  have e2 : w1 (tellM q).2 n = ((tellM q).2.kn n, getW (tellM q).2.ow 0 n) := rfl
  have f1 : w1 q.1 n = (q.1.kn n, getW q.1.ow 0 n) := rfl
  have f2 : w1 q.2 n = (q.2.kn n, getW q.2.ow 0 n) := rfl
  have own1 : ∀ s, q.1.kn n = some s → s.1 = n := fun s hs => (hq.a.kn n s hs).1
  have own2 : ∀ s, q.2.kn n = some s → s.1 = n := fun s hs => (hq.b.kn n s hs).1
  rw [f1, f2, h1, h2] at a1
  generalize w1 (tellM (swapB (tellM q))).1 n = R1 at *
  generalize w1 (tellM (swapB (tellM q))).2 n = R2 at *
  rw [e1, e2] at a1 a2
  generalize (tellM q).1.kn n = k1 at *
  generalize (tellM q).2.kn n = k2 at *
  generalize getW (tellM q).1.ow 0 n = g1 at *
  generalize getW (tellM q).2.ow 0 n = g2 at *
  clear b1 b2 c1 c2 e1 e2 f1 f2 h1 h2
  cases hk : q.1.kn n with
  | none =>
    rw [hk] at a1
    cases hj : q.2.kn n with
    | none =>
      rw [hj] at a1
      simp only [Option.isSome_none, Prod.mk.injEq] at a1
      obtain ⟨⟨rfl, rfl⟩, rfl, rfl⟩ := a1
      simp only [Prod.mk.injEq] at a2
      obtain ⟨rfl, rfl⟩ := a2
      exact ⟨rfl, rfl, rfl, (fun s h => by cases h), (fun s h => by cases h)⟩
    | some t =>
      rw [hj] at a1
      simp only [Option.isSome_none, Option.isSome_some, Prod.mk.injEq] at a1
      obtain ⟨⟨rfl, rfl⟩, rfl, rfl⟩ := a1
      simp only [T1, Prod.mk.injEq] at a2
      obtain ⟨rfl, rfl⟩ := a2
      exact ⟨rfl, rfl, rfl, (fun s h => by cases h), (fun s h => by cases h; exact ⟨_, rfl, by rw [nws_self]; exact Int.le_refl _⟩)⟩
  | some s =>
    rw [hk] at a1
    cases hj : q.2.kn n with
    | none =>
      rw [hj] at a1
      simp only [T1, Option.isSome_some, Option.isSome_none, Prod.mk.injEq] at a1
      obtain ⟨⟨rfl, rfl⟩, rfl, rfl⟩ := a1
      simp only [Prod.mk.injEq] at a2
      obtain ⟨rfl, rfl⟩ := a2
      exact ⟨rfl, rfl, rfl, (fun s h => by cases h; exact ⟨_, rfl, by rw [nws_self]; exact Int.le_refl _⟩), (fun s h => by cases h)⟩
    | some t =>
      rw [hj] at a1
      have hst : s.1 = t.1 := (own1 s hk).trans (own2 t hj).symm
      simp only [T1, Option.isSome_some] at a1
      have hrg := nws_range s t
      have hsw := nws_swap s t
      by_cases d1 : nws s t = 1
      · rw [if_pos d1] at a1
        simp only [Prod.mk.injEq] at a1
        obtain ⟨⟨rfl, rfl⟩, rfl, rfl⟩ := a1
        simp only [Prod.mk.injEq] at a2
        obtain ⟨rfl, rfl⟩ := a2
        exact ⟨rfl, rfl, rfl, (fun u h => by cases h; exact ⟨_, rfl, by rw [nws_self]; exact Int.le_refl _⟩), (fun u h => by cases h; exact ⟨_, rfl, by omega⟩)⟩
      · rw [if_neg d1] at a1
        by_cases d0 : nws s t = 0
        · rw [if_pos d0] at a1
          have := nws_zero d0 hst
          subst this
          simp only [Prod.mk.injEq] at a1
          obtain ⟨⟨rfl, rfl⟩, rfl, rfl⟩ := a1
          simp only [Prod.mk.injEq] at a2
          obtain ⟨rfl, rfl⟩ := a2
          exact ⟨rfl, rfl, rfl, (fun u h => by cases h; exact ⟨_, rfl, by omega⟩), (fun u h => by cases h; exact ⟨_, rfl, by omega⟩)⟩
        · rw [if_neg d0] at a1
          simp only [Prod.mk.injEq] at a1
          obtain ⟨⟨rfl, rfl⟩, rfl, rfl⟩ := a1
          simp only [T1] at a2
          rw [if_pos (by omega)] at a2
          simp only [Prod.mk.injEq] at a2
          obtain ⟨rfl, rfl⟩ := a2
          exact ⟨rfl, rfl, rfl, (fun u h => by cases h; exact ⟨_, rfl, by omega⟩), (fun u h => by cases h; exact ⟨_, rfl, by rw [nws_self]; exact Int.le_refl _⟩)⟩
/-- Nothing is owed any more: nothing is told. -/
theorem tellM_rest {q : Ba × Ba} (hq : ok2B q) (h : ∀ n, getW q.1.ow 0 n = false) : tellM q = q := by
  unfold tellM
  have : owdB q.1 0 = [] := by
    unfold owdB
    rw [List.filter_eq_nil_iff]
    intro s _
    rw [h]; decide
  rw [this]; rfl
theorem round_rest {q : Ba × Ba} (hq : ok2B q) (h1 : ∀ n, getW q.1.ow 0 n = false) (h2 : ∀ n, getW q.2.ow 0 n = false) : roundB q = q := by
  unfold roundB
  rw [tellM_rest hq h1]
  have hs : ok2B (swapB q) := swapB_ok hq
  rw [tellM_rest hs (by intro n; exact h2 n)]; rfl
theorem met_w1 {b : Ba} (h : b.ow.length = 1) (n : Int) : (metB b 0).kn = b.kn ∧ getW (metB b 0).ow 0 n = (getW b.ow 0 n || (b.kn n).isSome) := by
  have hin := inP_of (b := b) (p := 0) (by decide) (by rw [h]; decide)
  unfold metB
  rw [if_pos hin]
  refine ⟨rfl, ?_⟩
  obtain ⟨o, g1, g2, g3⟩ := getW_modW_self (l := b.ow) (p := 0) (n := n) (F := fun o n => o n || (b.kn n).isSome) (by decide) (by rw [h]; decide)
  rw [g2, g1]
theorem met_len {b : Ba} {p : Int} : (metB b p).ow.length = b.ow.length := by
  unfold metB
  split
  · simp [modW_len]
  · rfl
/-- Who is not known is not owed. -/
theorem takes_owed {n : Int} : ∀ {l : List (St3 × Int)} {c : Option St3 × (Int → Bool)}, (c.1 = none → ∀ p, c.2 p = false) → ((l.foldl (one1 n) c).1 = none → ∀ p, (l.foldl (one1 n) c).2 p = false)
  | [], c, h => h
  | x :: l, c, h => takes_owed (l := l) (c := one1 n c x) (by
    unfold one1
    split
    · split
      · intro e; cases e
      · rename_i t ht
        split
        · intro e; cases e
        · split
          · intro e; rw [ht] at e; cases e
          · intro e; rw [ht] at e; cases e
    · exact h)
end Go.Proofs.Ytimfnpjcedjmiac
