/-
  Plain law: which state is known, and who owes it, of states that came one behind the other.
-/
import Derived.Test.YtimfnpjcedjmiacLFl
namespace Go.Proofs.Ytimfnpjcedjmiac
set_option linter.unusedSimpArgs false
set_option linter.unusedVariables false
/-- What is so of one owner, behind states that came at ports. -/
def one1 (n : Int) (c : Option St3 × (Int → Bool)) (x : St3 × Int) : Option St3 × (Int → Bool) :=
  if x.1.1 = n then
    (match c.1 with
    | none => (some x.1, fun p => !decide (p = x.2))
    | some t => if nws x.1 t = 1 then (some x.1, fun p => !decide (p = x.2)) else if nws x.1 t = 0 then (c.1, upI c.2 x.2 false) else (c.1, upI c.2 x.2 true))
  else c
def oneL (n : Int) (l : List (St3 × Int)) : Option St3 × (Int → Bool) := l.foldl (one1 n) (none, fun _ => false)
def takesB (b : Ba) (l : List (St3 × Int)) : Ba := l.foldl (fun b x => takeB b x.2 x.1) b
theorem getW_modW_self : ∀ {l : List (Int → Bool)} {p n : Int} {F : (Int → Bool) → Int → Bool}, 0 ≤ p → p < l.length → ∃ o, getW l p n = o n ∧ getW (modW l p F) p n = F o n ∧ ∀ m, getW l p m = o m
  | [], p, n, F, h0, h => by simp at h; omega
  | o :: r, p, n, F, h0, h => by
    by_cases e : p = 0
    · subst e
      exact ⟨o, by simp [getW], by simp [getW, modW], fun m => by simp [getW]⟩
    · obtain ⟨o', h1, h2, h3⟩ := getW_modW_self (l := r) (p := p - 1) (n := n) (F := F) (by omega) (by simp at h; omega)
      refine ⟨o', ?_, ?_, fun m => ?_⟩
      · unfold getW; rw [if_neg e]; exact h1
      · unfold modW getW; rw [if_neg e]; exact h2
      · unfold getW; rw [if_neg e]; exact h3 m
theorem getW_modW_other : ∀ {l : List (Int → Bool)} {p q n : Int} {F : (Int → Bool) → Int → Bool}, p ≠ q → getW (modW l q F) p n = getW l p n
  | [], p, q, n, F, h => rfl
  | o :: r, p, q, n, F, h => by
    unfold modW getW
    by_cases e : p = 0
    · rw [if_pos e, if_pos e]
      subst e
      rw [if_neg (fun e => h e.symm)]
    · rw [if_neg e, if_neg e]
      exact getW_modW_other (l := r) (p := p - 1) (q := q - 1) (by omega)
theorem getW_allW : ∀ {l : List (Int → Bool)} {i p n m but : Int}, 0 ≤ p → p < l.length → getW (allW l i n but) p m = if i + p = but then getW l p m else if m = n then true else getW l p m
  | [], i, p, n, m, but, h0, h => by simp at h; omega
  | o :: r, i, p, n, m, but, h0, h => by
    by_cases e : p = 0
    · subst e
      simp only [allW, getW, if_true, Int.add_zero]
      unfold aO
      split
      · rfl
      · unfold upI; rfl
    · unfold allW getW
      rw [if_neg e, if_neg e, getW_allW (l := r) (by omega) (by simp at h; omega)]
      rw [show i + 1 + (p - 1) = i + p by omega]
theorem inP_of {b : Ba} {p : Int} (h0 : 0 ≤ p) (h : p < b.ow.length) : inP b p = true := by simp [inP, h0, h]
/-- What one base knows of one owner, and who owes it. -/
def ofB (b : Ba) (n : Int) (c : Option St3 × (Int → Bool)) : Prop := b.kn n = c.1 ∧ ∀ p : Int, 0 ≤ p → p < b.ow.length → getW b.ow p n = c.2 p
theorem takeB_len {b : Ba} {p : Int} {s : St3} : (takeB b p s).ow.length = b.ow.length := by
  unfold takeB
  split
  · split
    · simp [modW_len, allW_len]
    · split <;> simp [modW_len]
  · rfl
theorem take_of {b : Ba} {n : Int} {c : Option St3 × (Int → Bool)} (h : ofB b n c) {s : St3} {p : Int} (hs : sf s = 0) (h0 : 0 ≤ p) (hp : p < b.ow.length) : ofB (takeB b p s) n (one1 n c (s, p)) := by
  obtain ⟨h1, h2⟩ := h
  have hin := inP_of h0 hp
  unfold takeB one1
  rw [if_pos ⟨hin, hs⟩]
  by_cases e : s.1 = n
  · subst e
    rw [if_pos rfl]
    have hk : takK b s = match c.1 with
      | some t => nws s t
      | none => 1 := by unfold takK; rw [h1]; cases c.1 <;> rfl
    cases hc : c.1 with
    | none =>
      rw [hc] at hk
      rw [if_pos hk]
      refine ⟨upI_self, fun q q0 hq => ?_⟩
      simp only [modW_len, allW_len] at hq
      by_cases eq : q = p
      · subst eq
        obtain ⟨o, g1, g2, g3⟩ := getW_modW_self (l := allW b.ow 0 s.1 q) (p := q) (n := s.1) (F := fun o => upI o s.1 false) q0 (by rw [allW_len]; exact hq)
        rw [g2, upI_self]; simp
      · rw [getW_modW_other eq, getW_allW q0 hq, if_neg (by omega), if_pos rfl]; simp [eq]
    | some t =>
      rw [hc] at hk
      dsimp only at hk
      by_cases k1 : nws s t = 1
      · rw [if_pos (hk.trans k1)]
        simp only [k1, if_true]
        refine ⟨upI_self, fun q q0 hq => ?_⟩
        simp only [modW_len, allW_len] at hq
        by_cases eq : q = p
        · subst eq
          obtain ⟨o, g1, g2, g3⟩ := getW_modW_self (l := allW b.ow 0 s.1 q) (p := q) (n := s.1) (F := fun o => upI o s.1 false) q0 (by rw [allW_len]; exact hq)
          rw [g2, upI_self]; simp
        · rw [getW_modW_other eq, getW_allW q0 hq, if_neg (by omega), if_pos rfl]; simp [eq]
      · rw [if_neg (by rw [hk]; exact k1)]
        simp only [if_neg k1]
        by_cases k0 : nws s t = 0
        · rw [if_pos (hk.trans k0)]
          simp only [k0, if_true]
          refine ⟨h1.trans hc, fun q q0 hq => ?_⟩
          simp only [modW_len] at hq
          by_cases eq : q = p
          · subst eq
            obtain ⟨o, g1, g2, g3⟩ := getW_modW_self (l := b.ow) (p := q) (n := s.1) (F := fun o => upI o s.1 false) q0 hq
            rw [g2, upI_self]; exact upI_self.symm
          · rw [getW_modW_other eq]; exact (h2 q q0 hq).trans (upI_ne eq).symm
        · rw [if_neg (by rw [hk]; exact k0)]
          simp only [if_neg k0]
          refine ⟨h1.trans hc, fun q q0 hq => ?_⟩
          simp only [modW_len] at hq
          by_cases eq : q = p
          · subst eq
            obtain ⟨o, g1, g2, g3⟩ := getW_modW_self (l := b.ow) (p := q) (n := s.1) (F := fun o => upI o s.1 true) q0 hq
            rw [g2, upI_self]; exact upI_self.symm
          · rw [getW_modW_other eq]; exact (h2 q q0 hq).trans (upI_ne eq).symm
  · have e' : n ≠ s.1 := fun x => e x.symm
    rw [if_neg e]
    have key : ∀ (v : Bool) (l : List (Int → Bool)), (∀ q : Int, 0 ≤ q → q < b.ow.length → getW l q n = c.2 q) → l.length = b.ow.length → ∀ q : Int, 0 ≤ q → q < b.ow.length → getW (modW l p fun o => upI o s.1 v) q n = c.2 q := by
      intro v l hl hll q q0 hq
      by_cases eq : q = p
      · subst eq
        obtain ⟨o, g1, g2, g3⟩ := getW_modW_self (l := l) (p := q) (n := n) (F := fun o => upI o s.1 v) q0 (by omega)
        rw [g2, upI_ne e', ← g1]; exact hl q q0 hq
      · rw [getW_modW_other eq]; exact hl q q0 hq
    split
    · refine ⟨(upI_ne e').trans h1, fun q q0 hq => ?_⟩
      simp only [modW_len, allW_len] at hq
      refine key false _ (fun q q0 hq => ?_) allW_len q q0 hq
      rw [getW_allW q0 hq]
      split
      · exact h2 q q0 hq
      · first | (rw [if_neg e']; exact h2 q q0 hq) | exact h2 q q0 hq
    · split
      · refine ⟨h1, fun q q0 hq => ?_⟩
        simp only [modW_len] at hq
        exact key false _ h2 rfl q q0 hq
      · refine ⟨h1, fun q q0 hq => ?_⟩
        simp only [modW_len] at hq
        exact key true _ h2 rfl q q0 hq
theorem takesB_of {n : Int} : ∀ {l : List (St3 × Int)} {b : Ba} {c : Option St3 × (Int → Bool)}, ofB b n c → (∀ x ∈ l, sf x.1 = 0 ∧ 0 ≤ x.2 ∧ x.2 < b.ow.length) → ofB (takesB b l) n (l.foldl (one1 n) c)
  | [], b, c, h, _ => h
  | x :: l, b, c, h, hl => by
    obtain ⟨g1, g2, g3⟩ := hl x (List.mem_cons_self ..)
    exact takesB_of (l := l) (b := takeB b x.2 x.1) (c := one1 n c x) (take_of h g1 g2 g3) (fun y hy => by rw [takeB_len]; exact hl y (List.mem_cons_of_mem _ hy))
theorem takesB_ok : ∀ {l : List (St3 × Int)} {b : Ba}, b.ok → (takesB b l).ok
  | [], b, h => h
  | x :: l, b, h => takesB_ok (l := l) (takeB_ok h x.2 x.1)
theorem takesB_len : ∀ {l : List (St3 × Int)} {b : Ba}, (takesB b l).ow.length = b.ow.length
  | [], b => rfl
  | x :: l, b => by
    show (takesB (takeB b x.2 x.1) l).ow.length = _
    rw [takesB_len, takeB_len]
theorem newB_of {k : Nat} {n : Int} : ofB (newB k) n (none, fun _ => false) := by
  refine ⟨rfl, fun p p0 hp => ?_⟩
  unfold newB at hp ⊢
  dsimp only at hp ⊢
  clear hp
  induction k generalizing p with
  | zero => rfl
  | succ k ih =>
    rw [List.replicate_succ]
    unfold getW
    split
    · rfl
    · exact ih (p - 1) (by omega)
-- the search for the newest
/-- The first of the newest of an owner: -1: none. -/
structure BestAt (n : Int) (l : List (St3 × Int)) (k : Nat) (b : Int) : Prop where
  lt : b < k
  m1 : -1 ≤ b
  own : ∀ x, 0 ≤ b → l[b.toNat]? = some x → x.1.1 = n
  kn : (oneL n (l.take k)).1 = if b < 0 then none else (l[b.toNat]?).map (·.1)
  rest : 0 ≤ b → ∀ (i : Nat) x y, b < i → i < k → l[i]? = some x → l[b.toNat]? = some y → x.1.1 = n → nws x.1 y.1 ≤ 0
/-- Does a port owe it? -/
def owe2 (n : Int) (l : List (St3 × Int)) (b : Nat) (p : Int) : Nat → Bool
  | 0 => match l[b]? with
    | some y => !decide (p = y.2)
    | none => false
  | j + 1 => match l[b + 1 + j]?, l[b]? with
    | some x, some y => if x.1.1 = n ∧ x.2 = p then decide (nws x.1 y.1 < 0) else owe2 n l b p j
    | _, _ => owe2 n l b p j
theorem oneL_succ {n : Int} {l : List (St3 × Int)} {k : Nat} {x : St3 × Int} (h : l[k]? = some x) : oneL n (l.take (k + 1)) = one1 n (oneL n (l.take k)) x := by
  obtain ⟨hk, rfl⟩ := List.getElem?_eq_some_iff.1 h
  unfold oneL
  rw [take_succ' hk, List.foldl_append]; rfl
theorem BestAt.zero {n : Int} {l : List (St3 × Int)} : BestAt n l 0 (-1) :=
  ⟨by decide, by decide, fun x h => by omega, by simp [oneL], fun h => by omega⟩
theorem BestAt.skip {n : Int} {l : List (St3 × Int)} {k : Nat} {b : Int} (h : BestAt n l k b) {x : St3 × Int} (hx : l[k]? = some x) (hn : ¬ (x.1.1 = n ∧ (b < 0 ∨ ∃ y, l[b.toNat]? = some y ∧ 0 < nws x.1 y.1))) : BestAt n l (k + 1) b ∧ (∀ p, (oneL n (l.take (k + 1))).2 p = if x.1.1 = n ∧ p = x.2 then (match l[b.toNat]? with | some y => decide (nws x.1 y.1 < 0) | none => false) else (oneL n (l.take k)).2 p) := by
  have hlt := h.lt
  have hS := oneL_succ (n := n) hx
  by_cases e : x.1.1 = n
  · have hb0 : 0 ≤ b := by
      rcases Int.lt_or_le b 0 with g | g
      · exact absurd ⟨e, .inl g⟩ hn
      · exact g
    have hkl := (List.getElem?_eq_some_iff.1 hx).1
    have hbl : b.toNat < l.length := by omega
    have hy : l[b.toNat]? = some l[b.toNat] := List.getElem?_eq_getElem hbl
    have hkn := h.kn
    rw [if_neg (by omega), hy] at hkn
    have hle : nws x.1 l[b.toNat].1 ≤ 0 := by
      rcases Int.lt_or_le 0 (nws x.1 l[b.toNat].1) with g | g
      · exact absurd ⟨e, .inr ⟨_, hy, g⟩⟩ hn
      · exact g
    have hrg := nws_range x.1 l[b.toNat].1
    have h1 : oneL n (l.take (k + 1)) = ((oneL n (l.take k)).1, upI (oneL n (l.take k)).2 x.2 (decide (nws x.1 l[b.toNat].1 < 0))) := by
      rw [hS]
      unfold one1
      rw [if_pos e, hkn]
      simp only [Option.map_some]
      rw [if_neg (by omega)]
      split
      · rename_i h0; rw [h0]; rfl
      · rw [show decide (nws x.1 l[b.toNat].1 < 0) = true from decide_eq_true (by omega)]
    refine ⟨⟨by omega, h.m1, h.own, ?_, fun _ i u v h1 h2 h3 h4 h5 => ?_⟩, fun p => ?_⟩
    · rw [h1, if_neg (by omega), hy]; exact hkn
    · by_cases ei : i = k
      · subst ei
        rw [hx] at h3
        rw [hy] at h4
        obtain rfl := Option.some.inj h3
        obtain rfl := Option.some.inj h4
        exact hle
      · exact h.rest hb0 i u v h1 (by omega) h3 h4 h5
    · rw [h1, hy]
      dsimp only
      unfold upI
      by_cases ep : p = x.2
      · rw [if_pos ep, if_pos ⟨e, ep⟩]
      · rw [if_neg ep, if_neg (fun g => ep g.2)]
  · have h1 : oneL n (l.take (k + 1)) = oneL n (l.take k) := by rw [hS]; unfold one1; rw [if_neg e]
    refine ⟨⟨by omega, h.m1, h.own, by rw [h1]; exact h.kn, fun hb0 i u v g1 g2 g3 g4 g5 => ?_⟩, fun p => ?_⟩
    · by_cases ei : i = k
      · subst ei
        rw [hx] at g3
        obtain rfl := Option.some.inj g3
        exact absurd g5 e
      · exact h.rest hb0 i u v g1 (by omega) g3 g4 g5
    · rw [h1, if_neg (fun g => e g.1)]
theorem BestAt.take {n : Int} {l : List (St3 × Int)} {k : Nat} {b : Int} (h : BestAt n l k b) {x : St3 × Int} (hx : l[k]? = some x) (hn : x.1.1 = n) (hb : b < 0 ∨ ∃ y, l[b.toNat]? = some y ∧ 0 < nws x.1 y.1) : BestAt n l (k + 1) k ∧ ∀ p, (oneL n (l.take (k + 1))).2 p = !decide (p = x.2) := by
  have hS := oneL_succ (n := n) hx
  have hkn := h.kn
  have h1 : oneL n (l.take (k + 1)) = (some x.1, fun p => !decide (p = x.2)) := by
    rw [hS]
    unfold one1
    rw [if_pos hn]
    rcases hb with hb | ⟨y, hy, hpos⟩
    · rw [if_pos hb] at hkn
      rw [hkn]
    · by_cases hb0 : b < 0
      · rw [if_pos hb0] at hkn
        rw [hkn]
      · rw [if_neg hb0, hy] at hkn
        rw [hkn]
        have := nws_range x.1 y.1
        simp only [Option.map_some]
        rw [if_pos (by omega)]
  refine ⟨⟨by omega, by omega, fun y _ hy => ?_, ?_, fun _ i u v g1 g2 => by omega⟩, fun p => by rw [h1]⟩
  · simp only [Int.toNat_natCast] at hy
    rw [hx] at hy
    obtain rfl := Option.some.inj hy
    exact hn
  · rw [h1, if_neg (by omega)]
    simp [hx]
/-- .. and who owes it. -/
def BW (n : Int) (l : List (St3 × Int)) (k : Nat) (b : Int) : Prop := BestAt n l k b ∧ (0 ≤ b → ∀ p, (oneL n (l.take k)).2 p = owe2 n l b.toNat p (k - b.toNat - 1))
theorem BW.zero {n : Int} {l : List (St3 × Int)} : BW n l 0 (-1) := ⟨BestAt.zero, fun h => by omega⟩
theorem BW.take {n : Int} {l : List (St3 × Int)} {k : Nat} {b : Int} (h : BW n l k b) {x : St3 × Int} (hx : l[k]? = some x) (hn : x.1.1 = n) (hb : b < 0 ∨ ∃ y, l[b.toNat]? = some y ∧ 0 < nws x.1 y.1) : BW n l (k + 1) k := by
  obtain ⟨h1, h2⟩ := h.1.take hx hn hb
  refine ⟨h1, fun _ p => ?_⟩
  rw [h2 p, Int.toNat_natCast, show k + 1 - k - 1 = 0 by omega]
  unfold owe2
  rw [hx]
theorem owe2_succ {n : Int} {l : List (St3 × Int)} {b j : Nat} {p : Int} {x y : St3 × Int} (hx : l[b + 1 + j]? = some x) (hy : l[b]? = some y) : owe2 n l b p (j + 1) = if x.1.1 = n ∧ x.2 = p then decide (nws x.1 y.1 < 0) else owe2 n l b p j := by
  conv => lhs; unfold owe2
  rw [hx, hy]
theorem owe2_zero {n : Int} {l : List (St3 × Int)} {b : Nat} {p : Int} {y : St3 × Int} (hy : l[b]? = some y) : owe2 n l b p 0 = !decide (p = y.2) := by
  unfold owe2
  rw [hy]
theorem BW.skip {n : Int} {l : List (St3 × Int)} {k : Nat} {b : Int} (h : BW n l k b) {x : St3 × Int} (hx : l[k]? = some x) (hc : ¬ (x.1.1 = n ∧ (b < 0 ∨ ∃ y, l[b.toNat]? = some y ∧ 0 < nws x.1 y.1))) : BW n l (k + 1) b := by
  obtain ⟨hb, hw⟩ := h
  obtain ⟨h1, h2⟩ := hb.skip hx hc
  refine ⟨h1, fun hb0 p => ?_⟩
  have hlt := hb.lt
  have hkl := (List.getElem?_eq_some_iff.1 hx).1
  rw [h2 p, show k + 1 - b.toNat - 1 = (k - b.toNat - 1) + 1 by omega]
  have hy : l[b.toNat]? = some l[b.toNat] := List.getElem?_eq_getElem (by omega)
  rw [owe2_succ (x := x) (by rw [show b.toNat + 1 + (k - b.toNat - 1) = k by omega]; exact hx) hy, hy]
  dsimp only
  by_cases hq : x.1.1 = n ∧ p = x.2
  · rw [if_pos hq, if_pos ⟨hq.1, hq.2.symm⟩]
  · rw [if_neg hq, if_neg (fun g => hq ⟨g.1, g.2.symm⟩)]
    exact hw hb0 p
end Go.Proofs.Ytimfnpjcedjmiac
