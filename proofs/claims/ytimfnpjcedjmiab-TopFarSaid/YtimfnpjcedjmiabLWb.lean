/-
  Plain law: all ways that come nowhere twice: the best of them is the best way.
-/
import Derived.Test.YtimfnpjcedjmiabLWa
namespace Go.Proofs.Ytimfnpjcedjmiab
set_option linter.unusedSimpArgs false
set_option linter.unusedVariables false
abbrev Hp := Int × Int × Int
section
variable {M : Int → Int → Int}
/-- A better one is kept. -/
def betB (h : Hp) (d f : Int) : Bool := decide (h.1 = 0) || decide (d < h.2.1) || (decide (d = h.2.1) && decide (f < h.2.2))
def putB (best : Int → Hp) (n d f : Int) : Int → Hp := if betB (best n) d f then upd best n (n, d, f) else best
def byB (by_ n : Int) : Int := if by_ = 0 then n else by_
/-- One edge on. -/
def wkStep (M : Int → Int → Int) (rec : Int → Int → Int → (Int → Bool) → (Int → Hp) → (Int → Hp)) (at_ far by_ : Int) (been : Int → Bool) (best : Int → Hp) (n : Int) : Int → Hp :=
  if M at_ n = 0 ∨ been n = true then best else rec n (far + M at_ n) (byB by_ n) been (putB best n (far + M at_ n) (byB by_ n))
/-- All ways on from a router: at most so many edges. -/
def wkN (M : Int → Int → Int) : Nat → Int → Int → Int → (Int → Bool) → (Int → Hp) → (Int → Hp)
  | 0, _, _, _, _, best => best
  | k + 1, at_, far, by_, been, best => [1, 2, 3, 4, 5, 6].foldl (wkStep M (wkN M k) at_ far by_ (upd been at_ true)) best
/-- What is come to. -/
inductive EE (M : Int → Int → Int) : Int → Int → Int → (Int → Bool) → Int → Int → Int → Prop
  | here {at_ far by_ : Int} {been : Int → Bool} {n : Int} (hn : nod n) (hm : M at_ n ≠ 0) (hb : upd been at_ true n = false) : EE M at_ far by_ been n (far + M at_ n) (byB by_ n)
  | deep {at_ far by_ : Int} {been : Int → Bool} {u n d f : Int} (hu : nod u) (hm : M at_ u ≠ 0) (hb : upd been at_ true u = false) (h : EE M u (far + M at_ u) (byB by_ u) (upd been at_ true) n d f) : EE M at_ far by_ been n d f
/-- .. by edges to these. -/
def EL (M : Int → Int → Int) (at_ far by_ : Int) (been' : Int → Bool) (L : List Int) (n d f : Int) : Prop := ∃ u, u ∈ L ∧ M at_ u ≠ 0 ∧ been' u = false ∧ ((n = u ∧ d = far + M at_ u ∧ f = byB by_ u) ∨ EE M u (far + M at_ u) (byB by_ u) been' n d f)
theorem EE_iff {at_ far by_ : Int} {been : Int → Bool} {n d f : Int} : EE M at_ far by_ been n d f ↔ EL M at_ far by_ (upd been at_ true) [1, 2, 3, 4, 5, 6] n d f := by
  have hmem : ∀ u : Int, u ∈ [1, 2, 3, 4, 5, 6] ↔ nod u := by intro u; simp [nod]; omega
  constructor
  · intro h
    cases h with
    | here hn hm hb => exact ⟨_, (hmem _).2 hn, hm, hb, .inl ⟨rfl, rfl, rfl⟩⟩
    | deep hu hm hb h => exact ⟨_, (hmem _).2 hu, hm, hb, .inr h⟩
  · rintro ⟨u, h1, h2, h3, h4⟩
    rcases h4 with ⟨rfl, rfl, rfl⟩ | h4
    · exact .here ((hmem _).1 h1) h2 h3
    · exact .deep ((hmem _).1 h1) h2 h3 h4
/-- One table of the best against another, and what was come to between. -/
structure Bet (P : Int → Int → Int → Prop) (b b' : Int → Hp) : Prop where
  from_ : ∀ n, b' n = b n ∨ ∃ d f, P n d f ∧ b' n = (n, d, f)
  keep : ∀ n, (b n).1 ≠ 0 → (b' n).1 ≠ 0 ∧ lx (b' n).2.1 (b' n).2.2 (b n).2.1 (b n).2.2
  all : ∀ n d f, P n d f → (b' n).1 ≠ 0 ∧ lx (b' n).2.1 (b' n).2.2 d f
theorem Bet.refl {P : Int → Int → Int → Prop} (hP : ∀ n d f, ¬ P n d f) (b : Int → Hp) : Bet P b b :=
  ⟨fun n => .inl rfl, fun n h => ⟨h, lx_refl _ _⟩, fun n d f h => absurd h (hP n d f)⟩
theorem Bet.trans {P Q R : Int → Int → Int → Prop} {a b c : Int → Hp} (h : Bet P a b) (k : Bet Q b c) (hR : ∀ n d f, R n d f ↔ P n d f ∨ Q n d f) : Bet R a c := by
  refine ⟨fun n => ?_, fun n hn => ?_, fun n d f hr => ?_⟩
  · rcases k.from_ n with e | ⟨d, f, h1, h2⟩
    · rcases h.from_ n with e2 | ⟨d, f, h1, h2⟩
      · exact .inl (e.trans e2)
      · exact .inr ⟨d, f, (hR _ _ _).2 (.inl h1), e.trans h2⟩
    · exact .inr ⟨d, f, (hR _ _ _).2 (.inr h1), h2⟩
  · obtain ⟨h1, h2⟩ := h.keep n hn
    obtain ⟨k1, k2⟩ := k.keep n h1
    exact ⟨k1, lx_trans k2 h2⟩
  · rcases (hR _ _ _).1 hr with hp | hq
    · obtain ⟨h1, h2⟩ := h.all n d f hp
      obtain ⟨k1, k2⟩ := k.keep n h1
      exact ⟨k1, lx_trans k2 h2⟩
    · exact k.all n d f hq
theorem Bet.put {n d f : Int} (hn : nod n) (b : Int → Hp) : Bet (fun x y z => x = n ∧ y = d ∧ z = f) b (putB b n d f) := by
  unfold putB
  by_cases hb : betB (b n) d f = true
  · rw [if_pos hb]
    simp only [betB, Bool.or_eq_true, Bool.and_eq_true, decide_eq_true_eq] at hb
    unfold nod at hn
    refine ⟨fun x => ?_, fun x hx => ?_, ?_⟩
    · by_cases e : x = n
      · subst e; exact .inr ⟨d, f, ⟨rfl, rfl, rfl⟩, upd_same _ _ _⟩
      · exact .inl (upd_ne _ _ e)
    · by_cases e : x = n
      · subst e
        rw [upd_same]
        refine ⟨by show x ≠ 0; omega, ?_⟩
        unfold lx
        simp only
        omega
      · rw [upd_ne _ _ e]; exact ⟨hx, lx_refl _ _⟩
    · rintro x y z ⟨rfl, rfl, rfl⟩
      rw [upd_same]
      exact ⟨by show x ≠ 0; omega, lx_refl _ _⟩
  · rw [if_neg hb]
    simp only [betB, Bool.or_eq_true, Bool.and_eq_true, decide_eq_true_eq, not_or, not_and] at hb
    refine ⟨fun x => .inl rfl, fun x hx => ⟨hx, lx_refl _ _⟩, ?_⟩
    rintro x y z ⟨rfl, rfl, rfl⟩
    refine ⟨hb.1.1, ?_⟩
    unfold lx
    have h1 := hb.1.2
    have h2 := hb.2
    omega
/-- How many were not been at. -/
def freeN (been : Int → Bool) : Nat := [1, 2, 3, 4, 5, 6].countP fun n => !been n
theorem freeN_upd {been : Int → Bool} {a : Int} (ha : nod a) (hb : been a = false) : freeN (upd been a true) + 1 = freeN been := by
  unfold freeN upd
  unfold nod at ha
  rcases (by omega : a = 1 ∨ a = 2 ∨ a = 3 ∨ a = 4 ∨ a = 5 ∨ a = 6) with rfl | rfl | rfl | rfl | rfl | rfl <;> simp [List.countP_cons, hb] <;> omega
theorem wkN_bet : ∀ (k : Nat) (at_ far by_ : Int) (been : Int → Bool) (best : Int → Hp), nod at_ → been at_ = false → freeN been ≤ k → Bet (EE M at_ far by_ been) best (wkN M k at_ far by_ been best)
  | 0, at_, far, by_, been, best, ha, hb, hf => by
    have := freeN_upd ha hb
    omega
  | k + 1, at_, far, by_, been, best, ha, hb, hf => by
    have hfu := freeN_upd ha hb
    have key : ∀ (L : List Int) (b : Int → Hp), (∀ u ∈ L, nod u) → Bet (EL M at_ far by_ (upd been at_ true) L) b (L.foldl (wkStep M (wkN M k) at_ far by_ (upd been at_ true)) b) := by
      intro L
      induction L with
      | nil => intro b _; exact Bet.refl (fun n d f ⟨u, hu, _⟩ => by simp at hu) b
      | cons u L ih =>
        intro b hL
        have hu := hL u (List.mem_cons_self ..)
        have ih' := fun b => ih b (fun x hx => hL x (List.mem_cons_of_mem _ hx))
        rw [List.foldl_cons]
        unfold wkStep
        by_cases hs : M at_ u = 0 ∨ upd been at_ true u = true
        · rw [if_pos hs]
          refine Bet.trans (Bet.refl (P := fun _ _ _ => False) (fun _ _ _ h => h) b) (ih' b) fun n d f => ?_
          constructor
          · rintro ⟨x, h1, h2, h3, h4⟩
            rcases List.mem_cons.1 h1 with rfl | h1
            · rcases hs with hs | hs
              · exact absurd hs h2
              · rw [hs] at h3; cases h3
            · exact .inr ⟨x, h1, h2, h3, h4⟩
          · rintro (h | ⟨x, h1, h2, h3, h4⟩)
            · exact h.elim
            · exact ⟨x, List.mem_cons_of_mem _ h1, h2, h3, h4⟩
        · rw [if_neg hs]
          have hm : M at_ u ≠ 0 := fun e => hs (.inl e)
          have hbu : upd been at_ true u = false := by
            cases h : upd been at_ true u with
            | false => rfl
            | true => exact absurd (.inr h) hs
          have h1 := Bet.put (d := far + M at_ u) (f := byB by_ u) hu b
          have h2 := wkN_bet k u (far + M at_ u) (byB by_ u) (upd been at_ true) (putB b u (far + M at_ u) (byB by_ u)) hu hbu (by omega)
          refine Bet.trans (Bet.trans h1 h2 (R := fun n d f => (n = u ∧ d = far + M at_ u ∧ f = byB by_ u) ∨ EE M u (far + M at_ u) (byB by_ u) (upd been at_ true) n d f) (fun _ _ _ => Iff.rfl)) (ih' _) fun n d f => ?_
          constructor
          · rintro ⟨x, g1, g2, g3, g4⟩
            rcases List.mem_cons.1 g1 with rfl | g1
            · exact .inl g4
            · exact .inr ⟨x, g1, g2, g3, g4⟩
          · rintro (g | ⟨x, g1, g2, g3, g4⟩)
            · exact ⟨u, List.mem_cons_self .., hm, hbu, g⟩
            · exact ⟨x, List.mem_cons_of_mem _ g1, g2, g3, g4⟩
    have h := key [1, 2, 3, 4, 5, 6] best (fun u hu => by simp at hu; unfold nod; omega)
    refine ⟨fun n => ?_, h.keep, fun n d f he => h.all n d f (EE_iff.1 he)⟩
    rcases h.from_ n with e | ⟨d, f, h1, h2⟩
    · exact .inl e
    · exact .inr ⟨d, f, EE_iff.2 h1, h2⟩
/-- What is come to are ways. -/
theorem EE.wk {r : Int} (hM : MOk M) {at_ far by_ : Int} {been : Int → Bool} {n d f : Int} (h : EE M at_ far by_ been n d f) : (at_ = r ∧ far = 0 ∧ by_ = 0) ∨ (by_ ≠ 0 ∧ Wk M r at_ far by_) → Wk M r n d f := by
  induction h with
  | @here at_ far by_ been n hn hm hb =>
    have hp := hM.pos at_ n
    rintro (⟨rfl, rfl, rfl⟩ | ⟨h1, h2⟩)
    · rw [Int.zero_add]; exact .one hn (by omega)
    · unfold byB; rw [if_neg h1]; exact .step h2 hn (by omega)
  | @deep at_ far by_ been u n d f hu hm hb h ih =>
    have hp := hM.pos at_ u
    rintro (⟨rfl, rfl, rfl⟩ | ⟨h1, h2⟩)
    · refine ih (.inr ⟨?_, ?_⟩)
      · unfold byB; rw [if_pos rfl]; unfold nod at hu; omega
      · unfold byB; rw [if_pos rfl, Int.zero_add]; exact .one hu (by omega)
    · refine ih (.inr ⟨?_, ?_⟩)
      · unfold byB; rw [if_neg h1]; exact h1
      · unfold byB; rw [if_neg h1]; exact .step h2 hu (by omega)
/-- A best way, by best ways. -/
inductive Ch (M : Int → Int → Int) (r : Int) : Int → Int → Int → List Int → Prop
  | one {n : Int} (h : Best M r n (M r n) n) (hm : 0 < M r n) : Ch M r n (M r n) n [r]
  | step {u n d f : Int} {vs : List Int} (h : Ch M r u d f vs) (hb : Best M r n (d + M u n) f) (hm : 0 < M u n) : Ch M r n (d + M u n) f (u :: vs)
theorem Best.ch {r : Int} : ∀ (k : Nat) {n d f : Int}, d.toNat = k → Best M r n d f → ∃ vs, Ch M r n d f vs := by
  intro k
  induction k using Nat.strongRecOn with
  | _ k ih =>
    intro n d f hk hb
    obtain ⟨hne, hw, hmin⟩ := hb
    cases hw with
    | one h hm => exact ⟨[r], .one ⟨hne, .one h hm, hmin⟩ hm⟩
    | @step u _ d0 _ h hn hm =>
      have hp := h.pos
      have hur : u ≠ r := by
        rintro rfl
        have := hmin _ _ (.one hn hm)
        unfold lx at this; omega
      have hbu : Best M r u d0 f := by
        refine ⟨hur, h, fun d' f' hw' => ?_⟩
        have := hmin _ _ (.step hw' hn hm)
        unfold lx at this ⊢; omega
      obtain ⟨vs, hc⟩ := ih d0.toNat (by omega) rfl hbu
      exact ⟨u :: vs, .step hc ⟨hne, .step h hn hm, hmin⟩ hm⟩
theorem Ch.best {r n d f : Int} {vs : List Int} (h : Ch M r n d f vs) : Best M r n d f := by
  cases h with
  | one h hm => exact h
  | step h hb hm => exact hb
theorem Ch.mem {r n d f : Int} {vs : List Int} (h : Ch M r n d f vs) : ∀ x ∈ vs, x = r ∨ ∃ d' f', d' < d ∧ Best M r x d' f' := by
  induction h with
  | one h hm => intro x hx; simp at hx; exact .inl hx
  | @step u n d f vs h hb hm ih =>
    intro x hx
    rcases List.mem_cons.1 hx with rfl | hx
    · exact .inr ⟨_, _, by omega, h.best⟩
    · rcases ih x hx with e | ⟨d', f', h1, h2⟩
      · exact .inl e
      · exact .inr ⟨d', f', by omega, h2⟩
theorem Ch.new {r n d f : Int} {vs : List Int} (h : Ch M r n d f vs) : n ∉ vs := by
  intro hn
  rcases h.mem n hn with e | ⟨d', f', h1, h2⟩
  · exact h.best.1 e
  · have := (h.best.uniq h2).1; omega
def beenL (vs : List Int) : Int → Bool := fun x => vs.contains x
theorem beenL_cons (u : Int) (vs : List Int) : upd (beenL vs) u true = beenL (u :: vs) := by
  funext x
  unfold upd beenL
  by_cases e : x = u
  · subst e; simp
  · rw [if_neg e]; simp [e]
theorem Ch.reach {r n d f : Int} {vs : List Int} (h : Ch M r n d f vs) : ∀ {n' d' f' : Int}, EE M n d f (beenL vs) n' d' f' → EE M r 0 0 (beenL []) n' d' f' := by
  induction h with
  | @one n h hm =>
    intro n' d' f' he
    have hn := h.2.1.nod.1
    refine .deep hn (by omega) ?_ ?_
    · rw [beenL_cons]; simp [beenL]; exact h.1
    · rw [beenL_cons]
      unfold byB
      rw [if_pos rfl, Int.zero_add]
      exact he
  | @step u n d f vs h hb hm ih =>
    intro n' d' f' he
    have hn := hb.2.1.nod.1
    refine ih (.deep hn (by omega) ?_ ?_)
    · rw [beenL_cons]
      have := (Ch.step h hb hm).new
      simpa [beenL] using this
    · rw [beenL_cons]
      have hf : f ≠ 0 := by have := h.best.2.1.nod.2; unfold nod at this; omega
      unfold byB
      rw [if_neg hf]
      exact he
theorem Ch.here {r n d f : Int} {vs : List Int} (h : Ch M r n d f vs) : EE M r 0 0 (beenL []) n d f := by
  cases h with
  | one h hm =>
    have hn := h.2.1.nod.1
    have e : EE M r 0 0 (beenL []) n (0 + M r n) (byB 0 n) := .here hn (by omega) (by rw [beenL_cons]; simp [beenL]; exact h.1)
    rw [Int.zero_add] at e
    exact e
  | @step u _ d _ vs h hb hm =>
    refine h.reach ?_
    have hn := hb.2.1.nod.1
    have hf : f ≠ 0 := by have := h.best.2.1.nod.2; unfold nod at this; omega
    have e : EE M u d f (beenL vs) n (d + M u n) (byB f n) := .here hn (by omega) (by
      rw [beenL_cons]
      have := (Ch.step h hb hm).new
      simpa [beenL] using this)
    unfold byB at e
    rw [if_neg hf] at e
    exact e
/-- The best of all that is come to is the best way. -/
theorem wkN_best {r : Int} (hM : MOk M) (hr : nod r) {n : Int} (hne : n ≠ r) :
    (∀ d f, hopV M r n = some (d, f) → wkN M 6 r 0 0 (beenL []) (fun _ => (0, 0, 0)) n = (n, d, f)) ∧ (hopV M r n = none → wkN M 6 r 0 0 (beenL []) (fun _ => (0, 0, 0)) n = (0, 0, 0)) := by
  have hB := wkN_bet (M := M) 6 r 0 0 (beenL []) (fun _ => (0, 0, 0)) hr rfl (by decide)
  constructor
  · intro d f hv
    have hb := hopV_best hv
    obtain ⟨vs, hc⟩ := hb.ch d.toNat rfl
    obtain ⟨h1, h2⟩ := hB.all n d f hc.here
    rcases hB.from_ n with e | ⟨d', f', g1, g2⟩
    · rw [e] at h1; exact absurd rfl h1
    · rw [g2] at h2 ⊢
      have g3 := hb.2.2 _ _ (g1.wk hM (.inl ⟨rfl, rfl, rfl⟩))
      simp only at h2
      unfold lx at h2 g3
      have : d = d' ∧ f = f' := by omega
      rw [this.1, this.2]
  · intro hv
    rcases hB.from_ n with e | ⟨d', f', g1, g2⟩
    · exact e
    · obtain ⟨d, f, hb⟩ := Best.exists (g1.wk hM (.inl ⟨rfl, rfl, rfl⟩)) hne
      rw [hopV_some hb] at hv; cases hv
end
end Go.Proofs.Ytimfnpjcedjmiab
