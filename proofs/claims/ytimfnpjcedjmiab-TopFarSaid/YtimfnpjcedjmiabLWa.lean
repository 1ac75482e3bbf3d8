/-
  Plain law: the best ways over edges; what is far, and by whom.
-/
import Derived.Test.YtimfnpjcedjmiabVoc
namespace Go.Proofs.Ytimfnpjcedjmiab
set_option linter.unusedSimpArgs false
set_option linter.unusedVariables false
/-- A router that there may be. -/
def nod (n : Int) : Prop := 1 ≤ n ∧ n ≤ 6
/-- Edges may cost so much. -/
structure MOk (M : Int → Int → Int) : Prop where
  pos : ∀ a b, 0 ≤ M a b
  most : ∀ a b, M a b ≤ 20
section
variable {M : Int → Int → Int}
/-- A way: where it leads, how far, which was first. -/
inductive Wk (M : Int → Int → Int) (r : Int) : Int → Int → Int → Prop
  | one {n : Int} (h : nod n) (hm : 0 < M r n) : Wk M r n (M r n) n
  | step {u n d f : Int} (h : Wk M r u d f) (hn : nod n) (hm : 0 < M u n) : Wk M r n (d + M u n) f
def lx (d f d' f' : Int) : Prop := d < d' ∨ (d = d' ∧ f ≤ f')
theorem lx_refl (d f : Int) : lx d f d f := .inr ⟨rfl, Int.le_refl _⟩
theorem lx_trans {a b c d e f : Int} (h : lx a b c d) (k : lx c d e f) : lx a b e f := by unfold lx at *; omega
theorem Wk.pos {r n d f : Int} (h : Wk M r n d f) : 0 < d := by
  induction h with
  | one h hm => exact hm
  | step h hn hm ih => omega
theorem Wk.nod {r n d f : Int} (h : Wk M r n d f) : Go.Proofs.Ytimfnpjcedjmiab.nod n ∧ Go.Proofs.Ytimfnpjcedjmiab.nod f := by
  induction h with
  | one h hm => exact ⟨h, h⟩
  | step h hn hm ih => exact ⟨hn, ih.2⟩
/-- The best way. -/
def Best (M : Int → Int → Int) (r n d f : Int) : Prop := n ≠ r ∧ Wk M r n d f ∧ ∀ d' f', Wk M r n d' f' → lx d f d' f'
theorem Best.uniq {r n d f d' f' : Int} (h : Best M r n d f) (k : Best M r n d' f') : d = d' ∧ f = f' := by
  have h1 := h.2.2 _ _ k.2.1
  have h2 := k.2.2 _ _ h.2.1
  unfold lx at *; omega
theorem lex_min (P : Int → Int → Prop) (h0 : ∀ d f, P d f → 0 ≤ d ∧ 0 ≤ f) {d f : Int} (h : P d f) : ∃ d f, P d f ∧ ∀ d' f', P d' f' → lx d f d' f' := by
  have key : ∀ (n m : Nat) (d f : Int), P d f → d.toNat = n → f.toNat = m → ∃ d f, P d f ∧ ∀ d' f', P d' f' → lx d f d' f' := by
    intro n
    induction n using Nat.strongRecOn with
    | _ n ihn =>
      intro m
      induction m using Nat.strongRecOn with
      | _ m ihm =>
        intro d f hp hd hf
        by_cases hx : ∃ d' f', P d' f' ∧ ¬ lx d f d' f'
        · obtain ⟨d', f', h1, h2⟩ := hx
          have g1 := h0 d f hp
          have g2 := h0 d' f' h1
          unfold lx at h2
          rcases (by omega : d' < d ∨ (d' = d ∧ f' < f)) with h3 | ⟨h3, h4⟩
          · exact ihn d'.toNat (by omega) f'.toNat d' f' h1 rfl rfl
          · exact ihm f'.toNat (by omega) d' f' h1 (by omega) rfl
        · refine ⟨d, f, hp, fun d' f' h => ?_⟩
          rcases Classical.em (lx d f d' f') with g | g
          · exact g
          · exact absurd ⟨d', f', h, g⟩ hx
  exact key _ _ d f h rfl rfl
theorem Best.exists {r n d f : Int} (h : Wk M r n d f) (hn : n ≠ r) : ∃ d f, Best M r n d f := by
  obtain ⟨d, f, h1, h2⟩ := lex_min (fun d f => Wk M r n d f) (fun d f h => ⟨by have := h.pos; omega, by have := h.nod.2; unfold nod at this; omega⟩) h
  exact ⟨d, f, hn, h1, h2⟩

-- the nearest first
/-- What holds while the nearest ones are done. -/
structure DInv (M : Int → Int → Int) (r : Int) (far next : Int → Int) (done : Int → Bool) : Prop where
  rn : nod r
  root : far r = 0
  first : done r = false → ∀ n, nod n → done n = false ∧ (n ≠ r → far n < 0)
  wk : ∀ n, nod n → n ≠ r → 0 ≤ far n → Wk M r n (far n) (next n)
  rel : ∀ u, nod u → done u = true → ∀ v, nod v → v ≠ r → 0 < M u v → 0 ≤ far v ∧ lx (far v) (next v) (far u + M u v) (if u = r then v else next u)
  mono : ∀ u, nod u → done u = true → 0 ≤ far u ∧ ∀ v, nod v → done v = false → 0 ≤ far v → far u ≤ far v
theorem DInv.low {r : Int} {far next : Int → Int} {done : Int → Bool} (h : DInv M r far next done) (hend : ∀ n, nod n → done n = false → far n < 0) {n d f : Int} (hw : Wk M r n d f) : n ≠ r → 0 ≤ far n ∧ lx (far n) (next n) d f := by
  have hr : done r = true := by
    cases hd : done r with
    | true => rfl
    | false => have := hend r h.rn hd; have := h.root; omega
  induction hw with
  | one hn hm =>
    intro hne
    obtain ⟨h1, h2⟩ := h.rel r h.rn hr _ hn hne hm
    refine ⟨h1, ?_⟩
    rw [if_pos rfl, h.root, Int.zero_add] at h2
    exact h2
  | @step u n d f hu hn hm ih =>
    intro hne
    by_cases hur : u = r
    · subst hur
      obtain ⟨h1, h2⟩ := h.rel u h.rn hr n hn hne hm
      refine ⟨h1, lx_trans h2 ?_⟩
      have := hu.pos
      rw [h.root]
      unfold lx; omega
    · obtain ⟨g1, g2⟩ := ih hur
      have hdu : done u = true := by
        cases hd : done u with
        | true => rfl
        | false => have := hend u hu.nod.1 hd; omega
      obtain ⟨h1, h2⟩ := h.rel u hu.nod.1 hdu n hn hne hm
      refine ⟨h1, lx_trans h2 ?_⟩
      rw [if_neg hur]
      unfold lx at *; omega
theorem DInv.best {r : Int} {far next : Int → Int} {done : Int → Bool} (h : DInv M r far next done) (hend : ∀ n, nod n → done n = false → far n < 0) {n : Int} (hn : nod n) (hne : n ≠ r) : (0 ≤ far n → Best M r n (far n) (next n)) ∧ (¬ 0 ≤ far n → ∀ d f, ¬ Wk M r n d f) :=
  ⟨fun h0 => ⟨hne, h.wk n hn hne h0, fun d f hw => (h.low hend hw hne).2⟩, fun h0 d f hw => h0 (h.low hend hw hne).1⟩
/-- The nearest of those that are not done. -/
def Pick (far : Int → Int) (done : Int → Bool) (m a : Int) : Prop :=
  (a = 0 ∧ ∀ n, 1 ≤ n → n < m → done n = false → far n < 0) ∨ (1 ≤ a ∧ a < m ∧ done a = false ∧ 0 ≤ far a ∧ ∀ n, 1 ≤ n → n < m → done n = false → 0 ≤ far n → far a ≤ far n)
def upd {α : Type} (f : Int → α) (i : Int) (x : α) : Int → α := fun k => if k = i then x else f k
theorem upd_same {α : Type} (f : Int → α) (i : Int) (x : α) : upd f i x i = x := by simp [upd]
theorem upd_ne {α : Type} (f : Int → α) {i k : Int} (x : α) (h : k ≠ i) : upd f i x k = f k := by simp [upd, h]
/-- What holds while edges of one are looked at, up to m. -/
structure RInv (M : Int → Int → Int) (r a m : Int) (far next : Int → Int) (done : Int → Bool) : Prop where
  rn : nod r
  an : nod a
  root : far r = 0
  rdone : done r = true
  adone : done a = true
  apos : 0 ≤ far a
  wk : ∀ n, nod n → n ≠ r → 0 ≤ far n → Wk M r n (far n) (next n)
  rel : ∀ u, nod u → done u = true → ∀ v, nod v → v ≠ r → 0 < M u v → (u ≠ a ∨ v < m) → 0 ≤ far v ∧ lx (far v) (next v) (far u + M u v) (if u = r then v else next u)
  mono : ∀ u, nod u → done u = true → 0 ≤ far u ∧ far u ≤ far a ∧ ∀ v, nod v → done v = false → 0 ≤ far v → far u ≤ far v
theorem RInv.start {r a : Int} {far next : Int → Int} {done : Int → Bool} (h : DInv M r far next done) (hp : Pick far done 7 a) (ha : a ≠ 0) : RInv M r a 1 far next (upd done a true) := by
  rcases hp with ⟨h0, _⟩ | ⟨h1, h2, h3, h4, h5⟩
  · exact absurd h0 ha
  · have an : nod a := ⟨h1, by omega⟩
    have hr : r = a ∨ done r = true := by
      cases hd : done r with
      | true => exact .inr rfl
      | false =>
        left
        have := (h.first hd a an).2
        by_cases e : a = r
        · exact e.symm
        · have := this e; omega
    refine ⟨h.rn, an, h.root, ?_, upd_same _ _ _, h4, h.wk, ?_, ?_⟩
    · rcases hr with e | e
      · rw [e]; exact upd_same _ _ _
      · unfold upd; split <;> simp [e]
    · intro u hu hd v hv hvr hm hor
      by_cases e : u = a
      · unfold nod at hv; omega
      · rw [upd_ne _ _ e] at hd
        exact h.rel u hu hd v hv hvr hm
    · intro u hu hd
      by_cases e : u = a
      · subst e
        refine ⟨h4, Int.le_refl _, fun v hv hdv h0 => ?_⟩
        have hva : v ≠ u := by rintro rfl; rw [upd_same] at hdv; cases hdv
        rw [upd_ne _ _ hva] at hdv
        unfold nod at hv
        exact h5 v (by omega) (by omega) hdv h0
      · rw [upd_ne _ _ e] at hd
        obtain ⟨g1, g2⟩ := h.mono u hu hd
        refine ⟨g1, g2 a an h3 h4, fun v hv hdv h0 => ?_⟩
        have hva : v ≠ a := by rintro rfl; rw [upd_same] at hdv; cases hdv
        rw [upd_ne _ _ hva] at hdv
        exact g2 v hv hdv h0
theorem RInv.done {r a : Int} {far next : Int → Int} {done : Int → Bool} (h : RInv M r a 7 far next done) : DInv M r far next done :=
  ⟨h.rn, h.root, fun hd => (by rw [h.rdone] at hd; cases hd), h.wk, fun u hu hd v hv hvr hm => h.rel u hu hd v hv hvr hm (.inr (by unfold nod at hv; omega)), fun u hu hd => ⟨(h.mono u hu hd).1, (h.mono u hu hd).2.2⟩⟩
/-- An edge that does not count, or leads to one that is done. -/
theorem RInv.skip {r a m : Int} {far next : Int → Int} {done : Int → Bool} (h : RInv M r a m far next done) (hM : MOk M) (hs : M a m = 0 ∨ done m = true) (hmn : nod m) : RInv M r a (m + 1) far next done := by
  refine ⟨h.rn, h.an, h.root, h.rdone, h.adone, h.apos, h.wk, fun u hu hd v hv hvr hm hor => ?_, h.mono⟩
  by_cases e : u = a ∧ v = m
  · obtain ⟨rfl, rfl⟩ := e
    rcases hs with hs | hs
    · omega
    · obtain ⟨g1, g2, g3⟩ := h.mono v hv hs
      refine ⟨g1, ?_⟩
      unfold lx; omega
  · exact h.rel u hu hd v hv hvr hm (by omega)
/-- The label that an edge offers. -/
def byOf (r a m : Int) (next : Int → Int) : Int := if a = r then m else next a
theorem RInv.cand {r a m : Int} {far next : Int → Int} {done : Int → Bool} (h : RInv M r a m far next done) (hmn : nod m) (hm : 0 < M a m) : Wk M r m (far a + M a m) (byOf r a m next) := by
  unfold byOf
  by_cases e : a = r
  · rw [if_pos e, e, h.root, Int.zero_add]
    rw [e] at hm
    exact .one hmn hm
  · rw [if_neg e]
    exact .step (h.wk a h.an e h.apos) hmn hm
/-- An edge that offers nothing better. -/
theorem RInv.keep {r a m : Int} {far next : Int → Int} {done : Int → Bool} (h : RInv M r a m far next done) (hmn : nod m) (h0 : 0 ≤ far m) (hl : lx (far m) (next m) (far a + M a m) (byOf r a m next)) : RInv M r a (m + 1) far next done := by
  refine ⟨h.rn, h.an, h.root, h.rdone, h.adone, h.apos, h.wk, fun u hu hd v hv hvr hm hor => ?_, h.mono⟩
  by_cases e : u = a ∧ v = m
  · obtain ⟨rfl, rfl⟩ := e
    exact ⟨h0, hl⟩
  · exact h.rel u hu hd v hv hvr hm (by omega)
/-- An edge that offers something better. -/
theorem RInv.take {r a m : Int} {far next : Int → Int} {done : Int → Bool} (h : RInv M r a m far next done) (hmn : nod m) (hm : 0 < M a m) (hd : done m = false) (hl : far m < 0 ∨ lx (far a + M a m) (byOf r a m next) (far m) (next m)) : RInv M r a (m + 1) (upd far m (far a + M a m)) (upd next m (byOf r a m next)) done := by
  have ham : a ≠ m := by rintro rfl; rw [h.adone] at hd; cases hd
  have hrm : r ≠ m := by rintro rfl; rw [h.rdone] at hd; cases hd
  refine ⟨h.rn, h.an, by rw [upd_ne _ _ hrm]; exact h.root, h.rdone, h.adone, by rw [upd_ne _ _ ham]; exact h.apos, ?_, ?_, ?_⟩
  · intro n hn hne h0
    by_cases e : n = m
    · subst e
      rw [upd_same, upd_same]
      exact h.cand hmn hm
    · rw [upd_ne _ _ e] at h0 ⊢
      rw [upd_ne _ _ e]
      exact h.wk n hn hne h0
  · intro u hu hdu v hv hvr hmv hor
    have hum : u ≠ m := by rintro rfl; rw [hd] at hdu; cases hdu
    rw [upd_ne _ _ hum, upd_ne _ _ hum]
    by_cases e : v = m
    · subst e
      rw [upd_same, upd_same]
      by_cases e2 : u = a
      · subst e2
        refine ⟨by have := h.apos; omega, ?_⟩
        unfold byOf
        exact lx_refl _ _
      · obtain ⟨g1, g2⟩ := h.rel u hu hdu v hv hvr hmv (.inl e2)
        refine ⟨by have := h.apos; omega, ?_⟩
        rcases hl with hl | hl
        · omega
        · exact lx_trans hl g2
    · rw [upd_ne _ _ e, upd_ne _ _ e]
      exact h.rel u hu hdu v hv hvr hmv (by omega)
  · intro u hu hdu
    obtain ⟨g1, g2, g3⟩ := h.mono u hu hdu
    have hum : u ≠ m := by rintro rfl; rw [hd] at hdu; cases hdu
    rw [upd_ne _ _ hum, upd_ne _ _ ham]
    refine ⟨g1, g2, fun v hv hdv h0 => ?_⟩
    by_cases e : v = m
    · subst e; rw [upd_same]; omega
    · rw [upd_ne _ _ e] at h0 ⊢; exact g3 v hv hdv h0
end
-- what is told
open Classical in
/-- The best way, if there is one. -/
noncomputable def hopV (M : Int → Int → Int) (r n : Int) : Option (Int × Int) := if h : ∃ p : Int × Int, Best M r n p.1 p.2 then some (Classical.choose h) else none
theorem hopV_some {M : Int → Int → Int} {r n d f : Int} (h : Best M r n d f) : hopV M r n = some (d, f) := by
  have hx : ∃ p : Int × Int, Best M r n p.1 p.2 := ⟨(d, f), h⟩
  unfold hopV
  rw [dif_pos hx]
  obtain ⟨e1, e2⟩ := (Classical.choose_spec hx).uniq h
  rw [show Classical.choose hx = (d, f) from Prod.ext e1 e2]
theorem hopV_none {M : Int → Int → Int} {r n : Int} (h : ∀ d f, ¬ Wk M r n d f) : hopV M r n = none := by
  unfold hopV
  rw [dif_neg]
  rintro ⟨p, hp⟩
  exact h _ _ hp.2.1
theorem hopV_self {M : Int → Int → Int} {r : Int} : hopV M r r = none := by
  unfold hopV
  rw [dif_neg]
  rintro ⟨p, hp⟩
  exact hp.1 rfl
theorem hopV_best {M : Int → Int → Int} {r n d f : Int} (h : hopV M r n = some (d, f)) : Best M r n d f := by
  unfold hopV at h
  split at h
  · rename_i hx
    have := Classical.choose_spec hx
    rw [Option.some.inj h] at this
    exact this
  · cases h
noncomputable def hopAt (M : Int → Int → Int) (r n : Int) : List (Int × Int × Int) := match hopV M r n with
  | some p => [(n, p.1, p.2)]
  | none => []
/-- Hops to those that are less than m. -/
noncomputable def hopsTo (M : Int → Int → Int) (r : Int) : Nat → List (Int × Int × Int)
  | 0 => []
  | k + 1 => hopsTo M r k ++ hopAt M r ((k : Int) + 1)
noncomputable def hopsM (M : Int → Int → Int) (r : Int) : List (Int × Int × Int) := hopsTo M r 6
theorem hopsTo_len (M : Int → Int → Int) (r : Int) : ∀ k, (hopsTo M r k).length ≤ k
  | 0 => by simp [hopsTo]
  | k + 1 => by
    have := hopsTo_len M r k
    have h2 : (hopAt M r ((k : Int) + 1)).length ≤ 1 := by unfold hopAt; split <;> simp
    simp only [hopsTo, List.length_append]; omega
theorem mem_hopsTo {M : Int → Int → Int} {r n d f : Int} : ∀ {k : Nat}, (n, d, f) ∈ hopsTo M r k ↔ 1 ≤ n ∧ n ≤ k ∧ Best M r n d f
  | 0 => by simp [hopsTo]; omega
  | k + 1 => by
    have key : (n, d, f) ∈ hopAt M r ((k : Int) + 1) ↔ n = (k : Int) + 1 ∧ Best M r n d f := by
      unfold hopAt
      constructor
      · intro h
        split at h
        · rename_i p hp
          obtain ⟨p1, p2⟩ := p
          simp at h
          obtain ⟨rfl, rfl, rfl⟩ := h
          exact ⟨rfl, hopV_best hp⟩
        · simp at h
      · rintro ⟨rfl, h⟩
        rw [hopV_some h]; simp
    simp only [hopsTo, List.mem_append, mem_hopsTo (k := k), key]
    constructor
    · rintro (⟨h1, h2, h3⟩ | ⟨h1, h2⟩)
      · exact ⟨h1, by omega, h3⟩
      · exact ⟨by omega, by omega, h2⟩
    · rintro ⟨h1, h2, h3⟩
      by_cases e : n = (k : Int) + 1
      · exact .inr ⟨e, h3⟩
      · exact .inl ⟨h1, by omega, h3⟩
end Go.Proofs.Ytimfnpjcedjmiab
