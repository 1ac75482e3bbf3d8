/-
  Engine G, part 15: one state stands for another: with other numbers for memory, less known.
-/
import Derived.Test.YtimfnpjcedjmiaaG14
namespace Go.Proofs.Ytimfnpjcedjmiaa
open Go.RowKit
set_option linter.unusedSimpArgs false
set_option linter.unusedVariables false

def genR : Res → Option Nat
  | .grow _ _ g => some g
  | .arr _ _ _ g _ => some g
  | _ => none
/-- How often an array of one's own was moved. -/
def genM : List Res → Nat → Option Nat
  | [], _ => none
  | r :: _, 0 => genR r
  | _ :: l, i + 1 => genM l i
theorem genM_eq : ∀ {m : List Res} {i : Nat}, genM m i = m[i]?.bind genR
  | [], i => by simp [genM]
  | r :: l, 0 => rfl
  | r :: l, i + 1 => by simp only [genM, List.getElem?_cons_succ]; exact genM_eq
def curG (m : List Res) (i g : Nat) : Bool :=
  match genM m i with
  | some h => Nat.beq g h
  | none => false
theorem curG_out {m : List Res} {i g : Nat} (h : curG m i g = true) : ∃ r, m[i]? = some r ∧ genR r = some g := by
  unfold curG at h
  rw [genM_eq] at h
  cases hr : m[i]? with
  | none => rw [hr] at h; cases h
  | some r =>
    rw [hr] at h
    simp only [Option.bind_some] at h
    cases hg : genR r with
    | none => rw [hg] at h; cases h
    | some k => rw [hg] at h; exact ⟨r, rfl, by rw [hg, Nat.eq_of_beq_eq_true h]⟩
def rnO : List Nat → Nat → Option Nat
  | [], _ => none
  | a :: _, 0 => some a
  | _ :: l, i + 1 => rnO l i
theorem rnO_eq : ∀ {l : List Nat} {i : Nat}, rnO l i = l[i]?
  | [], i => by simp [rnO]
  | a :: l, 0 => rfl
  | a :: l, i + 1 => by simp only [rnO, List.getElem?_cons_succ]; exact rnO_eq
/-- Number j in the one state is number i in the other. -/
def isN (ρ : List Nat) (j i : Nat) : Bool :=
  match rnO ρ j with
  | some k => Nat.beq k i
  | none => false
theorem isN_out {ρ : List Nat} {j i : Nat} (h : isN ρ j i = true) : ρ[j]? = some i := by
  unfold isN at h
  rw [rnO_eq] at h
  cases hr : ρ[j]? with
  | none => rw [hr] at h; cases h
  | some k => rw [hr] at h; rw [Nat.eq_of_beq_eq_true h]
/-- Values, part by part. -/
def RVal (x y : Value) : Prop :=
  match y with
  | .int k n => match x with
    | .int k' m => tt (kEq k' k) (Vc (m = n))
    | _ => False
  | .bool b => match x with
    | .bool c => Vc (c = b)
    | _ => False
  | .string s => match x with
    | .string r => Vc (r = s)
    | _ => False
  | y => Vc (x = y)
theorem RVal.out {x y : Value} (h : RVal x y) : x = y := by
  unfold RVal at h
  split at h
  · split at h
    · obtain ⟨h1, ⟨h2⟩⟩ := tt_out h; rw [kEq_out h1, h2]
    · exact h.elim
  · split at h
    · rw [h.1]
    · exact h.elim
  · split at h
    · rw [h.1]
    · exact h.elim
  · exact h.1
/-- The slice may be another, if it has no rows. -/
def RRows (sz sz' : Nat) (rows rows' : List (List AV)) : Prop := Vc (rows = rows' ∧ (sz = sz' ∨ rows = []))
section
variable (m m' : List Res) (ρ : List Nat)
/-- What is known less. -/
def RK0 (a b : AV) : Prop :=
  match b with
  | .any => True
  | .v y => match a with
    | .v x => RVal x y
    | _ => False
  | .err k => match a with
    | .err j => Vc (j = k)
    | _ => False
  | .sl sz rows none => match a with
    | .sl sz' rows' _ => RRows sz' sz rows' rows
    | .v (.slice none 0 0) => Vc (rows = [])
    | _ => False
  | .sl sz rows (some (j, g)) => match a with
    | .sl sz' rows' (some (i, g')) => tt (isN ρ j i) (tt (curG m i g') (tt (curG m' j g) (tt (Nat.beq sz sz') (Vc (rows' = rows)))))
    | _ => False
  | .adr c => match a with
    | .adr d => Vc (d = c)
    | _ => False
  | .box j o => match a with
    | .box i p => tt (isN ρ j i) (Vc (p = o))
    | _ => False
  | .arr j g n => match a with
    | .arr i g' n' => tt (isN ρ j i) (tt (curG m i g') (tt (curG m' j g) (Vc (n' = n))))
    | _ => False
  | .elt j g sz k o => match a with
    | .elt i g' sz' k' o' => tt (isN ρ j i) (tt (curG m i g') (tt (curG m' j g) (Vc (sz' = sz ∧ k' = k ∧ o' = o))))
    | _ => False
  | .map j => match a with
    | .map i => tt (isN ρ j i) True
    | _ => False
  | _ => False
def RKL0 : List AV → List AV → Prop
  | [], l => match l with
    | [] => True
    | _ => False
  | a :: l, r => match r with
    | b :: k => RK0 m m' ρ a b ∧ RKL0 l k
    | [] => False
def RK1 (a b : AV) : Prop :=
  match b with
  | .agg l => match a with
    | .agg k => RKL0 m m' ρ k l
    | _ => False
  | .clo f l => match a with
    | .clo f' k => tt (Nat.beq f' f) (RKL0 m m' ρ k l)
    | _ => False
  | b => RK0 m m' ρ a b
def RKL1 : List AV → List AV → Prop
  | [], l => match l with
    | [] => True
    | _ => False
  | a :: l, r => match r with
    | b :: k => RK1 m m' ρ a b ∧ RKL1 l k
    | [] => False
def RK (a b : AV) : Prop :=
  match b with
  | .tup l => match a with
    | .tup k => RKL1 m m' ρ k l
    | _ => False
  | b => RK1 m m' ρ a b
def RKR : List (List AV) → List (List AV) → Prop
  | [], l => match l with
    | [] => True
    | _ => False
  | a :: l, r => match r with
    | b :: k => RKL0 m m' ρ a b ∧ RKR l k
    | [] => False
def okG (g' g : Nat) : Bool :=
  match g' with
  | 0 => Nat.beq g 0
  | _ => true
def RR (r r' : Res) : Prop :=
  match r' with
  | .gone => True
  | .cells l => match r with
    | .cells k => RKL0 m m' ρ k l
    | _ => False
  | .grow E s g' => match r with
    | .grow E2 s2 g => tt (Nat.beq E2 E) (tt (Nat.beq s2 s) (tt (okG g' g) True))
    | _ => False
  | .arr true E s g' rows => match r with
    | .arr true E2 s2 g rows2 => tt (Nat.beq E2 E) (tt (Nat.beq s2 s) (tt (okG g' g) (Vc (rows2 = rows))))
    | _ => False
  | .arr false E s g' rows => match r with
    | .arr false E2 s2 g rows2 => tt (Nat.beq E2 E) (tt (Nat.beq s2 s) (tt (okG g' g) (RKR m m' ρ rows2 rows)))
    | _ => False
  | .map kk ag f => match r with
    | .map kk2 ag2 f2 => Vc (kk2 = kk ∧ ag2 = ag ∧ f2 = f)
    | _ => False
  | .siter s p => match r with
    | .siter s2 p2 => Vc (s2 = s ∧ p2 = p)
    | _ => False
  | .obj p => match r with
    | .obj q => Vc (q = p)
    | _ => False
/-- Memory: number by number. -/
def RM : List Nat → List Res → Prop
  | [], l => match l with
    | [] => True
    | _ => False
  | i :: is, l => match l with
    | r' :: rs => (nthK m i fun r => RR m m' ρ r r') ∧ RM is rs
    | [] => False
/-- Slots. -/
def RF (fr : List (Nat × AV)) : List (Nat × AV) → Prop
  | [] => True
  | (t, b) :: l => (lkK fr t fun a => RK m m' ρ a b) ∧ RF fr l
end

/-- Where memory lies, by the other numbers. -/
def reG (g : Nat) : An → An
  | .fix v => .fix v
  | .cur ao n cap _ => .cur ao n cap g
def subG (μ : Ghost) (ρ : List Nat) (m' : List Res) : Ghost := fun j => (ρ[j]?).bind fun i => (μ i).map (reG ((genM m' j).getD 0))
def isGone : Res → Bool
  | .gone => true
  | _ => false
def subD (Ds : Nat → Nat → Prop) (ρ : List Nat) (m' : List Res) : Nat → Nat → Prop := fun j b => (∃ i, ρ[j]? = some i ∧ Ds i b) ∧ m'[j]?.map isGone = some false

section
variable {σ : Store} {μ : Ghost} {w : World} {m m' : List Res} {Ds : Nat → Nat → Prop} {ρ : List Nat}
theorem subG_fix {i j : Nat} {v : Value} (hj : ρ[j]? = some i) (h : μ i = some (.fix v)) : subG μ ρ m' j = some (.fix v) := by simp [subG, hj, h, reG]
theorem subG_cur {i j n cap g g' : Nat} {ao : Option Addr} (hj : ρ[j]? = some i) (h : μ i = some (.cur ao n cap g)) (hg : curG m' j g' = true) : subG μ ρ m' j = some (.cur ao n cap g') := by
  obtain ⟨r, hr, h2⟩ := curG_out hg
  simp [subG, hj, h, reG, genM_eq, hr, h2]
theorem MemOk.cur (h : MemOk σ μ w m Ds) {i g : Nat} {ao : Option Addr} {n cap : Nat} {a : An} (hg : curG m i g = true) (ha : μ i = some a) (hl : (An.cur ao n cap g).le a) : a = .cur ao n cap g := by
  obtain ⟨r, hr, h2⟩ := curG_out hg
  have h3 := h.ok i r hr
  cases r with
  | grow E s g0 =>
    obtain ⟨ao', n', cap', xs, q1, _⟩ := h3
    rw [ha] at q1
    obtain rfl := Option.some.inj q1
    obtain ⟨_, hl⟩ := hl
    have : g0 = g := Option.some.inj h2
    subst this
    obtain ⟨rfl, rfl, rfl⟩ := hl rfl
    rfl
  | arr fr E s g0 rows =>
    obtain ⟨ao', cap', xs, q1, _⟩ := h3
    rw [ha] at q1
    obtain rfl := Option.some.inj q1
    obtain ⟨_, hl⟩ := hl
    have : g0 = g := Option.some.inj h2
    subst this
    obtain ⟨rfl, rfl, rfl⟩ := hl rfl
    rfl
  | _ => cases h2

theorem RepV.sub0 (hm : MemOk σ μ w m Ds) {a b : AV} {x : Value} (h : RepV σ μ a x) (hk : RK0 m m' ρ a b) : RepV σ (subG μ ρ m') b x := by
  unfold RK0 at hk
  split at hk
  · exact .any _ _
  · split at hk
    · rw [hk.out] at h
      rw [h.inv_v]; exact .v _ _
    · exact hk.elim
  · split at hk
    · rw [hk.1] at h; rw [h.inv_err]; exact .err _ _
    · exact hk.elim
  · split at hk
    · obtain ⟨rfl, h2⟩ := hk.1
      cases h with
      | sl _ _ _ _ ao cap b off f hcap hmax hao hrow hst hr hone hown =>
        rcases h2 with rfl | rfl
        · exact .sl _ _ _ none ao cap b off f hcap hmax hao hrow hst hr hone (fun id g h => by cases h)
        · exact .sl _ _ [] none ao cap b off f hcap hmax hao (fun r hr => by cases hr) (fun i j r av h => by simp at h) (fun i j r av h => by simp at h) (fun i j r av h => by simp at h) (fun id g h => by cases h)
    · obtain ⟨rfl⟩ := hk
      rw [h.inv_v]
      exact .sl _ _ [] none none 0 0 0 (fun _ _ => undef) (Nat.le_refl _) (by simp [maxLen]) (.inl rfl) (fun r hr => by cases hr) (fun i j r av h => by simp at h) (fun i j r av h => by simp at h) (fun i j r av h => by simp at h) (fun id g h => by cases h)
    · exact hk.elim
  · split at hk
    · obtain ⟨h1, hk1⟩ := tt_out hk
      obtain ⟨h2, hk2⟩ := tt_out hk1
      obtain ⟨h3, hk3⟩ := tt_out hk2
      obtain ⟨h4, ⟨h5⟩⟩ := tt_out hk3
      have h4 := Nat.eq_of_beq_eq_true h4
      subst h4 h5
      cases h with
      | sl _ _ _ _ ao cap b off f hcap hmax hao hrow hst hr hone hown =>
        obtain ⟨an, k1, k2⟩ := hown _ _ rfl
        have := hm.cur h2 k1 k2
        subst this
        exact .sl _ _ _ _ ao cap b off f hcap hmax hao hrow hst hr hone (fun id g h => by
          simp only [Option.some.injEq, Prod.mk.injEq] at h
          obtain ⟨rfl, rfl⟩ := h
          exact ⟨_, subG_cur (isN_out h1) k1 h3, An.le_refl _⟩)
    · exact hk.elim
  · split at hk
    · rw [hk.1] at h
      cases h with
      | adr _ _ b off f hst hr hone => exact .adr _ _ b off f hst hr hone
    · exact hk.elim
  · split at hk
    · obtain ⟨h1, ⟨h2⟩⟩ := tt_out hk
      subst h2
      obtain ⟨b, rfl, h3⟩ := h.inv_box
      exact .box _ _ _ b (subG_fix (isN_out h1) h3)
    · exact hk.elim
  · split at hk
    · obtain ⟨h1, hk1⟩ := tt_out hk
      obtain ⟨h2, hk2⟩ := tt_out hk1
      obtain ⟨h3, ⟨h4⟩⟩ := tt_out hk2
      subst h4
      obtain ⟨ao, mm, cap, an, rfl, k1, k2, k3, k4, k5⟩ := h.inv_arr
      have := hm.cur h2 k4 k5
      subst this
      exact .arr _ _ _ _ ao mm cap _ k1 k2 k3 (subG_cur (isN_out h1) k4 h3) (An.le_refl _)
    · exact hk.elim
  · split at hk
    · obtain ⟨h1, hk1⟩ := tt_out hk
      obtain ⟨h2, hk2⟩ := tt_out hk1
      obtain ⟨h3, ⟨h4, h5, h6⟩⟩ := tt_out hk2
      subst h4 h5 h6
      obtain ⟨b, mm, cap, an, rfl, k4, k5⟩ := h.inv_elt
      have := hm.cur h2 k4 k5
      subst this
      exact .elt _ _ _ _ _ _ b mm cap _ (subG_cur (isN_out h1) k4 h3) (An.le_refl _)
    · exact hk.elim
  · split at hk
    · obtain ⟨h1, _⟩ := tt_out hk
      obtain ⟨r, rfl, h3⟩ := h.inv_map
      exact .map _ _ r (subG_fix (isN_out h1) h3)
    · exact hk.elim
  · exact hk.elim
theorem RKL0.get : ∀ {l k : List AV}, RKL0 m m' ρ l k → l.length = k.length ∧ ∀ (i : Nat) (b : AV), k[i]? = some b → ∃ a, l[i]? = some a ∧ RK0 m m' ρ a b
  | [], [], _ => ⟨rfl, fun i b h => by simp at h⟩
  | [], _ :: _, h => h.elim
  | _ :: _, [], h => h.elim
  | a :: l, b :: k, h => by
    obtain ⟨h1, h2⟩ := RKL0.get h.2
    refine ⟨by simp [h1], fun i c hc => ?_⟩
    cases i with
    | zero => simp at hc; subst hc; exact ⟨a, rfl, h.1⟩
    | succ i => exact h2 i c (by simpa using hc)
theorem RepV.sub1 (hm : MemOk σ μ w m Ds) {a b : AV} {x : Value} (h : RepV σ μ a x) (hk : RK1 m m' ρ a b) : RepV σ (subG μ ρ m') b x := by
  unfold RK1 at hk
  split at hk
  · split at hk
    · obtain ⟨h1, h2⟩ := RKL0.get hk
      obtain ⟨cs, rfl, hl, hr⟩ := h.inv_agg
      exact .agg _ _ cs (h1 ▸ hl) (fun i av y hi hy => let ⟨a, ha, hc⟩ := h2 i av hi; (hr i a y ha hy).sub0 hm hc)
    · exact hk.elim
  · split at hk
    · obtain ⟨h0, hk1⟩ := tt_out hk
      have h0 := Nat.eq_of_beq_eq_true h0
      subst h0
      obtain ⟨h1, h2⟩ := RKL0.get hk1
      obtain ⟨cs, rfl, hl, hr⟩ := h.inv_clo
      exact .clo _ _ _ cs (h1 ▸ hl) (fun i av y hi hy => let ⟨a, ha, hc⟩ := h2 i av hi; (hr i a y ha hy).sub0 hm hc)
    · exact hk.elim
  · exact h.sub0 hm hk
theorem RKL1.get : ∀ {l k : List AV}, RKL1 m m' ρ l k → l.length = k.length ∧ ∀ (i : Nat) (b : AV), k[i]? = some b → ∃ a, l[i]? = some a ∧ RK1 m m' ρ a b
  | [], [], _ => ⟨rfl, fun i b h => by simp at h⟩
  | [], _ :: _, h => h.elim
  | _ :: _, [], h => h.elim
  | a :: l, b :: k, h => by
    obtain ⟨h1, h2⟩ := RKL1.get h.2
    refine ⟨by simp [h1], fun i c hc => ?_⟩
    cases i with
    | zero => simp at hc; subst hc; exact ⟨a, rfl, h.1⟩
    | succ i => exact h2 i c (by simpa using hc)
theorem RepV.sub (hm : MemOk σ μ w m Ds) {a b : AV} {x : Value} (h : RepV σ μ a x) (hk : RK m m' ρ a b) : RepV σ (subG μ ρ m') b x := by
  unfold RK at hk
  split at hk
  · split at hk
    · obtain ⟨h1, h2⟩ := RKL1.get hk
      obtain ⟨cs, rfl, hl, hr⟩ := h.inv_tup
      exact .tup _ _ cs (h1 ▸ hl) (fun i av y hi hy => let ⟨a, ha, hc⟩ := h2 i av hi; (hr i a y ha hy).sub1 hm hc)
    · exact hk.elim
  · exact h.sub1 hm hk
theorem RKR.get : ∀ {l k : List (List AV)}, RKR m m' ρ l k → l.length = k.length ∧ ∀ (i : Nat) (b : List AV), k[i]? = some b → ∃ a, l[i]? = some a ∧ RKL0 m m' ρ a b
  | [], [], _ => ⟨rfl, fun i b h => by simp at h⟩
  | [], _ :: _, h => h.elim
  | _ :: _, [], h => h.elim
  | a :: l, b :: k, h => by
    obtain ⟨h1, h2⟩ := RKR.get h.2
    refine ⟨by simp [h1], fun i c hc => ?_⟩
    cases i with
    | zero => simp at hc; subst hc; exact ⟨a, rfl, h.1⟩
    | succ i => exact h2 i c (by simpa using hc)
theorem RM.get : ∀ {is : List Nat} {rs : List Res}, RM m m' ρ is rs → is.length = rs.length ∧ ∀ (j : Nat) (r' : Res), rs[j]? = some r' → ∃ i r, is[j]? = some i ∧ m[i]? = some r ∧ RR m m' ρ r r'
  | [], [], _ => ⟨rfl, fun i b h => by simp at h⟩
  | [], _ :: _, h => h.elim
  | _ :: _, [], h => h.elim
  | i :: is, r' :: rs, h => by
    obtain ⟨h1, h2⟩ := RM.get h.2
    refine ⟨by simp [h1], fun j c hc => ?_⟩
    cases j with
    | zero =>
      simp at hc
      subst hc
      obtain ⟨r, hr, hk⟩ := nthK_out h.1
      exact ⟨i, r, rfl, hr, hk⟩
    | succ j => exact h2 j c (by simpa using hc)
theorem RF.get {fr : List (Nat × AV)} : ∀ {fr' : List (Nat × AV)}, RF m m' ρ fr fr' → ∀ t b, look fr' t = some b → RK m m' ρ (lk fr t) b
  | [], _, t, b, h => by cases h
  | (k, v) :: l, hk, t, b, h => by
    obtain ⟨h1, h2⟩ := hk
    simp only [look] at h
    split at h
    · rename_i e
      subst e
      obtain rfl := Option.some.inj h
      rw [lkK_eq] at h1
      exact h1
    · exact RF.get h2 t b h
theorem ROk.sub (hm : MemOk σ μ w m Ds) {i j : Nat} {r r' : Res} (hi : m[i]? = some r) (hj : ρ[j]? = some i) (hj' : m'[j]? = some r') (hk : RR m m' ρ r r') : ROk σ (subG μ ρ m') w j (subD Ds ρ m' j) r' := by
  have h := hm.ok i r hi
  have hD : isGone r' = false → ∀ b, subD Ds ρ m' j b ↔ Ds i b := fun hg b => by
    unfold subD
    rw [hj']
    simp only [Option.map_some, hg, and_true]
    constructor
    · rintro ⟨i', h1, h2⟩; rw [hj] at h1; obtain rfl := Option.some.inj h1; exact h2
    · exact fun h => ⟨i, hj, h⟩
  unfold RR at hk
  split at hk
  · intro b hb; unfold subD at hb; rw [hj'] at hb; simp [isGone] at hb
  · split at hk
    · obtain ⟨b, c, T, h1, h2, h3, h4, h5, h6⟩ := h
      obtain ⟨k1, k2⟩ := RKL0.get hk
      exact ⟨b, c, T, subG_fix hj h1, h2, h3.trans k1, fun q av hq => let ⟨a, ha, hc⟩ := k2 q av hq; let ⟨x, hx, hr⟩ := h4 q a ha; ⟨x, hx, hr.sub0 hm hc⟩, h5, fun k => (hD rfl k).trans (h6 k)⟩
    · exact hk.elim
  · split at hk
    · obtain ⟨e1, hk1⟩ := tt_out hk
      obtain ⟨e2, _⟩ := tt_out hk1
      have e1 := Nat.eq_of_beq_eq_true e1
      have e2 := Nat.eq_of_beq_eq_true e2
      subst e1 e2
      obtain ⟨ao, nn, cap, xs, h1, h2, h3, h4⟩ := h
      refine ⟨ao, nn, cap, xs, ?_, h2, fun k hk => h3 k ((hD rfl k).1 hk), fun k => (hD rfl k).trans (h4 k)⟩
      simp [subG, hj, h1, reG, genM_eq, hj', genR]
    · exact hk.elim
  · split at hk
    · obtain ⟨e1, hk1⟩ := tt_out hk
      obtain ⟨e2, hk2⟩ := tt_out hk1
      obtain ⟨_, ⟨hk3⟩⟩ := tt_out hk2
      have e1 := Nat.eq_of_beq_eq_true e1
      have e2 := Nat.eq_of_beq_eq_true e2
      subst e1 e2 hk3
      obtain ⟨ao, cap, xs, h1, h2, h3, h4, h5, h6⟩ := h
      refine ⟨ao, cap, xs, ?_, h2, h3, h4, fun k hk => h5 k ((hD rfl k).1 hk), fun k => (hD rfl k).trans (h6 k)⟩
      simp [subG, hj, h1, reG, genM_eq, hj', genR]
    · exact hk.elim
  · split at hk
    · obtain ⟨e1, hk1⟩ := tt_out hk
      obtain ⟨e2, hk2⟩ := tt_out hk1
      obtain ⟨_, hk3⟩ := tt_out hk2
      have e1 := Nat.eq_of_beq_eq_true e1
      have e2 := Nat.eq_of_beq_eq_true e2
      subst e1 e2
      obtain ⟨ao, cap, xs, h1, h2, h3, h4, h5, h6⟩ := h
      obtain ⟨k1, k2⟩ := RKR.get hk3
      refine ⟨ao, cap, xs, ?_, by rw [← k1]; exact h2, fun r hr => ?_, fun p q r av g1 g2 => ?_, fun k hk => h5 k ((hD rfl k).1 hk), fun k => (hD rfl k).trans (h6 k)⟩
      · simp [subG, hj, h1, reG, genM_eq, hj', genR, k1]
      · obtain ⟨p, hp⟩ := List.getElem?_of_mem hr
        obtain ⟨a, ha, hc⟩ := k2 p r hp
        rw [← (RKL0.get hc).1]; exact h3 a (List.mem_of_getElem? ha)
      · obtain ⟨a, ha, hc⟩ := k2 p r g1
        obtain ⟨b, hb, hc2⟩ := (RKL0.get hc).2 q av g2
        obtain ⟨y, y1, y2, y3⟩ := h4 p q a b ha hb
        exact ⟨y, y1, RepV.sub0 hm y2 hc2, y3⟩
    · exact hk.elim
  · split at hk
    · obtain ⟨rfl, rfl, rfl⟩ := hk.1
      obtain ⟨r, es, c, h1, h2, h3, h4, h5, h6⟩ := h
      exact ⟨r, es, c, subG_fix hj h1, h2, h3, h4, h5, fun k => (hD rfl k).trans (h6 k)⟩
    · exact hk.elim
  · split at hk
    · obtain ⟨rfl, rfl⟩ := hk.1
      obtain ⟨r, h1, h2, h5, h6⟩ := h
      exact ⟨r, subG_fix hj h1, h2, h5, fun k => (hD rfl k).trans (h6 k)⟩
    · exact hk.elim
  · split at hk
    · obtain ⟨rfl⟩ := hk
      obtain ⟨b, h1, h2⟩ := h
      have : subD Ds ρ m' j = Ds i := funext fun k => propext (hD rfl k)
      exact ⟨b, subG_fix hj h1, this ▸ h2⟩
    · exact hk.elim
theorem MemOk.sub (hm : MemOk σ μ w m Ds) (hnd : ρ.Nodup) (hk : RM m m' ρ ρ m') : MemOk σ (subG μ ρ m') w m' (subD Ds ρ m') := by
  obtain ⟨hl, hget⟩ := RM.get hk
  refine ⟨fun j r' hj => ?_, fun i j b hi hj => ?_, fun j hj => ⟨?_, fun b hb => ?_⟩⟩
  · obtain ⟨i, r, h1, h2, h3⟩ := hget j r' hj
    exact ROk.sub hm h2 h1 hj h3
  · obtain ⟨⟨p, h1, h2⟩, _⟩ := hi
    obtain ⟨⟨q, h3, h4⟩, _⟩ := hj
    have := hm.apart p q b h2 h4
    subst this
    obtain ⟨p1, p2⟩ := List.getElem?_eq_some_iff.1 h1
    obtain ⟨q1, q2⟩ := List.getElem?_eq_some_iff.1 h3
    have hne := List.pairwise_iff_getElem.1 hnd
    rcases Nat.lt_trichotomy i j with g | g | g
    · exact absurd (p2.trans q2.symm) (hne i j p1 q1 g)
    · exact g
    · exact absurd (q2.trans p2.symm) (hne j i q1 p1 g)
  · have : ρ[j]? = none := List.getElem?_eq_none (by omega)
    simp [subG, this]
  · obtain ⟨⟨i, h1, _⟩, _⟩ := hb
    have := (List.getElem?_eq_some_iff.1 h1).1
    omega
end
end Go.Proofs.Ytimfnpjcedjmiaa
