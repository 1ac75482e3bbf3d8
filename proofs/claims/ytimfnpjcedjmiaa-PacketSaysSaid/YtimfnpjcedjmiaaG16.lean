/-
  Engine G, part 16: contracts, and calls.
-/
import Derived.Test.YtimfnpjcedjmiaaG15
namespace Go.Proofs.Ytimfnpjcedjmiaa
open Go.RowKit
set_option linter.unusedSimpArgs false
set_option linter.unusedVariables false

def Enters (P : Program) (f : FuncId) : Prop := ∃ fn, P.funcs[f]? = some fn ∧ fn.body.isNone = false ∧ (fn.name == "runtime.NumGoroutine") = false
/-- What holds behind a call. -/
structure Post (σ : Store) (μ : Ghost) (Ds : Nat → Nat → Prop) (w : World) (r : AV) (m' : List Res) (x : Value) (σ' : Store) (μ' : Ghost) (Ds' : Nat → Nat → Prop) (w' : World) : Prop where
  rep : RepV σ' μ' r x
  mem : MemOk σ' μ' w' m' Ds'
  gle : Gle μ μ'
  agree : Agree σ' w'
  keeps : Keeps (fun b => ∃ id, Ds id b) w w'
  old : ∀ b o, b < w.heap.size → (¬ ∃ id, Ds id b) → σ' b o = σ b o
  mono : ∀ b o y, σ b o = some y → σ' b o = some y
  own : ∀ id b, Ds' id b → w.heap.size ≤ b ∨ ∃ j, Ds j b
/-- The contract of a function: of such arguments, over such memory, it returns such a value, and leaves such memory. -/
def Fn (P : Program) (f : FuncId) (args : List AV) (m : List Res) (r : AV) (m' : List Res) : Prop :=
  Enters P f ∧ ∀ (w : World) (σ : Store) (μ : Ghost) (Ds : Nat → Nat → Prop) (vs : Array Value), Agree σ w → MemOk σ μ w m Ds → vs.size = args.length → (∀ (i : Nat) (av : AV) (x : Value), args[i]? = some av → vs[i]? = some x → RepV σ μ av x) →
    Calls P f vs w fun e w' => ∃ x σ' μ' Ds', e = .returned x ∧ Post σ μ Ds w r m' x σ' μ' Ds' w'

-- numbers
def rnG : List (Nat × Nat) → Nat → Nat × Nat
  | [], _ => (0, 0)
  | p :: _, 0 => p
  | _ :: l, i + 1 => rnG l i
theorem rnG_eq : ∀ {l : List (Nat × Nat)} {i : Nat} {p : Nat × Nat}, l[i]? = some p → rnG l i = p
  | [], i, p, h => by simp at h
  | a :: l, 0, p, h => by simpa [rnG] using h
  | a :: l, i + 1, p, h => by simp only [rnG]; exact rnG_eq (by simpa using h)
def ren0 (g : List (Nat × Nat)) (v : AV) : AV :=
  match v with
  | .sl sz rows (some (j, q)) => .sl sz rows (some ((rnG g j).1, (rnG g j).2 + q))
  | .box j o => .box (rnG g j).1 o
  | .arr j q n => .arr (rnG g j).1 ((rnG g j).2 + q) n
  | .elt j q sz i o => .elt (rnG g j).1 ((rnG g j).2 + q) sz i o
  | .map j => .map (rnG g j).1
  | .agg _ => .any
  | .tup _ => .any
  | .clo _ _ => .any
  | x => x
def ren0L (g : List (Nat × Nat)) : List AV → List AV
  | [] => []
  | a :: l => ren0 g a :: ren0L g l
def ren1 (g : List (Nat × Nat)) (v : AV) : AV :=
  match v with
  | .agg l => .agg (ren0L g l)
  | .clo f l => .clo f (ren0L g l)
  | x => ren0 g x
def ren1L (g : List (Nat × Nat)) : List AV → List AV
  | [] => []
  | a :: l => ren1 g a :: ren1L g l
def ren (g : List (Nat × Nat)) (v : AV) : AV :=
  match v with
  | .tup l => .tup (ren1L g l)
  | x => ren1 g x
def renRR (g : List (Nat × Nat)) : List (List AV) → List (List AV)
  | [] => []
  | a :: l => ren0L g a :: renRR g l
def renR (g : List (Nat × Nat)) (sh : Nat) (r : Res) : Res :=
  match r with
  | .cells l => .cells (ren0L g l)
  | .grow E s q => .grow E s (sh + q)
  | .arr true E s q rows => .arr true E s (sh + q) rows
  | .arr false E s q rows => .arr false E s (sh + q) (renRR g rows)
  | r => r
theorem ren0L_eq {g : List (Nat × Nat)} : ∀ {l : List AV}, ren0L g l = l.map (ren0 g)
  | [] => rfl
  | a :: l => by simp [ren0L, ren0L_eq]
theorem ren1L_eq {g : List (Nat × Nat)} : ∀ {l : List AV}, ren1L g l = l.map (ren1 g)
  | [] => rfl
  | a :: l => by simp [ren1L, ren1L_eq]
theorem renRR_eq {g : List (Nat × Nat)} : ∀ {l : List (List AV)}, renRR g l = l.map (ren0L g)
  | [] => rfl
  | a :: l => by simp [renRR, renRR_eq]
def shA (s : Nat) : An → An
  | .fix v => .fix v
  | .cur ao n cap q => .cur ao n cap (s + q)
/-- One numbering seen in another. -/
def Num (g : List (Nat × Nat)) (μ μ' : Ghost) : Prop := ∀ j a, μ j = some a → ∃ i s, g[j]? = some (i, s) ∧ μ' i = some (shA s a)
section
variable {σ : Store} {μ μ' : Ghost} {g : List (Nat × Nat)} {x : Value}
theorem RepV.ren0 (H : Num g μ μ') {av : AV} (h : RepV σ μ av x) : RepV σ μ' (ren0 g av) x := by
  cases h with
  | any => exact .any _ _
  | v => exact .v _ _
  | err => exact .err _ _
  | sl _ sz rows own ao cap b off f hcap hmax hao hrow hst hr hone hown =>
    cases own with
    | none => exact .sl _ sz rows none ao cap b off f hcap hmax hao hrow hst hr hone (fun id g h => by cases h)
    | some p =>
      obtain ⟨j, q⟩ := p
      obtain ⟨a, ha, hl⟩ := hown j q rfl
      obtain ⟨i, s, h1, h2⟩ := H j a ha
      simp only [Go.Proofs.Ytimfnpjcedjmiaa.ren0, rnG_eq h1]
      refine .sl _ sz rows _ ao cap b off f hcap hmax hao hrow hst hr hone (fun id g h => ?_)
      simp only [Option.some.injEq, Prod.mk.injEq] at h
      obtain ⟨rfl, rfl⟩ := h
      refine ⟨_, h2, ?_⟩
      cases a with
      | fix v => exact hl.elim
      | cur ao' n' cap' q' => exact ⟨Nat.add_le_add_left hl.1 s, fun e => hl.2 (by omega)⟩
  | adr _ cells b off f hst hr hone => exact .adr _ cells b off f hst hr hone
  | agg => exact .any _ _
  | tup => exact .any _ _
  | clo => exact .any _ _
  | box _ j o b h =>
    obtain ⟨i, s, h1, h2⟩ := H j _ h
    simp only [Go.Proofs.Ytimfnpjcedjmiaa.ren0, rnG_eq h1]
    exact .box _ i o b h2
  | arr _ j q n ao m cap a hn hmm hmax h hl =>
    obtain ⟨i, s, h1, h2⟩ := H j _ h
    simp only [Go.Proofs.Ytimfnpjcedjmiaa.ren0, rnG_eq h1]
    cases a with
    | fix v => exact hl.elim
    | cur ao' n' cap' q' => exact .arr _ i (s + q) n ao m cap _ hn hmm hmax h2 ⟨Nat.add_le_add_left hl.1 s, fun e => hl.2 (by omega)⟩
  | elt _ j q sz i' o b m cap a h hl =>
    obtain ⟨i, s, h1, h2⟩ := H j _ h
    simp only [Go.Proofs.Ytimfnpjcedjmiaa.ren0, rnG_eq h1]
    cases a with
    | fix v => exact hl.elim
    | cur ao' n' cap' q' => exact .elt _ i (s + q) sz i' o b m cap _ h2 ⟨Nat.add_le_add_left hl.1 s, fun e => hl.2 (by omega)⟩
  | map _ j r h =>
    obtain ⟨i, s, h1, h2⟩ := H j _ h
    simp only [Go.Proofs.Ytimfnpjcedjmiaa.ren0, rnG_eq h1]
    exact .map _ i r h2
theorem RepV.ren1 (H : Num g μ μ') {av : AV} (h : RepV σ μ av x) : RepV σ μ' (ren1 g av) x := by
  cases av with
  | agg l =>
    obtain ⟨cs, rfl, hl, hr⟩ := h.inv_agg
    refine .agg _ _ cs (by rw [ren0L_eq, List.length_map]; exact hl) (fun i av y h1 h2 => ?_)
    rw [ren0L_eq, List.getElem?_map, Option.map_eq_some_iff] at h1
    obtain ⟨a, ha, rfl⟩ := h1
    exact (hr i a y ha h2).ren0 H
  | clo f l =>
    obtain ⟨cs, rfl, hl, hr⟩ := h.inv_clo
    refine .clo _ _ _ cs (by rw [ren0L_eq, List.length_map]; exact hl) (fun i av y h1 h2 => ?_)
    rw [ren0L_eq, List.getElem?_map, Option.map_eq_some_iff] at h1
    obtain ⟨a, ha, rfl⟩ := h1
    exact (hr i a y ha h2).ren0 H
  | _ => exact h.ren0 H
theorem RepV.ren (H : Num g μ μ') {av : AV} (h : RepV σ μ av x) : RepV σ μ' (ren g av) x := by
  cases av with
  | tup l =>
    obtain ⟨cs, rfl, hl, hr⟩ := h.inv_tup
    refine .tup _ _ cs (by rw [ren1L_eq, List.length_map]; exact hl) (fun i av y h1 h2 => ?_)
    rw [ren1L_eq, List.getElem?_map, Option.map_eq_some_iff] at h1
    obtain ⟨a, ha, rfl⟩ := h1
    exact (hr i a y ha h2).ren1 H
  | _ => exact h.ren1 H
theorem ROk.ren {w : World} {j i s : Nat} {D : Nat → Prop} {r : Res} (H : Num g μ μ') (hj : g[j]? = some (i, s)) (h : ROk σ μ w j D r) : ROk σ μ' w i D (renR g s r) := by
  have at' : ∀ a, μ j = some a → μ' i = some (shA s a) := fun a ha => by
    obtain ⟨i', s', h1, h2⟩ := H j a ha
    rw [hj] at h1
    simp only [Option.some.injEq, Prod.mk.injEq] at h1
    obtain ⟨rfl, rfl⟩ := h1
    exact h2
  cases r with
  | gone => exact h
  | cells l =>
    obtain ⟨b, c, T, h1, h2, h3, h4, h5⟩ := h
    refine ⟨b, c, T, at' _ h1, h2, by rw [ren0L_eq, List.length_map]; exact h3, fun q av hq => ?_, h5⟩
    rw [ren0L_eq, List.getElem?_map, Option.map_eq_some_iff] at hq
    obtain ⟨a, ha, rfl⟩ := hq
    obtain ⟨x, hx, hr⟩ := h4 q a ha
    exact ⟨x, hx, hr.ren0 H⟩
  | grow E sz q => obtain ⟨ao, n, cap, xs, h1, h2⟩ := h; exact ⟨ao, n, cap, xs, at' _ h1, h2⟩
  | arr fr E sz q rows =>
    obtain ⟨ao, cap, xs, h1, h2, h3, h4, h5⟩ := h
    cases fr with
    | true => exact ⟨ao, cap, xs, at' _ h1, h2, h3, h4, h5⟩
    | false =>
      have hl : (renRR g rows).length = rows.length := by rw [renRR_eq, List.length_map]
      refine ⟨ao, cap, xs, by rw [hl]; exact at' _ h1, by rw [hl]; exact h2, fun r hr => ?_, fun p q r av g1 g2 => ?_, h5⟩
      · rw [renRR_eq] at hr
        obtain ⟨r', hr', rfl⟩ := List.mem_map.1 hr
        rw [ren0L_eq, List.length_map]; exact h3 r' hr'
      · rw [renRR_eq, List.getElem?_map, Option.map_eq_some_iff] at g1
        obtain ⟨r', hr', rfl⟩ := g1
        rw [ren0L_eq, List.getElem?_map, Option.map_eq_some_iff] at g2
        obtain ⟨a, ha, rfl⟩ := g2
        obtain ⟨y, y1, y2, y3⟩ := h4 p q r' a hr' ha
        exact ⟨y, y1, RepV.ren0 H y2, y3⟩
  | map kk ag f => obtain ⟨r, es, c, h1, h2⟩ := h; exact ⟨r, es, c, at' _ h1, h2⟩
  | siter st p => obtain ⟨r, h1, h2⟩ := h; exact ⟨r, at' _ h1, h2⟩
  | obj p => obtain ⟨b, h1, h2⟩ := h; exact ⟨b, at' _ h1, h2⟩
end
/-- Numbers of what is new. -/
def extG (L : Nat) : Nat → List (Nat × Nat)
  | 0 => []
  | c + 1 => (L, 0) :: extG (L + 1) c
theorem extG_get : ∀ {L c j : Nat}, (extG L c)[j]? = if j < c then some (L + j, 0) else none
  | L, 0, j => by simp [extG]
  | L, c + 1, 0 => by simp [extG]
  | L, c + 1, j + 1 => by simp only [extG, List.getElem?_cons_succ, extG_get]; simp only [Nat.add_lt_add_iff_right]; rw [show L + 1 + j = L + (j + 1) by omega]
def rhoG (mem : List Res) (L c : Nat) : List Nat → List (Nat × Nat)
  | [] => extG L c
  | i :: is => (i, (genM mem i).getD 0) :: rhoG mem L c is
theorem rhoG_eq {mem : List Res} {L c : Nat} : ∀ {ρ : List Nat}, rhoG mem L c ρ = ρ.map (fun i => (i, (genM mem i).getD 0)) ++ extG L c
  | [] => rfl
  | i :: is => by simp [rhoG, rhoG_eq]
def renRs (g : List (Nat × Nat)) : List Res → List Res
  | [] => []
  | r :: rs => renR g 0 r :: renRs g rs
theorem renRs_eq {g : List (Nat × Nat)} : ∀ {l : List Res}, renRs g l = l.map (renR g 0)
  | [] => rfl
  | a :: l => by simp [renRs, renRs_eq]
def setsM (mem0 : List Res) (g : List (Nat × Nat)) : List Nat → List Res → List Res → List Res
  | [], rs, mem => mem ++ renRs g rs
  | i :: is, rs, mem => match rs with
    | r :: rs => setsM mem0 g is rs (mem.set i (renR g ((genM mem0 i).getD 0) r))
    | [] => mem
/-- What memory holds behind a call. -/
def memCall (mem : List Res) (ρ : List Nat) (m' : List Res) : List Res := setsM mem (rhoG mem mem.length (m'.length - ρ.length) ρ) ρ m' mem
def avCall (mem : List Res) (ρ : List Nat) (m' : List Res) (r : AV) : AV := ren (rhoG mem mem.length (m'.length - ρ.length) ρ) r

theorem setsM_len {mem0 : List Res} {g : List (Nat × Nat)} : ∀ {is : List Nat} {rs mem : List Res}, is.length ≤ rs.length → (setsM mem0 g is rs mem).length = mem.length + (rs.length - is.length)
  | [], rs, mem, h => by simp [setsM, renRs_eq]
  | i :: is, [], mem, h => by simp at h
  | i :: is, r :: rs, mem, h => by
    simp only [setsM]
    rw [setsM_len (by simpa using h)]
    simp
theorem setsM_get {mem0 : List Res} {g : List (Nat × Nat)} : ∀ {is : List Nat} {rs mem : List Res} {i : Nat}, is.length ≤ rs.length → (∀ j, j ∈ is → j < mem.length) → is.Nodup →
    (setsM mem0 g is rs mem)[i]? = match is.idxOf? i with
      | some j => rs[j]?.map (renR g ((genM mem0 i).getD 0))
      | none => if i < mem.length then mem[i]? else rs[is.length + (i - mem.length)]?.map (renR g 0)
  | [], rs, mem, i, h, hb, hn => by
    simp only [setsM, List.idxOf?_nil, List.length_nil, Nat.zero_add]
    rw [List.getElem?_append]
    split
    · rfl
    · simp [renRs_eq]
  | k :: is, [], mem, i, h, hb, hn => by simp at h
  | k :: is, r :: rs, mem, i, h, hb, hn => by
    simp only [setsM]
    have hn' := List.nodup_cons.1 hn
    have ih := setsM_get (mem0 := mem0) (g := g) (is := is) (rs := rs) (mem := mem.set k (renR g ((genM mem0 k).getD 0) r)) (i := i) (by simpa using h) (fun j hj => by rw [List.length_set]; exact hb j (List.mem_cons_of_mem _ hj)) hn'.2
    rw [ih]
    rw [List.idxOf?_cons]
    by_cases hk : k = i
    · subst hk
      have : is.idxOf? k = none := by rw [List.idxOf?_eq_none_iff]; exact hn'.1
      rw [this]
      have hlt := hb k (List.mem_cons_self ..)
      simp [hlt]
    · have hbeq : (k == i) = false := by simpa using hk
      rw [hbeq]
      simp only [Bool.false_eq_true, if_false]
      cases hq : is.idxOf? i with
      | some j => simp
      | none =>
        simp only [Option.map_none, List.length_set]
        split
        · rw [List.getElem?_set_ne hk]
        · simp only [List.length_cons]
          rw [show is.length + 1 + (i - mem.length) = is.length + (i - mem.length) + 1 by omega, List.getElem?_cons_succ]
end Go.Proofs.Ytimfnpjcedjmiaa
