/-
  Engine G, part 1: what is known of values and of memory of the call's own.
-/
import Derived.Test.YtimfnpjcedjmiaaBase
namespace Go.Proofs.Ytimfnpjcedjmiaa
open Go.RowKit

/-- Cells whose content is promised to stay. -/
abbrev Store := Nat → Nat → Option Value
/-- Where memory of one's own lies: an object's place; an array's place, length, room, and how often it was moved. -/
inductive An where
  | fix (v : Value)
  | cur (ao : Option Addr) (n cap g : Nat)
abbrev Ghost := Nat → Option An
def noG : Ghost := fun _ => none
def An.le : An → An → Prop
  | .fix v, .fix v' => v' = v
  | .cur ao n cap g, .cur ao' n' cap' g' => g ≤ g' ∧ (g' = g → ao' = ao ∧ n' = n ∧ cap' = cap)
  | _, _ => False
theorem An.le_refl (a : An) : a.le a := by cases a <;> simp [An.le]
theorem An.le_trans {a b c : An} (h : An.le a b) (k : An.le b c) : a.le c := by
  cases a <;> cases b <;> cases c <;> simp only [An.le] at * <;> first | contradiction | (exact h.elim) | (exact k.elim) | (subst h; exact k) | skip
  obtain ⟨h1, h2⟩ := h
  obtain ⟨k1, k2⟩ := k
  refine ⟨Nat.le_trans h1 k1, fun e => ?_⟩
  have e1 := Nat.le_antisymm (e ▸ k1) h1
  obtain ⟨rfl, rfl, rfl⟩ := h2 e1
  obtain ⟨rfl, rfl, rfl⟩ := k2 (e.trans e1.symm)
  exact ⟨rfl, rfl, rfl⟩
def Gle (μ μ' : Ghost) : Prop := ∀ i a, μ i = some a → ∃ a', μ' i = some a' ∧ a.le a'
theorem Gle.refl (μ : Ghost) : Gle μ μ := fun _ a h => ⟨a, h, a.le_refl⟩
theorem Gle.trans {μ μ' μ'' : Ghost} (h : Gle μ μ') (k : Gle μ' μ'') : Gle μ μ'' := fun i a ha =>
  let ⟨b, hb, hab⟩ := h i a ha
  let ⟨c, hc, hbc⟩ := k i b hb
  ⟨c, hc, An.le_trans hab hbc⟩
theorem Gle.none (μ : Ghost) : Gle noG μ := fun i a h => by cases h

/-- What is known of a value. -/
inductive AV where
  | any
  | v (x : Value)
  | err (k : Int)
  | sl (sz : Nat) (rows : List (List AV)) (own : Option (Nat × Nat))
  | adr (cells : List AV)
  | agg (l : List AV)
  | tup (l : List AV)
  | box (id off : Nat)
  | arr (id g n : Nat)
  | elt (id g sz i o : Nat)
  | map (id : Nat)
  | clo (f : Nat) (caps : List AV)
  deriving Inhabited

inductive RepV (σ : Store) : Ghost → AV → Value → Prop
  | any (μ : Ghost) (x : Value) : RepV σ μ .any x
  | v (μ : Ghost) (x : Value) : RepV σ μ (.v x) x
  | err (μ : Ghost) (k : Int) : RepV σ μ (.err k) (errv k)
  | sl (μ : Ghost) (sz : Nat) (rows : List (List AV)) (own : Option (Nat × Nat)) (ao : Option Addr) (cap b off : Nat) (f : Nat → Nat → Value)
      (hcap : rows.length ≤ cap) (hmax : cap ≤ maxLen) (hao : rows = [] ∨ ao = some ⟨b, off, none⟩) (hrow : ∀ r, r ∈ rows → r.length = sz)
      (hst : ∀ (i j : Nat) (r : List AV) (av : AV), rows[i]? = some r → r[j]? = some av → σ b (off + i * sz + j) = some (f i j))
      (hr : ∀ (i j : Nat) (r : List AV) (av : AV), rows[i]? = some r → r[j]? = some av → RepV σ noG av (f i j))
      (hone : ∀ (i j : Nat) (r : List AV) (av : AV), rows[i]? = some r → r[j]? = some av → (f i j).oneCell' = true)
      (hown : ∀ id g, own = some (id, g) → ∃ a, μ id = some a ∧ (An.cur ao rows.length cap g).le a) : RepV σ μ (.sl sz rows own) (.slice ao rows.length cap)
  | adr (μ : Ghost) (cells : List AV) (b off : Nat) (f : Nat → Value)
      (hst : ∀ (j : Nat) (av : AV), cells[j]? = some av → σ b (off + j) = some (f j)) (hr : ∀ (j : Nat) (av : AV), cells[j]? = some av → RepV σ noG av (f j)) (hone : ∀ (j : Nat) (av : AV), cells[j]? = some av → (f j).oneCell' = true) : RepV σ μ (.adr cells) (.pointer (some ⟨b, off, none⟩))
  | agg (μ : Ghost) (l : List AV) (cs : Array Value) (hl : l.length = cs.size) (hr : ∀ (i : Nat) (av : AV) (x : Value), l[i]? = some av → cs[i]? = some x → RepV σ μ av x) : RepV σ μ (.agg l) (.agg cs)
  | tup (μ : Ghost) (l : List AV) (cs : Array Value) (hl : l.length = cs.size) (hr : ∀ (i : Nat) (av : AV) (x : Value), l[i]? = some av → cs[i]? = some x → RepV σ μ av x) : RepV σ μ (.tup l) (.tuple cs)
  | box (μ : Ghost) (id off b : Nat) (h : μ id = some (.fix (.pointer (some ⟨b, 0, none⟩)))) : RepV σ μ (.box id off) (.pointer (some ⟨b, off, none⟩))
  | arr (μ : Ghost) (id g n : Nat) (ao : Option Addr) (m cap : Nat) (a : An) (hn : n ≤ m) (hm : m ≤ cap) (hmax : cap ≤ maxLen) (h : μ id = some a) (hl : (An.cur ao m cap g).le a) : RepV σ μ (.arr id g n) (.slice ao n cap)
  | elt (μ : Ghost) (id g sz i o b m cap : Nat) (a : An) (h : μ id = some a) (hl : (An.cur (some ⟨b, 0, none⟩) m cap g).le a) : RepV σ μ (.elt id g sz i o) (.pointer (some ⟨b, i * sz + o, none⟩))
  | map (μ : Ghost) (id r : Nat) (h : μ id = some (.fix (.map (some r)))) : RepV σ μ (.map id) (.map (some r))
  | clo (μ : Ghost) (f : Nat) (caps : List AV) (cs : Array Value) (hl : caps.length = cs.size) (hr : ∀ (i : Nat) (av : AV) (x : Value), caps[i]? = some av → cs[i]? = some x → RepV σ μ av x) : RepV σ μ (.clo f caps) (.func (.func f) #[] cs)

theorem RepV.mono {σ σ' : Store} {μ μ' : Ghost} {av : AV} {x : Value} (h : RepV σ μ av x) (hs : ∀ b o y, σ b o = some y → σ' b o = some y) (hm : Gle μ μ') : RepV σ' μ' av x := by
  induction h generalizing μ' with
  | any => exact .any _ _
  | v => exact .v _ _
  | err => exact .err _ _
  | sl μ sz rows own ao cap b off f hcap hmax hao hrow hst hr hone hown ih =>
    exact .sl μ' sz rows own ao cap b off f hcap hmax hao hrow (fun i j r av h1 h2 => hs _ _ _ (hst i j r av h1 h2)) (fun i j r av h1 h2 => ih i j r av h1 h2 (Gle.refl _)) hone (fun id g h => let ⟨a, ha, hle⟩ := hown id g h; let ⟨a', ha', hle'⟩ := hm id a ha; ⟨a', ha', An.le_trans hle hle'⟩)
  | adr μ cells b off f hst hr hone ih => exact .adr μ' cells b off f (fun j av h => hs _ _ _ (hst j av h)) (fun j av h => ih j av h (Gle.refl _)) hone
  | agg μ l cs hl hr ih => exact .agg μ' l cs hl (fun i av x h1 h2 => ih i av x h1 h2 hm)
  | tup μ l cs hl hr ih => exact .tup μ' l cs hl (fun i av x h1 h2 => ih i av x h1 h2 hm)
  | box μ id off b h =>
    obtain ⟨a', h1, h2⟩ := hm id _ h
    cases a' with
    | fix v => simp only [An.le] at h2; subst h2; exact .box μ' id off b h1
    | cur => exact h2.elim
  | arr μ id g n ao m cap a hn hmm hmax h hl => obtain ⟨a', h1, h2⟩ := hm id a h; exact .arr μ' id g n ao m cap a' hn hmm hmax h1 (An.le_trans hl h2)
  | elt μ id g sz i o b m cap a h hl => obtain ⟨a', h1, h2⟩ := hm id a h; exact .elt μ' id g sz i o b m cap a' h1 (An.le_trans hl h2)
  | map μ id r h =>
    obtain ⟨a', h1, h2⟩ := hm id _ h
    cases a' with
    | fix v => simp only [An.le] at h2; subst h2; exact .map μ' id r h1
    | cur => exact h2.elim
  | clo μ f caps cs hl hr ih => exact .clo μ' f caps cs hl (fun i av x h1 h2 => ih i av x h1 h2 hm)
theorem RepV.lift {σ : Store} {μ : Ghost} {av : AV} {x : Value} (h : RepV σ noG av x) : RepV σ μ av x := h.mono (fun _ _ _ h => h) (Gle.none μ)

/-- It stands by itself, without memory of the call's own. -/
def AV.free0 : AV → Bool
  | .sl _ _ (some _) | .box _ _ | .agg _ | .tup _ | .arr _ _ _ | .elt _ _ _ _ _ | .map _ | .clo _ _ => false
  | _ => true
def AV.free1 : AV → Bool
  | .agg l => l.all AV.free0
  | x => x.free0
def AV.free : AV → Bool
  | .tup l => l.all AV.free1
  | x => x.free1
theorem RepV.free0 {σ : Store} {μ μ' : Ghost} {av : AV} {x : Value} (h : RepV σ μ av x) (hf : av.free0 = true) : RepV σ μ' av x := by
  cases h with
  | any => exact .any _ _
  | v => exact .v _ _
  | err => exact .err _ _
  | sl _ sz rows own ao cap b off f hcap hmax hao hrow hst hr hone hown =>
    cases own with
    | none => exact .sl _ sz rows none ao cap b off f hcap hmax hao hrow hst hr hone (fun id g h => by cases h)
    | some id => simp [AV.free0] at hf
  | adr _ cells b off f hst hr hone => exact .adr _ cells b off f hst hr hone
  | _ => simp [AV.free0] at hf
theorem RepV.free1 {σ : Store} {μ μ' : Ghost} {av : AV} {x : Value} (h : RepV σ μ av x) (hf : av.free1 = true) : RepV σ μ' av x := by
  cases av with
  | agg l =>
    cases h with
    | agg _ _ cs hl hr => exact .agg _ l cs hl (fun i av x h1 h2 => (hr i av x h1 h2).free0 (List.all_eq_true.1 hf _ (List.mem_of_getElem? h1)))
  | _ => exact h.free0 hf
theorem RepV.free {σ : Store} {μ μ' : Ghost} {av : AV} {x : Value} (h : RepV σ μ av x) (hf : av.free = true) : RepV σ μ' av x := by
  cases av with
  | tup l =>
    cases h with
    | tup _ _ cs hl hr => exact .tup _ l cs hl (fun i av x h1 h2 => (hr i av x h1 h2).free1 (List.all_eq_true.1 hf _ (List.mem_of_getElem? h1)))
  | _ => exact h.free1 hf

/-- An object whose inside is not looked into: what is promised, the world, its block, the blocks that are its own. -/
structure OPred where
  rep : Store → World → Nat → (Nat → Prop) → Prop
  ext : ∀ {σ σ' w w' x D}, rep σ w x D → (∀ b, D b → w'.heap[b]? = w.heap[b]? ∧ ∀ o, σ' b o = σ b o) → (∀ b o y, σ b o = some y → σ' b o = some y) → rep σ' w' x D
  live : ∀ {σ w x D b}, rep σ w x D → D b → b < w.heap.size

/-- Keys of a map: integers of a kind; or two in an array. -/
def KeyW : Option IntKind → Value → Prop
  | some k, v => ∃ m, v = .int k m
  | none, v => ∃ a b, v = .agg #[.int .i64 a, .int .i64 b]
/-- What a map's entries say. -/
def MapRep (σ : Store) (es : Array MapEntry) (clock : Nat) (f : Value → Option (List AV)) : Prop :=
  (∀ e, e ∈ es.toList → e.born < clock ∧ ∃ l, f e.key = some l ∧ e.val.cells.size = l.length ∧ (∀ y ∈ e.val.cells.toList, y.oneCell' = true) ∧ ∀ (i : Nat) (av : AV), l[i]? = some av → ∃ y, e.val.cells[i]? = some y ∧ RepV σ noG av y) ∧
  (∀ k l, f k = some l → ∃ e, e ∈ es.toList ∧ e.key = k) ∧
  (∀ e, e ∈ es.toList → f e.key ≠ none) ∧
  es.toList.Pairwise (fun a b => a.key ≠ b.key ∧ a.born ≠ b.born)

/-- Memory of the call's own. -/
inductive Res where
  | gone
  | cells (l : List AV)
  | grow (E sz g : Nat)
  | arr (fr : Bool) (E sz g : Nat) (rows : List (List AV))
  | map (kk : Option IntKind) (agg : Bool) (f : Value → Option (List AV))
  | siter (s : ByteArray) (pos : Nat)
  | obj (p : OPred)

def blkA : Option Addr → Option Nat
  | some a => some a.block
  | none => none
def gOf (fr : Bool) (μ : Ghost) : Ghost := if fr then noG else μ

def ROk (σ : Store) (μ : Ghost) (w : World) (id : Nat) (D : Nat → Prop) : Res → Prop
  | .gone => ∀ b, ¬ D b
  | .cells l => ∃ (b : Nat) (c : Array Value) (T : TypeId), μ id = some (.fix (.pointer (some ⟨b, 0, none⟩))) ∧ w.heap[b]? = some (.cells c T (0, 0)) ∧ c.size = l.length ∧
      (∀ (i : Nat) (av : AV), l[i]? = some av → ∃ x, c[i]? = some x ∧ RepV σ μ av x) ∧ (∀ o, σ b o = none) ∧ ∀ k, D k ↔ k = b
  | .grow E sz g => ∃ ao n cap xs, μ id = some (.cur ao n cap g) ∧ w.ownsRow 0 E sz (.slice ao n cap) n xs ∧ (∀ k, D k → ∀ o, n * sz ≤ o → σ k o = none) ∧ ∀ k, D k ↔ blkA ao = some k
  | .arr fr E sz g rows => ∃ ao cap xs, μ id = some (.cur ao rows.length cap g) ∧ w.ownsRow 0 E sz (.slice ao rows.length cap) rows.length xs ∧ (∀ r, r ∈ rows → r.length = sz) ∧
      (∀ (i j : Nat) (r : List AV) (av : AV), rows[i]? = some r → r[j]? = some av → ∃ y, xs[i * sz + j]? = some y ∧ RepV σ (gOf fr μ) av y ∧ y.oneCell' = true) ∧ (∀ k, D k → ∀ o, σ k o = none) ∧ ∀ k, D k ↔ blkA ao = some k
  | .map kk ag f => ∃ (r : Nat) (es : Array MapEntry) (clock : Nat), μ id = some (.fix (.map (some r))) ∧ w.heap[r]? = some (.map es clock) ∧ MapRep σ es clock f ∧ (∀ e, e ∈ es.toList → KeyW kk e.key ∧ (ag = true ↔ ∃ cs, e.val = .agg cs)) ∧ (∀ o, σ r o = none) ∧ ∀ k, D k ↔ k = r
  | .siter s pos => ∃ r : Nat, μ id = some (.fix (.pointer (some ⟨r, 0, none⟩))) ∧ w.heap[r]? = some (.stringIter s pos) ∧ (∀ o, σ r o = none) ∧ ∀ k, D k ↔ k = r
  | .obj p => ∃ b : Nat, μ id = some (.fix (.pointer (some ⟨b, 0, none⟩))) ∧ p.rep σ w b D

theorem ownsRow_of_block {w w' : World} {B E sz n : Nat} {ao : Option Addr} {n' cap : Nat} {xs : List Value} (h : w.ownsRow B E sz (.slice ao n' cap) n xs) (hb : ∀ k, blkA ao = some k → w'.heap[k]? = w.heap[k]?) : w'.ownsRow B E sz (.slice ao n' cap) n xs := by
  obtain ⟨h1, h2⟩ := h
  refine ⟨h1, ?_⟩
  rcases h2 with h2 | ⟨g, cap, cur, e, h3, h4, h5⟩
  · exact .inl h2
  · simp only [Value.slice.injEq] at e
    obtain ⟨rfl, rfl, rfl⟩ := e
    exact .inr ⟨g, _, cur, rfl, h3, by rw [hb g rfl]; exact h4, h5⟩
theorem ownsRow_lt {w : World} {B E sz n : Nat} {ao : Option Addr} {n' cap k : Nat} {xs : List Value} (h : w.ownsRow B E sz (.slice ao n' cap) n xs) (hk : blkA ao = some k) : k < w.heap.size := by
  rcases h.2 with ⟨e, _⟩ | ⟨g, cap, cur, e, _, hg, _⟩
  · simp only [Value.slice.injEq] at e; obtain ⟨rfl, _, _⟩ := e; cases hk
  · simp only [Value.slice.injEq] at e; obtain ⟨rfl, _, _⟩ := e; simp only [blkA, Option.some.injEq] at hk; subst hk; exact (Array.getElem?_eq_some_iff.1 hg).1

theorem ROk.live {σ : Store} {μ : Ghost} {w : World} {id : Nat} {D : Nat → Prop} {r : Res} (h : ROk σ μ w id D r) {b : Nat} (hb : D b) : b < w.heap.size := by
  cases r with
  | gone => exact absurd hb (h b)
  | cells l => obtain ⟨b', c, T, _, h2, _, _, _, h6⟩ := h; obtain rfl := (h6 b).1 hb; exact (Array.getElem?_eq_some_iff.1 h2).1
  | grow E sz g => obtain ⟨ao, n, cap, xs, _, h2, _, h4⟩ := h; exact ownsRow_lt h2 ((h4 b).1 hb)
  | arr fr E sz g rows => obtain ⟨ao, cap, xs, _, h2, _, _, _, h4⟩ := h; exact ownsRow_lt h2 ((h4 b).1 hb)
  | map kk ag f => obtain ⟨r, es, c, _, h2, _, _, _, h6⟩ := h; obtain rfl := (h6 b).1 hb; exact (Array.getElem?_eq_some_iff.1 h2).1
  | siter s p => obtain ⟨r, _, h2, _, h6⟩ := h; obtain rfl := (h6 b).1 hb; exact (Array.getElem?_eq_some_iff.1 h2).1
  | obj p => obtain ⟨b', _, h2⟩ := h; exact p.live h2 hb

theorem MapRep.mono {σ σ' : Store} {es : Array MapEntry} {clock : Nat} {f : Value → Option (List AV)} (h : MapRep σ es clock f) (hs : ∀ b o y, σ b o = some y → σ' b o = some y) : MapRep σ' es clock f := by
  obtain ⟨h1, h2⟩ := h
  refine ⟨fun e he => ?_, h2⟩
  obtain ⟨g0, l, g1, g2, g3, g4⟩ := h1 e he
  exact ⟨g0, l, g1, g2, g3, fun i av hi => let ⟨y, hy, hr⟩ := g4 i av hi; ⟨y, hy, hr.mono hs (Gle.refl _)⟩⟩

theorem gOf_mono {fr : Bool} {μ μ' : Ghost} (h : Gle μ μ') : Gle (gOf fr μ) (gOf fr μ') := by
  cases fr with
  | true => exact Gle.refl _
  | false => exact h

/-- Memory of one's own, where nothing of it was turned. -/
theorem ROk.ext {σ σ' : Store} {μ μ' : Ghost} {w w' : World} {id : Nat} {D : Nat → Prop} {r : Res} (h : ROk σ μ w id D r) (hid : μ' id = μ id) (hg : Gle μ μ')
    (hw : ∀ b, D b → w'.heap[b]? = w.heap[b]? ∧ ∀ o, σ' b o = σ b o) (hs : ∀ b o y, σ b o = some y → σ' b o = some y) : ROk σ' μ' w' id D r := by
  cases r with
  | gone => exact h
  | cells l =>
    obtain ⟨b, c, T, h1, h2, h3, h4, h5, h6⟩ := h
    obtain ⟨e1, e2⟩ := hw b ((h6 b).2 rfl)
    exact ⟨b, c, T, hid ▸ h1, e1 ▸ h2, h3, fun i av hi => let ⟨x, hx, hr⟩ := h4 i av hi; ⟨x, hx, hr.mono hs hg⟩, fun o => by rw [e2]; exact h5 o, h6⟩
  | grow E sz g =>
    obtain ⟨ao, n, cap, xs, h1, h2, h3, h4⟩ := h
    exact ⟨ao, n, cap, xs, hid ▸ h1, ownsRow_of_block h2 (fun k hk => (hw k ((h4 k).2 hk)).1), fun k hk o ho => by rw [(hw k hk).2]; exact h3 k hk o ho, h4⟩
  | arr fr E sz g rows =>
    obtain ⟨ao, cap, xs, h1, h2, h3, h4, h5, h6⟩ := h
    exact ⟨ao, cap, xs, hid ▸ h1, ownsRow_of_block h2 (fun k hk => (hw k ((h6 k).2 hk)).1), h3, fun i j r av g1 g2 => let ⟨y, hy, hr, ho⟩ := h4 i j r av g1 g2; ⟨y, hy, hr.mono hs (gOf_mono hg), ho⟩, fun k hk o => by rw [(hw k hk).2]; exact h5 k hk o, h6⟩
  | map kk ag f =>
    obtain ⟨r, es, c, h1, h2, h3, h4, h5, h6⟩ := h
    obtain ⟨e1, e2⟩ := hw r ((h6 r).2 rfl)
    exact ⟨r, es, c, hid ▸ h1, e1 ▸ h2, h3.mono hs, h4, fun o => by rw [e2]; exact h5 o, h6⟩
  | siter s p =>
    obtain ⟨r, h1, h2, h5, h6⟩ := h
    obtain ⟨e1, e2⟩ := hw r ((h6 r).2 rfl)
    exact ⟨r, hid ▸ h1, e1 ▸ h2, fun o => by rw [e2]; exact h5 o, h6⟩
  | obj p =>
    obtain ⟨b, h1, h2⟩ := h
    exact ⟨b, hid ▸ h1, p.ext h2 hw hs⟩

structure MemOk (σ : Store) (μ : Ghost) (w : World) (m : List Res) (Ds : Nat → Nat → Prop) : Prop where
  ok : ∀ (id : Nat) (r : Res), m[id]? = some r → ROk σ μ w id (Ds id) r
  apart : ∀ i j b, Ds i b → Ds j b → i = j
  out : ∀ id, m.length ≤ id → μ id = none ∧ ∀ b, ¬ Ds id b
theorem MemOk.lt {σ : Store} {μ : Ghost} {w : World} {m : List Res} {Ds : Nat → Nat → Prop} (h : MemOk σ μ w m Ds) {id b : Nat} (hb : Ds id b) : id < m.length := by
  rcases Nat.lt_or_ge id m.length with g | g
  · exact g
  · exact absurd hb ((h.out id g).2 b)
theorem MemOk.live {σ : Store} {μ : Ghost} {w : World} {m : List Res} {Ds : Nat → Nat → Prop} (h : MemOk σ μ w m Ds) {id b : Nat} (hb : Ds id b) : b < w.heap.size :=
  (h.ok id _ (List.getElem?_eq_getElem (h.lt hb))).live hb

/-- An abstract state: what is known of slots, and of memory of the call's own. -/
structure AS where
  fr : List (Nat × AV)
  mem : List Res

def look : List (Nat × AV) → Nat → Option AV
  | [], _ => none
  | (k, v) :: l, t => if k = t then some v else look l t
/-- What a constant is. -/
def ofV : Value → AV
  | .nilIface => .err 0
  | .agg cs => .agg (cs.toList.map .v)
  | x => .v x
theorem ofV_rep (σ : Store) (μ : Ghost) (x : Value) : RepV σ μ (ofV x) x := by
  cases x with
  | nilIface => exact errv_zero ▸ RepV.err μ 0
  | agg cs => exact .agg _ _ _ (by simp) (fun i av x h1 h2 => by
      simp only [List.getElem?_map, Array.getElem?_toList, h2, Option.map_some, Option.some.injEq] at h1
      subst h1; exact .v _ x)
  | _ => exact .v _ _

def AS.eval (A : AS) : Operand → AV
  | .tmp t => (look A.fr t).getD .any
  | .const x => ofV x
  | .global _ => .any
  | .func f => .clo f []
def AS.put (A : AS) (d : Option Tmp) (v : AV) : AS :=
  match d with
  | none => A
  | some t => { A with fr := (t, v) :: A.fr }

def Agree (σ : Store) (w : World) : Prop := ∀ b o x, σ b o = some x → w.cell? ⟨b, o, none⟩ = some x
theorem Agree.lt {σ : Store} {w : World} (h : Agree σ w) {b o : Nat} {y : Value} (hs : σ b o = some y) : b < w.heap.size :=
  World.block_lt_of_cell? w _ (h b o y hs)
/-- Blocks that were there and are not among 'fp' are as they were. -/
structure Keeps (fp : Nat → Prop) (w w' : World) : Prop where
  os : w'.os = w.os
  tape : w'.tape = w.tape
  output : w'.output = w.output
  size : w.heap.size ≤ w'.heap.size
  block : ∀ k, k < w.heap.size → ¬ fp k → w'.heap[k]? = w.heap[k]?

/-- Where a call began: its world, what was promised, where its own memory lay, how much of it there was. -/
structure Start where
  w : World
  σ : Store
  μ : Ghost
  k : Nat
  zero : ∀ i ao n cap g, μ i = some (.cur ao n cap g) → g = 0
structure Rel (n : Nat) (fp : Nat → Prop) (w0 : Start) (σ : Store) (μ : Ghost) (Ds : Nat → Nat → Prop) (A : AS) (a : Act) (w : World) : Prop where
  defers : a.defers = []
  size : a.tmps.size = n
  frame : ∀ t av, look A.fr t = some av → RepV σ μ av (a.tmps.getD t undef)
  agree : Agree σ w
  mem : MemOk σ μ w A.mem Ds
  own : ∀ id b, Ds id b → w0.w.heap.size ≤ b ∨ fp b
  keeps : Keeps fp w0.w w
  old : ∀ b o, b < w0.w.heap.size → ¬ fp b → σ b o = w0.σ b o
  mono : ∀ b o y, w0.σ b o = some y → σ b o = some y
  gle : Gle w0.μ μ
  kout : ∀ i, w0.k ≤ i → w0.μ i = none
  klen : w0.k ≤ A.mem.length

section
variable {n : Nat} {fp : Nat → Prop} {w0 : Start} {σ : Store} {μ : Ghost} {Ds : Nat → Nat → Prop} {A : AS} {a : Act} {w : World}

theorem Rel.eval (h : Rel n fp w0 σ μ Ds A a w) (x : Operand) : RepV σ μ (A.eval x) (a.eval x) := by
  cases x with
  | tmp t =>
    show RepV σ μ ((look A.fr t).getD .any) (a.tmps.getD t undef)
    cases hl : look A.fr t with
    | none => exact .any _ _
    | some av => exact h.frame t av hl
  | const x => exact ofV_rep σ μ x
  | global g => exact .any _ _
  | func f => exact .clo _ f [] #[] rfl (fun i av x h => by simp at h)

theorem Rel.put (h : Rel n fp w0 σ μ Ds A a w) (d : Option Tmp) {av : AV} {x : Value} (hx : RepV σ μ av x) (hd : ∀ t, d = some t → t < n) : Rel n fp w0 σ μ Ds (A.put d av) (a.put d x) w := by
  cases d with
  | none => exact h
  | some t =>
    have ht : t < a.tmps.size := by rw [h.size]; exact hd t rfl
    refine ⟨h.defers, by simpa [Act.put, AS.put] using h.size, ?_, h.agree, h.mem, h.own, h.keeps, h.old, h.mono, h.gle, h.kout, h.klen⟩
    intro u bv hu
    simp only [AS.put, look] at hu
    show RepV σ μ bv ((a.tmps.setIfInBounds t x).getD u undef)
    by_cases htu : t = u
    · subst htu
      simp only [if_true, Option.some.injEq] at hu
      subst hu
      simpa [ht] using hx
    · simp only [if_neg htu] at hu
      have := h.frame u bv hu
      simpa [Array.getElem?_setIfInBounds_ne htu] using this
theorem Rel.put_skip (h : Rel n fp w0 σ μ Ds A a w) (d : Option Tmp) (hd : ∀ t, d = some t → t < n) : Rel n fp w0 σ μ Ds (A.put d (.v (.tuple #[]))) (a.put d undef) w := h.put d (.v _ _) hd

def updG (μ : Ghost) (id : Nat) (a : An) : Ghost := fun i => if i = id then some a else μ i
def updD (Ds : Nat → Nat → Prop) (id : Nat) (D : Nat → Prop) : Nat → Nat → Prop := fun i => if i = id then D else Ds i
theorem updG_le {id : Nat} {an : An} (h : ∀ a, μ id = some a → a.le an) : Gle μ (updG μ id an) := by
  intro i a ha
  unfold updG
  split
  · rename_i e; subst e; exact ⟨an, rfl, h a ha⟩
  · exact ⟨a, ha, a.le_refl⟩
/-- A place of memory is given something else. -/
def putR (m : List Res) (id : Nat) (r : Res) : List Res := if id < m.length then m.set id r else m ++ [r]
theorem putR_len {m : List Res} {id : Nat} {r : Res} (h : id ≤ m.length) : m.length ≤ (putR m id r).length ∧ id < (putR m id r).length ∧ (∀ i, (putR m id r).length ≤ i → m.length ≤ i ∧ i ≠ id) := by
  unfold putR
  split
  · rename_i g; simp only [List.length_set]; exact ⟨Nat.le_refl _, g, fun i hi => ⟨hi, by omega⟩⟩
  · simp only [List.length_append, List.length_singleton]; exact ⟨by omega, by omega, fun i hi => ⟨by omega, by omega⟩⟩
theorem putR_get {m : List Res} {id i : Nat} {r : Res} (h : id ≤ m.length) : (putR m id r)[i]? = if i = id then some r else m[i]? := by
  unfold putR
  split
  · rename_i hlt
    rw [List.getElem?_set]
    by_cases e : id = i
    · subst e; simp [hlt]
    · rw [if_neg e, if_neg (fun x => e x.symm)]
  · rename_i hge
    have : id = m.length := by omega
    subst this
    rw [List.getElem?_append]
    split
    · rw [if_neg (by omega)]
    · split
      · rename_i e; subst e; simp
      · rw [List.getElem?_eq_none (by simp; omega), List.getElem?_eq_none (by omega)]

theorem MemOk.upd {m : List Res} (h : MemOk σ μ w m Ds) {id : Nat} {r : Res} {D : Nat → Prop} {an : An} {σ' : Store} {w' : World} (hid : id ≤ m.length)
    (hfr : ∀ b, b < w.heap.size → ¬ Ds id b → w'.heap[b]? = w.heap[b]? ∧ ∀ o, σ' b o = σ b o) (hs : ∀ b o y, σ b o = some y → σ' b o = some y)
    (hr : ROk σ' (updG μ id an) w' id D r) (hD : ∀ b, D b → Ds id b ∨ w.heap.size ≤ b) (hle : ∀ a, μ id = some a → a.le an) : MemOk σ' (updG μ id an) w' (putR m id r) (updD Ds id D) := by
  have hne : ∀ i b, i ≠ id → Ds i b → ¬ Ds id b := fun i b hi h1 h2 => hi (h.apart i id b h1 h2)
  refine ⟨?_, ?_, ?_⟩
  · intro i r' hi
    rw [putR_get hid] at hi
    unfold updD
    split at hi
    · rename_i e; subst e; rw [if_pos rfl]; obtain rfl := Option.some.inj hi; exact hr
    · rename_i e
      rw [if_neg e]
      refine (h.ok i r' hi).ext (by unfold updG; rw [if_neg e]) (updG_le hle) (fun b hb => hfr b (h.live hb) (hne i b e hb)) hs
  · intro i j b hi hj
    unfold updD at hi hj
    split at hi <;> split at hj
    · omega
    · rename_i e1 e2
      rcases hD b hi with g | g
      · exact absurd g (hne j b e2 hj)
      · exact absurd (h.live hj) (by omega)
    · rename_i e1 e2
      rcases hD b hj with g | g
      · exact absurd g (hne i b e1 hi)
      · exact absurd (h.live hi) (by omega)
    · exact h.apart i j b hi hj
  · intro i hi
    obtain ⟨g1, g2⟩ := (putR_len hid).2.2 i hi
    unfold updG updD
    rw [if_neg g2, if_neg g2]
    exact h.out i g1

theorem Rel.upd (h : Rel n fp w0 σ μ Ds A a w) {id : Nat} {r : Res} {D : Nat → Prop} {an : An} {σ' : Store} {w' : World} (hid : id ≤ A.mem.length)
    (hsz : w.heap.size ≤ w'.heap.size) (hos : w'.os = w.os) (htape : w'.tape = w.tape) (hout : w'.output = w.output)
    (hfr : ∀ b, b < w.heap.size → ¬ Ds id b → w'.heap[b]? = w.heap[b]? ∧ ∀ o, σ' b o = σ b o) (hs : ∀ b o y, σ b o = some y → σ' b o = some y) (hag : Agree σ' w')
    (hr : ROk σ' (updG μ id an) w' id D r) (hD : ∀ b, D b → Ds id b ∨ w.heap.size ≤ b) (hle : ∀ a, μ id = some a → a.le an) :
    Rel n fp w0 σ' (updG μ id an) (updD Ds id D) { A with mem := putR A.mem id r } a w' := by
  have hg := updG_le hle
  have hfr' : ∀ b, b < w0.w.heap.size → ¬ fp b → w'.heap[b]? = w.heap[b]? ∧ ∀ o, σ' b o = σ b o := fun b hb hf =>
    hfr b (Nat.lt_of_lt_of_le hb h.keeps.size) (fun hd => by rcases h.own id b hd with g | g; omega; exact hf g)
  refine ⟨h.defers, h.size, fun t av ht => (h.frame t av ht).mono hs hg, hag, h.mem.upd hid hfr hs hr hD hle, ?_, ?_, ?_, ?_, h.gle.trans hg, h.kout, Nat.le_trans h.klen (putR_len hid).1⟩
  · intro i b hb
    unfold updD at hb
    split at hb
    · rcases hD b hb with g | g
      · exact h.own id b g
      · exact .inl (Nat.le_trans h.keeps.size g)
    · exact h.own i b hb
  · exact ⟨hos.trans h.keeps.os, htape.trans h.keeps.tape, hout.trans h.keeps.output, Nat.le_trans h.keeps.size hsz, fun k hk hf => by rw [(hfr' k hk hf).1]; exact h.keeps.block k hk hf⟩
  · intro b o hb hf
    rw [(hfr' b hb hf).2]; exact h.old b o hb hf
  · exact fun b o y hy => hs _ _ _ (h.mono b o y hy)
end
end Go.Proofs.Ytimfnpjcedjmiaa
