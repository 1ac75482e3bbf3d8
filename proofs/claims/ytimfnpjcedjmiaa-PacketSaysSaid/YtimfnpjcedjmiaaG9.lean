/-
  Engine G, part 9: operations that make memory, or write into memory of the call's own: their law.
-/
import Derived.Test.YtimfnpjcedjmiaaG8
namespace Go.Proofs.Ytimfnpjcedjmiaa
open Go.RowKit
set_option linter.unusedSimpArgs false
set_option linter.unusedVariables false

section
variable {P : Program} {n : Nat} {fp : Nat → Prop} {w0 : Start} {σ : Store} {μ : Ghost} {Ds : Nat → Nat → Prop} {A : AS} {a : Act} {w : World} {K : MK}
  {dst : Option Tmp} {ty : TypeId} {pos : String} {after : Array Edge} {guard : Option (Nat × Bool)} {Q : Exit → Act → World → Prop}

/-- What holds behind an operation. -/
def MPost (n : Nat) (fp : Nat → Prop) (w0 : Start) (A : AS) (a : Act) (dst : Option Tmp) (K : MK) : Act → World → Prop :=
  fun a' w' => ∃ m' av x σ' μ' Ds', a' = a.put dst x ∧ RepV σ' μ' av x ∧ Rel n fp w0 σ' μ' Ds' ⟨A.fr, m'⟩ a w' ∧ K m' av
theorem mop_val {o : Oper} {x : Value} {av : AV} {m' : List Res} {σ' : Store} {μ' : Ghost} {Ds' : Nat → Nat → Prop} {w' : World}
    (hr : (execOp a.eval o).run P w = .ok (.value x) w') (h : Rel n fp w0 σ' μ' Ds' ⟨A.fr, m'⟩ a w') (hx : RepV σ' μ' av x) (hK : K m' av) : o.wp P a w (MPost n fp w0 A a o.dst K) Q := by
  unfold Oper.wp
  rw [hr]
  exact ⟨_, _, _, _, _, _, rfl, hx, h, hK⟩
theorem mop_skip {o : Oper} {m' : List Res} {σ' : Store} {μ' : Ghost} {Ds' : Nat → Nat → Prop} {w' : World}
    (hr : (execOp a.eval o).run P w = .ok .skip w') (h : Rel n fp w0 σ' μ' Ds' ⟨A.fr, m'⟩ a w') (hK : K m' .any) : o.wp P a w (MPost n fp w0 A a o.dst K) Q := by
  unfold Oper.wp
  rw [hr]
  exact ⟨_, _, undef, _, _, _, rfl, .any _ _, h, hK⟩

theorem putR_new {m : List Res} {r : Res} : putR m m.length r = m ++ [r] := by simp [putR]
theorem putR_set {m : List Res} {id : Nat} {r : Res} (h : id < m.length) : putR m id r = m.set id r := by simp [putR, h]

/-- Something new. -/
theorem Rel.new (h : Rel n fp w0 σ μ Ds A a w) {r : Res} {D : Nat → Prop} {an : An} {σ' : Store} {w' : World}
    (hsz : w.heap.size ≤ w'.heap.size) (hos : w'.os = w.os) (htape : w'.tape = w.tape) (hout : w'.output = w.output)
    (hfr : ∀ b, b < w.heap.size → w'.heap[b]? = w.heap[b]? ∧ ∀ o, σ' b o = σ b o) (hag : Agree σ' w')
    (hr : ROk σ' (updG μ A.mem.length an) w' A.mem.length D r) (hD : ∀ b, D b → w.heap.size ≤ b) :
    Rel n fp w0 σ' (updG μ A.mem.length an) (updD Ds A.mem.length D) ⟨A.fr, A.mem ++ [r]⟩ a w' := by
  have := h.upd (id := A.mem.length) (r := r) (D := D) (an := an) (Nat.le_refl _) hsz hos htape hout (fun b hb _ => hfr b hb) (fun b o y hy => by rw [(hfr b (h.agree.lt hy)).2]; exact hy) hag hr (fun b hb => .inr (hD b hb))
    (fun x hx => by rw [(h.mem.out _ (Nat.le_refl _)).1] at hx; cases hx)
  rw [putR_new] at this
  exact this
theorem updG_self {id : Nat} {an : An} : updG μ id an id = some an := by simp [updG]
theorem Rel.none_new (h : Rel n fp w0 σ μ Ds A a w) {b o : Nat} (hb : w.heap.size ≤ b) : σ b o = none := by
  cases ho : σ b o with
  | none => rfl
  | some y => exact absurd (h.agree.lt ho) (by omega)
theorem Rel.gle_new (h : Rel n fp w0 σ μ Ds A a w) (an : An) : Gle μ (updG μ A.mem.length an) := updG_le fun x hx => by rw [(h.mem.out _ (Nat.le_refl _)).1] at hx; cases hx
theorem Agree.alloc {o : Obj} (h : Agree σ w) : Agree σ (w.alloc o) := fun b k y hy => by
  rw [World.cell?_alloc_past _ _ _ (h.lt hy)]; exact h b k y hy

/-- A new block for a variable. -/
theorem Rel.boxed (h : Rel n fp w0 σ μ Ds A a w) {l : List AV} {cs : Array Value} (T : TypeId) (hl : cs.size = l.length) (hr : ∀ (i : Nat) (av : AV), l[i]? = some av → ∃ y, cs[i]? = some y ∧ RepV σ μ av y) :
    Rel n fp w0 σ (updG μ A.mem.length (.fix (.pointer (some ⟨w.heap.size, 0, none⟩)))) (updD Ds A.mem.length (· = w.heap.size)) ⟨A.fr, A.mem ++ [.cells l]⟩ a (w.alloc (.cells cs T)) := by
  refine h.new (by simp) rfl rfl rfl (fun b hb => ⟨Below.heap_alloc w _ b hb, fun _ => rfl⟩) h.agree.alloc ?_ (fun b hb => by subst hb; exact Nat.le_refl _)
  exact ⟨w.heap.size, cs, T, updG_self, heap_alloc_new w _, hl, fun i av hi => let ⟨y, hy, g⟩ := hr i av hi; ⟨y, hy, g.mono (fun _ _ _ h => h) (h.gle_new _)⟩, fun o => h.none_new (Nat.le_refl _), fun k => Iff.rfl⟩
/-- A new row of cells. -/
theorem Rel.newArr (h : Rel n fp w0 σ μ Ds A a w) {f : Bool} {E sz : Nat} {rows : List (List AV)} {ao : Option Addr} {cap : Nat} {xs : List Value} {w' : World}
    (hsz : w.heap.size ≤ w'.heap.size) (hos : w'.os = w.os) (htape : w'.tape = w.tape) (hout : w'.output = w.output) (hfr : ∀ b, b < w.heap.size → w'.heap[b]? = w.heap[b]?)
    (hown : w'.ownsRow 0 E sz (.slice ao rows.length cap) rows.length xs) (hb : ∀ k, blkA ao = some k → w.heap.size ≤ k) (hrow : ∀ r, r ∈ rows → r.length = sz)
    (hin : ∀ (i j : Nat) (r : List AV) (av : AV), rows[i]? = some r → r[j]? = some av → ∃ y, xs[i * sz + j]? = some y ∧ RepV σ (gOf f μ) av y ∧ y.oneCell' = true) :
    Rel n fp w0 σ (updG μ A.mem.length (.cur ao rows.length cap 0)) (updD Ds A.mem.length (fun k => blkA ao = some k)) ⟨A.fr, A.mem ++ [.arr f E sz 0 rows]⟩ a w' := by
  refine h.new hsz hos htape hout (fun b hb => ⟨hfr b hb, fun _ => rfl⟩) (fun b o y hy => ?_) ?_ (fun b hb' => hb b hb')
  · rw [World.cell?_of_block (w := w) (w' := w') (a := ⟨b, o, none⟩) (hfr b (h.agree.lt hy))]; exact h.agree b o y hy
  · exact ⟨ao, cap, xs, updG_self, hown, hrow, fun i j r av g1 g2 => let ⟨y, y1, y2, y3⟩ := hin i j r av g1 g2; ⟨y, y1, y2.mono (fun _ _ _ h => h) (gOf_mono (h.gle_new _)), y3⟩, fun k hk o => h.none_new (hb k hk), fun k => Iff.rfl⟩

/-- The store behind a slice that grew: its cells are promised. -/
def grownStore (σ : Store) (ao : Option Addr) (m : Nat) (ys : List Value) : Store := fun b o => if blkA ao = some b then (if o < m then ys[o]? else none) else σ b o
/-- A new row of cells that nobody writes. -/
theorem Rel.newGrow (h : Rel n fp w0 σ μ Ds A a w) {E sz m : Nat} {ao : Option Addr} {cap : Nat} {xs : List Value} {w' : World}
    (hsz : w.heap.size ≤ w'.heap.size) (hos : w'.os = w.os) (htape : w'.tape = w.tape) (hout : w'.output = w.output) (hfr : ∀ b, b < w.heap.size → w'.heap[b]? = w.heap[b]?)
    (hown : w'.ownsRow 0 E sz (.slice ao m cap) m xs) (hb : ∀ k, blkA ao = some k → w.heap.size ≤ k) :
    Rel n fp w0 (grownStore σ ao (m * sz) xs) (updG μ A.mem.length (.cur ao m cap 0)) (updD Ds A.mem.length (fun k => blkA ao = some k)) ⟨A.fr, A.mem ++ [.grow E sz 0]⟩ a w' := by
  have hold : ∀ b, b < w.heap.size → ∀ o, grownStore σ ao (m * sz) xs b o = σ b o := fun b hb' o => by
    unfold grownStore; rw [if_neg]; intro e; have := hb b e; omega
  refine h.new hsz hos htape hout (fun b hb' => ⟨hfr b hb', hold b hb'⟩) (fun b o y hy => ?_) ?_ (fun b hb' => hb b hb')
  · unfold grownStore at hy
    split at hy
    · rename_i hk
      split at hy
      · exact ownsRow_cell hown hk hy
      · cases hy
    · rw [World.cell?_of_block (w := w) (w' := w') (a := ⟨b, o, none⟩) (hfr b (h.agree.lt hy))]; exact h.agree b o y hy
  · exact ⟨ao, m, cap, xs, updG_self, hown, fun k hk o ho => by unfold grownStore; rw [if_pos hk, if_neg (by omega)], fun k => Iff.rfl⟩
/-- What is known of a slice whose cells are promised. -/
theorem rep_grown {rows : List (List AV)} {E sz cap : Nat} {ao : Option Addr} {xs : List Value} {σ' : Store} {μ' : Ghost} {w' : World} {id g : Nat} {an : An} (hown : w'.ownsRow 0 E sz (.slice ao rows.length cap) rows.length xs) (hcap : rows.length ≤ cap ∧ cap ≤ maxLen)
    (hrow : ∀ r, r ∈ rows → r.length = sz) (hs : ∀ k o x, blkA ao = some k → xs[o]? = some x → σ' k o = some x)
    (hin : ∀ (i j : Nat) (r : List AV) (av : AV), rows[i]? = some r → r[j]? = some av → ∃ y, xs[i * sz + j]? = some y ∧ RepV σ' noG av y ∧ y.oneCell' = true) (hm : μ' id = some an) (hle : (An.cur ao rows.length cap g).le an) :
    RepV σ' μ' (.sl sz rows (some (id, g))) (.slice ao rows.length cap) := by
  have hf : ∀ (i j : Nat) (r : List AV) (av : AV), rows[i]? = some r → r[j]? = some av → xs[i * sz + j]? = some (xs.getD (i * sz + j) undef) ∧ RepV σ' noG av (xs.getD (i * sz + j) undef) ∧ (xs.getD (i * sz + j) undef).oneCell' = true := by
    intro i j r av g1 g2
    obtain ⟨y, y1, y2, y3⟩ := hin i j r av g1 g2
    rw [List.getD_eq_getElem?_getD, y1]; exact ⟨rfl, y2, y3⟩
  rcases hown.2 with ⟨e, h0⟩ | ⟨b, cp, cur, e, _⟩
  · have : rows = [] := List.eq_nil_of_length_eq_zero h0
    subst this
    exact .sl _ sz [] _ ao cap 0 0 (fun _ _ => undef) hcap.1 hcap.2 (.inl rfl) hrow (fun i j r av g => by simp at g) (fun i j r av g => by simp at g) (fun i j r av g => by simp at g) (fun id' g' e' => by cases e'; exact ⟨an, hm, hle⟩)
  · simp only [Value.slice.injEq] at e
    obtain ⟨rfl, _, _⟩ := e
    exact .sl _ sz rows _ _ cap b 0 (fun i j => xs.getD (i * sz + j) undef) hcap.1 hcap.2 (.inr rfl) hrow (fun i j r av g1 g2 => by rw [Nat.zero_add]; exact hs b _ _ rfl (hf i j r av g1 g2).1) (fun i j r av g1 g2 => (hf i j r av g1 g2).2.1) (fun i j r av g1 g2 => (hf i j r av g1 g2).2.2) (fun id' g' e' => by cases e'; exact ⟨an, hm, hle⟩)

theorem RepV.view {av : AV} {x : Value} (h : RepV σ μ av x) : RepV σ μ av.view x := by
  cases av with
  | sl sz rows o =>
    cases h with
    | sl _ _ _ _ ao cap b off f hcap hmax hao hrow hst hr hone hown => exact .sl _ sz rows none ao cap b off f hcap hmax hao hrow hst hr hone (fun id g h => by cases h)
  | _ => exact h
theorem viewL_eq : ∀ (l : List AV), viewL l = l.map AV.view
  | [] => rfl
  | a :: l => by simp [viewL, viewL_eq l]
theorem viewR_eq : ∀ (l : List (List AV)), viewR l = l.map viewL
  | [] => rfl
  | a :: l => by simp [viewR, viewR_eq l]
theorem freeL_out : ∀ {l : List AV}, freeL l = true → ∀ a, a ∈ l → a.view.free0 = true
  | [], _, a, h => by cases h
  | b :: l, hf, a, h => by
    unfold freeL at hf
    split at hf
    · rename_i hb
      rcases List.mem_cons.1 h with rfl | h
      · exact hb
      · exact freeL_out hf a h
    · cases hf
theorem freeR_out : ∀ {l : List (List AV)}, freeR l = true → ∀ r, r ∈ l → freeL r = true
  | [], _, a, h => by cases h
  | b :: l, hf, a, h => by
    unfold freeR at hf
    split at hf
    · rename_i hb
      rcases List.mem_cons.1 h with rfl | h
      · exact hb
      · exact freeR_out hf a h
    · cases hf

/-- A new slice of one's own. -/
theorem newSl_sound (h : Rel n fp w0 σ μ Ds A a w) {mt : Mut} {t E sz : Nat} {free : Bool} {rows : List (List AV)} {ao : Option Addr} {cap : Nat} {xs : List Value} {w' : World} {o : Oper}
    (hsz : w.heap.size ≤ w'.heap.size) (hos : w'.os = w.os) (htape : w'.tape = w.tape) (hout : w'.output = w.output) (hfr : ∀ b, b < w.heap.size → w'.heap[b]? = w.heap[b]?)
    (hown : w'.ownsRow 0 E sz (.slice ao rows.length cap) rows.length xs) (hcap : rows.length ≤ cap ∧ cap ≤ maxLen) (hb : ∀ k, blkA ao = some k → w.heap.size ≤ k) (hrow : ∀ r, r ∈ rows → r.length = sz)
    (hin : ∀ (i j : Nat) (r : List AV) (av : AV), rows[i]? = some r → r[j]? = some av → ∃ y, xs[i * sz + j]? = some y ∧ RepV σ (gOf free μ) av y ∧ y.oneCell' = true)
    (hr : (execOp a.eval o).run P w = .ok (.value (.slice ao rows.length cap)) w') (hq : newSl mt t E sz A.mem free rows rows.length K) : o.wp P a w (MPost n fp w0 A a o.dst K) Q := by
  have hinF : ∀ (i j : Nat) (r : List AV) (av : AV), rows[i]? = some r → r[j]? = some av → ∃ y, xs[i * sz + j]? = some y ∧ RepV σ (gOf false μ) av y ∧ y.oneCell' = true := fun i j r av g1 g2 => by
    obtain ⟨y, y1, y2, y3⟩ := hin i j r av g1 g2
    refine ⟨y, y1, ?_, y3⟩
    cases free with
    | true => exact RepV.lift y2
    | false => exact y2
  have arrF : K (A.mem ++ [.arr false E sz 0 rows]) (.arr A.mem.length 0 rows.length) → o.wp P a w (MPost n fp w0 A a o.dst K) Q := fun hK =>
    mop_val hr (h.newArr hsz hos htape hout hfr hown hb hrow hinF) (.arr _ _ _ _ ao rows.length cap _ (Nat.le_refl _) hcap.1 hcap.2 updG_self (An.le_refl _)) hK
  unfold newSl at hq
  split at hq
  · split at hq
    · refine mop_val hr (h.newGrow (E := E) hsz hos htape hout hfr hown hb) ?_ hq
      refine rep_grown hown hcap hrow (fun k o x hk hx => ?_) (fun i j r av g1 g2 => ?_) updG_self (An.le_refl _)
      · unfold grownStore
        have := (List.getElem?_eq_some_iff.1 hx).1
        rw [hown.1] at this
        rw [if_pos hk, if_pos this]; exact hx
      · obtain ⟨y, y1, y2, y3⟩ := hin i j r av g1 g2
        refine ⟨y, y1, RepV.mono y2 (fun b o y hy => ?_) (Gle.refl _), y3⟩
        unfold grownStore
        rw [if_neg]
        · exact hy
        · intro e; have := hb b e; have := h.agree.lt hy; omega
    · exact arrF hq
  · split at hq
    · obtain ⟨hfree, hK⟩ := tt_out hq
      subst hfree
      exact mop_val hr (h.newArr hsz hos htape hout hfr hown hb hrow hin) (.arr _ _ _ _ ao rows.length cap _ (Nat.le_refl _) hcap.1 hcap.2 updG_self (An.le_refl _)) hK
    · exact arrF hq
end
end Go.Proofs.Ytimfnpjcedjmiaa
