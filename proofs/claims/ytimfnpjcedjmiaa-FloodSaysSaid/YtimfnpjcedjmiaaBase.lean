/-
  What my texts of this seat share: errors as values, small lemmas on worlds and on bytes.
-/
import Derived.Test.YtimfnpjcedjmiaaRows
import Derived.WalkKit
import Derived.Handy
import Derived.WalkSpells
import Derived.WalkLawsBesides
import Derived.Deep.QuietTactic
import Derived.BigQuiet
import Derived.Lib.Hide
namespace Go.Proofs.Ytimfnpjcedjmiaa
open Go.RowKit

/-- An error by its number: 0 is none. -/
def errv (k : Int) : Value := if k = 0 then .nilIface else .iface 160 (.int .i64 k)
theorem errv_zero : errv 0 = .nilIface := rfl
theorem errv_pos {k : Int} (h : k ≠ 0) : errv k = .iface 160 (.int .i64 k) := by unfold errv; rw [if_neg h]

theorem ret_congr {a b : Value} (h : a = b) : Ending.returned a = .returned b := by rw [h]

/-- A world with some blocks more behind its own, and some draws more. -/
def plus (W : World) (ex : Array Obj) (d : Nat) : World := { W with heap := W.heap ++ ex, drawn := d }

/-- Block n is there. -/
def Old (n : Nat) (w : World) : Prop := n < w.heap.size
section
variable (W : World) (ex : Array Obj) (d n i : Nat) (o : Obj) (v : Value)
@[simp, go_sem] theorem plus_size : (plus W ex d).heap.size = W.heap.size + ex.size := by simp [plus]
theorem plus_block (k : Nat) (h : k < W.heap.size) : (plus W ex d).heap[k]? = W.heap[k]? := by
  simp [plus, Array.getElem?_append, h]
@[go_sem] theorem old_alloc : Old n (W.alloc o) ↔ (Old n W ∨ n = W.heap.size) := by unfold Old; rw [World.size_alloc]; omega
@[go_sem] theorem old_setCell (a : Addr) : Old n (W.setCell a v) ↔ Old n W := by unfold Old; rw [World.size_setCell]
@[go_sem] theorem old_drew : Old n W.drew ↔ Old n W := Iff.rfl
@[go_sem] theorem old_drewN (m : Nat) : Old n (W.drewN m) ↔ Old n W := Iff.rfl
@[go_sem] theorem old_plus : Old n (plus W ex d) ↔ (Old n W ∨ (W.heap.size ≤ n ∧ n < W.heap.size + ex.size)) := by unfold Old; rw [plus_size]; omega
@[go_sem high] theorem plus_cell (h : Old n W) : (plus W ex d).cell? ⟨n, i, none⟩ = W.cell? ⟨n, i, none⟩ := by
  simp only [World.cell?, plus_block W ex d n h]
@[go_sem high] theorem plus_frozen (h : Old n W) : (plus W ex d).frozen? ⟨n, i, none⟩ = W.frozen? ⟨n, i, none⟩ := by
  simp only [World.frozen?, plus_block W ex d n h]
@[go_sem high] theorem alloc_cell_old (h : Old n W) : (W.alloc o).cell? ⟨n, i, none⟩ = W.cell? ⟨n, i, none⟩ := World.cell?_alloc_past o n i h
@[go_sem high] theorem alloc_frozen_old (h : Old n W) : (W.alloc o).frozen? ⟨n, i, none⟩ = W.frozen? ⟨n, i, none⟩ := World.frozen?_alloc_past o n i h
@[go_sem high] theorem alloc_setCell_old (h : Old n W) : (W.alloc o).setCell ⟨n, i, none⟩ v = (W.setCell ⟨n, i, none⟩ v).alloc o := World.setCell_alloc_past o n i v h
@[go_sem high] theorem plus_setCell (h : Old n W) : (plus W ex d).setCell ⟨n, i, none⟩ v = plus (W.setCell ⟨n, i, none⟩ v) ex d := by
  have h' : n < W.heap.size := h
  simp only [World.setCell, plus]
  congr 1
  apply Array.ext
  · simp
  · intro j h1 h2
    simp only [Array.getElem_modify, Array.getElem_append]
    by_cases hj : j < W.heap.size
    · simp [hj]
    · have : ¬ n = j := by omega
      simp [hj, this]
@[go_sem] theorem plus_drew : (plus W ex d).drew = plus W ex (d + 1) := rfl
@[go_sem] theorem plus_drewN (n : Nat) : (plus W ex d).drewN n = plus W ex (d + n) := by
  simp [plus, World.drewN]
end

theorem _root_.Go.Below.plus {B : Nat} {a w : World} (h : Below B a w) (hB : B ≤ w.heap.size) (ex : Array Obj) (d : Nat) : Below B a (plus w ex d) :=
  ⟨h.os, h.tape, h.output, by rw [plus_size]; have := h.size; omega, fun k hk => by rw [plus_block _ _ _ _ (by omega), h.block k hk]⟩
theorem _root_.Go.Below.drewN {B : Nat} {a w : World} (h : Below B a w) (n : Nat) : Below B a (w.drewN n) := by
  exact ⟨h.os, h.tape, h.output, h.size, h.block⟩

/-- What lies behind a call that turned nothing that was there. -/
theorem plus_of {W w' : World} (h : Below W.heap.size W w') : ∃ ex d, w' = plus W ex d := by
  refine ⟨w'.heap.extract W.heap.size w'.heap.size, w'.drawn, ?_⟩
  obtain ⟨h1, h2, h3, h4, h5⟩ := h
  cases W with | mk H _ _ _ _ => cases w' with | mk H' _ _ _ _ =>
  simp only [plus] at *
  subst h1 h2 h3
  congr 1
  apply Array.ext_getElem?
  intro i
  by_cases hi : i < H.size
  · rw [h5 i hi, Array.getElem?_append_left hi]
  · rw [Array.getElem?_append_right (by omega), Array.getElem?_extract]
    by_cases h6 : i < H'.size
    · rw [if_pos (by omega)]; congr 1; omega
    · rw [if_neg (by omega), Array.getElem?_eq_none (by omega)]

theorem plus_of' {B : Nat} {W w' : World} (hB : W.heap.size = B) (h : Below B W w') : ∃ ex d, w' = plus W ex d := plus_of (by rw [hB]; exact h)
theorem plus_plus (W : World) (a b : Array Obj) (d d' : Nat) : plus (plus W a d) b d' = plus W (a ++ b) d' := by simp [plus]
/-- Blocks and draws that came. -/
structure More where
  ex : Array Obj
  d : Nat
instance : Inhabited More := ⟨⟨#[], 0⟩⟩
theorem plus_sub {W w' : World} {ex : Array Obj} {d : Nat} (h : Below (plus W ex d).heap.size (plus W ex d) w') : ∃ p : More, w' = plus W p.ex p.d := by
  obtain ⟨a, b, rfl⟩ := plus_of h
  exact ⟨⟨_, _⟩, plus_plus _ _ _ _ _⟩
/-- A region that draws its order, whose operations only read and whose callees turn nothing that was there: walked once, in the order of the text. -/
theorem wp_region_quietp {P : Program} {id : Nat} {Q : Exit → Act → World → Prop} {a : Act} {w : World} {l : List Oper} (hm : P.follows .mixedOrders = true) (hB : Region.lexB .any l.toArray = true)
    (h : wpQuiet P l.toArray (fun w' => ∃ p : More, w' = plus w p.ex p.d) (fun a' => ∀ w', (∃ p : More, w' = plus w p.ex p.d) → Q .normal a' w') l a) : (Code.region id l.toArray true).wp P Q a w :=
  wp_region_quiet (C := fun w' => ∃ p : More, w' = plus w p.ex p.d) hm hB ⟨⟨#[], w.drawn + 1⟩, by simp [plus]⟩ (by simpa using h)
theorem plus_zero (W : World) : plus W #[] W.drawn = W := by simp [plus]

theorem conv_two (W : World) (a b : Int) (g : Nat) (hg : g = W.heap.size) :
    (convert 39 9 (.slice (some ⟨g, 0, none⟩) 2 2)).run Try.prog (W.alloc (.cells #[.int .u8 a, .int .u8 b] 5)) =
      .ok (.string (strOfNums [a, b])) (W.alloc (.cells #[.int .u8 a, .int .u8 b] 5)) := by
  subst hg
  refine run_convert_bytes_arg _ 39 5 Try.underlying39 Try.underlying5 W.heap.size 0 2 2 [a, b] rfl ?_ 9 Try.underlying9
  intro i hi
  match i, hi with
  | 0, _ => simp
  | 1, _ => simp

/-- A slice's rows of cells, sz cells each, in memory. -/
def Arr (sz : Nat) (w : World) (ao : Option Addr) (rows : List (List Value)) : Prop :=
  rows = [] ∨ ∃ b off, ao = some ⟨b, off, none⟩ ∧ Old b w ∧ ∀ i r, rows[i]? = some r → ∀ j v, r[j]? = some v → w.cell? ⟨b, off + i * sz + j, none⟩ = some v
theorem Arr.below {sz : Nat} {W w : World} {ao : Option Addr} {rows : List (List Value)} (h : Arr sz W ao rows) (hb : Below W.heap.size W w) : Arr sz w ao rows := by
  rcases h with h | ⟨b, off, h1, h2, h3⟩
  · exact .inl h
  · refine .inr ⟨b, off, h1, Nat.lt_of_lt_of_le (show b < _ from h2) hb.size, fun i r hr j v hv => ?_⟩
    rw [hb.cell (p := ⟨b, _, none⟩) h2]; exact h3 i r hr j v hv
theorem Arr.at1 {w : World} {ao : Option Addr} {rows : List (List Value)} (h : Arr 1 w ao rows) (i : Nat) {v : Value} (hi : rows[i]? = some [v]) :
    ∃ b off, ao = some ⟨b, off, none⟩ ∧ Old b w ∧ w.cell? ⟨b, off + i, none⟩ = some v := by
  rcases h with h | ⟨b, off, h1, h2, h3⟩
  · subst h; simp at hi
  · exact ⟨b, off, h1, h2, by have := h3 i _ hi 0 v rfl; simpa using this⟩
theorem Arr.at2 {w : World} {ao : Option Addr} {rows : List (List Value)} (h : Arr 2 w ao rows) (i : Nat) {u v : Value} (hi : rows[i]? = some [u, v]) :
    ∃ b off, ao = some ⟨b, off, none⟩ ∧ Old b w ∧ w.cell? ⟨b, off + i * 2, none⟩ = some u ∧ w.cell? ⟨b, off + i * 2 + 1, none⟩ = some v := by
  rcases h with h | ⟨b, off, h1, h2, h3⟩
  · subst h; simp at hi
  · exact ⟨b, off, h1, h2, by have := h3 i _ hi 0 u rfl; simpa using this, h3 i _ hi 1 v rfl⟩
theorem Arr.at3 {w : World} {ao : Option Addr} {rows : List (List Value)} (h : Arr 3 w ao rows) (i : Nat) {u v x : Value} (hi : rows[i]? = some [u, v, x]) :
    ∃ b off, ao = some ⟨b, off, none⟩ ∧ Old b w ∧ w.cell? ⟨b, off + i * 3, none⟩ = some u ∧ w.cell? ⟨b, off + i * 3 + 1, none⟩ = some v ∧ w.cell? ⟨b, off + i * 3 + 2, none⟩ = some x := by
  rcases h with h | ⟨b, off, h1, h2, h3⟩
  · subst h; simp at hi
  · exact ⟨b, off, h1, h2, by have := h3 i _ hi 0 u rfl; simpa using this, h3 i _ hi 1 v rfl, h3 i _ hi 2 x rfl⟩

theorem bcell {W w1 : World} (hb : Below W.heap.size W w1) : (∀ b o, b < W.heap.size → w1.cell? ⟨b, o, none⟩ = W.cell? ⟨b, o, none⟩) ∧ (∀ b o, b < W.heap.size → w1.frozen? ⟨b, o, none⟩ = W.frozen? ⟨b, o, none⟩) :=
  ⟨fun b o h => hb.cell (p := ⟨b, o, none⟩) h, fun b o h => hb.frozen (p := ⟨b, o, none⟩) h⟩

end Go.Proofs.Ytimfnpjcedjmiaa
