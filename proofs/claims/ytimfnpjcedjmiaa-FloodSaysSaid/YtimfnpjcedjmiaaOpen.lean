/-
  The arguments of a law, opened: what a value that can be read as data looks like in memory.
-/
import Derived.Test.YtimfnpjcedjmiaaBase
import Derived.ProofKit
import Derived.OpenShut
import Derived.ShutString
import Derived.ChangeOld
import Derived.Below
import Derived.Deep.Slices
namespace Go.Proofs.Ytimfnpjcedjmiaa
open Go.ChangeShapes Go.WideShapes Go.ChangeAt Go.RowKit Go.Deep
open Go.ChangeMaps (open_string shut_string)

theorem own : ownKnob Try.prog.godebug = .none := by kernel_rfl
theorem laidOut : laidOutB Try.prog = true := by kernel_rfl

section
variable {H : Type} {enc : TypeId × Value → H} {w : World} {spare : Nat → Bool} {held : Bool}

theorem addr_add (b off n : Nat) : (⟨b, off, .none⟩ : Addr).add n = ⟨b, off + n, .none⟩ := by unfold Addr.add; split <;> simp_all

theorem rows_of_slice {P : Program} {t e : TypeId} (ht : P.underlying t = some (.slice e)) (sz : Nat) (hsz : P.cellsOf e = sz) (hpos : 0 < sz) {E : List Value → Prop}
    (hE : ∀ fuel cs x, DataW.trod enc P w 0 spare held fuel e cs = some x → E cs) {fuel : Nat} {cs : List Value} {x : DataW H × List MemPlace} (h : DataW.trod enc P w 0 spare held fuel t cs = some x) :
    ∃ ao cap rows, cs = [.slice ao rows.length cap] ∧ rows.length ≤ cap ∧ cap ≤ maxLen ∧ (∀ r ∈ rows, r.length = sz ∧ E r) ∧ Arr sz w ao rows := by
  rcases open_slice ht h with ⟨rfl, _⟩ | ⟨a, len, cap, m, n, D, Pl, rfl, _, hl, hm, hmm, rfl, hx⟩
  · exact ⟨.none, 0, [], rfl, Nat.le_refl _, Nat.zero_le _, by simp, .inl rfl⟩
  · have hlm : len ≤ m := by rw [hmm]; split <;> omega
    obtain ⟨f, hf⟩ := choose_lt (α := List Value) (p := fun i cs' => w.cells? 0 (a.add (i * P.cellsOf e)) (P.cellsOf e) = some cs' ∧ DataW.trod enc P w 0 spare held n e cs' = some (D i, Pl i)) (fun i hi => hx i hi)
    rw [hsz] at hf
    refine ⟨some a, cap, (List.range len).map f, by simp, by simpa using hl, hm, ?_, ?_⟩
    · intro r hr
      obtain ⟨i, hi, rfl⟩ := List.mem_map.1 hr
      have hi' : i < len := by simpa using hi
      obtain ⟨h1, h2⟩ := hf i (by omega)
      exact ⟨(World.cells?_some h1).2.1, hE _ _ _ h2⟩
    · by_cases h0 : len = 0
      · subst h0; exact .inl rfl
      · have h1 := World.cells?_some (hf 0 (by omega)).1
        have h2 := h1.2.2 0 hpos
        have h3 : 0 < (f 0).length := by rw [h1.2.1]; exact hpos
        rw [List.getElem?_eq_getElem h3] at h2
        obtain ⟨b, off, spot⟩ := a
        have hsp : spot = .none := by simpa [Addr.add] using World.cell?_spot h2
        subst hsp
        have hb := World.block_lt_of_cell? w _ h2
        simp only [Nat.zero_mul, addr_add] at hb
        refine .inr ⟨b, off, rfl, hb, ?_⟩
        intro i r hr j v hj
        have hi : i < len := by
          have := (List.getElem?_eq_some_iff.1 hr).1
          simpa using this
        have hr' : r = f i := by
          simp [hi] at hr
          exact hr.symm
        subst hr'
        have h4 := World.cells?_some (hf i (by omega)).1
        have hj' : j < sz := by rw [← h4.2.1]; exact (List.getElem?_eq_some_iff.1 hj).1
        have h5 := h4.2.2 j hj'
        rw [hj, addr_add, addr_add] at h5
        exact h5

theorem of_rows {α : Type} {enc' : α → List Value} {rows : List (List Value)} {p : α → Prop} (h : ∀ r ∈ rows, ∃ x, r = enc' x ∧ p x) : ∃ l : List α, rows = l.map enc' ∧ ∀ x ∈ l, p x := by
  induction rows with
  | nil => exact ⟨[], rfl, by simp⟩
  | cons r rows ih =>
    obtain ⟨l, hl, hp⟩ := ih (fun r hr => h r (List.mem_cons_of_mem _ hr))
    obtain ⟨x, hx, hpx⟩ := h r (List.mem_cons_self ..)
    refine ⟨x :: l, by simp [hl, hx], ?_⟩
    intro y hy
    rcases List.mem_cons.1 hy with rfl | hy
    · exact hpx
    · exact hp y hy
end

def I64 (n : Int) : Prop := -9223372036854775808 ≤ n ∧ n ≤ 9223372036854775807
theorem i64_of_wf {n : Int} (h : (Lit.int .i64 n).wf = true) : I64 n := bounds_i64 h

/-- What the walk is told of an argument, by its type. -/
def InInt (_w : World) (v : Value) : Prop := ∃ n : Int, v = .int .i64 n ∧ I64 n
def InByte (_w : World) (v : Value) : Prop := ∃ n : Int, v = .int .u8 n ∧ 0 ≤ n ∧ n ≤ 255
def InString (_w : World) (v : Value) : Prop := ∃ s : ByteArray, v = .string s ∧ s.size ≤ maxLen
def InInts (w : World) (v : Value) : Prop := ∃ (ao : Option Addr) (cap : Nat) (l : List Int), v = .slice ao l.length cap ∧ l.length ≤ maxLen ∧ (∀ n ∈ l, I64 n) ∧ Arr 1 w ao (l.map fun n => [.int .i64 n])
def InPairs (w : World) (v : Value) : Prop := ∃ (ao : Option Addr) (cap : Nat) (l : List (Int × Int)), v = .slice ao l.length cap ∧ l.length ≤ maxLen ∧ (∀ n ∈ l, I64 n.1 ∧ I64 n.2) ∧ Arr 2 w ao (l.map fun n => [.int .i64 n.1, .int .i64 n.2])

section
variable {H : Type} {enc : TypeId × Value → H} {w : World} {v : Value} {d : DataW H} {p : List MemPlace}
set_option maxRecDepth 100000 in
theorem in_int (hv : Value.okWide Try.prog w .any 0 3 v) (h : DataW.Trod enc Try.prog w 0 (fun _ => true) true 3 v d p) : InInt w v := by
  obtain ⟨n, rfl, _, _, wn⟩ := open_int Try.underlying3 hv h
  exact ⟨n, rfl, i64_of_wf wn⟩
set_option maxRecDepth 100000 in
theorem in_byte (hv : Value.okWide Try.prog w .any 0 5 v) (h : DataW.Trod enc Try.prog w 0 (fun _ => true) true 5 v d p) : InByte w v := by
  obtain ⟨n, rfl, _, _, wn⟩ := open_int Try.underlying5 hv h
  have := bounds_u8 wn
  exact ⟨n, rfl, this.1, this.2⟩
set_option maxRecDepth 100000 in
theorem in_string (hv : Value.okWide Try.prog w .any 0 9 v) (h : DataW.Trod enc Try.prog w 0 (fun _ => true) true 9 v d p) : InString w v := by
  obtain ⟨s, rfl, _, _, hs⟩ := open_string Try.underlying9 hv h
  exact ⟨s, rfl, hs⟩
set_option maxRecDepth 100000 in
theorem in_ints (hv : Value.okWide Try.prog w .any 0 23 v) (h : DataW.Trod enc Try.prog w 0 (fun _ => true) true 23 v d p) : InInts w v := by
  obtain ⟨a0, len, cap, rfl⟩ := okWide_slice Try.underlying23 hv
  obtain ⟨fuel, hf⟩ := h
  obtain ⟨ao, cp, rows, hcs, hl, hm, hr, ha⟩ := rows_of_slice Try.underlying23 1 (by kernel_rfl) (by decide) (E := fun r => ∃ n : Int, r = [.int .i64 n] ∧ I64 n) (fun fuel cs x hx => by
    obtain ⟨n, rfl, _, wn⟩ := DataW.trod_int Try.underlying3 hx
    exact ⟨n, rfl, i64_of_wf wn⟩) hf
  obtain ⟨l, rfl, hp⟩ := of_rows (fun r h => (hr r h).2)
  simp [Value.cells] at hcs
  obtain ⟨rfl, rfl, rfl⟩ := hcs
  exact ⟨_, _, l, rfl, by simp at hl; omega, hp, ha⟩
end
set_option maxRecDepth 100000 in
theorem e_hello {H : Type} {enc : TypeId × Value → H} {w : World} {spare : Nat → Bool} {held : Bool} {fuel : Nat} {cs : List Value} {x : DataW H × List MemPlace} (hx : DataW.trod enc Try.prog w 0 spare held fuel 26 cs = some x) :
    ∃ n : Int × Int, cs = [.int .i64 n.1, .int .i64 n.2] ∧ I64 n.1 ∧ I64 n.2 := by
  obtain ⟨y0, y1, n, _, hl, h0, h1⟩ := trod_struct2 Try.underlying26 hx
  obtain ⟨a, ha, _, wa⟩ := DataW.trod_int Try.underlying3 h0
  obtain ⟨b, hb, _, wb⟩ := DataW.trod_int Try.underlying3 h1
  have c1 : Try.prog.cellsOf 3 = 1 := by kernel_rfl
  have c2 : Try.prog.cellsOf 26 = 2 := by kernel_rfl
  rw [c2] at hl
  match cs, hl with
  | [u, v], _ =>
    simp [c1] at ha hb
    subst ha hb
    exact ⟨(a, b), rfl, i64_of_wf wa, i64_of_wf wb⟩
set_option maxRecDepth 100000 in
theorem in_hellos {H : Type} {enc : TypeId × Value → H} {w : World} {v : Value} {d : DataW H} {p : List MemPlace} (hv : Value.okWide Try.prog w .any 0 22 v) (h : DataW.Trod enc Try.prog w 0 (fun _ => true) true 22 v d p) : InPairs w v := by
  obtain ⟨a0, len, cap, rfl⟩ := okWide_slice Try.underlying22 hv
  obtain ⟨fuel, hf⟩ := h
  obtain ⟨ao, cp, rows, hcs, hl, hm, hr, ha⟩ := rows_of_slice Try.underlying22 2 (by kernel_rfl) (by decide) (fun fuel cs x hx => e_hello hx) hf
  obtain ⟨l, rfl, hp⟩ := of_rows (fun r h => (hr r h).2)
  simp [Value.cells] at hcs
  obtain ⟨rfl, rfl, rfl⟩ := hcs
  exact ⟨_, _, l, rfl, by simp at hl; omega, hp, ha⟩
set_option maxRecDepth 100000 in
theorem e_option {H : Type} {enc : TypeId × Value → H} {w : World} {spare : Nat → Bool} {held : Bool} {fuel : Nat} {cs : List Value} {x : DataW H × List MemPlace} (hx : DataW.trod enc Try.prog w 0 spare held fuel 163 cs = some x) :
    ∃ n : Int × Int, cs = [.int .i64 n.1, .int .i64 n.2] ∧ I64 n.1 ∧ I64 n.2 := by
  obtain ⟨y0, y1, n, _, hl, h0, h1⟩ := trod_struct2 Try.underlying163 hx
  obtain ⟨a, ha, _, wa⟩ := DataW.trod_int Try.underlying3 h0
  obtain ⟨b, hb, _, wb⟩ := DataW.trod_int Try.underlying3 h1
  have c1 : Try.prog.cellsOf 3 = 1 := by kernel_rfl
  have c2 : Try.prog.cellsOf 163 = 2 := by kernel_rfl
  rw [c2] at hl
  match cs, hl with
  | [u, v], _ =>
    simp [c1] at ha hb
    subst ha hb
    exact ⟨(a, b), rfl, i64_of_wf wa, i64_of_wf wb⟩
set_option maxRecDepth 100000 in
theorem in_options {H : Type} {enc : TypeId × Value → H} {w : World} {v : Value} {d : DataW H} {p : List MemPlace} (hv : Value.okWide Try.prog w .any 0 46 v) (h : DataW.Trod enc Try.prog w 0 (fun _ => true) true 46 v d p) : InPairs w v := by
  obtain ⟨a0, len, cap, rfl⟩ := okWide_slice Try.underlying46 hv
  obtain ⟨fuel, hf⟩ := h
  obtain ⟨ao, cp, rows, hcs, hl, hm, hr, ha⟩ := rows_of_slice Try.underlying46 2 (by kernel_rfl) (by decide) (fun fuel cs x hx => e_option hx) hf
  obtain ⟨l, rfl, hp⟩ := of_rows (fun r h => (hr r h).2)
  simp [Value.cells] at hcs
  obtain ⟨rfl, rfl, rfl⟩ := hcs
  exact ⟨_, _, l, rfl, by simp at hl; omega, hp, ha⟩
set_option maxRecDepth 100000 in
theorem e_edge {H : Type} {enc : TypeId × Value → H} {w : World} {spare : Nat → Bool} {held : Bool} {fuel : Nat} {cs : List Value} {x : DataW H × List MemPlace} (hx : DataW.trod enc Try.prog w 0 spare held fuel 168 cs = some x) :
    ∃ n : Int × Int, cs = [.int .i64 n.1, .int .i64 n.2] ∧ I64 n.1 ∧ I64 n.2 := by
  obtain ⟨y0, y1, n, _, hl, h0, h1⟩ := trod_struct2 Try.underlying168 hx
  obtain ⟨a, ha, _, wa⟩ := DataW.trod_int Try.underlying3 h0
  obtain ⟨b, hb, _, wb⟩ := DataW.trod_int Try.underlying3 h1
  have c1 : Try.prog.cellsOf 3 = 1 := by kernel_rfl
  have c2 : Try.prog.cellsOf 168 = 2 := by kernel_rfl
  rw [c2] at hl
  match cs, hl with
  | [u, v], _ =>
    simp [c1] at ha hb
    subst ha hb
    exact ⟨(a, b), rfl, i64_of_wf wa, i64_of_wf wb⟩
set_option maxRecDepth 100000 in
theorem in_edges {H : Type} {enc : TypeId × Value → H} {w : World} {v : Value} {d : DataW H} {p : List MemPlace} (hv : Value.okWide Try.prog w .any 0 103 v) (h : DataW.Trod enc Try.prog w 0 (fun _ => true) true 103 v d p) : InPairs w v := by
  obtain ⟨a0, len, cap, rfl⟩ := okWide_slice Try.underlying103 hv
  obtain ⟨fuel, hf⟩ := h
  obtain ⟨ao, cp, rows, hcs, hl, hm, hr, ha⟩ := rows_of_slice Try.underlying103 2 (by kernel_rfl) (by decide) (fun fuel cs x hx => e_edge hx) hf
  obtain ⟨l, rfl, hp⟩ := of_rows (fun r h => (hr r h).2)
  simp [Value.cells] at hcs
  obtain ⟨rfl, rfl, rfl⟩ := hcs
  exact ⟨_, _, l, rfl, by simp at hl; omega, hp, ha⟩
end Go.Proofs.Ytimfnpjcedjmiaa
