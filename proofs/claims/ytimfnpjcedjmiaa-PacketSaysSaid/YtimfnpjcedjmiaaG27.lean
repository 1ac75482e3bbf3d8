/-
  Engine G, part 27: packets and states among a law's arguments.
-/
import Derived.Test.YtimfnpjcedjmiaaG25
import Derived.Deep.Strs
namespace Go.Proofs.Ytimfnpjcedjmiaa
open Go.RowKit Go.ChangeShapes Go.WideShapes Go.ChangeAt Go.Deep
set_option linter.unusedSimpArgs false
set_option linter.unusedVariables false
def GPacket (w : World) (v : Value) : Prop := ∃ (c i : Int) (l : List (Int × Int)) (x : Value), I64 c ∧ I64 i ∧ v = .agg #[.int .i64 c, .int .i64 i, x] ∧ RepV (allS w) noG (.sl 2 (l.map fun n => [.v (.int .i64 n.1), .v (.int .i64 n.2)]) none) x
theorem rep_packet {σ : Store} {μ : Ghost} {c i : Int} {q : AV} {x : Value} (h : RepV σ μ q x) : RepV σ μ (.agg [.v (.int .i64 c), .v (.int .i64 i), q]) (.agg #[.int .i64 c, .int .i64 i, x]) :=
  .agg _ _ _ rfl (fun k av y h1 h2 => by
    match k with
    | 0 => simp at h1 h2; subst h1 h2; exact .v _ _
    | 1 => simp at h1 h2; subst h1 h2; exact .v _ _
    | 2 => simp at h1 h2; subst h1 h2; exact h
    | k + 3 => simp at h1)
set_option maxRecDepth 100000 in
theorem c_options {H : Type} {enc : TypeId × Value → H} {w : World} {spare : Nat → Bool} {held : Bool} {fuel : Nat} {cs : List Value} {x : DataW H × List MemPlace} (hf : DataW.trod enc Try.prog w 0 spare held fuel 46 cs = some x) :
    ∃ (l : List (Int × Int)) (v : Value), cs = [v] ∧ v.oneCell' = true ∧ (∀ n ∈ l, I64 n.1 ∧ I64 n.2) ∧ RepV (allS w) noG (.sl 2 (l.map fun n => [.v (.int .i64 n.1), .v (.int .i64 n.2)]) none) v := by
  obtain ⟨ao, cp, rows, hcs, hl, hm, hr, ha⟩ := rows_of_slice Try.underlying46 2 (by kernel_rfl) (by decide) (fun fuel cs x hx => e_option hx) hf
  obtain ⟨l, rfl, hp⟩ := of_rows (fun r h => (hr r h).2)
  refine ⟨l, _, hcs, rfl, hp, ?_⟩
  have := rep_ints (w := w) (μ := noG) (cap := cp) (f := fun n : Int × Int => [.int .i64 n.1, .int .i64 n.2]) (by simpa using hl) hm ha (fun x => ⟨rfl, fun v hv => by simp at hv; rcases hv with rfl | rfl <;> rfl⟩)
  simpa using this
set_option maxRecDepth 100000 in
theorem c_packet {H : Type} {enc : TypeId × Value → H} {w : World} {spare : Nat → Bool} {held : Bool} {fuel : Nat} {cs : List Value} {x : DataW H × List MemPlace} (hx : DataW.trod enc Try.prog w 0 spare held fuel 48 cs = some x) :
    ∃ (c i : Int) (l : List (Int × Int)) (v : Value), cs = [.int .i64 c, .int .i64 i, v] ∧ I64 c ∧ I64 i ∧ v.oneCell' = true ∧ RepV (allS w) noG (.sl 2 (l.map fun n => [.v (.int .i64 n.1), .v (.int .i64 n.2)]) none) v := by
  obtain ⟨y0, y1, y2, n, _, hl, h0, h1, h2⟩ := trod_struct3 Try.underlying48 hx
  obtain ⟨a, ha, _, wa⟩ := DataW.trod_int Try.underlying3 h0
  obtain ⟨b, hb, _, wb⟩ := DataW.trod_int Try.underlying3 h1
  obtain ⟨l, v, hv, ho, _, hr⟩ := c_options h2
  have c1 : Try.prog.cellsOf 3 = 1 := by kernel_rfl
  have c2 : Try.prog.cellsOf 48 = 3 := by kernel_rfl
  have c3 : Try.prog.cellsOf 46 = 1 := by kernel_rfl
  rw [c2] at hl
  match cs, hl with
  | [p, q, r], _ =>
    simp [c1, c3] at ha hb hv
    subst ha hb hv
    exact ⟨a, b, l, _, rfl, i64_of_wf wa, i64_of_wf wb, ho, hr⟩
set_option maxRecDepth 100000 in
theorem g_packet {H : Type} {enc : TypeId × Value → H} {w : World} {v : Value} {d : DataW H} {p : List MemPlace} (hv : Value.okWide Try.prog w .any 0 48 v) (h : DataW.Trod enc Try.prog w 0 (fun _ => true) true 48 v d p) : GPacket w v := by
  obtain ⟨cs, rfl, hcs⟩ := okWide_struct Try.underlying48 hv
  obtain ⟨fuel, hx⟩ := h
  obtain ⟨c, i, l, x, hcs, h1, h2, _, hr⟩ := c_packet hx
  obtain ⟨cs⟩ := cs
  simp [Value.cells] at hcs
  subst hcs
  exact ⟨c, i, l, x, h1, h2, rfl, hr⟩
end Go.Proofs.Ytimfnpjcedjmiaa
