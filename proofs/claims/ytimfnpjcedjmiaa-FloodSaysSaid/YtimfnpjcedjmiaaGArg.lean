/-
  A law's arguments, further: texts, numbers, states.
-/
import Derived.Test.YtimfnpjcedjmiaaVoc
namespace Go.Proofs.Ytimfnpjcedjmiaa
open Go.RowKit Go.ChangeShapes Go.WideShapes Go.ChangeAt Go.Deep
set_option linter.unusedSimpArgs false
set_option linter.unusedVariables false
/-- A slice of rows of one cell each. -/
theorem rep_ones {α : Type} {w : World} {μ : Ghost} {ao : Option Addr} {cap : Nat} {l : List α} {f : α → Value} (hcap : l.length ≤ cap) (hmax : cap ≤ maxLen) (ha : Arr 1 w ao (l.map fun x => [f x])) (hf : ∀ x, (f x).oneCell' = true) :
    RepV (allS w) μ (.sl 1 (l.map fun x => [.v (f x)]) none) (.slice ao l.length cap) := by
  have := rep_ints (w := w) (μ := μ) (f := fun x : α => [f x]) hcap hmax ha (fun x => ⟨rfl, fun v hv => by simp at hv; subst hv; exact hf x⟩)
  simpa using this
def GStrs (w : World) (v : Value) : Prop := ∃ l : List ByteArray, (∀ s ∈ l, s.size ≤ maxLen) ∧ RepV (allS w) noG (.sl 1 (l.map sRow) none) v
def GInts (w : World) (v : Value) : Prop := ∃ l : List Int, (∀ n ∈ l, I64 n) ∧ RepV (allS w) noG (.sl 1 (l.map iRow) none) v
set_option maxRecDepth 100000 in
theorem g_strs {H : Type} {enc : TypeId × Value → H} {w : World} {v : Value} {d : DataW H} {p : List MemPlace} (hv : Value.okWide Try.prog w .any 0 82 v) (h : DataW.Trod enc Try.prog w 0 (fun _ => true) true 82 v d p) : GStrs w v := by
  obtain ⟨a0, len, cap, rfl⟩ := okWide_slice Try.underlying82 hv
  obtain ⟨fuel, hf⟩ := h
  obtain ⟨ao, cp, rows, hcs, hl, hm, hr, ha⟩ := rows_of_slice Try.underlying82 1 (by kernel_rfl) (by decide) (E := fun r => ∃ s : ByteArray, r = [.string s] ∧ s.size ≤ maxLen) (fun fuel cs x hx => by
    obtain ⟨s, rfl, _, hs⟩ := DataW.trod_string Try.underlying9 hx
    exact ⟨s, rfl, hs⟩) hf
  obtain ⟨l, rfl, hp⟩ := of_rows (fun r h => (hr r h).2)
  simp [Value.cells] at hcs
  obtain ⟨rfl, rfl, rfl⟩ := hcs
  exact ⟨l, hp, rep_ones (f := fun s => .string s) (by simpa using hl) hm ha (fun x => rfl)⟩
set_option maxRecDepth 100000 in
theorem g_ints {H : Type} {enc : TypeId × Value → H} {w : World} {v : Value} {d : DataW H} {p : List MemPlace} (hv : Value.okWide Try.prog w .any 0 23 v) (h : DataW.Trod enc Try.prog w 0 (fun _ => true) true 23 v d p) : GInts w v := by
  obtain ⟨a0, len, cap, rfl⟩ := okWide_slice Try.underlying23 hv
  obtain ⟨fuel, hf⟩ := h
  obtain ⟨ao, cp, rows, hcs, hl, hm, hr, ha⟩ := rows_of_slice Try.underlying23 1 (by kernel_rfl) (by decide) (E := fun r => ∃ n : Int, r = [.int .i64 n] ∧ I64 n) (fun fuel cs x hx => by
    obtain ⟨n, rfl, _, wn⟩ := DataW.trod_int Try.underlying3 hx
    exact ⟨n, rfl, i64_of_wf wn⟩) hf
  obtain ⟨l, rfl, hp⟩ := of_rows (fun r h => (hr r h).2)
  simp [Value.cells] at hcs
  obtain ⟨rfl, rfl, rfl⟩ := hcs
  exact ⟨l, hp, rep_ones (f := fun s => .int .i64 s) (by simpa using hl) hm ha (fun x => rfl)⟩
end Go.Proofs.Ytimfnpjcedjmiaa
