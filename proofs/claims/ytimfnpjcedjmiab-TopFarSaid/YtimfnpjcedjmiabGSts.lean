/-
  A law's arguments, further: lists of states.
-/
import Derived.Test.YtimfnpjcedjmiabGArg
namespace Go.Proofs.Ytimfnpjcedjmiab
open Go.RowKit Go.ChangeShapes Go.WideShapes Go.ChangeAt Go.Deep
set_option linter.unusedSimpArgs false
set_option linter.unusedVariables false
def GStates (w : World) (v : Value) : Prop := ∃ l : List (Int × Int × List (Int × Int)), (∀ s ∈ l, I64 s.1 ∧ I64 s.2.1) ∧ RepV (allS w) noG (.sl 3 (l.map fun s => [.v (.int .i64 s.1), .v (.int .i64 s.2.1), .sl 2 (s.2.2.map opRow) none]) none) v
set_option maxRecDepth 100000 in
theorem g_states {H : Type} {enc : TypeId × Value → H} {w : World} {v : Value} {d : DataW H} {p : List MemPlace} (hv : Value.okWide Try.prog w .any 0 55 v) (h : DataW.Trod enc Try.prog w 0 (fun _ => true) true 55 v d p) : GStates w v := by
  obtain ⟨a0, len, cap, rfl⟩ := okWide_slice Try.underlying55 hv
  obtain ⟨fuel, hf⟩ := h
  obtain ⟨ao, cp, rows, hcs, hl, hm, hr, ha⟩ := rows_of_slice Try.underlying55 3 (by kernel_rfl) (by decide)
    (E := fun r => ∃ s : Int × Int × List (Int × Int) × Value, r = [.int .i64 s.1, .int .i64 s.2.1, s.2.2.2] ∧ I64 s.1 ∧ I64 s.2.1 ∧ s.2.2.2.oneCell' = true ∧ RepV (allS w) noG (.sl 2 (s.2.2.1.map opRow) none) s.2.2.2) (fun fuel cs x hx => by
    obtain ⟨c, i, l, v, h1, h2, h3, h4, h5⟩ := c_state hx
    exact ⟨(c, i, l, v), h1, h2, h3, h4, h5⟩) hf
  obtain ⟨l, rfl, hp⟩ := of_rows (fun r h => (hr r h).2)
  simp [Value.cells] at hcs
  obtain ⟨rfl, rfl, rfl⟩ := hcs
  refine ⟨l.map fun s => (s.1, s.2.1, s.2.2.1), fun s hs => ?_, ?_⟩
  · obtain ⟨q, hq, rfl⟩ := List.mem_map.1 hs
    exact ⟨(hp q hq).1, (hp q hq).2.1⟩
  · have := rep_arr (w := w) (μ := noG) (cap := cap) (avs := l.map fun s => [AV.v (.int .i64 s.1), .v (.int .i64 s.2.1), .sl 2 (s.2.2.1.map opRow) none]) (by simpa using hl) hm ha (by simp) (fun i r q h1 h2 => by
      simp only [List.getElem?_map, Option.map_eq_some_iff] at h1 h2
      obtain ⟨s, hs, rfl⟩ := h1
      obtain ⟨s', hs', rfl⟩ := h2
      rw [hs] at hs'
      obtain rfl := Option.some.inj hs'
      have hq := hp s (List.mem_of_getElem? hs)
      refine ⟨rfl, rfl, fun j x av g1 g2 => ?_⟩
      match j with
      | 0 => simp at g1 g2; subst g1 g2; exact ⟨.v _ _, rfl⟩
      | 1 => simp at g1 g2; subst g1 g2; exact ⟨.v _ _, rfl⟩
      | 2 => simp at g1 g2; subst g1 g2; exact ⟨hq.2.2.2, hq.2.2.1⟩
      | j + 3 => simp at g1)
    simpa [Function.comp_def] using this
end Go.Proofs.Ytimfnpjcedjmiab
