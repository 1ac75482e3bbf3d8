/-
  A law's arguments, further: acts.
-/
import Derived.Test.YtimfnpjcedjmiaaGArg
import Derived.Test.YtimfnpjcedjmiaaLLk
namespace Go.Proofs.Ytimfnpjcedjmiaa
open Go.RowKit Go.ChangeShapes Go.WideShapes Go.ChangeAt Go.Deep
set_option linter.unusedSimpArgs false
set_option linter.unusedVariables false
/-- An act. -/
structure Ac where
  k : ByteArray
  a : Int
  b : Int
  c : Int
  d : Int
  s : ByteArray
  p : Pk
  x : Int × Int × List (Int × Int)
def acRow (q : Ac) : List AV := [.v (.string q.k), .v (.int .i64 q.a), .v (.int .i64 q.b), .v (.int .i64 q.c), .v (.int .i64 q.d), .v (.string q.s), .v (.int .i64 q.p.c), .v (.int .i64 q.p.i), .sl 2 (q.p.o.map opRow) none, .v (.int .i64 q.x.1), .v (.int .i64 q.x.2.1), .sl 2 (q.x.2.2.map opRow) none]
def acVals (q : Ac × Value × Value) : List Value := [.string q.1.k, .int .i64 q.1.a, .int .i64 q.1.b, .int .i64 q.1.c, .int .i64 q.1.d, .string q.1.s, .int .i64 q.1.p.c, .int .i64 q.1.p.i, q.2.1, .int .i64 q.1.x.1, .int .i64 q.1.x.2.1, q.2.2]
structure acIn (q : Ac) : Prop where
  k : q.k.size ≤ maxLen
  a : I64 q.a
  b : I64 q.b
  c : I64 q.c
  d : I64 q.d
  s : q.s.size ≤ maxLen
  pc : I64 q.p.c
  pi : I64 q.p.i
  xo : I64 q.x.1
  xs : I64 q.x.2.1
def acGood (w : World) (q : Ac × Value × Value) : Prop := acIn q.1 ∧ q.2.1.oneCell' = true ∧ RepV (allS w) noG (.sl 2 (q.1.p.o.map opRow) none) q.2.1 ∧ q.2.2.oneCell' = true ∧ RepV (allS w) noG (.sl 2 (q.1.x.2.2.map opRow) none) q.2.2
def GActs (w : World) (v : Value) : Prop := ∃ l : List Ac, (∀ q ∈ l, acIn q) ∧ RepV (allS w) noG (.sl 12 (l.map acRow) none) v
set_option maxRecDepth 100000 in
set_option maxHeartbeats 4000000 in
theorem c_act {H : Type} {enc : TypeId × Value → H} {w : World} {spare : Nat → Bool} {held : Bool} {fuel : Nat} {cs : List Value} {x : DataW H × List MemPlace} (hx : DataW.trod enc Try.prog w 0 spare held fuel 130 cs = some x) :
    ∃ q : Ac × Value × Value, cs = acVals q ∧ acGood w q := by
  obtain ⟨xs, n, _, _, hl, hlen, hf⟩ := DataW.trod_struct Try.underlying130 hx
  have hc : Try.prog.cellsOf 130 = 12 := by kernel_rfl
  have ci : Try.prog.cellsOf 3 = 1 := by kernel_rfl
  have cstr : Try.prog.cellsOf 9 = 1 := by kernel_rfl
  have cp : Try.prog.cellsOf 48 = 3 := by kernel_rfl
  have cst : Try.prog.cellsOf 105 = 3 := by kernel_rfl
  rw [hc] at hl
  have h0 := hf 0 _ rfl
  have h1 := hf 1 _ rfl
  have h2 := hf 2 _ rfl
  have h3 := hf 3 _ rfl
  have h4 := hf 4 _ rfl
  have h5 := hf 5 _ rfl
  have h6 := hf 6 _ rfl
  have h7 := hf 7 _ rfl
  clear hf
  match cs, hl, xs, hlen with
  | [c0, c1, c2, c3, c4, c5, c6, c7, c8, c9, c10, c11], _, [y0, y1, y2, y3, y4, y5, y6, y7], _ =>
    simp only [ci, cstr, cp, cst, List.getElem?_cons_zero, List.getElem?_cons_succ, List.drop_zero, List.drop_succ_cons, List.take_succ_cons, List.take_zero] at h0 h1 h2 h3 h4 h5 h6 h7
    obtain ⟨k, e0, _, w0⟩ := DataW.trod_string Try.underlying9 h0
    obtain ⟨a, e1, _, w1⟩ := DataW.trod_int Try.underlying3 h1
    obtain ⟨b, e2, _, w2⟩ := DataW.trod_int Try.underlying3 h2
    obtain ⟨c, e3, _, w3⟩ := DataW.trod_int Try.underlying3 h3
    obtain ⟨d, e4, _, w4⟩ := DataW.trod_int Try.underlying3 h4
    obtain ⟨s, e5, _, w5⟩ := DataW.trod_string Try.underlying9 h5
    obtain ⟨pc, pi, po, pv, e6, wc, wi, o6, r6⟩ := c_packet h6
    obtain ⟨xo, xs, xe, xv, e7, wo, ws, o7, r7⟩ := c_state h7
    cases e0; cases e1; cases e2; cases e3; cases e4; cases e5; cases e6; cases e7
    exact ⟨(⟨k, a, b, c, d, s, ⟨pc, pi, po⟩, (xo, xs, xe)⟩, _, _), rfl, ⟨w0, i64_of_wf w1, i64_of_wf w2, i64_of_wf w3, i64_of_wf w4, w5, wc, wi, wo, ws⟩, o6, r6, o7, r7⟩
set_option maxRecDepth 100000 in
theorem g_acts {H : Type} {enc : TypeId × Value → H} {w : World} {v : Value} {d : DataW H} {p : List MemPlace} (hv : Value.okWide Try.prog w .any 0 119 v) (h : DataW.Trod enc Try.prog w 0 (fun _ => true) true 119 v d p) : GActs w v := by
  obtain ⟨a0, len, cap, rfl⟩ := okWide_slice Try.underlying119 hv
  obtain ⟨fuel, hf⟩ := h
  obtain ⟨ao, cp, rows, hcs, hl, hm, hr, ha⟩ := rows_of_slice Try.underlying119 12 (by kernel_rfl) (by decide)
    (E := fun r => ∃ q : Ac × Value × Value, r = acVals q ∧ acGood w q) (fun fuel cs x hx => c_act hx) hf
  obtain ⟨l, rfl, hp⟩ := of_rows (fun r h => (hr r h).2)
  simp [Value.cells] at hcs
  obtain ⟨rfl, rfl, rfl⟩ := hcs
  refine ⟨l.map (·.1), fun s hs => ?_, ?_⟩
  · obtain ⟨q, hq, rfl⟩ := List.mem_map.1 hs
    exact (hp q hq).1
  · have := rep_arr (w := w) (μ := noG) (cap := cap) (avs := l.map fun q => acRow q.1) (by simpa using hl) hm ha (by simp) (fun i r q h1 h2 => by
      simp only [List.getElem?_map, Option.map_eq_some_iff] at h1 h2
      obtain ⟨s, hs, rfl⟩ := h1
      obtain ⟨s', hs', rfl⟩ := h2
      rw [hs] at hs'
      obtain rfl := Option.some.inj hs'
      have hq := hp s (List.mem_of_getElem? hs)
      refine ⟨rfl, rfl, fun j x av g1 g2 => ?_⟩
      unfold acVals at g1
      unfold acRow at g2
      match j with
      | 0 => simp at g1 g2; subst g1 g2; exact ⟨.v _ _, rfl⟩
      | 1 => simp at g1 g2; subst g1 g2; exact ⟨.v _ _, rfl⟩
      | 2 => simp at g1 g2; subst g1 g2; exact ⟨.v _ _, rfl⟩
      | 3 => simp at g1 g2; subst g1 g2; exact ⟨.v _ _, rfl⟩
      | 4 => simp at g1 g2; subst g1 g2; exact ⟨.v _ _, rfl⟩
      | 5 => simp at g1 g2; subst g1 g2; exact ⟨.v _ _, rfl⟩
      | 6 => simp at g1 g2; subst g1 g2; exact ⟨.v _ _, rfl⟩
      | 7 => simp at g1 g2; subst g1 g2; exact ⟨.v _ _, rfl⟩
      | 8 => simp at g1 g2; subst g1 g2; exact ⟨hq.2.2.1, hq.2.1⟩
      | 9 => simp at g1 g2; subst g1 g2; exact ⟨.v _ _, rfl⟩
      | 10 => simp at g1 g2; subst g1 g2; exact ⟨.v _ _, rfl⟩
      | 11 => simp at g1 g2; subst g1 g2; exact ⟨hq.2.2.2.2, hq.2.2.2.1⟩
      | j + 12 => simp at g1)
    simpa [Function.comp_def] using this
end Go.Proofs.Ytimfnpjcedjmiaa
