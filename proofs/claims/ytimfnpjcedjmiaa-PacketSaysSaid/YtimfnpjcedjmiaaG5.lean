/-
  Engine G, part 5: the operations that only look do what is known of them.
-/
import Derived.Test.YtimfnpjcedjmiaaG4
namespace Go.Proofs.Ytimfnpjcedjmiaa
open Go.RowKit
set_option linter.unusedSimpArgs false
set_option linter.unusedVariables false

/-- What a value's making comes to. -/
def VOut (P : Program) (σ : Store) (μ : Ghost) (a : Act) (w : World) (o : Oper) (K : AV → Prop) : Prop :=
  ∃ x av, (execOp a.eval o).run P w = .ok (.value x) w ∧ RepV σ μ av x ∧ K av
section
variable {P : Program} {n : Nat} {fp : Nat → Prop} {w0 : Start} {σ : Store} {μ : Ghost} {Ds : Nat → Nat → Prop} {A : AS} {a : Act} {w : World} {K : AV → Prop}
  {dst : Option Tmp} {ty : TypeId} {pos : String} {after : Array Edge} {guard : Option (Nat × Bool)}

theorem Rel.ev (h : Rel n fp w0 σ μ Ds A a w) (x : Operand) : RepV σ μ (evO A.fr x) (a.eval x) := by
  have := h.eval x
  rw [show A.eval x = evO A.fr x from evO_eval (fr := A.fr) (mem := A.mem)] at this
  exact this

/-- Cells that can be read, cut. -/
theorem cut_run {b off : Nat} {l : List AV} (hc : ∀ (i : Nat) (av : AV), l[i]? = some av → ∃ y, w.cell? ⟨b, i + off, none⟩ = some y ∧ RepV σ μ av y) {t : TypeId} {o : Nat} (h : cutV' (shapeT P t) o l K) :
    ∃ y av, (Instr.loadAt t (.pointer (some ⟨b, off + o, none⟩))).run P w = .ok y w ∧ RepV σ μ av y ∧ K av := by
  unfold cutV' at h
  split at h
  · rename_i k hs
    obtain ⟨hle, hK⟩ := tt_out h
    have hle := Nat.le_of_ble_eq_true hle
    obtain ⟨s1, s2⟩ := shapeT_true hs w
    have hget : ∀ j, j < k → ∃ y av, l[o + j]? = some av ∧ w.cell? ⟨b, off + o + j, none⟩ = some y ∧ RepV σ μ av y := fun j hj => by
      have hlt : o + j < l.length := by omega
      obtain ⟨y, hy, hr⟩ := hc (o + j) _ (List.getElem?_eq_getElem hlt)
      exact ⟨y, _, List.getElem?_eq_getElem hlt, by rw [show off + o + j = o + j + off by omega]; exact hy, hr⟩
    let f : Nat → Value := fun j => (w.cell? ⟨b, off + o + j, none⟩).getD undef
    have hf : ∀ j, j < k → w.cell? ⟨b, off + o + j, none⟩ = some (f j) := fun j hj => by
      obtain ⟨y, av, _, hy, _⟩ := hget j hj
      simp only [f, hy]; rfl
    have hload := run_cellsFrom (P := P) (w := w) (b := b) (off := off + o) f k 0 #[] (fun j hj => by simpa using hf j hj)
    refine ⟨.agg ((List.range k).toArray.map f), _, ?_, .agg _ _ _ (by simp; omega) ?_, hK⟩
    · simp only [Instr.loadAt, Instr.sureAddr, loadVar, loadCells, Sem.run_bind, s1, s2, Result.andThen_ok, if_true, Sem.run_pure]
      rw [hload]
      simp [Result.andThen_ok, Sem.run_pure]
    · intro i av y hi hy
      have hlt : i < k := by have := (Array.getElem?_eq_some_iff.1 hy).1; simpa using this
      simp [hlt] at hy
      rw [List.getElem?_take, List.getElem?_drop] at hi
      simp only [hlt, if_true] at hi
      obtain ⟨z, av', h1, h2, h3⟩ := hget i hlt
      rw [h1] at hi
      obtain rfl := Option.some.inj hi
      have := hf i hlt
      rw [h2] at this
      obtain rfl := Option.some.inj this
      rw [← hy]; exact h3
  · rename_i k hs
    obtain ⟨av, hav, hK⟩ := nthK_out h
    obtain ⟨s1, s2⟩ := shapeT_false hs w
    obtain ⟨y, hy, hr⟩ := hc _ av hav
    rw [Nat.add_comm] at hy
    exact ⟨y, av, by simp [Instr.loadAt, Instr.sureAddr, loadVar, Sem.run_bind, s1, Result.andThen_ok, load, Sem.run, hy, pure, Sem.run_pure], hr, hK⟩
  · exact h.elim
/-- Parts of an aggregate. -/
theorem cut_part {l : List AV} {cs : Array Value} (hl : l.length = cs.size) (hr : ∀ (i : Nat) (av : AV) (y : Value), l[i]? = some av → cs[i]? = some y → RepV σ μ av y) {t : TypeId} {o : Nat} (h : cutV' (shapeT P t) o l K) :
    ∃ y av, (part t cs o).run P w = .ok y w ∧ RepV σ μ av y ∧ K av := by
  unfold cutV' at h
  split at h
  · rename_i k hs
    obtain ⟨hle, hK⟩ := tt_out h
    obtain ⟨y, h1, h2⟩ := part_agg (P := P) (w := w) hl hr hs (Nat.le_of_ble_eq_true hle)
    exact ⟨y, _, h1, h2, hK⟩
  · rename_i k hs
    obtain ⟨av, hav, hK⟩ := nthK_out h
    obtain ⟨y, h1, h2⟩ := part_cell (P := P) (w := w) hl hr hs hav
    exact ⟨y, _, h1, h2, hK⟩
  · exact h.elim
theorem ld_sound (h : Rel n fp w0 σ μ Ds A a w) {v : AV} {x : Value} (hx : RepV σ μ v x) {t : TypeId} (hk : ldV (shapeT P t) v A.mem K) :
    ∃ y av, (Instr.loadAt t x).run P w = .ok y w ∧ RepV σ μ av y ∧ K av := by
  unfold ldV at hk
  split at hk
  · obtain ⟨b, off, f, rfl, h1, h2, _⟩ := hx.inv_adr
    have := cut_run (P := P) (σ := σ) (μ := μ) (w := w) (b := b) (off := off) (fun i av hi => ⟨f i, by rw [Nat.add_comm]; exact h.agree _ _ _ (h1 i av hi), (h2 i av hi).lift⟩) hk
    simpa using this
  · obtain ⟨r, hr, hk⟩ := nthK_out hk
    split at hk
    · obtain ⟨b, rfl, hmu⟩ := hx.inv_box
      obtain ⟨b2, c, T, g1, g2, g3, g4, g5, g6⟩ := h.mem.ok _ _ hr
      rw [hmu] at g1
      simp only [Option.some.injEq, An.fix.injEq, Value.pointer.injEq, Addr.mk.injEq, and_true] at g1
      subst g1
      have := cut_run (P := P) (σ := σ) (μ := μ) (w := w) (b := b) (off := 0) (fun i av hi => let ⟨y, hy, hr⟩ := g4 i av hi; ⟨y, by simp [World.cell?, g2, hy], hr⟩) hk
      simpa using this
    · exact hk.elim
  · obtain ⟨r, hr, hk⟩ := nthK_out hk
    split at hk
    · obtain ⟨hg0, hk2⟩ := tt_out hk
      obtain ⟨hs0, hk3⟩ := tt_out hk2
      clear hk hk2
      have hg := Nat.eq_of_beq_eq_true hg0
      have hs := Nat.eq_of_beq_eq_true hs0
      subst hg hs
      obtain ⟨l, hl, hk⟩ := hk3
      obtain ⟨b, m, cap, an, rfl, k4, k5⟩ := hx.inv_elt
      obtain ⟨ao', cap', xs, q1, q2, q3, q4, q5, q6⟩ := h.mem.ok _ _ hr
      rw [k4] at q1
      obtain rfl := Option.some.inj q1
      obtain ⟨_, k5⟩ := k5
      obtain ⟨rfl, rfl, rfl⟩ := k5 rfl
      rcases q2.2 with ⟨e1, e2⟩ | ⟨b2, cp, cur, e1, _, hb, hle, hcm, hcs, htake⟩
      · simp at e1
      · simp only [Value.slice.injEq, Option.some.injEq, Addr.mk.injEq, and_true, true_and] at e1
        obtain ⟨rfl, rfl⟩ := e1
        refine cut_run (P := P) (σ := σ) (μ := μ) (w := w) (b := b) (fun i av hi => ?_) hk
        obtain ⟨y, y1, y2, y3⟩ := q4 _ i l av hl hi
        rw [← htake, List.getElem?_take] at y1
        split at y1
        · refine ⟨y, ?_, ?_⟩
          · simp only [World.cell?, hb]; rw [Nat.add_comm i]; simpa using y1
          · rename_i fr _ _ _ _ _ _
            unfold gOf at y2
            split at y2
            · exact RepV.lift y2
            · exact y2
        · cases y1
    · exact hk.elim
  · exact hk.elim
theorem key_int {P : Program} {t : TypeId} {kk : Option IntKind} {v : AV} {K : Value → Prop} (h : keyOk P t kk v K) : ∃ kt e k m, P.underlying t = some (.map kt e) ∧ P.underlying kt = some (.int k) ∧ kk = some k ∧ v = .v (.int k m) ∧ K (.int k m) := by
  unfold keyOk at h
  split at h
  · rename_i kt e h1
    split at h
    · rename_i k h2
      split at h
      · split at h
        · obtain ⟨h3, h4⟩ := tt_out h
          obtain ⟨h5, h6⟩ := tt_out h4
          obtain rfl := kEq_out h3
          obtain rfl := kEq_out h5
          exact ⟨kt, e, _, _, h1, h2, rfl, rfl, h6⟩
        · exact h.elim
      · exact h.elim
    · exact h.elim
  · exact h.elim
theorem findNow_int {k : IntKind} {m : Int} : ∀ (es : List MapEntry) (i : Nat), (∀ e, e ∈ es → KeyW (some k) e.key) →
    ∃ r, Instr.findNow (.int k) (.int k m) es i = some r ∧ ((∃ j e, r = some (i + j, e.val) ∧ es[j]? = some e ∧ e.key = .int k m) ∨ (r = none ∧ ∀ e, e ∈ es → e.key ≠ .int k m))
  | [], i, _ => ⟨none, rfl, .inr ⟨rfl, by simp⟩⟩
  | e :: es, i, h => by
    obtain ⟨m', hm⟩ := h e (List.mem_cons_self ..)
    by_cases hq : m = m'
    · subst hq
      refine ⟨some (i, e.val), ?_, .inl ⟨0, e, rfl, rfl, hm⟩⟩
      simp [Instr.findNow, hm, Instr.sameNow]
    · obtain ⟨r, h1, h2⟩ := findNow_int (k := k) (m := m) es (i + 1) (fun e he => h e (List.mem_cons_of_mem _ he))
      refine ⟨r, ?_, ?_⟩
      · have hb : (m == m') = false := by simpa using hq
        simp [Instr.findNow, hm, Instr.sameNow, hb, h1]
      · rcases h2 with ⟨j, e', g1, g2, g3⟩ | ⟨g1, g2⟩
        · exact .inl ⟨j + 1, e', by rw [g1, Nat.add_assoc, Nat.add_comm 1], g2, g3⟩
        · refine .inr ⟨g1, fun e' he => ?_⟩
          rcases List.mem_cons.1 he with rfl | he
          · rw [hm]; simp; exact fun e => hq e.symm
          · exact g2 e' he
theorem find_int {kt : TypeId} {k : IntKind} {m : Int} (hk : P.underlying kt = some (.int k)) {es : Array MapEntry} (h : ∀ e, e ∈ es.toList → KeyW (some k) e.key) (w : World) :
    ∃ r, (Instr.findKey kt (.int k m) es.toList).run P w = .ok r w ∧ ((∃ j e, r = some (j, e.val) ∧ es[j]? = some e ∧ e.key = .int k m) ∨ (r = none ∧ ∀ e, e ∈ es.toList → e.key ≠ .int k m)) := by
  obtain ⟨r, h1, h2⟩ := findNow_int (k := k) (m := m) es.toList 0 h
  refine ⟨r, ?_, ?_⟩
  · simp only [Instr.findKey, underlying, program, Sem.run_bind, Sem.run, Result.andThen_ok, hk, pure, Sem.run_pure, Bind.bind, Sem.bind, h1]
  · simpa using h2
theorem checkKey_int {kt : TypeId} {k : IntKind} {m : Int} {b : Bool} (hk : P.underlying kt = some (.int k)) (w : World) : (Instr.checkKey b 10000 kt (.int k m)).run P w = .ok () w := by
  have : ∀ d, (Instr.checkKey b (d + 1) kt (.int k m)).run P w = .ok () w := fun d => by
    simp [Instr.checkKey, underlying, program, Sem.run_bind, Sem.run, Result.andThen_ok, hk, pure, Sem.run_pure]
  exact this 9999
theorem elemM_some {P : Program} {t : TypeId} {z : Value} {b : Bool} {k : Nat} (h : elemM P t = some (z, b, k)) {kt e : TypeId} (hu : P.underlying t = some (.map kt e)) : (∀ w, (zeroValue e).run P w = .ok z w) ∧ shapeT P e = some (b, k) := by
  unfold elemM at h
  rw [hu] at h
  simp only at h
  cases hz : zeroT P e with
  | none => simp [hz] at h
  | some z' =>
    cases hs : shapeT P e with
    | none => simp [hz, hs] at h
    | some q =>
      simp [hz, hs] at h
      obtain ⟨rfl, rfl, rfl⟩ := h
      refine ⟨fun w => ?_, rfl⟩
      unfold zeroT at hz
      cases hi : P.info? e with
      | none => simp [hi] at hz
      | some ii =>
        simp [hi] at hz
        simp [zeroValue, typeInfo, program, hi, hz, Sem.run_bind, Sem.run, Result.andThen_ok, pure, Sem.run_pure]
theorem look_sound (h : Rel n fp w0 σ μ Ds A a w) {v k : AV} {x y : Value} (hx : RepV σ μ v x) (hy : RepV σ μ k y) {t : TypeId} {ok : Bool} (hk : lookV P t v k ok A.mem K) :
    ∃ z av, (Instr.lookup t x y ok).run P w = .ok z w ∧ RepV σ μ av z ∧ K av := by
  unfold lookV at hk
  split at hk
  · rename_i id
    obtain ⟨r, hr, hk⟩ := nthK_out hk
    split at hk
    · rename_i kk ag f
      obtain ⟨kt, e, k, m, u1, u2, rfl, rfl, hk1⟩ := key_int hk
      clear hk
      split at hk1
      · rename_i z ag' sz hel
        obtain ⟨hag0, hk2⟩ := tt_out hk1
        clear hk1
        have hag : ag = ag' := by simpa using hag0
        subst hag
        obtain ⟨hzero, hsh⟩ := elemM_some hel u1
        obtain ⟨r, es, clock, g1, g2, g3, g4, g5, g6⟩ := h.mem.ok _ _ hr
        obtain ⟨r', rfl, hmu⟩ := hx.inv_map
        rw [hmu] at g1
        simp only [Option.some.injEq, An.fix.injEq, Value.map.injEq] at g1
        subst g1
        obtain rfl := hy.inv_v
        obtain ⟨q, hq, hfound⟩ := find_int (m := m) u2 (fun e he => (g4 e he).1) w
        have hck := checkKey_int (m := m) (b := es.isEmpty) u2 w
        obtain ⟨hsome, hnone⟩ := hk2
        have hrun : ∀ v ok', (do let (v, ok) ← (match q with | some (_, v) => pure (v, true) | none => do pure (← zeroValue e, false) : Sem (Value × Bool)); pure (v, ok) : Sem (Value × Bool)).run P w = .ok (v, ok') w →
            (Instr.lookup t (.map (some r')) (.int k m) ok).run P w = .ok (if ok then .tuple #[v, .bool ok'] else v) w := by
          intro v ok' hv
          simp only [Instr.lookup, Sem.run_bind, run_underlying u1, Result.andThen_ok, getObj, Sem.run, g2, Sem.run_pure, hck, hq]
          rcases hfound with ⟨j, en, rfl, _, _⟩ | ⟨rfl, _⟩
          · simp only [Sem.run_bind, Sem.run_pure, Result.andThen_ok, Result.ok.injEq, Prod.mk.injEq, and_true] at hv ⊢
            obtain ⟨rfl, rfl⟩ := hv
            cases ok <;> rfl
          · simp only [Sem.run_bind, Sem.run_pure, hzero, Result.andThen_ok, Result.ok.injEq, Prod.mk.injEq, and_true] at hv ⊢
            obtain ⟨rfl, rfl⟩ := hv
            cases ok <;> rfl
        have fin : ∀ v ok' av, RepV σ μ av v → (Instr.lookup t (.map (some r')) (.int k m) ok).run P w = .ok (if ok then .tuple #[v, .bool ok'] else v) w → (match ok with | true => K (.tup [av, .v (.bool ok')]) | false => K av) →
            ∃ z av, (Instr.lookup t (.map (some r')) (.int k m) ok).run P w = .ok z w ∧ RepV σ μ av z ∧ K av := by
          intro v ok' av hv hr hK
          cases ok with
          | false => exact ⟨v, av, hr, hv, hK⟩
          | true =>
            refine ⟨_, _, hr, .tup _ _ _ rfl (fun i av' y h1 h2 => ?_), hK⟩
            match i, h1, h2 with
            | 0, h1, h2 => simp at h1 h2; subst h1 h2; exact hv
            | 1, h1, h2 => simp at h1 h2; subst h1 h2; exact .v _ _
        rcases hfound with ⟨j, en, rfl, hj, hkey⟩ | ⟨rfl, hno⟩
        · have hmem : en ∈ es.toList := List.mem_of_getElem? (by simpa using hj)
          obtain ⟨hborn, l, hl, hsz, hone, hcells⟩ := g3.1 en hmem
          rw [hkey] at hl
          have hK := hsome l hl
          have hag2 := (g4 en hmem).2
          have hrep : RepV σ μ (valOf ag l) en.val := by
            cases ag with
            | true =>
              obtain ⟨cs, hcs⟩ := hag2.1 rfl
              rw [hcs] at hsz hcells ⊢
              simp only [Value.cells] at hsz hcells
              refine .agg _ _ _ hsz.symm (fun i av y h1 h2 => ?_)
              obtain ⟨y', h3, h4⟩ := hcells i av h1
              rw [h3] at h2
              obtain rfl := Option.some.inj h2
              exact h4.lift
            | false =>
              cases l with
              | nil => exact .any _ _
              | cons av l => cases l with
                | cons => exact .any _ _
                | nil =>
                  have hnag : ∀ cs, en.val ≠ .agg cs := fun cs e => by have := hag2.2 ⟨cs, e⟩; cases this
                  have hcl : en.val.cells = #[en.val] := by
                    cases hv : en.val <;> first | rfl | exact absurd hv (hnag _)
                  obtain ⟨y, hy, hr⟩ := hcells 0 av rfl
                  rw [hcl] at hy
                  simp at hy
                  subst hy
                  exact hr.lift
          refine fin en.val true _ hrep (hrun _ _ (by simp [Sem.run_bind, Sem.run_pure, Result.andThen_ok])) ?_
          simp only [lookK] at hK
          cases ok <;> simp only [fz_eq] at hK <;> exact hK
        · have hK := hnone (by
            cases hf : f (.int k m) with
            | none => rfl
            | some l => obtain ⟨e', he', hk'⟩ := g3.2.1 _ l hf; exact absurd hk' (hno e' he'))
          refine fin z false _ (ofV_rep σ μ z) (hrun _ _ (by simp [Sem.run_bind, Sem.run_pure, hzero, Result.andThen_ok])) ?_
          simp only [lookK] at hK
          cases ok <;> simp only [fz_eq] at hK <;> exact hK
      · exact hk1.elim
    · exact hk.elim
  · exact hk.elim
end
end Go.Proofs.Ytimfnpjcedjmiaa
