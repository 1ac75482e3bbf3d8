/-
  Engine G, part 13: the law of the operations that make memory, or write into it: maps, strings, the whole.
-/
import Derived.Test.YtimfnpjcedjmiaaG12
namespace Go.Proofs.Ytimfnpjcedjmiaa
open Go.RowKit
set_option linter.unusedSimpArgs false
set_option linter.unusedVariables false

section
variable {P : Program} {n : Nat} {fp : Nat → Prop} {w0 : Start} {σ : Store} {μ : Ghost} {Ds : Nat → Nat → Prop} {A : AS} {a : Act} {w : World} {K : MK}
  {dst : Option Tmp} {ty : TypeId} {pos : String} {after : Array Edge} {guard : Option (Nat × Bool)} {Q : Exit → Act → World → Prop}

/-- An object that is no row of cells is turned. -/
def World.setO (w : World) (r : Nat) (o : Obj) : World := { w with heap := w.heap.setIfInBounds r o }
theorem setO_get {r : Nat} {o o0 : Obj} (h : w.heap[r]? = some o0) : (World.setO w r o).heap[r]? = some o := by
  have := (Array.getElem?_eq_some_iff.1 h).1
  simp [World.setO, this]
theorem setO_other {r k : Nat} {o : Obj} (h : k ≠ r) : (World.setO w r o).heap[k]? = w.heap[k]? := by
  simp [World.setO, Array.getElem?_setIfInBounds_ne (Ne.symm h)]
theorem setO_size {r : Nat} {o : Obj} : (World.setO w r o).heap.size = w.heap.size := by simp [World.setO]
theorem Rel.setO (h : Rel n fp w0 σ μ Ds A a w) {id r : Nat} {res0 res : Res} {o o0 : Obj} {an : An} (hid : A.mem[id]? = some res0) (hmu : μ id = some an) (hr : w.heap[r]? = some o0) (hD : ∀ k, Ds id k ↔ k = r) (hσ : ∀ o, σ r o = none)
    (hok : ROk σ (updG μ id an) (World.setO w r o) id (Ds id) res) : Rel n fp w0 σ (updG μ id an) (updD Ds id (Ds id)) ⟨A.fr, A.mem.set id res⟩ a (World.setO w r o) := by
  have hlt := (List.getElem?_eq_some_iff.1 hid).1
  have := h.upd (id := id) (r := res) (D := Ds id) (an := an) (σ' := σ) (w' := World.setO w r o) (Nat.le_of_lt hlt) (by rw [setO_size]; exact Nat.le_refl _) rfl rfl rfl
    (fun b hb hd => ⟨setO_other (fun e => hd ((hD b).2 e)), fun _ => rfl⟩) (fun _ _ _ h => h)
    (fun b k y hy => by
      have hne : b ≠ r := fun e => by subst e; rw [hσ k] at hy; cases hy
      rw [World.cell?_of_block (w := w) (w' := World.setO w r o) (a := ⟨b, k, none⟩) (setO_other hne)]; exact h.agree b k y hy) hok (fun b hb => .inl hb) (fun x hx => by rw [hmu] at hx; obtain rfl := Option.some.inj hx; exact An.le_refl _)
  rw [putR_set hlt] at this
  exact this
theorem MapRep.find {es : Array MapEntry} {clock : Nat} {f : Value → Option (List AV)} (h : MapRep σ es clock f) {i : Nat} {e : MapEntry} (hi : es[i]? = some e) {j : Nat} {e' : MapEntry} (hj : es[j]? = some e') (hk : e.key = e'.key) : i = j := by
  have hp := List.pairwise_iff_getElem.1 h.2.2.2
  have hi' : es.toList[i]? = some e := by simpa using hi
  have hj' : es.toList[j]? = some e' := by simpa using hj
  obtain ⟨p1, p2⟩ := List.getElem?_eq_some_iff.1 hi'
  obtain ⟨q1, q2⟩ := List.getElem?_eq_some_iff.1 hj'
  rcases Nat.lt_trichotomy i j with g | g | g
  · exact absurd (by rw [p2, q2]; exact hk) (hp i j p1 q1 g).1
  · exact g
  · exact absurd (by rw [p2, q2]; exact hk.symm) (hp j i q1 p1 g).1
theorem kindM_some {t : TypeId} {kk : Option IntKind} {ag : Bool} (h : kindM P t = some (kk, ag)) : ∃ kt e sz, P.underlying t = some (.map kt e) ∧ shapeT P e = some (ag, sz) := by
  unfold kindM at h
  split at h
  · rename_i kt e hu
    split at h
    · rename_i b sz hs
      split at h
      · simp only [Option.some.injEq, Prod.mk.injEq] at h; obtain ⟨_, rfl⟩ := h; exact ⟨kt, e, sz, hu, hs⟩
      · simp only [Option.some.injEq, Prod.mk.injEq] at h; obtain ⟨_, rfl⟩ := h; exact ⟨kt, e, sz, hu, hs⟩
      · cases h
    · cases h
  · cases h
/-- What a map's value's cells say. -/
def ValRep (σ : Store) (v : Value) (l : List AV) : Prop :=
  v.cells.size = l.length ∧ (∀ y ∈ v.cells.toList, y.oneCell' = true) ∧ ∀ (i : Nat) (av : AV), l[i]? = some av → ∃ y, v.cells[i]? = some y ∧ RepV σ noG av y
theorem updF_at {f : Value → Option (List AV)} {k q : Value} {o : Option (List AV)} : updF f k o q = if keyEq q k = true then o else f q := by
  unfold updF; cases keyEq q k <;> rfl
/-- A map's key gets a value. -/
theorem mapPut_run {t kt e r : Nat} {k : IntKind} {m : Int} {v : Value} {es : Array MapEntry} {clock : Nat} {f : Value → Option (List AV)} {l : List AV} {ag : Bool} (u1 : P.underlying t = some (.map kt e)) (u2 : P.underlying kt = some (.int k))
    (hr : w.heap[r]? = some (.map es clock)) (hrep : MapRep σ es clock f) (hkw : ∀ e, e ∈ es.toList → KeyW (some k) e.key ∧ (ag = true ↔ ∃ cs, e.val = .agg cs)) (hv : ValRep σ v l) (hag : ag = true ↔ ∃ cs, v = .agg cs) :
    ∃ es' clock', (Instr.mapUpdate t (.map (some r)) (.int k m) v).run P w = .ok () (World.setO w r (.map es' clock')) ∧ MapRep σ es' clock' (updF f (.int k m) (some l)) ∧ (∀ e, e ∈ es'.toList → KeyW (some k) e.key ∧ (ag = true ↔ ∃ cs, e.val = .agg cs)) := by
  obtain ⟨q, hq, hfound⟩ := find_int (m := m) u2 (fun e he => (hkw e he).1) w
  have hck := checkKey_int (m := m) (b := false) u2 w
  have kw : KeyW (some k) (.int k m) := ⟨m, rfl⟩
  rcases hfound with ⟨j, en, rfl, hj, hkey⟩ | ⟨rfl, hno⟩
  · have hlt := (Array.getElem?_eq_some_iff.1 hj).1
    refine ⟨es.modify j (fun e => { e with key := .int k m, val := v }), clock, ?_, ?_, ?_⟩
    · have hkk : (Instr.keyThatStays (((es[j]?).map (·.key)).getD (.int k m)) (.int k m)).run P w = .ok (.int k m) w := by
        rw [hj]
        simp only [Option.map_some, Option.getD_some, hkey]
        simp [Instr.keyThatStays, Instr.sameBits, Sem.run_pure]
      simp only [Instr.mapUpdate, Sem.run_bind, run_underlying u1, Result.andThen_ok, getObj, Sem.run, hr, Sem.run_pure, hck, hq, hkk, setObj]
      rfl
    · have hmem : ∀ e', e' ∈ (es.modify j (fun e => { e with key := .int k m, val := v })).toList → (e' = { en with key := .int k m, val := v }) ∨ (e' ∈ es.toList ∧ e'.key ≠ .int k m) := by
        intro e' he'
        obtain ⟨i, hi, rfl⟩ := List.mem_iff_getElem.1 he'
        simp only [Array.length_toList, Array.size_modify] at hi
        simp only [Array.getElem_toList, Array.getElem_modify]
        split
        · rename_i hji
          subst hji
          left
          rw [(Array.getElem?_eq_some_iff.1 hj).2]
        · rename_i hji
          right
          refine ⟨Array.getElem_mem_toList _, fun e => hji (hrep.find hj (Array.getElem?_eq_getElem hi) (by rw [hkey, e]))⟩
      have hin : ({ en with key := .int k m, val := v } : MapEntry) ∈ (es.modify j (fun e => { e with key := .int k m, val := v })).toList := by
        refine List.mem_iff_getElem.2 ⟨j, by simpa using hlt, ?_⟩
        simp only [Array.getElem_toList, Array.getElem_modify, if_true]
        rw [(Array.getElem?_eq_some_iff.1 hj).2]
      refine ⟨fun e' he' => ?_, fun k' l' hk' => ?_, fun e' he' => ?_, ?_⟩
      · rcases hmem e' he' with rfl | ⟨h1, h2⟩
        · refine ⟨(hrep.1 en (Array.mem_toList_iff.2 (Array.mem_of_getElem? hj))).1, l, ?_, hv.1, hv.2.1, hv.2.2⟩
          rw [updF_at, if_pos (keyEq_self kw)]
        · obtain ⟨g0, l0, g1, g2⟩ := hrep.1 e' h1
          exact ⟨g0, l0, by rw [updF_at, if_neg (fun e => h2 (keyEq_out e))]; exact g1, g2⟩
      · rw [updF_at] at hk'
        split at hk'
        · rename_i he; exact ⟨_, hin, (keyEq_out he).symm⟩
        · rename_i he
          obtain ⟨e', he', hke⟩ := hrep.2.1 k' l' hk'
          refine ⟨e', ?_, hke⟩
          obtain ⟨i, hi, rfl⟩ := List.mem_iff_getElem.1 he'
          simp only [Array.length_toList] at hi
          refine List.mem_iff_getElem.2 ⟨i, by simpa using hi, ?_⟩
          simp only [Array.getElem_toList, Array.getElem_modify]
          rw [if_neg]
          intro hji
          subst hji
          have : es[j] = en := (Array.getElem?_eq_some_iff.1 hj).2
          simp only [Array.getElem_toList] at hke
          rw [this, hkey] at hke
          exact he (hke ▸ keyEq_self kw)
      · rcases hmem e' he' with rfl | ⟨h1, h2⟩
        · rw [updF_at, if_pos (keyEq_self kw)]; simp
        · rw [updF_at, if_neg (fun e => h2 (keyEq_out e))]; exact hrep.2.2.1 e' h1
      · have hp := List.pairwise_iff_getElem.1 hrep.2.2.2
        refine List.pairwise_iff_getElem.2 fun i1 i2 h1 h2 hlt12 => ?_
        simp only [Array.length_toList, Array.size_modify] at h1 h2
        have := hp i1 i2 (by simpa using h1) (by simpa using h2) hlt12
        simp only [Array.getElem_toList, Array.getElem_modify] at this ⊢
        have hej : es[j] = en := (Array.getElem?_eq_some_iff.1 hj).2
        split <;> split
        · omega
        · rename_i g1 g2
          subst g1
          rw [hej, hkey] at this
          exact ⟨this.1, by rw [hej]; exact this.2⟩
        · rename_i g1 g2
          subst g2
          rw [hej, hkey] at this
          exact ⟨this.1, by rw [hej]; exact this.2⟩
        · exact this
    · intro e' he'
      obtain ⟨i, hi, rfl⟩ := List.mem_iff_getElem.1 he'
      simp only [Array.length_toList, Array.size_modify] at hi
      simp only [Array.getElem_toList, Array.getElem_modify]
      split
      · exact ⟨kw, hag⟩
      · exact hkw _ (Array.getElem_mem_toList _)
  · refine ⟨es.push { key := .int k m, val := v, born := clock }, clock + 1, ?_, ?_, ?_⟩
    · simp only [Instr.mapUpdate, Sem.run_bind, run_underlying u1, Result.andThen_ok, getObj, Sem.run, hr, Sem.run_pure, hck, hq, setObj]
      rfl
    · have hmem : ∀ e', e' ∈ (es.push { key := .int k m, val := v, born := clock }).toList → e' = { key := .int k m, val := v, born := clock } ∨ e' ∈ es.toList := by
        intro e' he'
        simp only [Array.toList_push, List.mem_append, List.mem_singleton] at he'
        exact he'.symm
      refine ⟨fun e' he' => ?_, fun k' l' hk' => ?_, fun e' he' => ?_, ?_⟩
      · rcases hmem e' he' with rfl | h1
        · exact ⟨Nat.lt_succ_self _, l, by rw [updF_at, if_pos (keyEq_self kw)], hv.1, hv.2.1, hv.2.2⟩
        · obtain ⟨g0, l0, g1, g2⟩ := hrep.1 e' h1
          exact ⟨Nat.lt_succ_of_lt g0, l0, by rw [updF_at, if_neg (fun e => hno e' h1 (keyEq_out e))]; exact g1, g2⟩
      · rw [updF_at] at hk'
        split at hk'
        · rename_i he; exact ⟨{ key := .int k m, val := v, born := clock }, by simp, (keyEq_out he).symm⟩
        · obtain ⟨e', he', hke⟩ := hrep.2.1 k' l' hk'
          exact ⟨e', by simp [Array.toList_push, he'], hke⟩
      · rcases hmem e' he' with rfl | h1
        · rw [updF_at, if_pos (keyEq_self kw)]; simp
        · rw [updF_at, if_neg (fun e => hno e' h1 (keyEq_out e))]; exact hrep.2.2.1 e' h1
      · rw [Array.toList_push, List.pairwise_append]
        refine ⟨hrep.2.2.2, by simp, fun x hx y hy => ?_⟩
        simp only [List.mem_singleton] at hy
        subst hy
        exact ⟨fun e => hno x hx e, fun e => by have := (hrep.1 x hx).1; simp only at e; omega⟩
    · intro e' he'
      simp only [Array.toList_push, List.mem_append, List.mem_singleton] at he'
      rcases he' with h1 | rfl
      · exact hkw e' h1
      · exact ⟨kw, hag⟩
theorem mapDel_run {t ty' kt e r : Nat} {k : IntKind} {m : Int} {es : Array MapEntry} {clock : Nat} {f : Value → Option (List AV)} {ag : Bool} {ts : Array TypeId} (u1 : P.underlying t = some (.map kt e)) (u2 : P.underlying kt = some (.int k)) (hts : ts[0]? = some t)
    (hr : w.heap[r]? = some (.map es clock)) (hrep : MapRep σ es clock f) (hkw : ∀ e, e ∈ es.toList → KeyW (some k) e.key ∧ (ag = true ↔ ∃ cs, e.val = .agg cs)) :
    ∃ es', (Builtin.delete_ ts ty' #[.map (some r), .int k m]).run P w = .ok (.tuple #[]) (World.setO w r (.map es' clock)) ∧ MapRep σ es' clock (updF f (.int k m) none) ∧ (∀ e, e ∈ es'.toList → KeyW (some k) e.key ∧ (ag = true ↔ ∃ cs, e.val = .agg cs)) := by
  obtain ⟨q, hq, hfound⟩ := find_int (m := m) u2 (fun e he => (hkw e he).1) w
  have hck := checkKey_int (m := m) (b := es.isEmpty) u2 w
  have kw : KeyW (some k) (.int k m) := ⟨m, rfl⟩
  rcases hfound with ⟨j, en, rfl, hj, hkey⟩ | ⟨rfl, hno⟩
  · have hlt := (Array.getElem?_eq_some_iff.1 hj).1
    have hej : es[j] = en := (Array.getElem?_eq_some_iff.1 hj).2
    have hsub : ∀ e', e' ∈ (es.eraseIdxIfInBounds j).toList ↔ e' ∈ es.toList ∧ e'.key ≠ .int k m := by
      intro e'
      have e1 : (es.eraseIdxIfInBounds j).toList = es.toList.eraseIdx j := by simp [Array.eraseIdxIfInBounds, hlt]
      rw [e1, List.mem_eraseIdx_iff_getElem]
      constructor
      · rintro ⟨i, hi, hne, rfl⟩
        refine ⟨List.getElem_mem _, fun e => hne ?_⟩
        exact (hrep.find hj (j := i) (e' := es.toList[i]) (by simp) (by rw [hkey, e])).symm
      · rintro ⟨h1, h2⟩
        obtain ⟨i, hi, rfl⟩ := List.mem_iff_getElem.1 h1
        refine ⟨i, hi, fun e => h2 ?_, rfl⟩
        subst e
        rw [Array.getElem_toList, hej]; exact hkey
    refine ⟨es.eraseIdxIfInBounds j, ?_, ⟨fun e' he' => ?_, fun k' l' hk' => ?_, fun e' he' => ?_, ?_⟩, fun e' he' => hkw e' ((hsub e').1 he').1⟩
    · simp only [Builtin.delete_, hts, Sem.run_bind, run_underlying u1, Result.andThen_ok, getObj, Sem.run, hr, Sem.run_pure, hck, hq, setObj, List.getElem?_toArray, List.getElem?_cons_zero, List.getElem?_cons_succ]
      rfl
    · obtain ⟨h1, h2⟩ := (hsub e').1 he'
      obtain ⟨g0, l0, g1, g2⟩ := hrep.1 e' h1
      exact ⟨g0, l0, by rw [updF_at, if_neg (fun e => h2 (keyEq_out e))]; exact g1, g2⟩
    · rw [updF_at] at hk'
      split at hk'
      · cases hk'
      · rename_i he
        obtain ⟨e', he', hke⟩ := hrep.2.1 k' l' hk'
        exact ⟨e', (hsub e').2 ⟨he', fun e => he (by rw [← hke, e]; exact keyEq_self kw)⟩, hke⟩
    · obtain ⟨h1, h2⟩ := (hsub e').1 he'
      rw [updF_at, if_neg (fun e => h2 (keyEq_out e))]; exact hrep.2.2.1 e' h1
    · have e1 : (es.eraseIdxIfInBounds j).toList = es.toList.eraseIdx j := by simp [Array.eraseIdxIfInBounds, hlt]
      rw [e1]
      exact hrep.2.2.2.sublist (List.eraseIdx_sublist _ _)
  · refine ⟨es, ?_, ⟨fun e' he' => ?_, fun k' l' hk' => ?_, fun e' he' => ?_, hrep.2.2.2⟩, hkw⟩
    · simp only [Builtin.delete_, hts, Sem.run_bind, run_underlying u1, Result.andThen_ok, getObj, Sem.run, hr, Sem.run_pure, hck, hq, setObj, List.getElem?_toArray, List.getElem?_cons_zero, List.getElem?_cons_succ]
      rfl
    · obtain ⟨g0, l0, g1, g2⟩ := hrep.1 e' he'
      exact ⟨g0, l0, by rw [updF_at, if_neg (fun e => hno e' he' (keyEq_out e))]; exact g1, g2⟩
    · rw [updF_at] at hk'
      split at hk'
      · cases hk'
      · exact hrep.2.1 k' l' hk'
    · rw [updF_at, if_neg (fun e => hno e' he' (keyEq_out e))]; exact hrep.2.2.1 e' he'
end
end Go.Proofs.Ytimfnpjcedjmiaa
