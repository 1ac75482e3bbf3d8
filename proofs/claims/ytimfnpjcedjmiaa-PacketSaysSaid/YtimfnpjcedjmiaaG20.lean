/-
  Engine G, part 20: a region that draws its order may be walked in the order of the text.
-/
import Derived.Test.YtimfnpjcedjmiaaG19
namespace Go.Proofs.Ytimfnpjcedjmiaa
open Go.RowKit
set_option linter.unusedSimpArgs false
set_option linter.unusedVariables false

/-- What an operation does to memory: 0: it does not look; 1: it looks; 2: it makes more; 3: it may turn it. -/
def kd (P : Program) (pu : Bool) (op : Op) : Nat :=
  match op with
  | .move _ | .assign _ | .nilCheck _ | .pick _ _ _ | .build _ _ | .unOp _ _ _ | .extract _ _ | .field _ _ _ | .fieldAddr _ _ _ | .index _ _ _ | .slice _ _ _ _ _ | .makeInterface _ _ | .typeAssert _ _ _ _ | .makeFunc _ _ _ => 0
  | .load _ _ | .lookup _ _ _ _ | .indexAddr _ _ _ => 1
  | .convert _ u _ => match isU8s P u with
    | true => 0
    | false => 1
  | .binOp _ t _ _ _ => match isSl P t with
    | true => 4
    | false => 0
  | .box _ _ | .alloc _ | .buildSlice _ _ _ | .makeSlice _ _ _ | .makeMap _ _ | .range _ _ => 2
  | .call c => match c.callee with
    | .value _ => match pu with
      | true => 0
      | false => 3
    | .builtin .len | .builtin .min | .builtin .max => 0
    | _ => 3
  | _ => 3
def okPair (a b : Nat) : Bool :=
  match a, b with
  | 4, _ => false
  | _, 4 => false
  | 0, _ => true
  | _, 0 => true
  | 1, 1 => true
  | 1, 2 => true
  | _, _ => false

section
variable {P : Program} {mt : Mut} {pu : Bool} {fr : List (Nat × AV)} {mem : List Res} {op : Op}
theorem nthK_app {α : Type} {l m : List α} {i : Nat} {K : α → Prop} (h : nthK l i K) : nthK (l ++ m) i K := by
  obtain ⟨r, h1, h2⟩ := nthK_out h
  exact nthK_of (by rw [List.getElem?_append_left (List.getElem?_eq_some_iff.1 h1).1]; exact h1) h2
theorem kd_quiet (h : kd P pu op ≤ 1) (hc : isCallF op = false) (hcv : ∀ t u x, op = .convert t u x → isU8s P u = false) : memOp P op = false := by
  cases op <;> simp only [kd, memOp] at * <;> try (first | rfl | omega | contradiction)
  case convert t u x => exact hcv t u x rfl
  case binOp o t x y z =>
    cases hs : isSl P t with
    | true => rw [hs] at h; simp at h
    | false => rfl
  case call c =>
    obtain ⟨callee, args, ats⟩ := c
    cases callee with
    | value => cases hc
    | builtin b => cases b <;> simp at h ⊢
    | _ => simp at h
/-- It does not look at memory. -/
theorem kd0 (h : kd P pu op = 0) {m : List Res} {v : AV} (hv : vop P mt pu fr mem op (fun m' v' => m' = m ∧ v' = v)) : m = mem ∧ ∀ mem2, vop P mt pu fr mem2 op (fun m' v' => m' = mem2 ∧ v' = v) := by
  by_cases hc : isCallF op = true
  · cases op with
    | call c =>
      obtain ⟨callee, args, ats⟩ := c
      cases callee with
      | value x =>
        cases pu with
        | false => simp [kd] at h
        | true =>
          have key : ∀ f l, calV P true mem f l (fun m' v' => m' = m ∧ v' = v) → m = mem ∧ ∀ mem2, calV P true mem2 f l (fun m' v' => m' = mem2 ∧ v' = v) := by
            rintro f l ⟨args, r, hF, hf, hA, h1, h2⟩
            exact ⟨h1.symm, fun mem2 => ⟨args, r, hF, hf, hA, rfl, h2⟩⟩
          cases x with
          | func f => simp only [vop, evL_eq] at hv ⊢; exact key _ _ hv
          | _ =>
            simp only [vop, evV_eq, evL_eq] at hv ⊢
            split at hv
            · exact key _ _ hv
            · exact hv.elim
      | _ => cases hc
    | _ => cases hc
  · replace hc : isCallF op = false := by simpa using hc
    by_cases hcv : ∃ t u x, op = .convert t u x ∧ isU8s P u = true
    · obtain ⟨t, u, x, rfl, hu⟩ := hcv
      simp only [vop, memOp, hu, vm, evV_eq] at hv ⊢
      split at hv
      · obtain ⟨h1, hv2⟩ := tt_out hv
        obtain ⟨h2, h3, h4⟩ := hv2
        refine ⟨h3.symm, fun mem2 => ?_⟩
        simp only [h1]
        exact ⟨h2, trivial, h4⟩
      · exact hv.elim
    · have hq := kd_quiet (P := P) (op := op) (pu := pu) (by omega) hc (fun t u x e => by cases hu : isU8s P u with | false => rfl | true => exact absurd ⟨t, u, x, e, hu⟩ hcv)
      rw [vop_plain hc, hq] at hv
      have hnm : ∀ mem2 K, vq P fr mem op K = vq P fr mem2 op K := by
        intro mem2 K
        cases op <;> simp only [kd] at h <;> first | rfl | omega | skip
        case convert t u x =>
          cases hu : isU8s P u with
          | true => exact absurd ⟨t, u, x, rfl, hu⟩ hcv
          | false => rw [hu] at h; simp at h
      obtain ⟨u, h1, h2, h3⟩ := vq_nice.det hv
      refine ⟨h2.symm, fun mem2 => ?_⟩
      rw [vop_plain hc, hq]
      have : vq P fr mem op (fun v' => v' = v) := vq_nice.mono (fun v' h => h.2) hv
      rw [hnm mem2] at this
      exact vq_nice.mono (fun v' h => ⟨rfl, h⟩) this
theorem ldV_app {sh : Option (Bool × Nat)} {v : AV} {l : List Res} {K : AV → Prop} (h : ldV sh v mem K) : ldV sh v (mem ++ l) K := by
  cases v with
  | adr c => exact h
  | box id off => exact nthK_app h
  | elt id g sz i o => exact nthK_app h
  | _ => exact h
theorem rowsK_app {v : AV} {l : List Res} {K : Nat → List (List AV) → Prop} (h : rowsK v mem K) : rowsK v (mem ++ l) K := by
  cases v with
  | sl => exact h
  | arr => exact nthK_app h
  | _ => exact h
theorem convV_app {t u : TypeId} {v : AV} {l : List Res} {K : AV → Prop} (h : convV P t u v mem K) : convV P t u v (mem ++ l) K := by
  cases v with
  | v x => cases x <;> exact h
  | arr id g n =>
    obtain ⟨g1, g2⟩ := tt_out h
    obtain ⟨g3, g4⟩ := tt_out g2
    show tt (isStr P u) (tt (isU8s P t) (rowsK (.arr id g n) (mem ++ l) fun _ rows => StopBytes rows K))
    rw [g1, g3]
    exact rowsK_app g4
  | _ => exact h
theorem lookV_app {t : TypeId} {v k : AV} {ok : Bool} {l : List Res} {K : AV → Prop} (h : lookV P t v k ok mem K) : lookV P t v k ok (mem ++ l) K := by
  cases v with
  | map => exact nthK_app h
  | _ => exact h
theorem idxV_app {t : TypeId} {v i : AV} {l : List Res} {K : AV → Prop} (h : idxV P t mem v i K) : idxV P t (mem ++ l) v i K := by
  unfold idxV at *
  split at h
  · split at h
    · exact h
    · split at h
      · exact nthK_app h
      · exact h.elim
    · exact h
    · exact h
    · exact h.elim
  · exact h.elim
/-- It looks, and leaves memory alone. -/
theorem kd1 (h : kd P pu op = 1) {m : List Res} {v : AV} (hv : vop P mt pu fr mem op (fun m' v' => m' = m ∧ v' = v)) : m = mem ∧ ∀ l, vop P mt pu fr (mem ++ l) op (fun m' v' => m' = mem ++ l ∧ v' = v) := by
  have hc : isCallF op = false := by
    cases op with
    | call c =>
      obtain ⟨callee, args, ats⟩ := c
      cases callee with
      | value => cases pu <;> simp [kd] at h
      | _ => rfl
    | _ => rfl
  have hq := kd_quiet (P := P) (op := op) (pu := pu) (by omega) hc (fun t u x e => by subst e; simp only [kd] at h; cases hu : isU8s P u with | false => rfl | true => rw [hu] at h; simp at h)
  rw [vop_plain hc, hq] at hv
  obtain ⟨u, h1, h2, h3⟩ := vq_nice.det hv
  refine ⟨h2.symm, fun l => ?_⟩
  rw [vop_plain hc, hq]
  have : vq P fr mem op (fun v' => v' = v) := vq_nice.mono (fun v' h => h.2) hv
  have happ : vq P fr (mem ++ l) op (fun v' => v' = v) := by
    cases op <;> simp only [kd] at h <;> first | omega | skip
    case load t p => simp only [vq, evV_eq] at this ⊢; exact ldV_app this
    case lookup t x y ok => simp only [vq, evV_eq] at this ⊢; exact lookV_app this
    case indexAddr t x y => simp only [vq, evV_eq] at this ⊢; exact idxV_app this
    case convert t u x =>
      simp only [vq, evV_eq] at this ⊢
      exact convV_app this
    case binOp o t x y z => cases hs : isSl P t <;> rw [hs] at h <;> simp at h
    case call c =>
      obtain ⟨callee, args, ats⟩ := c
      cases callee with
      | builtin b => cases b <;> simp at h
      | value => cases hc
      | _ => simp at h
  exact vq_nice.mono (fun v' h => ⟨rfl, h⟩) happ
/-- It makes more memory. -/
theorem kd2 (h : kd P pu op = 2) {m : List Res} {v : AV} (hv : vop P mt pu fr mem op (fun m' v' => m' = m ∧ v' = v)) : ∃ l, m = mem ++ l := by
  have hns : ∀ {t e sz free rows n}, newSl mt t e sz mem free rows n (fun m' v' => m' = m ∧ v' = v) → ∃ l, m = mem ++ l := by
    intro t e sz free rows n hq
    unfold newSl at hq
    split at hq
    · split at hq <;> exact ⟨_, hq.1.symm⟩
    · split at hq
      · exact ⟨_, (tt_out hq).2.1.symm⟩
      · exact ⟨_, hq.1.symm⟩
  cases op <;> simp only [kd] at h <;> first | omega | skip
  case box t x =>
    simp only [vop, memOp, vm, evV_eq] at hv
    obtain ⟨l, _, h1, _⟩ := cellsK_out hv
    exact ⟨_, h1.symm⟩
  case alloc t =>
    simp only [vop, memOp, vm] at hv
    split at hv
    · simp only [fz_eq] at hv
      obtain ⟨l, _, h1, _⟩ := cellsK_out hv
      exact ⟨_, h1.symm⟩
    · exact hv.elim
  case buildSlice t len parts =>
    simp only [vop, memOp, vm] at hv
    split at hv
    · simp only [fzN_eq] at hv
      obtain ⟨_, h1⟩ := tt_out hv
      obtain ⟨_, h2⟩ := tt_out h1
      obtain ⟨_, h3⟩ := tt_out h2
      obtain ⟨rs, h4, h5⟩ := rowsV_nice.det h3
      obtain ⟨_, h6⟩ := tt_out h5
      split at h6 <;> exact hns h6
    · exact hv.elim
  case makeSlice t l c =>
    simp only [vop, memOp, vm] at hv
    split at hv
    · simp only [fzN_eq, evV_eq] at hv
      obtain ⟨_, h1⟩ := tt_out hv
      obtain ⟨_, h2⟩ := tt_out h1
      split at h2
      · split at h2
        · split at h2
          · obtain ⟨_, h3⟩ := h2
            obtain ⟨_, h4⟩ := tt_out h3
            split at h4 <;> exact ⟨_, h4.1.symm⟩
          · exact h2.elim
        · exact h2.elim
      · exact h2.elim
    · exact hv.elim
  case makeMap t r =>
    simp only [vop, memOp, vm] at hv
    split at hv
    · split at hv
      · exact ⟨_, hv.1.symm⟩
      · exact hv.elim
    · exact hv.elim
  case range t x =>
    simp only [vop, memOp, vm, evV_eq] at hv
    split at hv
    · exact ⟨_, (tt_out hv).2.1.symm⟩
    · exact hv.elim
  case convert t u x => cases hu : isU8s P u <;> rw [hu] at h <;> simp at h
  case binOp o t x y z => cases hs : isSl P t <;> rw [hs] at h <;> simp at h
  case call c =>
    obtain ⟨callee, args, ats⟩ := c
    cases callee with
    | builtin b => cases b <;> simp at h
    | value => cases pu <;> simp at h
    | _ => simp at h
theorem kd_nice (h : kd P pu op ≠ 4) : Nice2 (vop P mt pu fr mem op) := by
  refine vop_nice ?_
  cases op <;> first | exact .inl rfl | skip
  rename_i o t x y z
  right
  simp only [kd] at h
  simp only [memOp]
  cases hs : isSl P t with
  | false => rfl
  | true => rw [hs] at h; simp at h
end
end Go.Proofs.Ytimfnpjcedjmiaa
