/-
  Engine G, part 18: one operation; operations one behind the other.
-/
import Derived.Test.YtimfnpjcedjmiaaG17
namespace Go.Proofs.Ytimfnpjcedjmiaa
open Go.RowKit
set_option linter.unusedSimpArgs false
set_option linter.unusedVariables false

/-- A call: by a contract. -/
inductive StopCall (P : Program) (f : FuncId) (l : List AV) (mem : List Res) (K : MK) : Prop
  | mk (args : List AV) (m : List Res) (r : AV) (m' : List Res) (ρ : List Nat) (hF : Fn P f args m r m') (h0 : gen0 m = true) (hnd : decide (ρ.Nodup) = true) (hle : Nat.ble m.length m'.length = true) (hM : RM mem m ρ ρ m) (hA : RKL1 mem m ρ l args) (k : K (memCall mem ρ m') (avCall mem ρ m' r)) : StopCall P f l mem K
theorem StopCall.nice {P : Program} {f : FuncId} {l : List AV} {mem : List Res} : Nice2 (StopCall P f l mem) :=
  ⟨fun k ⟨args, m, r, m', ρ, hF, h0, hnd, hle, hM, hA, h⟩ => ⟨args, m, r, m', ρ, hF, h0, hnd, hle, hM, hA, k _ h⟩, fun ⟨args, m, r, m', ρ, hF, h0, hnd, hle, hM, hA, h⟩ => ⟨_, ⟨args, m, r, m', ρ, hF, h0, hnd, hle, hM, hA, rfl⟩, h⟩⟩
/-- A call that touches no memory of the caller's own. -/
inductive StopPure (P : Program) (f : FuncId) (l : List AV) (K : AV → Prop) : Prop
  | mk (args : List AV) (r : AV) (hF : Fn P f args [] r []) (hf : r.free = true) (hA : RKL1 [] [] [] l args) (k : K r) : StopPure P f l K
theorem StopPure.nice {P : Program} {f : FuncId} {l : List AV} : Nice (StopPure P f l) :=
  ⟨fun k ⟨args, r, hF, hf, hA, h⟩ => ⟨args, r, hF, hf, hA, k _ h⟩, fun ⟨args, r, hF, hf, hA, h⟩ => ⟨_, ⟨args, r, hF, hf, hA, rfl⟩, h⟩⟩
def calV (P : Program) (pu : Bool) (mem : List Res) (f : FuncId) (l : List AV) (K : MK) : Prop :=
  match pu with
  | true => StopPure P f l (K mem)
  | false => StopCall P f l mem K
theorem calV_nice {P : Program} {pu : Bool} {mem : List Res} {f : FuncId} {l : List AV} : Nice2 (calV P pu mem f l) := by
  cases pu with
  | true => exact StopPure.nice.bind (U := fun v (K : List Res × AV → Prop) => K (mem, v)) fun v => Nice.at _
  | false => exact StopCall.nice
def appL : List AV → List AV → List AV
  | [], m => m
  | a :: l, m => a :: appL l m
theorem appL_eq : ∀ {l m : List AV}, appL l m = l ++ m
  | [], m => rfl
  | a :: l, m => by simp [appL, appL_eq]
/-- One operation. -/
def vop (P : Program) (mt : Mut) (pu : Bool) (fr : List (Nat × AV)) (mem : List Res) (op : Op) (K : MK) : Prop :=
  match op with
  | .call c => match c.callee with
    | .value (.func f) => evL fr c.args.toList fun l => calV P pu mem f l K
    | .value x => evV fr x fun v => match v with
      | .clo f caps => evL fr c.args.toList fun l => calV P pu mem f (appL l caps) K
      | _ => False
    | _ => match memOp P (.call c) with
      | true => vm P mt fr mem (.call c) K
      | false => vq P fr mem (.call c) (K mem)
  | op => match memOp P op with
    | true => vm P mt fr mem op K
    | false => vq P fr mem op (K mem)
def isCallF : Op → Bool
  | .call c => match c.callee with
    | .value _ => true
    | _ => false
  | _ => false
theorem vop_plain {P : Program} {mt : Mut} {pu : Bool} {fr : List (Nat × AV)} {mem : List Res} {op : Op} {K : MK} (h : isCallF op = false) : vop P mt pu fr mem op K = match memOp P op with
    | true => vm P mt fr mem op K
    | false => vq P fr mem op (K mem) := by
  cases op with
  | call c =>
    obtain ⟨callee, args, ats⟩ := c
    cases callee with
    | value => cases h
    | _ => rfl
  | _ => rfl
theorem vop_nice {P : Program} {mt : Mut} {pu : Bool} {fr : List (Nat × AV)} {mem : List Res} {op : Op} (h : oneOp op = true ∨ memOp P op = false) : Nice2 (vop P mt pu fr mem op) := by
  by_cases hc : isCallF op = true
  · cases op with
    | call c =>
      obtain ⟨callee, args, ats⟩ := c
      cases callee with
      | value x =>
        cases x with
        | func f => exact Nice2.congr calV_nice fun K => by simp only [vop, evL_eq]; try rfl
        | _ =>
          refine Nice2.congr ?_ fun K => by simp only [vop, evV_eq, evL_eq, appL_eq]; try rfl
          split <;> first | exact calV_nice | exact Nice2.no
      | _ => cases hc
    | _ => cases hc
  · refine Nice2.congr ?_ fun K => vop_plain (by simpa using hc)
    cases hm : memOp P op with
    | false => exact vq_nice.bind (U := fun v (K : List Res × AV → Prop) => K (mem, v)) fun v => Nice.at _
    | true => exact vm_nice (h.resolve_right (by rw [hm]; simp))

section
variable {P : Program} {n : Nat} {fp : Nat → Prop} {w0 : Start} {σ : Store} {μ : Ghost} {Ds : Nat → Nat → Prop} {A : AS} {a : Act} {w : World} {K : MK}
  {dst : Option Tmp} {ty : TypeId} {pos : String} {after : Array Edge} {guard : Option (Nat × Bool)} {Q : Exit → Act → World → Prop}
theorem RK0.nil {m m' : List Res} {a b : AV} (h : RK0 [] [] [] a b) : RK0 m m' [] a b := by
  unfold RK0 at *
  split at h <;> first | exact h | (split at h <;> first | exact h | exact h.elim | (obtain ⟨h1, _⟩ := tt_out h; simp [isN, rnO] at h1))
theorem RKL0.nil {m m' : List Res} : ∀ {l k : List AV}, RKL0 [] [] [] l k → RKL0 m m' [] l k
  | [], [], _ => trivial
  | [], _ :: _, h => h.elim
  | _ :: _, [], h => h.elim
  | a :: l, b :: k, h => ⟨h.1.nil, RKL0.nil h.2⟩
theorem RK1.nil {m m' : List Res} {a b : AV} (h : RK1 [] [] [] a b) : RK1 m m' [] a b := by
  unfold RK1 at *
  split at h
  · split at h <;> first | exact h.nil | exact h.elim
  · split at h
    · obtain ⟨h1, h2⟩ := tt_out h
      simp only [h1]
      exact h2.nil
    · exact h.elim
  · exact h.nil
theorem RKL1.nil {m m' : List Res} : ∀ {l k : List AV}, RKL1 [] [] [] l k → RKL1 m m' [] l k
  | [], [], _ => trivial
  | [], _ :: _, h => h.elim
  | _ :: _, [], h => h.elim
  | a :: l, b :: k, h => ⟨h.1.nil, RKL1.nil h.2⟩
theorem rhoG_nil {m : List Res} : rhoG m m.length 0 [] = [] := rfl
theorem memCall_nil {m : List Res} : memCall m [] [] = m := by simp [memCall, setsM, renRs]
theorem ren0_free {g : List (Nat × Nat)} {v : AV} (h : v.free0 = true) : ren0 g v = v := by
  unfold ren0
  split <;> first | rfl | (simp [AV.free0] at h)
theorem ren1_free {g : List (Nat × Nat)} {v : AV} (h : v.free1 = true) : ren1 g v = v := by
  cases v with
  | agg l =>
    simp only [ren1, ren0L_eq, AV.agg.injEq]
    have : ∀ x ∈ l, ren0 g x = x := fun x hx => ren0_free (List.all_eq_true.1 h x hx)
    rw [List.map_congr_left this]; simp
  | clo f l => simp [AV.free1, AV.free0] at h
  | _ => exact ren0_free (g := g) (by simpa [AV.free1] using h)
theorem ren_free {g : List (Nat × Nat)} {v : AV} (h : v.free = true) : ren g v = v := by
  cases v with
  | tup l =>
    simp only [ren, ren1L_eq, AV.tup.injEq]
    have : ∀ x ∈ l, ren1 g x = x := fun x hx => ren1_free (List.all_eq_true.1 h x hx)
    rw [List.map_congr_left this]; simp
  | _ => exact ren1_free (g := g) (by simpa [AV.free] using h)
/-- A call in a walk. -/
theorem cal_sound (h : Rel n fp w0 σ μ Ds A a w) {pu : Bool} {f : FuncId} {o : Oper} {vs : Array Value} {l : List AV} (hrun : Enters P f → (execOp a.eval o).run P w = .ok (.enter f vs) w) (hl : vs.size = l.length) (hvs : ∀ (i : Nat) (av : AV) (x : Value), l[i]? = some av → vs[i]? = some x → RepV σ μ av x)
    (hq : calV P pu A.mem f l K) : o.wp P a w (MPost n fp w0 A a o.dst K) Q := by
  cases pu with
  | false =>
    obtain ⟨args, m, r, m', ρ, hF, h0, hnd, hle, hM, hA, hK⟩ := hq
    unfold Oper.wp
    rw [hrun hF.1, Oper.upon_enter]
    refine (call_sound h hF h0 (of_decide_eq_true hnd) hM hA (Nat.le_of_ble_eq_true hle) hl hvs).mono ?_
    rintro e w' ⟨x, σ', μ', Ds', rfl, hx, hrel⟩
    exact ⟨_, _, x, σ', μ', Ds', rfl, hx, hrel, hK⟩
  | true =>
    obtain ⟨args, r, hF, hf, hA, hK⟩ := hq
    unfold Oper.wp
    rw [hrun hF.1, Oper.upon_enter]
    refine (call_sound h hF rfl List.nodup_nil trivial hA.nil (Nat.le_refl _) hl hvs).mono ?_
    rintro e w' ⟨x, σ', μ', Ds', rfl, hx, hrel⟩
    rw [memCall_nil] at hrel
    rw [avCall, ren_free hf] at hx
    exact ⟨_, _, x, σ', μ', Ds', rfl, hx, hrel, hK⟩
theorem vop_sound (h : Rel n fp w0 σ μ Ds A a w) {mt : Mut} {pu : Bool} {op : Op} (hq : vop P mt pu A.fr A.mem op K) : Oper.wp P ⟨dst, op, ty, pos, after, guard⟩ a w (MPost n fp w0 A a dst K) Q := by
  have hargs : ∀ (args : Array Operand) (i : Nat) (av : AV) (x : Value), (args.toList.map (evO A.fr))[i]? = some av → (args.map a.eval)[i]? = some x → RepV σ μ av x := by
    intro args i av x h1 h2
    simp only [List.getElem?_map, Option.map_eq_some_iff, Array.getElem?_toList] at h1
    obtain ⟨y, hy, rfl⟩ := h1
    simp only [Array.getElem?_map, hy, Option.map_some, Option.some.injEq] at h2
    subst h2
    exact h.ev y
  have henter : ∀ {f : FuncId} {vs : Array Value}, Enters P f → (callFunc f vs).run P w = .ok (.enter f vs) w := by
    rintro f vs ⟨fn, hf1, hf2, hf3⟩
    have hf2' : ¬ fn.body = none := by intro e; rw [e] at hf2; cases hf2
    have hf3' : ¬ fn.name = "runtime.NumGoroutine" := by simpa using hf3
    simp [callFunc, program, hf1, hf2', hf3', Sem.run_bind, Sem.run, Result.andThen_ok, pure, Sem.run_pure]
  by_cases hc : isCallF op = true
  · cases op with
    | call c =>
      obtain ⟨callee, args, ats⟩ := c
      cases callee with
      | value x =>
        have plain : ∀ f, a.eval x = .func (.func f) #[] #[] → calV P pu A.mem f (args.toList.map (evO A.fr)) K → Oper.wp P ⟨dst, .call ⟨.value x, args, ats⟩, ty, pos, after, guard⟩ a w (MPost n fp w0 A a dst K) Q := by
          intro f hx hq
          refine cal_sound h (vs := args.map a.eval) (fun he => ?_) (by simp) (hargs args) hq
          have : (execOp a.eval ⟨dst, .call ⟨.value x, args, ats⟩, ty, pos, after, guard⟩) = callFunc f (args.map a.eval) := by
            simp [execOp, resolve, hx, Deferred.ofValue, invoke, pure, Bind.bind, Sem.bind]
          rw [this]; exact henter he
        have clos : ∀ f caps, evO A.fr x = .clo f caps → calV P pu A.mem f (args.toList.map (evO A.fr) ++ caps) K → Oper.wp P ⟨dst, .call ⟨.value x, args, ats⟩, ty, pos, after, guard⟩ a w (MPost n fp w0 A a dst K) Q := by
          intro f caps hx hq
          have hv := h.ev x
          rw [hx] at hv
          obtain ⟨cs, hcs, hl, hr⟩ := hv.inv_clo
          refine cal_sound h (vs := args.map a.eval ++ cs) (fun he => ?_) (by simp [hl]) (fun i av y h1 h2 => ?_) hq
          · have : (execOp a.eval ⟨dst, .call ⟨.value x, args, ats⟩, ty, pos, after, guard⟩) = callFunc f (args.map a.eval ++ cs) := by
              simp [execOp, resolve, hcs, Deferred.ofValue, invoke, pure, Bind.bind, Sem.bind]
            rw [this]; exact henter he
          · rw [List.getElem?_append] at h1
            rw [Array.getElem?_append] at h2
            simp only [List.length_map, Array.length_toList, Array.size_map] at h1 h2
            split at h1
            · rename_i hlt
              rw [if_pos hlt] at h2
              exact hargs args i av y h1 h2
            · rename_i hge
              rw [if_neg hge] at h2
              exact hr _ av y h1 h2
        cases x with
        | func f =>
          simp only [vop, evL_eq] at hq
          exact plain f rfl hq
        | _ =>
          simp only [vop, evV_eq, evL_eq, appL_eq] at hq
          split at hq
          · rename_i f caps e; exact clos f caps e hq
          · exact hq.elim
      | _ => cases hc
    | _ => cases hc
  · rw [vop_plain (by simpa using hc)] at hq
    split at hq
    · exact vm_sound h hq
    · obtain ⟨x, av, h1, h2, h3⟩ := vq_sound (dst := dst) (ty := ty) (pos := pos) (after := after) (guard := guard) h hq
      exact mop_val h1 h h2 h3
end
end Go.Proofs.Ytimfnpjcedjmiaa
