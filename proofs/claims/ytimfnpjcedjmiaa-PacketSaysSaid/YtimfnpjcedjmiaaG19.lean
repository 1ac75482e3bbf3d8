/-
  Engine G, part 19: regions: operations one behind the other, and in whatever order.
-/
import Derived.Test.YtimfnpjcedjmiaaG18
import Derived.Deep.Quiet
namespace Go.Proofs.Ytimfnpjcedjmiaa
open Go.RowKit
set_option linter.unusedSimpArgs false
set_option linter.unusedVariables false

def vput (fr : List (Nat × AV)) (d : Option Tmp) (K : AS → Prop) (mem : List Res) (v : AV) : Prop :=
  match d with
  | some t => fz v fun v => K ⟨(t, v) :: fr, mem⟩
  | none => K ⟨fr, mem⟩
def vputM (fr : List (Nat × AV)) (d : Option Tmp) (K : AS → Prop) (mem : List Res) (v : AV) : Prop := fzM mem fun mem => vput fr d K mem v
theorem vput_eq {fr : List (Nat × AV)} {d : Option Tmp} {K : AS → Prop} {mem : List Res} {v : AV} : vput fr d K mem v = K (AS.put ⟨fr, mem⟩ d v) := by
  cases d <;> simp [vput, fz_eq, AS.put]
theorem vputM_eq {fr : List (Nat × AV)} {d : Option Tmp} {K : AS → Prop} : vputM fr d K = vput fr d K := by
  funext mem v; simp [vputM, fzM_eq]
def gs (ops : Array Oper) (j : Nat) : Option Tmp := (ops[j]?).bind (·.dst)
def quietB (P : Program) (op : Op) : Bool :=
  match isCallF op with
  | true => false
  | false => match memOp P op with
    | true => false
    | false => true
def vpt (P : Program) (op : Op) (fr : List (Nat × AV)) (d : Option Tmp) (K : AS → Prop) : MK :=
  match quietB P op with
  | true => vput fr d K
  | false => vputM fr d K
theorem vpt_eq {P : Program} {op : Op} {fr : List (Nat × AV)} {d : Option Tmp} {K : AS → Prop} : vpt P op fr d K = fun mem v => K (AS.put ⟨fr, mem⟩ d v) := by
  funext mem v
  cases h : quietB P op <;> simp only [vpt, h, vputM_eq, vput_eq]
/-- One operation, by its guard. -/
def vone (P : Program) (mt : Mut) (pu : Bool) (ops : Array Oper) (o : Oper) (k : AS → Prop) (A : AS) : Prop :=
  match A with
  | ⟨fr, mem⟩ => match o.guard with
    | none => vop P mt pu fr mem o.op (vpt P o.op fr o.dst k)
    | some (j, w) => match gs ops j with
      | some t => lkK fr t fun v => match v with
        | .v (.bool b) => (b = w → vop P mt pu ((t, .v (.bool w)) :: fr) mem o.op (vpt P o.op ((t, .v (.bool w)) :: fr) o.dst k)) ∧ (b = neg w → vput ((t, .v (.bool (neg w))) :: fr) o.dst k mem (.v (.tuple #[])))
        | .v (.tuple _) => vput fr o.dst k mem (.v (.tuple #[]))
        | _ => False
      | none => False
/-- Operations, one behind the other; of which calls it is asked that they touch no memory. By the recursor: the kernel's own steps and those of the text then come to the same. -/
def vlist (P : Program) (mt : Mut) (pf : Nat → Bool) (ops : Array Oper) (i : Nat) (l : List Oper) : (AS → Prop) → AS → Prop :=
  List.rec (motive := fun _ => Nat → (AS → Prop) → AS → Prop) (fun _ K A => K A) (fun o _ ih i K A => vone P mt (pf i) ops o (ih (i + 1) K) A) l i
theorem vlist_nil {P : Program} {mt : Mut} {pf : Nat → Bool} {ops : Array Oper} {i : Nat} {K : AS → Prop} {A : AS} : vlist P mt pf ops i [] K A = K A := rfl
theorem vlist_cons {P : Program} {mt : Mut} {pf : Nat → Bool} {ops : Array Oper} {i : Nat} {o : Oper} {rest : List Oper} {K : AS → Prop} {A : AS} : vlist P mt pf ops i (o :: rest) K A = vone P mt (pf i) ops o (vlist P mt pf ops (i + 1) rest K) A := rfl

/-- Is an operation carried out, by its guard. -/
def awant (ops : Array Oper) (fr : List (Nat × AV)) (o : Oper) : Option Bool :=
  match o.guard with
  | none => some true
  | some (j, want) => match gs ops j with
    | some t => match lk fr t with
      | .v (.bool b) => some (b == want)
      | .v (.tuple _) => some false
      | _ => none
    | none => none
/-- What one operation may come to. -/
def Ex (P : Program) (mt : Mut) (pu : Bool) (ops : Array Oper) (o : Oper) (A B : AS) : Prop :=
  (awant ops A.fr o = some true ∧ vop P mt pu A.fr A.mem o.op (fun m v => B = AS.put ⟨A.fr, m⟩ o.dst v)) ∨ (awant ops A.fr o = some false ∧ B = A.put o.dst (.v (.tuple #[])))
def SameA (A B : AS) : Prop := A.mem = B.mem ∧ ∀ t, lk A.fr t = lk B.fr t
theorem SameA.refl (A : AS) : SameA A A := ⟨rfl, fun _ => rfl⟩
theorem SameA.symm {A B : AS} (h : SameA A B) : SameA B A := ⟨h.1.symm, fun t => (h.2 t).symm⟩
theorem SameA.trans {A B C : AS} (h : SameA A B) (k : SameA B C) : SameA A C := ⟨h.1.trans k.1, fun t => (h.2 t).trans (k.2 t)⟩
theorem lk_put {A : AS} {d : Option Tmp} {v : AV} {t : Nat} : lk (A.put d v).fr t = if d = some t then v else lk A.fr t := by
  cases d with
  | none => simp [AS.put]
  | some u =>
    simp only [AS.put, lk, look]
    by_cases h : u = t
    · subst h; simp
    · rw [if_neg h, if_neg (by simpa using h)]
theorem put_mem {A : AS} {d : Option Tmp} {v : AV} : (A.put d v).mem = A.mem := by cases d <;> rfl
theorem SameA.put {A B : AS} (h : SameA A B) (d : Option Tmp) (v : AV) : SameA (A.put d v) (B.put d v) :=
  ⟨by rw [put_mem, put_mem]; exact h.1, fun t => by rw [lk_put, lk_put, h.2 t]⟩
theorem SameA.put2 {fr fr' : List (Nat × AV)} (h : ∀ t, lk fr t = lk fr' t) (m : List Res) (d : Option Tmp) (v : AV) : SameA (AS.put ⟨fr, m⟩ d v) (AS.put ⟨fr', m⟩ d v) := SameA.put (A := ⟨fr, m⟩) (B := ⟨fr', m⟩) ⟨rfl, h⟩ d v
theorem awant_congr {ops : Array Oper} {fr fr' : List (Nat × AV)} {o : Oper} (h : ∀ t, t ∈ o.looksAt ops → lk fr t = lk fr' t) : awant ops fr o = awant ops fr' o := by
  unfold awant
  cases hg : o.guard with
  | none => rfl
  | some p =>
    obtain ⟨j, want⟩ := p
    simp only
    cases ht : gs ops j with
    | none => rfl
    | some t =>
      simp only
      rw [h t]
      unfold Oper.looksAt
      rw [hg]
      refine List.mem_append_right _ ?_
      simp only [gs] at ht
      show t ∈ ((ops[j]?).bind (·.dst)).toList
      rw [ht]; simp
-- an operation sees its operands alone
theorem evO_congr {fr fr' : List (Nat × AV)} {x : Operand} (h : ∀ t, x = .tmp t → lk fr t = lk fr' t) : evO fr x = evO fr' x := by
  cases x with
  | tmp t => exact h t rfl
  | _ => rfl
theorem evL_congr {fr fr' : List (Nat × AV)} {l : List Operand} {K : List AV → Prop} (h : ∀ x ∈ l, evO fr x = evO fr' x) : evL fr l K = evL fr' l K := by
  rw [evL_eq, evL_eq, List.map_congr_left h]
theorem bldV_congr {pl : Nat → Option (Nat × Bool × Nat)} {fr fr' : List (Nat × AV)} : ∀ {ps : List (Nat × Operand)} {l : List AV} {K : List AV → Prop}, (∀ p ∈ ps, evO fr p.2 = evO fr' p.2) → bldV pl fr ps l K = bldV pl fr' ps l K
  | [], l, K, h => rfl
  | (i, x) :: ps, l, K, h => by
    simp only [bldV, evV_eq]
    rw [h (i, x) (List.mem_cons_self ..)]
    congr 1
    funext c
    split
    · congr 2
      rw [fzL_eq, fzL_eq]
      exact bldV_congr (fun p hp => h p (List.mem_cons_of_mem _ hp))
    · rfl
theorem boundV_congr {fr fr' : List (Nat × AV)} {x : Option Operand} {K : Option Int → Prop} (h : ∀ y, x = some y → evO fr y = evO fr' y) : boundV fr x K = boundV fr' x K := by
  unfold boundV
  cases x with
  | none => rfl
  | some y => simp only [evV_eq, h y rfl]
theorem rowsV_congr {sz : Nat} {fr fr' : List (Nat × AV)} : ∀ {l : List (Nat × Operand)} {i : Nat} {K : List (List AV) → Prop}, (∀ p ∈ l, evO fr p.2 = evO fr' p.2) → rowsV sz fr i l K = rowsV sz fr' i l K
  | [], i, K, h => rfl
  | (j, x) :: l, i, K, h => by
    simp only [rowsV, evV_eq, fzL_eq]
    rw [h (j, x) (List.mem_cons_self ..)]
    congr 2
    funext c
    congr 1
    exact rowsV_congr (fun p hp => h p (List.mem_cons_of_mem _ hp))
theorem vq_congr {P : Program} {fr fr' : List (Nat × AV)} {mem : List Res} {op : Op} {K : AV → Prop} (h : ∀ x ∈ op.operands, evO fr x = evO fr' x) : vq P fr mem op K = vq P fr' mem op K := by
  cases op <;> simp only [vq, evV_eq, Op.operands] at h ⊢
  case pick c x y => rw [h c (by simp), h x (by simp), h y (by simp)]
  case build t parts => exact congrArg (zeroV P t) (funext fun l => bldV_congr (fun p hp => h p.2 (by simp; exact ⟨p.1, by simpa using hp⟩)))
  case binOp op t x y yt => rw [h x (by simp), h y (by simp)]
  case indexAddr t x y => rw [h x (by simp), h y (by simp)]
  case index t x y => rw [h x (by simp), h y (by simp)]
  case lookup t x y ok => rw [h x (by simp), h y (by simp)]
  case slice t x lo hi mx =>
    cases mx with
    | some y => rfl
    | none =>
      simp only
      rw [h x (by simp)]
      have e1 : ∀ K, boundV fr lo K = boundV fr' lo K := fun K => boundV_congr fun y hy => h y (by simp [hy])
      have e2 : ∀ K, boundV fr hi K = boundV fr' hi K := fun K => boundV_congr fun y hy => h y (by simp [hy])
      rw [e1]
      congr 1
      funext l
      exact e2 _
  case makeFunc fn first caps =>
    cases fn <;> simp only
    congr 1
    exact evL_congr fun x hx => h x (by simp; exact .inr (by simpa using hx))
  case call c =>
    obtain ⟨callee, args, ats⟩ := c
    cases callee with
    | builtin b =>
      cases b <;> simp only
      all_goals exact evL_congr fun x hx => h x (by simp [Call.operands]; simpa using hx)
    | _ => rfl
  all_goals first | rfl | (rw [h _ (by simp)])
theorem vm_congr {P : Program} {mt : Mut} {fr fr' : List (Nat × AV)} {mem : List Res} {op : Op} {K : MK} (h : ∀ x ∈ op.operands, evO fr x = evO fr' x) : vm P mt fr mem op K = vm P mt fr' mem op K := by
  cases op <;> simp only [vm, evV_eq, Op.operands] at h ⊢
  case store t p x => rw [h p (by simp), h x (by simp)]
  case buildSlice t len parts =>
    split
    · simp only [fzN_eq]
      congr 3
      exact rowsV_congr (fun p hp => h p.2 (by simp; exact ⟨p.1, by simpa using hp⟩))
    · rfl
  case makeSlice t l c => rw [h l (by simp), h c (by simp)]
  case mapUpdate t m k x => rw [h m (by simp), h k (by simp), h x (by simp)]
  case binOp op t x y yt => rw [h x (by simp), h y (by simp)]
  case call c =>
    obtain ⟨callee, args, ats⟩ := c
    cases callee with
    | builtin b =>
      have hh : ∀ x ∈ args.toList, evO fr x = evO fr' x := fun x hx => h x (by simp [Call.operands]; simpa using hx)
      cases b <;> simp only
      case append =>
        unfold appCall
        split
        · rename_i x y e
          rw [e] at hh
          split
          · split
            · simp only [fzN_eq, fzB_eq, evV_eq]
              rw [hh x (by simp), hh y (by simp)]
            · rfl
          · rfl
        · rfl
      case delete =>
        unfold delCall
        split
        · rename_i x y e
          rw [e] at hh
          split
          · simp only [evV_eq]
            rw [hh x (by simp), hh y (by simp)]
          · rfl
        · rfl
      case clear =>
        unfold clrCall
        split
        · rename_i x e
          rw [e] at hh
          split
          · simp only [evV_eq]
            rw [hh x (by simp)]
          · rfl
        · rfl
    | _ => rfl
  all_goals first | rfl | (rw [h _ (by simp)])
theorem vop_congr {P : Program} {mt : Mut} {pu : Bool} {fr fr' : List (Nat × AV)} {mem : List Res} {op : Op} {K : MK} (h : ∀ x ∈ op.operands, evO fr x = evO fr' x) : vop P mt pu fr mem op K = vop P mt pu fr' mem op K := by
  by_cases hc : isCallF op = true
  · cases op with
    | call c =>
      obtain ⟨callee, args, ats⟩ := c
      cases callee with
      | value x =>
        have ha : ∀ K, evL fr args.toList K = evL fr' args.toList K := fun K => evL_congr fun y hy => h y (by simp [Op.operands, Call.operands]; exact .inr (by simpa using hy))
        have hx := h x (by simp [Op.operands, Call.operands])
        cases x <;> simp only [vop, evV_eq, ha, hx]
      | _ => cases hc
    | _ => cases hc
  · rw [vop_plain (by simpa using hc), vop_plain (by simpa using hc)]
    split
    · exact vm_congr h
    · exact vq_congr h
end Go.Proofs.Ytimfnpjcedjmiaa
