/-
  Engine G, extensions: regions that draw their order, by plans.
-/
import Derived.Test.YtimfnpjcedjmiaaGF
namespace Go.Proofs.Ytimfnpjcedjmiaa
open Go.RowKit
set_option linter.unusedSimpArgs false
set_option linter.unusedVariables false
/-- In which order operations are looked at; where two of them may not be turned about, both orders are. -/
inductive Pl where
  | done
  | op (i : Nat) (r : Pl)
  | br (i : Nat) (a : Pl) (j : Nat) (b : Pl)
  | b3 (i : Nat) (a : Pl) (j : Nat) (b : Pl) (k : Nat) (c : Pl)
def findP : List (Nat × Pl) → Nat → Option Pl
  | [], _ => none
  | (i, c) :: l, j => match Nat.beq i j with
    | true => some c
    | false => findP l j
def vplan (P : Program) (mt : Mut) (ops : Array Oper) (pl : Pl) : (AS → Prop) → AS → Prop :=
  Pl.rec (motive := fun _ => (AS → Prop) → AS → Prop) (fun K A => K A)
    (fun i _ ir K A => nthK ops.toList i fun o => vone P mt false ops o (ir K) A)
    (fun i _ j _ ia ib K A => (nthK ops.toList i fun o => vone P mt false ops o (ia K) A) ∧ nthK ops.toList j fun o => vone P mt false ops o (ib K) A)
    (fun i _ j _ k _ ia ib ic K A => (nthK ops.toList i fun o => vone P mt false ops o (ia K) A) ∧ (nthK ops.toList j fun o => vone P mt false ops o (ib K) A) ∧ nthK ops.toList k fun o => vone P mt false ops o (ic K) A) pl
def safeP (P : Program) (ops : Array Oper) (b : List Nat) (listed : Array Bool) (i : Nat) : Bool :=
  (List.range ops.size).all fun j => j == i || listed.getD j true || anc b j i || (match ops[i]?, ops[j]? with
    | some oi, some oj => oi.apart ops oj && okPair (kd P false oi.op) (kd P false oj.op)
    | _, _ => true)
def planOk (P : Program) (ops : Array Oper) (b : List Nat) : Pl → Nat → Array Bool → Bool
  | .done, _, listed => (Region.ready .any ops listed).isEmpty
  | .op i r, n, listed => match n with
    | 0 => false
    | n + 1 => (Region.ready .any ops listed).contains i && safeP P ops b listed i && planOk P ops b r n (listed.setIfInBounds i true)
  | .br i a j c, n, listed => match n with
    | 0 => false
    | n + 1 => (Region.ready .any ops listed).contains i && (Region.ready .any ops listed).all (fun k => k == i || k == j) && planOk P ops b a n (listed.setIfInBounds i true) && planOk P ops b c n (listed.setIfInBounds j true)
  | .b3 i a j c l d, n, listed => match n with
    | 0 => false
    | n + 1 => (Region.ready .any ops listed).contains i && (Region.ready .any ops listed).all (fun k => k == i || k == j || k == l) && planOk P ops b a n (listed.setIfInBounds i true) && planOk P ops b c n (listed.setIfInBounds j true) && planOk P ops b d n (listed.setIfInBounds l true)
def planReg (P : Program) (ops : Array Oper) (pl : Pl) : Bool :=
  ((List.range ops.size).all fun i => match ops[i]? with
    | some o => kd P false o.op != 4
    | none => true) && planOk P ops (bef ops) pl ops.size (Array.replicate ops.size false)
section
variable {P : Program} {mt : Mut} {ops : Array Oper}
theorem step_ex {o : Oper} {K : AS → Prop} {A B : AS} (hnk : kd P false o.op ≠ 4) (hs : SameA A B) (h : vone P mt false ops o K A) : ∃ C B', Ex P mt false ops o B B' ∧ SameA C B' ∧ K C := by
  have h' : vlist P mt (fun _ => false) ops 0 [o] K A := h
  obtain ⟨fr', hfr, hv⟩ := vlist_head h'
  rcases hv with ⟨hw, hv⟩ | ⟨hw, hv⟩
  · obtain ⟨m, v, h1, h2⟩ := (kd_nice hnk).det2 hv
    refine ⟨_, AS.put ⟨B.fr, m⟩ o.dst v, .of hnk rfl (.inl ⟨?_, ?_⟩), SameA.put2 (fun t => (hfr t).trans (hs.2 t)) m o.dst v, h2⟩
    · rw [← awant_congr (ops := ops) (o := o) fun t _ => hs.2 t]; exact hw
    · rw [← hs.1, ← vop_congr (fr := fr') fun x _ => evO_congr fun t _ => (hfr t).trans (hs.2 t)]; exact h1
  · refine ⟨_, B.put o.dst (.v (.tuple #[])), .inr ⟨?_, rfl⟩, ?_, hv⟩
    · rw [← awant_congr (ops := ops) (o := o) fun t _ => hs.2 t]; exact hw
    · exact SameA.put (A := ⟨fr', A.mem⟩) (B := B) ⟨hs.1, fun t => (hfr t).trans (hs.2 t)⟩ _ _
theorem closed_ready {listed : Array Bool} {i : Nat} (h : (Region.ready .any ops listed).contains i = true) : i ∈ Region.ready .any ops listed := by simpa using h
theorem plan_aAny {Q : AS → Prop} (hQ : ∀ A B, SameA A B → Q A → Q B) (hn : ∀ (i : Nat) (o : Oper), ops[i]? = some o → kd P false o.op ≠ 4) :
    ∀ (pl : Pl) (n : Nat) (listed : Array Bool) (A B : AS), SameA A B → Closed ops listed → planOk P ops (bef ops) pl n listed = true → vplan P mt ops pl Q A → aAny P mt (fun _ => false) ops Q n listed B
  | .done, n, listed, A, B, hs, hcl, hok, h => by
    have hr : Region.ready .any ops listed = [] := by
      unfold planOk at hok
      exact List.isEmpty_iff.1 hok
    cases n with
    | zero => exact ⟨hr, hQ A B hs h⟩
    | succ n => exact ⟨fun _ => hQ A B hs h, fun i hi => by rw [hr] at hi; cases hi⟩
  | .op i r, n, listed, A, B, hs, hcl, hok, h => by
    cases n with
    | zero => simp [planOk] at hok
    | succ n =>
      simp only [planOk, Bool.and_eq_true] at hok
      obtain ⟨⟨h1, h2⟩, h3⟩ := hok
      have hr := closed_ready h1
      obtain ⟨o, ho, hv⟩ := nthK_out (show nthK ops.toList i (fun o => vone P mt false ops o (vplan P mt ops r Q) A) from h)
      have ho' : ops[i]? = some o := by simpa using ho
      obtain ⟨C, B', hE, hsC, hK⟩ := step_ex (hn i o ho') hs hv
      refine aAny_first hQ hn ho' n listed B B' hcl (fun j oj hj hne hun hno => ?_) hr hE (plan_aAny hQ hn r n _ C B' hsC (hcl.step hr) h3 hK)
      simp only [safeP, List.all_eq_true, List.mem_range, Bool.or_eq_true] at h2
      rcases h2 j (Array.getElem?_eq_some_iff.1 hj).1 with ((g | g) | g) | g
      · exact absurd (by simpa using g) hne
      · rw [hun] at g; cases g
      · exact absurd (anc_out g) hno
      · rw [ho', hj] at g
        simpa [Bool.and_eq_true] using g
  | .br i a j b, n, listed, A, B, hs, hcl, hok, h => by
    cases n with
    | zero => simp [planOk] at hok
    | succ n =>
      simp only [planOk, Bool.and_eq_true] at hok
      obtain ⟨⟨⟨h1, h2⟩, h3⟩, h4⟩ := hok
      have hr := closed_ready h1
      refine ⟨fun e => (by rw [e] at hr; cases hr), fun k hk => ?_⟩
      have hk2 := List.all_eq_true.1 h2 k hk
      simp only [Bool.or_eq_true, beq_iff_eq] at hk2
      have hA := (show (nthK ops.toList i fun o => vone P mt false ops o (vplan P mt ops a Q) A) ∧ nthK ops.toList j fun o => vone P mt false ops o (vplan P mt ops b Q) A from h)
      rcases hk2 with rfl | rfl
      · obtain ⟨o, ho, hv⟩ := nthK_out hA.1
        have ho' : ops[k]? = some o := by simpa using ho
        obtain ⟨C, B', hE, hsC, hK⟩ := step_ex (hn k o ho') hs hv
        unfold qOp
        simp only [ho']
        exact ⟨B', hE, plan_aAny hQ hn a n _ C B' hsC (hcl.step hk) h3 hK⟩
      · obtain ⟨o, ho, hv⟩ := nthK_out hA.2
        have ho' : ops[k]? = some o := by simpa using ho
        obtain ⟨C, B', hE, hsC, hK⟩ := step_ex (hn k o ho') hs hv
        unfold qOp
        simp only [ho']
        exact ⟨B', hE, plan_aAny hQ hn b n _ C B' hsC (hcl.step hk) h4 hK⟩
  | .b3 i a j b l c, n, listed, A, B, hs, hcl, hok, h => by
    cases n with
    | zero => simp [planOk] at hok
    | succ n =>
      simp only [planOk, Bool.and_eq_true] at hok
      obtain ⟨⟨⟨⟨h1, h2⟩, h3⟩, h4⟩, h5⟩ := hok
      have hr := closed_ready h1
      refine ⟨fun e => (by rw [e] at hr; cases hr), fun k hk => ?_⟩
      have hk2 := List.all_eq_true.1 h2 k hk
      simp only [Bool.or_eq_true, beq_iff_eq] at hk2
      have hA := (show (nthK ops.toList i fun o => vone P mt false ops o (vplan P mt ops a Q) A) ∧ (nthK ops.toList j fun o => vone P mt false ops o (vplan P mt ops b Q) A) ∧ nthK ops.toList l fun o => vone P mt false ops o (vplan P mt ops c Q) A from h)
      rcases hk2 with (rfl | rfl) | rfl
      · obtain ⟨o, ho, hv⟩ := nthK_out hA.1
        have ho' : ops[k]? = some o := by simpa using ho
        obtain ⟨C, B', hE, hsC, hK⟩ := step_ex (hn k o ho') hs hv
        unfold qOp
        simp only [ho']
        exact ⟨B', hE, plan_aAny hQ hn a n _ C B' hsC (hcl.step hk) h3 hK⟩
      · obtain ⟨o, ho, hv⟩ := nthK_out hA.2.1
        have ho' : ops[k]? = some o := by simpa using ho
        obtain ⟨C, B', hE, hsC, hK⟩ := step_ex (hn k o ho') hs hv
        unfold qOp
        simp only [ho']
        exact ⟨B', hE, plan_aAny hQ hn b n _ C B' hsC (hcl.step hk) h4 hK⟩
      · obtain ⟨o, ho, hv⟩ := nthK_out hA.2.2
        have ho' : ops[k]? = some o := by simpa using ho
        obtain ⟨C, B', hE, hsC, hK⟩ := step_ex (hn k o ho') hs hv
        unfold qOp
        simp only [ho']
        exact ⟨B', hE, plan_aAny hQ hn c n _ C B' hsC (hcl.step hk) h5 hK⟩
theorem vone_mono {o : Oper} {K K' : AS → Prop} {A : AS} (hnk : kd P false o.op ≠ 4) (hk : ∀ B, K B → K' B) (h : vone P mt false ops o K A) : vone P mt false ops o K' A := by
  obtain ⟨fr, mem⟩ := A
  simp only [vone, vpt_eq, vput_eq] at h ⊢
  split at h
  · exact (kd_nice hnk).mono2 (fun m v hv => hk _ hv) h
  · split at h
    · simp only [lkK_eq] at h ⊢
      split at h
      · exact ⟨fun hb => (kd_nice hnk).mono2 (fun m v hv => hk _ hv) (h.1 hb), fun hb => hk _ (h.2 hb)⟩
      · exact hk _ h
      · exact h.elim
    · exact h.elim
theorem vplan_mono (hn : ∀ (i : Nat) (o : Oper), ops[i]? = some o → kd P false o.op ≠ 4) {K K' : AS → Prop} (hk : ∀ B, K B → K' B) : ∀ (pl : Pl) (A : AS), vplan P mt ops pl K A → vplan P mt ops pl K' A
  | .done, A, h => hk A h
  | .op i r, A, h => by
    obtain ⟨o, ho, hv⟩ := nthK_out (show nthK ops.toList i (fun o => vone P mt false ops o (vplan P mt ops r K) A) from h)
    exact nthK_of ho (vone_mono (hn i o (by simpa using ho)) (fun B hB => vplan_mono hn hk r B hB) hv)
  | .br i a j b, A, h => by
    have hA := (show (nthK ops.toList i fun o => vone P mt false ops o (vplan P mt ops a K) A) ∧ nthK ops.toList j fun o => vone P mt false ops o (vplan P mt ops b K) A from h)
    obtain ⟨o, ho, hv⟩ := nthK_out hA.1
    obtain ⟨o2, ho2, hv2⟩ := nthK_out hA.2
    exact ⟨nthK_of ho (vone_mono (hn i o (by simpa using ho)) (fun B hB => vplan_mono hn hk a B hB) hv), nthK_of ho2 (vone_mono (hn j o2 (by simpa using ho2)) (fun B hB => vplan_mono hn hk b B hB) hv2)⟩
  | .b3 i a j b l c, A, h => by
    have hA := (show (nthK ops.toList i fun o => vone P mt false ops o (vplan P mt ops a K) A) ∧ (nthK ops.toList j fun o => vone P mt false ops o (vplan P mt ops b K) A) ∧ nthK ops.toList l fun o => vone P mt false ops o (vplan P mt ops c K) A from h)
    obtain ⟨o, ho, hv⟩ := nthK_out hA.1
    obtain ⟨o2, ho2, hv2⟩ := nthK_out hA.2.1
    obtain ⟨o3, ho3, hv3⟩ := nthK_out hA.2.2
    exact ⟨nthK_of ho (vone_mono (hn i o (by simpa using ho)) (fun B hB => vplan_mono hn hk a B hB) hv), nthK_of ho2 (vone_mono (hn j o2 (by simpa using ho2)) (fun B hB => vplan_mono hn hk b B hB) hv2), nthK_of ho3 (vone_mono (hn l o3 (by simpa using ho3)) (fun B hB => vplan_mono hn hk c B hB) hv3)⟩
variable {n : Nat} {fp : Nat → Prop} {w0 : Start}
theorem draw_plan {σ : Store} {μ : Ghost} {Ds : Nat → Nat → Prop} {A : AS} {a : Act} {w : World} {id : Nat} {pl : Pl} {Q : Exit → Act → World → Prop} {K : AS → Prop} (hm : P.follows .mixedOrders = true) (hB : planReg P ops pl = true)
    (hd : (ops.all fun o => match o.dst with | some t => decide (t < n) | none => true) = true) (hQ : ∀ a w, AtEnd n fp w0 K a w → Q .normal a w) (h : Rel n fp w0 σ μ Ds A a w) (hq : vplan P mt ops pl K A) : (Code.region id ops true).wp P Q a w := by
  simp only [planReg, Bool.and_eq_true, List.all_eq_true, List.mem_range] at hB
  obtain ⟨h1, h2⟩ := hB
  refine wp_region_any hm ?_
  have hn : ∀ (i : Nat) (o : Oper), ops[i]? = some o → kd P false o.op ≠ 4 := by
    intro i o ho
    have := h1 i (Array.getElem?_eq_some_iff.1 ho).1
    rw [ho] at this
    simpa using this
  have hcl : Closed ops (Array.replicate ops.size false) := by
    intro j o hj
    exfalso
    simp [Array.getD_eq_getD_getElem?, Array.getElem?_replicate] at hj
    split at hj <;> simp at hj
  have key := plan_aAny (P := P) (mt := mt) (ops := ops) (Q := fun A => ∃ B, SameA B A ∧ K B) (fun A B hs ⟨C, g1, g2⟩ => ⟨C, g1.trans hs, g2⟩) hn pl ops.size (Array.replicate ops.size false) A A (SameA.refl A) hcl h2 (vplan_mono hn (fun B hB => ⟨B, SameA.refl B, hB⟩) pl A hq)
  refine wpAny_of_aAny (fp := fp) (w0 := w0) (Q := fun A => ∃ B, SameA B A ∧ K B) (fun a w ⟨A', σ', μ', Ds', ⟨B, hs, hk⟩, hr⟩ => hQ a w ⟨B, σ', μ', Ds', hk, hr.same hs.symm⟩) ?_ _ _ A σ μ Ds a _ h.drew (by simpa using key)
  intro i o t ho ht
  have := Array.all_eq_true_iff_forall_mem.1 hd o (Array.mem_of_getElem? ho)
  rw [ht] at this
  simpa using this
end
-- code
def pawp (ps : List (Nat × Pl)) (P : Program) (mt : Mut) (k : Nat) (cuts : List Nat) (c : Code) : (AS → Prop) → (Nat → AS → Prop) → (AS → Prop) → AS → Prop :=
  Code.rec (motive := fun _ => (AS → Prop) → (Nat → AS → Prop) → (AS → Prop) → AS → Prop)
    (fun K _ _ A => K A)
    (fun id ops draw K _ _ A => match draw with
      | true => match findP ps id with
        | some pl => vplan P mt ops pl K A
        | none => vlist P mt (pfOf P ops (bef ops)) ops 0 ops.toList K A
      | false => vlist P mt (fun _ => false) ops 0 ops.toList K A)
    (fun _ y ix iy K X R A => match cutAt cuts y with
      | some i => StopSeq k i (fun K' => ix K' X R) (iy K X R) A
      | none => ix (iy K X R) X R A)
    (fun c _ _ ix iy K X R A => evV A.fr c fun v => match v with
      | .v (.bool b) => (b = true → ix K X R A) ∧ (b = false → iy K X R A)
      | _ => False)
    (fun id _ ic K X R A => ic K (fun i A => match Nat.beq i id with
      | true => K A
      | false => X i A) R A)
    (fun _ ic _ X R A => StopLoop k (fun K' => ic K' X R) A)
    (fun _ _ _ _ _ _ _ _ _ _ => False)
    (fun id _ X _ A => X id A)
    (fun _ ic K X R A => ic K X R A)
    (fun _ K _ _ A => K A)
    (fun _ _ _ _ _ => False)
    (fun _ _ R A => R A)
    (fun _ _ _ _ _ => False) c
section
variable {ps : List (Nat × Pl)} {P : Program} {mt : Mut} {k : Nat} {cuts : List Nat} {K : AS → Prop} {X : Nat → AS → Prop} {R : AS → Prop} {A : AS} {x y : Code} {c : Operand}
theorem pawp_region {id : Nat} {ops : Array Oper} {draw : Bool} : pawp ps P mt k cuts (.region id ops draw) K X R A = match draw with
      | true => match findP ps id with
        | some pl => vplan P mt ops pl K A
        | none => vlist P mt (pfOf P ops (bef ops)) ops 0 ops.toList K A
      | false => vlist P mt (fun _ => false) ops 0 ops.toList K A := rfl
theorem pawp_seq : pawp ps P mt k cuts (.seq x y) K X R A = match cutAt cuts y with
      | some i => StopSeq k i (fun K' => pawp ps P mt k cuts x K' X R) (pawp ps P mt k cuts y K X R) A
      | none => pawp ps P mt k cuts x (pawp ps P mt k cuts y K X R) X R A := rfl
theorem pawp_cond : pawp ps P mt k cuts (.cond c x y) K X R A = evV A.fr c fun v => match v with
      | .v (.bool b) => (b = true → pawp ps P mt k cuts x K X R A) ∧ (b = false → pawp ps P mt k cuts y K X R A)
      | _ => False := rfl
end
def codeOkP (ps : List (Nat × Pl)) (P : Program) (n : Nat) : Code → Bool
  | .region id ops draw => (ops.all fun o => match o.dst with | some t => decide (t < n) | none => true) && (!draw || (match findP ps id with
    | some pl => planReg P ops pl
    | none => drawOk P ops (pfOf P ops (bef ops))))
  | .seq x y => codeOkP ps P n x && codeOkP ps P n y
  | .cond _ x y => codeOkP ps P n x && codeOkP ps P n y
  | .block _ c => codeOkP ps P n c
  | .loop c => codeOkP ps P n c
  | .scope c => codeOkP ps P n c
  | _ => true
section
variable {ps : List (Nat × Pl)} {P : Program} {mt : Mut} {n k : Nat} {cuts : List Nat} {fp : Nat → Prop} {w0 : Start}
theorem pawp_sound (hm : P.follows .mixedOrders = true) (hk : w0.k = k) : ∀ (c : Code) {K : AS → Prop} {X : Nat → AS → Prop} {R : AS → Prop} {A : AS} {σ : Store} {μ : Ghost} {Ds : Nat → Nat → Prop} {a : Act} {w : World}, codeOkP ps P n c = true → Rel n fp w0 σ μ Ds A a w → pawp ps P mt k cuts c K X R A → c.wp P (CPost n fp w0 K X R) a w
  | .skip, K, X, R, A, σ, μ, Ds, a, w, _, h, hq => wp_skip ⟨A, σ, μ, Ds, hq, h⟩
  | .label l, K, X, R, A, σ, μ, Ds, a, w, _, h, hq => wp_label ⟨A, σ, μ, Ds, hq, h⟩
  | .exit id, K, X, R, A, σ, μ, Ds, a, w, _, h, hq => wp_exit ⟨A, σ, μ, Ds, hq, h⟩
  | .ret, K, X, R, A, σ, μ, Ds, a, w, _, h, hq => wp_ret ⟨A, σ, μ, Ds, hq, h⟩
  | .goto l, K, X, R, A, σ, μ, Ds, a, w, _, h, hq => hq.elim
  | .refuse s, K, X, R, A, σ, μ, Ds, a, w, _, h, hq => hq.elim
  | .rangeFunc f p x y, K, X, R, A, σ, μ, Ds, a, w, _, h, hq => hq.elim
  | .region id ops draw, K, X, R, A, σ, μ, Ds, a, w, hok, h, hq => by
    simp only [codeOkP, Bool.and_eq_true, Bool.or_eq_true, Bool.not_eq_true'] at hok
    obtain ⟨h1, h2⟩ := hok
    rw [pawp_region] at hq
    cases draw with
    | true =>
      simp only [Bool.true_eq_false, false_or] at h2
      simp only at hq
      cases hf : findP ps id with
      | some pl =>
        rw [hf] at h2 hq
        exact draw_plan hm h2 h1 (fun a w he => he) h hq
      | none =>
        rw [hf] at h2 hq
        exact draw_sound hm h2 h1 (fun a w he => he) h hq
    | false =>
      refine wp_region_list (vlist_sound (fun a w he => he) _ 0 ?_ h hq)
      intro o ho t ht
      have := Array.all_eq_true_iff_forall_mem.1 h1 o (Array.mem_toList_iff.1 ho)
      rw [ht] at this
      simpa using this
  | .seq x y, K, X, R, A, σ, μ, Ds, a, w, hok, h, hq => by
    simp only [codeOkP, Bool.and_eq_true] at hok
    rw [pawp_seq] at hq
    split at hq
    · obtain ⟨hq⟩ := hq
      refine wp_seq (wp_mono (pawp_sound hm hk x hok.1 h hq) ?_)
      intro e a' w' he
      cases e with
      | normal =>
        obtain ⟨A', σ', μ', Ds', ⟨B, hle, hK⟩, hr⟩ := he
        obtain ⟨σ2, μ2, D2, hr2⟩ := hle n fp w0 σ' μ' Ds' a' w' hk hr
        exact pawp_sound hm hk y hok.2 hr2 hK
      | _ => exact he
    · refine wp_seq (wp_mono (pawp_sound hm hk x hok.1 h hq) ?_)
      intro e a' w' he
      cases e with
      | normal =>
        obtain ⟨A', σ', μ', Ds', hK, hr⟩ := he
        exact pawp_sound hm hk y hok.2 hr hK
      | _ => exact he
  | .cond c x y, K, X, R, A, σ, μ, Ds, a, w, hok, h, hq => by
    simp only [codeOkP, Bool.and_eq_true] at hok
    rw [pawp_cond] at hq
    simp only [evV_eq] at hq
    split at hq
    · rename_i b hb
      have hc : a.eval c = .bool b := by have := h.ev c; rw [hb] at this; exact this.inv_v
      refine wp_cond hc ?_
      cases b with
      | true => exact pawp_sound hm hk x hok.1 h (hq.1 rfl)
      | false => exact pawp_sound hm hk y hok.2 h (hq.2 rfl)
    · exact hq.elim
  | .block id c, K, X, R, A, σ, μ, Ds, a, w, hok, h, hq => by
    refine wp_block (wp_mono (pawp_sound hm hk c hok h hq) ?_)
    intro e a' w' he
    cases e with
    | exit i =>
      obtain ⟨A', σ', μ', Ds', hK, hr⟩ := he
      simp only [Exit.inBlock]
      split
      · rename_i hi
        subst hi
        simp only [Nat.beq_refl] at hK
        exact ⟨A', σ', μ', Ds', hK, hr⟩
      · rename_i hi
        have : Nat.beq i id = false := by
          cases hb : Nat.beq i id with
          | false => rfl
          | true => exact absurd (Nat.eq_of_beq_eq_true hb) hi
        simp only [this] at hK
        exact ⟨A', σ', μ', Ds', hK, hr⟩
    | _ => exact he
  | .scope c, K, X, R, A, σ, μ, Ds, a, w, hok, h, hq => by
    refine wp_scope_straight (wp_mono (pawp_sound hm hk c hok h hq) ?_)
    intro e a' w' he
    cases e <;> exact he
  | .loop c, K, X, R, A, σ, μ, Ds, a, w, hok, h, hq => by
    obtain ⟨I, ⟨n0, B, hle, hI⟩, hround⟩ := hq
    have J0 : ∃ j B σ μ Ds, I j B ∧ Rel n fp w0 σ μ Ds B a w := by
      obtain ⟨σ', μ', D', hr⟩ := hle n fp w0 σ μ Ds a w hk h
      exact ⟨n0, B, σ', μ', D', hI, hr⟩
    let J : Act → World → Nat → Prop := fun a w j => ∃ B σ μ Ds, I j B ∧ Rel n fp w0 σ μ Ds B a w
    let m : Act → World → Nat := fun a w => @dite _ (∃ j, J a w j) (Classical.propDecidable _) (fun h => Classical.choose (exists_least h)) (fun _ => 0)
    have hm1 : ∀ a w, (∃ j, J a w j) → J a w (m a w) ∧ ∀ j, j < m a w → ¬ J a w j := by
      intro a w h
      have := Classical.choose_spec (exists_least h)
      simp only [m, dif_pos h]
      exact this
    refine wp_loop (fun a w => ∃ j, J a w j) m J0 ?_
    intro a w hJ
    obtain ⟨⟨B, σ, μ, Ds, hI, hr⟩, hmin⟩ := hm1 a w hJ
    refine wp_mono (pawp_sound hm hk c hok hr (hround _ B hI)) ?_
    intro e a' w' he
    cases e with
    | normal =>
      obtain ⟨A', σ', μ', Ds', ⟨j, B', hj, hle', hI'⟩, hr'⟩ := he
      obtain ⟨σ2, μ2, D2, hr2⟩ := hle' n fp w0 σ' μ' Ds' a' w' hk hr'
      have hJ' : J a' w' j := ⟨B', σ2, μ2, D2, hI', hr2⟩
      refine ⟨⟨j, hJ'⟩, ?_⟩
      have := (hm1 a' w' ⟨j, hJ'⟩).2
      rcases Nat.lt_or_ge j (m a' w') with g | g
      · exact absurd hJ' (this j g)
      · omega
    | _ => exact he
end
/-- A contract, by the body, of which regions are walked by plans. -/
theorem fn_plan {P : Program} (hm : P.follows .mixedOrders = true) (ps : List (Nat × Pl)) (mt : Mut) (cuts : List Nat) {f : FuncId} {fn : Func} {c : Code} {args : List AV} {m : List Res} {r : AV} {m' : List Res} (hf : P.funcs[f]? = some fn) (hb : fn.body = some c) (hname : (fn.name == "runtime.NumGoroutine") = false)
    {n : Nat} (hn : fn.ntmps = n) (hle : Nat.ble args.length n = true) {rs : List ResultVar} (hrs : fn.results.toList = rs) (h0 : gen0 m = true) (hok : codeOkP ps P n c = true)
    (h : pawp ps P mt m.length cuts c (retLe P m.length rs r m') (fun _ _ => False) (retLe P m.length rs r m') ⟨argFr 0 args, m⟩) : Fn P f args m r m' := by
  subst hn hrs
  refine ⟨⟨fn, hf, by rw [hb]; rfl, hname⟩, fun w σ μ Ds vs hag hmem hlen hargs => ?_⟩
  have hle := Nat.le_of_ble_eq_true hle
  refine calls_of_wp hf hb ?_
  let w0 : Start := ⟨w, σ, μ, m.length, fun i ao n cap g hi => by
    have hlt : i < m.length := by
      rcases Nat.lt_or_ge i m.length with q | q
      · exact q
      · rw [(hmem.out i q).1] at hi; cases hi
    obtain ⟨z1, z2⟩ := gen0_out h0 i _ (List.getElem?_eq_getElem hlt)
    obtain ⟨an, x1, x2⟩ := MemOk.an (A := ⟨[], m⟩) hmem (List.getElem?_eq_getElem hlt) z1
    rw [hi] at x1
    obtain rfl := Option.some.inj x1
    rcases x2 with ⟨v, e, _⟩ | ⟨_, _, _, gA, e, hg⟩
    · cases e
    · cases e
      rw [hg] at z2
      exact z2⟩
  have hrel : Rel fn.ntmps (fun b => ∃ id, Ds id b) w0 σ μ Ds ⟨argFr 0 args, m⟩ { tmps := vs ++ Array.replicate (fn.ntmps - vs.size) undef, defers := [] } w := by
    refine ⟨rfl, by simp; omega, ?_, hag, hmem, fun id b hb => .inr ⟨id, hb⟩, ⟨rfl, rfl, rfl, Nat.le_refl _, fun _ _ _ => rfl⟩, fun _ _ _ _ => rfl, fun _ _ _ h => h, Gle.refl _, fun i hi => (hmem.out i hi).1, Nat.le_refl _⟩
    intro t av ht
    rw [look_argFr] at ht
    simp only [Nat.zero_le, if_true, Nat.sub_zero] at ht
    have hlt : t < args.length := (List.getElem?_eq_some_iff.1 ht).1
    have hlt' : t < vs.size := by omega
    have := hargs t av vs[t] ht (by simp [hlt'])
    simpa [Array.getD_eq_getD_getElem?, Array.getElem?_append_left hlt', hlt'] using this
  refine wp_mono (pawp_sound hm rfl c hok hrel h) ?_
  have fin : ∀ a' w', AtEnd fn.ntmps (fun b => ∃ id, Ds id b) w0 (retLe P m.length fn.results.toList r m') a' w' → a'.defers = [] ∧ ∃ v, (results fn a'.tmps).run P w' = .ok v w' ∧
      ∃ x σ' μ' Ds', (Ending.returned v : Ending) = .returned x ∧ Post σ μ Ds w r m' x σ' μ' Ds' w' := by
    rintro a' w' ⟨A0, σ0, μ0, Ds0, ⟨A, hAB, hr⟩, hrel0⟩
    obtain ⟨σ', μ', Ds', hrel⟩ := hAB _ _ w0 σ0 μ0 Ds0 a' w' rfl hrel0
    obtain ⟨x, v, h1, h2, ρ, hnd, hp, hM, hK⟩ := ret_run hrel hr
    refine ⟨hrel.defers, x, h1, x, σ', subG μ' ρ m', subD Ds' ρ m', rfl, ⟨h2.sub hrel.mem hK, hrel.mem.sub (of_decide_eq_true hnd) hM, gle_sub hrel hp hM, hrel.agree, hrel.keeps, fun b o hb hf => hrel.old b o hb hf, hrel.mono, fun id b hb => ?_⟩⟩
    obtain ⟨⟨i, _, h4⟩, _⟩ := hb
    exact hrel.own i b h4
  intro e a' w' he
  cases e with
  | normal => exact fin a' w' he
  | ret => exact fin a' w' he
  | exit id => obtain ⟨A, σ', μ, Ds, hr, hrel⟩ := he; exact hr.elim
  | _ => exact he.elim
end Go.Proofs.Ytimfnpjcedjmiaa
