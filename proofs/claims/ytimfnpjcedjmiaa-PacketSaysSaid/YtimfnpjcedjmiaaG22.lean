/-
  Engine G, part 22: regions, whole bodies, contracts of bodies.
-/
import Derived.Test.YtimfnpjcedjmiaaG21
namespace Go.Proofs.Ytimfnpjcedjmiaa
open Go.RowKit
set_option linter.unusedSimpArgs false
set_option linter.unusedVariables false

section
variable {P : Program} {mt : Mut} {ops : Array Oper} {pf : Nat → Bool}
theorem vlist_head {i : Nat} {o : Oper} {rest : List Oper} {K : AS → Prop} {A : AS} (h : vlist P mt pf ops i (o :: rest) K A) :
    ∃ fr', (∀ t, lk fr' t = lk A.fr t) ∧ ((awant ops A.fr o = some true ∧ vop P mt (pf i) fr' A.mem o.op (fun m v => vlist P mt pf ops (i + 1) rest K (AS.put ⟨fr', m⟩ o.dst v))) ∨
      (awant ops A.fr o = some false ∧ vlist P mt pf ops (i + 1) rest K (AS.put ⟨fr', A.mem⟩ o.dst (.v (.tuple #[]))))) := by
  obtain ⟨fr, mem⟩ := A
  simp only [vlist_cons, vone, vpt_eq, vput_eq] at h
  unfold awant
  have pushed : ∀ t (b : Bool), lk fr t = .v (.bool b) → ∀ u, lk ((t, .v (.bool b)) :: fr) u = lk fr u := by
    intro t b ht u
    simp only [lk, look]
    by_cases e : t = u
    · subst e
      rw [if_pos rfl]
      exact ht.symm
    · rw [if_neg e]
  cases hg : o.guard with
  | none => rw [hg] at h; exact ⟨fr, fun _ => rfl, .inl ⟨rfl, h⟩⟩
  | some p =>
    obtain ⟨j, w⟩ := p
    rw [hg] at h
    simp only at h ⊢
    cases ht : gs ops j with
    | none => rw [ht] at h; exact h.elim
    | some t =>
      rw [ht] at h
      simp only [lkK_eq] at h ⊢
      split at h
      · rename_i b e
        by_cases hb : b = w
        · subst hb
          exact ⟨_, pushed t b e, .inl ⟨by simp, h.1 rfl⟩⟩
        · have hb' : b = neg w := by rw [neg_eq]; cases b <;> cases w <;> simp_all
          subst hb'
          exact ⟨_, pushed t _ e, .inr ⟨by cases w <;> rfl, h.2 rfl⟩⟩
      · rename_i cs e
        exact ⟨fr, fun _ => rfl, .inr ⟨rfl, h⟩⟩
      · exact h.elim
theorem aAny_lex {Q : AS → Prop} (hQ : ∀ A B, SameA A B → Q A → Q B) (hn : ∀ i o, ops[i]? = some o → kd P (pf i) o.op ≠ 4)
    (hpre : ∀ i o, ops[i]? = some o → ∀ e ∈ o.after, Region.binds .any e = true → e.on < i)
    (hpair : ∀ i j oi oj, i < j → ops[i]? = some oi → ops[j]? = some oj → ¬ Anc ops j i → oi.apart ops oj = true ∧ okPair (kd P (pf i) oi.op) (kd P (pf j) oj.op) = true) :
    ∀ (l : List Oper) (k : Nat) (listed : Array Bool) (A B : AS), SameA A B → (∀ j, l[j]? = ops[k + j]?) → listed.size = ops.size → (∀ j, listed.getD j false = true ↔ j < k ∧ j < ops.size) → vlist P mt pf ops k l Q A → aAny P mt pf ops Q l.length listed B
  | [], k, listed, A, B, hs, hl, hsz, hlist, h => by
    refine ⟨?_, hQ A B hs h⟩
    rw [List.eq_nil_iff_forall_not_mem]
    intro i hi
    obtain ⟨h1, o, ho, _⟩ := mem_ready.1 hi
    have hlt := (Array.getElem?_eq_some_iff.1 ho).1
    have hk : k ≤ i := by
      rcases Nat.lt_or_ge i k with g | g
      · have := (hlist i).2 ⟨g, hlt⟩
        have hi' : i < listed.size := by omega
        simp [hi'] at h1 this
        rw [h1] at this; cases this
      · exact g
    have := hl (i - k)
    rw [show k + (i - k) = i by omega, ho] at this
    simp at this
  | o :: l, k, listed, A, B, hs, hl, hsz, hlist, h => by
    have h0 : ops[k]? = some o := by simpa using (hl 0).symm
    have hkl := (Array.getElem?_eq_some_iff.1 h0).1
    have hnk := hn k o h0
    have hst : ∃ C B', Ex P mt (pf k) ops o B B' ∧ SameA C B' ∧ vlist P mt pf ops (k + 1) l Q C := by
      obtain ⟨fr', hfr, hv⟩ := vlist_head h
      rcases hv with ⟨hw, hv⟩ | ⟨hw, hv⟩
      · obtain ⟨m, v, h1, h2⟩ := (kd_nice hnk).det2 hv
        refine ⟨_, AS.put ⟨B.fr, m⟩ o.dst v, .of hnk rfl (.inl ⟨?_, ?_⟩), SameA.put2 (fun t => (hfr t).trans (hs.2 t)) m o.dst v, h2⟩
        · rw [← awant_congr (ops := ops) (o := o) fun t _ => hs.2 t]; exact hw
        · rw [← hs.1, ← vop_congr (fr := fr') fun x _ => evO_congr fun t _ => (hfr t).trans (hs.2 t)]; exact h1
      · refine ⟨_, B.put o.dst (.v (.tuple #[])), .inr ⟨?_, rfl⟩, ?_, hv⟩
        · rw [← awant_congr (ops := ops) (o := o) fun t _ => hs.2 t]; exact hw
        · exact SameA.put (A := ⟨fr', A.mem⟩) (B := B) ⟨hs.1, fun t => (hfr t).trans (hs.2 t)⟩ _ _
    obtain ⟨C, B', hE, hsC, hv⟩ := hst
    have hunl : ∀ j, k ≤ j → j < ops.size → listed.getD j true = false := fun j hj hjs => by
      have hjl : j < listed.size := by omega
      have hne : listed.getD j false ≠ true := fun e => by have := (hlist j).1 e; omega
      simp [hjl] at hne ⊢
      exact hne
    have hready : k ∈ Region.ready .any ops listed := by
      rw [mem_ready]
      exact ⟨hunl k (Nat.le_refl _) hkl, o, h0, fun e he hb => (hlist e.on).2 ⟨hpre k o h0 e he hb, by have := hpre k o h0 e he hb; omega⟩⟩
    refine aAny_first hQ hn h0 l.length listed B B' (fun j oj hj hoj e he hb => ?_) (fun j oj hj hne hun hno => ?_) hready hE ?_
    · have h1 := (hlist j).1 hj
      have h2 := hpre j oj hoj e he hb
      exact (hlist e.on).2 ⟨by omega, by omega⟩
    · have hjs := (Array.getElem?_eq_some_iff.1 hj).1
      have hlt : k < j := by
        rcases Nat.lt_trichotomy j k with g | g | g
        · have := (hlist j).2 ⟨g, hjs⟩
          have hjl : j < listed.size := by omega
          simp [hjl] at hun this
          rw [hun] at this; cases this
        · exact absurd g hne
        · exact g
      exact hpair k j o oj hlt h0 hj hno
    · refine aAny_lex hQ hn hpre hpair l (k + 1) _ C B' hsC (fun j => by have := hl (j + 1); simpa [Nat.add_assoc, Nat.add_comm 1 j] using this) (by simpa using hsz) (fun j => ?_) hv
      by_cases hjk : k = j
      · subst hjk
        have : k < listed.size := by omega
        simp [this]
        exact hkl
      · rw [getD_set_ne false hjk, hlist]
        omega

variable {n : Nat} {fp : Nat → Prop} {w0 : Start}
theorem awant_sound {σ : Store} {μ : Ghost} {Ds : Nat → Nat → Prop} {A : AS} {a : Act} {w : World} (h : Rel n fp w0 σ μ Ds A a w) {o : Oper} {c : Bool} (hw : awant ops A.fr o = some c) : Region.wanted o (yielded ops a.tmps) = c := by
  unfold awant at hw
  unfold Region.wanted
  cases hg : o.guard with
  | none => rw [hg] at hw; simpa using hw
  | some p =>
    obtain ⟨j, want⟩ := p
    rw [hg] at hw
    simp only at hw ⊢
    cases ht : gs ops j with
    | none => rw [ht] at hw; cases hw
    | some t =>
      rw [ht] at hw
      simp only at hw
      have ht' : (ops[j]?).bind (·.dst) = some t := ht
      split at hw
      · rename_i b e
        have hr := h.ev (.tmp t)
        rw [show evO A.fr (.tmp t) = lk A.fr t from rfl, e] at hr
        have hr := hr.inv_v
        have hlt : t < a.tmps.size := by
          rcases Nat.lt_or_ge t a.tmps.size with hh | hh
          · exact hh
          · exfalso; simp [Act.eval, hh, undef] at hr
        have hget : a.tmps[t]? = some (.bool b) := by simp [Act.eval, hlt] at hr ⊢; exact hr
        simp only [yielded, ht', Option.bind_some, hget]
        simp only [Option.some.injEq] at hw
        rw [← hw]
        cases b <;> cases want <;> rfl
      · rename_i cs e
        have hr := h.ev (.tmp t)
        rw [show evO A.fr (.tmp t) = lk A.fr t from rfl, e] at hr
        have hr := hr.inv_v
        simp only [Option.some.injEq] at hw
        rw [← hw]
        simp only [yielded, ht', Option.bind_some]
        cases hget : a.tmps[t]? with
        | none => simp
        | some v =>
          have : v = .tuple cs := by simp [Act.eval, Array.getD_eq_getD_getElem?, hget] at hr; exact hr
          subst this; simp
      · cases hw
theorem Rel.same {σ : Store} {μ : Ghost} {Ds : Nat → Nat → Prop} {A B : AS} {a : Act} {w : World} (h : Rel n fp w0 σ μ Ds A a w) (hs : SameA A B) : Rel n fp w0 σ μ Ds B a w := by
  obtain ⟨h2, h3⟩ := hs
  refine ⟨h.defers, h.size, ?_, h.agree, h2 ▸ h.mem, h.own, h.keeps, h.old, h.mono, h.gle, h.kout, h2 ▸ h.klen⟩
  intro t av ht
  have hev := h.ev (.tmp t)
  rw [show evO A.fr (.tmp t) = lk A.fr t from rfl, h3 t] at hev
  simp only [lk, ht, Option.getD_some] at hev
  exact hev
/-- What holds where something ends. -/
def AtEnd (n : Nat) (fp : Nat → Prop) (w0 : Start) (K : AS → Prop) : Act → World → Prop := fun a w => ∃ A σ μ Ds, K A ∧ Rel n fp w0 σ μ Ds A a w
theorem ex_sound {σ : Store} {μ : Ghost} {Ds : Nat → Nat → Prop} {A : AS} {a : Act} {w : World} (h : Rel n fp w0 σ μ Ds A a w) {pu : Bool} {o : Oper} {fr' : List (Nat × AV)} (hfr : ∀ t, lk fr' t = lk A.fr t) (hd : ∀ t, o.dst = some t → t < n) {K : AS → Prop} {Q : Exit → Act → World → Prop}
    (hv : vop P mt pu fr' A.mem o.op (fun m v => K (AS.put ⟨fr', m⟩ o.dst v))) : o.wp P a w (AtEnd n fp w0 K) Q := by
  have h' : Rel n fp w0 σ μ Ds ⟨fr', A.mem⟩ a w := h.same ⟨rfl, fun t => (hfr t).symm⟩
  obtain ⟨dst, op, ty, pos, after, guard⟩ := o
  refine Oper.wp_mono ?_ (vop_sound h' (dst := dst) (ty := ty) (pos := pos) (after := after) (guard := guard) hv)
  rintro a' w' ⟨m', av, x, σ', μ', Ds', rfl, hx, hrel, hK⟩
  exact ⟨_, σ', μ', Ds', hK, hrel.put dst hx hd⟩
theorem vlist_sound {Q : Exit → Act → World → Prop} {K : AS → Prop} (hQ : ∀ a w, AtEnd n fp w0 K a w → Q .normal a w) : ∀ (l : List Oper) (i : Nat) {A : AS} {σ : Store} {μ : Ghost} {Ds : Nat → Nat → Prop} {a : Act} {w : World},
    (∀ o ∈ l, ∀ t, o.dst = some t → t < n) → Rel n fp w0 σ μ Ds A a w → vlist P mt pf ops i l K A → wpList P ops Q l a w
  | [], i, A, σ, μ, Ds, a, w, _, h, hq => hQ a w ⟨A, σ, μ, Ds, hq, h⟩
  | o :: rest, i, A, σ, μ, Ds, a, w, hd, h, hq => by
    obtain ⟨fr', hfr, hv⟩ := vlist_head hq
    unfold wpList
    rcases hv with ⟨hw, hv⟩ | ⟨hw, hv⟩
    · rw [if_pos (awant_sound h hw)]
      refine .inl (Oper.wp_mono ?_ (ex_sound h hfr (hd o (List.mem_cons_self ..)) hv))
      rintro a' w' ⟨B, σ', μ', Ds', hK, hrel⟩
      exact vlist_sound hQ rest (i + 1) (fun o ho => hd o (List.mem_cons_of_mem _ ho)) hrel hK
    · rw [if_neg (by rw [awant_sound h hw]; simp)]
      have h' : Rel n fp w0 σ μ Ds ⟨fr', A.mem⟩ a w := h.same ⟨rfl, fun t => (hfr t).symm⟩
      exact vlist_sound hQ rest (i + 1) (fun o ho => hd o (List.mem_cons_of_mem _ ho)) (h'.put_skip o.dst (hd o (List.mem_cons_self ..))) hv
theorem wpAny_of_aAny {Q : AS → Prop} {Q' : Exit → Act → World → Prop} (hQ : ∀ a w, AtEnd n fp w0 Q a w → Q' .normal a w) (hd : ∀ (i : Nat) (o : Oper) (t : Tmp), ops[i]? = some o → o.dst = some t → t < n) :
    ∀ (fuel : Nat) (listed : Array Bool) (A : AS) (σ : Store) (μ : Ghost) (Ds : Nat → Nat → Prop) (a : Act) (w : World), Rel n fp w0 σ μ Ds A a w → aAny P mt pf ops Q fuel listed A → wpAny P .any ops Q' fuel listed a w
  | 0, listed, A, σ, μ, Ds, a, w, h, hq => ⟨hq.1, hQ a w ⟨A, σ, μ, Ds, hq.2, h⟩⟩
  | fuel + 1, listed, A, σ, μ, Ds, a, w, h, hq => ⟨fun h0 => hQ a w ⟨A, σ, μ, Ds, hq.1 h0, h⟩, fun i hi => by
      have hq := hq.2 i hi
      unfold qOp at hq
      unfold wpOp
      split
      · rename_i ho
        simp only [ho] at hq
        exact wpAny_of_aAny hQ hd fuel _ A σ μ Ds a w h hq
      · rename_i o ho
        simp only [ho] at hq
        obtain ⟨B, hy, hK⟩ := hq
        rcases hy with ⟨hw, hv⟩ | ⟨hw, rfl⟩
        · rw [if_pos (awant_sound h hw)]
          refine .inl (Oper.wp_mono ?_ (ex_sound h (fun _ => rfl) (hd i o · ho) (K := fun A' => B = A') hv))
          rintro a' w' ⟨B', σ', μ', Ds', rfl, hrel⟩
          exact wpAny_of_aAny hQ hd fuel _ _ σ' μ' Ds' _ w' hrel hK
        · rw [if_neg (by rw [awant_sound h hw]; simp)]
          exact wpAny_of_aAny hQ hd fuel _ _ σ μ Ds _ w (h.put_skip o.dst (hd i o · ho)) hK⟩
/-- The law of a region that draws its order. -/
theorem draw_sound {σ : Store} {μ : Ghost} {Ds : Nat → Nat → Prop} {A : AS} {a : Act} {w : World} {id : Nat} {Q : Exit → Act → World → Prop} {K : AS → Prop} (hm : P.follows .mixedOrders = true) (hB : drawOk P ops pf = true)
    (hd : (ops.all fun o => match o.dst with | some t => decide (t < n) | none => true) = true) (hQ : ∀ a w, AtEnd n fp w0 K a w → Q .normal a w) (h : Rel n fp w0 σ μ Ds A a w) (hq : vlist P mt pf ops 0 ops.toList K A) : (Code.region id ops true).wp P Q a w := by
  simp only [drawOk, Bool.and_eq_true, List.all_eq_true, List.mem_range] at hB
  obtain ⟨⟨hsel, h1⟩, h2⟩ := hB
  refine wp_region_any hm ?_
  have h1' : ∀ i o, ops[i]? = some o → (∀ e ∈ o.after, Region.binds .any e = true → e.on < i) ∧ kd P (pf i) o.op ≠ 4 := by
    intro i o ho
    have := h1 i (Array.getElem?_eq_some_iff.1 ho).1
    rw [ho] at this
    simp only [Bool.and_eq_true] at this
    refine ⟨fun e he hb => ?_, by simpa using this.2⟩
    have := Array.all_eq_true_iff_forall_mem.1 this.1 e he
    simpa [hb] using this
  have mono : ∀ (l : List Oper) (i : Nat) (A : AS) (K' : AS → Prop), (∀ B, K B → K' B) → vlist P mt pf ops i l K A → (∀ j o, l[j]? = some o → kd P (pf (i + j)) o.op ≠ 4) → vlist P mt pf ops i l K' A := by
    intro l
    induction l with
    | nil => intro i A K' hk h _; exact hk _ h
    | cons o l ih =>
      intro i A K' hk h hn
      obtain ⟨fr, mem⟩ := A
      have hrest : ∀ B, vlist P mt pf ops (i + 1) l K B → vlist P mt pf ops (i + 1) l K' B := fun B hB => ih (i + 1) B K' hk hB (fun j o ho => by have := hn (j + 1) o (by simpa using ho); rw [show i + 1 + j = i + (j + 1) by omega]; exact this)
      have hno := hn 0 o rfl
      simp only [vlist_cons, vone, vpt_eq, vput_eq] at h ⊢
      split at h
      · rename_i hg; exact (kd_nice hno).mono2 (fun m v hv => hrest _ hv) h
      · rename_i hg
        split at h
        · rename_i ht
          simp only [lkK_eq] at h ⊢
          split at h
          · rename_i b e
            exact ⟨fun hb => (kd_nice hno).mono2 (fun m v hv => hrest _ hv) (h.1 hb), fun hb => hrest _ (h.2 hb)⟩
          · exact hrest _ h
          · exact h.elim
        · exact h.elim
  have key := aAny_lex (P := P) (mt := mt) (pf := pf) (ops := ops) (Q := fun A => ∃ B, SameA B A ∧ K B) (fun A B hs ⟨C, g1, g2⟩ => ⟨C, g1.trans hs, g2⟩) (fun i o ho => (h1' i o ho).2) (fun i o ho => (h1' i o ho).1)
    (fun i j oi oj hij hi hj hno => by
      have := h2 j (Array.getElem?_eq_some_iff.1 hj).1 i hij
      simp only [Bool.or_eq_true] at this
      rcases this with g | g
      · exact absurd (anc_out g) hno
      · rw [hi, hj] at g
        simpa [Bool.and_eq_true] using g)
    ops.toList 0 (Array.replicate ops.size false) A A (SameA.refl A) (by simp) (by simp) (fun j => by simp [Array.getD_eq_getD_getElem?, Array.getElem?_replicate]; split <;> simp) (mono ops.toList 0 A _ (fun B hB => ⟨B, SameA.refl B, hB⟩) hq (fun j o ho => (h1' _ o (by simpa using ho)).2))
  refine wpAny_of_aAny (fp := fp) (w0 := w0) (Q := fun A => ∃ B, SameA B A ∧ K B) (fun a w ⟨A', σ', μ', Ds', ⟨B, hs, hk⟩, hr⟩ => hQ a w ⟨B, σ', μ', Ds', hk, hr.same hs.symm⟩) ?_ _ _ A σ μ Ds a _ h.drew (by simpa using key)
  intro i o t ho ht
  have := Array.all_eq_true_iff_forall_mem.1 hd o (Array.mem_of_getElem? ho)
  rw [ht] at this
  simpa using this
end
end Go.Proofs.Ytimfnpjcedjmiaa
