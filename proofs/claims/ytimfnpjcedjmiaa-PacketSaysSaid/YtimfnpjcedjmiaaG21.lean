/-
  Engine G, part 21: the law of regions.
-/
import Derived.Test.YtimfnpjcedjmiaaG20
namespace Go.Proofs.Ytimfnpjcedjmiaa
open Go.RowKit
set_option linter.unusedSimpArgs false
set_option linter.unusedVariables false

inductive Anc (ops : Array Oper) : Nat → Nat → Prop
  | dir {j : Nat} {o : Oper} {e : Edge} (h : ops[j]? = some o) (he : e ∈ o.after) (hb : Region.binds .any e = true) : Anc ops j e.on
  | tr {j i : Nat} {o : Oper} {e : Edge} (h : ops[j]? = some o) (he : e ∈ o.after) (hb : Region.binds .any e = true) (ha : Anc ops e.on i) : Anc ops j i
/-- Which operations are ahead of which, as bits. -/
def befL : List Edge → List Nat → Nat
  | [], _ => 0
  | e :: l, acc => match Region.binds .any e with
    | true => 2 ^ e.on ||| acc.getD e.on 0 ||| befL l acc
    | false => befL l acc
def befs : List Oper → List Nat → List Nat
  | [], acc => acc
  | o :: l, acc => befs l (acc ++ [befL o.after.toList acc])
theorem befL_out {acc : List Nat} {i : Nat} : ∀ {l : List Edge}, (befL l acc).testBit i = true → ∃ e, e ∈ l ∧ Region.binds .any e = true ∧ (e.on = i ∨ (acc.getD e.on 0).testBit i = true)
  | [], h => by simp [befL] at h
  | e :: l, h => by
    unfold befL at h
    split at h
    · rename_i hb
      simp only [Nat.testBit_or, Bool.or_eq_true] at h
      rcases h with (h | h) | h
      · rw [Nat.testBit_two_pow] at h
        exact ⟨e, List.mem_cons_self .., hb, .inl (by simpa using h)⟩
      · exact ⟨e, List.mem_cons_self .., hb, .inr h⟩
      · obtain ⟨e', h1, h2, h3⟩ := befL_out h
        exact ⟨e', List.mem_cons_of_mem _ h1, h2, h3⟩
    · obtain ⟨e', h1, h2, h3⟩ := befL_out h
      exact ⟨e', List.mem_cons_of_mem _ h1, h2, h3⟩
theorem befs_out {ops : Array Oper} : ∀ {l : List Oper} {acc : List Nat}, (∀ j, l[j]? = ops[acc.length + j]?) → (∀ j i, (acc.getD j 0).testBit i = true → Anc ops j i) → ∀ j i, ((befs l acc).getD j 0).testBit i = true → Anc ops j i
  | [], acc, hl, hacc, j, i, h => hacc j i h
  | o :: l, acc, hl, hacc, j, i, h => by
    unfold befs at h
    refine befs_out (l := l) (acc := acc ++ [befL o.after.toList acc]) (fun k => ?_) (fun j i h => ?_) j i h
    · have := hl (k + 1)
      simp only [List.getElem?_cons_succ] at this
      rw [this]; congr 1; simp; omega
    · rw [List.getD_eq_getElem?_getD, List.getElem?_append] at h
      split at h
      · rw [← List.getD_eq_getElem?_getD] at h; exact hacc j i h
      · rename_i hge
        cases hj : j - acc.length with
        | zero =>
          rw [hj] at h
          simp only [List.getElem?_cons_zero, Option.getD_some] at h
          have hjj : j = acc.length := by omega
          subst hjj
          have h0 := hl 0
          simp only [List.getElem?_cons_zero, Nat.add_zero] at h0
          obtain ⟨e, h1, h2, h3⟩ := befL_out h
          have h1 : e ∈ o.after := by simpa using h1
          rcases h3 with rfl | h3
          · exact .dir h0.symm h1 h2
          · exact .tr h0.symm h1 h2 (hacc _ _ h3)
        | succ k => rw [hj] at h; simp at h
def anc (b : List Nat) (j i : Nat) : Bool := (b.getD j 0).testBit i
def bef (ops : Array Oper) : List Nat := befs ops.toList []
theorem anc_out {ops : Array Oper} {j i : Nat} (h : anc (bef ops) j i = true) : Anc ops j i :=
  befs_out (l := ops.toList) (acc := []) (fun j => by simp) (fun j i h => by simp at h) j i h
/-- Is a call ordered against whatever touches memory? -/
def callW (P : Program) (ops : Array Oper) (b : List Nat) (i : Nat) : Bool :=
  (List.range ops.size).all fun j => j == i || (match ops[j]? with | some o => kd P false o.op == 0 | none => true) || anc b j i || anc b i j
def pfOf (P : Program) (ops : Array Oper) (b : List Nat) (i : Nat) : Bool := !callW P ops b i
def drawOk (P : Program) (ops : Array Oper) (pf : Nat → Bool) : Bool :=
  let b := bef ops
  Region.noSelect ops &&
  ((List.range ops.size).all fun i => match ops[i]? with
    | some o => (o.after.all fun e => !Region.binds .any e || decide (e.on < i)) && kd P (pf i) o.op != 4
    | none => true) &&
  ((List.range ops.size).all fun j => (List.range j).all fun i => anc b j i || match ops[i]?, ops[j]? with
    | some oi, some oj => oi.apart ops oj && okPair (kd P (pf i) oi.op) (kd P (pf j) oj.op)
    | _, _ => true)

section
variable {P : Program} {mt : Mut} {ops : Array Oper} {pf : Nat → Bool}
theorem evO_apart {A : AS} {d : Option Tmp} {v : AV} {o : Oper} (h : ∀ t, d = some t → t ∉ o.looksAt ops) : ∀ x ∈ o.op.operands, evO (A.put d v).fr x = evO A.fr x := by
  intro x hx
  refine evO_congr fun t ht => ?_
  rw [lk_put, if_neg]
  intro e
  refine h t e ?_
  unfold Oper.looksAt
  refine List.mem_append_left _ (List.mem_filterMap.2 ⟨x, by simpa using hx, by rw [ht]⟩)
theorem awant_apart {A : AS} {d : Option Tmp} {v : AV} {o : Oper} (h : ∀ t, d = some t → t ∉ o.looksAt ops) : awant ops (A.put d v).fr o = awant ops A.fr o :=
  awant_congr fun t ht => by rw [lk_put, if_neg]; intro e; exact h t e ht
theorem Nice2.mono2 {T : MK → Prop} (h : Nice2 T) {K K' : MK} (hk : ∀ m v, K m v → K' m v) (hT : T K) : T K' :=
  Nice.mono (K := fun p => K p.1 p.2) (K' := fun p => K' p.1 p.2) h (fun p hp => hk p.1 p.2 hp) hT
theorem Nice2.det2 {T : MK → Prop} (h : Nice2 T) {K : MK} (hT : T K) : ∃ m v, T (fun m' v' => m' = m ∧ v' = v) ∧ K m v := by
  obtain ⟨⟨m, v⟩, h1, h2⟩ := Nice.det (K := fun p => K p.1 p.2) h hT
  exact ⟨m, v, h.mono2 (K := fun m' v' => (m', v') = (m, v)) (fun m' v' e => by cases e; exact ⟨rfl, rfl⟩) h1, h2⟩
theorem Ex.out {pu : Bool} {o : Oper} {A B : AS} (h : Ex P mt pu ops o A B) (hn : kd P pu o.op ≠ 4) : ∃ m v, B = AS.put ⟨A.fr, m⟩ o.dst v ∧ ((awant ops A.fr o = some true ∧ vop P mt pu A.fr A.mem o.op (fun m' v' => m' = m ∧ v' = v)) ∨ (awant ops A.fr o = some false ∧ m = A.mem ∧ v = .v (.tuple #[]))) := by
  rcases h with ⟨h1, h2⟩ | ⟨h1, h2⟩
  · obtain ⟨m, v, h3, h4⟩ := (kd_nice (mt := mt) (fr := A.fr) (mem := A.mem) hn).det2 h2
    exact ⟨m, v, h4, .inl ⟨h1, h3⟩⟩
  · exact ⟨A.mem, _, h2, .inr ⟨h1, rfl, rfl⟩⟩
theorem Ex.of {pu : Bool} {o : Oper} {A B : AS} {m : List Res} {v : AV} (hn : kd P pu o.op ≠ 4) (hB : B = AS.put ⟨A.fr, m⟩ o.dst v) (h : (awant ops A.fr o = some true ∧ vop P mt pu A.fr A.mem o.op (fun m' v' => m' = m ∧ v' = v)) ∨ (awant ops A.fr o = some false ∧ m = A.mem ∧ v = .v (.tuple #[]))) : Ex P mt pu ops o A B := by
  rcases h with ⟨h1, h2⟩ | ⟨h1, rfl, rfl⟩
  · exact .inl ⟨h1, (kd_nice hn).mono2 (fun m' v' hp => by obtain ⟨e1, e2⟩ := hp; rw [hB, e1, e2]) h2⟩
  · exact .inr ⟨h1, hB⟩
theorem Ex.same {pu : Bool} {o : Oper} {A A' B : AS} (hn : kd P pu o.op ≠ 4) (hs : SameA A A') (h : Ex P mt pu ops o A B) : ∃ B', Ex P mt pu ops o A' B' ∧ SameA B B' := by
  obtain ⟨m, v, hB, g⟩ := h.out hn
  rw [hB]
  clear h hB
  refine ⟨AS.put ⟨A'.fr, m⟩ o.dst v, .of hn rfl ?_, SameA.put2 hs.2 m o.dst v⟩
  rw [← awant_congr (ops := ops) (o := o) fun t _ => hs.2 t, ← hs.1]
  refine g.imp (fun ⟨h1, h2⟩ => ⟨h1, ?_⟩) id
  rw [← vop_congr fun x _ => evO_congr fun t _ => hs.2 t]
  exact h2
theorem put_put {fr : List (Nat × AV)} {m : List Res} {d e : Option Tmp} {u v : AV} (h : ∀ t, d = some t → e ≠ some t) : SameA (AS.put ⟨(AS.put ⟨fr, m⟩ d u).fr, m⟩ e v) (AS.put ⟨(AS.put ⟨fr, m⟩ e v).fr, m⟩ d u) := by
  refine ⟨by rw [put_mem, put_mem], fun t => ?_⟩
  rw [lk_put, lk_put]
  simp only
  rw [lk_put, lk_put]
  by_cases h1 : d = some t
  · rw [if_pos h1, if_neg (h t h1), if_pos h1]
  · rw [if_neg h1, if_neg h1]
theorem fr_put {fr : List (Nat × AV)} {m m' : List Res} {d : Option Tmp} {v : AV} : (AS.put ⟨fr, m⟩ d v).fr = (AS.put ⟨fr, m'⟩ d v).fr := by cases d <;> rfl
/-- Two operations may change places. -/
theorem Ex.comm {pi pj : Bool} {oi oj : Oper} (hap : oi.apart ops oj = true) (hok : okPair (kd P pi oi.op) (kd P pj oj.op) = true) {A B C : AS} (h1 : Ex P mt pi ops oi A B) (h2 : Ex P mt pj ops oj B C) :
    ∃ D E, Ex P mt pj ops oj A D ∧ Ex P mt pi ops oi D E ∧ SameA C E := by
  obtain ⟨a1, a2, a3⟩ := Oper.apart_spec hap
  have hni : kd P pi oi.op ≠ 4 := fun e => by rw [e] at hok; simp [okPair] at hok
  have hnj : kd P pj oj.op ≠ 4 := fun e => by
    rw [e] at hok
    revert hok
    generalize kd P pi oi.op = k
    intro hok
    unfold okPair at hok
    split at hok <;> simp_all
  obtain ⟨mi, vi, hB, g1⟩ := h1.out hni
  subst hB
  clear h1
  obtain ⟨mj, vj, hC, g2⟩ := h2.out hnj
  subst hC
  clear h2
  have h1 := g1
  have h2 := g2
  clear g1 g2
  -- what each sees
  have wj : awant ops (AS.put ⟨A.fr, mi⟩ oi.dst vi).fr oj = awant ops A.fr oj := by rw [awant_apart a1]
  have vj' : ∀ m K, vop P mt pj (AS.put ⟨A.fr, mi⟩ oi.dst vi).fr m oj.op K = vop P mt pj A.fr m oj.op K := fun m K => vop_congr (evO_apart (A := ⟨A.fr, mi⟩) a1)
  have wi : ∀ m, awant ops (AS.put ⟨A.fr, m⟩ oj.dst vj).fr oi = awant ops A.fr oi := fun m => by rw [awant_apart a3]
  have vi' : ∀ m m' K, vop P mt pi (AS.put ⟨A.fr, m⟩ oj.dst vj).fr m' oi.op K = vop P mt pi A.fr m' oi.op K := fun m m' K => vop_congr (evO_apart (A := ⟨A.fr, m⟩) a3)
  rw [wj, put_mem] at h2
  simp only [vj'] at h2
  -- it is enough to say what memory each leaves
  have fin : ∀ md, ((awant ops A.fr oj = some true ∧ vop P mt pj A.fr A.mem oj.op (fun m' v' => m' = md ∧ v' = vj)) ∨ (awant ops A.fr oj = some false ∧ md = A.mem ∧ vj = .v (.tuple #[]))) →
      ((awant ops A.fr oi = some true ∧ vop P mt pi A.fr md oi.op (fun m' v' => m' = mj ∧ v' = vi)) ∨ (awant ops A.fr oi = some false ∧ mj = md ∧ vi = .v (.tuple #[]))) →
      ∃ D E, Ex P mt pj ops oj A D ∧ Ex P mt pi ops oi D E ∧ SameA (AS.put ⟨(AS.put ⟨A.fr, mi⟩ oi.dst vi).fr, mj⟩ oj.dst vj) E := by
    intro md hj hi
    refine ⟨AS.put ⟨A.fr, md⟩ oj.dst vj, AS.put ⟨(AS.put ⟨A.fr, md⟩ oj.dst vj).fr, mj⟩ oi.dst vi, .of hnj rfl hj, .of hni rfl ?_, ?_⟩
    · rw [wi, put_mem]
      simp only [vi']
      exact hi
    · have := put_put (fr := A.fr) (m := mj) (d := oi.dst) (e := oj.dst) (u := vi) (v := vj) a2
      rw [fr_put (m' := mi), fr_put (fr := A.fr) (d := oj.dst) (m' := md)] at this
      exact this
  -- an operation that is skipped does not look
  by_cases si : awant ops A.fr oi = some false
  · rcases h1 with ⟨e, _⟩ | ⟨_, rfl, rfl⟩
    · rw [si] at e; cases e
    · exact fin mj h2 (.inr ⟨si, rfl, rfl⟩)
  by_cases sj : awant ops A.fr oj = some false
  · rcases h2 with ⟨e, _⟩ | ⟨_, rfl, rfl⟩
    · rw [sj] at e; cases e
    · exact fin A.mem (.inr ⟨sj, rfl, rfl⟩) h1
  obtain ⟨t1, h1⟩ := h1.resolve_right (fun h => si h.1)
  obtain ⟨t2, h2⟩ := h2.resolve_right (fun h => sj h.1)
  have hcase : kd P pi oi.op = 0 ∨ kd P pj oj.op = 0 ∨ (kd P pi oi.op = 1 ∧ kd P pj oj.op = 1) ∨ (kd P pi oi.op = 1 ∧ kd P pj oj.op = 2) := by
    revert hok
    generalize kd P pi oi.op = x
    generalize kd P pj oj.op = y
    intro hok
    unfold okPair at hok
    split at hok <;> simp_all
  rcases hcase with hk | hk | ⟨k1, k2⟩ | ⟨k1, k2⟩
  · obtain ⟨rfl, hi⟩ := kd0 hk h1
    exact fin mj (.inl ⟨t2, h2⟩) (.inl ⟨t1, hi mj⟩)
  · obtain ⟨rfl, hj⟩ := kd0 hk h2
    exact fin A.mem (.inl ⟨t2, hj A.mem⟩) (.inl ⟨t1, h1⟩)
  · obtain ⟨rfl, hi⟩ := kd1 k1 h1
    obtain ⟨rfl, hj⟩ := kd1 k2 h2
    exact fin A.mem (.inl ⟨t2, h2⟩) (.inl ⟨t1, h1⟩)
  · obtain ⟨rfl, hi⟩ := kd1 k1 h1
    obtain ⟨l, rfl⟩ := kd2 k2 h2
    exact fin _ (.inl ⟨t2, h2⟩) (.inl ⟨t1, hi l⟩)

def qOp (P : Program) (mt : Mut) (pf : Nat → Bool) (ops : Array Oper) (i : Nat) (K : AS → Prop) (A : AS) : Prop :=
  match ops[i]? with
  | none => K A
  | some o => ∃ B, Ex P mt (pf i) ops o A B ∧ K B
def aAny (P : Program) (mt : Mut) (pf : Nat → Bool) (ops : Array Oper) (Q : AS → Prop) : Nat → Array Bool → AS → Prop
  | 0, listed, A => Region.ready .any ops listed = [] ∧ Q A
  | fuel + 1, listed, A => (Region.ready .any ops listed = [] → Q A) ∧ ∀ i ∈ Region.ready .any ops listed, qOp P mt pf ops i (aAny P mt pf ops Q fuel (listed.setIfInBounds i true)) A
theorem aAny_same {Q : AS → Prop} (hQ : ∀ A B, SameA A B → Q A → Q B) (hn : ∀ i o, ops[i]? = some o → kd P (pf i) o.op ≠ 4) : ∀ (fuel : Nat) (listed : Array Bool) (A B : AS), SameA A B → aAny P mt pf ops Q fuel listed A → aAny P mt pf ops Q fuel listed B
  | 0, _, A, B, h, hq => ⟨hq.1, hQ A B h hq.2⟩
  | fuel + 1, listed, A, B, h, hq => ⟨fun h0 => hQ A B h (hq.1 h0), fun i hi => by
      have := hq.2 i hi
      unfold qOp at *
      split
      · rename_i ho; simp only [ho] at this; exact aAny_same hQ hn fuel _ A B h this
      · rename_i o ho
        simp only [ho] at this
        obtain ⟨A', h1, h2⟩ := this
        obtain ⟨B', h3, h4⟩ := h1.same (hn i o ho) h
        exact ⟨B', h3, aAny_same hQ hn fuel _ _ _ h4 h2⟩⟩
def Closed (ops : Array Oper) (listed : Array Bool) : Prop := ∀ j o, listed.getD j false = true → ops[j]? = some o → ∀ e ∈ o.after, Region.binds .any e = true → listed.getD e.on false = true
theorem Closed.anc {listed : Array Bool} (h : Closed ops listed) {j i : Nat} (ha : Anc ops j i) : (∃ o, ops[j]? = some o ∧ ∀ e ∈ o.after, Region.binds .any e = true → listed.getD e.on false = true) → listed.getD i false = true := by
  induction ha with
  | dir h1 h2 h3 =>
    rintro ⟨o, ho, hall⟩
    rw [h1] at ho
    obtain rfl := Option.some.inj ho
    exact hall _ h2 h3
  | @tr j0 i0 o0 e0 h1 h2 h3 ha ih =>
    rintro ⟨o, ho, hall⟩
    rw [h1] at ho
    obtain rfl := Option.some.inj ho
    have hl := hall _ h2 h3
    have : ∃ o', ops[e0.on]? = some o' := by
      cases ha with
      | dir g => exact ⟨_, g⟩
      | tr g => exact ⟨_, g⟩
    obtain ⟨o', ho'⟩ := this
    exact ih ⟨o', ho', fun e' he' hb' => h _ o' hl ho' e' he' hb'⟩
theorem Closed.step {listed : Array Bool} (h : Closed ops listed) {j : Nat} (hj : j ∈ Region.ready .any ops listed) : Closed ops (listed.setIfInBounds j true) := by
  intro k o hk ho e he hb
  obtain ⟨_, oj, hoj, hall⟩ := mem_ready.1 hj
  by_cases hkj : j = k
  · subst hkj
    rw [hoj] at ho
    obtain rfl := Option.some.inj ho
    exact getD_set_true (hall e he hb)
  · rw [getD_set_ne false hkj] at hk
    exact getD_set_true (h k o hk ho e he hb)
theorem aAny_first {Q : AS → Prop} (hQ : ∀ A B, SameA A B → Q A → Q B) (hn : ∀ i o, ops[i]? = some o → kd P (pf i) o.op ≠ 4) {i : Nat} {oi : Oper} (hi : ops[i]? = some oi) :
    ∀ (fuel : Nat) (listed : Array Bool) (A B : AS), Closed ops listed →
      (∀ j oj, ops[j]? = some oj → j ≠ i → listed.getD j true = false → ¬ Anc ops j i → oi.apart ops oj = true ∧ okPair (kd P (pf i) oi.op) (kd P (pf j) oj.op) = true) →
      i ∈ Region.ready .any ops listed → Ex P mt (pf i) ops oi A B →
      aAny P mt pf ops Q fuel (listed.setIfInBounds i true) B → aAny P mt pf ops Q (fuel + 1) listed A := by
  intro fuel
  have hnow : ∀ (K : AS → Prop) (A B : AS), Ex P mt (pf i) ops oi A B → K B → qOp P mt pf ops i K A := by
    intro K A B hy hk
    unfold qOp; simp only [hi]; exact ⟨B, hy, hk⟩
  induction fuel with
  | zero =>
    intro listed A B hcl _ hr hy H
    refine ⟨fun h => (by rw [h] at hr; cases hr), fun j hj => ?_⟩
    by_cases hji : j = i
    · subst hji; exact hnow _ A B hy H
    · have := ready_mono hj hji
      rw [H.1] at this
      cases this
  | succ fuel ih =>
    intro listed A B hcl hfree hr hy H
    refine ⟨fun h => (by rw [h] at hr; cases hr), fun j hj => ?_⟩
    by_cases hji : j = i
    · subst hji; exact hnow _ A B hy H
    · have h1 := H.2 j (ready_mono hj hji)
      obtain ⟨hjun, oj, hoj, hall⟩ := mem_ready.1 hj
      have hiun : listed.getD i false ≠ true := by
        have g0 := (mem_ready.1 hr).1
        intro g1
        rcases Nat.lt_or_ge i listed.size with h' | h'
        · simp [h'] at g0 g1; rw [g0] at g1; cases g1
        · simp [Array.getElem?_eq_none h'] at g1
      have hnot : ¬ Anc ops j i := fun ha => hiun (hcl.anc ha ⟨oj, hoj, hall⟩)
      obtain ⟨c1, c2⟩ := hfree j oj hoj hji hjun hnot
      unfold qOp at h1
      simp only [hoj] at h1
      obtain ⟨C, hC, hrest⟩ := h1
      obtain ⟨D, E, hD, hE, hs⟩ := Ex.comm c1 c2 hy hC
      unfold qOp
      simp only [hoj]
      refine ⟨D, hD, ih (listed.setIfInBounds j true) D E (hcl.step hj) (fun k ok hk hki hun hno => hfree k ok hk hki ?_ hno) (ready_mono hr (Ne.symm hji)) hE ?_⟩
      · by_cases hjk : j = k
        · subst hjk; exact hjun
        · rw [getD_set_ne true hjk] at hun; exact hun
      · rw [Array.setIfInBounds_comm _ _ hji]
        exact aAny_same hQ hn fuel _ C E hs hrest
end
end Go.Proofs.Ytimfnpjcedjmiaa
