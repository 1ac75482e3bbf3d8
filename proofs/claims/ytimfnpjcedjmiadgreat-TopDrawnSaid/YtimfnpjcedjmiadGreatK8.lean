/- Lemmas. -/
import Derived.Test.YtimfnpjcedjmiadGreatK7
set_option maxRecDepth 100000
set_option maxHeartbeats 64000000
set_option linter.all false
namespace Go.Proofs.YtimfnpjcedjmiadGreat
open Go.RowKit
inductive Pl where
 | done
 | op (i : Nat) (r : Pl)
 | br (i : Nat) (a : Pl) (j : Nat) (b : Pl)
 | b3 (i : Nat) (a : Pl) (j : Nat) (b : Pl) (k : Nat) (c : Pl)
 | b4 (i : Nat) (a : Pl) (j : Nat) (b : Pl) (k : Nat) (c : Pl) (l : Nat) (d : Pl)
def zos : List (Nat × Pl) -> Nat -> Option Pl
 | [], _ => none
 | (i, c) :: l, j => match Nat.beq i j with
  | true => some c
  | false => zos l j
def zbh (P : Program) (mt : Mut) (ops : Array Oper) (pl : Pl) : (AS -> Prop) -> AS -> Prop :=
 Pl.rec (motive := fun _ => (AS -> Prop) -> AS -> Prop) (fun K A => K A)
  (fun i _ ir K A => nthK ops.toList i fun o => vone P mt false ops o (ir K) A)
  (fun i _ j _ ia ib K A => (nthK ops.toList i fun o => vone P mt false ops o (ia K) A) /\ nthK ops.toList j fun o => vone P mt false ops o (ib K) A)
  (fun i _ j _ k _ ia ib ic K A => (nthK ops.toList i fun o => vone P mt false ops o (ia K) A) /\ (nthK ops.toList j fun o => vone P mt false ops o (ib K) A) /\ nthK ops.toList k fun o => vone P mt false ops o (ic K) A)
  (fun i _ j _ k _ l _ ia ib ic id K A => (nthK ops.toList i fun o => vone P mt false ops o (ia K) A) /\ (nthK ops.toList j fun o => vone P mt false ops o (ib K) A) /\ (nthK ops.toList k fun o => vone P mt false ops o (ic K) A) /\ nthK ops.toList l fun o => vone P mt false ops o (id K) A) pl
def safeP (P : Program) (ops : Array Oper) (b : List Nat) (listed : Array Bool) (i : Nat) : Bool :=
 (List.range ops.size).all fun j => j == i || listed.getD j true || anc b j i || (match ops[i]?, ops[j]? with
  | some oi, some oj => oi.apart ops oj && zfU (kd P false oi.op) (kd P false oj.op)
  | _, _ => true)
def zbG (P : Program) (ops : Array Oper) (b : List Nat) : Pl -> Nat -> Array Bool -> Bool
 | .done, _, listed => (Region.ready .any ops listed).isEmpty
 | .op i r, n, listed => match n with
  | 0 => false
  | n + 1 => (Region.ready .any ops listed).contains i && safeP P ops b listed i && zbG P ops b r n (listed.setIfInBounds i true)
 | .br i a j c, n, listed => match n with
  | 0 => false
  | n + 1 => (Region.ready .any ops listed).contains i && (Region.ready .any ops listed).all (fun k => k == i || k == j) && zbG P ops b a n (listed.setIfInBounds i true) && zbG P ops b c n (listed.setIfInBounds j true)
 | .b3 i a j c l d, n, listed => match n with
  | 0 => false
  | n + 1 => (Region.ready .any ops listed).contains i && (Region.ready .any ops listed).all (fun k => k == i || k == j || k == l) && zbG P ops b a n (listed.setIfInBounds i true) && zbG P ops b c n (listed.setIfInBounds j true) && zbG P ops b d n (listed.setIfInBounds l true)
 | .b4 i a j c l d m e, n, listed => match n with
  | 0 => false
  | n + 1 => (Region.ready .any ops listed).contains i && (Region.ready .any ops listed).all (fun k => k == i || k == j || k == l || k == m) && zbG P ops b a n (listed.setIfInBounds i true) && zbG P ops b c n (listed.setIfInBounds j true) && zbG P ops b d n (listed.setIfInBounds l true) && zbG P ops b e n (listed.setIfInBounds m true)
def zja (P : Program) (ops : Array Oper) (pl : Pl) : Bool :=
 ((
  List.range ops.size).all fun i => match ops[i]? with
  | some o => kd P false o.op != 4
  | none => true) && zbG P ops (bef ops) pl ops.size (Array.replicate ops.size false)
section
variable {P : Program} {mt : Mut} {ops : Array Oper}
theorem zge {o : Oper} {K : AS -> Prop} {A B : AS} (hnk : kd P false o.op ≠ 4) (hs : zag A B) (h : vone P mt false ops o K A) : ∃ C B', Ex P mt false ops o B B' /\ zag C B' /\ K C := by
 have h' : zcE P mt (fun _ => false) ops 0 [o] K A := h
 obtain ⟨fr', hfr, hv⟩ := zfH h'
 exact Y31
theorem zcF {listed : Array Bool} {i : Nat} (h : (Region.ready .any ops listed).contains i = true) : i ∈ Region.ready .any ops listed := by simpa using h
theorem zcW {Q : AS -> Prop} (hQ : ∀ A B, zag A B -> Q A -> Q B) (hn : ∀ (i : Nat) (o : Oper), ops[i]? = some o -> kd P false o.op ≠ 4) :
  ∀ (pl : Pl) (n : Nat) (listed : Array Bool) (A B : AS), zag A B -> zf1 ops listed -> zbG P ops (bef ops) pl n listed = true -> zbh P mt ops pl Q A -> aAny P mt (fun _ => false) ops Q n listed B
 | .done, n, listed, A, B, hs, hcl, hok, h => by
  have hr : Region.ready .any ops listed = [] := by
   unfold zbG at hok
   exact List.isEmpty_iff.1 hok
  cases n with
  | zero => exact ⟨hr, hQ A B hs h⟩
  | succ n => exact ⟨fun _ => hQ A B hs h, fun i hi => by rw [hr] at hi; cases hi⟩
 | .op i r, n, listed, A, B, hs, hcl, hok, h => by
  cases n with
  | zero => simp [zbG] at hok
  | succ n =>
   simp only [zbG, Bool.and_eq_true] at hok
   obtain ⟨⟨h1, h2⟩, h3⟩ := hok
   have hr := zcF h1
   obtain ⟨o, ho, hv⟩ := zaH (show nthK ops.toList i (fun o => vone P mt false ops o (zbh P mt ops r Q) A) from h)
   have ho' : ops[i]? = some o := by simpa using ho
   obtain ⟨C, B', hE, hsC, hK⟩ := zge (hn i o ho') hs hv
   refine zh1 hQ hn ho' n listed B B' hcl (fun j oj hj hne hun hno => ?_) hr hE (zcW hQ hn r n _ C B' hsC (hcl.step hr) h3 hK)
   simp only [safeP, List.all_eq_true, List.mem_range, Bool.or_eq_true] at h2
   rcases h2 j (Array.getElem?_eq_some_iff.1 hj).1 with ((g | g) | g) | g
   ·exact absurd (by simpa using g) hne
   ·rw [hun] at g; cases g
   ·exact absurd (znl g) hno
   ·rw [ho', hj] at g
    simpa [Bool.and_eq_true] using g
 | .br i a j b, n, listed, A, B, hs, hcl, hok, h => by
  cases n with
  | zero => simp [zbG] at hok
  | succ n =>
   simp only [zbG, Bool.and_eq_true] at hok
   obtain ⟨⟨⟨h1, h2⟩, h3⟩, h4⟩ := hok
   have hr := zcF h1
   refine ⟨fun e => (by rw [e] at hr; cases hr), fun k hk => ?_⟩
   have hk2 := List.all_eq_true.1 h2 k hk
   simp only [Bool.or_eq_true, beq_iff_eq] at hk2
   have hA := (show (nthK ops.toList i fun o => vone P mt false ops o (zbh P mt ops a Q) A) /\ nthK ops.toList j fun o => vone P mt false ops o (zbh P mt ops b Q) A from h)
   rcases hk2 with rfl | rfl
   ·exact Y36
   ·obtain ⟨o, ho, hv⟩ := zaH hA.2
    exact Y41
 | .b3 i a j b l c, n, listed, A, B, hs, hcl, hok, h => by
  cases n with
  | zero => simp [zbG] at hok
  | succ n =>
   simp only [zbG, Bool.and_eq_true] at hok
   obtain ⟨⟨⟨⟨h1, h2⟩, h3⟩, h4⟩, h5⟩ := hok
   have hr := zcF h1
   refine ⟨fun e => (by rw [e] at hr; cases hr), fun k hk => ?_⟩
   have hk2 := List.all_eq_true.1 h2 k hk
   simp only [Bool.or_eq_true, beq_iff_eq] at hk2
   have hA := (show (nthK ops.toList i fun o => vone P mt false ops o (zbh P mt ops a Q) A) /\ (nthK ops.toList j fun o => vone P mt false ops o (zbh P mt ops b Q) A) /\ nthK ops.toList l fun o => vone P mt false ops o (zbh P mt ops c Q) A from h)
   rcases hk2 with (rfl | rfl) | rfl
   ·exact Y36
   ·obtain ⟨o, ho, hv⟩ := zaH hA.2.1
    exact Y41
   ·obtain ⟨o, ho, hv⟩ := zaH hA.2.2
    exact Y71
 | .b4 i a j b l c q d, n, listed, A, B, hs, hcl, hok, h => by
  cases n with
  | zero => simp [zbG] at hok
  | succ n =>
   simp only [zbG, Bool.and_eq_true] at hok
   obtain ⟨⟨⟨⟨⟨h1, h2⟩, h3⟩, h4⟩, h5⟩, h6⟩ := hok
   have hr := zcF h1
   refine ⟨fun e => (by rw [e] at hr; cases hr), fun k hk => ?_⟩
   have hk2 := List.all_eq_true.1 h2 k hk
   simp only [Bool.or_eq_true, beq_iff_eq] at hk2
   have hA := (show (nthK ops.toList i fun o => vone P mt false ops o (zbh P mt ops a Q) A) /\ (nthK ops.toList j fun o => vone P mt false ops o (zbh P mt ops b Q) A) /\ (nthK ops.toList l fun o => vone P mt false ops o (zbh P mt ops c Q) A) /\ nthK ops.toList q fun o => vone P mt false ops o (zbh P mt ops d Q) A from h)
   rcases hk2 with ((rfl | rfl) | rfl) | rfl
   ·exact Y36
   ·obtain ⟨o, ho, hv⟩ := zaH hA.2.1
    exact Y41
   ·obtain ⟨o, ho, hv⟩ := zaH hA.2.2.1
    exact Y71
   ·obtain ⟨o, ho, hv⟩ := zaH hA.2.2.2
    have ho' : ops[k]? = some o := by simpa using ho
    obtain ⟨C, B', hE, hsC, hK⟩ := zge (hn k o ho') hs hv
    unfold qOp
    simp only [ho']
    exact ⟨B', hE, zcW hQ hn d n _ C B' hsC (hcl.step hk) h6 hK⟩
theorem zbJ {o : Oper} {K K' : AS -> Prop} {A : AS} (hnk : kd P false o.op ≠ 4) (hk : ∀ B, K B -> K' B) (h : vone P mt false ops o K A) : vone P mt false ops o K' A := by
 obtain ⟨fr, mem⟩ := A
 simp only [vone, vpt_eq, ziG] at h ⊢
 split at h
 ·exact (zdq hnk).mono2 (fun m v hv => hk _ hv) h
 ·split at h
  ·simp only [zdf] at h ⊢
   split at h
   ·exact ⟨fun hb => (zdq hnk).mono2 (fun m v hv => hk _ hv) (h.1 hb), fun hb => hk _ (h.2 hb)⟩
   ·exact hk _ h
   ·exact h.elim
  ·exact h.elim
theorem zak (hn : ∀ (i : Nat) (o : Oper), ops[i]? = some o -> kd P false o.op ≠ 4) {K K' : AS -> Prop} (hk : ∀ B, K B -> K' B) : ∀ (pl : Pl) (A : AS), zbh P mt ops pl K A -> zbh P mt ops pl K' A
 | .done, A, h => hk A h
 | .op i r, A, h => by
  obtain ⟨o, ho, hv⟩ := zaH (show nthK ops.toList i (fun o => vone P mt false ops o (zbh P mt ops r K) A) from h)
  exact zb8 ho (zbJ (hn i o (by simpa using ho)) (fun B hB => zak hn hk r B hB) hv)
 | .br i a j b, A, h => by
  have hA := (show (nthK ops.toList i fun o => vone P mt false ops o (zbh P mt ops a K) A) /\ nthK ops.toList j fun o => vone P mt false ops o (zbh P mt ops b K) A from h)
  obtain ⟨o, ho, hv⟩ := zaH hA.1
  obtain ⟨o2, ho2, hv2⟩ := zaH hA.2
  exact ⟨zb8 ho (zbJ (hn i o (by simpa using ho)) (fun B hB => zak hn hk a B hB) hv), zb8 ho2 (zbJ (hn j o2 (by simpa using ho2)) (fun B hB => zak hn hk b B hB) hv2)⟩
 | .b3 i a j b l c, A, h => by
  have hA := (show (nthK ops.toList i fun o => vone P mt false ops o (zbh P mt ops a K) A) /\ (nthK ops.toList j fun o => vone P mt false ops o (zbh P mt ops b K) A) /\ nthK ops.toList l fun o => vone P mt false ops o (zbh P mt ops c K) A from h)
  obtain ⟨o, ho, hv⟩ := zaH hA.1
  obtain ⟨o2, ho2, hv2⟩ := zaH hA.2.1
  obtain ⟨o3, ho3, hv3⟩ := zaH hA.2.2
  exact ⟨zb8 ho (zbJ (hn i o (by simpa using ho)) (fun B hB => zak hn hk a B hB) hv), zb8 ho2 (zbJ (hn j o2 (by simpa using ho2)) (fun B hB => zak hn hk b B hB) hv2), zb8 ho3 (zbJ (hn l o3 (by simpa using ho3)) (fun B hB => zak hn hk c B hB) hv3)⟩
 | .b4 i a j b l c q d, A, h => by
  have hA := (show (nthK ops.toList i fun o => vone P mt false ops o (zbh P mt ops a K) A) /\ (nthK ops.toList j fun o => vone P mt false ops o (zbh P mt ops b K) A) /\ (nthK ops.toList l fun o => vone P mt false ops o (zbh P mt ops c K) A) /\ nthK ops.toList q fun o => vone P mt false ops o (zbh P mt ops d K) A from h)
  obtain ⟨o, ho, hv⟩ := zaH hA.1
  obtain ⟨o2, ho2, hv2⟩ := zaH hA.2.1
  obtain ⟨o3, ho3, hv3⟩ := zaH hA.2.2.1
  obtain ⟨o4, ho4, hv4⟩ := zaH hA.2.2.2
  exact ⟨zb8 ho (zbJ (hn i o (by simpa using ho)) (fun B hB => zak hn hk a B hB) hv), zb8 ho2 (zbJ (hn j o2 (by simpa using ho2)) (fun B hB => zak hn hk b B hB) hv2), zb8 ho3 (zbJ (hn l o3 (by simpa using ho3)) (fun B hB => zak hn hk c B hB) hv3), zb8 ho4 (zbJ (hn q o4 (by simpa using ho4)) (fun B hB => zak hn hk d B hB) hv4)⟩
variable {n : Nat} {fp : Nat -> Prop} {w0 : Start}
theorem zn4 {σ : zaM} {μ : zaJ} {Ds : Nat -> Nat -> Prop} {A : AS} {a : Act} {w : World} {id : Nat} {pl : Pl} {Q : Exit -> Act -> World -> Prop} {K : AS -> Prop} (hm : P.follows .mixedOrders = true) (hB : zja P ops pl = true)
  (hd : (ops.all fun o => match o.dst with | some t => decide (t < n) | none => true) = true) (hQ : ∀ a w, zga n fp w0 K a w -> Q .normal a w) (h : Rel n fp w0 σ μ Ds A a w) (hq : zbh P mt ops pl K A) : (Code.region id ops true).wp P Q a w := by
 simp only [zja, Bool.and_eq_true, List.all_eq_true, List.mem_range] at hB
 obtain ⟨h1, h2⟩ := hB
 refine wp_region_any hm ?_
 have hn : ∀ (i : Nat) (o : Oper), ops[i]? = some o -> kd P false o.op ≠ 4 := by
  intro i o ho
  have := h1 i (Array.getElem?_eq_some_iff.1 ho).1
  rw [ho] at this
  simpa using this
 have hcl : zf1 ops (Array.replicate ops.size false) := by
  intro j o hj
  exfalso
  simp [Array.getD_eq_getD_getElem?, Array.getElem?_replicate] at hj
  split at hj <;> simp at hj
 have key := zcW (P := P) (mt := mt) (ops := ops) (Q := fun A => ∃ B, zag B A /\ K B) (fun A B hs ⟨C, g1, g2⟩ => ⟨C, g1.trans hs, g2⟩) hn pl ops.size (Array.replicate ops.size false) A A (zag.refl A) hcl h2 (zak hn (fun B hB => ⟨B, zag.refl B, hB⟩) pl A hq)
 refine zbV (fp := fp) (w0 := w0) (Q := fun A => ∃ B, zag B A /\ K B) (fun a w ⟨A', σ', μ', Ds', ⟨B, hs, hk⟩, hr⟩ => hQ a w ⟨B, σ', μ', Ds', hk, hr.same hs.symm⟩) ?_ _ _ A σ μ Ds a _ h.drew (by simpa using key)
 intro i o t ho ht
 have := Array.all_eq_true_iff_forall_mem.1 hd o (Array.mem_of_getElem? ho)
 rw [ht] at this
 simpa using this
end
def pawp (ps : List (Nat × Pl)) (P : Program) (mt : Mut) (k : Nat) (cuts : List Nat) (c : Code) : (AS -> Prop) -> (Nat -> AS -> Prop) -> (AS -> Prop) -> AS -> Prop :=
 Code.rec (motive := fun _ => (AS -> Prop) -> (Nat -> AS -> Prop) -> (AS -> Prop) -> AS -> Prop)
  (fun K _ _ A => K A)
  (fun id ops draw K _ _ A => match draw with
   | true => match zos ps id with
    | some pl => zbh P mt ops pl K A
    | none => zcE P mt (pfOf P ops (bef ops)) ops 0 ops.toList K A
   | false => zcE P mt (fun _ => false) ops 0 ops.toList K A)
  (fun _ y ix iy K X R A => match cutAt cuts y with
   | some i => StopSeq k i (fun K' => ix K' X R) (iy K X R) A
   | none => ix (iy K X R) X R A)
  (fun c _ _ ix iy K X R A => evV A.fr c fun v => match v with
   | .v (.bool b) => (b = true -> ix K X R A) /\ (b = false -> iy K X R A)
   | _ => False)
  (fun id _ ic K X R A => ic K (fun i A => match Nat.beq i id with
   | true => K A
   | false => X i A) R A)
  (fun _ ic _ X R A => StopLoop k (fun K' => ic K' X R) A)
  (fun _ _ _ _ _ _ _ _ _ _ => False)
  (fun id _ X _ A => X id A)
  (fun _ ic K X R A => ic K X R A)
  (fun _ K _ _ A => K A)
  (fun _ _ _ _ _ => False)
  (fun _ _ R A => R A)
  (fun _ _ _ _ _ => False) c
section
variable {ps : List (Nat × Pl)} {P : Program} {mt : Mut} {k : Nat} {cuts : List Nat} {K : AS -> Prop} {X : Nat -> AS -> Prop} {R : AS -> Prop} {A : AS} {x y : Code} {c : Operand}
theorem zjh {id : Nat} {ops : Array Oper} {draw : Bool} : pawp ps P mt k cuts (.region id ops draw) K X R A = match draw with
   | true => match zos ps id with
    | some pl => zbh P mt ops pl K A
    | none => zcE P mt (pfOf P ops (bef ops)) ops 0 ops.toList K A
   | false => zcE P mt (fun _ => false) ops 0 ops.toList K A := rfl
theorem pawp_seq : pawp ps P mt k cuts (.seq x y) K X R A = match cutAt cuts y with
   | some i => StopSeq k i (fun K' => pawp ps P mt k cuts x K' X R) (pawp ps P mt k cuts y K X R) A
   | none => pawp ps P mt k cuts x (pawp ps P mt k cuts y K X R) X R A := rfl
theorem zoY : pawp ps P mt k cuts (.cond c x y) K X R A = evV A.fr c fun v => match v with
   | .v (.bool b) => (b = true -> pawp ps P mt k cuts x K X R A) /\ (b = false -> pawp ps P mt k cuts y K X R A)
   | _ => False := rfl
end
def zb5 (ps : List (Nat × Pl)) (P : Program) (n : Nat) : Code -> Bool
 | .region id ops draw => (ops.all fun o => match o.dst with | some t => decide (t < n) | none => true) && (!draw || (match zos ps id with
  | some pl => zja P ops pl
  | none => zke P ops (pfOf P ops (bef ops))))
 | .seq x y => zb5 ps P n x && zb5 ps P n y
 | .cond _ x y => zb5 ps P n x && zb5 ps P n y
 | .block _ c => zb5 ps P n c
 | .loop c => zb5 ps P n c
 | .scope c => zb5 ps P n c
 | _ => true
section
variable {ps : List (Nat × Pl)} {P : Program} {mt : Mut} {n k : Nat} {cuts : List Nat} {fp : Nat -> Prop} {w0 : Start}
theorem zac (hm : P.follows .mixedOrders = true) (hk : w0.k = k) : ∀ (c : Code) {K : AS -> Prop} {X : Nat -> AS -> Prop} {R : AS -> Prop} {A : AS} {σ : zaM} {μ : zaJ} {Ds : Nat -> Nat -> Prop} {a : Act} {w : World}, zb5 ps P n c = true -> Rel n fp w0 σ μ Ds A a w -> pawp ps P mt k cuts c K X R A -> c.wp P (CPost n fp w0 K X R) a w
 | .skip, K, X, R, A, σ, μ, Ds, a, w, _, h, hq => wp_skip ⟨A, σ, μ, Ds, hq, h⟩
 | .label l, K, X, R, A, σ, μ, Ds, a, w, _, h, hq => wp_label ⟨A, σ, μ, Ds, hq, h⟩
 | .exit id, K, X, R, A, σ, μ, Ds, a, w, _, h, hq => wp_exit ⟨A, σ, μ, Ds, hq, h⟩
 | .ret, K, X, R, A, σ, μ, Ds, a, w, _, h, hq => wp_ret ⟨A, σ, μ, Ds, hq, h⟩
 | .goto l, K, X, R, A, σ, μ, Ds, a, w, _, h, hq => hq.elim
 | .refuse s, K, X, R, A, σ, μ, Ds, a, w, _, h, hq => hq.elim
 | .rangeFunc f p x y, K, X, R, A, σ, μ, Ds, a, w, _, h, hq => hq.elim
 | .region id ops draw, K, X, R, A, σ, μ, Ds, a, w, hok, h, hq => by
  simp only [zb5, Bool.and_eq_true, Bool.or_eq_true, Bool.not_eq_true'] at hok
  obtain ⟨h1, h2⟩ := hok
  rw [zjh] at hq
  cases draw with
  | true =>
   simp only [Bool.true_eq_false, false_or] at h2
   simp only at hq
   cases hf : zos ps id with
   | some pl =>
    rw [hf] at h2 hq
    exact zn4 hm h2 h1 (fun a w he => he) h hq
   | none =>
    rw [hf] at h2 hq
    exact zhP hm h2 h1 (fun a w he => he) h hq
  | false =>
   refine wp_region_list (zc7 (fun a w he => he) _ 0 ?_ h hq)
   intro o ho t ht
   have := Array.all_eq_true_iff_forall_mem.1 h1 o (Array.mem_toList_iff.1 ho)
   rw [ht] at this
   simpa using this
 | .seq x y, K, X, R, A, σ, μ, Ds, a, w, hok, h, hq => by
  simp only [zb5, Bool.and_eq_true] at hok
  rw [pawp_seq] at hq
  split at hq
  ·cases hq with
   | mk hq =>
    refine wp_seq (wp_mono (zac hm hk x hok.1 h hq) ?_)
    intro e a' w' he
    cases e with
    | normal =>
     obtain ⟨A', σ', μ', Ds', ⟨B, hle, hK⟩, hr⟩ := he
     obtain ⟨σ2, μ2, D2, hr2⟩ := hle n fp w0 σ' μ' Ds' a' w' hk hr
     exact zac hm hk y hok.2 hr2 hK
    | _ => exact he
   | mkE hq =>
    refine wp_seq (wp_mono (zac hm hk x hok.1 h hq) ?_)
    intro e a' w' he
    cases e with
    | normal =>
     obtain ⟨A', σ', μ', Ds', hto, hr⟩ := he
     obtain ⟨B, σ2, μ2, D2, hK, hr2⟩ := hto n fp w0 σ' μ' Ds' a' w' hk hr
     exact zac hm hk y hok.2 hr2 hK
    | _ => exact he
  ·refine wp_seq (wp_mono (zac hm hk x hok.1 h hq) ?_)
   intro e a' w' he
   cases e with
   | normal =>
    obtain ⟨A', σ', μ', Ds', hK, hr⟩ := he
    exact zac hm hk y hok.2 hr hK
   | _ => exact he
 | .cond c x y, K, X, R, A, σ, μ, Ds, a, w, hok, h, hq => by
  simp only [zb5, Bool.and_eq_true] at hok
  rw [zoY] at hq
  simp only [evV_eq] at hq
  split at hq
  ·rename_i b hb
   have hc : a.eval c = .bool b := by have := h.ev c; rw [hb] at this; exact this.inv_v
   refine wp_cond hc ?_
   cases b with
   | true => exact zac hm hk x hok.1 h (hq.1 rfl)
   | false => exact zac hm hk y hok.2 h (hq.2 rfl)
  ·exact hq.elim
 | .block id c, K, X, R, A, σ, μ, Ds, a, w, hok, h, hq => by
  refine wp_block (wp_mono (zac hm hk c hok h hq) ?_)
  intro e a' w' he
  cases e with
  | exit i =>
   obtain ⟨A', σ', μ', Ds', hK, hr⟩ := he
   simp only [Exit.inBlock]
   split
   ·rename_i hi
    subst hi
    simp only [Nat.beq_refl] at hK
    exact ⟨A', σ', μ', Ds', hK, hr⟩
   ·exact Y72
  | _ => exact he
 | .scope c, K, X, R, A, σ, μ, Ds, a, w, hok, h, hq => by
  refine wp_scope_straight (wp_mono (zac hm hk c hok h hq) ?_)
  intro e a' w' he
  cases e <;> exact he
 | .loop c, K, X, R, A, σ, μ, Ds, a, w, hok, h, hq => by
  obtain ⟨I, ⟨n0, B, hle, hI⟩, hround⟩ := hq
  have J0 : ∃ j B σ μ Ds, I j B /\ Rel n fp w0 σ μ Ds B a w := by
   exact Y98
  let J : Act -> World -> Nat -> Prop := fun a w j => ∃ B σ μ Ds, I j B /\ Rel n fp w0 σ μ Ds B a w
  let m : Act -> World -> Nat := fun a w => @dite _ (∃ j, J a w j) (Classical.propDecidable _) (fun h => Classical.choose (zcJ h)) (fun _ => 0)
  have hm1 : ∀ a w, (∃ j, J a w j) -> J a w (m a w) /\ ∀ j, j < m a w -> ¬ J a w j := by
   intro a w h
   have := Classical.choose_spec (zcJ h)
   simp only [m, dif_pos h]
   exact this
  refine wp_loop (fun a w => ∃ j, J a w j) m J0 ?_
  intro a w hJ
  obtain ⟨⟨B, σ, μ, Ds, hI, hr⟩, hmin⟩ := hm1 a w hJ
  refine wp_mono (zac hm hk c hok hr (hround _ B hI)) ?_
  intro e a' w' he
  cases e with
  | normal =>
   obtain ⟨A', σ', μ', Ds', ⟨j, B', hj, hle', hI'⟩, hr'⟩ := he
   obtain ⟨σ2, μ2, D2, hr2⟩ := hle' n fp w0 σ' μ' Ds' a' w' hk hr'
   have hJ' : J a' w' j := ⟨B', σ2, μ2, D2, hI', hr2⟩
   refine ⟨⟨j, hJ'⟩, ?_⟩
   have := (hm1 a' w' ⟨j, hJ'⟩).2
   rcases Nat.lt_or_ge j (m a' w') with g | g
   ·exact absurd hJ' (this j g)
   ·omega
  | _ => exact he
end
theorem fn_plan {P : Program} (hm : P.follows .mixedOrders = true) (ps : List (Nat × Pl)) (mt : Mut) (cuts : List Nat) {f : FuncId} {fn : Func} {c : Code} {args : List AV} {m : List Res} {r : AV} {m' : List Res} (hf : P.funcs[f]? = some fn) (hb : fn.body = some c) (hname : (fn.name == "runtime.NumGoroutine") = false)
  {n : Nat} (hn : fn.ntmps = n) (hle : Nat.ble args.length n = true) {rs : List ResultVar} (hrs : fn.results.toList = rs) (h0 : gen0 m = true) (hok : zb5 ps P n c = true)
  (h : pawp ps P mt m.length cuts c (zhD P m.length rs r m') (fun _ _ => False) (zhD P m.length rs r m') ⟨zel 0 args, m⟩) : Fn P f args m r m' := by
 subst hn hrs
 refine ⟨⟨fn, hf, by rw [hb]; rfl, hname⟩, fun w σ μ Ds vs hag hmem hlen hargs => ?_⟩
 have hle := Nat.le_of_ble_eq_true hle
 refine calls_of_wp hf hb ?_
 let w0 : Start := ⟨w, σ, μ, m.length, fun i ao n cap g hi => by
  have hlt : i < m.length := by
   exact Y75
  obtain ⟨z1, z2⟩ := zdc h0 i _ (List.getElem?_eq_getElem hlt)
  obtain ⟨an, x1, x2⟩ := MemOk.an (A := ⟨[], m⟩) hmem (List.getElem?_eq_getElem hlt) z1
  rw [hi] at x1
  obtain rfl := Option.some.inj x1
  rcases x2 with ⟨v, e, _⟩ | ⟨_, _, _, gA, e, hg⟩
  ·cases e
  ·cases e
   rw [hg] at z2
   exact z2⟩
 have hrel : Rel fn.ntmps (fun b => ∃ id, Ds id b) w0 σ μ Ds ⟨zel 0 args, m⟩ { tmps := vs ++ Array.replicate (fn.ntmps - vs.size) undef, defers := [] } w := by
  exact Y15
 refine wp_mono (zac hm rfl c hok hrel h) ?_
 have fin : ∀ a' w', zga fn.ntmps (fun b => ∃ id, Ds id b) w0 (zhD P m.length fn.results.toList r m') a' w' -> a'.defers = [] /\ ∃ v, (results fn a'.tmps).run P w' = .ok v w' ∧
   ∃ x σ' μ' Ds', (Ending.returned v : Ending) = .returned x /\ Post σ μ Ds w r m' x σ' μ' Ds' w' := by
  rintro a' w' ⟨A0, σ0, μ0, Ds0, ⟨A, hAB, hr⟩, hrel0⟩
  obtain ⟨σ', μ', Ds', hrel⟩ := hAB _ _ w0 σ0 μ0 Ds0 a' w' rfl hrel0
  obtain ⟨x, v, h1, h2, ρ, hnd, hp, hM, hK⟩ := zjg hrel hr
  refine ⟨hrel.defers, x, h1, x, σ', subG μ' ρ m', subD Ds' ρ m', rfl, ⟨h2.sub hrel.mem hK, hrel.mem.sub (of_decide_eq_true hnd) hM, zgE hrel hp hM, hrel.agree, hrel.keeps, fun b o hb hf => hrel.old b o hb hf, hrel.mono, fun id b hb => ?_⟩⟩
  obtain ⟨⟨i, _, h4⟩, _⟩ := hb
  exact hrel.own i b h4
 intro e a' w' he
 cases e with
 | normal => exact fin a' w' he
 | ret => exact fin a' w' he
 | exit id => obtain ⟨A, σ', μ, Ds, hr, hrel⟩ := he; exact hr.elim
 | _ => exact he.elim
theorem foP {P : Program} (hm : P.follows .mixedOrders = true) (ps : List (Nat × Pl)) (mt : Mut) (cuts : List Nat) {f : FuncId} {fn : Func} {c : Code} {args : List AV} {m : List Res} {r : AV} {m' : List Res} (hf : P.funcs[f]? = some fn) {n : Nat} (hn : fn.ntmps = n) {rs : Array ResultVar} (hrs : fn.results = rs) (h : pawp ps P mt m.length cuts c (zhD P m.length rs.toList r m') (fun _ _ => False) (zhD P m.length rs.toList r m') ⟨zel 0 args, m⟩) (hb : fn.body = some c := by exact rfl) (hname : (fn.name == "runtime.NumGoroutine") = false := by decide +kernel) (hle : Nat.ble args.length n = true := by exact rfl) (h0 : gen0 m = true := by exact rfl) (hok : zb5 ps P n c = true := by decide +kernel) : Fn P f args m r m' := fn_plan hm ps mt cuts hf hb hname hn hle (congrArg Array.toList hrs) h0 hok h
def zbq (m : List Res) : OPred where
 rep σ w b D := ∃ μ Ds, MemOk σ μ w m Ds /\ μ 0 = some (.fix (.pointer (some ⟨b, 0, none⟩))) /\ ∀ k, D k ↔ ∃ i, Ds i k
 ext := by
  rintro σ σ' w w' x D ⟨μ, Ds, h1, h2, h3⟩ hw hs
  exact ⟨μ, Ds, ⟨fun id r hr => (h1.ok id r hr).ext rfl (Gle.refl _) (fun b hb => hw b ((h3 b).2 ⟨id, hb⟩)) hs, h1.apart, h1.out⟩, h2, h3⟩
 live := by
  rintro σ w x D b ⟨μ, Ds, h1, h2, h3⟩ hb
  obtain ⟨i, hi⟩ := (h3 b).1 hb
  exact h1.live hi
theorem shA_zero (a : An) : shA 0 a = a := by cases a <;> simp [shA]
theorem zoj {g : List (Nat × Nat)} {l : List Res} {j : Nat} : (zbI g l)[j]? = l[j]?.map (renR g 0) := by rw [ze4, List.getElem?_map]
theorem zmj {g : List (Nat × Nat)} {l : List Res} : (zbI g l).length = l.length := by rw [ze4, List.length_map]
theorem zlI {σ : zaM} {μ μE : zaJ} {w : World} {mE mt : List Res} {DE : Nat -> Nat -> Prop} {ρ : List Nat} {L : Nat} (hm : MemOk σ μE w mE DE) (hag : zeJ σ w) (hg : ∀ i a, i < L -> μ i = some a -> ∃ a', μE i = some a' /\ a.le a') (hz : ∀ i ao n cap g, i < L -> μ i = some (.cur ao n cap g) -> g = 0)
  (hp : zdd mE 0 L ρ mt = true) (hM : RM mE mt ρ ρ mt) (hL : L <= mE.length) : ∀ i a, i < L -> μ i = some a -> ∃ a', subG μE ρ mt i = some a' /\ a.le a' := by
 let w0 : Start := ⟨w, σ, fun i => if i < L then μ i else none, L, (fun i ao n cap g hi => by
  have hi' : (if i < L then μ i else none) = some (.cur ao n cap g) := hi
  split at hi'
  ·exact hz i ao n cap g (by assumption) hi'
  ·cases hi')⟩
 have hrel : Rel 0 (fun _ => True) w0 σ μE DE ⟨[], mE⟩ { tmps := #[], defers := [] } w :=
  ⟨rfl, rfl, fun t av h => (by cases h), hag, hm, fun _ _ _ => .inr trivial, ⟨rfl, rfl, rfl, Nat.le_refl _, fun _ _ _ => rfl⟩, fun _ _ _ h => absurd trivial h, fun _ _ _ h => h, (fun i a ha => by
   have ha' : (if i < L then μ i else none) = some a := ha
   split at ha'
   ·exact hg i a (by assumption) ha'
   ·cases ha'), (fun i hi => if_neg (Nat.not_lt.2 hi)), hL⟩
 have := zgE hrel hp hM
 intro i a hi ha
 exact this i a ((if_pos hi).trans ha)
theorem zi2 {σ : zaM} {μ : zaJ} {w : World} {m : List Res} {Ds : Nat -> Nat -> Prop} (h : MemOk σ μ w m Ds) {k : Nat} (h0 : gen0 (m.take k) = true) : ∀ i ao n cap g, i < k -> μ i = some (.cur ao n cap g) -> g = 0 := by
 intro i ao n cap g hik hi
 have hlt : i < m.length := by
  rcases Nat.lt_or_ge i m.length with q | q
  ·exact q
  ·rw [(h.out i q).1] at hi; cases hi
 obtain ⟨z1, z2⟩ := zdc h0 i m[i] (by rw [List.getElem?_take, if_pos hik, List.getElem?_eq_getElem hlt])
 obtain ⟨an, x1, x2⟩ := MemOk.an (A := ⟨[], m⟩) h (List.getElem?_eq_getElem hlt) z1
 rw [hi] at x1
 obtain rfl := Option.some.inj x1
 rcases x2 with ⟨v, e, _⟩ | ⟨_, _, _, gA, e, hg⟩
 ·cases e
 ·cases e
  rw [hg] at z2
  exact z2
def zk3 (L : Nat) (ρ κ : List Nat) : Bool := (List.range ρ.length).all fun j => j == L || !κ.contains (ρ.getD j 0)
theorem zhT {L : Nat} {ρ κ : List Nat} (h : zk3 L ρ κ = true) {j i : Nat} (hj : ρ[j]? = some i) (hne : j ≠ L) (hk : i ∈ κ) : False := by
 simp only [zk3, List.all_eq_true, List.mem_range, Bool.or_eq_true, beq_iff_eq, Bool.not_eq_true'] at h
 have hlt := (List.getElem?_eq_some_iff.1 hj).1
 rcases h j hlt with e | e
 ·exact hne e
 ·rw [List.getD_eq_getElem?_getD, hj] at e
  simp only [Option.getD_some] at e
  have : κ.contains i = true := by simpa using hk
  rw [this] at e; cases e
def zjN (m : List Res) : Bool :=
 match m with
 | .cells _ :: _ => true
 | _ => false
theorem za7 {P : Program} {f : FuncId} {args : List AV} {rE r : AV} {pre m mE mt m' : List Res} {ρ κ : List Nat} {L : Nat} (hF : Fn P f args (pre ++ zbI (extG L m.length) m) rE mE) (hL : pre.length = L)
  (h0 : gen0 pre = true) (hρ : decide ρ.Nodup = true) (hκ : decide κ.Nodup = true) (hM : RM mE mt ρ ρ mt) (hO : RM mE m' κ κ m') (hr : RK mE mt ρ rE r) (hp : zdd mE 0 L ρ mt = true)
  (hρL : ρ[L]? = some L) (hκ0 : κ[0]? = some L) (hap : zk3 L ρ κ = true) (hg : (m'.all fun q => !zdN q) = true) : Fn P f args (pre ++ [.obj (zbq m)]) r (mt.set L (.obj (zbq m'))) := by
 subst hL
 refine ⟨hF.1, fun w σ μ Ds vs hag hmem hlen hargs => ?_⟩
 have hLlt : pre.length < (pre ++ [Res.obj (zbq m)]).length := by simp
 obtain ⟨b, hb, μ1, Ds1, hm1, h10, hD1⟩ := hmem.ok pre.length (.obj (zbq m)) (by simp)
 let μc : zaJ := fun i => if i < pre.length then μ i else μ1 (i - pre.length)
 let Dc : Nat -> Nat -> Prop := fun i => if i < pre.length then Ds i else Ds1 (i - pre.length)
 have hout : ∀ i, pre.length < i -> μ i = none := fun i hi => (hmem.out i (by simp; omega)).1
 have hDout : ∀ i k, Ds i k -> i <= pre.length := fun i k hk => by
  rcases Nat.lt_or_ge pre.length i with g | g
  ·exact absurd hk ((hmem.out i (by simp; omega)).2 k)
  ·exact g
 have hgc : Gle μ μc := fun i a ha => by
  rcases Nat.lt_trichotomy i pre.length with g | g | g
  ·exact ⟨a, by simp only [μc, if_pos g]; exact ha, An.le_refl _⟩
  ·subst g
   rw [hb] at ha
   obtain rfl := Option.some.inj ha
   exact ⟨_, by simp only [μc, Nat.lt_irrefl, if_false, Nat.sub_self]; exact h10, An.le_refl _⟩
  ·rw [hout i g] at ha; cases ha
 have hNum : Num (extG pre.length m.length) μ1 μc := fun j a ha => by
  have hj : j < m.length := by
   rcases Nat.lt_or_ge j m.length with q | q
   ·exact q
   ·rw [(hm1.out j q).1] at ha; cases ha
  refine ⟨pre.length + j, 0, by rw [zfb, if_pos hj], ?_⟩
  simp only [μc]
  rw [if_neg (by omega), show pre.length + j - pre.length = j by omega, shA_zero]
  exact ha
 have hDc : ∀ i k, Dc i k -> ∃ j, Ds j k := fun i k hk => by
  simp only [Dc] at hk
  split at hk
  ·exact ⟨i, hk⟩
  ·exact ⟨pre.length, (hD1 k).2 ⟨_, hk⟩⟩
 have hmc : MemOk σ μc w (pre ++ zbI (extG pre.length m.length) m) Dc := by
  refine ⟨fun id q hq => ?_, fun i j k hi hj => ?_, fun id hid => ?_⟩
  ·rw [List.getElem?_append] at hq
   split at hq
   ·rename_i hlt
    simp only [Dc, if_pos hlt]
    exact (hmem.ok id q (by rw [List.getElem?_append_left hlt]; exact hq)).ext (by simp only [μc, if_pos hlt]) hgc (fun _ _ => ⟨rfl, fun _ => rfl⟩) (fun _ _ _ h => h)
   ·rename_i hge
    rw [zoj, Option.map_eq_some_iff] at hq
    obtain ⟨q0, hq0, rfl⟩ := hq
    have hlt := (List.getElem?_eq_some_iff.1 hq0).1
    simp only [Dc, if_neg hge]
    have := (hm1.ok _ q0 hq0).ren hNum (i := id) (s := 0) (by rw [zfb, if_pos hlt]; simp; omega)
    exact this
  ·simp only [Dc] at hi hj
   split at hi <;> split at hj
   ·exact hmem.apart i j k hi hj
   ·have := hmem.apart i pre.length k hi ((hD1 k).2 ⟨_, hj⟩); omega
   ·have := hmem.apart j pre.length k hj ((hD1 k).2 ⟨_, hi⟩); omega
   ·have := hm1.apart _ _ k hi hj; omega
  ·simp only [List.length_append, zmj] at hid
   have h2 := hm1.out (id - pre.length) (by omega)
   refine ⟨by simp only [μc]; rw [if_neg (by omega)]; exact h2.1, fun k hk => ?_⟩
   simp only [Dc] at hk
   rw [if_neg (by omega)] at hk
   exact h2.2 k hk
 refine (hF.2 w σ μc Dc vs hag hmc hlen (fun i av x h1 h2 => (hargs i av x h1 h2).mono (fun _ _ _ h => h) hgc)).mono ?_
 rintro e w' ⟨x, σ', μE, DE, rfl, hpost⟩
 have hs := hpost.mem.sub (of_decide_eq_true hρ) hM
 have ho := hpost.mem.sub (of_decide_eq_true hκ) hO
 have hlM := (RM.get hM).1
 have hLt : pre.length < mt.length := by rw [<- hlM]; exact (List.getElem?_eq_some_iff.1 hρL).1
 have hEL : μE pre.length = some (.fix (.pointer (some ⟨b, 0, none⟩))) := by
  obtain ⟨a', h1, h2⟩ := hpost.gle pre.length (.fix (.pointer (some ⟨b, 0, none⟩))) (by simp only [μc, Nat.lt_irrefl, if_false, Nat.sub_self]; exact h10)
  cases a' with
  | fix v => simp only [An.le] at h2; subst h2; exact h1
  | cur => exact h2.elim
 have hDk : ∀ k, (∃ i, subD DE κ m' i k) -> ∃ i, i ∈ κ /\ DE i k := fun k ⟨i, ⟨i', h1, h2⟩, _⟩ => ⟨i', List.mem_of_getElem? h1, h2⟩
 let D' : Nat -> Nat -> Prop := fun j => if j = pre.length then (fun k => ∃ i, subD DE κ m' i k) else subD DE ρ mt j
 refine ⟨x, σ', subG μE ρ mt, D', rfl, ⟨hpost.rep.sub hpost.mem hr, ⟨fun j q hj => ?_, fun i j k hi hj => ?_, fun j hj => ?_⟩, fun i a ha => ?_, hpost.agree, ?_, fun c o hc hno => hpost.old c o hc (fun ⟨i, hi⟩ => hno (hDc i c hi)), hpost.mono, fun j k hk => ?_⟩⟩
 ·rw [List.getElem?_set] at hj
  by_cases hjL : pre.length = j
  ·subst hjL
   rw [if_pos rfl, if_pos hLt] at hj
   obtain rfl := Option.some.inj hj
   simp only [D', if_true]
   exact ⟨b, zbB hρL hEL, _, _, ho, zbB hκ0 hEL, fun k => Iff.rfl⟩
  ·rw [if_neg hjL] at hj
   simp only [D', if_neg (fun e : j = pre.length => hjL e.symm)]
   exact hs.ok j q hj
 ·exact Y37
 ·exact Y79
 ·rcases Nat.lt_trichotomy i pre.length with g | g | g
  ·have hmt : ∀ i, i < pre.length -> (pre ++ [Res.obj (zbq m)])[i]? = pre[i]? := fun i hi => List.getElem?_append_left hi
   refine zlI (μ := μ) (L := pre.length) hpost.mem hpost.agree (fun i a hi ha => hpost.gle i a (by simp only [μc, if_pos hi]; exact ha)) (zi2 hmem (k := pre.length) (by rw [List.take_left]; exact h0)) hp hM ?_ i a g ha
   rcases Nat.lt_or_ge pre.length mE.length with q | q
   ·omega
   ·rw [(hpost.mem.out _ q).1] at hEL; cases hEL
  ·subst g
   rw [hb] at ha
   obtain rfl := Option.some.inj ha
   exact ⟨_, zbB hρL hEL, An.le_refl _⟩
  ·rw [hout i g] at ha; cases ha
 ·refine ⟨hpost.keeps.os, hpost.keeps.tape, hpost.keeps.output, hpost.keeps.size, fun k hk hno => hpost.keeps.block k hk (fun ⟨i, hi⟩ => hno (hDc i k hi))⟩
 ·have key : ∀ i, DE i k -> w.heap.size <= k \/ ∃ j, Ds j k := fun i hi => by
   rcases hpost.own i k hi with g | ⟨q, hq⟩
   ·exact .inl g
   ·exact .inr (hDc q k hq)
  exact Y80
theorem zeS {P : Program} {f : FuncId} {args : List AV} {rE r : AV} {pre mE mt m' : List Res} {ρ κ : List Nat} {L q0 k0 : Nat} (hF : Fn P f args pre rE mE) (hL : pre.length = k0)
  (h0 : gen0 pre = true) (hρ : decide ρ.Nodup = true) (hκ : decide κ.Nodup = true) (hM : RM mE mt ρ ρ mt) (hO : RM mE m' κ κ m') (hr : RK mE mt ρ rE r) (hp : zdd mE 0 k0 ρ mt = true)
  (hρL : ρ[L]? = some q0) (hκ0 : κ[0]? = some q0) (hap : zk3 L ρ κ = true) (hge : Nat.ble k0 L = true) (hh : zjN m' = true) : Fn P f args pre r (mt.set L (.obj (zbq m'))) := by
 subst hL
 have hge := Nat.le_of_ble_eq_true hge
 refine ⟨hF.1, fun w σ μ Ds vs hag hmem hlen hargs => ?_⟩
 refine (hF.2 w σ μ Ds vs hag hmem hlen hargs).mono ?_
 rintro e w' ⟨x, σ', μE, DE, rfl, hpost⟩
 have hs := hpost.mem.sub (of_decide_eq_true hρ) hM
 have ho := hpost.mem.sub (of_decide_eq_true hκ) hO
 have hlM := (RM.get hM).1
 have hLt : L < mt.length := by rw [<- hlM]; exact (List.getElem?_eq_some_iff.1 hρL).1
 obtain ⟨b, hb⟩ : ∃ b, subG μE κ m' 0 = some (.fix (.pointer (some ⟨b, 0, none⟩))) := by
  unfold zjN at hh
  split at hh
  ·obtain ⟨b, c, T, h1, _⟩ := ho.ok 0 _ (by rfl)
   exact ⟨b, h1⟩
  ·cases hh
 have hEL : μE q0 = some (.fix (.pointer (some ⟨b, 0, none⟩))) := by
  simp only [subG, hκ0, Option.bind_some, Option.map_eq_some_iff] at hb
  obtain ⟨a, ha, hr⟩ := hb
  cases a with
  | fix v => simp only [reG, An.fix.injEq] at hr; subst hr; exact ha
  | cur => simp [reG] at hr
 have hDk : ∀ k, (∃ i, subD DE κ m' i k) -> ∃ i, i ∈ κ /\ DE i k := fun k ⟨i, ⟨i', h1, h2⟩, _⟩ => ⟨i', List.mem_of_getElem? h1, h2⟩
 let D' : Nat -> Nat -> Prop := fun j => if j = L then (fun k => ∃ i, subD DE κ m' i k) else subD DE ρ mt j
 refine ⟨x, σ', subG μE ρ mt, D', rfl, ⟨hpost.rep.sub hpost.mem hr, ⟨fun j q hj => ?_, fun i j k hi hj => ?_, fun j hj => ?_⟩, fun i a ha => ?_, hpost.agree, hpost.keeps, hpost.old, hpost.mono, fun j k hk => ?_⟩⟩
 ·rw [List.getElem?_set] at hj
  by_cases hjL : L = j
  ·subst hjL
   rw [if_pos rfl, if_pos hLt] at hj
   obtain rfl := Option.some.inj hj
   simp only [D', if_true]
   exact ⟨b, zbB hρL hEL, _, _, ho, hb, fun k => Iff.rfl⟩
  ·rw [if_neg hjL] at hj
   simp only [D', if_neg (fun e : j = L => hjL e.symm)]
   exact hs.ok j q hj
 ·exact Y37
 ·exact Y79
 ·have hik : i < pre.length := by
   rcases Nat.lt_or_ge i pre.length with g | g
   ·exact g
   ·rw [(hmem.out i g).1] at ha; cases ha
  refine zlI (μ := μ) (L := pre.length) hpost.mem hpost.agree (fun i a hi ha => hpost.gle i a ha) (zi2 hmem (k := pre.length) (by rw [List.take_length]; exact h0)) hp hM ?_ i a hik ha
  rcases Nat.lt_or_ge mE.length pre.length with q | q
  ·exfalso
   have h1 := (zec hp).2 mE.length q
   rw [Nat.zero_add] at h1
   have hlt : mE.length < mt.length := by
    have := h1.1
    have := (List.getElem?_eq_some_iff.1 this).1
    omega
   obtain ⟨i', r', e1, e2, _⟩ := (RM.get hM).2 mE.length mt[mE.length] (List.getElem?_eq_getElem hlt)
   rw [h1.1] at e1
   obtain rfl := Option.some.inj e1
   have := (List.getElem?_eq_some_iff.1 e2).1
   omega
  ·exact q
 ·have key : ∀ i, DE i k -> w.heap.size <= k \/ ∃ j, Ds j k := fun i hi => hpost.own i k hi
  exact Y80
theorem zjC {k : Nat} {fr : List (Nat × AV)} {mem : List Res} (t id : Nat) {g n E sz : Nat} {rows : List (List AV)} (h : lk fr t = .arr id g n) (hid : mem[id]? = some (.arr true E sz g rows)) :
  AS.le k ⟨fr, mem⟩ ⟨(t, .sl sz (rows.take n) none) :: fr, mem.set id .gone⟩ := by
 intro nn fp w0 σ μ Ds a w hk hr
 have hlt : id < mem.length := (List.getElem?_eq_some_iff.1 hid).1
 obtain ⟨ao, cap, xs, h1, h2, h3, h4, h5, h6⟩ := hr.mem.ok id _ hid
 have hev := hr.ev (.tmp t)
 rw [show evO fr (.tmp t) = lk fr t from rfl, h] at hev
 obtain ⟨ao2, m, cap2, an, hx, k1, k2, k3, hmu, hle⟩ := hev.inv_arr
 rw [h1] at hmu
 obtain rfl := Option.some.inj hmu
 obtain ⟨_, hle⟩ := hle
 obtain ⟨e1, e2, e3⟩ := hle rfl
 subst e1 e3
 let σ' : zaM := fun b o => if blkA ao = some b then xs[o]? else σ b o
 have hs : ∀ b o y, σ b o = some y -> σ' b o = some y := fun b o y hy => by
  dsimp only [σ']
  split
  ·rename_i e
   rw [h5 b ((h6 b).2 e) o] at hy; cases hy
  ·exact hy
 have hag : zeJ σ' w := fun b o y hy => by
  dsimp only [σ'] at hy
  split at hy
  ·rename_i e
   exact zaz h2 e hy
  ·exact hr.agree b o y hy
 have hu := hr.upd (id := id) (r := .gone) (D := fun _ => False) (an := .cur ao rows.length cap g) (σ' := σ') (w' := w) (Nat.le_of_lt hlt) (Nat.le_refl _) rfl rfl rfl
  (fun b hb hd => ⟨rfl, fun o => if_neg (fun e => hd ((h6 b).2 e))⟩) hs hag (fun b hb => hb) (fun b hb => hb.elim) (fun x hx => by rw [h1] at hx; obtain rfl := Option.some.inj hx; exact An.le_refl _)
 have hp : putR mem id .gone = mem.set id .gone := zbY hlt
 rw [show (⟨fr, mem⟩ : AS).mem = mem from rfl, hp] at hu
 have hlen : (rows.take n).length = n := by rw [List.length_take]; omega
 have hrep : RepV σ' (updG μ id (.cur ao rows.length cap g)) (.sl sz (rows.take n) none) (.slice ao n cap) := by
  have hget : ∀ (i : Nat) (r : List AV), (rows.take n)[i]? = some r -> rows[i]? = some r := fun i r hi => by
   rw [List.getElem?_take] at hi
   split at hi
   ·exact hi
   ·cases hi
  have hao : rows.take n = [] \/ ∃ b, ao = some ⟨b, 0, none⟩ := by
   exact Y67
  have key : ∀ b, (rows.take n = [] \/ ao = some ⟨b, 0, none⟩) -> RepV σ' (updG μ id (.cur ao rows.length cap g)) (.sl sz (rows.take n) none) (.slice ao (rows.take n).length cap) := by
   exact Y25
  rcases hao with hao | ⟨b, hao⟩
  ·have := key 0 (.inl hao)
   rw [hlen] at this
   exact this
  ·have := key b (.inr hao)
   rw [hlen] at this
   exact this
 have hx' : a.tmps.getD t undef = .slice ao n cap := hx
 refine ⟨_, _, _, ⟨hu.defers, hu.size, fun u av hu' => ?_, hu.agree, hu.mem, hu.own, hu.keeps, hu.old, hu.mono, hu.gle, hu.kout, hu.klen⟩⟩
 simp only [look] at hu'
 split at hu'
 ·rename_i e
  subst e
  obtain rfl := Option.some.inj hu'
  rw [hx']
  exact hrep
 ·exact hu.frame u av hu'
section
variable {m m' : List Res} {ρ : List Nat}
theorem zoZ (x : Value) : RVal x x := by
 unfold RVal
 split
 ·rename_i k n
  show tt (kEq k k) (Vc (n = n))
  rw [zcf]; exact ⟨rfl⟩
 ·exact ⟨rfl⟩
 ·exact ⟨rfl⟩
 ·exact ⟨rfl⟩
theorem zky {v : AV} (h : v.free0 = true) : RK0 m m' ρ v v := by
 cases v with
 | any => trivial
 | v x => exact zoZ x
 | err k => exact ⟨rfl⟩
 | sl sz rows own =>
  cases own with
  | none => exact ⟨rfl, .inl rfl⟩
  | some p => simp [AV.free0] at h
 | adr c => exact ⟨rfl⟩
 | _ => simp [AV.free0] at h
theorem zjO : ∀ {l : List AV}, (∀ x ∈ l, x.free0 = true) -> RKL0 m m' ρ l l
 | [], _ => trivial
 | a :: l, h => ⟨zky (h a (List.mem_cons_self ..)), zjO fun x hx => h x (List.mem_cons_of_mem _ hx)⟩
theorem zkl {v : AV} (h : v.free1 = true) : RK1 m m' ρ v v := by
 by_cases hv : v.free0 = true
 ·have := zky (m := m) (m' := m') (ρ := ρ) hv
  cases v <;> first | exact this | (simp [AV.free0] at hv)
 ·cases v with
  | agg l => exact zjO (List.all_eq_true.1 h)
  | _ => exact absurd h hv
theorem zjB : ∀ {l : List AV}, (∀ x ∈ l, x.free1 = true) -> RKL1 m m' ρ l l
 | [], _ => trivial
 | a :: l, h => ⟨zkl (h a (List.mem_cons_self ..)), zjB fun x hx => h x (List.mem_cons_of_mem _ hx)⟩
theorem zay {v : AV} (h : v.free = true) : RK m m' ρ v v := by
 by_cases hv : v.free1 = true
 ·have := zkl (m := m) (m' := m') (ρ := ρ) hv
  cases v <;> first | exact this | (simp [AV.free1, AV.free0] at hv)
 ·cases v with
  | tup l => exact zjB (List.all_eq_true.1 h)
  | _ => exact absurd h hv
end
def fzLL (l : List (List AV)) : (List (List AV) -> Prop) -> Prop :=
 List.rec (motive := fun _ => (List (List AV) -> Prop) -> Prop) (fun K => K []) (fun a _ ih K => fzL a fun a => ih fun l => K (a :: l)) l
theorem zoP : ∀ {l : List (List AV)} {K : List (List AV) -> Prop}, fzLL l K = K l
 | [], K => rfl
 | a :: l, K => by
  show (fzL a fun a => fzLL l fun l => K (a :: l)) = _
  rw [fzL_eq, zoP (l := l)]
def fzR2 (r : Res) (K : Res -> Prop) : Prop :=
 match r with
 | .gone => K .gone
 | .cells l => fzL l fun l => K (.cells l)
 | .grow e s g => fzN s fun s => fzN g fun g => K (.grow e s g)
 | .arr true e s g r => fzN s fun s => fzN g fun g => K (.arr true e s g r)
 | .arr false e s g r => fzN s fun s => fzN g fun g => fzLL r fun r => K (.arr false e s g r)
 | .obj p => K (.obj p)
 | .map a b c => K (.map a b c)
 | r => K r
theorem fzR2_eq {r : Res} {K : Res -> Prop} : fzR2 r K = K r := by
 cases r with
 | arr f => cases f <;> simp [fzR2, fzN_eq, zoP]
 | _ => simp [fzR2, fzL_eq, fzN_eq]
def fzM2 (l : List Res) : (List Res -> Prop) -> Prop :=
 List.rec (motive := fun _ => (List Res -> Prop) -> Prop) (fun K => K []) (fun a _ ih K => fzR2 a fun a => ih fun l => K (a :: l)) l
theorem zmh : ∀ {l : List Res} {K : List Res -> Prop}, fzM2 l K = K l
 | [], K => rfl
 | a :: l, K => by
  show (fzR2 a fun a => fzM2 l fun l => K (a :: l)) = _
  rw [fzR2_eq, zmh (l := l)]
def fzP (l : List (Nat × Nat)) : (List (Nat × Nat) -> Prop) -> Prop :=
 List.rec (motive := fun _ => (List (Nat × Nat) -> Prop) -> Prop) (fun K => K []) (fun a _ ih K => fzW a.1 fun i => fzN a.2 fun j => ih fun l => K ((i, j) :: l)) l
theorem fzP_eq : ∀ {l : List (Nat × Nat)} {K : List (Nat × Nat) -> Prop}, fzP l K = K l
 | [], K => rfl
 | a :: l, K => by
  show (fzW a.1 fun i => fzN a.2 fun j => fzP l fun l => K ((i, j) :: l)) = _
  rw [znt, fzN_eq, fzP_eq (l := l)]
def prs (mem : List Res) : List Nat -> List (Nat × Nat)
 | [] => []
 | i :: is => (i, (genM mem i).getD 0) :: prs mem is
noncomputable def mrg (g : List (Nat × Nat)) (mem : List Res) : Nat -> List (Nat × Nat) -> List Res -> List Res :=
 List.rec (motive := fun _ => Nat -> List (Nat × Nat) -> List Res -> List Res) (fun _ ps rs => match ps with
  | [] => zbI g rs
  | _ :: _ => []) (fun a mem ih j ps rs => match ps with
  | [] => a :: (mem ++ zbI g rs)
  | p :: qs => match rs with
   | [] => a :: mem
   | r :: ss => match Nat.beq p.1 j with
    | true => renR g p.2 r :: ih (j + 1) qs ss
    | false => a :: ih (j + 1) (p :: qs) (r :: ss)) mem
def upw : Nat -> Nat -> List Nat -> Bool
 | _, _, [] => true
 | j, n, i :: is => match Nat.ble j i with
  | true => match Nat.blt i n with
   | true => upw (i + 1) n is
   | false => false
  | false => false
theorem ziJ {j n i : Nat} {is : List Nat} (h : upw j n (i :: is) = true) : j <= i /\ i < n /\ upw (i + 1) n is = true := by
 unfold upw at h
 split at h
 ·rename_i h1
  split at h
  ·rename_i h2
   exact ⟨Nat.le_of_ble_eq_true h1, Nat.le_of_ble_eq_true h2, h⟩
  ·cases h
 ·cases h
theorem zmy {mem0 : List Res} {g : List (Nat × Nat)} : ∀ (mem pre : List Res) (is : List Nat) (rs : List Res), upw pre.length (pre.length + mem.length) is = true -> setsM mem0 g is rs (pre ++ mem) = pre ++ mrg g mem pre.length (prs mem0 is) rs
 | mem, pre, [], rs, h => by
  cases mem with
  | nil => show (pre ++ []) ++ zbI g rs = pre ++ zbI g rs; simp
  | cons a mem => show (pre ++ a :: mem) ++ zbI g rs = pre ++ (a :: (mem ++ zbI g rs)); simp
 | [], pre, i :: is, rs, h => by
  have := ziJ h
  simp at this
  omega
 | a :: mem, pre, i :: is, rs, h => by
  obtain ⟨h1, h2, h3⟩ := ziJ h
  cases rs with
  | nil => rfl
  | cons r rs =>
   by_cases hi : i = pre.length
   ·subst hi
    have e1 : (pre ++ a :: mem).set pre.length (renR g ((genM mem0 pre.length).getD 0) r) = (pre ++ [renR g ((genM mem0 pre.length).getD 0) r]) ++ mem := by simp
    have ih := zmy (mem0 := mem0) (g := g) mem (pre ++ [renR g ((genM mem0 pre.length).getD 0) r]) is rs (by
     simp only [List.length_append, List.length_cons, List.length_nil] at h3 ⊢
     rw [show pre.length + (0 + 1) + mem.length = pre.length + (mem.length + 1) by omega]; exact h3)
    show setsM mem0 g is rs ((pre ++ a :: mem).set pre.length (renR g ((genM mem0 pre.length).getD 0) r)) = pre ++ (match Nat.beq pre.length pre.length with
     | true => renR g ((genM mem0 pre.length).getD 0) r :: mrg g mem (pre.length + 1) (prs mem0 is) rs
     | false => _)
    rw [e1, ih, Nat.beq_refl]
    simp
   ·have e2 : Nat.beq i pre.length = false := by
     cases e : Nat.beq i pre.length with
     | false => rfl
     | true => exact absurd (Nat.eq_of_beq_eq_true e) hi
    have ih := zmy (mem0 := mem0) (g := g) mem (pre ++ [a]) (i :: is) (r :: rs) (by
     simp only [List.length_append, List.length_cons, List.length_nil]
     unfold upw
     rw [Nat.ble_eq_true_of_le (show pre.length + (0 + 1) <= i by omega)]
     dsimp only
     rw [show Nat.blt i (pre.length + (0 + 1) + mem.length) = true from Nat.ble_eq_true_of_le (by simp at h2; omega)]
     dsimp only
     rw [show pre.length + (0 + 1) + mem.length = pre.length + (mem.length + 1) by omega]
     simpa using h3)
    rw [show pre ++ a :: mem = (pre ++ [a]) ++ mem by simp, ih]
    show _ = pre ++ (match Nat.beq i pre.length with
     | true => _
     | false => a :: mrg g mem (pre.length + 1) ((i, (genM mem0 i).getD 0) :: prs mem0 is) (r :: rs))
    rw [e2]
    simp [prs]
theorem prs_eq {mem : List Res} {L c : Nat} : ∀ {ρ : List Nat}, rhoG mem L c ρ = prs mem ρ ++ extG L c
 | [] => rfl
 | i :: is => by simp [rhoG, prs, prs_eq]
theorem zjM {n : Nat} : ∀ {is : List Nat} {j : Nat}, upw j n is = true -> is.Nodup /\ ∀ i ∈ is, j <= i
 | [], _, _ => ⟨List.nodup_nil, fun i h => by cases h⟩
 | i :: is, j, h => by
  obtain ⟨h1, h2, h3⟩ := ziJ h
  obtain ⟨h4, h5⟩ := zjM h3
  refine ⟨List.nodup_cons.2 ⟨fun hm => by have := h5 i hm; omega, h4⟩, fun k hk => ?_⟩
  rcases List.mem_cons.1 hk with rfl | hk
  ·exact h1
  ·have := h5 k hk; omega
theorem zjr {P : Program} {f : FuncId} {l : List AV} {mem : List Res} {K : MK} {args : List AV} {m : List Res} {r : AV} {m' : List Res} (ρ : List Nat) (hF : Fn P f args m r m') (h0 : gen0 m = true) (hup : upw 0 mem.length ρ = true) (hle : Nat.ble m.length m'.length = true) (hM : RM mem m ρ ρ m) (hA : RKL1 mem m ρ l args)
  (k : fzP (prs mem ρ) fun ps => fzP (ps ++ extG mem.length (m'.length - ρ.length)) fun g => fzM2 (mrg g mem 0 ps m') fun M => fz (ren g r) fun R => K M R) : StopCall P f l mem K :=
 ⟨args, m, r, m', ρ, hF, h0, decide_eq_true (zjM hup).1, hle, hM, hA, by
  rw [fzP_eq, fzP_eq, zmh, fz_eq] at k
  unfold zbx zgS
  rw [prs_eq]
  have := zmy (mem0 := mem) (g := prs mem ρ ++ extG mem.length (m'.length - ρ.length)) mem [] ρ m' (by simpa using hup)
  simp only [List.nil_append, List.length_nil] at this
  rw [this]
  exact k⟩
theorem StopCall.fz {P : Program} {f : FuncId} {l : List AV} {mem : List Res} {K : MK} {args : List AV} {m : List Res} {r : AV} {m' : List Res} (ρ : List Nat) (hF : Fn P f args m r m')
  (k : fzP (prs mem ρ) fun ps => fzP (ps ++ extG mem.length (m'.length - ρ.length)) fun g => fzM2 (mrg g mem 0 ps m') fun M => fz (ren g r) fun R => K M R) (h0 : gen0 m = true := by exact rfl) (hup : upw 0 mem.length ρ = true := by exact rfl) (hle : Nat.ble m.length m'.length = true := by exact rfl) (hM : RM mem m ρ ρ m := by exact grt) (hA : RKL1 mem m ρ l args := by exact grt) : StopCall P f l mem K := zjr ρ hF h0 hup hle hM hA k
structure FamRep (xs : List Value) (ps : List OPred) (σ : zaM) (w : World) (D : Nat -> Prop) (E : Nat -> Nat -> Prop) : Prop where
 one : ∀ (j : Nat) (x : Value) (p : OPred), xs[j]? = some x -> ps[j]? = some p -> ∃ b, x = .pointer (some ⟨b, 0, none⟩) /\ p.rep σ w b (E j)
 apart : ∀ i j b, E i b -> E j b -> i = j
 all : ∀ b, D b ↔ ∃ j, E j b
 out : ∀ j b, E j b -> j < ps.length
def famP (xs : List Value) (ps : List OPred) : OPred where
 rep σ w _ D := ∃ E, xs.length = ps.length /\ FamRep xs ps σ w D E
 ext := by
  rintro σ σ' w w' x D ⟨E, hl, h⟩ hw hs
  refine ⟨E, hl, ⟨fun j x p hx hp => ?_, h.apart, h.all, h.out⟩⟩
  obtain ⟨b, h1, h2⟩ := h.one j x p hx hp
  exact ⟨b, h1, p.ext h2 (fun c hc => hw c ((h.all c).2 ⟨j, hc⟩)) hs⟩
 live := by
  rintro σ w x D b ⟨E, hl, h⟩ hb
  obtain ⟨j, hj⟩ := (h.all b).1 hb
  have hlt := h.out j b hj
  obtain ⟨c, h1, h2⟩ := h.one j (xs[j]'(by omega)) ps[j] (List.getElem?_eq_getElem (by omega)) (List.getElem?_eq_getElem hlt)
  exact ps[j].live h2 hj
theorem zkj {xs : List Value} {ps : List OPred} {σ σ' : zaM} {w w' : World} {D : Nat -> Prop} {E : Nat -> Nat -> Prop} (h : FamRep xs ps σ w D E) (hl : xs.length = ps.length) {j : Nat} {p p' : OPred} (hp : ps[j]? = some p) {x : Value} (hx : xs[j]? = some x) {b : Nat} (hb : x = .pointer (some ⟨b, 0, none⟩)) {F : Nat -> Prop} (hF : p'.rep σ' w' b F)
  (hfp : ∀ k, F k -> w.heap.size <= k \/ E j k) (hk : ∀ k, k < w.heap.size -> ¬ E j k -> w'.heap[k]? = w.heap[k]?) (ho : ∀ k o, k < w.heap.size -> ¬ E j k -> σ' k o = σ k o) (hs : ∀ b o y, σ b o = some y -> σ' b o = some y) :
  FamRep xs (ps.set j p') σ' w' (fun k => ∃ i, (if i = j then F k else E i k)) (fun i k => if i = j then F k else E i k) := by
 have hjlt : j < ps.length := (List.getElem?_eq_some_iff.1 hp).1
 have hlive : ∀ i k, E i k -> k < w.heap.size := fun i k hi => by
  have hlt := h.out i k hi
  obtain ⟨c, h1, h2⟩ := h.one i (xs[i]'(by omega)) ps[i] (List.getElem?_eq_getElem (by omega)) (List.getElem?_eq_getElem hlt)
  exact ps[i].live h2 hi
 refine ⟨fun i y q hy hq => ?_, fun i i' k h1 h2 => ?_, fun k => Iff.rfl, fun i k h1 => ?_⟩
 ·rw [List.getElem?_set] at hq
  by_cases hij : j = i
  ·subst hij
   rw [if_pos rfl, if_pos hjlt] at hq
   obtain rfl := Option.some.inj hq
   rw [hx] at hy
   obtain rfl := Option.some.inj hy
   refine ⟨b, hb, ?_⟩
   simp only [if_true]
   exact hF
  ·rw [if_neg hij] at hq
   obtain ⟨c, h1, h2⟩ := h.one i y q hy hq
   refine ⟨c, h1, ?_⟩
   have e : (fun k => if i = j then F k else E i k) = E i := by funext k; rw [if_neg (fun e => hij e.symm)]
   show q.rep σ' w' c (fun k => if i = j then F k else E i k)
   rw [e]
   have hne : ∀ k, E i k -> ¬ E j k := fun k h1 h2 => hij ((h.apart i j k h1 h2).symm)
   exact q.ext h2 (fun k hk1 => ⟨hk k (hlive i k hk1) (hne k hk1), fun o => ho k o (hlive i k hk1) (hne k hk1)⟩) hs
 ·try dsimp only at h1 h2
  split at h1 <;> split at h2
  ·rename_i e1 e2; rw [e1, e2]
  ·rename_i e1 e2
   rcases hfp k h1 with g | g
   ·have := hlive _ _ h2; omega
   ·exact absurd (h.apart _ _ k h2 g) e2
  ·rename_i e1 e2
   rcases hfp k h2 with g | g
   ·have := hlive _ _ h1; omega
   ·exact absurd (h.apart _ _ k h1 g) e1
  ·exact h.apart _ _ k h1 h2
 ·rw [List.length_set]
  try dsimp only at h1
  split at h1
  ·rename_i e; rw [e]; exact hjlt
  ·exact h.out _ _ h1
theorem zpF {xs : List Value} {ps : List OPred} {σ : zaM} {μ : zaJ} {w : World} {Ds : Nat -> Nat -> Prop} (hmem : MemOk σ μ w [.obj (famP xs ps)] Ds) {j : Nat} {x : Value} {p : OPred} (hx : xs[j]? = some x) (hp : ps[j]? = some p) :
  ∃ E b, x = .pointer (some ⟨b, 0, none⟩) /\ xs.length = ps.length /\ FamRep xs ps σ w (Ds 0) E /\ MemOk σ (fun i => if i = 0 then some (.fix (.pointer (some ⟨b, 0, none⟩))) else none) w [.obj p] (fun i => if i = 0 then E j else fun _ => False) := by
 obtain ⟨b0, hb0, E, hl, hE⟩ := hmem.ok 0 _ rfl
 obtain ⟨b, h1, h2⟩ := hE.one j x p hx hp
 refine ⟨E, b, h1, hl, hE, ⟨fun id r hr => ?_, fun i i' k h1 h2 => ?_, fun id hid => ?_⟩⟩
 ·cases id with
  | zero =>
   simp only [List.getElem?_cons_zero, Option.some.injEq] at hr
   subst hr
   exact ⟨b, rfl, h2⟩
  | succ i => simp at hr
 ·exact Y94
 ·exact Y81
theorem fn_focus {P : Program} {f : FuncId} {args : List AV} {r : AV} {p p' : OPred} (hF : Fn P f (.box 0 0 :: args) [.obj p] r [.obj p']) {xs : List Value} {ps : List OPred} {j : Nat} {x : Value} (hx : xs[j]? = some x) (hp : ps[j]? = some p) (ha : args.all AV.free = true) (hr : r.free = true) :
  Fn P f (.v x :: args) [.obj (famP xs ps)] r [.obj (famP xs (ps.set j p'))] := by
 refine ⟨hF.1, fun w σ μ Ds vs hag hmem hlen hargs => ?_⟩
 obtain ⟨E, b, hb, hl, hE, hm1⟩ := zpF hmem hx hp
 refine (hF.2 w σ _ _ vs hag hm1 (by simpa using hlen) (fun i av y h1 h2 => ?_)).mono ?_
 ·exact Y47
 ·rintro e w' ⟨x', σ', μ1, D1, rfl, hpost⟩
  obtain ⟨b0, hb0, _⟩ := hmem.ok 0 _ rfl
  have hfp : ∀ k, (∃ id, (if id = 0 then E j else fun _ => False) k) ↔ E j k := fun k => ⟨fun ⟨id, h⟩ => by
   split at h
   ·exact h
   ·exact h.elim, fun h => ⟨0, h⟩⟩
  obtain ⟨b1, g1, g2⟩ := hpost.mem.ok 0 _ rfl
  obtain ⟨a', q1, q2⟩ := hpost.gle 0 (.fix (.pointer (some ⟨b, 0, none⟩))) rfl
  rw [g1] at q1
  obtain rfl := Option.some.inj q1
  obtain rfl : b1 = b := by
   simp only [An.le, Value.pointer.injEq, Option.some.injEq] at q2
   exact congrArg Addr.block q2
  have hstep := zkj hE hl hp hx hb (F := D1 0) g2 (fun k hk => (hpost.own 0 k hk).imp (fun h => h) fun ⟨i, h⟩ => (hfp k).1 ⟨i, h⟩) (fun k hk hno => hpost.keeps.block k hk (fun h => hno ((hfp k).1 h))) (fun k o hk hno => hpost.old k o hk (fun h => hno ((hfp k).1 h))) hpost.mono
  have hD : ∀ k, E j k -> Ds 0 k := fun k h => (hE.all k).2 ⟨j, h⟩
  refine ⟨x', σ', fun i => if i = 0 then μ 0 else none, fun i => if i = 0 then (fun k => ∃ i, (if i = j then D1 0 k else E i k)) else fun _ => False, rfl, ⟨hpost.rep.free hr, ⟨fun id q hq => ?_, fun i i' k h1 h2 => ?_, fun id hid => ?_⟩, fun i a hi => ?_, hpost.agree, ⟨hpost.keeps.os, hpost.keeps.tape, hpost.keeps.output, hpost.keeps.size, fun k hk hno => hpost.keeps.block k hk (fun h => hno ⟨0, hD k ((hfp k).1 h)⟩)⟩, fun c o hc hno => hpost.old c o hc (fun h => hno ⟨0, hD c ((hfp c).1 h)⟩), hpost.mono, fun id k hk => ?_⟩⟩
  ·cases id with
   | zero =>
    simp only [List.getElem?_cons_zero, Option.some.injEq] at hq
    subst hq
    exact ⟨b0, hb0, _, by rw [List.length_set]; exact hl, hstep⟩
   | succ i => simp at hq
  ·exact Y94
  ·exact Y81
  ·by_cases h0 : i = 0
   ·subst h0
    exact ⟨a, by simpa using hi, An.le_refl _⟩
   ·rw [(hmem.out i (by simp; omega)).1] at hi; cases hi
  ·try dsimp only at hk
   split at hk
   ·exact Y76
   ·exact hk.elim
theorem zm0 {P : Program} {f : FuncId} {args : List AV} {p p' : OPred} {n T sz : Nat} {rows : List (List AV)} (hF : Fn P f (.box 0 0 :: args) [.obj p] (.arr 1 0 n) [.obj p', .arr true T sz 0 rows]) {xs : List Value} {ps : List OPred} {j : Nat} {x : Value} (hx : xs[j]? = some x) (hp : ps[j]? = some p) (ha : args.all AV.free = true) :
  Fn P f (.v x :: args) [.obj (famP xs ps)] (.arr 1 0 n) [.obj (famP xs (ps.set j p')), .arr true T sz 0 rows] := by
 refine ⟨hF.1, fun w σ μ Ds vs hag hmem hlen hargs => ?_⟩
 obtain ⟨E, b, hb, hl, hE, hm1⟩ := zpF hmem hx hp
 refine (hF.2 w σ _ _ vs hag hm1 (by simpa using hlen) (fun i av y h1 h2 => ?_)).mono ?_
 ·exact Y47
 ·rintro e w' ⟨x', σ', μ1, D1, rfl, hpost⟩
  obtain ⟨b0, hb0, _⟩ := hmem.ok 0 _ rfl
  have hfp : ∀ k, (∃ id, (if id = 0 then E j else fun _ => False) k) ↔ E j k := fun k => ⟨fun ⟨id, h⟩ => by
   split at h
   ·exact h
   ·exact h.elim, fun h => ⟨0, h⟩⟩
  obtain ⟨b1, g1, g2⟩ := hpost.mem.ok 0 _ rfl
  obtain ⟨a', q1, q2⟩ := hpost.gle 0 (.fix (.pointer (some ⟨b, 0, none⟩))) rfl
  rw [g1] at q1
  obtain rfl := Option.some.inj q1
  obtain rfl : b1 = b := by
   simp only [An.le, Value.pointer.injEq, Option.some.injEq] at q2
   exact congrArg Addr.block q2
  have hstep := zkj hE hl hp hx hb (F := D1 0) g2 (fun k hk => (hpost.own 0 k hk).imp (fun h => h) fun ⟨i, h⟩ => (hfp k).1 ⟨i, h⟩) (fun k hk hno => hpost.keeps.block k hk (fun h => hno ((hfp k).1 h))) (fun k o hk hno => hpost.old k o hk (fun h => hno ((hfp k).1 h))) hpost.mono
  have hD : ∀ k, E j k -> Ds 0 k := fun k h => (hE.all k).2 ⟨j, h⟩
  have hlive : ∀ i k, E i k -> k < w.heap.size := fun i k hi => by
   have hlt := hE.out i k hi
   obtain ⟨c, h1, h2⟩ := hE.one i (xs[i]'(by omega)) ps[i] (List.getElem?_eq_getElem (by omega)) (List.getElem?_eq_getElem hlt)
   exact ps[i].live h2 hi
  have hfar : ∀ i k, D1 1 k -> i ≠ j -> ¬ E i k := fun i k h1 hne h2 => by
   rcases hpost.own 1 k h1 with g | ⟨i', g⟩
   ·have := hlive i k h2; omega
   ·exact hne (hE.apart i j k h2 ((hfp k).1 ⟨i', g⟩))
  let μ2 : zaJ := fun i => if i = 0 then μ 0 else μ1 i
  let D2 : Nat -> Nat -> Prop := fun i => if i = 0 then (fun k => ∃ i, (if i = j then D1 0 k else E i k)) else D1 i
  have hrep : RepV σ' μ2 (.arr 1 0 n) x' := by
   cases hpost.rep with
   | arr _ _ _ _ ao m cap a hn hm hmax h hl => exact .arr _ 1 0 n ao m cap a hn hm hmax h hl
  refine ⟨x', σ', μ2, D2, rfl, ⟨hrep, ⟨fun id q hq => ?_, fun i i' k h1 h2 => ?_, fun id hid => ?_⟩, fun i a hi => ?_, hpost.agree, ⟨hpost.keeps.os, hpost.keeps.tape, hpost.keeps.output, hpost.keeps.size, fun k hk hno => hpost.keeps.block k hk (fun h => hno ⟨0, hD k ((hfp k).1 h)⟩)⟩, fun c o hc hno => hpost.old c o hc (fun h => hno ⟨0, hD c ((hfp c).1 h)⟩), hpost.mono, fun id k hk => ?_⟩⟩
  ·match id, hq with
   | 0, hq =>
    simp only [List.getElem?_cons_zero, Option.some.injEq] at hq
    subst hq
    exact ⟨b0, hb0, _, by rw [List.length_set]; exact hl, hstep⟩
   | 1, hq =>
    have h1 := hpost.mem.ok 1 q (by simpa using hq)
    simp only [List.getElem?_cons_succ, List.getElem?_cons_zero, Option.some.injEq] at hq
    subst hq
    exact h1
   | i + 2, hq => simp at hq
  ·simp only [D2] at h1 h2
   split at h1 <;> split at h2
   ·rename_i e1 e2; rw [e1, e2]
   ·rename_i e1 e2
    obtain ⟨m, hm⟩ := h1
    exfalso
    split at hm
    ·have := hpost.mem.apart 0 i' k hm h2; omega
    ·rename_i hne
     rcases Nat.lt_or_ge i' 2 with g | g
     ·obtain rfl : i' = 1 := by omega
      exact hfar m k h2 hne hm
     ·exact (hpost.mem.out i' (by simp; omega)).2 k h2
   ·rename_i e1 e2
    obtain ⟨m, hm⟩ := h2
    exfalso
    split at hm
    ·have := hpost.mem.apart 0 i k hm h1; omega
    ·rename_i hne
     rcases Nat.lt_or_ge i 2 with g | g
     ·obtain rfl : i = 1 := by omega
      exact hfar m k h1 hne hm
     ·exact (hpost.mem.out i (by simp; omega)).2 k h1
   ·exact hpost.mem.apart i i' k h1 h2
  ·simp only [List.length_cons, List.length_nil] at hid
   have h2 := hpost.mem.out id (by simp; omega)
   refine ⟨?_, fun b => ?_⟩
   ·simp only [μ2]; rw [if_neg (by omega)]; exact h2.1
   ·simp only [D2]; rw [if_neg (by omega)]; exact h2.2 b
  ·by_cases h0 : i = 0
   ·subst h0
    exact ⟨a, by simpa [μ2] using hi, An.le_refl _⟩
   ·rw [(hmem.out i (by simp; omega)).1] at hi; cases hi
  ·simp only [D2] at hk
   split at hk
   ·exact Y76
   ·exact (hpost.own id k hk).imp (fun h => h) fun ⟨i, h⟩ => ⟨0, hD k ((hfp k).1 ⟨i, h⟩)⟩
structure Hd (Q : Prop) : Prop where
 o : Q
theorem Hd.and {A B QA QB : Prop} (q : Hd (Tw QA QB)) (a : Hd QA -> A) (b : Hd QB -> B) : A /\ B := ⟨a ⟨q.o.1⟩, b ⟨q.o.2⟩⟩
theorem Hd.tru {A : Prop} (_ : Hd True) (a : A) : A := a
theorem Hd.red {c d B QB : Prop} (q : Hd (Hy d -> QB)) (s : c -> d) (b : Hd QB -> d -> B) : Im c B := ⟨fun h => b ⟨q.o ⟨s h⟩⟩ (s h)⟩
theorem Hd.raw {c B QB : Prop} (q : Hd (c -> QB)) (b : Hd QB -> c -> B) : Im c B := ⟨fun h => b ⟨q.o h⟩ h⟩
theorem Hd.al {B : Bool -> Prop} {QF QT : Prop} (q : Hd (Tw QF QT)) (f : Hd QF -> B false) (t : Hd QT -> B true) : Al B := ⟨fun x => match x with | false => f ⟨q.o.1⟩ | true => t ⟨q.o.2⟩⟩
theorem Hd.idx {α : Type} {l : List α} {f : α -> List AV} {k : Nat} {K : AV -> Prop} {Q : Hy (k < l.length) -> Prop} (q : Hd (∀ h, Q h)) (hl : k < l.length) (hk : ∀ h : Hy (k < l.length), Hd (Q h) -> K (.adr (f (l[k]'h.o)))) : StopIdx (l.map f) (k : Int) K := zal hl (hk ⟨hl⟩ ⟨q.o _⟩)
theorem Hd.idxI {α : Type} {l : List α} {f : α -> List AV} {i : Int} {K : AV -> Prop} {Q : Hy (i.toNat < l.length) -> Prop} (q : Hd (∀ h, Q h)) (h0 : 0 <= i) (hl : i.toNat < l.length) (hk : ∀ h : Hy (i.toNat < l.length), Hd (Q h) -> K (.adr (f (l[i.toNat]'h.o)))) : StopIdx (l.map f) i K := za2 h0 hl (hk ⟨hl⟩ ⟨q.o _⟩)
theorem Hd.lit {rows : List (List AV)} {i : Int} {K : AV -> Prop} {r : List AV} {Q : Prop} (q : Hd Q) (h0 : decide (0 <= i) = true) (h : rows[i.toNat]? = some r) (k : Hd Q -> K (.adr r)) : StopIdx rows i K := ⟨r, of_decide_eq_true h0, h, k q⟩
theorem Hd.pos {len : Nat} {i : Int} {K : Nat -> Prop} {Q : Prop} (q : Hd Q) (h0 : decide (0 <= i) = true) (h : decide (i < len) = true) (k : Hd Q -> K i.toNat) : StopAt len i K := ⟨of_decide_eq_true h0, of_decide_eq_true h, k q⟩
theorem Hd.row {rows : List (List AV)} {i : Nat} {K : List AV -> Prop} {r : List AV} {Q : Prop} (q : Hd Q) (h : rows[i]? = some r) (k : Hd Q -> K r) : StopRow rows i K := ⟨r, h, k q⟩
theorem Hd.vc {p : Prop} (q : Hd p) : Vc p := ⟨q.o⟩
theorem fw {P Q : Prop} (q : Q) (r : Hd Q -> P := by
  intro q
  repeat' ((conv => whnf); first
   | ((with_reducible apply Hd.and q); clear q; intro q; rotate_left; clear q; intro q; rotate_right)
   | (with_reducible exact Hd.tru q True.intro)
   | ((
     with_reducible refine Im.to ?_); first
     | (refine Hd.tru q ⟨?_⟩; intro h; first | (cases h; done) | ((try simp only [vis, Int.reduceToNat] at h) <;> (exfalso; omega)))
     | (apply Hd.raw q; clear q; intro q h; cases h)
     | (apply Hd.red q; (focus (intro h; (try simp only [vis, Int.reduceToNat] at h); exact h)); clear q; intro q h))
   | (apply Hd.pos q rfl rfl; clear q; intro q)
   | (apply Hd.row q rfl; clear q; intro q)
   | (apply Hd.row q; (focus assumption); clear q; intro q)
   | (apply Hd.lit q rfl rfl; clear q; intro q)
   | ((with_reducible refine Al.to ?_); apply Hd.al q; clear q; intro q; rotate_left; clear q; intro q; rotate_right)
   | (apply Hd.idx q; (focus (first | omega | (simp; done) | (simp; omega))); clear q; intro hh q)
   | (apply Hd.idxI q; (focus (first | omega | (simp; done) | (simp; omega))); (focus (first | omega | (simp; done) | (simp; omega))); clear q; intro hh q)
   | (refine Hd.tru q ?_; (first | omega | (refine Vc.mk ?_; first | exact GLt | exact ⟨by decide, by decide⟩)))
   | (refine Hd.vc q)
   | exact q.o)) : P := r ⟨q⟩
theorem Rel.rerow {n : Nat} {fp : Nat -> Prop} {w0 : Start} {σ : zaM} {μ : zaJ} {Ds : Nat -> Nat -> Prop} {A : AS} {a : Act} {w : World} (h : Rel n fp w0 σ μ Ds A a w) {id j E sz g : Nat} {rows : List (List AV)} {u v : AV} (hid : A.mem[id]? = some (.arr false E sz g rows)) (hj : rows[j]? = some [u]) (hv : ∀ x, RepV σ μ u x -> RepV σ μ v x) :
  Rel n fp w0 σ μ Ds ⟨A.fr, A.mem.set id (.arr false E sz g (rows.set j [v]))⟩ a w := by
 have hlt : id < A.mem.length := (List.getElem?_eq_some_iff.1 hid).1
 have hjl : j < rows.length := (List.getElem?_eq_some_iff.1 hj).1
 refine ⟨h.defers, h.size, h.frame, h.agree, ⟨fun i r hi => ?_, h.mem.apart, fun i hi => h.mem.out i (by simpa using hi)⟩, h.own, h.keeps, h.old, h.mono, h.gle, h.kout, by simpa using h.klen⟩
 rw [List.getElem?_set] at hi
 split at hi
 ·rename_i e
  subst e
  obtain rfl := Option.some.inj hi
  obtain ⟨ao, cap, xs, h1, h2, h3, h4, h5, h6⟩ := h.mem.ok _ _ hid
  have hsz : sz = 1 := (h3 [u] (List.mem_of_getElem? hj)).symm
  refine ⟨ao, cap, xs, by rw [List.length_set]; exact h1, by rw [List.length_set]; exact h2, fun r hr => ?_, fun i q r av hi hq => ?_, h5, h6⟩
  ·rcases List.mem_or_eq_of_mem_set hr with g | g
   ·exact h3 r g
   ·rw [g, hsz]; rfl
  ·rw [List.getElem?_set] at hi
   split at hi
   ·rename_i e
    subst e
    obtain rfl := Option.some.inj hi
    cases q with
    | zero =>
     obtain rfl : v = av := by simpa using hq
     obtain ⟨y, y1, y2, y3⟩ := h4 j 0 [u] u hj rfl
     exact ⟨y, y1, hv y y2, y3⟩
    | succ q => simp at hq
   ·exact h4 i q r av hi hq
 ·exact h.mem.ok i r hi
theorem zbu {k : Nat} {fr : List (Nat × AV)} {mem : List Res} (q id j : Nat) {g n E sz E0 sz0 g0 : Nat} {rws : List (List AV)} (rows : List (List AV)) (hq : mem[q]? = some (.arr true E sz g rws)) (hne : decide (q ≠ id) = true) (hid : mem[id]? = some (.arr false E0 sz0 g0 rows)) (hj : rows[j]? = some [.arr q g n]) :
  AS.le k ⟨fr, mem⟩ ⟨fr, (mem.set q .gone).set id (.arr false E0 sz0 g0 (rows.set j [.sl sz (rws.take n) none]))⟩ := by
 have hne := of_decide_eq_true hne
 intro nn fp w0 σ μ Ds a w hk hr
 have hlt : q < mem.length := (List.getElem?_eq_some_iff.1 hq).1
 obtain ⟨ao, cap, xs, h1, h2, h3, h4, h5, h6⟩ := hr.mem.ok q _ hq
 let σ' : zaM := fun b o => if blkA ao = some b then xs[o]? else σ b o
 have hs : ∀ b o y, σ b o = some y -> σ' b o = some y := fun b o y hy => by
  dsimp only [σ']
  split
  ·rename_i e
   rw [h5 b ((h6 b).2 e) o] at hy; cases hy
  ·exact hy
 have hag : zeJ σ' w := fun b o y hy => by
  dsimp only [σ'] at hy
  split at hy
  ·rename_i e
   exact zaz h2 e hy
  ·exact hr.agree b o y hy
 have hu := hr.upd (id := q) (r := .gone) (D := fun _ => False) (an := .cur ao rws.length cap g) (σ' := σ') (w' := w) (Nat.le_of_lt hlt) (Nat.le_refl _) rfl rfl rfl
  (fun b hb hd => ⟨rfl, fun o => if_neg (fun e => hd ((h6 b).2 e))⟩) hs hag (fun b hb => hb) (fun b hb => hb.elim) (fun x hx => by rw [h1] at hx; obtain rfl := Option.some.inj hx; exact An.le_refl _)
 have hp : putR mem q .gone = mem.set q .gone := zbY hlt
 rw [show (⟨fr, mem⟩ : AS).mem = mem from rfl, hp] at hu
 refine ⟨_, _, _, hu.rerow (id := id) (j := j) (u := .arr q g n) (by show (mem.set q .gone)[id]? = _; rw [List.getElem?_set_ne hne]; exact hid) hj (fun x hx => ?_)⟩
 obtain ⟨ao2, m, cap2, an, rfl, k1, k2, k3, hmu, hle⟩ := hx.inv_arr
 have hmq : updG μ q (.cur ao rws.length cap g) q = some (.cur ao rws.length cap g) := updG_self
 rw [hmq] at hmu
 obtain rfl := Option.some.inj hmu
 obtain ⟨_, hle⟩ := hle
 obtain ⟨e1, e2, e3⟩ := hle rfl
 subst e1 e3
 have hlen : (rws.take n).length = n := by rw [List.length_take]; omega
 have hget : ∀ (i : Nat) (r : List AV), (rws.take n)[i]? = some r -> rws[i]? = some r := fun i r hi => by
  rw [List.getElem?_take] at hi
  split at hi
  ·exact hi
  ·cases hi
 have hao : rws.take n = [] \/ ∃ b, ao = some ⟨b, 0, none⟩ := by
  exact Y67
 have key : ∀ b, (rws.take n = [] \/ ao = some ⟨b, 0, none⟩) -> RepV σ' (updG μ q (.cur ao rws.length cap g)) (.sl sz (rws.take n) none) (.slice ao (rws.take n).length cap) := by
  exact Y25
 rcases hao with hao | ⟨b, hao⟩
 ·have := key 0 (.inl hao)
  rw [hlen] at this
  exact this
 ·have := key b (.inr hao)
  rw [hlen] at this
  exact this
end Go.Proofs.YtimfnpjcedjmiadGreat
