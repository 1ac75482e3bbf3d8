/-
  Engine G, part 23: whole bodies.
-/
import Derived.Test.YtimfnpjcedjmiaaG22
namespace Go.Proofs.Ytimfnpjcedjmiaa
open Go.RowKit
set_option linter.unusedSimpArgs false
set_option linter.unusedVariables false

/-- The one state stands for the other; the first k numbers of memory are the caller's. -/
def AS.le (k : Nat) (A B : AS) : Prop := ∀ (n : Nat) (fp : Nat → Prop) (w0 : Start) (σ : Store) (μ : Ghost) (Ds : Nat → Nat → Prop) (a : Act) (w : World), w0.k = k → Rel n fp w0 σ μ Ds A a w → ∃ μ' Ds', Rel n fp w0 σ μ' Ds' B a w
theorem AS.le_refl (k : Nat) (A : AS) : AS.le k A A := fun _ _ _ _ μ Ds _ _ _ h => ⟨μ, Ds, h⟩
theorem AS.le_trans {k : Nat} {A B C : AS} (h : AS.le k A B) (g : AS.le k B C) : AS.le k A C := fun n fp w0 σ μ Ds a w hk hr =>
  let ⟨μ1, D1, h1⟩ := h n fp w0 σ μ Ds a w hk hr
  g n fp w0 σ μ1 D1 a w hk h1
def parOk : Nat → Nat → List Nat → List Res → Bool
  | _, 0, _, _ => true
  | j, k + 1, is, rs => match is with
    | i :: is => match rs with
      | r :: rs => match Nat.beq i j with
        | true => match isGone r with
          | true => false
          | false => parOk (j + 1) k is rs
        | false => false
      | [] => false
    | [] => false
theorem parOk_out : ∀ {k j : Nat} {is : List Nat} {rs : List Res}, parOk j k is rs = true → k ≤ rs.length ∧ ∀ i, i < k → is[i]? = some (j + i) ∧ rs[i]?.map isGone = some false
  | 0, j, is, rs, _ => ⟨Nat.zero_le _, fun i hi => by omega⟩
  | k + 1, j, [], rs, h => by simp [parOk] at h
  | k + 1, j, i :: is, [], h => by simp [parOk] at h
  | k + 1, j, i :: is, r :: rs, h => by
    unfold parOk at h
    simp only at h
    split at h
    · rename_i h1
      split at h
      · cases h
      · rename_i h2
        obtain ⟨h3, h4⟩ := parOk_out h
        refine ⟨by simp; omega, fun q hq => ?_⟩
        cases q with
        | zero => simp [h2, Nat.eq_of_beq_eq_true h1]
        | succ q =>
          obtain ⟨h5, h6⟩ := h4 q (by omega)
          simp only [List.getElem?_cons_succ]
          exact ⟨by rw [h5]; congr 1; omega, h6⟩
    · cases h
theorem RR.okg {m m' : List Res} {ρ : List Nat} {r r' : Res} (h : RR m m' ρ r r') {g g' : Nat} (h1 : genR r = some g) (h2 : genR r' = some g') : okG g' g = true := by
  unfold RR at h
  split at h
  · cases h2
  all_goals (split at h <;> first | exact h.elim | skip)
  all_goals first | (cases h2; done) | skip
  all_goals (simp only [genR, Option.some.injEq] at h1 h2; subst h1 h2; obtain ⟨_, h⟩ := tt_out h; obtain ⟨_, h⟩ := tt_out h; exact (tt_out h).1)
section
variable {P : Program} {n : Nat} {fp : Nat → Prop} {w0 : Start} {σ : Store} {μ : Ghost} {Ds : Nat → Nat → Prop} {A : AS} {a : Act} {w : World}
theorem gle_sub (h : Rel n fp w0 σ μ Ds A a w) {ρ : List Nat} {m' : List Res} (hp : parOk 0 w0.k ρ m' = true) (hM : RM A.mem m' ρ ρ m') : Gle w0.μ (subG μ ρ m') := by
  obtain ⟨_, hpar⟩ := parOk_out hp
  obtain ⟨_, hget⟩ := RM.get hM
  intro i a0 h0
  have hik : i < w0.k := by
    rcases Nat.lt_or_ge i w0.k with g | g
    · exact g
    · rw [h.kout i g] at h0; cases h0
  obtain ⟨hρ, hg⟩ := hpar i hik
  rw [Nat.zero_add] at hρ
  cases hr' : m'[i]? with
  | none => rw [hr'] at hg; cases hg
  | some r' =>
    rw [hr'] at hg
    simp only [Option.map_some, Option.some.injEq] at hg
    obtain ⟨i', r, h1, h2, h3⟩ := hget i r' hr'
    rw [hρ] at h1
    obtain rfl := Option.some.inj h1
    obtain ⟨y1, y2⟩ := h3.gen hg
    obtain ⟨an, x1, x2⟩ := h.mem.an h2 y1
    obtain ⟨an', z1, z2⟩ := h.gle i a0 h0
    rw [x1] at z1
    obtain rfl := Option.some.inj z1
    have hsub : subG μ ρ m' i = some (reG ((genR r').getD 0) an) := by simp [subG, hρ, x1, genM_eq, hr']
    refine ⟨_, hsub, ?_⟩
    rcases x2 with ⟨v, rfl, _⟩ | ⟨ao, nn, cap, gA, rfl, hgA⟩
    · exact z2
    · cases a0 with
      | fix v => exact z2.elim
      | cur ao0 n0 cap0 g0 =>
        have hz := w0.zero i ao0 n0 cap0 g0 h0
        subst hz
        cases hgB : genR r' with
        | none => rw [hgB, hgA] at y2; cases y2
        | some gB =>
          have hok := h3.okg hgA hgB
          refine ⟨Nat.zero_le _, fun e => ?_⟩
          simp only [hgB, Option.getD_some] at e
          subst e
          have : gA = 0 := by simpa [okG] using hok
          exact z2.2 this
theorem Rel.sub (h : Rel n fp w0 σ μ Ds A a w) {ρ : List Nat} {m' : List Res} {fr' : List (Nat × AV)} (hnd : decide (ρ.Nodup) = true) (hp : parOk 0 w0.k ρ m' = true) (hM : RM A.mem m' ρ ρ m') (hF : RF A.mem m' ρ A.fr fr') :
    Rel n fp w0 σ (subG μ ρ m') (subD Ds ρ m') ⟨fr', m'⟩ a w := by
  refine ⟨h.defers, h.size, fun t av ht => ?_, h.agree, h.mem.sub (of_decide_eq_true hnd) hM, fun id b hb => ?_, h.keeps, h.old, h.mono, gle_sub h hp hM, h.kout, (parOk_out hp).1⟩
  · have hev := h.ev (.tmp t)
    rw [show evO A.fr (.tmp t) = lk A.fr t from rfl] at hev
    exact hev.sub h.mem (RF.get hF t av ht)
  · obtain ⟨⟨i, _, h2⟩, _⟩ := hb
    exact h.own i b h2
end
theorem le_sub {k : Nat} {fr fr' : List (Nat × AV)} {mem mem' : List Res} (ρ : List Nat) (hnd : decide (ρ.Nodup) = true) (hp : parOk 0 k ρ mem' = true) (hM : RM mem mem' ρ ρ mem') (hF : RF mem mem' ρ fr fr') : AS.le k ⟨fr, mem⟩ ⟨fr', mem'⟩ :=
  fun n fp w0 σ μ Ds a w hk h => ⟨_, _, h.sub hnd (by rw [hk]; exact hp) hM hF⟩

-- code
inductive StopSeq (k id : Nat) (x : (AS → Prop) → AS → Prop) (y : AS → Prop) (A : AS) : Prop
  | mk (h : x (fun A' => ∃ B, AS.le k A' B ∧ y B) A) : StopSeq k id x y A
inductive StopLoop (k : Nat) (step : (AS → Prop) → AS → Prop) (A : AS) : Prop
  | mk (I : Nat → AS → Prop) (h0 : ∃ m B, AS.le k A B ∧ I m B) (h1 : ∀ m A', I m A' → step (fun B => ∃ m' B', m' < m ∧ AS.le k B B' ∧ I m' B') A') : StopLoop k step A
def firstId : Code → Option Nat
  | .region id _ _ => some id
  | .seq x _ => firstId x
  | .block _ c => firstId c
  | .loop c => firstId c
  | .scope c => firstId c
  | _ => none
def hasN : List Nat → Nat → Bool
  | [], _ => false
  | a :: l, i => match Nat.beq a i with
    | true => true
    | false => hasN l i
def cutAt (cuts : List Nat) (c : Code) : Option Nat :=
  match firstId c with
  | some i => match hasN cuts i with
    | true => some i
    | false => none
  | none => none
def vawp (P : Program) (mt : Mut) (k : Nat) (cuts : List Nat) (c : Code) : (AS → Prop) → (Nat → AS → Prop) → (AS → Prop) → AS → Prop :=
  Code.rec (motive := fun _ => (AS → Prop) → (Nat → AS → Prop) → (AS → Prop) → AS → Prop)
    (fun K _ _ A => K A)
    (fun _ ops draw K _ _ A => match draw with
      | true => vlist P mt (pfOf P ops (bef ops)) ops 0 ops.toList K A
      | false => vlist P mt (fun _ => false) ops 0 ops.toList K A)
    (fun _ y ix iy K X R A => match cutAt cuts y with
      | some i => StopSeq k i (fun K' => ix K' X R) (iy K X R) A
      | none => ix (iy K X R) X R A)
    (fun c _ _ ix iy K X R A => evV A.fr c fun v => match v with
      | .v (.bool b) => (b = true → ix K X R A) ∧ (b = false → iy K X R A)
      | _ => False)
    (fun id _ ic K X R A => ic K (fun i A => match Nat.beq i id with
      | true => K A
      | false => X i A) R A)
    (fun _ ic _ X R A => StopLoop k (fun K' => ic K' X R) A)
    (fun _ _ _ _ _ _ _ _ _ _ => False)
    (fun id _ X _ A => X id A)
    (fun _ ic K X R A => ic K X R A)
    (fun _ K _ _ A => K A)
    (fun _ _ _ _ _ => False)
    (fun _ _ R A => R A)
    (fun _ _ _ _ _ => False) c
section
variable {P : Program} {mt : Mut} {k : Nat} {cuts : List Nat} {K : AS → Prop} {X : Nat → AS → Prop} {R : AS → Prop} {A : AS} {x y : Code} {c : Operand}
theorem vawp_region {id : Nat} {ops : Array Oper} {draw : Bool} : vawp P mt k cuts (.region id ops draw) K X R A = match draw with
      | true => vlist P mt (pfOf P ops (bef ops)) ops 0 ops.toList K A
      | false => vlist P mt (fun _ => false) ops 0 ops.toList K A := rfl
theorem vawp_seq : vawp P mt k cuts (.seq x y) K X R A = match cutAt cuts y with
      | some i => StopSeq k i (fun K' => vawp P mt k cuts x K' X R) (vawp P mt k cuts y K X R) A
      | none => vawp P mt k cuts x (vawp P mt k cuts y K X R) X R A := rfl
theorem vawp_cond : vawp P mt k cuts (.cond c x y) K X R A = evV A.fr c fun v => match v with
      | .v (.bool b) => (b = true → vawp P mt k cuts x K X R A) ∧ (b = false → vawp P mt k cuts y K X R A)
      | _ => False := rfl
end
def codeOk (P : Program) (n : Nat) : Code → Bool
  | .region _ ops draw => (ops.all fun o => match o.dst with | some t => decide (t < n) | none => true) && (!draw || drawOk P ops (pfOf P ops (bef ops)))
  | .seq x y => codeOk P n x && codeOk P n y
  | .cond _ x y => codeOk P n x && codeOk P n y
  | .block _ c => codeOk P n c
  | .loop c => codeOk P n c
  | .scope c => codeOk P n c
  | _ => true
section
variable {P : Program} {mt : Mut} {n k : Nat} {cuts : List Nat} {fp : Nat → Prop} {w0 : Start}
def CPost (n : Nat) (fp : Nat → Prop) (w0 : Start) (K : AS → Prop) (X : Nat → AS → Prop) (R : AS → Prop) : Exit → Act → World → Prop
  | .normal, a, w => AtEnd n fp w0 K a w
  | .exit id, a, w => AtEnd n fp w0 (X id) a w
  | .ret, a, w => AtEnd n fp w0 R a w
  | _, _, _ => False
theorem exists_least {J : Nat → Prop} (h : ∃ n, J n) : ∃ n, J n ∧ ∀ m, m < n → ¬ J m := by
  obtain ⟨n, hn⟩ := h
  induction n using Nat.strongRecOn with
  | _ n ih =>
    by_cases hm : ∃ m, m < n ∧ J m
    · obtain ⟨m, h1, h2⟩ := hm
      exact ih m h1 h2
    · exact ⟨n, hn, fun m h1 h2 => hm ⟨m, h1, h2⟩⟩
theorem vawp_sound (hm : P.follows .mixedOrders = true) (hk : w0.k = k) : ∀ (c : Code) {K : AS → Prop} {X : Nat → AS → Prop} {R : AS → Prop} {A : AS} {σ : Store} {μ : Ghost} {Ds : Nat → Nat → Prop} {a : Act} {w : World}, codeOk P n c = true → Rel n fp w0 σ μ Ds A a w → vawp P mt k cuts c K X R A → c.wp P (CPost n fp w0 K X R) a w
  | .skip, K, X, R, A, σ, μ, Ds, a, w, _, h, hq => wp_skip ⟨A, σ, μ, Ds, hq, h⟩
  | .label l, K, X, R, A, σ, μ, Ds, a, w, _, h, hq => wp_label ⟨A, σ, μ, Ds, hq, h⟩
  | .exit id, K, X, R, A, σ, μ, Ds, a, w, _, h, hq => wp_exit ⟨A, σ, μ, Ds, hq, h⟩
  | .ret, K, X, R, A, σ, μ, Ds, a, w, _, h, hq => wp_ret ⟨A, σ, μ, Ds, hq, h⟩
  | .goto l, K, X, R, A, σ, μ, Ds, a, w, _, h, hq => hq.elim
  | .refuse s, K, X, R, A, σ, μ, Ds, a, w, _, h, hq => hq.elim
  | .rangeFunc f p x y, K, X, R, A, σ, μ, Ds, a, w, _, h, hq => hq.elim
  | .region id ops draw, K, X, R, A, σ, μ, Ds, a, w, hok, h, hq => by
    simp only [codeOk, Bool.and_eq_true, Bool.or_eq_true, Bool.not_eq_true'] at hok
    obtain ⟨h1, h2⟩ := hok
    rw [vawp_region] at hq
    cases draw with
    | true => exact draw_sound hm (by simpa using h2) h1 (fun a w he => he) h hq
    | false =>
      refine wp_region_list (vlist_sound (fun a w he => he) _ 0 ?_ h hq)
      intro o ho t ht
      have := Array.all_eq_true_iff_forall_mem.1 h1 o (Array.mem_toList_iff.1 ho)
      rw [ht] at this
      simpa using this
  | .seq x y, K, X, R, A, σ, μ, Ds, a, w, hok, h, hq => by
    simp only [codeOk, Bool.and_eq_true] at hok
    rw [vawp_seq] at hq
    split at hq
    · obtain ⟨hq⟩ := hq
      refine wp_seq (wp_mono (vawp_sound hm hk x hok.1 h hq) ?_)
      intro e a' w' he
      cases e with
      | normal =>
        obtain ⟨A', σ', μ', Ds', ⟨B, hle, hK⟩, hr⟩ := he
        obtain ⟨μ2, D2, hr2⟩ := hle n fp w0 σ' μ' Ds' a' w' hk hr
        exact vawp_sound hm hk y hok.2 hr2 hK
      | _ => exact he
    · refine wp_seq (wp_mono (vawp_sound hm hk x hok.1 h hq) ?_)
      intro e a' w' he
      cases e with
      | normal =>
        obtain ⟨A', σ', μ', Ds', hK, hr⟩ := he
        exact vawp_sound hm hk y hok.2 hr hK
      | _ => exact he
  | .cond c x y, K, X, R, A, σ, μ, Ds, a, w, hok, h, hq => by
    simp only [codeOk, Bool.and_eq_true] at hok
    rw [vawp_cond] at hq
    simp only [evV_eq] at hq
    split at hq
    · rename_i b hb
      have hc : a.eval c = .bool b := by have := h.ev c; rw [hb] at this; exact this.inv_v
      refine wp_cond hc ?_
      cases b with
      | true => exact vawp_sound hm hk x hok.1 h (hq.1 rfl)
      | false => exact vawp_sound hm hk y hok.2 h (hq.2 rfl)
    · exact hq.elim
  | .block id c, K, X, R, A, σ, μ, Ds, a, w, hok, h, hq => by
    refine wp_block (wp_mono (vawp_sound hm hk c hok h hq) ?_)
    intro e a' w' he
    cases e with
    | exit i =>
      obtain ⟨A', σ', μ', Ds', hK, hr⟩ := he
      simp only [Exit.inBlock]
      split
      · rename_i hi
        subst hi
        simp only [Nat.beq_refl] at hK
        exact ⟨A', σ', μ', Ds', hK, hr⟩
      · rename_i hi
        have : Nat.beq i id = false := by
          cases hb : Nat.beq i id with
          | false => rfl
          | true => exact absurd (Nat.eq_of_beq_eq_true hb) hi
        simp only [this] at hK
        exact ⟨A', σ', μ', Ds', hK, hr⟩
    | _ => exact he
  | .scope c, K, X, R, A, σ, μ, Ds, a, w, hok, h, hq => by
    refine wp_scope_straight (wp_mono (vawp_sound hm hk c hok h hq) ?_)
    intro e a' w' he
    cases e <;> exact he
  | .loop c, K, X, R, A, σ, μ, Ds, a, w, hok, h, hq => by
    obtain ⟨I, ⟨n0, B, hle, hI⟩, hround⟩ := hq
    have J0 : ∃ j B σ μ Ds, I j B ∧ Rel n fp w0 σ μ Ds B a w := by
      obtain ⟨μ', D', hr⟩ := hle n fp w0 σ μ Ds a w hk h
      exact ⟨n0, B, σ, μ', D', hI, hr⟩
    let J : Act → World → Nat → Prop := fun a w j => ∃ B σ μ Ds, I j B ∧ Rel n fp w0 σ μ Ds B a w
    let m : Act → World → Nat := fun a w => @dite _ (∃ j, J a w j) (Classical.propDecidable _) (fun h => Classical.choose (exists_least h)) (fun _ => 0)
    have hm1 : ∀ a w, (∃ j, J a w j) → J a w (m a w) ∧ ∀ j, j < m a w → ¬ J a w j := by
      intro a w h
      have := Classical.choose_spec (exists_least h)
      simp only [m, dif_pos h]
      exact this
    refine wp_loop (fun a w => ∃ j, J a w j) m J0 ?_
    intro a w hJ
    obtain ⟨⟨B, σ, μ, Ds, hI, hr⟩, hmin⟩ := hm1 a w hJ
    refine wp_mono (vawp_sound hm hk c hok hr (hround _ B hI)) ?_
    intro e a' w' he
    cases e with
    | normal =>
      obtain ⟨A', σ', μ', Ds', ⟨j, B', hj, hle', hI'⟩, hr'⟩ := he
      obtain ⟨μ2, D2, hr2⟩ := hle' n fp w0 σ' μ' Ds' a' w' hk hr'
      have hJ' : J a' w' j := ⟨B', σ', μ2, D2, hI', hr2⟩
      refine ⟨⟨j, hJ'⟩, ?_⟩
      have := (hm1 a' w' ⟨j, hJ'⟩).2
      rcases Nat.lt_or_ge j (m a' w') with g | g
      · exact absurd hJ' (this j g)
      · omega
    | _ => exact he
end

-- results
inductive StopRet (k : Nat) (mem : List Res) (v r : AV) (m' : List Res) : Prop
  | mk (ρ : List Nat) (hnd : decide (ρ.Nodup) = true) (hp : parOk 0 k ρ m' = true) (hM : RM mem m' ρ ρ m') (hr : RK mem m' ρ v r) : StopRet k mem v r m'
def vretV (P : Program) (fr : List (Nat × AV)) (mem : List Res) (x : ResultVar) (K : AV → Prop) : Prop :=
  match x with
  | .tmp t => lkK fr t K
  | .cell t u => lkK fr t fun v => match v with
    | .box id off => ldV (shapeT P u) (.box id off) mem fun v => fz v K
    | _ => False
def vretL (P : Program) (fr : List (Nat × AV)) (mem : List Res) : List ResultVar → (List AV → Prop) → Prop
  | [], K => K []
  | x :: l, K => vretV P fr mem x fun v => vretL P fr mem l fun vs => K (v :: vs)
def vret (P : Program) (k : Nat) (rs : List ResultVar) (r : AV) (m' : List Res) (A : AS) : Prop :=
  match rs with
  | [x] => vretV P A.fr A.mem x fun v => StopRet k A.mem v r m'
  | rs => vretL P A.fr A.mem rs fun l => StopRet k A.mem (.tup l) r m'
section
variable {P : Program} {n : Nat} {fp : Nat → Prop} {w0 : Start} {σ : Store} {μ : Ghost} {Ds : Nat → Nat → Prop} {A : AS} {a : Act} {w : World}
def resSem (tmps : Array Value) : ResultVar → Sem Value
  | .tmp t => pure (tmps.getD t undef)
  | .cell x t => do loadVar t (← asAddr (tmps.getD x undef))
theorem results_eq (fn : Func) (tmps : Array Value) : results fn tmps = (do
    let vs ← fn.results.mapM (resSem tmps)
    pure (if h : vs.size = 1 then vs[0] else .tuple vs)) := by
  unfold results
  congr 1
theorem res_run (h : Rel n fp w0 σ μ Ds A a w) {x : ResultVar} {K : AV → Prop} (hq : vretV P A.fr A.mem x K) : ∃ y av, (resSem a.tmps x).run P w = .ok y w ∧ RepV σ μ av y ∧ K av := by
  cases x with
  | tmp t =>
    simp only [vretV, lkK_eq] at hq
    exact ⟨_, _, rfl, h.ev (.tmp t), hq⟩
  | cell x t =>
    simp only [vretV, lkK_eq] at hq
    split at hq
    · rename_i id off e
      simp only [fz_eq] at hq
      have hx := h.ev (.tmp x)
      rw [show evO A.fr (.tmp x) = lk A.fr x from rfl, e] at hx
      obtain ⟨b, hb, hmu⟩ := hx.inv_box
      have hx' : RepV σ μ (.box id off) (a.eval (.tmp x)) := hx
      obtain ⟨y, av, h1, h2, h3⟩ := ld_sound (P := P) h hx' hq
      refine ⟨y, av, ?_, h2, h3⟩
      have hb' : a.tmps.getD x undef = .pointer (some ⟨b, off, none⟩) := hb
      rw [hb] at h1
      simp only [resSem, hb', asAddr, Sem.run_bind, Sem.run_pure, Result.andThen_ok]
      simpa [Instr.loadAt, Instr.sureAddr, Sem.run_bind, Sem.run_pure, Result.andThen_ok] using h1
    · exact hq.elim
theorem resL_run (h : Rel n fp w0 σ μ Ds A a w) : ∀ {rs : List ResultVar} {K : List AV → Prop}, vretL P A.fr A.mem rs K → ∃ ys avs, (rs.mapM (resSem a.tmps)).run P w = .ok ys w ∧ ys.length = rs.length ∧ avs.length = rs.length ∧ (∀ (i : Nat) (av : AV) (y : Value), avs[i]? = some av → ys[i]? = some y → RepV σ μ av y) ∧ K avs
  | [], K, hq => ⟨[], [], by simp [Sem.run_pure], rfl, rfl, fun i av y h => by simp at h, hq⟩
  | x :: rs, K, hq => by
    obtain ⟨y, av, h1, h2, h3⟩ := res_run h hq
    obtain ⟨ys, avs, g1, g2, g3, g4, g5⟩ := resL_run h h3
    refine ⟨y :: ys, av :: avs, by simp [Sem.run_bind, h1, g1, Result.andThen_ok, Sem.run_pure], by simp [g2], by simp [g3], fun i av' y' e1 e2 => ?_, g5⟩
    cases i with
    | zero => simp at e1 e2; subst e1 e2; exact h2
    | succ i => exact g4 i av' y' (by simpa using e1) (by simpa using e2)
theorem ret_run (h : Rel n fp w0 σ μ Ds A a w) {fn : Func} {r : AV} {m' : List Res} (hr : vret P w0.k fn.results.toList r m' A) : ∃ x v, (results fn a.tmps).run P w = .ok x w ∧ RepV σ μ v x ∧ StopRet w0.k A.mem v r m' := by
  rw [results_eq]
  have key : ∀ {K : List AV → Prop}, vretL P A.fr A.mem fn.results.toList K → ∃ ys avs, (fn.results.mapM (resSem a.tmps)).run P w = .ok ys w ∧ ys.size = fn.results.size ∧ avs.length = fn.results.size ∧ (∀ (i : Nat) (av : AV) (y : Value), avs[i]? = some av → ys[i]? = some y → RepV σ μ av y) ∧ K avs := by
    intro K hq
    obtain ⟨ys, avs, g1, g2, g3, g4, g5⟩ := resL_run h hq
    refine ⟨ys.toArray, avs, ?_, by simpa using g2, by simpa using g3, fun i av y e1 e2 => g4 i av y e1 (by simpa using e2), g5⟩
    rw [Array.mapM_eq_mapM_toList]
    simp only [Sem.run_bind, map_eq_pure_bind, g1, Result.andThen_ok, Sem.run_pure]
  unfold vret at hr
  split at hr
  · rename_i x hx
    have hq : vretL P A.fr A.mem fn.results.toList (fun l => ∃ v, l = [v] ∧ StopRet w0.k A.mem v r m') := by
      rw [hx]
      unfold vretL
      unfold vretL
      cases x with
      | tmp t => simp only [vretV, lkK_eq] at hr ⊢; exact ⟨_, rfl, hr⟩
      | cell t u =>
        simp only [vretV, lkK_eq] at hr ⊢
        split at hr
        · simp only [fz_eq] at hr ⊢
          exact ldV_nice.mono (fun v hv => ⟨v, rfl, hv⟩) hr
        · exact hr.elim
    obtain ⟨ys, avs, g1, g2, g3, g4, v, rfl, g5⟩ := key hq
    have hs : ys.size = 1 := by rw [g2]; simpa using g3.symm
    refine ⟨ys[0], v, ?_, g4 0 v _ rfl (by simp [hs]), g5⟩
    simp [Sem.run_bind, g1, Result.andThen_ok, hs, Sem.run_pure]
  · rename_i hne
    obtain ⟨ys, avs, g1, g2, g3, g4, g5⟩ := key hr
    have hs : ys.size ≠ 1 := by
      rw [g2]
      intro e
      have : fn.results.toList.length = 1 := by simpa using e
      cases hl : fn.results.toList with
      | nil => rw [hl] at this; simp at this
      | cons x l => cases l with
        | nil => exact hne x hl
        | cons => rw [hl] at this; simp at this
    refine ⟨.tuple ys, .tup avs, ?_, .tup _ _ ys (g3.trans g2.symm) g4, g5⟩
    simp [Sem.run_bind, g1, Result.andThen_ok, hs, Sem.run_pure]
end
/-- The frame at the beginning: the arguments. -/
def argFr : Nat → List AV → List (Nat × AV)
  | _, [] => []
  | i, a :: l => (i, a) :: argFr (i + 1) l
theorem look_argFr (l : List AV) : ∀ i t, look (argFr i l) t = if i ≤ t then l[t - i]? else none := by
  induction l with
  | nil => intro i t; simp [argFr, look]
  | cons a l ih =>
    intro i t
    simp only [argFr, look]
    by_cases h : i = t
    · subst h; simp
    · rw [if_neg h, ih]
      by_cases h2 : i + 1 ≤ t
      · rw [if_pos h2, if_pos (by omega), show t - i = t - (i + 1) + 1 by omega, List.getElem?_cons_succ]
      · rw [if_neg h2, if_neg (by omega)]
/-- A contract, by the body. -/
theorem fn_of {P : Program} (hm : P.follows .mixedOrders = true) (mt : Mut) (cuts : List Nat) {f : FuncId} {fn : Func} {c : Code} {args : List AV} {m : List Res} {r : AV} {m' : List Res} (hf : P.funcs[f]? = some fn) (hb : fn.body = some c) (hname : (fn.name == "runtime.NumGoroutine") = false)
    {n : Nat} (hn : fn.ntmps = n) (hle : Nat.ble args.length n = true) {rs : List ResultVar} (hrs : fn.results.toList = rs) (h0 : gen0 m = true) (hok : codeOk P n c = true)
    (h : vawp P mt m.length cuts c (vret P m.length rs r m') (fun _ _ => False) (vret P m.length rs r m') ⟨argFr 0 args, m⟩) : Fn P f args m r m' := by
  subst hn hrs
  refine ⟨⟨fn, hf, by rw [hb]; rfl, hname⟩, fun w σ μ Ds vs hag hmem hlen hargs => ?_⟩
  have hle := Nat.le_of_ble_eq_true hle
  refine calls_of_wp hf hb ?_
  let w0 : Start := ⟨w, σ, μ, m.length, fun i ao n cap g hi => by
    have hlt : i < m.length := by
      rcases Nat.lt_or_ge i m.length with q | q
      · exact q
      · rw [(hmem.out i q).1] at hi; cases hi
    obtain ⟨z1, z2⟩ := gen0_out h0 i _ (List.getElem?_eq_getElem hlt)
    obtain ⟨an, x1, x2⟩ := MemOk.an (A := ⟨[], m⟩) hmem (List.getElem?_eq_getElem hlt) z1
    rw [hi] at x1
    obtain rfl := Option.some.inj x1
    rcases x2 with ⟨v, e, _⟩ | ⟨_, _, _, gA, e, hg⟩
    · cases e
    · cases e
      rw [hg] at z2
      exact z2⟩
  have hrel : Rel fn.ntmps (fun b => ∃ id, Ds id b) w0 σ μ Ds ⟨argFr 0 args, m⟩ { tmps := vs ++ Array.replicate (fn.ntmps - vs.size) undef, defers := [] } w := by
    refine ⟨rfl, by simp; omega, ?_, hag, hmem, fun id b hb => .inr ⟨id, hb⟩, ⟨rfl, rfl, rfl, Nat.le_refl _, fun _ _ _ => rfl⟩, fun _ _ _ _ => rfl, fun _ _ _ h => h, Gle.refl _, fun i hi => (hmem.out i hi).1, Nat.le_refl _⟩
    intro t av ht
    rw [look_argFr] at ht
    simp only [Nat.zero_le, if_true, Nat.sub_zero] at ht
    have hlt : t < args.length := (List.getElem?_eq_some_iff.1 ht).1
    have hlt' : t < vs.size := by omega
    have := hargs t av vs[t] ht (by simp [hlt'])
    simpa [Array.getD_eq_getD_getElem?, Array.getElem?_append_left hlt', hlt'] using this
  refine wp_mono (vawp_sound hm rfl c hok hrel h) ?_
  have fin : ∀ a' w', AtEnd fn.ntmps (fun b => ∃ id, Ds id b) w0 (vret P m.length fn.results.toList r m') a' w' → a'.defers = [] ∧ ∃ v, (results fn a'.tmps).run P w' = .ok v w' ∧
      ∃ x σ' μ' Ds', (Ending.returned v : Ending) = .returned x ∧ Post σ μ Ds w r m' x σ' μ' Ds' w' := by
    rintro a' w' ⟨A, σ', μ', Ds', hr, hrel⟩
    obtain ⟨x, v, h1, h2, ρ, hnd, hp, hM, hK⟩ := ret_run hrel hr
    refine ⟨hrel.defers, x, h1, x, σ', subG μ' ρ m', subD Ds' ρ m', rfl, ⟨h2.sub hrel.mem hK, hrel.mem.sub (of_decide_eq_true hnd) hM, gle_sub hrel hp hM, hrel.agree, hrel.keeps, fun b o hb hf => hrel.old b o hb hf, hrel.mono, fun id b hb => ?_⟩⟩
    obtain ⟨⟨i, _, h4⟩, _⟩ := hb
    exact hrel.own i b h4
  intro e a' w' he
  cases e with
  | normal => exact fin a' w' he
  | ret => exact fin a' w' he
  | exit id => obtain ⟨A, σ', μ, Ds, hr, hrel⟩ := he; exact hr.elim
  | _ => exact he.elim
end Go.Proofs.Ytimfnpjcedjmiaa
