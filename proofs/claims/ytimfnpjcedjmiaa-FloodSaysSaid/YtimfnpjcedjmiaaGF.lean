/-
  Engine G, extensions: slices of one's own that begin anew.
-/
import Derived.Test.YtimfnpjcedjmiaaGE
namespace Go.Proofs.Ytimfnpjcedjmiaa
open Go.RowKit
set_option linter.unusedSimpArgs false
set_option linter.unusedVariables false
/-- A slice of one's own is left alone, and begins anew; so a cell that holds nothing holds it. -/
theorem le_anewG {k : Nat} {fr : List (Nat × AV)} {mem : List Res} (q : Nat) {E sz g : Nat} (id j : Nat) (l : List AV) (hq : mem[q]? = some (.grow E sz g)) (hne : q ≠ id) (hid : mem[id]? = some (.cells l)) (hj : l[j]? = some (.v (.slice none 0 0))) :
    AS.le k ⟨fr, mem⟩ ⟨fr, (mem.set q (.grow E sz (g + 1))).set id (.cells (l.set j (.sl sz [] (some (q, g + 1)))))⟩ := by
  intro n fp w0 σ μ Ds a w hk hr
  have hlt : q < mem.length := (List.getElem?_eq_some_iff.1 hq).1
  obtain ⟨ao, m, cap, xs, h1, _⟩ := hr.mem.ok q _ hq
  have hu := hr.upd (id := q) (r := .grow E sz (g + 1)) (D := fun _ => False) (an := .cur none 0 0 (g + 1)) (σ' := σ) (w' := w) (Nat.le_of_lt hlt) (Nat.le_refl _) rfl rfl rfl (fun b hb hd => ⟨rfl, fun o => rfl⟩) (fun b o y hy => hy) hr.agree
    ⟨none, 0, 0, [], updG_self, ⟨by simp, .inl ⟨rfl, rfl⟩⟩, fun k hk => hk.elim, fun k => ⟨fun h => h.elim, fun h => by cases h⟩⟩
    (fun b hb => hb.elim) (fun a ha => by rw [h1] at ha; obtain rfl := Option.some.inj ha; exact ⟨by omega, fun e => by omega⟩)
  have hp : putR mem q (.grow E sz (g + 1)) = mem.set q (.grow E sz (g + 1)) := by unfold putR; rw [if_pos hlt]
  rw [show (⟨fr, mem⟩ : AS).mem = mem from rfl, hp] at hu
  exact ⟨_, _, _, hu.recell (id := id) (j := j) (by show (mem.set q _)[id]? = _; rw [List.getElem?_set_ne hne]; exact hid) hj (fun x hx => by rw [hx.inv_v]; exact rep_nil updG_self (An.le_refl _))⟩
/-- What is returned, of memory as it may be known otherwise. -/
def retLe (P : Program) (k : Nat) (rs : List ResultVar) (r : AV) (m' : List Res) (A : AS) : Prop := ∃ B, AS.le k A B ∧ vret P k rs r m' B
/-- A contract, by the body; ahead of the return memory may be known otherwise. -/
theorem fn_ofL {P : Program} (hm : P.follows .mixedOrders = true) (mt : Mut) (cuts : List Nat) {f : FuncId} {fn : Func} {c : Code} {args : List AV} {m : List Res} {r : AV} {m' : List Res} (hf : P.funcs[f]? = some fn) (hb : fn.body = some c) (hname : (fn.name == "runtime.NumGoroutine") = false)
    {n : Nat} (hn : fn.ntmps = n) (hle : Nat.ble args.length n = true) {rs : List ResultVar} (hrs : fn.results.toList = rs) (h0 : gen0 m = true) (hok : codeOk P n c = true)
    (h : vawp P mt m.length cuts c (retLe P m.length rs r m') (fun _ _ => False) (retLe P m.length rs r m') ⟨argFr 0 args, m⟩) : Fn P f args m r m' := by
  subst hn hrs
  refine ⟨⟨fn, hf, by rw [hb]; rfl, hname⟩, fun w σ μ Ds vs hag hmem hlen hargs => ?_⟩
  have hle := Nat.le_of_ble_eq_true hle
  refine calls_of_wp hf hb ?_
  let w0 : Start := ⟨w, σ, μ, m.length, fun i ao n cap g hi => by
    have hlt : i < m.length := by
      rcases Nat.lt_or_ge i m.length with q | q
      · exact q
      · rw [(hmem.out i q).1] at hi; cases hi
    obtain ⟨z1, z2⟩ := gen0_out h0 i _ (List.getElem?_eq_getElem hlt)
    obtain ⟨an, x1, x2⟩ := MemOk.an (A := ⟨[], m⟩) hmem (List.getElem?_eq_getElem hlt) z1
    rw [hi] at x1
    obtain rfl := Option.some.inj x1
    rcases x2 with ⟨v, e, _⟩ | ⟨_, _, _, gA, e, hg⟩
    · cases e
    · cases e
      rw [hg] at z2
      exact z2⟩
  have hrel : Rel fn.ntmps (fun b => ∃ id, Ds id b) w0 σ μ Ds ⟨argFr 0 args, m⟩ { tmps := vs ++ Array.replicate (fn.ntmps - vs.size) undef, defers := [] } w := by
    refine ⟨rfl, by simp; omega, ?_, hag, hmem, fun id b hb => .inr ⟨id, hb⟩, ⟨rfl, rfl, rfl, Nat.le_refl _, fun _ _ _ => rfl⟩, fun _ _ _ _ => rfl, fun _ _ _ h => h, Gle.refl _, fun i hi => (hmem.out i hi).1, Nat.le_refl _⟩
    intro t av ht
    rw [look_argFr] at ht
    simp only [Nat.zero_le, if_true, Nat.sub_zero] at ht
    have hlt : t < args.length := (List.getElem?_eq_some_iff.1 ht).1
    have hlt' : t < vs.size := by omega
    have := hargs t av vs[t] ht (by simp [hlt'])
    simpa [Array.getD_eq_getD_getElem?, Array.getElem?_append_left hlt', hlt'] using this
  refine wp_mono (vawp_sound hm rfl c hok hrel h) ?_
  have fin : ∀ a' w', AtEnd fn.ntmps (fun b => ∃ id, Ds id b) w0 (retLe P m.length fn.results.toList r m') a' w' → a'.defers = [] ∧ ∃ v, (results fn a'.tmps).run P w' = .ok v w' ∧
      ∃ x σ' μ' Ds', (Ending.returned v : Ending) = .returned x ∧ Post σ μ Ds w r m' x σ' μ' Ds' w' := by
    rintro a' w' ⟨A0, σ0, μ0, Ds0, ⟨A, hAB, hr⟩, hrel0⟩
    obtain ⟨σ', μ', Ds', hrel⟩ := hAB _ _ w0 σ0 μ0 Ds0 a' w' rfl hrel0
    obtain ⟨x, v, h1, h2, ρ, hnd, hp, hM, hK⟩ := ret_run hrel hr
    refine ⟨hrel.defers, x, h1, x, σ', subG μ' ρ m', subD Ds' ρ m', rfl, ⟨h2.sub hrel.mem hK, hrel.mem.sub (of_decide_eq_true hnd) hM, gle_sub hrel hp hM, hrel.agree, hrel.keeps, fun b o hb hf => hrel.old b o hb hf, hrel.mono, fun id b hb => ?_⟩⟩
    obtain ⟨⟨i, _, h4⟩, _⟩ := hb
    exact hrel.own i b h4
  intro e a' w' he
  cases e with
  | normal => exact fin a' w' he
  | ret => exact fin a' w' he
  | exit id => obtain ⟨A, σ', μ, Ds, hr, hrel⟩ := he; exact hr.elim
  | _ => exact he.elim
-- loops that are named
def findC : List (Nat × Code) → Nat → Option Code
  | [], _ => none
  | (i, c) :: l, j => match Nat.beq i j with
    | true => some c
    | false => findC l j
/-- A code, of which loops that begin by such a region are others. -/
noncomputable def reb (L : List (Nat × Code)) (c : Code) : Code :=
  Code.rec (motive := fun _ => Code) .skip (fun id ops d => .region id ops d) (fun _ _ a b => .seq a b) (fun o _ _ a b => .cond o a b) (fun id _ a => .block id a)
    (fun c a => match firstId c with
      | some i => match findC L i with
        | some c' => .loop c'
        | none => .loop a
      | none => .loop a)
    (fun f ps _ _ a b => .rangeFunc f ps a b) (fun id => .exit id) (fun _ a => .scope a) (fun l => .label l) (fun l => .goto l) .ret (fun w => .refuse w) c
noncomputable def bodyOf (f : Func) : Code := f.body.getD .skip
theorem named_ok {P : Program} {n : Nat} {f : Func} {L : List (Nat × Code)} (hb : f.body = some (reb L (bodyOf f))) (hk : codeOk P n (bodyOf f) = true) : codeOk P n (reb L (bodyOf f)) = true := by
  have e : bodyOf f = reb L (bodyOf f) := by
    conv => lhs; unfold bodyOf; rw [hb]
    rfl
  rw [← e]; exact hk
theorem vawp_as {P : Program} {mt : Mut} {k : Nat} {cuts : List Nat} {c c' : Code} {K : AS → Prop} {X : Nat → AS → Prop} {R : AS → Prop} {A : AS} (hc : c = c') (h : vawp P mt k cuts c' K X R A) : vawp P mt k cuts c K X R A := by
  subst hc
  exact h
/-- Loops by states of two and three parts. -/
theorem lpG2 {α β : Type} {k : Nat} {step : (AS → Prop) → AS → Prop} {A : AS} (B : α → β → AS) (ok : α → β → Prop) (meas : α → β → Nat) (a : α) (b : β) (h0 : ok a b) (hle : AS.le k A (B a b))
    (hr : ∀ a b, ok a b → step (fun B' => ∃ m' B'', m' < meas a b ∧ AS.le k B' B'' ∧ ∃ a b, ok a b ∧ meas a b = m' ∧ B a b = B'') (B a b)) : StopLoop k step A :=
  ⟨fun m A' => ∃ a b, ok a b ∧ meas a b = m ∧ B a b = A', ⟨meas a b, B a b, hle, a, b, h0, rfl, rfl⟩, fun m A' ⟨a, b, hs, hm, hB⟩ => by subst hm hB; exact hr a b hs⟩
theorem nextG2 {α β : Type} {k m : Nat} {B' : AS} {B : α → β → AS} {ok : α → β → Prop} {meas : α → β → Nat} (a : α) (b : β) (hok : ok a b) (hlt : meas a b < m) (hle : AS.le k B' (B a b)) :
    ∃ m' B'', m' < m ∧ AS.le k B' B'' ∧ ∃ a b, ok a b ∧ meas a b = m' ∧ B a b = B'' := ⟨_, _, hlt, hle, a, b, hok, rfl, rfl⟩
theorem lpG3 {α β γ : Type} {k : Nat} {step : (AS → Prop) → AS → Prop} {A : AS} (B : α → β → γ → AS) (ok : α → β → γ → Prop) (meas : α → β → γ → Nat) (a : α) (b : β) (c : γ) (h0 : ok a b c) (hle : AS.le k A (B a b c))
    (hr : ∀ a b c, ok a b c → step (fun B' => ∃ m' B'', m' < meas a b c ∧ AS.le k B' B'' ∧ ∃ a b c, ok a b c ∧ meas a b c = m' ∧ B a b c = B'') (B a b c)) : StopLoop k step A :=
  ⟨fun m A' => ∃ a b c, ok a b c ∧ meas a b c = m ∧ B a b c = A', ⟨meas a b c, B a b c, hle, a, b, c, h0, rfl, rfl⟩, fun m A' ⟨a, b, c, hs, hm, hB⟩ => by subst hm hB; exact hr a b c hs⟩
theorem nextG3 {α β γ : Type} {k m : Nat} {B' : AS} {B : α → β → γ → AS} {ok : α → β → γ → Prop} {meas : α → β → γ → Nat} (a : α) (b : β) (c : γ) (hok : ok a b c) (hlt : meas a b c < m) (hle : AS.le k B' (B a b c)) :
    ∃ m' B'', m' < m ∧ AS.le k B' B'' ∧ ∃ a b c, ok a b c ∧ meas a b c = m' ∧ B a b c = B'' := ⟨_, _, hlt, hle, a, b, c, hok, rfl, rfl⟩
theorem and255 {x : Int} (h0 : 0 ≤ x) (h : x < 4294967296) : IntKind.i64.wrap ((BitVec.ofInt IntKind.i64.bits x &&& BitVec.ofInt IntKind.i64.bits 255).toNat : Int) = x % 256 := by
  have e : x = ((x.toNat : Nat) : Int) := by omega
  rw [e, show (255 : Int) = ((255 : Nat) : Int) from rfl, and64 (by omega) (by decide)]
  have := Nat.and_two_pow_sub_one_eq_mod x.toNat 8
  rw [show (2 : Nat) ^ 8 - 1 = 255 from rfl] at this
  rw [this]; omega
end Go.Proofs.Ytimfnpjcedjmiaa
