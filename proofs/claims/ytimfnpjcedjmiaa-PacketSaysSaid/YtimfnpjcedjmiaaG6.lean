/-
  Engine G, part 6: the law of the operations that only look.
-/
import Derived.Test.YtimfnpjcedjmiaaG5
namespace Go.Proofs.Ytimfnpjcedjmiaa
open Go.RowKit
set_option linter.unusedSimpArgs false
set_option linter.unusedVariables false

section
variable {P : Program} {n : Nat} {fp : Nat → Prop} {w0 : Start} {σ : Store} {μ : Ghost} {Ds : Nat → Nat → Prop} {A : AS} {a : Act} {w : World} {K : AV → Prop}
  {dst : Option Tmp} {ty : TypeId} {pos : String} {after : Array Edge} {guard : Option (Nat × Bool)}

theorem VOut.run {o : Oper} {s : Sem Value} (he : execOp a.eval o = (do pure (.value (← s)))) (h : ∃ x av, s.run P w = .ok x w ∧ RepV σ μ av x ∧ K av) : VOut P σ μ a w o K := by
  obtain ⟨x, av, h1, h2, h3⟩ := h
  exact ⟨x, av, val_run he h1, h2, h3⟩
theorem VOut.val {o : Oper} {x : Value} {av : AV} (he : execOp a.eval o = pure (.value x)) (hx : RepV σ μ av x) (h : K av) : VOut P σ μ a w o K :=
  ⟨x, av, by rw [he]; simp [Sem.run_pure], hx, h⟩

theorem builtin_run {b : Builtin} {args : Array Operand} {ats : Array TypeId} {s : Sem Value} (he : ∀ cs, builtin b ats ty cs (args.map a.eval) = (do pure (.value (← s)))) : execOp a.eval ⟨dst, .call ⟨.builtin b, args, ats⟩, ty, pos, after, guard⟩ = (do pure (.value (← s))) := by
  rw [BigFrame.execOp_builtin]
  exact he _

theorem arrT_some {t : TypeId} {len sz : Nat} (h : arrT P t = some (len, sz)) : ∃ e b, P.underlying t = some (.array len e) ∧ shapeT P e = some (b, sz) := by
  unfold arrT at h
  split at h
  · rename_i len' e hu
    cases hs : shapeT P e with
    | none => simp [hs] at h
    | some q =>
      simp [hs] at h
      obtain ⟨rfl, rfl⟩ := h
      exact ⟨e, q.1, hu, hs⟩
  · cases h
theorem min_sound {args : Array Operand} {ats : Array TypeId} (arg : ∀ l, args.toList.map (evO A.fr) = l → (args.map a.eval).toList.length = l.length ∧ ∀ (i : Nat) (av : AV), l[i]? = some av → ∃ y, (args.map a.eval).toList[i]? = some y ∧ RepV σ μ av y)
    {b : Builtin} {mx : Bool} (hb : b = if mx then .max else .min) (hq : minV mx (args.toList.map (evO A.fr)) K) : VOut P σ μ a w ⟨dst, .call ⟨.builtin b, args, ats⟩, ty, pos, after, guard⟩ K := by
  unfold minV at hq
  split at hq
  · rename_i k x k' y hv
    obtain ⟨h1, h2⟩ := tt_out hq
    obtain rfl := kEq_out h1
    obtain ⟨hlen, hget⟩ := arg _ hv
    obtain ⟨u, hu, hr⟩ := hget 0 _ rfl
    obtain ⟨v, hv, hr'⟩ := hget 1 _ rfl
    obtain rfl := hr.inv_v
    obtain rfl := hr'.inv_v
    have hargs : args.map a.eval = #[.int k x, .int k y] := by
      apply Array.ext'
      cases hl : (args.map a.eval).toList with
      | nil => rw [hl] at hu; simp at hu
      | cons z l => cases l with
        | nil => rw [hl] at hlen; simp at hlen
        | cons z2 l => cases l with
          | nil => rw [hl] at hu hv; simp at hu hv; simp [hu, hv]
          | cons => rw [hl] at hlen; simp at hlen
    cases mx with
    | false =>
      obtain rfl : b = .min := hb
      refine .run (builtin_run (s := Builtin.min_ ats ty #[.int k x, .int k y]) (fun cs => by rw [hargs]; rfl)) ⟨_, _, ?_, .v _ _, h2⟩
      simp [Builtin.min_, Builtin.min2, Sem.run_pure, Sem.run_bind, Result.andThen_ok]
    | true =>
      obtain rfl : b = .max := hb
      refine .run (builtin_run (s := Builtin.max_ ats ty #[.int k x, .int k y]) (fun cs => by rw [hargs]; rfl)) ⟨_, _, ?_, .v _ _, h2⟩
      simp [Builtin.max_, Builtin.max2, Sem.run_pure, Sem.run_bind, Result.andThen_ok]
  · exact hq.elim
theorem sub_sound (h : Rel n fp w0 σ μ Ds A a w) {v : AV} {x : Value} (hx : RepV σ μ v x) {t : TypeId} {lo hi : Option Value} {l hh : Option Int}
    (hl : (lo = none ∧ l = none) ∨ ∃ k m, lo = some (.int k m) ∧ l = some m) (hhi : (hi = none ∧ hh = none) ∨ ∃ k m, hi = some (.int k m) ∧ hh = some m) (hk : subV P t v l hh K) :
    ∃ y av, (Instr.sliceAt t x lo hi ((none : Option Operand).map a.eval)).run P w = .ok y w ∧ RepV σ μ av y ∧ K av := by
  unfold subV at hk
  split at hk
  · rename_i s
    obtain ⟨h1, hk⟩ := tt_out hk
    have hu := isStr_out h1
    obtain rfl := hx.inv_v
    have hrun : ∀ y, (Instr.slice t (.string s) lo hi none).run P w = .ok y w → (Instr.sliceAt t (.string s) lo hi ((none : Option Operand).map a.eval)).run P w = .ok y w := by
      intro y hy
      simp only [Instr.sliceAt, underlying, program, Sem.run_bind, Sem.run, Result.andThen_ok, pure, Sem.run_pure, Bind.bind, Sem.bind, hu, Option.map_none]
      exact hy
    rcases hl with ⟨rfl, rfl⟩ | ⟨k1, m1, rfl, rfl⟩ <;> rcases hhi with ⟨rfl, rfl⟩ | ⟨k2, m2, rfl, rfl⟩ <;> simp only at hk
    · refine ⟨.string s, _, hrun _ ?_, .v _ _, hk⟩
      simp [Instr.slice, Instr.sliceBounds, underlying, program, hu, Sem.run_bind, Sem.run, Result.andThen_ok, pure, Sem.run_pure]
    · obtain ⟨⟨g1, g2⟩, hK⟩ := hk
      refine ⟨.string (s.extract 0 m2.toNat), _, hrun _ ?_, .v _ _, hK⟩
      simp [Instr.slice, Instr.sliceBounds, Instr.sliceBound, underlying, program, hu, asIntOf, g1, g2, Sem.run_bind, Sem.run, Result.andThen_ok, pure, Sem.run_pure]
    · obtain ⟨⟨g1, g2⟩, hK⟩ := hk
      refine ⟨.string (s.extract m1.toNat s.size), _, hrun _ ?_, .v _ _, hK⟩
      simp [Instr.slice, Instr.sliceBounds, Instr.sliceBound, underlying, program, hu, asIntOf, g1, g2, Sem.run_bind, Sem.run, Result.andThen_ok, pure, Sem.run_pure]
    · obtain ⟨⟨g1, g2, g3⟩, hK⟩ := hk
      have g4 : 0 ≤ m2 := by omega
      have g5 : m1 ≤ (m2.toNat : Int) := by omega
      refine ⟨.string (s.extract m1.toNat m2.toNat), _, hrun _ ?_, .v _ _, hK⟩
      simp [Instr.slice, Instr.sliceBounds, Instr.sliceBound, underlying, program, hu, asIntOf, g1, g3, g4, g5, Sem.run_bind, Sem.run, Result.andThen_ok, pure, Sem.run_pure]
      intro hm; exact absurd hm (by omega)
  · rename_i sz' rows own
    split at hk
    · rename_i sz hel
      obtain ⟨hs0, hk1⟩ := tt_out hk
      obtain ⟨hp, hk2⟩ := tt_out hk1
      have hs := Nat.eq_of_beq_eq_true hs0
      subst hs
      obtain ⟨e, eb, he1, he2⟩ := elemN_some hel
      have hu := elemT_some he1
      obtain ⟨ao, cap, b, off, f, rfl, h1, h2, h3, h4, h5, h6, h7, h8⟩ := hx.inv_sl
      have rep : ∀ l h : Nat, l ≤ h → h ≤ rows.length → RepV σ μ (.sl sz ((rows.take h).drop l) none) (.slice (if cap = l then ao else ao.map (·.add (l * sz))) (h - l) (cap - l)) := by
        intro l h hlh hhr
        have hlen : ((rows.take h).drop l).length = h - l := by simp; omega
        rw [← hlen]
        have hget : ∀ i r, ((rows.take h).drop l)[i]? = some r → rows[l + i]? = some r := fun i r hi => by
          rw [List.getElem?_drop, List.getElem?_take] at hi
          split at hi
          · exact hi
          · cases hi
        refine .sl _ sz _ none _ _ b (off + l * sz) (fun i j => f (l + i) j) (by rw [hlen]; omega) (by omega) ?_ (fun r hr => h4 r (List.mem_of_mem_take (List.mem_of_mem_drop hr))) (fun i j r av g1 g2 => ?_) (fun i j r av g1 g2 => h6 _ _ _ _ (hget i r g1) g2) (fun i j r av g1 g2 => h7 _ _ _ _ (hget i r g1) g2) (fun id g h => by cases h)
        · by_cases hlt : l < h
          · right
            rw [if_neg (by omega)]
            rcases h3 with h3 | h3
            · subst h3; simp at hhr; omega
            · rw [h3]; simp [add_none]
          · left
            exact List.eq_nil_of_length_eq_zero (by rw [hlen]; omega)
        · have := h5 (l + i) j r av (hget i r g1) g2
          rw [show off + l * sz + i * sz + j = off + (l + i) * sz + j by rw [Nat.add_mul]; omega]
          exact this
      have hrun : ∀ y, (Instr.slice t (.slice ao rows.length cap) lo hi none).run P w = .ok y w → (Instr.sliceAt t (.slice ao rows.length cap) lo hi ((none : Option Operand).map a.eval)).run P w = .ok y w := by
        intro y hy
        simp only [Instr.sliceAt, underlying, program, Sem.run_bind, Sem.run, Result.andThen_ok, pure, Sem.run_pure, Bind.bind, Sem.bind, hu, Option.map_none]
        exact hy
      have hsz := sizeOf_of_shape he2 w
      rcases hl with ⟨rfl, rfl⟩ | ⟨k1, m1, rfl, rfl⟩ <;> rcases hhi with ⟨rfl, rfl⟩ | ⟨k2, m2, rfl, rfl⟩ <;> simp only at hk2
      · have := rep 0 rows.length (by omega) (Nat.le_refl _)
        rw [List.take_length, List.drop_zero] at this
        refine ⟨_, _, hrun _ ?_, this, hk2⟩
        simp [Instr.slice, Instr.sliceBounds, underlying, program, hu, hsz, Sem.run_bind, Sem.run, Result.andThen_ok, pure, Sem.run_pure]
      · obtain ⟨⟨g1, g2⟩, hK⟩ := hk2
        have := rep 0 m2.toNat (by omega) (by omega)
        rw [List.drop_zero] at this
        refine ⟨_, _, hrun _ ?_, this, hK⟩
        have g3 : m2 ≤ (cap : Int) := by omega
        simp [Instr.slice, Instr.sliceBounds, Instr.sliceBound, underlying, program, hu, hsz, asIntOf, g1, g3, Sem.run_bind, Sem.run, Result.andThen_ok, pure, Sem.run_pure]
      · obtain ⟨⟨g1, g2⟩, hK⟩ := hk2
        have := rep m1.toNat rows.length (by omega) (Nat.le_refl _)
        rw [List.take_length] at this
        refine ⟨_, _, hrun _ ?_, this, hK⟩
        simp [Instr.slice, Instr.sliceBounds, Instr.sliceBound, underlying, program, hu, hsz, asIntOf, g1, g2, Sem.run_bind, Sem.run, Result.andThen_ok, pure, Sem.run_pure]
      · obtain ⟨⟨g1, g2, g3⟩, hK⟩ := hk2
        have := rep m1.toNat m2.toNat (by omega) (by omega)
        refine ⟨_, _, hrun _ ?_, this, hK⟩
        have g4 : 0 ≤ m2 := by omega
        have g5 : m1 ≤ (m2.toNat : Int) := by omega
        have g6 : m2 ≤ (cap : Int) := by omega
        simp [Instr.slice, Instr.sliceBounds, Instr.sliceBound, underlying, program, hu, hsz, asIntOf, g1, g4, g5, g6, Sem.run_bind, Sem.run, Result.andThen_ok, pure, Sem.run_pure]
        intro hm; exact absurd hm (by omega)
    · exact hk.elim
  · rename_i id g m
    split at hk
    · rename_i sz hel
      obtain ⟨e, eb, he1, he2⟩ := elemN_some hel
      have hu := elemT_some he1
      have hsz := sizeOf_of_shape he2 w
      obtain ⟨ao, mm, cap, an, rfl, k1, k2, k3, k4, k5⟩ := hx.inv_arr
      have hrun : ∀ y, (Instr.slice t (.slice ao m cap) lo hi none).run P w = .ok y w → (Instr.sliceAt t (.slice ao m cap) lo hi ((none : Option Operand).map a.eval)).run P w = .ok y w := by
        intro y hy
        simp only [Instr.sliceAt, underlying, program, Sem.run_bind, Sem.run, Result.andThen_ok, pure, Sem.run_pure, Bind.bind, Sem.bind, hu, Option.map_none]
        exact hy
      have hself : ∀ (ao : Option Addr), ao.map (fun x => x.add 0) = ao := fun ao => by cases ao <;> simp [Addr.add]
      rcases hl with ⟨rfl, rfl⟩ | ⟨k1', m1, rfl, rfl⟩ <;> rcases hhi with ⟨rfl, rfl⟩ | ⟨k2', m2, rfl, rfl⟩ <;> simp only at hk
      · refine ⟨.slice ao m cap, _, hrun _ ?_, .arr _ _ _ _ ao mm cap an k1 k2 k3 k4 k5, hk⟩
        simp [Instr.slice, Instr.sliceBounds, underlying, program, hu, hsz, Sem.run_bind, Sem.run, Result.andThen_ok, pure, Sem.run_pure, hself]
      · obtain ⟨⟨g1, g2⟩, hK⟩ := hk
        refine ⟨.slice ao m2.toNat cap, _, hrun _ ?_, .arr _ _ _ _ ao mm cap an (by omega) k2 k3 k4 k5, hK⟩
        have g3 : m2 ≤ (cap : Int) := by omega
        simp [Instr.slice, Instr.sliceBounds, Instr.sliceBound, underlying, program, hu, hsz, asIntOf, g1, g3, Sem.run_bind, Sem.run, Result.andThen_ok, pure, Sem.run_pure, hself]
    · exact hk.elim
  · exact hk.elim
set_option maxHeartbeats 1000000 in
theorem vq_sound (h : Rel n fp w0 σ μ Ds A a w) : ∀ {op : Op}, vq P A.fr A.mem op K → VOut P σ μ a w ⟨dst, op, ty, pos, after, guard⟩ K := by
  intro op hq
  cases op
  case move x => simp only [vq, evV_eq] at hq; exact .val rfl (h.ev x) hq
  case assign x => simp only [vq, evV_eq] at hq; exact .val rfl (h.ev x) hq
  case nilCheck x =>
    simp only [vq, evV_eq] at hq
    have hx := h.ev x
    unfold nilV at hq
    split at hq
    · rename_i e; rw [e] at hx
      obtain ⟨b, hb, _⟩ := hx.inv_box
      exact .val (x := a.eval x) (by simp [execOp, hb]) hx hq
    · rename_i e; rw [e] at hx
      obtain ⟨b, off, f, hb, _⟩ := hx.inv_adr
      exact .val (x := a.eval x) (by simp [execOp, hb]) hx hq
    · rename_i e; rw [e] at hx
      obtain ⟨b, m, cap, an, hb, _⟩ := hx.inv_elt
      exact .val (x := a.eval x) (by simp [execOp, hb]) hx hq
    · rename_i e; rw [e] at hx
      obtain ⟨cs, hb, _⟩ := hx.inv_clo
      exact .val (x := a.eval x) (by simp [execOp, hb]) hx hq
    · exact hq.elim
  case pick c x y =>
    simp only [vq, evV_eq] at hq
    split at hq
    · rename_i b hb
      have hc : a.eval c = .bool b := by have := h.ev c; rw [hb] at this; exact this.inv_v
      cases b with
      | true => exact .val (by simp [execOp, hc, asBool, pure, Bind.bind, Sem.bind]) (h.ev x) (hq.1 rfl)
      | false => exact .val (by simp [execOp, hc, asBool, pure, Bind.bind, Sem.bind]) (h.ev y) (hq.2 rfl)
    · exact hq.elim
  case load t p =>
    simp only [vq, evV_eq] at hq
    exact .run rfl (ld_sound h (h.ev p) hq)
  case binOp op t x y yt =>
    simp only [vq, evV_eq] at hq
    exact .run rfl (binV_sound (h.ev x) (h.ev y) hq)
  case build t parts =>
    simp only [vq] at hq
    unfold zeroV at hq
    split at hq
    · rename_i fs hu
      split at hq
      · rename_i z hz
        obtain ⟨hall, hq⟩ := tt_out hq
        rw [fzL_eq] at hq
        obtain ⟨l', hf, hK⟩ := bldV_out hq
        have hall' : ∀ f, f ∈ fs.toList → (P.info? f.type).isSome = true := fun f hf => List.all_eq_true.1 hall f hf
        have hev : A.eval = evO A.fr := funext fun x => evO_eval (fr := A.fr) (mem := A.mem)
        obtain ⟨cs', g1, g2, g3⟩ := fill_av h (place := fun i => (fs.map fun f => (f.offset, ((P.info? f.type).map (·.size)).getD 0))[i]?) (pl := partP P t) (fun i off b k hp => by
          unfold partP at hp
          rw [hu] at hp
          simp only at hp
          unfold fieldP fieldT at hp
          rw [hu] at hp
          simp only at hp
          cases hfi : fs[i]? with
          | none => simp [hfi] at hp
          | some fd =>
            simp only [hfi, Option.map_some, Option.bind_some] at hp
            cases hsh : shapeT P fd.type with
            | none => simp [hsh] at hp
            | some q =>
              obtain ⟨q1, q2⟩ := q
              simp only [hsh, Option.map_some, Option.some.injEq, Prod.mk.injEq] at hp
              obtain ⟨rfl, rfl, rfl⟩ := hp
              simp [hfi, shape_size hsh]) parts.toList (z.cells.toList.map .v) z.cells l' (by simp) (fun i av hi => by
            simp only [List.getElem?_map, Option.map_eq_some_iff] at hi
            obtain ⟨y, hy, rfl⟩ := hi
            exact ⟨y, by simpa using hy, .v _ _⟩) (by rw [hev]; exact hf)
        unfold zeroT at hz
        cases hi : P.info? t with
        | none => simp [hi] at hz
        | some ii =>
          simp [hi] at hz
          refine .run rfl ⟨.agg cs', _, ?_, .agg _ _ _ g2.symm (fun i av y h1 h2 => by obtain ⟨y', h3, h4⟩ := g3 i av h1; rw [h3] at h2; obtain rfl := Option.some.inj h2; exact h4), hK⟩
          have hpl := places_run (P := P) (w := w) fs.toList hall'
          have hpl' : (fs.mapM fun f => (do pure (f.offset, ← sizeOf f.type) : Sem (Nat × Nat))).run P w = .ok (fs.map fun f => (f.offset, ((P.info? f.type).map (·.size)).getD 0)) w := by
            rw [Array.mapM_eq_mapM_toList]
            simp only [Sem.run_bind, map_eq_pure_bind, hpl, Result.andThen_ok, Sem.run_pure]
            congr 1
            apply Array.ext'
            simp
          have hzr : (zeroValue t).run P w = .ok z w := by simp [zeroValue, typeInfo, program, hi, hz, Sem.run_bind, Sem.run, Result.andThen_ok, pure, Sem.run_pure]
          have g1' : Instr.fill (fun x => (fs.map fun f => (f.offset, ((P.info? f.type).map (·.size)).getD 0))[x]?) z.cells (parts.map fun (i, x) => (i, a.eval x)).toList = some cs' := by
            rw [← g1]; congr 1; simp
          simp only [Instr.build, Sem.run_bind, hzr, Result.andThen_ok, run_underlying hu, hpl', g1', Sem.run_pure]
      · exact hq.elim
    · rename_i len e hu
      split at hq
      · rename_i z hz
        obtain ⟨hsome, hq⟩ := tt_out hq
        rw [fzL_eq] at hq
        obtain ⟨l', hf, hK⟩ := bldV_out hq
        obtain ⟨⟨eb, ek⟩, hsh⟩ := Option.isSome_iff_exists.1 hsome
        have hev : A.eval = evO A.fr := funext fun x => evO_eval (fr := A.fr) (mem := A.mem)
        obtain ⟨cs', g1, g2, g3⟩ := fill_av h (place := fun i => some (i * ek, ek)) (pl := partP P t) (fun i off b k hp => by
          unfold partP at hp
          rw [hu] at hp
          simp only [hsh, Option.map_some, Option.some.injEq, Prod.mk.injEq] at hp
          obtain ⟨rfl, rfl, rfl⟩ := hp
          rfl) parts.toList (z.cells.toList.map .v) z.cells l' (by simp) (fun i av hi => by
            simp only [List.getElem?_map, Option.map_eq_some_iff] at hi
            obtain ⟨y, hy, rfl⟩ := hi
            exact ⟨y, by simpa using hy, .v _ _⟩) (by rw [hev]; exact hf)
        unfold zeroT at hz
        cases hi : P.info? t with
        | none => simp [hi] at hz
        | some ii =>
          simp [hi] at hz
          refine .run rfl ⟨.agg cs', _, ?_, .agg _ _ _ g2.symm (fun i av y h1 h2 => by obtain ⟨y', h3, h4⟩ := g3 i av h1; rw [h3] at h2; obtain rfl := Option.some.inj h2; exact h4), hK⟩
          have hzr : (zeroValue t).run P w = .ok z w := by simp [zeroValue, typeInfo, program, hi, hz, Sem.run_bind, Sem.run, Result.andThen_ok, pure, Sem.run_pure]
          have g1' : Instr.fill (fun i => some (i * ek, ek)) z.cells (parts.map fun (i, x) => (i, a.eval x)).toList = some cs' := by
            rw [← g1]; congr 1; simp
          simp only [Instr.build, Sem.run_bind, hzr, Result.andThen_ok, run_underlying hu, sizeOf_of_shape hsh, g1', Sem.run_pure]
      · exact hq.elim
    · exact hq.elim
  case unOp op t x =>
    simp only [vq, evV_eq] at hq
    have hc := h.ev x
    split at hq
    · split at hq
      · rename_i b hb
        rw [hb] at hc
        have hc := hc.inv_v
        exact .run rfl ⟨.bool (neg b), _, by simp [hc, Op.unary, Sem.run_pure, neg_eq], .v _ _, hq⟩
      · exact hq.elim
    · split at hq
      · rename_i b hb
        rw [hb] at hc
        have hc := hc.inv_v
        exact .run rfl ⟨.int .i64 (0 - b), _, by simp only [hc, Op.unary, Op.intArith, Sem.run_pure, wrap_in hq.1.1], .v _ _, hq.2⟩
      · exact hq.elim
    · exact hq.elim
  case convert src dt x =>
    simp only [vq, evV_eq] at hq
    have hc := h.ev x
    unfold convV at hq
    split at hq
    · rename_i k m hb
      rw [hb] at hc
      have hc := hc.inv_v
      split at hq
      · rename_i k2 hu2
        split at hq
        · rename_i d1 hu1
          exact .run rfl ⟨.int k2 (k2.wrap m), _, by simp [hc, convert, underlying, program, hu1, hu2, Sem.run_bind, Sem.run, Result.andThen_ok, pure, Sem.run_pure, Conv.intToInt], .v _ _, hq⟩
        · exact hq.elim
      · exact hq.elim
    · rename_i s hb
      rw [hb] at hc
      have hc := hc.inv_v
      split at hq
      · rename_i hu2
        split at hq
        · rename_i d1 hu1
          refine .run rfl ⟨.string s, _, ?_, .v _ _, hq⟩
          rw [hc]
          cases d1 <;> simp [convert, underlying, program, hu1, hu2, Sem.run_bind, Sem.run, Result.andThen_ok, pure, Sem.run_pure]
        · exact hq.elim
      · exact hq.elim
    · obtain ⟨h1, hq1⟩ := tt_out hq
      obtain ⟨h2, hq2⟩ := tt_out hq1
      obtain ⟨e, hu1, hu2⟩ := isU8s_out h2
      obtain ⟨sz, rows, ao, cap, b, off, hK, e1, hao, hrow, hcell⟩ := rows_out h hc hq2
      obtain ⟨l, rfl, hK⟩ := hK
      refine .run rfl ⟨.string ⟨l.toArray⟩, _, ?_, .v _ _, hK⟩
      rw [e1]
      have hsz : l = [] ∨ sz = 1 := by
        cases l with
        | nil => exact .inl rfl
        | cons c l => exact .inr (hrow _ (List.mem_cons_self ..)).symm
      have := bytes_run (P := P) (w := w) (l := l) (ao := ao) (b := b) (off := off) (cap := cap) hu1 hu2 (isStr_out h1) (by rcases hao with h3 | h3; exact .inl (by simpa using h3); exact .inr h3) (fun i c hi => by
        obtain ⟨y, g1, g2, _⟩ := hcell i 0 [.v (.int .u8 c.toNat)] _ (by simp [hi]) rfl
        have g2 := g2.inv_v
        rw [g2] at g1
        rcases hsz with rfl | rfl
        · simp at hi
        · simpa using g1)
      simpa using this
  case extract x i =>
    simp only [vq, evV_eq] at hq
    split at hq
    · rename_i l hb
      have hc := h.ev x
      rw [hb] at hc
      obtain ⟨cs, hx, hl, hr⟩ := hc.inv_tup
      obtain ⟨av, hav, hK⟩ := nthK_out hq
      have hi : i < cs.size := by rw [← hl]; exact (List.getElem?_eq_some_iff.1 hav).1
      exact .run rfl ⟨cs[i], _, by simp [hx, Instr.extract, hi, Sem.run_pure], hr i av _ hav (by simp [hi]), hK⟩
    · exact hq.elim
  case field t x f =>
    simp only [vq, evV_eq] at hq
    have hc := h.ev x
    unfold fldV at hq
    split at hq
    · rename_i l hb
      rw [hb] at hc
      obtain ⟨cs, hx, hl, hr⟩ := hc.inv_agg
      have main : ∀ off b k, fieldP P t f = some (off, b, k) → cutV' (some (b, k)) off l K → VOut P σ μ a w ⟨dst, .field t x f, ty, pos, after, guard⟩ K := by
        intro off b k hfp hcut
        unfold fieldP fieldT at hfp
        split at hfp
        · rename_i fs hu
          cases hfd : fs[f]? with
          | none => simp [hfd] at hfp
          | some fd =>
            simp only [hfd, Option.map_some, Option.bind_some] at hfp
            cases hsh : shapeT P fd.type with
            | none => simp [hsh] at hfp
            | some q =>
              obtain ⟨q1, q2⟩ := q
              simp only [hsh, Option.map_some, Option.some.injEq, Prod.mk.injEq] at hfp
              obtain ⟨rfl, rfl, rfl⟩ := hfp
              rw [← hsh] at hcut
              obtain ⟨y, av, h1, h2, h3⟩ := cut_part (P := P) (w := w) hl hr hcut
              exact .run rfl ⟨y, av, by simp [Instr.field, underlying, program, hu, hx, hfd, asAgg, Sem.run_bind, Sem.run, Result.andThen_ok, pure, Sem.run_pure, h1], h2, h3⟩
        · simp at hfp
      split at hq
      · rename_i off k hfp
        exact main off true k hfp hq
      · rename_i off k hfp
        exact main off false k hfp hq
      · exact hq.elim
    · exact hq.elim
  case fieldAddr t x f =>
    simp only [vq, evV_eq] at hq
    have hc := h.ev x
    unfold faV at hq
    split at hq
    · rename_i off gb k hfp
      obtain ⟨hk0, hq1⟩ := tt_out hq
      have hk0 : 0 < k := Nat.le_of_ble_eq_true hk0
      have hplace : ∀ b o, a.eval x = .pointer (some ⟨b, o, none⟩) → (Instr.fieldAt t (a.eval x) f).run P w = .ok (.pointer (some ⟨b, o + off, none⟩)) w := by
        intro b o hb
        unfold fieldP fieldT at hfp
        split at hfp
        · rename_i fs hu
          cases hfd : fs[f]? with
          | none => simp [hfd] at hfp
          | some fd =>
            simp only [hfd, Option.map_some, Option.bind_some] at hfp
            cases hsh : shapeT P fd.type with
            | none => simp [hsh] at hfp
            | some q =>
              obtain ⟨q1, q2⟩ := q
              simp only [hsh, Option.map_some, Option.some.injEq, Prod.mk.injEq] at hfp
              obtain ⟨rfl, rfl, rfl⟩ := hfp
              simp [Instr.fieldAt, underlying, program, hu, hb, hfd, Instr.sureAddr, fieldPlace, Sem.run_bind, Sem.run, Result.andThen_ok, pure, Sem.run_pure, sizeOf_of_shape hsh, add_none, Nat.ne_of_gt hk0]
        · simp at hfp
      split at hq1
      · rename_i l e
        rw [e] at hc
        obtain ⟨b, o, g, hx, h1, h2, h3⟩ := hc.inv_adr
        refine .run rfl ⟨_, _, hplace b o hx, .adr _ _ _ _ (fun j => g (off + j)) ?_ ?_ ?_, hq1⟩
        · intro j av hj
          rw [List.getElem?_drop] at hj
          have := h1 _ _ hj
          rw [Nat.add_assoc]; exact this
        · intro j av hj
          rw [List.getElem?_drop] at hj
          exact h2 _ _ hj
        · intro j av hj
          rw [List.getElem?_drop] at hj
          exact h3 _ _ hj
      · rename_i id o e
        rw [e] at hc
        obtain ⟨b, hx, h1⟩ := hc.inv_box
        exact .run rfl ⟨_, _, hplace b o hx, .box _ _ _ _ h1, hq1⟩
      · rename_i id g s j o e
        rw [e] at hc
        obtain ⟨b, m, cap, an, hx, h1, h2⟩ := hc.inv_elt
        refine .run rfl ⟨_, _, hplace b _ hx, ?_, hq1⟩
        rw [Nat.add_assoc]
        exact .elt _ _ _ _ _ _ b m cap an h1 h2
      · exact hq1.elim
    · exact hq.elim
  case indexAddr t x ix =>
    simp only [vq, evV_eq] at hq
    have hc := h.ev x
    have hd := h.ev ix
    unfold idxV at hq
    split at hq
    · rename_i k i hb2
      rw [hb2] at hd
      have hd := hd.inv_v
      split at hq
      · rename_i sz' rows own hb
        rw [hb] at hc
        split at hq
        · rename_i sz hel
          obtain ⟨hs0, hq1⟩ := tt_out hq
          have hs := Nat.eq_of_beq_eq_true hs0
          subst hs
          obtain ⟨r, hi0, hr, hK⟩ := hq1
          obtain ⟨e, eb, he1, he2⟩ := elemN_some hel
          have hu := elemT_some he1
          obtain ⟨ao, cap, b, off, f, e', h1, h2, h3, h4, h5, h6, h7, h8⟩ := hc.inv_sl
          have hlt : i.toNat < rows.length := (List.getElem?_eq_some_iff.1 hr).1
          have hao : ao = some ⟨b, off, none⟩ := by
            rcases h3 with h3 | h3
            · subst h3; simp at hlt
            · exact h3
          have hlt' : i < (rows.length : Int) := by omega
          refine .run rfl ⟨.pointer (some ⟨b, off + i.toNat * sz, none⟩), _, ?_, .adr _ _ _ _ (fun j => f i.toNat j) ?_ ?_ (fun j av hj => h7 _ _ _ _ hr hj), hK⟩
          · simp [Instr.indexAt, underlying, program, hu, e', hd, hao, asIntOf, Sem.run_bind, Sem.run, Result.andThen_ok, pure, Sem.run_pure, sizeOf_of_shape he2, add_none, hi0, hlt']
          · intro j av hj
            exact h5 _ _ _ _ hr hj
          · intro j av hj
            exact h6 _ _ _ _ hr hj
        · exact hq.elim
      · rename_i id g m hb
        rw [hb] at hc
        split at hq
        · rename_i sz hel
          obtain ⟨r, hr, hq1⟩ := nthK_out hq
          split at hq1
          · rename_i fr E s g' rows
            obtain ⟨hg0, hq2⟩ := tt_out hq1
            obtain ⟨hs0, ⟨⟨hi0, hlt⟩⟩, hK⟩ := tt_out hq2
            have hg := Nat.eq_of_beq_eq_true hg0
            have hs := Nat.eq_of_beq_eq_true hs0
            subst hg hs
            obtain ⟨e, eb, he1, he2⟩ := elemN_some hel
            have hu := elemT_some he1
            obtain ⟨ao, mm, cap, an, e', k1, k2, k3, k4, k5⟩ := hc.inv_arr
            obtain ⟨ao', cap', xs, q1, q2, q3, q4, q5, q6⟩ := h.mem.ok id _ hr
            rw [k4] at q1
            obtain rfl := Option.some.inj q1
            have k5' := k5
            obtain ⟨_, k5⟩ := k5
            obtain ⟨rfl, rfl, rfl⟩ := k5 rfl
            rcases q2.2 with ⟨e1, e2⟩ | ⟨b, cp, cur, e1, _, hb, _⟩
            · omega
            · simp only [Value.slice.injEq] at e1
              obtain ⟨rfl, _, _⟩ := e1
              refine .run rfl ⟨.pointer (some ⟨b, i.toNat * s + 0, none⟩), _, ?_, .elt _ _ _ _ _ _ b _ _ _ k4 k5', hK⟩
              simp [Instr.indexAt, underlying, program, hu, e', hd, asIntOf, Sem.run_bind, Sem.run, Result.andThen_ok, pure, Sem.run_pure, sizeOf_of_shape he2, add_none, hi0, hlt]
          · exact hq1.elim
        · exact hq.elim
      · rename_i id off hb
        rw [hb] at hc
        obtain ⟨b, hx, h1⟩ := hc.inv_box
        split at hq
        · rename_i len sz har
          obtain ⟨hi0, hlt, hK⟩ := hq
          obtain ⟨e, eb, hu, he2⟩ := arrT_some har
          refine .run rfl ⟨.pointer (some ⟨b, off + i.toNat * sz, none⟩), _, ?_, .box _ _ _ _ h1, hK⟩
          simp [Instr.indexAt, underlying, program, hu, hx, hd, asIntOf, Instr.sureAddr, Sem.run_bind, Sem.run, Result.andThen_ok, pure, Sem.run_pure, sizeOf_of_shape he2, add_none, hi0, hlt]
        · exact hq.elim
      · rename_i id g s j o hb
        rw [hb] at hc
        obtain ⟨b, m, cap, an, hx, h1, h2⟩ := hc.inv_elt
        split at hq
        · rename_i len sz har
          obtain ⟨hi0, hlt, hK⟩ := hq
          obtain ⟨e, eb, hu, he2⟩ := arrT_some har
          refine .run rfl ⟨.pointer (some ⟨b, j * s + (o + i.toNat * sz), none⟩), _, ?_, .elt _ _ _ _ _ _ b m cap an h1 h2, hK⟩
          simp [Instr.indexAt, underlying, program, hu, hx, hd, asIntOf, Instr.sureAddr, Sem.run_bind, Sem.run, Result.andThen_ok, pure, Sem.run_pure, sizeOf_of_shape he2, add_none, hi0, hlt, Nat.add_assoc]
        · exact hq.elim
      · exact hq.elim
    · exact hq.elim
  case index t x ix =>
    simp only [vq, evV_eq] at hq
    have hc := h.ev x
    have hd := h.ev ix
    unfold ixV at hq
    split at hq
    · rename_i k i hb2
      rw [hb2] at hd
      have hd := hd.inv_v
      split at hq
      · rename_i s hb
        rw [hb] at hc
        have hc := hc.inv_v
        obtain ⟨hstr, ⟨⟨hi0, hlt⟩⟩, hK⟩ := tt_out hq
        have hu := isStr_out hstr
        have hlt' : i.toNat < s.size := by omega
        have hl : i.toNat < s.data.toList.length := by simpa using hlt'
        have hs : s[i.toNat]? = some s[i.toNat] := getElem?_pos s i.toNat hlt'
        refine .run rfl ⟨.int .u8 (byteAt s i.toNat), _, ?_, .v _ _, hK⟩
        have hb : byteAt s i.toNat = (s[i.toNat]).toNat := by
          unfold byteAt
          rw [List.getD_eq_getElem?_getD, List.getElem?_eq_getElem hl]
          rfl
        rw [hb]
        simp [Instr.index, underlying, program, hu, hc, hd, asIntOf, Sem.run_bind, Sem.run, Result.andThen_ok, pure, Sem.run_pure, hi0, hs]
      · rename_i l hb
        rw [hb] at hc
        obtain ⟨cs, hx, hl, hr⟩ := hc.inv_agg
        split at hq
        · rename_i len e hu
          split at hq
          · rename_i eb sz hsh
            obtain ⟨hi0, hlt, hK⟩ := hq
            rw [← hsh] at hK
            obtain ⟨y, av, h1, h2, h3⟩ := cut_part (P := P) (w := w) hl hr hK
            refine .run rfl ⟨y, av, ?_, h2, h3⟩
            simp [Instr.index, underlying, program, hu, hx, hd, asIntOf, Sem.run_bind, Sem.run, Result.andThen_ok, pure, Sem.run_pure, sizeOf_of_shape hsh, hi0, hlt, h1]
          · exact hq.elim
        · exact hq.elim
      · exact hq.elim
    · exact hq.elim
  case slice t x lo hi mx =>
    simp only [vq] at hq
    cases mx with
    | some y => exact hq.elim
    | none =>
      simp only [evV_eq] at hq
      have bnd : ∀ (o : Option Operand) {K : Option Int → Prop}, boundV A.fr o K → ∃ i, K i ∧ ((o.map a.eval = none ∧ i = none) ∨ ∃ k m, o.map a.eval = some (.int k m) ∧ i = some m) := by
        intro o K hK
        unfold boundV at hK
        cases o with
        | none => exact ⟨none, hK, .inl ⟨rfl, rfl⟩⟩
        | some y =>
          simp only [evV_eq] at hK
          split at hK
          · rename_i k m e
            have := h.ev y
            rw [e] at this
            exact ⟨some m, hK, .inr ⟨k, m, by simp [this.inv_v], rfl⟩⟩
          · exact hK.elim
      obtain ⟨l, hq1, hl⟩ := bnd lo hq
      obtain ⟨hh, hq2, hhh⟩ := bnd hi hq1
      exact .run rfl (sub_sound h (h.ev x) hl hhh hq2)
  case lookup t x y ok =>
    simp only [vq, evV_eq] at hq
    exact .run rfl (look_sound h (h.ev x) (h.ev y) hq)
  case makeInterface t x =>
    obtain ⟨h1, h3⟩ := tt_out hq
    obtain ⟨h2, h4⟩ := tt_out h3
    have h1 := Nat.eq_of_beq_eq_true h1
    subst h1
    simp only [evV_eq] at h4
    have hc := h.ev x
    split at h4
    · rename_i k hb
      rw [hb] at hc
      have hc := hc.inv_v
      obtain ⟨⟨hk⟩, hK⟩ := h4
      refine .run rfl ⟨errv k, _, ?_, .err _ k, hK⟩
      rw [errv_pos hk, hc]
      unfold notIface at h2
      split at h2
      · cases h2
      · rename_i d hni hu
        cases d <;> simp [Instr.makeInterface, underlying, program, hu, Sem.run_bind, Sem.run, Result.andThen_ok, pure, Sem.run_pure]
        exact (hni _ rfl).elim
      · cases h2
    · exact h4.elim
  case typeAssert x t u ok =>
    obtain ⟨h0, h3⟩ := tt_out hq
    obtain ⟨h1, h4⟩ := tt_out h3
    obtain ⟨h2, h5⟩ := tt_out h4
    have h1 := Nat.eq_of_beq_eq_true h1
    subst h1 h0
    simp only [evV_eq] at h5
    have hc := h.ev x
    split at h5
    · rename_i k hb
      rw [hb] at hc
      have hc := hc.inv_err
      split at h5
      · rename_i hz
        refine .run rfl ⟨.tuple #[.int .i64 k, .bool (k != 0)], _, ?_, .tup _ _ _ rfl (fun i av y e1 e2 => ?_), h5⟩
        · unfold notIface at h2
          have hzr : (zeroValue 160).run P w = .ok (.int .i64 0) w := by
            unfold zeroT at hz
            cases hi : P.info? 160 with
            | none => simp [hi] at hz
            | some ii =>
              simp [hi] at hz
              simp [zeroValue, typeInfo, program, hi, hz, Sem.run_bind, Sem.run, Result.andThen_ok, pure, Sem.run_pure]
          split at h2
          · cases h2
          · rename_i d hni hu
            rcases errv_cases k with ⟨hk, e⟩ | ⟨hk, e⟩ <;> rw [hc, e]
            · subst hk
              cases d <;> simp [Instr.typeAssert, run_underlying hu, Sem.run_bind, Sem.run, Result.andThen_ok, pure, Sem.run_pure, hzr]
            · have hk' : (k != 0) = true := by simpa using hk
              cases d <;> simp [Instr.typeAssert, run_underlying hu, Sem.run_bind, Sem.run, Result.andThen_ok, pure, Sem.run_pure, hzr, hk']
              exact (hni _ rfl).elim
          · cases h2
        · match i, e1, e2 with
          | 0, e1, e2 => simp at e1 e2; subst e1 e2; exact .v _ _
          | 1, e1, e2 => simp at e1 e2; subst e1 e2; exact .v _ _
      · exact h5.elim
    · exact h5.elim
  case makeFunc fn first caps =>
    cases fn with
    | func f =>
      obtain ⟨h1, h2⟩ := tt_out hq
      simp only [evL_eq, fzL_eq] at h2
      have hf : first = #[] := Array.eq_empty_of_size_eq_zero (Nat.eq_of_beq_eq_true h1)
      subst hf
      refine .run rfl ⟨.func (.func f) #[] (caps.map a.eval), _, by simp [Instr.makeFunc, Sem.run_pure], .clo _ _ _ _ (by simp) (fun i av y e1 e2 => ?_), h2⟩
      simp only [List.getElem?_map, Option.map_eq_some_iff, Array.getElem?_toList] at e1
      obtain ⟨x, hx, rfl⟩ := e1
      simp only [Array.getElem?_map, hx, Option.map_some, Option.some.injEq] at e2
      subst e2
      exact h.ev x
    | _ => exact hq.elim
  case call c =>
    obtain ⟨callee, args, ats⟩ := c
    cases callee with
    | builtin b =>
      have arg : ∀ l, args.toList.map (evO A.fr) = l → (args.map a.eval).toList.length = l.length ∧ ∀ (i : Nat) (av : AV), l[i]? = some av → ∃ y, (args.map a.eval).toList[i]? = some y ∧ RepV σ μ av y := by
        rintro l rfl
        refine ⟨by simp, fun i av hi => ?_⟩
        simp only [List.getElem?_map, Option.map_eq_some_iff] at hi
        obtain ⟨x, hx, rfl⟩ := hi
        exact ⟨a.eval x, by simp at hx ⊢; exact ⟨x, hx, rfl⟩, h.ev x⟩
      cases b
      case len =>
        simp only [vq, evL_eq] at hq
        unfold lenV at hq
        split at hq
        · rename_i v hv
          obtain ⟨hlen, hget⟩ := arg _ hv
          obtain ⟨y, hy, hr⟩ := hget 0 v rfl
          have hargs : args.map a.eval = #[y] := by
            apply Array.ext'
            cases hl : (args.map a.eval).toList with
            | nil => rw [hl] at hy; simp at hy
            | cons z l => cases l with
              | nil => rw [hl] at hy; simp at hy; simp [hy]
              | cons => rw [hl] at hlen; simp at hlen
          split at hq
          · rename_i t ht
            have hats : ats = #[t] := by rw [← Array.toArray_toList (xs := ats), ht]
            subst hats
            have fin : ∀ m : Nat, (Builtin.len_ #[t] ty #[y]).run P w = .ok (.int .i64 m) w → K (.v (.int .i64 m)) → VOut P σ μ a w ⟨dst, .call ⟨.builtin .len, args, #[t]⟩, ty, pos, after, guard⟩ K := fun m hm hK =>
              .run (builtin_run (s := Builtin.len_ #[t] ty #[y]) (fun cs => by rw [BigFrame.builtin_len, hargs])) ⟨_, _, hm, .v _ _, hK⟩
            split at hq
            · obtain ⟨h1, h2⟩ := tt_out hq
              obtain ⟨e, he⟩ := Option.isSome_iff_exists.1 h1
              have hu := elemT_some he
              obtain ⟨ao, cap, b, off, f, rfl, _⟩ := hr.inv_sl
              exact fin _ (by simp [Builtin.len_, underlying, program, hu, goInt, Sem.run_bind, Sem.run, Result.andThen_ok, pure, Sem.run_pure]) h2
            · obtain ⟨h1, h2⟩ := tt_out hq
              obtain ⟨e, he⟩ := Option.isSome_iff_exists.1 h1
              have hu := elemT_some he
              obtain ⟨ao, m, cap, an, rfl, _⟩ := hr.inv_arr
              exact fin _ (by simp [Builtin.len_, underlying, program, hu, goInt, Sem.run_bind, Sem.run, Result.andThen_ok, pure, Sem.run_pure]) h2
            · obtain ⟨h1, h2⟩ := tt_out hq
              obtain ⟨e, he⟩ := Option.isSome_iff_exists.1 h1
              have hu := elemT_some he
              obtain rfl := hr.inv_v
              exact fin 0 (by simp [Builtin.len_, underlying, program, hu, goInt, Sem.run_bind, Sem.run, Result.andThen_ok, pure, Sem.run_pure]) h2
            · obtain ⟨h1, h2⟩ := tt_out hq
              have hu := isStr_out h1
              obtain rfl := hr.inv_v
              exact fin _ (by simp [Builtin.len_, underlying, program, hu, goInt, Sem.run_bind, Sem.run, Result.andThen_ok, pure, Sem.run_pure]) h2
            · exact hq.elim
          · exact hq.elim
        · exact hq.elim
      case min => exact min_sound arg (b := .min) (mx := false) rfl (by simpa only [vq, evL_eq] using hq)
      case max => exact min_sound arg (b := .max) (mx := true) rfl (by simpa only [vq, evL_eq] using hq)
      all_goals exact hq.elim
    | _ => exact hq.elim
  all_goals exact hq.elim
end
end Go.Proofs.Ytimfnpjcedjmiaa
