/-
  Engine G, part 12: the law of the operations that make memory, or write into it: the whole.
-/
import Derived.Test.YtimfnpjcedjmiaaG11
namespace Go.Proofs.Ytimfnpjcedjmiaa
open Go.RowKit
set_option linter.unusedSimpArgs false
set_option linter.unusedVariables false

section
variable {P : Program} {n : Nat} {fp : Nat → Prop} {w0 : Start} {σ : Store} {μ : Ghost} {Ds : Nat → Nat → Prop} {A : AS} {a : Act} {w : World} {K : MK}
  {dst : Option Tmp} {ty : TypeId} {pos : String} {after : Array Edge} {guard : Option (Nat × Bool)} {Q : Exit → Act → World → Prop}

theorem arr_get {rows rows2 : List (List AV)} {sz : Nat} {xs news : List Value} {R : AV → Value → Prop} (hx : xs.length = rows.length * sz) (h1 : ∀ (i j : Nat) (r : List AV) (av : AV), rows[i]? = some r → r[j]? = some av → ∃ y, xs[i * sz + j]? = some y ∧ R av y)
    (h2 : ∀ (i j : Nat) (r : List AV) (av : AV), rows2[i]? = some r → r[j]? = some av → ∃ y, news[i * sz + j]? = some y ∧ R av y) :
    ∀ (i j : Nat) (r : List AV) (av : AV), (rows ++ rows2)[i]? = some r → r[j]? = some av → ∃ y, (xs ++ news)[i * sz + j]? = some y ∧ R av y := by
  intro i j r av f1 f2
  rw [List.getElem?_append] at f1
  split at f1
  · obtain ⟨y, y1, y2⟩ := h1 i j r av f1 f2
    exact ⟨y, by rw [List.getElem?_append_left (List.getElem?_eq_some_iff.1 y1).1]; exact y1, y2⟩
  · rename_i hge
    obtain ⟨y, y1, y2⟩ := h2 (i - rows.length) j r av f1 f2
    refine ⟨y, ?_, y2⟩
    have hle : rows.length * sz ≤ i * sz := Nat.mul_le_mul_right _ (by omega)
    rw [List.getElem?_append_right (by rw [hx]; omega), hx]
    rw [Nat.sub_mul] at y1
    rw [show i * sz + j - rows.length * sz = i * sz - rows.length * sz + j by omega]
    exact y1

set_option maxHeartbeats 1000000 in
theorem app_sound (h : Rel n fp w0 σ μ Ds A a w) {mt : Mut} {args : Array Operand} {ats : Array TypeId} (hq : appCall P mt A.fr A.mem args.toList ats.toList K) :
    Oper.wp P ⟨dst, .call ⟨.builtin .append, args, ats⟩, ty, pos, after, guard⟩ a w (MPost n fp w0 A a dst K) Q := by
  unfold appCall at hq
  split at hq
  · rename_i x y hargs
    obtain rfl : args = #[x, y] := by rw [← Array.toArray_toList (xs := args), hargs]
    split at hq
    · rename_i t t' hats
      obtain rfl : ats = #[t, t'] := by rw [← Array.toArray_toList (xs := ats), hats]
      split at hq
      · rename_i e sz z by_ hst
        simp only [fzN_eq, fzB_eq, evV_eq] at hq
        obtain ⟨hz0, hq1⟩ := tt_out hq
        obtain ⟨hp0, hq2⟩ := tt_out hq1
        have hz := Nat.eq_of_beq_eq_true hz0
        have hpos : 0 < sz := Nat.le_of_ble_eq_true hp0
        obtain ⟨hu, bb, i, z', hsh, hi, hzz, hzs, hby, hisz⟩ := sliceT_some hst
        obtain ⟨free, rows2, news, hK, hsrc, hrow2, hin2⟩ := src_out h (h.ev y) hq2
        clear hq hq1 hq2
        have hrun : ∀ {v r w'}, a.eval x = v → (Builtin.append_ #[t, t'] ty #[v, a.eval y]).run P w = .ok r w' → (execOp a.eval ⟨dst, .call ⟨.builtin .append, #[x, y], #[t, t']⟩, ty, pos, after, guard⟩).run P w = .ok (.value r) w' := by
          intro v r w' hv hr
          rw [BigFrame.execOp_builtin]
          simp [BigFrame.builtin_append, hv, hr, Sem.run_bind, Result.andThen_ok, Sem.run_pure]
        have hx := h.ev x
        unfold appV at hK
        split at hK
        · rename_i hv
          rw [hv] at hx
          obtain ⟨⟨hfit⟩, hK⟩ := hK
          have hxv := hx.inv_v
          obtain ⟨ao', cap', w', hr, hown, hgr, hwhere, hc1, hc2⟩ := append_own t t' ty e i z' sz hu hi hzz hisz (hzs.trans hz) hpos none 0 0 [] (World.ownsRow_nil w 0 e sz) (a.eval y) rows2.length news hsrc (by rw [Nat.zero_add]; exact hfit.1) (by rw [Nat.zero_add, hby]; exact hfit.2)
          rw [Nat.zero_add] at hr hown hc1
          rw [List.nil_append] at hown
          refine newSl_sound h hgr.size hgr.os hgr.tape hgr.output (fun b hb => hgr.block b hb (by simp [blkA])) hown ⟨hc1, hc2⟩ (fun k hk => ?_) hrow2 hin2 (hrun hxv hr) hK
          rcases hwhere with e1 | ⟨k', e1, e2, _⟩
          · rw [e1] at hk; cases hk
          · rw [e1] at hk; obtain rfl := Option.some.inj hk; exact e2
        · rename_i s rows id g hv
          rw [hv] at hx
          obtain ⟨hfree, hK1⟩ := tt_out hK
          obtain ⟨hs0, hK2⟩ := tt_out hK1
          obtain ⟨r, hr, hK3⟩ := nthK_out hK2
          split at hK3
          · rename_i E s' g'
            obtain ⟨hE0, hK4⟩ := tt_out hK3
            obtain ⟨hs1, hK5⟩ := tt_out hK4
            obtain ⟨hg0, ⟨hfit⟩, hKK⟩ := tt_out hK5
            have hE := Nat.eq_of_beq_eq_true hE0
            have e1 := Nat.eq_of_beq_eq_true hs0
            have e2 := Nat.eq_of_beq_eq_true hs1
            have e3 := Nat.eq_of_beq_eq_true hg0
            subst e2
            subst e1
            subst e3 hE hfree
            clear hK hK1 hK2 hK3 hK4 hK5
            obtain ⟨ao, cap, b, off, f, hxe, g1, g2, g3, g4, g5, g6, g7, g8⟩ := hx.inv_sl
            obtain ⟨an, hmu, hle⟩ := g8 id g rfl
            obtain ⟨ao2, n2, cap2, xs, q1, q2, q3, q4⟩ := h.mem.ok id _ hr
            rw [hmu] at q1
            obtain rfl := Option.some.inj q1
            obtain ⟨_, hle⟩ := hle
            obtain ⟨rfl, rfl, rfl⟩ := hle rfl
            have hid := (List.getElem?_eq_some_iff.1 hr).1
            obtain ⟨ao', cap', w', hrr, hown, hgr, hwhere, hc1, hc2⟩ := append_own t t' ty E i z' s hu hi hzz hisz (hzs.trans hz) hpos ao2 rows.length cap2 xs q2 (a.eval y) rows2.length news hsrc hfit.1 (by rw [hby]; exact hfit.2)
            have hlen : (rows ++ rows2).length = rows.length + rows2.length := by simp
            -- promised cells of the old row
            have hin1 : ∀ (i j : Nat) (r : List AV) (av : AV), rows[i]? = some r → r[j]? = some av → ∃ y, xs[i * s + j]? = some y ∧ RepV σ noG av y ∧ y.oneCell' = true := by
              intro i j r av f1 f2
              have hlt : i < rows.length := (List.getElem?_eq_some_iff.1 f1).1
              have hj : j < s := by rw [← g4 r (List.mem_of_getElem? f1)]; exact (List.getElem?_eq_some_iff.1 f2).1
              have hao : ao2 = some ⟨b, off, none⟩ := by
                rcases g3 with g3 | g3
                · subst g3; simp at hlt
                · exact g3
              subst hao
              have hoff : off = 0 := by
                rcases q2.2 with ⟨e1, _⟩ | ⟨gg, cp, cur, e1, _⟩
                · simp at e1
                · simp only [Value.slice.injEq, Option.some.injEq, Addr.mk.injEq, and_true] at e1; exact e1.1.2
              subst hoff
              have hcell := h.agree _ _ _ (g5 i j r av f1 f2)
              have hlen : i * s + j < xs.length := by
                rw [q2.1]
                have : (i + 1) * s ≤ rows.length * s := Nat.mul_le_mul_right _ hlt
                rw [Nat.add_mul] at this; omega
              have := ownsRow_cell q2 (k := b) rfl (List.getElem?_eq_getElem hlen)
              rw [Nat.zero_add] at hcell
              rw [this] at hcell
              exact ⟨_, List.getElem?_eq_getElem hlen, by rw [Option.some.inj hcell]; exact g6 i j r av f1 f2, by rw [Option.some.inj hcell]; exact g7 i j r av f1 f2⟩
            have hold : ∀ k o y, blkA ao2 = some k → σ k o = some y → xs[o]? = some y := by
              intro k o y hk hy
              have hlt : o < xs.length := by
                rw [q2.1]
                rcases Nat.lt_or_ge o (rows.length * s) with g | g
                · exact g
                · rw [q3 k ((q4 k).2 hk) o g] at hy; cases hy
              have h9 := ownsRow_cell q2 hk (List.getElem?_eq_getElem hlt)
              rw [h.agree k o y hy] at h9
              rw [List.getElem?_eq_getElem hlt]; exact h9.symm
            have hmono : ∀ b o y, σ b o = some y → grownStore σ ao' ((rows.length + rows2.length) * s) (xs ++ news) b o = some y := by
              intro b o y hy
              unfold grownStore
              split
              · rename_i hb
                rcases hwhere with e1 | ⟨k', e1, e2, _⟩
                · have := hold b o y (e1 ▸ hb) hy
                  have hlt := (List.getElem?_eq_some_iff.1 this).1
                  rw [List.getElem?_append_left hlt, if_pos]
                  · exact this
                  · rw [q2.1] at hlt; rw [Nat.add_mul]; omega
                · rw [e1] at hb; obtain rfl := Option.some.inj hb; have := h.agree.lt hy; omega
              · exact hy
            have hrel := h.upd (id := id) (r := .grow E s (g + 1)) (D := fun k => blkA ao' = some k) (an := .cur ao' (rows.length + rows2.length) cap' (g + 1)) (σ' := grownStore σ ao' ((rows.length + rows2.length) * s) (xs ++ news)) (w' := w') (Nat.le_of_lt hid) hgr.size hgr.os hgr.tape hgr.output
              (fun b' hb' hd => by
                have hne : blkA ao2 ≠ some b' := fun e => hd ((q4 b').2 e)
                refine ⟨hgr.block b' hb' (fun e => hne e.symm), fun o => ?_⟩
                unfold grownStore
                rw [if_neg]
                intro e
                rcases hwhere with e1 | ⟨k', e1, e2, _⟩
                · exact hne (e1 ▸ e)
                · rw [e1] at e; obtain rfl := Option.some.inj e; omega) hmono
              (fun b' o y hy => by
                unfold grownStore at hy
                split at hy
                · rename_i hk
                  split at hy
                  · exact ownsRow_cell hown hk hy
                  · cases hy
                · rename_i hk
                  have hlt := h.agree.lt hy
                  have : w'.heap[b']? = w.heap[b']? := by
                    rcases hwhere with e1 | ⟨k', e1, e2, e3⟩
                    · exact hgr.block b' hlt (fun e => hk (by rw [e1]; exact e.symm))
                    · exact e3 b' hlt
                  rw [World.cell?_of_block (w := w) (w' := w') (a := ⟨b', o, none⟩) this]; exact h.agree b' o y hy)
              ⟨ao', _, cap', _, updG_self, hown, fun k hk o ho => by unfold grownStore; rw [if_pos hk, if_neg (by omega)], fun k => Iff.rfl⟩
              (fun b' hb' => by
                rcases hwhere with e1 | ⟨k', e1, e2, _⟩
                · exact .inl ((q4 b').2 (e1 ▸ hb'))
                · rw [e1] at hb'; obtain rfl := Option.some.inj hb'; exact .inr e2)
              (fun x hx => by rw [hmu] at hx; obtain rfl := Option.some.inj hx; exact ⟨by omega, fun e => by omega⟩)
            rw [putR_set hid] at hrel
            refine mop_val (hrun hxe hrr) hrel ?_ hKK
            rw [← hlen]
            refine rep_grown (E := E) (w' := w') (xs := xs ++ news) (by rw [hlen]; exact hown) (by rw [hlen]; exact ⟨hc1, hc2⟩) (fun r hr => ?_) (fun k o x hk hx => ?_) ?_ updG_self (An.le_refl _)
            · rcases List.mem_append.1 hr with hr | hr
              · exact g4 r hr
              · exact hrow2 r hr
            · have hlt := (List.getElem?_eq_some_iff.1 hx).1
              rw [hown.1] at hlt
              unfold grownStore
              rw [if_pos hk, if_pos (by simpa using hlt)]; exact hx
            · refine arr_get (R := fun av y => RepV _ noG av y ∧ y.oneCell' = true) q2.1 (fun i j r av f1 f2 => ?_) (fun i j r av f1 f2 => ?_)
              · obtain ⟨y, y1, y2, y3⟩ := hin1 i j r av f1 f2
                exact ⟨y, y1, y2.mono (by rw [hlen]; exact hmono) (Gle.refl _), y3⟩
              · obtain ⟨y, y1, y2, y3⟩ := hin2 i j r av f1 f2
                exact ⟨y, y1, RepV.mono y2 (by rw [hlen]; exact hmono) (Gle.refl _), y3⟩
          · exact hK3.elim
        · rename_i id g m hv
          rw [hv] at hx
          obtain ⟨r, hr, hK1⟩ := nthK_out hK
          split at hK1
          · rename_i fr E s g' rows
            obtain ⟨hE0, hK2⟩ := tt_out hK1
            obtain ⟨hs0, hK3⟩ := tt_out hK2
            obtain ⟨hg0, hK4⟩ := tt_out hK3
            obtain ⟨hokf, ⟨hfit⟩, hKK⟩ := tt_out hK4
            have hE := Nat.eq_of_beq_eq_true hE0
            have e1 := Nat.eq_of_beq_eq_true hs0
            have e3 := Nat.eq_of_beq_eq_true hg0
            subst e1 e3 hE
            clear hK hK1 hK2 hK3 hK4
            obtain ⟨ao, mm, cap, an, hxe, k1, k2, k3, k4, k5⟩ := hx.inv_arr
            obtain ⟨ao2, cap2, xs, q1, q2, q3, q4, q5, q6⟩ := h.mem.ok id _ hr
            rw [k4] at q1
            obtain rfl := Option.some.inj q1
            obtain ⟨_, k5⟩ := k5
            obtain ⟨rfl, rfl, rfl⟩ := k5 rfl
            have hid := (List.getElem?_eq_some_iff.1 hr).1
            have q2' := ownsRow_take q2 k1
            have hml : (rows.take m).length = m := by simp; omega
            obtain ⟨ao', cap', w', hrr, hown, hgr, hwhere, hc1, hc2⟩ := append_own t t' ty E i z' s hu hi hzz hisz (hzs.trans hz) hpos ao2 m cap2 _ q2' (a.eval y) rows2.length news hsrc hfit.1 (by rw [hby]; exact hfit.2)
            have hlen : (rows.take m ++ rows2).length = m + rows2.length := by rw [List.length_append, hml]
            have hgl : Gle μ (updG μ id (.cur ao' (m + rows2.length) cap' (g + 1))) := updG_le fun x hx => by rw [k4] at hx; obtain rfl := Option.some.inj hx; exact ⟨by omega, fun e => by omega⟩
            have hrel := h.upd (id := id) (r := .arr fr E s (g + 1) (rows.take m ++ rows2)) (D := fun k => blkA ao' = some k) (an := .cur ao' (m + rows2.length) cap' (g + 1)) (σ' := σ) (w' := w') (Nat.le_of_lt hid) hgr.size hgr.os hgr.tape hgr.output
              (fun b' hb' hd => by
                have hne : blkA ao2 ≠ some b' := fun e => hd ((q6 b').2 e)
                exact ⟨hgr.block b' hb' (fun e => hne e.symm), fun o => rfl⟩) (fun _ _ _ h => h)
              (fun b' o y hy => by
                have hne : blkA ao2 ≠ some b' := fun e => by rw [q5 b' ((q6 b').2 e) o] at hy; cases hy
                rw [World.cell?_of_block (w := w) (w' := w') (a := ⟨b', o, none⟩) (hgr.block b' (h.agree.lt hy) (fun e => hne e.symm))]; exact h.agree b' o y hy)
              (by
                refine ⟨ao', cap', _, by rw [hlen]; exact updG_self, by rw [hlen]; exact hown, fun r hr => ?_, ?_, fun k hk o => ?_, fun k => Iff.rfl⟩
                · rcases List.mem_append.1 hr with hr | hr
                  · exact q3 r (List.mem_of_mem_take hr)
                  · exact hrow2 r hr
                · refine arr_get (R := fun av y => RepV σ (gOf fr _) av y ∧ y.oneCell' = true) (by rw [hml, q2'.1]) (fun i j r av f1 f2 => ?_) (fun i j r av f1 f2 => ?_)
                  · rw [List.getElem?_take] at f1
                    split at f1
                    · rename_i him
                      obtain ⟨y, y1, y2, y3⟩ := q4 i j r av f1 f2
                      have hj : j < s := by rw [← q3 r (List.mem_of_getElem? f1)]; exact (List.getElem?_eq_some_iff.1 f2).1
                      have : (i + 1) * s ≤ m * s := Nat.mul_le_mul_right _ him
                      rw [Nat.add_mul] at this
                      exact ⟨y, by rw [List.getElem?_take, if_pos (by omega)]; exact y1, y2.mono (fun _ _ _ h => h) (gOf_mono hgl), y3⟩
                    · cases f1
                  · obtain ⟨y, y1, y2, y3⟩ := hin2 i j r av f1 f2
                    refine ⟨y, y1, ?_, y3⟩
                    cases fr with
                    | true =>
                      simp only [okF] at hokf
                      subst hokf
                      exact y2
                    | false =>
                      cases free with
                      | true => exact RepV.lift y2
                      | false => exact RepV.mono y2 (fun _ _ _ h => h) hgl
                · rcases hwhere with e1 | ⟨k', e1, e2, _⟩
                  · exact q5 k ((q6 k).2 (e1 ▸ hk)) o
                  · rw [e1] at hk; obtain rfl := Option.some.inj hk; exact h.none_new e2)
              (fun b' hb' => by
                rcases hwhere with e1 | ⟨k', e1, e2, _⟩
                · exact .inl ((q6 b').2 (e1 ▸ hb'))
                · rw [e1] at hb'; obtain rfl := Option.some.inj hb'; exact .inr e2)
              (fun x hx => by rw [k4] at hx; obtain rfl := Option.some.inj hx; exact ⟨by omega, fun e => by omega⟩)
            rw [putR_set hid] at hrel
            exact mop_val (hrun hxe hrr) hrel (.arr _ _ _ _ ao' (m + rows2.length) cap' _ (Nat.le_refl _) hc1 hc2 updG_self (An.le_refl _)) hKK
          · exact hK1.elim
        · exact hK.elim
      · exact hq.elim
    · exact hq.elim
  · exact hq.elim
end
end Go.Proofs.Ytimfnpjcedjmiaa
