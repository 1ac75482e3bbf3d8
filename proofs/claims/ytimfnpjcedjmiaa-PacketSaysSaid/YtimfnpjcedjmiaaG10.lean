/-
  Engine G, part 10: the law of the operations that make memory, or write into it.
-/
import Derived.Test.YtimfnpjcedjmiaaG9
namespace Go.Proofs.Ytimfnpjcedjmiaa
open Go.RowKit
set_option linter.unusedSimpArgs false
set_option linter.unusedVariables false

section
variable {P : Program} {n : Nat} {fp : Nat → Prop} {w0 : Start} {σ : Store} {μ : Ghost} {Ds : Nat → Nat → Prop} {A : AS} {a : Act} {w : World} {K : MK}
  {dst : Option Tmp} {ty : TypeId} {pos : String} {after : Array Edge} {guard : Option (Nat × Bool)} {Q : Exit → Act → World → Prop}

theorem get3 {α : Type} {l lx : List α} {c : List Value} {cx : List Value} {off : Nat} (hl : l.length = c.length) (hx : lx.length = cx.length) (hfit : off + lx.length ≤ l.length) {R : α → Value → Prop}
    (h1 : ∀ (i : Nat) (u : α), l[i]? = some u → ∃ y, c[i]? = some y ∧ R u y) (h2 : ∀ (i : Nat) (u : α), lx[i]? = some u → ∃ y, cx[i]? = some y ∧ R u y) :
    ∀ (i : Nat) (u : α), (l.take off ++ lx ++ l.drop (off + lx.length))[i]? = some u → ∃ y, (c.take off ++ cx ++ c.drop (off + cx.length))[i]? = some y ∧ R u y := by
  intro i u hi
  rw [List.append_assoc, List.getElem?_append] at hi
  rw [List.append_assoc, List.getElem?_append]
  have e1 : (l.take off).length = off := by simp; omega
  have e2 : (c.take off).length = off := by simp; omega
  rw [e1] at hi; rw [e2]
  split at hi
  · rename_i hlt
    rw [if_pos hlt]
    rw [List.getElem?_take, if_pos hlt] at hi ⊢
    exact h1 i u hi
  · rename_i hge
    rw [if_neg hge]
    rw [List.getElem?_append] at hi ⊢
    rw [← hx]
    split at hi
    · rename_i h3
      rw [if_pos h3]
      exact h2 _ u hi
    · rename_i h3
      rw [if_neg h3]
      rw [List.getElem?_drop] at hi ⊢
      exact h1 _ u hi

theorem st_sound (h : Rel n fp w0 σ μ Ds A a w) {t : TypeId} {p x : Operand} {lx : List AV} (hlx : (evO A.fr x).cells = some lx) (hq : stV (shapeT P t) A.mem (evO A.fr p) lx K) :
    Oper.wp P ⟨dst, .store t p x, ty, pos, after, guard⟩ a w (MPost n fp w0 A a dst K) Q := by
  have hp := h.ev p
  obtain ⟨k1, k2, k3⟩ := (h.ev x).cells hlx
  unfold stV at hq
  split at hq
  · rename_i bb k hs
    obtain ⟨hk0, hq1⟩ := tt_out hq
    have hk := Nat.eq_of_beq_eq_true hk0
    have hsz := sizeOf_of_shape hs w
    have run : ∀ (b off : Nat) (c : Array Value) (T : TypeId), a.eval p = .pointer (some ⟨b, off, none⟩) → w.heap[b]? = some (.cells c T (0, 0)) → off + lx.length ≤ c.size →
        (execOp a.eval ⟨dst, .store t p x, ty, pos, after, guard⟩).run P w = .ok .skip (w.setRow b (c.toList.take off ++ (a.eval x).cells.toList ++ c.toList.drop (off + (a.eval x).cells.toList.length)).toArray) := by
      intro b off c T hb hh hfit
      have hst := run_storeCells_at P b off T (a.eval x).cells.toList 0 c w hh (by simp [k1]; omega) k3
      simp only [Nat.add_zero] at hst
      simp only [execOp, Instr.storeAt, hb, Instr.sureAddr, storeVar, Sem.run_bind, Sem.run_pure, Result.andThen_ok, hsz, hk, k1]
      simp only [ne_eq, not_true_eq_false, if_false, Sem.run_pure, Result.andThen_ok, hst, k1]
    split at hq1
    · rename_i id off e
      obtain ⟨r, hr, hq2⟩ := nthK_out hq1
      split at hq2
      · rename_i l
        obtain ⟨hf0, hq3⟩ := tt_out hq2
        rw [fzL_eq] at hq3
        have hfit := Nat.le_of_ble_eq_true hf0
        rw [e] at hp
        obtain ⟨b, hb, hmu⟩ := hp.inv_box
        obtain ⟨b2, c, T, g1, g2, g3, g4, g5, g6⟩ := h.mem.ok id _ hr
        rw [hmu] at g1
        simp only [Option.some.injEq, An.fix.injEq, Value.pointer.injEq, Addr.mk.injEq, and_true] at g1
        subst g1
        have hid := (List.getElem?_eq_some_iff.1 hr).1
        have hrel := h.upd (id := id) (r := .cells (l.take off ++ lx ++ l.drop (off + lx.length))) (D := Ds id) (an := .fix (.pointer (some ⟨b, 0, none⟩))) (σ' := σ) (w' := w.setRow b (c.toList.take off ++ (a.eval x).cells.toList ++ c.toList.drop (off + (a.eval x).cells.toList.length)).toArray) (Nat.le_of_lt hid) (by simp) rfl rfl rfl
          (fun b' hb' hd => ⟨setRow_other w b b' _ (fun e => hd ((g6 b').2 e)), fun _ => rfl⟩) (fun _ _ _ h => h)
          (fun b' o y hy => by
            have hne : b' ≠ b := fun e => by subst e; rw [g5 o] at hy; cases hy
            rw [cell_setRow_other w b _ ⟨b', o, none⟩ hne]; exact h.agree b' o y hy)
          (by
            refine ⟨b, _, T, updG_self, setRow_heap w b c _ T _ g2, ?_, ?_, g5, g6⟩
            · simp [k1, g3]
            · have := get3 (l := l) (lx := lx) (c := c.toList) (cx := (a.eval x).cells.toList) (off := off) (by simp [g3]) (by simp [k1]) hfit (R := fun u y => RepV σ μ u y) (fun i u hi => by simpa using g4 i u hi) (fun i u hi => by simpa using k2 i u hi)
              intro i av hi
              obtain ⟨y, hy, hr⟩ := this i av hi
              exact ⟨y, by rw [List.getElem?_toArray]; exact hy, hr.mono (fun _ _ _ h => h) (updG_le fun x hx => by rw [hmu] at hx; obtain rfl := Option.some.inj hx; exact An.le_refl _)⟩)
          (fun b' hb' => .inl hb') (fun x hx => by rw [hmu] at hx; obtain rfl := Option.some.inj hx; exact An.le_refl _)
        rw [putR_set hid] at hrel
        exact mop_skip (run b off c T hb g2 (by omega)) hrel hq3
      · exact hq2.elim
    · rename_i id g sz i o e
      obtain ⟨r, hr, hq2⟩ := nthK_out hq1
      split at hq2
      · rename_i fr E s g' rows
        obtain ⟨hs0, hq3⟩ := tt_out hq2
        obtain ⟨hg0, hq4⟩ := tt_out hq3
        obtain ⟨hfree, hq5⟩ := tt_out hq4
        obtain ⟨hf0, hq6⟩ := tt_out hq5
        have hs := Nat.eq_of_beq_eq_true hs0
        have hg := Nat.eq_of_beq_eq_true hg0
        have hfit := Nat.le_of_ble_eq_true hf0
        subst hs hg
        clear hq hq1 hq2 hq3 hq4 hq5
        obtain ⟨row, hrow, hK⟩ := hq6
        rw [e] at hp
        obtain ⟨b, m, cap, an, hb, hmu, hle⟩ := hp.inv_elt
        obtain ⟨ao', cap', xs, q1, q2, q3, q4, q5, q6⟩ := h.mem.ok id _ hr
        rw [hmu] at q1
        obtain rfl := Option.some.inj q1
        obtain ⟨_, hle⟩ := hle
        obtain ⟨rfl, rfl, rfl⟩ := hle rfl
        have hid := (List.getElem?_eq_some_iff.1 hr).1
        have hrl := q3 row (List.mem_of_getElem? hrow)
        have hilt : i < rows.length := (List.getElem?_eq_some_iff.1 hrow).1
        have hi2 : i * s + s ≤ rows.length * s := by
          have : (i + 1) * s ≤ rows.length * s := Nat.mul_le_mul_right _ hilt
          rw [Nat.add_mul] at this; omega
        have q2' := q2
        rcases q2.2 with ⟨e1, _⟩ | ⟨b2, cp, cur, e1, _, hheap, hnc, hcm, hcs, htake⟩
        · simp at e1
        · simp only [Value.slice.injEq, Option.some.injEq, Addr.mk.injEq, and_true, true_and] at e1
          obtain ⟨rfl, rfl⟩ := e1
          have hcsz : rows.length * s ≤ cur.size := by rw [hcs]; exact Nat.mul_le_mul_right _ hnc
          have hcl : (a.eval x).cells.toList.length = lx.length := by simp [k1]
          have hset := ownsRow_set q2' hheap (off := i * s + o) (ys := (a.eval x).cells.toList) (by rw [hcl]; omega)
          have hlen : (rows.set i (row.take o ++ vwL fr lx ++ row.drop (o + lx.length))).length = rows.length := by simp
          have hvl : (vwL fr lx).length = lx.length := by cases fr <;> simp [vwL, viewL_eq]
          have hrel := h.upd (id := id) (r := .arr fr E s g (rows.set i (row.take o ++ vwL fr lx ++ row.drop (o + lx.length)))) (D := Ds id) (an := .cur (some ⟨b, 0, none⟩) rows.length cap' g) (σ' := σ) (w' := w.setRow b (cur.toList.take (i * s + o) ++ (a.eval x).cells.toList ++ cur.toList.drop (i * s + o + (a.eval x).cells.toList.length)).toArray) (Nat.le_of_lt hid) (by simp) rfl rfl rfl
            (fun b' hb' hd => ⟨setRow_other w b b' _ (fun e => hd ((q6 b').2 (by rw [e]; rfl))), fun _ => rfl⟩) (fun _ _ _ h => h)
            (fun b' o' y hy => by
              have hne : b' ≠ b := fun e => by subst e; rw [q5 b' ((q6 b').2 rfl) o'] at hy; cases hy
              rw [cell_setRow_other w b _ ⟨b', o', none⟩ hne]; exact h.agree b' o' y hy)
            (by
              have hgl : Gle μ (updG μ id (.cur (some ⟨b, 0, none⟩) rows.length cap' g)) := updG_le fun x hx => by rw [hmu] at hx; obtain rfl := Option.some.inj hx; exact An.le_refl _
              refine ⟨some ⟨b, 0, none⟩, cap', _, by rw [hlen]; exact updG_self, by rw [hlen]; exact hset, ?_, ?_, q5, q6⟩
              · intro r' hr'
                obtain ⟨j, hj, rfl⟩ := List.mem_iff_getElem.1 hr'
                rw [List.getElem_set]
                split
                · simp only [List.length_append, List.length_take, List.length_drop, hvl, hrl]; omega
                · exact q3 _ (List.getElem_mem _)
              · intro i' j r' av g1 g2
                by_cases hii : i = i'
                · subst hii
                  rw [List.getElem?_set_self hilt] at g1
                  obtain rfl := Option.some.inj g1
                  have := get3 (l := row) (lx := vwL fr lx) (c := (xs.drop (i * s)).take s) (cx := (a.eval x).cells.toList) (off := o) (by simp [hrl, q2.1]; omega) (by rw [hvl, hcl]) (by rw [hvl, hrl]; exact hfit) (R := fun u y => RepV σ (gOf fr μ) u y ∧ y.oneCell' = true)
                    (fun j' u hj' => by
                      obtain ⟨y, y1, y2, y3⟩ := q4 i j' row u hrow hj'
                      have hjs : j' < s := by rw [← hrl]; exact (List.getElem?_eq_some_iff.1 hj').1
                      exact ⟨y, by rw [List.getElem?_take, if_pos hjs, List.getElem?_drop]; exact y1, y2, y3⟩)
                    (fun j' u hj' => by
                      cases fr with
                      | true =>
                        simp only [vwL, viewL_eq, List.getElem?_map, Option.map_eq_some_iff] at hj'
                        obtain ⟨u0, hu0, rfl⟩ := hj'
                        obtain ⟨y, y1, y2⟩ := k2 j' u0 hu0
                        exact ⟨y, by simpa using y1, (RepV.view y2).free0 (freeL_out hfree u0 (List.mem_of_getElem? hu0)), k3 y (by simpa using Array.mem_of_getElem? y1)⟩
                      | false =>
                        obtain ⟨y, y1, y2⟩ := k2 j' u hj'
                        exact ⟨y, by simpa using y1, y2, k3 y (by simpa using Array.mem_of_getElem? y1)⟩)
                  obtain ⟨y, y1, y2, y3⟩ := this j av (by rw [hvl]; exact g2)
                  refine ⟨y, ?_, y2.mono (fun _ _ _ h => h) (gOf_mono hgl), y3⟩
                  have hjs : j < s := by
                    have := (List.getElem?_eq_some_iff.1 g2).1
                    simp only [List.length_append, List.length_take, List.length_drop, hvl, hrl] at this; omega
                  rw [← y1, List.append_assoc, List.append_assoc, List.getElem?_append, List.getElem?_append (l₁ := List.take o _)]
                  have f1 : (xs.take (i * s + o)).length = i * s + o := by simp [q2.1]; omega
                  have f2 : (((xs.drop (i * s)).take s).take o).length = o := by simp [q2.1]; omega
                  rw [f1, f2]
                  by_cases hjo : j < o
                  · rw [if_pos (by omega), if_pos hjo, List.getElem?_take, if_pos (by omega), List.getElem?_take, if_pos hjo, List.getElem?_take, if_pos hjs, List.getElem?_drop]
                  · rw [if_neg (by omega), if_neg hjo, show i * s + j - (i * s + o) = j - o by omega, List.getElem?_append, List.getElem?_append]
                    split
                    · rfl
                    · rename_i h3
                      rw [List.getElem?_drop, List.getElem?_drop, List.getElem?_take, if_pos (by omega), List.getElem?_drop]
                      congr 1; omega
                · rw [List.getElem?_set_ne hii] at g1
                  obtain ⟨y, y1, y2, y3⟩ := q4 i' j r' av g1 g2
                  refine ⟨y, ?_, y2.mono (fun _ _ _ h => h) (gOf_mono hgl), y3⟩
                  have hr'l := q3 r' (List.mem_of_getElem? g1)
                  have hjs : j < s := by rw [← hr'l]; exact (List.getElem?_eq_some_iff.1 g2).1
                  rw [← y1]
                  have f1 : (xs.take (i * s + o)).length = i * s + o := by simp [q2.1]; omega
                  rw [List.append_assoc, List.getElem?_append, f1]
                  rcases Nat.lt_or_gt_of_ne hii with hlt | hlt
                  · have : (i + 1) * s ≤ i' * s := Nat.mul_le_mul_right _ hlt
                    rw [Nat.add_mul] at this
                    rw [if_neg (by omega), List.getElem?_append, if_neg (by omega), List.getElem?_drop]
                    congr 1; omega
                  · have : (i' + 1) * s ≤ i * s := Nat.mul_le_mul_right _ hlt
                    rw [Nat.add_mul] at this
                    rw [if_pos (by omega), List.getElem?_take, if_pos (by omega)])
            (fun b' hb' => .inl hb') (fun x hx => by rw [hmu] at hx; obtain rfl := Option.some.inj hx; exact An.le_refl _)
          rw [putR_set hid] at hrel
          exact mop_skip (run b (i * s + o) cur E hb hheap (by omega)) hrel hK
      · exact hq2.elim
    · exact hq1.elim
  · exact hq.elim
end
end Go.Proofs.Ytimfnpjcedjmiaa
