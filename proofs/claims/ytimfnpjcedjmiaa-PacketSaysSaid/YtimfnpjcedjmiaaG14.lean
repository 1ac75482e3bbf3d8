/-
  Engine G, part 14: the law of the operations that make memory, or write into it: the whole.
-/
import Derived.Test.YtimfnpjcedjmiaaG13
namespace Go.Proofs.Ytimfnpjcedjmiaa
open Go.RowKit
set_option linter.unusedSimpArgs false
set_option linter.unusedVariables false

section
variable {P : Program} {n : Nat} {fp : Nat → Prop} {w0 : Start} {σ : Store} {μ : Ghost} {Ds : Nat → Nat → Prop} {A : AS} {a : Act} {w : World} {K : MK}
  {dst : Option Tmp} {ty : TypeId} {pos : String} {after : Array Edge} {guard : Option (Nat × Bool)} {Q : Exit → Act → World → Prop}

theorem Rel.drew (h : Rel n fp w0 σ μ Ds A a w) : Rel n fp w0 σ μ Ds A a w.drew := by
  obtain ⟨m1, m2, m3⟩ := h.mem
  refine ⟨h.defers, h.size, h.frame, h.agree, ⟨fun id r hr => (m1 id r hr).ext rfl (Gle.refl _) (fun b _ => ⟨rfl, fun _ => rfl⟩) (fun _ _ _ h => h), m2, m3⟩, h.own, ⟨h.keeps.os, h.keeps.tape, h.keeps.output, h.keeps.size, h.keeps.block⟩, h.old, h.mono, h.gle, h.kout, h.klen⟩
/-- New blocks that nobody writes. -/
theorem Rel.ext (h : Rel n fp w0 σ μ Ds A a w) {σ' : Store} {w' : World} (hsz : w.heap.size ≤ w'.heap.size) (hos : w'.os = w.os) (htape : w'.tape = w.tape) (hout : w'.output = w.output)
    (hfr : ∀ b, b < w.heap.size → w'.heap[b]? = w.heap[b]? ∧ ∀ o, σ' b o = σ b o) (hag : Agree σ' w') : Rel n fp w0 σ' μ Ds A a w' := by
  have hs : ∀ b o y, σ b o = some y → σ' b o = some y := fun b o y hy => by rw [(hfr b (h.agree.lt hy)).2]; exact hy
  obtain ⟨m1, m2, m3⟩ := h.mem
  refine ⟨h.defers, h.size, fun t av ht => (h.frame t av ht).mono hs (Gle.refl _), hag, ⟨fun id r hr => (m1 id r hr).ext rfl (Gle.refl _) (fun b hb => hfr b ((m1 id r hr).live hb)) hs, m2, m3⟩, h.own,
    ⟨hos.trans h.keeps.os, htape.trans h.keeps.tape, hout.trans h.keeps.output, Nat.le_trans h.keeps.size hsz, fun k hk hf => by rw [(hfr k (Nat.lt_of_lt_of_le hk h.keeps.size)).1]; exact h.keeps.block k hk hf⟩,
    fun b o hb hf => by rw [(hfr b (Nat.lt_of_lt_of_le hb h.keeps.size)).2]; exact h.old b o hb hf, fun b o y hy => hs _ _ _ (h.mono b o y hy), h.gle, h.kout, h.klen⟩

theorem nilEq_sound {op : BinOp} {t : TypeId} {x y : Operand} {rows : List (List AV)} {m : List Res} {ao : Option Addr} {l c : Nat} (hu : ∃ e, P.underlying t = some (.slice e)) (hl : ao = none → rows = []) (hk : nilEq op rows m K) :
    ∃ z, (do eqGuard op t x y (.slice ao l c) (.slice none 0 0); binOp op t (.slice ao l c) (.slice none 0 0)).run P w = .ok z w ∧ K m (.v z) := by
  obtain ⟨e, hu⟩ := hu
  have hg : (eqGuard op t x y (.slice ao l c) (.slice none 0 0)).run P w = .ok () w := by cases op <;> rfl
  have he : (Op.equal t (.slice ao l c) (.slice none 0 0)).run P w = .ok ao.isNone w := by
    refine equal_of fun d => ?_
    cases ao <;> simp [Op.equalIn, underlying, program, hu, Sem.run_bind, Result.andThen_ok, Sem.run, pure, Sem.run_pure]
  have hn : ao.isNone = true → rows = [] := fun h => hl (by simpa using h)
  simp only [Sem.run_bind, hg, Result.andThen_ok]
  cases op <;> simp only [nilEq] at hk <;> first | exact hk.elim | skip
  · exact ⟨_, by simp [binOp, Sem.run_bind, he, Result.andThen_ok, Sem.run_pure], hk _ hn⟩
  · refine ⟨.bool (neg ao.isNone), ?_, hk _ hn⟩
    simp [binOp, Sem.run_bind, he, Result.andThen_ok, Sem.run_pure, neg_eq]

theorem lit_cells {z : Array Value} {size n : Nat} {cs : Array Value} : True := trivial

set_option maxHeartbeats 2000000 in
theorem vm_sound (h : Rel n fp w0 σ μ Ds A a w) {mt : Mut} : ∀ {op : Op}, vm P mt A.fr A.mem op K → Oper.wp P ⟨dst, op, ty, pos, after, guard⟩ a w (MPost n fp w0 A a dst K) Q := by
  intro op hq
  cases op
  case box t x =>
    simp only [vm, evV_eq] at hq
    obtain ⟨l, hl, hK⟩ := cellsK_out hq
    obtain ⟨h1, h2, h3⟩ := (h.ev x).cells hl
    refine mop_val ?_ (h.boxed t h1 h2) (.box _ _ 0 w.heap.size updG_self) hK
    simp [execOp, Instr.box, newVar, newRow, newObj, Sem.run_bind, Sem.run, Result.andThen_ok, pure, Sem.run_pure]
    try rfl
  case alloc t =>
    simp only [vm] at hq
    split at hq
    · rename_i z hz
      simp only [fz_eq] at hq
      obtain ⟨l, hl, hK⟩ := cellsK_out hq
      obtain ⟨h1, h2, h3⟩ := (ofV_rep σ μ z).cells hl
      unfold zeroT at hz
      cases hi : P.info? t with
      | none => simp [hi] at hz
      | some i =>
        simp [hi] at hz
        refine mop_val ?_ (h.boxed t h1 h2) (.box _ _ 0 w.heap.size updG_self) hK
        simp [execOp, Instr.alloc, zeroValue, typeInfo, program, hi, hz, newVar, newRow, newObj, Sem.run_bind, Sem.run, Result.andThen_ok, pure, Sem.run_pure]
        try rfl
    · exact hq.elim
  case store t p x =>
    simp only [vm, evV_eq] at hq
    obtain ⟨lx, hlx, hK⟩ := cellsK_out hq
    exact st_sound h hlx hK
  case buildSlice t len parts =>
    simp only [vm] at hq
    split at hq
    · rename_i e sz z by_ hst
      simp only [fzN_eq] at hq
      obtain ⟨hz0, hq1⟩ := tt_out hq
      obtain ⟨hp0, hq2⟩ := tt_out hq1
      obtain ⟨hm0, hq3⟩ := tt_out hq2
      have hz := Nat.eq_of_beq_eq_true hz0
      have hpos : 0 < sz := Nat.le_of_ble_eq_true hp0
      have hsmall := Nat.le_of_ble_eq_true hm0
      obtain ⟨hu, bb, i, z', hsh, hi, hzz, hzs, hby, hisz⟩ := sliceT_some hst
      obtain ⟨rs, hK, hrl, hrow, hpl, hpr⟩ := rowsV_out hq3
      obtain ⟨hlen0, hK⟩ := tt_out hK
      have hlen := Nat.eq_of_beq_eq_true hlen0
      clear hq hq1 hq2 hq3
      have hno : ¬ (len * sz > 2 ^ 24) := by simpa using hsmall
      have hzr : (zeroValue e).run P w = .ok z' w := by simp [zeroValue, typeInfo, program, hi, hzz, Sem.run_bind, Sem.run, Result.andThen_ok, pure, Sem.run_pure]
      obtain ⟨zc, hzc⟩ : ∃ zc : Array Value, (len * sz = 0 ∧ zc = #[]) ∨ (len * sz ≠ 0 ∧ zc = z'.cells) := by
        by_cases h0 : len * sz = 0
        · exact ⟨#[], .inl ⟨h0, rfl⟩⟩
        · exact ⟨z'.cells, .inr ⟨h0, rfl⟩⟩
      have hcs0 : ((Array.range (len * sz)).map (zc[· % zc.size]!)).size = len * sz := by simp
      obtain ⟨cs, g1, g2, g3, g4⟩ := fill_rows h parts.toList 0 rs ((Array.range (len * sz)).map (zc[· % zc.size]!)) (by rw [hcs0, Nat.zero_add, ← hrl, hlen]; exact Nat.le_refl _) hrl hrow (fun j p hj => by rw [hpl j p hj]) (fun j r hj => hpr j r hj)
      have hrun : (execOp a.eval ⟨dst, .buildSlice t len parts, ty, pos, after, guard⟩).run P w = .ok (.value (.slice (some ⟨w.heap.size, 0, none⟩) rs.length rs.length)) (w.alloc (.cells cs e)) := by
        refine (show (execOp a.eval ⟨dst, .buildSlice t len parts, ty, pos, after, guard⟩) = (do pure (.value (← Instr.buildSlice t len (parts.map fun (i, x) => (i, a.eval x))))) from rfl) ▸ ?_
        have hparts : (parts.map fun (i, x) => (i, a.eval x)).toList = parts.toList.map fun p => (p.1, a.eval p.2) := by simp
        have hsz := sizeOf_of_shape hsh w
        rw [← hlen]
        rcases hzc with ⟨h0, rfl⟩ | ⟨h0, rfl⟩
        · simp only [Instr.buildSlice, Sem.run_bind, run_underlying hu, Result.andThen_ok, hsz, if_neg hno, Sem.run_pure, if_pos h0, hparts, g1, newRow, newObj, Sem.run]
          simp [Sem.run, pure, Sem.run_pure, Result.andThen_ok]
          try rfl
        · simp only [Instr.buildSlice, Sem.run_bind, run_underlying hu, Result.andThen_ok, hsz, if_neg hno, Sem.run_pure, if_neg h0, hzr, hparts, g1, newRow, newObj, Sem.run]
          simp [Sem.run, pure, Sem.run_pure, Result.andThen_ok]
          try rfl
      have hcsz : cs.size = rs.length * sz := by rw [g2, hcs0, hlen]
      have hfits : rs.length ≤ maxLen := by
        have : rs.length ≤ rs.length * sz := Nat.le_mul_of_pos_right _ hpos
        rw [← hlen] at this ⊢; unfold maxLen; omega
      have hown : ∀ rows : List (List AV), rows.length = rs.length → (w.alloc (.cells cs e)).ownsRow 0 e sz (.slice (some ⟨w.heap.size, 0, none⟩) rows.length rs.length) rows.length cs.toList := fun rows hr =>
        ⟨by simp [hcsz, hr], .inr ⟨w.heap.size, rs.length, cs, rfl, Nat.zero_le _, heap_alloc_new w _, by omega, hfits, hcsz, by rw [List.take_of_length_le (by simp [hcsz, hr])]⟩⟩
      have hg4 : ∀ (j q : Nat) (r : List AV) (av : AV), rs[j]? = some r → r[q]? = some av → ∃ y, cs.toList[j * sz + q]? = some y ∧ RepV σ μ av y ∧ y.oneCell' = true := fun j q r av e1 e2 => by
        obtain ⟨y, y1, y2, y3⟩ := g4 j q r av e1 e2
        rw [Nat.zero_add] at y1
        exact ⟨y, by simpa using y1, y2, y3⟩
      split at hK
      · rename_i hfree
        have hvl : (viewR rs).length = rs.length := by simp [viewR_eq]
        refine newSl_sound (w' := w.alloc (.cells cs e)) (free := true) (rows := viewR rs) (cap := rs.length) (ao := some ⟨w.heap.size, 0, none⟩) h (by simp) rfl rfl rfl (fun b hb => Below.heap_alloc w _ b hb) (hown _ hvl) ⟨by omega, hfits⟩ (fun k hk => by simp only [blkA, Option.some.injEq] at hk; omega) (fun r hr => ?_) (fun j q r av e1 e2 => ?_) (by rw [hvl]; exact hrun) (by rw [hvl, ← hlen]; exact hK)
        · rw [viewR_eq] at hr
          obtain ⟨r', hr', rfl⟩ := List.mem_map.1 hr
          rw [viewL_eq, List.length_map]; exact hrow r' hr'
        · rw [viewR_eq, List.getElem?_map, Option.map_eq_some_iff] at e1
          obtain ⟨r', hr', rfl⟩ := e1
          rw [viewL_eq, List.getElem?_map, Option.map_eq_some_iff] at e2
          obtain ⟨av', hav', rfl⟩ := e2
          obtain ⟨y, y1, y2, y3⟩ := hg4 j q r' av' hr' hav'
          exact ⟨y, y1, (RepV.view y2).free0 (freeL_out (freeR_out hfree r' (List.mem_of_getElem? hr')) av' (List.mem_of_getElem? hav')), y3⟩
      · exact newSl_sound (w' := w.alloc (.cells cs e)) (free := false) (rows := rs) (cap := rs.length) (ao := some ⟨w.heap.size, 0, none⟩) h (by simp) rfl rfl rfl (fun b hb => Below.heap_alloc w _ b hb) (hown _ rfl) ⟨by omega, hfits⟩ (fun k hk => by simp only [blkA, Option.some.injEq] at hk; omega) hrow hg4 hrun (by rw [← hlen]; exact hK)
    · exact hq.elim
  case makeSlice t l c =>
    simp only [vm] at hq
    split at hq
    · rename_i e sz z by_ hst
      simp only [fzN_eq, evV_eq] at hq
      obtain ⟨hz0, hq1⟩ := tt_out hq
      obtain ⟨hp0, hq2⟩ := tt_out hq1
      have hz := Nat.eq_of_beq_eq_true hz0
      have hpos : 0 < sz := Nat.le_of_ble_eq_true hp0
      obtain ⟨hu, bb, i, z', hsh, hi, hzz, hzs, hby, hisz⟩ := sliceT_some hst
      split at hq2
      · rename_i zv hzv
        have hzz' : zv = z' := by unfold zeroT at hzv; simp [hi, hzz] at hzv; exact hzv.symm
        subst hzz'
        split at hq2
        · rename_i k1 l1 el
          split at hq2
          · rename_i k2 c1 ec
            obtain ⟨⟨h0, hc, hb2, hb3⟩, hK0⟩ := hq2
            obtain ⟨hall, hK⟩ := tt_out hK0
            have e1 := h.ev l
            rw [el] at e1
            have e1 := e1.inv_v
            have e2 := h.ev c
            rw [ec] at e2
            have e2 := e2.inv_v
            subst hc
            have hm : c1.toNat ≤ maxLen := by unfold maxLen; omega
            have hb4 : i.bytes * c1.toNat ≤ 281474976710656 := by
              rw [hby]
              have : ((by_ * c1.toNat : Nat) : Int) ≤ 281474976710656 := by rw [Int.natCast_mul, Int.toNat_of_nonneg h0, Int.mul_comm]; exact hb2
              omega
            obtain ⟨w', hr, hown, hgr⟩ := run_make_full (P := P) w 0 t e i zv sz hu hi hzz hisz k1 k2 c1.toNat hb4 hm (Nat.zero_le _)
            rw [Int.toNat_of_nonneg h0] at hr
            have hrun : (execOp a.eval ⟨dst, .makeSlice t l c, ty, pos, after, guard⟩).run P w = .ok (.value (.slice (some ⟨w.heap.size, 0, none⟩) c1.toNat c1.toNat)) w' := by
              simp only [execOp, e1, e2, Sem.run_bind, hr, Result.andThen_ok, Sem.run_pure]
            have hzc : zv.cells.size = sz := hzs.trans hz
            have main : ∀ fr, K (A.mem ++ [.arr fr e sz 0 (List.replicate c1.toNat (zv.cells.toList.map .v))]) (.arr A.mem.length 0 c1.toNat) → Oper.wp P ⟨dst, .makeSlice t l c, ty, pos, after, guard⟩ a w (MPost n fp w0 A a dst K) Q := by
              intro fr hKK
              have hl : (List.replicate c1.toNat (zv.cells.toList.map AV.v)).length = c1.toNat := by simp
              refine mop_val hrun (h.newArr (f := fr) (rows := List.replicate c1.toNat (zv.cells.toList.map .v)) (cap := c1.toNat) (ao := some ⟨w.heap.size, 0, none⟩) hgr.size hgr.os hgr.tape hgr.output (fun b hb => hgr.block b hb (by simp)) (by rw [hl]; exact hown) (fun k hk => by simp only [blkA, Option.some.injEq] at hk; omega) (fun r hr => ?_) (fun j q r av g1 g2 => ?_)) ?_ hKK
              · rw [(List.mem_replicate.1 hr).2]; simp [hzc]
              · have hr := (List.mem_replicate.1 (List.mem_of_getElem? g1))
                have hj : j < c1.toNat := by have := (List.getElem?_eq_some_iff.1 g1).1; simpa using this
                rw [hr.2] at g2
                simp only [List.getElem?_map, Option.map_eq_some_iff] at g2
                obtain ⟨y, hy, rfl⟩ := g2
                have hq : q < sz := by have := (List.getElem?_eq_some_iff.1 hy).1; simpa [hzc] using this
                have hlt : j * sz + q < c1.toNat * sz := by
                  have : (j + 1) * sz ≤ c1.toNat * sz := Nat.mul_le_mul_right _ hj
                  rw [Nat.add_mul] at this; omega
                refine ⟨y, ?_, .v _ _, List.all_eq_true.1 hall y (List.mem_of_getElem? hy)⟩
                have hmod : (j * sz + q) % sz = q := by rw [Nat.mul_comm, Nat.mul_add_mod, Nat.mod_eq_of_lt hq]
                have hyq : zv.cells[q]! = y := by
                  have : zv.cells[q]? = some y := by simpa using hy
                  rw [getElem!_def, this]
                simp [madeCells, hlt, hzc, hmod, hyq]
              · have := RepV.arr (σ := σ) (updG μ A.mem.length (.cur (some ⟨w.heap.size, 0, none⟩) (List.replicate c1.toNat (zv.cells.toList.map AV.v)).length c1.toNat 0)) A.mem.length 0 c1.toNat (some ⟨w.heap.size, 0, none⟩) c1.toNat c1.toNat _ (Nat.le_refl _) (Nat.le_refl _) hm updG_self (by rw [hl]; exact An.le_refl _)
                exact this
            split at hK
            · exact main false hK
            · exact main true hK
          · exact hq2.elim
        · exact hq2.elim
      · exact hq2.elim
    · exact hq.elim
  case convert t u x =>
    simp only [vm, evV_eq] at hq
    split at hq
    · rename_i s hs
      obtain ⟨h1, hq1⟩ := tt_out hq
      obtain ⟨h2, ⟨hsz⟩, hK⟩ := tt_out hq1
      obtain ⟨e, hu1, hu2⟩ := isU8s_out h2
      have hx := h.ev x
      rw [hs] at hx
      have hx := hx.inv_v
      have hr := run_bytes_of_string (P := P) w t u e s (isStr_out h1) hu1 hu2
      have hge := grownCap_ge w s.size 0 e
      have hle : grownCap w s.size 0 e ≤ maxLen := grownCap_le_maxLen w s.size 0 e hsz
      let σ' : Store := fun b o => if b = w.heap.size then (if o < s.size then some (.int .u8 ((s.data.toList.getD o 0).toNat : Int)) else none) else σ b o
      have hcell : ∀ o, o < s.size → (w.drew.alloc (.cells (bytesRow s (grownCap w s.size 0 e)) e ((bytesRow s (grownCap w s.size 0 e)).size, (bytesRow s (grownCap w s.size 0 e)).size + 1))).cell? ⟨w.heap.size, o, none⟩ = some (.int .u8 ((s.data.toList.getD o 0).toNat : Int)) := by
        intro o ho
        have e1 : (w.drew.alloc (.cells (bytesRow s (grownCap w s.size 0 e)) e ((bytesRow s (grownCap w s.size 0 e)).size, (bytesRow s (grownCap w s.size 0 e)).size + 1))).heap[w.heap.size]? = some (.cells (bytesRow s (grownCap w s.size 0 e)) e ((bytesRow s (grownCap w s.size 0 e)).size, (bytesRow s (grownCap w s.size 0 e)).size + 1)) := heap_alloc_new w.drew _
        have ho' : o < s.data.size := ho
        simp only [World.cell?]
        rw [e1]
        have hso : s.data[o]? = some s.data[o] := Array.getElem?_eq_getElem ho'
        simp [bytesRow, Array.getElem?_append, ho, ho', hso]
      have hrel := h.drew.ext (σ' := σ') (w' := w.drew.alloc (.cells (bytesRow s (grownCap w s.size 0 e)) e ((bytesRow s (grownCap w s.size 0 e)).size, (bytesRow s (grownCap w s.size 0 e)).size + 1))) (by simp) rfl rfl rfl
        (fun b hb => ⟨Below.heap_alloc w.drew _ b hb, fun o => by
          have hb : b < w.heap.size := hb
          simp only [σ']; rw [if_neg (by omega)]⟩)
        (fun b o y hy => by
          simp only [σ'] at hy
          split at hy
          · rename_i hb
            subst hb
            split at hy
            · rename_i ho; rw [hcell o ho]; exact hy
            · cases hy
          · rw [World.cell?_alloc_past _ _ _ (show b < w.drew.heap.size from h.agree.lt hy)]; exact h.agree b o y hy)
      have hl : (byteRows s).length = s.size := by simp [byteRows]
      refine mop_val (x := .slice (some ⟨w.heap.size, 0, none⟩) s.size (grownCap w s.size 0 e)) ?_ hrel ?_ hK
      · simp only [execOp, hx, Sem.run_bind, hr, Result.andThen_ok, Sem.run_pure]
      · have hb0 : ∀ i r, (byteRows s)[i]? = some r → i < s.size ∧ r = [.v (.int .u8 ((s.data.toList.getD i 0).toNat : Int))] := fun i r hi => by
          have hlt : i < s.size := by rw [← hl]; exact (List.getElem?_eq_some_iff.1 hi).1
          simp only [byteRows, List.getElem?_map, Option.map_eq_some_iff] at hi
          obtain ⟨c, hc, rfl⟩ := hi
          exact ⟨hlt, by rw [List.getD_eq_getElem?_getD, hc]; rfl⟩
        have fin : RepV σ' μ (.sl 1 (byteRows s) none) (.slice (some ⟨w.heap.size, 0, none⟩) (byteRows s).length (grownCap w s.size 0 e)) := by
         refine .sl _ 1 _ none _ _ w.heap.size 0 (fun i j => .int .u8 ((s.data.toList.getD i 0).toNat : Int)) (by rw [hl]; exact hge) hle (.inr rfl) (fun r hr => ?_) (fun i j r av g1 g2 => ?_) (fun i j r av g1 g2 => ?_) (fun i j r av g1 g2 => rfl) (fun id g h => by cases h)
         · obtain ⟨i, hi⟩ := List.getElem?_of_mem hr
           rw [(hb0 i r hi).2]; rfl
         · obtain ⟨h3, rfl⟩ := hb0 i r g1
           cases j with
           | zero => simp [σ', h3]
           | succ j => simp at g2
         · obtain ⟨h3, rfl⟩ := hb0 i r g1
           cases j with
           | zero => simp only [List.getElem?_cons_zero, Option.some.injEq] at g2; subst g2; exact .v _ _
           | succ j => simp at g2
        rw [hl] at fin
        exact fin
    · exact hq.elim
  case makeMap t r =>
    simp only [vm] at hq
    split at hq
    · split at hq
      · rename_i kk ag hk
        have hrel := h.new (r := .map kk ag fun _ => none) (D := (· = w.heap.size)) (an := .fix (.map (some w.heap.size))) (σ' := σ) (w' := w.alloc (.map #[] 0)) (by simp) rfl rfl rfl (fun b hb => ⟨Below.heap_alloc w _ b hb, fun _ => rfl⟩) h.agree.alloc
          ⟨w.heap.size, #[], 0, updG_self, heap_alloc_new w _, ⟨by simp, by simp, by simp, by simp⟩, by simp, fun o => h.none_new (Nat.le_refl _), fun k => Iff.rfl⟩ (fun b hb => by subst hb; exact Nat.le_refl _)
        refine mop_val (x := .map (some w.heap.size)) ?_ hrel (.map _ _ _ updG_self) hq
        simp only [execOp, Option.map_none, Sem.run_bind, run_makeMap, Result.andThen_ok, Sem.run_pure]
      · exact hq.elim
    · exact hq.elim
  case mapUpdate t m k x =>
    simp only [vm, evV_eq] at hq
    obtain ⟨l, hl, hq1⟩ := cellsK_out hq
    obtain ⟨hfree, hq2⟩ := tt_out hq1
    split at hq2
    · rename_i z b sz hel
      obtain ⟨hagy0, hq20⟩ := tt_out hq2
      obtain ⟨hsz0, hq3⟩ := tt_out hq20
      unfold mapUpdV at hq3
      split at hq3
      · rename_i id hm
        obtain ⟨r, hr, hq4⟩ := nthK_out hq3
        split at hq4
        · rename_i kk ag f
          split at hq4
          · rename_i kk' ag' hkm
            obtain ⟨hag0, hq5⟩ := tt_out hq4
            have hag : ag = ag' := by simpa using hag0
            obtain ⟨kt, e, ki, mm, u1, u2, rfl, hkv, hK⟩ := key_int hq5
            obtain ⟨kt', e', sz', u1', hsh⟩ := kindM_some hkm
            rw [u1] at u1'
            simp only [Option.some.injEq, TypeDesc.map.injEq] at u1'
            obtain ⟨rfl, rfl⟩ := u1'
            have hx1 := h.ev m
            rw [hm] at hx1
            obtain ⟨rr, hmv, hmu⟩ := hx1.inv_map
            have hx2 := h.ev k
            rw [hkv] at hx2
            have hx2 := hx2.inv_v
            obtain ⟨c1, c2, c3⟩ := (h.ev x).cells hl
            obtain ⟨r0, es, clock, g1, g2, g3, g4, g5, g6⟩ := h.mem.ok id _ hr
            rw [hmu] at g1
            simp only [Option.some.injEq, An.fix.injEq, Value.map.injEq] at g1
            subst g1
            have hvr : ValRep σ (a.eval x) (viewL l) := by
              refine ⟨by rw [viewL_eq, List.length_map]; exact c1, c3, fun i av hi => ?_⟩
              rw [viewL_eq, List.getElem?_map, Option.map_eq_some_iff] at hi
              obtain ⟨av0, h0, rfl⟩ := hi
              obtain ⟨y, hy, hry⟩ := c2 i av0 h0
              exact ⟨y, hy, (RepV.view hry).free0 (freeL_out hfree av0 (List.mem_of_getElem? h0))⟩
            have hagv : ag = true ↔ ∃ cs, a.eval x = .agg cs := by
              have hagy : b = aggV (evO A.fr x) := by simpa using hagy0
              have hsh2 := (elemM_some hel u1).2
              rw [hsh] at hsh2
              simp only [Option.some.injEq, Prod.mk.injEq] at hsh2
              rw [hag, hsh2.1, hagy]
              have hx3 := h.ev x
              cases hv : evO A.fr x with
              | agg l' => rw [hv] at hx3; obtain ⟨cs, hcs, _⟩ := hx3.inv_agg; simp [aggV, hcs]
              | _ =>
                have h1 : (evO A.fr x).one = true := by
                  rw [hv] at hl ⊢
                  simp only [AV.cells] at hl
                  split at hl
                  · assumption
                  · cases hl
                have := hx3.one h1
                simp only [aggV, Bool.false_eq_true, false_iff, not_exists]
                intro cs e
                rw [e] at this
                cases this
            obtain ⟨es', clock', hrun, hrep', hkw'⟩ := mapPut_run (P := P) (w := w) (m := mm) u1 u2 g2 g3 g4 hvr hagv
            have hrel := h.setO (res := .map (some ki) ag (updF f (.int ki mm) (some (viewL l)))) (o := .map es' clock') hr hmu g2 g6 g5 ⟨rr, es', clock', updG_self, setO_get g2, hrep', hkw', g5, g6⟩
            refine mop_skip ?_ hrel hK
            simp only [execOp, hmv, hx2, Sem.run_bind, hrun, Result.andThen_ok, Sem.run_pure]
          · exact hq4.elim
        · exact hq4.elim
      · exact hq3.elim
    · exact hq2.elim
  case range t x =>
    simp only [vm, evV_eq] at hq
    split at hq
    · rename_i s hs
      obtain ⟨h1, hK⟩ := tt_out hq
      have hu := isStr_out h1
      have hx := h.ev x
      rw [hs] at hx
      have hx := hx.inv_v
      have hrel := h.new (r := .siter s 0) (D := (· = w.heap.size)) (an := .fix (.pointer (some ⟨w.heap.size, 0, none⟩))) (σ' := σ) (w' := w.alloc (.stringIter s 0)) (by simp) rfl rfl rfl (fun b hb => ⟨Below.heap_alloc w _ b hb, fun _ => rfl⟩) h.agree.alloc
        ⟨w.heap.size, updG_self, heap_alloc_new w _, fun o => h.none_new (Nat.le_refl _), fun k => Iff.rfl⟩ (fun b hb => by subst hb; exact Nat.le_refl _)
      refine mop_val (x := .pointer (some ⟨w.heap.size, 0, none⟩)) ?_ hrel (.box _ _ 0 _ updG_self) hK
      simp [execOp, Instr.range, underlying, program, hu, hx, newObj, Sem.run_bind, Sem.run, Result.andThen_ok, pure, Sem.run_pure]
      try rfl
    · exact hq.elim
  case next x isS =>
    obtain ⟨h0, hq0⟩ := tt_out hq
    subst h0
    clear hq
    simp only [evV_eq] at hq0
    unfold nextV at hq0
    split at hq0
    · rename_i id hv
      obtain ⟨r, hr, hq1⟩ := nthK_out hq0
      split at hq1
      · rename_i s p
        have hx := h.ev x
        rw [hv] at hx
        obtain ⟨b, hb, hmu⟩ := hx.inv_box
        obtain ⟨rr, g1, g2, g5, g6⟩ := h.mem.ok id _ hr
        rw [hmu] at g1
        simp only [Option.some.injEq, An.fix.injEq, Value.pointer.injEq, Addr.mk.injEq, and_true] at g1
        subst g1
        by_cases hp : p < s.size
        · obtain ⟨⟨hlt⟩, hK⟩ := hq1.1 (by simpa using hp)
          have hrel := h.setO (res := .siter s (p + 1)) (o := .stringIter s (p + 1)) hr hmu g2 g6 g5 ⟨b, updG_self, setO_get g2, g5, g6⟩
          have hdec : Utf8.decode s p = (byteAt s p, 1) := by
            have hget : (s.get! p).toNat = byteAt s p := by
              unfold byteAt
              have hp' : p < s.data.toList.length := by simpa using hp
              have hp2 : p < s.data.size := hp
              rw [List.getD_eq_getElem?_getD, List.getElem?_eq_getElem hp']
              have : s.data[p]! = s.data[p] := getElem!_pos s.data p hp2
              simp [ByteArray.get!, this]
            unfold Utf8.decode
            simp only [Nat.add_zero, hget]
            rw [if_pos hlt]
          refine mop_val (x := .tuple #[.bool true, goInt p, .int .i32 (byteAt s p)]) ?_ hrel (.tup _ _ _ rfl (fun i av y e1 e2 => ?_)) hK
          · simp only [execOp, hb, Instr.next, getObj, Sem.run_bind, Sem.run, g2, Sem.run_pure, Result.andThen_ok, hp, if_true, hdec, setObj]
            simp [Sem.run_bind, Sem.run, g2, Sem.run_pure, Result.andThen_ok, Bind.bind, Sem.bind, pure]
            try rfl
          · match i, e1, e2 with
            | 0, e1, e2 => simp at e1 e2; subst e1 e2; exact .v _ _
            | 1, e1, e2 => simp at e1 e2; subst e1 e2; exact .v _ _
            | 2, e1, e2 => simp at e1 e2; subst e1 e2; exact .v _ _
        · have hK := hq1.2 (by simpa using hp)
          refine mop_val (x := .tuple #[.bool false]) ?_ h (.tup _ _ _ rfl (fun i av y e1 e2 => ?_)) hK
          · simp only [execOp, hb, Instr.next, getObj, Sem.run_bind, Sem.run, g2, Sem.run_pure, Result.andThen_ok, hp, if_false]
          · match i, e1, e2 with
            | 0, e1, e2 => simp at e1 e2; subst e1 e2; exact .v _ _
      · exact hq1.elim
    · exact hq0.elim
  case binOp op t x y yt =>
    simp only [vm, evV_eq] at hq
    split at hq
    · rename_i hy
      have hyv := h.ev y
      rw [hy] at hyv
      have hyv := hyv.inv_v
      split at hq
      · rename_i sz rows own hx
        obtain ⟨h1, hK⟩ := tt_out hq
        obtain ⟨e, he⟩ := Option.isSome_iff_exists.1 h1
        have hxv := h.ev x
        rw [hx] at hxv
        obtain ⟨ao, cap, b, off, f, hxe, g1, g2, g3, _⟩ := hxv.inv_sl
        obtain ⟨z, hz, hK⟩ := nilEq_sound (P := P) (w := w) (x := x) (y := y) (ao := ao) (l := rows.length) (c := cap) ⟨e, elemT_some he⟩ (fun h0 => by rcases g3 with g3 | g3; exact g3; rw [h0] at g3; cases g3) hK
        refine mop_val (x := z) ?_ h (.v _ _) hK
        simp only [execOp, hxe, hyv]
        rw [Sem.run_bind, hz]
        simp [Result.andThen_ok, Sem.run_pure]
      · rename_i hx
        obtain ⟨h1, hK⟩ := tt_out hq
        obtain ⟨e, he⟩ := Option.isSome_iff_exists.1 h1
        have hxv := h.ev x
        rw [hx] at hxv
        have hxe := hxv.inv_v
        have hu := elemT_some he
        have hg : (eqGuard op t x y (.slice none 0 0) (.slice none 0 0)).run P w = .ok () w := by cases op <;> rfl
        have hee : (Op.equal t (.slice none 0 0) (.slice none 0 0)).run P w = .ok true w := by
          refine equal_of fun d => ?_
          simp [Op.equalIn, underlying, program, hu, Sem.run_bind, Result.andThen_ok, Sem.run, pure, Sem.run_pure]
        cases op <;> simp only [binN] at hK <;> first | exact hK.elim | skip
        · refine mop_val (x := .bool true) ?_ h (.v _ _) hK
          simp [execOp, hxe, hyv, binOp, Sem.run_bind, hg, hee, Result.andThen_ok, Sem.run_pure]
        · refine mop_val (x := .bool (neg true)) ?_ h (.v _ _) hK
          simp [execOp, hxe, hyv, binOp, Sem.run_bind, hg, hee, Result.andThen_ok, Sem.run_pure, neg]
      · exact hq.elim
    · exact hq.elim
  case call c =>
    obtain ⟨callee, args, ats⟩ := c
    cases callee with
    | builtin b =>
      cases b
      case append => exact app_sound h hq
      case delete =>
        simp only [vm] at hq
        unfold delCall at hq
        split at hq
        · rename_i x y hargs
          obtain rfl : args = #[x, y] := by rw [← Array.toArray_toList (xs := args), hargs]
          split at hq
          · rename_i t ts hats
            simp only [evV_eq] at hq
            unfold mapUpdV at hq
            split at hq
            · rename_i id hm
              obtain ⟨r, hr, hq4⟩ := nthK_out hq
              split at hq4
              · rename_i kk ag f
                split at hq4
                · rename_i kk' ag' hkm
                  obtain ⟨hag0, hq5⟩ := tt_out hq4
                  obtain ⟨kt, e, ki, mm, u1, u2, rfl, hkv, hK⟩ := key_int hq5
                  have hx1 := h.ev x
                  rw [hm] at hx1
                  obtain ⟨rr, hmv, hmu⟩ := hx1.inv_map
                  have hx2 := h.ev y
                  rw [hkv] at hx2
                  have hx2 := hx2.inv_v
                  obtain ⟨r0, es, clock, g1, g2, g3, g4, g5, g6⟩ := h.mem.ok id _ hr
                  rw [hmu] at g1
                  simp only [Option.some.injEq, An.fix.injEq, Value.map.injEq] at g1
                  subst g1
                  have hts : ats[0]? = some t := by rw [← Array.getElem?_toList, hats]; rfl
                  obtain ⟨es', hrun, hrep', hkw'⟩ := mapDel_run (P := P) (w := w) (m := mm) (ty' := ty) u1 u2 hts g2 g3 g4
                  have hrel := h.setO (res := .map (some ki) ag (updF f (.int ki mm) none)) (o := .map es' clock) hr hmu g2 g6 g5 ⟨rr, es', clock, updG_self, setO_get g2, hrep', hkw', g5, g6⟩
                  refine mop_val (x := .tuple #[]) ?_ hrel (.v _ _) hK
                  rw [BigFrame.execOp_builtin]
                  simp [builtin, hmv, hx2, hrun, Sem.run_bind, Result.andThen_ok, Sem.run_pure]
                · exact hq4.elim
              · exact hq4.elim
            · exact hq.elim
          · exact hq.elim
        · exact hq.elim
      case clear =>
        simp only [vm] at hq
        unfold clrCall at hq
        split at hq
        · rename_i x hargs
          obtain rfl : args = #[x] := by rw [← Array.toArray_toList (xs := args), hargs]
          split at hq
          · rename_i t hats
            simp only [evV_eq] at hq
            split at hq
            · rename_i id hm
              obtain ⟨r, hr, hq4⟩ := nthK_out hq
              split at hq4
              · rename_i kk ag f
                obtain ⟨hsome, hK⟩ := tt_out hq4
                obtain ⟨⟨kk', ag'⟩, hkm⟩ := Option.isSome_iff_exists.1 hsome
                obtain ⟨kt, e, sz, u1, hsh⟩ := kindM_some hkm
                have hx1 := h.ev x
                rw [hm] at hx1
                obtain ⟨rr, hmv, hmu⟩ := hx1.inv_map
                obtain ⟨r0, es, clock, g1, g2, g3, g4, g5, g6⟩ := h.mem.ok id _ hr
                rw [hmu] at g1
                simp only [Option.some.injEq, An.fix.injEq, Value.map.injEq] at g1
                subst g1
                have hts : ats[0]? = some t := by rw [← Array.getElem?_toList, hats]; rfl
                have hrel := h.setO (res := .map kk ag (fun _ => none)) (o := .map #[] clock) hr hmu g2 g6 g5 ⟨rr, #[], clock, updG_self, setO_get g2, ⟨by simp, by simp, by simp, by simp⟩, by simp, g5, g6⟩
                have hrun : (Builtin.clear_ ats ty #[.map (some rr)]).run P w = .ok (.tuple #[]) (World.setO w rr (.map #[] clock)) := by
                  simp only [Builtin.clear_, hts, Sem.run_bind, run_underlying u1, Result.andThen_ok, getObj, Sem.run, g2, Sem.run_pure, setObj, List.getElem?_toArray, List.getElem?_cons_zero]
                  rfl
                refine mop_val (x := .tuple #[]) ?_ hrel (.v _ _) hK
                rw [BigFrame.execOp_builtin]
                simp [builtin, hmv, hrun, Sem.run_bind, Result.andThen_ok, Sem.run_pure]
              · exact hq4.elim
            · exact hq.elim
          · exact hq.elim
        · exact hq.elim
      all_goals exact hq.elim
    | _ => exact hq.elim
  all_goals exact hq.elim
end
end Go.Proofs.Ytimfnpjcedjmiaa
