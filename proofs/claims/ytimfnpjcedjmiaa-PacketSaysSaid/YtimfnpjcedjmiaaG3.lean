/-
  Engine G, part 3: what an operation that only looks does is what is known of it.
-/
import Derived.Test.YtimfnpjcedjmiaaG2
namespace Go.Proofs.Ytimfnpjcedjmiaa
open Go.RowKit
set_option linter.unusedSimpArgs false
set_option linter.unusedVariables false

section
variable {σ : Store} {μ : Ghost} {x : Value}
theorem RepV.inv_v {y : Value} (h : RepV σ μ (.v y) x) : x = y := by cases h; rfl
theorem RepV.inv_err {k : Int} (h : RepV σ μ (.err k) x) : x = errv k := by cases h; rfl
theorem RepV.inv_adr {cells : List AV} (h : RepV σ μ (.adr cells) x) : ∃ (b off : Nat) (f : Nat → Value), x = .pointer (some ⟨b, off, none⟩) ∧
    (∀ (j : Nat) (av : AV), cells[j]? = some av → σ b (off + j) = some (f j)) ∧ (∀ (j : Nat) (av : AV), cells[j]? = some av → RepV σ noG av (f j)) ∧ (∀ (j : Nat) (av : AV), cells[j]? = some av → (f j).oneCell' = true) := by
  cases h with | adr _ _ b off f h1 h2 h3 => exact ⟨b, off, f, rfl, h1, h2, h3⟩
theorem RepV.inv_agg {l : List AV} (h : RepV σ μ (.agg l) x) : ∃ cs, x = .agg cs ∧ l.length = cs.size ∧ (∀ (i : Nat) (av : AV) (y : Value), l[i]? = some av → cs[i]? = some y → RepV σ μ av y) := by
  cases h with | agg _ _ cs h1 h2 => exact ⟨cs, rfl, h1, h2⟩
theorem RepV.inv_tup {l : List AV} (h : RepV σ μ (.tup l) x) : ∃ cs, x = .tuple cs ∧ l.length = cs.size ∧ (∀ (i : Nat) (av : AV) (y : Value), l[i]? = some av → cs[i]? = some y → RepV σ μ av y) := by
  cases h with | tup _ _ cs h1 h2 => exact ⟨cs, rfl, h1, h2⟩
theorem RepV.inv_clo {f : Nat} {l : List AV} (h : RepV σ μ (.clo f l) x) : ∃ cs, x = .func (.func f) #[] cs ∧ l.length = cs.size ∧ (∀ (i : Nat) (av : AV) (y : Value), l[i]? = some av → cs[i]? = some y → RepV σ μ av y) := by
  cases h with | clo _ _ _ cs h1 h2 => exact ⟨cs, rfl, h1, h2⟩
theorem RepV.inv_box {id off : Nat} (h : RepV σ μ (.box id off) x) : ∃ b, x = .pointer (some ⟨b, off, none⟩) ∧ μ id = some (.fix (.pointer (some ⟨b, 0, none⟩))) := by
  cases h with | box _ _ _ b h1 => exact ⟨b, rfl, h1⟩
theorem RepV.inv_map {id : Nat} (h : RepV σ μ (.map id) x) : ∃ r, x = .map (some r) ∧ μ id = some (.fix (.map (some r))) := by
  cases h with | map _ _ r h1 => exact ⟨r, rfl, h1⟩
theorem RepV.inv_arr {id g n : Nat} (h : RepV σ μ (.arr id g n) x) : ∃ ao m cap a, x = .slice ao n cap ∧ n ≤ m ∧ m ≤ cap ∧ cap ≤ maxLen ∧ μ id = some a ∧ (An.cur ao m cap g).le a := by
  cases h with | arr _ _ _ _ ao m cap a h1 h2 h3 h4 h5 => exact ⟨ao, m, cap, a, rfl, h1, h2, h3, h4, h5⟩
theorem RepV.inv_elt {id g sz i o : Nat} (h : RepV σ μ (.elt id g sz i o) x) : ∃ b m cap a, x = .pointer (some ⟨b, i * sz + o, none⟩) ∧ μ id = some a ∧ (An.cur (some ⟨b, 0, none⟩) m cap g).le a := by
  cases h with | elt _ _ _ _ _ _ b m cap a h1 h2 => exact ⟨b, m, cap, a, rfl, h1, h2⟩
theorem RepV.inv_sl {sz : Nat} {rows : List (List AV)} {own : Option (Nat × Nat)} (h : RepV σ μ (.sl sz rows own) x) : ∃ (ao : Option Addr) (cap b off : Nat) (f : Nat → Nat → Value), x = .slice ao rows.length cap ∧
    rows.length ≤ cap ∧ cap ≤ maxLen ∧ (rows = [] ∨ ao = some ⟨b, off, none⟩) ∧ (∀ r, r ∈ rows → r.length = sz) ∧
    (∀ (i j : Nat) (r : List AV) (av : AV), rows[i]? = some r → r[j]? = some av → σ b (off + i * sz + j) = some (f i j)) ∧
    (∀ (i j : Nat) (r : List AV) (av : AV), rows[i]? = some r → r[j]? = some av → RepV σ noG av (f i j)) ∧
    (∀ (i j : Nat) (r : List AV) (av : AV), rows[i]? = some r → r[j]? = some av → (f i j).oneCell' = true) ∧ (∀ id g, own = some (id, g) → ∃ a, μ id = some a ∧ (An.cur ao rows.length cap g).le a) := by
  cases h with | sl _ _ _ _ ao cap b off f h1 h2 h3 h4 h5 h6 h7 h8 => exact ⟨ao, cap, b, off, f, rfl, h1, h2, h3, h4, h5, h6, h7, h8⟩
theorem errv_one (k : Int) : (errv k).oneCell' = true := by unfold errv; split <;> rfl
theorem RepV.one {av : AV} (h : RepV σ μ av x) (ho : av.one = true) : x.oneCell' = true := by
  cases h with
  | any => simp [AV.one] at ho
  | v => exact ho
  | err _ k => exact errv_one k
  | agg => simp [AV.one] at ho
  | tup => simp [AV.one] at ho
  | _ => rfl
theorem cells_one (h : x.oneCell' = true) : x.cells = #[x] := by cases x <;> first | rfl | simp [Value.oneCell'] at h
theorem RepV.cells {av : AV} {l : List AV} (h : RepV σ μ av x) (hc : av.cells = some l) : x.cells.size = l.length ∧ (∀ (i : Nat) (a : AV), l[i]? = some a → ∃ y, x.cells[i]? = some y ∧ RepV σ μ a y) ∧ (∀ y ∈ x.cells.toList, y.oneCell' = true) := by
  have key : ∀ av' : AV, RepV σ μ av' x → av'.one = true → l = [av'] → x.cells.size = l.length ∧ (∀ (i : Nat) (a : AV), l[i]? = some a → ∃ y, x.cells[i]? = some y ∧ RepV σ μ a y) ∧ (∀ y ∈ x.cells.toList, y.oneCell' = true) := by
    intro av' hr ho hl
    have h1 := hr.one ho
    rw [cells_one h1]
    subst hl
    refine ⟨rfl, fun i a hi => ?_, fun y hy => ?_⟩
    · cases i with
      | zero => simp only [List.getElem?_cons_zero, Option.some.injEq] at hi; subst hi; exact ⟨x, rfl, hr⟩
      | succ i => simp at hi
    · simp only [List.mem_singleton] at hy; subst hy; exact h1
  cases av with
  | agg m =>
    simp only [AV.cells] at hc
    split at hc
    · rename_i hall
      obtain rfl := Option.some.inj hc
      obtain ⟨cs, rfl, hl, hr⟩ := h.inv_agg
      refine ⟨hl.symm, fun i a hi => ?_, fun y hy => ?_⟩
      · have hlt : i < cs.size := by rw [← hl]; exact (List.getElem?_eq_some_iff.1 hi).1
        exact ⟨cs[i], by simp [Value.cells, hlt], hr i a _ hi (by simp [hlt])⟩
      · obtain ⟨i, hi, rfl⟩ := List.mem_iff_getElem.1 hy
        have hi' : i < cs.size := by simpa [Value.cells] using hi
        have hm : i < m.length := by omega
        have := hr i m[i] cs[i] (by simp [hm]) (by simp [hi'])
        show (cs.toList[i]'(by simpa using hi')).oneCell' = true
        rw [Array.getElem_toList]
        exact this.one (List.all_eq_true.1 hall _ (List.getElem_mem hm))
    · cases hc
  | any => simp [AV.cells, AV.one] at hc
  | tup m => simp [AV.cells, AV.one] at hc
  | v y =>
    simp only [AV.cells] at hc
    split at hc
    · rename_i ho; exact key _ h ho (Option.some.inj hc).symm
    · cases hc
  | _ => exact key _ h rfl (by simpa [AV.cells, AV.one] using hc.symm)
end

theorem shapeT_true {P : Program} {t : TypeId} {n : Nat} (h : shapeT P t = some (true, n)) (w : World) :
    (isAgg t).run P w = .ok true w ∧ (sizeOf t).run P w = .ok n w := by
  unfold shapeT at h
  cases hu : P.underlying t with
  | none => simp [hu] at h
  | some d =>
    cases hi : P.info? t with
    | none => cases d <;> simp [hu, hi] at h
    | some i =>
      cases d <;> simp [hu, hi] at h <;> subst h <;>
        exact ⟨by simp [isAgg, underlying, program, hu, Sem.run, Bind.bind, Sem.bind, pure, Sem.pure], by simp [sizeOf, typeInfo, program, hi, Sem.run, Bind.bind, Sem.bind, pure]⟩
theorem shapeT_false {P : Program} {t : TypeId} {n : Nat} (h : shapeT P t = some (false, n)) (w : World) :
    (isAgg t).run P w = .ok false w ∧ (sizeOf t).run P w = .ok n w := by
  unfold shapeT at h
  cases hu : P.underlying t with
  | none => simp [hu] at h
  | some d =>
    cases hi : P.info? t with
    | none => cases d <;> simp [hu, hi] at h
    | some i =>
      cases d <;> simp [hu, hi] at h <;> subst h <;>
        exact ⟨by simp [isAgg, underlying, program, hu, Sem.run, Bind.bind, Sem.bind, pure, Sem.pure], by simp [sizeOf, typeInfo, program, hi, Sem.run, Bind.bind, Sem.bind, pure]⟩

theorem run_cellsFrom {P : Program} {w : World} {b off : Nat} (f : Nat → Value) : ∀ (n i : Nat) (acc : Array Value), (∀ j, j < n → w.cell? ⟨b, off + (i + j), none⟩ = some (f (i + j))) →
    (loadCellsFrom ⟨b, off, none⟩ i n acc).run P w = .ok (acc ++ (List.range n).toArray.map (fun j => f (i + j))) w
  | 0, i, acc, _ => by simp [loadCellsFrom, pure, Sem.run]
  | n + 1, i, acc, h => by
    have h0 := h 0 (by omega)
    have hadd : (⟨b, off, none⟩ : Addr).add i = ⟨b, off + i, none⟩ := by unfold Addr.add; split <;> simp_all
    simp only [Nat.add_zero] at h0
    have ih := run_cellsFrom (P := P) f n (i + 1) (acc.push (f i)) (fun j hj => by have := h (j + 1) (by omega); rw [show i + 1 + j = i + (j + 1) by omega]; exact this)
    simp only [loadCellsFrom, load, hadd, Bind.bind, Sem.bind, Sem.run, h0]
    rw [ih]
    congr 1
    apply Array.ext'
    simp [List.range_succ_eq_map, Function.comp_def, Nat.add_assoc, Nat.add_comm 1]

section
variable {P : Program} {σ : Store} {μ : Ghost} {w : World}
/-- A load through the address of cells that stay. -/
theorem load_adr (ha : Agree σ w) {cells : List AV} {x : Value} (h : RepV σ μ (.adr cells) x) {t : TypeId} {n : Nat} (hs : shapeT P t = some (true, n)) (hn : n ≤ cells.length) :
    ∃ y, (Instr.loadAt t x).run P w = .ok y w ∧ RepV σ μ (.agg (cells.take n)) y := by
  obtain ⟨b, off, f, rfl, h1, h2, _⟩ := h.inv_adr
  obtain ⟨s1, s2⟩ := shapeT_true hs w
  have hc := run_cellsFrom (P := P) (w := w) (b := b) (off := off) f n 0 #[] (fun j hj => by
    have : j < cells.length := by omega
    simpa using ha _ _ _ (h1 j _ (List.getElem?_eq_getElem this)))
  refine ⟨.agg ((List.range n).toArray.map f), ?_, ?_⟩
  · simp only [Instr.loadAt, Instr.sureAddr, loadVar, loadCells, Sem.run_bind, s1, s2, Result.andThen_ok, if_true, Sem.run_pure]
    rw [hc]
    simp [Result.andThen_ok, Sem.run_pure]
  · refine .agg _ _ _ (by simp; omega) ?_
    intro i av y hi hy
    have hlt : i < n := by
      have := (Array.getElem?_eq_some_iff.1 hy).1
      simpa using this
    simp [hlt] at hy
    subst hy
    rw [List.getElem?_take] at hi
    simp only [hlt, if_true] at hi
    exact (h2 i av hi).lift
theorem load_adr1 (ha : Agree σ w) {av : AV} {cells : List AV} {x : Value} (h : RepV σ μ (.adr (av :: cells)) x) {t : TypeId} {n : Nat} (hs : shapeT P t = some (false, n)) :
    ∃ y, (Instr.loadAt t x).run P w = .ok y w ∧ RepV σ μ av y := by
  obtain ⟨b, off, f, rfl, h1, h2, _⟩ := h.inv_adr
  obtain ⟨s1, s2⟩ := shapeT_false hs w
  refine ⟨f 0, ?_, (h2 0 av rfl).lift⟩
  have := ha _ _ _ (h1 0 av rfl)
  simp only [Nat.add_zero] at this
  simp [Instr.loadAt, Instr.sureAddr, loadVar, Sem.run_bind, s1, Result.andThen_ok, load, Sem.run, this, pure, Sem.run_pure]

theorem part_agg {l : List AV} {cs : Array Value} (hl : l.length = cs.size) (hr : ∀ (i : Nat) (av : AV) (y : Value), l[i]? = some av → cs[i]? = some y → RepV σ μ av y) {t : TypeId} {off n : Nat} (hs : shapeT P t = some (true, n)) (hn : off + n ≤ l.length) :
    ∃ y, (part t cs off).run P w = .ok y w ∧ RepV σ μ (.agg ((l.drop off).take n)) y := by
  obtain ⟨s1, s2⟩ := shapeT_true hs w
  refine ⟨.agg (cs.extract off (off + n)), by simp [part, Sem.run_bind, s1, s2, Result.andThen_ok, Sem.run_pure], .agg _ _ _ (by simp; omega) ?_⟩
  intro i av y hi hy
  rw [Array.getElem?_extract] at hy
  rw [List.getElem?_take, List.getElem?_drop] at hi
  by_cases h1 : i < n
  · simp only [h1, if_true] at hi
    split at hy
    · exact hr _ _ _ hi hy
    · simp at hy
  · simp [h1] at hi
theorem part_cell {l : List AV} {cs : Array Value} (hl : l.length = cs.size) (hr : ∀ (i : Nat) (av : AV) (y : Value), l[i]? = some av → cs[i]? = some y → RepV σ μ av y) {t : TypeId} {off n : Nat} (hs : shapeT P t = some (false, n)) {av : AV} (hn : l[off]? = some av) :
    ∃ y, (part t cs off).run P w = .ok y w ∧ RepV σ μ av y := by
  obtain ⟨s1, s2⟩ := shapeT_false hs w
  have h1 : off < cs.size := by rw [← hl]; exact (List.getElem?_eq_some_iff.1 hn).1
  refine ⟨cs[off], by simp [part, Sem.run_bind, s1, Result.andThen_ok, h1, Sem.run_pure], hr off av _ hn (by simp [h1])⟩
end
theorem errv_inj_zero (k : Int) : errv k = .nilIface ↔ k = 0 := by
  unfold errv; split <;> simp_all
theorem errv_cases (k : Int) : (k = 0 ∧ errv k = .nilIface) ∨ (k ≠ 0 ∧ errv k = .iface 160 (.int .i64 k)) := by
  by_cases h : k = 0
  · exact .inl ⟨h, by rw [h]; rfl⟩
  · exact .inr ⟨h, errv_pos h⟩


section
variable {P : Program} {n : Nat} {fp : Nat → Prop} {w0 : Start} {σ : Store} {μ : Ghost} {Ds : Nat → Nat → Prop} {A : AS} {a : Act} {w : World}

theorem binI_run {op : BinOp} {t : TypeId} {x y : Operand} {k : IntKind} {i j : Int} {K : AV → Prop} (h : binI op k i j K) :
    ∃ z, (do eqGuard op t x y (.int k i) (.int k j); binOp op t (.int k i) (.int k j)).run P w = .ok z w ∧ K (.v z) := by
  have hg : (eqGuard op t x y (.int k i) (.int k j)).run P w = .ok () w := by cases op <;> rfl
  simp only [Sem.run_bind, hg, Result.andThen_ok]
  cases op <;> simp only [binI] at h <;> try exact h.elim
  case add | sub | mul =>
    cases k <;> simp only at h
    case i64 => exact ⟨_, by simp [binOp, Op.intArith, Sem.run_pure, wrap_in h.1.1], h.2⟩
    all_goals exact ⟨_, by simp [binOp, Op.intArith, Sem.run_pure], h⟩
  case quo =>
    cases k <;> simp only at h
    case i64 => exact ⟨_, by simp [binOp, Op.intDiv, h.1.1, Sem.run_pure, wrap_in h.2.1.1], h.2.2⟩
    all_goals exact ⟨_, by simp [binOp, Op.intDiv, h.1.1, Sem.run_pure], h.2⟩
  case rem => exact ⟨_, by simp [binOp, Op.intDiv, h.1.1, Sem.run_pure], h.2⟩
  case and | or | xor => exact ⟨_, by simp [binOp, Op.intBits, Sem.run_pure], h⟩
  case eql | neq | lss | leq | gtr | geq => exact ⟨_, by simp [binOp, Op.intCmp, Sem.run_pure], h⟩
theorem shI_run {op : BinOp} {t : TypeId} {x y : Operand} {k k' : IntKind} {i j : Int} {K : AV → Prop} (h : shI op k i j K) :
    ∃ z, (do eqGuard op t x y (.int k i) (.int k' j); binOp op t (.int k i) (.int k' j)).run P w = .ok z w ∧ K (.v z) := by
  have hg : (eqGuard op t x y (.int k i) (.int k' j)).run P w = .ok () w := by cases op <;> rfl
  simp only [Sem.run_bind, hg, Result.andThen_ok]
  cases op <;> simp only [shI] at h <;> try exact h.elim
  all_goals exact ⟨_, by simp [binOp, Op.shift, Int.not_lt.2 h.1.1, Sem.run_pure], h.2⟩
theorem equal_of {t : TypeId} {x y : Value} {b : Bool} (h : ∀ d, (Op.equalIn (d + 1) t x y).run P w = .ok b w) : (Op.equal t x y).run P w = .ok b w := h 9999
theorem binB_run {op : BinOp} {t : TypeId} {x y : Operand} {i j : Bool} {K : AV → Prop} (hu : P.underlying t = some .bool) (h : binB op i j K) :
    ∃ z, (do eqGuard op t x y (.bool i) (.bool j); binOp op t (.bool i) (.bool j)).run P w = .ok z w ∧ K (.v z) := by
  have hg : (eqGuard op t x y (.bool i) (.bool j)).run P w = .ok () w := by cases op <;> rfl
  simp only [Sem.run_bind, hg, Result.andThen_ok]
  have he : (Op.equal t (.bool i) (.bool j)).run P w = .ok (i == j) w := by
    refine equal_of fun d => ?_
    simp [Op.equalIn, underlying, program, hu, Sem.run_bind, Result.andThen_ok, Sem.run, pure, Sem.run_pure]
  cases op <;> simp only [binB] at h <;> first | exact h.elim | skip
  · exact ⟨_, by simp [binOp, Sem.run_bind, he, Result.andThen_ok, Sem.run_pure], h⟩
  · exact ⟨_, by simp [binOp, Sem.run_bind, he, Result.andThen_ok, Sem.run_pure], h⟩
theorem binS_run {op : BinOp} {t : TypeId} {x y : Operand} {i j : ByteArray} {K : AV → Prop} (h : binS op i j K) :
    ∃ z, (do eqGuard op t x y (.string i) (.string j); binOp op t (.string i) (.string j)).run P w = .ok z w ∧ K (.v z) := by
  have hg : (eqGuard op t x y (.string i) (.string j)).run P w = .ok () w := by cases op <;> rfl
  simp only [Sem.run_bind, hg, Result.andThen_ok]
  cases op <;> simp only [binS] at h <;> first | exact h.elim | skip
  case add =>
    have h1 : ¬ ((i.size + j.size : Nat) : Int) > IntKind.i64.max := by
      have := h.1.1
      have e : IntKind.i64.max = 9223372036854775807 := by decide
      rw [e]; omega
    exact ⟨_, by simp only [binOp, Op.stringOp, if_neg h1, Sem.run_pure], h.2⟩
  case eql => exact ⟨_, by simp only [binOp, Op.stringOp, Sem.run_pure], h⟩
  case neq => exact ⟨_, by simp only [binOp, Op.stringOp, Sem.run_pure], h⟩
theorem binE_run {op : BinOp} {t : TypeId} {x : Operand} {c : Value} {i j : Int} {K : AV → Prop} (hu : ∃ ms, P.underlying t = some (.interface ms)) (h : binE op i j K) :
    ∃ z, (do eqGuard op t x (.const c) (errv i) (errv j); binOp op t (errv i) (errv j)).run P w = .ok z w ∧ K (.v z) := by
  obtain ⟨ms, hu⟩ := hu
  have hj : j = 0 := by cases op <;> simp only [binE] at h <;> first | exact h.elim | exact h.1.1
  subst hj
  rw [errv_zero]
  have hg : (eqGuard op t x (.const c) (errv i) .nilIface).run P w = .ok () w := by
    rcases errv_cases i with ⟨_, e⟩ | ⟨_, e⟩ <;> rw [e] <;> cases op <;> cases x <;> rfl
  have he : (Op.equal t (errv i) .nilIface).run P w = .ok (i == 0) w := by
    refine equal_of fun d => ?_
    rcases errv_cases i with ⟨h0, e⟩ | ⟨h0, e⟩ <;> rw [e]
    · subst h0; simp [Op.equalIn, underlying, program, hu, Sem.run_bind, Result.andThen_ok, Sem.run, pure, Sem.run_pure]
    · have : (i == 0) = false := by simpa using h0
      simp [Op.equalIn, underlying, program, hu, Sem.run_bind, Result.andThen_ok, Sem.run, pure, Sem.run_pure, this]
  simp only [Sem.run_bind, hg, Result.andThen_ok]
  cases op <;> simp only [binE] at h <;> first | exact h.elim | skip
  · refine ⟨.bool (i == 0), ?_, h.2⟩
    rcases errv_cases i with ⟨h0, e⟩ | ⟨h0, e⟩ <;> rw [e] at he ⊢ <;> simp [binOp, Sem.run_bind, he, Result.andThen_ok, Sem.run_pure]
  · refine ⟨.bool (i != 0), ?_, h.2⟩
    rcases errv_cases i with ⟨h0, e⟩ | ⟨h0, e⟩ <;> rw [e] at he ⊢ <;> simp [binOp, Sem.run_bind, he, Result.andThen_ok, Sem.run_pure, bne]
theorem binN_run {op : BinOp} {t : TypeId} {x y : Operand} {p : Option Addr} {K : AV → Prop} (hu : ∃ e, P.underlying t = some (.pointer e)) (h : binN op p.isNone K) :
    ∃ z, (do eqGuard op t x y (.pointer p) (.pointer none); binOp op t (.pointer p) (.pointer none)).run P w = .ok z w ∧ K (.v z) := by
  have hg : (eqGuard op t x y (.pointer p) (.pointer none)).run P w = .ok () w := by cases op <;> rfl
  obtain ⟨e, hu⟩ := hu
  have he : (Op.equal t (.pointer p) (.pointer none)).run P w = .ok p.isNone w := by
    refine equal_of fun d => ?_
    cases p <;> simp [Op.equalIn, underlying, program, hu, Sem.run_bind, Result.andThen_ok, Sem.run, pure, Sem.run_pure]
  simp only [Sem.run_bind, hg, Result.andThen_ok]
  cases op <;> simp only [binN] at h <;> first | exact h.elim | skip
  · exact ⟨_, by simp [binOp, Sem.run_bind, he, Result.andThen_ok, Sem.run_pure], h⟩
  · refine ⟨.bool (neg p.isNone), ?_, h⟩
    simp [binOp, Sem.run_bind, he, Result.andThen_ok, Sem.run_pure, neg_eq]

theorem rep_map_v {l : List AV} {xs : List Value} {cs : Array Value} (hl : l.length = cs.size) (he : l = xs.map .v) (hr : ∀ (i : Nat) (av : AV) (y : Value), l[i]? = some av → cs[i]? = some y → RepV σ μ av y) : cs = xs.toArray := by
  subst he
  apply Array.ext
  · simpa using hl.symm
  · intro i h1 h2
    have h3 : i < xs.length := by simpa using h2
    have := hr i (.v xs[i]) cs[i] (by simp [h3]) (by simp [h1])
    rw [this.inv_v]; simp

theorem binV_sound {op : BinOp} {t : TypeId} {x y : Operand} {u v : Value} {au av : AV} {K : AV → Prop} (hu : RepV σ μ au u) (hv : RepV σ μ av v) (h : binV P op t (isConst y) au av K) :
    ∃ z az, (do eqGuard op t x y u v; binOp op t u v).run P w = .ok z w ∧ RepV σ μ az z ∧ K az := by
  have fin : ∀ {z : Value}, (do eqGuard op t x y u v; binOp op t u v).run P w = .ok z w ∧ K (.v z) → ∃ z az, (do eqGuard op t x y u v; binOp op t u v).run P w = .ok z w ∧ RepV σ μ az z ∧ K az := fun ⟨h1, h2⟩ => ⟨_, _, h1, .v _ _, h2⟩
  unfold binV at h
  split at h
  · split at h
    · obtain rfl := hu.inv_v; obtain rfl := hv.inv_v
      split at h
      · exact fin (shI_run h).choose_spec
      · obtain ⟨h1, h2⟩ := tt_out h
        obtain rfl := kEq_out h1
        exact fin (binI_run h2).choose_spec
    · exact h.elim
  · split at h
    · obtain rfl := hu.inv_v; obtain rfl := hv.inv_v
      obtain ⟨h1, h2⟩ := tt_out h
      exact fin (binB_run (isBool_out h1) h2).choose_spec
    · exact h.elim
  · split at h
    · obtain rfl := hu.inv_v; obtain rfl := hv.inv_v
      exact fin (binS_run h).choose_spec
    · exact h.elim
  · split at h
    · obtain rfl := hu.inv_v; obtain rfl := hv.inv_v
      obtain ⟨h1, h2⟩ := tt_out h
      exact fin (binN_run (p := none) (isPtr_out h1) h2).choose_spec
    · exact h.elim
  · split at h
    · obtain ⟨b, rfl, _⟩ := hu.inv_box; obtain rfl := hv.inv_v
      obtain ⟨h1, h2⟩ := tt_out h
      exact fin (binN_run (p := some _) (isPtr_out h1) h2).choose_spec
    · exact h.elim
  · split at h
    · obtain rfl := hu.inv_err; obtain rfl := hv.inv_err
      obtain ⟨h0, h⟩ := tt_out h
      obtain ⟨h1, h2⟩ := tt_out h
      cases y with
      | const c => exact fin (binE_run (isIface_out h1) h2).choose_spec
      | _ => cases h0
    · exact h.elim
  · split at h
    · obtain ⟨xs, ys, b, h1, h2, h3, h4⟩ := h
      obtain ⟨cs, rfl, hl, hr⟩ := hu.inv_agg
      obtain ⟨ds, rfl, hl', hr'⟩ := hv.inv_agg
      rw [rep_map_v hl h1 hr, rep_map_v hl' h2 hr']
      exact ⟨_, _, h3 x y w, .v _ _, h4⟩
    · exact h.elim
  · exact h.elim

theorem bytes_run {l : List UInt8} {ao : Option Addr} {b off cap : Nat} {src e dst : TypeId} (hs : P.underlying src = some (.slice e)) (he : P.underlying e = some (.int .u8)) (hd : P.underlying dst = some .string) (hao : l = [] ∨ ao = some ⟨b, off, none⟩)
    (hst : ∀ i c, l[i]? = some c → w.cell? ⟨b, off + i, none⟩ = some (.int .u8 (c.toNat : Int))) : (convert src dst (.slice ao l.length cap)).run P w = .ok (.string ⟨l.toArray⟩) w := by
  rcases hao with rfl | rfl
  · cases ao with
    | none => rw [run_convert_bytes_nil (P := P) (w := w) src e hs he _ _ dst hd]; rfl
    | some ad =>
      rw [run_convert_bytes_string w src dst e _ _ _ hs he hd]
      simp [Conv.bytesToString, loadCells, loadCellsFrom, Sem.run_bind, Sem.run_pure, Result.andThen_ok]; rfl
  · rw [run_convert_bytes_arg w src e hs he b off l.length cap (l.map fun c => (c.toNat : Int)) (by simp) (fun i hi => by
      rw [hst i l[i] (by simp [hi])]; simp [hi]) dst hd]
    congr 2
    simp [strOfNums, Function.comp_def]
theorem add_none (b off n : Nat) : (⟨b, off, none⟩ : Addr).add n = ⟨b, off + n, none⟩ := by unfold Addr.add; split <;> simp_all
theorem sizeOf_of_shape {t : TypeId} {g : Bool} {n : Nat} (h : shapeT P t = some (g, n)) (w : World) : (sizeOf t).run P w = .ok n w := by
  cases g with
  | true => exact (shapeT_true h w).2
  | false => exact (shapeT_false h w).2
/-- An operation that is a value's own making. -/
theorem val_run {ρ : Operand → Value} {o : Oper} {s : Sem Value} (he : execOp ρ o = (do pure (.value (← s)))) {x : Value} (h : s.run P w = .ok x w) : (execOp ρ o).run P w = .ok (.value x) w := by
  rw [he]; simp [Sem.run_bind, h, Result.andThen_ok, Sem.run_pure]

/-- A slice's rows can be read. -/
theorem rows_out (h : Rel n fp w0 σ μ Ds A a w) {v : AV} {x : Value} (hx : RepV σ μ v x) {K : Nat → List (List AV) → Prop} (hk : rowsK v A.mem K) :
    ∃ sz rows ao cap b off, K sz rows ∧ x = .slice ao rows.length cap ∧ (rows = [] ∨ ao = some ⟨b, off, none⟩) ∧ (∀ r, r ∈ rows → r.length = sz) ∧
      ∀ (i j : Nat) (r : List AV) (av : AV), rows[i]? = some r → r[j]? = some av → ∃ y, w.cell? ⟨b, off + i * sz + j, none⟩ = some y ∧ RepV σ μ av y ∧ y.oneCell' = true := by
  unfold rowsK at hk
  split at hk
  · obtain ⟨ao, cap, b, off, f, e, h1, h2, h3, h4, h5, h6, h7, h8⟩ := hx.inv_sl
    exact ⟨_, _, ao, cap, b, off, hk, e, h3, h4, fun i j r av g1 g2 => ⟨f i j, h.agree _ _ _ (h5 i j r av g1 g2), (h6 i j r av g1 g2).lift, h7 i j r av g1 g2⟩⟩
  · rename_i id g k
    obtain ⟨r, hr, hk⟩ := nthK_out hk
    split at hk
    · rename_i fr E s g' rows
      obtain ⟨hg0, hk2⟩ := tt_out hk
      clear hk
      have hg := Nat.eq_of_beq_eq_true hg0
      subst hg
      obtain ⟨ao, m, cap, an, e, k1, k2, k3, k4, k5⟩ := hx.inv_arr
      obtain ⟨ao', cap', xs, q1, q2, q3, q4, q5, q6⟩ := h.mem.ok id _ hr
      rw [k4] at q1
      obtain rfl := Option.some.inj q1
      obtain ⟨_, k5⟩ := k5
      obtain ⟨rfl, rfl, rfl⟩ := k5 rfl
      have hlen : (rows.take k).length = k := by simp; omega
      rcases q2.2 with ⟨e1, e2⟩ | ⟨b, cp, cur, e1, _, hb, hle, hcm, hcs, htake⟩
      · simp only [Value.slice.injEq] at e1
        obtain ⟨rfl, e3, e4⟩ := e1
        have : rows = [] := List.eq_nil_of_length_eq_zero e2
        subst this
        exact ⟨s, _, none, cap', 0, 0, hk2, by rw [hlen]; exact e, .inl (by simp), by simp, fun i j r av g1 => by simp at g1⟩
      · simp only [Value.slice.injEq] at e1
        obtain ⟨rfl, _, rfl⟩ := e1
        refine ⟨s, _, _, cap', b, 0, hk2, by rw [hlen]; exact e, .inr rfl, fun r hr => q3 r (List.mem_of_mem_take hr), fun i j r av g1 g2 => ?_⟩
        rw [List.getElem?_take] at g1
        split at g1
        · obtain ⟨y, y1, y2, y3⟩ := q4 i j r av g1 g2
          rw [← htake, List.getElem?_take] at y1
          split at y1
          · refine ⟨y, ?_, ?_, y3⟩
            · simp only [World.cell?, hb]; simpa [Nat.zero_add] using y1
            · cases fr with
              | true => exact RepV.lift y2
              | false => exact y2
          · cases y1
        · cases g1
    · exact hk.elim
  · exact hk.elim
theorem put_cells : ∀ (vs : List Value) (off k : Nat) (cs : Array Value), off + k + vs.length ≤ cs.size →
    ((vs.zipIdx k).foldl (fun cs (p : Value × Nat) => cs.setIfInBounds (off + p.2) p.1) cs).size = cs.size ∧
    ∀ n, ((vs.zipIdx k).foldl (fun cs (p : Value × Nat) => cs.setIfInBounds (off + p.2) p.1) cs)[n]? = if off + k ≤ n ∧ n < off + k + vs.length then vs[n - (off + k)]? else cs[n]?
  | [], off, k, cs, _ => ⟨rfl, fun n => by rw [if_neg (by intro h; simp at h; omega)]; rfl⟩
  | v :: vs, off, k, cs, h => by
    simp only [List.length_cons] at h
    simp only [List.zipIdx_cons, List.foldl_cons]
    obtain ⟨h1, h2⟩ := put_cells vs off (k + 1) (cs.setIfInBounds (off + k) v) (by simp; omega)
    refine ⟨by rw [h1]; simp, fun n => ?_⟩
    rw [h2 n, Array.getElem?_setIfInBounds]
    by_cases g1 : off + (k + 1) ≤ n ∧ n < off + (k + 1) + vs.length
    · rw [if_pos g1, if_pos (by simp; omega), show n - (off + k) = n - (off + (k + 1)) + 1 by omega, List.getElem?_cons_succ]
    · rw [if_neg g1]
      by_cases g2 : off + k = n
      · subst g2
        rw [if_pos rfl, if_pos (by omega), if_pos (by simp), Nat.sub_self]
        rfl
      · rw [if_neg g2, if_neg (by simp; omega)]

theorem splice_none {fp : Option (Nat × Bool × Nat)} {c : Option (List AV)} : splice1 fp c none = none := by unfold splice1; split <;> simp_all
theorem fillAV_none {pl : Nat → Option (Nat × Bool × Nat)} {ev : Operand → AV} : ∀ ps, fillAV pl ev none ps = none
  | [] => rfl
  | (p1, p2) :: ps => by simp only [fillAV, splice_none]; exact fillAV_none ps
theorem fill_av (h : Rel n fp w0 σ μ Ds A a w) {pl : Nat → Option (Nat × Bool × Nat)} {place : Nat → Option (Nat × Nat)} (hpl : ∀ i off b k, pl i = some (off, b, k) → place i = some (off, k)) :
    ∀ (parts : List (Nat × Operand)) (l : List AV) (cs : Array Value) (l' : List AV), cs.size = l.length → (∀ (i : Nat) (av : AV), l[i]? = some av → ∃ y, cs[i]? = some y ∧ RepV σ μ av y) → fillAV pl A.eval (some l) parts = some l' →
    ∃ cs', Instr.fill place cs (parts.map fun p => (p.1, a.eval p.2)) = some cs' ∧ cs'.size = l'.length ∧ (∀ (i : Nat) (av : AV), l'[i]? = some av → ∃ y, cs'[i]? = some y ∧ RepV σ μ av y)
  | [], l, cs, l', hl, hr, hf => by
    simp only [fillAV, Option.some.injEq] at hf
    subst hf
    exact ⟨cs, rfl, hl, hr⟩
  | (i, x) :: parts, l, cs, l', hl, hr, hf => by
    simp only [fillAV] at hf
    cases hs : splice1 (pl i) (A.eval x).cells (some l) with
    | none => rw [hs, fillAV_none] at hf; cases hf
    | some l1 =>
      rw [hs] at hf
      unfold splice1 at hs
      split at hs
      · rename_i off b k c l0 hfp hc hl0
        simp only [Option.some.injEq] at hl0
        subst hl0
        split at hs
        · rename_i hcond
          obtain rfl := Option.some.inj hs
          obtain ⟨hck, hfit⟩ := hcond
          obtain ⟨k1, k2, _⟩ := (h.eval x).cells hc
          obtain ⟨p1, p2⟩ := put_cells (a.eval x).cells.toList off 0 cs (by simp [k1]; omega)
          have hfold : (a.eval x).cells.zipIdx.foldl (fun cs (p : Value × Nat) => cs.setIfInBounds (off + p.2) p.1) cs = (((a.eval x).cells.toList.zipIdx 0).foldl (fun cs (p : Value × Nat) => cs.setIfInBounds (off + p.2) p.1) cs) := by
            rw [← Array.foldl_toList]; simp
          obtain ⟨cs', g1, g2, g3⟩ := fill_av h hpl parts (l.take off ++ c ++ l.drop (off + k)) _ l' (by rw [p1, hl]; simp; omega) (by
            intro n av hn
            rw [p2 n]
            simp only [Nat.add_zero, Array.length_toList, k1]
            rw [List.append_assoc, List.getElem?_append] at hn
            have e1 : (l.take off).length = off := by simp; omega
            rw [e1] at hn
            split at hn
            · rename_i hlt
              rw [if_neg (by omega)]
              rw [List.getElem?_take, if_pos hlt] at hn
              exact hr n av hn
            · rename_i hge
              rw [List.getElem?_append] at hn
              split at hn
              · rename_i h3
                rw [if_pos (by omega), Array.getElem?_toList]
                exact k2 _ av hn
              · rename_i h3
                rw [if_neg (by omega)]
                rw [List.getElem?_drop] at hn
                rw [show off + k + (n - off - c.length) = n by omega] at hn
                exact hr n av hn) hf
          refine ⟨cs', ?_, g2, g3⟩
          rw [← hfold] at g1
          simp only [List.map_cons, Instr.fill, hpl i off b k hfp]
          rw [if_neg (by rw [k1, hck]; simp; omega)]
          exact g1
        · cases hs
      · cases hs
theorem places_run (fs : List Field) (hall : ∀ f, f ∈ fs → (P.info? f.type).isSome = true) : (fs.mapM fun f => (do pure (f.offset, ← sizeOf f.type) : Sem (Nat × Nat))).run P w = .ok (fs.map fun f => (f.offset, ((P.info? f.type).map (·.size)).getD 0)) w := by
  induction fs with
  | nil => simp [Sem.run_pure]
  | cons f fs ih =>
    have h1 := hall f (List.mem_cons_self ..)
    cases hi : P.info? f.type with
    | none => rw [hi] at h1; cases h1
    | some i =>
      have := ih (fun f hf => hall f (List.mem_cons_of_mem _ hf))
      have hsz : (sizeOf f.type).run P w = .ok i.size w := by simp [sizeOf, typeInfo, program, hi, Sem.run_bind, Sem.run, Result.andThen_ok, pure, Sem.run_pure]
      simp only [List.mapM_cons, Sem.run_bind, hsz, Result.andThen_ok, Sem.run_pure, this, List.map_cons, hi, Option.map_some, Option.getD_some]
theorem shape_size {t : TypeId} {b : Bool} {k : Nat} (hsh : shapeT P t = some (b, k)) : ((P.info? t).map (·.size)).getD 0 = k := by
  unfold shapeT at hsh
  cases hu2 : P.underlying t with
  | none => simp [hu2] at hsh
  | some dd => cases hi2 : P.info? t with
    | none => cases dd <;> simp [hu2, hi2] at hsh
    | some ii => cases dd <;> simp [hu2, hi2] at hsh <;> simp [hsh]
end
end Go.Proofs.Ytimfnpjcedjmiaa
