/-
  Engine G, part 11: the law of the operations that make memory, or write into it: append, maps, strings.
-/
import Derived.Test.YtimfnpjcedjmiaaG10
import Derived.Laws.OwnMore
import Derived.Laws.IdiomStrings
namespace Go.Proofs.Ytimfnpjcedjmiaa
open Go.RowKit
set_option linter.unusedSimpArgs false
set_option linter.unusedVariables false

section
variable {P : Program} {n : Nat} {fp : Nat → Prop} {w0 : Start} {σ : Store} {μ : Ghost} {Ds : Nat → Nat → Prop} {A : AS} {a : Act} {w : World} {K : MK}
  {dst : Option Tmp} {ty : TypeId} {pos : String} {after : Array Edge} {guard : Option (Nat × Bool)} {Q : Exit → Act → World → Prop}

theorem rowsV_out {sz : Nat} {fr : List (Nat × AV)} : ∀ {l : List (Nat × Operand)} {i : Nat} {K : List (List AV) → Prop}, rowsV sz fr i l K → ∃ rs, K rs ∧ rs.length = l.length ∧ (∀ r, r ∈ rs → r.length = sz) ∧
    (∀ (j : Nat) (p : Nat × Operand), l[j]? = some p → p.1 = i + j) ∧ ∀ (j : Nat) (r : List AV), rs[j]? = some r → ∃ x, l[j]? = some (i + j, x) ∧ (evO fr x).cells = some r
  | [], i, K, h => ⟨[], h, rfl, by simp, by simp, by simp⟩
  | (j, x) :: l, i, K, h => by
    obtain ⟨h0, hh⟩ := tt_out h
    clear h
    have h1 := Nat.eq_of_beq_eq_true h0
    subst h1
    simp only [evV_eq] at hh
    obtain ⟨r, h2, h⟩ := cellsK_out hh
    obtain ⟨h3, h4⟩ := tt_out h
    rw [fzL_eq] at h4
    obtain ⟨rs, h7, h8, h9, h10, h11⟩ := rowsV_out h4
    refine ⟨r :: rs, h7, by simp [h8], fun r' hr' => ?_, fun k p hk => ?_, fun k r' hk => ?_⟩
    · rcases List.mem_cons.1 hr' with rfl | hr'
      · exact Nat.eq_of_beq_eq_true h3
      · exact h9 r' hr'
    · cases k with
      | zero => simp at hk; subst hk; rfl
      | succ k => rw [h10 k p (by simpa using hk)]; omega
    · cases k with
      | zero => simp at hk; subst hk; exact ⟨x, rfl, h2⟩
      | succ k =>
        obtain ⟨y, y1, y2⟩ := h11 k r' (by simpa using hk)
        exact ⟨y, by simp only [List.getElem?_cons_succ, y1]; congr 2; omega, y2⟩
/-- The cells of a literal. -/
theorem fill_rows (h : Rel n fp w0 σ μ Ds A a w) {sz : Nat} : ∀ (parts : List (Nat × Operand)) (i : Nat) (rs : List (List AV)) (cs : Array Value), (i + parts.length) * sz ≤ cs.size → rs.length = parts.length → (∀ r, r ∈ rs → r.length = sz) →
    (∀ (j : Nat) (p : Nat × Operand), parts[j]? = some p → p.1 = i + j) → (∀ (j : Nat) (r : List AV), rs[j]? = some r → ∃ x, parts[j]? = some (i + j, x) ∧ (evO A.fr x).cells = some r) →
    ∃ cs', Instr.fill (fun i => some (i * sz, sz)) cs (parts.map fun p => (p.1, a.eval p.2)) = some cs' ∧ cs'.size = cs.size ∧ (∀ k, k < i * sz → cs'[k]? = cs[k]?) ∧
      ∀ (j q : Nat) (r : List AV) (av : AV), rs[j]? = some r → r[q]? = some av → ∃ y, cs'[(i + j) * sz + q]? = some y ∧ RepV σ μ av y ∧ y.oneCell' = true
  | [], i, rs, cs, hle, hl, hrow, hp, hr => by
    have : rs = [] := List.eq_nil_of_length_eq_zero hl
    subst this
    exact ⟨cs, rfl, rfl, fun _ _ => rfl, fun j q r av g => by simp at g⟩
  | (j0, x) :: parts, i, rs, cs, hle, hl, hrow, hp, hr => by
    cases rs with
    | nil => simp at hl
    | cons r rs =>
      have hj0 : j0 = i := hp 0 _ rfl
      subst hj0
      obtain ⟨x', hx', hc⟩ := hr 0 r rfl
      simp only [List.getElem?_cons_zero, Nat.add_zero, Option.some.injEq, Prod.mk.injEq, true_and] at hx'
      subst hx'
      obtain ⟨k1, k2, k3⟩ := (h.ev x).cells hc
      have hrl := hrow r (List.mem_cons_self ..)
      have hle' : (j0 + 1 + parts.length) * sz ≤ cs.size := by simp only [List.length_cons] at hle; rw [show j0 + 1 + parts.length = j0 + (parts.length + 1) by omega]; exact hle
      have hle2 : j0 * sz + sz ≤ cs.size := by
        have : (j0 + 1) * sz ≤ (j0 + 1 + parts.length) * sz := Nat.mul_le_mul_right _ (by omega)
        rw [Nat.add_mul] at this; omega
      obtain ⟨p1, p2⟩ := put_cells (a.eval x).cells.toList (j0 * sz) 0 cs (by simp [k1]; omega)
      have hfold : (a.eval x).cells.zipIdx.foldl (fun cs (p : Value × Nat) => cs.setIfInBounds (j0 * sz + p.2) p.1) cs = (((a.eval x).cells.toList.zipIdx 0).foldl (fun cs (p : Value × Nat) => cs.setIfInBounds (j0 * sz + p.2) p.1) cs) := by
        rw [← Array.foldl_toList]; simp
      obtain ⟨cs', g1, g2, g3, g4⟩ := fill_rows h parts (j0 + 1) rs _ (by rw [p1]; exact hle') (by simpa using hl) (fun r' hr' => hrow r' (List.mem_cons_of_mem _ hr')) (fun k p hk => by rw [hp (k + 1) p (by simpa using hk)]; omega) (fun k r' hk => by
        obtain ⟨y, y1, y2⟩ := hr (k + 1) r' (by simpa using hk)
        exact ⟨y, by simp only [List.getElem?_cons_succ] at y1; rw [y1]; congr 2; omega, y2⟩)
      refine ⟨cs', ?_, by rw [g2, p1], fun k hk => ?_, fun k q r' av e1 e2 => ?_⟩
      · rw [← hfold] at g1
        simp only [List.map_cons, Instr.fill]
        rw [if_neg (by rw [k1, hrl]; simp; omega)]
        exact g1
      · have hk' : k < (j0 + 1) * sz := by rw [Nat.add_mul]; omega
        rw [g3 k hk', p2 k, if_neg (by omega)]
      · cases k with
        | zero =>
          simp at e1
          subst e1
          obtain ⟨y, y1, y2⟩ := k2 q av e2
          have hq : q < sz := by rw [← hrl]; exact (List.getElem?_eq_some_iff.1 e2).1
          refine ⟨y, ?_, y2, k3 y (by simpa using Array.mem_of_getElem? y1)⟩
          have hlt : (j0 + 0) * sz + q < (j0 + 1) * sz := by rw [Nat.add_zero, Nat.add_mul]; omega
          rw [g3 _ hlt, p2, if_pos (by simp [k1, hrl]; omega), Nat.add_zero, Nat.add_zero, Nat.add_sub_cancel_left, Array.getElem?_toList]
          exact y1
        | succ k =>
          obtain ⟨y, y1, y2, y3⟩ := g4 k q r' av (by simpa using e1) e2
          exact ⟨y, by rw [show j0 + (k + 1) = j0 + 1 + k by omega]; exact y1, y2, y3⟩

/-- What is appended. -/
theorem src_out (h : Rel n fp w0 σ μ Ds A a w) {v : AV} {x : Value} (hx : RepV σ μ v x) {t : TypeId} {sz : Nat} {K : Bool → List (List AV) → Prop} (hk : srcK P t sz v A.mem K) :
    ∃ free rows news, K free rows ∧ Src P sz t x rows.length news w ∧ (∀ r, r ∈ rows → r.length = sz) ∧
      ∀ (i j : Nat) (r : List AV) (av : AV), rows[i]? = some r → r[j]? = some av → ∃ y, news[i * sz + j]? = some y ∧ RepV σ (gOf free μ) av y ∧ y.oneCell' = true := by
  -- rows that can be read
  have main : ∀ (free : Bool) (rows : List (List AV)) (ao : Option Addr) (cap b off : Nat) (e' : TypeId), P.underlying t = some (.slice e') → K free rows → x = .slice ao rows.length cap → (rows = [] ∨ ao = some ⟨b, off, none⟩) → (∀ r, r ∈ rows → r.length = sz) →
      (∀ (i j : Nat) (r : List AV) (av : AV), rows[i]? = some r → r[j]? = some av → ∃ y, w.cell? ⟨b, off + i * sz + j, none⟩ = some y ∧ RepV σ (gOf free μ) av y ∧ y.oneCell' = true) →
      ∃ free rows news, K free rows ∧ Src P sz t x rows.length news w ∧ (∀ r, r ∈ rows → r.length = sz) ∧
        ∀ (i j : Nat) (r : List AV) (av : AV), rows[i]? = some r → r[j]? = some av → ∃ y, news[i * sz + j]? = some y ∧ RepV σ (gOf free μ) av y ∧ y.oneCell' = true := by
    intro free rows ao cap b off e' hu hK hx hao hrow hcell
    let f : Nat → Value := fun o => (w.cell? ⟨b, off + o, none⟩).getD undef
    have get : ∀ n, n < rows.length * sz → ∃ y, w.cell? ⟨b, off + n, none⟩ = some y ∧ y.oneCell' = true ∧ f n = y := by
      intro n hn
      have hpos : 0 < sz := by rcases Nat.eq_zero_or_pos sz with e | e; subst e; simp at hn; exact e
      have hlt : n / sz < rows.length := Nat.div_lt_of_lt_mul (by rw [Nat.mul_comm]; exact hn)
      have hr := hrow _ (List.getElem_mem hlt)
      have hm : n % sz < rows[n / sz].length := by rw [hr]; exact Nat.mod_lt _ hpos
      obtain ⟨y, y1, y2, y3⟩ := hcell (n / sz) (n % sz) _ _ (List.getElem?_eq_getElem hlt) (List.getElem?_eq_getElem hm)
      have e : off + n / sz * sz + n % sz = off + n := by rw [Nat.add_assoc, Nat.mul_comm, Nat.div_add_mod]
      rw [e] at y1
      exact ⟨y, y1, y3, by simp only [f, y1]; rfl⟩
    let news := (List.range (rows.length * sz)).map f
    have hnl : news.length = rows.length * sz := by simp [news]
    have hnews : ∀ j u, news[j]? = some u → j < rows.length * sz ∧ w.cell? ⟨b, off + j, none⟩ = some u ∧ u.oneCell' = true := fun j u hj => by
      have hlt : j < rows.length * sz := by rw [← hnl]; exact (List.getElem?_eq_some_iff.1 hj).1
      obtain ⟨y, y1, y2, y3⟩ := get j hlt
      simp [news, hlt] at hj
      rw [← hj, y3]; exact ⟨hlt, y1, y2⟩
    refine ⟨free, rows, news, hK, ?_, hrow, fun i j r av g1 g2 => ?_⟩
    · rw [hx]
      rcases hao with rfl | rfl
      · have : news = [] := List.eq_nil_of_length_eq_zero (by rw [hnl]; simp)
        rw [this]
        refine ⟨.inl ⟨e', hu⟩, fun _ => rfl, ?_, ?_, by simp, by simp⟩ <;> cases ao <;> simp [Builtin.firstCells, loadCells, loadCellsFrom, Sem.run_pure]
      · exact Src.ofSlice w hu ⟨b, off, none⟩ rows.length cap news hnl (fun j u hj => by rw [add_none]; exact (hnews j u hj).2.1) (fun u hu => by obtain ⟨j, hj, rfl⟩ := List.mem_iff_getElem.1 hu; exact (hnews j _ (List.getElem?_eq_getElem hj)).2.2)
    · obtain ⟨y, y1, y2, y3⟩ := hcell i j r av g1 g2
      have hj : j < sz := by rw [← hrow r (List.mem_of_getElem? g1)]; exact (List.getElem?_eq_some_iff.1 g2).1
      have hi : i < rows.length := (List.getElem?_eq_some_iff.1 g1).1
      have hlt : i * sz + j < rows.length * sz := by
        have : (i + 1) * sz ≤ rows.length * sz := Nat.mul_le_mul_right _ hi
        rw [Nat.add_mul] at this; omega
      obtain ⟨y', z1, z2, z3⟩ := get _ hlt
      rw [← Nat.add_assoc, y1] at z1
      obtain rfl := Option.some.inj z1
      exact ⟨y, by simp [news, hlt, z3], y2, y3⟩
  unfold srcK at hk
  split at hk
  · obtain ⟨h1, hk1⟩ := tt_out hk
    obtain ⟨h2, hK⟩ := tt_out hk1
    have hs := Nat.eq_of_beq_eq_true h2
    subst hs
    obtain ⟨e, he⟩ := Option.isSome_iff_exists.1 h1
    obtain ⟨ao, cap, b, off, f, e', g1, g2, g3, g4, g5, g6, g7, g8⟩ := hx.inv_sl
    exact main true _ ao cap b off e (elemT_some he) hK e' g3 g4 (fun i j r av q1 q2 => ⟨f i j, h.agree _ _ _ (g5 i j r av q1 q2), g6 i j r av q1 q2, g7 i j r av q1 q2⟩)
  · rename_i id g m
    obtain ⟨h1, hk1⟩ := tt_out hk
    obtain ⟨e, he⟩ := Option.isSome_iff_exists.1 h1
    obtain ⟨r, hr, hk2⟩ := nthK_out hk1
    split at hk2
    · rename_i fr E s g' rows
      obtain ⟨hg0, hk3⟩ := tt_out hk2
      obtain ⟨hs0, hK⟩ := tt_out hk3
      have hg := Nat.eq_of_beq_eq_true hg0
      have hs := Nat.eq_of_beq_eq_true hs0
      subst hg hs
      obtain ⟨ao, mm, cap, an, e', k1, k2, k3, k4, k5⟩ := hx.inv_arr
      obtain ⟨ao', cap', xs, q1, q2, q3, q4, q5, q6⟩ := h.mem.ok id _ hr
      rw [k4] at q1
      obtain rfl := Option.some.inj q1
      obtain ⟨_, k5⟩ := k5
      obtain ⟨rfl, rfl, rfl⟩ := k5 rfl
      have hlen : (rows.take m).length = m := by simp; omega
      rcases q2.2 with ⟨e1, e2⟩ | ⟨b, cp, cur, e1, _, hb, hle, hcm, hcs, htake⟩
      · simp only [Value.slice.injEq] at e1
        obtain ⟨rfl, e3, e4⟩ := e1
        have : rows = [] := List.eq_nil_of_length_eq_zero e2
        subst this
        exact main fr _ none cap' 0 0 e (elemT_some he) hK (by rw [hlen]; exact e') (.inl (by simp)) (by simp) (fun i j r av g1 => by simp at g1)
      · simp only [Value.slice.injEq] at e1
        obtain ⟨rfl, _, rfl⟩ := e1
        refine main fr _ _ cap' b 0 e (elemT_some he) hK (by rw [hlen]; exact e') (.inr rfl) (fun r hr => q3 r (List.mem_of_mem_take hr)) (fun i j r av g1 g2 => ?_)
        rw [List.getElem?_take] at g1
        split at g1
        · obtain ⟨y, y1, y2, y3⟩ := q4 i j r av g1 g2
          rw [← htake, List.getElem?_take] at y1
          split at y1
          · exact ⟨y, by simp only [World.cell?, hb]; simpa [Nat.zero_add] using y1, y2, y3⟩
          · cases y1
        · cases g1
    · exact hk2.elim
  · obtain ⟨h1, hK⟩ := tt_out hk
    obtain ⟨e, he⟩ := Option.isSome_iff_exists.1 h1
    obtain rfl := hx.inv_v
    exact ⟨true, [], [], hK, Src.ofNil w (elemT_some he) 0, by simp, fun i j r av g => by simp at g⟩
  · rename_i s
    obtain ⟨h1, hk1⟩ := tt_out hk
    obtain ⟨h2, hK⟩ := tt_out hk1
    have hs := Nat.eq_of_beq_eq_true h2
    subst hs
    obtain rfl := hx.inv_v
    have hl : (byteRows s).length = s.size := by simp [byteRows]
    refine ⟨true, byteRows s, byteCells s, hK, by rw [hl]; exact Src.ofString w (isStr_out h1) s, fun r hr => ?_, fun i j r av g1 g2 => ?_⟩
    · obtain ⟨c, _, rfl⟩ := List.mem_map.1 hr; rfl
    · simp only [byteRows, List.getElem?_map, Option.map_eq_some_iff] at g1
      obtain ⟨c, hc, rfl⟩ := g1
      cases j with
      | zero =>
        simp only [List.getElem?_cons_zero, Option.some.injEq] at g2
        subst g2
        exact ⟨_, by simp only [byteCells, Nat.mul_one, Nat.add_zero, List.getElem?_map, hc, Option.map_some], .v _ _, rfl⟩
      | succ j => simp at g2
  · exact hk.elim
end
end Go.Proofs.Ytimfnpjcedjmiaa
