/-
  Engine G, part 7: append, as the world sees it; stores into a row.
-/
import Derived.Test.YtimfnpjcedjmiaaG6
import Derived.Deep.AppendSrc
namespace Go.Proofs.Ytimfnpjcedjmiaa
open Go.RowKit
set_option linter.unusedSimpArgs false
set_option linter.unusedVariables false
section
variable {P : Program} {w : World}
theorem ownsRow_cell {E sz n m cap : Nat} {ao : Option Addr} {xs : List Value} {k o : Nat} {x : Value} (h : w.ownsRow 0 E sz (.slice ao m cap) n xs) (hk : blkA ao = some k) (hx : xs[o]? = some x) : w.cell? ⟨k, o, none⟩ = some x := by
  rcases h.2 with ⟨e, _⟩ | ⟨g, cap, cur, e, _, hg, h1, h2, h3, h4⟩
  · simp only [Value.slice.injEq] at e; obtain ⟨rfl, _, _⟩ := e; cases hk
  · simp only [Value.slice.injEq] at e
    obtain ⟨rfl, _, _⟩ := e
    simp only [blkA, Option.some.injEq] at hk
    subst hk
    rw [← h4, List.getElem?_take] at hx
    split at hx
    · simp [World.cell?, hg]; simpa using hx
    · cases hx
/-- An append to a row of one's own. -/
theorem append_own (t tx ty e : TypeId) (i : TypeInfo) (z : Value) (size : Nat) (ht : P.underlying t = some (.slice e)) (hi : P.info? e = some i) (hz : i.zero = some z)
    (hsize : i.size = size) (hzs : z.cells.size = size) (hsz : 0 < size) (ao : Option Addr) (n cap : Nat) (xs : List Value) (hown : w.ownsRow 0 e size (.slice ao n cap) n xs)
    (x : Value) (m : Nat) (news : List Value) (hs : Src P size tx x m news w) (h63 : n + m ≤ maxLen) (hbytes : (n + m) * i.bytes ≤ 140737488355328) :
    ∃ ao' cap' w', (Builtin.append_ #[t, tx] ty #[.slice ao n cap, x]).run P w = .ok (.slice ao' (n + m) cap') w' ∧ w'.ownsRow 0 e size (.slice ao' (n + m) cap') (n + m) (xs ++ news) ∧ w.grownBy w' (blkA ao) ∧
      (blkA ao' = blkA ao ∨ ∃ k, blkA ao' = some k ∧ w.heap.size ≤ k ∧ ∀ b, b < w.heap.size → w'.heap[b]? = w.heap[b]?) ∧ n + m ≤ cap' ∧ cap' ≤ maxLen := by
  subst hsize
  have hlen : (xs ++ news).length = (n + m) * i.size := by rw [List.length_append, hown.1, hs.newsLen, Nat.add_mul]
  have grown : ∀ (old : Nat), old < n + m → ∀ (row : Option Nat), (Builtin.firstCells i.size n (.slice ao n old)).run P w.drew = .ok xs.toArray w.drew →
      ∃ ao' cap' w', (Builtin.append_ #[t, tx] ty #[.slice ao n old, x]).run P w = .ok (.slice ao' (n + m) cap') w' ∧ w'.ownsRow 0 e i.size (.slice ao' (n + m) cap') (n + m) (xs ++ news) ∧ w.grownBy w' row ∧
        (blkA ao' = blkA ao ∨ ∃ k, blkA ao' = some k ∧ w.heap.size ≤ k ∧ ∀ b, b < w.heap.size → w'.heap[b]? = w.heap[b]?) ∧ n + m ≤ cap' ∧ cap' ≤ maxLen := by
    intro old ho row hold
    have hge := grownCap_ge w (n + m) old e
    have hcm : grownCap w (n + m) old e ≤ maxLen := grownCap_le_maxLen w (n + m) old e h63
    have hr := run_append_grow_src (P := P) w t tx ty e i z ht hi hz ao n old xs hold x m news hs ho (by unfold maxLen at h63; omega) (growslice_fits ho hbytes)
    refine ⟨_, _, _, hr, ⟨hlen, .inr ⟨w.heap.size, _, _, rfl, Nat.zero_le _, heap_alloc_new w.drew _, hge, hcm, ?_, ?_⟩⟩, ⟨rfl, rfl, rfl, by simp, fun k hk _ => Below.heap_alloc w.drew _ k hk⟩, .inr ⟨w.heap.size, rfl, Nat.le_refl _, fun k hk => Below.heap_alloc w.drew _ k hk⟩, hge, hcm⟩
    · simp only [Array.size_append, List.size_toArray, size_zeroCells, hzs]
      rw [hlen, ← Nat.add_mul]
      congr 1
      omega
    · simp only [Array.toList_append]
      rw [← hlen]
      exact List.take_left
  rcases hown.2 with ⟨e1, hn0⟩ | ⟨g, cap', cur, e1, hbg, hg, hnc, hcm, hcs, htake⟩
  · simp only [Value.slice.injEq] at e1
    obtain ⟨rfl, rfl, rfl⟩ := e1
    have hx : xs = [] := List.eq_nil_of_length_eq_zero (by simpa using hown.1)
    subst hx
    by_cases hm : m = 0
    · subst hm
      have hn : news = [] := List.eq_nil_of_length_eq_zero (by simpa using hs.newsLen)
      subst hn
      refine ⟨none, 0, w, ?_, World.ownsRow_nil w 0 e i.size, ⟨rfl, rfl, rfl, Nat.le_refl _, fun _ _ _ => rfl⟩, .inl rfl, by omega, by simp [maxLen]⟩
      rcases hs.kind with ⟨e', hk⟩ | hk <;> simp [Builtin.append_, run_underlying ht, run_underlying hk, sizeOf, typeInfo, hi, hs.len, hs.cells, Sem.run_bind, Result.andThen_ok]
    · exact grown 0 (by omega) _ (run_firstCells_none w.drew i.size 0 0 0)
  · simp only [Value.slice.injEq] at e1
    obtain ⟨rfl, _, rfl⟩ := e1
    by_cases hroom : n + m ≤ cap
    · have hfit : n * i.size + news.length ≤ cur.size := by rw [hs.newsLen, hcs, ← Nat.add_mul]; exact Nat.mul_le_mul_right _ hroom
      have hst := run_storeCells_at P g (n * i.size) e news 0 cur w hg (by simpa using hfit) hs.one
      simp only [Nat.add_zero] at hst
      have hr : (Builtin.append_ #[t, tx] ty #[.slice (some ⟨g, 0, none⟩) n cap, x]).run P w = .ok (.slice (some ⟨g, 0, none⟩) (n + m) cap) (w.setRow g (cur.toList.take (n * i.size) ++ news ++ cur.toList.drop (n * i.size + news.length)).toArray) := by
        rcases hs.kind with ⟨e', hk⟩ | hk <;> simp [Builtin.append_, run_underlying ht, run_underlying hk, sizeOf, typeInfo, hi, hs.len, hroom, hs.cells, Addr.add_lit, hst]
      refine ⟨_, _, _, hr, ⟨hlen, .inr ⟨g, cap, _, rfl, hbg, setRow_heap w g cur _ e _ hg, hroom, hcm, ?_, ?_⟩⟩, ⟨rfl, rfl, rfl, by simp, fun k _ hk => setRow_other w g k _ (fun e => hk (by simp [blkA, e]))⟩, .inl rfl, hroom, hcm⟩
      · simp only [List.size_toArray, List.length_append, List.length_take, List.length_drop, Array.length_toList]
        omega
      · rw [htake, ← hlen]
        exact List.take_left
    · refine grown cap (by omega) _ ?_
      exact run_firstCells_some w.drew i.size n ⟨g, 0, none⟩ n cap xs hown.1 (fun j u hj => by
        rw [add_none, Nat.zero_add]
        have := ownsRow_cell hown (k := g) rfl hj
        simpa using this)
/-- A shorter slice of a row of one's own. -/
theorem ownsRow_take {E sz n k cap : Nat} {ao : Option Addr} {xs : List Value} (h : w.ownsRow 0 E sz (.slice ao n cap) n xs) (hk : k ≤ n) : w.ownsRow 0 E sz (.slice ao k cap) k (xs.take (k * sz)) := by
  have hmul : k * sz ≤ n * sz := Nat.mul_le_mul_right _ hk
  refine ⟨by rw [List.length_take, h.1]; omega, ?_⟩
  rcases h.2 with ⟨e, hn⟩ | ⟨g, cap', cur, e, h1, h2, h3, h4, h5, h6⟩
  · simp only [Value.slice.injEq] at e
    obtain ⟨rfl, rfl, rfl⟩ := e
    have : k = 0 := by omega
    subst this
    exact .inl ⟨rfl, rfl⟩
  · simp only [Value.slice.injEq] at e
    obtain ⟨rfl, _, rfl⟩ := e
    refine .inr ⟨g, cap, cur, rfl, h1, h2, by omega, h4, h5, ?_⟩
    rw [← h6, List.take_take]
    congr 1
    omega
/-- A store into a row of one's own. -/
theorem ownsRow_set {E sz n cap g : Nat} {xs ys : List Value} {cur : Array Value} (h : w.ownsRow 0 E sz (.slice (some ⟨g, 0, none⟩) n cap) n xs) (hg : w.heap[g]? = some (.cells cur E (0, 0))) {off : Nat} (hfit : off + ys.length ≤ n * sz) :
    (w.setRow g (cur.toList.take off ++ ys ++ cur.toList.drop (off + ys.length)).toArray).ownsRow 0 E sz (.slice (some ⟨g, 0, none⟩) n cap) n (xs.take off ++ ys ++ xs.drop (off + ys.length)) := by
  obtain ⟨hl, hh⟩ := h
  rcases hh with ⟨e, _⟩ | ⟨g', cap', cur', e, h1, h2, h3, h4, h5, h6⟩
  · simp at e
  · simp only [Value.slice.injEq, Option.some.injEq, Addr.mk.injEq, and_true, true_and] at e
    obtain ⟨rfl, rfl⟩ := e
    rw [h2] at hg
    simp only [Option.some.injEq, Obj.cells.injEq, and_true] at hg
    subst hg
    have hmul : n * sz ≤ cap * sz := Nat.mul_le_mul_right _ h3
    refine ⟨?_, .inr ⟨g, cap, _, rfl, h1, setRow_heap w g cur' _ E _ h2, h3, h4, ?_, ?_⟩⟩
    · simp only [List.length_append, List.length_take, List.length_drop, hl]; omega
    · simp only [List.size_toArray, List.length_append, List.length_take, List.length_drop, Array.length_toList, h5]; omega
    · have hx : xs = cur'.toList.take (n * sz) := h6.symm
      have hcl : cur'.toList.length = cap * sz := by simpa using h5
      rw [List.toList_toArray]
      apply List.ext_getElem?
      intro j
      rw [List.getElem?_take, List.append_assoc, List.append_assoc, List.getElem?_append (l₁ := cur'.toList.take off), List.getElem?_append (l₁ := xs.take off)]
      have e1 : (cur'.toList.take off).length = off := by simp; omega
      have e2 : (xs.take off).length = off := by simp; omega
      rw [e1, e2]
      by_cases hj : j < n * sz
      · rw [if_pos hj]
        split
        · rename_i hlt
          rw [List.getElem?_take, List.getElem?_take, if_pos hlt, if_pos hlt, hx, List.getElem?_take, if_pos hj]
        · rename_i hge
          rw [List.getElem?_append (l₁ := ys), List.getElem?_append (l₁ := ys)]
          split
          · rfl
          · rw [List.getElem?_drop, List.getElem?_drop, hx, List.getElem?_take, if_pos (by omega)]
      · rw [if_neg hj, if_neg (by omega), List.getElem?_append (l₁ := ys), if_neg (by omega), List.getElem?_drop, List.getElem?_eq_none (by omega)]
end
end Go.Proofs.Ytimfnpjcedjmiaa
