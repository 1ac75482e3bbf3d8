/-
  Engine G, part 25: from a law's arguments to what is known of them; from a contract to a law's call.
-/
import Derived.Test.YtimfnpjcedjmiaaG24
import Derived.Test.YtimfnpjcedjmiaaOpen
namespace Go.Proofs.Ytimfnpjcedjmiaa
open Go.RowKit Go.ChangeShapes Go.WideShapes Go.ChangeAt
set_option linter.unusedSimpArgs false
set_option linter.unusedVariables false

/-- A call over no memory: the arguments as they are. -/
theorem call0 {P : Program} {f : FuncId} {args : List AV} {mem : List Res} {K : MK} {r : AV} (hF : Fn P f args [] r []) (hA : RKL1 mem [] [] args args) (k : K (memCall mem [] []) (avCall mem [] [] r)) : StopCall P f args mem K :=
  ⟨args, [], r, [], [], hF, rfl, rfl, rfl, trivial, hA, k⟩
theorem pure0 {P : Program} {f : FuncId} {args : List AV} {K : AV → Prop} {r : AV} (hF : Fn P f args [] r []) (hf : r.free = true) (hA : RKL1 [] [] [] args args) (k : K r) : StopPure P f args K :=
  ⟨args, r, hF, hf, hA, k⟩
/-- All that there is, promised to stay. -/
def allS (w : World) : Store := fun b o => w.cell? ⟨b, o, none⟩
theorem fn_run {P : Program} {f : FuncId} {args : List AV} {r : AV} {m' : List Res} (h : Fn P f args [] r m') (w : World) (vs : Array Value) (hl : vs.size = args.length) (hargs : ∀ (i : Nat) (av : AV) (x : Value), args[i]? = some av → vs[i]? = some x → RepV (allS w) noG av x) :
    Calls P f vs w fun e w' => ∃ x σ' μ', e = .returned x ∧ RepV σ' μ' r x ∧ Below w.heap.size w w' := by
  refine (h.2 w (allS w) noG (fun _ _ => False) vs (fun b o x hx => hx) ⟨fun id r hr => by simp at hr, fun i j b hb => hb.elim, fun id _ => ⟨rfl, fun b hb => hb⟩⟩ hl hargs).mono ?_
  rintro e w' ⟨x, σ', μ', Ds', rfl, hp⟩
  exact ⟨x, σ', μ', rfl, hp.rep, hp.keeps.os, hp.keeps.tape, hp.keeps.output, hp.keeps.size, fun k hk => hp.keeps.block k hk (fun ⟨_, h⟩ => h)⟩
theorem fn_true {P : Program} {f : FuncId} {args : List AV} {m' : List Res} (h : Fn P f args [] (.v (.bool true)) m') (w : World) (vs : Array Value) (hl : vs.size = args.length) (hargs : ∀ (i : Nat) (av : AV) (x : Value), args[i]? = some av → vs[i]? = some x → RepV (allS w) noG av x) :
    Calls P f vs w fun e w' => e = .returned (.bool true) ∧ Below w.heap.size w w' :=
  (fn_run h w vs hl hargs).mono fun e w' ⟨x, σ', μ', he, hr, hb⟩ => ⟨by rw [he, hr.inv_v], hb⟩
/-- The arguments, one by one. -/
def RepL (σ : Store) : List AV → List Value → Prop
  | [], [] => True
  | a :: l, x :: xs => RepV σ noG a x ∧ RepL σ l xs
  | _, _ => False
theorem RepL.get {σ : Store} : ∀ {l : List AV} {xs : List Value}, RepL σ l xs → xs.length = l.length ∧ ∀ (i : Nat) (av : AV) (x : Value), l[i]? = some av → xs[i]? = some x → RepV σ noG av x
  | [], [], _ => ⟨rfl, fun i av x h => by simp at h⟩
  | [], _ :: _, h => h.elim
  | _ :: _, [], h => h.elim
  | a :: l, x :: xs, h => by
    obtain ⟨h1, h2⟩ := RepL.get h.2
    refine ⟨by simp [h1], fun i av y e1 e2 => ?_⟩
    cases i with
    | zero => simp at e1 e2; subst e1 e2; exact h.1
    | succ i => exact h2 i av y (by simpa using e1) (by simpa using e2)
theorem fn_law {P : Program} {f : FuncId} {args : List AV} {m' : List Res} (h : Fn P f args [] (.v (.bool true)) m') (w : World) (xs : List Value) (hargs : RepL (allS w) args xs) :
    Calls P f xs.toArray w fun e w' => e = .returned (.bool true) ∧ Below w.heap.size w w' :=
  fn_true h w xs.toArray (by simpa using hargs.get.1) (fun i av x h1 h2 => hargs.get.2 i av x h1 (by simpa using h2))
theorem rep_int {σ : Store} {μ : Ghost} (n : Int) : RepV σ μ (.v (.int .i64 n)) (.int .i64 n) := .v _ _
/-- A slice that is read. -/
theorem rep_arr {w : World} {μ : Ghost} {sz : Nat} {ao : Option Addr} {cap : Nat} {rows : List (List Value)} {avs : List (List AV)} (hcap : rows.length ≤ cap) (hmax : cap ≤ maxLen) (ha : Arr sz w ao rows) (hlen : avs.length = rows.length)
    (hrow : ∀ (i : Nat) (r : List Value) (q : List AV), rows[i]? = some r → avs[i]? = some q → q.length = sz ∧ r.length = sz ∧ (∀ (j : Nat) (x : Value) (av : AV), r[j]? = some x → q[j]? = some av → RepV (allS w) noG av x ∧ x.oneCell' = true)) :
    RepV (allS w) μ (.sl sz avs none) (.slice ao rows.length cap) := by
  rw [← hlen]
  have hrows : ∀ r ∈ avs, r.length = sz := by
    intro q hq
    obtain ⟨i, hi, rfl⟩ := List.mem_iff_getElem.1 hq
    exact (hrow i _ _ (List.getElem?_eq_getElem (by omega)) (List.getElem?_eq_getElem hi)).1
  rcases ha with rfl | ⟨b, off, rfl, hb, hc⟩
  · have : avs = [] := List.eq_nil_of_length_eq_zero (by simpa using hlen)
    subst this
    exact .sl _ sz [] none ao cap 0 0 (fun _ _ => undef) (Nat.zero_le _) hmax (.inl rfl) hrows (fun i j r av g => by simp at g) (fun i j r av g => by simp at g) (fun i j r av g => by simp at g) (fun id' g' e' => by cases e')
  · have key : ∀ (i j : Nat) (q : List AV) (av : AV), avs[i]? = some q → q[j]? = some av → ∃ r x, rows[i]? = some r ∧ r[j]? = some x ∧ (rows.getD i []).getD j undef = x ∧ RepV (allS w) noG av x ∧ x.oneCell' = true := by
      intro i j q av h1 h2
      have hi : i < rows.length := by rw [← hlen]; exact (List.getElem?_eq_some_iff.1 h1).1
      obtain ⟨h3, h4, h5⟩ := hrow i _ _ (List.getElem?_eq_getElem hi) h1
      have hj : j < rows[i].length := by rw [h4, ← h3]; exact (List.getElem?_eq_some_iff.1 h2).1
      obtain ⟨h6, h7⟩ := h5 j _ _ (List.getElem?_eq_getElem hj) h2
      exact ⟨_, _, List.getElem?_eq_getElem hi, List.getElem?_eq_getElem hj, by simp [List.getD_eq_getElem?_getD, hi, hj], h6, h7⟩
    refine .sl _ sz avs none (some ⟨b, off, none⟩) cap b off (fun i j => (rows.getD i []).getD j undef) (by omega) hmax (.inr rfl) hrows (fun i j q av h1 h2 => ?_) (fun i j q av h1 h2 => ?_) (fun i j q av h1 h2 => ?_) (fun id' g' e' => by cases e')
    · obtain ⟨r, x, h3, h4, h5, h6, h7⟩ := key i j q av h1 h2
      rw [h5]; exact hc i r h3 j x h4
    · obtain ⟨r, x, h3, h4, h5, h6, h7⟩ := key i j q av h1 h2
      rw [h5]; exact h6
    · obtain ⟨r, x, h3, h4, h5, h6, h7⟩ := key i j q av h1 h2
      rw [h5]; exact h7
/-- .. of integers. -/
theorem rep_ints {α : Type} {w : World} {μ : Ghost} {sz : Nat} {ao : Option Addr} {cap : Nat} {l : List α} {f : α → List Value} (hcap : l.length ≤ cap) (hmax : cap ≤ maxLen) (ha : Arr sz w ao (l.map f)) (hf : ∀ x, (f x).length = sz ∧ ∀ v ∈ f x, v.oneCell' = true) :
    RepV (allS w) μ (.sl sz (l.map fun x => (f x).map .v) none) (.slice ao l.length cap) := by
  have := rep_arr (w := w) (μ := μ) (cap := cap) (avs := l.map fun x => (f x).map .v) (by simpa using hcap) hmax ha (by simp) (fun i r q h1 h2 => by
    simp only [List.getElem?_map, Option.map_eq_some_iff] at h1 h2
    obtain ⟨x, hx, rfl⟩ := h1
    obtain ⟨y, hy, rfl⟩ := h2
    rw [hx] at hy
    obtain rfl := Option.some.inj hy
    refine ⟨by simp [(hf x).1], (hf x).1, fun j v av g1 g2 => ?_⟩
    simp only [List.getElem?_map, g1, Option.map_some, Option.some.injEq] at g2
    subst g2
    exact ⟨.v _ _, (hf x).2 v (List.mem_of_getElem? g1)⟩)
  simpa using this

def GPairs (w : World) (v : Value) : Prop := ∃ l : List (Int × Int), (∀ n ∈ l, I64 n.1 ∧ I64 n.2) ∧ RepV (allS w) noG (.sl 2 (l.map fun n => [.v (.int .i64 n.1), .v (.int .i64 n.2)]) none) v
def GPair (w : World) (v : Value) : Prop := ∃ n : Int × Int, I64 n.1 ∧ I64 n.2 ∧ v = .agg #[.int .i64 n.1, .int .i64 n.2]
theorem rep_pair {σ : Store} {μ : Ghost} (a b : Int) : RepV σ μ (.agg [.v (.int .i64 a), .v (.int .i64 b)]) (.agg #[.int .i64 a, .int .i64 b]) :=
  .agg _ _ _ rfl (fun i av x h1 h2 => by
    match i with
    | 0 => simp at h1 h2; subst h1 h2; exact .v _ _
    | 1 => simp at h1 h2; subst h1 h2; exact .v _ _
    | i + 2 => simp at h1)
set_option maxRecDepth 100000 in
theorem g_options {H : Type} {enc : TypeId × Value → H} {w : World} {v : Value} {d : DataW H} {p : List MemPlace} (hv : Value.okWide Try.prog w .any 0 46 v) (h : DataW.Trod enc Try.prog w 0 (fun _ => true) true 46 v d p) : GPairs w v := by
  obtain ⟨a0, len, cap, rfl⟩ := okWide_slice Try.underlying46 hv
  obtain ⟨fuel, hf⟩ := h
  obtain ⟨ao, cp, rows, hcs, hl, hm, hr, ha⟩ := rows_of_slice Try.underlying46 2 (by kernel_rfl) (by decide) (fun fuel cs x hx => e_option hx) hf
  obtain ⟨l, rfl, hp⟩ := of_rows (fun r h => (hr r h).2)
  simp [Value.cells] at hcs
  obtain ⟨rfl, rfl, rfl⟩ := hcs
  refine ⟨l, hp, ?_⟩
  exact rep_ints (f := fun n : Int × Int => [.int .i64 n.1, .int .i64 n.2]) (by simpa using hl) hm ha (fun x => ⟨rfl, fun v hv => by simp at hv; rcases hv with rfl | rfl <;> rfl⟩)
set_option maxRecDepth 100000 in
theorem g_policy {H : Type} {enc : TypeId × Value → H} {w : World} {v : Value} {d : DataW H} {p : List MemPlace} (hv : Value.okWide Try.prog w .any 0 61 v) (h : DataW.Trod enc Try.prog w 0 (fun _ => true) true 61 v d p) : GPair w v := by
  obtain ⟨cs, rfl, hcs⟩ := okWide_struct Try.underlying61 hv
  obtain ⟨fuel, hx⟩ := h
  obtain ⟨y0, y1, n, _, hl, h0, h1⟩ := trod_struct2 Try.underlying61 hx
  obtain ⟨a, ha, _, wa⟩ := DataW.trod_int Try.underlying3 h0
  obtain ⟨b, hb, _, wb⟩ := DataW.trod_int Try.underlying3 h1
  have c1 : Try.prog.cellsOf 3 = 1 := by kernel_rfl
  have c2 : Try.prog.cellsOf 61 = 2 := by kernel_rfl
  rw [c2] at hcs
  obtain ⟨cs⟩ := cs
  match cs, hcs with
  | [u, v], _ =>
    simp [c1, Value.cells] at ha hb
    subst ha hb
    exact ⟨(a, b), i64_of_wf wa, i64_of_wf wb, rfl⟩
set_option maxRecDepth 100000 in
theorem gsame_ok (k j : Int) (hk : 0 ≤ k) : Fn Try.prog 16 [.err k, .v (.int .i64 j)] [] (.v (.bool (k == j))) [] := by
  refine fn_of mixed [] [] Try.func16 rfl (by decide +kernel) Try.ntmps16 rfl (congrArg Array.toList Try.results16) rfl (by decide +kernel) ?_
  ((repeat' (conv => whnf); (first | (with_reducible refine And.intro ?_ ?_) | (with_reducible exact True.intro) | (intro h; (first | (cases h) | ((first | (simp only [wrap_byte, Int.reduceToNat, Int.toNat_natCast, not_true_eq_false, neg_tt, neg_ff, neg_t, neg_f, decide_eq_true_eq, decide_eq_false_iff_not, beq_iff_eq, beq_eq_false_iff_ne, bne_iff_ne, bne_eq_false_iff_eq, Bool.not_eq_true', Bool.not_eq_false', ne_eq, Classical.not_not, Int.not_lt, Int.not_le, List.length_map] at h) | skip); (try (exfalso; omega))))) | (with_reducible refine Vc.mk ?_; fail) | (with_reducible refine cutG ?_; fail) | (refine idx_map ?_ ?_) | (refine idx_mapI ?_ ?_ ?_) ));(all_goals (try (repeat' (conv => whnf); (first | (with_reducible refine And.intro ?_ ?_) | (with_reducible exact True.intro) | (intro h; (first | (cases h) | ((first | (simp only [wrap_byte, Int.reduceToNat, Int.toNat_natCast, not_true_eq_false, neg_tt, neg_ff, neg_t, neg_f, decide_eq_true_eq, decide_eq_false_iff_not, beq_iff_eq, beq_eq_false_iff_ne, bne_iff_ne, bne_eq_false_iff_eq, Bool.not_eq_true', Bool.not_eq_false', ne_eq, Classical.not_not, Int.not_lt, Int.not_le, List.length_map] at h) | skip); (try (exfalso; omega))))) | (with_reducible refine Vc.mk ?_; fail) | (with_reducible refine cutG ?_; fail) | (refine idx_map ?_ ?_) | (refine idx_mapI ?_ ?_ ?_) )))))
  all_goals (try (refine Vc.mk ?_; (first | (exact rfl) | (decide) | omega | (unfold In64; omega) | (simp only [wrap_byte, Int.reduceToNat, Int.toNat_natCast, In64]; omega) | (simp only [maxLen, Fits, viewR, viewL, AV.view, List.length_map, List.length_append, List.length_cons, List.length_nil]; omega) | (simp [viewR, viewL, AV.view, ]; done) | skip)))
  all_goals (((try (conv => whnf)); refine ⟨[], rfl, rfl, ?_, ?_⟩); (repeat' (conv => whnf); (first | (with_reducible refine And.intro ?_ ?_) | (with_reducible exact True.intro) | (with_reducible exact Or.inl rfl) | (refine Vc.mk ?_; (first | (exact rfl) | (exact ⟨rfl, .inl rfl⟩) | omega | skip)))))
  all_goals (rw [Bool.eq_iff_iff]; simp only [beq_iff_eq, Bool.false_eq_true]; (first | omega | (constructor <;> intro hx <;> first | omega | cases hx)))
end Go.Proofs.Ytimfnpjcedjmiaa
