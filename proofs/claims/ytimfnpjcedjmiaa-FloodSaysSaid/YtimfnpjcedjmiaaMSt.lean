/-
  Several parts in one text: GSt GSt2 GSt3 GSt4 GSt5 GSt6 GSt7 GSt8 GSt9.
-/
import Derived.Test.YtimfnpjcedjmiaaMPkt
/-
  Package state and the reference's like: what a state may be.
-/
namespace Go.Proofs.Ytimfnpjcedjmiaa
open Go.RowKit
set_option linter.unusedSimpArgs false
def edgBad (e : Int × Int) : Bool := decide (e.1 < 1) || decide (6 < e.1) || decide (e.2 < 1) || decide (20 < e.2)
/-- What is wrong with edges, behind one to p. -/
def efault (o : Int) : Int → List (Int × Int) → Int
  | _, [] => 0
  | p, e :: r => if edgBad e then 1 else if e.1 = o ∨ e.1 ≤ p then 3 else efault o e.1 r
def sfault (o q : Int) (l : List (Int × Int)) : Int :=
  if o < 1 ∨ 6 < o ∨ q < 1 ∨ 1000000 < q then 1 else if 6 < l.length then 2 else efault o 0 l
theorem efault_nonneg (o : Int) : ∀ (p : Int) (l : List (Int × Int)), 0 ≤ efault o p l
  | p, [] => by simp [efault]
  | p, e :: r => by
    unfold efault
    split
    · omega
    · split
      · omega
      · exact efault_nonneg o _ r
theorem sfault_nonneg (o q : Int) (l : List (Int × Int)) : 0 ≤ sfault o q l := by
  have := efault_nonneg o 0 l
  unfold sfault
  (repeat' split) <;> omega
/-- Who the edge ahead goes to. -/
def lastTo (l : List (Int × Int)) (k : Nat) : Int := if h : 0 < k ∧ k ≤ l.length then (l[k - 1]'(by omega)).1 else 0
theorem lastTo_succ {l : List (Int × Int)} {k : Nat} (h : k < l.length) : lastTo l (k + 1) = l[k].1 := by
  unfold lastTo
  rw [dif_pos ⟨by omega, by omega⟩]
  rfl
theorem lastTo_at {l : List (Int × Int)} {k : Nat} {i : Int} (hi : i = (k : Int) - 1) (h0 : 0 < k) (h : i.toNat < l.length) : l[i.toNat].1 = lastTo l k := by
  subst hi
  unfold lastTo
  rw [dif_pos ⟨h0, by omega⟩]
  congr 2
  omega
theorem lastTo_zero {l : List (Int × Int)} : lastTo l 0 = 0 := by simp [lastTo]
theorem efault_step {l : List (Int × Int)} {k : Nat} {o : Int} (h : k < l.length) : efault o (lastTo l k) (l.drop k) = if edgBad l[k] then 1 else if l[k].1 = o ∨ l[k].1 ≤ lastTo l k then 3 else efault o (lastTo l (k + 1)) (l.drop (k + 1)) := by
  rw [drop_cons h, lastTo_succ h]
  rfl
set_option maxHeartbeats 4000000 in
set_option maxRecDepth 100000 in
theorem scheck_ok (o q : Int) (l : List (Int × Int)) : Fn Try.prog 63 [.agg [.v (.int .i64 o), .v (.int .i64 q), .sl 2 (l.map opRow) none]] [] (.err (sfault o q l)) [] := by
  refine fn_of mixed [] [] Try.func63 rfl (by decide +kernel) Try.ntmps63 rfl (congrArg Array.toList Try.results63) rfl (by decide +kernel) ?_
  (iterate 2 all_goals (try (repeat' (conv => whnf); (first | with_reducible refine And.intro ?_ ?_ | with_reducible exact True.intro | (intro h; (first | cases h | ((try simp only [vis, Int.reduceToNat] at h); (try (exfalso; omega))))) | (with_reducible refine Vc.mk ?_; fail) | (with_reducible refine cutG ?_; fail) | refine idx_map ?_ ?_ | refine idx_mapI ?_ ?_ ?_ ))))
  all_goals (try ((first | with_reducible refine Vc.mk ?_ | refine Vc.mk ?_); (try exact GLt)))
  all_goals (try (((try (conv => whnf)); refine ⟨[], rfl, rfl, ?_, ?_⟩); (repeat' (conv => whnf); (first | with_reducible refine And.intro ?_ ?_ | with_reducible exact True.intro | with_reducible exact Or.inl rfl | (refine Vc.mk ?_; (first | exact rfl | exact ⟨rfl, .inl rfl⟩ | omega | skip)))); unfold sfault; (repeat' split) <;> first | rfl | omega))
  all_goals
    have hp : sfault o q l = efault o (lastTo l 0) l := by unfold sfault; rw [lastTo_zero]; (repeat' split) <;> first | rfl | omega
    refine lpG (fun k : Nat => ⟨[(1, .box 0 0), (30, .sl 2 (l.map opRow) none), (31, .v (.int .i64 l.length)), (32, .v (.int .i64 k))], [.cells [.v (.int .i64 o), .v (.int .i64 q), .sl 2 (l.map opRow) none]]⟩) (fun k => k ≤ l.length ∧ sfault o q l = efault o (lastTo l k) (l.drop k)) (fun k => l.length - k) 0 ⟨by omega, hp⟩ (by (refine le_sub [0] rfl rfl ?_ ?_); all_goals ((repeat' (conv => whnf); (first | with_reducible refine And.intro ?_ ?_ | with_reducible exact True.intro | with_reducible exact Or.inl rfl | (refine Vc.mk ?_; (first | exact rfl | exact ⟨rfl, .inl rfl⟩ | omega | skip)))); all_goals (try simp))) ?_
    rintro k ⟨hk, hq⟩
    (iterate 2 all_goals (try (repeat' (conv => whnf); (first | with_reducible refine And.intro ?_ ?_ | with_reducible exact True.intro | (intro h; (first | cases h | ((try simp only [vis, Int.reduceToNat] at h); (try (exfalso; omega))))) | (with_reducible refine Vc.mk ?_; fail) | (with_reducible refine cutG ?_; fail) | refine idx_map ?_ ?_ | refine idx_mapI ?_ ?_ ?_ ))))
    all_goals (try omega)
    all_goals (try ((first | with_reducible refine Vc.mk ?_ | refine Vc.mk ?_); (try exact GLt)))
    all_goals (try
      (have hk' : k < l.length := by omega
       rw [efault_step hk'] at hq
       have hb : edgBad l[k] = true := by simp only [edgBad, Bool.or_eq_true, decide_eq_true_eq]; omega
       rw [if_pos hb] at hq
       ((try (conv => whnf)); refine ⟨[], rfl, rfl, ?_, ?_⟩)
       · (repeat' (conv => whnf); (first | with_reducible refine And.intro ?_ ?_ | with_reducible exact True.intro | with_reducible exact Or.inl rfl | (refine Vc.mk ?_; (first | exact rfl | exact ⟨rfl, .inl rfl⟩ | omega | skip))))
       · (repeat' (conv => whnf); (first | with_reducible refine And.intro ?_ ?_ | with_reducible exact True.intro | with_reducible exact Or.inl rfl | (refine Vc.mk ?_; (first | exact rfl | exact ⟨rfl, .inl rfl⟩ | omega | skip)))); all_goals exact hq.symm))
    all_goals (try
      (have e : k = l.length := by omega
       subst e
       rw [List.drop_length] at hq
       ((try (conv => whnf)); refine ⟨[], rfl, rfl, ?_, ?_⟩)
       · (repeat' (conv => whnf); (first | with_reducible refine And.intro ?_ ?_ | with_reducible exact True.intro | with_reducible exact Or.inl rfl | (refine Vc.mk ?_; (first | exact rfl | exact ⟨rfl, .inl rfl⟩ | omega | skip))))
       · (repeat' (conv => whnf); (first | with_reducible refine And.intro ?_ ?_ | with_reducible exact True.intro | with_reducible exact Or.inl rfl | (refine Vc.mk ?_; (first | exact rfl | exact ⟨rfl, .inl rfl⟩ | omega | skip)))); all_goals exact hq.symm))
  all_goals
    have hk' : k < l.length := by omega
    have hb : ¬ edgBad l[k] = true := by simp only [edgBad, Bool.or_eq_true, decide_eq_true_eq]; omega
    rw [efault_step hk', if_neg hb] at hq
    have hla : lastTo l k = 0 ∧ k = 0 ∨ ∃ (h0 : 0 < k) (hx : ((k : Int) - 1).toNat < l.length), l[((k : Int) - 1).toNat].1 = lastTo l k := by
      rcases Nat.eq_zero_or_pos k with h0 | h0
      · exact .inl ⟨by rw [h0, lastTo_zero], h0⟩
      · exact .inr ⟨h0, by omega, lastTo_at rfl h0 (by omega)⟩
    by_cases hc : l[k].1 = o ∨ l[k].1 ≤ lastTo l k
    · rw [if_pos hc] at hq
      first
        | (exfalso; rcases hla with ⟨e1, e2⟩ | ⟨h0, hx, e1⟩ <;> omega)
        | (((try (conv => whnf)); refine ⟨[], rfl, rfl, ?_, ?_⟩); (repeat' (conv => whnf); (first | with_reducible refine And.intro ?_ ?_ | with_reducible exact True.intro | with_reducible exact Or.inl rfl | (refine Vc.mk ?_; (first | exact rfl | exact ⟨rfl, .inl rfl⟩ | omega | skip)))); all_goals exact hq.symm)
    · rw [if_neg hc] at hq
      first
        | (exfalso; rcases hla with ⟨e1, e2⟩ | ⟨h0, hx, e1⟩ <;> omega)
        | (refine nextG (k + 1) ⟨by omega, hq⟩ (by omega) (by (refine le_sub [0] rfl rfl ?_ ?_); all_goals (repeat' (conv => whnf); (first | with_reducible refine And.intro ?_ ?_ | with_reducible exact True.intro | with_reducible exact Or.inl rfl | (refine Vc.mk ?_; (first | exact rfl | exact ⟨rfl, .inl rfl⟩ | omega | skip))))))
set_option maxHeartbeats 4000000 in
set_option maxRecDepth 100000 in
theorem rsfault_ok (o q : Int) (l : List (Int × Int)) : Fn Try.prog 61 [.agg [.v (.int .i64 o), .v (.int .i64 q), .sl 2 (l.map opRow) none]] [] (.v (.int .i64 (sfault o q l))) [] := by
  refine fn_of mixed [] [] Try.func61 rfl (by decide +kernel) Try.ntmps61 rfl (congrArg Array.toList Try.results61) rfl (by decide +kernel) ?_
  (iterate 2 all_goals (try (repeat' (conv => whnf); (first | with_reducible refine And.intro ?_ ?_ | with_reducible exact True.intro | (intro h; (first | cases h | ((try simp only [vis, Int.reduceToNat] at h); (try (exfalso; omega))))) | (with_reducible refine Vc.mk ?_; fail) | (with_reducible refine cutG ?_; fail) | refine idx_map ?_ ?_ | refine idx_mapI ?_ ?_ ?_ ))))
  all_goals (try ((first | with_reducible refine Vc.mk ?_ | refine Vc.mk ?_); (try exact GLt)))
  all_goals (try (((try (conv => whnf)); refine ⟨[], rfl, rfl, ?_, ?_⟩); (repeat' (conv => whnf); (first | with_reducible refine And.intro ?_ ?_ | with_reducible exact True.intro | with_reducible exact Or.inl rfl | (refine Vc.mk ?_; (first | exact rfl | exact ⟨rfl, .inl rfl⟩ | omega | skip)))); unfold sfault; (repeat' split) <;> first | rfl | omega))
  all_goals
    have hp : sfault o q l = efault o (lastTo l 0) l := by unfold sfault; rw [lastTo_zero]; (repeat' split) <;> first | rfl | omega
    refine lpG (fun k : Nat => ⟨[(1, .box 0 0), (3, .v (.int .i64 k))], [.cells [.v (.int .i64 o), .v (.int .i64 q), .sl 2 (l.map opRow) none]]⟩) (fun k => k ≤ l.length ∧ sfault o q l = efault o (lastTo l k) (l.drop k)) (fun k => l.length - k) 0 ⟨by omega, hp⟩ (by (refine le_sub [0] rfl rfl ?_ ?_); all_goals ((repeat' (conv => whnf); (first | with_reducible refine And.intro ?_ ?_ | with_reducible exact True.intro | with_reducible exact Or.inl rfl | (refine Vc.mk ?_; (first | exact rfl | exact ⟨rfl, .inl rfl⟩ | omega | skip)))); all_goals (try simp))) ?_
    rintro k ⟨hk, hq⟩
    (iterate 2 all_goals (try (repeat' (conv => whnf); (first | with_reducible refine And.intro ?_ ?_ | with_reducible exact True.intro | (intro h; (first | cases h | ((try simp only [vis, Int.reduceToNat] at h); (try (exfalso; omega))))) | (with_reducible refine Vc.mk ?_; fail) | (with_reducible refine cutG ?_; fail) | refine idx_map ?_ ?_ | refine idx_mapI ?_ ?_ ?_ ))))
    all_goals (try omega)
    all_goals (try ((first | with_reducible refine Vc.mk ?_ | refine Vc.mk ?_); (try exact GLt)))
    all_goals (try
      (have hk' : k < l.length := by omega
       rw [efault_step hk'] at hq
       have hb : edgBad l[k] = true := by simp only [edgBad, Bool.or_eq_true, decide_eq_true_eq]; omega
       rw [if_pos hb] at hq
       ((try (conv => whnf)); refine ⟨[], rfl, rfl, ?_, ?_⟩)
       · (repeat' (conv => whnf); (first | with_reducible refine And.intro ?_ ?_ | with_reducible exact True.intro | with_reducible exact Or.inl rfl | (refine Vc.mk ?_; (first | exact rfl | exact ⟨rfl, .inl rfl⟩ | omega | skip))))
       · (repeat' (conv => whnf); (first | with_reducible refine And.intro ?_ ?_ | with_reducible exact True.intro | with_reducible exact Or.inl rfl | (refine Vc.mk ?_; (first | exact rfl | exact ⟨rfl, .inl rfl⟩ | omega | skip)))); all_goals exact hq.symm))
    all_goals (try
      (have e : k = l.length := by omega
       subst e
       rw [List.drop_length] at hq
       ((try (conv => whnf)); refine ⟨[], rfl, rfl, ?_, ?_⟩)
       · (repeat' (conv => whnf); (first | with_reducible refine And.intro ?_ ?_ | with_reducible exact True.intro | with_reducible exact Or.inl rfl | (refine Vc.mk ?_; (first | exact rfl | exact ⟨rfl, .inl rfl⟩ | omega | skip))))
       · (repeat' (conv => whnf); (first | with_reducible refine And.intro ?_ ?_ | with_reducible exact True.intro | with_reducible exact Or.inl rfl | (refine Vc.mk ?_; (first | exact rfl | exact ⟨rfl, .inl rfl⟩ | omega | skip)))); all_goals exact hq.symm))
  all_goals
    have hk' : k < l.length := by omega
    have hb : ¬ edgBad l[k] = true := by simp only [edgBad, Bool.or_eq_true, decide_eq_true_eq]; omega
    rw [efault_step hk', if_neg hb] at hq
    have hla : lastTo l k = 0 ∧ k = 0 ∨ ∃ (h0 : 0 < k) (hx : ((k : Int) - 1).toNat < l.length), l[((k : Int) - 1).toNat].1 = lastTo l k := by
      rcases Nat.eq_zero_or_pos k with h0 | h0
      · exact .inl ⟨by rw [h0, lastTo_zero], h0⟩
      · exact .inr ⟨h0, by omega, lastTo_at rfl h0 (by omega)⟩
    by_cases hc : l[k].1 = o ∨ l[k].1 ≤ lastTo l k
    · rw [if_pos hc] at hq
      first
        | (exfalso; rcases hla with ⟨e1, e2⟩ | ⟨h0, hx, e1⟩ <;> omega)
        | (((try (conv => whnf)); refine ⟨[], rfl, rfl, ?_, ?_⟩); (repeat' (conv => whnf); (first | with_reducible refine And.intro ?_ ?_ | with_reducible exact True.intro | with_reducible exact Or.inl rfl | (refine Vc.mk ?_; (first | exact rfl | exact ⟨rfl, .inl rfl⟩ | omega | skip)))); all_goals exact hq.symm)
    · rw [if_neg hc] at hq
      first
        | (exfalso; rcases hla with ⟨e1, e2⟩ | ⟨h0, hx, e1⟩ <;> omega)
        | (refine nextG (k + 1) ⟨by omega, hq⟩ (by omega) (by (refine le_sub [0] rfl rfl ?_ ?_); all_goals (repeat' (conv => whnf); (first | with_reducible refine And.intro ?_ ?_ | with_reducible exact True.intro | with_reducible exact Or.inl rfl | (refine Vc.mk ?_; (first | exact rfl | exact ⟨rfl, .inl rfl⟩ | omega | skip))))))
end Go.Proofs.Ytimfnpjcedjmiaa

/-
  Bytes of states.
-/
namespace Go.Proofs.Ytimfnpjcedjmiaa
open Go.RowKit
set_option linter.unusedSimpArgs false
def sbyt (o q : Int) (l : List (Int × Int)) : List UInt8 := [u8 o, u8 q, u8 (q / 256), u8 (q / 65536)] ++ l.flatMap fun e => [u8 e.1, u8 e.2]
theorem sbyt_succ {c i : Int} {l : List (Int × Int)} {k : Nat} (h : k < l.length) : sbyt c i (l.take (k + 1)) = sbyt c i (l.take k) ++ [u8 l[k].1, u8 l[k].2] := by
  unfold sbyt
  rw [List.take_add_one, List.getElem?_eq_getElem h, List.flatMap_append, List.append_assoc]
  simp
theorem sbyt_len {c i : Int} {l : List (Int × Int)} : (sbyt c i l).length = 4 + 2 * l.length := by
  unfold sbyt
  have : (l.flatMap fun o : Int × Int => [u8 o.1, u8 o.2]).length = 2 * l.length := by
    induction l with
    | nil => rfl
    | cons o l ih => simp only [List.flatMap_cons, List.length_append, ih, List.length_cons, List.length_nil]; omega
  simp only [List.length_append, this, List.length_cons, List.length_nil]
theorem u8_mod {n m : Int} (h : n % 256 = m % 256) : u8 n = u8 m := by unfold u8; rw [h]
theorem u8_8 {q : Int} : u8 (q.fdiv 256) = u8 (q / 256) := by rw [Int.fdiv_eq_ediv_of_nonneg _ (by decide)]
theorem u8_16 {q : Int} : u8 (q.fdiv 65536) = u8 (q / 65536) := by rw [Int.fdiv_eq_ediv_of_nonneg _ (by decide)]
theorem u8_r0 {q : Int} (h : 0 ≤ q) : u8 (q.tmod 256) = u8 q := u8_mod (by rw [Int.tmod_eq_emod_of_nonneg h]; omega)
theorem u8_r1 {q : Int} (h : 0 ≤ q) : u8 ((q.tdiv 256).tmod 256) = u8 (q / 256) := u8_mod (by rw [Int.tdiv_eq_ediv_of_nonneg h, Int.tmod_eq_emod_of_nonneg (by omega)]; omega)
theorem u8_r2 {q : Int} (h : 0 ≤ q) : u8 (q.tdiv 65536) = u8 (q / 65536) := by rw [Int.tdiv_eq_ediv_of_nonneg h]
set_option maxHeartbeats 4000000 in
set_option maxRecDepth 100000 in
theorem rsbytes_ok (c i : Int) (l : List (Int × Int)) (hl : l.length ≤ 1000000) (hi : 0 ≤ i) (hm : i ≤ 1000000) : Fn Try.prog 64 [.agg [.v (.int .i64 c), .v (.int .i64 i), .sl 2 (l.map opRow) none]] [] (.v (.string ⟨(sbyt c i l).toArray⟩)) [] := by
  refine fn_of mixed [] [] Try.func64 rfl (by decide +kernel) Try.ntmps64 rfl (congrArg Array.toList Try.results64) rfl (by decide +kernel) ?_
  (iterate 2 all_goals (try (repeat' (conv => whnf); (first | with_reducible refine And.intro ?_ ?_ | with_reducible exact True.intro | (intro h; (first | cases h | ((try simp only [vis, Int.reduceToNat] at h); (try (exfalso; omega))))) | (with_reducible refine Vc.mk ?_; fail) | (with_reducible refine cutG ?_; fail) | refine idx_map ?_ ?_ | refine idx_mapI ?_ ?_ ?_ ))))
  all_goals (try (refine Vc.mk ?_; first | decide | (unfold In64; rw [Int.tdiv_eq_ediv_of_nonneg hi]; omega)))
  refine lpG (fun k : Nat => ⟨[(1, .box 0 0), (3, .sl 1 ((sbyt c i (l.take k)).map bRow) (some (1, 1))), (4, .v (.int .i64 k))], [.cells [.v (.int .i64 c), .v (.int .i64 i), .sl 2 (l.map opRow) none], .grow 5 1 1]⟩) (fun k => k ≤ l.length) (fun k => l.length - k) 0 (by omega) (by (refine le_sub [0, 1] rfl rfl ?_ ?_); all_goals ((repeat' (conv => whnf); (first | with_reducible refine And.intro ?_ ?_ | with_reducible exact True.intro | with_reducible exact Or.inl rfl | (refine Vc.mk ?_; (first | exact rfl | exact ⟨rfl, .inl rfl⟩ | omega | skip)))); all_goals (try simp [sbyt, bRow, wrap_u8, viewR, viewL, AV.view, IntKind.bits, u8_8, u8_16, u8_r0, u8_r1, u8_r2, *]))) ?_
  rintro k hk
  have hb := sbyt_len (c := c) (i := i) (l := l.take k)
  rw [List.length_take] at hb
  (iterate 2 all_goals (try (repeat' (conv => whnf); (first | with_reducible refine And.intro ?_ ?_ | with_reducible exact True.intro | (intro h; (first | cases h | ((try simp only [vis, Int.reduceToNat] at h); (try (exfalso; omega))))) | (with_reducible refine Vc.mk ?_; fail) | (with_reducible refine cutG ?_; fail) | refine idx_map ?_ ?_ | refine idx_mapI ?_ ?_ ?_ ))))
  all_goals (try omega)
  all_goals (try ((first | with_reducible refine Vc.mk ?_ | refine Vc.mk ?_); (try exact GLt)))
  · refine nextG (k + 1) (by omega) (by omega) (by (refine le_sub [0, 1] rfl rfl ?_ ?_); all_goals ((repeat' (conv => whnf); (first | with_reducible refine And.intro ?_ ?_ | with_reducible exact True.intro | with_reducible exact Or.inl rfl | (refine Vc.mk ?_; (first | exact rfl | exact ⟨rfl, .inl rfl⟩ | omega | skip)))); try (rw [sbyt_succ (by omega)]; simp [bRow, wrap_u8, viewR, viewL, AV.view]; done)))
  · have e : k = l.length := by omega
    subst e
    rw [List.take_length]
    conv => whnf
    refine ⟨sbyt c i l, rfl, ?_⟩
    (iterate 2 all_goals (try (repeat' (conv => whnf); (first | with_reducible refine And.intro ?_ ?_ | with_reducible exact True.intro | (intro h; (first | cases h | ((try simp only [vis, Int.reduceToNat] at h); (try (exfalso; omega))))) | (with_reducible refine Vc.mk ?_; fail) | (with_reducible refine cutG ?_; fail) | refine idx_map ?_ ?_ | refine idx_mapI ?_ ?_ ?_ ))))
    ((try (conv => whnf)); refine ⟨[], rfl, rfl, ?_, ?_⟩); (repeat' (conv => whnf); (first | with_reducible refine And.intro ?_ ?_ | with_reducible exact True.intro | with_reducible exact Or.inl rfl | (refine Vc.mk ?_; (first | exact rfl | exact ⟨rfl, .inl rfl⟩ | omega | skip))))
set_option maxHeartbeats 4000000 in
set_option maxRecDepth 100000 in
theorem sbytes_ok (c i : Int) (l : List (Int × Int)) (hl : l.length ≤ 1000000) : Fn Try.prog 62 [.agg [.v (.int .i64 c), .v (.int .i64 i), .sl 2 (l.map opRow) none]] [] (.tup [.v (.string (if sfault c i l = 0 then ⟨(sbyt c i l).toArray⟩ else ByteArray.empty)), .err (sfault c i l)]) [] := by
  refine fn_of mixed [] [] Try.func62 rfl (by decide +kernel) Try.ntmps62 rfl (congrArg Array.toList Try.results62) rfl (by decide +kernel) ?_
  (iterate 2 all_goals (try (repeat' (conv => whnf); (first | with_reducible refine And.intro ?_ ?_ | with_reducible exact True.intro | (intro h; (first | cases h | ((try simp only [vis, Int.reduceToNat] at h); (try (exfalso; omega))))) | (with_reducible refine Vc.mk ?_; fail) | (with_reducible refine cutG ?_; fail) | refine idx_map ?_ ?_ | refine idx_mapI ?_ ?_ ?_ ))))
  refine call0 (scheck_ok c i l) ?_ ?_
  · (repeat' (conv => whnf); (first | with_reducible refine And.intro ?_ ?_ | with_reducible exact True.intro | with_reducible exact Or.inl rfl | (refine Vc.mk ?_; (first | exact rfl | exact ⟨rfl, .inl rfl⟩ | omega | skip))))
  (iterate 2 all_goals (try (repeat' (conv => whnf); (first | with_reducible refine And.intro ?_ ?_ | with_reducible exact True.intro | (intro h; (first | cases h | ((try simp only [vis, Int.reduceToNat] at h); (try (exfalso; omega))))) | (with_reducible refine Vc.mk ?_; fail) | (with_reducible refine cutG ?_; fail) | refine idx_map ?_ ?_ | refine idx_mapI ?_ ?_ ?_ ))))
  all_goals (try ((first | with_reducible refine Vc.mk ?_ | refine Vc.mk ?_); (try exact GLt)))
  · ((try (conv => whnf)); refine ⟨[], rfl, rfl, ?_, ?_⟩); (repeat' (conv => whnf); (first | with_reducible refine And.intro ?_ ?_ | with_reducible exact True.intro | with_reducible exact Or.inl rfl | (refine Vc.mk ?_; (first | exact rfl | exact ⟨rfl, .inl rfl⟩ | omega | skip))))
    rw [if_neg h]
    rfl
  rw [h]
  simp only [if_true]
  refine lpG (fun k : Nat => ⟨[(1, .box 0 0), (5, .sl 1 ((sbyt c i (l.take k)).map bRow) (some (1, 1))), (29, .sl 2 (l.map opRow) none), (30, .v (.int .i64 l.length)), (31, .v (.int .i64 k))], [.cells [.v (.int .i64 c), .v (.int .i64 i), .sl 2 (l.map opRow) none], .grow 5 1 1]⟩) (fun k => k ≤ l.length) (fun k => l.length - k) 0 (by omega) (by (refine le_sub [0, 1] rfl rfl ?_ ?_); all_goals ((repeat' (conv => whnf); (first | with_reducible refine And.intro ?_ ?_ | with_reducible exact True.intro | with_reducible exact Or.inl rfl | (refine Vc.mk ?_; (first | exact rfl | exact ⟨rfl, .inl rfl⟩ | omega | skip)))); all_goals (try simp [sbyt, bRow, wrap_u8, viewR, viewL, AV.view, IntKind.bits, u8_8, u8_16, u8_r0, u8_r1, u8_r2, *]))) ?_
  rintro k hk
  have hb := sbyt_len (c := c) (i := i) (l := l.take k)
  rw [List.length_take] at hb
  (iterate 2 all_goals (try (repeat' (conv => whnf); (first | with_reducible refine And.intro ?_ ?_ | with_reducible exact True.intro | (intro h; (first | cases h | ((try simp only [vis, Int.reduceToNat] at h); (try (exfalso; omega))))) | (with_reducible refine Vc.mk ?_; fail) | (with_reducible refine cutG ?_; fail) | refine idx_map ?_ ?_ | refine idx_mapI ?_ ?_ ?_ ))))
  all_goals (try omega)
  all_goals (try ((first | with_reducible refine Vc.mk ?_ | refine Vc.mk ?_); (try exact GLt)))
  · refine nextG (k + 1) (by omega) (by omega) (by (refine le_sub [0, 1] rfl rfl ?_ ?_); all_goals ((repeat' (conv => whnf); (first | with_reducible refine And.intro ?_ ?_ | with_reducible exact True.intro | with_reducible exact Or.inl rfl | (refine Vc.mk ?_; (first | exact rfl | exact ⟨rfl, .inl rfl⟩ | omega | skip)))); try (rw [sbyt_succ (by omega)]; simp [bRow, wrap_u8, viewR, viewL, AV.view]; done)))
  · have e : k = l.length := by omega
    subst e
    rw [List.take_length]
    conv => whnf
    refine ⟨sbyt c i l, rfl, ?_⟩
    (iterate 2 all_goals (try (repeat' (conv => whnf); (first | with_reducible refine And.intro ?_ ?_ | with_reducible exact True.intro | (intro h; (first | cases h | ((try simp only [vis, Int.reduceToNat] at h); (try (exfalso; omega))))) | (with_reducible refine Vc.mk ?_; fail) | (with_reducible refine cutG ?_; fail) | refine idx_map ?_ ?_ | refine idx_mapI ?_ ?_ ?_ ))))
    ((try (conv => whnf)); refine ⟨[], rfl, rfl, ?_, ?_⟩); (repeat' (conv => whnf); (first | with_reducible refine And.intro ?_ ?_ | with_reducible exact True.intro | with_reducible exact Or.inl rfl | (refine Vc.mk ?_; (first | exact rfl | exact ⟨rfl, .inl rfl⟩ | omega | skip))))
end Go.Proofs.Ytimfnpjcedjmiaa

/-
  States of bytes.
-/
namespace Go.Proofs.Ytimfnpjcedjmiaa
open Go.RowKit
set_option linter.unusedSimpArgs false
theorem or64 {x y k : Nat} (hx : x < 2 ^ k) (hb : y * 2 ^ k + x < 2 ^ 63) : (BitVec.ofInt 64 (x : Int) ||| BitVec.ofInt 64 ((y * 2 ^ k : Nat) : Int)).toNat = y * 2 ^ k + x := by
  rw [BitVec.ofInt_natCast, BitVec.ofInt_natCast, BitVec.toNat_or, BitVec.toNat_ofNat, BitVec.toNat_ofNat, Nat.mod_eq_of_lt (by omega), Nat.mod_eq_of_lt (by omega), Nat.or_comm, ← Nat.shiftLeft_eq, ← Nat.shiftLeft_add_eq_or_of_lt hx]
theorem seq_or {a b c : Nat} (ha : a < 256) (hb : b < 256) (hc : c < 256) :
    IntKind.i64.wrap (BitVec.ofInt IntKind.i64.bits (IntKind.i64.wrap (BitVec.ofInt IntKind.i64.bits (a : Int) ||| BitVec.ofInt IntKind.i64.bits (IntKind.i64.wrap ((b : Int) * 2 ^ (min (8 : Int).toNat IntKind.i64.bits)))).toNat) ||| BitVec.ofInt IntKind.i64.bits (IntKind.i64.wrap ((c : Int) * 2 ^ (min (16 : Int).toNat IntKind.i64.bits)))).toNat = a + 256 * b + 65536 * c := by
  have e8 : (b : Int) * 2 ^ (min (8 : Int).toNat IntKind.i64.bits) = ((b * 2 ^ 8 : Nat) : Int) := by simp [IntKind.bits]
  have e16 : (c : Int) * 2 ^ (min (16 : Int).toNat IntKind.i64.bits) = ((c * 2 ^ 16 : Nat) : Int) := by simp [IntKind.bits]
  rw [e8, e16, wrap_in (x := ((b * 2 ^ 8 : Nat) : Int)) (by unfold In64; omega), wrap_in (x := ((c * 2 ^ 16 : Nat) : Int)) (by unfold In64; omega)]
  show IntKind.i64.wrap (BitVec.ofInt 64 (IntKind.i64.wrap (BitVec.ofInt 64 (a : Int) ||| BitVec.ofInt 64 ((b * 2 ^ 8 : Nat) : Int)).toNat) ||| BitVec.ofInt 64 ((c * 2 ^ 16 : Nat) : Int)).toNat = _
  rw [or64 (by omega) (by omega), wrap_in (x := ((b * 2 ^ 8 + a : Nat) : Int)) (by unfold In64; omega), or64 (by omega) (by omega), wrap_in (by unfold In64; omega)]
  omega
def sopts (s : ByteArray) (n : Nat) : List (Int × Int) := (List.range n).map fun q => ((byteAt s (4 + 2 * q) : Int), (byteAt s (5 + 2 * q) : Int))
theorem sopts_succ {s : ByteArray} {n : Nat} : sopts s (n + 1) = sopts s n ++ [((byteAt s (4 + 2 * n) : Int), (byteAt s (5 + 2 * n) : Int))] := by
  unfold sopts; rw [List.range_succ, List.map_append]; rfl
theorem sopts_len {s : ByteArray} {n : Nat} : (sopts s n).length = n := by simp [sopts]
def sseq (s : ByteArray) : Int := byteAt s 1 + 256 * byteAt s 2 + 65536 * byteAt s 3
def snum (s : ByteArray) : Nat := (s.size - 4) / 2
def sgood (s : ByteArray) : Bool := decide (4 ≤ s.size) && decide (s.size % 2 = 0) && decide (sfault (byteAt s 0) (sseq s) (sopts s (snum s)) = 0)
theorem sgood_iff {s : ByteArray} : sgood s = true ↔ 4 ≤ s.size ∧ s.size % 2 = 0 ∧ sfault (byteAt s 0) (sseq s) (sopts s (snum s)) = 0 := by simp [sgood, and_assoc]
def scode (s : ByteArray) : Int := if sgood s then byteAt s 0 else 0
def sid (s : ByteArray) : Int := if sgood s then sseq s else 0
def sopt (s : ByteArray) : List (Int × Int) := if sgood s then sopts s (snum s) else []
def serr (s : ByteArray) : Int := if sgood s then 0 else 4
set_option maxHeartbeats 4000000 in
set_option maxRecDepth 100000 in
theorem sparse_ok (s : ByteArray) (hs : s.size ≤ 1000) : Fn Try.prog 67 [.v (.string s)] [] (.tup [.agg [.v (.int .i64 (scode s)), .v (.int .i64 (sid s)), .sl 2 ((sopt s).map opRow) none], .err (serr s)]) [] := by
  have b0 := byteAt_lt s 0
  have b1 := byteAt_lt s 1
  have b2 := byteAt_lt s 2
  have b3 := byteAt_lt s 3
  have hn : snum s = (s.size - 4) / 2 := rfl
  have hsq := seq_or b1 b2 b3
  have tm : (s.size : Int).tmod 2 = (s.size : Int) % 2 := Int.tmod_eq_emod_of_nonneg (by omega)
  refine fn_of mixed [] [] Try.func67 rfl (by decide +kernel) Try.ntmps67 rfl (congrArg Array.toList Try.results67) rfl (by decide +kernel) ?_
  (iterate 2 all_goals (try (repeat' (conv => whnf); (first | with_reducible refine And.intro ?_ ?_ | with_reducible exact True.intro | (intro h; (first | cases h | ((try simp only [vis, Int.reduceToNat] at h); (try (exfalso; omega))))) | (with_reducible refine Vc.mk ?_; fail) | (with_reducible refine cutG ?_; fail) | refine idx_map ?_ ?_ | refine idx_mapI ?_ ?_ ?_ ))))
  all_goals (try ((first | with_reducible refine Vc.mk ?_ | refine Vc.mk ?_); (try exact GLt)))
  all_goals (try
    (have hb : ¬ sgood s = true := fun h' => by have := sgood_iff.1 h'; omega
     ((try (conv => whnf)); refine ⟨[], rfl, rfl, ?_, ?_⟩); (repeat' (conv => whnf); (first | with_reducible refine And.intro ?_ ?_ | with_reducible exact True.intro | with_reducible exact Or.inl rfl | (refine Vc.mk ?_; (first | exact rfl | exact ⟨rfl, .inl rfl⟩ | omega | skip)))); all_goals simp [scode, sid, sopt, serr, hb]))
  refine lpG (fun k : Nat => ⟨[(0, .v (.string s)), (2, .box 0 0), (4, .box 1 0), (5, .v (.int .i64 (4 + 2 * (k : Int))))], [.cells [.any, .any, .any], .cells [.v (.int .i64 (byteAt s 0)), .v (.int .i64 (sseq s)), .sl 2 ((sopts s k).map opRow) (some (2, 1))], .grow 168 2 1]⟩) (fun k => k ≤ snum s) (fun k => snum s - k) 0 (by omega) ?_ ?_
  · refine AS.le_trans (le_nilC 1 2 168 2 _ rfl rfl) ?_
    (refine le_sub [0, 1, 2] rfl rfl ?_ ?_)
    all_goals ((repeat' (conv => whnf); (first | with_reducible refine And.intro ?_ ?_ | with_reducible exact True.intro | with_reducible exact Or.inl rfl | (refine Vc.mk ?_; (first | exact rfl | exact ⟨rfl, .inl rfl⟩ | omega | skip)))); all_goals (try (first | (simp only [wrap_byte, Int.reduceToNat]; done) | (simp only [wrap_byte, Int.reduceToNat]; exact hsq) | (simp [sopts]; done))))
  intro k hk
  have hlen := sopts_len (s := s) (n := k)
  have e1 : (4 + 2 * (k : Int)).toNat = 4 + 2 * k := by omega
  have e2 : (4 + 2 * (k : Int) + 1).toNat = 5 + 2 * k := by omega
  (iterate 2 all_goals (try (repeat' (conv => whnf); (first | with_reducible refine And.intro ?_ ?_ | with_reducible exact True.intro | (intro h; (first | cases h | ((try simp only [vis, Int.reduceToNat] at h); (try (exfalso; omega))))) | (with_reducible refine Vc.mk ?_; fail) | (with_reducible refine cutG ?_; fail) | refine idx_map ?_ ?_ | refine idx_mapI ?_ ?_ ?_ ))))
  all_goals (try omega)
  all_goals (try ((first | with_reducible refine Vc.mk ?_ | refine Vc.mk ?_); (try exact GLt)))
  · refine nextG (k + 1) (by omega) (by omega) (by (refine le_sub [0, 1, 2] rfl rfl ?_ ?_); all_goals ((repeat' (conv => whnf); (first | with_reducible refine And.intro ?_ ?_ | with_reducible exact True.intro | with_reducible exact Or.inl rfl | (refine Vc.mk ?_; (first | exact rfl | exact ⟨rfl, .inl rfl⟩ | omega | skip)))); all_goals (try (rw [sopts_succ]; simp [opRow, wrap_byte, viewR, viewL, AV.view, e1, e2]))))
  have e : k = snum s := by omega
  subst e
  (refine ⟨_, _, _, _, [], scheck_ok (byteAt s 0) (sseq s) (sopts s (snum s)), rfl, rfl, rfl, ?_, ?_, ?_⟩)
  · (repeat' (conv => whnf); (first | with_reducible refine And.intro ?_ ?_ | with_reducible exact True.intro | with_reducible exact Or.inl rfl | (refine Vc.mk ?_; (first | exact rfl | exact ⟨rfl, .inl rfl⟩ | omega | skip))))
  · (repeat' (conv => whnf); (first | with_reducible refine And.intro ?_ ?_ | with_reducible exact True.intro | with_reducible exact Or.inl rfl | (refine Vc.mk ?_; (first | exact rfl | exact ⟨rfl, .inl rfl⟩ | omega | skip))))
  (iterate 2 all_goals (try (repeat' (conv => whnf); (first | with_reducible refine And.intro ?_ ?_ | with_reducible exact True.intro | (intro h; (first | cases h | ((try simp only [vis, Int.reduceToNat] at h); (try (exfalso; omega))))) | (with_reducible refine Vc.mk ?_; fail) | (with_reducible refine cutG ?_; fail) | refine idx_map ?_ ?_ | refine idx_mapI ?_ ?_ ?_ ))))
  all_goals (try ((first | with_reducible refine Vc.mk ?_ | refine Vc.mk ?_); (try exact GLt)))
  · have hb : ¬ sgood s = true := fun h' => by have := sgood_iff.1 h'; omega
    ((try (conv => whnf)); refine ⟨[], rfl, rfl, ?_, ?_⟩); (repeat' (conv => whnf); (first | with_reducible refine And.intro ?_ ?_ | with_reducible exact True.intro | with_reducible exact Or.inl rfl | (refine Vc.mk ?_; (first | exact rfl | exact ⟨rfl, .inl rfl⟩ | omega | skip)))); all_goals simp [scode, sid, sopt, serr, hb]
  · have hb : sgood s = true := sgood_iff.2 ⟨by omega, by omega, by omega⟩
    ((try (conv => whnf)); refine ⟨[], rfl, rfl, ?_, ?_⟩); (repeat' (conv => whnf); (first | with_reducible refine And.intro ?_ ?_ | with_reducible exact True.intro | with_reducible exact Or.inl rfl | (refine Vc.mk ?_; (first | exact rfl | exact ⟨rfl, .inl rfl⟩ | omega | skip)))); all_goals simp [scode, sid, sopt, serr, hb]
end Go.Proofs.Ytimfnpjcedjmiaa

/-
  States of bytes: the reference's.
-/
namespace Go.Proofs.Ytimfnpjcedjmiaa
open Go.RowKit
set_option linter.unusedSimpArgs false
set_option maxHeartbeats 4000000 in
set_option maxRecDepth 100000 in
theorem sof_ok (s : ByteArray) (hs : s.size ≤ 1000) : Fn Try.prog 68 [.v (.string s)] [] (.tup [.agg [.v (.int .i64 (scode s)), .v (.int .i64 (sid s)), .sl 2 ((sopt s).map opRow) none], .v (.int .i64 (serr s))]) [] := by
  have b0 := byteAt_lt s 0
  have b1 := byteAt_lt s 1
  have b2 := byteAt_lt s 2
  have b3 := byteAt_lt s 3
  have hn : snum s = (s.size - 4) / 2 := rfl
  have hsq : sseq s = byteAt s 1 + 256 * byteAt s 2 + 65536 * byteAt s 3 := rfl
  have tm : (s.size : Int).tmod 2 = (s.size : Int) % 2 := Int.tmod_eq_emod_of_nonneg (by omega)
  have hpf := sfault_nonneg (byteAt s 0) (sseq s) (sopts s (snum s))
  refine fn_of mixed [] [] Try.func68 rfl (by decide +kernel) Try.ntmps68 rfl (congrArg Array.toList Try.results68) rfl (by decide +kernel) ?_
  (iterate 2 all_goals (try (repeat' (conv => whnf); (first | with_reducible refine And.intro ?_ ?_ | with_reducible exact True.intro | (intro h; (first | cases h | ((try simp only [vis, Int.reduceToNat] at h); (try (exfalso; omega))))) | (with_reducible refine Vc.mk ?_; fail) | (with_reducible refine cutG ?_; fail) | refine idx_map ?_ ?_ | refine idx_mapI ?_ ?_ ?_ ))))
  all_goals (try ((first | with_reducible refine Vc.mk ?_ | refine Vc.mk ?_); (try exact GLt)))
  all_goals (try
    (have hb : ¬ sgood s = true := fun h' => by have := sgood_iff.1 h'; omega
     ((try (conv => whnf)); refine ⟨[], rfl, rfl, ?_, ?_⟩); (repeat' (conv => whnf); (first | with_reducible refine And.intro ?_ ?_ | with_reducible exact True.intro | with_reducible exact Or.inl rfl | (refine Vc.mk ?_; (first | exact rfl | exact ⟨rfl, .inl rfl⟩ | omega | skip)))); all_goals simp [scode, sid, sopt, serr, hb]))
  refine lpG (fun k : Nat => ⟨[(0, .v (.string s)), (2, .box 0 0), (4, .box 1 0), (5, .v (.int .i64 (4 + 2 * (k : Int))))], [.cells [.any, .any, .any], .cells [.v (.int .i64 (byteAt s 0)), .v (.int .i64 (sseq s)), .sl 2 ((sopts s k).map opRow) (some (2, 1))], .grow 168 2 1]⟩) (fun k => k ≤ snum s) (fun k => snum s - k) 0 (by omega) ?_ ?_
  · refine AS.le_trans (le_nilC 1 2 168 2 _ rfl rfl) ?_
    (refine le_sub [0, 1, 2] rfl rfl ?_ ?_)
    all_goals ((repeat' (conv => whnf); (first | with_reducible refine And.intro ?_ ?_ | with_reducible exact True.intro | with_reducible exact Or.inl rfl | (refine Vc.mk ?_; (first | exact rfl | exact ⟨rfl, .inl rfl⟩ | omega | skip)))); all_goals (try (first | (simp only [wrap_byte, Int.reduceToNat]; done) | (simp only [wrap_byte, Int.reduceToNat, sseq]; done) | (simp [sopts]; done))))
  intro k hk
  have hlen := sopts_len (s := s) (n := k)
  have e1 : (4 + 2 * (k : Int)).toNat = 4 + 2 * k := by omega
  have e2 : (4 + 2 * (k : Int) + 1).toNat = 5 + 2 * k := by omega
  (iterate 2 all_goals (try (repeat' (conv => whnf); (first | with_reducible refine And.intro ?_ ?_ | with_reducible exact True.intro | (intro h; (first | cases h | ((try simp only [vis, Int.reduceToNat] at h); (try (exfalso; omega))))) | (with_reducible refine Vc.mk ?_; fail) | (with_reducible refine cutG ?_; fail) | refine idx_map ?_ ?_ | refine idx_mapI ?_ ?_ ?_ ))))
  all_goals (try omega)
  all_goals (try ((first | with_reducible refine Vc.mk ?_ | refine Vc.mk ?_); (try exact GLt)))
  · refine nextG (k + 1) (by omega) (by omega) (by (refine le_sub [0, 1, 2] rfl rfl ?_ ?_); all_goals ((repeat' (conv => whnf); (first | with_reducible refine And.intro ?_ ?_ | with_reducible exact True.intro | with_reducible exact Or.inl rfl | (refine Vc.mk ?_; (first | exact rfl | exact ⟨rfl, .inl rfl⟩ | omega | skip)))); all_goals (try (rw [sopts_succ]; simp [opRow, wrap_byte, viewR, viewL, AV.view, e1, e2]))))
  have e : k = snum s := by omega
  subst e
  (refine ⟨_, _, _, _, [], rsfault_ok (byteAt s 0) (sseq s) (sopts s (snum s)), rfl, rfl, rfl, ?_, ?_, ?_⟩)
  · (repeat' (conv => whnf); (first | with_reducible refine And.intro ?_ ?_ | with_reducible exact True.intro | with_reducible exact Or.inl rfl | (refine Vc.mk ?_; (first | exact rfl | exact ⟨rfl, .inl rfl⟩ | omega | skip))))
  · (repeat' (conv => whnf); (first | with_reducible refine And.intro ?_ ?_ | with_reducible exact True.intro | with_reducible exact Or.inl rfl | (refine Vc.mk ?_; (first | exact rfl | exact ⟨rfl, .inl rfl⟩ | omega | skip))))
  (iterate 2 all_goals (try (repeat' (conv => whnf); (first | with_reducible refine And.intro ?_ ?_ | with_reducible exact True.intro | (intro h; (first | cases h | ((try simp only [vis, Int.reduceToNat] at h); (try (exfalso; omega))))) | (with_reducible refine Vc.mk ?_; fail) | (with_reducible refine cutG ?_; fail) | refine idx_map ?_ ?_ | refine idx_mapI ?_ ?_ ?_ ))))
  all_goals (try ((first | with_reducible refine Vc.mk ?_ | refine Vc.mk ?_); (try exact GLt)))
  · have hb : ¬ sgood s = true := fun h' => by have := sgood_iff.1 h'; omega
    ((try (conv => whnf)); refine ⟨[], rfl, rfl, ?_, ?_⟩); (repeat' (conv => whnf); (first | with_reducible refine And.intro ?_ ?_ | with_reducible exact True.intro | with_reducible exact Or.inl rfl | (refine Vc.mk ?_; (first | exact rfl | exact ⟨rfl, .inl rfl⟩ | omega | skip)))); all_goals simp [scode, sid, sopt, serr, hb]
  · have hb : sgood s = true := sgood_iff.2 ⟨by omega, by omega, by omega⟩
    ((try (conv => whnf)); refine ⟨[], rfl, rfl, ?_, ?_⟩); (repeat' (conv => whnf); (first | with_reducible refine And.intro ?_ ?_ | with_reducible exact True.intro | with_reducible exact Or.inl rfl | (refine Vc.mk ?_; (first | exact rfl | exact ⟨rfl, .inl rfl⟩ | omega | skip)))); all_goals simp [scode, sid, sopt, serr, hb]
end Go.Proofs.Ytimfnpjcedjmiaa

/-
  States: alike, copied.
-/
namespace Go.Proofs.Ytimfnpjcedjmiaa
open Go.RowKit
set_option linter.unusedSimpArgs false
set_option maxRecDepth 100000 in
theorem cloneE_ok (rows : List (List AV)) (hl : rows.length ≤ 1000000) : Fn Try.prog 115 [.sl 2 rows none] [] (.sl 2 rows none) [] := by
  refine fn_of mixed [] [] Try.func115 rfl (by decide +kernel) Try.ntmps115 rfl (congrArg Array.toList Try.results115) rfl (by decide +kernel) ?_
  (iterate 2 all_goals (try (repeat' (conv => whnf); (first | with_reducible refine And.intro ?_ ?_ | with_reducible exact True.intro | (intro h; (first | cases h | ((try simp only [vis, Int.reduceToNat] at h); (try (exfalso; omega))))) | (with_reducible refine Vc.mk ?_; fail) | (with_reducible refine cutG ?_; fail) | refine idx_map ?_ ?_ | refine idx_mapI ?_ ?_ ?_ ))))
  all_goals (try ((first | with_reducible refine Vc.mk ?_ | refine Vc.mk ?_); (try exact GLt)))
  all_goals (((try (conv => whnf)); refine ⟨[], rfl, rfl, ?_, ?_⟩); (repeat' (conv => whnf); (first | with_reducible refine And.intro ?_ ?_ | with_reducible exact True.intro | with_reducible exact Or.inl rfl | (refine Vc.mk ?_; (first | exact rfl | exact ⟨rfl, .inl rfl⟩ | omega | skip)))))
  all_goals simp_all
set_option maxRecDepth 100000 in
theorem scopy_ok (o q : Int) (rows : List (List AV)) (hl : rows.length ≤ 1000000) : Fn Try.prog 66 [.agg [.v (.int .i64 o), .v (.int .i64 q), .sl 2 rows none]] [] (.agg [.v (.int .i64 o), .v (.int .i64 q), .sl 2 rows none]) [] := by
  refine fn_of mixed [] [] Try.func66 rfl (by decide +kernel) Try.ntmps66 rfl (congrArg Array.toList Try.results66) rfl (by decide +kernel) ?_
  (iterate 2 all_goals (try (repeat' (conv => whnf); (first | with_reducible refine And.intro ?_ ?_ | with_reducible exact True.intro | (intro h; (first | cases h | ((try simp only [vis, Int.reduceToNat] at h); (try (exfalso; omega))))) | (with_reducible refine Vc.mk ?_; fail) | (with_reducible refine cutG ?_; fail) | refine idx_map ?_ ?_ | refine idx_mapI ?_ ?_ ?_ ))))
  (all_goals (try ((first | (refine call0 (cloneE_ok rows hl) ?_ ?_) | (refine pure0 (cloneE_ok rows hl) rfl ?_ ?_)); (· (repeat' (conv => whnf); (first | with_reducible refine And.intro ?_ ?_ | with_reducible exact True.intro | with_reducible exact Or.inl rfl | (refine Vc.mk ?_; (first | exact rfl | exact ⟨rfl, .inl rfl⟩ | omega | skip))))); (iterate 2 all_goals (try (repeat' (conv => whnf); (first | with_reducible refine And.intro ?_ ?_ | with_reducible exact True.intro | (intro h; (first | cases h | ((try simp only [vis, Int.reduceToNat] at h); (try (exfalso; omega))))) | (with_reducible refine Vc.mk ?_; fail) | (with_reducible refine cutG ?_; fail) | refine idx_map ?_ ?_ | refine idx_mapI ?_ ?_ ?_ )))))))
  all_goals (((try (conv => whnf)); refine ⟨[], rfl, rfl, ?_, ?_⟩); (repeat' (conv => whnf); (first | with_reducible refine And.intro ?_ ?_ | with_reducible exact True.intro | with_reducible exact Or.inl rfl | (refine Vc.mk ?_; (first | exact rfl | exact ⟨rfl, .inl rfl⟩ | omega | skip)))))
set_option maxHeartbeats 4000000 in
set_option maxRecDepth 100000 in
theorem rsameS_ok (o q p r : Int) (la lb : List (Int × Int)) (ha : la.length ≤ 1000000) : Fn Try.prog 65 [.agg [.v (.int .i64 o), .v (.int .i64 q), .sl 2 (la.map opRow) none], .agg [.v (.int .i64 p), .v (.int .i64 r), .sl 2 (lb.map opRow) none]] [] (.v (.bool (o == p && q == r && la == lb))) [] := by
  refine fn_of mixed [] [] Try.func65 rfl (by decide +kernel) Try.ntmps65 rfl (congrArg Array.toList Try.results65) rfl (by decide +kernel) ?_
  (iterate 2 all_goals (try (repeat' (conv => whnf); (first | with_reducible refine And.intro ?_ ?_ | with_reducible exact True.intro | (intro h; (first | cases h | ((try simp only [vis, Int.reduceToNat] at h); (try (exfalso; omega))))) | (with_reducible refine Vc.mk ?_; fail) | (with_reducible refine cutG ?_; fail) | refine idx_map ?_ ?_ | refine idx_mapI ?_ ?_ ?_ ))))
  all_goals (try
    (((try (conv => whnf)); refine ⟨[], rfl, rfl, ?_, ?_⟩)
     · (repeat' (conv => whnf); (first | with_reducible refine And.intro ?_ ?_ | with_reducible exact True.intro | with_reducible exact Or.inl rfl | (refine Vc.mk ?_; (first | exact rfl | exact ⟨rfl, .inl rfl⟩ | omega | skip))))
     · (repeat' (conv => whnf); (first | with_reducible refine And.intro ?_ ?_ | with_reducible exact True.intro | with_reducible exact Or.inl rfl | (refine Vc.mk ?_; (first | exact rfl | exact ⟨rfl, .inl rfl⟩ | omega | skip))))
       all_goals
         (have : ¬ (o = p ∧ q = r ∧ la = lb) := by
            rintro ⟨e1, e2, e3⟩
            subst e3
            omega
          rw [eq_comm, Bool.eq_false_iff]
          simp only [ne_eq, Bool.and_eq_true, beq_iff_eq, and_assoc]
          exact this)))
  refine lpG (fun k : Nat => ⟨[(2, .box 0 0), (3, .box 1 0), (5, .v (.int .i64 k))], [.cells [.v (.int .i64 o), .v (.int .i64 q), .sl 2 (la.map opRow) none], .cells [.v (.int .i64 p), .v (.int .i64 r), .sl 2 (lb.map opRow) none]]⟩) (fun k => k ≤ la.length ∧ ∀ i, i < k → la[i]? = lb[i]?) (fun k => la.length - k) 0 ⟨by omega, fun i h => by omega⟩ (by (refine le_sub [0, 1] rfl rfl ?_ ?_); all_goals (repeat' (conv => whnf); (first | with_reducible refine And.intro ?_ ?_ | with_reducible exact True.intro | with_reducible exact Or.inl rfl | (refine Vc.mk ?_; (first | exact rfl | exact ⟨rfl, .inl rfl⟩ | omega | skip))))) ?_
  rintro k ⟨hk, hp⟩
  (iterate 2 all_goals (try (repeat' (conv => whnf); (first | with_reducible refine And.intro ?_ ?_ | with_reducible exact True.intro | (intro h; (first | cases h | ((try simp only [vis, Int.reduceToNat] at h); (try (exfalso; omega))))) | (with_reducible refine Vc.mk ?_; fail) | (with_reducible refine cutG ?_; fail) | refine idx_map ?_ ?_ | refine idx_mapI ?_ ?_ ?_ | (refine ne_edge ?_)))))
  all_goals (try omega)
  all_goals (try ((first | with_reducible refine Vc.mk ?_ | refine Vc.mk ?_); (try exact GLt)))
  · ((try (conv => whnf)); refine ⟨[], rfl, rfl, ?_, ?_⟩)
    · (repeat' (conv => whnf); (first | with_reducible refine And.intro ?_ ?_ | with_reducible exact True.intro | with_reducible exact Or.inl rfl | (refine Vc.mk ?_; (first | exact rfl | exact ⟨rfl, .inl rfl⟩ | omega | skip))))
    · (repeat' (conv => whnf); (first | with_reducible refine And.intro ?_ ?_ | with_reducible exact True.intro | with_reducible exact Or.inl rfl | (refine Vc.mk ?_; (first | exact rfl | exact ⟨rfl, .inl rfl⟩ | omega | skip))))
      have : ¬ (o = p ∧ q = r ∧ la = lb) := by
        rintro ⟨_, _, e3⟩
        subst e3
        simp at h
      rw [eq_comm, Bool.eq_false_iff]
      simp only [ne_eq, Bool.and_eq_true, beq_iff_eq, and_assoc]
      exact this
  · refine nextG (k + 1) ⟨by omega, fun i hi => ?_⟩ (by omega) (by (refine le_sub [0, 1] rfl rfl ?_ ?_); all_goals (repeat' (conv => whnf); (first | with_reducible refine And.intro ?_ ?_ | with_reducible exact True.intro | with_reducible exact Or.inl rfl | (refine Vc.mk ?_; (first | exact rfl | exact ⟨rfl, .inl rfl⟩ | omega | skip)))))
    by_cases hik : i = k
    · subst hik
      rw [List.getElem?_eq_getElem (by omega), List.getElem?_eq_getElem (by omega)]
      simp at h
      rw [Prod.ext h.1 h.2]
    · exact hp i (by omega)
  · have : la = lb := List.ext_getElem? fun i => by
      by_cases hi : i < k
      · exact hp i hi
      · rw [List.getElem?_eq_none (by omega), List.getElem?_eq_none (by omega)]
    ((try (conv => whnf)); refine ⟨[], rfl, rfl, ?_, ?_⟩)
    · (repeat' (conv => whnf); (first | with_reducible refine And.intro ?_ ?_ | with_reducible exact True.intro | with_reducible exact Or.inl rfl | (refine Vc.mk ?_; (first | exact rfl | exact ⟨rfl, .inl rfl⟩ | omega | skip))))
    · (repeat' (conv => whnf); (first | with_reducible refine And.intro ?_ ?_ | with_reducible exact True.intro | with_reducible exact Or.inl rfl | (refine Vc.mk ?_; (first | exact rfl | exact ⟨rfl, .inl rfl⟩ | omega | skip))))
      all_goals simp_all
set_option maxRecDepth 100000 in
theorem lightS_ok (c i : Int) (l : List (Int × Int)) : Fn Try.prog 60 [.agg [.v (.int .i64 c), .v (.int .i64 i), .sl 2 (l.map opRow) none]] [] (.v (.bool (decide (l.length ≤ 9)))) [] := by
  refine fn_of mixed [] [] Try.func60 rfl (by decide +kernel) Try.ntmps60 rfl (congrArg Array.toList Try.results60) rfl (by decide +kernel) ?_
  (iterate 2 all_goals (try (repeat' (conv => whnf); (first | with_reducible refine And.intro ?_ ?_ | with_reducible exact True.intro | (intro h; (first | cases h | ((try simp only [vis, Int.reduceToNat] at h); (try (exfalso; omega))))) | (with_reducible refine Vc.mk ?_; fail) | (with_reducible refine cutG ?_; fail) | refine idx_map ?_ ?_ | refine idx_mapI ?_ ?_ ?_ ))))
  all_goals (((try (conv => whnf)); refine ⟨[], rfl, rfl, ?_, ?_⟩); (repeat' (conv => whnf); (first | with_reducible refine And.intro ?_ ?_ | with_reducible exact True.intro | with_reducible exact Or.inl rfl | (refine Vc.mk ?_; (first | exact rfl | exact ⟨rfl, .inl rfl⟩ | omega | skip)))); all_goals simp)
  all_goals (rw [show ((9 : Int) = ((9 : Nat) : Int)) from rfl, Int.ofNat_le])
end Go.Proofs.Ytimfnpjcedjmiaa

/-
  Compared.
-/
namespace Go.Proofs.Ytimfnpjcedjmiaa
open Go.RowKit
set_option linter.unusedSimpArgs false
def cmpI (a b : Int) : Int := if a < b then -1 else if b < a then 1 else 0
def orI (a b : Int) : Int := if a ≠ 0 then a else b
set_option maxRecDepth 100000 in
theorem isNaN_ok (a : Int) : Fn Try.prog 130 [.v (.int .i64 a)] [] (.v (.bool false)) [] := by
  refine fn_of mixed [] [] Try.func130 rfl (by decide +kernel) Try.ntmps130 rfl (congrArg Array.toList Try.results130) rfl (by decide +kernel) ?_
  (iterate 2 all_goals (try (repeat' (conv => whnf); (first | with_reducible refine And.intro ?_ ?_ | with_reducible exact True.intro | (intro h; (first | cases h | ((try simp only [vis, Int.reduceToNat] at h); (try (exfalso; omega))))) | (with_reducible refine Vc.mk ?_; fail) | (with_reducible refine cutG ?_; fail) | refine idx_map ?_ ?_ | refine idx_mapI ?_ ?_ ?_ ))))
  all_goals (((try (conv => whnf)); refine ⟨[], rfl, rfl, ?_, ?_⟩); (repeat' (conv => whnf); (first | with_reducible refine And.intro ?_ ?_ | with_reducible exact True.intro | with_reducible exact Or.inl rfl | (refine Vc.mk ?_; (first | exact rfl | exact ⟨rfl, .inl rfl⟩ | omega | skip)))); all_goals simp)
set_option maxRecDepth 100000 in
theorem cmpI_ok (a b : Int) : Fn Try.prog 117 [.v (.int .i64 a), .v (.int .i64 b)] [] (.v (.int .i64 (cmpI a b))) [] := by
  refine fn_of mixed [] [] Try.func117 rfl (by decide +kernel) Try.ntmps117 rfl (congrArg Array.toList Try.results117) rfl (by decide +kernel) ?_
  (iterate 2 all_goals (try (repeat' (conv => whnf); (first | with_reducible refine And.intro ?_ ?_ | with_reducible exact True.intro | (intro h; (first | cases h | ((try simp only [vis, Int.reduceToNat] at h); (try (exfalso; omega))))) | (with_reducible refine Vc.mk ?_; fail) | (with_reducible refine cutG ?_; fail) | refine idx_map ?_ ?_ | refine idx_mapI ?_ ?_ ?_ ))))
  (all_goals (try ((first | (refine call0 (isNaN_ok a) ?_ ?_) | (refine pure0 (isNaN_ok a) rfl ?_ ?_)); (· (repeat' (conv => whnf); (first | with_reducible refine And.intro ?_ ?_ | with_reducible exact True.intro | with_reducible exact Or.inl rfl | (refine Vc.mk ?_; (first | exact rfl | exact ⟨rfl, .inl rfl⟩ | omega | skip))))); (iterate 2 all_goals (try (repeat' (conv => whnf); (first | with_reducible refine And.intro ?_ ?_ | with_reducible exact True.intro | (intro h; (first | cases h | ((try simp only [vis, Int.reduceToNat] at h); (try (exfalso; omega))))) | (with_reducible refine Vc.mk ?_; fail) | (with_reducible refine cutG ?_; fail) | refine idx_map ?_ ?_ | refine idx_mapI ?_ ?_ ?_ )))))))
  (all_goals (try ((first | (refine call0 (isNaN_ok b) ?_ ?_) | (refine pure0 (isNaN_ok b) rfl ?_ ?_)); (· (repeat' (conv => whnf); (first | with_reducible refine And.intro ?_ ?_ | with_reducible exact True.intro | with_reducible exact Or.inl rfl | (refine Vc.mk ?_; (first | exact rfl | exact ⟨rfl, .inl rfl⟩ | omega | skip))))); (iterate 2 all_goals (try (repeat' (conv => whnf); (first | with_reducible refine And.intro ?_ ?_ | with_reducible exact True.intro | (intro h; (first | cases h | ((try simp only [vis, Int.reduceToNat] at h); (try (exfalso; omega))))) | (with_reducible refine Vc.mk ?_; fail) | (with_reducible refine cutG ?_; fail) | refine idx_map ?_ ?_ | refine idx_mapI ?_ ?_ ?_ )))))))
  all_goals (((try (conv => whnf)); refine ⟨[], rfl, rfl, ?_, ?_⟩); (repeat' (conv => whnf); (first | with_reducible refine And.intro ?_ ?_ | with_reducible exact True.intro | with_reducible exact Or.inl rfl | (refine Vc.mk ?_; (first | exact rfl | exact ⟨rfl, .inl rfl⟩ | omega | skip)))); all_goals (unfold cmpI; (repeat' split) <;> first | rfl | omega))
/-- The first that is not 0. -/
def orL : List Int → Int
  | [] => 0
  | x :: r => if x ≠ 0 then x else orL r
set_option maxHeartbeats 4000000 in
set_option maxRecDepth 100000 in
theorem orL_ok (l : List Int) (hl : l.length ≤ 1000000) : Fn Try.prog 116 [.sl 1 (l.map iRow) none] [] (.v (.int .i64 (orL l))) [] := by
  refine fn_of mixed [] [] Try.func116 rfl (by decide +kernel) Try.ntmps116 rfl (congrArg Array.toList Try.results116) rfl (by decide +kernel) ?_
  (iterate 2 all_goals (try (repeat' (conv => whnf); (first | with_reducible refine And.intro ?_ ?_ | with_reducible exact True.intro | (intro h; (first | cases h | ((try simp only [vis, Int.reduceToNat] at h); (try (exfalso; omega))))) | (with_reducible refine Vc.mk ?_; fail) | (with_reducible refine cutG ?_; fail) | refine idx_map ?_ ?_ | refine idx_mapI ?_ ?_ ?_ ))))
  refine lpG (fun k : Nat => ⟨[(3, .v (.int .i64 0)), (6, .sl 1 (l.map iRow) none), (7, .v (.int .i64 l.length)), (8, .v (.int .i64 k))], []⟩) (fun k => k ≤ l.length ∧ orL l = orL (l.drop k)) (fun k => l.length - k) 0 ⟨by omega, rfl⟩ (by (refine le_sub [] rfl rfl ?_ ?_); all_goals ((repeat' (conv => whnf); (first | with_reducible refine And.intro ?_ ?_ | with_reducible exact True.intro | with_reducible exact Or.inl rfl | (refine Vc.mk ?_; (first | exact rfl | exact ⟨rfl, .inl rfl⟩ | omega | skip)))); all_goals (try simp))) ?_
  rintro k ⟨hk, hq⟩
  (iterate 2 all_goals (try (repeat' (conv => whnf); (first | with_reducible refine And.intro ?_ ?_ | with_reducible exact True.intro | (intro h; (first | cases h | ((try simp only [vis, Int.reduceToNat] at h); (try (exfalso; omega))))) | (with_reducible refine Vc.mk ?_; fail) | (with_reducible refine cutG ?_; fail) | refine idx_map ?_ ?_ | refine idx_mapI ?_ ?_ ?_ ))))
  all_goals (try omega)
  all_goals (try ((first | with_reducible refine Vc.mk ?_ | refine Vc.mk ?_); (try exact GLt)))
  · have hk' : k < l.length := by omega
    rw [drop_cons hk'] at hq
    ((try (conv => whnf)); refine ⟨[], rfl, rfl, ?_, ?_⟩)
    · (repeat' (conv => whnf); (first | with_reducible refine And.intro ?_ ?_ | with_reducible exact True.intro | with_reducible exact Or.inl rfl | (refine Vc.mk ?_; (first | exact rfl | exact ⟨rfl, .inl rfl⟩ | omega | skip))))
    · (repeat' (conv => whnf); (first | with_reducible refine And.intro ?_ ?_ | with_reducible exact True.intro | with_reducible exact Or.inl rfl | (refine Vc.mk ?_; (first | exact rfl | exact ⟨rfl, .inl rfl⟩ | omega | skip))))
      all_goals (rw [hq]; simp [orL, h])
  · have hk' : k < l.length := by omega
    rw [drop_cons hk'] at hq
    refine nextG (k + 1) ⟨by omega, by rw [hq]; simp [orL, h]⟩ (by omega) (by (refine le_sub [] rfl rfl ?_ ?_); all_goals (repeat' (conv => whnf); (first | with_reducible refine And.intro ?_ ?_ | with_reducible exact True.intro | with_reducible exact Or.inl rfl | (refine Vc.mk ?_; (first | exact rfl | exact ⟨rfl, .inl rfl⟩ | omega | skip)))))
  · have e : k = l.length := by omega
    subst e
    rw [List.drop_length] at hq
    ((try (conv => whnf)); refine ⟨[], rfl, rfl, ?_, ?_⟩)
    · (repeat' (conv => whnf); (first | with_reducible refine And.intro ?_ ?_ | with_reducible exact True.intro | with_reducible exact Or.inl rfl | (refine Vc.mk ?_; (first | exact rfl | exact ⟨rfl, .inl rfl⟩ | omega | skip))))
    · (repeat' (conv => whnf); (first | with_reducible refine And.intro ?_ ?_ | with_reducible exact True.intro | with_reducible exact Or.inl rfl | (refine Vc.mk ?_; (first | exact rfl | exact ⟨rfl, .inl rfl⟩ | omega | skip))))
      all_goals exact hq.symm
set_option maxHeartbeats 4000000 in
set_option maxRecDepth 100000 in
theorem newerF_ok (a b c d : Int) : Fn Try.prog 119 [.agg [.v (.int .i64 a), .v (.int .i64 b)], .agg [.v (.int .i64 c), .v (.int .i64 d)]] [] (.v (.int .i64 (orL [cmpI a c, cmpI b d]))) [] := by
  refine fn_of mixed [] [] Try.func119 rfl (by decide +kernel) Try.ntmps119 rfl (congrArg Array.toList Try.results119) rfl (by decide +kernel) ?_
  (iterate 2 all_goals (try (repeat' (conv => whnf); (first | with_reducible refine And.intro ?_ ?_ | with_reducible exact True.intro | (intro h; (first | cases h | ((try simp only [vis, Int.reduceToNat] at h); (try (exfalso; omega))))) | (with_reducible refine Vc.mk ?_; fail) | (with_reducible refine cutG ?_; fail) | refine idx_map ?_ ?_ | refine idx_mapI ?_ ?_ ?_ ))))
  (all_goals (try ((first | (refine call0 (cmpI_ok a c) ?_ ?_) | (refine pure0 (cmpI_ok a c) rfl ?_ ?_)); (· (repeat' (conv => whnf); (first | with_reducible refine And.intro ?_ ?_ | with_reducible exact True.intro | with_reducible exact Or.inl rfl | (refine Vc.mk ?_; (first | exact rfl | exact ⟨rfl, .inl rfl⟩ | omega | skip))))); (iterate 2 all_goals (try (repeat' (conv => whnf); (first | with_reducible refine And.intro ?_ ?_ | with_reducible exact True.intro | (intro h; (first | cases h | ((try simp only [vis, Int.reduceToNat] at h); (try (exfalso; omega))))) | (with_reducible refine Vc.mk ?_; fail) | (with_reducible refine cutG ?_; fail) | refine idx_map ?_ ?_ | refine idx_mapI ?_ ?_ ?_ )))))))
  (all_goals (try ((first | (refine call0 (cmpI_ok b d) ?_ ?_) | (refine pure0 (cmpI_ok b d) rfl ?_ ?_)); (· (repeat' (conv => whnf); (first | with_reducible refine And.intro ?_ ?_ | with_reducible exact True.intro | with_reducible exact Or.inl rfl | (refine Vc.mk ?_; (first | exact rfl | exact ⟨rfl, .inl rfl⟩ | omega | skip))))); (iterate 2 all_goals (try (repeat' (conv => whnf); (first | with_reducible refine And.intro ?_ ?_ | with_reducible exact True.intro | (intro h; (first | cases h | ((try simp only [vis, Int.reduceToNat] at h); (try (exfalso; omega))))) | (with_reducible refine Vc.mk ?_; fail) | (with_reducible refine cutG ?_; fail) | refine idx_map ?_ ?_ | refine idx_mapI ?_ ?_ ?_ )))))))
  have ho := orL_ok [cmpI a c, cmpI b d] (by simp)
  first
    | ((refine ⟨_, _, _, _, [], ho, rfl, rfl, rfl, ?_, ?_, ?_⟩))
    | (refine StopPure.mk _ _ ho rfl ?_ ?_)
  all_goals (try ((repeat' (conv => whnf); (first | with_reducible refine And.intro ?_ ?_ | with_reducible exact True.intro | with_reducible exact Or.inl rfl | (refine Vc.mk ?_; (first | exact rfl | exact ⟨rfl, .inl rfl⟩ | omega | skip)))); done))
  (iterate 2 all_goals (try (repeat' (conv => whnf); (first | with_reducible refine And.intro ?_ ?_ | with_reducible exact True.intro | (intro h; (first | cases h | ((try simp only [vis, Int.reduceToNat] at h); (try (exfalso; omega))))) | (with_reducible refine Vc.mk ?_; fail) | (with_reducible refine cutG ?_; fail) | refine idx_map ?_ ?_ | refine idx_mapI ?_ ?_ ?_ ))))
  ((try (conv => whnf)); refine ⟨[], rfl, rfl, ?_, ?_⟩); (repeat' (conv => whnf); (first | with_reducible refine And.intro ?_ ?_ | with_reducible exact True.intro | with_reducible exact Or.inl rfl | (refine Vc.mk ?_; (first | exact rfl | exact ⟨rfl, .inl rfl⟩ | omega | skip))))
end Go.Proofs.Ytimfnpjcedjmiaa

/-
  Newer.
-/
namespace Go.Proofs.Ytimfnpjcedjmiaa
open Go.RowKit
set_option linter.unusedSimpArgs false
def cmpE : List (Int × Int) → List (Int × Int) → Int
  | [], [] => 0
  | [], _ :: _ => -1
  | _ :: _, [] => 1
  | x :: la, y :: lb => if orL [cmpI x.1 y.1, cmpI x.2 y.2] ≠ 0 then orL [cmpI x.1 y.1, cmpI x.2 y.2] else cmpE la lb
set_option maxHeartbeats 4000000 in
set_option maxRecDepth 100000 in
theorem compareE_ok (la lb : List (Int × Int)) (ha : la.length ≤ 1000000) (hb : lb.length ≤ 1000000) : Fn Try.prog 118 [.sl 2 (la.map opRow) none, .sl 2 (lb.map opRow) none, .clo 119 []] [] (.v (.int .i64 (cmpE la lb))) [] := by
  refine fn_of mixed [] [] Try.func118 rfl (by decide +kernel) Try.ntmps118 rfl (congrArg Array.toList Try.results118) rfl (by decide +kernel) ?_
  (iterate 2 all_goals (try (repeat' (conv => whnf); (first | with_reducible refine And.intro ?_ ?_ | with_reducible exact True.intro | (intro h; (first | cases h | ((try simp only [vis, Int.reduceToNat] at h); (try (exfalso; omega))))) | (with_reducible refine Vc.mk ?_; fail) | (with_reducible refine cutG ?_; fail) | refine idx_map ?_ ?_ | refine idx_mapI ?_ ?_ ?_ ))))
  refine lpG (fun k : Nat => ⟨[(0, .sl 2 (la.map opRow) none), (1, .sl 2 (lb.map opRow) none), (2, .clo 119 []), (11, .sl 2 (la.map opRow) none), (12, .v (.int .i64 la.length)), (13, .v (.int .i64 k))], []⟩) (fun k => k ≤ la.length ∧ k ≤ lb.length ∧ cmpE la lb = cmpE (la.drop k) (lb.drop k)) (fun k => la.length - k) 0 ⟨by omega, by omega, rfl⟩ (by (refine le_sub [] rfl rfl ?_ ?_); all_goals ((repeat' (conv => whnf); (first | with_reducible refine And.intro ?_ ?_ | with_reducible exact True.intro | with_reducible exact Or.inl rfl | (refine Vc.mk ?_; (first | exact rfl | exact ⟨rfl, .inl rfl⟩ | omega | skip)))); all_goals (try simp))) ?_
  rintro k ⟨hk, hk2, hq⟩
  (iterate 2 all_goals (try (repeat' (conv => whnf); (first | with_reducible refine And.intro ?_ ?_ | with_reducible exact True.intro | (intro h; (first | cases h | ((try simp only [vis, Int.reduceToNat] at h); (try (exfalso; omega))))) | (with_reducible refine Vc.mk ?_; fail) | (with_reducible refine cutG ?_; fail) | refine idx_map ?_ ?_ | refine idx_mapI ?_ ?_ ?_ ))))
  all_goals (try omega)
  all_goals (try ((first | with_reducible refine Vc.mk ?_ | refine Vc.mk ?_); (try exact GLt)))
  · rw [drop_cons (l := la) (by omega), drop_nil (l := lb) (by omega)] at hq
    ((try (conv => whnf)); refine ⟨[], rfl, rfl, ?_, ?_⟩); (repeat' (conv => whnf); (first | with_reducible refine And.intro ?_ ?_ | with_reducible exact True.intro | with_reducible exact Or.inl rfl | (refine Vc.mk ?_; (first | exact rfl | exact ⟨rfl, .inl rfl⟩ | omega | skip))))
    all_goals exact hq.symm
  · have h1 : k < la.length := by omega
    have h2 : k < lb.length := by omega
    rw [drop_cons h1, drop_cons h2] at hq
    refine call0 (newerF_ok la[k].1 la[k].2 lb[k].1 lb[k].2) ?_ ?_
    · (repeat' (conv => whnf); (first | with_reducible refine And.intro ?_ ?_ | with_reducible exact True.intro | with_reducible exact Or.inl rfl | (refine Vc.mk ?_; (first | exact rfl | exact ⟨rfl, .inl rfl⟩ | omega | skip))))
    (iterate 2 all_goals (try (repeat' (conv => whnf); (first | with_reducible refine And.intro ?_ ?_ | with_reducible exact True.intro | (intro h; (first | cases h | ((try simp only [vis, Int.reduceToNat] at h); (try (exfalso; omega))))) | (with_reducible refine Vc.mk ?_; fail) | (with_reducible refine cutG ?_; fail) | refine idx_map ?_ ?_ | refine idx_mapI ?_ ?_ ?_ ))))
    all_goals (try ((first | with_reducible refine Vc.mk ?_ | refine Vc.mk ?_); (try exact GLt)))
    · ((try (conv => whnf)); refine ⟨[], rfl, rfl, ?_, ?_⟩); (repeat' (conv => whnf); (first | with_reducible refine And.intro ?_ ?_ | with_reducible exact True.intro | with_reducible exact Or.inl rfl | (refine Vc.mk ?_; (first | exact rfl | exact ⟨rfl, .inl rfl⟩ | omega | skip))))
      all_goals (rw [hq]; unfold cmpE; rw [if_pos h])
    · refine nextG (k + 1) ⟨by omega, by omega, ?_⟩ (by omega) (by (refine le_sub [] rfl rfl ?_ ?_); all_goals (repeat' (conv => whnf); (first | with_reducible refine And.intro ?_ ?_ | with_reducible exact True.intro | with_reducible exact Or.inl rfl | (refine Vc.mk ?_; (first | exact rfl | exact ⟨rfl, .inl rfl⟩ | omega | skip)))))
      rw [hq]
      conv => lhs; unfold cmpE
      rw [if_neg (by rw [h]; simp)]
  · rw [drop_nil (l := la) (by omega), drop_cons (l := lb) (by omega)] at hq
    ((try (conv => whnf)); refine ⟨[], rfl, rfl, ?_, ?_⟩); (repeat' (conv => whnf); (first | with_reducible refine And.intro ?_ ?_ | with_reducible exact True.intro | with_reducible exact Or.inl rfl | (refine Vc.mk ?_; (first | exact rfl | exact ⟨rfl, .inl rfl⟩ | omega | skip))))
    all_goals exact hq.symm
  · rw [drop_nil (l := la) (by omega), drop_nil (l := lb) (by omega)] at hq
    ((try (conv => whnf)); refine ⟨[], rfl, rfl, ?_, ?_⟩); (repeat' (conv => whnf); (first | with_reducible refine And.intro ?_ ?_ | with_reducible exact True.intro | with_reducible exact Or.inl rfl | (refine Vc.mk ?_; (first | exact rfl | exact ⟨rfl, .inl rfl⟩ | omega | skip))))
    all_goals exact hq.symm
end Go.Proofs.Ytimfnpjcedjmiaa

/-
  Newer: of two states.
-/
namespace Go.Proofs.Ytimfnpjcedjmiaa
open Go.RowKit
set_option linter.unusedSimpArgs false
set_option maxHeartbeats 4000000 in
set_option maxRecDepth 100000 in
theorem snewer_ok (o q p r : Int) (la lb : List (Int × Int)) (ha : la.length ≤ 1000000) (hb : lb.length ≤ 1000000) : Fn Try.prog 69 [.agg [.v (.int .i64 o), .v (.int .i64 q), .sl 2 (la.map opRow) none], .agg [.v (.int .i64 p), .v (.int .i64 r), .sl 2 (lb.map opRow) none]] [] (.v (.int .i64 (orL [cmpI q r, cmpE la lb]))) [] := by
  refine fn_of mixed [] [] Try.func69 rfl (by decide +kernel) Try.ntmps69 rfl (congrArg Array.toList Try.results69) rfl (by decide +kernel) ?_
  (iterate 2 all_goals (try (repeat' (conv => whnf); (first | with_reducible refine And.intro ?_ ?_ | with_reducible exact True.intro | (intro h; (first | cases h | ((try simp only [vis, Int.reduceToNat] at h); (try (exfalso; omega))))) | (with_reducible refine Vc.mk ?_; fail) | (with_reducible refine cutG ?_; fail) | refine idx_map ?_ ?_ | refine idx_mapI ?_ ?_ ?_ ))))
  (all_goals (try ((first | (refine call0 (cmpI_ok q r) ?_ ?_) | (refine pure0 (cmpI_ok q r) rfl ?_ ?_)); (· (repeat' (conv => whnf); (first | with_reducible refine And.intro ?_ ?_ | with_reducible exact True.intro | with_reducible exact Or.inl rfl | (refine Vc.mk ?_; (first | exact rfl | exact ⟨rfl, .inl rfl⟩ | omega | skip))))); (iterate 2 all_goals (try (repeat' (conv => whnf); (first | with_reducible refine And.intro ?_ ?_ | with_reducible exact True.intro | (intro h; (first | cases h | ((try simp only [vis, Int.reduceToNat] at h); (try (exfalso; omega))))) | (with_reducible refine Vc.mk ?_; fail) | (with_reducible refine cutG ?_; fail) | refine idx_map ?_ ?_ | refine idx_mapI ?_ ?_ ?_ )))))))
  (all_goals (try ((first | (refine call0 (compareE_ok la lb ha hb) ?_ ?_) | (refine pure0 (compareE_ok la lb ha hb) rfl ?_ ?_)); (· (repeat' (conv => whnf); (first | with_reducible refine And.intro ?_ ?_ | with_reducible exact True.intro | with_reducible exact Or.inl rfl | (refine Vc.mk ?_; (first | exact rfl | exact ⟨rfl, .inl rfl⟩ | omega | skip))))); (iterate 2 all_goals (try (repeat' (conv => whnf); (first | with_reducible refine And.intro ?_ ?_ | with_reducible exact True.intro | (intro h; (first | cases h | ((try simp only [vis, Int.reduceToNat] at h); (try (exfalso; omega))))) | (with_reducible refine Vc.mk ?_; fail) | (with_reducible refine cutG ?_; fail) | refine idx_map ?_ ?_ | refine idx_mapI ?_ ?_ ?_ )))))))
  have ho := orL_ok [cmpI q r, cmpE la lb] (by simp)
  first
    | ((refine ⟨_, _, _, _, [], ho, rfl, rfl, rfl, ?_, ?_, ?_⟩))
    | (refine StopPure.mk _ _ ho rfl ?_ ?_)
  all_goals (try ((repeat' (conv => whnf); (first | with_reducible refine And.intro ?_ ?_ | with_reducible exact True.intro | with_reducible exact Or.inl rfl | (refine Vc.mk ?_; (first | exact rfl | exact ⟨rfl, .inl rfl⟩ | omega | skip)))); done))
  (iterate 2 all_goals (try (repeat' (conv => whnf); (first | with_reducible refine And.intro ?_ ?_ | with_reducible exact True.intro | (intro h; (first | cases h | ((try simp only [vis, Int.reduceToNat] at h); (try (exfalso; omega))))) | (with_reducible refine Vc.mk ?_; fail) | (with_reducible refine cutG ?_; fail) | refine idx_map ?_ ?_ | refine idx_mapI ?_ ?_ ?_ ))))
  ((try (conv => whnf)); refine ⟨[], rfl, rfl, ?_, ?_⟩); (repeat' (conv => whnf); (first | with_reducible refine And.intro ?_ ?_ | with_reducible exact True.intro | with_reducible exact Or.inl rfl | (refine Vc.mk ?_; (first | exact rfl | exact ⟨rfl, .inl rfl⟩ | omega | skip))))
end Go.Proofs.Ytimfnpjcedjmiaa

/-
  Newer: the reference's.
-/
namespace Go.Proofs.Ytimfnpjcedjmiaa
open Go.RowKit
set_option linter.unusedSimpArgs false
def edgOk (l : List (Int × Int)) : Prop := ∀ i (h : i < l.length), 1 ≤ l[i].1 ∧ l[i].1 ≤ 6 ∧ 1 ≤ l[i].2 ∧ l[i].2 ≤ 20
theorem orL2 (a b : Int) : orL [a, b] = if a ≠ 0 then a else b := by
  simp only [orL]
  by_cases h : a = 0
  · subst h; simp; intro h; exact h.symm
  · simp [h]
theorem cmpE_cons {x y : Int × Int} {la lb : List (Int × Int)} : cmpE (x :: la) (y :: lb) = if orL [cmpI x.1 y.1, cmpI x.2 y.2] ≠ 0 then orL [cmpI x.1 y.1, cmpI x.2 y.2] else cmpE la lb := rfl
set_option maxHeartbeats 4000000 in
set_option maxRecDepth 100000 in
theorem rsnewer_ok (o q p r : Int) (la lb : List (Int × Int)) (ha : la.length ≤ 1000000) (hb : lb.length ≤ 1000000) (oa : edgOk la) (ob : edgOk lb) : Fn Try.prog 70 [.agg [.v (.int .i64 o), .v (.int .i64 q), .sl 2 (la.map opRow) none], .agg [.v (.int .i64 p), .v (.int .i64 r), .sl 2 (lb.map opRow) none]] [] (.v (.int .i64 (orL [cmpI q r, cmpE la lb]))) [] := by
  rw [orL2]
  refine fn_of mixed [] [] Try.func70 rfl (by decide +kernel) Try.ntmps70 rfl (congrArg Array.toList Try.results70) rfl (by decide +kernel) ?_
  (iterate 2 all_goals (try (repeat' (conv => whnf); (first | with_reducible refine And.intro ?_ ?_ | with_reducible exact True.intro | (intro h; (first | cases h | ((try simp only [vis, Int.reduceToNat] at h); (try (exfalso; omega))))) | (with_reducible refine Vc.mk ?_; fail) | (with_reducible refine cutG ?_; fail) | refine idx_map ?_ ?_ | refine idx_mapI ?_ ?_ ?_ ))))
  all_goals (try (((try (conv => whnf)); refine ⟨[], rfl, rfl, ?_, ?_⟩); (repeat' (conv => whnf); (first | with_reducible refine And.intro ?_ ?_ | with_reducible exact True.intro | with_reducible exact Or.inl rfl | (refine Vc.mk ?_; (first | exact rfl | exact ⟨rfl, .inl rfl⟩ | omega | skip)))); all_goals (unfold cmpI; (repeat' split) <;> first | rfl | omega)))
  rw [if_neg (by unfold cmpI; (repeat' split) <;> omega)]
  refine lpG (fun k : Nat => ⟨[(2, .box 0 0), (3, .box 1 0), (5, .v (.int .i64 k))], [.cells [.v (.int .i64 o), .v (.int .i64 q), .sl 2 (la.map opRow) none], .cells [.v (.int .i64 p), .v (.int .i64 r), .sl 2 (lb.map opRow) none]]⟩) (fun k => k ≤ la.length ∧ k ≤ lb.length ∧ cmpE la lb = cmpE (la.drop k) (lb.drop k)) (fun k => la.length - k) 0 ⟨by omega, by omega, rfl⟩ (by (refine le_sub [0, 1] rfl rfl ?_ ?_); all_goals ((repeat' (conv => whnf); (first | with_reducible refine And.intro ?_ ?_ | with_reducible exact True.intro | with_reducible exact Or.inl rfl | (refine Vc.mk ?_; (first | exact rfl | exact ⟨rfl, .inl rfl⟩ | omega | skip)))); all_goals (try simp))) ?_
  rintro k ⟨hk, hk2, hq⟩
  (iterate 2 all_goals (try (repeat' (conv => whnf); (first | with_reducible refine And.intro ?_ ?_ | with_reducible exact True.intro | (intro h; (first | cases h | ((try simp only [vis, Int.reduceToNat] at h); (try (exfalso; omega))))) | (with_reducible refine Vc.mk ?_; fail) | (with_reducible refine cutG ?_; fail) | refine idx_map ?_ ?_ | refine idx_mapI ?_ ?_ ?_ ))))
  all_goals (try omega)
  all_goals (try (have b1 := oa k (by omega); have b2 := ob k (by omega); refine Vc.mk ?_; unfold In64; omega))
  all_goals first
    | (have h1 : k < la.length := by omega
       have h2 : k < lb.length := by omega
       have b1 := oa k h1
       have b2 := ob k h2
       rw [drop_cons h1, drop_cons h2] at hq
       rw [cmpE_cons, orL2] at hq
       first
         | (((try (conv => whnf)); refine ⟨[], rfl, rfl, ?_, ?_⟩); (repeat' (conv => whnf); (first | with_reducible refine And.intro ?_ ?_ | with_reducible exact True.intro | with_reducible exact Or.inl rfl | (refine Vc.mk ?_; (first | exact rfl | exact ⟨rfl, .inl rfl⟩ | omega | skip)))); all_goals (rw [hq]; unfold cmpI; (repeat' split) <;> first | rfl | omega))
         | (rw [if_neg (by unfold cmpI; (repeat' split) <;> omega)] at hq
            refine nextG (k + 1) ⟨by omega, by omega, hq⟩ (by omega) (by (refine le_sub [0, 1] rfl rfl ?_ ?_); all_goals (repeat' (conv => whnf); (first | with_reducible refine And.intro ?_ ?_ | with_reducible exact True.intro | with_reducible exact Or.inl rfl | (refine Vc.mk ?_; (first | exact rfl | exact ⟨rfl, .inl rfl⟩ | omega | skip)))))))
    | (rw [drop_nil (l := la) (by omega), drop_nil (l := lb) (by omega)] at hq
       ((try (conv => whnf)); refine ⟨[], rfl, rfl, ?_, ?_⟩); (repeat' (conv => whnf); (first | with_reducible refine And.intro ?_ ?_ | with_reducible exact True.intro | with_reducible exact Or.inl rfl | (refine Vc.mk ?_; (first | exact rfl | exact ⟨rfl, .inl rfl⟩ | omega | skip)))); all_goals exact hq.symm)
    | (rw [drop_nil (l := la) (by omega), drop_cons (l := lb) (by omega)] at hq
       ((try (conv => whnf)); refine ⟨[], rfl, rfl, ?_, ?_⟩); (repeat' (conv => whnf); (first | with_reducible refine And.intro ?_ ?_ | with_reducible exact True.intro | with_reducible exact Or.inl rfl | (refine Vc.mk ?_; (first | exact rfl | exact ⟨rfl, .inl rfl⟩ | omega | skip)))); all_goals exact hq.symm)
    | (rw [drop_cons (l := la) (by omega), drop_nil (l := lb) (by omega)] at hq
       ((try (conv => whnf)); refine ⟨[], rfl, rfl, ?_, ?_⟩); (repeat' (conv => whnf); (first | with_reducible refine And.intro ?_ ?_ | with_reducible exact True.intro | with_reducible exact Or.inl rfl | (refine Vc.mk ?_; (first | exact rfl | exact ⟨rfl, .inl rfl⟩ | omega | skip)))); all_goals exact hq.symm)
end Go.Proofs.Ytimfnpjcedjmiaa
