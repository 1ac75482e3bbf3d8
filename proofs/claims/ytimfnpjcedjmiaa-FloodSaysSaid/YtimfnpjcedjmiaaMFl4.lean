/-
  Package flood, seen from without.
-/
import Derived.Test.YtimfnpjcedjmiaaMFl3
namespace Go.Proofs.Ytimfnpjcedjmiaa
open Go.RowKit
set_option linter.unusedSimpArgs false
set_option linter.unusedVariables false
theorem rm_ba1 {kn : Int → Option St3} {a : Int → Bool} : RM (baL kn [a]) (baL kn [a]) [0, 1, 2, 3] [0, 1, 2, 3] (baL kn [a]) := by (repeat' (conv => whnf); (first | with_reducible refine And.intro ?_ ?_ | with_reducible exact True.intro | with_reducible exact Or.inl rfl | (refine Vc.mk ?_; (first | exact rfl | exact ⟨rfl, .inl rfl⟩ | omega | skip)))); all_goals rfl
theorem rm_ba2 {kn : Int → Option St3} {a b : Int → Bool} : RM (baL kn [a, b]) (baL kn [a, b]) [0, 1, 2, 3, 4] [0, 1, 2, 3, 4] (baL kn [a, b]) := by (repeat' (conv => whnf); (first | with_reducible refine And.intro ?_ ?_ | with_reducible exact True.intro | with_reducible exact Or.inl rfl | (refine Vc.mk ?_; (first | exact rfl | exact ⟨rfl, .inl rfl⟩ | omega | skip)))); all_goals rfl
theorem rm_ba3 {kn : Int → Option St3} {a b c : Int → Bool} : RM (baL kn [a, b, c]) (baL kn [a, b, c]) [0, 1, 2, 3, 4, 5] [0, 1, 2, 3, 4, 5] (baL kn [a, b, c]) := by (repeat' (conv => whnf); (first | with_reducible refine And.intro ?_ ?_ | with_reducible exact True.intro | with_reducible exact Or.inl rfl | (refine Vc.mk ?_; (first | exact rfl | exact ⟨rfl, .inl rfl⟩ | omega | skip)))); all_goals rfl
theorem rm_g1 {kn : Int → Option St3} {a : Int → Bool} : RM (baL kn [a]) [.gone] [0] [0] [.gone] := by (repeat' (conv => whnf); (first | with_reducible refine And.intro ?_ ?_ | with_reducible exact True.intro | with_reducible exact Or.inl rfl | (refine Vc.mk ?_; (first | exact rfl | exact ⟨rfl, .inl rfl⟩ | omega | skip))))
theorem rm_g2 {kn : Int → Option St3} {a b : Int → Bool} : RM (baL kn [a, b]) [.gone] [0] [0] [.gone] := by (repeat' (conv => whnf); (first | with_reducible refine And.intro ?_ ?_ | with_reducible exact True.intro | with_reducible exact Or.inl rfl | (refine Vc.mk ?_; (first | exact rfl | exact ⟨rfl, .inl rfl⟩ | omega | skip))))
theorem rm_g3 {kn : Int → Option St3} {a b c : Int → Bool} : RM (baL kn [a, b, c]) [.gone] [0] [0] [.gone] := by (repeat' (conv => whnf); (first | with_reducible refine And.intro ?_ ?_ | with_reducible exact True.intro | with_reducible exact Or.inl rfl | (refine Vc.mk ?_; (first | exact rfl | exact ⟨rfl, .inl rfl⟩ | omega | skip))))
theorem ren_ba1 {kn : Int → Option St3} {a : Int → Bool} : [] ++ renRs (extG 0 (baL kn [a]).length) (baL kn [a]) = baL kn [a] := rfl
theorem ren_ba2 {kn : Int → Option St3} {a b : Int → Bool} : [] ++ renRs (extG 0 (baL kn [a, b]).length) (baL kn [a, b]) = baL kn [a, b] := rfl
theorem ren_ba3 {kn : Int → Option St3} {a b c : Int → Bool} : [] ++ renRs (extG 0 (baL kn [a, b, c]).length) (baL kn [a, b, c]) = baL kn [a, b, c] := rfl
/-- A contract over a base's memory, seen from without. -/
theorem fn_packB {f : FuncId} {args : List AV} {r : AV} {kn kn' : Int → Option St3} {ow ow' : List (Int → Bool)} (h1 : 1 ≤ ow.length) (h3 : ow.length ≤ 3) (k1 : 1 ≤ ow'.length) (k3 : ow'.length ≤ 3) (hF : Fn Try.prog f args (baL kn ow) r (baL kn' ow')) (hr : r.free = true) : Fn Try.prog f args [baR' kn ow] r [baR' kn' ow'] := by
  revert hF
  refine np3 (p := fun ow => Fn Try.prog f args (baL kn ow) r (baL kn' ow') → Fn Try.prog f args [baR' kn ow] r [baR' kn' ow']) h1 h3 (fun a => ?_) (fun a b => ?_) (fun a b c => ?_)
  all_goals refine np3 (p := fun ow' => Fn Try.prog f args (baL kn _) r (baL kn' ow') → Fn Try.prog f args [baR' kn _] r [baR' kn' ow']) k1 k3 (fun a' => ?_) (fun a' b' => ?_) (fun a' b' c' => ?_)
  all_goals intro hF
  · exact fn_pack (pre := []) (mt := [.gone]) (ρ := [0]) (κ := [0, 1, 2, 3]) (L := 0) (by rw [ren_ba1]; exact hF) rfl rfl rfl rfl rm_g1 rm_ba1 (RK_free hr) rfl rfl rfl rfl rfl
  · exact fn_pack (pre := []) (mt := [.gone]) (ρ := [0]) (κ := [0, 1, 2, 3, 4]) (L := 0) (by rw [ren_ba1]; exact hF) rfl rfl rfl rfl rm_g2 rm_ba2 (RK_free hr) rfl rfl rfl rfl rfl
  · exact fn_pack (pre := []) (mt := [.gone]) (ρ := [0]) (κ := [0, 1, 2, 3, 4, 5]) (L := 0) (by rw [ren_ba1]; exact hF) rfl rfl rfl rfl rm_g3 rm_ba3 (RK_free hr) rfl rfl rfl rfl rfl
  · exact fn_pack (pre := []) (mt := [.gone]) (ρ := [0]) (κ := [0, 1, 2, 3]) (L := 0) (by rw [ren_ba2]; exact hF) rfl rfl rfl rfl rm_g1 rm_ba1 (RK_free hr) rfl rfl rfl rfl rfl
  · exact fn_pack (pre := []) (mt := [.gone]) (ρ := [0]) (κ := [0, 1, 2, 3, 4]) (L := 0) (by rw [ren_ba2]; exact hF) rfl rfl rfl rfl rm_g2 rm_ba2 (RK_free hr) rfl rfl rfl rfl rfl
  · exact fn_pack (pre := []) (mt := [.gone]) (ρ := [0]) (κ := [0, 1, 2, 3, 4, 5]) (L := 0) (by rw [ren_ba2]; exact hF) rfl rfl rfl rfl rm_g3 rm_ba3 (RK_free hr) rfl rfl rfl rfl rfl
  · exact fn_pack (pre := []) (mt := [.gone]) (ρ := [0]) (κ := [0, 1, 2, 3]) (L := 0) (by rw [ren_ba3]; exact hF) rfl rfl rfl rfl rm_g1 rm_ba1 (RK_free hr) rfl rfl rfl rfl rfl
  · exact fn_pack (pre := []) (mt := [.gone]) (ρ := [0]) (κ := [0, 1, 2, 3, 4]) (L := 0) (by rw [ren_ba3]; exact hF) rfl rfl rfl rfl rm_g2 rm_ba2 (RK_free hr) rfl rfl rfl rfl rfl
  · exact fn_pack (pre := []) (mt := [.gone]) (ρ := [0]) (κ := [0, 1, 2, 3, 4, 5]) (L := 0) (by rw [ren_ba3]; exact hF) rfl rfl rfl rfl rm_g3 rm_ba3 (RK_free hr) rfl rfl rfl rfl rfl
section
variable {b : Ba} (hb : b.ok)
theorem xset_ok (hb : b.ok) (s : St3) (hs : s.2.2.length ≤ 1000000) : Fn Try.prog 74 [.box 0 0, .agg (stRow s)] [baR b] (.err (sf s)) [baR (setB b s)] :=
  fn_packB hb.n1 hb.n3 (setB_ok hb s).n1 (setB_ok hb s).n3 (fset_ok b.kn b.ow hb.n1 hb.n3 s hs) rfl
theorem xtake_ok (hb : b.ok) (p : Int) (s : St3) : Fn Try.prog 76 [.box 0 0, .v (.int .i64 p), .agg (stRow s)] [baR b] (.tup [.v (.int .i64 (takeV b p s)), .err (takeE b p s)]) [baR (takeB b p s)] :=
  fn_packB hb.n1 hb.n3 (takeB_ok hb p s).n1 (takeB_ok hb p s).n3 (ftake_ok b.kn b.ow hb.n1 hb.n3 hb.kn p s) rfl
theorem xheard_ok (hb : b.ok) (p : Int) (s : St3) : Fn Try.prog 78 [.box 0 0, .v (.int .i64 p), .agg (stRow s)] [baR b] (.err (takeE b p s)) [baR (hrdB b p s)] :=
  fn_packB hb.n1 hb.n3 (hrdB_ok hb p s).n1 (hrdB_ok hb p s).n3 (fheard_ok b.kn b.ow hb.n1 hb.n3 hb.kn p s) rfl
theorem xmeet_ok (hb : b.ok) (p : Int) : Fn Try.prog 80 [.box 0 0, .v (.int .i64 p)] [baR b] (.err (metE b p)) [baR (metB b p)] :=
  fn_packB hb.n1 hb.n3 (metB_ok hb p).n1 (metB_ok hb p).n3 (fmeet_ok b.kn b.ow hb.n1 hb.n3 hb.kn p) rfl
theorem xget_ok (hb : b.ok) (n : Int) : Fn Try.prog 89 [.box 0 0, .v (.int .i64 n)] [baR b] (.tup [.agg (stRow (stO (b.kn n))), .v (.bool (b.kn n).isSome)]) [baR b] :=
  fn_packB hb.n1 hb.n3 hb.n1 hb.n3 (fget_ok b.kn b.ow hb.n1 hb.n3 hb.kn n) rfl
theorem xstates_ok (hb : b.ok) : Fn Try.prog 85 [.box 0 0] [baR b] (.sl 3 ((stsB b).map stRow) none) [baR b] := by
  refine fn_packB hb.n1 hb.n3 hb.n1 hb.n3 ?_ rfl
  obtain ⟨kn, ow⟩ := b
  exact np3 (p := fun ow => Fn Try.prog 85 [.box 0 0] (baL kn ow) (.sl 3 ((stsB ⟨kn, ow⟩).map stRow) none) (baL kn ow)) hb.n1 hb.n3 (fun a => fstates_ok1 kn a hb.kn) (fun a b => fstates_ok2 kn a b hb.kn) (fun a b c => fstates_ok3 kn a b c hb.kn)
theorem xstatesA_ok (hb : b.ok) : Fn Try.prog 85 [.box 0 0] [baR b] (.arr 1 0 (stsB b).length) [baR b, .arr true 105 3 0 ((stsB b).map stRow)] := by
  obtain ⟨kn, ow⟩ := b
  refine np3 (p := fun ow => Fn Try.prog 85 [.box 0 0] [baR ⟨kn, ow⟩] (.arr 1 0 (stsB ⟨kn, ow⟩).length) [baR ⟨kn, ow⟩, .arr true 105 3 0 ((stsB ⟨kn, ow⟩).map stRow)]) hb.n1 hb.n3 (fun a => ?_) (fun a b => ?_) (fun a b c => ?_)
  · have h : Fn Try.prog 85 [.box 0 0] ([] ++ renRs (extG 0 (baL kn [a]).length) (baL kn [a])) (.arr 4 0 (stsB ⟨kn, [a]⟩).length) (baL kn [a] ++ [.arr true 105 3 0 ((stsB ⟨kn, [a]⟩).map stRow)]) := by rw [ren_ba1]; exact fstatesA_ok1 kn a hb.kn
    exact fn_pack (pre := []) (L := 0) (mt := [.gone, .arr true 105 3 0 ((stsB ⟨kn, [a]⟩).map stRow)]) (m' := baL kn [a]) (ρ := [0, 4]) (κ := [0, 1, 2, 3]) h rfl rfl rfl rfl (by (repeat' (conv => whnf); (first | with_reducible refine And.intro ?_ ?_ | with_reducible exact True.intro | with_reducible exact Or.inl rfl | (refine Vc.mk ?_; (first | exact rfl | exact ⟨rfl, .inl rfl⟩ | omega | skip)))); all_goals rfl) (by (repeat' (conv => whnf); (first | with_reducible refine And.intro ?_ ?_ | with_reducible exact True.intro | with_reducible exact Or.inl rfl | (refine Vc.mk ?_; (first | exact rfl | exact ⟨rfl, .inl rfl⟩ | omega | skip)))); all_goals rfl) (by (repeat' (conv => whnf); (first | with_reducible refine And.intro ?_ ?_ | with_reducible exact True.intro | with_reducible exact Or.inl rfl | (refine Vc.mk ?_; (first | exact rfl | exact ⟨rfl, .inl rfl⟩ | omega | skip)))); all_goals rfl) rfl rfl rfl rfl rfl
  · have h : Fn Try.prog 85 [.box 0 0] ([] ++ renRs (extG 0 (baL kn [a, b]).length) (baL kn [a, b])) (.arr 5 0 (stsB ⟨kn, [a, b]⟩).length) (baL kn [a, b] ++ [.arr true 105 3 0 ((stsB ⟨kn, [a, b]⟩).map stRow)]) := by rw [ren_ba2]; exact fstatesA_ok2 kn a b hb.kn
    exact fn_pack (pre := []) (L := 0) (mt := [.gone, .arr true 105 3 0 ((stsB ⟨kn, [a, b]⟩).map stRow)]) (m' := baL kn [a, b]) (ρ := [0, 5]) (κ := [0, 1, 2, 3, 4]) h rfl rfl rfl rfl (by (repeat' (conv => whnf); (first | with_reducible refine And.intro ?_ ?_ | with_reducible exact True.intro | with_reducible exact Or.inl rfl | (refine Vc.mk ?_; (first | exact rfl | exact ⟨rfl, .inl rfl⟩ | omega | skip)))); all_goals rfl) (by (repeat' (conv => whnf); (first | with_reducible refine And.intro ?_ ?_ | with_reducible exact True.intro | with_reducible exact Or.inl rfl | (refine Vc.mk ?_; (first | exact rfl | exact ⟨rfl, .inl rfl⟩ | omega | skip)))); all_goals rfl) (by (repeat' (conv => whnf); (first | with_reducible refine And.intro ?_ ?_ | with_reducible exact True.intro | with_reducible exact Or.inl rfl | (refine Vc.mk ?_; (first | exact rfl | exact ⟨rfl, .inl rfl⟩ | omega | skip)))); all_goals rfl) rfl rfl rfl rfl rfl
  · have h : Fn Try.prog 85 [.box 0 0] ([] ++ renRs (extG 0 (baL kn [a, b, c]).length) (baL kn [a, b, c])) (.arr 6 0 (stsB ⟨kn, [a, b, c]⟩).length) (baL kn [a, b, c] ++ [.arr true 105 3 0 ((stsB ⟨kn, [a, b, c]⟩).map stRow)]) := by rw [ren_ba3]; exact fstatesA_ok3 kn a b c hb.kn
    exact fn_pack (pre := []) (L := 0) (mt := [.gone, .arr true 105 3 0 ((stsB ⟨kn, [a, b, c]⟩).map stRow)]) (m' := baL kn [a, b, c]) (ρ := [0, 6]) (κ := [0, 1, 2, 3, 4, 5]) h rfl rfl rfl rfl (by (repeat' (conv => whnf); (first | with_reducible refine And.intro ?_ ?_ | with_reducible exact True.intro | with_reducible exact Or.inl rfl | (refine Vc.mk ?_; (first | exact rfl | exact ⟨rfl, .inl rfl⟩ | omega | skip)))); all_goals rfl) (by (repeat' (conv => whnf); (first | with_reducible refine And.intro ?_ ?_ | with_reducible exact True.intro | with_reducible exact Or.inl rfl | (refine Vc.mk ?_; (first | exact rfl | exact ⟨rfl, .inl rfl⟩ | omega | skip)))); all_goals rfl) (by (repeat' (conv => whnf); (first | with_reducible refine And.intro ?_ ?_ | with_reducible exact True.intro | with_reducible exact Or.inl rfl | (refine Vc.mk ?_; (first | exact rfl | exact ⟨rfl, .inl rfl⟩ | omega | skip)))); all_goals rfl) rfl rfl rfl rfl rfl
set_option maxHeartbeats 8000000 in
set_option maxRecDepth 100000 in
theorem xowed_ok (hb : b.ok) (p : Int) : Fn Try.prog 87 [.box 0 0, .v (.int .i64 p)] [baR b] (.sl 3 ((owdB b p).map stRow) none) [baR b] := by
  have hst := xstatesA_ok hb
  have hlen := stsB_len (b := b)
  have hdel := delS_ok b.kn b.ow p (stsB b) (fun s => getW b.ow p s.1) (by omega) (fun s => owedC_ok b.kn b.ow hb.n1 hb.n3 p s)
  have hV : owdB b p = (stsB b).filter fun s => getW b.ow p s.1 := rfl
  rw [hV]
  generalize (stsB b).filter (fun s => getW b.ow p s.1) = O at *
  generalize stsB b = S at *
  unfold baR' at hdel
  unfold baR baM at *
  refine fn_ofL mixed [] [] Try.func87 rfl (by decide +kernel) Try.ntmps87 rfl (congrArg Array.toList Try.results87) rfl (by decide +kernel) ?_
  ((iterate 2 all_goals (try (repeat' (conv => whnf); (first | with_reducible refine And.intro ?_ ?_ | with_reducible exact True.intro | (intro h; (first | cases h | ((try simp only [vis, Int.reduceToNat] at h); (try (exfalso; omega))))) | (with_reducible refine Vc.mk ?_; fail) | (with_reducible refine cutG ?_; fail) | refine idx_map ?_ ?_ | refine idx_mapI ?_ ?_ ?_ | (refine StopAt.mk (by decide) (by decide) ?_) | (refine StopRow.mk _ rfl ?_))))); (all_goals (try omega)); (all_goals (try ((first | with_reducible refine Vc.mk ?_ | refine Vc.mk ?_); (try exact GLt)))); (all_goals (try (exact ⟨by decide, by decide⟩))))
  (refine ⟨_, _, _, _, [0], hst, rfl, rfl, rfl, ?_, ?_, ?_⟩)
  · (repeat' (conv => whnf); (first | with_reducible refine And.intro ?_ ?_ | with_reducible exact True.intro | with_reducible exact Or.inl rfl | (refine Vc.mk ?_; (first | exact rfl | exact ⟨rfl, .inl rfl⟩ | omega | skip))))
    all_goals rfl
  · (repeat' (conv => whnf); (first | with_reducible refine And.intro ?_ ?_ | with_reducible exact True.intro | with_reducible exact Or.inl rfl | (refine Vc.mk ?_; (first | exact rfl | exact ⟨rfl, .inl rfl⟩ | omega | skip))))
  ((iterate 2 all_goals (try (repeat' (conv => whnf); (first | with_reducible refine And.intro ?_ ?_ | with_reducible exact True.intro | (intro h; (first | cases h | ((try simp only [vis, Int.reduceToNat] at h); (try (exfalso; omega))))) | (with_reducible refine Vc.mk ?_; fail) | (with_reducible refine cutG ?_; fail) | refine idx_map ?_ ?_ | refine idx_mapI ?_ ?_ ?_ | (refine StopAt.mk (by decide) (by decide) ?_) | (refine StopRow.mk _ rfl ?_))))); (all_goals (try omega)); (all_goals (try ((first | with_reducible refine Vc.mk ?_ | refine Vc.mk ?_); (try exact GLt)))); (all_goals (try (exact ⟨by decide, by decide⟩))))
  (refine ⟨_, _, _, _, [3, 2, 1, 0], hdel, rfl, rfl, rfl, ?_, ?_, ?_⟩)
  · (repeat' (conv => whnf); (first | with_reducible refine And.intro ?_ ?_ | with_reducible exact True.intro | with_reducible exact Or.inl rfl | (refine Vc.mk ?_; (first | exact rfl | exact ⟨rfl, .inl rfl⟩ | omega | skip))))
    all_goals rfl
  · (repeat' (conv => whnf); (first | with_reducible refine And.intro ?_ ?_ | with_reducible exact True.intro | with_reducible exact Or.inl rfl | (refine Vc.mk ?_; (first | exact rfl | exact ⟨rfl, .inl rfl⟩ | omega | skip))))
    all_goals rfl
  ((iterate 2 all_goals (try (repeat' (conv => whnf); (first | with_reducible refine And.intro ?_ ?_ | with_reducible exact True.intro | (intro h; (first | cases h | ((try simp only [vis, Int.reduceToNat] at h); (try (exfalso; omega))))) | (with_reducible refine Vc.mk ?_; fail) | (with_reducible refine cutG ?_; fail) | refine idx_map ?_ ?_ | refine idx_mapI ?_ ?_ ?_ | (refine StopAt.mk (by decide) (by decide) ?_) | (refine StopRow.mk _ rfl ?_))))); (all_goals (try omega)); (all_goals (try ((first | with_reducible refine Vc.mk ?_ | refine Vc.mk ?_); (try exact GLt)))); (all_goals (try (exact ⟨by decide, by decide⟩))))
  refine ⟨_, le_freeze 4 3 rfl rfl, ?_⟩
  ((try (conv => whnf)); refine ⟨[0], rfl, rfl, ?_, ?_⟩); (repeat' (conv => whnf); (first | with_reducible refine And.intro ?_ ?_ | with_reducible exact True.intro | with_reducible exact Or.inl rfl | (refine Vc.mk ?_; (first | exact rfl | exact ⟨rfl, .inl rfl⟩ | omega | skip))))
  all_goals (first | rfl | (simp; done) | skip)
theorem xnew_ok (n : Nat) (h1 : 1 ≤ n) (h3 : n ≤ 3) : Fn Try.prog 73 [.v (.int .i64 n)] [] (.tup [.box 0 0, .err 0]) [baR (newB n)] := by
  have h := fnew_ok n h1 h3
  refine or3 (by omega : n = 1 ∨ n = 2 ∨ n = 3) (fun e => ?_) (fun e => ?_) (fun e => ?_)
  all_goals (subst e)
  · exact fn_packN (mt := [.gone]) (m' := baM (newB 1)) (ρ := [0]) (κ := [0, 1, 2, 3]) (L := 0) h rfl rfl rfl rfl rm_g1 rm_ba1 (by (repeat' (conv => whnf); (first | with_reducible refine And.intro ?_ ?_ | with_reducible exact True.intro | with_reducible exact Or.inl rfl | (refine Vc.mk ?_; (first | exact rfl | exact ⟨rfl, .inl rfl⟩ | omega | skip)))); all_goals rfl) rfl rfl rfl rfl rfl rfl
  · exact fn_packN (mt := [.gone]) (m' := baM (newB 2)) (ρ := [0]) (κ := [0, 1, 2, 3, 4]) (L := 0) h rfl rfl rfl rfl rm_g2 rm_ba2 (by (repeat' (conv => whnf); (first | with_reducible refine And.intro ?_ ?_ | with_reducible exact True.intro | with_reducible exact Or.inl rfl | (refine Vc.mk ?_; (first | exact rfl | exact ⟨rfl, .inl rfl⟩ | omega | skip)))); all_goals rfl) rfl rfl rfl rfl rfl rfl
  · exact fn_packN (mt := [.gone]) (m' := baM (newB 3)) (ρ := [0]) (κ := [0, 1, 2, 3, 4, 5]) (L := 0) h rfl rfl rfl rfl rm_g3 rm_ba3 (by (repeat' (conv => whnf); (first | with_reducible refine And.intro ?_ ?_ | with_reducible exact True.intro | with_reducible exact Or.inl rfl | (refine Vc.mk ?_; (first | exact rfl | exact ⟨rfl, .inl rfl⟩ | omega | skip)))); all_goals rfl) rfl rfl rfl rfl rfl rfl
end
end Go.Proofs.Ytimfnpjcedjmiaa
