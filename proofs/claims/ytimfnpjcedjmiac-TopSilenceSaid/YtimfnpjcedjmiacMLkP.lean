/-
  One end of a link, seen from without.
-/
import Derived.Test.YtimfnpjcedjmiacMLk3
import Derived.Test.YtimfnpjcedjmiacGQ
namespace Go.Proofs.Ytimfnpjcedjmiac
open Go.RowKit
set_option linter.unusedSimpArgs false
set_option linter.unusedVariables false
def lkR (l : Lk) : Res := .obj (packP (lkM l 0))
theorem ren_lk {l : Lk} : [] ++ renRs (extG 0 (lkM l 0).length) (lkM l 0) = lkM l 0 := rfl
theorem rm_lg0 {l : Lk} : RM (lkM l 0) [.gone] [0] [0] [.gone] := by (repeat' (conv => whnf); (first | (with_reducible refine And.intro ?_ ?_) | (with_reducible exact True.intro) | (with_reducible exact Or.inl rfl) | (refine Vc.mk ?_; (first | (exact rfl) | (exact ⟨rfl, .inl rfl⟩) | omega | skip))))
theorem rm_lg1 {l : Lk} : RM (lkM l 1) [.gone] [0] [0] [.gone] := by (repeat' (conv => whnf); (first | (with_reducible refine And.intro ?_ ?_) | (with_reducible exact True.intro) | (with_reducible exact Or.inl rfl) | (refine Vc.mk ?_; (first | (exact rfl) | (exact ⟨rfl, .inl rfl⟩) | omega | skip))))
theorem rm_lk0 {l : Lk} : RM (lkM l 0) (lkM l 0) [0, 1] [0, 1] (lkM l 0) := by unfold lkM lkC; (repeat' (conv => whnf); (first | (with_reducible refine And.intro ?_ ?_) | (with_reducible exact True.intro) | (with_reducible exact Or.inl rfl) | (refine Vc.mk ?_; (first | (exact rfl) | (exact ⟨rfl, .inl rfl⟩) | omega | skip)))); all_goals rfl
theorem rm_lk1 {l : Lk} : RM (lkM l 1) (lkM l 0) [0, 1] [0, 1] (lkM l 0) := by unfold lkM lkC; (repeat' (conv => whnf); (first | (with_reducible refine And.intro ?_ ?_) | (with_reducible exact True.intro) | (with_reducible exact Or.inl rfl) | (refine Vc.mk ?_; (first | (exact rfl) | (exact ⟨rfl, .inl rfl⟩) | omega | skip)))); all_goals rfl
theorem fn_packL0 {f : FuncId} {args : List AV} {r : AV} {l q : Lk} (hF : Fn Try.prog f args (lkM l 0) r (lkM q 0)) (hr : r.free = true) : Fn Try.prog f args [lkR l] r [lkR q] :=
  fn_pack (pre := []) (mt := [.gone]) (ρ := [0]) (κ := [0, 1]) (L := 0) (by rw [ren_lk]; exact hF) rfl rfl rfl rfl rm_lg0 rm_lk0 (RK_free hr) rfl rfl rfl rfl rfl
theorem fn_packL1 {f : FuncId} {args : List AV} {r : AV} {l q : Lk} (hF : Fn Try.prog f args (lkM l 0) r (lkM q 1)) (hr : r.free = true) : Fn Try.prog f args [lkR l] r [lkR q] :=
  fn_pack (pre := []) (mt := [.gone]) (ρ := [0]) (κ := [0, 1]) (L := 0) (by rw [ren_lk]; exact hF) rfl rfl rfl rfl rm_lg1 rm_lk1 (RK_free hr) rfl rfl rfl rfl rfl
theorem xlnew_ok (s m : Int) (h : polOk s m = true) : Fn Try.prog 46 [.v (.int .i64 s), .v (.int .i64 m)] [] (.tup [.box 0 0, .err 0]) [lkR (newL s m)] :=
  fn_packN (mt := [.gone]) (m' := lkM (newL s m) 0) (ρ := [0]) (κ := [0, 1]) (L := 0) (lnew_ok s m h) rfl rfl rfl rfl rm_lg0 rm_lk0 (by (repeat' (conv => whnf); (first | (with_reducible refine And.intro ?_ ?_) | (with_reducible exact True.intro) | (with_reducible exact Or.inl rfl) | (refine Vc.mk ?_; (first | (exact rfl) | (exact ⟨rfl, .inl rfl⟩) | omega | skip)))); all_goals rfl) rfl rfl rfl rfl rfl rfl
theorem xlstate_ok (l : Lk) : Fn Try.prog 26 [.box 0 0] [lkR l] (.v (.int .i64 l.st)) [lkR l] := fn_packL0 (lstate_ok l) rfl
theorem xlsize_ok (l : Lk) : Fn Try.prog 32 [.box 0 0] [lkR l] (.v (.int .i64 l.sz)) [lkR l] := fn_packL0 (lsize_ok l) rfl
theorem xlout_ok (l : Lk) : Fn Try.prog 24 [.box 0 0] [lkR l] (.sl 3 (l.out.map pkRow) none) [lkR (outL l)] := fn_packL1 (lout_ok l) rfl
theorem xldo_ok (l : Lk) (h : l.ok 900) (e : Int) : Fn Try.prog 33 [.box 0 0, .v (.int .i64 e)] [lkR l] (.err (doE l e)) [lkR (doL l e)] := fn_packL1 (ldo_ok l h e) rfl
theorem xltick_ok (l : Lk) (h : l.ok 800) : Fn Try.prog 25 [.box 0 0] [lkR l] (.tup []) [lkR (tickL l)] := fn_packL1 (ltick_ok l h) rfl
theorem xltake_ok (l : Lk) (h : l.ok 900) (p : Pk) : Fn Try.prog 49 [.box 0 0, pkAV p] [lkR l] (.err (takE l p)) [lkR (takL l p)] := fn_packL1 (ltake_ok l h p) rfl
end Go.Proofs.Ytimfnpjcedjmiac
