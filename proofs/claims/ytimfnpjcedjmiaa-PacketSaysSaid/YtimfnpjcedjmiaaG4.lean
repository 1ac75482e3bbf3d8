/-
  Engine G, part 4: the law of the operations that only look.
-/
import Derived.Test.YtimfnpjcedjmiaaG3
namespace Go.Proofs.Ytimfnpjcedjmiaa
open Go.RowKit
set_option linter.unusedSimpArgs false
set_option linter.unusedVariables false

theorem binI_nice {op : BinOp} {k : IntKind} {a b : Int} : Nice (binI op k a b) := by
  cases op <;> cases k <;> first | exact Nice.no | exact Nice.at _ | exact Nice.and (Nice.at _) | exact Nice.and (Nice.and (Nice.at _))
theorem shI_nice {op : BinOp} {k : IntKind} {a b : Int} : Nice (shI op k a b) := by
  cases op <;> first | exact Nice.no | exact Nice.and (Nice.at _)
theorem binB_nice {op : BinOp} {a b : Bool} : Nice (binB op a b) := by cases op <;> first | exact Nice.no | exact Nice.at _
theorem binS_nice {op : BinOp} {a b : ByteArray} : Nice (binS op a b) := by cases op <;> first | exact Nice.no | exact Nice.at _ | exact Nice.and (Nice.at _)
theorem binN_nice {op : BinOp} {b : Bool} : Nice (binN op b) := by cases op <;> first | exact Nice.no | exact Nice.at _
theorem binE_nice {op : BinOp} {a b : Int} : Nice (binE op a b) := by cases op <;> first | exact Nice.no | exact Nice.and (Nice.at _)
theorem StopEq.nice {P : Program} {op : BinOp} {t : TypeId} {l m : List AV} : Nice (StopEq P op t l m) :=
  ⟨fun f ⟨xs, ys, b, h1, h2, h3, h4⟩ => ⟨xs, ys, b, h1, h2, h3, f _ h4⟩, fun ⟨xs, ys, b, h1, h2, h3, h4⟩ => ⟨_, ⟨xs, ys, b, h1, h2, h3, rfl⟩, h4⟩⟩
theorem binV_nice {P : Program} {op : BinOp} {t : TypeId} {c : Bool} {a b : AV} : Nice (binV P op t c a b) := by
  unfold binV
  repeat' split
  all_goals first | exact Nice.no | exact shI_nice | exact Nice.tt binI_nice | exact Nice.tt binB_nice | exact binS_nice | exact Nice.tt binN_nice | exact Nice.tt (Nice.tt binE_nice) | exact StopEq.nice
theorem fldV_nice {fp : Option (Nat × Bool × Nat)} {v : AV} : Nice (fldV fp v) := by
  unfold fldV
  repeat' split
  all_goals first | exact Nice.no | exact Nice.tt (Nice.at _) | exact nthK_nice
theorem faV_nice {fp : Option (Nat × Bool × Nat)} {v : AV} : Nice (faV fp v) := by
  unfold faV
  split
  · refine Nice.tt ?_
    split <;> first | exact Nice.at _ | exact Nice.no
  · exact Nice.no
theorem idxV_nice {P : Program} {t : TypeId} {mem : List Res} {v i : AV} : Nice (idxV P t mem v i) := by
  unfold idxV
  split
  · rename_i k i
    split
    · split <;> first | exact Nice.no | exact Nice.tt StopIdx.nice
    · rename_i id g n
      split
      · rename_i sz _
        refine nthK_nice.bind (U := fun (r : Res) (K : AV → Prop) => match r with
          | .arr _ _ s g' _ => tt (Nat.beq g g') (tt (Nat.beq s sz) (Vc (0 ≤ i ∧ i < n) ∧ K (.elt id g sz i.toNat 0)))
          | _ => False) fun r => ?_
        split <;> first | exact Nice.tt (Nice.tt (Nice.and (Nice.at _))) | exact Nice.no
      · exact Nice.no
    · split <;> first | exact Nice.no | exact StopAt.nice.map _
    · split <;> first | exact Nice.no | exact StopAt.nice.map _
    · exact Nice.no
  · exact Nice.no
theorem ixV_nice {P : Program} {t : TypeId} {v i : AV} : Nice (ixV P t v i) := by
  unfold ixV
  repeat' split
  all_goals first | exact Nice.no | exact Nice.tt (Nice.and (Nice.at _)) | exact StopAt.nice.bind fun _ => cutV'_nice
theorem boundV_nice {fr : List (Nat × AV)} {x : Option Operand} : Nice (boundV fr x) := by
  unfold boundV
  split
  · exact Nice.at _
  · refine Nice.congr ?_ fun K => by simp only [evV_eq]; try rfl
    split <;> first | exact Nice.at _ | exact Nice.no
theorem subV_nice {P : Program} {t : TypeId} {v : AV} {lo hi : Option Int} : Nice (subV P t v lo hi) := by
  unfold subV
  repeat' (first | split | refine Nice.tt ?_)
  all_goals first | exact Nice.no | exact Nice.at _ | exact Nice.and (Nice.at _)
theorem lenV_nice {P : Program} {l : List AV} {ts : List TypeId} : Nice (lenV P l ts) := by
  unfold lenV
  repeat' split
  all_goals first | exact Nice.no | exact Nice.tt (Nice.at _)
theorem rowsB_nice {v : AV} {mem : List Res} : Nice (fun K => rowsK v mem fun _ rows => StopBytes rows K) := by
  unfold rowsK
  split
  · exact StopBytes.nice
  · rename_i id g k
    refine nthK_nice.bind (U := fun (r : Res) K => match r with
      | .arr _ _ s g' rows => tt (Nat.beq g g') (StopBytes (rows.take k) K)
      | _ => False) fun r => ?_
    split <;> first | exact Nice.tt StopBytes.nice | exact Nice.no
  · exact Nice.no
theorem convV_nice {P : Program} {t u : TypeId} {v : AV} {mem : List Res} : Nice (convV P t u v mem) := by
  unfold convV
  repeat' split
  all_goals first | exact Nice.no | exact Nice.at _ | exact Nice.tt (Nice.tt rowsB_nice)
theorem keyOk_nice {P : Program} {t : TypeId} {kk : Option IntKind} {k : AV} : Nice (keyOk P t kk k) := by
  unfold keyOk
  repeat' split
  all_goals first | exact Nice.no | exact Nice.tt (Nice.tt (Nice.at _))
theorem lookV_nice {P : Program} {t : TypeId} {v k : AV} {ok : Bool} {mem : List Res} : Nice (lookV P t v k ok mem) := by
  unfold lookV
  split
  · rename_i id
    refine nthK_nice.bind (U := fun (r : Res) K => match r with
      | .map kk ag f => keyOk P t kk k fun key => match elemM P t with
        | some (z, ag', _) => tt (ag == ag') (StopLook (f key) fun o => lookK ag ok z o K)
        | none => False
      | _ => False) fun r => ?_
    split
    · refine keyOk_nice.bind fun key => ?_
      split
      · exact Nice.tt (StopLook.nice.bind fun o => lookK_nice)
      · exact Nice.no
    · exact Nice.no
  · exact Nice.no
theorem nilV_nice {v : AV} : Nice (nilV v) := by
  unfold nilV
  split <;> first | exact Nice.no | exact Nice.at _
theorem minV_nice {mx : Bool} {l : List AV} : Nice (minV mx l) := by
  unfold minV
  split
  · cases mx <;> exact Nice.tt (Nice.at _)
  · exact Nice.no
theorem vq_nice {P : Program} {fr : List (Nat × AV)} {mem : List Res} {op : Op} : Nice (vq P fr mem op) := by
  cases op
  case move x | assign x => exact Nice.congr (Nice.at _) fun K => evV_eq
  case nilCheck x => exact Nice.congr nilV_nice fun K => evV_eq
  case pick c x y =>
    refine Nice.congr ?_ fun K => by simp only [vq, evV_eq]; try rfl
    split
    · exact Nice.if (Nice.at _) (Nice.at _)
    · exact Nice.no
  case load t p => exact Nice.congr ldV_nice fun K => evV_eq
  case binOp op t x y u => exact Nice.congr binV_nice fun K => by simp only [vq, evV_eq]; try rfl
  case build t parts => exact zeroV_nice.bind (U := fun l K => bldV (partP P t) fr parts.toList l fun l => K (AV.agg l)) fun l => bldV_nice.map AV.agg
  case unOp op t x =>
    refine Nice.congr ?_ fun K => by simp only [vq, evV_eq]; try rfl
    split
    · split <;> first | exact Nice.at _ | exact Nice.no
    · split <;> first | exact Nice.and (Nice.at _) | exact Nice.no
    · exact Nice.no
  case convert t u x => exact Nice.congr convV_nice fun K => evV_eq
  case extract x i =>
    refine Nice.congr ?_ fun K => by simp only [vq, evV_eq]; try rfl
    split <;> first | exact nthK_nice | exact Nice.no
  case field t x f => exact Nice.congr fldV_nice fun K => evV_eq
  case fieldAddr t x f => exact Nice.congr faV_nice fun K => evV_eq
  case indexAddr t x y => exact Nice.congr idxV_nice fun K => by simp only [vq, evV_eq]; try rfl
  case index t x y => exact Nice.congr ixV_nice fun K => by simp only [vq, evV_eq]; try rfl
  case slice t x lo hi mx =>
    cases mx with
    | some y => exact Nice.no
    | none =>
      refine Nice.congr ?_ fun K => by simp only [vq, evV_eq]; try rfl
      exact boundV_nice.bind (U := fun lo K => boundV fr hi fun hi => subV P t (evO fr x) lo hi K) fun lo => boundV_nice.bind fun hi => subV_nice
  case lookup t x y ok => exact Nice.congr lookV_nice fun K => by simp only [vq, evV_eq]; try rfl
  case makeInterface t x =>
    refine Nice.tt (Nice.tt (Nice.congr ?_ fun K => evV_eq))
    split <;> first | exact Nice.and (Nice.at _) | exact Nice.no
  case typeAssert x t u ok =>
    refine Nice.tt (Nice.tt (Nice.tt (Nice.congr ?_ fun K => evV_eq)))
    repeat' split
    all_goals first | exact Nice.at _ | exact Nice.no
  case makeFunc fn first caps =>
    cases fn with
    | func f => exact Nice.tt (Nice.congr (Nice.at _) fun K => by simp only [evL_eq, fzL_eq]; try rfl)
    | _ => exact Nice.no
  case call c =>
    obtain ⟨callee, args, ats⟩ := c
    cases callee with
    | builtin b =>
      cases b
      case len => exact Nice.congr lenV_nice fun K => evL_eq
      case min => exact Nice.congr minV_nice fun K => evL_eq
      case max => exact Nice.congr minV_nice fun K => evL_eq
      all_goals exact Nice.no
    | _ => exact Nice.no
  all_goals exact Nice.no
end Go.Proofs.Ytimfnpjcedjmiaa
