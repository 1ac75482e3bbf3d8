/- Lemmas. -/
import Derived.Test.YtimfnpjcedjmiadGreatK12
import Derived.Test.YtimfnpjcedjmiadGreatK8
set_option maxRecDepth 100000
set_option maxHeartbeats 64000000
set_option linter.all false
namespace Go.Proofs.YtimfnpjcedjmiadGreat
open Go.RowKit
def knM (kn : Int -> Option St3) : Value -> Option (List AV)
 | .int .i64 n => (kn n).map zaF
 | _ => none
def owM (o : Int -> Bool) : Value -> Option (List AV)
 | .int .i64 n => if o n then some [.v (.bool true)] else none
 | _ => none
theorem zeK {v : Value} {n : Int} : zcQ v (.int .i64 n) = true ↔ v = .int .i64 n := by
 constructor
 ·exact zar
 ·rintro rfl; simp [zcQ, zcf]
theorem updF_kn {kn : Int -> Option St3} {n : Int} {s : St3} : updF (knM kn) (.int .i64 n) (some (zaF s)) = knM (upI kn n (some s)) := by
 funext v
 unfold updF
 cases h : zcQ v (.int .i64 n) with
 | true => rw [zeK.1 h]; simp [knM, upI]
 | false =>
  cases v with
  | int k m =>
   cases k with
   | i64 =>
    have hne : m ≠ n := fun e => by subst e; simp [zcQ, zcf] at h
    simp [knM, upI, hne]
   | _ => rfl
  | _ => rfl
theorem zaq {o : Int -> Bool} {n : Int} : updF (owM o) (.int .i64 n) (some [.v (.bool true)]) = owM (upI o n true) := by
 funext v
 unfold updF
 cases h : zcQ v (.int .i64 n) with
 | true => rw [zeK.1 h]; simp [owM, upI]
 | false =>
  cases v with
  | int k m =>
   cases k with
   | i64 =>
    have hne : m ≠ n := fun e => by subst e; simp [zcQ, zcf] at h
    simp [owM, upI, hne]
   | _ => rfl
  | _ => rfl
theorem zao {o : Int -> Bool} {n : Int} : updF (owM o) (.int .i64 n) none = owM (upI o n false) := by
 funext v
 unfold updF
 cases h : zcQ v (.int .i64 n) with
 | true => rw [zeK.1 h]; simp [owM, upI]
 | false =>
  cases v with
  | int k m =>
   cases k with
   | i64 =>
    have hne : m ≠ n := fun e => by subst e; simp [zcQ, zcf] at h
    simp [owM, upI, hne]
   | _ => rfl
  | _ => rfl
theorem owM_none : (fun _ => none) = owM (fun _ => false) := by
 funext v
 cases v with
 | int k m => cases k <;> rfl
 | _ => rfl
theorem knM_none : (fun _ => none) = knM (fun _ => none) := by
 funext v
 cases v with
 | int k m => cases k <;> rfl
 | _ => rfl
def kmR (kn : Int -> Option St3) : Res := .map (some .i64) true (knM kn)
def omR (o : Int -> Bool) : Res := .map (some .i64) false (owM o)
def baL (kn : Int -> Option St3) : List (Int -> Bool) -> List Res
 | [a] => [.cells [.map 1, .arr 2 0 1], kmR kn, .arr false 140 1 0 [[.map 3]], omR a]
 | [a, b] => [.cells [.map 1, .arr 2 0 2], kmR kn, .arr false 140 1 0 [[.map 3], [.map 4]], omR a, omR b]
 | [a, b, c] => [.cells [.map 1, .arr 2 0 3], kmR kn, .arr false 140 1 0 [[.map 3], [.map 4], [.map 5]], omR a, omR b, omR c]
 | _ => []
def baM (b : Ba) : List Res := baL b.kn b.ow
theorem np3 {α : Type} {l : List α} (h1 : 1 <= l.length) (h3 : l.length <= 3) {p : List α -> Prop} (c1 : ∀ a, p [a]) (c2 : ∀ a b, p [a, b]) (c3 : ∀ a b c, p [a, b, c]) : p l := by
 match l, h1, h3 with
 | [a], _, _ => exact c1 a
 | [a, b], _, _ => exact c2 a b
 | [a, b, c], _, _ => exact c3 a b c
theorem or4 {a b c d p : Prop} (h : a \/ b \/ c \/ d) (h1 : a -> p) (h2 : b -> p) (h3 : c -> p) (h4 : d -> p) : p := by
 rcases h with h | h | h | h
 ·exact h1 h
 ·exact h2 h
 ·exact h3 h
 ·exact h4 h
theorem zcM {o : Option (List AV)} {K : Option (List AV) -> Prop} (h : o = none) (k : K none) : StopLook o K := by
 subst h
 exact ⟨fun l e => (by cases e), fun _ => k⟩
theorem zbU {o : Option (List AV)} {l : List AV} {K : Option (List AV) -> Prop} (h : o = some l) (k : K (some l)) : StopLook o K := by
 subst h
 exact ⟨fun m e => (by cases e; exact k), fun e => (by cases e)⟩
theorem zhu (kn : Int -> Option St3) (ow : List (Int -> Bool)) (h1 : 1 <= ow.length) (h3 : ow.length <= 3) (n but : Int) : Fn Tryz.prog 56 [.box 0 0, .v (.int .i64 n), .v (.int .i64 but)] (baL kn ow) (.tup []) (baL kn (allW ow 0 n but)) := by
 refine np3 (p := fun ow => Fn Tryz.prog 56 [.box 0 0, .v (.int .i64 n), .v (.int .i64 but)] (baL kn ow) (.tup []) (baL kn (allW ow 0 n but))) h1 h3 (fun a => ?_) (fun a b => ?_) (fun a b c => ?_)
 ·refine foA zaA [] [] Tryz.func56 Tryz.ntmps56 Tryz.results56 ?_
  (all_goals refine gv ?_)
  refine lpG (fun k : Nat => ⟨[(0, .box 0 0), (1, .v (.int .i64 n)), (2, .v (.int .i64 but)), (11, .v (.int .i64 1)), (12, .v (.int .i64 k))], baL kn (allK [a] 0 n but k)⟩) (fun k => k <= 1) (fun k => 1 - k) 0 (by omega) (by (refine zaC [0, 1, 2, 3] ?_;repeat' first|exact .intro|refine Tw.mk ?_ ?_)) ?_
  intro k hk
  refine or4 (by omega : k = 0 \/ k = 1 \/ k = 2 \/ k = 3) (fun e => ?_) (fun e => ?_) (fun e => ?_) (fun e => ?_)
  all_goals (subst e)
  all_goals (try (exfalso; omega))
  ·by_cases h : (0 : Int) = but
   ·(all_goals refine fv ?_;repeat' first|exact .intro|refine Tw.mk ?_ ?_|(intro h;first|replace h:=h.o|cases h))
    refine zaO 1 (by omega) (by omega) (by (refine zaC [0, 1, 2, 3] ?_;repeat' first|exact .intro|refine Tw.mk ?_ ?_); all_goals (all_goals (try first | rfl | (exact congrArg owM (zfP h).symm))))
   ·(all_goals refine fv ?_;repeat' first|exact .intro|refine Tw.mk ?_ ?_|(intro h;first|replace h:=h.o|cases h))
    refine zaO 1 (by omega) (by omega) (by (refine zaC [0, 1, 2, 3] ?_;repeat' first|exact .intro|refine Tw.mk ?_ ?_); all_goals (all_goals (try first | rfl | (exact zaq.trans (congrArg owM (zd7 h).symm)))))
  ·exact Y69
 ·refine foA zaA [] [] Tryz.func56 Tryz.ntmps56 Tryz.results56 ?_
  (all_goals refine gv ?_)
  refine lpG (fun k : Nat => ⟨[(0, .box 0 0), (1, .v (.int .i64 n)), (2, .v (.int .i64 but)), (11, .v (.int .i64 2)), (12, .v (.int .i64 k))], baL kn (allK [a, b] 0 n but k)⟩) (fun k => k <= 2) (fun k => 2 - k) 0 (by omega) (by (refine zaC [0, 1, 2, 3, 4] ?_;repeat' first|exact .intro|refine Tw.mk ?_ ?_)) ?_
  intro k hk
  refine or4 (by omega : k = 0 \/ k = 1 \/ k = 2 \/ k = 3) (fun e => ?_) (fun e => ?_) (fun e => ?_) (fun e => ?_)
  all_goals (subst e)
  all_goals (try (exfalso; omega))
  ·by_cases h : (0 : Int) = but
   ·(all_goals refine fv ?_;repeat' first|exact .intro|refine Tw.mk ?_ ?_|(intro h;first|replace h:=h.o|cases h))
    refine zaO 1 (by omega) (by omega) (by (refine zaC [0, 1, 2, 3, 4] ?_;repeat' first|exact .intro|refine Tw.mk ?_ ?_); all_goals (all_goals (try first | rfl | (exact congrArg owM (zfP h).symm))))
   ·(all_goals refine fv ?_;repeat' first|exact .intro|refine Tw.mk ?_ ?_|(intro h;first|replace h:=h.o|cases h))
    refine zaO 1 (by omega) (by omega) (by (refine zaC [0, 1, 2, 3, 4] ?_;repeat' first|exact .intro|refine Tw.mk ?_ ?_); all_goals (all_goals (try first | rfl | (exact zaq.trans (congrArg owM (zd7 h).symm)))))
  ·by_cases h : (1 : Int) = but
   ·(all_goals refine fv ?_;repeat' first|exact .intro|refine Tw.mk ?_ ?_|(intro h;first|replace h:=h.o|cases h))
    refine zaO 2 (by omega) (by omega) (by (refine zaC [0, 1, 2, 3, 4] ?_;repeat' first|exact .intro|refine Tw.mk ?_ ?_); all_goals (all_goals (try first | rfl | (exact congrArg owM (zfP h).symm))))
   ·(all_goals refine fv ?_;repeat' first|exact .intro|refine Tw.mk ?_ ?_|(intro h;first|replace h:=h.o|cases h))
    refine zaO 2 (by omega) (by omega) (by (refine zaC [0, 1, 2, 3, 4] ?_;repeat' first|exact .intro|refine Tw.mk ?_ ?_); all_goals (all_goals (try first | rfl | (exact zaq.trans (congrArg owM (zd7 h).symm)))))
  ·exact Y40
 ·refine foA zaA [] [] Tryz.func56 Tryz.ntmps56 Tryz.results56 ?_
  (all_goals refine gv ?_)
  refine lpG (fun k : Nat => ⟨[(0, .box 0 0), (1, .v (.int .i64 n)), (2, .v (.int .i64 but)), (11, .v (.int .i64 3)), (12, .v (.int .i64 k))], baL kn (allK [a, b, c] 0 n but k)⟩) (fun k => k <= 3) (fun k => 3 - k) 0 (by omega) (by (refine zaC [0, 1, 2, 3, 4, 5] ?_;repeat' first|exact .intro|refine Tw.mk ?_ ?_)) ?_
  intro k hk
  refine or4 (by omega : k = 0 \/ k = 1 \/ k = 2 \/ k = 3) (fun e => ?_) (fun e => ?_) (fun e => ?_) (fun e => ?_)
  all_goals (subst e)
  ·by_cases h : (0 : Int) = but
   ·(all_goals refine fv ?_;repeat' first|exact .intro|refine Tw.mk ?_ ?_|(intro h;first|replace h:=h.o|cases h))
    refine zaO 1 (by omega) (by omega) (by (refine zaC [0, 1, 2, 3, 4, 5] ?_;repeat' first|exact .intro|refine Tw.mk ?_ ?_); all_goals (all_goals (try first | rfl | (exact congrArg owM (zfP h).symm))))
   ·(all_goals refine fv ?_;repeat' first|exact .intro|refine Tw.mk ?_ ?_|(intro h;first|replace h:=h.o|cases h))
    refine zaO 1 (by omega) (by omega) (by (refine zaC [0, 1, 2, 3, 4, 5] ?_;repeat' first|exact .intro|refine Tw.mk ?_ ?_); all_goals (all_goals (try first | rfl | (exact zaq.trans (congrArg owM (zd7 h).symm)))))
  ·by_cases h : (1 : Int) = but
   ·(all_goals refine fv ?_;repeat' first|exact .intro|refine Tw.mk ?_ ?_|(intro h;first|replace h:=h.o|cases h))
    refine zaO 2 (by omega) (by omega) (by (refine zaC [0, 1, 2, 3, 4, 5] ?_;repeat' first|exact .intro|refine Tw.mk ?_ ?_); all_goals (all_goals (try first | rfl | (exact congrArg owM (zfP h).symm))))
   ·(all_goals refine fv ?_;repeat' first|exact .intro|refine Tw.mk ?_ ?_|(intro h;first|replace h:=h.o|cases h))
    refine zaO 2 (by omega) (by omega) (by (refine zaC [0, 1, 2, 3, 4, 5] ?_;repeat' first|exact .intro|refine Tw.mk ?_ ?_); all_goals (all_goals (try first | rfl | (exact zaq.trans (congrArg owM (zd7 h).symm)))))
  ·by_cases h : (2 : Int) = but
   ·(all_goals refine fv ?_;repeat' first|exact .intro|refine Tw.mk ?_ ?_|(intro h;first|replace h:=h.o|cases h))
    refine zaO 3 (by omega) (by omega) (by (refine zaC [0, 1, 2, 3, 4, 5] ?_;repeat' first|exact .intro|refine Tw.mk ?_ ?_); all_goals (all_goals (try first | rfl | (exact congrArg owM (zfP h).symm))))
   ·(all_goals refine fv ?_;repeat' first|exact .intro|refine Tw.mk ?_ ?_|(intro h;first|replace h:=h.o|cases h))
    refine zaO 3 (by omega) (by omega) (by (refine zaC [0, 1, 2, 3, 4, 5] ?_;repeat' first|exact .intro|refine Tw.mk ?_ ?_); all_goals (all_goals (try first | rfl | (exact zaq.trans (congrArg owM (zd7 h).symm)))))
  ·exact Y38
def newA (E : Nat) (n : Int) (k : Nat) : AS :=
 match k with
 | 0 => ⟨[(4, .box 1 0), (15, .v (.int .i64 n)), (16, .v (.int .i64 0))], [.map (some .i64) true fun _ => none, .cells [.map 0, .arr 2 0 0], .arr false E 1 0 []]⟩
 | 1 => ⟨[(4, .box 1 0), (15, .v (.int .i64 n)), (16, .v (.int .i64 1))], [.map (some .i64) true fun _ => none, .cells [.map 0, .arr 2 1 1], .arr false E 1 1 [[.map 3]], .map (some .i64) false fun _ => none]⟩
 | 2 => ⟨[(4, .box 1 0), (15, .v (.int .i64 n)), (16, .v (.int .i64 2))], [.map (some .i64) true fun _ => none, .cells [.map 0, .arr 2 2 2], .arr false E 1 2 [[.map 3], [.map 4]], .map (some .i64) false fun _ => none, .map (some .i64) false fun _ => none]⟩
 | _ => ⟨[(4, .box 1 0), (15, .v (.int .i64 n)), (16, .v (.int .i64 3))], [.map (some .i64) true fun _ => none, .cells [.map 0, .arr 2 3 3], .arr false E 1 3 [[.map 3], [.map 4], [.map 5]], .map (some .i64) false fun _ => none, .map (some .i64) false fun _ => none, .map (some .i64) false fun _ => none]⟩
theorem fnew_ok (n : Nat) (h1 : 1 <= n) (h3 : n <= 3) : Fn Tryz.prog 40 [.v (.int .i64 n)] [] (.tup [.box 0 0, .err 0]) (baM (newB n)) := by
 have hb : baM (newB n) = baL (fun _ => none) (List.replicate n fun _ => false) := rfl
 rw [hb]
 refine foL zaA [] [] Tryz.func40 Tryz.ntmps40 Tryz.results40 ?_
 (all_goals refine fv ?_;repeat' first|exact .intro|refine Tw.mk ?_ ?_|(intro h;first|replace h:=h.o|cases h))
 refine lpG (fun k : Nat => newA 140 n k) (fun k => k <= n) (fun k => n - k) 0 (by omega) (AS.le_trans (za0 false 1 1 140 1 _ rfl rfl) (by unfold newA; (refine zaC [0, 1, 2] ?_;repeat' first|exact .intro|refine Tw.mk ?_ ?_))) ?_
 intro k hk
 by_cases hkn : k < n
 ·refine or4 (by omega : k = 0 \/ k = 1 \/ k = 2 \/ k = 3) (fun e => ?_) (fun e => ?_) (fun e => ?_) (fun e => ?_)
  all_goals (subst e)
  all_goals (try (exfalso; omega))
  ·unfold newA
   (all_goals refine fv ?_;repeat' first|exact .intro|refine Tw.mk ?_ ?_|(intro h;first|replace h:=h.o|cases h))
   refine zaO 1 (by omega) (by omega) (by (refine zaC [0, 1, 2, 3] ?_;repeat' first|exact .intro|refine Tw.mk ?_ ?_))
  ·unfold newA
   (all_goals refine fv ?_;repeat' first|exact .intro|refine Tw.mk ?_ ?_|(intro h;first|replace h:=h.o|cases h))
   refine zaO 2 (by omega) (by omega) (by (refine zaC [0, 1, 2, 3, 4] ?_;repeat' first|exact .intro|refine Tw.mk ?_ ?_))
  ·unfold newA
   (all_goals refine fv ?_;repeat' first|exact .intro|refine Tw.mk ?_ ?_|(intro h;first|replace h:=h.o|cases h))
   refine zaO 3 (by omega) (by omega) (by (refine zaC [0, 1, 2, 3, 4, 5] ?_;repeat' first|exact .intro|refine Tw.mk ?_ ?_))
 ·have ek : k = n := by omega
  subst ek
  clear hk hkn hb
  refine or3 (by omega : k = 1 \/ k = 2 \/ k = 3) (fun e => ?_) (fun e => ?_) (fun e => ?_)
  all_goals (subst e)
  ·unfold newA
   (all_goals refine fv ?_;repeat' first|exact .intro|refine Tw.mk ?_ ?_|(intro h;first|replace h:=h.o|cases h))
   ((try (conv => whnf));refine ⟨_,AS.le_refl _ _,?_⟩;((try (conv => whnf));refine StopRet.by [1, 0, 2, 3] ?_;repeat' first|exact .intro|refine Tw.mk ?_ ?_))
   all_goals exact Y61
  ·unfold newA
   (all_goals refine fv ?_;repeat' first|exact .intro|refine Tw.mk ?_ ?_|(intro h;first|replace h:=h.o|cases h))
   ((try (conv => whnf));refine ⟨_,AS.le_refl _ _,?_⟩;((try (conv => whnf));refine StopRet.by [1, 0, 2, 3, 4] ?_;repeat' first|exact .intro|refine Tw.mk ?_ ?_))
   all_goals exact Y61
  ·unfold newA
   (all_goals refine fv ?_;repeat' first|exact .intro|refine Tw.mk ?_ ?_|(intro h;first|replace h:=h.o|cases h))
   ((try (conv => whnf));refine ⟨_,AS.le_refl _ _,?_⟩;((try (conv => whnf));refine StopRet.by [1, 0, 2, 3, 4, 5] ?_;repeat' first|exact .intro|refine Tw.mk ?_ ?_))
   all_goals exact Y61
theorem fset_ok (kn : Int -> Option St3) (ow : List (Int -> Bool)) (h1 : 1 <= ow.length) (h3 : ow.length <= 3) (s : St3) (hs : s.2.2.length <= 1000000) : Fn Tryz.prog 43 [.box 0 0, .agg (zaF s)] (baL kn ow) (.err (sf s)) (baM (setB ⟨kn, ow⟩ s)) := by
 obtain ⟨q, g, l⟩ := s
 have hck := zct q g l
 have hcp := zah q g (l.map opRow) (by simpa using hs)
 have hsf : sf (q, g, l) = zaL q g l := rfl
 have hnn := zcg q g l
 have hall := fun ow h1 h3 => zhu (upI kn q (some (q, g, l))) ow h1 h3 q (-1)
 refine np3 (p := fun ow => Fn Tryz.prog 43 [.box 0 0, .agg (zaF (q, g, l))] (baL kn ow) (.err (sf (q, g, l))) (baM (setB ⟨kn, ow⟩ (q, g, l)))) h1 h3 (fun a => ?_) (fun a b => ?_) (fun a b c => ?_)
 ·by_cases h0 : zaL q g l = 0
  ·have hal := hall [a] (by simp) (by simp)
   have hV : setB ⟨kn, [a]⟩ (q, g, l) = ⟨upI kn q (some (q, g, l)), allW [a] 0 q (-1)⟩ := if_pos h0
   rw [hV, hsf, h0]
   rw [h0] at hck
   unfold zaF
   refine foA zaA [] [] Tryz.func43 Tryz.ntmps43 Tryz.results43 ?_
   (all_goals refine fv ?_)
   (all_goals (try ((first|refine StopCall.by0 (hck) ?_|refine StopPure.by0 (hck) ?_);(all_goals refine gv ?_;repeat' first|exact .intro|refine Tw.mk ?_ ?_|(intro h;first|replace h:=h.o|cases h)))))
   (all_goals refine fv ?_)
   (all_goals (try ((first|refine StopCall.by0 (hcp) ?_|refine StopPure.by0 (hcp) ?_);(all_goals refine gv ?_))))
   (all_goals refine fv ?_)
   (refine ⟨_, _, _, _, [0, 1, 2, 3], hal, rfl, rfl, rfl, ?_, ?_, ?_⟩)
   ·exact Y18
   ·exact Y3
   (all_goals refine fv ?_)
   ((try (conv => whnf));refine StopRet.by [0, 1, 2, 3] ?_;repeat' first|exact .intro|refine Tw.mk ?_ ?_)
  ·have hV : setB ⟨kn, [a]⟩ (q, g, l) = ⟨kn, [a]⟩ := if_neg h0
   rw [hV, hsf]
   generalize zaL q g l = F at *
   unfold zaF
   refine foA zaA [] [] Tryz.func43 Tryz.ntmps43 Tryz.results43 ?_
   (all_goals refine fv ?_)
   (all_goals (try ((first|refine StopCall.by0 (hck) ?_|refine StopPure.by0 (hck) ?_);(all_goals refine gv ?_;repeat' first|exact .intro|refine Tw.mk ?_ ?_|(intro h;first|replace h:=h.o|cases h)))))
   (all_goals refine fv ?_)
   all_goals exact Y13
 ·by_cases h0 : zaL q g l = 0
  ·have hal := hall [a, b] (by simp) (by simp)
   have hV : setB ⟨kn, [a, b]⟩ (q, g, l) = ⟨upI kn q (some (q, g, l)), allW [a, b] 0 q (-1)⟩ := if_pos h0
   rw [hV, hsf, h0]
   rw [h0] at hck
   unfold zaF
   refine foA zaA [] [] Tryz.func43 Tryz.ntmps43 Tryz.results43 ?_
   (all_goals refine fv ?_)
   (all_goals (try ((first|refine StopCall.by0 (hck) ?_|refine StopPure.by0 (hck) ?_);(all_goals refine gv ?_;repeat' first|exact .intro|refine Tw.mk ?_ ?_|(intro h;first|replace h:=h.o|cases h)))))
   (all_goals refine fv ?_)
   (all_goals (try ((first|refine StopCall.by0 (hcp) ?_|refine StopPure.by0 (hcp) ?_);(all_goals refine gv ?_))))
   (all_goals refine fv ?_)
   (refine ⟨_, _, _, _, [0, 1, 2, 3, 4], hal, rfl, rfl, rfl, ?_, ?_, ?_⟩)
   ·exact Y18
   ·exact Y3
   (all_goals refine fv ?_)
   ((try (conv => whnf));refine StopRet.by [0, 1, 2, 3, 4] ?_;repeat' first|exact .intro|refine Tw.mk ?_ ?_)
  ·have hV : setB ⟨kn, [a, b]⟩ (q, g, l) = ⟨kn, [a, b]⟩ := if_neg h0
   rw [hV, hsf]
   generalize zaL q g l = F at *
   unfold zaF
   refine foA zaA [] [] Tryz.func43 Tryz.ntmps43 Tryz.results43 ?_
   (all_goals refine fv ?_)
   (all_goals (try ((first|refine StopCall.by0 (hck) ?_|refine StopPure.by0 (hck) ?_);(all_goals refine gv ?_;repeat' first|exact .intro|refine Tw.mk ?_ ?_|(intro h;first|replace h:=h.o|cases h)))))
   (all_goals refine fv ?_)
   all_goals exact Y28
 ·by_cases h0 : zaL q g l = 0
  ·have hal := hall [a, b, c] (by simp) (by simp)
   have hV : setB ⟨kn, [a, b, c]⟩ (q, g, l) = ⟨upI kn q (some (q, g, l)), allW [a, b, c] 0 q (-1)⟩ := if_pos h0
   rw [hV, hsf, h0]
   rw [h0] at hck
   unfold zaF
   refine foA zaA [] [] Tryz.func43 Tryz.ntmps43 Tryz.results43 ?_
   (all_goals refine fv ?_)
   (all_goals (try ((first|refine StopCall.by0 (hck) ?_|refine StopPure.by0 (hck) ?_);(all_goals refine gv ?_;repeat' first|exact .intro|refine Tw.mk ?_ ?_|(intro h;first|replace h:=h.o|cases h)))))
   (all_goals refine fv ?_)
   (all_goals (try ((first|refine StopCall.by0 (hcp) ?_|refine StopPure.by0 (hcp) ?_);(all_goals refine gv ?_))))
   (all_goals refine fv ?_)
   (refine ⟨_, _, _, _, [0, 1, 2, 3, 4, 5], hal, rfl, rfl, rfl, ?_, ?_, ?_⟩)
   ·exact Y18
   ·exact Y3
   (all_goals refine fv ?_)
   ((try (conv => whnf));refine StopRet.by [0, 1, 2, 3, 4, 5] ?_;repeat' first|exact .intro|refine Tw.mk ?_ ?_)
  ·have hV : setB ⟨kn, [a, b, c]⟩ (q, g, l) = ⟨kn, [a, b, c]⟩ := if_neg h0
   rw [hV, hsf]
   generalize zaL q g l = F at *
   unfold zaF
   refine foA zaA [] [] Tryz.func43 Tryz.ntmps43 Tryz.results43 ?_
   (all_goals refine fv ?_)
   (all_goals (try ((first|refine StopCall.by0 (hck) ?_|refine StopPure.by0 (hck) ?_);(all_goals refine gv ?_;repeat' first|exact .intro|refine Tw.mk ?_ ?_|(intro h;first|replace h:=h.o|cases h)))))
   (all_goals refine fv ?_)
   all_goals exact Y22
theorem zmq (kn : Int -> Option St3) (ow : List (Int -> Bool)) (h1 : 1 <= ow.length) (h3 : ow.length <= 3) (hkn : ∀ n s, kn n = some s -> s.1 = n /\ sf s = 0) (p : Int) (s : St3) : Fn Tryz.prog 106 [.box 0 0, .v (.int .i64 p), .agg (zaF s)] (baL kn ow) (.err (zas ⟨kn, ow⟩ p s)) (baM (hrdB ⟨kn, ow⟩ p s)) := by
 obtain ⟨q, g, l⟩ := s
 have hck := zct q g l
 have hsf : sf (q, g, l) = zaL q g l := rfl
 have hnn := zcg q g l
 have hll : zaL q g l = 0 -> l.length <= 1000000 := fun h => by have := (zaK h).2.2.2.2.1; omega
 refine np3 (p := fun ow => Fn Tryz.prog 106 [.box 0 0, .v (.int .i64 p), .agg (zaF (q, g, l))] (baL kn ow) (.err (zas ⟨kn, ow⟩ p (q, g, l))) (baM (hrdB ⟨kn, ow⟩ p (q, g, l)))) h1 h3 (fun a => ?_) (fun a b => ?_) (fun a b c => ?_)
 ·by_cases hp : 0 <= p /\ p < 1
  ·have hin : inP ⟨kn, [a]⟩ p = true := by simp [inP]; omega
   by_cases h0 : zaL q g l = 0
   ·have hE : zas ⟨kn, [a]⟩ p (q, g, l) = 0 := (if_pos hin).trans h0
    rw [hE]
    rw [h0] at hck
    have hl := hll h0
    cases hk : kn q with
    | none =>
     have hw := zau 0 0 q g [] l (by decide) hl
     have hlo : orL [cmpI 0 g, cmpE [] l] <= 0 := by
      exact Y65
     have hV : hrdB ⟨kn, [a]⟩ p (q, g, l) = ⟨kn, modW [a] p fun o => upI o q false⟩ := if_pos ⟨hin, h0, by unfold hrK; dsimp only; rw [hk]; show (-1 : Int) <= 0; decide⟩
     rw [hV]
     have hlook : knM kn (.int .i64 q) = none := by simp [knM, hk]
     generalize orL [cmpI 0 g, cmpE [] l] = v at *
     refine or3 (by omega : p = 0 \/ p = 1 \/ p = 2) (fun e => ?_) (fun e => ?_) (fun e => ?_)
     all_goals (subst e)
     all_goals (try (exfalso; omega))
     all_goals
      unfold zaF
      refine foA zaA [] [] Tryz.func106 Tryz.ntmps106 Tryz.results106 ?_
      (all_goals refine fv ?_;repeat' first|exact .intro|refine Tw.mk ?_ ?_|(intro h;first|replace h:=h.o|cases h))
      (all_goals (try ((first|refine StopCall.by0 (hck) ?_|refine StopPure.by0 (hck) ?_);(all_goals refine gv ?_;repeat' first|exact .intro|refine Tw.mk ?_ ?_|(intro h;first|replace h:=h.o|cases h)))))
      (all_goals refine fv ?_)
      (refine zcM hlook ?_)
      (all_goals refine fv ?_;repeat' first|exact .intro|refine Tw.mk ?_ ?_|(intro h;first|replace h:=h.o|cases h))
      (refine ⟨_, _, _, _, [], hw, rfl, rfl, rfl, ?_, ?_, ?_⟩)
      ·exact Y3
      ·exact Y3
      (all_goals refine fv ?_;repeat' first|exact .intro|refine Tw.mk ?_ ?_|(intro h;first|replace h:=h.o|cases h))
      ((try (conv => whnf));refine StopRet.by [0, 1, 2, 3] ?_;repeat' first|exact .intro|refine Tw.mk ?_ ?_)
      all_goals (first | rfl | (exact zao))
    | some t =>
     obtain ⟨q2, g2, l2⟩ := t
     obtain ⟨e2, ht⟩ := hkn q _ hk
     have hl2 : l2.length <= 1000000 := by have := (zaK (show zaL q2 g2 l2 = 0 from ht)).2.2.2.2.1; omega
     have hw := zau q2 g2 q g l2 l hl2 hl
     have hK : hrK ⟨kn, [a]⟩ (q, g, l) = orL [cmpI g2 g, cmpE l2 l] := by unfold hrK; dsimp only; rw [hk]; rfl
     have hlook : knM kn (.int .i64 q) = some [.v (.int .i64 q2), .v (.int .i64 g2), .sl 2 (l2.map opRow) none] := by simp [knM, hk, zaF]
     by_cases hv : orL [cmpI g2 g, cmpE l2 l] <= 0
     ·have hV : hrdB ⟨kn, [a]⟩ p (q, g, l) = ⟨kn, modW [a] p fun o => upI o q false⟩ := if_pos ⟨hin, h0, by rw [hK]; exact hv⟩
      rw [hV]
      clear hK
      generalize orL [cmpI g2 g, cmpE l2 l] = v at *
      refine or3 (by omega : p = 0 \/ p = 1 \/ p = 2) (fun e => ?_) (fun e => ?_) (fun e => ?_)
      all_goals (subst e)
      all_goals (try (exfalso; omega))
      all_goals
       unfold zaF
       refine foA zaA [] [] Tryz.func106 Tryz.ntmps106 Tryz.results106 ?_
       (all_goals refine fv ?_;repeat' first|exact .intro|refine Tw.mk ?_ ?_|(intro h;first|replace h:=h.o|cases h))
       (all_goals (try ((first|refine StopCall.by0 (hck) ?_|refine StopPure.by0 (hck) ?_);(all_goals refine gv ?_;repeat' first|exact .intro|refine Tw.mk ?_ ?_|(intro h;first|replace h:=h.o|cases h)))))
       (all_goals refine fv ?_)
       (refine zbU hlook ?_)
       (all_goals refine fv ?_;repeat' first|exact .intro|refine Tw.mk ?_ ?_|(intro h;first|replace h:=h.o|cases h))
       (all_goals (try ((first|refine StopCall.by0 (hw) ?_|refine StopPure.by0 (hw) ?_);(all_goals refine gv ?_;repeat' first|exact .intro|refine Tw.mk ?_ ?_|(intro h;first|replace h:=h.o|cases h)))))
       (all_goals refine fv ?_)
       ((try (conv => whnf));refine StopRet.by [0, 1, 2, 3] ?_;repeat' first|exact .intro|refine Tw.mk ?_ ?_)
       all_goals (first | rfl | (exact zao))
     ·have hV : hrdB ⟨kn, [a]⟩ p (q, g, l) = ⟨kn, [a]⟩ := if_neg (fun h => hv (by rw [<- hK]; exact h.2.2))
      rw [hV]
      clear hK
      generalize orL [cmpI g2 g, cmpE l2 l] = v at *
      unfold zaF
      refine foA zaA [] [] Tryz.func106 Tryz.ntmps106 Tryz.results106 ?_
      (all_goals refine fv ?_;repeat' first|exact .intro|refine Tw.mk ?_ ?_|(intro h;first|replace h:=h.o|cases h))
      (all_goals (try ((first|refine StopCall.by0 (hck) ?_|refine StopPure.by0 (hck) ?_);(all_goals refine gv ?_;repeat' first|exact .intro|refine Tw.mk ?_ ?_|(intro h;first|replace h:=h.o|cases h)))))
      (all_goals refine fv ?_)
      (refine zbU hlook ?_)
      (all_goals refine fv ?_;repeat' first|exact .intro|refine Tw.mk ?_ ?_|(intro h;first|replace h:=h.o|cases h))
      (all_goals (try ((first|refine StopCall.by0 (hw) ?_|refine StopPure.by0 (hw) ?_);(all_goals refine gv ?_;repeat' first|exact .intro|refine Tw.mk ?_ ?_|(intro h;first|replace h:=h.o|cases h)))))
      (all_goals refine fv ?_)
      ((try (conv => whnf));refine StopRet.by [0, 1, 2, 3] ?_;repeat' first|exact .intro|refine Tw.mk ?_ ?_)
      all_goals rfl
   ·have hE : zas ⟨kn, [a]⟩ p (q, g, l) = zaL q g l := if_pos hin
    have hV : hrdB ⟨kn, [a]⟩ p (q, g, l) = ⟨kn, [a]⟩ := if_neg (fun h => h0 h.2.1)
    rw [hE, hV]
    generalize zaL q g l = F at *
    unfold zaF
    refine foA zaA [] [] Tryz.func106 Tryz.ntmps106 Tryz.results106 ?_
    (all_goals refine fv ?_;repeat' first|exact .intro|refine Tw.mk ?_ ?_|(intro h;first|replace h:=h.o|cases h))
    (all_goals (try ((first|refine StopCall.by0 (hck) ?_|refine StopPure.by0 (hck) ?_);(all_goals refine gv ?_;repeat' first|exact .intro|refine Tw.mk ?_ ?_|(intro h;first|replace h:=h.o|cases h)))))
    (all_goals refine fv ?_)
    all_goals exact Y13
  ·have hin : inP ⟨kn, [a]⟩ p = false := by simp [inP]; omega
   have hE : zas ⟨kn, [a]⟩ p (q, g, l) = 1 := by unfold zas; rw [hin]; rfl
   have hV : hrdB ⟨kn, [a]⟩ p (q, g, l) = ⟨kn, [a]⟩ := if_neg (fun h => by rw [hin] at h; exact absurd h.1 (by decide))
   rw [hE, hV]
   unfold zaF
   refine foA zaA [] [] Tryz.func106 Tryz.ntmps106 Tryz.results106 ?_
   (all_goals refine fv ?_;repeat' first|exact .intro|refine Tw.mk ?_ ?_|(intro h;first|replace h:=h.o|cases h))
   all_goals exact Y13
 ·by_cases hp : 0 <= p /\ p < 2
  ·have hin : inP ⟨kn, [a, b]⟩ p = true := by simp [inP]; omega
   by_cases h0 : zaL q g l = 0
   ·have hE : zas ⟨kn, [a, b]⟩ p (q, g, l) = 0 := (if_pos hin).trans h0
    rw [hE]
    rw [h0] at hck
    have hl := hll h0
    cases hk : kn q with
    | none =>
     have hw := zau 0 0 q g [] l (by decide) hl
     have hlo : orL [cmpI 0 g, cmpE [] l] <= 0 := by
      exact Y65
     have hV : hrdB ⟨kn, [a, b]⟩ p (q, g, l) = ⟨kn, modW [a, b] p fun o => upI o q false⟩ := if_pos ⟨hin, h0, by unfold hrK; dsimp only; rw [hk]; show (-1 : Int) <= 0; decide⟩
     rw [hV]
     have hlook : knM kn (.int .i64 q) = none := by simp [knM, hk]
     generalize orL [cmpI 0 g, cmpE [] l] = v at *
     refine or3 (by omega : p = 0 \/ p = 1 \/ p = 2) (fun e => ?_) (fun e => ?_) (fun e => ?_)
     all_goals (subst e)
     all_goals (try (exfalso; omega))
     all_goals
      unfold zaF
      refine foA zaA [] [] Tryz.func106 Tryz.ntmps106 Tryz.results106 ?_
      (all_goals refine fv ?_;repeat' first|exact .intro|refine Tw.mk ?_ ?_|(intro h;first|replace h:=h.o|cases h))
      (all_goals (try ((first|refine StopCall.by0 (hck) ?_|refine StopPure.by0 (hck) ?_);(all_goals refine gv ?_;repeat' first|exact .intro|refine Tw.mk ?_ ?_|(intro h;first|replace h:=h.o|cases h)))))
      (all_goals refine fv ?_)
      (refine zcM hlook ?_)
      (all_goals refine fv ?_;repeat' first|exact .intro|refine Tw.mk ?_ ?_|(intro h;first|replace h:=h.o|cases h))
      (refine ⟨_, _, _, _, [], hw, rfl, rfl, rfl, ?_, ?_, ?_⟩)
      ·exact Y3
      ·exact Y3
      (all_goals refine fv ?_;repeat' first|exact .intro|refine Tw.mk ?_ ?_|(intro h;first|replace h:=h.o|cases h))
      ((try (conv => whnf));refine StopRet.by [0, 1, 2, 3, 4] ?_;repeat' first|exact .intro|refine Tw.mk ?_ ?_)
      all_goals (first | rfl | (exact zao))
    | some t =>
     obtain ⟨q2, g2, l2⟩ := t
     obtain ⟨e2, ht⟩ := hkn q _ hk
     have hl2 : l2.length <= 1000000 := by have := (zaK (show zaL q2 g2 l2 = 0 from ht)).2.2.2.2.1; omega
     have hw := zau q2 g2 q g l2 l hl2 hl
     have hK : hrK ⟨kn, [a, b]⟩ (q, g, l) = orL [cmpI g2 g, cmpE l2 l] := by unfold hrK; dsimp only; rw [hk]; rfl
     have hlook : knM kn (.int .i64 q) = some [.v (.int .i64 q2), .v (.int .i64 g2), .sl 2 (l2.map opRow) none] := by simp [knM, hk, zaF]
     by_cases hv : orL [cmpI g2 g, cmpE l2 l] <= 0
     ·have hV : hrdB ⟨kn, [a, b]⟩ p (q, g, l) = ⟨kn, modW [a, b] p fun o => upI o q false⟩ := if_pos ⟨hin, h0, by rw [hK]; exact hv⟩
      rw [hV]
      clear hK
      generalize orL [cmpI g2 g, cmpE l2 l] = v at *
      refine or3 (by omega : p = 0 \/ p = 1 \/ p = 2) (fun e => ?_) (fun e => ?_) (fun e => ?_)
      all_goals (subst e)
      all_goals (try (exfalso; omega))
      all_goals
       unfold zaF
       refine foA zaA [] [] Tryz.func106 Tryz.ntmps106 Tryz.results106 ?_
       (all_goals refine fv ?_;repeat' first|exact .intro|refine Tw.mk ?_ ?_|(intro h;first|replace h:=h.o|cases h))
       (all_goals (try ((first|refine StopCall.by0 (hck) ?_|refine StopPure.by0 (hck) ?_);(all_goals refine gv ?_;repeat' first|exact .intro|refine Tw.mk ?_ ?_|(intro h;first|replace h:=h.o|cases h)))))
       (all_goals refine fv ?_)
       (refine zbU hlook ?_)
       (all_goals refine fv ?_;repeat' first|exact .intro|refine Tw.mk ?_ ?_|(intro h;first|replace h:=h.o|cases h))
       (all_goals (try ((first|refine StopCall.by0 (hw) ?_|refine StopPure.by0 (hw) ?_);(all_goals refine gv ?_;repeat' first|exact .intro|refine Tw.mk ?_ ?_|(intro h;first|replace h:=h.o|cases h)))))
       (all_goals refine fv ?_)
       ((try (conv => whnf));refine StopRet.by [0, 1, 2, 3, 4] ?_;repeat' first|exact .intro|refine Tw.mk ?_ ?_)
       all_goals (first | rfl | (exact zao))
     ·have hV : hrdB ⟨kn, [a, b]⟩ p (q, g, l) = ⟨kn, [a, b]⟩ := if_neg (fun h => hv (by rw [<- hK]; exact h.2.2))
      rw [hV]
      clear hK
      generalize orL [cmpI g2 g, cmpE l2 l] = v at *
      unfold zaF
      refine foA zaA [] [] Tryz.func106 Tryz.ntmps106 Tryz.results106 ?_
      (all_goals refine fv ?_;repeat' first|exact .intro|refine Tw.mk ?_ ?_|(intro h;first|replace h:=h.o|cases h))
      (all_goals (try ((first|refine StopCall.by0 (hck) ?_|refine StopPure.by0 (hck) ?_);(all_goals refine gv ?_;repeat' first|exact .intro|refine Tw.mk ?_ ?_|(intro h;first|replace h:=h.o|cases h)))))
      (all_goals refine fv ?_)
      (refine zbU hlook ?_)
      (all_goals refine fv ?_;repeat' first|exact .intro|refine Tw.mk ?_ ?_|(intro h;first|replace h:=h.o|cases h))
      (all_goals (try ((first|refine StopCall.by0 (hw) ?_|refine StopPure.by0 (hw) ?_);(all_goals refine gv ?_;repeat' first|exact .intro|refine Tw.mk ?_ ?_|(intro h;first|replace h:=h.o|cases h)))))
      (all_goals refine fv ?_)
      ((try (conv => whnf));refine StopRet.by [0, 1, 2, 3, 4] ?_;repeat' first|exact .intro|refine Tw.mk ?_ ?_)
      all_goals rfl
   ·have hE : zas ⟨kn, [a, b]⟩ p (q, g, l) = zaL q g l := if_pos hin
    have hV : hrdB ⟨kn, [a, b]⟩ p (q, g, l) = ⟨kn, [a, b]⟩ := if_neg (fun h => h0 h.2.1)
    rw [hE, hV]
    generalize zaL q g l = F at *
    unfold zaF
    refine foA zaA [] [] Tryz.func106 Tryz.ntmps106 Tryz.results106 ?_
    (all_goals refine fv ?_;repeat' first|exact .intro|refine Tw.mk ?_ ?_|(intro h;first|replace h:=h.o|cases h))
    (all_goals (try ((first|refine StopCall.by0 (hck) ?_|refine StopPure.by0 (hck) ?_);(all_goals refine gv ?_;repeat' first|exact .intro|refine Tw.mk ?_ ?_|(intro h;first|replace h:=h.o|cases h)))))
    (all_goals refine fv ?_)
    all_goals exact Y28
  ·have hin : inP ⟨kn, [a, b]⟩ p = false := by simp [inP]; omega
   have hE : zas ⟨kn, [a, b]⟩ p (q, g, l) = 1 := by unfold zas; rw [hin]; rfl
   have hV : hrdB ⟨kn, [a, b]⟩ p (q, g, l) = ⟨kn, [a, b]⟩ := if_neg (fun h => by rw [hin] at h; exact absurd h.1 (by decide))
   rw [hE, hV]
   unfold zaF
   refine foA zaA [] [] Tryz.func106 Tryz.ntmps106 Tryz.results106 ?_
   (all_goals refine fv ?_;repeat' first|exact .intro|refine Tw.mk ?_ ?_|(intro h;first|replace h:=h.o|cases h))
   all_goals exact Y28
 ·by_cases hp : 0 <= p /\ p < 3
  ·have hin : inP ⟨kn, [a, b, c]⟩ p = true := by simp [inP]; omega
   by_cases h0 : zaL q g l = 0
   ·have hE : zas ⟨kn, [a, b, c]⟩ p (q, g, l) = 0 := (if_pos hin).trans h0
    rw [hE]
    rw [h0] at hck
    have hl := hll h0
    cases hk : kn q with
    | none =>
     have hw := zau 0 0 q g [] l (by decide) hl
     have hlo : orL [cmpI 0 g, cmpE [] l] <= 0 := by
      exact Y65
     have hV : hrdB ⟨kn, [a, b, c]⟩ p (q, g, l) = ⟨kn, modW [a, b, c] p fun o => upI o q false⟩ := if_pos ⟨hin, h0, by unfold hrK; dsimp only; rw [hk]; show (-1 : Int) <= 0; decide⟩
     rw [hV]
     have hlook : knM kn (.int .i64 q) = none := by simp [knM, hk]
     generalize orL [cmpI 0 g, cmpE [] l] = v at *
     refine or3 (by omega : p = 0 \/ p = 1 \/ p = 2) (fun e => ?_) (fun e => ?_) (fun e => ?_)
     all_goals (subst e)
     all_goals
      unfold zaF
      refine foA zaA [] [] Tryz.func106 Tryz.ntmps106 Tryz.results106 ?_
      (all_goals refine fv ?_;repeat' first|exact .intro|refine Tw.mk ?_ ?_|(intro h;first|replace h:=h.o|cases h))
      (all_goals (try ((first|refine StopCall.by0 (hck) ?_|refine StopPure.by0 (hck) ?_);(all_goals refine gv ?_;repeat' first|exact .intro|refine Tw.mk ?_ ?_|(intro h;first|replace h:=h.o|cases h)))))
      (all_goals refine fv ?_)
      (refine zcM hlook ?_)
      (all_goals refine fv ?_;repeat' first|exact .intro|refine Tw.mk ?_ ?_|(intro h;first|replace h:=h.o|cases h))
      (refine ⟨_, _, _, _, [], hw, rfl, rfl, rfl, ?_, ?_, ?_⟩)
      ·exact Y3
      ·exact Y3
      (all_goals refine fv ?_;repeat' first|exact .intro|refine Tw.mk ?_ ?_|(intro h;first|replace h:=h.o|cases h))
      ((try (conv => whnf));refine StopRet.by [0, 1, 2, 3, 4, 5] ?_;repeat' first|exact .intro|refine Tw.mk ?_ ?_)
      all_goals (first | rfl | (exact zao))
    | some t =>
     obtain ⟨q2, g2, l2⟩ := t
     obtain ⟨e2, ht⟩ := hkn q _ hk
     have hl2 : l2.length <= 1000000 := by have := (zaK (show zaL q2 g2 l2 = 0 from ht)).2.2.2.2.1; omega
     have hw := zau q2 g2 q g l2 l hl2 hl
     have hK : hrK ⟨kn, [a, b, c]⟩ (q, g, l) = orL [cmpI g2 g, cmpE l2 l] := by unfold hrK; dsimp only; rw [hk]; rfl
     have hlook : knM kn (.int .i64 q) = some [.v (.int .i64 q2), .v (.int .i64 g2), .sl 2 (l2.map opRow) none] := by simp [knM, hk, zaF]
     by_cases hv : orL [cmpI g2 g, cmpE l2 l] <= 0
     ·have hV : hrdB ⟨kn, [a, b, c]⟩ p (q, g, l) = ⟨kn, modW [a, b, c] p fun o => upI o q false⟩ := if_pos ⟨hin, h0, by rw [hK]; exact hv⟩
      rw [hV]
      clear hK
      generalize orL [cmpI g2 g, cmpE l2 l] = v at *
      refine or3 (by omega : p = 0 \/ p = 1 \/ p = 2) (fun e => ?_) (fun e => ?_) (fun e => ?_)
      all_goals (subst e)
      all_goals
       unfold zaF
       refine foA zaA [] [] Tryz.func106 Tryz.ntmps106 Tryz.results106 ?_
       (all_goals refine fv ?_;repeat' first|exact .intro|refine Tw.mk ?_ ?_|(intro h;first|replace h:=h.o|cases h))
       (all_goals (try ((first|refine StopCall.by0 (hck) ?_|refine StopPure.by0 (hck) ?_);(all_goals refine gv ?_;repeat' first|exact .intro|refine Tw.mk ?_ ?_|(intro h;first|replace h:=h.o|cases h)))))
       (all_goals refine fv ?_)
       (refine zbU hlook ?_)
       (all_goals refine fv ?_;repeat' first|exact .intro|refine Tw.mk ?_ ?_|(intro h;first|replace h:=h.o|cases h))
       (all_goals (try ((first|refine StopCall.by0 (hw) ?_|refine StopPure.by0 (hw) ?_);(all_goals refine gv ?_;repeat' first|exact .intro|refine Tw.mk ?_ ?_|(intro h;first|replace h:=h.o|cases h)))))
       (all_goals refine fv ?_)
       ((try (conv => whnf));refine StopRet.by [0, 1, 2, 3, 4, 5] ?_;repeat' first|exact .intro|refine Tw.mk ?_ ?_)
       all_goals (first | rfl | (exact zao))
     ·have hV : hrdB ⟨kn, [a, b, c]⟩ p (q, g, l) = ⟨kn, [a, b, c]⟩ := if_neg (fun h => hv (by rw [<- hK]; exact h.2.2))
      rw [hV]
      clear hK
      generalize orL [cmpI g2 g, cmpE l2 l] = v at *
      unfold zaF
      refine foA zaA [] [] Tryz.func106 Tryz.ntmps106 Tryz.results106 ?_
      (all_goals refine fv ?_;repeat' first|exact .intro|refine Tw.mk ?_ ?_|(intro h;first|replace h:=h.o|cases h))
      (all_goals (try ((first|refine StopCall.by0 (hck) ?_|refine StopPure.by0 (hck) ?_);(all_goals refine gv ?_;repeat' first|exact .intro|refine Tw.mk ?_ ?_|(intro h;first|replace h:=h.o|cases h)))))
      (all_goals refine fv ?_)
      (refine zbU hlook ?_)
      (all_goals refine fv ?_;repeat' first|exact .intro|refine Tw.mk ?_ ?_|(intro h;first|replace h:=h.o|cases h))
      (all_goals (try ((first|refine StopCall.by0 (hw) ?_|refine StopPure.by0 (hw) ?_);(all_goals refine gv ?_;repeat' first|exact .intro|refine Tw.mk ?_ ?_|(intro h;first|replace h:=h.o|cases h)))))
      (all_goals refine fv ?_)
      ((try (conv => whnf));refine StopRet.by [0, 1, 2, 3, 4, 5] ?_;repeat' first|exact .intro|refine Tw.mk ?_ ?_)
      all_goals rfl
   ·have hE : zas ⟨kn, [a, b, c]⟩ p (q, g, l) = zaL q g l := if_pos hin
    have hV : hrdB ⟨kn, [a, b, c]⟩ p (q, g, l) = ⟨kn, [a, b, c]⟩ := if_neg (fun h => h0 h.2.1)
    rw [hE, hV]
    generalize zaL q g l = F at *
    unfold zaF
    refine foA zaA [] [] Tryz.func106 Tryz.ntmps106 Tryz.results106 ?_
    (all_goals refine fv ?_;repeat' first|exact .intro|refine Tw.mk ?_ ?_|(intro h;first|replace h:=h.o|cases h))
    (all_goals (try ((first|refine StopCall.by0 (hck) ?_|refine StopPure.by0 (hck) ?_);(all_goals refine gv ?_;repeat' first|exact .intro|refine Tw.mk ?_ ?_|(intro h;first|replace h:=h.o|cases h)))))
    (all_goals refine fv ?_)
    all_goals exact Y22
  ·have hin : inP ⟨kn, [a, b, c]⟩ p = false := by simp [inP]; omega
   have hE : zas ⟨kn, [a, b, c]⟩ p (q, g, l) = 1 := by unfold zas; rw [hin]; rfl
   have hV : hrdB ⟨kn, [a, b, c]⟩ p (q, g, l) = ⟨kn, [a, b, c]⟩ := if_neg (fun h => by rw [hin] at h; exact absurd h.1 (by decide))
   rw [hE, hV]
   unfold zaF
   refine foA zaA [] [] Tryz.func106 Tryz.ntmps106 Tryz.results106 ?_
   (all_goals refine fv ?_;repeat' first|exact .intro|refine Tw.mk ?_ ?_|(intro h;first|replace h:=h.o|cases h))
   all_goals exact Y22
def zc2 (p : Pk) : List AV := [.v (.int .i64 p.c), .v (.int .i64 p.i), .sl 2 (p.o.map opRow) none]
def pkAV (p : Pk) : AV := .agg (zc2 p)
def lkC (l : Lk) (q g : Nat) : Res := .cells [.v (.int .i64 l.st), .v (.int .i64 l.left), .v (.int .i64 l.tm), .v (.int .i64 l.id), .v (.int .i64 l.os), .v (.int .i64 l.om), .v (.int .i64 l.ns), .v (.int .i64 l.nm), .sl 2 (l.ask.map opRow) none, .v (.int .i64 l.sz), .sl 3 (l.out.map zc2) (some (q, g))]
def lkM (l : Lk) (g : Nat) : List Res := [lkC l 1 g, .grow 39 3 g]
theorem lnew_ok (s m : Int) (h : zea s m = true) : Fn Tryz.prog 41 [.v (.int .i64 s), .v (.int .i64 m)] [] (.tup [.box 0 0, .err 0]) (lkM (newL s m) 0) := by
 have hn := new_ok s m
 rw [h] at hn
 simp only [if_true] at hn
 refine foL zaA [] [] Tryz.func41 Tryz.ntmps41 Tryz.results41 ?_
 (all_goals refine gv ?_)
 (all_goals (try ((first|refine StopCall.by0 (hn) ?_|refine StopPure.by0 (hn) ?_);(all_goals refine gv ?_;repeat' first|exact .intro|refine Tw.mk ?_ ?_|(intro h;first|replace h:=h.o|cases h)))))
 (first | refine .mk ⟨_, ziY 1 10 39 3 _ rfl rfl, ?_⟩ | refine ⟨_, ziY 1 10 39 3 _ rfl rfl, ?_⟩)
 ((try (conv => whnf));refine StopRet.by [1, 2] ?_;repeat' first|exact .intro|refine Tw.mk ?_ ?_)
theorem zmf (l : Lk) : Fn Tryz.prog 38 [.box 0 0] (lkM l 0) (.v (.int .i64 l.st)) (lkM l 0) := by
 unfold lkM lkC
 refine foA zaA [] [] Tryz.func38 Tryz.ntmps38 Tryz.results38 ?_
 (all_goals refine gv ?_)
 ((try (conv => whnf));refine StopRet.by [0, 1] ?_;repeat' first|exact .intro|refine Tw.mk ?_ ?_)
theorem lout_ok (l : Lk) : Fn Tryz.prog 68 [.box 0 0] (lkM l 0) (.sl 3 (l.out.map zc2) none) (lkM (outL l) 1) := by
 unfold lkM lkC
 refine foL zaA [] [] Tryz.func68 Tryz.ntmps68 Tryz.results68 ?_
 (all_goals refine gv ?_)
 (first | refine .mk ⟨_, zlB 1 0 10 _ rfl (by decide) rfl rfl, ?_⟩ | refine ⟨_, zlB 1 0 10 _ rfl (by decide) rfl rfl, ?_⟩)
 ((try (conv => whnf));refine StopRet.by [0, 1] ?_;repeat' first|exact .intro|refine Tw.mk ?_ ?_)
theorem zfn (l : Lk) (c i : Int) (o : List (Int × Int)) (ho : o.length <= 1000000) (hl : l.out.length <= 1000000) : Fn Tryz.prog 96 [.box 0 0, .v (.int .i64 c), .v (.int .i64 i), .sl 2 (o.map opRow) none] (lkM l 0) (.tup []) (lkM { l with out := l.out ++ [⟨c, i, o⟩] } 1) := by
 have hc := zir (o.map opRow) (by simpa using ho)
 unfold lkM lkC
 refine foA zaA [] [] Tryz.func96 Tryz.ntmps96 Tryz.results96 ?_
 (all_goals refine gv ?_)
 (all_goals (try ((first|refine StopCall.by0 (hc) ?_|refine StopPure.by0 (hc) ?_);(all_goals refine gv ?_;repeat' first|exact .intro|refine Tw.mk ?_ ?_|(intro h;first|replace h:=h.o|cases h)))))
 ((try (conv => whnf));refine StopRet.by [0, 1] ?_;repeat' first|exact .intro|refine Tw.mk ?_ ?_)
 all_goals (simp [zc2, viewR, viewL, AV.view])
theorem zmZ {i c : Int} {a : List (Int × Int)} {l : Lk} {d : List UInt8} {k : Nat} (h : k < d.length) : actL i c a l (d.take (k + 1)) = act1 i c a (actL i c a l (d.take k)) d[k] := by
 unfold actL
 rw [zaQ h, List.foldl_append]; rfl
theorem zl1 {d : List UInt8} {k : Nat} (h : k < d.length) : zaG (tx d) k = d[k].toNat := by
 show (d.getD k 0).toNat = _
 simp [List.getD_eq_getElem?_getD, h]
theorem zkH {b : UInt8} (n : Nat) (hn : n < 256) : (b = UInt8.ofNat n) ↔ b.toNat = n := by
 constructor
 ·rintro rfl; simp; omega
 ·intro h; rw [<- h]; simp
theorem lact_ok (l : Lk) (h : l.ok 1000) (d : List UInt8) (hd : d.length <= 1000) (hb : ∀ b ∈ d, b.toNat < 128) (x i c : Int) (o a : List (Int × Int)) (ha : a.length <= 1000000) :
  Fn Tryz.prog 74 [.box 0 0, .v (.string (tx d)), .agg [.v (.int .i64 x), .v (.int .i64 i), .sl 2 (o.map opRow) none], .v (.int .i64 c), .sl 2 (a.map opRow) none] (lkM l 0) (.tup []) (lkM (actL i c a l d) 1) := by
 have hsz : (tx d).size = d.length := rfl
 unfold lkM lkC
 refine foA zaA [] [] Tryz.func74 Tryz.ntmps74 Tryz.results74 ?_
 (all_goals refine gv ?_)
 refine lpG (fun k : Nat => ⟨[(0, .box 0 0), (3, .v (.int .i64 c)), (4, .sl 2 (a.map opRow) none), (7, .box 2 0), (13, .box 3 0)], [lkC (actL i c a l (d.take k)) 1 1, .grow 39 3 1, .cells [.v (.int .i64 x), .v (.int .i64 i), .sl 2 (o.map opRow) none], .siter (tx d) k]⟩) (fun k => k <= d.length) (fun k => d.length - k) 0 (by omega) (by unfold lkC; (refine zaC [0, 1, 2, 3] ?_;repeat' first|exact .intro|refine Tw.mk ?_ ?_)) ?_
 intro k hk
 by_cases hk' : k < d.length
 ·have hbt := zl1 hk'
  have hb1 := hb d[k] (List.getElem_mem hk')
  have hS := zmZ (i := i) (c := c) (a := a) (l := l) hk'
  have hok := zj8 (i := i) (c := c) (a := a) (d := d.take k) h (by decide)
  rw [List.length_take] at hok
  generalize actL i c a l (d.take k) = q at *
  generalize d[k] = b at *
  obtain ⟨g1, g2, g3, g4, g5, g6, g7, g8, g9, g10, g11, g12, g13, g14, g15, g16, g17⟩ := hok.mono (j := 2000) (by omega)
  have hid := and255 (x := q.id + 1) (by omega) (by omega)
  unfold act1 at hS
  unfold lkC
  by_cases c1 : b = 105
  ·have c1' : b.toNat = 105 := by rw [c1]; rfl
   rw [if_pos c1] at hS
   (all_goals refine gv ?_;repeat' first|exact .intro|refine Tw.mk ?_ ?_|(intro h;first|replace h:=h.o|cases h))
   all_goals exact Y21
  rw [if_neg c1] at hS
  have d1 : ¬ b.toNat = 105 := fun e => c1 ((zkH 105 (by decide)).2 e)
  by_cases c2 : b = 122
  ·have c2' : b.toNat = 122 := by rw [c2]; rfl
   rw [if_pos c2] at hS
   (all_goals refine gv ?_;repeat' first|exact .intro|refine Tw.mk ?_ ?_|(intro h;first|replace h:=h.o|cases h))
   all_goals exact Y21
  rw [if_neg c2] at hS
  have d2 : ¬ b.toNat = 122 := fun e => c2 ((zkH 122 (by decide)).2 e)
  by_cases c3 : b = 114
  ·have c3' : b.toNat = 114 := by rw [c3]; rfl
   rw [if_pos c3] at hS
   have hsend := zfn { q with id := (q.id + 1) % 256, ask := asks q.ns q.nm, left := q.left - 1, tm := 3 } 1 ((q.id + 1) % 256) (asks q.ns q.nm) (by have := zht (s := q.ns) (m := q.nm); omega) (by show q.out.length <= 1000000; omega)
   have hasks := asks_ok q.ns q.nm
   unfold lkM lkC at hsend
   (all_goals refine gv ?_;repeat' first|exact .intro|refine Tw.mk ?_ ?_|(intro h;first|replace h:=h.o|cases h))
   (all_goals (try ((first|refine StopCall.by0 (hasks) ?_|refine StopPure.by0 (hasks) ?_);(all_goals refine gv ?_;repeat' first|exact .intro|refine Tw.mk ?_ ?_|(intro h;first|replace h:=h.o|cases h)))))
   all_goals ((refine ⟨_, _, _, _, [0, 1], hsend, rfl, rfl, rfl, ?_, ?_, ?_⟩); (· ((all_goals refine gr ?_;repeat' first|exact .intro|refine Tw.mk ?_ ?_); all_goals (try exact hid))); (· ((all_goals refine gr ?_;repeat' first|exact .intro|refine Tw.mk ?_ ?_); all_goals (try exact hid))); (all_goals refine gv ?_))
   all_goals exact Y21
  rw [if_neg c3] at hS
  have d3 : ¬ b.toNat = 114 := fun e => c3 ((zkH 114 (by decide)).2 e)
  by_cases c4 : b = 97 \/ b = 110
  ·have c4' : b.toNat = 97 \/ b.toNat = 110 := by
    rcases c4 with e | e
    ·left; rw [e]; rfl
    ·right; rw [e]; rfl
   rw [if_pos c4] at hS
   have hsend := zfn q c i a ha (by omega)
   unfold lkM lkC at hsend
   (all_goals refine gv ?_;repeat' first|exact .intro|refine Tw.mk ?_ ?_|(intro h;first|replace h:=h.o|cases h))
   all_goals ((refine ⟨_, _, _, _, [0, 1], hsend, rfl, rfl, rfl, ?_, ?_, ?_⟩); (· (all_goals refine gr ?_;repeat' first|exact .intro|refine Tw.mk ?_ ?_)); (· (all_goals refine gr ?_;repeat' first|exact .intro|refine Tw.mk ?_ ?_)); (all_goals refine gv ?_))
   all_goals exact Y21
  rw [if_neg c4] at hS
  have d4 : ¬ b.toNat = 97 := fun e => c4 (.inl ((zkH 97 (by decide)).2 e))
  have d5 : ¬ b.toNat = 110 := fun e => c4 (.inr ((zkH 110 (by decide)).2 e))
  by_cases c5 : b = 116
  ·have c5' : b.toNat = 116 := by rw [c5]; rfl
   rw [if_pos c5] at hS
   have hsend := zfn { q with id := (q.id + 1) % 256, left := q.left - 1, tm := 3 } 5 ((q.id + 1) % 256) [] (by decide) (by show q.out.length <= 1000000; omega)
   unfold lkM lkC at hsend
   (all_goals refine gv ?_;repeat' first|exact .intro|refine Tw.mk ?_ ?_|(intro h;first|replace h:=h.o|cases h))
   all_goals ((refine ⟨_, _, _, _, [0, 1], hsend, rfl, rfl, rfl, ?_, ?_, ?_⟩); (· ((all_goals refine gr ?_;repeat' first|exact .intro|refine Tw.mk ?_ ?_); all_goals (try exact hid))); (· ((all_goals refine gr ?_;repeat' first|exact .intro|refine Tw.mk ?_ ?_); all_goals (try exact hid))); (all_goals refine gv ?_))
   all_goals exact Y21
  rw [if_neg c5] at hS
  have d6 : ¬ b.toNat = 116 := fun e => c5 ((zkH 116 (by decide)).2 e)
  by_cases c6 : b = 107
  ·have c6' : b.toNat = 107 := by rw [c6]; rfl
   rw [if_pos c6] at hS
   have hsend := zfn q 6 i [] (by decide) (by omega)
   unfold lkM lkC at hsend
   (all_goals refine gv ?_;repeat' first|exact .intro|refine Tw.mk ?_ ?_|(intro h;first|replace h:=h.o|cases h))
   all_goals ((refine ⟨_, _, _, _, [0, 1], hsend, rfl, rfl, rfl, ?_, ?_, ?_⟩); (· (all_goals refine gr ?_;repeat' first|exact .intro|refine Tw.mk ?_ ?_)); (· (all_goals refine gr ?_;repeat' first|exact .intro|refine Tw.mk ?_ ?_)); (all_goals refine gv ?_))
   all_goals exact Y21
  rw [if_neg c6] at hS
  have d7 : ¬ b.toNat = 107 := fun e => c6 ((zkH 107 (by decide)).2 e)
  (all_goals refine gv ?_;repeat' first|exact .intro|refine Tw.mk ?_ ?_|(intro h;first|replace h:=h.o|cases h))
  all_goals exact Y21
 ·have ek : k = d.length := by omega
  subst ek
  rw [List.take_length]
  unfold lkC
  (all_goals refine gv ?_;repeat' first|exact .intro|refine Tw.mk ?_ ?_|(intro h;first|replace h:=h.o|cases h))
  all_goals exact Y7
end Go.Proofs.YtimfnpjcedjmiadGreat
namespace Go.Proofs.YtimfnpjcedjmiadGreat
theorem act1_out {i c : Int} {a : List (Int × Int)} {l : Lk} {b : UInt8} : ∀ x ∈ (act1 i c a l b).out, x ∈ l.out \/ x.o.length <= 2 + a.length := by
 have ha : (asks l.ns l.nm).length <= 2 := zht
 intro x hx
 unfold act1 at hx
 (repeat' split at hx) <;> (try dsimp only at hx)
 all_goals first
  | exact .inl hx
  | (
    rcases List.mem_append.1 hx with h | h
    ·exact .inl h
    ·rw [List.mem_singleton] at h
     subst h
     exact .inr (by simp only [List.length_nil]; omega))
theorem zlF {i c : Int} {a : List (Int × Int)} : ∀ (d : List UInt8) (l : Lk), ∀ x ∈ (actL i c a l d).out, x ∈ l.out \/ x.o.length <= 2 + a.length
 | [], l, x, hx => .inl hx
 | b :: d, l, x, hx => by
  rcases zlF d (act1 i c a l b) x hx with h | h
  ·exact act1_out x h
  ·exact .inr h
theorem zh6 {l : Lk} {e i c : Int} {a : List (Int × Int)} : ∀ x ∈ (evtL l e i c a).out, x ∈ l.out \/ x.o.length <= 2 + a.length := by
 intro x hx
 unfold evtL at hx
 split at hx
 ·rcases zlF _ _ x hx with h | h
  ·refine .inl ?_
   unfold ownL at h
   split at h <;> exact h
  ·exact .inr h
 ·exact .inl hx
theorem jans_len (m : Int) (l : List (Int × Int)) : (jans m l).length <= l.length := by
 unfold jans
 split
 ·exact List.length_filter_le ..
 ·split
  ·exact List.length_filterMap_le ..
  ·exact Nat.le_refl _
theorem ziT {l : Lk} {p : Pk} : ∀ x ∈ (takL l p).out, x ∈ l.out \/ x.o.length <= 10 := by
 intro x hx
 unfold takL at hx
 split at hx
 ·exact .inl hx
 ·rename_i hf
  have h8 := (zgp (Classical.not_not.1 hf)).2.2.2.2.1
  have hj := jans_len l.nm p.o
  have hE : ∀ e i c a, a.length <= 8 -> x ∈ (evtL l e i c a).out -> x ∈ l.out \/ x.o.length <= 10 := fun e i c a ha h => by
   rcases zh6 x h with h | h
   ·exact .inl h
   ·exact .inr (by omega)
  split at hx
  ·unfold reqL at hx
   split at hx
   ·split at hx
    ·exact hE _ _ _ _ (by omega) hx
    ·exact hE _ _ _ _ (by omega) hx
   ·exact hE _ _ _ _ (by omega) hx
  ·split at hx
   ·exact hE _ _ _ _ (by simp) hx
   ·split at hx
    ·exact hE _ _ _ _ (by simp) hx
    ·split at hx
     ·exact .inl hx
     ·split at hx
      ·split at hx
       ·exact .inl hx
       ·exact hE _ _ _ _ (by simp) hx
      ·rcases zh6 x hx with h | h
       ·refine .inl ?_
        unfold nowL at h
        split at h <;> exact h
       ·exact .inr (by simp only [List.length_nil] at h; omega)
theorem zkO {l : Lk} {e : Int} : ∀ x ∈ (doL l e).out, x ∈ l.out \/ x.o.length <= 10 := by
 intro x hx
 unfold doL at hx
 exact Y84
theorem zm9 {l : Lk} : ∀ x ∈ (zab l).out, x ∈ l.out \/ x.o.length <= 10 := by
 intro x hx
 unfold zab at hx
 split at hx
 ·exact Y84
 ·exact .inl hx
theorem rdT_len {r : Rd} (h : r.ok) : (rdT r).length <= 62 := by
 obtain ⟨h1, h2, h3⟩ := h
 unfold rdT
 split
 ·unfold Rd.b; rw [List.length_take, List.length_take]; omega
 ·simp
theorem ziq : ∀ (l : List UInt8) (q : Rd × List (List UInt8) × Nat), q.1.ok -> (∀ t ∈ q.2.1, t.length <= 62) -> ∀ t ∈ (l.foldl rdS q).2.1, t.length <= 62
 | [], q, h, hq => hq
 | c :: l, q, h, hq => ziq l (rdS q c) (zgv h c) (fun t ht => by
   unfold rdS at ht
   dsimp only at ht
   split at ht
   ·rcases List.mem_append.1 ht with ht | ht
    ·exact hq t ht
    ·rw [List.mem_singleton] at ht
     subst ht
     exact rdT_len h
   ·exact hq t ht)
theorem zdu {r : Rd} (h : r.ok) (l : List UInt8) : ∀ t ∈ (za5 r l).2.1, t.length <= 62 := ziq l _ h (fun t ht => by cases ht)
end Go.Proofs.YtimfnpjcedjmiadGreat
namespace Go.Proofs.YtimfnpjcedjmiadGreat
open Go.RowKit Go.ChangeShapes Go.WideShapes Go.ChangeAt Go.Deep
structure Ac where
 k : ByteArray
 a : Int
 b : Int
 c : Int
 d : Int
 s : ByteArray
 p : Pk
 x : Int × Int × List (Int × Int)
def zf4 (q : Ac) : List AV := [.v (.string q.k), .v (.int .i64 q.a), .v (.int .i64 q.b), .v (.int .i64 q.c), .v (.int .i64 q.d), .v (.string q.s), .v (.int .i64 q.p.c), .v (.int .i64 q.p.i), .sl 2 (q.p.o.map opRow) none, .v (.int .i64 q.x.1), .v (.int .i64 q.x.2.1), .sl 2 (q.x.2.2.map opRow) none]
def znx (q : Ac × Value × Value) : List Value := [.string q.1.k, .int .i64 q.1.a, .int .i64 q.1.b, .int .i64 q.1.c, .int .i64 q.1.d, .string q.1.s, .int .i64 q.1.p.c, .int .i64 q.1.p.i, q.2.1, .int .i64 q.1.x.1, .int .i64 q.1.x.2.1, q.2.2]
structure acIn (q : Ac) : Prop where
 k : q.k.size <= maxLen
 a : I64 q.a
 b : I64 q.b
 c : I64 q.c
 d : I64 q.d
 s : q.s.size <= maxLen
 pc : I64 q.p.c
 pi : I64 q.p.i
 xo : I64 q.x.1
 xs : I64 q.x.2.1
def acGood (w : World) (q : Ac × Value × Value) : Prop := acIn q.1 /\ q.2.1.oneCell' = true /\ RepV (allS w) noG (.sl 2 (q.1.p.o.map opRow) none) q.2.1 /\ q.2.2.oneCell' = true /\ RepV (allS w) noG (.sl 2 (q.1.x.2.2.map opRow) none) q.2.2
def GActs (w : World) (v : Value) : Prop := ∃ l : List Ac, (∀ q ∈ l, acIn q) /\ RepV (allS w) noG (.sl 12 (l.map zf4) none) v
theorem c_act {H : Type} {enc : TypeId × Value -> H} {w : World} {spare : Nat -> Bool} {held : Bool} {fuel : Nat} {cs : List Value} {x : DataW H × List MemPlace} (hx : DataW.trod enc Tryz.prog w 0 spare held fuel 44 cs = some x) :
  ∃ q : Ac × Value × Value, cs = znx q /\ acGood w q := by
 obtain ⟨xs, n, _, _, hl, hlen, hf⟩ := DataW.trod_struct Tryz.underlying44 hx
 have hc : Tryz.prog.cellsOf 44 = 12 := by kernel_rfl
 have ci : Tryz.prog.cellsOf 3 = 1 := by kernel_rfl
 have cstr : Tryz.prog.cellsOf 9 = 1 := by kernel_rfl
 have cp : Tryz.prog.cellsOf 39 = 3 := by kernel_rfl
 have cst : Tryz.prog.cellsOf 42 = 3 := by kernel_rfl
 rw [hc] at hl
 have h0 := hf 0 _ rfl
 have h1 := hf 1 _ rfl
 have h2 := hf 2 _ rfl
 have h3 := hf 3 _ rfl
 have h4 := hf 4 _ rfl
 have h5 := hf 5 _ rfl
 have h6 := hf 6 _ rfl
 have h7 := hf 7 _ rfl
 clear hf
 match cs, hl, xs, hlen with
 | [c0, c1, c2, c3, c4, c5, c6, c7, c8, c9, c10, c11], _, [y0, y1, y2, y3, y4, y5, y6, y7], _ =>
  simp only [ci, cstr, cp, cst, List.getElem?_cons_zero, List.getElem?_cons_succ, List.drop_zero, List.drop_succ_cons, List.take_succ_cons, List.take_zero] at h0 h1 h2 h3 h4 h5 h6 h7
  obtain ⟨k, e0, _, w0⟩ := DataW.trod_string Tryz.underlying9 h0
  obtain ⟨a, e1, _, w1⟩ := DataW.trod_int Tryz.underlying3 h1
  obtain ⟨b, e2, _, w2⟩ := DataW.trod_int Tryz.underlying3 h2
  obtain ⟨c, e3, _, w3⟩ := DataW.trod_int Tryz.underlying3 h3
  obtain ⟨d, e4, _, w4⟩ := DataW.trod_int Tryz.underlying3 h4
  obtain ⟨s, e5, _, w5⟩ := DataW.trod_string Tryz.underlying9 h5
  obtain ⟨pc, pi, po, pv, e6, wc, wi, o6, r6⟩ := c_packet h6
  obtain ⟨xo, xs, xe, xv, e7, wo, ws, o7, r7⟩ := c_state h7
  cases e0; cases e1; cases e2; cases e3; cases e4; cases e5; cases e6; cases e7
  exact ⟨(⟨k, a, b, c, d, s, ⟨pc, pi, po⟩, (xo, xs, xe)⟩, _, _), rfl, ⟨w0, zaX w1, zaX w2, zaX w3, zaX w4, w5, wc, wi, wo, ws⟩, o6, r6, o7, r7⟩
theorem g_acts {H : Type} {enc : TypeId × Value -> H} {w : World} {v : Value} {d : DataW H} {p : List MemPlace} (hv : Value.okWide Tryz.prog w .any 0 23 v) (h : DataW.Trod enc Tryz.prog w 0 (fun _ => true) true 23 v d p) : GActs w v := by
 obtain ⟨a0, len, cap, rfl⟩ := okWide_slice Tryz.underlying23 hv
 obtain ⟨fuel, hf⟩ := h
 obtain ⟨ao, cp, rows, hcs, hl, hm, hr, ha⟩ := zbo Tryz.underlying23 12 (by kernel_rfl) (by decide)
  (E := fun r => ∃ q : Ac × Value × Value, r = znx q /\ acGood w q) (fun fuel cs x hx => c_act hx) hf
 obtain ⟨l, rfl, hp⟩ := zhl (fun r h => (hr r h).2)
 simp [Value.cells] at hcs
 obtain ⟨rfl, rfl, rfl⟩ := hcs
 refine ⟨l.map (·.1), fun s hs => ?_, ?_⟩
 ·obtain ⟨q, hq, rfl⟩ := List.mem_map.1 hs
  exact (hp q hq).1
 ·have := zn0 (w := w) (μ := noG) (cap := cap) (avs := l.map fun q => zf4 q.1) (by simpa using hl) hm ha (by simp) (fun i r q h1 h2 => by
   simp only [List.getElem?_map, Option.map_eq_some_iff] at h1 h2
   obtain ⟨s, hs, rfl⟩ := h1
   obtain ⟨s', hs', rfl⟩ := h2
   rw [hs] at hs'
   obtain rfl := Option.some.inj hs'
   have hq := hp s (List.mem_of_getElem? hs)
   refine ⟨rfl, rfl, fun j x av g1 g2 => ?_⟩
   unfold znx at g1
   unfold zf4 at g2
   match j with
   | 0 => simp at g1 g2; subst g1 g2; exact ⟨.v _ _, rfl⟩
   | 1 => simp at g1 g2; subst g1 g2; exact ⟨.v _ _, rfl⟩
   | 2 => simp at g1 g2; subst g1 g2; exact ⟨.v _ _, rfl⟩
   | 3 => simp at g1 g2; subst g1 g2; exact ⟨.v _ _, rfl⟩
   | 4 => simp at g1 g2; subst g1 g2; exact ⟨.v _ _, rfl⟩
   | 5 => simp at g1 g2; subst g1 g2; exact ⟨.v _ _, rfl⟩
   | 6 => simp at g1 g2; subst g1 g2; exact ⟨.v _ _, rfl⟩
   | 7 => simp at g1 g2; subst g1 g2; exact ⟨.v _ _, rfl⟩
   | 8 => simp at g1 g2; subst g1 g2; exact ⟨hq.2.2.1, hq.2.1⟩
   | 9 => simp at g1 g2; subst g1 g2; exact ⟨.v _ _, rfl⟩
   | 10 => simp at g1 g2; subst g1 g2; exact ⟨.v _ _, rfl⟩
   | 11 => simp at g1 g2; subst g1 g2; exact ⟨hq.2.2.2.2, hq.2.2.2.1⟩
   | j + 12 => simp at g1)
  simpa [Function.comp_def] using this
end Go.Proofs.YtimfnpjcedjmiadGreat
namespace Go.Proofs.YtimfnpjcedjmiadGreat
def Lk.opn (l : Lk) : Prop := l.st = 1 \/ l.st = 3 \/ (5 <= l.st /\ l.st <= 9)
def opnB (s : Int) : Bool := decide (s = 1) || decide (s = 3) || (decide (5 <= s) && decide (s <= 9))
theorem zfk {l : Lk} : opnB l.st = true ↔ l.opn := by
 simp [opnB, Lk.opn, or_assoc]
theorem opn_all : ∀ (s : Fin 10) (e : Fin 12), (!opnB s || decide (e.val = 3) || !decide (zan s e = 0) || opnB (zbX s e)) = true := by decide +kernel
theorem down_all : ∀ (s : Fin 10), (!opnB s || (if (s.val = 1) then !decide (zan s 1 = 0) else decide (zan s 1 = 0) && decide (zbX s 1 = 1))) = true := by decide +kernel
theorem znS (l : Lk) (e i c : Int) (o : List (Int × Int)) : (evtL l e i c o).st = if zan l.st e = 0 then zbX l.st e else l.st := by
 unfold evtL
 split
 ·rw [(zo4 (zcq l.st e) _).2.2]
  unfold ownL; split <;> rfl
 ·rfl
theorem zcN {l : Lk} (h : l.opn) {e i c : Int} {o : List (Int × Int)} (e0 : 0 <= e) (e9 : e <= 11) (e3 : e ≠ 3) : (evtL l e i c o).opn := by
 rw [<- zfk, znS]
 have hs : 0 <= l.st /\ l.st <= 9 := by unfold Lk.opn at h; omega
 have hT := opn_all ⟨l.st.toNat, by omega⟩ ⟨e.toNat, by omega⟩
 simp only [Int.toNat_of_nonneg hs.1, Int.toNat_of_nonneg e0] at hT
 rw [zfk.2 h] at hT
 split
 ·rename_i g
  have h3 : ¬ e.toNat = 3 := by omega
  simpa [g, h3] using hT
 ·exact zfk.2 h
theorem zoq {l : Lk} (h : l.opn) {e : Int} (he : e ≠ 3) : (doL l e).opn := by
 unfold doL
 split
 ·exact h
 ·exact zcN h (by omega) (by omega) he
theorem zjV {l : Lk} (h : l.opn) : (zab l).opn := by
 unfold zab
 split
 ·split
  ·exact h
  ·have h2 : Lk.opn { l with tm := l.tm - 1 } := h
   split
   ·exact zcN h2 (by decide) (by decide) (by decide)
   ·exact zcN h2 (by decide) (by decide) (by decide)
 ·exact h
theorem opn_take {l : Lk} (h : l.opn) (p : Pk) : (takL l p).opn := by
 unfold takL
 split
 ·exact h
 ·split
  ·unfold reqL
   split
   ·split
    ·exact (zcN h (e := 6) (by decide) (by decide) (by decide) : (evtL l 6 p.i 2 (jans l.nm p.o)).opn)
    ·exact zcN h (by decide) (by decide) (by decide)
   ·exact zcN h (by decide) (by decide) (by decide)
  ·split
   ·exact zcN h (by decide) (by decide) (by decide)
   ·split
    ·exact zcN h (by decide) (by decide) (by decide)
    ·split
     ·exact h
     ·split
      ·split
       ·exact h
       ·exact zcN h (by decide) (by decide) (by decide)
      ·refine zcN (l := nowL l p) ?_ (by decide) (by decide) (by decide)
       unfold nowL; split <;> exact h
theorem zlQ {l : Lk} (h : l.opn) : (doL l 1).st = 1 /\ (doE l 1 = 0 ↔ l.st ≠ 1) := by
 have hs : 0 <= l.st /\ l.st <= 9 := by unfold Lk.opn at h; omega
 have hT := down_all ⟨l.st.toNat, by omega⟩
 simp only [Int.toNat_of_nonneg hs.1] at hT
 rw [zfk.2 h] at hT
 unfold doL doE
 rw [if_neg (by decide), if_neg (by decide), znS]
 by_cases h1 : l.st = 1
 ·have h2 : l.st.toNat = 1 := by omega
  rw [if_pos h2] at hT
  simp at hT
  rw [if_neg hT]
  exact ⟨h1, fun g => absurd g hT, fun g => absurd h1 g⟩
 ·have h2 : ¬ l.st.toNat = 1 := by omega
  rw [if_neg h2] at hT
  simp at hT
  rw [if_pos hT.1]
  exact ⟨hT.2, fun _ => h1, fun _ => hT.1⟩
end Go.Proofs.YtimfnpjcedjmiadGreat
