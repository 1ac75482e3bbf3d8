/- Lemmas. -/
import Derived.Test.YtimfnpjcedjmiadGreatK8
set_option maxRecDepth 100000
set_option maxHeartbeats 64000000
set_option linter.all false
namespace Go.Proofs.YtimfnpjcedjmiadGreat
open Go.RowKit
theorem zmP (l : List St3) (r : Int) (far next : Int -> Int) (done : Int -> Bool) (m a : Int) (hm1 : 1 <= m) (hm : m <= 6) (ha : a = 0 \/ (1 <= a /\ a < m)) (K : AS -> Prop) (X : Nat -> AS -> Prop) (R : AS -> Prop)
  (hk : (done m = true \/ far m < 0 \/ (a ≠ 0 /\ far a <= far m)) -> ∀ A, AS.le 0 A (pickA l r far next done (m + 1) a) -> K A)
  (ht : done m = false -> 0 <= far m -> (a = 0 \/ far m < far a) -> ∀ A, AS.le 0 A (pickA l r far next done (m + 1) m) -> K A) :
  vawp Tryz.prog [] 0 [8, 11, 19] (zdy Tryz.f39 2) K X R (pickA l r far next done m a) := by
 refine or6 (by omega : m = 1 \/ m = 2 \/ m = 3 \/ m = 4 \/ m = 5 \/ m = 6) (fun em => ?_) (fun em => ?_) (fun em => ?_) (fun em => ?_) (fun em => ?_) (fun em => ?_)
 all_goals
  refine or6 (by omega : a = 0 \/ a = 1 \/ a = 2 \/ a = 3 \/ a = 4 \/ a = 5) (fun ea => ?_) (fun ea => ?_) (fun ea => ?_) (fun ea => ?_) (fun ea => ?_) (fun ea => ?_)
 all_goals (try (exfalso; omega))
 all_goals
  subst em ea
  ((all_goals (try (repeat' (conv => whnf); (first | with_reducible refine And.intro ?_ ?_ | with_reducible exact True.intro | (intro h; (first | cases h | ((try simp only [vis, Int.reduceToNat] at h); (try (exfalso; omega))))) | (with_reducible refine Vc.mk ?_; fail) | (with_reducible refine cutG ?_; fail) | refine zal ?_ ?_ | refine za2 ?_ ?_ ?_ | (refine StopAt.mk (by decide) (by decide) ?_))))); (all_goals (first | omega | (conv => whnf) | skip)))
  all_goals (try ((with_reducible refine Vc.mk ?_);(try exact GLt)))
  all_goals first
   | (
     refine ht (by assumption) (by assumption) (by omega) _ ?_
     (refine zaC [0, 1, 2] ?_;repeat' first|exact .intro|refine Tw.mk ?_ ?_))
   | (
     refine hk (by first | (exact .inl (by assumption)) | (exact .inr (by omega))) _ ?_
     (refine zaC [0, 1, 2] ?_;repeat' first|exact .intro|refine Tw.mk ?_ ?_))
structure Ca where
 a : Int
 pa : Int
 b : Int
 pb : Int
 m : Int
def zbW (c : Ca) : List AV := [.v (.int .i64 c.a), .v (.int .i64 c.pa), .v (.int .i64 c.b), .v (.int .i64 c.pb), .v (.int .i64 c.m)]
structure Ca.ok (k : Nat) (c : Ca) : Prop where
 a : 1 <= c.a /\ c.a <= k
 pa : 0 <= c.pa /\ c.pa < 3
 b : 1 <= c.b /\ c.b <= k
 pb : 0 <= c.pb /\ c.pb < 3
 m : 1 <= c.m /\ c.m <= 20
def endK (e : Int × Int) : Value := .agg #[.int .i64 e.1, .int .i64 e.2]
def zls (U : List (Int × Int)) : Value -> Option (List AV) := U.foldr (fun e f => updF f (endK e) (some [.v (.bool true)])) (fun _ => none)
theorem zoh (x y : Int × Int) : zcQ (endK x) (endK y) = true ↔ x = y := by
 constructor
 ·intro h
  have := zar h
  simp only [endK, Value.agg.injEq] at this
  have h2 : (x.1 = y.1) /\ (x.2 = y.2) := by simpa using this
  exact Prod.ext h2.1 h2.2
 ·rintro rfl
  exact zbS (kk := none) ⟨_, _, rfl⟩
theorem zm5 {U : List (Int × Int)} {e : Int × Int} (h : e ∈ U) : zls U (endK e) = some [.v (.bool true)] := by
 induction U with
 | nil => cases h
 | cons x U ih =>
  show updF (zls U) (endK x) _ (endK e) = _
  rw [zbA]
  split
  ·rfl
  ·rename_i hn
   rcases List.mem_cons.1 h with rfl | h
   ·exact absurd ((zoh _ _).2 rfl) hn
   ·exact ih h
theorem zoa {U : List (Int × Int)} {e : Int × Int} (h : e ∉ U) : zls U (endK e) = none := by
 induction U with
 | nil => rfl
 | cons x U ih =>
  show updF (zls U) (endK x) _ (endK e) = _
  rw [zbA, if_neg (fun hk => h (by rw [(zoh _ _).1 hk]; exact List.mem_cons_self ..))]
  exact ih (fun hm => h (List.mem_cons_of_mem _ hm))
def endE (k : Int) (U : List (Int × Int)) (e : Int × Int) : Int := if e.1 < 1 \/ k < e.1 \/ e.2 < 0 \/ 3 <= e.2 then 1 else if e ∈ U then 8 else 0
def capE (k : Int) (U : List (Int × Int)) (c : Ca) : Int := if c.m < 1 \/ 20 < c.m then 1 else if endE k U (c.a, c.pa) ≠ 0 then endE k U (c.a, c.pa) else endE k ((c.a, c.pa) :: U) (c.b, c.pb)
def usedA (U : List (Int × Int)) (c : Ca) : List (Int × Int) := (c.b, c.pb) :: (c.a, c.pa) :: U
def zgz (k : Int) : List Ca -> List (Int × Int) -> Int
 | [], _ => 0
 | c :: l, U => if capE k U c ≠ 0 then capE k U c else zgz k l (usedA U c)
def zbz (k : Int) (l : List Ca) : Int := if k < 1 \/ 6 < k then 1 else if 9 < l.length then 2 else zgz k l []
theorem zmw {k : Int} {U : List (Int × Int)} {e : Int × Int} (h : endE k U e = 0) : 1 <= e.1 /\ e.1 <= k /\ 0 <= e.2 /\ e.2 < 3 /\ e ∉ U := by
 unfold endE at h
 split at h
 ·cases h
 ·split at h
  ·cases h
  ·rename_i h1 h2; exact ⟨by omega, by omega, by omega, by omega, h2⟩
theorem capE_ok {k : Nat} {U : List (Int × Int)} {c : Ca} (h : capE k U c = 0) : c.ok k := by
 unfold capE at h
 split at h
 ·cases h
 ·split at h
  ·rename_i h1 h2; exact absurd h h2
  ·rename_i h1 h2
   obtain ⟨a1, a2, a3, a4, -⟩ := zmw (Decidable.not_not.1 h2)
   obtain ⟨b1, b2, b3, b4, -⟩ := zmw h
   exact ⟨⟨a1, a2⟩, ⟨a3, a4⟩, ⟨b1, b2⟩, ⟨b3, b4⟩, by omega⟩
theorem zj7 {k : Nat} : ∀ {l : List Ca} {U : List (Int × Int)}, zgz k l U = 0 -> ∀ c ∈ l, c.ok k
 | [], _, _ => by simp
 | c :: l, U, h => by
  unfold zgz at h
  split at h
  ·rename_i h1; exact absurd h h1
  ·rename_i h1
   intro d hd
   rcases List.mem_cons.1 hd with rfl | hd
   ·exact capE_ok (Decidable.not_not.1 h1)
   ·exact zj7 h d hd
theorem zfz {k : Int} {l : List Ca} (h : zbz k l = 0) : 1 <= k /\ k <= 6 /\ l.length <= 9 /\ ∀ c ∈ l, c.ok k.toNat := by
 unfold zbz at h
 split at h
 ·cases h
 ·split at h
  ·cases h
  ·rename_i h1 h2
   obtain ⟨m, rfl⟩ : ∃ m : Nat, k = m := ⟨k.toNat, by omega⟩
   exact ⟨by omega, by omega, by omega, zj7 h⟩
theorem zkL {k : Int} {l : List Ca} {j : Nat} {U : List (Int × Int)} (hj : j < l.length) : zgz k (l.drop j) U = if capE k U l[j] ≠ 0 then capE k U l[j] else zgz k (l.drop (j + 1)) (usedA U l[j]) := by
 rw [List.drop_eq_getElem_cons hj]; rfl
theorem lookNk {o : Option (List AV)} {K : Option (List AV) -> Prop} (h : o = none) (k : K none) : StopLook o K := by
 subst h
 exact ⟨fun l e => (by cases e), fun _ => k⟩
theorem lookSk {o : Option (List AV)} {l : List AV} {K : Option (List AV) -> Prop} (h : o = some l) (k : K (some l)) : StopLook o K := by
 subst h
 exact ⟨fun m e => (by cases e; exact k), fun e => (by cases e)⟩
def usedI (U : List (Int × Int)) (c : Ca) (i : Nat) : List (Int × Int) := match i with
 | 0 => U
 | 1 => (c.a, c.pa) :: U
 | _ => usedA U c
theorem zjY (k : Int) (l : List Ca) (hl : l.length <= 1000000) : Fn Tryz.prog 28 [.v (.int .i64 k), .sl 5 (l.map zbW) none] [] (.err (zbz k l)) [] := by
 obtain ⟨R, hR⟩ : ∃ R, zbz k l = R := ⟨_, rfl⟩
 rw [hR]
 unfold zbz at hR
 refine foA zaA [] [] Tryz.func28 Tryz.ntmps28 Tryz.results28 ?_
 by_cases h1 : k < 1 \/ 6 < k
 ·rw [if_pos h1] at hR
  subst hR
  (all_goals refine gv ?_;repeat' first|exact .intro|refine Tw.mk ?_ ?_|(intro h;first|replace h:=h.o|cases h))
  all_goals exact Y9
 rw [if_neg h1] at hR
 by_cases h2 : 9 < l.length
 ·rw [if_pos h2] at hR
  subst hR
  (all_goals refine gv ?_;repeat' first|exact .intro|refine Tw.mk ?_ ?_|(intro h;first|replace h:=h.o|cases h))
  all_goals exact Y9
 rw [if_neg h2] at hR
 (all_goals refine gv ?_;repeat' first|exact .intro|refine Tw.mk ?_ ?_|(intro h;first|replace h:=h.o|cases h))
 refine lpG (fun s : Nat × List (Int × Int) => ⟨[(0, .v (.int .i64 k)), (5, .map 0), (22, .sl 5 (l.map zbW) none), (23, .v (.int .i64 l.length)), (24, .v (.int .i64 s.1))], [.map none false (zls s.2)]⟩) (fun s => s.1 <= l.length /\ zgz k (l.drop s.1) s.2 = R) (fun s => l.length - s.1) (0, []) ⟨by dsimp only; omega, hR⟩ (by (refine zaC [0] ?_;repeat' first|exact .intro|refine Tw.mk ?_ ?_); all_goals (simp; done)) ?_
 clear hR
 rintro ⟨j, U⟩ ⟨hj, hU⟩
 dsimp only at hj hU ⊢
 by_cases hj' : j < l.length
 ·rw [zkL hj'] at hU
  obtain ⟨c, hc⟩ : ∃ c, l[j] = c := ⟨_, rfl⟩
  by_cases hm : l[j].m < 1 \/ 20 < l[j].m
  ·obtain rfl : 1 = R := by rw [<- hU]; unfold capE; rw [if_pos hm]; rfl
   (all_goals refine gv ?_;repeat' first|exact .intro|refine Tw.mk ?_ ?_|(intro h;first|replace h:=h.o|cases h))
   all_goals exact Y9
  have hcap : capE k U l[j] = if endE k U (l[j].a, l[j].pa) ≠ 0 then endE k U (l[j].a, l[j].pa) else endE k ((l[j].a, l[j].pa) :: U) (l[j].b, l[j].pb) := by unfold capE; rw [if_neg hm]
  (all_goals refine gv ?_;repeat' first|exact .intro|refine Tw.mk ?_ ?_|(intro h;first|replace h:=h.o|cases h))
  refine lpG (fun i : Nat => ⟨[(0, .v (.int .i64 k)), (5, .map 0), (22, .sl 5 (l.map zbW) none), (23, .v (.int .i64 l.length)), (24, .v (.int .i64 j)), (47, .sl 2 [[.v (.int .i64 l[j].a), .v (.int .i64 l[j].pa)], [.v (.int .i64 l[j].b), .v (.int .i64 l[j].pb)]] none), (48, .v (.int .i64 2)), (49, .v (.int .i64 i))], [.map none false (zls (usedI U l[j] i))]⟩) (fun i => i <= 2 /\ (1 <= i -> endE k U (l[j].a, l[j].pa) = 0) /\ (2 <= i -> endE k ((l[j].a, l[j].pa) :: U) (l[j].b, l[j].pb) = 0)) (fun i => 2 - i) 0 ⟨by omega, by omega, by omega⟩ (by (refine zaC [0] ?_;repeat' first|exact .intro|refine Tw.mk ?_ ?_)) ?_
  rintro i ⟨hi, hi1, hi2⟩
  rcases (by omega : i = 0 \/ i = 1 \/ i = 2) with rfl | rfl | rfl
  ·obtain ⟨E, hE⟩ : ∃ E, endE k U (l[j].a, l[j].pa) = E := ⟨_, rfl⟩
   have hER : E ≠ 0 -> R = E := fun h0 => by rw [<- hU, hcap, hE, if_pos h0, if_pos h0]
   unfold endE at hE
   dsimp only at hE
   by_cases hb : l[j].a < 1 \/ k < l[j].a \/ l[j].pa < 0 \/ 3 <= l[j].pa
   ·rw [if_pos hb] at hE
    subst hE
    obtain rfl := hER (by decide)
    (all_goals refine fv ?_;repeat' first|exact .intro|refine Tw.mk ?_ ?_|(intro h;first|replace h:=h.o|cases h))
    all_goals exact Y9
   ·rw [if_neg hb] at hE
    by_cases hu : (l[j].a, l[j].pa) ∈ U
    ·have hlook := zm5 hu
     rw [if_pos hu] at hE
     subst hE
     obtain rfl := hER (by decide)
     (all_goals refine fv ?_;repeat' first|exact .intro|refine Tw.mk ?_ ?_|(intro h;first|replace h:=h.o|cases h))
     refine lookSk hlook ?_
     (all_goals refine fv ?_;repeat' first|exact .intro|refine Tw.mk ?_ ?_|(intro h;first|replace h:=h.o|cases h))
     all_goals exact Y9
    ·have hlook := zoa hu
     rw [if_neg hu] at hE
     (all_goals refine fv ?_;repeat' first|exact .intro|refine Tw.mk ?_ ?_|(intro h;first|replace h:=h.o|cases h))
     refine lookNk hlook ?_
     (all_goals refine fv ?_;repeat' first|exact .intro|refine Tw.mk ?_ ?_|(intro h;first|replace h:=h.o|cases h))
     refine zaO 1 ⟨by omega, fun _ => ?_, by omega⟩ (by omega) (by (refine zaC [0] ?_;repeat' first|exact .intro|refine Tw.mk ?_ ?_))
     unfold endE; rw [if_neg hb, if_neg hu]
  ·have h0 := hi1 (by omega)
   obtain ⟨E, hE⟩ : ∃ E, endE k ((l[j].a, l[j].pa) :: U) (l[j].b, l[j].pb) = E := ⟨_, rfl⟩
   have hER : E ≠ 0 -> R = E := fun hn => by
    have e1 : capE k U l[j] = E := by rw [hcap, if_neg (by rw [h0]; simp), hE]
    rw [<- hU, e1, if_pos hn]
   unfold endE at hE
   dsimp only at hE
   by_cases hb : l[j].b < 1 \/ k < l[j].b \/ l[j].pb < 0 \/ 3 <= l[j].pb
   ·rw [if_pos hb] at hE
    subst hE
    obtain rfl := hER (by decide)
    (all_goals refine fv ?_;repeat' first|exact .intro|refine Tw.mk ?_ ?_|(intro h;first|replace h:=h.o|cases h))
    all_goals exact Y9
   ·rw [if_neg hb] at hE
    by_cases hu : (l[j].b, l[j].pb) ∈ (l[j].a, l[j].pa) :: U
    ·have hlook := zm5 hu
     rw [if_pos hu] at hE
     subst hE
     obtain rfl := hER (by decide)
     (all_goals refine fv ?_;repeat' first|exact .intro|refine Tw.mk ?_ ?_|(intro h;first|replace h:=h.o|cases h))
     refine lookSk hlook ?_
     (all_goals refine fv ?_;repeat' first|exact .intro|refine Tw.mk ?_ ?_|(intro h;first|replace h:=h.o|cases h))
     all_goals exact Y9
    ·have hlook := zoa hu
     rw [if_neg hu] at hE
     (all_goals refine fv ?_;repeat' first|exact .intro|refine Tw.mk ?_ ?_|(intro h;first|replace h:=h.o|cases h))
     refine lookNk hlook ?_
     (all_goals refine fv ?_;repeat' first|exact .intro|refine Tw.mk ?_ ?_|(intro h;first|replace h:=h.o|cases h))
     refine zaO 2 ⟨by omega, fun _ => h0, fun _ => ?_⟩ (by omega) (by (refine zaC [0] ?_;repeat' first|exact .intro|refine Tw.mk ?_ ?_))
     unfold endE; rw [if_neg hb, if_neg hu]
  ·have hz : capE k U l[j] = 0 := by rw [hcap, hi1 (by omega), hi2 (by omega)]; rfl
   rw [hz] at hU
   (all_goals refine fv ?_;repeat' first|exact .intro|refine Tw.mk ?_ ?_|(intro h;first|replace h:=h.o|cases h))
   refine zaO (j + 1, usedA U l[j]) ⟨by dsimp only; omega, by simpa using hU⟩ (by dsimp only; omega) (by (refine zaC [0] ?_;repeat' first|exact .intro|refine Tw.mk ?_ ?_))
 ·obtain rfl : j = l.length := by omega
  obtain rfl : 0 = R := by rw [<- hU, List.drop_length]; rfl
  (all_goals refine gv ?_;repeat' first|exact .intro|refine Tw.mk ?_ ?_|(intro h;first|replace h:=h.o|cases h))
  all_goals exact Y9
end Go.Proofs.YtimfnpjcedjmiadGreat
namespace Go.Proofs.YtimfnpjcedjmiadGreat
open Go.RowKit Go.ChangeShapes Go.WideShapes Go.ChangeAt Go.Deep
structure caIn (c : Ca) : Prop where
 a : I64 c.a
 pa : I64 c.pa
 b : I64 c.b
 pb : I64 c.pb
 m : I64 c.m
def zkg (c : Ca) : List Value := [.int .i64 c.a, .int .i64 c.pa, .int .i64 c.b, .int .i64 c.pb, .int .i64 c.m]
def zox (w : World) (v : Value) : Prop := ∃ l : List Ca, l.length <= maxLen /\ (∀ c ∈ l, caIn c) /\ RepV (allS w) noG (.sl 5 (l.map zbW) none) v
theorem c_cable {H : Type} {enc : TypeId × Value -> H} {w : World} {spare : Nat -> Bool} {held : Bool} {fuel : Nat} {cs : List Value} {x : DataW H × List MemPlace} (hx : DataW.trod enc Tryz.prog w 0 spare held fuel 35 cs = some x) :
  ∃ c : Ca, cs = zkg c /\ caIn c := by
 obtain ⟨xs, n, _, _, hl, hlen, hf⟩ := DataW.trod_struct Tryz.underlying35 hx
 have hc : Tryz.prog.cellsOf 35 = 5 := by kernel_rfl
 have ci : Tryz.prog.cellsOf 3 = 1 := by kernel_rfl
 rw [hc] at hl
 have h0 := hf 0 _ rfl
 have h1 := hf 1 _ rfl
 have h2 := hf 2 _ rfl
 have h3 := hf 3 _ rfl
 have h4 := hf 4 _ rfl
 clear hf
 match cs, hl, xs, hlen with
 | [v0, v1, v2, v3, v4], _, [y0, y1, y2, y3, y4], _ =>
  simp only [ci, List.getElem?_cons_zero, List.getElem?_cons_succ, List.drop_zero, List.drop_succ_cons, List.take_succ_cons, List.take_zero] at h0 h1 h2 h3 h4
  obtain ⟨a, e0, _, w0⟩ := DataW.trod_int Tryz.underlying3 h0
  obtain ⟨b, e1, _, w1⟩ := DataW.trod_int Tryz.underlying3 h1
  obtain ⟨c, e2, _, w2⟩ := DataW.trod_int Tryz.underlying3 h2
  obtain ⟨d, e3, _, w3⟩ := DataW.trod_int Tryz.underlying3 h3
  obtain ⟨e, e4, _, w4⟩ := DataW.trod_int Tryz.underlying3 h4
  cases e0; cases e1; cases e2; cases e3; cases e4
  exact ⟨⟨a, b, c, d, e⟩, rfl, ⟨zaX w0, zaX w1, zaX w2, zaX w3, zaX w4⟩⟩
theorem g_cables {H : Type} {enc : TypeId × Value -> H} {w : World} {v : Value} {d : DataW H} {p : List MemPlace} (hv : Value.okWide Tryz.prog w .any 0 22 v) (h : DataW.Trod enc Tryz.prog w 0 (fun _ => true) true 22 v d p) : zox w v := by
 obtain ⟨a0, len, cap, rfl⟩ := okWide_slice Tryz.underlying22 hv
 obtain ⟨fuel, hf⟩ := h
 obtain ⟨ao, cp, rows, hcs, hl, hm, hr, ha⟩ := zbo Tryz.underlying22 5 (by kernel_rfl) (by decide)
  (E := fun r => ∃ c : Ca, r = zkg c /\ caIn c) (fun fuel cs x hx => c_cable hx) hf
 obtain ⟨l, rfl, hp⟩ := zhl (fun r h => (hr r h).2)
 simp [Value.cells] at hcs
 obtain ⟨rfl, rfl, rfl⟩ := hcs
 refine ⟨l, by
        have : l.length <= cap := by simpa using hl
        exact Nat.le_trans this hm, fun s hs => hp s hs, ?_⟩
 exact zhv (f := zkg) (by simpa using hl) hm ha (fun x => ⟨rfl, fun v hv => by simp [zkg] at hv; rcases hv with rfl | rfl | rfl | rfl | rfl <;> rfl⟩)
end Go.Proofs.YtimfnpjcedjmiadGreat
