/- Lemmas. -/
import Derived.Test.YtimfnpjcedjmiadGreatK40
import Derived.Test.YtimfnpjcedjmiadGreatK41
import Derived.Test.YtimfnpjcedjmiadGreatK39
import Derived.Test.YtimfnpjcedjmiadGreatK27
import Derived.Test.YtimfnpjcedjmiadGreatK28
set_option maxRecDepth 100000
set_option maxHeartbeats 64000000
set_option linter.all false
namespace Go.Proofs.YtimfnpjcedjmiadGreat
open Go.RowKit
section
variable {k d e : Nat} {N : Nt}
theorem xntick (hk : 1 <= k /\ k <= 6) (hd : d <= 300000000) (he : e <= 400000000000) (hN : N.inv k d e) (i : Int) : Fn Tryz.prog 30 [.box 0 0, .v (.int .i64 i)] [ntO N] (.err (if N.has i then 0 else 6)) [ntO (zcb N i)] :=
 fn_E hk.1 hN.ok (zd6 hN i).ok (fun v => tickE (n := 0) (by omega) (by omega) hk hN.ok v i) rfl rfl
theorem xnsend (hk : 1 <= k /\ k <= 6) (hd : d <= 300000000) (he : e <= 400000000000) (hN : N.inv k d e) (i to : Int) (t : ByteArray) : Fn Tryz.prog 33 [.box 0 0, .v (.int .i64 i), .v (.int .i64 to), .v (.string t)] [ntO N] (.err (if N.has i then zld to t else 6)) [ntO (zg8 N i to t)] :=
 fn_E hk.1 hN.ok (zks hN i to t).ok (fun v => sendE' (n := 0) (by omega) (by omega) (by omega) hk hN.ok v i to t) rfl rfl
theorem zmz (hk : 1 <= k /\ k <= 6) (he : e <= 400000000000) (hN : N.inv k d e) (i : Int) (up : Bool) : Fn Tryz.prog 20 [.box 0 0, .v (.int .i64 i), .v (.bool up)] [ntO N] (.err (zcm N i up)) [ntO (zam N i up)] :=
 fn_E hk.1 hN.ok (zb9 hN i up).ok (fun v => zor (n := 0) (by omega) (by omega) hk hN.ok v i up) rfl rfl
theorem xndel (hk : 1 <= k /\ k <= 6) (hd : d <= 300000000) (he : e <= 400000000000) (hN : N.inv k d e) (i way many : Int) : Fn Tryz.prog 31 [.box 0 0, .v (.int .i64 i), .v (.int .i64 way), .v (.int .i64 many)] [ntO N] (.err (zdm N i way)) [ntO (ndel N i way many)] :=
 fn_E hk.1 hN.ok (zdL hN i way many).ok (fun v => delE (n := 0) (by omega) (by omega) (by omega) hk hN.ok v i way many) rfl rfl
theorem zm6 (hk : 1 <= k /\ k <= 6) (hd : d <= 300000000) (he : e <= 400000000000) (hN : N.inv k d e) : Fn Tryz.prog 24 [.box 0 0] [ntO N] (.tup []) [ntO (ze0 N)] :=
 fn_E hk.1 hN.ok (zgQ hN hk.2).ok (fun v => by
  rcases (by omega : k = 1 \/ k = 2 \/ k = 3 \/ k = 4 \/ k = 5 \/ k = 6) with h | h | h | h | h | h
  ·exact round_1 k d e N v hd he hk hN h
  ·exact round_2 k d e N v hd he hk hN h
  ·exact round_3 k d e N v hd he hk hN h
  ·exact round_4 k d e N v hd he hk hN h
  ·exact round_5 k d e N v hd he hk hN h
  ·exact round_6 k d e N v hd he hk hN h) rfl rfl
theorem xnrst (hk : 1 <= k /\ k <= 6) (hd : d <= 300000000) (he : e <= 400000000000) (hN : N.inv k d e) (i : Int) : Fn Tryz.prog 32 [.box 0 0, .v (.int .i64 i)] [ntO N] (.err (if N.has i then 0 else 6)) [ntO (nrst N i)] := by
 rcases (by omega : k = 1 \/ k = 2 \/ k = 3 \/ k = 4 \/ k = 5 \/ k = 6) with h | h | h | h | h | h
 ·exact rst_1 k d e N i (by omega) (by omega) hk hN h
 ·exact rst_2 k d e N i (by omega) (by omega) hk hN h
 ·exact rst_3 k d e N i (by omega) (by omega) hk hN h
 ·exact rst_4 k d e N i (by omega) (by omega) hk hN h
 ·exact rst_5 k d e N i (by omega) (by omega) hk hN h
 ·exact rst_6 k d e N i (by omega) (by omega) hk hN h
theorem xnonX (hk : 1 <= k /\ k <= 6) (hN : N.inv k d e) (v : Nat -> Nat) (i way : Int) : Fn Tryz.prog 22 [.box 0 0, .v (.int .i64 i), .v (.int .i64 way)] [ntX N v] (.tup [.v (.int .i64 (non N i way)), .err (zdm N i way)]) [ntX N v] := fn_X (onE hk hN.ok v i way) rfl rfl
theorem zif (hk : 1 <= k /\ k <= 6) (hN : N.inv k d e) (v : Nat -> Nat) (i : Int) (hi : 1 <= i /\ i <= k) : Fn Tryz.prog 12 [.box 0 0, .v (.int .i64 i)] [ntX N v] (.tup [.v (.pointer (some ⟨v (i - 1).toNat, 0, none⟩)), .err 0]) [ntX N v] := fn_X (zhd hk hN.ok v i hi) rfl rfl
theorem zhX (hN : N.inv k d e) : N.rs.length = N.ib.length := by rw [hN.ok.rs, hN.ok.ib]
theorem xnnew {k : Int} {l : List Ca} (hl : l.length <= 1000000) (h : zbz k l = 0) : Fn Tryz.prog 10 [.v (.int .i64 k), .sl 5 (l.map zbW) none] [] (.tup [.box 0 0, .err 0]) [ntO (newN k.toNat l)] := by
 have ck := zjY k l hl
 rw [h] at ck
 obtain ⟨h1, h2, h3, h4⟩ := zfz h
 rcases (by omega : k = 1 \/ k = 2 \/ k = 3 \/ k = 4 \/ k = 5 \/ k = 6) with rfl | rfl | rfl | rfl | rfl | rfl
 ·exact new_1 1 l rfl (by decide) h4 h3 ck
 ·exact new_2 2 l rfl (by decide) h4 h3 ck
 ·exact new_3 3 l rfl (by decide) h4 h3 ck
 ·exact new_4 4 l rfl (by decide) h4 h3 ck
 ·exact new_5 5 l rfl (by decide) h4 h3 ck
 ·exact new_6 6 l rfl (by decide) h4 h3 ck
theorem xnnew_no {k : Int} {l : List Ca} (hl : l.length <= 1000000) (h : zbz k l ≠ 0) : Fn Tryz.prog 10 [.v (.int .i64 k), .sl 5 (l.map zbW) none] [] (.tup [.v (.pointer none), .err (zbz k l)]) [] := by
 have ck := zjY k l hl
 obtain ⟨E, hE⟩ : ∃ E, zbz k l = E := ⟨_, rfl⟩
 rw [hE] at ck h ⊢
 refine foP zaA (nnewPl) [] [] Tryz.func10 Tryz.ntmps10 Tryz.results10 ?_
 (all_goals refine fx ?_)
 all_goals ((refine StopCall.fz [] (ck) ?_;(all_goals refine fx ?_;repeat' first|exact .intro|refine Tw.mk ?_ ?_|(intro h;first|replace h:=h.o|cases h))))
 all_goals exact Y12
end
theorem works_ok : Fn Tryz.prog 7 [] [] (.v (.bool true)) [] := by
 have hn : Fn Tryz.prog 10 [.v (.int .i64 2), .sl 5 ([(⟨1, 0, 2, 0, 3⟩ : Ca)].map zbW) none] [] (.tup [.box 0 0, .err 0]) [ntO (newN 2 [⟨1, 0, 2, 0, 3⟩])] := xnnew (k := 2) (l := [⟨1, 0, 2, 0, 3⟩]) (by decide) wo_check
 have hp := zmz (k := 2) (by decide) (by decide) znj 0 true
 rw [wo_plug] at hp
 refine foL zaA [] [8] Tryz.func7 Tryz.ntmps7 Tryz.results7 ?_
 (all_goals refine fx ?_)
 all_goals ((refine StopCall.fz [] (hn) ?_;(all_goals refine fx ?_;repeat' first|exact .intro|refine Tw.mk ?_ ?_|(intro h;first|replace h:=h.o|cases h))))
 all_goals ((refine StopCall.fz [1] (hp) ?_;(all_goals refine fx ?_;repeat' first|exact .intro|refine Tw.mk ?_ ?_|(intro h;first|replace h:=h.o|cases h))))
 obtain ⟨N6, hN6⟩ : ∃ N, woN 6 = N := ⟨_, rfl⟩
 have hsts := wo_sts
 have hid := wo_id
 have hI6 := zmt 6
 rw [hN6] at hsts hid hI6
 obtain ⟨rs, cs, mt, ib⟩ := N6
 have l1 := hI6.ok.rs
 have l2 := hI6.ok.ib
 dsimp only at l1 l2
 obtain ⟨r0, r1, rfl⟩ := len2 l1
 obtain ⟨b0, b1, rfl⟩ := len2 l2
 have hf := hI6.ok.r r1 (by simp)
 have hroute := zif (k := 2) (by decide) hI6
 have hhops := xrhops (r := r1) hf.p3 hf.f.b
 rw [show r1.id = 2 from hid, wo_hops (l := stsB r1.b) hsts] at hhops
 have hib := zhX hI6
 refine cutX (fun v => ⟨[(1, .box 0 0)], [ntX ⟨[r0, r1], cs, mt, [b0, b1]⟩ v]⟩) ?_ (fun hy Z hZ => ?_)
 rotate_left
 ·refine lpG (fun i : Nat => ⟨[(1, .box 0 0), (3, .v (.int .i64 i))], [ntO (woN i)]⟩) (fun i => i <= 6) (fun i => 6 - i) 0 (by omega) (by (refine zaC [1] ?_;repeat' first|exact .intro|refine Tw.mk ?_ ?_)) ?_
  rintro i hi
  by_cases hi' : i < 6
  ·have hr := zm6 (k := 2) (by decide) (by omega) (by omega) (zmt i)
   (all_goals refine fx ?_;repeat' first|exact .intro|refine Tw.mk ?_ ?_|(intro h;first|replace h:=h.o|cases h))
   all_goals ((refine StopCall.fz [0] (hr) ?_;(all_goals refine fx ?_;repeat' first|exact .intro|refine Tw.mk ?_ ?_|(intro h;first|replace h:=h.o|cases h))))
   all_goals (refine zaO (i + 1) (by omega) (by omega) (by (refine zaC [0] ?_;repeat' first|exact .intro|refine Tw.mk ?_ ?_)))
  ·obtain rfl : i = 6 := by omega
   rw [hN6]
   (all_goals refine fx ?_;repeat' first|exact .intro|refine Tw.mk ?_ ?_|(intro h;first|replace h:=h.o|cases h))
   all_goals (refine hZ _ (AS.le.to2 (B := ⟨[(1, .box 0 0)], [ntO ⟨[r0, r1], cs, mt, [b0, b1]⟩]⟩) ?_ (to_ntX 0 rfl (Nat.le_succ 1) hib hy)))
   all_goals ((refine zaC [0] ?_;repeat' first|exact .intro|refine Tw.mk ?_ ?_))
 intro v
 have hroute := hroute v 2 (by decide)
 have hhops := zjD (N := ⟨[r0, r1], cs, mt, [b0, b1]⟩) (i := 1) hhops rfl hib v rfl rfl
 (all_goals refine fx ?_)
 all_goals ((refine StopCall.fz [0] (hroute) ?_;(all_goals refine fx ?_;repeat' first|exact .intro|refine Tw.mk ?_ ?_|(intro h;first|replace h:=h.o|cases h))))
 all_goals ((refine StopCall.fz [0] (hhops) ?_;(all_goals refine fx ?_;repeat' first|exact .intro|refine Tw.mk ?_ ?_|(intro h;first|replace h:=h.o|cases h))))
 all_goals (have hsame := zkU [(1, 3, 1)] [(1, 3, 1)] (by decide))
 all_goals ((refine StopCall.fz [] (hsame) ?_;(all_goals refine fx ?_;repeat' first|exact .intro|refine Tw.mk ?_ ?_|(intro h;first|replace h:=h.o|cases h))))
 all_goals exact Y12
noncomputable def actN (q : Ac) (N : Nt) : Nt :=
 if q.k.toList = (⟨#[112, 108, 117, 103]⟩ : ByteArray).toList then zam N q.a (q.b == 1)
 else if q.k.toList = (⟨#[116, 105, 99, 107]⟩ : ByteArray).toList then zcb N q.a
 else if q.k.toList = (⟨#[100, 101, 108, 105, 118, 101, 114]⟩ : ByteArray).toList then ndel N q.a q.b q.c
 else if q.k.toList = (⟨#[114, 101, 115, 116, 97, 114, 116]⟩ : ByteArray).toList then nrst N q.a
 else if q.k.toList = (⟨#[115, 101, 110, 100]⟩ : ByteArray).toList then zg8 N q.a q.b q.s
 else if q.k.toList = (⟨#[114, 111, 117, 110, 100]⟩ : ByteArray).toList then ze0 N
 else N
theorem zoy {k d e : Nat} {N : Nt} (hk : k <= 6) (h : N.inv k d e) (q : Ac) : (actN q N).inv k (d + 432000) (e + 230000000) := by
 unfold actN
 repeat' split
 ·exact (zb9 h _ _).up (by omega) (by omega)
 ·exact (zd6 h _).up (by omega) (by omega)
 ·exact (zdL h _ _ _).up (by omega) (by omega)
 ·exact (inv_rst h hk _).up (by omega) (by omega)
 ·exact (zks h _ _ _).up (by omega) (by omega)
 ·exact zgQ h hk
 ·exact h.up (by omega) (by omega)
theorem act_ok {k d e : Nat} {N : Nt} (hk : 1 <= k /\ k <= 6) (hd : d <= 300000000) (he : e <= 400000000000) (hN : N.inv k d e) (q : Ac) : Fn Tryz.prog 11 [.box 0 0, .agg (zf4 q)] [ntO N] (.tup []) [ntO (actN q N)] := by
 have h1 := zmz hk he hN q.a (q.b == 1)
 have h2 := xntick hk hd he hN q.a
 have h3 := xndel hk hd he hN q.a q.b q.c
 have h4 := xnrst hk hd he hN q.a
 have h5 := xnsend hk hd he hN q.a q.b q.s
 have h6 := zm6 hk hd he hN
 unfold actN zf4
 obtain ⟨kd, a, b, c, dd, s, p, x⟩ := q
 dsimp only at h1 h2 h3 h4 h5 h6 ⊢
 by_cases e1 : kd.toList = (⟨#[112, 108, 117, 103]⟩ : ByteArray).toList
 ·rw [if_pos e1]
  refine foL zaA [] [] Tryz.func11 Tryz.ntmps11 Tryz.results11 ?_
  (all_goals refine fx ?_;repeat' first|exact .intro|refine Tw.mk ?_ ?_|(intro h;first|replace h:=h.o|cases h))
  all_goals (try (exfalso; simp_all; done))
  all_goals ((refine StopCall.fz [0] (h1) ?_;(all_goals refine fx ?_)))
  all_goals exact Y19
 by_cases e2 : kd.toList = (⟨#[116, 105, 99, 107]⟩ : ByteArray).toList
 ·rw [if_neg e1, if_pos e2]
  refine foL zaA [] [] Tryz.func11 Tryz.ntmps11 Tryz.results11 ?_
  (all_goals refine fx ?_;repeat' first|exact .intro|refine Tw.mk ?_ ?_|(intro h;first|replace h:=h.o|cases h))
  all_goals (try (exfalso; simp_all; done))
  all_goals ((refine StopCall.fz [0] (h2) ?_;(all_goals refine fx ?_)))
  all_goals exact Y19
 by_cases e3 : kd.toList = (⟨#[100, 101, 108, 105, 118, 101, 114]⟩ : ByteArray).toList
 ·rw [if_neg e1, if_neg e2, if_pos e3]
  refine foL zaA [] [] Tryz.func11 Tryz.ntmps11 Tryz.results11 ?_
  (all_goals refine fx ?_;repeat' first|exact .intro|refine Tw.mk ?_ ?_|(intro h;first|replace h:=h.o|cases h))
  all_goals (try (exfalso; simp_all; done))
  all_goals ((refine StopCall.fz [0] (h3) ?_;(all_goals refine fx ?_)))
  all_goals exact Y19
 by_cases e4 : kd.toList = (⟨#[114, 101, 115, 116, 97, 114, 116]⟩ : ByteArray).toList
 ·rw [if_neg e1, if_neg e2, if_neg e3, if_pos e4]
  refine foL zaA [] [] Tryz.func11 Tryz.ntmps11 Tryz.results11 ?_
  (all_goals refine fx ?_;repeat' first|exact .intro|refine Tw.mk ?_ ?_|(intro h;first|replace h:=h.o|cases h))
  all_goals (try (exfalso; simp_all; done))
  all_goals ((refine StopCall.fz [0] (h4) ?_;(all_goals refine fx ?_)))
  all_goals exact Y19
 by_cases e5 : kd.toList = (⟨#[115, 101, 110, 100]⟩ : ByteArray).toList
 ·rw [if_neg e1, if_neg e2, if_neg e3, if_neg e4, if_pos e5]
  refine foL zaA [] [] Tryz.func11 Tryz.ntmps11 Tryz.results11 ?_
  (all_goals refine fx ?_;repeat' first|exact .intro|refine Tw.mk ?_ ?_|(intro h;first|replace h:=h.o|cases h))
  all_goals (try (exfalso; simp_all; done))
  all_goals ((refine StopCall.fz [0] (h5) ?_;(all_goals refine fx ?_)))
  all_goals exact Y19
 by_cases e6 : kd.toList = (⟨#[114, 111, 117, 110, 100]⟩ : ByteArray).toList
 ·rw [if_neg e1, if_neg e2, if_neg e3, if_neg e4, if_neg e5, if_pos e6]
  refine foL zaA [] [] Tryz.func11 Tryz.ntmps11 Tryz.results11 ?_
  (all_goals refine fx ?_;repeat' first|exact .intro|refine Tw.mk ?_ ?_|(intro h;first|replace h:=h.o|cases h))
  all_goals (try (exfalso; simp_all; done))
  all_goals ((refine StopCall.fz [0] (h6) ?_;(all_goals refine fx ?_)))
  all_goals exact Y19
 rw [if_neg e1, if_neg e2, if_neg e3, if_neg e4, if_neg e5, if_neg e6]
 refine foL zaA [] [] Tryz.func11 Tryz.ntmps11 Tryz.results11 ?_
 (all_goals refine fx ?_;repeat' first|exact .intro|refine Tw.mk ?_ ?_|(intro h;first|replace h:=h.o|cases h))
 all_goals (try (exfalso; simp_all; done))
 all_goals exact Y19
def boRow (b : Bool) : List AV := [.v (.bool b)]
noncomputable def playN (l : List Ca) (k : Nat) (acts : List Ac) : Nt := acts.foldl (fun N q => actN q N) (newN k l)
def inA (n : Nat) (I : List Bool) (q : Ac) : List Bool := if q.k.toList = (⟨#[112, 108, 117, 103]⟩ : ByteArray).toList /\ 0 <= q.a /\ q.a < n then I.set q.a.toNat (q.b == 1) else I
def playI (n : Nat) (acts : List Ac) : List Bool := acts.foldl (inA n) (List.replicate n false)
theorem zo9 (n : Nat) (acts : List Ac) : (playI n acts).length = n := by
 have : ∀ (acts : List Ac) (I : List Bool), (acts.foldl (inA n) I).length = I.length := by
  intro acts
  induction acts with
  | nil => exact fun _ => rfl
  | cons q acts ih => intro I; rw [List.foldl_cons, ih]; unfold inA; split; exact List.length_set ..; rfl
 rw [playI, this, List.length_replicate]
theorem zkr {k : Nat} (hk : k <= 6) {l : List Ca} (hl : ∀ c ∈ l, c.ok k) (hlen : l.length <= 9) (acts : List Ac) : (playN l k acts).inv k (432000 * acts.length) (230000000 * acts.length) := by
 have : ∀ (acts : List Ac) {N : Nt} {d e : Nat}, N.inv k d e -> (acts.foldl (fun N q => actN q N) N).inv k (d + 432000 * acts.length) (e + 230000000 * acts.length) := by
  intro acts
  induction acts with
  | nil => exact fun h => h
  | cons q acts ih => intro N d e h; exact (ih (zoy hk h q)).up (by rw [List.length_cons]; omega) (by rw [List.length_cons]; omega)
 exact (this acts (zkK hk hl hlen)).up (by omega) (by omega)
theorem zdj (l : List Ca) : Fn Tryz.prog 8 [.sl 5 (l.map zbW) none] [] (.v (.bool (decide (l.length <= 12)))) [] := by
 refine foA zaA [] [] Tryz.func8 Tryz.ntmps8 Tryz.results8 ?_
 (all_goals refine gv ?_)
 all_goals (((try (conv => whnf));refine StopRet.by [] ?_;repeat' first|exact .intro|refine Tw.mk ?_ ?_))
 all_goals (simp; try omega)
theorem znN {k : Int} {l : List Ca} {acts : List Ac} (hc : l.length <= 12) (ha : zdA acts 40 = true) (hk : zbz k l = 0) : Fn Tryz.prog 16 [.v (.int .i64 k), .sl 5 (l.map zbW) none, .sl 12 (acts.map zf4) none] [] (.tup [.box 0 0, .arr 1 0 l.length, .v (.bool true)]) [ntO (playN l k.toNat acts), .arr true 4 1 0 ((playI l.length acts).map boRow)] := by
 have hLC := zdj l
 rw [decide_eq_true hc] at hLC
 have hLA := zfW acts 40 (by decide)
 rw [ha] at hLA
 have hn := xnnew (k := k) (l := l) (by omega) hk
 obtain ⟨k1, k2, k3, k4⟩ := zfz hk
 have hal := (zer ha).1
 obtain ⟨K, rfl⟩ : ∃ K : Nat, k = (K : Int) := ⟨k.toNat, by omega⟩
 rw [Int.toNat_natCast] at hn k4 ⊢
 have hI : ∀ i, (playN l K (acts.take i)).inv K (432000 * acts.length) (230000000 * acts.length) := fun i => (zkr (by omega) k4 k3 (acts.take i)).up (Nat.mul_le_mul_left _ (List.length_take_le' ..)) (Nat.mul_le_mul_left _ (List.length_take_le' ..))
 refine foP zaA [(12, .op 0 (.op 1 (.op 2 (.op 3 (.op 4 (.op 5 (.op 6 (.op 7 (.op 8 (.op 9 (.op 10 (.op 11 (.op 12 (.op 13 (.done)))))))))))))))] [(59, true)] [] Tryz.func16 Tryz.ntmps16 Tryz.results16 ?_
 (all_goals refine fx ?_)
 all_goals ((refine StopCall.fz [] (hLC) ?_;(all_goals refine fx ?_;repeat' first|exact .intro|refine Tw.mk ?_ ?_|(intro h;first|replace h:=h.o|cases h))))
 all_goals ((refine StopCall.fz [] (hLA) ?_;(all_goals refine fx ?_;repeat' first|exact .intro|refine Tw.mk ?_ ?_|(intro h;first|replace h:=h.o|cases h))))
 all_goals ((refine StopCall.fz [] (hn) ?_;(all_goals refine fx ?_;repeat' first|exact .intro|refine Tw.mk ?_ ?_|(intro h;first|replace h:=h.o|cases h))))
 ·simp only [List.length_map]
  refine ⟨by omega, trivial, ?_, by omega⟩
  have hb : (Tryz.prog.types[4]).bytes = 1 := by decide +kernel
  rw [hb]; omega
 refine lpG (fun i : Nat => ⟨[(1, .sl 5 (l.map zbW) none), (2, .sl 12 (acts.map zf4) none), (9, .box 0 0), (11, .arr 1 0 l.length), (12, .v (.int .i64 i))], [ntO (playN l K (acts.take i)), .arr true 4 1 0 ((playI l.length (acts.take i)).map boRow)]⟩) (fun i => i <= acts.length) (fun i => acts.length - i) 0 (by omega) (by (refine zaC [0, 1] ?_;repeat' first|exact .intro|refine Tw.mk ?_ ?_); all_goals (simp [playI, boRow, Value.cells]; done)) ?_
 rintro i hi
 by_cases hi' : i < acts.length
 ·have hact := act_ok (k := K) (by omega) (by omega) (by omega) (hI i) acts[i]
  have hT : acts.take (i + 1) = acts.take i ++ [acts[i]] := zaQ hi'
  have hN : actN acts[i] (playN l K (acts.take i)) = playN l K (acts.take (i + 1)) := by rw [hT, playN, playN, List.foldl_append]; rfl
  have hJ : inA l.length (playI l.length (acts.take i)) acts[i] = playI l.length (acts.take (i + 1)) := by rw [hT, playI, playI, List.foldl_append]; rfl
  rw [hN] at hact
  have hlen := zo9 l.length (acts.take i)
  unfold zf4 at hact
  unfold inA at hJ
  by_cases hp : acts[i].k.toList = (⟨#[112, 108, 117, 103]⟩ : ByteArray).toList /\ 0 <= acts[i].a /\ acts[i].a < l.length
  ·rw [if_pos hp] at hJ
   obtain ⟨hp1, hp2, hp3⟩ := hp
   have hrow : ((playI l.length (acts.take i)).map boRow)[acts[i].a.toNat]? = some (boRow ((playI l.length (acts.take i)).getD acts[i].a.toNat false)) := by
    rw [List.getElem?_map, List.getD_eq_getElem?_getD, List.getElem?_eq_getElem (by omega)]; rfl
   (all_goals refine fx ?_;repeat' first|exact .intro|refine Tw.mk ?_ ?_|(intro h;first|replace h:=h.o|cases h))
   all_goals ((refine StopCall.fz [0] (hact) ?_;(all_goals refine fx ?_;repeat' first|exact .intro|refine Tw.mk ?_ ?_|(intro h;first|replace h:=h.o|cases h))))
   all_goals (try contradiction)
   all_goals (refine zaO (i + 1) (by omega) (by omega) (by (refine zaC [0, 1] ?_;repeat' first|exact .intro|refine Tw.mk ?_ ?_); all_goals (rw [<- hJ, List.map_set]; rfl)))
  ·rw [if_neg hp] at hJ
   (all_goals refine fx ?_;repeat' first|exact .intro|refine Tw.mk ?_ ?_|(intro h;first|replace h:=h.o|cases h))
   all_goals ((refine StopCall.fz [0] (hact) ?_;(all_goals refine fx ?_;repeat' first|exact .intro|refine Tw.mk ?_ ?_|(intro h;first|replace h:=h.o|cases h))))
   all_goals (try (exact absurd ⟨by assumption, by omega, by omega⟩ hp))
   all_goals (refine zaO (i + 1) (by omega) (by omega) (by (refine zaC [0, 1] ?_;repeat' first|exact .intro|refine Tw.mk ?_ ?_); all_goals (rw [<- hJ])))
 ·obtain rfl : i = acts.length := by omega
  rw [List.take_length]
  (all_goals refine fx ?_;repeat' first|exact .intro|refine Tw.mk ?_ ?_|(intro h;first|replace h:=h.o|cases h))
  all_goals (((try (conv => whnf));refine ⟨_,AS.le_refl _ _,?_⟩;((try (conv => whnf));refine StopRet.by [0, 1] ?_;repeat' first|exact .intro|refine Tw.mk ?_ ?_)))
theorem znu {k : Int} {l : List Ca} {acts : List Ac} (hno : ¬ (l.length <= 12 /\ zdA acts 40 = true /\ zbz k l = 0)) : Fn Tryz.prog 16 [.v (.int .i64 k), .sl 5 (l.map zbW) none, .sl 12 (acts.map zf4) none] [] (.tup [.v (.pointer none), .v (.slice none 0 0), .v (.bool false)]) [] := by
 have hLC := zdj l
 have hLA := zfW acts 40 (by decide)
 refine foP zaA [(12, .op 0 (.op 1 (.op 2 (.op 3 (.op 4 (.op 5 (.op 6 (.op 7 (.op 8 (.op 9 (.op 10 (.op 11 (.op 12 (.op 13 (.done)))))))))))))))] [(59, true)] [] Tryz.func16 Tryz.ntmps16 Tryz.results16 ?_
 by_cases h1 : l.length <= 12
 ·rw [decide_eq_true h1] at hLC
  by_cases h2 : zdA acts 40 = true
  ·rw [h2] at hLA
   have h3 : zbz k l ≠ 0 := fun h => hno ⟨h1, h2, h⟩
   have hn := xnnew_no (k := k) (l := l) (by omega) h3
   obtain ⟨E, hE⟩ : ∃ E, zbz k l = E := ⟨_, rfl⟩
   rw [hE] at hn h3
   (all_goals refine fx ?_)
   all_goals ((refine StopCall.fz [] (hLC) ?_;(all_goals refine fx ?_;repeat' first|exact .intro|refine Tw.mk ?_ ?_|(intro h;first|replace h:=h.o|cases h))))
   all_goals ((refine StopCall.fz [] (hLA) ?_;(all_goals refine fx ?_;repeat' first|exact .intro|refine Tw.mk ?_ ?_|(intro h;first|replace h:=h.o|cases h))))
   all_goals ((refine StopCall.fz [] (hn) ?_;(all_goals refine fx ?_;repeat' first|exact .intro|refine Tw.mk ?_ ?_|(intro h;first|replace h:=h.o|cases h))))
   all_goals exact Y12
  ·rw [Bool.not_eq_true] at h2
   rw [h2] at hLA
   (all_goals refine fx ?_)
   all_goals ((refine StopCall.fz [] (hLC) ?_;(all_goals refine fx ?_;repeat' first|exact .intro|refine Tw.mk ?_ ?_|(intro h;first|replace h:=h.o|cases h))))
   all_goals ((refine StopCall.fz [] (hLA) ?_;(all_goals refine fx ?_;repeat' first|exact .intro|refine Tw.mk ?_ ?_|(intro h;first|replace h:=h.o|cases h))))
   all_goals exact Y12
 ·rw [decide_eq_false h1] at hLC
  (all_goals refine fx ?_)
  all_goals ((refine StopCall.fz [] (hLC) ?_;(all_goals refine fx ?_;repeat' first|exact .intro|refine Tw.mk ?_ ?_|(intro h;first|replace h:=h.o|cases h))))
  all_goals exact Y12
end Go.Proofs.YtimfnpjcedjmiadGreat
namespace Go.Proofs.YtimfnpjcedjmiadGreat
def CsE (N Q : Nt) : Prop := Q.cs.length = N.cs.length /\ ∀ (j : Nat) (c : Cb), N.cs[j]? = some c -> ∃ d, Q.cs[j]? = some d /\ Ends c d
theorem CsE.refl (N : Nt) : CsE N N := ⟨rfl, fun j c h => ⟨c, h, rfl, rfl, rfl, rfl, rfl, rfl⟩⟩
theorem CsE.trans {A B C : Nt} (h : CsE A B) (g : CsE B C) : CsE A C := ⟨g.1.trans h.1, fun j c hc => by
 obtain ⟨d, hd, e⟩ := h.2 j c hc
 obtain ⟨x, hx, f⟩ := g.2 j d hd
 exact ⟨x, hx, f.1.trans e.1, f.2.1.trans e.2.1, f.2.2.1.trans e.2.2.1, f.2.2.2.1.trans e.2.2.2.1, f.2.2.2.2.1.trans e.2.2.2.2.1, f.2.2.2.2.2.trans e.2.2.2.2.2⟩⟩
theorem ze7 {k n d e : Nat} {N : Nt} (h : N.ok k n d e) : CsE N (zbE N) := by
 have g := zhQ h
 have f := (zbs N).1
 refine ⟨by rw [f]; exact g.cl, fun j c hc => ?_⟩
 obtain ⟨x, hx, he, _⟩ := g.cs j c hc
 exact ⟨x, by rw [f]; exact hx, he⟩
theorem zeA (N : Nt) (i : Int) (F : Rt -> Rt) : CsE N (N.onR i F) := CsE.refl N
theorem zod {N : Nt} {i : Nat} {c c' : Cb} (hc : N.cs[i]? = some c) (he : Ends c c') : CsE N { N with cs := N.cs.set i c' } := by
 refine ⟨List.length_set .., fun j x hx => ?_⟩
 show ∃ d, (N.cs.set i c')[j]? = some d /\ _
 rw [zjR hx]
 by_cases e : i = j
 ·subst e
  rw [hc] at hx
  cases hx
  exact ⟨c', by rw [if_pos rfl], he⟩
 ·exact ⟨x, by rw [if_neg e], rfl, rfl, rfl, rfl, rfl, rfl⟩
section
variable {k d e : Nat} {N : Nt}
theorem zkz (h : N.inv k d e) (i : Int) : CsE N (zcb N i) := by
 unfold zcb
 split
 ·have h1 := zai h.ok (m := 6630) (f := d) (by omega) (Nat.le_refl _) i (F := zdJ) (fun r hr => by have := zji hr; rw [Nat.zero_add] at this; exact this)
  exact (zeA N i zdJ).trans (ze7 h1)
 ·exact CsE.refl N
theorem cse_send (h : N.inv k d e) (i to : Int) (t : ByteArray) : CsE N (zg8 N i to t) := by
 unfold zg8
 split
 ·have h1 := zai h.ok (m := 6630) (f := d + 1) (by omega) (by omega) i (F := fun r => zdH r to t) (fun r hr => by have := zhw hr to t; rw [Nat.zero_add] at this; exact this)
  exact (zeA N i _).trans (ze7 h1)
 ·exact CsE.refl N
theorem zjt (h : N.inv k d e) (i way many : Int) : CsE N (ndel N i way many) := by
 unfold ndel
 split
 ·exact CsE.refl N
 ·split
  ·exact CsE.refl N
  ·rename_i c hcb
   obtain ⟨h0, hc⟩ := zcr hcb
   have hco := h.ok.c c (getq hc)
   split
   ·have hlen : (c.w1.take (delK many c.w1)).length <= 2000 := Nat.le_trans (List.length_take_le' ..) hco.w1
    have k1 := zdn h.ok i.toNat (c := { c with w1 := c.w1.drop (delK many c.w1) }) ⟨hco.a, hco.pa, hco.b, hco.pb, hco.w0, by show (c.w1.drop _).length <= _; rw [List.length_drop]; have := hco.w1; omega⟩
    have k2 := zai k1 (m := 1040000) (f := d + 2000) (by omega) (by omega) c.a (F := fun r => zbH r c.pa.toNat (c.w1.take (delK many c.w1))) (fun r hr => by have := zcx hr c.pa.toNat hlen; rw [Nat.zero_add] at this; exact this)
    exact (zod (c' := { c with w1 := c.w1.drop (delK many c.w1) }) hc ⟨rfl, rfl, rfl, rfl, rfl, rfl⟩).trans ((zeA _ c.a _).trans (ze7 k2))
   ·have hlen : (c.w0.take (delK many c.w0)).length <= 2000 := Nat.le_trans (List.length_take_le' ..) hco.w0
    have k1 := zdn h.ok i.toNat (c := { c with w0 := c.w0.drop (delK many c.w0) }) ⟨hco.a, hco.pa, hco.b, hco.pb, by show (c.w0.drop _).length <= _; rw [List.length_drop]; have := hco.w0; omega, hco.w1⟩
    have k2 := zai k1 (m := 1040000) (f := d + 2000) (by omega) (by omega) c.b (F := fun r => zbH r c.pb.toNat (c.w0.take (delK many c.w0))) (fun r hr => by have := zcx hr c.pb.toNat hlen; rw [Nat.zero_add] at this; exact this)
    exact (zod (c' := { c with w0 := c.w0.drop (delK many c.w0) }) hc ⟨rfl, rfl, rfl, rfl, rfl, rfl⟩).trans ((zeA _ c.b _).trans (ze7 k2))
theorem zfm {α : Type} {f : Nt -> α -> Nt} (a b : Nat) (hs : ∀ (N : Nt) (x : α) (d e : Nat), N.inv k d e -> (f N x).inv k (d + a) (e + b)) (hc : ∀ (N : Nt) (x : α) (d e : Nat), N.inv k d e -> CsE N (f N x)) : ∀ (l : List α) {N : Nt} {d e : Nat}, N.inv k d e -> CsE N (l.foldl f N)
 | [], N, d, e, h => CsE.refl N
 | x :: l, N, d, e, h => (hc N x d e h).trans (zfm a b hs hc l (hs N x d e h))
theorem cse_dels (h : N.inv k d e) (j : Nat) : CsE N (zhz N j) :=
 zfm (k := k) (f := fun q (i : Nat) => ndel (ndel q i 0 2000) i 1 2000) 4000 2080000 (fun N x d e h => (zdL (zdL h x 0 2000) x 1 2000).up (by omega) (by omega)) (fun N x d e h => (zjt h x 0 2000).trans (zjt (zdL h x 0 2000) x 1 2000)) _ h
theorem zov (h : N.inv k d e) : CsE N (ze0 N) := by
 have h1 := zeC (k := k) (f := fun q (i : Nat) => zcb q ((i : Int) + 1)) 0 6630 (fun N x d e h => zd6 h _) (List.range N.rs.length) h
 exact (zfm (k := k) (f := fun q (i : Nat) => zcb q ((i : Int) + 1)) 0 6630 (fun N x d e h => zd6 h _) (fun N x d e h => zkz h _) (List.range N.rs.length) h).trans
  (zfm (k := k) (f := zhz) 36000 18720000 (fun N x d e h => zlM h x) (fun N x d e h => cse_dels h x) (List.range 12) h1)
def nIn (N : Nt) (i : Int) (up : Bool) : Nt := match N.cb i with
 | none => N
 | some c => { N with cs := N.cs.set i.toNat { c with inn := up } }
theorem zfp (h : N.inv k d e) (i : Int) (up : Bool) : CsE (nIn N i up) (zam N i up) := by
 unfold zam nIn
 cases hcb : N.cb i with
 | none => exact CsE.refl N
 | some c =>
  show CsE { N with cs := N.cs.set i.toNat { c with inn := up } } (if c.inn = up then N else zbE (ze1 N i.toNat c up))
  obtain ⟨h0, hc⟩ := zcr hcb
  have hco := h.ok.c c (getq hc)
  have hlt := (List.getElem?_eq_some_iff.1 hc).1
  split
  ·rename_i hu
   have : N.cs.set i.toNat { c with inn := up } = N.cs := by
    rw [<- hu]
    refine List.ext_getElem? fun j => ?_
    rw [List.getElem?_set]
    split
    ·rename_i e; subst e; exact hc.symm
    ·rfl
   rw [show ({ N with cs := N.cs.set i.toNat { c with inn := up } } : Nt) = N from by rw [this]]
   exact CsE.refl N
  ·have k1 := zdn h.ok i.toNat (c := { c with inn := up, w0 := [], w1 := [] }) ⟨hco.a, hco.pa, hco.b, hco.pb, Nat.zero_le _, Nat.zero_le _⟩
   have k2 := zai k1 (m := 390) (f := d) (by omega) (Nat.le_refl _) c.a (F := fun r => zae r c.pa.toNat up) (fun r hr => by have := zcP hr c.pa.toNat up; rw [Nat.zero_add] at this; exact this)
   have k3 := zai k2 (m := 780) (f := d) (by omega) (Nat.le_refl _) c.b (F := fun r => zae r c.pb.toNat up) (fun r hr => zcP hr c.pb.toNat up)
   have h1 : CsE { N with cs := N.cs.set i.toNat { c with inn := up } } { N with cs := N.cs.set i.toNat { c with inn := up, w0 := [], w1 := [] } } := by
    have := zod (N := { N with cs := N.cs.set i.toNat { c with inn := up } }) (i := i.toNat) (c := { c with inn := up }) (c' := { c with inn := up, w0 := [], w1 := [] }) (by show (N.cs.set _ _)[i.toNat]? = _; rw [List.getElem?_set_self hlt]) ⟨rfl, rfl, rfl, rfl, rfl, rfl⟩
    rw [List.set_set] at this
    exact this
   exact h1.trans (((zeA _ c.a _).trans (zeA _ c.b _)).trans (ze7 k3))
end
def CsM (N Q : Nt) (f : Nat -> Bool -> Bool) : Prop := Q.cs.length = N.cs.length /\ ∀ (j : Nat) (c : Cb), N.cs[j]? = some c -> ∃ d, Q.cs[j]? = some d /\ Ends { c with inn := f j c.inn } d
theorem CsE.csm {N Q : Nt} (h : CsE N Q) : CsM N Q (fun _ b => b) := h
theorem CsM.cse {A B C : Nt} {f : Nat -> Bool -> Bool} (h : CsM A B f) (g : CsE B C) : CsM A C f := ⟨g.1.trans h.1, fun j c hc => by
 obtain ⟨d, hd, e⟩ := h.2 j c hc
 obtain ⟨x, hx, f⟩ := g.2 j d hd
 exact ⟨x, hx, f.1.trans e.1, f.2.1.trans e.2.1, f.2.2.1.trans e.2.2.1, f.2.2.2.1.trans e.2.2.2.1, f.2.2.2.2.1.trans e.2.2.2.2.1, f.2.2.2.2.2.trans e.2.2.2.2.2⟩⟩
theorem CsM.in {A B : Nt} {f : Nat -> Bool -> Bool} (h : CsM A B f) (i : Int) (up : Bool) : CsM A (nIn B i up) (fun j b => if i = (j : Int) then up else f j b) := by
 unfold nIn
 cases hcb : B.cb i with
 | none =>
  refine ⟨h.1, fun j c hc => ?_⟩
  obtain ⟨d, hd, e⟩ := h.2 j c hc
  have hne : i ≠ (j : Int) := fun e => by
   subst e
   unfold Nt.cb at hcb
   rw [if_neg (by omega), Int.toNat_natCast, hd] at hcb
   cases hcb
  exact ⟨d, hd, by dsimp only; rw [if_neg hne]; exact e⟩
 | some x =>
  obtain ⟨h0, hx⟩ := zcr hcb
  refine ⟨(List.length_set ..).trans h.1, fun j c hc => ?_⟩
  obtain ⟨d, hd, e⟩ := h.2 j c hc
  show ∃ d, (B.cs.set i.toNat { x with inn := up })[j]? = some d /\ _
  rw [zjR hd]
  by_cases hj : i = (j : Int)
  ·have hj2 : i.toNat = j := by omega
   rw [hj2, hd] at hx
   cases hx
   exact ⟨{ x with inn := up }, by rw [if_pos hj2], e.1, e.2.1, e.2.2.1, e.2.2.2.1, e.2.2.2.2.1, by dsimp only; rw [if_pos hj]⟩
  ·exact ⟨d, by rw [if_neg (by omega)], by dsimp only; rw [if_neg hj]; exact e⟩
theorem CsM.congr {A B : Nt} {f g : Nat -> Bool -> Bool} (h : CsM A B f) (hg : ∀ j b, f j b = g j b) : CsM A B g := by
 rw [show g = f from funext fun j => funext fun b => (hg j b).symm]; exact h
theorem csm_on {k d : Nat} {N : Nt} : ∀ (L : List Nat) {Q : Nt} {e : Nat} {f : Nat -> Bool -> Bool}, Q.inv k d e -> CsM N Q f -> CsM N (L.foldl (fun q (k : Nat) => zam q k true) Q) (fun j b => if j ∈ L then true else f j b)
 | [], Q, e, f, _, h => h.congr fun j b => by simp
 | x :: L, Q, e, f, hI, h => by
  have h1 := (h.in x true).cse (zfp hI x true)
  refine (csm_on L (zb9 hI x true) h1).congr fun j b => ?_
  by_cases hj : j ∈ L
  ·simp [hj]
  ·by_cases hx : x = j
   ·subst hx; simp
   ·have : ¬ (x : Int) = (j : Int) := by omega
    have h2 : ¬ j = x := fun e => hx e.symm
    simp [hj, this, h2]
structure RstI (k d e : Nat) (N : Nt) (m : Nat) (s : Nt × List Nat) : Prop where
 mt : s.1.mt = N.mt
 inv : s.1.inv k d (e + 780 * m)
 cs : CsM N s.1 (fun j b => if j ∈ s.2 then false else b)
 on : ∀ j ∈ s.2, j < m /\ ∃ c, N.cs[j]? = some c /\ c.inn = true
theorem rst_step {k d e m : Nat} {N : Nt} {i : Int} {s : Nt × List Nat} (h : RstI k d e N m s) (hm : m < N.cs.length) : RstI k d e N (m + 1) (zcD i s m) := by
 unfold zcD
 split
 ·rename_i ht
  have hnm : m ∉ s.2 := fun g => absurd (h.on m g).1 (Nat.lt_irrefl m)
  obtain ⟨x, hx, he⟩ := h.cs.2 m N.cs[m] (List.getElem?_eq_getElem hm)
  have hin : N.cs[m].inn = true := by
   unfold zhK at ht
   rw [hx] at ht
   simp only [Bool.and_eq_true] at ht
   have h2 := he.2.2.2.2.2
   dsimp only at h2
   rw [if_neg hnm] at h2
   rw [<- h2]; exact ht.1
  refine ⟨(zju _ _ h.inv.ok).2.trans h.mt, (zb9 h.inv m false).up (Nat.le_refl _) (by omega), ((h.cs.in m false).cse (zfp h.inv m false)).congr fun j b => ?_, fun j hj => ?_⟩
  ·by_cases e1 : j = m
   ·subst e1; simp
   ·have : ¬ (m : Int) = (j : Int) := by omega
    simp [this, e1]
  ·rcases List.mem_append.1 hj with g | g
   ·obtain ⟨a, b⟩ := h.on j g
    exact ⟨by omega, b⟩
   ·obtain rfl := List.mem_singleton.1 g
    exact ⟨by omega, _, List.getElem?_eq_getElem hm, hin⟩
 ·exact ⟨h.mt, h.inv.up (Nat.le_refl _) (by omega), h.cs, fun j hj => by obtain ⟨a, b⟩ := h.on j hj; exact ⟨by omega, b⟩⟩
theorem zo7 {k d e : Nat} {N : Nt} (hN : N.inv k d e) (i : Int) : ∀ m, m <= N.cs.length -> RstI k d e N m ((List.range m).foldl (zcD i) (N, []))
 | 0, _ => ⟨rfl, hN, (CsE.refl N).csm.congr fun j b => by simp, fun j hj => by cases hj⟩
 | m + 1, h => by
  rw [List.range_succ, List.foldl_append]
  exact rst_step (zo7 hN i m (by omega)) (by omega)
theorem cse_rst {k d e : Nat} {N : Nt} (h : N.inv k d e) (hk : k <= 6) (i : Int) : CsE N (nrst N i) := by
 unfold nrst
 split
 ·rename_i hi
  have hs := zo7 h i N.cs.length (Nat.le_refl _)
  generalize (List.range N.cs.length).foldl (zcD i) (N, []) = s at *
  have hi2 := zcz.1 hi
  rw [h.ok.rs] at hi2
  have b1 := zhy hs.inv hk (i := i) ⟨hi2.1, by omega⟩
  rw [hs.mt] at b1
  have c1 : CsM N (s.1.onR i fun _ => newR i (N.mt.getD (i - 1).toNat [])) (fun j b => if j ∈ s.2 then false else b) := hs.cs.cse (zeA _ i _)
  have c2 := csm_on s.2 b1 c1
  show CsE N (s.2.foldl (fun q (k : Nat) => zam q k true) _)
  refine ⟨c2.1, fun j c hc => ?_⟩
  obtain ⟨x, hx, he⟩ := c2.2 j c hc
  refine ⟨x, hx, he.1, he.2.1, he.2.2.1, he.2.2.2.1, he.2.2.2.2.1, ?_⟩
  have h2 := he.2.2.2.2.2
  dsimp only at h2
  by_cases hj : j ∈ s.2
  ·obtain ⟨_, c', hc', hin⟩ := hs.on j hj
   rw [hc] at hc'
   cases hc'
   rw [h2, if_pos hj, hin]
  ·rw [h2, if_neg hj, if_neg hj]
 ·exact CsE.refl N
def actI (q : Ac) (j : Nat) (b : Bool) : Bool := if q.k.toList = (⟨#[112, 108, 117, 103]⟩ : ByteArray).toList /\ q.a = (j : Int) then (q.b == 1) else b
theorem csm_act {k d e : Nat} {N Q : Nt} {f : Nat -> Bool -> Bool} (hk : k <= 6) (hI : Q.inv k d e) (h : CsM N Q f) (q : Ac) : CsM N (actN q Q) (fun j b => actI q j (f j b)) := by
 unfold actN actI
 by_cases h1 : q.k.toList = (⟨#[112, 108, 117, 103]⟩ : ByteArray).toList
 ·rw [if_pos h1]
  refine ((h.in q.a (q.b == 1)).cse (zfp hI q.a _)).congr fun j b => ?_
  simp only [h1, true_and]
 ·rw [if_neg h1]
  have hg : CsM N Q (fun j b => if q.k.toList = (⟨#[112, 108, 117, 103]⟩ : ByteArray).toList /\ q.a = (j : Int) then (q.b == 1) else f j b) := h.congr fun j b => by rw [if_neg (fun g => h1 g.1)]
  refine hg.cse ?_
  repeat' split
  ·exact zkz hI _
  ·exact zjt hI _ _ _
  ·exact cse_rst hI hk _
  ·exact cse_send hI _ _ _
  ·exact zov hI
  ·exact CsE.refl Q
theorem zkp {k d : Nat} {N : Nt} (hk : k <= 6) : ∀ (acts : List Ac) {Q : Nt} {d e : Nat} {f : Nat -> Bool -> Bool}, Q.inv k d e -> CsM N Q f -> CsM N (acts.foldl (fun N q => actN q N) Q) (fun j b => acts.foldl (fun b q => actI q j b) (f j b))
 | [], Q, d, e, f, _, h => h
 | q :: acts, Q, d, e, f, hI, h => zkp (d := d) hk acts (zoy hk hI q) (csm_act hk hI h q)
theorem zi5 (n : Nat) {j : Nat} (hj : j < n) : ∀ (acts : List Ac) (I : List Bool) (b : Bool), I.length = n -> I[j]? = some b -> (acts.foldl (inA n) I)[j]? = some (acts.foldl (fun b q => actI q j b) b)
 | [], I, b, _, h => h
 | q :: acts, I, b, hl, h => by
  rw [List.foldl_cons, List.foldl_cons]
  refine zi5 n hj acts _ _ ?_ ?_
  ·unfold inA; split
   ·rw [List.length_set]; exact hl
   ·exact hl
  ·unfold inA actI
   by_cases h1 : q.k.toList = (⟨#[112, 108, 117, 103]⟩ : ByteArray).toList
   ·by_cases h2 : q.a = (j : Int)
    ·rw [if_pos ⟨h1, by omega, by omega⟩, if_pos ⟨h1, h2⟩, h2, Int.toNat_natCast, List.getElem?_set_self (by omega)]
    ·rw [if_neg (fun g : _ /\ q.a = (j : Int) => h2 g.2)]
     split
     ·rename_i g
      rw [List.getElem?_set_ne (by omega)]; exact h
     ·exact h
   ·rw [if_neg (fun g => h1 g.1), if_neg (fun g : _ /\ q.a = (j : Int) => h1 g.1)]; exact h
theorem play_cb {k : Nat} (hk : k <= 6) {l : List Ca} (hl : ∀ c ∈ l, c.ok k) (hlen : l.length <= 9) (acts : List Ac) {j : Nat} (hj : j < l.length) : ∃ d b, (playN l k acts).cs[j]? = some d /\ (playI l.length acts)[j]? = some b /\ Ends { mkCb l[j] with inn := b } d := by
 have h := zkp (d := 0) hk acts (zkK hk hl hlen) (CsE.refl (newN k l)).csm
 obtain ⟨d, hd, he⟩ := h.2 j (mkCb l[j]) (by show (l.map mkCb)[j]? = _; rw [List.getElem?_map, List.getElem?_eq_getElem hj]; rfl)
 exact ⟨d, _, hd, zi5 l.length hj acts _ false (List.length_replicate ..) (by rw [List.getElem?_replicate, if_pos hj]), he⟩
def Pt.opn (p : Pt) : Prop := p.l.opn /\ (p.l.st ≠ 9 -> p.p = peNo)
def Rt.opn (r : Rt) : Prop := ∀ (j : Nat) (p : Pt), r.ps[j]? = some p -> p.opn
def Rt.opX (i : Nat) (r : Rt) : Prop := ∀ (j : Nat) (p : Pt), r.ps[j]? = some p -> p.l.opn /\ (j ≠ i -> p.l.st ≠ 9 -> p.p = peNo)
theorem opn_ps {r r' : Rt} (e : r'.ps = r.ps) (h : r.opn) : r'.opn := fun j p hp => h j p (e ▸ hp)
theorem Rt.opn.x {r : Rt} (h : r.opn) (i : Nat) : r.opX i := fun j p hp => ⟨(h j p hp).1, fun _ => (h j p hp).2⟩
theorem zdD {r : Rt} {i : Nat} {f : Pt -> Pt} {j : Nat} {p : Pt} (hp : (r.onP i f).ps[j]? = some p) : ∃ q, r.ps[j]? = some q /\ p = if i = j then f q else q := by
 rw [zhV] at hp
 cases hq : r.ps[j]? with
 | none => rw [hq] at hp; cases hp
 | some q => rw [hq] at hp; exact ⟨q, rfl, (Option.some.inj hp).symm⟩
theorem zgO {r : Rt} (h : r.opn) (i : Nat) {f : Pt -> Pt} (hf : ∀ p : Pt, p.opn -> (f p).opn) : (r.onP i f).opn := fun j p hp => by
 obtain ⟨q, hq, rfl⟩ := zdD hp
 split
 ·exact hf q (h j q hq)
 ·exact h j q hq
theorem zkR {r : Rt} {i : Nat} (h : r.opX i) {f : Pt -> Pt} (hf : ∀ p : Pt, p.l.opn -> (f p).l.opn) : (r.onP i f).opX i := fun j p hp => by
 obtain ⟨q, hq, rfl⟩ := zdD hp
 split
 ·rename_i e
  exact ⟨hf q (h j q hq).1, fun g => absurd e.symm g⟩
 ·exact h j q hq
theorem zeD {r : Rt} {i : Nat} (h : r.opX i) {now : Pe} (hn : ∀ p, r.ps[i]? = some p -> p.l.st ≠ 9 -> now = peNo) : (zaT r i now).opn := fun j p hp => by
 rw [ps_meet] at hp
 obtain ⟨q, hq, rfl⟩ := zdD hp
 split
 ·rename_i e
  subst e
  exact ⟨(h i q hq).1, fun g => hn q hq g⟩
 ·rename_i e
  exact ⟨(h j q hq).1, fun g => (h j q hq).2 (fun k => e k.symm) g⟩
theorem Rt.opX.back {r : Rt} {i : Nat} (h : r.opX i) (hi : ¬ (r.pt i).l.st ≠ 9) : r.opn := fun j p hp => by
 refine ⟨(h j p hp).1, fun g => ?_⟩
 by_cases e : j = i
 ·subst e
  rw [zek hp] at hi
  exact absurd g hi
 ·exact (h j p hp).2 e g
theorem zfq {p : Pt} (h : p.opn) (k : UInt8) (s : List UInt8) : (putP k s p).opn := by
 unfold putP
 split
 ·exact h
 ·exact h
theorem zoz {r : Rt} (h : r.opn) (i : Nat) (s : List UInt8) : (zbK r i s).opn := by
 unfold zbK
 split
 ·exact h
 ·split
  ·split
   ·exact h
   ·exact h
  ·split
   ·exact opn_ps rfl (zgO h i (fun p hp => zfq hp 65 s))
   ·exact h
theorem zlN {r : Rt} (h : r.opn) (m : Mg) : (zde r m).opn := by
 unfold zde
 split
 ·exact h
 ·split
  ·exact h
  ·split
   ·exact h
   ·exact zgO h _ (fun p hp => zfq hp 77 _)
theorem zma {r : Rt} (h : r.opn) (s : List UInt8) : (zba r s).opn := by
 unfold zba
 split
 ·exact zlN h _
 ·exact h
theorem zoQ {r : Rt} (h : r.opn) (to : Int) (t : ByteArray) : (zdH r to t).opn := by
 unfold zdH
 split
 ·exact h
 ·exact zlN h _
theorem opX_tak1 {r : Rt} (h : r.opn) (i : Nat) (k : UInt8) (s : List UInt8) : (tak1 r i k s).opX i := by
 unfold tak1
 split
 ·exact zkR (h.x i) (fun p hp => (opn_take hp _ : Lk.opn (takL p.l ⟨zci (tx s), pid (tx s), popt (tx s)⟩)))
 ·exact h.x i
theorem opn_tak {r : Rt} (h : r.opn) (i : Nat) (k : UInt8) (s : List UInt8) : (takR r i k s).opn := by
 have hx := opX_tak1 h i k s
 unfold takR
 generalize tak1 r i k s = q at *
 split
 ·exact zeD hx (fun _ _ _ => rfl)
 ·rename_i hi
  have ho := hx.back hi
  split
  ·split
   ·exact zeD hx (fun p hp g => absurd g (by rw [<- zek hp]; exact hi))
   ·exact ho
  ·split
   ·exact zoz ho i s
   ·split
    ·exact opn_ps (zkt _ _ _) ho
    ·split
     ·exact zma ho s
     ·exact ho
theorem zlE {r : Rt} (h : r.opn) (i : Nat) (s : List UInt8) : (zbH r i s).opn := by
 unfold zbH
 have h1 : (r.onP i fun p => { p with rd := (za5 p.rd s).1, rest := (zcO (p.rest ++ s)).2.2 }).opn := zgO h i (fun p hp => hp)
 generalize (za5 (r.pt i).rd s).2.1 = T
 generalize (r.onP i fun p => { p with rd := (za5 p.rd s).1, rest := (zcO (p.rest ++ s)).2.2 }) = q at *
 induction T generalizing q with
 | nil => exact h1
 | cons t T ih =>
  refine ih _ ?_
  unfold takT
  split
  ·exact h1
  ·exact opn_tak h1 _ _ _
theorem zmA {l : Lk} (h : l.opn) : (zaE l).opn := by
 unfold zaE
 split
 ·exact zoq (zoq (zjV h) (by decide)) (by decide)
 ·exact zjV h
theorem zmg {r : Rt} (h : r.opn) (i : Nat) : (zb2 r i).opn := by
 have hx : (zbF r i).opX i := zkR (h.x i) (fun p hp => (zmA hp : Lk.opn (zaE p.l)))
 unfold zb2
 generalize zbF r i = q at *
 split
 ·exact zeD hx (fun _ _ _ => rfl)
 ·rename_i hi
  have hm : (zaT q i (zax (q.pt i).p)).opn := zeD hx (fun p hp g => absurd g (by rw [<- zek hp]; exact hi))
  have h2 : ((zaT q i (zax (q.pt i).p)).onP i (zaR r.id)).opn := zgO hm i (fun p hp => by
   unfold zaR
   split
   ·exact zfq hp _ _
   ·exact hp)
  generalize (owdB _ _) = L
  generalize (Rt.onP _ i (zaR r.id)) = z at *
  induction L generalizing z with
  | nil => exact h2
  | cons x L ih =>
   refine ih _ (zgO h2 i (fun p hp => ?_))
   unfold zaS
   split
   ·exact zfq hp _ _
   ·exact hp
theorem opn_tick {r : Rt} (h : r.opn) : (zdJ r).opn := by
 unfold zdJ
 generalize List.range r.ps.length = L
 induction L generalizing r with
 | nil => exact h
 | cons i L ih => exact ih (zmg h i)
theorem zhe {r : Rt} (h : r.opn) (i : Nat) (up : Bool) : (zae r i up).opn := by
 unfold zae
 split
 ·exact h
 ·exact zeD (zkR (h.x i) (fun p hp => (zoq hp (by split <;> decide) : Lk.opn (doL p.l (if up then 0 else 1))))) (fun _ _ _ => rfl)
theorem zj4 {r : Rt} (h : r.opn) (i : Nat) {q : Pt} (hq : (zae r i false).ps[i]? = some q) : q.l.st = 1 /\ q.p = peNo := by
 unfold zae at hq
 split at hq
 ·rename_i he
  have ho := h i q hq
  have h1 : doE q.l 1 ≠ 0 := by
   unfold zdO at he
   rw [zek hq] at he
   exact he
  have h2 := (zlQ ho.1).2
  have h3 : q.l.st = 1 := by
   by_cases g : q.l.st = 1
   ·exact g
   ·exact absurd (h2.2 g) h1
  exact ⟨h3, ho.2 (by omega)⟩
 ·rw [ps_meet] at hq
  obtain ⟨q1, hq1, rfl⟩ := zdD hq
  obtain ⟨q2, hq2, rfl⟩ := zdD hq1
  rw [if_pos rfl, if_pos rfl]
  exact ⟨(zlQ (h i q2 hq2).1).1, rfl⟩
theorem zmN {r : Rt} (i : Nat) (up : Bool) {j : Nat} (hj : j ≠ i) {q : Pt} (hq : (zae r i up).ps[j]? = some q) : r.ps[j]? = some q := by
 unfold zae at hq
 split at hq
 ·exact hq
 ·rw [ps_meet] at hq
  obtain ⟨q1, hq1, rfl⟩ := zdD hq
  obtain ⟨q2, hq2, rfl⟩ := zdD hq1
  rw [if_neg (fun e => hj e.symm), if_neg (fun e => hj e.symm)]
  exact hq2
theorem zk7 (id : Int) (ms : List Int) : (newR id ms).opn := by
 have key : ∀ (ms : List Int) (i : Int), ∀ p ∈ znd id i ms, p.opn := by
  intro ms
  induction ms with
  | nil => intro i p hp; cases hp
  | cons m ms ih =>
   intro i p hp
   rcases List.mem_cons.1 hp with rfl | hp
   ·exact ⟨.inl rfl, fun _ => rfl⟩
   ·exact ih _ p hp
 exact fun j p hp => key ms 0 p (getq (l := (znd id 0 ms)) hp)
def Nt.all (P : Nat -> Nat -> Lk -> Pe -> Prop) (N : Nt) : Prop := ∀ (i : Nat) (r : Rt), N.rs[i]? = some r -> ∀ (j : Nat) (p : Pt), r.ps[j]? = some p -> P i j p.l p.p
theorem ziV {P Q : Nat -> Nat -> Lk -> Pe -> Prop} {N : Nt} (h : N.all P) (a : Int) {F : Rt -> Rt} (h1 : ∀ i, (a - 1).toNat ≠ i -> ∀ j l p, P i j l p -> Q i j l p) (h2 : ∀ r, (∀ (j : Nat) (p : Pt), r.ps[j]? = some p -> P (a - 1).toNat j p.l p.p) -> ∀ (j : Nat) (p : Pt), (F r).ps[j]? = some p -> Q (a - 1).toNat j p.l p.p) : (N.onR a F).all Q := fun i r hr j p hp => by
 rw [zjb] at hr
 cases hs : N.rs[i]? with
 | none => rw [hs] at hr; cases hr
 | some s =>
  rw [hs] at hr
  have hr2 : (if (a - 1).toNat = i then F s else s) = r := Option.some.inj hr
  subst hr2
  by_cases e : (a - 1).toNat = i
  ·rw [if_pos e] at hp
   subst e
   exact h2 s (h _ s hs) j p hp
  ·rw [if_neg e] at hp
   exact h1 i e j _ _ (h i s hs j p hp)
theorem zoo {P : Nat -> Nat -> Lk -> Pe -> Prop} {N : Nt} (h : N.all P) (a : Int) (k : Nat) : (N.onR a fun r => outR r k).all P :=
 ziV h a (fun _ _ _ _ _ g => g) (fun r g j p hp => by
  obtain ⟨q, hq, rfl⟩ := zdD hp
  have := g j q hq
  split
  ·exact this
  ·exact this)
theorem zoE {P : Nat -> Nat -> Lk -> Pe -> Prop} {N : Nt} (h : N.all P) (i : Nat) : (zhB N i).all P := by
 have h0 : (zcY N i).all P := by
  unfold zcY
  split
  ·exact h
  ·exact zoo h _ _
 unfold zhB zf3
 split
 ·exact h0
 ·exact zoo h0 _ _
theorem zdX {P : Nat -> Nat -> Lk -> Pe -> Prop} {N : Nt} (h : N.all P) : (zbE N).all P := by
 have hL : (zbO N).all P := by
  unfold zbO
  generalize List.range N.cs.length = L
  induction L generalizing N with
  | nil => exact h
  | cons x L ih => exact ih (zoE h x)
 unfold zbE
 generalize List.range N.rs.length = L
 generalize zbO N = Q at *
 induction L generalizing Q with
 | nil => exact hL
 | cons x L ih =>
  refine ih _ (fun i r hr => ?_)
  unfold zdF at hr
  dsimp only at hr
  rw [List.getElem?_modify] at hr
  cases hs : Q.rs[i]? with
  | none => rw [hs] at hr; cases hr
  | some s =>
   rw [hs] at hr
   have hr2 : (if x = i then { s with inb := [] } else s) = r := Option.some.inj hr
   subst hr2
   split
   ·exact hL i s hs
   ·exact hL i s hs
def opnP (_ _ : Nat) (l : Lk) (p : Pe) : Prop := l.opn /\ (l.st ≠ 9 -> p = peNo)
def Nt.opn (N : Nt) : Prop := N.all opnP
theorem zdr {N : Nt} (h : N.opn) (a : Int) {F : Rt -> Rt} (hF : ∀ r : Rt, r.opn -> (F r).opn) : (N.onR a F).opn :=
 ziV h a (fun _ _ _ _ _ g => g) (fun r g => hF r g)
theorem zio {N : Nt} (h : N.opn) (i : Int) : (zcb N i).opn := by
 unfold zcb
 split
 ·exact zdX (zdr h i (fun r hr => opn_tick hr))
 ·exact h
theorem zn9 {N : Nt} (h : N.opn) (i to : Int) (t : ByteArray) : (zg8 N i to t).opn := by
 unfold zg8
 split
 ·exact zdX (zdr h i (fun r hr => zoQ hr to t))
 ·exact h
theorem zgC {N : Nt} (h : N.opn) (i : Int) (up : Bool) : (zam N i up).opn := by
 unfold zam
 split
 ·exact h
 ·split
  ·exact h
  ·exact zdX (zdr (zdr (N := { N with cs := _ }) h _ (fun r hr => zhe hr _ up)) _ (fun r hr => zhe hr _ up))
theorem zhn {N : Nt} (h : N.opn) (i way many : Int) : (ndel N i way many).opn := by
 unfold ndel
 split
 ·exact h
 ·split
  ·exact h
  ·split
   ·exact zdX (zdr (N := { N with cs := _ }) h _ (fun r hr => zlE hr _ _))
   ·exact zdX (zdr (N := { N with cs := _ }) h _ (fun r hr => zlE hr _ _))
theorem zdZ {α : Type} {f : Nt -> α -> Nt} (hf : ∀ (N : Nt) (x : α), N.opn -> (f N x).opn) : ∀ (l : List α) {N : Nt}, N.opn -> (l.foldl f N).opn
 | [], N, h => h
 | x :: l, N, h => zdZ hf l (hf N x h)
theorem opn_nrst {N : Nt} (h : N.opn) (i : Int) : (nrst N i).opn := by
 unfold nrst
 split
 ·have key : ∀ (L : List Nat) (s : Nt × List Nat), s.1.opn -> (L.foldl (zcD i) s).1.opn := by
   intro L
   induction L with
   | nil => exact fun s hs => hs
   | cons x L ih =>
    intro s hs
    refine ih _ ?_
    unfold zcD
    split
    ·exact zgC hs _ _
    ·exact hs
  exact zdZ (f := fun q (k : Nat) => zam q k true) (fun N x h => zgC h _ _) _ (zdr (key _ (N, []) h) i (fun r hr => zk7 _ _))
 ·exact h
theorem zl9 {N : Nt} (h : N.opn) : (ze0 N).opn :=
 zdZ (f := zhz) (fun N x h => zdZ (f := fun q (i : Nat) => ndel (ndel q i 0 2000) i 1 2000) (fun N x h => zhn (zhn h _ _ _) _ _ _) _ h) _
  (zdZ (f := fun q (i : Nat) => zcb q ((i : Int) + 1)) (fun N x h => zio h _) _ h)
theorem opn_act {N : Nt} (h : N.opn) (q : Ac) : (actN q N).opn := by
 unfold actN
 repeat' split
 ·exact zgC h _ _
 ·exact zio h _
 ·exact zhn h _ _ _
 ·exact opn_nrst h _
 ·exact zn9 h _ _ _
 ·exact zl9 h
 ·exact h
theorem opn_newN (k : Nat) (l : List Ca) : (newN k l).opn := fun i r hr => by
 unfold newN at hr
 dsimp only at hr
 rw [List.getElem?_map] at hr
 cases hs : (List.range k)[i]? with
 | none => rw [hs] at hr; cases hr
 | some x =>
  rw [hs] at hr
  obtain rfl := Option.some.inj hr
  exact zk7 _ _
theorem opn_play (l : List Ca) (k : Nat) (acts : List Ac) : (playN l k acts).opn :=
 zdZ (f := fun N q => actN q N) (fun N x h => opn_act h x) acts (opn_newN k l)
theorem zkP {N : Nt} (h : N.opn) {i : Int} {c : Cb} (hc : N.cb i = some c) (hi : c.inn = true) : (zam N i false).all fun a j l p => (a = (c.a - 1).toNat /\ j = c.pa.toNat \/ a = (c.b - 1).toNat /\ j = c.pb.toNat) -> l.st = 1 /\ p = peNo := by
 unfold zam
 rw [hc]
 dsimp only
 rw [if_neg (by rw [hi]; decide)]
 refine zdX ?_
 unfold ze1
 have h1 : (({ N with cs := N.cs.set i.toNat { c with inn := false, w0 := [], w1 := [] } } : Nt).onR c.a (fun r => zae r c.pa.toNat false)).all fun a j l p => opnP a j l p /\ (a = (c.a - 1).toNat /\ j = c.pa.toNat -> l.st = 1 /\ p = peNo) := by
  have h0 : ({ N with cs := N.cs.set i.toNat { c with inn := false, w0 := [], w1 := [] } } : Nt).all opnP := h
  refine ziV h0 c.a (fun a ha j l p g => ⟨g, fun e => absurd e.1.symm ha⟩) (fun r hr j p hp => ⟨zhe hr c.pa.toNat false j p hp, fun e => ?_⟩)
  rw [e.2] at hp
  exact zj4 hr _ hp
 refine ziV h1 c.b (fun a ha j l p g e => ?_) (fun r hr j p hp e => ?_)
 ·rcases e with e | e
  ·exact g.2 e
  ·exact absurd e.1.symm ha
 ·by_cases hj : j = c.pb.toNat
  ·subst hj
   exact zj4 (fun j p hp => (hr j p hp).1) _ hp
  ·rcases e with e | e
   ·exact (hr j p (zmN _ false hj hp)).2 e
   ·exact absurd e.2 hj
theorem zlZ {N : Nt} {i : Int} {c : Cb} (hc : N.cb i = some c) {up : Bool} (hi : c.inn ≠ up) : zam N i up = zbE (ze1 N i.toNat c up) := by
 unfold zam
 rw [hc]
 dsimp only
 rw [if_neg hi]
theorem zl4 {k d e : Nat} {N : Nt} (h : N.inv k d e) {i : Int} {c : Cb} (hc : N.cb i = some c) (hi : c.inn = true) (way : Int) : non (zam N i false) i way = 0 := by
 obtain ⟨i0, hci⟩ := zcr hc
 have hco := h.ok.c c (getq hci)
 have hlt := (List.getElem?_eq_some_iff.1 hci).1
 have k1 := zdn h.ok i.toNat (c := { c with inn := false, w0 := [], w1 := [] }) ⟨hco.a, hco.pa, hco.b, hco.pb, Nat.zero_le _, Nat.zero_le _⟩
 have k2 := zai k1 (m := 390) (f := d) (by omega) (Nat.le_refl _) c.a (F := fun r => zae r c.pa.toNat false) (fun r hr => by have := zcP hr c.pa.toNat false; rw [Nat.zero_add] at this; exact this)
 have k3 := zai k2 (m := 780) (f := d) (by omega) (Nat.le_refl _) c.b (F := fun r => zae r c.pb.toNat false) (fun r hr => zcP hr c.pb.toNat false)
 have gl := zhQ k3
 obtain ⟨f1, _⟩ := zbs (ze1 N i.toNat c false)
 obtain ⟨x, hx, he, hw⟩ := gl.cs i.toNat { c with inn := false, w0 := [], w1 := [] } (by show (N.cs.set _ _)[_]? = _; rw [List.getElem?_set_self hlt])
 have hw2 := hw rfl
 have hb : (zbE (ze1 N i.toNat c false)).cb i = some x := by
  unfold Nt.cb
  rw [if_neg (by omega), f1]
  exact hx
 rw [zlZ hc (by rw [hi]; decide)]
 unfold non
 rw [hb]
 dsimp only
 rw [hw2.1, hw2.2]
 split
 ·rfl
 ·split <;> rfl
end Go.Proofs.YtimfnpjcedjmiadGreat
namespace Go.Proofs.YtimfnpjcedjmiadGreat
open Go.RowKit
theorem and1023 (x : Int) : ∃ n : Nat, n <= 1023 /\ IntKind.i64.wrap ((BitVec.ofInt IntKind.i64.bits x &&& BitVec.ofInt IntKind.i64.bits 1023).toNat : Int) = (n : Int) := by
 refine ⟨(BitVec.ofInt IntKind.i64.bits x &&& BitVec.ofInt IntKind.i64.bits 1023).toNat, ?_, ?_⟩
 ·rw [BitVec.toNat_and]
  exact Nat.le_trans Nat.and_le_right (by decide)
 ·have h : (BitVec.ofInt IntKind.i64.bits x &&& BitVec.ofInt IntKind.i64.bits 1023).toNat <= 1023 := by
   rw [BitVec.toNat_and]
   exact Nat.le_trans Nat.and_le_right (by decide)
  generalize (BitVec.ofInt IntKind.i64.bits x &&& BitVec.ofInt IntKind.i64.bits 1023).toNat = m at *
  exact zcA (by unfold In64; omega)
theorem ziv {k d e : Nat} {N : Nt} (hN : N.inv k d e) {P : Nat -> Nat -> Lk -> Pe -> Prop} (h : N.all P) {a pa : Int} (ha : 1 <= a /\ a <= k) (hpa : 0 <= pa /\ pa < 3) (hP : ∀ l p, P (a - 1).toNat pa.toNat l p -> l.st = 1 /\ p = peNo) :
  ∃ r, N.rs[(a - 1).toNat]? = some r /\ r.ps.length = 3 /\ (r.pt pa.toNat).l.st = 1 /\ (r.pt pa.toNat).p = peNo := by
 have hlt : (a - 1).toNat < N.rs.length := by rw [hN.ok.rs]; omega
 have hr := List.getElem?_eq_getElem hlt
 have h3 := (hN.ok.r _ (List.getElem_mem hlt)).p3
 have hp := List.getElem?_eq_getElem (l := N.rs[(a - 1).toNat].ps) (i := pa.toNat) (by omega)
 have := hP _ _ (h _ _ hr _ _ hp)
 refine ⟨_, hr, h3, ?_⟩
 rw [zek hp]
 exact this
theorem zk1 (k which : Int) (l : List Ca) (acts : List Ac) : Fn Tryz.prog 5 [.v (.int .i64 k), .sl 5 (l.map zbW) none, .sl 12 (acts.map zf4) none, .v (.int .i64 which)] [] (.v (.bool true)) [] := by
 have hwk := works_ok
 by_cases hok : l.length <= 12 /\ zdA acts 40 = true /\ zbz k l = 0
 ·obtain ⟨hc, ha, hk⟩ := hok
  have hp := znN hc ha hk
  obtain ⟨k1, k2, k3, k4⟩ := zfz hk
  have hal := (zer ha).1
  obtain ⟨K, rfl⟩ : ∃ K : Nat, k = (K : Int) := ⟨k.toNat, by omega⟩
  rw [Int.toNat_natCast] at hp k4
  by_cases hl : l.length = 0
  ·refine foL zaA [] [8, 12] Tryz.func5 Tryz.ntmps5 Tryz.results5 ?_
   (all_goals refine fx ?_)
   all_goals ((refine StopCall.fz [] (hwk) ?_;(all_goals refine fx ?_;repeat' first|exact .intro|refine Tw.mk ?_ ?_|(intro h;first|replace h:=h.o|cases h))))
   all_goals ((refine StopCall.fz [] (hp) ?_;(all_goals refine fx ?_;repeat' first|exact .intro|refine Tw.mk ?_ ?_|(intro h;first|replace h:=h.o|cases h))))
   all_goals exact Y12
  ·obtain ⟨n, hn, hand⟩ := and1023 which
   have hj : n % l.length < l.length := Nat.mod_lt _ (by omega)
   have hrem : (n : Int).tmod (l.length : Int) = ((n % l.length : Nat) : Int) := (Int.ofNat_tmod n l.length).symm
   have hI := zkr (k := K) (by omega) k4 k3 acts
   have hop := opn_play l K acts
   obtain ⟨d, b, hd, hb, hE⟩ := play_cb (k := K) (by omega) k4 k3 acts hj
   have hco := k4 _ (List.getElem_mem hj)
   generalize n % l.length = j at *
   have hcb : (playN l K acts).cb (j : Int) = some d := by unfold Nt.cb; rw [if_neg (by omega), Int.toNat_natCast]; exact hd
   have hpl := zmz (k := K) (by omega) (by omega) hI (j : Int) false
   have hIn := zb9 hI (j : Int) false
   have hrow : (l.map zbW)[j]? = some (zbW l[j]) := by rw [List.getElem?_map, List.getElem?_eq_getElem hj]; rfl
   have hbrow : ((playI l.length acts).map boRow)[j]? = some (boRow b) := by rw [List.getElem?_map, hb]; rfl
   have hinn : d.inn = b := hE.2.2.2.2.2
   unfold boRow at hbrow
   unfold zbW at hrow
   cases b with
   | false =>
    rw [show zcm (playN l K acts) (j : Int) false = 7 from by unfold zcm; rw [hcb]; dsimp only; rw [if_pos hinn]] at hpl
    have hnum := zow 7 (by decide)
    refine foL zaA [] [8, 12] Tryz.func5 Tryz.ntmps5 Tryz.results5 ?_
    (all_goals refine fx ?_)
    all_goals ((refine StopCall.fz [] (hwk) ?_;(all_goals refine fx ?_;repeat' first|exact .intro|refine Tw.mk ?_ ?_|(intro h;first|replace h:=h.o|cases h))))
    all_goals ((refine StopCall.fz [] (hp) ?_;(all_goals refine fx ?_;repeat' first|exact .intro|refine Tw.mk ?_ ?_|(intro h;first|replace h:=h.o|cases h))))
    refine cutK ⟨[(1, .sl 5 (l.map zbW) none), (10, .box 0 0), (11, .arr 1 0 l.length), (12, .v (.int .i64 (j : Int)))], [ntO (playN l K acts), .arr true 4 1 0 ((playI l.length acts).map boRow)]⟩ ?_ (fun hy => ?_)
    rotate_left
    ·exact Y57
    (all_goals refine fx ?_;repeat' first|exact .intro|refine Tw.mk ?_ ?_|(intro h;first|replace h:=h.o|cases h))
    all_goals ((refine StopCall.fz [0] (hpl) ?_;(all_goals refine fx ?_)))
    all_goals ((refine StopCall.fz [] (hnum) ?_;(all_goals refine fx ?_)))
    all_goals exact Y12
   | true =>
    rw [show zcm (playN l K acts) (j : Int) false = 0 from by unfold zcm; rw [hcb]; dsimp only; rw [if_neg (by rw [hinn]; decide)]] at hpl
    have hall := zkP hop hcb hinn
    have hw0 := zl4 hI hcb hinn
    have eA : d.a = l[j].a := hE.1
    have ePA : d.pa = l[j].pa := hE.2.1
    have eB : d.b = l[j].b := hE.2.2.1
    have ePB : d.pb = l[j].pb := hE.2.2.2.1
    rw [eA, ePA, eB, ePB] at hall
    obtain ⟨rA, hA1, hA2, hA3, hA4⟩ := ziv hIn hall hco.a hco.pa (fun l p h => h (.inl ⟨rfl, rfl⟩))
    obtain ⟨rB, hB1, hB2, hB3, hB4⟩ := ziv hIn hall hco.b hco.pb (fun l p h => h (.inr ⟨rfl, rfl⟩))
    have hlA := xrlink hA2 _ hco.pa
    have hpA := xrpeer hA2 _ hco.pa
    have hlB := xrlink hB2 _ hco.pb
    have hpB := xrpeer hB2 _ hco.pb
    rw [hA3] at hlA
    rw [hA4] at hpA
    rw [hB3] at hlB
    rw [hB4] at hpB
    have hrA := zif (k := K) (by omega) hIn
    have hon := xnonX (k := K) (by omega) hIn
    have hcb2 : ∀ way : Int, 0 <= way -> way <= 1 -> zdm (zam (playN l K acts) (j : Int) false) (j : Int) way = 0 := fun way h0 h1 => by
     obtain ⟨x, hx, _⟩ := (zfp hI (j : Int) false).2 j { d with inn := false } (by
      unfold nIn
      rw [hcb]
      show ((playN l K acts).cs.set (j : Int).toNat { d with inn := false })[j]? = _
      rw [Int.toNat_natCast, List.getElem?_set_self (List.getElem?_eq_some_iff.1 hd).1])
     have hcb3 : (zam (playN l K acts) (j : Int) false).cb (j : Int) = some x := by
      unfold Nt.cb
      rw [if_neg (by omega), Int.toNat_natCast]
      exact hx
     unfold zdm
     rw [if_neg (by omega), hcb3]
     rfl
    have hO : ∀ (v : Nat -> Nat) (way : Int), 0 <= way -> way <= 1 -> _ := fun v way h0 h1 => by
     have h := hon v (j : Int) way
     rw [hw0 way, hcb2 way h0 h1] at h
     exact h
    have hco2 := hco
    generalize zam (playN l K acts) (j : Int) false = N' at *
    refine foL zaA [] [8, 12] Tryz.func5 Tryz.ntmps5 Tryz.results5 ?_
    (all_goals refine fx ?_)
    all_goals ((refine StopCall.fz [] (hwk) ?_;(all_goals refine fx ?_;repeat' first|exact .intro|refine Tw.mk ?_ ?_|(intro h;first|replace h:=h.o|cases h))))
    all_goals ((refine StopCall.fz [] (hp) ?_;(all_goals refine fx ?_;repeat' first|exact .intro|refine Tw.mk ?_ ?_|(intro h;first|replace h:=h.o|cases h))))
    refine cutK ⟨[(1, .sl 5 (l.map zbW) none), (10, .box 0 0), (11, .arr 1 0 l.length), (12, .v (.int .i64 (j : Int)))], [ntO (playN l K acts), .arr true 4 1 0 ((playI l.length acts).map boRow)]⟩ ?_ (fun hy => ?_)
    rotate_left
    ·exact Y57
    (all_goals refine fx ?_;repeat' first|exact .intro|refine Tw.mk ?_ ?_|(intro h;first|replace h:=h.o|cases h))
    refine cutX (fun v => ⟨[(1, .sl 5 (l.map zbW) none), (10, .box 0 0), (12, .v (.int .i64 (j : Int)))], [ntX N' v]⟩) ?_ (fun hy Z hZ => ?_)
    rotate_left
    ·(all_goals refine fx ?_)
     all_goals ((refine StopCall.fz [0] (hpl) ?_;(all_goals refine fx ?_;repeat' first|exact .intro|refine Tw.mk ?_ ?_|(intro h;first|replace h:=h.o|cases h))))
     all_goals (refine hZ _ (AS.le.to2 (B := ⟨[(1, .sl 5 (l.map zbW) none), (10, .box 0 0), (12, .v (.int .i64 (j : Int)))], [ntO N']⟩) ?_ (to_ntX 0 rfl (by rw [hIn.ok.ib]; omega) (zhX hIn) hy)))
     all_goals ((refine zaC [0] ?_;repeat' first|exact .intro|refine Tw.mk ?_ ?_))
    intro v
    have hO0 := hO v 0 (by decide) (by decide)
    have hO1 := hO v 1 (by decide) (by decide)
    have hRA := hrA v _ hco.a
    have hRB := hrA v _ hco.b
    have hLA := zjD hlA hA1 (zhX hIn) v rfl rfl
    have hPA := zjD hpA hA1 (zhX hIn) v rfl rfl
    have hLB := zjD hlB hB1 (zhX hIn) v rfl rfl
    have hPB := zjD hpB hB1 (zhX hIn) v rfl rfl
    generalize v (l[j].a - 1).toNat = pA at *
    generalize v (l[j].b - 1).toNat = pB at *
    unfold peRow peNo at hPA hPB
    (all_goals refine fx ?_)
    refine lpG (fun i : Nat => ⟨[(1, .sl 5 (l.map zbW) none), (10, .box 0 0), (12, .v (.int .i64 (j : Int))), (13, .v (.int .i64 i))], [ntX N' v]⟩) (fun i => i <= 2) (fun i => 2 - i) 0 (by omega) (by (refine zaC [0] ?_;repeat' first|exact .intro|refine Tw.mk ?_ ?_)) ?_
    intro i hi
    rcases (by omega : i = 0 \/ i = 1 \/ i = 2) with rfl | rfl | rfl
    ·(all_goals refine fx ?_;repeat' first|exact .intro|refine Tw.mk ?_ ?_|(intro h;first|replace h:=h.o|cases h))
     all_goals ((refine StopCall.fz [0] (hRA) ?_;(all_goals refine fx ?_;repeat' first|exact .intro|refine Tw.mk ?_ ?_|(intro h;first|replace h:=h.o|cases h))))
     all_goals ((refine StopCall.fz [0] (hLA) ?_;(all_goals refine fx ?_)))
     all_goals ((refine StopCall.fz [0] (hPA) ?_;(all_goals refine fx ?_)))
     all_goals ((refine StopCall.fz [0] (hO0) ?_;(all_goals refine fx ?_;repeat' first|exact .intro|refine Tw.mk ?_ ?_|(intro h;first|replace h:=h.o|cases h))))
     all_goals (refine zaO 1 (by omega) (by omega) (by (refine zaC [0] ?_;repeat' first|exact .intro|refine Tw.mk ?_ ?_)))
    ·(all_goals refine fx ?_;repeat' first|exact .intro|refine Tw.mk ?_ ?_|(intro h;first|replace h:=h.o|cases h))
     all_goals ((refine StopCall.fz [0] (hRA) ?_;(all_goals refine fx ?_;repeat' first|exact .intro|refine Tw.mk ?_ ?_|(intro h;first|replace h:=h.o|cases h))))
     all_goals ((refine StopCall.fz [0] (hRB) ?_;(all_goals refine fx ?_;repeat' first|exact .intro|refine Tw.mk ?_ ?_|(intro h;first|replace h:=h.o|cases h))))
     all_goals ((refine StopCall.fz [0] (hLB) ?_;(all_goals refine fx ?_)))
     all_goals ((refine StopCall.fz [0] (hPB) ?_;(all_goals refine fx ?_)))
     all_goals ((refine StopCall.fz [0] (hO1) ?_;(all_goals refine fx ?_;repeat' first|exact .intro|refine Tw.mk ?_ ?_|(intro h;first|replace h:=h.o|cases h))))
     all_goals (refine zaO 2 (by omega) (by omega) (by (refine zaC [0] ?_;repeat' first|exact .intro|refine Tw.mk ?_ ?_)))
    ·(all_goals refine fx ?_;repeat' first|exact .intro|refine Tw.mk ?_ ?_|(intro h;first|replace h:=h.o|cases h))
     all_goals exact Y12
 ·have hp := znu hok
  refine foL zaA [] [8, 12] Tryz.func5 Tryz.ntmps5 Tryz.results5 ?_
  (all_goals refine fx ?_)
  all_goals ((refine StopCall.fz [] (hwk) ?_;(all_goals refine fx ?_;repeat' first|exact .intro|refine Tw.mk ?_ ?_|(intro h;first|replace h:=h.o|cases h))))
  all_goals ((refine StopCall.fz [] (hp) ?_;(all_goals refine fx ?_;repeat' first|exact .intro|refine Tw.mk ?_ ?_|(intro h;first|replace h:=h.o|cases h))))
  all_goals exact Y12
theorem ziA (W : World) (v0 v1 v2 v3 : Value) (i0 : ∃ n, v0 = .int .i64 n /\ I64 n) (i1 : zox W v1) (i2 : GActs W v2) (i3 : ∃ n, v3 = .int .i64 n /\ I64 n) :
  Calls Tryz.prog 5 #[v0, v1, v2, v3] W fun e w' => e = .returned (.bool true) /\ Below W.heap.size W w' := by
 obtain ⟨k, rfl, _⟩ := i0
 obtain ⟨l, _, _, hl⟩ := i1
 obtain ⟨acts, _, ha⟩ := i2
 obtain ⟨n, rfl, _⟩ := i3
 exact fn_law (zk1 k n l acts) W [_, _, _, _] ⟨.v _ _, hl, ha, .v _ _, trivial⟩
end Go.Proofs.YtimfnpjcedjmiadGreat
