/- Lemmas. -/
import Derived.Test.YtimfnpjcedjmiadGreatK16
set_option maxRecDepth 100000
set_option maxHeartbeats 64000000
set_option linter.all false
namespace Go.Proofs.YtimfnpjcedjmiadGreat
open Go.RowKit
theorem zkc {kn : Int -> Option St3} {a : Int -> Bool} : RM (baL kn [a]) (baL kn [a]) [0, 1, 2, 3] [0, 1, 2, 3] (baL kn [a]) := by (all_goals refine gr ?_;repeat' first|exact .intro|refine Tw.mk ?_ ?_); all_goals rfl
theorem zlD {kn : Int -> Option St3} {a b : Int -> Bool} : RM (baL kn [a, b]) (baL kn [a, b]) [0, 1, 2, 3, 4] [0, 1, 2, 3, 4] (baL kn [a, b]) := by (all_goals refine gr ?_;repeat' first|exact .intro|refine Tw.mk ?_ ?_); all_goals rfl
theorem zkd {kn : Int -> Option St3} {a b c : Int -> Bool} : RM (baL kn [a, b, c]) (baL kn [a, b, c]) [0, 1, 2, 3, 4, 5] [0, 1, 2, 3, 4, 5] (baL kn [a, b, c]) := by (all_goals refine gr ?_;repeat' first|exact .intro|refine Tw.mk ?_ ?_); all_goals rfl
theorem rm_g1 {kn : Int -> Option St3} {a : Int -> Bool} : RM (baL kn [a]) [.gone] [0] [0] [.gone] := by (all_goals refine gr ?_;repeat' first|exact .intro|refine Tw.mk ?_ ?_)
theorem rm_g2 {kn : Int -> Option St3} {a b : Int -> Bool} : RM (baL kn [a, b]) [.gone] [0] [0] [.gone] := by (all_goals refine gr ?_;repeat' first|exact .intro|refine Tw.mk ?_ ?_)
theorem rm_g3 {kn : Int -> Option St3} {a b c : Int -> Bool} : RM (baL kn [a, b, c]) [.gone] [0] [0] [.gone] := by (all_goals refine gr ?_;repeat' first|exact .intro|refine Tw.mk ?_ ?_)
theorem zhi {kn : Int -> Option St3} {a : Int -> Bool} : [] ++ zbI (extG 0 (baL kn [a]).length) (baL kn [a]) = baL kn [a] := rfl
theorem ziH {kn : Int -> Option St3} {a b : Int -> Bool} : [] ++ zbI (extG 0 (baL kn [a, b]).length) (baL kn [a, b]) = baL kn [a, b] := rfl
theorem ziM {kn : Int -> Option St3} {a b c : Int -> Bool} : [] ++ zbI (extG 0 (baL kn [a, b, c]).length) (baL kn [a, b, c]) = baL kn [a, b, c] := rfl
theorem zcd {f : FuncId} {args : List AV} {r : AV} {kn kn' : Int -> Option St3} {ow ow' : List (Int -> Bool)} (h1 : 1 <= ow.length) (h3 : ow.length <= 3) (k1 : 1 <= ow'.length) (k3 : ow'.length <= 3) (hF : Fn Tryz.prog f args (baL kn ow) r (baL kn' ow')) (hr : r.free = true) : Fn Tryz.prog f args [baR' kn ow] r [baR' kn' ow'] := by
 revert hF
 refine np3 (p := fun ow => Fn Tryz.prog f args (baL kn ow) r (baL kn' ow') -> Fn Tryz.prog f args [baR' kn ow] r [baR' kn' ow']) h1 h3 (fun a => ?_) (fun a b => ?_) (fun a b c => ?_)
 all_goals refine np3 (p := fun ow' => Fn Tryz.prog f args (baL kn _) r (baL kn' ow') -> Fn Tryz.prog f args [baR' kn _] r [baR' kn' ow']) k1 k3 (fun a' => ?_) (fun a' b' => ?_) (fun a' b' c' => ?_)
 all_goals intro hF
 ·exact za7 (pre := []) (mt := [.gone]) (ρ := [0]) (κ := [0, 1, 2, 3]) (L := 0) (by rw [zhi]; exact hF) rfl rfl rfl rfl rm_g1 zkc (zay hr) rfl rfl rfl rfl rfl
 ·exact za7 (pre := []) (mt := [.gone]) (ρ := [0]) (κ := [0, 1, 2, 3, 4]) (L := 0) (by rw [zhi]; exact hF) rfl rfl rfl rfl rm_g2 zlD (zay hr) rfl rfl rfl rfl rfl
 ·exact za7 (pre := []) (mt := [.gone]) (ρ := [0]) (κ := [0, 1, 2, 3, 4, 5]) (L := 0) (by rw [zhi]; exact hF) rfl rfl rfl rfl rm_g3 zkd (zay hr) rfl rfl rfl rfl rfl
 ·exact za7 (pre := []) (mt := [.gone]) (ρ := [0]) (κ := [0, 1, 2, 3]) (L := 0) (by rw [ziH]; exact hF) rfl rfl rfl rfl rm_g1 zkc (zay hr) rfl rfl rfl rfl rfl
 ·exact za7 (pre := []) (mt := [.gone]) (ρ := [0]) (κ := [0, 1, 2, 3, 4]) (L := 0) (by rw [ziH]; exact hF) rfl rfl rfl rfl rm_g2 zlD (zay hr) rfl rfl rfl rfl rfl
 ·exact za7 (pre := []) (mt := [.gone]) (ρ := [0]) (κ := [0, 1, 2, 3, 4, 5]) (L := 0) (by rw [ziH]; exact hF) rfl rfl rfl rfl rm_g3 zkd (zay hr) rfl rfl rfl rfl rfl
 ·exact za7 (pre := []) (mt := [.gone]) (ρ := [0]) (κ := [0, 1, 2, 3]) (L := 0) (by rw [ziM]; exact hF) rfl rfl rfl rfl rm_g1 zkc (zay hr) rfl rfl rfl rfl rfl
 ·exact za7 (pre := []) (mt := [.gone]) (ρ := [0]) (κ := [0, 1, 2, 3, 4]) (L := 0) (by rw [ziM]; exact hF) rfl rfl rfl rfl rm_g2 zlD (zay hr) rfl rfl rfl rfl rfl
 ·exact za7 (pre := []) (mt := [.gone]) (ρ := [0]) (κ := [0, 1, 2, 3, 4, 5]) (L := 0) (by rw [ziM]; exact hF) rfl rfl rfl rfl rm_g3 zkd (zay hr) rfl rfl rfl rfl rfl
section
variable {b : Ba} (hb : b.ok)
theorem zgs (hb : b.ok) (s : St3) (hs : s.2.2.length <= 1000000) : Fn Tryz.prog 43 [.box 0 0, .agg (zaF s)] [baR b] (.err (sf s)) [baR (setB b s)] :=
 zcd hb.n1 hb.n3 (zfR hb s).n1 (zfR hb s).n3 (fset_ok b.kn b.ow hb.n1 hb.n3 s hs) rfl
theorem ziP (hb : b.ok) (p : Int) (s : St3) : Fn Tryz.prog 105 [.box 0 0, .v (.int .i64 p), .agg (zaF s)] [baR b] (.tup [.v (.int .i64 (zca b p s)), .err (zas b p s)]) [baR (zbj b p s)] :=
 zcd hb.n1 hb.n3 (zfo hb p s).n1 (zfo hb p s).n3 (ftake_ok b.kn b.ow hb.n1 hb.n3 hb.kn p s) rfl
theorem zmk (hb : b.ok) (p : Int) (s : St3) : Fn Tryz.prog 106 [.box 0 0, .v (.int .i64 p), .agg (zaF s)] [baR b] (.err (zas b p s)) [baR (hrdB b p s)] :=
 zcd hb.n1 hb.n3 (zjp hb p s).n1 (zjp hb p s).n3 (zmq b.kn b.ow hb.n1 hb.n3 hb.kn p s) rfl
theorem zhs (hb : b.ok) (p : Int) : Fn Tryz.prog 72 [.box 0 0, .v (.int .i64 p)] [baR b] (.err (metE b p)) [baR (metB b p)] :=
 zcd hb.n1 hb.n3 (zkM hb p).n1 (zkM hb p).n3 (fmeet_ok b.kn b.ow hb.n1 hb.n3 hb.kn p) rfl
theorem zh4 (hb : b.ok) (n : Int) : Fn Tryz.prog 90 [.box 0 0, .v (.int .i64 n)] [baR b] (.tup [.agg (zaF (stO (b.kn n))), .v (.bool (b.kn n).isSome)]) [baR b] :=
 zcd hb.n1 hb.n3 hb.n1 hb.n3 (fget_ok b.kn b.ow hb.n1 hb.n3 hb.kn n) rfl
theorem zla (hb : b.ok) : Fn Tryz.prog 35 [.box 0 0] [baR b] (.sl 3 ((stsB b).map zaF) none) [baR b] := by
 refine zcd hb.n1 hb.n3 hb.n1 hb.n3 ?_ rfl
 obtain ⟨kn, ow⟩ := b
 exact np3 (p := fun ow => Fn Tryz.prog 35 [.box 0 0] (baL kn ow) (.sl 3 ((stsB ⟨kn, ow⟩).map zaF) none) (baL kn ow)) hb.n1 hb.n3 (fun a => zjk kn a hb.kn) (fun a b => zkC kn a b hb.kn) (fun a b c => zjy kn a b c hb.kn)
theorem zkF (hb : b.ok) : Fn Tryz.prog 35 [.box 0 0] [baR b] (.arr 1 0 (stsB b).length) [baR b, .arr true 42 3 0 ((stsB b).map zaF)] := by
 obtain ⟨kn, ow⟩ := b
 refine np3 (p := fun ow => Fn Tryz.prog 35 [.box 0 0] [baR ⟨kn, ow⟩] (.arr 1 0 (stsB ⟨kn, ow⟩).length) [baR ⟨kn, ow⟩, .arr true 42 3 0 ((stsB ⟨kn, ow⟩).map zaF)]) hb.n1 hb.n3 (fun a => ?_) (fun a b => ?_) (fun a b c => ?_)
 ·have h : Fn Tryz.prog 35 [.box 0 0] ([] ++ zbI (extG 0 (baL kn [a]).length) (baL kn [a])) (.arr 4 0 (stsB ⟨kn, [a]⟩).length) (baL kn [a] ++ [.arr true 42 3 0 ((stsB ⟨kn, [a]⟩).map zaF)]) := by rw [zhi]; exact zin kn a hb.kn
  exact za7 (pre := []) (L := 0) (mt := [.gone, .arr true 42 3 0 ((stsB ⟨kn, [a]⟩).map zaF)]) (m' := baL kn [a]) (ρ := [0, 4]) (κ := [0, 1, 2, 3]) h rfl rfl rfl rfl (by (all_goals refine gr ?_;repeat' first|exact .intro|refine Tw.mk ?_ ?_); all_goals rfl) (by (all_goals refine gr ?_;repeat' first|exact .intro|refine Tw.mk ?_ ?_); all_goals rfl) (by (all_goals refine gr ?_;repeat' first|exact .intro|refine Tw.mk ?_ ?_); all_goals rfl) rfl rfl rfl rfl rfl
 ·have h : Fn Tryz.prog 35 [.box 0 0] ([] ++ zbI (extG 0 (baL kn [a, b]).length) (baL kn [a, b])) (.arr 5 0 (stsB ⟨kn, [a, b]⟩).length) (baL kn [a, b] ++ [.arr true 42 3 0 ((stsB ⟨kn, [a, b]⟩).map zaF)]) := by rw [ziH]; exact zjX kn a b hb.kn
  exact za7 (pre := []) (L := 0) (mt := [.gone, .arr true 42 3 0 ((stsB ⟨kn, [a, b]⟩).map zaF)]) (m' := baL kn [a, b]) (ρ := [0, 5]) (κ := [0, 1, 2, 3, 4]) h rfl rfl rfl rfl (by (all_goals refine gr ?_;repeat' first|exact .intro|refine Tw.mk ?_ ?_); all_goals rfl) (by (all_goals refine gr ?_;repeat' first|exact .intro|refine Tw.mk ?_ ?_); all_goals rfl) (by (all_goals refine gr ?_;repeat' first|exact .intro|refine Tw.mk ?_ ?_); all_goals rfl) rfl rfl rfl rfl rfl
 ·have h : Fn Tryz.prog 35 [.box 0 0] ([] ++ zbI (extG 0 (baL kn [a, b, c]).length) (baL kn [a, b, c])) (.arr 6 0 (stsB ⟨kn, [a, b, c]⟩).length) (baL kn [a, b, c] ++ [.arr true 42 3 0 ((stsB ⟨kn, [a, b, c]⟩).map zaF)]) := by rw [ziM]; exact zjG kn a b c hb.kn
  exact za7 (pre := []) (L := 0) (mt := [.gone, .arr true 42 3 0 ((stsB ⟨kn, [a, b, c]⟩).map zaF)]) (m' := baL kn [a, b, c]) (ρ := [0, 6]) (κ := [0, 1, 2, 3, 4, 5]) h rfl rfl rfl rfl (by (all_goals refine gr ?_;repeat' first|exact .intro|refine Tw.mk ?_ ?_); all_goals rfl) (by (all_goals refine gr ?_;repeat' first|exact .intro|refine Tw.mk ?_ ?_); all_goals rfl) (by (all_goals refine gr ?_;repeat' first|exact .intro|refine Tw.mk ?_ ?_); all_goals rfl) rfl rfl rfl rfl rfl
theorem zhb (hb : b.ok) (p : Int) : Fn Tryz.prog 62 [.box 0 0, .v (.int .i64 p)] [baR b] (.sl 3 ((owdB b p).map zaF) none) [baR b] := by
 have hst := zkF hb
 have hlen := stsB_len (b := b)
 have hdel := delS_ok b.kn b.ow p (stsB b) (fun s => getW b.ow p s.1) (by omega) (fun s => owedC_ok b.kn b.ow hb.n1 hb.n3 p s)
 have hV : owdB b p = (stsB b).filter fun s => getW b.ow p s.1 := rfl
 rw [hV]
 generalize (stsB b).filter (fun s => getW b.ow p s.1) = O at *
 generalize stsB b = S at *
 unfold baR' at hdel
 unfold baR baM at *
 refine foL zaA [] [] Tryz.func62 Tryz.ntmps62 Tryz.results62 ?_
 (all_goals refine fv ?_)
 (refine ⟨_, _, _, _, [0], hst, rfl, rfl, rfl, ?_, ?_, ?_⟩)
 ·exact Y23
 ·exact Y3
 (all_goals refine fv ?_)
 (refine ⟨_, _, _, _, [3, 2, 1, 0], hdel, rfl, rfl, rfl, ?_, ?_, ?_⟩)
 ·exact Y23
 ·exact Y23
 (all_goals refine fv ?_)
 (first | refine .mk ⟨_, zjC 4 3 rfl rfl, ?_⟩ | refine ⟨_, zjC 4 3 rfl rfl, ?_⟩)
 ((try (conv => whnf));refine StopRet.by [0] ?_;repeat' first|exact .intro|refine Tw.mk ?_ ?_)
 all_goals (first | rfl | (simp; done) | skip)
theorem xnew_ok (n : Nat) (h1 : 1 <= n) (h3 : n <= 3) : Fn Tryz.prog 40 [.v (.int .i64 n)] [] (.tup [.box 0 0, .err 0]) [baR (newB n)] := by
 have h := fnew_ok n h1 h3
 refine or3 (by omega : n = 1 \/ n = 2 \/ n = 3) (fun e => ?_) (fun e => ?_) (fun e => ?_)
 all_goals (subst e)
 ·exact zeS (mt := [.gone]) (m' := baM (newB 1)) (ρ := [0]) (κ := [0, 1, 2, 3]) (L := 0) h rfl rfl rfl rfl rm_g1 zkc (by (all_goals refine gr ?_;repeat' first|exact .intro|refine Tw.mk ?_ ?_); all_goals rfl) rfl rfl rfl rfl rfl rfl
 ·exact zeS (mt := [.gone]) (m' := baM (newB 2)) (ρ := [0]) (κ := [0, 1, 2, 3, 4]) (L := 0) h rfl rfl rfl rfl rm_g2 zlD (by (all_goals refine gr ?_;repeat' first|exact .intro|refine Tw.mk ?_ ?_); all_goals rfl) rfl rfl rfl rfl rfl rfl
 ·exact zeS (mt := [.gone]) (m' := baM (newB 3)) (ρ := [0]) (κ := [0, 1, 2, 3, 4, 5]) (L := 0) h rfl rfl rfl rfl rm_g3 zkd (by (all_goals refine gr ?_;repeat' first|exact .intro|refine Tw.mk ?_ ?_); all_goals rfl) rfl rfl rfl rfl rfl rfl
end
def zdt (m : Mg) : List AV := [.v (.int .i64 m.to), .v (.int .i64 m.hops), .v (.string m.text)]
def prQ (q : Nat) (p : Pt) (g : Nat) : List Res := [.cells [.v (.int .i64 p.m), .box (q + 1) 0, .arr (q + 2) g p.rd.n, .v (.bool p.rd.e), .v (.bool p.rd.x), .v (.int .i64 p.p.who), .v (.bool p.p.both), .v (.int .i64 p.p.left), .arr (q + 3) g p.out.length], lkR p.l, .arr true 5 1 g (p.rd.buf.map bRow), .arr true 5 1 g (p.out.map bRow)]
def rtH (r : Rt) (g : Nat) (rows : List (List AV)) : List Res := [.cells [.v (.int .i64 r.id), .arr 1 0 rows.length, .box 2 0, .arr 3 g r.inb.length, .v (.int .i64 r.dr)], .arr false 97 1 0 rows, baR r.b, .arr true 67 3 g (r.inb.map zdt)]
def zaD : Nat -> List Pt -> List (List AV)
 | _, [] => []
 | q, _ :: ps => [.box q 0] :: zaD (q + 4) ps
def rtP : Nat -> List Pt -> Nat -> List Res
 | _, [], _ => []
 | q, p :: ps, g => prQ q p g ++ rtP (q + 4) ps g
def ids8 : List Nat := [0, 1, 2, 3, 4, 5, 6, 7]
def zlr : List Nat := [0, 1, 2, 3, 4, 5, 6, 7, 8, 9, 10, 11]
def zaP : List Nat := [0, 1, 2, 3, 4, 5, 6, 7, 8, 9, 10, 11, 12, 13, 14, 15]
def rtM (r : Rt) (g : Nat) : List Res := rtH r g (zaD 4 r.ps) ++ rtP 4 r.ps g
theorem zdp (l : List Pt) (p : Pt) (n : Int) : zbw (l ++ [p]) n = if p.p.both = true /\ p.p.who = n /\ (zbw l n = 0 \/ p.m < zbw l n) then p.m else zbw l n := by
 unfold zbw; rw [List.foldl_append]; rfl
theorem zmW {n : Int} {ps : List Pt} (h : ∀ p ∈ ps, 0 <= p.m /\ p.m <= 20) : 0 <= zbw ps n /\ zbw ps n <= 20 := by
 have key : ∀ (l : List Pt) (a : Int), (∀ p ∈ l, 0 <= p.m /\ p.m <= 20) -> 0 <= a /\ a <= 20 -> 0 <= l.foldl (fun a p => if p.p.both = true /\ p.p.who = n /\ (a = 0 \/ p.m < a) then p.m else a) a /\ l.foldl (fun a p => if p.p.both = true /\ p.p.who = n /\ (a = 0 \/ p.m < a) then p.m else a) a <= 20 := by
  intro l
  induction l with
  | nil => intro a _ ha; exact ha
  | cons p l ih =>
   intro a hl ha
   refine ih _ (fun q hq => hl q (List.mem_cons_of_mem _ hq)) ?_
   dsimp only
   split
   ·exact hl p (List.mem_cons_self ..)
   ·exact ha
 exact key ps 0 h ⟨by decide, by decide⟩
theorem zdb (ps : List Pt) : ∀ k, (edgN ps k).length <= k
 | 0 => Nat.le_refl _
 | k + 1 => by
  have h := zdb ps k
  unfold edgN
  rw [List.length_append]
  split <;> simp <;> omega
theorem orN2 {k : Nat} {p : Prop} (h : k <= 2) (h0 : k = 0 -> p) (h1 : k = 1 -> p) (h2 : k = 2 -> p) : p := by
 rcases (by omega : k = 0 \/ k = 1 \/ k = 2) with e | e | e
 ·exact h0 e
 ·exact h1 e
 ·exact h2 e
theorem orN3 {k : Nat} {p : Prop} (h : k <= 3) (h0 : k = 0 -> p) (h1 : k = 1 -> p) (h2 : k = 2 -> p) (h3 : k = 3 -> p) : p := by
 rcases (by omega : k = 0 \/ k = 1 \/ k = 2 \/ k = 3) with e | e | e | e
 ·exact h0 e
 ·exact h1 e
 ·exact h2 e
 ·exact h3 e
theorem zeV (id dr : Int) (b : Ba) (inb : List Mg) (p0 p1 p2 : Pt) (hm : ∀ p ∈ [p0, p1, p2], 0 <= p.m /\ p.m <= 20) : Fn Tryz.prog 91 [.box 0 0] (rtM ⟨id, [p0, p1, p2], b, inb, dr⟩ 0) (.sl 2 ((za8 [p0, p1, p2]).map opRow) none) (rtM ⟨id, [p0, p1, p2], b, inb, dr⟩ 0) := by
 simp only [rtM, rtH, zaD, rtP, prQ]
 refine foA zaA [] [] Tryz.func91 Tryz.ntmps91 Tryz.results91 ?_
 (all_goals refine gv ?_)
 refine lpG (fun n : Nat => ⟨[(0, .box 0 0), (3, .sl 2 ((edgN [p0, p1, p2] n).map opRow) (some (16, 1))), (4, .v (.int .i64 (n + 1)))], rtM ⟨id, [p0, p1, p2], b, inb, dr⟩ 0 ++ [.grow 57 2 1]⟩) (fun n => n <= 6) (fun n => 6 - n) 0 (by omega) (by
  refine AS.le_trans (ze3 3 57 2 rfl) ?_
  simp only [rtM, rtH, zaD, rtP, prQ]
  (refine zaC [0, 1, 2, 3, 4, 5, 6, 7, 8, 9, 10, 11, 12, 13, 14, 15, 16] ?_;repeat' first|exact .intro|refine Tw.mk ?_ ?_)) ?_
 rintro n hn
 have hel := zdb [p0, p1, p2] n
 by_cases hn' : n < 6
 ·have hnn := (zmW (n := ((n : Int) + 1)) hm)
  have hE : edgN [p0, p1, p2] (n + 1) = edgN [p0, p1, p2] n ++ if 0 < zbw [p0, p1, p2] ((n : Int) + 1) then [((n : Int) + 1, zbw [p0, p1, p2] ((n : Int) + 1))] else [] := rfl
  have s0 := zdp [] p0 ((n : Int) + 1)
  rw [show [] ++ [p0] = [p0] from rfl] at s0
  have s1 := zdp [p0] p1 ((n : Int) + 1)
  rw [show [p0] ++ [p1] = [p0, p1] from rfl] at s1
  have s2 := zdp [p0, p1] p2 ((n : Int) + 1)
  rw [show [p0, p1] ++ [p2] = [p0, p1, p2] from rfl] at s2
  rw [show zbw [] ((n : Int) + 1) = 0 from rfl] at s0
  generalize zbw [p0] ((n : Int) + 1) = L1 at *
  generalize zbw [p0, p1] ((n : Int) + 1) = L2 at *
  generalize zbw [p0, p1, p2] ((n : Int) + 1) = L3 at *
  generalize edgN [p0, p1, p2] n = E at *
  simp only [rtM, rtH, zaD, rtP, prQ]
  (all_goals refine gv ?_;repeat' first|exact .intro|refine Tw.mk ?_ ?_|(intro h;first|replace h:=h.o|cases h))
  refine lpG2 (fun (k : Nat) (L : Int) => ⟨[(0, .box 0 0), (3, .sl 2 (E.map opRow) (some (16, 1))), (4, .v (.int .i64 (n + 1))), (5, .v (.int .i64 L)), (15, .arr 1 0 3), (16, .v (.int .i64 3)), (17, .v (.int .i64 k))], rtM ⟨id, [p0, p1, p2], b, inb, dr⟩ 0 ++ [.grow 57 2 1]⟩) (fun k L => k <= 3 /\ L = [0, L1, L2, L3].getD k 0) (fun k _ => 3 - k) 0 0 ⟨by omega, rfl⟩ (by
   simp only [rtM, rtH, zaD, rtP, prQ]
   (refine zaC [0, 1, 2, 3, 4, 5, 6, 7, 8, 9, 10, 11, 12, 13, 14, 15, 16] ?_;repeat' first|exact .intro|refine Tw.mk ?_ ?_)) ?_
  rintro k L ⟨hk, hL⟩
  refine orN3 hk (fun e => ?_) (fun e => ?_) (fun e => ?_) (fun e => ?_)
  ·subst e
   obtain rfl : (0 : Int) = L := hL.symm
   simp only [rtM, rtH, zaD, rtP, prQ]
   (all_goals refine fv ?_;repeat' first|exact .intro|refine Tw.mk ?_ ?_|(intro h;first|replace h:=h.o|cases h))
   all_goals (refine za1 1 L1 ⟨by omega, rfl⟩ (by omega) (by (refine zaC [0, 1, 2, 3, 4, 5, 6, 7, 8, 9, 10, 11, 12, 13, 14, 15, 16] ?_;repeat' first|exact .intro|refine Tw.mk ?_ ?_); all_goals (all_goals (try first | rfl | (show p0.m = L1; rw [s0, if_pos ⟨by assumption, by assumption, by omega⟩]; done) | (show 0 = L1; rw [s0, if_neg (by rintro ⟨a1, a2, a3⟩; first | contradiction | omega | exact absurd (a1.symm.trans (show _ = false by assumption)) (by decide))]; done)))))
  ·subst e
   obtain rfl : (L1 : Int) = L := hL.symm
   simp only [rtM, rtH, zaD, rtP, prQ]
   (all_goals refine fv ?_;repeat' first|exact .intro|refine Tw.mk ?_ ?_|(intro h;first|replace h:=h.o|cases h))
   all_goals (refine za1 2 L2 ⟨by omega, rfl⟩ (by omega) (by (refine zaC [0, 1, 2, 3, 4, 5, 6, 7, 8, 9, 10, 11, 12, 13, 14, 15, 16] ?_;repeat' first|exact .intro|refine Tw.mk ?_ ?_); all_goals (all_goals (try first | rfl | (show p1.m = L2; rw [s1, if_pos ⟨by assumption, by assumption, by omega⟩]; done) | (show L1 = L2; rw [s1, if_neg (by rintro ⟨a1, a2, a3⟩; first | contradiction | omega | exact absurd (a1.symm.trans (show _ = false by assumption)) (by decide))]; done)))))
  ·subst e
   obtain rfl : (L2 : Int) = L := hL.symm
   simp only [rtM, rtH, zaD, rtP, prQ]
   (all_goals refine fv ?_;repeat' first|exact .intro|refine Tw.mk ?_ ?_|(intro h;first|replace h:=h.o|cases h))
   all_goals (refine za1 3 L3 ⟨by omega, rfl⟩ (by omega) (by (refine zaC [0, 1, 2, 3, 4, 5, 6, 7, 8, 9, 10, 11, 12, 13, 14, 15, 16] ?_;repeat' first|exact .intro|refine Tw.mk ?_ ?_); all_goals (all_goals (try first | rfl | (show p2.m = L3; rw [s2, if_pos ⟨by assumption, by assumption, by omega⟩]; done) | (show L2 = L3; rw [s2, if_neg (by rintro ⟨a1, a2, a3⟩; first | contradiction | omega | exact absurd (a1.symm.trans (show _ = false by assumption)) (by decide))]; done)))))
  ·subst e
   obtain rfl : L3 = L := hL.symm
   simp only [rtM, rtH, zaD, rtP, prQ]
   (all_goals refine fv ?_;repeat' first|exact .intro|refine Tw.mk ?_ ?_|(intro h;first|replace h:=h.o|cases h))
   all_goals (refine zaO (n + 1) (by omega) (by omega) (by
    rw [hE]
    (refine zaC [0, 1, 2, 3, 4, 5, 6, 7, 8, 9, 10, 11, 12, 13, 14, 15, 16] ?_;repeat' first|exact .intro|refine Tw.mk ?_ ?_); all_goals (all_goals (try first | rfl | (rw [if_pos (by assumption)]; simp [opRow, viewR, viewL, AV.view]; done) | (rw [if_neg (by omega), List.append_nil]; done)))))
 ·have e : n = 6 := by omega
  subst e
  simp only [rtM, rtH, zaD, rtP, prQ]
  (all_goals refine gv ?_;repeat' first|exact .intro|refine Tw.mk ?_ ?_|(intro h;first|replace h:=h.o|cases h))
  all_goals exact Y4
theorem zk6 {b : Ba} (h : b.ok) (n : Int) : 0 <= (stO (b.kn n)).2.1 := by
 cases hk : b.kn n with
 | none => simp [stO]
 | some s =>
  have hg := zaK (show zaL s.1 s.2.1 s.2.2 = 0 from (h.kn n s hk).2)
  simp only [stO, Option.getD_some]; omega
theorem zo1 (la lb : List (Int × Int)) : Fn Tryz.prog 92 [.sl 2 (la.map opRow) none, .sl 2 (lb.map opRow) none] [] (.v (.bool (la == lb))) [] := by
 refine ziD ⟨_, Tryz.func92, rfl, by decide +kernel⟩ 0 rfl fun ha => ?_
 simp only [List.length_map, maxLen] at ha
 refine foA zaA [] [] Tryz.func92 Tryz.ntmps92 Tryz.results92 ?_
 (all_goals refine gv ?_;repeat' first|exact .intro|refine Tw.mk ?_ ?_|(intro h;first|replace h:=h.o|cases h))
 ·exact Y52
 refine lpG (fun k : Nat => ⟨[(0, .sl 2 (la.map opRow) none), (1, .sl 2 (lb.map opRow) none), (12, .v (.int .i64 la.length)), (13, .v (.int .i64 k))], []⟩) (fun k => k <= la.length /\ ∀ i, i < k -> la[i]? = lb[i]?) (fun k => la.length - k) 0 ⟨by omega, fun i h => by omega⟩ (by (refine zaC [] ?_;repeat' first|exact .intro|refine Tw.mk ?_ ?_); all_goals (all_goals (try simp))) ?_
 rintro k ⟨hk, hp⟩
 ((all_goals (try (repeat' (conv => whnf); (first | with_reducible refine And.intro ?_ ?_ | with_reducible exact True.intro | (intro h; (first | cases h | ((try simp only [vis, Int.reduceToNat] at h); (try (exfalso; omega))))) | (with_reducible refine Vc.mk ?_; fail) | (with_reducible refine cutG ?_; fail) | refine zal ?_ ?_ | refine za2 ?_ ?_ ?_ | (refine ne_edge ?_))))); (all_goals (first | omega | (conv => whnf) | skip)))
 all_goals (try ((with_reducible refine Vc.mk ?_);(try exact GLt)))
 ·exact Y50
 ·exact Y53
 ·exact Y35
def tellPl : List (Nat × Pl) := [(0, .op 0 (.op 1 (.op 2 (.op 3 (.op 4 (.op 5 (.op 6 (.op 7 (.br 8 (.op 9 (.op 10 (.op 11 (.op 12 (.op 13 (.op 14 (.done))))))) 12 (.op 8 (.op 9 (.op 10 (.op 11 (.op 13 (.op 14 (.done)))))))))))))))), (3, .op 0 (.op 1 (.op 2 (.op 3 (.op 4 (.op 5 (.op 6 (.op 7 (.op 8 (.op 9 (.op 10 (.op 11 (.op 12 (.op 13 (.done)))))))))))))))]
theorem zhh (id dr : Int) (b : Ba) (hb : b.ok) (inb : List Mg) (p0 p1 p2 : Pt) (hm : ∀ p ∈ [p0, p1, p2], 0 <= p.m /\ p.m <= 20) : Fn Tryz.prog 71 [.box 0 0] (rtM ⟨id, [p0, p1, p2], b, inb, dr⟩ 0) (.tup []) (rtM (zbm ⟨id, [p0, p1, p2], b, inb, dr⟩) 0) := by
 have g := zh4 hb id
 have e := zeV id dr b inb p0 p1 p2 hm
 have q := zo1 (stO (b.kn id)).2.2 (za8 [p0, p1, p2])
 have hel : (za8 [p0, p1, p2]).length <= 6 := zdb _ 6
 have st := zgs hb (id, (stO (b.kn id)).2.1 + 1, za8 [p0, p1, p2]) (by show (za8 [p0, p1, p2]).length <= _; omega)
 have hd : zbm ⟨id, [p0, p1, p2], b, inb, dr⟩ = if (stO (b.kn id)).2.2 ≠ za8 [p0, p1, p2] /\ (stO (b.kn id)).2.1 < 1000000 then ⟨id, [p0, p1, p2], setB b (id, (stO (b.kn id)).2.1 + 1, za8 [p0, p1, p2]), inb, dr⟩ else ⟨id, [p0, p1, p2], b, inb, dr⟩ := rfl
 have hsq := zk6 hb id
 unfold zaF at g st
 rw [hd]
 clear hd
 generalize za8 [p0, p1, p2] = E at *
 generalize sf (id, (stO (b.kn id)).2.1 + 1, E) = F at *
 generalize setB b (id, (stO (b.kn id)).2.1 + 1, E) = B at *
 generalize stO (b.kn id) = O at *
 obtain ⟨o, s, l⟩ := O
 dsimp only at *
 refine foP zaA (tellPl) [] [1] Tryz.func71 Tryz.ntmps71 Tryz.results71 ?_
 simp only [rtM, rtH, zaD, rtP, prQ] at e ⊢
 (all_goals refine gv ?_)
 refine cutK ⟨[(0, .box 0 0), (2, .box 16 0)], rtM ⟨id, [p0, p1, p2], b, inb, dr⟩ 0 ++ [.cells [.v (.int .i64 o), .v (.int .i64 s), .sl 2 (l.map opRow) none]]⟩ ?_ (fun hy => ?_)
 ·clear g
  simp only [rtM, rtH, zaD, rtP, prQ]
  (all_goals refine gv ?_)
  (refine StopCall.fz zaP (e) ?_;(all_goals refine lv ?_))
  clear e
  by_cases hc : l ≠ E /\ s < 1000000
  ·rw [if_pos hc]
   rw [show (l == E) = false from by simpa using hc.1] at q
   have hc2 := hc.2
   simp only [rtM, rtH, zaD, rtP, prQ]
   (all_goals (try ((first|refine StopCall.by0 (q) ?_|refine StopPure.by0 (q) ?_);(all_goals refine gv ?_;repeat' first|exact .intro|refine Tw.mk ?_ ?_|(intro h;first|replace h:=h.o|cases h)))))
   all_goals ((refine StopCall.fz [2] (st) ?_;(all_goals refine lv ?_)))
   all_goals exact Y1
  ·rw [if_neg hc]
   by_cases hl : l = E
   ·rw [show (l == E) = true from by simpa using hl] at q
    simp only [rtM, rtH, zaD, rtP, prQ]
    (all_goals (try ((first|refine StopCall.by0 (q) ?_|refine StopPure.by0 (q) ?_);(all_goals refine gv ?_;repeat' first|exact .intro|refine Tw.mk ?_ ?_|(intro h;first|replace h:=h.o|cases h)))))
    all_goals exact Y1
   ·have hs : 1000000 <= s := by
     rcases Classical.em (s < 1000000) with h | h
     ·exact absurd ⟨hl, h⟩ hc
     ·omega
    rw [show (l == E) = false from by simpa using hl] at q
    simp only [rtM, rtH, zaD, rtP, prQ]
    (all_goals (try ((first|refine StopCall.by0 (q) ?_|refine StopPure.by0 (q) ?_);(all_goals refine gv ?_;repeat' first|exact .intro|refine Tw.mk ?_ ?_|(intro h;first|replace h:=h.o|cases h)))))
    all_goals exact Y1
 ·simp only [rtM, rtH, zaD, rtP, prQ] at hy
  (all_goals refine gv ?_;repeat' first|exact .intro|refine Tw.mk ?_ ?_|(intro h;first|replace h:=h.o|cases h))
  all_goals ((refine StopCall.fz [2] (g) ?_;(all_goals refine lv ?_)))
  all_goals (exact ⟨_, by (refine zaC [0, 1, 2, 3, 4, 5, 6, 7, 8, 9, 10, 11, 12, 13, 14, 15, 16] ?_;repeat' first|exact .intro|refine Tw.mk ?_ ?_), hy⟩)
def rtO (r : Rt) : Res := .obj (zbq (rtM r 0))
theorem rm_rt10 (id dr : Int) (b : Ba) (inb : List Mg) (p0 : Pt) : RM (rtM ⟨id, [p0], b, inb, dr⟩ 0) (rtM ⟨id, [p0], b, inb, dr⟩ 0) ids8 ids8 (rtM ⟨id, [p0], b, inb, dr⟩ 0) := grt
theorem rm_rg10 (id dr : Int) (b : Ba) (inb : List Mg) (p0 : Pt) : RM (rtM ⟨id, [p0], b, inb, dr⟩ 0) [.gone] [0] [0] [.gone] := grt
theorem rm_rt11 (id dr : Int) (b : Ba) (inb : List Mg) (p0 : Pt) : RM (rtM ⟨id, [p0], b, inb, dr⟩ 1) (rtM ⟨id, [p0], b, inb, dr⟩ 0) ids8 ids8 (rtM ⟨id, [p0], b, inb, dr⟩ 0) := grt
theorem rm_rg11 (id dr : Int) (b : Ba) (inb : List Mg) (p0 : Pt) : RM (rtM ⟨id, [p0], b, inb, dr⟩ 1) [.gone] [0] [0] [.gone] := grt
theorem rm_rt20 (id dr : Int) (b : Ba) (inb : List Mg) (p0 p1 : Pt) : RM (rtM ⟨id, [p0, p1], b, inb, dr⟩ 0) (rtM ⟨id, [p0, p1], b, inb, dr⟩ 0) zlr zlr (rtM ⟨id, [p0, p1], b, inb, dr⟩ 0) := grt
theorem rm_rg20 (id dr : Int) (b : Ba) (inb : List Mg) (p0 p1 : Pt) : RM (rtM ⟨id, [p0, p1], b, inb, dr⟩ 0) [.gone] [0] [0] [.gone] := grt
theorem rm_rt21 (id dr : Int) (b : Ba) (inb : List Mg) (p0 p1 : Pt) : RM (rtM ⟨id, [p0, p1], b, inb, dr⟩ 1) (rtM ⟨id, [p0, p1], b, inb, dr⟩ 0) zlr zlr (rtM ⟨id, [p0, p1], b, inb, dr⟩ 0) := grt
theorem rm_rg21 (id dr : Int) (b : Ba) (inb : List Mg) (p0 p1 : Pt) : RM (rtM ⟨id, [p0, p1], b, inb, dr⟩ 1) [.gone] [0] [0] [.gone] := grt
theorem zob (id dr : Int) (b : Ba) (inb : List Mg) (p0 p1 p2 : Pt) : RM (rtM ⟨id, [p0, p1, p2], b, inb, dr⟩ 0) (rtM ⟨id, [p0, p1, p2], b, inb, dr⟩ 0) zaP zaP (rtM ⟨id, [p0, p1, p2], b, inb, dr⟩ 0) := grt
theorem rm_rg30 (id dr : Int) (b : Ba) (inb : List Mg) (p0 p1 p2 : Pt) : RM (rtM ⟨id, [p0, p1, p2], b, inb, dr⟩ 0) [.gone] [0] [0] [.gone] := grt
theorem rm_rt31 (id dr : Int) (b : Ba) (inb : List Mg) (p0 p1 p2 : Pt) : RM (rtM ⟨id, [p0, p1, p2], b, inb, dr⟩ 1) (rtM ⟨id, [p0, p1, p2], b, inb, dr⟩ 0) zaP zaP (rtM ⟨id, [p0, p1, p2], b, inb, dr⟩ 0) := grt
theorem rm_rg31 (id dr : Int) (b : Ba) (inb : List Mg) (p0 p1 p2 : Pt) : RM (rtM ⟨id, [p0, p1, p2], b, inb, dr⟩ 1) [.gone] [0] [0] [.gone] := grt
def Rt.np (r : Rt) : Prop := r.ps.length = 1 \/ r.ps.length = 2 \/ r.ps.length = 3
theorem np_lit {p : Rt -> Prop} (h1 : ∀ id p0 b inb dr, p ⟨id, [p0], b, inb, dr⟩) (h2 : ∀ id p0 p1 b inb dr, p ⟨id, [p0, p1], b, inb, dr⟩) (h3 : ∀ id p0 p1 p2 b inb dr, p ⟨id, [p0, p1, p2], b, inb, dr⟩) (r : Rt) (hr : r.np) : p r := by
 obtain ⟨id, ps, b, inb, dr⟩ := r
 rcases hr with h | h | h
 ·obtain ⟨p0, rfl⟩ := len1 h; exact h1 ..
 ·obtain ⟨p0, p1, rfl⟩ := len2 h; exact h2 ..
 ·obtain ⟨p0, p1, p2, rfl⟩ := len3 h; exact h3 ..
theorem ren_rt : ∀ r : Rt, r.np -> [] ++ zbI (extG 0 (rtM r 0).length) (rtM r 0) = rtM r 0 :=
 np_lit (fun _ _ _ _ _ => rfl) (fun _ _ _ _ _ _ => rfl) (fun _ _ _ _ _ _ _ => rfl)
theorem zcL {f : FuncId} {args : List AV} {r : AV} {q q' : Rt} {g : Nat} (hF : Fn Tryz.prog f args (rtM q 0) r (rtM q' g)) (hg : g <= 1) (hq : q.np) (hq' : q'.np) (hr : r.free = true) : Fn Tryz.prog f args [rtO q] r [rtO q'] := by
 have hF' : Fn Tryz.prog f args ([] ++ zbI (extG 0 (rtM q 0).length) (rtM q 0)) r (rtM q' g) := by rw [ren_rt q hq]; exact hF
 clear hF
 revert hF'
 refine np_lit (p := fun q' => Fn Tryz.prog f args ([] ++ zbI (extG 0 (rtM q 0).length) (rtM q 0)) r (rtM q' g) -> Fn Tryz.prog f args [rtO q] r [rtO q']) ?_ ?_ ?_ q' hq'
 ·intro id p0 b inb dr hF
  rcases (by omega : g = 0 \/ g = 1) with rfl | rfl
  ·exact za7 (pre := []) (mt := [.gone]) (ρ := [0]) (κ := ids8) (L := 0) hF rfl rfl rfl rfl (rm_rg10 ..) (rm_rt10 ..) (zay hr) rfl rfl rfl rfl rfl
  ·exact za7 (pre := []) (mt := [.gone]) (ρ := [0]) (κ := ids8) (L := 0) hF rfl rfl rfl rfl (rm_rg11 ..) (rm_rt11 ..) (zay hr) rfl rfl rfl rfl rfl
 ·intro id p0 p1 b inb dr hF
  rcases (by omega : g = 0 \/ g = 1) with rfl | rfl
  ·exact za7 (pre := []) (mt := [.gone]) (ρ := [0]) (κ := zlr) (L := 0) hF rfl rfl rfl rfl (rm_rg20 ..) (rm_rt20 ..) (zay hr) rfl rfl rfl rfl rfl
  ·exact za7 (pre := []) (mt := [.gone]) (ρ := [0]) (κ := zlr) (L := 0) hF rfl rfl rfl rfl (rm_rg21 ..) (rm_rt21 ..) (zay hr) rfl rfl rfl rfl rfl
 ·intro id p0 p1 p2 b inb dr hF
  rcases (by omega : g = 0 \/ g = 1) with rfl | rfl
  ·exact za7 (pre := []) (mt := [.gone]) (ρ := [0]) (κ := zaP) (L := 0) hF rfl rfl rfl rfl (rm_rg30 ..) (zob ..) (zay hr) rfl rfl rfl rfl rfl
  ·exact za7 (pre := []) (mt := [.gone]) (ρ := [0]) (κ := zaP) (L := 0) hF rfl rfl rfl rfl (rm_rg31 ..) (rm_rt31 ..) (zay hr) rfl rfl rfl rfl rfl
theorem zn6 (id dr : Int) (b : Ba) (inb : List Mg) (p0 p1 p2 : Pt) : Fn Tryz.prog 51 [.box 0 0] [rtO ⟨id, [p0, p1, p2], b, inb, dr⟩] (.arr 1 0 inb.length) [rtO ⟨id, [p0, p1, p2], b, [], dr⟩, .arr true 67 3 0 (inb.map zdt)] := by
 have h : Fn Tryz.prog 51 [.box 0 0] ([] ++ zbI (extG 0 (rtM ⟨id, [p0, p1, p2], b, inb, dr⟩ 0).length) (rtM ⟨id, [p0, p1, p2], b, inb, dr⟩ 0)) (.arr 3 0 inb.length) (((rtH ⟨id, [p0, p1, p2], b, inb, dr⟩ 0 (zaD 4 [p0, p1, p2])).set 0 (.cells [.v (.int .i64 id), .arr 1 0 3, .box 2 0, .arr 16 0 0, .v (.int .i64 dr)])) ++ rtP 4 [p0, p1, p2] 0 ++ [.arr true 67 3 0 []]) := by
  rw [ren_rt _ (by unfold Rt.np; simp)]
  simp only [rtM, rtH, zaD, rtP, prQ]
  refine foL zaA [] [] Tryz.func51 Tryz.ntmps51 Tryz.results51 ?_
  (all_goals refine fv ?_)
  (first | refine .mk ⟨_, za0 true 0 3 67 3 _ rfl rfl, ?_⟩ | refine ⟨_, za0 true 0 3 67 3 _ rfl rfl, ?_⟩)
  simp only [List.set_cons_zero, List.set_cons_succ]
  ((try (conv => whnf));refine StopRet.by [0, 1, 2, 3, 4, 5, 6, 7, 8, 9, 10, 11, 12, 13, 14, 15, 16] ?_;repeat' first|exact .intro|refine Tw.mk ?_ ?_)
 exact za7 (pre := []) (mt := [.gone, .arr true 67 3 0 (inb.map zdt)]) (m' := rtM ⟨id, [p0, p1, p2], b, [], dr⟩ 0) (ρ := [0, 3]) (κ := [0, 1, 2, 16, 4, 5, 6, 7, 8, 9, 10, 11, 12, 13, 14, 15]) (L := 0) h rfl rfl rfl rfl grt grt grt rfl rfl rfl rfl rfl
def newK (m : Int) : Lk := doL (newL 255 m) 2
def newPt (id i m : Int) : Pt := ⟨m, newK (8 * id + i + 1), rd0, [], peNo, []⟩
def znd (id : Int) : Int -> List Int -> List Pt
 | _, [] => []
 | i, m :: ms => newPt id i m :: znd id (i + 1) ms
def newR (id : Int) (ms : List Int) : Rt := ⟨id, znd id 0 ms, setB (newB ms.length) (id, 1, []), [], 0⟩
theorem zby {id k : Int} (h : 1 <= id /\ id <= 6) (hk : 0 <= k /\ k <= 2) : zea 255 (8 * id + k + 1) = true := zc3.2 (by omega)
theorem newK_st (m : Int) : (newK m).st = 1 /\ (newK m).out = [] := ⟨rfl, rfl⟩
theorem newK_fit {m : Int} (h : zea 255 m = true) : (newK m).fit 0 := (zdg (e := 2) (fit_new h) (by decide)).low (by show (((newK m).out.length : Nat) : Int) <= 0; rw [(newK_st m).2]; decide)
theorem znW {id i m : Int} (h : 1 <= id /\ id <= 6) (hi : 0 <= i /\ i <= 2) (hm : 1 <= m /\ m <= 20) : (newPt id i m).fine 0 := ⟨by show 0 <= m /\ m <= 20; omega, newK_fit (zby h hi), rd0_ok, zfB, Nat.le_refl _⟩
theorem new_ok3 (id m0 m1 m2 : Int) (hid : 1 <= id /\ id <= 6) (hm : (1 <= m0 /\ m0 <= 20) /\ (1 <= m1 /\ m1 <= 20) /\ (1 <= m2 /\ m2 <= 20)) : Fn Tryz.prog 29 [.v (.int .i64 id), .sl 1 ([m0, m1, m2].map iRow) none] [] (.tup [.box 0 0, .err 0]) (rtM (newR id [m0, m1, m2]) 0) := by
 have hb := xnew_ok 3 (by decide) (by decide)
 have hs := zgs (zn7 (n := 3) (by decide) (by decide)) (id, 1, []) (Nat.zero_le _)
 rw [show sf (id, 1, []) = 0 from by
  rcases (by omega : id = 1 \/ id = 2 \/ id = 3 \/ id = 4 \/ id = 5 \/ id = 6) with rfl | rfl | rfl | rfl | rfl | rfl <;> rfl] at hs
 rw [show rtM (newR id [m0, m1, m2]) 0 = rtM ⟨id, [⟨m0, newK (8 * id + 0 + 1), rd0, [], peNo, []⟩, ⟨m1, newK (8 * id + 1 + 1), rd0, [], peNo, []⟩, ⟨m2, newK (8 * id + 2 + 1), rd0, [], peNo, []⟩], setB (newB 3) (id, 1, []), [], 0⟩ 0 from rfl]
 generalize setB (newB 3) (id, 1, []) = B1 at *
 unfold zaF at hs
 refine foL zaA [] [] Tryz.func29 Tryz.ntmps29 Tryz.results29 ?_
 (all_goals refine fv ?_;repeat' first|exact .intro|refine Tw.mk ?_ ?_|(intro h;first|replace h:=h.o|cases h))
 all_goals ((refine StopCall.fz [] (hb) ?_;(all_goals refine lv ?_;repeat' first|exact .intro|refine Tw.mk ?_ ?_|(intro h;first|replace h:=h.o|cases h))))
 refine lpG (fun k : Nat => (match k with | 0 => ⟨[(0, .v (.int .i64 id)), (6, .box 0 0), (8, .box 1 0), (33, .sl 1 ([m0, m1, m2].map iRow) none), (34, .v (.int .i64 3)), (35, .v (.int .i64 0))], [baR (newB 3), .cells [.v (.int .i64 id), .arr 2 0 0, .box 0 0, .v (.slice none 0 0), .v (.int .i64 0)], .arr false 97 1 0 []]⟩ | 1 => ⟨[(0, .v (.int .i64 id)), (6, .box 0 0), (8, .box 1 0), (33, .sl 1 ([m0, m1, m2].map iRow) none), (34, .v (.int .i64 3)), (35, .v (.int .i64 1))], [baR (newB 3), .cells [.v (.int .i64 id), .arr 2 1 1, .box 0 0, .v (.slice none 0 0), .v (.int .i64 0)], .arr false 97 1 1 [[.box 4 0]], lkR (newK (8 * id + 0 + 1)), .cells [.v (.int .i64 m0), .box 3 0, .v (.slice none 0 0), .v (.bool false), .v (.bool false), .v (.int .i64 0), .v (.bool false), .v (.int .i64 0), .v (.slice none 0 0)]]⟩ | 2 => ⟨[(0, .v (.int .i64 id)), (6, .box 0 0), (8, .box 1 0), (33, .sl 1 ([m0, m1, m2].map iRow) none), (34, .v (.int .i64 3)), (35, .v (.int .i64 2))], [baR (newB 3), .cells [.v (.int .i64 id), .arr 2 1 2, .box 0 0, .v (.slice none 0 0), .v (.int .i64 0)], .arr false 97 1 1 [[.box 4 0], [.box 6 0]], lkR (newK (8 * id + 0 + 1)), .cells [.v (.int .i64 m0), .box 3 0, .v (.slice none 0 0), .v (.bool false), .v (.bool false), .v (.int .i64 0), .v (.bool false), .v (.int .i64 0), .v (.slice none 0 0)], lkR (newK (8 * id + 1 + 1)), .cells [.v (.int .i64 m1), .box 5 0, .v (.slice none 0 0), .v (.bool false), .v (.bool false), .v (.int .i64 0), .v (.bool false), .v (.int .i64 0), .v (.slice none 0 0)]]⟩ | _ => ⟨[(0, .v (.int .i64 id)), (6, .box 0 0), (8, .box 1 0), (33, .sl 1 ([m0, m1, m2].map iRow) none), (34, .v (.int .i64 3)), (35, .v (.int .i64 3))], [baR (newB 3), .cells [.v (.int .i64 id), .arr 2 1 3, .box 0 0, .v (.slice none 0 0), .v (.int .i64 0)], .arr false 97 1 1 [[.box 4 0], [.box 6 0], [.box 8 0]], lkR (newK (8 * id + 0 + 1)), .cells [.v (.int .i64 m0), .box 3 0, .v (.slice none 0 0), .v (.bool false), .v (.bool false), .v (.int .i64 0), .v (.bool false), .v (.int .i64 0), .v (.slice none 0 0)], lkR (newK (8 * id + 1 + 1)), .cells [.v (.int .i64 m1), .box 5 0, .v (.slice none 0 0), .v (.bool false), .v (.bool false), .v (.int .i64 0), .v (.bool false), .v (.int .i64 0), .v (.slice none 0 0)], lkR (newK (8 * id + 2 + 1)), .cells [.v (.int .i64 m2), .box 7 0, .v (.slice none 0 0), .v (.bool false), .v (.bool false), .v (.int .i64 0), .v (.bool false), .v (.int .i64 0), .v (.slice none 0 0)]]⟩ : AS)) (fun k => k <= 3) (fun k => 3 - k) 0 (by omega) (AS.le_trans (za0 false 1 1 97 1 _ rfl rfl) (by
  simp only [List.set_cons_zero, List.set_cons_succ]
  (refine zaC [0, 1, 2] ?_;repeat' first|exact .intro|refine Tw.mk ?_ ?_))) ?_
 rintro k hk
 refine orN3 hk (fun e => ?_) (fun e => ?_) (fun e => ?_) (fun e => ?_)
 ·subst e
  have ln := zhc 255 (8 * id + 0 + 1) (zby hid (by decide))
  have ld := zbl (newL 255 (8 * id + 0 + 1)) ((zjj (zby hid (by decide))).mono (by decide)) 2
  rw [show doL (newL 255 (8 * id + 0 + 1)) 2 = newK (8 * id + 0 + 1) from rfl] at ld
  (all_goals refine fv ?_;repeat' first|exact .intro|refine Tw.mk ?_ ?_|(intro h;first|replace h:=h.o|cases h))
  all_goals ((refine StopCall.fz [] (ln) ?_;(all_goals refine lv ?_;repeat' first|exact .intro|refine Tw.mk ?_ ?_|(intro h;first|replace h:=h.o|cases h))))
  all_goals ((refine StopCall.fz [3] (ld) ?_;(all_goals refine lv ?_;repeat' first|exact .intro|refine Tw.mk ?_ ?_|(intro h;first|replace h:=h.o|cases h))))
  all_goals (refine zaO 1 (by omega) (by omega) (by (refine zaC [0, 1, 2, 3, 4] ?_;repeat' first|exact .intro|refine Tw.mk ?_ ?_)))
 ·subst e
  have ln := zhc 255 (8 * id + 1 + 1) (zby hid (by decide))
  have ld := zbl (newL 255 (8 * id + 1 + 1)) ((zjj (zby hid (by decide))).mono (by decide)) 2
  rw [show doL (newL 255 (8 * id + 1 + 1)) 2 = newK (8 * id + 1 + 1) from rfl] at ld
  (all_goals refine fv ?_;repeat' first|exact .intro|refine Tw.mk ?_ ?_|(intro h;first|replace h:=h.o|cases h))
  all_goals ((refine StopCall.fz [] (ln) ?_;(all_goals refine lv ?_;repeat' first|exact .intro|refine Tw.mk ?_ ?_|(intro h;first|replace h:=h.o|cases h))))
  all_goals ((refine StopCall.fz [5] (ld) ?_;(all_goals refine lv ?_;repeat' first|exact .intro|refine Tw.mk ?_ ?_|(intro h;first|replace h:=h.o|cases h))))
  all_goals (refine zaO 2 (by omega) (by omega) (by (refine zaC [0, 1, 2, 3, 4, 5, 6] ?_;repeat' first|exact .intro|refine Tw.mk ?_ ?_)))
 ·subst e
  have ln := zhc 255 (8 * id + 2 + 1) (zby hid (by decide))
  have ld := zbl (newL 255 (8 * id + 2 + 1)) ((zjj (zby hid (by decide))).mono (by decide)) 2
  rw [show doL (newL 255 (8 * id + 2 + 1)) 2 = newK (8 * id + 2 + 1) from rfl] at ld
  (all_goals refine fv ?_;repeat' first|exact .intro|refine Tw.mk ?_ ?_|(intro h;first|replace h:=h.o|cases h))
  all_goals ((refine StopCall.fz [] (ln) ?_;(all_goals refine lv ?_;repeat' first|exact .intro|refine Tw.mk ?_ ?_|(intro h;first|replace h:=h.o|cases h))))
  all_goals ((refine StopCall.fz [7] (ld) ?_;(all_goals refine lv ?_;repeat' first|exact .intro|refine Tw.mk ?_ ?_|(intro h;first|replace h:=h.o|cases h))))
  all_goals (refine zaO 3 (by omega) (by omega) (by (refine zaC [0, 1, 2, 3, 4, 5, 6, 7, 8] ?_;repeat' first|exact .intro|refine Tw.mk ?_ ?_)))
 ·subst e
  (all_goals refine fv ?_;repeat' first|exact .intro|refine Tw.mk ?_ ?_|(intro h;first|replace h:=h.o|cases h))
  all_goals ((refine StopCall.fz [0] (hs) ?_;(all_goals refine lv ?_)))
  (first | refine .mk ⟨_, (AS.le_trans (AS.le_trans (AS.le_trans (AS.le_trans (AS.le_trans (AS.le_trans (za0 true 1 3 67 3 _ rfl rfl) (za0 true 4 2 5 1 _ rfl rfl)) (za0 true 4 8 5 1 _ rfl rfl)) (za0 true 6 2 5 1 _ rfl rfl)) (za0 true 6 8 5 1 _ rfl rfl)) (za0 true 8 2 5 1 _ rfl rfl)) (za0 true 8 8 5 1 _ rfl rfl)), ?_⟩ | refine ⟨_, (AS.le_trans (AS.le_trans (AS.le_trans (AS.le_trans (AS.le_trans (AS.le_trans (za0 true 1 3 67 3 _ rfl rfl) (za0 true 4 2 5 1 _ rfl rfl)) (za0 true 4 8 5 1 _ rfl rfl)) (za0 true 6 2 5 1 _ rfl rfl)) (za0 true 6 8 5 1 _ rfl rfl)) (za0 true 8 2 5 1 _ rfl rfl)) (za0 true 8 8 5 1 _ rfl rfl)), ?_⟩)
  simp only [rtM, rtH, zaD, rtP, prQ, List.set_cons_zero, List.set_cons_succ, List.cons_append, List.nil_append]
  ((try (conv => whnf));refine StopRet.by [1, 2, 0, 9, 4, 3, 10, 11, 6, 5, 12, 13, 8, 7, 14, 15] ?_;repeat' first|exact .intro|refine Tw.mk ?_ ?_)
end Go.Proofs.YtimfnpjcedjmiadGreat
