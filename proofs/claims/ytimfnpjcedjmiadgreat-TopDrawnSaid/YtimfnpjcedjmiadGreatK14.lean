/- Lemmas. -/
import Derived.Test.YtimfnpjcedjmiadGreatK13
set_option maxRecDepth 100000
set_option maxHeartbeats 64000000
set_option linter.all false
namespace Go.Proofs.YtimfnpjcedjmiadGreat
open Go.RowKit
theorem znE (la lb : List (Int × Int)) : Fn Tryz.prog 101 [.sl 2 (la.map opRow) none, .sl 2 (lb.map opRow) none] [] (.v (.bool (la == lb))) [] := by
 refine ziD ⟨_, Tryz.func101, rfl, by decide +kernel⟩ 0 rfl fun ha => ?_
 simp only [List.length_map, maxLen] at ha
 refine foA zaA [] [] Tryz.func101 Tryz.ntmps101 Tryz.results101 ?_
 (all_goals refine gv ?_;repeat' first|exact .intro|refine Tw.mk ?_ ?_|(intro h;first|replace h:=h.o|cases h))
 ·exact Y52
 refine lpG (fun k : Nat => ⟨[(0, .sl 2 (la.map opRow) none), (1, .sl 2 (lb.map opRow) none), (12, .v (.int .i64 la.length)), (13, .v (.int .i64 k))], []⟩) (fun k => k <= la.length /\ ∀ i, i < k -> la[i]? = lb[i]?) (fun k => la.length - k) 0 ⟨by omega, fun i h => by omega⟩ (by (refine zaC [] ?_;repeat' first|exact .intro|refine Tw.mk ?_ ?_); all_goals (all_goals (try simp))) ?_
 rintro k ⟨hk, hp⟩
 ((all_goals (try (repeat' (conv => whnf); (first | with_reducible refine And.intro ?_ ?_ | with_reducible exact True.intro | (intro h; (first | cases h | ((try simp only [vis, Int.reduceToNat] at h); (try (exfalso; omega))))) | (with_reducible refine Vc.mk ?_; fail) | (with_reducible refine cutG ?_; fail) | refine zal ?_ ?_ | refine za2 ?_ ?_ ?_ | (refine zoX ?_))))); (all_goals (first | omega | (conv => whnf) | skip)))
 all_goals (try ((with_reducible refine Vc.mk ?_);(try exact GLt)))
 ·exact Y50
 ·exact Y53
 ·exact Y35
theorem zbZ (l : Lk) (h : l.ok 900) (e : Int) (e0 : 0 <= e) (e9 : e <= 11) (x i c : Int) (o a : List (Int × Int)) (ha : a.length <= 1000000) :
  Fn Tryz.prog 54 [.box 0 0, .v (.int .i64 e), .agg [.v (.int .i64 x), .v (.int .i64 i), .sl 2 (o.map opRow) none], .v (.int .i64 c), .sl 2 (a.map opRow) none] (lkM l 0) (.err (zan l.st e)) (lkM (evtL l e i c a) 1) := by
 have ht := tab h.st0 h.st9 e0 e9
 have hs := step_ok l.st e
 by_cases hE : zan l.st e = 0
 ·have hact := lact_ok (ownL l (zbX l.st e)) ((zoG h ht.2.1 ht.2.2.1).mono (by decide)) (zcq l.st e) (by omega) ht.2.2.2.2 x i c o a ha
  have hV : evtL l e i c a = actL i c a (ownL l (zbX l.st e)) (zcq l.st e) := by unfold evtL; rw [if_pos hE]
  rw [hV, hE]
  rw [hE] at hs
  generalize actL i c a (ownL l (zbX l.st e)) (zcq l.st e) = q at *
  generalize zcq l.st e = d at *
  by_cases hn : zbX l.st e <= 3
  ·have hO : ownL l (zbX l.st e) = { l with ns := l.os, nm := l.om, sz := 255, st := zbX l.st e } := by unfold ownL; rw [if_pos hn]
   rw [hO] at hact
   generalize zbX l.st e = n at *
   unfold lkM lkC at *
   refine foA zaA [] [] Tryz.func54 Tryz.ntmps54 Tryz.results54 ?_
   (all_goals refine gv ?_)
   (all_goals (try ((first|refine StopCall.by0 (hs) ?_|refine StopPure.by0 (hs) ?_);(all_goals refine gv ?_;repeat' first|exact .intro|refine Tw.mk ?_ ?_|(intro h;first|replace h:=h.o|cases h)))))
   (refine ⟨_, _, _, _, [0, 1], hact, rfl, rfl, rfl, ?_, ?_, ?_⟩)
   ·exact Y3
   ·exact Y3
   (all_goals refine gv ?_)
   ((try (conv => whnf));refine StopRet.by [0, 1] ?_;repeat' first|exact .intro|refine Tw.mk ?_ ?_)
  ·have hO : ownL l (zbX l.st e) = { l with st := zbX l.st e } := by unfold ownL; rw [if_neg hn]
   rw [hO] at hact
   generalize zbX l.st e = n at *
   unfold lkM lkC at *
   refine foA zaA [] [] Tryz.func54 Tryz.ntmps54 Tryz.results54 ?_
   (all_goals refine gv ?_)
   (all_goals (try ((first|refine StopCall.by0 (hs) ?_|refine StopPure.by0 (hs) ?_);(all_goals refine gv ?_;repeat' first|exact .intro|refine Tw.mk ?_ ?_|(intro h;first|replace h:=h.o|cases h)))))
   (refine ⟨_, _, _, _, [0, 1], hact, rfl, rfl, rfl, ?_, ?_, ?_⟩)
   ·exact Y3
   ·exact Y3
   (all_goals refine gv ?_)
   ((try (conv => whnf));refine StopRet.by [0, 1] ?_;repeat' first|exact .intro|refine Tw.mk ?_ ?_)
 ·have hV : evtL l e i c a = l := by unfold evtL; rw [if_neg hE]
  rw [hV]
  generalize zan l.st e = E at *
  unfold lkM lkC at *
  refine foA zaA [] [] Tryz.func54 Tryz.ntmps54 Tryz.results54 ?_
  (all_goals refine gv ?_)
  (all_goals (try ((first|refine StopCall.by0 (hs) ?_|refine StopPure.by0 (hs) ?_);(all_goals refine gv ?_;repeat' first|exact .intro|refine Tw.mk ?_ ?_|(intro h;first|replace h:=h.o|cases h)))))
  all_goals exact Y7
theorem ldo_ok (l : Lk) (h : l.ok 900) (e : Int) : Fn Tryz.prog 42 [.box 0 0, .v (.int .i64 e)] (lkM l 0) (.err (doE l e)) (lkM (doL l e) 1) := by
 by_cases he : e < 0 \/ 3 < e
 ·have h1 : doE l e = 1 := by unfold doE; rw [if_pos he]
  have h2 : doL l e = l := by unfold doL; rw [if_pos he]
  rw [h1, h2]
  unfold lkM lkC
  refine foA zaA [] [] Tryz.func42 Tryz.ntmps42 Tryz.results42 ?_
  (all_goals refine gv ?_;repeat' first|exact .intro|refine Tw.mk ?_ ?_|(intro h;first|replace h:=h.o|cases h))
  all_goals exact Y7
 ·have h1 : doE l e = zan l.st e := by unfold doE; rw [if_neg he]
  have h2 : doL l e = evtL l e 0 0 [] := by unfold doL; rw [if_neg he]
  have hev := zbZ l h e (by omega) (by omega) 0 0 0 [] [] (by decide)
  rw [h1, h2]
  generalize evtL l e 0 0 [] = q at *
  unfold lkM lkC at *
  refine foA zaA [] [] Tryz.func42 Tryz.ntmps42 Tryz.results42 ?_
  (all_goals refine gv ?_;repeat' first|exact .intro|refine Tw.mk ?_ ?_|(intro h;first|replace h:=h.o|cases h))
  all_goals exact Y5
theorem ltick_ok (l : Lk) (h : l.ok 800) : Fn Tryz.prog 57 [.box 0 0] (lkM l 0) (.tup []) (lkM (zab l) 1) := by
 have htm := timed_ok l.st
 have g3 := h.tm0
 have g4 := h.tm3
 have g5 := h.left0
 have g6 := h.left4
 by_cases ht : 4 <= l.st /\ l.st <= 8
 ·rw [decide_eq_true ht] at htm
  by_cases h0 : 0 < l.tm - 1
  ·have hV : zab l = { l with tm := l.tm - 1 } := by unfold zab; rw [if_pos ht, if_pos h0]
   rw [hV]
   unfold lkM lkC
   refine foA zaA [] [] Tryz.func57 Tryz.ntmps57 Tryz.results57 ?_
   (all_goals refine gv ?_)
   (all_goals (try ((first|refine StopCall.by0 (htm) ?_|refine StopPure.by0 (htm) ?_);(all_goals refine gv ?_;repeat' first|exact .intro|refine Tw.mk ?_ ?_|(intro h;first|replace h:=h.o|cases h)))))
   all_goals exact Y7
  ·have hok' : Lk.ok 900 { l with tm := l.tm - 1 } := by
    obtain ⟨h1, h2, h3, h4, h5, h6, h7, h8, h9', h10, h11, h12, h13, h14, h15, h16, h17⟩ := h.mono (j := 899) (by decide)
    refine ⟨?_, ?_, ?_, ?_, ?_, ?_, ?_, ?_, ?_, ?_, ?_, ?_, ?_, ?_, ?_, ?_, ?_⟩ <;> dsimp only <;> first | omega | assumption
   by_cases hl : l.left <= 0
   ·have hV : zab l = evtL { l with tm := l.tm - 1 } 5 0 0 [] := by unfold zab; rw [if_pos ht, if_neg h0, if_pos hl]
    have hev := zbZ _ hok' 5 (by decide) (by decide) 0 0 0 [] [] (by decide)
    rw [hV]
    generalize evtL { l with tm := l.tm - 1 } 5 0 0 [] = q at *
    unfold lkM lkC at *
    refine foA zaA [] [] Tryz.func57 Tryz.ntmps57 Tryz.results57 ?_
    (all_goals refine gv ?_)
    (all_goals (try ((first|refine StopCall.by0 (htm) ?_|refine StopPure.by0 (htm) ?_);(all_goals refine gv ?_;repeat' first|exact .intro|refine Tw.mk ?_ ?_|(intro h;first|replace h:=h.o|cases h)))))
    all_goals exact Y5
   ·have hV : zab l = evtL { l with tm := l.tm - 1 } 4 0 0 [] := by unfold zab; rw [if_pos ht, if_neg h0, if_neg hl]
    have hev := zbZ _ hok' 4 (by decide) (by decide) 0 0 0 [] [] (by decide)
    rw [hV]
    generalize evtL { l with tm := l.tm - 1 } 4 0 0 [] = q at *
    unfold lkM lkC at *
    refine foA zaA [] [] Tryz.func57 Tryz.ntmps57 Tryz.results57 ?_
    (all_goals refine gv ?_)
    (all_goals (try ((first|refine StopCall.by0 (htm) ?_|refine StopPure.by0 (htm) ?_);(all_goals refine gv ?_;repeat' first|exact .intro|refine Tw.mk ?_ ?_|(intro h;first|replace h:=h.o|cases h)))))
    all_goals exact Y5
 ·rw [decide_eq_false ht] at htm
  have hV : zab l = l := by unfold zab; rw [if_neg ht]
  rw [hV]
  unfold lkM lkC
  refine foA zaA [] [] Tryz.func57 Tryz.ntmps57 Tryz.results57 ?_
  (all_goals refine gv ?_)
  (all_goals (try ((first|refine StopCall.by0 (htm) ?_|refine StopPure.by0 (htm) ?_);(all_goals refine gv ?_;repeat' first|exact .intro|refine Tw.mk ?_ ?_|(intro h;first|replace h:=h.o|cases h)))))
  all_goals exact Y7
theorem zo8 {o : List (Int × Int)} {k : Nat} (h : k < o.length) : szOf (o.take (k + 1)) = if o[k].1 = 1 then o[k].2 else szOf (o.take k) := by
 unfold szOf
 rw [zaQ h, List.foldl_append]; rfl
theorem lreq_ok (l : Lk) (h : l.ok 900) (p : Pk) (ho : p.o.length <= 8) : Fn Tryz.prog 100 [.box 0 0, pkAV p] (lkM l 0) (.err (reqE l p)) (lkM (reqL l p) 1) := by
 obtain ⟨c, i, o⟩ := p
 dsimp only at ho
 have hj := judge_ok l.ns l.nm o (by omega) h.nm0
 have hjc : (if rej o ≠ [] then (4 : Int) else if nak l.nm o ≠ [] then 3 else 2) = zf6 l.nm o := rfl
 have hja : (if rej o ≠ [] then rej o else if nak l.nm o ≠ [] then nak l.nm o else o) = jans l.nm o := rfl
 rw [hjc, hja] at hj
 have hc2 : zf6 l.nm o = 4 \/ zf6 l.nm o = 3 \/ zf6 l.nm o = 2 := by
                                     unfold zf6; split; · exact .inl rfl
                                     split; · exact .inr (.inl rfl)
                                     exact .inr (.inr rfl)
 have hal : (jans l.nm o).length <= 8 := by
  unfold jans
  split
  ·exact Nat.le_trans (List.length_filter_le ..) ho
  ·split
   ·exact Nat.le_trans (List.length_filterMap_le ..) ho
   ·exact ho
 have ht := tab h.st0 h.st9 (e := 6) (by decide) (by decide)
 by_cases hc : zf6 l.nm o = 2
 ·have hE : reqE l ⟨c, i, o⟩ = zan l.st 6 := by unfold reqE; rw [if_pos hc]
  have hV : reqL l ⟨c, i, o⟩ = if zan l.st 6 = 0 /\ 6 <= (evtL l 6 i 2 (jans l.nm o)).st then { evtL l 6 i 2 (jans l.nm o) with sz := szOf o } else evtL l 6 i 2 (jans l.nm o) := by unfold reqL; rw [if_pos hc]
  have hev := zbZ l h 6 (by decide) (by decide) c i 2 o (jans l.nm o) (by omega)
  rw [hE, hV]
  rw [hc] at hj
  generalize jans l.nm o = a at *
  generalize evtL l 6 i 2 a = q at *
  generalize zan l.st 6 = E at *
  by_cases hq : E = 0 /\ 6 <= q.st
  ·rw [if_pos hq]
   obtain ⟨hE0, hq6⟩ := hq
   subst hE0
   unfold lkM lkC at *
   refine foA zaA [] [] Tryz.func100 Tryz.ntmps100 Tryz.results100 ?_
   (all_goals refine gv ?_)
   (all_goals (try ((first|refine StopCall.by0 (hj) ?_|refine StopPure.by0 (hj) ?_);(all_goals refine gv ?_;repeat' first|exact .intro|refine Tw.mk ?_ ?_|(intro h;first|replace h:=h.o|cases h)))))
   all_goals ((refine ⟨_, _, _, _, [0, 1], hev, rfl, rfl, rfl, ?_, ?_, ?_⟩); (· (all_goals refine gr ?_;repeat' first|exact .intro|refine Tw.mk ?_ ?_)); (· (all_goals refine gr ?_;repeat' first|exact .intro|refine Tw.mk ?_ ?_)); (all_goals refine gv ?_;repeat' first|exact .intro|refine Tw.mk ?_ ?_|(intro h;first|replace h:=h.o|cases h)))
   refine lpG (fun k : Nat => ⟨[(0, .box 0 0), (7, .err 0), (45, .sl 2 (o.map opRow) none), (46, .v (.int .i64 o.length)), (47, .v (.int .i64 k))], [lkC { q with sz := szOf (o.take k) } 1 1, .grow 39 3 1]⟩) (fun k => k <= o.length) (fun k => o.length - k) 0 (by omega) (by unfold lkC; (refine zaC [0, 1] ?_;repeat' first|exact .intro|refine Tw.mk ?_ ?_); all_goals (all_goals (try first | rfl | (simp; done)))) ?_
   intro k hk
   unfold lkC
   by_cases hk' : k < o.length
   ·have hS := zo8 hk'
    by_cases h1 : o[k].1 = 1
    ·rw [if_pos h1] at hS
     exact Y63
    ·rw [if_neg h1] at hS
     exact Y63
   ·have ek : k = o.length := by omega
    subst ek
    rw [List.take_length]
    (all_goals refine gv ?_;repeat' first|exact .intro|refine Tw.mk ?_ ?_|(intro h;first|replace h:=h.o|cases h))
    all_goals exact Y7
  ·rw [if_neg hq]
   unfold lkM lkC at *
   refine foA zaA [] [] Tryz.func100 Tryz.ntmps100 Tryz.results100 ?_
   (all_goals refine gv ?_)
   (all_goals (try ((first|refine StopCall.by0 (hj) ?_|refine StopPure.by0 (hj) ?_);(all_goals refine gv ?_;repeat' first|exact .intro|refine Tw.mk ?_ ?_|(intro h;first|replace h:=h.o|cases h)))))
   all_goals ((refine ⟨_, _, _, _, [0, 1], hev, rfl, rfl, rfl, ?_, ?_, ?_⟩); (· (all_goals refine gr ?_;repeat' first|exact .intro|refine Tw.mk ?_ ?_)); (· (all_goals refine gr ?_;repeat' first|exact .intro|refine Tw.mk ?_ ?_)); (all_goals refine gv ?_;repeat' first|exact .intro|refine Tw.mk ?_ ?_|(intro h;first|replace h:=h.o|cases h)))
   all_goals exact Y7
 ·have hE : reqE l ⟨c, i, o⟩ = zan l.st 7 := by unfold reqE; rw [if_neg hc]
  have hV : reqL l ⟨c, i, o⟩ = evtL l 7 i (zf6 l.nm o) (jans l.nm o) := by unfold reqL; rw [if_neg hc]
  have hev := zbZ l h 7 (by decide) (by decide) c i (zf6 l.nm o) o (jans l.nm o) (by omega)
  rw [hE, hV]
  generalize jans l.nm o = a at *
  generalize zf6 l.nm o = jc at *
  generalize evtL l 7 i jc a = q at *
  unfold lkM lkC at *
  refine foA zaA [] [] Tryz.func100 Tryz.ntmps100 Tryz.results100 ?_
  (all_goals refine gv ?_)
  (all_goals (try ((first|refine StopCall.by0 (hj) ?_|refine StopPure.by0 (hj) ?_);(all_goals refine gv ?_;repeat' first|exact .intro|refine Tw.mk ?_ ?_|(intro h;first|replace h:=h.o|cases h)))))
  all_goals exact Y5
theorem ltake_ok (l : Lk) (h : l.ok 900) (p : Pk) : Fn Tryz.prog 82 [.box 0 0, pkAV p] (lkM l 0) (.err (takE l p)) (lkM (takL l p) 1) := by
 obtain ⟨c, i, o⟩ := p
 have hck := zhk c i o
 have hn := ze2 c i o
 by_cases hf : zbL c i o = 0
 ·have hg := zgp hf
  have hV : takL l ⟨c, i, o⟩ = if c = 1 then reqL l ⟨c, i, o⟩ else if c = 5 then evtL l 10 i 0 [] else if c = 6 then evtL l 11 i 0 [] else if i ≠ l.id then l else if c = 2 then (if o ≠ l.ask then l else evtL l 8 i 0 []) else evtL (nowL l ⟨c, i, o⟩) 9 i 0 [] := by
   unfold takL; rw [if_neg (by simp [hf])]
  have hE : takE l ⟨c, i, o⟩ = if c = 1 then reqE l ⟨c, i, o⟩ else if c = 5 then zan l.st 10 else if c = 6 then zan l.st 11 else if i ≠ l.id then 6 else if c = 2 then (if o ≠ l.ask then 6 else zan l.st 8) else zan l.st 9 := by
   unfold takE; rw [if_neg (by simp [hf])]
  rw [hf] at hck
  rw [hV, hE]
  clear hV hE
  by_cases c1 : c = 1
  ·have hreq := lreq_ok l h ⟨c, i, o⟩ hg.2.2.2.2.1
   rw [if_pos c1, if_pos c1]
   generalize reqL l ⟨c, i, o⟩ = q at *
   generalize reqE l ⟨c, i, o⟩ = E at *
   unfold lkM lkC pkAV zc2 at *
   refine foA zaA [] [] Tryz.func82 Tryz.ntmps82 Tryz.results82 ?_
   (all_goals refine gv ?_)
   (all_goals (try ((first|refine StopCall.by0 (hck) ?_|refine StopPure.by0 (hck) ?_);(all_goals refine gv ?_;repeat' first|exact .intro|refine Tw.mk ?_ ?_|(intro h;first|replace h:=h.o|cases h)))))
   all_goals ((refine ⟨_, _, _, _, [0, 1], hreq, rfl, rfl, rfl, ?_, ?_, ?_⟩); (· (all_goals refine gr ?_;repeat' first|exact .intro|refine Tw.mk ?_ ?_)); (· (all_goals refine gr ?_;repeat' first|exact .intro|refine Tw.mk ?_ ?_)); (all_goals refine gv ?_))
   all_goals exact Y7
  rw [if_neg c1, if_neg c1]
  by_cases c5 : c = 5
  ·have hev := zbZ l h 10 (by decide) (by decide) c i 0 o [] (by decide)
   rw [if_pos c5, if_pos c5]
   generalize evtL l 10 i 0 [] = q at *
   unfold lkM lkC pkAV zc2 at *
   refine foA zaA [] [] Tryz.func82 Tryz.ntmps82 Tryz.results82 ?_
   (all_goals refine gv ?_)
   (all_goals (try ((first|refine StopCall.by0 (hck) ?_|refine StopPure.by0 (hck) ?_);(all_goals refine gv ?_;repeat' first|exact .intro|refine Tw.mk ?_ ?_|(intro h;first|replace h:=h.o|cases h)))))
   all_goals exact Y5
  rw [if_neg c5, if_neg c5]
  by_cases c6 : c = 6
  ·have hev := zbZ l h 11 (by decide) (by decide) c i 0 o [] (by decide)
   rw [if_pos c6, if_pos c6]
   generalize evtL l 11 i 0 [] = q at *
   unfold lkM lkC pkAV zc2 at *
   refine foA zaA [] [] Tryz.func82 Tryz.ntmps82 Tryz.results82 ?_
   (all_goals refine gv ?_)
   (all_goals (try ((first|refine StopCall.by0 (hck) ?_|refine StopPure.by0 (hck) ?_);(all_goals refine gv ?_;repeat' first|exact .intro|refine Tw.mk ?_ ?_|(intro h;first|replace h:=h.o|cases h)))))
   all_goals exact Y5
  rw [if_neg c6, if_neg c6]
  by_cases hi : i = l.id
  ·rw [if_neg (show ¬ (i ≠ l.id) from fun e => e hi), if_neg (show ¬ (i ≠ l.id) from fun e => e hi)]
   by_cases c2 : c = 2
   ·rw [if_pos c2, if_pos c2]
    have heq := znE o l.ask
    by_cases ha : o = l.ask
    ·have hev := zbZ l h 8 (by decide) (by decide) c i 0 o [] (by decide)
     rw [if_neg (show ¬ (o ≠ l.ask) from fun e => e ha), if_neg (show ¬ (o ≠ l.ask) from fun e => e ha)]
     rw [show (o == l.ask) = true from by simp [ha]] at heq
     clear ha
     generalize evtL l 8 i 0 [] = q at *
     unfold lkM lkC pkAV zc2 at *
     refine foA zaA [] [] Tryz.func82 Tryz.ntmps82 Tryz.results82 ?_
     (all_goals refine gv ?_)
     (all_goals (try ((first|refine StopCall.by0 (hck) ?_|refine StopPure.by0 (hck) ?_);(all_goals refine gv ?_;repeat' first|exact .intro|refine Tw.mk ?_ ?_|(intro h;first|replace h:=h.o|cases h)))))
     (all_goals (try ((first|refine StopCall.by0 (heq) ?_|refine StopPure.by0 (heq) ?_);(all_goals refine gv ?_;repeat' first|exact .intro|refine Tw.mk ?_ ?_|(intro h;first|replace h:=h.o|cases h)))))
     all_goals exact Y5
    ·rw [if_pos ha, if_pos ha]
     rw [show (o == l.ask) = false from by simp [ha]] at heq
     unfold lkM lkC pkAV zc2 at *
     refine foA zaA [] [] Tryz.func82 Tryz.ntmps82 Tryz.results82 ?_
     (all_goals refine gv ?_)
     (all_goals (try ((first|refine StopCall.by0 (hck) ?_|refine StopPure.by0 (hck) ?_);(all_goals refine gv ?_;repeat' first|exact .intro|refine Tw.mk ?_ ?_|(intro h;first|replace h:=h.o|cases h)))))
     (all_goals (try ((first|refine StopCall.by0 (heq) ?_|refine StopPure.by0 (heq) ?_);(all_goals refine gv ?_;repeat' first|exact .intro|refine Tw.mk ?_ ?_|(intro h;first|replace h:=h.o|cases h)))))
     all_goals exact Y7
   ·rw [if_neg c2, if_neg c2]
    have htd := told_ok l.ns l.nm c o
    have hokn : (nowL l ⟨c, i, o⟩).ok 900 := by
     unfold nowL
     split
     ·have ht := zou (c := c) (p := (l.ns, l.nm)) hg.2.2.2.2.2 ⟨h.ns0, h.ns9, h.nm0, h.nm9⟩
      obtain ⟨h1, h2, h3, h4, h5, h6, h7, h8, h9', h10, h11, h12, h13, h14, h15, h16, h17⟩ := h
      refine ⟨?_, ?_, ?_, ?_, ?_, ?_, ?_, ?_, ?_, ?_, ?_, ?_, ?_, ?_, ?_, ?_, ?_⟩ <;> dsimp only <;> first | assumption | omega
     ·exact h
    have hev := zbZ (nowL l ⟨c, i, o⟩) hokn 9 (by decide) (by decide) c i 0 o [] (by decide)
    have hst : (nowL l ⟨c, i, o⟩).st = l.st := by unfold nowL; split <;> rfl
    rw [hst] at hev
    generalize evtL (nowL l ⟨c, i, o⟩) 9 i 0 [] = q at *
    generalize zan l.st 9 = E at *
    by_cases h6 : 6 <= l.st
    ·have hN : nowL l ⟨c, i, o⟩ = { l with ns := (told c (l.ns, l.nm) o).1, nm := (told c (l.ns, l.nm) o).2 } := by unfold nowL; rw [if_pos h6]
     rw [hN] at hev
     unfold lkM lkC pkAV zc2 at *
     refine foA zaA [] [] Tryz.func82 Tryz.ntmps82 Tryz.results82 ?_
     (all_goals refine gv ?_)
     (all_goals (try ((first|refine StopCall.by0 (hck) ?_|refine StopPure.by0 (hck) ?_);(all_goals refine gv ?_;repeat' first|exact .intro|refine Tw.mk ?_ ?_|(intro h;first|replace h:=h.o|cases h)))))
     (all_goals (try ((first|refine StopCall.by0 (htd) ?_|refine StopPure.by0 (htd) ?_);(all_goals refine gv ?_))))
     all_goals exact Y5
    ·have hN : nowL l ⟨c, i, o⟩ = l := by unfold nowL; rw [if_neg h6]
     rw [hN] at hev
     unfold lkM lkC pkAV zc2 at *
     refine foA zaA [] [] Tryz.func82 Tryz.ntmps82 Tryz.results82 ?_
     (all_goals refine gv ?_)
     (all_goals (try ((first|refine StopCall.by0 (hck) ?_|refine StopPure.by0 (hck) ?_);(all_goals refine gv ?_;repeat' first|exact .intro|refine Tw.mk ?_ ?_|(intro h;first|replace h:=h.o|cases h)))))
     all_goals exact Y5
  ·rw [if_pos hi, if_pos hi]
   unfold lkM lkC pkAV zc2 at *
   refine foA zaA [] [] Tryz.func82 Tryz.ntmps82 Tryz.results82 ?_
   (all_goals refine gv ?_)
   (all_goals (try ((first|refine StopCall.by0 (hck) ?_|refine StopPure.by0 (hck) ?_);(all_goals refine gv ?_;repeat' first|exact .intro|refine Tw.mk ?_ ?_|(intro h;first|replace h:=h.o|cases h)))))
   all_goals exact Y7
 ·have hV : takL l ⟨c, i, o⟩ = l := by unfold takL; rw [if_pos hf]
  have hE : takE l ⟨c, i, o⟩ = zbL c i o := by unfold takE; rw [if_pos hf]
  rw [hV, hE]
  generalize zbL c i o = F at *
  unfold lkM lkC pkAV zc2 at *
  refine foA zaA [] [] Tryz.func82 Tryz.ntmps82 Tryz.results82 ?_
  (all_goals refine gv ?_)
  (all_goals (try ((first|refine StopCall.by0 (hck) ?_|refine StopPure.by0 (hck) ?_);(all_goals refine gv ?_;repeat' first|exact .intro|refine Tw.mk ?_ ?_|(intro h;first|replace h:=h.o|cases h)))))
  all_goals exact Y7
def lkR (l : Lk) : Res := .obj (zbq (lkM l 0))
theorem ren_lk {l : Lk} : [] ++ zbI (extG 0 (lkM l 0).length) (lkM l 0) = lkM l 0 := rfl
theorem rm_lg0 {l : Lk} : RM (lkM l 0) [.gone] [0] [0] [.gone] := by (all_goals refine gr ?_;repeat' first|exact .intro|refine Tw.mk ?_ ?_)
theorem rm_lg1 {l : Lk} : RM (lkM l 1) [.gone] [0] [0] [.gone] := by (all_goals refine gr ?_;repeat' first|exact .intro|refine Tw.mk ?_ ?_)
theorem rm_lk0 {l : Lk} : RM (lkM l 0) (lkM l 0) [0, 1] [0, 1] (lkM l 0) := by unfold lkM lkC; (all_goals refine gr ?_;repeat' first|exact .intro|refine Tw.mk ?_ ?_); all_goals rfl
theorem rm_lk1 {l : Lk} : RM (lkM l 1) (lkM l 0) [0, 1] [0, 1] (lkM l 0) := by unfold lkM lkC; (all_goals refine gr ?_;repeat' first|exact .intro|refine Tw.mk ?_ ?_); all_goals rfl
theorem zoW {f : FuncId} {args : List AV} {r : AV} {l q : Lk} (hF : Fn Tryz.prog f args (lkM l 0) r (lkM q 0)) (hr : r.free = true) : Fn Tryz.prog f args [lkR l] r [lkR q] :=
 za7 (pre := []) (mt := [.gone]) (ρ := [0]) (κ := [0, 1]) (L := 0) (by rw [ren_lk]; exact hF) rfl rfl rfl rfl rm_lg0 rm_lk0 (zay hr) rfl rfl rfl rfl rfl
theorem zeG {f : FuncId} {args : List AV} {r : AV} {l q : Lk} (hF : Fn Tryz.prog f args (lkM l 0) r (lkM q 1)) (hr : r.free = true) : Fn Tryz.prog f args [lkR l] r [lkR q] :=
 za7 (pre := []) (mt := [.gone]) (ρ := [0]) (κ := [0, 1]) (L := 0) (by rw [ren_lk]; exact hF) rfl rfl rfl rfl rm_lg1 rm_lk1 (zay hr) rfl rfl rfl rfl rfl
theorem zhc (s m : Int) (h : zea s m = true) : Fn Tryz.prog 41 [.v (.int .i64 s), .v (.int .i64 m)] [] (.tup [.box 0 0, .err 0]) [lkR (newL s m)] :=
 zeS (mt := [.gone]) (m' := lkM (newL s m) 0) (ρ := [0]) (κ := [0, 1]) (L := 0) (lnew_ok s m h) rfl rfl rfl rfl rm_lg0 rm_lk0 (by (all_goals refine gr ?_;repeat' first|exact .intro|refine Tw.mk ?_ ?_); all_goals rfl) rfl rfl rfl rfl rfl rfl
theorem zaa (l : Lk) : Fn Tryz.prog 38 [.box 0 0] [lkR l] (.v (.int .i64 l.st)) [lkR l] := zoW (zmf l) rfl
theorem xlout_ok (l : Lk) : Fn Tryz.prog 68 [.box 0 0] [lkR l] (.sl 3 (l.out.map zc2) none) [lkR (outL l)] := zeG (lout_ok l) rfl
theorem zbl (l : Lk) (h : l.ok 900) (e : Int) : Fn Tryz.prog 42 [.box 0 0, .v (.int .i64 e)] [lkR l] (.err (doE l e)) [lkR (doL l e)] := zeG (ldo_ok l h e) rfl
theorem zg4 (l : Lk) (h : l.ok 800) : Fn Tryz.prog 57 [.box 0 0] [lkR l] (.tup []) [lkR (zab l)] := zeG (ltick_ok l h) rfl
theorem zg7 (l : Lk) (h : l.ok 900) (p : Pk) : Fn Tryz.prog 82 [.box 0 0, pkAV p] [lkR l] (.err (takE l p)) [lkR (takL l p)] := zeG (ltake_ok l h p) rfl
def prM (m : Int) (l : Lk) (pe : Pe) (o : List UInt8) (r : Rd) (g : Nat) : List Res := [.cells [.v (.int .i64 m), .box 1 0, .arr 2 g r.n, .v (.bool r.e), .v (.bool r.x), .v (.int .i64 pe.who), .v (.bool pe.both), .v (.int .i64 pe.left), .arr 3 g o.length], lkR l, .arr true 5 1 g (r.buf.map bRow), .arr true 5 1 g (o.map bRow)]
theorem pbody_ok (m : Int) (l : Lk) (pe : Pe) (o : List UInt8) (r : Rd) (hr : r.ok) : Fn Tryz.prog 99 [.box 0 2] (prM m l pe o r 0) (.tup [.v (.string (tx (rdT r))), .err (rdE r)]) (prM m l pe o r 0) := by
 obtain ⟨h1, h2, h3⟩ := hr
 have hb : r.b.length = r.n := by unfold Rd.b; rw [List.length_take]; omega
 have hz : (⟨r.b.toArray⟩ : ByteArray).size = r.n := hb
 have hs := znv (tx (r.b.take (r.b.length - 2))) (by rw [tx_size, List.length_take]; omega)
 rw [bs_tx] at hs
 refine foA zaA [] [] Tryz.func99 Tryz.ntmps99 Tryz.results99 ?_
 unfold prM
 (all_goals refine gv ?_)
 conv => whnf
 refine ⟨r.b, by unfold Rd.b; rw [List.map_take]; rfl, ?_⟩
 (all_goals refine gv ?_;repeat' first|exact .intro|refine Tw.mk ?_ ?_|(intro h;first|replace h:=h.o|cases h))
 all_goals (try
  (have hE : rdE r = 4 := by
    unfold rdE zjI
    (repeat' split) <;> first | rfl | (exfalso; omega) | (exfalso; simp_all; done)
   have hT : rdT r = [] := by unfold rdT; rw [hE, if_neg (by decide)]
   rw [hE, hT]
   ((try (conv => whnf));refine StopRet.by [0, 1, 2, 3] ?_;repeat' first|exact .intro|refine Tw.mk ?_ ?_)
   done))
 (refine ⟨_, _, _, _, [], hs, rfl, rfl, rfl, ?_, ?_, ?_⟩)
 ·exact Y3
 ·(all_goals refine gr ?_;repeat' first|exact .intro|refine Tw.mk ?_ ?_)
  rw [<- zhJ (by omega)]
  congr 1
  show ((r.b.length : Int) - 2).toNat = _
  omega
 have b0 := UInt8.toNat_lt (r.b.getD (r.n - 2) 0)
 have b1 := UInt8.toNat_lt (r.b.getD (r.n - 1) 0)
 have e0 : zaG (tx r.b) ((tx r.b).size - 2 : Int).toNat = (r.b.getD (r.n - 2) 0).toNat := by rw [zip]; congr 2; show ((r.b.length : Int) - 2).toNat = _; omega
 have e1 : zaG (tx r.b) ((tx r.b).size - 2 + 1 : Int).toNat = (r.b.getD (r.n - 1) 0).toNat := by rw [zip]; congr 2; show ((r.b.length : Int) - 2 + 1).toNat = _; omega
 (all_goals refine gv ?_;repeat' first|exact .intro|refine Tw.mk ?_ ?_|(intro h;first|replace h:=h.o|cases h))
 all_goals (try (refine Vc.mk ?_; first | omega | (unfold In64; omega) | (simp only [wrap_byte]; simp only [e0, e1]; unfold In64; omega) | decide))
 ·have hE : rdE r = 5 := by
   simp only [e0, e1, hb] at h
   unfold rdE zjI
   rw [if_neg (by simp_all), if_neg (by omega), if_neg (by rw [hb]; omega)]
  have hT : rdT r = [] := by unfold rdT; rw [hE, if_neg (by decide)]
  rw [hE, hT]
  ((try (conv => whnf));refine StopRet.by [0, 1, 2, 3] ?_;repeat' first|exact .intro|refine Tw.mk ?_ ?_)
 ·have hE : rdE r = 0 := by
   simp only [e0, e1, hb] at h
   unfold rdE zjI
   rw [if_neg (by simp_all), if_neg (by omega), if_pos (by rw [hb]; omega)]
  have hT : rdT r = r.b.take (r.n - 2) := by unfold rdT; rw [hE, if_pos rfl, hb]
  rw [hE, hT]
  ((try (conv => whnf));refine StopRet.by [0, 1, 2, 3] ?_;repeat' first|exact .intro|refine Tw.mk ?_ ?_)
  rw [<- zhJ (by omega)]
  congr 1
  show ((r.b.length : Int) - 2).toNat = _
  omega
theorem ptake_ok (m : Int) (l : Lk) (pe : Pe) (o : List UInt8) (r : Rd) (hr : r.ok) (c : UInt8) : Fn Tryz.prog 80 [.box 0 2, .v (.int .u8 c.toNat)] (prM m l pe o r 0) (.tup [.v (.string (tx (if zb4 r c then rdT r else []))), .v (.bool (zb4 r c)), .err (if zb4 r c then rdE r else 0)]) (prM m l pe o (zb3 r c) 1) := by
 have hbody := pbody_ok m l pe o r hr
 have hc := UInt8.toNat_lt c
 have u1 := (zjo (c := c)).1
 have u2 := (zjo (c := c)).2
 obtain ⟨h1, h2, h3⟩ := hr
 by_cases c1 : c = 126
 ·subst c1
  by_cases hd : zb4 r 126 = true
  ·have hS : zb3 r 126 = ⟨[], 0, false, false⟩ := by unfold zb3; rw [if_pos rfl, if_pos hd]
   simp only [hS, hd, if_true]
   have hd' : ¬ (r.n = 0 /\ r.x = false /\ r.e = false) := by
    rintro ⟨e1, e2, e3⟩
    simp [zb4, e1, e2, e3] at hd
   obtain ⟨buf, n, e, x⟩ := r
   unfold prM at hbody ⊢
   cases e <;> cases x <;> simp only [Bool.false_eq_true, and_true, and_false, not_false_eq_true] at hd'
   all_goals
    refine foA zaA [] [12] Tryz.func80 Tryz.ntmps80 Tryz.results80 ?_
    (all_goals refine gv ?_;repeat' first|exact .intro|refine Tw.mk ?_ ?_|(intro h;first|replace h:=h.o|cases h))
    all_goals (try ((refine ⟨_, _, _, _, [0, 1, 2, 3], hbody, rfl, rfl, rfl, ?_, ?_, ?_⟩); (· (all_goals refine gr ?_;repeat' first|exact .intro|refine Tw.mk ?_ ?_)); (· (all_goals refine gr ?_;repeat' first|exact .intro|refine Tw.mk ?_ ?_)); (all_goals refine gv ?_)))
    all_goals
     (first | refine .mk ⟨_, AS.le_trans (zb1 2 0 2 _ rfl (by decide) rfl rfl) (AS.le_refl _ _), ?_⟩ | refine ⟨_, AS.le_trans (zb1 2 0 2 _ rfl (by decide) rfl rfl) (AS.le_refl _ _), ?_⟩)
     (all_goals refine gv ?_)
     ((try (conv => whnf));refine StopRet.by [0, 1, 2, 3] ?_;repeat' first|exact .intro|refine Tw.mk ?_ ?_)
  ·have hS : zb3 r 126 = r := by unfold zb3; rw [if_pos rfl, if_neg hd]
   have hf : zb4 r 126 = false := by simpa using hd
   simp only [hS, hf, Bool.false_eq_true, if_false]
   have hd' : r.n = 0 /\ r.x = false /\ r.e = false := by
    simpa [zb4, and_assoc] using hf
   obtain ⟨buf, n, e, x⟩ := r
   obtain ⟨e1, e2, e3⟩ := hd'
   simp only at e1 e2 e3
   subst e1 e2 e3
   unfold prM at hbody ⊢
   refine foA zaA [] [] Tryz.func80 Tryz.ntmps80 Tryz.results80 ?_
   (all_goals refine gv ?_;repeat' first|exact .intro|refine Tw.mk ?_ ?_|(intro h;first|replace h:=h.o|cases h))
   all_goals exact Y13
 have hf : zb4 r c = false := by simp [zb4, c1]
 simp only [hf, Bool.false_eq_true, if_false]
 have n1 : ¬ (c.toNat : Int) = 126 := fun e => c1 (u1.1 e)
 by_cases c2 : c = 125
 ·subst c2
  have hS : zb3 r 125 = ⟨r.buf, r.n, true, r.x || r.e⟩ := by unfold zb3; rw [if_neg (by decide), if_pos rfl]
  simp only [hS]
  obtain ⟨buf, n, e, x⟩ := r
  unfold prM
  cases e <;> cases x
  all_goals
   refine foA zaA [] [] Tryz.func80 Tryz.ntmps80 Tryz.results80 ?_
   (all_goals refine gv ?_;repeat' first|exact .intro|refine Tw.mk ?_ ?_|(intro h;first|replace h:=h.o|cases h))
   all_goals exact Y13
 have n2 : ¬ (c.toNat : Int) = 125 := fun e => c2 (u2.1 e)
 by_cases c3 : c.toNat < 32
 ·have hS : zb3 r c = ⟨r.buf, r.n, r.e, true⟩ := by unfold zb3; rw [if_neg c1, if_neg c2, if_pos c3]
  simp only [hS]
  obtain ⟨buf, n, e, x⟩ := r
  unfold prM
  refine foA zaA [] [] Tryz.func80 Tryz.ntmps80 Tryz.results80 ?_
  (all_goals refine gv ?_;repeat' first|exact .intro|refine Tw.mk ?_ ?_|(intro h;first|replace h:=h.o|cases h))
  all_goals exact Y13
 by_cases c4 : 62 < r.n + 1
 ·have hS : zb3 r c = ⟨r.b ++ [if r.e then c ^^^ 32 else c], 1, false, true⟩ := by unfold zb3; rw [if_neg c1, if_neg c2, if_neg c3, if_pos c4]
  exact Y33
 ·have hS : zb3 r c = ⟨r.b ++ [if r.e then c ^^^ 32 else c], r.n + 1, false, r.x⟩ := by unfold zb3; rw [if_neg c1, if_neg c2, if_neg c3, if_neg c4]
  exact Y33
theorem zjq (m : Int) (l : Lk) (pe : Pe) (o : List UInt8) (r : Rd) (hr : r.ok) (s : ByteArray) (hs : s.size <= 1000000) : Fn Tryz.prog 64 [.box 0 2, .v (.string s)] (prM m l pe o r 0) (.tup [.sl 1 ((za5 r (bs s)).2.1.map fun t => sRow (tx t)) none, .v (.int .i64 (za5 r (bs s)).2.2)]) (prM m l pe o (za5 r (bs s)).1 1) := by
 have hl := zcn s
 refine foA zaA [] [] Tryz.func64 Tryz.ntmps64 Tryz.results64 ?_
 unfold prM
 (all_goals refine gv ?_)
 refine lpG (fun k : Nat => ⟨[(0, .box 0 2), (1, .v (.string s)), (4, .sl 1 ((za5 r ((bs s).take k)).2.1.map fun t => sRow (tx t)) (some (4, 1))), (5, .v (.int .i64 (za5 r ((bs s).take k)).2.2)), (11, .v (.int .i64 s.size)), (12, .v (.int .i64 k))], prM m l pe o (za5 r ((bs s).take k)).1 1 ++ [.grow 9 1 1]⟩) (fun k => k <= s.size) (fun k => s.size - k) 0 (by omega) (by
  refine AS.le_trans (ze3 4 9 1 rfl) ?_
  (refine zaC [0, 1, 2, 3, 4] ?_;repeat' first|exact .intro|refine Tw.mk ?_ ?_); all_goals (all_goals (try first | rfl | (simp [za5]; done)))) ?_
 rintro k hk
 have hR := zeT hr ((bs s).take k)
 have hN := zdI r ((bs s).take k)
 rw [List.length_take] at hN
 obtain ⟨hN1, hN2⟩ := hN
 by_cases hk' : k < (bs s).length
 ·have hS := zmL (r := r) hk'
  generalize hq : za5 r ((bs s).take k) = q at *
  obtain ⟨R, out, bad⟩ := q
  dsimp only at hR hN1 hN2 ⊢
  have ht := ptake_ok m l pe o R hR (bs s)[k]
  have hbt := zi8 hk'
  unfold prM at ht
  unfold rdS at hS
  dsimp only at hS
  (all_goals refine gv ?_;repeat' first|exact .intro|refine Tw.mk ?_ ?_|(intro h;first|replace h:=h.o|cases h))
  by_cases hd : zb4 R (bs s)[k] = true
  ·by_cases he : rdE R = 0
   ·simp only [hd, he, if_true] at ht
    simp only [hd, he, decide_true, Bool.and_self, if_true, Bool.not_true, Bool.and_false, Bool.false_eq_true, if_false] at hS
    (refine ⟨_, _, _, _, [0, 1, 2, 3], ht, rfl, rfl, rfl, ?_, ?_, ?_⟩)
    ·exact Y3
    ·exact Y73
    (all_goals refine gv ?_;repeat' first|exact .intro|refine Tw.mk ?_ ?_|(intro h;first|replace h:=h.o|cases h))
    refine zaO (k + 1) (by omega) (by omega) (by rw [hS]; (refine zaC [0, 1, 2, 3, 4] ?_;repeat' first|exact .intro|refine Tw.mk ?_ ?_); all_goals (all_goals (try (simp [sRow, viewR, viewL, AV.view]; done))))
   ·simp only [hd, if_true] at ht
    simp only [hd, he, decide_false, Bool.and_false, Bool.not_false, Bool.and_self, if_true, Bool.false_eq_true, if_false] at hS
    (refine ⟨_, _, _, _, [0, 1, 2, 3], ht, rfl, rfl, rfl, ?_, ?_, ?_⟩)
    ·exact Y3
    ·exact Y73
    (all_goals refine gv ?_;repeat' first|exact .intro|refine Tw.mk ?_ ?_|(intro h;first|replace h:=h.o|cases h))
    refine zaO (k + 1) (by omega) (by omega) (by rw [hS]; (refine zaC [0, 1, 2, 3, 4] ?_;repeat' first|exact .intro|refine Tw.mk ?_ ?_); all_goals (all_goals (try (simp [sRow, viewR, viewL, AV.view]; done))))
  ·have hf : zb4 R (bs s)[k] = false := by simpa using hd
   simp only [hf, Bool.false_eq_true, if_false] at ht
   simp only [hf, Bool.false_and, Bool.false_eq_true, if_false] at hS
   (refine ⟨_, _, _, _, [0, 1, 2, 3], ht, rfl, rfl, rfl, ?_, ?_, ?_⟩)
   ·exact Y3
   ·exact Y73
   (all_goals refine gv ?_;repeat' first|exact .intro|refine Tw.mk ?_ ?_|(intro h;first|replace h:=h.o|cases h))
   refine zaO (k + 1) (by omega) (by omega) (by rw [hS]; (refine zaC [0, 1, 2, 3, 4] ?_;repeat' first|exact .intro|refine Tw.mk ?_ ?_); all_goals (all_goals (try (simp [sRow, viewR, viewL, AV.view]; done))))
 ·have e : k = (bs s).length := by omega
  subst e
  rw [List.take_length]
  (all_goals refine gv ?_;repeat' first|exact .intro|refine Tw.mk ?_ ?_|(intro h;first|replace h:=h.o|cases h))
  ((try (conv => whnf));refine StopRet.by [0, 1, 2, 3] ?_;repeat' first|exact .intro|refine Tw.mk ?_ ?_)
theorem fpart_ok (kn : Int -> Option St3) (ow : List (Int -> Bool)) (h1 : 1 <= ow.length) (h3 : ow.length <= 3) (p : Int) : Fn Tryz.prog 70 [.box 0 0, .v (.int .i64 p)] (baL kn ow) (.tup []) (baM (parB ⟨kn, ow⟩ p)) := by
 refine np3 (p := fun ow => Fn Tryz.prog 70 [.box 0 0, .v (.int .i64 p)] (baL kn ow) (.tup []) (baM (parB ⟨kn, ow⟩ p))) h1 h3 (fun a => ?_) (fun a b => ?_) (fun a b c => ?_)
 ·by_cases hp : 0 <= p /\ p < 1
  ·refine or3 (by omega : p = 0 \/ p = 1 \/ p = 2) (fun e => ?_) (fun e => ?_) (fun e => ?_)
   all_goals (subst e)
   all_goals (try (exfalso; omega))
   ·refine foA zaA [] [] Tryz.func70 Tryz.ntmps70 Tryz.results70 ?_
    (all_goals refine fv ?_;repeat' first|exact .intro|refine Tw.mk ?_ ?_|(intro h;first|replace h:=h.o|cases h))
    all_goals (((try (conv => whnf));refine StopRet.by [0, 1, 2, 3] ?_;repeat' first|exact .intro|refine Tw.mk ?_ ?_); all_goals (first | rfl | (exact owM_none)))
  ·have hV : parB ⟨kn, [a]⟩ p = ⟨kn, [a]⟩ := if_neg (by simp [inP]; omega)
   rw [hV]
   refine foA zaA [] [] Tryz.func70 Tryz.ntmps70 Tryz.results70 ?_
   (all_goals refine fv ?_;repeat' first|exact .intro|refine Tw.mk ?_ ?_|(intro h;first|replace h:=h.o|cases h))
   all_goals exact Y13
 ·by_cases hp : 0 <= p /\ p < 2
  ·refine or3 (by omega : p = 0 \/ p = 1 \/ p = 2) (fun e => ?_) (fun e => ?_) (fun e => ?_)
   all_goals (subst e)
   all_goals (try (exfalso; omega))
   ·exact Y48
   ·exact Y48
  ·have hV : parB ⟨kn, [a, b]⟩ p = ⟨kn, [a, b]⟩ := if_neg (by simp [inP]; omega)
   rw [hV]
   refine foA zaA [] [] Tryz.func70 Tryz.ntmps70 Tryz.results70 ?_
   (all_goals refine fv ?_;repeat' first|exact .intro|refine Tw.mk ?_ ?_|(intro h;first|replace h:=h.o|cases h))
   all_goals exact Y28
 ·by_cases hp : 0 <= p /\ p < 3
  ·refine or3 (by omega : p = 0 \/ p = 1 \/ p = 2) (fun e => ?_) (fun e => ?_) (fun e => ?_)
   all_goals (subst e)
   ·exact Y30
   ·exact Y30
   ·exact Y30
  ·have hV : parB ⟨kn, [a, b, c]⟩ p = ⟨kn, [a, b, c]⟩ := if_neg (by simp [inP]; omega)
   rw [hV]
   refine foA zaA [] [] Tryz.func70 Tryz.ntmps70 Tryz.results70 ?_
   (all_goals refine fv ?_;repeat' first|exact .intro|refine Tw.mk ?_ ?_|(intro h;first|replace h:=h.o|cases h))
   all_goals exact Y22
def zdA (l : List Ac) (n : Int) : Bool := decide ((l.length : Int) <= n) && l.all fun q => decide (q.s.size <= 200) && decide (q.p.o.length <= 12) && decide (q.x.2.2.length <= 9)
theorem zer {l : List Ac} {n : Int} (h : zdA l n = true) : (l.length : Int) <= n /\ ∀ q ∈ l, q.s.size <= 200 /\ q.p.o.length <= 12 /\ q.x.2.2.length <= 9 := by
 simp only [zdA, Bool.and_eq_true, decide_eq_true_eq, List.all_eq_true, and_assoc] at h
 exact h
theorem zmD {l : List Ac} {n : Int} {k : Nat} (hk : k < l.length) (h : 200 < l[k].s.size \/ 12 < l[k].p.o.length \/ 9 < l[k].x.2.2.length) : zdA l n = false := by
 cases e : zdA l n with
 | false => rfl
 | true =>
  have := (zer e).2 l[k] (List.getElem_mem hk)
  omega
theorem zmT (p : Pk) : Fn Tryz.prog 27 [pkAV p] [] (.v (.bool (decide (p.o.length <= 12)))) [] := by
 unfold pkAV zc2
 refine foA zaA [] [] Tryz.func27 Tryz.ntmps27 Tryz.results27 ?_
 (all_goals refine gv ?_)
 ((try (conv => whnf));refine StopRet.by [] ?_;repeat' first|exact .intro|refine Tw.mk ?_ ?_)
 all_goals (simp; try omega)
theorem zfW (l : List Ac) (n : Int) (hn : n <= 1000) : Fn Tryz.prog 9 [.sl 12 (l.map zf4) none, .v (.int .i64 n)] [] (.v (.bool (zdA l n))) [] := by
 refine foA zaA [] [] Tryz.func9 Tryz.ntmps9 Tryz.results9 ?_
 (all_goals refine gv ?_;repeat' first|exact .intro|refine Tw.mk ?_ ?_|(intro h;first|replace h:=h.o|cases h))
 ·((try (conv => whnf));refine StopRet.by [] ?_;repeat' first|exact .intro|refine Tw.mk ?_ ?_)
  have hd : decide ((l.length : Int) <= n) = false := decide_eq_false (by omega)
  unfold zdA
  rw [hd]; rfl
 refine lpG (fun k : Nat => ⟨[(0, .sl 12 (l.map zf4) none), (5, .v (.int .i64 k))], []⟩) (fun k => k <= l.length /\ ∀ i (h : i < l.length), i < k -> l[i].s.size <= 200 /\ l[i].p.o.length <= 12 /\ l[i].x.2.2.length <= 9) (fun k => l.length - k) 0 ⟨by omega, fun i _ h => by omega⟩ (by (refine zaC [] ?_;repeat' first|exact .intro|refine Tw.mk ?_ ?_)) ?_
 rintro k ⟨hk, hg⟩
 by_cases hk' : k < l.length
 ·have hp := zmT l[k].p
  have hbad := zmD (n := n) hk'
  unfold pkAV zc2 at hp
  by_cases h12 : l[k].p.o.length <= 12
  ·rw [decide_eq_true h12] at hp
   (all_goals refine gv ?_;repeat' first|exact .intro|refine Tw.mk ?_ ?_|(intro h;first|replace h:=h.o|cases h))
   (all_goals (try ((first|refine StopCall.by0 (hp) ?_|refine StopPure.by0 (hp) ?_);(all_goals refine gv ?_;repeat' first|exact .intro|refine Tw.mk ?_ ?_|(intro h;first|replace h:=h.o|cases h)))))
   all_goals first
    | (((try (conv => whnf));refine StopRet.by [] ?_;repeat' first|exact .intro|refine Tw.mk ?_ ?_); exact (hbad (by omega)).symm)
    | (
      refine zaO (k + 1) ⟨by omega, fun i h hi => ?_⟩ (by omega) (by (refine zaC [] ?_;repeat' first|exact .intro|refine Tw.mk ?_ ?_))
      by_cases e : i = k
      ·subst e
       refine ⟨by omega, by omega, by omega⟩
      ·exact hg i h (by omega))
  ·rw [decide_eq_false h12] at hp
   (all_goals refine gv ?_;repeat' first|exact .intro|refine Tw.mk ?_ ?_|(intro h;first|replace h:=h.o|cases h))
   (all_goals (try ((first|refine StopCall.by0 (hp) ?_|refine StopPure.by0 (hp) ?_);(all_goals refine gv ?_;repeat' first|exact .intro|refine Tw.mk ?_ ?_|(intro h;first|replace h:=h.o|cases h)))))
   all_goals (((try (conv => whnf));refine StopRet.by [] ?_;repeat' first|exact .intro|refine Tw.mk ?_ ?_); exact (hbad (by omega)).symm)
 ·have ek : k = l.length := by omega
  subst ek
  (all_goals refine gv ?_;repeat' first|exact .intro|refine Tw.mk ?_ ?_|(intro h;first|replace h:=h.o|cases h))
  ((try (conv => whnf));refine StopRet.by [] ?_;repeat' first|exact .intro|refine Tw.mk ?_ ?_)
  symm
  simp only [zdA, Bool.and_eq_true, decide_eq_true_eq, List.all_eq_true]
  refine ⟨by omega, fun q hq => ?_⟩
  obtain ⟨i, hi, rfl⟩ := List.mem_iff_getElem.1 hq
  have := hg i hi hi
  exact ⟨⟨this.1, this.2.1⟩, this.2.2⟩
end Go.Proofs.YtimfnpjcedjmiadGreat
