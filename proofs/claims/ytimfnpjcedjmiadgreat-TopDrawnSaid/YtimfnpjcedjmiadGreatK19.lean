/- Lemmas. -/
import Derived.Test.YtimfnpjcedjmiadGreatK18
set_option maxRecDepth 100000
set_option maxHeartbeats 64000000
set_option linter.all false
namespace Go.Proofs.YtimfnpjcedjmiadGreat
open Go.RowKit
def heardPl : List (Nat × Pl) := [(2, .op 0 (.op 1 (.op 2 (.op 3 (.op 4 (.op 5 (.op 6 (.done))))))))]
def carryPl : List (Nat × Pl) := [(1, .op 0 (.op 1 (.op 2 (.op 3 (.op 4 (.op 5 (.op 6 (.op 7 (.op 8 (.op 9 (.op 10 (.done))))))))))))]
theorem zhf (s : ByteArray) : stOf (bs s) = (zaf s, sid s, sopt s) := by unfold stOf; rw [zdo]
theorem ziQ (s : ByteArray) : serr s = 0 \/ serr s = 4 := by unfold serr; split <;> simp
theorem zjd (s : ByteArray) : (sopt s).length <= 6 /\ 0 <= sid s := by
 unfold sopt sid
 split
 ·rename_i h
  have := zaK (zeg.1 h).2.2
  exact ⟨this.2.2.2.2.1, by omega⟩
 ·simp
theorem slice_bs (s : ByteArray) (h : 2 <= s.size) : s.extract 2 s.size = tx ((bs s).drop 2) := by
 have hl := zcn s
 rw [zd4 s (by omega), <- hl, List.take_length]
theorem zgt (id dr : Int) (b : Ba) (hb : b.ok) (inb : List Mg) (p0 p1 p2 : Pt) (i : Nat) (s : ByteArray) (hs : s.size <= 1000) : Fn Tryz.prog 86 [.box 0 0, .v (.int .i64 i), .v (.string s)] (rtM ⟨id, [p0, p1, p2], b, inb, dr⟩ 0) (.tup []) (rtM (zcZ ⟨id, [p0, p1, p2], b, inb, dr⟩ i (bs s)) 0) := by
 have sp := zeQ s hs
 have hh := zmk hb i (zaf s, sid s, sopt s)
 have hd : zcZ ⟨id, [p0, p1, p2], b, inb, dr⟩ i (bs s) = if serr s = 0 then ⟨id, [p0, p1, p2], hrdB b i (zaf s, sid s, sopt s), inb, dr⟩ else ⟨id, [p0, p1, p2], b, inb, dr⟩ := by unfold zcZ; rw [zdo, zhf]
 rw [hd]
 clear hd
 unfold zaF at hh
 generalize zas b i (zaf s, sid s, sopt s) = F at *
 generalize hrdB b i (zaf s, sid s, sopt s) = B at *
 generalize zaf s = X0 at *
 generalize sid s = X1 at *
 generalize sopt s = X2 at *
 rcases ziQ s with he | he
 ·rw [he] at sp ⊢
  rw [if_pos rfl]
  simp only [rtM, rtH, zaD, rtP, prQ]
  refine foP zaA (heardPl) [] [] Tryz.func86 Tryz.ntmps86 Tryz.results86 ?_
  (all_goals refine gv ?_)
  all_goals ((refine StopCall.fz [] (sp) ?_;(all_goals refine lv ?_;repeat' first|exact .intro|refine Tw.mk ?_ ?_|(intro h;first|replace h:=h.o|cases h))))
  all_goals ((refine StopCall.fz [2] (hh) ?_;(all_goals refine lv ?_)))
  all_goals exact Y1
 ·rw [he] at sp ⊢
  rw [if_neg (by decide)]
  simp only [rtM, rtH, zaD, rtP, prQ]
  refine foP zaA (heardPl) [] [] Tryz.func86 Tryz.ntmps86 Tryz.results86 ?_
  (all_goals refine gv ?_)
  all_goals ((refine StopCall.fz [] (sp) ?_;(all_goals refine lv ?_;repeat' first|exact .intro|refine Tw.mk ?_ ?_|(intro h;first|replace h:=h.o|cases h))))
  all_goals exact Y1
theorem zgY (id dr : Int) (b : Ba) (hb : b.ok) (inb : List Mg) (p0 p1 p2 : Pt) (s : ByteArray) (hs : s.size <= 1000) (hd : -1000000000 <= dr /\ dr <= 1000000000) (hi : inb.length <= 10000000) (ho : ∀ p ∈ [p0, p1, p2], p.out.length <= 1000000000) : Fn Tryz.prog 87 [.box 0 0, .v (.string s)] (rtM ⟨id, [p0, p1, p2], b, inb, dr⟩ 0) (.tup []) (rtM (zba ⟨id, [p0, p1, p2], b, inb, dr⟩ (bs s)) 1) := by
 have hl := zcn s
 have b0 := zat s 0
 have b1 := zat s 1
 by_cases hc : 2 <= s.size /\ s.size <= 22
 ·have sd := zkh id dr b hb inb p0 p1 p2 (zaG s 0) (zaG s 1) (s.extract 2 s.size) (by rw [ByteArray.size_extract]; omega) hd ⟨by omega, by omega⟩ hi ho
  have e : zba ⟨id, [p0, p1, p2], b, inb, dr⟩ (bs s) = zde ⟨id, [p0, p1, p2], b, inb, dr⟩ ⟨zaG s 0, zaG s 1, s.extract 2 s.size⟩ := by
   unfold zba
   rw [if_pos (by omega), slice_bs s hc.1]; rfl
  rw [e]
  obtain ⟨q0, q1, q2, hq⟩ := lit3 (zeh ⟨id, [p0, p1, p2], b, inb, dr⟩ ⟨zaG s 0, zaG s 1, s.extract 2 s.size⟩) rfl
  rw [hq] at sd ⊢
  clear e hq
  generalize (zde ⟨id, [p0, p1, p2], b, inb, dr⟩ ⟨zaG s 0, zaG s 1, s.extract 2 s.size⟩).b = b' at *
  generalize (zde ⟨id, [p0, p1, p2], b, inb, dr⟩ ⟨zaG s 0, zaG s 1, s.extract 2 s.size⟩).inb = inb' at *
  generalize (zde ⟨id, [p0, p1, p2], b, inb, dr⟩ ⟨zaG s 0, zaG s 1, s.extract 2 s.size⟩).dr = dr' at *
  obtain ⟨hc1, hc2⟩ := hc
  simp only [rtM, rtH, zaD, rtP, prQ] at sd ⊢
  refine foP zaA (carryPl) [] [] Tryz.func87 Tryz.ntmps87 Tryz.results87 ?_
  (all_goals refine gv ?_;repeat' first|exact .intro|refine Tw.mk ?_ ?_|(intro h;first|replace h:=h.o|cases h))
  all_goals ((refine StopCall.fz zaP (sd) ?_;(all_goals refine lv ?_)))
  all_goals exact Y1
 ·have e : zba ⟨id, [p0, p1, p2], b, inb, dr⟩ (bs s) = ⟨id, [p0, p1, p2], b, inb, dr⟩ := by unfold zba; rw [if_neg (by omega)]
  rw [e]
  simp only [rtM, rtH, zaD, rtP, prQ]
  refine foP zaA (carryPl) [] [] Tryz.func87 Tryz.ntmps87 Tryz.results87 ?_
  (all_goals refine gv ?_;repeat' first|exact .intro|refine Tw.mk ?_ ?_|(intro h;first|replace h:=h.o|cases h))
  all_goals exact Y1
theorem ziB {b : Ba} (hb : b.ok) (p : Int) : Fn Tryz.prog 70 [.box 0 0, .v (.int .i64 p)] [baR b] (.tup []) [baR (parB b p)] :=
 zcd hb.n1 hb.n3 (zez hb p).n1 (zez hb p).n3 (fpart_ok b.kn b.ow hb.n1 hb.n3 p) rfl
theorem zdT (r : Rt) : zbm r = { r with b := (zbm r).b } := by unfold zbm; split <;> rfl
theorem ziF {r : Rt} (h : r.b.ok) : (zbm r).b.ok := by
 unfold zbm
 split
 ·exact zfR h _
 ·exact h
theorem zdQ (id dr : Int) (b : Ba) (hb : b.ok) (inb : List Mg) (p0 p1 p2 : Pt) (hm : ∀ p ∈ [p0, p1, p2], 0 <= p.m /\ p.m <= 20) (now : Pe) : Fn Tryz.prog 49 [.box 0 0, .v (.int .i64 0), .agg (peRow now)] (rtM ⟨id, [p0, p1, p2], b, inb, dr⟩ 0) (.tup []) (rtM (zaT ⟨id, [p0, p1, p2], b, inb, dr⟩ 0 now) 0) := by
 obtain ⟨m, l, rd, rest, ⟨w0, b0, l0⟩, out⟩ := p0
 obtain ⟨w, bo, lf⟩ := now
 have pt := ziB hb 0
 have hpb := zez hb 0
 have te := zhh id dr (parB b 0) hpb inb ⟨m, l, rd, rest, ⟨w, bo, lf⟩, out⟩ p1 p2 (by simpa using hm)
 have hB := ziF (r := ⟨id, [⟨m, l, rd, rest, ⟨w, bo, lf⟩, out⟩, p1, p2], parB b 0, inb, dr⟩) hpb
 have hd : zaT ⟨id, [⟨m, l, rd, rest, ⟨w0, b0, l0⟩, out⟩, p1, p2], b, inb, dr⟩ 0 ⟨w, bo, lf⟩ = if b0 = bo /\ w0 = w then ⟨id, [⟨m, l, rd, rest, ⟨w, bo, lf⟩, out⟩, p1, p2], b, inb, dr⟩ else if bo then ⟨id, [⟨m, l, rd, rest, ⟨w, bo, lf⟩, out⟩, p1, p2], metB (zbm ⟨id, [⟨m, l, rd, rest, ⟨w, bo, lf⟩, out⟩, p1, p2], parB b 0, inb, dr⟩).b 0, inb, dr⟩ else ⟨id, [⟨m, l, rd, rest, ⟨w, bo, lf⟩, out⟩, p1, p2], (zbm ⟨id, [⟨m, l, rd, rest, ⟨w, bo, lf⟩, out⟩, p1, p2], parB b 0, inb, dr⟩).b, inb, dr⟩ := by
  unfold zaT
  rw [zdT]
  rfl
 rw [hd]
 rw [zdT] at te
 clear hd
 have mt := zhs hB 0
 generalize (zbm ⟨id, [⟨m, l, rd, rest, ⟨w, bo, lf⟩, out⟩, p1, p2], parB b 0, inb, dr⟩).b = B at *
 generalize metE B 0 = F at *
 generalize metB B 0 = C at *
 generalize parB b 0 = D at *
 by_cases hc : b0 = bo /\ w0 = w
 ·rw [if_pos hc]
  obtain ⟨rfl, rfl⟩ := hc
  simp only [rtM, rtH, zaD, rtP, prQ, peRow] at *
  refine foA zaA [] [] Tryz.func49 Tryz.ntmps49 Tryz.results49 ?_
  (all_goals refine fv ?_;repeat' first|exact .intro|refine Tw.mk ?_ ?_|(intro h;first|replace h:=h.o|cases h))
  all_goals exact Y4
 ·exact Y8
theorem zdP (id dr : Int) (b : Ba) (hb : b.ok) (inb : List Mg) (p0 p1 p2 : Pt) (hm : ∀ p ∈ [p0, p1, p2], 0 <= p.m /\ p.m <= 20) (now : Pe) : Fn Tryz.prog 49 [.box 0 0, .v (.int .i64 1), .agg (peRow now)] (rtM ⟨id, [p0, p1, p2], b, inb, dr⟩ 0) (.tup []) (rtM (zaT ⟨id, [p0, p1, p2], b, inb, dr⟩ 1 now) 0) := by
 obtain ⟨m, l, rd, rest, ⟨w0, b0, l0⟩, out⟩ := p1
 obtain ⟨w, bo, lf⟩ := now
 have pt := ziB hb 1
 have hpb := zez hb 1
 have te := zhh id dr (parB b 1) hpb inb p0 ⟨m, l, rd, rest, ⟨w, bo, lf⟩, out⟩ p2 (by simpa using hm)
 have hB := ziF (r := ⟨id, [p0, ⟨m, l, rd, rest, ⟨w, bo, lf⟩, out⟩, p2], parB b 1, inb, dr⟩) hpb
 have hd : zaT ⟨id, [p0, ⟨m, l, rd, rest, ⟨w0, b0, l0⟩, out⟩, p2], b, inb, dr⟩ 1 ⟨w, bo, lf⟩ = if b0 = bo /\ w0 = w then ⟨id, [p0, ⟨m, l, rd, rest, ⟨w, bo, lf⟩, out⟩, p2], b, inb, dr⟩ else if bo then ⟨id, [p0, ⟨m, l, rd, rest, ⟨w, bo, lf⟩, out⟩, p2], metB (zbm ⟨id, [p0, ⟨m, l, rd, rest, ⟨w, bo, lf⟩, out⟩, p2], parB b 1, inb, dr⟩).b 1, inb, dr⟩ else ⟨id, [p0, ⟨m, l, rd, rest, ⟨w, bo, lf⟩, out⟩, p2], (zbm ⟨id, [p0, ⟨m, l, rd, rest, ⟨w, bo, lf⟩, out⟩, p2], parB b 1, inb, dr⟩).b, inb, dr⟩ := by
  unfold zaT
  rw [zdT]
  rfl
 rw [hd]
 rw [zdT] at te
 clear hd
 have mt := zhs hB 1
 generalize (zbm ⟨id, [p0, ⟨m, l, rd, rest, ⟨w, bo, lf⟩, out⟩, p2], parB b 1, inb, dr⟩).b = B at *
 generalize metE B 1 = F at *
 generalize metB B 1 = C at *
 generalize parB b 1 = D at *
 by_cases hc : b0 = bo /\ w0 = w
 ·rw [if_pos hc]
  obtain ⟨rfl, rfl⟩ := hc
  simp only [rtM, rtH, zaD, rtP, prQ, peRow] at *
  refine foA zaA [] [] Tryz.func49 Tryz.ntmps49 Tryz.results49 ?_
  (all_goals refine fv ?_;repeat' first|exact .intro|refine Tw.mk ?_ ?_|(intro h;first|replace h:=h.o|cases h))
  all_goals exact Y4
 ·exact Y8
theorem zcy (id dr : Int) (b : Ba) (hb : b.ok) (inb : List Mg) (p0 p1 p2 : Pt) (hm : ∀ p ∈ [p0, p1, p2], 0 <= p.m /\ p.m <= 20) (now : Pe) : Fn Tryz.prog 49 [.box 0 0, .v (.int .i64 2), .agg (peRow now)] (rtM ⟨id, [p0, p1, p2], b, inb, dr⟩ 0) (.tup []) (rtM (zaT ⟨id, [p0, p1, p2], b, inb, dr⟩ 2 now) 0) := by
 obtain ⟨m, l, rd, rest, ⟨w0, b0, l0⟩, out⟩ := p2
 obtain ⟨w, bo, lf⟩ := now
 have pt := ziB hb 2
 have hpb := zez hb 2
 have te := zhh id dr (parB b 2) hpb inb p0 p1 ⟨m, l, rd, rest, ⟨w, bo, lf⟩, out⟩ (by simpa using hm)
 have hB := ziF (r := ⟨id, [p0, p1, ⟨m, l, rd, rest, ⟨w, bo, lf⟩, out⟩], parB b 2, inb, dr⟩) hpb
 have hd : zaT ⟨id, [p0, p1, ⟨m, l, rd, rest, ⟨w0, b0, l0⟩, out⟩], b, inb, dr⟩ 2 ⟨w, bo, lf⟩ = if b0 = bo /\ w0 = w then ⟨id, [p0, p1, ⟨m, l, rd, rest, ⟨w, bo, lf⟩, out⟩], b, inb, dr⟩ else if bo then ⟨id, [p0, p1, ⟨m, l, rd, rest, ⟨w, bo, lf⟩, out⟩], metB (zbm ⟨id, [p0, p1, ⟨m, l, rd, rest, ⟨w, bo, lf⟩, out⟩], parB b 2, inb, dr⟩).b 2, inb, dr⟩ else ⟨id, [p0, p1, ⟨m, l, rd, rest, ⟨w, bo, lf⟩, out⟩], (zbm ⟨id, [p0, p1, ⟨m, l, rd, rest, ⟨w, bo, lf⟩, out⟩], parB b 2, inb, dr⟩).b, inb, dr⟩ := by
  unfold zaT
  rw [zdT]
  rfl
 rw [hd]
 rw [zdT] at te
 clear hd
 have mt := zhs hB 2
 generalize (zbm ⟨id, [p0, p1, ⟨m, l, rd, rest, ⟨w, bo, lf⟩, out⟩], parB b 2, inb, dr⟩).b = B at *
 generalize metE B 2 = F at *
 generalize metB B 2 = C at *
 generalize parB b 2 = D at *
 by_cases hc : b0 = bo /\ w0 = w
 ·rw [if_pos hc]
  obtain ⟨rfl, rfl⟩ := hc
  simp only [rtM, rtH, zaD, rtP, prQ, peRow] at *
  refine foA zaA [] [] Tryz.func49 Tryz.ntmps49 Tryz.results49 ?_
  (all_goals refine fv ?_;repeat' first|exact .intro|refine Tw.mk ?_ ?_|(intro h;first|replace h:=h.o|cases h))
  all_goals exact Y4
 ·exact Y8
theorem zkZ {l : Lk} {e : Int} (h : doE l e ≠ 0) : doL l e = l := by
 unfold doE at h
 unfold doL
 split
 ·rfl
 ·rename_i hc
  rw [if_neg hc] at h
  unfold evtL
  rw [if_neg h]
theorem stepE_nn (s e : Int) : zan s e = 0 \/ zan s e = 7 \/ zan s e = 1 := by unfold zan; split <;> (try split) <;> simp
theorem zpA (l : Lk) (e : Int) : 0 <= doE l e := by
 unfold doE
 split
 ·decide
 ·rcases stepE_nn l.st e with h | h | h <;> omega
theorem zgu (id dr : Int) (b : Ba) (inb : List Mg) (p0 p1 p2 : Pt) : Fn Tryz.prog 34 [.box 0 0, .v (.int .i64 0)] (rtM ⟨id, [p0, p1, p2], b, inb, dr⟩ 0) (.tup [.box 4 0, .err 0]) (rtM ⟨id, [p0, p1, p2], b, inb, dr⟩ 0) := by
 simp only [rtM, rtH, zaD, rtP, prQ]
 refine foA zaA [] [] Tryz.func34 Tryz.ntmps34 Tryz.results34 ?_
 (all_goals refine fv ?_;repeat' first|exact .intro|refine Tw.mk ?_ ?_|(intro h;first|replace h:=h.o|cases h))
 all_goals exact Y4
theorem zmY (id dr : Int) (b : Ba) (hb : b.ok) (inb : List Mg) (p0 p1 p2 : Pt) (hm : ∀ p ∈ [p0, p1, p2], 0 <= p.m /\ p.m <= 20) (up : Bool) (hl : p0.l.fit 0) (ho : p0.out.length <= 10000000) : Fn Tryz.prog 36 [.box 0 0, .v (.int .i64 0), .v (.bool up)] (rtM ⟨id, [p0, p1, p2], b, inb, dr⟩ 0) (.err (zdO ⟨id, [p0, p1, p2], b, inb, dr⟩ 0 up)) (rtM (zae ⟨id, [p0, p1, p2], b, inb, dr⟩ 0 up) 1) := by
 obtain ⟨m, l, rd, rest, pe, out⟩ := p0
 dsimp only at hl ho
 have at1 := zgu id dr b inb ⟨m, l, rd, rest, pe, out⟩ p1 p2
 obtain ⟨E, hE⟩ : ∃ E : Int, E = if up then 0 else 1 := ⟨_, rfl⟩
 have hd := zbl l (hl.ok.mono (by decide)) E
 have hfit := zdg (e := E) hl (by decide)
 have hq1 : (doL l E).out.length <= 1000 := by have := hfit.ok.out; omega
 have hq2 : ∀ x ∈ (doL l E).out, x.o.length <= 1000 := fun x hx => by
  exact Y56
 have hP : zae ⟨id, [⟨m, l, rd, rest, pe, out⟩, p1, p2], b, inb, dr⟩ 0 up = if doE l E ≠ 0 then ⟨id, [⟨m, l, rd, rest, pe, out⟩, p1, p2], b, inb, dr⟩ else zaT ⟨id, [⟨m, outL (doL l E), rd0, [], pe, out ++ (doL l E).out.flatMap flB⟩, p1, p2], b, inb, dr⟩ 0 peNo := by
  unfold zae zdO
  rw [<- hE]; rfl
 rw [hP, show zdO ⟨id, [⟨m, l, rd, rest, pe, out⟩, p1, p2], b, inb, dr⟩ 0 up = doE l E from by unfold zdO; rw [<- hE]; rfl]
 clear hP
 have hnn := zpA l E
 by_cases hz : doE l E = 0
 ·rw [if_neg (by simpa using hz), hz]
  rw [hz] at hd
  have fl := zbr ⟨m, doL l E, rd0, [], pe, out⟩ hq1 hq2 (by dsimp only; omega)
  rw [show zbe ⟨m, doL l E, rd0, [], pe, out⟩ = ⟨m, outL (doL l E), rd0, [], pe, out ++ (doL l E).out.flatMap flB⟩ from rfl] at fl
  have ct := zdQ id dr b hb inb ⟨m, outL (doL l E), rd0, [], pe, out ++ (doL l E).out.flatMap flB⟩ p1 p2 (by simpa using hm) peNo
  obtain ⟨q0, q1, q2, hq⟩ := lit3 (zaU ⟨id, [⟨m, outL (doL l E), rd0, [], pe, out ++ (doL l E).out.flatMap flB⟩, p1, p2], b, inb, dr⟩ 0 peNo) rfl
  rw [hq] at ct ⊢
  clear hq
  generalize (doL l E).out.flatMap flB = FB at *
  generalize hDL : doL l E = DL at *
  unfold ptM prM at fl
  dsimp only at fl
  simp only [rtM, rtH, zaD, rtP, prQ, peRow, peNo] at ct at1 ⊢
  cases up <;> simp only [if_true, if_false, Bool.false_eq_true] at hE <;> subst hE
  all_goals
   refine foA zaA [] [11] Tryz.func36 Tryz.ntmps36 Tryz.results36 ?_
   (all_goals refine gv ?_)
   all_goals ((refine StopCall.fz zaP (at1) ?_;(all_goals refine lv ?_;repeat' first|exact .intro|refine Tw.mk ?_ ?_|(intro h;first|replace h:=h.o|cases h))))
   all_goals ((refine StopCall.fz [5] (hd) ?_;(all_goals refine lv ?_;repeat' first|exact .intro|refine Tw.mk ?_ ?_|(intro h;first|replace h:=h.o|cases h))))
   refine cutK ⟨[(0, .box 0 0), (1, .v (.int .i64 0)), (7, .box 4 0)], rtM ⟨id, [⟨m, DL, rd0, [], pe, out⟩, p1, p2], b, inb, dr⟩ 1⟩ ?_ (fun hy => ?_)
   ·simp only [rtM, rtH, zaD, rtP, prQ]
    (all_goals refine gv ?_)
    all_goals ((refine StopCall.fz [4, 5, 6, 7] (fl) ?_;(all_goals refine lv ?_)))
    all_goals ((refine StopCall.fz zaP (ct) ?_;(all_goals refine lv ?_)))
    all_goals exact Y4
   ·simp only [rtM, rtH, zaD, rtP, prQ] at hy
    (all_goals refine fv ?_)
    all_goals (exact ⟨_, AS.le_trans (zb1 6 4 2 _ rfl (by decide) rfl rfl) (by (refine zaC [0, 1, 2, 3, 4, 5, 6, 7, 8, 9, 10, 11, 12, 13, 14, 15] ?_;repeat' first|exact .intro|refine Tw.mk ?_ ?_)), hy⟩)
 ·rw [if_pos (by simpa using hz)]
  rw [zkZ hz] at hd
  clear hq1 hq2 hfit
  generalize doE l E = F at *
  simp only [rtM, rtH, zaD, rtP, prQ] at at1 ⊢
  cases up <;> simp only [if_true, if_false, Bool.false_eq_true] at hE <;> subst hE
  all_goals
   refine foA zaA [] [] Tryz.func36 Tryz.ntmps36 Tryz.results36 ?_
   (all_goals refine gv ?_)
   all_goals ((refine StopCall.fz zaP (at1) ?_;(all_goals refine lv ?_;repeat' first|exact .intro|refine Tw.mk ?_ ?_|(intro h;first|replace h:=h.o|cases h))))
   all_goals ((refine StopCall.fz [5] (hd) ?_;(all_goals refine lv ?_;repeat' first|exact .intro|refine Tw.mk ?_ ?_|(intro h;first|replace h:=h.o|cases h))))
   all_goals exact Y4
theorem zfy (id dr : Int) (b : Ba) (inb : List Mg) (p0 p1 p2 : Pt) : Fn Tryz.prog 34 [.box 0 0, .v (.int .i64 1)] (rtM ⟨id, [p0, p1, p2], b, inb, dr⟩ 0) (.tup [.box 8 0, .err 0]) (rtM ⟨id, [p0, p1, p2], b, inb, dr⟩ 0) := by
 simp only [rtM, rtH, zaD, rtP, prQ]
 refine foA zaA [] [] Tryz.func34 Tryz.ntmps34 Tryz.results34 ?_
 (all_goals refine fv ?_;repeat' first|exact .intro|refine Tw.mk ?_ ?_|(intro h;first|replace h:=h.o|cases h))
 all_goals exact Y4
theorem zo5 (id dr : Int) (b : Ba) (hb : b.ok) (inb : List Mg) (p0 p1 p2 : Pt) (hm : ∀ p ∈ [p0, p1, p2], 0 <= p.m /\ p.m <= 20) (up : Bool) (hl : p1.l.fit 0) (ho : p1.out.length <= 10000000) : Fn Tryz.prog 36 [.box 0 0, .v (.int .i64 1), .v (.bool up)] (rtM ⟨id, [p0, p1, p2], b, inb, dr⟩ 0) (.err (zdO ⟨id, [p0, p1, p2], b, inb, dr⟩ 1 up)) (rtM (zae ⟨id, [p0, p1, p2], b, inb, dr⟩ 1 up) 1) := by
 obtain ⟨m, l, rd, rest, pe, out⟩ := p1
 dsimp only at hl ho
 have at1 := zfy id dr b inb p0 ⟨m, l, rd, rest, pe, out⟩ p2
 obtain ⟨E, hE⟩ : ∃ E : Int, E = if up then 0 else 1 := ⟨_, rfl⟩
 have hd := zbl l (hl.ok.mono (by decide)) E
 have hfit := zdg (e := E) hl (by decide)
 have hq1 : (doL l E).out.length <= 1000 := by have := hfit.ok.out; omega
 have hq2 : ∀ x ∈ (doL l E).out, x.o.length <= 1000 := fun x hx => by
  exact Y56
 have hP : zae ⟨id, [p0, ⟨m, l, rd, rest, pe, out⟩, p2], b, inb, dr⟩ 1 up = if doE l E ≠ 0 then ⟨id, [p0, ⟨m, l, rd, rest, pe, out⟩, p2], b, inb, dr⟩ else zaT ⟨id, [p0, ⟨m, outL (doL l E), rd0, [], pe, out ++ (doL l E).out.flatMap flB⟩, p2], b, inb, dr⟩ 1 peNo := by
  unfold zae zdO
  rw [<- hE]; rfl
 rw [hP, show zdO ⟨id, [p0, ⟨m, l, rd, rest, pe, out⟩, p2], b, inb, dr⟩ 1 up = doE l E from by unfold zdO; rw [<- hE]; rfl]
 clear hP
 have hnn := zpA l E
 by_cases hz : doE l E = 0
 ·rw [if_neg (by simpa using hz), hz]
  rw [hz] at hd
  have fl := zbr ⟨m, doL l E, rd0, [], pe, out⟩ hq1 hq2 (by dsimp only; omega)
  rw [show zbe ⟨m, doL l E, rd0, [], pe, out⟩ = ⟨m, outL (doL l E), rd0, [], pe, out ++ (doL l E).out.flatMap flB⟩ from rfl] at fl
  have ct := zdP id dr b hb inb p0 ⟨m, outL (doL l E), rd0, [], pe, out ++ (doL l E).out.flatMap flB⟩ p2 (by simpa using hm) peNo
  obtain ⟨q0, q1, q2, hq⟩ := lit3 (zaU ⟨id, [p0, ⟨m, outL (doL l E), rd0, [], pe, out ++ (doL l E).out.flatMap flB⟩, p2], b, inb, dr⟩ 1 peNo) rfl
  rw [hq] at ct ⊢
  clear hq
  generalize (doL l E).out.flatMap flB = FB at *
  generalize hDL : doL l E = DL at *
  unfold ptM prM at fl
  dsimp only at fl
  simp only [rtM, rtH, zaD, rtP, prQ, peRow, peNo] at ct at1 ⊢
  cases up <;> simp only [if_true, if_false, Bool.false_eq_true] at hE <;> subst hE
  all_goals
   refine foA zaA [] [11] Tryz.func36 Tryz.ntmps36 Tryz.results36 ?_
   (all_goals refine gv ?_)
   all_goals ((refine StopCall.fz zaP (at1) ?_;(all_goals refine lv ?_;repeat' first|exact .intro|refine Tw.mk ?_ ?_|(intro h;first|replace h:=h.o|cases h))))
   all_goals ((refine StopCall.fz [9] (hd) ?_;(all_goals refine lv ?_;repeat' first|exact .intro|refine Tw.mk ?_ ?_|(intro h;first|replace h:=h.o|cases h))))
   refine cutK ⟨[(0, .box 0 0), (1, .v (.int .i64 1)), (7, .box 8 0)], rtM ⟨id, [p0, ⟨m, DL, rd0, [], pe, out⟩, p2], b, inb, dr⟩ 1⟩ ?_ (fun hy => ?_)
   ·simp only [rtM, rtH, zaD, rtP, prQ]
    (all_goals refine gv ?_)
    all_goals ((refine StopCall.fz [8, 9, 10, 11] (fl) ?_;(all_goals refine lv ?_)))
    all_goals ((refine StopCall.fz zaP (ct) ?_;(all_goals refine lv ?_)))
    all_goals exact Y4
   ·simp only [rtM, rtH, zaD, rtP, prQ] at hy
    (all_goals refine fv ?_)
    all_goals (exact ⟨_, AS.le_trans (zb1 10 8 2 _ rfl (by decide) rfl rfl) (by (refine zaC [0, 1, 2, 3, 4, 5, 6, 7, 8, 9, 10, 11, 12, 13, 14, 15] ?_;repeat' first|exact .intro|refine Tw.mk ?_ ?_)), hy⟩)
 ·rw [if_pos (by simpa using hz)]
  rw [zkZ hz] at hd
  clear hq1 hq2 hfit
  generalize doE l E = F at *
  simp only [rtM, rtH, zaD, rtP, prQ] at at1 ⊢
  cases up <;> simp only [if_true, if_false, Bool.false_eq_true] at hE <;> subst hE
  all_goals
   refine foA zaA [] [] Tryz.func36 Tryz.ntmps36 Tryz.results36 ?_
   (all_goals refine gv ?_)
   all_goals ((refine StopCall.fz zaP (at1) ?_;(all_goals refine lv ?_;repeat' first|exact .intro|refine Tw.mk ?_ ?_|(intro h;first|replace h:=h.o|cases h))))
   all_goals ((refine StopCall.fz [9] (hd) ?_;(all_goals refine lv ?_;repeat' first|exact .intro|refine Tw.mk ?_ ?_|(intro h;first|replace h:=h.o|cases h))))
   all_goals exact Y4
theorem zgq (id dr : Int) (b : Ba) (inb : List Mg) (p0 p1 p2 : Pt) : Fn Tryz.prog 34 [.box 0 0, .v (.int .i64 2)] (rtM ⟨id, [p0, p1, p2], b, inb, dr⟩ 0) (.tup [.box 12 0, .err 0]) (rtM ⟨id, [p0, p1, p2], b, inb, dr⟩ 0) := by
 simp only [rtM, rtH, zaD, rtP, prQ]
 refine foA zaA [] [] Tryz.func34 Tryz.ntmps34 Tryz.results34 ?_
 (all_goals refine fv ?_;repeat' first|exact .intro|refine Tw.mk ?_ ?_|(intro h;first|replace h:=h.o|cases h))
 all_goals exact Y4
theorem zoB (id dr : Int) (b : Ba) (hb : b.ok) (inb : List Mg) (p0 p1 p2 : Pt) (hm : ∀ p ∈ [p0, p1, p2], 0 <= p.m /\ p.m <= 20) (up : Bool) (hl : p2.l.fit 0) (ho : p2.out.length <= 10000000) : Fn Tryz.prog 36 [.box 0 0, .v (.int .i64 2), .v (.bool up)] (rtM ⟨id, [p0, p1, p2], b, inb, dr⟩ 0) (.err (zdO ⟨id, [p0, p1, p2], b, inb, dr⟩ 2 up)) (rtM (zae ⟨id, [p0, p1, p2], b, inb, dr⟩ 2 up) 1) := by
 obtain ⟨m, l, rd, rest, pe, out⟩ := p2
 dsimp only at hl ho
 have at1 := zgq id dr b inb p0 p1 ⟨m, l, rd, rest, pe, out⟩
 obtain ⟨E, hE⟩ : ∃ E : Int, E = if up then 0 else 1 := ⟨_, rfl⟩
 have hd := zbl l (hl.ok.mono (by decide)) E
 have hfit := zdg (e := E) hl (by decide)
 have hq1 : (doL l E).out.length <= 1000 := by have := hfit.ok.out; omega
 have hq2 : ∀ x ∈ (doL l E).out, x.o.length <= 1000 := fun x hx => by
  exact Y56
 have hP : zae ⟨id, [p0, p1, ⟨m, l, rd, rest, pe, out⟩], b, inb, dr⟩ 2 up = if doE l E ≠ 0 then ⟨id, [p0, p1, ⟨m, l, rd, rest, pe, out⟩], b, inb, dr⟩ else zaT ⟨id, [p0, p1, ⟨m, outL (doL l E), rd0, [], pe, out ++ (doL l E).out.flatMap flB⟩], b, inb, dr⟩ 2 peNo := by
  unfold zae zdO
  rw [<- hE]; rfl
 rw [hP, show zdO ⟨id, [p0, p1, ⟨m, l, rd, rest, pe, out⟩], b, inb, dr⟩ 2 up = doE l E from by unfold zdO; rw [<- hE]; rfl]
 clear hP
 have hnn := zpA l E
 by_cases hz : doE l E = 0
 ·rw [if_neg (by simpa using hz), hz]
  rw [hz] at hd
  have fl := zbr ⟨m, doL l E, rd0, [], pe, out⟩ hq1 hq2 (by dsimp only; omega)
  rw [show zbe ⟨m, doL l E, rd0, [], pe, out⟩ = ⟨m, outL (doL l E), rd0, [], pe, out ++ (doL l E).out.flatMap flB⟩ from rfl] at fl
  have ct := zcy id dr b hb inb p0 p1 ⟨m, outL (doL l E), rd0, [], pe, out ++ (doL l E).out.flatMap flB⟩ (by simpa using hm) peNo
  obtain ⟨q0, q1, q2, hq⟩ := lit3 (zaU ⟨id, [p0, p1, ⟨m, outL (doL l E), rd0, [], pe, out ++ (doL l E).out.flatMap flB⟩], b, inb, dr⟩ 2 peNo) rfl
  rw [hq] at ct ⊢
  clear hq
  generalize (doL l E).out.flatMap flB = FB at *
  generalize hDL : doL l E = DL at *
  unfold ptM prM at fl
  dsimp only at fl
  simp only [rtM, rtH, zaD, rtP, prQ, peRow, peNo] at ct at1 ⊢
  cases up <;> simp only [if_true, if_false, Bool.false_eq_true] at hE <;> subst hE
  all_goals
   refine foA zaA [] [11] Tryz.func36 Tryz.ntmps36 Tryz.results36 ?_
   (all_goals refine gv ?_)
   all_goals ((refine StopCall.fz zaP (at1) ?_;(all_goals refine lv ?_;repeat' first|exact .intro|refine Tw.mk ?_ ?_|(intro h;first|replace h:=h.o|cases h))))
   all_goals ((refine StopCall.fz [13] (hd) ?_;(all_goals refine lv ?_;repeat' first|exact .intro|refine Tw.mk ?_ ?_|(intro h;first|replace h:=h.o|cases h))))
   refine cutK ⟨[(0, .box 0 0), (1, .v (.int .i64 2)), (7, .box 12 0)], rtM ⟨id, [p0, p1, ⟨m, DL, rd0, [], pe, out⟩], b, inb, dr⟩ 1⟩ ?_ (fun hy => ?_)
   ·simp only [rtM, rtH, zaD, rtP, prQ]
    (all_goals refine gv ?_)
    all_goals ((refine StopCall.fz [12, 13, 14, 15] (fl) ?_;(all_goals refine lv ?_)))
    all_goals ((refine StopCall.fz zaP (ct) ?_;(all_goals refine lv ?_)))
    all_goals exact Y4
   ·simp only [rtM, rtH, zaD, rtP, prQ] at hy
    (all_goals refine fv ?_)
    all_goals (exact ⟨_, AS.le_trans (zb1 14 12 2 _ rfl (by decide) rfl rfl) (by (refine zaC [0, 1, 2, 3, 4, 5, 6, 7, 8, 9, 10, 11, 12, 13, 14, 15] ?_;repeat' first|exact .intro|refine Tw.mk ?_ ?_)), hy⟩)
 ·rw [if_pos (by simpa using hz)]
  rw [zkZ hz] at hd
  clear hq1 hq2 hfit
  generalize doE l E = F at *
  simp only [rtM, rtH, zaD, rtP, prQ] at at1 ⊢
  cases up <;> simp only [if_true, if_false, Bool.false_eq_true] at hE <;> subst hE
  all_goals
   refine foA zaA [] [] Tryz.func36 Tryz.ntmps36 Tryz.results36 ?_
   (all_goals refine gv ?_)
   all_goals ((refine StopCall.fz zaP (at1) ?_;(all_goals refine lv ?_;repeat' first|exact .intro|refine Tw.mk ?_ ?_|(intro h;first|replace h:=h.o|cases h))))
   all_goals ((refine StopCall.fz [13] (hd) ?_;(all_goals refine lv ?_;repeat' first|exact .intro|refine Tw.mk ?_ ?_|(intro h;first|replace h:=h.o|cases h))))
   all_goals exact Y4
def tickPl : List (Nat × Pl) := [(11, .op 0 (.op 1 (.op 2 (.op 3 (.op 4 (.op 5 (.op 6 (.op 7 (.op 8 (.op 9 (.op 10 (.op 11 (.op 12 (.op 13 (.op 14 (.done))))))))))))))))]
theorem zg6 {α : Type} {f : Rt -> α -> Rt} (hf : ∀ r a, Like r (f r a)) : ∀ (l : List α) (r : Rt), Like r (l.foldl f r)
 | [], r => Like.refl r
 | a :: l, r => (hf r a).trans (zg6 hf l (f r a))
theorem zcS (r : Rt) (i : Nat) : Like r (zb2 r i) := by
 have h0 : Like r (zbF r i) := zaw ..
 unfold zb2
 split
 ·exact h0.trans (zaU ..)
 ·exact (h0.trans (zaU ..)).trans ((zaw ..).trans (zg6 (fun r a => zaw ..) _ _))
theorem ziO (b : Ba) (p : Int) : (owdB b p).length <= 6 := Nat.le_trans (List.length_filter_le ..) stsB_len
theorem zda {l : Lk} (h : l.fit 0) : (zaE l).fit 10 := by
 have h1 := zfi h (by decide)
 unfold zaE
 split
 ·exact zdg (zdg h1 (by decide)) (by decide)
 ·exact h1.low (by have := h1.ok.out; omega)
theorem zjx {n : Nat} {p : Pt} (h : p.fine n) (x : St3) : (zaS x p).fine (n + 130) := by
 unfold zaS
 split
 ·exact zfl h 83 _
 ·exact h.up (by omega)
theorem zbn {n : Nat} {p : Pt} (h : p.fine n) (id : Int) : (zaR id p).fine (n + 130) := by
 unfold zaR
 split
 ·exact zfl h 72 _
 ·exact h.up (by omega)
theorem zj6 {i : Nat} : ∀ (l : List St3) {n d : Nat} {r : Rt}, r.fine n d -> (l.foldl (fun q x => q.onP i (zaS x)) r).fine (n + 130 * l.length) d
 | [], n, d, r, h => h
 | x :: l, n, d, r, h => by
  have := zj6 (i := i) l (zbC h (show n <= n + 130 by omega) i (fun p hp => zjx hp x))
  rw [List.length_cons, show n + 130 * (l.length + 1) = n + 130 + 130 * l.length by omega]; exact this
theorem zdS {n d : Nat} {r : Rt} (h : r.fine n d) (i : Nat) : (zbF r i).fine (n + 1300) d :=
 zbC h (by omega) i (fun p hp => zfJ (p := { p with l := zaE p.l }) (k := 10) hp.m hp.rd hp.pe hp.out (zda hp.l))
theorem zjw {n d : Nat} {r : Rt} (h : r.fine n d) {i : Nat} (hi : i < r.ps.length) : (r.pt i).fine n := by
 unfold Rt.pt
 rw [List.getD_eq_getElem?_getD, List.getElem?_eq_getElem hi]
 exact h.ps _ (List.getElem_mem hi)
theorem zd1 {n d : Nat} {r : Rt} (h : r.fine n d) {i : Nat} (hi : i < r.ps.length) : (zb2 r i).fine (n + 2210) d := by
 have h0 := zdS h i
 have hlk : Like r (zbF r i) := zaw ..
 have hi0 : i < (zbF r i).ps.length := by rw [hlk.2]; exact hi
 unfold zb2
 split
 ·exact (zbg h0 i zfB).up (by omega)
 ·have h1 := zbg h0 i (zfj (zjw h0 hi0).pe)
  have h2 := zbC h1 (show n + 1300 <= n + 1300 + 130 by omega) i (fun p hp => zbn hp r.id)
  have h3 := zj6 (i := i) (owdB (zaT (zbF r i) i (zax ((zbF r i).pt i).p)).b i) h2
  have := ziO (zaT (zbF r i) i (zax ((zbF r i).pt i).p)).b i
  exact h3.up (by omega)
end Go.Proofs.YtimfnpjcedjmiadGreat
