/- Lemmas. -/
import Derived.Test.YtimfnpjcedjmiadGreatK22
set_option maxRecDepth 100000
set_option maxHeartbeats 64000000
set_option linter.all false
namespace Go.Proofs.YtimfnpjcedjmiadGreat
open Go.RowKit
theorem zlH{l:Lk}{e:Int}(h:doE l e≠0):doL l e=l:=by
 unfold doE at h;unfold doL;split
 .rfl
 .rename_i hc;rw[if_neg hc] at h;unfold evtL;rw[if_neg h]
theorem stepE_nn(s e:Int):zaq s e=0\/zaq s e=7\/zaq s e=1:=by unfold zaq;split<;>(try split)<;>simp
theorem zp2(l:Lk)(e:Int):0<=doE l e:=by
 unfold doE;split
 .decide
 .rcases stepE_nn l.st e with h|h|h<;>omega
theorem zlI(id dr:Int)(b:Ba)(inb:List Mg)(p0 p1 p2:Pt):Fn Tryz.prog 34 [.box 0 0,.v (.int .i64 0)] (rtM ⟨id,[p0,p1,p2],b,inb,dr⟩ 0) (.tup [.box 4 0,.err 0]) (rtM ⟨id,[p0,p1,p2],b,inb,dr⟩ 0):=by
 simp only[rtM,rtH,zaE,rtP,prQ];refine foA zaA [] [] Tryz.func34 Tryz.ntmps34 Tryz.results34 ?_;(all_goals refine fv ?_;repeat' first|exact .intro|refine Tw.mk ?_ ?_|(intro h;first|replace h:=h.o|cases h))
 all_goals (try (exfalso;first|omega|(simp at h;done)))
 all_goals exact Y8
theorem zot(id dr:Int)(b:Ba)(hb:b.ok)(inb:List Mg)(p0 p1 p2:Pt)(hm: ∀p∈[p0,p1,p2],0<=p.m/\p.m<=20)(up:Bool)(hl:p0.l.fit 0)(ho:p0.out.length<=10000000):Fn Tryz.prog 36 [.box 0 0,.v (.int .i64 0),.v (.bool up)] (rtM ⟨id,[p0,p1,p2],b,inb,dr⟩ 0) (.err (zdD ⟨id,[p0,p1,p2],b,inb,dr⟩ 0 up)) (rtM (zaZ ⟨id,[p0,p1,p2],b,inb,dr⟩ 0 up) 1):=by
 obtain⟨m,l,rd,rest,pe,out⟩:=p0;dsimp only at hl ho;have at1:=zlI id dr b inb ⟨m,l,rd,rest,pe,out⟩ p1 p2;obtain⟨E,hE⟩: ∃E:Int,E=if up then 0 else 1:=⟨_,rfl⟩
 have hd:=zbx l (hl.ok.mono (by decide)) E;have hfit:=zdv (e:=E) hl (by decide);have hq1:(doL l E).out.length<=1000:=by have:=hfit.ok.out;omega
 have hq2: ∀x∈(doL l E).out,x.o.length<=1000:=λx hx=>by
  exact Y63
 have hP:zaZ ⟨id,[⟨m,l,rd,rest,pe,out⟩,p1,p2],b,inb,dr⟩ 0 up=if doE l E≠0 then ⟨id,[⟨m,l,rd,rest,pe,out⟩,p1,p2],b,inb,dr⟩ else zaV ⟨id,[⟨m,outL (doL l E),rd0,[],pe,out++(doL l E).out.flatMap flB⟩,p1,p2],b,inb,dr⟩ 0 peNo:=by
  unfold zaZ zdD;rw[<-hE];rfl
 rw[hP,show zdD ⟨id,[⟨m,l,rd,rest,pe,out⟩,p1,p2],b,inb,dr⟩ 0 up=doE l E from by unfold zdD;rw[<-hE];rfl];clear hP;have hnn:=zp2 l E;by_cases hz:doE l E=0
 .rw[if_neg (by simpa using hz),hz];rw[hz] at hd;have fl:=zcB ⟨m,doL l E,rd0,[],pe,out⟩ hq1 hq2 (by dsimp only;omega);rw[show zbE ⟨m,doL l E,rd0,[],pe,out⟩=⟨m,outL (doL l E),rd0,[],pe,out++(doL l E).out.flatMap flB⟩ from rfl] at fl;have ct:=zdZ id dr b hb inb ⟨m,outL (doL l E),rd0,[],pe,out++(doL l E).out.flatMap flB⟩ p1 p2 (by simpa using hm) peNo;obtain⟨q0,q1,q2,hq⟩:=lit3 (zaW ⟨id,[⟨m,outL (doL l E),rd0,[],pe,out++(doL l E).out.flatMap flB⟩,p1,p2],b,inb,dr⟩ 0 peNo) rfl;rw[hq] at ct ⊢;clear hq;generalize (doL l E).out.flatMap flB=FB at *
  generalize hDL:doL l E=DL at *
  unfold ptM prM at fl;dsimp only at fl;simp only[rtM,rtH,zaE,rtP,prQ,peRow,peNo] at ct at1 ⊢;cases up<;>simp only[if_true,if_false,Bool.false_eq_true] at hE<;>subst hE
  all_goals
   refine foA zaA [] [11] Tryz.func36 Tryz.ntmps36 Tryz.results36 ?_;(all_goals refine gv ?_;repeat' first|exact .intro|refine Tw.mk ?_ ?_|(intro h;first|replace h:=h.o|cases h))
   all_goals ((refine StopCall.fz zaX (at1) ?_;(all_goals refine lv ?_;repeat' first|exact .intro|refine Tw.mk ?_ ?_|(intro h;first|replace h:=h.o|cases h))))
   all_goals (try (exfalso;first|omega|(simp at h;done)))
   all_goals ((refine StopCall.fz [5] (hd) ?_;(all_goals refine lv ?_;repeat' first|exact .intro|refine Tw.mk ?_ ?_|(intro h;first|replace h:=h.o|cases h))))
   all_goals (try (exfalso;first|omega|(simp at h;done)))
   refine cutK ⟨[(0,.box 0 0),(1,.v (.int .i64 0)),(7,.box 4 0)],rtM ⟨id,[⟨m,DL,rd0,[],pe,out⟩,p1,p2],b,inb,dr⟩ 1⟩ ?_ (λhy=>?_)
   .simp only[rtM,rtH,zaE,rtP,prQ];(all_goals refine gv ?_;repeat' first|exact .intro|refine Tw.mk ?_ ?_|(intro h;first|replace h:=h.o|cases h))
    all_goals ((refine StopCall.fz [4,5,6,7] (fl) ?_;(all_goals refine lv ?_;repeat' first|exact .intro|refine Tw.mk ?_ ?_|(intro h;first|replace h:=h.o|cases h))))
    all_goals ((refine StopCall.fz zaX (ct) ?_;(all_goals refine lv ?_;repeat' first|exact .intro|refine Tw.mk ?_ ?_|(intro h;first|replace h:=h.o|cases h))))
    all_goals exact Y8
   .simp only[rtM,rtH,zaE,rtP,prQ] at hy;(all_goals refine fv ?_;repeat' first|exact .intro|refine Tw.mk ?_ ?_|(intro h;first|replace h:=h.o|cases h))
    all_goals (exact⟨_,AS.le_trans (zbb 6 4 2 _ rfl (by decide) rfl rfl) (by (refine zaC [0,1,2,3,4,5,6,7,8,9,10,11,12,13,14,15] ?_;repeat' first|exact .intro|refine Tw.mk ?_ ?_)),hy⟩)
 .rw[if_pos (by simpa using hz)];rw[zlH hz] at hd;clear hq1 hq2 hfit;generalize doE l E=F at *
  simp only[rtM,rtH,zaE,rtP,prQ] at at1 ⊢;cases up<;>simp only[if_true,if_false,Bool.false_eq_true] at hE<;>subst hE
  all_goals
   refine foA zaA [] [] Tryz.func36 Tryz.ntmps36 Tryz.results36 ?_;(all_goals refine gv ?_;repeat' first|exact .intro|refine Tw.mk ?_ ?_|(intro h;first|replace h:=h.o|cases h))
   all_goals ((refine StopCall.fz zaX (at1) ?_;(all_goals refine lv ?_;repeat' first|exact .intro|refine Tw.mk ?_ ?_|(intro h;first|replace h:=h.o|cases h))))
   all_goals (try (exfalso;first|omega|(simp at h;done)))
   all_goals ((refine StopCall.fz [5] (hd) ?_;(all_goals refine lv ?_;repeat' first|exact .intro|refine Tw.mk ?_ ?_|(intro h;first|replace h:=h.o|cases h))))
   all_goals (try (exfalso;first|omega|(simp at h;done)))
   all_goals exact Y8
theorem zk1(id dr:Int)(b:Ba)(inb:List Mg)(p0 p1 p2:Pt):Fn Tryz.prog 34 [.box 0 0,.v (.int .i64 1)] (rtM ⟨id,[p0,p1,p2],b,inb,dr⟩ 0) (.tup [.box 8 0,.err 0]) (rtM ⟨id,[p0,p1,p2],b,inb,dr⟩ 0):=by
 simp only[rtM,rtH,zaE,rtP,prQ];refine foA zaA [] [] Tryz.func34 Tryz.ntmps34 Tryz.results34 ?_;(all_goals refine fv ?_;repeat' first|exact .intro|refine Tw.mk ?_ ?_|(intro h;first|replace h:=h.o|cases h))
 all_goals (try (exfalso;first|omega|(simp at h;done)))
 all_goals exact Y8
theorem zn7(id dr:Int)(b:Ba)(hb:b.ok)(inb:List Mg)(p0 p1 p2:Pt)(hm: ∀p∈[p0,p1,p2],0<=p.m/\p.m<=20)(up:Bool)(hl:p1.l.fit 0)(ho:p1.out.length<=10000000):Fn Tryz.prog 36 [.box 0 0,.v (.int .i64 1),.v (.bool up)] (rtM ⟨id,[p0,p1,p2],b,inb,dr⟩ 0) (.err (zdD ⟨id,[p0,p1,p2],b,inb,dr⟩ 1 up)) (rtM (zaZ ⟨id,[p0,p1,p2],b,inb,dr⟩ 1 up) 1):=by
 obtain⟨m,l,rd,rest,pe,out⟩:=p1;dsimp only at hl ho;have at1:=zk1 id dr b inb p0 ⟨m,l,rd,rest,pe,out⟩ p2;obtain⟨E,hE⟩: ∃E:Int,E=if up then 0 else 1:=⟨_,rfl⟩
 have hd:=zbx l (hl.ok.mono (by decide)) E;have hfit:=zdv (e:=E) hl (by decide);have hq1:(doL l E).out.length<=1000:=by have:=hfit.ok.out;omega
 have hq2: ∀x∈(doL l E).out,x.o.length<=1000:=λx hx=>by
  exact Y63
 have hP:zaZ ⟨id,[p0,⟨m,l,rd,rest,pe,out⟩,p2],b,inb,dr⟩ 1 up=if doE l E≠0 then ⟨id,[p0,⟨m,l,rd,rest,pe,out⟩,p2],b,inb,dr⟩ else zaV ⟨id,[p0,⟨m,outL (doL l E),rd0,[],pe,out++(doL l E).out.flatMap flB⟩,p2],b,inb,dr⟩ 1 peNo:=by
  unfold zaZ zdD;rw[<-hE];rfl
 rw[hP,show zdD ⟨id,[p0,⟨m,l,rd,rest,pe,out⟩,p2],b,inb,dr⟩ 1 up=doE l E from by unfold zdD;rw[<-hE];rfl];clear hP;have hnn:=zp2 l E;by_cases hz:doE l E=0
 .rw[if_neg (by simpa using hz),hz];rw[hz] at hd;have fl:=zcB ⟨m,doL l E,rd0,[],pe,out⟩ hq1 hq2 (by dsimp only;omega);rw[show zbE ⟨m,doL l E,rd0,[],pe,out⟩=⟨m,outL (doL l E),rd0,[],pe,out++(doL l E).out.flatMap flB⟩ from rfl] at fl;have ct:=zd4 id dr b hb inb p0 ⟨m,outL (doL l E),rd0,[],pe,out++(doL l E).out.flatMap flB⟩ p2 (by simpa using hm) peNo;obtain⟨q0,q1,q2,hq⟩:=lit3 (zaW ⟨id,[p0,⟨m,outL (doL l E),rd0,[],pe,out++(doL l E).out.flatMap flB⟩,p2],b,inb,dr⟩ 1 peNo) rfl;rw[hq] at ct ⊢;clear hq;generalize (doL l E).out.flatMap flB=FB at *
  generalize hDL:doL l E=DL at *
  unfold ptM prM at fl;dsimp only at fl;simp only[rtM,rtH,zaE,rtP,prQ,peRow,peNo] at ct at1 ⊢;cases up<;>simp only[if_true,if_false,Bool.false_eq_true] at hE<;>subst hE
  all_goals
   refine foA zaA [] [11] Tryz.func36 Tryz.ntmps36 Tryz.results36 ?_;(all_goals refine gv ?_;repeat' first|exact .intro|refine Tw.mk ?_ ?_|(intro h;first|replace h:=h.o|cases h))
   all_goals ((refine StopCall.fz zaX (at1) ?_;(all_goals refine lv ?_;repeat' first|exact .intro|refine Tw.mk ?_ ?_|(intro h;first|replace h:=h.o|cases h))))
   all_goals (try (exfalso;first|omega|(simp at h;done)))
   all_goals ((refine StopCall.fz [9] (hd) ?_;(all_goals refine lv ?_;repeat' first|exact .intro|refine Tw.mk ?_ ?_|(intro h;first|replace h:=h.o|cases h))))
   all_goals (try (exfalso;first|omega|(simp at h;done)))
   refine cutK ⟨[(0,.box 0 0),(1,.v (.int .i64 1)),(7,.box 8 0)],rtM ⟨id,[p0,⟨m,DL,rd0,[],pe,out⟩,p2],b,inb,dr⟩ 1⟩ ?_ (λhy=>?_)
   .simp only[rtM,rtH,zaE,rtP,prQ];(all_goals refine gv ?_;repeat' first|exact .intro|refine Tw.mk ?_ ?_|(intro h;first|replace h:=h.o|cases h))
    all_goals ((refine StopCall.fz [8,9,10,11] (fl) ?_;(all_goals refine lv ?_;repeat' first|exact .intro|refine Tw.mk ?_ ?_|(intro h;first|replace h:=h.o|cases h))))
    all_goals ((refine StopCall.fz zaX (ct) ?_;(all_goals refine lv ?_;repeat' first|exact .intro|refine Tw.mk ?_ ?_|(intro h;first|replace h:=h.o|cases h))))
    all_goals exact Y8
   .simp only[rtM,rtH,zaE,rtP,prQ] at hy;(all_goals refine fv ?_;repeat' first|exact .intro|refine Tw.mk ?_ ?_|(intro h;first|replace h:=h.o|cases h))
    all_goals (exact⟨_,AS.le_trans (zbb 10 8 2 _ rfl (by decide) rfl rfl) (by (refine zaC [0,1,2,3,4,5,6,7,8,9,10,11,12,13,14,15] ?_;repeat' first|exact .intro|refine Tw.mk ?_ ?_)),hy⟩)
 .rw[if_pos (by simpa using hz)];rw[zlH hz] at hd;clear hq1 hq2 hfit;generalize doE l E=F at *
  simp only[rtM,rtH,zaE,rtP,prQ] at at1 ⊢;cases up<;>simp only[if_true,if_false,Bool.false_eq_true] at hE<;>subst hE
  all_goals
   refine foA zaA [] [] Tryz.func36 Tryz.ntmps36 Tryz.results36 ?_;(all_goals refine gv ?_;repeat' first|exact .intro|refine Tw.mk ?_ ?_|(intro h;first|replace h:=h.o|cases h))
   all_goals ((refine StopCall.fz zaX (at1) ?_;(all_goals refine lv ?_;repeat' first|exact .intro|refine Tw.mk ?_ ?_|(intro h;first|replace h:=h.o|cases h))))
   all_goals (try (exfalso;first|omega|(simp at h;done)))
   all_goals ((refine StopCall.fz [9] (hd) ?_;(all_goals refine lv ?_;repeat' first|exact .intro|refine Tw.mk ?_ ?_|(intro h;first|replace h:=h.o|cases h))))
   all_goals (try (exfalso;first|omega|(simp at h;done)))
   all_goals exact Y8
theorem zkM(id dr:Int)(b:Ba)(inb:List Mg)(p0 p1 p2:Pt):Fn Tryz.prog 34 [.box 0 0,.v (.int .i64 2)] (rtM ⟨id,[p0,p1,p2],b,inb,dr⟩ 0) (.tup [.box 12 0,.err 0]) (rtM ⟨id,[p0,p1,p2],b,inb,dr⟩ 0):=by
 simp only[rtM,rtH,zaE,rtP,prQ];refine foA zaA [] [] Tryz.func34 Tryz.ntmps34 Tryz.results34 ?_;(all_goals refine fv ?_;repeat' first|exact .intro|refine Tw.mk ?_ ?_|(intro h;first|replace h:=h.o|cases h))
 all_goals (try (exfalso;first|omega|(simp at h;done)))
 all_goals exact Y8
theorem zpe(id dr:Int)(b:Ba)(hb:b.ok)(inb:List Mg)(p0 p1 p2:Pt)(hm: ∀p∈[p0,p1,p2],0<=p.m/\p.m<=20)(up:Bool)(hl:p2.l.fit 0)(ho:p2.out.length<=10000000):Fn Tryz.prog 36 [.box 0 0,.v (.int .i64 2),.v (.bool up)] (rtM ⟨id,[p0,p1,p2],b,inb,dr⟩ 0) (.err (zdD ⟨id,[p0,p1,p2],b,inb,dr⟩ 2 up)) (rtM (zaZ ⟨id,[p0,p1,p2],b,inb,dr⟩ 2 up) 1):=by
 obtain⟨m,l,rd,rest,pe,out⟩:=p2;dsimp only at hl ho;have at1:=zkM id dr b inb p0 p1 ⟨m,l,rd,rest,pe,out⟩;obtain⟨E,hE⟩: ∃E:Int,E=if up then 0 else 1:=⟨_,rfl⟩
 have hd:=zbx l (hl.ok.mono (by decide)) E;have hfit:=zdv (e:=E) hl (by decide);have hq1:(doL l E).out.length<=1000:=by have:=hfit.ok.out;omega
 have hq2: ∀x∈(doL l E).out,x.o.length<=1000:=λx hx=>by
  exact Y63
 have hP:zaZ ⟨id,[p0,p1,⟨m,l,rd,rest,pe,out⟩],b,inb,dr⟩ 2 up=if doE l E≠0 then ⟨id,[p0,p1,⟨m,l,rd,rest,pe,out⟩],b,inb,dr⟩ else zaV ⟨id,[p0,p1,⟨m,outL (doL l E),rd0,[],pe,out++(doL l E).out.flatMap flB⟩],b,inb,dr⟩ 2 peNo:=by
  unfold zaZ zdD;rw[<-hE];rfl
 rw[hP,show zdD ⟨id,[p0,p1,⟨m,l,rd,rest,pe,out⟩],b,inb,dr⟩ 2 up=doE l E from by unfold zdD;rw[<-hE];rfl];clear hP;have hnn:=zp2 l E;by_cases hz:doE l E=0
 .rw[if_neg (by simpa using hz),hz];rw[hz] at hd;have fl:=zcB ⟨m,doL l E,rd0,[],pe,out⟩ hq1 hq2 (by dsimp only;omega);rw[show zbE ⟨m,doL l E,rd0,[],pe,out⟩=⟨m,outL (doL l E),rd0,[],pe,out++(doL l E).out.flatMap flB⟩ from rfl] at fl;have ct:=zd2 id dr b hb inb p0 p1 ⟨m,outL (doL l E),rd0,[],pe,out++(doL l E).out.flatMap flB⟩ (by simpa using hm) peNo;obtain⟨q0,q1,q2,hq⟩:=lit3 (zaW ⟨id,[p0,p1,⟨m,outL (doL l E),rd0,[],pe,out++(doL l E).out.flatMap flB⟩],b,inb,dr⟩ 2 peNo) rfl;rw[hq] at ct ⊢;clear hq;generalize (doL l E).out.flatMap flB=FB at *
  generalize hDL:doL l E=DL at *
  unfold ptM prM at fl;dsimp only at fl;simp only[rtM,rtH,zaE,rtP,prQ,peRow,peNo] at ct at1 ⊢;cases up<;>simp only[if_true,if_false,Bool.false_eq_true] at hE<;>subst hE
  all_goals
   refine foA zaA [] [11] Tryz.func36 Tryz.ntmps36 Tryz.results36 ?_;(all_goals refine gv ?_;repeat' first|exact .intro|refine Tw.mk ?_ ?_|(intro h;first|replace h:=h.o|cases h))
   all_goals ((refine StopCall.fz zaX (at1) ?_;(all_goals refine lv ?_;repeat' first|exact .intro|refine Tw.mk ?_ ?_|(intro h;first|replace h:=h.o|cases h))))
   all_goals (try (exfalso;first|omega|(simp at h;done)))
   all_goals ((refine StopCall.fz [13] (hd) ?_;(all_goals refine lv ?_;repeat' first|exact .intro|refine Tw.mk ?_ ?_|(intro h;first|replace h:=h.o|cases h))))
   all_goals (try (exfalso;first|omega|(simp at h;done)))
   refine cutK ⟨[(0,.box 0 0),(1,.v (.int .i64 2)),(7,.box 12 0)],rtM ⟨id,[p0,p1,⟨m,DL,rd0,[],pe,out⟩],b,inb,dr⟩ 1⟩ ?_ (λhy=>?_)
   .simp only[rtM,rtH,zaE,rtP,prQ];(all_goals refine gv ?_;repeat' first|exact .intro|refine Tw.mk ?_ ?_|(intro h;first|replace h:=h.o|cases h))
    all_goals ((refine StopCall.fz [12,13,14,15] (fl) ?_;(all_goals refine lv ?_;repeat' first|exact .intro|refine Tw.mk ?_ ?_|(intro h;first|replace h:=h.o|cases h))))
    all_goals ((refine StopCall.fz zaX (ct) ?_;(all_goals refine lv ?_;repeat' first|exact .intro|refine Tw.mk ?_ ?_|(intro h;first|replace h:=h.o|cases h))))
    all_goals exact Y8
   .simp only[rtM,rtH,zaE,rtP,prQ] at hy;(all_goals refine fv ?_;repeat' first|exact .intro|refine Tw.mk ?_ ?_|(intro h;first|replace h:=h.o|cases h))
    all_goals (exact⟨_,AS.le_trans (zbb 14 12 2 _ rfl (by decide) rfl rfl) (by (refine zaC [0,1,2,3,4,5,6,7,8,9,10,11,12,13,14,15] ?_;repeat' first|exact .intro|refine Tw.mk ?_ ?_)),hy⟩)
 .rw[if_pos (by simpa using hz)];rw[zlH hz] at hd;clear hq1 hq2 hfit;generalize doE l E=F at *
  simp only[rtM,rtH,zaE,rtP,prQ] at at1 ⊢;cases up<;>simp only[if_true,if_false,Bool.false_eq_true] at hE<;>subst hE
  all_goals
   refine foA zaA [] [] Tryz.func36 Tryz.ntmps36 Tryz.results36 ?_;(all_goals refine gv ?_;repeat' first|exact .intro|refine Tw.mk ?_ ?_|(intro h;first|replace h:=h.o|cases h))
   all_goals ((refine StopCall.fz zaX (at1) ?_;(all_goals refine lv ?_;repeat' first|exact .intro|refine Tw.mk ?_ ?_|(intro h;first|replace h:=h.o|cases h))))
   all_goals (try (exfalso;first|omega|(simp at h;done)))
   all_goals ((refine StopCall.fz [13] (hd) ?_;(all_goals refine lv ?_;repeat' first|exact .intro|refine Tw.mk ?_ ?_|(intro h;first|replace h:=h.o|cases h))))
   all_goals (try (exfalso;first|omega|(simp at h;done)))
   all_goals exact Y8
end Go.Proofs.YtimfnpjcedjmiadGreat
