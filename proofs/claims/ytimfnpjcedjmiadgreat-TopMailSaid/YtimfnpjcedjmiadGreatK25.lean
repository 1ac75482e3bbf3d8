/- Lemmas. -/
import Derived.Test.YtimfnpjcedjmiadGreatK21
set_option maxRecDepth 100000
set_option maxHeartbeats 64000000
set_option linter.all false
namespace Go.Proofs.YtimfnpjcedjmiadGreat
open Go.RowKit
def learnPl:List (Nat×Pl):=[(2,.op 0 (.op 1 (.op 2 (.op 3 (.op 4 (.op 5 (.op 6 (.op 7 (.br 8 (.op 9 (.op 10 (.op 11 (.op 12 (.op 13 (.op 14 (.done))))))) 12 (.op 8 (.op 9 (.op 10 (.op 11 (.op 13 (.op 14 (.done)))))))))))))))),(3,.op 0 (.op 1 (.op 2 (.op 3 (.op 4 (.op 5 (.op 6 (.op 7 (.op 8 (.op 9 (.op 10 (.op 11 (.op 12 (.done)))))))))))))),(5,.op 0 (.op 1 (.op 2 (.op 4 (.op 5 (.op 6 (.op 8 (.op 11 (.b4 3 (.b3 7 (.br 9 (.op 10 (.op 12 (.op 13 (.op 14 (.done))))) 12 (.op 9 (.op 10 (.op 13 (.op 14 (.done)))))) 9 (.op 10 (.br 7 (.op 12 (.op 13 (.op 14 (.done)))) 12 (.op 7 (.op 13 (.op 14 (.done)))))) 12 (.op 7 (.op 9 (.op 10 (.op 13 (.op 14 (.done))))))) 7 (.b3 3 (.br 9 (.op 10 (.op 12 (.op 13 (.op 14 (.done))))) 12 (.op 9 (.op 10 (.op 13 (.op 14 (.done)))))) 9 (.op 10 (.br 3 (.op 12 (.op 13 (.op 14 (.done)))) 12 (.op 3 (.op 13 (.op 14 (.done)))))) 12 (.op 3 (.op 9 (.op 10 (.op 13 (.op 14 (.done))))))) 9 (.op 10 (.b3 3 (.br 7 (.op 12 (.op 13 (.op 14 (.done)))) 12 (.op 7 (.op 13 (.op 14 (.done))))) 7 (.br 3 (.op 12 (.op 13 (.op 14 (.done)))) 12 (.op 3 (.op 13 (.op 14 (.done))))) 12 (.op 3 (.op 7 (.op 13 (.op 14 (.done))))))) 12 (.op 3 (.op 7 (.op 9 (.op 10 (.op 13 (.op 14 (.done)))))))))))))))),(6,.op 0 (.op 1 (.op 2 (.op 3 (.op 4 (.op 5 (.op 6 (.op 7 (.op 8 (.op 9 (.op 10 (.op 11 (.done)))))))))))))]
theorem zm4(id dr:Int)(b:Ba)(hb:b.ok)(inb:List Mg)(p0 p1 p2:Pt)(hm: ∀p∈[p0,p1,p2],0<=p.m/\p.m<=20)(s:ByteArray)(hs:s.size<=1000)(ho:p0.out.length<=1000000000):Fn Tryz.prog 85 [.box 0 0,.v (.int .i64 0),.v (.string s)] (rtM ⟨id,[p0,p1,p2],b,inb,dr⟩ 0) (.tup []) (rtM (zbF ⟨id,[p0,p1,p2],b,inb,dr⟩ 0 (bs s)) 1):=by
 obtain⟨m,l,rd,rest,⟨w0,bo,l0⟩,out⟩:=p0;have sp:=zeq s hs;have gt:=ziR hb id;have sl:=zkh s;have ow:=zmP hb id;have tk:=zi9 hb 0 (zak s,sid s,sopt s);have ed:=ze7 id dr b inb ⟨m,l,rd,rest,⟨w0,bo,l0⟩,out⟩ p1 p2 hm;have hel:(zad [⟨m,l,rd,rest,⟨w0,bo,l0⟩,out⟩,p1,p2]).length<=6:=zdp _ 6;have st:=zgJ hb (id,sid s+1,zad [⟨m,l,rd,rest,⟨w0,bo,l0⟩,out⟩,p1,p2]) (by show (zad [⟨m,l,rd,rest,⟨w0,bo,l0⟩,out⟩,p1,p2]).length<=_;omega);have pt:=zcf ⟨m,l,rd,rest,⟨w0,bo,l0⟩,out⟩ 65 s (by omega) ho;rw[zbu] at pt;have hol:(stO (b.kn id)).2.2.length<=1000000:=by
  exact Y50
 have nw:=zbA (zak s) (sid s) (stO (b.kn id)).1 (stO (b.kn id)).2.1 (sopt s) (stO (b.kn id)).2.2 (by omega) hol;have hd:zbF ⟨id,[⟨m,l,rd,rest,⟨w0,bo,l0⟩,out⟩,p1,p2],b,inb,dr⟩ 0 (bs s)=if serr s≠0\/bo=false then ⟨id,[⟨m,l,rd,rest,⟨w0,bo,l0⟩,out⟩,p1,p2],b,inb,dr⟩ else if zak s=id/\0<orL [cmpI (sid s) (stO (b.kn id)).2.1,cmpE (sopt s) (stO (b.kn id)).2.2] then (if sid s<1000000 then ⟨id,[⟨m,l,rd,rest,⟨w0,bo,l0⟩,out⟩,p1,p2],setB b (id,sid s+1,zad [⟨m,l,rd,rest,⟨w0,bo,l0⟩,out⟩,p1,p2]),inb,dr⟩ else ⟨id,[⟨m,l,rd,rest,⟨w0,bo,l0⟩,out⟩,p1,p2],b,inb,dr⟩) else if zay b 0 (zak s,sid s,sopt s)=0/\0<=zcv b 0 (zak s,sid s,sopt s) then ⟨id,[⟨m,l,rd,rest,⟨w0,bo,l0⟩,(putP 65 (bs s) ⟨m,l,rd,rest,⟨w0,bo,l0⟩,out⟩).out⟩,p1,p2],zbd b 0 (zak s,sid s,sopt s),inb,dr⟩ else ⟨id,[⟨m,l,rd,rest,⟨w0,bo,l0⟩,out⟩,p1,p2],zbd b 0 (zak s,sid s,sopt s),inb,dr⟩:=by
  unfold zbF;rw[zdq,ziL];rw[show Rt.onP ⟨id,[⟨m,l,rd,rest,⟨w0,bo,l0⟩,out⟩,p1,p2],b,inb,dr⟩ 0 (putP 65 (bs s))=⟨id,[⟨m,l,rd,rest,⟨w0,bo,l0⟩,(putP 65 (bs s) ⟨m,l,rd,rest,⟨w0,bo,l0⟩,out⟩).out⟩,p1,p2],b,inb,dr⟩ from congrArg (λq=>(⟨id,[q,p1,p2],b,inb,dr⟩:Rt)) (zbu 65 (bs s) ⟨m,l,rd,rest,⟨w0,bo,l0⟩,out⟩)];rfl
 rw[hd];clear hd;unfold zaF at tk st gt;generalize zay b 0 (zak s,sid s,sopt s)=TE at *
 generalize zcv b 0 (zak s,sid s,sopt s)=TV at *
 generalize zbd b 0 (zak s,sid s,sopt s)=TB at *
 generalize sf (id,sid s+1,zad [⟨m,l,rd,rest,⟨w0,bo,l0⟩,out⟩,p1,p2])=SF at *
 generalize setB b (id,sid s+1,zad [⟨m,l,rd,rest,⟨w0,bo,l0⟩,out⟩,p1,p2])=SB at *
 generalize zad [⟨m,l,rd,rest,⟨w0,bo,l0⟩,out⟩,p1,p2]=E at *
 generalize (putP 65 (bs s) ⟨m,l,rd,rest,⟨w0,bo,l0⟩,out⟩).out=O at *
 generalize zak s=X0 at *
 generalize sid s=X1 at *
 generalize sopt s=X2 at *
 generalize stO (b.kn id)=W at *
 obtain⟨W0,W1,W2⟩:=W;dsimp only at *
 generalize orL [cmpI X1 W1,cmpE X2 W2]=NW at *
 unfold ptM prM at pt;rcases ziQ s with h4|h4
 .rw[h4] at sp ⊢;cases bo
  .rw[if_pos (.inr rfl)];simp only[rtM,rtH,zaE,rtP,prQ];refine foP zaA (learnPl) [] [] Tryz.func85 Tryz.ntmps85 Tryz.results85 ?_;(all_goals refine gv ?_;repeat' first|exact .intro|refine Tw.mk ?_ ?_|(intro h;first|replace h:=h.o|cases h))
   all_goals ((refine StopCall.fz [] (sp) ?_;(all_goals refine lv ?_;repeat' first|exact .intro|refine Tw.mk ?_ ?_|(intro h;first|replace h:=h.o|cases h))))
   all_goals (try (exfalso;first|omega|(simp at h;done)))
   (all_goals refine fv ?_;repeat' first|exact .intro|refine Tw.mk ?_ ?_|(intro h;first|replace h:=h.o|cases h))
   all_goals (try (exfalso;first|omega|(simp at h;done)))
   all_goals exact Y1
  rw[if_neg (by simp)];clear h4;obtain⟨sl1,sl2⟩:=sl;by_cases c1:X0=id/\0<NW
  .rw[if_pos c1];obtain⟨c11,c12⟩:=c1;clear tk pt;by_cases c2:X1<1000000
   .rw[if_pos c2];simp only[rtM,rtH,zaE,rtP,prQ] at ed ⊢;refine foP zaA (learnPl) [] [3] Tryz.func85 Tryz.ntmps85 Tryz.results85 ?_;(all_goals refine gv ?_;repeat' first|exact .intro|refine Tw.mk ?_ ?_|(intro h;first|replace h:=h.o|cases h))
    all_goals ((refine StopCall.fz [] (sp) ?_;(all_goals refine lv ?_;repeat' first|exact .intro|refine Tw.mk ?_ ?_|(intro h;first|replace h:=h.o|cases h))))
    all_goals (try (exfalso;first|omega|(simp at h;done)))
    (all_goals refine fv ?_;repeat' first|exact .intro|refine Tw.mk ?_ ?_|(intro h;first|replace h:=h.o|cases h))
    all_goals (try (exfalso;first|omega|(simp at h;done)))
    refine cutK ⟨[(0,.box 0 0),(1,.v (.int .i64 0)),(2,.v (.string s)),(6,.box 16 0),(8,.box 17 0)],rtM ⟨id,[⟨m,l,rd,rest,⟨w0,true,l0⟩,out⟩,p1,p2],b,inb,dr⟩ 0++[.cells [.v (.int .i64 X0),.v (.int .i64 X1),.sl 2 (X2.map opRow) none],.cells [.v (.int .i64 W0),.v (.int .i64 W1),.sl 2 (W2.map opRow) none]]⟩ ?_ (λhy=>?_)
    .clear sp gt;simp only[rtM,rtH,zaE,rtP,prQ];(all_goals refine gv ?_;repeat' first|exact .intro|refine Tw.mk ?_ ?_|(intro h;first|replace h:=h.o|cases h))
     all_goals (try (exfalso;first|omega|(simp at h;done)))
     all_goals ((refine StopCall.fz [] (nw) ?_;(all_goals refine lv ?_;repeat' first|exact .intro|refine Tw.mk ?_ ?_|(intro h;first|replace h:=h.o|cases h))))
     all_goals (try (exfalso;first|omega|(simp at h;done)))
     all_goals ((refine StopCall.fz zaX (ed) ?_;(all_goals refine lv ?_;repeat' first|exact .intro|refine Tw.mk ?_ ?_|(intro h;first|replace h:=h.o|cases h))))
     all_goals ((refine StopCall.fz [2] (st) ?_;(all_goals refine lv ?_;repeat' first|exact .intro|refine Tw.mk ?_ ?_|(intro h;first|replace h:=h.o|cases h))))
     all_goals exact Y1
    .exact Y25
   .rw[if_neg c2];clear st ed;simp only[rtM,rtH,zaE,rtP,prQ];refine foP zaA (learnPl) [] [] Tryz.func85 Tryz.ntmps85 Tryz.results85 ?_;(all_goals refine gv ?_;repeat' first|exact .intro|refine Tw.mk ?_ ?_|(intro h;first|replace h:=h.o|cases h))
    all_goals ((refine StopCall.fz [] (sp) ?_;(all_goals refine lv ?_;repeat' first|exact .intro|refine Tw.mk ?_ ?_|(intro h;first|replace h:=h.o|cases h))))
    all_goals (try (exfalso;first|omega|(simp at h;done)))
    (all_goals refine fv ?_;repeat' first|exact .intro|refine Tw.mk ?_ ?_|(intro h;first|replace h:=h.o|cases h))
    all_goals (try (exfalso;first|omega|(simp at h;done)))
    all_goals ((refine StopCall.fz [2] (gt) ?_;(all_goals refine lv ?_;repeat' first|exact .intro|refine Tw.mk ?_ ?_|(intro h;first|replace h:=h.o|cases h))))
    all_goals (try (exfalso;first|omega|(simp at h;done)))
    all_goals ((refine StopCall.fz [] (nw) ?_;(all_goals refine lv ?_;repeat' first|exact .intro|refine Tw.mk ?_ ?_|(intro h;first|replace h:=h.o|cases h))))
    all_goals (try (exfalso;first|omega|(simp at h;done)))
    all_goals exact Y1
  .rw[if_neg c1];clear st ed;by_cases cx:X0=id
   .have cn:NW<=0:=by
     exact Y88
    by_cases c3:TE=0/\0<=TV
    .rw[if_pos c3];obtain⟨c31,c32⟩:=c3;simp only[rtM,rtH,zaE,rtP,prQ];refine foP zaA (learnPl) [] [] Tryz.func85 Tryz.ntmps85 Tryz.results85 ?_;(all_goals refine gv ?_;repeat' first|exact .intro|refine Tw.mk ?_ ?_|(intro h;first|replace h:=h.o|cases h))
     all_goals ((refine StopCall.fz [] (sp) ?_;(all_goals refine lv ?_;repeat' first|exact .intro|refine Tw.mk ?_ ?_|(intro h;first|replace h:=h.o|cases h))))
     all_goals (try (exfalso;first|omega|(simp at h;done)))
     (all_goals refine fv ?_;repeat' first|exact .intro|refine Tw.mk ?_ ?_|(intro h;first|replace h:=h.o|cases h))
     all_goals (try (exfalso;first|omega|(simp at h;done)))
     all_goals ((refine StopCall.fz [2] (gt) ?_;(all_goals refine lv ?_;repeat' first|exact .intro|refine Tw.mk ?_ ?_|(intro h;first|replace h:=h.o|cases h))))
     all_goals (try (exfalso;first|omega|(simp at h;done)))
     all_goals ((refine StopCall.fz [] (nw) ?_;(all_goals refine lv ?_;repeat' first|exact .intro|refine Tw.mk ?_ ?_|(intro h;first|replace h:=h.o|cases h))))
     all_goals (try (exfalso;first|omega|(simp at h;done)))
     all_goals ((refine StopCall.fz [2] (tk) ?_;(all_goals refine lv ?_;repeat' first|exact .intro|refine Tw.mk ?_ ?_|(intro h;first|replace h:=h.o|cases h))))
     all_goals (try (exfalso;first|omega|(simp at h;done)))
     (all_goals refine fv ?_;repeat' first|exact .intro|refine Tw.mk ?_ ?_|(intro h;first|replace h:=h.o|cases h))
     all_goals ((refine StopCall.fz [4,5,6,7] (pt) ?_;(all_goals refine lv ?_;repeat' first|exact .intro|refine Tw.mk ?_ ?_|(intro h;first|replace h:=h.o|cases h))))
     all_goals exact Y1
    .rw[if_neg c3];have c4:TE=0->TV<0:=λq=>by
      exact Y48
     clear pt;simp only[rtM,rtH,zaE,rtP,prQ];refine foP zaA (learnPl) [] [] Tryz.func85 Tryz.ntmps85 Tryz.results85 ?_;(all_goals refine gv ?_;repeat' first|exact .intro|refine Tw.mk ?_ ?_|(intro h;first|replace h:=h.o|cases h))
     all_goals ((refine StopCall.fz [] (sp) ?_;(all_goals refine lv ?_;repeat' first|exact .intro|refine Tw.mk ?_ ?_|(intro h;first|replace h:=h.o|cases h))))
     all_goals (try (exfalso;first|omega|(simp at h;done)))
     (all_goals refine fv ?_;repeat' first|exact .intro|refine Tw.mk ?_ ?_|(intro h;first|replace h:=h.o|cases h))
     all_goals (try (exfalso;first|omega|(simp at h;done)))
     all_goals ((refine StopCall.fz [2] (gt) ?_;(all_goals refine lv ?_;repeat' first|exact .intro|refine Tw.mk ?_ ?_|(intro h;first|replace h:=h.o|cases h))))
     all_goals (try (exfalso;first|omega|(simp at h;done)))
     all_goals ((refine StopCall.fz [] (nw) ?_;(all_goals refine lv ?_;repeat' first|exact .intro|refine Tw.mk ?_ ?_|(intro h;first|replace h:=h.o|cases h))))
     all_goals (try (exfalso;first|omega|(simp at h;done)))
     all_goals ((refine StopCall.fz [2] (tk) ?_;(all_goals refine lv ?_;repeat' first|exact .intro|refine Tw.mk ?_ ?_|(intro h;first|replace h:=h.o|cases h))))
     all_goals (try (exfalso;first|omega|(simp at h;done)))
     all_goals exact Y1
   .by_cases c3:TE=0/\0<=TV
    .rw[if_pos c3];obtain⟨c31,c32⟩:=c3;simp only[rtM,rtH,zaE,rtP,prQ];refine foP zaA (learnPl) [] [] Tryz.func85 Tryz.ntmps85 Tryz.results85 ?_;(all_goals refine gv ?_;repeat' first|exact .intro|refine Tw.mk ?_ ?_|(intro h;first|replace h:=h.o|cases h))
     all_goals ((refine StopCall.fz [] (sp) ?_;(all_goals refine lv ?_;repeat' first|exact .intro|refine Tw.mk ?_ ?_|(intro h;first|replace h:=h.o|cases h))))
     all_goals (try (exfalso;first|omega|(simp at h;done)))
     (all_goals refine fv ?_;repeat' first|exact .intro|refine Tw.mk ?_ ?_|(intro h;first|replace h:=h.o|cases h))
     all_goals (try (exfalso;first|omega|(simp at h;done)))
     all_goals ((refine StopCall.fz [2] (gt) ?_;(all_goals refine lv ?_;repeat' first|exact .intro|refine Tw.mk ?_ ?_|(intro h;first|replace h:=h.o|cases h))))
     all_goals (try (exfalso;first|omega|(simp at h;done)))
     all_goals ((refine StopCall.fz [2] (tk) ?_;(all_goals refine lv ?_;repeat' first|exact .intro|refine Tw.mk ?_ ?_|(intro h;first|replace h:=h.o|cases h))))
     all_goals (try (exfalso;first|omega|(simp at h;done)))
     (all_goals refine fv ?_;repeat' first|exact .intro|refine Tw.mk ?_ ?_|(intro h;first|replace h:=h.o|cases h))
     all_goals ((refine StopCall.fz [4,5,6,7] (pt) ?_;(all_goals refine lv ?_;repeat' first|exact .intro|refine Tw.mk ?_ ?_|(intro h;first|replace h:=h.o|cases h))))
     all_goals exact Y1
    .rw[if_neg c3];have c4:TE=0->TV<0:=λq=>by
      exact Y48
     clear pt;simp only[rtM,rtH,zaE,rtP,prQ];refine foP zaA (learnPl) [] [] Tryz.func85 Tryz.ntmps85 Tryz.results85 ?_;(all_goals refine gv ?_;repeat' first|exact .intro|refine Tw.mk ?_ ?_|(intro h;first|replace h:=h.o|cases h))
     all_goals ((refine StopCall.fz [] (sp) ?_;(all_goals refine lv ?_;repeat' first|exact .intro|refine Tw.mk ?_ ?_|(intro h;first|replace h:=h.o|cases h))))
     all_goals (try (exfalso;first|omega|(simp at h;done)))
     (all_goals refine fv ?_;repeat' first|exact .intro|refine Tw.mk ?_ ?_|(intro h;first|replace h:=h.o|cases h))
     all_goals (try (exfalso;first|omega|(simp at h;done)))
     all_goals ((refine StopCall.fz [2] (gt) ?_;(all_goals refine lv ?_;repeat' first|exact .intro|refine Tw.mk ?_ ?_|(intro h;first|replace h:=h.o|cases h))))
     all_goals (try (exfalso;first|omega|(simp at h;done)))
     all_goals ((refine StopCall.fz [2] (tk) ?_;(all_goals refine lv ?_;repeat' first|exact .intro|refine Tw.mk ?_ ?_|(intro h;first|replace h:=h.o|cases h))))
     all_goals (try (exfalso;first|omega|(simp at h;done)))
     all_goals exact Y1
 .rw[h4] at sp ⊢;rw[if_pos (.inl (by decide))];simp only[rtM,rtH,zaE,rtP,prQ];refine foP zaA (learnPl) [] [] Tryz.func85 Tryz.ntmps85 Tryz.results85 ?_;(all_goals refine gv ?_;repeat' first|exact .intro|refine Tw.mk ?_ ?_|(intro h;first|replace h:=h.o|cases h))
  all_goals ((refine StopCall.fz [] (sp) ?_;(all_goals refine lv ?_;repeat' first|exact .intro|refine Tw.mk ?_ ?_|(intro h;first|replace h:=h.o|cases h))))
  all_goals (try (exfalso;first|omega|(simp at h;done)))
  all_goals exact Y1
theorem zm0(id dr:Int)(b:Ba)(hb:b.ok)(inb:List Mg)(p0 p1 p2:Pt)(hm: ∀p∈[p0,p1,p2],0<=p.m/\p.m<=20)(s:ByteArray)(hs:s.size<=1000)(ho:p1.out.length<=1000000000):Fn Tryz.prog 85 [.box 0 0,.v (.int .i64 1),.v (.string s)] (rtM ⟨id,[p0,p1,p2],b,inb,dr⟩ 0) (.tup []) (rtM (zbF ⟨id,[p0,p1,p2],b,inb,dr⟩ 1 (bs s)) 1):=by
 obtain⟨m,l,rd,rest,⟨w0,bo,l0⟩,out⟩:=p1;have sp:=zeq s hs;have gt:=ziR hb id;have sl:=zkh s;have ow:=zmP hb id;have tk:=zi9 hb 1 (zak s,sid s,sopt s);have ed:=ze7 id dr b inb p0 ⟨m,l,rd,rest,⟨w0,bo,l0⟩,out⟩ p2 hm;have hel:(zad [p0,⟨m,l,rd,rest,⟨w0,bo,l0⟩,out⟩,p2]).length<=6:=zdp _ 6;have st:=zgJ hb (id,sid s+1,zad [p0,⟨m,l,rd,rest,⟨w0,bo,l0⟩,out⟩,p2]) (by show (zad [p0,⟨m,l,rd,rest,⟨w0,bo,l0⟩,out⟩,p2]).length<=_;omega);have pt:=zcf ⟨m,l,rd,rest,⟨w0,bo,l0⟩,out⟩ 65 s (by omega) ho;rw[zbu] at pt;have hol:(stO (b.kn id)).2.2.length<=1000000:=by
  exact Y50
 have nw:=zbA (zak s) (sid s) (stO (b.kn id)).1 (stO (b.kn id)).2.1 (sopt s) (stO (b.kn id)).2.2 (by omega) hol;have hd:zbF ⟨id,[p0,⟨m,l,rd,rest,⟨w0,bo,l0⟩,out⟩,p2],b,inb,dr⟩ 1 (bs s)=if serr s≠0\/bo=false then ⟨id,[p0,⟨m,l,rd,rest,⟨w0,bo,l0⟩,out⟩,p2],b,inb,dr⟩ else if zak s=id/\0<orL [cmpI (sid s) (stO (b.kn id)).2.1,cmpE (sopt s) (stO (b.kn id)).2.2] then (if sid s<1000000 then ⟨id,[p0,⟨m,l,rd,rest,⟨w0,bo,l0⟩,out⟩,p2],setB b (id,sid s+1,zad [p0,⟨m,l,rd,rest,⟨w0,bo,l0⟩,out⟩,p2]),inb,dr⟩ else ⟨id,[p0,⟨m,l,rd,rest,⟨w0,bo,l0⟩,out⟩,p2],b,inb,dr⟩) else if zay b 1 (zak s,sid s,sopt s)=0/\0<=zcv b 1 (zak s,sid s,sopt s) then ⟨id,[p0,⟨m,l,rd,rest,⟨w0,bo,l0⟩,(putP 65 (bs s) ⟨m,l,rd,rest,⟨w0,bo,l0⟩,out⟩).out⟩,p2],zbd b 1 (zak s,sid s,sopt s),inb,dr⟩ else ⟨id,[p0,⟨m,l,rd,rest,⟨w0,bo,l0⟩,out⟩,p2],zbd b 1 (zak s,sid s,sopt s),inb,dr⟩:=by
  unfold zbF;rw[zdq,ziL];rw[show Rt.onP ⟨id,[p0,⟨m,l,rd,rest,⟨w0,bo,l0⟩,out⟩,p2],b,inb,dr⟩ 1 (putP 65 (bs s))=⟨id,[p0,⟨m,l,rd,rest,⟨w0,bo,l0⟩,(putP 65 (bs s) ⟨m,l,rd,rest,⟨w0,bo,l0⟩,out⟩).out⟩,p2],b,inb,dr⟩ from congrArg (λq=>(⟨id,[p0,q,p2],b,inb,dr⟩:Rt)) (zbu 65 (bs s) ⟨m,l,rd,rest,⟨w0,bo,l0⟩,out⟩)];rfl
 rw[hd];clear hd;unfold zaF at tk st gt;generalize zay b 1 (zak s,sid s,sopt s)=TE at *
 generalize zcv b 1 (zak s,sid s,sopt s)=TV at *
 generalize zbd b 1 (zak s,sid s,sopt s)=TB at *
 generalize sf (id,sid s+1,zad [p0,⟨m,l,rd,rest,⟨w0,bo,l0⟩,out⟩,p2])=SF at *
 generalize setB b (id,sid s+1,zad [p0,⟨m,l,rd,rest,⟨w0,bo,l0⟩,out⟩,p2])=SB at *
 generalize zad [p0,⟨m,l,rd,rest,⟨w0,bo,l0⟩,out⟩,p2]=E at *
 generalize (putP 65 (bs s) ⟨m,l,rd,rest,⟨w0,bo,l0⟩,out⟩).out=O at *
 generalize zak s=X0 at *
 generalize sid s=X1 at *
 generalize sopt s=X2 at *
 generalize stO (b.kn id)=W at *
 obtain⟨W0,W1,W2⟩:=W;dsimp only at *
 generalize orL [cmpI X1 W1,cmpE X2 W2]=NW at *
 unfold ptM prM at pt;rcases ziQ s with h4|h4
 .rw[h4] at sp ⊢;cases bo
  .rw[if_pos (.inr rfl)];simp only[rtM,rtH,zaE,rtP,prQ];refine foP zaA (learnPl) [] [] Tryz.func85 Tryz.ntmps85 Tryz.results85 ?_;(all_goals refine gv ?_;repeat' first|exact .intro|refine Tw.mk ?_ ?_|(intro h;first|replace h:=h.o|cases h))
   all_goals ((refine StopCall.fz [] (sp) ?_;(all_goals refine lv ?_;repeat' first|exact .intro|refine Tw.mk ?_ ?_|(intro h;first|replace h:=h.o|cases h))))
   all_goals (try (exfalso;first|omega|(simp at h;done)))
   (all_goals refine fv ?_;repeat' first|exact .intro|refine Tw.mk ?_ ?_|(intro h;first|replace h:=h.o|cases h))
   all_goals (try (exfalso;first|omega|(simp at h;done)))
   all_goals exact Y1
  rw[if_neg (by simp)];clear h4;obtain⟨sl1,sl2⟩:=sl;by_cases c1:X0=id/\0<NW
  .rw[if_pos c1];obtain⟨c11,c12⟩:=c1;clear tk pt;by_cases c2:X1<1000000
   .rw[if_pos c2];simp only[rtM,rtH,zaE,rtP,prQ] at ed ⊢;refine foP zaA (learnPl) [] [3] Tryz.func85 Tryz.ntmps85 Tryz.results85 ?_;(all_goals refine gv ?_;repeat' first|exact .intro|refine Tw.mk ?_ ?_|(intro h;first|replace h:=h.o|cases h))
    all_goals ((refine StopCall.fz [] (sp) ?_;(all_goals refine lv ?_;repeat' first|exact .intro|refine Tw.mk ?_ ?_|(intro h;first|replace h:=h.o|cases h))))
    all_goals (try (exfalso;first|omega|(simp at h;done)))
    (all_goals refine fv ?_;repeat' first|exact .intro|refine Tw.mk ?_ ?_|(intro h;first|replace h:=h.o|cases h))
    all_goals (try (exfalso;first|omega|(simp at h;done)))
    refine cutK ⟨[(0,.box 0 0),(1,.v (.int .i64 1)),(2,.v (.string s)),(6,.box 16 0),(8,.box 17 0)],rtM ⟨id,[p0,⟨m,l,rd,rest,⟨w0,true,l0⟩,out⟩,p2],b,inb,dr⟩ 0++[.cells [.v (.int .i64 X0),.v (.int .i64 X1),.sl 2 (X2.map opRow) none],.cells [.v (.int .i64 W0),.v (.int .i64 W1),.sl 2 (W2.map opRow) none]]⟩ ?_ (λhy=>?_)
    .clear sp gt;simp only[rtM,rtH,zaE,rtP,prQ];(all_goals refine gv ?_;repeat' first|exact .intro|refine Tw.mk ?_ ?_|(intro h;first|replace h:=h.o|cases h))
     all_goals (try (exfalso;first|omega|(simp at h;done)))
     all_goals ((refine StopCall.fz [] (nw) ?_;(all_goals refine lv ?_;repeat' first|exact .intro|refine Tw.mk ?_ ?_|(intro h;first|replace h:=h.o|cases h))))
     all_goals (try (exfalso;first|omega|(simp at h;done)))
     all_goals ((refine StopCall.fz zaX (ed) ?_;(all_goals refine lv ?_;repeat' first|exact .intro|refine Tw.mk ?_ ?_|(intro h;first|replace h:=h.o|cases h))))
     all_goals ((refine StopCall.fz [2] (st) ?_;(all_goals refine lv ?_;repeat' first|exact .intro|refine Tw.mk ?_ ?_|(intro h;first|replace h:=h.o|cases h))))
     all_goals exact Y1
    .exact Y25
   .rw[if_neg c2];clear st ed;simp only[rtM,rtH,zaE,rtP,prQ];refine foP zaA (learnPl) [] [] Tryz.func85 Tryz.ntmps85 Tryz.results85 ?_;(all_goals refine gv ?_;repeat' first|exact .intro|refine Tw.mk ?_ ?_|(intro h;first|replace h:=h.o|cases h))
    all_goals ((refine StopCall.fz [] (sp) ?_;(all_goals refine lv ?_;repeat' first|exact .intro|refine Tw.mk ?_ ?_|(intro h;first|replace h:=h.o|cases h))))
    all_goals (try (exfalso;first|omega|(simp at h;done)))
    (all_goals refine fv ?_;repeat' first|exact .intro|refine Tw.mk ?_ ?_|(intro h;first|replace h:=h.o|cases h))
    all_goals (try (exfalso;first|omega|(simp at h;done)))
    all_goals ((refine StopCall.fz [2] (gt) ?_;(all_goals refine lv ?_;repeat' first|exact .intro|refine Tw.mk ?_ ?_|(intro h;first|replace h:=h.o|cases h))))
    all_goals (try (exfalso;first|omega|(simp at h;done)))
    all_goals ((refine StopCall.fz [] (nw) ?_;(all_goals refine lv ?_;repeat' first|exact .intro|refine Tw.mk ?_ ?_|(intro h;first|replace h:=h.o|cases h))))
    all_goals (try (exfalso;first|omega|(simp at h;done)))
    all_goals exact Y1
  .rw[if_neg c1];clear st ed;by_cases cx:X0=id
   .have cn:NW<=0:=by
     exact Y88
    by_cases c3:TE=0/\0<=TV
    .rw[if_pos c3];obtain⟨c31,c32⟩:=c3;simp only[rtM,rtH,zaE,rtP,prQ];refine foP zaA (learnPl) [] [] Tryz.func85 Tryz.ntmps85 Tryz.results85 ?_;(all_goals refine gv ?_;repeat' first|exact .intro|refine Tw.mk ?_ ?_|(intro h;first|replace h:=h.o|cases h))
     all_goals ((refine StopCall.fz [] (sp) ?_;(all_goals refine lv ?_;repeat' first|exact .intro|refine Tw.mk ?_ ?_|(intro h;first|replace h:=h.o|cases h))))
     all_goals (try (exfalso;first|omega|(simp at h;done)))
     (all_goals refine fv ?_;repeat' first|exact .intro|refine Tw.mk ?_ ?_|(intro h;first|replace h:=h.o|cases h))
     all_goals (try (exfalso;first|omega|(simp at h;done)))
     all_goals ((refine StopCall.fz [2] (gt) ?_;(all_goals refine lv ?_;repeat' first|exact .intro|refine Tw.mk ?_ ?_|(intro h;first|replace h:=h.o|cases h))))
     all_goals (try (exfalso;first|omega|(simp at h;done)))
     all_goals ((refine StopCall.fz [] (nw) ?_;(all_goals refine lv ?_;repeat' first|exact .intro|refine Tw.mk ?_ ?_|(intro h;first|replace h:=h.o|cases h))))
     all_goals (try (exfalso;first|omega|(simp at h;done)))
     all_goals ((refine StopCall.fz [2] (tk) ?_;(all_goals refine lv ?_;repeat' first|exact .intro|refine Tw.mk ?_ ?_|(intro h;first|replace h:=h.o|cases h))))
     all_goals (try (exfalso;first|omega|(simp at h;done)))
     (all_goals refine fv ?_;repeat' first|exact .intro|refine Tw.mk ?_ ?_|(intro h;first|replace h:=h.o|cases h))
     all_goals ((refine StopCall.fz [8,9,10,11] (pt) ?_;(all_goals refine lv ?_;repeat' first|exact .intro|refine Tw.mk ?_ ?_|(intro h;first|replace h:=h.o|cases h))))
     all_goals exact Y1
    .rw[if_neg c3];have c4:TE=0->TV<0:=λq=>by
      exact Y48
     clear pt;simp only[rtM,rtH,zaE,rtP,prQ];refine foP zaA (learnPl) [] [] Tryz.func85 Tryz.ntmps85 Tryz.results85 ?_;(all_goals refine gv ?_;repeat' first|exact .intro|refine Tw.mk ?_ ?_|(intro h;first|replace h:=h.o|cases h))
     all_goals ((refine StopCall.fz [] (sp) ?_;(all_goals refine lv ?_;repeat' first|exact .intro|refine Tw.mk ?_ ?_|(intro h;first|replace h:=h.o|cases h))))
     all_goals (try (exfalso;first|omega|(simp at h;done)))
     (all_goals refine fv ?_;repeat' first|exact .intro|refine Tw.mk ?_ ?_|(intro h;first|replace h:=h.o|cases h))
     all_goals (try (exfalso;first|omega|(simp at h;done)))
     all_goals ((refine StopCall.fz [2] (gt) ?_;(all_goals refine lv ?_;repeat' first|exact .intro|refine Tw.mk ?_ ?_|(intro h;first|replace h:=h.o|cases h))))
     all_goals (try (exfalso;first|omega|(simp at h;done)))
     all_goals ((refine StopCall.fz [] (nw) ?_;(all_goals refine lv ?_;repeat' first|exact .intro|refine Tw.mk ?_ ?_|(intro h;first|replace h:=h.o|cases h))))
     all_goals (try (exfalso;first|omega|(simp at h;done)))
     all_goals ((refine StopCall.fz [2] (tk) ?_;(all_goals refine lv ?_;repeat' first|exact .intro|refine Tw.mk ?_ ?_|(intro h;first|replace h:=h.o|cases h))))
     all_goals (try (exfalso;first|omega|(simp at h;done)))
     all_goals exact Y1
   .by_cases c3:TE=0/\0<=TV
    .rw[if_pos c3];obtain⟨c31,c32⟩:=c3;simp only[rtM,rtH,zaE,rtP,prQ];refine foP zaA (learnPl) [] [] Tryz.func85 Tryz.ntmps85 Tryz.results85 ?_;(all_goals refine gv ?_;repeat' first|exact .intro|refine Tw.mk ?_ ?_|(intro h;first|replace h:=h.o|cases h))
     all_goals ((refine StopCall.fz [] (sp) ?_;(all_goals refine lv ?_;repeat' first|exact .intro|refine Tw.mk ?_ ?_|(intro h;first|replace h:=h.o|cases h))))
     all_goals (try (exfalso;first|omega|(simp at h;done)))
     (all_goals refine fv ?_;repeat' first|exact .intro|refine Tw.mk ?_ ?_|(intro h;first|replace h:=h.o|cases h))
     all_goals (try (exfalso;first|omega|(simp at h;done)))
     all_goals ((refine StopCall.fz [2] (gt) ?_;(all_goals refine lv ?_;repeat' first|exact .intro|refine Tw.mk ?_ ?_|(intro h;first|replace h:=h.o|cases h))))
     all_goals (try (exfalso;first|omega|(simp at h;done)))
     all_goals ((refine StopCall.fz [2] (tk) ?_;(all_goals refine lv ?_;repeat' first|exact .intro|refine Tw.mk ?_ ?_|(intro h;first|replace h:=h.o|cases h))))
     all_goals (try (exfalso;first|omega|(simp at h;done)))
     (all_goals refine fv ?_;repeat' first|exact .intro|refine Tw.mk ?_ ?_|(intro h;first|replace h:=h.o|cases h))
     all_goals ((refine StopCall.fz [8,9,10,11] (pt) ?_;(all_goals refine lv ?_;repeat' first|exact .intro|refine Tw.mk ?_ ?_|(intro h;first|replace h:=h.o|cases h))))
     all_goals exact Y1
    .rw[if_neg c3];have c4:TE=0->TV<0:=λq=>by
      exact Y48
     clear pt;simp only[rtM,rtH,zaE,rtP,prQ];refine foP zaA (learnPl) [] [] Tryz.func85 Tryz.ntmps85 Tryz.results85 ?_;(all_goals refine gv ?_;repeat' first|exact .intro|refine Tw.mk ?_ ?_|(intro h;first|replace h:=h.o|cases h))
     all_goals ((refine StopCall.fz [] (sp) ?_;(all_goals refine lv ?_;repeat' first|exact .intro|refine Tw.mk ?_ ?_|(intro h;first|replace h:=h.o|cases h))))
     all_goals (try (exfalso;first|omega|(simp at h;done)))
     (all_goals refine fv ?_;repeat' first|exact .intro|refine Tw.mk ?_ ?_|(intro h;first|replace h:=h.o|cases h))
     all_goals (try (exfalso;first|omega|(simp at h;done)))
     all_goals ((refine StopCall.fz [2] (gt) ?_;(all_goals refine lv ?_;repeat' first|exact .intro|refine Tw.mk ?_ ?_|(intro h;first|replace h:=h.o|cases h))))
     all_goals (try (exfalso;first|omega|(simp at h;done)))
     all_goals ((refine StopCall.fz [2] (tk) ?_;(all_goals refine lv ?_;repeat' first|exact .intro|refine Tw.mk ?_ ?_|(intro h;first|replace h:=h.o|cases h))))
     all_goals (try (exfalso;first|omega|(simp at h;done)))
     all_goals exact Y1
 .rw[h4] at sp ⊢;rw[if_pos (.inl (by decide))];simp only[rtM,rtH,zaE,rtP,prQ];refine foP zaA (learnPl) [] [] Tryz.func85 Tryz.ntmps85 Tryz.results85 ?_;(all_goals refine gv ?_;repeat' first|exact .intro|refine Tw.mk ?_ ?_|(intro h;first|replace h:=h.o|cases h))
  all_goals ((refine StopCall.fz [] (sp) ?_;(all_goals refine lv ?_;repeat' first|exact .intro|refine Tw.mk ?_ ?_|(intro h;first|replace h:=h.o|cases h))))
  all_goals (try (exfalso;first|omega|(simp at h;done)))
  all_goals exact Y1
theorem znK(id dr:Int)(b:Ba)(hb:b.ok)(inb:List Mg)(p0 p1 p2:Pt)(hm: ∀p∈[p0,p1,p2],0<=p.m/\p.m<=20)(s:ByteArray)(hs:s.size<=1000)(ho:p2.out.length<=1000000000):Fn Tryz.prog 85 [.box 0 0,.v (.int .i64 2),.v (.string s)] (rtM ⟨id,[p0,p1,p2],b,inb,dr⟩ 0) (.tup []) (rtM (zbF ⟨id,[p0,p1,p2],b,inb,dr⟩ 2 (bs s)) 1):=by
 obtain⟨m,l,rd,rest,⟨w0,bo,l0⟩,out⟩:=p2;have sp:=zeq s hs;have gt:=ziR hb id;have sl:=zkh s;have ow:=zmP hb id;have tk:=zi9 hb 2 (zak s,sid s,sopt s);have ed:=ze7 id dr b inb p0 p1 ⟨m,l,rd,rest,⟨w0,bo,l0⟩,out⟩ hm;have hel:(zad [p0,p1,⟨m,l,rd,rest,⟨w0,bo,l0⟩,out⟩]).length<=6:=zdp _ 6;have st:=zgJ hb (id,sid s+1,zad [p0,p1,⟨m,l,rd,rest,⟨w0,bo,l0⟩,out⟩]) (by show (zad [p0,p1,⟨m,l,rd,rest,⟨w0,bo,l0⟩,out⟩]).length<=_;omega);have pt:=zcf ⟨m,l,rd,rest,⟨w0,bo,l0⟩,out⟩ 65 s (by omega) ho;rw[zbu] at pt;have hol:(stO (b.kn id)).2.2.length<=1000000:=by
  exact Y50
 have nw:=zbA (zak s) (sid s) (stO (b.kn id)).1 (stO (b.kn id)).2.1 (sopt s) (stO (b.kn id)).2.2 (by omega) hol;have hd:zbF ⟨id,[p0,p1,⟨m,l,rd,rest,⟨w0,bo,l0⟩,out⟩],b,inb,dr⟩ 2 (bs s)=if serr s≠0\/bo=false then ⟨id,[p0,p1,⟨m,l,rd,rest,⟨w0,bo,l0⟩,out⟩],b,inb,dr⟩ else if zak s=id/\0<orL [cmpI (sid s) (stO (b.kn id)).2.1,cmpE (sopt s) (stO (b.kn id)).2.2] then (if sid s<1000000 then ⟨id,[p0,p1,⟨m,l,rd,rest,⟨w0,bo,l0⟩,out⟩],setB b (id,sid s+1,zad [p0,p1,⟨m,l,rd,rest,⟨w0,bo,l0⟩,out⟩]),inb,dr⟩ else ⟨id,[p0,p1,⟨m,l,rd,rest,⟨w0,bo,l0⟩,out⟩],b,inb,dr⟩) else if zay b 2 (zak s,sid s,sopt s)=0/\0<=zcv b 2 (zak s,sid s,sopt s) then ⟨id,[p0,p1,⟨m,l,rd,rest,⟨w0,bo,l0⟩,(putP 65 (bs s) ⟨m,l,rd,rest,⟨w0,bo,l0⟩,out⟩).out⟩],zbd b 2 (zak s,sid s,sopt s),inb,dr⟩ else ⟨id,[p0,p1,⟨m,l,rd,rest,⟨w0,bo,l0⟩,out⟩],zbd b 2 (zak s,sid s,sopt s),inb,dr⟩:=by
  unfold zbF;rw[zdq,ziL];rw[show Rt.onP ⟨id,[p0,p1,⟨m,l,rd,rest,⟨w0,bo,l0⟩,out⟩],b,inb,dr⟩ 2 (putP 65 (bs s))=⟨id,[p0,p1,⟨m,l,rd,rest,⟨w0,bo,l0⟩,(putP 65 (bs s) ⟨m,l,rd,rest,⟨w0,bo,l0⟩,out⟩).out⟩],b,inb,dr⟩ from congrArg (λq=>(⟨id,[p0,p1,q],b,inb,dr⟩:Rt)) (zbu 65 (bs s) ⟨m,l,rd,rest,⟨w0,bo,l0⟩,out⟩)];rfl
 rw[hd];clear hd;unfold zaF at tk st gt;generalize zay b 2 (zak s,sid s,sopt s)=TE at *
 generalize zcv b 2 (zak s,sid s,sopt s)=TV at *
 generalize zbd b 2 (zak s,sid s,sopt s)=TB at *
 generalize sf (id,sid s+1,zad [p0,p1,⟨m,l,rd,rest,⟨w0,bo,l0⟩,out⟩])=SF at *
 generalize setB b (id,sid s+1,zad [p0,p1,⟨m,l,rd,rest,⟨w0,bo,l0⟩,out⟩])=SB at *
 generalize zad [p0,p1,⟨m,l,rd,rest,⟨w0,bo,l0⟩,out⟩]=E at *
 generalize (putP 65 (bs s) ⟨m,l,rd,rest,⟨w0,bo,l0⟩,out⟩).out=O at *
 generalize zak s=X0 at *
 generalize sid s=X1 at *
 generalize sopt s=X2 at *
 generalize stO (b.kn id)=W at *
 obtain⟨W0,W1,W2⟩:=W;dsimp only at *
 generalize orL [cmpI X1 W1,cmpE X2 W2]=NW at *
 unfold ptM prM at pt;rcases ziQ s with h4|h4
 .rw[h4] at sp ⊢;cases bo
  .rw[if_pos (.inr rfl)];simp only[rtM,rtH,zaE,rtP,prQ];refine foP zaA (learnPl) [] [] Tryz.func85 Tryz.ntmps85 Tryz.results85 ?_;(all_goals refine gv ?_;repeat' first|exact .intro|refine Tw.mk ?_ ?_|(intro h;first|replace h:=h.o|cases h))
   all_goals ((refine StopCall.fz [] (sp) ?_;(all_goals refine lv ?_;repeat' first|exact .intro|refine Tw.mk ?_ ?_|(intro h;first|replace h:=h.o|cases h))))
   all_goals (try (exfalso;first|omega|(simp at h;done)))
   (all_goals refine fv ?_;repeat' first|exact .intro|refine Tw.mk ?_ ?_|(intro h;first|replace h:=h.o|cases h))
   all_goals (try (exfalso;first|omega|(simp at h;done)))
   all_goals exact Y1
  rw[if_neg (by simp)];clear h4;obtain⟨sl1,sl2⟩:=sl;by_cases c1:X0=id/\0<NW
  .rw[if_pos c1];obtain⟨c11,c12⟩:=c1;clear tk pt;by_cases c2:X1<1000000
   .rw[if_pos c2];simp only[rtM,rtH,zaE,rtP,prQ] at ed ⊢;refine foP zaA (learnPl) [] [3] Tryz.func85 Tryz.ntmps85 Tryz.results85 ?_;(all_goals refine gv ?_;repeat' first|exact .intro|refine Tw.mk ?_ ?_|(intro h;first|replace h:=h.o|cases h))
    all_goals ((refine StopCall.fz [] (sp) ?_;(all_goals refine lv ?_;repeat' first|exact .intro|refine Tw.mk ?_ ?_|(intro h;first|replace h:=h.o|cases h))))
    all_goals (try (exfalso;first|omega|(simp at h;done)))
    (all_goals refine fv ?_;repeat' first|exact .intro|refine Tw.mk ?_ ?_|(intro h;first|replace h:=h.o|cases h))
    all_goals (try (exfalso;first|omega|(simp at h;done)))
    refine cutK ⟨[(0,.box 0 0),(1,.v (.int .i64 2)),(2,.v (.string s)),(6,.box 16 0),(8,.box 17 0)],rtM ⟨id,[p0,p1,⟨m,l,rd,rest,⟨w0,true,l0⟩,out⟩],b,inb,dr⟩ 0++[.cells [.v (.int .i64 X0),.v (.int .i64 X1),.sl 2 (X2.map opRow) none],.cells [.v (.int .i64 W0),.v (.int .i64 W1),.sl 2 (W2.map opRow) none]]⟩ ?_ (λhy=>?_)
    .clear sp gt;simp only[rtM,rtH,zaE,rtP,prQ];(all_goals refine gv ?_;repeat' first|exact .intro|refine Tw.mk ?_ ?_|(intro h;first|replace h:=h.o|cases h))
     all_goals (try (exfalso;first|omega|(simp at h;done)))
     all_goals ((refine StopCall.fz [] (nw) ?_;(all_goals refine lv ?_;repeat' first|exact .intro|refine Tw.mk ?_ ?_|(intro h;first|replace h:=h.o|cases h))))
     all_goals (try (exfalso;first|omega|(simp at h;done)))
     all_goals ((refine StopCall.fz zaX (ed) ?_;(all_goals refine lv ?_;repeat' first|exact .intro|refine Tw.mk ?_ ?_|(intro h;first|replace h:=h.o|cases h))))
     all_goals ((refine StopCall.fz [2] (st) ?_;(all_goals refine lv ?_;repeat' first|exact .intro|refine Tw.mk ?_ ?_|(intro h;first|replace h:=h.o|cases h))))
     all_goals exact Y1
    .exact Y25
   .rw[if_neg c2];clear st ed;simp only[rtM,rtH,zaE,rtP,prQ];refine foP zaA (learnPl) [] [] Tryz.func85 Tryz.ntmps85 Tryz.results85 ?_;(all_goals refine gv ?_;repeat' first|exact .intro|refine Tw.mk ?_ ?_|(intro h;first|replace h:=h.o|cases h))
    all_goals ((refine StopCall.fz [] (sp) ?_;(all_goals refine lv ?_;repeat' first|exact .intro|refine Tw.mk ?_ ?_|(intro h;first|replace h:=h.o|cases h))))
    all_goals (try (exfalso;first|omega|(simp at h;done)))
    (all_goals refine fv ?_;repeat' first|exact .intro|refine Tw.mk ?_ ?_|(intro h;first|replace h:=h.o|cases h))
    all_goals (try (exfalso;first|omega|(simp at h;done)))
    all_goals ((refine StopCall.fz [2] (gt) ?_;(all_goals refine lv ?_;repeat' first|exact .intro|refine Tw.mk ?_ ?_|(intro h;first|replace h:=h.o|cases h))))
    all_goals (try (exfalso;first|omega|(simp at h;done)))
    all_goals ((refine StopCall.fz [] (nw) ?_;(all_goals refine lv ?_;repeat' first|exact .intro|refine Tw.mk ?_ ?_|(intro h;first|replace h:=h.o|cases h))))
    all_goals (try (exfalso;first|omega|(simp at h;done)))
    all_goals exact Y1
  .rw[if_neg c1];clear st ed;by_cases cx:X0=id
   .have cn:NW<=0:=by
     exact Y88
    by_cases c3:TE=0/\0<=TV
    .rw[if_pos c3];obtain⟨c31,c32⟩:=c3;simp only[rtM,rtH,zaE,rtP,prQ];refine foP zaA (learnPl) [] [] Tryz.func85 Tryz.ntmps85 Tryz.results85 ?_;(all_goals refine gv ?_;repeat' first|exact .intro|refine Tw.mk ?_ ?_|(intro h;first|replace h:=h.o|cases h))
     all_goals ((refine StopCall.fz [] (sp) ?_;(all_goals refine lv ?_;repeat' first|exact .intro|refine Tw.mk ?_ ?_|(intro h;first|replace h:=h.o|cases h))))
     all_goals (try (exfalso;first|omega|(simp at h;done)))
     (all_goals refine fv ?_;repeat' first|exact .intro|refine Tw.mk ?_ ?_|(intro h;first|replace h:=h.o|cases h))
     all_goals (try (exfalso;first|omega|(simp at h;done)))
     all_goals ((refine StopCall.fz [2] (gt) ?_;(all_goals refine lv ?_;repeat' first|exact .intro|refine Tw.mk ?_ ?_|(intro h;first|replace h:=h.o|cases h))))
     all_goals (try (exfalso;first|omega|(simp at h;done)))
     all_goals ((refine StopCall.fz [] (nw) ?_;(all_goals refine lv ?_;repeat' first|exact .intro|refine Tw.mk ?_ ?_|(intro h;first|replace h:=h.o|cases h))))
     all_goals (try (exfalso;first|omega|(simp at h;done)))
     all_goals ((refine StopCall.fz [2] (tk) ?_;(all_goals refine lv ?_;repeat' first|exact .intro|refine Tw.mk ?_ ?_|(intro h;first|replace h:=h.o|cases h))))
     all_goals (try (exfalso;first|omega|(simp at h;done)))
     (all_goals refine fv ?_;repeat' first|exact .intro|refine Tw.mk ?_ ?_|(intro h;first|replace h:=h.o|cases h))
     all_goals ((refine StopCall.fz [12,13,14,15] (pt) ?_;(all_goals refine lv ?_;repeat' first|exact .intro|refine Tw.mk ?_ ?_|(intro h;first|replace h:=h.o|cases h))))
     all_goals exact Y1
    .rw[if_neg c3];have c4:TE=0->TV<0:=λq=>by
      exact Y48
     clear pt;simp only[rtM,rtH,zaE,rtP,prQ];refine foP zaA (learnPl) [] [] Tryz.func85 Tryz.ntmps85 Tryz.results85 ?_;(all_goals refine gv ?_;repeat' first|exact .intro|refine Tw.mk ?_ ?_|(intro h;first|replace h:=h.o|cases h))
     all_goals ((refine StopCall.fz [] (sp) ?_;(all_goals refine lv ?_;repeat' first|exact .intro|refine Tw.mk ?_ ?_|(intro h;first|replace h:=h.o|cases h))))
     all_goals (try (exfalso;first|omega|(simp at h;done)))
     (all_goals refine fv ?_;repeat' first|exact .intro|refine Tw.mk ?_ ?_|(intro h;first|replace h:=h.o|cases h))
     all_goals (try (exfalso;first|omega|(simp at h;done)))
     all_goals ((refine StopCall.fz [2] (gt) ?_;(all_goals refine lv ?_;repeat' first|exact .intro|refine Tw.mk ?_ ?_|(intro h;first|replace h:=h.o|cases h))))
     all_goals (try (exfalso;first|omega|(simp at h;done)))
     all_goals ((refine StopCall.fz [] (nw) ?_;(all_goals refine lv ?_;repeat' first|exact .intro|refine Tw.mk ?_ ?_|(intro h;first|replace h:=h.o|cases h))))
     all_goals (try (exfalso;first|omega|(simp at h;done)))
     all_goals ((refine StopCall.fz [2] (tk) ?_;(all_goals refine lv ?_;repeat' first|exact .intro|refine Tw.mk ?_ ?_|(intro h;first|replace h:=h.o|cases h))))
     all_goals (try (exfalso;first|omega|(simp at h;done)))
     all_goals exact Y1
   .by_cases c3:TE=0/\0<=TV
    .rw[if_pos c3];obtain⟨c31,c32⟩:=c3;simp only[rtM,rtH,zaE,rtP,prQ];refine foP zaA (learnPl) [] [] Tryz.func85 Tryz.ntmps85 Tryz.results85 ?_;(all_goals refine gv ?_;repeat' first|exact .intro|refine Tw.mk ?_ ?_|(intro h;first|replace h:=h.o|cases h))
     all_goals ((refine StopCall.fz [] (sp) ?_;(all_goals refine lv ?_;repeat' first|exact .intro|refine Tw.mk ?_ ?_|(intro h;first|replace h:=h.o|cases h))))
     all_goals (try (exfalso;first|omega|(simp at h;done)))
     (all_goals refine fv ?_;repeat' first|exact .intro|refine Tw.mk ?_ ?_|(intro h;first|replace h:=h.o|cases h))
     all_goals (try (exfalso;first|omega|(simp at h;done)))
     all_goals ((refine StopCall.fz [2] (gt) ?_;(all_goals refine lv ?_;repeat' first|exact .intro|refine Tw.mk ?_ ?_|(intro h;first|replace h:=h.o|cases h))))
     all_goals (try (exfalso;first|omega|(simp at h;done)))
     all_goals ((refine StopCall.fz [2] (tk) ?_;(all_goals refine lv ?_;repeat' first|exact .intro|refine Tw.mk ?_ ?_|(intro h;first|replace h:=h.o|cases h))))
     all_goals (try (exfalso;first|omega|(simp at h;done)))
     (all_goals refine fv ?_;repeat' first|exact .intro|refine Tw.mk ?_ ?_|(intro h;first|replace h:=h.o|cases h))
     all_goals ((refine StopCall.fz [12,13,14,15] (pt) ?_;(all_goals refine lv ?_;repeat' first|exact .intro|refine Tw.mk ?_ ?_|(intro h;first|replace h:=h.o|cases h))))
     all_goals exact Y1
    .rw[if_neg c3];have c4:TE=0->TV<0:=λq=>by
      exact Y48
     clear pt;simp only[rtM,rtH,zaE,rtP,prQ];refine foP zaA (learnPl) [] [] Tryz.func85 Tryz.ntmps85 Tryz.results85 ?_;(all_goals refine gv ?_;repeat' first|exact .intro|refine Tw.mk ?_ ?_|(intro h;first|replace h:=h.o|cases h))
     all_goals ((refine StopCall.fz [] (sp) ?_;(all_goals refine lv ?_;repeat' first|exact .intro|refine Tw.mk ?_ ?_|(intro h;first|replace h:=h.o|cases h))))
     all_goals (try (exfalso;first|omega|(simp at h;done)))
     (all_goals refine fv ?_;repeat' first|exact .intro|refine Tw.mk ?_ ?_|(intro h;first|replace h:=h.o|cases h))
     all_goals (try (exfalso;first|omega|(simp at h;done)))
     all_goals ((refine StopCall.fz [2] (gt) ?_;(all_goals refine lv ?_;repeat' first|exact .intro|refine Tw.mk ?_ ?_|(intro h;first|replace h:=h.o|cases h))))
     all_goals (try (exfalso;first|omega|(simp at h;done)))
     all_goals ((refine StopCall.fz [2] (tk) ?_;(all_goals refine lv ?_;repeat' first|exact .intro|refine Tw.mk ?_ ?_|(intro h;first|replace h:=h.o|cases h))))
     all_goals (try (exfalso;first|omega|(simp at h;done)))
     all_goals exact Y1
 .rw[h4] at sp ⊢;rw[if_pos (.inl (by decide))];simp only[rtM,rtH,zaE,rtP,prQ];refine foP zaA (learnPl) [] [] Tryz.func85 Tryz.ntmps85 Tryz.results85 ?_;(all_goals refine gv ?_;repeat' first|exact .intro|refine Tw.mk ?_ ?_|(intro h;first|replace h:=h.o|cases h))
  all_goals ((refine StopCall.fz [] (sp) ?_;(all_goals refine lv ?_;repeat' first|exact .intro|refine Tw.mk ?_ ?_|(intro h;first|replace h:=h.o|cases h))))
  all_goals (try (exfalso;first|omega|(simp at h;done)))
  all_goals exact Y1
end Go.Proofs.YtimfnpjcedjmiadGreat
