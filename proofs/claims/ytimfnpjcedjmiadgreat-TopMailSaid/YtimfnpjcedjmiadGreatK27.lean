/- Lemmas. -/
import Derived.Test.YtimfnpjcedjmiadGreatK25
import Derived.Test.YtimfnpjcedjmiadGreatK22
set_option maxRecDepth 100000
set_option maxHeartbeats 64000000
set_option linter.all false
namespace Go.Proofs.YtimfnpjcedjmiadGreat
open Go.RowKit
def takePl:List (Nat×Pl):=[(4,.op 0 (.op 1 (.op 2 (.op 3 (.op 4 (.op 5 (.done))))))),(12,.op 0 (.op 1 (.op 2 (.op 3 (.op 4 (.op 5 (.op 6 (.op 7 (.op 8 (.op 9 (.op 10 (.op 11 (.op 12 (.done))))))))))))))]
def tkL(l:Lk)(s:ByteArray):Lk:=takL l ⟨zdB s,pid s,popt s⟩
theorem zo4(s:ByteArray):hpE s=0\/hpE s=4:=by unfold hpE;split<;>simp
theorem zkg(s:ByteArray):perr s=0\/perr s=4:=by unfold perr;split<;>simp
theorem zbV(k:UInt8)(n:Nat)(hn:n<256):(k.toNat:Int)=n↔k=UInt8.ofNat n:=by
 constructor
 .intro h;refine UInt8.toNat_inj.1 ?_;rw[UInt8.toNat_ofNat'];omega
 .rintro rfl;rw[UInt8.toNat_ofNat'];omega
theorem zpE(id dr:Int)(b:Ba)(hb:b.ok)(inb:List Mg)(p0 p1 p2:Pt)(hm: ∀p∈[p0,p1,p2],0<=p.m/\p.m<=20)(k:UInt8)(s:ByteArray)(hs:s.size<=1000)(hl:p0.l.ok 800)(hx: ∀x∈(tkL p0.l s).out,x.o.length<=1000)(hn:(tkL p0.l s).out.length<=1000)
  (hd: -1000000000<=dr/\dr<=1000000000) (hi:inb.length<=10000000) (ho: ∀p∈[p0,p1,p2],p.out.length<=10000000):Fn Tryz.prog 65 [.box 0 0,.v (.int .i64 0),.v (.int .u8 k.toNat),.v (.string s)] (rtM ⟨id,[p0,p1,p2],b,inb,dr⟩ 0) (.tup []) (rtM (takR ⟨id,[p0,p1,p2],b,inb,dr⟩ 0 k (bs s)) 1):=by
 obtain⟨Q,hQ⟩: ∃Q,Q=if k=76/\perr s=0 then (⟨p0.m,outL (tkL p0.l s),p0.rd,p0.rest,p0.p,p0.out++(tkL p0.l s).out.flatMap flB⟩:Pt) else p0:=⟨_,rfl⟩
 have hX:tak1 ⟨id,[p0,p1,p2],b,inb,dr⟩ 0 k (bs s)=⟨id,[Q,p1,p2],b,inb,dr⟩:=by
  unfold tak1;rw[zdq,hQ];split
  .rw[show zcS=λp s=>zcS p s from rfl];show (⟨id,[zcS p0 (bs s),p1,p2],b,inb,dr⟩:Rt)=_;unfold zcS;rw[zdq];rfl
  .rfl
 have hfl:=zez (tkL p0.l s).out;have hob:=ho p0 (by simp);have hQo:Q.out.length<=1000000000/\0<=Q.m/\Q.m<=20:=by
  have hmi:=hm p0 (by simp);exact Y82
 have hT:takR ⟨id,[p0,p1,p2],b,inb,dr⟩ 0 k (bs s)=if Q.l.st≠9 then zaV ⟨id,[Q,p1,p2],b,inb,dr⟩ 0 peNo else if k=72 then (if hpE s=0 then zaV ⟨id,[Q,p1,p2],b,inb,dr⟩ 0 (zdO id (hpA s) (hpB s)) else ⟨id,[Q,p1,p2],b,inb,dr⟩) else if k=83 then zbF ⟨id,[Q,p1,p2],b,inb,dr⟩ 0 (bs s) else if k=65 then zcQ ⟨id,[Q,p1,p2],b,inb,dr⟩ 0 (bs s) else if k=77 then zba ⟨id,[Q,p1,p2],b,inb,dr⟩ (bs s) else ⟨id,[Q,p1,p2],b,inb,dr⟩:=by
  unfold takR;rw[hX,zdq];rfl
 have hm': ∀p∈[Q,p1,p2],0<=p.m/\p.m<=20:=by
  intro p hp;have:=hm p;simp only[List.mem_cons,List.not_mem_nil,or_false] at hp this;rcases hp with rfl|rfl|rfl
  .exact hQo.2
  .exact this (by simp)
  .exact this (by simp)
 have ho': ∀p∈[Q,p1,p2],p.out.length<=1000000000:=by
  intro p hp;have:=ho p;simp only[List.mem_cons,List.not_mem_nil,or_false] at hp this;rcases hp with rfl|rfl|rfl
  .exact hQo.1
  .have:=this (by simp);omega
  .have:=this (by simp);omega
 rw[hT];clear hT hX;have k72:=zbV k 72 (by decide);have k83:=zbV k 83 (by decide);have k65:=zbV k 65 (by decide);have k77:=zbV k 77 (by decide);have k76:=zbV k 76 (by decide);obtain⟨Qm,Ql,Qrd,Qrest,Qp,Qout⟩:=Q;dsimp only at hQo ⊢;refine foP zaA (takePl) [] [6] Tryz.func65 Tryz.ntmps65 Tryz.results65 ?_;simp only[rtM,rtH,zaE,rtP,prQ];(all_goals refine fv ?_;repeat' first|exact .intro|refine Tw.mk ?_ ?_|(intro h;first|replace h:=h.o|cases h))
 refine cutK ⟨[(0,.box 0 0),(1,.v (.int .i64 0)),(2,.v (.int .u8 k.toNat)),(3,.v (.string s)),(8,.box 4 0)],rtM ⟨id,[⟨Qm,Ql,Qrd,Qrest,Qp,Qout⟩,p1,p2],b,inb,dr⟩ 1⟩ ?_ (λhy=>?_)
 .clear hx hn hfl hob hl;have xs:=zbC Ql;by_cases c9:Ql.st=9
  .rw[if_neg (by simpa using c9)];by_cases e72:k=72
   .rw[if_pos e72];have kk:=k72.2 e72;rcases zo4 s with hp|hp
    .rw[if_pos hp];have hz:=zc2 s hs;rw[hp] at hz;have he:=zkx Qp id (hpA s) (hpB s);have ct:=zdZ id dr b hb inb ⟨Qm,Ql,Qrd,Qrest,Qp,Qout⟩ p1 p2 hm' (zdO id (hpA s) (hpB s));obtain⟨q0,q1,q2,hq⟩:=lit3 (zaW ⟨id,[⟨Qm,Ql,Qrd,Qrest,Qp,Qout⟩,p1,p2],b,inb,dr⟩ 0 (zdO id (hpA s) (hpB s))) rfl;rw[hq] at ct ⊢;clear hq;generalize zdO id (hpA s) (hpB s)=HP at *
     simp only[rtM,rtH,zaE,rtP,prQ,peRow] at ct he ⊢;(all_goals refine gv ?_;repeat' first|exact .intro|refine Tw.mk ?_ ?_|(intro h;first|replace h:=h.o|cases h))
     all_goals ((refine StopCall.fz [5] (xs) ?_;(all_goals refine lv ?_;repeat' first|exact .intro|refine Tw.mk ?_ ?_|(intro h;first|replace h:=h.o|cases h))))
     all_goals (try (exfalso;first|omega|(simp at h;done)))
     all_goals ((refine StopCall.fz [] (hz) ?_;(all_goals refine lv ?_;repeat' first|exact .intro|refine Tw.mk ?_ ?_|(intro h;first|replace h:=h.o|cases h))))
     all_goals (try (exfalso;first|omega|(simp at h;done)))
     all_goals ((refine StopCall.fz [] (he) ?_;(all_goals refine lv ?_;repeat' first|exact .intro|refine Tw.mk ?_ ?_|(intro h;first|replace h:=h.o|cases h))))
     all_goals ((refine StopCall.fz zaX (ct) ?_;(all_goals refine lv ?_;repeat' first|exact .intro|refine Tw.mk ?_ ?_|(intro h;first|replace h:=h.o|cases h))))
     all_goals exact Y1
    .rw[if_neg (by omega)];have hz:=zc2 s hs;rw[hp] at hz;simp only[rtM,rtH,zaE,rtP,prQ];(all_goals refine gv ?_;repeat' first|exact .intro|refine Tw.mk ?_ ?_|(intro h;first|replace h:=h.o|cases h))
     all_goals ((refine StopCall.fz [5] (xs) ?_;(all_goals refine lv ?_;repeat' first|exact .intro|refine Tw.mk ?_ ?_|(intro h;first|replace h:=h.o|cases h))))
     all_goals (try (exfalso;first|omega|(simp at h;done)))
     all_goals ((refine StopCall.fz [] (hz) ?_;(all_goals refine lv ?_;repeat' first|exact .intro|refine Tw.mk ?_ ?_|(intro h;first|replace h:=h.o|cases h))))
     all_goals (try (exfalso;first|omega|(simp at h;done)))
     all_goals exact Y1
   rw[if_neg e72];have n72: ¬(k.toNat:Int)=72:=λh=>e72 (k72.1 h);by_cases e83:k=83
   .rw[if_pos e83];have kk:=k83.2 e83;have ct:=zm4 id dr b hb inb ⟨Qm,Ql,Qrd,Qrest,Qp,Qout⟩ p1 p2 hm' s hs hQo.1;obtain⟨q0,q1,q2,hq⟩:=lit3 (zdl ⟨id,[⟨Qm,Ql,Qrd,Qrest,Qp,Qout⟩,p1,p2],b,inb,dr⟩ 0 (bs s)) rfl;rw[hq] at ct ⊢;clear hq;simp only[rtM,rtH,zaE,rtP,prQ] at ct ⊢;(all_goals refine gv ?_;repeat' first|exact .intro|refine Tw.mk ?_ ?_|(intro h;first|replace h:=h.o|cases h))
    all_goals ((refine StopCall.fz [5] (xs) ?_;(all_goals refine lv ?_;repeat' first|exact .intro|refine Tw.mk ?_ ?_|(intro h;first|replace h:=h.o|cases h))))
    all_goals (try (exfalso;first|omega|(simp at h;done)))
    all_goals ((refine StopCall.fz zaX (ct) ?_;(all_goals refine lv ?_;repeat' first|exact .intro|refine Tw.mk ?_ ?_|(intro h;first|replace h:=h.o|cases h))))
    all_goals exact Y1
   rw[if_neg e83];have n83: ¬(k.toNat:Int)=83:=λh=>e83 (k83.1 h);by_cases e65:k=65
   .rw[if_pos e65];have kk:=k65.2 e65;have ct:=zgu id dr b hb inb ⟨Qm,Ql,Qrd,Qrest,Qp,Qout⟩ p1 p2 0 s hs;obtain⟨q0,q1,q2,hq⟩:=lit3 (zd9 ⟨id,[⟨Qm,Ql,Qrd,Qrest,Qp,Qout⟩,p1,p2],b,inb,dr⟩ 0 (bs s)) rfl;rw[hq] at ct ⊢;clear hq;simp only[rtM,rtH,zaE,rtP,prQ] at ct ⊢;(all_goals refine gv ?_;repeat' first|exact .intro|refine Tw.mk ?_ ?_|(intro h;first|replace h:=h.o|cases h))
    all_goals ((refine StopCall.fz [5] (xs) ?_;(all_goals refine lv ?_;repeat' first|exact .intro|refine Tw.mk ?_ ?_|(intro h;first|replace h:=h.o|cases h))))
    all_goals (try (exfalso;first|omega|(simp at h;done)))
    all_goals ((refine StopCall.fz zaX (ct) ?_;(all_goals refine lv ?_;repeat' first|exact .intro|refine Tw.mk ?_ ?_|(intro h;first|replace h:=h.o|cases h))))
    all_goals exact Y1
   rw[if_neg e65];have n65: ¬(k.toNat:Int)=65:=λh=>e65 (k65.1 h);by_cases e77:k=77
   .rw[if_pos e77];have kk:=k77.2 e77;have ct:=zgm id dr b hb inb ⟨Qm,Ql,Qrd,Qrest,Qp,Qout⟩ p1 p2 s hs hd hi ho';obtain⟨q0,q1,q2,hq⟩:=lit3 (zdb ⟨id,[⟨Qm,Ql,Qrd,Qrest,Qp,Qout⟩,p1,p2],b,inb,dr⟩ (bs s)) rfl;rw[hq] at ct ⊢;clear hq;simp only[rtM,rtH,zaE,rtP,prQ] at ct ⊢;(all_goals refine gv ?_;repeat' first|exact .intro|refine Tw.mk ?_ ?_|(intro h;first|replace h:=h.o|cases h))
    all_goals ((refine StopCall.fz [5] (xs) ?_;(all_goals refine lv ?_;repeat' first|exact .intro|refine Tw.mk ?_ ?_|(intro h;first|replace h:=h.o|cases h))))
    all_goals (try (exfalso;first|omega|(simp at h;done)))
    all_goals ((refine StopCall.fz zaX (ct) ?_;(all_goals refine lv ?_;repeat' first|exact .intro|refine Tw.mk ?_ ?_|(intro h;first|replace h:=h.o|cases h))))
    all_goals exact Y1
   rw[if_neg e77];have n77: ¬(k.toNat:Int)=77:=λh=>e77 (k77.1 h);simp only[rtM,rtH,zaE,rtP,prQ];(all_goals refine gv ?_;repeat' first|exact .intro|refine Tw.mk ?_ ?_|(intro h;first|replace h:=h.o|cases h))
   all_goals ((refine StopCall.fz [5] (xs) ?_;(all_goals refine lv ?_;repeat' first|exact .intro|refine Tw.mk ?_ ?_|(intro h;first|replace h:=h.o|cases h))))
   all_goals (try (exfalso;first|omega|(simp at h;done)))
   all_goals exact Y1
  .rw[if_pos c9];have ct:=zdZ id dr b hb inb ⟨Qm,Ql,Qrd,Qrest,Qp,Qout⟩ p1 p2 hm' peNo;obtain⟨q0,q1,q2,hq⟩:=lit3 (zaW ⟨id,[⟨Qm,Ql,Qrd,Qrest,Qp,Qout⟩,p1,p2],b,inb,dr⟩ 0 peNo) rfl;rw[hq] at ct ⊢;clear hq;simp only[rtM,rtH,zaE,rtP,prQ,peRow,peNo] at ct ⊢;(all_goals refine gv ?_;repeat' first|exact .intro|refine Tw.mk ?_ ?_|(intro h;first|replace h:=h.o|cases h))
   all_goals ((refine StopCall.fz [5] (xs) ?_;(all_goals refine lv ?_;repeat' first|exact .intro|refine Tw.mk ?_ ?_|(intro h;first|replace h:=h.o|cases h))))
   all_goals (try (exfalso;first|omega|(simp at h;done)))
   all_goals ((refine StopCall.fz zaX (ct) ?_;(all_goals refine lv ?_;repeat' first|exact .intro|refine Tw.mk ?_ ?_|(intro h;first|replace h:=h.o|cases h))))
   all_goals exact Y1
 .simp only[rtM,rtH,zaE,rtP,prQ] at hy;by_cases c76:k=76
  .have kk:=k76.2 c76;have pp:=zgW s hs;rcases zkg s with hp|hp
   .rw[if_pos ⟨c76,hp⟩] at hQ;injection hQ with a1 a2 a3 a4 a5 a6
    subst a1 a2 a3 a4 a5 a6;rw[hp] at pp;have tk:Fn Tryz.prog 82 [.box 0 0,pkAV ⟨zdB s,pid s,popt s⟩] [lkR p0.l] (.err (takE p0.l ⟨zdB s,pid s,popt s⟩)) [lkR (tkL p0.l s)]:=zg1 p0.l (hl.mono (by omega)) _;have fl:=zcB ⟨p0.m,tkL p0.l s,p0.rd,p0.rest,p0.p,p0.out⟩ hn hx (by dsimp only;omega);rw[show zbE ⟨p0.m,tkL p0.l s,p0.rd,p0.rest,p0.p,p0.out⟩=⟨p0.m,outL (tkL p0.l s),p0.rd,p0.rest,p0.p,p0.out++(tkL p0.l s).out.flatMap flB⟩ from rfl] at fl;generalize takE p0.l ⟨zdB s,pid s,popt s⟩=TE at *
    unfold pkAV zcc at tk;unfold ptM prM at fl;dsimp only at tk fl;(all_goals refine fv ?_;repeat' first|exact .intro|refine Tw.mk ?_ ?_|(intro h;first|replace h:=h.o|cases h))
    all_goals (try (exfalso;first|omega|(simp at h;done)))
    all_goals ((refine StopCall.fz [] (pp) ?_;(all_goals refine lv ?_;repeat' first|exact .intro|refine Tw.mk ?_ ?_|(intro h;first|replace h:=h.o|cases h))))
    all_goals (try (exfalso;first|omega|(simp at h;done)))
    all_goals ((refine StopCall.fz [5] (tk) ?_;(all_goals refine lv ?_;repeat' first|exact .intro|refine Tw.mk ?_ ?_|(intro h;first|replace h:=h.o|cases h))))
    all_goals ((refine StopCall.fz [4,5,6,7] (fl) ?_;(all_goals refine lv ?_;repeat' first|exact .intro|refine Tw.mk ?_ ?_|(intro h;first|replace h:=h.o|cases h))))
    all_goals exact Y19
   .exact Y18
  .rw[if_neg (λq=>c76 q.1)] at hQ;subst hQ;have n76: ¬(k.toNat:Int)=76:=λh=>c76 (k76.1 h);(all_goals refine fv ?_;repeat' first|exact .intro|refine Tw.mk ?_ ?_|(intro h;first|replace h:=h.o|cases h))
   all_goals (try (exfalso;first|omega|(simp at h;done)))
   all_goals exact Y19
theorem znm(id dr:Int)(b:Ba)(hb:b.ok)(inb:List Mg)(p0 p1 p2:Pt)(hm: ∀p∈[p0,p1,p2],0<=p.m/\p.m<=20)(k:UInt8)(s:ByteArray)(hs:s.size<=1000)(hl:p1.l.ok 800)(hx: ∀x∈(tkL p1.l s).out,x.o.length<=1000)(hn:(tkL p1.l s).out.length<=1000)
  (hd: -1000000000<=dr/\dr<=1000000000) (hi:inb.length<=10000000) (ho: ∀p∈[p0,p1,p2],p.out.length<=10000000):Fn Tryz.prog 65 [.box 0 0,.v (.int .i64 1),.v (.int .u8 k.toNat),.v (.string s)] (rtM ⟨id,[p0,p1,p2],b,inb,dr⟩ 0) (.tup []) (rtM (takR ⟨id,[p0,p1,p2],b,inb,dr⟩ 1 k (bs s)) 1):=by
 obtain⟨Q,hQ⟩: ∃Q,Q=if k=76/\perr s=0 then (⟨p1.m,outL (tkL p1.l s),p1.rd,p1.rest,p1.p,p1.out++(tkL p1.l s).out.flatMap flB⟩:Pt) else p1:=⟨_,rfl⟩
 have hX:tak1 ⟨id,[p0,p1,p2],b,inb,dr⟩ 1 k (bs s)=⟨id,[p0,Q,p2],b,inb,dr⟩:=by
  unfold tak1;rw[zdq,hQ];split
  .rw[show zcS=λp s=>zcS p s from rfl];show (⟨id,[p0,zcS p1 (bs s),p2],b,inb,dr⟩:Rt)=_;unfold zcS;rw[zdq];rfl
  .rfl
 have hfl:=zez (tkL p1.l s).out;have hob:=ho p1 (by simp);have hQo:Q.out.length<=1000000000/\0<=Q.m/\Q.m<=20:=by
  have hmi:=hm p1 (by simp);exact Y82
 have hT:takR ⟨id,[p0,p1,p2],b,inb,dr⟩ 1 k (bs s)=if Q.l.st≠9 then zaV ⟨id,[p0,Q,p2],b,inb,dr⟩ 1 peNo else if k=72 then (if hpE s=0 then zaV ⟨id,[p0,Q,p2],b,inb,dr⟩ 1 (zdO id (hpA s) (hpB s)) else ⟨id,[p0,Q,p2],b,inb,dr⟩) else if k=83 then zbF ⟨id,[p0,Q,p2],b,inb,dr⟩ 1 (bs s) else if k=65 then zcQ ⟨id,[p0,Q,p2],b,inb,dr⟩ 1 (bs s) else if k=77 then zba ⟨id,[p0,Q,p2],b,inb,dr⟩ (bs s) else ⟨id,[p0,Q,p2],b,inb,dr⟩:=by
  unfold takR;rw[hX,zdq];rfl
 have hm': ∀p∈[p0,Q,p2],0<=p.m/\p.m<=20:=by
  intro p hp;have:=hm p;simp only[List.mem_cons,List.not_mem_nil,or_false] at hp this;rcases hp with rfl|rfl|rfl
  .exact this (by simp)
  .exact hQo.2
  .exact this (by simp)
 have ho': ∀p∈[p0,Q,p2],p.out.length<=1000000000:=by
  intro p hp;have:=ho p;simp only[List.mem_cons,List.not_mem_nil,or_false] at hp this;rcases hp with rfl|rfl|rfl
  .have:=this (by simp);omega
  .exact hQo.1
  .have:=this (by simp);omega
 rw[hT];clear hT hX;have k72:=zbV k 72 (by decide);have k83:=zbV k 83 (by decide);have k65:=zbV k 65 (by decide);have k77:=zbV k 77 (by decide);have k76:=zbV k 76 (by decide);obtain⟨Qm,Ql,Qrd,Qrest,Qp,Qout⟩:=Q;dsimp only at hQo ⊢;refine foP zaA (takePl) [] [6] Tryz.func65 Tryz.ntmps65 Tryz.results65 ?_;simp only[rtM,rtH,zaE,rtP,prQ];(all_goals refine fv ?_;repeat' first|exact .intro|refine Tw.mk ?_ ?_|(intro h;first|replace h:=h.o|cases h))
 refine cutK ⟨[(0,.box 0 0),(1,.v (.int .i64 1)),(2,.v (.int .u8 k.toNat)),(3,.v (.string s)),(8,.box 8 0)],rtM ⟨id,[p0,⟨Qm,Ql,Qrd,Qrest,Qp,Qout⟩,p2],b,inb,dr⟩ 1⟩ ?_ (λhy=>?_)
 .clear hx hn hfl hob hl;have xs:=zbC Ql;by_cases c9:Ql.st=9
  .rw[if_neg (by simpa using c9)];by_cases e72:k=72
   .rw[if_pos e72];have kk:=k72.2 e72;rcases zo4 s with hp|hp
    .rw[if_pos hp];have hz:=zc2 s hs;rw[hp] at hz;have he:=zkx Qp id (hpA s) (hpB s);have ct:=zd4 id dr b hb inb p0 ⟨Qm,Ql,Qrd,Qrest,Qp,Qout⟩ p2 hm' (zdO id (hpA s) (hpB s));obtain⟨q0,q1,q2,hq⟩:=lit3 (zaW ⟨id,[p0,⟨Qm,Ql,Qrd,Qrest,Qp,Qout⟩,p2],b,inb,dr⟩ 1 (zdO id (hpA s) (hpB s))) rfl;rw[hq] at ct ⊢;clear hq;generalize zdO id (hpA s) (hpB s)=HP at *
     simp only[rtM,rtH,zaE,rtP,prQ,peRow] at ct he ⊢;(all_goals refine gv ?_;repeat' first|exact .intro|refine Tw.mk ?_ ?_|(intro h;first|replace h:=h.o|cases h))
     all_goals ((refine StopCall.fz [9] (xs) ?_;(all_goals refine lv ?_;repeat' first|exact .intro|refine Tw.mk ?_ ?_|(intro h;first|replace h:=h.o|cases h))))
     all_goals (try (exfalso;first|omega|(simp at h;done)))
     all_goals ((refine StopCall.fz [] (hz) ?_;(all_goals refine lv ?_;repeat' first|exact .intro|refine Tw.mk ?_ ?_|(intro h;first|replace h:=h.o|cases h))))
     all_goals (try (exfalso;first|omega|(simp at h;done)))
     all_goals ((refine StopCall.fz [] (he) ?_;(all_goals refine lv ?_;repeat' first|exact .intro|refine Tw.mk ?_ ?_|(intro h;first|replace h:=h.o|cases h))))
     all_goals ((refine StopCall.fz zaX (ct) ?_;(all_goals refine lv ?_;repeat' first|exact .intro|refine Tw.mk ?_ ?_|(intro h;first|replace h:=h.o|cases h))))
     all_goals exact Y1
    .rw[if_neg (by omega)];have hz:=zc2 s hs;rw[hp] at hz;simp only[rtM,rtH,zaE,rtP,prQ];(all_goals refine gv ?_;repeat' first|exact .intro|refine Tw.mk ?_ ?_|(intro h;first|replace h:=h.o|cases h))
     all_goals ((refine StopCall.fz [9] (xs) ?_;(all_goals refine lv ?_;repeat' first|exact .intro|refine Tw.mk ?_ ?_|(intro h;first|replace h:=h.o|cases h))))
     all_goals (try (exfalso;first|omega|(simp at h;done)))
     all_goals ((refine StopCall.fz [] (hz) ?_;(all_goals refine lv ?_;repeat' first|exact .intro|refine Tw.mk ?_ ?_|(intro h;first|replace h:=h.o|cases h))))
     all_goals (try (exfalso;first|omega|(simp at h;done)))
     all_goals exact Y1
   rw[if_neg e72];have n72: ¬(k.toNat:Int)=72:=λh=>e72 (k72.1 h);by_cases e83:k=83
   .rw[if_pos e83];have kk:=k83.2 e83;have ct:=zm0 id dr b hb inb p0 ⟨Qm,Ql,Qrd,Qrest,Qp,Qout⟩ p2 hm' s hs hQo.1;obtain⟨q0,q1,q2,hq⟩:=lit3 (zdl ⟨id,[p0,⟨Qm,Ql,Qrd,Qrest,Qp,Qout⟩,p2],b,inb,dr⟩ 1 (bs s)) rfl;rw[hq] at ct ⊢;clear hq;simp only[rtM,rtH,zaE,rtP,prQ] at ct ⊢;(all_goals refine gv ?_;repeat' first|exact .intro|refine Tw.mk ?_ ?_|(intro h;first|replace h:=h.o|cases h))
    all_goals ((refine StopCall.fz [9] (xs) ?_;(all_goals refine lv ?_;repeat' first|exact .intro|refine Tw.mk ?_ ?_|(intro h;first|replace h:=h.o|cases h))))
    all_goals (try (exfalso;first|omega|(simp at h;done)))
    all_goals ((refine StopCall.fz zaX (ct) ?_;(all_goals refine lv ?_;repeat' first|exact .intro|refine Tw.mk ?_ ?_|(intro h;first|replace h:=h.o|cases h))))
    all_goals exact Y1
   rw[if_neg e83];have n83: ¬(k.toNat:Int)=83:=λh=>e83 (k83.1 h);by_cases e65:k=65
   .rw[if_pos e65];have kk:=k65.2 e65;have ct:=zgu id dr b hb inb p0 ⟨Qm,Ql,Qrd,Qrest,Qp,Qout⟩ p2 1 s hs;obtain⟨q0,q1,q2,hq⟩:=lit3 (zd9 ⟨id,[p0,⟨Qm,Ql,Qrd,Qrest,Qp,Qout⟩,p2],b,inb,dr⟩ 1 (bs s)) rfl;rw[hq] at ct ⊢;clear hq;simp only[rtM,rtH,zaE,rtP,prQ] at ct ⊢;(all_goals refine gv ?_;repeat' first|exact .intro|refine Tw.mk ?_ ?_|(intro h;first|replace h:=h.o|cases h))
    all_goals ((refine StopCall.fz [9] (xs) ?_;(all_goals refine lv ?_;repeat' first|exact .intro|refine Tw.mk ?_ ?_|(intro h;first|replace h:=h.o|cases h))))
    all_goals (try (exfalso;first|omega|(simp at h;done)))
    all_goals ((refine StopCall.fz zaX (ct) ?_;(all_goals refine lv ?_;repeat' first|exact .intro|refine Tw.mk ?_ ?_|(intro h;first|replace h:=h.o|cases h))))
    all_goals exact Y1
   rw[if_neg e65];have n65: ¬(k.toNat:Int)=65:=λh=>e65 (k65.1 h);by_cases e77:k=77
   .rw[if_pos e77];have kk:=k77.2 e77;have ct:=zgm id dr b hb inb p0 ⟨Qm,Ql,Qrd,Qrest,Qp,Qout⟩ p2 s hs hd hi ho';obtain⟨q0,q1,q2,hq⟩:=lit3 (zdb ⟨id,[p0,⟨Qm,Ql,Qrd,Qrest,Qp,Qout⟩,p2],b,inb,dr⟩ (bs s)) rfl;rw[hq] at ct ⊢;clear hq;simp only[rtM,rtH,zaE,rtP,prQ] at ct ⊢;(all_goals refine gv ?_;repeat' first|exact .intro|refine Tw.mk ?_ ?_|(intro h;first|replace h:=h.o|cases h))
    all_goals ((refine StopCall.fz [9] (xs) ?_;(all_goals refine lv ?_;repeat' first|exact .intro|refine Tw.mk ?_ ?_|(intro h;first|replace h:=h.o|cases h))))
    all_goals (try (exfalso;first|omega|(simp at h;done)))
    all_goals ((refine StopCall.fz zaX (ct) ?_;(all_goals refine lv ?_;repeat' first|exact .intro|refine Tw.mk ?_ ?_|(intro h;first|replace h:=h.o|cases h))))
    all_goals exact Y1
   rw[if_neg e77];have n77: ¬(k.toNat:Int)=77:=λh=>e77 (k77.1 h);simp only[rtM,rtH,zaE,rtP,prQ];(all_goals refine gv ?_;repeat' first|exact .intro|refine Tw.mk ?_ ?_|(intro h;first|replace h:=h.o|cases h))
   all_goals ((refine StopCall.fz [9] (xs) ?_;(all_goals refine lv ?_;repeat' first|exact .intro|refine Tw.mk ?_ ?_|(intro h;first|replace h:=h.o|cases h))))
   all_goals (try (exfalso;first|omega|(simp at h;done)))
   all_goals exact Y1
  .rw[if_pos c9];have ct:=zd4 id dr b hb inb p0 ⟨Qm,Ql,Qrd,Qrest,Qp,Qout⟩ p2 hm' peNo;obtain⟨q0,q1,q2,hq⟩:=lit3 (zaW ⟨id,[p0,⟨Qm,Ql,Qrd,Qrest,Qp,Qout⟩,p2],b,inb,dr⟩ 1 peNo) rfl;rw[hq] at ct ⊢;clear hq;simp only[rtM,rtH,zaE,rtP,prQ,peRow,peNo] at ct ⊢;(all_goals refine gv ?_;repeat' first|exact .intro|refine Tw.mk ?_ ?_|(intro h;first|replace h:=h.o|cases h))
   all_goals ((refine StopCall.fz [9] (xs) ?_;(all_goals refine lv ?_;repeat' first|exact .intro|refine Tw.mk ?_ ?_|(intro h;first|replace h:=h.o|cases h))))
   all_goals (try (exfalso;first|omega|(simp at h;done)))
   all_goals ((refine StopCall.fz zaX (ct) ?_;(all_goals refine lv ?_;repeat' first|exact .intro|refine Tw.mk ?_ ?_|(intro h;first|replace h:=h.o|cases h))))
   all_goals exact Y1
 .simp only[rtM,rtH,zaE,rtP,prQ] at hy;by_cases c76:k=76
  .have kk:=k76.2 c76;have pp:=zgW s hs;rcases zkg s with hp|hp
   .rw[if_pos ⟨c76,hp⟩] at hQ;injection hQ with a1 a2 a3 a4 a5 a6
    subst a1 a2 a3 a4 a5 a6;rw[hp] at pp;have tk:Fn Tryz.prog 82 [.box 0 0,pkAV ⟨zdB s,pid s,popt s⟩] [lkR p1.l] (.err (takE p1.l ⟨zdB s,pid s,popt s⟩)) [lkR (tkL p1.l s)]:=zg1 p1.l (hl.mono (by omega)) _;have fl:=zcB ⟨p1.m,tkL p1.l s,p1.rd,p1.rest,p1.p,p1.out⟩ hn hx (by dsimp only;omega);rw[show zbE ⟨p1.m,tkL p1.l s,p1.rd,p1.rest,p1.p,p1.out⟩=⟨p1.m,outL (tkL p1.l s),p1.rd,p1.rest,p1.p,p1.out++(tkL p1.l s).out.flatMap flB⟩ from rfl] at fl;generalize takE p1.l ⟨zdB s,pid s,popt s⟩=TE at *
    unfold pkAV zcc at tk;unfold ptM prM at fl;dsimp only at tk fl;(all_goals refine fv ?_;repeat' first|exact .intro|refine Tw.mk ?_ ?_|(intro h;first|replace h:=h.o|cases h))
    all_goals (try (exfalso;first|omega|(simp at h;done)))
    all_goals ((refine StopCall.fz [] (pp) ?_;(all_goals refine lv ?_;repeat' first|exact .intro|refine Tw.mk ?_ ?_|(intro h;first|replace h:=h.o|cases h))))
    all_goals (try (exfalso;first|omega|(simp at h;done)))
    all_goals ((refine StopCall.fz [9] (tk) ?_;(all_goals refine lv ?_;repeat' first|exact .intro|refine Tw.mk ?_ ?_|(intro h;first|replace h:=h.o|cases h))))
    all_goals ((refine StopCall.fz [8,9,10,11] (fl) ?_;(all_goals refine lv ?_;repeat' first|exact .intro|refine Tw.mk ?_ ?_|(intro h;first|replace h:=h.o|cases h))))
    all_goals exact Y19
   .exact Y18
  .rw[if_neg (λq=>c76 q.1)] at hQ;subst hQ;have n76: ¬(k.toNat:Int)=76:=λh=>c76 (k76.1 h);(all_goals refine fv ?_;repeat' first|exact .intro|refine Tw.mk ?_ ?_|(intro h;first|replace h:=h.o|cases h))
   all_goals (try (exfalso;first|omega|(simp at h;done)))
   all_goals exact Y19
theorem zon(id dr:Int)(b:Ba)(hb:b.ok)(inb:List Mg)(p0 p1 p2:Pt)(hm: ∀p∈[p0,p1,p2],0<=p.m/\p.m<=20)(k:UInt8)(s:ByteArray)(hs:s.size<=1000)(hl:p2.l.ok 800)(hx: ∀x∈(tkL p2.l s).out,x.o.length<=1000)(hn:(tkL p2.l s).out.length<=1000)
  (hd: -1000000000<=dr/\dr<=1000000000) (hi:inb.length<=10000000) (ho: ∀p∈[p0,p1,p2],p.out.length<=10000000):Fn Tryz.prog 65 [.box 0 0,.v (.int .i64 2),.v (.int .u8 k.toNat),.v (.string s)] (rtM ⟨id,[p0,p1,p2],b,inb,dr⟩ 0) (.tup []) (rtM (takR ⟨id,[p0,p1,p2],b,inb,dr⟩ 2 k (bs s)) 1):=by
 obtain⟨Q,hQ⟩: ∃Q,Q=if k=76/\perr s=0 then (⟨p2.m,outL (tkL p2.l s),p2.rd,p2.rest,p2.p,p2.out++(tkL p2.l s).out.flatMap flB⟩:Pt) else p2:=⟨_,rfl⟩
 have hX:tak1 ⟨id,[p0,p1,p2],b,inb,dr⟩ 2 k (bs s)=⟨id,[p0,p1,Q],b,inb,dr⟩:=by
  unfold tak1;rw[zdq,hQ];split
  .rw[show zcS=λp s=>zcS p s from rfl];show (⟨id,[p0,p1,zcS p2 (bs s)],b,inb,dr⟩:Rt)=_;unfold zcS;rw[zdq];rfl
  .rfl
 have hfl:=zez (tkL p2.l s).out;have hob:=ho p2 (by simp);have hQo:Q.out.length<=1000000000/\0<=Q.m/\Q.m<=20:=by
  have hmi:=hm p2 (by simp);exact Y82
 have hT:takR ⟨id,[p0,p1,p2],b,inb,dr⟩ 2 k (bs s)=if Q.l.st≠9 then zaV ⟨id,[p0,p1,Q],b,inb,dr⟩ 2 peNo else if k=72 then (if hpE s=0 then zaV ⟨id,[p0,p1,Q],b,inb,dr⟩ 2 (zdO id (hpA s) (hpB s)) else ⟨id,[p0,p1,Q],b,inb,dr⟩) else if k=83 then zbF ⟨id,[p0,p1,Q],b,inb,dr⟩ 2 (bs s) else if k=65 then zcQ ⟨id,[p0,p1,Q],b,inb,dr⟩ 2 (bs s) else if k=77 then zba ⟨id,[p0,p1,Q],b,inb,dr⟩ (bs s) else ⟨id,[p0,p1,Q],b,inb,dr⟩:=by
  unfold takR;rw[hX,zdq];rfl
 have hm': ∀p∈[p0,p1,Q],0<=p.m/\p.m<=20:=by
  intro p hp;have:=hm p;simp only[List.mem_cons,List.not_mem_nil,or_false] at hp this;rcases hp with rfl|rfl|rfl
  .exact this (by simp)
  .exact this (by simp)
  .exact hQo.2
 have ho': ∀p∈[p0,p1,Q],p.out.length<=1000000000:=by
  intro p hp;have:=ho p;simp only[List.mem_cons,List.not_mem_nil,or_false] at hp this;rcases hp with rfl|rfl|rfl
  .have:=this (by simp);omega
  .have:=this (by simp);omega
  .exact hQo.1
 rw[hT];clear hT hX;have k72:=zbV k 72 (by decide);have k83:=zbV k 83 (by decide);have k65:=zbV k 65 (by decide);have k77:=zbV k 77 (by decide);have k76:=zbV k 76 (by decide);obtain⟨Qm,Ql,Qrd,Qrest,Qp,Qout⟩:=Q;dsimp only at hQo ⊢;refine foP zaA (takePl) [] [6] Tryz.func65 Tryz.ntmps65 Tryz.results65 ?_;simp only[rtM,rtH,zaE,rtP,prQ];(all_goals refine fv ?_;repeat' first|exact .intro|refine Tw.mk ?_ ?_|(intro h;first|replace h:=h.o|cases h))
 refine cutK ⟨[(0,.box 0 0),(1,.v (.int .i64 2)),(2,.v (.int .u8 k.toNat)),(3,.v (.string s)),(8,.box 12 0)],rtM ⟨id,[p0,p1,⟨Qm,Ql,Qrd,Qrest,Qp,Qout⟩],b,inb,dr⟩ 1⟩ ?_ (λhy=>?_)
 .clear hx hn hfl hob hl;have xs:=zbC Ql;by_cases c9:Ql.st=9
  .rw[if_neg (by simpa using c9)];by_cases e72:k=72
   .rw[if_pos e72];have kk:=k72.2 e72;rcases zo4 s with hp|hp
    .rw[if_pos hp];have hz:=zc2 s hs;rw[hp] at hz;have he:=zkx Qp id (hpA s) (hpB s);have ct:=zd2 id dr b hb inb p0 p1 ⟨Qm,Ql,Qrd,Qrest,Qp,Qout⟩ hm' (zdO id (hpA s) (hpB s));obtain⟨q0,q1,q2,hq⟩:=lit3 (zaW ⟨id,[p0,p1,⟨Qm,Ql,Qrd,Qrest,Qp,Qout⟩],b,inb,dr⟩ 2 (zdO id (hpA s) (hpB s))) rfl;rw[hq] at ct ⊢;clear hq;generalize zdO id (hpA s) (hpB s)=HP at *
     simp only[rtM,rtH,zaE,rtP,prQ,peRow] at ct he ⊢;(all_goals refine gv ?_;repeat' first|exact .intro|refine Tw.mk ?_ ?_|(intro h;first|replace h:=h.o|cases h))
     all_goals ((refine StopCall.fz [13] (xs) ?_;(all_goals refine lv ?_;repeat' first|exact .intro|refine Tw.mk ?_ ?_|(intro h;first|replace h:=h.o|cases h))))
     all_goals (try (exfalso;first|omega|(simp at h;done)))
     all_goals ((refine StopCall.fz [] (hz) ?_;(all_goals refine lv ?_;repeat' first|exact .intro|refine Tw.mk ?_ ?_|(intro h;first|replace h:=h.o|cases h))))
     all_goals (try (exfalso;first|omega|(simp at h;done)))
     all_goals ((refine StopCall.fz [] (he) ?_;(all_goals refine lv ?_;repeat' first|exact .intro|refine Tw.mk ?_ ?_|(intro h;first|replace h:=h.o|cases h))))
     all_goals ((refine StopCall.fz zaX (ct) ?_;(all_goals refine lv ?_;repeat' first|exact .intro|refine Tw.mk ?_ ?_|(intro h;first|replace h:=h.o|cases h))))
     all_goals exact Y1
    .rw[if_neg (by omega)];have hz:=zc2 s hs;rw[hp] at hz;simp only[rtM,rtH,zaE,rtP,prQ];(all_goals refine gv ?_;repeat' first|exact .intro|refine Tw.mk ?_ ?_|(intro h;first|replace h:=h.o|cases h))
     all_goals ((refine StopCall.fz [13] (xs) ?_;(all_goals refine lv ?_;repeat' first|exact .intro|refine Tw.mk ?_ ?_|(intro h;first|replace h:=h.o|cases h))))
     all_goals (try (exfalso;first|omega|(simp at h;done)))
     all_goals ((refine StopCall.fz [] (hz) ?_;(all_goals refine lv ?_;repeat' first|exact .intro|refine Tw.mk ?_ ?_|(intro h;first|replace h:=h.o|cases h))))
     all_goals (try (exfalso;first|omega|(simp at h;done)))
     all_goals exact Y1
   rw[if_neg e72];have n72: ¬(k.toNat:Int)=72:=λh=>e72 (k72.1 h);by_cases e83:k=83
   .rw[if_pos e83];have kk:=k83.2 e83;have ct:=znK id dr b hb inb p0 p1 ⟨Qm,Ql,Qrd,Qrest,Qp,Qout⟩ hm' s hs hQo.1;obtain⟨q0,q1,q2,hq⟩:=lit3 (zdl ⟨id,[p0,p1,⟨Qm,Ql,Qrd,Qrest,Qp,Qout⟩],b,inb,dr⟩ 2 (bs s)) rfl;rw[hq] at ct ⊢;clear hq;simp only[rtM,rtH,zaE,rtP,prQ] at ct ⊢;(all_goals refine gv ?_;repeat' first|exact .intro|refine Tw.mk ?_ ?_|(intro h;first|replace h:=h.o|cases h))
    all_goals ((refine StopCall.fz [13] (xs) ?_;(all_goals refine lv ?_;repeat' first|exact .intro|refine Tw.mk ?_ ?_|(intro h;first|replace h:=h.o|cases h))))
    all_goals (try (exfalso;first|omega|(simp at h;done)))
    all_goals ((refine StopCall.fz zaX (ct) ?_;(all_goals refine lv ?_;repeat' first|exact .intro|refine Tw.mk ?_ ?_|(intro h;first|replace h:=h.o|cases h))))
    all_goals exact Y1
   rw[if_neg e83];have n83: ¬(k.toNat:Int)=83:=λh=>e83 (k83.1 h);by_cases e65:k=65
   .rw[if_pos e65];have kk:=k65.2 e65;have ct:=zgu id dr b hb inb p0 p1 ⟨Qm,Ql,Qrd,Qrest,Qp,Qout⟩ 2 s hs;obtain⟨q0,q1,q2,hq⟩:=lit3 (zd9 ⟨id,[p0,p1,⟨Qm,Ql,Qrd,Qrest,Qp,Qout⟩],b,inb,dr⟩ 2 (bs s)) rfl;rw[hq] at ct ⊢;clear hq;simp only[rtM,rtH,zaE,rtP,prQ] at ct ⊢;(all_goals refine gv ?_;repeat' first|exact .intro|refine Tw.mk ?_ ?_|(intro h;first|replace h:=h.o|cases h))
    all_goals ((refine StopCall.fz [13] (xs) ?_;(all_goals refine lv ?_;repeat' first|exact .intro|refine Tw.mk ?_ ?_|(intro h;first|replace h:=h.o|cases h))))
    all_goals (try (exfalso;first|omega|(simp at h;done)))
    all_goals ((refine StopCall.fz zaX (ct) ?_;(all_goals refine lv ?_;repeat' first|exact .intro|refine Tw.mk ?_ ?_|(intro h;first|replace h:=h.o|cases h))))
    all_goals exact Y1
   rw[if_neg e65];have n65: ¬(k.toNat:Int)=65:=λh=>e65 (k65.1 h);by_cases e77:k=77
   .rw[if_pos e77];have kk:=k77.2 e77;have ct:=zgm id dr b hb inb p0 p1 ⟨Qm,Ql,Qrd,Qrest,Qp,Qout⟩ s hs hd hi ho';obtain⟨q0,q1,q2,hq⟩:=lit3 (zdb ⟨id,[p0,p1,⟨Qm,Ql,Qrd,Qrest,Qp,Qout⟩],b,inb,dr⟩ (bs s)) rfl;rw[hq] at ct ⊢;clear hq;simp only[rtM,rtH,zaE,rtP,prQ] at ct ⊢;(all_goals refine gv ?_;repeat' first|exact .intro|refine Tw.mk ?_ ?_|(intro h;first|replace h:=h.o|cases h))
    all_goals ((refine StopCall.fz [13] (xs) ?_;(all_goals refine lv ?_;repeat' first|exact .intro|refine Tw.mk ?_ ?_|(intro h;first|replace h:=h.o|cases h))))
    all_goals (try (exfalso;first|omega|(simp at h;done)))
    all_goals ((refine StopCall.fz zaX (ct) ?_;(all_goals refine lv ?_;repeat' first|exact .intro|refine Tw.mk ?_ ?_|(intro h;first|replace h:=h.o|cases h))))
    all_goals exact Y1
   rw[if_neg e77];have n77: ¬(k.toNat:Int)=77:=λh=>e77 (k77.1 h);simp only[rtM,rtH,zaE,rtP,prQ];(all_goals refine gv ?_;repeat' first|exact .intro|refine Tw.mk ?_ ?_|(intro h;first|replace h:=h.o|cases h))
   all_goals ((refine StopCall.fz [13] (xs) ?_;(all_goals refine lv ?_;repeat' first|exact .intro|refine Tw.mk ?_ ?_|(intro h;first|replace h:=h.o|cases h))))
   all_goals (try (exfalso;first|omega|(simp at h;done)))
   all_goals exact Y1
  .rw[if_pos c9];have ct:=zd2 id dr b hb inb p0 p1 ⟨Qm,Ql,Qrd,Qrest,Qp,Qout⟩ hm' peNo;obtain⟨q0,q1,q2,hq⟩:=lit3 (zaW ⟨id,[p0,p1,⟨Qm,Ql,Qrd,Qrest,Qp,Qout⟩],b,inb,dr⟩ 2 peNo) rfl;rw[hq] at ct ⊢;clear hq;simp only[rtM,rtH,zaE,rtP,prQ,peRow,peNo] at ct ⊢;(all_goals refine gv ?_;repeat' first|exact .intro|refine Tw.mk ?_ ?_|(intro h;first|replace h:=h.o|cases h))
   all_goals ((refine StopCall.fz [13] (xs) ?_;(all_goals refine lv ?_;repeat' first|exact .intro|refine Tw.mk ?_ ?_|(intro h;first|replace h:=h.o|cases h))))
   all_goals (try (exfalso;first|omega|(simp at h;done)))
   all_goals ((refine StopCall.fz zaX (ct) ?_;(all_goals refine lv ?_;repeat' first|exact .intro|refine Tw.mk ?_ ?_|(intro h;first|replace h:=h.o|cases h))))
   all_goals exact Y1
 .simp only[rtM,rtH,zaE,rtP,prQ] at hy;by_cases c76:k=76
  .have kk:=k76.2 c76;have pp:=zgW s hs;rcases zkg s with hp|hp
   .rw[if_pos ⟨c76,hp⟩] at hQ;injection hQ with a1 a2 a3 a4 a5 a6
    subst a1 a2 a3 a4 a5 a6;rw[hp] at pp;have tk:Fn Tryz.prog 82 [.box 0 0,pkAV ⟨zdB s,pid s,popt s⟩] [lkR p2.l] (.err (takE p2.l ⟨zdB s,pid s,popt s⟩)) [lkR (tkL p2.l s)]:=zg1 p2.l (hl.mono (by omega)) _;have fl:=zcB ⟨p2.m,tkL p2.l s,p2.rd,p2.rest,p2.p,p2.out⟩ hn hx (by dsimp only;omega);rw[show zbE ⟨p2.m,tkL p2.l s,p2.rd,p2.rest,p2.p,p2.out⟩=⟨p2.m,outL (tkL p2.l s),p2.rd,p2.rest,p2.p,p2.out++(tkL p2.l s).out.flatMap flB⟩ from rfl] at fl;generalize takE p2.l ⟨zdB s,pid s,popt s⟩=TE at *
    unfold pkAV zcc at tk;unfold ptM prM at fl;dsimp only at tk fl;(all_goals refine fv ?_;repeat' first|exact .intro|refine Tw.mk ?_ ?_|(intro h;first|replace h:=h.o|cases h))
    all_goals (try (exfalso;first|omega|(simp at h;done)))
    all_goals ((refine StopCall.fz [] (pp) ?_;(all_goals refine lv ?_;repeat' first|exact .intro|refine Tw.mk ?_ ?_|(intro h;first|replace h:=h.o|cases h))))
    all_goals (try (exfalso;first|omega|(simp at h;done)))
    all_goals ((refine StopCall.fz [13] (tk) ?_;(all_goals refine lv ?_;repeat' first|exact .intro|refine Tw.mk ?_ ?_|(intro h;first|replace h:=h.o|cases h))))
    all_goals ((refine StopCall.fz [12,13,14,15] (fl) ?_;(all_goals refine lv ?_;repeat' first|exact .intro|refine Tw.mk ?_ ?_|(intro h;first|replace h:=h.o|cases h))))
    all_goals exact Y19
   .exact Y18
  .rw[if_neg (λq=>c76 q.1)] at hQ;subst hQ;have n76: ¬(k.toNat:Int)=76:=λh=>c76 (k76.1 h);(all_goals refine fv ?_;repeat' first|exact .intro|refine Tw.mk ?_ ?_|(intro h;first|replace h:=h.o|cases h))
   all_goals (try (exfalso;first|omega|(simp at h;done)))
   all_goals exact Y19
end Go.Proofs.YtimfnpjcedjmiadGreat
