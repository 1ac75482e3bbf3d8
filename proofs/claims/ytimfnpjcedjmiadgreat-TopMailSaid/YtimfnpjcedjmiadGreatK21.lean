/- Lemmas. -/
import Derived.Test.YtimfnpjcedjmiadGreatK20
set_option maxRecDepth 100000
set_option maxHeartbeats 64000000
set_option linter.all false
namespace Go.Proofs.YtimfnpjcedjmiadGreat
open Go.RowKit
def heardPl:List (Nat×Pl):=[(2,.op 0 (.op 1 (.op 2 (.op 3 (.op 4 (.op 5 (.op 6 (.done))))))))]
def carryPl:List (Nat×Pl):=[(1,.op 0 (.op 1 (.op 2 (.op 3 (.op 4 (.op 5 (.op 6 (.op 7 (.op 8 (.op 9 (.op 10 (.done))))))))))))]
theorem ziL(s:ByteArray):stOf (bs s)=(zak s,sid s,sopt s):=by unfold stOf;rw[zdq]
theorem ziQ(s:ByteArray):serr s=0\/serr s=4:=by unfold serr;split<;>simp
theorem zkh(s:ByteArray):(sopt s).length<=6/\0<=sid s:=by
 unfold sopt sid;split
 .rename_i h;have:=zaN (ze1.1 h).2.2;exact⟨this.2.2.2.2.1,by omega⟩
 .simp
theorem slice_bs(s:ByteArray)(h:2<=s.size):s.extract 2 s.size=tx ((bs s).drop 2):=by
 have hl:=zcz s;rw[zdc s (by omega),<-hl,List.take_length]
theorem zgu(id dr:Int)(b:Ba)(hb:b.ok)(inb:List Mg)(p0 p1 p2:Pt)(i:Nat)(s:ByteArray)(hs:s.size<=1000):Fn Tryz.prog 86 [.box 0 0,.v (.int .i64 i),.v (.string s)] (rtM ⟨id,[p0,p1,p2],b,inb,dr⟩ 0) (.tup []) (rtM (zcQ ⟨id,[p0,p1,p2],b,inb,dr⟩ i (bs s)) 0):=by
 have sp:=zeq s hs;have hh:=zqP hb i (zak s,sid s,sopt s);have hd:zcQ ⟨id,[p0,p1,p2],b,inb,dr⟩ i (bs s)=if serr s=0 then ⟨id,[p0,p1,p2],hrdB b i (zak s,sid s,sopt s),inb,dr⟩ else ⟨id,[p0,p1,p2],b,inb,dr⟩:=by unfold zcQ;rw[zdq,ziL]
 rw[hd];clear hd;unfold zaF at hh;generalize zay b i (zak s,sid s,sopt s)=F at *
 generalize hrdB b i (zak s,sid s,sopt s)=B at *
 generalize zak s=X0 at *
 generalize sid s=X1 at *
 generalize sopt s=X2 at *
 rcases ziQ s with he|he
 .rw[he] at sp ⊢;rw[if_pos rfl];simp only[rtM,rtH,zaE,rtP,prQ];refine foP zaA (heardPl) [] [] Tryz.func86 Tryz.ntmps86 Tryz.results86 ?_;(all_goals refine gv ?_;repeat' first|exact .intro|refine Tw.mk ?_ ?_|(intro h;first|replace h:=h.o|cases h))
  all_goals ((refine StopCall.fz [] (sp) ?_;(all_goals refine lv ?_;repeat' first|exact .intro|refine Tw.mk ?_ ?_|(intro h;first|replace h:=h.o|cases h))))
  all_goals (try (exfalso;first|omega|(simp at h;done)))
  all_goals ((refine StopCall.fz [2] (hh) ?_;(all_goals refine lv ?_;repeat' first|exact .intro|refine Tw.mk ?_ ?_|(intro h;first|replace h:=h.o|cases h))))
  all_goals exact Y1
 .rw[he] at sp ⊢;rw[if_neg (by decide)];simp only[rtM,rtH,zaE,rtP,prQ];refine foP zaA (heardPl) [] [] Tryz.func86 Tryz.ntmps86 Tryz.results86 ?_;(all_goals refine gv ?_;repeat' first|exact .intro|refine Tw.mk ?_ ?_|(intro h;first|replace h:=h.o|cases h))
  all_goals ((refine StopCall.fz [] (sp) ?_;(all_goals refine lv ?_;repeat' first|exact .intro|refine Tw.mk ?_ ?_|(intro h;first|replace h:=h.o|cases h))))
  all_goals (try (exfalso;first|omega|(simp at h;done)))
  all_goals exact Y1
theorem zgm(id dr:Int)(b:Ba)(hb:b.ok)(inb:List Mg)(p0 p1 p2:Pt)(s:ByteArray)(hs:s.size<=1000)(hd: -1000000000<=dr/\dr<=1000000000)(hi:inb.length<=10000000)(ho: ∀p∈[p0,p1,p2],p.out.length<=1000000000):Fn Tryz.prog 87 [.box 0 0,.v (.string s)] (rtM ⟨id,[p0,p1,p2],b,inb,dr⟩ 0) (.tup []) (rtM (zba ⟨id,[p0,p1,p2],b,inb,dr⟩ (bs s)) 1):=by
 have hl:=zcz s;have b0:=zaz s 0;have b1:=zaz s 1;by_cases hc:2<=s.size/\s.size<=22
 .have sd:=zmA id dr b hb inb p0 p1 p2 (zaG s 0) (zaG s 1) (s.extract 2 s.size) (by rw[ByteArray.size_extract];omega) hd ⟨by omega,by omega⟩ hi ho;have e:zba ⟨id,[p0,p1,p2],b,inb,dr⟩ (bs s)=zcg ⟨id,[p0,p1,p2],b,inb,dr⟩ ⟨zaG s 0,zaG s 1,s.extract 2 s.size⟩:=by
   unfold zba;rw[if_pos (by omega),slice_bs s hc.1];rfl
  rw[e];obtain⟨q0,q1,q2,hq⟩:=lit3 (zeu ⟨id,[p0,p1,p2],b,inb,dr⟩ ⟨zaG s 0,zaG s 1,s.extract 2 s.size⟩) rfl;rw[hq] at sd ⊢;clear e hq;generalize (zcg ⟨id,[p0,p1,p2],b,inb,dr⟩ ⟨zaG s 0,zaG s 1,s.extract 2 s.size⟩).b=b' at *
  generalize (zcg ⟨id,[p0,p1,p2],b,inb,dr⟩ ⟨zaG s 0,zaG s 1,s.extract 2 s.size⟩).inb=inb' at *
  generalize (zcg ⟨id,[p0,p1,p2],b,inb,dr⟩ ⟨zaG s 0,zaG s 1,s.extract 2 s.size⟩).dr=dr' at *
  obtain⟨hc1,hc2⟩:=hc;simp only[rtM,rtH,zaE,rtP,prQ] at sd ⊢;refine foP zaA (carryPl) [] [] Tryz.func87 Tryz.ntmps87 Tryz.results87 ?_;(all_goals refine gv ?_;repeat' first|exact .intro|refine Tw.mk ?_ ?_|(intro h;first|replace h:=h.o|cases h))
  all_goals (try (exfalso;first|omega|(simp at h;done)))
  all_goals (try ((with_reducible refine Vc.mk ?_);(try exact GLt)))
  all_goals ((refine StopCall.fz zaX (sd) ?_;(all_goals refine lv ?_;repeat' first|exact .intro|refine Tw.mk ?_ ?_|(intro h;first|replace h:=h.o|cases h))))
  all_goals exact Y1
 .have e:zba ⟨id,[p0,p1,p2],b,inb,dr⟩ (bs s)=⟨id,[p0,p1,p2],b,inb,dr⟩:=by unfold zba;rw[if_neg (by omega)]
  rw[e];simp only[rtM,rtH,zaE,rtP,prQ];refine foP zaA (carryPl) [] [] Tryz.func87 Tryz.ntmps87 Tryz.results87 ?_;(all_goals refine gv ?_;repeat' first|exact .intro|refine Tw.mk ?_ ?_|(intro h;first|replace h:=h.o|cases h))
  all_goals (try (exfalso;first|omega|(simp at h;done)))
  all_goals (try ((with_reducible refine Vc.mk ?_);(try exact GLt)))
  all_goals exact Y1
theorem zmP{b:Ba}(h:b.ok)(n:Int):0<=(stO (b.kn n)).2.1:=by
 cases hk:b.kn n with
 |none=>simp [stO]
 |some s=>
  have hg:=zaN (show zaL s.1 s.2.1 s.2.2=0 from (h.kn n s hk).2);simp only[stO,Option.getD_some];omega
theorem zpr(la lb:List (Int×Int)):Fn Tryz.prog 92 [.sl 2 (la.map opRow) none,.sl 2 (lb.map opRow) none] [] (.v (.bool (la==lb))) []:=by
 refine zi0 ⟨_,Tryz.func92,rfl,by decide+kernel⟩ 0 rfl λha=>?_;simp only[List.length_map,maxLen] at ha;refine foA zaA [] [] Tryz.func92 Tryz.ntmps92 Tryz.results92 ?_;(all_goals refine gv ?_;repeat' first|exact .intro|refine Tw.mk ?_ ?_|(intro h;first|replace h:=h.o|cases h))
 .exact Y59
 refine lpG (λk:Nat=>⟨[(0,.sl 2 (la.map opRow) none),(1,.sl 2 (lb.map opRow) none),(12,.v (.int .i64 la.length)),(13,.v (.int .i64 k))],[]⟩) (λk=>k<=la.length/\ ∀i,i<k->la[i]? =lb[i]?) (λk=>la.length-k) 0 ⟨by omega,λi h=>by omega⟩ (by (refine zaC [] ?_;repeat' first|exact .intro|refine Tw.mk ?_ ?_);all_goals (all_goals (try simp))) ?_;rintro k ⟨hk,hp⟩;((all_goals (try (repeat' (conv=>whnf);(first|with_reducible refine And.intro ?_ ?_|with_reducible exact True.intro|(intro h;(first|cases h|((try simp only[vis,Int.reduceToNat] at h);(try (exfalso;omega)))))|(with_reducible refine Vc.mk ?_;fail)|(with_reducible refine cutG ?_;fail)|refine zap ?_ ?_|refine zaa ?_ ?_ ?_|(refine ne_edge ?_)))));(all_goals (first|omega|(conv=>whnf)|skip)))
 all_goals (try omega)
 all_goals (try ((with_reducible refine Vc.mk ?_);(try exact GLt)))
 .exact Y57
 .exact Y60
 .exact Y39
def tellPl:List (Nat×Pl):=[(0,.op 0 (.op 1 (.op 2 (.op 3 (.op 4 (.op 5 (.op 6 (.op 7 (.br 8 (.op 9 (.op 10 (.op 11 (.op 12 (.op 13 (.op 14 (.done))))))) 12 (.op 8 (.op 9 (.op 10 (.op 11 (.op 13 (.op 14 (.done)))))))))))))))),(3,.op 0 (.op 1 (.op 2 (.op 3 (.op 4 (.op 5 (.op 6 (.op 7 (.op 8 (.op 9 (.op 10 (.op 11 (.op 12 (.op 13 (.done)))))))))))))))]
theorem zih(id dr:Int)(b:Ba)(hb:b.ok)(inb:List Mg)(p0 p1 p2:Pt)(hm: ∀p∈[p0,p1,p2],0<=p.m/\p.m<=20):Fn Tryz.prog 71 [.box 0 0] (rtM ⟨id,[p0,p1,p2],b,inb,dr⟩ 0) (.tup []) (rtM (zbt ⟨id,[p0,p1,p2],b,inb,dr⟩) 0):=by
 have g:=ziR hb id;have e:=ze7 id dr b inb p0 p1 p2 hm;have q:=zpr (stO (b.kn id)).2.2 (zad [p0,p1,p2]);have hel:(zad [p0,p1,p2]).length<=6:=zdp _ 6;have st:=zgJ hb (id,(stO (b.kn id)).2.1+1,zad [p0,p1,p2]) (by show (zad [p0,p1,p2]).length<=_;omega);have hd:zbt ⟨id,[p0,p1,p2],b,inb,dr⟩=if (stO (b.kn id)).2.2≠zad [p0,p1,p2]/\(stO (b.kn id)).2.1<1000000 then ⟨id,[p0,p1,p2],setB b (id,(stO (b.kn id)).2.1+1,zad [p0,p1,p2]),inb,dr⟩ else ⟨id,[p0,p1,p2],b,inb,dr⟩:=rfl
 have hsq:=zmP hb id;unfold zaF at g st;rw[hd];clear hd;generalize zad [p0,p1,p2]=E at *
 generalize sf (id,(stO (b.kn id)).2.1+1,E)=F at *
 generalize setB b (id,(stO (b.kn id)).2.1+1,E)=B at *
 generalize stO (b.kn id)=O at *
 obtain⟨o,s,l⟩:=O;dsimp only at *
 refine foP zaA (tellPl) [] [1] Tryz.func71 Tryz.ntmps71 Tryz.results71 ?_;simp only[rtM,rtH,zaE,rtP,prQ] at e ⊢;(all_goals refine gv ?_;repeat' first|exact .intro|refine Tw.mk ?_ ?_|(intro h;first|replace h:=h.o|cases h))
 refine cutK ⟨[(0,.box 0 0),(2,.box 16 0)],rtM ⟨id,[p0,p1,p2],b,inb,dr⟩ 0++[.cells [.v (.int .i64 o),.v (.int .i64 s),.sl 2 (l.map opRow) none]]⟩ ?_ (λhy=>?_)
 .clear g;simp only[rtM,rtH,zaE,rtP,prQ];(all_goals refine gv ?_;repeat' first|exact .intro|refine Tw.mk ?_ ?_|(intro h;first|replace h:=h.o|cases h))
  (refine StopCall.fz zaX (e) ?_;(all_goals refine lv ?_;repeat' first|exact .intro|refine Tw.mk ?_ ?_|(intro h;first|replace h:=h.o|cases h)))
  clear e;by_cases hc:l≠E/\s<1000000
  .rw[if_pos hc];rw[show (l==E)=false from by simpa using hc.1] at q;have hc2:=hc.2;simp only[rtM,rtH,zaE,rtP,prQ];(all_goals (try ((first|refine StopCall.by0 (q) ?_|refine StopPure.by0 (q) ?_);(all_goals refine gv ?_;repeat' first|exact .intro|refine Tw.mk ?_ ?_|(intro h;first|replace h:=h.o|cases h)))))
   all_goals (try omega)
   all_goals (try ((with_reducible refine Vc.mk ?_);(try exact GLt)))
   all_goals ((refine StopCall.fz [2] (st) ?_;(all_goals refine lv ?_;repeat' first|exact .intro|refine Tw.mk ?_ ?_|(intro h;first|replace h:=h.o|cases h))))
   all_goals exact Y1
  .rw[if_neg hc];by_cases hl:l=E
   .rw[show (l==E)=true from by simpa using hl] at q;simp only[rtM,rtH,zaE,rtP,prQ];(all_goals (try ((first|refine StopCall.by0 (q) ?_|refine StopPure.by0 (q) ?_);(all_goals refine gv ?_;repeat' first|exact .intro|refine Tw.mk ?_ ?_|(intro h;first|replace h:=h.o|cases h)))))
    all_goals (try omega)
    all_goals (try ((with_reducible refine Vc.mk ?_);(try exact GLt)))
    all_goals exact Y1
   .have hs:1000000<=s:=by
     rcases Classical.em (s<1000000) with h|h
     .exact absurd ⟨hl,h⟩ hc
     .omega
    rw[show (l==E)=false from by simpa using hl] at q;simp only[rtM,rtH,zaE,rtP,prQ];(all_goals (try ((first|refine StopCall.by0 (q) ?_|refine StopPure.by0 (q) ?_);(all_goals refine gv ?_;repeat' first|exact .intro|refine Tw.mk ?_ ?_|(intro h;first|replace h:=h.o|cases h)))))
    all_goals (try omega)
    all_goals (try ((with_reducible refine Vc.mk ?_);(try exact GLt)))
    all_goals exact Y1
 .simp only[rtM,rtH,zaE,rtP,prQ] at hy;(all_goals refine gv ?_;repeat' first|exact .intro|refine Tw.mk ?_ ?_|(intro h;first|replace h:=h.o|cases h))
  all_goals ((refine StopCall.fz [2] (g) ?_;(all_goals refine lv ?_;repeat' first|exact .intro|refine Tw.mk ?_ ?_|(intro h;first|replace h:=h.o|cases h))))
  all_goals (exact⟨_,by (refine zaC [0,1,2,3,4,5,6,7,8,9,10,11,12,13,14,15,16] ?_;repeat' first|exact .intro|refine Tw.mk ?_ ?_),hy⟩)
def rtO(r:Rt):Res:=.obj (zcD (rtM r 0))
theorem rm_rt10(id dr:Int)(b:Ba)(inb:List Mg)(p0:Pt):RM (rtM ⟨id,[p0],b,inb,dr⟩ 0) (rtM ⟨id,[p0],b,inb,dr⟩ 0) ids8 ids8 (rtM ⟨id,[p0],b,inb,dr⟩ 0):=grt
theorem rm_rg10(id dr:Int)(b:Ba)(inb:List Mg)(p0:Pt):RM (rtM ⟨id,[p0],b,inb,dr⟩ 0) [.gone] [0] [0] [.gone]:=grt
theorem rm_rt11(id dr:Int)(b:Ba)(inb:List Mg)(p0:Pt):RM (rtM ⟨id,[p0],b,inb,dr⟩ 1) (rtM ⟨id,[p0],b,inb,dr⟩ 0) ids8 ids8 (rtM ⟨id,[p0],b,inb,dr⟩ 0):=grt
theorem rm_rg11(id dr:Int)(b:Ba)(inb:List Mg)(p0:Pt):RM (rtM ⟨id,[p0],b,inb,dr⟩ 1) [.gone] [0] [0] [.gone]:=grt
theorem rm_rt20(id dr:Int)(b:Ba)(inb:List Mg)(p0 p1:Pt):RM (rtM ⟨id,[p0,p1],b,inb,dr⟩ 0) (rtM ⟨id,[p0,p1],b,inb,dr⟩ 0) znR znR (rtM ⟨id,[p0,p1],b,inb,dr⟩ 0):=grt
theorem rm_rg20(id dr:Int)(b:Ba)(inb:List Mg)(p0 p1:Pt):RM (rtM ⟨id,[p0,p1],b,inb,dr⟩ 0) [.gone] [0] [0] [.gone]:=grt
theorem rm_rt21(id dr:Int)(b:Ba)(inb:List Mg)(p0 p1:Pt):RM (rtM ⟨id,[p0,p1],b,inb,dr⟩ 1) (rtM ⟨id,[p0,p1],b,inb,dr⟩ 0) znR znR (rtM ⟨id,[p0,p1],b,inb,dr⟩ 0):=grt
theorem rm_rg21(id dr:Int)(b:Ba)(inb:List Mg)(p0 p1:Pt):RM (rtM ⟨id,[p0,p1],b,inb,dr⟩ 1) [.gone] [0] [0] [.gone]:=grt
theorem zpf(id dr:Int)(b:Ba)(inb:List Mg)(p0 p1 p2:Pt):RM (rtM ⟨id,[p0,p1,p2],b,inb,dr⟩ 0) (rtM ⟨id,[p0,p1,p2],b,inb,dr⟩ 0) zaX zaX (rtM ⟨id,[p0,p1,p2],b,inb,dr⟩ 0):=grt
theorem rm_rg30(id dr:Int)(b:Ba)(inb:List Mg)(p0 p1 p2:Pt):RM (rtM ⟨id,[p0,p1,p2],b,inb,dr⟩ 0) [.gone] [0] [0] [.gone]:=grt
theorem rm_rt31(id dr:Int)(b:Ba)(inb:List Mg)(p0 p1 p2:Pt):RM (rtM ⟨id,[p0,p1,p2],b,inb,dr⟩ 1) (rtM ⟨id,[p0,p1,p2],b,inb,dr⟩ 0) zaX zaX (rtM ⟨id,[p0,p1,p2],b,inb,dr⟩ 0):=grt
theorem rm_rg31(id dr:Int)(b:Ba)(inb:List Mg)(p0 p1 p2:Pt):RM (rtM ⟨id,[p0,p1,p2],b,inb,dr⟩ 1) [.gone] [0] [0] [.gone]:=grt
def Rt.np(r:Rt):Prop:=r.ps.length=1\/r.ps.length=2\/r.ps.length=3
theorem np_lit{p:Rt->Prop}(h1: ∀id p0 b inb dr,p ⟨id,[p0],b,inb,dr⟩)(h2: ∀id p0 p1 b inb dr,p ⟨id,[p0,p1],b,inb,dr⟩)(h3: ∀id p0 p1 p2 b inb dr,p ⟨id,[p0,p1,p2],b,inb,dr⟩)(r:Rt)(hr:r.np):p r:=by
 obtain⟨id,ps,b,inb,dr⟩:=r;rcases hr with h|h|h
 .obtain⟨p0,rfl⟩:=len1 h;exact h1 ..
 .obtain⟨p0,p1,rfl⟩:=len2 h;exact h2 ..
 .obtain⟨p0,p1,p2,rfl⟩:=len3 h;exact h3 ..
theorem ren_rt: ∀r:Rt,r.np->[]++za2 (extG 0 (rtM r 0).length) (rtM r 0)=rtM r 0:=
 np_lit (λ_ _ _ _ _=>rfl) (λ_ _ _ _ _ _=>rfl) (λ_ _ _ _ _ _ _=>rfl)
theorem zdk{f:FuncId}{args:List AV}{r:AV}{q q':Rt}{g:Nat}(hF:Fn Tryz.prog f args (rtM q 0) r (rtM q' g))(hg:g<=1)(hq:q.np)(hq':q'.np)(hr:r.free=true):Fn Tryz.prog f args [rtO q] r [rtO q']:=by
 have hF':Fn Tryz.prog f args ([]++za2 (extG 0 (rtM q 0).length) (rtM q 0)) r (rtM q' g):=by rw[ren_rt q hq];exact hF
 clear hF;revert hF'
 refine np_lit (p:=λq'=>Fn Tryz.prog f args ([]++za2 (extG 0 (rtM q 0).length) (rtM q 0)) r (rtM q' g)->Fn Tryz.prog f args [rtO q] r [rtO q']) ?_ ?_ ?_ q' hq'
 .intro id p0 b inb dr hF;rcases (by omega:g=0\/g=1) with rfl|rfl
  .exact zaO (pre:=[]) (mt:=[.gone]) (ρ:=[0]) (κ:=ids8) (L:=0) hF rfl rfl rfl rfl (rm_rg10 ..) (rm_rt10 ..) (zbH hr) rfl rfl rfl rfl rfl
  .exact zaO (pre:=[]) (mt:=[.gone]) (ρ:=[0]) (κ:=ids8) (L:=0) hF rfl rfl rfl rfl (rm_rg11 ..) (rm_rt11 ..) (zbH hr) rfl rfl rfl rfl rfl
 .intro id p0 p1 b inb dr hF;rcases (by omega:g=0\/g=1) with rfl|rfl
  .exact zaO (pre:=[]) (mt:=[.gone]) (ρ:=[0]) (κ:=znR) (L:=0) hF rfl rfl rfl rfl (rm_rg20 ..) (rm_rt20 ..) (zbH hr) rfl rfl rfl rfl rfl
  .exact zaO (pre:=[]) (mt:=[.gone]) (ρ:=[0]) (κ:=znR) (L:=0) hF rfl rfl rfl rfl (rm_rg21 ..) (rm_rt21 ..) (zbH hr) rfl rfl rfl rfl rfl
 .intro id p0 p1 p2 b inb dr hF;rcases (by omega:g=0\/g=1) with rfl|rfl
  .exact zaO (pre:=[]) (mt:=[.gone]) (ρ:=[0]) (κ:=zaX) (L:=0) hF rfl rfl rfl rfl (rm_rg30 ..) (zpf ..) (zbH hr) rfl rfl rfl rfl rfl
  .exact zaO (pre:=[]) (mt:=[.gone]) (ρ:=[0]) (κ:=zaX) (L:=0) hF rfl rfl rfl rfl (rm_rg31 ..) (rm_rt31 ..) (zbH hr) rfl rfl rfl rfl rfl
theorem zoW(id dr:Int)(b:Ba)(inb:List Mg)(p0 p1 p2:Pt):Fn Tryz.prog 51 [.box 0 0] [rtO ⟨id,[p0,p1,p2],b,inb,dr⟩] (.arr 1 0 inb.length) [rtO ⟨id,[p0,p1,p2],b,[],dr⟩,.arr true 67 3 0 (inb.map zaY)]:=by
 have h:Fn Tryz.prog 51 [.box 0 0] ([]++za2 (extG 0 (rtM ⟨id,[p0,p1,p2],b,inb,dr⟩ 0).length) (rtM ⟨id,[p0,p1,p2],b,inb,dr⟩ 0)) (.arr 3 0 inb.length) (((rtH ⟨id,[p0,p1,p2],b,inb,dr⟩ 0 (zaE 4 [p0,p1,p2])).set 0 (.cells [.v (.int .i64 id),.arr 1 0 3,.box 2 0,.arr 16 0 0,.v (.int .i64 dr)]))++rtP 4 [p0,p1,p2] 0++[.arr true 67 3 0 []]):=by
  rw[ren_rt _ (by unfold Rt.np;simp)];simp only[rtM,rtH,zaE,rtP,prQ];refine foL zaA [] [] Tryz.func51 Tryz.ntmps51 Tryz.results51 ?_;(all_goals refine fv ?_;repeat' first|exact .intro|refine Tw.mk ?_ ?_|(intro h;first|replace h:=h.o|cases h))
  (first|refine .mk ⟨_,za8 true 0 3 67 3 _ rfl rfl,?_⟩|refine⟨_,za8 true 0 3 67 3 _ rfl rfl,?_⟩)
  simp only[List.set_cons_zero,List.set_cons_succ];((try (conv=>whnf));refine StopRet.by [0,1,2,3,4,5,6,7,8,9,10,11,12,13,14,15,16] ?_;repeat' first|exact .intro|refine Tw.mk ?_ ?_)
 exact zaO (pre:=[]) (mt:=[.gone,.arr true 67 3 0 (inb.map zaY)]) (m':=rtM ⟨id,[p0,p1,p2],b,[],dr⟩ 0) (ρ:=[0,3]) (κ:=[0,1,2,16,4,5,6,7,8,9,10,11,12,13,14,15]) (L:=0) h rfl rfl rfl rfl grt grt grt rfl rfl rfl rfl rfl
def newK(m:Int):Lk:=doL (newL 255 m) 2
def newPt(id i m:Int):Pt:=⟨m,newK (8*id+i+1),rd0,[],peNo,[]⟩
def newPs(id:Int):Int->List Int->List Pt
 |_,[]=>[]
 |i,m::ms=>newPt id i m::newPs id (i+1) ms
def newR(id:Int)(ms:List Int):Rt:=⟨id,newPs id 0 ms,setB (newB ms.length) (id,1,[]),[],0⟩
theorem zcK{id k:Int}(h:1<=id/\id<=6)(hk:0<=k/\k<=2):zeR 255 (8*id+k+1)=true:=zc7.2 (by omega)
theorem newK_st(m:Int):(newK m).st=1/\(newK m).out=[]:=⟨rfl,rfl⟩
theorem newK_fit{m:Int}(h:zeR 255 m=true):(newK m).fit 0:=(zdv (e:=2) (fit_new h) (by decide)).low (by show (((newK m).out.length:Nat):Int)<=0;rw[(newK_st m).2];decide)
theorem zo0{id i m:Int}(h:1<=id/\id<=6)(hi:0<=i/\i<=2)(hm:1<=m/\m<=20):(newPt id i m).fine 0:=⟨by show 0<=m/\m<=20;omega,newK_fit (zcK h hi),rd0_ok,zfT,Nat.le_refl _⟩
theorem new_ok3(id m0 m1 m2:Int)(hid:1<=id/\id<=6)(hm:(1<=m0/\m0<=20)/\(1<=m1/\m1<=20)/\(1<=m2/\m2<=20)):Fn Tryz.prog 29 [.v (.int .i64 id),.sl 1 ([m0,m1,m2].map iRow) none] [] (.tup [.box 0 0,.err 0]) (rtM (newR id [m0,m1,m2]) 0):=by
 have hb:=xnew_ok 3 (by decide) (by decide);have hs:=zgJ (zoT (n:=3) (by decide) (by decide)) (id,1,[]) (Nat.zero_le _);rw[show sf (id,1,[])=0 from by
  rcases (by omega:id=1\/id=2\/id=3\/id=4\/id=5\/id=6) with rfl|rfl|rfl|rfl|rfl|rfl<;>rfl] at hs
 rw[show rtM (newR id [m0,m1,m2]) 0=rtM ⟨id,[⟨m0,newK (8*id+0+1),rd0,[],peNo,[]⟩,⟨m1,newK (8*id+1+1),rd0,[],peNo,[]⟩,⟨m2,newK (8*id+2+1),rd0,[],peNo,[]⟩],setB (newB 3) (id,1,[]),[],0⟩ 0 from rfl];generalize setB (newB 3) (id,1,[])=B1 at *
 unfold zaF at hs;refine foL zaA [] [] Tryz.func29 Tryz.ntmps29 Tryz.results29 ?_;(all_goals refine fv ?_;repeat' first|exact .intro|refine Tw.mk ?_ ?_|(intro h;first|replace h:=h.o|cases h))
 all_goals (try (exfalso;omega))
 all_goals ((refine StopCall.fz [] (hb) ?_;(all_goals refine lv ?_;repeat' first|exact .intro|refine Tw.mk ?_ ?_|(intro h;first|replace h:=h.o|cases h))))
 all_goals (try (exfalso;omega))
 refine lpG (λk:Nat=>(match k with|0=>⟨[(0,.v (.int .i64 id)),(6,.box 0 0),(8,.box 1 0),(33,.sl 1 ([m0,m1,m2].map iRow) none),(34,.v (.int .i64 3)),(35,.v (.int .i64 0))],[baR (newB 3),.cells [.v (.int .i64 id),.arr 2 0 0,.box 0 0,.v (.slice none 0 0),.v (.int .i64 0)],.arr false 97 1 0 []]⟩|1=>⟨[(0,.v (.int .i64 id)),(6,.box 0 0),(8,.box 1 0),(33,.sl 1 ([m0,m1,m2].map iRow) none),(34,.v (.int .i64 3)),(35,.v (.int .i64 1))],[baR (newB 3),.cells [.v (.int .i64 id),.arr 2 1 1,.box 0 0,.v (.slice none 0 0),.v (.int .i64 0)],.arr false 97 1 1 [[.box 4 0]],lkR (newK (8*id+0+1)),.cells [.v (.int .i64 m0),.box 3 0,.v (.slice none 0 0),.v (.bool false),.v (.bool false),.v (.int .i64 0),.v (.bool false),.v (.int .i64 0),.v (.slice none 0 0)]]⟩|2=>⟨[(0,.v (.int .i64 id)),(6,.box 0 0),(8,.box 1 0),(33,.sl 1 ([m0,m1,m2].map iRow) none),(34,.v (.int .i64 3)),(35,.v (.int .i64 2))],[baR (newB 3),.cells [.v (.int .i64 id),.arr 2 1 2,.box 0 0,.v (.slice none 0 0),.v (.int .i64 0)],.arr false 97 1 1 [[.box 4 0],[.box 6 0]],lkR (newK (8*id+0+1)),.cells [.v (.int .i64 m0),.box 3 0,.v (.slice none 0 0),.v (.bool false),.v (.bool false),.v (.int .i64 0),.v (.bool false),.v (.int .i64 0),.v (.slice none 0 0)],lkR (newK (8*id+1+1)),.cells [.v (.int .i64 m1),.box 5 0,.v (.slice none 0 0),.v (.bool false),.v (.bool false),.v (.int .i64 0),.v (.bool false),.v (.int .i64 0),.v (.slice none 0 0)]]⟩|_=>⟨[(0,.v (.int .i64 id)),(6,.box 0 0),(8,.box 1 0),(33,.sl 1 ([m0,m1,m2].map iRow) none),(34,.v (.int .i64 3)),(35,.v (.int .i64 3))],[baR (newB 3),.cells [.v (.int .i64 id),.arr 2 1 3,.box 0 0,.v (.slice none 0 0),.v (.int .i64 0)],.arr false 97 1 1 [[.box 4 0],[.box 6 0],[.box 8 0]],lkR (newK (8*id+0+1)),.cells [.v (.int .i64 m0),.box 3 0,.v (.slice none 0 0),.v (.bool false),.v (.bool false),.v (.int .i64 0),.v (.bool false),.v (.int .i64 0),.v (.slice none 0 0)],lkR (newK (8*id+1+1)),.cells [.v (.int .i64 m1),.box 5 0,.v (.slice none 0 0),.v (.bool false),.v (.bool false),.v (.int .i64 0),.v (.bool false),.v (.int .i64 0),.v (.slice none 0 0)],lkR (newK (8*id+2+1)),.cells [.v (.int .i64 m2),.box 7 0,.v (.slice none 0 0),.v (.bool false),.v (.bool false),.v (.int .i64 0),.v (.bool false),.v (.int .i64 0),.v (.slice none 0 0)]]⟩:AS)) (λk=>k<=3) (λk=>3-k) 0 (by omega) (AS.le_trans (za8 false 1 1 97 1 _ rfl rfl) (by
  simp only[List.set_cons_zero,List.set_cons_succ];(refine zaC [0,1,2] ?_;repeat' first|exact .intro|refine Tw.mk ?_ ?_))) ?_
 rintro k hk;refine orN3 hk (λe=>?_) (λe=>?_) (λe=>?_) (λe=>?_)
 .subst e;have ln:=zik 255 (8*id+0+1) (zcK hid (by decide));have ld:=zbx (newL 255 (8*id+0+1)) ((zkK (zcK hid (by decide))).mono (by decide)) 2;rw[show doL (newL 255 (8*id+0+1)) 2=newK (8*id+0+1) from rfl] at ld;(all_goals refine fv ?_;repeat' first|exact .intro|refine Tw.mk ?_ ?_|(intro h;first|replace h:=h.o|cases h))
  all_goals (try (exfalso;omega))
  all_goals ((refine StopCall.fz [] (ln) ?_;(all_goals refine lv ?_;repeat' first|exact .intro|refine Tw.mk ?_ ?_|(intro h;first|replace h:=h.o|cases h))))
  all_goals (try (exfalso;omega))
  all_goals ((refine StopCall.fz [3] (ld) ?_;(all_goals refine lv ?_;repeat' first|exact .intro|refine Tw.mk ?_ ?_|(intro h;first|replace h:=h.o|cases h))))
  all_goals (refine zaU 1 (by omega) (by omega) (by (refine zaC [0,1,2,3,4] ?_;repeat' first|exact .intro|refine Tw.mk ?_ ?_)))
 .subst e;have ln:=zik 255 (8*id+1+1) (zcK hid (by decide));have ld:=zbx (newL 255 (8*id+1+1)) ((zkK (zcK hid (by decide))).mono (by decide)) 2;rw[show doL (newL 255 (8*id+1+1)) 2=newK (8*id+1+1) from rfl] at ld;(all_goals refine fv ?_;repeat' first|exact .intro|refine Tw.mk ?_ ?_|(intro h;first|replace h:=h.o|cases h))
  all_goals (try (exfalso;omega))
  all_goals ((refine StopCall.fz [] (ln) ?_;(all_goals refine lv ?_;repeat' first|exact .intro|refine Tw.mk ?_ ?_|(intro h;first|replace h:=h.o|cases h))))
  all_goals (try (exfalso;omega))
  all_goals ((refine StopCall.fz [5] (ld) ?_;(all_goals refine lv ?_;repeat' first|exact .intro|refine Tw.mk ?_ ?_|(intro h;first|replace h:=h.o|cases h))))
  all_goals (refine zaU 2 (by omega) (by omega) (by (refine zaC [0,1,2,3,4,5,6] ?_;repeat' first|exact .intro|refine Tw.mk ?_ ?_)))
 .subst e;have ln:=zik 255 (8*id+2+1) (zcK hid (by decide));have ld:=zbx (newL 255 (8*id+2+1)) ((zkK (zcK hid (by decide))).mono (by decide)) 2;rw[show doL (newL 255 (8*id+2+1)) 2=newK (8*id+2+1) from rfl] at ld;(all_goals refine fv ?_;repeat' first|exact .intro|refine Tw.mk ?_ ?_|(intro h;first|replace h:=h.o|cases h))
  all_goals (try (exfalso;omega))
  all_goals ((refine StopCall.fz [] (ln) ?_;(all_goals refine lv ?_;repeat' first|exact .intro|refine Tw.mk ?_ ?_|(intro h;first|replace h:=h.o|cases h))))
  all_goals (try (exfalso;omega))
  all_goals ((refine StopCall.fz [7] (ld) ?_;(all_goals refine lv ?_;repeat' first|exact .intro|refine Tw.mk ?_ ?_|(intro h;first|replace h:=h.o|cases h))))
  all_goals (refine zaU 3 (by omega) (by omega) (by (refine zaC [0,1,2,3,4,5,6,7,8] ?_;repeat' first|exact .intro|refine Tw.mk ?_ ?_)))
 .subst e;(all_goals refine fv ?_;repeat' first|exact .intro|refine Tw.mk ?_ ?_|(intro h;first|replace h:=h.o|cases h))
  all_goals (try (exfalso;omega))
  all_goals ((refine StopCall.fz [0] (hs) ?_;(all_goals refine lv ?_;repeat' first|exact .intro|refine Tw.mk ?_ ?_|(intro h;first|replace h:=h.o|cases h))))
  (first|refine .mk ⟨_,(AS.le_trans (AS.le_trans (AS.le_trans (AS.le_trans (AS.le_trans (AS.le_trans (za8 true 1 3 67 3 _ rfl rfl) (za8 true 4 2 5 1 _ rfl rfl)) (za8 true 4 8 5 1 _ rfl rfl)) (za8 true 6 2 5 1 _ rfl rfl)) (za8 true 6 8 5 1 _ rfl rfl)) (za8 true 8 2 5 1 _ rfl rfl)) (za8 true 8 8 5 1 _ rfl rfl)),?_⟩|refine⟨_,(AS.le_trans (AS.le_trans (AS.le_trans (AS.le_trans (AS.le_trans (AS.le_trans (za8 true 1 3 67 3 _ rfl rfl) (za8 true 4 2 5 1 _ rfl rfl)) (za8 true 4 8 5 1 _ rfl rfl)) (za8 true 6 2 5 1 _ rfl rfl)) (za8 true 6 8 5 1 _ rfl rfl)) (za8 true 8 2 5 1 _ rfl rfl)) (za8 true 8 8 5 1 _ rfl rfl)),?_⟩)
  simp only[rtM,rtH,zaE,rtP,prQ,List.set_cons_zero,List.set_cons_succ,List.cons_append,List.nil_append];((try (conv=>whnf));refine StopRet.by [1,2,0,9,4,3,10,11,6,5,12,13,8,7,14,15] ?_;repeat' first|exact .intro|refine Tw.mk ?_ ?_)
end Go.Proofs.YtimfnpjcedjmiadGreat
