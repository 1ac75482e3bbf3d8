/- Lemmas. -/
import Derived.Test.YtimfnpjcedjmiadGreatK19
set_option maxRecDepth 100000
set_option maxHeartbeats 64000000
set_option linter.all false
namespace Go.Proofs.YtimfnpjcedjmiadGreat
open Go.RowKit
theorem stsB_pw{b:Ba}(h:b.ok):(stsB b).Pairwise λs t=>s.1<t.1:=by
 unfold stsB;refine List.pairwise_filterMap.2 (List.Pairwise.imp (R:=(· < ·)) (λ{a a'} hlt s hs t ht=>?_) (by decide));rw[(h.kn a s hs).1,(h.kn a' t ht).1];exact hlt
theorem zlv{b:Ba}(h:b.ok):OkL (stsB b):=by
 refine⟨stsB_len,λi hi=>(stsB_mem h _ (List.getElem_mem hi)).1,λi hi k hk e=>?_⟩;have:=List.pairwise_iff_getElem.1 (stsB_pw h) k i (by omega) hi hk;omega
def hopsPl:List (Nat×Pl):=[(1,.op 0 (.op 1 (.op 2 (.op 3 (.op 5 (.op 6 (.op 7 (.br 4 (.op 8 (.op 9 (.op 10 (.done)))) 8 (.op 4 (.op 9 (.op 10 (.done))))))))))))]
def sendPl:List (Nat×Pl):=[(1,.op 0 (.op 1 (.op 2 (.op 3 (.op 4 (.op 5 (.op 6 (.done)))))))),(2,.op 0 (.op 1 (.op 2 (.op 3 (.op 4 (.op 5 (.op 6 (.op 7 (.op 8 (.op 9 (.op 10 (.done)))))))))))),(3,.op 0 (.op 2 (.b3 1 (.op 3 (.br 4 (.op 5 (.op 6 (.op 7 (.op 8 (.op 9 (.op 10 (.done))))))) 8 (.op 4 (.op 5 (.op 6 (.op 7 (.op 9 (.op 10 (.done))))))))) 3 (.br 1 (.br 4 (.op 5 (.op 6 (.op 7 (.op 8 (.op 9 (.op 10 (.done))))))) 8 (.op 4 (.op 5 (.op 6 (.op 7 (.op 9 (.op 10 (.done)))))))) 8 (.op 1 (.op 4 (.op 5 (.op 6 (.op 7 (.op 9 (.op 10 (.done))))))))) 8 (.br 1 (.op 3 (.op 4 (.op 5 (.op 6 (.op 7 (.op 9 (.op 10 (.done)))))))) 3 (.op 1 (.op 4 (.op 5 (.op 6 (.op 7 (.op 9 (.op 10 (.done)))))))))))),(10,.op 0 (.op 1 (.op 2 (.op 3 (.op 4 (.op 5 (.op 6 (.op 7 (.op 8 (.op 9 (.op 10 (.op 11 (.op 12 (.op 13 (.op 14 (.op 15 (.op 16 (.op 17 (.op 18 (.op 19 (.op 20 (.op 21 (.op 22 (.op 23 (.op 24 (.op 25 (.op 26 (.op 27 (.op 28 (.op 29 (.op 30 (.op 31 (.op 32 (.op 33 (.op 34 (.op 35 (.done))))))))))))))))))))))))))))))))))))),(15,.op 0 (.op 1 (.op 2 (.op 3 (.op 4 (.op 5 (.op 6 (.op 7 (.op 8 (.op 9 (.op 10 (.op 11 (.op 12 (.op 13 (.op 16 (.op 17 (.op 14 (.op 15 (.op 18 (.op 19 (.done)))))))))))))))))))))]
theorem orM0{b:Int}{p:Prop}(h0: -1<=b)(h:b<0)(c:b= -1->p):p:=c (by omega)
theorem orM1{b:Int}{p:Prop}(h0: -1<=b)(h:b<1)(c:b= -1->p)(c0:b=0->p):p:=by
 rcases (by omega:b= -1\/b=0) with e|e
 .exact c e
 .exact c0 e
theorem orM2{b:Int}{p:Prop}(h0: -1<=b)(h:b<2)(c:b= -1->p)(c0:b=0->p)(c1:b=1->p):p:=by
 rcases (by omega:b= -1\/b=0\/b=1) with e|e|e
 .exact c e
 .exact c0 e
 .exact c1 e
theorem orM3{b:Int}{p:Prop}(h0: -1<=b)(h:b<3)(c:b= -1->p)(c0:b=0->p)(c1:b=1->p)(c2:b=2->p):p:=by
 rcases (by omega:b= -1\/b=0\/b=1\/b=2) with e|e|e|e
 .exact c e
 .exact c0 e
 .exact c1 e
 .exact c2 e
theorem ziU{ps:List Pt}{n b:Int}{k:Nat}(h0: -1<=b)(h:b<k): -1<=zbf ps n b k/\zbf ps n b k<(k+1:Nat):=by
 unfold zbf;split<;>omega
theorem zj5(id dr:Int)(b:Ba)(hb:b.ok)(inb:List Mg)(p0 p1 p2:Pt):Fn Tryz.prog 26 [.box 0 0] (rtM ⟨id,[p0,p1,p2],b,inb,dr⟩ 0) (.sl 3 ((zdP (stsB b) id).map hRow) none) (rtM ⟨id,[p0,p1,p2],b,inb,dr⟩ 0):=by
 have st:=znD hb;have hp:=hops_ok (stsB b) id (zlv hb).small (zlv hb).metric;generalize zdP (stsB b) id=H at *
 generalize stsB b=S at *
 simp only[rtM,rtH,zaE,rtP,prQ] at *
 refine foP zaA (hopsPl) [] [] Tryz.func26 Tryz.ntmps26 Tryz.results26 ?_;(all_goals refine gv ?_;repeat' first|exact .intro|refine Tw.mk ?_ ?_|(intro h;first|replace h:=h.o|cases h))
 all_goals ((refine StopCall.fz [2] (st) ?_;(all_goals refine lv ?_;repeat' first|exact .intro|refine Tw.mk ?_ ?_|(intro h;first|replace h:=h.o|cases h))))
 all_goals ((refine StopCall.fz [] (hp) ?_;(all_goals refine lv ?_;repeat' first|exact .intro|refine Tw.mk ?_ ?_|(intro h;first|replace h:=h.o|cases h))))
 all_goals exact Y1
theorem znI(l:List St3)(r:Int):(zdP l r).length<=6:=by
 unfold zdP;split
 .exact zf2 _ _ 6
 .simp
theorem zbu(k:UInt8)(s:List UInt8)(p:Pt):putP k s p={ p with out:=(putP k s p).out }:=by unfold putP;split<;>rfl
theorem zmA(id dr:Int)(b:Ba)(hb:b.ok)(inb:List Mg)(p0 p1 p2:Pt)(to hops:Int)(t:ByteArray)(ht:t.size<=1000)(hd: -1000000000<=dr/\dr<=1000000000)(hh: -1000000000<=hops/\hops<=1000000000)(hi:inb.length<=10000000)(ho: ∀p∈[p0,p1,p2],p.out.length<=1000000000):Fn Tryz.prog 66 [.box 0 0,.agg [.v (.int .i64 to),.v (.int .i64 hops),.v (.string t)]] (rtM ⟨id,[p0,p1,p2],b,inb,dr⟩ 0) (.tup []) (rtM (zcg ⟨id,[p0,p1,p2],b,inb,dr⟩ ⟨to,hops,t⟩) 1):=by
 obtain⟨hd1,hd2⟩:=hd;obtain⟨hhA,hhB⟩:=hh;have HH:=zj5 id dr b hb inb p0 p1 p2;have TT:=to_ok (zdP (stsB b) id) to (by have:=znI (stsB b) id;omega);have hS:zcg ⟨id,[p0,p1,p2],b,inb,dr⟩ ⟨to,hops,t⟩=if to=id then ⟨id,[p0,p1,p2],b,inb++[⟨to,hops,t⟩],dr⟩ else match toH to (zdP (stsB b) id) with
  |none=>⟨id,[p0,p1,p2],b,inb,dr+1⟩
  |some h=>if hops<1\/zkD [p0,p1,p2] h.2.2<0 then ⟨id,[p0,p1,p2],b,inb,dr+1⟩ else Rt.onP ⟨id,[p0,p1,p2],b,inb,dr⟩ (zkD [p0,p1,p2] h.2.2).toNat (putP 77 (u8 to::u8 (hops-1)::bs t)):=rfl
 rw[hS];clear hS;by_cases hid:to=id
 .rw[if_pos hid];subst hid;clear HH TT;simp only[rtM,rtH,zaE,rtP,prQ] at *
  refine foP zaA (sendPl) [] [] Tryz.func66 Tryz.ntmps66 Tryz.results66 ?_;(all_goals refine gv ?_;repeat' first|exact .intro|refine Tw.mk ?_ ?_|(intro h;first|replace h:=h.o|cases h))
  all_goals (try (exfalso;first|omega|(simp at h;done)))
  all_goals (try ((with_reducible refine Vc.mk ?_);(try exact GLt)))
  all_goals (((try (conv=>whnf));refine⟨_,AS.le_refl _ _,?_⟩;((try (conv=>whnf));refine StopRet.by [0,1,2,3,4,5,6,7,8,9,10,11,12,13,14,15] ?_;repeat' first|exact .intro|refine Tw.mk ?_ ?_));all_goals (try first|rfl|(rw[List.take_of_length_le (by simp)];simp [zaY,viewR,viewL,AV.view];done)|(simp [zaY,viewR,viewL,AV.view];done)))
 rw[if_neg hid];unfold toV at TT;generalize zdP (stsB b) id=H at *
 cases hT:toH to H with
 |none=>
  rw[hT] at TT;simp only[Option.getD_none,Option.isSome_none] at TT ⊢;simp only[rtM,rtH,zaE,rtP,prQ] at *
  refine foP zaA (sendPl) [] [] Tryz.func66 Tryz.ntmps66 Tryz.results66 ?_;(all_goals refine gv ?_;repeat' first|exact .intro|refine Tw.mk ?_ ?_|(intro h;first|replace h:=h.o|cases h))
  all_goals (try (exfalso;first|omega|(simp at h;done)))
  all_goals ((refine StopCall.fz zaX (HH) ?_;(all_goals refine lv ?_;repeat' first|exact .intro|refine Tw.mk ?_ ?_|(intro h;first|replace h:=h.o|cases h))))
  all_goals ((refine StopCall.fz [] (TT) ?_;(all_goals refine lv ?_;repeat' first|exact .intro|refine Tw.mk ?_ ?_|(intro h;first|replace h:=h.o|cases h))))
  all_goals (try (exfalso;first|omega|(simp at h;done)))
  all_goals exact Y1
 |some h=>
  obtain⟨h0,h1,h2⟩:=h;rw[hT] at TT;simp only[Option.getD_some,Option.isSome_some] at TT ⊢;by_cases hh1:hops<1
  .rw[if_pos (.inl hh1)];simp only[rtM,rtH,zaE,rtP,prQ] at *
   refine foP zaA (sendPl) [] [] Tryz.func66 Tryz.ntmps66 Tryz.results66 ?_;(all_goals refine gv ?_;repeat' first|exact .intro|refine Tw.mk ?_ ?_|(intro h;first|replace h:=h.o|cases h))
   all_goals (try (exfalso;first|omega|(simp at h;done)))
   all_goals ((refine StopCall.fz zaX (HH) ?_;(all_goals refine lv ?_;repeat' first|exact .intro|refine Tw.mk ?_ ?_|(intro h;first|replace h:=h.o|cases h))))
   all_goals ((refine StopCall.fz [] (TT) ?_;(all_goals refine lv ?_;repeat' first|exact .intro|refine Tw.mk ?_ ?_|(intro h;first|replace h:=h.o|cases h))))
   all_goals (try (exfalso;first|omega|(simp at h;done)))
   all_goals exact Y1
  refine foP zaA (sendPl) [] [4] Tryz.func66 Tryz.ntmps66 Tryz.results66 ?_;simp only[rtM,rtH,zaE,rtP,prQ] at HH ⊢;(all_goals refine gv ?_;repeat' first|exact .intro|refine Tw.mk ?_ ?_|(intro h;first|replace h:=h.o|cases h))
  all_goals (try (exfalso;first|omega|(simp at h;done)))
  refine cutK ⟨[(0,.box 0 0),(3,.box 16 0),(4,.box 17 0),(5,.v (.bool true))],rtM ⟨id,[p0,p1,p2],b,inb,dr⟩ 0++[.cells [.v (.int .i64 to),.v (.int .i64 hops),.v (.string t)],.cells [.v (.int .i64 h0),.v (.int .i64 h1),.v (.int .i64 h2)]]⟩ ?_ (λhy=>?_)
  .clear HH TT;simp only[rtM,rtH,zaE,rtP,prQ];(all_goals refine gv ?_;repeat' first|exact .intro|refine Tw.mk ?_ ?_|(intro h;first|replace h:=h.o|cases h))
   all_goals (try (exfalso;first|omega|(simp at h;done)))
   refine lpG2 (λ(k:Nat) (B:Int)=>⟨[(0,.box 0 0),(3,.box 16 0),(4,.box 17 0),(6,.v (.int .i64 B)),(51,.arr 1 0 3),(52,.v (.int .i64 3)),(53,.v (.int .i64 k))],rtM ⟨id,[p0,p1,p2],b,inb,dr⟩ 0++[.cells [.v (.int .i64 to),.v (.int .i64 hops),.v (.string t)],.cells [.v (.int .i64 h0),.v (.int .i64 h1),.v (.int .i64 h2)]]⟩) (λk B=>k<=3/\ -1<=B/\B<k/\B=(List.range k).foldl (zbf [p0,p1,p2] h2) (-1)) (λk _=>3-k) 0 (-1) ⟨by omega,by omega,by decide,rfl⟩ (by
    simp only[rtM,rtH,zaE,rtP,prQ];(refine zaC [0,1,2,3,4,5,6,7,8,9,10,11,12,13,14,15,16,17] ?_;repeat' first|exact .intro|refine Tw.mk ?_ ?_)) ?_
   rintro k B ⟨hk,hB0,hBk,hBf⟩;refine orN3 hk (λe=>?_) (λe=>?_) (λe=>?_) (λe=>?_)
   .subst e;have hBn:=ziU (ps:=[p0,p1,p2]) (n:=h2) hB0 hBk;have hBs:zbf [p0,p1,p2] h2 B 0=(List.range 1).foldl (zbf [p0,p1,p2] h2) (-1):=by rw[hBf];rfl
    refine orM0 hB0 (by omega) (λe=>?_)
    .subst e;have hs:zbf [p0,p1,p2] h2 (-1) 0=if p0.p.both=true/\p0.p.who=h2/\((-1:Int)<0\/p0.m<p0.m) then (0:Int) else (-1):=rfl
     generalize zbf [p0,p1,p2] h2 (-1) 0=B' at *
     simp only[rtM,rtH,zaE,rtP,prQ];(all_goals refine fv ?_;repeat' first|exact .intro|refine Tw.mk ?_ ?_|(intro h;first|replace h:=h.o|cases h))
     all_goals (try (exfalso;first|omega|(simp at h;done)))
     all_goals (refine za3 1 B' ⟨by omega,hBn.1,hBn.2,hBs⟩ (by omega) (by (refine zaC [0,1,2,3,4,5,6,7,8,9,10,11,12,13,14,15,16,17] ?_;repeat' first|exact .intro|refine Tw.mk ?_ ?_);all_goals (all_goals (try first|rfl|(show (0:Int)=B';rw[hs,if_pos ⟨by assumption,by assumption,by first|omega|(left;decide)⟩];done)|(show (-1:Int)=B';rw[hs,if_neg (by rintro⟨a1,a2,a3⟩;first|contradiction|omega|exact absurd (a1.symm.trans (show _=false by assumption)) (by decide))];done)))))
   .subst e;have hBn:=ziU (ps:=[p0,p1,p2]) (n:=h2) hB0 hBk;have hBs:zbf [p0,p1,p2] h2 B 1=(List.range 2).foldl (zbf [p0,p1,p2] h2) (-1):=by rw[hBf];rfl
    refine orM1 hB0 (by omega) (λe=>?_) (λe=>?_)
    .subst e;have hs:zbf [p0,p1,p2] h2 (-1) 1=if p1.p.both=true/\p1.p.who=h2/\((-1:Int)<0\/p1.m<p0.m) then (1:Int) else (-1):=rfl
     generalize zbf [p0,p1,p2] h2 (-1) 1=B' at *
     simp only[rtM,rtH,zaE,rtP,prQ];(all_goals refine fv ?_;repeat' first|exact .intro|refine Tw.mk ?_ ?_|(intro h;first|replace h:=h.o|cases h))
     all_goals (try (exfalso;first|omega|(simp at h;done)))
     all_goals (refine za3 2 B' ⟨by omega,hBn.1,hBn.2,hBs⟩ (by omega) (by (refine zaC [0,1,2,3,4,5,6,7,8,9,10,11,12,13,14,15,16,17] ?_;repeat' first|exact .intro|refine Tw.mk ?_ ?_);all_goals (all_goals (try first|rfl|(show (1:Int)=B';rw[hs,if_pos ⟨by assumption,by assumption,by first|omega|(left;decide)⟩];done)|(show (-1:Int)=B';rw[hs,if_neg (by rintro⟨a1,a2,a3⟩;first|contradiction|omega|exact absurd (a1.symm.trans (show _=false by assumption)) (by decide))];done)))))
    .subst e;have hs:zbf [p0,p1,p2] h2 (0) 1=if p1.p.both=true/\p1.p.who=h2/\((0:Int)<0\/p1.m<p0.m) then (1:Int) else (0):=rfl
     generalize zbf [p0,p1,p2] h2 (0) 1=B' at *
     simp only[rtM,rtH,zaE,rtP,prQ];(all_goals refine fv ?_;repeat' first|exact .intro|refine Tw.mk ?_ ?_|(intro h;first|replace h:=h.o|cases h))
     all_goals (try (exfalso;first|omega|(simp at h;done)))
     all_goals (refine za3 2 B' ⟨by omega,hBn.1,hBn.2,hBs⟩ (by omega) (by (refine zaC [0,1,2,3,4,5,6,7,8,9,10,11,12,13,14,15,16,17] ?_;repeat' first|exact .intro|refine Tw.mk ?_ ?_);all_goals (all_goals (try first|rfl|(show (1:Int)=B';rw[hs,if_pos ⟨by assumption,by assumption,by first|omega|(left;decide)⟩];done)|(show (0:Int)=B';rw[hs,if_neg (by rintro⟨a1,a2,a3⟩;first|contradiction|omega|exact absurd (a1.symm.trans (show _=false by assumption)) (by decide))];done)))))
   .subst e;have hBn:=ziU (ps:=[p0,p1,p2]) (n:=h2) hB0 hBk;have hBs:zbf [p0,p1,p2] h2 B 2=(List.range 3).foldl (zbf [p0,p1,p2] h2) (-1):=by rw[hBf];rfl
    refine orM2 hB0 (by omega) (λe=>?_) (λe=>?_) (λe=>?_)
    .subst e;have hs:zbf [p0,p1,p2] h2 (-1) 2=if p2.p.both=true/\p2.p.who=h2/\((-1:Int)<0\/p2.m<p0.m) then (2:Int) else (-1):=rfl
     generalize zbf [p0,p1,p2] h2 (-1) 2=B' at *
     simp only[rtM,rtH,zaE,rtP,prQ];(all_goals refine fv ?_;repeat' first|exact .intro|refine Tw.mk ?_ ?_|(intro h;first|replace h:=h.o|cases h))
     all_goals (try (exfalso;first|omega|(simp at h;done)))
     all_goals (refine za3 3 B' ⟨by omega,hBn.1,hBn.2,hBs⟩ (by omega) (by (refine zaC [0,1,2,3,4,5,6,7,8,9,10,11,12,13,14,15,16,17] ?_;repeat' first|exact .intro|refine Tw.mk ?_ ?_);all_goals (all_goals (try first|rfl|(show (2:Int)=B';rw[hs,if_pos ⟨by assumption,by assumption,by first|omega|(left;decide)⟩];done)|(show (-1:Int)=B';rw[hs,if_neg (by rintro⟨a1,a2,a3⟩;first|contradiction|omega|exact absurd (a1.symm.trans (show _=false by assumption)) (by decide))];done)))))
    .subst e;have hs:zbf [p0,p1,p2] h2 (0) 2=if p2.p.both=true/\p2.p.who=h2/\((0:Int)<0\/p2.m<p0.m) then (2:Int) else (0):=rfl
     generalize zbf [p0,p1,p2] h2 (0) 2=B' at *
     simp only[rtM,rtH,zaE,rtP,prQ];(all_goals refine fv ?_;repeat' first|exact .intro|refine Tw.mk ?_ ?_|(intro h;first|replace h:=h.o|cases h))
     all_goals (try (exfalso;first|omega|(simp at h;done)))
     all_goals (refine za3 3 B' ⟨by omega,hBn.1,hBn.2,hBs⟩ (by omega) (by (refine zaC [0,1,2,3,4,5,6,7,8,9,10,11,12,13,14,15,16,17] ?_;repeat' first|exact .intro|refine Tw.mk ?_ ?_);all_goals (all_goals (try first|rfl|(show (2:Int)=B';rw[hs,if_pos ⟨by assumption,by assumption,by first|omega|(left;decide)⟩];done)|(show (0:Int)=B';rw[hs,if_neg (by rintro⟨a1,a2,a3⟩;first|contradiction|omega|exact absurd (a1.symm.trans (show _=false by assumption)) (by decide))];done)))))
    .subst e;have hs:zbf [p0,p1,p2] h2 (1) 2=if p2.p.both=true/\p2.p.who=h2/\((1:Int)<0\/p2.m<p1.m) then (2:Int) else (1):=rfl
     generalize zbf [p0,p1,p2] h2 (1) 2=B' at *
     simp only[rtM,rtH,zaE,rtP,prQ];(all_goals refine fv ?_;repeat' first|exact .intro|refine Tw.mk ?_ ?_|(intro h;first|replace h:=h.o|cases h))
     all_goals (try (exfalso;first|omega|(simp at h;done)))
     all_goals (refine za3 3 B' ⟨by omega,hBn.1,hBn.2,hBs⟩ (by omega) (by (refine zaC [0,1,2,3,4,5,6,7,8,9,10,11,12,13,14,15,16,17] ?_;repeat' first|exact .intro|refine Tw.mk ?_ ?_);all_goals (all_goals (try first|rfl|(show (2:Int)=B';rw[hs,if_pos ⟨by assumption,by assumption,by first|omega|(left;decide)⟩];done)|(show (1:Int)=B';rw[hs,if_neg (by rintro⟨a1,a2,a3⟩;first|contradiction|omega|exact absurd (a1.symm.trans (show _=false by assumption)) (by decide))];done)))))
   .subst e;have hBP:zkD [p0,p1,p2] h2=B:=hBf.symm;rw[hBP];refine orM3 hB0 (by omega) (λe=>?_) (λe=>?_) (λe=>?_) (λe=>?_)
    .subst e;rw[if_pos (.inr (by decide))];simp only[rtM,rtH,zaE,rtP,prQ];(all_goals refine fv ?_;repeat' first|exact .intro|refine Tw.mk ?_ ?_|(intro h;first|replace h:=h.o|cases h))
     all_goals (try (exfalso;first|omega|(simp at h;done)))
     all_goals exact Y1
    .subst e;rw[if_neg (by omega)];have pt:=zcf p0 77 (tx [u8 to,u8 (hops-1)]++t) (by rw[ByteArray.size_append];show 2+t.size<=_;omega) (ho p0 (by simp));rw[show bs (tx [u8 to,u8 (hops-1)]++t)=u8 to::u8 (hops-1)::bs t from by simp [bs,tx],zbu] at pt;rw[show Rt.onP ⟨id,[p0,p1,p2],b,inb,dr⟩ (0:Int).toNat (putP 77 (u8 to::u8 (hops-1)::bs t))=⟨id,[⟨p0.m,p0.l,p0.rd,p0.rest,p0.p,(putP 77 (u8 to::u8 (hops-1)::bs t) p0).out⟩,p1,p2],b,inb,dr⟩ from congrArg (λq=>(⟨id,[q,p1,p2],b,inb,dr⟩:Rt)) (zbu 77 (u8 to::u8 (hops-1)::bs t) p0)];generalize (putP 77 (u8 to::u8 (hops-1)::bs t) p0).out=O at *
     simp only[rtM,rtH,zaE,rtP,prQ];unfold ptM prM at pt;(all_goals refine fv ?_;repeat' first|exact .intro|refine Tw.mk ?_ ?_|(intro h;first|replace h:=h.o|cases h))
     all_goals (try (exfalso;first|omega|(simp at h;done)))
     all_goals (try ((with_reducible refine Vc.mk ?_);(try exact GLt)))
     all_goals (refine⟨[u8 to,u8 (hops-1)],?_,?_⟩)
     all_goals (first|(show viewR _=_;simp [viewR,viewL,AV.view,wrap_u8];done)|skip)
     (all_goals refine gv ?_;repeat' first|exact .intro|refine Tw.mk ?_ ?_|(intro h;first|replace h:=h.o|cases h))
     all_goals (try (refine Vc.mk ?_;show 2+t.size<=9223372036854775807;omega))
     all_goals (try (show 2+t.size<=9223372036854775807;omega))
     all_goals ((refine StopCall.fz [4,5,6,7] (pt) ?_;(all_goals refine lv ?_;repeat' first|exact .intro|refine Tw.mk ?_ ?_|(intro h;first|replace h:=h.o|cases h))))
     all_goals exact Y1
    .subst e;rw[if_neg (by omega)];have pt:=zcf p1 77 (tx [u8 to,u8 (hops-1)]++t) (by rw[ByteArray.size_append];show 2+t.size<=_;omega) (ho p1 (by simp));rw[show bs (tx [u8 to,u8 (hops-1)]++t)=u8 to::u8 (hops-1)::bs t from by simp [bs,tx],zbu] at pt;rw[show Rt.onP ⟨id,[p0,p1,p2],b,inb,dr⟩ (1:Int).toNat (putP 77 (u8 to::u8 (hops-1)::bs t))=⟨id,[p0,⟨p1.m,p1.l,p1.rd,p1.rest,p1.p,(putP 77 (u8 to::u8 (hops-1)::bs t) p1).out⟩,p2],b,inb,dr⟩ from congrArg (λq=>(⟨id,[p0,q,p2],b,inb,dr⟩:Rt)) (zbu 77 (u8 to::u8 (hops-1)::bs t) p1)];generalize (putP 77 (u8 to::u8 (hops-1)::bs t) p1).out=O at *
     simp only[rtM,rtH,zaE,rtP,prQ];unfold ptM prM at pt;(all_goals refine fv ?_;repeat' first|exact .intro|refine Tw.mk ?_ ?_|(intro h;first|replace h:=h.o|cases h))
     all_goals (try (exfalso;first|omega|(simp at h;done)))
     all_goals (try ((with_reducible refine Vc.mk ?_);(try exact GLt)))
     all_goals (refine⟨[u8 to,u8 (hops-1)],?_,?_⟩)
     all_goals (first|(show viewR _=_;simp [viewR,viewL,AV.view,wrap_u8];done)|skip)
     (all_goals refine gv ?_;repeat' first|exact .intro|refine Tw.mk ?_ ?_|(intro h;first|replace h:=h.o|cases h))
     all_goals (try (refine Vc.mk ?_;show 2+t.size<=9223372036854775807;omega))
     all_goals (try (show 2+t.size<=9223372036854775807;omega))
     all_goals ((refine StopCall.fz [8,9,10,11] (pt) ?_;(all_goals refine lv ?_;repeat' first|exact .intro|refine Tw.mk ?_ ?_|(intro h;first|replace h:=h.o|cases h))))
     all_goals exact Y1
    .subst e;rw[if_neg (by omega)];have pt:=zcf p2 77 (tx [u8 to,u8 (hops-1)]++t) (by rw[ByteArray.size_append];show 2+t.size<=_;omega) (ho p2 (by simp));rw[show bs (tx [u8 to,u8 (hops-1)]++t)=u8 to::u8 (hops-1)::bs t from by simp [bs,tx],zbu] at pt;rw[show Rt.onP ⟨id,[p0,p1,p2],b,inb,dr⟩ (2:Int).toNat (putP 77 (u8 to::u8 (hops-1)::bs t))=⟨id,[p0,p1,⟨p2.m,p2.l,p2.rd,p2.rest,p2.p,(putP 77 (u8 to::u8 (hops-1)::bs t) p2).out⟩],b,inb,dr⟩ from congrArg (λq=>(⟨id,[p0,p1,q],b,inb,dr⟩:Rt)) (zbu 77 (u8 to::u8 (hops-1)::bs t) p2)];generalize (putP 77 (u8 to::u8 (hops-1)::bs t) p2).out=O at *
     simp only[rtM,rtH,zaE,rtP,prQ];unfold ptM prM at pt;(all_goals refine fv ?_;repeat' first|exact .intro|refine Tw.mk ?_ ?_|(intro h;first|replace h:=h.o|cases h))
     all_goals (try (exfalso;first|omega|(simp at h;done)))
     all_goals (try ((with_reducible refine Vc.mk ?_);(try exact GLt)))
     all_goals (refine⟨[u8 to,u8 (hops-1)],?_,?_⟩)
     all_goals (first|(show viewR _=_;simp [viewR,viewL,AV.view,wrap_u8];done)|skip)
     (all_goals refine gv ?_;repeat' first|exact .intro|refine Tw.mk ?_ ?_|(intro h;first|replace h:=h.o|cases h))
     all_goals (try (refine Vc.mk ?_;show 2+t.size<=9223372036854775807;omega))
     all_goals (try (show 2+t.size<=9223372036854775807;omega))
     all_goals ((refine StopCall.fz [12,13,14,15] (pt) ?_;(all_goals refine lv ?_;repeat' first|exact .intro|refine Tw.mk ?_ ?_|(intro h;first|replace h:=h.o|cases h))))
     all_goals exact Y1
  .simp only[rtM,rtH,zaE,rtP,prQ] at hy;(all_goals refine gv ?_;repeat' first|exact .intro|refine Tw.mk ?_ ?_|(intro h;first|replace h:=h.o|cases h))
   all_goals ((refine StopCall.fz zaX (HH) ?_;(all_goals refine lv ?_;repeat' first|exact .intro|refine Tw.mk ?_ ?_|(intro h;first|replace h:=h.o|cases h))))
   all_goals ((refine StopCall.fz [] (TT) ?_;(all_goals refine lv ?_;repeat' first|exact .intro|refine Tw.mk ?_ ?_|(intro h;first|replace h:=h.o|cases h))))
   all_goals (exact⟨_,by (refine zaC [0,1,2,3,4,5,6,7,8,9,10,11,12,13,14,15,16,17] ?_;repeat' first|exact .intro|refine Tw.mk ?_ ?_),hy⟩)
end Go.Proofs.YtimfnpjcedjmiadGreat
