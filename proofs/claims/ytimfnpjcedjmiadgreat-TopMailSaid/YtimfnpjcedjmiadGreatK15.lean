/- Lemmas. -/
import Derived.Test.YtimfnpjcedjmiadGreatK14
set_option maxRecDepth 100000
set_option maxHeartbeats 64000000
set_option linter.all false
namespace Go.Proofs.YtimfnpjcedjmiadGreat
open Go.RowKit
def zcc(p:Pk):List AV:=[.v (.int .i64 p.c),.v (.int .i64 p.i),.sl 2 (p.o.map opRow) none]
def pkAV(p:Pk):AV:=.agg (zcc p)
def lkC(l:Lk)(q g:Nat):Res:=.cells [.v (.int .i64 l.st),.v (.int .i64 l.left),.v (.int .i64 l.tm),.v (.int .i64 l.id),.v (.int .i64 l.os),.v (.int .i64 l.om),.v (.int .i64 l.ns),.v (.int .i64 l.nm),.sl 2 (l.ask.map opRow) none,.v (.int .i64 l.sz),.sl 3 (l.out.map zcc) (some (q,g))]
def lkM(l:Lk)(g:Nat):List Res:=[lkC l 1 g,.grow 39 3 g]
theorem lnew_ok(s m:Int)(h:zeR s m=true):Fn Tryz.prog 41 [.v (.int .i64 s),.v (.int .i64 m)] [] (.tup [.box 0 0,.err 0]) (lkM (newL s m) 0):=by
 have hn:=new_ok s m;rw[h] at hn;simp only[if_true] at hn;refine foL zaA [] [] Tryz.func41 Tryz.ntmps41 Tryz.results41 ?_;(all_goals refine gv ?_;repeat' first|exact .intro|refine Tw.mk ?_ ?_|(intro h;first|replace h:=h.o|cases h))
 (all_goals (try ((first|refine StopCall.by0 (hn) ?_|refine StopPure.by0 (hn) ?_);(all_goals refine gv ?_;repeat' first|exact .intro|refine Tw.mk ?_ ?_|(intro h;first|replace h:=h.o|cases h)))))
 all_goals (try ((with_reducible refine Vc.mk ?_);(try exact GLt)))
 (first|refine .mk ⟨_,ziJ 1 10 39 3 _ rfl rfl,?_⟩|refine⟨_,ziJ 1 10 39 3 _ rfl rfl,?_⟩)
 ((try (conv=>whnf));refine StopRet.by [1,2] ?_;repeat' first|exact .intro|refine Tw.mk ?_ ?_)
theorem znk(l:Lk):Fn Tryz.prog 38 [.box 0 0] (lkM l 0) (.v (.int .i64 l.st)) (lkM l 0):=by
 unfold lkM lkC;refine foA zaA [] [] Tryz.func38 Tryz.ntmps38 Tryz.results38 ?_;(all_goals refine gv ?_;repeat' first|exact .intro|refine Tw.mk ?_ ?_|(intro h;first|replace h:=h.o|cases h))
 ((try (conv=>whnf));refine StopRet.by [0,1] ?_;repeat' first|exact .intro|refine Tw.mk ?_ ?_)
theorem lout_ok(l:Lk):Fn Tryz.prog 68 [.box 0 0] (lkM l 0) (.sl 3 (l.out.map zcc) none) (lkM (outL l) 1):=by
 unfold lkM lkC;refine foL zaA [] [] Tryz.func68 Tryz.ntmps68 Tryz.results68 ?_;(all_goals refine gv ?_;repeat' first|exact .intro|refine Tw.mk ?_ ?_|(intro h;first|replace h:=h.o|cases h))
 (first|refine .mk ⟨_,zmI 1 0 10 _ rfl (by decide) rfl rfl,?_⟩|refine⟨_,zmI 1 0 10 _ rfl (by decide) rfl rfl,?_⟩)
 ((try (conv=>whnf));refine StopRet.by [0,1] ?_;repeat' first|exact .intro|refine Tw.mk ?_ ?_)
theorem zgC(l:Lk)(c i:Int)(o:List (Int×Int))(ho:o.length<=1000000)(hl:l.out.length<=1000000):Fn Tryz.prog 96 [.box 0 0,.v (.int .i64 c),.v (.int .i64 i),.sl 2 (o.map opRow) none] (lkM l 0) (.tup []) (lkM { l with out:=l.out++[⟨c,i,o⟩] } 1):=by
 have hc:=zjN (o.map opRow) (by simpa using ho);unfold lkM lkC;refine foA zaA [] [] Tryz.func96 Tryz.ntmps96 Tryz.results96 ?_;(all_goals refine gv ?_;repeat' first|exact .intro|refine Tw.mk ?_ ?_|(intro h;first|replace h:=h.o|cases h))
 (all_goals (try ((first|refine StopCall.by0 (hc) ?_|refine StopPure.by0 (hc) ?_);(all_goals refine gv ?_;repeat' first|exact .intro|refine Tw.mk ?_ ?_|(intro h;first|replace h:=h.o|cases h)))))
 all_goals (try ((with_reducible refine Vc.mk ?_);(try exact GLt)))
 ((try (conv=>whnf));refine StopRet.by [0,1] ?_;repeat' first|exact .intro|refine Tw.mk ?_ ?_)
 all_goals (simp [zcc,viewR,viewL,AV.view])
theorem zqG{i c:Int}{a:List (Int×Int)}{l:Lk}{d:List UInt8}{k:Nat}(h:k<d.length):actL i c a l (d.take (k+1))=act1 i c a (actL i c a l (d.take k)) d[k]:=by
 unfold actL;rw[zaT h,List.foldl_append];rfl
theorem zm9{d:List UInt8}{k:Nat}(h:k<d.length):zaG (tx d) k=d[k].toNat:=by
 show (d.getD k 0).toNat=_;simp [List.getD_eq_getElem?_getD,h]
theorem zlN{b:UInt8}(n:Nat)(hn:n<256):(b=UInt8.ofNat n)↔b.toNat=n:=by
 constructor
 .rintro rfl;simp;omega
 .intro h;rw[<-h];simp
theorem lact_ok(l:Lk)(h:l.ok 1000)(d:List UInt8)(hd:d.length<=1000)(hb: ∀b∈d,b.toNat<128)(x i c:Int)(o a:List (Int×Int))(ha:a.length<=1000000):
  Fn Tryz.prog 74 [.box 0 0,.v (.string (tx d)),.agg [.v (.int .i64 x),.v (.int .i64 i),.sl 2 (o.map opRow) none],.v (.int .i64 c),.sl 2 (a.map opRow) none] (lkM l 0) (.tup []) (lkM (actL i c a l d) 1):=by
 have hsz:(tx d).size=d.length:=rfl;unfold lkM lkC;refine foA zaA [] [] Tryz.func74 Tryz.ntmps74 Tryz.results74 ?_;(all_goals refine gv ?_;repeat' first|exact .intro|refine Tw.mk ?_ ?_|(intro h;first|replace h:=h.o|cases h))
 refine lpG (λk:Nat=>⟨[(0,.box 0 0),(3,.v (.int .i64 c)),(4,.sl 2 (a.map opRow) none),(7,.box 2 0),(13,.box 3 0)],[lkC (actL i c a l (d.take k)) 1 1,.grow 39 3 1,.cells [.v (.int .i64 x),.v (.int .i64 i),.sl 2 (o.map opRow) none],.siter (tx d) k]⟩) (λk=>k<=d.length) (λk=>d.length-k) 0 (by omega) (by unfold lkC;(refine zaC [0,1,2,3] ?_;repeat' first|exact .intro|refine Tw.mk ?_ ?_)) ?_;intro k hk;by_cases hk':k<d.length
 .have hbt:=zm9 hk';have hb1:=hb d[k] (List.getElem_mem hk');have hS:=zqG (i:=i) (c:=c) (a:=a) (l:=l) hk';have hok:=zkn (i:=i) (c:=c) (a:=a) (d:=d.take k) h (by decide);rw[List.length_take] at hok;generalize actL i c a l (d.take k)=q at *
  generalize d[k]=b at *
  obtain⟨g1,g2,g3,g4,g5,g6,g7,g8,g9,g10,g11,g12,g13,g14,g15,g16,g17⟩:=hok.mono (j:=2000) (by omega);have hid:=and255 (x:=q.id+1) (by omega) (by omega);unfold act1 at hS;unfold lkC;by_cases c1:b=105
  .have c1':b.toNat=105:=by rw[c1];rfl
   rw[if_pos c1] at hS;(all_goals refine gv ?_;repeat' first|exact .intro|refine Tw.mk ?_ ?_|(intro h;first|replace h:=h.o|cases h))
   all_goals (try omega)
   all_goals (try ((with_reducible refine Vc.mk ?_);(try exact GLt)))
   all_goals exact Y26
  rw[if_neg c1] at hS;have d1: ¬b.toNat=105:=λe=>c1 ((zlN 105 (by decide)).2 e);by_cases c2:b=122
  .have c2':b.toNat=122:=by rw[c2];rfl
   rw[if_pos c2] at hS;(all_goals refine gv ?_;repeat' first|exact .intro|refine Tw.mk ?_ ?_|(intro h;first|replace h:=h.o|cases h))
   all_goals (try omega)
   all_goals (try ((with_reducible refine Vc.mk ?_);(try exact GLt)))
   all_goals exact Y26
  rw[if_neg c2] at hS;have d2: ¬b.toNat=122:=λe=>c2 ((zlN 122 (by decide)).2 e);by_cases c3:b=114
  .have c3':b.toNat=114:=by rw[c3];rfl
   rw[if_pos c3] at hS;have hsend:=zgC { q with id:=(q.id+1)%256,ask:=asks q.ns q.nm,left:=q.left-1,tm:=3 } 1 ((q.id+1)%256) (asks q.ns q.nm) (by have:=ziB (s:=q.ns) (m:=q.nm);omega) (by show q.out.length<=1000000;omega);have hasks:=asks_ok q.ns q.nm;unfold lkM lkC at hsend;(all_goals refine gv ?_;repeat' first|exact .intro|refine Tw.mk ?_ ?_|(intro h;first|replace h:=h.o|cases h))
   all_goals (try omega)
   all_goals (try ((with_reducible refine Vc.mk ?_);(try exact GLt)))
   (all_goals (try ((first|refine StopCall.by0 (hasks) ?_|refine StopPure.by0 (hasks) ?_);(all_goals refine gv ?_;repeat' first|exact .intro|refine Tw.mk ?_ ?_|(intro h;first|replace h:=h.o|cases h)))))
   all_goals (try omega)
   all_goals (try ((with_reducible refine Vc.mk ?_);(try exact GLt)))
   all_goals ((refine⟨_,_,_,_,[0,1],hsend,rfl,rfl,rfl,?_,?_,?_⟩);(· ((all_goals refine gr ?_;repeat' first|exact .intro|refine Tw.mk ?_ ?_);all_goals (try exact hid)));(· ((all_goals refine gr ?_;repeat' first|exact .intro|refine Tw.mk ?_ ?_);all_goals (try exact hid)));(all_goals refine gv ?_;repeat' first|exact .intro|refine Tw.mk ?_ ?_|(intro h;first|replace h:=h.o|cases h)))
   all_goals exact Y26
  rw[if_neg c3] at hS;have d3: ¬b.toNat=114:=λe=>c3 ((zlN 114 (by decide)).2 e);by_cases c4:b=97\/b=110
  .have c4':b.toNat=97\/b.toNat=110:=by
    rcases c4 with e|e
    .left;rw[e];rfl
    .right;rw[e];rfl
   rw[if_pos c4] at hS;have hsend:=zgC q c i a ha (by omega);unfold lkM lkC at hsend;(all_goals refine gv ?_;repeat' first|exact .intro|refine Tw.mk ?_ ?_|(intro h;first|replace h:=h.o|cases h))
   all_goals (try omega)
   all_goals (try ((with_reducible refine Vc.mk ?_);(try exact GLt)))
   all_goals ((refine⟨_,_,_,_,[0,1],hsend,rfl,rfl,rfl,?_,?_,?_⟩);(· (all_goals refine gr ?_;repeat' first|exact .intro|refine Tw.mk ?_ ?_));(· (all_goals refine gr ?_;repeat' first|exact .intro|refine Tw.mk ?_ ?_));(all_goals refine gv ?_;repeat' first|exact .intro|refine Tw.mk ?_ ?_|(intro h;first|replace h:=h.o|cases h)))
   all_goals exact Y26
  rw[if_neg c4] at hS;have d4: ¬b.toNat=97:=λe=>c4 (.inl ((zlN 97 (by decide)).2 e));have d5: ¬b.toNat=110:=λe=>c4 (.inr ((zlN 110 (by decide)).2 e));by_cases c5:b=116
  .have c5':b.toNat=116:=by rw[c5];rfl
   rw[if_pos c5] at hS;have hsend:=zgC { q with id:=(q.id+1)%256,left:=q.left-1,tm:=3 } 5 ((q.id+1)%256) [] (by decide) (by show q.out.length<=1000000;omega);unfold lkM lkC at hsend;(all_goals refine gv ?_;repeat' first|exact .intro|refine Tw.mk ?_ ?_|(intro h;first|replace h:=h.o|cases h))
   all_goals (try omega)
   all_goals (try ((with_reducible refine Vc.mk ?_);(try exact GLt)))
   all_goals ((refine⟨_,_,_,_,[0,1],hsend,rfl,rfl,rfl,?_,?_,?_⟩);(· ((all_goals refine gr ?_;repeat' first|exact .intro|refine Tw.mk ?_ ?_);all_goals (try exact hid)));(· ((all_goals refine gr ?_;repeat' first|exact .intro|refine Tw.mk ?_ ?_);all_goals (try exact hid)));(all_goals refine gv ?_;repeat' first|exact .intro|refine Tw.mk ?_ ?_|(intro h;first|replace h:=h.o|cases h)))
   all_goals exact Y26
  rw[if_neg c5] at hS;have d6: ¬b.toNat=116:=λe=>c5 ((zlN 116 (by decide)).2 e);by_cases c6:b=107
  .have c6':b.toNat=107:=by rw[c6];rfl
   rw[if_pos c6] at hS;have hsend:=zgC q 6 i [] (by decide) (by omega);unfold lkM lkC at hsend;(all_goals refine gv ?_;repeat' first|exact .intro|refine Tw.mk ?_ ?_|(intro h;first|replace h:=h.o|cases h))
   all_goals (try omega)
   all_goals (try ((with_reducible refine Vc.mk ?_);(try exact GLt)))
   all_goals ((refine⟨_,_,_,_,[0,1],hsend,rfl,rfl,rfl,?_,?_,?_⟩);(· (all_goals refine gr ?_;repeat' first|exact .intro|refine Tw.mk ?_ ?_));(· (all_goals refine gr ?_;repeat' first|exact .intro|refine Tw.mk ?_ ?_));(all_goals refine gv ?_;repeat' first|exact .intro|refine Tw.mk ?_ ?_|(intro h;first|replace h:=h.o|cases h)))
   all_goals exact Y26
  rw[if_neg c6] at hS;have d7: ¬b.toNat=107:=λe=>c6 ((zlN 107 (by decide)).2 e);(all_goals refine gv ?_;repeat' first|exact .intro|refine Tw.mk ?_ ?_|(intro h;first|replace h:=h.o|cases h))
  all_goals (try omega)
  all_goals (try ((with_reducible refine Vc.mk ?_);(try exact GLt)))
  all_goals exact Y26
 .have ek:k=d.length:=by omega
  subst ek;rw[List.take_length];unfold lkC;(all_goals refine gv ?_;repeat' first|exact .intro|refine Tw.mk ?_ ?_|(intro h;first|replace h:=h.o|cases h))
  all_goals (try omega)
  all_goals exact Y9
theorem zpK(la lb:List (Int×Int)):Fn Tryz.prog 101 [.sl 2 (la.map opRow) none,.sl 2 (lb.map opRow) none] [] (.v (.bool (la==lb))) []:=by
 refine zi0 ⟨_,Tryz.func101,rfl,by decide+kernel⟩ 0 rfl λha=>?_;simp only[List.length_map,maxLen] at ha;refine foA zaA [] [] Tryz.func101 Tryz.ntmps101 Tryz.results101 ?_;(all_goals refine gv ?_;repeat' first|exact .intro|refine Tw.mk ?_ ?_|(intro h;first|replace h:=h.o|cases h))
 .exact Y59
 refine lpG (λk:Nat=>⟨[(0,.sl 2 (la.map opRow) none),(1,.sl 2 (lb.map opRow) none),(12,.v (.int .i64 la.length)),(13,.v (.int .i64 k))],[]⟩) (λk=>k<=la.length/\ ∀i,i<k->la[i]? =lb[i]?) (λk=>la.length-k) 0 ⟨by omega,λi h=>by omega⟩ (by (refine zaC [] ?_;repeat' first|exact .intro|refine Tw.mk ?_ ?_);all_goals (all_goals (try simp))) ?_;rintro k ⟨hk,hp⟩;((all_goals (try (repeat' (conv=>whnf);(first|with_reducible refine And.intro ?_ ?_|with_reducible exact True.intro|(intro h;(first|cases h|((try simp only[vis,Int.reduceToNat] at h);(try (exfalso;omega)))))|(with_reducible refine Vc.mk ?_;fail)|(with_reducible refine cutG ?_;fail)|refine zap ?_ ?_|refine zaa ?_ ?_ ?_|(refine zpm ?_)))));(all_goals (first|omega|(conv=>whnf)|skip)))
 all_goals (try omega)
 all_goals (try ((with_reducible refine Vc.mk ?_);(try exact GLt)))
 .exact Y57
 .exact Y60
 .exact Y39
theorem zb6(l:Lk)(h:l.ok 900)(e:Int)(e0:0<=e)(e9:e<=11)(x i c:Int)(o a:List (Int×Int))(ha:a.length<=1000000):
  Fn Tryz.prog 54 [.box 0 0,.v (.int .i64 e),.agg [.v (.int .i64 x),.v (.int .i64 i),.sl 2 (o.map opRow) none],.v (.int .i64 c),.sl 2 (a.map opRow) none] (lkM l 0) (.err (zaq l.st e)) (lkM (evtL l e i c a) 1):=by
 have ht:=tab h.st0 h.st9 e0 e9;have hs:=step_ok l.st e;by_cases hE:zaq l.st e=0
 .have hact:=lact_ok (ownL l (zb3 l.st e)) ((zoM h ht.2.1 ht.2.2.1).mono (by decide)) (zdE l.st e) (by omega) ht.2.2.2.2 x i c o a ha;have hV:evtL l e i c a=actL i c a (ownL l (zb3 l.st e)) (zdE l.st e):=by unfold evtL;rw[if_pos hE]
  rw[hV,hE];rw[hE] at hs;generalize actL i c a (ownL l (zb3 l.st e)) (zdE l.st e)=q at *
  generalize zdE l.st e=d at *
  by_cases hn:zb3 l.st e<=3
  .have hO:ownL l (zb3 l.st e)={ l with ns:=l.os,nm:=l.om,sz:=255,st:=zb3 l.st e }:=by unfold ownL;rw[if_pos hn]
   rw[hO] at hact;generalize zb3 l.st e=n at *
   unfold lkM lkC at *
   refine foA zaA [] [] Tryz.func54 Tryz.ntmps54 Tryz.results54 ?_;(all_goals refine gv ?_;repeat' first|exact .intro|refine Tw.mk ?_ ?_|(intro h;first|replace h:=h.o|cases h))
   (all_goals (try ((first|refine StopCall.by0 (hs) ?_|refine StopPure.by0 (hs) ?_);(all_goals refine gv ?_;repeat' first|exact .intro|refine Tw.mk ?_ ?_|(intro h;first|replace h:=h.o|cases h)))))
   all_goals (try omega)
   all_goals (try ((with_reducible refine Vc.mk ?_);(try exact GLt)))
   (refine⟨_,_,_,_,[0,1],hact,rfl,rfl,rfl,?_,?_,?_⟩)
   .exact Y3
   .exact Y3
   (all_goals refine gv ?_;repeat' first|exact .intro|refine Tw.mk ?_ ?_|(intro h;first|replace h:=h.o|cases h))
   ((try (conv=>whnf));refine StopRet.by [0,1] ?_;repeat' first|exact .intro|refine Tw.mk ?_ ?_)
  .have hO:ownL l (zb3 l.st e)={ l with st:=zb3 l.st e }:=by unfold ownL;rw[if_neg hn]
   rw[hO] at hact;generalize zb3 l.st e=n at *
   unfold lkM lkC at *
   refine foA zaA [] [] Tryz.func54 Tryz.ntmps54 Tryz.results54 ?_;(all_goals refine gv ?_;repeat' first|exact .intro|refine Tw.mk ?_ ?_|(intro h;first|replace h:=h.o|cases h))
   (all_goals (try ((first|refine StopCall.by0 (hs) ?_|refine StopPure.by0 (hs) ?_);(all_goals refine gv ?_;repeat' first|exact .intro|refine Tw.mk ?_ ?_|(intro h;first|replace h:=h.o|cases h)))))
   all_goals (try omega)
   all_goals (try ((with_reducible refine Vc.mk ?_);(try exact GLt)))
   (refine⟨_,_,_,_,[0,1],hact,rfl,rfl,rfl,?_,?_,?_⟩)
   .exact Y3
   .exact Y3
   (all_goals refine gv ?_;repeat' first|exact .intro|refine Tw.mk ?_ ?_|(intro h;first|replace h:=h.o|cases h))
   ((try (conv=>whnf));refine StopRet.by [0,1] ?_;repeat' first|exact .intro|refine Tw.mk ?_ ?_)
 .have hV:evtL l e i c a=l:=by unfold evtL;rw[if_neg hE]
  rw[hV];generalize zaq l.st e=E at *
  unfold lkM lkC at *
  refine foA zaA [] [] Tryz.func54 Tryz.ntmps54 Tryz.results54 ?_;(all_goals refine gv ?_;repeat' first|exact .intro|refine Tw.mk ?_ ?_|(intro h;first|replace h:=h.o|cases h))
  (all_goals (try ((first|refine StopCall.by0 (hs) ?_|refine StopPure.by0 (hs) ?_);(all_goals refine gv ?_;repeat' first|exact .intro|refine Tw.mk ?_ ?_|(intro h;first|replace h:=h.o|cases h)))))
  all_goals (try omega)
  all_goals (try ((with_reducible refine Vc.mk ?_);(try exact GLt)))
  all_goals exact Y9
theorem ldo_ok(l:Lk)(h:l.ok 900)(e:Int):Fn Tryz.prog 42 [.box 0 0,.v (.int .i64 e)] (lkM l 0) (.err (doE l e)) (lkM (doL l e) 1):=by
 by_cases he:e<0\/3<e
 .have h1:doE l e=1:=by unfold doE;rw[if_pos he]
  have h2:doL l e=l:=by unfold doL;rw[if_pos he]
  rw[h1,h2];unfold lkM lkC;refine foA zaA [] [] Tryz.func42 Tryz.ntmps42 Tryz.results42 ?_;(all_goals refine gv ?_;repeat' first|exact .intro|refine Tw.mk ?_ ?_|(intro h;first|replace h:=h.o|cases h))
  all_goals (try omega)
  all_goals (try ((with_reducible refine Vc.mk ?_);(try exact GLt)))
  all_goals exact Y9
 .have h1:doE l e=zaq l.st e:=by unfold doE;rw[if_neg he]
  have h2:doL l e=evtL l e 0 0 []:=by unfold doL;rw[if_neg he]
  have hev:=zb6 l h e (by omega) (by omega) 0 0 0 [] [] (by decide);rw[h1,h2];generalize evtL l e 0 0 []=q at *
  unfold lkM lkC at *
  refine foA zaA [] [] Tryz.func42 Tryz.ntmps42 Tryz.results42 ?_;(all_goals refine gv ?_;repeat' first|exact .intro|refine Tw.mk ?_ ?_|(intro h;first|replace h:=h.o|cases h))
  all_goals (try omega)
  all_goals ((refine⟨_,_,_,_,[0,1],hev,rfl,rfl,rfl,?_,?_,?_⟩);(· (all_goals refine gr ?_;repeat' first|exact .intro|refine Tw.mk ?_ ?_));(· (all_goals refine gr ?_;repeat' first|exact .intro|refine Tw.mk ?_ ?_));(all_goals refine gv ?_;repeat' first|exact .intro|refine Tw.mk ?_ ?_|(intro h;first|replace h:=h.o|cases h)))
  all_goals exact Y9
theorem ltick_ok(l:Lk)(h:l.ok 800):Fn Tryz.prog 57 [.box 0 0] (lkM l 0) (.tup []) (lkM (zag l) 1):=by
 have htm:=timed_ok l.st;have g3:=h.tm0;have g4:=h.tm3;have g5:=h.left0;have g6:=h.left4;by_cases ht:4<=l.st/\l.st<=8
 .rw[decide_eq_true ht] at htm;by_cases h0:0<l.tm-1
  .have hV:zag l={ l with tm:=l.tm-1 }:=by unfold zag;rw[if_pos ht,if_pos h0]
   rw[hV];unfold lkM lkC;refine foA zaA [] [] Tryz.func57 Tryz.ntmps57 Tryz.results57 ?_;(all_goals refine gv ?_;repeat' first|exact .intro|refine Tw.mk ?_ ?_|(intro h;first|replace h:=h.o|cases h))
   (all_goals (try ((first|refine StopCall.by0 (htm) ?_|refine StopPure.by0 (htm) ?_);(all_goals refine gv ?_;repeat' first|exact .intro|refine Tw.mk ?_ ?_|(intro h;first|replace h:=h.o|cases h)))))
   all_goals (try omega)
   all_goals (try ((with_reducible refine Vc.mk ?_);(try exact GLt)))
   all_goals exact Y9
  .have hok':Lk.ok 900 { l with tm:=l.tm-1 }:=by
    obtain⟨h1,h2,h3,h4,h5,h6,h7,h8,h9',h10,h11,h12,h13,h14,h15,h16,h17⟩:=h.mono (j:=899) (by decide);refine⟨?_,?_,?_,?_,?_,?_,?_,?_,?_,?_,?_,?_,?_,?_,?_,?_,?_⟩<;>dsimp only<;>first|omega|assumption
   by_cases hl:l.left<=0
   .have hV:zag l=evtL { l with tm:=l.tm-1 } 5 0 0 []:=by unfold zag;rw[if_pos ht,if_neg h0,if_pos hl]
    have hev:=zb6 _ hok' 5 (by decide) (by decide) 0 0 0 [] [] (by decide);rw[hV];generalize evtL { l with tm:=l.tm-1 } 5 0 0 []=q at *
    unfold lkM lkC at *
    refine foA zaA [] [] Tryz.func57 Tryz.ntmps57 Tryz.results57 ?_;(all_goals refine gv ?_;repeat' first|exact .intro|refine Tw.mk ?_ ?_|(intro h;first|replace h:=h.o|cases h))
    (all_goals (try ((first|refine StopCall.by0 (htm) ?_|refine StopPure.by0 (htm) ?_);(all_goals refine gv ?_;repeat' first|exact .intro|refine Tw.mk ?_ ?_|(intro h;first|replace h:=h.o|cases h)))))
    all_goals exact Y5
   .have hV:zag l=evtL { l with tm:=l.tm-1 } 4 0 0 []:=by unfold zag;rw[if_pos ht,if_neg h0,if_neg hl]
    have hev:=zb6 _ hok' 4 (by decide) (by decide) 0 0 0 [] [] (by decide);rw[hV];generalize evtL { l with tm:=l.tm-1 } 4 0 0 []=q at *
    unfold lkM lkC at *
    refine foA zaA [] [] Tryz.func57 Tryz.ntmps57 Tryz.results57 ?_;(all_goals refine gv ?_;repeat' first|exact .intro|refine Tw.mk ?_ ?_|(intro h;first|replace h:=h.o|cases h))
    (all_goals (try ((first|refine StopCall.by0 (htm) ?_|refine StopPure.by0 (htm) ?_);(all_goals refine gv ?_;repeat' first|exact .intro|refine Tw.mk ?_ ?_|(intro h;first|replace h:=h.o|cases h)))))
    all_goals exact Y5
 .rw[decide_eq_false ht] at htm;have hV:zag l=l:=by unfold zag;rw[if_neg ht]
  rw[hV];unfold lkM lkC;refine foA zaA [] [] Tryz.func57 Tryz.ntmps57 Tryz.results57 ?_;(all_goals refine gv ?_;repeat' first|exact .intro|refine Tw.mk ?_ ?_|(intro h;first|replace h:=h.o|cases h))
  (all_goals (try ((first|refine StopCall.by0 (htm) ?_|refine StopPure.by0 (htm) ?_);(all_goals refine gv ?_;repeat' first|exact .intro|refine Tw.mk ?_ ?_|(intro h;first|replace h:=h.o|cases h)))))
  all_goals (try omega)
  all_goals (try ((with_reducible refine Vc.mk ?_);(try exact GLt)))
  all_goals exact Y9
theorem zn0{o:List (Int×Int)}{k:Nat}(h:k<o.length):szOf (o.take (k+1))=if o[k].1=1 then o[k].2 else szOf (o.take k):=by
 unfold szOf;rw[zaT h,List.foldl_append];rfl
theorem lreq_ok(l:Lk)(h:l.ok 900)(p:Pk)(ho:p.o.length<=8):Fn Tryz.prog 100 [.box 0 0,pkAV p] (lkM l 0) (.err (reqE l p)) (lkM (reqL l p) 1):=by
 obtain⟨c,i,o⟩:=p;dsimp only at ho;have hj:=judge_ok l.ns l.nm o (by omega) h.nm0;have hjc:(if rej o≠[] then (4:Int) else if nak l.nm o≠[] then 3 else 2)=zfp l.nm o:=rfl;have hja:(if rej o≠[] then rej o else if nak l.nm o≠[] then nak l.nm o else o)=jans l.nm o:=rfl;rw[hjc,hja] at hj;have hc2:zfp l.nm o=4\/zfp l.nm o=3\/zfp l.nm o=2:=by
                                     unfold zfp;split;· exact .inl rfl
                                     split;· exact .inr (.inl rfl)
                                     exact .inr (.inr rfl)
 have hal:(jans l.nm o).length<=8:=by
  unfold jans;split
  .exact Nat.le_trans (List.length_filter_le ..) ho
  .split
   .exact Nat.le_trans (List.length_filterMap_le ..) ho
   .exact ho
 have ht:=tab h.st0 h.st9 (e:=6) (by decide) (by decide);by_cases hc:zfp l.nm o=2
 .have hE:reqE l ⟨c,i,o⟩=zaq l.st 6:=by unfold reqE;rw[if_pos hc]
  have hV:reqL l ⟨c,i,o⟩=if zaq l.st 6=0/\6<=(evtL l 6 i 2 (jans l.nm o)).st then { evtL l 6 i 2 (jans l.nm o) with sz:=szOf o } else evtL l 6 i 2 (jans l.nm o):=by unfold reqL;rw[if_pos hc]
  have hev:=zb6 l h 6 (by decide) (by decide) c i 2 o (jans l.nm o) (by omega);rw[hE,hV];rw[hc] at hj;generalize jans l.nm o=a at *
  generalize evtL l 6 i 2 a=q at *
  generalize zaq l.st 6=E at *
  by_cases hq:E=0/\6<=q.st
  .rw[if_pos hq];obtain⟨hE0,hq6⟩:=hq;subst hE0;unfold lkM lkC at *
   refine foA zaA [] [] Tryz.func100 Tryz.ntmps100 Tryz.results100 ?_;(all_goals refine gv ?_;repeat' first|exact .intro|refine Tw.mk ?_ ?_|(intro h;first|replace h:=h.o|cases h))
   (all_goals (try ((first|refine StopCall.by0 (hj) ?_|refine StopPure.by0 (hj) ?_);(all_goals refine gv ?_;repeat' first|exact .intro|refine Tw.mk ?_ ?_|(intro h;first|replace h:=h.o|cases h)))))
   all_goals (try omega)
   all_goals (try ((with_reducible refine Vc.mk ?_);(try exact GLt)))
   all_goals ((refine⟨_,_,_,_,[0,1],hev,rfl,rfl,rfl,?_,?_,?_⟩);(· (all_goals refine gr ?_;repeat' first|exact .intro|refine Tw.mk ?_ ?_));(· (all_goals refine gr ?_;repeat' first|exact .intro|refine Tw.mk ?_ ?_));(all_goals refine gv ?_;repeat' first|exact .intro|refine Tw.mk ?_ ?_|(intro h;first|replace h:=h.o|cases h)))
   all_goals (try omega)
   all_goals (try ((with_reducible refine Vc.mk ?_);(try exact GLt)))
   refine lpG (λk:Nat=>⟨[(0,.box 0 0),(7,.err 0),(45,.sl 2 (o.map opRow) none),(46,.v (.int .i64 o.length)),(47,.v (.int .i64 k))],[lkC { q with sz:=szOf (o.take k) } 1 1,.grow 39 3 1]⟩) (λk=>k<=o.length) (λk=>o.length-k) 0 (by omega) (by unfold lkC;(refine zaC [0,1] ?_;repeat' first|exact .intro|refine Tw.mk ?_ ?_);all_goals (all_goals (try first|rfl|(simp;done)))) ?_;intro k hk;unfold lkC;by_cases hk':k<o.length
   .have hS:=zn0 hk';by_cases h1:o[k].1=1
    .rw[if_pos h1] at hS;exact Y53
    .rw[if_neg h1] at hS;exact Y53
   .have ek:k=o.length:=by omega
    subst ek;rw[List.take_length];(all_goals refine gv ?_;repeat' first|exact .intro|refine Tw.mk ?_ ?_|(intro h;first|replace h:=h.o|cases h))
    all_goals (try omega)
    all_goals (try ((with_reducible refine Vc.mk ?_);(try exact GLt)))
    all_goals exact Y9
  .rw[if_neg hq];unfold lkM lkC at *
   refine foA zaA [] [] Tryz.func100 Tryz.ntmps100 Tryz.results100 ?_;(all_goals refine gv ?_;repeat' first|exact .intro|refine Tw.mk ?_ ?_|(intro h;first|replace h:=h.o|cases h))
   (all_goals (try ((first|refine StopCall.by0 (hj) ?_|refine StopPure.by0 (hj) ?_);(all_goals refine gv ?_;repeat' first|exact .intro|refine Tw.mk ?_ ?_|(intro h;first|replace h:=h.o|cases h)))))
   all_goals (try omega)
   all_goals (try ((with_reducible refine Vc.mk ?_);(try exact GLt)))
   all_goals ((refine⟨_,_,_,_,[0,1],hev,rfl,rfl,rfl,?_,?_,?_⟩);(· (all_goals refine gr ?_;repeat' first|exact .intro|refine Tw.mk ?_ ?_));(· (all_goals refine gr ?_;repeat' first|exact .intro|refine Tw.mk ?_ ?_));(all_goals refine gv ?_;repeat' first|exact .intro|refine Tw.mk ?_ ?_|(intro h;first|replace h:=h.o|cases h)))
   all_goals (try omega)
   all_goals (try ((with_reducible refine Vc.mk ?_);(try exact GLt)))
   all_goals exact Y9
 .have hE:reqE l ⟨c,i,o⟩=zaq l.st 7:=by unfold reqE;rw[if_neg hc]
  have hV:reqL l ⟨c,i,o⟩=evtL l 7 i (zfp l.nm o) (jans l.nm o):=by unfold reqL;rw[if_neg hc]
  have hev:=zb6 l h 7 (by decide) (by decide) c i (zfp l.nm o) o (jans l.nm o) (by omega);rw[hE,hV];generalize jans l.nm o=a at *
  generalize zfp l.nm o=jc at *
  generalize evtL l 7 i jc a=q at *
  unfold lkM lkC at *
  refine foA zaA [] [] Tryz.func100 Tryz.ntmps100 Tryz.results100 ?_;(all_goals refine gv ?_;repeat' first|exact .intro|refine Tw.mk ?_ ?_|(intro h;first|replace h:=h.o|cases h))
  (all_goals (try ((first|refine StopCall.by0 (hj) ?_|refine StopPure.by0 (hj) ?_);(all_goals refine gv ?_;repeat' first|exact .intro|refine Tw.mk ?_ ?_|(intro h;first|replace h:=h.o|cases h)))))
  all_goals (try omega)
  all_goals (try ((with_reducible refine Vc.mk ?_);(try exact GLt)))
  all_goals ((refine⟨_,_,_,_,[0,1],hev,rfl,rfl,rfl,?_,?_,?_⟩);(· (all_goals refine gr ?_;repeat' first|exact .intro|refine Tw.mk ?_ ?_));(· (all_goals refine gr ?_;repeat' first|exact .intro|refine Tw.mk ?_ ?_));(all_goals refine gv ?_;repeat' first|exact .intro|refine Tw.mk ?_ ?_|(intro h;first|replace h:=h.o|cases h)))
  all_goals (try omega)
  all_goals (try ((with_reducible refine Vc.mk ?_);(try exact GLt)))
  all_goals exact Y9
theorem ltake_ok(l:Lk)(h:l.ok 900)(p:Pk):Fn Tryz.prog 82 [.box 0 0,pkAV p] (lkM l 0) (.err (takE l p)) (lkM (takL l p) 1):=by
 obtain⟨c,i,o⟩:=p;have hck:=zho c i o;have hn:=zep c i o;by_cases hf:zbN c i o=0
 .have hg:=zhF hf;have hV:takL l ⟨c,i,o⟩=if c=1 then reqL l ⟨c,i,o⟩ else if c=5 then evtL l 10 i 0 [] else if c=6 then evtL l 11 i 0 [] else if i≠l.id then l else if c=2 then (if o≠l.ask then l else evtL l 8 i 0 []) else evtL (nowL l ⟨c,i,o⟩) 9 i 0 []:=by
   unfold takL;rw[if_neg (by simp [hf])]
  have hE:takE l ⟨c,i,o⟩=if c=1 then reqE l ⟨c,i,o⟩ else if c=5 then zaq l.st 10 else if c=6 then zaq l.st 11 else if i≠l.id then 6 else if c=2 then (if o≠l.ask then 6 else zaq l.st 8) else zaq l.st 9:=by
   unfold takE;rw[if_neg (by simp [hf])]
  rw[hf] at hck;rw[hV,hE];clear hV hE;by_cases c1:c=1
  .have hreq:=lreq_ok l h ⟨c,i,o⟩ hg.2.2.2.2.1;rw[if_pos c1,if_pos c1];generalize reqL l ⟨c,i,o⟩=q at *
   generalize reqE l ⟨c,i,o⟩=E at *
   unfold lkM lkC pkAV zcc at *
   refine foA zaA [] [] Tryz.func82 Tryz.ntmps82 Tryz.results82 ?_;(all_goals refine gv ?_;repeat' first|exact .intro|refine Tw.mk ?_ ?_|(intro h;first|replace h:=h.o|cases h))
   (all_goals (try ((first|refine StopCall.by0 (hck) ?_|refine StopPure.by0 (hck) ?_);(all_goals refine gv ?_;repeat' first|exact .intro|refine Tw.mk ?_ ?_|(intro h;first|replace h:=h.o|cases h)))))
   all_goals (try omega)
   all_goals (try ((with_reducible refine Vc.mk ?_);(try exact GLt)))
   all_goals ((refine⟨_,_,_,_,[0,1],hreq,rfl,rfl,rfl,?_,?_,?_⟩);(· (all_goals refine gr ?_;repeat' first|exact .intro|refine Tw.mk ?_ ?_));(· (all_goals refine gr ?_;repeat' first|exact .intro|refine Tw.mk ?_ ?_));(all_goals refine gv ?_;repeat' first|exact .intro|refine Tw.mk ?_ ?_|(intro h;first|replace h:=h.o|cases h)))
   all_goals exact Y9
  rw[if_neg c1,if_neg c1];by_cases c5:c=5
  .have hev:=zb6 l h 10 (by decide) (by decide) c i 0 o [] (by decide);rw[if_pos c5,if_pos c5];generalize evtL l 10 i 0 []=q at *
   unfold lkM lkC pkAV zcc at *
   refine foA zaA [] [] Tryz.func82 Tryz.ntmps82 Tryz.results82 ?_;(all_goals refine gv ?_;repeat' first|exact .intro|refine Tw.mk ?_ ?_|(intro h;first|replace h:=h.o|cases h))
   (all_goals (try ((first|refine StopCall.by0 (hck) ?_|refine StopPure.by0 (hck) ?_);(all_goals refine gv ?_;repeat' first|exact .intro|refine Tw.mk ?_ ?_|(intro h;first|replace h:=h.o|cases h)))))
   all_goals exact Y5
  rw[if_neg c5,if_neg c5];by_cases c6:c=6
  .have hev:=zb6 l h 11 (by decide) (by decide) c i 0 o [] (by decide);rw[if_pos c6,if_pos c6];generalize evtL l 11 i 0 []=q at *
   unfold lkM lkC pkAV zcc at *
   refine foA zaA [] [] Tryz.func82 Tryz.ntmps82 Tryz.results82 ?_;(all_goals refine gv ?_;repeat' first|exact .intro|refine Tw.mk ?_ ?_|(intro h;first|replace h:=h.o|cases h))
   (all_goals (try ((first|refine StopCall.by0 (hck) ?_|refine StopPure.by0 (hck) ?_);(all_goals refine gv ?_;repeat' first|exact .intro|refine Tw.mk ?_ ?_|(intro h;first|replace h:=h.o|cases h)))))
   all_goals exact Y5
  rw[if_neg c6,if_neg c6];by_cases hi:i=l.id
  .rw[if_neg (show ¬(i≠l.id) from λe=>e hi),if_neg (show ¬(i≠l.id) from λe=>e hi)];by_cases c2:c=2
   .rw[if_pos c2,if_pos c2];have heq:=zpK o l.ask;by_cases ha:o=l.ask
    .have hev:=zb6 l h 8 (by decide) (by decide) c i 0 o [] (by decide);rw[if_neg (show ¬(o≠l.ask) from λe=>e ha),if_neg (show ¬(o≠l.ask) from λe=>e ha)];rw[show (o==l.ask)=true from by simp [ha]] at heq;clear ha;generalize evtL l 8 i 0 []=q at *
     unfold lkM lkC pkAV zcc at *
     refine foA zaA [] [] Tryz.func82 Tryz.ntmps82 Tryz.results82 ?_;(all_goals refine gv ?_;repeat' first|exact .intro|refine Tw.mk ?_ ?_|(intro h;first|replace h:=h.o|cases h))
     (all_goals (try ((first|refine StopCall.by0 (hck) ?_|refine StopPure.by0 (hck) ?_);(all_goals refine gv ?_;repeat' first|exact .intro|refine Tw.mk ?_ ?_|(intro h;first|replace h:=h.o|cases h)))))
     all_goals (try omega)
     all_goals (try ((with_reducible refine Vc.mk ?_);(try exact GLt)))
     (all_goals (try ((first|refine StopCall.by0 (heq) ?_|refine StopPure.by0 (heq) ?_);(all_goals refine gv ?_;repeat' first|exact .intro|refine Tw.mk ?_ ?_|(intro h;first|replace h:=h.o|cases h)))))
     all_goals exact Y5
    .rw[if_pos ha,if_pos ha];rw[show (o==l.ask)=false from by simp [ha]] at heq;unfold lkM lkC pkAV zcc at *
     refine foA zaA [] [] Tryz.func82 Tryz.ntmps82 Tryz.results82 ?_;(all_goals refine gv ?_;repeat' first|exact .intro|refine Tw.mk ?_ ?_|(intro h;first|replace h:=h.o|cases h))
     (all_goals (try ((first|refine StopCall.by0 (hck) ?_|refine StopPure.by0 (hck) ?_);(all_goals refine gv ?_;repeat' first|exact .intro|refine Tw.mk ?_ ?_|(intro h;first|replace h:=h.o|cases h)))))
     all_goals (try omega)
     all_goals (try ((with_reducible refine Vc.mk ?_);(try exact GLt)))
     (all_goals (try ((first|refine StopCall.by0 (heq) ?_|refine StopPure.by0 (heq) ?_);(all_goals refine gv ?_;repeat' first|exact .intro|refine Tw.mk ?_ ?_|(intro h;first|replace h:=h.o|cases h)))))
     all_goals (try omega)
     all_goals (try ((with_reducible refine Vc.mk ?_);(try exact GLt)))
     all_goals exact Y9
   .rw[if_neg c2,if_neg c2];have htd:=told_ok l.ns l.nm c o;have hokn:(nowL l ⟨c,i,o⟩).ok 900:=by
     unfold nowL;split
     .have ht:=zne (c:=c) (p:=(l.ns,l.nm)) hg.2.2.2.2.2 ⟨h.ns0,h.ns9,h.nm0,h.nm9⟩;obtain⟨h1,h2,h3,h4,h5,h6,h7,h8,h9',h10,h11,h12,h13,h14,h15,h16,h17⟩:=h;refine⟨?_,?_,?_,?_,?_,?_,?_,?_,?_,?_,?_,?_,?_,?_,?_,?_,?_⟩<;>dsimp only<;>first|assumption|omega
     .exact h
    have hev:=zb6 (nowL l ⟨c,i,o⟩) hokn 9 (by decide) (by decide) c i 0 o [] (by decide);have hst:(nowL l ⟨c,i,o⟩).st=l.st:=by unfold nowL;split<;>rfl
    rw[hst] at hev;generalize evtL (nowL l ⟨c,i,o⟩) 9 i 0 []=q at *
    generalize zaq l.st 9=E at *
    by_cases h6:6<=l.st
    .have hN:nowL l ⟨c,i,o⟩={ l with ns:=(told c (l.ns,l.nm) o).1,nm:=(told c (l.ns,l.nm) o).2 }:=by unfold nowL;rw[if_pos h6]
     rw[hN] at hev;unfold lkM lkC pkAV zcc at *
     refine foA zaA [] [] Tryz.func82 Tryz.ntmps82 Tryz.results82 ?_;(all_goals refine gv ?_;repeat' first|exact .intro|refine Tw.mk ?_ ?_|(intro h;first|replace h:=h.o|cases h))
     (all_goals (try ((first|refine StopCall.by0 (hck) ?_|refine StopPure.by0 (hck) ?_);(all_goals refine gv ?_;repeat' first|exact .intro|refine Tw.mk ?_ ?_|(intro h;first|replace h:=h.o|cases h)))))
     all_goals (try omega)
     all_goals (try ((with_reducible refine Vc.mk ?_);(try exact GLt)))
     (all_goals (try ((first|refine StopCall.by0 (htd) ?_|refine StopPure.by0 (htd) ?_);(all_goals refine gv ?_;repeat' first|exact .intro|refine Tw.mk ?_ ?_|(intro h;first|replace h:=h.o|cases h)))))
     all_goals exact Y5
    .have hN:nowL l ⟨c,i,o⟩=l:=by unfold nowL;rw[if_neg h6]
     rw[hN] at hev;unfold lkM lkC pkAV zcc at *
     refine foA zaA [] [] Tryz.func82 Tryz.ntmps82 Tryz.results82 ?_;(all_goals refine gv ?_;repeat' first|exact .intro|refine Tw.mk ?_ ?_|(intro h;first|replace h:=h.o|cases h))
     (all_goals (try ((first|refine StopCall.by0 (hck) ?_|refine StopPure.by0 (hck) ?_);(all_goals refine gv ?_;repeat' first|exact .intro|refine Tw.mk ?_ ?_|(intro h;first|replace h:=h.o|cases h)))))
     all_goals exact Y5
  .rw[if_pos hi,if_pos hi];unfold lkM lkC pkAV zcc at *
   refine foA zaA [] [] Tryz.func82 Tryz.ntmps82 Tryz.results82 ?_;(all_goals refine gv ?_;repeat' first|exact .intro|refine Tw.mk ?_ ?_|(intro h;first|replace h:=h.o|cases h))
   (all_goals (try ((first|refine StopCall.by0 (hck) ?_|refine StopPure.by0 (hck) ?_);(all_goals refine gv ?_;repeat' first|exact .intro|refine Tw.mk ?_ ?_|(intro h;first|replace h:=h.o|cases h)))))
   all_goals (try omega)
   all_goals (try ((with_reducible refine Vc.mk ?_);(try exact GLt)))
   all_goals exact Y9
 .have hV:takL l ⟨c,i,o⟩=l:=by unfold takL;rw[if_pos hf]
  have hE:takE l ⟨c,i,o⟩=zbN c i o:=by unfold takE;rw[if_pos hf]
  rw[hV,hE];generalize zbN c i o=F at *
  unfold lkM lkC pkAV zcc at *
  refine foA zaA [] [] Tryz.func82 Tryz.ntmps82 Tryz.results82 ?_;(all_goals refine gv ?_;repeat' first|exact .intro|refine Tw.mk ?_ ?_|(intro h;first|replace h:=h.o|cases h))
  (all_goals (try ((first|refine StopCall.by0 (hck) ?_|refine StopPure.by0 (hck) ?_);(all_goals refine gv ?_;repeat' first|exact .intro|refine Tw.mk ?_ ?_|(intro h;first|replace h:=h.o|cases h)))))
  all_goals (try omega)
  all_goals (try ((with_reducible refine Vc.mk ?_);(try exact GLt)))
  all_goals exact Y9
end Go.Proofs.YtimfnpjcedjmiadGreat
namespace Go.Proofs.YtimfnpjcedjmiadGreat
open Go.RowKit Go.ChangeShapes Go.WideShapes Go.ChangeAt Go.Deep
structure Ac where
 k:ByteArray
 a:Int
 b:Int
 c:Int
 d:Int
 s:ByteArray
 p:Pk
 x:Int×Int×List (Int×Int)
def zdA(q:Ac):List AV:=[.v (.string q.k),.v (.int .i64 q.a),.v (.int .i64 q.b),.v (.int .i64 q.c),.v (.int .i64 q.d),.v (.string q.s),.v (.int .i64 q.p.c),.v (.int .i64 q.p.i),.sl 2 (q.p.o.map opRow) none,.v (.int .i64 q.x.1),.v (.int .i64 q.x.2.1),.sl 2 (q.x.2.2.map opRow) none]
def zpn(q:Ac×Value×Value):List Value:=[.string q.1.k,.int .i64 q.1.a,.int .i64 q.1.b,.int .i64 q.1.c,.int .i64 q.1.d,.string q.1.s,.int .i64 q.1.p.c,.int .i64 q.1.p.i,q.2.1,.int .i64 q.1.x.1,.int .i64 q.1.x.2.1,q.2.2]
structure acIn (q:Ac):Prop where
 k:q.k.size<=maxLen
 a:I64 q.a
 b:I64 q.b
 c:I64 q.c
 d:I64 q.d
 s:q.s.size<=maxLen
 pc:I64 q.p.c
 pi:I64 q.p.i
 xo:I64 q.x.1
 xs:I64 q.x.2.1
def acGood(w:World)(q:Ac×Value×Value):Prop:=acIn q.1/\q.2.1.oneCell'=true/\RepV (allS w) noG (.sl 2 (q.1.p.o.map opRow) none) q.2.1/\q.2.2.oneCell'=true/\RepV (allS w) noG (.sl 2 (q.1.x.2.2.map opRow) none) q.2.2
def GActs(w:World)(v:Value):Prop:= ∃l:List Ac,(∀q∈l,acIn q)/\RepV (allS w) noG (.sl 12 (l.map zdA) none) v
theorem c_act{H:Type}{enc:TypeId×Value->H}{w:World}{spare:Nat->Bool}{held:Bool}{fuel:Nat}{cs:List Value}{x:DataW H×List MemPlace}(hx:DataW.trod enc Tryz.prog w 0 spare held fuel 44 cs=some x):
  ∃q:Ac×Value×Value,cs=zpn q/\acGood w q:=by
 obtain⟨xs,n,_,_,hl,hlen,hf⟩:=DataW.trod_struct Tryz.underlying44 hx;have hc:Tryz.prog.cellsOf 44=12:=by kernel_rfl
 have ci:Tryz.prog.cellsOf 3=1:=by kernel_rfl
 have cstr:Tryz.prog.cellsOf 9=1:=by kernel_rfl
 have cp:Tryz.prog.cellsOf 39=3:=by kernel_rfl
 have cst:Tryz.prog.cellsOf 42=3:=by kernel_rfl
 rw[hc] at hl;have h0:=hf 0 _ rfl;have h1:=hf 1 _ rfl;have h2:=hf 2 _ rfl;have h3:=hf 3 _ rfl;have h4:=hf 4 _ rfl;have h5:=hf 5 _ rfl;have h6:=hf 6 _ rfl;have h7:=hf 7 _ rfl;clear hf
 match cs,hl,xs,hlen with
 |[c0,c1,c2,c3,c4,c5,c6,c7,c8,c9,c10,c11],_,[y0,y1,y2,y3,y4,y5,y6,y7],_=>
  simp only[ci,cstr,cp,cst,List.getElem?_cons_zero,List.getElem?_cons_succ,List.drop_zero,List.drop_succ_cons,List.take_succ_cons,List.take_zero] at h0 h1 h2 h3 h4 h5 h6 h7;obtain⟨k,e0,_,w0⟩:=DataW.trod_string Tryz.underlying9 h0;obtain⟨a,e1,_,w1⟩:=DataW.trod_int Tryz.underlying3 h1;obtain⟨b,e2,_,w2⟩:=DataW.trod_int Tryz.underlying3 h2;obtain⟨c,e3,_,w3⟩:=DataW.trod_int Tryz.underlying3 h3;obtain⟨d,e4,_,w4⟩:=DataW.trod_int Tryz.underlying3 h4;obtain⟨s,e5,_,w5⟩:=DataW.trod_string Tryz.underlying9 h5;obtain⟨pc,pi,po,pv,e6,wc,wi,o6,r6⟩:=c_packet h6;obtain⟨xo,xs,xe,xv,e7,wo,ws,o7,r7⟩:=c_state h7;cases e0;cases e1;cases e2;cases e3;cases e4;cases e5;cases e6;cases e7;exact⟨(⟨k,a,b,c,d,s,⟨pc,pi,po⟩,(xo,xs,xe)⟩,_,_),rfl,⟨w0,za6 w1,za6 w2,za6 w3,za6 w4,w5,wc,wi,wo,ws⟩,o6,r6,o7,r7⟩
theorem g_acts{H:Type}{enc:TypeId×Value->H}{w:World}{v:Value}{d:DataW H}{p:List MemPlace}(hv:Value.okWide Tryz.prog w .any 0 23 v)(h:DataW.Trod enc Tryz.prog w 0 (λ_=>true) true 23 v d p):GActs w v:=by
 obtain⟨a0,len,cap,rfl⟩:=okWide_slice Tryz.underlying23 hv;obtain⟨fuel,hf⟩:=h;obtain⟨ao,cp,rows,hcs,hl,hm,hr,ha⟩:=zcA Tryz.underlying23 12 (by kernel_rfl) (by decide)
  (E:=λr=> ∃q:Ac×Value×Value,r=zpn q/\acGood w q) (λfuel cs x hx=>c_act hx) hf
 obtain⟨l,rfl,hp⟩:=ziM (λr h=>(hr r h).2);simp [Value.cells] at hcs;obtain⟨rfl,rfl,rfl⟩:=hcs;refine⟨l.map (·.1),λs hs=>?_,?_⟩
 .obtain⟨q,hq,rfl⟩:=List.mem_map.1 hs;exact (hp q hq).1
 .have:=zp3 (w:=w) (μ:=noG) (cap:=cap) (avs:=l.map λq=>zdA q.1) (by simpa using hl) hm ha (by simp) (λi r q h1 h2=>by
   simp only[List.getElem?_map,Option.map_eq_some_iff] at h1 h2;obtain⟨s,hs,rfl⟩:=h1;obtain⟨s',hs',rfl⟩:=h2;rw[hs] at hs';obtain rfl:=Option.some.inj hs';have hq:=hp s (List.mem_of_getElem? hs);refine⟨rfl,rfl,λj x av g1 g2=>?_⟩;unfold zpn at g1;unfold zdA at g2
   match j with
   |0=>simp at g1 g2;subst g1 g2;exact⟨.v _ _,rfl⟩
   |1=>simp at g1 g2;subst g1 g2;exact⟨.v _ _,rfl⟩
   |2=>simp at g1 g2;subst g1 g2;exact⟨.v _ _,rfl⟩
   |3=>simp at g1 g2;subst g1 g2;exact⟨.v _ _,rfl⟩
   |4=>simp at g1 g2;subst g1 g2;exact⟨.v _ _,rfl⟩
   |5=>simp at g1 g2;subst g1 g2;exact⟨.v _ _,rfl⟩
   |6=>simp at g1 g2;subst g1 g2;exact⟨.v _ _,rfl⟩
   |7=>simp at g1 g2;subst g1 g2;exact⟨.v _ _,rfl⟩
   |8=>simp at g1 g2;subst g1 g2;exact⟨hq.2.2.1,hq.2.1⟩
   |9=>simp at g1 g2;subst g1 g2;exact⟨.v _ _,rfl⟩
   |10=>simp at g1 g2;subst g1 g2;exact⟨.v _ _,rfl⟩
   |11=>simp at g1 g2;subst g1 g2;exact⟨hq.2.2.2.2,hq.2.2.2.1⟩
   |j+12=>simp at g1)
  simpa[Function.comp_def] using this
end Go.Proofs.YtimfnpjcedjmiadGreat
namespace Go.Proofs.YtimfnpjcedjmiadGreat
open Go.RowKit
def zdY(l:List Ac)(n:Int):Bool:=decide ((l.length:Int)<=n)&&l.all λq=>decide (q.s.size<=200)&&decide (q.p.o.length<=12)&&decide (q.x.2.2.length<=9)
theorem zfX{l:List Ac}{n:Int}(h:zdY l n=true):(l.length:Int)<=n/\ ∀q∈l,q.s.size<=200/\q.p.o.length<=12/\q.x.2.2.length<=9:=by
 simp only[zdY,Bool.and_eq_true,decide_eq_true_eq,List.all_eq_true,and_assoc] at h;exact h
theorem znH{l:List Ac}{n:Int}{k:Nat}(hk:k<l.length)(h:200<l[k].s.size\/12<l[k].p.o.length\/9<l[k].x.2.2.length):zdY l n=false:=by
 cases e:zdY l n with
 |false=>rfl
 |true=>
  have:=(zfX e).2 l[k] (List.getElem_mem hk);omega
theorem zmz(p:Pk):Fn Tryz.prog 27 [pkAV p] [] (.v (.bool (decide (p.o.length<=12)))) []:=by
 unfold pkAV zcc;refine foA zaA [] [] Tryz.func27 Tryz.ntmps27 Tryz.results27 ?_;(all_goals refine gv ?_;repeat' first|exact .intro|refine Tw.mk ?_ ?_|(intro h;first|replace h:=h.o|cases h))
 all_goals (try ((with_reducible refine Vc.mk ?_);(try exact GLt)))
 ((try (conv=>whnf));refine StopRet.by [] ?_;repeat' first|exact .intro|refine Tw.mk ?_ ?_)
 all_goals (simp;try omega)
theorem zfa(l:List Ac)(n:Int)(hn:n<=1000):Fn Tryz.prog 9 [.sl 12 (l.map zdA) none,.v (.int .i64 n)] [] (.v (.bool (zdY l n))) []:=by
 refine foA zaA [] [] Tryz.func9 Tryz.ntmps9 Tryz.results9 ?_;(all_goals refine gv ?_;repeat' first|exact .intro|refine Tw.mk ?_ ?_|(intro h;first|replace h:=h.o|cases h))
 all_goals (try omega)
 ·((try (conv=>whnf));refine StopRet.by [] ?_;repeat' first|exact .intro|refine Tw.mk ?_ ?_)
  have hd:decide ((l.length:Int)<=n)=false:=decide_eq_false (by omega);unfold zdY;rw[hd];rfl
 refine lpG (λk:Nat=>⟨[(0,.sl 12 (l.map zdA) none),(5,.v (.int .i64 k))],[]⟩) (λk=>k<=l.length/\ ∀i (h:i<l.length),i<k->l[i].s.size<=200/\l[i].p.o.length<=12/\l[i].x.2.2.length<=9) (λk=>l.length-k) 0 ⟨by omega,λi _ h=>by omega⟩ (by (refine zaC [] ?_;repeat' first|exact .intro|refine Tw.mk ?_ ?_)) ?_;rintro k ⟨hk,hg⟩;by_cases hk':k<l.length
 .have hp:=zmz l[k].p;have hbad:=znH (n:=n) hk';unfold pkAV zcc at hp;by_cases h12:l[k].p.o.length<=12
  .rw[decide_eq_true h12] at hp;(all_goals refine gv ?_;repeat' first|exact .intro|refine Tw.mk ?_ ?_|(intro h;first|replace h:=h.o|cases h))
   all_goals (try omega)
   all_goals (try ((with_reducible refine Vc.mk ?_);(try exact GLt)))
   (all_goals (try ((first|refine StopCall.by0 (hp) ?_|refine StopPure.by0 (hp) ?_);(all_goals refine gv ?_;repeat' first|exact .intro|refine Tw.mk ?_ ?_|(intro h;first|replace h:=h.o|cases h)))))
   all_goals (try omega)
   all_goals (try ((with_reducible refine Vc.mk ?_);(try exact GLt)))
   all_goals first
    |(((try (conv=>whnf));refine StopRet.by [] ?_;repeat' first|exact .intro|refine Tw.mk ?_ ?_);exact (hbad (by omega)).symm)
    |(
      refine zaU (k+1) ⟨by omega,λi h hi=>?_⟩ (by omega) (by (refine zaC [] ?_;repeat' first|exact .intro|refine Tw.mk ?_ ?_));by_cases e:i=k
      .subst e;refine⟨by omega,by omega,by omega⟩
      .exact hg i h (by omega))
  .rw[decide_eq_false h12] at hp;(all_goals refine gv ?_;repeat' first|exact .intro|refine Tw.mk ?_ ?_|(intro h;first|replace h:=h.o|cases h))
   all_goals (try omega)
   all_goals (try ((with_reducible refine Vc.mk ?_);(try exact GLt)))
   (all_goals (try ((first|refine StopCall.by0 (hp) ?_|refine StopPure.by0 (hp) ?_);(all_goals refine gv ?_;repeat' first|exact .intro|refine Tw.mk ?_ ?_|(intro h;first|replace h:=h.o|cases h)))))
   all_goals (try omega)
   all_goals (try ((with_reducible refine Vc.mk ?_);(try exact GLt)))
   all_goals (((try (conv=>whnf));refine StopRet.by [] ?_;repeat' first|exact .intro|refine Tw.mk ?_ ?_);exact (hbad (by omega)).symm)
 .have ek:k=l.length:=by omega
  subst ek;(all_goals refine gv ?_;repeat' first|exact .intro|refine Tw.mk ?_ ?_|(intro h;first|replace h:=h.o|cases h))
  all_goals (try omega)
  ((try (conv=>whnf));refine StopRet.by [] ?_;repeat' first|exact .intro|refine Tw.mk ?_ ?_)
  symm
  simp only[zdY,Bool.and_eq_true,decide_eq_true_eq,List.all_eq_true];refine⟨by omega,λq hq=>?_⟩;obtain⟨i,hi,rfl⟩:=List.mem_iff_getElem.1 hq;have:=hg i hi hi;exact⟨⟨this.1,this.2.1⟩,this.2.2⟩
end Go.Proofs.YtimfnpjcedjmiadGreat
namespace Go.Proofs.YtimfnpjcedjmiadGreat
def Lk.opn(l:Lk):Prop:=l.st=1\/l.st=3\/(5<=l.st/\l.st<=9)
def opnB(s:Int):Bool:=decide (s=1)||decide (s=3)||(decide (5<=s)&&decide (s<=9))
theorem ze9{l:Lk}:opnB l.st=true↔l.opn:=by
 simp [opnB,Lk.opn,or_assoc]
theorem opn_all: ∀(s:Fin 10) (e:Fin 12),(!opnB s||decide (e.val=3)|| !decide (zaq s e=0)||opnB (zb3 s e))=true:=by decide+kernel
theorem down_all: ∀(s:Fin 10),(!opnB s||(if (s.val=1) then !decide (zaq s 1=0) else decide (zaq s 1=0)&&decide (zb3 s 1=1)))=true:=by decide+kernel
theorem evtL_st(l:Lk)(e i c:Int)(o:List (Int×Int)):(evtL l e i c o).st=if zaq l.st e=0 then zb3 l.st e else l.st:=by
 unfold evtL;split
 .rw[(zq3 (zdE l.st e) _).2.2];unfold ownL;split<;>rfl
 .rfl
theorem zoF{l:Lk}(h:l.opn){e i c:Int}{o:List (Int×Int)}(e0:0<=e)(e9:e<=11)(e3:e≠3):(evtL l e i c o).opn:=by
 rw[<-ze9,evtL_st];have hs:0<=l.st/\l.st<=9:=by unfold Lk.opn at h;omega
 have hT:=opn_all ⟨l.st.toNat,by omega⟩ ⟨e.toNat,by omega⟩;simp only[Int.toNat_of_nonneg hs.1,Int.toNat_of_nonneg e0] at hT;rw[ze9.2 h] at hT;split
 .rename_i g;have h3: ¬e.toNat=3:=by omega
  simpa[g,h3] using hT
 .exact ze9.2 h
theorem zpT{l:Lk}(h:l.opn){e:Int}(he:e≠3):(doL l e).opn:=by
 unfold doL;split
 .exact h
 .exact zoF h (by omega) (by omega) he
theorem zhz{l:Lk}(h:l.opn):(doL l 1).st=1/\(doE l 1=0↔l.st≠1):=by
 have hs:0<=l.st/\l.st<=9:=by unfold Lk.opn at h;omega
 have hT:=down_all ⟨l.st.toNat,by omega⟩;simp only[Int.toNat_of_nonneg hs.1] at hT;rw[ze9.2 h] at hT;unfold doL doE;rw[if_neg (by decide),if_neg (by decide),evtL_st];by_cases h1:l.st=1
 .have h2:l.st.toNat=1:=by omega
  rw[if_pos h2] at hT;simp at hT;rw[if_neg hT];exact⟨h1,λg=>absurd g hT,λg=>absurd h1 g⟩
 .have h2: ¬l.st.toNat=1:=by omega
  rw[if_neg h2] at hT;simp at hT;rw[if_pos hT.1];exact⟨hT.2,λ_=>h1,λ_=>hT.1⟩
end Go.Proofs.YtimfnpjcedjmiadGreat
