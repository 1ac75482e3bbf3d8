/- Lemmas. -/
import Derived.Test.YtimfnpjcedjmiadGreatK22
set_option maxRecDepth 100000
set_option maxHeartbeats 64000000
set_option linter.all false
namespace Go.Proofs.YtimfnpjcedjmiadGreat
open Go.RowKit
theorem zev{l:Lk}(h:l.fit 0): ∀x∈(zaE l).out,x.o.length<=10:=by
 have e:l.out=[]:=List.eq_nil_of_length_eq_zero (by have:=h.ok.out;omega)
 have h1: ∀x∈(zac l).out,x.o.length<=10:=fun x hx=>by
  rcases zog x hx with g|g
  ·rw[e] at g;cases g
  ·exact g
 unfold zaE
 split
 ·intro x hx
  rcases zjj x hx with g|g
  ·rcases zjj x g with g|g
   ·exact h1 x g
   ·exact g
  ·exact g
 ·exact h1
theorem zey(id:Int)(p:Pt):zaP id p={ p with out:=(zaP id p).out }:=by
 unfold zaP putP
 split
 ·split<;>rfl
 ·rfl
theorem owe_form(x:St3)(p:Pt):zaT x p={ p with out:=(zaT x p).out }:=by
 unfold zaT putP
 split
 ·split<;>rfl
 ·rfl
theorem zbx: ∀(l:List St3) (p:Pt),l.foldl (fun p x=>zaT x p) p={ p with out:=(l.foldl (fun p x=>zaT x p) p).out }
 |[],p=>rfl
 |x::l,p=>by
  rw[List.foldl_cons,zbx l,owe_form]
theorem zfh{i:Nat}: ∀(l:List St3) (r:Rt),l.foldl (fun q x=>q.onP i (zaT x)) r=r.onP i fun p=>l.foldl (fun p x=>zaT x p) p
 |[],r=>by
  show r={ r with ps:=r.ps.modify i id }
  rw[List.modify_id]
 |x::l,r=>by
  rw[List.foldl_cons,zfh l]
  unfold Rt.onP
  simp only[List.modify_modify_eq];rfl
theorem zn8{b:Ba}(hb:b.ok){p:Int}{x:St3}(hx:x∈owdB b p):sf x=0/\x.2.2.length<=6:=by
 unfold owdB at hx
 have h:=(List.mem_filter.1 hx).1
 unfold stsB at h
 obtain⟨n,_,hn⟩:=List.mem_filterMap.1 h
 have:=(hb.kn n x hn).2
 exact⟨this,(zaM this).2.2.2.2.1⟩
theorem zor(a b:Int):heE a b=0\/heE a b=1:=by unfold heE;split<;>simp
theorem zgA{k:Nat}{R0 r:Rt}(h:r=(List.range k).foldl zbT R0):zbT r k=(List.range (k+1)).foldl zbT R0:=by
 rw[List.range_succ,List.foldl_append,<-h];rfl
theorem tick_ok3(n d:Nat)(hn:n<=8000000)(id dr:Int)(b:Ba)(inb:List Mg)(p0 p1 p2:Pt)(hF:Rt.fine n d ⟨id,[p0,p1,p2],b,inb,dr⟩):Fn Tryz.prog 44 [.box 0 0] (rtM ⟨id,[p0,p1,p2],b,inb,dr⟩ 0) (.tup []) (rtM (zcW ⟨id,[p0,p1,p2],b,inb,dr⟩) 1):=by
 rw[show zcW ⟨id,[p0,p1,p2],b,inb,dr⟩=(List.range 3).foldl zbT ⟨id,[p0,p1,p2],b,inb,dr⟩ from rfl]
 refine foP zaA (tickPl) [] [7,14] Tryz.func44 Tryz.ntmps44 Tryz.results44 ?_
 simp only[rtM,rtH,zaC,rtP,prQ]
 (all_goals refine gv ?_;repeat' first|exact .intro|refine Tw.mk ?_ ?_|(intro h;first|replace h:=h.o|cases h))
 refine lpG2 (fun (k:Nat) (r:Rt)=>⟨[(0,.box 0 0),(13,.arr 1 0 3),(14,.v (.int .i64 3)),(15,.v (.int .i64 k))],rtM r 1⟩) (fun k r=>k<=3/\Like ⟨id,[p0,p1,p2],b,inb,dr⟩ r/\r.fine (n+2210*k) d/\r=(List.range k).foldl zbT ⟨id,[p0,p1,p2],b,inb,dr⟩) (fun k _=>3-k) 0 ⟨id,[p0,p1,p2],b,inb,dr⟩ ⟨by omega,Like.refl _,hF,rfl⟩ (by
  simp only[rtM,rtH,zaC,rtP,prQ]
  (refine zaD zaQ ?_;repeat' first|exact .intro|refine Tw.mk ?_ ?_)) ?_
 rintro k r ⟨hk,hlk,hfn,hr⟩
 obtain⟨rid,rps,b',inb',dr'⟩:=r
 have hlk2:=hlk
 obtain⟨h1,h2⟩:=hlk2
 dsimp only at h1 h2
 obtain⟨q0,q1,q2,rfl⟩:=len3 h2
 subst h1
 refine orN3 hk (fun e=>?_) (fun e=>?_) (fun e=>?_) (fun e=>?_)
 ·subst e
  have hp:=hfn.ps q0 (by simp)
  have hst:=zgA hr
  have hlt:=hlk.trans (zcS ⟨rid,[q0,q1,q2],b',inb',dr'⟩ 0)
  have hft:=zd2 hfn (i:=0) (show 0<3 by decide)
  have h0:zaz ⟨rid,[q0,q1,q2],b',inb',dr'⟩ 0=⟨rid,[⟨q0.m,outL (zaE q0.l),q0.rd,q0.rest,q0.p,q0.out++(zaE q0.l).out.flatMap flB⟩,q1,q2],b',inb',dr'⟩:=rfl
  have hf0:=zd6 hfn 0
  rw[h0] at hf0
  have hm: ∀p∈[(⟨q0.m,outL (zaE q0.l),q0.rd,q0.rest,q0.p,q0.out++(zaE q0.l).out.flatMap flB⟩:Pt),q1,q2],0<=p.m/\p.m<=20:=fun p hx=>(hf0.ps p hx).m
  have ho:=(hf0.ps _ (show (⟨q0.m,outL (zaE q0.l),q0.rd,q0.rest,q0.p,q0.out++(zaE q0.l).out.flatMap flB⟩:Pt)∈[(⟨q0.m,outL (zaE q0.l),q0.rd,q0.rest,q0.p,q0.out++(zaE q0.l).out.flatMap flB⟩:Pt),q1,q2] by simp)).out
  dsimp only at ho
  have hpo:=hp.out
  have hfk:=zd5 hp.l
  have xt:=zgL q0.l (hp.l.ok.mono (by decide))
  have xs:=zaa (zac q0.l)
  have ft1:=zfg hp.l (by decide)
  have xd1:=zbm (zac q0.l) (ft1.ok.mono (by decide)) 1
  have xd2:=zbm (doL (zac q0.l) 1) ((zdb (e:=1) ft1 (by decide)).ok.mono (by decide)) 0
  have fl:=zbs ⟨q0.m,zaE q0.l,q0.rd,q0.rest,q0.p,q0.out⟩ (by have:=hfk.ok.out;dsimp only;omega) (fun x hx=>by have:=zev hp.l x hx;omega) (by dsimp only;omega)
  have htk:zaE q0.l=if (zac q0.l).st=3 then doL (doL (zac q0.l) 1) 0 else zac q0.l:=rfl
  unfold ptM prM zb2 at fl
  dsimp only at fl
  simp only[rtM,rtH,zaC,rtP,prQ]
  (all_goals refine fv ?_;repeat' first|exact .intro|refine Tw.mk ?_ ?_|(intro h;first|replace h:=h.o|cases h))
  all_goals ((refine StopCall.fz [5] (xt) ?_;(all_goals refine lv ?_;repeat' first|exact .intro|refine Tw.mk ?_ ?_|(intro h;first|replace h:=h.o|cases h))))
  all_goals (refine cutK ⟨[(0,.box 0 0),(2,.v (.int .i64 0)),(3,.box 4 0),(13,.arr 1 0 3),(14,.v (.int .i64 3)),(15,.v (.int .i64 0))],rtM ⟨rid,[⟨q0.m,zaE q0.l,q0.rd,q0.rest,q0.p,q0.out⟩,q1,q2],b',inb',dr'⟩ 1⟩ ?_ (fun hy=>?_))
  rotate_left
  ·simp only[rtM,rtH,zaC,rtP,prQ] at hy
   by_cases c3:(zac q0.l).st=3
   ·rw[if_pos c3] at htk
    rw[htk] at hy
    (all_goals refine fv ?_;repeat' first|exact .intro|refine Tw.mk ?_ ?_|(intro h;first|replace h:=h.o|cases h))
    all_goals ((refine StopCall.fz [5] (xs) ?_;(all_goals refine lv ?_;repeat' first|exact .intro|refine Tw.mk ?_ ?_|(intro h;first|replace h:=h.o|cases h))))
    all_goals (try (exfalso;omega))
    all_goals ((refine StopCall.fz [5] (xd1) ?_;(all_goals refine lv ?_;repeat' first|exact .intro|refine Tw.mk ?_ ?_|(intro h;first|replace h:=h.o|cases h))))
    all_goals ((refine StopCall.fz [5] (xd2) ?_;(all_goals refine lv ?_;repeat' first|exact .intro|refine Tw.mk ?_ ?_|(intro h;first|replace h:=h.o|cases h))))
    all_goals exact Y30
   ·rw[if_neg c3] at htk
    rw[htk] at hy
    (all_goals refine fv ?_;repeat' first|exact .intro|refine Tw.mk ?_ ?_|(intro h;first|replace h:=h.o|cases h))
    all_goals ((refine StopCall.fz [5] (xs) ?_;(all_goals refine lv ?_;repeat' first|exact .intro|refine Tw.mk ?_ ?_|(intro h;first|replace h:=h.o|cases h))))
    all_goals (try (exfalso;omega))
    all_goals exact Y30
  clear xt xd1 xd2 xs htk
  simp only[rtM,rtH,zaC,rtP,prQ]
  (all_goals refine fv ?_;repeat' first|exact .intro|refine Tw.mk ?_ ?_|(intro h;first|replace h:=h.o|cases h))
  all_goals ((refine StopCall.fz [4,5,6,7] (fl) ?_;(all_goals refine lv ?_;repeat' first|exact .intro|refine Tw.mk ?_ ?_|(intro h;first|replace h:=h.o|cases h))))
  clear fl
  have xs:=zaa (outL (zaE q0.l))
  have hst9:(outL (zaE q0.l)).st=(zaE q0.l).st:=rfl
  by_cases c9:(outL (zaE q0.l)).st=9
  ·have ht1:zbT ⟨rid,[q0,q1,q2],b',inb',dr'⟩ 0=(owdB (zaU (zaz ⟨rid,[q0,q1,q2],b',inb',dr'⟩ 0) 0 (zam q0.p)).b 0).foldl (fun q x=>q.onP 0 (zaT x)) ((zaU (zaz ⟨rid,[q0,q1,q2],b',inb',dr'⟩ 0) 0 (zam q0.p)).onP 0 (zaP rid)):=by
    exact Y99
   rw[h0] at ht1
   have hfm:=zbe hf0 0 (zf9 hp.pe)
   have pt:=ziP q0.p hp.pe
   have ct:=zdE rid dr' b' hfn.b inb' ⟨q0.m,outL (zaE q0.l),q0.rd,q0.rest,q0.p,q0.out++(zaE q0.l).out.flatMap flB⟩ q1 q2 hm (zam q0.p)
   obtain⟨r0,r1,r2,hq⟩:=lit3 (zaV ⟨rid,[⟨q0.m,outL (zaE q0.l),q0.rd,q0.rest,q0.p,q0.out++(zaE q0.l).out.flatMap flB⟩,q1,q2],b',inb',dr'⟩ 0 (zam q0.p)) rfl
   rw[hq] at ct ht1 hfm
   clear hq
   dsimp only at ct ht1 hfm
   generalize (zaU ⟨rid,[⟨q0.m,outL (zaE q0.l),q0.rd,q0.rest,q0.p,q0.out++(zaE q0.l).out.flatMap flB⟩,q1,q2],b',inb',dr'⟩ 0 (zam q0.p)).b=b2 at *
   generalize (zaU ⟨rid,[⟨q0.m,outL (zaE q0.l),q0.rd,q0.rest,q0.p,q0.out++(zaE q0.l).out.flatMap flB⟩,q1,q2],b',inb',dr'⟩ 0 (zam q0.p)).inb=inb2 at *
   generalize (zaU ⟨rid,[⟨q0.m,outL (zaE q0.l),q0.rd,q0.rest,q0.p,q0.out++(zaE q0.l).out.flatMap flB⟩,q1,q2],b',inb',dr'⟩ 0 (zam q0.p)).dr=dr2 at *
   have hrp:=hfm.ps r0 (by simp)
   rw[zfh,show (Rt.onP ⟨rid,[r0,r1,r2],b2,inb2,dr2⟩ 0 (zaP rid))=⟨rid,[(zaP rid r0),r1,r2],b2,inb2,dr2⟩ from rfl] at ht1
   rw[zey] at ht1
   have hfo:=(zbp hrp rid).out
   obtain⟨o1,ho1⟩: ∃o1,o1=(zaP rid r0).out:=⟨_,rfl⟩
   rw[<-ho1] at ht1 hfo
   have sy:=zjf r0.p rid
   have hbk:=zeX rid r0.p.who
   generalize zam q0.p=TP at *
   have ptm: ∀s:ByteArray,s.size<=1000->Fn Tryz.prog 61 [.box 0 0,.v (.int .u8 (72:UInt8).toNat),.v (.string s)] (ptM r0 0) (.tup []) (ptM (putP 72 (bs s) r0) 1):=fun s hs=>zc2 r0 72 s (by omega) (by have:=hrp.out;omega)
   simp only[rtM,rtH,zaC,rtP,prQ] at ct
   all_goals ((refine StopCall.fz [5] (xs) ?_;(all_goals refine lv ?_;repeat' first|exact .intro|refine Tw.mk ?_ ?_|(intro h;first|replace h:=h.o|cases h))))
   all_goals (try (exfalso;omega))
   all_goals ((refine StopCall.fz [] (pt) ?_;(all_goals refine lv ?_;repeat' first|exact .intro|refine Tw.mk ?_ ?_|(intro h;first|replace h:=h.o|cases h))))
   all_goals ((refine StopCall.fz zaQ (ct) ?_;(all_goals refine lv ?_;repeat' first|exact .intro|refine Tw.mk ?_ ?_|(intro h;first|replace h:=h.o|cases h))))
   all_goals ((refine StopCall.fz [] (sy) ?_;(all_goals refine lv ?_;repeat' first|exact .intro|refine Tw.mk ?_ ?_|(intro h;first|replace h:=h.o|cases h))))
   all_goals ((refine StopCall.fz [] (hbk) ?_;(all_goals refine lv ?_;repeat' first|exact .intro|refine Tw.mk ?_ ?_|(intro h;first|replace h:=h.o|cases h))))
   all_goals (refine cutK ⟨[(0,.box 0 0),(2,.v (.int .i64 0)),(3,.box 4 0),(13,.arr 1 0 3),(14,.v (.int .i64 3)),(15,.v (.int .i64 0))],rtM ⟨rid,[⟨r0.m,r0.l,r0.rd,r0.rest,r0.p,o1⟩,r1,r2],b2,inb2,dr2⟩ 1⟩ ?_ (fun hy=>?_))
   rotate_left
   ·simp only[rtM,rtH,zaC,rtP,prQ] at hy
    unfold zaP at ho1
    rcases zor rid r0.p.who with he|he
    ·rw[if_pos he] at ho1
     have pm:=ptm (tx (heB rid r0.p.who)) (by show 2<=1000;decide)
     rw[bs_tx] at pm
     rw[show putP 72 (heB rid r0.p.who) r0=⟨r0.m,r0.l,r0.rd,r0.rest,r0.p,o1⟩ from by rw[ho1];unfold putP;split<;>rfl] at pm
     unfold ptM prM at pm
     dsimp only at pm
     simp only[he,if_true]
     (all_goals refine fv ?_;repeat' first|exact .intro|refine Tw.mk ?_ ?_|(intro h;first|replace h:=h.o|cases h))
     all_goals (try (exfalso;omega))
     all_goals ((refine StopCall.fz [4,5,6,7] (pm) ?_;(all_goals refine lv ?_;repeat' first|exact .intro|refine Tw.mk ?_ ?_|(intro h;first|replace h:=h.o|cases h))))
     all_goals exact Y30
    ·exact Y40
   clear xs pt ct sy hbk ptm
   have xo:=zh6 hfm.b 0
   have hsf:=fun x hx=>zn8 hfm.b (p:=0) (x:=x) hx
   have hol:=ziM b2 0
   generalize owdB b2 0=L at *
   simp only[rtM,rtH,zaC,rtP,prQ]
   (all_goals refine fv ?_;repeat' first|exact .intro|refine Tw.mk ?_ ?_|(intro h;first|replace h:=h.o|cases h))
   all_goals ((refine StopCall.fz [2] (xo) ?_;(all_goals refine lv ?_;repeat' first|exact .intro|refine Tw.mk ?_ ?_|(intro h;first|replace h:=h.o|cases h))))
   clear xo
   refine lpG2 (fun (j:Nat) (o:List UInt8)=>⟨[(0,.box 0 0),(3,.box 4 0),(13,.arr 1 0 3),(14,.v (.int .i64 3)),(15,.v (.int .i64 0)),(84,.sl 3 (L.map zaF) none),(85,.v (.int .i64 L.length)),(86,.v (.int .i64 j))],rtM ⟨rid,[⟨r0.m,r0.l,r0.rd,r0.rest,r0.p,o⟩,r1,r2],b2,inb2,dr2⟩ 1⟩) (fun j o=>j<=L.length/\o.length<=100000000+130*j/\o=((L.take j).foldl (fun p x=>zaT x p) ⟨r0.m,r0.l,r0.rd,r0.rest,r0.p,o1⟩).out) (fun j _=>L.length-j) 0 o1 ⟨by omega,by omega,rfl⟩ (by
    simp only[rtM,rtH,zaC,rtP,prQ]
    (refine zaD zaQ ?_;repeat' first|exact .intro|refine Tw.mk ?_ ?_);all_goals (simp;done)) ?_
   rintro j o ⟨hj,hoL,hoo⟩
   by_cases hj':j<L.length
   ·obtain⟨hs0,hs6⟩:=hsf L[j] (List.getElem_mem hj')
    have hstep:(L.take (j+1)).foldl (fun p x=>zaT x p) ⟨r0.m,r0.l,r0.rd,r0.rest,r0.p,o1⟩=zaT L[j] ⟨r0.m,r0.l,r0.rd,r0.rest,r0.p,o⟩:=by
     rw[zaR hj',List.foldl_append]
     show zaT L[j] ((L.take j).foldl (fun p x=>zaT x p) ⟨r0.m,r0.l,r0.rd,r0.rest,r0.p,o1⟩)=_
     rw[zbx,<-hoo]
    have sb:=zgE L[j].1 L[j].2.1 L[j].2.2 (by omega)
    unfold sf at hs0
    rw[hs0,if_pos rfl] at sb
    have hbl:=zfc (c:=L[j].1) (i:=L[j].2.1) (l:=L[j].2.2)
    have hfr:=zef 83 (sbyt L[j].1 L[j].2.1 L[j].2.2)
    by_cases cb:r0.p.both=true
    ·rw[show zaT L[j] ⟨r0.m,r0.l,r0.rd,r0.rest,r0.p,o⟩=putP 83 (sbyt L[j].1 L[j].2.1 L[j].2.2) ⟨r0.m,r0.l,r0.rd,r0.rest,r0.p,o⟩ from if_pos ⟨hs0,cb⟩] at hstep
     have pm:=zc2 ⟨r0.m,r0.l,r0.rd,r0.rest,r0.p,o⟩ 83 (tx (sbyt L[j].1 L[j].2.1 L[j].2.2)) (by rw[tx_size];omega) (by dsimp only;omega)
     rw[bs_tx] at pm
     obtain⟨o2,hp2,ho2⟩: ∃o2,putP 83 (sbyt L[j].1 L[j].2.1 L[j].2.2) ⟨r0.m,r0.l,r0.rd,r0.rest,r0.p,o⟩=⟨r0.m,r0.l,r0.rd,r0.rest,r0.p,o2⟩/\o2.length<=o.length+130:=by
      exact Y67
     rw[hp2] at pm hstep
     unfold ptM prM at pm
     dsimp only at pm
     simp only[rtM,rtH,zaC,rtP,prQ]
     (all_goals refine fv ?_;repeat' first|exact .intro|refine Tw.mk ?_ ?_|(intro h;first|replace h:=h.o|cases h))
     all_goals (try (exfalso;omega))
     all_goals ((refine StopCall.fz [] (sb) ?_;(all_goals refine lv ?_;repeat' first|exact .intro|refine Tw.mk ?_ ?_|(intro h;first|replace h:=h.o|cases h))))
     all_goals (try (exfalso;first|omega|(simp [cb] at *; done)))
     all_goals ((refine StopCall.fz [4,5,6,7] (pm) ?_;(all_goals refine lv ?_;repeat' first|exact .intro|refine Tw.mk ?_ ?_|(intro h;first|replace h:=h.o|cases h))))
     all_goals exact Y51
    ·rw[show zaT L[j] ⟨r0.m,r0.l,r0.rd,r0.rest,r0.p,o⟩=⟨r0.m,r0.l,r0.rd,r0.rest,r0.p,o⟩ from if_neg (fun h=>cb h.2)] at hstep
     exact Y21
   ·have e:j=L.length:=by omega
    subst e
    rw[List.take_length] at hoo
    rw[show (Rt.onP (⟨rid,[⟨r0.m,r0.l,r0.rd,r0.rest,r0.p,o1⟩,r1,r2],b2,inb2,dr2⟩:Rt) 0 fun p=>L.foldl (fun p x=>zaT x p) p)=⟨rid,[⟨r0.m,r0.l,r0.rd,r0.rest,r0.p,o⟩,r1,r2],b2,inb2,dr2⟩ from by rw[hoo];show (⟨rid,[(L.foldl (fun p x=>zaT x p) ⟨r0.m,r0.l,r0.rd,r0.rest,r0.p,o1⟩),r1,r2],b2,inb2,dr2⟩:Rt)=_;rw[zbx]] at ht1
    rw[ht1] at hst hlt hft
    simp only[rtM,rtH,zaC,rtP,prQ]
    (all_goals refine fv ?_;repeat' first|exact .intro|refine Tw.mk ?_ ?_|(intro h;first|replace h:=h.o|cases h))
    all_goals (try (exfalso;omega))
    all_goals (refine za3 1 ⟨rid,[⟨r0.m,r0.l,r0.rd,r0.rest,r0.p,o⟩,r1,r2],b2,inb2,dr2⟩ ⟨by omega,hlt,hft,hst⟩ (by omega) (by
     simp only[rtM,rtH,zaC,rtP,prQ]
     (refine zaD zaQ ?_;repeat' first|exact .intro|refine Tw.mk ?_ ?_)))
  ·have ht1:zbT ⟨rid,[q0,q1,q2],b',inb',dr'⟩ 0=zaU (zaz ⟨rid,[q0,q1,q2],b',inb',dr'⟩ 0) 0 peNo:=by
    unfold zbT
    rw[if_pos (by rw[h0];exact c9)]
   rw[h0] at ht1
   have ct:=zdE rid dr' b' hfn.b inb' ⟨q0.m,outL (zaE q0.l),q0.rd,q0.rest,q0.p,q0.out++(zaE q0.l).out.flatMap flB⟩ q1 q2 hm peNo
   obtain⟨r0,r1,r2,hq⟩:=lit3 (zaV ⟨rid,[⟨q0.m,outL (zaE q0.l),q0.rd,q0.rest,q0.p,q0.out++(zaE q0.l).out.flatMap flB⟩,q1,q2],b',inb',dr'⟩ 0 peNo) rfl
   rw[ht1] at hst hlt hft
   rw[hq] at ct hst hlt hft
   clear hq ht1
   dsimp only at ct hst hlt hft
   generalize (zaU ⟨rid,[⟨q0.m,outL (zaE q0.l),q0.rd,q0.rest,q0.p,q0.out++(zaE q0.l).out.flatMap flB⟩,q1,q2],b',inb',dr'⟩ 0 peNo).b=b2 at *
   generalize (zaU ⟨rid,[⟨q0.m,outL (zaE q0.l),q0.rd,q0.rest,q0.p,q0.out++(zaE q0.l).out.flatMap flB⟩,q1,q2],b',inb',dr'⟩ 0 peNo).inb=inb2 at *
   generalize (zaU ⟨rid,[⟨q0.m,outL (zaE q0.l),q0.rd,q0.rest,q0.p,q0.out++(zaE q0.l).out.flatMap flB⟩,q1,q2],b',inb',dr'⟩ 0 peNo).dr=dr2 at *
   simp only[rtM,rtH,zaC,rtP,prQ,peRow,peNo] at ct
   all_goals ((refine StopCall.fz [5] (xs) ?_;(all_goals refine lv ?_;repeat' first|exact .intro|refine Tw.mk ?_ ?_|(intro h;first|replace h:=h.o|cases h))))
   all_goals (try (exfalso;omega))
   all_goals ((refine StopCall.fz zaQ (ct) ?_;(all_goals refine lv ?_;repeat' first|exact .intro|refine Tw.mk ?_ ?_|(intro h;first|replace h:=h.o|cases h))))
   all_goals (refine za3 1 ⟨rid,[r0,r1,r2],b2,inb2,dr2⟩ ⟨by omega,hlt,(show n+2210*1=n+2210*0+2210 by omega)▸hft,hst⟩ (by omega) (by
    simp only[rtM,rtH,zaC,rtP,prQ]
    (refine zaD zaQ ?_;repeat' first|exact .intro|refine Tw.mk ?_ ?_)))
 ·subst e
  have hp:=hfn.ps q1 (by simp)
  have hst:=zgA hr
  have hlt:=hlk.trans (zcS ⟨rid,[q0,q1,q2],b',inb',dr'⟩ 1)
  have hft:=zd2 hfn (i:=1) (show 1<3 by decide)
  have h0:zaz ⟨rid,[q0,q1,q2],b',inb',dr'⟩ 1=⟨rid,[q0,⟨q1.m,outL (zaE q1.l),q1.rd,q1.rest,q1.p,q1.out++(zaE q1.l).out.flatMap flB⟩,q2],b',inb',dr'⟩:=rfl
  have hf0:=zd6 hfn 1
  rw[h0] at hf0
  have hm: ∀p∈[q0,(⟨q1.m,outL (zaE q1.l),q1.rd,q1.rest,q1.p,q1.out++(zaE q1.l).out.flatMap flB⟩:Pt),q2],0<=p.m/\p.m<=20:=fun p hx=>(hf0.ps p hx).m
  have ho:=(hf0.ps _ (show (⟨q1.m,outL (zaE q1.l),q1.rd,q1.rest,q1.p,q1.out++(zaE q1.l).out.flatMap flB⟩:Pt)∈[q0,(⟨q1.m,outL (zaE q1.l),q1.rd,q1.rest,q1.p,q1.out++(zaE q1.l).out.flatMap flB⟩:Pt),q2] by simp)).out
  dsimp only at ho
  have hpo:=hp.out
  have hfk:=zd5 hp.l
  have xt:=zgL q1.l (hp.l.ok.mono (by decide))
  have xs:=zaa (zac q1.l)
  have ft1:=zfg hp.l (by decide)
  have xd1:=zbm (zac q1.l) (ft1.ok.mono (by decide)) 1
  have xd2:=zbm (doL (zac q1.l) 1) ((zdb (e:=1) ft1 (by decide)).ok.mono (by decide)) 0
  have fl:=zbs ⟨q1.m,zaE q1.l,q1.rd,q1.rest,q1.p,q1.out⟩ (by have:=hfk.ok.out;dsimp only;omega) (fun x hx=>by have:=zev hp.l x hx;omega) (by dsimp only;omega)
  have htk:zaE q1.l=if (zac q1.l).st=3 then doL (doL (zac q1.l) 1) 0 else zac q1.l:=rfl
  unfold ptM prM zb2 at fl
  dsimp only at fl
  simp only[rtM,rtH,zaC,rtP,prQ]
  (all_goals refine fv ?_;repeat' first|exact .intro|refine Tw.mk ?_ ?_|(intro h;first|replace h:=h.o|cases h))
  all_goals ((refine StopCall.fz [9] (xt) ?_;(all_goals refine lv ?_;repeat' first|exact .intro|refine Tw.mk ?_ ?_|(intro h;first|replace h:=h.o|cases h))))
  all_goals (refine cutK ⟨[(0,.box 0 0),(2,.v (.int .i64 1)),(3,.box 8 0),(13,.arr 1 0 3),(14,.v (.int .i64 3)),(15,.v (.int .i64 1))],rtM ⟨rid,[q0,⟨q1.m,zaE q1.l,q1.rd,q1.rest,q1.p,q1.out⟩,q2],b',inb',dr'⟩ 1⟩ ?_ (fun hy=>?_))
  rotate_left
  ·simp only[rtM,rtH,zaC,rtP,prQ] at hy
   by_cases c3:(zac q1.l).st=3
   ·rw[if_pos c3] at htk
    rw[htk] at hy
    (all_goals refine fv ?_;repeat' first|exact .intro|refine Tw.mk ?_ ?_|(intro h;first|replace h:=h.o|cases h))
    all_goals ((refine StopCall.fz [9] (xs) ?_;(all_goals refine lv ?_;repeat' first|exact .intro|refine Tw.mk ?_ ?_|(intro h;first|replace h:=h.o|cases h))))
    all_goals (try (exfalso;omega))
    all_goals ((refine StopCall.fz [9] (xd1) ?_;(all_goals refine lv ?_;repeat' first|exact .intro|refine Tw.mk ?_ ?_|(intro h;first|replace h:=h.o|cases h))))
    all_goals ((refine StopCall.fz [9] (xd2) ?_;(all_goals refine lv ?_;repeat' first|exact .intro|refine Tw.mk ?_ ?_|(intro h;first|replace h:=h.o|cases h))))
    all_goals exact Y30
   ·rw[if_neg c3] at htk
    rw[htk] at hy
    (all_goals refine fv ?_;repeat' first|exact .intro|refine Tw.mk ?_ ?_|(intro h;first|replace h:=h.o|cases h))
    all_goals ((refine StopCall.fz [9] (xs) ?_;(all_goals refine lv ?_;repeat' first|exact .intro|refine Tw.mk ?_ ?_|(intro h;first|replace h:=h.o|cases h))))
    all_goals (try (exfalso;omega))
    all_goals exact Y30
  clear xt xd1 xd2 xs htk
  simp only[rtM,rtH,zaC,rtP,prQ]
  (all_goals refine fv ?_;repeat' first|exact .intro|refine Tw.mk ?_ ?_|(intro h;first|replace h:=h.o|cases h))
  all_goals ((refine StopCall.fz [8,9,10,11] (fl) ?_;(all_goals refine lv ?_;repeat' first|exact .intro|refine Tw.mk ?_ ?_|(intro h;first|replace h:=h.o|cases h))))
  clear fl
  have xs:=zaa (outL (zaE q1.l))
  have hst9:(outL (zaE q1.l)).st=(zaE q1.l).st:=rfl
  by_cases c9:(outL (zaE q1.l)).st=9
  ·have ht1:zbT ⟨rid,[q0,q1,q2],b',inb',dr'⟩ 1=(owdB (zaU (zaz ⟨rid,[q0,q1,q2],b',inb',dr'⟩ 1) 1 (zam q1.p)).b 1).foldl (fun q x=>q.onP 1 (zaT x)) ((zaU (zaz ⟨rid,[q0,q1,q2],b',inb',dr'⟩ 1) 1 (zam q1.p)).onP 1 (zaP rid)):=by
    exact Y99
   rw[h0] at ht1
   have hfm:=zbe hf0 1 (zf9 hp.pe)
   have pt:=ziP q1.p hp.pe
   have ct:=zcw rid dr' b' hfn.b inb' q0 ⟨q1.m,outL (zaE q1.l),q1.rd,q1.rest,q1.p,q1.out++(zaE q1.l).out.flatMap flB⟩ q2 hm (zam q1.p)
   obtain⟨r0,r1,r2,hq⟩:=lit3 (zaV ⟨rid,[q0,⟨q1.m,outL (zaE q1.l),q1.rd,q1.rest,q1.p,q1.out++(zaE q1.l).out.flatMap flB⟩,q2],b',inb',dr'⟩ 1 (zam q1.p)) rfl
   rw[hq] at ct ht1 hfm
   clear hq
   dsimp only at ct ht1 hfm
   generalize (zaU ⟨rid,[q0,⟨q1.m,outL (zaE q1.l),q1.rd,q1.rest,q1.p,q1.out++(zaE q1.l).out.flatMap flB⟩,q2],b',inb',dr'⟩ 1 (zam q1.p)).b=b2 at *
   generalize (zaU ⟨rid,[q0,⟨q1.m,outL (zaE q1.l),q1.rd,q1.rest,q1.p,q1.out++(zaE q1.l).out.flatMap flB⟩,q2],b',inb',dr'⟩ 1 (zam q1.p)).inb=inb2 at *
   generalize (zaU ⟨rid,[q0,⟨q1.m,outL (zaE q1.l),q1.rd,q1.rest,q1.p,q1.out++(zaE q1.l).out.flatMap flB⟩,q2],b',inb',dr'⟩ 1 (zam q1.p)).dr=dr2 at *
   have hrp:=hfm.ps r1 (by simp)
   rw[zfh,show (Rt.onP ⟨rid,[r0,r1,r2],b2,inb2,dr2⟩ 1 (zaP rid))=⟨rid,[r0,(zaP rid r1),r2],b2,inb2,dr2⟩ from rfl] at ht1
   rw[zey] at ht1
   have hfo:=(zbp hrp rid).out
   obtain⟨o1,ho1⟩: ∃o1,o1=(zaP rid r1).out:=⟨_,rfl⟩
   rw[<-ho1] at ht1 hfo
   have sy:=zjf r1.p rid
   have hbk:=zeX rid r1.p.who
   generalize zam q1.p=TP at *
   have ptm: ∀s:ByteArray,s.size<=1000->Fn Tryz.prog 61 [.box 0 0,.v (.int .u8 (72:UInt8).toNat),.v (.string s)] (ptM r1 0) (.tup []) (ptM (putP 72 (bs s) r1) 1):=fun s hs=>zc2 r1 72 s (by omega) (by have:=hrp.out;omega)
   simp only[rtM,rtH,zaC,rtP,prQ] at ct
   all_goals ((refine StopCall.fz [9] (xs) ?_;(all_goals refine lv ?_;repeat' first|exact .intro|refine Tw.mk ?_ ?_|(intro h;first|replace h:=h.o|cases h))))
   all_goals (try (exfalso;omega))
   all_goals ((refine StopCall.fz [] (pt) ?_;(all_goals refine lv ?_;repeat' first|exact .intro|refine Tw.mk ?_ ?_|(intro h;first|replace h:=h.o|cases h))))
   all_goals ((refine StopCall.fz zaQ (ct) ?_;(all_goals refine lv ?_;repeat' first|exact .intro|refine Tw.mk ?_ ?_|(intro h;first|replace h:=h.o|cases h))))
   all_goals ((refine StopCall.fz [] (sy) ?_;(all_goals refine lv ?_;repeat' first|exact .intro|refine Tw.mk ?_ ?_|(intro h;first|replace h:=h.o|cases h))))
   all_goals ((refine StopCall.fz [] (hbk) ?_;(all_goals refine lv ?_;repeat' first|exact .intro|refine Tw.mk ?_ ?_|(intro h;first|replace h:=h.o|cases h))))
   all_goals (refine cutK ⟨[(0,.box 0 0),(2,.v (.int .i64 1)),(3,.box 8 0),(13,.arr 1 0 3),(14,.v (.int .i64 3)),(15,.v (.int .i64 1))],rtM ⟨rid,[r0,⟨r1.m,r1.l,r1.rd,r1.rest,r1.p,o1⟩,r2],b2,inb2,dr2⟩ 1⟩ ?_ (fun hy=>?_))
   rotate_left
   ·simp only[rtM,rtH,zaC,rtP,prQ] at hy
    unfold zaP at ho1
    rcases zor rid r1.p.who with he|he
    ·rw[if_pos he] at ho1
     have pm:=ptm (tx (heB rid r1.p.who)) (by show 2<=1000;decide)
     rw[bs_tx] at pm
     rw[show putP 72 (heB rid r1.p.who) r1=⟨r1.m,r1.l,r1.rd,r1.rest,r1.p,o1⟩ from by rw[ho1];unfold putP;split<;>rfl] at pm
     unfold ptM prM at pm
     dsimp only at pm
     simp only[he,if_true]
     (all_goals refine fv ?_;repeat' first|exact .intro|refine Tw.mk ?_ ?_|(intro h;first|replace h:=h.o|cases h))
     all_goals (try (exfalso;omega))
     all_goals ((refine StopCall.fz [8,9,10,11] (pm) ?_;(all_goals refine lv ?_;repeat' first|exact .intro|refine Tw.mk ?_ ?_|(intro h;first|replace h:=h.o|cases h))))
     all_goals exact Y30
    ·exact Y40
   clear xs pt ct sy hbk ptm
   have xo:=zh6 hfm.b 1
   have hsf:=fun x hx=>zn8 hfm.b (p:=1) (x:=x) hx
   have hol:=ziM b2 1
   generalize owdB b2 1=L at *
   simp only[rtM,rtH,zaC,rtP,prQ]
   (all_goals refine fv ?_;repeat' first|exact .intro|refine Tw.mk ?_ ?_|(intro h;first|replace h:=h.o|cases h))
   all_goals ((refine StopCall.fz [2] (xo) ?_;(all_goals refine lv ?_;repeat' first|exact .intro|refine Tw.mk ?_ ?_|(intro h;first|replace h:=h.o|cases h))))
   clear xo
   refine lpG2 (fun (j:Nat) (o:List UInt8)=>⟨[(0,.box 0 0),(3,.box 8 0),(13,.arr 1 0 3),(14,.v (.int .i64 3)),(15,.v (.int .i64 1)),(84,.sl 3 (L.map zaF) none),(85,.v (.int .i64 L.length)),(86,.v (.int .i64 j))],rtM ⟨rid,[r0,⟨r1.m,r1.l,r1.rd,r1.rest,r1.p,o⟩,r2],b2,inb2,dr2⟩ 1⟩) (fun j o=>j<=L.length/\o.length<=100000000+130*j/\o=((L.take j).foldl (fun p x=>zaT x p) ⟨r1.m,r1.l,r1.rd,r1.rest,r1.p,o1⟩).out) (fun j _=>L.length-j) 0 o1 ⟨by omega,by omega,rfl⟩ (by
    simp only[rtM,rtH,zaC,rtP,prQ]
    (refine zaD zaQ ?_;repeat' first|exact .intro|refine Tw.mk ?_ ?_);all_goals (simp;done)) ?_
   rintro j o ⟨hj,hoL,hoo⟩
   by_cases hj':j<L.length
   ·obtain⟨hs0,hs6⟩:=hsf L[j] (List.getElem_mem hj')
    have hstep:(L.take (j+1)).foldl (fun p x=>zaT x p) ⟨r1.m,r1.l,r1.rd,r1.rest,r1.p,o1⟩=zaT L[j] ⟨r1.m,r1.l,r1.rd,r1.rest,r1.p,o⟩:=by
     rw[zaR hj',List.foldl_append]
     show zaT L[j] ((L.take j).foldl (fun p x=>zaT x p) ⟨r1.m,r1.l,r1.rd,r1.rest,r1.p,o1⟩)=_
     rw[zbx,<-hoo]
    have sb:=zgE L[j].1 L[j].2.1 L[j].2.2 (by omega)
    unfold sf at hs0
    rw[hs0,if_pos rfl] at sb
    have hbl:=zfc (c:=L[j].1) (i:=L[j].2.1) (l:=L[j].2.2)
    have hfr:=zef 83 (sbyt L[j].1 L[j].2.1 L[j].2.2)
    by_cases cb:r1.p.both=true
    ·rw[show zaT L[j] ⟨r1.m,r1.l,r1.rd,r1.rest,r1.p,o⟩=putP 83 (sbyt L[j].1 L[j].2.1 L[j].2.2) ⟨r1.m,r1.l,r1.rd,r1.rest,r1.p,o⟩ from if_pos ⟨hs0,cb⟩] at hstep
     have pm:=zc2 ⟨r1.m,r1.l,r1.rd,r1.rest,r1.p,o⟩ 83 (tx (sbyt L[j].1 L[j].2.1 L[j].2.2)) (by rw[tx_size];omega) (by dsimp only;omega)
     rw[bs_tx] at pm
     obtain⟨o2,hp2,ho2⟩: ∃o2,putP 83 (sbyt L[j].1 L[j].2.1 L[j].2.2) ⟨r1.m,r1.l,r1.rd,r1.rest,r1.p,o⟩=⟨r1.m,r1.l,r1.rd,r1.rest,r1.p,o2⟩/\o2.length<=o.length+130:=by
      exact Y67
     rw[hp2] at pm hstep
     unfold ptM prM at pm
     dsimp only at pm
     simp only[rtM,rtH,zaC,rtP,prQ]
     (all_goals refine fv ?_;repeat' first|exact .intro|refine Tw.mk ?_ ?_|(intro h;first|replace h:=h.o|cases h))
     all_goals (try (exfalso;omega))
     all_goals ((refine StopCall.fz [] (sb) ?_;(all_goals refine lv ?_;repeat' first|exact .intro|refine Tw.mk ?_ ?_|(intro h;first|replace h:=h.o|cases h))))
     all_goals (try (exfalso;first|omega|(simp [cb] at *; done)))
     all_goals ((refine StopCall.fz [8,9,10,11] (pm) ?_;(all_goals refine lv ?_;repeat' first|exact .intro|refine Tw.mk ?_ ?_|(intro h;first|replace h:=h.o|cases h))))
     all_goals exact Y51
    ·rw[show zaT L[j] ⟨r1.m,r1.l,r1.rd,r1.rest,r1.p,o⟩=⟨r1.m,r1.l,r1.rd,r1.rest,r1.p,o⟩ from if_neg (fun h=>cb h.2)] at hstep
     exact Y21
   ·have e:j=L.length:=by omega
    subst e
    rw[List.take_length] at hoo
    rw[show (Rt.onP (⟨rid,[r0,⟨r1.m,r1.l,r1.rd,r1.rest,r1.p,o1⟩,r2],b2,inb2,dr2⟩:Rt) 1 fun p=>L.foldl (fun p x=>zaT x p) p)=⟨rid,[r0,⟨r1.m,r1.l,r1.rd,r1.rest,r1.p,o⟩,r2],b2,inb2,dr2⟩ from by rw[hoo];show (⟨rid,[r0,(L.foldl (fun p x=>zaT x p) ⟨r1.m,r1.l,r1.rd,r1.rest,r1.p,o1⟩),r2],b2,inb2,dr2⟩:Rt)=_;rw[zbx]] at ht1
    rw[ht1] at hst hlt hft
    simp only[rtM,rtH,zaC,rtP,prQ]
    (all_goals refine fv ?_;repeat' first|exact .intro|refine Tw.mk ?_ ?_|(intro h;first|replace h:=h.o|cases h))
    all_goals (try (exfalso;omega))
    all_goals (refine za3 2 ⟨rid,[r0,⟨r1.m,r1.l,r1.rd,r1.rest,r1.p,o⟩,r2],b2,inb2,dr2⟩ ⟨by omega,hlt,hft,hst⟩ (by omega) (by
     simp only[rtM,rtH,zaC,rtP,prQ]
     (refine zaD zaQ ?_;repeat' first|exact .intro|refine Tw.mk ?_ ?_)))
  ·have ht1:zbT ⟨rid,[q0,q1,q2],b',inb',dr'⟩ 1=zaU (zaz ⟨rid,[q0,q1,q2],b',inb',dr'⟩ 1) 1 peNo:=by
    unfold zbT
    rw[if_pos (by rw[h0];exact c9)]
   rw[h0] at ht1
   have ct:=zcw rid dr' b' hfn.b inb' q0 ⟨q1.m,outL (zaE q1.l),q1.rd,q1.rest,q1.p,q1.out++(zaE q1.l).out.flatMap flB⟩ q2 hm peNo
   obtain⟨r0,r1,r2,hq⟩:=lit3 (zaV ⟨rid,[q0,⟨q1.m,outL (zaE q1.l),q1.rd,q1.rest,q1.p,q1.out++(zaE q1.l).out.flatMap flB⟩,q2],b',inb',dr'⟩ 1 peNo) rfl
   rw[ht1] at hst hlt hft
   rw[hq] at ct hst hlt hft
   clear hq ht1
   dsimp only at ct hst hlt hft
   generalize (zaU ⟨rid,[q0,⟨q1.m,outL (zaE q1.l),q1.rd,q1.rest,q1.p,q1.out++(zaE q1.l).out.flatMap flB⟩,q2],b',inb',dr'⟩ 1 peNo).b=b2 at *
   generalize (zaU ⟨rid,[q0,⟨q1.m,outL (zaE q1.l),q1.rd,q1.rest,q1.p,q1.out++(zaE q1.l).out.flatMap flB⟩,q2],b',inb',dr'⟩ 1 peNo).inb=inb2 at *
   generalize (zaU ⟨rid,[q0,⟨q1.m,outL (zaE q1.l),q1.rd,q1.rest,q1.p,q1.out++(zaE q1.l).out.flatMap flB⟩,q2],b',inb',dr'⟩ 1 peNo).dr=dr2 at *
   simp only[rtM,rtH,zaC,rtP,prQ,peRow,peNo] at ct
   all_goals ((refine StopCall.fz [9] (xs) ?_;(all_goals refine lv ?_;repeat' first|exact .intro|refine Tw.mk ?_ ?_|(intro h;first|replace h:=h.o|cases h))))
   all_goals (try (exfalso;omega))
   all_goals ((refine StopCall.fz zaQ (ct) ?_;(all_goals refine lv ?_;repeat' first|exact .intro|refine Tw.mk ?_ ?_|(intro h;first|replace h:=h.o|cases h))))
   all_goals (refine za3 2 ⟨rid,[r0,r1,r2],b2,inb2,dr2⟩ ⟨by omega,hlt,(show n+2210*2=n+2210*1+2210 by omega)▸hft,hst⟩ (by omega) (by
    simp only[rtM,rtH,zaC,rtP,prQ]
    (refine zaD zaQ ?_;repeat' first|exact .intro|refine Tw.mk ?_ ?_)))
 ·subst e
  have hp:=hfn.ps q2 (by simp)
  have hst:=zgA hr
  have hlt:=hlk.trans (zcS ⟨rid,[q0,q1,q2],b',inb',dr'⟩ 2)
  have hft:=zd2 hfn (i:=2) (show 2<3 by decide)
  have h0:zaz ⟨rid,[q0,q1,q2],b',inb',dr'⟩ 2=⟨rid,[q0,q1,⟨q2.m,outL (zaE q2.l),q2.rd,q2.rest,q2.p,q2.out++(zaE q2.l).out.flatMap flB⟩],b',inb',dr'⟩:=rfl
  have hf0:=zd6 hfn 2
  rw[h0] at hf0
  have hm: ∀p∈[q0,q1,(⟨q2.m,outL (zaE q2.l),q2.rd,q2.rest,q2.p,q2.out++(zaE q2.l).out.flatMap flB⟩:Pt)],0<=p.m/\p.m<=20:=fun p hx=>(hf0.ps p hx).m
  have ho:=(hf0.ps _ (show (⟨q2.m,outL (zaE q2.l),q2.rd,q2.rest,q2.p,q2.out++(zaE q2.l).out.flatMap flB⟩:Pt)∈[q0,q1,(⟨q2.m,outL (zaE q2.l),q2.rd,q2.rest,q2.p,q2.out++(zaE q2.l).out.flatMap flB⟩:Pt)] by simp)).out
  dsimp only at ho
  have hpo:=hp.out
  have hfk:=zd5 hp.l
  have xt:=zgL q2.l (hp.l.ok.mono (by decide))
  have xs:=zaa (zac q2.l)
  have ft1:=zfg hp.l (by decide)
  have xd1:=zbm (zac q2.l) (ft1.ok.mono (by decide)) 1
  have xd2:=zbm (doL (zac q2.l) 1) ((zdb (e:=1) ft1 (by decide)).ok.mono (by decide)) 0
  have fl:=zbs ⟨q2.m,zaE q2.l,q2.rd,q2.rest,q2.p,q2.out⟩ (by have:=hfk.ok.out;dsimp only;omega) (fun x hx=>by have:=zev hp.l x hx;omega) (by dsimp only;omega)
  have htk:zaE q2.l=if (zac q2.l).st=3 then doL (doL (zac q2.l) 1) 0 else zac q2.l:=rfl
  unfold ptM prM zb2 at fl
  dsimp only at fl
  simp only[rtM,rtH,zaC,rtP,prQ]
  (all_goals refine fv ?_;repeat' first|exact .intro|refine Tw.mk ?_ ?_|(intro h;first|replace h:=h.o|cases h))
  all_goals ((refine StopCall.fz [13] (xt) ?_;(all_goals refine lv ?_;repeat' first|exact .intro|refine Tw.mk ?_ ?_|(intro h;first|replace h:=h.o|cases h))))
  all_goals (refine cutK ⟨[(0,.box 0 0),(2,.v (.int .i64 2)),(3,.box 12 0),(13,.arr 1 0 3),(14,.v (.int .i64 3)),(15,.v (.int .i64 2))],rtM ⟨rid,[q0,q1,⟨q2.m,zaE q2.l,q2.rd,q2.rest,q2.p,q2.out⟩],b',inb',dr'⟩ 1⟩ ?_ (fun hy=>?_))
  rotate_left
  ·simp only[rtM,rtH,zaC,rtP,prQ] at hy
   by_cases c3:(zac q2.l).st=3
   ·rw[if_pos c3] at htk
    rw[htk] at hy
    (all_goals refine fv ?_;repeat' first|exact .intro|refine Tw.mk ?_ ?_|(intro h;first|replace h:=h.o|cases h))
    all_goals ((refine StopCall.fz [13] (xs) ?_;(all_goals refine lv ?_;repeat' first|exact .intro|refine Tw.mk ?_ ?_|(intro h;first|replace h:=h.o|cases h))))
    all_goals (try (exfalso;omega))
    all_goals ((refine StopCall.fz [13] (xd1) ?_;(all_goals refine lv ?_;repeat' first|exact .intro|refine Tw.mk ?_ ?_|(intro h;first|replace h:=h.o|cases h))))
    all_goals ((refine StopCall.fz [13] (xd2) ?_;(all_goals refine lv ?_;repeat' first|exact .intro|refine Tw.mk ?_ ?_|(intro h;first|replace h:=h.o|cases h))))
    all_goals exact Y30
   ·rw[if_neg c3] at htk
    rw[htk] at hy
    (all_goals refine fv ?_;repeat' first|exact .intro|refine Tw.mk ?_ ?_|(intro h;first|replace h:=h.o|cases h))
    all_goals ((refine StopCall.fz [13] (xs) ?_;(all_goals refine lv ?_;repeat' first|exact .intro|refine Tw.mk ?_ ?_|(intro h;first|replace h:=h.o|cases h))))
    all_goals (try (exfalso;omega))
    all_goals exact Y30
  clear xt xd1 xd2 xs htk
  simp only[rtM,rtH,zaC,rtP,prQ]
  (all_goals refine fv ?_;repeat' first|exact .intro|refine Tw.mk ?_ ?_|(intro h;first|replace h:=h.o|cases h))
  all_goals ((refine StopCall.fz [12,13,14,15] (fl) ?_;(all_goals refine lv ?_;repeat' first|exact .intro|refine Tw.mk ?_ ?_|(intro h;first|replace h:=h.o|cases h))))
  clear fl
  have xs:=zaa (outL (zaE q2.l))
  have hst9:(outL (zaE q2.l)).st=(zaE q2.l).st:=rfl
  by_cases c9:(outL (zaE q2.l)).st=9
  ·have ht1:zbT ⟨rid,[q0,q1,q2],b',inb',dr'⟩ 2=(owdB (zaU (zaz ⟨rid,[q0,q1,q2],b',inb',dr'⟩ 2) 2 (zam q2.p)).b 2).foldl (fun q x=>q.onP 2 (zaT x)) ((zaU (zaz ⟨rid,[q0,q1,q2],b',inb',dr'⟩ 2) 2 (zam q2.p)).onP 2 (zaP rid)):=by
    exact Y99
   rw[h0] at ht1
   have hfm:=zbe hf0 2 (zf9 hp.pe)
   have pt:=ziP q2.p hp.pe
   have ct:=zdN rid dr' b' hfn.b inb' q0 q1 ⟨q2.m,outL (zaE q2.l),q2.rd,q2.rest,q2.p,q2.out++(zaE q2.l).out.flatMap flB⟩ hm (zam q2.p)
   obtain⟨r0,r1,r2,hq⟩:=lit3 (zaV ⟨rid,[q0,q1,⟨q2.m,outL (zaE q2.l),q2.rd,q2.rest,q2.p,q2.out++(zaE q2.l).out.flatMap flB⟩],b',inb',dr'⟩ 2 (zam q2.p)) rfl
   rw[hq] at ct ht1 hfm
   clear hq
   dsimp only at ct ht1 hfm
   generalize (zaU ⟨rid,[q0,q1,⟨q2.m,outL (zaE q2.l),q2.rd,q2.rest,q2.p,q2.out++(zaE q2.l).out.flatMap flB⟩],b',inb',dr'⟩ 2 (zam q2.p)).b=b2 at *
   generalize (zaU ⟨rid,[q0,q1,⟨q2.m,outL (zaE q2.l),q2.rd,q2.rest,q2.p,q2.out++(zaE q2.l).out.flatMap flB⟩],b',inb',dr'⟩ 2 (zam q2.p)).inb=inb2 at *
   generalize (zaU ⟨rid,[q0,q1,⟨q2.m,outL (zaE q2.l),q2.rd,q2.rest,q2.p,q2.out++(zaE q2.l).out.flatMap flB⟩],b',inb',dr'⟩ 2 (zam q2.p)).dr=dr2 at *
   have hrp:=hfm.ps r2 (by simp)
   rw[zfh,show (Rt.onP ⟨rid,[r0,r1,r2],b2,inb2,dr2⟩ 2 (zaP rid))=⟨rid,[r0,r1,(zaP rid r2)],b2,inb2,dr2⟩ from rfl] at ht1
   rw[zey] at ht1
   have hfo:=(zbp hrp rid).out
   obtain⟨o1,ho1⟩: ∃o1,o1=(zaP rid r2).out:=⟨_,rfl⟩
   rw[<-ho1] at ht1 hfo
   have sy:=zjf r2.p rid
   have hbk:=zeX rid r2.p.who
   generalize zam q2.p=TP at *
   have ptm: ∀s:ByteArray,s.size<=1000->Fn Tryz.prog 61 [.box 0 0,.v (.int .u8 (72:UInt8).toNat),.v (.string s)] (ptM r2 0) (.tup []) (ptM (putP 72 (bs s) r2) 1):=fun s hs=>zc2 r2 72 s (by omega) (by have:=hrp.out;omega)
   simp only[rtM,rtH,zaC,rtP,prQ] at ct
   all_goals ((refine StopCall.fz [13] (xs) ?_;(all_goals refine lv ?_;repeat' first|exact .intro|refine Tw.mk ?_ ?_|(intro h;first|replace h:=h.o|cases h))))
   all_goals (try (exfalso;omega))
   all_goals ((refine StopCall.fz [] (pt) ?_;(all_goals refine lv ?_;repeat' first|exact .intro|refine Tw.mk ?_ ?_|(intro h;first|replace h:=h.o|cases h))))
   all_goals ((refine StopCall.fz zaQ (ct) ?_;(all_goals refine lv ?_;repeat' first|exact .intro|refine Tw.mk ?_ ?_|(intro h;first|replace h:=h.o|cases h))))
   all_goals ((refine StopCall.fz [] (sy) ?_;(all_goals refine lv ?_;repeat' first|exact .intro|refine Tw.mk ?_ ?_|(intro h;first|replace h:=h.o|cases h))))
   all_goals ((refine StopCall.fz [] (hbk) ?_;(all_goals refine lv ?_;repeat' first|exact .intro|refine Tw.mk ?_ ?_|(intro h;first|replace h:=h.o|cases h))))
   all_goals (refine cutK ⟨[(0,.box 0 0),(2,.v (.int .i64 2)),(3,.box 12 0),(13,.arr 1 0 3),(14,.v (.int .i64 3)),(15,.v (.int .i64 2))],rtM ⟨rid,[r0,r1,⟨r2.m,r2.l,r2.rd,r2.rest,r2.p,o1⟩],b2,inb2,dr2⟩ 1⟩ ?_ (fun hy=>?_))
   rotate_left
   ·simp only[rtM,rtH,zaC,rtP,prQ] at hy
    unfold zaP at ho1
    rcases zor rid r2.p.who with he|he
    ·rw[if_pos he] at ho1
     have pm:=ptm (tx (heB rid r2.p.who)) (by show 2<=1000;decide)
     rw[bs_tx] at pm
     rw[show putP 72 (heB rid r2.p.who) r2=⟨r2.m,r2.l,r2.rd,r2.rest,r2.p,o1⟩ from by rw[ho1];unfold putP;split<;>rfl] at pm
     unfold ptM prM at pm
     dsimp only at pm
     simp only[he,if_true]
     (all_goals refine fv ?_;repeat' first|exact .intro|refine Tw.mk ?_ ?_|(intro h;first|replace h:=h.o|cases h))
     all_goals (try (exfalso;omega))
     all_goals ((refine StopCall.fz [12,13,14,15] (pm) ?_;(all_goals refine lv ?_;repeat' first|exact .intro|refine Tw.mk ?_ ?_|(intro h;first|replace h:=h.o|cases h))))
     all_goals exact Y30
    ·exact Y40
   clear xs pt ct sy hbk ptm
   have xo:=zh6 hfm.b 2
   have hsf:=fun x hx=>zn8 hfm.b (p:=2) (x:=x) hx
   have hol:=ziM b2 2
   generalize owdB b2 2=L at *
   simp only[rtM,rtH,zaC,rtP,prQ]
   (all_goals refine fv ?_;repeat' first|exact .intro|refine Tw.mk ?_ ?_|(intro h;first|replace h:=h.o|cases h))
   all_goals ((refine StopCall.fz [2] (xo) ?_;(all_goals refine lv ?_;repeat' first|exact .intro|refine Tw.mk ?_ ?_|(intro h;first|replace h:=h.o|cases h))))
   clear xo
   refine lpG2 (fun (j:Nat) (o:List UInt8)=>⟨[(0,.box 0 0),(3,.box 12 0),(13,.arr 1 0 3),(14,.v (.int .i64 3)),(15,.v (.int .i64 2)),(84,.sl 3 (L.map zaF) none),(85,.v (.int .i64 L.length)),(86,.v (.int .i64 j))],rtM ⟨rid,[r0,r1,⟨r2.m,r2.l,r2.rd,r2.rest,r2.p,o⟩],b2,inb2,dr2⟩ 1⟩) (fun j o=>j<=L.length/\o.length<=100000000+130*j/\o=((L.take j).foldl (fun p x=>zaT x p) ⟨r2.m,r2.l,r2.rd,r2.rest,r2.p,o1⟩).out) (fun j _=>L.length-j) 0 o1 ⟨by omega,by omega,rfl⟩ (by
    simp only[rtM,rtH,zaC,rtP,prQ]
    (refine zaD zaQ ?_;repeat' first|exact .intro|refine Tw.mk ?_ ?_);all_goals (simp;done)) ?_
   rintro j o ⟨hj,hoL,hoo⟩
   by_cases hj':j<L.length
   ·obtain⟨hs0,hs6⟩:=hsf L[j] (List.getElem_mem hj')
    have hstep:(L.take (j+1)).foldl (fun p x=>zaT x p) ⟨r2.m,r2.l,r2.rd,r2.rest,r2.p,o1⟩=zaT L[j] ⟨r2.m,r2.l,r2.rd,r2.rest,r2.p,o⟩:=by
     rw[zaR hj',List.foldl_append]
     show zaT L[j] ((L.take j).foldl (fun p x=>zaT x p) ⟨r2.m,r2.l,r2.rd,r2.rest,r2.p,o1⟩)=_
     rw[zbx,<-hoo]
    have sb:=zgE L[j].1 L[j].2.1 L[j].2.2 (by omega)
    unfold sf at hs0
    rw[hs0,if_pos rfl] at sb
    have hbl:=zfc (c:=L[j].1) (i:=L[j].2.1) (l:=L[j].2.2)
    have hfr:=zef 83 (sbyt L[j].1 L[j].2.1 L[j].2.2)
    by_cases cb:r2.p.both=true
    ·rw[show zaT L[j] ⟨r2.m,r2.l,r2.rd,r2.rest,r2.p,o⟩=putP 83 (sbyt L[j].1 L[j].2.1 L[j].2.2) ⟨r2.m,r2.l,r2.rd,r2.rest,r2.p,o⟩ from if_pos ⟨hs0,cb⟩] at hstep
     have pm:=zc2 ⟨r2.m,r2.l,r2.rd,r2.rest,r2.p,o⟩ 83 (tx (sbyt L[j].1 L[j].2.1 L[j].2.2)) (by rw[tx_size];omega) (by dsimp only;omega)
     rw[bs_tx] at pm
     obtain⟨o2,hp2,ho2⟩: ∃o2,putP 83 (sbyt L[j].1 L[j].2.1 L[j].2.2) ⟨r2.m,r2.l,r2.rd,r2.rest,r2.p,o⟩=⟨r2.m,r2.l,r2.rd,r2.rest,r2.p,o2⟩/\o2.length<=o.length+130:=by
      exact Y67
     rw[hp2] at pm hstep
     unfold ptM prM at pm
     dsimp only at pm
     simp only[rtM,rtH,zaC,rtP,prQ]
     (all_goals refine fv ?_;repeat' first|exact .intro|refine Tw.mk ?_ ?_|(intro h;first|replace h:=h.o|cases h))
     all_goals (try (exfalso;omega))
     all_goals ((refine StopCall.fz [] (sb) ?_;(all_goals refine lv ?_;repeat' first|exact .intro|refine Tw.mk ?_ ?_|(intro h;first|replace h:=h.o|cases h))))
     all_goals (try (exfalso;first|omega|(simp [cb] at *; done)))
     all_goals ((refine StopCall.fz [12,13,14,15] (pm) ?_;(all_goals refine lv ?_;repeat' first|exact .intro|refine Tw.mk ?_ ?_|(intro h;first|replace h:=h.o|cases h))))
     all_goals exact Y51
    ·rw[show zaT L[j] ⟨r2.m,r2.l,r2.rd,r2.rest,r2.p,o⟩=⟨r2.m,r2.l,r2.rd,r2.rest,r2.p,o⟩ from if_neg (fun h=>cb h.2)] at hstep
     exact Y21
   ·have e:j=L.length:=by omega
    subst e
    rw[List.take_length] at hoo
    rw[show (Rt.onP (⟨rid,[r0,r1,⟨r2.m,r2.l,r2.rd,r2.rest,r2.p,o1⟩],b2,inb2,dr2⟩:Rt) 2 fun p=>L.foldl (fun p x=>zaT x p) p)=⟨rid,[r0,r1,⟨r2.m,r2.l,r2.rd,r2.rest,r2.p,o⟩],b2,inb2,dr2⟩ from by rw[hoo];show (⟨rid,[r0,r1,(L.foldl (fun p x=>zaT x p) ⟨r2.m,r2.l,r2.rd,r2.rest,r2.p,o1⟩)],b2,inb2,dr2⟩:Rt)=_;rw[zbx]] at ht1
    rw[ht1] at hst hlt hft
    simp only[rtM,rtH,zaC,rtP,prQ]
    (all_goals refine fv ?_;repeat' first|exact .intro|refine Tw.mk ?_ ?_|(intro h;first|replace h:=h.o|cases h))
    all_goals (try (exfalso;omega))
    all_goals (refine za3 3 ⟨rid,[r0,r1,⟨r2.m,r2.l,r2.rd,r2.rest,r2.p,o⟩],b2,inb2,dr2⟩ ⟨by omega,hlt,hft,hst⟩ (by omega) (by
     simp only[rtM,rtH,zaC,rtP,prQ]
     (refine zaD zaQ ?_;repeat' first|exact .intro|refine Tw.mk ?_ ?_)))
  ·have ht1:zbT ⟨rid,[q0,q1,q2],b',inb',dr'⟩ 2=zaU (zaz ⟨rid,[q0,q1,q2],b',inb',dr'⟩ 2) 2 peNo:=by
    unfold zbT
    rw[if_pos (by rw[h0];exact c9)]
   rw[h0] at ht1
   have ct:=zdN rid dr' b' hfn.b inb' q0 q1 ⟨q2.m,outL (zaE q2.l),q2.rd,q2.rest,q2.p,q2.out++(zaE q2.l).out.flatMap flB⟩ hm peNo
   obtain⟨r0,r1,r2,hq⟩:=lit3 (zaV ⟨rid,[q0,q1,⟨q2.m,outL (zaE q2.l),q2.rd,q2.rest,q2.p,q2.out++(zaE q2.l).out.flatMap flB⟩],b',inb',dr'⟩ 2 peNo) rfl
   rw[ht1] at hst hlt hft
   rw[hq] at ct hst hlt hft
   clear hq ht1
   dsimp only at ct hst hlt hft
   generalize (zaU ⟨rid,[q0,q1,⟨q2.m,outL (zaE q2.l),q2.rd,q2.rest,q2.p,q2.out++(zaE q2.l).out.flatMap flB⟩],b',inb',dr'⟩ 2 peNo).b=b2 at *
   generalize (zaU ⟨rid,[q0,q1,⟨q2.m,outL (zaE q2.l),q2.rd,q2.rest,q2.p,q2.out++(zaE q2.l).out.flatMap flB⟩],b',inb',dr'⟩ 2 peNo).inb=inb2 at *
   generalize (zaU ⟨rid,[q0,q1,⟨q2.m,outL (zaE q2.l),q2.rd,q2.rest,q2.p,q2.out++(zaE q2.l).out.flatMap flB⟩],b',inb',dr'⟩ 2 peNo).dr=dr2 at *
   simp only[rtM,rtH,zaC,rtP,prQ,peRow,peNo] at ct
   all_goals ((refine StopCall.fz [13] (xs) ?_;(all_goals refine lv ?_;repeat' first|exact .intro|refine Tw.mk ?_ ?_|(intro h;first|replace h:=h.o|cases h))))
   all_goals (try (exfalso;omega))
   all_goals ((refine StopCall.fz zaQ (ct) ?_;(all_goals refine lv ?_;repeat' first|exact .intro|refine Tw.mk ?_ ?_|(intro h;first|replace h:=h.o|cases h))))
   all_goals (refine za3 3 ⟨rid,[r0,r1,r2],b2,inb2,dr2⟩ ⟨by omega,hlt,(show n+2210*3=n+2210*2+2210 by omega)▸hft,hst⟩ (by omega) (by
    simp only[rtM,rtH,zaC,rtP,prQ]
    (refine zaD zaQ ?_;repeat' first|exact .intro|refine Tw.mk ?_ ?_)))
 ·subst e
  rw[<-hr]
  simp only[rtM,rtH,zaC,rtP,prQ]
  (all_goals refine gv ?_;repeat' first|exact .intro|refine Tw.mk ?_ ?_|(intro h;first|replace h:=h.o|cases h))
  all_goals (try (exfalso;omega))
  all_goals exact Y1
end Go.Proofs.YtimfnpjcedjmiadGreat
