/- Lemmas. -/
import Derived.Test.YtimfnpjcedjmiadGreatK22
set_option maxRecDepth 100000
set_option maxHeartbeats 64000000
set_option linter.all false
namespace Go.Proofs.YtimfnpjcedjmiadGreat
open Go.RowKit
theorem zfI{l:Lk}(h:l.fit 0): ∀x∈(zaD l).out,x.o.length<=10:=by
 have e:l.out=[]:=List.eq_nil_of_length_eq_zero (by have:=h.ok.out;omega);have h1: ∀x∈(zag l).out,x.o.length<=10:=λx hx=>by
  rcases zpG x hx with g|g
  .rw[e] at g;cases g
  .exact g
 unfold zaD;split
 .intro x hx;rcases zke x hx with g|g
  .rcases zke x g with g|g
   .exact h1 x g
   .exact g
  .exact g
 .exact h1
theorem zfW(id:Int)(p:Pt):zaQ id p={ p with out:=(zaQ id p).out }:=by
 unfold zaQ putP;split
 .split<;>rfl
 .rfl
theorem owe_form(x:St3)(p:Pt):zaS x p={ p with out:=(zaS x p).out }:=by
 unfold zaS putP;split
 .split<;>rfl
 .rfl
theorem zcG: ∀(l:List St3) (p:Pt),l.foldl (λp x=>zaS x p) p={ p with out:=(l.foldl (λp x=>zaS x p) p).out }
 |[],p=>rfl
 |x::l,p=>by
  rw[List.foldl_cons,zcG l,owe_form]
theorem zfu{i:Nat}: ∀(l:List St3) (r:Rt),l.foldl (λq x=>q.onP i (zaS x)) r=r.onP i λp=>l.foldl (λp x=>zaS x p) p
 |[],r=>by
  show r={ r with ps:=r.ps.modify i id };rw[List.modify_id]
 |x::l,r=>by
  rw[List.foldl_cons,zfu l];unfold Rt.onP;simp only[List.modify_modify_eq];rfl
theorem zqJ{b:Ba}(hb:b.ok){p:Int}{x:St3}(hx:x∈owdB b p):sf x=0/\x.2.2.length<=6:=by
 unfold owdB at hx;have h:=(List.mem_filter.1 hx).1;unfold stsB at h;obtain⟨n,_,hn⟩:=List.mem_filterMap.1 h;have:=(hb.kn n x hn).2;exact⟨this,(zaN this).2.2.2.2.1⟩
theorem zpw(a b:Int):heE a b=0\/heE a b=1:=by unfold heE;split<;>simp
theorem zgw{k:Nat}{R0 r:Rt}(h:r=(List.range k).foldl zbX R0):zbX r k=(List.range (k+1)).foldl zbX R0:=by
 rw[List.range_succ,List.foldl_append,<-h];rfl
theorem tick_ok3(n d:Nat)(hn:n<=8000000)(id dr:Int)(b:Ba)(inb:List Mg)(p0 p1 p2:Pt)(hF:Rt.fine n d ⟨id,[p0,p1,p2],b,inb,dr⟩):Fn Tryz.prog 44 [.box 0 0] (rtM ⟨id,[p0,p1,p2],b,inb,dr⟩ 0) (.tup []) (rtM (zch ⟨id,[p0,p1,p2],b,inb,dr⟩) 1):=by
 rw[show zch ⟨id,[p0,p1,p2],b,inb,dr⟩=(List.range 3).foldl zbX ⟨id,[p0,p1,p2],b,inb,dr⟩ from rfl];refine foP zaA (tickPl) [] [7,14] Tryz.func44 Tryz.ntmps44 Tryz.results44 ?_;simp only[rtM,rtH,zaE,rtP,prQ];(all_goals refine gv ?_;repeat' first|exact .intro|refine Tw.mk ?_ ?_|(intro h;first|replace h:=h.o|cases h))
 refine lpG2 (λ(k:Nat) (r:Rt)=>⟨[(0,.box 0 0),(13,.arr 1 0 3),(14,.v (.int .i64 3)),(15,.v (.int .i64 k))],rtM r 1⟩) (λk r=>k<=3/\Like ⟨id,[p0,p1,p2],b,inb,dr⟩ r/\r.fine (n+2210*k) d/\r=(List.range k).foldl zbX ⟨id,[p0,p1,p2],b,inb,dr⟩) (λk _=>3-k) 0 ⟨id,[p0,p1,p2],b,inb,dr⟩ ⟨by omega,Like.refl _,hF,rfl⟩ (by
  simp only[rtM,rtH,zaE,rtP,prQ];(refine zaC zaX ?_;repeat' first|exact .intro|refine Tw.mk ?_ ?_)) ?_
 rintro k r ⟨hk,hlk,hfn,hr⟩;obtain⟨rid,rps,b',inb',dr'⟩:=r;have hlk2:=hlk;obtain⟨h1,h2⟩:=hlk2;dsimp only at h1 h2;obtain⟨q0,q1,q2,rfl⟩:=len3 h2;subst h1;refine orN3 hk (λe=>?_) (λe=>?_) (λe=>?_) (λe=>?_)
 .subst e;have hp:=hfn.ps q0 (by simp);have hst:=zgw hr;have hlt:=hlk.trans (zc3 ⟨rid,[q0,q1,q2],b',inb',dr'⟩ 0);have hft:=zdn hfn (i:=0) (show 0<3 by decide);have h0:zas ⟨rid,[q0,q1,q2],b',inb',dr'⟩ 0=⟨rid,[⟨q0.m,outL (zaD q0.l),q0.rd,q0.rest,q0.p,q0.out++(zaD q0.l).out.flatMap flB⟩,q1,q2],b',inb',dr'⟩:=rfl;have hf0:=zdo hfn 0;rw[h0] at hf0;have hm: ∀p∈[(⟨q0.m,outL (zaD q0.l),q0.rd,q0.rest,q0.p,q0.out++(zaD q0.l).out.flatMap flB⟩:Pt),q1,q2],0<=p.m/\p.m<=20:=λp hx=>(hf0.ps p hx).m;have ho:=(hf0.ps _ (show (⟨q0.m,outL (zaD q0.l),q0.rd,q0.rest,q0.p,q0.out++(zaD q0.l).out.flatMap flB⟩:Pt)∈[(⟨q0.m,outL (zaD q0.l),q0.rd,q0.rest,q0.p,q0.out++(zaD q0.l).out.flatMap flB⟩:Pt),q1,q2] by simp)).out;dsimp only at ho;have hpo:=hp.out;have hfk:=zdd hp.l;have xt:=zgx q0.l (hp.l.ok.mono (by decide));have xs:=zbC (zag q0.l);have ft1:=zfw hp.l (by decide);have xd1:=zbx (zag q0.l) (ft1.ok.mono (by decide)) 1;have xd2:=zbx (doL (zag q0.l) 1) ((zdv (e:=1) ft1 (by decide)).ok.mono (by decide)) 0;have fl:=zcB ⟨q0.m,zaD q0.l,q0.rd,q0.rest,q0.p,q0.out⟩ (by have:=hfk.ok.out;dsimp only;omega) (λx hx=>by have:=zfI hp.l x hx;omega) (by dsimp only;omega);have htk:zaD q0.l=if (zag q0.l).st=3 then doL (doL (zag q0.l) 1) 0 else zag q0.l:=rfl
  unfold ptM prM zbE at fl;dsimp only at fl;simp only[rtM,rtH,zaE,rtP,prQ];(all_goals refine fv ?_;repeat' first|exact .intro|refine Tw.mk ?_ ?_|(intro h;first|replace h:=h.o|cases h))
  all_goals ((refine StopCall.fz [5] (xt) ?_;(all_goals refine lv ?_;repeat' first|exact .intro|refine Tw.mk ?_ ?_|(intro h;first|replace h:=h.o|cases h))))
  all_goals (refine cutK ⟨[(0,.box 0 0),(2,.v (.int .i64 0)),(3,.box 4 0),(13,.arr 1 0 3),(14,.v (.int .i64 3)),(15,.v (.int .i64 0))],rtM ⟨rid,[⟨q0.m,zaD q0.l,q0.rd,q0.rest,q0.p,q0.out⟩,q1,q2],b',inb',dr'⟩ 1⟩ ?_ (λhy=>?_))
  rotate_left
  .simp only[rtM,rtH,zaE,rtP,prQ] at hy;by_cases c3:(zag q0.l).st=3
   .rw[if_pos c3] at htk;rw[htk] at hy;(all_goals refine fv ?_;repeat' first|exact .intro|refine Tw.mk ?_ ?_|(intro h;first|replace h:=h.o|cases h))
    all_goals ((refine StopCall.fz [5] (xs) ?_;(all_goals refine lv ?_;repeat' first|exact .intro|refine Tw.mk ?_ ?_|(intro h;first|replace h:=h.o|cases h))))
    all_goals (try (exfalso;omega))
    all_goals ((refine StopCall.fz [5] (xd1) ?_;(all_goals refine lv ?_;repeat' first|exact .intro|refine Tw.mk ?_ ?_|(intro h;first|replace h:=h.o|cases h))))
    all_goals ((refine StopCall.fz [5] (xd2) ?_;(all_goals refine lv ?_;repeat' first|exact .intro|refine Tw.mk ?_ ?_|(intro h;first|replace h:=h.o|cases h))))
    all_goals exact Y29
   .rw[if_neg c3] at htk;rw[htk] at hy;(all_goals refine fv ?_;repeat' first|exact .intro|refine Tw.mk ?_ ?_|(intro h;first|replace h:=h.o|cases h))
    all_goals ((refine StopCall.fz [5] (xs) ?_;(all_goals refine lv ?_;repeat' first|exact .intro|refine Tw.mk ?_ ?_|(intro h;first|replace h:=h.o|cases h))))
    all_goals (try (exfalso;omega))
    all_goals exact Y29
  clear xt xd1 xd2 xs htk;simp only[rtM,rtH,zaE,rtP,prQ];(all_goals refine fv ?_;repeat' first|exact .intro|refine Tw.mk ?_ ?_|(intro h;first|replace h:=h.o|cases h))
  all_goals ((refine StopCall.fz [4,5,6,7] (fl) ?_;(all_goals refine lv ?_;repeat' first|exact .intro|refine Tw.mk ?_ ?_|(intro h;first|replace h:=h.o|cases h))))
  clear fl;have xs:=zbC (outL (zaD q0.l));have hst9:(outL (zaD q0.l)).st=(zaD q0.l).st:=rfl;by_cases c9:(outL (zaD q0.l)).st=9
  .have ht1:zbX ⟨rid,[q0,q1,q2],b',inb',dr'⟩ 0=(owdB (zaV (zas ⟨rid,[q0,q1,q2],b',inb',dr'⟩ 0) 0 (zbD q0.p)).b 0).foldl (λq x=>q.onP 0 (zaS x)) ((zaV (zas ⟨rid,[q0,q1,q2],b',inb',dr'⟩ 0) 0 (zbD q0.p)).onP 0 (zaQ rid)):=by
    exact Y97
   rw[h0] at ht1;have hfm:=zbr hf0 0 (zgA hp.pe);have pt:=zhu q0.p hp.pe;have ct:=zdZ rid dr' b' hfn.b inb' ⟨q0.m,outL (zaD q0.l),q0.rd,q0.rest,q0.p,q0.out++(zaD q0.l).out.flatMap flB⟩ q1 q2 hm (zbD q0.p);obtain⟨r0,r1,r2,hq⟩:=lit3 (zaW ⟨rid,[⟨q0.m,outL (zaD q0.l),q0.rd,q0.rest,q0.p,q0.out++(zaD q0.l).out.flatMap flB⟩,q1,q2],b',inb',dr'⟩ 0 (zbD q0.p)) rfl;rw[hq] at ct ht1 hfm;clear hq;dsimp only at ct ht1 hfm;generalize (zaV ⟨rid,[⟨q0.m,outL (zaD q0.l),q0.rd,q0.rest,q0.p,q0.out++(zaD q0.l).out.flatMap flB⟩,q1,q2],b',inb',dr'⟩ 0 (zbD q0.p)).b=b2 at *
   generalize (zaV ⟨rid,[⟨q0.m,outL (zaD q0.l),q0.rd,q0.rest,q0.p,q0.out++(zaD q0.l).out.flatMap flB⟩,q1,q2],b',inb',dr'⟩ 0 (zbD q0.p)).inb=inb2 at *
   generalize (zaV ⟨rid,[⟨q0.m,outL (zaD q0.l),q0.rd,q0.rest,q0.p,q0.out++(zaD q0.l).out.flatMap flB⟩,q1,q2],b',inb',dr'⟩ 0 (zbD q0.p)).dr=dr2 at *
   have hrp:=hfm.ps r0 (by simp);rw[zfu,show (Rt.onP ⟨rid,[r0,r1,r2],b2,inb2,dr2⟩ 0 (zaQ rid))=⟨rid,[(zaQ rid r0),r1,r2],b2,inb2,dr2⟩ from rfl] at ht1;rw[zfW] at ht1;have hfo:=(zbz hrp rid).out;obtain⟨o1,ho1⟩: ∃o1,o1=(zaQ rid r0).out:=⟨_,rfl⟩;rw[<-ho1] at ht1 hfo;have sy:=zlO r0.p rid;have hbk:=zet rid r0.p.who;generalize zbD q0.p=TP at *
   have ptm: ∀s:ByteArray,s.size<=1000->Fn Tryz.prog 61 [.box 0 0,.v (.int .u8 (72:UInt8).toNat),.v (.string s)] (ptM r0 0) (.tup []) (ptM (putP 72 (bs s) r0) 1):=λs hs=>zcf r0 72 s (by omega) (by have:=hrp.out;omega);simp only[rtM,rtH,zaE,rtP,prQ] at ct;all_goals ((refine StopCall.fz [5] (xs) ?_;(all_goals refine lv ?_;repeat' first|exact .intro|refine Tw.mk ?_ ?_|(intro h;first|replace h:=h.o|cases h))))
   all_goals (try (exfalso;omega))
   all_goals ((refine StopCall.fz [] (pt) ?_;(all_goals refine lv ?_;repeat' first|exact .intro|refine Tw.mk ?_ ?_|(intro h;first|replace h:=h.o|cases h))))
   all_goals ((refine StopCall.fz zaX (ct) ?_;(all_goals refine lv ?_;repeat' first|exact .intro|refine Tw.mk ?_ ?_|(intro h;first|replace h:=h.o|cases h))))
   all_goals ((refine StopCall.fz [] (sy) ?_;(all_goals refine lv ?_;repeat' first|exact .intro|refine Tw.mk ?_ ?_|(intro h;first|replace h:=h.o|cases h))))
   all_goals ((refine StopCall.fz [] (hbk) ?_;(all_goals refine lv ?_;repeat' first|exact .intro|refine Tw.mk ?_ ?_|(intro h;first|replace h:=h.o|cases h))))
   all_goals (refine cutK ⟨[(0,.box 0 0),(2,.v (.int .i64 0)),(3,.box 4 0),(13,.arr 1 0 3),(14,.v (.int .i64 3)),(15,.v (.int .i64 0))],rtM ⟨rid,[⟨r0.m,r0.l,r0.rd,r0.rest,r0.p,o1⟩,r1,r2],b2,inb2,dr2⟩ 1⟩ ?_ (λhy=>?_))
   rotate_left
   .simp only[rtM,rtH,zaE,rtP,prQ] at hy;unfold zaQ at ho1;rcases zpw rid r0.p.who with he|he
    .rw[if_pos he] at ho1;have pm:=ptm (tx (heB rid r0.p.who)) (by show 2<=1000;decide);rw[bs_tx] at pm;rw[show putP 72 (heB rid r0.p.who) r0=⟨r0.m,r0.l,r0.rd,r0.rest,r0.p,o1⟩ from by rw[ho1];unfold putP;split<;>rfl] at pm;unfold ptM prM at pm;dsimp only at pm;simp only[he,if_true];(all_goals refine fv ?_;repeat' first|exact .intro|refine Tw.mk ?_ ?_|(intro h;first|replace h:=h.o|cases h))
     all_goals (try (exfalso;omega))
     all_goals ((refine StopCall.fz [4,5,6,7] (pm) ?_;(all_goals refine lv ?_;repeat' first|exact .intro|refine Tw.mk ?_ ?_|(intro h;first|replace h:=h.o|cases h))))
     all_goals exact Y29
    .exact Y38
   clear xs pt ct sy hbk ptm;have xo:=zi2 hfm.b 0;have hsf:=λx hx=>zqJ hfm.b (p:=0) (x:=x) hx;have hol:=ziD b2 0;generalize owdB b2 0=L at *
   simp only[rtM,rtH,zaE,rtP,prQ];(all_goals refine fv ?_;repeat' first|exact .intro|refine Tw.mk ?_ ?_|(intro h;first|replace h:=h.o|cases h))
   all_goals ((refine StopCall.fz [2] (xo) ?_;(all_goals refine lv ?_;repeat' first|exact .intro|refine Tw.mk ?_ ?_|(intro h;first|replace h:=h.o|cases h))))
   clear xo;refine lpG2 (λ(j:Nat) (o:List UInt8)=>⟨[(0,.box 0 0),(3,.box 4 0),(13,.arr 1 0 3),(14,.v (.int .i64 3)),(15,.v (.int .i64 0)),(84,.sl 3 (L.map zaF) none),(85,.v (.int .i64 L.length)),(86,.v (.int .i64 j))],rtM ⟨rid,[⟨r0.m,r0.l,r0.rd,r0.rest,r0.p,o⟩,r1,r2],b2,inb2,dr2⟩ 1⟩) (λj o=>j<=L.length/\o.length<=100000000+130*j/\o=((L.take j).foldl (λp x=>zaS x p) ⟨r0.m,r0.l,r0.rd,r0.rest,r0.p,o1⟩).out) (λj _=>L.length-j) 0 o1 ⟨by omega,by omega,rfl⟩ (by
    simp only[rtM,rtH,zaE,rtP,prQ];(refine zaC zaX ?_;repeat' first|exact .intro|refine Tw.mk ?_ ?_);all_goals (simp;done)) ?_
   rintro j o ⟨hj,hoL,hoo⟩;by_cases hj':j<L.length
   .obtain⟨hs0,hs6⟩:=hsf L[j] (List.getElem_mem hj');have hstep:(L.take (j+1)).foldl (λp x=>zaS x p) ⟨r0.m,r0.l,r0.rd,r0.rest,r0.p,o1⟩=zaS L[j] ⟨r0.m,r0.l,r0.rd,r0.rest,r0.p,o⟩:=by
     rw[zaT hj',List.foldl_append];show zaS L[j] ((L.take j).foldl (λp x=>zaS x p) ⟨r0.m,r0.l,r0.rd,r0.rest,r0.p,o1⟩)=_;rw[zcG,<-hoo]
    have sb:=zgv L[j].1 L[j].2.1 L[j].2.2 (by omega);unfold sf at hs0;rw[hs0,if_pos rfl] at sb;have hbl:=zfx (c:=L[j].1) (i:=L[j].2.1) (l:=L[j].2.2);have hfr:=zew 83 (sbyt L[j].1 L[j].2.1 L[j].2.2);by_cases cb:r0.p.both=true
    .rw[show zaS L[j] ⟨r0.m,r0.l,r0.rd,r0.rest,r0.p,o⟩=putP 83 (sbyt L[j].1 L[j].2.1 L[j].2.2) ⟨r0.m,r0.l,r0.rd,r0.rest,r0.p,o⟩ from if_pos ⟨hs0,cb⟩] at hstep;have pm:=zcf ⟨r0.m,r0.l,r0.rd,r0.rest,r0.p,o⟩ 83 (tx (sbyt L[j].1 L[j].2.1 L[j].2.2)) (by rw[tx_size];omega) (by dsimp only;omega);rw[bs_tx] at pm;obtain⟨o2,hp2,ho2⟩: ∃o2,putP 83 (sbyt L[j].1 L[j].2.1 L[j].2.2) ⟨r0.m,r0.l,r0.rd,r0.rest,r0.p,o⟩=⟨r0.m,r0.l,r0.rd,r0.rest,r0.p,o2⟩/\o2.length<=o.length+130:=by
      exact Y64
     rw[hp2] at pm hstep;unfold ptM prM at pm;dsimp only at pm;simp only[rtM,rtH,zaE,rtP,prQ];(all_goals refine fv ?_;repeat' first|exact .intro|refine Tw.mk ?_ ?_|(intro h;first|replace h:=h.o|cases h))
     all_goals (try (exfalso;omega))
     all_goals ((refine StopCall.fz [] (sb) ?_;(all_goals refine lv ?_;repeat' first|exact .intro|refine Tw.mk ?_ ?_|(intro h;first|replace h:=h.o|cases h))))
     all_goals (try (exfalso;first|omega|(simp [cb] at *; done)))
     all_goals ((refine StopCall.fz [4,5,6,7] (pm) ?_;(all_goals refine lv ?_;repeat' first|exact .intro|refine Tw.mk ?_ ?_|(intro h;first|replace h:=h.o|cases h))))
     all_goals exact Y49
    .rw[show zaS L[j] ⟨r0.m,r0.l,r0.rd,r0.rest,r0.p,o⟩=⟨r0.m,r0.l,r0.rd,r0.rest,r0.p,o⟩ from if_neg (λh=>cb h.2)] at hstep;exact Y21
   .have e:j=L.length:=by omega
    subst e;rw[List.take_length] at hoo;rw[show (Rt.onP (⟨rid,[⟨r0.m,r0.l,r0.rd,r0.rest,r0.p,o1⟩,r1,r2],b2,inb2,dr2⟩:Rt) 0 λp=>L.foldl (λp x=>zaS x p) p)=⟨rid,[⟨r0.m,r0.l,r0.rd,r0.rest,r0.p,o⟩,r1,r2],b2,inb2,dr2⟩ from by rw[hoo];show (⟨rid,[(L.foldl (λp x=>zaS x p) ⟨r0.m,r0.l,r0.rd,r0.rest,r0.p,o1⟩),r1,r2],b2,inb2,dr2⟩:Rt)=_;rw[zcG]] at ht1;rw[ht1] at hst hlt hft;simp only[rtM,rtH,zaE,rtP,prQ];(all_goals refine fv ?_;repeat' first|exact .intro|refine Tw.mk ?_ ?_|(intro h;first|replace h:=h.o|cases h))
    all_goals (try (exfalso;omega))
    all_goals (refine za3 1 ⟨rid,[⟨r0.m,r0.l,r0.rd,r0.rest,r0.p,o⟩,r1,r2],b2,inb2,dr2⟩ ⟨by omega,hlt,hft,hst⟩ (by omega) (by
     simp only[rtM,rtH,zaE,rtP,prQ];(refine zaC zaX ?_;repeat' first|exact .intro|refine Tw.mk ?_ ?_)))
  .have ht1:zbX ⟨rid,[q0,q1,q2],b',inb',dr'⟩ 0=zaV (zas ⟨rid,[q0,q1,q2],b',inb',dr'⟩ 0) 0 peNo:=by
    unfold zbX;rw[if_pos (by rw[h0];exact c9)]
   rw[h0] at ht1;have ct:=zdZ rid dr' b' hfn.b inb' ⟨q0.m,outL (zaD q0.l),q0.rd,q0.rest,q0.p,q0.out++(zaD q0.l).out.flatMap flB⟩ q1 q2 hm peNo;obtain⟨r0,r1,r2,hq⟩:=lit3 (zaW ⟨rid,[⟨q0.m,outL (zaD q0.l),q0.rd,q0.rest,q0.p,q0.out++(zaD q0.l).out.flatMap flB⟩,q1,q2],b',inb',dr'⟩ 0 peNo) rfl;rw[ht1] at hst hlt hft;rw[hq] at ct hst hlt hft;clear hq ht1;dsimp only at ct hst hlt hft;generalize (zaV ⟨rid,[⟨q0.m,outL (zaD q0.l),q0.rd,q0.rest,q0.p,q0.out++(zaD q0.l).out.flatMap flB⟩,q1,q2],b',inb',dr'⟩ 0 peNo).b=b2 at *
   generalize (zaV ⟨rid,[⟨q0.m,outL (zaD q0.l),q0.rd,q0.rest,q0.p,q0.out++(zaD q0.l).out.flatMap flB⟩,q1,q2],b',inb',dr'⟩ 0 peNo).inb=inb2 at *
   generalize (zaV ⟨rid,[⟨q0.m,outL (zaD q0.l),q0.rd,q0.rest,q0.p,q0.out++(zaD q0.l).out.flatMap flB⟩,q1,q2],b',inb',dr'⟩ 0 peNo).dr=dr2 at *
   simp only[rtM,rtH,zaE,rtP,prQ,peRow,peNo] at ct;all_goals ((refine StopCall.fz [5] (xs) ?_;(all_goals refine lv ?_;repeat' first|exact .intro|refine Tw.mk ?_ ?_|(intro h;first|replace h:=h.o|cases h))))
   all_goals (try (exfalso;omega))
   all_goals ((refine StopCall.fz zaX (ct) ?_;(all_goals refine lv ?_;repeat' first|exact .intro|refine Tw.mk ?_ ?_|(intro h;first|replace h:=h.o|cases h))))
   all_goals (refine za3 1 ⟨rid,[r0,r1,r2],b2,inb2,dr2⟩ ⟨by omega,hlt,(show n+2210*1=n+2210*0+2210 by omega)▸hft,hst⟩ (by omega) (by
    simp only[rtM,rtH,zaE,rtP,prQ];(refine zaC zaX ?_;repeat' first|exact .intro|refine Tw.mk ?_ ?_)))
 .subst e;have hp:=hfn.ps q1 (by simp);have hst:=zgw hr;have hlt:=hlk.trans (zc3 ⟨rid,[q0,q1,q2],b',inb',dr'⟩ 1);have hft:=zdn hfn (i:=1) (show 1<3 by decide);have h0:zas ⟨rid,[q0,q1,q2],b',inb',dr'⟩ 1=⟨rid,[q0,⟨q1.m,outL (zaD q1.l),q1.rd,q1.rest,q1.p,q1.out++(zaD q1.l).out.flatMap flB⟩,q2],b',inb',dr'⟩:=rfl;have hf0:=zdo hfn 1;rw[h0] at hf0;have hm: ∀p∈[q0,(⟨q1.m,outL (zaD q1.l),q1.rd,q1.rest,q1.p,q1.out++(zaD q1.l).out.flatMap flB⟩:Pt),q2],0<=p.m/\p.m<=20:=λp hx=>(hf0.ps p hx).m;have ho:=(hf0.ps _ (show (⟨q1.m,outL (zaD q1.l),q1.rd,q1.rest,q1.p,q1.out++(zaD q1.l).out.flatMap flB⟩:Pt)∈[q0,(⟨q1.m,outL (zaD q1.l),q1.rd,q1.rest,q1.p,q1.out++(zaD q1.l).out.flatMap flB⟩:Pt),q2] by simp)).out;dsimp only at ho;have hpo:=hp.out;have hfk:=zdd hp.l;have xt:=zgx q1.l (hp.l.ok.mono (by decide));have xs:=zbC (zag q1.l);have ft1:=zfw hp.l (by decide);have xd1:=zbx (zag q1.l) (ft1.ok.mono (by decide)) 1;have xd2:=zbx (doL (zag q1.l) 1) ((zdv (e:=1) ft1 (by decide)).ok.mono (by decide)) 0;have fl:=zcB ⟨q1.m,zaD q1.l,q1.rd,q1.rest,q1.p,q1.out⟩ (by have:=hfk.ok.out;dsimp only;omega) (λx hx=>by have:=zfI hp.l x hx;omega) (by dsimp only;omega);have htk:zaD q1.l=if (zag q1.l).st=3 then doL (doL (zag q1.l) 1) 0 else zag q1.l:=rfl
  unfold ptM prM zbE at fl;dsimp only at fl;simp only[rtM,rtH,zaE,rtP,prQ];(all_goals refine fv ?_;repeat' first|exact .intro|refine Tw.mk ?_ ?_|(intro h;first|replace h:=h.o|cases h))
  all_goals ((refine StopCall.fz [9] (xt) ?_;(all_goals refine lv ?_;repeat' first|exact .intro|refine Tw.mk ?_ ?_|(intro h;first|replace h:=h.o|cases h))))
  all_goals (refine cutK ⟨[(0,.box 0 0),(2,.v (.int .i64 1)),(3,.box 8 0),(13,.arr 1 0 3),(14,.v (.int .i64 3)),(15,.v (.int .i64 1))],rtM ⟨rid,[q0,⟨q1.m,zaD q1.l,q1.rd,q1.rest,q1.p,q1.out⟩,q2],b',inb',dr'⟩ 1⟩ ?_ (λhy=>?_))
  rotate_left
  .simp only[rtM,rtH,zaE,rtP,prQ] at hy;by_cases c3:(zag q1.l).st=3
   .rw[if_pos c3] at htk;rw[htk] at hy;(all_goals refine fv ?_;repeat' first|exact .intro|refine Tw.mk ?_ ?_|(intro h;first|replace h:=h.o|cases h))
    all_goals ((refine StopCall.fz [9] (xs) ?_;(all_goals refine lv ?_;repeat' first|exact .intro|refine Tw.mk ?_ ?_|(intro h;first|replace h:=h.o|cases h))))
    all_goals (try (exfalso;omega))
    all_goals ((refine StopCall.fz [9] (xd1) ?_;(all_goals refine lv ?_;repeat' first|exact .intro|refine Tw.mk ?_ ?_|(intro h;first|replace h:=h.o|cases h))))
    all_goals ((refine StopCall.fz [9] (xd2) ?_;(all_goals refine lv ?_;repeat' first|exact .intro|refine Tw.mk ?_ ?_|(intro h;first|replace h:=h.o|cases h))))
    all_goals exact Y29
   .rw[if_neg c3] at htk;rw[htk] at hy;(all_goals refine fv ?_;repeat' first|exact .intro|refine Tw.mk ?_ ?_|(intro h;first|replace h:=h.o|cases h))
    all_goals ((refine StopCall.fz [9] (xs) ?_;(all_goals refine lv ?_;repeat' first|exact .intro|refine Tw.mk ?_ ?_|(intro h;first|replace h:=h.o|cases h))))
    all_goals (try (exfalso;omega))
    all_goals exact Y29
  clear xt xd1 xd2 xs htk;simp only[rtM,rtH,zaE,rtP,prQ];(all_goals refine fv ?_;repeat' first|exact .intro|refine Tw.mk ?_ ?_|(intro h;first|replace h:=h.o|cases h))
  all_goals ((refine StopCall.fz [8,9,10,11] (fl) ?_;(all_goals refine lv ?_;repeat' first|exact .intro|refine Tw.mk ?_ ?_|(intro h;first|replace h:=h.o|cases h))))
  clear fl;have xs:=zbC (outL (zaD q1.l));have hst9:(outL (zaD q1.l)).st=(zaD q1.l).st:=rfl;by_cases c9:(outL (zaD q1.l)).st=9
  .have ht1:zbX ⟨rid,[q0,q1,q2],b',inb',dr'⟩ 1=(owdB (zaV (zas ⟨rid,[q0,q1,q2],b',inb',dr'⟩ 1) 1 (zbD q1.p)).b 1).foldl (λq x=>q.onP 1 (zaS x)) ((zaV (zas ⟨rid,[q0,q1,q2],b',inb',dr'⟩ 1) 1 (zbD q1.p)).onP 1 (zaQ rid)):=by
    exact Y97
   rw[h0] at ht1;have hfm:=zbr hf0 1 (zgA hp.pe);have pt:=zhu q1.p hp.pe;have ct:=zd4 rid dr' b' hfn.b inb' q0 ⟨q1.m,outL (zaD q1.l),q1.rd,q1.rest,q1.p,q1.out++(zaD q1.l).out.flatMap flB⟩ q2 hm (zbD q1.p);obtain⟨r0,r1,r2,hq⟩:=lit3 (zaW ⟨rid,[q0,⟨q1.m,outL (zaD q1.l),q1.rd,q1.rest,q1.p,q1.out++(zaD q1.l).out.flatMap flB⟩,q2],b',inb',dr'⟩ 1 (zbD q1.p)) rfl;rw[hq] at ct ht1 hfm;clear hq;dsimp only at ct ht1 hfm;generalize (zaV ⟨rid,[q0,⟨q1.m,outL (zaD q1.l),q1.rd,q1.rest,q1.p,q1.out++(zaD q1.l).out.flatMap flB⟩,q2],b',inb',dr'⟩ 1 (zbD q1.p)).b=b2 at *
   generalize (zaV ⟨rid,[q0,⟨q1.m,outL (zaD q1.l),q1.rd,q1.rest,q1.p,q1.out++(zaD q1.l).out.flatMap flB⟩,q2],b',inb',dr'⟩ 1 (zbD q1.p)).inb=inb2 at *
   generalize (zaV ⟨rid,[q0,⟨q1.m,outL (zaD q1.l),q1.rd,q1.rest,q1.p,q1.out++(zaD q1.l).out.flatMap flB⟩,q2],b',inb',dr'⟩ 1 (zbD q1.p)).dr=dr2 at *
   have hrp:=hfm.ps r1 (by simp);rw[zfu,show (Rt.onP ⟨rid,[r0,r1,r2],b2,inb2,dr2⟩ 1 (zaQ rid))=⟨rid,[r0,(zaQ rid r1),r2],b2,inb2,dr2⟩ from rfl] at ht1;rw[zfW] at ht1;have hfo:=(zbz hrp rid).out;obtain⟨o1,ho1⟩: ∃o1,o1=(zaQ rid r1).out:=⟨_,rfl⟩;rw[<-ho1] at ht1 hfo;have sy:=zlO r1.p rid;have hbk:=zet rid r1.p.who;generalize zbD q1.p=TP at *
   have ptm: ∀s:ByteArray,s.size<=1000->Fn Tryz.prog 61 [.box 0 0,.v (.int .u8 (72:UInt8).toNat),.v (.string s)] (ptM r1 0) (.tup []) (ptM (putP 72 (bs s) r1) 1):=λs hs=>zcf r1 72 s (by omega) (by have:=hrp.out;omega);simp only[rtM,rtH,zaE,rtP,prQ] at ct;all_goals ((refine StopCall.fz [9] (xs) ?_;(all_goals refine lv ?_;repeat' first|exact .intro|refine Tw.mk ?_ ?_|(intro h;first|replace h:=h.o|cases h))))
   all_goals (try (exfalso;omega))
   all_goals ((refine StopCall.fz [] (pt) ?_;(all_goals refine lv ?_;repeat' first|exact .intro|refine Tw.mk ?_ ?_|(intro h;first|replace h:=h.o|cases h))))
   all_goals ((refine StopCall.fz zaX (ct) ?_;(all_goals refine lv ?_;repeat' first|exact .intro|refine Tw.mk ?_ ?_|(intro h;first|replace h:=h.o|cases h))))
   all_goals ((refine StopCall.fz [] (sy) ?_;(all_goals refine lv ?_;repeat' first|exact .intro|refine Tw.mk ?_ ?_|(intro h;first|replace h:=h.o|cases h))))
   all_goals ((refine StopCall.fz [] (hbk) ?_;(all_goals refine lv ?_;repeat' first|exact .intro|refine Tw.mk ?_ ?_|(intro h;first|replace h:=h.o|cases h))))
   all_goals (refine cutK ⟨[(0,.box 0 0),(2,.v (.int .i64 1)),(3,.box 8 0),(13,.arr 1 0 3),(14,.v (.int .i64 3)),(15,.v (.int .i64 1))],rtM ⟨rid,[r0,⟨r1.m,r1.l,r1.rd,r1.rest,r1.p,o1⟩,r2],b2,inb2,dr2⟩ 1⟩ ?_ (λhy=>?_))
   rotate_left
   .simp only[rtM,rtH,zaE,rtP,prQ] at hy;unfold zaQ at ho1;rcases zpw rid r1.p.who with he|he
    .rw[if_pos he] at ho1;have pm:=ptm (tx (heB rid r1.p.who)) (by show 2<=1000;decide);rw[bs_tx] at pm;rw[show putP 72 (heB rid r1.p.who) r1=⟨r1.m,r1.l,r1.rd,r1.rest,r1.p,o1⟩ from by rw[ho1];unfold putP;split<;>rfl] at pm;unfold ptM prM at pm;dsimp only at pm;simp only[he,if_true];(all_goals refine fv ?_;repeat' first|exact .intro|refine Tw.mk ?_ ?_|(intro h;first|replace h:=h.o|cases h))
     all_goals (try (exfalso;omega))
     all_goals ((refine StopCall.fz [8,9,10,11] (pm) ?_;(all_goals refine lv ?_;repeat' first|exact .intro|refine Tw.mk ?_ ?_|(intro h;first|replace h:=h.o|cases h))))
     all_goals exact Y29
    .exact Y38
   clear xs pt ct sy hbk ptm;have xo:=zi2 hfm.b 1;have hsf:=λx hx=>zqJ hfm.b (p:=1) (x:=x) hx;have hol:=ziD b2 1;generalize owdB b2 1=L at *
   simp only[rtM,rtH,zaE,rtP,prQ];(all_goals refine fv ?_;repeat' first|exact .intro|refine Tw.mk ?_ ?_|(intro h;first|replace h:=h.o|cases h))
   all_goals ((refine StopCall.fz [2] (xo) ?_;(all_goals refine lv ?_;repeat' first|exact .intro|refine Tw.mk ?_ ?_|(intro h;first|replace h:=h.o|cases h))))
   clear xo;refine lpG2 (λ(j:Nat) (o:List UInt8)=>⟨[(0,.box 0 0),(3,.box 8 0),(13,.arr 1 0 3),(14,.v (.int .i64 3)),(15,.v (.int .i64 1)),(84,.sl 3 (L.map zaF) none),(85,.v (.int .i64 L.length)),(86,.v (.int .i64 j))],rtM ⟨rid,[r0,⟨r1.m,r1.l,r1.rd,r1.rest,r1.p,o⟩,r2],b2,inb2,dr2⟩ 1⟩) (λj o=>j<=L.length/\o.length<=100000000+130*j/\o=((L.take j).foldl (λp x=>zaS x p) ⟨r1.m,r1.l,r1.rd,r1.rest,r1.p,o1⟩).out) (λj _=>L.length-j) 0 o1 ⟨by omega,by omega,rfl⟩ (by
    simp only[rtM,rtH,zaE,rtP,prQ];(refine zaC zaX ?_;repeat' first|exact .intro|refine Tw.mk ?_ ?_);all_goals (simp;done)) ?_
   rintro j o ⟨hj,hoL,hoo⟩;by_cases hj':j<L.length
   .obtain⟨hs0,hs6⟩:=hsf L[j] (List.getElem_mem hj');have hstep:(L.take (j+1)).foldl (λp x=>zaS x p) ⟨r1.m,r1.l,r1.rd,r1.rest,r1.p,o1⟩=zaS L[j] ⟨r1.m,r1.l,r1.rd,r1.rest,r1.p,o⟩:=by
     rw[zaT hj',List.foldl_append];show zaS L[j] ((L.take j).foldl (λp x=>zaS x p) ⟨r1.m,r1.l,r1.rd,r1.rest,r1.p,o1⟩)=_;rw[zcG,<-hoo]
    have sb:=zgv L[j].1 L[j].2.1 L[j].2.2 (by omega);unfold sf at hs0;rw[hs0,if_pos rfl] at sb;have hbl:=zfx (c:=L[j].1) (i:=L[j].2.1) (l:=L[j].2.2);have hfr:=zew 83 (sbyt L[j].1 L[j].2.1 L[j].2.2);by_cases cb:r1.p.both=true
    .rw[show zaS L[j] ⟨r1.m,r1.l,r1.rd,r1.rest,r1.p,o⟩=putP 83 (sbyt L[j].1 L[j].2.1 L[j].2.2) ⟨r1.m,r1.l,r1.rd,r1.rest,r1.p,o⟩ from if_pos ⟨hs0,cb⟩] at hstep;have pm:=zcf ⟨r1.m,r1.l,r1.rd,r1.rest,r1.p,o⟩ 83 (tx (sbyt L[j].1 L[j].2.1 L[j].2.2)) (by rw[tx_size];omega) (by dsimp only;omega);rw[bs_tx] at pm;obtain⟨o2,hp2,ho2⟩: ∃o2,putP 83 (sbyt L[j].1 L[j].2.1 L[j].2.2) ⟨r1.m,r1.l,r1.rd,r1.rest,r1.p,o⟩=⟨r1.m,r1.l,r1.rd,r1.rest,r1.p,o2⟩/\o2.length<=o.length+130:=by
      exact Y64
     rw[hp2] at pm hstep;unfold ptM prM at pm;dsimp only at pm;simp only[rtM,rtH,zaE,rtP,prQ];(all_goals refine fv ?_;repeat' first|exact .intro|refine Tw.mk ?_ ?_|(intro h;first|replace h:=h.o|cases h))
     all_goals (try (exfalso;omega))
     all_goals ((refine StopCall.fz [] (sb) ?_;(all_goals refine lv ?_;repeat' first|exact .intro|refine Tw.mk ?_ ?_|(intro h;first|replace h:=h.o|cases h))))
     all_goals (try (exfalso;first|omega|(simp [cb] at *; done)))
     all_goals ((refine StopCall.fz [8,9,10,11] (pm) ?_;(all_goals refine lv ?_;repeat' first|exact .intro|refine Tw.mk ?_ ?_|(intro h;first|replace h:=h.o|cases h))))
     all_goals exact Y49
    .rw[show zaS L[j] ⟨r1.m,r1.l,r1.rd,r1.rest,r1.p,o⟩=⟨r1.m,r1.l,r1.rd,r1.rest,r1.p,o⟩ from if_neg (λh=>cb h.2)] at hstep;exact Y21
   .have e:j=L.length:=by omega
    subst e;rw[List.take_length] at hoo;rw[show (Rt.onP (⟨rid,[r0,⟨r1.m,r1.l,r1.rd,r1.rest,r1.p,o1⟩,r2],b2,inb2,dr2⟩:Rt) 1 λp=>L.foldl (λp x=>zaS x p) p)=⟨rid,[r0,⟨r1.m,r1.l,r1.rd,r1.rest,r1.p,o⟩,r2],b2,inb2,dr2⟩ from by rw[hoo];show (⟨rid,[r0,(L.foldl (λp x=>zaS x p) ⟨r1.m,r1.l,r1.rd,r1.rest,r1.p,o1⟩),r2],b2,inb2,dr2⟩:Rt)=_;rw[zcG]] at ht1;rw[ht1] at hst hlt hft;simp only[rtM,rtH,zaE,rtP,prQ];(all_goals refine fv ?_;repeat' first|exact .intro|refine Tw.mk ?_ ?_|(intro h;first|replace h:=h.o|cases h))
    all_goals (try (exfalso;omega))
    all_goals (refine za3 2 ⟨rid,[r0,⟨r1.m,r1.l,r1.rd,r1.rest,r1.p,o⟩,r2],b2,inb2,dr2⟩ ⟨by omega,hlt,hft,hst⟩ (by omega) (by
     simp only[rtM,rtH,zaE,rtP,prQ];(refine zaC zaX ?_;repeat' first|exact .intro|refine Tw.mk ?_ ?_)))
  .have ht1:zbX ⟨rid,[q0,q1,q2],b',inb',dr'⟩ 1=zaV (zas ⟨rid,[q0,q1,q2],b',inb',dr'⟩ 1) 1 peNo:=by
    unfold zbX;rw[if_pos (by rw[h0];exact c9)]
   rw[h0] at ht1;have ct:=zd4 rid dr' b' hfn.b inb' q0 ⟨q1.m,outL (zaD q1.l),q1.rd,q1.rest,q1.p,q1.out++(zaD q1.l).out.flatMap flB⟩ q2 hm peNo;obtain⟨r0,r1,r2,hq⟩:=lit3 (zaW ⟨rid,[q0,⟨q1.m,outL (zaD q1.l),q1.rd,q1.rest,q1.p,q1.out++(zaD q1.l).out.flatMap flB⟩,q2],b',inb',dr'⟩ 1 peNo) rfl;rw[ht1] at hst hlt hft;rw[hq] at ct hst hlt hft;clear hq ht1;dsimp only at ct hst hlt hft;generalize (zaV ⟨rid,[q0,⟨q1.m,outL (zaD q1.l),q1.rd,q1.rest,q1.p,q1.out++(zaD q1.l).out.flatMap flB⟩,q2],b',inb',dr'⟩ 1 peNo).b=b2 at *
   generalize (zaV ⟨rid,[q0,⟨q1.m,outL (zaD q1.l),q1.rd,q1.rest,q1.p,q1.out++(zaD q1.l).out.flatMap flB⟩,q2],b',inb',dr'⟩ 1 peNo).inb=inb2 at *
   generalize (zaV ⟨rid,[q0,⟨q1.m,outL (zaD q1.l),q1.rd,q1.rest,q1.p,q1.out++(zaD q1.l).out.flatMap flB⟩,q2],b',inb',dr'⟩ 1 peNo).dr=dr2 at *
   simp only[rtM,rtH,zaE,rtP,prQ,peRow,peNo] at ct;all_goals ((refine StopCall.fz [9] (xs) ?_;(all_goals refine lv ?_;repeat' first|exact .intro|refine Tw.mk ?_ ?_|(intro h;first|replace h:=h.o|cases h))))
   all_goals (try (exfalso;omega))
   all_goals ((refine StopCall.fz zaX (ct) ?_;(all_goals refine lv ?_;repeat' first|exact .intro|refine Tw.mk ?_ ?_|(intro h;first|replace h:=h.o|cases h))))
   all_goals (refine za3 2 ⟨rid,[r0,r1,r2],b2,inb2,dr2⟩ ⟨by omega,hlt,(show n+2210*2=n+2210*1+2210 by omega)▸hft,hst⟩ (by omega) (by
    simp only[rtM,rtH,zaE,rtP,prQ];(refine zaC zaX ?_;repeat' first|exact .intro|refine Tw.mk ?_ ?_)))
 .subst e;have hp:=hfn.ps q2 (by simp);have hst:=zgw hr;have hlt:=hlk.trans (zc3 ⟨rid,[q0,q1,q2],b',inb',dr'⟩ 2);have hft:=zdn hfn (i:=2) (show 2<3 by decide);have h0:zas ⟨rid,[q0,q1,q2],b',inb',dr'⟩ 2=⟨rid,[q0,q1,⟨q2.m,outL (zaD q2.l),q2.rd,q2.rest,q2.p,q2.out++(zaD q2.l).out.flatMap flB⟩],b',inb',dr'⟩:=rfl;have hf0:=zdo hfn 2;rw[h0] at hf0;have hm: ∀p∈[q0,q1,(⟨q2.m,outL (zaD q2.l),q2.rd,q2.rest,q2.p,q2.out++(zaD q2.l).out.flatMap flB⟩:Pt)],0<=p.m/\p.m<=20:=λp hx=>(hf0.ps p hx).m;have ho:=(hf0.ps _ (show (⟨q2.m,outL (zaD q2.l),q2.rd,q2.rest,q2.p,q2.out++(zaD q2.l).out.flatMap flB⟩:Pt)∈[q0,q1,(⟨q2.m,outL (zaD q2.l),q2.rd,q2.rest,q2.p,q2.out++(zaD q2.l).out.flatMap flB⟩:Pt)] by simp)).out;dsimp only at ho;have hpo:=hp.out;have hfk:=zdd hp.l;have xt:=zgx q2.l (hp.l.ok.mono (by decide));have xs:=zbC (zag q2.l);have ft1:=zfw hp.l (by decide);have xd1:=zbx (zag q2.l) (ft1.ok.mono (by decide)) 1;have xd2:=zbx (doL (zag q2.l) 1) ((zdv (e:=1) ft1 (by decide)).ok.mono (by decide)) 0;have fl:=zcB ⟨q2.m,zaD q2.l,q2.rd,q2.rest,q2.p,q2.out⟩ (by have:=hfk.ok.out;dsimp only;omega) (λx hx=>by have:=zfI hp.l x hx;omega) (by dsimp only;omega);have htk:zaD q2.l=if (zag q2.l).st=3 then doL (doL (zag q2.l) 1) 0 else zag q2.l:=rfl
  unfold ptM prM zbE at fl;dsimp only at fl;simp only[rtM,rtH,zaE,rtP,prQ];(all_goals refine fv ?_;repeat' first|exact .intro|refine Tw.mk ?_ ?_|(intro h;first|replace h:=h.o|cases h))
  all_goals ((refine StopCall.fz [13] (xt) ?_;(all_goals refine lv ?_;repeat' first|exact .intro|refine Tw.mk ?_ ?_|(intro h;first|replace h:=h.o|cases h))))
  all_goals (refine cutK ⟨[(0,.box 0 0),(2,.v (.int .i64 2)),(3,.box 12 0),(13,.arr 1 0 3),(14,.v (.int .i64 3)),(15,.v (.int .i64 2))],rtM ⟨rid,[q0,q1,⟨q2.m,zaD q2.l,q2.rd,q2.rest,q2.p,q2.out⟩],b',inb',dr'⟩ 1⟩ ?_ (λhy=>?_))
  rotate_left
  .simp only[rtM,rtH,zaE,rtP,prQ] at hy;by_cases c3:(zag q2.l).st=3
   .rw[if_pos c3] at htk;rw[htk] at hy;(all_goals refine fv ?_;repeat' first|exact .intro|refine Tw.mk ?_ ?_|(intro h;first|replace h:=h.o|cases h))
    all_goals ((refine StopCall.fz [13] (xs) ?_;(all_goals refine lv ?_;repeat' first|exact .intro|refine Tw.mk ?_ ?_|(intro h;first|replace h:=h.o|cases h))))
    all_goals (try (exfalso;omega))
    all_goals ((refine StopCall.fz [13] (xd1) ?_;(all_goals refine lv ?_;repeat' first|exact .intro|refine Tw.mk ?_ ?_|(intro h;first|replace h:=h.o|cases h))))
    all_goals ((refine StopCall.fz [13] (xd2) ?_;(all_goals refine lv ?_;repeat' first|exact .intro|refine Tw.mk ?_ ?_|(intro h;first|replace h:=h.o|cases h))))
    all_goals exact Y29
   .rw[if_neg c3] at htk;rw[htk] at hy;(all_goals refine fv ?_;repeat' first|exact .intro|refine Tw.mk ?_ ?_|(intro h;first|replace h:=h.o|cases h))
    all_goals ((refine StopCall.fz [13] (xs) ?_;(all_goals refine lv ?_;repeat' first|exact .intro|refine Tw.mk ?_ ?_|(intro h;first|replace h:=h.o|cases h))))
    all_goals (try (exfalso;omega))
    all_goals exact Y29
  clear xt xd1 xd2 xs htk;simp only[rtM,rtH,zaE,rtP,prQ];(all_goals refine fv ?_;repeat' first|exact .intro|refine Tw.mk ?_ ?_|(intro h;first|replace h:=h.o|cases h))
  all_goals ((refine StopCall.fz [12,13,14,15] (fl) ?_;(all_goals refine lv ?_;repeat' first|exact .intro|refine Tw.mk ?_ ?_|(intro h;first|replace h:=h.o|cases h))))
  clear fl;have xs:=zbC (outL (zaD q2.l));have hst9:(outL (zaD q2.l)).st=(zaD q2.l).st:=rfl;by_cases c9:(outL (zaD q2.l)).st=9
  .have ht1:zbX ⟨rid,[q0,q1,q2],b',inb',dr'⟩ 2=(owdB (zaV (zas ⟨rid,[q0,q1,q2],b',inb',dr'⟩ 2) 2 (zbD q2.p)).b 2).foldl (λq x=>q.onP 2 (zaS x)) ((zaV (zas ⟨rid,[q0,q1,q2],b',inb',dr'⟩ 2) 2 (zbD q2.p)).onP 2 (zaQ rid)):=by
    exact Y97
   rw[h0] at ht1;have hfm:=zbr hf0 2 (zgA hp.pe);have pt:=zhu q2.p hp.pe;have ct:=zd2 rid dr' b' hfn.b inb' q0 q1 ⟨q2.m,outL (zaD q2.l),q2.rd,q2.rest,q2.p,q2.out++(zaD q2.l).out.flatMap flB⟩ hm (zbD q2.p);obtain⟨r0,r1,r2,hq⟩:=lit3 (zaW ⟨rid,[q0,q1,⟨q2.m,outL (zaD q2.l),q2.rd,q2.rest,q2.p,q2.out++(zaD q2.l).out.flatMap flB⟩],b',inb',dr'⟩ 2 (zbD q2.p)) rfl;rw[hq] at ct ht1 hfm;clear hq;dsimp only at ct ht1 hfm;generalize (zaV ⟨rid,[q0,q1,⟨q2.m,outL (zaD q2.l),q2.rd,q2.rest,q2.p,q2.out++(zaD q2.l).out.flatMap flB⟩],b',inb',dr'⟩ 2 (zbD q2.p)).b=b2 at *
   generalize (zaV ⟨rid,[q0,q1,⟨q2.m,outL (zaD q2.l),q2.rd,q2.rest,q2.p,q2.out++(zaD q2.l).out.flatMap flB⟩],b',inb',dr'⟩ 2 (zbD q2.p)).inb=inb2 at *
   generalize (zaV ⟨rid,[q0,q1,⟨q2.m,outL (zaD q2.l),q2.rd,q2.rest,q2.p,q2.out++(zaD q2.l).out.flatMap flB⟩],b',inb',dr'⟩ 2 (zbD q2.p)).dr=dr2 at *
   have hrp:=hfm.ps r2 (by simp);rw[zfu,show (Rt.onP ⟨rid,[r0,r1,r2],b2,inb2,dr2⟩ 2 (zaQ rid))=⟨rid,[r0,r1,(zaQ rid r2)],b2,inb2,dr2⟩ from rfl] at ht1;rw[zfW] at ht1;have hfo:=(zbz hrp rid).out;obtain⟨o1,ho1⟩: ∃o1,o1=(zaQ rid r2).out:=⟨_,rfl⟩;rw[<-ho1] at ht1 hfo;have sy:=zlO r2.p rid;have hbk:=zet rid r2.p.who;generalize zbD q2.p=TP at *
   have ptm: ∀s:ByteArray,s.size<=1000->Fn Tryz.prog 61 [.box 0 0,.v (.int .u8 (72:UInt8).toNat),.v (.string s)] (ptM r2 0) (.tup []) (ptM (putP 72 (bs s) r2) 1):=λs hs=>zcf r2 72 s (by omega) (by have:=hrp.out;omega);simp only[rtM,rtH,zaE,rtP,prQ] at ct;all_goals ((refine StopCall.fz [13] (xs) ?_;(all_goals refine lv ?_;repeat' first|exact .intro|refine Tw.mk ?_ ?_|(intro h;first|replace h:=h.o|cases h))))
   all_goals (try (exfalso;omega))
   all_goals ((refine StopCall.fz [] (pt) ?_;(all_goals refine lv ?_;repeat' first|exact .intro|refine Tw.mk ?_ ?_|(intro h;first|replace h:=h.o|cases h))))
   all_goals ((refine StopCall.fz zaX (ct) ?_;(all_goals refine lv ?_;repeat' first|exact .intro|refine Tw.mk ?_ ?_|(intro h;first|replace h:=h.o|cases h))))
   all_goals ((refine StopCall.fz [] (sy) ?_;(all_goals refine lv ?_;repeat' first|exact .intro|refine Tw.mk ?_ ?_|(intro h;first|replace h:=h.o|cases h))))
   all_goals ((refine StopCall.fz [] (hbk) ?_;(all_goals refine lv ?_;repeat' first|exact .intro|refine Tw.mk ?_ ?_|(intro h;first|replace h:=h.o|cases h))))
   all_goals (refine cutK ⟨[(0,.box 0 0),(2,.v (.int .i64 2)),(3,.box 12 0),(13,.arr 1 0 3),(14,.v (.int .i64 3)),(15,.v (.int .i64 2))],rtM ⟨rid,[r0,r1,⟨r2.m,r2.l,r2.rd,r2.rest,r2.p,o1⟩],b2,inb2,dr2⟩ 1⟩ ?_ (λhy=>?_))
   rotate_left
   .simp only[rtM,rtH,zaE,rtP,prQ] at hy;unfold zaQ at ho1;rcases zpw rid r2.p.who with he|he
    .rw[if_pos he] at ho1;have pm:=ptm (tx (heB rid r2.p.who)) (by show 2<=1000;decide);rw[bs_tx] at pm;rw[show putP 72 (heB rid r2.p.who) r2=⟨r2.m,r2.l,r2.rd,r2.rest,r2.p,o1⟩ from by rw[ho1];unfold putP;split<;>rfl] at pm;unfold ptM prM at pm;dsimp only at pm;simp only[he,if_true];(all_goals refine fv ?_;repeat' first|exact .intro|refine Tw.mk ?_ ?_|(intro h;first|replace h:=h.o|cases h))
     all_goals (try (exfalso;omega))
     all_goals ((refine StopCall.fz [12,13,14,15] (pm) ?_;(all_goals refine lv ?_;repeat' first|exact .intro|refine Tw.mk ?_ ?_|(intro h;first|replace h:=h.o|cases h))))
     all_goals exact Y29
    .exact Y38
   clear xs pt ct sy hbk ptm;have xo:=zi2 hfm.b 2;have hsf:=λx hx=>zqJ hfm.b (p:=2) (x:=x) hx;have hol:=ziD b2 2;generalize owdB b2 2=L at *
   simp only[rtM,rtH,zaE,rtP,prQ];(all_goals refine fv ?_;repeat' first|exact .intro|refine Tw.mk ?_ ?_|(intro h;first|replace h:=h.o|cases h))
   all_goals ((refine StopCall.fz [2] (xo) ?_;(all_goals refine lv ?_;repeat' first|exact .intro|refine Tw.mk ?_ ?_|(intro h;first|replace h:=h.o|cases h))))
   clear xo;refine lpG2 (λ(j:Nat) (o:List UInt8)=>⟨[(0,.box 0 0),(3,.box 12 0),(13,.arr 1 0 3),(14,.v (.int .i64 3)),(15,.v (.int .i64 2)),(84,.sl 3 (L.map zaF) none),(85,.v (.int .i64 L.length)),(86,.v (.int .i64 j))],rtM ⟨rid,[r0,r1,⟨r2.m,r2.l,r2.rd,r2.rest,r2.p,o⟩],b2,inb2,dr2⟩ 1⟩) (λj o=>j<=L.length/\o.length<=100000000+130*j/\o=((L.take j).foldl (λp x=>zaS x p) ⟨r2.m,r2.l,r2.rd,r2.rest,r2.p,o1⟩).out) (λj _=>L.length-j) 0 o1 ⟨by omega,by omega,rfl⟩ (by
    simp only[rtM,rtH,zaE,rtP,prQ];(refine zaC zaX ?_;repeat' first|exact .intro|refine Tw.mk ?_ ?_);all_goals (simp;done)) ?_
   rintro j o ⟨hj,hoL,hoo⟩;by_cases hj':j<L.length
   .obtain⟨hs0,hs6⟩:=hsf L[j] (List.getElem_mem hj');have hstep:(L.take (j+1)).foldl (λp x=>zaS x p) ⟨r2.m,r2.l,r2.rd,r2.rest,r2.p,o1⟩=zaS L[j] ⟨r2.m,r2.l,r2.rd,r2.rest,r2.p,o⟩:=by
     rw[zaT hj',List.foldl_append];show zaS L[j] ((L.take j).foldl (λp x=>zaS x p) ⟨r2.m,r2.l,r2.rd,r2.rest,r2.p,o1⟩)=_;rw[zcG,<-hoo]
    have sb:=zgv L[j].1 L[j].2.1 L[j].2.2 (by omega);unfold sf at hs0;rw[hs0,if_pos rfl] at sb;have hbl:=zfx (c:=L[j].1) (i:=L[j].2.1) (l:=L[j].2.2);have hfr:=zew 83 (sbyt L[j].1 L[j].2.1 L[j].2.2);by_cases cb:r2.p.both=true
    .rw[show zaS L[j] ⟨r2.m,r2.l,r2.rd,r2.rest,r2.p,o⟩=putP 83 (sbyt L[j].1 L[j].2.1 L[j].2.2) ⟨r2.m,r2.l,r2.rd,r2.rest,r2.p,o⟩ from if_pos ⟨hs0,cb⟩] at hstep;have pm:=zcf ⟨r2.m,r2.l,r2.rd,r2.rest,r2.p,o⟩ 83 (tx (sbyt L[j].1 L[j].2.1 L[j].2.2)) (by rw[tx_size];omega) (by dsimp only;omega);rw[bs_tx] at pm;obtain⟨o2,hp2,ho2⟩: ∃o2,putP 83 (sbyt L[j].1 L[j].2.1 L[j].2.2) ⟨r2.m,r2.l,r2.rd,r2.rest,r2.p,o⟩=⟨r2.m,r2.l,r2.rd,r2.rest,r2.p,o2⟩/\o2.length<=o.length+130:=by
      exact Y64
     rw[hp2] at pm hstep;unfold ptM prM at pm;dsimp only at pm;simp only[rtM,rtH,zaE,rtP,prQ];(all_goals refine fv ?_;repeat' first|exact .intro|refine Tw.mk ?_ ?_|(intro h;first|replace h:=h.o|cases h))
     all_goals (try (exfalso;omega))
     all_goals ((refine StopCall.fz [] (sb) ?_;(all_goals refine lv ?_;repeat' first|exact .intro|refine Tw.mk ?_ ?_|(intro h;first|replace h:=h.o|cases h))))
     all_goals (try (exfalso;first|omega|(simp [cb] at *; done)))
     all_goals ((refine StopCall.fz [12,13,14,15] (pm) ?_;(all_goals refine lv ?_;repeat' first|exact .intro|refine Tw.mk ?_ ?_|(intro h;first|replace h:=h.o|cases h))))
     all_goals exact Y49
    .rw[show zaS L[j] ⟨r2.m,r2.l,r2.rd,r2.rest,r2.p,o⟩=⟨r2.m,r2.l,r2.rd,r2.rest,r2.p,o⟩ from if_neg (λh=>cb h.2)] at hstep;exact Y21
   .have e:j=L.length:=by omega
    subst e;rw[List.take_length] at hoo;rw[show (Rt.onP (⟨rid,[r0,r1,⟨r2.m,r2.l,r2.rd,r2.rest,r2.p,o1⟩],b2,inb2,dr2⟩:Rt) 2 λp=>L.foldl (λp x=>zaS x p) p)=⟨rid,[r0,r1,⟨r2.m,r2.l,r2.rd,r2.rest,r2.p,o⟩],b2,inb2,dr2⟩ from by rw[hoo];show (⟨rid,[r0,r1,(L.foldl (λp x=>zaS x p) ⟨r2.m,r2.l,r2.rd,r2.rest,r2.p,o1⟩)],b2,inb2,dr2⟩:Rt)=_;rw[zcG]] at ht1;rw[ht1] at hst hlt hft;simp only[rtM,rtH,zaE,rtP,prQ];(all_goals refine fv ?_;repeat' first|exact .intro|refine Tw.mk ?_ ?_|(intro h;first|replace h:=h.o|cases h))
    all_goals (try (exfalso;omega))
    all_goals (refine za3 3 ⟨rid,[r0,r1,⟨r2.m,r2.l,r2.rd,r2.rest,r2.p,o⟩],b2,inb2,dr2⟩ ⟨by omega,hlt,hft,hst⟩ (by omega) (by
     simp only[rtM,rtH,zaE,rtP,prQ];(refine zaC zaX ?_;repeat' first|exact .intro|refine Tw.mk ?_ ?_)))
  .have ht1:zbX ⟨rid,[q0,q1,q2],b',inb',dr'⟩ 2=zaV (zas ⟨rid,[q0,q1,q2],b',inb',dr'⟩ 2) 2 peNo:=by
    unfold zbX;rw[if_pos (by rw[h0];exact c9)]
   rw[h0] at ht1;have ct:=zd2 rid dr' b' hfn.b inb' q0 q1 ⟨q2.m,outL (zaD q2.l),q2.rd,q2.rest,q2.p,q2.out++(zaD q2.l).out.flatMap flB⟩ hm peNo;obtain⟨r0,r1,r2,hq⟩:=lit3 (zaW ⟨rid,[q0,q1,⟨q2.m,outL (zaD q2.l),q2.rd,q2.rest,q2.p,q2.out++(zaD q2.l).out.flatMap flB⟩],b',inb',dr'⟩ 2 peNo) rfl;rw[ht1] at hst hlt hft;rw[hq] at ct hst hlt hft;clear hq ht1;dsimp only at ct hst hlt hft;generalize (zaV ⟨rid,[q0,q1,⟨q2.m,outL (zaD q2.l),q2.rd,q2.rest,q2.p,q2.out++(zaD q2.l).out.flatMap flB⟩],b',inb',dr'⟩ 2 peNo).b=b2 at *
   generalize (zaV ⟨rid,[q0,q1,⟨q2.m,outL (zaD q2.l),q2.rd,q2.rest,q2.p,q2.out++(zaD q2.l).out.flatMap flB⟩],b',inb',dr'⟩ 2 peNo).inb=inb2 at *
   generalize (zaV ⟨rid,[q0,q1,⟨q2.m,outL (zaD q2.l),q2.rd,q2.rest,q2.p,q2.out++(zaD q2.l).out.flatMap flB⟩],b',inb',dr'⟩ 2 peNo).dr=dr2 at *
   simp only[rtM,rtH,zaE,rtP,prQ,peRow,peNo] at ct;all_goals ((refine StopCall.fz [13] (xs) ?_;(all_goals refine lv ?_;repeat' first|exact .intro|refine Tw.mk ?_ ?_|(intro h;first|replace h:=h.o|cases h))))
   all_goals (try (exfalso;omega))
   all_goals ((refine StopCall.fz zaX (ct) ?_;(all_goals refine lv ?_;repeat' first|exact .intro|refine Tw.mk ?_ ?_|(intro h;first|replace h:=h.o|cases h))))
   all_goals (refine za3 3 ⟨rid,[r0,r1,r2],b2,inb2,dr2⟩ ⟨by omega,hlt,(show n+2210*3=n+2210*2+2210 by omega)▸hft,hst⟩ (by omega) (by
    simp only[rtM,rtH,zaE,rtP,prQ];(refine zaC zaX ?_;repeat' first|exact .intro|refine Tw.mk ?_ ?_)))
 .subst e;rw[<-hr];simp only[rtM,rtH,zaE,rtP,prQ];(all_goals refine gv ?_;repeat' first|exact .intro|refine Tw.mk ?_ ?_|(intro h;first|replace h:=h.o|cases h))
  all_goals (try (exfalso;omega))
  all_goals exact Y1
end Go.Proofs.YtimfnpjcedjmiadGreat
