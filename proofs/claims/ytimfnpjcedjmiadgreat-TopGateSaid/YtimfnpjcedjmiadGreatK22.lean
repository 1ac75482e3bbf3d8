/- Lemmas. -/
import Derived.Test.YtimfnpjcedjmiadGreatK21
set_option maxRecDepth 100000
set_option maxHeartbeats 64000000
set_option linter.all false
namespace Go.Proofs.YtimfnpjcedjmiadGreat
open Go.RowKit
theorem ziU{b:Ba}(hb:b.ok)(p:Int):Fn Tryz.prog 70 [.box 0 0,.v (.int .i64 p)] [baR b] (.tup []) [baR (parB b p)]:=
 zca hb.n1 hb.n3 (zfF hb p).n1 (zfF hb p).n3 (fpart_ok b.kn b.ow hb.n1 hb.n3 p) rfl
theorem zdR(r:Rt):zbj r={ r with b:=(zbj r).b }:=by unfold zbj;split<;>rfl
theorem zhw{r:Rt}(h:r.b.ok):(zbj r).b.ok:=by
 unfold zbj
 split
 ·exact zeg h _
 ·exact h
theorem zdE(id dr:Int)(b:Ba)(hb:b.ok)(inb:List Mg)(p0 p1 p2:Pt)(hm: ∀p∈[p0,p1,p2],0<=p.m/\p.m<=20)(now:Pe):Fn Tryz.prog 49 [.box 0 0,.v (.int .i64 0),.agg (peRow now)] (rtM ⟨id,[p0,p1,p2],b,inb,dr⟩ 0) (.tup []) (rtM (zaU ⟨id,[p0,p1,p2],b,inb,dr⟩ 0 now) 0):=by
 obtain⟨m,l,rd,rest,⟨w0,b0,l0⟩,out⟩:=p0
 obtain⟨w,bo,lf⟩:=now
 have pt:=ziU hb 0
 have hpb:=zfF hb 0
 have te:=zhj id dr (parB b 0) hpb inb ⟨m,l,rd,rest,⟨w,bo,lf⟩,out⟩ p1 p2 (by simpa using hm)
 have hB:=zhw (r:=⟨id,[⟨m,l,rd,rest,⟨w,bo,lf⟩,out⟩,p1,p2],parB b 0,inb,dr⟩) hpb
 have hd:zaU ⟨id,[⟨m,l,rd,rest,⟨w0,b0,l0⟩,out⟩,p1,p2],b,inb,dr⟩ 0 ⟨w,bo,lf⟩=if b0=bo/\w0=w then ⟨id,[⟨m,l,rd,rest,⟨w,bo,lf⟩,out⟩,p1,p2],b,inb,dr⟩ else if bo then ⟨id,[⟨m,l,rd,rest,⟨w,bo,lf⟩,out⟩,p1,p2],metB (zbj ⟨id,[⟨m,l,rd,rest,⟨w,bo,lf⟩,out⟩,p1,p2],parB b 0,inb,dr⟩).b 0,inb,dr⟩ else ⟨id,[⟨m,l,rd,rest,⟨w,bo,lf⟩,out⟩,p1,p2],(zbj ⟨id,[⟨m,l,rd,rest,⟨w,bo,lf⟩,out⟩,p1,p2],parB b 0,inb,dr⟩).b,inb,dr⟩:=by
  unfold zaU
  rw[zdR]
  rfl
 rw[hd]
 rw[zdR] at te
 clear hd
 have mt:=zhl hB 0
 generalize (zbj ⟨id,[⟨m,l,rd,rest,⟨w,bo,lf⟩,out⟩,p1,p2],parB b 0,inb,dr⟩).b=B at *
 generalize metE B 0=F at *
 generalize metB B 0=C at *
 generalize parB b 0=D at *
 by_cases hc:b0=bo/\w0=w
 ·rw[if_pos hc]
  obtain⟨rfl,rfl⟩:=hc
  simp only[rtM,rtH,zaC,rtP,prQ,peRow] at *
  refine foA zaA [] [] Tryz.func49 Tryz.ntmps49 Tryz.results49 ?_
  (all_goals refine fv ?_;repeat' first|exact .intro|refine Tw.mk ?_ ?_|(intro h;first|replace h:=h.o|cases h))
  all_goals (try (exfalso;first|omega|(simp at h;done)))
  all_goals exact Y4
 ·exact Y8
theorem zcw(id dr:Int)(b:Ba)(hb:b.ok)(inb:List Mg)(p0 p1 p2:Pt)(hm: ∀p∈[p0,p1,p2],0<=p.m/\p.m<=20)(now:Pe):Fn Tryz.prog 49 [.box 0 0,.v (.int .i64 1),.agg (peRow now)] (rtM ⟨id,[p0,p1,p2],b,inb,dr⟩ 0) (.tup []) (rtM (zaU ⟨id,[p0,p1,p2],b,inb,dr⟩ 1 now) 0):=by
 obtain⟨m,l,rd,rest,⟨w0,b0,l0⟩,out⟩:=p1
 obtain⟨w,bo,lf⟩:=now
 have pt:=ziU hb 1
 have hpb:=zfF hb 1
 have te:=zhj id dr (parB b 1) hpb inb p0 ⟨m,l,rd,rest,⟨w,bo,lf⟩,out⟩ p2 (by simpa using hm)
 have hB:=zhw (r:=⟨id,[p0,⟨m,l,rd,rest,⟨w,bo,lf⟩,out⟩,p2],parB b 1,inb,dr⟩) hpb
 have hd:zaU ⟨id,[p0,⟨m,l,rd,rest,⟨w0,b0,l0⟩,out⟩,p2],b,inb,dr⟩ 1 ⟨w,bo,lf⟩=if b0=bo/\w0=w then ⟨id,[p0,⟨m,l,rd,rest,⟨w,bo,lf⟩,out⟩,p2],b,inb,dr⟩ else if bo then ⟨id,[p0,⟨m,l,rd,rest,⟨w,bo,lf⟩,out⟩,p2],metB (zbj ⟨id,[p0,⟨m,l,rd,rest,⟨w,bo,lf⟩,out⟩,p2],parB b 1,inb,dr⟩).b 1,inb,dr⟩ else ⟨id,[p0,⟨m,l,rd,rest,⟨w,bo,lf⟩,out⟩,p2],(zbj ⟨id,[p0,⟨m,l,rd,rest,⟨w,bo,lf⟩,out⟩,p2],parB b 1,inb,dr⟩).b,inb,dr⟩:=by
  unfold zaU
  rw[zdR]
  rfl
 rw[hd]
 rw[zdR] at te
 clear hd
 have mt:=zhl hB 1
 generalize (zbj ⟨id,[p0,⟨m,l,rd,rest,⟨w,bo,lf⟩,out⟩,p2],parB b 1,inb,dr⟩).b=B at *
 generalize metE B 1=F at *
 generalize metB B 1=C at *
 generalize parB b 1=D at *
 by_cases hc:b0=bo/\w0=w
 ·rw[if_pos hc]
  obtain⟨rfl,rfl⟩:=hc
  simp only[rtM,rtH,zaC,rtP,prQ,peRow] at *
  refine foA zaA [] [] Tryz.func49 Tryz.ntmps49 Tryz.results49 ?_
  (all_goals refine fv ?_;repeat' first|exact .intro|refine Tw.mk ?_ ?_|(intro h;first|replace h:=h.o|cases h))
  all_goals (try (exfalso;first|omega|(simp at h;done)))
  all_goals exact Y4
 ·exact Y8
theorem zdN(id dr:Int)(b:Ba)(hb:b.ok)(inb:List Mg)(p0 p1 p2:Pt)(hm: ∀p∈[p0,p1,p2],0<=p.m/\p.m<=20)(now:Pe):Fn Tryz.prog 49 [.box 0 0,.v (.int .i64 2),.agg (peRow now)] (rtM ⟨id,[p0,p1,p2],b,inb,dr⟩ 0) (.tup []) (rtM (zaU ⟨id,[p0,p1,p2],b,inb,dr⟩ 2 now) 0):=by
 obtain⟨m,l,rd,rest,⟨w0,b0,l0⟩,out⟩:=p2
 obtain⟨w,bo,lf⟩:=now
 have pt:=ziU hb 2
 have hpb:=zfF hb 2
 have te:=zhj id dr (parB b 2) hpb inb p0 p1 ⟨m,l,rd,rest,⟨w,bo,lf⟩,out⟩ (by simpa using hm)
 have hB:=zhw (r:=⟨id,[p0,p1,⟨m,l,rd,rest,⟨w,bo,lf⟩,out⟩],parB b 2,inb,dr⟩) hpb
 have hd:zaU ⟨id,[p0,p1,⟨m,l,rd,rest,⟨w0,b0,l0⟩,out⟩],b,inb,dr⟩ 2 ⟨w,bo,lf⟩=if b0=bo/\w0=w then ⟨id,[p0,p1,⟨m,l,rd,rest,⟨w,bo,lf⟩,out⟩],b,inb,dr⟩ else if bo then ⟨id,[p0,p1,⟨m,l,rd,rest,⟨w,bo,lf⟩,out⟩],metB (zbj ⟨id,[p0,p1,⟨m,l,rd,rest,⟨w,bo,lf⟩,out⟩],parB b 2,inb,dr⟩).b 2,inb,dr⟩ else ⟨id,[p0,p1,⟨m,l,rd,rest,⟨w,bo,lf⟩,out⟩],(zbj ⟨id,[p0,p1,⟨m,l,rd,rest,⟨w,bo,lf⟩,out⟩],parB b 2,inb,dr⟩).b,inb,dr⟩:=by
  unfold zaU
  rw[zdR]
  rfl
 rw[hd]
 rw[zdR] at te
 clear hd
 have mt:=zhl hB 2
 generalize (zbj ⟨id,[p0,p1,⟨m,l,rd,rest,⟨w,bo,lf⟩,out⟩],parB b 2,inb,dr⟩).b=B at *
 generalize metE B 2=F at *
 generalize metB B 2=C at *
 generalize parB b 2=D at *
 by_cases hc:b0=bo/\w0=w
 ·rw[if_pos hc]
  obtain⟨rfl,rfl⟩:=hc
  simp only[rtM,rtH,zaC,rtP,prQ,peRow] at *
  refine foA zaA [] [] Tryz.func49 Tryz.ntmps49 Tryz.results49 ?_
  (all_goals refine fv ?_;repeat' first|exact .intro|refine Tw.mk ?_ ?_|(intro h;first|replace h:=h.o|cases h))
  all_goals (try (exfalso;first|omega|(simp at h;done)))
  all_goals exact Y4
 ·exact Y8
def tickPl:List (Nat×Pl):=[(11,.op 0 (.op 1 (.op 2 (.op 3 (.op 4 (.op 5 (.op 6 (.op 7 (.op 8 (.op 9 (.op 10 (.op 11 (.op 12 (.op 13 (.op 14 (.done))))))))))))))))]
theorem zgz{α:Type}{f:Rt->α->Rt}(hf: ∀r a,Like r (f r a)): ∀(l:List α) (r:Rt),Like r (l.foldl f r)
 |[],r=>Like.refl r
 |a::l,r=>(hf r a).trans (zgz hf l (f r a))
theorem zcS(r:Rt)(i:Nat):Like r (zbT r i):=by
 have h0:Like r (zaz r i):=zav ..
 unfold zbT
 split
 ·exact h0.trans (zaV ..)
 ·exact (h0.trans (zaV ..)).trans ((zav ..).trans (zgz (fun r a=>zav ..) _ _))
theorem ziM(b:Ba)(p:Int):(owdB b p).length<=6:=Nat.le_trans (List.length_filter_le ..) stsB_len
theorem zd5{l:Lk}(h:l.fit 0):(zaE l).fit 10:=by
 have h1:=zfg h (by decide)
 unfold zaE
 split
 ·exact zdb (zdb h1 (by decide)) (by decide)
 ·exact h1.low (by have:=h1.ok.out;omega)
theorem zjz{n:Nat}{p:Pt}(h:p.fine n)(x:St3):(zaT x p).fine (n+130):=by
 unfold zaT
 split
 ·exact zfn h 83 _
 ·exact h.up (by omega)
theorem zbp{n:Nat}{p:Pt}(h:p.fine n)(id:Int):(zaP id p).fine (n+130):=by
 unfold zaP
 split
 ·exact zfn h 72 _
 ·exact h.up (by omega)
theorem zi8{i:Nat}: ∀(l:List St3) {n d:Nat} {r:Rt},r.fine n d->(l.foldl (fun q x=>q.onP i (zaT x)) r).fine (n+130*l.length) d
 |[],n,d,r,h=>h
 |x::l,n,d,r,h=>by
  have:=zi8 (i:=i) l (zbE h (show n<=n+130 by omega) i (fun p hp=>zjz hp x))
  rw[List.length_cons,show n+130*(l.length+1)=n+130+130*l.length by omega];exact this
theorem zd6{n d:Nat}{r:Rt}(h:r.fine n d)(i:Nat):(zaz r i).fine (n+1300) d:=
 zbE h (by omega) i (fun p hp=>zfG (p:={ p with l:=zaE p.l }) (k:=10) hp.m hp.rd hp.pe hp.out (zd5 hp.l))
theorem zkU{n d:Nat}{r:Rt}(h:r.fine n d){i:Nat}(hi:i<r.ps.length):(r.pt i).fine n:=by
 unfold Rt.pt
 rw[List.getD_eq_getElem?_getD,List.getElem?_eq_getElem hi]
 exact h.ps _ (List.getElem_mem hi)
theorem zd2{n d:Nat}{r:Rt}(h:r.fine n d){i:Nat}(hi:i<r.ps.length):(zbT r i).fine (n+2210) d:=by
 have h0:=zd6 h i
 have hlk:Like r (zaz r i):=zav ..
 have hi0:i<(zaz r i).ps.length:=by rw[hlk.2];exact hi
 unfold zbT
 split
 ·exact (zbe h0 i zep).up (by omega)
 ·have h1:=zbe h0 i (zf9 (zkU h0 hi0).pe)
  have h2:=zbE h1 (show n+1300<=n+1300+130 by omega) i (fun p hp=>zbp hp r.id)
  have h3:=zi8 (i:=i) (owdB (zaU (zaz r i) i (zam ((zaz r i).pt i).p)).b i) h2
  have:=ziM (zaU (zaz r i) i (zam ((zaz r i).pt i).p)).b i
  exact h3.up (by omega)
end Go.Proofs.YtimfnpjcedjmiadGreat
