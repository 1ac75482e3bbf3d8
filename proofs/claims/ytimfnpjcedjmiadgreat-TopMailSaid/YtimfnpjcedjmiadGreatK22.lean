/- Lemmas. -/
import Derived.Test.YtimfnpjcedjmiadGreatK21
set_option maxRecDepth 100000
set_option maxHeartbeats 64000000
set_option linter.all false
namespace Go.Proofs.YtimfnpjcedjmiadGreat
open Go.RowKit
theorem zib{b:Ba}(hb:b.ok)(p:Int):Fn Tryz.prog 70 [.box 0 0,.v (.int .i64 p)] [baR b] (.tup []) [baR (parB b p)]:=
 zcm hb.n1 hb.n3 (zf5 hb p).n1 (zf5 hb p).n3 (fpart_ok b.kn b.ow hb.n1 hb.n3 p) rfl
theorem zda(r:Rt):zbt r={ r with b:=(zbt r).b }:=by unfold zbt;split<;>rfl
theorem zhm{r:Rt}(h:r.b.ok):(zbt r).b.ok:=by
 unfold zbt;split
 .exact zey h _
 .exact h
theorem zdZ(id dr:Int)(b:Ba)(hb:b.ok)(inb:List Mg)(p0 p1 p2:Pt)(hm: ∀p∈[p0,p1,p2],0<=p.m/\p.m<=20)(now:Pe):Fn Tryz.prog 49 [.box 0 0,.v (.int .i64 0),.agg (peRow now)] (rtM ⟨id,[p0,p1,p2],b,inb,dr⟩ 0) (.tup []) (rtM (zaV ⟨id,[p0,p1,p2],b,inb,dr⟩ 0 now) 0):=by
 obtain⟨m,l,rd,rest,⟨w0,b0,l0⟩,out⟩:=p0;obtain⟨w,bo,lf⟩:=now;have pt:=zib hb 0;have hpb:=zf5 hb 0;have te:=zih id dr (parB b 0) hpb inb ⟨m,l,rd,rest,⟨w,bo,lf⟩,out⟩ p1 p2 (by simpa using hm);have hB:=zhm (r:=⟨id,[⟨m,l,rd,rest,⟨w,bo,lf⟩,out⟩,p1,p2],parB b 0,inb,dr⟩) hpb;have hd:zaV ⟨id,[⟨m,l,rd,rest,⟨w0,b0,l0⟩,out⟩,p1,p2],b,inb,dr⟩ 0 ⟨w,bo,lf⟩=if b0=bo/\w0=w then ⟨id,[⟨m,l,rd,rest,⟨w,bo,lf⟩,out⟩,p1,p2],b,inb,dr⟩ else if bo then ⟨id,[⟨m,l,rd,rest,⟨w,bo,lf⟩,out⟩,p1,p2],metB (zbt ⟨id,[⟨m,l,rd,rest,⟨w,bo,lf⟩,out⟩,p1,p2],parB b 0,inb,dr⟩).b 0,inb,dr⟩ else ⟨id,[⟨m,l,rd,rest,⟨w,bo,lf⟩,out⟩,p1,p2],(zbt ⟨id,[⟨m,l,rd,rest,⟨w,bo,lf⟩,out⟩,p1,p2],parB b 0,inb,dr⟩).b,inb,dr⟩:=by
  unfold zaV;rw[zda];rfl
 rw[hd];rw[zda] at te;clear hd;have mt:=zi6 hB 0;generalize (zbt ⟨id,[⟨m,l,rd,rest,⟨w,bo,lf⟩,out⟩,p1,p2],parB b 0,inb,dr⟩).b=B at *
 generalize metE B 0=F at *
 generalize metB B 0=C at *
 generalize parB b 0=D at *
 exact Y4
theorem zd4(id dr:Int)(b:Ba)(hb:b.ok)(inb:List Mg)(p0 p1 p2:Pt)(hm: ∀p∈[p0,p1,p2],0<=p.m/\p.m<=20)(now:Pe):Fn Tryz.prog 49 [.box 0 0,.v (.int .i64 1),.agg (peRow now)] (rtM ⟨id,[p0,p1,p2],b,inb,dr⟩ 0) (.tup []) (rtM (zaV ⟨id,[p0,p1,p2],b,inb,dr⟩ 1 now) 0):=by
 obtain⟨m,l,rd,rest,⟨w0,b0,l0⟩,out⟩:=p1;obtain⟨w,bo,lf⟩:=now;have pt:=zib hb 1;have hpb:=zf5 hb 1;have te:=zih id dr (parB b 1) hpb inb p0 ⟨m,l,rd,rest,⟨w,bo,lf⟩,out⟩ p2 (by simpa using hm);have hB:=zhm (r:=⟨id,[p0,⟨m,l,rd,rest,⟨w,bo,lf⟩,out⟩,p2],parB b 1,inb,dr⟩) hpb;have hd:zaV ⟨id,[p0,⟨m,l,rd,rest,⟨w0,b0,l0⟩,out⟩,p2],b,inb,dr⟩ 1 ⟨w,bo,lf⟩=if b0=bo/\w0=w then ⟨id,[p0,⟨m,l,rd,rest,⟨w,bo,lf⟩,out⟩,p2],b,inb,dr⟩ else if bo then ⟨id,[p0,⟨m,l,rd,rest,⟨w,bo,lf⟩,out⟩,p2],metB (zbt ⟨id,[p0,⟨m,l,rd,rest,⟨w,bo,lf⟩,out⟩,p2],parB b 1,inb,dr⟩).b 1,inb,dr⟩ else ⟨id,[p0,⟨m,l,rd,rest,⟨w,bo,lf⟩,out⟩,p2],(zbt ⟨id,[p0,⟨m,l,rd,rest,⟨w,bo,lf⟩,out⟩,p2],parB b 1,inb,dr⟩).b,inb,dr⟩:=by
  unfold zaV;rw[zda];rfl
 rw[hd];rw[zda] at te;clear hd;have mt:=zi6 hB 1;generalize (zbt ⟨id,[p0,⟨m,l,rd,rest,⟨w,bo,lf⟩,out⟩,p2],parB b 1,inb,dr⟩).b=B at *
 generalize metE B 1=F at *
 generalize metB B 1=C at *
 generalize parB b 1=D at *
 exact Y4
theorem zd2(id dr:Int)(b:Ba)(hb:b.ok)(inb:List Mg)(p0 p1 p2:Pt)(hm: ∀p∈[p0,p1,p2],0<=p.m/\p.m<=20)(now:Pe):Fn Tryz.prog 49 [.box 0 0,.v (.int .i64 2),.agg (peRow now)] (rtM ⟨id,[p0,p1,p2],b,inb,dr⟩ 0) (.tup []) (rtM (zaV ⟨id,[p0,p1,p2],b,inb,dr⟩ 2 now) 0):=by
 obtain⟨m,l,rd,rest,⟨w0,b0,l0⟩,out⟩:=p2;obtain⟨w,bo,lf⟩:=now;have pt:=zib hb 2;have hpb:=zf5 hb 2;have te:=zih id dr (parB b 2) hpb inb p0 p1 ⟨m,l,rd,rest,⟨w,bo,lf⟩,out⟩ (by simpa using hm);have hB:=zhm (r:=⟨id,[p0,p1,⟨m,l,rd,rest,⟨w,bo,lf⟩,out⟩],parB b 2,inb,dr⟩) hpb;have hd:zaV ⟨id,[p0,p1,⟨m,l,rd,rest,⟨w0,b0,l0⟩,out⟩],b,inb,dr⟩ 2 ⟨w,bo,lf⟩=if b0=bo/\w0=w then ⟨id,[p0,p1,⟨m,l,rd,rest,⟨w,bo,lf⟩,out⟩],b,inb,dr⟩ else if bo then ⟨id,[p0,p1,⟨m,l,rd,rest,⟨w,bo,lf⟩,out⟩],metB (zbt ⟨id,[p0,p1,⟨m,l,rd,rest,⟨w,bo,lf⟩,out⟩],parB b 2,inb,dr⟩).b 2,inb,dr⟩ else ⟨id,[p0,p1,⟨m,l,rd,rest,⟨w,bo,lf⟩,out⟩],(zbt ⟨id,[p0,p1,⟨m,l,rd,rest,⟨w,bo,lf⟩,out⟩],parB b 2,inb,dr⟩).b,inb,dr⟩:=by
  unfold zaV;rw[zda];rfl
 rw[hd];rw[zda] at te;clear hd;have mt:=zi6 hB 2;generalize (zbt ⟨id,[p0,p1,⟨m,l,rd,rest,⟨w,bo,lf⟩,out⟩],parB b 2,inb,dr⟩).b=B at *
 generalize metE B 2=F at *
 generalize metB B 2=C at *
 generalize parB b 2=D at *
 exact Y4
def tickPl:List (Nat×Pl):=[(11,.op 0 (.op 1 (.op 2 (.op 3 (.op 4 (.op 5 (.op 6 (.op 7 (.op 8 (.op 9 (.op 10 (.op 11 (.op 12 (.op 13 (.op 14 (.done))))))))))))))))]
theorem zgX{α:Type}{f:Rt->α->Rt}(hf: ∀r a,Like r (f r a)): ∀(l:List α) (r:Rt),Like r (l.foldl f r)
 |[],r=>Like.refl r
 |a::l,r=>(hf r a).trans (zgX hf l (f r a))
theorem zc3(r:Rt)(i:Nat):Like r (zbX r i):=by
 have h0:Like r (zas r i):=zam ..;unfold zbX;split
 .exact h0.trans (zaW ..)
 .exact (h0.trans (zaW ..)).trans ((zam ..).trans (zgX (λr a=>zam ..) _ _))
theorem ziD(b:Ba)(p:Int):(owdB b p).length<=6:=Nat.le_trans (List.length_filter_le ..) stsB_len
theorem zdd{l:Lk}(h:l.fit 0):(zaD l).fit 10:=by
 have h1:=zfw h (by decide);unfold zaD;split
 .exact zdv (zdv h1 (by decide)) (by decide)
 .exact h1.low (by have:=h1.ok.out;omega)
theorem zlD{n:Nat}{p:Pt}(h:p.fine n)(x:St3):(zaS x p).fine (n+130):=by
 unfold zaS;split
 .exact zgD h 83 _
 .exact h.up (by omega)
theorem zbz{n:Nat}{p:Pt}(h:p.fine n)(id:Int):(zaQ id p).fine (n+130):=by
 unfold zaQ;split
 .exact zgD h 72 _
 .exact h.up (by omega)
theorem zja{i:Nat}: ∀(l:List St3) {n d:Nat} {r:Rt},r.fine n d->(l.foldl (λq x=>q.onP i (zaS x)) r).fine (n+130*l.length) d
 |[],n,d,r,h=>h
 |x::l,n,d,r,h=>by
  have:=zja (i:=i) l (zbK h (show n<=n+130 by omega) i (λp hp=>zlD hp x));rw[List.length_cons,show n+130*(l.length+1)=n+130+130*l.length by omega];exact this
theorem zdo{n d:Nat}{r:Rt}(h:r.fine n d)(i:Nat):(zas r i).fine (n+1300) d:=
 zbK h (by omega) i (λp hp=>zex (p:={ p with l:=zaD p.l }) (k:=10) hp.m hp.rd hp.pe hp.out (zdd hp.l))
theorem zlA{n d:Nat}{r:Rt}(h:r.fine n d){i:Nat}(hi:i<r.ps.length):(r.pt i).fine n:=by
 unfold Rt.pt;rw[List.getD_eq_getElem?_getD,List.getElem?_eq_getElem hi];exact h.ps _ (List.getElem_mem hi)
theorem zdn{n d:Nat}{r:Rt}(h:r.fine n d){i:Nat}(hi:i<r.ps.length):(zbX r i).fine (n+2210) d:=by
 have h0:=zdo h i;have hlk:Like r (zas r i):=zam ..;have hi0:i<(zas r i).ps.length:=by rw[hlk.2];exact hi
 unfold zbX;split
 .exact (zbr h0 i zfT).up (by omega)
 .have h1:=zbr h0 i (zgA (zlA h0 hi0).pe);have h2:=zbK h1 (show n+1300<=n+1300+130 by omega) i (λp hp=>zbz hp r.id);have h3:=zja (i:=i) (owdB (zaV (zas r i) i (zbD ((zas r i).pt i).p)).b i) h2;have:=ziD (zaV (zas r i) i (zbD ((zas r i).pt i).p)).b i;exact h3.up (by omega)
end Go.Proofs.YtimfnpjcedjmiadGreat
