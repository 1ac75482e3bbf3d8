/- Lemmas. -/
import Derived.Test.YtimfnpjcedjmiadGreatK21
set_option maxRecDepth 100000
set_option maxHeartbeats 64000000
set_option linter.all false
namespace Go.Proofs.YtimfnpjcedjmiadGreat
open Go.RowKit
theorem zhs{b:Ba}(hb:b.ok)(p:Int):Fn Tryz.prog 70 [.box 0 0,.v (.int .i64 p)] [baR b] (.tup []) [baR (parB b p)]:=
 zch hb.n1 hb.n3 (zfQ hb p).n1 (zfQ hb p).n3 (fpart_ok b.kn b.ow hb.n1 hb.n3 p) rfl
theorem zdl(r:Rt):zbL r={ r with b:=(zbL r).b }:=by unfold zbL;split<;>rfl
theorem zhq{r:Rt}(h:r.b.ok):(zbL r).b.ok:=by
 unfold zbL;split
 .exact zfU h _
 .exact h
theorem zdN(id dr:Int)(b:Ba)(hb:b.ok)(inb:List Mg)(p0 p1 p2:Pt)(hm: ∀p∈[p0,p1,p2],0<=p.m/\p.m<=20)(now:Pe):Fn Tryz.prog 49 [.box 0 0,.v (.int .i64 0),.agg (peRow now)] (rtM ⟨id,[p0,p1,p2],b,inb,dr⟩ 0) (.tup []) (rtM (zaU ⟨id,[p0,p1,p2],b,inb,dr⟩ 0 now) 0):=by
 obtain⟨m,l,rd,rest,⟨w0,b0,l0⟩,out⟩:=p0;obtain⟨w,bo,lf⟩:=now;have pt:=zhs hb 0;have hpb:=zfQ hb 0;have te:=zie id dr (parB b 0) hpb inb ⟨m,l,rd,rest,⟨w,bo,lf⟩,out⟩ p1 p2 (by simpa using hm);have hB:=zhq (r:=⟨id,[⟨m,l,rd,rest,⟨w,bo,lf⟩,out⟩,p1,p2],parB b 0,inb,dr⟩) hpb;have hd:zaU ⟨id,[⟨m,l,rd,rest,⟨w0,b0,l0⟩,out⟩,p1,p2],b,inb,dr⟩ 0 ⟨w,bo,lf⟩=if b0=bo/\w0=w then ⟨id,[⟨m,l,rd,rest,⟨w,bo,lf⟩,out⟩,p1,p2],b,inb,dr⟩ else if bo then ⟨id,[⟨m,l,rd,rest,⟨w,bo,lf⟩,out⟩,p1,p2],metB (zbL ⟨id,[⟨m,l,rd,rest,⟨w,bo,lf⟩,out⟩,p1,p2],parB b 0,inb,dr⟩).b 0,inb,dr⟩ else ⟨id,[⟨m,l,rd,rest,⟨w,bo,lf⟩,out⟩,p1,p2],(zbL ⟨id,[⟨m,l,rd,rest,⟨w,bo,lf⟩,out⟩,p1,p2],parB b 0,inb,dr⟩).b,inb,dr⟩:=by
  unfold zaU;rw[zdl];rfl
 rw[hd];rw[zdl] at te;clear hd;have mt:=zig hB 0;generalize (zbL ⟨id,[⟨m,l,rd,rest,⟨w,bo,lf⟩,out⟩,p1,p2],parB b 0,inb,dr⟩).b=B at *
 generalize metE B 0=F at *
 generalize metB B 0=C at *
 generalize parB b 0=D at *
 exact Y4
theorem zd0(id dr:Int)(b:Ba)(hb:b.ok)(inb:List Mg)(p0 p1 p2:Pt)(hm: ∀p∈[p0,p1,p2],0<=p.m/\p.m<=20)(now:Pe):Fn Tryz.prog 49 [.box 0 0,.v (.int .i64 1),.agg (peRow now)] (rtM ⟨id,[p0,p1,p2],b,inb,dr⟩ 0) (.tup []) (rtM (zaU ⟨id,[p0,p1,p2],b,inb,dr⟩ 1 now) 0):=by
 obtain⟨m,l,rd,rest,⟨w0,b0,l0⟩,out⟩:=p1;obtain⟨w,bo,lf⟩:=now;have pt:=zhs hb 1;have hpb:=zfQ hb 1;have te:=zie id dr (parB b 1) hpb inb p0 ⟨m,l,rd,rest,⟨w,bo,lf⟩,out⟩ p2 (by simpa using hm);have hB:=zhq (r:=⟨id,[p0,⟨m,l,rd,rest,⟨w,bo,lf⟩,out⟩,p2],parB b 1,inb,dr⟩) hpb;have hd:zaU ⟨id,[p0,⟨m,l,rd,rest,⟨w0,b0,l0⟩,out⟩,p2],b,inb,dr⟩ 1 ⟨w,bo,lf⟩=if b0=bo/\w0=w then ⟨id,[p0,⟨m,l,rd,rest,⟨w,bo,lf⟩,out⟩,p2],b,inb,dr⟩ else if bo then ⟨id,[p0,⟨m,l,rd,rest,⟨w,bo,lf⟩,out⟩,p2],metB (zbL ⟨id,[p0,⟨m,l,rd,rest,⟨w,bo,lf⟩,out⟩,p2],parB b 1,inb,dr⟩).b 1,inb,dr⟩ else ⟨id,[p0,⟨m,l,rd,rest,⟨w,bo,lf⟩,out⟩,p2],(zbL ⟨id,[p0,⟨m,l,rd,rest,⟨w,bo,lf⟩,out⟩,p2],parB b 1,inb,dr⟩).b,inb,dr⟩:=by
  unfold zaU;rw[zdl];rfl
 rw[hd];rw[zdl] at te;clear hd;have mt:=zig hB 1;generalize (zbL ⟨id,[p0,⟨m,l,rd,rest,⟨w,bo,lf⟩,out⟩,p2],parB b 1,inb,dr⟩).b=B at *
 generalize metE B 1=F at *
 generalize metB B 1=C at *
 generalize parB b 1=D at *
 exact Y4
theorem zdV(id dr:Int)(b:Ba)(hb:b.ok)(inb:List Mg)(p0 p1 p2:Pt)(hm: ∀p∈[p0,p1,p2],0<=p.m/\p.m<=20)(now:Pe):Fn Tryz.prog 49 [.box 0 0,.v (.int .i64 2),.agg (peRow now)] (rtM ⟨id,[p0,p1,p2],b,inb,dr⟩ 0) (.tup []) (rtM (zaU ⟨id,[p0,p1,p2],b,inb,dr⟩ 2 now) 0):=by
 obtain⟨m,l,rd,rest,⟨w0,b0,l0⟩,out⟩:=p2;obtain⟨w,bo,lf⟩:=now;have pt:=zhs hb 2;have hpb:=zfQ hb 2;have te:=zie id dr (parB b 2) hpb inb p0 p1 ⟨m,l,rd,rest,⟨w,bo,lf⟩,out⟩ (by simpa using hm);have hB:=zhq (r:=⟨id,[p0,p1,⟨m,l,rd,rest,⟨w,bo,lf⟩,out⟩],parB b 2,inb,dr⟩) hpb;have hd:zaU ⟨id,[p0,p1,⟨m,l,rd,rest,⟨w0,b0,l0⟩,out⟩],b,inb,dr⟩ 2 ⟨w,bo,lf⟩=if b0=bo/\w0=w then ⟨id,[p0,p1,⟨m,l,rd,rest,⟨w,bo,lf⟩,out⟩],b,inb,dr⟩ else if bo then ⟨id,[p0,p1,⟨m,l,rd,rest,⟨w,bo,lf⟩,out⟩],metB (zbL ⟨id,[p0,p1,⟨m,l,rd,rest,⟨w,bo,lf⟩,out⟩],parB b 2,inb,dr⟩).b 2,inb,dr⟩ else ⟨id,[p0,p1,⟨m,l,rd,rest,⟨w,bo,lf⟩,out⟩],(zbL ⟨id,[p0,p1,⟨m,l,rd,rest,⟨w,bo,lf⟩,out⟩],parB b 2,inb,dr⟩).b,inb,dr⟩:=by
  unfold zaU;rw[zdl];rfl
 rw[hd];rw[zdl] at te;clear hd;have mt:=zig hB 2;generalize (zbL ⟨id,[p0,p1,⟨m,l,rd,rest,⟨w,bo,lf⟩,out⟩],parB b 2,inb,dr⟩).b=B at *
 generalize metE B 2=F at *
 generalize metB B 2=C at *
 generalize parB b 2=D at *
 exact Y4
def tickPl:List (Nat×Pl):=[(11,.op 0 (.op 1 (.op 2 (.op 3 (.op 4 (.op 5 (.op 6 (.op 7 (.op 8 (.op 9 (.op 10 (.op 11 (.op 12 (.op 13 (.op 14 (.done))))))))))))))))]
theorem zgm{α:Type}{f:Rt->α->Rt}(hf: ∀r a,Like r (f r a)): ∀(l:List α) (r:Rt),Like r (l.foldl f r)
 |[],r=>Like.refl r
 |a::l,r=>(hf r a).trans (zgm hf l (f r a))
theorem zcY(r:Rt)(i:Nat):Like r (zb3 r i):=by
 have h0:Like r (zak r i):=zad ..;unfold zb3;split
 .exact h0.trans (zaW ..)
 .exact (h0.trans (zaW ..)).trans ((zad ..).trans (zgm (λr a=>zad ..) _ _))
theorem zi3(b:Ba)(p:Int):(owdB b p).length<=6:=Nat.le_trans (List.length_filter_le ..) stsB_len
theorem zd3{l:Lk}(h:l.fit 0):(zaD l).fit 10:=by
 have h1:=zfo h (by decide);unfold zaD;split
 .exact zdq (zdq h1 (by decide)) (by decide)
 .exact h1.low (by have:=h1.ok.out;omega)
theorem zkF{n:Nat}{p:Pt}(h:p.fine n)(x:St3):(zaS x p).fine (n+130):=by
 unfold zaS;split
 .exact zgC h 83 _
 .exact h.up (by omega)
theorem zbz{n:Nat}{p:Pt}(h:p.fine n)(id:Int):(zaP id p).fine (n+130):=by
 unfold zaP;split
 .exact zgC h 72 _
 .exact h.up (by omega)
theorem zjM{i:Nat}: ∀(l:List St3) {n d:Nat} {r:Rt},r.fine n d->(l.foldl (λq x=>q.onP i (zaS x)) r).fine (n+130*l.length) d
 |[],n,d,r,h=>h
 |x::l,n,d,r,h=>by
  have:=zjM (i:=i) l (zbH h (show n<=n+130 by omega) i (λp hp=>zkF hp x));rw[List.length_cons,show n+130*(l.length+1)=n+130+130*l.length by omega];exact this
theorem zdb{n d:Nat}{r:Rt}(h:r.fine n d)(i:Nat):(zak r i).fine (n+1300) d:=
 zbH h (by omega) i (λp hp=>zf0 (p:={ p with l:=zaD p.l }) (k:=10) hp.m hp.rd hp.pe hp.out (zd3 hp.l))
theorem zkL{n d:Nat}{r:Rt}(h:r.fine n d){i:Nat}(hi:i<r.ps.length):(r.pt i).fine n:=by
 unfold Rt.pt;rw[List.getD_eq_getElem?_getD,List.getElem?_eq_getElem hi];exact h.ps _ (List.getElem_mem hi)
theorem zdj{n d:Nat}{r:Rt}(h:r.fine n d){i:Nat}(hi:i<r.ps.length):(zb3 r i).fine (n+2210) d:=by
 have h0:=zdb h i;have hlk:Like r (zak r i):=zad ..;have hi0:i<(zak r i).ps.length:=by rw[hlk.2];exact hi
 unfold zb3;split
 .exact (zbp h0 i zfE).up (by omega)
 .have h1:=zbp h0 i (zfy (zkL h0 hi0).pe);have h2:=zbH h1 (show n+1300<=n+1300+130 by omega) i (λp hp=>zbz hp r.id);have h3:=zjM (i:=i) (owdB (zaU (zak r i) i (zay ((zak r i).pt i).p)).b i) h2;have:=zi3 (zaU (zak r i) i (zay ((zak r i).pt i).p)).b i;exact h3.up (by omega)
end Go.Proofs.YtimfnpjcedjmiadGreat
