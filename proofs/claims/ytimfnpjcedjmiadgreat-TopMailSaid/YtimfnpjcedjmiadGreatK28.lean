/- Lemmas. -/
import Derived.Test.YtimfnpjcedjmiadGreatK27
import Derived.Test.YtimfnpjcedjmiadGreatK23
set_option maxRecDepth 100000
set_option maxHeartbeats 64000000
set_option linter.all false
namespace Go.Proofs.YtimfnpjcedjmiadGreat
open Go.RowKit
def recvPl:List (Nat×Pl):=[(9,.op 0 (.op 1 (.op 2 (.op 3 (.op 4 (.op 5 (.op 6 (.done))))))))]
theorem zii(l:List UInt8):(tx l).toList=(⟨#[]⟩:ByteArray).toList↔l=[]:=by rw[toList_bs,toList_bs,bs_tx]
theorem tx_tail(c:UInt8)(l:List UInt8):(tx (c::l)).extract 1 (tx (c::l)).size=tx l:=by
 rw[zdc _ (Nat.le_of_eq (zcz _).symm)];rw[bs_tx,tx_size,List.take_length];rfl
theorem zge{T:List (List UInt8)}{i j:Nat}{R0 r:Rt}(hj:j<T.length)(h:r=(T.take j).foldl (takT i) R0):takT i r T[j]=(T.take (j+1)).foldl (takT i) R0:=by
 rw[zaT hj,List.foldl_append,<-h];rfl
theorem zo6(n d:Nat)(hn:n<=8000000)(hd:d<=900000000)(id dr:Int)(b:Ba)(inb:List Mg)(p0 p1 p2:Pt)(hF:Rt.fine n d ⟨id,[p0,p1,p2],b,inb,dr⟩)(s:ByteArray)(hs:s.size<=2000):Fn Tryz.prog 45 [.box 0 0,.v (.int .i64 0),.v (.string s)] (rtM ⟨id,[p0,p1,p2],b,inb,dr⟩ 0) (.err 0) (rtM (zar ⟨id,[p0,p1,p2],b,inb,dr⟩ 0 (bs s)) 1):=by
 obtain⟨m,l,rd,rest,pe,out⟩:=p0;have at1:=zlI id dr b inb ⟨m,l,rd,rest,pe,out⟩ p1 p2;have hp:=hF.ps ⟨m,l,rd,rest,pe,out⟩ (by simp);have hrd:=hp.rd;dsimp only at hrd;have al:=zki m l pe out rd hrd s (by omega);have hsm:=zeD hrd (bs s);have hln:=(zdG rd (bs s)).1;have hbl:=zcz s;have hR:zar ⟨id,[⟨m,l,rd,rest,pe,out⟩,p1,p2],b,inb,dr⟩ 0 (bs s)=(zaP rd (bs s)).2.1.foldl (takT 0) ⟨id,[⟨m,l,(zaP rd (bs s)).1,(zbg (rest++bs s)).2.2,pe,out⟩,p1,p2],b,inb,dr⟩:=rfl;have hF0:Rt.fine n d ⟨id,[⟨m,l,(zaP rd (bs s)).1,(zbg (rest++bs s)).2.2,pe,out⟩,p1,p2],b,inb,dr⟩:=zbK hF (Nat.le_refl _) 0 (f:=λp=>{ p with rd:=(zaP p.rd (bs s)).1,rest:=(zbg (p.rest++bs s)).2.2 }) (λp hq=>⟨hq.m,hq.l,zei hq.rd _,hq.pe,hq.out⟩);rw[hR];clear hR hF hp;generalize (zbg (rest++bs s)).2.2=REST at *
 generalize (zaP rd (bs s)).2.2=BAD at *
 generalize (zaP rd (bs s)).2.1=T at *
 generalize (zaP rd (bs s)).1=RD at *
 unfold prM at al;simp only[rtM,rtH,zaE,rtP,prQ] at at1 ⊢;refine foP zaA (recvPl) [] [] Tryz.func45 Tryz.ntmps45 Tryz.results45 ?_;(all_goals refine gv ?_;repeat' first|exact .intro|refine Tw.mk ?_ ?_|(intro h;first|replace h:=h.o|cases h))
 all_goals ((refine StopCall.fz zaX (at1) ?_;(all_goals refine lv ?_;repeat' first|exact .intro|refine Tw.mk ?_ ?_|(intro h;first|replace h:=h.o|cases h))))
 all_goals (try (exfalso;first|omega|(simp at h;done)))
 all_goals ((refine StopCall.fz [4,5,6,7] (al) ?_;(all_goals refine lv ?_;repeat' first|exact .intro|refine Tw.mk ?_ ?_|(intro h;first|replace h:=h.o|cases h))))
 clear at1 al;refine lpG2 (λ(j:Nat) (r:Rt)=>⟨[(0,.box 0 0),(1,.v (.int .i64 0)),(30,.sl 1 (T.map λt=>sRow (tx t)) none),(31,.v (.int .i64 T.length)),(32,.v (.int .i64 j))],rtM r 1⟩) (λj r=>j<=T.length/\Like ⟨id,[⟨m,l,RD,REST,pe,out⟩,p1,p2],b,inb,dr⟩ r/\r.fine (n+520*j) (d+j)/\r=(T.take j).foldl (takT 0) ⟨id,[⟨m,l,RD,REST,pe,out⟩,p1,p2],b,inb,dr⟩) (λj _=>T.length-j) 0 ⟨id,[⟨m,l,RD,REST,pe,out⟩,p1,p2],b,inb,dr⟩ ⟨by omega,Like.refl _,hF0,rfl⟩ (by
  simp only[rtM,rtH,zaE,rtP,prQ];(refine zaC [0,1,2,3,4,5,6,7,8,9,10,11,12,13,14,15] ?_;repeat' first|exact .intro|refine Tw.mk ?_ ?_);all_goals (all_goals (try first|rfl|(simp;done)))) ?_
 rintro j r ⟨hj,hlk,hfn,hr⟩;obtain⟨rid,rps,b',inb',dr'⟩:=r;have hlk2:=hlk;obtain⟨h1,h2⟩:=hlk2;dsimp only at h1 h2;obtain⟨q0,q1,q2,rfl⟩:=len3 h2;subst h1;by_cases hj':j<T.length
 .have hst:=zge hj' hr;have hlt:=hlk.trans (zea ⟨rid,[q0,q1,q2],b',inb',dr'⟩ 0 T[j]);have hft:=ze6 hfn 0 T[j];have hsz:=hsm T[j] (List.getElem_mem hj');have hcmp:=zii T[j];have hfi:=hfn.ps q0 (by simp);rcases hT:T[j] with _|⟨c,t⟩
  .exact Y16
  .have ho0:q0.l.out=[]:=List.eq_nil_of_length_eq_zero (by have:=hfi.l.ok.out;omega);rw[hT] at hsz hst hlt hft;rw[List.length_cons] at hsz;have hdr:=hfn.dr;have hinb:=hfn.inb;dsimp only at hdr hinb;have tk:=zpE rid dr' b' hfn.b inb' q0 q1 q2 (λp hp=>(hfn.ps p hp).m) c (tx t) (by show t.length<=_;omega) (hfi.l.ok.mono (by decide)) (λx hx=>by
    rcases zi4 x hx with h|h
    .rw[ho0] at h;cases h
    .omega) (by have:=(zfy (p:=⟨zdB (tx t),pid (tx t),popt (tx t)⟩) hfi.l (by decide)).ok.out;show (takL _ _).out.length<=_;omega) (by omega) (by omega) (λp hp=>by have:=(hfn.ps p hp).out;omega)
   obtain⟨r0,r1,r2,hq⟩:=lit3 (zgE ⟨rid,[q0,q1,q2],b',inb',dr'⟩ 0 c t) rfl;rw[show bs (tx t)=t from rfl,hq] at tk;rw[show takT 0 ⟨rid,[q0,q1,q2],b',inb',dr'⟩ (c::t)=takR ⟨rid,[q0,q1,q2],b',inb',dr'⟩ 0 c t from rfl,hq] at hst hlt hft;clear hq;generalize (takR ⟨rid,[q0,q1,q2],b',inb',dr'⟩ 0 c t).b=b2 at *
   generalize (takR ⟨rid,[q0,q1,q2],b',inb',dr'⟩ 0 c t).inb=inb2 at *
   generalize (takR ⟨rid,[q0,q1,q2],b',inb',dr'⟩ 0 c t).dr=dr2 at *
   exact Y7
 .have e:j=T.length:=by omega
  subst e;rw[List.take_length] at hr;rw[<-hr];simp only[rtM,rtH,zaE,rtP,prQ];(all_goals refine gv ?_;repeat' first|exact .intro|refine Tw.mk ?_ ?_|(intro h;first|replace h:=h.o|cases h))
  all_goals (try (exfalso;omega))
  all_goals exact Y1
theorem zqZ(n d:Nat)(hn:n<=8000000)(hd:d<=900000000)(id dr:Int)(b:Ba)(inb:List Mg)(p0 p1 p2:Pt)(hF:Rt.fine n d ⟨id,[p0,p1,p2],b,inb,dr⟩)(s:ByteArray)(hs:s.size<=2000):Fn Tryz.prog 45 [.box 0 0,.v (.int .i64 1),.v (.string s)] (rtM ⟨id,[p0,p1,p2],b,inb,dr⟩ 0) (.err 0) (rtM (zar ⟨id,[p0,p1,p2],b,inb,dr⟩ 1 (bs s)) 1):=by
 obtain⟨m,l,rd,rest,pe,out⟩:=p1;have at1:=zk1 id dr b inb p0 ⟨m,l,rd,rest,pe,out⟩ p2;have hp:=hF.ps ⟨m,l,rd,rest,pe,out⟩ (by simp);have hrd:=hp.rd;dsimp only at hrd;have al:=zki m l pe out rd hrd s (by omega);have hsm:=zeD hrd (bs s);have hln:=(zdG rd (bs s)).1;have hbl:=zcz s;have hR:zar ⟨id,[p0,⟨m,l,rd,rest,pe,out⟩,p2],b,inb,dr⟩ 1 (bs s)=(zaP rd (bs s)).2.1.foldl (takT 1) ⟨id,[p0,⟨m,l,(zaP rd (bs s)).1,(zbg (rest++bs s)).2.2,pe,out⟩,p2],b,inb,dr⟩:=rfl;have hF0:Rt.fine n d ⟨id,[p0,⟨m,l,(zaP rd (bs s)).1,(zbg (rest++bs s)).2.2,pe,out⟩,p2],b,inb,dr⟩:=zbK hF (Nat.le_refl _) 1 (f:=λp=>{ p with rd:=(zaP p.rd (bs s)).1,rest:=(zbg (p.rest++bs s)).2.2 }) (λp hq=>⟨hq.m,hq.l,zei hq.rd _,hq.pe,hq.out⟩);rw[hR];clear hR hF hp;generalize (zbg (rest++bs s)).2.2=REST at *
 generalize (zaP rd (bs s)).2.2=BAD at *
 generalize (zaP rd (bs s)).2.1=T at *
 generalize (zaP rd (bs s)).1=RD at *
 unfold prM at al;simp only[rtM,rtH,zaE,rtP,prQ] at at1 ⊢;refine foP zaA (recvPl) [] [] Tryz.func45 Tryz.ntmps45 Tryz.results45 ?_;(all_goals refine gv ?_;repeat' first|exact .intro|refine Tw.mk ?_ ?_|(intro h;first|replace h:=h.o|cases h))
 all_goals ((refine StopCall.fz zaX (at1) ?_;(all_goals refine lv ?_;repeat' first|exact .intro|refine Tw.mk ?_ ?_|(intro h;first|replace h:=h.o|cases h))))
 all_goals (try (exfalso;first|omega|(simp at h;done)))
 all_goals ((refine StopCall.fz [8,9,10,11] (al) ?_;(all_goals refine lv ?_;repeat' first|exact .intro|refine Tw.mk ?_ ?_|(intro h;first|replace h:=h.o|cases h))))
 clear at1 al;refine lpG2 (λ(j:Nat) (r:Rt)=>⟨[(0,.box 0 0),(1,.v (.int .i64 1)),(30,.sl 1 (T.map λt=>sRow (tx t)) none),(31,.v (.int .i64 T.length)),(32,.v (.int .i64 j))],rtM r 1⟩) (λj r=>j<=T.length/\Like ⟨id,[p0,⟨m,l,RD,REST,pe,out⟩,p2],b,inb,dr⟩ r/\r.fine (n+520*j) (d+j)/\r=(T.take j).foldl (takT 1) ⟨id,[p0,⟨m,l,RD,REST,pe,out⟩,p2],b,inb,dr⟩) (λj _=>T.length-j) 0 ⟨id,[p0,⟨m,l,RD,REST,pe,out⟩,p2],b,inb,dr⟩ ⟨by omega,Like.refl _,hF0,rfl⟩ (by
  simp only[rtM,rtH,zaE,rtP,prQ];(refine zaC [0,1,2,3,4,5,6,7,8,9,10,11,12,13,14,15] ?_;repeat' first|exact .intro|refine Tw.mk ?_ ?_);all_goals (all_goals (try first|rfl|(simp;done)))) ?_
 rintro j r ⟨hj,hlk,hfn,hr⟩;obtain⟨rid,rps,b',inb',dr'⟩:=r;have hlk2:=hlk;obtain⟨h1,h2⟩:=hlk2;dsimp only at h1 h2;obtain⟨q0,q1,q2,rfl⟩:=len3 h2;subst h1;by_cases hj':j<T.length
 .have hst:=zge hj' hr;have hlt:=hlk.trans (zea ⟨rid,[q0,q1,q2],b',inb',dr'⟩ 1 T[j]);have hft:=ze6 hfn 1 T[j];have hsz:=hsm T[j] (List.getElem_mem hj');have hcmp:=zii T[j];have hfi:=hfn.ps q1 (by simp);rcases hT:T[j] with _|⟨c,t⟩
  .exact Y16
  .have ho0:q1.l.out=[]:=List.eq_nil_of_length_eq_zero (by have:=hfi.l.ok.out;omega);rw[hT] at hsz hst hlt hft;rw[List.length_cons] at hsz;have hdr:=hfn.dr;have hinb:=hfn.inb;dsimp only at hdr hinb;have tk:=znm rid dr' b' hfn.b inb' q0 q1 q2 (λp hp=>(hfn.ps p hp).m) c (tx t) (by show t.length<=_;omega) (hfi.l.ok.mono (by decide)) (λx hx=>by
    rcases zi4 x hx with h|h
    .rw[ho0] at h;cases h
    .omega) (by have:=(zfy (p:=⟨zdB (tx t),pid (tx t),popt (tx t)⟩) hfi.l (by decide)).ok.out;show (takL _ _).out.length<=_;omega) (by omega) (by omega) (λp hp=>by have:=(hfn.ps p hp).out;omega)
   obtain⟨r0,r1,r2,hq⟩:=lit3 (zgE ⟨rid,[q0,q1,q2],b',inb',dr'⟩ 1 c t) rfl;rw[show bs (tx t)=t from rfl,hq] at tk;rw[show takT 1 ⟨rid,[q0,q1,q2],b',inb',dr'⟩ (c::t)=takR ⟨rid,[q0,q1,q2],b',inb',dr'⟩ 1 c t from rfl,hq] at hst hlt hft;clear hq;generalize (takR ⟨rid,[q0,q1,q2],b',inb',dr'⟩ 1 c t).b=b2 at *
   generalize (takR ⟨rid,[q0,q1,q2],b',inb',dr'⟩ 1 c t).inb=inb2 at *
   generalize (takR ⟨rid,[q0,q1,q2],b',inb',dr'⟩ 1 c t).dr=dr2 at *
   exact Y7
 .have e:j=T.length:=by omega
  subst e;rw[List.take_length] at hr;rw[<-hr];simp only[rtM,rtH,zaE,rtP,prQ];(all_goals refine gv ?_;repeat' first|exact .intro|refine Tw.mk ?_ ?_|(intro h;first|replace h:=h.o|cases h))
  all_goals (try (exfalso;omega))
  all_goals exact Y1
theorem zqR(n d:Nat)(hn:n<=8000000)(hd:d<=900000000)(id dr:Int)(b:Ba)(inb:List Mg)(p0 p1 p2:Pt)(hF:Rt.fine n d ⟨id,[p0,p1,p2],b,inb,dr⟩)(s:ByteArray)(hs:s.size<=2000):Fn Tryz.prog 45 [.box 0 0,.v (.int .i64 2),.v (.string s)] (rtM ⟨id,[p0,p1,p2],b,inb,dr⟩ 0) (.err 0) (rtM (zar ⟨id,[p0,p1,p2],b,inb,dr⟩ 2 (bs s)) 1):=by
 obtain⟨m,l,rd,rest,pe,out⟩:=p2;have at1:=zkM id dr b inb p0 p1 ⟨m,l,rd,rest,pe,out⟩;have hp:=hF.ps ⟨m,l,rd,rest,pe,out⟩ (by simp);have hrd:=hp.rd;dsimp only at hrd;have al:=zki m l pe out rd hrd s (by omega);have hsm:=zeD hrd (bs s);have hln:=(zdG rd (bs s)).1;have hbl:=zcz s;have hR:zar ⟨id,[p0,p1,⟨m,l,rd,rest,pe,out⟩],b,inb,dr⟩ 2 (bs s)=(zaP rd (bs s)).2.1.foldl (takT 2) ⟨id,[p0,p1,⟨m,l,(zaP rd (bs s)).1,(zbg (rest++bs s)).2.2,pe,out⟩],b,inb,dr⟩:=rfl;have hF0:Rt.fine n d ⟨id,[p0,p1,⟨m,l,(zaP rd (bs s)).1,(zbg (rest++bs s)).2.2,pe,out⟩],b,inb,dr⟩:=zbK hF (Nat.le_refl _) 2 (f:=λp=>{ p with rd:=(zaP p.rd (bs s)).1,rest:=(zbg (p.rest++bs s)).2.2 }) (λp hq=>⟨hq.m,hq.l,zei hq.rd _,hq.pe,hq.out⟩);rw[hR];clear hR hF hp;generalize (zbg (rest++bs s)).2.2=REST at *
 generalize (zaP rd (bs s)).2.2=BAD at *
 generalize (zaP rd (bs s)).2.1=T at *
 generalize (zaP rd (bs s)).1=RD at *
 unfold prM at al;simp only[rtM,rtH,zaE,rtP,prQ] at at1 ⊢;refine foP zaA (recvPl) [] [] Tryz.func45 Tryz.ntmps45 Tryz.results45 ?_;(all_goals refine gv ?_;repeat' first|exact .intro|refine Tw.mk ?_ ?_|(intro h;first|replace h:=h.o|cases h))
 all_goals ((refine StopCall.fz zaX (at1) ?_;(all_goals refine lv ?_;repeat' first|exact .intro|refine Tw.mk ?_ ?_|(intro h;first|replace h:=h.o|cases h))))
 all_goals (try (exfalso;first|omega|(simp at h;done)))
 all_goals ((refine StopCall.fz [12,13,14,15] (al) ?_;(all_goals refine lv ?_;repeat' first|exact .intro|refine Tw.mk ?_ ?_|(intro h;first|replace h:=h.o|cases h))))
 clear at1 al;refine lpG2 (λ(j:Nat) (r:Rt)=>⟨[(0,.box 0 0),(1,.v (.int .i64 2)),(30,.sl 1 (T.map λt=>sRow (tx t)) none),(31,.v (.int .i64 T.length)),(32,.v (.int .i64 j))],rtM r 1⟩) (λj r=>j<=T.length/\Like ⟨id,[p0,p1,⟨m,l,RD,REST,pe,out⟩],b,inb,dr⟩ r/\r.fine (n+520*j) (d+j)/\r=(T.take j).foldl (takT 2) ⟨id,[p0,p1,⟨m,l,RD,REST,pe,out⟩],b,inb,dr⟩) (λj _=>T.length-j) 0 ⟨id,[p0,p1,⟨m,l,RD,REST,pe,out⟩],b,inb,dr⟩ ⟨by omega,Like.refl _,hF0,rfl⟩ (by
  simp only[rtM,rtH,zaE,rtP,prQ];(refine zaC [0,1,2,3,4,5,6,7,8,9,10,11,12,13,14,15] ?_;repeat' first|exact .intro|refine Tw.mk ?_ ?_);all_goals (all_goals (try first|rfl|(simp;done)))) ?_
 rintro j r ⟨hj,hlk,hfn,hr⟩;obtain⟨rid,rps,b',inb',dr'⟩:=r;have hlk2:=hlk;obtain⟨h1,h2⟩:=hlk2;dsimp only at h1 h2;obtain⟨q0,q1,q2,rfl⟩:=len3 h2;subst h1;by_cases hj':j<T.length
 .have hst:=zge hj' hr;have hlt:=hlk.trans (zea ⟨rid,[q0,q1,q2],b',inb',dr'⟩ 2 T[j]);have hft:=ze6 hfn 2 T[j];have hsz:=hsm T[j] (List.getElem_mem hj');have hcmp:=zii T[j];have hfi:=hfn.ps q2 (by simp);rcases hT:T[j] with _|⟨c,t⟩
  .exact Y16
  .have ho0:q2.l.out=[]:=List.eq_nil_of_length_eq_zero (by have:=hfi.l.ok.out;omega);rw[hT] at hsz hst hlt hft;rw[List.length_cons] at hsz;have hdr:=hfn.dr;have hinb:=hfn.inb;dsimp only at hdr hinb;have tk:=zon rid dr' b' hfn.b inb' q0 q1 q2 (λp hp=>(hfn.ps p hp).m) c (tx t) (by show t.length<=_;omega) (hfi.l.ok.mono (by decide)) (λx hx=>by
    rcases zi4 x hx with h|h
    .rw[ho0] at h;cases h
    .omega) (by have:=(zfy (p:=⟨zdB (tx t),pid (tx t),popt (tx t)⟩) hfi.l (by decide)).ok.out;show (takL _ _).out.length<=_;omega) (by omega) (by omega) (λp hp=>by have:=(hfn.ps p hp).out;omega)
   obtain⟨r0,r1,r2,hq⟩:=lit3 (zgE ⟨rid,[q0,q1,q2],b',inb',dr'⟩ 2 c t) rfl;rw[show bs (tx t)=t from rfl,hq] at tk;rw[show takT 2 ⟨rid,[q0,q1,q2],b',inb',dr'⟩ (c::t)=takR ⟨rid,[q0,q1,q2],b',inb',dr'⟩ 2 c t from rfl,hq] at hst hlt hft;clear hq;generalize (takR ⟨rid,[q0,q1,q2],b',inb',dr'⟩ 2 c t).b=b2 at *
   generalize (takR ⟨rid,[q0,q1,q2],b',inb',dr'⟩ 2 c t).inb=inb2 at *
   generalize (takR ⟨rid,[q0,q1,q2],b',inb',dr'⟩ 2 c t).dr=dr2 at *
   exact Y7
 .have e:j=T.length:=by omega
  subst e;rw[List.take_length] at hr;rw[<-hr];simp only[rtM,rtH,zaE,rtP,prQ];(all_goals refine gv ?_;repeat' first|exact .intro|refine Tw.mk ?_ ?_|(intro h;first|replace h:=h.o|cases h))
  all_goals (try (exfalso;omega))
  all_goals exact Y1
end Go.Proofs.YtimfnpjcedjmiadGreat
