/- Lemmas. -/
import Derived.Test.YtimfnpjcedjmiadGreatK32
set_option maxRecDepth 100000
set_option maxHeartbeats 64000000
set_option linter.all false
namespace Go.Proofs.YtimfnpjcedjmiadGreat
open Go.RowKit
theorem znP{α:Type}{l:List α}{i:Nat}{x:α}(h:l[i]? =some x)(f:α->α):l.modify i f=l.set i (f x):=by
 refine List.ext_getElem? λj=>?_;rw[List.getElem?_modify,List.getElem?_set];by_cases e:i=j
 .subst e;rw[if_pos rfl,if_pos (List.getElem?_eq_some_iff.1 h).1,h];simp
 .rw[if_neg e];simp [e]
theorem zby{M:Nt}{i:Int}{r:Rt}(hr:M.rs[(i-1).toNat]? =some r)(F:Rt->Rt):M.onR i F=⟨M.rs.set (i-1).toNat (F r),M.cs,M.mt,M.ib⟩:=by
 unfold Nt.onR;rw[znP hr]
theorem rt_get{M:Nt}{i:Int}{r:Rt}(hr:M.rs[(i-1).toNat]? =some r):M.rt i=r:=by
 unfold Nt.rt;rw[List.getD_eq_getElem?_getD,hr];rfl
theorem g0_form{M:Nt}{i:Nat}{c:Cb}(hc:M.cs[i]? =some c){r:Rt}(hr:M.rs[(c.a-1).toNat]? =some r):zcE M i=⟨M.rs.set (c.a-1).toNat (outR r c.pa.toNat),M.cs.set i { c with w0:=putW c.inn c.w0 (r.pt c.pa.toNat).out },M.mt,M.ib⟩:=by
 unfold zcE;rw[hc];dsimp only;rw[zby hr,rt_get hr]
theorem g1_form{M:Nt}{i:Nat}{c:Cb}(hc:M.cs[i]? =some c){r:Rt}(hr:M.rs[(c.b-1).toNat]? =some r):zdo M i=⟨M.rs.set (c.b-1).toNat (outR r c.pb.toNat),M.cs.set i { c with w1:=putW c.inn c.w1 (r.pt c.pb.toNat).out },M.mt,M.ib⟩:=by
 unfold zdo;rw[hc];dsimp only;rw[zby hr,rt_get hr]
def rowsJ:Nat->Nat->List (List Mg)->List (List AV)
 |_,_,[]=>[]
 |q,0,l::ib=>[.arr q 0 l.length]::rowsJ (q+1) 0 ib
 |q,j+1,l::ib=>[.arr q 1 l.length]::rowsJ (q+1) j ib
def resJ:Nat->List (List Mg)->List Res
 |_,[]=>[]
 |0,l::ib=>.arr true 67 3 0 (l.map zdw)::resJ 0 ib
 |j+1,l::ib=>.arr true 67 3 1 (l.map zdw)::resJ j ib
def ntJ(N:Nt)(v:Nat->Nat)(j:Nat):List Res:=
 .cells [.arr 1 0 N.ib.length,.arr 2 0 N.cs.length,.arr 3 0 N.mt.length,.arr 4 0 N.ib.length]::.arr false 45 1 0 (zhV v N.ib.length)::.arr true 91 8 0 (N.cs.map zb2)::.arr true 88 1 0 (N.mt.map mtRow)::.arr false 63 1 0 (rowsJ 6 j N.ib)::famR (xsV v N.ib.length) N.rs::resJ j N.ib
def Nt.J(N:Nt):Nat->Nt
 |0=>N
 |j+1=>zbT (N.J j) j
theorem J_fold(N:Nt): ∀j,(List.range j).foldl zbT N=N.J j
 |0=>rfl
 |j+1=>by rw[List.range_succ,List.foldl_append,J_fold N j];rfl
theorem zoQ{M:Nt}{j:Nat}{r:Rt}(hr:M.rs[j]? =some r):zbT M j=⟨M.rs.set j { r with inb:=[] },M.cs,M.mt,M.ib.modify j (λl=>l++r.inb)⟩:=by
 unfold zbT;rw[znP hr,List.getD_eq_getElem?_getD,hr];rfl
structure JOk (k n d e:Nat) (N:Nt) (j:Nat) (M:Nt):Prop where
 rs:M.rs.length=k
 ib:M.ib.length=k
 r: ∀r∈M.rs,r.f3 n d
 i: ∀(i:Nat) (l:List Mg),j<=i->M.ib[i]? =some l->l.length<=e
 cs:M.cs=N.cs
 mt:M.mt=N.mt
theorem J_ok{k n d e:Nat}{N:Nt}(h:N.ok k n d e): ∀j,JOk k n d e N j (N.J j)
 |0=>⟨h.rs,h.ib,h.r,λi l _ hl=>h.i l (getq hl),rfl,rfl⟩
 |j+1=>by
  have q:=J_ok h j;show JOk k n d e N (j+1) (zbT (N.J j) j);generalize N.J j=M at *
  refine⟨by rw[<-q.rs];exact List.length_modify .., by rw[<-q.ib];exact List.length_modify .., λr hr=>?_,λi l hi hl=>?_,q.cs,q.mt⟩
  .rcases zeJ (show r∈M.rs.modify j _ from hr) with g|⟨y,hy,rfl⟩
   .exact q.r r g
   .have:=q.r y hy;exact⟨this.p3,this.f.b,this.f.ps,Nat.zero_le _,this.f.dr⟩
  .have hl':(M.ib.modify j _)[i]? =some l:=hl;rw[List.getElem?_modify] at hl';have hne: ¬j=i:=by omega
   have hl2:M.ib[i]? =some l:=by simpa[hne] using hl'
   exact q.i i l (by omega) hl2
def zdL(K:Nat):Prop:= ∀(k n d e:Nat) (N:Nt) (v:Nat->Nat),n<=10000000->e<=1000000000000->1<=k/\k<=6->N.ok k n d e->k=K->Fn Tryz.prog 37 [.box 0 0] (ntE N v 0) (.tup []) (ntE (zbM N) v 1)
theorem zdf(K:Nat)(h:zdL K:=by
  intro k n d e N v hn he hk hN hkk;obtain⟨N0,hN0⟩: ∃N0,N0=N:=⟨_,rfl⟩;have hcs9:=hN.cs;have l2:=hN.ib;rw[<-hN0];have hNk:N0.rs.length=k:=by rw[hN0];exact hN.rs
  obtain⟨rs,cs,mt,ib⟩:=N;dsimp only at hcs9 l2;obtain⟨IB,hIB⟩: ∃IB,IB=ib:=⟨_,rfl⟩;obtain⟨R,hR⟩: ∃R,R=zbM N0:=⟨_,rfl⟩;rw[<-hR];rw[hkk] at l2;first|obtain⟨b0,rfl⟩:=len1 l2|obtain⟨b0,b1,rfl⟩:=len2 l2|obtain⟨b0,b1,b2,rfl⟩:=len3 l2|obtain⟨b0,b1,b2,b3,rfl⟩:=len4 l2|obtain⟨b0,b1,b2,b3,b4,rfl⟩:=len5 l2|obtain⟨b0,b1,b2,b3,b4,b5,rfl⟩:=len6 l2
  rw[hN0];simp only[ntE,rowsI,resI,List.length_cons,List.length_nil,Nat.zero_add,Nat.reduceAdd];refine foP zaA (gathPl) [] [16] Tryz.func37 Tryz.ntmps37 Tryz.results37 ?_;(all_goals refine fv ?_;repeat' first|exact .intro|refine Tw.mk ?_ ?_|(intro h;first|replace h:=h.o|cases h))
  refine lpG2 (λ(i:Nat) (M:Nt)=>⟨[(0,.box 0 0),(13,.arr 2 0 cs.length),(14,.v (.int .i64 cs.length)),(15,.v (.int .i64 i))],ntE M v 0⟩) (λi M=>i<=cs.length/\M.ib=IB/\M.mt=mt/\M.cs.length=cs.length/\M.ok k n d e/\M=(List.range i).foldl zfj N0) (λi _=>cs.length-i) 0 N0 ⟨by omega,by rw[hN0,hIB],by rw[hN0],by rw[hN0],by rw[hN0];exact hN,rfl⟩ (by
   rw[hN0];simp only[ntE,rowsI,resI,List.length_cons,List.length_nil,Nat.zero_add,Nat.reduceAdd];(refine za2 ?_;repeat' first|exact .intro|refine Tw.mk ?_ ?_);all_goals (simp;done)) ?_
  rintro i M ⟨hi,hib,hmt,hcl,hok,hM⟩;obtain⟨M0,hM0⟩: ∃M0:Nt,M0=M:=⟨_,rfl⟩;rw[<-hM0] at hM hok;obtain⟨qs,cs',mt',ib'⟩:=M;have hqs:=hok.rs;rw[hM0] at hqs;dsimp only at hib hmt hcl hqs;rw[hIB] at hib;subst hib hmt;by_cases hi':i<cs.length
  .obtain⟨c,hc⟩: ∃c,cs'[i]? =some c:=⟨_,List.getElem?_eq_getElem (by omega)⟩;have hco:=hok.c c (by rw[hM0];exact getq hc);have hst:=zc5 hM;obtain⟨G0,hG0⟩: ∃G0,G0=zcE M0 i:=⟨_,rfl⟩;obtain⟨G1,hG1⟩: ∃G1,G1=zfj M0 i:=⟨_,rfl⟩;have hG1':G1=zdo G0 i:=by rw[hG1,hG0];rfl
   have hcM:M0.cs[i]? =some c:=by rw[hM0];exact hc
   have hkc:G1.ok k n d e:=by rw[hG1];exact ok_g1 (ok_g0 hok i) i
   have hlc:G1.cs.length=cs.length:=by rw[hG1];unfold zfj;rw[cs_g1,cs_g0,hM0];exact hcl
   have hic:G1.ib=IB/\G1.mt=mt':=by
    rw[hG1];unfold zfj zdo;split<;>(unfold zcE;split<;>(rw[hM0,hIB];exact⟨rfl,rfl⟩))
   have hk1:G0.ok k n d e:=by rw[hG0];exact ok_g0 hok i
   have hi1:G0.ib=IB/\G0.mt=mt':=by
    rw[hG0];unfold zcE;split<;>(rw[hM0,hIB];exact⟨rfl,rfl⟩)
   have hc1:=g0_cb hcM;rw[<-hG0] at hc1;rw[<-hG1] at hst;obtain⟨ca,cpa,cb,cpb,cm,inn,w0,w1⟩:=c;have hrow:(cs'.map zb2)[i]? =some [.v (.int .i64 ca),.v (.int .i64 cpa),.v (.int .i64 cb),.v (.int .i64 cpb),.v (.int .i64 cm),.v (.bool inn),.v (.string (tx w0)),.v (.string (tx w1))]:=zf4 hc;obtain⟨ha,hpa,hb,hpb,hw0,hw1⟩:=hco;dsimp only at ha hpa hb hpb hw0 hw1 hc1;have hz0:(tx w0).size=w0.length:=tx_size;have hz1:(tx w1).size=w1.length:=tx_size;simp only[ntE,rowsI,resI,List.length_cons,List.length_nil,Nat.zero_add,Nat.reduceAdd];(all_goals refine fw ?_;repeat' first|exact .intro|refine Tw.mk ?_ ?_|(intro h;first|replace h:=h.o|cases h))
   all_goals (try (exfalso;omega))
   refine lpG2 (λ(w:Nat) (M:Nt)=>⟨(match w with|0=>[(0,.box 0 0),(3,.elt 2 0 8 i 0),(13,.arr 2 0 cs.length),(14,.v (.int .i64 cs.length)),(15,.v (.int .i64 i)),(46,.sl 2 [[.v (.int .i64 ca),.v (.int .i64 cpa)],[.v (.int .i64 cb),.v (.int .i64 cpb)]] none),(47,.v (.int .i64 2)),(48,.v (.int .i64 0))]|1=>[(0,.box 0 0),(3,.elt 2 0 8 i 0),(13,.arr 2 0 cs.length),(14,.v (.int .i64 cs.length)),(15,.v (.int .i64 i)),(46,.sl 2 [[.v (.int .i64 ca),.v (.int .i64 cpa)],[.v (.int .i64 cb),.v (.int .i64 cpb)]] none),(47,.v (.int .i64 2)),(48,.v (.int .i64 1))]|_=>[(0,.box 0 0),(3,.elt 2 0 8 i 0),(13,.arr 2 0 cs.length),(14,.v (.int .i64 cs.length)),(15,.v (.int .i64 i)),(46,.sl 2 [[.v (.int .i64 ca),.v (.int .i64 cpa)],[.v (.int .i64 cb),.v (.int .i64 cpb)]] none),(47,.v (.int .i64 2)),(48,.v (.int .i64 2))]),ntE M v 0⟩) (λw M=>w<=2/\M=(match w with|0=>M0|1=>G0|_=>G1)) (λw _=>2-w) 0 M0 ⟨by omega,rfl⟩ (by
    rw[hM0];simp only[ntE,rowsI,resI,List.length_cons,List.length_nil,Nat.zero_add,Nat.reduceAdd];(refine za2 ?_;repeat' first|exact .intro|refine Tw.mk ?_ ?_)) ?_
   rintro w M ⟨hw,hMw⟩;refine orN2 hw (λew=>?_) (λew=>?_) (λew=>?_)
   .subst ew;have hMw:M=M0:=hMw;rw[hMw,hM0];clear hMw;obtain⟨r,hr⟩: ∃r,qs[(ca-1).toNat]? =some r:=⟨_,List.getElem?_eq_getElem (by omega)⟩;have hf:=hok.r r (by rw[hM0];exact getq hr);have hro:=zkL hf.f (i:=cpa.toNat) (by rw[hf.p3];omega);have xo:=zeY (xrout hf.p3 cpa hpa) hr (zbb (v:=v) (k:=k) (by omega)) rfl rfl;have hrr:=zam (v:=v) (k:=k) (j:=(ca-1).toNat) (by omega);rw[hkk] at xo hrr;have hg:=g0_form hcM (r:=r) (by rw[hM0];exact hr);rw[<-hG0,hM0] at hg;dsimp only at hg;have hlo:=hro.out;generalize (r.pt cpa.toNat).out=O at *
    have hzO:(tx O).size=O.length:=tx_size;rcases gcase inn w0 O with⟨rfl,hW⟩|⟨rfl,hf,hW⟩|⟨rfl,hf,hW⟩
    all_goals
     rw[hW] at hg;simp only[ntE,rowsI,resI,List.length_cons,List.length_nil,Nat.zero_add,Nat.reduceAdd];(all_goals refine fw ?_;repeat' first|exact .intro|refine Tw.mk ?_ ?_|(intro h;first|replace h:=h.o|cases h))
     all_goals (try (exfalso;omega))
     all_goals ((refine StopCall.fz [5] (xo) ?_;(all_goals refine fw ?_;repeat' first|exact .intro|refine Tw.mk ?_ ?_|(intro h;first|replace h:=h.o|cases h))))
     all_goals (try (exfalso;omega))
     all_goals (refine za5 1 _ ⟨by omega,hg.symm⟩ (by omega) (by
      simp only[ntE,rowsI,resI,List.length_cons,List.length_nil,Nat.zero_add,Nat.reduceAdd];(refine za2 ?_;repeat' first|exact .intro|refine Tw.mk ?_ ?_);all_goals (first|(rw[<-zjH];simp only[zb2,<-tx_app];rfl)|(rw[ziP hc];done)|(simp;done)|skip)))
   .subst ew;have hMw:M=G0:=hMw;rw[hMw];clear hMw;obtain⟨rs1,cs1,mt1,ib1⟩:=G0;obtain⟨e1,e2⟩:=hi1;have hrs1:=hk1.rs;dsimp only at e1 e2 hc1 hrs1;generalize putW inn w0 _=w0' at hc1;have hrow1:(cs1.map zb2)[i]? =some [.v (.int .i64 ca),.v (.int .i64 cpa),.v (.int .i64 cb),.v (.int .i64 cpb),.v (.int .i64 cm),.v (.bool inn),.v (.string (tx w0')),.v (.string (tx w1))]:=zf4 hc1;have hz0':(tx w0').size=w0'.length:=tx_size;obtain⟨r,hr⟩: ∃r,rs1[(cb-1).toNat]? =some r:=⟨_,List.getElem?_eq_getElem (by omega)⟩;have hf:=hk1.r r (getq hr);have hro:=zkL hf.f (i:=cpb.toNat) (by rw[hf.p3];omega);have xo:=zeY (xrout hf.p3 cpb hpb) hr (zbb (v:=v) (k:=k) (by omega)) rfl rfl;have hrr:=zam (v:=v) (k:=k) (j:=(cb-1).toNat) (by omega);rw[hkk] at xo hrr;have hg:=g1_form (M:=⟨rs1,cs1,mt1,ib1⟩) (c:=⟨ca,cpa,cb,cpb,cm,inn,w0',w1⟩) hc1 (r:=r) hr;rw[<-hG1'] at hg;rw[hIB] at e1;subst e1;dsimp only at hg;have hlo:=hro.out;generalize (r.pt cpb.toNat).out=O at *
    have hzO:(tx O).size=O.length:=tx_size;rcases gcase inn w1 O with⟨rfl,hW⟩|⟨rfl,hf,hW⟩|⟨rfl,hf,hW⟩
    all_goals
     rw[hW] at hg;simp only[ntE,rowsI,resI,List.length_cons,List.length_nil,Nat.zero_add,Nat.reduceAdd];(all_goals refine fw ?_;repeat' first|exact .intro|refine Tw.mk ?_ ?_|(intro h;first|replace h:=h.o|cases h))
     all_goals (try (exfalso;omega))
     all_goals ((refine StopCall.fz [5] (xo) ?_;(all_goals refine fw ?_;repeat' first|exact .intro|refine Tw.mk ?_ ?_|(intro h;first|replace h:=h.o|cases h))))
     all_goals (try (exfalso;omega))
     all_goals (refine za5 2 _ ⟨by omega,hg.symm⟩ (by omega) (by
      simp only[ntE,rowsI,resI,List.length_cons,List.length_nil,Nat.zero_add,Nat.reduceAdd];(refine za2 ?_;repeat' first|exact .intro|refine Tw.mk ?_ ?_);all_goals (first|(rw[<-zjH];simp only[zb2,<-tx_app];rfl)|(rw[ziP hc1];done)|(simp;done)|skip)))
   .subst ew;have hMw:M=G1:=hMw;rw[hMw];clear hMw hG1 hG1';obtain⟨rs1,cs1,mt1,ib1⟩:=G1;obtain⟨e1,e2⟩:=hic;dsimp only at e1 e2 hlc;rw[hIB] at e1;subst e1 e2;simp only[ntE,rowsI,resI,List.length_cons,List.length_nil,Nat.zero_add,Nat.reduceAdd];(all_goals refine fw ?_;repeat' first|exact .intro|refine Tw.mk ?_ ?_|(intro h;first|replace h:=h.o|cases h))
    all_goals (refine za5 (i+1) ⟨rs1,cs1,mt1,_⟩ ⟨by omega,hIB.symm,rfl,hlc,hkc,hst⟩ (by omega) (by
     simp only[ntE,rowsI,resI,List.length_cons,List.length_nil,Nat.zero_add,Nat.reduceAdd];(refine za2 ?_;repeat' first|exact .intro|refine Tw.mk ?_ ?_)))
  .have hil:i=cs.length:=by omega
   have hRJ:R=M0.J k:=by
    rw[hR,<-J_fold];unfold zbM zbN;rw[hNk,hM,hil,hN0]
   clear hM hR;simp only[ntE,rowsI,resI,List.length_cons,List.length_nil,Nat.zero_add,Nat.reduceAdd];(all_goals refine fw ?_;repeat' first|exact .intro|refine Tw.mk ?_ ?_|(intro h;first|replace h:=h.o|cases h))
   all_goals (try (exfalso;omega))
   refine lpG2 (λ(j:Nat) (M:Nt)=>⟨[(0,.box 0 0),(105,.arr 1 0 k),(106,.v (.int .i64 k)),(107,.v (.int .i64 j))],ntJ M v j⟩) (λj M=>j<=k/\M=M0.J j) (λj _=>k-j) 0 M0 ⟨by omega,rfl⟩ (by
    rw[hM0];simp only[ntJ,rowsJ,resJ,hkk,ntE,rowsI,resI,List.length_cons,List.length_nil,Nat.zero_add,Nat.reduceAdd];(refine za2 ?_;repeat' first|exact .intro|refine Tw.mk ?_ ?_);all_goals (simp;done)) ?_
   rintro j M ⟨hj,hMj⟩;have hJ:=J_ok hok j;rw[<-hMj] at hJ;have hJ1:zbT M j=M0.J (j+1):=by rw[hMj];rfl
   by_cases hjk:j<k
   .obtain⟨M',hM'⟩: ∃M',M'=zbT M j:=⟨_,rfl⟩;obtain⟨r,hr⟩: ∃r,M.rs[j]? =some r:=⟨_,List.getElem?_eq_getElem (by rw[hJ.rs];exact hjk)⟩;have hf:=hJ.r r (getq hr);have xi:=focusRA (xrinbox hf.p3) hr (zbb (v:=v) (k:=k) hjk) rfl;have hrr:=zam (v:=v) (k:=k) (j:=j) hjk;rw[hkk] at xi hrr;have hin:=hf.f.inb;rw[zoQ hr] at hM';rw[<-hM'.trans (zoQ hr).symm] at hJ1;have hbl:=hJ.i j;have l3:=hJ.ib;rw[hkk] at l3;clear hMj hRJ;obtain⟨rsj,csj,mtj,ibj⟩:=M;dsimp only at hM' hbl l3 xi;first|obtain⟨b0,rfl⟩:=len1 l3|obtain⟨b0,b1,rfl⟩:=len2 l3|obtain⟨b0,b1,b2,rfl⟩:=len3 l3|obtain⟨b0,b1,b2,b3,rfl⟩:=len4 l3|obtain⟨b0,b1,b2,b3,b4,rfl⟩:=len5 l3|obtain⟨b0,b1,b2,b3,b4,b5,rfl⟩:=len6 l3
    obtain⟨q,hq⟩: ∃q,q=j:=⟨_,rfl⟩;rcases (by omega:j=0\/j=1\/j=2\/j=3\/j=4\/j=5) with rfl|rfl|rfl|rfl|rfl|rfl;all_goals (first|(exfalso;omega)|skip)
    all_goals
     have hbl:=hbl _ (Nat.le_refl _) rfl;simp only[List.modify_zero_cons,List.modify_succ_cons] at hM';simp only[ntJ,rowsJ,resJ,hkk,ntE,rowsI,resI,List.length_cons,List.length_nil,Nat.zero_add,Nat.reduceAdd];(all_goals refine fw ?_;repeat' first|exact .intro|refine Tw.mk ?_ ?_|(intro h;first|replace h:=h.o|cases h))
     all_goals (refine cutK ⟨[(0,.box 0 0),(105,.arr 1 0 k),(106,.v (.int .i64 k)),(107,.v (.int .i64 q))],ntJ M' v (q+1)⟩ ?_ (λhy=>?_))
     .simp only[hM',hq,ntJ,rowsJ,resJ,hkk,ntE,rowsI,resI,List.length_cons,List.length_nil,Nat.zero_add,Nat.reduceAdd];(all_goals refine fw ?_;repeat' first|exact .intro|refine Tw.mk ?_ ?_|(intro h;first|replace h:=h.o|cases h))
      all_goals (refine za5 (q+1) M' ⟨by omega,by rw[hq];exact hJ1⟩ (by omega) (by
       simp only[hM',hq,ntJ,rowsJ,resJ,hkk,ntE,rowsI,resI,List.length_cons,List.length_nil,Nat.zero_add,Nat.reduceAdd];(refine za2 ?_;repeat' first|exact .intro|refine Tw.mk ?_ ?_)))
     ·(all_goals refine fw ?_;repeat' first|exact .intro|refine Tw.mk ?_ ?_|(intro h;first|replace h:=h.o|cases h))
      all_goals ((refine StopCall.fz [5] (xi) ?_;(all_goals refine fw ?_;repeat' first|exact .intro|refine Tw.mk ?_ ?_|(intro h;first|replace h:=h.o|cases h))))
      all_goals (try (show Fits _ _;unfold Fits maxLen;simp only[List.length_take,List.length_map];omega))
      all_goals (exact⟨_,(by simp only[hM',hq,ntJ,rowsJ,resJ,hkk,ntE,rowsI,resI,List.length_cons,List.length_nil,Nat.zero_add,Nat.reduceAdd];(refine za2 ?_;repeat' first|exact .intro|refine Tw.mk ?_ ?_);all_goals (first|(rw[List.take_of_length_le (by simp),List.take_of_length_le (by simp),List.map_append];done)|(simp;done))),hy⟩)
   .obtain rfl:j=k:=by omega
    rw[<-hMj] at hRJ;have l3:=hJ.ib;rw[hkk] at l3;clear hMj hJ1 hJ;obtain⟨rsj,csj,mtj,ibj⟩:=M;dsimp only at l3;first|obtain⟨b0,rfl⟩:=len1 l3|obtain⟨b0,b1,rfl⟩:=len2 l3|obtain⟨b0,b1,b2,rfl⟩:=len3 l3|obtain⟨b0,b1,b2,b3,rfl⟩:=len4 l3|obtain⟨b0,b1,b2,b3,b4,rfl⟩:=len5 l3|obtain⟨b0,b1,b2,b3,b4,b5,rfl⟩:=len6 l3
    rw[hRJ];simp only[ntJ,rowsJ,resJ,hkk,ntE,rowsI,resI,List.length_cons,List.length_nil,Nat.zero_add,Nat.reduceAdd];(all_goals refine fw ?_;repeat' first|exact .intro|refine Tw.mk ?_ ?_|(intro h;first|replace h:=h.o|cases h))
    all_goals (try (exfalso;omega))
    all_goals (((try (conv=>whnf));refine⟨_,AS.le_refl _ _,?_⟩;((try (conv=>whnf));refine zjJ ?_;repeat' first|exact .intro|refine Tw.mk ?_ ?_)))):zdL K:=h
end Go.Proofs.YtimfnpjcedjmiadGreat
