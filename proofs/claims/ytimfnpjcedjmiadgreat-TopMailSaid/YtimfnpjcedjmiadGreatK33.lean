/- Lemmas. -/
import Derived.Test.YtimfnpjcedjmiadGreatK32
set_option maxRecDepth 100000
set_option maxHeartbeats 64000000
set_option linter.all false
namespace Go.Proofs.YtimfnpjcedjmiadGreat
open Go.RowKit
theorem zp4{α:Type}{l:List α}{i:Nat}{x:α}(h:l[i]? =some x)(f:α->α):l.modify i f=l.set i (f x):=by
 refine List.ext_getElem? λj=>?_;rw[List.getElem?_modify,List.getElem?_set];by_cases e:i=j
 .subst e;rw[if_pos rfl,if_pos (List.getElem?_eq_some_iff.1 h).1,h];simp
 .rw[if_neg e];simp [e]
theorem zcC{M:Nt}{i:Int}{r:Rt}(hr:M.rs[(i-1).toNat]? =some r)(F:Rt->Rt):M.onR i F=⟨M.rs.set (i-1).toNat (F r),M.cs,M.mt,M.ib⟩:=by
 unfold Nt.onR;rw[zp4 hr]
theorem rt_get{M:Nt}{i:Int}{r:Rt}(hr:M.rs[(i-1).toNat]? =some r):M.rt i=r:=by
 unfold Nt.rt;rw[List.getD_eq_getElem?_getD,hr];rfl
theorem g0_form{M:Nt}{i:Nat}{c:Cb}(hc:M.cs[i]? =some c){r:Rt}(hr:M.rs[(c.a-1).toNat]? =some r):zcH M i=⟨M.rs.set (c.a-1).toNat (outR r c.pa.toNat),M.cs.set i { c with w0:=putW c.inn c.w0 (r.pt c.pa.toNat).out },M.mt,M.ib⟩:=by
 unfold zcH;rw[hc];dsimp only;rw[zcC hr,rt_get hr]
theorem g1_form{M:Nt}{i:Nat}{c:Cb}(hc:M.cs[i]? =some c){r:Rt}(hr:M.rs[(c.b-1).toNat]? =some r):zds M i=⟨M.rs.set (c.b-1).toNat (outR r c.pb.toNat),M.cs.set i { c with w1:=putW c.inn c.w1 (r.pt c.pb.toNat).out },M.mt,M.ib⟩:=by
 unfold zds;rw[hc];dsimp only;rw[zcC hr,rt_get hr]
def rowsJ:Nat->Nat->List (List Mg)->List (List AV)
 |_,_,[]=>[]
 |q,0,l::ib=>[.arr q 0 l.length]::rowsJ (q+1) 0 ib
 |q,j+1,l::ib=>[.arr q 1 l.length]::rowsJ (q+1) j ib
def resJ:Nat->List (List Mg)->List Res
 |_,[]=>[]
 |0,l::ib=>.arr true 67 3 0 (l.map zaY)::resJ 0 ib
 |j+1,l::ib=>.arr true 67 3 1 (l.map zaY)::resJ j ib
def ntJ(N:Nt)(v:Nat->Nat)(j:Nat):List Res:=
 .cells [.arr 1 0 N.ib.length,.arr 2 0 N.cs.length,.arr 3 0 N.mt.length,.arr 4 0 N.ib.length]::.arr false 45 1 0 (zhS v N.ib.length)::.arr true 91 8 0 (N.cs.map zb2)::.arr true 88 1 0 (N.mt.map mtRow)::.arr false 63 1 0 (rowsJ 6 j N.ib)::famR (xsV v N.ib.length) N.rs::resJ j N.ib
def Nt.J(N:Nt):Nat->Nt
 |0=>N
 |j+1=>zbU (N.J j) j
theorem J_fold(N:Nt): ∀j,(List.range j).foldl zbU N=N.J j
 |0=>rfl
 |j+1=>by rw[List.range_succ,List.foldl_append,J_fold N j];rfl
theorem zqE{M:Nt}{j:Nat}{r:Rt}(hr:M.rs[j]? =some r):zbU M j=⟨M.rs.set j { r with inb:=[] },M.cs,M.mt,M.ib.modify j (λl=>l++r.inb)⟩:=by
 unfold zbU;rw[zp4 hr,List.getD_eq_getElem?_getD,hr];rfl
structure JOk (k n d e:Nat) (N:Nt) (j:Nat) (M:Nt):Prop where
 rs:M.rs.length=k
 ib:M.ib.length=k
 r: ∀r∈M.rs,r.f3 n d
 i: ∀(i:Nat) (l:List Mg),j<=i->M.ib[i]? =some l->l.length<=e
 cs:M.cs=N.cs
 mt:M.mt=N.mt
theorem J_ok{k n d e:Nat}{N:Nt}(h:N.ok k n d e): ∀j,JOk k n d e N j (N.J j)
 |0=>⟨h.rs,h.ib,h.r,λi l _ hl=>h.i l (getq hl),rfl,rfl⟩
 |j+1=>by
  have q:=J_ok h j;show JOk k n d e N (j+1) (zbU (N.J j) j);generalize N.J j=M at *
  refine⟨by rw[<-q.rs];exact List.length_modify .., by rw[<-q.ib];exact List.length_modify .., λr hr=>?_,λi l hi hl=>?_,q.cs,q.mt⟩
  .rcases zdK (show r∈M.rs.modify j _ from hr) with g|⟨y,hy,rfl⟩
   .exact q.r r g
   .have:=q.r y hy;exact⟨this.p3,this.f.b,this.f.ps,Nat.zero_le _,this.f.dr⟩
  .have hl':(M.ib.modify j _)[i]? =some l:=hl;rw[List.getElem?_modify] at hl';have hne: ¬j=i:=by omega
   have hl2:M.ib[i]? =some l:=by simpa[hne] using hl'
   exact q.i i l (by omega) hl2
def zdU(K:Nat):Prop:= ∀(k n d e:Nat) (N:Nt) (v:Nat->Nat),n<=10000000->e<=1000000000000->1<=k/\k<=6->N.ok k n d e->k=K->Fn Tryz.prog 37 [.box 0 0] (ntE N v 0) (.tup []) (ntE (zbO N) v 1)
theorem zdm(K:Nat)(h:zdU K:=by
  intro k n d e N v hn he hk hN hkk;obtain⟨N0,hN0⟩: ∃N0,N0=N:=⟨_,rfl⟩;have hcs9:=hN.cs;have l2:=hN.ib;rw[<-hN0];have hNk:N0.rs.length=k:=by rw[hN0];exact hN.rs
  obtain⟨rs,cs,mt,ib⟩:=N;dsimp only at hcs9 l2;obtain⟨IB,hIB⟩: ∃IB,IB=ib:=⟨_,rfl⟩;obtain⟨R,hR⟩: ∃R,R=zbO N0:=⟨_,rfl⟩;rw[<-hR];rw[hkk] at l2;first|obtain⟨b0,rfl⟩:=len1 l2|obtain⟨b0,b1,rfl⟩:=len2 l2|obtain⟨b0,b1,b2,rfl⟩:=len3 l2|obtain⟨b0,b1,b2,b3,rfl⟩:=len4 l2|obtain⟨b0,b1,b2,b3,b4,rfl⟩:=len5 l2|obtain⟨b0,b1,b2,b3,b4,b5,rfl⟩:=len6 l2
  rw[hN0];simp only[ntE,rowsI,resI,List.length_cons,List.length_nil,Nat.zero_add,Nat.reduceAdd];refine foP zaA (gathPl) [] [16] Tryz.func37 Tryz.ntmps37 Tryz.results37 ?_;(all_goals refine fv ?_;repeat' first|exact .intro|refine Tw.mk ?_ ?_|(intro h;first|replace h:=h.o|cases h))
  refine lpG2 (λ(i:Nat) (M:Nt)=>⟨[(0,.box 0 0),(13,.arr 2 0 cs.length),(14,.v (.int .i64 cs.length)),(15,.v (.int .i64 i))],ntE M v 0⟩) (λi M=>i<=cs.length/\M.ib=IB/\M.mt=mt/\M.cs.length=cs.length/\M.ok k n d e/\M=(List.range i).foldl zfk N0) (λi _=>cs.length-i) 0 N0 ⟨by omega,by rw[hN0,hIB],by rw[hN0],by rw[hN0],by rw[hN0];exact hN,rfl⟩ (by
   rw[hN0];simp only[ntE,rowsI,resI,List.length_cons,List.length_nil,Nat.zero_add,Nat.reduceAdd];(refine za5 ?_;repeat' first|exact .intro|refine Tw.mk ?_ ?_);all_goals (simp;done)) ?_
  rintro i M ⟨hi,hib,hmt,hcl,hok,hM⟩;obtain⟨M0,hM0⟩: ∃M0:Nt,M0=M:=⟨_,rfl⟩;rw[<-hM0] at hM hok;obtain⟨qs,cs',mt',ib'⟩:=M;have hqs:=hok.rs;rw[hM0] at hqs;dsimp only at hib hmt hcl hqs;rw[hIB] at hib;subst hib hmt;by_cases hi':i<cs.length
  .obtain⟨c,hc⟩: ∃c,cs'[i]? =some c:=⟨_,List.getElem?_eq_getElem (by omega)⟩;have hco:=hok.c c (by rw[hM0];exact getq hc);have hst:=zcb hM;obtain⟨G0,hG0⟩: ∃G0,G0=zcH M0 i:=⟨_,rfl⟩;obtain⟨G1,hG1⟩: ∃G1,G1=zfk M0 i:=⟨_,rfl⟩;have hG1':G1=zds G0 i:=by rw[hG1,hG0];rfl
   have hcM:M0.cs[i]? =some c:=by rw[hM0];exact hc
   have hkc:G1.ok k n d e:=by rw[hG1];exact ok_g1 (ok_g0 hok i) i
   have hlc:G1.cs.length=cs.length:=by rw[hG1];unfold zfk;rw[cs_g1,cs_g0,hM0];exact hcl
   have hic:G1.ib=IB/\G1.mt=mt':=by
    rw[hG1];unfold zfk zds;split<;>(unfold zcH;split<;>(rw[hM0,hIB];exact⟨rfl,rfl⟩))
   have hk1:G0.ok k n d e:=by rw[hG0];exact ok_g0 hok i
   have hi1:G0.ib=IB/\G0.mt=mt':=by
    rw[hG0];unfold zcH;split<;>(rw[hM0,hIB];exact⟨rfl,rfl⟩)
   have hc1:=g0_cb hcM;rw[<-hG0] at hc1;rw[<-hG1] at hst;obtain⟨ca,cpa,cb,cpb,cm,inn,w0,w1⟩:=c;have hrow:(cs'.map zb2)[i]? =some [.v (.int .i64 ca),.v (.int .i64 cpa),.v (.int .i64 cb),.v (.int .i64 cpb),.v (.int .i64 cm),.v (.bool inn),.v (.string (tx w0)),.v (.string (tx w1))]:=zfb hc;obtain⟨ha,hpa,hb,hpb,hw0,hw1⟩:=hco;dsimp only at ha hpa hb hpb hw0 hw1 hc1;have hz0:(tx w0).size=w0.length:=tx_size;have hz1:(tx w1).size=w1.length:=tx_size;simp only[ntE,rowsI,resI,List.length_cons,List.length_nil,Nat.zero_add,Nat.reduceAdd];(all_goals refine fw ?_;repeat' first|exact .intro|refine Tw.mk ?_ ?_|(intro h;first|replace h:=h.o|cases h))
   all_goals (try (exfalso;omega))
   refine lpG2 (λ(w:Nat) (M:Nt)=>⟨(match w with|0=>[(0,.box 0 0),(3,.elt 2 0 8 i 0),(13,.arr 2 0 cs.length),(14,.v (.int .i64 cs.length)),(15,.v (.int .i64 i)),(46,.sl 2 [[.v (.int .i64 ca),.v (.int .i64 cpa)],[.v (.int .i64 cb),.v (.int .i64 cpb)]] none),(47,.v (.int .i64 2)),(48,.v (.int .i64 0))]|1=>[(0,.box 0 0),(3,.elt 2 0 8 i 0),(13,.arr 2 0 cs.length),(14,.v (.int .i64 cs.length)),(15,.v (.int .i64 i)),(46,.sl 2 [[.v (.int .i64 ca),.v (.int .i64 cpa)],[.v (.int .i64 cb),.v (.int .i64 cpb)]] none),(47,.v (.int .i64 2)),(48,.v (.int .i64 1))]|_=>[(0,.box 0 0),(3,.elt 2 0 8 i 0),(13,.arr 2 0 cs.length),(14,.v (.int .i64 cs.length)),(15,.v (.int .i64 i)),(46,.sl 2 [[.v (.int .i64 ca),.v (.int .i64 cpa)],[.v (.int .i64 cb),.v (.int .i64 cpb)]] none),(47,.v (.int .i64 2)),(48,.v (.int .i64 2))]),ntE M v 0⟩) (λw M=>w<=2/\M=(match w with|0=>M0|1=>G0|_=>G1)) (λw _=>2-w) 0 M0 ⟨by omega,rfl⟩ (by
    rw[hM0];simp only[ntE,rowsI,resI,List.length_cons,List.length_nil,Nat.zero_add,Nat.reduceAdd];(refine za5 ?_;repeat' first|exact .intro|refine Tw.mk ?_ ?_)) ?_
   rintro w M ⟨hw,hMw⟩;refine orN2 hw (λew=>?_) (λew=>?_) (λew=>?_)
   .subst ew;have hMw:M=M0:=hMw;rw[hMw,hM0];clear hMw;obtain⟨r,hr⟩: ∃r,qs[(ca-1).toNat]? =some r:=⟨_,List.getElem?_eq_getElem (by omega)⟩;have hf:=hok.r r (by rw[hM0];exact getq hr);have hro:=zlA hf.f (i:=cpa.toNat) (by rw[hf.p3];omega);have xo:=zeT (xrout hf.p3 cpa hpa) hr (zb4 (v:=v) (k:=k) (by omega)) rfl rfl;have hrr:=zao (v:=v) (k:=k) (j:=(ca-1).toNat) (by omega);rw[hkk] at xo hrr;have hg:=g0_form hcM (r:=r) (by rw[hM0];exact hr);rw[<-hG0,hM0] at hg;dsimp only at hg;have hlo:=hro.out;generalize (r.pt cpa.toNat).out=O at *
    have hzO:(tx O).size=O.length:=tx_size;rcases gcase inn w0 O with⟨rfl,hW⟩|⟨rfl,hf,hW⟩|⟨rfl,hf,hW⟩
    all_goals
     rw[hW] at hg;simp only[ntE,rowsI,resI,List.length_cons,List.length_nil,Nat.zero_add,Nat.reduceAdd];(all_goals refine fw ?_;repeat' first|exact .intro|refine Tw.mk ?_ ?_|(intro h;first|replace h:=h.o|cases h))
     all_goals (try (exfalso;omega))
     all_goals ((refine StopCall.fz [5] (xo) ?_;(all_goals refine fw ?_;repeat' first|exact .intro|refine Tw.mk ?_ ?_|(intro h;first|replace h:=h.o|cases h))))
     all_goals (try (exfalso;omega))
     all_goals (refine za3 1 _ ⟨by omega,hg.symm⟩ (by omega) (by
      simp only[ntE,rowsI,resI,List.length_cons,List.length_nil,Nat.zero_add,Nat.reduceAdd];(refine za5 ?_;repeat' first|exact .intro|refine Tw.mk ?_ ?_);all_goals (first|(rw[<-zjO];simp only[zb2,<-tx_app];rfl)|(rw[ziW hc];done)|(simp;done)|skip)))
   .subst ew;have hMw:M=G0:=hMw;rw[hMw];clear hMw;obtain⟨rs1,cs1,mt1,ib1⟩:=G0;obtain⟨e1,e2⟩:=hi1;have hrs1:=hk1.rs;dsimp only at e1 e2 hc1 hrs1;generalize putW inn w0 _=w0' at hc1;have hrow1:(cs1.map zb2)[i]? =some [.v (.int .i64 ca),.v (.int .i64 cpa),.v (.int .i64 cb),.v (.int .i64 cpb),.v (.int .i64 cm),.v (.bool inn),.v (.string (tx w0')),.v (.string (tx w1))]:=zfb hc1;have hz0':(tx w0').size=w0'.length:=tx_size;obtain⟨r,hr⟩: ∃r,rs1[(cb-1).toNat]? =some r:=⟨_,List.getElem?_eq_getElem (by omega)⟩;have hf:=hk1.r r (getq hr);have hro:=zlA hf.f (i:=cpb.toNat) (by rw[hf.p3];omega);have xo:=zeT (xrout hf.p3 cpb hpb) hr (zb4 (v:=v) (k:=k) (by omega)) rfl rfl;have hrr:=zao (v:=v) (k:=k) (j:=(cb-1).toNat) (by omega);rw[hkk] at xo hrr;have hg:=g1_form (M:=⟨rs1,cs1,mt1,ib1⟩) (c:=⟨ca,cpa,cb,cpb,cm,inn,w0',w1⟩) hc1 (r:=r) hr;rw[<-hG1'] at hg;rw[hIB] at e1;subst e1;dsimp only at hg;have hlo:=hro.out;generalize (r.pt cpb.toNat).out=O at *
    have hzO:(tx O).size=O.length:=tx_size;rcases gcase inn w1 O with⟨rfl,hW⟩|⟨rfl,hf,hW⟩|⟨rfl,hf,hW⟩
    all_goals
     rw[hW] at hg;simp only[ntE,rowsI,resI,List.length_cons,List.length_nil,Nat.zero_add,Nat.reduceAdd];(all_goals refine fw ?_;repeat' first|exact .intro|refine Tw.mk ?_ ?_|(intro h;first|replace h:=h.o|cases h))
     all_goals (try (exfalso;omega))
     all_goals ((refine StopCall.fz [5] (xo) ?_;(all_goals refine fw ?_;repeat' first|exact .intro|refine Tw.mk ?_ ?_|(intro h;first|replace h:=h.o|cases h))))
     all_goals (try (exfalso;omega))
     all_goals (refine za3 2 _ ⟨by omega,hg.symm⟩ (by omega) (by
      simp only[ntE,rowsI,resI,List.length_cons,List.length_nil,Nat.zero_add,Nat.reduceAdd];(refine za5 ?_;repeat' first|exact .intro|refine Tw.mk ?_ ?_);all_goals (first|(rw[<-zjO];simp only[zb2,<-tx_app];rfl)|(rw[ziW hc1];done)|(simp;done)|skip)))
   .subst ew;have hMw:M=G1:=hMw;rw[hMw];clear hMw hG1 hG1';obtain⟨rs1,cs1,mt1,ib1⟩:=G1;obtain⟨e1,e2⟩:=hic;dsimp only at e1 e2 hlc;rw[hIB] at e1;subst e1 e2;simp only[ntE,rowsI,resI,List.length_cons,List.length_nil,Nat.zero_add,Nat.reduceAdd];(all_goals refine fw ?_;repeat' first|exact .intro|refine Tw.mk ?_ ?_|(intro h;first|replace h:=h.o|cases h))
    all_goals (refine za3 (i+1) ⟨rs1,cs1,mt1,_⟩ ⟨by omega,hIB.symm,rfl,hlc,hkc,hst⟩ (by omega) (by
     simp only[ntE,rowsI,resI,List.length_cons,List.length_nil,Nat.zero_add,Nat.reduceAdd];(refine za5 ?_;repeat' first|exact .intro|refine Tw.mk ?_ ?_)))
  .have hil:i=cs.length:=by omega
   have hRJ:R=M0.J k:=by
    rw[hR,<-J_fold];unfold zbO zbQ;rw[hNk,hM,hil,hN0]
   clear hM hR;simp only[ntE,rowsI,resI,List.length_cons,List.length_nil,Nat.zero_add,Nat.reduceAdd];(all_goals refine fw ?_;repeat' first|exact .intro|refine Tw.mk ?_ ?_|(intro h;first|replace h:=h.o|cases h))
   all_goals (try (exfalso;omega))
   refine lpG2 (λ(j:Nat) (M:Nt)=>⟨[(0,.box 0 0),(105,.arr 1 0 k),(106,.v (.int .i64 k)),(107,.v (.int .i64 j))],ntJ M v j⟩) (λj M=>j<=k/\M=M0.J j) (λj _=>k-j) 0 M0 ⟨by omega,rfl⟩ (by
    rw[hM0];simp only[ntJ,rowsJ,resJ,hkk,ntE,rowsI,resI,List.length_cons,List.length_nil,Nat.zero_add,Nat.reduceAdd];(refine za5 ?_;repeat' first|exact .intro|refine Tw.mk ?_ ?_);all_goals (simp;done)) ?_
   rintro j M ⟨hj,hMj⟩;have hJ:=J_ok hok j;rw[<-hMj] at hJ;have hJ1:zbU M j=M0.J (j+1):=by rw[hMj];rfl
   by_cases hjk:j<k
   .obtain⟨M',hM'⟩: ∃M',M'=zbU M j:=⟨_,rfl⟩;obtain⟨r,hr⟩: ∃r,M.rs[j]? =some r:=⟨_,List.getElem?_eq_getElem (by rw[hJ.rs];exact hjk)⟩;have hf:=hJ.r r (getq hr);have xi:=focusRA (xrinbox hf.p3) hr (zb4 (v:=v) (k:=k) hjk) rfl;have hrr:=zao (v:=v) (k:=k) (j:=j) hjk;rw[hkk] at xi hrr;have hin:=hf.f.inb;rw[zqE hr] at hM';rw[<-hM'.trans (zqE hr).symm] at hJ1;have hbl:=hJ.i j;have l3:=hJ.ib;rw[hkk] at l3;clear hMj hRJ;obtain⟨rsj,csj,mtj,ibj⟩:=M;dsimp only at hM' hbl l3 xi;first|obtain⟨b0,rfl⟩:=len1 l3|obtain⟨b0,b1,rfl⟩:=len2 l3|obtain⟨b0,b1,b2,rfl⟩:=len3 l3|obtain⟨b0,b1,b2,b3,rfl⟩:=len4 l3|obtain⟨b0,b1,b2,b3,b4,rfl⟩:=len5 l3|obtain⟨b0,b1,b2,b3,b4,b5,rfl⟩:=len6 l3
    obtain⟨q,hq⟩: ∃q,q=j:=⟨_,rfl⟩;rcases (by omega:j=0\/j=1\/j=2\/j=3\/j=4\/j=5) with rfl|rfl|rfl|rfl|rfl|rfl;all_goals (first|(exfalso;omega)|skip)
    all_goals
     have hbl:=hbl _ (Nat.le_refl _) rfl;simp only[List.modify_zero_cons,List.modify_succ_cons] at hM';simp only[ntJ,rowsJ,resJ,hkk,ntE,rowsI,resI,List.length_cons,List.length_nil,Nat.zero_add,Nat.reduceAdd];(all_goals refine fw ?_;repeat' first|exact .intro|refine Tw.mk ?_ ?_|(intro h;first|replace h:=h.o|cases h))
     all_goals (refine cutK ⟨[(0,.box 0 0),(105,.arr 1 0 k),(106,.v (.int .i64 k)),(107,.v (.int .i64 q))],ntJ M' v (q+1)⟩ ?_ (λhy=>?_))
     .simp only[hM',hq,ntJ,rowsJ,resJ,hkk,ntE,rowsI,resI,List.length_cons,List.length_nil,Nat.zero_add,Nat.reduceAdd];(all_goals refine fw ?_;repeat' first|exact .intro|refine Tw.mk ?_ ?_|(intro h;first|replace h:=h.o|cases h))
      all_goals (refine za3 (q+1) M' ⟨by omega,by rw[hq];exact hJ1⟩ (by omega) (by
       simp only[hM',hq,ntJ,rowsJ,resJ,hkk,ntE,rowsI,resI,List.length_cons,List.length_nil,Nat.zero_add,Nat.reduceAdd];(refine za5 ?_;repeat' first|exact .intro|refine Tw.mk ?_ ?_)))
     ·(all_goals refine fw ?_;repeat' first|exact .intro|refine Tw.mk ?_ ?_|(intro h;first|replace h:=h.o|cases h))
      all_goals ((refine StopCall.fz [5] (xi) ?_;(all_goals refine fw ?_;repeat' first|exact .intro|refine Tw.mk ?_ ?_|(intro h;first|replace h:=h.o|cases h))))
      all_goals (try (show Fits _ _;unfold Fits maxLen;simp only[List.length_take,List.length_map];omega))
      all_goals (exact⟨_,(by simp only[hM',hq,ntJ,rowsJ,resJ,hkk,ntE,rowsI,resI,List.length_cons,List.length_nil,Nat.zero_add,Nat.reduceAdd];(refine za5 ?_;repeat' first|exact .intro|refine Tw.mk ?_ ?_);all_goals (first|(rw[List.take_of_length_le (by simp),List.take_of_length_le (by simp),List.map_append];done)|(simp;done))),hy⟩)
   .obtain rfl:j=k:=by omega
    rw[<-hMj] at hRJ;have l3:=hJ.ib;rw[hkk] at l3;clear hMj hJ1 hJ;obtain⟨rsj,csj,mtj,ibj⟩:=M;dsimp only at l3;first|obtain⟨b0,rfl⟩:=len1 l3|obtain⟨b0,b1,rfl⟩:=len2 l3|obtain⟨b0,b1,b2,rfl⟩:=len3 l3|obtain⟨b0,b1,b2,b3,rfl⟩:=len4 l3|obtain⟨b0,b1,b2,b3,b4,rfl⟩:=len5 l3|obtain⟨b0,b1,b2,b3,b4,b5,rfl⟩:=len6 l3
    rw[hRJ];simp only[ntJ,rowsJ,resJ,hkk,ntE,rowsI,resI,List.length_cons,List.length_nil,Nat.zero_add,Nat.reduceAdd];(all_goals refine fw ?_;repeat' first|exact .intro|refine Tw.mk ?_ ?_|(intro h;first|replace h:=h.o|cases h))
    all_goals (try (exfalso;omega))
    all_goals (((try (conv=>whnf));refine⟨_,AS.le_refl _ _,?_⟩;((try (conv=>whnf));refine ziz ?_;repeat' first|exact .intro|refine Tw.mk ?_ ?_)))):zdU K:=h
def nilRows(k:Nat):List (List AV):=List.replicate k [.v (.slice none 0 0)]
def arrRows:Nat->Nat->List (List AV)
 |_,0=>[]
 |q,j+1=>[.arr q 0 3]::arrRows (q+1) j
def intRes:List (List Int)->List Res
 |[]=>[]
 |t::T=>.arr true 3 1 0 (t.map iRow)::intRes T
def ntN(k:Nat)(cs:List Cb)(mt:List (List Int))(rs:List Rt)(g:Nat):List Res:=
 .arr false 63 1 0 (nilRows k)::.cells [.arr 4 g rs.length,.arr 3 1 cs.length,.arr 2 1 mt.length,.arr 0 0 k]::.arr false 88 1 1 (mt.map mtRow)::.arr true 91 8 1 (cs.map zb2)::.arr false 45 1 g (rowsR 5 rs)::resR rs
theorem zlC{σ:zaM}{μ μ':zaJ}{w:World}{q q' g n:Nat}{y:Value}{fr:Bool}{E sz:Nat}{rows:List (List AV)}{D:Nat->Prop}(h:RepV σ μ (.arr q g n) y)(hr:ROk σ μ w q D (.arr fr E sz g rows))(hq:μ' q'=(μ q).map zg):RepV σ μ' (.arr q' 0 n) y:=by
 obtain⟨ao2,cap2,xs2,q1,_⟩:=hr;cases h with
 |arr _ _ _ _ ao m cap a hn hm hmax h hl=>
  rw[q1] at h;obtain rfl:=Option.some.inj h;obtain⟨_,hl⟩:=hl;obtain⟨rfl,rfl,rfl⟩:=hl rfl;exact .arr _ q' 0 n _ _ _ (.cur ao2 rows.length cap2 0) hn hm hmax (by rw[hq,q1];rfl) (An.le_refl _)
theorem arrT_gen{σ:zaM}{μ μ':zaJ}{w:World}{id id' E sz g:Nat}{rows:List (List AV)}{D:Nat->Prop}(h:ROk σ μ w id D (.arr true E sz g rows))(hid:μ' id'=(μ id).map zg):ROk σ μ' w id' D (.arr true E sz 0 rows):=by
 obtain⟨ao,cap,xs,h1,h2⟩:=h;exact⟨ao,cap,xs,by rw[hid,h1];rfl,h2⟩
theorem memN_of{σ:zaM}{μ:zaJ}{w:World}{Ds:Nat->Nat->Prop}{k g:Nat}{cs:List Cb}{mt:List (List Int)}{rs:List Rt}(hrs:rs.length=k)(h:MemOk σ μ w (ntN k cs mt rs g) Ds):
  ∃μ' D,MemOk σ μ' w (ntM ⟨rs,cs,mt,List.replicate k []⟩ 0) D/\μ' 0=μ 1/\ ∀id b,D id b-> ∃j,Ds j b:=by
 let μ':zaJ:=λid=>match id with
  |0=>μ 1
  |1=>(μ 4).map zg
  |2=>(μ 3).map zg
  |3=>(μ 2).map zg
  |4=>μ 0
  |id=>if id<5+k then μ id else if id<5+k+k then some (.cur none 0 0 0) else none
 let D:Nat->Nat->Prop:=λid=>match id with
  |0=>Ds 1
  |1=>Ds 4
  |2=>Ds 3
  |3=>Ds 2
  |4=>Ds 0
  |id=>if id<5+k then Ds id else λ_=>False
 have hlen:(ntN k cs mt rs g).length=5+k:=by unfold ntN;simp only[List.length_cons,resR_len,hrs];omega
 have mr: ∀j,j<k->μ' (5+j)=μ (5+j):=λj hj=>by
  show (match 5+j with|0=>_|1=>_|2=>_|3=>_|4=>_|id=>_)=_;rw[show 5+j=j+5 by omega];show (if j+5<5+k then μ (j+5) else _)=_;rw[if_pos (by omega)]
 have mi: ∀j,j<k->μ' (5+k+j)=some (.cur none 0 0 0):=λj hj=>by
  rw[show 5+k+j=(k+j)+5 by omega];show (if (k+j)+5<5+k then _ else if (k+j)+5<5+k+k then _ else _)=_;rw[if_neg (by omega),if_pos (by omega)]
 have dr: ∀j,D (j+5)=if j+5<5+k then Ds (j+5) else λ_=>False:=λj=>rfl
 have hm: ∀id (x:Res),(ntN k cs mt rs g)[id]? =some x->ROk σ μ w id (Ds id) x:=λid x hx=>h.ok id x hx;have r0:=hm 0 _ rfl;have r1:=hm 1 _ rfl;have r2:=hm 2 _ rfl;have r3:=hm 3 _ rfl;have r4:=hm 4 _ rfl;refine⟨μ',D,⟨λid x hx=>?_,λa b c h1 h2=>?_,λid hid=>?_⟩,rfl,λid b hb=>?_⟩
 .match id,hx with
  |0,hx=>
   obtain rfl:Res.cells [.arr 1 0 rs.length,.arr 2 0 cs.length,.arr 3 0 mt.length,.arr 4 0 rs.length]=x:=Option.some.inj hx;obtain⟨b,c,T,h1,h2,h3,h4,h5,h6⟩:=r1;refine⟨b,c,T,h1,h2,h3,λi av hi=>?_,h5,h6⟩
   match i,hi with
   |0,hi=>
    simp only[List.getElem?_cons_zero,Option.some.injEq] at hi;subst hi;obtain⟨y,y1,y2⟩:=h4 0 _ rfl;exact⟨y,y1,zlC y2 r4 rfl⟩
   |1,hi=>
    simp only[List.getElem?_cons_succ,List.getElem?_cons_zero,Option.some.injEq] at hi;subst hi;obtain⟨y,y1,y2⟩:=h4 1 _ rfl;exact⟨y,y1,zlC y2 r3 rfl⟩
   |2,hi=>
    simp only[List.getElem?_cons_succ,List.getElem?_cons_zero,Option.some.injEq] at hi;subst hi;obtain⟨y,y1,y2⟩:=h4 2 _ rfl;exact⟨y,y1,zlC y2 r2 rfl⟩
   |3,hi=>
    simp only[List.getElem?_cons_succ,List.getElem?_cons_zero,Option.some.injEq] at hi;subst hi;obtain⟨y,y1,y2⟩:=h4 3 _ rfl;rw[hrs];exact⟨y,y1,zfJ y2 rfl⟩
   |i+4,hi=>simp at hi
  |1,hx=>
   obtain rfl:Res.arr false 45 1 0 (rowsR 5 rs)=x:=Option.some.inj hx;obtain⟨ao,cap,xs,h1,h2,h3,h4,h5,h6⟩:=r4;refine⟨ao,cap,xs,by show (μ 4).map zg=_;rw[h1];rfl,h2,h3,λi j r av g1 g2=>?_,h5,h6⟩;obtain⟨y,y1,y2,y3⟩:=h4 i j r av g1 g2;refine⟨y,y1,?_,y3⟩;rw[zc9] at g1;obtain⟨l,hl,rfl⟩:=Option.map_eq_some_iff.1 g1;have hi:i<k:=by have:=(List.getElem?_eq_some_iff.1 hl).1;omega
   cases j with
   |succ j=>simp at g2
   |zero=>
    simp only[List.getElem?_cons_zero,Option.some.injEq] at g2;subst g2;obtain⟨b,e,hb⟩:=RepV.inv_box y2;rw[e];exact .box _ (5+i) 0 b ((mr i hi).trans hb)
  |2,hx=>
   obtain rfl:Res.arr true 91 8 0 (cs.map zb2)=x:=Option.some.inj hx;exact arrT_gen r3 rfl
  |3,hx=>
   obtain rfl:Res.arr true 88 1 0 (mt.map mtRow)=x:=Option.some.inj hx;obtain⟨ao,cap,xs,h1,h2,h3,h4,h5,h6⟩:=r2;refine⟨ao,cap,xs,by show (μ 2).map zg=_;rw[h1];rfl,h2,h3,λi j r av g1 g2=>?_,h5,h6⟩;obtain⟨y,y1,y2,y3⟩:=h4 i j r av g1 g2;refine⟨y,y1,?_,y3⟩;rw[List.getElem?_map] at g1;obtain⟨l,hl,rfl⟩:=Option.map_eq_some_iff.1 g1;cases j with
   |succ j=>simp [mtRow] at g2
   |zero=>
    simp only[mtRow,List.getElem?_cons_zero,Option.some.injEq] at g2;subst g2;exact y2.free0 rfl
  |4,hx=>
   obtain rfl:Res.arr false 63 1 0 (rowsI (5+rs.length) 0 (List.replicate k []))=x:=Option.some.inj hx;obtain⟨ao,cap,xs,h1,h2,h3,h4,h5,h6⟩:=r0;have hn:(nilRows k).length=k:=List.length_replicate ..;rw[hn] at h1 h2;refine⟨ao,cap,xs,by rw[zbl,List.length_replicate];exact h1,by rw[zbl,List.length_replicate];exact h2,λr hr=>?_,λi j r av g1 g2=>?_,h5,h6⟩
   .exact Y68
   .rw[zbs] at g1;obtain⟨l,hl,rfl⟩:=Option.map_eq_some_iff.1 g1;have hi:i<k:=by have:=(List.getElem?_eq_some_iff.1 hl).1;rw[List.length_replicate] at this;exact this
    have hl0:l=[]:=List.eq_of_mem_replicate (List.mem_of_getElem? hl);subst hl0;cases j with
    |succ j=>simp at g2
    |zero=>
     simp only[List.getElem?_cons_zero,Option.some.injEq] at g2;subst g2;obtain⟨y,y1,y2,y3⟩:=h4 i 0 [.v (.slice none 0 0)] (.v (.slice none 0 0)) (by unfold nilRows;rw[List.getElem?_replicate,if_pos hi]) rfl;refine⟨y,y1,?_,y3⟩;rw[y2.inv_v];exact .arr _ _ 0 0 none 0 0 (.cur none 0 0 0) (Nat.le_refl _) (Nat.le_refl _) (by decide) (by rw[hrs];exact mi i hi) (An.le_refl _)
  |i+5,hx=>
   rw[show i+5=5+i by omega] at hx;rw[ntM_r] at hx;rw[dr i];rcases Nat.lt_or_ge i k with hi|hi
   .rw[if_pos (by omega)];rw[List.getElem?_append_left (by rw[resR_len,hrs];exact hi),resR_get] at hx;obtain⟨r0,hr0,rfl⟩:=Option.map_eq_some_iff.1 hx;have hg:(ntN k cs mt rs g)[i+5]? =some (rtO r0):=by
     unfold ntN;simp only[List.getElem?_cons_succ];rw[resR_get,hr0];rfl
    obtain⟨b,hb1,hb2⟩:=hm (i+5) _ hg;exact⟨b,by rw[show i+5=5+i by omega,mr i hi,show 5+i=i+5 by omega];exact hb1,hb2⟩
   .rw[if_neg (by omega)];rw[List.getElem?_append_right (by rw[resR_len,hrs];exact hi),resR_len,hrs,resI_get] at hx;obtain⟨l,hl,rfl⟩:=Option.map_eq_some_iff.1 hx;obtain⟨q,rfl⟩: ∃q,i=k+q:=⟨i-k,by omega⟩;rw[show k+q-k=q by omega] at hl;have hq:q<k:=by have:=(List.getElem?_eq_some_iff.1 hl).1;rw[List.length_replicate] at this;exact this
    have hl0:l=[]:=List.eq_of_mem_replicate (List.mem_of_getElem? hl);subst hl0;refine⟨none,0,[],?_,?_,(λr hr=>by cases hr),(λi j r av g1=>by simp at g1),(λb hb=>hb.elim),λb=>⟨λhb=>hb.elim,λhb=>(by cases hb)⟩⟩
    .rw[show k+q+5=5+k+q by omega,mi q hq];rfl
    .first|exact World.ownsRow_nil w 0 _ _|exact zlX (World.ownsRow_nil w 0 _ _)
 .have key: ∀id b,D id b-> ∃j,(id=0/\j=1\/id=1/\j=4\/id=2/\j=3\/id=3/\j=2\/id=4/\j=0\/5<=id/\j=id)/\Ds j b:=λid b hd=>by
   match id,hd with
   |0,hd=>exact⟨1,by simp,hd⟩
   |1,hd=>exact⟨4,by simp,hd⟩
   |2,hd=>exact⟨3,by simp,hd⟩
   |3,hd=>exact⟨2,by simp,hd⟩
   |4,hd=>exact⟨0,by simp,hd⟩
   |i+5,hd=>
    rw[dr i] at hd;split at hd
    .exact⟨i+5,by simp,hd⟩
    .exact hd.elim
  obtain⟨p,hp,hp2⟩:=key a c h1;obtain⟨q,hq,hq2⟩:=key b c h2;have:=h.apart p q c hp2 hq2;omega
 .rw[zkv] at hid;simp only[List.length_replicate,hrs] at hid;obtain⟨q,rfl⟩: ∃q,id=(k+k+q)+5:=⟨id-5-k-k,by omega⟩;refine⟨?_,λb hb=>?_⟩
  .show (if (k+k+q)+5<5+k then _ else if (k+k+q)+5<5+k+k then _ else none)=none;rw[if_neg (by omega),if_neg (by omega)]
  .rw[dr] at hb;rw[if_neg (by omega)] at hb;exact hb
 .match id,hb with
  |0,hb=>exact⟨_,hb⟩
  |1,hb=>exact⟨_,hb⟩
  |2,hb=>exact⟨_,hb⟩
  |3,hb=>exact⟨_,hb⟩
  |4,hb=>exact⟨_,hb⟩
  |i+5,hb=>
   rw[dr i] at hb;split at hb
   .exact⟨_,hb⟩
   .exact hb.elim
theorem Rel.box1{n:Nat}{fp:Nat->Prop}{w0:Start}{σ:zaM}{μ μ':zaJ}{Ds D':Nat->Nat->Prop}{mem mem':List Res}{a:Act}{w:World}{p q:Nat}(hr:Rel n fp w0 σ μ Ds ⟨[(p,.box 1 0),(q,.err 0)],mem⟩ a w)(hk:w0.k=0)(hm:MemOk σ μ' w mem' D')(h0:μ' 0=μ 1)(hD: ∀id b,D' id b-> ∃j,Ds j b):Rel n fp w0 σ μ' D' ⟨[(p,.box 0 0),(q,.err 0)],mem'⟩ a w:=by
 refine⟨hr.defers,hr.size,λt av ht=>?_,hr.agree,hm,λid b hb=>?_,hr.keeps,hr.old,hr.mono,λi x hi=>?_,hr.kout,by rw[hk];exact Nat.zero_le _⟩
 .have hx:=hr.frame t;simp only[look] at ht hx;split at ht
  .rename_i e;rw[if_pos e] at hx;obtain rfl:=Option.some.inj ht;obtain⟨b,e2,hb⟩:=(hx _ rfl).inv_box;rw[e2];exact .box _ 0 0 b (h0.trans hb)
  .rename_i e;rw[if_neg e] at hx;split at ht
   .rename_i e2;rw[if_pos e2] at hx;obtain rfl:=Option.some.inj ht;exact (hx _ rfl).free rfl
   .cases ht
 .obtain⟨j,hj⟩:=hD id b hb;exact hr.own j b hj
 .have:=hr.kout i (by omega);rw[this] at hi;cases hi
theorem le_N{p q k g:Nat}{cs:List Cb}{mt:List (List Int)}{rs:List Rt}(hrs:rs.length=k):AS.le 0 ⟨[(p,.box 1 0),(q,.err 0)],ntN k cs mt rs g⟩ ⟨[(p,.box 0 0),(q,.err 0)],[ntO ⟨rs,cs,mt,List.replicate k []⟩]⟩:=by
 intro n fp w0 σ μ Ds a w hk h;obtain⟨μ',D,h1,h2,h3⟩:=memN_of hrs h.mem;obtain⟨c,cc,T,hc,_⟩:=h1.ok 0 _ rfl;refine⟨σ,λi=>if i=0 then μ' 0 else none,λi k=>i=0/\ ∃j,D j k,h.box1 hk ⟨λid r hr=>?_,λi j k hi hj=>hi.1.trans hj.1.symm,λid hid=>?_⟩ h2 (λid b hb=>by obtain⟨j,hj⟩:=hb.2;exact h3 j b hj)⟩
 .cases id with
  |zero=>
   simp only[List.getElem?_cons_zero,Option.some.injEq] at hr;subst hr;exact⟨c,by simp only[if_true];exact hc,μ',D,h1,hc,λk=>by simp⟩
  |succ i=>simp at hr
 .exact Y65
def g1:Nat->Nat
 |0=>0
 |_+1=>1
def rsN(T:List (List Int)):Nat->List Rt
 |0=>[]
 |j+1=>rsN T j++[newR ((j:Int)+1) (T.getD j [])]
theorem rsN_map(T:List (List Int)): ∀j,rsN T j=(List.range j).map λ(i:Nat)=>newR ((i:Int)+1) (T.getD i [])
 |0=>rfl
 |j+1=>by rw[List.range_succ,List.map_append,<-rsN_map T j];rfl
theorem rsN_len(T:List (List Int))(j:Nat):(rsN T j).length=j:=by rw[rsN_map];simp
def ntN1(k j:Nat):List Res:=.arr false 63 1 0 (nilRows k)::.cells [.v (.slice none 0 0),.v (.slice none 0 0),.arr 2 (g1 j) j,.arr 0 0 k]::.arr false 88 1 (g1 j) (arrRows 3 j)::intRes (List.replicate j [1,1,1])
def ntN2(k j:Nat)(l:List Ca)(T:List (List Int))(rest:List Res):List Res:=.arr false 63 1 0 (nilRows k)::.cells [.v (.slice none 0 0),.arr (3+k) 1 j,.arr 2 1 k,.arr 0 0 k]::.arr false 88 1 1 (arrRows 3 k)::(intRes T++ .arr true 91 8 1 (((l.take j).map mkCb).map zb2)::rest)
def NewS(K:Nat):Prop:= ∀(k:Nat) (l:List Ca),k=K->1<=k/\k<=6->(∀c∈l,c.ok k)->l.length<=9->Fn Tryz.prog 28 [.v (.int .i64 k),.sl 5 (l.map zcZ) none] [] (.err 0) []->Fn Tryz.prog 10 [.v (.int .i64 k),.sl 5 (l.map zcZ) none] [] (.tup [.box 0 0,.err 0]) [ntO (newN k l)]
theorem zmh(K:Nat)(h:NewS K:=by
  intro k l hkk hk hl hlen ck;obtain⟨κ,hκ⟩: ∃q,q=k:=⟨_,rfl⟩;have hlκ: ∀c∈l,c.ok κ:=by rw[hκ];exact hl
  have hκ6:1<=κ/\κ<=6:=by rw[hκ];exact hk
  obtain⟨R,hR⟩: ∃R,R=newN k l:=⟨_,rfl⟩;obtain⟨kk,hkk2⟩: ∃q,q=κ:=⟨_,rfl⟩;have hR2:R=newN kk l:=by rw[hR,hkk2,hκ]
  rw[<-hR];clear hR hl;subst hkk;refine foP zaA (nnewPl) [(82,false),(88,true)] [13,14] Tryz.func10 Tryz.ntmps10 Tryz.results10 ?_;(all_goals refine fx ?_;repeat' first|exact .intro|refine Tw.mk ?_ ?_|(intro h;first|replace h:=h.o|cases h))
  all_goals ((refine StopCall.fz [] (ck) ?_;(all_goals refine fx ?_;repeat' first|exact .intro|refine Tw.mk ?_ ?_|(intro h;first|replace h:=h.o|cases h))))
  all_goals (try (exfalso;omega))
  refine lpG (λj:Nat=>⟨[(0,.v (.int .i64 κ)),(1,.sl 5 (l.map zcZ) none),(7,.box 1 0),(23,.v (.int .i64 κ)),(24,.v (.int .i64 j))],ntN1 κ j⟩) (λj=>j<=κ) (λj=>κ-j) 0 (by omega) (AS.le_trans (za8 false 1 2 88 1 _ rfl rfl) (by
   simp only[List.set_cons_zero,List.set_cons_succ,hκ,ntN1,ntN2,nilRows,arrRows,intRes,g1,List.replicate_zero,List.replicate_succ,List.cons_append,List.nil_append,List.append_nil,Nat.zero_add,Nat.reduceAdd];(refine za5 ?_;repeat' first|exact .intro|refine Tw.mk ?_ ?_))) ?_
  rintro j hj;by_cases hj':j<κ
  .obtain⟨q,hq⟩: ∃q,q=j:=⟨_,rfl⟩;rcases (by omega:j=0\/j=1\/j=2\/j=3\/j=4\/j=5) with rfl|rfl|rfl|rfl|rfl|rfl;all_goals (first|(exfalso;omega)|skip)
   all_goals
    simp only[hκ,ntN1,ntN2,nilRows,arrRows,intRes,g1,List.replicate_zero,List.replicate_succ,List.cons_append,List.nil_append,List.append_nil,Nat.zero_add,Nat.reduceAdd];(all_goals refine fx ?_;repeat' first|exact .intro|refine Tw.mk ?_ ?_|(intro h;first|replace h:=h.o|cases h))
    all_goals (try (exfalso;omega))
    all_goals (refine zaU (q+1) (by omega) (by omega) (by
     simp only[hq,hκ,ntN1,ntN2,nilRows,arrRows,intRes,g1,List.replicate_zero,List.replicate_succ,List.cons_append,List.nil_append,List.append_nil,Nat.zero_add,Nat.reduceAdd];(refine za5 ?_;repeat' first|exact .intro|refine Tw.mk ?_ ?_)))
  .have hjk:j=κ:=by omega
   rw[hjk];simp only[hκ,ntN1,ntN2,nilRows,arrRows,intRes,g1,List.replicate_zero,List.replicate_succ,List.cons_append,List.nil_append,List.append_nil,Nat.zero_add,Nat.reduceAdd];(all_goals refine fx ?_;repeat' first|exact .intro|refine Tw.mk ?_ ?_|(intro h;first|replace h:=h.o|cases h))
   all_goals (try (exfalso;omega))
   refine lpG2 (λ(j:Nat) (T:List (List Int))=>⟨[(0,.v (.int .i64 κ)),(1,.sl 5 (l.map zcZ) none),(7,.box 1 0),(37,.sl 5 (l.map zcZ) none),(38,.v (.int .i64 l.length)),(39,.v (.int .i64 j))],ntN2 κ j l T []⟩) (λj T=>j<=l.length/\Tok kk T/\T=(l.take j).foldl znG (List.replicate kk [1,1,1])) (λj _=>l.length-j) 0 (List.replicate kk [1,1,1]) ⟨by omega,zoA kk,rfl⟩ (AS.le_trans (za8 true 1 1 91 8 _ rfl rfl) (by
    simp only[List.set_cons_zero,List.set_cons_succ,hkk2,hκ,ntN1,ntN2,nilRows,arrRows,intRes,g1,List.replicate_zero,List.replicate_succ,List.cons_append,List.nil_append,List.append_nil,Nat.zero_add,Nat.reduceAdd];(refine za5 ?_;repeat' first|exact .intro|refine Tw.mk ?_ ?_);all_goals (first|rfl|(simp;done)))) ?_
   clear hj hj' hjk j;rintro j T ⟨hj,hT,hTe⟩;obtain⟨TL,hTL⟩: ∃TL,TL=T:=⟨_,rfl⟩;have l1:=hT.len;rw[hkk2,hκ] at l1;by_cases hj':j<l.length
   .obtain⟨c,hc⟩: ∃c,l[j]=c:=⟨_,rfl⟩;have hco:=hlκ c (hc▸List.getElem_mem hj');have hst:znG T c=(l.take (j+1)).foldl znG (List.replicate kk [1,1,1]):=by rw[zaT hj',List.foldl_append,<-hTe,hc];rfl
    have hT1:=zie hT c.a c.pa hco.m;have hT2:=zie hT1 c.b c.pb hco.m;have hTk:l.take (j+1)=l.take j++[c]:=by rw[zaT hj',hc]
    unfold znG at hst;have htl:(l.take j).length=j:=List.length_take_of_le (by omega);obtain⟨ca,cpa,cb,cpb,cm⟩:=c;obtain⟨ha,hpa,hb,hpb,hm⟩:=hco;dsimp only at ha hpa hb hpb hm hst hT1 hT2;have hra: ∀t,T[(ca-1).toNat]? =some t->(t.map iRow)[cpa.toNat]? =some (iRow (t.getD cpa.toNat 0)):=λt ht=>i_row (hT.three t (List.mem_of_getElem? ht)).1 (by omega);have hrb: ∀t,(putM T ca cpa cm)[(cb-1).toNat]? =some t->(t.map iRow)[cpb.toNat]? =some (iRow (t.getD cpb.toNat 0)):=λt ht=>i_row (hT1.three t (List.mem_of_getElem? ht)).1 (by omega);obtain⟨T1,hT1e⟩: ∃T1,T1=putM T ca cpa cm:=⟨_,rfl⟩;rw[<-hT1e] at hT1 hT2 hst hrb;rw[<-hTL] at hT1e;clear hT hTe;first|obtain⟨b0,rfl⟩:=len1 l1|obtain⟨b0,b1,rfl⟩:=len2 l1|obtain⟨b0,b1,b2,rfl⟩:=len3 l1|obtain⟨b0,b1,b2,b3,rfl⟩:=len4 l1|obtain⟨b0,b1,b2,b3,b4,rfl⟩:=len5 l1|obtain⟨b0,b1,b2,b3,b4,b5,rfl⟩:=len6 l1
    simp only[hκ,ntN1,ntN2,nilRows,arrRows,intRes,g1,List.replicate_zero,List.replicate_succ,List.cons_append,List.nil_append,List.append_nil,Nat.zero_add,Nat.reduceAdd];(all_goals refine fx ?_;repeat' first|exact .intro|refine Tw.mk ?_ ?_|(intro h;first|replace h:=h.o|cases h))
    all_goals (try (exfalso;omega))
    refine cutK ⟨[(0,.v (.int .i64 κ)),(1,.sl 5 (l.map zcZ) none),(7,.box 1 0),(37,.sl 5 (l.map zcZ) none),(38,.v (.int .i64 l.length)),(9,.box (4+κ) 0),(39,.v (.int .i64 j))],ntN2 κ (j+1) l TL [.cells [.v (.int .i64 ca),.v (.int .i64 cpa),.v (.int .i64 cb),.v (.int .i64 cpb),.v (.int .i64 cm)]]⟩ ?_ (λhy=>?_);rotate_left
    .rw[hTL] at hy;simp only[hκ,ntN1,ntN2,nilRows,arrRows,intRes,g1,List.replicate_zero,List.replicate_succ,List.cons_append,List.nil_append,List.append_nil,Nat.zero_add,Nat.reduceAdd] at hy;(all_goals refine fx ?_;repeat' first|exact .intro|refine Tw.mk ?_ ?_|(intro h;first|replace h:=h.o|cases h))
     all_goals (try (show Fits _ _;unfold Fits maxLen;simp only[List.length_take,List.length_map,List.length_cons,List.length_nil];omega))
     all_goals (exact⟨_,(by (refine za5 ?_;repeat' first|exact .intro|refine Tw.mk ?_ ?_);all_goals (first|rfl|(rw[hc];done)|(rw[List.take_of_length_le (by simp;omega),hTk,List.map_append,List.map_append,<-hc];rfl)|(simp [hc];done)|skip)),hy⟩)
    rw[hTL];simp only[hκ,ntN1,ntN2,nilRows,arrRows,intRes,g1,List.replicate_zero,List.replicate_succ,List.cons_append,List.nil_append,List.append_nil,Nat.zero_add,Nat.reduceAdd];(all_goals refine fx ?_;repeat' first|exact .intro|refine Tw.mk ?_ ?_|(intro h;first|replace h:=h.o|cases h))
    refine cutK ⟨[(0,.v (.int .i64 κ)),(1,.sl 5 (l.map zcZ) none),(7,.box 1 0),(37,.sl 5 (l.map zcZ) none),(38,.v (.int .i64 l.length)),(9,.box (4+κ) 0),(39,.v (.int .i64 j))],ntN2 κ (j+1) l T1 [.cells [.v (.int .i64 ca),.v (.int .i64 cpa),.v (.int .i64 cb),.v (.int .i64 cpb),.v (.int .i64 cm)]]⟩ ?_ (λhy=>?_);rotate_left
    .rw[hT1e,hTL] at hy;rcases (by omega:ca=1\/ca=2\/ca=3\/ca=4\/ca=5\/ca=6) with rfl|rfl|rfl|rfl|rfl|rfl
     all_goals (first|(exfalso;omega)|skip)
     all_goals
      have hrow:=hra _ rfl;simp only[hκ,putM,Int.reduceSub,Int.reduceToNat,List.modify_zero_cons,List.modify_succ_cons,ntN1,ntN2,nilRows,arrRows,intRes,g1,List.replicate_zero,List.replicate_succ,List.cons_append,List.nil_append,List.append_nil,Nat.zero_add,Nat.reduceAdd] at hy;(all_goals refine fx ?_;repeat' first|exact .intro|refine Tw.mk ?_ ?_|(intro h;first|replace h:=h.o|cases h))
      all_goals (try (exfalso;omega))
      all_goals (exact⟨_,(by (refine za5 ?_;repeat' first|exact .intro|refine Tw.mk ?_ ?_);all_goals (first|rfl|exact i_set|(simp;done))),hy⟩)
    clear hra hT1e hTL;have l2:=hT1.len;rw[hkk2,hκ] at l2;obtain⟨T2,hT2e⟩: ∃T2,T2=putM T1 cb cpb cm:=⟨_,rfl⟩;rw[<-hT2e] at hT2 hst;clear hT1;first|obtain⟨b0,rfl⟩:=len1 l2|obtain⟨b0,b1,rfl⟩:=len2 l2|obtain⟨b0,b1,b2,rfl⟩:=len3 l2|obtain⟨b0,b1,b2,b3,rfl⟩:=len4 l2|obtain⟨b0,b1,b2,b3,b4,rfl⟩:=len5 l2|obtain⟨b0,b1,b2,b3,b4,b5,rfl⟩:=len6 l2
    simp only[hκ,ntN1,ntN2,nilRows,arrRows,intRes,g1,List.replicate_zero,List.replicate_succ,List.cons_append,List.nil_append,List.append_nil,Nat.zero_add,Nat.reduceAdd];rcases (by omega:cb=1\/cb=2\/cb=3\/cb=4\/cb=5\/cb=6) with rfl|rfl|rfl|rfl|rfl|rfl
    all_goals (first|(exfalso;omega)|skip)
    all_goals
     have hrow:=hrb _ rfl;simp only[putM,Int.reduceSub,Int.reduceToNat,List.modify_zero_cons,List.modify_succ_cons] at hT2e;(all_goals refine fx ?_;repeat' first|exact .intro|refine Tw.mk ?_ ?_|(intro h;first|replace h:=h.o|cases h))
     all_goals (try (exfalso;omega))
     all_goals (refine za3 (j+1) T2 ⟨by omega,hT2,hst⟩ (by omega) (by
      rw[hT2e];simp only[hκ,ntN1,ntN2,nilRows,arrRows,intRes,g1,List.replicate_zero,List.replicate_succ,List.cons_append,List.nil_append,List.append_nil,Nat.zero_add,Nat.reduceAdd];(refine za5 ?_;repeat' first|exact .intro|refine Tw.mk ?_ ?_);all_goals (first|rfl|exact i_set|(simp;done))))
   .have hjl:j=l.length:=by omega
    rw[hjl,List.take_length] at hTe;have hNT:newT kk l=TL:=by rw[hTL];exact hTe.symm
    have hR3:R=⟨rsN TL κ,l.map mkCb,TL,List.replicate κ []⟩:=by rw[hR2];unfold newN;rw[hNT,rsN_map,hkk2]
    rw[hR3];rw[<-hTL] at hT;have hT3: ∀t∈TL,(t.map iRow).take 3=t.map iRow:=λt ht=>List.take_of_length_le (by rw[List.length_map,(hT.three t ht).1];exact Nat.le_refl _);clear hTe hNT hR2 hR3 hlκ;first|obtain⟨b0,rfl⟩:=len1 l1|obtain⟨b0,b1,rfl⟩:=len2 l1|obtain⟨b0,b1,b2,rfl⟩:=len3 l1|obtain⟨b0,b1,b2,b3,rfl⟩:=len4 l1|obtain⟨b0,b1,b2,b3,b4,rfl⟩:=len5 l1|obtain⟨b0,b1,b2,b3,b4,b5,rfl⟩:=len6 l1
    rw[hTL] at hT3;rw[hjl];simp only[hκ,ntN1,ntN2,nilRows,arrRows,intRes,g1,List.replicate_zero,List.replicate_succ,List.cons_append,List.nil_append,List.append_nil,Nat.zero_add,Nat.reduceAdd,List.take_length];(all_goals refine fx ?_;repeat' first|exact .intro|refine Tw.mk ?_ ?_|(intro h;first|replace h:=h.o|cases h))
    all_goals (try (exfalso;omega))
    refine lpG (λj:Nat=>⟨[(0,.v (.int .i64 κ)),(7,.box 1 0),(83,.v (.int .i64 κ)),(84,.v (.int .i64 j))],ntN κ (l.map mkCb) TL (rsN TL j) (g1 j)⟩) (λj=>j<=κ) (λj=>κ-j) 0 (by omega) (by
     refine AS.le_trans (zcF 3 2 0 _ rfl rfl rfl rfl) ?_;try refine AS.le_trans (zcF 4 2 1 _ rfl rfl rfl rfl) ?_
     try refine AS.le_trans (zcF 5 2 2 _ rfl rfl rfl rfl) ?_
     try refine AS.le_trans (zcF 6 2 3 _ rfl rfl rfl rfl) ?_
     try refine AS.le_trans (zcF 7 2 4 _ rfl rfl rfl rfl) ?_
     try refine AS.le_trans (zcF 8 2 5 _ rfl rfl rfl rfl) ?_
     refine AS.le_trans (za8 false 1 0 45 1 _ rfl rfl) ?_;rw[hTL];simp only[ntN,mtRow,rsN,rowsR,resR,List.map_cons,List.map_nil,List.length_cons,List.length_nil,List.set_cons_zero,List.set_cons_succ,hκ,ntN1,ntN2,nilRows,arrRows,intRes,g1,List.replicate_zero,List.replicate_succ,List.cons_append,List.nil_append,List.append_nil,Nat.zero_add,Nat.reduceAdd];first
      |(have hg:κ=1:=hκ;(refine zaC [0,1,2,4,5] ?_;repeat' first|exact .intro|refine Tw.mk ?_ ?_);all_goals (first|rfl|(exact (List.length_map ..).symm)|(exact hT3 _ (by simp))|(simp;done)))
      |(have hg:κ=2:=hκ;(refine zaC [0,1,2,5,6] ?_;repeat' first|exact .intro|refine Tw.mk ?_ ?_);all_goals (first|rfl|(exact (List.length_map ..).symm)|(exact hT3 _ (by simp))|(simp;done)))
      |(have hg:κ=3:=hκ;(refine zaC [0,1,2,6,7] ?_;repeat' first|exact .intro|refine Tw.mk ?_ ?_);all_goals (first|rfl|(exact (List.length_map ..).symm)|(exact hT3 _ (by simp))|(simp;done)))
      |(have hg:κ=4:=hκ;(refine zaC [0,1,2,7,8] ?_;repeat' first|exact .intro|refine Tw.mk ?_ ?_);all_goals (first|rfl|(exact (List.length_map ..).symm)|(exact hT3 _ (by simp))|(simp;done)))
      |(have hg:κ=5:=hκ;(refine zaC [0,1,2,8,9] ?_;repeat' first|exact .intro|refine Tw.mk ?_ ?_);all_goals (first|rfl|(exact (List.length_map ..).symm)|(exact hT3 _ (by simp))|(simp;done)))
      |(have hg:κ=6:=hκ;(refine zaC [0,1,2,9,10] ?_;repeat' first|exact .intro|refine Tw.mk ?_ ?_);all_goals (first|rfl|(exact (List.length_map ..).symm)|(exact hT3 _ (by simp))|(simp;done)))) ?_
    clear hj hj' hjl j;rintro j hj;by_cases hj':j<κ
    .obtain⟨a,b,c,habc,ha,hb,hc⟩:=zeU hT (t:=TL.getD j []) (by
      rw[List.getD_eq_getElem?_getD,List.getElem?_eq_getElem (by rw[hT.len,hkk2];exact hj')];exact List.getElem_mem _)
     have hn:=xrnew ((j:Int)+1) a b c (by omega) ⟨ha,hb,hc⟩;rw[hTL] at habc;clear hT;obtain⟨q,hq⟩: ∃q,q=j:=⟨_,rfl⟩;rcases (by omega:j=0\/j=1\/j=2\/j=3\/j=4\/j=5) with rfl|rfl|rfl|rfl|rfl|rfl
     all_goals (first|(exfalso;omega)|skip)
     all_goals
      simp only[List.getD_cons_zero,List.getD_cons_succ] at habc;subst habc;rw[hTL];simp only[ntN,mtRow,rsN,rowsR,resR,List.getD_cons_zero,List.getD_cons_succ,List.map_cons,List.map_nil,List.length_cons,List.length_nil,hκ,ntN1,ntN2,nilRows,arrRows,intRes,g1,List.replicate_zero,List.replicate_succ,List.cons_append,List.nil_append,List.append_nil,Nat.zero_add,Nat.reduceAdd];(all_goals refine fx ?_;repeat' first|exact .intro|refine Tw.mk ?_ ?_|(intro h;first|replace h:=h.o|cases h))
      all_goals (try (exfalso;omega))
      all_goals ((refine StopCall.fz [] (hn) ?_;(all_goals refine fx ?_;repeat' first|exact .intro|refine Tw.mk ?_ ?_|(intro h;first|replace h:=h.o|cases h))))
      all_goals (try (exfalso;omega))
      all_goals (refine zaU (q+1) (by omega) (by omega) (by
       try rw[hTL]
       simp only[ntN,mtRow,rsN,rowsR,resR,List.getD_cons_zero,List.getD_cons_succ,List.map_cons,List.map_nil,List.length_cons,List.length_nil,hq,hκ,ntN1,ntN2,nilRows,arrRows,intRes,g1,List.replicate_zero,List.replicate_succ,List.cons_append,List.nil_append,List.append_nil,Nat.zero_add,Nat.reduceAdd];(refine za5 ?_;repeat' first|exact .intro|refine Tw.mk ?_ ?_);all_goals (first|rfl|(simp;done))))
    .have hjk:j=κ:=by omega
     rw[hjk];have hN:=le_N (p:=4) (q:=5) (k:=κ) (g:=g1 κ) (cs:=l.map mkCb) (mt:=TL) (rsN_len TL κ);rw[hTL] at hN ⊢;simp only[ntN,mtRow,rsN,rowsR,resR,List.getD_cons_zero,List.getD_cons_succ,List.map_cons,List.map_nil,List.length_cons,List.length_nil,hκ,ntN1,ntN2,nilRows,arrRows,intRes,g1,List.replicate_zero,List.replicate_succ,List.cons_append,List.nil_append,List.append_nil,Nat.zero_add,Nat.reduceAdd] at hN ⊢;(all_goals refine fx ?_;repeat' first|exact .intro|refine Tw.mk ?_ ?_|(intro h;first|replace h:=h.o|cases h))
     all_goals (try (exfalso;omega))
     all_goals (refine⟨_,AS.le_trans ?_ hN,?_⟩)
     all_goals (first|((refine za5 ?_;repeat' first|exact .intro|refine Tw.mk ?_ ?_);done)|(((try (conv=>whnf));refine StopRet.by [0] ?_;repeat' first|exact .intro|refine Tw.mk ?_ ?_)))):NewS K:=h
end Go.Proofs.YtimfnpjcedjmiadGreat
