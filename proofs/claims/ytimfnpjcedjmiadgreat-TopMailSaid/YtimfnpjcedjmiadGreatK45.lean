/- Lemmas. -/
import Derived.Test.YtimfnpjcedjmiadGreatK42
import Derived.Test.YtimfnpjcedjmiadGreatK43
import Derived.Test.YtimfnpjcedjmiadGreatK44
set_option maxRecDepth 100000
set_option maxHeartbeats 64000000
set_option linter.all false
namespace Go.Proofs.YtimfnpjcedjmiadGreat
open Go.RowKit
section
variable {k n d e:Nat} {N:Nt}
theorem zox(hn:n<=7000000)(he:e<=900000000000)(hk:1<=k/\k<=6)(hN:N.ok k n d e)(v:Nat->Nat)(i:Int)(up:Bool):Fn Tryz.prog 20 [.box 0 0,.v (.int .i64 i),.v (.bool up)] (ntE N v 0) (.err (zff N i up)) (ntE (zbY N i up) v 1):=by
 rcases (by omega:k=1\/k=2\/k=3\/k=4\/k=5\/k=6) with h|h|h|h|h|h
 .exact plug_1 k n d e N v i up hn he hk hN h
 .exact plug_2 k n d e N v i up hn he hk hN h
 .exact plug_3 k n d e N v i up hn he hk hN h
 .exact plug_4 k n d e N v i up hn he hk hN h
 .exact plug_5 k n d e N v i up hn he hk hN h
 .exact plug_6 k n d e N v i up hn he hk hN h
theorem delE(hn:n<=6000000)(hd:d<=800000000)(he:e<=900000000000)(hk:1<=k/\k<=6)(hN:N.ok k n d e)(v:Nat->Nat)(i way many:Int):Fn Tryz.prog 31 [.box 0 0,.v (.int .i64 i),.v (.int .i64 way),.v (.int .i64 many)] (ntE N v 0) (.err (zkJ N i way)) (ntE (ndel N i way many) v 1):=by
 rcases (by omega:k=1\/k=2\/k=3\/k=4\/k=5\/k=6) with h|h|h|h|h|h
 .exact del_1 k n d e N v i way many hn hd he hk hN h
 .exact del_2 k n d e N v i way many hn hd he hk hN h
 .exact del_3 k n d e N v i way many hn hd he hk hN h
 .exact del_4 k n d e N v i way many hn hd he hk hN h
 .exact del_5 k n d e N v i way many hn hd he hk hN h
 .exact del_6 k n d e N v i way many hn hd he hk hN h
end
def zfh(K:Nat):Prop:= ∀(k d e:Nat) (N:Nt) (v:Nat->Nat),d<=300000000->e<=400000000000->1<=k/\k<=6->N.inv k d e->k=K->Fn Tryz.prog 24 [.box 0 0] (ntE N v 0) (.tup []) (ntE (zdt N) v 1)
theorem zfE(K:Nat)(h:zfh K:=by
  intro k d e N v hd he hk hN hkk;obtain⟨N0,hN0⟩: ∃N0,N0=N:=⟨_,rfl⟩;obtain⟨κ,hκ⟩: ∃q,q=k:=⟨_,rfl⟩;rw[hkk] at hκ;have l2:=hN.ok.ib;obtain⟨R,hRe⟩: ∃R,R=zdt N:=⟨_,rfl⟩;rw[<-hRe];have hR:R=(List.range 12).foldl ziA ((List.range k).foldl (λq (i:Nat)=>zdH q ((i:Int)+1)) N0):=by rw[hRe,hN0];unfold zdt;rw[hN.ok.rs]
  clear hRe;rw[<-hN0] at hN;obtain⟨rs,cs,mt,ib⟩:=N;dsimp only at l2;rw[hkk] at l2;first|obtain⟨b0,rfl⟩:=len1 l2|obtain⟨b0,b1,rfl⟩:=len2 l2|obtain⟨b0,b1,b2,rfl⟩:=len3 l2|obtain⟨b0,b1,b2,b3,rfl⟩:=len4 l2|obtain⟨b0,b1,b2,b3,b4,rfl⟩:=len5 l2|obtain⟨b0,b1,b2,b3,b4,b5,rfl⟩:=len6 l2
  simp only[ntE,rowsI,resI,List.length_cons,List.length_nil,Nat.zero_add,Nat.reduceAdd];refine foA zaA [] [] Tryz.func24 Tryz.ntmps24 Tryz.results24 ?_;(all_goals refine fx ?_;repeat' first|exact .intro|refine Tw.mk ?_ ?_|(intro h;first|replace h:=h.o|cases h))
  refine lpG2 (λ(i:Nat) (M:Nt)=>⟨[(0,.box 0 0),(9,.v (.int .i64 κ)),(10,.v (.int .i64 i))],ntE M v 1⟩) (λi M=>i<=k/\M.inv k d (e+6630*i)/\M=(List.range i).foldl (λq (i:Nat)=>zdH q ((i:Int)+1)) N0) (λi _=>k-i) 0 N0 ⟨by omega,hN,rfl⟩ (by
   rw[hN0];simp only[hκ,ntE,rowsI,resI,List.length_cons,List.length_nil,Nat.zero_add,Nat.reduceAdd];(refine za5 ?_;repeat' first|exact .intro|refine Tw.mk ?_ ?_)) ?_
  rintro i M ⟨hi,hinv,hM⟩;by_cases hi':i<k
  .have hst:=zcb hM;have h2:=zd8 hinv ((i:Int)+1);have ct:=tickE (n:=0) (by omega) (by omega) hk hinv.ok v ((i:Int)+1);have l3:=hinv.ok.ib;have l4:=h2.ok.ib;generalize zdH M ((i:Int)+1)=M2 at hst h2 ct l4;clear hinv hM;obtain⟨rs1,cs1,mt1,ib1⟩:=M;obtain⟨rs2,cs2,mt2,ib2,hE2⟩: ∃a b c d,M2=(⟨a,b,c,d⟩:Nt):=⟨_,_,_,_,rfl⟩;rw[hE2] at l4 ct;dsimp only at l3 l4;rw[hkk] at l3 l4;first|obtain⟨b0,rfl⟩:=len1 l3|obtain⟨b0,b1,rfl⟩:=len2 l3|obtain⟨b0,b1,b2,rfl⟩:=len3 l3|obtain⟨b0,b1,b2,b3,rfl⟩:=len4 l3|obtain⟨b0,b1,b2,b3,b4,rfl⟩:=len5 l3|obtain⟨b0,b1,b2,b3,b4,b5,rfl⟩:=len6 l3
   first|obtain⟨b0,rfl⟩:=len1 l4|obtain⟨b0,b1,rfl⟩:=len2 l4|obtain⟨b0,b1,b2,rfl⟩:=len3 l4|obtain⟨b0,b1,b2,b3,rfl⟩:=len4 l4|obtain⟨b0,b1,b2,b3,b4,rfl⟩:=len5 l4|obtain⟨b0,b1,b2,b3,b4,b5,rfl⟩:=len6 l4
   simp only[hκ,ntE,rowsI,resI,List.length_cons,List.length_nil,Nat.zero_add,Nat.reduceAdd] at ct ⊢;(all_goals refine fx ?_;repeat' first|exact .intro|refine Tw.mk ?_ ?_|(intro h;first|replace h:=h.o|cases h))
   all_goals (try (exfalso;omega))
   all_goals ((refine zbW (ct) ?_;(all_goals refine fx ?_;repeat' first|exact .intro|refine Tw.mk ?_ ?_|(intro h;first|replace h:=h.o|cases h))))
   all_goals (refine za3 (i+1) M2 ⟨by omega,h2.up (Nat.le_refl _) (by omega),hst⟩ (by omega) (by
    rw[hE2];simp only[hκ,ntE,rowsI,resI,List.length_cons,List.length_nil,Nat.zero_add,Nat.reduceAdd];(refine za5 ?_;repeat' first|exact .intro|refine Tw.mk ?_ ?_)))
  .have hik:i=k:=by omega
   rw[hik] at hM hinv;rw[<-hM] at hR;have l3:=hinv.ok.ib;clear hM hN hN0;obtain⟨rs1,cs1,mt1,ib1,hE1⟩: ∃a b c d,M=(⟨a,b,c,d⟩:Nt):=⟨_,_,_,_,rfl⟩;rw[hE1] at l3;dsimp only at l3;rw[hkk] at l3;first|obtain⟨b0,rfl⟩:=len1 l3|obtain⟨b0,b1,rfl⟩:=len2 l3|obtain⟨b0,b1,b2,rfl⟩:=len3 l3|obtain⟨b0,b1,b2,b3,rfl⟩:=len4 l3|obtain⟨b0,b1,b2,b3,b4,rfl⟩:=len5 l3|obtain⟨b0,b1,b2,b3,b4,b5,rfl⟩:=len6 l3
   rw[hE1,hik];simp only[hκ,ntE,rowsI,resI,List.length_cons,List.length_nil,Nat.zero_add,Nat.reduceAdd];(all_goals refine fx ?_;repeat' first|exact .intro|refine Tw.mk ?_ ?_|(intro h;first|replace h:=h.o|cases h))
   all_goals (try (exfalso;omega))
   refine lpG2 (λ(j:Nat) (Q:Nt)=>⟨[(0,.box 0 0),(18,.v (.int .i64 j))],ntE Q v 1⟩) (λj Q=>j<=12/\Q.inv k (d+36000*j) (e+6630*k+18720000*j)/\Q=(List.range j).foldl ziA M) (λj _=>12-j) 0 M ⟨by omega,hinv,rfl⟩ (by
    rw[hE1];simp only[ntE,rowsI,resI,List.length_cons,List.length_nil,Nat.zero_add,Nat.reduceAdd];(refine za5 ?_;repeat' first|exact .intro|refine Tw.mk ?_ ?_)) ?_
   clear hinv hE1;rintro j Q ⟨hj,hinv,hQ⟩;have l5:=hinv.ok.ib;by_cases hj':j<12
   .have hst:=zcb hQ;have hL:=hinv.ok.cs;unfold ziA at hst;try dsimp only at hst
    obtain⟨L,hLe⟩: ∃L,L=Q.cs.length:=⟨_,rfl⟩;rw[<-hLe] at hst hL;clear hQ;obtain⟨rs3,cs3,mt3,ib3,hE3⟩: ∃a b c d,Q=(⟨a,b,c,d⟩:Nt):=⟨_,_,_,_,rfl⟩;rw[hE3] at l5 hLe;dsimp only at l5 hLe;rw[hkk] at l5;first|obtain⟨b0,rfl⟩:=len1 l5|obtain⟨b0,b1,rfl⟩:=len2 l5|obtain⟨b0,b1,b2,rfl⟩:=len3 l5|obtain⟨b0,b1,b2,b3,rfl⟩:=len4 l5|obtain⟨b0,b1,b2,b3,b4,rfl⟩:=len5 l5|obtain⟨b0,b1,b2,b3,b4,b5,rfl⟩:=len6 l5
    rw[hE3];simp only[ntE,rowsI,resI,List.length_cons,List.length_nil,Nat.zero_add,Nat.reduceAdd];(all_goals refine fx ?_;repeat' first|exact .intro|refine Tw.mk ?_ ?_|(intro h;first|replace h:=h.o|cases h))
    all_goals (try (exfalso;omega))
    refine lpG2 (λ(i:Nat) (P:Nt)=>⟨[(0,.box 0 0),(18,.v (.int .i64 j)),(24,.v (.int .i64 L)),(25,.v (.int .i64 i))],ntE P v 1⟩) (λi P=>i<=L/\P.cs.length=L/\P.inv k (d+36000*j+4000*i) (e+6630*k+18720000*j+2080000*i)/\P=(List.range i).foldl (λq (i:Nat)=>ndel (ndel q i 0 2000) i 1 2000) Q) (λi _=>L-i) 0 Q ⟨by omega,by rw[hE3,hLe],hinv,rfl⟩ (by
     rw[hE3];simp only[ntE,rowsI,resI,List.length_cons,List.length_nil,Nat.zero_add,Nat.reduceAdd];(refine za5 ?_;repeat' first|exact .intro|refine Tw.mk ?_ ?_);all_goals (first|rfl|(rw[hLe];done))) ?_
    clear hinv hE3 hLe;rintro i P ⟨hi,hcl,hin4,hP⟩;have l6:=hin4.ok.ib;by_cases hi':i<L
    .have hs4:=zcb hP;clear hP;obtain⟨rs4,cs4,mt4,ib4,hE4⟩: ∃a b c d,P=(⟨a,b,c,d⟩:Nt):=⟨_,_,_,_,rfl⟩;rw[hE4] at l6;dsimp only at l6;rw[hkk] at l6;first|obtain⟨b0,rfl⟩:=len1 l6|obtain⟨b0,b1,rfl⟩:=len2 l6|obtain⟨b0,b1,b2,rfl⟩:=len3 l6|obtain⟨b0,b1,b2,b3,rfl⟩:=len4 l6|obtain⟨b0,b1,b2,b3,b4,rfl⟩:=len5 l6|obtain⟨b0,b1,b2,b3,b4,b5,rfl⟩:=len6 l6
     rw[hE4];simp only[ntE,rowsI,resI,List.length_cons,List.length_nil,Nat.zero_add,Nat.reduceAdd];(all_goals refine fx ?_;repeat' first|exact .intro|refine Tw.mk ?_ ?_|(intro h;first|replace h:=h.o|cases h))
     all_goals (try (exfalso;omega))
     refine lpG2 (λ(w:Nat) (T:Nt)=>⟨[(0,.box 0 0),(18,.v (.int .i64 j)),(24,.v (.int .i64 L)),(25,.v (.int .i64 i)),(3,.v (.int .i64 i)),(28,.v (.int .i64 w))],ntE T v 1⟩) (λw T=>w<=2/\T.cs.length=L/\T.inv k (d+36000*j+4000*i+2000*w) (e+6630*k+18720000*j+2080000*i+1040000*w)/\T=(match w with|0=>P|1=>ndel P i 0 2000|_=>ndel (ndel P i 0 2000) i 1 2000)) (λw _=>2-w) 0 P ⟨by omega,hcl,hin4,rfl⟩ (by
      rw[hE4];simp only[ntE,rowsI,resI,List.length_cons,List.length_nil,Nat.zero_add,Nat.reduceAdd];(refine za5 ?_;repeat' first|exact .intro|refine Tw.mk ?_ ?_)) ?_
     clear hin4 hE4 hcl;rintro w T ⟨hw,hcw,hin5,hT⟩;have l7:=hin5.ok.ib;rw[hkk] at l7;by_cases hw':w<2
     .obtain⟨T2,hT2⟩: ∃T2,T2=ndel T i w 2000:=⟨_,rfl⟩;have h6:=zdF hin5 i w 2000;have hc6:=cs_ndel hin5.ok i w 2000;have ct:=delE (n:=0) (by omega) (by omega) (by omega) hk hin5.ok v i w 2000;have hT3:T2=(match w+1 with|0=>P|1=>ndel P i 0 2000|_=>ndel (ndel P i 0 2000) i 1 2000):=by
       rcases (by omega:w=0\/w=1) with rfl|rfl
       .rw[hT2,hT];rfl
       .rw[hT2,hT];rfl
      rw[<-hT2] at h6 hc6 ct;have l8:=h6.ok.ib;rw[hkk] at l8;clear hin5 hT hT2;obtain⟨rs5,cs5,mt5,ib5⟩:=T;obtain⟨rs6,cs6,mt6,ib6,hE6⟩: ∃a b c d,T2=(⟨a,b,c,d⟩:Nt):=⟨_,_,_,_,rfl⟩;rw[hE6] at l8 ct;dsimp only at l7 l8 hcw;first|obtain⟨b0,rfl⟩:=len1 l7|obtain⟨b0,b1,rfl⟩:=len2 l7|obtain⟨b0,b1,b2,rfl⟩:=len3 l7|obtain⟨b0,b1,b2,b3,rfl⟩:=len4 l7|obtain⟨b0,b1,b2,b3,b4,rfl⟩:=len5 l7|obtain⟨b0,b1,b2,b3,b4,b5,rfl⟩:=len6 l7
      first|obtain⟨b0,rfl⟩:=len1 l8|obtain⟨b0,b1,rfl⟩:=len2 l8|obtain⟨b0,b1,b2,rfl⟩:=len3 l8|obtain⟨b0,b1,b2,b3,rfl⟩:=len4 l8|obtain⟨b0,b1,b2,b3,b4,rfl⟩:=len5 l8|obtain⟨b0,b1,b2,b3,b4,b5,rfl⟩:=len6 l8
      simp only[ntE,rowsI,resI,List.length_cons,List.length_nil,Nat.zero_add,Nat.reduceAdd] at ct ⊢;(all_goals refine fx ?_;repeat' first|exact .intro|refine Tw.mk ?_ ?_|(intro h;first|replace h:=h.o|cases h))
      all_goals (try (exfalso;omega))
      all_goals ((refine zbW (ct) ?_;(all_goals refine fx ?_;repeat' first|exact .intro|refine Tw.mk ?_ ?_|(intro h;first|replace h:=h.o|cases h))))
      all_goals (refine za3 (w+1) T2 ⟨by omega,hc6.trans hcw,h6.up (by omega) (by omega),hT3⟩ (by omega) (by
       rw[hE6];simp only[ntE,rowsI,resI,List.length_cons,List.length_nil,Nat.zero_add,Nat.reduceAdd];(refine za5 ?_;repeat' first|exact .intro|refine Tw.mk ?_ ?_)))
     .have hw2:w=2:=by omega
      rw[hw2] at hT hin5;have hT:T=ndel (ndel P i 0 2000) i 1 2000:=hT;rw[<-hT] at hs4;clear hT;obtain⟨rs5,cs5,mt5,ib5,hE5⟩: ∃a b c d,T=(⟨a,b,c,d⟩:Nt):=⟨_,_,_,_,rfl⟩;rw[hE5] at l7;dsimp only at l7;first|obtain⟨b0,rfl⟩:=len1 l7|obtain⟨b0,b1,rfl⟩:=len2 l7|obtain⟨b0,b1,b2,rfl⟩:=len3 l7|obtain⟨b0,b1,b2,b3,rfl⟩:=len4 l7|obtain⟨b0,b1,b2,b3,b4,rfl⟩:=len5 l7|obtain⟨b0,b1,b2,b3,b4,b5,rfl⟩:=len6 l7
      rw[hE5,hw2];simp only[ntE,rowsI,resI,List.length_cons,List.length_nil,Nat.zero_add,Nat.reduceAdd];(all_goals refine fx ?_;repeat' first|exact .intro|refine Tw.mk ?_ ?_|(intro h;first|replace h:=h.o|cases h))
      all_goals (try (exfalso;omega))
      all_goals (refine za3 (i+1) T ⟨by omega,hcw,hin5.up (by omega) (by omega),hs4⟩ (by omega) (by
       rw[hE5];simp only[ntE,rowsI,resI,List.length_cons,List.length_nil,Nat.zero_add,Nat.reduceAdd];(refine za5 ?_;repeat' first|exact .intro|refine Tw.mk ?_ ?_)))
    .have hiL:i=L:=by omega
     rw[hiL] at hP hin4;rw[<-hP] at hst;clear hP;obtain⟨rs4,cs4,mt4,ib4,hE4⟩: ∃a b c d,P=(⟨a,b,c,d⟩:Nt):=⟨_,_,_,_,rfl⟩;rw[hE4] at l6;dsimp only at l6;rw[hkk] at l6;first|obtain⟨b0,rfl⟩:=len1 l6|obtain⟨b0,b1,rfl⟩:=len2 l6|obtain⟨b0,b1,b2,rfl⟩:=len3 l6|obtain⟨b0,b1,b2,b3,rfl⟩:=len4 l6|obtain⟨b0,b1,b2,b3,b4,rfl⟩:=len5 l6|obtain⟨b0,b1,b2,b3,b4,b5,rfl⟩:=len6 l6
     rw[hE4,hiL];simp only[ntE,rowsI,resI,List.length_cons,List.length_nil,Nat.zero_add,Nat.reduceAdd];(all_goals refine fx ?_;repeat' first|exact .intro|refine Tw.mk ?_ ?_|(intro h;first|replace h:=h.o|cases h))
     all_goals (try (exfalso;omega))
     all_goals (refine za3 (j+1) P ⟨by omega,hin4.up (by omega) (by omega),hst⟩ (by omega) (by
      rw[hE4];simp only[ntE,rowsI,resI,List.length_cons,List.length_nil,Nat.zero_add,Nat.reduceAdd];(refine za5 ?_;repeat' first|exact .intro|refine Tw.mk ?_ ?_)))
   .have hj2:j=12:=by omega
    rw[hj2] at hQ;rw[hR,<-hQ];clear hQ hinv;obtain⟨rs3,cs3,mt3,ib3,hE3⟩: ∃a b c d,Q=(⟨a,b,c,d⟩:Nt):=⟨_,_,_,_,rfl⟩;rw[hE3] at l5;dsimp only at l5;rw[hkk] at l5;first|obtain⟨b0,rfl⟩:=len1 l5|obtain⟨b0,b1,rfl⟩:=len2 l5|obtain⟨b0,b1,b2,rfl⟩:=len3 l5|obtain⟨b0,b1,b2,b3,rfl⟩:=len4 l5|obtain⟨b0,b1,b2,b3,b4,rfl⟩:=len5 l5|obtain⟨b0,b1,b2,b3,b4,b5,rfl⟩:=len6 l5
    rw[hE3,hj2];simp only[ntE,rowsI,resI,List.length_cons,List.length_nil,Nat.zero_add,Nat.reduceAdd];(all_goals refine fx ?_;repeat' first|exact .intro|refine Tw.mk ?_ ?_|(intro h;first|replace h:=h.o|cases h))
    all_goals (try (exfalso;omega))
    all_goals (((try (conv=>whnf));refine ziz ?_;repeat' first|exact .intro|refine Tw.mk ?_ ?_))):zfh K:=h
def RstS(K:Nat):Prop:= ∀(k d e:Nat) (N:Nt) (i:Int),d<=700000000->e<=800000000000->1<=k/\k<=6->N.inv k d e->k=K->Fn Tryz.prog 32 [.box 0 0,.v (.int .i64 i)] [ntO N] (.err (if N.has i then 0 else 6)) [ntO (nrst N i)]
theorem zm7(K:Nat)(h:RstS K:=by
  intro k d e N i hd he hk hN hkk;have l1:=hN.ok.rs;have l2:=hN.ok.ib;have hib:N.rs.length=N.ib.length:=by rw[l1,l2]
  obtain⟨κ,hκ⟩: ∃q,q=k:=⟨_,rfl⟩;rw[hkk] at hκ;by_cases hi:1<=i/\i<=k
  .have hh:N.has i=true:=zcI.2 (by rw[l1];exact hi);obtain⟨a,b,c,hmt,ha,hb,hc⟩: ∃a b c,N.mt[(i-1).toNat]? =some [a,b,c]/\(1<=a/\a<=20)/\(1<=b/\b<=20)/\(1<=c/\c<=20):=by
    have h1:=hN.ok.mt;have hlt:(i-1).toNat<N.mt.length:=by omega
    obtain⟨a,b,c,h2,h3⟩:=hN.ok.m3 N.mt[(i-1).toNat] (List.getElem_mem hlt);exact⟨a,b,c,by rw[List.getElem?_eq_getElem hlt,h2],h3⟩
   have hL9:=hN.ok.cs;obtain⟨R,hRe⟩: ∃R,R=nrst N i:=⟨_,rfl⟩;have hP:R=((List.range N.cs.length).foldl (zc8 i) (N,[])).2.foldl (λq (k:Nat)=>zbY q k true) (((List.range N.cs.length).foldl (zc8 i) (N,[])).1.onR i λ_=>newR i [a,b,c]):=by
    rw[hRe];unfold nrst;rw[if_pos hh];show _=_;rw[show N.mt.getD (i-1).toNat []=[a,b,c] from by rw[List.getD_eq_getElem?_getD,hmt];rfl]
   rw[if_pos hh,<-hRe];clear hh hRe;obtain⟨L,hLe⟩: ∃L,L=N.cs.length:=⟨_,rfl⟩;rw[<-hLe] at hL9 hP;refine foL zaA [] [1,2,12,16] Tryz.func32 Tryz.ntmps32 Tryz.results32 ?_;(all_goals refine fx ?_;repeat' first|exact .intro|refine Tw.mk ?_ ?_|(intro h;first|replace h:=h.o|cases h))
   refine cutX (λv=>⟨[(0,.box 0 0),(1,.v (.int .i64 i))],ntE N v 0⟩) ?_ (λhy Z hZ=>?_);rotate_left
   .exact Y43
   intro v;have rt:=zi8 hk hN.ok v i hi;obtain⟨rs,cs,mt,ib,hE⟩: ∃a b c d,N=(⟨a,b,c,d⟩:Nt):=⟨_,_,_,_,rfl⟩;have l3:ib.length=k:=by rw[<-l2,hE]
   rw[hkk] at l3;rw[hE] at rt;first|obtain⟨b0,rfl⟩:=len1 l3|obtain⟨b0,b1,rfl⟩:=len2 l3|obtain⟨b0,b1,b2,rfl⟩:=len3 l3|obtain⟨b0,b1,b2,b3,rfl⟩:=len4 l3|obtain⟨b0,b1,b2,b3,b4,rfl⟩:=len5 l3|obtain⟨b0,b1,b2,b3,b4,b5,rfl⟩:=len6 l3
   rw[hE];simp only[ntE,rowsI,resI,List.length_cons,List.length_nil,Nat.zero_add,Nat.reduceAdd] at rt ⊢;(all_goals refine fx ?_;repeat' first|exact .intro|refine Tw.mk ?_ ?_|(intro h;first|replace h:=h.o|cases h))
   refine cutK ⟨[(0,.box 0 0),(1,.v (.int .i64 i)),(6,.err 0)],ntE N v 0⟩ ?_ (λhy=>?_);rotate_left
   .rw[hE] at hy;simp only[ntE,rowsI,resI,List.length_cons,List.length_nil,Nat.zero_add,Nat.reduceAdd] at hy;(all_goals refine fx ?_;repeat' first|exact .intro|refine Tw.mk ?_ ?_|(intro h;first|replace h:=h.o|cases h))
    all_goals ((refine zbW (rt) ?_;(all_goals refine fx ?_;repeat' first|exact .intro|refine Tw.mk ?_ ?_|(intro h;first|replace h:=h.o|cases h))))
    all_goals (exact⟨_,(by (refine za5 ?_;repeat' first|exact .intro|refine Tw.mk ?_ ?_)),hy⟩)
   rw[hE];simp only[ntE,rowsI,resI,List.length_cons,List.length_nil,Nat.zero_add,Nat.reduceAdd];(all_goals refine fx ?_;repeat' first|exact .intro|refine Tw.mk ?_ ?_|(intro h;first|replace h:=h.o|cases h))
   all_goals (try (exfalso;omega))
   refine cutB (α:=Nt×List Nat) (λs=>⟨[(0,.box 0 0),(1,.v (.int .i64 i)),(7,.sl 1 (s.2.map zni) none)],ntE s.1 v 1⟩) (λs=>s.1.inv k d (e+780*L)/\s.2.length<=L/\s.1.mt=N.mt/\s=(List.range L).foldl (zc8 i) (N,[])) (λs hs=>?_) (λhy=>?_);rotate_left
   ·(all_goals refine fx ?_;repeat' first|exact .intro|refine Tw.mk ?_ ?_|(intro h;first|replace h:=h.o|cases h))
    refine lpG2 (λ(j:Nat) (s:Nt×List Nat)=>⟨[(0,.box 0 0),(1,.v (.int .i64 i)),(7,.sl 1 (s.2.map zni) (some (6+κ,1))),(25,.arr 2 0 L),(26,.v (.int .i64 L)),(27,.v (.int .i64 j))],ntE s.1 v 1++[.grow 3 1 1]⟩) (λj s=>j<=L/\s.1.cs.length=L/\s.1.inv k d (e+780*j)/\s.2.length<=j/\s.1.mt=N.mt/\s=(List.range j).foldl (zc8 i) (N,[])) (λj _=>L-j) 0 (N,[]) ⟨by omega,hLe.symm,hN,Nat.le_refl _,rfl,rfl⟩ (by
     refine AS.le_trans (zeb 7 3 1 rfl) ?_;rw[hE];simp only[hκ,List.cons_append,List.nil_append,ntE,rowsI,resI,List.length_cons,List.length_nil,Nat.zero_add,Nat.reduceAdd];(refine za5 ?_;repeat' first|exact .intro|refine Tw.mk ?_ ?_);all_goals (first|rfl|(rw[hLe,hE];done))) ?_
    rintro j ⟨M,dr⟩ ⟨hj,hcl,hinv,hdl,hmt1,hs⟩;dsimp only at hcl hinv hdl hmt1;have l4:=hinv.ok.ib;by_cases hj':j<L
    .have hst:=zcb hs;obtain⟨c0,hc0⟩: ∃c0,M.cs[j]? =some c0:=⟨_,List.getElem?_eq_getElem (by omega)⟩;have htc:=znx (N:=M) (i:=i) hc0;obtain⟨ca,cpa,cb,cpb,cm,inn,w0,w1⟩:=c0;have hrow:(M.cs.map zb2)[j]? =some [.v (.int .i64 ca),.v (.int .i64 cpa),.v (.int .i64 cb),.v (.int .i64 cpb),.v (.int .i64 cm),.v (.bool inn),.v (.string (tx w0)),.v (.string (tx w1))]:=zfb hc0;dsimp only at htc;clear hs;by_cases ht:inn=true/\(ca=i\/cb=i)
     .obtain⟨rfl,hab⟩:=ht;have ht2:zh6 M i j=true:=by rw[htc];simp;omega
      have h2:=zby hinv (j:Int) false;have hc2:=zhH (j:Int) false hinv.ok;have ct:=zox (n:=0) (by omega) (by omega) hk hinv.ok v (j:Int) false;have hst2:(zbY M (j:Int) false,dr++[j])=(List.range (j+1)).foldl (zc8 i) (N,[]):=by
       rw[<-hst];unfold zc8;rw[if_pos ht2]
      have l5:=h2.ok.ib;generalize zbY M (j:Int) false=M2 at h2 hc2 ct hst2 l5;clear hst htc ht2 hinv hc0;obtain⟨rs1,cs1,mt1,ib1⟩:=M;obtain⟨rs2,cs2,mt2,ib2,hE2⟩: ∃a b c d,M2=(⟨a,b,c,d⟩:Nt):=⟨_,_,_,_,rfl⟩;rw[hE2] at l5 ct;dsimp only at l4 l5 hcl hmt1 hrow hc2 ⊢;rw[hkk] at l4 l5;first|obtain⟨b0,rfl⟩:=len1 l4|obtain⟨b0,b1,rfl⟩:=len2 l4|obtain⟨b0,b1,b2,rfl⟩:=len3 l4|obtain⟨b0,b1,b2,b3,rfl⟩:=len4 l4|obtain⟨b0,b1,b2,b3,b4,rfl⟩:=len5 l4|obtain⟨b0,b1,b2,b3,b4,b5,rfl⟩:=len6 l4
      first|obtain⟨b0,rfl⟩:=len1 l5|obtain⟨b0,b1,rfl⟩:=len2 l5|obtain⟨b0,b1,b2,rfl⟩:=len3 l5|obtain⟨b0,b1,b2,b3,rfl⟩:=len4 l5|obtain⟨b0,b1,b2,b3,b4,rfl⟩:=len5 l5|obtain⟨b0,b1,b2,b3,b4,b5,rfl⟩:=len6 l5
      simp only[hκ,List.cons_append,List.nil_append,ntE,rowsI,resI,List.length_cons,List.length_nil,Nat.zero_add,Nat.reduceAdd] at ct ⊢;(all_goals refine fx ?_;repeat' first|exact .intro|refine Tw.mk ?_ ?_|(intro h;first|replace h:=h.o|cases h))
      all_goals (try (exfalso;omega))
      all_goals ((refine zbW (ct) ?_;(all_goals refine fx ?_;repeat' first|exact .intro|refine Tw.mk ?_ ?_|(intro h;first|replace h:=h.o|cases h))))
      all_goals (try (show Fits _ _;unfold Fits maxLen;simp only[List.length_take,List.length_map,List.length_cons,List.length_nil];omega))
      all_goals (refine za3 (j+1) (M2,dr++[j]) ⟨by omega,hc2.1.trans hcl,h2.up (Nat.le_refl _) (by omega),(by simp only[List.length_append,List.length_singleton];omega),hc2.2.trans hmt1,hst2⟩ (by omega) (by
       rw[hE2];simp only[hκ,List.cons_append,List.nil_append,ntE,rowsI,resI,List.length_cons,List.length_nil,Nat.zero_add,Nat.reduceAdd];(refine za5 ?_;repeat' first|exact .intro|refine Tw.mk ?_ ?_);all_goals (first|rfl|(simp [zni,viewR,viewL,AV.view];done))))
     .have ht2:zh6 M i j=false:=by
       rw[htc];cases inn
       .rfl
       .simp only[true_and] at ht;simp;omega
      have hst2:(M,dr)=(List.range (j+1)).foldl (zc8 i) (N,[]):=by
       rw[<-hst];unfold zc8;rw[if_neg (by rw[ht2];decide)]
      clear hst htc ht2 hc0;obtain⟨rs1,cs1,mt1,ib1,hE1⟩: ∃a b c d,M=(⟨a,b,c,d⟩:Nt):=⟨_,_,_,_,rfl⟩;rw[hE1] at l4 hrow;dsimp only at l4 hrow ⊢;rw[hkk] at l4;first|obtain⟨b0,rfl⟩:=len1 l4|obtain⟨b0,b1,rfl⟩:=len2 l4|obtain⟨b0,b1,b2,rfl⟩:=len3 l4|obtain⟨b0,b1,b2,b3,rfl⟩:=len4 l4|obtain⟨b0,b1,b2,b3,b4,rfl⟩:=len5 l4|obtain⟨b0,b1,b2,b3,b4,b5,rfl⟩:=len6 l4
      rw[hE1];simp only[hκ,List.cons_append,List.nil_append,ntE,rowsI,resI,List.length_cons,List.length_nil,Nat.zero_add,Nat.reduceAdd];cases inn;all_goals
       try simp only[true_and] at ht
       (all_goals refine fx ?_;repeat' first|exact .intro|refine Tw.mk ?_ ?_|(intro h;first|replace h:=h.o|cases h))
       all_goals (try (exfalso;omega))
       all_goals (refine za3 (j+1) (M,dr) ⟨by omega,hcl,hinv.up (Nat.le_refl _) (by omega),(by show dr.length<=j+1;omega),hmt1,hst2⟩ (by omega) (by
        rw[hE1];simp only[hκ,List.cons_append,List.nil_append,ntE,rowsI,resI,List.length_cons,List.length_nil,Nat.zero_add,Nat.reduceAdd];(refine za5 ?_;repeat' first|exact .intro|refine Tw.mk ?_ ?_)))
    .have hjL:j=L:=by omega
     rw[hjL] at hs hinv hdl;have hy2:=hy (M,dr) ⟨hinv,hdl,hmt1,hs⟩;clear hs hinv;obtain⟨rs1,cs1,mt1,ib1⟩:=M;dsimp only at l4 ⊢;rw[hkk] at l4;first|obtain⟨b0,rfl⟩:=len1 l4|obtain⟨b0,b1,rfl⟩:=len2 l4|obtain⟨b0,b1,b2,rfl⟩:=len3 l4|obtain⟨b0,b1,b2,b3,rfl⟩:=len4 l4|obtain⟨b0,b1,b2,b3,b4,rfl⟩:=len5 l4|obtain⟨b0,b1,b2,b3,b4,b5,rfl⟩:=len6 l4
     simp only[ntE,rowsI,resI,List.length_cons,List.length_nil,Nat.zero_add,Nat.reduceAdd] at hy2;simp only[hκ,List.cons_append,List.nil_append,ntE,rowsI,resI,List.length_cons,List.length_nil,Nat.zero_add,Nat.reduceAdd];(all_goals refine fx ?_;repeat' first|exact .intro|refine Tw.mk ?_ ?_|(intro h;first|replace h:=h.o|cases h))
     all_goals (try (exfalso;omega))
     all_goals (exact⟨_,(by (refine za5 ?_;repeat' first|exact .intro|refine Tw.mk ?_ ?_)),hy2⟩)
   obtain⟨M,dr⟩:=s;obtain⟨hinv,hdl,hmt1,hs⟩:=hs;dsimp only at hinv hdl hmt1;rw[<-hs] at hP;dsimp only at hP ⊢;have hn:=xrnew i a b c (by omega) ⟨ha,hb,hc⟩;have hRi:=ziS hinv (by omega) hi;have hmr:=mt_row hmt;rw[<-hmt1] at hmr hmt;have hgd:M.mt.getD (i-1).toNat []=[a,b,c]:=by rw[List.getD_eq_getElem?_getD,hmt];rfl
   rw[hgd] at hRi;have l4:=hinv.ok.ib;have l5:=hinv.ok.rs;have hml:=hinv.ok.mt;obtain⟨r0,hr0⟩: ∃r,M.rs[(i-1).toNat]? =some r:=⟨_,List.getElem?_eq_getElem (by omega)⟩;obtain⟨Q,hQ⟩: ∃Q,Q=M.onR i λ_=>newR i [a,b,c]:=⟨_,rfl⟩;rw[<-hQ] at hRi hP;rw[zcC hr0] at hQ;clear hinv hs hgd hmt hmt1 hr0;obtain⟨rs1,cs1,mt1,ib1⟩:=M;dsimp only at l4 l5 hml hmr hQ;rw[hkk] at l4;first|obtain⟨b0,rfl⟩:=len1 l4|obtain⟨b0,b1,rfl⟩:=len2 l4|obtain⟨b0,b1,b2,rfl⟩:=len3 l4|obtain⟨b0,b1,b2,b3,rfl⟩:=len4 l4|obtain⟨b0,b1,b2,b3,b4,rfl⟩:=len5 l4|obtain⟨b0,b1,b2,b3,b4,b5,rfl⟩:=len6 l4
   simp only[ntE,rowsI,resI,List.length_cons,List.length_nil,Nat.zero_add,Nat.reduceAdd];(all_goals refine fx ?_;repeat' first|exact .intro|refine Tw.mk ?_ ?_|(intro h;first|replace h:=h.o|cases h))
   all_goals ((refine StopCall.fz [] (hn) ?_;(all_goals refine fx ?_;repeat' first|exact .intro|refine Tw.mk ?_ ?_|(intro h;first|replace h:=h.o|cases h))))
   all_goals (try (exfalso;omega))
   have hpr:=zao (v:=v) (k:=k) (j:=(i-1).toNat) (by omega);rw[hkk] at hpr;have hpr2:=hpr;simp only[zhS,List.range,List.range.loop,List.map_cons,List.map_nil] at hpr2;refine cutX (λv'=>⟨[(0,.box 0 0),(7,.sl 1 (dr.map zni) none)],ntE Q v' 1⟩) ?_ (λhy Z hZ=>?_);rotate_left
   .rw[hQ] at hy;(all_goals refine fx ?_;repeat' first|exact .intro|refine Tw.mk ?_ ?_|(intro h;first|replace h:=h.o|cases h))
    all_goals (refine hZ _ (AS.le.to2 ?_ (to_put (N:=⟨rs1,cs1,mt1,_⟩) (v:=v) (g:=1) (i:=(i-1).toNat) (q:=6+κ) (rest:=[rtO (newR i [a,b,c])]) (by dsimp only;rw[l5,hkk];rfl) (by show (i-1).toNat<_;simp only[List.length_cons,List.length_nil];omega) (by rw[hκ];exact Nat.le_refl _) (by rw[hκ];rfl) (by intro p hp;simp only[List.mem_cons,List.not_mem_nil,or_false] at hp;rcases hp with rfl|rfl;exact .inr rfl;exact .inl rfl) hy)))
    all_goals (simp only[ntP,hκ,List.cons_append,List.nil_append,ntE,rowsI,resI,List.length_cons,List.length_nil,Nat.zero_add,Nat.reduceAdd])
    all_goals (rcases (by omega:i=1\/i=2\/i=3\/i=4\/i=5\/i=6) with rfl|rfl|rfl|rfl|rfl|rfl)
    all_goals (first|(exfalso;omega)|skip)
    all_goals ((refine za5 ?_;repeat' first|exact .intro|refine Tw.mk ?_ ?_))
   intro v';clear hn hQ;have l6:=hRi.ok.ib;obtain⟨rs2,cs2,mt2,ib2,hE2⟩: ∃a b c d,Q=(⟨a,b,c,d⟩:Nt):=⟨_,_,_,_,rfl⟩;rw[hE2] at l6;dsimp only at l6;rw[hkk] at l6;first|obtain⟨b0,rfl⟩:=len1 l6|obtain⟨b0,b1,rfl⟩:=len2 l6|obtain⟨b0,b1,b2,rfl⟩:=len3 l6|obtain⟨b0,b1,b2,b3,rfl⟩:=len4 l6|obtain⟨b0,b1,b2,b3,b4,rfl⟩:=len5 l6|obtain⟨b0,b1,b2,b3,b4,b5,rfl⟩:=len6 l6
   rw[hE2];simp only[ntE,rowsI,resI,List.length_cons,List.length_nil,Nat.zero_add,Nat.reduceAdd];(all_goals refine fx ?_;repeat' first|exact .intro|refine Tw.mk ?_ ?_|(intro h;first|replace h:=h.o|cases h))
   refine lpG2 (λ(j:Nat) (T:Nt)=>⟨[(0,.box 0 0),(80,.sl 1 (dr.map zni) none),(81,.v (.int .i64 dr.length)),(82,.v (.int .i64 j))],ntE T v' 1⟩) (λj T=>j<=dr.length/\T.inv k d (e+780*L+780*j)/\T=(dr.take j).foldl (λq (k:Nat)=>zbY q k true) Q) (λj _=>dr.length-j) 0 Q ⟨by omega,hRi,rfl⟩ (by
    rw[hE2];simp only[ntE,rowsI,resI,List.length_cons,List.length_nil,Nat.zero_add,Nat.reduceAdd];(refine za5 ?_;repeat' first|exact .intro|refine Tw.mk ?_ ?_);all_goals (simp;done)) ?_
   clear hRi hE2;rintro j T ⟨hj,hin3,hT⟩;have l7:=hin3.ok.ib;by_cases hj':j<dr.length
   .have h4:=zby hin3 (dr[j]:Nat) true;have ct:=zox (n:=0) (by omega) (by omega) hk hin3.ok v' (dr[j]:Nat) true;have hst:zbY T (dr[j]:Nat) true=(dr.take (j+1)).foldl (λq (k:Nat)=>zbY q k true) Q:=by
     rw[zaT hj',List.foldl_append,<-hT];rfl
    have l8:=h4.ok.ib;generalize zbY T (dr[j]:Nat) true=T2 at h4 ct hst l8;clear hin3 hT;obtain⟨rs3,cs3,mt3,ib3⟩:=T;obtain⟨rs4,cs4,mt4,ib4,hE4⟩: ∃a b c d,T2=(⟨a,b,c,d⟩:Nt):=⟨_,_,_,_,rfl⟩;rw[hE4] at l8 ct;dsimp only at l7 l8;rw[hkk] at l7 l8;first|obtain⟨b0,rfl⟩:=len1 l7|obtain⟨b0,b1,rfl⟩:=len2 l7|obtain⟨b0,b1,b2,rfl⟩:=len3 l7|obtain⟨b0,b1,b2,b3,rfl⟩:=len4 l7|obtain⟨b0,b1,b2,b3,b4,rfl⟩:=len5 l7|obtain⟨b0,b1,b2,b3,b4,b5,rfl⟩:=len6 l7
    first|obtain⟨b0,rfl⟩:=len1 l8|obtain⟨b0,b1,rfl⟩:=len2 l8|obtain⟨b0,b1,b2,rfl⟩:=len3 l8|obtain⟨b0,b1,b2,b3,rfl⟩:=len4 l8|obtain⟨b0,b1,b2,b3,b4,rfl⟩:=len5 l8|obtain⟨b0,b1,b2,b3,b4,b5,rfl⟩:=len6 l8
    simp only[ntE,rowsI,resI,List.length_cons,List.length_nil,Nat.zero_add,Nat.reduceAdd] at ct ⊢;(all_goals refine fx ?_;repeat' first|exact .intro|refine Tw.mk ?_ ?_|(intro h;first|replace h:=h.o|cases h))
    all_goals (try (exfalso;omega))
    all_goals ((refine zbW (ct) ?_;(all_goals refine fx ?_;repeat' first|exact .intro|refine Tw.mk ?_ ?_|(intro h;first|replace h:=h.o|cases h))))
    all_goals (refine za3 (j+1) T2 ⟨by omega,h4.up (Nat.le_refl _) (by omega),hst⟩ (by omega) (by
     rw[hE4];simp only[ntE,rowsI,resI,List.length_cons,List.length_nil,Nat.zero_add,Nat.reduceAdd];(refine za5 ?_;repeat' first|exact .intro|refine Tw.mk ?_ ?_)))
   .have hj2:j=dr.length:=by omega
    rw[hj2,List.take_length] at hT;rw[hP,<-hT];have hib3:T.rs.length=T.ib.length:=by rw[hin3.ok.rs,hin3.ok.ib]
    clear hT hin3;obtain⟨rs3,cs3,mt3,ib3,hE3⟩: ∃a b c d,T=(⟨a,b,c,d⟩:Nt):=⟨_,_,_,_,rfl⟩;rw[hE3] at l7;dsimp only at l7;rw[hkk] at l7;have hpk:=le_pkE (fr:=[(0,.box 0 0),(4,.err 0)]) (v:=v') (g:=1) hib3 (by intro p hp;simp only[List.mem_cons,List.not_mem_nil,or_false] at hp;rcases hp with rfl|rfl;exact .inr rfl;exact .inl rfl);first|obtain⟨b0,rfl⟩:=len1 l7|obtain⟨b0,b1,rfl⟩:=len2 l7|obtain⟨b0,b1,b2,rfl⟩:=len3 l7|obtain⟨b0,b1,b2,b3,rfl⟩:=len4 l7|obtain⟨b0,b1,b2,b3,b4,rfl⟩:=len5 l7|obtain⟨b0,b1,b2,b3,b4,b5,rfl⟩:=len6 l7
    rw[hE3] at hpk ⊢;rw[hj2];simp only[ntE,rowsI,resI,List.length_cons,List.length_nil,Nat.zero_add,Nat.reduceAdd] at hpk ⊢;(all_goals refine fx ?_;repeat' first|exact .intro|refine Tw.mk ?_ ?_|(intro h;first|replace h:=h.o|cases h))
    all_goals (try (exfalso;omega))
    all_goals (refine⟨_,AS.le_trans ?_ hpk,?_⟩)
    all_goals (first|((refine za5 ?_;repeat' first|exact .intro|refine Tw.mk ?_ ?_);done)|(((try (conv=>whnf));refine StopRet.by [0] ?_;repeat' first|exact .intro|refine Tw.mk ?_ ?_)))
  .have hh: ¬N.has i=true:=λh=>hi (by have:=zcI.1 h;rw[l1] at this;exact this);rw[if_neg hh,show nrst N i=N from if_neg hh];clear hh;refine foL zaA [] [1] Tryz.func32 Tryz.ntmps32 Tryz.results32 ?_;(all_goals refine fx ?_;repeat' first|exact .intro|refine Tw.mk ?_ ?_|(intro h;first|replace h:=h.o|cases h))
   refine cutX (λv=>⟨[(0,.box 0 0),(1,.v (.int .i64 i))],ntE N v 0⟩) ?_ (λhy Z hZ=>?_);rotate_left
   .exact Y43
   intro v;have rt:=zfS hk hN.ok v i (by omega);have hpk:=le_pkE (fr:=[(0,.box 0 0),(4,.err 6)]) (N:=N) (v:=v) (g:=0) hib (by intro p hp;simp only[List.mem_cons,List.not_mem_nil,or_false] at hp;rcases hp with rfl|rfl;exact .inr rfl;exact .inl rfl);obtain⟨rs,cs,mt,ib,hE⟩: ∃a b c d,N=(⟨a,b,c,d⟩:Nt):=⟨_,_,_,_,rfl⟩;have l3:ib.length=k:=by rw[<-l2,hE]
   rw[hkk] at l3;rw[hE] at rt hpk;first|obtain⟨b0,rfl⟩:=len1 l3|obtain⟨b0,b1,rfl⟩:=len2 l3|obtain⟨b0,b1,b2,rfl⟩:=len3 l3|obtain⟨b0,b1,b2,b3,rfl⟩:=len4 l3|obtain⟨b0,b1,b2,b3,b4,rfl⟩:=len5 l3|obtain⟨b0,b1,b2,b3,b4,b5,rfl⟩:=len6 l3
   rw[hE];simp only[ntE,rowsI,resI,List.length_cons,List.length_nil,Nat.zero_add,Nat.reduceAdd] at rt hpk ⊢;(all_goals refine fx ?_;repeat' first|exact .intro|refine Tw.mk ?_ ?_|(intro h;first|replace h:=h.o|cases h))
   all_goals ((refine zbW (rt) ?_;(all_goals refine fx ?_;repeat' first|exact .intro|refine Tw.mk ?_ ?_|(intro h;first|replace h:=h.o|cases h))))
   all_goals (try (exfalso;omega))
   all_goals (refine⟨_,AS.le_trans ?_ hpk,?_⟩)
   all_goals (first|((refine za5 ?_;repeat' first|exact .intro|refine Tw.mk ?_ ?_);done)|(((try (conv=>whnf));refine StopRet.by [0] ?_;repeat' first|exact .intro|refine Tw.mk ?_ ?_)))):RstS K:=h
end Go.Proofs.YtimfnpjcedjmiadGreat
