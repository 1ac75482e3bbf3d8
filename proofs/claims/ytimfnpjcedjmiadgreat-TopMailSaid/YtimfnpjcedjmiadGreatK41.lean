/- Lemmas. -/
import Derived.Test.YtimfnpjcedjmiadGreatK40
set_option maxRecDepth 100000
set_option maxHeartbeats 64000000
set_option linter.all false
namespace Go.Proofs.YtimfnpjcedjmiadGreat
open Go.RowKit
def zjU(K:Nat):Prop:= ∀(k n d e:Nat) (N:Nt) (v:Nat->Nat) (i:Int) (up:Bool),n<=7000000->e<=900000000000->1<=k/\k<=6->N.ok k n d e->k=K->Fn Tryz.prog 20 [.box 0 0,.v (.int .i64 i),.v (.bool up)] (ntE N v 0) (.err (zff N i up)) (ntE (zbY N i up) v 1)
theorem zha(K:Nat)(h:zjU K:=by
  intro k n d e N v i up hn he hk hN hkk;have hcs9:=hN.cs;have l2:=hN.ib;have l1:=hN.rs;obtain⟨N0,hN0⟩: ∃N0,N0=N:=⟨_,rfl⟩;by_cases hi:0<=i/\i<N.cs.length
  .have hi2:=hi.2;obtain⟨I,rfl⟩: ∃I:Nat,i=(I:Int):=⟨i.toNat,by omega⟩;have hIl:I<N.cs.length:=by omega
   obtain⟨c,hc⟩: ∃c,N.cs[I]? =some c:=⟨_,List.getElem?_eq_getElem hIl⟩;have hcb:N.cb (I:Int)=some c:=by unfold Nt.cb;rw[if_neg (by omega)];exact hc
   have hco:=hN.c c (getq hc);have hE:zff N I up=if c.inn=up then 7 else 0:=by unfold zff;rw[hcb]
   have hP:zbY N I up=if c.inn=up then N else zbO (zgf N I c up):=by unfold zbY;rw[hcb];rfl
   rw[hE,hP];clear hE hP hcb;obtain⟨ca,cpa,cb,cpb,cm,inn,w0,w1⟩:=c;have hrow:(N.cs.map zb2)[I]? =some [.v (.int .i64 ca),.v (.int .i64 cpa),.v (.int .i64 cb),.v (.int .i64 cpb),.v (.int .i64 cm),.v (.bool inn),.v (.string (tx w0)),.v (.string (tx w1))]:=zfb hc;obtain⟨ha,hpa,hb,hpb,hw0,hw1⟩:=hco;dsimp only at ha hpa hb hpb hw0 hw1;by_cases hu:inn=up
   .subst hu;rw[if_pos rfl,if_pos rfl];clear hN hN0 N0;obtain⟨rs,cs,mt,ib⟩:=N;dsimp only at l2 hcs9 hi hi2 hIl hc hrow;rw[hkk] at l2;first|obtain⟨b0,rfl⟩:=len1 l2|obtain⟨b0,b1,rfl⟩:=len2 l2|obtain⟨b0,b1,b2,rfl⟩:=len3 l2|obtain⟨b0,b1,b2,b3,rfl⟩:=len4 l2|obtain⟨b0,b1,b2,b3,b4,rfl⟩:=len5 l2|obtain⟨b0,b1,b2,b3,b4,b5,rfl⟩:=len6 l2
    cases inn;all_goals
     simp only[ntE,rowsI,resI,List.length_cons,List.length_nil,Nat.zero_add,Nat.reduceAdd];refine foP zaA (nplugPl) [] [] Tryz.func20 Tryz.ntmps20 Tryz.results20 ?_;(all_goals refine fx ?_;repeat' first|exact .intro|refine Tw.mk ?_ ?_|(intro h;first|replace h:=h.o|cases h))
     all_goals (try (exfalso;first|omega|contradiction))
     all_goals exact Y15
   .rw[if_neg hu,if_neg hu];obtain⟨c',hc'⟩: ∃c':Cb,c'=⟨ca,cpa,cb,cpb,cm,up,[],[]⟩:=⟨_,rfl⟩;have hk0:Nt.ok k n d e { N with cs:=N.cs.set I c' }:=zem hN I (by rw[hc'];exact⟨ha,hpa,hb,hpb,by simp,by simp⟩);have hrow1:((N.cs.set I c').map zb2)[I]? =some [.v (.int .i64 ca),.v (.int .i64 cpa),.v (.int .i64 cb),.v (.int .i64 cpb),.v (.int .i64 cm),.v (.bool up),.v (.string (tx [])),.v (.string (tx []))]:=by
     have:=zfb (cs:=N.cs.set I c') (i:=I) (c:=c') (by rw[List.getElem?_set,if_pos rfl,if_pos hIl]);rw[this,hc'];rfl
    have hk1:=zat hk0 (m:=n+390) (f:=d) (by omega) (Nat.le_refl _) ca (F:=λr=>zaZ r cpa.toNat up) (λr hr=>zcY hr _ _);have hk2:=zat hk1 (m:=n+780) (f:=d) (by omega) (Nat.le_refl _) cb (F:=λr=>zaZ r cpb.toNat up) (λr hr=>zcY hr _ _);obtain⟨rA,hrA⟩: ∃r,N.rs[(ca-1).toNat]? =some r:=⟨_,List.getElem?_eq_getElem (by omega)⟩;have hfA:=hN.r rA (getq hrA);have ctA:=zeT (xrplug (n:=n) (by omega) hfA.p3 hfA.f cpa hpa up) hrA (zb4 (v:=v) (k:=k) (by omega)) rfl rfl;have hP:zgf N I ⟨ca,cpa,cb,cpb,cm,inn,w0,w1⟩ up=(Nt.onR (Nt.onR { N with cs:=N.cs.set I c' } ca (λr=>zaZ r cpa.toNat up)) cb (λr=>zaZ r cpb.toNat up)):=by rw[hc'];rfl
    rw[hP];clear hP;rw[zcC (M:={ N with cs:=N.cs.set I c' }) hrA] at hk1 hk2 ⊢;dsimp only at hk1 hk2 ⊢;obtain⟨rB,hrB⟩: ∃r,(N.rs.set (ca-1).toNat (zaZ rA cpa.toNat up))[(cb-1).toNat]? =some r:=⟨_,List.getElem?_eq_getElem (by rw[List.length_set];omega)⟩;have hfB:=hk1.r rB (getq hrB);have ctB:=zeT (xrplug (n:=n+390) (by omega) hfB.p3 hfB.f cpb hpb up) hrB (zb4 (v:=v) (k:=k) (by omega)) rfl rfl;rw[zcC (M:=⟨N.rs.set (ca-1).toNat (zaZ rA cpa.toNat up),N.cs.set I c',N.mt,N.ib⟩) hrB] at hk2 ⊢;dsimp only at hk2 ⊢;have gc:=zg5 (by omega) (by omega) hk hk2 v;have hk3:=zdh hk2;have m2:=hk3.ib;have hrrA:=zao (v:=v) (k:=k) (j:=(ca-1).toNat) (by omega);have hrrB:=zao (v:=v) (k:=k) (j:=(cb-1).toNat) (by omega);generalize zbO _=N3 at gc m2 ⊢;rw[hkk] at l2 m2 ctA ctB hrrA hrrB;obtain⟨UP,hUP⟩: ∃u,u=up:=⟨_,rfl⟩;obtain⟨M1,hM1⟩: ∃M1:Nt,M1={ N with cs:=N.cs.set I c' }:=⟨_,rfl⟩;clear hk0 hk1 hk2 hk3 hfA hfB hN hN0 N0;obtain⟨rs,cs,mt,ib⟩:=N;obtain⟨rs3,cs3,mt3,ib3⟩:=N3;dsimp only at l1 l2 m2 hcs9 hi hi2 hIl hc hrow hrow1 gc ctA ctB hrA hrB hM1 ⊢;have hcl:(cs.set I c').length=cs.length:=List.length_set ..;first|obtain⟨b0,rfl⟩:=len1 l2|obtain⟨b0,b1,rfl⟩:=len2 l2|obtain⟨b0,b1,b2,rfl⟩:=len3 l2|obtain⟨b0,b1,b2,b3,rfl⟩:=len4 l2|obtain⟨b0,b1,b2,b3,b4,rfl⟩:=len5 l2|obtain⟨b0,b1,b2,b3,b4,b5,rfl⟩:=len6 l2
    first|obtain⟨b0,rfl⟩:=len1 m2|obtain⟨b0,b1,rfl⟩:=len2 m2|obtain⟨b0,b1,b2,rfl⟩:=len3 m2|obtain⟨b0,b1,b2,b3,rfl⟩:=len4 m2|obtain⟨b0,b1,b2,b3,b4,rfl⟩:=len5 m2|obtain⟨b0,b1,b2,b3,b4,b5,rfl⟩:=len6 m2
    cases up;all_goals
     cases inn;all_goals (first|(exact absurd rfl hu)|skip)
     all_goals
      simp only[ntE,rowsI,resI,List.length_cons,List.length_nil,Nat.zero_add,Nat.reduceAdd] at gc ⊢;refine foP zaA (nplugPl) [] [7] Tryz.func20 Tryz.ntmps20 Tryz.results20 ?_;(all_goals refine fx ?_;repeat' first|exact .intro|refine Tw.mk ?_ ?_|(intro h;first|replace h:=h.o|cases h))
      all_goals (try (exfalso;first|omega|contradiction))
      refine cutK ⟨[(0,.box 0 0),(2,.v (.bool UP)),(7,.elt 2 0 8 I 0)],ntE M1 v 0⟩ ?_ (λhy=>?_);rotate_left
      .rw[hM1,hUP] at hy;simp only[ntE,rowsI,resI,List.length_cons,List.length_nil,Nat.zero_add,Nat.reduceAdd,hcl] at hy;(all_goals refine fx ?_;repeat' first|exact .intro|refine Tw.mk ?_ ?_|(intro h;first|replace h:=h.o|cases h))
       all_goals (exact⟨_,(by (refine za5 ?_;repeat' first|exact .intro|refine Tw.mk ?_ ?_);all_goals (first|(rw[hc',List.set_set,<-zjO];simp only[zb2];rfl)|(rw[hc',<-zjO];simp only[zb2];rfl)|(simp;done))),hy⟩)
      clear hrow;rw[hM1,hUP];simp only[ntE,rowsI,resI,List.length_cons,List.length_nil,Nat.zero_add,Nat.reduceAdd,hcl];simp only[hcl] at gc;(all_goals refine fx ?_;repeat' first|exact .intro|refine Tw.mk ?_ ?_|(intro h;first|replace h:=h.o|cases h))
      all_goals ((refine StopCall.fz [5] (ctA) ?_;(all_goals refine fx ?_;repeat' first|exact .intro|refine Tw.mk ?_ ?_|(intro h;first|replace h:=h.o|cases h))))
      all_goals ((refine StopCall.fz [5] (ctB) ?_;(all_goals refine fx ?_;repeat' first|exact .intro|refine Tw.mk ?_ ?_|(intro h;first|replace h:=h.o|cases h))))
      all_goals ((refine zbW (gc) ?_;(all_goals refine fx ?_;repeat' first|exact .intro|refine Tw.mk ?_ ?_|(intro h;first|replace h:=h.o|cases h))))
      all_goals exact Y15
  .have hcb:N.cb i=none:=by
    unfold Nt.cb;split
    .rfl
    .exact List.getElem?_eq_none (by omega)
   rw[show zff N i up=6 from by unfold zff;rw[hcb],show zbY N i up=N from by unfold zbY;rw[hcb]];clear hN hN0 N0;obtain⟨rs,cs,mt,ib⟩:=N;dsimp only at l2 hcs9 hi;rw[hkk] at l2;first|obtain⟨b0,rfl⟩:=len1 l2|obtain⟨b0,b1,rfl⟩:=len2 l2|obtain⟨b0,b1,b2,rfl⟩:=len3 l2|obtain⟨b0,b1,b2,b3,rfl⟩:=len4 l2|obtain⟨b0,b1,b2,b3,b4,rfl⟩:=len5 l2|obtain⟨b0,b1,b2,b3,b4,b5,rfl⟩:=len6 l2
   simp only[ntE,rowsI,resI,List.length_cons,List.length_nil,Nat.zero_add,Nat.reduceAdd];refine foP zaA (nplugPl) [] [] Tryz.func20 Tryz.ntmps20 Tryz.results20 ?_;(all_goals refine fx ?_;repeat' first|exact .intro|refine Tw.mk ?_ ?_|(intro h;first|replace h:=h.o|cases h))
   all_goals (try (exfalso;omega))
   all_goals (((try (conv=>whnf));refine⟨_,AS.le_refl _ _,?_⟩;((try (conv=>whnf));refine ziz ?_;repeat' first|exact .intro|refine Tw.mk ?_ ?_)))):zjU K:=h
theorem plug_5:zjU 5:=zha 5
theorem plug_6:zjU 6:=zha 6
def DelS(K:Nat):Prop:= ∀(k n d e:Nat) (N:Nt) (v:Nat->Nat) (i way many:Int),n<=6000000->d<=800000000->e<=900000000000->1<=k/\k<=6->N.ok k n d e->k=K->Fn Tryz.prog 31 [.box 0 0,.v (.int .i64 i),.v (.int .i64 way),.v (.int .i64 many)] (ntE N v 0) (.err (zkJ N i way)) (ntE (ndel N i way many) v 1)
theorem zmp(K:Nat)(h:DelS K:=by
  intro k n d e N v i way many hn hd he hk hN hkk;have hcs9:=hN.cs;have l2:=hN.ib;have l1:=hN.rs;by_cases hi:(0<=i/\i<N.cs.length)/\0<=way/\way<=1
  .obtain⟨hi,hway⟩:=hi;have hi2:=hi.2;obtain⟨I,rfl⟩: ∃I:Nat,i=(I:Int):=⟨i.toNat,by omega⟩;have hIl:I<N.cs.length:=by omega
   obtain⟨c,hc⟩: ∃c,N.cs[I]? =some c:=⟨_,List.getElem?_eq_getElem hIl⟩;have hcb:N.cb (I:Int)=some c:=by unfold Nt.cb;rw[if_neg (by omega)];exact hc
   have hco:=hN.c c (getq hc);rw[show zkJ N I way=0 from by unfold zkJ;rw[if_neg (by omega),hcb];rfl,show ndel N I way many=zbO (if way=1 then ndel1 N I c many else ndel0 N I c many) from by unfold ndel;rw[if_neg (by omega),hcb];rfl];clear hcb;obtain⟨ca,cpa,cb,cpb,cm,inn,w0,w1⟩:=c;have hrow:(N.cs.map zb2)[I]? =some [.v (.int .i64 ca),.v (.int .i64 cpa),.v (.int .i64 cb),.v (.int .i64 cpb),.v (.int .i64 cm),.v (.bool inn),.v (.string (tx w0)),.v (.string (tx w1))]:=zfb hc;obtain⟨ha,hpa,hb,hpb,hw0,hw1⟩:=hco;dsimp only at ha hpa hb hpb hw0 hw1;rcases (by omega:way=0\/way=1) with rfl|rfl
   .rw[if_neg (by decide)];have hkl:=zoo many w0;have hz:(tx w0).size=w0.length:=tx_size;have hzt:(tx (w0.take (delK many w0))).size=(w0.take (delK many w0)).length:=tx_size;have htl:(w0.take (delK many w0)).length<=2000:=Nat.le_trans (List.length_take_le' ..) (by omega);obtain⟨c',hc'⟩: ∃c':Cb,c'=⟨ca,cpa,cb,cpb,cm,inn,w0.drop (delK many w0),w1⟩:=⟨_,rfl⟩;have hk0:Nt.ok k n d e { N with cs:=N.cs.set I c' }:=zem hN I (by rw[hc'];exact⟨ha,hpa,hb,hpb,by first|exact hw0|(rw[List.length_drop];omega),by first|exact hw1|(rw[List.length_drop];omega)⟩);have hrow1:=zfb (cs:=N.cs.set I c') (i:=I) (c:=c') (by rw[List.getElem?_set,if_pos rfl,if_pos hIl]);rw[show zb2 c'=zb2 ⟨ca,cpa,cb,cpb,cm,inn,w0.drop (delK many w0),w1⟩ from by rw[hc']] at hrow1;have hk1:=zat hk0 (m:=n+1040000) (f:=d+2000) (by omega) (by omega) cb (F:=λr=>zar r cpb.toNat (w0.take (delK many w0))) (λr hr=>zeH hr _ htl);have hdk:=znj many w0;have he0:=ext0 hkl;have he1:=ext1 (w:=w0) (k:=delK many w0);obtain⟨rA,hrA⟩: ∃r,N.rs[(cb-1).toNat]? =some r:=⟨_,List.getElem?_eq_getElem (by omega)⟩;have hfA:=hN.r rA (getq hrA);have ctA:=zeT (xrrecv (n:=n) (d:=d) (by omega) (by omega) hfA.p3 hfA.f cpb hpb (tx (w0.take (delK many w0))) (by omega)) hrA (zb4 (v:=v) (k:=k) (by omega)) rfl rfl;rw[bs_tx] at ctA;have hP:ndel0 N I ⟨ca,cpa,cb,cpb,cm,inn,w0,w1⟩ many=(Nt.onR { N with cs:=N.cs.set I c' } cb (λr=>zar r cpb.toNat (w0.take (delK many w0)))):=by rw[hc'];rfl
    rw[hP];clear hP;rw[zcC (M:={ N with cs:=N.cs.set I c' }) hrA] at hk1 ⊢;dsimp only at hk1 ⊢;have gc:=zg5 (by omega) (by omega) hk hk1 v;have hk3:=zdh hk1;have m2:=hk3.ib;have hrrA:=zao (v:=v) (k:=k) (j:=(cb-1).toNat) (by omega);generalize zbO _=N3 at gc m2 ⊢;rw[hkk] at l2 m2 ctA hrrA;obtain⟨M0,hM0⟩: ∃M0:Nt,M0=N:=⟨_,rfl⟩;obtain⟨M1,hM1⟩: ∃M1:Nt,M1={ N with cs:=N.cs.set I c' }:=⟨_,rfl⟩;clear hk0 hk1 hk3 hfA hN;obtain⟨rs,cs,mt,ib⟩:=N;obtain⟨rs3,cs3,mt3,ib3⟩:=N3;dsimp only at l1 l2 m2 hcs9 hi hi2 hIl hc hrow hrow1 gc ctA hrA hM1 ⊢;have hcl:(cs.set I c').length=cs.length:=List.length_set ..;first|obtain⟨b0,rfl⟩:=len1 l2|obtain⟨b0,b1,rfl⟩:=len2 l2|obtain⟨b0,b1,b2,rfl⟩:=len3 l2|obtain⟨b0,b1,b2,b3,rfl⟩:=len4 l2|obtain⟨b0,b1,b2,b3,b4,rfl⟩:=len5 l2|obtain⟨b0,b1,b2,b3,b4,b5,rfl⟩:=len6 l2
    first|obtain⟨b0,rfl⟩:=len1 m2|obtain⟨b0,b1,rfl⟩:=len2 m2|obtain⟨b0,b1,b2,rfl⟩:=len3 m2|obtain⟨b0,b1,b2,b3,rfl⟩:=len4 m2|obtain⟨b0,b1,b2,b3,b4,rfl⟩:=len5 m2|obtain⟨b0,b1,b2,b3,b4,b5,rfl⟩:=len6 m2
    unfold zb2 at hrow1;dsimp only at hrow1;simp only[ntE,rowsI,resI,List.length_cons,List.length_nil,Nat.zero_add,Nat.reduceAdd,hcl] at gc;simp only[ntE,rowsI,resI,List.length_cons,List.length_nil,Nat.zero_add,Nat.reduceAdd];refine foP zaA (ndelPl) [] [5,7] Tryz.func31 Tryz.ntmps31 Tryz.results31 ?_;(all_goals refine fx ?_;repeat' first|exact .intro|refine Tw.mk ?_ ?_|(intro h;first|replace h:=h.o|cases h))
    all_goals (try (exfalso;omega))
    refine cutK ⟨[(0,.box 0 0),(2,.v (.int .i64 0)),(9,.elt 2 0 8 I 0),(10,.v (.int .i64 (delK many w0:Nat)))],ntE M0 v 0⟩ ?_ (λhy=>?_);rotate_left
    .exact Y51
    rw[hM0];simp only[ntE,rowsI,resI,List.length_cons,List.length_nil,Nat.zero_add,Nat.reduceAdd];(all_goals refine fx ?_;repeat' first|exact .intro|refine Tw.mk ?_ ?_|(intro h;first|replace h:=h.o|cases h))
    refine cutK ⟨[(0,.box 0 0),(2,.v (.int .i64 0)),(9,.elt 2 0 8 I 0),(11,.v (.string (tx (w0.take (delK many w0)))))],ntE M1 v 0⟩ ?_ (λhy=>?_);rotate_left
    .exact Y45
    clear hrow;rw[hM1];simp only[ntE,rowsI,resI,List.length_cons,List.length_nil,Nat.zero_add,Nat.reduceAdd,hcl];(all_goals refine fx ?_;repeat' first|exact .intro|refine Tw.mk ?_ ?_|(intro h;first|replace h:=h.o|cases h))
    all_goals (try (exfalso;omega))
    all_goals ((refine StopCall.fz [5] (ctA) ?_;(all_goals refine fx ?_;repeat' first|exact .intro|refine Tw.mk ?_ ?_|(intro h;first|replace h:=h.o|cases h))))
    all_goals ((refine zbW (gc) ?_;(all_goals refine fx ?_;repeat' first|exact .intro|refine Tw.mk ?_ ?_|(intro h;first|replace h:=h.o|cases h))))
    all_goals exact Y15
   .rw[if_pos rfl];have hkl:=zoo many w1;have hz:(tx w1).size=w1.length:=tx_size;have hzt:(tx (w1.take (delK many w1))).size=(w1.take (delK many w1)).length:=tx_size;have htl:(w1.take (delK many w1)).length<=2000:=Nat.le_trans (List.length_take_le' ..) (by omega);obtain⟨c',hc'⟩: ∃c':Cb,c'=⟨ca,cpa,cb,cpb,cm,inn,w0,w1.drop (delK many w1)⟩:=⟨_,rfl⟩;have hk0:Nt.ok k n d e { N with cs:=N.cs.set I c' }:=zem hN I (by rw[hc'];exact⟨ha,hpa,hb,hpb,by first|exact hw0|(rw[List.length_drop];omega),by first|exact hw1|(rw[List.length_drop];omega)⟩);have hrow1:=zfb (cs:=N.cs.set I c') (i:=I) (c:=c') (by rw[List.getElem?_set,if_pos rfl,if_pos hIl]);rw[show zb2 c'=zb2 ⟨ca,cpa,cb,cpb,cm,inn,w0,w1.drop (delK many w1)⟩ from by rw[hc']] at hrow1;have hk1:=zat hk0 (m:=n+1040000) (f:=d+2000) (by omega) (by omega) ca (F:=λr=>zar r cpa.toNat (w1.take (delK many w1))) (λr hr=>zeH hr _ htl);have hdk:=znj many w1;have he0:=ext0 hkl;have he1:=ext1 (w:=w1) (k:=delK many w1);obtain⟨rA,hrA⟩: ∃r,N.rs[(ca-1).toNat]? =some r:=⟨_,List.getElem?_eq_getElem (by omega)⟩;have hfA:=hN.r rA (getq hrA);have ctA:=zeT (xrrecv (n:=n) (d:=d) (by omega) (by omega) hfA.p3 hfA.f cpa hpa (tx (w1.take (delK many w1))) (by omega)) hrA (zb4 (v:=v) (k:=k) (by omega)) rfl rfl;rw[bs_tx] at ctA;have hP:ndel1 N I ⟨ca,cpa,cb,cpb,cm,inn,w0,w1⟩ many=(Nt.onR { N with cs:=N.cs.set I c' } ca (λr=>zar r cpa.toNat (w1.take (delK many w1)))):=by rw[hc'];rfl
    rw[hP];clear hP;rw[zcC (M:={ N with cs:=N.cs.set I c' }) hrA] at hk1 ⊢;dsimp only at hk1 ⊢;have gc:=zg5 (by omega) (by omega) hk hk1 v;have hk3:=zdh hk1;have m2:=hk3.ib;have hrrA:=zao (v:=v) (k:=k) (j:=(ca-1).toNat) (by omega);generalize zbO _=N3 at gc m2 ⊢;rw[hkk] at l2 m2 ctA hrrA;obtain⟨M0,hM0⟩: ∃M0:Nt,M0=N:=⟨_,rfl⟩;obtain⟨M1,hM1⟩: ∃M1:Nt,M1={ N with cs:=N.cs.set I c' }:=⟨_,rfl⟩;clear hk0 hk1 hk3 hfA hN;obtain⟨rs,cs,mt,ib⟩:=N;obtain⟨rs3,cs3,mt3,ib3⟩:=N3;dsimp only at l1 l2 m2 hcs9 hi hi2 hIl hc hrow hrow1 gc ctA hrA hM1 ⊢;have hcl:(cs.set I c').length=cs.length:=List.length_set ..;first|obtain⟨b0,rfl⟩:=len1 l2|obtain⟨b0,b1,rfl⟩:=len2 l2|obtain⟨b0,b1,b2,rfl⟩:=len3 l2|obtain⟨b0,b1,b2,b3,rfl⟩:=len4 l2|obtain⟨b0,b1,b2,b3,b4,rfl⟩:=len5 l2|obtain⟨b0,b1,b2,b3,b4,b5,rfl⟩:=len6 l2
    first|obtain⟨b0,rfl⟩:=len1 m2|obtain⟨b0,b1,rfl⟩:=len2 m2|obtain⟨b0,b1,b2,rfl⟩:=len3 m2|obtain⟨b0,b1,b2,b3,rfl⟩:=len4 m2|obtain⟨b0,b1,b2,b3,b4,rfl⟩:=len5 m2|obtain⟨b0,b1,b2,b3,b4,b5,rfl⟩:=len6 m2
    unfold zb2 at hrow1;dsimp only at hrow1;simp only[ntE,rowsI,resI,List.length_cons,List.length_nil,Nat.zero_add,Nat.reduceAdd,hcl] at gc;simp only[ntE,rowsI,resI,List.length_cons,List.length_nil,Nat.zero_add,Nat.reduceAdd];refine foP zaA (ndelPl) [] [5,7] Tryz.func31 Tryz.ntmps31 Tryz.results31 ?_;(all_goals refine fx ?_;repeat' first|exact .intro|refine Tw.mk ?_ ?_|(intro h;first|replace h:=h.o|cases h))
    all_goals (try (exfalso;omega))
    refine cutK ⟨[(0,.box 0 0),(2,.v (.int .i64 1)),(9,.elt 2 0 8 I 0),(10,.v (.int .i64 (delK many w1:Nat)))],ntE M0 v 0⟩ ?_ (λhy=>?_);rotate_left
    .exact Y51
    rw[hM0];simp only[ntE,rowsI,resI,List.length_cons,List.length_nil,Nat.zero_add,Nat.reduceAdd];(all_goals refine fx ?_;repeat' first|exact .intro|refine Tw.mk ?_ ?_|(intro h;first|replace h:=h.o|cases h))
    refine cutK ⟨[(0,.box 0 0),(2,.v (.int .i64 1)),(9,.elt 2 0 8 I 0),(11,.v (.string (tx (w1.take (delK many w1)))))],ntE M1 v 0⟩ ?_ (λhy=>?_);rotate_left
    .exact Y45
    clear hrow;rw[hM1];simp only[ntE,rowsI,resI,List.length_cons,List.length_nil,Nat.zero_add,Nat.reduceAdd,hcl];(all_goals refine fx ?_;repeat' first|exact .intro|refine Tw.mk ?_ ?_|(intro h;first|replace h:=h.o|cases h))
    all_goals (try (exfalso;omega))
    all_goals ((refine StopCall.fz [5] (ctA) ?_;(all_goals refine fx ?_;repeat' first|exact .intro|refine Tw.mk ?_ ?_|(intro h;first|replace h:=h.o|cases h))))
    all_goals ((refine zbW (gc) ?_;(all_goals refine fx ?_;repeat' first|exact .intro|refine Tw.mk ?_ ?_|(intro h;first|replace h:=h.o|cases h))))
    all_goals exact Y15
  .rw[show zkJ N i way=6 from by
    unfold zkJ;split
    .rfl
    .rw[show N.cb i=none from by
      unfold Nt.cb;split
      .rfl
      .exact List.getElem?_eq_none (by omega)]
     rfl,show ndel N i way many=N from by
    unfold ndel;split
    .rfl
    .rw[show N.cb i=none from by
      unfold Nt.cb;split
      .rfl
      .exact List.getElem?_eq_none (by omega)]]
   clear hN;obtain⟨rs,cs,mt,ib⟩:=N;dsimp only at l2 hcs9 hi;rw[hkk] at l2;first|obtain⟨b0,rfl⟩:=len1 l2|obtain⟨b0,b1,rfl⟩:=len2 l2|obtain⟨b0,b1,b2,rfl⟩:=len3 l2|obtain⟨b0,b1,b2,b3,rfl⟩:=len4 l2|obtain⟨b0,b1,b2,b3,b4,rfl⟩:=len5 l2|obtain⟨b0,b1,b2,b3,b4,b5,rfl⟩:=len6 l2
   simp only[ntE,rowsI,resI,List.length_cons,List.length_nil,Nat.zero_add,Nat.reduceAdd];refine foP zaA (ndelPl) [] [] Tryz.func31 Tryz.ntmps31 Tryz.results31 ?_;(all_goals refine fx ?_;repeat' first|exact .intro|refine Tw.mk ?_ ?_|(intro h;first|replace h:=h.o|cases h))
   all_goals (try (exfalso;omega))
   all_goals (((try (conv=>whnf));refine⟨_,AS.le_refl _ _,?_⟩;((try (conv=>whnf));refine ziz ?_;repeat' first|exact .intro|refine Tw.mk ?_ ?_)))):DelS K:=h
end Go.Proofs.YtimfnpjcedjmiadGreat
