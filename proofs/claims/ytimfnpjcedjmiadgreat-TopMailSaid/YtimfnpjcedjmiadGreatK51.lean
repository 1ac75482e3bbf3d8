/- Lemmas. -/
import Derived.Test.YtimfnpjcedjmiadGreatK50
set_option maxRecDepth 100000
set_option maxHeartbeats 64000000
set_option linter.all false
namespace Go.Proofs.YtimfnpjcedjmiadGreat
open Go.RowKit
def zjf(N:Nt):Nat->Nt
 |0=>N
 |q+1=>ninb (zjf N q) ((q:Int)+1)
theorem zjo{k d e:Nat}{N:Nt}(h:N.inv k d e): ∀q,(zjf N q).inv k d e
 |0=>h
 |q+1=>inv_inb (zjo h q) _
theorem zmS(N:Nt): ∀(q j:Nat),q<=j->(zjf N q).ib[j]? =N.ib[j]?
 |0,j,_=>rfl
 |q+1,j,h=>by
  show ((zjf N q).ib.modify ((q:Int)+1-1).toNat λ_=>[])[j]? =_;rw[List.getElem?_modify,zmS N q j (by omega)];cases N.ib[j]? with
  |none=>rfl
  |some x=>show some (if _ then _ else _)=_;rw[if_neg (by omega)]
theorem ba_inj{a b:ByteArray}(h:a.toList=b.toList):a=b:=by
 rw[ByteArray.toList_eq,ByteArray.toList_eq] at h;cases a;cases b;exact congrArg ByteArray.mk (Array.toList_inj.1 h)
theorem bo_row{U:List Bool}{a:Nat}(h:a<U.length):(U.map boRow)[a]? =some [.v (.bool U[a])]:=by rw[List.getElem?_map,List.getElem?_eq_getElem h];rfl
theorem bo_set{U:List Bool}{a:Nat}{b:Bool}:(U.map boRow).set a [.v (.bool b)]=(U.set a b).map boRow:=by rw[List.map_set];rfl
theorem zmi(k:Int)(l:List Ca)(acts:List Ac):Fn Tryz.prog 4 [.v (.int .i64 k),.sl 5 (l.map zcZ) none,.sl 12 (acts.map zdA) none] [] (.v (.bool true)) []:=by
 have hwk:=works_ok;by_cases hok:l.length<=12/\zdY acts 40=true/\zb5 k l=0
 .obtain⟨hc,ha,hk⟩:=hok;have hp:=zpq hc ha hk;obtain⟨k1,k2,k3,k4⟩:=zc4 hk;have hal:=(zfX ha).1;obtain⟨K,rfl⟩: ∃K:Nat,k=(K:Int):=⟨k.toNat,by omega⟩;rw[Int.toNat_natCast] at hp k4;have hI:=ziN (k:=K) (by omega) k4 k3 acts;have hst:=zoE (k:=K) (by omega) (by omega) (by omega) hI;obtain⟨hM,hB⟩:=zo8 hk acts 45;have hI2:=zcd (k:=K) (by omega) hI 45;generalize zbP (playN l K acts) 45=N at *
  have hIq:=zjo hI2;refine foL zaA [] [] Tryz.func4 Tryz.ntmps4 Tryz.results4 ?_;(all_goals refine fx ?_;repeat' first|exact .intro|refine Tw.mk ?_ ?_|(intro h;first|replace h:=h.o|cases h))
  all_goals ((refine StopCall.fz [] (hwk) ?_;(all_goals refine fx ?_;repeat' first|exact .intro|refine Tw.mk ?_ ?_|(intro h;first|replace h:=h.o|cases h))))
  all_goals ((refine StopCall.fz [] (hp) ?_;(all_goals refine fx ?_;repeat' first|exact .intro|refine Tw.mk ?_ ?_|(intro h;first|replace h:=h.o|cases h))))
  all_goals (try (exfalso;omega))
  all_goals ((refine StopCall.fz [0] (hst) ?_;(all_goals refine fx ?_;repeat' first|exact .intro|refine Tw.mk ?_ ?_|(intro h;first|replace h:=h.o|cases h))))
  .exact Y89
  refine lpG2 (λ(q:Nat) (U:List Bool)=>⟨[(0,.v (.int .i64 K)),(2,.sl 12 (acts.map zdA) none),(8,.box 0 0),(10,.arr 1 0 acts.length),(11,.v (.int .i64 ((q:Int)+1)))],[ntO (zjf N q),.arr true 4 1 0 (U.map boRow)]⟩) (λq U=>q<=K/\OkM K acts U ((N.ib.drop q).flatten)) (λq U=>K-q) 0 (List.replicate acts.length false) ⟨by omega,hM⟩ (by (refine zaC [0,2] ?_;repeat' first|exact .intro|refine Tw.mk ?_ ?_);all_goals (simp [boRow,Value.cells];done)) ?_;clear hp hst hwk hM;rintro q U ⟨hq,hU⟩;by_cases hq':q<K
  .have hin:=xninbox (k:=K) (by omega) (hIq q) ((q:Int)+1) (by omega);rw[show ((q:Int)+1-1).toNat=q by omega,List.getD_eq_getElem?_getD,zmS N q q (Nat.le_refl _)] at hin;have hql:q<N.ib.length:=by rw[hI2.ok.ib];exact hq'
   have hb:=List.getElem?_eq_getElem hql;have hBm:=hB q _ hb;have hbl:N.ib[q].length<=100000000000:=by have:=hI2.ok.i _ (getq hb);omega
   rw[List.drop_eq_getElem_cons hql,List.flatten_cons] at hU;rw[hb] at hin;generalize N.ib[q]=b at hb hBm hU hin hbl;change Fn _ _ _ _ (.tup [.arr 1 0 b.length,.err 0]) [ntO (zjf N (q+1)),.arr true 67 3 0 (b.map zaY)] at hin;(all_goals refine fx ?_;repeat' first|exact .intro|refine Tw.mk ?_ ?_|(intro h;first|replace h:=h.o|cases h))
   all_goals (try (exfalso;omega))
   all_goals ((refine StopCall.fz [0] (hin) ?_;(all_goals refine fx ?_;repeat' first|exact .intro|refine Tw.mk ?_ ?_|(intro h;first|replace h:=h.o|cases h))))
   all_goals (try (exfalso;omega))
   refine lpG2 (λ(i:Nat) (U:List Bool)=>⟨[(0,.v (.int .i64 K)),(2,.sl 12 (acts.map zdA) none),(8,.box 0 0),(10,.arr 1 0 acts.length),(11,.v (.int .i64 ((q:Int)+1))),(12,.arr 2 0 b.length),(14,.v (.int .i64 i))],[ntO (zjf N (q+1)),.arr true 4 1 0 (U.map boRow),.arr true 67 3 0 (b.map zaY)]⟩) (λi U=>i<=b.length/\OkM K acts U (b.drop i++(N.ib.drop (q+1)).flatten)) (λi U=>b.length-i) 0 U ⟨by omega,hU⟩ (by (refine zaC [0,1,2] ?_;repeat' first|exact .intro|refine Tw.mk ?_ ?_)) ?_;clear hin hU U hB hIq;rintro i U ⟨hi,hU⟩;by_cases hi':i<b.length
   .have hm:=hBm _ (List.getElem_mem hi');have hrow:(b.map zaY)[i]? =some (zaY b[i]):=by rw[List.getElem?_map,List.getElem?_eq_getElem hi'];rfl
    rw[List.drop_eq_getElem_cons hi',List.cons_append] at hU;have hfd:=hU.found;have hnx:=λa h1 h2 hu hc=>hU.next (a:=a) h1 h2 hu hc;have hlen:=hU.len;clear hU;generalize b[i]=m at hm hrow hfd hnx;obtain⟨mt,mh,mx⟩:=m;unfold zaY at hrow;dsimp only at hm hrow hfd hnx;obtain⟨hm1,hm2,hm3⟩:=hm;subst hm1;(all_goals refine fx ?_;repeat' first|exact .intro|refine Tw.mk ?_ ?_|(intro h;first|replace h:=h.o|cases h))
    all_goals (try (exfalso;omega))
    refine lpG2 (λ(a:Nat) (fd:Bool)=>⟨[(0,.v (.int .i64 K)),(2,.sl 12 (acts.map zdA) none),(8,.box 0 0),(10,.arr 1 0 acts.length),(11,.v (.int .i64 ((q:Int)+1))),(12,.arr 2 0 b.length),(14,.v (.int .i64 i)),(15,.v (.bool fd)),(16,.v (.int .i64 a))],[ntO (zjf N (q+1)),.arr true 4 1 0 ((if fd then U.set (a-1) true else U).map boRow),.arr true 67 3 0 (b.map zaY)]⟩) (λa fd=>a<=acts.length/\(fd=false-> ∀(j:Nat) (h1:j<acts.length) (h2:j<U.length),j<a-> ¬(U[j]=false/\mtA K ((q:Int)+1) mx acts[j]=true))/\(fd=true-> ∃(h1:a-1<acts.length) (h2:a-1<U.length),1<=a/\U[a-1]=false/\mtA K ((q:Int)+1) mx acts[a-1]=true)) (λa fd=>acts.length-a) 0 false ⟨by omega,λ_ j h1 h2 h=>absurd h (Nat.not_lt_zero _),λh=>by cases h⟩ (by (refine zaC [0,1,2] ?_;repeat' first|exact .intro|refine Tw.mk ?_ ?_)) ?_;rintro a fd ⟨ha1,ha2,ha3⟩;cases fd with
    |true=>
     obtain⟨h1,h2,h3,h4,h5⟩:=ha3 rfl;have hN:=hnx (a-1) h1 h2 h4 h5;clear ha2 ha3 hfd hnx;rw[if_pos rfl];generalize U.set (a-1) true=U' at *
     (all_goals refine fx ?_;repeat' first|exact .intro|refine Tw.mk ?_ ?_|(intro h;first|replace h:=h.o|cases h))
     all_goals (try (exfalso;omega))
     all_goals (refine za3 (i+1) U' ⟨by omega,hN⟩ (by omega) (by (refine zaC [0,1,2] ?_;repeat' first|exact .intro|refine Tw.mk ?_ ?_)))
    |false=>
     have ha2:=ha2 rfl;clear ha3;rw[if_neg (by decide)];by_cases ha':a<acts.length
     .have hau:a<U.length:=by omega
      have harow:(acts.map zdA)[a]? =some (zdA acts[a]):=by rw[List.getElem?_map,List.getElem?_eq_getElem ha'];rfl
      have hurow:=bo_row hau;have hset:=bo_set (U:=U) (a:=a) (b:=true);unfold zdA at harow;have hcd:mtA K ((q:Int)+1) mx acts[a]=(decide (acts[a].k.toList=(⟨#[115,101,110,100]⟩:ByteArray).toList)&&decide (1<=acts[a].a)&&decide (acts[a].a<=K)&&(decide (acts[a].b=(q:Int)+1)&&decide (acts[a].s=mx))):=rfl;have hstep: ∀j (h1:j<acts.length) (h2:j<U.length),j<a+1->(U[a]=false->mtA K ((q:Int)+1) mx acts[a]=true->False)-> ¬(U[j]=false/\mtA K ((q:Int)+1) mx acts[j]=true):=λj h1 h2 h3 h4=>by
       by_cases e:j=a
       .subst e;exact λg=>h4 g.1 g.2
       .exact ha2 j h1 h2 (by omega)
      generalize hc:mtA K ((q:Int)+1) mx acts[a]=c at hcd hstep;generalize hu:U[a]=u at hurow hstep;clear ha2 hfd hnx;(all_goals refine fx ?_;repeat' first|exact .intro|refine Tw.mk ?_ ?_|(intro h;first|replace h:=h.o|cases h))
      .have hc1:c=true:=by
        rw[hcd,decide_eq_true (by assumption),decide_eq_true (show 1<=acts[a].a by omega),decide_eq_true (show acts[a].a<=K by omega),decide_eq_true (show acts[a].b=(q:Int)+1 by assumption),decide_eq_true (ba_inj (by assumption))];rfl
       refine za3 (a+1) true ⟨by omega,λh=>(by cases h),λ_=>⟨by omega,by omega,by omega,?_,?_⟩⟩ (by omega) (by (refine zaC [0,1,2] ?_;repeat' first|exact .intro|refine Tw.mk ?_ ?_);all_goals (rw[Int.toNat_natCast,Nat.add_sub_cancel];exact hset))
       .show U[a]=false;rw[hu];assumption
       .show mtA K ((q:Int)+1) mx acts[a]=true;rw[hc,hc1]
      all_goals
       have hno:u=false->c=true->False:=λhu1 hc1=>by
        rw[hcd] at hc1;simp only[Bool.and_eq_true,decide_eq_true_eq] at hc1;obtain⟨⟨⟨c1,c2⟩,c3⟩,c4,c5⟩:=hc1;subst c5;first
         |omega
         |(exact absurd c1 (by assumption))
         |(exact absurd rfl (by assumption))
         |(
           have h9:u=true:=by assumption
           rw[hu1] at h9;cases h9)
       refine za3 (a+1) false ⟨by omega,λ_ j h1 h2 h3=>hstep j h1 h2 h3 hno,λh=>(by cases h)⟩ (by omega) (by (refine zaC [0,1,2] ?_;repeat' first|exact .intro|refine Tw.mk ?_ ?_))
     .exfalso;obtain⟨j,h1,h2,h3,h4⟩:=hfd;exact ha2 j h1 h2 (by omega) ⟨h3,h4⟩
   .obtain rfl:i=b.length:=by omega
    rw[List.drop_length,List.nil_append] at hU;(all_goals refine fx ?_;repeat' first|exact .intro|refine Tw.mk ?_ ?_|(intro h;first|replace h:=h.o|cases h))
    all_goals (try (exfalso;omega))
    all_goals (refine za3 (q+1) U ⟨by omega,hU⟩ (by omega) (by (refine zaC [0,1] ?_;repeat' first|exact .intro|refine Tw.mk ?_ ?_)))
  .obtain rfl:q=K:=by omega
   (all_goals refine fx ?_;repeat' first|exact .intro|refine Tw.mk ?_ ?_|(intro h;first|replace h:=h.o|cases h))
   all_goals (try (exfalso;omega))
   all_goals exact Y24
 .have hp:=zol hok;refine foL zaA [] [] Tryz.func4 Tryz.ntmps4 Tryz.results4 ?_;(all_goals refine fx ?_;repeat' first|exact .intro|refine Tw.mk ?_ ?_|(intro h;first|replace h:=h.o|cases h))
  all_goals ((refine StopCall.fz [] (hwk) ?_;(all_goals refine fx ?_;repeat' first|exact .intro|refine Tw.mk ?_ ?_|(intro h;first|replace h:=h.o|cases h))))
  all_goals ((refine StopCall.fz [] (hp) ?_;(all_goals refine fx ?_;repeat' first|exact .intro|refine Tw.mk ?_ ?_|(intro h;first|replace h:=h.o|cases h))))
  all_goals exact Y24
theorem zjv(W:World)(v0 v1 v2:Value)(i0: ∃n,v0=.int .i64 n/\I64 n)(i1:zqV W v1)(i2:GActs W v2):
  Calls Tryz.prog 4 #[v0,v1,v2] W λe w'=>e=.returned (.bool true)/\Below W.heap.size W w':=by
 obtain⟨k,rfl,_⟩:=i0;obtain⟨l,_,_,hl⟩:=i1;obtain⟨acts,_,ha⟩:=i2;exact fn_law (zmi k l acts) W [_,_,_] ⟨.v _ _,hl,ha,trivial⟩
end Go.Proofs.YtimfnpjcedjmiadGreat
