/- Lemmas. -/
import Derived.Test.YtimfnpjcedjmiadGreatK50
set_option maxRecDepth 100000
set_option maxHeartbeats 64000000
set_option linter.all false
namespace Go.Proofs.YtimfnpjcedjmiadGreat
open Go.RowKit
theorem Hd.posA{len j:Nat}{i:Int}{K:Nat->Prop}{Q:Prop}(q:Hd Q)(h:i=(j:Int))(hl:j<len)(k:Hd Q->K j):StopAt len i K:=by
 subst h;exact⟨Int.natCast_nonneg j,by omega,by rw[Int.toNat_natCast];exact k q⟩
theorem fy{P Q:Prop}(q:Q)(r:Hd Q->P:=by
  intro q;repeat' ((conv=>whnf);first
   |((with_reducible apply Hd.and q);clear q;intro q;rotate_left;clear q;intro q;rotate_right)
   |(with_reducible exact Hd.tru q True.intro)
   |((
     with_reducible refine Im.to ?_);first
     |(refine Hd.tru q ⟨?_⟩;intro h;first|(cases h;done)|((try simp only[vis,Int.reduceToNat] at h)<;>(exfalso;omega)))
     |(apply Hd.raw q;clear q;intro q h;cases h)
     |(apply Hd.red q;(focus (intro h;(try simp only[vis,Int.reduceToNat] at h);exact h));clear q;intro q h))
   |(apply Hd.pos q rfl rfl;clear q;intro q)
   |(apply Hd.posA q;(focus assumption);(focus decide);clear q;intro q)
   |(apply Hd.setr q;(focus (first|(simp only[List.length_map,List.length_set,Int.toNat_natCast];omega)|(simp;done)|(simp;omega)));clear q;intro q)
   |(apply Hd.row q rfl;clear q;intro q)
   |(apply Hd.row q;(focus assumption);clear q;intro q)
   |(apply Hd.lit q rfl rfl;clear q;intro q)
   |((with_reducible refine Al.to ?_);apply Hd.al q;clear q;intro q;rotate_left;clear q;intro q;rotate_right)
   |(apply Hd.idx q;(focus (first|omega|(simp;done)|(simp;omega)));clear q;intro hh q)
   |(apply Hd.idxI q;(focus (first|omega|(simp;done)|(simp;omega)));(focus (first|omega|(simp;done)|(simp;omega)));clear q;intro hh q)
   |(refine Hd.tru q ?_;(first|omega|(refine Vc.mk ?_;first|exact GLt|exact⟨by decide,by decide⟩)))
   |(refine Hd.vc q)
   |exact q.o)):P:=r ⟨q⟩
theorem own_ok(l:List St3)(n:Int)(hl:l.length<=1000000)(hex: ∃s∈l,s.1=n):Fn Tryz.prog 14 [.sl 3 (l.map zaF) none,.v (.int .i64 n)] [] (.agg (zaF (ownS l n))) []:=by
 refine foA zaA [] [] Tryz.func14 Tryz.ntmps14 Tryz.results14 ?_;(all_goals refine fx ?_;repeat' first|exact .intro|refine Tw.mk ?_ ?_|(intro h;first|replace h:=h.o|cases h))
 refine lpG (λi:Nat=>⟨[(0,.sl 3 (l.map zaF) none),(1,.v (.int .i64 n)),(4,.box 0 0),(5,.v (.int .i64 i))],[.cells [.v (.int .i64 0),.v (.int .i64 0),.v (.slice none 0 0)]]⟩) (λi=>i<=l.length/\ownS l n=ownS (l.drop i) n/\ ∃s∈l.drop i,s.1=n) (λi=>l.length-i) 0 ⟨by omega,rfl,hex⟩ (by (refine zaC [0] ?_;repeat' first|exact .intro|refine Tw.mk ?_ ?_)) ?_;rintro i ⟨hi,hq,hx⟩;rw[hq];by_cases hi':i<l.length
 .have hdr:ownS (l.drop i) n=if l[i].1=n then l[i] else ownS (l.drop (i+1)) n:=by
   rw[List.drop_eq_getElem_cons hi'];unfold ownS;rw[List.find?_cons];by_cases h:l[i].1=n
   .rw[if_pos h,show (l[i].1==n)=true from beq_iff_eq.2 h];rfl
   .rw[if_neg h,show (l[i].1==n)=false from by simpa using h]
  rw[hdr];rw[hdr] at hq;rw[List.drop_eq_getElem_cons hi'] at hx;by_cases h:l[i].1=n
  .rw[if_pos h];(all_goals refine fx ?_;repeat' first|exact .intro|refine Tw.mk ?_ ?_|(intro h;first|replace h:=h.o|cases h))
   all_goals (try (exfalso;omega))
   all_goals exact Y13
  .rw[if_neg h];rw[if_neg h] at hq;have hx2: ∃s∈l.drop (i+1),s.1=n:=by
    obtain⟨t,ht,h1⟩:=hx;rcases List.mem_cons.1 ht with rfl|g
    .exact absurd h1 h
    .exact⟨t,g,h1⟩
   (all_goals refine fx ?_;repeat' first|exact .intro|refine Tw.mk ?_ ?_|(intro h;first|replace h:=h.o|cases h))
   all_goals (try (exfalso;omega))
   all_goals (refine zaO (i+1) ⟨by omega,rfl,hx2⟩ (by omega) (by (refine zaC [0] ?_;repeat' first|exact .intro|refine Tw.mk ?_ ?_)))
 .exfalso;obtain⟨t,ht,_⟩:=hx;rw[List.drop_of_length_le (by omega)] at ht;cases ht
theorem znD{k:Nat}{T:List (List Int)}(hT:Tok k T){a:Int}(h1:1<=a)(h2:a<=k): ∃x y z:Int,(([0,0,0]::T).map row3)[a.toNat]? =some [AV.v (.int .i64 x),.v (.int .i64 y),.v (.int .i64 z)]/\ ∀p m:Int,([0,0,0]::putM T a p m).map row3=(([0,0,0]::T).map row3).set a.toNat (row3 ([x,y,z].set p.toNat m)):=by
 obtain⟨n,rfl⟩: ∃n:Nat,a=(n:Int)+1:=⟨(a-1).toNat,by omega⟩;have hlt:n<T.length:=by rw[hT.len];omega
 obtain⟨x,y,z,ht,-⟩:=zc3 hT (List.getElem_mem hlt);rw[show ((n:Int)+1).toNat=n+1 by omega];refine⟨x,y,z,?_,λp m=>?_⟩
 .rw[List.getElem?_map,List.getElem?_cons_succ,List.getElem?_eq_getElem hlt,ht];rfl
 .unfold putM;rw[show ((n:Int)+1-1).toNat=n by omega,List.map_cons,List.map_cons,List.set_cons_succ];refine congrArg (List.cons _) (List.ext_getElem? λj=>?_);rw[List.getElem?_map,List.getElem?_modify,List.getElem?_set,List.length_map];by_cases e:n=j
  .subst e;rw[if_pos rfl,if_pos hlt,List.getElem?_eq_getElem hlt,ht];show some (row3 (if n=n then _ else _))=_;rw[if_pos rfl]
  .rw[if_neg e,List.getElem?_map];cases T[j]? with
   |none=>rfl
   |some t=>show some (row3 (if n=j then _ else _))=_;rw[if_neg e];rfl
theorem zpn{k:Nat}{l:List Ca}{j:Nat}(h:j<l.length):newT k (l.take (j+1))=putM (putM (newT k (l.take j)) l[j].a l[j].pa l[j].m) l[j].b l[j].pb l[j].m:=by
 unfold newT;rw[zaR h,List.foldl_append];rfl
theorem cst0_new(k:Nat):(cst0 k 1).map row3=List.replicate (k+1) [AV.v (.int .i64 0),.v (.int .i64 0),.v (.int .i64 0)]:=by
 refine List.ext_getElem? λj=>?_;rw[List.getElem?_map,List.getElem?_replicate];by_cases g:j<k+1
 .rw[if_pos g,zdn g,if_neg (by omega)];rfl
 .rw[if_neg g,List.getElem?_eq_none (by rw[ze6];omega)];rfl
def lstC(F:Int->Int):List AV:=[.v (.int .i64 (F 0)),.v (.int .i64 (F 1)),.v (.int .i64 (F 2)),.v (.int .i64 (F 3)),.v (.int .i64 (F 4)),.v (.int .i64 (F 5)),.v (.int .i64 (F 6))]
theorem zmb(k:Int)(l:List Ca)(acts:List Ac):Fn Tryz.prog 3 [.v (.int .i64 k),.sl 5 (l.map zcU) none,.sl 12 (acts.map zcj) none] [] (.v (.bool true)) []:=by
 have hwk:=works_ok;have hLC:=zhU l;have hLA:=zjl acts 40 (by decide);by_cases h1:l.length<=12
 .rw[decide_eq_true h1] at hLC;by_cases h2:zf5 acts 40=true
  .rw[h2] at hLA;by_cases h3:zbv k l=0
   .have hn:=xnnew (k:=k) (l:=l) (by omega) h3;obtain⟨k1,k2,k3,k4⟩:=zem h3;have hal:=(zha h2).1;obtain⟨K,rfl⟩: ∃K:Nat,k=(K:Int):=⟨k.toNat,by omega⟩;rw[Int.toNat_natCast] at hn k4;refine foL zaA [] [18,23] Tryz.func3 Tryz.ntmps3 Tryz.results3 ?_;(all_goals refine fx ?_;repeat' first|exact .intro|refine Tw.mk ?_ ?_|(intro h;first|replace h:=h.o|cases h))
    all_goals ((refine StopCall.fz [] (hwk) ?_;(all_goals refine fx ?_;repeat' first|exact .intro|refine Tw.mk ?_ ?_|(intro h;first|replace h:=h.o|cases h))))
    all_goals ((refine StopCall.fz [] (hLC) ?_;(all_goals refine fx ?_;repeat' first|exact .intro|refine Tw.mk ?_ ?_|(intro h;first|replace h:=h.o|cases h))))
    all_goals ((refine StopCall.fz [] (hLA) ?_;(all_goals refine fx ?_;repeat' first|exact .intro|refine Tw.mk ?_ ?_|(intro h;first|replace h:=h.o|cases h))))
    all_goals ((refine StopCall.fz [] (hn) ?_;(all_goals refine fx ?_;repeat' first|exact .intro|refine Tw.mk ?_ ?_|(intro h;first|replace h:=h.o|cases h))))
    all_goals (try (exfalso;omega))
    .refine⟨by omega,rfl,?_,by omega⟩;have hb:(Tryz.prog.types[33]).bytes=24:=by decide+kernel
     rw[hb];omega
    clear hwk hLC hLA hn;refine lpG (λi:Nat=>⟨[(0,.v (.int .i64 K)),(1,.sl 5 (l.map zcU) none),(2,.sl 12 (acts.map zcj) none),(8,.box 0 0),(10,.arr 1 0 (K+1)),(11,.v (.int .i64 i))],[ntO (newN K l),.arr true 33 3 0 ((cst0 K i).map row3)]⟩) (λi=>1<=i/\i<=K+1) (λi=>K+1-i) 1 (by omega) (by (refine zaC [0,1] ?_;repeat' first|exact .intro|refine Tw.mk ?_ ?_);all_goals (rw[show ((K:Int)+1).toNat=K+1 by omega];exact (cst0_new K).symm)) ?_;rintro i hi;by_cases hi':i<=K
    .have hset:=cst0_set (k:=K) (i:=i) hi.1 (by omega);have hrow:((cst0 K i).map row3)[i]? =some (row3 (if 1<=i/\i<i then [1,1,1] else [0,0,0])):=by rw[List.getElem?_map,zdn (by omega)];rfl
     rw[if_neg (λg=>Nat.lt_irrefl _ g.2)] at hrow;change ((cst0 K i).map row3)[i]? =some [AV.v (.int .i64 0),AV.v (.int .i64 0),AV.v (.int .i64 0)] at hrow;(all_goals refine fx ?_;repeat' first|exact .intro|refine Tw.mk ?_ ?_|(intro h;first|replace h:=h.o|cases h))
     all_goals (try (exfalso;omega))
     all_goals (refine zaO (i+1) (by omega) (by omega) (by (refine zaC [0,1] ?_;repeat' first|exact .intro|refine Tw.mk ?_ ?_);all_goals (rw[Int.toNat_natCast,<-hset,List.map_set];rfl)))
    obtain rfl:i=K+1:=by omega
    rw[cst0_end];(all_goals refine fx ?_;repeat' first|exact .intro|refine Tw.mk ?_ ?_|(intro h;first|replace h:=h.o|cases h))
    all_goals (try (exfalso;omega))
    clear hi hi';refine lpG (λj:Nat=>⟨[(0,.v (.int .i64 K)),(1,.sl 5 (l.map zcU) none),(2,.sl 12 (acts.map zcj) none),(8,.box 0 0),(10,.arr 1 0 (K+1)),(12,.v (.int .i64 j))],[ntO (newN K l),.arr true 33 3 0 (([0,0,0]::newT K (l.take j)).map row3)]⟩) (λj=>j<=l.length) (λj=>l.length-j) 0 (by omega) (by (refine zaC [0,1] ?_;repeat' first|exact .intro|refine Tw.mk ?_ ?_)) ?_;rintro j hj;by_cases hj':j<l.length
    .have hco:=k4 _ (List.getElem_mem hj');have hT:Tok K (newT K (l.take j)):=zgE (λc hc=>k4 c (List.mem_of_mem_take hc));have hsn:=zpn (k:=K) hj';obtain⟨x,y,z,hrow,hset⟩:=znD hT hco.a.1 hco.a.2;have hset:=hset l[j].pa l[j].m;have hT2:Tok K (putM (newT K (l.take j)) l[j].a l[j].pa l[j].m):=zg7 hT _ _ hco.m;obtain⟨x2,y2,z2,hrow2,hset2⟩:=znD hT2 hco.b.1 hco.b.2;have hset2:=hset2 l[j].pb l[j].m;rw[<-hsn] at hset2;generalize newT K (l.take j)=T at *
     have ha:=hco.a;have hb:=hco.b;have hpa:=hco.pa;have hpb:=hco.pb;clear hsn hT hT2 hco;(all_goals refine fx ?_;repeat' first|exact .intro|refine Tw.mk ?_ ?_|(intro h;first|replace h:=h.o|cases h))
     all_goals (try (exfalso;omega))
     refine cutK ⟨[(0,.v (.int .i64 K)),(1,.sl 5 (l.map zcU) none),(2,.sl 12 (acts.map zcj) none),(8,.box 0 0),(10,.arr 1 0 (K+1)),(12,.v (.int .i64 j))],[ntO (newN K l),.arr true 33 3 0 (([0,0,0]::putM T l[j].a l[j].pa l[j].m).map row3)]⟩ ?_ (λhy=>?_);rotate_left
     .rcases (by omega:l[j].pa=((0:Nat):Int)\/l[j].pa=((1:Nat):Int)\/l[j].pa=((2:Nat):Int)) with hp|hp|hp;all_goals
       (all_goals refine fy ?_;repeat' first|exact .intro|refine Tw.mk ?_ ?_|(intro h;first|replace h:=h.o|cases h))
       all_goals (try (exfalso;omega))
       all_goals (refine⟨_,?_,hy⟩)
       all_goals ((refine zaC [0,1] ?_;repeat' first|exact .intro|refine Tw.mk ?_ ?_);all_goals (rw[hset,hp];rfl))
     .rcases (by omega:l[j].pb=((0:Nat):Int)\/l[j].pb=((1:Nat):Int)\/l[j].pb=((2:Nat):Int)) with hp|hp|hp;all_goals
       (all_goals refine fy ?_;repeat' first|exact .intro|refine Tw.mk ?_ ?_|(intro h;first|replace h:=h.o|cases h))
       all_goals (try (exfalso;omega))
       all_goals (refine zaO (j+1) (by omega) (by omega) (by (refine zaC [0,1] ?_;repeat' first|exact .intro|refine Tw.mk ?_ ?_);all_goals (rw[hset2,hp];rfl)))
    .obtain rfl:j=l.length:=by omega
     rw[List.take_length];(all_goals refine fx ?_;repeat' first|exact .intro|refine Tw.mk ?_ ?_|(intro h;first|replace h:=h.o|cases h))
     all_goals (try (exfalso;omega))
     clear hj hj';have hT:Tok K (newT K l):=zgE k4;have hI: ∀i,(playN l K (acts.take i)).inv K (432000*acts.length) (230000000*acts.length):=λi=>(inv_play (by omega) k4 k3 (acts.take i)).up (Nat.mul_le_mul_left _ (List.length_take_le' ..)) (Nat.mul_le_mul_left _ (List.length_take_le' ..));have hG: ∀i,On za9 (λ_ _=>0) 999999 (playN l K (acts.take i))/\(playN l K (acts.take i)).num (newT K l):=λi=>znq h3 (acts.take i) (by have:=List.length_take_le' i acts;omega);generalize hTb:newT K l=T at *
     refine lpG (λi:Nat=>⟨[(0,.v (.int .i64 K)),(2,.sl 12 (acts.map zcj) none),(8,.box 0 0),(10,.arr 1 0 (K+1)),(13,.v (.int .i64 i))],[ntO (playN l K (acts.take i)),.arr true 33 3 0 (([0,0,0]::T).map row3)]⟩) (λi=>i<=acts.length) (λi=>acts.length-i) 0 (by omega) (by (refine zaC [0,1] ?_;repeat' first|exact .intro|refine Tw.mk ?_ ?_)) ?_;rintro i hi;by_cases hi':i<acts.length
     .have hN:actN acts[i] (playN l K (acts.take i))=playN l K (acts.take (i+1)):=by rw[zaR hi',playN,playN,List.foldl_append];rfl
      have hIn:=hI (i+1);have hGn:=hG (i+1);have hI0:=hI i;have hact:=act_ok (k:=K) (by omega) (by omega) (by omega) hI0 acts[i];clear hG hI hI0;rw[hN] at hact;unfold zcj at hact;generalize hN2:playN l K (acts.take (i+1))=N' at *
      generalize playN l K (acts.take i)=N0 at *
      have hib:=inv_eq hIn;(all_goals refine fx ?_;repeat' first|exact .intro|refine Tw.mk ?_ ?_|(intro h;first|replace h:=h.o|cases h))
      all_goals (try (exfalso;omega))
      refine cutX (λv=>⟨[(0,.v (.int .i64 K)),(2,.sl 12 (acts.map zcj) none),(8,.box 0 0),(10,.arr 1 0 (K+1)),(13,.v (.int .i64 i))],[ntX N' v,.arr true 33 3 0 (([0,0,0]::T).map row3)]⟩) ?_ (λhy Z hZ=>?_);rotate_left
      ·(all_goals refine fx ?_;repeat' first|exact .intro|refine Tw.mk ?_ ?_|(intro h;first|replace h:=h.o|cases h))
       all_goals (try (exfalso;omega))
       all_goals ((refine StopCall.fz [0] (hact) ?_;(all_goals refine fx ?_;repeat' first|exact .intro|refine Tw.mk ?_ ?_|(intro h;first|replace h:=h.o|cases h))))
       all_goals (refine hZ _ (AS.le.to2 (B:=⟨[(0,.v (.int .i64 K)),(2,.sl 12 (acts.map zcj) none),(8,.box 0 0),(10,.arr 1 0 (K+1)),(13,.v (.int .i64 i))],[ntO N',.arr true 33 3 0 (([0,0,0]::T).map row3)]⟩) ?_ (to_ntX 0 rfl (by rw[hIn.ok.ib];omega) hib hy)))
       all_goals ((refine zaC [0,1] ?_;repeat' first|exact .intro|refine Tw.mk ?_ ?_))
      intro v;clear hact;obtain⟨hOn,hNum⟩:=hGn;(all_goals refine fx ?_;repeat' first|exact .intro|refine Tw.mk ?_ ?_|(intro h;first|replace h:=h.o|cases h))
      refine lpG (λq:Nat=>⟨[(0,.v (.int .i64 K)),(2,.sl 12 (acts.map zcj) none),(8,.box 0 0),(10,.arr 1 0 (K+1)),(13,.v (.int .i64 i)),(14,.v (.int .i64 q))],[ntX N' v,.arr true 33 3 0 (([0,0,0]::T).map row3)]⟩) (λq=>1<=q/\q<=K+1) (λq=>K+1-q) 1 (by omega) (by (refine zaC [0,1] ?_;repeat' first|exact .intro|refine Tw.mk ?_ ?_)) ?_;rintro q hq;by_cases hq':q<=K
      .obtain⟨m,rfl⟩: ∃m,q=m+1:=⟨q-1,by omega⟩;have hlt:m<N'.rs.length:=by rw[hIn.ok.rs];omega
       have hr:=List.getElem?_eq_getElem hlt;have hr3:=(hIn.ok.r _ (List.getElem_mem hlt)).p3;have hrb:=(hIn.ok.r _ (List.getElem_mem hlt)).f.b;have hR:=zje (k:=K) (by omega) hIn v ((m+1:Nat):Int) (by omega);rw[show (((m+1:Nat):Int)-1).toNat=m by omega] at hR;have hP: ∀p:Nat,p<3->_:=λp hp=>zpP (xrpeer hr3 (p:Int) (by omega)) hr hib v rfl rfl;have hS:=zpP (xrstates hr3 hrb) hr hib v rfl rfl;obtain⟨t1,t2,t3⟩:=tell_at hOn (by decide) hr;have hnm:=hNum.2 m _ hr;generalize N'.rs[m]=r at *
       obtain⟨hid,hnm⟩:=hnm;rw[hid] at t1 t2;have hown:=own_ok (stsB r.b) ((m+1:Nat):Int) (by have:=stsB_len (b:=r.b);omega) (by push_cast;exact t2);rw[show (((m+1:Nat):Nat):Int)=(m:Int)+1 by push_cast;rfl] at hown;have hTm:m<T.length:=by rw[hT.len];omega
       obtain⟨x,y,z,hTr,-⟩:=zc3 hT (List.getElem_mem hTm);have hTg:T.getD m []=[x,y,z]:=by rw[List.getD_eq_getElem?_getD,List.getElem?_eq_getElem hTm];exact hTr
       rw[hTg] at hnm;have hrow:(([0,0,0]::T).map row3)[m+1]? =some [AV.v (.int .i64 x),.v (.int .i64 y),.v (.int .i64 z)]:=by
        rw[List.getElem?_map,List.getElem?_cons_succ,List.getElem?_eq_getElem hTm,hTr];rfl
       have hF3:=λn=>zo2 hr3 n;have hE: ∃o sq E,ownS (stsB r.b) ((m:Int)+1)=(o,sq,E)/\E=za0 r.ps:=⟨_,_,_,rfl,t1⟩;obtain⟨o,sq,E,hE,hE2⟩:=hE;rw[hE] at hown;unfold zaF at hown;dsimp only at hown;generalize List.map row3 ([0,0,0]::T)=TT at *
       clear hE t1 t2 hTr hTg hTm hNum hOn;(all_goals refine fx ?_;repeat' first|exact .intro|refine Tw.mk ?_ ?_|(intro h;first|replace h:=h.o|cases h))
       all_goals (try (exfalso;omega))
       all_goals ((refine StopCall.fz [0] (hR) ?_;(all_goals refine fx ?_;repeat' first|exact .intro|refine Tw.mk ?_ ?_|(intro h;first|replace h:=h.o|cases h))))
       all_goals (try (exfalso;omega))
       refine lpG (λp:Nat=>⟨[(0,.v (.int .i64 K)),(2,.sl 12 (acts.map zcj) none),(8,.box 0 0),(10,.arr 1 0 (K+1)),(13,.v (.int .i64 i)),(14,.v (.int .i64 (m+1:Nat))),(15,.v (.pointer (some ⟨v m,0,none⟩))),(17,.box 2 0),(18,.v (.int .i64 p))],[ntX N' v,.arr true 33 3 0 TT,.cells (lstC (lstF r p))]⟩) (λp=>p<=3) (λp=>3-p) 0 (by omega) (by (refine zaC [0,1,2] ?_;repeat' first|exact .intro|refine Tw.mk ?_ ?_)) ?_;rintro p hp;rcases (by omega:p=0\/p=1\/p=2\/p=3) with rfl|rfl|rfl|rfl
       .have hpe:=hP 0 (by decide);have hst:=zho r 0;have hm:(r.pt 0).m=x:=hnm 0;have hw:=t3 0 (by decide);unfold lstS at hst;rw[hm] at hst;rw[Int.toNat_natCast] at hpe;unfold peRow at hpe;generalize (r.pt 0).p=pe at hpe hst hw;obtain⟨wh,bo,lf⟩:=pe;dsimp only at hpe hst hw;generalize lstF r 0=F at *
        cases bo with
        |false=>
         rw[if_neg (λg=>by cases g.1)] at hst;(all_goals refine fx ?_;repeat' first|exact .intro|refine Tw.mk ?_ ?_|(intro h;first|replace h:=h.o|cases h))
         all_goals (try (exfalso;omega))
         all_goals ((refine StopCall.fz [0] (hpe) ?_;(all_goals refine fx ?_;repeat' first|exact .intro|refine Tw.mk ?_ ?_|(intro h;first|replace h:=h.o|cases h))))
         all_goals (try (exfalso;omega))
         all_goals (refine zaO 1 (by omega) (by omega) (by (refine zaC [0,1,2] ?_;repeat' first|exact .intro|refine Tw.mk ?_ ?_);all_goals (exact (congrFun hst _).symm)))
        |true=>
         obtain⟨w1,w6⟩:=hw rfl;rcases (by omega:wh=1\/wh=2\/wh=3\/wh=4\/wh=5\/wh=6) with rfl|rfl|rfl|rfl|rfl|rfl;all_goals
          split at hst
          .rename_i hc;replace hc:=hc.2;(all_goals refine fx ?_;repeat' first|exact .intro|refine Tw.mk ?_ ?_|(intro h;first|replace h:=h.o|cases h))
           all_goals (try (exfalso;omega))
           all_goals ((refine StopCall.fz [0] (hpe) ?_;(all_goals refine fx ?_;repeat' first|exact .intro|refine Tw.mk ?_ ?_|(intro h;first|replace h:=h.o|cases h))))
           all_goals (try (exfalso;omega))
           all_goals (refine zaO 1 (by omega) (by omega) (by (refine zaC [0,1,2] ?_;repeat' first|exact .intro|refine Tw.mk ?_ ?_);all_goals (rw[hst];rfl)))
          .rename_i hc;replace hc: ¬(F _=0\/_<F _):=λg=>hc ⟨rfl,g⟩;rw[not_or] at hc;(all_goals refine fx ?_;repeat' first|exact .intro|refine Tw.mk ?_ ?_|(intro h;first|replace h:=h.o|cases h))
           all_goals (try (exfalso;omega))
           all_goals ((refine StopCall.fz [0] (hpe) ?_;(all_goals refine fx ?_;repeat' first|exact .intro|refine Tw.mk ?_ ?_|(intro h;first|replace h:=h.o|cases h))))
           all_goals (try (exfalso;omega))
           all_goals (refine zaO 1 (by omega) (by omega) (by (refine zaC [0,1,2] ?_;repeat' first|exact .intro|refine Tw.mk ?_ ?_);all_goals (rw[hst])))
       .have hpe:=hP 1 (by decide);have hst:=zho r 1;have hm:(r.pt 1).m=y:=hnm 1;have hw:=t3 1 (by decide);unfold lstS at hst;rw[hm] at hst;rw[Int.toNat_natCast] at hpe;unfold peRow at hpe;generalize (r.pt 1).p=pe at hpe hst hw;obtain⟨wh,bo,lf⟩:=pe;dsimp only at hpe hst hw;generalize lstF r 1=F at *
        cases bo with
        |false=>
         rw[if_neg (λg=>by cases g.1)] at hst;(all_goals refine fx ?_;repeat' first|exact .intro|refine Tw.mk ?_ ?_|(intro h;first|replace h:=h.o|cases h))
         all_goals (try (exfalso;omega))
         all_goals ((refine StopCall.fz [0] (hpe) ?_;(all_goals refine fx ?_;repeat' first|exact .intro|refine Tw.mk ?_ ?_|(intro h;first|replace h:=h.o|cases h))))
         all_goals (try (exfalso;omega))
         all_goals (refine zaO 2 (by omega) (by omega) (by (refine zaC [0,1,2] ?_;repeat' first|exact .intro|refine Tw.mk ?_ ?_);all_goals (exact (congrFun hst _).symm)))
        |true=>
         obtain⟨w1,w6⟩:=hw rfl;rcases (by omega:wh=1\/wh=2\/wh=3\/wh=4\/wh=5\/wh=6) with rfl|rfl|rfl|rfl|rfl|rfl;all_goals
          split at hst
          .rename_i hc;replace hc:=hc.2;(all_goals refine fx ?_;repeat' first|exact .intro|refine Tw.mk ?_ ?_|(intro h;first|replace h:=h.o|cases h))
           all_goals (try (exfalso;omega))
           all_goals ((refine StopCall.fz [0] (hpe) ?_;(all_goals refine fx ?_;repeat' first|exact .intro|refine Tw.mk ?_ ?_|(intro h;first|replace h:=h.o|cases h))))
           all_goals (try (exfalso;omega))
           all_goals (refine zaO 2 (by omega) (by omega) (by (refine zaC [0,1,2] ?_;repeat' first|exact .intro|refine Tw.mk ?_ ?_);all_goals (rw[hst];rfl)))
          .rename_i hc;replace hc: ¬(F _=0\/_<F _):=λg=>hc ⟨rfl,g⟩;rw[not_or] at hc;(all_goals refine fx ?_;repeat' first|exact .intro|refine Tw.mk ?_ ?_|(intro h;first|replace h:=h.o|cases h))
           all_goals (try (exfalso;omega))
           all_goals ((refine StopCall.fz [0] (hpe) ?_;(all_goals refine fx ?_;repeat' first|exact .intro|refine Tw.mk ?_ ?_|(intro h;first|replace h:=h.o|cases h))))
           all_goals (try (exfalso;omega))
           all_goals (refine zaO 2 (by omega) (by omega) (by (refine zaC [0,1,2] ?_;repeat' first|exact .intro|refine Tw.mk ?_ ?_);all_goals (rw[hst])))
       .have hpe:=hP 2 (by decide);have hst:=zho r 2;have hm:(r.pt 2).m=z:=hnm 2;have hw:=t3 2 (by decide);unfold lstS at hst;rw[hm] at hst;rw[Int.toNat_natCast] at hpe;unfold peRow at hpe;generalize (r.pt 2).p=pe at hpe hst hw;obtain⟨wh,bo,lf⟩:=pe;dsimp only at hpe hst hw;generalize lstF r 2=F at *
        cases bo with
        |false=>
         rw[if_neg (λg=>by cases g.1)] at hst;(all_goals refine fx ?_;repeat' first|exact .intro|refine Tw.mk ?_ ?_|(intro h;first|replace h:=h.o|cases h))
         all_goals (try (exfalso;omega))
         all_goals ((refine StopCall.fz [0] (hpe) ?_;(all_goals refine fx ?_;repeat' first|exact .intro|refine Tw.mk ?_ ?_|(intro h;first|replace h:=h.o|cases h))))
         all_goals (try (exfalso;omega))
         all_goals (refine zaO 3 (by omega) (by omega) (by (refine zaC [0,1,2] ?_;repeat' first|exact .intro|refine Tw.mk ?_ ?_);all_goals (exact (congrFun hst _).symm)))
        |true=>
         obtain⟨w1,w6⟩:=hw rfl;rcases (by omega:wh=1\/wh=2\/wh=3\/wh=4\/wh=5\/wh=6) with rfl|rfl|rfl|rfl|rfl|rfl;all_goals
          split at hst
          .rename_i hc;replace hc:=hc.2;(all_goals refine fx ?_;repeat' first|exact .intro|refine Tw.mk ?_ ?_|(intro h;first|replace h:=h.o|cases h))
           all_goals (try (exfalso;omega))
           all_goals ((refine StopCall.fz [0] (hpe) ?_;(all_goals refine fx ?_;repeat' first|exact .intro|refine Tw.mk ?_ ?_|(intro h;first|replace h:=h.o|cases h))))
           all_goals (try (exfalso;omega))
           all_goals (refine zaO 3 (by omega) (by omega) (by (refine zaC [0,1,2] ?_;repeat' first|exact .intro|refine Tw.mk ?_ ?_);all_goals (rw[hst];rfl)))
          .rename_i hc;replace hc: ¬(F _=0\/_<F _):=λg=>hc ⟨rfl,g⟩;rw[not_or] at hc;(all_goals refine fx ?_;repeat' first|exact .intro|refine Tw.mk ?_ ?_|(intro h;first|replace h:=h.o|cases h))
           all_goals (try (exfalso;omega))
           all_goals ((refine StopCall.fz [0] (hpe) ?_;(all_goals refine fx ?_;repeat' first|exact .intro|refine Tw.mk ?_ ?_|(intro h;first|replace h:=h.o|cases h))))
           all_goals (try (exfalso;omega))
           all_goals (refine zaO 3 (by omega) (by omega) (by (refine zaC [0,1,2] ?_;repeat' first|exact .intro|refine Tw.mk ?_ ?_);all_goals (rw[hst])))
       .clear hP hR hnm t3;have hcnt:=zon hF3 6;have hmem:=znd hF3 6;change E=edgN r.ps 6 at hE2;rw[<-hE2] at hcnt hmem;clear hF3 hE2;generalize lstF r 3=F at *
        (all_goals refine fx ?_;repeat' first|exact .intro|refine Tw.mk ?_ ?_|(intro h;first|replace h:=h.o|cases h))
        all_goals (try (exfalso;omega))
        all_goals ((refine StopCall.fz [0] (hS) ?_;(all_goals refine fx ?_;repeat' first|exact .intro|refine Tw.mk ?_ ?_|(intro h;first|replace h:=h.o|cases h))))
        all_goals ((refine StopCall.fz [] (hown) ?_;(all_goals refine fx ?_;repeat' first|exact .intro|refine Tw.mk ?_ ?_|(intro h;first|replace h:=h.o|cases h))))
        all_goals (try (exfalso;omega))
        have hc6:=cnt_le F;refine lpG (λn:Nat=>⟨[(0,.v (.int .i64 K)),(2,.sl 12 (acts.map zcj) none),(8,.box 0 0),(10,.arr 1 0 (K+1)),(13,.v (.int .i64 i)),(14,.v (.int .i64 (m+1:Nat))),(17,.box 2 0),(21,.box 3 0),(22,.v (.int .i64 (cntF F n:Nat))),(23,.v (.int .i64 ((n:Int)+1)))],[ntX N' v,.arr true 33 3 0 TT,.cells (lstC F),.cells [.v (.int .i64 o),.v (.int .i64 sq),.sl 2 (E.map opRow) none]]⟩) (λn=>n<=6) (λn=>6-n) 0 (by omega) (by (refine zaC [0,1,2,3] ?_;repeat' first|exact .intro|refine Tw.mk ?_ ?_)) ?_;rintro n hn;have hn6:=hc6 n;rcases (by omega:n=0\/n=1\/n=2\/n=3\/n=4\/n=5\/n=6) with rfl|rfl|rfl|rfl|rfl|rfl|rfl
        .have hc1:cntF F 1=cntF F 0+(if 0<F 1 then 1 else 0):=rfl;by_cases h0:0<F 1
         .rw[if_pos h0] at hc1;exact Y63
         .rw[if_neg h0] at hc1;exact Y63
        .have hc1:cntF F 2=cntF F 1+(if 0<F 2 then 1 else 0):=rfl;by_cases h0:0<F 2
         .rw[if_pos h0] at hc1;exact Y64
         .rw[if_neg h0] at hc1;exact Y64
        .have hc1:cntF F 3=cntF F 2+(if 0<F 3 then 1 else 0):=rfl;by_cases h0:0<F 3
         .rw[if_pos h0] at hc1;exact Y65
         .rw[if_neg h0] at hc1;exact Y65
        .have hc1:cntF F 4=cntF F 3+(if 0<F 4 then 1 else 0):=rfl;by_cases h0:0<F 4
         .rw[if_pos h0] at hc1;exact Y66
         .rw[if_neg h0] at hc1;exact Y66
        .have hc1:cntF F 5=cntF F 4+(if 0<F 5 then 1 else 0):=rfl;by_cases h0:0<F 5
         .rw[if_pos h0] at hc1;exact Y67
         .rw[if_neg h0] at hc1;exact Y67
        .have hc1:cntF F 6=cntF F 5+(if 0<F 6 then 1 else 0):=rfl;by_cases h0:0<F 6
         .rw[if_pos h0] at hc1;exact Y68
         .rw[if_neg h0] at hc1;exact Y68
        .rw[<-hcnt] at hn6 ⊢;(all_goals refine fx ?_;repeat' first|exact .intro|refine Tw.mk ?_ ?_|(intro h;first|replace h:=h.o|cases h))
         all_goals (try (exfalso;omega))
         refine lpG (λe:Nat=>⟨[(0,.v (.int .i64 K)),(2,.sl 12 (acts.map zcj) none),(8,.box 0 0),(10,.arr 1 0 (K+1)),(13,.v (.int .i64 i)),(14,.v (.int .i64 (m+1:Nat))),(17,.box 2 0),(21,.box 3 0),(24,.v (.int .i64 e))],[ntX N' v,.arr true 33 3 0 TT,.cells (lstC F),.cells [.v (.int .i64 o),.v (.int .i64 sq),.sl 2 (E.map opRow) none]]⟩) (λe=>e<=E.length) (λe=>E.length-e) 0 (by omega) (by (refine zaC [0,1,2,3] ?_;repeat' first|exact .intro|refine Tw.mk ?_ ?_)) ?_;rintro e he;by_cases he':e<E.length
         .obtain⟨e1,e6,hv⟩:=hmem _ (List.getElem_mem he');rcases (by omega:E[e].1=((1:Nat):Int)\/E[e].1=((2:Nat):Int)\/E[e].1=((3:Nat):Int)\/E[e].1=((4:Nat):Int)\/E[e].1=((5:Nat):Int)\/E[e].1=((6:Nat):Int)) with hp|hp|hp|hp|hp|hp
          .have hv2:E[e].2=F 1:=by rw[hv,hp];rfl
           exact Y15
          .have hv2:E[e].2=F 2:=by rw[hv,hp];rfl
           exact Y15
          .have hv2:E[e].2=F 3:=by rw[hv,hp];rfl
           exact Y15
          .have hv2:E[e].2=F 4:=by rw[hv,hp];rfl
           exact Y15
          .have hv2:E[e].2=F 5:=by rw[hv,hp];rfl
           exact Y15
          .have hv2:E[e].2=F 6:=by rw[hv,hp];rfl
           exact Y15
         .obtain rfl:e=E.length:=by omega
          (all_goals refine fx ?_;repeat' first|exact .intro|refine Tw.mk ?_ ?_|(intro h;first|replace h:=h.o|cases h))
          all_goals (try (exfalso;omega))
          all_goals (refine zaO (m+2) (by omega) (by omega) (by (refine zaC [0,1] ?_;repeat' first|exact .intro|refine Tw.mk ?_ ?_)))
      .obtain rfl:q=K+1:=by omega
       (all_goals refine fx ?_;repeat' first|exact .intro|refine Tw.mk ?_ ?_|(intro h;first|replace h:=h.o|cases h))
       all_goals (try (exfalso;omega))
       all_goals (refine zaO (i+1) (by omega) (by omega) (AS.le_trans (le_ntX 0 rfl hib) (by (refine zaC [0,1] ?_;repeat' first|exact .intro|refine Tw.mk ?_ ?_);all_goals (rw[hN2]))))
     .obtain rfl:i=acts.length:=by omega
      (all_goals refine fx ?_;repeat' first|exact .intro|refine Tw.mk ?_ ?_|(intro h;first|replace h:=h.o|cases h))
      all_goals (try (exfalso;omega))
      all_goals exact Y30
   .have hn:=xnnew_no (k:=k) (l:=l) (by omega) h3;obtain⟨E,hE⟩: ∃E,zbv k l=E:=⟨_,rfl⟩;rw[hE] at hn h3;refine foL zaA [] [] Tryz.func3 Tryz.ntmps3 Tryz.results3 ?_;(all_goals refine fx ?_;repeat' first|exact .intro|refine Tw.mk ?_ ?_|(intro h;first|replace h:=h.o|cases h))
    all_goals ((refine StopCall.fz [] (hwk) ?_;(all_goals refine fx ?_;repeat' first|exact .intro|refine Tw.mk ?_ ?_|(intro h;first|replace h:=h.o|cases h))))
    all_goals ((refine StopCall.fz [] (hLC) ?_;(all_goals refine fx ?_;repeat' first|exact .intro|refine Tw.mk ?_ ?_|(intro h;first|replace h:=h.o|cases h))))
    all_goals ((refine StopCall.fz [] (hLA) ?_;(all_goals refine fx ?_;repeat' first|exact .intro|refine Tw.mk ?_ ?_|(intro h;first|replace h:=h.o|cases h))))
    all_goals ((refine StopCall.fz [] (hn) ?_;(all_goals refine fx ?_;repeat' first|exact .intro|refine Tw.mk ?_ ?_|(intro h;first|replace h:=h.o|cases h))))
    all_goals (try (exfalso;omega))
    all_goals exact Y30
  .rw[Bool.not_eq_true] at h2;rw[h2] at hLA;refine foL zaA [] [] Tryz.func3 Tryz.ntmps3 Tryz.results3 ?_;(all_goals refine fx ?_;repeat' first|exact .intro|refine Tw.mk ?_ ?_|(intro h;first|replace h:=h.o|cases h))
   all_goals ((refine StopCall.fz [] (hwk) ?_;(all_goals refine fx ?_;repeat' first|exact .intro|refine Tw.mk ?_ ?_|(intro h;first|replace h:=h.o|cases h))))
   all_goals ((refine StopCall.fz [] (hLC) ?_;(all_goals refine fx ?_;repeat' first|exact .intro|refine Tw.mk ?_ ?_|(intro h;first|replace h:=h.o|cases h))))
   all_goals ((refine StopCall.fz [] (hLA) ?_;(all_goals refine fx ?_;repeat' first|exact .intro|refine Tw.mk ?_ ?_|(intro h;first|replace h:=h.o|cases h))))
   all_goals exact Y30
 .rw[decide_eq_false h1] at hLC;refine foL zaA [] [] Tryz.func3 Tryz.ntmps3 Tryz.results3 ?_;(all_goals refine fx ?_;repeat' first|exact .intro|refine Tw.mk ?_ ?_|(intro h;first|replace h:=h.o|cases h))
  all_goals ((refine StopCall.fz [] (hwk) ?_;(all_goals refine fx ?_;repeat' first|exact .intro|refine Tw.mk ?_ ?_|(intro h;first|replace h:=h.o|cases h))))
  all_goals ((refine StopCall.fz [] (hLC) ?_;(all_goals refine fx ?_;repeat' first|exact .intro|refine Tw.mk ?_ ?_|(intro h;first|replace h:=h.o|cases h))))
  all_goals exact Y30
theorem zip(W:World)(v0 v1 v2:Value)(i0: ∃n,v0=.int .i64 n/\I64 n)(i1:zow W v1)(i2:GActs W v2):
  Calls Tryz.prog 3 #[v0,v1,v2] W λe w'=>e=.returned (.bool true)/\Below W.heap.size W w':=by
 obtain⟨k,rfl,_⟩:=i0;obtain⟨l,_,_,hl⟩:=i1;obtain⟨acts,_,ha⟩:=i2;exact fn_law (zmb k l acts) W [_,_,_] ⟨.v _ _,hl,ha,trivial⟩
end Go.Proofs.YtimfnpjcedjmiadGreat
