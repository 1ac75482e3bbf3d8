/- Lemmas. -/
import Derived.Test.YtimfnpjcedjmiadGreatK29
set_option maxRecDepth 100000
set_option maxHeartbeats 64000000
set_option linter.all false
namespace Go.Proofs.YtimfnpjcedjmiadGreat
open Go.RowKit
def xsV(v:Nat->Nat)(k:Nat):List Value:=(List.range k).map fun j=>.pointer (some ⟨v j,0,none⟩)
def zhB(v:Nat->Nat)(k:Nat):List (List AV):=(List.range k).map fun j=>[.v (.pointer (some ⟨v j,0,none⟩))]
def ntE(N:Nt)(v:Nat->Nat)(g:Nat):List Res:=
 .cells [.arr 1 0 N.ib.length,.arr 2 0 N.cs.length,.arr 3 0 N.mt.length,.arr 4 0 N.ib.length]::.arr false 45 1 0 (zhB v N.ib.length)::.arr true 91 8 0 (N.cs.map zaw)::.arr true 88 1 0 (N.mt.map mtRow)::.arr false 63 1 0 (rowsI 6 g N.ib)::famR (xsV v N.ib.length) N.rs::resI g N.ib
theorem zbY{v:Nat->Nat}{k j:Nat}(h:j<k):(xsV v k)[j]? =some (.pointer (some ⟨v j,0,none⟩)):=by
 unfold xsV;rw[List.getElem?_map,List.getElem?_range h];rfl
theorem zah{v:Nat->Nat}{k j:Nat}(h:j<k):(zhB v k)[j]? =some [.v (.pointer (some ⟨v j,0,none⟩))]:=by
 unfold zhB;rw[List.getElem?_map,List.getElem?_range h];rfl
theorem prows_len(v:Nat->Nat)(k:Nat):(zhB v k).length=k:=by unfold zhB;simp
theorem ziW(v:Nat->Nat)(k:Nat):(xsV v k).length=k:=by unfold xsV;simp
theorem resR_get: ∀(rs:List Rt) (i:Nat),(resR rs)[i]? =rs[i]?.map rtO
 |[],i=>by simp [resR]
 |r::rs,0=>rfl
 |r::rs,i+1=>by
  show (resR rs)[i]? =_
  rw[resR_get rs i];rfl
theorem zc0: ∀(rs:List Rt) (q i:Nat),(rowsR q rs)[i]? =rs[i]?.map fun _=>[.box (q+i) 0]
 |[],q,i=>by simp [rowsR]
 |r::rs,q,0=>rfl
 |r::rs,q,i+1=>by
  show (rowsR (q+1) rs)[i]? =_
  rw[zc0 rs (q+1) i,show q+1+i=q+(i+1) by omega];rfl
theorem zbh: ∀(ib:List (List Mg)) (q g i:Nat),(rowsI q g ib)[i]? =ib[i]?.map fun l=>[.arr (q+i) g l.length]
 |[],q,g,i=>by simp [rowsI]
 |l::ib,q,g,0=>rfl
 |l::ib,q,g,i+1=>by
  show (rowsI (q+1) g ib)[i]? =_
  rw[zbh ib (q+1) g i,show q+1+i=q+(i+1) by omega];rfl
theorem resI_get: ∀(ib:List (List Mg)) (g i:Nat),(resI g ib)[i]? =ib[i]?.map fun l=>.arr true 67 3 g (l.map zdh)
 |[],g,i=>by simp [resI]
 |l::ib,g,0=>rfl
 |l::ib,g,i+1=>by
  show (resI g ib)[i]? =_
  rw[resI_get ib g i];rfl
theorem zhh{α β:Type}{l:List α}{m:List β}{f:Nat->α->β}(h: ∀i,m[i]? =l[i]?.map (f i)):m.length=l.length:=by
 rcases Nat.lt_trichotomy m.length l.length with g|g|g
 ·have:=h m.length
  rw[List.getElem?_eq_none (Nat.le_refl _),List.getElem?_eq_getElem g] at this
  cases this
 ·exact g
 ·have:=h l.length
  rw[List.getElem?_eq_none (l:=l) (Nat.le_refl _),List.getElem?_eq_getElem g] at this
  cases this
theorem resR_len(rs:List Rt):(resR rs).length=rs.length:=zhh (f:=fun _=>rtO) (resR_get rs)
theorem zg8(rs:List Rt)(q:Nat):(rowsR q rs).length=rs.length:=zhh (f:=fun i _=>[.box (q+i) 0]) (zc0 rs q)
theorem zba(ib:List (List Mg))(q g:Nat):(rowsI q g ib).length=ib.length:=zhh (f:=fun i l=>[.arr (q+i) g l.length]) (zbh ib q g)
theorem resI_len(ib:List (List Mg))(g:Nat):(resI g ib).length=ib.length:=zhh (f:=fun _ l=>.arr true 67 3 g (l.map zdh)) (resI_get ib g)
theorem zes(N:Nt)(v:Nat->Nat)(g:Nat):(ntE N v g).length=6+N.ib.length:=by
 unfold ntE;simp only[List.length_cons,resI_len];omega
theorem zkC(N:Nt)(g:Nat):(ntM N g).length=5+N.rs.length+N.ib.length:=by
 unfold ntM ntH;simp only[List.length_append,List.length_cons,List.length_nil,resR_len,resI_len];omega
theorem ntM_r(N:Nt)(g i:Nat):(ntM N g)[5+i]? =(resR N.rs++resI g N.ib)[i]? :=by
 show (_::_::_::_::_::(resR N.rs++resI g N.ib):List Res)[5+i]? =_
 rw[show 5+i=i+1+1+1+1+1 by omega]
 simp only[List.getElem?_cons_succ]
theorem ntE_i(N:Nt)(v:Nat->Nat)(g i:Nat):(ntE N v g)[6+i]? =(resI g N.ib)[i]? :=by
 unfold ntE
 rw[show 6+i=i+1+1+1+1+1+1 by omega]
 simp only[List.getElem?_cons_succ]
def muE(k:Nat)(μ:zaJ):zaJ:=fun id=>if id<=5 then μ id else if id<6+k then μ (id+k-1) else none
theorem zoq{σ:zaL}{μ:zaJ}{q:Nat}{y:Value}{b:Nat}(h:RepV σ μ (.box q 0) y)(hq:μ q=some (.fix (.pointer (some ⟨b,0,none⟩)))):y=.pointer (some ⟨b,0,none⟩):=by
 cases h with
 |box _ _ _ c hc=>
  rw[hq] at hc
  simp only[Option.some.injEq,An.fix.injEq,Value.pointer.injEq,Addr.mk.injEq] at hc
  rw[hc.1]
theorem zfM{σ:zaL}{μ μ':zaJ}{q q' g n:Nat}{y:Value}(h:RepV σ μ (.arr q g n) y)(hq:μ' q'=μ q):RepV σ μ' (.arr q' g n) y:=by
 cases h with
 |arr _ _ _ _ ao m cap a hn hm hmax h hl=>exact .arr _ q' g n ao m cap a hn hm hmax (hq.trans h) hl
theorem ib_ren{σ:zaL}{μ μ':zaJ}{w:World}{q q' id id' g:Nat}{ib:List (List Mg)}{D:Nat->Prop}(h:ROk σ μ w id D (.arr false 63 1 0 (rowsI q g ib)))(hid:μ' id'=μ id)(hq: ∀i,i<ib.length->μ' (q'+i)=μ (q+i)):ROk σ μ' w id' D (.arr false 63 1 0 (rowsI q' g ib)):=by
 obtain⟨ao,cap,xs,h1,h2,h3,h4,h5,h6⟩:=h
 rw[zba] at h1 h2
 refine⟨ao,cap,xs,by rw[zba,hid];exact h1,by rw[zba];exact h2,fun r hr=>?_,fun i j r av g1 g2=>?_,h5,h6⟩
 ·exact Y71
 ·rw[zbh] at g1
  obtain⟨l,hl,rfl⟩:=Option.map_eq_some_iff.1 g1
  cases j with
  |succ j=>simp at g2
  |zero=>
   simp only[List.getElem?_cons_zero,Option.some.injEq] at g2
   subst g2
   obtain⟨y,y1,y2,y3⟩:=h4 i 0 [.arr (q+i) g l.length] (.arr (q+i) g l.length) (by rw[zbh,hl];rfl) rfl
   exact⟨y,y1,zfM y2 (hq i (List.getElem?_eq_some_iff.1 hl).1),y3⟩
theorem zfy{σ:zaL}{μ μ':zaJ}{w:World}{id id' a b c d:Nat}{D:Nat->Prop}{i1 i2 i3 i4:Nat}(h:ROk σ μ w id D (.cells [.arr i1 0 a,.arr i2 0 b,.arr i3 0 c,.arr i4 0 d]))(hid:μ' id'=μ id)(e1:μ' i1=μ i1)(e2:μ' i2=μ i2)(e3:μ' i3=μ i3)(e4:μ' i4=μ i4):ROk σ μ' w id' D (.cells [.arr i1 0 a,.arr i2 0 b,.arr i3 0 c,.arr i4 0 d]):=by
 obtain⟨x,cs,T,h1,h2,h3,h4,h5,h6⟩:=h
 refine⟨x,cs,T,hid.trans h1,h2,h3,fun i av hi=>?_,h5,h6⟩
 obtain⟨y,y1,y2⟩:=h4 i av hi
 refine⟨y,y1,?_⟩
 match i,hi with
 |0,hi=>simp only[List.getElem?_cons_zero,Option.some.injEq] at hi;subst hi;exact zfM y2 e1
 |1,hi=>simp only[List.getElem?_cons_succ,List.getElem?_cons_zero,Option.some.injEq] at hi;subst hi;exact zfM y2 e2
 |2,hi=>simp only[List.getElem?_cons_succ,List.getElem?_cons_zero,Option.some.injEq] at hi;subst hi;exact zfM y2 e3
 |3,hi=>simp only[List.getElem?_cons_succ,List.getElem?_cons_zero,Option.some.injEq] at hi;subst hi;exact zfM y2 e4
 |i+4,hi=>simp at hi
theorem zcE{σ:zaL}{μ μ':zaJ}{w:World}{id id' E sz g:Nat}{rows:List (List AV)}{D:Nat->Prop}(h:ROk σ μ w id D (.arr true E sz g rows))(hid:μ' id'=μ id):ROk σ μ' w id' D (.arr true E sz g rows):=by
 obtain⟨ao,cap,xs,h1,h2⟩:=h
 exact⟨ao,cap,xs,hid.trans h1,h2⟩
theorem memE_of{σ:zaL}{μ:zaJ}{w:World}{Ds:Nat->Nat->Prop}{N:Nt}(hk:1<=N.ib.length)(hrs:N.rs.length=N.ib.length)(h:MemOk σ μ w (ntM N 0) Ds):
  ∃v D,MemOk σ (muE N.ib.length μ) w (ntE N v 0) D/\ ∀b,(∃i,D i b)↔ ∃i,Ds i b:=by
 generalize hK:N.ib.length=k at *
 have hobj: ∀j,j<k-> ∃c,μ (5+j)=some (.fix (.pointer (some ⟨c,0,none⟩)))/\ ∀r,N.rs[j]? =some r->(zbr (rtM r 0)).rep σ w c (Ds (5+j)):=fun j hj=>by
  have hr:=List.getElem?_eq_getElem (l:=N.rs) (i:=j) (by omega)
  have:(ntM N 0)[5+j]? =some (rtO N.rs[j]):=by
   rw[ntM_r,List.getElem?_append_left (by rw[resR_len];omega),resR_get,hr];rfl
  obtain⟨c,h1,h2⟩:=h.ok _ _ this
  exact⟨c,h1,fun r hr'=>by rw[hr] at hr';obtain rfl:=Option.some.inj hr';exact h2⟩
 let v:Nat->Nat:=fun j=>match μ (5+j) with
  |some (.fix (.pointer (some ⟨c,_,_⟩)))=>c
  |_=>0
 have hv: ∀j,j<k->μ (5+j)=some (.fix (.pointer (some ⟨v j,0,none⟩)))/\ ∀r,N.rs[j]? =some r->(zbr (rtM r 0)).rep σ w (v j) (Ds (5+j)):=fun j hj=>by
  obtain⟨c,h1,h2⟩:=hobj j hj
  have e:v j=c:=by
   show (match μ (5+j) with
    |some (.fix (.pointer (some ⟨c,_,_⟩)))=>c
    |_=>0)=c
   rw[h1]
  rw[e];exact⟨h1,h2⟩
 have hle: ∀id,id<=5->muE k μ id=μ id:=fun id h=>if_pos h
 have hgt: ∀i,i<k->muE k μ (6+i)=μ (5+k+i):=fun i hi=>by
  unfold muE;rw[if_neg (by omega),if_pos (by omega)];congr 1;omega
 let D:Nat->Nat->Prop:=fun id b=>if id<5 then Ds id b else if id=5 then ∃j,j<k/\Ds (5+j) b else if id<6+k then Ds (id+k-1) b else False
 have hD5: ∀id,id<5->D id=Ds id:=fun id h=>by funext b;exact if_pos h
 have hDi: ∀i,i<k->D (6+i)=Ds (5+k+i):=fun i hi=>by
  funext b
  show (if 6+i<5 then _ else if 6+i=5 then _ else if 6+i<6+k then Ds (6+i+k-1) b else False)=_
  rw[if_neg (by omega),if_neg (by omega),if_pos (by omega),show 6+i+k-1=5+k+i by omega]
 refine⟨v,D,⟨fun id r hr=>?_,fun i j b hi hj=>?_,fun id hid=>?_⟩,fun b=>⟨?_,?_⟩⟩
 ·match id,hr with
  |0,hr=>
   simp only[ntE,List.getElem?_cons_zero,Option.some.injEq,hK] at hr
   subst hr
   rw[hD5 0 (by decide)]
   have:=h.ok 0 (.cells [.arr 1 0 N.rs.length,.arr 2 0 N.cs.length,.arr 3 0 N.mt.length,.arr 4 0 N.rs.length]) rfl
   rw[hrs] at this
   exact zfy this (hle 0 (by decide)) (hle 1 (by decide)) (hle 2 (by decide)) (hle 3 (by decide)) (hle 4 (by decide))
  |1,hr=>
   simp only[ntE,List.getElem?_cons_succ,List.getElem?_cons_zero,Option.some.injEq,hK] at hr
   subst hr
   rw[hD5 1 (by decide)]
   obtain⟨ao,cap,xs,h1,h2,h3,h4,h5,h6⟩:=h.ok 1 (.arr false 45 1 0 (rowsR 5 N.rs)) rfl
   rw[zg8,hrs] at h1 h2
   refine⟨ao,cap,xs,by rw[prows_len,hle 1 (by decide)];exact h1,by rw[prows_len];exact h2,fun r hr=>?_,fun i j r av g1 g2=>?_,h5,h6⟩
   ·obtain⟨j,_,rfl⟩:=List.mem_map.1 hr
    rfl
   ·have hi:i<k:=by have:=(List.getElem?_eq_some_iff.1 g1).1;rw[prows_len] at this;exact this
    rw[zah hi] at g1
    obtain rfl:=Option.some.inj g1
    cases j with
    |succ j=>simp at g2
    |zero=>
     simp only[List.getElem?_cons_zero,Option.some.injEq] at g2
     subst g2
     obtain⟨y,y1,y2,y3⟩:=h4 i 0 [.box (5+i) 0] (.box (5+i) 0) (by rw[zc0,List.getElem?_eq_getElem (by omega)];rfl) rfl
     refine⟨y,y1,?_,y3⟩
     rw[zoq y2 (hv i hi).1]
     exact .v _ _
  |2,hr=>
   simp only[ntE,List.getElem?_cons_succ,List.getElem?_cons_zero,Option.some.injEq] at hr
   subst hr
   rw[hD5 2 (by decide)]
   exact zcE (h.ok 2 _ rfl) (hle 2 (by decide))
  |3,hr=>
   simp only[ntE,List.getElem?_cons_succ,List.getElem?_cons_zero,Option.some.injEq] at hr
   subst hr
   rw[hD5 3 (by decide)]
   exact zcE (h.ok 3 _ rfl) (hle 3 (by decide))
  |4,hr=>
   simp only[ntE,List.getElem?_cons_succ,List.getElem?_cons_zero,Option.some.injEq] at hr
   subst hr
   rw[hD5 4 (by decide)]
   have:=h.ok 4 (.arr false 63 1 0 (rowsI (5+N.rs.length) 0 N.ib)) rfl
   exact ib_ren this (hle 4 (by decide)) (fun i hi=>by rw[hgt i (by omega),hrs])
  |5,hr=>
   simp only[ntE,List.getElem?_cons_succ,List.getElem?_cons_zero,Option.some.injEq,hK] at hr
   subst hr
   refine⟨v 0,by rw[hle 5 (by decide)];exact (hv 0 (by omega)).1,fun j=>if j<k then Ds (5+j) else fun _=>False,by rw[ziW,List.length_map,hrs],⟨fun j x p hx hp=>?_,fun i j b hi hj=>?_,fun b=>?_,fun j b hj=>?_⟩⟩
   ·have hjk:j<k:=by have:=(List.getElem?_eq_some_iff.1 hx).1;rw[ziW] at this;exact this
    rw[zbY hjk] at hx
    obtain rfl:=Option.some.inj hx
    rw[List.getElem?_map] at hp
    obtain⟨r,hr,rfl⟩:=Option.map_eq_some_iff.1 hp
    refine⟨v j,rfl,?_⟩
    rw[if_pos hjk]
    exact (hv j hjk).2 r hr
   ·split at hi<;>split at hj
    ·have:=h.apart _ _ b hi hj;omega
    ·exact hj.elim
    ·exact hi.elim
    ·exact hi.elim
   ·show (if 5<5 then _ else if 5=5 then ∃j,j<k/\Ds (5+j) b else _)↔_
    rw[if_neg (by decide),if_pos rfl]
    exact⟨fun ⟨j,hj,hb⟩=>⟨j,by rw[if_pos hj];exact hb⟩,fun ⟨j,hb⟩=>by
     split at hb
     ·rename_i hj;exact⟨j,hj,hb⟩
     ·exact hb.elim⟩
   ·split at hj
    ·rename_i hj';rw[List.length_map,hrs];exact hj'
    ·exact hj.elim
  |i+6,hr=>
   rw[show i+6=6+i by omega] at hr ⊢
   rw[ntE_i,resI_get] at hr
   obtain⟨l,hl,rfl⟩:=Option.map_eq_some_iff.1 hr
   have hi:i<k:=by have:=(List.getElem?_eq_some_iff.1 hl).1;omega
   rw[hDi i hi]
   refine zcE (h.ok (5+k+i) _ ?_) (hgt i hi)
   rw[show 5+k+i=5+(k+i) by omega,ntM_r,List.getElem?_append_right (by rw[resR_len];omega),resR_len,hrs,show k+i-k=i by omega,resI_get,hl];rfl
 ·have key: ∀id b,D id b->(id<5/\Ds id b)\/(id=5/\ ∃j,j<k/\Ds (5+j) b)\/(6<=id/\id<6+k/\Ds (id+k-1) b):=fun id b hd=>by
   simp only[D] at hd
   split at hd
   ·exact .inl ⟨by assumption,hd⟩
   ·split at hd
    ·exact .inr (.inl ⟨by assumption,hd⟩)
    ·split at hd
     ·exact .inr (.inr ⟨by omega,by assumption,hd⟩)
     ·exact hd.elim
  rcases key i b hi with⟨a1,a2⟩|⟨a1,p,a2,a3⟩|⟨a1,a2,a3⟩<;>rcases key j b hj with⟨b1,b2⟩|⟨b1,q,b2,b3⟩|⟨b1,b2,b3⟩
  ·exact h.apart i j b a2 b2
  ·have:=h.apart _ _ b a2 b3;omega
  ·have:=h.apart _ _ b a2 b3;omega
  ·have:=h.apart _ _ b a3 b2;omega
  ·omega
  ·have:=h.apart _ _ b a3 b3;omega
  ·have:=h.apart _ _ b a3 b2;omega
  ·have:=h.apart _ _ b a3 b3;omega
  ·have:=h.apart _ _ b a3 b3;omega
 ·rw[zes,hK] at hid
  refine⟨by unfold muE;rw[if_neg (by omega),if_neg (by omega)],fun b hb=>?_⟩
  simp only[D] at hb
  rw[if_neg (by omega),if_neg (by omega),if_neg (by omega)] at hb
  exact hb
 ·rintro⟨i,hi⟩
  simp only[D] at hi
  split at hi
  ·exact⟨i,hi⟩
  ·split at hi
   ·obtain⟨j,_,hj⟩:=hi;exact⟨_,hj⟩
   ·split at hi
    ·exact⟨_,hi⟩
    ·exact hi.elim
 ·rintro⟨i,hi⟩
  have hlt:=h.lt hi
  rw[zkC,hrs,hK] at hlt
  rcases Nat.lt_or_ge i 5 with g|g
  ·exact⟨i,by rw[hD5 i g];exact hi⟩
  ·rcases Nat.lt_or_ge i (5+k) with g2|g2
   ·refine⟨5,?_⟩
    show (if 5<5 then _ else if 5=5 then ∃j,j<k/\Ds (5+j) b else _)
    rw[if_neg (by decide),if_pos rfl]
    exact⟨i-5,by omega,by rw[show 5+(i-5)=i by omega];exact hi⟩
   ·exact⟨6+(i-5-k),by rw[hDi _ (by omega),show 5+k+(i-5-k)=i by omega];exact hi⟩
def zg:An->An
 | .cur ao n cap _=>.cur ao n cap 0
 |x=>x
theorem memM_of{σ:zaL}{μ:zaJ}{w:World}{Ds:Nat->Nat->Prop}{N:Nt}{v:Nat->Nat}{g:Nat}(hrs:N.rs.length=N.ib.length)(h:MemOk σ μ w (ntE N v g) Ds):
  ∃μ' D,MemOk σ μ' w (ntM N 0) D/\μ' 0=μ 0/\ ∀b,(∃i,D i b)↔ ∃i,Ds i b:=by
 generalize hK:N.ib.length=k at *
 obtain⟨c5,_,E,hEl,hE⟩:=h.ok 5 (famR (xsV v N.ib.length) N.rs) rfl
 rw[hK] at hE
 let μ':zaJ:=fun id=>if id<5 then μ id else if id<5+k then some (.fix (.pointer (some ⟨v (id-5),0,none⟩))) else (μ (id+1-k)).map zg
 let D:Nat->Nat->Prop:=fun id b=>if id<5 then Ds id b else if id<5+k then E (id-5) b else Ds (id+1-k) b
 have m5: ∀id,id<5->μ' id=μ id:=fun id h=>if_pos h
 have mr: ∀j,j<k->μ' (5+j)=some (.fix (.pointer (some ⟨v j,0,none⟩))):=fun j hj=>by
  show (if 5+j<5 then _ else if 5+j<5+k then _ else _)=_
  rw[if_neg (by omega),if_pos (by omega),show 5+j-5=j by omega]
 have mi: ∀i,μ' (5+k+i)=(μ (6+i)).map zg:=fun i=>by
  show (if 5+k+i<5 then _ else if 5+k+i<5+k then _ else (μ (5+k+i+1-k)).map zg)=_
  rw[if_neg (by omega),if_neg (by omega),show 5+k+i+1-k=6+i by omega]
 have d5: ∀id,id<5->D id=Ds id:=fun id h=>by funext b;exact if_pos h
 have dr: ∀j,j<k->D (5+j)=E j:=fun j hj=>by
  funext b
  show (if 5+j<5 then _ else if 5+j<5+k then E (5+j-5) b else _)=_
  rw[if_neg (by omega),if_pos (by omega),show 5+j-5=j by omega]
 have di: ∀i,D (5+k+i)=Ds (6+i):=fun i=>by
  funext b
  show (if 5+k+i<5 then _ else if 5+k+i<5+k then _ else Ds (5+k+i+1-k) b)=_
  rw[if_neg (by omega),if_neg (by omega),show 5+k+i+1-k=6+i by omega]
 have hEk: ∀j b,E j b->j<k:=fun j b hj=>by have:=hE.out j b hj;rw[List.length_map] at this;omega
 have hE5: ∀j b,E j b->Ds 5 b:=fun j b hj=>(hE.all b).2 ⟨j,hj⟩
 refine⟨μ',D,⟨fun id r hr=>?_,fun i j b hi hj=>?_,fun id hid=>?_⟩,m5 0 (by decide),fun b=>⟨?_,?_⟩⟩
 ·match id,hr with
  |0,hr=>
   obtain rfl:Res.cells [.arr 1 0 N.rs.length,.arr 2 0 N.cs.length,.arr 3 0 N.mt.length,.arr 4 0 N.rs.length]=r:=Option.some.inj hr
   rw[d5 0 (by decide)]
   have:=h.ok 0 (.cells [.arr 1 0 N.ib.length,.arr 2 0 N.cs.length,.arr 3 0 N.mt.length,.arr 4 0 N.ib.length]) rfl
   rw[hK,<-hrs] at this
   exact zfy this (m5 0 (by decide)) (m5 1 (by decide)) (m5 2 (by decide)) (m5 3 (by decide)) (m5 4 (by decide))
  |1,hr=>
   obtain rfl:Res.arr false 45 1 0 (rowsR 5 N.rs)=r:=Option.some.inj hr
   rw[d5 1 (by decide)]
   obtain⟨ao,cap,xs,h1,h2,h3,h4,h5,h6⟩:=h.ok 1 (.arr false 45 1 0 (zhB v N.ib.length)) rfl
   rw[prows_len,hK] at h1 h2
   refine⟨ao,cap,xs,by rw[zg8,hrs,m5 1 (by decide)];exact h1,by rw[zg8,hrs];exact h2,fun r hr=>?_,fun i j r av g1 g2=>?_,h5,h6⟩
   ·obtain⟨i,hi⟩:=List.getElem?_of_mem hr
    rw[zc0] at hi
    obtain⟨l,_,rfl⟩:=Option.map_eq_some_iff.1 hi
    rfl
   ·rw[zc0] at g1
    obtain⟨l,hl,rfl⟩:=Option.map_eq_some_iff.1 g1
    have hi:i<k:=by have:=(List.getElem?_eq_some_iff.1 hl).1;omega
    cases j with
    |succ j=>simp at g2
    |zero=>
     simp only[List.getElem?_cons_zero,Option.some.injEq] at g2
     subst g2
     obtain⟨y,y1,y2,y3⟩:=h4 i 0 [.v (.pointer (some ⟨v i,0,none⟩))] (.v (.pointer (some ⟨v i,0,none⟩))) (by rw[hK];exact zah hi) rfl
     refine⟨y,y1,?_,y3⟩
     rw[y2.inv_v]
     exact .box _ _ 0 (v i) (mr i hi)
  |2,hr=>
   obtain rfl:Res.arr true 91 8 0 (N.cs.map zaw)=r:=Option.some.inj hr
   rw[d5 2 (by decide)]
   exact zcE (h.ok 2 _ rfl) (m5 2 (by decide))
  |3,hr=>
   obtain rfl:Res.arr true 88 1 0 (N.mt.map mtRow)=r:=Option.some.inj hr
   rw[d5 3 (by decide)]
   exact zcE (h.ok 3 _ rfl) (m5 3 (by decide))
  |4,hr=>
   obtain rfl:Res.arr false 63 1 0 (rowsI (5+N.rs.length) 0 N.ib)=r:=Option.some.inj hr
   rw[d5 4 (by decide)]
   obtain⟨ao,cap,xs,h1,h2,h3,h4,h5,h6⟩:=h.ok 4 (.arr false 63 1 0 (rowsI 6 g N.ib)) rfl
   rw[zba] at h1 h2
   refine⟨ao,cap,xs,by rw[zba,m5 4 (by decide)];exact h1,by rw[zba];exact h2,fun r hr=>?_,fun i j r av g1 g2=>?_,h5,h6⟩
   ·exact Y71
   ·rw[zbh] at g1
    obtain⟨l,hl,rfl⟩:=Option.map_eq_some_iff.1 g1
    cases j with
    |succ j=>simp at g2
    |zero=>
     simp only[List.getElem?_cons_zero,Option.some.injEq] at g2
     subst g2
     obtain⟨y,y1,y2,y3⟩:=h4 i 0 [.arr (6+i) g l.length] (.arr (6+i) g l.length) (by rw[zbh,hl];rfl) rfl
     refine⟨y,y1,?_,y3⟩
     cases y2 with
     |arr _ _ _ _ ao' m' cap' a hn hm hmax h7 h8=>
      obtain⟨ao2,cap2,xs2,q1,_⟩:=h.ok (6+i) (.arr true 67 3 g (l.map zdh)) (by rw[ntE_i,resI_get,hl];rfl)
      have h7':μ (6+i)=some a:=h7
      rw[q1] at h7'
      obtain rfl:=Option.some.inj h7'
      obtain⟨_,h8⟩:=h8
      obtain⟨rfl,rfl,rfl⟩:=h8 rfl
      refine .arr _ _ 0 _ _ _ _ (.cur ao2 (l.map zdh).length cap2 0) hn hm hmax ?_ (An.le_refl _)
      show μ' (5+N.rs.length+i)=_
      rw[hrs,mi i,q1];rfl
  |i+5,hr=>
   rw[show i+5=5+i by omega] at hr ⊢
   rw[ntM_r] at hr
   rcases Nat.lt_or_ge i k with hi|hi
   ·rw[List.getElem?_append_left (by rw[resR_len];omega),resR_get] at hr
    obtain⟨r0,hr0,rfl⟩:=Option.map_eq_some_iff.1 hr
    rw[dr i hi]
    obtain⟨b,hb1,hb2⟩:=hE.one i (.pointer (some ⟨v i,0,none⟩)) (zbr (rtM r0 0)) (zbY hi) (by rw[List.getElem?_map,hr0];rfl)
    simp only[Value.pointer.injEq,Option.some.injEq,Addr.mk.injEq,and_true] at hb1
    subst hb1
    exact⟨v i,mr i hi,hb2⟩
   ·rw[List.getElem?_append_right (by rw[resR_len];omega),resR_len,hrs,resI_get] at hr
    obtain⟨l,hl,rfl⟩:=Option.map_eq_some_iff.1 hr
    obtain⟨q,rfl⟩: ∃q,i=k+q:=⟨i-k,by omega⟩
    rw[show k+q-k=q by omega] at hl
    rw[show 5+(k+q)=5+k+q by omega,di q]
    obtain⟨ao,cap,xs,h1,h2⟩:=h.ok (6+q) (.arr true 67 3 g (l.map zdh)) (by rw[ntE_i,resI_get,hl];rfl)
    exact⟨ao,cap,xs,by rw[mi q,h1];rfl,h2⟩
 ·have key: ∀id b,D id b->(id<5/\Ds id b)\/(5<=id/\id<5+k/\E (id-5) b)\/(5+k<=id/\Ds (id+1-k) b):=fun id b hd=>by
   simp only[D] at hd
   split at hd
   ·exact .inl ⟨by assumption,hd⟩
   ·split at hd
    ·exact .inr (.inl ⟨by omega,by assumption,hd⟩)
    ·exact .inr (.inr ⟨by omega,hd⟩)
  rcases key i b hi with⟨a1,a2⟩|⟨a1,a2,a3⟩|⟨a1,a2⟩<;>rcases key j b hj with⟨b1,b2⟩|⟨b1,b2,b3⟩|⟨b1,b2⟩
  ·exact h.apart i j b a2 b2
  ·have:=h.apart _ _ b a2 (hE5 _ _ b3);omega
  ·have:=h.apart _ _ b a2 b2;omega
  ·have:=h.apart _ _ b (hE5 _ _ a3) b2;omega
  ·have:=hE.apart _ _ b a3 b3;omega
  ·have:=h.apart _ _ b (hE5 _ _ a3) b2;omega
  ·have:=h.apart _ _ b a2 b2;omega
  ·have:=h.apart _ _ b a2 (hE5 _ _ b3);omega
  ·have:=h.apart _ _ b a2 b2;omega
 ·rw[zkC,hrs,hK] at hid
  obtain⟨q,rfl⟩: ∃q,id=5+k+q:=⟨id-5-k,by omega⟩
  have:=h.out (6+q) (by rw[zes,hK];omega)
  exact⟨by rw[mi q,this.1];rfl,fun b hb=>by rw[di q] at hb;exact this.2 b hb⟩
 ·rintro⟨i,hi⟩
  simp only[D] at hi
  split at hi
  ·exact⟨i,hi⟩
  ·split at hi
   ·exact⟨5,hE5 _ _ hi⟩
   ·exact⟨_,hi⟩
 ·rintro⟨i,hi⟩
  have hlt:=h.lt hi
  rw[zes,hK] at hlt
  rcases Nat.lt_or_ge i 5 with g1|g1
  ·exact⟨i,by rw[d5 i g1];exact hi⟩
  ·rcases Nat.eq_or_lt_of_le g1 with g2|g2
   ·subst g2
    obtain⟨j,hj⟩:=(hE.all b).1 hi
    exact⟨5+j,by rw[dr j (hEk j b hj)];exact hj⟩
   ·exact⟨5+k+(i-6),by rw[di,show 6+(i-6)=i by omega];exact hi⟩
theorem zaY{k:Nat}{fr fr':List (Nat×AV)}{mem mem':List Res}{Q:Prop}(q:Q)(hnd:decide ((List.range mem'.length).Nodup)=true:=by exact rfl)(hp:zd9 mem 0 k (List.range mem'.length) mem'=true:=by exact rfl)(r:Q->RM mem mem' (List.range mem'.length) (List.range mem'.length) mem'/\RF mem mem' (List.range mem'.length) fr fr':=by (intro q;exact gr q)):AS.le k ⟨fr,mem⟩ ⟨fr',mem'⟩:=zgn _ hnd hp (r q).1 (r q).2
theorem zeU{k:Nat}{mem:List Res}{v r:AV}{m':List Res}{Q:Prop}(q:Q)(hnd:decide ((List.range m'.length).Nodup)=true:=by exact rfl)(hp:zd9 mem 0 k (List.range m'.length) m'=true:=by exact rfl)(h:Q->RM mem m' (List.range m'.length) (List.range m'.length) m'/\RK mem m' (List.range m'.length) v r:=by (intro q;exact gr q)):StopRet k mem v r m':=⟨_,hnd,hp,(h q).1,(h q).2⟩
theorem zbN{P:Program}{f:FuncId}{l:List AV}{mem:List Res}{K:MK}{args:List AV}{m:List Res}{r:AV}{m':List Res}(hF:Fn P f args m r m')
  (k:fzP (prs mem (List.range m.length)) fun ps=>fzP (ps++extG mem.length (m'.length-(List.range m.length).length)) fun g=>fzM2 (mrg g mem 0 ps m') fun M=>fz (ren g r) fun R=>K M R) (h0:gen0 m=true:=by exact rfl) (hup:upw 0 mem.length (List.range m.length)=true:=by exact rfl) (hle:Nat.ble m.length m'.length=true:=by exact rfl) (hM:RM mem m (List.range m.length) (List.range m.length) m:=by exact grt) (hA:RKL1 mem m (List.range m.length) l args:=by exact grt):StopCall P f l mem K:=zkW _ hF h0 hup hle hM hA k
theorem zoY{ι:Type}{P:Program}{f:FuncId}{args:List AV}{ret:AV}{p p':OPred}{m m':ι->List Res}(i0:ι)
  (hin: ∀(σ:zaL) (w:World) (b:Nat) (D:Nat->Prop),p.rep σ w b D-> ∃v μ Ds,MemOk σ μ w (m v) Ds/\μ 0=some (.fix (.pointer (some ⟨b,0,none⟩)))/\ ∀k,D k↔ ∃i,Ds i k)
  (hout: ∀(v:ι) (σ:zaL) (w:World) (b:Nat) (μ:zaJ) (Ds:Nat->Nat->Prop),MemOk σ μ w (m' v) Ds->μ 0=some (.fix (.pointer (some ⟨b,0,none⟩)))->p'.rep σ w b (fun k=> ∃i,Ds i k))
  (hF: ∀v,Fn P f (.box 0 0::args) (m v) ret (m' v)) (ha:args.all AV.free=true) (hr:ret.free=true):Fn P f (.box 0 0::args) [.obj p] ret [.obj p']:=by
 refine⟨(hF i0).1,fun w σ μ Ds vs hag hmem hlen hargs=>?_⟩
 obtain⟨b,hb,hrep⟩:=hmem.ok 0 _ rfl
 obtain⟨v,μ1,Ds1,hm1,h10,hD1⟩:=hin σ w b _ hrep
 refine ((hF v).2 w σ μ1 Ds1 vs hag hm1 hlen (fun i av y h1 h2=>?_)).mono ?_
 ·cases i with
  |zero=>
   simp only[List.getElem?_cons_zero,Option.some.injEq] at h1
   subst h1
   have:=hargs 0 (.box 0 0) y rfl h2
   cases this with
   |box _ _ _ b' h=>
    rw[hb] at h
    simp only[Option.some.injEq,An.fix.injEq,Value.pointer.injEq,Addr.mk.injEq] at h
    obtain⟨rfl,_⟩:=h
    exact .box _ 0 0 b h10
  |succ i=>
   simp only[List.getElem?_cons_succ] at h1
   exact (hargs (i+1) av y (by simpa using h1) h2).free (List.all_eq_true.1 ha av (List.mem_of_getElem? h1))
 ·rintro e w' ⟨x,σ',μE,DE,rfl,hpost⟩
  have hfp: ∀k,(∃id,Ds1 id k)-> ∃id,Ds id k:=fun k h=>⟨0,(hD1 k).2 h⟩
  have hE0:μE 0=some (.fix (.pointer (some ⟨b,0,none⟩))):=by
   obtain⟨a,h1,h2⟩:=hpost.gle 0 _ h10
   cases a with
   |fix x=>simp only[An.le] at h2;subst h2;exact h1
   |cur=>exact h2.elim
  refine⟨x,σ',fun i=>if i=0 then μE 0 else none,fun i k=>i=0/\ ∃j,DE j k,rfl,⟨hpost.rep.free hr,⟨fun id q hq=>?_,fun i j k hi hj=>hi.1.trans hj.1.symm,fun id hid=>?_⟩,fun i a hi=>?_,hpost.agree,⟨hpost.keeps.os,hpost.keeps.tape,hpost.keeps.output,hpost.keeps.size,fun k hk hno=>hpost.keeps.block k hk (fun h=>hno (hfp k h))⟩,fun c o hc hno=>hpost.old c o hc (fun h=>hno (hfp c h)),hpost.mono,fun id k hk=>?_⟩⟩
  ·cases id with
   |zero=>
    simp only[List.getElem?_cons_zero,Option.some.injEq] at hq
    subst hq
    refine⟨b,by simp only[if_true];exact hE0,?_⟩
    have:=hout v σ' w' b μE DE hpost.mem hE0
    have e:(fun k=>0=0/\ ∃j,DE j k)=fun k=> ∃j,DE j k:=by funext k;simp
    show p'.rep σ' w' b (fun k=>0=0/\ ∃j,DE j k)
    rw[e];exact this
   |succ i=>simp at hq
  ·exact Y68
  ·by_cases h0:i=0
   ·subst h0
    rw[hb] at hi
    obtain rfl:=Option.some.inj hi
    exact⟨_,by simp only[if_true];exact hE0,An.le_refl _⟩
   ·rw[(hmem.out i (by simp;omega)).1] at hi;cases hi
  ·obtain⟨j,hj⟩:=hk.2
   exact (hpost.own j k hj).imp (fun h=>h) (hfp k)
theorem zna{N:Nt}(hk:1<=N.ib.length)(hrs:N.rs.length=N.ib.length)(σ:zaL)(w:World)(b:Nat)(D:Nat->Prop)(h:(zbr (ntM N 0)).rep σ w b D): ∃v μ Ds,MemOk σ μ w (ntE N v 0) Ds/\μ 0=some (.fix (.pointer (some ⟨b,0,none⟩)))/\ ∀k,D k↔ ∃i,Ds i k:=by
 obtain⟨μ1,Ds1,h1,h2,h3⟩:=h
 obtain⟨v,D2,q1,q2⟩:=memE_of hk hrs h1
 exact⟨v,_,D2,q1,(if_pos (Nat.zero_le _)).trans h2,fun k=>(h3 k).trans (q2 k).symm⟩
theorem zkD{N:Nt}{v:Nat->Nat}{g:Nat}(hrs:N.rs.length=N.ib.length)(σ:zaL)(w:World)(b:Nat)(μ:zaJ)(Ds:Nat->Nat->Prop)(h:MemOk σ μ w (ntE N v g) Ds)(h0:μ 0=some (.fix (.pointer (some ⟨b,0,none⟩)))):(zbr (ntM N 0)).rep σ w b (fun k=> ∃i,Ds i k):=by
 obtain⟨μ',D,q1,q2,q3⟩:=memM_of hrs h
 exact⟨μ',D,q1,q2.trans h0,fun k=>(q3 k).symm⟩
theorem fn_E{f:FuncId}{args:List AV}{ret:AV}{N N':Nt}{g k n d e n' d' e':Nat}(hk:1<=k)(hN:N.ok k n d e)(hN':N'.ok k n' d' e')(hF: ∀v,Fn Tryz.prog f (.box 0 0::args) (ntE N v 0) ret (ntE N' v g))(ha:args.all AV.free=true)(hr:ret.free=true):Fn Tryz.prog f (.box 0 0::args) [ntO N] ret [ntO N']:=
 zoY (fun _=>0) (zna (by rw[hN.ib];exact hk) (by rw[hN.ib,hN.rs])) (fun v=>zkD (by rw[hN'.ib,hN'.rs])) hF ha hr
def ntX(N:Nt)(v:Nat->Nat):Res:=.obj (zbr (ntE N v 0))
theorem fn_X{f:FuncId}{args:List AV}{ret:AV}{N N':Nt}{v:Nat->Nat}(hF:Fn Tryz.prog f (.box 0 0::args) (ntE N v 0) ret (ntE N' v 0))(ha:args.all AV.free=true)(hr:ret.free=true):Fn Tryz.prog f (.box 0 0::args) [ntX N v] ret [ntX N' v]:=
 zoY (ι:=Unit) () (fun σ w b D ⟨μ,Ds,h1,h2,h3⟩=>⟨(),μ,Ds,h1,h2,h3⟩) (fun _ σ w b μ Ds h h0=>⟨μ,Ds,h,h0,fun k=>Iff.rfl⟩) (fun _=>hF) ha hr
theorem zhL{σ:zaL}{μ:zaJ}{w:World}{mem:List Res}{Ds:Nat->Nat->Prop}(h:MemOk σ μ w mem Ds){q:Nat}{r:Res}(hr:q<mem.length->ROk σ μ w q (Ds q) r):MemOk σ μ w (mem.set q r) Ds:=by
 refine⟨fun id s hs=>?_,h.apart,fun id hid=>h.out id (by rwa [List.length_set] at hid)⟩
 rw[List.getElem?_set] at hs
 by_cases e:q=id
 ·subst e
  rw[if_pos rfl] at hs
  split at hs
  ·rename_i hlt
   obtain rfl:=Option.some.inj hs
   exact hr hlt
  ·cases hs
 ·rw[if_neg e] at hs
  exact h.ok id s hs
theorem to_ntX{k:Nat}{fr:List (Nat×AV)}{mem:List Res}{y:AS->Prop}(q:Nat){N:Nt}(hq:mem[q]? =some (ntO N))(hk:1<=N.ib.length)(hrs:N.rs.length=N.ib.length)(hy: ∀v,y ⟨fr,mem.set q (ntX N v)⟩):AS.to k ⟨fr,mem⟩ y:=by
 intro n fp w0 σ μ Ds a w hk' hr
 obtain⟨b,hb,hrep⟩:=hr.mem.ok q _ hq
 obtain⟨v,μ1,Ds1,h1,h2,h3⟩:=zna hk hrs σ w b _ hrep
 exact⟨_,σ,μ,Ds,hy v,hr.defers,hr.size,hr.frame,hr.agree,zhL hr.mem (fun _=>⟨b,hb,μ1,Ds1,h1,h2,h3⟩),hr.own,hr.keeps,hr.old,hr.mono,hr.gle,hr.kout,by rw[List.length_set];exact hr.klen⟩
theorem le_ntX{k:Nat}{fr:List (Nat×AV)}{mem:List Res}(q:Nat){N:Nt}{v:Nat->Nat}(hq:mem[q]? =some (ntX N v))(hrs:N.rs.length=N.ib.length):AS.le k ⟨fr,mem⟩ ⟨fr,mem.set q (ntO N)⟩:=by
 intro n fp w0 σ μ Ds a w hk hr
 refine⟨σ,μ,Ds,hr.defers,hr.size,hr.frame,hr.agree,zhL hr.mem (fun _=>?_),hr.own,hr.keeps,hr.old,hr.mono,hr.gle,hr.kout,by rw[List.length_set];exact hr.klen⟩
 obtain⟨b,hb,μ1,Ds1,h1,h2,h3⟩:=hr.mem.ok q _ hq
 have:=zkD hrs σ w b μ1 Ds1 h1 h2
 rw[show (fun k=> ∃i,Ds1 i k)=Ds q from funext fun k=>propext (h3 k).symm] at this
 exact⟨b,hb,this⟩
theorem cutX{k id:Nat}{x:(AS->Prop)->AS->Prop}{y:AS->Prop}{A:AS}(B:(Nat->Nat)->AS)(hy: ∀v,y (B v))(hx:(∀v,y (B v))-> ∀Z:AS->Prop,(∀A',AS.to k A' y->Z A')->x Z A):StopSeq k id x y A:=.mkE (hx hy _ (fun _ h=>h))
theorem fn_atP{P:Program}{f:FuncId}{args:List AV}{r:AV}{p p':OPred}{m:List Res}{j:Nat}(hF:Fn P f args [.obj p] r [.obj p'])(hj:m[j]? =some (.obj p))(ha:args.all AV.free=true)(hr:r.free=true):
  Fn P f args [.obj (zbr m)] r [.obj (zbr (m.set j (.obj p')))]:=by
 refine⟨hF.1,fun w σ μ Ds vs hag hmem hlen hargs=>?_⟩
 obtain⟨b,hb,μ1,Ds1,hm1,h10,hD1⟩:=hmem.ok 0 _ rfl
 obtain⟨c,hc,hpc⟩:=hm1.ok j _ hj
 have hjlt:j<m.length:=(List.getElem?_eq_some_iff.1 hj).1
 have hm2:MemOk σ (fun i=>if i=0 then some (.fix (.pointer (some ⟨c,0,none⟩))) else none) w [.obj p] (fun i k=>i=0/\Ds1 j k):=by
  refine⟨fun id q hq=>?_,fun i i' k h1 h2=>h1.1.trans h2.1.symm,fun id hid=>?_⟩
  ·cases id with
   |zero=>
    simp only[List.getElem?_cons_zero,Option.some.injEq] at hq
    subst hq
    refine⟨c,rfl,?_⟩
    have e:(fun k=>0=0/\Ds1 j k)=Ds1 j:=by funext k;simp
    show p.rep σ w c (fun k=>0=0/\Ds1 j k)
    rw[e];exact hpc
   |succ i=>simp at hq
  ·exact Y68
 refine (hF.2 w σ _ _ vs hag hm2 hlen (fun i av y h1 h2=>(hargs i av y h1 h2).free (List.all_eq_true.1 ha av (List.mem_of_getElem? h1)))).mono ?_
 rintro e w' ⟨x,σ',μE,DE,rfl,hpost⟩
 have hfp: ∀k,(∃id,id=0/\Ds1 j k)->Ds1 j k:=fun k ⟨_,_,h⟩=>h
 have hDj: ∀k,Ds1 j k-> ∃id,Ds id k:=fun k h=>⟨0,(hD1 k).2 ⟨j,h⟩⟩
 obtain⟨c1,g1,g2⟩:=hpost.mem.ok 0 _ rfl
 obtain⟨a',q1,q2⟩:=hpost.gle 0 (.fix (.pointer (some ⟨c,0,none⟩))) rfl
 rw[g1] at q1
 obtain rfl:=Option.some.inj q1
 obtain rfl:c1=c:=by
  simp only[An.le,Value.pointer.injEq,Option.some.injEq] at q2
  have:=congrArg Addr.block q2
  exact this
 have hlive: ∀q k,Ds1 q k->k<w.heap.size:=fun q k h=>hm1.live h
 let D2:Nat->Nat->Prop:=fun q=>if q=j then DE 0 else Ds1 q
 have hown: ∀k,DE 0 k->w.heap.size<=k\/Ds1 j k:=fun k h=>(hpost.own 0 k h).imp (fun g=>g) (hfp k)
 have hnew:MemOk σ' μ1 w' (m.set j (.obj p')) D2:=by
  refine⟨fun id q hq=>?_,fun i i' k h1 h2=>?_,fun id hid=>?_⟩
  ·rw[List.getElem?_set] at hq
   by_cases e:j=id
   ·subst e
    rw[if_pos rfl,if_pos hjlt] at hq
    obtain rfl:=Option.some.inj hq
    simp only[D2,if_true]
    exact⟨c1,hc,g2⟩
   ·rw[if_neg e] at hq
    simp only[D2,if_neg (fun g:id=j=>e g.symm)]
    have hne: ∀k,Ds1 id k-> ¬ ∃id',id'=0/\Ds1 j k:=fun k h g=>e (hm1.apart j id k (hfp k g) h)
    exact (hm1.ok id q hq).ext rfl (Gle.refl _) (fun k hk=>⟨hpost.keeps.block k (hlive id k hk) (hne k hk),fun o=>hpost.old k o (hlive id k hk) (hne k hk)⟩) hpost.mono
  ·simp only[D2] at h1 h2
   split at h1<;>split at h2
   ·rename_i e1 e2;rw[e1,e2]
   ·rename_i e1 e2
    rcases hown k h1 with g|g
    ·have:=hlive _ _ h2;omega
    ·exact e1.trans (hm1.apart j i' k g h2)
   ·rename_i e1 e2
    rcases hown k h2 with g|g
    ·have:=hlive _ _ h1;omega
    ·exact (hm1.apart i j k h1 g).trans e2.symm
   ·exact hm1.apart i i' k h1 h2
  ·rw[List.length_set] at hid
   refine⟨(hm1.out id hid).1,fun k hk=>?_⟩
   simp only[D2] at hk
   rw[if_neg (by omega)] at hk
   exact (hm1.out id hid).2 k hk
 refine⟨x,σ',μ,fun i k=>i=0/\ ∃q,D2 q k,rfl,⟨hpost.rep.free hr,⟨fun id q hq=>?_,fun i i' k h1 h2=>h1.1.trans h2.1.symm,fun id hid=>?_⟩,Gle.refl _,hpost.agree,⟨hpost.keeps.os,hpost.keeps.tape,hpost.keeps.output,hpost.keeps.size,fun k hk hno=>hpost.keeps.block k hk (fun h=>hno (hDj k (hfp k h)))⟩,fun c o hc hno=>hpost.old c o hc (fun h=>hno (hDj c (hfp c h))),hpost.mono,fun id k hk=>?_⟩⟩
 ·cases id with
  |zero=>
   simp only[List.getElem?_cons_zero,Option.some.injEq] at hq
   subst hq
   exact⟨b,hb,μ1,D2,hnew,h10,fun k=>⟨fun h=>h.2,fun h=>⟨rfl,h⟩⟩⟩
  |succ i=>simp at hq
 ·refine⟨(hmem.out id (by simpa using hid)).1,fun k hk=>?_⟩
  simp only[List.length_singleton] at hid
  omega
 ·obtain⟨q,hq⟩:=hk.2
  simp only[D2] at hq
  split at hq
  ·exact (hown k hq).imp (fun h=>h) (hDj k)
  ·exact .inr ⟨0,(hD1 k).2 ⟨q,hq⟩⟩
theorem zoW{f:FuncId}{args:List AV}{ret:AV}{N:Nt}{r:Rt}{i:Nat}(hF:Fn Tryz.prog f (.box 0 0::args) [rtO r] ret [rtO r])(hr:N.rs[i]? =some r)(hrs:N.rs.length=N.ib.length)(v:Nat->Nat)(ha:args.all AV.free=true)(hf:ret.free=true):Fn Tryz.prog f (.v (.pointer (some ⟨v i,0,none⟩))::args) [ntX N v] ret [ntX N v]:=by
 have hi:i<N.ib.length:=by have:=(List.getElem?_eq_some_iff.1 hr).1;omega
 have h:=ze4 hF hr (zbY (v:=v) hi) ha hf
 rw[zhr hr] at h
 have h2:=fn_atP (m:=ntE N v 0) (j:=5) h rfl (by rw[List.all_cons,ha];rfl) hf
 have e:(ntE N v 0).set 5 (famR (xsV v N.ib.length) N.rs)=ntE N v 0:=rfl
 rw[show (.obj (famP (xsV v N.ib.length) (N.rs.map fun r=>zbr (rtM r 0))):Res)=famR (xsV v N.ib.length) N.rs from rfl,e] at h2
 exact h2
section
variable {k n d e:Nat} {N:Nt}
theorem zhp(hk:1<=k/\k<=6)(hN:N.ok k n d e)(v:Nat->Nat)(i:Int)(hi:1<=i/\i<=k):Fn Tryz.prog 12 [.box 0 0,.v (.int .i64 i)] (ntE N v 0) (.tup [.v (.pointer (some ⟨v (i-1).toNat,0,none⟩)),.err 0]) (ntE N v 0):=by
 obtain⟨rs,cs,mt,ib⟩:=N
 have l2:=hN.ib
 dsimp only at l2
 have hrow:=zah (v:=v) (k:=k) (j:=(i-1).toNat) (by omega)
 clear hN
 rcases (by omega:k=1\/k=2\/k=3\/k=4\/k=5\/k=6) with rfl|rfl|rfl|rfl|rfl|rfl
 all_goals
  first|obtain⟨b0,rfl⟩:=len1 l2|obtain⟨b0,b1,rfl⟩:=len2 l2|obtain⟨b0,b1,b2,rfl⟩:=len3 l2|obtain⟨b0,b1,b2,b3,rfl⟩:=len4 l2|obtain⟨b0,b1,b2,b3,b4,rfl⟩:=len5 l2|obtain⟨b0,b1,b2,b3,b4,b5,rfl⟩:=len6 l2
  simp only[ntE,rowsI,resI,List.length_cons,List.length_nil,Nat.zero_add,Nat.reduceAdd]
  refine foL zaA [] [] Tryz.func12 Tryz.ntmps12 Tryz.results12 ?_
  (all_goals refine fx ?_;repeat' first|exact .intro|refine Tw.mk ?_ ?_|(intro h;first|replace h:=h.o|cases h))
  all_goals (try (exfalso;omega))
  all_goals exact Y16
end
def ntP(N:Nt)(v:Nat->Nat)(g i q:Nat):List Res:=
 .cells [.arr 1 0 N.ib.length,.arr 2 0 N.cs.length,.arr 3 0 N.mt.length,.arr 4 0 N.ib.length]::.arr false 45 1 0 ((zhB v N.ib.length).set i [.box q 0])::.arr true 91 8 0 (N.cs.map zaw)::.arr true 88 1 0 (N.mt.map mtRow)::.arr false 63 1 0 (rowsI 6 g N.ib)::famR (xsV v N.ib.length) N.rs::resI g N.ib
theorem memP_of{σ:zaL}{μ:zaJ}{w:World}{Ds:Nat->Nat->Prop}{N:Nt}{v:Nat->Nat}{g i q:Nat}{rest:List Res}{r':Rt}(hrs:N.rs.length=N.ib.length)(hi:i<N.ib.length)(hq:6+N.ib.length<=q)(hr:(ntP N v g i q++rest)[q]? =some (rtO r'))(h:MemOk σ μ w (ntP N v g i q++rest) Ds):
  ∃v' D,MemOk σ (fun id=>if id<6+N.ib.length then μ id else none) w (ntE ⟨N.rs.set i r',N.cs,N.mt,N.ib⟩ v' g) D/\ ∀id b,D id b-> ∃j,Ds j b:=by
 generalize hK:N.ib.length=k at *
 have hlen:(ntP N v g i q).length=6+k:=by unfold ntP;simp only[List.length_cons,resI_len,hK];omega
 have hm: ∀id (x:Res),id<6+k->(ntP N v g i q)[id]? =some x->ROk σ μ w id (Ds id) x:=fun id x hid hx=>h.ok id x (by rw[List.getElem?_append_left (by rw[hlen];exact hid)];exact hx)
 obtain⟨bq,hbq,hrq⟩:=h.ok q _ hr
 obtain⟨c5,h50,E,hEl,hE⟩:=hm 5 (famR (xsV v N.ib.length) N.rs) (by omega) rfl
 rw[hK] at hE
 let v':Nat->Nat:=fun j=>if j=i then bq else v j
 let D:Nat->Nat->Prop:=fun id b=>if id=5 then (∃j,(if j=i then Ds q b else E j b)) else if id<6+k then Ds id b else False
 have hμ: ∀id,id<6+k->(if id<6+k then μ id else none)=μ id:=fun id h=>if_pos h
 have hD: ∀id,id<6+k->id≠5->D id=Ds id:=fun id h1 h2=>by
  funext b
  show (if id=5 then _ else if id<6+k then Ds id b else False)=_
  rw[if_neg h2,if_pos h1]
 have hE5: ∀j b,E j b->Ds 5 b:=fun j b hj=>(hE.all b).2 ⟨j,hj⟩
 have hEk: ∀j b,E j b->j<k:=fun j b hj=>by have:=hE.out j b hj;rw[List.length_map] at this;omega
 refine⟨v',D,⟨fun id x hx=>?_,fun a b c h1 h2=>?_,fun id hid=>?_⟩,fun id b hb=>?_⟩
 ·match id,hx with
  |0,hx=>
   simp only[ntE,List.getElem?_cons_zero,Option.some.injEq] at hx
   subst hx
   rw[hD 0 (by omega) (by decide)]
   exact zfy (hm 0 _ (by omega) rfl) (hμ 0 (by omega)) (hμ 1 (by omega)) (hμ 2 (by omega)) (hμ 3 (by omega)) (hμ 4 (by omega))
  |1,hx=>
   simp only[ntE,List.getElem?_cons_succ,List.getElem?_cons_zero,Option.some.injEq,hK] at hx
   subst hx
   rw[hD 1 (by omega) (by decide)]
   obtain⟨ao,cap,xs,h1,h2,h3,h4,h5,h6⟩:=hm 1 (.arr false 45 1 0 ((zhB v N.ib.length).set i [.box q 0])) (by omega) rfl
   rw[List.length_set,prows_len,hK] at h1 h2
   refine⟨ao,cap,xs,by rw[prows_len];exact (hμ 1 (by omega)).trans h1,by rw[prows_len];exact h2,fun r hr=>?_,fun j p r av g1 g2=>?_,h5,h6⟩
   ·obtain⟨j,_,rfl⟩:=List.mem_map.1 hr
    rfl
   ·have hj:j<k:=by have:=(List.getElem?_eq_some_iff.1 g1).1;rw[prows_len] at this;exact this
    rw[zah hj] at g1
    obtain rfl:=Option.some.inj g1
    cases p with
    |succ p=>simp at g2
    |zero=>
     simp only[List.getElem?_cons_zero,Option.some.injEq] at g2
     subst g2
     by_cases e:i=j
     ·subst e
      obtain⟨y,y1,y2,y3⟩:=h4 i 0 [.box q 0] (.box q 0) (by rw[hK,List.getElem?_set,if_pos rfl,if_pos (by rw[prows_len];exact hj)]) rfl
      refine⟨y,y1,?_,y3⟩
      rw[zoq y2 hbq,show v' i=bq from if_pos rfl]
      exact .v _ _
     ·obtain⟨y,y1,y2,y3⟩:=h4 j 0 [.v (.pointer (some ⟨v j,0,none⟩))] (.v (.pointer (some ⟨v j,0,none⟩))) (by rw[hK,List.getElem?_set,if_neg e];exact zah hj) rfl
      refine⟨y,y1,?_,y3⟩
      rw[y2.inv_v,show v' j=v j from if_neg (fun h=>e h.symm)]
      exact .v _ _
  |2,hx=>
   simp only[ntE,List.getElem?_cons_succ,List.getElem?_cons_zero,Option.some.injEq] at hx
   subst hx
   rw[hD 2 (by omega) (by decide)]
   exact zcE (hm 2 _ (by omega) rfl) (hμ 2 (by omega))
  |3,hx=>
   simp only[ntE,List.getElem?_cons_succ,List.getElem?_cons_zero,Option.some.injEq] at hx
   subst hx
   rw[hD 3 (by omega) (by decide)]
   exact zcE (hm 3 _ (by omega) rfl) (hμ 3 (by omega))
  |4,hx=>
   simp only[ntE,List.getElem?_cons_succ,List.getElem?_cons_zero,Option.some.injEq] at hx
   subst hx
   rw[hD 4 (by omega) (by decide)]
   exact ib_ren (hm 4 _ (by omega) rfl) (hμ 4 (by omega)) (fun j hj=>hμ (6+j) (by omega))
  |5,hx=>
   simp only[ntE,List.getElem?_cons_succ,List.getElem?_cons_zero,Option.some.injEq,hK] at hx
   subst hx
   refine⟨c5,(hμ 5 (by omega)).trans h50,fun j=>if j=i then Ds q else E j,by rw[ziW,List.length_map,List.length_set,hrs],⟨fun j x p hx hp=>?_,fun a b c h1 h2=>?_,fun b=>?_,fun j b hj=>?_⟩⟩
   ·have hjk:j<k:=by have:=(List.getElem?_eq_some_iff.1 hx).1;rw[ziW] at this;exact this
    rw[zbY hjk] at hx
    obtain rfl:=Option.some.inj hx
    rw[List.getElem?_map,List.getElem?_set] at hp
    by_cases e:i=j
    ·subst e
     rw[if_pos rfl,if_pos (by omega)] at hp
     obtain rfl:=Option.some.inj hp
     refine⟨bq,by rw[show v' i=bq from if_pos rfl],?_⟩
     rw[if_pos rfl];exact hrq
    ·rw[if_neg e] at hp
     obtain⟨b,hb1,hb2⟩:=hE.one j (.pointer (some ⟨v j,0,none⟩)) p (zbY hjk) (by rw[List.getElem?_map];exact hp)
     refine⟨b,by rw[show v' j=v j from if_neg (fun h=>e h.symm)];exact hb1,?_⟩
     rw[if_neg (fun h=>e h.symm)];exact hb2
   ·split at h1<;>split at h2
    ·rename_i e1 e2;rw[e1,e2]
    ·have:=h.apart _ _ c h1 (hE5 _ _ h2);omega
    ·have:=h.apart _ _ c h2 (hE5 _ _ h1);omega
    ·exact hE.apart a b c h1 h2
   ·show (if 5=5 then ∃j,(if j=i then Ds q b else E j b) else _)↔_
    rw[if_pos rfl]
    exact⟨fun ⟨j,hj⟩=>⟨j,by split at hj<;>(rename_i e;first|(rw[if_pos e];exact hj)|(rw[if_neg e];exact hj))⟩,fun ⟨j,hj⟩=>⟨j,by split at hj<;>(rename_i e;first|(rw[if_pos e];exact hj)|(rw[if_neg e];exact hj))⟩⟩
   ·rw[List.length_map,List.length_set,hrs]
    split at hj
    ·rename_i e;omega
    ·exact hEk j b hj
  |j+6,hx=>
   rw[show j+6=6+j by omega] at hx ⊢
   rw[ntE_i,resI_get] at hx
   obtain⟨l,hl,rfl⟩:=Option.map_eq_some_iff.1 hx
   have hj:j<k:=by have:=(List.getElem?_eq_some_iff.1 hl).1;simp only at this;omega
   rw[hD (6+j) (by omega) (by omega)]
   refine zcE (hm (6+j) _ (by omega) ?_) (hμ (6+j) (by omega))
   unfold ntP
   rw[show 6+j=j+1+1+1+1+1+1 by omega]
   simp only[List.getElem?_cons_succ]
   rw[resI_get,hl];rfl
 ·have key: ∀id b,D id b->(id=5/\(Ds q b\/Ds 5 b))\/(id≠5/\id<6+k/\Ds id b):=fun id b hd=>by
   simp only[D] at hd
   split at hd
   ·rename_i e
    obtain⟨j,hj⟩:=hd
    split at hj
    ·exact .inl ⟨e,.inl hj⟩
    ·exact .inl ⟨e,.inr (hE5 _ _ hj)⟩
   ·split at hd
    ·exact .inr ⟨by assumption,by assumption,hd⟩
    ·exact hd.elim
  rcases key a c h1 with⟨a1,a2⟩|⟨a1,a2,a3⟩<;>rcases key b c h2 with⟨b1,b2⟩|⟨b1,b2,b3⟩
  ·omega
  ·rcases a2 with a2|a2
   ·have:=h.apart _ _ c a2 b3;omega
   ·have:=h.apart _ _ c a2 b3;omega
  ·rcases b2 with b2|b2
   ·have:=h.apart _ _ c a3 b2;omega
   ·have:=h.apart _ _ c a3 b2;omega
  ·exact h.apart a b c a3 b3
 ·rw[zes] at hid
  simp only[hK] at hid
  refine⟨if_neg (by omega),fun b hb=>?_⟩
  simp only[D] at hb
  rw[if_neg (by omega),if_neg (by omega)] at hb
  exact hb
 ·simp only[D] at hb
  split at hb
  ·obtain⟨j,hj⟩:=hb
   split at hj
   ·exact⟨q,hj⟩
   ·exact⟨5,hE5 _ _ hj⟩
  ·split at hb
   ·exact⟨id,hb⟩
   ·exact hb.elim
def frOk(fr:List (Nat×AV)):Prop:= ∀p∈fr,p.2.free=true\/p.2=.box 0 0
theorem look_mem{fr:List (Nat×AV)}{t:Nat}{av:AV}(h:look fr t=some av): ∃p∈fr,p.2=av:=by
 induction fr with
 |nil=>cases h
 |cons p fr ih=>
  obtain⟨u,x⟩:=p
  simp only[look] at h
  split at h
  ·exact⟨(u,x),List.mem_cons_self .., Option.some.inj h⟩
  ·obtain⟨q,h1,h2⟩:=ih h
   exact⟨q,List.mem_cons_of_mem _ h1,h2⟩
theorem Rel.swap{n:Nat}{fp:Nat->Prop}{w0:Start}{σ:zaL}{μ μ':zaJ}{Ds D':Nat->Nat->Prop}{fr:List (Nat×AV)}{mem mem':List Res}{a:Act}{w:World}(hr:Rel n fp w0 σ μ Ds ⟨fr,mem⟩ a w)(hk:w0.k=1)(hm:MemOk σ μ' w mem' D')(h0:μ' 0=μ 0)(hD: ∀id b,D' id b-> ∃j,Ds j b)(hfr:frOk fr)(hl:1<=mem'.length):Rel n fp w0 σ μ' D' ⟨fr,mem'⟩ a w:=by
 refine⟨hr.defers,hr.size,fun t av ht=>?_,hr.agree,hm,fun id b hb=>?_,hr.keeps,hr.old,hr.mono,fun i x hi=>?_,hr.kout,by rw[hk];exact hl⟩
 ·have hx:=hr.frame t av ht
  obtain⟨p,hp,rfl⟩:=look_mem ht
  rcases hfr p hp with g|g
  ·exact hx.free g
  ·rw[g] at hx ⊢
   obtain⟨b,e,hb⟩:=hx.inv_box
   rw[e]
   exact .box _ 0 0 b (h0.trans hb)
 ·obtain⟨j,hj⟩:=hD id b hb
  exact hr.own j b hj
 ·have hi0:i=0:=by
   rcases Nat.eq_zero_or_pos i with g|g
   ·exact g
   ·have:=hr.kout i (by omega)
    rw[this] at hi;cases hi
  subst hi0
  obtain⟨a',h1,h2⟩:=hr.gle 0 x hi
  exact⟨a',h0.trans h1,h2⟩
theorem to_unE{fr:List (Nat×AV)}{y:AS->Prop}{N:Nt}(hk:1<=N.ib.length)(hrs:N.rs.length=N.ib.length)(hfr:frOk fr)(hy: ∀v,y ⟨fr,ntE N v 0⟩):AS.to 1 ⟨fr,[ntO N]⟩ y:=by
 intro n fp w0 σ μ Ds a w hk' hr
 obtain⟨b,hb,hrep⟩:=hr.mem.ok 0 _ rfl
 obtain⟨v,μ1,Ds1,h1,h2,h3⟩:=zna hk hrs σ w b _ hrep
 exact⟨_,σ,μ1,Ds1,hy v,hr.swap hk' h1 (h2.trans hb.symm) (fun id c hc=>⟨0,(h3 c).2 ⟨id,hc⟩⟩) hfr (by rw[zes];omega)⟩
theorem to_put{fr:List (Nat×AV)}{y:AS->Prop}{N:Nt}{v:Nat->Nat}{g i q:Nat}{rest:List Res}{r':Rt}(hrs:N.rs.length=N.ib.length)(hi:i<N.ib.length)(hq:6+N.ib.length<=q)(hr:(ntP N v g i q++rest)[q]? =some (rtO r'))(hfr:frOk fr)
  (hy: ∀v',y ⟨fr,ntE ⟨N.rs.set i r',N.cs,N.mt,N.ib⟩ v' g⟩):AS.to 1 ⟨fr,ntP N v g i q++rest⟩ y:=by
 intro n fp w0 σ μ Ds a w hk' h
 obtain⟨v',D,h1,h2⟩:=memP_of hrs hi hq hr h.mem
 exact⟨_,σ,_,D,hy v',h.swap hk' h1 (if_pos (by omega)) h2 hfr (by rw[zes];omega)⟩
theorem le_pkE{fr:List (Nat×AV)}{N:Nt}{v:Nat->Nat}{g:Nat}(hrs:N.rs.length=N.ib.length)(hfr:frOk fr):AS.le 1 ⟨fr,ntE N v g⟩ ⟨fr,[ntO N]⟩:=by
 intro n fp w0 σ μ Ds a w hk' h
 obtain⟨c,cs,T,hc,_⟩:=h.mem.ok 0 (.cells [.arr 1 0 N.ib.length,.arr 2 0 N.cs.length,.arr 3 0 N.mt.length,.arr 4 0 N.ib.length]) rfl
 have hrep:=zkD hrs σ w c μ Ds h.mem hc
 refine⟨σ,fun i=>if i=0 then μ 0 else none,fun i k=>i=0/\ ∃j,Ds j k,h.swap hk' ⟨fun id r hr=>?_,fun i j k hi hj=>hi.1.trans hj.1.symm,fun id hid=>?_⟩ rfl (fun id b hb=>hb.2) hfr (Nat.le_refl _)⟩
 ·cases id with
  |zero=>
   simp only[List.getElem?_cons_zero,Option.some.injEq] at hr
   subst hr
   refine⟨c,by simp only[if_true];exact hc,?_⟩
   have e:(fun k=>0=0/\ ∃j,Ds j k)=fun k=> ∃j,Ds j k:=by funext k;simp
   show (zbr (ntM N 0)).rep σ w c (fun k=>0=0/\ ∃j,Ds j k)
   rw[e];exact hrep
  |succ i=>simp at hr
 ·exact Y68
end Go.Proofs.YtimfnpjcedjmiadGreat
namespace Go.Proofs.YtimfnpjcedjmiadGreat
noncomputable def woN:Nat->Nt
 |0=>zbI (newN 2 [⟨1,0,2,0,3⟩]) 0 true
 |n+1=>zeZ (woN n)
theorem wo_check:zcm 2 [⟨1,0,2,0,3⟩]=0:=by decide+kernel
theorem wo_plug:zfQ (newN 2 [⟨1,0,2,0,3⟩]) 0 true=0:=by decide+kernel
theorem wo_sts:(stsB ((woN 6).rt 2).b).map (fun x=>(x.1,x.2.2))=[(1,[(2,3)]),(2,[(1,3)])]:=by decide+kernel
theorem wo_id:((woN 6).rt 2).id=2:=by decide+kernel
theorem znw:(newN 2 [⟨1,0,2,0,3⟩]).inv 2 0 0:=zn0 (by decide) (fun c hc=>by
 rw[List.mem_singleton.1 hc]
 exact⟨by decide,by decide,by decide,by decide,by decide⟩) (by decide)
theorem zng: ∀n,(woN n).inv 2 (432000*n) (780+230000000*n)
 |0=>(zbq znw 0 true).up (by omega) (by omega)
 |n+1=>(zge (zng n) (by decide)).up (by omega) (by omega)
theorem znb(s1 s2 a b:Int)(ha:nod a)(hb:nod b):met [(1,s1,[(2,3)]),(2,s2,[(1,3)])] a b=if (a=1/\b=2)\/(a=2/\b=1) then 3 else 0:=by
 unfold nod at ha hb
 rcases (by omega:a=1\/a=2\/a=3\/a=4\/a=5\/a=6) with rfl|rfl|rfl|rfl|rfl|rfl<;>
 rcases (by omega:b=1\/b=2\/b=3\/b=4\/b=5\/b=6) with rfl|rfl|rfl|rfl|rfl|rfl<;>rfl
theorem znd{s1 s2 n d f:Int}(h:Wk (met [(1,s1,[(2,3)]),(2,s2,[(1,3)])]) 2 n d f):(n=1\/n=2)/\f=1/\3<=d:=by
 induction h with
 |one hn hm=>
  rw[znb _ _ _ _ (by unfold nod;omega) hn] at hm ⊢
  split at hm
  ·rename_i g;rw[if_pos g];omega
  ·omega
 |step h hn hm ih=>
  rw[znb _ _ _ _ h.nod.1 hn] at hm ⊢
  split at hm
  ·rename_i g;rw[if_pos g];omega
  ·omega
theorem wo_hops{l:List St3}(h:l.map (fun x=>(x.1,x.2.2))=[(1,[(2,3)]),(2,[(1,3)])]):zdD l 2=[(1,3,1)]:=by
 obtain⟨s1,s2,rfl⟩: ∃s1 s2,l=[(1,s1,[(2,3)]),(2,s2,[(1,3)])]:=by
  match l,h with
  |[(a,s1,x),(b,s2,y)],h=>
   simp only[List.map_cons,List.map_nil,List.cons.injEq,Prod.mk.injEq,and_true] at h
   obtain⟨⟨rfl,rfl⟩,rfl,rfl⟩:=h
   exact⟨s1,s2,rfl⟩
 have hB:Best (met [(1,s1,[(2,3)]),(2,s2,[(1,3)])]) 2 1 3 1:=by
  refine⟨by decide,?_,fun d' f' g=>?_⟩
  ·have hm:=znb s1 s2 2 1 (by unfold nod;omega) (by unfold nod;omega)
   rw[if_pos (by decide)] at hm
   have:=Wk.one (M:=met [(1,s1,[(2,3)]),(2,s2,[(1,3)])]) (r:=2) (n:=1) (by unfold nod;omega) (by rw[hm];decide)
   rw[hm] at this
   exact this
  ·have:=znd g
   unfold lx;omega
 have hN: ∀n:Int,3<=n->hopV (met [(1,s1,[(2,3)]),(2,s2,[(1,3)])]) 2 n=none:=fun n hn=>zj4 fun d f g=>by have:=znd g;omega
 have h1:=zib hB
 have h2:=zj7 (M:=met [(1,s1,[(2,3)]),(2,s2,[(1,3)])]) (r:=2)
 unfold zdD
 rw[if_pos (by decide)]
 simp only[hopsM,hopsTo,zkB]
 simp only[show ((0:Nat):Int)+1=1 from rfl,show ((1:Nat):Int)+1=2 from rfl,show ((2:Nat):Int)+1=3 from rfl,show ((3:Nat):Int)+1=4 from rfl,show ((4:Nat):Int)+1=5 from rfl,show ((5:Nat):Int)+1=6 from rfl,h1,h2,hN 3 (by decide),hN 4 (by decide),hN 5 (by decide),hN 6 (by decide),List.nil_append,List.append_nil]
def CsE(N Q:Nt):Prop:=Q.cs.length=N.cs.length/\ ∀(j:Nat) (c:Cb),N.cs[j]? =some c-> ∃d,Q.cs[j]? =some d/\Ends c d
theorem CsE.refl(N:Nt):CsE N N:=⟨rfl,fun j c h=>⟨c,h,rfl,rfl,rfl,rfl,rfl,rfl⟩⟩
theorem CsE.trans{A B C:Nt}(h:CsE A B)(g:CsE B C):CsE A C:=⟨g.1.trans h.1,fun j c hc=>by
 obtain⟨d,hd,e⟩:=h.2 j c hc
 obtain⟨x,hx,f⟩:=g.2 j d hd
 exact⟨x,hx,f.1.trans e.1,f.2.1.trans e.2.1,f.2.2.1.trans e.2.2.1,f.2.2.2.1.trans e.2.2.2.1,f.2.2.2.2.1.trans e.2.2.2.2.1,f.2.2.2.2.2.trans e.2.2.2.2.2⟩⟩
theorem zeb{k n d e:Nat}{N:Nt}(h:N.ok k n d e):CsE N (zbM N):=by
 have g:=zit h
 have f:=(zc4 N).1
 refine⟨by rw[f];exact g.cl,fun j c hc=>?_⟩
 obtain⟨x,hx,he,_⟩:=g.cs j c hc
 exact⟨x,by rw[f];exact hx,he⟩
theorem zdg(N:Nt)(i:Int)(F:Rt->Rt):CsE N (N.onR i F):=CsE.refl N
theorem zmd{N:Nt}{i:Nat}{c c':Cb}(hc:N.cs[i]? =some c)(he:Ends c c'):CsE N { N with cs:=N.cs.set i c' }:=by
 refine⟨List.length_set .., fun j x hx=>?_⟩
 show ∃d,(N.cs.set i c')[j]? =some d/\_
 rw[zjQ hx]
 by_cases e:i=j
 ·subst e
  rw[hc] at hx
  cases hx
  exact⟨c',by rw[if_pos rfl],he⟩
 ·exact⟨x,by rw[if_neg e],rfl,rfl,rfl,rfl,rfl,rfl⟩
section
variable {k d e:Nat} {N:Nt}
theorem zk8(h:N.inv k d e)(i:Int):CsE N (zc6 N i):=by
 unfold zc6
 split
 ·have h1:=zas h.ok (m:=6630) (f:=d) (by omega) (Nat.le_refl _) i (F:=zcW) (fun r hr=>by have:=zk3 hr;rw[Nat.zero_add] at this;exact this)
  exact (zdg N i zcW).trans (zeb h1)
 ·exact CsE.refl N
theorem cse_send(h:N.inv k d e)(i to:Int)(t:ByteArray):CsE N (zgs N i to t):=by
 unfold zgs
 split
 ·have h1:=zas h.ok (m:=6630) (f:=d+1) (by omega) (by omega) i (F:=fun r=>zcY r to t) (fun r hr=>by have:=zhd hr to t;rw[Nat.zero_add] at this;exact this)
  exact (zdg N i _).trans (zeb h1)
 ·exact CsE.refl N
theorem zja(h:N.inv k d e)(i way many:Int):CsE N (ndel N i way many):=by
 unfold ndel
 split
 ·exact CsE.refl N
 ·split
  ·exact CsE.refl N
  ·rename_i c hcb
   obtain⟨h0,hc⟩:=zdG hcb
   have hco:=h.ok.c c (getq hc)
   split
   ·have hlen:(c.w1.take (delK many c.w1)).length<=2000:=Nat.le_trans (List.length_take_le' ..) hco.w1
    have k1:=zdr h.ok i.toNat (c:={ c with w1:=c.w1.drop (delK many c.w1) }) ⟨hco.a,hco.pa,hco.b,hco.pb,hco.w0,by show (c.w1.drop _).length<=_;rw[List.length_drop];have:=hco.w1;omega⟩
    have k2:=zas k1 (m:=1040000) (f:=d+2000) (by omega) (by omega) c.a (F:=fun r=>zay r c.pa.toNat (c.w1.take (delK many c.w1))) (fun r hr=>by have:=zdA hr c.pa.toNat hlen;rw[Nat.zero_add] at this;exact this)
    exact (zmd (c':={ c with w1:=c.w1.drop (delK many c.w1) }) hc ⟨rfl,rfl,rfl,rfl,rfl,rfl⟩).trans ((zdg _ c.a _).trans (zeb k2))
   ·have hlen:(c.w0.take (delK many c.w0)).length<=2000:=Nat.le_trans (List.length_take_le' ..) hco.w0
    have k1:=zdr h.ok i.toNat (c:={ c with w0:=c.w0.drop (delK many c.w0) }) ⟨hco.a,hco.pa,hco.b,hco.pb,by show (c.w0.drop _).length<=_;rw[List.length_drop];have:=hco.w0;omega,hco.w1⟩
    have k2:=zas k1 (m:=1040000) (f:=d+2000) (by omega) (by omega) c.b (F:=fun r=>zay r c.pb.toNat (c.w0.take (delK many c.w0))) (fun r hr=>by have:=zdA hr c.pb.toNat hlen;rw[Nat.zero_add] at this;exact this)
    exact (zmd (c':={ c with w0:=c.w0.drop (delK many c.w0) }) hc ⟨rfl,rfl,rfl,rfl,rfl,rfl⟩).trans ((zdg _ c.b _).trans (zeb k2))
theorem zfd{α:Type}{f:Nt->α->Nt}(a b:Nat)(hs: ∀(N:Nt) (x:α) (d e:Nat),N.inv k d e->(f N x).inv k (d+a) (e+b))(hc: ∀(N:Nt) (x:α) (d e:Nat),N.inv k d e->CsE N (f N x)): ∀(l:List α) {N:Nt} {d e:Nat},N.inv k d e->CsE N (l.foldl f N)
 |[],N,d,e,h=>CsE.refl N
 |x::l,N,d,e,h=>(hc N x d e h).trans (zfd a b hs hc l (hs N x d e h))
theorem cse_dels(h:N.inv k d e)(j:Nat):CsE N (zh8 N j):=
 zfd (k:=k) (f:=fun q (i:Nat)=>ndel (ndel q i 0 2000) i 1 2000) 4000 2080000 (fun N x d e h=>(zdP (zdP h x 0 2000) x 1 2000).up (by omega) (by omega)) (fun N x d e h=>(zja h x 0 2000).trans (zja (zdP h x 0 2000) x 1 2000)) _ h
theorem zms(h:N.inv k d e):CsE N (zeZ N):=by
 have h1:=zeJ (k:=k) (f:=fun q (i:Nat)=>zc6 q ((i:Int)+1)) 0 6630 (fun N x d e h=>zd7 h _) (List.range N.rs.length) h
 exact (zfd (k:=k) (f:=fun q (i:Nat)=>zc6 q ((i:Int)+1)) 0 6630 (fun N x d e h=>zd7 h _) (fun N x d e h=>zk8 h _) (List.range N.rs.length) h).trans
  (zfd (k:=k) (f:=zh8) 36000 18720000 (fun N x d e h=>zki h x) (fun N x d e h=>cse_dels h x) (List.range 12) h1)
def nIn(N:Nt)(i:Int)(up:Bool):Nt:=match N.cb i with
 |none=>N
 |some c=>{ N with cs:=N.cs.set i.toNat { c with inn:=up } }
theorem zhz(h:N.inv k d e)(i:Int)(up:Bool):CsE (nIn N i up) (zbI N i up):=by
 unfold zbI nIn
 cases hcb:N.cb i with
 |none=>exact CsE.refl N
 |some c=>
  show CsE { N with cs:=N.cs.set i.toNat { c with inn:=up } } (if c.inn=up then N else zbM (zip N i.toNat c up))
  obtain⟨h0,hc⟩:=zdG hcb
  have hco:=h.ok.c c (getq hc)
  have hlt:=(List.getElem?_eq_some_iff.1 hc).1
  split
  ·rename_i hu
   have:N.cs.set i.toNat { c with inn:=up }=N.cs:=by
    rw[<-hu]
    refine List.ext_getElem? fun j=>?_
    rw[List.getElem?_set]
    split
    ·rename_i e;subst e;exact hc.symm
    ·rfl
   rw[show ({ N with cs:=N.cs.set i.toNat { c with inn:=up } }:Nt)=N from by rw[this]]
   exact CsE.refl N
  ·have k1:=zdr h.ok i.toNat (c:={ c with inn:=up,w0:=[],w1:=[] }) ⟨hco.a,hco.pa,hco.b,hco.pb,Nat.zero_le _,Nat.zero_le _⟩
   have k2:=zas k1 (m:=390) (f:=d) (by omega) (Nat.le_refl _) c.a (F:=fun r=>zak r c.pa.toNat up) (fun r hr=>by have:=zdF hr c.pa.toNat up;rw[Nat.zero_add] at this;exact this)
   have k3:=zas k2 (m:=780) (f:=d) (by omega) (Nat.le_refl _) c.b (F:=fun r=>zak r c.pb.toNat up) (fun r hr=>zdF hr c.pb.toNat up)
   have h1:CsE { N with cs:=N.cs.set i.toNat { c with inn:=up } } { N with cs:=N.cs.set i.toNat { c with inn:=up,w0:=[],w1:=[] } }:=by
    have:=zmd (N:={ N with cs:=N.cs.set i.toNat { c with inn:=up } }) (i:=i.toNat) (c:={ c with inn:=up }) (c':={ c with inn:=up,w0:=[],w1:=[] }) (by show (N.cs.set _ _)[i.toNat]? =_;rw[List.getElem?_set_self hlt]) ⟨rfl,rfl,rfl,rfl,rfl,rfl⟩
    rw[List.set_set] at this
    exact this
   exact h1.trans (((zdg _ c.a _).trans (zdg _ c.b _)).trans (zeb k3))
end
def zf1(w:List UInt8)(k:Nat)(t:UInt8):List UInt8:=w.modify k fun b=>b^^^t
theorem zj1(w:List UInt8)(k:Nat)(t:UInt8):(zf1 w k t).length=w.length:=by unfold zf1;rw[List.length_modify]
def Cb.way(c:Cb)(way:Int):List UInt8:=if way=1 then c.w1 else c.w0
def spoC(c:Cb)(way:Int)(k:Nat)(t:UInt8):Cb:=if way=1 then { c with w1:=zf1 c.w1 k t } else { c with w0:=zf1 c.w0 k t }
def zmO(n:Nt)(i way j:Int):Int:=if way<0\/1<way then 6 else match n.cb i with
 |none=>6
 |some c=>if j<0\/(c.way way).length<=j then 1 else 0
def nspo(n:Nt)(i way j:Int)(t:UInt8):Nt:=if way<0\/1<way then n else match n.cb i with
 |none=>n
 |some c=>if j<0\/(c.way way).length<=j then n else { n with cs:=n.cs.set i.toNat (spoC c way j.toNat t) }
section
variable {k d e:Nat} {N:Nt}
theorem znV(c:Cb)(way:Int)(j:Nat)(t:UInt8):(spoC c way j t).a=c.a/\(spoC c way j t).pa=c.pa/\(spoC c way j t).b=c.b/\(spoC c way j t).pb=c.pb:=by
 unfold spoC;split<;>exact⟨rfl,rfl,rfl,rfl⟩
theorem zoQ(h:N.inv k d e)(i way j:Int)(t:UInt8):(nspo N i way j t).inv k d e:=by
 unfold nspo
 split
 ·exact h
 ·split
  ·exact h
  ·rename_i c hcb
   split
   ·exact h
   ·obtain⟨h0,hc⟩:=zdG hcb
    have hco:=h.ok.c c (getq hc)
    have ends:=znV c way j.toNat t
    refine⟨zdr h.ok i.toNat (c:=spoC c way j.toNat t) ?_,zf7 h.idle hc ends⟩
    unfold spoC
    split
    ·exact⟨hco.a,hco.pa,hco.b,hco.pb,hco.w0,by show (zf1 _ _ _).length<=_;rw[zj1];exact hco.w1⟩
    ·exact⟨hco.a,hco.pa,hco.b,hco.pb,by show (zf1 _ _ _).length<=_;rw[zj1];exact hco.w0,hco.w1⟩
theorem rs_spo(N:Nt)(i way j:Int)(t:UInt8):(nspo N i way j t).rs=N.rs:=by
 unfold nspo
 split
 ·rfl
 ·split
  ·rfl
  ·split<;>rfl
end
end Go.Proofs.YtimfnpjcedjmiadGreat
