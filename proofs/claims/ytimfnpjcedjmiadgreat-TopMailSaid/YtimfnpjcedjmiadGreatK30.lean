/- Lemmas. -/
import Derived.Test.YtimfnpjcedjmiadGreatK29
set_option maxRecDepth 100000
set_option maxHeartbeats 64000000
set_option linter.all false
namespace Go.Proofs.YtimfnpjcedjmiadGreat
open Go.RowKit
def xsV(v:Nat->Nat)(k:Nat):List Value:=(List.range k).map λj=>.pointer (some ⟨v j,0,none⟩)
def zhS(v:Nat->Nat)(k:Nat):List (List AV):=(List.range k).map λj=>[.v (.pointer (some ⟨v j,0,none⟩))]
def ntE(N:Nt)(v:Nat->Nat)(g:Nat):List Res:=
 .cells [.arr 1 0 N.ib.length,.arr 2 0 N.cs.length,.arr 3 0 N.mt.length,.arr 4 0 N.ib.length]::.arr false 45 1 0 (zhS v N.ib.length)::.arr true 91 8 0 (N.cs.map zb2)::.arr true 88 1 0 (N.mt.map mtRow)::.arr false 63 1 0 (rowsI 6 g N.ib)::famR (xsV v N.ib.length) N.rs::resI g N.ib
theorem zb4{v:Nat->Nat}{k j:Nat}(h:j<k):(xsV v k)[j]? =some (.pointer (some ⟨v j,0,none⟩)):=by
 unfold xsV;rw[List.getElem?_map,List.getElem?_range h];rfl
theorem zao{v:Nat->Nat}{k j:Nat}(h:j<k):(zhS v k)[j]? =some [.v (.pointer (some ⟨v j,0,none⟩))]:=by
 unfold zhS;rw[List.getElem?_map,List.getElem?_range h];rfl
theorem prows_len(v:Nat->Nat)(k:Nat):(zhS v k).length=k:=by unfold zhS;simp
theorem ziV(v:Nat->Nat)(k:Nat):(xsV v k).length=k:=by unfold xsV;simp
theorem resR_get: ∀(rs:List Rt) (i:Nat),(resR rs)[i]? =rs[i]?.map rtO
 |[],i=>by simp [resR]
 |r::rs,0=>rfl
 |r::rs,i+1=>by
  show (resR rs)[i]? =_;rw[resR_get rs i];rfl
theorem zc9: ∀(rs:List Rt) (q i:Nat),(rowsR q rs)[i]? =rs[i]?.map λ_=>[.box (q+i) 0]
 |[],q,i=>by simp [rowsR]
 |r::rs,q,0=>rfl
 |r::rs,q,i+1=>by
  show (rowsR (q+1) rs)[i]? =_;rw[zc9 rs (q+1) i,show q+1+i=q+(i+1) by omega];rfl
theorem zbs: ∀(ib:List (List Mg)) (q g i:Nat),(rowsI q g ib)[i]? =ib[i]?.map λl=>[.arr (q+i) g l.length]
 |[],q,g,i=>by simp [rowsI]
 |l::ib,q,g,0=>rfl
 |l::ib,q,g,i+1=>by
  show (rowsI (q+1) g ib)[i]? =_;rw[zbs ib (q+1) g i,show q+1+i=q+(i+1) by omega];rfl
theorem resI_get: ∀(ib:List (List Mg)) (g i:Nat),(resI g ib)[i]? =ib[i]?.map λl=>.arr true 67 3 g (l.map zaY)
 |[],g,i=>by simp [resI]
 |l::ib,g,0=>rfl
 |l::ib,g,i+1=>by
  show (resI g ib)[i]? =_;rw[resI_get ib g i];rfl
theorem ziF{α β:Type}{l:List α}{m:List β}{f:Nat->α->β}(h: ∀i,m[i]? =l[i]?.map (f i)):m.length=l.length:=by
 rcases Nat.lt_trichotomy m.length l.length with g|g|g
 .have:=h m.length;rw[List.getElem?_eq_none (Nat.le_refl _),List.getElem?_eq_getElem g] at this;cases this
 .exact g
 .have:=h l.length;rw[List.getElem?_eq_none (l:=l) (Nat.le_refl _),List.getElem?_eq_getElem g] at this;cases this
theorem resR_len(rs:List Rt):(resR rs).length=rs.length:=ziF (f:=λ_=>rtO) (resR_get rs)
theorem zhC(rs:List Rt)(q:Nat):(rowsR q rs).length=rs.length:=ziF (f:=λi _=>[.box (q+i) 0]) (zc9 rs q)
theorem zbl(ib:List (List Mg))(q g:Nat):(rowsI q g ib).length=ib.length:=ziF (f:=λi l=>[.arr (q+i) g l.length]) (zbs ib q g)
theorem resI_len(ib:List (List Mg))(g:Nat):(resI g ib).length=ib.length:=ziF (f:=λ_ l=>.arr true 67 3 g (l.map zaY)) (resI_get ib g)
theorem zf0(N:Nt)(v:Nat->Nat)(g:Nat):(ntE N v g).length=6+N.ib.length:=by
 unfold ntE;simp only[List.length_cons,resI_len];omega
theorem zkv(N:Nt)(g:Nat):(ntM N g).length=5+N.rs.length+N.ib.length:=by
 unfold ntM ntH;simp only[List.length_append,List.length_cons,List.length_nil,resR_len,resI_len];omega
theorem ntM_r(N:Nt)(g i:Nat):(ntM N g)[5+i]? =(resR N.rs++resI g N.ib)[i]? :=by
 show (_::_::_::_::_::(resR N.rs++resI g N.ib):List Res)[5+i]? =_;rw[show 5+i=i+1+1+1+1+1 by omega];simp only[List.getElem?_cons_succ]
theorem ntE_i(N:Nt)(v:Nat->Nat)(g i:Nat):(ntE N v g)[6+i]? =(resI g N.ib)[i]? :=by
 unfold ntE;rw[show 6+i=i+1+1+1+1+1+1 by omega];simp only[List.getElem?_cons_succ]
def muE(k:Nat)(μ:zaJ):zaJ:=λid=>if id<=5 then μ id else if id<6+k then μ (id+k-1) else none
theorem zof{σ:zaM}{μ:zaJ}{q:Nat}{y:Value}{b:Nat}(h:RepV σ μ (.box q 0) y)(hq:μ q=some (.fix (.pointer (some ⟨b,0,none⟩)))):y=.pointer (some ⟨b,0,none⟩):=by
 cases h with
 |box _ _ _ c hc=>
  rw[hq] at hc;simp only[Option.some.injEq,An.fix.injEq,Value.pointer.injEq,Addr.mk.injEq] at hc;rw[hc.1]
theorem zfJ{σ:zaM}{μ μ':zaJ}{q q' g n:Nat}{y:Value}(h:RepV σ μ (.arr q g n) y)(hq:μ' q'=μ q):RepV σ μ' (.arr q' g n) y:=by
 cases h with
 |arr _ _ _ _ ao m cap a hn hm hmax h hl=>exact .arr _ q' g n ao m cap a hn hm hmax (hq.trans h) hl
theorem ib_ren{σ:zaM}{μ μ':zaJ}{w:World}{q q' id id' g:Nat}{ib:List (List Mg)}{D:Nat->Prop}(h:ROk σ μ w id D (.arr false 63 1 0 (rowsI q g ib)))(hid:μ' id'=μ id)(hq: ∀i,i<ib.length->μ' (q'+i)=μ (q+i)):ROk σ μ' w id' D (.arr false 63 1 0 (rowsI q' g ib)):=by
 obtain⟨ao,cap,xs,h1,h2,h3,h4,h5,h6⟩:=h;rw[zbl] at h1 h2;refine⟨ao,cap,xs,by rw[zbl,hid];exact h1,by rw[zbl];exact h2,λr hr=>?_,λi j r av g1 g2=>?_,h5,h6⟩
 .exact Y68
 .rw[zbs] at g1;obtain⟨l,hl,rfl⟩:=Option.map_eq_some_iff.1 g1;cases j with
  |succ j=>simp at g2
  |zero=>
   simp only[List.getElem?_cons_zero,Option.some.injEq] at g2;subst g2;obtain⟨y,y1,y2,y3⟩:=h4 i 0 [.arr (q+i) g l.length] (.arr (q+i) g l.length) (by rw[zbs,hl];rfl) rfl;exact⟨y,y1,zfJ y2 (hq i (List.getElem?_eq_some_iff.1 hl).1),y3⟩
theorem zg6{σ:zaM}{μ μ':zaJ}{w:World}{id id' a b c d:Nat}{D:Nat->Prop}{i1 i2 i3 i4:Nat}(h:ROk σ μ w id D (.cells [.arr i1 0 a,.arr i2 0 b,.arr i3 0 c,.arr i4 0 d]))(hid:μ' id'=μ id)(e1:μ' i1=μ i1)(e2:μ' i2=μ i2)(e3:μ' i3=μ i3)(e4:μ' i4=μ i4):ROk σ μ' w id' D (.cells [.arr i1 0 a,.arr i2 0 b,.arr i3 0 c,.arr i4 0 d]):=by
 obtain⟨x,cs,T,h1,h2,h3,h4,h5,h6⟩:=h;refine⟨x,cs,T,hid.trans h1,h2,h3,λi av hi=>?_,h5,h6⟩;obtain⟨y,y1,y2⟩:=h4 i av hi;refine⟨y,y1,?_⟩
 match i,hi with
 |0,hi=>simp only[List.getElem?_cons_zero,Option.some.injEq] at hi;subst hi;exact zfJ y2 e1
 |1,hi=>simp only[List.getElem?_cons_succ,List.getElem?_cons_zero,Option.some.injEq] at hi;subst hi;exact zfJ y2 e2
 |2,hi=>simp only[List.getElem?_cons_succ,List.getElem?_cons_zero,Option.some.injEq] at hi;subst hi;exact zfJ y2 e3
 |3,hi=>simp only[List.getElem?_cons_succ,List.getElem?_cons_zero,Option.some.injEq] at hi;subst hi;exact zfJ y2 e4
 |i+4,hi=>simp at hi
theorem zcR{σ:zaM}{μ μ':zaJ}{w:World}{id id' E sz g:Nat}{rows:List (List AV)}{D:Nat->Prop}(h:ROk σ μ w id D (.arr true E sz g rows))(hid:μ' id'=μ id):ROk σ μ' w id' D (.arr true E sz g rows):=by
 obtain⟨ao,cap,xs,h1,h2⟩:=h;exact⟨ao,cap,xs,hid.trans h1,h2⟩
theorem memE_of{σ:zaM}{μ:zaJ}{w:World}{Ds:Nat->Nat->Prop}{N:Nt}(hk:1<=N.ib.length)(hrs:N.rs.length=N.ib.length)(h:MemOk σ μ w (ntM N 0) Ds):
  ∃v D,MemOk σ (muE N.ib.length μ) w (ntE N v 0) D/\ ∀b,(∃i,D i b)↔ ∃i,Ds i b:=by
 generalize hK:N.ib.length=k at *
 have hobj: ∀j,j<k-> ∃c,μ (5+j)=some (.fix (.pointer (some ⟨c,0,none⟩)))/\ ∀r,N.rs[j]? =some r->(zcD (rtM r 0)).rep σ w c (Ds (5+j)):=λj hj=>by
  have hr:=List.getElem?_eq_getElem (l:=N.rs) (i:=j) (by omega);have:(ntM N 0)[5+j]? =some (rtO N.rs[j]):=by
   rw[ntM_r,List.getElem?_append_left (by rw[resR_len];omega),resR_get,hr];rfl
  obtain⟨c,h1,h2⟩:=h.ok _ _ this;exact⟨c,h1,λr hr'=>by rw[hr] at hr';obtain rfl:=Option.some.inj hr';exact h2⟩
 let v:Nat->Nat:=λj=>match μ (5+j) with
  |some (.fix (.pointer (some ⟨c,_,_⟩)))=>c
  |_=>0
 have hv: ∀j,j<k->μ (5+j)=some (.fix (.pointer (some ⟨v j,0,none⟩)))/\ ∀r,N.rs[j]? =some r->(zcD (rtM r 0)).rep σ w (v j) (Ds (5+j)):=λj hj=>by
  obtain⟨c,h1,h2⟩:=hobj j hj;have e:v j=c:=by
   show (match μ (5+j) with
    |some (.fix (.pointer (some ⟨c,_,_⟩)))=>c
    |_=>0)=c
   rw[h1]
  rw[e];exact⟨h1,h2⟩
 have hle: ∀id,id<=5->muE k μ id=μ id:=λid h=>if_pos h;have hgt: ∀i,i<k->muE k μ (6+i)=μ (5+k+i):=λi hi=>by
  unfold muE;rw[if_neg (by omega),if_pos (by omega)];congr 1;omega
 let D:Nat->Nat->Prop:=λid b=>if id<5 then Ds id b else if id=5 then ∃j,j<k/\Ds (5+j) b else if id<6+k then Ds (id+k-1) b else False
 have hD5: ∀id,id<5->D id=Ds id:=λid h=>by funext b;exact if_pos h
 have hDi: ∀i,i<k->D (6+i)=Ds (5+k+i):=λi hi=>by
  funext b
  show (if 6+i<5 then _ else if 6+i=5 then _ else if 6+i<6+k then Ds (6+i+k-1) b else False)=_;rw[if_neg (by omega),if_neg (by omega),if_pos (by omega),show 6+i+k-1=5+k+i by omega]
 refine⟨v,D,⟨λid r hr=>?_,λi j b hi hj=>?_,λid hid=>?_⟩,λb=>⟨?_,?_⟩⟩
 .match id,hr with
  |0,hr=>
   simp only[ntE,List.getElem?_cons_zero,Option.some.injEq,hK] at hr;subst hr;rw[hD5 0 (by decide)];have:=h.ok 0 (.cells [.arr 1 0 N.rs.length,.arr 2 0 N.cs.length,.arr 3 0 N.mt.length,.arr 4 0 N.rs.length]) rfl;rw[hrs] at this;exact zg6 this (hle 0 (by decide)) (hle 1 (by decide)) (hle 2 (by decide)) (hle 3 (by decide)) (hle 4 (by decide))
  |1,hr=>
   simp only[ntE,List.getElem?_cons_succ,List.getElem?_cons_zero,Option.some.injEq,hK] at hr;subst hr;rw[hD5 1 (by decide)];obtain⟨ao,cap,xs,h1,h2,h3,h4,h5,h6⟩:=h.ok 1 (.arr false 45 1 0 (rowsR 5 N.rs)) rfl;rw[zhC,hrs] at h1 h2;refine⟨ao,cap,xs,by rw[prows_len,hle 1 (by decide)];exact h1,by rw[prows_len];exact h2,λr hr=>?_,λi j r av g1 g2=>?_,h5,h6⟩
   .obtain⟨j,_,rfl⟩:=List.mem_map.1 hr;rfl
   .have hi:i<k:=by have:=(List.getElem?_eq_some_iff.1 g1).1;rw[prows_len] at this;exact this
    rw[zao hi] at g1;obtain rfl:=Option.some.inj g1;cases j with
    |succ j=>simp at g2
    |zero=>
     simp only[List.getElem?_cons_zero,Option.some.injEq] at g2;subst g2;obtain⟨y,y1,y2,y3⟩:=h4 i 0 [.box (5+i) 0] (.box (5+i) 0) (by rw[zc9,List.getElem?_eq_getElem (by omega)];rfl) rfl;refine⟨y,y1,?_,y3⟩;rw[zof y2 (hv i hi).1];exact .v _ _
  |2,hr=>
   simp only[ntE,List.getElem?_cons_succ,List.getElem?_cons_zero,Option.some.injEq] at hr;subst hr;rw[hD5 2 (by decide)];exact zcR (h.ok 2 _ rfl) (hle 2 (by decide))
  |3,hr=>
   simp only[ntE,List.getElem?_cons_succ,List.getElem?_cons_zero,Option.some.injEq] at hr;subst hr;rw[hD5 3 (by decide)];exact zcR (h.ok 3 _ rfl) (hle 3 (by decide))
  |4,hr=>
   simp only[ntE,List.getElem?_cons_succ,List.getElem?_cons_zero,Option.some.injEq] at hr;subst hr;rw[hD5 4 (by decide)];have:=h.ok 4 (.arr false 63 1 0 (rowsI (5+N.rs.length) 0 N.ib)) rfl;exact ib_ren this (hle 4 (by decide)) (λi hi=>by rw[hgt i (by omega),hrs])
  |5,hr=>
   simp only[ntE,List.getElem?_cons_succ,List.getElem?_cons_zero,Option.some.injEq,hK] at hr;subst hr;refine⟨v 0,by rw[hle 5 (by decide)];exact (hv 0 (by omega)).1,λj=>if j<k then Ds (5+j) else λ_=>False,by rw[ziV,List.length_map,hrs],⟨λj x p hx hp=>?_,λi j b hi hj=>?_,λb=>?_,λj b hj=>?_⟩⟩
   .have hjk:j<k:=by have:=(List.getElem?_eq_some_iff.1 hx).1;rw[ziV] at this;exact this
    rw[zb4 hjk] at hx;obtain rfl:=Option.some.inj hx;rw[List.getElem?_map] at hp;obtain⟨r,hr,rfl⟩:=Option.map_eq_some_iff.1 hp;refine⟨v j,rfl,?_⟩;rw[if_pos hjk];exact (hv j hjk).2 r hr
   .split at hi<;>split at hj
    .have:=h.apart _ _ b hi hj;omega
    .exact hj.elim
    .exact hi.elim
    .exact hi.elim
   .show (if 5<5 then _ else if 5=5 then ∃j,j<k/\Ds (5+j) b else _)↔_;rw[if_neg (by decide),if_pos rfl];exact⟨λ⟨j,hj,hb⟩=>⟨j,by rw[if_pos hj];exact hb⟩,λ⟨j,hb⟩=>by
     split at hb
     .rename_i hj;exact⟨j,hj,hb⟩
     .exact hb.elim⟩
   .split at hj
    .rename_i hj';rw[List.length_map,hrs];exact hj'
    .exact hj.elim
  |i+6,hr=>
   rw[show i+6=6+i by omega] at hr ⊢;rw[ntE_i,resI_get] at hr;obtain⟨l,hl,rfl⟩:=Option.map_eq_some_iff.1 hr;have hi:i<k:=by have:=(List.getElem?_eq_some_iff.1 hl).1;omega
   rw[hDi i hi];refine zcR (h.ok (5+k+i) _ ?_) (hgt i hi);rw[show 5+k+i=5+(k+i) by omega,ntM_r,List.getElem?_append_right (by rw[resR_len];omega),resR_len,hrs,show k+i-k=i by omega,resI_get,hl];rfl
 .have key: ∀id b,D id b->(id<5/\Ds id b)\/(id=5/\ ∃j,j<k/\Ds (5+j) b)\/(6<=id/\id<6+k/\Ds (id+k-1) b):=λid b hd=>by
   simp only[D] at hd;split at hd
   .exact .inl ⟨by assumption,hd⟩
   .split at hd
    .exact .inr (.inl ⟨by assumption,hd⟩)
    .split at hd
     .exact .inr (.inr ⟨by omega,by assumption,hd⟩)
     .exact hd.elim
  rcases key i b hi with⟨a1,a2⟩|⟨a1,p,a2,a3⟩|⟨a1,a2,a3⟩<;>rcases key j b hj with⟨b1,b2⟩|⟨b1,q,b2,b3⟩|⟨b1,b2,b3⟩
  .exact h.apart i j b a2 b2
  .have:=h.apart _ _ b a2 b3;omega
  .have:=h.apart _ _ b a2 b3;omega
  .have:=h.apart _ _ b a3 b2;omega
  .omega
  .have:=h.apart _ _ b a3 b3;omega
  .have:=h.apart _ _ b a3 b2;omega
  .have:=h.apart _ _ b a3 b3;omega
  .have:=h.apart _ _ b a3 b3;omega
 .rw[zf0,hK] at hid;refine⟨by unfold muE;rw[if_neg (by omega),if_neg (by omega)],λb hb=>?_⟩;simp only[D] at hb;rw[if_neg (by omega),if_neg (by omega),if_neg (by omega)] at hb;exact hb
 .rintro⟨i,hi⟩;simp only[D] at hi;split at hi
  .exact⟨i,hi⟩
  .split at hi
   .obtain⟨j,_,hj⟩:=hi;exact⟨_,hj⟩
   .split at hi
    .exact⟨_,hi⟩
    .exact hi.elim
 .rintro⟨i,hi⟩;have hlt:=h.lt hi;rw[zkv,hrs,hK] at hlt;rcases Nat.lt_or_ge i 5 with g|g
  .exact⟨i,by rw[hD5 i g];exact hi⟩
  .rcases Nat.lt_or_ge i (5+k) with g2|g2
   .refine⟨5,?_⟩;show (if 5<5 then _ else if 5=5 then ∃j,j<k/\Ds (5+j) b else _);rw[if_neg (by decide),if_pos rfl];exact⟨i-5,by omega,by rw[show 5+(i-5)=i by omega];exact hi⟩
   .exact⟨6+(i-5-k),by rw[hDi _ (by omega),show 5+k+(i-5-k)=i by omega];exact hi⟩
def zg:An->An
 | .cur ao n cap _=>.cur ao n cap 0
 |x=>x
theorem memM_of{σ:zaM}{μ:zaJ}{w:World}{Ds:Nat->Nat->Prop}{N:Nt}{v:Nat->Nat}{g:Nat}(hrs:N.rs.length=N.ib.length)(h:MemOk σ μ w (ntE N v g) Ds):
  ∃μ' D,MemOk σ μ' w (ntM N 0) D/\μ' 0=μ 0/\ ∀b,(∃i,D i b)↔ ∃i,Ds i b:=by
 generalize hK:N.ib.length=k at *
 obtain⟨c5,_,E,hEl,hE⟩:=h.ok 5 (famR (xsV v N.ib.length) N.rs) rfl;rw[hK] at hE;let μ':zaJ:=λid=>if id<5 then μ id else if id<5+k then some (.fix (.pointer (some ⟨v (id-5),0,none⟩))) else (μ (id+1-k)).map zg
 let D:Nat->Nat->Prop:=λid b=>if id<5 then Ds id b else if id<5+k then E (id-5) b else Ds (id+1-k) b
 have m5: ∀id,id<5->μ' id=μ id:=λid h=>if_pos h;have mr: ∀j,j<k->μ' (5+j)=some (.fix (.pointer (some ⟨v j,0,none⟩))):=λj hj=>by
  show (if 5+j<5 then _ else if 5+j<5+k then _ else _)=_;rw[if_neg (by omega),if_pos (by omega),show 5+j-5=j by omega]
 have mi: ∀i,μ' (5+k+i)=(μ (6+i)).map zg:=λi=>by
  show (if 5+k+i<5 then _ else if 5+k+i<5+k then _ else (μ (5+k+i+1-k)).map zg)=_;rw[if_neg (by omega),if_neg (by omega),show 5+k+i+1-k=6+i by omega]
 have d5: ∀id,id<5->D id=Ds id:=λid h=>by funext b;exact if_pos h
 have dr: ∀j,j<k->D (5+j)=E j:=λj hj=>by
  funext b
  show (if 5+j<5 then _ else if 5+j<5+k then E (5+j-5) b else _)=_;rw[if_neg (by omega),if_pos (by omega),show 5+j-5=j by omega]
 have di: ∀i,D (5+k+i)=Ds (6+i):=λi=>by
  funext b
  show (if 5+k+i<5 then _ else if 5+k+i<5+k then _ else Ds (5+k+i+1-k) b)=_;rw[if_neg (by omega),if_neg (by omega),show 5+k+i+1-k=6+i by omega]
 have hEk: ∀j b,E j b->j<k:=λj b hj=>by have:=hE.out j b hj;rw[List.length_map] at this;omega
 have hE5: ∀j b,E j b->Ds 5 b:=λj b hj=>(hE.all b).2 ⟨j,hj⟩;refine⟨μ',D,⟨λid r hr=>?_,λi j b hi hj=>?_,λid hid=>?_⟩,m5 0 (by decide),λb=>⟨?_,?_⟩⟩
 .match id,hr with
  |0,hr=>
   obtain rfl:Res.cells [.arr 1 0 N.rs.length,.arr 2 0 N.cs.length,.arr 3 0 N.mt.length,.arr 4 0 N.rs.length]=r:=Option.some.inj hr;rw[d5 0 (by decide)];have:=h.ok 0 (.cells [.arr 1 0 N.ib.length,.arr 2 0 N.cs.length,.arr 3 0 N.mt.length,.arr 4 0 N.ib.length]) rfl;rw[hK,<-hrs] at this;exact zg6 this (m5 0 (by decide)) (m5 1 (by decide)) (m5 2 (by decide)) (m5 3 (by decide)) (m5 4 (by decide))
  |1,hr=>
   obtain rfl:Res.arr false 45 1 0 (rowsR 5 N.rs)=r:=Option.some.inj hr;rw[d5 1 (by decide)];obtain⟨ao,cap,xs,h1,h2,h3,h4,h5,h6⟩:=h.ok 1 (.arr false 45 1 0 (zhS v N.ib.length)) rfl;rw[prows_len,hK] at h1 h2;refine⟨ao,cap,xs,by rw[zhC,hrs,m5 1 (by decide)];exact h1,by rw[zhC,hrs];exact h2,λr hr=>?_,λi j r av g1 g2=>?_,h5,h6⟩
   .obtain⟨i,hi⟩:=List.getElem?_of_mem hr;rw[zc9] at hi;obtain⟨l,_,rfl⟩:=Option.map_eq_some_iff.1 hi;rfl
   .rw[zc9] at g1;obtain⟨l,hl,rfl⟩:=Option.map_eq_some_iff.1 g1;have hi:i<k:=by have:=(List.getElem?_eq_some_iff.1 hl).1;omega
    cases j with
    |succ j=>simp at g2
    |zero=>
     simp only[List.getElem?_cons_zero,Option.some.injEq] at g2;subst g2;obtain⟨y,y1,y2,y3⟩:=h4 i 0 [.v (.pointer (some ⟨v i,0,none⟩))] (.v (.pointer (some ⟨v i,0,none⟩))) (by rw[hK];exact zao hi) rfl;refine⟨y,y1,?_,y3⟩;rw[y2.inv_v];exact .box _ _ 0 (v i) (mr i hi)
  |2,hr=>
   obtain rfl:Res.arr true 91 8 0 (N.cs.map zb2)=r:=Option.some.inj hr;rw[d5 2 (by decide)];exact zcR (h.ok 2 _ rfl) (m5 2 (by decide))
  |3,hr=>
   obtain rfl:Res.arr true 88 1 0 (N.mt.map mtRow)=r:=Option.some.inj hr;rw[d5 3 (by decide)];exact zcR (h.ok 3 _ rfl) (m5 3 (by decide))
  |4,hr=>
   obtain rfl:Res.arr false 63 1 0 (rowsI (5+N.rs.length) 0 N.ib)=r:=Option.some.inj hr;rw[d5 4 (by decide)];obtain⟨ao,cap,xs,h1,h2,h3,h4,h5,h6⟩:=h.ok 4 (.arr false 63 1 0 (rowsI 6 g N.ib)) rfl;rw[zbl] at h1 h2;refine⟨ao,cap,xs,by rw[zbl,m5 4 (by decide)];exact h1,by rw[zbl];exact h2,λr hr=>?_,λi j r av g1 g2=>?_,h5,h6⟩
   .exact Y68
   .rw[zbs] at g1;obtain⟨l,hl,rfl⟩:=Option.map_eq_some_iff.1 g1;cases j with
    |succ j=>simp at g2
    |zero=>
     simp only[List.getElem?_cons_zero,Option.some.injEq] at g2;subst g2;obtain⟨y,y1,y2,y3⟩:=h4 i 0 [.arr (6+i) g l.length] (.arr (6+i) g l.length) (by rw[zbs,hl];rfl) rfl;refine⟨y,y1,?_,y3⟩;cases y2 with
     |arr _ _ _ _ ao' m' cap' a hn hm hmax h7 h8=>
      obtain⟨ao2,cap2,xs2,q1,_⟩:=h.ok (6+i) (.arr true 67 3 g (l.map zaY)) (by rw[ntE_i,resI_get,hl];rfl);have h7':μ (6+i)=some a:=h7;rw[q1] at h7';obtain rfl:=Option.some.inj h7';obtain⟨_,h8⟩:=h8;obtain⟨rfl,rfl,rfl⟩:=h8 rfl;refine .arr _ _ 0 _ _ _ _ (.cur ao2 (l.map zaY).length cap2 0) hn hm hmax ?_ (An.le_refl _);show μ' (5+N.rs.length+i)=_;rw[hrs,mi i,q1];rfl
  |i+5,hr=>
   rw[show i+5=5+i by omega] at hr ⊢;rw[ntM_r] at hr;rcases Nat.lt_or_ge i k with hi|hi
   .rw[List.getElem?_append_left (by rw[resR_len];omega),resR_get] at hr;obtain⟨r0,hr0,rfl⟩:=Option.map_eq_some_iff.1 hr;rw[dr i hi];obtain⟨b,hb1,hb2⟩:=hE.one i (.pointer (some ⟨v i,0,none⟩)) (zcD (rtM r0 0)) (zb4 hi) (by rw[List.getElem?_map,hr0];rfl);simp only[Value.pointer.injEq,Option.some.injEq,Addr.mk.injEq,and_true] at hb1;subst hb1;exact⟨v i,mr i hi,hb2⟩
   .rw[List.getElem?_append_right (by rw[resR_len];omega),resR_len,hrs,resI_get] at hr;obtain⟨l,hl,rfl⟩:=Option.map_eq_some_iff.1 hr;obtain⟨q,rfl⟩: ∃q,i=k+q:=⟨i-k,by omega⟩;rw[show k+q-k=q by omega] at hl;rw[show 5+(k+q)=5+k+q by omega,di q];obtain⟨ao,cap,xs,h1,h2⟩:=h.ok (6+q) (.arr true 67 3 g (l.map zaY)) (by rw[ntE_i,resI_get,hl];rfl);exact⟨ao,cap,xs,by rw[mi q,h1];rfl,h2⟩
 .have key: ∀id b,D id b->(id<5/\Ds id b)\/(5<=id/\id<5+k/\E (id-5) b)\/(5+k<=id/\Ds (id+1-k) b):=λid b hd=>by
   simp only[D] at hd;split at hd
   .exact .inl ⟨by assumption,hd⟩
   .split at hd
    .exact .inr (.inl ⟨by omega,by assumption,hd⟩)
    .exact .inr (.inr ⟨by omega,hd⟩)
  rcases key i b hi with⟨a1,a2⟩|⟨a1,a2,a3⟩|⟨a1,a2⟩<;>rcases key j b hj with⟨b1,b2⟩|⟨b1,b2,b3⟩|⟨b1,b2⟩
  .exact h.apart i j b a2 b2
  .have:=h.apart _ _ b a2 (hE5 _ _ b3);omega
  .have:=h.apart _ _ b a2 b2;omega
  .have:=h.apart _ _ b (hE5 _ _ a3) b2;omega
  .have:=hE.apart _ _ b a3 b3;omega
  .have:=h.apart _ _ b (hE5 _ _ a3) b2;omega
  .have:=h.apart _ _ b a2 b2;omega
  .have:=h.apart _ _ b a2 (hE5 _ _ b3);omega
  .have:=h.apart _ _ b a2 b2;omega
 .rw[zkv,hrs,hK] at hid;obtain⟨q,rfl⟩: ∃q,id=5+k+q:=⟨id-5-k,by omega⟩;have:=h.out (6+q) (by rw[zf0,hK];omega);exact⟨by rw[mi q,this.1];rfl,λb hb=>by rw[di q] at hb;exact this.2 b hb⟩
 .rintro⟨i,hi⟩;simp only[D] at hi;split at hi
  .exact⟨i,hi⟩
  .split at hi
   .exact⟨5,hE5 _ _ hi⟩
   .exact⟨_,hi⟩
 .rintro⟨i,hi⟩;have hlt:=h.lt hi;rw[zf0,hK] at hlt;rcases Nat.lt_or_ge i 5 with g1|g1
  .exact⟨i,by rw[d5 i g1];exact hi⟩
  .rcases Nat.eq_or_lt_of_le g1 with g2|g2
   .subst g2;obtain⟨j,hj⟩:=(hE.all b).1 hi;exact⟨5+j,by rw[dr j (hEk j b hj)];exact hj⟩
   .exact⟨5+k+(i-6),by rw[di,show 6+(i-6)=i by omega];exact hi⟩
end Go.Proofs.YtimfnpjcedjmiadGreat
namespace Go.Proofs.YtimfnpjcedjmiadGreat
section
variable {k d e:Nat} {N:Nt}
theorem ze8{α:Type}{f:Nt->α->Nt}(a b:Nat)(hs: ∀(N:Nt) (x:α) (d e:Nat),N.inv k d e->(f N x).inv k (d+a) (e+b)): ∀(l:List α) {N:Nt} {d e:Nat},N.inv k d e->(l.foldl f N).inv k (d+a*l.length) (e+b*l.length)
 |[],N,d,e,h=>h.up (Nat.le_add_right ..) (Nat.le_add_right ..)
 |x::l,N,d,e,h=>by
  have h1:=ze8 a b hs l (hs N x d e h);refine h1.up ?_ ?_
  .rw[List.length_cons,Nat.mul_succ];omega
  .rw[List.length_cons,Nat.mul_succ];omega
theorem zmO(h:N.inv k d e)(j:Nat):(ziA N j).inv k (d+36000) (e+18720000):=by
 have h1:=ze8 (k:=k) (f:=λq (i:Nat)=>ndel (ndel q i 0 2000) i 1 2000) 4000 2080000 (λN x d e h=>(zdF (zdF h x 0 2000) x 1 2000).up (by omega) (by omega)) (List.range N.cs.length) h;have hc:=h.ok.cs;rw[List.length_range] at h1;refine h1.up ?_ ?_
 .have:=Nat.mul_le_mul_left 4000 hc;omega
 .have:=Nat.mul_le_mul_left 2080000 hc;omega
theorem zeY(h:N.inv k d e)(hk:k<=6):(zdt N).inv k (d+432000) (e+230000000):=by
 have h1:=ze8 (k:=k) (f:=λq (i:Nat)=>zdH q ((i:Int)+1)) 0 6630 (λN x d e h=>zd8 h _) (List.range N.rs.length) h;have h2:=ze8 (k:=k) (f:=ziA) 36000 18720000 (λN x d e h=>zmO h x) (List.range 12) h1;rw[List.length_range,List.length_range] at h2;have hr:=h.ok.rs;refine h2.up ?_ ?_
 .omega
 .rw[hr];have:=Nat.mul_le_mul_left 6630 hk;omega
def ninb(N:Nt)(i:Int):Nt:={ N with ib:=N.ib.modify (i-1).toNat (λ_=>[]) }
theorem inv_inb(h:N.inv k d e)(i:Int):(ninb N i).inv k d e:=by
 refine⟨⟨h.ok.rs,by rw[<-h.ok.ib];exact List.length_modify .., h.ok.mt,h.ok.m3,h.ok.cs,h.ok.r,h.ok.c,λl hl=>?_⟩,h.idle⟩;rcases zdK (show l∈N.ib.modify _ _ from hl) with g|⟨y,_,rfl⟩
 .exact h.ok.i l g
 .exact Nat.zero_le _
theorem zmD{k:Nat}{l:List Ca}(hl: ∀c∈l,c.ok k):Tok k (newT k l):=by
 have: ∀(l:List Ca) (T:List (List Int)),(∀c∈l,c.ok k)->Tok k T->Tok k (l.foldl znG T):=by
  intro l
  induction l with
  |nil=>exact λT _ h=>h
  |cons c l ih=>
   intro T hl h;have hc:=(hl c (List.mem_cons_self ..)).m;exact ih _ (λx hx=>hl x (List.mem_cons_of_mem _ hx)) (zie (zie h c.a c.pa hc) c.b c.pb hc)
 exact this l _ hl (zoA k)
theorem zkO{k:Nat}(hk:k<=6){l:List Ca}(hl: ∀c∈l,c.ok k)(hlen:l.length<=9):(newN k l).inv k 0 0:=by
 have hT:=zmD hl;have hrow: ∀i,i<k-> ∃a b c,(newT k l).getD i []=[a,b,c]/\(1<=a/\a<=20)/\(1<=b/\b<=20)/\(1<=c/\c<=20):=λi hi=>by
  rw[List.getD_eq_getElem?_getD,List.getElem?_eq_getElem (by rw[hT.len];exact hi)];exact zeU hT (List.getElem_mem _)
 refine⟨⟨by simp [newN],by simp [newN],hT.len,λt ht=>zeU hT ht,by simpa[newN] using hlen,λr hr=>?_,λc hc=>?_,λb hb=>?_⟩,λi p r q hr hq _=>?_⟩
 .obtain⟨i,hi,rfl⟩:=List.mem_map.1 hr;obtain⟨a,b,c,h1,h2,h3,h4⟩:=hrow i (List.mem_range.1 hi);rw[h1];have:=List.mem_range.1 hi;exact new_f3 (by omega) h2 h3 h4
 .obtain⟨x,hx,rfl⟩:=List.mem_map.1 hc;have h:=hl x hx;exact⟨h.a,h.pa,h.b,h.pb,Nat.zero_le _,Nat.zero_le _⟩
 .rw[List.eq_of_mem_replicate hb];exact Nat.le_refl _
 .have hm:r∈(newN k l).rs:=List.mem_of_getElem? hr;obtain⟨j,hj,rfl⟩:=List.mem_map.1 hm;obtain⟨j',m,rfl,_⟩:=zdI _ 0 q (List.mem_of_getElem? hq);exact zlx
end
noncomputable def woN:Nat->Nt
 |0=>zbY (newN 2 [⟨1,0,2,0,3⟩]) 0 true
 |n+1=>zdt (woN n)
theorem wo_check:zb5 2 [⟨1,0,2,0,3⟩]=0:=by decide+kernel
theorem wo_plug:zff (newN 2 [⟨1,0,2,0,3⟩]) 0 true=0:=by decide+kernel
theorem wo_sts:(stsB ((woN 6).rt 2).b).map (λx=>(x.1,x.2.2))=[(1,[(2,3)]),(2,[(1,3)])]:=by decide+kernel
theorem wo_id:((woN 6).rt 2).id=2:=by decide+kernel
theorem zoL:(newN 2 [⟨1,0,2,0,3⟩]).inv 2 0 0:=zkO (by decide) (λc hc=>by
 rw[List.mem_singleton.1 hc];exact⟨by decide,by decide,by decide,by decide,by decide⟩) (by decide)
theorem zpp: ∀n,(woN n).inv 2 (432000*n) (780+230000000*n)
 |0=>(zby zoL 0 true).up (by omega) (by omega)
 |n+1=>(zeY (zpp n) (by decide)).up (by omega) (by omega)
theorem zps(s1 s2 a b:Int)(ha:nod a)(hb:nod b):met [(1,s1,[(2,3)]),(2,s2,[(1,3)])] a b=if (a=1/\b=2)\/(a=2/\b=1) then 3 else 0:=by
 unfold nod at ha hb;rcases (by omega:a=1\/a=2\/a=3\/a=4\/a=5\/a=6) with rfl|rfl|rfl|rfl|rfl|rfl<;>
 rcases (by omega:b=1\/b=2\/b=3\/b=4\/b=5\/b=6) with rfl|rfl|rfl|rfl|rfl|rfl<;>rfl
theorem zou{s1 s2 n d f:Int}(h:Wk (met [(1,s1,[(2,3)]),(2,s2,[(1,3)])]) 2 n d f):(n=1\/n=2)/\f=1/\3<=d:=by
 induction h with
 |one hn hm=>
  rw[zps _ _ _ _ (by unfold nod;omega) hn] at hm ⊢;split at hm
  .rename_i g;rw[if_pos g];omega
  .omega
 |step h hn hm ih=>
  rw[zps _ _ _ _ h.nod.1 hn] at hm ⊢;split at hm
  .rename_i g;rw[if_pos g];omega
  .omega
theorem wo_hops{l:List St3}(h:l.map (λx=>(x.1,x.2.2))=[(1,[(2,3)]),(2,[(1,3)])]):zdP l 2=[(1,3,1)]:=by
 obtain⟨s1,s2,rfl⟩: ∃s1 s2,l=[(1,s1,[(2,3)]),(2,s2,[(1,3)])]:=by
  match l,h with
  |[(a,s1,x),(b,s2,y)],h=>
   simp only[List.map_cons,List.map_nil,List.cons.injEq,Prod.mk.injEq,and_true] at h;obtain⟨⟨rfl,rfl⟩,rfl,rfl⟩:=h;exact⟨s1,s2,rfl⟩
 have hB:Best (met [(1,s1,[(2,3)]),(2,s2,[(1,3)])]) 2 1 3 1:=by
  refine⟨by decide,?_,λd' f' g=>?_⟩
  .have hm:=zps s1 s2 2 1 (by unfold nod;omega) (by unfold nod;omega);rw[if_pos (by decide)] at hm;have:=Wk.one (M:=met [(1,s1,[(2,3)]),(2,s2,[(1,3)])]) (r:=2) (n:=1) (by unfold nod;omega) (by rw[hm];decide);rw[hm] at this;exact this
  .have:=zou g;unfold lx;omega
 have hN: ∀n:Int,3<=n->hopV (met [(1,s1,[(2,3)]),(2,s2,[(1,3)])]) 2 n=none:=λn hn=>zju λd f g=>by have:=zou g;omega
 have h1:=zjI hB;have h2:=zjm (M:=met [(1,s1,[(2,3)]),(2,s2,[(1,3)])]) (r:=2);unfold zdP;rw[if_pos (by decide)];simp only[hopsM,hopsTo,zky];simp only[show ((0:Nat):Int)+1=1 from rfl,show ((1:Nat):Int)+1=2 from rfl,show ((2:Nat):Int)+1=3 from rfl,show ((3:Nat):Int)+1=4 from rfl,show ((4:Nat):Int)+1=5 from rfl,show ((5:Nat):Int)+1=6 from rfl,h1,h2,hN 3 (by decide),hN 4 (by decide),hN 5 (by decide),hN 6 (by decide),List.nil_append,List.append_nil]
def mgOf(s:List UInt8):Mg:=⟨(s.getD 0 0).toNat,(s.getD 1 0).toNat,tx (s.drop 2)⟩
def mlW(π:Mg->Bool)(t:List UInt8):Nat:=match t with
 |[]=>0
 |k::s=>if k=77/\2<=s.length/\s.length<=22/\π (mgOf s)=true then 1 else 0
def zaf(π:Mg->Bool)(ρ:Int->Mg->Bool):Meas:=⟨λ_ _=>True,mlW π,λ_ _=>True,λc=>c.inb.countP (ρ c.id),λ_ _=>trivial,λ_ _=>trivial⟩
structure Kept (π:Mg->Bool) (ρ:Int->Mg->Bool):Prop where
 on: ∀(m:Mg) (h:Int),(0<=m.to/\m.to<256)->1<=m.hops->(h=((u8 (m.hops-1)).toNat:Int))->π ⟨m.to,h,m.text⟩=true->π m=true
 come: ∀m:Mg,0<=m.hops->ρ m.to m=true->π m=true
theorem u8_in{n:Int}(h0:0<=n)(h1:n<256):((u8 n).toNat:Int)=n:=by
 rw[<-wrap_u8,show IntKind.u8.wrap n=n%256 by simp [IntKind.wrap,IntKind.bits,IntKind.signed]];omega
theorem zgF{q:Rt}{i:Nat}{f g:Pt->Pt}{p:Pt}(hp:q.ps[i]? =some p)(h:f p=g p):q.onP i f=q.onP i g:=by
 unfold Rt.onP;refine congrArg (λl=>({ q with ps:=l }:Rt)) (List.ext_getElem? λj=>?_);rw[List.getElem?_modify,List.getElem?_modify];by_cases e:i=j
 .subst e;rw[hp];show some (if i=i then f p else p)=some (if i=i then g p else p);rw[if_pos rfl,if_pos rfl,h]
 .simp only[if_neg e]
theorem sum0: ∀{l:List Nat},(∀n∈l,n=0)->l.sum=0
 |[],_=>rfl
 |n::l,h=>by rw[List.sum_cons,h n (by simp),sum0 (λm hm=>h m (by simp [hm]))]
theorem onP_id(q:Rt)(i:Nat):q.onP i id=q:=by
 unfold Rt.onP;rw[List.modify_id]
variable {π:Mg->Bool} {ρ:Int->Mg->Bool} {X:Nat} {r:Rt}
theorem zgT(p:Pt): ∃u:List (List UInt8),(∀t∈u,t.length<=60/\ ∃s,t=76::s)/\(zbE p).out=p.out++u.flatMap frm:=by
 refine⟨p.l.out.flatMap λx=>if zbN x.c x.i x.o=0 then (if 60<(zdz x.c x.i x.o).length+1 then [] else [76::zdz x.c x.i x.o]) else [],λt ht=>?_,?_⟩
 .obtain⟨x,_,hx⟩:=List.mem_flatMap.1 ht;split at hx
  .split at hx
   .cases hx
   .rename_i h;rw[List.mem_singleton.1 hx];exact⟨by rw[List.length_cons];omega,_,rfl⟩
  .cases hx
 .unfold zbE;dsimp only;rw[List.flatMap_assoc];refine congrArg (λf=>p.out++p.l.out.flatMap f) (funext λx=>?_);unfold flB fr1;split
  .split
   .rfl
   .simp
  .rfl
theorem zlL{S:Meas}(h76: ∀s,S.w (76::s)=0/\ ∀X,S.q X (76::s))(hQ:S.Q X r.co)(i:Nat){f:Pt->Pt}(hc: ∀p:Pt,(f p).m=p.m/\(f p).p=p.p)(hf: ∀p:Pt,∃u:List (List UInt8),(∀t∈u,t.length<=60/\ ∃s,t=76::s)/\(f p).out=p.out++u.flatMap frm):Mv S 0 X r (r.onP i f):=by
 cases hp:r.ps[i]? with
 |none=>exact (zhM (S:=S) hQ i (u:=[]) (λt ht=>(by cases ht)) hc (λp=>⟨[],.inl rfl,λg=>by rw[hp] at g;cases g⟩)).up (Nat.zero_le _)
 |some p0=>
  obtain⟨u,h1,h2⟩:=hf p0;have hs:S.s u=0:=by
   unfold Meas.s;refine sum0 λn hn=>?_;obtain⟨t,ht,rfl⟩:=List.mem_map.1 hn;obtain⟨_,s,rfl⟩:=h1 t ht;exact (h76 s).1
  have:=zhM (S:=S) hQ i (u:=u) (λt ht=>⟨(h1 t ht).1,by obtain⟨_,s,rfl⟩:=h1 t ht;exact (h76 s).2 X⟩) hc (λp=>⟨u,.inl rfl,λg=>by rw[hp] at g;cases g;exact h2⟩);rw[hs] at this;exact this
theorem zjX{S:Meas}(hQ:S.Q X r.co)(i:Nat)(k:UInt8)(s:List UInt8)(hq:S.q X (k::s)):Mv S (S.w (k::s)) X r (r.onP i (putP k s)):=by
 by_cases hl:60<s.length+1
 .refine (zhM (S:=S) hQ i (u:=[]) (λt ht=>(by cases ht)) (λp=>by unfold putP;split<;>exact⟨rfl,rfl⟩) (λp=>⟨[],.inl rfl,λ_=>?_⟩)).up (Nat.zero_le _);unfold putP fr1;rw[if_pos hl];split<;>simp
 .have:=zhM (S:=S) hQ i (f:=putP k s) (u:=[k::s]) (λt ht=>by rw[List.mem_singleton.1 ht];exact⟨by rw[List.length_cons];omega,hq⟩) (λp=>by unfold putP;split<;>exact⟨rfl,rfl⟩) (λp=>by
   by_cases g:k≠76/\p.l.st≠9
   .exact⟨[],.inr rfl,λ_=>by unfold putP;rw[if_pos g];simp⟩
   .exact⟨[k::s],.inl rfl,λ_=>by unfold putP fr1;rw[if_neg g,if_neg hl];simp⟩)
  have e:S.s [k::s]=S.w (k::s):=by unfold Meas.s;simp
  rw[e] at this;exact this
theorem zfL{k:UInt8}(hk:k≠77)(s:List UInt8):mlW π (k::s)=0:=if_neg (λh=>hk h.1)
theorem zdN(i:Nat)(now:Pe):Mv (zaf π ρ) 0 X r (zaV r i now):=by
 refine zlU trivial (zaW r i now).2 (λj p p' hp hp'=>?_) ?_
 .rw[ps_meet] at hp';obtain⟨q,h1,h2⟩:=ziT hp';rw[hp] at h1;cases h1;rw[h2];split<;>rfl
 .have:(zaV r i now).inb=r.inb:=by
   unfold zaV zbt;repeat' split
   all_goals rfl
  show List.countP (ρ (zaV r i now).id) (zaV r i now).inb<=List.countP (ρ r.id) r.inb+0;rw[this,(zaW r i now).1];exact Nat.le_refl _
theorem zmy(i:Nat)(s:List UInt8):Mv (zaf π ρ) 0 X r (zbF r i s):=by
 have hb: ∀b,Mv (zaf π ρ) 0 X r { r with b:=b }:=λb=>zlU trivial rfl (λj p p' hp hp'=>by rw[show ({ r with b:=b }:Rt).ps=r.ps from rfl,hp] at hp';cases hp';rfl) (Nat.le_refl _);unfold zbF;split
 .exact zbv (S:=zaf π ρ) trivial
 .split
  .split
   .exact hb _
   .exact zbv (S:=zaf π ρ) trivial
  .split
   .have h1:=zjX (S:=zaf π ρ) (X:=X) (r:={ r with b:=zbd r.b i (stOf s) }) trivial i 65 s trivial;have h2:=(hb (zbd r.b i (stOf s))).trans (λY _ _=>zjX (S:=zaf π ρ) (X:=Y) (r:={ r with b:=zbd r.b i (stOf s) }) trivial i 65 s trivial);exact h2.up (by show 0+mlW π (65::s)<=0;rw[zfL (by decide)];exact Nat.le_refl _)
   .exact hb _
theorem zim(hK:Kept π ρ)(m:Mg)(ht:0<=m.to/\m.to<256)(hh:0<=m.hops):Mv (zaf π ρ) (if π m=true then 1 else 0) X r (zcg r m):=by
 have hd:Mv (zaf π ρ) 0 X r { r with dr:=r.dr+1 }:=zlU trivial rfl (λj p p' hp hp'=>by rw[show ({ r with dr:=r.dr+1 }:Rt).ps=r.ps from rfl,hp] at hp';cases hp';rfl) (Nat.le_refl _);generalize hD:(if π m=true then 1 else 0)=D;unfold zcg;split
 .refine zlU trivial rfl (λj p p' hp hp'=>by rw[show ({ r with inb:=r.inb++[m] }:Rt).ps=r.ps from rfl,hp] at hp';cases hp';rfl) ?_;rename_i e;show List.countP (ρ r.id) (r.inb++[m])<=List.countP (ρ r.id) r.inb+D;rw[List.countP_append,List.countP_singleton,<-hD];refine Nat.add_le_add_left ?_ _;split
  .rename_i g;rw[if_pos (hK.come m hh (by rw[e];exact g))];exact Nat.le_refl _
  .exact Nat.zero_le _
 .split
  .exact hd.up (Nat.zero_le _)
  .split
   .exact hd.up (Nat.zero_le _)
   .rename_i h;refine (zjX (S:=zaf π ρ) (X:=X) trivial _ 77 _ trivial).up ?_;show (if _ then 1 else 0)<=D;split
    .rename_i g;have:=hK.on m _ ht (by omega) rfl (by
      have g4:=g.2.2.2;unfold mgOf at g4;have e0:((u8 m.to).toNat:Int)=m.to:=u8_in ht.1 ht.2;have e1:(u8 m.to::u8 (m.hops-1)::bs m.text).getD 0 0=u8 m.to:=rfl;have e2:(u8 m.to::u8 (m.hops-1)::bs m.text).getD 1 0=u8 (m.hops-1):=rfl;have e3:(u8 m.to::u8 (m.hops-1)::bs m.text).drop 2=bs m.text:=rfl;rw[e1,e2,e3,e0,zdq] at g4;exact g4)
     rw[<-hD,if_pos this];exact Nat.le_refl _
    .exact Nat.zero_le _
theorem zmj(hK:Kept π ρ)(s:List UInt8):Mv (zaf π ρ) (mlW π (77::s)) X r (zba r s):=by
 generalize hD:mlW π (77::s)=D;unfold zba;split
 .rename_i h;refine (zim hK (mgOf s) ⟨by unfold mgOf;dsimp only;omega,?_⟩ (by unfold mgOf;dsimp only;omega)).up ?_
  .have:=(s.getD 0 0).toNat_lt;unfold mgOf;dsimp only;omega
  .rw[<-hD];split
   .rename_i g;rw[show mlW π (77::s)=1 from if_pos ⟨rfl,h.1,h.2,g⟩];exact Nat.le_refl _
   .exact Nat.zero_le _
 .exact (zbv (S:=zaf π ρ) trivial).up (Nat.zero_le _)
theorem zpU(i:Nat)(k:UInt8)(s:List UInt8):Mv (zaf π ρ) 0 X r (tak1 r i k s):=by
 unfold tak1;split
 .exact zlL (S:=zaf π ρ) (λs=>⟨zfL (π:=π) (k:=76) (by decide) s,λ_=>trivial⟩) trivial i (λp=>⟨rfl,rfl⟩) (λp=>zgT _)
 .exact zbv (S:=zaf π ρ) trivial
theorem mail_tak(hK:Kept π ρ)(i:Nat)(k:UInt8)(s:List UInt8):Mv (zaf π ρ) (mlW π (k::s)) X r (takR r i k s):=by
 have h1:Mv (zaf π ρ) 0 X r (tak1 r i k s):=zpU i k s;have h0: ∀{q:Rt},(∀Y,Mv (zaf π ρ) 0 Y (tak1 r i k s) q)->Mv (zaf π ρ) (mlW π (k::s)) X r q:=λh=>(h1.trans (λY _ _=>h Y)).up (Nat.zero_le _);unfold takR;split
 .exact h0 (λY=>zdN i _)
 .split
  .split
   .exact h0 (λY=>zdN i _)
   .exact h1.up (Nat.zero_le _)
  .split
   .exact h0 (λY=>zmy i s)
   .split
    .refine h0 (λY=>?_);unfold zcQ;split
     .exact zlU trivial rfl (λj p p' hp hp'=>by rw[show ({ (tak1 r i k s) with b:=hrdB (tak1 r i k s).b i (stOf s) }:Rt).ps=(tak1 r i k s).ps from rfl,hp] at hp';cases hp';rfl) (Nat.le_refl _)
     .exact zbv (S:=zaf π ρ) trivial
    .split
     .rename_i hk;subst hk;exact (h1.trans (λY _ _=>zmj hK s)).up (by omega)
     .exact h1.up (Nat.zero_le _)
theorem zq2(hK:Kept π ρ)(i:Nat)(t:List UInt8):Mv (zaf π ρ) (mlW π t) X r (takT i r t):=by
 unfold takT;split
 .exact zbv (S:=zaf π ρ) trivial
 .exact mail_tak hK i _ _
theorem zmn(i:Nat):Mv (zaf π ρ) 0 X r (zbX r i):=by
 have h0:Mv (zaf π ρ) 0 X r (zas r i):=zlL (S:=zaf π ρ) (λs=>⟨zfL (π:=π) (k:=76) (by decide) s,λ_=>trivial⟩) trivial i (λp=>⟨rfl,rfl⟩) (λp=>zgT _);unfold zbX;split
 .exact (h0.trans (λY _ _=>zdN i _)).up (Nat.le_refl _)
 .have h1:=(h0.trans (λY _ _=>zdN i (zbD ((zas r i).pt i).p))).up (Nat.le_refl 0);have h2:Mv (zaf π ρ) 0 X r ((zaV (zas r i) i (zbD ((zas r i).pt i).p)).onP i (zaQ r.id)):=by
   refine (h1.trans (e:=0) (λY _ _=>?_)).up (Nat.le_refl _);generalize zaV (zas r i) i (zbD ((zas r i).pt i).p)=q;cases hp:q.ps[i]? with
   |none=>exact (zhM (S:=zaf π ρ) trivial i (u:=[]) (λt ht=>(by cases ht)) (λp=>by unfold zaQ putP;split;split;exact⟨rfl,rfl⟩;exact⟨rfl,rfl⟩;exact⟨rfl,rfl⟩) (λp=>⟨[],.inl rfl,λg=>by rw[hp] at g;cases g⟩)).up (Nat.zero_le _)
   |some p0=>
    by_cases he:heE r.id p0.p.who=0
    .have:=zjX (S:=zaf π ρ) (X:=Y) (r:=q) trivial i 72 (heB r.id p0.p.who) trivial;rw[show q.onP i (putP 72 (heB r.id p0.p.who))=q.onP i (zaQ r.id) from zgF hp (by unfold zaQ;rw[if_pos he])] at this;exact this.up (Nat.le_of_eq (show (zaf π ρ).w _=0 from zfL (π:=π) (k:=72) (by decide) (heB r.id p0.p.who)))
    .have:=zbv (S:=zaf π ρ) (X:=Y) (r:=q) trivial;rw[show q.onP i (zaQ r.id)=q from by rw[<-zgF (f:=id) hp (by unfold zaQ;rw[if_neg he];rfl)];exact onP_id q i];exact this
  generalize (owdB _ _)=L;generalize (Rt.onP _ i (zaQ r.id))=z at *
  induction L generalizing z with
  |nil=>exact h2
  |cons x L ih=>
   refine ih _ ((h2.trans (e:=0) (λY _ _=>?_)).up (Nat.le_refl _));dsimp only;cases hp:z.ps[i]? with
   |none=>exact (zhM (S:=zaf π ρ) trivial i (u:=[]) (λt ht=>(by cases ht)) (λp=>by unfold zaS putP;split;split;exact⟨rfl,rfl⟩;exact⟨rfl,rfl⟩;exact⟨rfl,rfl⟩) (λp=>⟨[],.inl rfl,λg=>by rw[hp] at g;cases g⟩)).up (Nat.zero_le _)
   |some p0=>
    by_cases he:sf x=0/\p0.p.both=true
    .have:=zjX (S:=zaf π ρ) (X:=Y) (r:=z) trivial i 83 (sbyt x.1 x.2.1 x.2.2) trivial;rw[show z.onP i (putP 83 (sbyt x.1 x.2.1 x.2.2))=z.onP i (zaS x) from zgF hp (by unfold zaS;rw[if_pos he])] at this;exact this.up (Nat.le_of_eq (show (zaf π ρ).w _=0 from zfL (π:=π) (k:=83) (by decide) (sbyt x.1 x.2.1 x.2.2)))
    .have:=zbv (S:=zaf π ρ) (X:=Y) (r:=z) trivial;rw[show z.onP i (zaS x)=z from by rw[<-zgF (f:=id) hp (by unfold zaS;rw[if_neg he];rfl)];exact onP_id z i];exact this
theorem zpI:Mv (zaf π ρ) 0 X r (zch r):=by
 unfold zch;generalize List.range r.ps.length=L;have: ∀(L:List Nat) {X:Nat} {r:Rt},Mv (zaf π ρ) 0 X r (L.foldl zbX r):=by
  intro L
  induction L with
  |nil=>exact λ{X r}=>zbv (S:=zaf π ρ) trivial
  |cons i L ih=>exact λ{X r}=>((zmn i).trans (λY _ _=>ih)).up (Nat.le_refl _)
 exact this L
theorem zpy(i:Nat)(up:Bool):Mv (zaf π ρ) 0 X r (zaZ r i up):=by
 unfold zaZ;split
 .exact zbv (S:=zaf π ρ) trivial
 .have h0:Mv (zaf π ρ) 0 X r (r.onP i λp=>zbE { p with l:=doL p.l (if up then 0 else 1),rd:=rd0,rest:=[] }):=zlL (S:=zaf π ρ) (λs=>⟨zfL (π:=π) (k:=76) (by decide) s,λ_=>trivial⟩) trivial i (λp=>⟨rfl,rfl⟩) (λp=>zgT { p with l:=doL p.l (if up then 0 else 1),rd:=rd0,rest:=[] });exact (h0.trans (λY _ _=>zdN i _)).up (Nat.le_refl _)
theorem one_all: ∀(s:Fin 10) (e:Fin 12),(!opnB s||decide (e.val=0)||decide (e.val=1)||decide (e.val=3)|| !decide (zaq s e=0)||(decide (zb3 s e=1)==decide (s.val=1)))=true:=by decide+kernel
def Sp(l m:Lk):Prop:=l.opn->m.opn/\(m.st=1↔l.st=1)
theorem Sp.refl(l:Lk):Sp l l:=λh=>⟨h,Iff.rfl⟩
theorem Sp.trans{a b c:Lk}(h:Sp a b)(g:Sp b c):Sp a c:=λx=>⟨(g (h x).1).1,(g (h x).1).2.trans (h x).2⟩
theorem ze5(l:Lk){e i c:Int}{o:List (Int×Int)}(e0:2<=e)(e9:e<=11)(e3:e≠3):Sp l (evtL l e i c o):=λh=>by
 refine⟨zoF h (by omega) e9 e3,?_⟩;rw[evtL_st];have hs:0<=l.st/\l.st<=9:=by unfold Lk.opn at h;omega
 have hT:=one_all ⟨l.st.toNat,by omega⟩ ⟨e.toNat,by omega⟩;simp only[Int.toNat_of_nonneg hs.1,Int.toNat_of_nonneg (show 0<=e by omega)] at hT;rw[ze9.2 h] at hT;split
 .rename_i g;have h3: ¬e.toNat=3:=by omega
  have h0: ¬e.toNat=0:=by omega
  have h1: ¬e.toNat=1:=by omega
  simp only[g,h3,h0,h1,decide_true,decide_false,Bool.not_true,Bool.or_self,Bool.false_or,beq_iff_eq,decide_eq_decide] at hT;rw[hT];omega
 .exact Iff.rfl
theorem sp_tickL(l:Lk):Sp l (zag l):=by
 unfold zag;split
 .split
  .exact Sp.refl l
  .have h2:Sp l { l with tm:=l.tm-1 }:=λh=>⟨h,Iff.rfl⟩;split
   .exact h2.trans (ze5 _ (by decide) (by decide) (by decide))
   .exact h2.trans (ze5 _ (by decide) (by decide) (by decide))
 .exact Sp.refl l
theorem sp_take(l:Lk)(p:Pk):Sp l (takL l p):=by
 unfold takL;split
 .exact Sp.refl l
 .split
  .unfold reqL;split
   .split
    .exact (ze5 l (e:=6) (by decide) (by decide) (by decide):Sp l (evtL l 6 p.i 2 (jans l.nm p.o)))
    .exact ze5 l (by decide) (by decide) (by decide)
   .exact ze5 l (by decide) (by decide) (by decide)
  .split
   .exact ze5 l (by decide) (by decide) (by decide)
   .split
    .exact ze5 l (by decide) (by decide) (by decide)
    .split
     .exact Sp.refl l
     .split
      .split
       .exact Sp.refl l
       .exact ze5 l (by decide) (by decide) (by decide)
      .refine Sp.trans (b:=nowL l p) ?_ (ze5 _ (by decide) (by decide) (by decide));unfold nowL;split<;>exact λh=>⟨h,Iff.rfl⟩
theorem znr{l:Lk}(h:l.opn)(h1:l.st=1):(doL l 0).opn/\(doL l 0).st≠1/\doE l 0=0:=by
 refine⟨zpT h (by decide),?_,?_⟩
 .unfold doL;rw[if_neg (by decide),evtL_st,h1];decide
 .unfold doE;rw[if_neg (by decide),h1];decide
theorem zpa(l:Lk):Sp l (zaD l):=by
 refine (sp_tickL l).trans ?_;unfold zaD;split
 .rename_i h3;intro h;have hd:=zhz h;have hu:=znr (zpT h (by decide):(doL (zag l) 1).opn) hd.1;exact⟨hu.1,⟨λg=>absurd g hu.2.1,λg=>by omega⟩⟩
 .exact Sp.refl _
def Rp(p q:Pt):Prop:=q.rd=p.rd/\q.m=p.m/\Sp p.l q.l
theorem Rp.refl(p:Pt):Rp p p:=⟨rfl,rfl,Sp.refl _⟩
theorem Rp.trans{a b c:Pt}(h:Rp a b)(g:Rp b c):Rp a c:=⟨g.1.trans h.1,g.2.1.trans h.2.1,h.2.2.trans g.2.2⟩
def Rk(r r':Rt):Prop:= ∀j,Rp (r.pt j) (r'.pt j)
theorem Rk.refl(r:Rt):Rk r r:=λ_=>Rp.refl _
theorem Rk.trans{a b c:Rt}(h:Rk a b)(g:Rk b c):Rk a c:=λj=>(h j).trans (g j)
theorem ziu{r r':Rt}(h:r'.ps=r.ps):Rk r r':=λj=>by unfold Rt.pt;rw[h];exact Rp.refl _
theorem zgs(r:Rt)(i:Nat)(f:Pt->Pt)(j:Nat):(r.onP i f).pt j=if i=j/\j<r.ps.length then f (r.pt j) else r.pt j:=by
 unfold Rt.pt;rw[List.getD_eq_getElem?_getD,List.getD_eq_getElem?_getD,zhG];cases h:r.ps[j]? with
 |none=>rw[if_neg (λg=>by rw[List.getElem?_eq_getElem g.2] at h;cases h)];rfl
 |some p=>
  have hl:=(List.getElem?_eq_some_iff.1 h).1;show (if i=j then f p else p)=_;by_cases e:i=j
  .rw[if_pos e,if_pos ⟨e,hl⟩];rfl
  .rw[if_neg e,if_neg (λg=>e g.1)];rfl
theorem zfj(r:Rt)(i:Nat){f:Pt->Pt}(hf: ∀p:Pt,Rp p (f p)):Rk r (r.onP i f):=λj=>by
 rw[zgs];split
 .exact hf _
 .exact Rp.refl _
theorem zhh(k:UInt8)(s:List UInt8)(p:Pt):Rp p (putP k s p):=by unfold putP;split<;>exact Rp.refl _
theorem zeE(r:Rt)(i:Nat)(now:Pe):Rk r (zaV r i now):=(zfj r i (f:=λp=>{ p with p:=now }) (λp=>Rp.refl p)).trans (ziu (ps_meet r i now))
theorem rk_learn(r:Rt)(i:Nat)(s:List UInt8):Rk r (zbF r i s):=by
 unfold zbF;split
 .exact Rk.refl r
 .split
  .split
   .exact ziu rfl
   .exact Rk.refl r
  .split
   .exact (zfj r i (zhh 65 s)).trans (ziu rfl)
   .exact ziu rfl
theorem zq1(r:Rt)(m:Mg):Rk r (zcg r m):=by
 unfold zcg;split
 .exact ziu rfl
 .split
  .exact ziu rfl
  .split
   .exact ziu rfl
   .exact zfj r _ (zhh _ _)
theorem rk_carry(r:Rt)(s:List UInt8):Rk r (zba r s):=by
 unfold zba;split
 .exact zq1 _ _
 .exact Rk.refl r
theorem zmC(r:Rt)(to:Int)(t:ByteArray):Rk r (zbw r to t):=by
 unfold zbw;split
 .exact Rk.refl r
 .exact zq1 _ _
theorem rk_tak1(r:Rt)(i:Nat)(k:UInt8)(s:List UInt8):Rk r (tak1 r i k s):=by
 unfold tak1;split
 .exact zfj r i (λp=>⟨rfl,rfl,sp_take _ _⟩)
 .exact Rk.refl r
theorem rk_tak(r:Rt)(i:Nat)(k:UInt8)(s:List UInt8):Rk r (takR r i k s):=by
 have h:=rk_tak1 r i k s;unfold takR;split
 .exact h.trans (zeE _ _ _)
 .split
  .split
   .exact h.trans (zeE _ _ _)
   .exact h
  .split
   .exact h.trans (rk_learn _ _ _)
   .split
    .exact h.trans (ziu (zlf ..))
    .split
     .exact h.trans (rk_carry _ _)
     .exact h
theorem zij(i:Nat): ∀(T:List (List UInt8)) (r:Rt),Rk r (T.foldl (takT i) r)
 |[],r=>Rk.refl r
 |t::T,r=>Rk.trans (by unfold takT;split;exact Rk.refl r;exact rk_tak _ _ _ _) (zij i T _)
theorem rk_tick1(r:Rt)(i:Nat):Rk r (zbX r i):=by
 have h0:Rk r (zas r i):=zfj r i (λp=>⟨rfl,rfl,zpa _⟩);unfold zbX;split
 .exact h0.trans (zeE _ _ _)
 .refine (h0.trans (zeE (zas r i) i (zbD ((zas r i).pt i).p))).trans ?_;refine Rk.trans (zfj _ i (f:=zaQ r.id) (λp=>by unfold zaQ;split;exact zhh _ _ _;exact Rp.refl _)) ?_;generalize (owdB _ _)=L;generalize (Rt.onP _ i (zaQ r.id))=z
  induction L generalizing z with
  |nil=>exact Rk.refl _
  |cons x L ih=>exact Rk.trans (zfj z i (f:=zaS x) (λp=>by unfold zaS;split;exact zhh _ _ _;exact Rp.refl _)) (ih _)
theorem zn6(r:Rt):Rk r (zch r):=by
 unfold zch;generalize List.range r.ps.length=L
 induction L generalizing r with
 |nil=>exact Rk.refl r
 |cons i L ih=>exact (rk_tick1 r i).trans (ih _)
theorem zqQ(r:Rt)(i:Nat):Rk r (outR r i):=zfj r i (λp=>Rp.refl p)
theorem zmd(r:Rt)(i:Nat)(up:Bool){j:Nat}(hj:i≠j):Rp (r.pt j) ((zaZ r i up).pt j):=by
 unfold zaZ;split
 .exact Rp.refl _
 .have:=zeE (r.onP i λp=>zbE { p with l:=doL p.l (if up then 0 else 1),rd:=rd0,rest:=[] }) i peNo j;rw[zgs,if_neg (λg=>hj g.1)] at this;exact this
theorem rk_plug(r:Rt)(i:Nat)(up:Bool)(hi:i<r.ps.length)(ho:(r.pt i).l.opn)(h1:(r.pt i).l.st=1↔up=true):((zaZ r i up).pt i).rd=rd0/\((zaZ r i up).pt i).l.opn/\(((zaZ r i up).pt i).l.st=1↔up=false):=by
 have hE:zdD r i up=0:=by
  unfold zdD;cases up with
  |true=>exact (znr ho (h1.2 rfl)).2.2
  |false=>exact (zhz ho).2.2 (λg=>by cases h1.1 g)
 unfold zaZ;rw[if_neg (λg=>g hE)];have:=zeE (r.onP i λp=>zbE { p with l:=doL p.l (if up then 0 else 1),rd:=rd0,rest:=[] }) i peNo i;rw[zgs,if_pos ⟨rfl,hi⟩] at this;refine⟨this.1,?_⟩;have h2:(doL (r.pt i).l (if up then 0 else 1)).opn:=zpT ho (by split<;>decide);have h3:=this.2.2 (show (outL (doL (r.pt i).l (if up then 0 else 1))).opn from h2);refine⟨h3.1,h3.2.trans ?_⟩;show (doL (r.pt i).l (if up then 0 else 1)).st=1↔_;cases up with
 |true=>exact⟨λg=>absurd g (znr ho (h1.2 rfl)).2.1,λg=>by cases g⟩
 |false=>exact⟨λ_=>rfl,λ_=>(zhz ho).1⟩
theorem rd_recv(r:Rt)(i:Nat)(s:List UInt8)(j:Nat)(hi:i<r.ps.length):((zar r i s).pt j).rd=(if i=j then (zaP (r.pt j).rd s).1 else (r.pt j).rd)/\Sp (r.pt j).l ((zar r i s).pt j).l:=by
 unfold zar;have h:=zij i (zaP (r.pt i).rd s).2.1 (r.onP i λp=>{ p with rd:=(zaP p.rd s).1,rest:=(zbg (p.rest++s)).2.2 }) j;rw[zgs] at h;by_cases e:i=j
 .subst e;rw[if_pos ⟨rfl,hi⟩] at h;rw[if_pos rfl];exact⟨h.1,h.2.2⟩
 .rw[if_neg (λg=>e g.1)] at h;rw[if_neg e];exact⟨h.1,h.2.2⟩
theorem m_recv(r:Rt)(i:Nat)(s:List UInt8)(j:Nat):((zar r i s).pt j).m=(r.pt j).m:=by
 unfold zar;have h:=(zij i (zaP (r.pt i).rd s).2.1 (r.onP i λp=>{ p with rd:=(zaP p.rd s).1,rest:=(zbg (p.rest++s)).2.2 }) j).2.1;rw[zgs] at h;rw[h];split<;>rfl
theorem m_plug(r:Rt)(i:Nat)(up:Bool)(j:Nat):((zaZ r i up).pt j).m=(r.pt j).m:=by
 unfold zaZ;split
 .rfl
 .have h:=(zeE (r.onP i λp=>zbE { p with l:=doL p.l (if up then 0 else 1),rd:=rd0,rest:=[] }) i peNo j).2.1;rw[zgs] at h;rw[h];split<;>rfl
def sumN(n:Nat)(f:Nat->Nat):Nat:=((List.range n).map f).sum
theorem zdR(n:Nat)(f:Nat->Nat):sumN (n+1) f=sumN n f+f n:=by
 unfold sumN;rw[List.range_succ,List.map_append,List.sum_append];simp
theorem ziK{f g:Nat->Nat}: ∀(n:Nat),(∀i,i<n->f i<=g i)->sumN n f<=sumN n g
 |0,_=>Nat.le_refl _
 |n+1,h=>by
  rw[zdR,zdR];have:=ziK n (λi hi=>h i (by omega));have:=h n (by omega);omega
theorem sumN_eq{f g:Nat->Nat}(n:Nat)(h: ∀i,i<n->f i=g i):sumN n f=sumN n g:=
 Nat.le_antisymm (ziK n λi hi=>Nat.le_of_eq (h i hi)) (ziK n λi hi=>Nat.le_of_eq (h i hi).symm)
theorem zcX{f g:Nat->Nat}{i x y:Nat}: ∀(n:Nat),i<n->(∀j,j<n->j≠i->g j=f j)->g i+x<=f i+y->sumN n g+x<=sumN n f+y
 |0,hi,_,_=>absurd hi (Nat.not_lt_zero _)
 |n+1,hi,h,hx=>by
  rw[zdR,zdR];by_cases e:i=n
  .subst e;rw[sumN_eq i (λj hj=>h j (by omega) (by omega))];omega
  .have h1:=zcX n (by omega) (λj hj hne=>h j (by omega) hne) hx;have h2:=h n (by omega) (λg=>e g.symm);omega
def Cb.wr(c:Cb)(s:Bool):List UInt8:=if s then c.w1 else c.w0
def Cb.rdE(c:Cb)(s:Bool):Nat×Nat:=if s then ((c.a-1).toNat,c.pa.toNat) else ((c.b-1).toNat,c.pb.toNat)
def Nt.uq(N:Nt):Prop:= ∀(i j:Nat) (c d:Cb) (s t:Bool),N.cs[i]? =some c->N.cs[j]? =some d->c.rdE s=d.rdE t->i=j/\s=t
def Nt.ptA(N:Nt)(e:Nat×Nat):Pt:=(N.rs.getD e.1 rtD).pt e.2
def Nt.rdA(N:Nt)(e:Nat×Nat):Rd:=(N.ptA e).rd
abbrev Fls:=Nat->Bool->List (List UInt8)
abbrev Ous:=Nat->Nat->List (List UInt8)
def zeI(F:Fls)(i:Nat)(s:Bool)(u:List (List UInt8)):Fls:=λj t=>if j=i/\t=s then u else F j t
def Meas.at(S:Meas)(J:Nat->List Mg->Nat)(U:Ous)(N:Nt)(a:Nat):Nat:=S.v (U a)+S.W (N.rs.getD a rtD).co+J a (N.ib.getD a [])
def Meas.tot(S:Meas)(J:Nat->List Mg->Nat)(F:Fls)(U:Ous)(N:Nt):Nat:=sumN N.cs.length (λi=>S.s (F i false)+S.s (F i true))+sumN N.rs.length (S.at J U N)
structure NI (S:Meas) (J:Nat->List Mg->Nat) (E:Nat->Prop) (X M:Nat) (F:Fls) (U:Ous) (N:Nt):Prop where
 fl: ∀(i:Nat) (c:Cb) (s:Bool),E i->N.cs[i]? =some c->Flow (N.rdA (c.rdE s)) (c.wr s) (F i s)
 fg: ∀i s,S.good X (F i s)
 ou: ∀(a:Nat) (r:Rt) (j:Nat) (p:Pt),N.rs[a]? =some r->r.ps[j]? =some p->p.out=(U a j).flatMap frm
 ug: ∀a j,S.good X (U a j)
 Q: ∀(a:Nat) (r:Rt),N.rs[a]? =some r->S.Q X r.co
 sum:S.tot J F U N+X<=M
theorem zb7{N:Nt}{a:Nat}{r:Rt}(h:N.rs[a]? =some r):N.rs.getD a rtD=r:=by rw[List.getD_eq_getElem?_getD,h];rfl
theorem zkr{ts:List (List UInt8)}(h:Txs ts):zaP rd0 (ts.flatMap frm)=(rd0,ts,0):=zfA ts h
theorem flow_nil{r:Rd}{ts:List (List UInt8)}(h:Flow r [] ts):r=rd0/\ts=[]:=by
 obtain⟨h1,x,h2,h3,h4⟩:=h;rw[List.append_nil] at h4;subst h4;rw[zkr h1] at h2 h3;exact⟨h2.symm,h3⟩
theorem zfc{N:Nt}{a:Int}{G:Rt->Rt}{r:Rt}(hr:N.rs[(a-1).toNat]? =some r)(b:Nat):(N.onR a G).rs[b]? =if (a-1).toNat=b then some (G r) else N.rs[b]? :=by
 rw[ziE];by_cases e:(a-1).toNat=b
 .subst e;rw[if_pos rfl,hr];show some (if _ then _ else _)=_;rw[if_pos rfl]
 .exact Y105
theorem zck{N:Nt}{a:Int}{G:Rt->Rt}{r:Rt}(hr:N.rs[(a-1).toNat]? =some r)(b:Nat):(N.onR a G).rs.getD b rtD=if (a-1).toNat=b then G r else N.rs.getD b rtD:=by
 rw[List.getD_eq_getElem?_getD,List.getD_eq_getElem?_getD,zfc hr];split<;>rfl
theorem zdS{N:Nt}{a:Int}{G:Rt->Rt}{r:Rt}(hr:N.rs[(a-1).toNat]? =some r)(e:Nat×Nat):(N.onR a G).ptA e=if (a-1).toNat=e.1 then (G r).pt e.2 else N.ptA e:=by
 unfold Nt.ptA;rw[zck hr];split<;>rfl
variable {S:Meas} {J:Nat->List Mg->Nat} {E:Nat->Prop} {X M d:Nat} {F:Fls} {U:Ous} {N:Nt}
theorem NI.up(h:NI S J E X M F U N){M':Nat}(hM:M<=M'):NI S J E X M' F U N:=⟨h.fl,h.fg,h.ou,h.ug,h.Q,Nat.le_trans h.sum hM⟩
theorem NI.some(h:NI S J E X M F U N){E':Nat->Prop}(hE: ∀i,E' i->E i):NI S J E' X M F U N:=⟨λi c s g=>h.fl i c s (hE i g),h.fg,h.ou,h.ug,h.Q,h.sum⟩
theorem zj4(h:NI S J E X M F U N)(a:Int){G:Rt->Rt}{r:Rt}(hr:N.rs[(a-1).toNat]? =some r)(hG:Mv S d X r (G r))(hrd: ∀i c s,E i->N.cs[i]? =some c->(N.onR a G).rdA (c.rdE s)=N.rdA (c.rdE s)): ∃Y U',X<=Y/\NI S J E Y (M+d) F U' (N.onR a G):=by
 have ha:=(List.getElem?_eq_some_iff.1 hr).1;obtain⟨Y,V,h1,h2,h3,h4,h5,h6⟩:=hG;refine⟨Y,λb j=>if b=(a-1).toNat then U b j++V j else U b j,h1,⟨λi c s hE hc=>?_,λi s=>(h.fg i s).up h1,λb q j p hq hp=>?_,λb j=>?_,λb q hq=>?_,?_⟩⟩
 .rw[hrd i c s hE hc];exact h.fl i c s hE hc
 .rw[zfc hr] at hq;by_cases e:(a-1).toNat=b
  .subst e;rw[if_pos rfl] at hq;cases hq;have hj:j<r.ps.length:=by rw[<-h4];exact (List.getElem?_eq_some_iff.1 hp).1
   have a1:=h5 j _ p (List.getElem?_eq_getElem hj) hp;have a2:=h.ou _ r j _ hr (List.getElem?_eq_getElem hj);rw[if_pos rfl,a1,a2,List.flatMap_append]
  .rw[if_neg e] at hq;rw[if_neg (λg=>e g.symm)];exact h.ou b q j p hq hp
 .split
  .exact ((h.ug b j).up h1).app (h3 j)
  .exact (h.ug b j).up h1
 .rw[zfc hr] at hq;split at hq
  .cases hq;exact h2
  .exact S.Qm h1 (h.Q b q hq)
 .have hs:=h.sum;unfold Meas.tot at hs ⊢;have hlen:(N.onR a G).rs.length=N.rs.length:=List.length_modify ..;rw[hlen,show (N.onR a G).cs=N.cs from rfl];have hv: ∀f:Nat->List (List UInt8),S.v (λj=>f j++V j)=S.v f+S.v V:=λf=>by unfold Meas.v;simp only[Meas.s_app];omega
  have key:=zcX (f:=S.at J U N) (g:=S.at J (λb j=>if b=(a-1).toNat then U b j++V j else U b j) (N.onR a G)) (i:=(a-1).toNat) (x:=Y) (y:=d+X) N.rs.length ha (λb hb hne=>by
   unfold Meas.at;rw[zck hr,if_neg (λg=>hne g.symm)];simp only[if_neg hne];rfl) (by
   unfold Meas.at;rw[zck hr,if_pos rfl,zb7 hr];simp only[if_true];have:=hv (U (a-1).toNat);show S.v _+S.W (G r).co+J (a-1).toNat (N.ib.getD (a-1).toNat [])+Y<=_;omega)
  omega
theorem ni_cs(h:NI S J E X M F U N){C:List Cb}{F':Fls}{E':Nat->Prop}{x y:Nat}(hfl: ∀(i:Nat) (c:Cb) (s:Bool),E' i->C[i]? =some c->Flow (N.rdA (c.rdE s)) (c.wr s) (F' i s))(hfg: ∀i s,S.good X (F' i s))(hs:sumN C.length (λi=>S.s (F' i false)+S.s (F' i true))+y<=sumN N.cs.length (λi=>S.s (F i false)+S.s (F i true))+x):NI S J E' X (M+x-y) F' U { N with cs:=C }:=by
 refine⟨hfl,hfg,h.ou,h.ug,h.Q,?_⟩;have:=h.sum;unfold Meas.tot at this ⊢;show sumN C.length _+sumN N.rs.length (S.at J U N)+X<=_;omega
def CsE(N Q:Nt):Prop:=Q.cs.length=N.cs.length/\ ∀(j:Nat) (c:Cb),N.cs[j]? =some c-> ∃d,Q.cs[j]? =some d/\Ends c d
theorem CsE.refl(N:Nt):CsE N N:=⟨rfl,λj c h=>⟨c,h,rfl,rfl,rfl,rfl,rfl,rfl⟩⟩
theorem CsE.trans{A B C:Nt}(h:CsE A B)(g:CsE B C):CsE A C:=⟨g.1.trans h.1,λj c hc=>by
 obtain⟨d,hd,e⟩:=h.2 j c hc;obtain⟨x,hx,f⟩:=g.2 j d hd;exact⟨x,hx,f.1.trans e.1,f.2.1.trans e.2.1,f.2.2.1.trans e.2.2.1,f.2.2.2.1.trans e.2.2.2.1,f.2.2.2.2.1.trans e.2.2.2.2.1,f.2.2.2.2.2.trans e.2.2.2.2.2⟩⟩
theorem cse_gath{k n d e:Nat}{N:Nt}(h:N.ok k n d e):CsE N (zbO N):=by
 have g:=zj1 h;have f:=(zca N).1;refine⟨by rw[f];exact g.cl,λj c hc=>?_⟩;obtain⟨x,hx,he,_⟩:=g.cs j c hc;exact⟨x,by rw[f];exact hx,he⟩
theorem znl(N:Nt)(i:Int)(F:Rt->Rt):CsE N (N.onR i F):=CsE.refl N
theorem cse_cs{N:Nt}{i:Nat}{c c':Cb}(hc:N.cs[i]? =some c)(he:Ends c c'):CsE N { N with cs:=N.cs.set i c' }:=by
 refine⟨List.length_set .., λj x hx=>?_⟩;show ∃d,(N.cs.set i c')[j]? =some d/\_;rw[zjb hx];by_cases e:i=j
 .subst e;rw[hc] at hx;cases hx;exact⟨c',by rw[if_pos rfl],he⟩
 .exact⟨x,by rw[if_neg e],rfl,rfl,rfl,rfl,rfl,rfl⟩
section
variable {k d e:Nat} {N:Nt}
def nIn(N:Nt)(i:Int)(up:Bool):Nt:=match N.cb i with
 |none=>N
 |some c=>{ N with cs:=N.cs.set i.toNat { c with inn:=up } }
theorem cse_plug(h:N.inv k d e)(i:Int)(up:Bool):CsE (nIn N i up) (zbY N i up):=by
 unfold zbY nIn;cases hcb:N.cb i with
 |none=>exact CsE.refl N
 |some c=>
  show CsE { N with cs:=N.cs.set i.toNat { c with inn:=up } } (if c.inn=up then N else zbO (zgf N i.toNat c up));obtain⟨h0,hc⟩:=zdL hcb;have hco:=h.ok.c c (getq hc);have hlt:=(List.getElem?_eq_some_iff.1 hc).1;split
  .rename_i hu;have:N.cs.set i.toNat { c with inn:=up }=N.cs:=by
    rw[<-hu];refine List.ext_getElem? λj=>?_;rw[List.getElem?_set];split
    .rename_i e;subst e;exact hc.symm
    .rfl
   rw[show ({ N with cs:=N.cs.set i.toNat { c with inn:=up } }:Nt)=N from by rw[this]];exact CsE.refl N
  .have k1:=zem h.ok i.toNat (c:={ c with inn:=up,w0:=[],w1:=[] }) ⟨hco.a,hco.pa,hco.b,hco.pb,Nat.zero_le _,Nat.zero_le _⟩;have k2:=zat k1 (m:=390) (f:=d) (by omega) (Nat.le_refl _) c.a (F:=λr=>zaZ r c.pa.toNat up) (λr hr=>by have:=zcY hr c.pa.toNat up;rw[Nat.zero_add] at this;exact this);have k3:=zat k2 (m:=780) (f:=d) (by omega) (Nat.le_refl _) c.b (F:=λr=>zaZ r c.pb.toNat up) (λr hr=>zcY hr c.pb.toNat up);have h1:CsE { N with cs:=N.cs.set i.toNat { c with inn:=up } } { N with cs:=N.cs.set i.toNat { c with inn:=up,w0:=[],w1:=[] } }:=by
    have:=cse_cs (N:={ N with cs:=N.cs.set i.toNat { c with inn:=up } }) (i:=i.toNat) (c:={ c with inn:=up }) (c':={ c with inn:=up,w0:=[],w1:=[] }) (by show (N.cs.set _ _)[i.toNat]? =_;rw[List.getElem?_set_self hlt]) ⟨rfl,rfl,rfl,rfl,rfl,rfl⟩;rw[List.set_set] at this;exact this
   exact h1.trans (((znl _ c.a _).trans (znl _ c.b _)).trans (cse_gath k3))
end
end Go.Proofs.YtimfnpjcedjmiadGreat
