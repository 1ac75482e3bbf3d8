/- Lemmas. -/
import Derived.Test.YtimfnpjcedjmiadGreatK29
set_option maxRecDepth 100000
set_option maxHeartbeats 64000000
set_option linter.all false
namespace Go.Proofs.YtimfnpjcedjmiadGreat
open Go.RowKit
def xsV(v:Nat->Nat)(k:Nat):List Value:=(List.range k).map λj=>.pointer (some ⟨v j,0,none⟩)
def zhV(v:Nat->Nat)(k:Nat):List (List AV):=(List.range k).map λj=>[.v (.pointer (some ⟨v j,0,none⟩))]
def ntE(N:Nt)(v:Nat->Nat)(g:Nat):List Res:=
 .cells [.arr 1 0 N.ib.length,.arr 2 0 N.cs.length,.arr 3 0 N.mt.length,.arr 4 0 N.ib.length]::.arr false 45 1 0 (zhV v N.ib.length)::.arr true 91 8 0 (N.cs.map zb2)::.arr true 88 1 0 (N.mt.map mtRow)::.arr false 63 1 0 (rowsI 6 g N.ib)::famR (xsV v N.ib.length) N.rs::resI g N.ib
theorem zbb{v:Nat->Nat}{k j:Nat}(h:j<k):(xsV v k)[j]? =some (.pointer (some ⟨v j,0,none⟩)):=by
 unfold xsV;rw[List.getElem?_map,List.getElem?_range h];rfl
theorem zam{v:Nat->Nat}{k j:Nat}(h:j<k):(zhV v k)[j]? =some [.v (.pointer (some ⟨v j,0,none⟩))]:=by
 unfold zhV;rw[List.getElem?_map,List.getElem?_range h];rfl
theorem prows_len(v:Nat->Nat)(k:Nat):(zhV v k).length=k:=by unfold zhV;simp
theorem zij(v:Nat->Nat)(k:Nat):(xsV v k).length=k:=by unfold xsV;simp
theorem resR_get: ∀(rs:List Rt) (i:Nat),(resR rs)[i]? =rs[i]?.map rtO
 |[],i=>by simp [resR]
 |r::rs,0=>rfl
 |r::rs,i+1=>by
  show (resR rs)[i]? =_;rw[resR_get rs i];rfl
theorem zcZ: ∀(rs:List Rt) (q i:Nat),(rowsR q rs)[i]? =rs[i]?.map λ_=>[.box (q+i) 0]
 |[],q,i=>by simp [rowsR]
 |r::rs,q,0=>rfl
 |r::rs,q,i+1=>by
  show (rowsR (q+1) rs)[i]? =_;rw[zcZ rs (q+1) i,show q+1+i=q+(i+1) by omega];rfl
theorem zbs: ∀(ib:List (List Mg)) (q g i:Nat),(rowsI q g ib)[i]? =ib[i]?.map λl=>[.arr (q+i) g l.length]
 |[],q,g,i=>by simp [rowsI]
 |l::ib,q,g,0=>rfl
 |l::ib,q,g,i+1=>by
  show (rowsI (q+1) g ib)[i]? =_;rw[zbs ib (q+1) g i,show q+1+i=q+(i+1) by omega];rfl
theorem resI_get: ∀(ib:List (List Mg)) (g i:Nat),(resI g ib)[i]? =ib[i]?.map λl=>.arr true 67 3 g (l.map zdw)
 |[],g,i=>by simp [resI]
 |l::ib,g,0=>rfl
 |l::ib,g,i+1=>by
  show (resI g ib)[i]? =_;rw[resI_get ib g i];rfl
theorem ziL{α β:Type}{l:List α}{m:List β}{f:Nat->α->β}(h: ∀i,m[i]? =l[i]?.map (f i)):m.length=l.length:=by
 rcases Nat.lt_trichotomy m.length l.length with g|g|g
 .have:=h m.length;rw[List.getElem?_eq_none (Nat.le_refl _),List.getElem?_eq_getElem g] at this;cases this
 .exact g
 .have:=h l.length;rw[List.getElem?_eq_none (l:=l) (Nat.le_refl _),List.getElem?_eq_getElem g] at this;cases this
theorem resR_len(rs:List Rt):(resR rs).length=rs.length:=ziL (f:=λ_=>rtO) (resR_get rs)
theorem zgO(rs:List Rt)(q:Nat):(rowsR q rs).length=rs.length:=ziL (f:=λi _=>[.box (q+i) 0]) (zcZ rs q)
theorem zbo(ib:List (List Mg))(q g:Nat):(rowsI q g ib).length=ib.length:=ziL (f:=λi l=>[.arr (q+i) g l.length]) (zbs ib q g)
theorem resI_len(ib:List (List Mg))(g:Nat):(resI g ib).length=ib.length:=ziL (f:=λ_ l=>.arr true 67 3 g (l.map zdw)) (resI_get ib g)
theorem zf3(N:Nt)(v:Nat->Nat)(g:Nat):(ntE N v g).length=6+N.ib.length:=by
 unfold ntE;simp only[List.length_cons,resI_len];omega
theorem zkS(N:Nt)(g:Nat):(ntM N g).length=5+N.rs.length+N.ib.length:=by
 unfold ntM ntH;simp only[List.length_append,List.length_cons,List.length_nil,resR_len,resI_len];omega
theorem ntM_r(N:Nt)(g i:Nat):(ntM N g)[5+i]? =(resR N.rs++resI g N.ib)[i]? :=by
 show (_::_::_::_::_::(resR N.rs++resI g N.ib):List Res)[5+i]? =_;rw[show 5+i=i+1+1+1+1+1 by omega];simp only[List.getElem?_cons_succ]
theorem ntE_i(N:Nt)(v:Nat->Nat)(g i:Nat):(ntE N v g)[6+i]? =(resI g N.ib)[i]? :=by
 unfold ntE;rw[show 6+i=i+1+1+1+1+1+1 by omega];simp only[List.getElem?_cons_succ]
def muE(k:Nat)(μ:zaJ):zaJ:=λid=>if id<=5 then μ id else if id<6+k then μ (id+k-1) else none
theorem znb{σ:zaM}{μ:zaJ}{q:Nat}{y:Value}{b:Nat}(h:RepV σ μ (.box q 0) y)(hq:μ q=some (.fix (.pointer (some ⟨b,0,none⟩)))):y=.pointer (some ⟨b,0,none⟩):=by
 cases h with
 |box _ _ _ c hc=>
  rw[hq] at hc;simp only[Option.some.injEq,An.fix.injEq,Value.pointer.injEq,Addr.mk.injEq] at hc;rw[hc.1]
theorem zfP{σ:zaM}{μ μ':zaJ}{q q' g n:Nat}{y:Value}(h:RepV σ μ (.arr q g n) y)(hq:μ' q'=μ q):RepV σ μ' (.arr q' g n) y:=by
 cases h with
 |arr _ _ _ _ ao m cap a hn hm hmax h hl=>exact .arr _ q' g n ao m cap a hn hm hmax (hq.trans h) hl
theorem ib_ren{σ:zaM}{μ μ':zaJ}{w:World}{q q' id id' g:Nat}{ib:List (List Mg)}{D:Nat->Prop}(h:ROk σ μ w id D (.arr false 63 1 0 (rowsI q g ib)))(hid:μ' id'=μ id)(hq: ∀i,i<ib.length->μ' (q'+i)=μ (q+i)):ROk σ μ' w id' D (.arr false 63 1 0 (rowsI q' g ib)):=by
 obtain⟨ao,cap,xs,h1,h2,h3,h4,h5,h6⟩:=h;rw[zbo] at h1 h2;refine⟨ao,cap,xs,by rw[zbo,hid];exact h1,by rw[zbo];exact h2,λr hr=>?_,λi j r av g1 g2=>?_,h5,h6⟩
 .exact Y74
 .rw[zbs] at g1;obtain⟨l,hl,rfl⟩:=Option.map_eq_some_iff.1 g1;cases j with
  |succ j=>simp at g2
  |zero=>
   simp only[List.getElem?_cons_zero,Option.some.injEq] at g2;subst g2;obtain⟨y,y1,y2,y3⟩:=h4 i 0 [.arr (q+i) g l.length] (.arr (q+i) g l.length) (by rw[zbs,hl];rfl) rfl;exact⟨y,y1,zfP y2 (hq i (List.getElem?_eq_some_iff.1 hl).1),y3⟩
theorem zgn{σ:zaM}{μ μ':zaJ}{w:World}{id id' a b c d:Nat}{D:Nat->Prop}{i1 i2 i3 i4:Nat}(h:ROk σ μ w id D (.cells [.arr i1 0 a,.arr i2 0 b,.arr i3 0 c,.arr i4 0 d]))(hid:μ' id'=μ id)(e1:μ' i1=μ i1)(e2:μ' i2=μ i2)(e3:μ' i3=μ i3)(e4:μ' i4=μ i4):ROk σ μ' w id' D (.cells [.arr i1 0 a,.arr i2 0 b,.arr i3 0 c,.arr i4 0 d]):=by
 obtain⟨x,cs,T,h1,h2,h3,h4,h5,h6⟩:=h;refine⟨x,cs,T,hid.trans h1,h2,h3,λi av hi=>?_,h5,h6⟩;obtain⟨y,y1,y2⟩:=h4 i av hi;refine⟨y,y1,?_⟩
 match i,hi with
 |0,hi=>simp only[List.getElem?_cons_zero,Option.some.injEq] at hi;subst hi;exact zfP y2 e1
 |1,hi=>simp only[List.getElem?_cons_succ,List.getElem?_cons_zero,Option.some.injEq] at hi;subst hi;exact zfP y2 e2
 |2,hi=>simp only[List.getElem?_cons_succ,List.getElem?_cons_zero,Option.some.injEq] at hi;subst hi;exact zfP y2 e3
 |3,hi=>simp only[List.getElem?_cons_succ,List.getElem?_cons_zero,Option.some.injEq] at hi;subst hi;exact zfP y2 e4
 |i+4,hi=>simp at hi
theorem zcR{σ:zaM}{μ μ':zaJ}{w:World}{id id' E sz g:Nat}{rows:List (List AV)}{D:Nat->Prop}(h:ROk σ μ w id D (.arr true E sz g rows))(hid:μ' id'=μ id):ROk σ μ' w id' D (.arr true E sz g rows):=by
 obtain⟨ao,cap,xs,h1,h2⟩:=h;exact⟨ao,cap,xs,hid.trans h1,h2⟩
theorem memE_of{σ:zaM}{μ:zaJ}{w:World}{Ds:Nat->Nat->Prop}{N:Nt}(hk:1<=N.ib.length)(hrs:N.rs.length=N.ib.length)(h:MemOk σ μ w (ntM N 0) Ds):
  ∃v D,MemOk σ (muE N.ib.length μ) w (ntE N v 0) D/\ ∀b,(∃i,D i b)↔ ∃i,Ds i b:=by
 generalize hK:N.ib.length=k at *
 have hobj: ∀j,j<k-> ∃c,μ (5+j)=some (.fix (.pointer (some ⟨c,0,none⟩)))/\ ∀r,N.rs[j]? =some r->(zcB (rtM r 0)).rep σ w c (Ds (5+j)):=λj hj=>by
  have hr:=List.getElem?_eq_getElem (l:=N.rs) (i:=j) (by omega);have:(ntM N 0)[5+j]? =some (rtO N.rs[j]):=by
   rw[ntM_r,List.getElem?_append_left (by rw[resR_len];omega),resR_get,hr];rfl
  obtain⟨c,h1,h2⟩:=h.ok _ _ this;exact⟨c,h1,λr hr'=>by rw[hr] at hr';obtain rfl:=Option.some.inj hr';exact h2⟩
 let v:Nat->Nat:=λj=>match μ (5+j) with
  |some (.fix (.pointer (some ⟨c,_,_⟩)))=>c
  |_=>0
 have hv: ∀j,j<k->μ (5+j)=some (.fix (.pointer (some ⟨v j,0,none⟩)))/\ ∀r,N.rs[j]? =some r->(zcB (rtM r 0)).rep σ w (v j) (Ds (5+j)):=λj hj=>by
  obtain⟨c,h1,h2⟩:=hobj j hj;have e:v j=c:=by
   show (match μ (5+j) with
    |some (.fix (.pointer (some ⟨c,_,_⟩)))=>c
    |_=>0)=c
   rw[h1]
  rw[e];exact⟨h1,h2⟩
 have hle: ∀id,id<=5->muE k μ id=μ id:=λid h=>if_pos h;have hgt: ∀i,i<k->muE k μ (6+i)=μ (5+k+i):=λi hi=>by
  unfold muE;rw[if_neg (by omega),if_pos (by omega)];congr 1;omega
 let D:Nat->Nat->Prop:=λid b=>if id<5 then Ds id b else if id=5 then ∃j,j<k/\Ds (5+j) b else if id<6+k then Ds (id+k-1) b else False
 have hD5: ∀id,id<5->D id=Ds id:=λid h=>by funext b;exact if_pos h
 have hDi: ∀i,i<k->D (6+i)=Ds (5+k+i):=λi hi=>by
  funext b
  show (if 6+i<5 then _ else if 6+i=5 then _ else if 6+i<6+k then Ds (6+i+k-1) b else False)=_;rw[if_neg (by omega),if_neg (by omega),if_pos (by omega),show 6+i+k-1=5+k+i by omega]
 refine⟨v,D,⟨λid r hr=>?_,λi j b hi hj=>?_,λid hid=>?_⟩,λb=>⟨?_,?_⟩⟩
 .match id,hr with
  |0,hr=>
   simp only[ntE,List.getElem?_cons_zero,Option.some.injEq,hK] at hr;subst hr;rw[hD5 0 (by decide)];have:=h.ok 0 (.cells [.arr 1 0 N.rs.length,.arr 2 0 N.cs.length,.arr 3 0 N.mt.length,.arr 4 0 N.rs.length]) rfl;rw[hrs] at this;exact zgn this (hle 0 (by decide)) (hle 1 (by decide)) (hle 2 (by decide)) (hle 3 (by decide)) (hle 4 (by decide))
  |1,hr=>
   simp only[ntE,List.getElem?_cons_succ,List.getElem?_cons_zero,Option.some.injEq,hK] at hr;subst hr;rw[hD5 1 (by decide)];obtain⟨ao,cap,xs,h1,h2,h3,h4,h5,h6⟩:=h.ok 1 (.arr false 45 1 0 (rowsR 5 N.rs)) rfl;rw[zgO,hrs] at h1 h2;refine⟨ao,cap,xs,by rw[prows_len,hle 1 (by decide)];exact h1,by rw[prows_len];exact h2,λr hr=>?_,λi j r av g1 g2=>?_,h5,h6⟩
   .obtain⟨j,_,rfl⟩:=List.mem_map.1 hr;rfl
   .have hi:i<k:=by have:=(List.getElem?_eq_some_iff.1 g1).1;rw[prows_len] at this;exact this
    rw[zam hi] at g1;obtain rfl:=Option.some.inj g1;cases j with
    |succ j=>simp at g2
    |zero=>
     simp only[List.getElem?_cons_zero,Option.some.injEq] at g2;subst g2;obtain⟨y,y1,y2,y3⟩:=h4 i 0 [.box (5+i) 0] (.box (5+i) 0) (by rw[zcZ,List.getElem?_eq_getElem (by omega)];rfl) rfl;refine⟨y,y1,?_,y3⟩;rw[znb y2 (hv i hi).1];exact .v _ _
  |2,hr=>
   simp only[ntE,List.getElem?_cons_succ,List.getElem?_cons_zero,Option.some.injEq] at hr;subst hr;rw[hD5 2 (by decide)];exact zcR (h.ok 2 _ rfl) (hle 2 (by decide))
  |3,hr=>
   simp only[ntE,List.getElem?_cons_succ,List.getElem?_cons_zero,Option.some.injEq] at hr;subst hr;rw[hD5 3 (by decide)];exact zcR (h.ok 3 _ rfl) (hle 3 (by decide))
  |4,hr=>
   simp only[ntE,List.getElem?_cons_succ,List.getElem?_cons_zero,Option.some.injEq] at hr;subst hr;rw[hD5 4 (by decide)];have:=h.ok 4 (.arr false 63 1 0 (rowsI (5+N.rs.length) 0 N.ib)) rfl;exact ib_ren this (hle 4 (by decide)) (λi hi=>by rw[hgt i (by omega),hrs])
  |5,hr=>
   simp only[ntE,List.getElem?_cons_succ,List.getElem?_cons_zero,Option.some.injEq,hK] at hr;subst hr;refine⟨v 0,by rw[hle 5 (by decide)];exact (hv 0 (by omega)).1,λj=>if j<k then Ds (5+j) else λ_=>False,by rw[zij,List.length_map,hrs],⟨λj x p hx hp=>?_,λi j b hi hj=>?_,λb=>?_,λj b hj=>?_⟩⟩
   .have hjk:j<k:=by have:=(List.getElem?_eq_some_iff.1 hx).1;rw[zij] at this;exact this
    rw[zbb hjk] at hx;obtain rfl:=Option.some.inj hx;rw[List.getElem?_map] at hp;obtain⟨r,hr,rfl⟩:=Option.map_eq_some_iff.1 hp;refine⟨v j,rfl,?_⟩;rw[if_pos hjk];exact (hv j hjk).2 r hr
   .split at hi<;>split at hj
    .have:=h.apart _ _ b hi hj;omega
    .exact hj.elim
    .exact hi.elim
    .exact hi.elim
   .show (if 5<5 then _ else if 5=5 then ∃j,j<k/\Ds (5+j) b else _)↔_;rw[if_neg (by decide),if_pos rfl];exact⟨λ⟨j,hj,hb⟩=>⟨j,by rw[if_pos hj];exact hb⟩,λ⟨j,hb⟩=>by
     split at hb
     .rename_i hj;exact⟨j,hj,hb⟩
     .exact hb.elim⟩
   .split at hj
    .rename_i hj';rw[List.length_map,hrs];exact hj'
    .exact hj.elim
  |i+6,hr=>
   rw[show i+6=6+i by omega] at hr ⊢;rw[ntE_i,resI_get] at hr;obtain⟨l,hl,rfl⟩:=Option.map_eq_some_iff.1 hr;have hi:i<k:=by have:=(List.getElem?_eq_some_iff.1 hl).1;omega
   rw[hDi i hi];refine zcR (h.ok (5+k+i) _ ?_) (hgt i hi);rw[show 5+k+i=5+(k+i) by omega,ntM_r,List.getElem?_append_right (by rw[resR_len];omega),resR_len,hrs,show k+i-k=i by omega,resI_get,hl];rfl
 .have key: ∀id b,D id b->(id<5/\Ds id b)\/(id=5/\ ∃j,j<k/\Ds (5+j) b)\/(6<=id/\id<6+k/\Ds (id+k-1) b):=λid b hd=>by
   simp only[D] at hd;split at hd
   .exact .inl ⟨by assumption,hd⟩
   .split at hd
    .exact .inr (.inl ⟨by assumption,hd⟩)
    .split at hd
     .exact .inr (.inr ⟨by omega,by assumption,hd⟩)
     .exact hd.elim
  rcases key i b hi with⟨a1,a2⟩|⟨a1,p,a2,a3⟩|⟨a1,a2,a3⟩<;>rcases key j b hj with⟨b1,b2⟩|⟨b1,q,b2,b3⟩|⟨b1,b2,b3⟩
  .exact h.apart i j b a2 b2
  .have:=h.apart _ _ b a2 b3;omega
  .have:=h.apart _ _ b a2 b3;omega
  .have:=h.apart _ _ b a3 b2;omega
  .omega
  .have:=h.apart _ _ b a3 b3;omega
  .have:=h.apart _ _ b a3 b2;omega
  .have:=h.apart _ _ b a3 b3;omega
  .have:=h.apart _ _ b a3 b3;omega
 .rw[zf3,hK] at hid;refine⟨by unfold muE;rw[if_neg (by omega),if_neg (by omega)],λb hb=>?_⟩;simp only[D] at hb;rw[if_neg (by omega),if_neg (by omega),if_neg (by omega)] at hb;exact hb
 .rintro⟨i,hi⟩;simp only[D] at hi;split at hi
  .exact⟨i,hi⟩
  .split at hi
   .obtain⟨j,_,hj⟩:=hi;exact⟨_,hj⟩
   .split at hi
    .exact⟨_,hi⟩
    .exact hi.elim
 .rintro⟨i,hi⟩;have hlt:=h.lt hi;rw[zkS,hrs,hK] at hlt;rcases Nat.lt_or_ge i 5 with g|g
  .exact⟨i,by rw[hD5 i g];exact hi⟩
  .rcases Nat.lt_or_ge i (5+k) with g2|g2
   .refine⟨5,?_⟩;show (if 5<5 then _ else if 5=5 then ∃j,j<k/\Ds (5+j) b else _);rw[if_neg (by decide),if_pos rfl];exact⟨i-5,by omega,by rw[show 5+(i-5)=i by omega];exact hi⟩
   .exact⟨6+(i-5-k),by rw[hDi _ (by omega),show 5+k+(i-5-k)=i by omega];exact hi⟩
def zg:An->An
 | .cur ao n cap _=>.cur ao n cap 0
 |x=>x
theorem memM_of{σ:zaM}{μ:zaJ}{w:World}{Ds:Nat->Nat->Prop}{N:Nt}{v:Nat->Nat}{g:Nat}(hrs:N.rs.length=N.ib.length)(h:MemOk σ μ w (ntE N v g) Ds):
  ∃μ' D,MemOk σ μ' w (ntM N 0) D/\μ' 0=μ 0/\ ∀b,(∃i,D i b)↔ ∃i,Ds i b:=by
 generalize hK:N.ib.length=k at *
 obtain⟨c5,_,E,hEl,hE⟩:=h.ok 5 (famR (xsV v N.ib.length) N.rs) rfl;rw[hK] at hE;let μ':zaJ:=λid=>if id<5 then μ id else if id<5+k then some (.fix (.pointer (some ⟨v (id-5),0,none⟩))) else (μ (id+1-k)).map zg
 let D:Nat->Nat->Prop:=λid b=>if id<5 then Ds id b else if id<5+k then E (id-5) b else Ds (id+1-k) b
 have m5: ∀id,id<5->μ' id=μ id:=λid h=>if_pos h;have mr: ∀j,j<k->μ' (5+j)=some (.fix (.pointer (some ⟨v j,0,none⟩))):=λj hj=>by
  show (if 5+j<5 then _ else if 5+j<5+k then _ else _)=_;rw[if_neg (by omega),if_pos (by omega),show 5+j-5=j by omega]
 have mi: ∀i,μ' (5+k+i)=(μ (6+i)).map zg:=λi=>by
  show (if 5+k+i<5 then _ else if 5+k+i<5+k then _ else (μ (5+k+i+1-k)).map zg)=_;rw[if_neg (by omega),if_neg (by omega),show 5+k+i+1-k=6+i by omega]
 have d5: ∀id,id<5->D id=Ds id:=λid h=>by funext b;exact if_pos h
 have dr: ∀j,j<k->D (5+j)=E j:=λj hj=>by
  funext b
  show (if 5+j<5 then _ else if 5+j<5+k then E (5+j-5) b else _)=_;rw[if_neg (by omega),if_pos (by omega),show 5+j-5=j by omega]
 have di: ∀i,D (5+k+i)=Ds (6+i):=λi=>by
  funext b
  show (if 5+k+i<5 then _ else if 5+k+i<5+k then _ else Ds (5+k+i+1-k) b)=_;rw[if_neg (by omega),if_neg (by omega),show 5+k+i+1-k=6+i by omega]
 have hEk: ∀j b,E j b->j<k:=λj b hj=>by have:=hE.out j b hj;rw[List.length_map] at this;omega
 have hE5: ∀j b,E j b->Ds 5 b:=λj b hj=>(hE.all b).2 ⟨j,hj⟩;refine⟨μ',D,⟨λid r hr=>?_,λi j b hi hj=>?_,λid hid=>?_⟩,m5 0 (by decide),λb=>⟨?_,?_⟩⟩
 .match id,hr with
  |0,hr=>
   obtain rfl:Res.cells [.arr 1 0 N.rs.length,.arr 2 0 N.cs.length,.arr 3 0 N.mt.length,.arr 4 0 N.rs.length]=r:=Option.some.inj hr;rw[d5 0 (by decide)];have:=h.ok 0 (.cells [.arr 1 0 N.ib.length,.arr 2 0 N.cs.length,.arr 3 0 N.mt.length,.arr 4 0 N.ib.length]) rfl;rw[hK,<-hrs] at this;exact zgn this (m5 0 (by decide)) (m5 1 (by decide)) (m5 2 (by decide)) (m5 3 (by decide)) (m5 4 (by decide))
  |1,hr=>
   obtain rfl:Res.arr false 45 1 0 (rowsR 5 N.rs)=r:=Option.some.inj hr;rw[d5 1 (by decide)];obtain⟨ao,cap,xs,h1,h2,h3,h4,h5,h6⟩:=h.ok 1 (.arr false 45 1 0 (zhV v N.ib.length)) rfl;rw[prows_len,hK] at h1 h2;refine⟨ao,cap,xs,by rw[zgO,hrs,m5 1 (by decide)];exact h1,by rw[zgO,hrs];exact h2,λr hr=>?_,λi j r av g1 g2=>?_,h5,h6⟩
   .obtain⟨i,hi⟩:=List.getElem?_of_mem hr;rw[zcZ] at hi;obtain⟨l,_,rfl⟩:=Option.map_eq_some_iff.1 hi;rfl
   .rw[zcZ] at g1;obtain⟨l,hl,rfl⟩:=Option.map_eq_some_iff.1 g1;have hi:i<k:=by have:=(List.getElem?_eq_some_iff.1 hl).1;omega
    cases j with
    |succ j=>simp at g2
    |zero=>
     simp only[List.getElem?_cons_zero,Option.some.injEq] at g2;subst g2;obtain⟨y,y1,y2,y3⟩:=h4 i 0 [.v (.pointer (some ⟨v i,0,none⟩))] (.v (.pointer (some ⟨v i,0,none⟩))) (by rw[hK];exact zam hi) rfl;refine⟨y,y1,?_,y3⟩;rw[y2.inv_v];exact .box _ _ 0 (v i) (mr i hi)
  |2,hr=>
   obtain rfl:Res.arr true 91 8 0 (N.cs.map zb2)=r:=Option.some.inj hr;rw[d5 2 (by decide)];exact zcR (h.ok 2 _ rfl) (m5 2 (by decide))
  |3,hr=>
   obtain rfl:Res.arr true 88 1 0 (N.mt.map mtRow)=r:=Option.some.inj hr;rw[d5 3 (by decide)];exact zcR (h.ok 3 _ rfl) (m5 3 (by decide))
  |4,hr=>
   obtain rfl:Res.arr false 63 1 0 (rowsI (5+N.rs.length) 0 N.ib)=r:=Option.some.inj hr;rw[d5 4 (by decide)];obtain⟨ao,cap,xs,h1,h2,h3,h4,h5,h6⟩:=h.ok 4 (.arr false 63 1 0 (rowsI 6 g N.ib)) rfl;rw[zbo] at h1 h2;refine⟨ao,cap,xs,by rw[zbo,m5 4 (by decide)];exact h1,by rw[zbo];exact h2,λr hr=>?_,λi j r av g1 g2=>?_,h5,h6⟩
   .exact Y74
   .rw[zbs] at g1;obtain⟨l,hl,rfl⟩:=Option.map_eq_some_iff.1 g1;cases j with
    |succ j=>simp at g2
    |zero=>
     simp only[List.getElem?_cons_zero,Option.some.injEq] at g2;subst g2;obtain⟨y,y1,y2,y3⟩:=h4 i 0 [.arr (6+i) g l.length] (.arr (6+i) g l.length) (by rw[zbs,hl];rfl) rfl;refine⟨y,y1,?_,y3⟩;cases y2 with
     |arr _ _ _ _ ao' m' cap' a hn hm hmax h7 h8=>
      obtain⟨ao2,cap2,xs2,q1,_⟩:=h.ok (6+i) (.arr true 67 3 g (l.map zdw)) (by rw[ntE_i,resI_get,hl];rfl);have h7':μ (6+i)=some a:=h7;rw[q1] at h7';obtain rfl:=Option.some.inj h7';obtain⟨_,h8⟩:=h8;obtain⟨rfl,rfl,rfl⟩:=h8 rfl;refine .arr _ _ 0 _ _ _ _ (.cur ao2 (l.map zdw).length cap2 0) hn hm hmax ?_ (An.le_refl _);show μ' (5+N.rs.length+i)=_;rw[hrs,mi i,q1];rfl
  |i+5,hr=>
   rw[show i+5=5+i by omega] at hr ⊢;rw[ntM_r] at hr;rcases Nat.lt_or_ge i k with hi|hi
   .rw[List.getElem?_append_left (by rw[resR_len];omega),resR_get] at hr;obtain⟨r0,hr0,rfl⟩:=Option.map_eq_some_iff.1 hr;rw[dr i hi];obtain⟨b,hb1,hb2⟩:=hE.one i (.pointer (some ⟨v i,0,none⟩)) (zcB (rtM r0 0)) (zbb hi) (by rw[List.getElem?_map,hr0];rfl);simp only[Value.pointer.injEq,Option.some.injEq,Addr.mk.injEq,and_true] at hb1;subst hb1;exact⟨v i,mr i hi,hb2⟩
   .rw[List.getElem?_append_right (by rw[resR_len];omega),resR_len,hrs,resI_get] at hr;obtain⟨l,hl,rfl⟩:=Option.map_eq_some_iff.1 hr;obtain⟨q,rfl⟩: ∃q,i=k+q:=⟨i-k,by omega⟩;rw[show k+q-k=q by omega] at hl;rw[show 5+(k+q)=5+k+q by omega,di q];obtain⟨ao,cap,xs,h1,h2⟩:=h.ok (6+q) (.arr true 67 3 g (l.map zdw)) (by rw[ntE_i,resI_get,hl];rfl);exact⟨ao,cap,xs,by rw[mi q,h1];rfl,h2⟩
 .have key: ∀id b,D id b->(id<5/\Ds id b)\/(5<=id/\id<5+k/\E (id-5) b)\/(5+k<=id/\Ds (id+1-k) b):=λid b hd=>by
   simp only[D] at hd;split at hd
   .exact .inl ⟨by assumption,hd⟩
   .split at hd
    .exact .inr (.inl ⟨by omega,by assumption,hd⟩)
    .exact .inr (.inr ⟨by omega,hd⟩)
  rcases key i b hi with⟨a1,a2⟩|⟨a1,a2,a3⟩|⟨a1,a2⟩<;>rcases key j b hj with⟨b1,b2⟩|⟨b1,b2,b3⟩|⟨b1,b2⟩
  .exact h.apart i j b a2 b2
  .have:=h.apart _ _ b a2 (hE5 _ _ b3);omega
  .have:=h.apart _ _ b a2 b2;omega
  .have:=h.apart _ _ b (hE5 _ _ a3) b2;omega
  .have:=hE.apart _ _ b a3 b3;omega
  .have:=h.apart _ _ b (hE5 _ _ a3) b2;omega
  .have:=h.apart _ _ b a2 b2;omega
  .have:=h.apart _ _ b a2 (hE5 _ _ b3);omega
  .have:=h.apart _ _ b a2 b2;omega
 .rw[zkS,hrs,hK] at hid;obtain⟨q,rfl⟩: ∃q,id=5+k+q:=⟨id-5-k,by omega⟩;have:=h.out (6+q) (by rw[zf3,hK];omega);exact⟨by rw[mi q,this.1];rfl,λb hb=>by rw[di q] at hb;exact this.2 b hb⟩
 .rintro⟨i,hi⟩;simp only[D] at hi;split at hi
  .exact⟨i,hi⟩
  .split at hi
   .exact⟨5,hE5 _ _ hi⟩
   .exact⟨_,hi⟩
 .rintro⟨i,hi⟩;have hlt:=h.lt hi;rw[zf3,hK] at hlt;rcases Nat.lt_or_ge i 5 with g1|g1
  .exact⟨i,by rw[d5 i g1];exact hi⟩
  .rcases Nat.eq_or_lt_of_le g1 with g2|g2
   .subst g2;obtain⟨j,hj⟩:=(hE.all b).1 hi;exact⟨5+j,by rw[dr j (hEk j b hj)];exact hj⟩
   .exact⟨5+k+(i-6),by rw[di,show 6+(i-6)=i by omega];exact hi⟩
def nnewPl:List (Nat×Pl):=[(12,.op 0 (.op 1 (.op 2 (.op 3 (.op 4 (.op 5 (.op 6 (.op 7 (.op 8 (.op 9 (.op 10 (.op 11 (.done))))))))))))),(13,.op 0 (.op 1 (.op 2 (.op 3 (.op 4 (.op 5 (.op 6 (.op 7 (.op 8 (.op 9 (.op 10 (.op 11 (.op 12 (.op 13 (.op 14 (.done)))))))))))))))),(14,.op 0 (.op 1 (.op 2 (.op 3 (.op 4 (.op 5 (.op 6 (.op 7 (.op 8 (.op 9 (.op 10 (.op 11 (.op 12 (.op 13 (.op 14 (.done))))))))))))))))]
def mkCb(c:Ca):Cb:=⟨c.a,c.pa,c.b,c.pb,c.m,false,[],[]⟩
def putM(T:List (List Int))(i p m:Int):List (List Int):=T.modify (i-1).toNat (λt=>t.set p.toNat m)
def zmr(T:List (List Int))(c:Ca):List (List Int):=putM (putM T c.a c.pa c.m) c.b c.pb c.m
def newT(k:Nat)(l:List Ca):List (List Int):=l.foldl zmr (List.replicate k [1,1,1])
def newN(k:Nat)(l:List Ca):Nt:=⟨(List.range k).map λ(i:Nat)=>newR ((i:Int)+1) ((newT k l).getD i []),l.map mkCb,newT k l,List.replicate k []⟩
structure Tok (k:Nat) (T:List (List Int)):Prop where
 len:T.length=k
 three: ∀t∈T,t.length=3/\ ∀x∈t,(1:Int)<=x/\x<=20
theorem zg7{k:Nat}{T:List (List Int)}(h:Tok k T)(i p:Int){m:Int}(hm:1<=m/\m<=20):Tok k (putM T i p m):=by
 refine⟨by rw[<-h.len];exact List.length_modify .., λt ht=>?_⟩;rcases zeJ (show t∈T.modify _ _ from ht) with g|⟨y,hy,rfl⟩
 .exact h.three t g
 .obtain⟨h1,h2⟩:=h.three y hy;refine⟨by rw[List.length_set];exact h1,λx hx=>?_⟩;rcases List.mem_or_eq_of_mem_set hx with g|g
  .exact h2 x g
  .exact g▸hm
theorem znh(k:Nat):Tok k (List.replicate k [1,1,1]):=⟨List.length_replicate .., λt ht=>by
 rw[List.eq_of_mem_replicate ht];exact⟨rfl,λx hx=>by simp only[List.mem_cons,List.not_mem_nil,or_false] at hx;omega⟩⟩
theorem zc3{k:Nat}{T:List (List Int)}(h:Tok k T){t:List Int}(ht:t∈T): ∃a b c,t=[a,b,c]/\(1<=a/\a<=20)/\(1<=b/\b<=20)/\(1<=c/\c<=20):=by
 obtain⟨h1,h2⟩:=h.three t ht;obtain⟨a,b,c,rfl⟩:=len3 h1;exact⟨a,b,c,rfl,h2 a (by simp),h2 b (by simp),h2 c (by simp)⟩
theorem i_row{t:List Int}{p:Nat}(h:t.length=3)(hp:p<3):(t.map iRow)[p]? =some (iRow (t.getD p 0)):=by
 rw[List.getElem?_map,List.getD_eq_getElem?_getD,List.getElem?_eq_getElem (by omega)];rfl
theorem i_set{t:List Int}{p:Nat}{m:Int}:(t.map iRow).set p (iRow m)=(t.set p m).map iRow:=by rw[List.map_set]
end Go.Proofs.YtimfnpjcedjmiadGreat
namespace Go.Proofs.YtimfnpjcedjmiadGreat
section
variable {k d e:Nat} {N:Nt}
theorem zee{α:Type}{f:Nt->α->Nt}(a b:Nat)(hs: ∀(N:Nt) (x:α) (d e:Nat),N.inv k d e->(f N x).inv k (d+a) (e+b)): ∀(l:List α) {N:Nt} {d e:Nat},N.inv k d e->(l.foldl f N).inv k (d+a*l.length) (e+b*l.length)
 |[],N,d,e,h=>h.up (Nat.le_add_right ..) (Nat.le_add_right ..)
 |x::l,N,d,e,h=>by
  have h1:=zee a b hs l (hs N x d e h);refine h1.up ?_ ?_
  .rw[List.length_cons,Nat.mul_succ];omega
  .rw[List.length_cons,Nat.mul_succ];omega
theorem zlM(h:N.inv k d e)(j:Nat):(zhl N j).inv k (d+36000) (e+18720000):=by
 have h1:=zee (k:=k) (f:=λq (i:Nat)=>ndel (ndel q i 0 2000) i 1 2000) 4000 2080000 (λN x d e h=>(zdS (zdS h x 0 2000) x 1 2000).up (by omega) (by omega)) (List.range N.cs.length) h;have hc:=h.ok.cs;rw[List.length_range] at h1;refine h1.up ?_ ?_
 .have:=Nat.mul_le_mul_left 4000 hc;omega
 .have:=Nat.mul_le_mul_left 2080000 hc;omega
theorem zgp(h:N.inv k d e)(hk:k<=6):(zeO N).inv k (d+432000) (e+230000000):=by
 have h1:=zee (k:=k) (f:=λq (i:Nat)=>zdZ q ((i:Int)+1)) 0 6630 (λN x d e h=>zde h _) (List.range N.rs.length) h;have h2:=zee (k:=k) (f:=zhl) 36000 18720000 (λN x d e h=>zlM h x) (List.range 12) h1;rw[List.length_range,List.length_range] at h2;have hr:=h.ok.rs;refine h2.up ?_ ?_
 .omega
 .rw[hr];have:=Nat.mul_le_mul_left 6630 hk;omega
theorem zgE{k:Nat}{l:List Ca}(hl: ∀c∈l,c.ok k):Tok k (newT k l):=by
 have: ∀(l:List Ca) (T:List (List Int)),(∀c∈l,c.ok k)->Tok k T->Tok k (l.foldl zmr T):=by
  intro l
  induction l with
  |nil=>exact λT _ h=>h
  |cons c l ih=>
   intro T hl h;have hc:=(hl c (List.mem_cons_self ..)).m;exact ih _ (λx hx=>hl x (List.mem_cons_of_mem _ hx)) (zg7 (zg7 h c.a c.pa hc) c.b c.pb hc)
 exact this l _ hl (znh k)
theorem zkY{k:Nat}(hk:k<=6){l:List Ca}(hl: ∀c∈l,c.ok k)(hlen:l.length<=9):(newN k l).inv k 0 0:=by
 have hT:=zgE hl;have hrow: ∀i,i<k-> ∃a b c,(newT k l).getD i []=[a,b,c]/\(1<=a/\a<=20)/\(1<=b/\b<=20)/\(1<=c/\c<=20):=λi hi=>by
  rw[List.getD_eq_getElem?_getD,List.getElem?_eq_getElem (by rw[hT.len];exact hi)];exact zc3 hT (List.getElem_mem _)
 refine⟨⟨by simp [newN],by simp [newN],hT.len,λt ht=>zc3 hT ht,by simpa[newN] using hlen,λr hr=>?_,λc hc=>?_,λb hb=>?_⟩,λi p r q hr hq _=>?_⟩
 .obtain⟨i,hi,rfl⟩:=List.mem_map.1 hr;obtain⟨a,b,c,h1,h2,h3,h4⟩:=hrow i (List.mem_range.1 hi);rw[h1];have:=List.mem_range.1 hi;exact new_f3 (by omega) h2 h3 h4
 .obtain⟨x,hx,rfl⟩:=List.mem_map.1 hc;have h:=hl x hx;exact⟨h.a,h.pa,h.b,h.pb,Nat.zero_le _,Nat.zero_le _⟩
 .rw[List.eq_of_mem_replicate hb];exact Nat.le_refl _
 .have hm:r∈(newN k l).rs:=List.mem_of_getElem? hr;obtain⟨j,hj,rfl⟩:=List.mem_map.1 hm;obtain⟨j',m,rfl,_⟩:=zdJ _ 0 q (List.mem_of_getElem? hq);exact zl2
end
structure Kept (π:Mg->Bool) (ρ:Int->Mg->Bool):Prop where
 on: ∀(m:Mg) (h:Int),(0<=m.to/\m.to<256)->1<=m.hops->(h=((u8 (m.hops-1)).toNat:Int))->π ⟨m.to,h,m.text⟩=true->π m=true
 come: ∀m:Mg,0<=m.hops->ρ m.to m=true->π m=true
theorem zfu{q:Rt}{i:Nat}{f g:Pt->Pt}{p:Pt}(hp:q.ps[i]? =some p)(h:f p=g p):q.onP i f=q.onP i g:=by
 unfold Rt.onP;refine congrArg (λl=>({ q with ps:=l }:Rt)) (List.ext_getElem? λj=>?_);rw[List.getElem?_modify,List.getElem?_modify];by_cases e:i=j
 .subst e;rw[hp];show some (if i=i then f p else p)=some (if i=i then g p else p);rw[if_pos rfl,if_pos rfl,h]
 .simp only[if_neg e]
theorem sum0: ∀{l:List Nat},(∀n∈l,n=0)->l.sum=0
 |[],_=>rfl
 |n::l,h=>by rw[List.sum_cons,h n (by simp),sum0 (λm hm=>h m (by simp [hm]))]
theorem onP_id(q:Rt)(i:Nat):q.onP i id=q:=by
 unfold Rt.onP;rw[List.modify_id]
variable {π:Mg->Bool} {ρ:Int->Mg->Bool} {X:Nat} {r:Rt}
theorem zhH(p:Pt): ∃u:List (List UInt8),(∀t∈u,t.length<=60/\ ∃s,t=76::s)/\(zbB p).out=p.out++u.flatMap frm:=by
 refine⟨p.l.out.flatMap λx=>if zbK x.c x.i x.o=0 then (if 60<(zdt x.c x.i x.o).length+1 then [] else [76::zdt x.c x.i x.o]) else [],λt ht=>?_,?_⟩
 .obtain⟨x,_,hx⟩:=List.mem_flatMap.1 ht;split at hx
  .split at hx
   .cases hx
   .rename_i h;rw[List.mem_singleton.1 hx];exact⟨by rw[List.length_cons];omega,_,rfl⟩
  .cases hx
 .unfold zbB;dsimp only;rw[List.flatMap_assoc];refine congrArg (λf=>p.out++p.l.out.flatMap f) (funext λx=>?_);unfold flB fr1;split
  .split
   .rfl
   .simp
  .rfl
theorem zkU{S:Meas}(h76: ∀s,S.w (76::s)=0/\ ∀X,S.q X (76::s))(hQ:S.Q X r.co)(i:Nat){f:Pt->Pt}(hc: ∀p:Pt,(f p).m=p.m/\(f p).p=p.p)(hf: ∀p:Pt,∃u:List (List UInt8),(∀t∈u,t.length<=60/\ ∃s,t=76::s)/\(f p).out=p.out++u.flatMap frm):Mv S 0 X r (r.onP i f):=by
 cases hp:r.ps[i]? with
 |none=>exact (zji (S:=S) hQ i (u:=[]) (λt ht=>(by cases ht)) hc (λp=>⟨[],.inl rfl,λg=>by rw[hp] at g;cases g⟩)).up (Nat.zero_le _)
 |some p0=>
  obtain⟨u,h1,h2⟩:=hf p0;have hs:S.s u=0:=by
   unfold Meas.s;refine sum0 λn hn=>?_;obtain⟨t,ht,rfl⟩:=List.mem_map.1 hn;obtain⟨_,s,rfl⟩:=h1 t ht;exact (h76 s).1
  have:=zji (S:=S) hQ i (u:=u) (λt ht=>⟨(h1 t ht).1,by obtain⟨_,s,rfl⟩:=h1 t ht;exact (h76 s).2 X⟩) hc (λp=>⟨u,.inl rfl,λg=>by rw[hp] at g;cases g;exact h2⟩);rw[hs] at this;exact this
theorem zlb{S:Meas}(hQ:S.Q X r.co)(i:Nat)(k:UInt8)(s:List UInt8)(hq:S.q X (k::s)):Mv S (S.w (k::s)) X r (r.onP i (putP k s)):=by
 by_cases hl:60<s.length+1
 .refine (zji (S:=S) hQ i (u:=[]) (λt ht=>(by cases ht)) (λp=>by unfold putP;split<;>exact⟨rfl,rfl⟩) (λp=>⟨[],.inl rfl,λ_=>?_⟩)).up (Nat.zero_le _);unfold putP fr1;rw[if_pos hl];split<;>simp
 .have:=zji (S:=S) hQ i (f:=putP k s) (u:=[k::s]) (λt ht=>by rw[List.mem_singleton.1 ht];exact⟨by rw[List.length_cons];omega,hq⟩) (λp=>by unfold putP;split<;>exact⟨rfl,rfl⟩) (λp=>by
   by_cases g:k≠76/\p.l.st≠9
   .exact⟨[],.inr rfl,λ_=>by unfold putP;rw[if_pos g];simp⟩
   .exact⟨[k::s],.inl rfl,λ_=>by unfold putP fr1;rw[if_neg g,if_neg hl];simp⟩)
  have e:S.s [k::s]=S.w (k::s):=by unfold Meas.s;simp
  rw[e] at this;exact this
theorem one_all: ∀(s:Fin 10) (e:Fin 12),(!opnB s||decide (e.val=0)||decide (e.val=1)||decide (e.val=3)|| !decide (zan s e=0)||(decide (zb1 s e=1)==decide (s.val=1)))=true:=by decide+kernel
def Sp(l m:Lk):Prop:=l.opn->m.opn/\(m.st=1↔l.st=1)
theorem Sp.refl(l:Lk):Sp l l:=λh=>⟨h,Iff.rfl⟩
theorem Sp.trans{a b c:Lk}(h:Sp a b)(g:Sp b c):Sp a c:=λx=>⟨(g (h x).1).1,(g (h x).1).2.trans (h x).2⟩
theorem zel(l:Lk){e i c:Int}{o:List (Int×Int)}(e0:2<=e)(e9:e<=11)(e3:e≠3):Sp l (evtL l e i c o):=λh=>by
 refine⟨zpa h (by omega) e9 e3,?_⟩;rw[evtL_st];have hs:0<=l.st/\l.st<=9:=by unfold Lk.opn at h;omega
 have hT:=one_all ⟨l.st.toNat,by omega⟩ ⟨e.toNat,by omega⟩;simp only[Int.toNat_of_nonneg hs.1,Int.toNat_of_nonneg (show 0<=e by omega)] at hT;rw[ze7.2 h] at hT;split
 .rename_i g;have h3: ¬e.toNat=3:=by omega
  have h0: ¬e.toNat=0:=by omega
  have h1: ¬e.toNat=1:=by omega
  simp only[g,h3,h0,h1,decide_true,decide_false,Bool.not_true,Bool.or_self,Bool.false_or,beq_iff_eq,decide_eq_decide] at hT;rw[hT];omega
 .exact Iff.rfl
theorem sp_tickL(l:Lk):Sp l (zae l):=by
 unfold zae;split
 .split
  .exact Sp.refl l
  .have h2:Sp l { l with tm:=l.tm-1 }:=λh=>⟨h,Iff.rfl⟩;split
   .exact h2.trans (zel _ (by decide) (by decide) (by decide))
   .exact h2.trans (zel _ (by decide) (by decide) (by decide))
 .exact Sp.refl l
theorem sp_take(l:Lk)(p:Pk):Sp l (takL l p):=by
 unfold takL;split
 .exact Sp.refl l
 .split
  .unfold reqL;split
   .split
    .exact (zel l (e:=6) (by decide) (by decide) (by decide):Sp l (evtL l 6 p.i 2 (jans l.nm p.o)))
    .exact zel l (by decide) (by decide) (by decide)
   .exact zel l (by decide) (by decide) (by decide)
  .split
   .exact zel l (by decide) (by decide) (by decide)
   .split
    .exact zel l (by decide) (by decide) (by decide)
    .split
     .exact Sp.refl l
     .split
      .split
       .exact Sp.refl l
       .exact zel l (by decide) (by decide) (by decide)
      .refine Sp.trans (b:=nowL l p) ?_ (zel _ (by decide) (by decide) (by decide));unfold nowL;split<;>exact λh=>⟨h,Iff.rfl⟩
theorem zpW{l:Lk}(h:l.opn)(h1:l.st=1):(doL l 0).opn/\(doL l 0).st≠1/\doE l 0=0:=by
 refine⟨znX h (by decide),?_,?_⟩
 .unfold doL;rw[if_neg (by decide),evtL_st,h1];decide
 .unfold doE;rw[if_neg (by decide),h1];decide
theorem zoz(l:Lk):Sp l (zaD l):=by
 refine (sp_tickL l).trans ?_;unfold zaD;split
 .rename_i h3;intro h;have hd:=zib h;have hu:=zpW (znX h (by decide):(doL (zae l) 1).opn) hd.1;exact⟨hu.1,⟨λg=>absurd g hu.2.1,λg=>by omega⟩⟩
 .exact Sp.refl _
def Rp(p q:Pt):Prop:=q.rd=p.rd/\q.m=p.m/\Sp p.l q.l
theorem Rp.refl(p:Pt):Rp p p:=⟨rfl,rfl,Sp.refl _⟩
theorem Rp.trans{a b c:Pt}(h:Rp a b)(g:Rp b c):Rp a c:=⟨g.1.trans h.1,g.2.1.trans h.2.1,h.2.2.trans g.2.2⟩
def Rk(r r':Rt):Prop:= ∀j,Rp (r.pt j) (r'.pt j)
theorem Rk.refl(r:Rt):Rk r r:=λ_=>Rp.refl _
theorem Rk.trans{a b c:Rt}(h:Rk a b)(g:Rk b c):Rk a c:=λj=>(h j).trans (g j)
theorem zjC{r r':Rt}(h:r'.ps=r.ps):Rk r r':=λj=>by unfold Rt.pt;rw[h];exact Rp.refl _
theorem zhM(r:Rt)(i:Nat)(f:Pt->Pt)(j:Nat):(r.onP i f).pt j=if i=j/\j<r.ps.length then f (r.pt j) else r.pt j:=by
 unfold Rt.pt;rw[List.getD_eq_getElem?_getD,List.getD_eq_getElem?_getD,zgj];cases h:r.ps[j]? with
 |none=>rw[if_neg (λg=>by rw[List.getElem?_eq_getElem g.2] at h;cases h)];rfl
 |some p=>
  have hl:=(List.getElem?_eq_some_iff.1 h).1;show (if i=j then f p else p)=_;by_cases e:i=j
  .rw[if_pos e,if_pos ⟨e,hl⟩];rfl
  .rw[if_neg e,if_neg (λg=>e g.1)];rfl
theorem zfh(r:Rt)(i:Nat){f:Pt->Pt}(hf: ∀p:Pt,Rp p (f p)):Rk r (r.onP i f):=λj=>by
 rw[zhM];split
 .exact hf _
 .exact Rp.refl _
theorem zhx(k:UInt8)(s:List UInt8)(p:Pt):Rp p (putP k s p):=by unfold putP;split<;>exact Rp.refl _
theorem zeD(r:Rt)(i:Nat)(now:Pe):Rk r (zaU r i now):=(zfh r i (f:=λp=>{ p with p:=now }) (λp=>Rp.refl p)).trans (zjC (ps_meet r i now))
theorem rk_learn(r:Rt)(i:Nat)(s:List UInt8):Rk r (zbD r i s):=by
 unfold zbD;split
 .exact Rk.refl r
 .split
  .split
   .exact zjC rfl
   .exact Rk.refl r
  .split
   .exact (zfh r i (zhx 65 s)).trans (zjC rfl)
   .exact zjC rfl
theorem zoZ(r:Rt)(m:Mg):Rk r (zdB r m):=by
 unfold zdB;split
 .exact zjC rfl
 .split
  .exact zjC rfl
  .split
   .exact zjC rfl
   .exact zfh r _ (zhx _ _)
theorem rk_carry(r:Rt)(s:List UInt8):Rk r (zbc r s):=by
 unfold zbc;split
 .exact zoZ _ _
 .exact Rk.refl r
theorem zlY(r:Rt)(to:Int)(t:ByteArray):Rk r (zcH r to t):=by
 unfold zcH;split
 .exact Rk.refl r
 .exact zoZ _ _
theorem rk_tak1(r:Rt)(i:Nat)(k:UInt8)(s:List UInt8):Rk r (tak1 r i k s):=by
 unfold tak1;split
 .exact zfh r i (λp=>⟨rfl,rfl,sp_take _ _⟩)
 .exact Rk.refl r
theorem rk_tak(r:Rt)(i:Nat)(k:UInt8)(s:List UInt8):Rk r (takR r i k s):=by
 have h:=rk_tak1 r i k s;unfold takR;split
 .exact h.trans (zeD _ _ _)
 .split
  .split
   .exact h.trans (zeD _ _ _)
   .exact h
  .split
   .exact h.trans (rk_learn _ _ _)
   .split
    .exact h.trans (zjC (zl5 ..))
    .split
     .exact h.trans (rk_carry _ _)
     .exact h
theorem zia(i:Nat): ∀(T:List (List UInt8)) (r:Rt),Rk r (T.foldl (takT i) r)
 |[],r=>Rk.refl r
 |t::T,r=>Rk.trans (by unfold takT;split;exact Rk.refl r;exact rk_tak _ _ _ _) (zia i T _)
theorem rk_tick1(r:Rt)(i:Nat):Rk r (zb3 r i):=by
 have h0:Rk r (zak r i):=zfh r i (λp=>⟨rfl,rfl,zoz _⟩);unfold zb3;split
 .exact h0.trans (zeD _ _ _)
 .refine (h0.trans (zeD (zak r i) i (zay ((zak r i).pt i).p))).trans ?_;refine Rk.trans (zfh _ i (f:=zaP r.id) (λp=>by unfold zaP;split;exact zhx _ _ _;exact Rp.refl _)) ?_;generalize (owdB _ _)=L;generalize (Rt.onP _ i (zaP r.id))=z
  induction L generalizing z with
  |nil=>exact Rk.refl _
  |cons x L ih=>exact Rk.trans (zfh z i (f:=zaS x) (λp=>by unfold zaS;split;exact zhx _ _ _;exact Rp.refl _)) (ih _)
theorem zop(r:Rt):Rk r (zcf r):=by
 unfold zcf;generalize List.range r.ps.length=L
 induction L generalizing r with
 |nil=>exact Rk.refl r
 |cons i L ih=>exact (rk_tick1 r i).trans (ih _)
theorem zpb(r:Rt)(i:Nat):Rk r (outR r i):=zfh r i (λp=>Rp.refl p)
theorem zmv(r:Rt)(i:Nat)(up:Bool){j:Nat}(hj:i≠j):Rp (r.pt j) ((zaV r i up).pt j):=by
 unfold zaV;split
 .exact Rp.refl _
 .have:=zeD (r.onP i λp=>zbB { p with l:=doL p.l (if up then 0 else 1),rd:=rd0,rest:=[] }) i peNo j;rw[zhM,if_neg (λg=>hj g.1)] at this;exact this
theorem rk_plug(r:Rt)(i:Nat)(up:Bool)(hi:i<r.ps.length)(ho:(r.pt i).l.opn)(h1:(r.pt i).l.st=1↔up=true):((zaV r i up).pt i).rd=rd0/\((zaV r i up).pt i).l.opn/\(((zaV r i up).pt i).l.st=1↔up=false):=by
 have hE:zdA r i up=0:=by
  unfold zdA;cases up with
  |true=>exact (zpW ho (h1.2 rfl)).2.2
  |false=>exact (zib ho).2.2 (λg=>by cases h1.1 g)
 unfold zaV;rw[if_neg (λg=>g hE)];have:=zeD (r.onP i λp=>zbB { p with l:=doL p.l (if up then 0 else 1),rd:=rd0,rest:=[] }) i peNo i;rw[zhM,if_pos ⟨rfl,hi⟩] at this;refine⟨this.1,?_⟩;have h2:(doL (r.pt i).l (if up then 0 else 1)).opn:=znX ho (by split<;>decide);have h3:=this.2.2 (show (outL (doL (r.pt i).l (if up then 0 else 1))).opn from h2);refine⟨h3.1,h3.2.trans ?_⟩;show (doL (r.pt i).l (if up then 0 else 1)).st=1↔_;cases up with
 |true=>exact⟨λg=>absurd g (zpW ho (h1.2 rfl)).2.1,λg=>by cases g⟩
 |false=>exact⟨λ_=>rfl,λ_=>(zib ho).1⟩
theorem rd_recv(r:Rt)(i:Nat)(s:List UInt8)(j:Nat)(hi:i<r.ps.length):((zap r i s).pt j).rd=(if i=j then (zaN (r.pt j).rd s).1 else (r.pt j).rd)/\Sp (r.pt j).l ((zap r i s).pt j).l:=by
 unfold zap;have h:=zia i (zaN (r.pt i).rd s).2.1 (r.onP i λp=>{ p with rd:=(zaN p.rd s).1,rest:=(zbg (p.rest++s)).2.2 }) j;rw[zhM] at h;by_cases e:i=j
 .subst e;rw[if_pos ⟨rfl,hi⟩] at h;rw[if_pos rfl];exact⟨h.1,h.2.2⟩
 .rw[if_neg (λg=>e g.1)] at h;rw[if_neg e];exact⟨h.1,h.2.2⟩
theorem m_recv(r:Rt)(i:Nat)(s:List UInt8)(j:Nat):((zap r i s).pt j).m=(r.pt j).m:=by
 unfold zap;have h:=(zia i (zaN (r.pt i).rd s).2.1 (r.onP i λp=>{ p with rd:=(zaN p.rd s).1,rest:=(zbg (p.rest++s)).2.2 }) j).2.1;rw[zhM] at h;rw[h];split<;>rfl
theorem m_plug(r:Rt)(i:Nat)(up:Bool)(j:Nat):((zaV r i up).pt j).m=(r.pt j).m:=by
 unfold zaV;split
 .rfl
 .have h:=(zeD (r.onP i λp=>zbB { p with l:=doL p.l (if up then 0 else 1),rd:=rd0,rest:=[] }) i peNo j).2.1;rw[zhM] at h;rw[h];split<;>rfl
def sumN(n:Nat)(f:Nat->Nat):Nat:=((List.range n).map f).sum
theorem zdP(n:Nat)(f:Nat->Nat):sumN (n+1) f=sumN n f+f n:=by
 unfold sumN;rw[List.range_succ,List.map_append,List.sum_append];simp
theorem zkX{f g:Nat->Nat}: ∀(n:Nat),(∀i,i<n->f i<=g i)->sumN n f<=sumN n g
 |0,_=>Nat.le_refl _
 |n+1,h=>by
  rw[zdP,zdP];have:=zkX n (λi hi=>h i (by omega));have:=h n (by omega);omega
theorem sumN_eq{f g:Nat->Nat}(n:Nat)(h: ∀i,i<n->f i=g i):sumN n f=sumN n g:=
 Nat.le_antisymm (zkX n λi hi=>Nat.le_of_eq (h i hi)) (zkX n λi hi=>Nat.le_of_eq (h i hi).symm)
theorem zck{f g:Nat->Nat}{i x y:Nat}: ∀(n:Nat),i<n->(∀j,j<n->j≠i->g j=f j)->g i+x<=f i+y->sumN n g+x<=sumN n f+y
 |0,hi,_,_=>absurd hi (Nat.not_lt_zero _)
 |n+1,hi,h,hx=>by
  rw[zdP,zdP];by_cases e:i=n
  .subst e;rw[sumN_eq i (λj hj=>h j (by omega) (by omega))];omega
  .have h1:=zck n (by omega) (λj hj hne=>h j (by omega) hne) hx;have h2:=h n (by omega) (λg=>e g.symm);omega
def Cb.wr(c:Cb)(s:Bool):List UInt8:=if s then c.w1 else c.w0
def Cb.rdE(c:Cb)(s:Bool):Nat×Nat:=if s then ((c.a-1).toNat,c.pa.toNat) else ((c.b-1).toNat,c.pb.toNat)
def Nt.uq(N:Nt):Prop:= ∀(i j:Nat) (c d:Cb) (s t:Bool),N.cs[i]? =some c->N.cs[j]? =some d->c.rdE s=d.rdE t->i=j/\s=t
def Nt.ptA(N:Nt)(e:Nat×Nat):Pt:=(N.rs.getD e.1 rtD).pt e.2
def Nt.rdA(N:Nt)(e:Nat×Nat):Rd:=(N.ptA e).rd
abbrev Fls:=Nat->Bool->List (List UInt8)
abbrev Ous:=Nat->Nat->List (List UInt8)
def zeE(F:Fls)(i:Nat)(s:Bool)(u:List (List UInt8)):Fls:=λj t=>if j=i/\t=s then u else F j t
def Meas.at(S:Meas)(J:Nat->List Mg->Nat)(U:Ous)(N:Nt)(a:Nat):Nat:=S.v (U a)+S.W (N.rs.getD a rtD).co+J a (N.ib.getD a [])
def Meas.tot(S:Meas)(J:Nat->List Mg->Nat)(F:Fls)(U:Ous)(N:Nt):Nat:=sumN N.cs.length (λi=>S.s (F i false)+S.s (F i true))+sumN N.rs.length (S.at J U N)
structure NI (S:Meas) (J:Nat->List Mg->Nat) (E:Nat->Prop) (X M:Nat) (F:Fls) (U:Ous) (N:Nt):Prop where
 fl: ∀(i:Nat) (c:Cb) (s:Bool),E i->N.cs[i]? =some c->Flow (N.rdA (c.rdE s)) (c.wr s) (F i s)
 fg: ∀i s,S.good X (F i s)
 ou: ∀(a:Nat) (r:Rt) (j:Nat) (p:Pt),N.rs[a]? =some r->r.ps[j]? =some p->p.out=(U a j).flatMap frm
 ug: ∀a j,S.good X (U a j)
 Q: ∀(a:Nat) (r:Rt),N.rs[a]? =some r->S.Q X r.co
 sum:S.tot J F U N+X<=M
theorem zb5{N:Nt}{a:Nat}{r:Rt}(h:N.rs[a]? =some r):N.rs.getD a rtD=r:=by rw[List.getD_eq_getElem?_getD,h];rfl
theorem zkb{ts:List (List UInt8)}(h:Txs ts):zaN rd0 (ts.flatMap frm)=(rd0,ts,0):=zfN ts h
theorem flow_nil{r:Rd}{ts:List (List UInt8)}(h:Flow r [] ts):r=rd0/\ts=[]:=by
 obtain⟨h1,x,h2,h3,h4⟩:=h;rw[List.append_nil] at h4;subst h4;rw[zkb h1] at h2 h3;exact⟨h2.symm,h3⟩
theorem zfg{N:Nt}{a:Int}{G:Rt->Rt}{r:Rt}(hr:N.rs[(a-1).toNat]? =some r)(b:Nat):(N.onR a G).rs[b]? =if (a-1).toNat=b then some (G r) else N.rs[b]? :=by
 rw[ziT];by_cases e:(a-1).toNat=b
 .subst e;rw[if_pos rfl,hr];show some (if _ then _ else _)=_;rw[if_pos rfl]
 .exact Y111
theorem zcq{N:Nt}{a:Int}{G:Rt->Rt}{r:Rt}(hr:N.rs[(a-1).toNat]? =some r)(b:Nat):(N.onR a G).rs.getD b rtD=if (a-1).toNat=b then G r else N.rs.getD b rtD:=by
 rw[List.getD_eq_getElem?_getD,List.getD_eq_getElem?_getD,zfg hr];split<;>rfl
theorem zdH{N:Nt}{a:Int}{G:Rt->Rt}{r:Rt}(hr:N.rs[(a-1).toNat]? =some r)(e:Nat×Nat):(N.onR a G).ptA e=if (a-1).toNat=e.1 then (G r).pt e.2 else N.ptA e:=by
 unfold Nt.ptA;rw[zcq hr];split<;>rfl
variable {S:Meas} {J:Nat->List Mg->Nat} {E:Nat->Prop} {X M d:Nat} {F:Fls} {U:Ous} {N:Nt}
theorem NI.up(h:NI S J E X M F U N){M':Nat}(hM:M<=M'):NI S J E X M' F U N:=⟨h.fl,h.fg,h.ou,h.ug,h.Q,Nat.le_trans h.sum hM⟩
theorem NI.some(h:NI S J E X M F U N){E':Nat->Prop}(hE: ∀i,E' i->E i):NI S J E' X M F U N:=⟨λi c s g=>h.fl i c s (hE i g),h.fg,h.ou,h.ug,h.Q,h.sum⟩
theorem zja(h:NI S J E X M F U N)(a:Int){G:Rt->Rt}{r:Rt}(hr:N.rs[(a-1).toNat]? =some r)(hG:Mv S d X r (G r))(hrd: ∀i c s,E i->N.cs[i]? =some c->(N.onR a G).rdA (c.rdE s)=N.rdA (c.rdE s)): ∃Y U',X<=Y/\NI S J E Y (M+d) F U' (N.onR a G):=by
 have ha:=(List.getElem?_eq_some_iff.1 hr).1;obtain⟨Y,V,h1,h2,h3,h4,h5,h6⟩:=hG;refine⟨Y,λb j=>if b=(a-1).toNat then U b j++V j else U b j,h1,⟨λi c s hE hc=>?_,λi s=>(h.fg i s).up h1,λb q j p hq hp=>?_,λb j=>?_,λb q hq=>?_,?_⟩⟩
 .rw[hrd i c s hE hc];exact h.fl i c s hE hc
 .rw[zfg hr] at hq;by_cases e:(a-1).toNat=b
  .subst e;rw[if_pos rfl] at hq;cases hq;have hj:j<r.ps.length:=by rw[<-h4];exact (List.getElem?_eq_some_iff.1 hp).1
   have a1:=h5 j _ p (List.getElem?_eq_getElem hj) hp;have a2:=h.ou _ r j _ hr (List.getElem?_eq_getElem hj);rw[if_pos rfl,a1,a2,List.flatMap_append]
  .rw[if_neg e] at hq;rw[if_neg (λg=>e g.symm)];exact h.ou b q j p hq hp
 .split
  .exact ((h.ug b j).up h1).app (h3 j)
  .exact (h.ug b j).up h1
 .rw[zfg hr] at hq;split at hq
  .cases hq;exact h2
  .exact S.Qm h1 (h.Q b q hq)
 .have hs:=h.sum;unfold Meas.tot at hs ⊢;have hlen:(N.onR a G).rs.length=N.rs.length:=List.length_modify ..;rw[hlen,show (N.onR a G).cs=N.cs from rfl];have hv: ∀f:Nat->List (List UInt8),S.v (λj=>f j++V j)=S.v f+S.v V:=λf=>by unfold Meas.v;simp only[Meas.s_app];omega
  have key:=zck (f:=S.at J U N) (g:=S.at J (λb j=>if b=(a-1).toNat then U b j++V j else U b j) (N.onR a G)) (i:=(a-1).toNat) (x:=Y) (y:=d+X) N.rs.length ha (λb hb hne=>by
   unfold Meas.at;rw[zcq hr,if_neg (λg=>hne g.symm)];simp only[if_neg hne];rfl) (by
   unfold Meas.at;rw[zcq hr,if_pos rfl,zb5 hr];simp only[if_true];have:=hv (U (a-1).toNat);show S.v _+S.W (G r).co+J (a-1).toNat (N.ib.getD (a-1).toNat [])+Y<=_;omega)
  omega
theorem ni_cs(h:NI S J E X M F U N){C:List Cb}{F':Fls}{E':Nat->Prop}{x y:Nat}(hfl: ∀(i:Nat) (c:Cb) (s:Bool),E' i->C[i]? =some c->Flow (N.rdA (c.rdE s)) (c.wr s) (F' i s))(hfg: ∀i s,S.good X (F' i s))(hs:sumN C.length (λi=>S.s (F' i false)+S.s (F' i true))+y<=sumN N.cs.length (λi=>S.s (F i false)+S.s (F i true))+x):NI S J E' X (M+x-y) F' U { N with cs:=C }:=by
 refine⟨hfl,hfg,h.ou,h.ug,h.Q,?_⟩;have:=h.sum;unfold Meas.tot at this ⊢;show sumN C.length _+sumN N.rs.length (S.at J U N)+X<=_;omega
def Cb.wE(c:Cb)(s:Bool):Int×Int:=if s then (c.b,c.pb) else (c.a,c.pa)
def Cb.setW(c:Cb)(s:Bool)(w:List UInt8):Cb:=if s then { c with w1:=w } else { c with w0:=w }
theorem zi0(c:Cb)(s:Bool)(w:List UInt8)(t:Bool):(c.setW s w).wr t=if t=s then w else c.wr t:=by cases s<;>cases t<;>rfl
theorem zfr(c:Cb)(s:Bool)(w:List UInt8)(t:Bool):(c.setW s w).rdE t=c.rdE t:=by cases s<;>cases t<;>rfl
theorem setW_inn(c:Cb)(s:Bool)(w:List UInt8):(c.setW s w).inn=c.inn:=by cases s<;>rfl
theorem zpe(c:Cb)(s:Bool):c.rdE s=(((c.wE (!s)).1-1).toNat,(c.wE (!s)).2.toNat):=by cases s<;>rfl
theorem zjv{k n d e:Nat}{N:Nt}(hN:N.ok k n d e){i:Nat}{c:Cb}(hc:N.cs[i]? =some c)(s:Bool): ∃r,N.rs[((c.wE s).1-1).toNat]? =some r/\r.ps.length=3/\(c.wE s).2.toNat<3/\N.rt (c.wE s).1=r/\((c.wE s).1-1).toNat<N.rs.length:=by
 have hco:=hN.c c (getq hc);have h1:((c.wE s).1-1).toNat<N.rs.length:=by
  rw[hN.rs];have:=hco.a;have:=hco.b;cases s
  .show (c.a-1).toNat<k;omega
  .show (c.b-1).toNat<k;omega
 refine⟨_,List.getElem?_eq_getElem h1,(hN.r _ (List.getElem_mem h1)).p3,?_,zb5 (List.getElem?_eq_getElem h1),h1⟩;have:=hco.pa;have:=hco.pb;cases s
 .show c.pa.toNat<3;omega
 .show c.pb.toNat<3;omega
structure Nt.wd (N:Nt):Prop where
 uq:N.uq
 op: ∀(i:Nat) (c:Cb) (s:Bool),N.cs[i]? =some c->(N.ptA (c.rdE s)).l.opn
 st: ∀(i:Nat) (c:Cb) (s:Bool),N.cs[i]? =some c->((N.ptA (c.rdE s)).l.st=1↔c.inn=false)
 w: ∀(i:Nat) (c:Cb) (s:Bool),N.cs[i]? =some c->c.inn=false->c.wr s=[]
def CbE(C C':List Cb):Prop:= ∀(i:Nat) (c':Cb),C'[i]? =some c'-> ∃c,C[i]? =some c/\c'.inn=c.inn/\(∀s,c'.rdE s=c.rdE s)/\(c.inn=false-> ∀s,c.wr s=[]->c'.wr s=[])
theorem zlO(C:List Cb):CbE C C:=λi c h=>⟨c,h,rfl,λ_=>rfl,λ_ _ g=>g⟩
theorem wd_sp{N N':Nt}(h:N.wd)(hc:CbE N.cs N'.cs)(hp: ∀(i:Nat) (c:Cb) (s:Bool),N.cs[i]? =some c->Sp (N.ptA (c.rdE s)).l (N'.ptA (c.rdE s)).l):N'.wd:=by
 refine⟨λi j c d s t hi hj e=>?_,λi c' s hi=>?_,λi c' s hi=>?_,λi c' s hi hin=>?_⟩
 .obtain⟨c1,h1,_,h3,_⟩:=hc i c hi;obtain⟨d1,k1,_,k3,_⟩:=hc j d hj;exact h.uq i j c1 d1 s t h1 k1 (by rw[<-h3 s,<-k3 t];exact e)
 .obtain⟨c1,h1,h2,h3,h4⟩:=hc i c' hi;rw[h3 s];exact (hp i c1 s h1 (h.op i c1 s h1)).1
 .obtain⟨c1,h1,h2,h3,h4⟩:=hc i c' hi;rw[h3 s,h2];exact (hp i c1 s h1 (h.op i c1 s h1)).2.trans (h.st i c1 s h1)
 .obtain⟨c1,h1,h2,h3,h4⟩:=hc i c' hi;rw[h2] at hin;exact h4 hin s (h.w i c1 s h1 hin)
theorem ziq{N:Nt}{a:Int}{G:Rt->Rt}{r:Rt}(hr:N.rs[(a-1).toNat]? =some r)(hk:Rk r (G r))(e:Nat×Nat):Rp (N.ptA e) ((N.onR a G).ptA e):=by
 rw[zdH hr];split
 .rename_i h;unfold Nt.ptA;rw[<-h,zb5 hr];exact hk e.2
 .exact Rp.refl _
theorem wd_onR{N:Nt}(h:N.wd){a:Int}{G:Rt->Rt}{r:Rt}(hr:N.rs[(a-1).toNat]? =some r)(hk:Rk r (G r)):(N.onR a G).wd:=wd_sp (N':=N.onR a G) h (zlO _) (λi c s _=>(ziq hr hk _).2.2)
theorem zcm{α:Type}{l:List α}{i j:Nat}{d x:α}(h:(l.set i d)[j]? =some x):(i=j/\x=d)\/(i≠j/\l[j]? =some x):=by
 rw[List.getElem?_set] at h;split at h
 .rename_i e;split at h
  .cases h;exact .inl ⟨e,rfl⟩
  .cases h
 .rename_i e;exact .inr ⟨e,h⟩
theorem zo8{C:List Cb}{i:Nat}{c:Cb}(hc:C[i]? =some c)(s:Bool)(w:List UInt8)(hw:c.inn=false->c.wr s=[]->w=[]):CbE C (C.set i (c.setW s w)):=λj d hd=>by
 rcases zcm hd with⟨rfl,rfl⟩|⟨_,h⟩
 .refine⟨c,hc,setW_inn .., λt=>zfr .., λhi t ht=>?_⟩;rw[zi0];split
  .rename_i e;subst e;exact hw hi ht
  .exact ht
 .exact⟨d,h,rfl,λ_=>rfl,λ_ _ g=>g⟩
def zgd(N:Nt)(i:Nat)(s:Bool):Nt:=match N.cs[i]? with
 |none=>N
 |some c=>{ N.onR (c.wE s).1 (λr=>outR r (c.wE s).2.toNat) with cs:=N.cs.set i (c.setW s (putW c.inn (c.wr s) ((N.rt (c.wE s).1).pt (c.wE s).2.toNat).out)) }
theorem zo3(N:Nt)(i:Nat):zcE N i=zgd N i false:=by unfold zcE zgd;cases N.cs[i]? <;>rfl
theorem zp1(N:Nt)(i:Nat):zdo N i=zgd N i true:=by unfold zdo zgd;cases N.cs[i]? <;>rfl
section
variable {S:Meas} {J:Nat->List Mg->Nat} {E:Nat->Prop} {X M:Nat} {F:Fls} {U:Ous} {N:Nt}
theorem ni_out{a:Int}{p:Nat}(hp:p<3){r:Rt}(hr:N.rs[(a-1).toNat]? =some r)(h:NI S J E X (M+S.s (U (a-1).toNat p)) F U N):NI S J E X M F (λb j=>if b=(a-1).toNat/\j=p then [] else U b j) (N.onR a (λr=>outR r p)):=by
 have ha:=(List.getElem?_eq_some_iff.1 hr).1;have hco:(outR r p).co=r.co:=by
  unfold Rt.co;show Co.mk r.id ((r.ps.modify p _).map λp=>(p.m,p.p)) r.b r.inb=_;refine congrArg (λl=>Co.mk r.id l r.b r.inb) ?_;refine List.ext_getElem? λj=>?_;rw[List.getElem?_map,List.getElem?_map,List.getElem?_modify];cases r.ps[j]? with
  |none=>rfl
  |some p=>show some _=some _;split<;>rfl
 refine⟨λi c s hE hc=>?_,h.fg,λb q j x hq hx=>?_,λb j=>?_,λb q hq=>?_,?_⟩
 .have:=h.fl i c s hE hc;unfold Nt.rdA at this ⊢;rw[(ziq (G:=λr=>outR r p) hr (zpb r p) _).1];exact this
 .rw[zfg hr] at hq;by_cases e:(a-1).toNat=b
  .subst e;rw[if_pos rfl] at hq;cases hq;obtain⟨y,hy,rfl⟩:=ziG (f:=λp=>{ p with out:=[] }) hx;by_cases ej:p=j
   .subst ej;rw[if_pos rfl,if_pos ⟨rfl,rfl⟩];rfl
   .rw[if_neg ej,if_neg (λg=>ej g.2.symm)];exact h.ou _ r j y hr hy
  .rw[if_neg e] at hq;rw[if_neg (λg=>e g.1.symm)];exact h.ou b q j x hq hx
 .split
  .exact λt ht=>by cases ht
  .exact h.ug b j
 .rw[zfg hr] at hq;split at hq
  .cases hq;rw[hco];exact h.Q _ r hr
  .exact h.Q b q hq
 .have hs:=h.sum;unfold Meas.tot at hs ⊢;have hlen:(N.onR a (λr=>outR r p)).rs.length=N.rs.length:=List.length_modify ..;rw[hlen,show (N.onR a (λr=>outR r p)).cs=N.cs from rfl];have key:=zck (f:=S.at J U N) (g:=S.at J (λb j=>if b=(a-1).toNat/\j=p then [] else U b j) (N.onR a (λr=>outR r p))) (i:=(a-1).toNat) (x:=S.s (U (a-1).toNat p)) (y:=0) N.rs.length ha (λb hb hne=>by
   unfold Meas.at;rw[zcq hr,if_neg (λg=>hne g.symm)];simp only[hne,false_and,if_false];rfl) (by
   unfold Meas.at;rw[zcq hr,if_pos rfl,zb5 hr,hco];have hv:S.v (λj=>if (a-1).toNat=(a-1).toNat/\j=p then [] else U (a-1).toNat j)+S.s (U (a-1).toNat p)=S.v (U (a-1).toNat):=by
    unfold Meas.v;have h0:=S.s_nil;rcases (by omega:p=0\/p=1\/p=2) with rfl|rfl|rfl
    .simp [h0];omega
    .simp [h0];omega
    .simp [h0]
   show S.v (λj=>if (a-1).toNat=(a-1).toNat/\j=p then [] else U (a-1).toNat j)+S.W r.co+J (a-1).toNat (N.ib.getD (a-1).toNat [])+_<=_;omega)
  omega
theorem ni_gathS(h:NI S J E X M F U N){k n d e:Nat}(hN:N.ok k n d e){i:Nat}(s:Bool): ∃F' U',NI S J E X M F' U' (zgd N i s):=by
 unfold zgd;cases hc:N.cs[i]? with
 |none=>exact⟨F,U,h⟩
 |some c=>
  have hi:=(List.getElem?_eq_some_iff.1 hc).1;obtain⟨r,hr,h3,hp3,hrt,-⟩:=zjv hN hc s;have hp:r.ps[(c.wE s).2.toNat]? =some (r.pt (c.wE s).2.toNat):=by
   rw[zfD (List.getElem?_eq_getElem (by omega))];exact List.getElem?_eq_getElem (by omega)
  have ho:=h.ou _ r _ _ hr hp;dsimp only;rw[hrt,ho];generalize hu:U ((c.wE s).1-1).toNat (c.wE s).2.toNat=u;have hug:S.good X u:=by rw[<-hu];exact h.ug _ _
  rcases gcase c.inn (c.wr s) (u.flatMap frm) with⟨_,e⟩|⟨_,_,e⟩|⟨_,_,e⟩
  case' inr.inl=>
   have h1:=ni_cs (x:=S.s u) (y:=0) h (C:=N.cs.set i (c.setW s (c.wr s++u.flatMap frm))) (F':=zeE F i s (F i s++u)) (E':=E) (λj x t hE hx=>by
    unfold zeE;rcases zcm hx with⟨rfl,rfl⟩|⟨hne,hx⟩
    .rw[zfr,zi0];by_cases et:t=s
     .subst et;rw[if_pos rfl,if_pos ⟨rfl,rfl⟩];exact flow_put (h.fl i c t hE hc) hug.txs
     .rw[if_neg et,if_neg (λg=>et g.2)];exact h.fl i c t hE hc
    .rw[if_neg (λg=>hne g.1.symm)];exact h.fl j x t hE hx) (λj t=>by
    unfold zeE;split
    .exact (h.fg i s).app hug
    .exact h.fg j t) (by
    rw[List.length_set];have:=zck (f:=λi=>S.s (F i false)+S.s (F i true)) (g:=λj=>S.s (zeE F i s (F i s++u) j false)+S.s (zeE F i s (F i s++u) j true)) (i:=i) (x:=0) (y:=S.s u) N.cs.length hi (λj hj hne=>by
     unfold zeE;simp only[hne,false_and,if_false]) (by
     unfold zeE;cases s
     .simp [Meas.s_app];omega
     .simp [Meas.s_app];omega)
    exact this)
   rw[e];exact⟨_,_,ni_out (N:={ N with cs:=N.cs.set i (c.setW s (c.wr s++u.flatMap frm)) }) (a:=(c.wE s).1) (p:=(c.wE s).2.toNat) hp3 hr (h1.up (by rw[hu];omega))⟩
  all_goals
   have h1:=ni_cs (x:=0) (y:=0) h (C:=N.cs.set i (c.setW s (c.wr s))) (F':=F) (E':=E) (λj x t hE hx=>by
    rcases zcm hx with⟨rfl,rfl⟩|⟨hne,hx⟩
    .rw[zfr,zi0];by_cases et:t=s
     .subst et;rw[if_pos rfl];exact h.fl i c t hE hc
     .rw[if_neg et];exact h.fl i c t hE hc
    .exact h.fl j x t hE hx) h.fg (by rw[List.length_set];exact Nat.le_refl _)
   rw[e];exact⟨_,_,ni_out (N:={ N with cs:=N.cs.set i (c.setW s (c.wr s)) }) (a:=(c.wE s).1) (p:=(c.wE s).2.toNat) hp3 hr (h1.up (by omega))⟩
theorem wd_gathS(h:N.wd){k n d e:Nat}(hN:N.ok k n d e)(i:Nat)(s:Bool):(zgd N i s).wd:=by
 unfold zgd;cases hc:N.cs[i]? with
 |none=>exact h
 |some c=>
  obtain⟨r,hr,h3,hp3,hrt,-⟩:=zjv hN hc s;refine wd_sp h (zo8 hc s _ (λhi hw=>?_)) (λj x t _=>(ziq (G:=λr=>outR r (c.wE s).2.toNat) hr (zpb r _) _).2.2);rw[hi];unfold putW;rw[if_neg (λg=>by cases g.1)];exact hw
def On(S:Meas)(J:Nat->List Mg->Nat)(M:Nat)(N:Nt):Prop:=(∃X F U,NI S J (λ_=>True) X M F U N)/\N.wd
theorem On.up(h:On S J M N){M':Nat}(hM:M<=M'):On S J M' N:=⟨by obtain⟨⟨X,F,U,h⟩,_⟩:=h;exact⟨X,F,U,h.up hM⟩,h.2⟩
theorem zld(h:On S J M N){k n d e:Nat}(hN:N.ok k n d e)(i:Nat)(s:Bool):On S J M (zgd N i s):=by
 obtain⟨⟨X,F,U,h⟩,hw⟩:=h;obtain⟨F',U',h'⟩:=ni_gathS h hN (i:=i) s;exact⟨⟨X,F',U',h'⟩,wd_gathS hw hN i s⟩
theorem on_gathL(h:On S J M N){k n d e:Nat}(hN:N.ok k n d e):On S J M (zbN N):=by
 unfold zbN;generalize N.cs.length=m;have:On S J M ((List.range m).foldl zfj N)/\((List.range m).foldl zfj N).ok k n d e:=by
  induction m with
  |zero=>exact⟨h,hN⟩
  |succ m ih=>
   rw[List.range_succ,List.foldl_append];generalize (List.range m).foldl zfj N=Q at *
   show On S J M (zdo (zcE Q m) m)/\(zdo (zcE Q m) m).ok k n d e;have h0:=ok_g0 ih.2 m;refine⟨?_,ok_g1 h0 m⟩;rw[zp1];refine zld ?_ h0 m true;rw[zo3];exact zld ih.1 ih.2 m false
 exact this.1
def InB(S:Meas)(J:Nat->List Mg->Nat):Prop:= ∀(i X:Nat) (c:Co) (l:List Mg),c.id=(i:Int)+1->S.Q X c->S.Q X { c with inb:=[] }/\S.W { c with inb:=[] }+J i (l++c.inb)<=S.W c+J i l
theorem ni_gathB(hB:InB S J)(h:NI S J E X M F U N){i:Nat}(hi:i<N.rs.length)(hi2:i<N.ib.length)(hid: ∀r,N.rs[i]? =some r->r.id=(i:Int)+1):NI S J E X M F U (zbT N i):=by
 have hr:=List.getElem?_eq_getElem hi;have hl:=List.getElem?_eq_getElem hi2;generalize N.rs[i]=r at hr;generalize N.ib[i]=l at hl;have hid:=hid r hr;have hrs: ∀b,(zbT N i).rs[b]? =if i=b then some { r with inb:=[] } else N.rs[b]? :=λb=>by
  show (N.rs.modify i λr=>{ r with inb:=[] })[b]? =_;rw[List.getElem?_modify];by_cases e:i=b
  .subst e;rw[hr,if_pos rfl];show some (if _ then _ else _)=_;rw[if_pos rfl]
  .exact Y111
 have hget: ∀b,(zbT N i).rs.getD b rtD=if i=b then { r with inb:=[] } else N.rs.getD b rtD:=λb=>by
  rw[List.getD_eq_getElem?_getD,List.getD_eq_getElem?_getD,hrs b];split<;>rfl
 have hib: ∀b,(zbT N i).ib.getD b []=if i=b then l++r.inb else N.ib.getD b []:=λb=>by
  show (N.ib.modify i λl=>l++(N.rs.getD i rtD).inb).getD b []=_;rw[zb5 hr,List.getD_eq_getElem?_getD,List.getD_eq_getElem?_getD,List.getElem?_modify];by_cases e:i=b
  .subst e;rw[hl,if_pos rfl];show (if i=i then _ else _)=_;rw[if_pos rfl]
  .rw[if_neg e];cases N.ib[b]? with
   |none=>rfl
   |some q=>show (if _ then _ else _)=_;rw[if_neg e];rfl
 have hq:=hB i X r.co l hid (h.Q i r hr);refine⟨λj c s hE hc=>?_,h.fg,λb q j p hq hp=>?_,h.ug,λb q hbq=>?_,?_⟩
 .have:=h.fl j c s hE hc;have e:(zbT N i).rdA (c.rdE s)=N.rdA (c.rdE s):=by
   unfold Nt.rdA Nt.ptA;rw[hget];split
   .rename_i e;rw[<-e,zb5 hr];rfl
   .rfl
  rw[e];exact this
 .rw[hrs] at hq;split at hq
  .rename_i e;subst e;cases hq;exact h.ou i r j p hr hp
  .exact h.ou b q j p hq hp
 .rw[hrs] at hbq;split at hbq
  .cases hbq;exact hq.1
  .exact h.Q b q hbq
 .have hs:=h.sum;unfold Meas.tot at hs ⊢;have hlen:(zbT N i).rs.length=N.rs.length:=List.length_modify ..;rw[hlen,show (zbT N i).cs=N.cs from rfl];have key:=zck (f:=S.at J U N) (g:=S.at J U (zbT N i)) (i:=i) (x:=0) (y:=0) N.rs.length hi (λb hb hne=>by
   unfold Meas.at;rw[hget,hib,if_neg (λg=>hne g.symm),if_neg (λg=>hne g.symm)]) (by
   unfold Meas.at;rw[hget,hib,if_pos rfl,if_pos rfl,zb5 hr,show N.ib.getD i []=l from by rw[List.getD_eq_getElem?_getD,hl];rfl];have h2:S.W ⟨r.id,r.co.ps,r.b,[]⟩+J i (l++r.inb)<=S.W r.co+J i l:=hq.2;show S.v (U i)+S.W ⟨r.id,r.co.ps,r.b,[]⟩+J i (l++r.inb)+0<=S.v (U i)+S.W r.co+J i l+0;omega)
  omega
theorem wd_gathB(h:N.wd)(i:Nat):(zbT N i).wd:=by
 refine wd_sp (N':=zbT N i) h (zlO _) (λj c s hc=>?_);have:(zbT N i).ptA (c.rdE s)=N.ptA (c.rdE s):=by
  unfold Nt.ptA;rw[show (zbT N i).rs=N.rs.modify i (λr=>{ r with inb:=[] }) from rfl,List.getD_eq_getElem?_getD,List.getD_eq_getElem?_getD,List.getElem?_modify];cases N.rs[(c.rdE s).1]? with
  |none=>rfl
  |some q=>show Rt.pt (if _ then _ else _) _=_;split<;>rfl
 rw[this];exact Sp.refl _
def Nt.num(T:List (List Int))(N:Nt):Prop:=N.mt=T/\ ∀(i:Nat) (r:Rt),N.rs[i]? =some r->r.id=(i:Int)+1/\ ∀j,(r.pt j).m=(T.getD i []).getD j 0
theorem zfK{T:List (List Int)}{N:Nt}(h:N.num T)(a:Int){F:Rt->Rt}(hF: ∀r,(F r).id=r.id/\ ∀j,((F r).pt j).m=(r.pt j).m):(N.onR a F).num T:=⟨h.1,λi r hr=>by
 rw[ziT] at hr;cases hs:N.rs[i]? with
 |none=>rw[hs] at hr;cases hr
 |some s=>
  rw[hs] at hr;have hr2:(if (a-1).toNat=i then F s else s)=r:=Option.some.inj hr;subst hr2;split
  .rw[(hF s).1];exact⟨(h.2 i s hs).1,λj=>by rw[(hF s).2];exact (h.2 i s hs).2 j⟩
  .exact h.2 i s hs⟩
variable {T:List (List Int)}
theorem zjw(h:N.num T)(i:Nat)(s:Bool):(zgd N i s).num T:=by
 unfold zgd;cases hc:N.cs[i]? with
 |none=>exact h
 |some c=>exact zfK h _ (λr=>⟨rfl,λj=>(zpb r (c.wE s).2.toNat j).2.1⟩)
theorem znz(h:N.num T):(zbN N).num T:=by
 unfold zbN;generalize List.range N.cs.length=L
 induction L generalizing N with
 |nil=>exact h
 |cons x L ih=>
  refine ih (N:=zfj N x) ?_;show (zdo (zcE N x) x).num T;rw[zp1,zo3];exact zjw (zjw h x false) x true
theorem zok(h:N.num T)(i:Nat):(zbT N i).num T:=⟨h.1,λb r hr=>by
 have hr':(N.rs.modify i λr=>{ r with inb:=[] })[b]? =some r:=hr;rw[List.getElem?_modify] at hr';cases hs:N.rs[b]? with
 |none=>rw[hs] at hr';cases hr'
 |some s=>
  rw[hs] at hr';have hr2:(if i=b then { s with inb:=[] } else s)=r:=Option.some.inj hr';subst hr2;split<;>exact h.2 b s hs⟩
theorem zfz(hB:InB S J)(h:On S J M N){k n d e:Nat}(hN:N.ok k n d e)(hn:N.num T):On S J M (zbM N)/\(zbM N).num T:=by
 have h1:=on_gathL h hN;have h2:=znz hn;have h3:=zl7 hN;unfold zbM;rw[hN.rs];generalize zbN N=Q at *
 have key: ∀m,m<=k->let P:=(List.range m).foldl zbT Q
   On S J M P/\P.num T/\P.rs.length=k/\P.ib.length=k:=by
  intro m
  induction m with
  |zero=>exact λ_=>⟨h1,h2,h3.rs,h3.ib⟩
  |succ m ih=>
   intro hm;obtain⟨a1,a2,a3,a4⟩:=ih (by omega);rw[List.range_succ,List.foldl_append];generalize (List.range m).foldl zbT Q=P at *
   obtain⟨⟨X,F,U,b1⟩,b2⟩:=a1;exact⟨⟨⟨X,F,U,ni_gathB hB b1 (by omega) (by omega) (λr hr=>(a2.2 m r hr).1)⟩,wd_gathB b2 m⟩,zok a2 m,(List.length_modify ..).trans a3,(List.length_modify ..).trans a4⟩
 have:=key k (Nat.le_refl _);exact⟨this.1,this.2.1⟩
end
end Go.Proofs.YtimfnpjcedjmiadGreat
