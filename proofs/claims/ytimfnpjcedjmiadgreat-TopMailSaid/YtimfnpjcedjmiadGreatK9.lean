/- Lemmas. -/
import Derived.Test.YtimfnpjcedjmiadGreatK8
set_option maxRecDepth 100000
set_option maxHeartbeats 64000000
set_option linter.all false
namespace Go.Proofs.YtimfnpjcedjmiadGreat
open Go.RowKit
structure FamRep (xs:List Value) (ps:List OPred) (σ:zaM) (w:World) (D:Nat->Prop) (E:Nat->Nat->Prop):Prop where
 one: ∀(j:Nat) (x:Value) (p:OPred),xs[j]? =some x->ps[j]? =some p-> ∃b,x=.pointer (some ⟨b,0,none⟩)/\p.rep σ w b (E j)
 apart: ∀i j b,E i b->E j b->i=j
 all: ∀b,D b↔ ∃j,E j b
 out: ∀j b,E j b->j<ps.length
def famP(xs:List Value)(ps:List OPred):OPred where
 rep σ w _ D:= ∃E,xs.length=ps.length/\FamRep xs ps σ w D E
 ext:=by
  rintro σ σ' w w' x D ⟨E,hl,h⟩ hw hs;refine⟨E,hl,⟨λj x p hx hp=>?_,h.apart,h.all,h.out⟩⟩;obtain⟨b,h1,h2⟩:=h.one j x p hx hp;exact⟨b,h1,p.ext h2 (λc hc=>hw c ((h.all c).2 ⟨j,hc⟩)) hs⟩
 live:=by
  rintro σ w x D b ⟨E,hl,h⟩ hb;obtain⟨j,hj⟩:=(h.all b).1 hb;have hlt:=h.out j b hj;obtain⟨c,h1,h2⟩:=h.one j (xs[j]'(by omega)) ps[j] (List.getElem?_eq_getElem (by omega)) (List.getElem?_eq_getElem hlt);exact ps[j].live h2 hj
theorem zlr{xs:List Value}{ps:List OPred}{σ σ':zaM}{w w':World}{D:Nat->Prop}{E:Nat->Nat->Prop}(h:FamRep xs ps σ w D E)(hl:xs.length=ps.length){j:Nat}{p p':OPred}(hp:ps[j]? =some p){x:Value}(hx:xs[j]? =some x){b:Nat}(hb:x=.pointer (some ⟨b,0,none⟩)){F:Nat->Prop}(hF:p'.rep σ' w' b F)
  (hfp: ∀k,F k->w.heap.size<=k\/E j k) (hk: ∀k,k<w.heap.size-> ¬E j k->w'.heap[k]? =w.heap[k]?) (ho: ∀k o,k<w.heap.size-> ¬E j k->σ' k o=σ k o) (hs: ∀b o y,σ b o=some y->σ' b o=some y):
  FamRep xs (ps.set j p') σ' w' (λk=> ∃i,(if i=j then F k else E i k)) (λi k=>if i=j then F k else E i k):=by
 have hjlt:j<ps.length:=(List.getElem?_eq_some_iff.1 hp).1;have hlive: ∀i k,E i k->k<w.heap.size:=λi k hi=>by
  have hlt:=h.out i k hi;obtain⟨c,h1,h2⟩:=h.one i (xs[i]'(by omega)) ps[i] (List.getElem?_eq_getElem (by omega)) (List.getElem?_eq_getElem hlt);exact ps[i].live h2 hi
 refine⟨λi y q hy hq=>?_,λi i' k h1 h2=>?_,λk=>Iff.rfl,λi k h1=>?_⟩
 .rw[List.getElem?_set] at hq;by_cases hij:j=i
  .subst hij;rw[if_pos rfl,if_pos hjlt] at hq;obtain rfl:=Option.some.inj hq;rw[hx] at hy;obtain rfl:=Option.some.inj hy;refine⟨b,hb,?_⟩;simp only[if_true];exact hF
  .rw[if_neg hij] at hq;obtain⟨c,h1,h2⟩:=h.one i y q hy hq;refine⟨c,h1,?_⟩;have e:(λk=>if i=j then F k else E i k)=E i:=by funext k;rw[if_neg (λe=>hij e.symm)]
   show q.rep σ' w' c (λk=>if i=j then F k else E i k);rw[e];have hne: ∀k,E i k-> ¬E j k:=λk h1 h2=>hij ((h.apart i j k h1 h2).symm);exact q.ext h2 (λk hk1=>⟨hk k (hlive i k hk1) (hne k hk1),λo=>ho k o (hlive i k hk1) (hne k hk1)⟩) hs
 .try dsimp only at h1 h2
  split at h1<;>split at h2
  .rename_i e1 e2;rw[e1,e2]
  .rename_i e1 e2;rcases hfp k h1 with g|g
   .have:=hlive _ _ h2;omega
   .exact absurd (h.apart _ _ k h2 g) e2
  .rename_i e1 e2;rcases hfp k h2 with g|g
   .have:=hlive _ _ h1;omega
   .exact absurd (h.apart _ _ k h1 g) e1
  .exact h.apart _ _ k h1 h2
 .rw[List.length_set];try dsimp only at h1
  split at h1
  .rename_i e;rw[e];exact hjlt
  .exact h.out _ _ h1
theorem zoe{xs:List Value}{ps:List OPred}{σ:zaM}{μ:zaJ}{w:World}{Ds:Nat->Nat->Prop}(hmem:MemOk σ μ w [.obj (famP xs ps)] Ds){j:Nat}{x:Value}{p:OPred}(hx:xs[j]? =some x)(hp:ps[j]? =some p):
  ∃E b,x=.pointer (some ⟨b,0,none⟩)/\xs.length=ps.length/\FamRep xs ps σ w (Ds 0) E/\MemOk σ (λi=>if i=0 then some (.fix (.pointer (some ⟨b,0,none⟩))) else none) w [.obj p] (λi=>if i=0 then E j else λ_=>False):=by
 obtain⟨b0,hb0,E,hl,hE⟩:=hmem.ok 0 _ rfl;obtain⟨b,h1,h2⟩:=hE.one j x p hx hp;refine⟨E,b,h1,hl,hE,⟨λid r hr=>?_,λi i' k h1 h2=>?_,λid hid=>?_⟩⟩
 .cases id with
  |zero=>
   simp only[List.getElem?_cons_zero,Option.some.injEq] at hr;subst hr;exact⟨b,rfl,h2⟩
  |succ i=>simp at hr
 .exact Y103
 .exact Y92
theorem fn_focus{P:Program}{f:FuncId}{args:List AV}{r:AV}{p p':OPred}(hF:Fn P f (.box 0 0::args) [.obj p] r [.obj p']){xs:List Value}{ps:List OPred}{j:Nat}{x:Value}(hx:xs[j]? =some x)(hp:ps[j]? =some p)(ha:args.all AV.free=true)(hr:r.free=true):
  Fn P f (.v x::args) [.obj (famP xs ps)] r [.obj (famP xs (ps.set j p'))]:=by
 refine⟨hF.1,λw σ μ Ds vs hag hmem hlen hargs=>?_⟩;obtain⟨E,b,hb,hl,hE,hm1⟩:=zoe hmem hx hp;refine (hF.2 w σ _ _ vs hag hm1 (by simpa using hlen) (λi av y h1 h2=>?_)).mono ?_
 .exact Y54
 .rintro e w' ⟨x',σ',μ1,D1,rfl,hpost⟩;obtain⟨b0,hb0,_⟩:=hmem.ok 0 _ rfl;have hfp: ∀k,(∃id,(if id=0 then E j else λ_=>False) k)↔E j k:=λk=>⟨λ⟨id,h⟩=>by
   split at h
   .exact h
   .exact h.elim,λh=>⟨0,h⟩⟩
  obtain⟨b1,g1,g2⟩:=hpost.mem.ok 0 _ rfl;obtain⟨a',q1,q2⟩:=hpost.gle 0 (.fix (.pointer (some ⟨b,0,none⟩))) rfl;rw[g1] at q1;obtain rfl:=Option.some.inj q1;obtain rfl:b1=b:=by
   simp only[An.le,Value.pointer.injEq,Option.some.injEq] at q2;exact congrArg Addr.block q2
  have hstep:=zlr hE hl hp hx hb (F:=D1 0) g2 (λk hk=>(hpost.own 0 k hk).imp (λh=>h) λ⟨i,h⟩=>(hfp k).1 ⟨i,h⟩) (λk hk hno=>hpost.keeps.block k hk (λh=>hno ((hfp k).1 h))) (λk o hk hno=>hpost.old k o hk (λh=>hno ((hfp k).1 h))) hpost.mono;have hD: ∀k,E j k->Ds 0 k:=λk h=>(hE.all k).2 ⟨j,h⟩;refine⟨x',σ',λi=>if i=0 then μ 0 else none,λi=>if i=0 then (λk=> ∃i,(if i=j then D1 0 k else E i k)) else λ_=>False,rfl,⟨hpost.rep.free hr,⟨λid q hq=>?_,λi i' k h1 h2=>?_,λid hid=>?_⟩,λi a hi=>?_,hpost.agree,⟨hpost.keeps.os,hpost.keeps.tape,hpost.keeps.output,hpost.keeps.size,λk hk hno=>hpost.keeps.block k hk (λh=>hno ⟨0,hD k ((hfp k).1 h)⟩)⟩,λc o hc hno=>hpost.old c o hc (λh=>hno ⟨0,hD c ((hfp c).1 h)⟩),hpost.mono,λid k hk=>?_⟩⟩
  .cases id with
   |zero=>
    simp only[List.getElem?_cons_zero,Option.some.injEq] at hq;subst hq;exact⟨b0,hb0,_,by rw[List.length_set];exact hl,hstep⟩
   |succ i=>simp at hq
  .exact Y103
  .exact Y92
  .by_cases h0:i=0
   .subst h0;exact⟨a,by simpa using hi,An.le_refl _⟩
   .rw[(hmem.out i (by simp;omega)).1] at hi;cases hi
  .try dsimp only at hk
   split at hk
   .exact Y85
   .exact hk.elim
theorem znf{P:Program}{f:FuncId}{args:List AV}{p p':OPred}{n T sz:Nat}{rows:List (List AV)}(hF:Fn P f (.box 0 0::args) [.obj p] (.arr 1 0 n) [.obj p',.arr true T sz 0 rows]){xs:List Value}{ps:List OPred}{j:Nat}{x:Value}(hx:xs[j]? =some x)(hp:ps[j]? =some p)(ha:args.all AV.free=true):
  Fn P f (.v x::args) [.obj (famP xs ps)] (.arr 1 0 n) [.obj (famP xs (ps.set j p')),.arr true T sz 0 rows]:=by
 refine⟨hF.1,λw σ μ Ds vs hag hmem hlen hargs=>?_⟩;obtain⟨E,b,hb,hl,hE,hm1⟩:=zoe hmem hx hp;refine (hF.2 w σ _ _ vs hag hm1 (by simpa using hlen) (λi av y h1 h2=>?_)).mono ?_
 .exact Y54
 .rintro e w' ⟨x',σ',μ1,D1,rfl,hpost⟩;obtain⟨b0,hb0,_⟩:=hmem.ok 0 _ rfl;have hfp: ∀k,(∃id,(if id=0 then E j else λ_=>False) k)↔E j k:=λk=>⟨λ⟨id,h⟩=>by
   split at h
   .exact h
   .exact h.elim,λh=>⟨0,h⟩⟩
  obtain⟨b1,g1,g2⟩:=hpost.mem.ok 0 _ rfl;obtain⟨a',q1,q2⟩:=hpost.gle 0 (.fix (.pointer (some ⟨b,0,none⟩))) rfl;rw[g1] at q1;obtain rfl:=Option.some.inj q1;obtain rfl:b1=b:=by
   simp only[An.le,Value.pointer.injEq,Option.some.injEq] at q2;exact congrArg Addr.block q2
  have hstep:=zlr hE hl hp hx hb (F:=D1 0) g2 (λk hk=>(hpost.own 0 k hk).imp (λh=>h) λ⟨i,h⟩=>(hfp k).1 ⟨i,h⟩) (λk hk hno=>hpost.keeps.block k hk (λh=>hno ((hfp k).1 h))) (λk o hk hno=>hpost.old k o hk (λh=>hno ((hfp k).1 h))) hpost.mono;have hD: ∀k,E j k->Ds 0 k:=λk h=>(hE.all k).2 ⟨j,h⟩;have hlive: ∀i k,E i k->k<w.heap.size:=λi k hi=>by
   have hlt:=hE.out i k hi;obtain⟨c,h1,h2⟩:=hE.one i (xs[i]'(by omega)) ps[i] (List.getElem?_eq_getElem (by omega)) (List.getElem?_eq_getElem hlt);exact ps[i].live h2 hi
  have hfar: ∀i k,D1 1 k->i≠j-> ¬E i k:=λi k h1 hne h2=>by
   rcases hpost.own 1 k h1 with g|⟨i',g⟩
   .have:=hlive i k h2;omega
   .exact hne (hE.apart i j k h2 ((hfp k).1 ⟨i',g⟩))
  let μ2:zaJ:=λi=>if i=0 then μ 0 else μ1 i
  let D2:Nat->Nat->Prop:=λi=>if i=0 then (λk=> ∃i,(if i=j then D1 0 k else E i k)) else D1 i
  have hrep:RepV σ' μ2 (.arr 1 0 n) x':=by
   cases hpost.rep with
   |arr _ _ _ _ ao m cap a hn hm hmax h hl=>exact .arr _ 1 0 n ao m cap a hn hm hmax h hl
  refine⟨x',σ',μ2,D2,rfl,⟨hrep,⟨λid q hq=>?_,λi i' k h1 h2=>?_,λid hid=>?_⟩,λi a hi=>?_,hpost.agree,⟨hpost.keeps.os,hpost.keeps.tape,hpost.keeps.output,hpost.keeps.size,λk hk hno=>hpost.keeps.block k hk (λh=>hno ⟨0,hD k ((hfp k).1 h)⟩)⟩,λc o hc hno=>hpost.old c o hc (λh=>hno ⟨0,hD c ((hfp c).1 h)⟩),hpost.mono,λid k hk=>?_⟩⟩
  .match id,hq with
   |0,hq=>
    simp only[List.getElem?_cons_zero,Option.some.injEq] at hq;subst hq;exact⟨b0,hb0,_,by rw[List.length_set];exact hl,hstep⟩
   |1,hq=>
    have h1:=hpost.mem.ok 1 q (by simpa using hq);simp only[List.getElem?_cons_succ,List.getElem?_cons_zero,Option.some.injEq] at hq;subst hq;exact h1
   |i+2,hq=>simp at hq
  .simp only[D2] at h1 h2;split at h1<;>split at h2
   .rename_i e1 e2;rw[e1,e2]
   .rename_i e1 e2;obtain⟨m,hm⟩:=h1;exfalso;split at hm
    .have:=hpost.mem.apart 0 i' k hm h2;omega
    .rename_i hne;rcases Nat.lt_or_ge i' 2 with g|g
     .obtain rfl:i'=1:=by omega
      exact hfar m k h2 hne hm
     .exact (hpost.mem.out i' (by simp;omega)).2 k h2
   .rename_i e1 e2;obtain⟨m,hm⟩:=h2;exfalso;split at hm
    .have:=hpost.mem.apart 0 i k hm h1;omega
    .rename_i hne;rcases Nat.lt_or_ge i 2 with g|g
     .obtain rfl:i=1:=by omega
      exact hfar m k h1 hne hm
     .exact (hpost.mem.out i (by simp;omega)).2 k h1
   .exact hpost.mem.apart i i' k h1 h2
  .simp only[List.length_cons,List.length_nil] at hid;have h2:=hpost.mem.out id (by simp;omega);refine⟨?_,λb=>?_⟩
   .simp only[μ2];rw[if_neg (by omega)];exact h2.1
   .simp only[D2];rw[if_neg (by omega)];exact h2.2 b
  .by_cases h0:i=0
   .subst h0;exact⟨a,by simpa[μ2] using hi,An.le_refl _⟩
   .rw[(hmem.out i (by simp;omega)).1] at hi;cases hi
  .simp only[D2] at hk;split at hk
   .exact Y85
   .exact (hpost.own id k hk).imp (λh=>h) λ⟨i,h⟩=>⟨0,hD k ((hfp k).1 ⟨i,h⟩)⟩
structure Hd (Q:Prop):Prop where
 o:Q
theorem Hd.and{A B QA QB:Prop}(q:Hd (Tw QA QB))(a:Hd QA->A)(b:Hd QB->B):A/\B:=⟨a ⟨q.o.1⟩,b ⟨q.o.2⟩⟩
theorem Hd.tru{A:Prop}(_:Hd True)(a:A):A:=a
theorem Hd.red{c d B QB:Prop}(q:Hd (Hy d->QB))(s:c->d)(b:Hd QB->d->B):Im c B:=⟨λh=>b ⟨q.o ⟨s h⟩⟩ (s h)⟩
theorem Hd.raw{c B QB:Prop}(q:Hd (c->QB))(b:Hd QB->c->B):Im c B:=⟨λh=>b ⟨q.o h⟩ h⟩
theorem Hd.al{B:Bool->Prop}{QF QT:Prop}(q:Hd (Tw QF QT))(f:Hd QF->B false)(t:Hd QT->B true):Al B:=⟨λx=>match x with|false=>f ⟨q.o.1⟩|true=>t ⟨q.o.2⟩⟩
theorem Hd.idx{α:Type}{l:List α}{f:α->List AV}{k:Nat}{K:AV->Prop}{Q:Hy (k<l.length)->Prop}(q:Hd (∀h,Q h))(hl:k<l.length)(hk: ∀h:Hy (k<l.length),Hd (Q h)->K (.adr (f (l[k]'h.o)))):StopIdx (l.map f) (k:Int) K:=zap hl (hk ⟨hl⟩ ⟨q.o _⟩)
theorem Hd.idxI{α:Type}{l:List α}{f:α->List AV}{i:Int}{K:AV->Prop}{Q:Hy (i.toNat<l.length)->Prop}(q:Hd (∀h,Q h))(h0:0<=i)(hl:i.toNat<l.length)(hk: ∀h:Hy (i.toNat<l.length),Hd (Q h)->K (.adr (f (l[i.toNat]'h.o)))):StopIdx (l.map f) i K:=zaa h0 hl (hk ⟨hl⟩ ⟨q.o _⟩)
theorem Hd.lit{rows:List (List AV)}{i:Int}{K:AV->Prop}{r:List AV}{Q:Prop}(q:Hd Q)(h0:decide (0<=i)=true)(h:rows[i.toNat]? =some r)(k:Hd Q->K (.adr r)):StopIdx rows i K:=⟨r,of_decide_eq_true h0,h,k q⟩
theorem Hd.pos{len:Nat}{i:Int}{K:Nat->Prop}{Q:Prop}(q:Hd Q)(h0:decide (0<=i)=true)(h:decide (i<len)=true)(k:Hd Q->K i.toNat):StopAt len i K:=⟨of_decide_eq_true h0,of_decide_eq_true h,k q⟩
theorem Hd.row{rows:List (List AV)}{i:Nat}{K:List AV->Prop}{r:List AV}{Q:Prop}(q:Hd Q)(h:rows[i]? =some r)(k:Hd Q->K r):StopRow rows i K:=⟨r,h,k q⟩
theorem Hd.vc{p:Prop}(q:Hd p):Vc p:=⟨q.o⟩
theorem fw{P Q:Prop}(q:Q)(r:Hd Q->P:=by
  intro q;repeat' ((conv=>whnf);first
   |((with_reducible apply Hd.and q);clear q;intro q;rotate_left;clear q;intro q;rotate_right)
   |(with_reducible exact Hd.tru q True.intro)
   |((
     with_reducible refine Im.to ?_);first
     |(refine Hd.tru q ⟨?_⟩;intro h;first|(cases h;done)|((try simp only[vis,Int.reduceToNat] at h)<;>(exfalso;omega)))
     |(apply Hd.raw q;clear q;intro q h;cases h)
     |(apply Hd.red q;(focus (intro h;(try simp only[vis,Int.reduceToNat] at h);exact h));clear q;intro q h))
   |(apply Hd.pos q rfl rfl;clear q;intro q)
   |(apply Hd.row q rfl;clear q;intro q)
   |(apply Hd.row q;(focus assumption);clear q;intro q)
   |(apply Hd.lit q rfl rfl;clear q;intro q)
   |((with_reducible refine Al.to ?_);apply Hd.al q;clear q;intro q;rotate_left;clear q;intro q;rotate_right)
   |(apply Hd.idx q;(focus (first|omega|(simp;done)|(simp;omega)));clear q;intro hh q)
   |(apply Hd.idxI q;(focus (first|omega|(simp;done)|(simp;omega)));(focus (first|omega|(simp;done)|(simp;omega)));clear q;intro hh q)
   |(refine Hd.tru q ?_;(first|omega|(refine Vc.mk ?_;first|exact GLt|exact⟨by decide,by decide⟩)))
   |(refine Hd.vc q)
   |exact q.o)):P:=r ⟨q⟩
theorem Rel.rerow{n:Nat}{fp:Nat->Prop}{w0:Start}{σ:zaM}{μ:zaJ}{Ds:Nat->Nat->Prop}{A:AS}{a:Act}{w:World}(h:Rel n fp w0 σ μ Ds A a w){id j E sz g:Nat}{rows:List (List AV)}{u v:AV}(hid:A.mem[id]? =some (.arr false E sz g rows))(hj:rows[j]? =some [u])(hv: ∀x,RepV σ μ u x->RepV σ μ v x):
  Rel n fp w0 σ μ Ds ⟨A.fr,A.mem.set id (.arr false E sz g (rows.set j [v]))⟩ a w:=by
 have hlt:id<A.mem.length:=(List.getElem?_eq_some_iff.1 hid).1;have hjl:j<rows.length:=(List.getElem?_eq_some_iff.1 hj).1;refine⟨h.defers,h.size,h.frame,h.agree,⟨λi r hi=>?_,h.mem.apart,λi hi=>h.mem.out i (by simpa using hi)⟩,h.own,h.keeps,h.old,h.mono,h.gle,h.kout,by simpa using h.klen⟩;rw[List.getElem?_set] at hi;split at hi
 .rename_i e;subst e;obtain rfl:=Option.some.inj hi;obtain⟨ao,cap,xs,h1,h2,h3,h4,h5,h6⟩:=h.mem.ok _ _ hid;have hsz:sz=1:=(h3 [u] (List.mem_of_getElem? hj)).symm;refine⟨ao,cap,xs,by rw[List.length_set];exact h1,by rw[List.length_set];exact h2,λr hr=>?_,λi q r av hi hq=>?_,h5,h6⟩
  .rcases List.mem_or_eq_of_mem_set hr with g|g
   .exact h3 r g
   .rw[g,hsz];rfl
  .rw[List.getElem?_set] at hi;split at hi
   .rename_i e;subst e;obtain rfl:=Option.some.inj hi;cases q with
    |zero=>
     obtain rfl:v=av:=by simpa using hq
     obtain⟨y,y1,y2,y3⟩:=h4 j 0 [u] u hj rfl;exact⟨y,y1,hv y y2,y3⟩
    |succ q=>simp at hq
   .exact h4 i q r av hi hq
 .exact h.mem.ok i r hi
theorem zaK{k:Nat}{fr:List (Nat×AV)}{mem:List Res}(f:Bool)(id j E sz:Nat){E0 sz0 g0:Nat}(rows:List (List AV))(hid:mem[id]? =some (.arr false E0 sz0 g0 rows))(hj:rows[j]? =some [.v (.slice none 0 0)]):
  AS.le k ⟨fr,mem⟩ ⟨fr,(mem++[Res.arr f E sz 0 []]).set id (.arr false E0 sz0 g0 (rows.set j [.arr mem.length 0 0]))⟩:=by
 intro n fp w0 σ μ Ds a w hk hr;have hlt:id<mem.length:=(List.getElem?_eq_some_iff.1 hid).1;have hnew:=hr.newArr (E:=E) (sz:=sz) (f:=f) (rows:=[]) (ao:=none) (cap:=0) (xs:=[]) (Nat.le_refl _) rfl rfl rfl (λ_ _=>rfl) ⟨by simp,.inl ⟨rfl,rfl⟩⟩ (λk hk=>by cases hk) (λr hr=>by simp at hr) (λi j r av g=>by simp at g);exact⟨_,_,_,hnew.rerow (id:=id) (j:=j) (by rw[List.getElem?_append_left hlt];exact hid) hj (λx hx=>by rw[hx.inv_v];exact ziH updG_self (An.le_refl _))⟩
theorem zcF{k:Nat}{fr:List (Nat×AV)}{mem:List Res}(q id j:Nat){g n E sz E0 sz0 g0:Nat}{rws:List (List AV)}(rows:List (List AV))(hq:mem[q]? =some (.arr true E sz g rws))(hne:decide (q≠id)=true)(hid:mem[id]? =some (.arr false E0 sz0 g0 rows))(hj:rows[j]? =some [.arr q g n]):
  AS.le k ⟨fr,mem⟩ ⟨fr,(mem.set q .gone).set id (.arr false E0 sz0 g0 (rows.set j [.sl sz (rws.take n) none]))⟩:=by
 have hne:=of_decide_eq_true hne;intro nn fp w0 σ μ Ds a w hk hr;have hlt:q<mem.length:=(List.getElem?_eq_some_iff.1 hq).1;obtain⟨ao,cap,xs,h1,h2,h3,h4,h5,h6⟩:=hr.mem.ok q _ hq;let σ':zaM:=λb o=>if blkA ao=some b then xs[o]? else σ b o
 have hs: ∀b o y,σ b o=some y->σ' b o=some y:=λb o y hy=>by
  dsimp only[σ'];split
  .rename_i e;rw[h5 b ((h6 b).2 e) o] at hy;cases hy
  .exact hy
 have hag:zed σ' w:=λb o y hy=>by
  dsimp only[σ'] at hy;split at hy
  .rename_i e;exact zkA h2 e hy
  .exact hr.agree b o y hy
 have hu:=hr.upd (id:=q) (r:=.gone) (D:=λ_=>False) (an:=.cur ao rws.length cap g) (σ':=σ') (w':=w) (Nat.le_of_lt hlt) (Nat.le_refl _) rfl rfl rfl
  (λb hb hd=>⟨rfl,λo=>if_neg (λe=>hd ((h6 b).2 e))⟩) hs hag (λb hb=>hb) (λb hb=>hb.elim) (λx hx=>by rw[h1] at hx;obtain rfl:=Option.some.inj hx;exact An.le_refl _)
 have hp:putR mem q .gone=mem.set q .gone:=zb9 hlt;rw[show (⟨fr,mem⟩:AS).mem=mem from rfl,hp] at hu;refine⟨_,_,_,hu.rerow (id:=id) (j:=j) (u:=.arr q g n) (by show (mem.set q .gone)[id]? =_;rw[List.getElem?_set_ne hne];exact hid) hj (λx hx=>?_)⟩;obtain⟨ao2,m,cap2,an,rfl,k1,k2,k3,hmu,hle⟩:=hx.inv_arr;have hmq:updG μ q (.cur ao rws.length cap g) q=some (.cur ao rws.length cap g):=updG_self;rw[hmq] at hmu;obtain rfl:=Option.some.inj hmu;obtain⟨_,hle⟩:=hle;obtain⟨e1,e2,e3⟩:=hle rfl;subst e1 e3;have hlen:(rws.take n).length=n:=by rw[List.length_take];omega
 have hget: ∀(i:Nat) (r:List AV),(rws.take n)[i]? =some r->rws[i]? =some r:=λi r hi=>by
  rw[List.getElem?_take] at hi;split at hi
  .exact hi
  .cases hi
 have hao:rws.take n=[]\/ ∃b,ao=some ⟨b,0,none⟩:=by
  exact Y74
 have key: ∀b,(rws.take n=[]\/ao=some ⟨b,0,none⟩)->RepV σ' (updG μ q (.cur ao rws.length cap g)) (.sl sz (rws.take n) none) (.slice ao (rws.take n).length cap):=by
  exact Y30
 rcases hao with hao|⟨b,hao⟩
 .have:=key 0 (.inl hao);rw[hlen] at this;exact this
 .have:=key b (.inr hao);rw[hlen] at this;exact this
structure Ca where
 a:Int
 pa:Int
 b:Int
 pb:Int
 m:Int
def zcZ(c:Ca):List AV:=[.v (.int .i64 c.a),.v (.int .i64 c.pa),.v (.int .i64 c.b),.v (.int .i64 c.pb),.v (.int .i64 c.m)]
structure Ca.ok (k:Nat) (c:Ca):Prop where
 a:1<=c.a/\c.a<=k
 pa:0<=c.pa/\c.pa<3
 b:1<=c.b/\c.b<=k
 pb:0<=c.pb/\c.pb<3
 m:1<=c.m/\c.m<=20
def endK(e:Int×Int):Value:=.agg #[.int .i64 e.1,.int .i64 e.2]
def zms(U:List (Int×Int)):Value->Option (List AV):=U.foldr (λe f=>updF f (endK e) (some [.v (.bool true)])) (λ_=>none)
theorem zo9(x y:Int×Int):zcW (endK x) (endK y)=true↔x=y:=by
 constructor
 .intro h;have:=zbB h;simp only[endK,Value.agg.injEq] at this;have h2:(x.1=y.1)/\(x.2=y.2):=by simpa using this
  exact Prod.ext h2.1 h2.2
 .rintro rfl;exact zb1 (kk:=none) ⟨_,_,rfl⟩
theorem zpH{U:List (Int×Int)}{e:Int×Int}(h:e∈U):zms U (endK e)=some [.v (.bool true)]:=by
 induction U with
 |nil=>cases h
 |cons x U ih=>
  show updF (zms U) (endK x) _ (endK e)=_;rw[zbG];split
  .rfl
  .rename_i hn;rcases List.mem_cons.1 h with rfl|h
   .exact absurd ((zo9 _ _).2 rfl) hn
   .exact ih h
theorem zoZ{U:List (Int×Int)}{e:Int×Int}(h:e∉U):zms U (endK e)=none:=by
 induction U with
 |nil=>rfl
 |cons x U ih=>
  show updF (zms U) (endK x) _ (endK e)=_;rw[zbG,if_neg (λhk=>h (by rw[(zo9 _ _).1 hk];exact List.mem_cons_self ..))];exact ih (λhm=>h (List.mem_cons_of_mem _ hm))
def endE(k:Int)(U:List (Int×Int))(e:Int×Int):Int:=if e.1<1\/k<e.1\/e.2<0\/3<=e.2 then 1 else if e∈U then 8 else 0
def capE(k:Int)(U:List (Int×Int))(c:Ca):Int:=if c.m<1\/20<c.m then 1 else if endE k U (c.a,c.pa)≠0 then endE k U (c.a,c.pa) else endE k ((c.a,c.pa)::U) (c.b,c.pb)
def zoR(U:List (Int×Int))(c:Ca):List (Int×Int):=(c.b,c.pb)::(c.a,c.pa)::U
def ze4(k:Int):List Ca->List (Int×Int)->Int
 |[],_=>0
 |c::l,U=>if capE k U c≠0 then capE k U c else ze4 k l (zoR U c)
def zb5(k:Int)(l:List Ca):Int:=if k<1\/6<k then 1 else if 9<l.length then 2 else ze4 k l []
theorem zhs{k:Int}{U:List (Int×Int)}{e:Int×Int}(h:endE k U e=0):1<=e.1/\e.1<=k/\0<=e.2/\e.2<3/\e∉U:=by
 unfold endE at h;split at h
 .cases h
 .split at h
  .cases h
  .rename_i h1 h2;exact⟨by omega,by omega,by omega,by omega,h2⟩
theorem capE_ok{k:Nat}{U:List (Int×Int)}{c:Ca}(h:capE k U c=0):c.ok k:=by
 unfold capE at h;split at h
 .cases h
 .split at h
  .rename_i h1 h2;exact absurd h h2
  .rename_i h1 h2;obtain⟨a1,a2,a3,a4,-⟩:=zhs (Decidable.not_not.1 h2);obtain⟨b1,b2,b3,b4,-⟩:=zhs h;exact⟨⟨a1,a2⟩,⟨a3,a4⟩,⟨b1,b2⟩,⟨b3,b4⟩,by omega⟩
theorem zjW{k:Nat}: ∀{l:List Ca} {U:List (Int×Int)},ze4 k l U=0-> ∀c∈l,c.ok k
 |[],_,_=>by simp
 |c::l,U,h=>by
  unfold ze4 at h;split at h
  .rename_i h1;exact absurd h h1
  .rename_i h1;intro d hd;rcases List.mem_cons.1 hd with rfl|hd
   .exact capE_ok (Decidable.not_not.1 h1)
   .exact zjW h d hd
theorem zc4{k:Int}{l:List Ca}(h:zb5 k l=0):1<=k/\k<=6/\l.length<=9/\ ∀c∈l,c.ok k.toNat:=by
 unfold zb5 at h;split at h
 .cases h
 .split at h
  .cases h
  .rename_i h1 h2;obtain⟨m,rfl⟩: ∃m:Nat,k=m:=⟨k.toNat,by omega⟩;exact⟨by omega,by omega,by omega,zjW h⟩
theorem zkm{k:Int}{l:List Ca}{j:Nat}{U:List (Int×Int)}(hj:j<l.length):ze4 k (l.drop j) U=if capE k U l[j]≠0 then capE k U l[j] else ze4 k (l.drop (j+1)) (zoR U l[j]):=by
 rw[List.drop_eq_getElem_cons hj];rfl
theorem lookNk{o:Option (List AV)}{K:Option (List AV)->Prop}(h:o=none)(k:K none):StopLook o K:=by
 subst h;exact⟨λl e=>(by cases e),λ_=>k⟩
theorem lookSk{o:Option (List AV)}{l:List AV}{K:Option (List AV)->Prop}(h:o=some l)(k:K (some l)):StopLook o K:=by
 subst h;exact⟨λm e=>(by cases e;exact k),λe=>(by cases e)⟩
def usedI(U:List (Int×Int))(c:Ca)(i:Nat):List (Int×Int):=match i with
 |0=>U
 |1=>(c.a,c.pa)::U
 |_=>zoR U c
theorem zjd(k:Int)(l:List Ca)(hl:l.length<=1000000):Fn Tryz.prog 28 [.v (.int .i64 k),.sl 5 (l.map zcZ) none] [] (.err (zb5 k l)) []:=by
 obtain⟨R,hR⟩: ∃R,zb5 k l=R:=⟨_,rfl⟩;rw[hR];unfold zb5 at hR;refine foA zaA [] [] Tryz.func28 Tryz.ntmps28 Tryz.results28 ?_;by_cases h1:k<1\/6<k
 .rw[if_pos h1] at hR;subst hR;(all_goals refine gv ?_;repeat' first|exact .intro|refine Tw.mk ?_ ?_|(intro h;first|replace h:=h.o|cases h))
  all_goals (try (exfalso;omega))
  all_goals exact Y13
 rw[if_neg h1] at hR;by_cases h2:9<l.length
 .rw[if_pos h2] at hR;subst hR;(all_goals refine gv ?_;repeat' first|exact .intro|refine Tw.mk ?_ ?_|(intro h;first|replace h:=h.o|cases h))
  all_goals (try (exfalso;omega))
  all_goals exact Y13
 rw[if_neg h2] at hR;(all_goals refine gv ?_;repeat' first|exact .intro|refine Tw.mk ?_ ?_|(intro h;first|replace h:=h.o|cases h))
 all_goals (try (exfalso;omega))
 refine lpG (λs:Nat×List (Int×Int)=>⟨[(0,.v (.int .i64 k)),(5,.map 0),(22,.sl 5 (l.map zcZ) none),(23,.v (.int .i64 l.length)),(24,.v (.int .i64 s.1))],[.map none false (zms s.2)]⟩) (λs=>s.1<=l.length/\ze4 k (l.drop s.1) s.2=R) (λs=>l.length-s.1) (0,[]) ⟨by dsimp only;omega,hR⟩ (by (refine zaC [0] ?_;repeat' first|exact .intro|refine Tw.mk ?_ ?_);all_goals (simp;done)) ?_;clear hR;rintro⟨j,U⟩ ⟨hj,hU⟩;dsimp only at hj hU ⊢;by_cases hj':j<l.length
 .rw[zkm hj'] at hU;obtain⟨c,hc⟩: ∃c,l[j]=c:=⟨_,rfl⟩;by_cases hm:l[j].m<1\/20<l[j].m
  .obtain rfl:1=R:=by rw[<-hU];unfold capE;rw[if_pos hm];rfl
   (all_goals refine gv ?_;repeat' first|exact .intro|refine Tw.mk ?_ ?_|(intro h;first|replace h:=h.o|cases h))
   all_goals (try (exfalso;omega))
   all_goals exact Y13
  have hcap:capE k U l[j]=if endE k U (l[j].a,l[j].pa)≠0 then endE k U (l[j].a,l[j].pa) else endE k ((l[j].a,l[j].pa)::U) (l[j].b,l[j].pb):=by unfold capE;rw[if_neg hm]
  (all_goals refine gv ?_;repeat' first|exact .intro|refine Tw.mk ?_ ?_|(intro h;first|replace h:=h.o|cases h))
  all_goals (try (exfalso;omega))
  refine lpG (λi:Nat=>⟨[(0,.v (.int .i64 k)),(5,.map 0),(22,.sl 5 (l.map zcZ) none),(23,.v (.int .i64 l.length)),(24,.v (.int .i64 j)),(47,.sl 2 [[.v (.int .i64 l[j].a),.v (.int .i64 l[j].pa)],[.v (.int .i64 l[j].b),.v (.int .i64 l[j].pb)]] none),(48,.v (.int .i64 2)),(49,.v (.int .i64 i))],[.map none false (zms (usedI U l[j] i))]⟩) (λi=>i<=2/\(1<=i->endE k U (l[j].a,l[j].pa)=0)/\(2<=i->endE k ((l[j].a,l[j].pa)::U) (l[j].b,l[j].pb)=0)) (λi=>2-i) 0 ⟨by omega,by omega,by omega⟩ (by (refine zaC [0] ?_;repeat' first|exact .intro|refine Tw.mk ?_ ?_)) ?_;rintro i ⟨hi,hi1,hi2⟩;rcases (by omega:i=0\/i=1\/i=2) with rfl|rfl|rfl
  .obtain⟨E,hE⟩: ∃E,endE k U (l[j].a,l[j].pa)=E:=⟨_,rfl⟩;have hER:E≠0->R=E:=λh0=>by rw[<-hU,hcap,hE,if_pos h0,if_pos h0]
   unfold endE at hE;dsimp only at hE;by_cases hb:l[j].a<1\/k<l[j].a\/l[j].pa<0\/3<=l[j].pa
   .rw[if_pos hb] at hE;subst hE;obtain rfl:=hER (by decide);(all_goals refine fv ?_;repeat' first|exact .intro|refine Tw.mk ?_ ?_|(intro h;first|replace h:=h.o|cases h))
    all_goals (try (exfalso;omega))
    all_goals exact Y13
   .rw[if_neg hb] at hE;by_cases hu:(l[j].a,l[j].pa)∈U
    .have hlook:=zpH hu;rw[if_pos hu] at hE;subst hE;obtain rfl:=hER (by decide);(all_goals refine fv ?_;repeat' first|exact .intro|refine Tw.mk ?_ ?_|(intro h;first|replace h:=h.o|cases h))
     all_goals (try (exfalso;omega))
     refine lookSk hlook ?_;(all_goals refine fv ?_;repeat' first|exact .intro|refine Tw.mk ?_ ?_|(intro h;first|replace h:=h.o|cases h))
     all_goals exact Y13
    .have hlook:=zoZ hu;rw[if_neg hu] at hE;(all_goals refine fv ?_;repeat' first|exact .intro|refine Tw.mk ?_ ?_|(intro h;first|replace h:=h.o|cases h))
     all_goals (try (exfalso;omega))
     refine lookNk hlook ?_;(all_goals refine fv ?_;repeat' first|exact .intro|refine Tw.mk ?_ ?_|(intro h;first|replace h:=h.o|cases h))
     refine zaU 1 ⟨by omega,λ_=>?_,by omega⟩ (by omega) (by (refine zaC [0] ?_;repeat' first|exact .intro|refine Tw.mk ?_ ?_));unfold endE;rw[if_neg hb,if_neg hu]
  .have h0:=hi1 (by omega);obtain⟨E,hE⟩: ∃E,endE k ((l[j].a,l[j].pa)::U) (l[j].b,l[j].pb)=E:=⟨_,rfl⟩;have hER:E≠0->R=E:=λhn=>by
    have e1:capE k U l[j]=E:=by rw[hcap,if_neg (by rw[h0];simp),hE]
    rw[<-hU,e1,if_pos hn]
   unfold endE at hE;dsimp only at hE;by_cases hb:l[j].b<1\/k<l[j].b\/l[j].pb<0\/3<=l[j].pb
   .rw[if_pos hb] at hE;subst hE;obtain rfl:=hER (by decide);(all_goals refine fv ?_;repeat' first|exact .intro|refine Tw.mk ?_ ?_|(intro h;first|replace h:=h.o|cases h))
    all_goals (try (exfalso;omega))
    all_goals exact Y13
   .rw[if_neg hb] at hE;by_cases hu:(l[j].b,l[j].pb)∈(l[j].a,l[j].pa)::U
    .have hlook:=zpH hu;rw[if_pos hu] at hE;subst hE;obtain rfl:=hER (by decide);(all_goals refine fv ?_;repeat' first|exact .intro|refine Tw.mk ?_ ?_|(intro h;first|replace h:=h.o|cases h))
     all_goals (try (exfalso;omega))
     refine lookSk hlook ?_;(all_goals refine fv ?_;repeat' first|exact .intro|refine Tw.mk ?_ ?_|(intro h;first|replace h:=h.o|cases h))
     all_goals exact Y13
    .have hlook:=zoZ hu;rw[if_neg hu] at hE;(all_goals refine fv ?_;repeat' first|exact .intro|refine Tw.mk ?_ ?_|(intro h;first|replace h:=h.o|cases h))
     all_goals (try (exfalso;omega))
     refine lookNk hlook ?_;(all_goals refine fv ?_;repeat' first|exact .intro|refine Tw.mk ?_ ?_|(intro h;first|replace h:=h.o|cases h))
     refine zaU 2 ⟨by omega,λ_=>h0,λ_=>?_⟩ (by omega) (by (refine zaC [0] ?_;repeat' first|exact .intro|refine Tw.mk ?_ ?_));unfold endE;rw[if_neg hb,if_neg hu]
  .have hz:capE k U l[j]=0:=by rw[hcap,hi1 (by omega),hi2 (by omega)];rfl
   rw[hz] at hU;(all_goals refine fv ?_;repeat' first|exact .intro|refine Tw.mk ?_ ?_|(intro h;first|replace h:=h.o|cases h))
   all_goals (try (exfalso;omega))
   refine zaU (j+1,zoR U l[j]) ⟨by dsimp only;omega,by simpa using hU⟩ (by dsimp only;omega) (by (refine zaC [0] ?_;repeat' first|exact .intro|refine Tw.mk ?_ ?_))
 .obtain rfl:j=l.length:=by omega
  obtain rfl:0=R:=by rw[<-hU,List.drop_length];rfl
  (all_goals refine gv ?_;repeat' first|exact .intro|refine Tw.mk ?_ ?_|(intro h;first|replace h:=h.o|cases h))
  all_goals (try (exfalso;omega))
  all_goals exact Y13
end Go.Proofs.YtimfnpjcedjmiadGreat
