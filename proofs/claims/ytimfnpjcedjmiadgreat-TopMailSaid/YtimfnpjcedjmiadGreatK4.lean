/- Lemmas. -/
import Derived.Test.YtimfnpjcedjmiadGreatK3
import Derived.Deep.Quiet
set_option maxRecDepth 100000
set_option maxHeartbeats 64000000
set_option linter.all false
namespace Go.Proofs.YtimfnpjcedjmiadGreat
open Go.RowKit
def zlq(P:Program)(f:FuncId):Prop:= ∃fn,P.funcs[f]? =some fn/\fn.body.isNone=false/\(fn.name=="runtime.NumGoroutine")=false
structure Post (σ:zaM) (μ:zaJ) (Ds:Nat->Nat->Prop) (w:World) (r:AV) (m':List Res) (x:Value) (σ':zaM) (μ':zaJ) (Ds':Nat->Nat->Prop) (w':World):Prop where
 rep:RepV σ' μ' r x
 mem:MemOk σ' μ' w' m' Ds'
 gle:Gle μ μ'
 agree:zed σ' w'
 keeps:Keeps (λb=> ∃id,Ds id b) w w'
 old: ∀b o,b<w.heap.size->(¬ ∃id,Ds id b)->σ' b o=σ b o
 mono: ∀b o y,σ b o=some y->σ' b o=some y
 own: ∀id b,Ds' id b->w.heap.size<=b\/ ∃j,Ds j b
def Fn(P:Program)(f:FuncId)(args:List AV)(m:List Res)(r:AV)(m':List Res):Prop:=
 zlq P f/\ ∀(w:World) (σ:zaM) (μ:zaJ) (Ds:Nat->Nat->Prop) (vs:Array Value),zed σ w->MemOk σ μ w m Ds->vs.size=args.length->(∀(i:Nat) (av:AV) (x:Value),args[i]? =some av->vs[i]? =some x->RepV σ μ av x) →
  Calls P f vs w λe w'=> ∃x σ' μ' Ds',e=.returned x/\Post σ μ Ds w r m' x σ' μ' Ds' w'
def rnG:List (Nat×Nat)->Nat->Nat×Nat
 |[],_=>(0,0)
 |p::_,0=>p
 |_::l,i+1=>rnG l i
theorem zgd: ∀{l:List (Nat×Nat)} {i:Nat} {p:Nat×Nat},l[i]? =some p->rnG l i=p
 |[],i,p,h=>by simp at h
 |a::l,0,p,h=>by simpa[rnG] using h
 |a::l,i+1,p,h=>by simp only[rnG];exact zgd (by simpa using h)
def ren0(g:List (Nat×Nat))(v:AV):AV:=
 match v with
 | .sl sz rows (some (j,q))=>.sl sz rows (some ((rnG g j).1,(rnG g j).2+q))
 | .box j o=>.box (rnG g j).1 o
 | .arr j q n=>.arr (rnG g j).1 ((rnG g j).2+q) n
 | .elt j q sz i o=>.elt (rnG g j).1 ((rnG g j).2+q) sz i o
 | .tl _ _ _ _ _=>.any
 | .map j=>.map (rnG g j).1
 | .agg _=>.any
 | .tup _=>.any
 | .clo _ _=>.any
 |x=>x
def zjY(g:List (Nat×Nat)):List AV->List AV
 |[]=>[]
 |a::l=>ren0 g a::zjY g l
def ren1(g:List (Nat×Nat))(v:AV):AV:=
 match v with
 | .agg l=>.agg (zjY g l)
 | .clo f l=>.clo f (zjY g l)
 |x=>ren0 g x
def ren1L(g:List (Nat×Nat)):List AV->List AV
 |[]=>[]
 |a::l=>ren1 g a::ren1L g l
def ren(g:List (Nat×Nat))(v:AV):AV:=
 match v with
 | .tup l=>.tup (ren1L g l)
 |x=>ren1 g x
def zqK(g:List (Nat×Nat)):List (List AV)->List (List AV)
 |[]=>[]
 |a::l=>zjY g a::zqK g l
def renR(g:List (Nat×Nat))(sh:Nat)(r:Res):Res:=
 match r with
 | .cells l=>.cells (zjY g l)
 | .grow E s q=>.grow E s (sh+q)
 | .arr true E s q rows=>.arr true E s (sh+q) rows
 | .arr false E s q rows=>.arr false E s (sh+q) (zqK g rows)
 | .alias j=>.alias (rnG g j).1
 | .miter j kk ag f seen last=>.miter (rnG g j).1 kk ag f seen last
 |r=>r
theorem ren0L_eq{g:List (Nat×Nat)}: ∀{l:List AV},zjY g l=l.map (ren0 g)
 |[]=>rfl
 |a::l=>by simp [zjY,ren0L_eq]
theorem ren1L_eq{g:List (Nat×Nat)}: ∀{l:List AV},ren1L g l=l.map (ren1 g)
 |[]=>rfl
 |a::l=>by simp [ren1L,ren1L_eq]
theorem zfv{g:List (Nat×Nat)}: ∀{l:List (List AV)},zqK g l=l.map (zjY g)
 |[]=>rfl
 |a::l=>by simp [zqK,zfv]
def shA(s:Nat):An->An
 | .fix v=>.fix v
 | .cur ao n cap q=>.cur ao n cap (s+q)
def Num(g:List (Nat×Nat))(μ μ':zaJ):Prop:= ∀j a,μ j=some a-> ∃i s,g[j]? =some (i,s)/\μ' i=some (shA s a)
section
variable {σ:zaM} {μ μ':zaJ} {g:List (Nat×Nat)} {x:Value}
theorem RepV.ren0(H:Num g μ μ'){av:AV}(h:RepV σ μ av x):RepV σ μ' (ren0 g av) x:=by
 cases h with
 |any=>exact .any _ _
 |v=>exact .v _ _
 |err=>exact .err _ _
 |sl _ sz rows own ao cap b off f hcap hmax hao hrow hst hr hone hown=>
  cases own with
  |none=>exact .sl _ sz rows none ao cap b off f hcap hmax hao hrow hst hr hone (λid g h=>by cases h)
  |some p=>
   obtain⟨j,q⟩:=p;obtain⟨a,ha,hl⟩:=hown j q rfl;obtain⟨i,s,h1,h2⟩:=H j a ha;simp only[Go.Proofs.YtimfnpjcedjmiadGreat.ren0,zgd h1];refine .sl _ sz rows _ ao cap b off f hcap hmax hao hrow hst hr hone (λid g h=>?_);simp only[Option.some.injEq,Prod.mk.injEq] at h;obtain⟨rfl,rfl⟩:=h;refine⟨_,h2,?_⟩;cases a with
   |fix v=>exact hl.elim
   |cur ao' n' cap' q'=>exact⟨Nat.add_le_add_left hl.1 s,λe=>hl.2 (by omega)⟩
 |adr _ cells b off f hst hr hone=>exact .adr _ cells b off f hst hr hone
 |agg=>exact .any _ _
 |tup=>exact .any _ _
 |clo=>exact .any _ _
 |tl=>exact .any _ _
 |box _ j o b h=>
  obtain⟨i,s,h1,h2⟩:=H j _ h;simp only[Go.Proofs.YtimfnpjcedjmiadGreat.ren0,zgd h1];exact .box _ i o b h2
 |arr _ j q n ao m cap a hn hmm hmax h hl=>
  obtain⟨i,s,h1,h2⟩:=H j _ h;simp only[Go.Proofs.YtimfnpjcedjmiadGreat.ren0,zgd h1];cases a with
  |fix v=>exact hl.elim
  |cur ao' n' cap' q'=>exact .arr _ i (s+q) n ao m cap _ hn hmm hmax h2 ⟨Nat.add_le_add_left hl.1 s,λe=>hl.2 (by omega)⟩
 |elt _ j q sz i' o b m cap a h hl=>
  obtain⟨i,s,h1,h2⟩:=H j _ h;simp only[Go.Proofs.YtimfnpjcedjmiadGreat.ren0,zgd h1];cases a with
  |fix v=>exact hl.elim
  |cur ao' n' cap' q'=>exact .elt _ i (s+q) sz i' o b m cap _ h2 ⟨Nat.add_le_add_left hl.1 s,λe=>hl.2 (by omega)⟩
 |map _ j r h=>
  obtain⟨i,s,h1,h2⟩:=H j _ h;simp only[Go.Proofs.YtimfnpjcedjmiadGreat.ren0,zgd h1];exact .map _ i r h2
theorem RepV.ren1(H:Num g μ μ'){av:AV}(h:RepV σ μ av x):RepV σ μ' (ren1 g av) x:=by
 cases av with
 |agg l=>
  obtain⟨cs,rfl,hl,hr⟩:=h.inv_agg;refine .agg _ _ cs (by rw[ren0L_eq,List.length_map];exact hl) (λi av y h1 h2=>?_);rw[ren0L_eq,List.getElem?_map,Option.map_eq_some_iff] at h1;obtain⟨a,ha,rfl⟩:=h1;exact (hr i a y ha h2).ren0 H
 |clo f l=>
  obtain⟨cs,rfl,hl,hr⟩:=h.inv_clo;refine .clo _ _ _ cs (by rw[ren0L_eq,List.length_map];exact hl) (λi av y h1 h2=>?_);rw[ren0L_eq,List.getElem?_map,Option.map_eq_some_iff] at h1;obtain⟨a,ha,rfl⟩:=h1;exact (hr i a y ha h2).ren0 H
 |_=>exact h.ren0 H
theorem RepV.ren(H:Num g μ μ'){av:AV}(h:RepV σ μ av x):RepV σ μ' (ren g av) x:=by
 cases av with
 |tup l=>
  obtain⟨cs,rfl,hl,hr⟩:=h.inv_tup;refine .tup _ _ cs (by rw[ren1L_eq,List.length_map];exact hl) (λi av y h1 h2=>?_);rw[ren1L_eq,List.getElem?_map,Option.map_eq_some_iff] at h1;obtain⟨a,ha,rfl⟩:=h1;exact (hr i a y ha h2).ren1 H
 |_=>exact h.ren1 H
theorem ROk.ren{w:World}{j i s:Nat}{D:Nat->Prop}{r:Res}(H:Num g μ μ')(hj:g[j]? =some (i,s))(h:ROk σ μ w j D r):ROk σ μ' w i D (renR g s r):=by
 have at': ∀a,μ j=some a->μ' i=some (shA s a):=λa ha=>by
  obtain⟨i',s',h1,h2⟩:=H j a ha;rw[hj] at h1;simp only[Option.some.injEq,Prod.mk.injEq] at h1;obtain⟨rfl,rfl⟩:=h1;exact h2
 cases r with
 |gone=>exact h
 |cells l=>
  obtain⟨b,c,T,h1,h2,h3,h4,h5⟩:=h;refine⟨b,c,T,at' _ h1,h2,by rw[ren0L_eq,List.length_map];exact h3,λq av hq=>?_,h5⟩;rw[ren0L_eq,List.getElem?_map,Option.map_eq_some_iff] at hq;obtain⟨a,ha,rfl⟩:=hq;obtain⟨x,hx,hr⟩:=h4 q a ha;exact⟨x,hx,hr.ren0 H⟩
 |grow E sz q=>obtain⟨ao,n,cap,xs,h1,h2⟩:=h;exact⟨ao,n,cap,xs,at' _ h1,h2⟩
 |arr fr E sz q rows=>
  obtain⟨ao,cap,xs,h1,h2,h3,h4,h5⟩:=h;cases fr with
  |true=>exact⟨ao,cap,xs,at' _ h1,h2,h3,h4,h5⟩
  |false=>
   have hl:(zqK g rows).length=rows.length:=by rw[zfv,List.length_map]
   refine⟨ao,cap,xs,by rw[hl];exact at' _ h1,by rw[hl];exact h2,λr hr=>?_,λp q r av g1 g2=>?_,h5⟩
   .rw[zfv] at hr;obtain⟨r',hr',rfl⟩:=List.mem_map.1 hr;rw[ren0L_eq,List.length_map];exact h3 r' hr'
   .rw[zfv,List.getElem?_map,Option.map_eq_some_iff] at g1;obtain⟨r',hr',rfl⟩:=g1;rw[ren0L_eq,List.getElem?_map,Option.map_eq_some_iff] at g2;obtain⟨a,ha,rfl⟩:=g2;obtain⟨y,y1,y2,y3⟩:=h4 p q r' a hr' ha;exact⟨y,y1,RepV.ren0 H y2,y3⟩
 |map kk ag f=>obtain⟨r,es,c,h1,h2⟩:=h;exact⟨r,es,c,at' _ h1,h2⟩
 |siter st p=>obtain⟨r,h1,h2⟩:=h;exact⟨r,at' _ h1,h2⟩
 |alias k=>obtain⟨⟨v,hv⟩,h2⟩:=h;exact⟨⟨v,at' _ hv⟩,h2⟩
 |miter k kk ag f seen last=>
  obtain⟨r,bm,es,ck,sc,c0,sn,h1,h2,h3⟩:=h;obtain⟨i',s',g1,g2⟩:=H k _ h1;refine⟨r,bm,es,ck,sc,c0,sn,?_,at' _ h2,h3⟩;rw[zgd g1];exact g2
 |obj p=>obtain⟨b,h1,h2⟩:=h;exact⟨b,at' _ h1,h2⟩
end
def extG(L:Nat):Nat->List (Nat×Nat)
 |0=>[]
 |c+1=>(L,0)::extG (L+1) c
theorem zfs: ∀{L c j:Nat},(extG L c)[j]? =if j<c then some (L+j,0) else none
 |L,0,j=>by simp [extG]
 |L,c+1,0=>by simp [extG]
 |L,c+1,j+1=>by simp only[extG,List.getElem?_cons_succ,zfs];simp only[Nat.add_lt_add_iff_right];rw[show L+1+j=L+(j+1) by omega]
def rhoG(mem:List Res)(L c:Nat):List Nat->List (Nat×Nat)
 |[]=>extG L c
 |i::is=>(i,(genM mem i).getD 0)::rhoG mem L c is
theorem znX{mem:List Res}{L c:Nat}: ∀{ρ:List Nat},rhoG mem L c ρ=ρ.map (λi=>(i,(genM mem i).getD 0))++extG L c
 |[]=>rfl
 |i::is=>by simp [rhoG,znX]
def za2(g:List (Nat×Nat)):List Res->List Res
 |[]=>[]
 |r::rs=>renR g 0 r::za2 g rs
theorem zec{g:List (Nat×Nat)}: ∀{l:List Res},za2 g l=l.map (renR g 0)
 |[]=>rfl
 |a::l=>by simp [za2,zec]
def setsM(mem0:List Res)(g:List (Nat×Nat)):List Nat->List Res->List Res->List Res
 |[],rs,mem=>mem++za2 g rs
 |i::is,rs,mem=>match rs with
  |r::rs=>setsM mem0 g is rs (mem.set i (renR g ((genM mem0 i).getD 0) r))
  |[]=>mem
def zcL(mem:List Res)(ρ:List Nat)(m':List Res):List Res:=setsM mem (rhoG mem mem.length (m'.length-ρ.length) ρ) ρ m' mem
def zg3(mem:List Res)(ρ:List Nat)(m':List Res)(r:AV):AV:=ren (rhoG mem mem.length (m'.length-ρ.length) ρ) r
theorem zgS{mem0:List Res}{g:List (Nat×Nat)}: ∀{is:List Nat} {rs mem:List Res},is.length<=rs.length->(setsM mem0 g is rs mem).length=mem.length+(rs.length-is.length)
 |[],rs,mem,h=>by simp [setsM,zec]
 |i::is,[],mem,h=>by simp at h
 |i::is,r::rs,mem,h=>by
  simp only[setsM];rw[zgS (by simpa using h)];simp
theorem zjq{mem0:List Res}{g:List (Nat×Nat)}: ∀{is:List Nat} {rs mem:List Res} {i:Nat},is.length<=rs.length->(∀j,j∈is->j<mem.length)->is.Nodup →
  (setsM mem0 g is rs mem)[i]? =match is.idxOf? i with
   |some j=>rs[j]?.map (renR g ((genM mem0 i).getD 0))
   |none=>if i<mem.length then mem[i]? else rs[is.length+(i-mem.length)]?.map (renR g 0)
 |[],rs,mem,i,h,hb,hn=>by
  simp only[setsM,List.idxOf?_nil,List.length_nil,Nat.zero_add];rw[List.getElem?_append];split
  .rfl
  .simp [zec]
 |k::is,[],mem,i,h,hb,hn=>by simp at h
 |k::is,r::rs,mem,i,h,hb,hn=>by
  simp only[setsM];have hn':=List.nodup_cons.1 hn;have ih:=zjq (mem0:=mem0) (g:=g) (is:=is) (rs:=rs) (mem:=mem.set k (renR g ((genM mem0 k).getD 0) r)) (i:=i) (by simpa using h) (λj hj=>by rw[List.length_set];exact hb j (List.mem_cons_of_mem _ hj)) hn'.2;rw[ih];rw[List.idxOf?_cons];by_cases hk:k=i
  .subst hk;have:is.idxOf? k=none:=by rw[List.idxOf?_eq_none_iff];exact hn'.1
   rw[this];have hlt:=hb k (List.mem_cons_self ..);simp [hlt]
  .have hbeq:(k==i)=false:=by simpa using hk
   rw[hbeq];simp only[Bool.false_eq_true,if_false];cases hq:is.idxOf? i with
   |some j=>simp
   |none=>
    simp only[Option.map_none,List.length_set];split
    .rw[List.getElem?_set_ne hk]
    .simp only[List.length_cons];rw[show is.length+1+(i-mem.length)=is.length+(i-mem.length)+1 by omega,List.getElem?_cons_succ]
end Go.Proofs.YtimfnpjcedjmiadGreat
namespace Go.Proofs.YtimfnpjcedjmiadGreat
open Go.RowKit
def gen0:List Res->Bool
 |[]=>true
 |r::l=>match r with
  | .gone=>false
  | .grow _ _ g=>match g with
   |0=>gen0 l
   |_=>false
  | .arr _ _ _ g _=>match g with
   |0=>gen0 l
   |_=>false
  |_=>gen0 l
theorem zdf: ∀{m:List Res},gen0 m=true-> ∀(j:Nat) (r:Res),m[j]? =some r->zd3 r=false/\(genR r).getD 0=0
 |[],_,j,r,h=>by simp at h
 |q::l,h,j,r,hj=>by
  have hl:gen0 l=true/\zd3 q=false/\(genR q).getD 0=0:=by
   unfold gen0 at h;cases q with
   |gone=>cases h
   |grow E s g=>cases g with
    |zero=>exact⟨h,rfl,rfl⟩
    |succ=>cases h
   |arr f E s g rows=>cases g with
    |zero=>exact⟨h,rfl,rfl⟩
    |succ=>cases h
   |_=>exact⟨h,rfl,rfl⟩
  cases j with
  |zero=>simp at hj;subst hj;exact hl.2
  |succ j=>exact zdf hl.1 j r (by simpa using hj)
theorem zde{l:List Nat}{i j:Nat}(h:l.idxOf? i=some j):l[j]? =some i:=by
 rw[List.idxOf?_eq_some_iff] at h;obtain⟨h1,h2,_⟩:=h;rw[List.getElem?_eq_getElem h1,h2]
theorem zhx{l:List Nat}(hn:l.Nodup){i j:Nat}(h:l[j]? =some i):l.idxOf? i=some j:=by
 rw[List.idxOf?_eq_some_iff];obtain⟨h1,h2⟩:=List.getElem?_eq_some_iff.1 h;refine⟨h1,h2,λk hk=>?_⟩;have:=List.pairwise_iff_getElem.1 hn k j (by omega) h1 hk;intro e;exact this (e.trans h2.symm)
section
variable {P:Program} {n:Nat} {fp:Nat->Prop} {w0:Start} {σ:zaM} {μ:zaJ} {Ds:Nat->Nat->Prop} {A:AS} {a:Act} {w:World}
theorem MemOk.an(h:MemOk σ μ w A.mem Ds){i:Nat}{r:Res}(hr:A.mem[i]? =some r)(hg:zd3 r=false): ∃an,μ i=some an/\((∃v,an=.fix v/\genR r=none)\/ ∃ao n cap g,an=.cur ao n cap g/\genR r=some g):=by
 have h3:=h.ok i r hr;cases r with
 |gone=>cases hg
 |cells l=>obtain⟨b,c,T,q1,_⟩:=h3;exact⟨_,q1,.inl ⟨_,rfl,rfl⟩⟩
 |grow E s g0=>obtain⟨ao',n',cap',xs,q1,_⟩:=h3;exact⟨_,q1,.inr ⟨_,_,_,_,rfl,rfl⟩⟩
 |arr fr E s g0 rows=>obtain⟨ao',cap',xs,q1,_⟩:=h3;exact⟨_,q1,.inr ⟨_,_,_,_,rfl,rfl⟩⟩
 |map kk ag f=>obtain⟨r,es,c,q1,_⟩:=h3;exact⟨_,q1,.inl ⟨_,rfl,rfl⟩⟩
 |siter s p=>obtain⟨r,q1,_⟩:=h3;exact⟨_,q1,.inl ⟨_,rfl,rfl⟩⟩
 |alias k=>obtain⟨⟨v,hv⟩,_⟩:=h3;exact⟨_,hv,.inl ⟨_,rfl,rfl⟩⟩
 |miter k kk ag f seen last=>obtain⟨r,bm,es,ck,sc,c0,sn,_,q1,_⟩:=h3;exact⟨_,q1,.inl ⟨_,rfl,rfl⟩⟩
 |obj p=>obtain⟨r,q1,_⟩:=h3;exact⟨_,q1,.inl ⟨_,rfl,rfl⟩⟩
theorem RR.gen{m m':List Res}{ρ:List Nat}{r r':Res}(h:RR m m' ρ r r')(hg:zd3 r'=false):zd3 r=false/\((genR r').isSome=(genR r).isSome):=by
 unfold RR at h;split at h
 .cases hg
 all_goals (split at h<;>first|exact⟨rfl,rfl⟩|exact h.elim)
theorem zh4(h:Rel n fp w0 σ μ Ds A a w){f:FuncId}{args:List AV}{m m':List Res}{r:AV}{ρ:List Nat}{l:List AV}{vs:Array Value}(hF:Fn P f args m r m')(h0:gen0 m=true)(hnd:ρ.Nodup)
  (hM:RM A.mem m ρ ρ m) (hA:RKL1 A.mem m ρ l args) (hle:m.length<=m'.length) (hl:vs.size=l.length) (hvs: ∀(i:Nat) (av:AV) (x:Value),l[i]? =some av->vs[i]? =some x->RepV σ μ av x):
  Calls P f vs w λe w'=> ∃x σ' μ' Ds',e=.returned x/\RepV σ' μ' (zg3 A.mem ρ m' r) x/\Rel n fp w0 σ' μ' Ds' ⟨A.fr,zcL A.mem ρ m'⟩ a w':=by
 obtain⟨hal,haget⟩:=RKL1.get hA;obtain⟨hrl,hrget⟩:=RM.get hM;have hmc:=h.mem.sub hnd hM;refine (hF.2 w σ (subG μ ρ m) (subD Ds ρ m) vs h.agree hmc (hl.trans hal) (λi av x hi hx=>?_)).mono ?_
 .obtain⟨b,hb,hk⟩:=haget i av hi;exact (hvs i b x hb hx).sub1 h.mem hk
 rintro e w' ⟨x,σ',μc,Dc,rfl,hp⟩;-- the numbers
 let L:=A.mem.length
 let c:=m'.length-ρ.length
 let ids:List Nat:=ρ++(List.range c).map (L+ ·)
 have hρlt: ∀j i,ρ[j]? =some i->i<L:=λj i hj=>by
  have hj':j<m.length:=by rw[<-hrl];exact (List.getElem?_eq_some_iff.1 hj).1
  obtain⟨i',r',h1,h2,_⟩:=hrget j _ (List.getElem?_eq_getElem hj');rw[hj] at h1;obtain rfl:=Option.some.inj h1;exact (List.getElem?_eq_some_iff.1 h2).1
 have hidsn:ids.Nodup:=by
  refine List.nodup_append.2 ⟨hnd,?_,λa ha b hb=>?_⟩
  .rw[List.Nodup,List.pairwise_map];exact List.nodup_range.imp (λh e=>h (by omega))
  .obtain⟨j,hj⟩:=List.getElem?_of_mem ha;have:=hρlt j a hj;simp only[List.mem_map,List.mem_range] at hb;obtain⟨q,_,rfl⟩:=hb;omega
 have hidsl:ids.length=m'.length:=by simp [ids,c];omega
 have hg: ∀j i,ids[j]? =some i->(rhoG A.mem L c ρ)[j]? =some (i,if j<ρ.length then (genM A.mem i).getD 0 else 0):=by
  intro j i hj;rw[znX];simp only[ids] at hj;rw[List.getElem?_append] at hj ⊢;simp only[List.length_map];split at hj
  .rename_i hlt;rw[if_pos hlt,if_pos hlt];simp [hj]
  .rename_i hge;rw[if_neg hge,if_neg hge,zfs];have hlt:=(List.getElem?_eq_some_iff.1 hj).1;simp only[List.length_map,List.length_range] at hlt;rw[if_pos hlt];simp [hlt] at hj;rw[hj]
 let sh:Nat->Nat:=λj=>if j<ρ.length then (genM A.mem (ids.getD j 0)).getD 0 else 0
 let μ':zaJ:=λi=>match ids.idxOf? i with
  |some j=>(μc j).map (shA (if j<ρ.length then (genM A.mem i).getD 0 else 0))
  |none=>μ i
 let D':Nat->Nat->Prop:=λi=>match ids.idxOf? i with
  |some j=>Dc j
  |none=>Ds i
 have hNum:Num (rhoG A.mem L c ρ) μc μ':=by
  intro j an hj;have hlt:j<ids.length:=by
   rw[hidsl];rcases Nat.lt_or_ge j m'.length with g|g
   .exact g
   .rw[(hp.mem.out j g).1] at hj;cases hj
  refine⟨_,_,hg j _ (List.getElem?_eq_getElem hlt),?_⟩;simp only[μ'];rw[zhx hidsn (List.getElem?_eq_getElem hlt)];simp [hj]
 have hDc: ∀j b,Dc j b->(∃i,ρ[j]? =some i)\/w.heap.size<=b\/ ∃q i,ρ[q]? =some i/\Ds i b:=λj b hb=>by
  rcases hp.own j b hb with g|⟨q,⟨i,h1,h2⟩,_⟩
  .exact .inr (.inl g)
  .exact .inr (.inr ⟨q,i,h1,h2⟩)
 have hother: ∀i b,i∉ρ->Ds i b->w'.heap[b]? =w.heap[b]? /\ ∀o,σ' b o=σ b o:=λi b hi hb=>by
  have hno: ¬ ∃id,subD Ds ρ m id b:=by
   rintro⟨q,⟨i',h1,h2⟩,_⟩;have:=h.mem.apart i i' b hb h2;subst this;exact hi (List.mem_of_getElem? h1)
  have hlt:=h.mem.live hb;exact⟨hp.keeps.block b hlt hno,λo=>hp.old b o hlt hno⟩
 have hgle:Gle μ μ':=by
  intro i an hi;simp only[μ'];cases hq:ids.idxOf? i with
  |none=>exact⟨an,hi,an.le_refl⟩
  |some j=>
   have hj:=zde hq;have hiL:i<L:=by
    rcases Nat.lt_or_ge i L with g|g
    .exact g
    .rw[(h.mem.out i g).1] at hi;cases hi
   have hjρ:j<ρ.length:=by
    rcases Nat.lt_or_ge j ρ.length with g|g
    .exact g
    .simp only[ids] at hj;rw[List.getElem?_append_right g] at hj;simp only[List.getElem?_map,Option.map_eq_some_iff] at hj;obtain⟨q,_,rfl⟩:=hj;omega
   have hρj:ρ[j]? =some i:=by simp only[ids] at hj;rwa [List.getElem?_append_left hjρ] at hj
   obtain⟨i',r1,g1,g2,g3⟩:=hrget j _ (List.getElem?_eq_getElem (by omega:j<m.length));rw[hρj] at g1;obtain rfl:=Option.some.inj g1;obtain⟨z1,z2⟩:=zdf h0 j _ (List.getElem?_eq_getElem (by omega:j<m.length));obtain⟨y1,y2⟩:=g3.gen z1;obtain⟨an',x1,x2⟩:=h.mem.an g2 y1;rw[hi] at x1;obtain rfl:=Option.some.inj x1;have hsub:subG μ ρ m j=some (reG 0 an):=by
    have:(genM m j).getD 0=0:=by rw[genM_eq,List.getElem?_eq_getElem (by omega:j<m.length)];exact z2
    simp [subG,hρj,hi,this]
   obtain⟨ac,c1,c2⟩:=hp.gle j _ hsub;have hgm:genM A.mem i=genR r1:=by rw[genM_eq,g2];rfl
   refine⟨_,by simp only[c1];rfl,?_⟩;rw[if_pos hjρ,hgm];rcases x2 with⟨v,rfl,_⟩|⟨ao,nn,cap,gA,rfl,hgA⟩
   .cases ac with
    |fix v'=>exact c2
    |cur=>exact c2.elim
   .cases ac with
    |fix v'=>exact c2.elim
    |cur ao' n' cap' q=>
     rw[hgA];obtain⟨_,d2⟩:=c2;exact⟨Nat.le_add_right _ _,λe=>d2 (by simp only[Option.getD_some] at e;omega)⟩
 have hmem:MemOk σ' μ' w' (zcL A.mem ρ m') D':=by
  have hget:=λi=>zjq (mem0:=A.mem) (g:=rhoG A.mem L c ρ) (is:=ρ) (rs:=m') (mem:=A.mem) (i:=i) (by omega) (λj hj=>by obtain⟨q,hq⟩:=List.getElem?_of_mem hj;exact hρlt q j hq) hnd;have hlen:(zcL A.mem ρ m').length=L+c:=zgS (by omega);refine⟨λi r' hr'=>?_,λi j b hi hj=>?_,λi hi=>?_⟩
  .have hr':(setsM A.mem (rhoG A.mem L c ρ) ρ m' A.mem)[i]? =some r':=hr';rw[hget i] at hr';cases hq:ρ.idxOf? i with
   |some j=>
    rw[hq] at hr';simp only[Option.map_eq_some_iff] at hr';obtain⟨r0,hr0,rfl⟩:=hr';have hjρ:=zde hq;have hjlt:=(List.getElem?_eq_some_iff.1 hjρ).1;have hj:ids[j]? =some i:=by simp only[ids];rw[List.getElem?_append_left hjlt];exact hjρ
    have hD:D' i=Dc j:=by simp only[D'];rw[zhx hidsn hj]
    rw[hD];have:=hg j i hj;rw[if_pos hjlt] at this;exact (hp.mem.ok j r0 hr0).ren hNum this
   |none=>
    rw[hq] at hr';simp only at hr';have hni:i∉ρ:=by rw[<-List.idxOf?_eq_none_iff];exact hq
    split at hr'
    .rename_i hlt;have hno:ids.idxOf? i=none:=by
      rw[List.idxOf?_eq_none_iff];simp only[ids,List.mem_append,List.mem_map,List.mem_range,not_or,not_exists,not_and];exact⟨hni,λq _ e=>by omega⟩
     have hD:D' i=Ds i:=by simp only[D'];rw[hno]
     have hμ:μ' i=μ i:=by simp only[μ'];rw[hno]
     rw[hD];exact (h.mem.ok i r' hr').ext hμ hgle (λb hb=>hother i b hni hb) hp.mono
    .rename_i hge;simp only[Option.map_eq_some_iff] at hr';obtain⟨r0,hr0,rfl⟩:=hr';have hltm:=(List.getElem?_eq_some_iff.1 hr0).1;have hj:ids[ρ.length+(i-L)]? =some i:=by
      simp only[ids];rw[List.getElem?_append_right (by omega)];have:i-L<c:=by simp only[c];omega
      simp [this];omega
     have hD:D' i=Dc (ρ.length+(i-L)):=by simp only[D'];rw[zhx hidsn hj]
     rw[hD];have:=hg _ i hj;rw[if_neg (by omega)] at this;exact (hp.mem.ok _ r0 hr0).ren hNum this
  .simp only[D'] at hi hj;cases hq1:ids.idxOf? i with
   |some p=>
    rw[hq1] at hi;cases hq2:ids.idxOf? j with
    |some q=>
     rw[hq2] at hj;have:=hp.mem.apart p q b hi hj;subst this;have e1:=zde hq1;have e2:=zde hq2;rw[e1] at e2;exact Option.some.inj e2
    |none=>
     rw[hq2] at hj;exfalso;have hni:j∉ρ:=λhmem=>by
      rw[List.idxOf?_eq_none_iff] at hq2;exact hq2 (List.mem_append_left _ hmem)
     rcases hp.own p b hi with g|⟨q,⟨i',h1,h2⟩,_⟩
     .have:=h.mem.live hj;omega
     .have:=h.mem.apart j i' b hj h2;subst this;exact hni (List.mem_of_getElem? h1)
   |none=>
    rw[hq1] at hi;have hni:i∉ρ:=λhmem=>by
     rw[List.idxOf?_eq_none_iff] at hq1;exact hq1 (List.mem_append_left _ hmem)
    cases hq2:ids.idxOf? j with
    |some q=>
     rw[hq2] at hj;exfalso;rcases hp.own q b hj with g|⟨q,⟨i',h1,h2⟩,_⟩
     .have:=h.mem.live hi;omega
     .have:=h.mem.apart i i' b hi h2;subst this;exact hni (List.mem_of_getElem? h1)
    |none=>rw[hq2] at hj;exact h.mem.apart i j b hi hj
  .rw[hlen] at hi;have hno:ids.idxOf? i=none:=by
    rw[List.idxOf?_eq_none_iff];simp only[ids,List.mem_append,List.mem_map,List.mem_range,not_or,not_exists,not_and];refine⟨λhmem=>?_,λq hq e=>by omega⟩;obtain⟨q,hq⟩:=List.getElem?_of_mem hmem;have:=hρlt q i hq;omega
   simp only[μ',D'];rw[hno];exact h.mem.out i (by omega)
 refine⟨x,σ',μ',D',rfl,hp.rep.ren hNum,?_⟩;refine⟨h.defers,h.size,λt av ht=>(h.frame t av ht).mono hp.mono hgle,hp.agree,hmem,λi b hi=>?_,?_,?_,λb o y hy=>hp.mono _ _ _ (h.mono b o y hy),h.gle.trans hgle,h.kout,?_⟩
 .simp only[D'] at hi;cases hq:ids.idxOf? i with
  |some j=>
   rw[hq] at hi;rcases hp.own j b hi with g|⟨q,⟨i',h1,h2⟩,_⟩
   .exact .inl (Nat.le_trans h.keeps.size g)
   .exact h.own i' b h2
  |none=>rw[hq] at hi;exact h.own i b hi
 .refine⟨hp.keeps.os.trans h.keeps.os,hp.keeps.tape.trans h.keeps.tape,hp.keeps.output.trans h.keeps.output,Nat.le_trans h.keeps.size hp.keeps.size,λk hk hf=>?_⟩;rw[hp.keeps.block k (Nat.lt_of_lt_of_le hk h.keeps.size)]
  .exact h.keeps.block k hk hf
  .rintro⟨q,⟨i',h1,h2⟩,_⟩;rcases h.own i' k h2 with g|g
   .omega
   .exact hf g
 .intro b o hb hf;rw[hp.old b o (Nat.lt_of_lt_of_le hb h.keeps.size)]
  .exact h.old b o hb hf
  .rintro⟨q,⟨i',h1,h2⟩,_⟩;rcases h.own i' b h2 with g|g
   .omega
   .exact hf g
 .have hlen:(zcL A.mem ρ m').length=L+c:=zgS (by omega);rw[hlen];exact Nat.le_trans h.klen (Nat.le_add_right _ _)
end
end Go.Proofs.YtimfnpjcedjmiadGreat
namespace Go.Proofs.YtimfnpjcedjmiadGreat
open Go.RowKit
inductive StopCall (P:Program) (f:FuncId) (l:List AV) (mem:List Res) (K:MK):Prop
 |mk (args:List AV) (m:List Res) (r:AV) (m':List Res) (ρ:List Nat) (hF:Fn P f args m r m') (h0:gen0 m=true) (hnd:decide (ρ.Nodup)=true) (hle:Nat.ble m.length m'.length=true) (hM:RM mem m ρ ρ m) (hA:RKL1 mem m ρ l args) (k:K (zcL mem ρ m') (zg3 mem ρ m' r)):StopCall P f l mem K
theorem StopCall.nice{P:Program}{f:FuncId}{l:List AV}{mem:List Res}:zaI (StopCall P f l mem):=
 ⟨λk ⟨args,m,r,m',ρ,hF,h0,hnd,hle,hM,hA,h⟩=>⟨args,m,r,m',ρ,hF,h0,hnd,hle,hM,hA,k _ h⟩,λ⟨args,m,r,m',ρ,hF,h0,hnd,hle,hM,hA,h⟩=>⟨_,⟨args,m,r,m',ρ,hF,h0,hnd,hle,hM,hA,rfl⟩,h⟩⟩
inductive StopPure (P:Program) (f:FuncId) (l:List AV) (K:AV->Prop):Prop
 |mk (args:List AV) (r:AV) (hF:Fn P f args [] r []) (hf:r.free=true) (hA:RKL1 [] [] [] l args) (k:K r):StopPure P f l K
theorem StopPure.nice{P:Program}{f:FuncId}{l:List AV}:Nice (StopPure P f l):=
 ⟨λk ⟨args,r,hF,hf,hA,h⟩=>⟨args,r,hF,hf,hA,k _ h⟩,λ⟨args,r,hF,hf,hA,h⟩=>⟨_,⟨args,r,hF,hf,hA,rfl⟩,h⟩⟩
def calV(P:Program)(pu:Bool)(mem:List Res)(f:FuncId)(l:List AV)(K:MK):Prop:=
 match pu with
 |true=>StopPure P f l (K mem)
 |false=>StopCall P f l mem K
theorem zjR{P:Program}{pu:Bool}{mem:List Res}{f:FuncId}{l:List AV}:zaI (calV P pu mem f l):=by
 cases pu with
 |true=>exact StopPure.nice.bind (U:=λv (K:List Res×AV->Prop)=>K (mem,v)) λv=>Nice.at _
 |false=>exact StopCall.nice
def appL:List AV->List AV->List AV
 |[],m=>m
 |a::l,m=>a::appL l m
theorem zk2: ∀{l m:List AV},appL l m=l++m
 |[],m=>rfl
 |a::l,m=>by simp [appL,zk2]
def mtc(pu:Bool)(op:Op)(mt:Mut):Mut:=
 match op with
 | .convert _ _ _=>match pu with
  |true=>[]
  |false=>mt
 |_=>mt
def vop(P:Program)(mt:Mut)(pu:Bool)(fr:List (Nat×AV))(mem:List Res)(op:Op)(K:MK):Prop:=
 match op with
 | .call c=>match c.callee with
  | .value (.func f)=>evL fr c.args.toList λl=>calV P pu mem f l K
  | .value x=>evV fr x λv=>match v with
   | .clo f caps=>evL fr c.args.toList λl=>calV P pu mem f (appL l caps) K
   |_=>False
  |_=>match memOp P (.call c) with
   |true=>vm P mt fr mem (.call c) K
   |false=>vq P fr mem (.call c) (K mem)
 |op=>match memOp P op with
  |true=>vm P (mtc pu op mt) fr mem op K
  |false=>vq P fr mem op (K mem)
def zci:Op->Bool
 | .call c=>match c.callee with
  | .value _=>true
  |_=>false
 |_=>false
theorem zbq{P:Program}{mt:Mut}{pu:Bool}{fr:List (Nat×AV)}{mem:List Res}{op:Op}{K:MK}(h:zci op=false):vop P mt pu fr mem op K=match memOp P op with
  |true=>vm P (mtc pu op mt) fr mem op K
  |false=>vq P fr mem op (K mem):=by
 cases op with
 |call c=>
  obtain⟨callee,args,ats⟩:=c;cases callee with
  |value=>cases h
  |_=>rfl
 |_=>rfl
theorem vop_nice{P:Program}{mt:Mut}{pu:Bool}{fr:List (Nat×AV)}{mem:List Res}{op:Op}(h:oneOp op=true\/memOp P op=false):zaI (vop P mt pu fr mem op):=by
 by_cases hc:zci op=true
 .cases op with
  |call c=>
   obtain⟨callee,args,ats⟩:=c;cases callee with
   |value x=>
    cases x with
    |func f=>exact zaI.congr zjR λK=>by simp only[vop,evL_eq];try rfl
    |_=>
     refine zaI.congr ?_ λK=>by simp only[vop,evV_eq,evL_eq,zk2];try rfl
     split<;>first|exact zjR|exact zaI.no
   |_=>cases hc
  |_=>cases hc
 .refine zaI.congr ?_ λK=>zbq (by simpa using hc);cases hm:memOp P op with
  |false=>exact zeK.bind (U:=λv (K:List Res×AV->Prop)=>K (mem,v)) λv=>Nice.at _
  |true=>exact vm_nice (h.resolve_right (by rw[hm];simp))
section
variable {P:Program} {n:Nat} {fp:Nat->Prop} {w0:Start} {σ:zaM} {μ:zaJ} {Ds:Nat->Nat->Prop} {A:AS} {a:Act} {w:World} {K:MK}
 {dst:Option Tmp} {ty:TypeId} {pos:String} {after:Array Edge} {guard:Option (Nat×Bool)} {Q:Exit->Act->World->Prop}
theorem RK0.nil{m m':List Res}{a b:AV}(h:RK0 [] [] [] a b):RK0 m m' [] a b:=by
 unfold RK0 at *
 split at h<;>first|exact h|(split at h<;>first|exact h|exact h.elim|(obtain⟨h1,_⟩:=zaB h;simp [isN,rnO] at h1))
theorem RKL0.nil{m m':List Res}: ∀{l k:List AV},RKL0 [] [] [] l k->RKL0 m m' [] l k
 |[],[],_=>trivial
 |[],_::_,h=>h.elim
 |_::_,[],h=>h.elim
 |a::l,b::k,h=>⟨h.1.nil,RKL0.nil h.2⟩
theorem RK1.nil{m m':List Res}{a b:AV}(h:RK1 [] [] [] a b):RK1 m m' [] a b:=by
 unfold RK1 at *
 split at h
 .split at h<;>first|exact h.nil|exact h.elim
 .split at h
  .obtain⟨h1,h2⟩:=zaB h;simp only[h1];exact h2.nil
  .exact h.elim
 .exact h.nil
theorem RKL1.nil{m m':List Res}: ∀{l k:List AV},RKL1 [] [] [] l k->RKL1 m m' [] l k
 |[],[],_=>trivial
 |[],_::_,h=>h.elim
 |_::_,[],h=>h.elim
 |a::l,b::k,h=>⟨h.1.nil,RKL1.nil h.2⟩
theorem zlS{m:List Res}:zcL m [] []=m:=by simp [zcL,setsM,za2]
theorem zj0{g:List (Nat×Nat)}{v:AV}(h:v.free0=true):ren0 g v=v:=by
 unfold ren0;split<;>first|rfl|(simp [AV.free0] at h)
theorem zjF{g:List (Nat×Nat)}{v:AV}(h:v.free1=true):ren1 g v=v:=by
 cases v with
 |agg l=>
  simp only[ren1,ren0L_eq,AV.agg.injEq];have: ∀x∈l,ren0 g x=x:=λx hx=>zj0 (List.all_eq_true.1 h x hx);rw[List.map_congr_left this];simp
 |clo f l=>simp [AV.free1,AV.free0] at h
 |_=>exact zj0 (g:=g) (by simpa[AV.free1] using h)
theorem ren_free{g:List (Nat×Nat)}{v:AV}(h:v.free=true):ren g v=v:=by
 cases v with
 |tup l=>
  simp only[ren,ren1L_eq,AV.tup.injEq];have: ∀x∈l,ren1 g x=x:=λx hx=>zjF (List.all_eq_true.1 h x hx);rw[List.map_congr_left this];simp
 |_=>exact zjF (g:=g) (by simpa[AV.free] using h)
theorem zjK(h:Rel n fp w0 σ μ Ds A a w){pu:Bool}{f:FuncId}{o:Oper}{vs:Array Value}{l:List AV}(hrun:zlq P f->(execOp a.eval o).run P w=.ok (.enter f vs) w)(hl:vs.size=l.length)(hvs: ∀(i:Nat) (av:AV) (x:Value),l[i]? =some av->vs[i]? =some x->RepV σ μ av x)
  (hq:calV P pu A.mem f l K):o.wp P a w (zeN n fp w0 A a o.dst K) Q:=by
 cases pu with
 |false=>
  obtain⟨args,m,r,m',ρ,hF,h0,hnd,hle,hM,hA,hK⟩:=hq;unfold Oper.wp;rw[hrun hF.1,Oper.upon_enter];refine (zh4 h hF h0 (of_decide_eq_true hnd) hM hA (Nat.le_of_ble_eq_true hle) hl hvs).mono ?_;rintro e w' ⟨x,σ',μ',Ds',rfl,hx,hrel⟩;exact⟨_,_,x,σ',μ',Ds',rfl,hx,hrel,hK⟩
 |true=>
  obtain⟨args,r,hF,hf,hA,hK⟩:=hq;unfold Oper.wp;rw[hrun hF.1,Oper.upon_enter];refine (zh4 h hF rfl List.nodup_nil trivial hA.nil (Nat.le_refl _) hl hvs).mono ?_;rintro e w' ⟨x,σ',μ',Ds',rfl,hx,hrel⟩;rw[zlS] at hrel;rw[zg3,ren_free hf] at hx;exact⟨_,_,x,σ',μ',Ds',rfl,hx,hrel,hK⟩
theorem zpv(h:Rel n fp w0 σ μ Ds A a w){mt:Mut}{pu:Bool}{op:Op}(hq:vop P mt pu A.fr A.mem op K):Oper.wp P ⟨dst,op,ty,pos,after,guard⟩ a w (zeN n fp w0 A a dst K) Q:=by
 have hargs: ∀(args:Array Operand) (i:Nat) (av:AV) (x:Value),(args.toList.map (evO A.fr))[i]? =some av->(args.map a.eval)[i]? =some x->RepV σ μ av x:=by
  intro args i av x h1 h2;simp only[List.getElem?_map,Option.map_eq_some_iff,Array.getElem?_toList] at h1;obtain⟨y,hy,rfl⟩:=h1;simp only[Array.getElem?_map,hy,Option.map_some,Option.some.injEq] at h2;subst h2;exact h.ev y
 have henter: ∀{f:FuncId} {vs:Array Value},zlq P f->(callFunc f vs).run P w=.ok (.enter f vs) w:=by
  rintro f vs ⟨fn,hf1,hf2,hf3⟩;have hf2': ¬fn.body=none:=by intro e;rw[e] at hf2;cases hf2
  have hf3': ¬fn.name="runtime.NumGoroutine":=by simpa using hf3
  simp [callFunc,program,hf1,hf2',hf3',Sem.run_bind,Sem.run,Result.andThen_ok,pure,Sem.run_pure]
 by_cases hc:zci op=true
 .cases op with
  |call c=>
   obtain⟨callee,args,ats⟩:=c;cases callee with
   |value x=>
    have plain: ∀f,a.eval x=.func (.func f) #[] #[]->calV P pu A.mem f (args.toList.map (evO A.fr)) K->Oper.wp P ⟨dst,.call ⟨.value x,args,ats⟩,ty,pos,after,guard⟩ a w (zeN n fp w0 A a dst K) Q:=by
     intro f hx hq;refine zjK h (vs:=args.map a.eval) (λhe=>?_) (by simp) (hargs args) hq;have:(execOp a.eval ⟨dst,.call ⟨.value x,args,ats⟩,ty,pos,after,guard⟩)=callFunc f (args.map a.eval):=by
      simp [execOp,resolve,hx,Deferred.ofValue,invoke,pure,Bind.bind,Sem.bind]
     rw[this];exact henter he
    have clos: ∀f caps,evO A.fr x=.clo f caps->calV P pu A.mem f (args.toList.map (evO A.fr)++caps) K->Oper.wp P ⟨dst,.call ⟨.value x,args,ats⟩,ty,pos,after,guard⟩ a w (zeN n fp w0 A a dst K) Q:=by
     intro f caps hx hq;have hv:=h.ev x;rw[hx] at hv;obtain⟨cs,hcs,hl,hr⟩:=hv.inv_clo;refine zjK h (vs:=args.map a.eval++cs) (λhe=>?_) (by simp [hl]) (λi av y h1 h2=>?_) hq
     .have:(execOp a.eval ⟨dst,.call ⟨.value x,args,ats⟩,ty,pos,after,guard⟩)=callFunc f (args.map a.eval++cs):=by
       simp [execOp,resolve,hcs,Deferred.ofValue,invoke,pure,Bind.bind,Sem.bind]
      rw[this];exact henter he
     .rw[List.getElem?_append] at h1;rw[Array.getElem?_append] at h2;simp only[List.length_map,Array.length_toList,Array.size_map] at h1 h2;split at h1
      .rename_i hlt;rw[if_pos hlt] at h2;exact hargs args i av y h1 h2
      .rename_i hge;rw[if_neg hge] at h2;exact hr _ av y h1 h2
    cases x with
    |func f=>
     simp only[vop,evL_eq] at hq;exact plain f rfl hq
    |_=>
     simp only[vop,evV_eq,evL_eq,zk2] at hq;split at hq
     .rename_i f caps e;exact clos f caps e hq
     .exact hq.elim
   |_=>cases hc
  |_=>cases hc
 .rw[zbq (by simpa using hc)] at hq;split at hq
  .exact vm_sound h hq
  .obtain⟨x,av,h1,h2,h3⟩:=vq_sound (dst:=dst) (ty:=ty) (pos:=pos) (after:=after) (guard:=guard) h hq;exact zac h1 h h2 h3
end
end Go.Proofs.YtimfnpjcedjmiadGreat
namespace Go.Proofs.YtimfnpjcedjmiadGreat
open Go.RowKit
def vput(fr:List (Nat×AV))(d:Option Tmp)(K:AS->Prop)(mem:List Res)(v:AV):Prop:=
 match d with
 |some t=>fz v λv=>K ⟨(t,v)::fr,mem⟩
 |none=>K ⟨fr,mem⟩
def vputM(fr:List (Nat×AV))(d:Option Tmp)(K:AS->Prop)(mem:List Res)(v:AV):Prop:=fzM mem λmem=>vput fr d K mem v
theorem zi7{fr:List (Nat×AV)}{d:Option Tmp}{K:AS->Prop}{mem:List Res}{v:AV}:vput fr d K mem v=K (AS.put ⟨fr,mem⟩ d v):=by
 cases d<;>simp [vput,fz_eq,AS.put]
theorem vputM_eq{fr:List (Nat×AV)}{d:Option Tmp}{K:AS->Prop}:vputM fr d K=vput fr d K:=by
 funext mem v;simp [vputM,fzM_eq]
def gs(ops:Array Oper)(j:Nat):Option Tmp:=(ops[j]?).bind (·.dst)
def quietB(P:Program)(op:Op):Bool:=
 match zci op with
 |true=>false
 |false=>match memOp P op with
  |true=>false
  |false=>true
def vpt(P:Program)(op:Op)(fr:List (Nat×AV))(d:Option Tmp)(K:AS->Prop):MK:=
 match quietB P op with
 |true=>vput fr d K
 |false=>vputM fr d K
theorem vpt_eq{P:Program}{op:Op}{fr:List (Nat×AV)}{d:Option Tmp}{K:AS->Prop}:vpt P op fr d K=λmem v=>K (AS.put ⟨fr,mem⟩ d v):=by
 funext mem v
 cases h:quietB P op<;>simp only[vpt,h,vputM_eq,zi7]
def vone(P:Program)(mt:Mut)(pu:Bool)(ops:Array Oper)(o:Oper)(k:AS->Prop)(A:AS):Prop:=
 match A with
 |⟨fr,mem⟩=>match o.guard with
  |none=>vop P mt pu fr mem o.op (vpt P o.op fr o.dst k)
  |some (j,w)=>match gs ops j with
   |some t=>lkK fr t λv=>match v with
    | .v (.bool b)=>(b=w->vop P mt pu ((t,.v (.bool w))::fr) mem o.op (vpt P o.op ((t,.v (.bool w))::fr) o.dst k))/\(b=neg w->vput ((t,.v (.bool (neg w)))::fr) o.dst k mem (.v (.tuple #[])))
    | .v (.tuple _)=>vput fr o.dst k mem (.v (.tuple #[]))
    |_=>False
   |none=>False
def zcO(P:Program)(mt:Mut)(pf:Nat->Bool)(ops:Array Oper)(i:Nat)(l:List Oper):(AS->Prop)->AS->Prop:=
 List.rec (motive:=λ_=>Nat->(AS->Prop)->AS->Prop) (λ_ K A=>K A) (λo _ ih i K A=>vone P mt (pf i) ops o (ih (i+1) K) A) l i
theorem zhd{P:Program}{mt:Mut}{pf:Nat->Bool}{ops:Array Oper}{i:Nat}{o:Oper}{rest:List Oper}{K:AS->Prop}{A:AS}:zcO P mt pf ops i (o::rest) K A=vone P mt (pf i) ops o (zcO P mt pf ops (i+1) rest K) A:=rfl
def zbm(ops:Array Oper)(fr:List (Nat×AV))(o:Oper):Option Bool:=
 match o.guard with
 |none=>some true
 |some (j,want)=>match gs ops j with
  |some t=>match lk fr t with
   | .v (.bool b)=>some (b==want)
   | .v (.tuple _)=>some false
   |_=>none
  |none=>none
def Ex(P:Program)(mt:Mut)(pu:Bool)(ops:Array Oper)(o:Oper)(A B:AS):Prop:=
 (zbm ops A.fr o=some true/\vop P mt pu A.fr A.mem o.op (λm v=>B=AS.put ⟨A.fr,m⟩ o.dst v))\/(zbm ops A.fr o=some false/\B=A.put o.dst (.v (.tuple #[])))
def zal(A B:AS):Prop:=A.mem=B.mem/\ ∀t,lk A.fr t=lk B.fr t
theorem zal.refl(A:AS):zal A A:=⟨rfl,λ_=>rfl⟩
theorem zal.symm{A B:AS}(h:zal A B):zal B A:=⟨h.1.symm,λt=>(h.2 t).symm⟩
theorem zal.trans{A B C:AS}(h:zal A B)(k:zal B C):zal A C:=⟨h.1.trans k.1,λt=>(h.2 t).trans (k.2 t)⟩
theorem lk_put{A:AS}{d:Option Tmp}{v:AV}{t:Nat}:lk (A.put d v).fr t=if d=some t then v else lk A.fr t:=by
 cases d with
 |none=>simp [AS.put]
 |some u=>
  simp only[AS.put,lk,look];by_cases h:u=t
  .subst h;simp
  .rw[if_neg h,if_neg (by simpa using h)]
theorem zfK{A:AS}{d:Option Tmp}{v:AV}:(A.put d v).mem=A.mem:=by cases d<;>rfl
theorem zal.put{A B:AS}(h:zal A B)(d:Option Tmp)(v:AV):zal (A.put d v) (B.put d v):=
 ⟨by rw[zfK,zfK];exact h.1,λt=>by rw[lk_put,lk_put,h.2 t]⟩
theorem zal.put2{fr fr':List (Nat×AV)}(h: ∀t,lk fr t=lk fr' t)(m:List Res)(d:Option Tmp)(v:AV):zal (AS.put ⟨fr,m⟩ d v) (AS.put ⟨fr',m⟩ d v):=zal.put (A:=⟨fr,m⟩) (B:=⟨fr',m⟩) ⟨rfl,h⟩ d v
theorem zct{ops:Array Oper}{fr fr':List (Nat×AV)}{o:Oper}(h: ∀t,t∈o.looksAt ops->lk fr t=lk fr' t):zbm ops fr o=zbm ops fr' o:=by
 unfold zbm;cases hg:o.guard with
 |none=>rfl
 |some p=>
  obtain⟨j,want⟩:=p;simp only;cases ht:gs ops j with
  |none=>rfl
  |some t=>
   simp only;rw[h t];unfold Oper.looksAt;rw[hg];refine List.mem_append_right _ ?_;simp only[gs] at ht;show t∈((ops[j]?).bind (·.dst)).toList;rw[ht];simp
theorem zgY{fr fr':List (Nat×AV)}{x:Operand}(h: ∀t,x=.tmp t->lk fr t=lk fr' t):evO fr x=evO fr' x:=by
 cases x with
 |tmp t=>exact h t rfl
 |_=>rfl
theorem zgR{fr fr':List (Nat×AV)}{l:List Operand}{K:List AV->Prop}(h: ∀x∈l,evO fr x=evO fr' x):evL fr l K=evL fr' l K:=by
 rw[evL_eq,evL_eq,List.map_congr_left h]
theorem zh7{pl:Nat->Option (Nat×Bool×Nat)}{fr fr':List (Nat×AV)}: ∀{ps:List (Nat×Operand)} {l:List AV} {K:List AV->Prop},(∀p∈ps,evO fr p.2=evO fr' p.2)->bldV pl fr ps l K=bldV pl fr' ps l K
 |[],l,K,h=>rfl
 |(i,x)::ps,l,K,h=>by
  simp only[bldV,evV_eq];rw[h (i,x) (List.mem_cons_self ..)];congr 1
  funext c
  split
  .congr 2
   rw[fzL_eq,fzL_eq];exact zh7 (λp hp=>h p (List.mem_cons_of_mem _ hp))
  .rfl
theorem zfi{fr fr':List (Nat×AV)}{x:Option Operand}{K:Option Int->Prop}(h: ∀y,x=some y->evO fr y=evO fr' y):zcP fr x K=zcP fr' x K:=by
 unfold zcP;cases x with
 |none=>rfl
 |some y=>simp only[evV_eq,h y rfl]
theorem zhP{sz:Nat}{fr fr':List (Nat×AV)}: ∀{l:List (Nat×Operand)} {i:Nat} {K:List (List AV)->Prop},(∀p∈l,evO fr p.2=evO fr' p.2)->zix sz fr i l K=zix sz fr' i l K
 |[],i,K,h=>rfl
 |(j,x)::l,i,K,h=>by
  simp only[zix,evV_eq,fzL_eq];rw[h (j,x) (List.mem_cons_self ..)];congr 2
  funext c
  congr 1
  exact zhP (λp hp=>h p (List.mem_cons_of_mem _ hp))
theorem vq_congr{P:Program}{fr fr':List (Nat×AV)}{mem:List Res}{op:Op}{K:AV->Prop}(h: ∀x∈op.operands,evO fr x=evO fr' x):vq P fr mem op K=vq P fr' mem op K:=by
 cases op<;>simp only[vq,evV_eq,Op.operands] at h ⊢
 case pick c x y=>rw[h c (by simp),h x (by simp),h y (by simp)]
 case build t parts=>exact congrArg (zpu P t) (funext λl=>zh7 (λp hp=>h p.2 (by simp;exact⟨p.1,by simpa using hp⟩)))
 case binOp op t x y yt=>rw[h x (by simp),h y (by simp)]
 case indexAddr t x y=>rw[h x (by simp),h y (by simp)]
 case index t x y=>rw[h x (by simp),h y (by simp)]
 case lookup t x y ok=>rw[h x (by simp),h y (by simp)]
 case slice t x lo hi mx=>
  cases mx with
  |some y=>rfl
  |none=>
   simp only;rw[h x (by simp)];have e1: ∀K,zcP fr lo K=zcP fr' lo K:=λK=>zfi λy hy=>h y (by simp [hy]);have e2: ∀K,zcP fr hi K=zcP fr' hi K:=λK=>zfi λy hy=>h y (by simp [hy]);rw[e1];congr 1
   funext l
   exact e2 _
 case makeFunc fn first caps=>
  cases fn<;>simp only
  congr 1
  exact zgR λx hx=>h x (by simp;exact .inr (by simpa using hx))
 case call c=>
  obtain⟨callee,args,ats⟩:=c;cases callee with
  |builtin b=>
   cases b<;>simp only
   all_goals exact zgR λx hx=>h x (by simp [Call.operands];simpa using hx)
  |_=>rfl
 all_goals first|rfl|(rw[h _ (by simp)])
theorem vm_congr{P:Program}{mt:Mut}{fr fr':List (Nat×AV)}{mem:List Res}{op:Op}{K:MK}(h: ∀x∈op.operands,evO fr x=evO fr' x):vm P mt fr mem op K=vm P mt fr' mem op K:=by
 cases op<;>simp only[vm,evV_eq,Op.operands] at h ⊢
 case store t p x=>rw[h p (by simp),h x (by simp)]
 case buildSlice t len parts=>
  split
  .simp only[fzN_eq];congr 3
   exact zhP (λp hp=>h p.2 (by simp;exact⟨p.1,by simpa using hp⟩))
  .rfl
 case makeSlice t l c=>rw[h l (by simp),h c (by simp)]
 case mapUpdate t m k x=>rw[h m (by simp),h k (by simp),h x (by simp)]
 case binOp op t x y yt=>rw[h x (by simp),h y (by simp)]
 case call c=>
  obtain⟨callee,args,ats⟩:=c;cases callee with
  |builtin b=>
   have hh: ∀x∈args.toList,evO fr x=evO fr' x:=λx hx=>h x (by simp [Call.operands];simpa using hx);cases b<;>simp only
   case append=>
    unfold zeJ;split
    .rename_i x y e;rw[e] at hh;split
     .split
      .simp only[fzN_eq,fzB_eq,evV_eq];rw[hh x (by simp),hh y (by simp)]
      .rfl
     .rfl
    .rfl
   case delete=>
    unfold zgh;split
    .rename_i x y e;rw[e] at hh;split
     .simp only[evV_eq];rw[hh x (by simp),hh y (by simp)]
     .rfl
    .rfl
   case clear=>
    unfold zhQ;split
    .rename_i x e;rw[e] at hh;split
     .simp only[evV_eq];rw[hh x (by simp)]
     .rfl
    .rfl
  |_=>rfl
 all_goals first|rfl|(rw[h _ (by simp)])
theorem ze2{P:Program}{mt:Mut}{pu:Bool}{fr fr':List (Nat×AV)}{mem:List Res}{op:Op}{K:MK}(h: ∀x∈op.operands,evO fr x=evO fr' x):vop P mt pu fr mem op K=vop P mt pu fr' mem op K:=by
 by_cases hc:zci op=true
 .cases op with
  |call c=>
   obtain⟨callee,args,ats⟩:=c;cases callee with
   |value x=>
    have ha: ∀K,evL fr args.toList K=evL fr' args.toList K:=λK=>zgR λy hy=>h y (by simp [Op.operands,Call.operands];exact .inr (by simpa using hy));have hx:=h x (by simp [Op.operands,Call.operands]);cases x<;>simp only[vop,evV_eq,ha,hx]
   |_=>cases hc
  |_=>cases hc
 .rw[zbq (by simpa using hc),zbq (by simpa using hc)];split
  .exact vm_congr h
  .exact vq_congr h
end Go.Proofs.YtimfnpjcedjmiadGreat
namespace Go.Proofs.YtimfnpjcedjmiadGreat
open Go.RowKit
def zhf(l:List Operand):Bool:=
 match l with
 |[x,_]=>match x with
  | .const (.slice none 0 0)=>true
  |_=>false
 |_=>false
theorem zmb{l:List Operand}(h:zhf l=true): ∃y,l=[.const (.slice none 0 0),y]:=by
 unfold zhf at h;split at h
 .split at h
  .exact⟨_,rfl⟩
  .cases h
 .cases h
def kd(P:Program)(pu:Bool)(op:Op):Nat:=
 match op with
 | .move _| .assign _| .nilCheck _| .pick _ _ _| .build _ _| .unOp _ _ _| .extract _ _| .field _ _ _| .fieldAddr _ _ _| .index _ _ _| .slice _ _ _ _ _| .makeInterface _ _| .typeAssert _ _ _ _| .makeFunc _ _ _=>0
 | .load _ _| .lookup _ _ _ _| .indexAddr _ _ _=>1
 | .convert _ u _=>match zej P u with
  |true=>match pu with
   |true=>0
   |false=>2
  |false=>1
 | .binOp _ t _ _ _=>match isSl P t with
  |true=>4
  |false=>0
 | .box _ _| .alloc _| .buildSlice _ _ _| .makeSlice _ _ _| .makeMap _ _=>2
 | .next _ isS=>match isS with
  |true=>3
  |false=>4
 | .call c=>match c.callee with
  | .value _=>match pu with
   |true=>0
   |false=>3
  | .builtin .len| .builtin .min| .builtin .max=>0
  | .builtin .append=>match zhf c.args.toList with
   |true=>2
   |false=>3
  |_=>3
 |_=>3
def zf6(a b:Nat):Bool:=
 match a,b with
 |4,_=>false
 |_,4=>false
 |0,_=>true
 |_,0=>true
 |1,1=>true
 |1,2=>true
 |_,_=>false
section
variable {P:Program} {mt:Mut} {pu:Bool} {fr:List (Nat×AV)} {mem:List Res} {op:Op}
theorem zek{α:Type}{l m:List α}{i:Nat}{K:α->Prop}(h:nthK l i K):nthK (l++m) i K:=by
 obtain⟨r,h1,h2⟩:=zaH h;exact zbh (by rw[List.getElem?_append_left (List.getElem?_eq_some_iff.1 h1).1];exact h1) h2
theorem zln(h:kd P pu op<=1)(hc:zci op=false)(hcv: ∀t u x,op=.convert t u x->zej P u=false):memOp P op=false:=by
 cases op<;>simp only[kd,memOp] at * <;>try (first|rfl|omega|contradiction)
 case convert t u x=>exact hcv t u x rfl
 case binOp o t x y z=>
  cases hs:isSl P t with
  |true=>rw[hs] at h;simp at h
  |false=>rfl
 case next x isS=>cases isS<;>simp at h
 case call c=>
  obtain⟨callee,args,ats⟩:=c;cases callee with
  |value=>cases hc
  |builtin b=>cases hx:zhf args.toList<;>rw[hx] at h<;>cases b<;>simp at h ⊢
  |_=>simp at h
theorem kd0(h:kd P pu op=0){m:List Res}{v:AV}(hv:vop P mt pu fr mem op (λm' v'=>m'=m/\v'=v)):m=mem/\ ∀mem2,vop P mt pu fr mem2 op (λm' v'=>m'=mem2/\v'=v):=by
 by_cases hc:zci op=true
 .cases op with
  |call c=>
   obtain⟨callee,args,ats⟩:=c;cases callee with
   |value x=>
    cases pu with
    |false=>simp [kd] at h
    |true=>
     have key: ∀f l,calV P true mem f l (λm' v'=>m'=m/\v'=v)->m=mem/\ ∀mem2,calV P true mem2 f l (λm' v'=>m'=mem2/\v'=v):=by
      rintro f l ⟨args,r,hF,hf,hA,h1,h2⟩;exact⟨h1.symm,λmem2=>⟨args,r,hF,hf,hA,rfl,h2⟩⟩
     cases x with
     |func f=>simp only[vop,evL_eq] at hv ⊢;exact key _ _ hv
     |_=>
      simp only[vop,evV_eq,evL_eq] at hv ⊢;split at hv
      .exact key _ _ hv
      .exact hv.elim
   |_=>cases hc
  |_=>cases hc
 .replace hc:zci op=false:=by simpa using hc
  by_cases hcv: ∃t u x,op=.convert t u x/\zej P u=true
  .obtain⟨t,u,x,rfl,hu⟩:=hcv;cases pu with
   |false=>simp [kd,hu] at h
   |true=>
    simp only[vop,memOp,hu,vm,mtc,modeT,evV_eq] at hv ⊢;split at hv
    .obtain⟨h1,hv2⟩:=zaB hv;obtain⟨h2,h3,h4⟩:=hv2;refine⟨h3.symm,λmem2=>?_⟩;simp only[h1];exact⟨h2,trivial,h4⟩
    .exact hv.elim
  .have hq:=zln (P:=P) (op:=op) (pu:=pu) (by omega) hc (λt u x e=>by cases hu:zej P u with|false=>rfl|true=>exact absurd ⟨t,u,x,e,hu⟩ hcv);rw[zbq hc,hq] at hv;have hnm: ∀mem2 K,vq P fr mem op K=vq P fr mem2 op K:=by
    intro mem2 K;cases op<;>simp only[kd] at h<;>first|rfl|omega|skip
    case convert t u x=>
     cases hu:zej P u with
     |true=>exact absurd ⟨t,u,x,rfl,hu⟩ hcv
     |false=>rw[hu] at h;simp at h
   obtain⟨u,h1,h2,h3⟩:=zeK.det hv;refine⟨h2.symm,λmem2=>?_⟩;rw[zbq hc,hq];have:vq P fr mem op (λv'=>v'=v):=zeK.mono (λv' h=>h.2) hv;rw[hnm mem2] at this;exact zeK.mono (λv' h=>⟨rfl,h⟩) this
theorem ldV_app{sh:Option (Bool×Nat)}{v:AV}{l:List Res}{K:AV->Prop}(h:ldV sh v mem K):ldV sh v (mem++l) K:=by
 cases v with
 |adr c=>exact h
 |box id off=>exact zek h
 |elt id g sz i o=>exact zek h
 |_=>exact h
theorem zo3{v:AV}{l:List Res}{K:Nat->List (List AV)->Prop}(h:zjr v mem K):zjr v (mem++l) K:=by
 cases v with
 |sl=>exact h
 |arr=>exact zek h
 |_=>exact h
theorem zpO{t u:TypeId}{v:AV}{l:List Res}{K:AV->Prop}(h:zmt P t u v mem K):zmt P t u v (mem++l) K:=by
 cases v with
 |v x=>cases x<;>exact h
 |arr id g n=>
  obtain⟨g1,g2⟩:=zaB h;obtain⟨g3,g4⟩:=zaB g2;show tt (zgP P u) (tt (zej P t) (zjr (.arr id g n) (mem++l) λ_ rows=>StopBytes rows K));rw[g1,g3];exact zo3 g4
 |_=>exact h
theorem znt{t:TypeId}{v k:AV}{ok:Bool}{l:List Res}{K:AV->Prop}(h:zk0 P t v k ok mem K):zk0 P t v k ok (mem++l) K:=by
 cases v with
 |map=>exact zek h
 |_=>exact h
theorem idxV_app{t:TypeId}{v i:AV}{l:List Res}{K:AV->Prop}(h:idxV P t mem v i K):idxV P t (mem++l) v i K:=by
 unfold idxV at *
 split at h
 .split at h
  .exact h
  .split at h
   .exact zek h
   .exact h.elim
  .exact h
  .exact h
  .exact h.elim
 .exact h.elim
theorem kd1(h:kd P pu op=1){m:List Res}{v:AV}(hv:vop P mt pu fr mem op (λm' v'=>m'=m/\v'=v)):m=mem/\ ∀l,vop P mt pu fr (mem++l) op (λm' v'=>m'=mem++l/\v'=v):=by
 have hc:zci op=false:=by
  cases op with
  |call c=>
   obtain⟨callee,args,ats⟩:=c;cases callee with
   |value=>cases pu<;>simp [kd] at h
   |_=>rfl
  |_=>rfl
 have hq:=zln (P:=P) (op:=op) (pu:=pu) (by omega) hc (λt u x e=>by subst e;simp only[kd] at h;cases hu:zej P u with|false=>rfl|true=>rw[hu] at h;cases pu<;>simp at h);rw[zbq hc,hq] at hv;obtain⟨u,h1,h2,h3⟩:=zeK.det hv;refine⟨h2.symm,λl=>?_⟩;rw[zbq hc,hq];have:vq P fr mem op (λv'=>v'=v):=zeK.mono (λv' h=>h.2) hv;have happ:vq P fr (mem++l) op (λv'=>v'=v):=by
  cases op<;>simp only[kd] at h<;>first|omega|skip
  case load t p=>simp only[vq,evV_eq] at this ⊢;exact ldV_app this
  case lookup t x y ok=>simp only[vq,evV_eq] at this ⊢;exact znt this
  case indexAddr t x y=>simp only[vq,evV_eq] at this ⊢;exact idxV_app this
  case convert t u x=>
   simp only[vq,evV_eq] at this ⊢;exact zpO this
  case binOp o t x y z=>cases hs:isSl P t<;>rw[hs] at h<;>simp at h
  case next x isS=>cases isS<;>simp at h
  case call c=>
   obtain⟨callee,args,ats⟩:=c;cases callee with
   |builtin b=>cases hx:zhf args.toList<;>rw[hx] at h<;>cases b<;>simp at h
   |value=>cases hc
   |_=>simp at h
 exact zeK.mono (λv' h=>⟨rfl,h⟩) happ
theorem kd2(h:kd P pu op=2){m:List Res}{v:AV}(hv:vop P mt pu fr mem op (λm' v'=>m'=m/\v'=v)): ∃l,m=mem++l:=by
 have hns: ∀{t e sz free rows n},zhy mt t e sz mem free rows n (λm' v'=>m'=m/\v'=v)-> ∃l,m=mem++l:=by
  intro t e sz free rows n hq;unfold zhy at hq;split at hq
  .split at hq<;>exact⟨_,hq.1.symm⟩
  .split at hq
   .exact⟨_,(zaB hq).2.1.symm⟩
   .exact⟨_,hq.1.symm⟩
 cases op<;>simp only[kd] at h<;>first|omega|skip
 case box t x=>
  simp only[vop,memOp,vm,evV_eq] at hv;obtain⟨l,_,h1,_⟩:=zb0 hv;exact⟨_,h1.symm⟩
 case alloc t=>
  simp only[vop,memOp,vm] at hv;split at hv
  .simp only[fz_eq] at hv;obtain⟨l,_,h1,_⟩:=zb0 hv;exact⟨_,h1.symm⟩
  .exact hv.elim
 case buildSlice t len parts=>
  simp only[vop,memOp,vm] at hv;split at hv
  .simp only[fzN_eq] at hv;obtain⟨_,h1⟩:=zaB hv;obtain⟨_,h2⟩:=zaB h1;obtain⟨_,h3⟩:=zaB h2;obtain⟨rs,h4,h5⟩:=zfC.det h3;obtain⟨_,h6⟩:=zaB h5;split at h6<;>exact hns h6
  .exact hv.elim
 case makeSlice t l c=>
  simp only[vop,memOp,vm] at hv;split at hv
  .simp only[fzN_eq,evV_eq] at hv;obtain⟨_,h1⟩:=zaB hv;obtain⟨_,h2⟩:=zaB h1;split at h2
   .split at h2
    .split at h2
     .obtain⟨_,h3⟩:=h2;obtain⟨_,h4⟩:=zaB h3;split at h4<;>exact⟨_,h4.1.symm⟩
     .exact h2.elim
    .exact h2.elim
   .exact h2.elim
  .exact hv.elim
 case makeMap t r=>
  simp only[vop,memOp,vm] at hv;split at hv
  .split at hv
   .exact⟨_,hv.1.symm⟩
   .exact hv.elim
  .exact hv.elim
 case next x isS=>cases isS<;>simp at h
 case convert t u x=>
  cases hu:zej P u with
  |false=>rw[hu] at h;simp at h
  |true=>
   simp only[vop,memOp,hu,vm,evV_eq] at hv;split at hv
   .split at hv
    .obtain⟨h1,hv2⟩:=zaB hv;obtain⟨h2,h3,h4⟩:=hv2;exact⟨_,h3.symm⟩
    .obtain⟨h1,hv2⟩:=zaB hv;obtain⟨h2,h3,h4⟩:=hv2;exact⟨[],by rw[List.append_nil];exact h3.symm⟩
   .exact hv.elim
 case binOp o t x y z=>cases hs:isSl P t<;>rw[hs] at h<;>simp at h
 case call c=>
  obtain⟨callee,args,ats⟩:=c;cases callee with
  |builtin b=>
   cases hx:zhf args.toList with
   |false=>rw[hx] at h;cases b<;>simp at h
   |true=>
    rw[hx] at h;cases b<;>simp at h
    obtain⟨y,hy⟩:=zmb hx;simp only[vop,memOp,vm,hy] at hv;unfold zeJ at hv;dsimp only at hv;split at hv
    .rename_i t t' hts;split at hv
     .rename_i e1 sz1 z1 by1 heq1;simp only[fzN_eq,fzB_eq,evV_eq] at hv;obtain⟨_,h1⟩:=zaB hv;obtain⟨_,h2⟩:=zaB h1;have e0:evO fr (.const (.slice none 0 0))=.v (.slice none 0 0):=rfl;rw[e0] at h2;have key: ∀(u:AV),srcK P t' sz1 u mem (λfree rows2=>appV mt t e1 sz1 by1 (.v (.slice none 0 0)) mem free rows2 (λm' v'=>m'=m/\v'=v))-> ∃l,m=mem++l:=by
       intro u hu;unfold srcK at hu;split at hu
       .exact hns (zaB (zaB hu).2).2.2
       .obtain⟨r,_,hr⟩:=zaH (zaB hu).2;split at hr
        .exact hns (zaB (zaB hr).2).2.2
        .exact hr.elim
       .exact hns (zaB hu).2.2
       .exact hns (zaB (zaB hu).2).2.2
       .exact hu.elim
      exact key _ h2
     .exact hv.elim
    .exact hv.elim
  |value=>cases pu<;>simp at h
  |_=>simp at h
theorem zeL(h:kd P pu op≠4):zaI (vop P mt pu fr mem op):=by
 refine vop_nice ?_;cases op<;>first|exact .inl rfl|skip
 case next x isS=>
  cases isS with
  |true=>exact .inl rfl
  |false=>exact absurd rfl h
 rename_i o t x y z;right
 simp only[kd] at h;simp only[memOp];cases hs:isSl P t with
 |false=>rfl
 |true=>rw[hs] at h;simp at h
end
end Go.Proofs.YtimfnpjcedjmiadGreat
namespace Go.Proofs.YtimfnpjcedjmiadGreat
open Go.RowKit
inductive Anc (ops:Array Oper):Nat->Nat->Prop
 |dir {j:Nat} {o:Oper} {e:Edge} (h:ops[j]? =some o) (he:e∈o.after) (hb:Region.binds .any e=true):Anc ops j e.on
 |tr {j i:Nat} {o:Oper} {e:Edge} (h:ops[j]? =some o) (he:e∈o.after) (hb:Region.binds .any e=true) (ha:Anc ops e.on i):Anc ops j i
def befL:List Edge->List Nat->Nat
 |[],_=>0
 |e::l,acc=>match Region.binds .any e with
  |true=>2^e.on|||acc.getD e.on 0|||befL l acc
  |false=>befL l acc
def befs:List Oper->List Nat->List Nat
 |[],acc=>acc
 |o::l,acc=>befs l (acc++[befL o.after.toList acc])
theorem zhi{acc:List Nat}{i:Nat}: ∀{l:List Edge},(befL l acc).testBit i=true-> ∃e,e∈l/\Region.binds .any e=true/\(e.on=i\/(acc.getD e.on 0).testBit i=true)
 |[],h=>by simp [befL] at h
 |e::l,h=>by
  unfold befL at h;split at h
  .rename_i hb;simp only[Nat.testBit_or,Bool.or_eq_true] at h;rcases h with (h|h)|h
   .rw[Nat.testBit_two_pow] at h;exact⟨e,List.mem_cons_self .., hb,.inl (by simpa using h)⟩
   .exact⟨e,List.mem_cons_self .., hb,.inr h⟩
   .obtain⟨e',h1,h2,h3⟩:=zhi h;exact⟨e',List.mem_cons_of_mem _ h1,h2,h3⟩
  .obtain⟨e',h1,h2,h3⟩:=zhi h;exact⟨e',List.mem_cons_of_mem _ h1,h2,h3⟩
theorem zmG{ops:Array Oper}: ∀{l:List Oper} {acc:List Nat},(∀j,l[j]? =ops[acc.length+j]?)->(∀j i,(acc.getD j 0).testBit i=true->Anc ops j i)-> ∀j i,((befs l acc).getD j 0).testBit i=true->Anc ops j i
 |[],acc,hl,hacc,j,i,h=>hacc j i h
 |o::l,acc,hl,hacc,j,i,h=>by
  unfold befs at h;refine zmG (l:=l) (acc:=acc++[befL o.after.toList acc]) (λk=>?_) (λj i h=>?_) j i h
  .have:=hl (k+1);simp only[List.getElem?_cons_succ] at this;rw[this];congr 1;simp;omega
  .rw[List.getD_eq_getElem?_getD,List.getElem?_append] at h;split at h
   .rw[<-List.getD_eq_getElem?_getD] at h;exact hacc j i h
   .rename_i hge;cases hj:j-acc.length with
    |zero=>
     rw[hj] at h;simp only[List.getElem?_cons_zero,Option.getD_some] at h;have hjj:j=acc.length:=by omega
     subst hjj;have h0:=hl 0;simp only[List.getElem?_cons_zero,Nat.add_zero] at h0;obtain⟨e,h1,h2,h3⟩:=zhi h;have h1:e∈o.after:=by simpa using h1
     rcases h3 with rfl|h3
     .exact .dir h0.symm h1 h2
     .exact .tr h0.symm h1 h2 (hacc _ _ h3)
    |succ k=>rw[hj] at h;simp at h
def anc(b:List Nat)(j i:Nat):Bool:=(b.getD j 0).testBit i
def bef(ops:Array Oper):List Nat:=befs ops.toList []
theorem zoX{ops:Array Oper}{j i:Nat}(h:anc (bef ops) j i=true):Anc ops j i:=
 zmG (l:=ops.toList) (acc:=[]) (λj=>by simp) (λj i h=>by simp at h) j i h
def callW(P:Program)(ops:Array Oper)(b:List Nat)(i:Nat):Bool:=
 (List.range ops.size).all λj=>j==i||(match ops[j]? with|some o=>kd P (match o.op with| .convert _ _ _=>true|_=>false) o.op==0|none=>true)||anc b j i||anc b i j
def isCv(o:Op):Bool:=
 match o with
 | .convert _ _ _=>true
 |_=>false
def pfOf(P:Program)(ops:Array Oper)(b:List Nat)(i:Nat):Bool:= !callW P ops b i||(match ops[i]? with|some o=>isCv o.op|none=>false)
def zl3(P:Program)(ops:Array Oper)(pf:Nat->Bool):Bool:=
 let b:=bef ops
 Region.noSelect ops&&
 ((
  List.range ops.size).all λi=>match ops[i]? with
  |some o=>(o.after.all λe=> !Region.binds .any e||decide (e.on<i))&&kd P (pf i) o.op != 4
  |none=>true)&&
 ((
  List.range ops.size).all λj=>(List.range j).all λi=>anc b j i||match ops[i]?, ops[j]? with
  |some oi,some oj=>oi.apart ops oj&&zf6 (kd P (pf i) oi.op) (kd P (pf j) oj.op)
  |_,_=>true)
section
variable {P:Program} {mt:Mut} {ops:Array Oper} {pf:Nat->Bool}
theorem zjg{A:AS}{d:Option Tmp}{v:AV}{o:Oper}(h: ∀t,d=some t->t∉o.looksAt ops): ∀x∈o.op.operands,evO (A.put d v).fr x=evO A.fr x:=by
 intro x hx;refine zgY λt ht=>?_;rw[lk_put,if_neg];intro e;refine h t e ?_;unfold Oper.looksAt;refine List.mem_append_left _ (List.mem_filterMap.2 ⟨x,by simpa using hx,by rw[ht]⟩)
theorem zhA{A:AS}{d:Option Tmp}{v:AV}{o:Oper}(h: ∀t,d=some t->t∉o.looksAt ops):zbm ops (A.put d v).fr o=zbm ops A.fr o:=
 zct λt ht=>by rw[lk_put,if_neg];intro e;exact h t e ht
theorem zaI.mono2{T:MK->Prop}(h:zaI T){K K':MK}(hk: ∀m v,K m v->K' m v)(hT:T K):T K':=
 Nice.mono (K:=λp=>K p.1 p.2) (K':=λp=>K' p.1 p.2) h (λp hp=>hk p.1 p.2 hp) hT
theorem zaI.det2{T:MK->Prop}(h:zaI T){K:MK}(hT:T K): ∃m v,T (λm' v'=>m'=m/\v'=v)/\K m v:=by
 obtain⟨⟨m,v⟩,h1,h2⟩:=Nice.det (K:=λp=>K p.1 p.2) h hT;exact⟨m,v,h.mono2 (K:=λm' v'=>(m',v')=(m,v)) (λm' v' e=>by cases e;exact⟨rfl,rfl⟩) h1,h2⟩
theorem Ex.out{pu:Bool}{o:Oper}{A B:AS}(h:Ex P mt pu ops o A B)(hn:kd P pu o.op≠4): ∃m v,B=AS.put ⟨A.fr,m⟩ o.dst v/\((zbm ops A.fr o=some true/\vop P mt pu A.fr A.mem o.op (λm' v'=>m'=m/\v'=v))\/(zbm ops A.fr o=some false/\m=A.mem/\v=.v (.tuple #[]))):=by
 rcases h with⟨h1,h2⟩|⟨h1,h2⟩
 .obtain⟨m,v,h3,h4⟩:=(zeL (mt:=mt) (fr:=A.fr) (mem:=A.mem) hn).det2 h2;exact⟨m,v,h4,.inl ⟨h1,h3⟩⟩
 .exact⟨A.mem,_,h2,.inr ⟨h1,rfl,rfl⟩⟩
theorem Ex.of{pu:Bool}{o:Oper}{A B:AS}{m:List Res}{v:AV}(hn:kd P pu o.op≠4)(hB:B=AS.put ⟨A.fr,m⟩ o.dst v)(h:(zbm ops A.fr o=some true/\vop P mt pu A.fr A.mem o.op (λm' v'=>m'=m/\v'=v))\/(zbm ops A.fr o=some false/\m=A.mem/\v=.v (.tuple #[]))):Ex P mt pu ops o A B:=by
 rcases h with⟨h1,h2⟩|⟨h1,rfl,rfl⟩
 .exact .inl ⟨h1,(zeL hn).mono2 (λm' v' hp=>by obtain⟨e1,e2⟩:=hp;rw[hB,e1,e2]) h2⟩
 .exact .inr ⟨h1,hB⟩
theorem Ex.same{pu:Bool}{o:Oper}{A A' B:AS}(hn:kd P pu o.op≠4)(hs:zal A A')(h:Ex P mt pu ops o A B): ∃B',Ex P mt pu ops o A' B'/\zal B B':=by
 obtain⟨m,v,hB,g⟩:=h.out hn;rw[hB];clear h hB;refine⟨AS.put ⟨A'.fr,m⟩ o.dst v,.of hn rfl ?_,zal.put2 hs.2 m o.dst v⟩;rw[<-zct (ops:=ops) (o:=o) λt _=>hs.2 t,<-hs.1];refine g.imp (λ⟨h1,h2⟩=>⟨h1,?_⟩) id;rw[<-ze2 λx _=>zgY λt _=>hs.2 t];exact h2
theorem put_put{fr:List (Nat×AV)}{m:List Res}{d e:Option Tmp}{u v:AV}(h: ∀t,d=some t->e≠some t):zal (AS.put ⟨(AS.put ⟨fr,m⟩ d u).fr,m⟩ e v) (AS.put ⟨(AS.put ⟨fr,m⟩ e v).fr,m⟩ d u):=by
 refine⟨by rw[zfK,zfK],λt=>?_⟩;rw[lk_put,lk_put];simp only;rw[lk_put,lk_put];by_cases h1:d=some t
 .rw[if_pos h1,if_neg (h t h1),if_pos h1]
 .rw[if_neg h1,if_neg h1]
theorem fr_put{fr:List (Nat×AV)}{m m':List Res}{d:Option Tmp}{v:AV}:(AS.put ⟨fr,m⟩ d v).fr=(AS.put ⟨fr,m'⟩ d v).fr:=by cases d<;>rfl
theorem Ex.comm{pi pj:Bool}{oi oj:Oper}(hap:oi.apart ops oj=true)(hok:zf6 (kd P pi oi.op) (kd P pj oj.op)=true){A B C:AS}(h1:Ex P mt pi ops oi A B)(h2:Ex P mt pj ops oj B C):
  ∃D E,Ex P mt pj ops oj A D/\Ex P mt pi ops oi D E/\zal C E:=by
 obtain⟨a1,a2,a3⟩:=Oper.apart_spec hap;have hni:kd P pi oi.op≠4:=λe=>by rw[e] at hok;simp [zf6] at hok
 have hnj:kd P pj oj.op≠4:=λe=>by
  rw[e] at hok;revert hok
  generalize kd P pi oi.op=k;intro hok;unfold zf6 at hok;split at hok<;>simp_all
 obtain⟨mi,vi,hB,g1⟩:=h1.out hni;subst hB;clear h1;obtain⟨mj,vj,hC,g2⟩:=h2.out hnj;subst hC;clear h2;have h1:=g1;have h2:=g2;clear g1 g2;-- what each sees
 have wj:zbm ops (AS.put ⟨A.fr,mi⟩ oi.dst vi).fr oj=zbm ops A.fr oj:=by rw[zhA a1]
 have vj': ∀m K,vop P mt pj (AS.put ⟨A.fr,mi⟩ oi.dst vi).fr m oj.op K=vop P mt pj A.fr m oj.op K:=λm K=>ze2 (zjg (A:=⟨A.fr,mi⟩) a1);have wi: ∀m,zbm ops (AS.put ⟨A.fr,m⟩ oj.dst vj).fr oi=zbm ops A.fr oi:=λm=>by rw[zhA a3]
 have vi': ∀m m' K,vop P mt pi (AS.put ⟨A.fr,m⟩ oj.dst vj).fr m' oi.op K=vop P mt pi A.fr m' oi.op K:=λm m' K=>ze2 (zjg (A:=⟨A.fr,m⟩) a3);rw[wj,zfK] at h2;simp only[vj'] at h2;-- it is enough to say what memory each leaves
 have fin: ∀md,((zbm ops A.fr oj=some true/\vop P mt pj A.fr A.mem oj.op (λm' v'=>m'=md/\v'=vj))\/(zbm ops A.fr oj=some false/\md=A.mem/\vj=.v (.tuple #[]))) →
   ((zbm ops A.fr oi=some true/\vop P mt pi A.fr md oi.op (λm' v'=>m'=mj/\v'=vi))\/(zbm ops A.fr oi=some false/\mj=md/\vi=.v (.tuple #[]))) →
   ∃D E,Ex P mt pj ops oj A D/\Ex P mt pi ops oi D E/\zal (AS.put ⟨(AS.put ⟨A.fr,mi⟩ oi.dst vi).fr,mj⟩ oj.dst vj) E:=by
  intro md hj hi;refine⟨AS.put ⟨A.fr,md⟩ oj.dst vj,AS.put ⟨(AS.put ⟨A.fr,md⟩ oj.dst vj).fr,mj⟩ oi.dst vi,.of hnj rfl hj,.of hni rfl ?_,?_⟩
  .rw[wi,zfK];simp only[vi'];exact hi
  .have:=put_put (fr:=A.fr) (m:=mj) (d:=oi.dst) (e:=oj.dst) (u:=vi) (v:=vj) a2;rw[fr_put (m':=mi),fr_put (fr:=A.fr) (d:=oj.dst) (m':=md)] at this;exact this
 -- an operation that is skipped does not look
 by_cases si:zbm ops A.fr oi=some false
 .rcases h1 with⟨e,_⟩|⟨_,rfl,rfl⟩
  .rw[si] at e;cases e
  .exact fin mj h2 (.inr ⟨si,rfl,rfl⟩)
 by_cases sj:zbm ops A.fr oj=some false
 .rcases h2 with⟨e,_⟩|⟨_,rfl,rfl⟩
  .rw[sj] at e;cases e
  .exact fin A.mem (.inr ⟨sj,rfl,rfl⟩) h1
 obtain⟨t1,h1⟩:=h1.resolve_right (λh=>si h.1);obtain⟨t2,h2⟩:=h2.resolve_right (λh=>sj h.1);have hcase:kd P pi oi.op=0\/kd P pj oj.op=0\/(kd P pi oi.op=1/\kd P pj oj.op=1)\/(kd P pi oi.op=1/\kd P pj oj.op=2):=by
  revert hok
  generalize kd P pi oi.op=x;generalize kd P pj oj.op=y;intro hok;unfold zf6 at hok;split at hok<;>simp_all
 rcases hcase with hk|hk|⟨k1,k2⟩|⟨k1,k2⟩
 .obtain⟨rfl,hi⟩:=kd0 hk h1;exact fin mj (.inl ⟨t2,h2⟩) (.inl ⟨t1,hi mj⟩)
 .obtain⟨rfl,hj⟩:=kd0 hk h2;exact fin A.mem (.inl ⟨t2,hj A.mem⟩) (.inl ⟨t1,h1⟩)
 .obtain⟨rfl,hi⟩:=kd1 k1 h1;obtain⟨rfl,hj⟩:=kd1 k2 h2;exact fin A.mem (.inl ⟨t2,h2⟩) (.inl ⟨t1,h1⟩)
 .obtain⟨rfl,hi⟩:=kd1 k1 h1;obtain⟨l,rfl⟩:=kd2 k2 h2;exact fin _ (.inl ⟨t2,h2⟩) (.inl ⟨t1,hi l⟩)
def qOp(P:Program)(mt:Mut)(pf:Nat->Bool)(ops:Array Oper)(i:Nat)(K:AS->Prop)(A:AS):Prop:=
 match ops[i]? with
 |none=>K A
 |some o=> ∃B,Ex P mt (pf i) ops o A B/\K B
def aAny(P:Program)(mt:Mut)(pf:Nat->Bool)(ops:Array Oper)(Q:AS->Prop):Nat->Array Bool->AS->Prop
 |0,listed,A=>Region.ready .any ops listed=[]/\Q A
 |fuel+1,listed,A=>(Region.ready .any ops listed=[]->Q A)/\ ∀i∈Region.ready .any ops listed,qOp P mt pf ops i (aAny P mt pf ops Q fuel (listed.setIfInBounds i true)) A
theorem zgc{Q:AS->Prop}(hQ: ∀A B,zal A B->Q A->Q B)(hn: ∀i o,ops[i]? =some o->kd P (pf i) o.op≠4): ∀(fuel:Nat) (listed:Array Bool) (A B:AS),zal A B->aAny P mt pf ops Q fuel listed A->aAny P mt pf ops Q fuel listed B
 |0,_,A,B,h,hq=>⟨hq.1,hQ A B h hq.2⟩
 |fuel+1,listed,A,B,h,hq=>⟨λh0=>hQ A B h (hq.1 h0),λi hi=>by
   have:=hq.2 i hi;unfold qOp at *
   split
   .rename_i ho;simp only[ho] at this;exact zgc hQ hn fuel _ A B h this
   .rename_i o ho;simp only[ho] at this;obtain⟨A',h1,h2⟩:=this;obtain⟨B',h3,h4⟩:=h1.same (hn i o ho) h;exact⟨B',h3,zgc hQ hn fuel _ _ _ h4 h2⟩⟩
def zf9(ops:Array Oper)(listed:Array Bool):Prop:= ∀j o,listed.getD j false=true->ops[j]? =some o-> ∀e∈o.after,Region.binds .any e=true->listed.getD e.on false=true
theorem zf9.anc{listed:Array Bool}(h:zf9 ops listed){j i:Nat}(ha:Anc ops j i):(∃o,ops[j]? =some o/\ ∀e∈o.after,Region.binds .any e=true->listed.getD e.on false=true)->listed.getD i false=true:=by
 induction ha with
 |dir h1 h2 h3=>
  rintro⟨o,ho,hall⟩;rw[h1] at ho;obtain rfl:=Option.some.inj ho;exact hall _ h2 h3
 | @tr j0 i0 o0 e0 h1 h2 h3 ha ih=>
  rintro⟨o,ho,hall⟩;rw[h1] at ho;obtain rfl:=Option.some.inj ho;have hl:=hall _ h2 h3;have: ∃o',ops[e0.on]? =some o':=by
   cases ha with
   |dir g=>exact⟨_,g⟩
   |tr g=>exact⟨_,g⟩
  obtain⟨o',ho'⟩:=this;exact ih ⟨o',ho',λe' he' hb'=>h _ o' hl ho' e' he' hb'⟩
theorem zf9.step{listed:Array Bool}(h:zf9 ops listed){j:Nat}(hj:j∈Region.ready .any ops listed):zf9 ops (listed.setIfInBounds j true):=by
 intro k o hk ho e he hb;obtain⟨_,oj,hoj,hall⟩:=mem_ready.1 hj;by_cases hkj:j=k
 .subst hkj;rw[hoj] at ho;obtain rfl:=Option.some.inj ho;exact getD_set_true (hall e he hb)
 .rw[getD_set_ne false hkj] at hk;exact getD_set_true (h k o hk ho e he hb)
theorem zhY{Q:AS->Prop}(hQ: ∀A B,zal A B->Q A->Q B)(hn: ∀i o,ops[i]? =some o->kd P (pf i) o.op≠4){i:Nat}{oi:Oper}(hi:ops[i]? =some oi):
  ∀(fuel:Nat) (listed:Array Bool) (A B:AS),zf9 ops listed →
   (∀j oj,ops[j]? =some oj->j≠i->listed.getD j true=false-> ¬Anc ops j i->oi.apart ops oj=true/\zf6 (kd P (pf i) oi.op) (kd P (pf j) oj.op)=true) →
   i∈Region.ready .any ops listed->Ex P mt (pf i) ops oi A B →
   aAny P mt pf ops Q fuel (listed.setIfInBounds i true) B->aAny P mt pf ops Q (fuel+1) listed A:=by
 intro fuel;have hnow: ∀(K:AS->Prop) (A B:AS),Ex P mt (pf i) ops oi A B->K B->qOp P mt pf ops i K A:=by
  intro K A B hy hk;unfold qOp;simp only[hi];exact⟨B,hy,hk⟩
 induction fuel with
 |zero=>
  intro listed A B hcl _ hr hy H;refine⟨λh=>(by rw[h] at hr;cases hr),λj hj=>?_⟩;by_cases hji:j=i
  .subst hji;exact hnow _ A B hy H
  .have:=ready_mono hj hji;rw[H.1] at this;cases this
 |succ fuel ih=>
  intro listed A B hcl hfree hr hy H;refine⟨λh=>(by rw[h] at hr;cases hr),λj hj=>?_⟩;by_cases hji:j=i
  .subst hji;exact hnow _ A B hy H
  .have h1:=H.2 j (ready_mono hj hji);obtain⟨hjun,oj,hoj,hall⟩:=mem_ready.1 hj;have hiun:listed.getD i false≠true:=by
    have g0:=(mem_ready.1 hr).1;intro g1;rcases Nat.lt_or_ge i listed.size with h'|h'
    .simp [h'] at g0 g1;rw[g0] at g1;cases g1
    .simp [Array.getElem?_eq_none h'] at g1
   have hnot: ¬Anc ops j i:=λha=>hiun (hcl.anc ha ⟨oj,hoj,hall⟩);obtain⟨c1,c2⟩:=hfree j oj hoj hji hjun hnot;unfold qOp at h1;simp only[hoj] at h1;obtain⟨C,hC,hrest⟩:=h1;obtain⟨D,E,hD,hE,hs⟩:=Ex.comm c1 c2 hy hC;unfold qOp;simp only[hoj];refine⟨D,hD,ih (listed.setIfInBounds j true) D E (hcl.step hj) (λk ok hk hki hun hno=>hfree k ok hk hki ?_ hno) (ready_mono hr (Ne.symm hji)) hE ?_⟩
   .by_cases hjk:j=k
    .subst hjk;exact hjun
    .rw[getD_set_ne true hjk] at hun;exact hun
   .rw[Array.setIfInBounds_comm _ _ hji];exact zgc hQ hn fuel _ C E hs hrest
end
end Go.Proofs.YtimfnpjcedjmiadGreat
namespace Go.Proofs.YtimfnpjcedjmiadGreat
open Go.RowKit
section
variable {P:Program} {mt:Mut} {ops:Array Oper} {pf:Nat->Bool}
theorem zfY{i:Nat}{o:Oper}{rest:List Oper}{K:AS->Prop}{A:AS}(h:zcO P mt pf ops i (o::rest) K A):
  ∃fr',(∀t,lk fr' t=lk A.fr t)/\((zbm ops A.fr o=some true/\vop P mt (pf i) fr' A.mem o.op (λm v=>zcO P mt pf ops (i+1) rest K (AS.put ⟨fr',m⟩ o.dst v))) ∨
   (zbm ops A.fr o=some false/\zcO P mt pf ops (i+1) rest K (AS.put ⟨fr',A.mem⟩ o.dst (.v (.tuple #[]))))):=by
 obtain⟨fr,mem⟩:=A;simp only[zhd,vone,vpt_eq,zi7] at h;unfold zbm;have pushed: ∀t (b:Bool),lk fr t=.v (.bool b)-> ∀u,lk ((t,.v (.bool b))::fr) u=lk fr u:=by
  intro t b ht u;simp only[lk,look];by_cases e:t=u
  .subst e;rw[if_pos rfl];exact ht.symm
  .rw[if_neg e]
 cases hg:o.guard with
 |none=>rw[hg] at h;exact⟨fr,λ_=>rfl,.inl ⟨rfl,h⟩⟩
 |some p=>
  obtain⟨j,w⟩:=p;rw[hg] at h;simp only at h ⊢;cases ht:gs ops j with
  |none=>rw[ht] at h;exact h.elim
  |some t=>
   rw[ht] at h;simp only[zdx] at h ⊢;split at h
   .rename_i b e;by_cases hb:b=w
    .subst hb;exact⟨_,pushed t b e,.inl ⟨by simp,h.1 rfl⟩⟩
    .have hb':b=neg w:=by rw[zlh];cases b<;>cases w<;>simp_all
     subst hb';exact⟨_,pushed t _ e,.inr ⟨by cases w<;>rfl,h.2 rfl⟩⟩
   .rename_i cs e;exact⟨fr,λ_=>rfl,.inr ⟨rfl,h⟩⟩
   .exact h.elim
theorem zlc{Q:AS->Prop}(hQ: ∀A B,zal A B->Q A->Q B)(hn: ∀i o,ops[i]? =some o->kd P (pf i) o.op≠4)
  (hpre: ∀i o,ops[i]? =some o-> ∀e∈o.after,Region.binds .any e=true->e.on<i)
  (hpair: ∀i j oi oj,i<j->ops[i]? =some oi->ops[j]? =some oj-> ¬Anc ops j i->oi.apart ops oj=true/\zf6 (kd P (pf i) oi.op) (kd P (pf j) oj.op)=true):
  ∀(l:List Oper) (k:Nat) (listed:Array Bool) (A B:AS),zal A B->(∀j,l[j]? =ops[k+j]?)->listed.size=ops.size->(∀j,listed.getD j false=true↔j<k/\j<ops.size)->zcO P mt pf ops k l Q A->aAny P mt pf ops Q l.length listed B
 |[],k,listed,A,B,hs,hl,hsz,hlist,h=>by
  refine⟨?_,hQ A B hs h⟩;rw[List.eq_nil_iff_forall_not_mem];intro i hi;obtain⟨h1,o,ho,_⟩:=mem_ready.1 hi;have hlt:=(Array.getElem?_eq_some_iff.1 ho).1;have hk:k<=i:=by
   rcases Nat.lt_or_ge i k with g|g
   .have:=(hlist i).2 ⟨g,hlt⟩;have hi':i<listed.size:=by omega
    simp [hi'] at h1 this;rw[h1] at this;cases this
   .exact g
  have:=hl (i-k);rw[show k+(i-k)=i by omega,ho] at this;simp at this
 |o::l,k,listed,A,B,hs,hl,hsz,hlist,h=>by
  have h0:ops[k]? =some o:=by simpa using (hl 0).symm
  have hkl:=(Array.getElem?_eq_some_iff.1 h0).1;have hnk:=hn k o h0;have hst: ∃C B',Ex P mt (pf k) ops o B B'/\zal C B'/\zcO P mt pf ops (k+1) l Q C:=by
   obtain⟨fr',hfr,hv⟩:=zfY h;exact Y36
  obtain⟨C,B',hE,hsC,hv⟩:=hst;have hunl: ∀j,k<=j->j<ops.size->listed.getD j true=false:=λj hj hjs=>by
   have hjl:j<listed.size:=by omega
   have hne:listed.getD j false≠true:=λe=>by have:=(hlist j).1 e;omega
   simp [hjl] at hne ⊢;exact hne
  have hready:k∈Region.ready .any ops listed:=by
   rw[mem_ready];exact⟨hunl k (Nat.le_refl _) hkl,o,h0,λe he hb=>(hlist e.on).2 ⟨hpre k o h0 e he hb,by have:=hpre k o h0 e he hb;omega⟩⟩
  refine zhY hQ hn h0 l.length listed B B' (λj oj hj hoj e he hb=>?_) (λj oj hj hne hun hno=>?_) hready hE ?_
  .have h1:=(hlist j).1 hj;have h2:=hpre j oj hoj e he hb;exact (hlist e.on).2 ⟨by omega,by omega⟩
  .have hjs:=(Array.getElem?_eq_some_iff.1 hj).1;have hlt:k<j:=by
    rcases Nat.lt_trichotomy j k with g|g|g
    .have:=(hlist j).2 ⟨g,hjs⟩;have hjl:j<listed.size:=by omega
     simp [hjl] at hun this;rw[hun] at this;cases this
    .exact absurd g hne
    .exact g
   exact hpair k j o oj hlt h0 hj hno
  .refine zlc hQ hn hpre hpair l (k+1) _ C B' hsC (λj=>by have:=hl (j+1);simpa[Nat.add_assoc,Nat.add_comm 1 j] using this) (by simpa using hsz) (λj=>?_) hv;by_cases hjk:k=j
   .subst hjk;have:k<listed.size:=by omega
    simp [this];exact hkl
   .rw[getD_set_ne false hjk,hlist];omega
variable {n:Nat} {fp:Nat->Prop} {w0:Start}
theorem zcl{σ:zaM}{μ:zaJ}{Ds:Nat->Nat->Prop}{A:AS}{a:Act}{w:World}(h:Rel n fp w0 σ μ Ds A a w){o:Oper}{c:Bool}(hw:zbm ops A.fr o=some c):Region.wanted o (yielded ops a.tmps)=c:=by
 unfold zbm at hw;unfold Region.wanted;cases hg:o.guard with
 |none=>rw[hg] at hw;simpa using hw
 |some p=>
  obtain⟨j,want⟩:=p;rw[hg] at hw;simp only at hw ⊢;cases ht:gs ops j with
  |none=>rw[ht] at hw;cases hw
  |some t=>
   rw[ht] at hw;simp only at hw;have ht':(ops[j]?).bind (·.dst)=some t:=ht;split at hw
   .rename_i b e;have hr:=h.ev (.tmp t);rw[show evO A.fr (.tmp t)=lk A.fr t from rfl,e] at hr;have hr:=hr.inv_v;have hlt:t<a.tmps.size:=by
     rcases Nat.lt_or_ge t a.tmps.size with hh|hh
     .exact hh
     .exfalso;simp [Act.eval,hh,undef] at hr
    have hget:a.tmps[t]? =some (.bool b):=by simp [Act.eval,hlt] at hr ⊢;exact hr
    simp only[yielded,ht',Option.bind_some,hget];simp only[Option.some.injEq] at hw;rw[<-hw];cases b<;>cases want<;>rfl
   .rename_i cs e;have hr:=h.ev (.tmp t);rw[show evO A.fr (.tmp t)=lk A.fr t from rfl,e] at hr;have hr:=hr.inv_v;simp only[Option.some.injEq] at hw;rw[<-hw];simp only[yielded,ht',Option.bind_some];cases hget:a.tmps[t]? with
    |none=>simp
    |some v=>
     have:v=.tuple cs:=by simp [Act.eval,Array.getD_eq_getD_getElem?,hget] at hr;exact hr
     subst this;simp
   .cases hw
theorem Rel.same{σ:zaM}{μ:zaJ}{Ds:Nat->Nat->Prop}{A B:AS}{a:Act}{w:World}(h:Rel n fp w0 σ μ Ds A a w)(hs:zal A B):Rel n fp w0 σ μ Ds B a w:=by
 obtain⟨h2,h3⟩:=hs;refine⟨h.defers,h.size,?_,h.agree,h2▸h.mem,h.own,h.keeps,h.old,h.mono,h.gle,h.kout,h2▸h.klen⟩;intro t av ht;have hev:=h.ev (.tmp t);rw[show evO A.fr (.tmp t)=lk A.fr t from rfl,h3 t] at hev;simp only[lk,ht,Option.getD_some] at hev;exact hev
def zgt(n:Nat)(fp:Nat->Prop)(w0:Start)(K:AS->Prop):Act->World->Prop:=λa w=> ∃A σ μ Ds,K A/\Rel n fp w0 σ μ Ds A a w
theorem zl6{σ:zaM}{μ:zaJ}{Ds:Nat->Nat->Prop}{A:AS}{a:Act}{w:World}(h:Rel n fp w0 σ μ Ds A a w){pu:Bool}{o:Oper}{fr':List (Nat×AV)}(hfr: ∀t,lk fr' t=lk A.fr t)(hd: ∀t,o.dst=some t->t<n){K:AS->Prop}{Q:Exit->Act->World->Prop}
  (hv:vop P mt pu fr' A.mem o.op (λm v=>K (AS.put ⟨fr',m⟩ o.dst v))):o.wp P a w (zgt n fp w0 K) Q:=by
 have h':Rel n fp w0 σ μ Ds ⟨fr',A.mem⟩ a w:=h.same ⟨rfl,λt=>(hfr t).symm⟩;obtain⟨dst,op,ty,pos,after,guard⟩:=o;refine Oper.wp_mono ?_ (zpv h' (dst:=dst) (ty:=ty) (pos:=pos) (after:=after) (guard:=guard) hv);rintro a' w' ⟨m',av,x,σ',μ',Ds',rfl,hx,hrel,hK⟩;exact⟨_,σ',μ',Ds',hK,hrel.put dst hx hd⟩
theorem zcu{Q:Exit->Act->World->Prop}{K:AS->Prop}(hQ: ∀a w,zgt n fp w0 K a w->Q .normal a w): ∀(l:List Oper) (i:Nat) {A:AS} {σ:zaM} {μ:zaJ} {Ds:Nat->Nat->Prop} {a:Act} {w:World},
  (∀o∈l,∀t,o.dst=some t->t<n)->Rel n fp w0 σ μ Ds A a w->zcO P mt pf ops i l K A->wpList P ops Q l a w
 |[],i,A,σ,μ,Ds,a,w,_,h,hq=>hQ a w ⟨A,σ,μ,Ds,hq,h⟩
 |o::rest,i,A,σ,μ,Ds,a,w,hd,h,hq=>by
  obtain⟨fr',hfr,hv⟩:=zfY hq;unfold wpList;rcases hv with⟨hw,hv⟩|⟨hw,hv⟩
  .rw[if_pos (zcl h hw)];refine .inl (Oper.wp_mono ?_ (zl6 h hfr (hd o (List.mem_cons_self ..)) hv));rintro a' w' ⟨B,σ',μ',Ds',hK,hrel⟩;exact zcu hQ rest (i+1) (λo ho=>hd o (List.mem_cons_of_mem _ ho)) hrel hK
  .rw[if_neg (by rw[zcl h hw];simp)];have h':Rel n fp w0 σ μ Ds ⟨fr',A.mem⟩ a w:=h.same ⟨rfl,λt=>(hfr t).symm⟩;exact zcu hQ rest (i+1) (λo ho=>hd o (List.mem_cons_of_mem _ ho)) (h'.put_skip o.dst (hd o (List.mem_cons_self ..))) hv
theorem zb8{Q:AS->Prop}{Q':Exit->Act->World->Prop}(hQ: ∀a w,zgt n fp w0 Q a w->Q' .normal a w)(hd: ∀(i:Nat) (o:Oper) (t:Tmp),ops[i]? =some o->o.dst=some t->t<n):
  ∀(fuel:Nat) (listed:Array Bool) (A:AS) (σ:zaM) (μ:zaJ) (Ds:Nat->Nat->Prop) (a:Act) (w:World),Rel n fp w0 σ μ Ds A a w->aAny P mt pf ops Q fuel listed A->wpAny P .any ops Q' fuel listed a w
 |0,listed,A,σ,μ,Ds,a,w,h,hq=>⟨hq.1,hQ a w ⟨A,σ,μ,Ds,hq.2,h⟩⟩
 |fuel+1,listed,A,σ,μ,Ds,a,w,h,hq=>⟨λh0=>hQ a w ⟨A,σ,μ,Ds,hq.1 h0,h⟩,λi hi=>by
   have hq:=hq.2 i hi;unfold qOp at hq;unfold wpOp;split
   .rename_i ho;simp only[ho] at hq;exact zb8 hQ hd fuel _ A σ μ Ds a w h hq
   .rename_i o ho;simp only[ho] at hq;obtain⟨B,hy,hK⟩:=hq;rcases hy with⟨hw,hv⟩|⟨hw,rfl⟩
    .rw[if_pos (zcl h hw)];refine .inl (Oper.wp_mono ?_ (zl6 h (λ_=>rfl) (hd i o · ho) (K:=λA'=>B=A') hv));rintro a' w' ⟨B',σ',μ',Ds',rfl,hrel⟩;exact zb8 hQ hd fuel _ _ σ' μ' Ds' _ w' hrel hK
    .rw[if_neg (by rw[zcl h hw];simp)];exact zb8 hQ hd fuel _ _ σ μ Ds _ w (h.put_skip o.dst (hd i o · ho)) hK⟩
theorem zhb{σ:zaM}{μ:zaJ}{Ds:Nat->Nat->Prop}{A:AS}{a:Act}{w:World}{id:Nat}{Q:Exit->Act->World->Prop}{K:AS->Prop}(hm:P.follows .mixedOrders=true)(hB:zl3 P ops pf=true)
  (hd:(ops.all λo=>match o.dst with|some t=>decide (t<n)|none=>true)=true) (hQ: ∀a w,zgt n fp w0 K a w->Q .normal a w) (h:Rel n fp w0 σ μ Ds A a w) (hq:zcO P mt pf ops 0 ops.toList K A):(Code.region id ops true).wp P Q a w:=by
 simp only[zl3,Bool.and_eq_true,List.all_eq_true,List.mem_range] at hB;obtain⟨⟨hsel,h1⟩,h2⟩:=hB;refine wp_region_any hm ?_;have h1': ∀i o,ops[i]? =some o->(∀e∈o.after,Region.binds .any e=true->e.on<i)/\kd P (pf i) o.op≠4:=by
  intro i o ho;have:=h1 i (Array.getElem?_eq_some_iff.1 ho).1;rw[ho] at this;simp only[Bool.and_eq_true] at this;refine⟨λe he hb=>?_,by simpa using this.2⟩;have:=Array.all_eq_true_iff_forall_mem.1 this.1 e he;simpa[hb] using this
 have mono: ∀(l:List Oper) (i:Nat) (A:AS) (K':AS->Prop),(∀B,K B->K' B)->zcO P mt pf ops i l K A->(∀j o,l[j]? =some o->kd P (pf (i+j)) o.op≠4)->zcO P mt pf ops i l K' A:=by
  intro l
  induction l with
  |nil=>intro i A K' hk h _;exact hk _ h
  |cons o l ih=>
   intro i A K' hk h hn;obtain⟨fr,mem⟩:=A;have hrest: ∀B,zcO P mt pf ops (i+1) l K B->zcO P mt pf ops (i+1) l K' B:=λB hB=>ih (i+1) B K' hk hB (λj o ho=>by have:=hn (j+1) o (by simpa using ho);rw[show i+1+j=i+(j+1) by omega];exact this);have hno:=hn 0 o rfl;simp only[zhd,vone,vpt_eq,zi7] at h ⊢;split at h
   .rename_i hg;exact (zeL hno).mono2 (λm v hv=>hrest _ hv) h
   .rename_i hg;split at h
    .rename_i ht;simp only[zdx] at h ⊢;split at h
     .rename_i b e;exact⟨λhb=>(zeL hno).mono2 (λm v hv=>hrest _ hv) (h.1 hb),λhb=>hrest _ (h.2 hb)⟩
     .exact hrest _ h
     .exact h.elim
    .exact h.elim
 have key:=zlc (P:=P) (mt:=mt) (pf:=pf) (ops:=ops) (Q:=λA=> ∃B,zal B A/\K B) (λA B hs ⟨C,g1,g2⟩=>⟨C,g1.trans hs,g2⟩) (λi o ho=>(h1' i o ho).2) (λi o ho=>(h1' i o ho).1)
  (λi j oi oj hij hi hj hno=>by
   have:=h2 j (Array.getElem?_eq_some_iff.1 hj).1 i hij;simp only[Bool.or_eq_true] at this;rcases this with g|g
   .exact absurd (zoX g) hno
   .rw[hi,hj] at g;simpa[Bool.and_eq_true] using g)
  ops.toList 0 (Array.replicate ops.size false) A A (zal.refl A) (by simp) (by simp) (λj=>by simp [Array.getD_eq_getD_getElem?,Array.getElem?_replicate];split<;>simp) (mono ops.toList 0 A _ (λB hB=>⟨B,zal.refl B,hB⟩) hq (λj o ho=>(h1' _ o (by simpa using ho)).2))
 refine zb8 (fp:=fp) (w0:=w0) (Q:=λA=> ∃B,zal B A/\K B) (λa w ⟨A',σ',μ',Ds',⟨B,hs,hk⟩,hr⟩=>hQ a w ⟨B,σ',μ',Ds',hk,hr.same hs.symm⟩) ?_ _ _ A σ μ Ds a _ h.drew (by simpa using key);intro i o t ho ht;have:=Array.all_eq_true_iff_forall_mem.1 hd o (Array.mem_of_getElem? ho);rw[ht] at this;simpa using this
end
end Go.Proofs.YtimfnpjcedjmiadGreat
