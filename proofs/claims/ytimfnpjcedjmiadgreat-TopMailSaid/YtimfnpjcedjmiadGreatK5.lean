/- Lemmas. -/
import Derived.Test.YtimfnpjcedjmiadGreatK4
import Derived.Deep.Strs
set_option maxRecDepth 100000
set_option maxHeartbeats 64000000
set_option linter.all false
namespace Go.Proofs.YtimfnpjcedjmiadGreat
open Go.RowKit
def AS.le(k:Nat)(A B:AS):Prop:= ∀(n:Nat) (fp:Nat->Prop) (w0:Start) (σ:zaM) (μ:zaJ) (Ds:Nat->Nat->Prop) (a:Act) (w:World),w0.k=k->Rel n fp w0 σ μ Ds A a w-> ∃σ' μ' Ds',Rel n fp w0 σ' μ' Ds' B a w
theorem AS.le_refl(k:Nat)(A:AS):AS.le k A A:=λ_ _ _ σ μ Ds _ _ _ h=>⟨σ,μ,Ds,h⟩
theorem AS.le_trans{k:Nat}{A B C:AS}(h:AS.le k A B)(g:AS.le k B C):AS.le k A C:=λn fp w0 σ μ Ds a w hk hr=>
 let ⟨σ1,μ1,D1,h1⟩:=h n fp w0 σ μ Ds a w hk hr
 g n fp w0 σ1 μ1 D1 a w hk h1
def gOk(a b:Option Nat):Bool:=
 match a with
 |none=>true
 |some g=>match b with
  |none=>true
  |some g'=>okG g' g
def zdr(mem:List Res):Nat->Nat->List Nat->List Res->Bool
 |_,0,_,_=>true
 |j,k+1,is,rs=>match is with
  |i::is=>match rs with
   |r::rs=>match Nat.beq i j with
    |true=>match zd3 r with
     |true=>false
     |false=>match gOk (genM mem i) (genR r) with
      |true=>zdr mem (j+1) k is rs
      |false=>false
    |false=>false
   |[]=>false
  |[]=>false
theorem zeg{mem:List Res}: ∀{k j:Nat} {is:List Nat} {rs:List Res},zdr mem j k is rs=true->k<=rs.length/\ ∀i,i<k->is[i]? =some (j+i)/\rs[i]?.map zd3=some false/\ ∀r,rs[i]? =some r->gOk (genM mem (j+i)) (genR r)=true
 |0,j,is,rs,_=>⟨Nat.zero_le _,λi hi=>by omega⟩
 |k+1,j,[],rs,h=>by simp [zdr] at h
 |k+1,j,i::is,[],h=>by simp [zdr] at h
 |k+1,j,i::is,r::rs,h=>by
  unfold zdr at h;simp only at h;split at h
  .rename_i h1;have e:=Nat.eq_of_beq_eq_true h1;subst e;split at h
   .cases h
   .rename_i h2;split at h
    .rename_i hgk;obtain⟨h3,h4⟩:=zeg h;refine⟨by simp;omega,λq hq=>?_⟩;cases q with
     |zero=>exact⟨by simp,by simp [h2],λr' hr'=>by simp at hr';subst hr';exact hgk⟩
     |succ q=>
      obtain⟨h5,h6,h7⟩:=h4 q (by omega);simp only[List.getElem?_cons_succ];rw[show i+(q+1)=i+1+q by omega];exact⟨h5,h6,h7⟩
    .cases h
  .cases h
section
variable {P:Program} {n:Nat} {fp:Nat->Prop} {w0:Start} {σ:zaM} {μ:zaJ} {Ds:Nat->Nat->Prop} {A:AS} {a:Act} {w:World}
theorem zgn(h:Rel n fp w0 σ μ Ds A a w){ρ:List Nat}{m':List Res}(hp:zdr A.mem 0 w0.k ρ m'=true)(hM:RM A.mem m' ρ ρ m'):Gle w0.μ (subG μ ρ m'):=by
 obtain⟨_,hpar⟩:=zeg hp;obtain⟨_,hget⟩:=RM.get hM;intro i a0 h0;have hik:i<w0.k:=by
  rcases Nat.lt_or_ge i w0.k with g|g
  .exact g
  .rw[h.kout i g] at h0;cases h0
 obtain⟨hρ,hg,hgk⟩:=hpar i hik;rw[Nat.zero_add] at hρ hgk;cases hr':m'[i]? with
 |none=>rw[hr'] at hg;cases hg
 |some r'=>
  rw[hr'] at hg;simp only[Option.map_some,Option.some.injEq] at hg;obtain⟨i',r,h1,h2,h3⟩:=hget i r' hr';rw[hρ] at h1;obtain rfl:=Option.some.inj h1;obtain⟨y1,y2⟩:=h3.gen hg;obtain⟨an,x1,x2⟩:=h.mem.an h2 y1;obtain⟨an',z1,z2⟩:=h.gle i a0 h0;rw[x1] at z1;obtain rfl:=Option.some.inj z1;have hsub:subG μ ρ m' i=some (reG ((genR r').getD 0) an):=by simp [subG,hρ,x1,genM_eq,hr']
  refine⟨_,hsub,?_⟩;rcases x2 with⟨v,rfl,_⟩|⟨ao,nn,cap,gA,rfl,hgA⟩
  .exact z2
  .cases a0 with
   |fix v=>exact z2.elim
   |cur ao0 n0 cap0 g0=>
    have hz:=w0.zero i ao0 n0 cap0 g0 h0;subst hz;cases hgB:genR r' with
    |none=>rw[hgB,hgA] at y2;cases y2
    |some gB=>
     have hok:=hgk r' hr';rw[genM_eq,h2,hgB] at hok;simp only[Option.bind_some,hgA,gOk] at hok;refine⟨Nat.zero_le _,λe=>?_⟩;simp only[hgB,Option.getD_some] at e;subst e;have:gA=0:=by simpa[okG] using hok
     exact z2.2 this
theorem Rel.sub(h:Rel n fp w0 σ μ Ds A a w){ρ:List Nat}{m':List Res}{fr':List (Nat×AV)}(hnd:decide (ρ.Nodup)=true)(hp:zdr A.mem 0 w0.k ρ m'=true)(hM:RM A.mem m' ρ ρ m')(hF:RF A.mem m' ρ A.fr fr'):
  Rel n fp w0 σ (subG μ ρ m') (subD Ds ρ m') ⟨fr',m'⟩ a w:=by
 refine⟨h.defers,h.size,λt av ht=>?_,h.agree,h.mem.sub (of_decide_eq_true hnd) hM,λid b hb=>?_,h.keeps,h.old,h.mono,zgn h hp hM,h.kout,(zeg hp).1⟩
 .have hev:=h.ev (.tmp t);rw[show evO A.fr (.tmp t)=lk A.fr t from rfl] at hev;exact hev.sub h.mem (RF.get hF t av ht)
 .obtain⟨⟨i,_,h2⟩,_⟩:=hb;exact h.own i b h2
end
theorem zg4{k:Nat}{fr fr':List (Nat×AV)}{mem mem':List Res}(ρ:List Nat)(hnd:decide (ρ.Nodup)=true)(hp:zdr mem 0 k ρ mem'=true)(hM:RM mem mem' ρ ρ mem')(hF:RF mem mem' ρ fr fr'):AS.le k ⟨fr,mem⟩ ⟨fr',mem'⟩:=
 λn fp w0 σ μ Ds a w hk h=>⟨_,_,_,h.sub hnd (by rw[hk];exact hp) hM hF⟩
def AS.to(k:Nat)(A:AS)(y:AS->Prop):Prop:= ∀(n:Nat) (fp:Nat->Prop) (w0:Start) (σ:zaM) (μ:zaJ) (Ds:Nat->Nat->Prop) (a:Act) (w:World),w0.k=k->Rel n fp w0 σ μ Ds A a w-> ∃B σ' μ' Ds',y B/\Rel n fp w0 σ' μ' Ds' B a w
theorem AS.le.to{k:Nat}{A B:AS}{y:AS->Prop}(h:AS.le k A B)(hy:y B):AS.to k A y:=λn fp w0 σ μ Ds a w hk hr=>
 let ⟨σ1,μ1,D1,h1⟩:=h n fp w0 σ μ Ds a w hk hr
 ⟨B,σ1,μ1,D1,hy,h1⟩
theorem AS.le.to2{k:Nat}{A B:AS}{y:AS->Prop}(h:AS.le k A B)(g:AS.to k B y):AS.to k A y:=λn fp w0 σ μ Ds a w hk hr=>
 let ⟨σ1,μ1,D1,h1⟩:=h n fp w0 σ μ Ds a w hk hr
 g n fp w0 σ1 μ1 D1 a w hk h1
inductive StopSeq (k id:Nat) (x:(AS->Prop)->AS->Prop) (y:AS->Prop) (A:AS):Prop
 |mk (h:x (λA'=> ∃B,AS.le k A' B/\y B) A):StopSeq k id x y A
 |mkE (h:x (λA'=>AS.to k A' y) A):StopSeq k id x y A
inductive StopLoop (k:Nat) (step:(AS->Prop)->AS->Prop) (A:AS):Prop
 |mk (I:Nat->AS->Prop) (h0: ∃m B,AS.le k A B/\I m B) (h1: ∀m A',I m A'->step (λB=> ∃m' B',m'<m/\AS.le k B B'/\I m' B') A'):StopLoop k step A
def zfM:Code->Option Nat
 | .region id _ _=>some id
 | .seq x _=>zfM x
 | .block _ c=>zfM c
 | .loop c=>zfM c
 | .scope c=>zfM c
 |_=>none
def hasN:List Nat->Nat->Bool
 |[],_=>false
 |a::l,i=>match Nat.beq a i with
  |true=>true
  |false=>hasN l i
def cutAt(cuts:List Nat)(c:Code):Option Nat:=
 match zfM c with
 |some i=>match hasN cuts i with
  |true=>some i
  |false=>none
 |none=>none
def vawp(P:Program)(mt:Mut)(k:Nat)(cuts:List Nat)(c:Code):(AS->Prop)->(Nat->AS->Prop)->(AS->Prop)->AS->Prop:=
 Code.rec (motive:=λ_=>(AS->Prop)->(Nat->AS->Prop)->(AS->Prop)->AS->Prop)
  (λK _ _ A=>K A)
  (λ_ ops draw K _ _ A=>match draw with
   |true=>zcO P mt (pfOf P ops (bef ops)) ops 0 ops.toList K A
   |false=>zcO P mt (λ_=>false) ops 0 ops.toList K A)
  (λ_ y ix iy K X R A=>match cutAt cuts y with
   |some i=>StopSeq k i (λK'=>ix K' X R) (iy K X R) A
   |none=>ix (iy K X R) X R A)
  (λc _ _ ix iy K X R A=>evV A.fr c λv=>match v with
   | .v (.bool b)=>(b=true->ix K X R A)/\(b=false->iy K X R A)
   |_=>False)
  (λid _ ic K X R A=>ic K (λi A=>match Nat.beq i id with
   |true=>K A
   |false=>X i A) R A)
  (λ_ ic _ X R A=>StopLoop k (λK'=>ic K' X R) A)
  (λ_ _ _ _ _ _ _ _ _ _=>False)
  (λid _ X _ A=>X id A)
  (λ_ ic K X R A=>ic K X R A)
  (λ_ K _ _ A=>K A)
  (λ_ _ _ _ _=>False)
  (λ_ _ R A=>R A)
  (λ_ _ _ _ _=>False) c
section
variable {P:Program} {mt:Mut} {k:Nat} {cuts:List Nat} {K:AS->Prop} {X:Nat->AS->Prop} {R:AS->Prop} {A:AS} {x y:Code} {c:Operand}
theorem zko{id:Nat}{ops:Array Oper}{draw:Bool}:vawp P mt k cuts (.region id ops draw) K X R A=match draw with
   |true=>zcO P mt (pfOf P ops (bef ops)) ops 0 ops.toList K A
   |false=>zcO P mt (λ_=>false) ops 0 ops.toList K A:=rfl
theorem vawp_seq:vawp P mt k cuts (.seq x y) K X R A=match cutAt cuts y with
   |some i=>StopSeq k i (λK'=>vawp P mt k cuts x K' X R) (vawp P mt k cuts y K X R) A
   |none=>vawp P mt k cuts x (vawp P mt k cuts y K X R) X R A:=rfl
theorem zqH:vawp P mt k cuts (.cond c x y) K X R A=evV A.fr c λv=>match v with
   | .v (.bool b)=>(b=true->vawp P mt k cuts x K X R A)/\(b=false->vawp P mt k cuts y K X R A)
   |_=>False:=rfl
end
def zbo(P:Program)(n:Nat):Code->Bool
 | .region _ ops draw=>(ops.all λo=>match o.dst with|some t=>decide (t<n)|none=>true)&&(!draw||zl3 P ops (pfOf P ops (bef ops)))
 | .seq x y=>zbo P n x&&zbo P n y
 | .cond _ x y=>zbo P n x&&zbo P n y
 | .block _ c=>zbo P n c
 | .loop c=>zbo P n c
 | .scope c=>zbo P n c
 |_=>true
section
variable {P:Program} {mt:Mut} {n k:Nat} {cuts:List Nat} {fp:Nat->Prop} {w0:Start}
def CPost(n:Nat)(fp:Nat->Prop)(w0:Start)(K:AS->Prop)(X:Nat->AS->Prop)(R:AS->Prop):Exit->Act->World->Prop
 | .normal,a,w=>zgt n fp w0 K a w
 | .exit id,a,w=>zgt n fp w0 (X id) a w
 | .ret,a,w=>zgt n fp w0 R a w
 |_,_,_=>False
theorem zcV{J:Nat->Prop}(h: ∃n,J n): ∃n,J n/\ ∀m,m<n-> ¬J m:=by
 obtain⟨n,hn⟩:=h
 induction n using Nat.strongRecOn with
 |_ n ih=>
  by_cases hm: ∃m,m<n/\J m
  .obtain⟨m,h1,h2⟩:=hm;exact ih m h1 h2
  .exact⟨n,hn,λm h1 h2=>hm ⟨m,h1,h2⟩⟩
theorem zae(hm:P.follows .mixedOrders=true)(hk:w0.k=k): ∀(c:Code) {K:AS->Prop} {X:Nat->AS->Prop} {R:AS->Prop} {A:AS} {σ:zaM} {μ:zaJ} {Ds:Nat->Nat->Prop} {a:Act} {w:World},zbo P n c=true->Rel n fp w0 σ μ Ds A a w->vawp P mt k cuts c K X R A->c.wp P (CPost n fp w0 K X R) a w
 | .skip,K,X,R,A,σ,μ,Ds,a,w,_,h,hq=>wp_skip ⟨A,σ,μ,Ds,hq,h⟩
 | .label l,K,X,R,A,σ,μ,Ds,a,w,_,h,hq=>wp_label ⟨A,σ,μ,Ds,hq,h⟩
 | .exit id,K,X,R,A,σ,μ,Ds,a,w,_,h,hq=>wp_exit ⟨A,σ,μ,Ds,hq,h⟩
 | .ret,K,X,R,A,σ,μ,Ds,a,w,_,h,hq=>wp_ret ⟨A,σ,μ,Ds,hq,h⟩
 | .goto l,K,X,R,A,σ,μ,Ds,a,w,_,h,hq=>hq.elim
 | .refuse s,K,X,R,A,σ,μ,Ds,a,w,_,h,hq=>hq.elim
 | .rangeFunc f p x y,K,X,R,A,σ,μ,Ds,a,w,_,h,hq=>hq.elim
 | .region id ops draw,K,X,R,A,σ,μ,Ds,a,w,hok,h,hq=>by
  simp only[zbo,Bool.and_eq_true,Bool.or_eq_true,Bool.not_eq_true'] at hok;obtain⟨h1,h2⟩:=hok;rw[zko] at hq;cases draw with
  |true=>exact zhb hm (by simpa using h2) h1 (λa w he=>he) h hq
  |false=>
   refine wp_region_list (zcu (λa w he=>he) _ 0 ?_ h hq);intro o ho t ht;have:=Array.all_eq_true_iff_forall_mem.1 h1 o (Array.mem_toList_iff.1 ho);rw[ht] at this;simpa using this
 | .seq x y,K,X,R,A,σ,μ,Ds,a,w,hok,h,hq=>by
  simp only[zbo,Bool.and_eq_true] at hok;rw[vawp_seq] at hq;split at hq
  .cases hq with
   |mk hq=>
    refine wp_seq (wp_mono (zae hm hk x hok.1 h hq) ?_);intro e a' w' he;cases e with
    |normal=>
     obtain⟨A',σ',μ',Ds',⟨B,hle,hK⟩,hr⟩:=he;obtain⟨σ2,μ2,D2,hr2⟩:=hle n fp w0 σ' μ' Ds' a' w' hk hr;exact zae hm hk y hok.2 hr2 hK
    |_=>exact he
   |mkE hq=>
    refine wp_seq (wp_mono (zae hm hk x hok.1 h hq) ?_);intro e a' w' he;cases e with
    |normal=>
     obtain⟨A',σ',μ',Ds',hto,hr⟩:=he;obtain⟨B,σ2,μ2,D2,hK,hr2⟩:=hto n fp w0 σ' μ' Ds' a' w' hk hr;exact zae hm hk y hok.2 hr2 hK
    |_=>exact he
  .refine wp_seq (wp_mono (zae hm hk x hok.1 h hq) ?_);intro e a' w' he;cases e with
   |normal=>
    obtain⟨A',σ',μ',Ds',hK,hr⟩:=he;exact zae hm hk y hok.2 hr hK
   |_=>exact he
 | .cond c x y,K,X,R,A,σ,μ,Ds,a,w,hok,h,hq=>by
  simp only[zbo,Bool.and_eq_true] at hok;rw[zqH] at hq;simp only[evV_eq] at hq;split at hq
  .rename_i b hb;have hc:a.eval c=.bool b:=by have:=h.ev c;rw[hb] at this;exact this.inv_v
   refine wp_cond hc ?_;cases b with
   |true=>exact zae hm hk x hok.1 h (hq.1 rfl)
   |false=>exact zae hm hk y hok.2 h (hq.2 rfl)
  .exact hq.elim
 | .block id c,K,X,R,A,σ,μ,Ds,a,w,hok,h,hq=>by
  refine wp_block (wp_mono (zae hm hk c hok h hq) ?_);intro e a' w' he;cases e with
  |exit i=>
   obtain⟨A',σ',μ',Ds',hK,hr⟩:=he;simp only[Exit.inBlock];split
   .rename_i hi;subst hi;simp only[Nat.beq_refl] at hK;exact⟨A',σ',μ',Ds',hK,hr⟩
   .exact Y80
  |_=>exact he
 | .scope c,K,X,R,A,σ,μ,Ds,a,w,hok,h,hq=>by
  refine wp_scope_straight (wp_mono (zae hm hk c hok h hq) ?_);intro e a' w' he;cases e<;>exact he
 | .loop c,K,X,R,A,σ,μ,Ds,a,w,hok,h,hq=>by
  obtain⟨I,⟨n0,B,hle,hI⟩,hround⟩:=hq;have J0: ∃j B σ μ Ds,I j B/\Rel n fp w0 σ μ Ds B a w:=by
   exact Y108
  let J:Act->World->Nat->Prop:=λa w j=> ∃B σ μ Ds,I j B/\Rel n fp w0 σ μ Ds B a w
  let m:Act->World->Nat:=λa w=> @dite _ (∃j,J a w j) (Classical.propDecidable _) (λh=>Classical.choose (zcV h)) (λ_=>0)
  have hm1: ∀a w,(∃j,J a w j)->J a w (m a w)/\ ∀j,j<m a w-> ¬J a w j:=by
   intro a w h;have:=Classical.choose_spec (zcV h);simp only[m,dif_pos h];exact this
  refine wp_loop (λa w=> ∃j,J a w j) m J0 ?_;intro a w hJ;obtain⟨⟨B,σ,μ,Ds,hI,hr⟩,hmin⟩:=hm1 a w hJ;refine wp_mono (zae hm hk c hok hr (hround _ B hI)) ?_;intro e a' w' he;cases e with
  |normal=>
   obtain⟨A',σ',μ',Ds',⟨j,B',hj,hle',hI'⟩,hr'⟩:=he;obtain⟨σ2,μ2,D2,hr2⟩:=hle' n fp w0 σ' μ' Ds' a' w' hk hr';have hJ':J a' w' j:=⟨B',σ2,μ2,D2,hI',hr2⟩;refine⟨⟨j,hJ'⟩,?_⟩;have:=(hm1 a' w' ⟨j,hJ'⟩).2;rcases Nat.lt_or_ge j (m a' w') with g|g
   .exact absurd hJ' (this j g)
   .omega
  |_=>exact he
end
inductive StopRet (k:Nat) (mem:List Res) (v r:AV) (m':List Res):Prop
 |mk (ρ:List Nat) (hnd:decide (ρ.Nodup)=true) (hp:zdr mem 0 k ρ m'=true) (hM:RM mem m' ρ ρ m') (hr:RK mem m' ρ v r):StopRet k mem v r m'
def zkj(P:Program)(fr:List (Nat×AV))(mem:List Res)(x:ResultVar)(K:AV->Prop):Prop:=
 match x with
 | .tmp t=>lkK fr t K
 | .cell t u=>lkK fr t λv=>match v with
  | .box id off=>ldV (za7 P u) (.box id off) mem λv=>fz v K
  |_=>False
def zkP(P:Program)(fr:List (Nat×AV))(mem:List Res):List ResultVar->(List AV->Prop)->Prop
 |[],K=>K []
 |x::l,K=>zkj P fr mem x λv=>zkP P fr mem l λvs=>K (v::vs)
def vret(P:Program)(k:Nat)(rs:List ResultVar)(r:AV)(m':List Res)(A:AS):Prop:=
 match rs with
 |[x]=>zkj P A.fr A.mem x λv=>StopRet k A.mem v r m'
 |rs=>zkP P A.fr A.mem rs λl=>StopRet k A.mem (.tup l) r m'
section
variable {P:Program} {n:Nat} {fp:Nat->Prop} {w0:Start} {σ:zaM} {μ:zaJ} {Ds:Nat->Nat->Prop} {A:AS} {a:Act} {w:World}
def zj6(tmps:Array Value):ResultVar->Sem Value
 | .tmp t=>pure (tmps.getD t undef)
 | .cell x t=>do loadVar t (<-asAddr (tmps.getD x undef))
theorem zmk(fn:Func)(tmps:Array Value):results fn tmps=(do
  let vs<-fn.results.mapM (zj6 tmps)
  pure (if h:vs.size=1 then vs[0] else .tuple vs)):=by
 unfold results;congr 1
theorem res_run(h:Rel n fp w0 σ μ Ds A a w){x:ResultVar}{K:AV->Prop}(hq:zkj P A.fr A.mem x K): ∃y av,(zj6 a.tmps x).run P w=.ok y w/\RepV σ μ av y/\K av:=by
 cases x with
 |tmp t=>
  simp only[zkj,zdx] at hq;exact⟨_,_,rfl,h.ev (.tmp t),hq⟩
 |cell x t=>
  simp only[zkj,zdx] at hq;split at hq
  .rename_i id off e;simp only[fz_eq] at hq;have hx:=h.ev (.tmp x);rw[show evO A.fr (.tmp x)=lk A.fr x from rfl,e] at hx;obtain⟨b,hb,hmu⟩:=hx.inv_box;have hx':RepV σ μ (.box id off) (a.eval (.tmp x)):=hx;obtain⟨y,av,h1,h2,h3⟩:=zlz (P:=P) h hx' hq;refine⟨y,av,?_,h2,h3⟩;have hb':a.tmps.getD x undef=.pointer (some ⟨b,off,none⟩):=hb;rw[hb] at h1;simp only[zj6,hb',asAddr,Sem.run_bind,Sem.run_pure,Result.andThen_ok];simpa[Instr.loadAt,Instr.sureAddr,Sem.run_bind,Sem.run_pure,Result.andThen_ok] using h1
  .exact hq.elim
theorem zl1(h:Rel n fp w0 σ μ Ds A a w): ∀{rs:List ResultVar} {K:List AV->Prop},zkP P A.fr A.mem rs K-> ∃ys avs,(rs.mapM (zj6 a.tmps)).run P w=.ok ys w/\ys.length=rs.length/\avs.length=rs.length/\(∀(i:Nat) (av:AV) (y:Value),avs[i]? =some av->ys[i]? =some y->RepV σ μ av y)/\K avs
 |[],K,hq=>⟨[],[],by simp [Sem.run_pure],rfl,rfl,λi av y h=>by simp at h,hq⟩
 |x::rs,K,hq=>by
  obtain⟨y,av,h1,h2,h3⟩:=res_run h hq;obtain⟨ys,avs,g1,g2,g3,g4,g5⟩:=zl1 h h3;refine⟨y::ys,av::avs,by simp [Sem.run_bind,h1,g1,Result.andThen_ok,Sem.run_pure],by simp [g2],by simp [g3],λi av' y' e1 e2=>?_,g5⟩;cases i with
  |zero=>simp at e1 e2;subst e1 e2;exact h2
  |succ i=>exact g4 i av' y' (by simpa using e1) (by simpa using e2)
theorem zkE(h:Rel n fp w0 σ μ Ds A a w){fn:Func}{r:AV}{m':List Res}(hr:vret P w0.k fn.results.toList r m' A): ∃x v,(results fn a.tmps).run P w=.ok x w/\RepV σ μ v x/\StopRet w0.k A.mem v r m':=by
 rw[zmk];have key: ∀{K:List AV->Prop},zkP P A.fr A.mem fn.results.toList K-> ∃ys avs,(fn.results.mapM (zj6 a.tmps)).run P w=.ok ys w/\ys.size=fn.results.size/\avs.length=fn.results.size/\(∀(i:Nat) (av:AV) (y:Value),avs[i]? =some av->ys[i]? =some y->RepV σ μ av y)/\K avs:=by
  intro K hq;obtain⟨ys,avs,g1,g2,g3,g4,g5⟩:=zl1 h hq;refine⟨ys.toArray,avs,?_,by simpa using g2,by simpa using g3,λi av y e1 e2=>g4 i av y e1 (by simpa using e2),g5⟩;rw[Array.mapM_eq_mapM_toList];simp only[Sem.run_bind,map_eq_pure_bind,g1,Result.andThen_ok,Sem.run_pure]
 unfold vret at hr;split at hr
 .rename_i x hx;have hq:zkP P A.fr A.mem fn.results.toList (λl=> ∃v,l=[v]/\StopRet w0.k A.mem v r m'):=by
   rw[hx];unfold zkP;unfold zkP;cases x with
   |tmp t=>simp only[zkj,zdx] at hr ⊢;exact⟨_,rfl,hr⟩
   |cell t u=>
    simp only[zkj,zdx] at hr ⊢;split at hr
    .simp only[fz_eq] at hr ⊢;exact zl4.mono (λv hv=>⟨v,rfl,hv⟩) hr
    .exact hr.elim
  obtain⟨ys,avs,g1,g2,g3,g4,v,rfl,g5⟩:=key hq;have hs:ys.size=1:=by rw[g2];simpa using g3.symm
  refine⟨ys[0],v,?_,g4 0 v _ rfl (by simp [hs]),g5⟩;simp [Sem.run_bind,g1,Result.andThen_ok,hs,Sem.run_pure]
 .rename_i hne;obtain⟨ys,avs,g1,g2,g3,g4,g5⟩:=key hr;have hs:ys.size≠1:=by
   rw[g2];intro e;have:fn.results.toList.length=1:=by simpa using e
   cases hl:fn.results.toList with
   |nil=>rw[hl] at this;simp at this
   |cons x l=>cases l with
    |nil=>exact hne x hl
    |cons=>rw[hl] at this;simp at this
  refine⟨.tuple ys,.tup avs,?_,.tup _ _ ys (g3.trans g2.symm) g4,g5⟩;simp [Sem.run_bind,g1,Result.andThen_ok,hs,Sem.run_pure]
end
def zf1:Nat->List AV->List (Nat×AV)
 |_,[]=>[]
 |i,a::l=>(i,a)::zf1 (i+1) l
theorem znE(l:List AV): ∀i t,look (zf1 i l) t=if i<=t then l[t-i]? else none:=by
 induction l with
 |nil=>intro i t;simp [zf1,look]
 |cons a l ih=>
  intro i t;simp only[zf1,look];by_cases h:i=t
  .subst h;simp
  .rw[if_neg h,ih];by_cases h2:i+1<=t
   .rw[if_pos h2,if_pos (by omega),show t-i=t-(i+1)+1 by omega,List.getElem?_cons_succ]
   .rw[if_neg h2,if_neg (by omega)]
theorem fn_of{P:Program}(hm:P.follows .mixedOrders=true)(mt:Mut)(cuts:List Nat){f:FuncId}{fn:Func}{c:Code}{args:List AV}{m:List Res}{r:AV}{m':List Res}(hf:P.funcs[f]? =some fn)(hb:fn.body=some c)(hname:(fn.name=="runtime.NumGoroutine")=false)
  {n:Nat} (hn:fn.ntmps=n) (hle:Nat.ble args.length n=true) {rs:List ResultVar} (hrs:fn.results.toList=rs) (h0:gen0 m=true) (hok:zbo P n c=true)
  (h:vawp P mt m.length cuts c (vret P m.length rs r m') (λ_ _=>False) (vret P m.length rs r m') ⟨zf1 0 args,m⟩):Fn P f args m r m':=by
 subst hn hrs;refine⟨⟨fn,hf,by rw[hb];rfl,hname⟩,λw σ μ Ds vs hag hmem hlen hargs=>?_⟩;have hle:=Nat.le_of_ble_eq_true hle;refine calls_of_wp hf hb ?_;let w0:Start:=⟨w,σ,μ,m.length,λi ao n cap g hi=>by
  have hlt:i<m.length:=by
   exact Y84
  obtain⟨z1,z2⟩:=zdf h0 i _ (List.getElem?_eq_getElem hlt);obtain⟨an,x1,x2⟩:=MemOk.an (A:=⟨[],m⟩) hmem (List.getElem?_eq_getElem hlt) z1;rw[hi] at x1;obtain rfl:=Option.some.inj x1;rcases x2 with⟨v,e,_⟩|⟨_,_,_,gA,e,hg⟩
  .cases e
  .cases e;rw[hg] at z2;exact z2⟩
 have hrel:Rel fn.ntmps (λb=> ∃id,Ds id b) w0 σ μ Ds ⟨zf1 0 args,m⟩ { tmps:=vs++Array.replicate (fn.ntmps-vs.size) undef,defers:=[] } w:=by
  exact Y22
 refine wp_mono (zae hm rfl c hok hrel h) ?_;have fin: ∀a' w',zgt fn.ntmps (λb=> ∃id,Ds id b) w0 (vret P m.length fn.results.toList r m') a' w'->a'.defers=[]/\ ∃v,(results fn a'.tmps).run P w'=.ok v w' ∧
   ∃x σ' μ' Ds',(Ending.returned v:Ending)=.returned x/\Post σ μ Ds w r m' x σ' μ' Ds' w':=by
  rintro a' w' ⟨A,σ',μ',Ds',hr,hrel⟩;obtain⟨x,v,h1,h2,ρ,hnd,hp,hM,hK⟩:=zkE hrel hr;refine⟨hrel.defers,x,h1,x,σ',subG μ' ρ m',subD Ds' ρ m',rfl,⟨h2.sub hrel.mem hK,hrel.mem.sub (of_decide_eq_true hnd) hM,zgn hrel hp hM,hrel.agree,hrel.keeps,λb o hb hf=>hrel.old b o hb hf,hrel.mono,λid b hb=>?_⟩⟩;obtain⟨⟨i,_,h4⟩,_⟩:=hb;exact hrel.own i b h4
 intro e a' w' he;cases e with
 |normal=>exact fin a' w' he
 |ret=>exact fin a' w' he
 |exit id=>obtain⟨A,σ',μ,Ds,hr,hrel⟩:=he;exact hr.elim
 |_=>exact he.elim
end Go.Proofs.YtimfnpjcedjmiadGreat
namespace Go.Proofs.YtimfnpjcedjmiadGreat
open Go.RowKit
theorem zaA:Tryz.prog.follows .mixedOrders=true:=by kernel_rfl
theorem lpG{k:Nat}{step:(AS->Prop)->AS->Prop}{A:AS}{S:Type}(B:S->AS)(ok:S->Prop)(meas:S->Nat)(s0:S)(h0:ok s0)(hle:AS.le k A (B s0))
  (hr: ∀s,ok s->step (λB'=> ∃m' B'',m'<meas s/\AS.le k B' B''/\ ∃s',ok s'/\meas s'=m'/\B s'=B'') (B s)):StopLoop k step A:=
 ⟨λm A'=> ∃s,ok s/\meas s=m/\B s=A',⟨meas s0,B s0,hle,s0,h0,rfl,rfl⟩,λm A' ⟨s,hs,hm,hB⟩=>by subst hm hB;exact hr s hs⟩
theorem zaU{k m:Nat}{B':AS}{S:Type}{B:S->AS}{ok:S->Prop}{meas:S->Nat}(s':S)(hok:ok s')(hlt:meas s'<m)(hle:AS.le k B' (B s')):
  ∃m' B'',m'<m/\AS.le k B' B''/\ ∃s',ok s'/\meas s'=m'/\B s'=B'':=⟨_,_,hlt,hle,s',hok,rfl,rfl⟩
theorem cutG{k id:Nat}{x:(AS->Prop)->AS->Prop}{y:AS->Prop}{A:AS}(h:x (λA'=> ∃B,AS.le k A' B/\y B) A):StopSeq k id x y A:=.mk h
theorem zeb{k:Nat}{fr:List (Nat×AV)}{mem:List Res}(t E sz:Nat)(h:lk fr t=.v (.slice none 0 0)):AS.le k ⟨fr,mem⟩ ⟨(t,.sl sz [] (some (mem.length,0)))::fr,mem++[.grow E sz 0]⟩:=by
 intro n fp w0 σ μ Ds a w hk hr;have hnew:=hr.newGrow (E:=E) (sz:=sz) (m:=0) (ao:=none) (cap:=0) (xs:=[]) (Nat.le_refl _) rfl rfl rfl (λ_ _=>rfl) ⟨by simp,.inl ⟨rfl,rfl⟩⟩ (λk hk=>by cases hk);refine⟨_,_,_,hnew.defers,hnew.size,λu av hu=>?_,hnew.agree,hnew.mem,hnew.own,hnew.keeps,hnew.old,hnew.mono,hnew.gle,hnew.kout,hnew.klen⟩;simp only[look] at hu;split at hu
 .rename_i e;subst e;obtain rfl:=Option.some.inj hu;have hv:=hr.ev (.tmp t);rw[show evO fr (.tmp t)=lk fr t from rfl,h] at hv;rw[show a.tmps.getD t undef=_ from hv.inv_v];exact .sl _ sz [] _ none 0 0 0 (λ_ _=>undef) (Nat.le_refl _) (by decide) (.inl rfl) (λr hr=>by simp at hr) (λi j r av g=>by simp at g) (λi j r av g=>by simp at g) (λi j r av g=>by simp at g) (λid' g' e'=>by cases e';exact⟨_,updG_self,An.le_refl _⟩)
 .exact hnew.frame u av hu
theorem zkW{k:Nat}{fr:List (Nat×AV)}{mem:List Res}(t:Nat)(f:Bool)(E sz:Nat)(h:lk fr t=.v (.slice none 0 0)):AS.le k ⟨fr,mem⟩ ⟨(t,.arr mem.length 0 0)::fr,mem++[.arr f E sz 0 []]⟩:=by
 intro n fp w0 σ μ Ds a w hk hr;have hnew:=hr.newArr (E:=E) (sz:=sz) (f:=f) (rows:=[]) (ao:=none) (cap:=0) (xs:=[]) (Nat.le_refl _) rfl rfl rfl (λ_ _=>rfl) ⟨by simp,.inl ⟨rfl,rfl⟩⟩ (λk hk=>by cases hk) (λr hr=>by simp at hr) (λi j r av g=>by simp at g);refine⟨_,_,_,hnew.defers,hnew.size,λu av hu=>?_,hnew.agree,hnew.mem,hnew.own,hnew.keeps,hnew.old,hnew.mono,hnew.gle,hnew.kout,hnew.klen⟩;simp only[look] at hu;split at hu
 .rename_i e;subst e;obtain rfl:=Option.some.inj hu;have hv:=hr.ev (.tmp t);rw[show evO fr (.tmp t)=lk fr t from rfl,h] at hv;rw[show a.tmps.getD t undef=_ from hv.inv_v];exact .arr _ _ 0 0 none 0 0 _ (Nat.le_refl _) (Nat.le_refl _) (by decide) updG_self (An.le_refl _)
 .exact hnew.frame u av hu
theorem zap{α:Type}{l:List α}{f:α->List AV}{k:Nat}{K:AV->Prop}(h:k<l.length)(hk:K (.adr (f l[k]))):StopIdx (l.map f) (k:Int) K:=
 ⟨f l[k],by omega,by simp [h],hk⟩
theorem zaa{α:Type}{l:List α}{f:α->List AV}{i:Int}{K:AV->Prop}(h0:0<=i)(h:i.toNat<l.length)(hk:K (.adr (f l[i.toNat]))):StopIdx (l.map f) i K:=
 ⟨f l[i.toNat],h0,by simp [h],hk⟩
theorem zf4{α:Type}{l:List α}{f:α->List AV}{k:Nat}{K:List AV->Prop}(h:k<l.length)(hk:K (f l[k])):StopRow (l.map f) k K:=
 ⟨f l[k],by simp [h],hk⟩
theorem zi0{P:Program}{f:FuncId}{args:List AV}{m:List Res}{r:AV}{m':List Res}(he:zlq P f)(i:Nat){sz:Nat}{rows:List (List AV)}{o:Option (Nat×Nat)}(ha:args[i]? =some (.sl sz rows o))(h:rows.length<=maxLen->Fn P f args m r m'):Fn P f args m r m':=by
 refine⟨he,λw σ μ Ds vs hag hmem hlen hargs=>?_⟩;have hi:i<vs.size:=by rw[hlen];exact (List.getElem?_eq_some_iff.1 ha).1
 have:=hargs i _ vs[i] ha (Array.getElem?_eq_getElem hi);refine (h ?_).2 w σ μ Ds vs hag hmem hlen hargs;generalize vs[i]=x at this;cases this with
 |sl _ _ _ _ ao cap b off f hcap hmax=>exact Nat.le_trans hcap hmax
theorem zaz(s:ByteArray)(i:Nat):zaG s i<256:=by
 unfold zaG;exact UInt8.toNat_lt _
theorem wrap_byte(s:ByteArray)(i:Nat):IntKind.i64.wrap (zaG s i:Int)=zaG s i:=by
 have:=zaz s i;exact zc0 (by unfold In64;omega)
theorem GLt{p:Prop}(h:p:=by (first|(exact rfl)|(decide)|omega|(unfold In64;omega)|(simp only[wrap_byte,Int.reduceToNat,Int.toNat_natCast,In64];omega)|(simp only[maxLen,Fits,viewR,viewL,AV.view,List.length_map,List.length_append,List.length_cons,List.length_nil];omega)|(simp [viewR,viewL,AV.view];done)|(unfold Fits maxLen;simp;done)|fail)):p:=h
theorem neg_tt:neg true=false:=rfl
theorem neg_ff:neg false=true:=rfl
theorem neg_t{b:Bool}:(neg b=true)=(b=false):=by cases b<;>simp [neg]
theorem neg_f{b:Bool}:(neg b=false)=(b=true):=by cases b<;>simp [neg]
theorem vis:(∀(s:ByteArray) (i:Nat),IntKind.i64.wrap (zaG s i:Int)=zaG s i)/\(∀n:Nat,Int.toNat (n:Int)=n)/\((¬True)=False)/\(neg true=false)/\(neg false=true)/\(∀b:Bool,(neg b=true)=(b=false))/\(∀b:Bool,(neg b=false)=(b=true)) ∧
  (∀(p:Prop) [Decidable p],(decide p=true)=p)/\(∀(p:Prop) [Decidable p],(decide p=false)= ¬p)/\(∀(α:Type) [BEq α] [LawfulBEq α] (a b:α),((a==b)=true)=(a=b))/\(∀(α:Type) [BEq α] [LawfulBEq α] (a b:α),((a==b)=false)= ¬a=b) ∧
  (∀(α:Type) [BEq α] [LawfulBEq α] (a b:α),((a != b)=true)= ¬a=b)/\(∀(α:Type) [BEq α] [LawfulBEq α] (a b:α),((a != b)=false)=(a=b))/\(∀b:Bool,((!b)=true)=(b=false))/\(∀b:Bool,((!b)=false)=(b=true)) ∧
  (∀(α:Type) (a b:α),(a≠b)= ¬a=b)/\(∀p:Prop,(¬ ¬p)=p)/\(∀a b:Int,(¬a<b)=(b<=a))/\(∀a b:Int,(¬a<=b)=(b<a))/\(∀(α β:Type) (f:α->β) (l:List α),(l.map f).length=l.length):=
 ⟨wrap_byte,Int.toNat_natCast,not_true_eq_false,neg_tt,neg_ff,λ_=>neg_t,λ_=>neg_f,λ_=>decide_eq_true_eq,λ_=>propext decide_eq_false_iff_not,λ_ _ _ _ _=>propext beq_iff_eq,λ_ _ _ _ _=>propext beq_eq_false_iff_ne,λ_ _ _ _ _=>propext bne_iff_ne,λ_ _ _ _ _=>propext bne_eq_false_iff_eq,
  λb=>by cases b<;>simp,λb=>by cases b<;>simp,λ_ _ _=>ne_eq _ _,λ_=>propext Classical.not_not,λ_ _=>propext Int.not_lt,λ_ _=>propext Int.not_le,λ_ _ _ _=>List.length_map _⟩
structure Tw (a b:Prop):Prop where
 l:a
 r:b
theorem Tw.red{A B QA QB:Prop}(q:Tw QA QB)(a:QA->A)(b:QB->B):A/\B:=⟨a q.1,b q.2⟩
theorem Tw.tru{A:Prop}(_:True)(a:A):A:=a
theorem Vc.red{p:Prop}(q:p):Vc p:=⟨q⟩
structure Im (c B:Prop):Prop where
 f:c->B
theorem Im.to{c B:Prop}(h:Im c B):c->B:=h.f
structure Hy (c:Prop):Prop where
 o:c
theorem Im.red{c d B QB:Prop}(q:Hy d->QB)(s:c->d)(b:QB->d->B):Im c B:=⟨λh=>b (q ⟨s h⟩) (s h)⟩
theorem Im.raw{c B QB:Prop}(q:c->QB)(b:QB->c->B):Im c B:=⟨λh=>b (q h) h⟩
structure Al (B:Bool->Prop):Prop where
 f: ∀x,B x
theorem Al.to{B:Bool->Prop}(h:Al B): ∀x,B x:=h.f
theorem Al.red{B:Bool->Prop}{QF QT:Prop}(q:Tw QF QT)(f:QF->B false)(t:QT->B true):Al B:=⟨λx=>match x with|false=>f q.1|true=>t q.2⟩
theorem zkI{α:Type}{l:List α}{f:α->List AV}{k:Nat}{K:AV->Prop}{Q:Hy (k<l.length)->Prop}(q: ∀h,Q h)(hl:k<l.length)(hk: ∀h:Hy (k<l.length),Q h->K (.adr (f (l[k]'h.o)))):StopIdx (l.map f) (k:Int) K:=zap hl (hk ⟨hl⟩ (q _))
theorem zhk{α:Type}{l:List α}{f:α->List AV}{i:Int}{K:AV->Prop}{Q:Hy (i.toNat<l.length)->Prop}(q: ∀h,Q h)(h0:0<=i)(hl:i.toNat<l.length)(hk: ∀h:Hy (i.toNat<l.length),Q h->K (.adr (f (l[i.toNat]'h.o)))):StopIdx (l.map f) i K:=zaa h0 hl (hk ⟨hl⟩ (q _))
theorem idx_lit{rows:List (List AV)}{i:Int}{K:AV->Prop}{r:List AV}{Q:Prop}(q:Q)(h0:decide (0<=i)=true)(h:rows[i.toNat]? =some r)(k:Q->K (.adr r)):StopIdx rows i K:=⟨r,of_decide_eq_true h0,h,k q⟩
theorem at_red{len:Nat}{i:Int}{K:Nat->Prop}{Q:Prop}(q:Q)(h0:decide (0<=i)=true)(h:decide (i<len)=true)(k:Q->K i.toNat):StopAt len i K:=⟨of_decide_eq_true h0,of_decide_eq_true h,k q⟩
theorem row_red{rows:List (List AV)}{i:Nat}{K:List AV->Prop}{r:List AV}{Q:Prop}(q:Q)(h:rows[i]? =some r)(k:Q->K r):StopRow rows i K:=⟨r,h,k q⟩
theorem gv{P Q:Prop}(q:Q)(r:Q->P:=by
  intro q;repeat' ((conv=>whnf);first
   |((with_reducible apply Tw.red q);clear q;intro q;rotate_left;clear q;intro q;rotate_right)
   |(with_reducible exact Tw.tru q True.intro)
   |((
     with_reducible refine Im.to ?_);first
     |(refine Tw.tru q ⟨?_⟩;intro h;first|(cases h;done)|((try simp only[vis,Int.reduceToNat] at h)<;>(exfalso;omega)))
     |(apply Im.raw q;clear q;intro q h;cases h)
     |(apply Im.red q;(focus (intro h;(try simp only[vis,Int.reduceToNat] at h);exact h));clear q;intro q h))
   |((with_reducible refine Al.to ?_);apply Al.red q;clear q;intro q;rotate_left;clear q;intro q;rotate_right)
   |(apply zkI q;(focus (first|omega|(simp;done)|(simp;omega)));clear q;intro hh q)
   |(apply zhk q;(focus (first|omega|(simp;done)|(simp;omega)));(focus (first|omega|(simp;done)|(simp;omega)));clear q;intro hh q)
   |(refine Tw.tru q ?_;(first|omega|(refine Vc.mk ?_;exact GLt)))
   |exact q)):P:=r q
theorem fv{P Q:Prop}(q:Q)(r:Q->P:=by
  intro q;repeat' ((conv=>whnf);first
   |((with_reducible apply Tw.red q);clear q;intro q;rotate_left;clear q;intro q;rotate_right)
   |(with_reducible exact Tw.tru q True.intro)
   |((
     with_reducible refine Im.to ?_);first
     |(refine Tw.tru q ⟨?_⟩;intro h;first|(cases h;done)|((try simp only[vis,Int.reduceToNat] at h)<;>(exfalso;omega)))
     |(apply Im.raw q;clear q;intro q h;cases h)
     |(apply Im.red q;(focus (intro h;(try simp only[vis,Int.reduceToNat] at h);exact h));clear q;intro q h))
   |(apply at_red q rfl rfl;clear q;intro q)
   |(apply row_red q rfl;clear q;intro q)
   |(apply idx_lit q rfl rfl;clear q;intro q)
   |((with_reducible refine Al.to ?_);apply Al.red q;clear q;intro q;rotate_left;clear q;intro q;rotate_right)
   |(apply zkI q;(focus (first|omega|(simp;done)|(simp;omega)));clear q;intro hh q)
   |(apply zhk q;(focus (first|omega|(simp;done)|(simp;omega)));(focus (first|omega|(simp;done)|(simp;omega)));clear q;intro hh q)
   |(refine Tw.tru q ?_;(first|omega|(refine Vc.mk ?_;first|exact GLt|exact⟨by decide,by decide⟩)))
   |(refine Vc.red q)
   |exact q)):P:=r q
theorem lv{P Q:Prop}(q:Q)(r:Q->P:=by
  intro q;repeat' ((conv=>whnf);first
   |((with_reducible apply Tw.red q);clear q;intro q;rotate_left;clear q;intro q;rotate_right)
   |(with_reducible exact Tw.tru q True.intro)
   |((
     with_reducible refine Im.to ?_);first
     |(refine Tw.tru q ⟨?_⟩;intro h;first|(cases h;done)|((try simp only[vis,Int.reduceToNat] at h)<;>(exfalso;omega)))
     |(apply Im.raw q;clear q;intro q h;cases h)
     |(apply Im.red q;(focus (intro h;(try simp only[vis,Int.reduceToNat] at h);exact h));clear q;intro q h))
   |((with_reducible refine Al.to ?_);apply Al.red q;clear q;intro q;rotate_left;clear q;intro q;rotate_right)
   |(apply zkI q;(focus (first|omega|(simp;done)|(simp;omega)));clear q;intro hh q)
   |(apply zhk q;(focus (first|omega|(simp;done)|(simp;omega)));(focus (first|omega|(simp;done)|(simp;omega)));clear q;intro hh q)
   |(refine Tw.tru q ?_;(first|omega|(refine Vc.mk ?_;exact GLt)))
   |(refine Vc.red q)
   |exact q)):P:=r q
theorem gr{P Q:Prop}(q:Q)(r:Q->P:=by
  intro q;first
  |(refine Tw.tru q ?_;(repeat' (conv=>whnf);(first|with_reducible refine And.intro ?_ ?_|with_reducible exact True.intro|with_reducible exact Or.inl rfl|(refine Vc.mk ?_;(repeat' first|exact rfl|with_reducible refine And.intro ?_ ?_|exact Or.inl rfl|omega))));done)
  |(repeat' ((conv=>whnf);first
    |((with_reducible apply Tw.red q);clear q;intro q;rotate_left;clear q;intro q;rotate_right)
    |(with_reducible exact Tw.tru q True.intro)
    |(with_reducible exact Tw.tru q (Or.inl rfl))
    |(refine Vc.mk ?_;(repeat' first|exact Tw.tru q rfl|((with_reducible apply Tw.red q);clear q;intro q;rotate_left;clear q;intro q;rotate_right)|exact Tw.tru q (Or.inl rfl)|(refine Tw.tru q ?_;omega)|exact q))
    |exact q))):P:=r q
theorem grt{P:Prop}(r:P:=by
  ((repeat' (conv=>whnf);(first|with_reducible refine And.intro ?_ ?_|with_reducible exact True.intro|with_reducible exact Or.inl rfl|(refine Vc.mk ?_;(repeat' first|exact rfl|with_reducible refine And.intro ?_ ?_|exact Or.inl rfl|omega|exact wrap_byte _ _))));done)):P:=r
theorem StopCall.by1{P:Program}{f:FuncId}{l:List AV}{mem:List Res}{K:MK}{args:List AV}{m:List Res}{r:AV}{m':List Res}(ρ:List Nat)(hF:Fn P f args m r m')(k:K (zcL mem ρ m') (zg3 mem ρ m' r))(h0:gen0 m=true:=by exact rfl)(hnd:decide (ρ.Nodup)=true:=by exact rfl)(hle:Nat.ble m.length m'.length=true:=by exact rfl)(hM:RM mem m ρ ρ m:=by exact grt)(hA:RKL1 mem m ρ l args:=by exact grt):StopCall P f l mem K:=
 ⟨args,m,r,m',ρ,hF,h0,hnd,hle,hM,hA,k⟩
theorem zaC{k:Nat}{fr fr':List (Nat×AV)}{mem mem':List Res}{Q:Prop}(ρ:List Nat)(q:Q)(hnd:decide (ρ.Nodup)=true:=by exact rfl)(hp:zdr mem 0 k ρ mem'=true:=by exact rfl)(r:Q->RM mem mem' ρ ρ mem'/\RF mem mem' ρ fr fr':=by (intro q;exact gr q)):AS.le k ⟨fr,mem⟩ ⟨fr',mem'⟩:=zg4 ρ hnd hp (r q).1 (r q).2
theorem StopRet.by{k:Nat}{mem:List Res}{v r:AV}{m':List Res}{Q:Prop}(ρ:List Nat)(q:Q)(hnd:decide (ρ.Nodup)=true:=by exact rfl)(hp:zdr mem 0 k ρ m'=true:=by exact rfl)(h:Q->RM mem m' ρ ρ m'/\RK mem m' ρ v r:=by (intro q;exact gr q)):StopRet k mem v r m':=⟨ρ,hnd,hp,(h q).1,(h q).2⟩
theorem eq_of{P:Program}{op:BinOp}{t:TypeId}{K:AV->Prop}(xs ys:List Value)(b:Bool)(h:EqOk P op t xs.toArray ys.toArray b)(hk:K (.v (.bool b))):StopEq P op t (xs.map .v) (ys.map .v) K:=⟨xs,ys,b,rfl,rfl,h,hk⟩
section
variable {K:AV->Prop} {a b c d e f:Int}
theorem zpm(h:K (.v (.bool (!(a==c&&b==d))))):StopEq Tryz.prog .neq 184 [.v (.int .i64 a),.v (.int .i64 b)] [.v (.int .i64 c),.v (.int .i64 d)] K:=
 eq_of [.int .i64 a,.int .i64 b] [.int .i64 c,.int .i64 d] _ (λx y w=>by simp only[Sem.run_bind,eqg_option,Result.andThen_ok,znB]) h
theorem ne_edge(h:K (.v (.bool (!(a==c&&b==d))))):StopEq Tryz.prog .neq 57 [.v (.int .i64 a),.v (.int .i64 b)] [.v (.int .i64 c),.v (.int .i64 d)] K:=
 eq_of [.int .i64 a,.int .i64 b] [.int .i64 c,.int .i64 d] _ (λx y w=>by simp only[Sem.run_bind,eqg_edge,Result.andThen_ok,neq_edge]) h
theorem ne_hop(h:K (.v (.bool (!(a==d&&b==e&&c==f))))):StopEq Tryz.prog .neq 79 [.v (.int .i64 a),.v (.int .i64 b),.v (.int .i64 c)] [.v (.int .i64 d),.v (.int .i64 e),.v (.int .i64 f)] K:=
 eq_of [.int .i64 a,.int .i64 b,.int .i64 c] [.int .i64 d,.int .i64 e,.int .i64 f] _ (λx y w=>by simp only[Sem.run_bind,eqg_hop,Result.andThen_ok,neq_hop]) h
end
end Go.Proofs.YtimfnpjcedjmiadGreat
namespace Go.Proofs.YtimfnpjcedjmiadGreat
open Go.RowKit Go.ChangeShapes Go.WideShapes Go.ChangeAt
theorem znJ{P:Program}{f:FuncId}{args:List AV}{mem:List Res}{K:MK}{r:AV}(hF:Fn P f args [] r [])(hA:RKL1 mem [] [] args args)(k:K (zcL mem [] []) (zg3 mem [] [] r)):StopCall P f args mem K:=
 ⟨args,[],r,[],[],hF,rfl,rfl,rfl,trivial,hA,k⟩
theorem pure0{P:Program}{f:FuncId}{args:List AV}{K:AV->Prop}{r:AV}(hF:Fn P f args [] r [])(hf:r.free=true)(hA:RKL1 [] [] [] args args)(k:K r):StopPure P f args K:=
 ⟨args,r,hF,hf,hA,k⟩
theorem StopCall.by0{P:Program}{f:FuncId}{args:List AV}{mem:List Res}{K:MK}{r:AV}(hF:Fn P f args [] r [])(k:K (zcL mem [] []) (zg3 mem [] [] r))(hA:RKL1 mem [] [] args args:=by exact grt):StopCall P f args mem K:=znJ hF hA k
theorem StopPure.by0{P:Program}{f:FuncId}{args:List AV}{K:AV->Prop}{r:AV}(hF:Fn P f args [] r [])(k:K r)(hf:r.free=true:=by exact rfl)(hA:RKL1 [] [] [] args args:=by exact grt):StopPure P f args K:=pure0 hF hf hA k
def allS(w:World):zaM:=λb o=>w.cell? ⟨b,o,none⟩
theorem fn_run{P:Program}{f:FuncId}{args:List AV}{r:AV}{m':List Res}(h:Fn P f args [] r m')(w:World)(vs:Array Value)(hl:vs.size=args.length)(hargs: ∀(i:Nat) (av:AV) (x:Value),args[i]? =some av->vs[i]? =some x->RepV (allS w) noG av x):
  Calls P f vs w λe w'=> ∃x σ' μ',e=.returned x/\RepV σ' μ' r x/\Below w.heap.size w w':=by
 refine (h.2 w (allS w) noG (λ_ _=>False) vs (λb o x hx=>hx) ⟨λid r hr=>by simp at hr,λi j b hb=>hb.elim,λid _=>⟨rfl,λb hb=>hb⟩⟩ hl hargs).mono ?_;rintro e w' ⟨x,σ',μ',Ds',rfl,hp⟩;exact⟨x,σ',μ',rfl,hp.rep,hp.keeps.os,hp.keeps.tape,hp.keeps.output,hp.keeps.size,λk hk=>hp.keeps.block k hk (λ⟨_,h⟩=>h)⟩
theorem fn_true{P:Program}{f:FuncId}{args:List AV}{m':List Res}(h:Fn P f args [] (.v (.bool true)) m')(w:World)(vs:Array Value)(hl:vs.size=args.length)(hargs: ∀(i:Nat) (av:AV) (x:Value),args[i]? =some av->vs[i]? =some x->RepV (allS w) noG av x):
  Calls P f vs w λe w'=>e=.returned (.bool true)/\Below w.heap.size w w':=
 (fn_run h w vs hl hargs).mono λe w' ⟨x,σ',μ',he,hr,hb⟩=>⟨by rw[he,hr.inv_v],hb⟩
def RepL(σ:zaM):List AV->List Value->Prop
 |[],[]=>True
 |a::l,x::xs=>RepV σ noG a x/\RepL σ l xs
 |_,_=>False
theorem RepL.get{σ:zaM}: ∀{l:List AV} {xs:List Value},RepL σ l xs->xs.length=l.length/\ ∀(i:Nat) (av:AV) (x:Value),l[i]? =some av->xs[i]? =some x->RepV σ noG av x
 |[],[],_=>⟨rfl,λi av x h=>by simp at h⟩
 |[],_::_,h=>h.elim
 |_::_,[],h=>h.elim
 |a::l,x::xs,h=>by
  obtain⟨h1,h2⟩:=RepL.get h.2;refine⟨by simp [h1],λi av y e1 e2=>?_⟩;cases i with
  |zero=>simp at e1 e2;subst e1 e2;exact h.1
  |succ i=>exact h2 i av y (by simpa using e1) (by simpa using e2)
theorem fn_law{P:Program}{f:FuncId}{args:List AV}{m':List Res}(h:Fn P f args [] (.v (.bool true)) m')(w:World)(xs:List Value)(hargs:RepL (allS w) args xs):
  Calls P f xs.toArray w λe w'=>e=.returned (.bool true)/\Below w.heap.size w w':=
 fn_true h w xs.toArray (by simpa using hargs.get.1) (λi av x h1 h2=>hargs.get.2 i av x h1 (by simpa using h2))
theorem zp3{w:World}{μ:zaJ}{sz:Nat}{ao:Option Addr}{cap:Nat}{rows:List (List Value)}{avs:List (List AV)}(hcap:rows.length<=cap)(hmax:cap<=maxLen)(ha:Arr sz w ao rows)(hlen:avs.length=rows.length)
  (hrow: ∀(i:Nat) (r:List Value) (q:List AV),rows[i]? =some r->avs[i]? =some q->q.length=sz/\r.length=sz/\(∀(j:Nat) (x:Value) (av:AV),r[j]? =some x->q[j]? =some av->RepV (allS w) noG av x/\x.oneCell'=true)):
  RepV (allS w) μ (.sl sz avs none) (.slice ao rows.length cap):=by
 rw[<-hlen];have hrows: ∀r∈avs,r.length=sz:=by
  intro q hq;obtain⟨i,hi,rfl⟩:=List.mem_iff_getElem.1 hq;exact (hrow i _ _ (List.getElem?_eq_getElem (by omega)) (List.getElem?_eq_getElem hi)).1
 rcases ha with rfl|⟨b,off,rfl,hb,hc⟩
 .have:avs=[]:=List.eq_nil_of_length_eq_zero (by simpa using hlen);subst this;exact .sl _ sz [] none ao cap 0 0 (λ_ _=>undef) (Nat.zero_le _) hmax (.inl rfl) hrows (λi j r av g=>by simp at g) (λi j r av g=>by simp at g) (λi j r av g=>by simp at g) (λid' g' e'=>by cases e')
 .have key: ∀(i j:Nat) (q:List AV) (av:AV),avs[i]? =some q->q[j]? =some av-> ∃r x,rows[i]? =some r/\r[j]? =some x/\(rows.getD i []).getD j undef=x/\RepV (allS w) noG av x/\x.oneCell'=true:=by
   intro i j q av h1 h2;have hi:i<rows.length:=by rw[<-hlen];exact (List.getElem?_eq_some_iff.1 h1).1
   obtain⟨h3,h4,h5⟩:=hrow i _ _ (List.getElem?_eq_getElem hi) h1;have hj:j<rows[i].length:=by rw[h4,<-h3];exact (List.getElem?_eq_some_iff.1 h2).1
   obtain⟨h6,h7⟩:=h5 j _ _ (List.getElem?_eq_getElem hj) h2;exact⟨_,_,List.getElem?_eq_getElem hi,List.getElem?_eq_getElem hj,by simp [List.getD_eq_getElem?_getD,hi,hj],h6,h7⟩
  refine .sl _ sz avs none (some ⟨b,off,none⟩) cap b off (λi j=>(rows.getD i []).getD j undef) (by omega) hmax (.inr rfl) hrows (λi j q av h1 h2=>?_) (λi j q av h1 h2=>?_) (λi j q av h1 h2=>?_) (λid' g' e'=>by cases e')
  .obtain⟨r,x,h3,h4,h5,h6,h7⟩:=key i j q av h1 h2;rw[h5];exact hc i r h3 j x h4
  .obtain⟨r,x,h3,h4,h5,h6,h7⟩:=key i j q av h1 h2;rw[h5];exact h6
  .obtain⟨r,x,h3,h4,h5,h6,h7⟩:=key i j q av h1 h2;rw[h5];exact h7
theorem zic{α:Type}{w:World}{μ:zaJ}{sz:Nat}{ao:Option Addr}{cap:Nat}{l:List α}{f:α->List Value}(hcap:l.length<=cap)(hmax:cap<=maxLen)(ha:Arr sz w ao (l.map f))(hf: ∀x,(f x).length=sz/\ ∀v∈f x,v.oneCell'=true):
  RepV (allS w) μ (.sl sz (l.map λx=>(f x).map .v) none) (.slice ao l.length cap):=by
 have:=zp3 (w:=w) (μ:=μ) (cap:=cap) (avs:=l.map λx=>(f x).map .v) (by simpa using hcap) hmax ha (by simp) (λi r q h1 h2=>by
  simp only[List.getElem?_map,Option.map_eq_some_iff] at h1 h2;obtain⟨x,hx,rfl⟩:=h1;obtain⟨y,hy,rfl⟩:=h2;rw[hx] at hy;obtain rfl:=Option.some.inj hy;refine⟨by simp [(hf x).1],(hf x).1,λj v av g1 g2=>?_⟩;simp only[List.getElem?_map,g1,Option.map_some,Option.some.injEq] at g2;subst g2;exact⟨.v _ _,(hf x).2 v (List.mem_of_getElem? g1)⟩)
 simpa using this
end Go.Proofs.YtimfnpjcedjmiadGreat
namespace Go.Proofs.YtimfnpjcedjmiadGreat
open Go.RowKit
theorem zqW{σ:zaM}{μ:zaJ}{sz id g:Nat}{a:An}(h:μ id=some a)(hl:(An.cur none 0 0 g).le a):RepV σ μ (.sl sz [] (some (id,g))) (.slice none 0 0):=
 .sl _ sz [] _ none 0 0 0 (λ_ _=>undef) (Nat.le_refl _) (by decide) (.inl rfl) (λr hr=>by simp at hr) (λi j r av g=>by simp at g) (λi j r av g=>by simp at g) (λi j r av g=>by simp at g) (λid' g' e'=>by cases e';exact⟨_,h,hl⟩)
theorem Rel.recell{n:Nat}{fp:Nat->Prop}{w0:Start}{σ:zaM}{μ:zaJ}{Ds:Nat->Nat->Prop}{A:AS}{a:Act}{w:World}(h:Rel n fp w0 σ μ Ds A a w){id j:Nat}{l:List AV}{u v:AV}(hid:A.mem[id]? =some (.cells l))(hj:l[j]? =some u)(hv: ∀x,RepV σ μ u x->RepV σ μ v x):
  Rel n fp w0 σ μ Ds ⟨A.fr,A.mem.set id (.cells (l.set j v))⟩ a w:=by
 have hlt:id<A.mem.length:=(List.getElem?_eq_some_iff.1 hid).1;refine⟨h.defers,h.size,h.frame,h.agree,⟨λi r hi=>?_,h.mem.apart,λi hi=>h.mem.out i (by simpa using hi)⟩,h.own,h.keeps,h.old,h.mono,h.gle,h.kout,by simpa using h.klen⟩;rw[List.getElem?_set] at hi;split at hi
 .rename_i e;subst e;obtain rfl:=Option.some.inj hi;obtain⟨b,c,T,h1,h2,h3,h4,h5,h6⟩:=h.mem.ok _ _ hid;refine⟨b,c,T,h1,h2,by simpa using h3,λq av hq=>?_,h5,h6⟩;rw[List.getElem?_set] at hq;split at hq
  .rename_i e;subst e;rw[if_pos (by first|exact (List.getElem?_eq_some_iff.1 hj).1|exact trivial)] at hq;obtain rfl:=Option.some.inj hq;obtain⟨x,hx,hr⟩:=h4 _ _ hj;exact⟨x,hx,hv x hr⟩
  .exact h4 q av hq
 .exact h.mem.ok i r hi
theorem ziJ{k:Nat}{fr:List (Nat×AV)}{mem:List Res}(id j E sz:Nat)(l:List AV)(hid:mem[id]? =some (.cells l))(hj:l[j]? =some (.v (.slice none 0 0))):
  AS.le k ⟨fr,mem⟩ ⟨fr,(mem++[Res.grow E sz 0]).set id (.cells (l.set j (.sl sz [] (some (mem.length,0)))))⟩:=by
 intro n fp w0 σ μ Ds a w hk hr;have hlt:id<mem.length:=(List.getElem?_eq_some_iff.1 hid).1;have hnew:=hr.newGrow (E:=E) (sz:=sz) (m:=0) (ao:=none) (cap:=0) (xs:=[]) (Nat.le_refl _) rfl rfl rfl (λ_ _=>rfl) ⟨by simp,.inl ⟨rfl,rfl⟩⟩ (λk hk=>by cases hk);exact⟨_,_,_,hnew.recell (id:=id) (j:=j) (by rw[List.getElem?_append_left hlt];exact hid) hj (λx hx=>by rw[hx.inv_v];exact zqW updG_self (An.le_refl _))⟩
end Go.Proofs.YtimfnpjcedjmiadGreat
namespace Go.Proofs.YtimfnpjcedjmiadGreat
open Go.RowKit Go.ChangeShapes Go.WideShapes Go.ChangeAt Go.Deep
theorem zqB{H:Type}{enc:TypeId×Value->H}{w:World}{spare:Nat->Bool}{held:Bool}{fuel:Nat}{cs:List Value}{x:DataW H×List MemPlace}(hf:DataW.trod enc Tryz.prog w 0 spare held fuel 37 cs=some x):
  ∃(l:List (Int×Int)) (v:Value),cs=[v]/\v.oneCell'=true/\(∀n∈l,I64 n.1/\I64 n.2)/\RepV (allS w) noG (.sl 2 (l.map λn=>[.v (.int .i64 n.1),.v (.int .i64 n.2)]) none) v:=by
 obtain⟨ao,cp,rows,hcs,hl,hm,hr,ha⟩:=zcA Tryz.underlying37 2 (by kernel_rfl) (by decide) (λfuel cs x hx=>e_option hx) hf;obtain⟨l,rfl,hp⟩:=ziM (λr h=>(hr r h).2);refine⟨l,_,hcs,rfl,hp,?_⟩;have:=zic (w:=w) (μ:=noG) (cap:=cp) (f:=λn:Int×Int=>[.int .i64 n.1,.int .i64 n.2]) (by simpa using hl) hm ha (λx=>⟨rfl,λv hv=>by simp at hv;rcases hv with rfl|rfl<;>rfl⟩);simpa using this
theorem c_packet{H:Type}{enc:TypeId×Value->H}{w:World}{spare:Nat->Bool}{held:Bool}{fuel:Nat}{cs:List Value}{x:DataW H×List MemPlace}(hx:DataW.trod enc Tryz.prog w 0 spare held fuel 39 cs=some x):
  ∃(c i:Int) (l:List (Int×Int)) (v:Value),cs=[.int .i64 c,.int .i64 i,v]/\I64 c/\I64 i/\v.oneCell'=true/\RepV (allS w) noG (.sl 2 (l.map λn=>[.v (.int .i64 n.1),.v (.int .i64 n.2)]) none) v:=by
 obtain⟨y0,y1,y2,n,_,hl,h0,h1,h2⟩:=trod_struct3 Tryz.underlying39 hx;obtain⟨a,ha,_,wa⟩:=DataW.trod_int Tryz.underlying3 h0;obtain⟨b,hb,_,wb⟩:=DataW.trod_int Tryz.underlying3 h1;obtain⟨l,v,hv,ho,_,hr⟩:=zqB h2;have c1:Tryz.prog.cellsOf 3=1:=by kernel_rfl
 have c2:Tryz.prog.cellsOf 39=3:=by kernel_rfl
 have c3:Tryz.prog.cellsOf 37=1:=by kernel_rfl
 rw[c2] at hl
 match cs,hl with
 |[p,q,r],_=>
  simp [c1,c3] at ha hb hv;subst ha hb hv;exact⟨a,b,l,_,rfl,za6 wa,za6 wb,ho,hr⟩
end Go.Proofs.YtimfnpjcedjmiadGreat
namespace Go.Proofs.YtimfnpjcedjmiadGreat
open Go.RowKit Go.ChangeShapes Go.WideShapes Go.ChangeAt Go.Deep
theorem c_edges{H:Type}{enc:TypeId×Value->H}{w:World}{spare:Nat->Bool}{held:Bool}{fuel:Nat}{cs:List Value}{x:DataW H×List MemPlace}(hf:DataW.trod enc Tryz.prog w 0 spare held fuel 40 cs=some x):
  ∃(l:List (Int×Int)) (v:Value),cs=[v]/\v.oneCell'=true/\(∀n∈l,I64 n.1/\I64 n.2)/\RepV (allS w) noG (.sl 2 (l.map λn=>[.v (.int .i64 n.1),.v (.int .i64 n.2)]) none) v:=by
 obtain⟨ao,cp,rows,hcs,hl,hm,hr,ha⟩:=zcA Tryz.underlying40 2 (by kernel_rfl) (by decide) (λfuel cs x hx=>e_edge hx) hf;obtain⟨l,rfl,hp⟩:=ziM (λr h=>(hr r h).2);refine⟨l,_,hcs,rfl,hp,?_⟩;have:=zic (w:=w) (μ:=noG) (cap:=cp) (f:=λn:Int×Int=>[.int .i64 n.1,.int .i64 n.2]) (by simpa using hl) hm ha (λx=>⟨rfl,λv hv=>by simp at hv;rcases hv with rfl|rfl<;>rfl⟩);simpa using this
theorem c_state{H:Type}{enc:TypeId×Value->H}{w:World}{spare:Nat->Bool}{held:Bool}{fuel:Nat}{cs:List Value}{x:DataW H×List MemPlace}(hx:DataW.trod enc Tryz.prog w 0 spare held fuel 42 cs=some x):
  ∃(c i:Int) (l:List (Int×Int)) (v:Value),cs=[.int .i64 c,.int .i64 i,v]/\I64 c/\I64 i/\v.oneCell'=true/\RepV (allS w) noG (.sl 2 (l.map λn=>[.v (.int .i64 n.1),.v (.int .i64 n.2)]) none) v:=by
 obtain⟨y0,y1,y2,n,_,hl,h0,h1,h2⟩:=trod_struct3 Tryz.underlying42 hx;obtain⟨a,ha,_,wa⟩:=DataW.trod_int Tryz.underlying3 h0;obtain⟨b,hb,_,wb⟩:=DataW.trod_int Tryz.underlying3 h1;obtain⟨l,v,hv,ho,_,hr⟩:=c_edges h2;have c1:Tryz.prog.cellsOf 3=1:=by kernel_rfl
 have c2:Tryz.prog.cellsOf 42=3:=by kernel_rfl
 have c3:Tryz.prog.cellsOf 40=1:=by kernel_rfl
 rw[c2] at hl
 match cs,hl with
 |[p,q,r],_=>
  simp [c1,c3] at ha hb hv;subst ha hb hv;exact⟨a,b,l,_,rfl,za6 wa,za6 wb,ho,hr⟩
theorem foA{P:Program}(hm:P.follows .mixedOrders=true)(mt:Mut)(cuts:List Nat){f:FuncId}{fn:Func}{c:Code}{args:List AV}{m:List Res}{r:AV}{m':List Res}(hf:P.funcs[f]? =some fn){n:Nat}(hn:fn.ntmps=n){rs:Array ResultVar}(hrs:fn.results=rs)(h:vawp P mt m.length cuts c (vret P m.length rs.toList r m') (λ_ _=>False) (vret P m.length rs.toList r m') ⟨zf1 0 args,m⟩)(hb:fn.body=some c:=by exact rfl)(hname:(fn.name=="runtime.NumGoroutine")=false:=by decide+kernel)(hle:Nat.ble args.length n=true:=by exact rfl)(h0:gen0 m=true:=by exact rfl)(hok:zbo P n c=true:=by decide+kernel):Fn P f args m r m':=fn_of hm mt cuts hf hb hname hn hle (congrArg Array.toList hrs) h0 hok h
end Go.Proofs.YtimfnpjcedjmiadGreat
namespace Go.Proofs.YtimfnpjcedjmiadGreat
open Go.RowKit
def opRow(o:Int×Int):List AV:=[.v (.int .i64 o.1),.v (.int .i64 o.2)]
def iRow(x:Int):List AV:=[.v (.int .i64 x)]
def sRow(s:ByteArray):List AV:=[.v (.string s)]
theorem za1{α:Type}{l:List α}{k:Nat}(h:k<l.length):l.drop k=l[k]::l.drop (k+1):=List.drop_eq_getElem_cons h
theorem zgB{α:Type}{l:List α}{k:Nat}(h:l.length<=k):l.drop k=[]:=List.drop_eq_nil_of_le h
theorem zaT{α:Type}{l:List α}{k:Nat}(h:k<l.length):l.take (k+1)=l.take k++[l[k]]:=by rw[List.take_add_one,List.getElem?_eq_getElem h];rfl
def u8(n:Int):UInt8:=UInt8.ofNat (n%256).toNat
def bRow(b:UInt8):List AV:=[.v (.int .u8 b.toNat)]
theorem wrap_u8(n:Int):IntKind.u8.wrap n=((u8 n).toNat:Int):=by
 rw[show IntKind.u8.wrap n=n%256 by simp [IntKind.wrap,IntKind.bits,IntKind.signed]];unfold u8;rw[UInt8.toNat_ofNat'];omega
abbrev bs(s:ByteArray):List UInt8:=s.data.toList
abbrev tx(l:List UInt8):ByteArray:=⟨l.toArray⟩
theorem byteRows_eq(s:ByteArray):za4 s=(bs s).map bRow:=rfl
theorem zcz(s:ByteArray):(bs s).length=s.size:=Array.length_toList
theorem zio{s:ByteArray}{k:Nat}(h:k<(bs s).length):zaG s k=((bs s)[k]).toNat:=by
 unfold zaG;rw[List.getD_eq_getElem?_getD,List.getElem?_eq_getElem h];rfl
theorem zgk(s t:ByteArray):bs (s++t)=bs s++bs t:=by simp [bs]
theorem bs_tx(l:List UInt8):bs (tx l)=l:=rfl
theorem zdq(s:ByteArray):tx (bs s)=s:=by cases s;simp [tx,bs]
theorem nat64{m:Nat}(h:m<4294967296):(BitVec.ofInt 64 (m:Int)).toNat=m:=by rw[BitVec.ofInt_natCast,BitVec.toNat_ofNat];omega
theorem xor64{m n:Nat}(hm:m<4294967296)(hn:n<4294967296):IntKind.i64.wrap ((BitVec.ofInt IntKind.i64.bits (m:Int)^^^BitVec.ofInt IntKind.i64.bits (n:Int)).toNat:Int)=((m^^^n:Nat):Int):=by
 show IntKind.i64.wrap ((BitVec.ofInt 64 (m:Int)^^^BitVec.ofInt 64 (n:Int)).toNat:Int)=_;have:m^^^n<2^32:=Nat.xor_lt_two_pow (n:=32) hm hn;rw[BitVec.toNat_xor,nat64 hm,nat64 hn,zc0 (by unfold In64;omega)]
theorem and64{m n:Nat}(hm:m<4294967296)(hn:n<4294967296):IntKind.i64.wrap ((BitVec.ofInt IntKind.i64.bits (m:Int)&&&BitVec.ofInt IntKind.i64.bits (n:Int)).toNat:Int)=((m&&&n:Nat):Int):=by
 show IntKind.i64.wrap ((BitVec.ofInt 64 (m:Int)&&&BitVec.ofInt 64 (n:Int)).toNat:Int)=_;have:m&&&n<=m:=Nat.and_le_left;rw[BitVec.toNat_and,nat64 hm,nat64 hn,zc0 (by unfold In64;omega)]
theorem zoq{m:Nat}(hm:m<4294967296):IntKind.i64.wrap ((BitVec.ofInt IntKind.i64.bits (m:Int)&&&BitVec.ofInt IntKind.i64.bits 1).toNat:Int)=((m%2:Nat):Int):=by
 rw[show (1:Int)=((1:Nat):Int) from rfl,and64 hm (by decide),Nat.and_one_is_mod]
theorem xor8{m n:Nat}(hm:m<256)(hn:n<256):IntKind.u8.wrap ((BitVec.ofInt IntKind.u8.bits (m:Int)^^^BitVec.ofInt IntKind.u8.bits (n:Int)).toNat:Int)=((m^^^n:Nat):Int):=by
 show IntKind.u8.wrap ((BitVec.ofInt 8 (m:Int)^^^BitVec.ofInt 8 (n:Int)).toNat:Int)=_;have:m^^^n<2^8:=Nat.xor_lt_two_pow (n:=8) hm hn;rw[BitVec.toNat_xor,BitVec.ofInt_natCast,BitVec.ofInt_natCast,BitVec.toNat_ofNat,BitVec.toNat_ofNat,show IntKind.u8.wrap (((m%2^8^^^n%2^8:Nat):Nat):Int)=(((m%2^8^^^n%2^8:Nat):Nat):Int)%256 by simp [IntKind.wrap,IntKind.bits,IntKind.signed],Nat.mod_eq_of_lt (a:=m) (by omega),Nat.mod_eq_of_lt (a:=n) (by omega)];omega
theorem xorU(c d:UInt8):IntKind.u8.wrap ((BitVec.ofInt IntKind.u8.bits (c.toNat:Int)^^^BitVec.ofInt IntKind.u8.bits (d.toNat:Int)).toNat:Int)=(((c^^^d).toNat:Nat):Int):=by
 rw[xor8 (UInt8.toNat_lt c) (UInt8.toNat_lt d),UInt8.toNat_xor]
theorem fdiv_2{m:Nat}{i:Int}(hi:i=1):(m:Int).fdiv (2^(min i.toNat IntKind.i64.bits))=((m / 2:Nat):Int):=by
 subst hi;rw[show min (1:Int).toNat IntKind.i64.bits=1 from rfl,Int.fdiv_eq_ediv_of_nonneg _ (by decide)];omega
theorem ziH{σ:zaM}{μ:zaJ}{id g:Nat}{a:An}(h:μ id=some a)(hl:(An.cur none 0 0 g).le a):RepV σ μ (.arr id g 0) (.slice none 0 0):=
 .arr _ _ _ 0 none 0 0 _ (Nat.le_refl _) (Nat.le_refl _) (by decide) h hl
theorem za8{k:Nat}{fr:List (Nat×AV)}{mem:List Res}(f:Bool)(id j E sz:Nat)(l:List AV)(hid:mem[id]? =some (.cells l))(hj:l[j]? =some (.v (.slice none 0 0))):
  AS.le k ⟨fr,mem⟩ ⟨fr,(mem++[Res.arr f E sz 0 []]).set id (.cells (l.set j (.arr mem.length 0 0)))⟩:=by
 intro n fp w0 σ μ Ds a w hk hr;have hlt:id<mem.length:=(List.getElem?_eq_some_iff.1 hid).1;have hnew:=hr.newArr (E:=E) (sz:=sz) (f:=f) (rows:=[]) (ao:=none) (cap:=0) (xs:=[]) (Nat.le_refl _) rfl rfl rfl (λ_ _=>rfl) ⟨by simp,.inl ⟨rfl,rfl⟩⟩ (λk hk=>by cases hk) (λr hr=>by simp at hr) (λi j r av g=>by simp at g);exact⟨_,_,_,hnew.recell (id:=id) (j:=j) (by rw[List.getElem?_append_left hlt];exact hid) hj (λx hx=>by rw[hx.inv_v];exact ziH updG_self (An.le_refl _))⟩
theorem zbb{k:Nat}{fr:List (Nat×AV)}{mem:List Res}(q:Nat){f:Bool}{E sz g:Nat}{rows:List (List AV)}(id j:Nat)(l:List AV)(hq:mem[q]? =some (.arr f E sz g rows))(hne:q≠id)(hid:mem[id]? =some (.cells l))(hj:l[j]? =some (.v (.slice none 0 0))):
  AS.le k ⟨fr,mem⟩ ⟨fr,(mem.set q (.arr f E sz (g+1) [])).set id (.cells (l.set j (.arr q (g+1) 0)))⟩:=by
 intro n fp w0 σ μ Ds a w hk hr;have hlt:q<mem.length:=(List.getElem?_eq_some_iff.1 hq).1;obtain⟨ao,cap,xs,h1,_⟩:=hr.mem.ok q _ hq;have hu:=hr.upd (id:=q) (r:=.arr f E sz (g+1) []) (D:=λ_=>False) (an:=.cur none 0 0 (g+1)) (σ':=σ) (w':=w) (Nat.le_of_lt hlt) (Nat.le_refl _) rfl rfl rfl (λb hb hd=>⟨rfl,λo=>rfl⟩) (λb o y hy=>hy) hr.agree
  ⟨none,0,[],updG_self,⟨by simp,.inl ⟨rfl,rfl⟩⟩,λr hr=>by simp at hr,λi j r av g=>by simp at g,λk hk=>hk.elim,λk=>⟨λh=>h.elim,λh=>by cases h⟩⟩
  (λb hb=>hb.elim) (λa ha=>by rw[h1] at ha;obtain rfl:=Option.some.inj ha;exact⟨by omega,λe=>by omega⟩)
 have hp:putR mem q (.arr f E sz (g+1) [])=mem.set q (.arr f E sz (g+1) []):=by unfold putR;rw[if_pos hlt]
 rw[show (⟨fr,mem⟩:AS).mem=mem from rfl,hp] at hu;exact⟨_,_,_,hu.recell (id:=id) (j:=j) (by show (mem.set q _)[id]? =_;rw[List.getElem?_set_ne hne];exact hid) hj (λx hx=>by rw[hx.inv_v];exact ziH updG_self (An.le_refl _))⟩
noncomputable def loopsOf(c:Code):List Code:=
 Code.rec (motive:=λ_=>List Code) [] (λ_ _ _=>[]) (λ_ _ a b=>a++b) (λ_ _ _ a b=>a++b) (λ_ _ a=>a) (λc a=>c::a) (λ_ _ _ _ _ _=>[]) (λ_=>[]) (λ_ a=>a) (λ_=>[]) (λ_=>[]) [] (λ_=>[]) c
noncomputable def zeM(f:Func)(i:Nat):Code:=
 match f.body with
 |some c=>(loopsOf c).getD i .skip
 |none=>.skip
theorem or6{a b c d e f p:Prop}(h:a\/b\/c\/d\/e\/f)(h1:a->p)(h2:b->p)(h3:c->p)(h4:d->p)(h5:e->p)(h6:f->p):p:=by
 rcases h with h|h|h|h|h|h
 .exact h1 h
 .exact h2 h
 .exact h3 h
 .exact h4 h
 .exact h5 h
 .exact h6 h
theorem or3{a b c p:Prop}(h:a\/b\/c)(h1:a->p)(h2:b->p)(h3:c->p):p:=by
 rcases h with h|h|h
 .exact h1 h
 .exact h2 h
 .exact h3 h
theorem or7{a b c d e f g p:Prop}(h:a\/b\/c\/d\/e\/f\/g)(h1:a->p)(h2:b->p)(h3:c->p)(h4:d->p)(h5:e->p)(h6:f->p)(h7:g->p):p:=by
 rcases h with h|h
 .exact h1 h
 .exact or6 h h2 h3 h4 h5 h6 h7
theorem cutK{k id:Nat}{x:(AS->Prop)->AS->Prop}{y:AS->Prop}{A:AS}(B0:AS)(hy:y B0)(hx:y B0->x (λA'=> ∃B,AS.le k A' B/\y B) A):StopSeq k id x y A:=.mk (hx hy)
abbrev St3:=Int×Int×List (Int×Int)
def zaF(s:St3):List AV:=[.v (.int .i64 s.1),.v (.int .i64 s.2.1),.sl 2 (s.2.2.map opRow) none]
end Go.Proofs.YtimfnpjcedjmiadGreat
namespace Go.Proofs.YtimfnpjcedjmiadGreat
open Go.RowKit Go.ChangeShapes Go.WideShapes Go.ChangeAt Go.Deep
end Go.Proofs.YtimfnpjcedjmiadGreat
