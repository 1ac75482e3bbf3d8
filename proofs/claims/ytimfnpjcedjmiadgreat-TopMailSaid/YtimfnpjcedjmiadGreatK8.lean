/- Lemmas. -/
import Derived.Test.YtimfnpjcedjmiadGreatK6
set_option maxRecDepth 100000
set_option maxHeartbeats 64000000
set_option linter.all false
namespace Go.Proofs.YtimfnpjcedjmiadGreat
open Go.RowKit
structure Rd where
 buf:List UInt8
 n:Nat
 e:Bool
 x:Bool
def Rd.b(r:Rd):List UInt8:=r.buf.take r.n
def Rd.ok(r:Rd):Prop:=r.n<=r.buf.length/\r.n<=62/\r.buf.length<=63
def zhV(b:List UInt8):Int:=if b.length<2 then 4 else if ((b.getD (b.length-2) 0).toNat+256*(b.getD (b.length-1) 0).toNat:Nat)=sumL (b.take (b.length-2)) then 0 else 5
def bodyT(b:List UInt8):List UInt8:=if zhV b=0 then b.take (b.length-2) else []
def rdE(r:Rd):Int:=if r.x||r.e then 4 else zhV r.b
def rdT(r:Rd):List UInt8:=if rdE r=0 then r.b.take (r.b.length-2) else []
theorem zji{l:List UInt8}{i:Nat}:zaG (tx l) i=(l.getD i 0).toNat:=rfl
theorem zhX{l:List UInt8}{n:Nat}(h:n<=l.length):(tx l).extract 0 n=tx (l.take n):=by
 apply ByteArray.ext;simp [tx,ByteArray.extract,ByteArray.copySlice]
theorem tx_size{l:List UInt8}:(tx l).size=l.length:=rfl
def zax(r:Rd)(c:UInt8):Bool:=decide (c=126)&& !(decide (r.n=0)&& !r.x&& !r.e)
def zaj(r:Rd)(c:UInt8):Rd:=
 if c=126 then (if zax r c then ⟨[],0,false,false⟩ else r)
 else if c=125 then ⟨r.buf,r.n,true,r.x||r.e⟩
 else if c.toNat<32 then ⟨r.buf,r.n,r.e,true⟩
 else if 62<r.n+1 then ⟨r.b++[if r.e then c^^^32 else c],1,false,true⟩
 else ⟨r.b++[if r.e then c^^^32 else c],r.n+1,false,r.x⟩
theorem zg7{r:Rd}(h:r.ok)(c:UInt8):(zaj r c).ok:=by
 obtain⟨h1,h2,h3⟩:=h;have hb:r.b.length=r.n:=by unfold Rd.b;rw[List.length_take];omega
 unfold zaj Rd.ok;(repeat' split)<;>(try simp only[List.length_append,List.length_cons,List.length_nil,hb])<;>omega
def rdS(q:Rd×List (List UInt8)×Nat)(c:UInt8):Rd×List (List UInt8)×Nat:=
 (zaj q.1 c,if zax q.1 c&&decide (rdE q.1=0) then q.2.1++[rdT q.1] else q.2.1,if zax q.1 c&& !decide (rdE q.1=0) then q.2.2+1 else q.2.2)
def zaP(r:Rd)(l:List UInt8):Rd×List (List UInt8)×Nat:=l.foldl rdS (r,[],0)
theorem znL{r:Rd}{l:List UInt8}{k:Nat}(h:k<l.length):zaP r (l.take (k+1))=rdS (zaP r (l.take k)) l[k]:=by
 unfold zaP;rw[zaT h,List.foldl_append];rfl
theorem rdF_ok: ∀(l:List UInt8) (q:Rd×List (List UInt8)×Nat),q.1.ok->(l.foldl rdS q).1.ok
 |[],q,h=>h
 |c::l,q,h=>rdF_ok l _ (zg7 h c)
theorem zoK: ∀(l:List UInt8) (q:Rd×List (List UInt8)×Nat),(l.foldl rdS q).2.1.length<=q.2.1.length+l.length/\(l.foldl rdS q).2.2<=q.2.2+l.length
 |[],q=>by simp
 |c::l,q=>by
  obtain⟨h1,h2⟩:=zoK l (rdS q c);have g:(rdS q c).2.1.length<=q.2.1.length+1/\(rdS q c).2.2<=q.2.2+1:=by
   unfold rdS;dsimp only;constructor<;>split<;>simp
  simp only[List.foldl_cons,List.length_cons];omega
theorem zei{r:Rd}(h:r.ok)(l:List UInt8):(zaP r l).1.ok:=rdF_ok l _ h
theorem zdG(r:Rd)(l:List UInt8):(zaP r l).2.1.length<=l.length/\(zaP r l).2.2<=l.length:=by
 have:=zoK l (r,[],0);simpa[zaP] using this
def carL:List UInt8->List UInt8->Option (List UInt8)
 |[],acc=>some acc
 |c::r,acc=>
  if c.toNat<32 then none
  else if c=125 then
   match r with
   |[]=>none
   |d::r'=>if d=125\/d.toNat<32 then none else if 62<acc.length+1 then none else carL r' (acc++[d^^^32])
  else if 62<acc.length+1 then none else carL r (acc++[c])
def carE(s:List UInt8):Int:=match carL s [] with
 |none=>4
 |some b=>zhV b
def carT(s:List UInt8):List UInt8:=match carL s [] with
 |none=>[]
 |some b=>bodyT b
theorem carL_low{c:UInt8}{r acc:List UInt8}(h:c.toNat<32):carL (c::r) acc=none:=by unfold carL;rw[if_pos h]
theorem znh{acc:List UInt8}:carL [125] acc=none:=by unfold carL;rw[if_neg (by decide),if_pos rfl]
theorem zjZ{d:UInt8}{r acc:List UInt8}(h:d=125\/d.toNat<32):carL (125::d::r) acc=none:=by unfold carL;rw[if_neg (by decide),if_pos rfl];simp only;rw[if_pos h]
theorem zqU{d:UInt8}{r acc:List UInt8}(h2:62<acc.length+1):carL (125::d::r) acc=none:=by
 unfold carL;rw[if_neg (by decide),if_pos rfl];simp only;split<;>first|rfl|(rw[if_pos h2])
theorem carL_esc{d:UInt8}{r acc:List UInt8}(h: ¬(d=125\/d.toNat<32))(h2: ¬62<acc.length+1):carL (125::d::r) acc=carL r (acc++[d^^^32]):=by
 conv=>lhs;unfold carL
 rw[if_neg (by decide),if_pos rfl];simp only;rw[if_neg h,if_neg h2]
theorem zpP{c:UInt8}{r acc:List UInt8}(h:c≠125)(h2:62<acc.length+1):carL (c::r) acc=none:=by
 unfold carL;split<;>first|rfl|(rw[if_neg h,if_pos h2])|(rw[if_pos h2])
theorem carL_one{c:UInt8}{r acc:List UInt8}(h: ¬c.toNat<32)(h1:c≠125)(h2: ¬62<acc.length+1):carL (c::r) acc=carL r (acc++[c]):=by
 conv=>lhs;unfold carL
 rw[if_neg h,if_neg h1,if_neg h2]
abbrev Rg:=List (List UInt8)×List Int×List UInt8
def rgS(q:Rg)(c:UInt8):Rg:=
 if c=126 then (if q.2.2=[] then (q.1,q.2.1,[]) else if carE q.2.2=0 then (q.1++[carT q.2.2],q.2.1,[]) else (q.1,q.2.1++[carE q.2.2],[]))
 else (q.1,q.2.1,q.2.2++[c])
def zbg(l:List UInt8):Rg:=l.foldl rgS ([],[],[])
theorem zdc(s:ByteArray){a b:Nat}(h:b<=(bs s).length):s.extract a b=tx (((bs s).take b).drop a):=by
 apply ByteArray.ext;rw[ByteArray.data_extract];apply Array.ext';simp [bs,List.drop_take]
theorem toList_bs(s:ByteArray):s.toList=bs s:=by
 rw[ByteArray.toList_eq]
structure Sim (r:Rd) (cur:List UInt8):Prop where
 ok:r.ok
 flag: ∀c∈cur,c≠126
 bad:r.x=true->cur≠[]/\ ∀t,carL (cur++t) []=none
 clean:r.x=false->r.e=false->(cur=[]↔r.n=0)/\ ∀t,carL (cur++t) []=carL t r.b
 esc:r.x=false->r.e=true->cur≠[]/\ ∀t,carL (cur++t) []=carL (125::t) r.b
theorem Rd.b_len{r:Rd}(h:r.ok):r.b.length=r.n:=by
 obtain⟨h1,h2,h3⟩:=h;unfold Rd.b;rw[List.length_take];omega
def rd0:Rd:=⟨[],0,false,false⟩
theorem rd0_ok:rd0.ok:=⟨Nat.le_refl _,by decide,by decide⟩
theorem Sim.none{r:Rd}{cur:List UInt8}(h:Sim r cur):zax r 126=true↔cur≠[]:=by
 obtain⟨buf,n,e,x⟩:=r;cases x with
 |true=>simp [zax];exact (h.bad rfl).1
 |false=>cases e with
  |true=>simp [zax];exact (h.esc rfl rfl).1
  |false=>
   have:=(h.clean rfl rfl).1;simp only at this;simp [zax,this]
theorem Sim.err{r:Rd}{cur:List UInt8}(h:Sim r cur):rdE r=carE cur/\rdT r=carT cur:=by
 have key:rdE r=carE cur/\(rdE r=0->rdT r=carT cur):=by
  obtain⟨buf,n,e,x⟩:=r;cases x with
  |true=>
   have h1:=(h.bad rfl).2 [];rw[List.append_nil] at h1;refine⟨by simp [rdE,carE,h1],λe=>by simp [rdE] at e⟩
  |false=>cases e with
   |true=>
    have h1:=(h.esc rfl rfl).2 [];rw[List.append_nil,znh] at h1;refine⟨by simp [rdE,carE,h1],λe=>by simp [rdE] at e⟩
   |false=>
    have h1:=(h.clean rfl rfl).2 [];rw[List.append_nil] at h1;have h2:carL cur []=some (Rd.b ⟨buf,n,false,false⟩):=h1;refine⟨by simp [rdE,carE,h2],λe=>?_⟩;have e':zhV (Rd.b ⟨buf,n,false,false⟩)=0:=by simpa[rdE] using e
    simp [rdT,e,carT,h2,bodyT,e']
 refine⟨key.1,?_⟩;by_cases h0:rdE r=0
 .exact key.2 h0
 .have h1:rdT r=[]:=by unfold rdT;rw[if_neg h0]
  rw[h1];unfold carT;have h2:carE cur≠0:=by rw[<-key.1];exact h0
  cases hc:carL cur [] with
  |none=>rfl
  |some b=>
   simp only;unfold bodyT;have:carE cur=zhV b:=by unfold carE;rw[hc]
   rw[if_neg (by rw[<-this];exact h2)]
theorem zbZ{α:Type}(l:List α)(c:α)(t:List α):l++[c]++t=l++c::t:=by simp
theorem Sim.step{r:Rd}{cur:List UInt8}{c:UInt8}(h:Sim r cur)(hc:c≠126):Sim (zaj r c) (cur++[c]):=by
 have hok:=zg7 h.ok c;have hfl: ∀d∈cur++[c],d≠126:=by
  intro d hd;rcases List.mem_append.1 hd with g|g
  .exact h.flag d g
  .rw[List.mem_singleton.1 g];exact hc
 have hne:cur++[c]≠[]:=by simp
 have hbl:=Rd.b_len h.ok;obtain⟨h1,h2,h3⟩:=h.ok;obtain⟨buf,n,e,x⟩:=r;unfold zaj at hok ⊢;rw[if_neg hc] at hok ⊢;dsimp only at h1 h2 h3 hbl hok ⊢;by_cases c2:c=125
 .subst c2;simp only[if_true] at hok ⊢;refine⟨hok,hfl,λhx=>⟨hne,λt=>?_⟩,λhx he=>(by cases he),λhx _=>⟨hne,λt=>?_⟩⟩
  .rw[zbZ];cases x with
   |true=>exact (h.bad rfl).2 _
   |false=>
    cases e with
    |false=>simp at hx
    |true=>rw[(h.esc rfl rfl).2,zjZ (.inl rfl)]
  .rw[zbZ];cases x with
   |true=>simp at hx
   |false=>
    cases e with
    |true=>simp at hx
    |false=>exact (h.clean rfl rfl).2 _
 rw[if_neg c2] at hok ⊢;by_cases c3:c.toNat<32
 .rw[if_pos c3] at hok ⊢;refine⟨hok,hfl,λhx=>⟨hne,λt=>?_⟩,λhx=>(by cases hx),λhx=>(by cases hx)⟩;rw[zbZ];cases x with
  |true=>exact (h.bad rfl).2 _
  |false=>
   cases e with
   |true=>rw[(h.esc rfl rfl).2,zjZ (.inr c3)]
   |false=>rw[(h.clean rfl rfl).2,carL_low c3]
 rw[if_neg c3] at hok ⊢;by_cases c4:62<n+1
 .rw[if_pos c4] at hok ⊢;refine⟨hok,hfl,λhx=>⟨hne,λt=>?_⟩,λhx=>(by cases hx),λhx=>(by cases hx)⟩;rw[zbZ];cases x with
  |true=>exact (h.bad rfl).2 _
  |false=>
   cases e with
   |true=>rw[(h.esc rfl rfl).2,zqU (by omega)]
   |false=>rw[(h.clean rfl rfl).2,zpP c2 (by omega)]
 .rw[if_neg c4] at hok ⊢;have hb': ∀d:UInt8,(Rd.b ⟨Rd.b ⟨buf,n,e,x⟩++[d],n+1,false,x⟩)=Rd.b ⟨buf,n,e,x⟩++[d]:=by
   intro d;show (Rd.b ⟨buf,n,e,x⟩++[d]).take (n+1)=_;exact List.take_of_length_le (by simp only[List.length_append,hbl,List.length_cons,List.length_nil];omega)
  refine⟨hok,hfl,λhx=>⟨hne,λt=>?_⟩,λhx _=>⟨by simp,λt=>?_⟩,λhx he=>(by cases he)⟩
  .rw[zbZ];dsimp only at hx;subst hx;exact (h.bad rfl).2 _
  .rw[zbZ,hb'];dsimp only at hx;subst hx;cases e with
   |true=>
    rw[(h.esc rfl rfl).2,carL_esc (by rintro (g|g);exact c2 g;exact c3 g) (by omega)];rfl
   |false=>
    rw[(h.clean rfl rfl).2,carL_one c3 c2 (by omega)];rfl
def mS(a b o:Int)(q:Int×Bool)(e:Int×Int):Int×Bool:=(if o=a/\e.1=b then e.2 else q.1,q.2||(decide (o=b)&&decide (e.1=a)))
def mE(a b:Int)(q:Int×Bool)(s:St3):Int×Bool:=s.2.2.foldl (mS a b s.1) q
def mL(a b:Int)(l:List St3):Int×Bool:=l.foldl (mE a b) (0,false)
def met(l:List St3)(a b:Int):Int:=if (mL a b l).2 then (mL a b l).1 else 0
theorem mL_succ{a b:Int}{l:List St3}{k:Nat}(h:k<l.length):mL a b (l.take (k+1))=mE a b (mL a b (l.take k)) l[k]:=by
 unfold mL;rw[zaT h,List.foldl_append];rfl
theorem mF_succ{a b o:Int}{q:Int×Bool}{l:List (Int×Int)}{k:Nat}(h:k<l.length):(l.take (k+1)).foldl (mS a b o) q=(if o=a/\l[k].1=b then l[k].2 else ((l.take k).foldl (mS a b o) q).1,((l.take k).foldl (mS a b o) q).2||(decide (o=b)&&decide (l[k].1=a))):=by
 rw[zaT h,List.foldl_append];rfl
def hRow(h:Hp):List AV:=[.v (.int .i64 h.1),.v (.int .i64 h.2.1),.v (.int .i64 h.2.2)]
def zj2(l:List St3):Prop:=l.length<=1000000/\ ∀s∈l,s.2.2.length<=1000000
theorem zgV(l:List St3)(a b:Int)(hl:zj2 l):Fn Tryz.prog 52 [.sl 3 (l.map zaF) none,.v (.int .i64 a),.v (.int .i64 b)] [] (.v (.int .i64 (met l a b))) []:=by
 obtain⟨hl1,hl2⟩:=hl;refine foA zaA [] [] Tryz.func52 Tryz.ntmps52 Tryz.results52 ?_;(all_goals refine gv ?_;repeat' first|exact .intro|refine Tw.mk ?_ ?_|(intro h;first|replace h:=h.o|cases h))
 refine lpG (λk:Nat=>⟨[(1,.v (.int .i64 a)),(2,.v (.int .i64 b)),(7,.v (.int .i64 (mL a b (l.take k)).1)),(8,.v (.bool (mL a b (l.take k)).2)),(13,.sl 3 (l.map zaF) none),(14,.v (.int .i64 l.length)),(15,.v (.int .i64 k))],[]⟩) (λk=>k<=l.length) (λk=>l.length-k) 0 (by omega) (by (refine zaC [] ?_;repeat' first|exact .intro|refine Tw.mk ?_ ?_);all_goals (all_goals (try (simp [mL];done)))) ?_;rintro k hk;by_cases hk':k<l.length
 .have hel:=hl2 l[k] (List.getElem_mem hk');have hS:=mL_succ (a:=a) (b:=b) hk';unfold mE at hS;generalize mL a b (l.take k)=Q at *
  (all_goals refine gv ?_;repeat' first|exact .intro|refine Tw.mk ?_ ?_|(intro h;first|replace h:=h.o|cases h))
  all_goals (try omega)
  all_goals (try ((with_reducible refine Vc.mk ?_);(try exact GLt)))
  refine lpG (λj:Nat=>⟨[(1,.v (.int .i64 a)),(2,.v (.int .i64 b)),(7,.v (.int .i64 ((l[k].2.2.take j).foldl (mS a b l[k].1) Q).1)),(8,.v (.bool ((l[k].2.2.take j).foldl (mS a b l[k].1) Q).2)),(10,.box 0 0),(13,.sl 3 (l.map zaF) none),(14,.v (.int .i64 l.length)),(15,.v (.int .i64 k)),(20,.sl 2 (l[k].2.2.map opRow) none),(21,.v (.int .i64 l[k].2.2.length)),(22,.v (.int .i64 j))],[.cells (zaF l[k])]⟩) (λj=>j<=l[k].2.2.length) (λj=>l[k].2.2.length-j) 0 (by omega) (by (refine zaC [0] ?_;repeat' first|exact .intro|refine Tw.mk ?_ ?_);all_goals (all_goals (try (simp;done)))) ?_;rintro j hj;by_cases hj':j<l[k].2.2.length
  .have hF:=mF_succ (a:=a) (b:=b) (o:=l[k].1) (q:=Q) hj';generalize (l[k].2.2.take j).foldl (mS a b l[k].1) Q=R at *
   obtain⟨n,back⟩:=R;dsimp only at hF ⊢;unfold zaF;cases back;all_goals
    (all_goals refine gv ?_;repeat' first|exact .intro|refine Tw.mk ?_ ?_|(intro h;first|replace h:=h.o|cases h))
    all_goals (try omega)
    all_goals (try ((with_reducible refine Vc.mk ?_);(try exact GLt)))
    all_goals (refine zaU (j+1) (by omega) (by omega) (by rw[hF];(refine zaC [0] ?_;repeat' first|exact .intro|refine Tw.mk ?_ ?_);all_goals (all_goals (first|(simp_all;done)|(simp_all;rw[Bool.eq_iff_iff];simp;done)))))
  .have e:j=l[k].2.2.length:=by omega
   subst e;rw[List.take_length,<-hS];unfold zaF;(all_goals refine gv ?_;repeat' first|exact .intro|refine Tw.mk ?_ ?_|(intro h;first|replace h:=h.o|cases h))
   all_goals (try omega)
   all_goals (try ((with_reducible refine Vc.mk ?_);(try exact GLt)))
   refine zaU (k+1) (by omega) (by omega) (by (refine zaC [] ?_;repeat' first|exact .intro|refine Tw.mk ?_ ?_))
 .have e:k=l.length:=by omega
  subst e;rw[List.take_length];unfold met;generalize mL a b l=Q;obtain⟨n,back⟩:=Q;cases back;all_goals
   (all_goals refine gv ?_;repeat' first|exact .intro|refine Tw.mk ?_ ?_|(intro h;first|replace h:=h.o|cases h))
   all_goals (try omega)
   all_goals (try ((with_reducible refine Vc.mk ?_);(try exact GLt)))
   all_goals exact Y13
noncomputable def zdP(l:List St3)(r:Int):List Hp:=if 1<=r/\r<=6 then hopsM (met l) r else []
theorem Pick.keep{far:Int->Int}{done:Int->Bool}{m a:Int}(h:Pick far done m a)(hm:1<=m)(hk:done m=true\/far m<0\/(a≠0/\far a<=far m)):Pick far done (m+1) a:=by
 rcases h with⟨h0,h1⟩|⟨h1,h2,h3,h4,h5⟩
 .refine .inl ⟨h0,λn hn hnm hd=>?_⟩;by_cases e:n=m
  .subst e;rcases hk with hk|hk|hk
   .rw[hk] at hd;cases hd
   .exact hk
   .exact absurd h0 hk.1
  .exact h1 n hn (by omega) hd
 .refine .inr ⟨h1,by omega,h3,h4,λn hn hnm hd h0=>?_⟩;by_cases e:n=m
  .subst e;rcases hk with hk|hk|hk
   .rw[hk] at hd;cases hd
   .omega
   .exact hk.2
  .exact h5 n hn (by omega) hd h0
theorem Pick.take{far:Int->Int}{done:Int->Bool}{m a:Int}(h:Pick far done m a)(hm:1<=m)(hd:done m=false)(h0:0<=far m)(hl:a=0\/far m<far a):Pick far done (m+1) m:=by
 refine .inr ⟨hm,by omega,hd,h0,λn hn hnm hdn hn0=>?_⟩;by_cases e:n=m
 .subst e;omega
 .rcases h with⟨g0,g1⟩|⟨g1,g2,g3,g4,g5⟩
  .have:=g1 n hn (by omega) hdn;omega
  .have:=g5 n hn (by omega) hdn hn0;rcases hl with hl|hl<;>omega
def farC(f:Int->Int):List AV:=[.v (.int .i64 (f 0)),.v (.int .i64 (f 1)),.v (.int .i64 (f 2)),.v (.int .i64 (f 3)),.v (.int .i64 (f 4)),.v (.int .i64 (f 5)),.v (.int .i64 (f 6))]
def donC(f:Int->Bool):List AV:=[.v (.bool (f 0)),.v (.bool (f 1)),.v (.bool (f 2)),.v (.bool (f 3)),.v (.bool (f 4)),.v (.bool (f 5)),.v (.bool (f 6))]
theorem DInv.start{M:Int->Int->Int}{r:Int}(hr:nod r):DInv M r (upd (λ_=> -1) r 0) (λ_=>0) (λ_=>false):=by
 refine⟨hr,zav _ _ _,λ_ n hn=>⟨rfl,λh=>by rw[zbM _ _ h];decide⟩,λn hn hne h0=>?_,λu hu hd=>(by cases hd),λu hu hd=>(by cases hd)⟩;rw[zbM _ _ hne] at h0;omega
theorem zif(f:Int->Bool):zcr f<=6:=by
 unfold zcr;exact List.countP_le_length
theorem DInv.hop{M:Int->Int->Int}{r:Int}{far next:Int->Int}{done:Int->Bool}(h:DInv M r far next done)(hend: ∀n,nod n->done n=false->far n<0){n:Int}(hn:nod n):zky M r n=if n≠r/\0<=far n then [(n,far n,next n)] else []:=by
 unfold zky;by_cases e:n=r
 .subst e;rw[zjm,if_neg (by simp)]
 .obtain⟨h1,h2⟩:=h.best hend hn e;by_cases h0:0<=far n
  .rw[zjI (h1 h0),if_pos ⟨e,h0⟩]
  .rw[zju (h2 h0),if_neg (by simp [h0])]
def pickA(l:List St3)(r:Int)(far next:Int->Int)(done:Int->Bool)(m a:Int):AS:=⟨[(0,.sl 3 (l.map zaF) none),(1,.v (.int .i64 r)),(5,.box 0 0),(6,.box 1 0),(7,.box 2 0),(9,.v (.int .i64 a)),(10,.v (.int .i64 m))],[.cells (farC far),.cells (farC next),.cells (donC done)]⟩
def relA(l:List St3)(r a:Int)(done:Int->Bool)(m:Int)(far next:Int->Int):AS:=⟨[(0,.sl 3 (l.map zaF) none),(1,.v (.int .i64 r)),(5,.box 0 0),(6,.box 1 0),(7,.box 2 0),(9,.v (.int .i64 a)),(11,.v (.int .i64 m))],[.cells (farC far),.cells (farC next),.cells (donC done)]⟩
inductive Pl where
 |done
 |op (i:Nat) (r:Pl)
 |br (i:Nat) (a:Pl) (j:Nat) (b:Pl)
 |b3 (i:Nat) (a:Pl) (j:Nat) (b:Pl) (k:Nat) (c:Pl)
 |b4 (i:Nat) (a:Pl) (j:Nat) (b:Pl) (k:Nat) (c:Pl) (l:Nat) (d:Pl)
def znZ:List (Nat×Pl)->Nat->Option Pl
 |[],_=>none
 |(i,c)::l,j=>match Nat.beq i j with
  |true=>some c
  |false=>znZ l j
def zbk(P:Program)(mt:Mut)(ops:Array Oper)(pl:Pl):(AS->Prop)->AS->Prop:=
 Pl.rec (motive:=λ_=>(AS->Prop)->AS->Prop) (λK A=>K A)
  (λi _ ir K A=>nthK ops.toList i λo=>vone P mt false ops o (ir K) A)
  (λi _ j _ ia ib K A=>(nthK ops.toList i λo=>vone P mt false ops o (ia K) A)/\nthK ops.toList j λo=>vone P mt false ops o (ib K) A)
  (λi _ j _ k _ ia ib ic K A=>(nthK ops.toList i λo=>vone P mt false ops o (ia K) A)/\(nthK ops.toList j λo=>vone P mt false ops o (ib K) A)/\nthK ops.toList k λo=>vone P mt false ops o (ic K) A)
  (λi _ j _ k _ l _ ia ib ic id K A=>(nthK ops.toList i λo=>vone P mt false ops o (ia K) A)/\(nthK ops.toList j λo=>vone P mt false ops o (ib K) A)/\(nthK ops.toList k λo=>vone P mt false ops o (ic K) A)/\nthK ops.toList l λo=>vone P mt false ops o (id K) A) pl
def safeP(P:Program)(ops:Array Oper)(b:List Nat)(listed:Array Bool)(i:Nat):Bool:=
 (List.range ops.size).all λj=>j==i||listed.getD j true||anc b j i||(match ops[i]?, ops[j]? with
  |some oi,some oj=>oi.apart ops oj&&zf6 (kd P false oi.op) (kd P false oj.op)
  |_,_=>true)
def zbR(P:Program)(ops:Array Oper)(b:List Nat):Pl->Nat->Array Bool->Bool
 | .done,_,listed=>(Region.ready .any ops listed).isEmpty
 | .op i r,n,listed=>match n with
  |0=>false
  |n+1=>(Region.ready .any ops listed).contains i&&safeP P ops b listed i&&zbR P ops b r n (listed.setIfInBounds i true)
 | .br i a j c,n,listed=>match n with
  |0=>false
  |n+1=>(Region.ready .any ops listed).contains i&&(Region.ready .any ops listed).all (λk=>k==i||k==j)&&zbR P ops b a n (listed.setIfInBounds i true)&&zbR P ops b c n (listed.setIfInBounds j true)
 | .b3 i a j c l d,n,listed=>match n with
  |0=>false
  |n+1=>(Region.ready .any ops listed).contains i&&(Region.ready .any ops listed).all (λk=>k==i||k==j||k==l)&&zbR P ops b a n (listed.setIfInBounds i true)&&zbR P ops b c n (listed.setIfInBounds j true)&&zbR P ops b d n (listed.setIfInBounds l true)
 | .b4 i a j c l d m e,n,listed=>match n with
  |0=>false
  |n+1=>(Region.ready .any ops listed).contains i&&(Region.ready .any ops listed).all (λk=>k==i||k==j||k==l||k==m)&&zbR P ops b a n (listed.setIfInBounds i true)&&zbR P ops b c n (listed.setIfInBounds j true)&&zbR P ops b d n (listed.setIfInBounds l true)&&zbR P ops b e n (listed.setIfInBounds m true)
def zlJ(P:Program)(ops:Array Oper)(pl:Pl):Bool:=
 ((
  List.range ops.size).all λi=>match ops[i]? with
  |some o=>kd P false o.op != 4
  |none=>true)&&zbR P ops (bef ops) pl ops.size (Array.replicate ops.size false)
section
variable {P:Program} {mt:Mut} {ops:Array Oper}
theorem zgo{o:Oper}{K:AS->Prop}{A B:AS}(hnk:kd P false o.op≠4)(hs:zal A B)(h:vone P mt false ops o K A): ∃C B',Ex P mt false ops o B B'/\zal C B'/\K C:=by
 have h':zcO P mt (λ_=>false) ops 0 [o] K A:=h;obtain⟨fr',hfr,hv⟩:=zfY h';exact Y36
theorem zcT{listed:Array Bool}{i:Nat}(h:(Region.ready .any ops listed).contains i=true):i∈Region.ready .any ops listed:=by simpa using h
theorem zc5{Q:AS->Prop}(hQ: ∀A B,zal A B->Q A->Q B)(hn: ∀(i:Nat) (o:Oper),ops[i]? =some o->kd P false o.op≠4):
  ∀(pl:Pl) (n:Nat) (listed:Array Bool) (A B:AS),zal A B->zf9 ops listed->zbR P ops (bef ops) pl n listed=true->zbk P mt ops pl Q A->aAny P mt (λ_=>false) ops Q n listed B
 | .done,n,listed,A,B,hs,hcl,hok,h=>by
  have hr:Region.ready .any ops listed=[]:=by
   unfold zbR at hok;exact List.isEmpty_iff.1 hok
  cases n with
  |zero=>exact⟨hr,hQ A B hs h⟩
  |succ n=>exact⟨λ_=>hQ A B hs h,λi hi=>by rw[hr] at hi;cases hi⟩
 | .op i r,n,listed,A,B,hs,hcl,hok,h=>by
  cases n with
  |zero=>simp [zbR] at hok
  |succ n=>
   simp only[zbR,Bool.and_eq_true] at hok;obtain⟨⟨h1,h2⟩,h3⟩:=hok;have hr:=zcT h1;obtain⟨o,ho,hv⟩:=zaH (show nthK ops.toList i (λo=>vone P mt false ops o (zbk P mt ops r Q) A) from h);have ho':ops[i]? =some o:=by simpa using ho
   obtain⟨C,B',hE,hsC,hK⟩:=zgo (hn i o ho') hs hv;refine zhY hQ hn ho' n listed B B' hcl (λj oj hj hne hun hno=>?_) hr hE (zc5 hQ hn r n _ C B' hsC (hcl.step hr) h3 hK);simp only[safeP,List.all_eq_true,List.mem_range,Bool.or_eq_true] at h2;rcases h2 j (Array.getElem?_eq_some_iff.1 hj).1 with ((g|g)|g)|g
   .exact absurd (by simpa using g) hne
   .rw[hun] at g;cases g
   .exact absurd (zoX g) hno
   .rw[ho',hj] at g;simpa[Bool.and_eq_true] using g
 | .br i a j b,n,listed,A,B,hs,hcl,hok,h=>by
  cases n with
  |zero=>simp [zbR] at hok
  |succ n=>
   simp only[zbR,Bool.and_eq_true] at hok;obtain⟨⟨⟨h1,h2⟩,h3⟩,h4⟩:=hok;have hr:=zcT h1;refine⟨λe=>(by rw[e] at hr;cases hr),λk hk=>?_⟩;have hk2:=List.all_eq_true.1 h2 k hk;simp only[Bool.or_eq_true,beq_iff_eq] at hk2;have hA:=(show (nthK ops.toList i λo=>vone P mt false ops o (zbk P mt ops a Q) A)/\nthK ops.toList j λo=>vone P mt false ops o (zbk P mt ops b Q) A from h);rcases hk2 with rfl|rfl
   .exact Y40
   .obtain⟨o,ho,hv⟩:=zaH hA.2;exact Y47
 | .b3 i a j b l c,n,listed,A,B,hs,hcl,hok,h=>by
  cases n with
  |zero=>simp [zbR] at hok
  |succ n=>
   simp only[zbR,Bool.and_eq_true] at hok;obtain⟨⟨⟨⟨h1,h2⟩,h3⟩,h4⟩,h5⟩:=hok;have hr:=zcT h1;refine⟨λe=>(by rw[e] at hr;cases hr),λk hk=>?_⟩;have hk2:=List.all_eq_true.1 h2 k hk;simp only[Bool.or_eq_true,beq_iff_eq] at hk2;have hA:=(show (nthK ops.toList i λo=>vone P mt false ops o (zbk P mt ops a Q) A)/\(nthK ops.toList j λo=>vone P mt false ops o (zbk P mt ops b Q) A)/\nthK ops.toList l λo=>vone P mt false ops o (zbk P mt ops c Q) A from h);rcases hk2 with (rfl|rfl)|rfl
   .exact Y40
   .obtain⟨o,ho,hv⟩:=zaH hA.2.1;exact Y47
   .obtain⟨o,ho,hv⟩:=zaH hA.2.2;exact Y79
 | .b4 i a j b l c q d,n,listed,A,B,hs,hcl,hok,h=>by
  cases n with
  |zero=>simp [zbR] at hok
  |succ n=>
   simp only[zbR,Bool.and_eq_true] at hok;obtain⟨⟨⟨⟨⟨h1,h2⟩,h3⟩,h4⟩,h5⟩,h6⟩:=hok;have hr:=zcT h1;refine⟨λe=>(by rw[e] at hr;cases hr),λk hk=>?_⟩;have hk2:=List.all_eq_true.1 h2 k hk;simp only[Bool.or_eq_true,beq_iff_eq] at hk2;have hA:=(show (nthK ops.toList i λo=>vone P mt false ops o (zbk P mt ops a Q) A)/\(nthK ops.toList j λo=>vone P mt false ops o (zbk P mt ops b Q) A)/\(nthK ops.toList l λo=>vone P mt false ops o (zbk P mt ops c Q) A)/\nthK ops.toList q λo=>vone P mt false ops o (zbk P mt ops d Q) A from h);rcases hk2 with ((rfl|rfl)|rfl)|rfl
   .exact Y40
   .obtain⟨o,ho,hv⟩:=zaH hA.2.1;exact Y47
   .obtain⟨o,ho,hv⟩:=zaH hA.2.2.1;exact Y79
   .obtain⟨o,ho,hv⟩:=zaH hA.2.2.2;have ho':ops[k]? =some o:=by simpa using ho
    obtain⟨C,B',hE,hsC,hK⟩:=zgo (hn k o ho') hs hv;unfold qOp;simp only[ho'];exact⟨B',hE,zc5 hQ hn d n _ C B' hsC (hcl.step hk) h6 hK⟩
theorem zbS{o:Oper}{K K':AS->Prop}{A:AS}(hnk:kd P false o.op≠4)(hk: ∀B,K B->K' B)(h:vone P mt false ops o K A):vone P mt false ops o K' A:=by
 obtain⟨fr,mem⟩:=A;simp only[vone,vpt_eq,zi7] at h ⊢;split at h
 .exact (zeL hnk).mono2 (λm v hv=>hk _ hv) h
 .split at h
  .simp only[zdx] at h ⊢;split at h
   .exact⟨λhb=>(zeL hnk).mono2 (λm v hv=>hk _ hv) (h.1 hb),λhb=>hk _ (h.2 hb)⟩
   .exact hk _ h
   .exact h.elim
  .exact h.elim
theorem zan(hn: ∀(i:Nat) (o:Oper),ops[i]? =some o->kd P false o.op≠4){K K':AS->Prop}(hk: ∀B,K B->K' B): ∀(pl:Pl) (A:AS),zbk P mt ops pl K A->zbk P mt ops pl K' A
 | .done,A,h=>hk A h
 | .op i r,A,h=>by
  obtain⟨o,ho,hv⟩:=zaH (show nthK ops.toList i (λo=>vone P mt false ops o (zbk P mt ops r K) A) from h);exact zbh ho (zbS (hn i o (by simpa using ho)) (λB hB=>zan hn hk r B hB) hv)
 | .br i a j b,A,h=>by
  have hA:=(show (nthK ops.toList i λo=>vone P mt false ops o (zbk P mt ops a K) A)/\nthK ops.toList j λo=>vone P mt false ops o (zbk P mt ops b K) A from h);obtain⟨o,ho,hv⟩:=zaH hA.1;obtain⟨o2,ho2,hv2⟩:=zaH hA.2;exact⟨zbh ho (zbS (hn i o (by simpa using ho)) (λB hB=>zan hn hk a B hB) hv),zbh ho2 (zbS (hn j o2 (by simpa using ho2)) (λB hB=>zan hn hk b B hB) hv2)⟩
 | .b3 i a j b l c,A,h=>by
  have hA:=(show (nthK ops.toList i λo=>vone P mt false ops o (zbk P mt ops a K) A)/\(nthK ops.toList j λo=>vone P mt false ops o (zbk P mt ops b K) A)/\nthK ops.toList l λo=>vone P mt false ops o (zbk P mt ops c K) A from h);obtain⟨o,ho,hv⟩:=zaH hA.1;obtain⟨o2,ho2,hv2⟩:=zaH hA.2.1;obtain⟨o3,ho3,hv3⟩:=zaH hA.2.2;exact⟨zbh ho (zbS (hn i o (by simpa using ho)) (λB hB=>zan hn hk a B hB) hv),zbh ho2 (zbS (hn j o2 (by simpa using ho2)) (λB hB=>zan hn hk b B hB) hv2),zbh ho3 (zbS (hn l o3 (by simpa using ho3)) (λB hB=>zan hn hk c B hB) hv3)⟩
 | .b4 i a j b l c q d,A,h=>by
  have hA:=(show (nthK ops.toList i λo=>vone P mt false ops o (zbk P mt ops a K) A)/\(nthK ops.toList j λo=>vone P mt false ops o (zbk P mt ops b K) A)/\(nthK ops.toList l λo=>vone P mt false ops o (zbk P mt ops c K) A)/\nthK ops.toList q λo=>vone P mt false ops o (zbk P mt ops d K) A from h);obtain⟨o,ho,hv⟩:=zaH hA.1;obtain⟨o2,ho2,hv2⟩:=zaH hA.2.1;obtain⟨o3,ho3,hv3⟩:=zaH hA.2.2.1;obtain⟨o4,ho4,hv4⟩:=zaH hA.2.2.2;exact⟨zbh ho (zbS (hn i o (by simpa using ho)) (λB hB=>zan hn hk a B hB) hv),zbh ho2 (zbS (hn j o2 (by simpa using ho2)) (λB hB=>zan hn hk b B hB) hv2),zbh ho3 (zbS (hn l o3 (by simpa using ho3)) (λB hB=>zan hn hk c B hB) hv3),zbh ho4 (zbS (hn q o4 (by simpa using ho4)) (λB hB=>zan hn hk d B hB) hv4)⟩
variable {n:Nat} {fp:Nat->Prop} {w0:Start}
theorem zn5{σ:zaM}{μ:zaJ}{Ds:Nat->Nat->Prop}{A:AS}{a:Act}{w:World}{id:Nat}{pl:Pl}{Q:Exit->Act->World->Prop}{K:AS->Prop}(hm:P.follows .mixedOrders=true)(hB:zlJ P ops pl=true)
  (hd:(ops.all λo=>match o.dst with|some t=>decide (t<n)|none=>true)=true) (hQ: ∀a w,zgt n fp w0 K a w->Q .normal a w) (h:Rel n fp w0 σ μ Ds A a w) (hq:zbk P mt ops pl K A):(Code.region id ops true).wp P Q a w:=by
 simp only[zlJ,Bool.and_eq_true,List.all_eq_true,List.mem_range] at hB;obtain⟨h1,h2⟩:=hB;refine wp_region_any hm ?_;have hn: ∀(i:Nat) (o:Oper),ops[i]? =some o->kd P false o.op≠4:=by
  intro i o ho;have:=h1 i (Array.getElem?_eq_some_iff.1 ho).1;rw[ho] at this;simpa using this
 have hcl:zf9 ops (Array.replicate ops.size false):=by
  intro j o hj;exfalso;simp [Array.getD_eq_getD_getElem?,Array.getElem?_replicate] at hj;split at hj<;>simp at hj
 have key:=zc5 (P:=P) (mt:=mt) (ops:=ops) (Q:=λA=> ∃B,zal B A/\K B) (λA B hs ⟨C,g1,g2⟩=>⟨C,g1.trans hs,g2⟩) hn pl ops.size (Array.replicate ops.size false) A A (zal.refl A) hcl h2 (zan hn (λB hB=>⟨B,zal.refl B,hB⟩) pl A hq);refine zb8 (fp:=fp) (w0:=w0) (Q:=λA=> ∃B,zal B A/\K B) (λa w ⟨A',σ',μ',Ds',⟨B,hs,hk⟩,hr⟩=>hQ a w ⟨B,σ',μ',Ds',hk,hr.same hs.symm⟩) ?_ _ _ A σ μ Ds a _ h.drew (by simpa using key);intro i o t ho ht;have:=Array.all_eq_true_iff_forall_mem.1 hd o (Array.mem_of_getElem? ho);rw[ht] at this;simpa using this
end
def pawp(ps:List (Nat×Pl))(P:Program)(mt:Mut)(k:Nat)(cuts:List Nat)(c:Code):(AS->Prop)->(Nat->AS->Prop)->(AS->Prop)->AS->Prop:=
 Code.rec (motive:=λ_=>(AS->Prop)->(Nat->AS->Prop)->(AS->Prop)->AS->Prop)
  (λK _ _ A=>K A)
  (λid ops draw K _ _ A=>match draw with
   |true=>match znZ ps id with
    |some pl=>zbk P mt ops pl K A
    |none=>zcO P mt (pfOf P ops (bef ops)) ops 0 ops.toList K A
   |false=>zcO P mt (λ_=>false) ops 0 ops.toList K A)
  (λ_ y ix iy K X R A=>match cutAt cuts y with
   |some i=>StopSeq k i (λK'=>ix K' X R) (iy K X R) A
   |none=>ix (iy K X R) X R A)
  (λc _ _ ix iy K X R A=>evV A.fr c λv=>match v with
   | .v (.bool b)=>(b=true->ix K X R A)/\(b=false->iy K X R A)
   |_=>False)
  (λid _ ic K X R A=>ic K (λi A=>match Nat.beq i id with
   |true=>K A
   |false=>X i A) R A)
  (λ_ ic _ X R A=>StopLoop k (λK'=>ic K' X R) A)
  (λ_ _ _ _ _ _ _ _ _ _=>False)
  (λid _ X _ A=>X id A)
  (λ_ ic K X R A=>ic K X R A)
  (λ_ K _ _ A=>K A)
  (λ_ _ _ _ _=>False)
  (λ_ _ R A=>R A)
  (λ_ _ _ _ _=>False) c
section
variable {ps:List (Nat×Pl)} {P:Program} {mt:Mut} {k:Nat} {cuts:List Nat} {K:AS->Prop} {X:Nat->AS->Prop} {R:AS->Prop} {A:AS} {x y:Code} {c:Operand}
theorem zkw{id:Nat}{ops:Array Oper}{draw:Bool}:pawp ps P mt k cuts (.region id ops draw) K X R A=match draw with
   |true=>match znZ ps id with
    |some pl=>zbk P mt ops pl K A
    |none=>zcO P mt (pfOf P ops (bef ops)) ops 0 ops.toList K A
   |false=>zcO P mt (λ_=>false) ops 0 ops.toList K A:=rfl
theorem pawp_seq:pawp ps P mt k cuts (.seq x y) K X R A=match cutAt cuts y with
   |some i=>StopSeq k i (λK'=>pawp ps P mt k cuts x K' X R) (pawp ps P mt k cuts y K X R) A
   |none=>pawp ps P mt k cuts x (pawp ps P mt k cuts y K X R) X R A:=rfl
theorem znn:pawp ps P mt k cuts (.cond c x y) K X R A=evV A.fr c λv=>match v with
   | .v (.bool b)=>(b=true->pawp ps P mt k cuts x K X R A)/\(b=false->pawp ps P mt k cuts y K X R A)
   |_=>False:=rfl
end
def zbe(ps:List (Nat×Pl))(P:Program)(n:Nat):Code->Bool
 | .region id ops draw=>(ops.all λo=>match o.dst with|some t=>decide (t<n)|none=>true)&&(!draw||(match znZ ps id with
  |some pl=>zlJ P ops pl
  |none=>zl3 P ops (pfOf P ops (bef ops))))
 | .seq x y=>zbe ps P n x&&zbe ps P n y
 | .cond _ x y=>zbe ps P n x&&zbe ps P n y
 | .block _ c=>zbe ps P n c
 | .loop c=>zbe ps P n c
 | .scope c=>zbe ps P n c
 |_=>true
section
variable {ps:List (Nat×Pl)} {P:Program} {mt:Mut} {n k:Nat} {cuts:List Nat} {fp:Nat->Prop} {w0:Start}
theorem zah(hm:P.follows .mixedOrders=true)(hk:w0.k=k): ∀(c:Code) {K:AS->Prop} {X:Nat->AS->Prop} {R:AS->Prop} {A:AS} {σ:zaM} {μ:zaJ} {Ds:Nat->Nat->Prop} {a:Act} {w:World},zbe ps P n c=true->Rel n fp w0 σ μ Ds A a w->pawp ps P mt k cuts c K X R A->c.wp P (CPost n fp w0 K X R) a w
 | .skip,K,X,R,A,σ,μ,Ds,a,w,_,h,hq=>wp_skip ⟨A,σ,μ,Ds,hq,h⟩
 | .label l,K,X,R,A,σ,μ,Ds,a,w,_,h,hq=>wp_label ⟨A,σ,μ,Ds,hq,h⟩
 | .exit id,K,X,R,A,σ,μ,Ds,a,w,_,h,hq=>wp_exit ⟨A,σ,μ,Ds,hq,h⟩
 | .ret,K,X,R,A,σ,μ,Ds,a,w,_,h,hq=>wp_ret ⟨A,σ,μ,Ds,hq,h⟩
 | .goto l,K,X,R,A,σ,μ,Ds,a,w,_,h,hq=>hq.elim
 | .refuse s,K,X,R,A,σ,μ,Ds,a,w,_,h,hq=>hq.elim
 | .rangeFunc f p x y,K,X,R,A,σ,μ,Ds,a,w,_,h,hq=>hq.elim
 | .region id ops draw,K,X,R,A,σ,μ,Ds,a,w,hok,h,hq=>by
  simp only[zbe,Bool.and_eq_true,Bool.or_eq_true,Bool.not_eq_true'] at hok;obtain⟨h1,h2⟩:=hok;rw[zkw] at hq;cases draw with
  |true=>
   simp only[Bool.true_eq_false,false_or] at h2;simp only at hq;cases hf:znZ ps id with
   |some pl=>
    rw[hf] at h2 hq;exact zn5 hm h2 h1 (λa w he=>he) h hq
   |none=>
    rw[hf] at h2 hq;exact zhb hm h2 h1 (λa w he=>he) h hq
  |false=>
   refine wp_region_list (zcu (λa w he=>he) _ 0 ?_ h hq);intro o ho t ht;have:=Array.all_eq_true_iff_forall_mem.1 h1 o (Array.mem_toList_iff.1 ho);rw[ht] at this;simpa using this
 | .seq x y,K,X,R,A,σ,μ,Ds,a,w,hok,h,hq=>by
  simp only[zbe,Bool.and_eq_true] at hok;rw[pawp_seq] at hq;split at hq
  .cases hq with
   |mk hq=>
    refine wp_seq (wp_mono (zah hm hk x hok.1 h hq) ?_);intro e a' w' he;cases e with
    |normal=>
     obtain⟨A',σ',μ',Ds',⟨B,hle,hK⟩,hr⟩:=he;obtain⟨σ2,μ2,D2,hr2⟩:=hle n fp w0 σ' μ' Ds' a' w' hk hr;exact zah hm hk y hok.2 hr2 hK
    |_=>exact he
   |mkE hq=>
    refine wp_seq (wp_mono (zah hm hk x hok.1 h hq) ?_);intro e a' w' he;cases e with
    |normal=>
     obtain⟨A',σ',μ',Ds',hto,hr⟩:=he;obtain⟨B,σ2,μ2,D2,hK,hr2⟩:=hto n fp w0 σ' μ' Ds' a' w' hk hr;exact zah hm hk y hok.2 hr2 hK
    |_=>exact he
  .refine wp_seq (wp_mono (zah hm hk x hok.1 h hq) ?_);intro e a' w' he;cases e with
   |normal=>
    obtain⟨A',σ',μ',Ds',hK,hr⟩:=he;exact zah hm hk y hok.2 hr hK
   |_=>exact he
 | .cond c x y,K,X,R,A,σ,μ,Ds,a,w,hok,h,hq=>by
  simp only[zbe,Bool.and_eq_true] at hok;rw[znn] at hq;simp only[evV_eq] at hq;split at hq
  .rename_i b hb;have hc:a.eval c=.bool b:=by have:=h.ev c;rw[hb] at this;exact this.inv_v
   refine wp_cond hc ?_;cases b with
   |true=>exact zah hm hk x hok.1 h (hq.1 rfl)
   |false=>exact zah hm hk y hok.2 h (hq.2 rfl)
  .exact hq.elim
 | .block id c,K,X,R,A,σ,μ,Ds,a,w,hok,h,hq=>by
  refine wp_block (wp_mono (zah hm hk c hok h hq) ?_);intro e a' w' he;cases e with
  |exit i=>
   obtain⟨A',σ',μ',Ds',hK,hr⟩:=he;simp only[Exit.inBlock];split
   .rename_i hi;subst hi;simp only[Nat.beq_refl] at hK;exact⟨A',σ',μ',Ds',hK,hr⟩
   .exact Y80
  |_=>exact he
 | .scope c,K,X,R,A,σ,μ,Ds,a,w,hok,h,hq=>by
  refine wp_scope_straight (wp_mono (zah hm hk c hok h hq) ?_);intro e a' w' he;cases e<;>exact he
 | .loop c,K,X,R,A,σ,μ,Ds,a,w,hok,h,hq=>by
  obtain⟨I,⟨n0,B,hle,hI⟩,hround⟩:=hq;have J0: ∃j B σ μ Ds,I j B/\Rel n fp w0 σ μ Ds B a w:=by
   exact Y108
  let J:Act->World->Nat->Prop:=λa w j=> ∃B σ μ Ds,I j B/\Rel n fp w0 σ μ Ds B a w
  let m:Act->World->Nat:=λa w=> @dite _ (∃j,J a w j) (Classical.propDecidable _) (λh=>Classical.choose (zcV h)) (λ_=>0)
  have hm1: ∀a w,(∃j,J a w j)->J a w (m a w)/\ ∀j,j<m a w-> ¬J a w j:=by
   intro a w h;have:=Classical.choose_spec (zcV h);simp only[m,dif_pos h];exact this
  refine wp_loop (λa w=> ∃j,J a w j) m J0 ?_;intro a w hJ;obtain⟨⟨B,σ,μ,Ds,hI,hr⟩,hmin⟩:=hm1 a w hJ;refine wp_mono (zah hm hk c hok hr (hround _ B hI)) ?_;intro e a' w' he;cases e with
  |normal=>
   obtain⟨A',σ',μ',Ds',⟨j,B',hj,hle',hI'⟩,hr'⟩:=he;obtain⟨σ2,μ2,D2,hr2⟩:=hle' n fp w0 σ' μ' Ds' a' w' hk hr';have hJ':J a' w' j:=⟨B',σ2,μ2,D2,hI',hr2⟩;refine⟨⟨j,hJ'⟩,?_⟩;have:=(hm1 a' w' ⟨j,hJ'⟩).2;rcases Nat.lt_or_ge j (m a' w') with g|g
   .exact absurd hJ' (this j g)
   .omega
  |_=>exact he
end
theorem fn_plan{P:Program}(hm:P.follows .mixedOrders=true)(ps:List (Nat×Pl))(mt:Mut)(cuts:List Nat){f:FuncId}{fn:Func}{c:Code}{args:List AV}{m:List Res}{r:AV}{m':List Res}(hf:P.funcs[f]? =some fn)(hb:fn.body=some c)(hname:(fn.name=="runtime.NumGoroutine")=false)
  {n:Nat} (hn:fn.ntmps=n) (hle:Nat.ble args.length n=true) {rs:List ResultVar} (hrs:fn.results.toList=rs) (h0:gen0 m=true) (hok:zbe ps P n c=true)
  (h:pawp ps P mt m.length cuts c (zhR P m.length rs r m') (λ_ _=>False) (zhR P m.length rs r m') ⟨zf1 0 args,m⟩):Fn P f args m r m':=by
 subst hn hrs;refine⟨⟨fn,hf,by rw[hb];rfl,hname⟩,λw σ μ Ds vs hag hmem hlen hargs=>?_⟩;have hle:=Nat.le_of_ble_eq_true hle;refine calls_of_wp hf hb ?_;let w0:Start:=⟨w,σ,μ,m.length,λi ao n cap g hi=>by
  have hlt:i<m.length:=by
   exact Y84
  obtain⟨z1,z2⟩:=zdf h0 i _ (List.getElem?_eq_getElem hlt);obtain⟨an,x1,x2⟩:=MemOk.an (A:=⟨[],m⟩) hmem (List.getElem?_eq_getElem hlt) z1;rw[hi] at x1;obtain rfl:=Option.some.inj x1;rcases x2 with⟨v,e,_⟩|⟨_,_,_,gA,e,hg⟩
  .cases e
  .cases e;rw[hg] at z2;exact z2⟩
 have hrel:Rel fn.ntmps (λb=> ∃id,Ds id b) w0 σ μ Ds ⟨zf1 0 args,m⟩ { tmps:=vs++Array.replicate (fn.ntmps-vs.size) undef,defers:=[] } w:=by
  exact Y22
 refine wp_mono (zah hm rfl c hok hrel h) ?_;have fin: ∀a' w',zgt fn.ntmps (λb=> ∃id,Ds id b) w0 (zhR P m.length fn.results.toList r m') a' w'->a'.defers=[]/\ ∃v,(results fn a'.tmps).run P w'=.ok v w' ∧
   ∃x σ' μ' Ds',(Ending.returned v:Ending)=.returned x/\Post σ μ Ds w r m' x σ' μ' Ds' w':=by
  rintro a' w' ⟨A0,σ0,μ0,Ds0,⟨A,hAB,hr⟩,hrel0⟩;obtain⟨σ',μ',Ds',hrel⟩:=hAB _ _ w0 σ0 μ0 Ds0 a' w' rfl hrel0;obtain⟨x,v,h1,h2,ρ,hnd,hp,hM,hK⟩:=zkE hrel hr;refine⟨hrel.defers,x,h1,x,σ',subG μ' ρ m',subD Ds' ρ m',rfl,⟨h2.sub hrel.mem hK,hrel.mem.sub (of_decide_eq_true hnd) hM,zgn hrel hp hM,hrel.agree,hrel.keeps,λb o hb hf=>hrel.old b o hb hf,hrel.mono,λid b hb=>?_⟩⟩;obtain⟨⟨i,_,h4⟩,_⟩:=hb;exact hrel.own i b h4
 intro e a' w' he;cases e with
 |normal=>exact fin a' w' he
 |ret=>exact fin a' w' he
 |exit id=>obtain⟨A,σ',μ,Ds,hr,hrel⟩:=he;exact hr.elim
 |_=>exact he.elim
theorem foP{P:Program}(hm:P.follows .mixedOrders=true)(ps:List (Nat×Pl))(mt:Mut)(cuts:List Nat){f:FuncId}{fn:Func}{c:Code}{args:List AV}{m:List Res}{r:AV}{m':List Res}(hf:P.funcs[f]? =some fn){n:Nat}(hn:fn.ntmps=n){rs:Array ResultVar}(hrs:fn.results=rs)(h:pawp ps P mt m.length cuts c (zhR P m.length rs.toList r m') (λ_ _=>False) (zhR P m.length rs.toList r m') ⟨zf1 0 args,m⟩)(hb:fn.body=some c:=by exact rfl)(hname:(fn.name=="runtime.NumGoroutine")=false:=by decide+kernel)(hle:Nat.ble args.length n=true:=by exact rfl)(h0:gen0 m=true:=by exact rfl)(hok:zbe ps P n c=true:=by decide+kernel):Fn P f args m r m':=fn_plan hm ps mt cuts hf hb hname hn hle (congrArg Array.toList hrs) h0 hok h
def zcD(m:List Res):OPred where
 rep σ w b D:= ∃μ Ds,MemOk σ μ w m Ds/\μ 0=some (.fix (.pointer (some ⟨b,0,none⟩)))/\ ∀k,D k↔ ∃i,Ds i k
 ext:=by
  rintro σ σ' w w' x D ⟨μ,Ds,h1,h2,h3⟩ hw hs;exact⟨μ,Ds,⟨λid r hr=>(h1.ok id r hr).ext rfl (Gle.refl _) (λb hb=>hw b ((h3 b).2 ⟨id,hb⟩)) hs,h1.apart,h1.out⟩,h2,h3⟩
 live:=by
  rintro σ w x D b ⟨μ,Ds,h1,h2,h3⟩ hb;obtain⟨i,hi⟩:=(h3 b).1 hb;exact h1.live hi
theorem shA_zero(a:An):shA 0 a=a:=by cases a<;>simp [shA]
theorem zpF{g:List (Nat×Nat)}{l:List Res}{j:Nat}:(za2 g l)[j]? =l[j]?.map (renR g 0):=by rw[zec,List.getElem?_map]
theorem zqY{g:List (Nat×Nat)}{l:List Res}:(za2 g l).length=l.length:=by rw[zec,List.length_map]
theorem zl2{σ:zaM}{μ μE:zaJ}{w:World}{mE mt:List Res}{DE:Nat->Nat->Prop}{ρ:List Nat}{L:Nat}(hm:MemOk σ μE w mE DE)(hag:zed σ w)(hg: ∀i a,i<L->μ i=some a-> ∃a',μE i=some a'/\a.le a')(hz: ∀i ao n cap g,i<L->μ i=some (.cur ao n cap g)->g=0)
  (hp:zdr mE 0 L ρ mt=true) (hM:RM mE mt ρ ρ mt) (hL:L<=mE.length): ∀i a,i<L->μ i=some a-> ∃a',subG μE ρ mt i=some a'/\a.le a':=by
 let w0:Start:=⟨w,σ,λi=>if i<L then μ i else none,L,(λi ao n cap g hi=>by
  have hi':(if i<L then μ i else none)=some (.cur ao n cap g):=hi;split at hi'
  .exact hz i ao n cap g (by assumption) hi'
  .cases hi')⟩
 have hrel:Rel 0 (λ_=>True) w0 σ μE DE ⟨[],mE⟩ { tmps:= #[],defers:=[] } w:=
  ⟨rfl,rfl,λt av h=>(by cases h),hag,hm,λ_ _ _=>.inr trivial,⟨rfl,rfl,rfl,Nat.le_refl _,λ_ _ _=>rfl⟩,λ_ _ _ h=>absurd trivial h,λ_ _ _ h=>h,(λi a ha=>by
   have ha':(if i<L then μ i else none)=some a:=ha;split at ha'
   .exact hg i a (by assumption) ha'
   .cases ha'),(λi hi=>if_neg (Nat.not_lt.2 hi)),hL⟩
 have:=zgn hrel hp hM;intro i a hi ha;exact this i a ((if_pos hi).trans ha)
theorem zkB{σ:zaM}{μ:zaJ}{w:World}{m:List Res}{Ds:Nat->Nat->Prop}(h:MemOk σ μ w m Ds){k:Nat}(h0:gen0 (m.take k)=true): ∀i ao n cap g,i<k->μ i=some (.cur ao n cap g)->g=0:=by
 intro i ao n cap g hik hi;have hlt:i<m.length:=by
  rcases Nat.lt_or_ge i m.length with q|q
  .exact q
  .rw[(h.out i q).1] at hi;cases hi
 obtain⟨z1,z2⟩:=zdf h0 i m[i] (by rw[List.getElem?_take,if_pos hik,List.getElem?_eq_getElem hlt]);obtain⟨an,x1,x2⟩:=MemOk.an (A:=⟨[],m⟩) h (List.getElem?_eq_getElem hlt) z1;rw[hi] at x1;obtain rfl:=Option.some.inj x1;rcases x2 with⟨v,e,_⟩|⟨_,_,_,gA,e,hg⟩
 .cases e
 .cases e;rw[hg] at z2;exact z2
def zmR(L:Nat)(ρ κ:List Nat):Bool:=(List.range ρ.length).all λj=>j==L|| !κ.contains (ρ.getD j 0)
theorem zh3{L:Nat}{ρ κ:List Nat}(h:zmR L ρ κ=true){j i:Nat}(hj:ρ[j]? =some i)(hne:j≠L)(hk:i∈κ):False:=by
 simp only[zmR,List.all_eq_true,List.mem_range,Bool.or_eq_true,beq_iff_eq,Bool.not_eq_true'] at h;have hlt:=(List.getElem?_eq_some_iff.1 hj).1;rcases h j hlt with e|e
 .exact hne e
 .rw[List.getD_eq_getElem?_getD,hj] at e;simp only[Option.getD_some] at e;have:κ.contains i=true:=by simpa using hk
  rw[this] at e;cases e
def zjc(m:List Res):Bool:=
 match m with
 | .cells _::_=>true
 |_=>false
theorem zaO{P:Program}{f:FuncId}{args:List AV}{rE r:AV}{pre m mE mt m':List Res}{ρ κ:List Nat}{L:Nat}(hF:Fn P f args (pre++za2 (extG L m.length) m) rE mE)(hL:pre.length=L)
  (h0:gen0 pre=true) (hρ:decide ρ.Nodup=true) (hκ:decide κ.Nodup=true) (hM:RM mE mt ρ ρ mt) (hO:RM mE m' κ κ m') (hr:RK mE mt ρ rE r) (hp:zdr mE 0 L ρ mt=true)
  (hρL:ρ[L]? =some L) (hκ0:κ[0]? =some L) (hap:zmR L ρ κ=true) (hg:(m'.all λq=> !zd3 q)=true):Fn P f args (pre++[.obj (zcD m)]) r (mt.set L (.obj (zcD m'))):=by
 subst hL;refine⟨hF.1,λw σ μ Ds vs hag hmem hlen hargs=>?_⟩;have hLlt:pre.length<(pre++[Res.obj (zcD m)]).length:=by simp
 obtain⟨b,hb,μ1,Ds1,hm1,h10,hD1⟩:=hmem.ok pre.length (.obj (zcD m)) (by simp);let μc:zaJ:=λi=>if i<pre.length then μ i else μ1 (i-pre.length)
 let Dc:Nat->Nat->Prop:=λi=>if i<pre.length then Ds i else Ds1 (i-pre.length)
 have hout: ∀i,pre.length<i->μ i=none:=λi hi=>(hmem.out i (by simp;omega)).1;have hDout: ∀i k,Ds i k->i<=pre.length:=λi k hk=>by
  rcases Nat.lt_or_ge pre.length i with g|g
  .exact absurd hk ((hmem.out i (by simp;omega)).2 k)
  .exact g
 have hgc:Gle μ μc:=λi a ha=>by
  rcases Nat.lt_trichotomy i pre.length with g|g|g
  .exact⟨a,by simp only[μc,if_pos g];exact ha,An.le_refl _⟩
  .subst g;rw[hb] at ha;obtain rfl:=Option.some.inj ha;exact⟨_,by simp only[μc,Nat.lt_irrefl,if_false,Nat.sub_self];exact h10,An.le_refl _⟩
  .rw[hout i g] at ha;cases ha
 have hNum:Num (extG pre.length m.length) μ1 μc:=λj a ha=>by
  have hj:j<m.length:=by
   rcases Nat.lt_or_ge j m.length with q|q
   .exact q
   .rw[(hm1.out j q).1] at ha;cases ha
  refine⟨pre.length+j,0,by rw[zfs,if_pos hj],?_⟩;simp only[μc];rw[if_neg (by omega),show pre.length+j-pre.length=j by omega,shA_zero];exact ha
 have hDc: ∀i k,Dc i k-> ∃j,Ds j k:=λi k hk=>by
  simp only[Dc] at hk;split at hk
  .exact⟨i,hk⟩
  .exact⟨pre.length,(hD1 k).2 ⟨_,hk⟩⟩
 have hmc:MemOk σ μc w (pre++za2 (extG pre.length m.length) m) Dc:=by
  refine⟨λid q hq=>?_,λi j k hi hj=>?_,λid hid=>?_⟩
  .rw[List.getElem?_append] at hq;split at hq
   .rename_i hlt;simp only[Dc,if_pos hlt];exact (hmem.ok id q (by rw[List.getElem?_append_left hlt];exact hq)).ext (by simp only[μc,if_pos hlt]) hgc (λ_ _=>⟨rfl,λ_=>rfl⟩) (λ_ _ _ h=>h)
   .rename_i hge;rw[zpF,Option.map_eq_some_iff] at hq;obtain⟨q0,hq0,rfl⟩:=hq;have hlt:=(List.getElem?_eq_some_iff.1 hq0).1;simp only[Dc,if_neg hge];have:=(hm1.ok _ q0 hq0).ren hNum (i:=id) (s:=0) (by rw[zfs,if_pos hlt];simp;omega);exact this
  .simp only[Dc] at hi hj;split at hi<;>split at hj
   .exact hmem.apart i j k hi hj
   .have:=hmem.apart i pre.length k hi ((hD1 k).2 ⟨_,hj⟩);omega
   .have:=hmem.apart j pre.length k hj ((hD1 k).2 ⟨_,hi⟩);omega
   .have:=hm1.apart _ _ k hi hj;omega
  .simp only[List.length_append,zqY] at hid;have h2:=hm1.out (id-pre.length) (by omega);refine⟨by simp only[μc];rw[if_neg (by omega)];exact h2.1,λk hk=>?_⟩;simp only[Dc] at hk;rw[if_neg (by omega)] at hk;exact h2.2 k hk
 refine (hF.2 w σ μc Dc vs hag hmc hlen (λi av x h1 h2=>(hargs i av x h1 h2).mono (λ_ _ _ h=>h) hgc)).mono ?_;rintro e w' ⟨x,σ',μE,DE,rfl,hpost⟩;have hs:=hpost.mem.sub (of_decide_eq_true hρ) hM;have ho:=hpost.mem.sub (of_decide_eq_true hκ) hO;have hlM:=(RM.get hM).1;have hLt:pre.length<mt.length:=by rw[<-hlM];exact (List.getElem?_eq_some_iff.1 hρL).1
 have hEL:μE pre.length=some (.fix (.pointer (some ⟨b,0,none⟩))):=by
  obtain⟨a',h1,h2⟩:=hpost.gle pre.length (.fix (.pointer (some ⟨b,0,none⟩))) (by simp only[μc,Nat.lt_irrefl,if_false,Nat.sub_self];exact h10);cases a' with
  |fix v=>simp only[An.le] at h2;subst h2;exact h1
  |cur=>exact h2.elim
 have hDk: ∀k,(∃i,subD DE κ m' i k)-> ∃i,i∈κ/\DE i k:=λk ⟨i,⟨i',h1,h2⟩,_⟩=>⟨i',List.mem_of_getElem? h1,h2⟩;let D':Nat->Nat->Prop:=λj=>if j=pre.length then (λk=> ∃i,subD DE κ m' i k) else subD DE ρ mt j
 refine⟨x,σ',subG μE ρ mt,D',rfl,⟨hpost.rep.sub hpost.mem hr,⟨λj q hj=>?_,λi j k hi hj=>?_,λj hj=>?_⟩,λi a ha=>?_,hpost.agree,?_,λc o hc hno=>hpost.old c o hc (λ⟨i,hi⟩=>hno (hDc i c hi)),hpost.mono,λj k hk=>?_⟩⟩
 .rw[List.getElem?_set] at hj;by_cases hjL:pre.length=j
  .subst hjL;rw[if_pos rfl,if_pos hLt] at hj;obtain rfl:=Option.some.inj hj;simp only[D',if_true];exact⟨b,zbL hρL hEL,_,_,ho,zbL hκ0 hEL,λk=>Iff.rfl⟩
  .rw[if_neg hjL] at hj;simp only[D',if_neg (λe:j=pre.length=>hjL e.symm)];exact hs.ok j q hj
 .exact Y44
 .exact Y90
 .rcases Nat.lt_trichotomy i pre.length with g|g|g
  .have hmt: ∀i,i<pre.length->(pre++[Res.obj (zcD m)])[i]? =pre[i]? :=λi hi=>List.getElem?_append_left hi;refine zl2 (μ:=μ) (L:=pre.length) hpost.mem hpost.agree (λi a hi ha=>hpost.gle i a (by simp only[μc,if_pos hi];exact ha)) (zkB hmem (k:=pre.length) (by rw[List.take_left];exact h0)) hp hM ?_ i a g ha;rcases Nat.lt_or_ge pre.length mE.length with q|q
   .omega
   .rw[(hpost.mem.out _ q).1] at hEL;cases hEL
  .subst g;rw[hb] at ha;obtain rfl:=Option.some.inj ha;exact⟨_,zbL hρL hEL,An.le_refl _⟩
  .rw[hout i g] at ha;cases ha
 .refine⟨hpost.keeps.os,hpost.keeps.tape,hpost.keeps.output,hpost.keeps.size,λk hk hno=>hpost.keeps.block k hk (λ⟨i,hi⟩=>hno (hDc i k hi))⟩
 .have key: ∀i,DE i k->w.heap.size<=k\/ ∃j,Ds j k:=λi hi=>by
   rcases hpost.own i k hi with g|⟨q,hq⟩
   .exact .inl g
   .exact .inr (hDc q k hq)
  exact Y91
theorem zev{P:Program}{f:FuncId}{args:List AV}{rE r:AV}{pre mE mt m':List Res}{ρ κ:List Nat}{L q0 k0:Nat}(hF:Fn P f args pre rE mE)(hL:pre.length=k0)
  (h0:gen0 pre=true) (hρ:decide ρ.Nodup=true) (hκ:decide κ.Nodup=true) (hM:RM mE mt ρ ρ mt) (hO:RM mE m' κ κ m') (hr:RK mE mt ρ rE r) (hp:zdr mE 0 k0 ρ mt=true)
  (hρL:ρ[L]? =some q0) (hκ0:κ[0]? =some q0) (hap:zmR L ρ κ=true) (hge:Nat.ble k0 L=true) (hh:zjc m'=true):Fn P f args pre r (mt.set L (.obj (zcD m'))):=by
 subst hL;have hge:=Nat.le_of_ble_eq_true hge;refine⟨hF.1,λw σ μ Ds vs hag hmem hlen hargs=>?_⟩;refine (hF.2 w σ μ Ds vs hag hmem hlen hargs).mono ?_;rintro e w' ⟨x,σ',μE,DE,rfl,hpost⟩;have hs:=hpost.mem.sub (of_decide_eq_true hρ) hM;have ho:=hpost.mem.sub (of_decide_eq_true hκ) hO;have hlM:=(RM.get hM).1;have hLt:L<mt.length:=by rw[<-hlM];exact (List.getElem?_eq_some_iff.1 hρL).1
 obtain⟨b,hb⟩: ∃b,subG μE κ m' 0=some (.fix (.pointer (some ⟨b,0,none⟩))):=by
  unfold zjc at hh;split at hh
  .obtain⟨b,c,T,h1,_⟩:=ho.ok 0 _ (by rfl);exact⟨b,h1⟩
  .cases hh
 have hEL:μE q0=some (.fix (.pointer (some ⟨b,0,none⟩))):=by
  simp only[subG,hκ0,Option.bind_some,Option.map_eq_some_iff] at hb;obtain⟨a,ha,hr⟩:=hb;cases a with
  |fix v=>simp only[reG,An.fix.injEq] at hr;subst hr;exact ha
  |cur=>simp [reG] at hr
 have hDk: ∀k,(∃i,subD DE κ m' i k)-> ∃i,i∈κ/\DE i k:=λk ⟨i,⟨i',h1,h2⟩,_⟩=>⟨i',List.mem_of_getElem? h1,h2⟩;let D':Nat->Nat->Prop:=λj=>if j=L then (λk=> ∃i,subD DE κ m' i k) else subD DE ρ mt j
 refine⟨x,σ',subG μE ρ mt,D',rfl,⟨hpost.rep.sub hpost.mem hr,⟨λj q hj=>?_,λi j k hi hj=>?_,λj hj=>?_⟩,λi a ha=>?_,hpost.agree,hpost.keeps,hpost.old,hpost.mono,λj k hk=>?_⟩⟩
 .rw[List.getElem?_set] at hj;by_cases hjL:L=j
  .subst hjL;rw[if_pos rfl,if_pos hLt] at hj;obtain rfl:=Option.some.inj hj;simp only[D',if_true];exact⟨b,zbL hρL hEL,_,_,ho,hb,λk=>Iff.rfl⟩
  .rw[if_neg hjL] at hj;simp only[D',if_neg (λe:j=L=>hjL e.symm)];exact hs.ok j q hj
 .exact Y44
 .exact Y90
 .have hik:i<pre.length:=by
   rcases Nat.lt_or_ge i pre.length with g|g
   .exact g
   .rw[(hmem.out i g).1] at ha;cases ha
  refine zl2 (μ:=μ) (L:=pre.length) hpost.mem hpost.agree (λi a hi ha=>hpost.gle i a ha) (zkB hmem (k:=pre.length) (by rw[List.take_length];exact h0)) hp hM ?_ i a hik ha;rcases Nat.lt_or_ge mE.length pre.length with q|q
  .exfalso;have h1:=(zeg hp).2 mE.length q;rw[Nat.zero_add] at h1;have hlt:mE.length<mt.length:=by
    have:=h1.1;have:=(List.getElem?_eq_some_iff.1 this).1;omega
   obtain⟨i',r',e1,e2,_⟩:=(RM.get hM).2 mE.length mt[mE.length] (List.getElem?_eq_getElem hlt);rw[h1.1] at e1;obtain rfl:=Option.some.inj e1;have:=(List.getElem?_eq_some_iff.1 e2).1;omega
  .exact q
 .have key: ∀i,DE i k->w.heap.size<=k\/ ∃j,Ds j k:=λi hi=>hpost.own i k hi;exact Y91
theorem zjj{k:Nat}{fr:List (Nat×AV)}{mem:List Res}(t id:Nat){g n E sz:Nat}{rows:List (List AV)}(h:lk fr t=.arr id g n)(hid:mem[id]? =some (.arr true E sz g rows)):
  AS.le k ⟨fr,mem⟩ ⟨(t,.sl sz (rows.take n) none)::fr,mem.set id .gone⟩:=by
 intro nn fp w0 σ μ Ds a w hk hr;have hlt:id<mem.length:=(List.getElem?_eq_some_iff.1 hid).1;obtain⟨ao,cap,xs,h1,h2,h3,h4,h5,h6⟩:=hr.mem.ok id _ hid;have hev:=hr.ev (.tmp t);rw[show evO fr (.tmp t)=lk fr t from rfl,h] at hev;obtain⟨ao2,m,cap2,an,hx,k1,k2,k3,hmu,hle⟩:=hev.inv_arr;rw[h1] at hmu;obtain rfl:=Option.some.inj hmu;obtain⟨_,hle⟩:=hle;obtain⟨e1,e2,e3⟩:=hle rfl;subst e1 e3;let σ':zaM:=λb o=>if blkA ao=some b then xs[o]? else σ b o
 have hs: ∀b o y,σ b o=some y->σ' b o=some y:=λb o y hy=>by
  dsimp only[σ'];split
  .rename_i e;rw[h5 b ((h6 b).2 e) o] at hy;cases hy
  .exact hy
 have hag:zed σ' w:=λb o y hy=>by
  dsimp only[σ'] at hy;split at hy
  .rename_i e;exact zkA h2 e hy
  .exact hr.agree b o y hy
 have hu:=hr.upd (id:=id) (r:=.gone) (D:=λ_=>False) (an:=.cur ao rows.length cap g) (σ':=σ') (w':=w) (Nat.le_of_lt hlt) (Nat.le_refl _) rfl rfl rfl
  (λb hb hd=>⟨rfl,λo=>if_neg (λe=>hd ((h6 b).2 e))⟩) hs hag (λb hb=>hb) (λb hb=>hb.elim) (λx hx=>by rw[h1] at hx;obtain rfl:=Option.some.inj hx;exact An.le_refl _)
 have hp:putR mem id .gone=mem.set id .gone:=zb9 hlt;rw[show (⟨fr,mem⟩:AS).mem=mem from rfl,hp] at hu;have hlen:(rows.take n).length=n:=by rw[List.length_take];omega
 have hrep:RepV σ' (updG μ id (.cur ao rows.length cap g)) (.sl sz (rows.take n) none) (.slice ao n cap):=by
  have hget: ∀(i:Nat) (r:List AV),(rows.take n)[i]? =some r->rows[i]? =some r:=λi r hi=>by
   rw[List.getElem?_take] at hi;split at hi
   .exact hi
   .cases hi
  have hao:rows.take n=[]\/ ∃b,ao=some ⟨b,0,none⟩:=by
   exact Y74
  have key: ∀b,(rows.take n=[]\/ao=some ⟨b,0,none⟩)->RepV σ' (updG μ id (.cur ao rows.length cap g)) (.sl sz (rows.take n) none) (.slice ao (rows.take n).length cap):=by
   exact Y30
  rcases hao with hao|⟨b,hao⟩
  .have:=key 0 (.inl hao);rw[hlen] at this;exact this
  .have:=key b (.inr hao);rw[hlen] at this;exact this
 have hx':a.tmps.getD t undef=.slice ao n cap:=hx;refine⟨_,_,_,⟨hu.defers,hu.size,λu av hu'=>?_,hu.agree,hu.mem,hu.own,hu.keeps,hu.old,hu.mono,hu.gle,hu.kout,hu.klen⟩⟩;simp only[look] at hu';split at hu'
 .rename_i e;subst e;obtain rfl:=Option.some.inj hu';rw[hx'];exact hrep
 .exact hu.frame u av hu'
section
variable {m m':List Res} {ρ:List Nat}
theorem zp1(x:Value):RVal x x:=by
 unfold RVal;split
 .rename_i k n;show tt (kEq k k) (Vc (n=n));rw[zcj];exact⟨rfl⟩
 .exact⟨rfl⟩
 .exact⟨rfl⟩
 .exact⟨rfl⟩
theorem zmH{v:AV}(h:v.free0=true):RK0 m m' ρ v v:=by
 cases v with
 |any=>trivial
 |v x=>exact zp1 x
 |err k=>exact⟨rfl⟩
 |sl sz rows own=>
  cases own with
  |none=>exact⟨rfl,.inl rfl⟩
  |some p=>simp [AV.free0] at h
 |adr c=>exact⟨rfl⟩
 |_=>simp [AV.free0] at h
theorem zir: ∀{l:List AV},(∀x∈l,x.free0=true)->RKL0 m m' ρ l l
 |[],_=>trivial
 |a::l,h=>⟨zmH (h a (List.mem_cons_self ..)),zir λx hx=>h x (List.mem_cons_of_mem _ hx)⟩
theorem zla{v:AV}(h:v.free1=true):RK1 m m' ρ v v:=by
 by_cases hv:v.free0=true
 .have:=zmH (m:=m) (m':=m') (ρ:=ρ) hv;cases v<;>first|exact this|(simp [AV.free0] at hv)
 .cases v with
  |agg l=>exact zir (List.all_eq_true.1 h)
  |_=>exact absurd h hv
theorem zj7: ∀{l:List AV},(∀x∈l,x.free1=true)->RKL1 m m' ρ l l
 |[],_=>trivial
 |a::l,h=>⟨zla (h a (List.mem_cons_self ..)),zj7 λx hx=>h x (List.mem_cons_of_mem _ hx)⟩
theorem zbH{v:AV}(h:v.free=true):RK m m' ρ v v:=by
 by_cases hv:v.free1=true
 .have:=zla (m:=m) (m':=m') (ρ:=ρ) hv;cases v<;>first|exact this|(simp [AV.free1,AV.free0] at hv)
 .cases v with
  |tup l=>exact zj7 (List.all_eq_true.1 h)
  |_=>exact absurd h hv
end
def fzLL(l:List (List AV)):(List (List AV)->Prop)->Prop:=
 List.rec (motive:=λ_=>(List (List AV)->Prop)->Prop) (λK=>K []) (λa _ ih K=>fzL a λa=>ih λl=>K (a::l)) l
theorem znq: ∀{l:List (List AV)} {K:List (List AV)->Prop},fzLL l K=K l
 |[],K=>rfl
 |a::l,K=>by
  show (fzL a λa=>fzLL l λl=>K (a::l))=_;rw[fzL_eq,znq (l:=l)]
def fzR2(r:Res)(K:Res->Prop):Prop:=
 match r with
 | .gone=>K .gone
 | .cells l=>fzL l λl=>K (.cells l)
 | .grow e s g=>fzN s λs=>fzN g λg=>K (.grow e s g)
 | .arr true e s g r=>fzN s λs=>fzN g λg=>K (.arr true e s g r)
 | .arr false e s g r=>fzN s λs=>fzN g λg=>fzLL r λr=>K (.arr false e s g r)
 | .obj p=>K (.obj p)
 | .map a b c=>K (.map a b c)
 |r=>K r
theorem fzR2_eq{r:Res}{K:Res->Prop}:fzR2 r K=K r:=by
 cases r with
 |arr f=>cases f<;>simp [fzR2,fzN_eq,znq]
 |_=>simp [fzR2,fzL_eq,fzN_eq]
def fzM2(l:List Res):(List Res->Prop)->Prop:=
 List.rec (motive:=λ_=>(List Res->Prop)->Prop) (λK=>K []) (λa _ ih K=>fzR2 a λa=>ih λl=>K (a::l)) l
theorem zqO: ∀{l:List Res} {K:List Res->Prop},fzM2 l K=K l
 |[],K=>rfl
 |a::l,K=>by
  show (fzR2 a λa=>fzM2 l λl=>K (a::l))=_;rw[fzR2_eq,zqO (l:=l)]
def fzP(l:List (Nat×Nat)):(List (Nat×Nat)->Prop)->Prop:=
 List.rec (motive:=λ_=>(List (Nat×Nat)->Prop)->Prop) (λK=>K []) (λa _ ih K=>fzW a.1 λi=>fzN a.2 λj=>ih λl=>K ((i,j)::l)) l
theorem fzP_eq: ∀{l:List (Nat×Nat)} {K:List (Nat×Nat)->Prop},fzP l K=K l
 |[],K=>rfl
 |a::l,K=>by
  show (fzW a.1 λi=>fzN a.2 λj=>fzP l λl=>K ((i,j)::l))=_;rw[zow,fzN_eq,fzP_eq (l:=l)]
def prs(mem:List Res):List Nat->List (Nat×Nat)
 |[]=>[]
 |i::is=>(i,(genM mem i).getD 0)::prs mem is
noncomputable def mrg(g:List (Nat×Nat))(mem:List Res):Nat->List (Nat×Nat)->List Res->List Res:=
 List.rec (motive:=λ_=>Nat->List (Nat×Nat)->List Res->List Res) (λ_ ps rs=>match ps with
  |[]=>za2 g rs
  |_::_=>[]) (λa mem ih j ps rs=>match ps with
  |[]=>a::(mem++za2 g rs)
  |p::qs=>match rs with
   |[]=>a::mem
   |r::ss=>match Nat.beq p.1 j with
    |true=>renR g p.2 r::ih (j+1) qs ss
    |false=>a::ih (j+1) (p::qs) (r::ss)) mem
def upw:Nat->Nat->List Nat->Bool
 |_,_,[]=>true
 |j,n,i::is=>match Nat.ble j i with
  |true=>match Nat.blt i n with
   |true=>upw (i+1) n is
   |false=>false
  |false=>false
theorem zhv{j n i:Nat}{is:List Nat}(h:upw j n (i::is)=true):j<=i/\i<n/\upw (i+1) n is=true:=by
 unfold upw at h;split at h
 .rename_i h1;split at h
  .rename_i h2;exact⟨Nat.le_of_ble_eq_true h1,Nat.le_of_ble_eq_true h2,h⟩
  .cases h
 .cases h
theorem znu{mem0:List Res}{g:List (Nat×Nat)}: ∀(mem pre:List Res) (is:List Nat) (rs:List Res),upw pre.length (pre.length+mem.length) is=true->setsM mem0 g is rs (pre++mem)=pre++mrg g mem pre.length (prs mem0 is) rs
 |mem,pre,[],rs,h=>by
  cases mem with
  |nil=>show (pre++[])++za2 g rs=pre++za2 g rs;simp
  |cons a mem=>show (pre++a::mem)++za2 g rs=pre++(a::(mem++za2 g rs));simp
 |[],pre,i::is,rs,h=>by
  have:=zhv h;simp at this;omega
 |a::mem,pre,i::is,rs,h=>by
  obtain⟨h1,h2,h3⟩:=zhv h;cases rs with
  |nil=>rfl
  |cons r rs=>
   by_cases hi:i=pre.length
   .subst hi;have e1:(pre++a::mem).set pre.length (renR g ((genM mem0 pre.length).getD 0) r)=(pre++[renR g ((genM mem0 pre.length).getD 0) r])++mem:=by simp
    have ih:=znu (mem0:=mem0) (g:=g) mem (pre++[renR g ((genM mem0 pre.length).getD 0) r]) is rs (by
     simp only[List.length_append,List.length_cons,List.length_nil] at h3 ⊢;rw[show pre.length+(0+1)+mem.length=pre.length+(mem.length+1) by omega];exact h3)
    show setsM mem0 g is rs ((pre++a::mem).set pre.length (renR g ((genM mem0 pre.length).getD 0) r))=pre++(match Nat.beq pre.length pre.length with
     |true=>renR g ((genM mem0 pre.length).getD 0) r::mrg g mem (pre.length+1) (prs mem0 is) rs
     |false=>_)
    rw[e1,ih,Nat.beq_refl];simp
   .have e2:Nat.beq i pre.length=false:=by
     cases e:Nat.beq i pre.length with
     |false=>rfl
     |true=>exact absurd (Nat.eq_of_beq_eq_true e) hi
    have ih:=znu (mem0:=mem0) (g:=g) mem (pre++[a]) (i::is) (r::rs) (by
     simp only[List.length_append,List.length_cons,List.length_nil];unfold upw;rw[Nat.ble_eq_true_of_le (show pre.length+(0+1)<=i by omega)];dsimp only;rw[show Nat.blt i (pre.length+(0+1)+mem.length)=true from Nat.ble_eq_true_of_le (by simp at h2;omega)];dsimp only;rw[show pre.length+(0+1)+mem.length=pre.length+(mem.length+1) by omega];simpa using h3)
    rw[show pre++a::mem=(pre++[a])++mem by simp,ih];show _=pre++(match Nat.beq i pre.length with
     |true=>_
     |false=>a::mrg g mem (pre.length+1) ((i,(genM mem0 i).getD 0)::prs mem0 is) (r::rs))
    rw[e2];simp [prs]
theorem prs_eq{mem:List Res}{L c:Nat}: ∀{ρ:List Nat},rhoG mem L c ρ=prs mem ρ++extG L c
 |[]=>rfl
 |i::is=>by simp [rhoG,prs,prs_eq]
theorem zjn{n:Nat}: ∀{is:List Nat} {j:Nat},upw j n is=true->is.Nodup/\ ∀i∈is,j<=i
 |[],_,_=>⟨List.nodup_nil,λi h=>by cases h⟩
 |i::is,j,h=>by
  obtain⟨h1,h2,h3⟩:=zhv h;obtain⟨h4,h5⟩:=zjn h3;refine⟨List.nodup_cons.2 ⟨λhm=>by have:=h5 i hm;omega,h4⟩,λk hk=>?_⟩;rcases List.mem_cons.1 hk with rfl|hk
  .exact h1
  .have:=h5 k hk;omega
theorem zlW{P:Program}{f:FuncId}{l:List AV}{mem:List Res}{K:MK}{args:List AV}{m:List Res}{r:AV}{m':List Res}(ρ:List Nat)(hF:Fn P f args m r m')(h0:gen0 m=true)(hup:upw 0 mem.length ρ=true)(hle:Nat.ble m.length m'.length=true)(hM:RM mem m ρ ρ m)(hA:RKL1 mem m ρ l args)
  (k:fzP (prs mem ρ) λps=>fzP (ps++extG mem.length (m'.length-ρ.length)) λg=>fzM2 (mrg g mem 0 ps m') λM=>fz (ren g r) λR=>K M R):StopCall P f l mem K:=
 ⟨args,m,r,m',ρ,hF,h0,decide_eq_true (zjn hup).1,hle,hM,hA,by
  rw[fzP_eq,fzP_eq,zqO,fz_eq] at k;unfold zcL zg3;rw[prs_eq];have:=znu (mem0:=mem) (g:=prs mem ρ++extG mem.length (m'.length-ρ.length)) mem [] ρ m' (by simpa using hup);simp only[List.nil_append,List.length_nil] at this;rw[this];exact k⟩
theorem StopCall.fz{P:Program}{f:FuncId}{l:List AV}{mem:List Res}{K:MK}{args:List AV}{m:List Res}{r:AV}{m':List Res}(ρ:List Nat)(hF:Fn P f args m r m')
  (k:fzP (prs mem ρ) λps=>fzP (ps++extG mem.length (m'.length-ρ.length)) λg=>fzM2 (mrg g mem 0 ps m') λM=>fz (ren g r) λR=>K M R) (h0:gen0 m=true:=by exact rfl) (hup:upw 0 mem.length ρ=true:=by exact rfl) (hle:Nat.ble m.length m'.length=true:=by exact rfl) (hM:RM mem m ρ ρ m:=by exact grt) (hA:RKL1 mem m ρ l args:=by exact grt):StopCall P f l mem K:=zlW ρ hF h0 hup hle hM hA k
end Go.Proofs.YtimfnpjcedjmiadGreat
