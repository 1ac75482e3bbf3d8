/- Lemmas. -/
import Derived.Test.YtimfnpjcedjmiadGreatK9
set_option maxRecDepth 100000
set_option maxHeartbeats 64000000
set_option linter.all false
namespace Go.Proofs.YtimfnpjcedjmiadGreat
open Go.RowKit
theorem zmr(l:List St3)(r:Int)(far next:Int->Int)(done:Int->Bool)(m a:Int)(hm1:1<=m)(hm:m<=6)(ha:a=0\/(1<=a/\a<m))(K:AS->Prop)(X:Nat->AS->Prop)(R:AS->Prop)
  (hk:(done m=true\/far m<0\/(a≠0/\far a<=far m))-> ∀A,AS.le 0 A (pickA l r far next done (m+1) a)->K A)
  (ht:done m=false->0<=far m->(a=0\/far m<far a)-> ∀A,AS.le 0 A (pickA l r far next done (m+1) m)->K A):
  vawp Tryz.prog [] 0 [8,11,19] (zeM Tryz.f39 2) K X R (pickA l r far next done m a):=by
 refine or6 (by omega:m=1\/m=2\/m=3\/m=4\/m=5\/m=6) (λem=>?_) (λem=>?_) (λem=>?_) (λem=>?_) (λem=>?_) (λem=>?_);all_goals
  refine or6 (by omega:a=0\/a=1\/a=2\/a=3\/a=4\/a=5) (λea=>?_) (λea=>?_) (λea=>?_) (λea=>?_) (λea=>?_) (λea=>?_)
 all_goals (try (exfalso;omega))
 all_goals
  subst em ea;((all_goals (try (repeat' (conv=>whnf);(first|with_reducible refine And.intro ?_ ?_|with_reducible exact True.intro|(intro h;(first|cases h|((try simp only[vis,Int.reduceToNat] at h);(try (exfalso;omega)))))|(with_reducible refine Vc.mk ?_;fail)|(with_reducible refine cutG ?_;fail)|refine zap ?_ ?_|refine zaa ?_ ?_ ?_|(refine StopAt.mk (by decide) (by decide) ?_)))));(all_goals (first|omega|(conv=>whnf)|skip)))
  all_goals (try omega)
  all_goals (try ((with_reducible refine Vc.mk ?_);(try exact GLt)))
  all_goals first
   |(
     refine ht (by assumption) (by assumption) (by omega) _ ?_;(refine zaC [0,1,2] ?_;repeat' first|exact .intro|refine Tw.mk ?_ ?_))
   |(
     refine hk (by first|(exact .inl (by assumption))|(exact .inr (by omega))) _ ?_;(refine zaC [0,1,2] ?_;repeat' first|exact .intro|refine Tw.mk ?_ ?_))
def outA(r:Int)(far next:Int->Int)(out:List Hp)(n:Int):AS:=⟨[(1,.v (.int .i64 r)),(5,.box 0 0),(6,.box 1 0),(14,.sl 3 (out.map hRow) (some (2,1))),(15,.v (.int .i64 n))],[.cells (farC far),.cells (farC next),.grow 79 3 1]⟩
theorem zor(r:Int)(far next:Int->Int)(out:List Hp)(hout:out.length<=6)(n:Int)(h1:1<=n)(h6:n<=6)(K:AS->Prop)(X:Nat->AS->Prop)(R:AS->Prop)
  (hk: ∀A,AS.le 0 A (outA r far next (out++(if n≠r/\0<=far n then [(n,far n,next n)] else [])) (n+1))->K A):
  vawp Tryz.prog [] 0 [8,11,19] (zeM Tryz.f39 4) K X R (outA r far next out n):=by
 by_cases hc:n≠r/\0<=far n
 .rw[if_pos hc] at hk;refine or6 (by omega:n=1\/n=2\/n=3\/n=4\/n=5\/n=6) (λen=>?_) (λen=>?_) (λen=>?_) (λen=>?_) (λen=>?_) (λen=>?_);all_goals
   subst en;((all_goals (try (repeat' (conv=>whnf);(first|with_reducible refine And.intro ?_ ?_|with_reducible exact True.intro|(intro h;(first|cases h|((try simp only[vis,Int.reduceToNat] at h);(try (exfalso;omega)))))|(with_reducible refine Vc.mk ?_;fail)|(with_reducible refine cutG ?_;fail)|refine zap ?_ ?_|refine zaa ?_ ?_ ?_|(refine StopAt.mk (by decide) (by decide) ?_)))));(all_goals (first|omega|(conv=>whnf)|skip)))
   all_goals (try omega)
   all_goals (try ((with_reducible refine Vc.mk ?_);(try exact GLt)))
   all_goals (refine hk _ ?_;(refine zaC [0,1,2] ?_;repeat' first|exact .intro|refine Tw.mk ?_ ?_);all_goals (all_goals (try first|rfl|(simp [hRow,viewR,viewL,AV.view];done))))
 .rw[if_neg hc] at hk;refine or6 (by omega:n=1\/n=2\/n=3\/n=4\/n=5\/n=6) (λen=>?_) (λen=>?_) (λen=>?_) (λen=>?_) (λen=>?_) (λen=>?_);all_goals
   subst en;((all_goals (try (repeat' (conv=>whnf);(first|with_reducible refine And.intro ?_ ?_|with_reducible exact True.intro|(intro h;(first|cases h|((try simp only[vis,Int.reduceToNat] at h);(try (exfalso;omega)))))|(with_reducible refine Vc.mk ?_;fail)|(with_reducible refine cutG ?_;fail)|refine zap ?_ ?_|refine zaa ?_ ?_ ?_|(refine StopAt.mk (by decide) (by decide) ?_)))));(all_goals (first|omega|(conv=>whnf)|skip)))
   all_goals (try omega)
   all_goals (try ((with_reducible refine Vc.mk ?_);(try exact GLt)))
   all_goals (refine hk _ ?_;(refine zaC [0,1,2] ?_;repeat' first|exact .intro|refine Tw.mk ?_ ?_);all_goals (all_goals (try first|rfl|(simp;done))))
def escP(n:Nat):Bool:=let c:=UInt8.ofNat n;if c=126\/c=125\/c.toNat<32 then decide (c^^^32≠126)&&decide (c^^^32≠125)&&decide (32<=(c^^^32).toNat)&&decide (c^^^32^^^32=c) else true
theorem escP_all: ∀n:Fin 256,escP n.val=true:=by decide+kernel
theorem esc_of{c:UInt8}(h:c=126\/c=125\/c.toNat<32):c^^^32≠126/\c^^^32≠125/\32<=(c^^^32).toNat/\c^^^32^^^32=c:=by
 have h1:=escP_all ⟨c.toNat,UInt8.toNat_lt c⟩;unfold escP at h1;simp only[UInt8.ofNat_toNat] at h1;rw[if_pos h] at h1;simpa[and_assoc] using h1
structure Clean (r:Rd):Prop where
 ok:r.ok
 e:r.e=false
 x:r.x=false
theorem zoy{r:Rd}(h:r.ok):r.b.length=r.n:=by
 obtain⟨h1,h2,h3⟩:=h;unfold Rd.b;rw[List.length_take];omega
theorem rd_push{r:Rd}(h:Clean r){c:UInt8}(h1:c≠126)(h2:c≠125)(h3: ¬c.toNat<32)(h4:r.n+1<=62):zaj r c=⟨r.b++[c],r.n+1,false,false⟩:=by
 unfold zaj;rw[if_neg h1,if_neg h2,if_neg h3,if_neg (by omega),h.e,h.x];rfl
theorem rd_b{r:Rd}(h:r.ok)(c:UInt8):Rd.b ⟨r.b++[c],r.n+1,false,false⟩=r.b++[c]:=by
 show (r.b++[c]).take (r.n+1)=_;exact List.take_of_length_le (by simp [zoy h])
theorem zhW{r:Rd}{o:List (List UInt8)}{n:Nat}{c:UInt8}(h:zax r c=false):rdS (r,o,n) c=(zaj r c,o,n):=by simp [rdS,h]
theorem zes{r:Rd}{c:UInt8}(h:c≠126):zax r c=false:=by unfold zax;rw[decide_eq_false h];rfl
theorem rd_esc{r:Rd}(h:Clean r)(c:UInt8)(h4:r.n+1<=62)(o:List (List UInt8))(n:Nat):(escB c).foldl rdS (r,o,n)=(⟨r.b++[c],r.n+1,false,false⟩,o,n):=by
 unfold escB;split
 .rename_i hc;obtain⟨g1,g2,g3,g4⟩:=esc_of hc;simp only[List.foldl_cons,List.foldl_nil];have e1:zaj r 125=⟨r.buf,r.n,true,false⟩:=by
   unfold zaj;rw[if_neg (by decide),if_pos rfl,h.e,h.x];rfl
  rw[zhW (c:=125) (zes (by decide)),e1,zhW (zes g1)];congr 1
  unfold zaj;rw[if_neg g1,if_neg g2,if_neg (by omega),if_neg (by show ¬62<r.n+1;omega)];simp only[if_true,g4];rfl
 .rename_i hc;simp only[not_or] at hc;simp only[List.foldl_cons,List.foldl_nil];rw[zhW (zes hc.1),rd_push h hc.1 hc.2.1 hc.2.2 h4]
theorem zo2: ∀(l:List UInt8) (r:Rd) (o:List (List UInt8)) (n:Nat),Clean r->r.n+l.length<=62-> ∃r',(l.flatMap escB).foldl rdS (r,o,n)=(r',o,n)/\Clean r'/\r'.b=r.b++l
 |[],r,o,n,h,hl=>⟨r,rfl,h,by simp⟩
 |c::l,r,o,n,h,hl=>by
  simp only[List.length_cons] at hl;rw[List.flatMap_cons,List.foldl_append,rd_esc h c (by omega)];have hlen:=zoy h.ok;obtain⟨r',h1,h2,h3⟩:=zo2 l ⟨r.b++[c],r.n+1,false,false⟩ o n ⟨⟨by simp [hlen],by show r.n+1<=62;omega,by simp [hlen];omega⟩,rfl,rfl⟩ (by show r.n+1+l.length<=62;omega);refine⟨r',h1,h2,?_⟩;rw[h3,rd_b h.ok];simp
theorem u8_nat{n:Nat}(h:n<256):(u8 (n:Int)).toNat=n:=by
 unfold u8;rw[UInt8.toNat_ofNat'];omega
theorem zme(l:List UInt8):zhV (zbI l)=0:=by
 have hs:=zov l;have hl:(zbI l).length=l.length+2:=by simp [zbI]
 have h0:(zbI l).getD (l.length) 0=u8 (sumL l):=by
  rw[List.getD_eq_getElem?_getD];unfold zbI;rw[List.getElem?_append_right (Nat.le_refl _)];simp
 have h1:(zbI l).getD (l.length+1) 0=u8 ((sumL l / 256:Nat):Int):=by
  rw[List.getD_eq_getElem?_getD];unfold zbI;rw[List.getElem?_append_right (by omega)];simp
 have h2:(zbI l).take l.length=l:=by unfold zbI;simp
 unfold zhV;rw[hl,if_neg (by omega),show l.length+2-2=l.length by omega,show l.length+2-1=l.length+1 by omega,h0,h1,h2];have e0:(u8 (sumL l)).toNat=sumL l%256:=by
  rw[show u8 (sumL l)=u8 ((sumL l%256:Nat):Int) from by unfold u8;congr 2;omega];exact u8_nat (by omega)
 have e1:(u8 ((sumL l / 256:Nat):Int)).toNat=sumL l / 256:=u8_nat (by omega);rw[e0,e1,if_pos (by omega)]
theorem rd_frm{r:Rd}(h:Clean r)(hn:r.n=0){l:List UInt8}(hl:l.length<=60)(o:List (List UInt8))(n:Nat):(frm l).foldl rdS (r,o,n)=(⟨[],0,false,false⟩,o++[l],n):=by
 have htl:(zbI l).length=l.length+2:=by simp [zbI]
 have hb0:r.b=[]:=by unfold Rd.b;rw[hn];rfl
 unfold frm frmO;rw[List.foldl_append,List.foldl_append];have d0:zax r 126=false:=by unfold zax;rw[hn,h.e,h.x];rfl
 have s0:zaj r 126=r:=by unfold zaj;rw[if_pos rfl,if_neg (by rw[d0];decide)]
 have f0:[126].foldl rdS (r,o,n)=(r,o,n):=by
  simp only[List.foldl_cons,List.foldl_nil];rw[zhW d0,s0]
 rw[f0];obtain⟨r',h1,h2,h3⟩:=zo2 (zbI l) r o n h (by rw[hn,htl];omega);rw[h1];rw[hb0,List.nil_append] at h3;have hlen:=zoy h2.ok;rw[h3,htl] at hlen;have d1:zax r' 126=true:=by unfold zax;rw[h2.e,h2.x,decide_eq_false (by omega: ¬r'.n=0)];rfl
 have e1:rdE r'=0:=by unfold rdE;rw[h2.x,h2.e,if_neg (by decide),h3];exact zme l
 have t1:rdT r'=l:=by
  unfold rdT;rw[if_pos e1,h3,htl,show l.length+2-2=l.length by omega];unfold zbI;simp
 have s1:zaj r' 126=⟨[],0,false,false⟩:=by unfold zaj;rw[if_pos rfl,if_pos d1]
 simp only[List.foldl_cons,List.foldl_nil,rdS,d1,e1,s1,t1,decide_true,Bool.and_self,if_true,Bool.not_true,Bool.and_false,Bool.false_eq_true,if_false]
theorem zqD: ∀(l:List UInt8) (r:Rd) (o:List (List UInt8)) (n:Nat),l.foldl rdS (r,o,n)=((zaP r l).1,o++(zaP r l).2.1,n+(zaP r l).2.2)
 |[],r,o,n=>by simp [zaP]
 |c::l,r,o,n=>by
  have e1:zaP r (c::l)=l.foldl rdS (rdS (r,[],0) c):=rfl;rw[List.foldl_cons,e1];generalize hq:rdS (r,o,n) c=q;generalize hq':rdS (r,[],0) c=q';obtain⟨a,b,d⟩:=q;obtain⟨a',b',d'⟩:=q';rw[zqD l a b d,zqD l a' b' d'];simp only[rdS,Prod.mk.injEq] at hq hq';obtain⟨rfl,rfl,rfl⟩:=hq;obtain⟨rfl,rfl,rfl⟩:=hq';refine Prod.ext rfl (Prod.ext ?_ ?_)
  .simp only;split<;>simp
  .simp only;split<;>omega
theorem rdAll_append(r:Rd)(a b:List UInt8):zaP r (a++b)=((zaP (zaP r a).1 b).1,(zaP r a).2.1++(zaP (zaP r a).1 b).2.1,(zaP r a).2.2+(zaP (zaP r a).1 b).2.2):=by
 have:zaP r (a++b)=b.foldl rdS (zaP r a):=by unfold zaP;rw[List.foldl_append]
 rw[this];generalize zaP r a=q;obtain⟨x,y,z⟩:=q;exact zqD b x y z
theorem rd_init:Clean ⟨[],0,false,false⟩:=⟨⟨Nat.le_refl _,by decide,by decide⟩,rfl,rfl⟩
theorem zpL{l:List UInt8}(hl:l.length<=60):zaP ⟨[],0,false,false⟩ (frm l)=(⟨[],0,false,false⟩,[l],0):=rd_frm rd_init rfl hl [] 0
theorem zfA: ∀(ls:List (List UInt8)),(∀l∈ls,l.length<=60)->zaP ⟨[],0,false,false⟩ (ls.flatMap frm)=(⟨[],0,false,false⟩,ls,0)
 |[],h=>rfl
 |l::ls,h=>by
  rw[List.flatMap_cons,rdAll_append,zpL (h l (List.mem_cons_self ..)),zfA ls (λx hx=>h x (List.mem_cons_of_mem _ hx))];rfl
theorem zo5(c d:UInt8)(h:d∈escB c):d≠126/\32<=d.toNat:=by
 unfold escB at h;split at h
 .rename_i hc;obtain⟨g1,g2,g3,g4⟩:=esc_of hc;simp only[List.mem_cons,List.not_mem_nil,or_false] at h;rcases h with rfl|rfl
  .exact⟨by decide,by decide⟩
  .exact⟨g1,g3⟩
 .rename_i hc;simp only[not_or] at hc;simp only[List.mem_cons,List.not_mem_nil,or_false] at h;subst h;exact⟨hc.1,by omega⟩
end Go.Proofs.YtimfnpjcedjmiadGreat
namespace Go.Proofs.YtimfnpjcedjmiadGreat
theorem zlk: ∀(l:List UInt8) (r:Rd) (o:List (List UInt8)) (n:Nat),(∀c∈l,c≠126)->(l.foldl rdS (r,o,n)).2.1=o
 |[],r,o,n,_=>rfl
 |c::l,r,o,n,h=>by
  rw[List.foldl_cons,zhW (zes (h c (by simp)))];exact zlk l _ o n (λd hd=>h d (by simp [hd]))
theorem frm_form(t:List UInt8):frm t=126::((zbI t).flatMap escB++[126]):=by unfold frm frmO;simp
theorem frm_mid{t:List UInt8}{c:UInt8}(h:c∈(zbI t).flatMap escB):c≠126:=by
 obtain⟨d,_,hd⟩:=List.mem_flatMap.1 h;exact (zo5 d c hd).1
theorem rd_part{t x y:List UInt8}(h:x++y=frm t)(hy:y≠[]):(zaP rd0 x).2.1=[]:=by
 cases x with
 |nil=>rfl
 |cons c x=>
  rw[frm_form] at h;have hc1:=(List.cons.inj h).1;have hc2:x++y=(zbI t).flatMap escB++[126]:=(List.cons.inj h).2;subst hc1;clear h;have hq: ∀c∈x,c≠126:=by
   intro c hc;obtain⟨z,hz⟩:=List.eq_nil_or_concat y |>.resolve_left hy;obtain⟨q,rfl⟩:=hz;rw[List.concat_eq_append,<-List.append_assoc] at hc2;have h2:=(List.append_inj' hc2 rfl).1;exact frm_mid (by rw[<-h2];simp [hc])
  unfold zaP;rw[List.foldl_cons];have h0:rdS (rd0,[],0) 126=(zaj rd0 126,[],0):=zhW rfl;rw[h0];exact zlk x _ [] 0 hq
def Txs(ts:List (List UInt8)):Prop:= ∀t∈ts,t.length<=60
def Flow(r:Rd)(w:List UInt8)(ts:List (List UInt8)):Prop:=Txs ts/\ ∃x,(zaP rd0 x).1=r/\(zaP rd0 x).2.1=[]/\x++w=ts.flatMap frm
theorem ziP:Flow rd0 [] []:=⟨λt h=>(by cases h),[],rfl,rfl,rfl⟩
theorem flow_put{r:Rd}{w:List UInt8}{ts us:List (List UInt8)}(h:Flow r w ts)(hu:Txs us):Flow r (w++us.flatMap frm) (ts++us):=by
 obtain⟨h1,x,h2,h3,h4⟩:=h;refine⟨λt ht=>?_,x,h2,h3,?_⟩
 .rcases List.mem_append.1 ht with g|g
  .exact h1 t g
  .exact hu t g
 .rw[<-List.append_assoc,h4,List.flatMap_append]
theorem zjP: ∀{ts:List (List UInt8)} {y w:List UInt8},y++w=ts.flatMap frm-> ∃(n:Nat) (x:List UInt8),y=(ts.take n).flatMap frm++x/\x++w=(ts.drop n).flatMap frm/\(zaP rd0 x).2.1=[]
 |[],y,w,h=>by
  have:y=[]:=(List.append_eq_nil_iff.1 h).1;subst this;exact⟨0,[],rfl,h,rfl⟩
 |t::ts,y,w,h=>by
  rw[List.flatMap_cons] at h;by_cases hl:(frm t).length<=y.length
  .obtain⟨z,rfl⟩: ∃z,y=frm t++z:=by
    refine⟨y.drop (frm t).length,?_⟩;have h2:=congrArg (List.take (frm t).length) h;rw[List.take_append_of_le_length hl,List.take_left'] at h2
    .have h3:=(List.take_append_drop (frm t).length y).symm;rw[h2] at h3;exact h3
    .rfl
   rw[List.append_assoc] at h;obtain⟨n,x,h1,h2,h3⟩:=zjP (List.append_cancel_left h);exact⟨n+1,x,by rw[h1];simp,by simpa using h2,h3⟩
  .refine⟨0,y,by simp,by simpa using h,?_⟩;have h2:y++(frm t).drop y.length=frm t:=by
    have h3:=congrArg (List.take y.length) h;rw[List.take_left' rfl,List.take_append_of_le_length (by omega)] at h3;conv=>lhs;lhs;rw[h3]
    rw[List.take_append_drop]
   exact rd_part h2 (λe=>by
    have:=congrArg List.length e;rw[List.length_drop] at this;simp at this;omega)
theorem zoz{r:Rd}{s w:List UInt8}{ts:List (List UInt8)}(h:Flow r (s++w) ts): ∃n,(zaP r s).2.1=ts.take n/\Flow (zaP r s).1 w (ts.drop n):=by
 obtain⟨h1,x,h2,h3,h4⟩:=h;rw[<-List.append_assoc] at h4;obtain⟨n,z,e1,e2,e3⟩:=zjP h4;have hT:Txs (ts.take n):=λt ht=>h1 t (List.mem_of_mem_take ht);have key:=rdAll_append rd0 x s;rw[e1,rdAll_append rd0,show zaP rd0 ((ts.take n).flatMap frm)=(rd0,ts.take n,0) from zfA _ hT] at key;dsimp only at key;rw[h2,h3,e3] at key;have k1:=congrArg (λq=>q.1) key;have k2:=congrArg (λq=>q.2.1) key;dsimp only at k1 k2;rw[List.append_nil,List.nil_append] at k2;exact⟨n,k2.symm,λt ht=>h1 t (List.mem_of_mem_drop ht),z,k1,e3,e2⟩
end Go.Proofs.YtimfnpjcedjmiadGreat
namespace Go.Proofs.YtimfnpjcedjmiadGreat
open Go.RowKit Go.ChangeShapes Go.WideShapes Go.ChangeAt Go.Deep
structure caIn (c:Ca):Prop where
 a:I64 c.a
 pa:I64 c.pa
 b:I64 c.b
 pb:I64 c.pb
 m:I64 c.m
def zlj(c:Ca):List Value:=[.int .i64 c.a,.int .i64 c.pa,.int .i64 c.b,.int .i64 c.pb,.int .i64 c.m]
def zqV(w:World)(v:Value):Prop:= ∃l:List Ca,l.length<=maxLen/\(∀c∈l,caIn c)/\RepV (allS w) noG (.sl 5 (l.map zcZ) none) v
theorem c_cable{H:Type}{enc:TypeId×Value->H}{w:World}{spare:Nat->Bool}{held:Bool}{fuel:Nat}{cs:List Value}{x:DataW H×List MemPlace}(hx:DataW.trod enc Tryz.prog w 0 spare held fuel 35 cs=some x):
  ∃c:Ca,cs=zlj c/\caIn c:=by
 obtain⟨xs,n,_,_,hl,hlen,hf⟩:=DataW.trod_struct Tryz.underlying35 hx;have hc:Tryz.prog.cellsOf 35=5:=by kernel_rfl
 have ci:Tryz.prog.cellsOf 3=1:=by kernel_rfl
 rw[hc] at hl;have h0:=hf 0 _ rfl;have h1:=hf 1 _ rfl;have h2:=hf 2 _ rfl;have h3:=hf 3 _ rfl;have h4:=hf 4 _ rfl;clear hf
 match cs,hl,xs,hlen with
 |[v0,v1,v2,v3,v4],_,[y0,y1,y2,y3,y4],_=>
  simp only[ci,List.getElem?_cons_zero,List.getElem?_cons_succ,List.drop_zero,List.drop_succ_cons,List.take_succ_cons,List.take_zero] at h0 h1 h2 h3 h4;obtain⟨a,e0,_,w0⟩:=DataW.trod_int Tryz.underlying3 h0;obtain⟨b,e1,_,w1⟩:=DataW.trod_int Tryz.underlying3 h1;obtain⟨c,e2,_,w2⟩:=DataW.trod_int Tryz.underlying3 h2;obtain⟨d,e3,_,w3⟩:=DataW.trod_int Tryz.underlying3 h3;obtain⟨e,e4,_,w4⟩:=DataW.trod_int Tryz.underlying3 h4;cases e0;cases e1;cases e2;cases e3;cases e4;exact⟨⟨a,b,c,d,e⟩,rfl,⟨za6 w0,za6 w1,za6 w2,za6 w3,za6 w4⟩⟩
theorem g_cables{H:Type}{enc:TypeId×Value->H}{w:World}{v:Value}{d:DataW H}{p:List MemPlace}(hv:Value.okWide Tryz.prog w .any 0 22 v)(h:DataW.Trod enc Tryz.prog w 0 (λ_=>true) true 22 v d p):zqV w v:=by
 obtain⟨a0,len,cap,rfl⟩:=okWide_slice Tryz.underlying22 hv;obtain⟨fuel,hf⟩:=h;obtain⟨ao,cp,rows,hcs,hl,hm,hr,ha⟩:=zcA Tryz.underlying22 5 (by kernel_rfl) (by decide)
  (E:=λr=> ∃c:Ca,r=zlj c/\caIn c) (λfuel cs x hx=>c_cable hx) hf
 obtain⟨l,rfl,hp⟩:=ziM (λr h=>(hr r h).2);simp [Value.cells] at hcs;obtain⟨rfl,rfl,rfl⟩:=hcs;refine⟨l,by
        have:l.length<=cap:=by simpa using hl
        exact Nat.le_trans this hm,λs hs=>hp s hs,?_⟩
 exact zic (f:=zlj) (by simpa using hl) hm ha (λx=>⟨rfl,λv hv=>by simp [zlj] at hv;rcases hv with rfl|rfl|rfl|rfl|rfl<;>rfl⟩)
end Go.Proofs.YtimfnpjcedjmiadGreat
