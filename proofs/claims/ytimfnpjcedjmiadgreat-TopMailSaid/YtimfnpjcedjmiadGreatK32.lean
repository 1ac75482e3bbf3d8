/- Lemmas. -/
import Derived.Test.YtimfnpjcedjmiadGreatK31
set_option maxRecDepth 100000
set_option maxHeartbeats 64000000
set_option linter.all false
namespace Go.Proofs.YtimfnpjcedjmiadGreat
open Go.RowKit
theorem za5{k:Nat}{fr fr':List (Nat×AV)}{mem mem':List Res}{Q:Prop}(q:Q)(hnd:decide ((List.range mem'.length).Nodup)=true:=by exact rfl)(hp:zdr mem 0 k (List.range mem'.length) mem'=true:=by exact rfl)(r:Q->RM mem mem' (List.range mem'.length) (List.range mem'.length) mem'/\RF mem mem' (List.range mem'.length) fr fr':=by (intro q;exact gr q)):AS.le k ⟨fr,mem⟩ ⟨fr',mem'⟩:=zg4 _ hnd hp (r q).1 (r q).2
theorem ziz{k:Nat}{mem:List Res}{v r:AV}{m':List Res}{Q:Prop}(q:Q)(hnd:decide ((List.range m'.length).Nodup)=true:=by exact rfl)(hp:zdr mem 0 k (List.range m'.length) m'=true:=by exact rfl)(h:Q->RM mem m' (List.range m'.length) (List.range m'.length) m'/\RK mem m' (List.range m'.length) v r:=by (intro q;exact gr q)):StopRet k mem v r m':=⟨_,hnd,hp,(h q).1,(h q).2⟩
theorem zbW{P:Program}{f:FuncId}{l:List AV}{mem:List Res}{K:MK}{args:List AV}{m:List Res}{r:AV}{m':List Res}(hF:Fn P f args m r m')
  (k:fzP (prs mem (List.range m.length)) λps=>fzP (ps++extG mem.length (m'.length-(List.range m.length).length)) λg=>fzM2 (mrg g mem 0 ps m') λM=>fz (ren g r) λR=>K M R) (h0:gen0 m=true:=by exact rfl) (hup:upw 0 mem.length (List.range m.length)=true:=by exact rfl) (hle:Nat.ble m.length m'.length=true:=by exact rfl) (hM:RM mem m (List.range m.length) (List.range m.length) m:=by exact grt) (hA:RKL1 mem m (List.range m.length) l args:=by exact grt):StopCall P f l mem K:=zlW _ hF h0 hup hle hM hA k
theorem zop{ι:Type}{P:Program}{f:FuncId}{args:List AV}{ret:AV}{p p':OPred}{m m':ι->List Res}(i0:ι)
  (hin: ∀(σ:zaM) (w:World) (b:Nat) (D:Nat->Prop),p.rep σ w b D-> ∃v μ Ds,MemOk σ μ w (m v) Ds/\μ 0=some (.fix (.pointer (some ⟨b,0,none⟩)))/\ ∀k,D k↔ ∃i,Ds i k)
  (hout: ∀(v:ι) (σ:zaM) (w:World) (b:Nat) (μ:zaJ) (Ds:Nat->Nat->Prop),MemOk σ μ w (m' v) Ds->μ 0=some (.fix (.pointer (some ⟨b,0,none⟩)))->p'.rep σ w b (λk=> ∃i,Ds i k))
  (hF: ∀v,Fn P f (.box 0 0::args) (m v) ret (m' v)) (ha:args.all AV.free=true) (hr:ret.free=true):Fn P f (.box 0 0::args) [.obj p] ret [.obj p']:=by
 refine⟨(hF i0).1,λw σ μ Ds vs hag hmem hlen hargs=>?_⟩;obtain⟨b,hb,hrep⟩:=hmem.ok 0 _ rfl;obtain⟨v,μ1,Ds1,hm1,h10,hD1⟩:=hin σ w b _ hrep;refine ((hF v).2 w σ μ1 Ds1 vs hag hm1 hlen (λi av y h1 h2=>?_)).mono ?_
 .cases i with
  |zero=>
   simp only[List.getElem?_cons_zero,Option.some.injEq] at h1;subst h1;have:=hargs 0 (.box 0 0) y rfl h2;cases this with
   |box _ _ _ b' h=>
    rw[hb] at h;simp only[Option.some.injEq,An.fix.injEq,Value.pointer.injEq,Addr.mk.injEq] at h;obtain⟨rfl,_⟩:=h;exact .box _ 0 0 b h10
  |succ i=>
   simp only[List.getElem?_cons_succ] at h1;exact (hargs (i+1) av y (by simpa using h1) h2).free (List.all_eq_true.1 ha av (List.mem_of_getElem? h1))
 .rintro e w' ⟨x,σ',μE,DE,rfl,hpost⟩;have hfp: ∀k,(∃id,Ds1 id k)-> ∃id,Ds id k:=λk h=>⟨0,(hD1 k).2 h⟩;have hE0:μE 0=some (.fix (.pointer (some ⟨b,0,none⟩))):=by
   obtain⟨a,h1,h2⟩:=hpost.gle 0 _ h10;cases a with
   |fix x=>simp only[An.le] at h2;subst h2;exact h1
   |cur=>exact h2.elim
  refine⟨x,σ',λi=>if i=0 then μE 0 else none,λi k=>i=0/\ ∃j,DE j k,rfl,⟨hpost.rep.free hr,⟨λid q hq=>?_,λi j k hi hj=>hi.1.trans hj.1.symm,λid hid=>?_⟩,λi a hi=>?_,hpost.agree,⟨hpost.keeps.os,hpost.keeps.tape,hpost.keeps.output,hpost.keeps.size,λk hk hno=>hpost.keeps.block k hk (λh=>hno (hfp k h))⟩,λc o hc hno=>hpost.old c o hc (λh=>hno (hfp c h)),hpost.mono,λid k hk=>?_⟩⟩
  .cases id with
   |zero=>
    simp only[List.getElem?_cons_zero,Option.some.injEq] at hq;subst hq;refine⟨b,by simp only[if_true];exact hE0,?_⟩;have:=hout v σ' w' b μE DE hpost.mem hE0;have e:(λk=>0=0/\ ∃j,DE j k)=λk=> ∃j,DE j k:=by funext k;simp
    show p'.rep σ' w' b (λk=>0=0/\ ∃j,DE j k);rw[e];exact this
   |succ i=>simp at hq
  .exact Y65
  .by_cases h0:i=0
   .subst h0;rw[hb] at hi;obtain rfl:=Option.some.inj hi;exact⟨_,by simp only[if_true];exact hE0,An.le_refl _⟩
   .rw[(hmem.out i (by simp;omega)).1] at hi;cases hi
  .obtain⟨j,hj⟩:=hk.2;exact (hpost.own j k hj).imp (λh=>h) (hfp k)
theorem zns{N:Nt}(hk:1<=N.ib.length)(hrs:N.rs.length=N.ib.length)(σ:zaM)(w:World)(b:Nat)(D:Nat->Prop)(h:(zcD (ntM N 0)).rep σ w b D): ∃v μ Ds,MemOk σ μ w (ntE N v 0) Ds/\μ 0=some (.fix (.pointer (some ⟨b,0,none⟩)))/\ ∀k,D k↔ ∃i,Ds i k:=by
 obtain⟨μ1,Ds1,h1,h2,h3⟩:=h;obtain⟨v,D2,q1,q2⟩:=memE_of hk hrs h1;exact⟨v,_,D2,q1,(if_pos (Nat.zero_le _)).trans h2,λk=>(h3 k).trans (q2 k).symm⟩
theorem zoi{N:Nt}{v:Nat->Nat}{g:Nat}(hrs:N.rs.length=N.ib.length)(σ:zaM)(w:World)(b:Nat)(μ:zaJ)(Ds:Nat->Nat->Prop)(h:MemOk σ μ w (ntE N v g) Ds)(h0:μ 0=some (.fix (.pointer (some ⟨b,0,none⟩)))):(zcD (ntM N 0)).rep σ w b (λk=> ∃i,Ds i k):=by
 obtain⟨μ',D,q1,q2,q3⟩:=memM_of hrs h;exact⟨μ',D,q1,q2.trans h0,λk=>(q3 k).symm⟩
theorem fn_E{f:FuncId}{args:List AV}{ret:AV}{N N':Nt}{g k n d e n' d' e':Nat}(hk:1<=k)(hN:N.ok k n d e)(hN':N'.ok k n' d' e')(hF: ∀v,Fn Tryz.prog f (.box 0 0::args) (ntE N v 0) ret (ntE N' v g))(ha:args.all AV.free=true)(hr:ret.free=true):Fn Tryz.prog f (.box 0 0::args) [ntO N] ret [ntO N']:=
 zop (λ_=>0) (zns (by rw[hN.ib];exact hk) (by rw[hN.ib,hN.rs])) (λv=>zoi (by rw[hN'.ib,hN'.rs])) hF ha hr
def ntX(N:Nt)(v:Nat->Nat):Res:=.obj (zcD (ntE N v 0))
theorem fn_X{f:FuncId}{args:List AV}{ret:AV}{N N':Nt}{v:Nat->Nat}(hF:Fn Tryz.prog f (.box 0 0::args) (ntE N v 0) ret (ntE N' v 0))(ha:args.all AV.free=true)(hr:ret.free=true):Fn Tryz.prog f (.box 0 0::args) [ntX N v] ret [ntX N' v]:=
 zop (ι:=Unit) () (λσ w b D ⟨μ,Ds,h1,h2,h3⟩=>⟨(),μ,Ds,h1,h2,h3⟩) (λ_ σ w b μ Ds h h0=>⟨μ,Ds,h,h0,λk=>Iff.rfl⟩) (λ_=>hF) ha hr
theorem znW{σ:zaM}{μ:zaJ}{w:World}{mem:List Res}{Ds:Nat->Nat->Prop}(h:MemOk σ μ w mem Ds){q:Nat}{r:Res}(hr:q<mem.length->ROk σ μ w q (Ds q) r):MemOk σ μ w (mem.set q r) Ds:=by
 refine⟨λid s hs=>?_,h.apart,λid hid=>h.out id (by rwa [List.length_set] at hid)⟩;rw[List.getElem?_set] at hs;by_cases e:q=id
 .subst e;rw[if_pos rfl] at hs;split at hs
  .rename_i hlt;obtain rfl:=Option.some.inj hs;exact hr hlt
  .cases hs
 .rw[if_neg e] at hs;exact h.ok id s hs
theorem to_ntX{k:Nat}{fr:List (Nat×AV)}{mem:List Res}{y:AS->Prop}(q:Nat){N:Nt}(hq:mem[q]? =some (ntO N))(hk:1<=N.ib.length)(hrs:N.rs.length=N.ib.length)(hy: ∀v,y ⟨fr,mem.set q (ntX N v)⟩):AS.to k ⟨fr,mem⟩ y:=by
 intro n fp w0 σ μ Ds a w hk' hr;obtain⟨b,hb,hrep⟩:=hr.mem.ok q _ hq;obtain⟨v,μ1,Ds1,h1,h2,h3⟩:=zns hk hrs σ w b _ hrep;exact⟨_,σ,μ,Ds,hy v,hr.defers,hr.size,hr.frame,hr.agree,znW hr.mem (λ_=>⟨b,hb,μ1,Ds1,h1,h2,h3⟩),hr.own,hr.keeps,hr.old,hr.mono,hr.gle,hr.kout,by rw[List.length_set];exact hr.klen⟩
theorem cutX{k id:Nat}{x:(AS->Prop)->AS->Prop}{y:AS->Prop}{A:AS}(B:(Nat->Nat)->AS)(hy: ∀v,y (B v))(hx:(∀v,y (B v))-> ∀Z:AS->Prop,(∀A',AS.to k A' y->Z A')->x Z A):StopSeq k id x y A:=.mkE (hx hy _ (λ_ h=>h))
theorem fn_atP{P:Program}{f:FuncId}{args:List AV}{r:AV}{p p':OPred}{m:List Res}{j:Nat}(hF:Fn P f args [.obj p] r [.obj p'])(hj:m[j]? =some (.obj p))(ha:args.all AV.free=true)(hr:r.free=true):
  Fn P f args [.obj (zcD m)] r [.obj (zcD (m.set j (.obj p')))]:=by
 refine⟨hF.1,λw σ μ Ds vs hag hmem hlen hargs=>?_⟩;obtain⟨b,hb,μ1,Ds1,hm1,h10,hD1⟩:=hmem.ok 0 _ rfl;obtain⟨c,hc,hpc⟩:=hm1.ok j _ hj;have hjlt:j<m.length:=(List.getElem?_eq_some_iff.1 hj).1;have hm2:MemOk σ (λi=>if i=0 then some (.fix (.pointer (some ⟨c,0,none⟩))) else none) w [.obj p] (λi k=>i=0/\Ds1 j k):=by
  refine⟨λid q hq=>?_,λi i' k h1 h2=>h1.1.trans h2.1.symm,λid hid=>?_⟩
  .cases id with
   |zero=>
    simp only[List.getElem?_cons_zero,Option.some.injEq] at hq;subst hq;refine⟨c,rfl,?_⟩;have e:(λk=>0=0/\Ds1 j k)=Ds1 j:=by funext k;simp
    show p.rep σ w c (λk=>0=0/\Ds1 j k);rw[e];exact hpc
   |succ i=>simp at hq
  .exact Y65
 refine (hF.2 w σ _ _ vs hag hm2 hlen (λi av y h1 h2=>(hargs i av y h1 h2).free (List.all_eq_true.1 ha av (List.mem_of_getElem? h1)))).mono ?_;rintro e w' ⟨x,σ',μE,DE,rfl,hpost⟩;have hfp: ∀k,(∃id,id=0/\Ds1 j k)->Ds1 j k:=λk ⟨_,_,h⟩=>h;have hDj: ∀k,Ds1 j k-> ∃id,Ds id k:=λk h=>⟨0,(hD1 k).2 ⟨j,h⟩⟩;obtain⟨c1,g1,g2⟩:=hpost.mem.ok 0 _ rfl;obtain⟨a',q1,q2⟩:=hpost.gle 0 (.fix (.pointer (some ⟨c,0,none⟩))) rfl;rw[g1] at q1;obtain rfl:=Option.some.inj q1;obtain rfl:c1=c:=by
  simp only[An.le,Value.pointer.injEq,Option.some.injEq] at q2;have:=congrArg Addr.block q2;exact this
 have hlive: ∀q k,Ds1 q k->k<w.heap.size:=λq k h=>hm1.live h;let D2:Nat->Nat->Prop:=λq=>if q=j then DE 0 else Ds1 q
 have hown: ∀k,DE 0 k->w.heap.size<=k\/Ds1 j k:=λk h=>(hpost.own 0 k h).imp (λg=>g) (hfp k);have hnew:MemOk σ' μ1 w' (m.set j (.obj p')) D2:=by
  refine⟨λid q hq=>?_,λi i' k h1 h2=>?_,λid hid=>?_⟩
  .rw[List.getElem?_set] at hq;by_cases e:j=id
   .subst e;rw[if_pos rfl,if_pos hjlt] at hq;obtain rfl:=Option.some.inj hq;simp only[D2,if_true];exact⟨c1,hc,g2⟩
   .rw[if_neg e] at hq;simp only[D2,if_neg (λg:id=j=>e g.symm)];have hne: ∀k,Ds1 id k-> ¬ ∃id',id'=0/\Ds1 j k:=λk h g=>e (hm1.apart j id k (hfp k g) h);exact (hm1.ok id q hq).ext rfl (Gle.refl _) (λk hk=>⟨hpost.keeps.block k (hlive id k hk) (hne k hk),λo=>hpost.old k o (hlive id k hk) (hne k hk)⟩) hpost.mono
  .simp only[D2] at h1 h2;split at h1<;>split at h2
   .rename_i e1 e2;rw[e1,e2]
   .rename_i e1 e2;rcases hown k h1 with g|g
    .have:=hlive _ _ h2;omega
    .exact e1.trans (hm1.apart j i' k g h2)
   .rename_i e1 e2;rcases hown k h2 with g|g
    .have:=hlive _ _ h1;omega
    .exact (hm1.apart i j k h1 g).trans e2.symm
   .exact hm1.apart i i' k h1 h2
  .rw[List.length_set] at hid;refine⟨(hm1.out id hid).1,λk hk=>?_⟩;simp only[D2] at hk;rw[if_neg (by omega)] at hk;exact (hm1.out id hid).2 k hk
 refine⟨x,σ',μ,λi k=>i=0/\ ∃q,D2 q k,rfl,⟨hpost.rep.free hr,⟨λid q hq=>?_,λi i' k h1 h2=>h1.1.trans h2.1.symm,λid hid=>?_⟩,Gle.refl _,hpost.agree,⟨hpost.keeps.os,hpost.keeps.tape,hpost.keeps.output,hpost.keeps.size,λk hk hno=>hpost.keeps.block k hk (λh=>hno (hDj k (hfp k h)))⟩,λc o hc hno=>hpost.old c o hc (λh=>hno (hDj c (hfp c h))),hpost.mono,λid k hk=>?_⟩⟩
 .cases id with
  |zero=>
   simp only[List.getElem?_cons_zero,Option.some.injEq] at hq;subst hq;exact⟨b,hb,μ1,D2,hnew,h10,λk=>⟨λh=>h.2,λh=>⟨rfl,h⟩⟩⟩
  |succ i=>simp at hq
 .refine⟨(hmem.out id (by simpa using hid)).1,λk hk=>?_⟩;simp only[List.length_singleton] at hid;omega
 .obtain⟨q,hq⟩:=hk.2;simp only[D2] at hq;split at hq
  .exact (hown k hq).imp (λh=>h) (hDj k)
  .exact .inr ⟨0,(hD1 k).2 ⟨q,hq⟩⟩
theorem fn_rtX{f:FuncId}{args:List AV}{ret:AV}{N:Nt}{r:Rt}{i:Nat}(hF:Fn Tryz.prog f (.box 0 0::args) [rtO r] ret [rtO r])(hr:N.rs[i]? =some r)(hrs:N.rs.length=N.ib.length)(v:Nat->Nat)(ha:args.all AV.free=true)(hf:ret.free=true):Fn Tryz.prog f (.v (.pointer (some ⟨v i,0,none⟩))::args) [ntX N v] ret [ntX N v]:=by
 have hi:i<N.ib.length:=by have:=(List.getElem?_eq_some_iff.1 hr).1;omega
 have h:=zeT hF hr (zb4 (v:=v) hi) ha hf;rw[ziW hr] at h;have h2:=fn_atP (m:=ntE N v 0) (j:=5) h rfl (by rw[List.all_cons,ha];rfl) hf;have e:(ntE N v 0).set 5 (famR (xsV v N.ib.length) N.rs)=ntE N v 0:=rfl;rw[show (.obj (famP (xsV v N.ib.length) (N.rs.map λr=>zcD (rtM r 0))):Res)=famR (xsV v N.ib.length) N.rs from rfl,e] at h2;exact h2
section
variable {k n d e:Nat} {N:Nt}
theorem zi8(hk:1<=k/\k<=6)(hN:N.ok k n d e)(v:Nat->Nat)(i:Int)(hi:1<=i/\i<=k):Fn Tryz.prog 12 [.box 0 0,.v (.int .i64 i)] (ntE N v 0) (.tup [.v (.pointer (some ⟨v (i-1).toNat,0,none⟩)),.err 0]) (ntE N v 0):=by
 obtain⟨rs,cs,mt,ib⟩:=N;have l2:=hN.ib;dsimp only at l2;have hrow:=zao (v:=v) (k:=k) (j:=(i-1).toNat) (by omega);clear hN;rcases (by omega:k=1\/k=2\/k=3\/k=4\/k=5\/k=6) with rfl|rfl|rfl|rfl|rfl|rfl;all_goals
  first|obtain⟨b0,rfl⟩:=len1 l2|obtain⟨b0,b1,rfl⟩:=len2 l2|obtain⟨b0,b1,b2,rfl⟩:=len3 l2|obtain⟨b0,b1,b2,b3,rfl⟩:=len4 l2|obtain⟨b0,b1,b2,b3,b4,rfl⟩:=len5 l2|obtain⟨b0,b1,b2,b3,b4,b5,rfl⟩:=len6 l2
  simp only[ntE,rowsI,resI,List.length_cons,List.length_nil,Nat.zero_add,Nat.reduceAdd];refine foL zaA [] [] Tryz.func12 Tryz.ntmps12 Tryz.results12 ?_;(all_goals refine fx ?_;repeat' first|exact .intro|refine Tw.mk ?_ ?_|(intro h;first|replace h:=h.o|cases h))
  all_goals (try (exfalso;omega))
  all_goals exact Y15
end
def ntP(N:Nt)(v:Nat->Nat)(g i q:Nat):List Res:=
 .cells [.arr 1 0 N.ib.length,.arr 2 0 N.cs.length,.arr 3 0 N.mt.length,.arr 4 0 N.ib.length]::.arr false 45 1 0 ((zhS v N.ib.length).set i [.box q 0])::.arr true 91 8 0 (N.cs.map zb2)::.arr true 88 1 0 (N.mt.map mtRow)::.arr false 63 1 0 (rowsI 6 g N.ib)::famR (xsV v N.ib.length) N.rs::resI g N.ib
theorem memP_of{σ:zaM}{μ:zaJ}{w:World}{Ds:Nat->Nat->Prop}{N:Nt}{v:Nat->Nat}{g i q:Nat}{rest:List Res}{r':Rt}(hrs:N.rs.length=N.ib.length)(hi:i<N.ib.length)(hq:6+N.ib.length<=q)(hr:(ntP N v g i q++rest)[q]? =some (rtO r'))(h:MemOk σ μ w (ntP N v g i q++rest) Ds):
  ∃v' D,MemOk σ (λid=>if id<6+N.ib.length then μ id else none) w (ntE ⟨N.rs.set i r',N.cs,N.mt,N.ib⟩ v' g) D/\ ∀id b,D id b-> ∃j,Ds j b:=by
 generalize hK:N.ib.length=k at *
 have hlen:(ntP N v g i q).length=6+k:=by unfold ntP;simp only[List.length_cons,resI_len,hK];omega
 have hm: ∀id (x:Res),id<6+k->(ntP N v g i q)[id]? =some x->ROk σ μ w id (Ds id) x:=λid x hid hx=>h.ok id x (by rw[List.getElem?_append_left (by rw[hlen];exact hid)];exact hx);obtain⟨bq,hbq,hrq⟩:=h.ok q _ hr;obtain⟨c5,h50,E,hEl,hE⟩:=hm 5 (famR (xsV v N.ib.length) N.rs) (by omega) rfl;rw[hK] at hE;let v':Nat->Nat:=λj=>if j=i then bq else v j
 let D:Nat->Nat->Prop:=λid b=>if id=5 then (∃j,(if j=i then Ds q b else E j b)) else if id<6+k then Ds id b else False
 have hμ: ∀id,id<6+k->(if id<6+k then μ id else none)=μ id:=λid h=>if_pos h;have hD: ∀id,id<6+k->id≠5->D id=Ds id:=λid h1 h2=>by
  funext b
  show (if id=5 then _ else if id<6+k then Ds id b else False)=_;rw[if_neg h2,if_pos h1]
 have hE5: ∀j b,E j b->Ds 5 b:=λj b hj=>(hE.all b).2 ⟨j,hj⟩;have hEk: ∀j b,E j b->j<k:=λj b hj=>by have:=hE.out j b hj;rw[List.length_map] at this;omega
 refine⟨v',D,⟨λid x hx=>?_,λa b c h1 h2=>?_,λid hid=>?_⟩,λid b hb=>?_⟩
 .match id,hx with
  |0,hx=>
   simp only[ntE,List.getElem?_cons_zero,Option.some.injEq] at hx;subst hx;rw[hD 0 (by omega) (by decide)];exact zg6 (hm 0 _ (by omega) rfl) (hμ 0 (by omega)) (hμ 1 (by omega)) (hμ 2 (by omega)) (hμ 3 (by omega)) (hμ 4 (by omega))
  |1,hx=>
   simp only[ntE,List.getElem?_cons_succ,List.getElem?_cons_zero,Option.some.injEq,hK] at hx;subst hx;rw[hD 1 (by omega) (by decide)];obtain⟨ao,cap,xs,h1,h2,h3,h4,h5,h6⟩:=hm 1 (.arr false 45 1 0 ((zhS v N.ib.length).set i [.box q 0])) (by omega) rfl;rw[List.length_set,prows_len,hK] at h1 h2;refine⟨ao,cap,xs,by rw[prows_len];exact (hμ 1 (by omega)).trans h1,by rw[prows_len];exact h2,λr hr=>?_,λj p r av g1 g2=>?_,h5,h6⟩
   .obtain⟨j,_,rfl⟩:=List.mem_map.1 hr;rfl
   .have hj:j<k:=by have:=(List.getElem?_eq_some_iff.1 g1).1;rw[prows_len] at this;exact this
    rw[zao hj] at g1;obtain rfl:=Option.some.inj g1;cases p with
    |succ p=>simp at g2
    |zero=>
     simp only[List.getElem?_cons_zero,Option.some.injEq] at g2;subst g2;by_cases e:i=j
     .subst e;obtain⟨y,y1,y2,y3⟩:=h4 i 0 [.box q 0] (.box q 0) (by rw[hK,List.getElem?_set,if_pos rfl,if_pos (by rw[prows_len];exact hj)]) rfl;refine⟨y,y1,?_,y3⟩;rw[zof y2 hbq,show v' i=bq from if_pos rfl];exact .v _ _
     .obtain⟨y,y1,y2,y3⟩:=h4 j 0 [.v (.pointer (some ⟨v j,0,none⟩))] (.v (.pointer (some ⟨v j,0,none⟩))) (by rw[hK,List.getElem?_set,if_neg e];exact zao hj) rfl;refine⟨y,y1,?_,y3⟩;rw[y2.inv_v,show v' j=v j from if_neg (λh=>e h.symm)];exact .v _ _
  |2,hx=>
   simp only[ntE,List.getElem?_cons_succ,List.getElem?_cons_zero,Option.some.injEq] at hx;subst hx;rw[hD 2 (by omega) (by decide)];exact zcR (hm 2 _ (by omega) rfl) (hμ 2 (by omega))
  |3,hx=>
   simp only[ntE,List.getElem?_cons_succ,List.getElem?_cons_zero,Option.some.injEq] at hx;subst hx;rw[hD 3 (by omega) (by decide)];exact zcR (hm 3 _ (by omega) rfl) (hμ 3 (by omega))
  |4,hx=>
   simp only[ntE,List.getElem?_cons_succ,List.getElem?_cons_zero,Option.some.injEq] at hx;subst hx;rw[hD 4 (by omega) (by decide)];exact ib_ren (hm 4 _ (by omega) rfl) (hμ 4 (by omega)) (λj hj=>hμ (6+j) (by omega))
  |5,hx=>
   simp only[ntE,List.getElem?_cons_succ,List.getElem?_cons_zero,Option.some.injEq,hK] at hx;subst hx;refine⟨c5,(hμ 5 (by omega)).trans h50,λj=>if j=i then Ds q else E j,by rw[ziV,List.length_map,List.length_set,hrs],⟨λj x p hx hp=>?_,λa b c h1 h2=>?_,λb=>?_,λj b hj=>?_⟩⟩
   .have hjk:j<k:=by have:=(List.getElem?_eq_some_iff.1 hx).1;rw[ziV] at this;exact this
    rw[zb4 hjk] at hx;obtain rfl:=Option.some.inj hx;rw[List.getElem?_map,List.getElem?_set] at hp;by_cases e:i=j
    .subst e;rw[if_pos rfl,if_pos (by omega)] at hp;obtain rfl:=Option.some.inj hp;refine⟨bq,by rw[show v' i=bq from if_pos rfl],?_⟩;rw[if_pos rfl];exact hrq
    .rw[if_neg e] at hp;obtain⟨b,hb1,hb2⟩:=hE.one j (.pointer (some ⟨v j,0,none⟩)) p (zb4 hjk) (by rw[List.getElem?_map];exact hp);refine⟨b,by rw[show v' j=v j from if_neg (λh=>e h.symm)];exact hb1,?_⟩;rw[if_neg (λh=>e h.symm)];exact hb2
   .split at h1<;>split at h2
    .rename_i e1 e2;rw[e1,e2]
    .have:=h.apart _ _ c h1 (hE5 _ _ h2);omega
    .have:=h.apart _ _ c h2 (hE5 _ _ h1);omega
    .exact hE.apart a b c h1 h2
   .show (if 5=5 then ∃j,(if j=i then Ds q b else E j b) else _)↔_;rw[if_pos rfl];exact⟨λ⟨j,hj⟩=>⟨j,by split at hj<;>(rename_i e;first|(rw[if_pos e];exact hj)|(rw[if_neg e];exact hj))⟩,λ⟨j,hj⟩=>⟨j,by split at hj<;>(rename_i e;first|(rw[if_pos e];exact hj)|(rw[if_neg e];exact hj))⟩⟩
   .rw[List.length_map,List.length_set,hrs];split at hj
    .rename_i e;omega
    .exact hEk j b hj
  |j+6,hx=>
   rw[show j+6=6+j by omega] at hx ⊢;rw[ntE_i,resI_get] at hx;obtain⟨l,hl,rfl⟩:=Option.map_eq_some_iff.1 hx;have hj:j<k:=by have:=(List.getElem?_eq_some_iff.1 hl).1;simp only at this;omega
   rw[hD (6+j) (by omega) (by omega)];refine zcR (hm (6+j) _ (by omega) ?_) (hμ (6+j) (by omega));unfold ntP;rw[show 6+j=j+1+1+1+1+1+1 by omega];simp only[List.getElem?_cons_succ];rw[resI_get,hl];rfl
 .have key: ∀id b,D id b->(id=5/\(Ds q b\/Ds 5 b))\/(id≠5/\id<6+k/\Ds id b):=λid b hd=>by
   simp only[D] at hd;split at hd
   .rename_i e;obtain⟨j,hj⟩:=hd;split at hj
    .exact .inl ⟨e,.inl hj⟩
    .exact .inl ⟨e,.inr (hE5 _ _ hj)⟩
   .split at hd
    .exact .inr ⟨by assumption,by assumption,hd⟩
    .exact hd.elim
  rcases key a c h1 with⟨a1,a2⟩|⟨a1,a2,a3⟩<;>rcases key b c h2 with⟨b1,b2⟩|⟨b1,b2,b3⟩
  .omega
  .rcases a2 with a2|a2
   .have:=h.apart _ _ c a2 b3;omega
   .have:=h.apart _ _ c a2 b3;omega
  .rcases b2 with b2|b2
   .have:=h.apart _ _ c a3 b2;omega
   .have:=h.apart _ _ c a3 b2;omega
  .exact h.apart a b c a3 b3
 .rw[zf0] at hid;simp only[hK] at hid;refine⟨if_neg (by omega),λb hb=>?_⟩;simp only[D] at hb;rw[if_neg (by omega),if_neg (by omega)] at hb;exact hb
 .simp only[D] at hb;split at hb
  .obtain⟨j,hj⟩:=hb;split at hj
   .exact⟨q,hj⟩
   .exact⟨5,hE5 _ _ hj⟩
  .split at hb
   .exact⟨id,hb⟩
   .exact hb.elim
def frOk(fr:List (Nat×AV)):Prop:= ∀p∈fr,p.2.free=true\/p.2=.box 0 0
theorem look_mem{fr:List (Nat×AV)}{t:Nat}{av:AV}(h:look fr t=some av): ∃p∈fr,p.2=av:=by
 induction fr with
 |nil=>cases h
 |cons p fr ih=>
  obtain⟨u,x⟩:=p;simp only[look] at h;split at h
  .exact⟨(u,x),List.mem_cons_self .., Option.some.inj h⟩
  .obtain⟨q,h1,h2⟩:=ih h;exact⟨q,List.mem_cons_of_mem _ h1,h2⟩
theorem Rel.swap{n:Nat}{fp:Nat->Prop}{w0:Start}{σ:zaM}{μ μ':zaJ}{Ds D':Nat->Nat->Prop}{fr:List (Nat×AV)}{mem mem':List Res}{a:Act}{w:World}(hr:Rel n fp w0 σ μ Ds ⟨fr,mem⟩ a w)(hk:w0.k=1)(hm:MemOk σ μ' w mem' D')(h0:μ' 0=μ 0)(hD: ∀id b,D' id b-> ∃j,Ds j b)(hfr:frOk fr)(hl:1<=mem'.length):Rel n fp w0 σ μ' D' ⟨fr,mem'⟩ a w:=by
 refine⟨hr.defers,hr.size,λt av ht=>?_,hr.agree,hm,λid b hb=>?_,hr.keeps,hr.old,hr.mono,λi x hi=>?_,hr.kout,by rw[hk];exact hl⟩
 .have hx:=hr.frame t av ht;obtain⟨p,hp,rfl⟩:=look_mem ht;rcases hfr p hp with g|g
  .exact hx.free g
  .rw[g] at hx ⊢;obtain⟨b,e,hb⟩:=hx.inv_box;rw[e];exact .box _ 0 0 b (h0.trans hb)
 .obtain⟨j,hj⟩:=hD id b hb;exact hr.own j b hj
 .have hi0:i=0:=by
   rcases Nat.eq_zero_or_pos i with g|g
   .exact g
   .have:=hr.kout i (by omega);rw[this] at hi;cases hi
  subst hi0;obtain⟨a',h1,h2⟩:=hr.gle 0 x hi;exact⟨a',h0.trans h1,h2⟩
theorem to_unE{fr:List (Nat×AV)}{y:AS->Prop}{N:Nt}(hk:1<=N.ib.length)(hrs:N.rs.length=N.ib.length)(hfr:frOk fr)(hy: ∀v,y ⟨fr,ntE N v 0⟩):AS.to 1 ⟨fr,[ntO N]⟩ y:=by
 intro n fp w0 σ μ Ds a w hk' hr;obtain⟨b,hb,hrep⟩:=hr.mem.ok 0 _ rfl;obtain⟨v,μ1,Ds1,h1,h2,h3⟩:=zns hk hrs σ w b _ hrep;exact⟨_,σ,μ1,Ds1,hy v,hr.swap hk' h1 (h2.trans hb.symm) (λid c hc=>⟨0,(h3 c).2 ⟨id,hc⟩⟩) hfr (by rw[zf0];omega)⟩
theorem to_put{fr:List (Nat×AV)}{y:AS->Prop}{N:Nt}{v:Nat->Nat}{g i q:Nat}{rest:List Res}{r':Rt}(hrs:N.rs.length=N.ib.length)(hi:i<N.ib.length)(hq:6+N.ib.length<=q)(hr:(ntP N v g i q++rest)[q]? =some (rtO r'))(hfr:frOk fr)
  (hy: ∀v',y ⟨fr,ntE ⟨N.rs.set i r',N.cs,N.mt,N.ib⟩ v' g⟩):AS.to 1 ⟨fr,ntP N v g i q++rest⟩ y:=by
 intro n fp w0 σ μ Ds a w hk' h;obtain⟨v',D,h1,h2⟩:=memP_of hrs hi hq hr h.mem;exact⟨_,σ,_,D,hy v',h.swap hk' h1 (if_pos (by omega)) h2 hfr (by rw[zf0];omega)⟩
theorem le_pkE{fr:List (Nat×AV)}{N:Nt}{v:Nat->Nat}{g:Nat}(hrs:N.rs.length=N.ib.length)(hfr:frOk fr):AS.le 1 ⟨fr,ntE N v g⟩ ⟨fr,[ntO N]⟩:=by
 intro n fp w0 σ μ Ds a w hk' h;obtain⟨c,cs,T,hc,_⟩:=h.mem.ok 0 (.cells [.arr 1 0 N.ib.length,.arr 2 0 N.cs.length,.arr 3 0 N.mt.length,.arr 4 0 N.ib.length]) rfl;have hrep:=zoi hrs σ w c μ Ds h.mem hc;refine⟨σ,λi=>if i=0 then μ 0 else none,λi k=>i=0/\ ∃j,Ds j k,h.swap hk' ⟨λid r hr=>?_,λi j k hi hj=>hi.1.trans hj.1.symm,λid hid=>?_⟩ rfl (λid b hb=>hb.2) hfr (Nat.le_refl _)⟩
 .cases id with
  |zero=>
   simp only[List.getElem?_cons_zero,Option.some.injEq] at hr;subst hr;refine⟨c,by simp only[if_true];exact hc,?_⟩;have e:(λk=>0=0/\ ∃j,Ds j k)=λk=> ∃j,Ds j k:=by funext k;simp
   show (zcD (ntM N 0)).rep σ w c (λk=>0=0/\ ∃j,Ds j k);rw[e];exact hrep
  |succ i=>simp at hr
 .exact Y65
end Go.Proofs.YtimfnpjcedjmiadGreat
namespace Go.Proofs.YtimfnpjcedjmiadGreat
structure Cost (S:Meas) (ct cn:Nat):Prop where
 tak: ∀(i:Nat) (t:List UInt8) (X:Nat) (r:Rt),i<3->S.Q X r.co->S.q X t->Mv S (S.w t) X r (takT i r t)
 tick: ∀(X:Nat) (r:Rt),S.Q X r.co->Mv S ct X r (zch r)
 plug: ∀(i:Nat) (up:Bool) (X:Nat) (r:Rt),i<3->S.Q X r.co->Mv S 0 X r (zaZ r i up)
 new: ∀(X:Nat) (i a b c:Int),1<=i->i<=6->(1<=a/\a<=20)->(1<=b/\b<=20)->(1<=c/\c<=20)-> ∃Y,X<=Y/\S.Q Y (newR i [a,b,c]).co/\S.W (newR i [a,b,c]).co+Y<=X+cn
section
variable {S:Meas} {J:Nat->List Mg->Nat} {E:Nat->Prop} {X M ct cn:Nat} {F:Fls} {U:Ous} {N:Nt} {k d e:Nat} {T:List (List Int)}
theorem on_onR(h:On S J M N)(a:Int){G:Rt->Rt}{r:Rt}{x:Nat}(hr:N.rs[(a-1).toNat]? =some r)(hG: ∀X,S.Q X r.co->Mv S x X r (G r))(hk:Rk r (G r)):On S J (M+x) (N.onR a G):=by
 obtain⟨⟨X,F,U,h⟩,hw⟩:=h;obtain⟨Y,U',_,h'⟩:=zj4 h a hr (hG X (h.Q _ r hr)) (λi c s _ _=>(ziy hr hk _).1);exact⟨⟨Y,F,U',h'⟩,wd_onR hw hr hk⟩
theorem zpo(hB:InB S J)(hf:Cost S ct cn)(h:On S J M N)(hI:N.inv k d e)(hn:N.num T)(i:Int):On S J (M+ct) (zdH N i)/\(zdH N i).num T:=by
 unfold zdH;split
 .rename_i hi;have hi:=zcI.1 hi;have h1:=zat hI.ok (m:=6630) (f:=d) (by omega) (Nat.le_refl _) i (F:=zch) (λr hr=>by have:=zk3 hr;rw[Nat.zero_add] at this;exact this);exact zft hB (on_onR h i (List.getElem?_eq_getElem (show (i-1).toNat<N.rs.length by omega)) (λX hQ=>hf.tick X _ hQ) (zn6 _)) h1 (zfZ hn i (λr=>⟨(zee r).1,λj=>(zn6 r j).2.1⟩))
 .exact⟨h.up (by omega),hn⟩
theorem on_send(hB:InB S J)(h:On S J M N)(hI:N.inv k d e)(hn:N.num T)(i to:Int)(t:ByteArray){x:Nat}(hG:N.has i=true-> ∀X r,S.Q X r.co->Mv S x X r (zbw r to t)):On S J (M+x) (zfm N i to t)/\(zfm N i to t).num T:=by
 unfold zfm;split
 .rename_i hi0;have hi:=zcI.1 hi0;have h1:=zat hI.ok (m:=6630) (f:=d+1) (by omega) (by omega) i (F:=λr=>zbw r to t) (λr hr=>by have:=zhp hr to t;rw[Nat.zero_add] at this;exact this);exact zft hB (on_onR h i (G:=λr=>zbw r to t) (List.getElem?_eq_getElem (show (i-1).toNat<N.rs.length by omega)) (λX hQ=>hG hi0 X _ hQ) (zmC _ to t)) h1 (zfZ hn i (λr=>⟨(zdg r to t).1,λj=>(zmC r to t j).2.1⟩))
 .exact⟨h.up (by omega),hn⟩
theorem Meas.s_cons(S:Meas)(t:List UInt8)(u:List (List UInt8)):S.s (t::u)=S.w t+S.s u:=by unfold Meas.s;rw[List.map_cons,List.sum_cons]
theorem zmJ(hf:Cost S ct cn){i:Nat}(hi:i<3): ∀(T:List (List UInt8)) {X:Nat} {r:Rt},S.Q X r.co->S.good X T->Mv S (S.s T) X r (T.foldl (takT i) r)
 |[],X,r,hQ,_=>zbv hQ
 |t::T,X,r,hQ,hT=>by
  rw[S.s_cons];exact (hf.tak i t X r hi hQ (hT t (by simp)).2).trans (λY hXY hQY=>zmJ hf hi T hQY (λu hu=>(hT.up hXY) u (by simp [hu])))
noncomputable def zlB(N:Nt)(i:Nat)(c:Cb)(s:Bool)(y w:List UInt8):Nt:=({ N with cs:=N.cs.set i (c.setW s w) }:Nt).onR (c.wE (!s)).1 (λr=>zar r (c.wE (!s)).2.toNat y)
theorem zqX{α:Type}{l:List α}{i:Nat}{f g:α->α}{x:α}(h:l[i]? =some x)(e:f x=g x):l.modify i f=l.modify i g:=by
 refine List.ext_getElem? λj=>?_;rw[List.getElem?_modify,List.getElem?_modify];by_cases ej:i=j
 .subst ej;rw[h];show some (if i=i then f x else x)=some (if i=i then g x else x);rw[if_pos rfl,if_pos rfl,e]
 .simp only[if_neg ej]
theorem mv_rd{r:Rt}(hQ:S.Q X r.co)(p:Nat)(f:Pt->Pt)(hf: ∀q:Pt,(f q).m=q.m/\(f q).p=q.p/\(f q).out=q.out):Mv S 0 X r (r.onP p f):=
 zhM (S:=S) hQ p (u:=[]) (λt ht=>(by cases ht)) (λq=>⟨(hf q).1,(hf q).2.1⟩) (λq=>⟨[],.inl rfl,λ_=>by rw[(hf q).2.2];simp⟩)
theorem ni_delS(hf:Cost S ct cn)(h:NI S J (λ_=>True) X M F U N)(hw:N.wd)(hN:N.ok k 0 d e){i:Nat}{c:Cb}(hc:N.cs[i]? =some c)(s:Bool){y w:List UInt8}(hy:y++w=c.wr s): ∃Y F' U',NI S J (λ_=>True) Y M F' U' (zlB N i c s y w):=by
 have hi:=(List.getElem?_eq_some_iff.1 hc).1;obtain⟨r,hr,h3,hp3,hrt,ha⟩:=zit hN hc (!s);have he:=zo1 c s;unfold zlB;generalize c.wE (!s)=z at *
 have hfl:=h.fl i c s trivial hc;rw[<-hy] at hfl;have hrd:N.rdA (c.rdE s)=(r.pt z.2.toNat).rd:=by unfold Nt.rdA Nt.ptA;rw[he,zb7 hr]
 rw[hrd] at hfl;obtain⟨n,hT,hF⟩:=zoz hfl;have hTg:S.good X ((F i s).take n):=λt ht=>h.fg i s t (List.mem_of_mem_take ht);have hsT:S.s ((F i s).take n)+S.s ((F i s).drop n)=S.s (F i s):=by rw[<-S.s_app,List.take_append_drop]
 obtain⟨Y,U1,hXY,h1⟩:=zj4 (h.some (E':=λ_=>False) (λ_ g=>g.elim)) z.1 (G:=λr=>r.onP z.2.toNat λp=>{ p with rd:=(zaP p.rd y).1,rest:=(zbg (p.rest++y)).2.2 }) hr (mv_rd (h.Q _ r hr) _ _ (λq=>⟨rfl,rfl,rfl⟩)) (λ_ _ _ g=>g.elim);have hpt: ∀e',(N.onR z.1 (λr=>r.onP z.2.toNat λp=>{ p with rd:=(zaP p.rd y).1,rest:=(zbg (p.rest++y)).2.2 })).rdA e'=if e'=c.rdE s then (zaP (r.pt z.2.toNat).rd y).1 else N.rdA e':=λe'=>by
  unfold Nt.rdA;rw[zdS hr,he];obtain⟨e1,e2⟩:=e';by_cases g1:(z.1-1).toNat=e1
  .rw[if_pos g1,zgs];by_cases g2:z.2.toNat=e2
   .subst g1 g2;rw[if_pos ⟨rfl,by omega⟩,if_pos rfl]
   .rw[if_neg (λg=>g2 g.1),if_neg (λg=>g2 (Prod.mk.inj g).2.symm)];unfold Nt.ptA;dsimp only;rw[<-g1,zb7 hr]
  .rw[if_neg g1,if_neg (λg=>g1 (Prod.mk.inj g).1.symm)]
 have h2:=ni_cs (x:=0) (y:=S.s ((F i s).take n)) h1 (C:=N.cs.set i (c.setW s w)) (F':=zeI F i s ((F i s).drop n)) (E':=λ_=>True) (λj x t _ hx=>by
  unfold zeI;rw[hpt];rcases zcs hx with⟨rfl,rfl⟩|⟨hne,hx⟩
  .rw[zfz,ziO];by_cases et:t=s
   .subst et;rw[if_pos rfl,if_pos rfl,if_pos ⟨rfl,rfl⟩];exact hF
   .rw[if_neg (λg=>et (hw.uq i i c c t s hc hc g).2),if_neg et,if_neg (λg=>et g.2)];exact h.fl i c t trivial hc
  .rw[if_neg (λg=>hne (hw.uq j i x c t s hx hc g).1.symm),if_neg (λg=>hne g.1.symm)];exact h.fl j x t trivial hx) (λj t=>by
  unfold zeI;split
  .exact λt ht=>(h.fg i s).up hXY t (List.mem_of_mem_drop ht)
  .exact (h.fg j t).up hXY) (by
  rw[List.length_set];have:=zcX (f:=λi=>S.s (F i false)+S.s (F i true)) (g:=λj=>S.s (zeI F i s ((F i s).drop n) j false)+S.s (zeI F i s ((F i s).drop n) j true)) (i:=i) (x:=S.s ((F i s).take n)) (y:=0) N.cs.length hi (λj hj hne=>by
   unfold zeI;simp only[hne,false_and,if_false]) (by
   unfold zeI;cases s
   .simp;omega
   .simp;omega)
  exact this)
 have hMs:S.s ((F i s).take n)<=M:=by
  have h0:=h.sum;unfold Meas.tot at h0;have:=zcX (f:=λi=>S.s (F i false)+S.s (F i true)) (g:=λj=>if j=i then 0 else S.s (F j false)+S.s (F j true)) (i:=i) (x:=S.s (F i s)) (y:=0) N.cs.length hi (λj hj hne=>by rw[if_neg hne]) (by
   rw[if_pos rfl];cases s<;>simp)
  omega
 have hr2:({ (N.onR z.1 (λr=>r.onP z.2.toNat λp=>{ p with rd:=(zaP p.rd y).1,rest:=(zbg (p.rest++y)).2.2 })) with cs:=N.cs.set i (c.setW s w) }:Nt).rs[(z.1-1).toNat]? =some (r.onP z.2.toNat λp=>{ p with rd:=(zaP p.rd y).1,rest:=(zbg (p.rest++y)).2.2 }):=by
  have:=zfc (G:=λr=>r.onP z.2.toNat λp=>{ p with rd:=(zaP p.rd y).1,rest:=(zbg (p.rest++y)).2.2 }) hr (z.1-1).toNat;rw[if_pos rfl] at this;exact this
 obtain⟨Z,U2,_,h4⟩:=zj4 h2 z.1 (G:=λr=>((F i s).take n).foldl (takT z.2.toNat) r) hr2 (zmJ hf hp3 _ (h2.Q _ _ hr2) (hTg.up hXY)) (λj x t _ hx=>(ziy hr2 (zij _ _ _) _).1);refine⟨Z,zeI F i s ((F i s).drop n),U2,?_⟩;have e5:({ N with cs:=N.cs.set i (c.setW s w) }:Nt).onR z.1 (λr=>zar r z.2.toNat y)=({ (N.onR z.1 (λr=>r.onP z.2.toNat λp=>{ p with rd:=(zaP p.rd y).1,rest:=(zbg (p.rest++y)).2.2 })) with cs:=N.cs.set i (c.setW s w) }:Nt).onR z.1 (λr=>((F i s).take n).foldl (takT z.2.toNat) r):=by
  unfold Nt.onR;dsimp only;rw[List.modify_modify_eq];refine congrArg (λl=>Nt.mk l _ _ _) (zqX hr ?_);show zar r z.2.toNat y=List.foldl _ _ _;unfold zar;rw[hT]
 rw[e5];exact h4.up (by omega)
theorem wd_delS(hw:N.wd)(hN:N.ok k 0 d e){i:Nat}{c:Cb}(hc:N.cs[i]? =some c)(s:Bool){y w:List UInt8}(hy:y++w=c.wr s):(zlB N i c s y w).wd:=by
 obtain⟨r,hr,h3,hp3,hrt,ha⟩:=zit hN hc (!s);refine wd_sp (N':=zlB N i c s y w) hw (znY hc s w (λ_ g=>by rw[g] at hy;exact (List.append_eq_nil_iff.1 hy).2)) (λj x t _=>?_);have:=zdS (N:=N) (G:=λr=>zar r (c.wE (!s)).2.toNat y) hr (x.rdE t);rw[show (zlB N i c s y w).ptA (x.rdE t)=(N.onR (c.wE (!s)).1 (λr=>zar r (c.wE (!s)).2.toNat y)).ptA (x.rdE t) from rfl,this];split
 .rename_i g;unfold Nt.ptA;rw[<-g,zb7 hr];exact (rd_recv r _ y _ (by omega)).2
 .exact Sp.refl _
theorem ndel_S(N:Nt)(i way many:Int):ndel N i way many=if way<0\/1<way then N else match N.cb i with
  |none=>N
  |some c=>zbO (zlB N i.toNat c (way==1) ((c.wr (way==1)).take (delK many (c.wr (way==1)))) ((c.wr (way==1)).drop (delK many (c.wr (way==1))))):=by
 unfold ndel;split
 .rfl
 .cases N.cb i with
  |none=>rfl
  |some c=>
   dsimp only;by_cases hw:way=1
   .subst hw;rfl
   .rw[if_neg hw,show (way==1)=false from by simpa using hw];rfl
theorem ok_delS(hN:N.ok k 0 d e){i:Nat}{c:Cb}(hc:N.cs[i]? =some c)(s:Bool){y w:List UInt8}(hy:y++w=c.wr s):(zlB N i c s y w).ok k 1040000 (d+2000) e:=by
 have hco:=hN.c c (getq hc);have hl:(c.wr s).length<=2000:=by cases s;exact hco.w0;exact hco.w1
 have hl2:y.length<=2000/\w.length<=2000:=by rw[<-hy,List.length_append] at hl;omega
 have k1:=zem hN i (c:=c.setW s w) (by cases s;exact⟨hco.a,hco.pa,hco.b,hco.pb,hl2.2,hco.w1⟩;exact⟨hco.a,hco.pa,hco.b,hco.pb,hco.w0,hl2.2⟩);exact zat k1 (m:=1040000) (f:=d+2000) (by omega) (by omega) (c.wE (!s)).1 (F:=λr=>zar r (c.wE (!s)).2.toNat y) (λr hr=>by have:=zeH hr (c.wE (!s)).2.toNat hl2.1;rw[Nat.zero_add] at this;exact this)
theorem zpi(hB:InB S J)(hf:Cost S ct cn)(h:On S J M N)(hI:N.inv k d e)(hn:N.num T)(i way many:Int):On S J M (ndel N i way many)/\(ndel N i way many).num T:=by
 rw[ndel_S];split
 .exact⟨h,hn⟩
 .cases hcb:N.cb i with
  |none=>exact⟨h,hn⟩
  |some c=>
   obtain⟨_,hc⟩:=zdL hcb;dsimp only;have hy:=List.take_append_drop (delK many (c.wr (way==1))) (c.wr (way==1));obtain⟨⟨X,F,U,h⟩,hw⟩:=h;obtain⟨Y,F',U',h'⟩:=ni_delS hf h hw hI.ok hc _ hy;exact zft hB ⟨⟨Y,F',U',h'⟩,wd_delS hw hI.ok hc _ hy⟩ (ok_delS hI.ok hc _ hy) (zfZ (N:={ N with cs:=_ }) hn _ (λr=>⟨(zdM ..).1,λj=>m_recv ..⟩))
theorem zly{a:Int}{p:Nat}(up:Bool){r:Rt}(hr:N.rs[(a-1).toNat]? =some r)(hp:p<r.ps.length):(∀e',e'≠((a-1).toNat,p)->Rp (N.ptA e') ((N.onR a (λr=>zaZ r p up)).ptA e'))/\((N.ptA ((a-1).toNat,p)).l.opn->((N.ptA ((a-1).toNat,p)).l.st=1↔up=true)->((N.onR a (λr=>zaZ r p up)).ptA ((a-1).toNat,p)).rd=rd0/\((N.onR a (λr=>zaZ r p up)).ptA ((a-1).toNat,p)).l.opn/\(((N.onR a (λr=>zaZ r p up)).ptA ((a-1).toNat,p)).l.st=1↔up=false)):=by
 have h0:N.ptA ((a-1).toNat,p)=r.pt p:=by unfold Nt.ptA;dsimp only;rw[zb7 hr]
 refine⟨λe' hne=>?_,λho h1=>?_⟩
 .rw[zdS hr];obtain⟨e1,e2⟩:=e';split
  .rename_i g;unfold Nt.ptA;dsimp only at g ⊢;rw[<-g,zb7 hr];exact zmd r p up (λg2=>hne (by rw[g,g2]))
  .exact Rp.refl _
 .rw[h0] at ho h1;rw[zdS hr,if_pos rfl];exact rk_plug r p up hp ho h1
theorem on_plug0(hf:Cost S ct cn)(h:On S J M N)(hN:N.ok k 0 d e){i:Nat}{c:Cb}(hc:N.cs[i]? =some c){up:Bool}(hu:c.inn≠up):On S J M (zgf N i c up):=by
 obtain⟨⟨X,F,U,h⟩,hw⟩:=h;have hi:=(List.getElem?_eq_some_iff.1 hc).1;obtain⟨ra,hra,a3,ap,-, -⟩:=zit hN hc false;obtain⟨rb,hrb,b3,bp,-, -⟩:=zit hN hc true;change N.rs[(c.a-1).toNat]? =some ra at hra;change c.pa.toNat<3 at ap;change N.rs[(c.b-1).toNat]? =some rb at hrb;change c.pb.toNat<3 at bp;have eA:c.rdE true=((c.a-1).toNat,c.pa.toNat):=rfl;have eB:c.rdE false=((c.b-1).toNat,c.pb.toNat):=rfl;have hAB:c.rdE true≠c.rdE false:=λg=>by cases (hw.uq i i c c true false hc hc g).2
 obtain⟨p1,p2⟩:=zly (p:=c.pa.toNat) up hra (by omega);obtain⟨Y,U1,hXY,h1⟩:=zj4 (h.some (E':=λ_=>False) (λ_ g=>g.elim)) c.a (G:=λr=>zaZ r c.pa.toNat up) hra (hf.plug _ up X ra ap (h.Q _ ra hra)) (λ_ _ _ g=>g.elim);obtain⟨rb',hrb',b3'⟩: ∃rb',(N.onR c.a (λr=>zaZ r c.pa.toNat up)).rs[(c.b-1).toNat]? =some rb'/\rb'.ps.length=3:=by
  rw[zfc hra];split
  .exact⟨_,rfl,(zcM ..).2.trans a3⟩
  .exact⟨rb,hrb,b3⟩
 obtain⟨q1,q2⟩:=zly (p:=c.pb.toNat) up hrb' (by omega);obtain⟨Z,U2,hYZ,h2⟩:=zj4 h1 c.b (G:=λr=>zaZ r c.pb.toNat up) hrb' (hf.plug _ up Y rb' bp (h1.Q _ rb' hrb')) (λ_ _ _ g=>g.elim);have hst: ∀s,(N.ptA (c.rdE s)).l.opn/\((N.ptA (c.rdE s)).l.st=1↔up=true):=λs=>⟨hw.op i c s hc,(hw.st i c s hc).trans (by cases up<;>cases hci:c.inn<;>simp_all)⟩;-- other ends
 have hoth: ∀e',e'≠c.rdE true->e'≠c.rdE false->Rp (N.ptA e') (((N.onR c.a (λr=>zaZ r c.pa.toNat up)).onR c.b (λr=>zaZ r c.pb.toNat up)).ptA e'):=λe' g1 g2=>(p1 e' g1).trans (q1 e' g2);have hend: ∀s,(((N.onR c.a (λr=>zaZ r c.pa.toNat up)).onR c.b (λr=>zaZ r c.pb.toNat up)).ptA (c.rdE s)).rd=rd0/\(((N.onR c.a (λr=>zaZ r c.pa.toNat up)).onR c.b (λr=>zaZ r c.pb.toNat up)).ptA (c.rdE s)).l.opn/\((((N.onR c.a (λr=>zaZ r c.pa.toNat up)).onR c.b (λr=>zaZ r c.pb.toNat up)).ptA (c.rdE s)).l.st=1↔up=false):=λs=>by
  cases s with
  |true=>
   have t1:=p2 (hst true).1 (hst true).2;have t2:=q1 (c.rdE true) hAB;exact⟨t2.1.trans t1.1,(t2.2.2 t1.2.1).1,(t2.2.2 t1.2.1).2.trans t1.2.2⟩
  |false=>
   have t1:=p1 (c.rdE false) (λg=>hAB g.symm);have t2:=hst false;exact q2 (t1.2.2 t2.1).1 ((t1.2.2 t2.1).2.trans t2.2)
 have h3:=ni_cs (x:=0) (y:=0) h2 (C:=N.cs.set i { c with inn:=up,w0:=[],w1:=[] }) (F':=λj t=>if j=i then [] else F j t) (E':=λ_=>True) (λj x t _ hx=>by
  rcases zcs hx with⟨rfl,rfl⟩|⟨hne,hx⟩
  .rw[if_pos rfl];have e1:Cb.rdE { c with inn:=up,w0:=[],w1:=[] } t=c.rdE t:=by cases t<;>rfl
   have e2:Cb.wr { c with inn:=up,w0:=[],w1:=[] } t=[]:=by cases t<;>rfl
   rw[e1,e2,show Nt.rdA _ _=rd0 from (hend t).1];exact ziP
  .rw[if_neg (λg=>hne g.symm)];have hn1: ∀s,x.rdE t≠c.rdE s:=λs g=>hne (hw.uq j i x c t s hx hc g).1.symm;rw[show Nt.rdA _ _=N.rdA (x.rdE t) from (hoth (x.rdE t) (hn1 true) (hn1 false)).1];exact h.fl j x t trivial hx) (λj t=>by
  split
  .exact λt ht=>by cases ht
  .exact (h.fg j t).up (Nat.le_trans hXY hYZ)) (by
  rw[List.length_set];exact zcX (f:=λi=>S.s (F i false)+S.s (F i true)) (g:=λj=>S.s (if j=i then [] else F j false)+S.s (if j=i then [] else F j true)) (i:=i) (x:=0) (y:=0) N.cs.length hi (λj hj hne=>by rw[if_neg hne,if_neg hne]) (by
   rw[if_pos rfl,if_pos rfl,S.s_nil];omega))
 refine⟨⟨Z,_,U2,h3.up (by omega)⟩,⟨λj l x y s t hj hl g=>?_,λj x s hj=>?_,λj x s hj=>?_,λj x s hj hin=>?_⟩⟩
 .have key: ∀(j:Nat) (x:Cb),(N.cs.set i { c with inn:=up,w0:=[],w1:=[] })[j]? =some x-> ∃x',N.cs[j]? =some x'/\ ∀s,x.rdE s=x'.rdE s:=λj x hx=>by
   rcases zcs hx with⟨rfl,rfl⟩|⟨hne,hx⟩
   .exact⟨c,hc,λs=>by cases s<;>rfl⟩
   .exact⟨x,hx,λ_=>rfl⟩
  obtain⟨x',hx',ex⟩:=key j x hj;obtain⟨y',hy',ey⟩:=key l y hl;exact hw.uq j l x' y' s t hx' hy' (by rw[<-ex,<-ey];exact g)
 .rcases zcs hj with⟨rfl,rfl⟩|⟨hne,hx⟩
  .have e1:Cb.rdE { c with inn:=up,w0:=[],w1:=[] } s=c.rdE s:=by cases s<;>rfl
   rw[e1];exact (hend s).2.1
  .have hn1: ∀t,x.rdE s≠c.rdE t:=λt g=>hne (hw.uq j i x c s t hx hc g).1.symm;exact ((hoth (x.rdE s) (hn1 true) (hn1 false)).2.2 (hw.op j x s hx)).1
 .rcases zcs hj with⟨rfl,rfl⟩|⟨hne,hx⟩
  .have e1:Cb.rdE { c with inn:=up,w0:=[],w1:=[] } s=c.rdE s:=by cases s<;>rfl
   rw[e1];exact (hend s).2.2
  .have hn1: ∀t,x.rdE s≠c.rdE t:=λt g=>hne (hw.uq j i x c s t hx hc g).1.symm;exact ((hoth (x.rdE s) (hn1 true) (hn1 false)).2.2 (hw.op j x s hx)).2.trans (hw.st j x s hx)
 .rcases zcs hj with⟨rfl,rfl⟩|⟨hne,hx⟩
  .cases s<;>rfl
  .exact hw.w j x s hx hin
theorem ok_plug0(hN:N.ok k 0 d e){i:Nat}{c:Cb}(hc:N.cs[i]? =some c)(up:Bool):(zgf N i c up).ok k 780 d e:=by
 have hco:=hN.c c (getq hc);have k1:=zem hN i (c:={ c with inn:=up,w0:=[],w1:=[] }) ⟨hco.a,hco.pa,hco.b,hco.pb,Nat.zero_le _,Nat.zero_le _⟩;have k2:=zat k1 (m:=390) (f:=d) (by omega) (Nat.le_refl _) c.a (F:=λr=>zaZ r c.pa.toNat up) (λr hr=>by have:=zcY hr c.pa.toNat up;rw[Nat.zero_add] at this;exact this);exact zat k2 (m:=780) (f:=d) (by omega) (Nat.le_refl _) c.b (F:=λr=>zaZ r c.pb.toNat up) (λr hr=>zcY hr c.pb.toNat up)
theorem zlV(hB:InB S J)(hf:Cost S ct cn)(h:On S J M N)(hI:N.inv k d e)(hn:N.num T)(i:Int)(up:Bool):On S J M (zbY N i up)/\(zbY N i up).num T:=by
 unfold zbY;cases hcb:N.cb i with
 |none=>exact⟨h,hn⟩
 |some c=>
  obtain⟨_,hc⟩:=zdL hcb;dsimp only;split
  .exact⟨h,hn⟩
  .rename_i hu;exact zft hB (on_plug0 hf h hI.ok hc hu) (ok_plug0 hI.ok hc up) (zfZ (zfZ (N:={ N with cs:=_ }) hn _ (λr=>⟨(zcM ..).1,λj=>m_plug ..⟩)) _ (λr=>⟨(zcM ..).1,λj=>m_plug ..⟩))
theorem on_new(hf:Cost S ct cn)(h:On S J M N)(hI:N.inv k d e)(hk:k<=6)(hn:N.num T){i:Int}(hi:1<=i/\i<=k)(hout: ∀(j:Nat) (c:Cb),N.cs[j]? =some c->c.a=i\/c.b=i->c.inn=false):On S J (M+cn) (N.onR i λ_=>newR i (N.mt.getD (i-1).toNat []))/\(N.onR i λ_=>newR i (N.mt.getD (i-1).toNat [])).num T:=by
 obtain⟨⟨X,F,U,h⟩,hw⟩:=h;have hlt:(i-1).toNat<N.mt.length:=by rw[hI.ok.mt];omega
 obtain⟨a,b,c0,h1,ha,hb,hc0⟩:=hI.ok.m3 N.mt[(i-1).toNat] (List.getElem_mem hlt);have hms:N.mt.getD (i-1).toNat []=[a,b,c0]:=by rw[List.getD_eq_getElem?_getD,List.getElem?_eq_getElem hlt];exact h1
 rw[hms];have hlt2:(i-1).toNat<N.rs.length:=by rw[hI.ok.rs];omega
 have hr:=List.getElem?_eq_getElem hlt2;generalize N.rs[(i-1).toNat]=r at hr;obtain⟨Y,hXY,hQ,hW⟩:=hf.new X i a b c0 hi.1 (by omega) ha hb hc0;have hrs:=zfc (G:=λ_=>newR i [a,b,c0]) hr;have hnp: ∀p,((newR i [a,b,c0]).pt p).rd=rd0/\(p<3->((newR i [a,b,c0]).pt p).l.st=1):=λp=>by
  rcases (by omega:p=0\/p=1\/p=2\/3<=p) with rfl|rfl|rfl|g
  .exact⟨rfl,λ_=>rfl⟩
  .exact⟨rfl,λ_=>rfl⟩
  .exact⟨rfl,λ_=>rfl⟩
  .refine⟨?_,λg2=>by omega⟩;unfold Rt.pt;rw[List.getD_eq_getElem?_getD,List.getElem?_eq_none (show (newR i [a,b,c0]).ps.length<=p from g)];rfl
 have htouch: ∀(j:Nat) (c:Cb) (s:Bool),N.cs[j]? =some c->(i-1).toNat=(c.rdE s).1->c.inn=false:=λj c s hc g=>by
  have hco:=hI.ok.c c (getq hc);have:=hco.a;have:=hco.b;refine hout j c hc ?_;cases s
  .right;change (i-1).toNat=(c.b-1).toNat at g;omega
  .left;change (i-1).toNat=(c.a-1).toNat at g;omega
 refine⟨⟨⟨Y,F,λb j=>if b=(i-1).toNat then [] else U b j,⟨λj c s _ hc=>?_,λj s=>(h.fg j s).up hXY,λx q j p hq hp=>?_,λx j=>?_,λx q hq=>?_,?_⟩⟩,⟨hw.uq,λj c s hc=>?_,λj c s hc=>?_,hw.w⟩⟩,hn.1,λx q hq=>?_⟩
 .have hfl:=h.fl j c s trivial hc;unfold Nt.rdA;rw[zdS (G:=λ_=>newR i [a,b,c0]) hr];split
  .rename_i g;have hin:=htouch j c s hc g;have hwr:=hw.w j c s hc hin;rw[hwr] at hfl ⊢;rw[(hnp _).1,(flow_nil hfl).2];exact ziP
  .exact hfl
 .rw[hrs] at hq;split at hq
  .rename_i g;cases hq;rw[if_pos g.symm];rcases (by have:=(List.getElem?_eq_some_iff.1 hp).1;change j<3 at this;omega:j=0\/j=1\/j=2) with rfl|rfl|rfl
   .cases hp;rfl
   .cases hp;rfl
   .cases hp;rfl
  .rename_i g;rw[if_neg (λg2=>g g2.symm)];exact h.ou x q j p hq hp
 .split
  .exact λt ht=>by cases ht
  .exact (h.ug x j).up hXY
 .rw[hrs] at hq;split at hq
  .cases hq;exact hQ
  .exact S.Qm hXY (h.Q x q hq)
 .have hs:=h.sum;unfold Meas.tot at hs ⊢;have hlen:(N.onR i λ_=>newR i [a,b,c0]).rs.length=N.rs.length:=List.length_modify ..;rw[hlen,show (N.onR i λ_=>newR i [a,b,c0]).cs=N.cs from rfl];have key:=zcX (f:=S.at J U N) (g:=S.at J (λb j=>if b=(i-1).toNat then [] else U b j) (N.onR i λ_=>newR i [a,b,c0])) (i:=(i-1).toNat) (x:=Y) (y:=X+cn) N.rs.length hlt2 (λx hx hne=>by
   unfold Meas.at;rw[zck (G:=λ_=>newR i [a,b,c0]) hr,if_neg (λg=>hne g.symm)];simp only[if_neg hne];rfl) (by
   unfold Meas.at;rw[zck (G:=λ_=>newR i [a,b,c0]) hr,if_pos rfl];simp only[if_true];have:S.v (λ_=>[])=0:=rfl;show S.v (λ_=>[])+S.W (newR i [a,b,c0]).co+J (i-1).toNat (N.ib.getD (i-1).toNat [])+Y<=_;omega)
  omega
 .change ((N.onR i λ_=>newR i [a,b,c0]).ptA (c.rdE s)).l.opn;rw[zdS (G:=λ_=>newR i [a,b,c0]) hr];split
  .obtain⟨-, -, -, hp3,-, -⟩:=zit hI.ok hc (!s);exact .inl ((hnp _).2 (by rw[zo1];exact hp3))
  .exact hw.op j c s hc
 .change ((N.onR i λ_=>newR i [a,b,c0]).ptA (c.rdE s)).l.st=1↔_;rw[zdS (G:=λ_=>newR i [a,b,c0]) hr];split
  .rename_i g;obtain⟨-, -, -, hp3,-, -⟩:=zit hI.ok hc (!s);exact⟨λ_=>htouch j c s hc g,λ_=>(hnp _).2 (by rw[zo1];exact hp3)⟩
  .exact hw.st j c s hc
 .rw[hrs] at hq;split at hq
  .rename_i g;cases hq;refine⟨?_,λj=>?_⟩
   .show i=_;omega
   .rw[<-g,<-hn.1,hms];rcases (by omega:j=0\/j=1\/j=2\/3<=j) with rfl|rfl|rfl|gj
    .rfl
    .rfl
    .rfl
    .unfold Rt.pt;rw[List.getD_eq_getElem?_getD,List.getElem?_eq_none (show (newR i [a,b,c0]).ps.length<=j from gj),List.getD_eq_getElem?_getD,List.getElem?_eq_none (show [a,b,c0].length<=j from gj)];rfl
  .exact hn.2 x q hq
end
variable {π:Mg->Bool} {ρ:Int->Mg->Bool} {X:Nat} {r:Rt}
theorem zm1(hK:Kept π ρ)(to:Int)(t:ByteArray):Mv (zaf π ρ) (if π ⟨to,8,t⟩=true then 1 else 0) X r (zbw r to t):=by
 by_cases h:to<1\/6<to\/20<t.size
 .rw[show zbw r to t=r from if_pos h];exact (zbv (S:=zaf π ρ) trivial).up (Nat.zero_le _)
 .rw[show zbw r to t=zcg r ⟨to,8,t⟩ from if_neg h];exact zim hK ⟨to,8,t⟩ ⟨by dsimp only;omega,by dsimp only;omega⟩ (by dsimp only;decide)
theorem zj8(hK:Kept π ρ):Cost (zaf π ρ) 0 0 where
 tak:=λi t X r _ _ _=>zq2 hK i t
 tick:=λX r _=>zpI
 plug:=λi up X r _ _=>zpy i up
 new:=λX i a b c _ _ _ _ _=>⟨X,Nat.le_refl _,trivial,Nat.le_of_eq (Nat.zero_add _)⟩
def zid(ρ:Int->Mg->Bool)(i:Nat)(l:List Mg):Nat:=l.countP (ρ ((i:Int)+1))
theorem zmQ:InB (zaf π ρ) (zid ρ):=λi X c l hid _=>⟨trivial,by
 show 0+List.countP (ρ ((i:Int)+1)) (l++c.inb)<=List.countP (ρ c.id) c.inb+List.countP (ρ ((i:Int)+1)) l;rw[List.countP_append,hid];omega⟩
def toP(k:Int)(t:ByteArray)(m:Mg):Bool:=decide (m.to=k)&&decide (m.text=t)
theorem kept_to(k:Int)(t:ByteArray):Kept (toP k t) (λ_=>toP k t):=⟨λm h _ _ _ g=>g,λm _ g=>g⟩
def badM(m:Mg):Bool:=decide (8<m.hops)
def badR(id:Int)(m:Mg):Bool:=decide (m.to≠id)||decide (m.hops<0)||decide (8<m.hops)
theorem kept_bad:Kept badM badR:=by
 refine⟨λm h _ h1 e g=>?_,λm h0 g=>?_⟩
 .unfold badM at g ⊢;simp only[decide_eq_true_eq] at g ⊢;by_cases h8:8<m.hops
  .exact h8
  .exfalso;have:=u8_in (n:=m.hops-1) (by omega) (by omega);omega
 .unfold badR at g;unfold badM;simp only[Bool.or_eq_true,decide_eq_true_eq] at g ⊢;rcases g with (g|g)|g
  .exact absurd rfl g
  .omega
  .exact g
section
variable {S:Meas} {J:Nat->List Mg->Nat} {M ct cn:Nat} {N:Nt} {k d e:Nat} {T:List (List Int)}
theorem zgZ{α:Type}{f:Nt->α->Nt}(a b c:Nat)(hs: ∀(N:Nt) (x:α) (d e:Nat),N.inv k d e->(f N x).inv k (d+a) (e+b))(ho: ∀(N:Nt) (x:α) (d e M:Nat),N.inv k d e->N.num T->On S J M N->On S J (M+c) (f N x)/\(f N x).num T): ∀(l:List α) {N:Nt} {d e M:Nat},N.inv k d e->N.num T->On S J M N->On S J (M+c*l.length) (l.foldl f N)/\(l.foldl f N).num T
 |[],N,d,e,M,_,hn,h=>⟨h,hn⟩
 |x::l,N,d,e,M,hI,hn,h=>by
  obtain⟨h1,h2⟩:=ho N x d e M hI hn h;have:=zgZ a b c hs ho l (hs N x d e hI) h2 h1;exact⟨this.1.up (by rw[List.length_cons,Nat.mul_succ];omega),this.2⟩
theorem on_dels(hB:InB S J)(hf:Cost S ct cn)(h:On S J M N)(hI:N.inv k d e)(hn:N.num T)(j:Nat):On S J M (ziA N j)/\(ziA N j).num T:=by
 have:=zgZ (k:=k) (S:=S) (J:=J) (f:=λq (i:Nat)=>ndel (ndel q i 0 2000) i 1 2000) 4000 2080000 0 (λN x d e h=>(zdF (zdF h x 0 2000) x 1 2000).up (by omega) (by omega)) (λN x d e M hI hn h=>by
  obtain⟨a1,a2⟩:=zpi hB hf h hI hn x 0 2000;exact zpi hB hf a1 (zdF hI x 0 2000) a2 x 1 2000) (List.range N.cs.length) hI hn h
 exact⟨this.1.up (by omega),this.2⟩
theorem zl7(hB:InB S J)(hf:Cost S ct cn)(h:On S J M N)(hI:N.inv k d e)(hk:k<=6)(hn:N.num T):On S J (M+6*ct) (zdt N)/\(zdt N).num T:=by
 have h1:=ze8 (k:=k) (f:=λq (i:Nat)=>zdH q ((i:Int)+1)) 0 6630 (λN x d e h=>zd8 h _) (List.range N.rs.length) hI;obtain⟨a1,a2⟩:=zgZ (k:=k) (S:=S) (J:=J) (f:=λq (i:Nat)=>zdH q ((i:Int)+1)) 0 6630 ct (λN x d e h=>zd8 h _) (λN x d e M hI hn h=>zpo hB hf h hI hn _) (List.range N.rs.length) hI hn h;have:=zgZ (k:=k) (S:=S) (J:=J) (f:=ziA) 36000 18720000 0 (λN x d e h=>zmO h x) (λN x d e M hI hn h=>on_dels hB hf h hI hn x) (List.range 12) h1 a2 a1;have hl:N.rs.length=k:=hI.ok.rs;refine⟨this.1.up ?_,this.2⟩;rw[List.length_range,hl];have:=Nat.mul_le_mul_left ct hk;omega
structure RsO (T:List (List Int)) (S:Meas) (J:Nat->List Mg->Nat) (M k d e:Nat) (N:Nt) (i:Int) (m:Nat) (s:Nt×List Nat):Prop where
 mt:s.1.mt=N.mt
 inv:s.1.inv k d (e+780*m)
 on:On S J M s.1
 num:s.1.num T
 out: ∀(j:Nat) (c:Cb),j<m->s.1.cs[j]? =some c->c.a=i\/c.b=i->c.inn=false
 len:s.1.cs.length=N.cs.length/\s.2.length<=m
theorem rso_step(hB:InB S J)(hf:Cost S ct cn){i:Int}{m:Nat}{s:Nt×List Nat}(h:RsO T S J M k d e N i m s):RsO T S J M k d e N i (m+1) (zc8 i s m):=by
 unfold zc8;split
 .obtain⟨a1,a2⟩:=zlV hB hf h.on h.inv h.num m false;have hcs:=cse_plug h.inv m false;refine⟨(zhH _ _ h.inv.ok).2.trans h.mt,(zby h.inv m false).up (Nat.le_refl _) (by omega),a1,a2,λj c hj hc ht=>?_,(zhH _ _ h.inv.ok).1.trans h.len.1,by simp only[List.length_append,List.length_singleton];have:=h.len.2;omega⟩;have hjl:j<s.1.cs.length:=by rw[<-(zhH (m:Int) false h.inv.ok).1];exact (List.getElem?_eq_some_iff.1 hc).1
  have hx:=List.getElem?_eq_getElem hjl;generalize s.1.cs[j]=x at hx;obtain⟨y,hy,hyi⟩: ∃y,(nIn s.1 m false).cs[j]? =some y/\(y.a=x.a/\y.b=x.b/\(if j=m then y.inn=false else y=x)):=by
   unfold nIn;cases hm:s.1.cb m with
   |none=>
    have hne:j≠m:=λg=>by
     subst g;unfold Nt.cb at hm;rw[if_neg (by omega),Int.toNat_natCast,hx] at hm;cases hm
    exact⟨x,hx,rfl,rfl,by rw[if_neg hne]⟩
   |some z=>
    have hz:=(zdL hm).2;rw[Int.toNat_natCast] at hz;show ∃y,(s.1.cs.set _ _)[j]? =some y/\_;rw[zjb hx,Int.toNat_natCast];by_cases g:m=j
    .subst g;rw[hx] at hz;cases hz;exact⟨{ x with inn:=false },by rw[if_pos rfl],rfl,rfl,by rw[if_pos rfl]⟩
    .exact⟨x,by rw[if_neg g],rfl,rfl,by rw[if_neg (λh=>g h.symm)]⟩
  obtain⟨z,hz,hE⟩:=hcs.2 j y hy;rw[hc] at hz;cases hz;rw[hE.2.2.2.2.2];by_cases g:j=m
  .rw[if_pos g] at hyi;exact hyi.2.2
  .rw[if_neg g] at hyi;rw[hyi.2.2];refine h.out j x (by omega) hx ?_;rw[<-hyi.1,<-hyi.2.1,<-hE.1,<-hE.2.2.1];exact ht
 .rename_i ht;refine⟨h.mt,h.inv.up (Nat.le_refl _) (by omega),h.on,h.num,λj c hj hc hi=>?_,h.len.1,by have:=h.len.2;omega⟩;by_cases g:j=m
  .subst g;unfold zh6 at ht;rw[hc] at ht;cases hin:c.inn with
   |false=>rfl
   |true=>
    exfalso;apply ht;dsimp only;rw[hin];rcases hi with hi|hi
    .rw[hi,beq_self_eq_true];rfl
    .rw[hi,beq_self_eq_true,Bool.or_true];rfl
  .exact h.out j c (by omega) hc hi
theorem on_rst(hB:InB S J)(hf:Cost S ct cn)(h:On S J M N)(hI:N.inv k d e)(hk:k<=6)(hn:N.num T)(i:Int):On S J (M+cn) (nrst N i)/\(nrst N i).num T:=by
 unfold nrst;split
 .rename_i hi0;have hi:=zcI.1 hi0;rw[hI.ok.rs] at hi;have key: ∀m,m<=N.cs.length->RsO T S J M k d e N i m ((List.range m).foldl (zc8 i) (N,[])):=by
   intro m
   induction m with
   |zero=>exact λ_=>⟨rfl,hI,h,hn,λj c hj=>absurd hj (Nat.not_lt_zero _),rfl,Nat.le_refl _⟩
   |succ m ih=>
    intro hm;rw[List.range_succ,List.foldl_append];exact rso_step hB hf (ih (by omega))
  have hs:=key _ (Nat.le_refl _);generalize (List.range N.cs.length).foldl (zc8 i) (N,[])=s at *
  have b1:=ziS hs.inv hk (i:=i) ⟨hi.1,by omega⟩;have b2:=on_new hf hs.on hs.inv hk hs.num (i:=i) ⟨hi.1,by omega⟩ (λj c hc ht=>hs.out j c (by have:=(List.getElem?_eq_some_iff.1 hc).1;have:=hs.len.1;omega) hc ht);rw[hs.mt] at b1 b2;have:=zgZ (k:=k) (S:=S) (J:=J) (f:=λq (j:Nat)=>zbY q j true) 0 780 0 (λN x d e h=>zby h _ _) (λN x d e M hI hn h=>zlV hB hf h hI hn _ _) s.2 b1 b2.2 b2.1;exact⟨this.1.up (by omega),this.2⟩
 .exact⟨h.up (by omega),hn⟩
end
def Ca.en(c:Ca)(s:Bool):Int×Int:=if s then (c.a,c.pa) else (c.b,c.pb)
theorem zl8{k:Int}: ∀{l:List Ca} {U:List (Int×Int)},ze4 k l U=0->(∀(i:Nat) (c:Ca) (s:Bool),l[i]? =some c->c.en s∉U)/\ ∀(i j:Nat) (c d:Ca) (s t:Bool),l[i]? =some c->l[j]? =some d->c.en s=d.en t->i=j/\s=t
 |[],U,_=>⟨λi c s h=>(by cases h),λi j c d s t h=>(by cases h)⟩
 |x::l,U,h=>by
  unfold ze4 at h;split at h
  .rename_i h1;exact absurd h h1
  .rename_i h1;have h2:capE k U x=0:=Decidable.not_not.1 h1;unfold capE at h2;split at h2
   .cases h2
   .split at h2
    .rename_i g1 g2;exact absurd h2 g2
    .rename_i g1 g2;have e1:=(zhs (Decidable.not_not.1 g2)).2.2.2.2;have e2:=(zhs h2).2.2.2.2;obtain⟨r1,r2⟩:=zl8 h;have hx: ∀s,x.en s∉U:=λs=>by
      cases s
      .exact λg=>e2 (List.mem_cons_of_mem _ g)
      .exact e1
     have hxx:x.en true≠x.en false:=λg=>e2 (by rw[show (x.b,x.pb)=(x.a,x.pa) from g.symm];exact List.mem_cons_self ..);have hxl: ∀(i:Nat) (c:Ca) (s t:Bool),l[i]? =some c->c.en s≠x.en t:=λi c s t hc g=>by
      refine r1 i c s hc ?_;rw[g];unfold zoR;cases t
      .exact List.mem_cons_self ..
      .exact List.mem_cons_of_mem _ (List.mem_cons_self ..)
     refine⟨λi c s hc=>?_,λi j c d s t hc hd g=>?_⟩
     .cases i with
      |zero=>cases hc;exact hx s
      |succ i=>exact λg=>r1 i c s hc (List.mem_cons_of_mem _ (List.mem_cons_of_mem _ g))
     .cases i with
      |zero=>
       cases j with
       |zero=>
        cases hc;cases hd;refine⟨rfl,?_⟩;cases s<;>cases t
        .rfl
        .exact absurd g.symm hxx
        .exact absurd g hxx
        .rfl
       |succ j=>cases hc;exact absurd g.symm (hxl j d t s hd)
      |succ i=>
       cases j with
       |zero=>cases hd;exact absurd g (hxl i c s t hc)
       |succ j=>
        have:=r2 i j c d s t hc hd g;exact⟨by omega,this.2⟩
theorem on_newN{S:Meas}{J:Nat->List Mg->Nat}{ct cn:Nat}(hf:Cost S ct cn)(hJ: ∀i,J i []=0){k:Nat}{l:List Ca}(hc:zb5 k l=0):On S J (7*cn) (newN k l)/\(newN k l).num (newT k l):=by
 obtain⟨k1,k6,hlen,hl⟩:=zc4 hc;rw[Int.toNat_natCast] at hl;have hT:=zmD hl;have hrow: ∀i,i<k-> ∃a b c,(newT k l).getD i []=[a,b,c]/\(1<=a/\a<=20)/\(1<=b/\b<=20)/\(1<=c/\c<=20):=λi hi=>by
  rw[List.getD_eq_getElem?_getD,List.getElem?_eq_getElem (by rw[hT.len];exact hi)];exact zeU hT (List.getElem_mem (by rw[hT.len];exact hi))
 have hrs: ∀(i:Nat) (r:Rt),(newN k l).rs[i]? =some r->i<k/\ ∃a b c,r=newR ((i:Int)+1) [a,b,c]/\(1<=a/\a<=20)/\(1<=b/\b<=20)/\(1<=c/\c<=20):=λi r hr=>by
  unfold newN at hr;dsimp only at hr;rw[List.getElem?_map] at hr;cases hs:(List.range k)[i]? with
  |none=>rw[hs] at hr;cases hr
  |some x=>
   rw[hs] at hr;obtain rfl:=Option.some.inj hr;obtain⟨h1,h2⟩:=List.getElem?_eq_some_iff.1 hs;rw[List.getElem_range] at h2;subst h2;rw[List.length_range] at h1;obtain⟨a,b,c,h,g⟩:=hrow i h1;exact⟨h1,a,b,c,by show newR ((i:Int)+1) ((newT k l).getD i [])=_;rw[h],g⟩
 have hrl:(newN k l).rs.length=k:=by simp [newN]
 have hget: ∀i,i<k-> ∃r,(newN k l).rs[i]? =some r:=λi hi=>⟨_,List.getElem?_eq_getElem (by rw[hrl];exact hi)⟩;have hcs: ∀(i:Nat) (c:Cb),(newN k l).cs[i]? =some c-> ∃x,l[i]? =some x/\c=mkCb x:=λi c h=>by
  have h':(l.map mkCb)[i]? =some c:=h;rw[List.getElem?_map] at h';cases hx:l[i]? with
  |none=>rw[hx] at h';cases h'
  |some x=>rw[hx] at h';exact⟨x,rfl,(Option.some.inj h').symm⟩
 have hpt: ∀(i:Nat) (c:Cb) (s:Bool),(newN k l).cs[i]? =some c->((newN k l).ptA (c.rdE s)).l.st=1/\((newN k l).ptA (c.rdE s)).rd=rd0:=λi c s h=>by
  obtain⟨x,hx,rfl⟩:=hcs i c h;have hx2:=hl x (getq hx);have h1:((mkCb x).rdE s).1<k/\((mkCb x).rdE s).2<3:=by
   have:=hx2.a;have:=hx2.b;have:=hx2.pa;have:=hx2.pb;cases s
   .show (x.b-1).toNat<k/\x.pb.toNat<3;omega
   .show (x.a-1).toNat<k/\x.pa.toNat<3;omega
  obtain⟨r,hr⟩:=hget _ h1.1;obtain⟨_,a,b,c,rfl,-⟩:=hrs _ r hr;unfold Nt.ptA;rw[zb7 hr];rcases (by omega:((mkCb x).rdE s).2=0\/((mkCb x).rdE s).2=1\/((mkCb x).rdE s).2=2) with g|g|g
  .rw[g];exact⟨rfl,rfl⟩
  .rw[g];exact⟨rfl,rfl⟩
  .rw[g];exact⟨rfl,rfl⟩
 have hQ: ∀(i:Nat) (r:Rt),(newN k l).rs[i]? =some r->S.Q cn r.co/\S.W r.co<=cn:=λi r hr=>by
  obtain⟨hi,a,b,c,rfl,ha,hb,hc⟩:=hrs i r hr;obtain⟨Y,_,h2,h3⟩:=hf.new 0 ((i:Int)+1) a b c (by omega) (by omega) ha hb hc;exact⟨S.Qm (by omega) h2,by omega⟩
 refine⟨⟨⟨cn,λ_ _=>[],λ_ _=>[],⟨λi c s _ h=>?_,λi s t ht=>(by cases ht),λx r j p hr hp=>?_,λa j t ht=>(by cases ht),λa r hr=>(hQ a r hr).1,?_⟩⟩,⟨λi j c d s t h g he=>?_,λi c s h=>.inl (hpt i c s h).1,λi c s h=>?_,λi c s h _=>?_⟩⟩,rfl,λi r hr=>?_⟩
 .unfold Nt.rdA;rw[(hpt i c s h).2];obtain⟨x,hx,rfl⟩:=hcs i c h;cases s<;>exact ziP
 .obtain⟨_,a,b,c,rfl,-⟩:=hrs x r hr;obtain⟨j',m,rfl,-⟩:=zdI [a,b,c] 0 p (getq (l:=newPs ((x:Int)+1) 0 [a,b,c]) hp);rfl
 .unfold Meas.tot;have e1:sumN (newN k l).cs.length (λi=>S.s []+S.s [])=0:=by
   unfold sumN;exact sum0 (λn hn=>by obtain⟨_,_,rfl⟩:=List.mem_map.1 hn;rfl)
  rw[e1,hrl];have e2:sumN k (S.at J (λ_ _=>[]) (newN k l))<=k*cn:=by
   have: ∀m,m<=k->sumN m (S.at J (λ_ _=>[]) (newN k l))<=m*cn:=by
    intro m
    induction m with
    |zero=>exact λ_=>Nat.zero_le _
    |succ m ih=>
     intro hm;rw[zdR,Nat.succ_mul];have h1:=ih (by omega);obtain⟨r,hr⟩:=hget m (by omega);have h2:=(hQ m r hr).2;have h3:S.at J (λ_ _=>[]) (newN k l) m=S.W r.co:=by
      unfold Meas.at;rw[zb7 hr];have hb:(newN k l).ib.getD m []=[]:=by
       show (List.replicate k []).getD m []=[];rw[List.getD_eq_getElem?_getD,List.getElem?_replicate];split<;>rfl
      rw[hb,hJ];show 0+0+0+S.W r.co+0=_;omega
     omega
   exact this k (Nat.le_refl _)
  have e3:=Nat.mul_le_mul_right cn (show k<=6 by omega);omega
 .obtain⟨x,hx,rfl⟩:=hcs i c h;obtain⟨y,hy,rfl⟩:=hcs j d g;have hx2:=hl x (getq hx);have hy2:=hl y (getq hy);unfold zb5 at hc;split at hc
  .cases hc
  .split at hc
   .cases hc
   .refine (zl8 hc).2 i j x y s t hx hy ?_;have:=hx2.a;have:=hx2.b;have:=hx2.pa;have:=hx2.pb;have:=hy2.a;have:=hy2.b;have:=hy2.pa;have:=hy2.pb;cases s<;>cases t<;>(have q1:=congrArg Prod.fst he;have q2:=congrArg Prod.snd he)
    .change (x.b-1).toNat=(y.b-1).toNat at q1;change x.pb.toNat=y.pb.toNat at q2;exact Prod.ext (show x.b=y.b by omega) (show x.pb=y.pb by omega)
    .change (x.b-1).toNat=(y.a-1).toNat at q1;change x.pb.toNat=y.pa.toNat at q2;exact Prod.ext (show x.b=y.a by omega) (show x.pb=y.pa by omega)
    .change (x.a-1).toNat=(y.b-1).toNat at q1;change x.pa.toNat=y.pb.toNat at q2;exact Prod.ext (show x.a=y.b by omega) (show x.pa=y.pb by omega)
    .change (x.a-1).toNat=(y.a-1).toNat at q1;change x.pa.toNat=y.pa.toNat at q2;exact Prod.ext (show x.a=y.a by omega) (show x.pa=y.pa by omega)
 .obtain⟨x,hx,rfl⟩:=hcs i c h;exact⟨λ_=>rfl,λ_=>(hpt i _ s h).1⟩
 .obtain⟨x,hx,rfl⟩:=hcs i c h;cases s<;>rfl
 .have hm:(newN k l).rs[i]? =some r:=hr;obtain⟨hi,-⟩:=hrs i r hr;obtain⟨a,b,c,h,-⟩:=hrow i hi;have e:r=newR ((i:Int)+1) ((newT k l).getD i []):=by
   have h2:((List.range k).map λ(i:Nat)=>newR ((i:Int)+1) ((newT k l).getD i []))[i]? =some r:=hr;rw[List.getElem?_map,List.getElem?_range hi] at h2;exact (Option.some.inj h2).symm
  rw[h] at e ⊢;subst e;refine⟨rfl,λj=>?_⟩;rcases (by omega:j=0\/j=1\/j=2\/3<=j) with rfl|rfl|rfl|gj
  .rfl
  .rfl
  .rfl
  .unfold Rt.pt;rw[List.getD_eq_getElem?_getD,List.getElem?_eq_none (show (newR ((i:Int)+1) [a,b,c]).ps.length<=j from gj),List.getD_eq_getElem?_getD,List.getElem?_eq_none (show [a,b,c].length<=j from gj)];rfl
def vw(x:Int×Pe):Int×Bool×Int:=(x.1,x.2.both,x.2.who)
def leastK(l:List (Int×Bool×Int))(n:Int):Int:=l.foldl (λa v=>if v.2.1=true/\v.2.2=n/\(a=0\/v.1<a) then v.1 else a) 0
def edgK(l:List (Int×Bool×Int)):Nat->List (Int×Int)
 |0=>[]
 |k+1=>edgK l k++if 0<leastK l ((k:Int)+1) then [((k:Int)+1,leastK l ((k:Int)+1))] else []
def Co.edges(c:Co):List (Int×Int):=edgK (c.ps.map vw) 6
def Pg(id:Int)(x:Int×Pe):Prop:=(1<=x.1/\x.1<=20)/\(x.2.both=true->1<=x.2.who/\x.2.who<=6/\x.2.who≠id)
structure TQ0 (X:Nat) (c:Co):Prop where
 id:1<=c.id/\c.id<=6
 len:c.ps.length=3
 ps: ∀x∈c.ps,Pg c.id x
 kn: ∀(n:Int) (s:St3),c.b.kn n=some s->s.1=n/\sf s=0/\s.2.1<=(X:Int)
 own: ∃s,c.b.kn c.id=some s
structure TQ (X:Nat) (c:Co):Prop extends TQ0 X c where
 ed:X<1000000-> ∀s,c.b.kn c.id=some s->s.2.2=c.edges
theorem TQ0.up{X Y:Nat}{c:Co}(h:TQ0 X c)(hl:X<=Y):TQ0 Y c:=⟨h.id,h.len,h.ps,λn s hs=>⟨(h.kn n s hs).1,(h.kn n s hs).2.1,by have:=(h.kn n s hs).2.2;omega⟩,h.own⟩
theorem TQ.up{X Y:Nat}{c:Co}(h:TQ X c)(hl:X<=Y):TQ Y c:=⟨h.toTQ0.up hl,λg=>h.ed (by omega)⟩
theorem TQ0.b{X:Nat}{c:Co}(h:TQ0 X c){b:Ba}(hb:b.kn=c.b.kn):TQ0 X { c with b:=b }:=⟨h.id,h.len,h.ps,λn s hs=>h.kn n s (by rw[<-hb];exact hs),by obtain⟨s,hs⟩:=h.own;exact⟨s,by show b.kn _=_;rw[hb];exact hs⟩⟩
theorem TQ.b'{X:Nat}{c:Co}(h:TQ X c){b:Ba}(hb:b.kn=c.b.kn):TQ X { c with b:=b }:=⟨h.toTQ0.b hb,λg s hs=>h.ed g s (by rw[<-hb];exact hs)⟩
theorem zjL{α:Type}{p:α->Bool}{f:α->α}: ∀{l:List α} {i:Nat} {x:α},l[i]? =some x->(l.modify i f).countP p+(if p x then 1 else 0)=l.countP p+(if p (f x) then 1 else 0)
 |[],i,x,h=>by cases h
 |y::l,0,x,h=>by
  cases h;show (f y::l).countP p+_=_;rw[List.countP_cons,List.countP_cons];omega
 |y::l,i+1,x,h=>by
  have:=zjL (p:=p) (f:=f) (l:=l) (i:=i) (x:=x) h;show (y::l.modify i f).countP p+_=_;rw[List.countP_cons,List.countP_cons];omega
theorem TQ0.now{X:Nat}{c:Co}(h:TQ0 X c)(i:Nat){now:Pe}(hn: ∀m:Int,1<=m/\m<=20->Pg c.id (m,now)):TQ0 X { c with ps:=c.ps.modify i λx=>(x.1,now) }:=
 ⟨h.id,(List.length_modify ..).trans h.len,λx hx=>by
  rcases zdK hx with g|⟨y,hy,rfl⟩
  .exact h.ps x g
  .exact hn _ (h.ps y hy).1,h.kn,h.own⟩
end Go.Proofs.YtimfnpjcedjmiadGreat
