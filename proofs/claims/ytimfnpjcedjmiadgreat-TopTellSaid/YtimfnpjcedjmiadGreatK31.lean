/- Lemmas. -/
import Derived.Test.YtimfnpjcedjmiadGreatK30
set_option maxRecDepth 100000
set_option maxHeartbeats 64000000
set_option linter.all false
namespace Go.Proofs.YtimfnpjcedjmiadGreat
open Go.RowKit
theorem za2{k:Nat}{fr fr':List (Nat×AV)}{mem mem':List Res}{Q:Prop}(q:Q)(hnd:decide ((List.range mem'.length).Nodup)=true:=by exact rfl)(hp:zdp mem 0 k (List.range mem'.length) mem'=true:=by exact rfl)(r:Q->RM mem mem' (List.range mem'.length) (List.range mem'.length) mem'/\RF mem mem' (List.range mem'.length) fr fr':=by (intro q;exact gr q)):AS.le k ⟨fr,mem⟩ ⟨fr',mem'⟩:=zhO _ hnd hp (r q).1 (r q).2
theorem zjJ{k:Nat}{mem:List Res}{v r:AV}{m':List Res}{Q:Prop}(q:Q)(hnd:decide ((List.range m'.length).Nodup)=true:=by exact rfl)(hp:zdp mem 0 k (List.range m'.length) m'=true:=by exact rfl)(h:Q->RM mem m' (List.range m'.length) (List.range m'.length) m'/\RK mem m' (List.range m'.length) v r:=by (intro q;exact gr q)):StopRet k mem v r m':=⟨_,hnd,hp,(h q).1,(h q).2⟩
theorem zbV{P:Program}{f:FuncId}{l:List AV}{mem:List Res}{K:MK}{args:List AV}{m:List Res}{r:AV}{m':List Res}(hF:Fn P f args m r m')
  (k:fzP (prs mem (List.range m.length)) λps=>fzP (ps++extG mem.length (m'.length-(List.range m.length).length)) λg=>fzM2 (mrg g mem 0 ps m') λM=>fz (ren g r) λR=>K M R) (h0:gen0 m=true:=by exact rfl) (hup:upw 0 mem.length (List.range m.length)=true:=by exact rfl) (hle:Nat.ble m.length m'.length=true:=by exact rfl) (hM:RM mem m (List.range m.length) (List.range m.length) m:=by exact grt) (hA:RKL1 mem m (List.range m.length) l args:=by exact grt):StopCall P f l mem K:=zkH _ hF h0 hup hle hM hA k
theorem znO{ι:Type}{P:Program}{f:FuncId}{args:List AV}{ret:AV}{p p':OPred}{m m':ι->List Res}(i0:ι)
  (hin: ∀(σ:zaM) (w:World) (b:Nat) (D:Nat->Prop),p.rep σ w b D-> ∃v μ Ds,MemOk σ μ w (m v) Ds/\μ 0=some (.fix (.pointer (some ⟨b,0,none⟩)))/\ ∀k,D k↔ ∃i,Ds i k)
  (hout: ∀(v:ι) (σ:zaM) (w:World) (b:Nat) (μ:zaJ) (Ds:Nat->Nat->Prop),MemOk σ μ w (m' v) Ds->μ 0=some (.fix (.pointer (some ⟨b,0,none⟩)))->p'.rep σ w b (λk=> ∃i,Ds i k))
  (hF: ∀v,Fn P f (.box 0 0::args) (m v) ret (m' v)) (ha:args.all AV.free=true) (hr:ret.free=true):Fn P f (.box 0 0::args) [.obj p] ret [.obj p']:=by
 refine⟨(hF i0).1,λw σ μ Ds vs hag hmem hlen hargs=>?_⟩;obtain⟨b,hb,hrep⟩:=hmem.ok 0 _ rfl;obtain⟨v,μ1,Ds1,hm1,h10,hD1⟩:=hin σ w b _ hrep;refine ((hF v).2 w σ μ1 Ds1 vs hag hm1 hlen (λi av y h1 h2=>?_)).mono ?_
 .cases i with
  |zero=>
   simp only[List.getElem?_cons_zero,Option.some.injEq] at h1;subst h1;have:=hargs 0 (.box 0 0) y rfl h2;cases this with
   |box _ _ _ b' h=>
    rw[hb] at h;simp only[Option.some.injEq,An.fix.injEq,Value.pointer.injEq,Addr.mk.injEq] at h;obtain⟨rfl,_⟩:=h;exact .box _ 0 0 b h10
  |succ i=>
   simp only[List.getElem?_cons_succ] at h1;exact (hargs (i+1) av y (by simpa using h1) h2).free (List.all_eq_true.1 ha av (List.mem_of_getElem? h1))
 .rintro e w' ⟨x,σ',μE,DE,rfl,hpost⟩;have hfp: ∀k,(∃id,Ds1 id k)-> ∃id,Ds id k:=λk h=>⟨0,(hD1 k).2 h⟩;have hE0:μE 0=some (.fix (.pointer (some ⟨b,0,none⟩))):=by
   obtain⟨a,h1,h2⟩:=hpost.gle 0 _ h10;cases a with
   |fix x=>simp only[An.le] at h2;subst h2;exact h1
   |cur=>exact h2.elim
  refine⟨x,σ',λi=>if i=0 then μE 0 else none,λi k=>i=0/\ ∃j,DE j k,rfl,⟨hpost.rep.free hr,⟨λid q hq=>?_,λi j k hi hj=>hi.1.trans hj.1.symm,λid hid=>?_⟩,λi a hi=>?_,hpost.agree,⟨hpost.keeps.os,hpost.keeps.tape,hpost.keeps.output,hpost.keeps.size,λk hk hno=>hpost.keeps.block k hk (λh=>hno (hfp k h))⟩,λc o hc hno=>hpost.old c o hc (λh=>hno (hfp c h)),hpost.mono,λid k hk=>?_⟩⟩
  .cases id with
   |zero=>
    simp only[List.getElem?_cons_zero,Option.some.injEq] at hq;subst hq;refine⟨b,by simp only[if_true];exact hE0,?_⟩;have:=hout v σ' w' b μE DE hpost.mem hE0;have e:(λk=>0=0/\ ∃j,DE j k)=λk=> ∃j,DE j k:=by funext k;simp
    show p'.rep σ' w' b (λk=>0=0/\ ∃j,DE j k);rw[e];exact this
   |succ i=>simp at hq
  .exact Y71
  .by_cases h0:i=0
   .subst h0;rw[hb] at hi;obtain rfl:=Option.some.inj hi;exact⟨_,by simp only[if_true];exact hE0,An.le_refl _⟩
   .rw[(hmem.out i (by simp;omega)).1] at hi;cases hi
  .obtain⟨j,hj⟩:=hk.2;exact (hpost.own j k hj).imp (λh=>h) (hfp k)
theorem zpZ{N:Nt}(hk:1<=N.ib.length)(hrs:N.rs.length=N.ib.length)(σ:zaM)(w:World)(b:Nat)(D:Nat->Prop)(h:(zcB (ntM N 0)).rep σ w b D): ∃v μ Ds,MemOk σ μ w (ntE N v 0) Ds/\μ 0=some (.fix (.pointer (some ⟨b,0,none⟩)))/\ ∀k,D k↔ ∃i,Ds i k:=by
 obtain⟨μ1,Ds1,h1,h2,h3⟩:=h;obtain⟨v,D2,q1,q2⟩:=memE_of hk hrs h1;exact⟨v,_,D2,q1,(if_pos (Nat.zero_le _)).trans h2,λk=>(h3 k).trans (q2 k).symm⟩
theorem zkd{N:Nt}{v:Nat->Nat}{g:Nat}(hrs:N.rs.length=N.ib.length)(σ:zaM)(w:World)(b:Nat)(μ:zaJ)(Ds:Nat->Nat->Prop)(h:MemOk σ μ w (ntE N v g) Ds)(h0:μ 0=some (.fix (.pointer (some ⟨b,0,none⟩)))):(zcB (ntM N 0)).rep σ w b (λk=> ∃i,Ds i k):=by
 obtain⟨μ',D,q1,q2,q3⟩:=memM_of hrs h;exact⟨μ',D,q1,q2.trans h0,λk=>(q3 k).symm⟩
theorem fn_E{f:FuncId}{args:List AV}{ret:AV}{N N':Nt}{g k n d e n' d' e':Nat}(hk:1<=k)(hN:N.ok k n d e)(hN':N'.ok k n' d' e')(hF: ∀v,Fn Tryz.prog f (.box 0 0::args) (ntE N v 0) ret (ntE N' v g))(ha:args.all AV.free=true)(hr:ret.free=true):Fn Tryz.prog f (.box 0 0::args) [ntO N] ret [ntO N']:=
 znO (λ_=>0) (zpZ (by rw[hN.ib];exact hk) (by rw[hN.ib,hN.rs])) (λv=>zkd (by rw[hN'.ib,hN'.rs])) hF ha hr
def ntX(N:Nt)(v:Nat->Nat):Res:=.obj (zcB (ntE N v 0))
theorem fn_X{f:FuncId}{args:List AV}{ret:AV}{N N':Nt}{v:Nat->Nat}(hF:Fn Tryz.prog f (.box 0 0::args) (ntE N v 0) ret (ntE N' v 0))(ha:args.all AV.free=true)(hr:ret.free=true):Fn Tryz.prog f (.box 0 0::args) [ntX N v] ret [ntX N' v]:=
 znO (ι:=Unit) () (λσ w b D ⟨μ,Ds,h1,h2,h3⟩=>⟨(),μ,Ds,h1,h2,h3⟩) (λ_ σ w b μ Ds h h0=>⟨μ,Ds,h,h0,λk=>Iff.rfl⟩) (λ_=>hF) ha hr
theorem zhj{σ:zaM}{μ:zaJ}{w:World}{mem:List Res}{Ds:Nat->Nat->Prop}(h:MemOk σ μ w mem Ds){q:Nat}{r:Res}(hr:q<mem.length->ROk σ μ w q (Ds q) r):MemOk σ μ w (mem.set q r) Ds:=by
 refine⟨λid s hs=>?_,h.apart,λid hid=>h.out id (by rwa [List.length_set] at hid)⟩;rw[List.getElem?_set] at hs;by_cases e:q=id
 .subst e;rw[if_pos rfl] at hs;split at hs
  .rename_i hlt;obtain rfl:=Option.some.inj hs;exact hr hlt
  .cases hs
 .rw[if_neg e] at hs;exact h.ok id s hs
theorem to_ntX{k:Nat}{fr:List (Nat×AV)}{mem:List Res}{y:AS->Prop}(q:Nat){N:Nt}(hq:mem[q]? =some (ntO N))(hk:1<=N.ib.length)(hrs:N.rs.length=N.ib.length)(hy: ∀v,y ⟨fr,mem.set q (ntX N v)⟩):AS.to k ⟨fr,mem⟩ y:=by
 intro n fp w0 σ μ Ds a w hk' hr;obtain⟨b,hb,hrep⟩:=hr.mem.ok q _ hq;obtain⟨v,μ1,Ds1,h1,h2,h3⟩:=zpZ hk hrs σ w b _ hrep;exact⟨_,σ,μ,Ds,hy v,hr.defers,hr.size,hr.frame,hr.agree,zhj hr.mem (λ_=>⟨b,hb,μ1,Ds1,h1,h2,h3⟩),hr.own,hr.keeps,hr.old,hr.mono,hr.gle,hr.kout,by rw[List.length_set];exact hr.klen⟩
theorem le_ntX{k:Nat}{fr:List (Nat×AV)}{mem:List Res}(q:Nat){N:Nt}{v:Nat->Nat}(hq:mem[q]? =some (ntX N v))(hrs:N.rs.length=N.ib.length):AS.le k ⟨fr,mem⟩ ⟨fr,mem.set q (ntO N)⟩:=by
 intro n fp w0 σ μ Ds a w hk hr;refine⟨σ,μ,Ds,hr.defers,hr.size,hr.frame,hr.agree,zhj hr.mem (λ_=>?_),hr.own,hr.keeps,hr.old,hr.mono,hr.gle,hr.kout,by rw[List.length_set];exact hr.klen⟩;obtain⟨b,hb,μ1,Ds1,h1,h2,h3⟩:=hr.mem.ok q _ hq;have:=zkd hrs σ w b μ1 Ds1 h1 h2;rw[show (λk=> ∃i,Ds1 i k)=Ds q from funext λk=>propext (h3 k).symm] at this;exact⟨b,hb,this⟩
theorem cutX{k id:Nat}{x:(AS->Prop)->AS->Prop}{y:AS->Prop}{A:AS}(B:(Nat->Nat)->AS)(hy: ∀v,y (B v))(hx:(∀v,y (B v))-> ∀Z:AS->Prop,(∀A',AS.to k A' y->Z A')->x Z A):StopSeq k id x y A:=.mkE (hx hy _ (λ_ h=>h))
theorem fn_atP{P:Program}{f:FuncId}{args:List AV}{r:AV}{p p':OPred}{m:List Res}{j:Nat}(hF:Fn P f args [.obj p] r [.obj p'])(hj:m[j]? =some (.obj p))(ha:args.all AV.free=true)(hr:r.free=true):
  Fn P f args [.obj (zcB m)] r [.obj (zcB (m.set j (.obj p')))]:=by
 refine⟨hF.1,λw σ μ Ds vs hag hmem hlen hargs=>?_⟩;obtain⟨b,hb,μ1,Ds1,hm1,h10,hD1⟩:=hmem.ok 0 _ rfl;obtain⟨c,hc,hpc⟩:=hm1.ok j _ hj;have hjlt:j<m.length:=(List.getElem?_eq_some_iff.1 hj).1;have hm2:MemOk σ (λi=>if i=0 then some (.fix (.pointer (some ⟨c,0,none⟩))) else none) w [.obj p] (λi k=>i=0/\Ds1 j k):=by
  refine⟨λid q hq=>?_,λi i' k h1 h2=>h1.1.trans h2.1.symm,λid hid=>?_⟩
  .cases id with
   |zero=>
    simp only[List.getElem?_cons_zero,Option.some.injEq] at hq;subst hq;refine⟨c,rfl,?_⟩;have e:(λk=>0=0/\Ds1 j k)=Ds1 j:=by funext k;simp
    show p.rep σ w c (λk=>0=0/\Ds1 j k);rw[e];exact hpc
   |succ i=>simp at hq
  .exact Y71
 refine (hF.2 w σ _ _ vs hag hm2 hlen (λi av y h1 h2=>(hargs i av y h1 h2).free (List.all_eq_true.1 ha av (List.mem_of_getElem? h1)))).mono ?_;rintro e w' ⟨x,σ',μE,DE,rfl,hpost⟩;have hfp: ∀k,(∃id,id=0/\Ds1 j k)->Ds1 j k:=λk ⟨_,_,h⟩=>h;have hDj: ∀k,Ds1 j k-> ∃id,Ds id k:=λk h=>⟨0,(hD1 k).2 ⟨j,h⟩⟩;obtain⟨c1,g1,g2⟩:=hpost.mem.ok 0 _ rfl;obtain⟨a',q1,q2⟩:=hpost.gle 0 (.fix (.pointer (some ⟨c,0,none⟩))) rfl;rw[g1] at q1;obtain rfl:=Option.some.inj q1;obtain rfl:c1=c:=by
  simp only[An.le,Value.pointer.injEq,Option.some.injEq] at q2;have:=congrArg Addr.block q2;exact this
 have hlive: ∀q k,Ds1 q k->k<w.heap.size:=λq k h=>hm1.live h;let D2:Nat->Nat->Prop:=λq=>if q=j then DE 0 else Ds1 q
 have hown: ∀k,DE 0 k->w.heap.size<=k\/Ds1 j k:=λk h=>(hpost.own 0 k h).imp (λg=>g) (hfp k);have hnew:MemOk σ' μ1 w' (m.set j (.obj p')) D2:=by
  refine⟨λid q hq=>?_,λi i' k h1 h2=>?_,λid hid=>?_⟩
  .rw[List.getElem?_set] at hq;by_cases e:j=id
   .subst e;rw[if_pos rfl,if_pos hjlt] at hq;obtain rfl:=Option.some.inj hq;simp only[D2,if_true];exact⟨c1,hc,g2⟩
   .rw[if_neg e] at hq;simp only[D2,if_neg (λg:id=j=>e g.symm)];have hne: ∀k,Ds1 id k-> ¬ ∃id',id'=0/\Ds1 j k:=λk h g=>e (hm1.apart j id k (hfp k g) h);exact (hm1.ok id q hq).ext rfl (Gle.refl _) (λk hk=>⟨hpost.keeps.block k (hlive id k hk) (hne k hk),λo=>hpost.old k o (hlive id k hk) (hne k hk)⟩) hpost.mono
  .simp only[D2] at h1 h2;split at h1<;>split at h2
   .rename_i e1 e2;rw[e1,e2]
   .rename_i e1 e2;rcases hown k h1 with g|g
    .have:=hlive _ _ h2;omega
    .exact e1.trans (hm1.apart j i' k g h2)
   .rename_i e1 e2;rcases hown k h2 with g|g
    .have:=hlive _ _ h1;omega
    .exact (hm1.apart i j k h1 g).trans e2.symm
   .exact hm1.apart i i' k h1 h2
  .rw[List.length_set] at hid;refine⟨(hm1.out id hid).1,λk hk=>?_⟩;simp only[D2] at hk;rw[if_neg (by omega)] at hk;exact (hm1.out id hid).2 k hk
 refine⟨x,σ',μ,λi k=>i=0/\ ∃q,D2 q k,rfl,⟨hpost.rep.free hr,⟨λid q hq=>?_,λi i' k h1 h2=>h1.1.trans h2.1.symm,λid hid=>?_⟩,Gle.refl _,hpost.agree,⟨hpost.keeps.os,hpost.keeps.tape,hpost.keeps.output,hpost.keeps.size,λk hk hno=>hpost.keeps.block k hk (λh=>hno (hDj k (hfp k h)))⟩,λc o hc hno=>hpost.old c o hc (λh=>hno (hDj c (hfp c h))),hpost.mono,λid k hk=>?_⟩⟩
 .cases id with
  |zero=>
   simp only[List.getElem?_cons_zero,Option.some.injEq] at hq;subst hq;exact⟨b,hb,μ1,D2,hnew,h10,λk=>⟨λh=>h.2,λh=>⟨rfl,h⟩⟩⟩
  |succ i=>simp at hq
 .refine⟨(hmem.out id (by simpa using hid)).1,λk hk=>?_⟩;simp only[List.length_singleton] at hid;omega
 .obtain⟨q,hq⟩:=hk.2;simp only[D2] at hq;split at hq
  .exact (hown k hq).imp (λh=>h) (hDj k)
  .exact .inr ⟨0,(hD1 k).2 ⟨q,hq⟩⟩
theorem zpP{f:FuncId}{args:List AV}{ret:AV}{N:Nt}{r:Rt}{i:Nat}(hF:Fn Tryz.prog f (.box 0 0::args) [rtO r] ret [rtO r])(hr:N.rs[i]? =some r)(hrs:N.rs.length=N.ib.length)(v:Nat->Nat)(ha:args.all AV.free=true)(hf:ret.free=true):Fn Tryz.prog f (.v (.pointer (some ⟨v i,0,none⟩))::args) [ntX N v] ret [ntX N v]:=by
 have hi:i<N.ib.length:=by have:=(List.getElem?_eq_some_iff.1 hr).1;omega
 have h:=zeY hF hr (zbb (v:=v) hi) ha hf;rw[ziP hr] at h;have h2:=fn_atP (m:=ntE N v 0) (j:=5) h rfl (by rw[List.all_cons,ha];rfl) hf;have e:(ntE N v 0).set 5 (famR (xsV v N.ib.length) N.rs)=ntE N v 0:=rfl;rw[show (.obj (famP (xsV v N.ib.length) (N.rs.map λr=>zcB (rtM r 0))):Res)=famR (xsV v N.ib.length) N.rs from rfl,e] at h2;exact h2
end Go.Proofs.YtimfnpjcedjmiadGreat
namespace Go.Proofs.YtimfnpjcedjmiadGreat
noncomputable def woN:Nat->Nt
 |0=>zbS (newN 2 [⟨1,0,2,0,3⟩]) 0 true
 |n+1=>zeO (woN n)
theorem wo_check:zbv 2 [⟨1,0,2,0,3⟩]=0:=by decide+kernel
theorem wo_plug:zf7 (newN 2 [⟨1,0,2,0,3⟩]) 0 true=0:=by decide+kernel
theorem wo_sts:(stsB ((woN 6).rt 2).b).map (λx=>(x.1,x.2.2))=[(1,[(2,3)]),(2,[(1,3)])]:=by decide+kernel
theorem wo_id:((woN 6).rt 2).id=2:=by decide+kernel
theorem zoP:(newN 2 [⟨1,0,2,0,3⟩]).inv 2 0 0:=zkY (by decide) (λc hc=>by
 rw[List.mem_singleton.1 hc];exact⟨by decide,by decide,by decide,by decide,by decide⟩) (by decide)
theorem zoY: ∀n,(woN n).inv 2 (432000*n) (780+230000000*n)
 |0=>(zbx zoP 0 true).up (by omega) (by omega)
 |n+1=>(zgp (zoY n) (by decide)).up (by omega) (by omega)
theorem znC(s1 s2 a b:Int)(ha:nod a)(hb:nod b):met [(1,s1,[(2,3)]),(2,s2,[(1,3)])] a b=if (a=1/\b=2)\/(a=2/\b=1) then 3 else 0:=by
 unfold nod at ha hb;rcases (by omega:a=1\/a=2\/a=3\/a=4\/a=5\/a=6) with rfl|rfl|rfl|rfl|rfl|rfl<;>
 rcases (by omega:b=1\/b=2\/b=3\/b=4\/b=5\/b=6) with rfl|rfl|rfl|rfl|rfl|rfl<;>rfl
theorem zox{s1 s2 n d f:Int}(h:Wk (met [(1,s1,[(2,3)]),(2,s2,[(1,3)])]) 2 n d f):(n=1\/n=2)/\f=1/\3<=d:=by
 induction h with
 |one hn hm=>
  rw[znC _ _ _ _ (by unfold nod;omega) hn] at hm ⊢;split at hm
  .rename_i g;rw[if_pos g];omega
  .omega
 |step h hn hm ih=>
  rw[znC _ _ _ _ h.nod.1 hn] at hm ⊢;split at hm
  .rename_i g;rw[if_pos g];omega
  .omega
theorem wo_hops{l:List St3}(h:l.map (λx=>(x.1,x.2.2))=[(1,[(2,3)]),(2,[(1,3)])]):zdQ l 2=[(1,3,1)]:=by
 obtain⟨s1,s2,rfl⟩: ∃s1 s2,l=[(1,s1,[(2,3)]),(2,s2,[(1,3)])]:=by
  match l,h with
  |[(a,s1,x),(b,s2,y)],h=>
   simp only[List.map_cons,List.map_nil,List.cons.injEq,Prod.mk.injEq,and_true] at h;obtain⟨⟨rfl,rfl⟩,rfl,rfl⟩:=h;exact⟨s1,s2,rfl⟩
 have hB:Best (met [(1,s1,[(2,3)]),(2,s2,[(1,3)])]) 2 1 3 1:=by
  refine⟨by decide,?_,λd' f' g=>?_⟩
  .have hm:=znC s1 s2 2 1 (by unfold nod;omega) (by unfold nod;omega);rw[if_pos (by decide)] at hm;have:=Wk.one (M:=met [(1,s1,[(2,3)]),(2,s2,[(1,3)])]) (r:=2) (n:=1) (by unfold nod;omega) (by rw[hm];decide);rw[hm] at this;exact this
  .have:=zox g;unfold lx;omega
 have hN: ∀n:Int,3<=n->hopV (met [(1,s1,[(2,3)]),(2,s2,[(1,3)])]) 2 n=none:=λn hn=>zjS λd f g=>by have:=zox g;omega
 have h1:=zjE hB;have h2:=zjx (M:=met [(1,s1,[(2,3)]),(2,s2,[(1,3)])]) (r:=2);unfold zdQ;rw[if_pos (by decide)];simp only[hopsM,hopsTo,zks];simp only[show ((0:Nat):Int)+1=1 from rfl,show ((1:Nat):Int)+1=2 from rfl,show ((2:Nat):Int)+1=3 from rfl,show ((3:Nat):Int)+1=4 from rfl,show ((4:Nat):Int)+1=5 from rfl,show ((5:Nat):Int)+1=6 from rfl,h1,h2,hN 3 (by decide),hN 4 (by decide),hN 5 (by decide),hN 6 (by decide),List.nil_append,List.append_nil]
structure Cost (S:Meas) (ct cn:Nat):Prop where
 tak: ∀(i:Nat) (t:List UInt8) (X:Nat) (r:Rt),i<3->S.Q X r.co->S.q X t->Mv S (S.w t) X r (takT i r t)
 tick: ∀(X:Nat) (r:Rt),S.Q X r.co->Mv S ct X r (zcf r)
 plug: ∀(i:Nat) (up:Bool) (X:Nat) (r:Rt),i<3->S.Q X r.co->Mv S 0 X r (zaV r i up)
 new: ∀(X:Nat) (i a b c:Int),1<=i->i<=6->(1<=a/\a<=20)->(1<=b/\b<=20)->(1<=c/\c<=20)-> ∃Y,X<=Y/\S.Q Y (newR i [a,b,c]).co/\S.W (newR i [a,b,c]).co+Y<=X+cn
section
variable {S:Meas} {J:Nat->List Mg->Nat} {E:Nat->Prop} {X M ct cn:Nat} {F:Fls} {U:Ous} {N:Nt} {k d e:Nat} {T:List (List Int)}
theorem on_onR(h:On S J M N)(a:Int){G:Rt->Rt}{r:Rt}{x:Nat}(hr:N.rs[(a-1).toNat]? =some r)(hG: ∀X,S.Q X r.co->Mv S x X r (G r))(hk:Rk r (G r)):On S J (M+x) (N.onR a G):=by
 obtain⟨⟨X,F,U,h⟩,hw⟩:=h;obtain⟨Y,U',_,h'⟩:=zja h a hr (hG X (h.Q _ r hr)) (λi c s _ _=>(ziq hr hk _).1);exact⟨⟨Y,F,U',h'⟩,wd_onR hw hr hk⟩
theorem znc(hB:InB S J)(hf:Cost S ct cn)(h:On S J M N)(hI:N.inv k d e)(hn:N.num T)(i:Int):On S J (M+ct) (zdZ N i)/\(zdZ N i).num T:=by
 unfold zdZ;split
 .rename_i hi;have hi:=zcG.1 hi;have h1:=zaq hI.ok (m:=6630) (f:=d) (by omega) (Nat.le_refl _) i (F:=zcf) (λr hr=>by have:=zlB hr;rw[Nat.zero_add] at this;exact this);exact zfz hB (on_onR h i (List.getElem?_eq_getElem (show (i-1).toNat<N.rs.length by omega)) (λX hQ=>hf.tick X _ hQ) (zop _)) h1 (zfK hn i (λr=>⟨(zeV r).1,λj=>(zop r j).2.1⟩))
 .exact⟨h.up (by omega),hn⟩
theorem on_send(hB:InB S J)(h:On S J M N)(hI:N.inv k d e)(hn:N.num T)(i to:Int)(t:ByteArray){x:Nat}(hG:N.has i=true-> ∀X r,S.Q X r.co->Mv S x X r (zcH r to t)):On S J (M+x) (zfn N i to t)/\(zfn N i to t).num T:=by
 unfold zfn;split
 .rename_i hi0;have hi:=zcG.1 hi0;have h1:=zaq hI.ok (m:=6630) (f:=d+1) (by omega) (by omega) i (F:=λr=>zcH r to t) (λr hr=>by have:=ziK hr to t;rw[Nat.zero_add] at this;exact this);exact zfz hB (on_onR h i (G:=λr=>zcH r to t) (List.getElem?_eq_getElem (show (i-1).toNat<N.rs.length by omega)) (λX hQ=>hG hi0 X _ hQ) (zlY _ to t)) h1 (zfK hn i (λr=>⟨(zdc r to t).1,λj=>(zlY r to t j).2.1⟩))
 .exact⟨h.up (by omega),hn⟩
theorem Meas.s_cons(S:Meas)(t:List UInt8)(u:List (List UInt8)):S.s (t::u)=S.w t+S.s u:=by unfold Meas.s;rw[List.map_cons,List.sum_cons]
theorem zlZ(hf:Cost S ct cn){i:Nat}(hi:i<3): ∀(T:List (List UInt8)) {X:Nat} {r:Rt},S.Q X r.co->S.good X T->Mv S (S.s T) X r (T.foldl (takT i) r)
 |[],X,r,hQ,_=>zbi hQ
 |t::T,X,r,hQ,hT=>by
  rw[S.s_cons];exact (hf.tak i t X r hi hQ (hT t (by simp)).2).trans (λY hXY hQY=>zlZ hf hi T hQY (λu hu=>(hT.up hXY) u (by simp [hu])))
noncomputable def zkW(N:Nt)(i:Nat)(c:Cb)(s:Bool)(y w:List UInt8):Nt:=({ N with cs:=N.cs.set i (c.setW s w) }:Nt).onR (c.wE (!s)).1 (λr=>zap r (c.wE (!s)).2.toNat y)
theorem zo7{α:Type}{l:List α}{i:Nat}{f g:α->α}{x:α}(h:l[i]? =some x)(e:f x=g x):l.modify i f=l.modify i g:=by
 refine List.ext_getElem? λj=>?_;rw[List.getElem?_modify,List.getElem?_modify];by_cases ej:i=j
 .subst ej;rw[h];show some (if i=i then f x else x)=some (if i=i then g x else x);rw[if_pos rfl,if_pos rfl,e]
 .simp only[if_neg ej]
theorem mv_rd{r:Rt}(hQ:S.Q X r.co)(p:Nat)(f:Pt->Pt)(hf: ∀q:Pt,(f q).m=q.m/\(f q).p=q.p/\(f q).out=q.out):Mv S 0 X r (r.onP p f):=
 zji (S:=S) hQ p (u:=[]) (λt ht=>(by cases ht)) (λq=>⟨(hf q).1,(hf q).2.1⟩) (λq=>⟨[],.inl rfl,λ_=>by rw[(hf q).2.2];simp⟩)
theorem ni_delS(hf:Cost S ct cn)(h:NI S J (λ_=>True) X M F U N)(hw:N.wd)(hN:N.ok k 0 d e){i:Nat}{c:Cb}(hc:N.cs[i]? =some c)(s:Bool){y w:List UInt8}(hy:y++w=c.wr s): ∃Y F' U',NI S J (λ_=>True) Y M F' U' (zkW N i c s y w):=by
 have hi:=(List.getElem?_eq_some_iff.1 hc).1;obtain⟨r,hr,h3,hp3,hrt,ha⟩:=zjv hN hc (!s);have he:=zpe c s;unfold zkW;generalize c.wE (!s)=z at *
 have hfl:=h.fl i c s trivial hc;rw[<-hy] at hfl;have hrd:N.rdA (c.rdE s)=(r.pt z.2.toNat).rd:=by unfold Nt.rdA Nt.ptA;rw[he,zb5 hr]
 rw[hrd] at hfl;obtain⟨n,hT,hF⟩:=znt hfl;have hTg:S.good X ((F i s).take n):=λt ht=>h.fg i s t (List.mem_of_mem_take ht);have hsT:S.s ((F i s).take n)+S.s ((F i s).drop n)=S.s (F i s):=by rw[<-S.s_app,List.take_append_drop]
 obtain⟨Y,U1,hXY,h1⟩:=zja (h.some (E':=λ_=>False) (λ_ g=>g.elim)) z.1 (G:=λr=>r.onP z.2.toNat λp=>{ p with rd:=(zaN p.rd y).1,rest:=(zbg (p.rest++y)).2.2 }) hr (mv_rd (h.Q _ r hr) _ _ (λq=>⟨rfl,rfl,rfl⟩)) (λ_ _ _ g=>g.elim);have hpt: ∀e',(N.onR z.1 (λr=>r.onP z.2.toNat λp=>{ p with rd:=(zaN p.rd y).1,rest:=(zbg (p.rest++y)).2.2 })).rdA e'=if e'=c.rdE s then (zaN (r.pt z.2.toNat).rd y).1 else N.rdA e':=λe'=>by
  unfold Nt.rdA;rw[zdH hr,he];obtain⟨e1,e2⟩:=e';by_cases g1:(z.1-1).toNat=e1
  .rw[if_pos g1,zhM];by_cases g2:z.2.toNat=e2
   .subst g1 g2;rw[if_pos ⟨rfl,by omega⟩,if_pos rfl]
   .rw[if_neg (λg=>g2 g.1),if_neg (λg=>g2 (Prod.mk.inj g).2.symm)];unfold Nt.ptA;dsimp only;rw[<-g1,zb5 hr]
  .rw[if_neg g1,if_neg (λg=>g1 (Prod.mk.inj g).1.symm)]
 have h2:=ni_cs (x:=0) (y:=S.s ((F i s).take n)) h1 (C:=N.cs.set i (c.setW s w)) (F':=zeE F i s ((F i s).drop n)) (E':=λ_=>True) (λj x t _ hx=>by
  unfold zeE;rw[hpt];rcases zcm hx with⟨rfl,rfl⟩|⟨hne,hx⟩
  .rw[zfr,zi0];by_cases et:t=s
   .subst et;rw[if_pos rfl,if_pos rfl,if_pos ⟨rfl,rfl⟩];exact hF
   .rw[if_neg (λg=>et (hw.uq i i c c t s hc hc g).2),if_neg et,if_neg (λg=>et g.2)];exact h.fl i c t trivial hc
  .rw[if_neg (λg=>hne (hw.uq j i x c t s hx hc g).1.symm),if_neg (λg=>hne g.1.symm)];exact h.fl j x t trivial hx) (λj t=>by
  unfold zeE;split
  .exact λt ht=>(h.fg i s).up hXY t (List.mem_of_mem_drop ht)
  .exact (h.fg j t).up hXY) (by
  rw[List.length_set];have:=zck (f:=λi=>S.s (F i false)+S.s (F i true)) (g:=λj=>S.s (zeE F i s ((F i s).drop n) j false)+S.s (zeE F i s ((F i s).drop n) j true)) (i:=i) (x:=S.s ((F i s).take n)) (y:=0) N.cs.length hi (λj hj hne=>by
   unfold zeE;simp only[hne,false_and,if_false]) (by
   unfold zeE;cases s
   .simp;omega
   .simp;omega)
  exact this)
 have hMs:S.s ((F i s).take n)<=M:=by
  have h0:=h.sum;unfold Meas.tot at h0;have:=zck (f:=λi=>S.s (F i false)+S.s (F i true)) (g:=λj=>if j=i then 0 else S.s (F j false)+S.s (F j true)) (i:=i) (x:=S.s (F i s)) (y:=0) N.cs.length hi (λj hj hne=>by rw[if_neg hne]) (by
   rw[if_pos rfl];cases s<;>simp)
  omega
 have hr2:({ (N.onR z.1 (λr=>r.onP z.2.toNat λp=>{ p with rd:=(zaN p.rd y).1,rest:=(zbg (p.rest++y)).2.2 })) with cs:=N.cs.set i (c.setW s w) }:Nt).rs[(z.1-1).toNat]? =some (r.onP z.2.toNat λp=>{ p with rd:=(zaN p.rd y).1,rest:=(zbg (p.rest++y)).2.2 }):=by
  have:=zfg (G:=λr=>r.onP z.2.toNat λp=>{ p with rd:=(zaN p.rd y).1,rest:=(zbg (p.rest++y)).2.2 }) hr (z.1-1).toNat;rw[if_pos rfl] at this;exact this
 obtain⟨Z,U2,_,h4⟩:=zja h2 z.1 (G:=λr=>((F i s).take n).foldl (takT z.2.toNat) r) hr2 (zlZ hf hp3 _ (h2.Q _ _ hr2) (hTg.up hXY)) (λj x t _ hx=>(ziq hr2 (zia _ _ _) _).1);refine⟨Z,zeE F i s ((F i s).drop n),U2,?_⟩;have e5:({ N with cs:=N.cs.set i (c.setW s w) }:Nt).onR z.1 (λr=>zap r z.2.toNat y)=({ (N.onR z.1 (λr=>r.onP z.2.toNat λp=>{ p with rd:=(zaN p.rd y).1,rest:=(zbg (p.rest++y)).2.2 })) with cs:=N.cs.set i (c.setW s w) }:Nt).onR z.1 (λr=>((F i s).take n).foldl (takT z.2.toNat) r):=by
  unfold Nt.onR;dsimp only;rw[List.modify_modify_eq];refine congrArg (λl=>Nt.mk l _ _ _) (zo7 hr ?_);show zap r z.2.toNat y=List.foldl _ _ _;unfold zap;rw[hT]
 rw[e5];exact h4.up (by omega)
theorem wd_delS(hw:N.wd)(hN:N.ok k 0 d e){i:Nat}{c:Cb}(hc:N.cs[i]? =some c)(s:Bool){y w:List UInt8}(hy:y++w=c.wr s):(zkW N i c s y w).wd:=by
 obtain⟨r,hr,h3,hp3,hrt,ha⟩:=zjv hN hc (!s);refine wd_sp (N':=zkW N i c s y w) hw (zo8 hc s w (λ_ g=>by rw[g] at hy;exact (List.append_eq_nil_iff.1 hy).2)) (λj x t _=>?_);have:=zdH (N:=N) (G:=λr=>zap r (c.wE (!s)).2.toNat y) hr (x.rdE t);rw[show (zkW N i c s y w).ptA (x.rdE t)=(N.onR (c.wE (!s)).1 (λr=>zap r (c.wE (!s)).2.toNat y)).ptA (x.rdE t) from rfl,this];split
 .rename_i g;unfold Nt.ptA;rw[<-g,zb5 hr];exact (rd_recv r _ y _ (by omega)).2
 .exact Sp.refl _
theorem ndel_S(N:Nt)(i way many:Int):ndel N i way many=if way<0\/1<way then N else match N.cb i with
  |none=>N
  |some c=>zbM (zkW N i.toNat c (way==1) ((c.wr (way==1)).take (delK many (c.wr (way==1)))) ((c.wr (way==1)).drop (delK many (c.wr (way==1))))):=by
 unfold ndel;split
 .rfl
 .cases N.cb i with
  |none=>rfl
  |some c=>
   dsimp only;by_cases hw:way=1
   .subst hw;rfl
   .rw[if_neg hw,show (way==1)=false from by simpa using hw];rfl
theorem ok_delS(hN:N.ok k 0 d e){i:Nat}{c:Cb}(hc:N.cs[i]? =some c)(s:Bool){y w:List UInt8}(hy:y++w=c.wr s):(zkW N i c s y w).ok k 1040000 (d+2000) e:=by
 have hco:=hN.c c (getq hc);have hl:(c.wr s).length<=2000:=by cases s;exact hco.w0;exact hco.w1
 have hl2:y.length<=2000/\w.length<=2000:=by rw[<-hy,List.length_append] at hl;omega
 have k1:=ze8 hN i (c:=c.setW s w) (by cases s;exact⟨hco.a,hco.pa,hco.b,hco.pb,hl2.2,hco.w1⟩;exact⟨hco.a,hco.pa,hco.b,hco.pb,hco.w0,hl2.2⟩);exact zaq k1 (m:=1040000) (f:=d+2000) (by omega) (by omega) (c.wE (!s)).1 (F:=λr=>zap r (c.wE (!s)).2.toNat y) (λr hr=>by have:=zeC hr (c.wE (!s)).2.toNat hl2.1;rw[Nat.zero_add] at this;exact this)
theorem zo0(hB:InB S J)(hf:Cost S ct cn)(h:On S J M N)(hI:N.inv k d e)(hn:N.num T)(i way many:Int):On S J M (ndel N i way many)/\(ndel N i way many).num T:=by
 rw[ndel_S];split
 .exact⟨h,hn⟩
 .cases hcb:N.cb i with
  |none=>exact⟨h,hn⟩
  |some c=>
   obtain⟨_,hc⟩:=zdW hcb;dsimp only;have hy:=List.take_append_drop (delK many (c.wr (way==1))) (c.wr (way==1));obtain⟨⟨X,F,U,h⟩,hw⟩:=h;obtain⟨Y,F',U',h'⟩:=ni_delS hf h hw hI.ok hc _ hy;exact zfz hB ⟨⟨Y,F',U',h'⟩,wd_delS hw hI.ok hc _ hy⟩ (ok_delS hI.ok hc _ hy) (zfK (N:={ N with cs:=_ }) hn _ (λr=>⟨(zdO ..).1,λj=>m_recv ..⟩))
theorem zlL{a:Int}{p:Nat}(up:Bool){r:Rt}(hr:N.rs[(a-1).toNat]? =some r)(hp:p<r.ps.length):(∀e',e'≠((a-1).toNat,p)->Rp (N.ptA e') ((N.onR a (λr=>zaV r p up)).ptA e'))/\((N.ptA ((a-1).toNat,p)).l.opn->((N.ptA ((a-1).toNat,p)).l.st=1↔up=true)->((N.onR a (λr=>zaV r p up)).ptA ((a-1).toNat,p)).rd=rd0/\((N.onR a (λr=>zaV r p up)).ptA ((a-1).toNat,p)).l.opn/\(((N.onR a (λr=>zaV r p up)).ptA ((a-1).toNat,p)).l.st=1↔up=false)):=by
 have h0:N.ptA ((a-1).toNat,p)=r.pt p:=by unfold Nt.ptA;dsimp only;rw[zb5 hr]
 refine⟨λe' hne=>?_,λho h1=>?_⟩
 .rw[zdH hr];obtain⟨e1,e2⟩:=e';split
  .rename_i g;unfold Nt.ptA;dsimp only at g ⊢;rw[<-g,zb5 hr];exact zmv r p up (λg2=>hne (by rw[g,g2]))
  .exact Rp.refl _
 .rw[h0] at ho h1;rw[zdH hr,if_pos rfl];exact rk_plug r p up hp ho h1
theorem on_plug0(hf:Cost S ct cn)(h:On S J M N)(hN:N.ok k 0 d e){i:Nat}{c:Cb}(hc:N.cs[i]? =some c){up:Bool}(hu:c.inn≠up):On S J M (zgY N i c up):=by
 obtain⟨⟨X,F,U,h⟩,hw⟩:=h;have hi:=(List.getElem?_eq_some_iff.1 hc).1;obtain⟨ra,hra,a3,ap,-, -⟩:=zjv hN hc false;obtain⟨rb,hrb,b3,bp,-, -⟩:=zjv hN hc true;change N.rs[(c.a-1).toNat]? =some ra at hra;change c.pa.toNat<3 at ap;change N.rs[(c.b-1).toNat]? =some rb at hrb;change c.pb.toNat<3 at bp;have eA:c.rdE true=((c.a-1).toNat,c.pa.toNat):=rfl;have eB:c.rdE false=((c.b-1).toNat,c.pb.toNat):=rfl;have hAB:c.rdE true≠c.rdE false:=λg=>by cases (hw.uq i i c c true false hc hc g).2
 obtain⟨p1,p2⟩:=zlL (p:=c.pa.toNat) up hra (by omega);obtain⟨Y,U1,hXY,h1⟩:=zja (h.some (E':=λ_=>False) (λ_ g=>g.elim)) c.a (G:=λr=>zaV r c.pa.toNat up) hra (hf.plug _ up X ra ap (h.Q _ ra hra)) (λ_ _ _ g=>g.elim);obtain⟨rb',hrb',b3'⟩: ∃rb',(N.onR c.a (λr=>zaV r c.pa.toNat up)).rs[(c.b-1).toNat]? =some rb'/\rb'.ps.length=3:=by
  rw[zfg hra];split
  .exact⟨_,rfl,(zcK ..).2.trans a3⟩
  .exact⟨rb,hrb,b3⟩
 obtain⟨q1,q2⟩:=zlL (p:=c.pb.toNat) up hrb' (by omega);obtain⟨Z,U2,hYZ,h2⟩:=zja h1 c.b (G:=λr=>zaV r c.pb.toNat up) hrb' (hf.plug _ up Y rb' bp (h1.Q _ rb' hrb')) (λ_ _ _ g=>g.elim);have hst: ∀s,(N.ptA (c.rdE s)).l.opn/\((N.ptA (c.rdE s)).l.st=1↔up=true):=λs=>⟨hw.op i c s hc,(hw.st i c s hc).trans (by cases up<;>cases hci:c.inn<;>simp_all)⟩;-- other ends
 have hoth: ∀e',e'≠c.rdE true->e'≠c.rdE false->Rp (N.ptA e') (((N.onR c.a (λr=>zaV r c.pa.toNat up)).onR c.b (λr=>zaV r c.pb.toNat up)).ptA e'):=λe' g1 g2=>(p1 e' g1).trans (q1 e' g2);have hend: ∀s,(((N.onR c.a (λr=>zaV r c.pa.toNat up)).onR c.b (λr=>zaV r c.pb.toNat up)).ptA (c.rdE s)).rd=rd0/\(((N.onR c.a (λr=>zaV r c.pa.toNat up)).onR c.b (λr=>zaV r c.pb.toNat up)).ptA (c.rdE s)).l.opn/\((((N.onR c.a (λr=>zaV r c.pa.toNat up)).onR c.b (λr=>zaV r c.pb.toNat up)).ptA (c.rdE s)).l.st=1↔up=false):=λs=>by
  cases s with
  |true=>
   have t1:=p2 (hst true).1 (hst true).2;have t2:=q1 (c.rdE true) hAB;exact⟨t2.1.trans t1.1,(t2.2.2 t1.2.1).1,(t2.2.2 t1.2.1).2.trans t1.2.2⟩
  |false=>
   have t1:=p1 (c.rdE false) (λg=>hAB g.symm);have t2:=hst false;exact q2 (t1.2.2 t2.1).1 ((t1.2.2 t2.1).2.trans t2.2)
 have h3:=ni_cs (x:=0) (y:=0) h2 (C:=N.cs.set i { c with inn:=up,w0:=[],w1:=[] }) (F':=λj t=>if j=i then [] else F j t) (E':=λ_=>True) (λj x t _ hx=>by
  rcases zcm hx with⟨rfl,rfl⟩|⟨hne,hx⟩
  .rw[if_pos rfl];have e1:Cb.rdE { c with inn:=up,w0:=[],w1:=[] } t=c.rdE t:=by cases t<;>rfl
   have e2:Cb.wr { c with inn:=up,w0:=[],w1:=[] } t=[]:=by cases t<;>rfl
   rw[e1,e2,show Nt.rdA _ _=rd0 from (hend t).1];exact zhm
  .rw[if_neg (λg=>hne g.symm)];have hn1: ∀s,x.rdE t≠c.rdE s:=λs g=>hne (hw.uq j i x c t s hx hc g).1.symm;rw[show Nt.rdA _ _=N.rdA (x.rdE t) from (hoth (x.rdE t) (hn1 true) (hn1 false)).1];exact h.fl j x t trivial hx) (λj t=>by
  split
  .exact λt ht=>by cases ht
  .exact (h.fg j t).up (Nat.le_trans hXY hYZ)) (by
  rw[List.length_set];exact zck (f:=λi=>S.s (F i false)+S.s (F i true)) (g:=λj=>S.s (if j=i then [] else F j false)+S.s (if j=i then [] else F j true)) (i:=i) (x:=0) (y:=0) N.cs.length hi (λj hj hne=>by rw[if_neg hne,if_neg hne]) (by
   rw[if_pos rfl,if_pos rfl,S.s_nil];omega))
 refine⟨⟨Z,_,U2,h3.up (by omega)⟩,⟨λj l x y s t hj hl g=>?_,λj x s hj=>?_,λj x s hj=>?_,λj x s hj hin=>?_⟩⟩
 .have key: ∀(j:Nat) (x:Cb),(N.cs.set i { c with inn:=up,w0:=[],w1:=[] })[j]? =some x-> ∃x',N.cs[j]? =some x'/\ ∀s,x.rdE s=x'.rdE s:=λj x hx=>by
   rcases zcm hx with⟨rfl,rfl⟩|⟨hne,hx⟩
   .exact⟨c,hc,λs=>by cases s<;>rfl⟩
   .exact⟨x,hx,λ_=>rfl⟩
  obtain⟨x',hx',ex⟩:=key j x hj;obtain⟨y',hy',ey⟩:=key l y hl;exact hw.uq j l x' y' s t hx' hy' (by rw[<-ex,<-ey];exact g)
 .rcases zcm hj with⟨rfl,rfl⟩|⟨hne,hx⟩
  .have e1:Cb.rdE { c with inn:=up,w0:=[],w1:=[] } s=c.rdE s:=by cases s<;>rfl
   rw[e1];exact (hend s).2.1
  .have hn1: ∀t,x.rdE s≠c.rdE t:=λt g=>hne (hw.uq j i x c s t hx hc g).1.symm;exact ((hoth (x.rdE s) (hn1 true) (hn1 false)).2.2 (hw.op j x s hx)).1
 .rcases zcm hj with⟨rfl,rfl⟩|⟨hne,hx⟩
  .have e1:Cb.rdE { c with inn:=up,w0:=[],w1:=[] } s=c.rdE s:=by cases s<;>rfl
   rw[e1];exact (hend s).2.2
  .have hn1: ∀t,x.rdE s≠c.rdE t:=λt g=>hne (hw.uq j i x c s t hx hc g).1.symm;exact ((hoth (x.rdE s) (hn1 true) (hn1 false)).2.2 (hw.op j x s hx)).2.trans (hw.st j x s hx)
 .rcases zcm hj with⟨rfl,rfl⟩|⟨hne,hx⟩
  .cases s<;>rfl
  .exact hw.w j x s hx hin
theorem ok_plug0(hN:N.ok k 0 d e){i:Nat}{c:Cb}(hc:N.cs[i]? =some c)(up:Bool):(zgY N i c up).ok k 780 d e:=by
 have hco:=hN.c c (getq hc);have k1:=ze8 hN i (c:={ c with inn:=up,w0:=[],w1:=[] }) ⟨hco.a,hco.pa,hco.b,hco.pb,Nat.zero_le _,Nat.zero_le _⟩;have k2:=zaq k1 (m:=390) (f:=d) (by omega) (Nat.le_refl _) c.a (F:=λr=>zaV r c.pa.toNat up) (λr hr=>by have:=zcW hr c.pa.toNat up;rw[Nat.zero_add] at this;exact this);exact zaq k2 (m:=780) (f:=d) (by omega) (Nat.le_refl _) c.b (F:=λr=>zaV r c.pb.toNat up) (λr hr=>zcW hr c.pb.toNat up)
theorem zkg(hB:InB S J)(hf:Cost S ct cn)(h:On S J M N)(hI:N.inv k d e)(hn:N.num T)(i:Int)(up:Bool):On S J M (zbS N i up)/\(zbS N i up).num T:=by
 unfold zbS;cases hcb:N.cb i with
 |none=>exact⟨h,hn⟩
 |some c=>
  obtain⟨_,hc⟩:=zdW hcb;dsimp only;split
  .exact⟨h,hn⟩
  .rename_i hu;exact zfz hB (on_plug0 hf h hI.ok hc hu) (ok_plug0 hI.ok hc up) (zfK (zfK (N:={ N with cs:=_ }) hn _ (λr=>⟨(zcK ..).1,λj=>m_plug ..⟩)) _ (λr=>⟨(zcK ..).1,λj=>m_plug ..⟩))
theorem on_new(hf:Cost S ct cn)(h:On S J M N)(hI:N.inv k d e)(hk:k<=6)(hn:N.num T){i:Int}(hi:1<=i/\i<=k)(hout: ∀(j:Nat) (c:Cb),N.cs[j]? =some c->c.a=i\/c.b=i->c.inn=false):On S J (M+cn) (N.onR i λ_=>newR i (N.mt.getD (i-1).toNat []))/\(N.onR i λ_=>newR i (N.mt.getD (i-1).toNat [])).num T:=by
 obtain⟨⟨X,F,U,h⟩,hw⟩:=h;have hlt:(i-1).toNat<N.mt.length:=by rw[hI.ok.mt];omega
 obtain⟨a,b,c0,h1,ha,hb,hc0⟩:=hI.ok.m3 N.mt[(i-1).toNat] (List.getElem_mem hlt);have hms:N.mt.getD (i-1).toNat []=[a,b,c0]:=by rw[List.getD_eq_getElem?_getD,List.getElem?_eq_getElem hlt];exact h1
 rw[hms];have hlt2:(i-1).toNat<N.rs.length:=by rw[hI.ok.rs];omega
 have hr:=List.getElem?_eq_getElem hlt2;generalize N.rs[(i-1).toNat]=r at hr;obtain⟨Y,hXY,hQ,hW⟩:=hf.new X i a b c0 hi.1 (by omega) ha hb hc0;have hrs:=zfg (G:=λ_=>newR i [a,b,c0]) hr;have hnp: ∀p,((newR i [a,b,c0]).pt p).rd=rd0/\(p<3->((newR i [a,b,c0]).pt p).l.st=1):=λp=>by
  rcases (by omega:p=0\/p=1\/p=2\/3<=p) with rfl|rfl|rfl|g
  .exact⟨rfl,λ_=>rfl⟩
  .exact⟨rfl,λ_=>rfl⟩
  .exact⟨rfl,λ_=>rfl⟩
  .refine⟨?_,λg2=>by omega⟩;unfold Rt.pt;rw[List.getD_eq_getElem?_getD,List.getElem?_eq_none (show (newR i [a,b,c0]).ps.length<=p from g)];rfl
 have htouch: ∀(j:Nat) (c:Cb) (s:Bool),N.cs[j]? =some c->(i-1).toNat=(c.rdE s).1->c.inn=false:=λj c s hc g=>by
  have hco:=hI.ok.c c (getq hc);have:=hco.a;have:=hco.b;refine hout j c hc ?_;cases s
  .right;change (i-1).toNat=(c.b-1).toNat at g;omega
  .left;change (i-1).toNat=(c.a-1).toNat at g;omega
 refine⟨⟨⟨Y,F,λb j=>if b=(i-1).toNat then [] else U b j,⟨λj c s _ hc=>?_,λj s=>(h.fg j s).up hXY,λx q j p hq hp=>?_,λx j=>?_,λx q hq=>?_,?_⟩⟩,⟨hw.uq,λj c s hc=>?_,λj c s hc=>?_,hw.w⟩⟩,hn.1,λx q hq=>?_⟩
 .have hfl:=h.fl j c s trivial hc;unfold Nt.rdA;rw[zdH (G:=λ_=>newR i [a,b,c0]) hr];split
  .rename_i g;have hin:=htouch j c s hc g;have hwr:=hw.w j c s hc hin;rw[hwr] at hfl ⊢;rw[(hnp _).1,(flow_nil hfl).2];exact zhm
  .exact hfl
 .rw[hrs] at hq;split at hq
  .rename_i g;cases hq;rw[if_pos g.symm];rcases (by have:=(List.getElem?_eq_some_iff.1 hp).1;change j<3 at this;omega:j=0\/j=1\/j=2) with rfl|rfl|rfl
   .cases hp;rfl
   .cases hp;rfl
   .cases hp;rfl
  .rename_i g;rw[if_neg (λg2=>g g2.symm)];exact h.ou x q j p hq hp
 .split
  .exact λt ht=>by cases ht
  .exact (h.ug x j).up hXY
 .rw[hrs] at hq;split at hq
  .cases hq;exact hQ
  .exact S.Qm hXY (h.Q x q hq)
 .have hs:=h.sum;unfold Meas.tot at hs ⊢;have hlen:(N.onR i λ_=>newR i [a,b,c0]).rs.length=N.rs.length:=List.length_modify ..;rw[hlen,show (N.onR i λ_=>newR i [a,b,c0]).cs=N.cs from rfl];have key:=zck (f:=S.at J U N) (g:=S.at J (λb j=>if b=(i-1).toNat then [] else U b j) (N.onR i λ_=>newR i [a,b,c0])) (i:=(i-1).toNat) (x:=Y) (y:=X+cn) N.rs.length hlt2 (λx hx hne=>by
   unfold Meas.at;rw[zcq (G:=λ_=>newR i [a,b,c0]) hr,if_neg (λg=>hne g.symm)];simp only[if_neg hne];rfl) (by
   unfold Meas.at;rw[zcq (G:=λ_=>newR i [a,b,c0]) hr,if_pos rfl];simp only[if_true];have:S.v (λ_=>[])=0:=rfl;show S.v (λ_=>[])+S.W (newR i [a,b,c0]).co+J (i-1).toNat (N.ib.getD (i-1).toNat [])+Y<=_;omega)
  omega
 .change ((N.onR i λ_=>newR i [a,b,c0]).ptA (c.rdE s)).l.opn;rw[zdH (G:=λ_=>newR i [a,b,c0]) hr];split
  .obtain⟨-, -, -, hp3,-, -⟩:=zjv hI.ok hc (!s);exact .inl ((hnp _).2 (by rw[zpe];exact hp3))
  .exact hw.op j c s hc
 .change ((N.onR i λ_=>newR i [a,b,c0]).ptA (c.rdE s)).l.st=1↔_;rw[zdH (G:=λ_=>newR i [a,b,c0]) hr];split
  .rename_i g;obtain⟨-, -, -, hp3,-, -⟩:=zjv hI.ok hc (!s);exact⟨λ_=>htouch j c s hc g,λ_=>(hnp _).2 (by rw[zpe];exact hp3)⟩
  .exact hw.st j c s hc
 .rw[hrs] at hq;split at hq
  .rename_i g;cases hq;refine⟨?_,λj=>?_⟩
   .show i=_;omega
   .rw[<-g,<-hn.1,hms];rcases (by omega:j=0\/j=1\/j=2\/3<=j) with rfl|rfl|rfl|gj
    .rfl
    .rfl
    .rfl
    .unfold Rt.pt;rw[List.getD_eq_getElem?_getD,List.getElem?_eq_none (show (newR i [a,b,c0]).ps.length<=j from gj),List.getD_eq_getElem?_getD,List.getElem?_eq_none (show [a,b,c0].length<=j from gj)];rfl
  .exact hn.2 x q hq
end
def vw(x:Int×Pe):Int×Bool×Int:=(x.1,x.2.both,x.2.who)
def zdr(l:List (Int×Bool×Int))(n:Int):Int:=l.foldl (λa v=>if v.2.1=true/\v.2.2=n/\(a=0\/v.1<a) then v.1 else a) 0
def edgK(l:List (Int×Bool×Int)):Nat->List (Int×Int)
 |0=>[]
 |k+1=>edgK l k++if 0<zdr l ((k:Int)+1) then [((k:Int)+1,zdr l ((k:Int)+1))] else []
theorem least_K(ps:List Pt)(n:Int):zb0 ps n=zdr ((ps.map λp=>(p.m,p.p)).map vw) n:=by
 unfold zb0 zdr;rw[List.map_map,List.foldl_map];rfl
theorem edg_K(ps:List Pt): ∀k,edgN ps k=edgK ((ps.map λp=>(p.m,p.p)).map vw) k
 |0=>rfl
 |k+1=>by unfold edgN edgK;rw[edg_K ps k,least_K]
def Co.edges(c:Co):List (Int×Int):=edgK (c.ps.map vw) 6
theorem zhp(r:Rt):za0 r.ps=r.co.edges:=edg_K r.ps 6
def hasP(x:Int×Pe):Bool:=x.2.both||decide (x.2.who≠0)
def Pg(id:Int)(x:Int×Pe):Prop:=(1<=x.1/\x.1<=20)/\(x.2.both=true->1<=x.2.who/\x.2.who<=6/\x.2.who≠id)
structure TQ0 (X:Nat) (c:Co):Prop where
 id:1<=c.id/\c.id<=6
 len:c.ps.length=3
 ps: ∀x∈c.ps,Pg c.id x
 kn: ∀(n:Int) (s:St3),c.b.kn n=some s->s.1=n/\sf s=0/\s.2.1<=(X:Int)
 own: ∃s,c.b.kn c.id=some s
structure TQ (X:Nat) (c:Co):Prop extends TQ0 X c where
 ed:X<1000000-> ∀s,c.b.kn c.id=some s->s.2.2=c.edges
theorem TQ0.up{X Y:Nat}{c:Co}(h:TQ0 X c)(hl:X<=Y):TQ0 Y c:=⟨h.id,h.len,h.ps,λn s hs=>⟨(h.kn n s hs).1,(h.kn n s hs).2.1,by have:=(h.kn n s hs).2.2;omega⟩,h.own⟩
theorem TQ.up{X Y:Nat}{c:Co}(h:TQ X c)(hl:X<=Y):TQ Y c:=⟨h.toTQ0.up hl,λg=>h.ed (by omega)⟩
def tq(X:Nat)(t:List UInt8):Prop:=match t with
 |[]=>True
 |k::s=>k=83->serr (tx s)=0->(stOf s).2.1<=(X:Int)
def tw(t:List UInt8):Nat:=match t with
 |[]=>0
 |k::_=>if k=72 then 2 else if k=83 then 1 else 0
theorem tq_up{X Y:Nat}{t:List UInt8}(hl:X<=Y)(h:tq X t):tq Y t:=by
 unfold tq at *
 split
 .trivial
 .intro a b;have:=h a b;omega
def za9:Meas:=⟨tq,tw,TQ,λc=>c.ps.countP hasP,tq_up,λhl h=>h.up hl⟩
theorem tq_ne{X:Nat}{k:UInt8}(hk:k≠83)(s:List UInt8):tq X (k::s):=λe=>absurd e hk
theorem zm3{l:List (Int×Bool×Int)}{n:Int}(h:0<zdr l n): ∃v∈l,v.2.1=true/\v.2.2=n/\v.1=zdr l n:=by
 have: ∀(l:List (Int×Bool×Int)) (a:Int),l.foldl (λa v=>if v.2.1=true/\v.2.2=n/\(a=0\/v.1<a) then v.1 else a) a=a\/ ∃v∈l,v.2.1=true/\v.2.2=n/\v.1=l.foldl (λa v=>if v.2.1=true/\v.2.2=n/\(a=0\/v.1<a) then v.1 else a) a:=by
  intro l
  induction l with
  |nil=>exact λa=>.inl rfl
  |cons x l ih=>
   intro a;rw[List.foldl_cons];rcases ih (if x.2.1=true/\x.2.2=n/\(a=0\/x.1<a) then x.1 else a) with g|⟨v,h1,h2⟩
   .rw[g];split
    .rename_i hc;exact .inr ⟨x,List.mem_cons_self .., hc.1,hc.2.1,rfl⟩
    .exact .inl rfl
   .exact .inr ⟨v,List.mem_cons_of_mem _ h1,h2⟩
 rcases this l 0 with g|g
 .unfold zdr at h;rw[g] at h;exact absurd h (by decide)
 .exact g
theorem zom{l:List (Int×Bool×Int)}{id:Int}(hl: ∀v∈l,(1<=v.1/\v.1<=20)/\(v.2.1=true->1<=v.2.2/\v.2.2<=6/\v.2.2≠id)): ∀k,k<=6->(edgK l k).length<=k/\(∀e∈edgK l k,e.1<=k)/\ ∀(r:List (Int×Int)) (p:Int),p<=0->zbZ id p (edgK l k++r)=0\/(∃q,p<=q/\q<=k/\zbZ id p (edgK l k++r)=zbZ id q r)
 |0,_=>⟨Nat.le_refl _,λe he=>(by cases he),λr p hp=>.inr ⟨p,Int.le_refl _,hp,rfl⟩⟩
 |k+1,hk=>by
  obtain⟨h1,h2,h3⟩:=zom (id:=id) hl k (by omega);unfold edgK;split
  .rename_i h0;obtain⟨v,hv,hv1,hv2,hv3⟩:=zm3 h0;have hg:=hl v hv;have hg2:=hg.2 hv1;refine⟨by rw[List.length_append,List.length_singleton];omega,λe he=>?_,λr p hp=>?_⟩
   .rcases List.mem_append.1 he with g|g
    .have:=h2 e g;push_cast;omega
    .rw[List.mem_singleton.1 g];push_cast;exact Int.le_refl _
   .rw[List.append_assoc];rcases h3 ([((k:Int)+1,zdr l ((k:Int)+1))]++r) p hp with g|⟨q,q1,q2,g⟩
    .exact .inl g
    .refine .inr ⟨(k:Int)+1,by omega,by push_cast;omega,?_⟩;rw[g];show zbZ id q (((k:Int)+1,zdr l ((k:Int)+1))::r)=_;conv=>lhs;unfold zbZ
     have e1:zd1 ((k:Int)+1,zdr l ((k:Int)+1))=false:=by
      unfold zd1;have:=hg.1;simp only[Bool.or_eq_false_iff,decide_eq_false_iff_not];rw[<-hv3];omega
     rw[e1,if_neg (by decide)];dsimp only;rw[if_neg (by omega)]
  .refine⟨by rw[List.append_nil];omega,λe he=>?_,λr p hp=>?_⟩
   .rw[List.append_nil] at he;have:=h2 e he;push_cast;omega
   .rw[List.append_nil];rcases h3 r p hp with g|⟨q,q1,q2,g⟩
    .exact .inl g
    .exact .inr ⟨q,q1,by push_cast;omega,g⟩
theorem edges_ok{X:Nat}{c:Co}(h:TQ0 X c){q:Int}(h1:1<=q)(h2:q<=1000000):sf (c.id,q,c.edges)=0:=by
 have hl: ∀v∈c.ps.map vw,(1<=v.1/\v.1<=20)/\(v.2.1=true->1<=v.2.2/\v.2.2<=6/\v.2.2≠c.id):=λv hv=>by
  obtain⟨x,hx,rfl⟩:=List.mem_map.1 hv;exact h.ps x hx
 obtain⟨a1,a2,a3⟩:=zom (id:=c.id) hl 6 (Nat.le_refl _);have hid:=h.id;unfold sf zaL;dsimp only;rw[if_neg (by omega),if_neg (show ¬6<c.edges.length by unfold Co.edges;omega)];rcases a3 [] 0 (Int.le_refl _) with g|⟨q,_,_,g⟩
 .rw[List.append_nil] at g;exact g
 .rw[List.append_nil] at g;exact g.trans rfl
theorem znn{b:Ba}{s:St3}(h:sf s=0):(setB b s).kn=upI b.kn s.1 (some s):=by unfold setB;rw[if_pos h]
theorem kn_met(b:Ba)(p:Int):(metB b p).kn=b.kn:=by unfold metB;split<;>rfl
theorem kn_par(b:Ba)(p:Int):(parB b p).kn=b.kn:=by unfold parB;split<;>rfl
theorem kn_hrd(b:Ba)(p:Int)(s:St3):(hrdB b p s).kn=b.kn:=by unfold hrdB;split<;>rfl
theorem TQ0.b{X:Nat}{c:Co}(h:TQ0 X c){b:Ba}(hb:b.kn=c.b.kn):TQ0 X { c with b:=b }:=⟨h.id,h.len,h.ps,λn s hs=>h.kn n s (by rw[<-hb];exact hs),by obtain⟨s,hs⟩:=h.own;exact⟨s,by show b.kn _=_;rw[hb];exact hs⟩⟩
theorem TQ.b'{X:Nat}{c:Co}(h:TQ X c){b:Ba}(hb:b.kn=c.b.kn):TQ X { c with b:=b }:=⟨h.toTQ0.b hb,λg s hs=>h.ed g s (by rw[<-hb];exact hs)⟩
theorem tq_set{X Y:Nat}{c:Co}(h:TQ0 X c)(hl:X<=Y){q:Int}(hq:q<=(Y:Int))(hs:sf (c.id,q,c.edges)=0):TQ Y { c with b:=setB c.b (c.id,q,c.edges) }:=by
 have hk:=znn (b:=c.b) hs;refine⟨⟨h.id,h.len,h.ps,λn s hn=>?_,⟨_,by show (setB c.b _).kn _=_;rw[hk];exact zdh⟩⟩,λ_ s hn=>?_⟩
 .change (setB c.b _).kn n=some s at hn;rw[hk] at hn;unfold upI at hn;split at hn
  .rename_i e;cases hn;exact⟨e.symm,hs,hq⟩
  .have:=h.kn n s hn;exact⟨this.1,this.2.1,by omega⟩
 .change (setB c.b _).kn _=some s at hn;rw[hk,show upI _ _ _ _=_ from zdh] at hn;cases hn;rfl
theorem zlk{r:Rt}{s:St3}(h:r.b.kn r.id=some s):r.own=s:=by unfold Rt.own stO;rw[h];rfl
theorem tell_Q{X:Nat}{r:Rt}(h:TQ0 X r.co): ∃Y,X<=Y/\Y<=X+1/\TQ Y (zbL r).co:=by
 obtain⟨s,hs⟩:=h.own;have ho:=zlk hs;have hk:=h.kn _ _ hs;unfold zbL;rw[ho,zhp];split
 .rename_i hc;have h1:=zaK hk.2.1;exact⟨X+1,by omega,Nat.le_refl _,tq_set h (by omega) (by push_cast;omega) (edges_ok h (by omega) (by omega))⟩
 .rename_i hc;refine⟨X,Nat.le_refl _,by omega,⟨h,λhX t ht=>?_⟩⟩;have e:t=s:=by
   have:=ht.symm.trans hs;exact Option.some.inj this
  subst e;by_cases he:t.2.2=r.co.edges
  .exact he
  .exact absurd ⟨he,by omega⟩ hc
theorem zjT{α:Type}{p:α->Bool}{f:α->α}: ∀{l:List α} {i:Nat} {x:α},l[i]? =some x->(l.modify i f).countP p+(if p x then 1 else 0)=l.countP p+(if p (f x) then 1 else 0)
 |[],i,x,h=>by cases h
 |y::l,0,x,h=>by
  cases h;show (f y::l).countP p+_=_;rw[List.countP_cons,List.countP_cons];omega
 |y::l,i+1,x,h=>by
  have:=zjT (p:=p) (f:=f) (l:=l) (i:=i) (x:=x) h;show (y::l.modify i f).countP p+_=_;rw[List.countP_cons,List.countP_cons];omega
theorem co_onP{r:Rt}{i:Nat}{now:Pe}:(r.onP i λp=>{ p with p:=now }).co={ r.co with ps:=r.co.ps.modify i λx=>(x.1,now) }:=by
 unfold Rt.co Rt.onP;dsimp only;refine congrArg (λl=>Co.mk r.id l r.b r.inb) (List.ext_getElem? λj=>?_);rw[List.getElem?_map,List.getElem?_modify,List.getElem?_modify,List.getElem?_map];cases r.ps[j]? with
 |none=>rfl
 |some p=>show some _=some _;by_cases e:i=j<;>simp [e]
theorem TQ0.now{X:Nat}{c:Co}(h:TQ0 X c)(i:Nat){now:Pe}(hn: ∀m:Int,1<=m/\m<=20->Pg c.id (m,now)):TQ0 X { c with ps:=c.ps.modify i λx=>(x.1,now) }:=
 ⟨h.id,(List.length_modify ..).trans h.len,λx hx=>by
  rcases zeJ hx with g|⟨y,hy,rfl⟩
  .exact h.ps x g
  .exact hn _ (h.ps y hy).1,h.kn,h.own⟩
theorem zpG{id m:Int}(h:1<=m/\m<=20):Pg id (m,peNo):=⟨h,λg=>by cases g⟩
theorem znK{l:List (Int×Pe)}{i:Nat}{f:Int×Pe->Int×Pe}{x:Int×Pe}(h:l[i]? =some x)(e:vw (f x)=vw x):(l.modify i f).map vw=l.map vw:=by
 refine List.ext_getElem? λj=>?_;rw[List.getElem?_map,List.getElem?_map,List.getElem?_modify];by_cases ej:i=j
 .subst ej;rw[h];show some (vw (if i=i then f x else x))=_;rw[if_pos rfl,e];rfl
 .cases l[j]? with
  |none=>rfl
  |some y=>show some (vw (if i=j then f y else y))=_;rw[if_neg ej];rfl
theorem zki{X:Nat}{r:Rt}(hQ:TQ X r.co){i:Nat}{p0:Pt}(hp:r.ps[i]? =some p0){now:Pe}(hn: ∀m:Int,1<=m/\m<=20->Pg r.id (m,now))(d:Nat)(hd: ¬(p0.p.both=now.both/\p0.p.who=now.who)->(if hasP (p0.m,now) then 1 else 0)+1<=(if hasP (p0.m,p0.p) then 1 else 0)+d):Mv za9 d X r (zaU r i now):=by
 have hco:=co_onP (r:=r) (i:=i) (now:=now);have hcp:r.co.ps[i]? =some (p0.m,p0.p):=by
  show (r.ps.map _)[i]? =_;rw[List.getElem?_map,hp];rfl
 have hcount:=zjT (p:=hasP) (f:=λx:Int×Pe=>(x.1,now)) hcp;dsimp only at hcount;have hT:=hQ.toTQ0.now i hn;have hout: ∀(q:Rt),q.ps=(r.onP i λp=>{ p with p:=now }).ps-> ∀(j:Nat) (p p':Pt),r.ps[j]? =some p->q.ps[j]? =some p'->p'.out=p.out:=λq hq j p p' hp hp'=>by
  rw[hq] at hp';obtain⟨q,h1,h2⟩:=ziG (f:=λp=>{ p with p:=now }) hp';rw[hp] at h1;cases h1;rw[h2];split<;>rfl
 by_cases hs:p0.p.both=now.both/\p0.p.who=now.who
 .have e:zaU r i now=r.onP i λp=>{ p with p:=now }:=by
   unfold zaU;rw[zfD hp,if_pos hs]
  rw[e];refine mv_in ?_ (zad ..).2 (hout _ rfl) ?_
  .show TQ X _;rw[hco];refine⟨hT,λhX s h=>?_⟩;rw[hQ.ed hX s h];unfold Co.edges;dsimp only;rw[znK hcp (by unfold vw;rw[hs.1,hs.2])]
  .show List.countP hasP (r.onP i λp=>{ p with p:=now }).co.ps<=List.countP hasP r.co.ps+d;rw[hco];have:hasP (p0.m,now)=hasP (p0.m,p0.p):=by unfold hasP;dsimp only;rw[hs.1,hs.2]
   rw[this] at hcount;dsimp only;omega
 .have hd:=hd hs;have hQq:TQ0 X ({ (r.onP i λp=>{ p with p:=now }) with b:=parB r.b i }:Rt).co:=by
   have:({ (r.onP i λp=>{ p with p:=now }) with b:=parB r.b i }:Rt).co={ (r.onP i λp=>{ p with p:=now }).co with b:=parB r.b i }:=rfl;rw[this,hco];exact hT.b (kn_par _ _)
  obtain⟨Y,y1,y2,y3⟩:=tell_Q hQq;have hps: ∀b,TQ Y { (zbL { (r.onP i λp=>{ p with p:=now }) with b:=parB r.b i }).co with b:=b }->Mv za9 d X r { zbL { (r.onP i λp=>{ p with p:=now }) with b:=parB r.b i } with b:=b }:=λb hb=>by
   have hl:(zbL { (r.onP i λp=>{ p with p:=now }) with b:=parB r.b i }).ps=(r.onP i λp=>{ p with p:=now }).ps:=zko _;refine⟨Y,λ_=>[],y1,hb,λj t ht=>(by cases ht),?_,λj p p' h1 h2=>?_,?_⟩
   .show (zbL _).ps.length=_;rw[hl];exact (zad ..).2
   .rw[hout { zbL { (r.onP i λp=>{ p with p:=now }) with b:=parB r.b i } with b:=b } hl j p p' h1 h2];simp
   .show 0+0+0+List.countP hasP ((zbL _).ps.map _)+Y<=List.countP hasP r.co.ps+d+X;rw[hl];have e2:=congrArg Co.ps hco;change ((r.onP i λp=>{ p with p:=now }).ps.map λp=>(p.m,p.p))=r.co.ps.modify i _ at e2;rw[e2];omega
  unfold zaU;rw[zfD hp,if_neg hs];split
  .exact hps _ (y3.b' (kn_met _ _))
  .exact hps _ y3
theorem zeu{X:Nat}{r:Rt}(hQ:TQ X r.co){i:Nat}(hi:i<3):Mv za9 0 X r (zaU r i peNo):=by
 have hl:r.ps.length=3:=by have:=hQ.len;change (r.ps.map _).length=3 at this;rw[List.length_map] at this;exact this
 refine zki hQ (List.getElem?_eq_getElem (show i<r.ps.length by omega)) (λm hm=>zpG hm) 0 (λhs=>?_);have:hasP ((r.ps[i]'(by omega)).m,(r.ps[i]'(by omega)).p)=true:=by
  unfold hasP;dsimp only;generalize (r.ps[i]'(by omega)).p=q at hs ⊢;exact Y105
 rw[this];exact Nat.le_refl _
theorem mv_b{X Y d:Nat}{r:Rt}{b:Ba}(hl:X<=Y)(hY:Y<=X+d)(hQ:TQ Y { r.co with b:=b }):Mv za9 d X r { r with b:=b }:=
 ⟨Y,λ_=>[],hl,hQ,λj t ht=>(by cases ht),rfl,λj p p' hp hp'=>by rw[show ({ r with b:=b }:Rt).ps=r.ps from rfl,hp] at hp';cases hp';simp,by
  show 0+0+0+List.countP hasP r.co.ps+Y<=List.countP hasP r.co.ps+d+X;omega⟩
theorem tq_take{X:Nat}{r:Rt}(hQ:TQ X r.co)(p:Int){s:St3}(hs:s.2.1<=(X:Int))(hno: ¬(s.1=r.id/\0<newerS s r.own)):TQ X { r.co with b:=zba r.b p s }:=by
 unfold zba;split
 .rename_i hc;split
  .rename_i hk;have hne:s.1≠r.id:=λg=>by
    obtain⟨t,ht⟩:=hQ.own;refine hno ⟨g,?_⟩;rw[zlk ht];unfold takK at hk;rw[g,show r.b.kn r.id=some t from ht] at hk;change nws s t=1 at hk;show 0<nws s t;omega
   have hkn: ∀n t,upI r.b.kn s.1 (some s) n=some t->(n=s.1/\t=s)\/r.b.kn n=some t:=λn t h=>by
    unfold upI at h;split at h
    .rename_i e;cases h;exact .inl ⟨e,rfl⟩
    .exact .inr h
   have hown:upI r.b.kn s.1 (some s) r.id=r.b.kn r.id:=zof (λg=>hne g.symm);refine⟨⟨hQ.id,hQ.len,hQ.ps,λn t h=>?_,?_⟩,λhX t h=>?_⟩
   .rcases hkn n t h with⟨rfl,rfl⟩|h
    .exact⟨rfl,hc.2,hs⟩
    .exact hQ.kn n t h
   .obtain⟨t,ht⟩:=hQ.own;exact⟨t,hown.trans ht⟩
   .exact hQ.ed hX t (hown.symm.trans h)
  .split
   .exact hQ.b' rfl
   .exact hQ.b' rfl
 .exact hQ
theorem tl_learn{X:Nat}{r:Rt}(hQ:TQ X r.co)(i:Nat){s:List UInt8}(hs:tq X (83::s)):Mv za9 1 X r (zbD r i s):=by
 unfold zbD;split
 .exact (zbi (S:=za9) hQ).up (Nat.zero_le _)
 .rename_i h0;have hseq:=hs rfl (by by_cases g:serr (tx s)=0;exact g;exact absurd (.inl g) h0);split
  .split
   .by_cases hf:sf (r.id,(stOf s).2.1+1,za0 r.ps)=0
    .rw[zhp] at hf ⊢;exact mv_b (Y:=X+1) (by omega) (Nat.le_refl _) (tq_set (c:=r.co) hQ.toTQ0 (by omega) (by push_cast;omega) hf)
    .have:setB r.b (r.id,(stOf s).2.1+1,za0 r.ps)=r.b:=by unfold setB;rw[if_neg hf]
     rw[this];exact (zbi (S:=za9) hQ).up (Nat.zero_le _)
   .exact (zbi (S:=za9) hQ).up (Nat.zero_le _)
  .rename_i hno;have hT:=tq_take hQ i hseq hno;split
   .have h1:Mv za9 0 X r { r with b:=zba r.b i (stOf s) }:=mv_b (Nat.le_refl _) (Nat.le_refl _) hT;have h2:=h1.trans (λY _ hY=>zlb (S:=za9) (X:=Y) (r:={ r with b:=zba r.b i (stOf s) }) hY i 65 s (tq_ne (by decide) s));exact h2.up (by show 0+tw (65::s)<=1;exact Nat.zero_le _)
   .exact (mv_b (Nat.le_refl _) (Nat.le_refl _) hT).up (Nat.zero_le _)
theorem zpp{X:Nat}{r:Rt}(hQ:TQ X r.co)(m:Mg):Mv za9 0 X r (zdB r m):=by
 have hi: ∀(inb:List Mg) (dr:Int),Mv za9 0 X r { r with inb:=inb,dr:=dr }:=λinb dr=>mv_in (S:=za9) (r1:={ r with inb:=inb,dr:=dr }) (show TQ X { r.co with inb:=inb } from ⟨⟨hQ.id,hQ.len,hQ.ps,hQ.kn,hQ.own⟩,hQ.ed⟩) rfl (λj p p' hp hp'=>by rw[show ({ r with inb:=inb,dr:=dr }:Rt).ps=r.ps from rfl,hp] at hp';cases hp';rfl) (Nat.le_refl _);unfold zdB;split
 .exact hi _ r.dr
 .split
  .exact hi r.inb _
  .split
   .exact hi r.inb _
   .exact zlb (S:=za9) hQ _ 77 _ (tq_ne (by decide) _)
theorem tl_carry{X:Nat}{r:Rt}(hQ:TQ X r.co)(s:List UInt8):Mv za9 0 X r (zbc r s):=by
 unfold zbc;split
 .exact zpp hQ _
 .exact zbi (S:=za9) hQ
theorem tl_76(s:List UInt8):za9.w (76::s)=0/\ ∀X,za9.q X (76::s):=⟨rfl,λX=>tq_ne (by decide) s⟩
theorem tl_tak1{X:Nat}{r:Rt}(hQ:TQ X r.co)(i:Nat)(k:UInt8)(s:List UInt8):Mv za9 0 X r (tak1 r i k s):=by
 unfold tak1;split
 .exact zkU (S:=za9) tl_76 hQ i (λp=>⟨rfl,rfl⟩) (λp=>zhH _)
 .exact zbi (S:=za9) hQ
theorem hear_pg{id:Int}{s:ByteArray}(h:hpE s=0){m:Int}(hm:1<=m/\m<=20):Pg id (m,zct id (hpA s) (hpB s)):=by
 refine⟨hm,λg=>?_⟩;have hg:zcv s=true:=by
  cases e:zcv s with
  |true=>rfl
  |false=>unfold hpE at h;rw[e] at h;simp at h
 have hb:=zcb.1 hg;unfold zct at g ⊢;split at g
 .cases g
 .rename_i hne;rw[if_neg hne];refine⟨?_,?_,hne⟩
  .show 1<=hpA s;unfold hpA;rw[if_pos hg];omega
  .show hpA s<=6;unfold hpA;rw[if_pos hg];omega
theorem zhi{X:Nat}{r:Rt}(hQ:TQ X r.co):r.ps.length=3:=by
 have:=hQ.len;change (r.ps.map _).length=3 at this;rw[List.length_map] at this;exact this
theorem tl_tak{X:Nat}{r:Rt}(hQ:TQ X r.co){i:Nat}(hi:i<3)(k:UInt8){s:List UInt8}(hs:tq X (k::s)):Mv za9 (tw (k::s)) X r (takR r i k s):=by
 have h1:Mv za9 0 X r (tak1 r i k s):=tl_tak1 hQ i k s;have h0: ∀{q:Rt} {d:Nat},d<=tw (k::s)->(∀Y,X<=Y->TQ Y (tak1 r i k s).co->Mv za9 d Y (tak1 r i k s) q)->Mv za9 (tw (k::s)) X r q:=λhd h=>(h1.trans h).up (by omega);unfold takR;split
 .exact h0 (Nat.zero_le _) (λY _ hY=>zeu hY hi)
 .split
  .rename_i hk;subst hk;split
   .rename_i he;refine h0 (d:=2) (Nat.le_refl _) (λY _ hY=>?_);have hid:(tak1 r i 72 s).id=r.id:=(zj3 r i 72 s).1;refine zki hY (List.getElem?_eq_getElem (show i<(tak1 r i 72 s).ps.length by have:=zhi hY;omega)) (λm hm=>by rw[hid];exact hear_pg he hm) 2 (λ_=>?_);split<;>split<;>omega
   .exact h1.up (Nat.zero_le _)
  .split
   .rename_i hk;subst hk;exact h0 (d:=1) (Nat.le_refl _) (λY hXY hY=>tl_learn hY i (tq_up hXY hs))
   .split
    .refine h0 (Nat.zero_le _) (λY _ hY=>?_);unfold zcT;split
     .exact mv_b (Nat.le_refl _) (Nat.le_refl _) (hY.b' (kn_hrd _ _ _))
     .exact zbi (S:=za9) hY
    .split
     .exact h0 (Nat.zero_le _) (λY _ hY=>tl_carry hY s)
     .exact h1.up (Nat.zero_le _)
theorem owd_kn{b:Ba}{p:Int}{x:St3}(h:x∈owdB b p): ∃n,b.kn n=some x:=by
 unfold owdB at h;have:=(List.mem_filter.1 h).1;unfold stsB at this;obtain⟨n,_,hn⟩:=List.mem_filterMap.1 this;exact⟨n,hn⟩
theorem owd_le6(b:Ba)(p:Int):(owdB b p).length<=6:=Nat.le_trans (List.length_filter_le ..) stsB_len
theorem zoA{i:Nat}(hi:i<3): ∀(L:List St3) {X:Nat} {z:Rt},TQ X z.co->(∀x∈L,x.2.1<=(X:Int))->Mv za9 L.length X z (L.foldl (λq x=>q.onP i (zaS x)) z)
 |[],X,z,hQ,_=>zbi (S:=za9) hQ
 |x::L,X,z,hQ,hx=>by
  have h1:Mv za9 1 X z (z.onP i (zaS x)):=by
   have hp:=List.getElem?_eq_getElem (show i<z.ps.length by have:=zhi hQ;omega);generalize z.ps[i]'_=p0 at hp;by_cases he:sf x=0/\p0.p.both=true
   .have:=zlb (S:=za9) (X:=X) (r:=z) hQ i 83 (sbyt x.1 x.2.1 x.2.2) (λ_ _=>by
     have h3:=(st_read he.1).2.2.1;show sid (tx (sbyt x.1 x.2.1 x.2.2))<=_;rw[h3];exact hx x (by simp))
    rw[show z.onP i (putP 83 (sbyt x.1 x.2.1 x.2.2))=z.onP i (zaS x) from zfu hp (by unfold zaS;rw[if_pos he])] at this;exact this
   .have:=zbi (S:=za9) (X:=X) (r:=z) hQ;rw[show z.onP i (zaS x)=z from by rw[<-zfu (f:=id) hp (by unfold zaS;rw[if_neg he];rfl)];exact onP_id z i];exact this.up (Nat.zero_le _)
  exact (h1.trans (λY hXY hY=>zoA hi L hY (λy hy=>by have:=hx y (by simp [hy]);omega))).up (by rw[List.length_cons];omega)
theorem zhy{X:Nat}{r:Rt}(hQ:TQ X r.co){i:Nat}(hi:i<3):Mv za9 8 X r (zb3 r i):=by
 have h0:Mv za9 0 X r (zak r i):=zkU (S:=za9) tl_76 hQ i (λp=>⟨rfl,rfl⟩) (λp=>zhH _);unfold zb3;split
 .exact (h0.trans (λY _ hY=>zeu hY hi)).up (Nat.zero_le _)
 .have h1:Mv za9 0 X r (zaU (zak r i) i (zay ((zak r i).pt i).p)):=by
   refine (h0.trans (e:=0) (λY _ hY=>?_)).up (Nat.le_refl _);have hp:=List.getElem?_eq_getElem (show i<(zak r i).ps.length by have:=zhi hY;omega);generalize (zak r i).ps[i]'_=p0 at hp;rw[zfD hp];have hm:(p0.m,p0.p)∈(zak r i).co.ps:=List.mem_map.2 ⟨p0,getq hp,rfl⟩;have hg:=hY.ps _ hm;refine zki hY hp (λm hm=>?_) 0 (λhs=>?_)
   .unfold zay;split
    .exact zpG hm
    .exact⟨hm,hg.2⟩
   .unfold zay at hs ⊢;split at hs
    .rename_i hl;rw[if_pos hl];have:hasP (p0.m,p0.p)=true:=by
      unfold hasP;dsimp only;generalize p0.p=q at hs ⊢;exact Y105
     rw[this];exact Nat.le_refl _
    .exact absurd ⟨rfl,rfl⟩ hs
  refine (h1.trans (e:=8) (λY _ hY=>?_)).up (Nat.le_refl _);generalize zaU (zak r i) i (zay ((zak r i).pt i).p)=q at *
  have hp:=List.getElem?_eq_getElem (show i<q.ps.length by have:=zhi hY;omega);generalize q.ps[i]'_=p0 at hp;have h2:Mv za9 2 Y q (q.onP i (zaP r.id)):=by
   by_cases he:heE r.id p0.p.who=0
   .have:=zlb (S:=za9) (X:=Y) (r:=q) hY i 72 (heB r.id p0.p.who) (tq_ne (by decide) _);rw[show q.onP i (putP 72 (heB r.id p0.p.who))=q.onP i (zaP r.id) from zfu hp (by unfold zaP;rw[if_pos he])] at this;exact this
   .have:=zbi (S:=za9) (X:=Y) (r:=q) hY;rw[show q.onP i (zaP r.id)=q from by rw[<-zfu (f:=id) hp (by unfold zaP;rw[if_neg he];rfl)];exact onP_id q i];exact this.up (Nat.zero_le _)
  have hL:=owd_le6 q.b i;have hx: ∀x∈owdB q.b i,x.2.1<=(Y:Int):=λx hx=>by
   obtain⟨n,hn⟩:=owd_kn hx;exact (hY.kn n x hn).2.2
  exact (h2.trans (λZ hYZ hZ=>zoA hi (owdB q.b i) hZ (λx h=>by have:=hx x h;omega))).up (by omega)
theorem tl_tick{X:Nat}{r:Rt}(hQ:TQ X r.co):Mv za9 24 X r (zcf r):=by
 unfold zcf;rw[zhi hQ];have h1:=zhy hQ (i:=0) (by decide);have h2:=h1.trans (λY _ hY=>zhy hY (i:=1) (by decide));exact h2.trans (λY _ hY=>zhy hY (i:=2) (by decide))
theorem tl_plug{X:Nat}{r:Rt}(hQ:TQ X r.co){i:Nat}(hi:i<3)(up:Bool):Mv za9 0 X r (zaV r i up):=by
 unfold zaV;split
 .exact zbi (S:=za9) hQ
 .have h0:Mv za9 0 X r (r.onP i λp=>zbB { p with l:=doL p.l (if up then 0 else 1),rd:=rd0,rest:=[] }):=zkU (S:=za9) tl_76 hQ i (λp=>⟨rfl,rfl⟩) (λp=>zhH { p with l:=doL p.l (if up then 0 else 1),rd:=rd0,rest:=[] });exact (h0.trans (λY _ hY=>zeu hY hi)).up (Nat.le_refl _)
theorem tl_new{X:Nat}{i a b c:Int}(h1:1<=i)(h6:i<=6)(ha:1<=a/\a<=20)(hb:1<=b/\b<=20)(hc:1<=c/\c<=20):TQ (X+1) (newR i [a,b,c]).co:=by
 have hf:sf (i,1,[])=0:=by
  unfold sf zaL;dsimp only;rw[if_neg (by omega),if_neg (by decide)];rfl
 have hk:(newR i [a,b,c]).co.b.kn=upI (λ_=>none) i (some (i,1,[])):=znn hf;refine⟨⟨⟨h1,h6⟩,rfl,λx hx=>?_,λn s h=>?_,⟨(i,1,[]),by rw[hk];exact zdh⟩⟩,λ_ s h=>?_⟩
 .change x∈[(a,peNo),(b,peNo),(c,peNo)] at hx;simp only[List.mem_cons,List.not_mem_nil,or_false] at hx;rcases hx with rfl|rfl|rfl
  .exact zpG ha
  .exact zpG hb
  .exact zpG hc
 .rw[hk] at h;unfold upI at h;split at h
  .rename_i e;cases h;exact⟨e.symm,hf,by push_cast;omega⟩
  .cases h
 .rw[hk,show (newR i [a,b,c]).co.id=i from rfl,zdh] at h;cases h;rfl
theorem znY:Cost za9 24 1 where
 tak:=λi t X r hi hQ hq=>by
  unfold takT;split
  .exact zbi (S:=za9) hQ
  .exact tl_tak hQ hi _ hq
 tick:=λX r hQ=>tl_tick hQ
 plug:=λi up X r hi hQ=>tl_plug hQ hi up
 new:=λX i a b c h1 h6 ha hb hc=>⟨X+1,by omega,tl_new h1 h6 ha hb hc,by
  show List.countP hasP [(a,peNo),(b,peNo),(c,peNo)]+(X+1)<=X+1;exact Nat.le_of_eq (Nat.zero_add _)⟩
theorem inb_tell:InB za9 (λ_ _=>0):=λi X c l _ hQ=>⟨⟨⟨hQ.id,hQ.len,hQ.ps,hQ.kn,hQ.own⟩,hQ.ed⟩,Nat.le_refl _⟩
def CsE(N Q:Nt):Prop:=Q.cs.length=N.cs.length/\ ∀(j:Nat) (c:Cb),N.cs[j]? =some c-> ∃d,Q.cs[j]? =some d/\Ends c d
theorem CsE.refl(N:Nt):CsE N N:=⟨rfl,λj c h=>⟨c,h,rfl,rfl,rfl,rfl,rfl,rfl⟩⟩
theorem CsE.trans{A B C:Nt}(h:CsE A B)(g:CsE B C):CsE A C:=⟨g.1.trans h.1,λj c hc=>by
 obtain⟨d,hd,e⟩:=h.2 j c hc;obtain⟨x,hx,f⟩:=g.2 j d hd;exact⟨x,hx,f.1.trans e.1,f.2.1.trans e.2.1,f.2.2.1.trans e.2.2.1,f.2.2.2.1.trans e.2.2.2.1,f.2.2.2.2.1.trans e.2.2.2.2.1,f.2.2.2.2.2.trans e.2.2.2.2.2⟩⟩
theorem cse_gath{k n d e:Nat}{N:Nt}(h:N.ok k n d e):CsE N (zbM N):=by
 have g:=zjd h;have f:=(zc4 N).1;refine⟨by rw[f];exact g.cl,λj c hc=>?_⟩;obtain⟨x,hx,he,_⟩:=g.cs j c hc;exact⟨x,by rw[f];exact hx,he⟩
theorem zqB(N:Nt)(i:Int)(F:Rt->Rt):CsE N (N.onR i F):=CsE.refl N
theorem cse_cs{N:Nt}{i:Nat}{c c':Cb}(hc:N.cs[i]? =some c)(he:Ends c c'):CsE N { N with cs:=N.cs.set i c' }:=by
 refine⟨List.length_set .., λj x hx=>?_⟩;show ∃d,(N.cs.set i c')[j]? =some d/\_;rw[ziz hx];by_cases e:i=j
 .subst e;rw[hc] at hx;cases hx;exact⟨c',by rw[if_pos rfl],he⟩
 .exact⟨x,by rw[if_neg e],rfl,rfl,rfl,rfl,rfl,rfl⟩
section
variable {k d e:Nat} {N:Nt}
def nIn(N:Nt)(i:Int)(up:Bool):Nt:=match N.cb i with
 |none=>N
 |some c=>{ N with cs:=N.cs.set i.toNat { c with inn:=up } }
theorem cse_plug(h:N.inv k d e)(i:Int)(up:Bool):CsE (nIn N i up) (zbS N i up):=by
 unfold zbS nIn;cases hcb:N.cb i with
 |none=>exact CsE.refl N
 |some c=>
  show CsE { N with cs:=N.cs.set i.toNat { c with inn:=up } } (if c.inn=up then N else zbM (zgY N i.toNat c up));obtain⟨h0,hc⟩:=zdW hcb;have hco:=h.ok.c c (getq hc);have hlt:=(List.getElem?_eq_some_iff.1 hc).1;split
  .rename_i hu;have:N.cs.set i.toNat { c with inn:=up }=N.cs:=by
    rw[<-hu];refine List.ext_getElem? λj=>?_;rw[List.getElem?_set];split
    .rename_i e;subst e;exact hc.symm
    .rfl
   rw[show ({ N with cs:=N.cs.set i.toNat { c with inn:=up } }:Nt)=N from by rw[this]];exact CsE.refl N
  .have k1:=ze8 h.ok i.toNat (c:={ c with inn:=up,w0:=[],w1:=[] }) ⟨hco.a,hco.pa,hco.b,hco.pb,Nat.zero_le _,Nat.zero_le _⟩;have k2:=zaq k1 (m:=390) (f:=d) (by omega) (Nat.le_refl _) c.a (F:=λr=>zaV r c.pa.toNat up) (λr hr=>by have:=zcW hr c.pa.toNat up;rw[Nat.zero_add] at this;exact this);have k3:=zaq k2 (m:=780) (f:=d) (by omega) (Nat.le_refl _) c.b (F:=λr=>zaV r c.pb.toNat up) (λr hr=>zcW hr c.pb.toNat up);have h1:CsE { N with cs:=N.cs.set i.toNat { c with inn:=up } } { N with cs:=N.cs.set i.toNat { c with inn:=up,w0:=[],w1:=[] } }:=by
    have:=cse_cs (N:={ N with cs:=N.cs.set i.toNat { c with inn:=up } }) (i:=i.toNat) (c:={ c with inn:=up }) (c':={ c with inn:=up,w0:=[],w1:=[] }) (by show (N.cs.set _ _)[i.toNat]? =_;rw[List.getElem?_set_self hlt]) ⟨rfl,rfl,rfl,rfl,rfl,rfl⟩;rw[List.set_set] at this;exact this
   exact h1.trans (((zqB _ c.a _).trans (zqB _ c.b _)).trans (cse_gath k3))
end
end Go.Proofs.YtimfnpjcedjmiadGreat
