/- Lemmas. -/
import Derived.Test.YtimfnpjcedjmiadGreatK18
set_option maxRecDepth 100000
set_option maxHeartbeats 64000000
set_option linter.all false
namespace Go.Proofs.YtimfnpjcedjmiadGreat
open Go.RowKit
theorem zl5{kn:Int->Option St3}{a:Int->Bool}:RM (baL kn [a]) (baL kn [a]) [0,1,2,3] [0,1,2,3] (baL kn [a]):=by (all_goals refine gr ?_;repeat' first|exact .intro|refine Tw.mk ?_ ?_);all_goals rfl
theorem zmN{kn:Int->Option St3}{a b:Int->Bool}:RM (baL kn [a,b]) (baL kn [a,b]) [0,1,2,3,4] [0,1,2,3,4] (baL kn [a,b]):=by (all_goals refine gr ?_;repeat' first|exact .intro|refine Tw.mk ?_ ?_);all_goals rfl
theorem zlg{kn:Int->Option St3}{a b c:Int->Bool}:RM (baL kn [a,b,c]) (baL kn [a,b,c]) [0,1,2,3,4,5] [0,1,2,3,4,5] (baL kn [a,b,c]):=by (all_goals refine gr ?_;repeat' first|exact .intro|refine Tw.mk ?_ ?_);all_goals rfl
theorem rm_g1{kn:Int->Option St3}{a:Int->Bool}:RM (baL kn [a]) [.gone] [0] [0] [.gone]:=by (all_goals refine gr ?_;repeat' first|exact .intro|refine Tw.mk ?_ ?_)
theorem rm_g2{kn:Int->Option St3}{a b:Int->Bool}:RM (baL kn [a,b]) [.gone] [0] [0] [.gone]:=by (all_goals refine gr ?_;repeat' first|exact .intro|refine Tw.mk ?_ ?_)
theorem rm_g3{kn:Int->Option St3}{a b c:Int->Bool}:RM (baL kn [a,b,c]) [.gone] [0] [0] [.gone]:=by (all_goals refine gr ?_;repeat' first|exact .intro|refine Tw.mk ?_ ?_)
theorem zig{kn:Int->Option St3}{a:Int->Bool}:[]++za2 (extG 0 (baL kn [a]).length) (baL kn [a])=baL kn [a]:=rfl
theorem zia{kn:Int->Option St3}{a b:Int->Bool}:[]++za2 (extG 0 (baL kn [a,b]).length) (baL kn [a,b])=baL kn [a,b]:=rfl
theorem ziI{kn:Int->Option St3}{a b c:Int->Bool}:[]++za2 (extG 0 (baL kn [a,b,c]).length) (baL kn [a,b,c])=baL kn [a,b,c]:=rfl
theorem zcm{f:FuncId}{args:List AV}{r:AV}{kn kn':Int->Option St3}{ow ow':List (Int->Bool)}(h1:1<=ow.length)(h3:ow.length<=3)(k1:1<=ow'.length)(k3:ow'.length<=3)(hF:Fn Tryz.prog f args (baL kn ow) r (baL kn' ow'))(hr:r.free=true):Fn Tryz.prog f args [baR' kn ow] r [baR' kn' ow']:=by
 revert hF
 refine np3 (p:=λow=>Fn Tryz.prog f args (baL kn ow) r (baL kn' ow')->Fn Tryz.prog f args [baR' kn ow] r [baR' kn' ow']) h1 h3 (λa=>?_) (λa b=>?_) (λa b c=>?_);all_goals refine np3 (p:=λow'=>Fn Tryz.prog f args (baL kn _) r (baL kn' ow')->Fn Tryz.prog f args [baR' kn _] r [baR' kn' ow']) k1 k3 (λa'=>?_) (λa' b'=>?_) (λa' b' c'=>?_)
 all_goals intro hF
 .exact zaO (pre:=[]) (mt:=[.gone]) (ρ:=[0]) (κ:=[0,1,2,3]) (L:=0) (by rw[zig];exact hF) rfl rfl rfl rfl rm_g1 zl5 (zbH hr) rfl rfl rfl rfl rfl
 .exact zaO (pre:=[]) (mt:=[.gone]) (ρ:=[0]) (κ:=[0,1,2,3,4]) (L:=0) (by rw[zig];exact hF) rfl rfl rfl rfl rm_g2 zmN (zbH hr) rfl rfl rfl rfl rfl
 .exact zaO (pre:=[]) (mt:=[.gone]) (ρ:=[0]) (κ:=[0,1,2,3,4,5]) (L:=0) (by rw[zig];exact hF) rfl rfl rfl rfl rm_g3 zlg (zbH hr) rfl rfl rfl rfl rfl
 .exact zaO (pre:=[]) (mt:=[.gone]) (ρ:=[0]) (κ:=[0,1,2,3]) (L:=0) (by rw[zia];exact hF) rfl rfl rfl rfl rm_g1 zl5 (zbH hr) rfl rfl rfl rfl rfl
 .exact zaO (pre:=[]) (mt:=[.gone]) (ρ:=[0]) (κ:=[0,1,2,3,4]) (L:=0) (by rw[zia];exact hF) rfl rfl rfl rfl rm_g2 zmN (zbH hr) rfl rfl rfl rfl rfl
 .exact zaO (pre:=[]) (mt:=[.gone]) (ρ:=[0]) (κ:=[0,1,2,3,4,5]) (L:=0) (by rw[zia];exact hF) rfl rfl rfl rfl rm_g3 zlg (zbH hr) rfl rfl rfl rfl rfl
 .exact zaO (pre:=[]) (mt:=[.gone]) (ρ:=[0]) (κ:=[0,1,2,3]) (L:=0) (by rw[ziI];exact hF) rfl rfl rfl rfl rm_g1 zl5 (zbH hr) rfl rfl rfl rfl rfl
 .exact zaO (pre:=[]) (mt:=[.gone]) (ρ:=[0]) (κ:=[0,1,2,3,4]) (L:=0) (by rw[ziI];exact hF) rfl rfl rfl rfl rm_g2 zmN (zbH hr) rfl rfl rfl rfl rfl
 .exact zaO (pre:=[]) (mt:=[.gone]) (ρ:=[0]) (κ:=[0,1,2,3,4,5]) (L:=0) (by rw[ziI];exact hF) rfl rfl rfl rfl rm_g3 zlg (zbH hr) rfl rfl rfl rfl rfl
section
variable {b:Ba} (hb:b.ok)
theorem zgJ(hb:b.ok)(s:St3)(hs:s.2.2.length<=1000000):Fn Tryz.prog 43 [.box 0 0,.agg (zaF s)] [baR b] (.err (sf s)) [baR (setB b s)]:=
 zcm hb.n1 hb.n3 (zey hb s).n1 (zey hb s).n3 (fset_ok b.kn b.ow hb.n1 hb.n3 s hs) rfl
theorem zi9(hb:b.ok)(p:Int)(s:St3):Fn Tryz.prog 105 [.box 0 0,.v (.int .i64 p),.agg (zaF s)] [baR b] (.tup [.v (.int .i64 (zcv b p s)),.err (zay b p s)]) [baR (zbd b p s)]:=
 zcm hb.n1 hb.n3 (zfq hb p s).n1 (zfq hb p s).n3 (ftake_ok b.kn b.ow hb.n1 hb.n3 hb.kn p s) rfl
theorem zqP(hb:b.ok)(p:Int)(s:St3):Fn Tryz.prog 106 [.box 0 0,.v (.int .i64 p),.agg (zaF s)] [baR b] (.err (zay b p s)) [baR (hrdB b p s)]:=
 zcm hb.n1 hb.n3 (zk8 hb p s).n1 (zk8 hb p s).n3 (zoG b.kn b.ow hb.n1 hb.n3 hb.kn p s) rfl
theorem zi6(hb:b.ok)(p:Int):Fn Tryz.prog 72 [.box 0 0,.v (.int .i64 p)] [baR b] (.err (metE b p)) [baR (metB b p)]:=
 zcm hb.n1 hb.n3 (zkf hb p).n1 (zkf hb p).n3 (fmeet_ok b.kn b.ow hb.n1 hb.n3 hb.kn p) rfl
theorem ziR(hb:b.ok)(n:Int):Fn Tryz.prog 90 [.box 0 0,.v (.int .i64 n)] [baR b] (.tup [.agg (zaF (stO (b.kn n))),.v (.bool (b.kn n).isSome)]) [baR b]:=
 zcm hb.n1 hb.n3 hb.n1 hb.n3 (fget_ok b.kn b.ow hb.n1 hb.n3 hb.kn n) rfl
theorem znD(hb:b.ok):Fn Tryz.prog 35 [.box 0 0] [baR b] (.sl 3 ((stsB b).map zaF) none) [baR b]:=by
 refine zcm hb.n1 hb.n3 hb.n1 hb.n3 ?_ rfl;obtain⟨kn,ow⟩:=b;exact np3 (p:=λow=>Fn Tryz.prog 35 [.box 0 0] (baL kn ow) (.sl 3 ((stsB ⟨kn,ow⟩).map zaF) none) (baL kn ow)) hb.n1 hb.n3 (λa=>zkz kn a hb.kn) (λa b=>zk7 kn a b hb.kn) (λa b c=>zkd kn a b c hb.kn)
theorem zkV(hb:b.ok):Fn Tryz.prog 35 [.box 0 0] [baR b] (.arr 1 0 (stsB b).length) [baR b,.arr true 42 3 0 ((stsB b).map zaF)]:=by
 obtain⟨kn,ow⟩:=b;refine np3 (p:=λow=>Fn Tryz.prog 35 [.box 0 0] [baR ⟨kn,ow⟩] (.arr 1 0 (stsB ⟨kn,ow⟩).length) [baR ⟨kn,ow⟩,.arr true 42 3 0 ((stsB ⟨kn,ow⟩).map zaF)]) hb.n1 hb.n3 (λa=>?_) (λa b=>?_) (λa b c=>?_)
 .have h:Fn Tryz.prog 35 [.box 0 0] ([]++za2 (extG 0 (baL kn [a]).length) (baL kn [a])) (.arr 4 0 (stsB ⟨kn,[a]⟩).length) (baL kn [a]++[.arr true 42 3 0 ((stsB ⟨kn,[a]⟩).map zaF)]):=by rw[zig];exact zj9 kn a hb.kn
  exact zaO (pre:=[]) (L:=0) (mt:=[.gone,.arr true 42 3 0 ((stsB ⟨kn,[a]⟩).map zaF)]) (m':=baL kn [a]) (ρ:=[0,4]) (κ:=[0,1,2,3]) h rfl rfl rfl rfl (by (all_goals refine gr ?_;repeat' first|exact .intro|refine Tw.mk ?_ ?_);all_goals rfl) (by (all_goals refine gr ?_;repeat' first|exact .intro|refine Tw.mk ?_ ?_);all_goals rfl) (by (all_goals refine gr ?_;repeat' first|exact .intro|refine Tw.mk ?_ ?_);all_goals rfl) rfl rfl rfl rfl rfl
 .have h:Fn Tryz.prog 35 [.box 0 0] ([]++za2 (extG 0 (baL kn [a,b]).length) (baL kn [a,b])) (.arr 5 0 (stsB ⟨kn,[a,b]⟩).length) (baL kn [a,b]++[.arr true 42 3 0 ((stsB ⟨kn,[a,b]⟩).map zaF)]):=by rw[zia];exact zjJ kn a b hb.kn
  exact zaO (pre:=[]) (L:=0) (mt:=[.gone,.arr true 42 3 0 ((stsB ⟨kn,[a,b]⟩).map zaF)]) (m':=baL kn [a,b]) (ρ:=[0,5]) (κ:=[0,1,2,3,4]) h rfl rfl rfl rfl (by (all_goals refine gr ?_;repeat' first|exact .intro|refine Tw.mk ?_ ?_);all_goals rfl) (by (all_goals refine gr ?_;repeat' first|exact .intro|refine Tw.mk ?_ ?_);all_goals rfl) (by (all_goals refine gr ?_;repeat' first|exact .intro|refine Tw.mk ?_ ?_);all_goals rfl) rfl rfl rfl rfl rfl
 .have h:Fn Tryz.prog 35 [.box 0 0] ([]++za2 (extG 0 (baL kn [a,b,c]).length) (baL kn [a,b,c])) (.arr 6 0 (stsB ⟨kn,[a,b,c]⟩).length) (baL kn [a,b,c]++[.arr true 42 3 0 ((stsB ⟨kn,[a,b,c]⟩).map zaF)]):=by rw[ziI];exact zjD kn a b c hb.kn
  exact zaO (pre:=[]) (L:=0) (mt:=[.gone,.arr true 42 3 0 ((stsB ⟨kn,[a,b,c]⟩).map zaF)]) (m':=baL kn [a,b,c]) (ρ:=[0,6]) (κ:=[0,1,2,3,4,5]) h rfl rfl rfl rfl (by (all_goals refine gr ?_;repeat' first|exact .intro|refine Tw.mk ?_ ?_);all_goals rfl) (by (all_goals refine gr ?_;repeat' first|exact .intro|refine Tw.mk ?_ ?_);all_goals rfl) (by (all_goals refine gr ?_;repeat' first|exact .intro|refine Tw.mk ?_ ?_);all_goals rfl) rfl rfl rfl rfl rfl
theorem zi2(hb:b.ok)(p:Int):Fn Tryz.prog 62 [.box 0 0,.v (.int .i64 p)] [baR b] (.sl 3 ((owdB b p).map zaF) none) [baR b]:=by
 have hst:=zkV hb;have hlen:=stsB_len (b:=b);have hdel:=delS_ok b.kn b.ow p (stsB b) (λs=>getW b.ow p s.1) (by omega) (λs=>owedC_ok b.kn b.ow hb.n1 hb.n3 p s);have hV:owdB b p=(stsB b).filter λs=>getW b.ow p s.1:=rfl;rw[hV];generalize (stsB b).filter (λs=>getW b.ow p s.1)=O at *
 generalize stsB b=S at *
 unfold baR' at hdel;unfold baR baM at *
 refine foL zaA [] [] Tryz.func62 Tryz.ntmps62 Tryz.results62 ?_;(all_goals refine fv ?_;repeat' first|exact .intro|refine Tw.mk ?_ ?_|(intro h;first|replace h:=h.o|cases h))
 (refine⟨_,_,_,_,[0],hst,rfl,rfl,rfl,?_,?_,?_⟩)
 .exact Y28
 .exact Y3
 (all_goals refine fv ?_;repeat' first|exact .intro|refine Tw.mk ?_ ?_|(intro h;first|replace h:=h.o|cases h))
 (refine⟨_,_,_,_,[3,2,1,0],hdel,rfl,rfl,rfl,?_,?_,?_⟩)
 .exact Y28
 .exact Y28
 (all_goals refine fv ?_;repeat' first|exact .intro|refine Tw.mk ?_ ?_|(intro h;first|replace h:=h.o|cases h))
 (first|refine .mk ⟨_,zjj 4 3 rfl rfl,?_⟩|refine⟨_,zjj 4 3 rfl rfl,?_⟩)
 ((try (conv=>whnf));refine StopRet.by [0] ?_;repeat' first|exact .intro|refine Tw.mk ?_ ?_)
 all_goals (first|rfl|(simp;done)|skip)
theorem xnew_ok(n:Nat)(h1:1<=n)(h3:n<=3):Fn Tryz.prog 40 [.v (.int .i64 n)] [] (.tup [.box 0 0,.err 0]) [baR (newB n)]:=by
 have h:=fnew_ok n h1 h3;refine or3 (by omega:n=1\/n=2\/n=3) (λe=>?_) (λe=>?_) (λe=>?_);all_goals (subst e)
 .exact zev (mt:=[.gone]) (m':=baM (newB 1)) (ρ:=[0]) (κ:=[0,1,2,3]) (L:=0) h rfl rfl rfl rfl rm_g1 zl5 (by (all_goals refine gr ?_;repeat' first|exact .intro|refine Tw.mk ?_ ?_);all_goals rfl) rfl rfl rfl rfl rfl rfl
 .exact zev (mt:=[.gone]) (m':=baM (newB 2)) (ρ:=[0]) (κ:=[0,1,2,3,4]) (L:=0) h rfl rfl rfl rfl rm_g2 zmN (by (all_goals refine gr ?_;repeat' first|exact .intro|refine Tw.mk ?_ ?_);all_goals rfl) rfl rfl rfl rfl rfl rfl
 .exact zev (mt:=[.gone]) (m':=baM (newB 3)) (ρ:=[0]) (κ:=[0,1,2,3,4,5]) (L:=0) h rfl rfl rfl rfl rm_g3 zlg (by (all_goals refine gr ?_;repeat' first|exact .intro|refine Tw.mk ?_ ?_);all_goals rfl) rfl rfl rfl rfl rfl rfl
end
def zaY(m:Mg):List AV:=[.v (.int .i64 m.to),.v (.int .i64 m.hops),.v (.string m.text)]
def prQ(q:Nat)(p:Pt)(g:Nat):List Res:=[.cells [.v (.int .i64 p.m),.box (q+1) 0,.arr (q+2) g p.rd.n,.v (.bool p.rd.e),.v (.bool p.rd.x),.v (.int .i64 p.p.who),.v (.bool p.p.both),.v (.int .i64 p.p.left),.arr (q+3) g p.out.length],lkR p.l,.arr true 5 1 g (p.rd.buf.map bRow),.arr true 5 1 g (p.out.map bRow)]
def rtH(r:Rt)(g:Nat)(rows:List (List AV)):List Res:=[.cells [.v (.int .i64 r.id),.arr 1 0 rows.length,.box 2 0,.arr 3 g r.inb.length,.v (.int .i64 r.dr)],.arr false 97 1 0 rows,baR r.b,.arr true 67 3 g (r.inb.map zaY)]
def zaE:Nat->List Pt->List (List AV)
 |_,[]=>[]
 |q,_::ps=>[.box q 0]::zaE (q+4) ps
def rtP:Nat->List Pt->Nat->List Res
 |_,[],_=>[]
 |q,p::ps,g=>prQ q p g++rtP (q+4) ps g
def ids8:List Nat:=[0,1,2,3,4,5,6,7]
def znR:List Nat:=[0,1,2,3,4,5,6,7,8,9,10,11]
def zaX:List Nat:=[0,1,2,3,4,5,6,7,8,9,10,11,12,13,14,15]
def rtM(r:Rt)(g:Nat):List Res:=rtH r g (zaE 4 r.ps)++rtP 4 r.ps g
theorem zeP(l:List Pt)(p:Pt)(n:Int):zcN (l++[p]) n=if p.p.both=true/\p.p.who=n/\(zcN l n=0\/p.m<zcN l n) then p.m else zcN l n:=by
 unfold zcN;rw[List.foldl_append];rfl
theorem zn8{n:Int}{ps:List Pt}(h: ∀p∈ps,0<=p.m/\p.m<=20):0<=zcN ps n/\zcN ps n<=20:=by
 have key: ∀(l:List Pt) (a:Int),(∀p∈l,0<=p.m/\p.m<=20)->0<=a/\a<=20->0<=l.foldl (λa p=>if p.p.both=true/\p.p.who=n/\(a=0\/p.m<a) then p.m else a) a/\l.foldl (λa p=>if p.p.both=true/\p.p.who=n/\(a=0\/p.m<a) then p.m else a) a<=20:=by
  intro l
  induction l with
  |nil=>intro a _ ha;exact ha
  |cons p l ih=>
   intro a hl ha;refine ih _ (λq hq=>hl q (List.mem_cons_of_mem _ hq)) ?_;dsimp only;split
   .exact hl p (List.mem_cons_self ..)
   .exact ha
 exact key ps 0 h ⟨by decide,by decide⟩
theorem zdp(ps:List Pt): ∀k,(edgN ps k).length<=k
 |0=>Nat.le_refl _
 |k+1=>by
  have h:=zdp ps k;unfold edgN;rw[List.length_append];split<;>simp<;>omega
theorem orN2{k:Nat}{p:Prop}(h:k<=2)(h0:k=0->p)(h1:k=1->p)(h2:k=2->p):p:=by
 rcases (by omega:k=0\/k=1\/k=2) with e|e|e
 .exact h0 e
 .exact h1 e
 .exact h2 e
theorem orN3{k:Nat}{p:Prop}(h:k<=3)(h0:k=0->p)(h1:k=1->p)(h2:k=2->p)(h3:k=3->p):p:=by
 rcases (by omega:k=0\/k=1\/k=2\/k=3) with e|e|e|e
 .exact h0 e
 .exact h1 e
 .exact h2 e
 .exact h3 e
theorem ze7(id dr:Int)(b:Ba)(inb:List Mg)(p0 p1 p2:Pt)(hm: ∀p∈[p0,p1,p2],0<=p.m/\p.m<=20):Fn Tryz.prog 91 [.box 0 0] (rtM ⟨id,[p0,p1,p2],b,inb,dr⟩ 0) (.sl 2 ((zad [p0,p1,p2]).map opRow) none) (rtM ⟨id,[p0,p1,p2],b,inb,dr⟩ 0):=by
 simp only[rtM,rtH,zaE,rtP,prQ];refine foA zaA [] [] Tryz.func91 Tryz.ntmps91 Tryz.results91 ?_;(all_goals refine gv ?_;repeat' first|exact .intro|refine Tw.mk ?_ ?_|(intro h;first|replace h:=h.o|cases h))
 refine lpG (λn:Nat=>⟨[(0,.box 0 0),(3,.sl 2 ((edgN [p0,p1,p2] n).map opRow) (some (16,1))),(4,.v (.int .i64 (n+1)))],rtM ⟨id,[p0,p1,p2],b,inb,dr⟩ 0++[.grow 57 2 1]⟩) (λn=>n<=6) (λn=>6-n) 0 (by omega) (by
  refine AS.le_trans (zeb 3 57 2 rfl) ?_;simp only[rtM,rtH,zaE,rtP,prQ];(refine zaC [0,1,2,3,4,5,6,7,8,9,10,11,12,13,14,15,16] ?_;repeat' first|exact .intro|refine Tw.mk ?_ ?_)) ?_
 rintro n hn;have hel:=zdp [p0,p1,p2] n;by_cases hn':n<6
 .have hnn:=(zn8 (n:=((n:Int)+1)) hm);have hE:edgN [p0,p1,p2] (n+1)=edgN [p0,p1,p2] n++if 0<zcN [p0,p1,p2] ((n:Int)+1) then [((n:Int)+1,zcN [p0,p1,p2] ((n:Int)+1))] else []:=rfl
  have s0:=zeP [] p0 ((n:Int)+1);rw[show []++[p0]=[p0] from rfl] at s0;have s1:=zeP [p0] p1 ((n:Int)+1);rw[show [p0]++[p1]=[p0,p1] from rfl] at s1;have s2:=zeP [p0,p1] p2 ((n:Int)+1);rw[show [p0,p1]++[p2]=[p0,p1,p2] from rfl] at s2;rw[show zcN [] ((n:Int)+1)=0 from rfl] at s0;generalize zcN [p0] ((n:Int)+1)=L1 at *
  generalize zcN [p0,p1] ((n:Int)+1)=L2 at *
  generalize zcN [p0,p1,p2] ((n:Int)+1)=L3 at *
  generalize edgN [p0,p1,p2] n=E at *
  simp only[rtM,rtH,zaE,rtP,prQ];(all_goals refine gv ?_;repeat' first|exact .intro|refine Tw.mk ?_ ?_|(intro h;first|replace h:=h.o|cases h))
  all_goals (try omega)
  refine lpG2 (λ(k:Nat) (L:Int)=>⟨[(0,.box 0 0),(3,.sl 2 (E.map opRow) (some (16,1))),(4,.v (.int .i64 (n+1))),(5,.v (.int .i64 L)),(15,.arr 1 0 3),(16,.v (.int .i64 3)),(17,.v (.int .i64 k))],rtM ⟨id,[p0,p1,p2],b,inb,dr⟩ 0++[.grow 57 2 1]⟩) (λk L=>k<=3/\L=[0,L1,L2,L3].getD k 0) (λk _=>3-k) 0 0 ⟨by omega,rfl⟩ (by
   simp only[rtM,rtH,zaE,rtP,prQ];(refine zaC [0,1,2,3,4,5,6,7,8,9,10,11,12,13,14,15,16] ?_;repeat' first|exact .intro|refine Tw.mk ?_ ?_)) ?_
  rintro k L ⟨hk,hL⟩;refine orN3 hk (λe=>?_) (λe=>?_) (λe=>?_) (λe=>?_)
  .subst e;obtain rfl:(0:Int)=L:=hL.symm;simp only[rtM,rtH,zaE,rtP,prQ];(all_goals refine fv ?_;repeat' first|exact .intro|refine Tw.mk ?_ ?_|(intro h;first|replace h:=h.o|cases h))
   all_goals (try (exfalso;omega))
   all_goals (refine za3 1 L1 ⟨by omega,rfl⟩ (by omega) (by (refine zaC [0,1,2,3,4,5,6,7,8,9,10,11,12,13,14,15,16] ?_;repeat' first|exact .intro|refine Tw.mk ?_ ?_);all_goals (all_goals (try first|rfl|(show p0.m=L1;rw[s0,if_pos ⟨by assumption,by assumption,by omega⟩];done)|(show 0=L1;rw[s0,if_neg (by rintro⟨a1,a2,a3⟩;first|contradiction|omega|exact absurd (a1.symm.trans (show _=false by assumption)) (by decide))];done)))))
  .subst e;obtain rfl:(L1:Int)=L:=hL.symm;simp only[rtM,rtH,zaE,rtP,prQ];(all_goals refine fv ?_;repeat' first|exact .intro|refine Tw.mk ?_ ?_|(intro h;first|replace h:=h.o|cases h))
   all_goals (try (exfalso;omega))
   all_goals (refine za3 2 L2 ⟨by omega,rfl⟩ (by omega) (by (refine zaC [0,1,2,3,4,5,6,7,8,9,10,11,12,13,14,15,16] ?_;repeat' first|exact .intro|refine Tw.mk ?_ ?_);all_goals (all_goals (try first|rfl|(show p1.m=L2;rw[s1,if_pos ⟨by assumption,by assumption,by omega⟩];done)|(show L1=L2;rw[s1,if_neg (by rintro⟨a1,a2,a3⟩;first|contradiction|omega|exact absurd (a1.symm.trans (show _=false by assumption)) (by decide))];done)))))
  .subst e;obtain rfl:(L2:Int)=L:=hL.symm;simp only[rtM,rtH,zaE,rtP,prQ];(all_goals refine fv ?_;repeat' first|exact .intro|refine Tw.mk ?_ ?_|(intro h;first|replace h:=h.o|cases h))
   all_goals (try (exfalso;omega))
   all_goals (refine za3 3 L3 ⟨by omega,rfl⟩ (by omega) (by (refine zaC [0,1,2,3,4,5,6,7,8,9,10,11,12,13,14,15,16] ?_;repeat' first|exact .intro|refine Tw.mk ?_ ?_);all_goals (all_goals (try first|rfl|(show p2.m=L3;rw[s2,if_pos ⟨by assumption,by assumption,by omega⟩];done)|(show L2=L3;rw[s2,if_neg (by rintro⟨a1,a2,a3⟩;first|contradiction|omega|exact absurd (a1.symm.trans (show _=false by assumption)) (by decide))];done)))))
  .subst e;obtain rfl:L3=L:=hL.symm;simp only[rtM,rtH,zaE,rtP,prQ];(all_goals refine fv ?_;repeat' first|exact .intro|refine Tw.mk ?_ ?_|(intro h;first|replace h:=h.o|cases h))
   all_goals (try (exfalso;omega))
   all_goals (refine zaU (n+1) (by omega) (by omega) (by
    rw[hE];(refine zaC [0,1,2,3,4,5,6,7,8,9,10,11,12,13,14,15,16] ?_;repeat' first|exact .intro|refine Tw.mk ?_ ?_);all_goals (all_goals (try first|rfl|(rw[if_pos (by assumption)];simp [opRow,viewR,viewL,AV.view];done)|(rw[if_neg (by omega),List.append_nil];done)))))
 .have e:n=6:=by omega
  subst e;simp only[rtM,rtH,zaE,rtP,prQ];(all_goals refine gv ?_;repeat' first|exact .intro|refine Tw.mk ?_ ?_|(intro h;first|replace h:=h.o|cases h))
  all_goals (try omega)
  all_goals exact Y8
end Go.Proofs.YtimfnpjcedjmiadGreat
