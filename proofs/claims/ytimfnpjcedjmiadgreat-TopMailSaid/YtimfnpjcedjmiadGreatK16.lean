/- Lemmas. -/
import Derived.Test.YtimfnpjcedjmiadGreatK14
set_option maxRecDepth 100000
set_option maxHeartbeats 64000000
set_option linter.all false
namespace Go.Proofs.YtimfnpjcedjmiadGreat
open Go.RowKit
def stO(o:Option St3):St3:=o.getD (0,0,[])
def stsK(kn:Int->Option St3):Nat->List St3
 |0=>[]
 |k+1=>stsK kn k++(kn ((k:Int)+1)).toList
theorem zgg{kn:Int->Option St3}{k:Nat}(h:kn ((k:Int)+1)=none):stsK kn (k+1)=stsK kn k:=by simp [stsK,h]
theorem zhJ{kn:Int->Option St3}{k:Nat}{s:St3}(h:kn ((k:Int)+1)=some s):stsK kn (k+1)=stsK kn k++[s]:=by simp [stsK,h]
theorem zcn(kn:Int->Option St3): ∀k,(stsK kn k).length<=k
 |0=>Nat.le_refl _
 |k+1=>by
  have:=zcn kn k;simp only[stsK,List.length_append];cases kn ((k:Int)+1)<;>simp<;>omega
theorem fm_cons{α β:Type}{f:α->Option β}{a:α}{l:List α}:(a::l).filterMap f=(f a).toList++l.filterMap f:=by
 rw[List.filterMap_cons];cases f a<;>rfl
theorem zfN(kn:Int->Option St3){ow:List (Int->Bool)}:stsK kn 6=stsB ⟨kn,ow⟩:=by
 unfold stsB;simp only[fm_cons,List.filterMap_nil,List.append_nil];show ((((([]++(kn 1).toList)++(kn 2).toList)++(kn 3).toList)++(kn 4).toList)++(kn 5).toList)++(kn 6).toList=_;simp only[List.nil_append,List.append_assoc]
def zfn(s:Int->Bool):Value->Bool
 | .int .i64 n=>s n
 |_=>false
theorem zai:(λ_=>false)=zfn (λ_=>false):=by
 funext v
 cases v with
 |int k m=>cases k<;>rfl
 |_=>rfl
theorem zc6{s:Int->Bool}{n:Int}:updS (zfn s) (.int .i64 n)=zfn (upI s n true):=by
 funext v
 unfold updS;cases h:zcW v (.int .i64 n) with
 |true=>rw[zen.1 h];simp [zfn,upI]
 |false=>
  cases v with
  |int k m=>
   cases k with
   |i64=>
    have hne:m≠n:=λe=>by subst e;simp [zcW,zcj] at h
    simp [zfn,upI,hne]
   |_=>rfl
  |_=>rfl
def orW(o seen:Int->Bool):Int->Bool:=λn=>o n||seen n
theorem zbT{o:Int->Bool}:o=orW o (λ_=>false):=by funext n;simp [orW]
theorem zfU{o s:Int->Bool}{n:Int}:upI (orW o s) n true=orW o (upI s n true):=by
 funext m
 unfold orW upI;split<;>simp
theorem zhr{o s:Int->Bool}{kn:Int->Option St3}(h: ∀n,(kn n).isSome=true->s n=true)(k: ∀n,s n=true->(kn n).isSome=true):orW o s=λn=>o n||(kn n).isSome:=by
 funext n
 unfold orW;congr 1
 cases hs:s n with
 |true=>rw[k n hs]
 |false=>
  cases hk:(kn n).isSome with
  |false=>rfl
  |true=>rw[h n hk] at hs;cases hs
theorem zhe{kn:Int->Option St3}{seen:Int->Bool}{K:Value->Prop}{K2:Prop}(h1: ∀n s,kn n=some s->seen n=false->K (.int .i64 n))(h2:(∀n,(kn n).isSome=true->seen n=true)->K2):StopNext (knM kn) (zfn seen) K K2:=by
 refine⟨λk l hk hs=>?_,λhall=>h2 λn hn=>?_⟩
 .cases k with
  |int kk n=>
   cases kk with
   |i64=>
    simp only[knM,Option.map_eq_some_iff] at hk;obtain⟨s,hs2,_⟩:=hk;exact h1 n s hs2 hs
   |_=>cases hk
  |_=>cases hk
 .have:=hall (.int .i64 n) (by
   simp only[knM];cases hk:kn n with
   |none=>rw[hk] at hn;cases hn
   |some s=>simp)
  exact this
def zi3(kn:Int->Option St3)(seen:Int->Bool):Nat:=(([1,2,3,4,5,6]:List Int).filter λn=>(kn n).isSome&& !seen n).length
theorem zmo{α:Type}{p q:α->Bool}(hpq: ∀x,q x=true->p x=true){e:α}(hp:p e=true)(hq:q e=false): ∀{l:List α},e∈l->(l.filter q).length<(l.filter p).length:=λ{l} he=>Go.filter_lt p q hpq e hp hq l he
theorem ziG{kn:Int->Option St3}{seen:Int->Bool}{n:Int}(h1:1<=n)(h6:n<=6)(hk:(kn n).isSome=true)(hs:seen n=false):zi3 kn (upI seen n true)<zi3 kn seen:=by
 unfold zi3;refine zmo (e:=n) (λx hx=>?_) (by simp [hk,hs]) (by simp [hk,upI_self]) ?_
 .simp only[Bool.and_eq_true,Bool.not_eq_true'] at hx ⊢;refine⟨hx.1,?_⟩;by_cases e:x=n
  .subst e;exact hs
  .have:=hx.2;rw[upI_ne e] at this;exact this
 .rcases (by omega:n=1\/n=2\/n=3\/n=4\/n=5\/n=6) with rfl|rfl|rfl|rfl|rfl|rfl<;>simp
theorem fget_ok(kn:Int->Option St3)(ow:List (Int->Bool))(h1:1<=ow.length)(h3:ow.length<=3)(hkn: ∀n s,kn n=some s->s.1=n/\sf s=0)(n:Int):Fn Tryz.prog 90 [.box 0 0,.v (.int .i64 n)] (baL kn ow) (.tup [.agg (zaF (stO (kn n))),.v (.bool (kn n).isSome)]) (baL kn ow):=by
 refine np3 (p:=λow=>Fn Tryz.prog 90 [.box 0 0,.v (.int .i64 n)] (baL kn ow) (.tup [.agg (zaF (stO (kn n))),.v (.bool (kn n).isSome)]) (baL kn ow)) h1 h3 (λa=>?_) (λa b=>?_) (λa b c=>?_)
 .cases hk:kn n with
  |none=>
   have hlook:knM kn (.int .i64 n)=none:=by simp [knM,hk]
   have hcp:=zbJ 0 0 [] (by decide);refine foA zaA [] [] Tryz.func90 Tryz.ntmps90 Tryz.results90 ?_;(all_goals refine fv ?_;repeat' first|exact .intro|refine Tw.mk ?_ ?_|(intro h;first|replace h:=h.o|cases h))
   refine zdC hlook ?_;(all_goals refine fv ?_;repeat' first|exact .intro|refine Tw.mk ?_ ?_|(intro h;first|replace h:=h.o|cases h))
   (refine⟨_,_,_,_,[],hcp,rfl,rfl,rfl,?_,?_,?_⟩)
   .exact Y3
   .exact Y3
   (all_goals refine fv ?_;repeat' first|exact .intro|refine Tw.mk ?_ ?_|(intro h;first|replace h:=h.o|cases h))
   ((try (conv=>whnf));refine StopRet.by [0,1,2,3] ?_;repeat' first|exact .intro|refine Tw.mk ?_ ?_)
   all_goals rfl
  |some t=>
   obtain⟨q,g,l⟩:=t;have hlook:knM kn (.int .i64 n)=some [.v (.int .i64 q),.v (.int .i64 g),.sl 2 (l.map opRow) none]:=by simp [knM,hk,zaF]
   have hl:l.length<=1000000:=by have:=(zaN (show zaL q g l=0 from (hkn n _ hk).2)).2.2.2.2.1;omega
   have hcp:=zbJ q g (l.map opRow) (by simpa using hl);refine foA zaA [] [] Tryz.func90 Tryz.ntmps90 Tryz.results90 ?_;(all_goals refine fv ?_;repeat' first|exact .intro|refine Tw.mk ?_ ?_|(intro h;first|replace h:=h.o|cases h))
   refine zbj hlook ?_;(all_goals refine fv ?_;repeat' first|exact .intro|refine Tw.mk ?_ ?_|(intro h;first|replace h:=h.o|cases h))
   (all_goals (try ((first|refine StopCall.by0 (hcp) ?_|refine StopPure.by0 (hcp) ?_);(all_goals refine gv ?_;repeat' first|exact .intro|refine Tw.mk ?_ ?_|(intro h;first|replace h:=h.o|cases h)))))
   (all_goals refine fv ?_;repeat' first|exact .intro|refine Tw.mk ?_ ?_|(intro h;first|replace h:=h.o|cases h))
   ((try (conv=>whnf));refine StopRet.by [0,1,2,3] ?_;repeat' first|exact .intro|refine Tw.mk ?_ ?_)
   all_goals rfl
 .cases hk:kn n with
  |none=>
   have hlook:knM kn (.int .i64 n)=none:=by simp [knM,hk]
   have hcp:=zbJ 0 0 [] (by decide);refine foA zaA [] [] Tryz.func90 Tryz.ntmps90 Tryz.results90 ?_;(all_goals refine fv ?_;repeat' first|exact .intro|refine Tw.mk ?_ ?_|(intro h;first|replace h:=h.o|cases h))
   refine zdC hlook ?_;(all_goals refine fv ?_;repeat' first|exact .intro|refine Tw.mk ?_ ?_|(intro h;first|replace h:=h.o|cases h))
   (refine⟨_,_,_,_,[],hcp,rfl,rfl,rfl,?_,?_,?_⟩)
   .exact Y3
   .exact Y3
   (all_goals refine fv ?_;repeat' first|exact .intro|refine Tw.mk ?_ ?_|(intro h;first|replace h:=h.o|cases h))
   ((try (conv=>whnf));refine StopRet.by [0,1,2,3,4] ?_;repeat' first|exact .intro|refine Tw.mk ?_ ?_)
   all_goals rfl
  |some t=>
   obtain⟨q,g,l⟩:=t;have hlook:knM kn (.int .i64 n)=some [.v (.int .i64 q),.v (.int .i64 g),.sl 2 (l.map opRow) none]:=by simp [knM,hk,zaF]
   have hl:l.length<=1000000:=by have:=(zaN (show zaL q g l=0 from (hkn n _ hk).2)).2.2.2.2.1;omega
   have hcp:=zbJ q g (l.map opRow) (by simpa using hl);refine foA zaA [] [] Tryz.func90 Tryz.ntmps90 Tryz.results90 ?_;(all_goals refine fv ?_;repeat' first|exact .intro|refine Tw.mk ?_ ?_|(intro h;first|replace h:=h.o|cases h))
   refine zbj hlook ?_;(all_goals refine fv ?_;repeat' first|exact .intro|refine Tw.mk ?_ ?_|(intro h;first|replace h:=h.o|cases h))
   (all_goals (try ((first|refine StopCall.by0 (hcp) ?_|refine StopPure.by0 (hcp) ?_);(all_goals refine gv ?_;repeat' first|exact .intro|refine Tw.mk ?_ ?_|(intro h;first|replace h:=h.o|cases h)))))
   (all_goals refine fv ?_;repeat' first|exact .intro|refine Tw.mk ?_ ?_|(intro h;first|replace h:=h.o|cases h))
   ((try (conv=>whnf));refine StopRet.by [0,1,2,3,4] ?_;repeat' first|exact .intro|refine Tw.mk ?_ ?_)
   all_goals rfl
 .cases hk:kn n with
  |none=>
   have hlook:knM kn (.int .i64 n)=none:=by simp [knM,hk]
   have hcp:=zbJ 0 0 [] (by decide);refine foA zaA [] [] Tryz.func90 Tryz.ntmps90 Tryz.results90 ?_;(all_goals refine fv ?_;repeat' first|exact .intro|refine Tw.mk ?_ ?_|(intro h;first|replace h:=h.o|cases h))
   refine zdC hlook ?_;(all_goals refine fv ?_;repeat' first|exact .intro|refine Tw.mk ?_ ?_|(intro h;first|replace h:=h.o|cases h))
   (refine⟨_,_,_,_,[],hcp,rfl,rfl,rfl,?_,?_,?_⟩)
   .exact Y3
   .exact Y3
   (all_goals refine fv ?_;repeat' first|exact .intro|refine Tw.mk ?_ ?_|(intro h;first|replace h:=h.o|cases h))
   ((try (conv=>whnf));refine StopRet.by [0,1,2,3,4,5] ?_;repeat' first|exact .intro|refine Tw.mk ?_ ?_)
   all_goals rfl
  |some t=>
   obtain⟨q,g,l⟩:=t;have hlook:knM kn (.int .i64 n)=some [.v (.int .i64 q),.v (.int .i64 g),.sl 2 (l.map opRow) none]:=by simp [knM,hk,zaF]
   have hl:l.length<=1000000:=by have:=(zaN (show zaL q g l=0 from (hkn n _ hk).2)).2.2.2.2.1;omega
   have hcp:=zbJ q g (l.map opRow) (by simpa using hl);refine foA zaA [] [] Tryz.func90 Tryz.ntmps90 Tryz.results90 ?_;(all_goals refine fv ?_;repeat' first|exact .intro|refine Tw.mk ?_ ?_|(intro h;first|replace h:=h.o|cases h))
   refine zbj hlook ?_;(all_goals refine fv ?_;repeat' first|exact .intro|refine Tw.mk ?_ ?_|(intro h;first|replace h:=h.o|cases h))
   (all_goals (try ((first|refine StopCall.by0 (hcp) ?_|refine StopPure.by0 (hcp) ?_);(all_goals refine gv ?_;repeat' first|exact .intro|refine Tw.mk ?_ ?_|(intro h;first|replace h:=h.o|cases h)))))
   (all_goals refine fv ?_;repeat' first|exact .intro|refine Tw.mk ?_ ?_|(intro h;first|replace h:=h.o|cases h))
   ((try (conv=>whnf));refine StopRet.by [0,1,2,3,4,5] ?_;repeat' first|exact .intro|refine Tw.mk ?_ ?_)
   all_goals rfl
theorem zkz(kn:Int->Option St3)(a:Int->Bool)(hkn: ∀n s,kn n=some s->s.1=n/\sf s=0):Fn Tryz.prog 35 [.box 0 0] (baL kn [a]) (.sl 3 ((stsB ⟨kn,[a]⟩).map zaF) none) (baL kn [a]):=by
 have hS:stsB ⟨kn,[a]⟩=stsK kn 6:=(zfN kn).symm;rw[hS];refine foA zaA [] [] Tryz.func35 Tryz.ntmps35 Tryz.results35 ?_;(all_goals refine fv ?_;repeat' first|exact .intro|refine Tw.mk ?_ ?_|(intro h;first|replace h:=h.o|cases h))
 refine lpG (λk:Nat=>⟨[(0,.box 0 0),(3,.sl 3 ((stsK kn k).map zaF) (some (4,1))),(4,.v (.int .i64 ((k:Int)+1)))],baL kn [a]++[.grow 42 3 1]⟩) (λk=>k<=6) (λk=>6-k) 0 (by omega) (AS.le_trans (zeb 3 42 3 rfl) (by (refine zaC [0,1,2,3,4] ?_;repeat' first|exact .intro|refine Tw.mk ?_ ?_))) ?_;intro k hk;have hlen:=zcn kn k;by_cases hk6:k<6
 .exact Y12
 .have ek:k=6:=by omega
  subst ek;exact Y73
theorem zk7(kn:Int->Option St3)(a:Int->Bool)(b:Int->Bool)(hkn: ∀n s,kn n=some s->s.1=n/\sf s=0):Fn Tryz.prog 35 [.box 0 0] (baL kn [a,b]) (.sl 3 ((stsB ⟨kn,[a,b]⟩).map zaF) none) (baL kn [a,b]):=by
 have hS:stsB ⟨kn,[a,b]⟩=stsK kn 6:=(zfN kn).symm;rw[hS];refine foA zaA [] [] Tryz.func35 Tryz.ntmps35 Tryz.results35 ?_;(all_goals refine fv ?_;repeat' first|exact .intro|refine Tw.mk ?_ ?_|(intro h;first|replace h:=h.o|cases h))
 refine lpG (λk:Nat=>⟨[(0,.box 0 0),(3,.sl 3 ((stsK kn k).map zaF) (some (5,1))),(4,.v (.int .i64 ((k:Int)+1)))],baL kn [a,b]++[.grow 42 3 1]⟩) (λk=>k<=6) (λk=>6-k) 0 (by omega) (AS.le_trans (zeb 3 42 3 rfl) (by (refine zaC [0,1,2,3,4,5] ?_;repeat' first|exact .intro|refine Tw.mk ?_ ?_))) ?_;intro k hk;have hlen:=zcn kn k;by_cases hk6:k<6
 .exact Y11
 .have ek:k=6:=by omega
  subst ek;exact Y42
theorem zkd(kn:Int->Option St3)(a:Int->Bool)(b:Int->Bool)(c:Int->Bool)(hkn: ∀n s,kn n=some s->s.1=n/\sf s=0):Fn Tryz.prog 35 [.box 0 0] (baL kn [a,b,c]) (.sl 3 ((stsB ⟨kn,[a,b,c]⟩).map zaF) none) (baL kn [a,b,c]):=by
 have hS:stsB ⟨kn,[a,b,c]⟩=stsK kn 6:=(zfN kn).symm;rw[hS];refine foA zaA [] [] Tryz.func35 Tryz.ntmps35 Tryz.results35 ?_;(all_goals refine fv ?_;repeat' first|exact .intro|refine Tw.mk ?_ ?_|(intro h;first|replace h:=h.o|cases h))
 refine lpG (λk:Nat=>⟨[(0,.box 0 0),(3,.sl 3 ((stsK kn k).map zaF) (some (6,1))),(4,.v (.int .i64 ((k:Int)+1)))],baL kn [a,b,c]++[.grow 42 3 1]⟩) (λk=>k<=6) (λk=>6-k) 0 (by omega) (AS.le_trans (zeb 3 42 3 rfl) (by (refine zaC [0,1,2,3,4,5,6] ?_;repeat' first|exact .intro|refine Tw.mk ?_ ?_))) ?_;intro k hk;have hlen:=zcn kn k;by_cases hk6:k<6
 .exact Y10
 .have ek:k=6:=by omega
  subst ek;exact Y41
theorem zj9(kn:Int->Option St3)(a:Int->Bool)(hkn: ∀n s,kn n=some s->s.1=n/\sf s=0):Fn Tryz.prog 35 [.box 0 0] (baL kn [a]) (.arr 4 0 (stsB ⟨kn,[a]⟩).length) (baL kn [a]++[.arr true 42 3 0 ((stsB ⟨kn,[a]⟩).map zaF)]):=by
 have hS:stsB ⟨kn,[a]⟩=stsK kn 6:=(zfN kn).symm;rw[hS];refine foA zaA [(54,true)] [] Tryz.func35 Tryz.ntmps35 Tryz.results35 ?_;(all_goals refine fv ?_;repeat' first|exact .intro|refine Tw.mk ?_ ?_|(intro h;first|replace h:=h.o|cases h))
 refine lpG (λk:Nat=>⟨[(0,.box 0 0),(3,.arr 4 1 (stsK kn k).length),(4,.v (.int .i64 ((k:Int)+1)))],baL kn [a]++[.arr true 42 3 1 ((stsK kn k).map zaF)]⟩) (λk=>k<=6) (λk=>6-k) 0 (by omega) (AS.le_trans (zkW 3 true 42 3 rfl) (by (refine zaC [0,1,2,3,4] ?_;repeat' first|exact .intro|refine Tw.mk ?_ ?_))) ?_;intro k hk;have hlen:=zcn kn k;by_cases hk6:k<6
 .exact Y12
 .have ek:k=6:=by omega
  subst ek;exact Y42
theorem zjJ(kn:Int->Option St3)(a:Int->Bool)(b:Int->Bool)(hkn: ∀n s,kn n=some s->s.1=n/\sf s=0):Fn Tryz.prog 35 [.box 0 0] (baL kn [a,b]) (.arr 5 0 (stsB ⟨kn,[a,b]⟩).length) (baL kn [a,b]++[.arr true 42 3 0 ((stsB ⟨kn,[a,b]⟩).map zaF)]):=by
 have hS:stsB ⟨kn,[a,b]⟩=stsK kn 6:=(zfN kn).symm;rw[hS];refine foA zaA [(54,true)] [] Tryz.func35 Tryz.ntmps35 Tryz.results35 ?_;(all_goals refine fv ?_;repeat' first|exact .intro|refine Tw.mk ?_ ?_|(intro h;first|replace h:=h.o|cases h))
 refine lpG (λk:Nat=>⟨[(0,.box 0 0),(3,.arr 5 1 (stsK kn k).length),(4,.v (.int .i64 ((k:Int)+1)))],baL kn [a,b]++[.arr true 42 3 1 ((stsK kn k).map zaF)]⟩) (λk=>k<=6) (λk=>6-k) 0 (by omega) (AS.le_trans (zkW 3 true 42 3 rfl) (by (refine zaC [0,1,2,3,4,5] ?_;repeat' first|exact .intro|refine Tw.mk ?_ ?_))) ?_;intro k hk;have hlen:=zcn kn k;by_cases hk6:k<6
 .exact Y11
 .have ek:k=6:=by omega
  subst ek;exact Y41
theorem zjD(kn:Int->Option St3)(a:Int->Bool)(b:Int->Bool)(c:Int->Bool)(hkn: ∀n s,kn n=some s->s.1=n/\sf s=0):Fn Tryz.prog 35 [.box 0 0] (baL kn [a,b,c]) (.arr 6 0 (stsB ⟨kn,[a,b,c]⟩).length) (baL kn [a,b,c]++[.arr true 42 3 0 ((stsB ⟨kn,[a,b,c]⟩).map zaF)]):=by
 have hS:stsB ⟨kn,[a,b,c]⟩=stsK kn 6:=(zfN kn).symm;rw[hS];refine foA zaA [(54,true)] [] Tryz.func35 Tryz.ntmps35 Tryz.results35 ?_;(all_goals refine fv ?_;repeat' first|exact .intro|refine Tw.mk ?_ ?_|(intro h;first|replace h:=h.o|cases h))
 refine lpG (λk:Nat=>⟨[(0,.box 0 0),(3,.arr 6 1 (stsK kn k).length),(4,.v (.int .i64 ((k:Int)+1)))],baL kn [a,b,c]++[.arr true 42 3 1 ((stsK kn k).map zaF)]⟩) (λk=>k<=6) (λk=>6-k) 0 (by omega) (AS.le_trans (zkW 3 true 42 3 rfl) (by (refine zaC [0,1,2,3,4,5,6] ?_;repeat' first|exact .intro|refine Tw.mk ?_ ?_))) ?_;intro k hk;have hlen:=zcn kn k;by_cases hk6:k<6
 .exact Y10
 .have ek:k=6:=by omega
  subst ek;(all_goals refine fv ?_;repeat' first|exact .intro|refine Tw.mk ?_ ?_|(intro h;first|replace h:=h.o|cases h))
  ((try (conv=>whnf));refine StopRet.by [0,1,2,3,4,5,6] ?_;repeat' first|exact .intro|refine Tw.mk ?_ ?_)
  all_goals (try rfl)
theorem fmeet_ok(kn:Int->Option St3)(ow:List (Int->Bool))(h1:1<=ow.length)(h3:ow.length<=3)(hkn: ∀n s,kn n=some s->s.1=n/\sf s=0)(p:Int):Fn Tryz.prog 72 [.box 0 0,.v (.int .i64 p)] (baL kn ow) (.err (metE ⟨kn,ow⟩ p)) (baM (metB ⟨kn,ow⟩ p)):=by
 refine np3 (p:=λow=>Fn Tryz.prog 72 [.box 0 0,.v (.int .i64 p)] (baL kn ow) (.err (metE ⟨kn,ow⟩ p)) (baM (metB ⟨kn,ow⟩ p))) h1 h3 (λa=>?_) (λa b=>?_) (λa b c=>?_)
 .by_cases hp:0<=p/\p<1
  .have hin:inP ⟨kn,[a]⟩ p=true:=by simp [inP];omega
   have hE:metE ⟨kn,[a]⟩ p=0:=if_pos hin;have hV:metB ⟨kn,[a]⟩ p=⟨kn,modW [a] p λo n=>o n||(kn n).isSome⟩:=if_pos hin;rw[hE,hV];clear hE hV hin;refine or3 (by omega:p=0\/p=1\/p=2) (λe=>?_) (λe=>?_) (λe=>?_);all_goals (subst e)
   all_goals (try (exfalso;omega))
   all_goals
    refine foA zaA [] [] Tryz.func72 Tryz.ntmps72 Tryz.results72 ?_;(all_goals refine fv ?_;repeat' first|exact .intro|refine Tw.mk ?_ ?_|(intro h;first|replace h:=h.o|cases h))
    refine lpG (λseen:Int->Bool=>⟨[(0,.box 0 0),(1,.v (.int .i64 0)),(22,.box 4 0)],[.cells [.map 1,.arr 2 0 1],.miter 4 (some .i64) true (knM kn) (zfn seen) none,.arr false 140 1 0 [[.map 3]],omR (orW a seen),.alias 1]⟩) (λseen=> ∀n,seen n=true->(kn n).isSome=true) (λseen=>zi3 kn seen) (λ_=>false) (λn h=>by cases h) (by (refine zaC [0,1,2,3,4] ?_;repeat' first|exact .intro|refine Tw.mk ?_ ?_);all_goals (all_goals (first|rfl|(exact⟨rfl,rfl,rfl,zai,.inl rfl⟩)|(exact⟨rfl,rfl,congrArg owM zbT⟩)|(exact congrArg owM zbT)|(exact zai)|skip))) ?_;intro seen hsn;(all_goals refine fv ?_;repeat' first|exact .intro|refine Tw.mk ?_ ?_|(intro h;first|replace h:=h.o|cases h))
    refine zhe (λm s hm hs=>?_) (λhall=>?_)
    .have hr:=(hkn m s hm);have hrg:=zaN (show zaL s.1 s.2.1 s.2.2=0 from hr.2);have hlt:=ziG (kn:=kn) (seen:=seen) (n:=m) (by omega) (by omega) (by rw[hm];rfl) hs;(all_goals refine fv ?_;repeat' first|exact .intro|refine Tw.mk ?_ ?_|(intro h;first|replace h:=h.o|cases h))
     refine zaU (upI seen m true) (λj hj=>?_) hlt (by (refine zaC [0,1,2,3,4] ?_;repeat' first|exact .intro|refine Tw.mk ?_ ?_);all_goals (all_goals (first|rfl|(exact⟨rfl,rfl,rfl,zc6,.inl rfl⟩)|(exact⟨rfl,rfl,(zaw.trans (congrArg owM zfU))⟩)|(exact zaw.trans (congrArg owM zfU))|(exact zc6)|skip)));unfold upI at hj;split at hj
     .rename_i e;rw[e,hm];rfl
     .exact hsn j hj
    ·(all_goals refine fv ?_;repeat' first|exact .intro|refine Tw.mk ?_ ?_|(intro h;first|replace h:=h.o|cases h))
     ((try (conv=>whnf));refine StopRet.by [0,1,2,3] ?_;repeat' first|exact .intro|refine Tw.mk ?_ ?_)
     all_goals exact Y37
  .have hin:inP ⟨kn,[a]⟩ p=false:=by simp [inP];omega
   have hE:metE ⟨kn,[a]⟩ p=1:=by unfold metE;rw[hin];rfl
   have hV:metB ⟨kn,[a]⟩ p=⟨kn,[a]⟩:=if_neg (λh=>by rw[hin] at h;exact absurd h (by decide));rw[hE,hV];refine foA zaA [] [] Tryz.func72 Tryz.ntmps72 Tryz.results72 ?_;(all_goals refine fv ?_;repeat' first|exact .intro|refine Tw.mk ?_ ?_|(intro h;first|replace h:=h.o|cases h))
   all_goals exact Y17
 .by_cases hp:0<=p/\p<2
  .have hin:inP ⟨kn,[a,b]⟩ p=true:=by simp [inP];omega
   have hE:metE ⟨kn,[a,b]⟩ p=0:=if_pos hin;have hV:metB ⟨kn,[a,b]⟩ p=⟨kn,modW [a,b] p λo n=>o n||(kn n).isSome⟩:=if_pos hin;rw[hE,hV];clear hE hV hin;refine or3 (by omega:p=0\/p=1\/p=2) (λe=>?_) (λe=>?_) (λe=>?_);all_goals (subst e)
   all_goals (try (exfalso;omega))
   .refine foA zaA [] [] Tryz.func72 Tryz.ntmps72 Tryz.results72 ?_;(all_goals refine fv ?_;repeat' first|exact .intro|refine Tw.mk ?_ ?_|(intro h;first|replace h:=h.o|cases h))
    refine lpG (λseen:Int->Bool=>⟨[(0,.box 0 0),(1,.v (.int .i64 0)),(22,.box 5 0)],[.cells [.map 1,.arr 2 0 2],.miter 5 (some .i64) true (knM kn) (zfn seen) none,.arr false 140 1 0 [[.map 3],[.map 4]],omR (orW a seen),omR b,.alias 1]⟩) (λseen=> ∀n,seen n=true->(kn n).isSome=true) (λseen=>zi3 kn seen) (λ_=>false) (λn h=>by cases h) (by (refine zaC [0,1,2,3,4,5] ?_;repeat' first|exact .intro|refine Tw.mk ?_ ?_);all_goals (all_goals (first|rfl|(exact⟨rfl,rfl,rfl,zai,.inl rfl⟩)|(exact⟨rfl,rfl,congrArg owM zbT⟩)|(exact congrArg owM zbT)|(exact zai)|skip))) ?_;intro seen hsn;(all_goals refine fv ?_;repeat' first|exact .intro|refine Tw.mk ?_ ?_|(intro h;first|replace h:=h.o|cases h))
    refine zhe (λm s hm hs=>?_) (λhall=>?_)
    .exact Y31
    ·(all_goals refine fv ?_;repeat' first|exact .intro|refine Tw.mk ?_ ?_|(intro h;first|replace h:=h.o|cases h))
     ((try (conv=>whnf));refine StopRet.by [0,1,2,3,4] ?_;repeat' first|exact .intro|refine Tw.mk ?_ ?_)
     all_goals exact Y37
   .refine foA zaA [] [] Tryz.func72 Tryz.ntmps72 Tryz.results72 ?_;(all_goals refine fv ?_;repeat' first|exact .intro|refine Tw.mk ?_ ?_|(intro h;first|replace h:=h.o|cases h))
    refine lpG (λseen:Int->Bool=>⟨[(0,.box 0 0),(1,.v (.int .i64 1)),(22,.box 5 0)],[.cells [.map 1,.arr 2 0 2],.miter 5 (some .i64) true (knM kn) (zfn seen) none,.arr false 140 1 0 [[.map 3],[.map 4]],omR a,omR (orW b seen),.alias 1]⟩) (λseen=> ∀n,seen n=true->(kn n).isSome=true) (λseen=>zi3 kn seen) (λ_=>false) (λn h=>by cases h) (by (refine zaC [0,1,2,3,4,5] ?_;repeat' first|exact .intro|refine Tw.mk ?_ ?_);all_goals (all_goals (first|rfl|(exact⟨rfl,rfl,rfl,zai,.inl rfl⟩)|(exact⟨rfl,rfl,congrArg owM zbT⟩)|(exact congrArg owM zbT)|(exact zai)|skip))) ?_;intro seen hsn;(all_goals refine fv ?_;repeat' first|exact .intro|refine Tw.mk ?_ ?_|(intro h;first|replace h:=h.o|cases h))
    refine zhe (λm s hm hs=>?_) (λhall=>?_)
    .exact Y31
    ·(all_goals refine fv ?_;repeat' first|exact .intro|refine Tw.mk ?_ ?_|(intro h;first|replace h:=h.o|cases h))
     ((try (conv=>whnf));refine StopRet.by [0,1,2,3,4] ?_;repeat' first|exact .intro|refine Tw.mk ?_ ?_)
     all_goals exact Y37
  .have hin:inP ⟨kn,[a,b]⟩ p=false:=by simp [inP];omega
   have hE:metE ⟨kn,[a,b]⟩ p=1:=by unfold metE;rw[hin];rfl
   have hV:metB ⟨kn,[a,b]⟩ p=⟨kn,[a,b]⟩:=if_neg (λh=>by rw[hin] at h;exact absurd h (by decide));rw[hE,hV];refine foA zaA [] [] Tryz.func72 Tryz.ntmps72 Tryz.results72 ?_;(all_goals refine fv ?_;repeat' first|exact .intro|refine Tw.mk ?_ ?_|(intro h;first|replace h:=h.o|cases h))
   all_goals exact Y32
 .by_cases hp:0<=p/\p<3
  .have hin:inP ⟨kn,[a,b,c]⟩ p=true:=by simp [inP];omega
   have hE:metE ⟨kn,[a,b,c]⟩ p=0:=if_pos hin;have hV:metB ⟨kn,[a,b,c]⟩ p=⟨kn,modW [a,b,c] p λo n=>o n||(kn n).isSome⟩:=if_pos hin;rw[hE,hV];clear hE hV hin;refine or3 (by omega:p=0\/p=1\/p=2) (λe=>?_) (λe=>?_) (λe=>?_);all_goals (subst e)
   all_goals (try (exfalso;omega))
   .refine foA zaA [] [] Tryz.func72 Tryz.ntmps72 Tryz.results72 ?_;(all_goals refine fv ?_;repeat' first|exact .intro|refine Tw.mk ?_ ?_|(intro h;first|replace h:=h.o|cases h))
    refine lpG (λseen:Int->Bool=>⟨[(0,.box 0 0),(1,.v (.int .i64 0)),(22,.box 6 0)],[.cells [.map 1,.arr 2 0 3],.miter 6 (some .i64) true (knM kn) (zfn seen) none,.arr false 140 1 0 [[.map 3],[.map 4],[.map 5]],omR (orW a seen),omR b,omR c,.alias 1]⟩) (λseen=> ∀n,seen n=true->(kn n).isSome=true) (λseen=>zi3 kn seen) (λ_=>false) (λn h=>by cases h) (by (refine zaC [0,1,2,3,4,5,6] ?_;repeat' first|exact .intro|refine Tw.mk ?_ ?_);all_goals (all_goals (first|rfl|(exact⟨rfl,rfl,rfl,zai,.inl rfl⟩)|(exact⟨rfl,rfl,congrArg owM zbT⟩)|(exact congrArg owM zbT)|(exact zai)|skip))) ?_;intro seen hsn;(all_goals refine fv ?_;repeat' first|exact .intro|refine Tw.mk ?_ ?_|(intro h;first|replace h:=h.o|cases h))
    refine zhe (λm s hm hs=>?_) (λhall=>?_)
    .exact Y14
    .exact Y33
   .refine foA zaA [] [] Tryz.func72 Tryz.ntmps72 Tryz.results72 ?_;(all_goals refine fv ?_;repeat' first|exact .intro|refine Tw.mk ?_ ?_|(intro h;first|replace h:=h.o|cases h))
    refine lpG (λseen:Int->Bool=>⟨[(0,.box 0 0),(1,.v (.int .i64 1)),(22,.box 6 0)],[.cells [.map 1,.arr 2 0 3],.miter 6 (some .i64) true (knM kn) (zfn seen) none,.arr false 140 1 0 [[.map 3],[.map 4],[.map 5]],omR a,omR (orW b seen),omR c,.alias 1]⟩) (λseen=> ∀n,seen n=true->(kn n).isSome=true) (λseen=>zi3 kn seen) (λ_=>false) (λn h=>by cases h) (by (refine zaC [0,1,2,3,4,5,6] ?_;repeat' first|exact .intro|refine Tw.mk ?_ ?_);all_goals (all_goals (first|rfl|(exact⟨rfl,rfl,rfl,zai,.inl rfl⟩)|(exact⟨rfl,rfl,congrArg owM zbT⟩)|(exact congrArg owM zbT)|(exact zai)|skip))) ?_;intro seen hsn;(all_goals refine fv ?_;repeat' first|exact .intro|refine Tw.mk ?_ ?_|(intro h;first|replace h:=h.o|cases h))
    refine zhe (λm s hm hs=>?_) (λhall=>?_)
    .exact Y14
    .exact Y33
   .refine foA zaA [] [] Tryz.func72 Tryz.ntmps72 Tryz.results72 ?_;(all_goals refine fv ?_;repeat' first|exact .intro|refine Tw.mk ?_ ?_|(intro h;first|replace h:=h.o|cases h))
    refine lpG (λseen:Int->Bool=>⟨[(0,.box 0 0),(1,.v (.int .i64 2)),(22,.box 6 0)],[.cells [.map 1,.arr 2 0 3],.miter 6 (some .i64) true (knM kn) (zfn seen) none,.arr false 140 1 0 [[.map 3],[.map 4],[.map 5]],omR a,omR b,omR (orW c seen),.alias 1]⟩) (λseen=> ∀n,seen n=true->(kn n).isSome=true) (λseen=>zi3 kn seen) (λ_=>false) (λn h=>by cases h) (by (refine zaC [0,1,2,3,4,5,6] ?_;repeat' first|exact .intro|refine Tw.mk ?_ ?_);all_goals (all_goals (first|rfl|(exact⟨rfl,rfl,rfl,zai,.inl rfl⟩)|(exact⟨rfl,rfl,congrArg owM zbT⟩)|(exact congrArg owM zbT)|(exact zai)|skip))) ?_;intro seen hsn;(all_goals refine fv ?_;repeat' first|exact .intro|refine Tw.mk ?_ ?_|(intro h;first|replace h:=h.o|cases h))
    refine zhe (λm s hm hs=>?_) (λhall=>?_)
    .exact Y14
    .exact Y33
  .have hin:inP ⟨kn,[a,b,c]⟩ p=false:=by simp [inP];omega
   have hE:metE ⟨kn,[a,b,c]⟩ p=1:=by unfold metE;rw[hin];rfl
   have hV:metB ⟨kn,[a,b,c]⟩ p=⟨kn,[a,b,c]⟩:=if_neg (λh=>by rw[hin] at h;exact absurd h (by decide));rw[hE,hV];refine foA zaA [] [] Tryz.func72 Tryz.ntmps72 Tryz.results72 ?_;(all_goals refine fv ?_;repeat' first|exact .intro|refine Tw.mk ?_ ?_|(intro h;first|replace h:=h.o|cases h))
   all_goals exact Y27
theorem ftake_ok(kn:Int->Option St3)(ow:List (Int->Bool))(h1:1<=ow.length)(h3:ow.length<=3)(hkn: ∀n s,kn n=some s->s.1=n/\sf s=0)(p:Int)(s:St3):Fn Tryz.prog 105 [.box 0 0,.v (.int .i64 p),.agg (zaF s)] (baL kn ow) (.tup [.v (.int .i64 (zcv ⟨kn,ow⟩ p s)),.err (zay ⟨kn,ow⟩ p s)]) (baM (zbd ⟨kn,ow⟩ p s)):=by
 obtain⟨q,g,l⟩:=s;have hck:=zdX q g l;have hsf:sf (q,g,l)=zaL q g l:=rfl;have hnn:=zcp q g l;have hll:zaL q g l=0->l.length<=1000000:=λh=>by have:=(zaN h).2.2.2.2.1;omega
 refine np3 (p:=λow=>Fn Tryz.prog 105 [.box 0 0,.v (.int .i64 p),.agg (zaF (q,g,l))] (baL kn ow) (.tup [.v (.int .i64 (zcv ⟨kn,ow⟩ p (q,g,l))),.err (zay ⟨kn,ow⟩ p (q,g,l))]) (baM (zbd ⟨kn,ow⟩ p (q,g,l)))) h1 h3 (λa=>?_) (λa b=>?_) (λa b c=>?_)
 .by_cases hp:0<=p/\p<1
  .have hin:inP ⟨kn,[a]⟩ p=true:=by simp [inP];omega
   by_cases h0:zaL q g l=0
   .have hE:zay ⟨kn,[a]⟩ p (q,g,l)=0:=(if_pos hin).trans h0;have hT:zcv ⟨kn,[a]⟩ p (q,g,l)=takK ⟨kn,[a]⟩ (q,g,l):=if_pos ⟨hin,h0⟩;have hV:zbd ⟨kn,[a]⟩ p (q,g,l)=if takK ⟨kn,[a]⟩ (q,g,l)=1 then ⟨upI kn q (some (q,g,l)),modW (allW [a] 0 q p) p λo=>upI o q false⟩ else if takK ⟨kn,[a]⟩ (q,g,l)=0 then ⟨kn,modW [a] p λo=>upI o q false⟩ else ⟨kn,modW [a] p λo=>upI o q true⟩:=if_pos ⟨hin,h0⟩
    rw[hE,hT,hV];clear hE hT hV;rw[h0] at hck;have hl:=hll h0;have hcp:=zbJ q g (l.map opRow) (by simpa using hl);have hal:=zhj (upI kn q (some (q,g,l))) [a] (by simp) (by simp) q p;cases hk:kn q with
    |none=>
     have hK:takK ⟨kn,[a]⟩ (q,g,l)=1:=by unfold takK;dsimp only;rw[hk]
     rw[hK,if_pos rfl];clear hK;have hlook:knM kn (.int .i64 q)=none:=by simp [knM,hk]
     refine or3 (by omega:p=0\/p=1\/p=2) (λe=>?_) (λe=>?_) (λe=>?_);all_goals (subst e)
     all_goals (try (exfalso;omega))
     all_goals
      unfold zaF;refine foA zaA [] [] Tryz.func105 Tryz.ntmps105 Tryz.results105 ?_;(all_goals refine fv ?_;repeat' first|exact .intro|refine Tw.mk ?_ ?_|(intro h;first|replace h:=h.o|cases h))
      (all_goals (try ((first|refine StopCall.by0 (hck) ?_|refine StopPure.by0 (hck) ?_);(all_goals refine gv ?_;repeat' first|exact .intro|refine Tw.mk ?_ ?_|(intro h;first|replace h:=h.o|cases h)))))
      (all_goals refine fv ?_;repeat' first|exact .intro|refine Tw.mk ?_ ?_|(intro h;first|replace h:=h.o|cases h))
      refine zdC hlook ?_;(all_goals refine fv ?_;repeat' first|exact .intro|refine Tw.mk ?_ ?_|(intro h;first|replace h:=h.o|cases h))
      (all_goals (try ((first|refine StopCall.by0 (hcp) ?_|refine StopPure.by0 (hcp) ?_);(all_goals refine gv ?_;repeat' first|exact .intro|refine Tw.mk ?_ ?_|(intro h;first|replace h:=h.o|cases h)))))
      (all_goals refine fv ?_;repeat' first|exact .intro|refine Tw.mk ?_ ?_|(intro h;first|replace h:=h.o|cases h))
      (refine⟨_,_,_,_,[0,1,2,3],hal,rfl,rfl,rfl,?_,?_,?_⟩)
      .exact Y23
      .exact Y3
      (all_goals refine fv ?_;repeat' first|exact .intro|refine Tw.mk ?_ ?_|(intro h;first|replace h:=h.o|cases h))
      ((try (conv=>whnf));refine StopRet.by [0,1,2,3] ?_;repeat' first|exact .intro|refine Tw.mk ?_ ?_)
      all_goals (first|rfl|(exact zau))
    |some t=>
     obtain⟨q2,g2,l2⟩:=t;obtain⟨e2,ht⟩:=hkn q _ hk;have hl2:l2.length<=1000000:=by have:=(zaN (show zaL q2 g2 l2=0 from ht)).2.2.2.2.1;omega
     have hw:=zbA q g q2 g2 l l2 hl hl2;have hK:takK ⟨kn,[a]⟩ (q,g,l)=orL [cmpI g g2,cmpE l l2]:=by unfold takK;dsimp only;rw[hk];rfl
     have hlook:knM kn (.int .i64 q)=some [.v (.int .i64 q2),.v (.int .i64 g2),.sl 2 (l2.map opRow) none]:=by simp [knM,hk,zaF]
     have hrg:orL [cmpI g g2,cmpE l l2]=1\/orL [cmpI g g2,cmpE l l2]=0\/orL [cmpI g g2,cmpE l l2]= -1:=by
      exact Y78
     rw[hK];clear hK;generalize orL [cmpI g g2,cmpE l l2]=v at *
     refine or3 hrg (λe=>?_) (λe=>?_) (λe=>?_);all_goals (subst e)
     .rw[if_pos rfl];refine or3 (by omega:p=0\/p=1\/p=2) (λe=>?_) (λe=>?_) (λe=>?_);all_goals (subst e)
      all_goals (try (exfalso;omega))
      all_goals
       unfold zaF;refine foA zaA [] [] Tryz.func105 Tryz.ntmps105 Tryz.results105 ?_;(all_goals refine fv ?_;repeat' first|exact .intro|refine Tw.mk ?_ ?_|(intro h;first|replace h:=h.o|cases h))
       (all_goals (try ((first|refine StopCall.by0 (hck) ?_|refine StopPure.by0 (hck) ?_);(all_goals refine gv ?_;repeat' first|exact .intro|refine Tw.mk ?_ ?_|(intro h;first|replace h:=h.o|cases h)))))
       (all_goals refine fv ?_;repeat' first|exact .intro|refine Tw.mk ?_ ?_|(intro h;first|replace h:=h.o|cases h))
       refine zbj hlook ?_;(all_goals refine fv ?_;repeat' first|exact .intro|refine Tw.mk ?_ ?_|(intro h;first|replace h:=h.o|cases h))
       (all_goals (try ((first|refine StopCall.by0 (hw) ?_|refine StopPure.by0 (hw) ?_);(all_goals refine gv ?_;repeat' first|exact .intro|refine Tw.mk ?_ ?_|(intro h;first|replace h:=h.o|cases h)))))
       (all_goals refine fv ?_;repeat' first|exact .intro|refine Tw.mk ?_ ?_|(intro h;first|replace h:=h.o|cases h))
       (all_goals (try ((first|refine StopCall.by0 (hcp) ?_|refine StopPure.by0 (hcp) ?_);(all_goals refine gv ?_;repeat' first|exact .intro|refine Tw.mk ?_ ?_|(intro h;first|replace h:=h.o|cases h)))))
       (all_goals refine fv ?_;repeat' first|exact .intro|refine Tw.mk ?_ ?_|(intro h;first|replace h:=h.o|cases h))
       (refine⟨_,_,_,_,[0,1,2,3],hal,rfl,rfl,rfl,?_,?_,?_⟩)
       .exact Y23
       .exact Y3
       (all_goals refine fv ?_;repeat' first|exact .intro|refine Tw.mk ?_ ?_|(intro h;first|replace h:=h.o|cases h))
       ((try (conv=>whnf));refine StopRet.by [0,1,2,3] ?_;repeat' first|exact .intro|refine Tw.mk ?_ ?_)
       all_goals (first|rfl|(exact zau))
     .rw[if_neg (by decide),if_pos rfl];refine or3 (by omega:p=0\/p=1\/p=2) (λe=>?_) (λe=>?_) (λe=>?_);all_goals (subst e)
      all_goals (try (exfalso;omega))
      all_goals
       unfold zaF;refine foA zaA [] [] Tryz.func105 Tryz.ntmps105 Tryz.results105 ?_;(all_goals refine fv ?_;repeat' first|exact .intro|refine Tw.mk ?_ ?_|(intro h;first|replace h:=h.o|cases h))
       (all_goals (try ((first|refine StopCall.by0 (hck) ?_|refine StopPure.by0 (hck) ?_);(all_goals refine gv ?_;repeat' first|exact .intro|refine Tw.mk ?_ ?_|(intro h;first|replace h:=h.o|cases h)))))
       (all_goals refine fv ?_;repeat' first|exact .intro|refine Tw.mk ?_ ?_|(intro h;first|replace h:=h.o|cases h))
       refine zbj hlook ?_;(all_goals refine fv ?_;repeat' first|exact .intro|refine Tw.mk ?_ ?_|(intro h;first|replace h:=h.o|cases h))
       (all_goals (try ((first|refine StopCall.by0 (hw) ?_|refine StopPure.by0 (hw) ?_);(all_goals refine gv ?_;repeat' first|exact .intro|refine Tw.mk ?_ ?_|(intro h;first|replace h:=h.o|cases h)))))
       (all_goals refine fv ?_;repeat' first|exact .intro|refine Tw.mk ?_ ?_|(intro h;first|replace h:=h.o|cases h))
       ((try (conv=>whnf));refine StopRet.by [0,1,2,3] ?_;repeat' first|exact .intro|refine Tw.mk ?_ ?_)
       all_goals (first|rfl|(exact zau))
     .rw[if_neg (by decide),if_neg (by decide)];refine or3 (by omega:p=0\/p=1\/p=2) (λe=>?_) (λe=>?_) (λe=>?_);all_goals (subst e)
      all_goals (try (exfalso;omega))
      all_goals
       unfold zaF;refine foA zaA [] [] Tryz.func105 Tryz.ntmps105 Tryz.results105 ?_;(all_goals refine fv ?_;repeat' first|exact .intro|refine Tw.mk ?_ ?_|(intro h;first|replace h:=h.o|cases h))
       (all_goals (try ((first|refine StopCall.by0 (hck) ?_|refine StopPure.by0 (hck) ?_);(all_goals refine gv ?_;repeat' first|exact .intro|refine Tw.mk ?_ ?_|(intro h;first|replace h:=h.o|cases h)))))
       (all_goals refine fv ?_;repeat' first|exact .intro|refine Tw.mk ?_ ?_|(intro h;first|replace h:=h.o|cases h))
       refine zbj hlook ?_;(all_goals refine fv ?_;repeat' first|exact .intro|refine Tw.mk ?_ ?_|(intro h;first|replace h:=h.o|cases h))
       (all_goals (try ((first|refine StopCall.by0 (hw) ?_|refine StopPure.by0 (hw) ?_);(all_goals refine gv ?_;repeat' first|exact .intro|refine Tw.mk ?_ ?_|(intro h;first|replace h:=h.o|cases h)))))
       (all_goals refine fv ?_;repeat' first|exact .intro|refine Tw.mk ?_ ?_|(intro h;first|replace h:=h.o|cases h))
       ((try (conv=>whnf));refine StopRet.by [0,1,2,3] ?_;repeat' first|exact .intro|refine Tw.mk ?_ ?_)
       all_goals (first|rfl|(exact zaw))
   .have hE:zay ⟨kn,[a]⟩ p (q,g,l)=zaL q g l:=if_pos hin;have hT:zcv ⟨kn,[a]⟩ p (q,g,l)=0:=if_neg (λh=>h0 h.2);have hV:zbd ⟨kn,[a]⟩ p (q,g,l)=⟨kn,[a]⟩:=if_neg (λh=>h0 h.2);rw[hE,hT,hV];generalize zaL q g l=F at *
    unfold zaF;refine foA zaA [] [] Tryz.func105 Tryz.ntmps105 Tryz.results105 ?_;(all_goals refine fv ?_;repeat' first|exact .intro|refine Tw.mk ?_ ?_|(intro h;first|replace h:=h.o|cases h))
    (all_goals (try ((first|refine StopCall.by0 (hck) ?_|refine StopPure.by0 (hck) ?_);(all_goals refine gv ?_;repeat' first|exact .intro|refine Tw.mk ?_ ?_|(intro h;first|replace h:=h.o|cases h)))))
    (all_goals refine fv ?_;repeat' first|exact .intro|refine Tw.mk ?_ ?_|(intro h;first|replace h:=h.o|cases h))
    all_goals exact Y17
  .have hin:inP ⟨kn,[a]⟩ p=false:=by simp [inP];omega
   have hE:zay ⟨kn,[a]⟩ p (q,g,l)=1:=by unfold zay;rw[hin];rfl
   have hT:zcv ⟨kn,[a]⟩ p (q,g,l)=0:=if_neg (λh=>by rw[hin] at h;exact absurd h.1 (by decide));have hV:zbd ⟨kn,[a]⟩ p (q,g,l)=⟨kn,[a]⟩:=if_neg (λh=>by rw[hin] at h;exact absurd h.1 (by decide));rw[hE,hT,hV];unfold zaF;refine foA zaA [] [] Tryz.func105 Tryz.ntmps105 Tryz.results105 ?_;(all_goals refine fv ?_;repeat' first|exact .intro|refine Tw.mk ?_ ?_|(intro h;first|replace h:=h.o|cases h))
   all_goals exact Y17
 .by_cases hp:0<=p/\p<2
  .have hin:inP ⟨kn,[a,b]⟩ p=true:=by simp [inP];omega
   by_cases h0:zaL q g l=0
   .have hE:zay ⟨kn,[a,b]⟩ p (q,g,l)=0:=(if_pos hin).trans h0;have hT:zcv ⟨kn,[a,b]⟩ p (q,g,l)=takK ⟨kn,[a,b]⟩ (q,g,l):=if_pos ⟨hin,h0⟩;have hV:zbd ⟨kn,[a,b]⟩ p (q,g,l)=if takK ⟨kn,[a,b]⟩ (q,g,l)=1 then ⟨upI kn q (some (q,g,l)),modW (allW [a,b] 0 q p) p λo=>upI o q false⟩ else if takK ⟨kn,[a,b]⟩ (q,g,l)=0 then ⟨kn,modW [a,b] p λo=>upI o q false⟩ else ⟨kn,modW [a,b] p λo=>upI o q true⟩:=if_pos ⟨hin,h0⟩
    rw[hE,hT,hV];clear hE hT hV;rw[h0] at hck;have hl:=hll h0;have hcp:=zbJ q g (l.map opRow) (by simpa using hl);have hal:=zhj (upI kn q (some (q,g,l))) [a,b] (by simp) (by simp) q p;cases hk:kn q with
    |none=>
     have hK:takK ⟨kn,[a,b]⟩ (q,g,l)=1:=by unfold takK;dsimp only;rw[hk]
     rw[hK,if_pos rfl];clear hK;have hlook:knM kn (.int .i64 q)=none:=by simp [knM,hk]
     refine or3 (by omega:p=0\/p=1\/p=2) (λe=>?_) (λe=>?_) (λe=>?_);all_goals (subst e)
     all_goals (try (exfalso;omega))
     all_goals
      unfold zaF;refine foA zaA [] [] Tryz.func105 Tryz.ntmps105 Tryz.results105 ?_;(all_goals refine fv ?_;repeat' first|exact .intro|refine Tw.mk ?_ ?_|(intro h;first|replace h:=h.o|cases h))
      (all_goals (try ((first|refine StopCall.by0 (hck) ?_|refine StopPure.by0 (hck) ?_);(all_goals refine gv ?_;repeat' first|exact .intro|refine Tw.mk ?_ ?_|(intro h;first|replace h:=h.o|cases h)))))
      (all_goals refine fv ?_;repeat' first|exact .intro|refine Tw.mk ?_ ?_|(intro h;first|replace h:=h.o|cases h))
      refine zdC hlook ?_;(all_goals refine fv ?_;repeat' first|exact .intro|refine Tw.mk ?_ ?_|(intro h;first|replace h:=h.o|cases h))
      (all_goals (try ((first|refine StopCall.by0 (hcp) ?_|refine StopPure.by0 (hcp) ?_);(all_goals refine gv ?_;repeat' first|exact .intro|refine Tw.mk ?_ ?_|(intro h;first|replace h:=h.o|cases h)))))
      (all_goals refine fv ?_;repeat' first|exact .intro|refine Tw.mk ?_ ?_|(intro h;first|replace h:=h.o|cases h))
      (refine⟨_,_,_,_,[0,1,2,3,4],hal,rfl,rfl,rfl,?_,?_,?_⟩)
      .exact Y23
      .exact Y3
      (all_goals refine fv ?_;repeat' first|exact .intro|refine Tw.mk ?_ ?_|(intro h;first|replace h:=h.o|cases h))
      ((try (conv=>whnf));refine StopRet.by [0,1,2,3,4] ?_;repeat' first|exact .intro|refine Tw.mk ?_ ?_)
      all_goals (first|rfl|(exact zau))
    |some t=>
     obtain⟨q2,g2,l2⟩:=t;obtain⟨e2,ht⟩:=hkn q _ hk;have hl2:l2.length<=1000000:=by have:=(zaN (show zaL q2 g2 l2=0 from ht)).2.2.2.2.1;omega
     have hw:=zbA q g q2 g2 l l2 hl hl2;have hK:takK ⟨kn,[a,b]⟩ (q,g,l)=orL [cmpI g g2,cmpE l l2]:=by unfold takK;dsimp only;rw[hk];rfl
     have hlook:knM kn (.int .i64 q)=some [.v (.int .i64 q2),.v (.int .i64 g2),.sl 2 (l2.map opRow) none]:=by simp [knM,hk,zaF]
     have hrg:orL [cmpI g g2,cmpE l l2]=1\/orL [cmpI g g2,cmpE l l2]=0\/orL [cmpI g g2,cmpE l l2]= -1:=by
      exact Y78
     rw[hK];clear hK;generalize orL [cmpI g g2,cmpE l l2]=v at *
     refine or3 hrg (λe=>?_) (λe=>?_) (λe=>?_);all_goals (subst e)
     .rw[if_pos rfl];refine or3 (by omega:p=0\/p=1\/p=2) (λe=>?_) (λe=>?_) (λe=>?_);all_goals (subst e)
      all_goals (try (exfalso;omega))
      all_goals
       unfold zaF;refine foA zaA [] [] Tryz.func105 Tryz.ntmps105 Tryz.results105 ?_;(all_goals refine fv ?_;repeat' first|exact .intro|refine Tw.mk ?_ ?_|(intro h;first|replace h:=h.o|cases h))
       (all_goals (try ((first|refine StopCall.by0 (hck) ?_|refine StopPure.by0 (hck) ?_);(all_goals refine gv ?_;repeat' first|exact .intro|refine Tw.mk ?_ ?_|(intro h;first|replace h:=h.o|cases h)))))
       (all_goals refine fv ?_;repeat' first|exact .intro|refine Tw.mk ?_ ?_|(intro h;first|replace h:=h.o|cases h))
       refine zbj hlook ?_;(all_goals refine fv ?_;repeat' first|exact .intro|refine Tw.mk ?_ ?_|(intro h;first|replace h:=h.o|cases h))
       (all_goals (try ((first|refine StopCall.by0 (hw) ?_|refine StopPure.by0 (hw) ?_);(all_goals refine gv ?_;repeat' first|exact .intro|refine Tw.mk ?_ ?_|(intro h;first|replace h:=h.o|cases h)))))
       (all_goals refine fv ?_;repeat' first|exact .intro|refine Tw.mk ?_ ?_|(intro h;first|replace h:=h.o|cases h))
       (all_goals (try ((first|refine StopCall.by0 (hcp) ?_|refine StopPure.by0 (hcp) ?_);(all_goals refine gv ?_;repeat' first|exact .intro|refine Tw.mk ?_ ?_|(intro h;first|replace h:=h.o|cases h)))))
       (all_goals refine fv ?_;repeat' first|exact .intro|refine Tw.mk ?_ ?_|(intro h;first|replace h:=h.o|cases h))
       (refine⟨_,_,_,_,[0,1,2,3,4],hal,rfl,rfl,rfl,?_,?_,?_⟩)
       .exact Y23
       .exact Y3
       (all_goals refine fv ?_;repeat' first|exact .intro|refine Tw.mk ?_ ?_|(intro h;first|replace h:=h.o|cases h))
       ((try (conv=>whnf));refine StopRet.by [0,1,2,3,4] ?_;repeat' first|exact .intro|refine Tw.mk ?_ ?_)
       all_goals (first|rfl|(exact zau))
     .rw[if_neg (by decide),if_pos rfl];refine or3 (by omega:p=0\/p=1\/p=2) (λe=>?_) (λe=>?_) (λe=>?_);all_goals (subst e)
      all_goals (try (exfalso;omega))
      all_goals
       unfold zaF;refine foA zaA [] [] Tryz.func105 Tryz.ntmps105 Tryz.results105 ?_;(all_goals refine fv ?_;repeat' first|exact .intro|refine Tw.mk ?_ ?_|(intro h;first|replace h:=h.o|cases h))
       (all_goals (try ((first|refine StopCall.by0 (hck) ?_|refine StopPure.by0 (hck) ?_);(all_goals refine gv ?_;repeat' first|exact .intro|refine Tw.mk ?_ ?_|(intro h;first|replace h:=h.o|cases h)))))
       (all_goals refine fv ?_;repeat' first|exact .intro|refine Tw.mk ?_ ?_|(intro h;first|replace h:=h.o|cases h))
       refine zbj hlook ?_;(all_goals refine fv ?_;repeat' first|exact .intro|refine Tw.mk ?_ ?_|(intro h;first|replace h:=h.o|cases h))
       (all_goals (try ((first|refine StopCall.by0 (hw) ?_|refine StopPure.by0 (hw) ?_);(all_goals refine gv ?_;repeat' first|exact .intro|refine Tw.mk ?_ ?_|(intro h;first|replace h:=h.o|cases h)))))
       (all_goals refine fv ?_;repeat' first|exact .intro|refine Tw.mk ?_ ?_|(intro h;first|replace h:=h.o|cases h))
       ((try (conv=>whnf));refine StopRet.by [0,1,2,3,4] ?_;repeat' first|exact .intro|refine Tw.mk ?_ ?_)
       all_goals (first|rfl|(exact zau))
     .rw[if_neg (by decide),if_neg (by decide)];refine or3 (by omega:p=0\/p=1\/p=2) (λe=>?_) (λe=>?_) (λe=>?_);all_goals (subst e)
      all_goals (try (exfalso;omega))
      all_goals
       unfold zaF;refine foA zaA [] [] Tryz.func105 Tryz.ntmps105 Tryz.results105 ?_;(all_goals refine fv ?_;repeat' first|exact .intro|refine Tw.mk ?_ ?_|(intro h;first|replace h:=h.o|cases h))
       (all_goals (try ((first|refine StopCall.by0 (hck) ?_|refine StopPure.by0 (hck) ?_);(all_goals refine gv ?_;repeat' first|exact .intro|refine Tw.mk ?_ ?_|(intro h;first|replace h:=h.o|cases h)))))
       (all_goals refine fv ?_;repeat' first|exact .intro|refine Tw.mk ?_ ?_|(intro h;first|replace h:=h.o|cases h))
       refine zbj hlook ?_;(all_goals refine fv ?_;repeat' first|exact .intro|refine Tw.mk ?_ ?_|(intro h;first|replace h:=h.o|cases h))
       (all_goals (try ((first|refine StopCall.by0 (hw) ?_|refine StopPure.by0 (hw) ?_);(all_goals refine gv ?_;repeat' first|exact .intro|refine Tw.mk ?_ ?_|(intro h;first|replace h:=h.o|cases h)))))
       (all_goals refine fv ?_;repeat' first|exact .intro|refine Tw.mk ?_ ?_|(intro h;first|replace h:=h.o|cases h))
       ((try (conv=>whnf));refine StopRet.by [0,1,2,3,4] ?_;repeat' first|exact .intro|refine Tw.mk ?_ ?_)
       all_goals (first|rfl|(exact zaw))
   .have hE:zay ⟨kn,[a,b]⟩ p (q,g,l)=zaL q g l:=if_pos hin;have hT:zcv ⟨kn,[a,b]⟩ p (q,g,l)=0:=if_neg (λh=>h0 h.2);have hV:zbd ⟨kn,[a,b]⟩ p (q,g,l)=⟨kn,[a,b]⟩:=if_neg (λh=>h0 h.2);rw[hE,hT,hV];generalize zaL q g l=F at *
    unfold zaF;refine foA zaA [] [] Tryz.func105 Tryz.ntmps105 Tryz.results105 ?_;(all_goals refine fv ?_;repeat' first|exact .intro|refine Tw.mk ?_ ?_|(intro h;first|replace h:=h.o|cases h))
    (all_goals (try ((first|refine StopCall.by0 (hck) ?_|refine StopPure.by0 (hck) ?_);(all_goals refine gv ?_;repeat' first|exact .intro|refine Tw.mk ?_ ?_|(intro h;first|replace h:=h.o|cases h)))))
    (all_goals refine fv ?_;repeat' first|exact .intro|refine Tw.mk ?_ ?_|(intro h;first|replace h:=h.o|cases h))
    all_goals exact Y32
  .have hin:inP ⟨kn,[a,b]⟩ p=false:=by simp [inP];omega
   have hE:zay ⟨kn,[a,b]⟩ p (q,g,l)=1:=by unfold zay;rw[hin];rfl
   have hT:zcv ⟨kn,[a,b]⟩ p (q,g,l)=0:=if_neg (λh=>by rw[hin] at h;exact absurd h.1 (by decide));have hV:zbd ⟨kn,[a,b]⟩ p (q,g,l)=⟨kn,[a,b]⟩:=if_neg (λh=>by rw[hin] at h;exact absurd h.1 (by decide));rw[hE,hT,hV];unfold zaF;refine foA zaA [] [] Tryz.func105 Tryz.ntmps105 Tryz.results105 ?_;(all_goals refine fv ?_;repeat' first|exact .intro|refine Tw.mk ?_ ?_|(intro h;first|replace h:=h.o|cases h))
   all_goals exact Y32
 .by_cases hp:0<=p/\p<3
  .have hin:inP ⟨kn,[a,b,c]⟩ p=true:=by simp [inP];omega
   by_cases h0:zaL q g l=0
   .have hE:zay ⟨kn,[a,b,c]⟩ p (q,g,l)=0:=(if_pos hin).trans h0;have hT:zcv ⟨kn,[a,b,c]⟩ p (q,g,l)=takK ⟨kn,[a,b,c]⟩ (q,g,l):=if_pos ⟨hin,h0⟩;have hV:zbd ⟨kn,[a,b,c]⟩ p (q,g,l)=if takK ⟨kn,[a,b,c]⟩ (q,g,l)=1 then ⟨upI kn q (some (q,g,l)),modW (allW [a,b,c] 0 q p) p λo=>upI o q false⟩ else if takK ⟨kn,[a,b,c]⟩ (q,g,l)=0 then ⟨kn,modW [a,b,c] p λo=>upI o q false⟩ else ⟨kn,modW [a,b,c] p λo=>upI o q true⟩:=if_pos ⟨hin,h0⟩
    rw[hE,hT,hV];clear hE hT hV;rw[h0] at hck;have hl:=hll h0;have hcp:=zbJ q g (l.map opRow) (by simpa using hl);have hal:=zhj (upI kn q (some (q,g,l))) [a,b,c] (by simp) (by simp) q p;cases hk:kn q with
    |none=>
     have hK:takK ⟨kn,[a,b,c]⟩ (q,g,l)=1:=by unfold takK;dsimp only;rw[hk]
     rw[hK,if_pos rfl];clear hK;have hlook:knM kn (.int .i64 q)=none:=by simp [knM,hk]
     refine or3 (by omega:p=0\/p=1\/p=2) (λe=>?_) (λe=>?_) (λe=>?_);all_goals (subst e)
     all_goals (try (exfalso;omega))
     all_goals
      unfold zaF;refine foA zaA [] [] Tryz.func105 Tryz.ntmps105 Tryz.results105 ?_;(all_goals refine fv ?_;repeat' first|exact .intro|refine Tw.mk ?_ ?_|(intro h;first|replace h:=h.o|cases h))
      (all_goals (try ((first|refine StopCall.by0 (hck) ?_|refine StopPure.by0 (hck) ?_);(all_goals refine gv ?_;repeat' first|exact .intro|refine Tw.mk ?_ ?_|(intro h;first|replace h:=h.o|cases h)))))
      (all_goals refine fv ?_;repeat' first|exact .intro|refine Tw.mk ?_ ?_|(intro h;first|replace h:=h.o|cases h))
      refine zdC hlook ?_;(all_goals refine fv ?_;repeat' first|exact .intro|refine Tw.mk ?_ ?_|(intro h;first|replace h:=h.o|cases h))
      (all_goals (try ((first|refine StopCall.by0 (hcp) ?_|refine StopPure.by0 (hcp) ?_);(all_goals refine gv ?_;repeat' first|exact .intro|refine Tw.mk ?_ ?_|(intro h;first|replace h:=h.o|cases h)))))
      (all_goals refine fv ?_;repeat' first|exact .intro|refine Tw.mk ?_ ?_|(intro h;first|replace h:=h.o|cases h))
      (refine⟨_,_,_,_,[0,1,2,3,4,5],hal,rfl,rfl,rfl,?_,?_,?_⟩)
      .exact Y23
      .exact Y3
      (all_goals refine fv ?_;repeat' first|exact .intro|refine Tw.mk ?_ ?_|(intro h;first|replace h:=h.o|cases h))
      ((try (conv=>whnf));refine StopRet.by [0,1,2,3,4,5] ?_;repeat' first|exact .intro|refine Tw.mk ?_ ?_)
      all_goals (first|rfl|(exact zau))
    |some t=>
     obtain⟨q2,g2,l2⟩:=t;obtain⟨e2,ht⟩:=hkn q _ hk;have hl2:l2.length<=1000000:=by have:=(zaN (show zaL q2 g2 l2=0 from ht)).2.2.2.2.1;omega
     have hw:=zbA q g q2 g2 l l2 hl hl2;have hK:takK ⟨kn,[a,b,c]⟩ (q,g,l)=orL [cmpI g g2,cmpE l l2]:=by unfold takK;dsimp only;rw[hk];rfl
     have hlook:knM kn (.int .i64 q)=some [.v (.int .i64 q2),.v (.int .i64 g2),.sl 2 (l2.map opRow) none]:=by simp [knM,hk,zaF]
     have hrg:orL [cmpI g g2,cmpE l l2]=1\/orL [cmpI g g2,cmpE l l2]=0\/orL [cmpI g g2,cmpE l l2]= -1:=by
      exact Y78
     rw[hK];clear hK;generalize orL [cmpI g g2,cmpE l l2]=v at *
     refine or3 hrg (λe=>?_) (λe=>?_) (λe=>?_);all_goals (subst e)
     .rw[if_pos rfl];refine or3 (by omega:p=0\/p=1\/p=2) (λe=>?_) (λe=>?_) (λe=>?_);all_goals (subst e)
      all_goals (try (exfalso;omega))
      all_goals
       unfold zaF;refine foA zaA [] [] Tryz.func105 Tryz.ntmps105 Tryz.results105 ?_;(all_goals refine fv ?_;repeat' first|exact .intro|refine Tw.mk ?_ ?_|(intro h;first|replace h:=h.o|cases h))
       (all_goals (try ((first|refine StopCall.by0 (hck) ?_|refine StopPure.by0 (hck) ?_);(all_goals refine gv ?_;repeat' first|exact .intro|refine Tw.mk ?_ ?_|(intro h;first|replace h:=h.o|cases h)))))
       (all_goals refine fv ?_;repeat' first|exact .intro|refine Tw.mk ?_ ?_|(intro h;first|replace h:=h.o|cases h))
       refine zbj hlook ?_;(all_goals refine fv ?_;repeat' first|exact .intro|refine Tw.mk ?_ ?_|(intro h;first|replace h:=h.o|cases h))
       (all_goals (try ((first|refine StopCall.by0 (hw) ?_|refine StopPure.by0 (hw) ?_);(all_goals refine gv ?_;repeat' first|exact .intro|refine Tw.mk ?_ ?_|(intro h;first|replace h:=h.o|cases h)))))
       (all_goals refine fv ?_;repeat' first|exact .intro|refine Tw.mk ?_ ?_|(intro h;first|replace h:=h.o|cases h))
       (all_goals (try ((first|refine StopCall.by0 (hcp) ?_|refine StopPure.by0 (hcp) ?_);(all_goals refine gv ?_;repeat' first|exact .intro|refine Tw.mk ?_ ?_|(intro h;first|replace h:=h.o|cases h)))))
       (all_goals refine fv ?_;repeat' first|exact .intro|refine Tw.mk ?_ ?_|(intro h;first|replace h:=h.o|cases h))
       (refine⟨_,_,_,_,[0,1,2,3,4,5],hal,rfl,rfl,rfl,?_,?_,?_⟩)
       .exact Y23
       .exact Y3
       (all_goals refine fv ?_;repeat' first|exact .intro|refine Tw.mk ?_ ?_|(intro h;first|replace h:=h.o|cases h))
       ((try (conv=>whnf));refine StopRet.by [0,1,2,3,4,5] ?_;repeat' first|exact .intro|refine Tw.mk ?_ ?_)
       all_goals (first|rfl|(exact zau))
     .rw[if_neg (by decide),if_pos rfl];refine or3 (by omega:p=0\/p=1\/p=2) (λe=>?_) (λe=>?_) (λe=>?_);all_goals (subst e)
      all_goals (try (exfalso;omega))
      all_goals
       unfold zaF;refine foA zaA [] [] Tryz.func105 Tryz.ntmps105 Tryz.results105 ?_;(all_goals refine fv ?_;repeat' first|exact .intro|refine Tw.mk ?_ ?_|(intro h;first|replace h:=h.o|cases h))
       (all_goals (try ((first|refine StopCall.by0 (hck) ?_|refine StopPure.by0 (hck) ?_);(all_goals refine gv ?_;repeat' first|exact .intro|refine Tw.mk ?_ ?_|(intro h;first|replace h:=h.o|cases h)))))
       (all_goals refine fv ?_;repeat' first|exact .intro|refine Tw.mk ?_ ?_|(intro h;first|replace h:=h.o|cases h))
       refine zbj hlook ?_;(all_goals refine fv ?_;repeat' first|exact .intro|refine Tw.mk ?_ ?_|(intro h;first|replace h:=h.o|cases h))
       (all_goals (try ((first|refine StopCall.by0 (hw) ?_|refine StopPure.by0 (hw) ?_);(all_goals refine gv ?_;repeat' first|exact .intro|refine Tw.mk ?_ ?_|(intro h;first|replace h:=h.o|cases h)))))
       (all_goals refine fv ?_;repeat' first|exact .intro|refine Tw.mk ?_ ?_|(intro h;first|replace h:=h.o|cases h))
       ((try (conv=>whnf));refine StopRet.by [0,1,2,3,4,5] ?_;repeat' first|exact .intro|refine Tw.mk ?_ ?_)
       all_goals (first|rfl|(exact zau))
     .rw[if_neg (by decide),if_neg (by decide)];refine or3 (by omega:p=0\/p=1\/p=2) (λe=>?_) (λe=>?_) (λe=>?_);all_goals (subst e)
      all_goals (try (exfalso;omega))
      all_goals
       unfold zaF;refine foA zaA [] [] Tryz.func105 Tryz.ntmps105 Tryz.results105 ?_;(all_goals refine fv ?_;repeat' first|exact .intro|refine Tw.mk ?_ ?_|(intro h;first|replace h:=h.o|cases h))
       (all_goals (try ((first|refine StopCall.by0 (hck) ?_|refine StopPure.by0 (hck) ?_);(all_goals refine gv ?_;repeat' first|exact .intro|refine Tw.mk ?_ ?_|(intro h;first|replace h:=h.o|cases h)))))
       (all_goals refine fv ?_;repeat' first|exact .intro|refine Tw.mk ?_ ?_|(intro h;first|replace h:=h.o|cases h))
       refine zbj hlook ?_;(all_goals refine fv ?_;repeat' first|exact .intro|refine Tw.mk ?_ ?_|(intro h;first|replace h:=h.o|cases h))
       (all_goals (try ((first|refine StopCall.by0 (hw) ?_|refine StopPure.by0 (hw) ?_);(all_goals refine gv ?_;repeat' first|exact .intro|refine Tw.mk ?_ ?_|(intro h;first|replace h:=h.o|cases h)))))
       (all_goals refine fv ?_;repeat' first|exact .intro|refine Tw.mk ?_ ?_|(intro h;first|replace h:=h.o|cases h))
       ((try (conv=>whnf));refine StopRet.by [0,1,2,3,4,5] ?_;repeat' first|exact .intro|refine Tw.mk ?_ ?_)
       all_goals (first|rfl|(exact zaw))
   .have hE:zay ⟨kn,[a,b,c]⟩ p (q,g,l)=zaL q g l:=if_pos hin;have hT:zcv ⟨kn,[a,b,c]⟩ p (q,g,l)=0:=if_neg (λh=>h0 h.2);have hV:zbd ⟨kn,[a,b,c]⟩ p (q,g,l)=⟨kn,[a,b,c]⟩:=if_neg (λh=>h0 h.2);rw[hE,hT,hV];generalize zaL q g l=F at *
    unfold zaF;refine foA zaA [] [] Tryz.func105 Tryz.ntmps105 Tryz.results105 ?_;(all_goals refine fv ?_;repeat' first|exact .intro|refine Tw.mk ?_ ?_|(intro h;first|replace h:=h.o|cases h))
    (all_goals (try ((first|refine StopCall.by0 (hck) ?_|refine StopPure.by0 (hck) ?_);(all_goals refine gv ?_;repeat' first|exact .intro|refine Tw.mk ?_ ?_|(intro h;first|replace h:=h.o|cases h)))))
    (all_goals refine fv ?_;repeat' first|exact .intro|refine Tw.mk ?_ ?_|(intro h;first|replace h:=h.o|cases h))
    all_goals exact Y27
  .have hin:inP ⟨kn,[a,b,c]⟩ p=false:=by simp [inP];omega
   have hE:zay ⟨kn,[a,b,c]⟩ p (q,g,l)=1:=by unfold zay;rw[hin];rfl
   have hT:zcv ⟨kn,[a,b,c]⟩ p (q,g,l)=0:=if_neg (λh=>by rw[hin] at h;exact absurd h.1 (by decide));have hV:zbd ⟨kn,[a,b,c]⟩ p (q,g,l)=⟨kn,[a,b,c]⟩:=if_neg (λh=>by rw[hin] at h;exact absurd h.1 (by decide));rw[hE,hT,hV];unfold zaF;refine foA zaA [] [] Tryz.func105 Tryz.ntmps105 Tryz.results105 ?_;(all_goals refine fv ?_;repeat' first|exact .intro|refine Tw.mk ?_ ?_|(intro h;first|replace h:=h.o|cases h))
   all_goals exact Y27
end Go.Proofs.YtimfnpjcedjmiadGreat
