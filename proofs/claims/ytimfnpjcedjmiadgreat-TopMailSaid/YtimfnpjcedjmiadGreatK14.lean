/- Lemmas. -/
import Derived.Test.YtimfnpjcedjmiadGreatK13
set_option maxRecDepth 100000
set_option maxHeartbeats 64000000
set_option linter.all false
namespace Go.Proofs.YtimfnpjcedjmiadGreat
open Go.RowKit
def knM(kn:Int->Option St3):Value->Option (List AV)
 | .int .i64 n=>(kn n).map zaF
 |_=>none
def owM(o:Int->Bool):Value->Option (List AV)
 | .int .i64 n=>if o n then some [.v (.bool true)] else none
 |_=>none
theorem zen{v:Value}{n:Int}:zcW v (.int .i64 n)=true↔v=.int .i64 n:=by
 constructor
 .exact zbB
 .rintro rfl;simp [zcW,zcj]
theorem updF_kn{kn:Int->Option St3}{n:Int}{s:St3}:updF (knM kn) (.int .i64 n) (some (zaF s))=knM (upI kn n (some s)):=by
 funext v
 unfold updF;cases h:zcW v (.int .i64 n) with
 |true=>rw[zen.1 h];simp [knM,upI]
 |false=>
  cases v with
  |int k m=>
   cases k with
   |i64=>
    have hne:m≠n:=λe=>by subst e;simp [zcW,zcj] at h
    simp [knM,upI,hne]
   |_=>rfl
  |_=>rfl
theorem zaw{o:Int->Bool}{n:Int}:updF (owM o) (.int .i64 n) (some [.v (.bool true)])=owM (upI o n true):=by
 funext v
 unfold updF;cases h:zcW v (.int .i64 n) with
 |true=>rw[zen.1 h];simp [owM,upI]
 |false=>
  cases v with
  |int k m=>
   cases k with
   |i64=>
    have hne:m≠n:=λe=>by subst e;simp [zcW,zcj] at h
    simp [owM,upI,hne]
   |_=>rfl
  |_=>rfl
theorem zau{o:Int->Bool}{n:Int}:updF (owM o) (.int .i64 n) none=owM (upI o n false):=by
 funext v
 unfold updF;cases h:zcW v (.int .i64 n) with
 |true=>rw[zen.1 h];simp [owM,upI]
 |false=>
  cases v with
  |int k m=>
   cases k with
   |i64=>
    have hne:m≠n:=λe=>by subst e;simp [zcW,zcj] at h
    simp [owM,upI,hne]
   |_=>rfl
  |_=>rfl
theorem owM_none:(λ_=>none)=owM (λ_=>false):=by
 funext v
 cases v with
 |int k m=>cases k<;>rfl
 |_=>rfl
theorem knM_none:(λ_=>none)=knM (λ_=>none):=by
 funext v
 cases v with
 |int k m=>cases k<;>rfl
 |_=>rfl
def kmR(kn:Int->Option St3):Res:=.map (some .i64) true (knM kn)
def omR(o:Int->Bool):Res:=.map (some .i64) false (owM o)
def baL(kn:Int->Option St3):List (Int->Bool)->List Res
 |[a]=>[.cells [.map 1,.arr 2 0 1],kmR kn,.arr false 140 1 0 [[.map 3]],omR a]
 |[a,b]=>[.cells [.map 1,.arr 2 0 2],kmR kn,.arr false 140 1 0 [[.map 3],[.map 4]],omR a,omR b]
 |[a,b,c]=>[.cells [.map 1,.arr 2 0 3],kmR kn,.arr false 140 1 0 [[.map 3],[.map 4],[.map 5]],omR a,omR b,omR c]
 |_=>[]
def baM(b:Ba):List Res:=baL b.kn b.ow
theorem np3{α:Type}{l:List α}(h1:1<=l.length)(h3:l.length<=3){p:List α->Prop}(c1: ∀a,p [a])(c2: ∀a b,p [a,b])(c3: ∀a b c,p [a,b,c]):p l:=by
 match l,h1,h3 with
 |[a],_,_=>exact c1 a
 |[a,b],_,_=>exact c2 a b
 |[a,b,c],_,_=>exact c3 a b c
theorem or4{a b c d p:Prop}(h:a\/b\/c\/d)(h1:a->p)(h2:b->p)(h3:c->p)(h4:d->p):p:=by
 rcases h with h|h|h|h
 .exact h1 h
 .exact h2 h
 .exact h3 h
 .exact h4 h
theorem zdC{o:Option (List AV)}{K:Option (List AV)->Prop}(h:o=none)(k:K none):StopLook o K:=by
 subst h;exact⟨λl e=>(by cases e),λ_=>k⟩
theorem zbj{o:Option (List AV)}{l:List AV}{K:Option (List AV)->Prop}(h:o=some l)(k:K (some l)):StopLook o K:=by
 subst h;exact⟨λm e=>(by cases e;exact k),λe=>(by cases e)⟩
theorem zhj(kn:Int->Option St3)(ow:List (Int->Bool))(h1:1<=ow.length)(h3:ow.length<=3)(n but:Int):Fn Tryz.prog 56 [.box 0 0,.v (.int .i64 n),.v (.int .i64 but)] (baL kn ow) (.tup []) (baL kn (allW ow 0 n but)):=by
 refine np3 (p:=λow=>Fn Tryz.prog 56 [.box 0 0,.v (.int .i64 n),.v (.int .i64 but)] (baL kn ow) (.tup []) (baL kn (allW ow 0 n but))) h1 h3 (λa=>?_) (λa b=>?_) (λa b c=>?_)
 .refine foA zaA [] [] Tryz.func56 Tryz.ntmps56 Tryz.results56 ?_;(all_goals refine gv ?_;repeat' first|exact .intro|refine Tw.mk ?_ ?_|(intro h;first|replace h:=h.o|cases h))
  refine lpG (λk:Nat=>⟨[(0,.box 0 0),(1,.v (.int .i64 n)),(2,.v (.int .i64 but)),(11,.v (.int .i64 1)),(12,.v (.int .i64 k))],baL kn (allK [a] 0 n but k)⟩) (λk=>k<=1) (λk=>1-k) 0 (by omega) (by (refine zaC [0,1,2,3] ?_;repeat' first|exact .intro|refine Tw.mk ?_ ?_)) ?_;intro k hk;refine or4 (by omega:k=0\/k=1\/k=2\/k=3) (λe=>?_) (λe=>?_) (λe=>?_) (λe=>?_);all_goals (subst e)
  all_goals (try (exfalso;omega))
  .by_cases h:(0:Int)=but
   ·(all_goals refine fv ?_;repeat' first|exact .intro|refine Tw.mk ?_ ?_|(intro h;first|replace h:=h.o|cases h))
    refine zaU 1 (by omega) (by omega) (by (refine zaC [0,1,2,3] ?_;repeat' first|exact .intro|refine Tw.mk ?_ ?_);all_goals (all_goals (try first|rfl|(exact congrArg owM (zfG h).symm))))
   ·(all_goals refine fv ?_;repeat' first|exact .intro|refine Tw.mk ?_ ?_|(intro h;first|replace h:=h.o|cases h))
    refine zaU 1 (by omega) (by omega) (by (refine zaC [0,1,2,3] ?_;repeat' first|exact .intro|refine Tw.mk ?_ ?_);all_goals (all_goals (try first|rfl|(exact zaw.trans (congrArg owM (zd6 h).symm)))))
  .exact Y73
 .refine foA zaA [] [] Tryz.func56 Tryz.ntmps56 Tryz.results56 ?_;(all_goals refine gv ?_;repeat' first|exact .intro|refine Tw.mk ?_ ?_|(intro h;first|replace h:=h.o|cases h))
  refine lpG (λk:Nat=>⟨[(0,.box 0 0),(1,.v (.int .i64 n)),(2,.v (.int .i64 but)),(11,.v (.int .i64 2)),(12,.v (.int .i64 k))],baL kn (allK [a,b] 0 n but k)⟩) (λk=>k<=2) (λk=>2-k) 0 (by omega) (by (refine zaC [0,1,2,3,4] ?_;repeat' first|exact .intro|refine Tw.mk ?_ ?_)) ?_;intro k hk;refine or4 (by omega:k=0\/k=1\/k=2\/k=3) (λe=>?_) (λe=>?_) (λe=>?_) (λe=>?_);all_goals (subst e)
  all_goals (try (exfalso;omega))
  .by_cases h:(0:Int)=but
   ·(all_goals refine fv ?_;repeat' first|exact .intro|refine Tw.mk ?_ ?_|(intro h;first|replace h:=h.o|cases h))
    refine zaU 1 (by omega) (by omega) (by (refine zaC [0,1,2,3,4] ?_;repeat' first|exact .intro|refine Tw.mk ?_ ?_);all_goals (all_goals (try first|rfl|(exact congrArg owM (zfG h).symm))))
   ·(all_goals refine fv ?_;repeat' first|exact .intro|refine Tw.mk ?_ ?_|(intro h;first|replace h:=h.o|cases h))
    refine zaU 1 (by omega) (by omega) (by (refine zaC [0,1,2,3,4] ?_;repeat' first|exact .intro|refine Tw.mk ?_ ?_);all_goals (all_goals (try first|rfl|(exact zaw.trans (congrArg owM (zd6 h).symm)))))
  .by_cases h:(1:Int)=but
   ·(all_goals refine fv ?_;repeat' first|exact .intro|refine Tw.mk ?_ ?_|(intro h;first|replace h:=h.o|cases h))
    refine zaU 2 (by omega) (by omega) (by (refine zaC [0,1,2,3,4] ?_;repeat' first|exact .intro|refine Tw.mk ?_ ?_);all_goals (all_goals (try first|rfl|(exact congrArg owM (zfG h).symm))))
   ·(all_goals refine fv ?_;repeat' first|exact .intro|refine Tw.mk ?_ ?_|(intro h;first|replace h:=h.o|cases h))
    refine zaU 2 (by omega) (by omega) (by (refine zaC [0,1,2,3,4] ?_;repeat' first|exact .intro|refine Tw.mk ?_ ?_);all_goals (all_goals (try first|rfl|(exact zaw.trans (congrArg owM (zd6 h).symm)))))
  .exact Y42
 .refine foA zaA [] [] Tryz.func56 Tryz.ntmps56 Tryz.results56 ?_;(all_goals refine gv ?_;repeat' first|exact .intro|refine Tw.mk ?_ ?_|(intro h;first|replace h:=h.o|cases h))
  refine lpG (λk:Nat=>⟨[(0,.box 0 0),(1,.v (.int .i64 n)),(2,.v (.int .i64 but)),(11,.v (.int .i64 3)),(12,.v (.int .i64 k))],baL kn (allK [a,b,c] 0 n but k)⟩) (λk=>k<=3) (λk=>3-k) 0 (by omega) (by (refine zaC [0,1,2,3,4,5] ?_;repeat' first|exact .intro|refine Tw.mk ?_ ?_)) ?_;intro k hk;refine or4 (by omega:k=0\/k=1\/k=2\/k=3) (λe=>?_) (λe=>?_) (λe=>?_) (λe=>?_);all_goals (subst e)
  all_goals (try (exfalso;omega))
  .by_cases h:(0:Int)=but
   ·(all_goals refine fv ?_;repeat' first|exact .intro|refine Tw.mk ?_ ?_|(intro h;first|replace h:=h.o|cases h))
    refine zaU 1 (by omega) (by omega) (by (refine zaC [0,1,2,3,4,5] ?_;repeat' first|exact .intro|refine Tw.mk ?_ ?_);all_goals (all_goals (try first|rfl|(exact congrArg owM (zfG h).symm))))
   ·(all_goals refine fv ?_;repeat' first|exact .intro|refine Tw.mk ?_ ?_|(intro h;first|replace h:=h.o|cases h))
    refine zaU 1 (by omega) (by omega) (by (refine zaC [0,1,2,3,4,5] ?_;repeat' first|exact .intro|refine Tw.mk ?_ ?_);all_goals (all_goals (try first|rfl|(exact zaw.trans (congrArg owM (zd6 h).symm)))))
  .by_cases h:(1:Int)=but
   ·(all_goals refine fv ?_;repeat' first|exact .intro|refine Tw.mk ?_ ?_|(intro h;first|replace h:=h.o|cases h))
    refine zaU 2 (by omega) (by omega) (by (refine zaC [0,1,2,3,4,5] ?_;repeat' first|exact .intro|refine Tw.mk ?_ ?_);all_goals (all_goals (try first|rfl|(exact congrArg owM (zfG h).symm))))
   ·(all_goals refine fv ?_;repeat' first|exact .intro|refine Tw.mk ?_ ?_|(intro h;first|replace h:=h.o|cases h))
    refine zaU 2 (by omega) (by omega) (by (refine zaC [0,1,2,3,4,5] ?_;repeat' first|exact .intro|refine Tw.mk ?_ ?_);all_goals (all_goals (try first|rfl|(exact zaw.trans (congrArg owM (zd6 h).symm)))))
  .by_cases h:(2:Int)=but
   ·(all_goals refine fv ?_;repeat' first|exact .intro|refine Tw.mk ?_ ?_|(intro h;first|replace h:=h.o|cases h))
    refine zaU 3 (by omega) (by omega) (by (refine zaC [0,1,2,3,4,5] ?_;repeat' first|exact .intro|refine Tw.mk ?_ ?_);all_goals (all_goals (try first|rfl|(exact congrArg owM (zfG h).symm))))
   ·(all_goals refine fv ?_;repeat' first|exact .intro|refine Tw.mk ?_ ?_|(intro h;first|replace h:=h.o|cases h))
    refine zaU 3 (by omega) (by omega) (by (refine zaC [0,1,2,3,4,5] ?_;repeat' first|exact .intro|refine Tw.mk ?_ ?_);all_goals (all_goals (try first|rfl|(exact zaw.trans (congrArg owM (zd6 h).symm)))))
  .exact Y41
def newA(E:Nat)(n:Int)(k:Nat):AS:=
 match k with
 |0=>⟨[(4,.box 1 0),(15,.v (.int .i64 n)),(16,.v (.int .i64 0))],[.map (some .i64) true λ_=>none,.cells [.map 0,.arr 2 0 0],.arr false E 1 0 []]⟩
 |1=>⟨[(4,.box 1 0),(15,.v (.int .i64 n)),(16,.v (.int .i64 1))],[.map (some .i64) true λ_=>none,.cells [.map 0,.arr 2 1 1],.arr false E 1 1 [[.map 3]],.map (some .i64) false λ_=>none]⟩
 |2=>⟨[(4,.box 1 0),(15,.v (.int .i64 n)),(16,.v (.int .i64 2))],[.map (some .i64) true λ_=>none,.cells [.map 0,.arr 2 2 2],.arr false E 1 2 [[.map 3],[.map 4]],.map (some .i64) false λ_=>none,.map (some .i64) false λ_=>none]⟩
 |_=>⟨[(4,.box 1 0),(15,.v (.int .i64 n)),(16,.v (.int .i64 3))],[.map (some .i64) true λ_=>none,.cells [.map 0,.arr 2 3 3],.arr false E 1 3 [[.map 3],[.map 4],[.map 5]],.map (some .i64) false λ_=>none,.map (some .i64) false λ_=>none,.map (some .i64) false λ_=>none]⟩
theorem fnew_ok(n:Nat)(h1:1<=n)(h3:n<=3):Fn Tryz.prog 40 [.v (.int .i64 n)] [] (.tup [.box 0 0,.err 0]) (baM (newB n)):=by
 have hb:baM (newB n)=baL (λ_=>none) (List.replicate n λ_=>false):=rfl;rw[hb];refine foL zaA [] [] Tryz.func40 Tryz.ntmps40 Tryz.results40 ?_;(all_goals refine fv ?_;repeat' first|exact .intro|refine Tw.mk ?_ ?_|(intro h;first|replace h:=h.o|cases h))
 refine lpG (λk:Nat=>newA 140 n k) (λk=>k<=n) (λk=>n-k) 0 (by omega) (AS.le_trans (za8 false 1 1 140 1 _ rfl rfl) (by unfold newA;(refine zaC [0,1,2] ?_;repeat' first|exact .intro|refine Tw.mk ?_ ?_))) ?_;intro k hk;by_cases hkn:k<n
 .refine or4 (by omega:k=0\/k=1\/k=2\/k=3) (λe=>?_) (λe=>?_) (λe=>?_) (λe=>?_);all_goals (subst e)
  all_goals (try (exfalso;omega))
  .unfold newA;(all_goals refine fv ?_;repeat' first|exact .intro|refine Tw.mk ?_ ?_|(intro h;first|replace h:=h.o|cases h))
   refine zaU 1 (by omega) (by omega) (by (refine zaC [0,1,2,3] ?_;repeat' first|exact .intro|refine Tw.mk ?_ ?_))
  .unfold newA;(all_goals refine fv ?_;repeat' first|exact .intro|refine Tw.mk ?_ ?_|(intro h;first|replace h:=h.o|cases h))
   refine zaU 2 (by omega) (by omega) (by (refine zaC [0,1,2,3,4] ?_;repeat' first|exact .intro|refine Tw.mk ?_ ?_))
  .unfold newA;(all_goals refine fv ?_;repeat' first|exact .intro|refine Tw.mk ?_ ?_|(intro h;first|replace h:=h.o|cases h))
   refine zaU 3 (by omega) (by omega) (by (refine zaC [0,1,2,3,4,5] ?_;repeat' first|exact .intro|refine Tw.mk ?_ ?_))
 .have ek:k=n:=by omega
  subst ek;clear hk hkn hb;refine or3 (by omega:k=1\/k=2\/k=3) (λe=>?_) (λe=>?_) (λe=>?_);all_goals (subst e)
  .unfold newA;(all_goals refine fv ?_;repeat' first|exact .intro|refine Tw.mk ?_ ?_|(intro h;first|replace h:=h.o|cases h))
   ((try (conv=>whnf));refine⟨_,AS.le_refl _ _,?_⟩;((try (conv=>whnf));refine StopRet.by [1,0,2,3] ?_;repeat' first|exact .intro|refine Tw.mk ?_ ?_))
   all_goals exact Y67
  .unfold newA;(all_goals refine fv ?_;repeat' first|exact .intro|refine Tw.mk ?_ ?_|(intro h;first|replace h:=h.o|cases h))
   ((try (conv=>whnf));refine⟨_,AS.le_refl _ _,?_⟩;((try (conv=>whnf));refine StopRet.by [1,0,2,3,4] ?_;repeat' first|exact .intro|refine Tw.mk ?_ ?_))
   all_goals exact Y67
  .unfold newA;(all_goals refine fv ?_;repeat' first|exact .intro|refine Tw.mk ?_ ?_|(intro h;first|replace h:=h.o|cases h))
   ((try (conv=>whnf));refine⟨_,AS.le_refl _ _,?_⟩;((try (conv=>whnf));refine StopRet.by [1,0,2,3,4,5] ?_;repeat' first|exact .intro|refine Tw.mk ?_ ?_))
   all_goals exact Y67
theorem fset_ok(kn:Int->Option St3)(ow:List (Int->Bool))(h1:1<=ow.length)(h3:ow.length<=3)(s:St3)(hs:s.2.2.length<=1000000):Fn Tryz.prog 43 [.box 0 0,.agg (zaF s)] (baL kn ow) (.err (sf s)) (baM (setB ⟨kn,ow⟩ s)):=by
 obtain⟨q,g,l⟩:=s;have hck:=zdX q g l;have hcp:=zbJ q g (l.map opRow) (by simpa using hs);have hsf:sf (q,g,l)=zaL q g l:=rfl;have hnn:=zcp q g l;have hall:=λow h1 h3=>zhj (upI kn q (some (q,g,l))) ow h1 h3 q (-1);refine np3 (p:=λow=>Fn Tryz.prog 43 [.box 0 0,.agg (zaF (q,g,l))] (baL kn ow) (.err (sf (q,g,l))) (baM (setB ⟨kn,ow⟩ (q,g,l)))) h1 h3 (λa=>?_) (λa b=>?_) (λa b c=>?_)
 .by_cases h0:zaL q g l=0
  .have hal:=hall [a] (by simp) (by simp);have hV:setB ⟨kn,[a]⟩ (q,g,l)=⟨upI kn q (some (q,g,l)),allW [a] 0 q (-1)⟩:=if_pos h0;rw[hV,hsf,h0];rw[h0] at hck;unfold zaF;refine foA zaA [] [] Tryz.func43 Tryz.ntmps43 Tryz.results43 ?_;(all_goals refine fv ?_;repeat' first|exact .intro|refine Tw.mk ?_ ?_|(intro h;first|replace h:=h.o|cases h))
   (all_goals (try ((first|refine StopCall.by0 (hck) ?_|refine StopPure.by0 (hck) ?_);(all_goals refine gv ?_;repeat' first|exact .intro|refine Tw.mk ?_ ?_|(intro h;first|replace h:=h.o|cases h)))))
   (all_goals refine fv ?_;repeat' first|exact .intro|refine Tw.mk ?_ ?_|(intro h;first|replace h:=h.o|cases h))
   (all_goals (try ((first|refine StopCall.by0 (hcp) ?_|refine StopPure.by0 (hcp) ?_);(all_goals refine gv ?_;repeat' first|exact .intro|refine Tw.mk ?_ ?_|(intro h;first|replace h:=h.o|cases h)))))
   (all_goals refine fv ?_;repeat' first|exact .intro|refine Tw.mk ?_ ?_|(intro h;first|replace h:=h.o|cases h))
   (refine⟨_,_,_,_,[0,1,2,3],hal,rfl,rfl,rfl,?_,?_,?_⟩)
   .exact Y23
   .exact Y3
   (all_goals refine fv ?_;repeat' first|exact .intro|refine Tw.mk ?_ ?_|(intro h;first|replace h:=h.o|cases h))
   ((try (conv=>whnf));refine StopRet.by [0,1,2,3] ?_;repeat' first|exact .intro|refine Tw.mk ?_ ?_)
   all_goals (try rfl)
  .have hV:setB ⟨kn,[a]⟩ (q,g,l)=⟨kn,[a]⟩:=if_neg h0;rw[hV,hsf];generalize zaL q g l=F at *
   unfold zaF;refine foA zaA [] [] Tryz.func43 Tryz.ntmps43 Tryz.results43 ?_;(all_goals refine fv ?_;repeat' first|exact .intro|refine Tw.mk ?_ ?_|(intro h;first|replace h:=h.o|cases h))
   (all_goals (try ((first|refine StopCall.by0 (hck) ?_|refine StopPure.by0 (hck) ?_);(all_goals refine gv ?_;repeat' first|exact .intro|refine Tw.mk ?_ ?_|(intro h;first|replace h:=h.o|cases h)))))
   (all_goals refine fv ?_;repeat' first|exact .intro|refine Tw.mk ?_ ?_|(intro h;first|replace h:=h.o|cases h))
   all_goals exact Y17
 .by_cases h0:zaL q g l=0
  .have hal:=hall [a,b] (by simp) (by simp);have hV:setB ⟨kn,[a,b]⟩ (q,g,l)=⟨upI kn q (some (q,g,l)),allW [a,b] 0 q (-1)⟩:=if_pos h0;rw[hV,hsf,h0];rw[h0] at hck;unfold zaF;refine foA zaA [] [] Tryz.func43 Tryz.ntmps43 Tryz.results43 ?_;(all_goals refine fv ?_;repeat' first|exact .intro|refine Tw.mk ?_ ?_|(intro h;first|replace h:=h.o|cases h))
   (all_goals (try ((first|refine StopCall.by0 (hck) ?_|refine StopPure.by0 (hck) ?_);(all_goals refine gv ?_;repeat' first|exact .intro|refine Tw.mk ?_ ?_|(intro h;first|replace h:=h.o|cases h)))))
   (all_goals refine fv ?_;repeat' first|exact .intro|refine Tw.mk ?_ ?_|(intro h;first|replace h:=h.o|cases h))
   (all_goals (try ((first|refine StopCall.by0 (hcp) ?_|refine StopPure.by0 (hcp) ?_);(all_goals refine gv ?_;repeat' first|exact .intro|refine Tw.mk ?_ ?_|(intro h;first|replace h:=h.o|cases h)))))
   (all_goals refine fv ?_;repeat' first|exact .intro|refine Tw.mk ?_ ?_|(intro h;first|replace h:=h.o|cases h))
   (refine⟨_,_,_,_,[0,1,2,3,4],hal,rfl,rfl,rfl,?_,?_,?_⟩)
   .exact Y23
   .exact Y3
   (all_goals refine fv ?_;repeat' first|exact .intro|refine Tw.mk ?_ ?_|(intro h;first|replace h:=h.o|cases h))
   ((try (conv=>whnf));refine StopRet.by [0,1,2,3,4] ?_;repeat' first|exact .intro|refine Tw.mk ?_ ?_)
   all_goals (try rfl)
  .have hV:setB ⟨kn,[a,b]⟩ (q,g,l)=⟨kn,[a,b]⟩:=if_neg h0;rw[hV,hsf];generalize zaL q g l=F at *
   unfold zaF;refine foA zaA [] [] Tryz.func43 Tryz.ntmps43 Tryz.results43 ?_;(all_goals refine fv ?_;repeat' first|exact .intro|refine Tw.mk ?_ ?_|(intro h;first|replace h:=h.o|cases h))
   (all_goals (try ((first|refine StopCall.by0 (hck) ?_|refine StopPure.by0 (hck) ?_);(all_goals refine gv ?_;repeat' first|exact .intro|refine Tw.mk ?_ ?_|(intro h;first|replace h:=h.o|cases h)))))
   (all_goals refine fv ?_;repeat' first|exact .intro|refine Tw.mk ?_ ?_|(intro h;first|replace h:=h.o|cases h))
   all_goals exact Y32
 .by_cases h0:zaL q g l=0
  .have hal:=hall [a,b,c] (by simp) (by simp);have hV:setB ⟨kn,[a,b,c]⟩ (q,g,l)=⟨upI kn q (some (q,g,l)),allW [a,b,c] 0 q (-1)⟩:=if_pos h0;rw[hV,hsf,h0];rw[h0] at hck;unfold zaF;refine foA zaA [] [] Tryz.func43 Tryz.ntmps43 Tryz.results43 ?_;(all_goals refine fv ?_;repeat' first|exact .intro|refine Tw.mk ?_ ?_|(intro h;first|replace h:=h.o|cases h))
   (all_goals (try ((first|refine StopCall.by0 (hck) ?_|refine StopPure.by0 (hck) ?_);(all_goals refine gv ?_;repeat' first|exact .intro|refine Tw.mk ?_ ?_|(intro h;first|replace h:=h.o|cases h)))))
   (all_goals refine fv ?_;repeat' first|exact .intro|refine Tw.mk ?_ ?_|(intro h;first|replace h:=h.o|cases h))
   (all_goals (try ((first|refine StopCall.by0 (hcp) ?_|refine StopPure.by0 (hcp) ?_);(all_goals refine gv ?_;repeat' first|exact .intro|refine Tw.mk ?_ ?_|(intro h;first|replace h:=h.o|cases h)))))
   (all_goals refine fv ?_;repeat' first|exact .intro|refine Tw.mk ?_ ?_|(intro h;first|replace h:=h.o|cases h))
   (refine⟨_,_,_,_,[0,1,2,3,4,5],hal,rfl,rfl,rfl,?_,?_,?_⟩)
   .exact Y23
   .exact Y3
   (all_goals refine fv ?_;repeat' first|exact .intro|refine Tw.mk ?_ ?_|(intro h;first|replace h:=h.o|cases h))
   ((try (conv=>whnf));refine StopRet.by [0,1,2,3,4,5] ?_;repeat' first|exact .intro|refine Tw.mk ?_ ?_)
   all_goals (try rfl)
  .have hV:setB ⟨kn,[a,b,c]⟩ (q,g,l)=⟨kn,[a,b,c]⟩:=if_neg h0;rw[hV,hsf];generalize zaL q g l=F at *
   unfold zaF;refine foA zaA [] [] Tryz.func43 Tryz.ntmps43 Tryz.results43 ?_;(all_goals refine fv ?_;repeat' first|exact .intro|refine Tw.mk ?_ ?_|(intro h;first|replace h:=h.o|cases h))
   (all_goals (try ((first|refine StopCall.by0 (hck) ?_|refine StopPure.by0 (hck) ?_);(all_goals refine gv ?_;repeat' first|exact .intro|refine Tw.mk ?_ ?_|(intro h;first|replace h:=h.o|cases h)))))
   (all_goals refine fv ?_;repeat' first|exact .intro|refine Tw.mk ?_ ?_|(intro h;first|replace h:=h.o|cases h))
   all_goals exact Y27
theorem zoG(kn:Int->Option St3)(ow:List (Int->Bool))(h1:1<=ow.length)(h3:ow.length<=3)(hkn: ∀n s,kn n=some s->s.1=n/\sf s=0)(p:Int)(s:St3):Fn Tryz.prog 106 [.box 0 0,.v (.int .i64 p),.agg (zaF s)] (baL kn ow) (.err (zay ⟨kn,ow⟩ p s)) (baM (hrdB ⟨kn,ow⟩ p s)):=by
 obtain⟨q,g,l⟩:=s;have hck:=zdX q g l;have hsf:sf (q,g,l)=zaL q g l:=rfl;have hnn:=zcp q g l;have hll:zaL q g l=0->l.length<=1000000:=λh=>by have:=(zaN h).2.2.2.2.1;omega
 refine np3 (p:=λow=>Fn Tryz.prog 106 [.box 0 0,.v (.int .i64 p),.agg (zaF (q,g,l))] (baL kn ow) (.err (zay ⟨kn,ow⟩ p (q,g,l))) (baM (hrdB ⟨kn,ow⟩ p (q,g,l)))) h1 h3 (λa=>?_) (λa b=>?_) (λa b c=>?_)
 .by_cases hp:0<=p/\p<1
  .have hin:inP ⟨kn,[a]⟩ p=true:=by simp [inP];omega
   by_cases h0:zaL q g l=0
   .have hE:zay ⟨kn,[a]⟩ p (q,g,l)=0:=(if_pos hin).trans h0;rw[hE];rw[h0] at hck;have hl:=hll h0;cases hk:kn q with
    |none=>
     have hw:=zbA 0 0 q g [] l (by decide) hl;have hlo:orL [cmpI 0 g,cmpE [] l]<=0:=by
      exact Y69
     have hV:hrdB ⟨kn,[a]⟩ p (q,g,l)=⟨kn,modW [a] p λo=>upI o q false⟩:=if_pos ⟨hin,h0,by unfold hrK;dsimp only;rw[hk];show (-1:Int)<=0;decide⟩;rw[hV];have hlook:knM kn (.int .i64 q)=none:=by simp [knM,hk]
     generalize orL [cmpI 0 g,cmpE [] l]=v at *
     refine or3 (by omega:p=0\/p=1\/p=2) (λe=>?_) (λe=>?_) (λe=>?_);all_goals (subst e)
     all_goals (try (exfalso;omega))
     all_goals
      unfold zaF;refine foA zaA [] [] Tryz.func106 Tryz.ntmps106 Tryz.results106 ?_;(all_goals refine fv ?_;repeat' first|exact .intro|refine Tw.mk ?_ ?_|(intro h;first|replace h:=h.o|cases h))
      (all_goals (try ((first|refine StopCall.by0 (hck) ?_|refine StopPure.by0 (hck) ?_);(all_goals refine gv ?_;repeat' first|exact .intro|refine Tw.mk ?_ ?_|(intro h;first|replace h:=h.o|cases h)))))
      (all_goals refine fv ?_;repeat' first|exact .intro|refine Tw.mk ?_ ?_|(intro h;first|replace h:=h.o|cases h))
      (refine zdC hlook ?_)
      (all_goals refine fv ?_;repeat' first|exact .intro|refine Tw.mk ?_ ?_|(intro h;first|replace h:=h.o|cases h))
      (refine⟨_,_,_,_,[],hw,rfl,rfl,rfl,?_,?_,?_⟩)
      .exact Y3
      .exact Y3
      (all_goals refine fv ?_;repeat' first|exact .intro|refine Tw.mk ?_ ?_|(intro h;first|replace h:=h.o|cases h))
      ((try (conv=>whnf));refine StopRet.by [0,1,2,3] ?_;repeat' first|exact .intro|refine Tw.mk ?_ ?_)
      all_goals (first|rfl|(exact zau))
    |some t=>
     obtain⟨q2,g2,l2⟩:=t;obtain⟨e2,ht⟩:=hkn q _ hk;have hl2:l2.length<=1000000:=by have:=(zaN (show zaL q2 g2 l2=0 from ht)).2.2.2.2.1;omega
     have hw:=zbA q2 g2 q g l2 l hl2 hl;have hK:hrK ⟨kn,[a]⟩ (q,g,l)=orL [cmpI g2 g,cmpE l2 l]:=by unfold hrK;dsimp only;rw[hk];rfl
     have hlook:knM kn (.int .i64 q)=some [.v (.int .i64 q2),.v (.int .i64 g2),.sl 2 (l2.map opRow) none]:=by simp [knM,hk,zaF]
     by_cases hv:orL [cmpI g2 g,cmpE l2 l]<=0
     .have hV:hrdB ⟨kn,[a]⟩ p (q,g,l)=⟨kn,modW [a] p λo=>upI o q false⟩:=if_pos ⟨hin,h0,by rw[hK];exact hv⟩;rw[hV];clear hK;generalize orL [cmpI g2 g,cmpE l2 l]=v at *
      refine or3 (by omega:p=0\/p=1\/p=2) (λe=>?_) (λe=>?_) (λe=>?_);all_goals (subst e)
      all_goals (try (exfalso;omega))
      all_goals
       unfold zaF;refine foA zaA [] [] Tryz.func106 Tryz.ntmps106 Tryz.results106 ?_;(all_goals refine fv ?_;repeat' first|exact .intro|refine Tw.mk ?_ ?_|(intro h;first|replace h:=h.o|cases h))
       (all_goals (try ((first|refine StopCall.by0 (hck) ?_|refine StopPure.by0 (hck) ?_);(all_goals refine gv ?_;repeat' first|exact .intro|refine Tw.mk ?_ ?_|(intro h;first|replace h:=h.o|cases h)))))
       (all_goals refine fv ?_;repeat' first|exact .intro|refine Tw.mk ?_ ?_|(intro h;first|replace h:=h.o|cases h))
       (refine zbj hlook ?_)
       (all_goals refine fv ?_;repeat' first|exact .intro|refine Tw.mk ?_ ?_|(intro h;first|replace h:=h.o|cases h))
       (all_goals (try ((first|refine StopCall.by0 (hw) ?_|refine StopPure.by0 (hw) ?_);(all_goals refine gv ?_;repeat' first|exact .intro|refine Tw.mk ?_ ?_|(intro h;first|replace h:=h.o|cases h)))))
       (all_goals refine fv ?_;repeat' first|exact .intro|refine Tw.mk ?_ ?_|(intro h;first|replace h:=h.o|cases h))
       ((try (conv=>whnf));refine StopRet.by [0,1,2,3] ?_;repeat' first|exact .intro|refine Tw.mk ?_ ?_)
       all_goals (first|rfl|(exact zau))
     .have hV:hrdB ⟨kn,[a]⟩ p (q,g,l)=⟨kn,[a]⟩:=if_neg (λh=>hv (by rw[<-hK];exact h.2.2));rw[hV];clear hK;generalize orL [cmpI g2 g,cmpE l2 l]=v at *
      unfold zaF;refine foA zaA [] [] Tryz.func106 Tryz.ntmps106 Tryz.results106 ?_;(all_goals refine fv ?_;repeat' first|exact .intro|refine Tw.mk ?_ ?_|(intro h;first|replace h:=h.o|cases h))
      (all_goals (try ((first|refine StopCall.by0 (hck) ?_|refine StopPure.by0 (hck) ?_);(all_goals refine gv ?_;repeat' first|exact .intro|refine Tw.mk ?_ ?_|(intro h;first|replace h:=h.o|cases h)))))
      (all_goals refine fv ?_;repeat' first|exact .intro|refine Tw.mk ?_ ?_|(intro h;first|replace h:=h.o|cases h))
      (refine zbj hlook ?_)
      (all_goals refine fv ?_;repeat' first|exact .intro|refine Tw.mk ?_ ?_|(intro h;first|replace h:=h.o|cases h))
      (all_goals (try ((first|refine StopCall.by0 (hw) ?_|refine StopPure.by0 (hw) ?_);(all_goals refine gv ?_;repeat' first|exact .intro|refine Tw.mk ?_ ?_|(intro h;first|replace h:=h.o|cases h)))))
      (all_goals refine fv ?_;repeat' first|exact .intro|refine Tw.mk ?_ ?_|(intro h;first|replace h:=h.o|cases h))
      ((try (conv=>whnf));refine StopRet.by [0,1,2,3] ?_;repeat' first|exact .intro|refine Tw.mk ?_ ?_)
      all_goals rfl
   .have hE:zay ⟨kn,[a]⟩ p (q,g,l)=zaL q g l:=if_pos hin;have hV:hrdB ⟨kn,[a]⟩ p (q,g,l)=⟨kn,[a]⟩:=if_neg (λh=>h0 h.2.1);rw[hE,hV];generalize zaL q g l=F at *
    unfold zaF;refine foA zaA [] [] Tryz.func106 Tryz.ntmps106 Tryz.results106 ?_;(all_goals refine fv ?_;repeat' first|exact .intro|refine Tw.mk ?_ ?_|(intro h;first|replace h:=h.o|cases h))
    (all_goals (try ((first|refine StopCall.by0 (hck) ?_|refine StopPure.by0 (hck) ?_);(all_goals refine gv ?_;repeat' first|exact .intro|refine Tw.mk ?_ ?_|(intro h;first|replace h:=h.o|cases h)))))
    (all_goals refine fv ?_;repeat' first|exact .intro|refine Tw.mk ?_ ?_|(intro h;first|replace h:=h.o|cases h))
    all_goals exact Y17
  .have hin:inP ⟨kn,[a]⟩ p=false:=by simp [inP];omega
   have hE:zay ⟨kn,[a]⟩ p (q,g,l)=1:=by unfold zay;rw[hin];rfl
   have hV:hrdB ⟨kn,[a]⟩ p (q,g,l)=⟨kn,[a]⟩:=if_neg (λh=>by rw[hin] at h;exact absurd h.1 (by decide));rw[hE,hV];unfold zaF;refine foA zaA [] [] Tryz.func106 Tryz.ntmps106 Tryz.results106 ?_;(all_goals refine fv ?_;repeat' first|exact .intro|refine Tw.mk ?_ ?_|(intro h;first|replace h:=h.o|cases h))
   all_goals exact Y17
 .by_cases hp:0<=p/\p<2
  .have hin:inP ⟨kn,[a,b]⟩ p=true:=by simp [inP];omega
   by_cases h0:zaL q g l=0
   .have hE:zay ⟨kn,[a,b]⟩ p (q,g,l)=0:=(if_pos hin).trans h0;rw[hE];rw[h0] at hck;have hl:=hll h0;cases hk:kn q with
    |none=>
     have hw:=zbA 0 0 q g [] l (by decide) hl;have hlo:orL [cmpI 0 g,cmpE [] l]<=0:=by
      exact Y69
     have hV:hrdB ⟨kn,[a,b]⟩ p (q,g,l)=⟨kn,modW [a,b] p λo=>upI o q false⟩:=if_pos ⟨hin,h0,by unfold hrK;dsimp only;rw[hk];show (-1:Int)<=0;decide⟩;rw[hV];have hlook:knM kn (.int .i64 q)=none:=by simp [knM,hk]
     generalize orL [cmpI 0 g,cmpE [] l]=v at *
     refine or3 (by omega:p=0\/p=1\/p=2) (λe=>?_) (λe=>?_) (λe=>?_);all_goals (subst e)
     all_goals (try (exfalso;omega))
     all_goals
      unfold zaF;refine foA zaA [] [] Tryz.func106 Tryz.ntmps106 Tryz.results106 ?_;(all_goals refine fv ?_;repeat' first|exact .intro|refine Tw.mk ?_ ?_|(intro h;first|replace h:=h.o|cases h))
      (all_goals (try ((first|refine StopCall.by0 (hck) ?_|refine StopPure.by0 (hck) ?_);(all_goals refine gv ?_;repeat' first|exact .intro|refine Tw.mk ?_ ?_|(intro h;first|replace h:=h.o|cases h)))))
      (all_goals refine fv ?_;repeat' first|exact .intro|refine Tw.mk ?_ ?_|(intro h;first|replace h:=h.o|cases h))
      (refine zdC hlook ?_)
      (all_goals refine fv ?_;repeat' first|exact .intro|refine Tw.mk ?_ ?_|(intro h;first|replace h:=h.o|cases h))
      (refine⟨_,_,_,_,[],hw,rfl,rfl,rfl,?_,?_,?_⟩)
      .exact Y3
      .exact Y3
      (all_goals refine fv ?_;repeat' first|exact .intro|refine Tw.mk ?_ ?_|(intro h;first|replace h:=h.o|cases h))
      ((try (conv=>whnf));refine StopRet.by [0,1,2,3,4] ?_;repeat' first|exact .intro|refine Tw.mk ?_ ?_)
      all_goals (first|rfl|(exact zau))
    |some t=>
     obtain⟨q2,g2,l2⟩:=t;obtain⟨e2,ht⟩:=hkn q _ hk;have hl2:l2.length<=1000000:=by have:=(zaN (show zaL q2 g2 l2=0 from ht)).2.2.2.2.1;omega
     have hw:=zbA q2 g2 q g l2 l hl2 hl;have hK:hrK ⟨kn,[a,b]⟩ (q,g,l)=orL [cmpI g2 g,cmpE l2 l]:=by unfold hrK;dsimp only;rw[hk];rfl
     have hlook:knM kn (.int .i64 q)=some [.v (.int .i64 q2),.v (.int .i64 g2),.sl 2 (l2.map opRow) none]:=by simp [knM,hk,zaF]
     by_cases hv:orL [cmpI g2 g,cmpE l2 l]<=0
     .have hV:hrdB ⟨kn,[a,b]⟩ p (q,g,l)=⟨kn,modW [a,b] p λo=>upI o q false⟩:=if_pos ⟨hin,h0,by rw[hK];exact hv⟩;rw[hV];clear hK;generalize orL [cmpI g2 g,cmpE l2 l]=v at *
      refine or3 (by omega:p=0\/p=1\/p=2) (λe=>?_) (λe=>?_) (λe=>?_);all_goals (subst e)
      all_goals (try (exfalso;omega))
      all_goals
       unfold zaF;refine foA zaA [] [] Tryz.func106 Tryz.ntmps106 Tryz.results106 ?_;(all_goals refine fv ?_;repeat' first|exact .intro|refine Tw.mk ?_ ?_|(intro h;first|replace h:=h.o|cases h))
       (all_goals (try ((first|refine StopCall.by0 (hck) ?_|refine StopPure.by0 (hck) ?_);(all_goals refine gv ?_;repeat' first|exact .intro|refine Tw.mk ?_ ?_|(intro h;first|replace h:=h.o|cases h)))))
       (all_goals refine fv ?_;repeat' first|exact .intro|refine Tw.mk ?_ ?_|(intro h;first|replace h:=h.o|cases h))
       (refine zbj hlook ?_)
       (all_goals refine fv ?_;repeat' first|exact .intro|refine Tw.mk ?_ ?_|(intro h;first|replace h:=h.o|cases h))
       (all_goals (try ((first|refine StopCall.by0 (hw) ?_|refine StopPure.by0 (hw) ?_);(all_goals refine gv ?_;repeat' first|exact .intro|refine Tw.mk ?_ ?_|(intro h;first|replace h:=h.o|cases h)))))
       (all_goals refine fv ?_;repeat' first|exact .intro|refine Tw.mk ?_ ?_|(intro h;first|replace h:=h.o|cases h))
       ((try (conv=>whnf));refine StopRet.by [0,1,2,3,4] ?_;repeat' first|exact .intro|refine Tw.mk ?_ ?_)
       all_goals (first|rfl|(exact zau))
     .have hV:hrdB ⟨kn,[a,b]⟩ p (q,g,l)=⟨kn,[a,b]⟩:=if_neg (λh=>hv (by rw[<-hK];exact h.2.2));rw[hV];clear hK;generalize orL [cmpI g2 g,cmpE l2 l]=v at *
      unfold zaF;refine foA zaA [] [] Tryz.func106 Tryz.ntmps106 Tryz.results106 ?_;(all_goals refine fv ?_;repeat' first|exact .intro|refine Tw.mk ?_ ?_|(intro h;first|replace h:=h.o|cases h))
      (all_goals (try ((first|refine StopCall.by0 (hck) ?_|refine StopPure.by0 (hck) ?_);(all_goals refine gv ?_;repeat' first|exact .intro|refine Tw.mk ?_ ?_|(intro h;first|replace h:=h.o|cases h)))))
      (all_goals refine fv ?_;repeat' first|exact .intro|refine Tw.mk ?_ ?_|(intro h;first|replace h:=h.o|cases h))
      (refine zbj hlook ?_)
      (all_goals refine fv ?_;repeat' first|exact .intro|refine Tw.mk ?_ ?_|(intro h;first|replace h:=h.o|cases h))
      (all_goals (try ((first|refine StopCall.by0 (hw) ?_|refine StopPure.by0 (hw) ?_);(all_goals refine gv ?_;repeat' first|exact .intro|refine Tw.mk ?_ ?_|(intro h;first|replace h:=h.o|cases h)))))
      (all_goals refine fv ?_;repeat' first|exact .intro|refine Tw.mk ?_ ?_|(intro h;first|replace h:=h.o|cases h))
      ((try (conv=>whnf));refine StopRet.by [0,1,2,3,4] ?_;repeat' first|exact .intro|refine Tw.mk ?_ ?_)
      all_goals rfl
   .have hE:zay ⟨kn,[a,b]⟩ p (q,g,l)=zaL q g l:=if_pos hin;have hV:hrdB ⟨kn,[a,b]⟩ p (q,g,l)=⟨kn,[a,b]⟩:=if_neg (λh=>h0 h.2.1);rw[hE,hV];generalize zaL q g l=F at *
    unfold zaF;refine foA zaA [] [] Tryz.func106 Tryz.ntmps106 Tryz.results106 ?_;(all_goals refine fv ?_;repeat' first|exact .intro|refine Tw.mk ?_ ?_|(intro h;first|replace h:=h.o|cases h))
    (all_goals (try ((first|refine StopCall.by0 (hck) ?_|refine StopPure.by0 (hck) ?_);(all_goals refine gv ?_;repeat' first|exact .intro|refine Tw.mk ?_ ?_|(intro h;first|replace h:=h.o|cases h)))))
    (all_goals refine fv ?_;repeat' first|exact .intro|refine Tw.mk ?_ ?_|(intro h;first|replace h:=h.o|cases h))
    all_goals exact Y32
  .have hin:inP ⟨kn,[a,b]⟩ p=false:=by simp [inP];omega
   have hE:zay ⟨kn,[a,b]⟩ p (q,g,l)=1:=by unfold zay;rw[hin];rfl
   have hV:hrdB ⟨kn,[a,b]⟩ p (q,g,l)=⟨kn,[a,b]⟩:=if_neg (λh=>by rw[hin] at h;exact absurd h.1 (by decide));rw[hE,hV];unfold zaF;refine foA zaA [] [] Tryz.func106 Tryz.ntmps106 Tryz.results106 ?_;(all_goals refine fv ?_;repeat' first|exact .intro|refine Tw.mk ?_ ?_|(intro h;first|replace h:=h.o|cases h))
   all_goals exact Y32
 .by_cases hp:0<=p/\p<3
  .have hin:inP ⟨kn,[a,b,c]⟩ p=true:=by simp [inP];omega
   by_cases h0:zaL q g l=0
   .have hE:zay ⟨kn,[a,b,c]⟩ p (q,g,l)=0:=(if_pos hin).trans h0;rw[hE];rw[h0] at hck;have hl:=hll h0;cases hk:kn q with
    |none=>
     have hw:=zbA 0 0 q g [] l (by decide) hl;have hlo:orL [cmpI 0 g,cmpE [] l]<=0:=by
      exact Y69
     have hV:hrdB ⟨kn,[a,b,c]⟩ p (q,g,l)=⟨kn,modW [a,b,c] p λo=>upI o q false⟩:=if_pos ⟨hin,h0,by unfold hrK;dsimp only;rw[hk];show (-1:Int)<=0;decide⟩;rw[hV];have hlook:knM kn (.int .i64 q)=none:=by simp [knM,hk]
     generalize orL [cmpI 0 g,cmpE [] l]=v at *
     refine or3 (by omega:p=0\/p=1\/p=2) (λe=>?_) (λe=>?_) (λe=>?_);all_goals (subst e)
     all_goals (try (exfalso;omega))
     all_goals
      unfold zaF;refine foA zaA [] [] Tryz.func106 Tryz.ntmps106 Tryz.results106 ?_;(all_goals refine fv ?_;repeat' first|exact .intro|refine Tw.mk ?_ ?_|(intro h;first|replace h:=h.o|cases h))
      (all_goals (try ((first|refine StopCall.by0 (hck) ?_|refine StopPure.by0 (hck) ?_);(all_goals refine gv ?_;repeat' first|exact .intro|refine Tw.mk ?_ ?_|(intro h;first|replace h:=h.o|cases h)))))
      (all_goals refine fv ?_;repeat' first|exact .intro|refine Tw.mk ?_ ?_|(intro h;first|replace h:=h.o|cases h))
      (refine zdC hlook ?_)
      (all_goals refine fv ?_;repeat' first|exact .intro|refine Tw.mk ?_ ?_|(intro h;first|replace h:=h.o|cases h))
      (refine⟨_,_,_,_,[],hw,rfl,rfl,rfl,?_,?_,?_⟩)
      .exact Y3
      .exact Y3
      (all_goals refine fv ?_;repeat' first|exact .intro|refine Tw.mk ?_ ?_|(intro h;first|replace h:=h.o|cases h))
      ((try (conv=>whnf));refine StopRet.by [0,1,2,3,4,5] ?_;repeat' first|exact .intro|refine Tw.mk ?_ ?_)
      all_goals (first|rfl|(exact zau))
    |some t=>
     obtain⟨q2,g2,l2⟩:=t;obtain⟨e2,ht⟩:=hkn q _ hk;have hl2:l2.length<=1000000:=by have:=(zaN (show zaL q2 g2 l2=0 from ht)).2.2.2.2.1;omega
     have hw:=zbA q2 g2 q g l2 l hl2 hl;have hK:hrK ⟨kn,[a,b,c]⟩ (q,g,l)=orL [cmpI g2 g,cmpE l2 l]:=by unfold hrK;dsimp only;rw[hk];rfl
     have hlook:knM kn (.int .i64 q)=some [.v (.int .i64 q2),.v (.int .i64 g2),.sl 2 (l2.map opRow) none]:=by simp [knM,hk,zaF]
     by_cases hv:orL [cmpI g2 g,cmpE l2 l]<=0
     .have hV:hrdB ⟨kn,[a,b,c]⟩ p (q,g,l)=⟨kn,modW [a,b,c] p λo=>upI o q false⟩:=if_pos ⟨hin,h0,by rw[hK];exact hv⟩;rw[hV];clear hK;generalize orL [cmpI g2 g,cmpE l2 l]=v at *
      refine or3 (by omega:p=0\/p=1\/p=2) (λe=>?_) (λe=>?_) (λe=>?_);all_goals (subst e)
      all_goals (try (exfalso;omega))
      all_goals
       unfold zaF;refine foA zaA [] [] Tryz.func106 Tryz.ntmps106 Tryz.results106 ?_;(all_goals refine fv ?_;repeat' first|exact .intro|refine Tw.mk ?_ ?_|(intro h;first|replace h:=h.o|cases h))
       (all_goals (try ((first|refine StopCall.by0 (hck) ?_|refine StopPure.by0 (hck) ?_);(all_goals refine gv ?_;repeat' first|exact .intro|refine Tw.mk ?_ ?_|(intro h;first|replace h:=h.o|cases h)))))
       (all_goals refine fv ?_;repeat' first|exact .intro|refine Tw.mk ?_ ?_|(intro h;first|replace h:=h.o|cases h))
       (refine zbj hlook ?_)
       (all_goals refine fv ?_;repeat' first|exact .intro|refine Tw.mk ?_ ?_|(intro h;first|replace h:=h.o|cases h))
       (all_goals (try ((first|refine StopCall.by0 (hw) ?_|refine StopPure.by0 (hw) ?_);(all_goals refine gv ?_;repeat' first|exact .intro|refine Tw.mk ?_ ?_|(intro h;first|replace h:=h.o|cases h)))))
       (all_goals refine fv ?_;repeat' first|exact .intro|refine Tw.mk ?_ ?_|(intro h;first|replace h:=h.o|cases h))
       ((try (conv=>whnf));refine StopRet.by [0,1,2,3,4,5] ?_;repeat' first|exact .intro|refine Tw.mk ?_ ?_)
       all_goals (first|rfl|(exact zau))
     .have hV:hrdB ⟨kn,[a,b,c]⟩ p (q,g,l)=⟨kn,[a,b,c]⟩:=if_neg (λh=>hv (by rw[<-hK];exact h.2.2));rw[hV];clear hK;generalize orL [cmpI g2 g,cmpE l2 l]=v at *
      unfold zaF;refine foA zaA [] [] Tryz.func106 Tryz.ntmps106 Tryz.results106 ?_;(all_goals refine fv ?_;repeat' first|exact .intro|refine Tw.mk ?_ ?_|(intro h;first|replace h:=h.o|cases h))
      (all_goals (try ((first|refine StopCall.by0 (hck) ?_|refine StopPure.by0 (hck) ?_);(all_goals refine gv ?_;repeat' first|exact .intro|refine Tw.mk ?_ ?_|(intro h;first|replace h:=h.o|cases h)))))
      (all_goals refine fv ?_;repeat' first|exact .intro|refine Tw.mk ?_ ?_|(intro h;first|replace h:=h.o|cases h))
      (refine zbj hlook ?_)
      (all_goals refine fv ?_;repeat' first|exact .intro|refine Tw.mk ?_ ?_|(intro h;first|replace h:=h.o|cases h))
      (all_goals (try ((first|refine StopCall.by0 (hw) ?_|refine StopPure.by0 (hw) ?_);(all_goals refine gv ?_;repeat' first|exact .intro|refine Tw.mk ?_ ?_|(intro h;first|replace h:=h.o|cases h)))))
      (all_goals refine fv ?_;repeat' first|exact .intro|refine Tw.mk ?_ ?_|(intro h;first|replace h:=h.o|cases h))
      ((try (conv=>whnf));refine StopRet.by [0,1,2,3,4,5] ?_;repeat' first|exact .intro|refine Tw.mk ?_ ?_)
      all_goals rfl
   .have hE:zay ⟨kn,[a,b,c]⟩ p (q,g,l)=zaL q g l:=if_pos hin;have hV:hrdB ⟨kn,[a,b,c]⟩ p (q,g,l)=⟨kn,[a,b,c]⟩:=if_neg (λh=>h0 h.2.1);rw[hE,hV];generalize zaL q g l=F at *
    unfold zaF;refine foA zaA [] [] Tryz.func106 Tryz.ntmps106 Tryz.results106 ?_;(all_goals refine fv ?_;repeat' first|exact .intro|refine Tw.mk ?_ ?_|(intro h;first|replace h:=h.o|cases h))
    (all_goals (try ((first|refine StopCall.by0 (hck) ?_|refine StopPure.by0 (hck) ?_);(all_goals refine gv ?_;repeat' first|exact .intro|refine Tw.mk ?_ ?_|(intro h;first|replace h:=h.o|cases h)))))
    (all_goals refine fv ?_;repeat' first|exact .intro|refine Tw.mk ?_ ?_|(intro h;first|replace h:=h.o|cases h))
    all_goals exact Y27
  .have hin:inP ⟨kn,[a,b,c]⟩ p=false:=by simp [inP];omega
   have hE:zay ⟨kn,[a,b,c]⟩ p (q,g,l)=1:=by unfold zay;rw[hin];rfl
   have hV:hrdB ⟨kn,[a,b,c]⟩ p (q,g,l)=⟨kn,[a,b,c]⟩:=if_neg (λh=>by rw[hin] at h;exact absurd h.1 (by decide));rw[hE,hV];unfold zaF;refine foA zaA [] [] Tryz.func106 Tryz.ntmps106 Tryz.results106 ?_;(all_goals refine fv ?_;repeat' first|exact .intro|refine Tw.mk ?_ ?_|(intro h;first|replace h:=h.o|cases h))
   all_goals exact Y27
end Go.Proofs.YtimfnpjcedjmiadGreat
namespace Go.Proofs.YtimfnpjcedjmiadGreat
def jOk(s a t:Int):Bool:=decide (0<=a)&&decide (a<=4)&&decide (0<=t)&&decide (t<=3)&&(!decide (s=7\/s=9)||decide (1<=a))&&(!decide (4<=s/\s<=8)||decide (1<=t))
def Lk.J(l:Lk):Prop:=jOk l.st l.left l.tm=true
theorem zhN{s a t:Int}:jOk s a t=true↔0<=a/\a<=4/\0<=t/\t<=3/\(s=7\/s=9->1<=a)/\(4<=s/\s<=8->1<=t):=by
 simp only[jOk,Bool.and_eq_true,Bool.or_eq_true,Bool.not_eq_true',decide_eq_true_eq,decide_eq_false_iff_not,and_assoc];constructor
 .rintro⟨h1,h2,h3,h4,h5,h6⟩;exact⟨h1,h2,h3,h4,λh=>by omega,λh=>by omega⟩
 .rintro⟨h1,h2,h3,h4,h5,h6⟩;exact⟨h1,h2,h3,h4,by omega,by omega⟩
def actT(d:List UInt8)(q:Int×Int):Int×Int:=d.foldl (λq b=>if b=105 then (4,q.2) else if b=122 then (0,3) else if b=114\/b=116 then (q.1-1,3) else q) q
theorem zq3{i c:Int}{a:List (Int×Int)}: ∀(d:List UInt8) (l:Lk),(actL i c a l d).left=(actT d (l.left,l.tm)).1/\(actL i c a l d).tm=(actT d (l.left,l.tm)).2/\(actL i c a l d).st=l.st
 |[],l=>⟨rfl,rfl,rfl⟩
 |b::d,l=>by
  have h:=zq3 (i:=i) (c:=c) (a:=a) d (act1 i c a l b);have e:((act1 i c a l b).left,(act1 i c a l b).tm)=(if b=105 then (4,l.tm) else if b=122 then (0,3) else if b=114\/b=116 then (l.left-1,3) else (l.left,l.tm))/\(act1 i c a l b).st=l.st:=by
   unfold act1;by_cases h1:b=105
   .simp [h1]
   by_cases h2:b=122
   .simp [h2]
   by_cases h3:b=114
   .simp [h3]
   by_cases h4:b=97\/b=110
   .have h6: ¬(b=114\/b=116):=by rcases h4 with h4|h4<;>subst h4<;>decide
    rw[if_neg h1,if_neg h2,if_neg h3,if_pos h4,if_neg h1,if_neg h2,if_neg h6];exact⟨rfl,rfl⟩
   by_cases h5:b=116
   .simp [h5]
   .have h6: ¬(b=114\/b=116):=by rintro (e|e)<;>contradiction
    rw[if_neg h1,if_neg h2,if_neg h3,if_neg h4,if_neg h5,if_neg h1,if_neg h2,if_neg h6];split<;>exact⟨rfl,rfl⟩
  rw[e.1,e.2] at h;exact h
def jPre(s e a t:Int):Bool:=if e=4 then decide (4<=s/\s<=8)&&decide (1<=a)&&decide (0<=t) else if e=5 then decide (4<=s/\s<=8) else jOk s a t
def jTab(s e a t:Int):Bool:= !jPre s e a t||(if zaq s e=0 then jOk (zb3 s e) (actT (zdE s e) (a,t)).1 (actT (zdE s e) (a,t)).2 else !decide (e=4\/e=5))
theorem j_all: ∀(s:Fin 10) (e:Fin 12) (a:Fin 5) (t:Fin 4),jTab s e a t=true:=by decide+kernel
theorem zle{l:Lk}{e i c:Int}{o:List (Int×Int)}(s0:0<=l.st)(s9:l.st<=9)(e0:0<=e)(e9:e<=11)(a0:0<=l.left)(a4:l.left<=4)(t0:0<=l.tm)(t3:l.tm<=3)(h:jPre l.st e l.left l.tm=true):(evtL l e i c o).J:=by
 have hT:=j_all ⟨l.st.toNat,by omega⟩ ⟨e.toNat,by omega⟩ ⟨l.left.toNat,by omega⟩ ⟨l.tm.toNat,by omega⟩;simp only[Int.toNat_of_nonneg s0,Int.toNat_of_nonneg e0,Int.toNat_of_nonneg a0,Int.toNat_of_nonneg t0] at hT;unfold jTab at hT;rw[h] at hT;simp only[Bool.not_true,Bool.false_or] at hT;unfold evtL;split
 .rename_i he;rw[if_pos he] at hT;have hA:=zq3 (i:=i) (c:=c) (a:=o) (zdE l.st e) (ownL l (zb3 l.st e));have hO:(ownL l (zb3 l.st e)).left=l.left/\(ownL l (zb3 l.st e)).tm=l.tm/\(ownL l (zb3 l.st e)).st=zb3 l.st e:=by unfold ownL;split<;>exact⟨rfl,rfl,rfl⟩
  unfold Lk.J;rw[hA.1,hA.2.1,hA.2.2,hO.1,hO.2.1,hO.2.2];exact hT
 .rename_i he;rw[if_neg he] at hT;simp only[Bool.not_eq_true',decide_eq_false_iff_not] at hT;unfold jPre at h;rw[if_neg (λq=>hT (.inl q)),if_neg (λq=>hT (.inr q))] at h;exact h
structure Lk.fit (n:Int) (l:Lk):Prop where
 j:l.J
 ok:l.ok n
theorem Lk.fit.low{n m:Int}{l:Lk}(h:l.fit n)(hm:(l.out.length:Int)<=m):l.fit m:=by
 obtain⟨j,h1,h2,h3,h4,h5,h6,h7,h8,h9',h10,h11,h12,h13,h14,h15,h16,h17⟩:=h;obtain⟨j1,j2,j3,j4,j5,j6⟩:=zhN.1 j;exact⟨j,⟨h1,h2,by omega,h4,by omega,h6,h7,h8,h9',h10,h11,h12,h13,h14,h15,h16,hm⟩⟩
theorem zqA{n e i c:Int}{o:List (Int×Int)}{l:Lk}(h:l.fit n)(hn:0<=n)(e0:0<=e)(e9:e<=11)(h4:e≠4)(h5:e≠5):(evtL l e i c o).fit (n+3):=by
 obtain⟨j1,j2,j3,j4,j5,j6⟩:=zhN.1 h.j;exact⟨zle h.ok.st0 h.ok.st9 e0 e9 j1 j2 j3 j4 (by unfold jPre;rw[if_neg h4,if_neg h5];exact h.j),zdQ h.ok hn e0 e9⟩
theorem zdv{n e:Int}{l:Lk}(h:l.fit n)(hn:0<=n):(doL l e).fit (n+3):=by
 unfold doL;split
 .exact⟨h.j,h.ok.mono (by omega)⟩
 .exact zqA h hn (by omega) (by omega) (by omega) (by omega)
theorem zfw{n:Int}{l:Lk}(h:l.fit n)(hn:0<=n):(zag l).fit (n+4):=by
 refine⟨?_,tickL_ok h.ok hn⟩;obtain⟨j1,j2,j3,j4,j5,j6⟩:=zhN.1 h.j;have s0:=h.ok.st0;have s9:=h.ok.st9;unfold zag;split
 .rename_i hs;split
  .exact zhN.2 ⟨j1,j2,by dsimp only;omega,by dsimp only;omega,j5,λ_=>by dsimp only;omega⟩
  .split
   .exact zle s0 s9 (by omega) (by omega) j1 j2 (by dsimp only;omega) (by dsimp only;omega) (by unfold jPre;rw[if_neg (by omega),if_pos rfl];exact decide_eq_true hs)
   .refine zle s0 s9 (by omega) (by omega) j1 j2 (by dsimp only;omega) (by dsimp only;omega) ?_;unfold jPre;rw[if_pos rfl];simp only[Bool.and_eq_true,decide_eq_true_eq];exact⟨⟨hs,by omega⟩,by omega⟩
 .exact h.j
theorem fit_out{n:Int}{l:Lk}(h:l.fit n):(outL l).fit 0:=by
 have h':Lk.fit n (outL l):=by
  obtain⟨j,h1,h2,h3,h4,h5,h6,h7,h8,h9',h10,h11,h12,h13,h14,h15,h16,h17⟩:=h;exact⟨j,⟨h1,h2,h3,h4,h5,h6,h7,h8,h9',h10,h11,h12,h13,h14,h15,h16,by show ((0:Nat):Int)<=n;omega⟩⟩
 exact h'.low (by show ((0:Nat):Int)<=0;omega)
theorem fit_new{s m:Int}(h:zeR s m=true):(newL s m).fit 0:=by
 have hp:=zc7.1 h;refine⟨by show jOk 0 0 0=true;decide,?_⟩;unfold newL;refine⟨?_,?_,?_,?_,?_,?_,?_,?_,h,?_,?_,?_,?_,?_,?_,?_,?_⟩<;>(try dsimp only)<;>first|omega|(simp;done)
theorem zfy{n:Int}{l:Lk}{p:Pk}(h:l.fit n)(hn:0<=n):(takL l p).fit (n+3):=by
 refine⟨?_,takL_ok h.ok hn⟩;have hE:=λe i c o e0 e9 h4 h5=>(zqA (e:=e) (i:=i) (c:=c) (o:=o) h hn e0 e9 h4 h5).j;unfold takL;split
 .exact h.j
 .split
  .unfold reqL;split
   .split
    .exact Y62
    .exact Y62
   .exact Y62
  .split
   .exact Y62
   .split
    .exact Y62
    .split
     .exact h.j
     .split
      .split
       .exact h.j
       .exact Y62
      .have hN:(nowL l p).st=l.st/\(nowL l p).left=l.left/\(nowL l p).tm=l.tm:=by unfold nowL;split<;>exact⟨rfl,rfl,rfl⟩
       obtain⟨j1,j2,j3,j4,j5,j6⟩:=zhN.1 h.j;have s0:=h.ok.st0;have s9:=h.ok.st9;obtain⟨n1,n2,n3⟩:=hN;refine zle (by omega) (by omega) (by omega) (by omega) (by omega) (by omega) (by omega) (by omega) ?_;rw[n1,n2,n3];unfold jPre;rw[if_neg (by omega),if_neg (by omega)];exact h.j
theorem act1_out{i c:Int}{a:List (Int×Int)}{l:Lk}{b:UInt8}: ∀x∈(act1 i c a l b).out,x∈l.out\/x.o.length<=2+a.length:=by
 have ha:(asks l.ns l.nm).length<=2:=ziB;intro x hx;unfold act1 at hx;(repeat' split at hx)<;>(try dsimp only at hx)
 all_goals first
  |exact .inl hx
  |(
    rcases List.mem_append.1 hx with h|h
    .exact .inl h
    .rw[List.mem_singleton] at h;subst h;exact .inr (by simp only[List.length_nil];omega))
theorem zld{i c:Int}{a:List (Int×Int)}: ∀(d:List UInt8) (l:Lk),∀x∈(actL i c a l d).out,x∈l.out\/x.o.length<=2+a.length
 |[],l,x,hx=>.inl hx
 |b::d,l,x,hx=>by
  rcases zld d (act1 i c a l b) x hx with h|h
  .exact act1_out x h
  .exact .inr h
theorem zhq{l:Lk}{e i c:Int}{a:List (Int×Int)}: ∀x∈(evtL l e i c a).out,x∈l.out\/x.o.length<=2+a.length:=by
 intro x hx;unfold evtL at hx;split at hx
 .rcases zld _ _ x hx with h|h
  .refine .inl ?_;unfold ownL at h;split at h<;>exact h
  .exact .inr h
 .exact .inl hx
theorem jans_len(m:Int)(l:List (Int×Int)):(jans m l).length<=l.length:=by
 unfold jans;split
 .exact List.length_filter_le ..
 .split
  .exact List.length_filterMap_le ..
  .exact Nat.le_refl _
theorem zi4{l:Lk}{p:Pk}: ∀x∈(takL l p).out,x∈l.out\/x.o.length<=10:=by
 intro x hx;unfold takL at hx;split at hx
 .exact .inl hx
 .rename_i hf;have h8:=(zhF (Classical.not_not.1 hf)).2.2.2.2.1;have hj:=jans_len l.nm p.o;have hE: ∀e i c a,a.length<=8->x∈(evtL l e i c a).out->x∈l.out\/x.o.length<=10:=λe i c a ha h=>by
   rcases zhq x h with h|h
   .exact .inl h
   .exact .inr (by omega)
  split at hx
  .unfold reqL at hx;split at hx
   .split at hx
    .exact hE _ _ _ _ (by omega) hx
    .exact hE _ _ _ _ (by omega) hx
   .exact hE _ _ _ _ (by omega) hx
  .split at hx
   .exact hE _ _ _ _ (by simp) hx
   .split at hx
    .exact hE _ _ _ _ (by simp) hx
    .split at hx
     .exact .inl hx
     .split at hx
      .split at hx
       .exact .inl hx
       .exact hE _ _ _ _ (by simp) hx
      .rcases zhq x hx with h|h
       .refine .inl ?_;unfold nowL at h;split at h<;>exact h
       .exact .inr (by simp only[List.length_nil] at h;omega)
theorem zke{l:Lk}{e:Int}: ∀x∈(doL l e).out,x∈l.out\/x.o.length<=10:=by
 intro x hx;unfold doL at hx;exact Y95
theorem zpG{l:Lk}: ∀x∈(zag l).out,x∈l.out\/x.o.length<=10:=by
 intro x hx;unfold zag at hx;split at hx
 .exact Y95
 .exact .inl hx
theorem rdT_len{r:Rd}(h:r.ok):(rdT r).length<=62:=by
 obtain⟨h1,h2,h3⟩:=h;unfold rdT;split
 .unfold Rd.b;rw[List.length_take,List.length_take];omega
 .simp
theorem zjH: ∀(l:List UInt8) (q:Rd×List (List UInt8)×Nat),q.1.ok->(∀t∈q.2.1,t.length<=62)-> ∀t∈(l.foldl rdS q).2.1,t.length<=62
 |[],q,h,hq=>hq
 |c::l,q,h,hq=>zjH l (rdS q c) (zg7 h c) (λt ht=>by
   unfold rdS at ht;dsimp only at ht;split at ht
   .rcases List.mem_append.1 ht with ht|ht
    .exact hq t ht
    .rw[List.mem_singleton] at ht;subst ht;exact rdT_len h
   .exact hq t ht)
theorem zeD{r:Rd}(h:r.ok)(l:List UInt8): ∀t∈(zaP r l).2.1,t.length<=62:=zjH l _ h (λt ht=>by cases ht)
end Go.Proofs.YtimfnpjcedjmiadGreat
