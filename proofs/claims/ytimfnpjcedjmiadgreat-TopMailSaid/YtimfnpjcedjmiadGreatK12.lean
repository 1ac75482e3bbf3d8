/- Lemmas. -/
import Derived.Test.YtimfnpjcedjmiadGreatK8
set_option maxRecDepth 100000
set_option maxHeartbeats 64000000
set_option linter.all false
namespace Go.Proofs.YtimfnpjcedjmiadGreat
open Go.RowKit
theorem zm8(l:List St3)(r a:Int)(hl:zj2 l)(f g:Int->Int)(dn:Int->Bool)(m:Int)(hm1:1<=m)(hm6:m<=6)(ha1:4<=a)(ha6:a<=6)(h0:0<=f a)(h120:f a<=1000)(hmp:0<=met l a m)(hmm:met l a m<=20)(by_:Int)(hby1:a=r->by_=m)(hby2:a≠r->by_=g a)(K:AS->Prop)(X:Nat->AS->Prop)(R:AS->Prop)
  (hk:(met l a m=0\/dn m=true)\/(0<=f m/\lx (f m) (g m) (f a+met l a m) by_)-> ∀A,AS.le 0 A (relA l r a dn (m+1) f g)->K A)
  (ht:met l a m≠0->dn m=false->(f m<0\/lx (f a+met l a m) by_ (f m) (g m))-> ∀A,AS.le 0 A (relA l r a dn (m+1) (upd f m (f a+met l a m)) (upd g m by_))->K A):
  vawp Tryz.prog [] 0 [8,11,19] (zeM Tryz.f39 3) K X R (relA l r a dn m f g):=by
 have hmet:=zgV l a m hl;by_cases har:a=r
 .have hby:=hby1 har;subst hby;refine or3 (by omega:a=4\/a=5\/a=6) (λea=>?_) (λea=>?_) (λea=>?_);all_goals (refine or6 (by omega:by_=1\/by_=2\/by_=3\/by_=4\/by_=5\/by_=6) (λem=>?_) (λem=>?_) (λem=>?_) (λem=>?_) (λem=>?_) (λem=>?_))
  all_goals
   exact Y2
 .have hby:=hby2 har;subst hby;refine or3 (by omega:a=4\/a=5\/a=6) (λea=>?_) (λea=>?_) (λea=>?_);all_goals (refine or6 (by omega:m=1\/m=2\/m=3\/m=4\/m=5\/m=6) (λem=>?_) (λem=>?_) (λem=>?_) (λem=>?_) (λem=>?_) (λem=>?_))
  all_goals
   exact Y2
end Go.Proofs.YtimfnpjcedjmiadGreat
