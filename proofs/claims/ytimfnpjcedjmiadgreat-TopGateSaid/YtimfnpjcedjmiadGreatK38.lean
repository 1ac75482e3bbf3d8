/- Lemmas. -/
import Derived.Test.YtimfnpjcedjmiadGreatK34
import Derived.Test.YtimfnpjcedjmiadGreatK35
import Derived.Test.YtimfnpjcedjmiadGreatK36
import Derived.Test.YtimfnpjcedjmiadGreatK37
set_option maxRecDepth 100000
set_option maxHeartbeats 64000000
set_option linter.all false
namespace Go.Proofs.YtimfnpjcedjmiadGreat
open Go.RowKit
section
variable {k n d e:Nat} {N:Nt}
theorem zg9(hn:n<=10000000)(he:e<=1000000000000)(hk:1<=k/\k<=6)(hN:N.ok k n d e)(v:Nat->Nat):Fn Tryz.prog 37 [.box 0 0] (ntE N v 0) (.tup []) (ntE (zbM N) v 1):=by
 rcases (by omega:k=1\/k=2\/k=3\/k=4\/k=5\/k=6) with h|h|h|h|h|h
 ·exact gather_1 k n d e N v hn he hk hN h
 ·exact gather_2 k n d e N v hn he hk hN h
 ·exact gather_3 k n d e N v hn he hk hN h
 ·exact gather_4 k n d e N v hn he hk hN h
 ·exact gather_5 k n d e N v hn he hk hN h
 ·exact gather_6 k n d e N v hn he hk hN h
theorem zek(hk:1<=k/\k<=6)(hN:N.ok k n d e)(v:Nat->Nat)(i:Int)(hi:i<1\/k<i):Fn Tryz.prog 12 [.box 0 0,.v (.int .i64 i)] (ntE N v 0) (.tup [.v (.pointer none),.err 6]) (ntE N v 0):=by
 obtain⟨rs,cs,mt,ib⟩:=N
 have l2:=hN.ib
 dsimp only at l2
 clear hN
 rcases (by omega:k=1\/k=2\/k=3\/k=4\/k=5\/k=6) with rfl|rfl|rfl|rfl|rfl|rfl
 all_goals
  first|obtain⟨b0,rfl⟩:=len1 l2|obtain⟨b0,b1,rfl⟩:=len2 l2|obtain⟨b0,b1,b2,rfl⟩:=len3 l2|obtain⟨b0,b1,b2,b3,rfl⟩:=len4 l2|obtain⟨b0,b1,b2,b3,b4,rfl⟩:=len5 l2|obtain⟨b0,b1,b2,b3,b4,b5,rfl⟩:=len6 l2
  simp only[ntE,rowsI,resI,List.length_cons,List.length_nil,Nat.zero_add,Nat.reduceAdd]
  refine foL zaA [] [] Tryz.func12 Tryz.ntmps12 Tryz.results12 ?_
  (all_goals refine fx ?_;repeat' first|exact .intro|refine Tw.mk ?_ ?_|(intro h;first|replace h:=h.o|cases h))
  all_goals (try (exfalso;omega))
  all_goals exact Y16
theorem tickE(hn:n<=8000000)(he:e<=900000000000)(hk:1<=k/\k<=6)(hN:N.ok k n d e)(v:Nat->Nat)(i:Int):Fn Tryz.prog 30 [.box 0 0,.v (.int .i64 i)] (ntE N v 0) (.err (if N.has i then 0 else 6)) (ntE (zc6 N i) v 1):=by
 have l2:=hN.ib
 have l1:=hN.rs
 by_cases hi:1<=i/\i<=k
 ·have hh:N.has i=true:=zc9.2 (by rw[l1];exact hi)
  rw[if_pos hh,show zc6 N i=zbM (N.onR i zcW) from if_pos hh]
  obtain⟨r,hr⟩: ∃r,N.rs[(i-1).toNat]? =some r:=⟨_,List.getElem?_eq_getElem (by omega)⟩
  have hf:=hN.r r (getq hr)
  have hk1:=zas hN (m:=n+6630) (f:=d) (by omega) (Nat.le_refl _) i (F:=zcW) (fun r hr=>zk3 hr)
  have hk2:=zdX hk1
  have rt:=zhp hk hN v i hi
  have ct:=ze4 (xrtick (n:=n) (by omega) hf.p3 hf.f) hr (zbY (v:=v) (k:=k) (by omega)) rfl rfl
  have gc:=zg9 (by omega) (by omega) hk hk1 v
  rw[zbo hr] at gc hk2 ⊢
  generalize zbM _=N2 at gc hk2 ⊢
  have l3:=hk2.ib
  clear hh hk1 hk2 hf hr hN
  obtain⟨rs,cs,mt,ib⟩:=N
  obtain⟨rs2,cs2,mt2,ib2⟩:=N2
  dsimp only at l2 l3 gc ct
  rcases (by omega:k=1\/k=2\/k=3\/k=4\/k=5\/k=6) with hkk|hkk|hkk|hkk|hkk|hkk
  all_goals
   rw[hkk] at l2 l3 ct
   first|obtain⟨b0,rfl⟩:=len1 l2|obtain⟨b0,b1,rfl⟩:=len2 l2|obtain⟨b0,b1,b2,rfl⟩:=len3 l2|obtain⟨b0,b1,b2,b3,rfl⟩:=len4 l2|obtain⟨b0,b1,b2,b3,b4,rfl⟩:=len5 l2|obtain⟨b0,b1,b2,b3,b4,b5,rfl⟩:=len6 l2
   first|obtain⟨b0,rfl⟩:=len1 l3|obtain⟨b0,b1,rfl⟩:=len2 l3|obtain⟨b0,b1,b2,rfl⟩:=len3 l3|obtain⟨b0,b1,b2,b3,rfl⟩:=len4 l3|obtain⟨b0,b1,b2,b3,b4,rfl⟩:=len5 l3|obtain⟨b0,b1,b2,b3,b4,b5,rfl⟩:=len6 l3
   simp only[ntE,rowsI,resI,List.length_cons,List.length_nil,Nat.zero_add,Nat.reduceAdd] at rt gc ⊢
   refine foL zaA [] [] Tryz.func30 Tryz.ntmps30 Tryz.results30 ?_
   (all_goals refine fx ?_;repeat' first|exact .intro|refine Tw.mk ?_ ?_|(intro h;first|replace h:=h.o|cases h))
   all_goals ((refine zbN (rt) ?_;(all_goals refine fx ?_;repeat' first|exact .intro|refine Tw.mk ?_ ?_|(intro h;first|replace h:=h.o|cases h))))
   all_goals (try (exfalso;omega))
   all_goals ((refine StopCall.fz [5] (ct) ?_;(all_goals refine fx ?_;repeat' first|exact .intro|refine Tw.mk ?_ ?_|(intro h;first|replace h:=h.o|cases h))))
   all_goals ((refine zbN (gc) ?_;(all_goals refine fx ?_;repeat' first|exact .intro|refine Tw.mk ?_ ?_|(intro h;first|replace h:=h.o|cases h))))
   all_goals exact Y16
 ·have hh: ¬N.has i=true:=fun h=>hi (by have:=zc9.1 h;rw[l1] at this;exact this)
  rw[if_neg hh,show zc6 N i=N from if_neg hh]
  have rt:=zek hk hN v i (by omega)
  clear hh hN
  obtain⟨rs,cs,mt,ib⟩:=N
  dsimp only at l2
  rcases (by omega:k=1\/k=2\/k=3\/k=4\/k=5\/k=6) with hkk|hkk|hkk|hkk|hkk|hkk
  all_goals
   rw[hkk] at l2
   first|obtain⟨b0,rfl⟩:=len1 l2|obtain⟨b0,b1,rfl⟩:=len2 l2|obtain⟨b0,b1,b2,rfl⟩:=len3 l2|obtain⟨b0,b1,b2,b3,rfl⟩:=len4 l2|obtain⟨b0,b1,b2,b3,b4,rfl⟩:=len5 l2|obtain⟨b0,b1,b2,b3,b4,b5,rfl⟩:=len6 l2
   simp only[ntE,rowsI,resI,List.length_cons,List.length_nil,Nat.zero_add,Nat.reduceAdd] at rt ⊢
   refine foL zaA [] [] Tryz.func30 Tryz.ntmps30 Tryz.results30 ?_
   (all_goals refine fx ?_;repeat' first|exact .intro|refine Tw.mk ?_ ?_|(intro h;first|replace h:=h.o|cases h))
   all_goals ((refine zbN (rt) ?_;(all_goals refine fx ?_;repeat' first|exact .intro|refine Tw.mk ?_ ?_|(intro h;first|replace h:=h.o|cases h))))
   all_goals (try (exfalso;omega))
   all_goals exact Y16
theorem sendE'(hn:n<=8000000)(hd:d<=800000000)(he:e<=900000000000)(hk:1<=k/\k<=6)(hN:N.ok k n d e)(v:Nat->Nat)(i to:Int)(t:ByteArray):Fn Tryz.prog 33 [.box 0 0,.v (.int .i64 i),.v (.int .i64 to),.v (.string t)] (ntE N v 0) (.err (if N.has i then zl0 to t else 6)) (ntE (zgs N i to t) v 1):=by
 have l2:=hN.ib
 have l1:=hN.rs
 by_cases hi:1<=i/\i<=k
 ·have hh:N.has i=true:=zc9.2 (by rw[l1];exact hi)
  rw[if_pos hh,show zgs N i to t=zbM (N.onR i (fun r=>zcY r to t)) from if_pos hh]
  obtain⟨r,hr⟩: ∃r,N.rs[(i-1).toNat]? =some r:=⟨_,List.getElem?_eq_getElem (by omega)⟩
  have hf:=hN.r r (getq hr)
  have hk1:=zas hN (m:=n+6630) (f:=d+1) (by omega) (by omega) i (F:=fun r=>zcY r to t) (fun r hr=>zhd hr to t)
  have hk2:=zdX hk1
  have rt:=zhp hk hN v i hi
  have ct:=ze4 (xrsend (n:=n) (by omega) (by omega) hf.p3 hf.f to t) hr (zbY (v:=v) (k:=k) (by omega)) rfl rfl
  have gc:=zg9 (by omega) (by omega) hk hk1 v
  rw[zbo hr] at gc hk2 ⊢
  generalize zbM _=N2 at gc hk2 ⊢
  have l3:=hk2.ib
  clear hh hk1 hk2 hf hr hN
  obtain⟨rs,cs,mt,ib⟩:=N
  obtain⟨rs2,cs2,mt2,ib2⟩:=N2
  dsimp only at l2 l3 gc ct
  rcases (by omega:k=1\/k=2\/k=3\/k=4\/k=5\/k=6) with hkk|hkk|hkk|hkk|hkk|hkk
  all_goals
   rw[hkk] at l2 l3 ct
   first|obtain⟨b0,rfl⟩:=len1 l2|obtain⟨b0,b1,rfl⟩:=len2 l2|obtain⟨b0,b1,b2,rfl⟩:=len3 l2|obtain⟨b0,b1,b2,b3,rfl⟩:=len4 l2|obtain⟨b0,b1,b2,b3,b4,rfl⟩:=len5 l2|obtain⟨b0,b1,b2,b3,b4,b5,rfl⟩:=len6 l2
   first|obtain⟨b0,rfl⟩:=len1 l3|obtain⟨b0,b1,rfl⟩:=len2 l3|obtain⟨b0,b1,b2,rfl⟩:=len3 l3|obtain⟨b0,b1,b2,b3,rfl⟩:=len4 l3|obtain⟨b0,b1,b2,b3,b4,rfl⟩:=len5 l3|obtain⟨b0,b1,b2,b3,b4,b5,rfl⟩:=len6 l3
   simp only[ntE,rowsI,resI,List.length_cons,List.length_nil,Nat.zero_add,Nat.reduceAdd] at rt gc ⊢
   refine foL zaA [] [] Tryz.func33 Tryz.ntmps33 Tryz.results33 ?_
   (all_goals refine fx ?_;repeat' first|exact .intro|refine Tw.mk ?_ ?_|(intro h;first|replace h:=h.o|cases h))
   all_goals ((refine zbN (rt) ?_;(all_goals refine fx ?_;repeat' first|exact .intro|refine Tw.mk ?_ ?_|(intro h;first|replace h:=h.o|cases h))))
   all_goals (try (exfalso;omega))
   all_goals ((refine StopCall.fz [5] (ct) ?_;(all_goals refine fx ?_;repeat' first|exact .intro|refine Tw.mk ?_ ?_|(intro h;first|replace h:=h.o|cases h))))
   all_goals ((refine zbN (gc) ?_;(all_goals refine fx ?_;repeat' first|exact .intro|refine Tw.mk ?_ ?_|(intro h;first|replace h:=h.o|cases h))))
   all_goals exact Y16
 ·have hh: ¬N.has i=true:=fun h=>hi (by have:=zc9.1 h;rw[l1] at this;exact this)
  rw[if_neg hh,show zgs N i to t=N from if_neg hh]
  have rt:=zek hk hN v i (by omega)
  clear hh hN
  obtain⟨rs,cs,mt,ib⟩:=N
  dsimp only at l2
  rcases (by omega:k=1\/k=2\/k=3\/k=4\/k=5\/k=6) with hkk|hkk|hkk|hkk|hkk|hkk
  all_goals
   rw[hkk] at l2
   first|obtain⟨b0,rfl⟩:=len1 l2|obtain⟨b0,b1,rfl⟩:=len2 l2|obtain⟨b0,b1,b2,rfl⟩:=len3 l2|obtain⟨b0,b1,b2,b3,rfl⟩:=len4 l2|obtain⟨b0,b1,b2,b3,b4,rfl⟩:=len5 l2|obtain⟨b0,b1,b2,b3,b4,b5,rfl⟩:=len6 l2
   simp only[ntE,rowsI,resI,List.length_cons,List.length_nil,Nat.zero_add,Nat.reduceAdd] at rt ⊢
   refine foL zaA [] [] Tryz.func33 Tryz.ntmps33 Tryz.results33 ?_
   (all_goals refine fx ?_;repeat' first|exact .intro|refine Tw.mk ?_ ?_|(intro h;first|replace h:=h.o|cases h))
   all_goals ((refine zbN (rt) ?_;(all_goals refine fx ?_;repeat' first|exact .intro|refine Tw.mk ?_ ?_|(intro h;first|replace h:=h.o|cases h))))
   all_goals (try (exfalso;omega))
   all_goals exact Y16
theorem onE(hk:1<=k/\k<=6)(hN:N.ok k n d e)(v:Nat->Nat)(i way:Int):Fn Tryz.prog 22 [.box 0 0,.v (.int .i64 i),.v (.int .i64 way)] (ntE N v 0) (.tup [.v (.int .i64 (non N i way)),.err (zdo N i way)]) (ntE N v 0):=by
 have l2:=hN.ib
 have hcs9:=hN.cs
 clear hN
 by_cases hi:(0<=i/\i<N.cs.length)/\0<=way/\way<=1
 ·obtain⟨hi,hway⟩:=hi
  have hi2:=hi.2
  obtain⟨I,rfl⟩: ∃I:Nat,i=(I:Int):=⟨i.toNat,by omega⟩
  have hIl:I<N.cs.length:=by omega
  obtain⟨c,hc⟩: ∃c,N.cs[I]? =some c:=⟨_,List.getElem?_eq_getElem hIl⟩
  have hcb:N.cb (I:Int)=some c:=by unfold Nt.cb;rw[if_neg (by omega)];exact hc
  rw[show zdo N I way=0 from by unfold zdo;rw[if_neg (by omega),hcb];rfl,show non N I way=(if way=0 then (c.w0.length:Int) else if way=1 then (c.w1.length:Int) else 0) from by unfold non;rw[hcb]]
  clear hcb
  obtain⟨ca,cpa,cb,cpb,cm,inn,w0,w1⟩:=c
  have hrow:(N.cs.map zaw)[I]? =some [.v (.int .i64 ca),.v (.int .i64 cpa),.v (.int .i64 cb),.v (.int .i64 cpb),.v (.int .i64 cm),.v (.bool inn),.v (.string (tx w0)),.v (.string (tx w1))]:=zdc hc
  have hz0:(tx w0).size=w0.length:=tx_size
  have hz1:(tx w1).size=w1.length:=tx_size
  obtain⟨rs,cs,mt,ib⟩:=N
  dsimp only at l2 hcs9 hi hi2 hIl hc hrow
  rcases (by omega:way=0\/way=1) with rfl|rfl
  all_goals
   rcases (by omega:k=1\/k=2\/k=3\/k=4\/k=5\/k=6) with rfl|rfl|rfl|rfl|rfl|rfl
   all_goals
    first|obtain⟨b0,rfl⟩:=len1 l2|obtain⟨b0,b1,rfl⟩:=len2 l2|obtain⟨b0,b1,b2,rfl⟩:=len3 l2|obtain⟨b0,b1,b2,b3,rfl⟩:=len4 l2|obtain⟨b0,b1,b2,b3,b4,rfl⟩:=len5 l2|obtain⟨b0,b1,b2,b3,b4,b5,rfl⟩:=len6 l2
    simp only[ntE,rowsI,resI,List.length_cons,List.length_nil,Nat.zero_add,Nat.reduceAdd]
    refine foA zaA [] [] Tryz.func22 Tryz.ntmps22 Tryz.results22 ?_
    (all_goals refine fx ?_;repeat' first|exact .intro|refine Tw.mk ?_ ?_|(intro h;first|replace h:=h.o|cases h))
    all_goals (try (exfalso;omega))
    all_goals (((try (conv=>whnf));refine zeU ?_;repeat' first|exact .intro|refine Tw.mk ?_ ?_);all_goals (first|rfl|(simp [hz0,hz1];done)))
 ·have hcb:0<=way/\way<=1->N.cb i=none:=fun hw=>by
   exact Y101
  rw[show zdo N i way=6 from by unfold zdo;split;rfl;rw[hcb (by omega)];rfl,show non N i way=0 from by
   by_cases hw:0<=way/\way<=1
   ·unfold non;rw[hcb hw]
   ·unfold non;split;rfl;rw[if_neg (by omega),if_neg (by omega)]]
  obtain⟨rs,cs,mt,ib⟩:=N
  dsimp only at l2 hcs9 hi
  rcases (by omega:k=1\/k=2\/k=3\/k=4\/k=5\/k=6) with rfl|rfl|rfl|rfl|rfl|rfl
  all_goals
   first|obtain⟨b0,rfl⟩:=len1 l2|obtain⟨b0,b1,rfl⟩:=len2 l2|obtain⟨b0,b1,b2,rfl⟩:=len3 l2|obtain⟨b0,b1,b2,b3,rfl⟩:=len4 l2|obtain⟨b0,b1,b2,b3,b4,rfl⟩:=len5 l2|obtain⟨b0,b1,b2,b3,b4,b5,rfl⟩:=len6 l2
   simp only[ntE,rowsI,resI,List.length_cons,List.length_nil,Nat.zero_add,Nat.reduceAdd]
   refine foA zaA [] [] Tryz.func22 Tryz.ntmps22 Tryz.results22 ?_
   (all_goals refine fx ?_;repeat' first|exact .intro|refine Tw.mk ?_ ?_|(intro h;first|replace h:=h.o|cases h))
   all_goals (try (exfalso;omega))
   all_goals (((try (conv=>whnf));refine zeU ?_;repeat' first|exact .intro|refine Tw.mk ?_ ?_))
end
end Go.Proofs.YtimfnpjcedjmiadGreat
