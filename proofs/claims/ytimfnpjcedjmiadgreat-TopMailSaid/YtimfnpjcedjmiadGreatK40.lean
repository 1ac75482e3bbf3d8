/- Lemmas. -/
import Derived.Test.YtimfnpjcedjmiadGreatK36
import Derived.Test.YtimfnpjcedjmiadGreatK37
import Derived.Test.YtimfnpjcedjmiadGreatK38
import Derived.Test.YtimfnpjcedjmiadGreatK39
set_option maxRecDepth 100000
set_option maxHeartbeats 64000000
set_option linter.all false
namespace Go.Proofs.YtimfnpjcedjmiadGreat
open Go.RowKit
section
variable {k n d e:Nat} {N:Nt}
theorem zg5(hn:n<=10000000)(he:e<=1000000000000)(hk:1<=k/\k<=6)(hN:N.ok k n d e)(v:Nat->Nat):Fn Tryz.prog 37 [.box 0 0] (ntE N v 0) (.tup []) (ntE (zbO N) v 1):=by
 rcases (by omega:k=1\/k=2\/k=3\/k=4\/k=5\/k=6) with h|h|h|h|h|h
 .exact gather_1 k n d e N v hn he hk hN h
 .exact gather_2 k n d e N v hn he hk hN h
 .exact gather_3 k n d e N v hn he hk hN h
 .exact gather_4 k n d e N v hn he hk hN h
 .exact gather_5 k n d e N v hn he hk hN h
 .exact gather_6 k n d e N v hn he hk hN h
theorem zfS(hk:1<=k/\k<=6)(hN:N.ok k n d e)(v:Nat->Nat)(i:Int)(hi:i<1\/k<i):Fn Tryz.prog 12 [.box 0 0,.v (.int .i64 i)] (ntE N v 0) (.tup [.v (.pointer none),.err 6]) (ntE N v 0):=by
 obtain⟨rs,cs,mt,ib⟩:=N;have l2:=hN.ib;dsimp only at l2;clear hN;rcases (by omega:k=1\/k=2\/k=3\/k=4\/k=5\/k=6) with rfl|rfl|rfl|rfl|rfl|rfl;all_goals
  first|obtain⟨b0,rfl⟩:=len1 l2|obtain⟨b0,b1,rfl⟩:=len2 l2|obtain⟨b0,b1,b2,rfl⟩:=len3 l2|obtain⟨b0,b1,b2,b3,rfl⟩:=len4 l2|obtain⟨b0,b1,b2,b3,b4,rfl⟩:=len5 l2|obtain⟨b0,b1,b2,b3,b4,b5,rfl⟩:=len6 l2
  simp only[ntE,rowsI,resI,List.length_cons,List.length_nil,Nat.zero_add,Nat.reduceAdd];refine foL zaA [] [] Tryz.func12 Tryz.ntmps12 Tryz.results12 ?_;(all_goals refine fx ?_;repeat' first|exact .intro|refine Tw.mk ?_ ?_|(intro h;first|replace h:=h.o|cases h))
  all_goals (try (exfalso;omega))
  all_goals exact Y15
theorem tickE(hn:n<=8000000)(he:e<=900000000000)(hk:1<=k/\k<=6)(hN:N.ok k n d e)(v:Nat->Nat)(i:Int):Fn Tryz.prog 30 [.box 0 0,.v (.int .i64 i)] (ntE N v 0) (.err (if N.has i then 0 else 6)) (ntE (zdH N i) v 1):=by
 have l2:=hN.ib;have l1:=hN.rs;by_cases hi:1<=i/\i<=k
 .have hh:N.has i=true:=zcI.2 (by rw[l1];exact hi);rw[if_pos hh,show zdH N i=zbO (N.onR i zch) from if_pos hh];obtain⟨r,hr⟩: ∃r,N.rs[(i-1).toNat]? =some r:=⟨_,List.getElem?_eq_getElem (by omega)⟩;have hf:=hN.r r (getq hr);have hk1:=zat hN (m:=n+6630) (f:=d) (by omega) (Nat.le_refl _) i (F:=zch) (λr hr=>zk3 hr);have hk2:=zdh hk1;have rt:=zi8 hk hN v i hi;have ct:=zeT (xrtick (n:=n) (by omega) hf.p3 hf.f) hr (zb4 (v:=v) (k:=k) (by omega)) rfl rfl;have gc:=zg5 (by omega) (by omega) hk hk1 v;rw[zcC hr] at gc hk2 ⊢;generalize zbO _=N2 at gc hk2 ⊢;have l3:=hk2.ib;clear hh hk1 hk2 hf hr hN;obtain⟨rs,cs,mt,ib⟩:=N;obtain⟨rs2,cs2,mt2,ib2⟩:=N2;dsimp only at l2 l3 gc ct;rcases (by omega:k=1\/k=2\/k=3\/k=4\/k=5\/k=6) with hkk|hkk|hkk|hkk|hkk|hkk
  all_goals
   rw[hkk] at l2 l3 ct;first|obtain⟨b0,rfl⟩:=len1 l2|obtain⟨b0,b1,rfl⟩:=len2 l2|obtain⟨b0,b1,b2,rfl⟩:=len3 l2|obtain⟨b0,b1,b2,b3,rfl⟩:=len4 l2|obtain⟨b0,b1,b2,b3,b4,rfl⟩:=len5 l2|obtain⟨b0,b1,b2,b3,b4,b5,rfl⟩:=len6 l2
   first|obtain⟨b0,rfl⟩:=len1 l3|obtain⟨b0,b1,rfl⟩:=len2 l3|obtain⟨b0,b1,b2,rfl⟩:=len3 l3|obtain⟨b0,b1,b2,b3,rfl⟩:=len4 l3|obtain⟨b0,b1,b2,b3,b4,rfl⟩:=len5 l3|obtain⟨b0,b1,b2,b3,b4,b5,rfl⟩:=len6 l3
   simp only[ntE,rowsI,resI,List.length_cons,List.length_nil,Nat.zero_add,Nat.reduceAdd] at rt gc ⊢;refine foL zaA [] [] Tryz.func30 Tryz.ntmps30 Tryz.results30 ?_;(all_goals refine fx ?_;repeat' first|exact .intro|refine Tw.mk ?_ ?_|(intro h;first|replace h:=h.o|cases h))
   all_goals ((refine zbW (rt) ?_;(all_goals refine fx ?_;repeat' first|exact .intro|refine Tw.mk ?_ ?_|(intro h;first|replace h:=h.o|cases h))))
   all_goals (try (exfalso;omega))
   all_goals ((refine StopCall.fz [5] (ct) ?_;(all_goals refine fx ?_;repeat' first|exact .intro|refine Tw.mk ?_ ?_|(intro h;first|replace h:=h.o|cases h))))
   all_goals ((refine zbW (gc) ?_;(all_goals refine fx ?_;repeat' first|exact .intro|refine Tw.mk ?_ ?_|(intro h;first|replace h:=h.o|cases h))))
   all_goals exact Y15
 .have hh: ¬N.has i=true:=λh=>hi (by have:=zcI.1 h;rw[l1] at this;exact this);rw[if_neg hh,show zdH N i=N from if_neg hh];have rt:=zfS hk hN v i (by omega);clear hh hN;obtain⟨rs,cs,mt,ib⟩:=N;dsimp only at l2;rcases (by omega:k=1\/k=2\/k=3\/k=4\/k=5\/k=6) with hkk|hkk|hkk|hkk|hkk|hkk
  all_goals
   rw[hkk] at l2;first|obtain⟨b0,rfl⟩:=len1 l2|obtain⟨b0,b1,rfl⟩:=len2 l2|obtain⟨b0,b1,b2,rfl⟩:=len3 l2|obtain⟨b0,b1,b2,b3,rfl⟩:=len4 l2|obtain⟨b0,b1,b2,b3,b4,rfl⟩:=len5 l2|obtain⟨b0,b1,b2,b3,b4,b5,rfl⟩:=len6 l2
   simp only[ntE,rowsI,resI,List.length_cons,List.length_nil,Nat.zero_add,Nat.reduceAdd] at rt ⊢;refine foL zaA [] [] Tryz.func30 Tryz.ntmps30 Tryz.results30 ?_;(all_goals refine fx ?_;repeat' first|exact .intro|refine Tw.mk ?_ ?_|(intro h;first|replace h:=h.o|cases h))
   all_goals ((refine zbW (rt) ?_;(all_goals refine fx ?_;repeat' first|exact .intro|refine Tw.mk ?_ ?_|(intro h;first|replace h:=h.o|cases h))))
   all_goals (try (exfalso;omega))
   all_goals exact Y15
theorem sendE'(hn:n<=8000000)(hd:d<=800000000)(he:e<=900000000000)(hk:1<=k/\k<=6)(hN:N.ok k n d e)(v:Nat->Nat)(i to:Int)(t:ByteArray):Fn Tryz.prog 33 [.box 0 0,.v (.int .i64 i),.v (.int .i64 to),.v (.string t)] (ntE N v 0) (.err (if N.has i then zmg to t else 6)) (ntE (zfm N i to t) v 1):=by
 have l2:=hN.ib;have l1:=hN.rs;by_cases hi:1<=i/\i<=k
 .have hh:N.has i=true:=zcI.2 (by rw[l1];exact hi);rw[if_pos hh,show zfm N i to t=zbO (N.onR i (λr=>zbw r to t)) from if_pos hh];obtain⟨r,hr⟩: ∃r,N.rs[(i-1).toNat]? =some r:=⟨_,List.getElem?_eq_getElem (by omega)⟩;have hf:=hN.r r (getq hr);have hk1:=zat hN (m:=n+6630) (f:=d+1) (by omega) (by omega) i (F:=λr=>zbw r to t) (λr hr=>zhp hr to t);have hk2:=zdh hk1;have rt:=zi8 hk hN v i hi;have ct:=zeT (xrsend (n:=n) (by omega) (by omega) hf.p3 hf.f to t) hr (zb4 (v:=v) (k:=k) (by omega)) rfl rfl;have gc:=zg5 (by omega) (by omega) hk hk1 v;rw[zcC hr] at gc hk2 ⊢;generalize zbO _=N2 at gc hk2 ⊢;have l3:=hk2.ib;clear hh hk1 hk2 hf hr hN;obtain⟨rs,cs,mt,ib⟩:=N;obtain⟨rs2,cs2,mt2,ib2⟩:=N2;dsimp only at l2 l3 gc ct;rcases (by omega:k=1\/k=2\/k=3\/k=4\/k=5\/k=6) with hkk|hkk|hkk|hkk|hkk|hkk
  all_goals
   rw[hkk] at l2 l3 ct;first|obtain⟨b0,rfl⟩:=len1 l2|obtain⟨b0,b1,rfl⟩:=len2 l2|obtain⟨b0,b1,b2,rfl⟩:=len3 l2|obtain⟨b0,b1,b2,b3,rfl⟩:=len4 l2|obtain⟨b0,b1,b2,b3,b4,rfl⟩:=len5 l2|obtain⟨b0,b1,b2,b3,b4,b5,rfl⟩:=len6 l2
   first|obtain⟨b0,rfl⟩:=len1 l3|obtain⟨b0,b1,rfl⟩:=len2 l3|obtain⟨b0,b1,b2,rfl⟩:=len3 l3|obtain⟨b0,b1,b2,b3,rfl⟩:=len4 l3|obtain⟨b0,b1,b2,b3,b4,rfl⟩:=len5 l3|obtain⟨b0,b1,b2,b3,b4,b5,rfl⟩:=len6 l3
   simp only[ntE,rowsI,resI,List.length_cons,List.length_nil,Nat.zero_add,Nat.reduceAdd] at rt gc ⊢;refine foL zaA [] [] Tryz.func33 Tryz.ntmps33 Tryz.results33 ?_;(all_goals refine fx ?_;repeat' first|exact .intro|refine Tw.mk ?_ ?_|(intro h;first|replace h:=h.o|cases h))
   all_goals ((refine zbW (rt) ?_;(all_goals refine fx ?_;repeat' first|exact .intro|refine Tw.mk ?_ ?_|(intro h;first|replace h:=h.o|cases h))))
   all_goals (try (exfalso;omega))
   all_goals ((refine StopCall.fz [5] (ct) ?_;(all_goals refine fx ?_;repeat' first|exact .intro|refine Tw.mk ?_ ?_|(intro h;first|replace h:=h.o|cases h))))
   all_goals ((refine zbW (gc) ?_;(all_goals refine fx ?_;repeat' first|exact .intro|refine Tw.mk ?_ ?_|(intro h;first|replace h:=h.o|cases h))))
   all_goals exact Y15
 .have hh: ¬N.has i=true:=λh=>hi (by have:=zcI.1 h;rw[l1] at this;exact this);rw[if_neg hh,show zfm N i to t=N from if_neg hh];have rt:=zfS hk hN v i (by omega);clear hh hN;obtain⟨rs,cs,mt,ib⟩:=N;dsimp only at l2;rcases (by omega:k=1\/k=2\/k=3\/k=4\/k=5\/k=6) with hkk|hkk|hkk|hkk|hkk|hkk
  all_goals
   rw[hkk] at l2;first|obtain⟨b0,rfl⟩:=len1 l2|obtain⟨b0,b1,rfl⟩:=len2 l2|obtain⟨b0,b1,b2,rfl⟩:=len3 l2|obtain⟨b0,b1,b2,b3,rfl⟩:=len4 l2|obtain⟨b0,b1,b2,b3,b4,rfl⟩:=len5 l2|obtain⟨b0,b1,b2,b3,b4,b5,rfl⟩:=len6 l2
   simp only[ntE,rowsI,resI,List.length_cons,List.length_nil,Nat.zero_add,Nat.reduceAdd] at rt ⊢;refine foL zaA [] [] Tryz.func33 Tryz.ntmps33 Tryz.results33 ?_;(all_goals refine fx ?_;repeat' first|exact .intro|refine Tw.mk ?_ ?_|(intro h;first|replace h:=h.o|cases h))
   all_goals ((refine zbW (rt) ?_;(all_goals refine fx ?_;repeat' first|exact .intro|refine Tw.mk ?_ ?_|(intro h;first|replace h:=h.o|cases h))))
   all_goals (try (exfalso;omega))
   all_goals exact Y15
end
end Go.Proofs.YtimfnpjcedjmiadGreat
