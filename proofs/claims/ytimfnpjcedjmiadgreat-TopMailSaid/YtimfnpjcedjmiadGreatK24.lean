/- Lemmas. -/
import Derived.Test.YtimfnpjcedjmiadGreatK23
set_option maxRecDepth 100000
set_option maxHeartbeats 64000000
set_option linter.all false
namespace Go.Proofs.YtimfnpjcedjmiadGreat
open Go.RowKit
def zmg(to:Int)(t:ByteArray):Int:=if to<1\/6<to\/20<t.size then 1 else 0
noncomputable def zbw(r:Rt)(to:Int)(t:ByteArray):Rt:=if to<1\/6<to\/20<t.size then r else zcg r ⟨to,8,t⟩
theorem zqM(id dr:Int)(b:Ba)(hb:b.ok)(inb:List Mg)(p0 p1 p2:Pt)(to:Int)(t:ByteArray)(hd: -1000000000<=dr/\dr<=1000000000)(hi:inb.length<=10000000)(ho: ∀p∈[p0,p1,p2],p.out.length<=1000000000):Fn Tryz.prog 46 [.box 0 0,.v (.int .i64 to),.v (.string t)] (rtM ⟨id,[p0,p1,p2],b,inb,dr⟩ 0) (.err (zmg to t)) (rtM (zbw ⟨id,[p0,p1,p2],b,inb,dr⟩ to t) 1):=by
 unfold zmg zbw;by_cases hc:to<1\/6<to\/20<t.size
 .rw[if_pos hc,if_pos hc];simp only[rtM,rtH,zaE,rtP,prQ];refine foA zaA [] [] Tryz.func46 Tryz.ntmps46 Tryz.results46 ?_;(all_goals refine gv ?_;repeat' first|exact .intro|refine Tw.mk ?_ ?_|(intro h;first|replace h:=h.o|cases h))
  all_goals (try (exfalso;first|omega|(simp at h;done)))
  all_goals (try ((with_reducible refine Vc.mk ?_);(try exact GLt)))
  all_goals exact Y8
 .rw[if_neg hc,if_neg hc];have ct:=zmA id dr b hb inb p0 p1 p2 to 8 t (by omega) hd ⟨by decide,by decide⟩ hi ho;obtain⟨q0,q1,q2,hq⟩:=lit3 (zeu ⟨id,[p0,p1,p2],b,inb,dr⟩ ⟨to,8,t⟩) rfl;rw[hq] at ct ⊢;clear hq;simp only[rtM,rtH,zaE,rtP,prQ] at ct ⊢;refine foA zaA [] [] Tryz.func46 Tryz.ntmps46 Tryz.results46 ?_;(all_goals refine gv ?_;repeat' first|exact .intro|refine Tw.mk ?_ ?_|(intro h;first|replace h:=h.o|cases h))
  all_goals (try (exfalso;first|omega|(simp at h;done)))
  all_goals ((refine StopCall.fz zaX (ct) ?_;(all_goals refine lv ?_;repeat' first|exact .intro|refine Tw.mk ?_ ?_|(intro h;first|replace h:=h.o|cases h))))
  all_goals exact Y8
theorem out_ok30(id dr:Int)(b:Ba)(inb:List Mg)(p0 p1 p2:Pt):Fn Tryz.prog 50 [.box 0 0,.v (.int .i64 0)] (rtM ⟨id,[p0,p1,p2],b,inb,dr⟩ 0) (.tup [.v (.string (tx p0.out)),.err 0]) (rtM ⟨id,[⟨p0.m,p0.l,p0.rd,p0.rest,p0.p,[]⟩,p1,p2],b,inb,dr⟩ 1):=by
 have at1:=zlI id dr b inb p0 p1 p2;simp only[rtM,rtH,zaE,rtP,prQ] at at1 ⊢;refine foL zaA [] [] Tryz.func50 Tryz.ntmps50 Tryz.results50 ?_;(all_goals refine gv ?_;repeat' first|exact .intro|refine Tw.mk ?_ ?_|(intro h;first|replace h:=h.o|cases h))
 all_goals ((refine StopCall.fz zaX (at1) ?_;(all_goals refine lv ?_;repeat' first|exact .intro|refine Tw.mk ?_ ?_|(intro h;first|replace h:=h.o|cases h))))
 all_goals (try (exfalso;first|omega|(simp at h;done)))
 refine⟨p0.out,by rw[List.take_of_length_le (by simp)];rfl,?_⟩;(all_goals refine gv ?_;repeat' first|exact .intro|refine Tw.mk ?_ ?_|(intro h;first|replace h:=h.o|cases h))
 (first|refine .mk ⟨_,zbb 7 4 8 _ rfl (by decide) rfl rfl,?_⟩|refine⟨_,zbb 7 4 8 _ rfl (by decide) rfl rfl,?_⟩)
 all_goals exact Y8
theorem out_ok31(id dr:Int)(b:Ba)(inb:List Mg)(p0 p1 p2:Pt):Fn Tryz.prog 50 [.box 0 0,.v (.int .i64 1)] (rtM ⟨id,[p0,p1,p2],b,inb,dr⟩ 0) (.tup [.v (.string (tx p1.out)),.err 0]) (rtM ⟨id,[p0,⟨p1.m,p1.l,p1.rd,p1.rest,p1.p,[]⟩,p2],b,inb,dr⟩ 1):=by
 have at1:=zk1 id dr b inb p0 p1 p2;simp only[rtM,rtH,zaE,rtP,prQ] at at1 ⊢;refine foL zaA [] [] Tryz.func50 Tryz.ntmps50 Tryz.results50 ?_;(all_goals refine gv ?_;repeat' first|exact .intro|refine Tw.mk ?_ ?_|(intro h;first|replace h:=h.o|cases h))
 all_goals ((refine StopCall.fz zaX (at1) ?_;(all_goals refine lv ?_;repeat' first|exact .intro|refine Tw.mk ?_ ?_|(intro h;first|replace h:=h.o|cases h))))
 all_goals (try (exfalso;first|omega|(simp at h;done)))
 refine⟨p1.out,by rw[List.take_of_length_le (by simp)];rfl,?_⟩;(all_goals refine gv ?_;repeat' first|exact .intro|refine Tw.mk ?_ ?_|(intro h;first|replace h:=h.o|cases h))
 (first|refine .mk ⟨_,zbb 11 8 8 _ rfl (by decide) rfl rfl,?_⟩|refine⟨_,zbb 11 8 8 _ rfl (by decide) rfl rfl,?_⟩)
 all_goals exact Y8
theorem out_ok32(id dr:Int)(b:Ba)(inb:List Mg)(p0 p1 p2:Pt):Fn Tryz.prog 50 [.box 0 0,.v (.int .i64 2)] (rtM ⟨id,[p0,p1,p2],b,inb,dr⟩ 0) (.tup [.v (.string (tx p2.out)),.err 0]) (rtM ⟨id,[p0,p1,⟨p2.m,p2.l,p2.rd,p2.rest,p2.p,[]⟩],b,inb,dr⟩ 1):=by
 have at1:=zkM id dr b inb p0 p1 p2;simp only[rtM,rtH,zaE,rtP,prQ] at at1 ⊢;refine foL zaA [] [] Tryz.func50 Tryz.ntmps50 Tryz.results50 ?_;(all_goals refine gv ?_;repeat' first|exact .intro|refine Tw.mk ?_ ?_|(intro h;first|replace h:=h.o|cases h))
 all_goals ((refine StopCall.fz zaX (at1) ?_;(all_goals refine lv ?_;repeat' first|exact .intro|refine Tw.mk ?_ ?_|(intro h;first|replace h:=h.o|cases h))))
 all_goals (try (exfalso;first|omega|(simp at h;done)))
 refine⟨p2.out,by rw[List.take_of_length_le (by simp)];rfl,?_⟩;(all_goals refine gv ?_;repeat' first|exact .intro|refine Tw.mk ?_ ?_|(intro h;first|replace h:=h.o|cases h))
 (first|refine .mk ⟨_,zbb 15 12 8 _ rfl (by decide) rfl rfl,?_⟩|refine⟨_,zbb 15 12 8 _ rfl (by decide) rfl rfl,?_⟩)
 all_goals exact Y8
end Go.Proofs.YtimfnpjcedjmiadGreat
