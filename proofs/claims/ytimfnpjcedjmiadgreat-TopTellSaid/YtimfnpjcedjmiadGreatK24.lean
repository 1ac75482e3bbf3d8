/- Lemmas. -/
import Derived.Test.YtimfnpjcedjmiadGreatK23
set_option maxRecDepth 100000
set_option maxHeartbeats 64000000
set_option linter.all false
namespace Go.Proofs.YtimfnpjcedjmiadGreat
open Go.RowKit
def zms(to:Int)(t:ByteArray):Int:=if to<1\/6<to\/20<t.size then 1 else 0
noncomputable def zcH(r:Rt)(to:Int)(t:ByteArray):Rt:=if to<1\/6<to\/20<t.size then r else zdB r ⟨to,8,t⟩
theorem zm7(id dr:Int)(b:Ba)(hb:b.ok)(inb:List Mg)(p0 p1 p2:Pt):Fn Tryz.prog 15 [.box 0 0] (rtM ⟨id,[p0,p1,p2],b,inb,dr⟩ 0) (.sl 3 ((stsB b).map zaF) none) (rtM ⟨id,[p0,p1,p2],b,inb,dr⟩ 0):=by
 have st:=zh9 hb;generalize stsB b=S at *
 simp only[rtM,rtH,zaE,rtP,prQ];refine foA zaA [] [] Tryz.func15 Tryz.ntmps15 Tryz.results15 ?_;(all_goals refine gv ?_;repeat' first|exact .intro|refine Tw.mk ?_ ?_|(intro h;first|replace h:=h.o|cases h))
 all_goals ((refine StopCall.fz [2] (st) ?_;(all_goals refine lv ?_;repeat' first|exact .intro|refine Tw.mk ?_ ?_|(intro h;first|replace h:=h.o|cases h))))
 all_goals exact Y5
theorem znT(id dr:Int)(b:Ba)(hb:b.ok)(inb:List Mg)(p0 p1 p2:Pt)(to:Int)(t:ByteArray)(hd: -1000000000<=dr/\dr<=1000000000)(hi:inb.length<=10000000)(ho: ∀p∈[p0,p1,p2],p.out.length<=1000000000):Fn Tryz.prog 46 [.box 0 0,.v (.int .i64 to),.v (.string t)] (rtM ⟨id,[p0,p1,p2],b,inb,dr⟩ 0) (.err (zms to t)) (rtM (zcH ⟨id,[p0,p1,p2],b,inb,dr⟩ to t) 1):=by
 unfold zms zcH;by_cases hc:to<1\/6<to\/20<t.size
 .rw[if_pos hc,if_pos hc];simp only[rtM,rtH,zaE,rtP,prQ];refine foA zaA [] [] Tryz.func46 Tryz.ntmps46 Tryz.results46 ?_;(all_goals refine gv ?_;repeat' first|exact .intro|refine Tw.mk ?_ ?_|(intro h;first|replace h:=h.o|cases h))
  all_goals (try (exfalso;first|omega|(simp at h;done)))
  all_goals (try ((with_reducible refine Vc.mk ?_);(try exact GLt)))
  all_goals exact Y5
 .rw[if_neg hc,if_neg hc];have ct:=zlU id dr b hb inb p0 p1 p2 to 8 t (by omega) hd ⟨by decide,by decide⟩ hi ho;obtain⟨q0,q1,q2,hq⟩:=lit3 (zeW ⟨id,[p0,p1,p2],b,inb,dr⟩ ⟨to,8,t⟩) rfl;rw[hq] at ct ⊢;clear hq;simp only[rtM,rtH,zaE,rtP,prQ] at ct ⊢;refine foA zaA [] [] Tryz.func46 Tryz.ntmps46 Tryz.results46 ?_;(all_goals refine gv ?_;repeat' first|exact .intro|refine Tw.mk ?_ ?_|(intro h;first|replace h:=h.o|cases h))
  all_goals (try (exfalso;first|omega|(simp at h;done)))
  all_goals ((refine StopCall.fz zaT (ct) ?_;(all_goals refine lv ?_;repeat' first|exact .intro|refine Tw.mk ?_ ?_|(intro h;first|replace h:=h.o|cases h))))
  all_goals exact Y5
theorem zpS(id dr:Int)(b:Ba)(inb:List Mg)(p0 p1 p2:Pt):Fn Tryz.prog 13 [.box 0 0,.v (.int .i64 0)] (rtM ⟨id,[p0,p1,p2],b,inb,dr⟩ 0) (.tup [.agg (peRow p0.p),.err 0]) (rtM ⟨id,[p0,p1,p2],b,inb,dr⟩ 0):=by
 have at1:=zi4 id dr b inb p0 p1 p2;simp only[rtM,rtH,zaE,rtP,prQ,peRow] at at1 ⊢;refine foA zaA [] [] Tryz.func13 Tryz.ntmps13 Tryz.results13 ?_;(all_goals refine gv ?_;repeat' first|exact .intro|refine Tw.mk ?_ ?_|(intro h;first|replace h:=h.o|cases h))
 all_goals ((refine StopCall.fz zaT (at1) ?_;(all_goals refine lv ?_;repeat' first|exact .intro|refine Tw.mk ?_ ?_|(intro h;first|replace h:=h.o|cases h))))
 all_goals (try (exfalso;first|omega|(simp at h;done)))
 all_goals exact Y5
theorem out_ok30(id dr:Int)(b:Ba)(inb:List Mg)(p0 p1 p2:Pt):Fn Tryz.prog 50 [.box 0 0,.v (.int .i64 0)] (rtM ⟨id,[p0,p1,p2],b,inb,dr⟩ 0) (.tup [.v (.string (tx p0.out)),.err 0]) (rtM ⟨id,[⟨p0.m,p0.l,p0.rd,p0.rest,p0.p,[]⟩,p1,p2],b,inb,dr⟩ 1):=by
 have at1:=zi4 id dr b inb p0 p1 p2;simp only[rtM,rtH,zaE,rtP,prQ] at at1 ⊢;refine foL zaA [] [] Tryz.func50 Tryz.ntmps50 Tryz.results50 ?_;(all_goals refine gv ?_;repeat' first|exact .intro|refine Tw.mk ?_ ?_|(intro h;first|replace h:=h.o|cases h))
 all_goals ((refine StopCall.fz zaT (at1) ?_;(all_goals refine lv ?_;repeat' first|exact .intro|refine Tw.mk ?_ ?_|(intro h;first|replace h:=h.o|cases h))))
 all_goals (try (exfalso;first|omega|(simp at h;done)))
 refine⟨p0.out,by rw[List.take_of_length_le (by simp)];rfl,?_⟩;(all_goals refine gv ?_;repeat' first|exact .intro|refine Tw.mk ?_ ?_|(intro h;first|replace h:=h.o|cases h))
 (first|refine .mk ⟨_,zb9 7 4 8 _ rfl (by decide) rfl rfl,?_⟩|refine⟨_,zb9 7 4 8 _ rfl (by decide) rfl rfl,?_⟩)
 all_goals exact Y5
theorem zoW(id dr:Int)(b:Ba)(inb:List Mg)(p0 p1 p2:Pt):Fn Tryz.prog 13 [.box 0 0,.v (.int .i64 1)] (rtM ⟨id,[p0,p1,p2],b,inb,dr⟩ 0) (.tup [.agg (peRow p1.p),.err 0]) (rtM ⟨id,[p0,p1,p2],b,inb,dr⟩ 0):=by
 have at1:=zim id dr b inb p0 p1 p2;simp only[rtM,rtH,zaE,rtP,prQ,peRow] at at1 ⊢;refine foA zaA [] [] Tryz.func13 Tryz.ntmps13 Tryz.results13 ?_;(all_goals refine gv ?_;repeat' first|exact .intro|refine Tw.mk ?_ ?_|(intro h;first|replace h:=h.o|cases h))
 all_goals ((refine StopCall.fz zaT (at1) ?_;(all_goals refine lv ?_;repeat' first|exact .intro|refine Tw.mk ?_ ?_|(intro h;first|replace h:=h.o|cases h))))
 all_goals (try (exfalso;first|omega|(simp at h;done)))
 all_goals exact Y5
theorem out_ok31(id dr:Int)(b:Ba)(inb:List Mg)(p0 p1 p2:Pt):Fn Tryz.prog 50 [.box 0 0,.v (.int .i64 1)] (rtM ⟨id,[p0,p1,p2],b,inb,dr⟩ 0) (.tup [.v (.string (tx p1.out)),.err 0]) (rtM ⟨id,[p0,⟨p1.m,p1.l,p1.rd,p1.rest,p1.p,[]⟩,p2],b,inb,dr⟩ 1):=by
 have at1:=zim id dr b inb p0 p1 p2;simp only[rtM,rtH,zaE,rtP,prQ] at at1 ⊢;refine foL zaA [] [] Tryz.func50 Tryz.ntmps50 Tryz.results50 ?_;(all_goals refine gv ?_;repeat' first|exact .intro|refine Tw.mk ?_ ?_|(intro h;first|replace h:=h.o|cases h))
 all_goals ((refine StopCall.fz zaT (at1) ?_;(all_goals refine lv ?_;repeat' first|exact .intro|refine Tw.mk ?_ ?_|(intro h;first|replace h:=h.o|cases h))))
 all_goals (try (exfalso;first|omega|(simp at h;done)))
 refine⟨p1.out,by rw[List.take_of_length_le (by simp)];rfl,?_⟩;(all_goals refine gv ?_;repeat' first|exact .intro|refine Tw.mk ?_ ?_|(intro h;first|replace h:=h.o|cases h))
 (first|refine .mk ⟨_,zb9 11 8 8 _ rfl (by decide) rfl rfl,?_⟩|refine⟨_,zb9 11 8 8 _ rfl (by decide) rfl rfl,?_⟩)
 all_goals exact Y5
theorem znV(id dr:Int)(b:Ba)(inb:List Mg)(p0 p1 p2:Pt):Fn Tryz.prog 13 [.box 0 0,.v (.int .i64 2)] (rtM ⟨id,[p0,p1,p2],b,inb,dr⟩ 0) (.tup [.agg (peRow p2.p),.err 0]) (rtM ⟨id,[p0,p1,p2],b,inb,dr⟩ 0):=by
 have at1:=ziA id dr b inb p0 p1 p2;simp only[rtM,rtH,zaE,rtP,prQ,peRow] at at1 ⊢;refine foA zaA [] [] Tryz.func13 Tryz.ntmps13 Tryz.results13 ?_;(all_goals refine gv ?_;repeat' first|exact .intro|refine Tw.mk ?_ ?_|(intro h;first|replace h:=h.o|cases h))
 all_goals ((refine StopCall.fz zaT (at1) ?_;(all_goals refine lv ?_;repeat' first|exact .intro|refine Tw.mk ?_ ?_|(intro h;first|replace h:=h.o|cases h))))
 all_goals (try (exfalso;first|omega|(simp at h;done)))
 all_goals exact Y5
theorem out_ok32(id dr:Int)(b:Ba)(inb:List Mg)(p0 p1 p2:Pt):Fn Tryz.prog 50 [.box 0 0,.v (.int .i64 2)] (rtM ⟨id,[p0,p1,p2],b,inb,dr⟩ 0) (.tup [.v (.string (tx p2.out)),.err 0]) (rtM ⟨id,[p0,p1,⟨p2.m,p2.l,p2.rd,p2.rest,p2.p,[]⟩],b,inb,dr⟩ 1):=by
 have at1:=ziA id dr b inb p0 p1 p2;simp only[rtM,rtH,zaE,rtP,prQ] at at1 ⊢;refine foL zaA [] [] Tryz.func50 Tryz.ntmps50 Tryz.results50 ?_;(all_goals refine gv ?_;repeat' first|exact .intro|refine Tw.mk ?_ ?_|(intro h;first|replace h:=h.o|cases h))
 all_goals ((refine StopCall.fz zaT (at1) ?_;(all_goals refine lv ?_;repeat' first|exact .intro|refine Tw.mk ?_ ?_|(intro h;first|replace h:=h.o|cases h))))
 all_goals (try (exfalso;first|omega|(simp at h;done)))
 refine⟨p2.out,by rw[List.take_of_length_le (by simp)];rfl,?_⟩;(all_goals refine gv ?_;repeat' first|exact .intro|refine Tw.mk ?_ ?_|(intro h;first|replace h:=h.o|cases h))
 (first|refine .mk ⟨_,zb9 15 12 8 _ rfl (by decide) rfl rfl,?_⟩|refine⟨_,zb9 15 12 8 _ rfl (by decide) rfl rfl,?_⟩)
 all_goals exact Y5
end Go.Proofs.YtimfnpjcedjmiadGreat
