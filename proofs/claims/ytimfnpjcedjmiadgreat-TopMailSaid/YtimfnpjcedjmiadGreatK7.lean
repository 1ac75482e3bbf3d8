/- Lemmas. -/
import Derived.Test.YtimfnpjcedjmiadGreatK5
set_option maxRecDepth 100000
set_option maxHeartbeats 64000000
set_option linter.all false
namespace Go.Proofs.YtimfnpjcedjmiadGreat
open Go.RowKit
def autoT:List (List (List UInt8×Int)):=[
 [([],2),([105,114],6),([],-1),([],-1),([],-1),([],-1),([],-1),([],-1),([],-1),([],-1)],
 [([],-1),([],-1),([],0),([115],1),([],0),([],1),([],1),([],1),([],1),([100],1)],
 [([115],1),([],1),([105,114],6),([],3),([],5),([],5),([],6),([],7),([],8),([],9)],
 [([],0),([102],0),([],2),([],2),([],4),([],4),([105,116],4),([105,116],4),([105,116],4),([100,105,116],4)],
 [([],-1),([],-1),([],-1),([],-1),([116],4),([116],5),([114],6),([114],6),([114],8),([],-1)],
 [([],-1),([],-1),([],-1),([],-1),([102],2),([102],3),([102],3),([102],3),([102],3),([],-1)],
 [([],-1),([],-1),([107],2),([105,114,97],8),([],4),([],5),([97],8),([97,117],9),([97],8),([100,114,97],8)],
 [([],-1),([],-1),([107],2),([105,114,110],6),([],4),([],5),([110],6),([110],7),([110],6),([100,114,110],6)],
 [([],-1),([],-1),([107],2),([107],3),([],4),([],5),([105],7),([114],6),([105,117],9),([100,114],6)],
 [([],-1),([],-1),([107],2),([107],3),([],4),([],5),([105,114],6),([114],6),([105,114],8),([100,114],6)],
 [([],-1),([],-1),([107],2),([107],3),([107],4),([107],5),([107],6),([107],6),([107],6),([100,122,107],5)],
 [([],-1),([],-1),([],2),([],3),([102],2),([102],3),([],6),([],6),([],8),([100,114],6)]]
def aT(s e:Int):List UInt8×Int:=(autoT.getD e.toNat []).getD s.toNat ([],-1)
theorem cases6{s:Int}(h0:0<=s)(h:s<=5):s=0\/s=1\/s=2\/s=3\/s=4\/s=5:=by omega
theorem zp8{s:Int}(h0:0<=s)(h:s<=11):s=0\/s=1\/s=2\/s=3\/s=4\/s=5\/s=6\/s=7\/s=8\/s=9\/s=10\/s=11:=by omega
theorem zqT(s e:Int)(h0:4<=s)(h1:s<=5)(h2:4<=e)(h3:e<=11):Fn Tryz.prog 111 [.v (.int .i64 s),.v (.int .i64 e)] [] (.agg [.v (.string (tx (aT s e).1)),.v (.int .i64 (aT s e).2)]) []:=by
 rcases (by omega:s=4\/s=5) with rfl|rfl<;>rcases (by omega:e=4\/e=5\/e=6\/e=7\/e=8\/e=9\/e=10\/e=11) with rfl|rfl|rfl|rfl|rfl|rfl|rfl|rfl
 all_goals
  refine foA zaA [] [] Tryz.func111 Tryz.ntmps111 Tryz.results111 ?_;(all_goals refine gv ?_;repeat' first|exact .intro|refine Tw.mk ?_ ?_|(intro h;first|replace h:=h.o|cases h))
  all_goals (try ((with_reducible refine Vc.mk ?_);(try exact GLt)))
  all_goals exact Y13
theorem zlm(s e:Int)(h0:0<=s)(h1:s<=5)(h2:0<=e)(h3:e<=11):Fn Tryz.prog 93 [.v (.int .i64 s),.v (.int .i64 e)] [] (.agg [.v (.string (tx (aT s e).1)),.v (.int .i64 (aT s e).2)]) []:=by
 rcases cases6 h0 h1 with rfl|rfl|rfl|rfl|rfl|rfl<;>rcases zp8 h2 h3 with rfl|rfl|rfl|rfl|rfl|rfl|rfl|rfl|rfl|rfl|rfl|rfl
 all_goals
  refine foA zaA [] [] Tryz.func93 Tryz.ntmps93 Tryz.results93 ?_;((all_goals (try (repeat' (conv=>whnf);(first|with_reducible refine And.intro ?_ ?_|with_reducible exact True.intro|(intro h;(first|cases h|((try simp only[vis,Int.reduceToNat] at h);(try (exfalso;omega)))))|(with_reducible refine Vc.mk ?_;fail)|(with_reducible refine cutG ?_;fail)|refine zap ?_ ?_|refine zaa ?_ ?_ ?_|(refine StopAt.mk (by decide) (by decide) ?_)))));(all_goals (first|omega|(conv=>whnf)|skip)))
  all_goals (try ((with_reducible refine Vc.mk ?_);(try exact GLt)))
  all_goals (try (refine znJ (zqT _ _ (by decide) (by decide) (by decide) (by decide)) ?_ ?_;(· (all_goals refine gr ?_;repeat' first|exact .intro|refine Tw.mk ?_ ?_));(all_goals refine gv ?_;repeat' first|exact .intro|refine Tw.mk ?_ ?_|(intro h;first|replace h:=h.o|cases h))))
  all_goals exact Y13
theorem zpR(s e:Int)(h0:6<=s)(h1:s<=9)(h2:0<=e)(h3:e<=11):Fn Tryz.prog 94 [.v (.int .i64 s),.v (.int .i64 e)] [] (.agg [.v (.string (tx (aT s e).1)),.v (.int .i64 (aT s e).2)]) []:=by
 rcases (by omega:s=6\/s=7\/s=8\/s=9) with rfl|rfl|rfl|rfl<;>rcases zp8 h2 h3 with rfl|rfl|rfl|rfl|rfl|rfl|rfl|rfl|rfl|rfl|rfl|rfl
 all_goals
  refine foA zaA [] [] Tryz.func94 Tryz.ntmps94 Tryz.results94 ?_;((all_goals (try (repeat' (conv=>whnf);(first|with_reducible refine And.intro ?_ ?_|with_reducible exact True.intro|(intro h;(first|cases h|((try simp only[vis,Int.reduceToNat] at h);(try (exfalso;omega)))))|(with_reducible refine Vc.mk ?_;fail)|(with_reducible refine cutG ?_;fail)|refine zap ?_ ?_|refine zaa ?_ ?_ ?_|(refine StopAt.mk (by decide) (by decide) ?_)))));(all_goals (first|omega|(conv=>whnf)|skip)))
  all_goals (try ((with_reducible refine Vc.mk ?_);(try exact GLt)))
  all_goals exact Y13
def zhc(s e:Int):Bool:=decide (0<=s)&&decide (s<=9)&&decide (0<=e)&&decide (e<=11)
def zdE(s e:Int):List UInt8:=if zhc s e then (if (aT s e).2= -1 then [] else (aT s e).1) else []
def zb3(s e:Int):Int:=if zhc s e then (if (aT s e).2= -1 then 0 else (aT s e).2) else 0
def zaq(s e:Int):Int:=if zhc s e then (if (aT s e).2= -1 then 7 else 0) else 1
theorem step_ok(s e:Int):Fn Tryz.prog 73 [.v (.int .i64 s),.v (.int .i64 e)] [] (.tup [.v (.string (tx (zdE s e))),.v (.int .i64 (zb3 s e)),.err (zaq s e)]) []:=by
 by_cases hin:zhc s e=true
 .have hb:0<=s/\s<=9/\0<=e/\e<=11:=by
   simp only[zhc,Bool.and_eq_true,decide_eq_true_eq] at hin;omega
  have eD:zdE s e=if (aT s e).2= -1 then [] else (aT s e).1:=by unfold zdE;rw[if_pos hin]
  have eN:zb3 s e=if (aT s e).2= -1 then 0 else (aT s e).2:=by unfold zb3;rw[if_pos hin]
  have eE:zaq s e=if (aT s e).2= -1 then 7 else 0:=by unfold zaq;rw[if_pos hin]
  rw[eD,eN,eE];by_cases h6:s<6
  .refine foA zaA [] [] Tryz.func73 Tryz.ntmps73 Tryz.results73 ?_;(all_goals refine gv ?_;repeat' first|exact .intro|refine Tw.mk ?_ ?_|(intro h;first|replace h:=h.o|cases h))
   all_goals (try omega)
   all_goals (try ((with_reducible refine Vc.mk ?_);(try exact GLt)))
   (all_goals (try ((first|refine StopCall.by0 (zlm s e (by omega) (by omega) (by omega) (by omega)) ?_|refine StopPure.by0 (zlm s e (by omega) (by omega) (by omega) (by omega)) ?_);(all_goals refine gv ?_;repeat' first|exact .intro|refine Tw.mk ?_ ?_|(intro h;first|replace h:=h.o|cases h)))))
   all_goals (try ((with_reducible refine Vc.mk ?_);(try exact GLt)))
   .exact Y100
   .exact Y102
  .refine foA zaA [] [] Tryz.func73 Tryz.ntmps73 Tryz.results73 ?_;(all_goals refine gv ?_;repeat' first|exact .intro|refine Tw.mk ?_ ?_|(intro h;first|replace h:=h.o|cases h))
   all_goals (try omega)
   all_goals (try ((with_reducible refine Vc.mk ?_);(try exact GLt)))
   (all_goals (try ((first|refine StopCall.by0 (zpR s e (by omega) (by omega) (by omega) (by omega)) ?_|refine StopPure.by0 (zpR s e (by omega) (by omega) (by omega) (by omega)) ?_);(all_goals refine gv ?_;repeat' first|exact .intro|refine Tw.mk ?_ ?_|(intro h;first|replace h:=h.o|cases h)))))
   all_goals (try ((with_reducible refine Vc.mk ?_);(try exact GLt)))
   .exact Y100
   .exact Y102
 .have hb: ¬(0<=s/\s<=9/\0<=e/\e<=11):=by
   intro hb;apply hin;simp only[zhc,Bool.and_eq_true,decide_eq_true_eq];omega
  have eD:zdE s e=[]:=by unfold zdE;rw[if_neg hin]
  have eN:zb3 s e=0:=by unfold zb3;rw[if_neg hin]
  have eE:zaq s e=1:=by unfold zaq;rw[if_neg hin]
  rw[eD,eN,eE];refine foA zaA [] [] Tryz.func73 Tryz.ntmps73 Tryz.results73 ?_;(all_goals refine gv ?_;repeat' first|exact .intro|refine Tw.mk ?_ ?_|(intro h;first|replace h:=h.o|cases h))
  all_goals (try omega)
  all_goals (try ((with_reducible refine Vc.mk ?_);(try exact GLt)))
  all_goals exact Y13
theorem timed_ok(s:Int):Fn Tryz.prog 75 [.v (.int .i64 s)] [] (.v (.bool (decide (4<=s/\s<=8)))) []:=by
 refine foA zaA [] [] Tryz.func75 Tryz.ntmps75 Tryz.results75 ?_;(all_goals refine gv ?_;repeat' first|exact .intro|refine Tw.mk ?_ ?_|(intro h;first|replace h:=h.o|cases h))
 all_goals (((try (conv=>whnf));refine StopRet.by [] ?_;repeat' first|exact .intro|refine Tw.mk ?_ ?_))
 all_goals (simp;omega)
end Go.Proofs.YtimfnpjcedjmiadGreat
