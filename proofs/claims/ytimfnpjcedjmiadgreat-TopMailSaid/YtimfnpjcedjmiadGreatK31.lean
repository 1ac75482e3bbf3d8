/- Lemmas. -/
import Derived.Test.YtimfnpjcedjmiadGreatK30
set_option maxRecDepth 100000
set_option maxHeartbeats 64000000
set_option linter.all false
namespace Go.Proofs.YtimfnpjcedjmiadGreat
open Go.RowKit
theorem ren_nt1(r0:Rt)(cs:List Cb)(mt:List (List Int))(b0:List Mg):[]++za2 (extG 0 (ntM ⟨[r0],cs,mt,[b0]⟩ 0).length) (ntM ⟨[r0],cs,mt,[b0]⟩ 0)=ntM ⟨[r0],cs,mt,[b0]⟩ 0:=rfl
theorem zkY(r0:Rt)(cs:List Cb)(mt:List (List Int))(b0:List Mg):Fn Tryz.prog 18 [.box 0 0,.v (.int .i64 1)] [ntO ⟨[r0],cs,mt,[b0]⟩] (.tup [.arr 1 0 b0.length,.err 0]) [ntO ⟨[r0],cs,mt,[[]]⟩,.arr true 67 3 0 (b0.map zaY)]:=by
 have h:Fn Tryz.prog 18 [.box 0 0,.v (.int .i64 1)] ([]++za2 (extG 0 (ntM ⟨[r0],cs,mt,[b0]⟩ 0).length) (ntM ⟨[r0],cs,mt,[b0]⟩ 0)) (.tup [.arr 6 0 b0.length,.err 0]) (ntH 1 cs mt (rowsR 5 [r0]) [[.arr 7 0 0]]++(resR [r0]++(resI 0 [b0]++[.arr true 67 3 0 []]))):=by
  rw[ren_nt1];simp only[ntM,ntH,rowsR,rowsI,resR,resI,List.length_cons,List.length_nil];refine foL zaA [] [] Tryz.func18 Tryz.ntmps18 Tryz.results18 ?_;(all_goals refine fx ?_;repeat' first|exact .intro|refine Tw.mk ?_ ?_|(intro h;first|replace h:=h.o|cases h))
  all_goals (try (exfalso;omega))
  (first|refine .mk ⟨_,zaK true 4 0 67 3 _ rfl rfl,?_⟩|refine⟨_,zaK true 4 0 67 3 _ rfl rfl,?_⟩)
  simp only[List.set_cons_zero,List.set_cons_succ,List.cons_append,List.nil_append];((try (conv=>whnf));refine StopRet.by [0,1,2,3,4,5,6,7] ?_;repeat' first|exact .intro|refine Tw.mk ?_ ?_)
 exact zaO (pre:=[]) (mt:=[.gone,.arr true 67 3 0 (b0.map zaY)]) (m':=ntM ⟨[r0],cs,mt,[[]]⟩ 0) (ρ:=[0,6]) (κ:=[0,1,2,3,4,5,7]) (L:=0) h rfl rfl rfl rfl grt grt grt rfl rfl rfl rfl rfl
theorem zoC(r0 r1:Rt)(cs:List Cb)(mt:List (List Int))(b0 b1:List Mg):[]++za2 (extG 0 (ntM ⟨[r0,r1],cs,mt,[b0,b1]⟩ 0).length) (ntM ⟨[r0,r1],cs,mt,[b0,b1]⟩ 0)=ntM ⟨[r0,r1],cs,mt,[b0,b1]⟩ 0:=rfl
theorem zlM(r0 r1:Rt)(cs:List Cb)(mt:List (List Int))(b0 b1:List Mg):Fn Tryz.prog 18 [.box 0 0,.v (.int .i64 1)] [ntO ⟨[r0,r1],cs,mt,[b0,b1]⟩] (.tup [.arr 1 0 b0.length,.err 0]) [ntO ⟨[r0,r1],cs,mt,[[],b1]⟩,.arr true 67 3 0 (b0.map zaY)]:=by
 have h:Fn Tryz.prog 18 [.box 0 0,.v (.int .i64 1)] ([]++za2 (extG 0 (ntM ⟨[r0,r1],cs,mt,[b0,b1]⟩ 0).length) (ntM ⟨[r0,r1],cs,mt,[b0,b1]⟩ 0)) (.tup [.arr 7 0 b0.length,.err 0]) (ntH 2 cs mt (rowsR 5 [r0,r1]) [[.arr 9 0 0],[.arr 8 0 b1.length]]++(resR [r0,r1]++(resI 0 [b0,b1]++[.arr true 67 3 0 []]))):=by
  rw[zoC];simp only[ntM,ntH,rowsR,rowsI,resR,resI,List.length_cons,List.length_nil];refine foL zaA [] [] Tryz.func18 Tryz.ntmps18 Tryz.results18 ?_;(all_goals refine fx ?_;repeat' first|exact .intro|refine Tw.mk ?_ ?_|(intro h;first|replace h:=h.o|cases h))
  all_goals (try (exfalso;omega))
  (first|refine .mk ⟨_,zaK true 4 0 67 3 _ rfl rfl,?_⟩|refine⟨_,zaK true 4 0 67 3 _ rfl rfl,?_⟩)
  simp only[List.set_cons_zero,List.set_cons_succ,List.cons_append,List.nil_append];((try (conv=>whnf));refine StopRet.by [0,1,2,3,4,5,6,7,8,9] ?_;repeat' first|exact .intro|refine Tw.mk ?_ ?_)
 exact zaO (pre:=[]) (mt:=[.gone,.arr true 67 3 0 (b0.map zaY)]) (m':=ntM ⟨[r0,r1],cs,mt,[[],b1]⟩ 0) (ρ:=[0,7]) (κ:=[0,1,2,3,4,5,6,9,8]) (L:=0) h rfl rfl rfl rfl grt grt grt rfl rfl rfl rfl rfl
theorem zkG(r0 r1:Rt)(cs:List Cb)(mt:List (List Int))(b0 b1:List Mg):Fn Tryz.prog 18 [.box 0 0,.v (.int .i64 2)] [ntO ⟨[r0,r1],cs,mt,[b0,b1]⟩] (.tup [.arr 1 0 b1.length,.err 0]) [ntO ⟨[r0,r1],cs,mt,[b0,[]]⟩,.arr true 67 3 0 (b1.map zaY)]:=by
 have h:Fn Tryz.prog 18 [.box 0 0,.v (.int .i64 2)] ([]++za2 (extG 0 (ntM ⟨[r0,r1],cs,mt,[b0,b1]⟩ 0).length) (ntM ⟨[r0,r1],cs,mt,[b0,b1]⟩ 0)) (.tup [.arr 8 0 b1.length,.err 0]) (ntH 2 cs mt (rowsR 5 [r0,r1]) [[.arr 7 0 b0.length],[.arr 9 0 0]]++(resR [r0,r1]++(resI 0 [b0,b1]++[.arr true 67 3 0 []]))):=by
  rw[zoC];simp only[ntM,ntH,rowsR,rowsI,resR,resI,List.length_cons,List.length_nil];refine foL zaA [] [] Tryz.func18 Tryz.ntmps18 Tryz.results18 ?_;(all_goals refine fx ?_;repeat' first|exact .intro|refine Tw.mk ?_ ?_|(intro h;first|replace h:=h.o|cases h))
  all_goals (try (exfalso;omega))
  (first|refine .mk ⟨_,zaK true 4 1 67 3 _ rfl rfl,?_⟩|refine⟨_,zaK true 4 1 67 3 _ rfl rfl,?_⟩)
  simp only[List.set_cons_zero,List.set_cons_succ,List.cons_append,List.nil_append];((try (conv=>whnf));refine StopRet.by [0,1,2,3,4,5,6,7,8,9] ?_;repeat' first|exact .intro|refine Tw.mk ?_ ?_)
 exact zaO (pre:=[]) (mt:=[.gone,.arr true 67 3 0 (b1.map zaY)]) (m':=ntM ⟨[r0,r1],cs,mt,[b0,[]]⟩ 0) (ρ:=[0,8]) (κ:=[0,1,2,3,4,5,6,7,9]) (L:=0) h rfl rfl rfl rfl grt grt grt rfl rfl rfl rfl rfl
theorem zk6(r0 r1 r2:Rt)(cs:List Cb)(mt:List (List Int))(b0 b1 b2:List Mg):[]++za2 (extG 0 (ntM ⟨[r0,r1,r2],cs,mt,[b0,b1,b2]⟩ 0).length) (ntM ⟨[r0,r1,r2],cs,mt,[b0,b1,b2]⟩ 0)=ntM ⟨[r0,r1,r2],cs,mt,[b0,b1,b2]⟩ 0:=rfl
theorem zkl(r0 r1 r2:Rt)(cs:List Cb)(mt:List (List Int))(b0 b1 b2:List Mg):Fn Tryz.prog 18 [.box 0 0,.v (.int .i64 1)] [ntO ⟨[r0,r1,r2],cs,mt,[b0,b1,b2]⟩] (.tup [.arr 1 0 b0.length,.err 0]) [ntO ⟨[r0,r1,r2],cs,mt,[[],b1,b2]⟩,.arr true 67 3 0 (b0.map zaY)]:=by
 have h:Fn Tryz.prog 18 [.box 0 0,.v (.int .i64 1)] ([]++za2 (extG 0 (ntM ⟨[r0,r1,r2],cs,mt,[b0,b1,b2]⟩ 0).length) (ntM ⟨[r0,r1,r2],cs,mt,[b0,b1,b2]⟩ 0)) (.tup [.arr 8 0 b0.length,.err 0]) (ntH 3 cs mt (rowsR 5 [r0,r1,r2]) [[.arr 11 0 0],[.arr 9 0 b1.length],[.arr 10 0 b2.length]]++(resR [r0,r1,r2]++(resI 0 [b0,b1,b2]++[.arr true 67 3 0 []]))):=by
  rw[zk6];simp only[ntM,ntH,rowsR,rowsI,resR,resI,List.length_cons,List.length_nil];refine foL zaA [] [] Tryz.func18 Tryz.ntmps18 Tryz.results18 ?_;(all_goals refine fx ?_;repeat' first|exact .intro|refine Tw.mk ?_ ?_|(intro h;first|replace h:=h.o|cases h))
  all_goals (try (exfalso;omega))
  (first|refine .mk ⟨_,zaK true 4 0 67 3 _ rfl rfl,?_⟩|refine⟨_,zaK true 4 0 67 3 _ rfl rfl,?_⟩)
  simp only[List.set_cons_zero,List.set_cons_succ,List.cons_append,List.nil_append];((try (conv=>whnf));refine StopRet.by [0,1,2,3,4,5,6,7,8,9,10,11] ?_;repeat' first|exact .intro|refine Tw.mk ?_ ?_)
 exact zaO (pre:=[]) (mt:=[.gone,.arr true 67 3 0 (b0.map zaY)]) (m':=ntM ⟨[r0,r1,r2],cs,mt,[[],b1,b2]⟩ 0) (ρ:=[0,8]) (κ:=[0,1,2,3,4,5,6,7,11,9,10]) (L:=0) h rfl rfl rfl rfl grt grt grt rfl rfl rfl rfl rfl
theorem zlY(r0 r1 r2:Rt)(cs:List Cb)(mt:List (List Int))(b0 b1 b2:List Mg):Fn Tryz.prog 18 [.box 0 0,.v (.int .i64 2)] [ntO ⟨[r0,r1,r2],cs,mt,[b0,b1,b2]⟩] (.tup [.arr 1 0 b1.length,.err 0]) [ntO ⟨[r0,r1,r2],cs,mt,[b0,[],b2]⟩,.arr true 67 3 0 (b1.map zaY)]:=by
 have h:Fn Tryz.prog 18 [.box 0 0,.v (.int .i64 2)] ([]++za2 (extG 0 (ntM ⟨[r0,r1,r2],cs,mt,[b0,b1,b2]⟩ 0).length) (ntM ⟨[r0,r1,r2],cs,mt,[b0,b1,b2]⟩ 0)) (.tup [.arr 9 0 b1.length,.err 0]) (ntH 3 cs mt (rowsR 5 [r0,r1,r2]) [[.arr 8 0 b0.length],[.arr 11 0 0],[.arr 10 0 b2.length]]++(resR [r0,r1,r2]++(resI 0 [b0,b1,b2]++[.arr true 67 3 0 []]))):=by
  rw[zk6];simp only[ntM,ntH,rowsR,rowsI,resR,resI,List.length_cons,List.length_nil];refine foL zaA [] [] Tryz.func18 Tryz.ntmps18 Tryz.results18 ?_;(all_goals refine fx ?_;repeat' first|exact .intro|refine Tw.mk ?_ ?_|(intro h;first|replace h:=h.o|cases h))
  all_goals (try (exfalso;omega))
  (first|refine .mk ⟨_,zaK true 4 1 67 3 _ rfl rfl,?_⟩|refine⟨_,zaK true 4 1 67 3 _ rfl rfl,?_⟩)
  simp only[List.set_cons_zero,List.set_cons_succ,List.cons_append,List.nil_append];((try (conv=>whnf));refine StopRet.by [0,1,2,3,4,5,6,7,8,9,10,11] ?_;repeat' first|exact .intro|refine Tw.mk ?_ ?_)
 exact zaO (pre:=[]) (mt:=[.gone,.arr true 67 3 0 (b1.map zaY)]) (m':=ntM ⟨[r0,r1,r2],cs,mt,[b0,[],b2]⟩ 0) (ρ:=[0,9]) (κ:=[0,1,2,3,4,5,6,7,8,11,10]) (L:=0) h rfl rfl rfl rfl grt grt grt rfl rfl rfl rfl rfl
theorem zlK(r0 r1 r2:Rt)(cs:List Cb)(mt:List (List Int))(b0 b1 b2:List Mg):Fn Tryz.prog 18 [.box 0 0,.v (.int .i64 3)] [ntO ⟨[r0,r1,r2],cs,mt,[b0,b1,b2]⟩] (.tup [.arr 1 0 b2.length,.err 0]) [ntO ⟨[r0,r1,r2],cs,mt,[b0,b1,[]]⟩,.arr true 67 3 0 (b2.map zaY)]:=by
 have h:Fn Tryz.prog 18 [.box 0 0,.v (.int .i64 3)] ([]++za2 (extG 0 (ntM ⟨[r0,r1,r2],cs,mt,[b0,b1,b2]⟩ 0).length) (ntM ⟨[r0,r1,r2],cs,mt,[b0,b1,b2]⟩ 0)) (.tup [.arr 10 0 b2.length,.err 0]) (ntH 3 cs mt (rowsR 5 [r0,r1,r2]) [[.arr 8 0 b0.length],[.arr 9 0 b1.length],[.arr 11 0 0]]++(resR [r0,r1,r2]++(resI 0 [b0,b1,b2]++[.arr true 67 3 0 []]))):=by
  rw[zk6];simp only[ntM,ntH,rowsR,rowsI,resR,resI,List.length_cons,List.length_nil];refine foL zaA [] [] Tryz.func18 Tryz.ntmps18 Tryz.results18 ?_;(all_goals refine fx ?_;repeat' first|exact .intro|refine Tw.mk ?_ ?_|(intro h;first|replace h:=h.o|cases h))
  all_goals (try (exfalso;omega))
  (first|refine .mk ⟨_,zaK true 4 2 67 3 _ rfl rfl,?_⟩|refine⟨_,zaK true 4 2 67 3 _ rfl rfl,?_⟩)
  simp only[List.set_cons_zero,List.set_cons_succ,List.cons_append,List.nil_append];((try (conv=>whnf));refine StopRet.by [0,1,2,3,4,5,6,7,8,9,10,11] ?_;repeat' first|exact .intro|refine Tw.mk ?_ ?_)
 exact zaO (pre:=[]) (mt:=[.gone,.arr true 67 3 0 (b2.map zaY)]) (m':=ntM ⟨[r0,r1,r2],cs,mt,[b0,b1,[]]⟩ 0) (ρ:=[0,10]) (κ:=[0,1,2,3,4,5,6,7,8,9,11]) (L:=0) h rfl rfl rfl rfl grt grt grt rfl rfl rfl rfl rfl
theorem ziY(r0 r1 r2 r3:Rt)(cs:List Cb)(mt:List (List Int))(b0 b1 b2 b3:List Mg):[]++za2 (extG 0 (ntM ⟨[r0,r1,r2,r3],cs,mt,[b0,b1,b2,b3]⟩ 0).length) (ntM ⟨[r0,r1,r2,r3],cs,mt,[b0,b1,b2,b3]⟩ 0)=ntM ⟨[r0,r1,r2,r3],cs,mt,[b0,b1,b2,b3]⟩ 0:=rfl
theorem zkc(r0 r1 r2 r3:Rt)(cs:List Cb)(mt:List (List Int))(b0 b1 b2 b3:List Mg):Fn Tryz.prog 18 [.box 0 0,.v (.int .i64 1)] [ntO ⟨[r0,r1,r2,r3],cs,mt,[b0,b1,b2,b3]⟩] (.tup [.arr 1 0 b0.length,.err 0]) [ntO ⟨[r0,r1,r2,r3],cs,mt,[[],b1,b2,b3]⟩,.arr true 67 3 0 (b0.map zaY)]:=by
 have h:Fn Tryz.prog 18 [.box 0 0,.v (.int .i64 1)] ([]++za2 (extG 0 (ntM ⟨[r0,r1,r2,r3],cs,mt,[b0,b1,b2,b3]⟩ 0).length) (ntM ⟨[r0,r1,r2,r3],cs,mt,[b0,b1,b2,b3]⟩ 0)) (.tup [.arr 9 0 b0.length,.err 0]) (ntH 4 cs mt (rowsR 5 [r0,r1,r2,r3]) [[.arr 13 0 0],[.arr 10 0 b1.length],[.arr 11 0 b2.length],[.arr 12 0 b3.length]]++(resR [r0,r1,r2,r3]++(resI 0 [b0,b1,b2,b3]++[.arr true 67 3 0 []]))):=by
  rw[ziY];simp only[ntM,ntH,rowsR,rowsI,resR,resI,List.length_cons,List.length_nil];refine foL zaA [] [] Tryz.func18 Tryz.ntmps18 Tryz.results18 ?_;(all_goals refine fx ?_;repeat' first|exact .intro|refine Tw.mk ?_ ?_|(intro h;first|replace h:=h.o|cases h))
  all_goals (try (exfalso;omega))
  (first|refine .mk ⟨_,zaK true 4 0 67 3 _ rfl rfl,?_⟩|refine⟨_,zaK true 4 0 67 3 _ rfl rfl,?_⟩)
  simp only[List.set_cons_zero,List.set_cons_succ,List.cons_append,List.nil_append];((try (conv=>whnf));refine StopRet.by [0,1,2,3,4,5,6,7,8,9,10,11,12,13] ?_;repeat' first|exact .intro|refine Tw.mk ?_ ?_)
 exact zaO (pre:=[]) (mt:=[.gone,.arr true 67 3 0 (b0.map zaY)]) (m':=ntM ⟨[r0,r1,r2,r3],cs,mt,[[],b1,b2,b3]⟩ 0) (ρ:=[0,9]) (κ:=[0,1,2,3,4,5,6,7,8,13,10,11,12]) (L:=0) h rfl rfl rfl rfl grt grt grt rfl rfl rfl rfl rfl
theorem zkL(r0 r1 r2 r3:Rt)(cs:List Cb)(mt:List (List Int))(b0 b1 b2 b3:List Mg):Fn Tryz.prog 18 [.box 0 0,.v (.int .i64 2)] [ntO ⟨[r0,r1,r2,r3],cs,mt,[b0,b1,b2,b3]⟩] (.tup [.arr 1 0 b1.length,.err 0]) [ntO ⟨[r0,r1,r2,r3],cs,mt,[b0,[],b2,b3]⟩,.arr true 67 3 0 (b1.map zaY)]:=by
 have h:Fn Tryz.prog 18 [.box 0 0,.v (.int .i64 2)] ([]++za2 (extG 0 (ntM ⟨[r0,r1,r2,r3],cs,mt,[b0,b1,b2,b3]⟩ 0).length) (ntM ⟨[r0,r1,r2,r3],cs,mt,[b0,b1,b2,b3]⟩ 0)) (.tup [.arr 10 0 b1.length,.err 0]) (ntH 4 cs mt (rowsR 5 [r0,r1,r2,r3]) [[.arr 9 0 b0.length],[.arr 13 0 0],[.arr 11 0 b2.length],[.arr 12 0 b3.length]]++(resR [r0,r1,r2,r3]++(resI 0 [b0,b1,b2,b3]++[.arr true 67 3 0 []]))):=by
  rw[ziY];simp only[ntM,ntH,rowsR,rowsI,resR,resI,List.length_cons,List.length_nil];refine foL zaA [] [] Tryz.func18 Tryz.ntmps18 Tryz.results18 ?_;(all_goals refine fx ?_;repeat' first|exact .intro|refine Tw.mk ?_ ?_|(intro h;first|replace h:=h.o|cases h))
  all_goals (try (exfalso;omega))
  (first|refine .mk ⟨_,zaK true 4 1 67 3 _ rfl rfl,?_⟩|refine⟨_,zaK true 4 1 67 3 _ rfl rfl,?_⟩)
  simp only[List.set_cons_zero,List.set_cons_succ,List.cons_append,List.nil_append];((try (conv=>whnf));refine StopRet.by [0,1,2,3,4,5,6,7,8,9,10,11,12,13] ?_;repeat' first|exact .intro|refine Tw.mk ?_ ?_)
 exact zaO (pre:=[]) (mt:=[.gone,.arr true 67 3 0 (b1.map zaY)]) (m':=ntM ⟨[r0,r1,r2,r3],cs,mt,[b0,[],b2,b3]⟩ 0) (ρ:=[0,10]) (κ:=[0,1,2,3,4,5,6,7,8,9,13,11,12]) (L:=0) h rfl rfl rfl rfl grt grt grt rfl rfl rfl rfl rfl
theorem zlT(r0 r1 r2 r3:Rt)(cs:List Cb)(mt:List (List Int))(b0 b1 b2 b3:List Mg):Fn Tryz.prog 18 [.box 0 0,.v (.int .i64 3)] [ntO ⟨[r0,r1,r2,r3],cs,mt,[b0,b1,b2,b3]⟩] (.tup [.arr 1 0 b2.length,.err 0]) [ntO ⟨[r0,r1,r2,r3],cs,mt,[b0,b1,[],b3]⟩,.arr true 67 3 0 (b2.map zaY)]:=by
 have h:Fn Tryz.prog 18 [.box 0 0,.v (.int .i64 3)] ([]++za2 (extG 0 (ntM ⟨[r0,r1,r2,r3],cs,mt,[b0,b1,b2,b3]⟩ 0).length) (ntM ⟨[r0,r1,r2,r3],cs,mt,[b0,b1,b2,b3]⟩ 0)) (.tup [.arr 11 0 b2.length,.err 0]) (ntH 4 cs mt (rowsR 5 [r0,r1,r2,r3]) [[.arr 9 0 b0.length],[.arr 10 0 b1.length],[.arr 13 0 0],[.arr 12 0 b3.length]]++(resR [r0,r1,r2,r3]++(resI 0 [b0,b1,b2,b3]++[.arr true 67 3 0 []]))):=by
  rw[ziY];simp only[ntM,ntH,rowsR,rowsI,resR,resI,List.length_cons,List.length_nil];refine foL zaA [] [] Tryz.func18 Tryz.ntmps18 Tryz.results18 ?_;(all_goals refine fx ?_;repeat' first|exact .intro|refine Tw.mk ?_ ?_|(intro h;first|replace h:=h.o|cases h))
  all_goals (try (exfalso;omega))
  (first|refine .mk ⟨_,zaK true 4 2 67 3 _ rfl rfl,?_⟩|refine⟨_,zaK true 4 2 67 3 _ rfl rfl,?_⟩)
  simp only[List.set_cons_zero,List.set_cons_succ,List.cons_append,List.nil_append];((try (conv=>whnf));refine StopRet.by [0,1,2,3,4,5,6,7,8,9,10,11,12,13] ?_;repeat' first|exact .intro|refine Tw.mk ?_ ?_)
 exact zaO (pre:=[]) (mt:=[.gone,.arr true 67 3 0 (b2.map zaY)]) (m':=ntM ⟨[r0,r1,r2,r3],cs,mt,[b0,b1,[],b3]⟩ 0) (ρ:=[0,11]) (κ:=[0,1,2,3,4,5,6,7,8,9,10,13,12]) (L:=0) h rfl rfl rfl rfl grt grt grt rfl rfl rfl rfl rfl
theorem zkS(r0 r1 r2 r3:Rt)(cs:List Cb)(mt:List (List Int))(b0 b1 b2 b3:List Mg):Fn Tryz.prog 18 [.box 0 0,.v (.int .i64 4)] [ntO ⟨[r0,r1,r2,r3],cs,mt,[b0,b1,b2,b3]⟩] (.tup [.arr 1 0 b3.length,.err 0]) [ntO ⟨[r0,r1,r2,r3],cs,mt,[b0,b1,b2,[]]⟩,.arr true 67 3 0 (b3.map zaY)]:=by
 have h:Fn Tryz.prog 18 [.box 0 0,.v (.int .i64 4)] ([]++za2 (extG 0 (ntM ⟨[r0,r1,r2,r3],cs,mt,[b0,b1,b2,b3]⟩ 0).length) (ntM ⟨[r0,r1,r2,r3],cs,mt,[b0,b1,b2,b3]⟩ 0)) (.tup [.arr 12 0 b3.length,.err 0]) (ntH 4 cs mt (rowsR 5 [r0,r1,r2,r3]) [[.arr 9 0 b0.length],[.arr 10 0 b1.length],[.arr 11 0 b2.length],[.arr 13 0 0]]++(resR [r0,r1,r2,r3]++(resI 0 [b0,b1,b2,b3]++[.arr true 67 3 0 []]))):=by
  rw[ziY];simp only[ntM,ntH,rowsR,rowsI,resR,resI,List.length_cons,List.length_nil];refine foL zaA [] [] Tryz.func18 Tryz.ntmps18 Tryz.results18 ?_;(all_goals refine fx ?_;repeat' first|exact .intro|refine Tw.mk ?_ ?_|(intro h;first|replace h:=h.o|cases h))
  all_goals (try (exfalso;omega))
  (first|refine .mk ⟨_,zaK true 4 3 67 3 _ rfl rfl,?_⟩|refine⟨_,zaK true 4 3 67 3 _ rfl rfl,?_⟩)
  simp only[List.set_cons_zero,List.set_cons_succ,List.cons_append,List.nil_append];((try (conv=>whnf));refine StopRet.by [0,1,2,3,4,5,6,7,8,9,10,11,12,13] ?_;repeat' first|exact .intro|refine Tw.mk ?_ ?_)
 exact zaO (pre:=[]) (mt:=[.gone,.arr true 67 3 0 (b3.map zaY)]) (m':=ntM ⟨[r0,r1,r2,r3],cs,mt,[b0,b1,b2,[]]⟩ 0) (ρ:=[0,12]) (κ:=[0,1,2,3,4,5,6,7,8,9,10,11,13]) (L:=0) h rfl rfl rfl rfl grt grt grt rfl rfl rfl rfl rfl
theorem zgb(r0 r1 r2 r3 r4:Rt)(cs:List Cb)(mt:List (List Int))(b0 b1 b2 b3 b4:List Mg):[]++za2 (extG 0 (ntM ⟨[r0,r1,r2,r3,r4],cs,mt,[b0,b1,b2,b3,b4]⟩ 0).length) (ntM ⟨[r0,r1,r2,r3,r4],cs,mt,[b0,b1,b2,b3,b4]⟩ 0)=ntM ⟨[r0,r1,r2,r3,r4],cs,mt,[b0,b1,b2,b3,b4]⟩ 0:=rfl
theorem zkt(r0 r1 r2 r3 r4:Rt)(cs:List Cb)(mt:List (List Int))(b0 b1 b2 b3 b4:List Mg):Fn Tryz.prog 18 [.box 0 0,.v (.int .i64 1)] [ntO ⟨[r0,r1,r2,r3,r4],cs,mt,[b0,b1,b2,b3,b4]⟩] (.tup [.arr 1 0 b0.length,.err 0]) [ntO ⟨[r0,r1,r2,r3,r4],cs,mt,[[],b1,b2,b3,b4]⟩,.arr true 67 3 0 (b0.map zaY)]:=by
 have h:Fn Tryz.prog 18 [.box 0 0,.v (.int .i64 1)] ([]++za2 (extG 0 (ntM ⟨[r0,r1,r2,r3,r4],cs,mt,[b0,b1,b2,b3,b4]⟩ 0).length) (ntM ⟨[r0,r1,r2,r3,r4],cs,mt,[b0,b1,b2,b3,b4]⟩ 0)) (.tup [.arr 10 0 b0.length,.err 0]) (ntH 5 cs mt (rowsR 5 [r0,r1,r2,r3,r4]) [[.arr 15 0 0],[.arr 11 0 b1.length],[.arr 12 0 b2.length],[.arr 13 0 b3.length],[.arr 14 0 b4.length]]++(resR [r0,r1,r2,r3,r4]++(resI 0 [b0,b1,b2,b3,b4]++[.arr true 67 3 0 []]))):=by
  rw[zgb];simp only[ntM,ntH,rowsR,rowsI,resR,resI,List.length_cons,List.length_nil];refine foL zaA [] [] Tryz.func18 Tryz.ntmps18 Tryz.results18 ?_;(all_goals refine fx ?_;repeat' first|exact .intro|refine Tw.mk ?_ ?_|(intro h;first|replace h:=h.o|cases h))
  all_goals (try (exfalso;omega))
  (first|refine .mk ⟨_,zaK true 4 0 67 3 _ rfl rfl,?_⟩|refine⟨_,zaK true 4 0 67 3 _ rfl rfl,?_⟩)
  simp only[List.set_cons_zero,List.set_cons_succ,List.cons_append,List.nil_append];((try (conv=>whnf));refine StopRet.by [0,1,2,3,4,5,6,7,8,9,10,11,12,13,14,15] ?_;repeat' first|exact .intro|refine Tw.mk ?_ ?_)
 exact zaO (pre:=[]) (mt:=[.gone,.arr true 67 3 0 (b0.map zaY)]) (m':=ntM ⟨[r0,r1,r2,r3,r4],cs,mt,[[],b1,b2,b3,b4]⟩ 0) (ρ:=[0,10]) (κ:=[0,1,2,3,4,5,6,7,8,9,15,11,12,13,14]) (L:=0) h rfl rfl rfl rfl grt grt grt rfl rfl rfl rfl rfl
theorem zlE(r0 r1 r2 r3 r4:Rt)(cs:List Cb)(mt:List (List Int))(b0 b1 b2 b3 b4:List Mg):Fn Tryz.prog 18 [.box 0 0,.v (.int .i64 2)] [ntO ⟨[r0,r1,r2,r3,r4],cs,mt,[b0,b1,b2,b3,b4]⟩] (.tup [.arr 1 0 b1.length,.err 0]) [ntO ⟨[r0,r1,r2,r3,r4],cs,mt,[b0,[],b2,b3,b4]⟩,.arr true 67 3 0 (b1.map zaY)]:=by
 have h:Fn Tryz.prog 18 [.box 0 0,.v (.int .i64 2)] ([]++za2 (extG 0 (ntM ⟨[r0,r1,r2,r3,r4],cs,mt,[b0,b1,b2,b3,b4]⟩ 0).length) (ntM ⟨[r0,r1,r2,r3,r4],cs,mt,[b0,b1,b2,b3,b4]⟩ 0)) (.tup [.arr 11 0 b1.length,.err 0]) (ntH 5 cs mt (rowsR 5 [r0,r1,r2,r3,r4]) [[.arr 10 0 b0.length],[.arr 15 0 0],[.arr 12 0 b2.length],[.arr 13 0 b3.length],[.arr 14 0 b4.length]]++(resR [r0,r1,r2,r3,r4]++(resI 0 [b0,b1,b2,b3,b4]++[.arr true 67 3 0 []]))):=by
  rw[zgb];simp only[ntM,ntH,rowsR,rowsI,resR,resI,List.length_cons,List.length_nil];refine foL zaA [] [] Tryz.func18 Tryz.ntmps18 Tryz.results18 ?_;(all_goals refine fx ?_;repeat' first|exact .intro|refine Tw.mk ?_ ?_|(intro h;first|replace h:=h.o|cases h))
  all_goals (try (exfalso;omega))
  (first|refine .mk ⟨_,zaK true 4 1 67 3 _ rfl rfl,?_⟩|refine⟨_,zaK true 4 1 67 3 _ rfl rfl,?_⟩)
  simp only[List.set_cons_zero,List.set_cons_succ,List.cons_append,List.nil_append];((try (conv=>whnf));refine StopRet.by [0,1,2,3,4,5,6,7,8,9,10,11,12,13,14,15] ?_;repeat' first|exact .intro|refine Tw.mk ?_ ?_)
 exact zaO (pre:=[]) (mt:=[.gone,.arr true 67 3 0 (b1.map zaY)]) (m':=ntM ⟨[r0,r1,r2,r3,r4],cs,mt,[b0,[],b2,b3,b4]⟩ 0) (ρ:=[0,11]) (κ:=[0,1,2,3,4,5,6,7,8,9,10,15,12,13,14]) (L:=0) h rfl rfl rfl rfl grt grt grt rfl rfl rfl rfl rfl
theorem zkU(r0 r1 r2 r3 r4:Rt)(cs:List Cb)(mt:List (List Int))(b0 b1 b2 b3 b4:List Mg):Fn Tryz.prog 18 [.box 0 0,.v (.int .i64 3)] [ntO ⟨[r0,r1,r2,r3,r4],cs,mt,[b0,b1,b2,b3,b4]⟩] (.tup [.arr 1 0 b2.length,.err 0]) [ntO ⟨[r0,r1,r2,r3,r4],cs,mt,[b0,b1,[],b3,b4]⟩,.arr true 67 3 0 (b2.map zaY)]:=by
 have h:Fn Tryz.prog 18 [.box 0 0,.v (.int .i64 3)] ([]++za2 (extG 0 (ntM ⟨[r0,r1,r2,r3,r4],cs,mt,[b0,b1,b2,b3,b4]⟩ 0).length) (ntM ⟨[r0,r1,r2,r3,r4],cs,mt,[b0,b1,b2,b3,b4]⟩ 0)) (.tup [.arr 12 0 b2.length,.err 0]) (ntH 5 cs mt (rowsR 5 [r0,r1,r2,r3,r4]) [[.arr 10 0 b0.length],[.arr 11 0 b1.length],[.arr 15 0 0],[.arr 13 0 b3.length],[.arr 14 0 b4.length]]++(resR [r0,r1,r2,r3,r4]++(resI 0 [b0,b1,b2,b3,b4]++[.arr true 67 3 0 []]))):=by
  rw[zgb];simp only[ntM,ntH,rowsR,rowsI,resR,resI,List.length_cons,List.length_nil];refine foL zaA [] [] Tryz.func18 Tryz.ntmps18 Tryz.results18 ?_;(all_goals refine fx ?_;repeat' first|exact .intro|refine Tw.mk ?_ ?_|(intro h;first|replace h:=h.o|cases h))
  all_goals (try (exfalso;omega))
  (first|refine .mk ⟨_,zaK true 4 2 67 3 _ rfl rfl,?_⟩|refine⟨_,zaK true 4 2 67 3 _ rfl rfl,?_⟩)
  simp only[List.set_cons_zero,List.set_cons_succ,List.cons_append,List.nil_append];((try (conv=>whnf));refine StopRet.by [0,1,2,3,4,5,6,7,8,9,10,11,12,13,14,15] ?_;repeat' first|exact .intro|refine Tw.mk ?_ ?_)
 exact zaO (pre:=[]) (mt:=[.gone,.arr true 67 3 0 (b2.map zaY)]) (m':=ntM ⟨[r0,r1,r2,r3,r4],cs,mt,[b0,b1,[],b3,b4]⟩ 0) (ρ:=[0,12]) (κ:=[0,1,2,3,4,5,6,7,8,9,10,11,15,13,14]) (L:=0) h rfl rfl rfl rfl grt grt grt rfl rfl rfl rfl rfl
theorem zks(r0 r1 r2 r3 r4:Rt)(cs:List Cb)(mt:List (List Int))(b0 b1 b2 b3 b4:List Mg):Fn Tryz.prog 18 [.box 0 0,.v (.int .i64 4)] [ntO ⟨[r0,r1,r2,r3,r4],cs,mt,[b0,b1,b2,b3,b4]⟩] (.tup [.arr 1 0 b3.length,.err 0]) [ntO ⟨[r0,r1,r2,r3,r4],cs,mt,[b0,b1,b2,[],b4]⟩,.arr true 67 3 0 (b3.map zaY)]:=by
 have h:Fn Tryz.prog 18 [.box 0 0,.v (.int .i64 4)] ([]++za2 (extG 0 (ntM ⟨[r0,r1,r2,r3,r4],cs,mt,[b0,b1,b2,b3,b4]⟩ 0).length) (ntM ⟨[r0,r1,r2,r3,r4],cs,mt,[b0,b1,b2,b3,b4]⟩ 0)) (.tup [.arr 13 0 b3.length,.err 0]) (ntH 5 cs mt (rowsR 5 [r0,r1,r2,r3,r4]) [[.arr 10 0 b0.length],[.arr 11 0 b1.length],[.arr 12 0 b2.length],[.arr 15 0 0],[.arr 14 0 b4.length]]++(resR [r0,r1,r2,r3,r4]++(resI 0 [b0,b1,b2,b3,b4]++[.arr true 67 3 0 []]))):=by
  rw[zgb];simp only[ntM,ntH,rowsR,rowsI,resR,resI,List.length_cons,List.length_nil];refine foL zaA [] [] Tryz.func18 Tryz.ntmps18 Tryz.results18 ?_;(all_goals refine fx ?_;repeat' first|exact .intro|refine Tw.mk ?_ ?_|(intro h;first|replace h:=h.o|cases h))
  all_goals (try (exfalso;omega))
  (first|refine .mk ⟨_,zaK true 4 3 67 3 _ rfl rfl,?_⟩|refine⟨_,zaK true 4 3 67 3 _ rfl rfl,?_⟩)
  simp only[List.set_cons_zero,List.set_cons_succ,List.cons_append,List.nil_append];((try (conv=>whnf));refine StopRet.by [0,1,2,3,4,5,6,7,8,9,10,11,12,13,14,15] ?_;repeat' first|exact .intro|refine Tw.mk ?_ ?_)
 exact zaO (pre:=[]) (mt:=[.gone,.arr true 67 3 0 (b3.map zaY)]) (m':=ntM ⟨[r0,r1,r2,r3,r4],cs,mt,[b0,b1,b2,[],b4]⟩ 0) (ρ:=[0,13]) (κ:=[0,1,2,3,4,5,6,7,8,9,10,11,12,15,14]) (L:=0) h rfl rfl rfl rfl grt grt grt rfl rfl rfl rfl rfl
theorem zkX(r0 r1 r2 r3 r4:Rt)(cs:List Cb)(mt:List (List Int))(b0 b1 b2 b3 b4:List Mg):Fn Tryz.prog 18 [.box 0 0,.v (.int .i64 5)] [ntO ⟨[r0,r1,r2,r3,r4],cs,mt,[b0,b1,b2,b3,b4]⟩] (.tup [.arr 1 0 b4.length,.err 0]) [ntO ⟨[r0,r1,r2,r3,r4],cs,mt,[b0,b1,b2,b3,[]]⟩,.arr true 67 3 0 (b4.map zaY)]:=by
 have h:Fn Tryz.prog 18 [.box 0 0,.v (.int .i64 5)] ([]++za2 (extG 0 (ntM ⟨[r0,r1,r2,r3,r4],cs,mt,[b0,b1,b2,b3,b4]⟩ 0).length) (ntM ⟨[r0,r1,r2,r3,r4],cs,mt,[b0,b1,b2,b3,b4]⟩ 0)) (.tup [.arr 14 0 b4.length,.err 0]) (ntH 5 cs mt (rowsR 5 [r0,r1,r2,r3,r4]) [[.arr 10 0 b0.length],[.arr 11 0 b1.length],[.arr 12 0 b2.length],[.arr 13 0 b3.length],[.arr 15 0 0]]++(resR [r0,r1,r2,r3,r4]++(resI 0 [b0,b1,b2,b3,b4]++[.arr true 67 3 0 []]))):=by
  rw[zgb];simp only[ntM,ntH,rowsR,rowsI,resR,resI,List.length_cons,List.length_nil];refine foL zaA [] [] Tryz.func18 Tryz.ntmps18 Tryz.results18 ?_;(all_goals refine fx ?_;repeat' first|exact .intro|refine Tw.mk ?_ ?_|(intro h;first|replace h:=h.o|cases h))
  all_goals (try (exfalso;omega))
  (first|refine .mk ⟨_,zaK true 4 4 67 3 _ rfl rfl,?_⟩|refine⟨_,zaK true 4 4 67 3 _ rfl rfl,?_⟩)
  simp only[List.set_cons_zero,List.set_cons_succ,List.cons_append,List.nil_append];((try (conv=>whnf));refine StopRet.by [0,1,2,3,4,5,6,7,8,9,10,11,12,13,14,15] ?_;repeat' first|exact .intro|refine Tw.mk ?_ ?_)
 exact zaO (pre:=[]) (mt:=[.gone,.arr true 67 3 0 (b4.map zaY)]) (m':=ntM ⟨[r0,r1,r2,r3,r4],cs,mt,[b0,b1,b2,b3,[]]⟩ 0) (ρ:=[0,14]) (κ:=[0,1,2,3,4,5,6,7,8,9,10,11,12,13,15]) (L:=0) h rfl rfl rfl rfl grt grt grt rfl rfl rfl rfl rfl
theorem zfH(r0 r1 r2 r3 r4 r5:Rt)(cs:List Cb)(mt:List (List Int))(b0 b1 b2 b3 b4 b5:List Mg):[]++za2 (extG 0 (ntM ⟨[r0,r1,r2,r3,r4,r5],cs,mt,[b0,b1,b2,b3,b4,b5]⟩ 0).length) (ntM ⟨[r0,r1,r2,r3,r4,r5],cs,mt,[b0,b1,b2,b3,b4,b5]⟩ 0)=ntM ⟨[r0,r1,r2,r3,r4,r5],cs,mt,[b0,b1,b2,b3,b4,b5]⟩ 0:=rfl
theorem zlG(r0 r1 r2 r3 r4 r5:Rt)(cs:List Cb)(mt:List (List Int))(b0 b1 b2 b3 b4 b5:List Mg):Fn Tryz.prog 18 [.box 0 0,.v (.int .i64 1)] [ntO ⟨[r0,r1,r2,r3,r4,r5],cs,mt,[b0,b1,b2,b3,b4,b5]⟩] (.tup [.arr 1 0 b0.length,.err 0]) [ntO ⟨[r0,r1,r2,r3,r4,r5],cs,mt,[[],b1,b2,b3,b4,b5]⟩,.arr true 67 3 0 (b0.map zaY)]:=by
 have h:Fn Tryz.prog 18 [.box 0 0,.v (.int .i64 1)] ([]++za2 (extG 0 (ntM ⟨[r0,r1,r2,r3,r4,r5],cs,mt,[b0,b1,b2,b3,b4,b5]⟩ 0).length) (ntM ⟨[r0,r1,r2,r3,r4,r5],cs,mt,[b0,b1,b2,b3,b4,b5]⟩ 0)) (.tup [.arr 11 0 b0.length,.err 0]) (ntH 6 cs mt (rowsR 5 [r0,r1,r2,r3,r4,r5]) [[.arr 17 0 0],[.arr 12 0 b1.length],[.arr 13 0 b2.length],[.arr 14 0 b3.length],[.arr 15 0 b4.length],[.arr 16 0 b5.length]]++(resR [r0,r1,r2,r3,r4,r5]++(resI 0 [b0,b1,b2,b3,b4,b5]++[.arr true 67 3 0 []]))):=by
  rw[zfH];simp only[ntM,ntH,rowsR,rowsI,resR,resI,List.length_cons,List.length_nil];refine foL zaA [] [] Tryz.func18 Tryz.ntmps18 Tryz.results18 ?_;(all_goals refine fx ?_;repeat' first|exact .intro|refine Tw.mk ?_ ?_|(intro h;first|replace h:=h.o|cases h))
  all_goals (try (exfalso;omega))
  (first|refine .mk ⟨_,zaK true 4 0 67 3 _ rfl rfl,?_⟩|refine⟨_,zaK true 4 0 67 3 _ rfl rfl,?_⟩)
  simp only[List.set_cons_zero,List.set_cons_succ,List.cons_append,List.nil_append];((try (conv=>whnf));refine StopRet.by [0,1,2,3,4,5,6,7,8,9,10,11,12,13,14,15,16,17] ?_;repeat' first|exact .intro|refine Tw.mk ?_ ?_)
 exact zaO (pre:=[]) (mt:=[.gone,.arr true 67 3 0 (b0.map zaY)]) (m':=ntM ⟨[r0,r1,r2,r3,r4,r5],cs,mt,[[],b1,b2,b3,b4,b5]⟩ 0) (ρ:=[0,11]) (κ:=[0,1,2,3,4,5,6,7,8,9,10,17,12,13,14,15,16]) (L:=0) h rfl rfl rfl rfl grt grt grt rfl rfl rfl rfl rfl
theorem zku(r0 r1 r2 r3 r4 r5:Rt)(cs:List Cb)(mt:List (List Int))(b0 b1 b2 b3 b4 b5:List Mg):Fn Tryz.prog 18 [.box 0 0,.v (.int .i64 2)] [ntO ⟨[r0,r1,r2,r3,r4,r5],cs,mt,[b0,b1,b2,b3,b4,b5]⟩] (.tup [.arr 1 0 b1.length,.err 0]) [ntO ⟨[r0,r1,r2,r3,r4,r5],cs,mt,[b0,[],b2,b3,b4,b5]⟩,.arr true 67 3 0 (b1.map zaY)]:=by
 have h:Fn Tryz.prog 18 [.box 0 0,.v (.int .i64 2)] ([]++za2 (extG 0 (ntM ⟨[r0,r1,r2,r3,r4,r5],cs,mt,[b0,b1,b2,b3,b4,b5]⟩ 0).length) (ntM ⟨[r0,r1,r2,r3,r4,r5],cs,mt,[b0,b1,b2,b3,b4,b5]⟩ 0)) (.tup [.arr 12 0 b1.length,.err 0]) (ntH 6 cs mt (rowsR 5 [r0,r1,r2,r3,r4,r5]) [[.arr 11 0 b0.length],[.arr 17 0 0],[.arr 13 0 b2.length],[.arr 14 0 b3.length],[.arr 15 0 b4.length],[.arr 16 0 b5.length]]++(resR [r0,r1,r2,r3,r4,r5]++(resI 0 [b0,b1,b2,b3,b4,b5]++[.arr true 67 3 0 []]))):=by
  rw[zfH];simp only[ntM,ntH,rowsR,rowsI,resR,resI,List.length_cons,List.length_nil];refine foL zaA [] [] Tryz.func18 Tryz.ntmps18 Tryz.results18 ?_;(all_goals refine fx ?_;repeat' first|exact .intro|refine Tw.mk ?_ ?_|(intro h;first|replace h:=h.o|cases h))
  all_goals (try (exfalso;omega))
  (first|refine .mk ⟨_,zaK true 4 1 67 3 _ rfl rfl,?_⟩|refine⟨_,zaK true 4 1 67 3 _ rfl rfl,?_⟩)
  simp only[List.set_cons_zero,List.set_cons_succ,List.cons_append,List.nil_append];((try (conv=>whnf));refine StopRet.by [0,1,2,3,4,5,6,7,8,9,10,11,12,13,14,15,16,17] ?_;repeat' first|exact .intro|refine Tw.mk ?_ ?_)
 exact zaO (pre:=[]) (mt:=[.gone,.arr true 67 3 0 (b1.map zaY)]) (m':=ntM ⟨[r0,r1,r2,r3,r4,r5],cs,mt,[b0,[],b2,b3,b4,b5]⟩ 0) (ρ:=[0,12]) (κ:=[0,1,2,3,4,5,6,7,8,9,10,11,17,13,14,15,16]) (L:=0) h rfl rfl rfl rfl grt grt grt rfl rfl rfl rfl rfl
theorem zlQ(r0 r1 r2 r3 r4 r5:Rt)(cs:List Cb)(mt:List (List Int))(b0 b1 b2 b3 b4 b5:List Mg):Fn Tryz.prog 18 [.box 0 0,.v (.int .i64 3)] [ntO ⟨[r0,r1,r2,r3,r4,r5],cs,mt,[b0,b1,b2,b3,b4,b5]⟩] (.tup [.arr 1 0 b2.length,.err 0]) [ntO ⟨[r0,r1,r2,r3,r4,r5],cs,mt,[b0,b1,[],b3,b4,b5]⟩,.arr true 67 3 0 (b2.map zaY)]:=by
 have h:Fn Tryz.prog 18 [.box 0 0,.v (.int .i64 3)] ([]++za2 (extG 0 (ntM ⟨[r0,r1,r2,r3,r4,r5],cs,mt,[b0,b1,b2,b3,b4,b5]⟩ 0).length) (ntM ⟨[r0,r1,r2,r3,r4,r5],cs,mt,[b0,b1,b2,b3,b4,b5]⟩ 0)) (.tup [.arr 13 0 b2.length,.err 0]) (ntH 6 cs mt (rowsR 5 [r0,r1,r2,r3,r4,r5]) [[.arr 11 0 b0.length],[.arr 12 0 b1.length],[.arr 17 0 0],[.arr 14 0 b3.length],[.arr 15 0 b4.length],[.arr 16 0 b5.length]]++(resR [r0,r1,r2,r3,r4,r5]++(resI 0 [b0,b1,b2,b3,b4,b5]++[.arr true 67 3 0 []]))):=by
  rw[zfH];simp only[ntM,ntH,rowsR,rowsI,resR,resI,List.length_cons,List.length_nil];refine foL zaA [] [] Tryz.func18 Tryz.ntmps18 Tryz.results18 ?_;(all_goals refine fx ?_;repeat' first|exact .intro|refine Tw.mk ?_ ?_|(intro h;first|replace h:=h.o|cases h))
  all_goals (try (exfalso;omega))
  (first|refine .mk ⟨_,zaK true 4 2 67 3 _ rfl rfl,?_⟩|refine⟨_,zaK true 4 2 67 3 _ rfl rfl,?_⟩)
  simp only[List.set_cons_zero,List.set_cons_succ,List.cons_append,List.nil_append];((try (conv=>whnf));refine StopRet.by [0,1,2,3,4,5,6,7,8,9,10,11,12,13,14,15,16,17] ?_;repeat' first|exact .intro|refine Tw.mk ?_ ?_)
 exact zaO (pre:=[]) (mt:=[.gone,.arr true 67 3 0 (b2.map zaY)]) (m':=ntM ⟨[r0,r1,r2,r3,r4,r5],cs,mt,[b0,b1,[],b3,b4,b5]⟩ 0) (ρ:=[0,13]) (κ:=[0,1,2,3,4,5,6,7,8,9,10,11,12,17,14,15,16]) (L:=0) h rfl rfl rfl rfl grt grt grt rfl rfl rfl rfl rfl
theorem zkb(r0 r1 r2 r3 r4 r5:Rt)(cs:List Cb)(mt:List (List Int))(b0 b1 b2 b3 b4 b5:List Mg):Fn Tryz.prog 18 [.box 0 0,.v (.int .i64 4)] [ntO ⟨[r0,r1,r2,r3,r4,r5],cs,mt,[b0,b1,b2,b3,b4,b5]⟩] (.tup [.arr 1 0 b3.length,.err 0]) [ntO ⟨[r0,r1,r2,r3,r4,r5],cs,mt,[b0,b1,b2,[],b4,b5]⟩,.arr true 67 3 0 (b3.map zaY)]:=by
 have h:Fn Tryz.prog 18 [.box 0 0,.v (.int .i64 4)] ([]++za2 (extG 0 (ntM ⟨[r0,r1,r2,r3,r4,r5],cs,mt,[b0,b1,b2,b3,b4,b5]⟩ 0).length) (ntM ⟨[r0,r1,r2,r3,r4,r5],cs,mt,[b0,b1,b2,b3,b4,b5]⟩ 0)) (.tup [.arr 14 0 b3.length,.err 0]) (ntH 6 cs mt (rowsR 5 [r0,r1,r2,r3,r4,r5]) [[.arr 11 0 b0.length],[.arr 12 0 b1.length],[.arr 13 0 b2.length],[.arr 17 0 0],[.arr 15 0 b4.length],[.arr 16 0 b5.length]]++(resR [r0,r1,r2,r3,r4,r5]++(resI 0 [b0,b1,b2,b3,b4,b5]++[.arr true 67 3 0 []]))):=by
  rw[zfH];simp only[ntM,ntH,rowsR,rowsI,resR,resI,List.length_cons,List.length_nil];refine foL zaA [] [] Tryz.func18 Tryz.ntmps18 Tryz.results18 ?_;(all_goals refine fx ?_;repeat' first|exact .intro|refine Tw.mk ?_ ?_|(intro h;first|replace h:=h.o|cases h))
  all_goals (try (exfalso;omega))
  (first|refine .mk ⟨_,zaK true 4 3 67 3 _ rfl rfl,?_⟩|refine⟨_,zaK true 4 3 67 3 _ rfl rfl,?_⟩)
  simp only[List.set_cons_zero,List.set_cons_succ,List.cons_append,List.nil_append];((try (conv=>whnf));refine StopRet.by [0,1,2,3,4,5,6,7,8,9,10,11,12,13,14,15,16,17] ?_;repeat' first|exact .intro|refine Tw.mk ?_ ?_)
 exact zaO (pre:=[]) (mt:=[.gone,.arr true 67 3 0 (b3.map zaY)]) (m':=ntM ⟨[r0,r1,r2,r3,r4,r5],cs,mt,[b0,b1,b2,[],b4,b5]⟩ 0) (ρ:=[0,14]) (κ:=[0,1,2,3,4,5,6,7,8,9,10,11,12,13,17,15,16]) (L:=0) h rfl rfl rfl rfl grt grt grt rfl rfl rfl rfl rfl
theorem zk4(r0 r1 r2 r3 r4 r5:Rt)(cs:List Cb)(mt:List (List Int))(b0 b1 b2 b3 b4 b5:List Mg):Fn Tryz.prog 18 [.box 0 0,.v (.int .i64 5)] [ntO ⟨[r0,r1,r2,r3,r4,r5],cs,mt,[b0,b1,b2,b3,b4,b5]⟩] (.tup [.arr 1 0 b4.length,.err 0]) [ntO ⟨[r0,r1,r2,r3,r4,r5],cs,mt,[b0,b1,b2,b3,[],b5]⟩,.arr true 67 3 0 (b4.map zaY)]:=by
 have h:Fn Tryz.prog 18 [.box 0 0,.v (.int .i64 5)] ([]++za2 (extG 0 (ntM ⟨[r0,r1,r2,r3,r4,r5],cs,mt,[b0,b1,b2,b3,b4,b5]⟩ 0).length) (ntM ⟨[r0,r1,r2,r3,r4,r5],cs,mt,[b0,b1,b2,b3,b4,b5]⟩ 0)) (.tup [.arr 15 0 b4.length,.err 0]) (ntH 6 cs mt (rowsR 5 [r0,r1,r2,r3,r4,r5]) [[.arr 11 0 b0.length],[.arr 12 0 b1.length],[.arr 13 0 b2.length],[.arr 14 0 b3.length],[.arr 17 0 0],[.arr 16 0 b5.length]]++(resR [r0,r1,r2,r3,r4,r5]++(resI 0 [b0,b1,b2,b3,b4,b5]++[.arr true 67 3 0 []]))):=by
  rw[zfH];simp only[ntM,ntH,rowsR,rowsI,resR,resI,List.length_cons,List.length_nil];refine foL zaA [] [] Tryz.func18 Tryz.ntmps18 Tryz.results18 ?_;(all_goals refine fx ?_;repeat' first|exact .intro|refine Tw.mk ?_ ?_|(intro h;first|replace h:=h.o|cases h))
  all_goals (try (exfalso;omega))
  (first|refine .mk ⟨_,zaK true 4 4 67 3 _ rfl rfl,?_⟩|refine⟨_,zaK true 4 4 67 3 _ rfl rfl,?_⟩)
  simp only[List.set_cons_zero,List.set_cons_succ,List.cons_append,List.nil_append];((try (conv=>whnf));refine StopRet.by [0,1,2,3,4,5,6,7,8,9,10,11,12,13,14,15,16,17] ?_;repeat' first|exact .intro|refine Tw.mk ?_ ?_)
 exact zaO (pre:=[]) (mt:=[.gone,.arr true 67 3 0 (b4.map zaY)]) (m':=ntM ⟨[r0,r1,r2,r3,r4,r5],cs,mt,[b0,b1,b2,b3,[],b5]⟩ 0) (ρ:=[0,15]) (κ:=[0,1,2,3,4,5,6,7,8,9,10,11,12,13,14,17,16]) (L:=0) h rfl rfl rfl rfl grt grt grt rfl rfl rfl rfl rfl
theorem zk9(r0 r1 r2 r3 r4 r5:Rt)(cs:List Cb)(mt:List (List Int))(b0 b1 b2 b3 b4 b5:List Mg):Fn Tryz.prog 18 [.box 0 0,.v (.int .i64 6)] [ntO ⟨[r0,r1,r2,r3,r4,r5],cs,mt,[b0,b1,b2,b3,b4,b5]⟩] (.tup [.arr 1 0 b5.length,.err 0]) [ntO ⟨[r0,r1,r2,r3,r4,r5],cs,mt,[b0,b1,b2,b3,b4,[]]⟩,.arr true 67 3 0 (b5.map zaY)]:=by
 have h:Fn Tryz.prog 18 [.box 0 0,.v (.int .i64 6)] ([]++za2 (extG 0 (ntM ⟨[r0,r1,r2,r3,r4,r5],cs,mt,[b0,b1,b2,b3,b4,b5]⟩ 0).length) (ntM ⟨[r0,r1,r2,r3,r4,r5],cs,mt,[b0,b1,b2,b3,b4,b5]⟩ 0)) (.tup [.arr 16 0 b5.length,.err 0]) (ntH 6 cs mt (rowsR 5 [r0,r1,r2,r3,r4,r5]) [[.arr 11 0 b0.length],[.arr 12 0 b1.length],[.arr 13 0 b2.length],[.arr 14 0 b3.length],[.arr 15 0 b4.length],[.arr 17 0 0]]++(resR [r0,r1,r2,r3,r4,r5]++(resI 0 [b0,b1,b2,b3,b4,b5]++[.arr true 67 3 0 []]))):=by
  rw[zfH];simp only[ntM,ntH,rowsR,rowsI,resR,resI,List.length_cons,List.length_nil];refine foL zaA [] [] Tryz.func18 Tryz.ntmps18 Tryz.results18 ?_;(all_goals refine fx ?_;repeat' first|exact .intro|refine Tw.mk ?_ ?_|(intro h;first|replace h:=h.o|cases h))
  all_goals (try (exfalso;omega))
  (first|refine .mk ⟨_,zaK true 4 5 67 3 _ rfl rfl,?_⟩|refine⟨_,zaK true 4 5 67 3 _ rfl rfl,?_⟩)
  simp only[List.set_cons_zero,List.set_cons_succ,List.cons_append,List.nil_append];((try (conv=>whnf));refine StopRet.by [0,1,2,3,4,5,6,7,8,9,10,11,12,13,14,15,16,17] ?_;repeat' first|exact .intro|refine Tw.mk ?_ ?_)
 exact zaO (pre:=[]) (mt:=[.gone,.arr true 67 3 0 (b5.map zaY)]) (m':=ntM ⟨[r0,r1,r2,r3,r4,r5],cs,mt,[b0,b1,b2,b3,b4,[]]⟩ 0) (ρ:=[0,16]) (κ:=[0,1,2,3,4,5,6,7,8,9,10,11,12,13,14,15,17]) (L:=0) h rfl rfl rfl rfl grt grt grt rfl rfl rfl rfl rfl
section
variable {k d e:Nat} {N:Nt}
theorem xninbox(hk:1<=k/\k<=6)(hN:N.inv k d e)(i:Int)(hi:1<=i/\i<=k):Fn Tryz.prog 18 [.box 0 0,.v (.int .i64 i)] [ntO N] (.tup [.arr 1 0 (N.ib.getD (i-1).toNat []).length,.err 0]) [ntO (ninb N i),.arr true 67 3 0 ((N.ib.getD (i-1).toNat []).map zaY)]:=by
 rcases (by omega:k=1\/k=2\/k=3\/k=4\/k=5\/k=6) with rfl|rfl|rfl|rfl|rfl|rfl
 .obtain⟨rs,cs,mt,ib⟩:=N;have l1:=hN.ok.rs;have l2:=hN.ok.ib;dsimp only at l1 l2;obtain⟨r0,rfl⟩:=len1 l1;obtain⟨b0,rfl⟩:=len1 l2;rcases (by omega:i=1) with rfl
  .exact zkY r0 cs mt b0
 .obtain⟨rs,cs,mt,ib⟩:=N;have l1:=hN.ok.rs;have l2:=hN.ok.ib;dsimp only at l1 l2;obtain⟨r0,r1,rfl⟩:=len2 l1;obtain⟨b0,b1,rfl⟩:=len2 l2;rcases (by omega:i=1\/i=2) with rfl|rfl
  .exact zlM r0 r1 cs mt b0 b1
  .exact zkG r0 r1 cs mt b0 b1
 .obtain⟨rs,cs,mt,ib⟩:=N;have l1:=hN.ok.rs;have l2:=hN.ok.ib;dsimp only at l1 l2;obtain⟨r0,r1,r2,rfl⟩:=len3 l1;obtain⟨b0,b1,b2,rfl⟩:=len3 l2;rcases (by omega:i=1\/i=2\/i=3) with rfl|rfl|rfl
  .exact zkl r0 r1 r2 cs mt b0 b1 b2
  .exact zlY r0 r1 r2 cs mt b0 b1 b2
  .exact zlK r0 r1 r2 cs mt b0 b1 b2
 .obtain⟨rs,cs,mt,ib⟩:=N;have l1:=hN.ok.rs;have l2:=hN.ok.ib;dsimp only at l1 l2;obtain⟨r0,r1,r2,r3,rfl⟩:=len4 l1;obtain⟨b0,b1,b2,b3,rfl⟩:=len4 l2;rcases (by omega:i=1\/i=2\/i=3\/i=4) with rfl|rfl|rfl|rfl
  .exact zkc r0 r1 r2 r3 cs mt b0 b1 b2 b3
  .exact zkL r0 r1 r2 r3 cs mt b0 b1 b2 b3
  .exact zlT r0 r1 r2 r3 cs mt b0 b1 b2 b3
  .exact zkS r0 r1 r2 r3 cs mt b0 b1 b2 b3
 .obtain⟨rs,cs,mt,ib⟩:=N;have l1:=hN.ok.rs;have l2:=hN.ok.ib;dsimp only at l1 l2;obtain⟨r0,r1,r2,r3,r4,rfl⟩:=len5 l1;obtain⟨b0,b1,b2,b3,b4,rfl⟩:=len5 l2;rcases (by omega:i=1\/i=2\/i=3\/i=4\/i=5) with rfl|rfl|rfl|rfl|rfl
  .exact zkt r0 r1 r2 r3 r4 cs mt b0 b1 b2 b3 b4
  .exact zlE r0 r1 r2 r3 r4 cs mt b0 b1 b2 b3 b4
  .exact zkU r0 r1 r2 r3 r4 cs mt b0 b1 b2 b3 b4
  .exact zks r0 r1 r2 r3 r4 cs mt b0 b1 b2 b3 b4
  .exact zkX r0 r1 r2 r3 r4 cs mt b0 b1 b2 b3 b4
 .obtain⟨rs,cs,mt,ib⟩:=N;have l1:=hN.ok.rs;have l2:=hN.ok.ib;dsimp only at l1 l2;obtain⟨r0,r1,r2,r3,r4,r5,rfl⟩:=len6 l1;obtain⟨b0,b1,b2,b3,b4,b5,rfl⟩:=len6 l2;rcases (by omega:i=1\/i=2\/i=3\/i=4\/i=5\/i=6) with rfl|rfl|rfl|rfl|rfl|rfl
  .exact zlG r0 r1 r2 r3 r4 r5 cs mt b0 b1 b2 b3 b4 b5
  .exact zku r0 r1 r2 r3 r4 r5 cs mt b0 b1 b2 b3 b4 b5
  .exact zlQ r0 r1 r2 r3 r4 r5 cs mt b0 b1 b2 b3 b4 b5
  .exact zkb r0 r1 r2 r3 r4 r5 cs mt b0 b1 b2 b3 b4 b5
  .exact zk4 r0 r1 r2 r3 r4 r5 cs mt b0 b1 b2 b3 b4 b5
  .exact zk9 r0 r1 r2 r3 r4 r5 cs mt b0 b1 b2 b3 b4 b5
end
end Go.Proofs.YtimfnpjcedjmiadGreat
namespace Go.Proofs.YtimfnpjcedjmiadGreat
def Cb.wE(c:Cb)(s:Bool):Int×Int:=if s then (c.b,c.pb) else (c.a,c.pa)
def Cb.setW(c:Cb)(s:Bool)(w:List UInt8):Cb:=if s then { c with w1:=w } else { c with w0:=w }
theorem ziO(c:Cb)(s:Bool)(w:List UInt8)(t:Bool):(c.setW s w).wr t=if t=s then w else c.wr t:=by cases s<;>cases t<;>rfl
theorem zfz(c:Cb)(s:Bool)(w:List UInt8)(t:Bool):(c.setW s w).rdE t=c.rdE t:=by cases s<;>cases t<;>rfl
theorem setW_inn(c:Cb)(s:Bool)(w:List UInt8):(c.setW s w).inn=c.inn:=by cases s<;>rfl
theorem zo1(c:Cb)(s:Bool):c.rdE s=(((c.wE (!s)).1-1).toNat,(c.wE (!s)).2.toNat):=by cases s<;>rfl
theorem zit{k n d e:Nat}{N:Nt}(hN:N.ok k n d e){i:Nat}{c:Cb}(hc:N.cs[i]? =some c)(s:Bool): ∃r,N.rs[((c.wE s).1-1).toNat]? =some r/\r.ps.length=3/\(c.wE s).2.toNat<3/\N.rt (c.wE s).1=r/\((c.wE s).1-1).toNat<N.rs.length:=by
 have hco:=hN.c c (getq hc);have h1:((c.wE s).1-1).toNat<N.rs.length:=by
  rw[hN.rs];have:=hco.a;have:=hco.b;cases s
  .show (c.a-1).toNat<k;omega
  .show (c.b-1).toNat<k;omega
 refine⟨_,List.getElem?_eq_getElem h1,(hN.r _ (List.getElem_mem h1)).p3,?_,zb7 (List.getElem?_eq_getElem h1),h1⟩;have:=hco.pa;have:=hco.pb;cases s
 .show c.pa.toNat<3;omega
 .show c.pb.toNat<3;omega
structure Nt.wd (N:Nt):Prop where
 uq:N.uq
 op: ∀(i:Nat) (c:Cb) (s:Bool),N.cs[i]? =some c->(N.ptA (c.rdE s)).l.opn
 st: ∀(i:Nat) (c:Cb) (s:Bool),N.cs[i]? =some c->((N.ptA (c.rdE s)).l.st=1↔c.inn=false)
 w: ∀(i:Nat) (c:Cb) (s:Bool),N.cs[i]? =some c->c.inn=false->c.wr s=[]
def CbE(C C':List Cb):Prop:= ∀(i:Nat) (c':Cb),C'[i]? =some c'-> ∃c,C[i]? =some c/\c'.inn=c.inn/\(∀s,c'.rdE s=c.rdE s)/\(c.inn=false-> ∀s,c.wr s=[]->c'.wr s=[])
theorem zls(C:List Cb):CbE C C:=λi c h=>⟨c,h,rfl,λ_=>rfl,λ_ _ g=>g⟩
theorem wd_sp{N N':Nt}(h:N.wd)(hc:CbE N.cs N'.cs)(hp: ∀(i:Nat) (c:Cb) (s:Bool),N.cs[i]? =some c->Sp (N.ptA (c.rdE s)).l (N'.ptA (c.rdE s)).l):N'.wd:=by
 refine⟨λi j c d s t hi hj e=>?_,λi c' s hi=>?_,λi c' s hi=>?_,λi c' s hi hin=>?_⟩
 .obtain⟨c1,h1,_,h3,_⟩:=hc i c hi;obtain⟨d1,k1,_,k3,_⟩:=hc j d hj;exact h.uq i j c1 d1 s t h1 k1 (by rw[<-h3 s,<-k3 t];exact e)
 .obtain⟨c1,h1,h2,h3,h4⟩:=hc i c' hi;rw[h3 s];exact (hp i c1 s h1 (h.op i c1 s h1)).1
 .obtain⟨c1,h1,h2,h3,h4⟩:=hc i c' hi;rw[h3 s,h2];exact (hp i c1 s h1 (h.op i c1 s h1)).2.trans (h.st i c1 s h1)
 .obtain⟨c1,h1,h2,h3,h4⟩:=hc i c' hi;rw[h2] at hin;exact h4 hin s (h.w i c1 s h1 hin)
theorem ziy{N:Nt}{a:Int}{G:Rt->Rt}{r:Rt}(hr:N.rs[(a-1).toNat]? =some r)(hk:Rk r (G r))(e:Nat×Nat):Rp (N.ptA e) ((N.onR a G).ptA e):=by
 rw[zdS hr];split
 .rename_i h;unfold Nt.ptA;rw[<-h,zb7 hr];exact hk e.2
 .exact Rp.refl _
theorem wd_onR{N:Nt}(h:N.wd){a:Int}{G:Rt->Rt}{r:Rt}(hr:N.rs[(a-1).toNat]? =some r)(hk:Rk r (G r)):(N.onR a G).wd:=wd_sp (N':=N.onR a G) h (zls _) (λi c s _=>(ziy hr hk _).2.2)
theorem zcs{α:Type}{l:List α}{i j:Nat}{d x:α}(h:(l.set i d)[j]? =some x):(i=j/\x=d)\/(i≠j/\l[j]? =some x):=by
 rw[List.getElem?_set] at h;split at h
 .rename_i e;split at h
  .cases h;exact .inl ⟨e,rfl⟩
  .cases h
 .rename_i e;exact .inr ⟨e,h⟩
theorem znY{C:List Cb}{i:Nat}{c:Cb}(hc:C[i]? =some c)(s:Bool)(w:List UInt8)(hw:c.inn=false->c.wr s=[]->w=[]):CbE C (C.set i (c.setW s w)):=λj d hd=>by
 rcases zcs hd with⟨rfl,rfl⟩|⟨_,h⟩
 .refine⟨c,hc,setW_inn .., λt=>zfz .., λhi t ht=>?_⟩;rw[ziO];split
  .rename_i e;subst e;exact hw hi ht
  .exact ht
 .exact⟨d,h,rfl,λ_=>rfl,λ_ _ g=>g⟩
def zgK(N:Nt)(i:Nat)(s:Bool):Nt:=match N.cs[i]? with
 |none=>N
 |some c=>{ N.onR (c.wE s).1 (λr=>outR r (c.wE s).2.toNat) with cs:=N.cs.set i (c.setW s (putW c.inn (c.wr s) ((N.rt (c.wE s).1).pt (c.wE s).2.toNat).out)) }
theorem znd(N:Nt)(i:Nat):zcH N i=zgK N i false:=by unfold zcH zgK;cases N.cs[i]? <;>rfl
theorem zoP(N:Nt)(i:Nat):zds N i=zgK N i true:=by unfold zds zgK;cases N.cs[i]? <;>rfl
section
variable {S:Meas} {J:Nat->List Mg->Nat} {E:Nat->Prop} {X M:Nat} {F:Fls} {U:Ous} {N:Nt}
theorem ni_out{a:Int}{p:Nat}(hp:p<3){r:Rt}(hr:N.rs[(a-1).toNat]? =some r)(h:NI S J E X (M+S.s (U (a-1).toNat p)) F U N):NI S J E X M F (λb j=>if b=(a-1).toNat/\j=p then [] else U b j) (N.onR a (λr=>outR r p)):=by
 have ha:=(List.getElem?_eq_some_iff.1 hr).1;have hco:(outR r p).co=r.co:=by
  unfold Rt.co;show Co.mk r.id ((r.ps.modify p _).map λp=>(p.m,p.p)) r.b r.inb=_;refine congrArg (λl=>Co.mk r.id l r.b r.inb) ?_;refine List.ext_getElem? λj=>?_;rw[List.getElem?_map,List.getElem?_map,List.getElem?_modify];cases r.ps[j]? with
  |none=>rfl
  |some p=>show some _=some _;split<;>rfl
 refine⟨λi c s hE hc=>?_,h.fg,λb q j x hq hx=>?_,λb j=>?_,λb q hq=>?_,?_⟩
 .have:=h.fl i c s hE hc;unfold Nt.rdA at this ⊢;rw[(ziy (G:=λr=>outR r p) hr (zqQ r p) _).1];exact this
 .rw[zfc hr] at hq;by_cases e:(a-1).toNat=b
  .subst e;rw[if_pos rfl] at hq;cases hq;obtain⟨y,hy,rfl⟩:=ziT (f:=λp=>{ p with out:=[] }) hx;by_cases ej:p=j
   .subst ej;rw[if_pos rfl,if_pos ⟨rfl,rfl⟩];rfl
   .rw[if_neg ej,if_neg (λg=>ej g.2.symm)];exact h.ou _ r j y hr hy
  .rw[if_neg e] at hq;rw[if_neg (λg=>e g.1.symm)];exact h.ou b q j x hq hx
 .split
  .exact λt ht=>by cases ht
  .exact h.ug b j
 .rw[zfc hr] at hq;split at hq
  .cases hq;rw[hco];exact h.Q _ r hr
  .exact h.Q b q hq
 .have hs:=h.sum;unfold Meas.tot at hs ⊢;have hlen:(N.onR a (λr=>outR r p)).rs.length=N.rs.length:=List.length_modify ..;rw[hlen,show (N.onR a (λr=>outR r p)).cs=N.cs from rfl];have key:=zcX (f:=S.at J U N) (g:=S.at J (λb j=>if b=(a-1).toNat/\j=p then [] else U b j) (N.onR a (λr=>outR r p))) (i:=(a-1).toNat) (x:=S.s (U (a-1).toNat p)) (y:=0) N.rs.length ha (λb hb hne=>by
   unfold Meas.at;rw[zck hr,if_neg (λg=>hne g.symm)];simp only[hne,false_and,if_false];rfl) (by
   unfold Meas.at;rw[zck hr,if_pos rfl,zb7 hr,hco];have hv:S.v (λj=>if (a-1).toNat=(a-1).toNat/\j=p then [] else U (a-1).toNat j)+S.s (U (a-1).toNat p)=S.v (U (a-1).toNat):=by
    unfold Meas.v;have h0:=S.s_nil;rcases (by omega:p=0\/p=1\/p=2) with rfl|rfl|rfl
    .simp [h0];omega
    .simp [h0];omega
    .simp [h0]
   show S.v (λj=>if (a-1).toNat=(a-1).toNat/\j=p then [] else U (a-1).toNat j)+S.W r.co+J (a-1).toNat (N.ib.getD (a-1).toNat [])+_<=_;omega)
  omega
theorem ni_gathS(h:NI S J E X M F U N){k n d e:Nat}(hN:N.ok k n d e){i:Nat}(s:Bool): ∃F' U',NI S J E X M F' U' (zgK N i s):=by
 unfold zgK;cases hc:N.cs[i]? with
 |none=>exact⟨F,U,h⟩
 |some c=>
  have hi:=(List.getElem?_eq_some_iff.1 hc).1;obtain⟨r,hr,h3,hp3,hrt,-⟩:=zit hN hc s;have hp:r.ps[(c.wE s).2.toNat]? =some (r.pt (c.wE s).2.toNat):=by
   rw[zpA (List.getElem?_eq_getElem (by omega))];exact List.getElem?_eq_getElem (by omega)
  have ho:=h.ou _ r _ _ hr hp;dsimp only;rw[hrt,ho];generalize hu:U ((c.wE s).1-1).toNat (c.wE s).2.toNat=u;have hug:S.good X u:=by rw[<-hu];exact h.ug _ _
  rcases gcase c.inn (c.wr s) (u.flatMap frm) with⟨_,e⟩|⟨_,_,e⟩|⟨_,_,e⟩
  case' inr.inl=>
   have h1:=ni_cs (x:=S.s u) (y:=0) h (C:=N.cs.set i (c.setW s (c.wr s++u.flatMap frm))) (F':=zeI F i s (F i s++u)) (E':=E) (λj x t hE hx=>by
    unfold zeI;rcases zcs hx with⟨rfl,rfl⟩|⟨hne,hx⟩
    .rw[zfz,ziO];by_cases et:t=s
     .subst et;rw[if_pos rfl,if_pos ⟨rfl,rfl⟩];exact flow_put (h.fl i c t hE hc) hug.txs
     .rw[if_neg et,if_neg (λg=>et g.2)];exact h.fl i c t hE hc
    .rw[if_neg (λg=>hne g.1.symm)];exact h.fl j x t hE hx) (λj t=>by
    unfold zeI;split
    .exact (h.fg i s).app hug
    .exact h.fg j t) (by
    rw[List.length_set];have:=zcX (f:=λi=>S.s (F i false)+S.s (F i true)) (g:=λj=>S.s (zeI F i s (F i s++u) j false)+S.s (zeI F i s (F i s++u) j true)) (i:=i) (x:=0) (y:=S.s u) N.cs.length hi (λj hj hne=>by
     unfold zeI;simp only[hne,false_and,if_false]) (by
     unfold zeI;cases s
     .simp [Meas.s_app];omega
     .simp [Meas.s_app];omega)
    exact this)
   rw[e];exact⟨_,_,ni_out (N:={ N with cs:=N.cs.set i (c.setW s (c.wr s++u.flatMap frm)) }) (a:=(c.wE s).1) (p:=(c.wE s).2.toNat) hp3 hr (h1.up (by rw[hu];omega))⟩
  all_goals
   have h1:=ni_cs (x:=0) (y:=0) h (C:=N.cs.set i (c.setW s (c.wr s))) (F':=F) (E':=E) (λj x t hE hx=>by
    rcases zcs hx with⟨rfl,rfl⟩|⟨hne,hx⟩
    .rw[zfz,ziO];by_cases et:t=s
     .subst et;rw[if_pos rfl];exact h.fl i c t hE hc
     .rw[if_neg et];exact h.fl i c t hE hc
    .exact h.fl j x t hE hx) h.fg (by rw[List.length_set];exact Nat.le_refl _)
   rw[e];exact⟨_,_,ni_out (N:={ N with cs:=N.cs.set i (c.setW s (c.wr s)) }) (a:=(c.wE s).1) (p:=(c.wE s).2.toNat) hp3 hr (h1.up (by omega))⟩
theorem wd_gathS(h:N.wd){k n d e:Nat}(hN:N.ok k n d e)(i:Nat)(s:Bool):(zgK N i s).wd:=by
 unfold zgK;cases hc:N.cs[i]? with
 |none=>exact h
 |some c=>
  obtain⟨r,hr,h3,hp3,hrt,-⟩:=zit hN hc s;refine wd_sp h (znY hc s _ (λhi hw=>?_)) (λj x t _=>(ziy (G:=λr=>outR r (c.wE s).2.toNat) hr (zqQ r _) _).2.2);rw[hi];unfold putW;rw[if_neg (λg=>by cases g.1)];exact hw
def On(S:Meas)(J:Nat->List Mg->Nat)(M:Nat)(N:Nt):Prop:=(∃X F U,NI S J (λ_=>True) X M F U N)/\N.wd
theorem On.up(h:On S J M N){M':Nat}(hM:M<=M'):On S J M' N:=⟨by obtain⟨⟨X,F,U,h⟩,_⟩:=h;exact⟨X,F,U,h.up hM⟩,h.2⟩
theorem zli(h:On S J M N){k n d e:Nat}(hN:N.ok k n d e)(i:Nat)(s:Bool):On S J M (zgK N i s):=by
 obtain⟨⟨X,F,U,h⟩,hw⟩:=h;obtain⟨F',U',h'⟩:=ni_gathS h hN (i:=i) s;exact⟨⟨X,F',U',h'⟩,wd_gathS hw hN i s⟩
theorem on_gathL(h:On S J M N){k n d e:Nat}(hN:N.ok k n d e):On S J M (zbQ N):=by
 unfold zbQ;generalize N.cs.length=m;have:On S J M ((List.range m).foldl zfk N)/\((List.range m).foldl zfk N).ok k n d e:=by
  induction m with
  |zero=>exact⟨h,hN⟩
  |succ m ih=>
   rw[List.range_succ,List.foldl_append];generalize (List.range m).foldl zfk N=Q at *
   show On S J M (zds (zcH Q m) m)/\(zds (zcH Q m) m).ok k n d e;have h0:=ok_g0 ih.2 m;refine⟨?_,ok_g1 h0 m⟩;rw[zoP];refine zli ?_ h0 m true;rw[znd];exact zli ih.1 ih.2 m false
 exact this.1
def InB(S:Meas)(J:Nat->List Mg->Nat):Prop:= ∀(i X:Nat) (c:Co) (l:List Mg),c.id=(i:Int)+1->S.Q X c->S.Q X { c with inb:=[] }/\S.W { c with inb:=[] }+J i (l++c.inb)<=S.W c+J i l
theorem ni_gathB(hB:InB S J)(h:NI S J E X M F U N){i:Nat}(hi:i<N.rs.length)(hi2:i<N.ib.length)(hid: ∀r,N.rs[i]? =some r->r.id=(i:Int)+1):NI S J E X M F U (zbU N i):=by
 have hr:=List.getElem?_eq_getElem hi;have hl:=List.getElem?_eq_getElem hi2;generalize N.rs[i]=r at hr;generalize N.ib[i]=l at hl;have hid:=hid r hr;have hrs: ∀b,(zbU N i).rs[b]? =if i=b then some { r with inb:=[] } else N.rs[b]? :=λb=>by
  show (N.rs.modify i λr=>{ r with inb:=[] })[b]? =_;rw[List.getElem?_modify];by_cases e:i=b
  .subst e;rw[hr,if_pos rfl];show some (if _ then _ else _)=_;rw[if_pos rfl]
  .exact Y105
 have hget: ∀b,(zbU N i).rs.getD b rtD=if i=b then { r with inb:=[] } else N.rs.getD b rtD:=λb=>by
  rw[List.getD_eq_getElem?_getD,List.getD_eq_getElem?_getD,hrs b];split<;>rfl
 have hib: ∀b,(zbU N i).ib.getD b []=if i=b then l++r.inb else N.ib.getD b []:=λb=>by
  show (N.ib.modify i λl=>l++(N.rs.getD i rtD).inb).getD b []=_;rw[zb7 hr,List.getD_eq_getElem?_getD,List.getD_eq_getElem?_getD,List.getElem?_modify];by_cases e:i=b
  .subst e;rw[hl,if_pos rfl];show (if i=i then _ else _)=_;rw[if_pos rfl]
  .rw[if_neg e];cases N.ib[b]? with
   |none=>rfl
   |some q=>show (if _ then _ else _)=_;rw[if_neg e];rfl
 have hq:=hB i X r.co l hid (h.Q i r hr);refine⟨λj c s hE hc=>?_,h.fg,λb q j p hq hp=>?_,h.ug,λb q hbq=>?_,?_⟩
 .have:=h.fl j c s hE hc;have e:(zbU N i).rdA (c.rdE s)=N.rdA (c.rdE s):=by
   unfold Nt.rdA Nt.ptA;rw[hget];split
   .rename_i e;rw[<-e,zb7 hr];rfl
   .rfl
  rw[e];exact this
 .rw[hrs] at hq;split at hq
  .rename_i e;subst e;cases hq;exact h.ou i r j p hr hp
  .exact h.ou b q j p hq hp
 .rw[hrs] at hbq;split at hbq
  .cases hbq;exact hq.1
  .exact h.Q b q hbq
 .have hs:=h.sum;unfold Meas.tot at hs ⊢;have hlen:(zbU N i).rs.length=N.rs.length:=List.length_modify ..;rw[hlen,show (zbU N i).cs=N.cs from rfl];have key:=zcX (f:=S.at J U N) (g:=S.at J U (zbU N i)) (i:=i) (x:=0) (y:=0) N.rs.length hi (λb hb hne=>by
   unfold Meas.at;rw[hget,hib,if_neg (λg=>hne g.symm),if_neg (λg=>hne g.symm)]) (by
   unfold Meas.at;rw[hget,hib,if_pos rfl,if_pos rfl,zb7 hr,show N.ib.getD i []=l from by rw[List.getD_eq_getElem?_getD,hl];rfl];have h2:S.W ⟨r.id,r.co.ps,r.b,[]⟩+J i (l++r.inb)<=S.W r.co+J i l:=hq.2;show S.v (U i)+S.W ⟨r.id,r.co.ps,r.b,[]⟩+J i (l++r.inb)+0<=S.v (U i)+S.W r.co+J i l+0;omega)
  omega
theorem wd_gathB(h:N.wd)(i:Nat):(zbU N i).wd:=by
 refine wd_sp (N':=zbU N i) h (zls _) (λj c s hc=>?_);have:(zbU N i).ptA (c.rdE s)=N.ptA (c.rdE s):=by
  unfold Nt.ptA;rw[show (zbU N i).rs=N.rs.modify i (λr=>{ r with inb:=[] }) from rfl,List.getD_eq_getElem?_getD,List.getD_eq_getElem?_getD,List.getElem?_modify];cases N.rs[(c.rdE s).1]? with
  |none=>rfl
  |some q=>show Rt.pt (if _ then _ else _) _=_;split<;>rfl
 rw[this];exact Sp.refl _
def Nt.num(T:List (List Int))(N:Nt):Prop:=N.mt=T/\ ∀(i:Nat) (r:Rt),N.rs[i]? =some r->r.id=(i:Int)+1/\ ∀j,(r.pt j).m=(T.getD i []).getD j 0
theorem zfZ{T:List (List Int)}{N:Nt}(h:N.num T)(a:Int){F:Rt->Rt}(hF: ∀r,(F r).id=r.id/\ ∀j,((F r).pt j).m=(r.pt j).m):(N.onR a F).num T:=⟨h.1,λi r hr=>by
 rw[ziE] at hr;cases hs:N.rs[i]? with
 |none=>rw[hs] at hr;cases hr
 |some s=>
  rw[hs] at hr;have hr2:(if (a-1).toNat=i then F s else s)=r:=Option.some.inj hr;subst hr2;split
  .rw[(hF s).1];exact⟨(h.2 i s hs).1,λj=>by rw[(hF s).2];exact (h.2 i s hs).2 j⟩
  .exact h.2 i s hs⟩
variable {T:List (List Int)}
theorem zjk(h:N.num T)(i:Nat)(s:Bool):(zgK N i s).num T:=by
 unfold zgK;cases hc:N.cs[i]? with
 |none=>exact h
 |some c=>exact zfZ h _ (λr=>⟨rfl,λj=>(zqQ r (c.wE s).2.toNat j).2.1⟩)
theorem zpd(h:N.num T):(zbQ N).num T:=by
 unfold zbQ;generalize List.range N.cs.length=L
 induction L generalizing N with
 |nil=>exact h
 |cons x L ih=>
  refine ih (N:=zfk N x) ?_;show (zds (zcH N x) x).num T;rw[zoP,znd];exact zjk (zjk h x false) x true
theorem zoQ(h:N.num T)(i:Nat):(zbU N i).num T:=⟨h.1,λb r hr=>by
 have hr':(N.rs.modify i λr=>{ r with inb:=[] })[b]? =some r:=hr;rw[List.getElem?_modify] at hr';cases hs:N.rs[b]? with
 |none=>rw[hs] at hr';cases hr'
 |some s=>
  rw[hs] at hr';have hr2:(if i=b then { s with inb:=[] } else s)=r:=Option.some.inj hr';subst hr2;split<;>exact h.2 b s hs⟩
theorem zft(hB:InB S J)(h:On S J M N){k n d e:Nat}(hN:N.ok k n d e)(hn:N.num T):On S J M (zbO N)/\(zbO N).num T:=by
 have h1:=on_gathL h hN;have h2:=zpd hn;have h3:=zmK hN;unfold zbO;rw[hN.rs];generalize zbQ N=Q at *
 have key: ∀m,m<=k->let P:=(List.range m).foldl zbU Q
   On S J M P/\P.num T/\P.rs.length=k/\P.ib.length=k:=by
  intro m
  induction m with
  |zero=>exact λ_=>⟨h1,h2,h3.rs,h3.ib⟩
  |succ m ih=>
   intro hm;obtain⟨a1,a2,a3,a4⟩:=ih (by omega);rw[List.range_succ,List.foldl_append];generalize (List.range m).foldl zbU Q=P at *
   obtain⟨⟨X,F,U,b1⟩,b2⟩:=a1;exact⟨⟨⟨X,F,U,ni_gathB hB b1 (by omega) (by omega) (λr hr=>(a2.2 m r hr).1)⟩,wd_gathB b2 m⟩,zoQ a2 m,(List.length_modify ..).trans a3,(List.length_modify ..).trans a4⟩
 have:=key k (Nat.le_refl _);exact⟨this.1,this.2.1⟩
end
end Go.Proofs.YtimfnpjcedjmiadGreat
