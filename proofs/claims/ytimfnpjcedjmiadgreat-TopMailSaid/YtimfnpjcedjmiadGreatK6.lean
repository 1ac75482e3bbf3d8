/- Lemmas. -/
import Derived.Test.YtimfnpjcedjmiadGreatK5
set_option maxRecDepth 100000
set_option maxHeartbeats 64000000
set_option linter.all false
namespace Go.Proofs.YtimfnpjcedjmiadGreat
open Go.RowKit
structure Pe where
 who:Int
 both:Bool
 left:Int
def peRow(p:Pe):List AV:=[.v (.int .i64 p.who),.v (.bool p.both),.v (.int .i64 p.left)]
def peNo:Pe:=⟨0,false,0⟩
def zdO(me a b:Int):Pe:=if a=me then peNo else ⟨a,b==me,4⟩
def zbD(p:Pe):Pe:=if p.left<=1 then peNo else ⟨p.who,p.both,p.left-1⟩
def Pe.ok(p:Pe):Prop:=0<=p.who/\p.who<=6/\0<=p.left/\p.left<=4
def zjt(a b:Int):Bool:=decide (1<=a)&&decide (a<=6)&&decide (0<=b)&&decide (b<=6)
def heE(a b:Int):Int:=if zjt a b then 0 else 1
theorem zht{a b:Int}:heE a b=0↔1<=a/\a<=6/\0<=b/\b<=6:=by
 unfold heE zjt;split
 .rename_i h;simp only[Bool.and_eq_true,decide_eq_true_eq] at h;exact⟨λ_=>by omega,λ_=>rfl⟩
 .rename_i h;simp only[Bool.and_eq_true,decide_eq_true_eq] at h;exact⟨λh'=>(by cases h'),λh'=>absurd (by omega) h⟩
theorem heE_bad{a b:Int}(h: ¬(1<=a/\a<=6/\0<=b/\b<=6)):heE a b=1:=by
 unfold heE;rw[if_neg];unfold zjt;simp only[Bool.and_eq_true,decide_eq_true_eq];omega
def heB(a b:Int):List UInt8:=[u8 a,u8 b]
def zdw(s:ByteArray):Bool:=decide (s.size=2)&&zjt (zaG s 0) (zaG s 1)
theorem zdi{s:ByteArray}:zdw s=true↔s.size=2/\1<=(zaG s 0:Int)/\(zaG s 0:Int)<=6/\(zaG s 1:Int)<=6:=by
 unfold zdw zjt;simp only[Bool.and_eq_true,decide_eq_true_eq,and_assoc];constructor
 .rintro⟨h1,h2,h3,h4,h5⟩;exact⟨h1,h2,h3,h5⟩
 .rintro⟨h1,h2,h3,h5⟩;exact⟨h1,h2,h3,by omega,h5⟩
def hpA(s:ByteArray):Int:=if zdw s then zaG s 0 else 0
def hpB(s:ByteArray):Int:=if zdw s then zaG s 1 else 0
def hpE(s:ByteArray):Int:=if zdw s then 0 else 4
theorem zkx(p:Pe)(me a b:Int):Fn Tryz.prog 84 [.agg (peRow p),.v (.int .i64 me),.agg [.v (.int .i64 a),.v (.int .i64 b)]] [] (.agg (peRow (zdO me a b))) []:=by
 obtain⟨wh,bo,lf⟩:=p;unfold peRow;refine foA zaA [] [] Tryz.func84 Tryz.ntmps84 Tryz.results84 ?_;(all_goals refine gv ?_;repeat' first|exact .intro|refine Tw.mk ?_ ?_|(intro h;first|replace h:=h.o|cases h))
 all_goals (try ((with_reducible refine Vc.mk ?_);(try exact GLt)))
 all_goals (((try (conv=>whnf));refine StopRet.by [] ?_;repeat' first|exact .intro|refine Tw.mk ?_ ?_);all_goals (simp [zdO,peNo,h];done))
theorem zhu(p:Pe)(hp:p.ok):Fn Tryz.prog 58 [.agg (peRow p)] [] (.agg (peRow (zbD p))) []:=by
 obtain⟨wh,bo,lf⟩:=p;unfold Pe.ok at hp;dsimp only at hp;unfold peRow;refine foA zaA [] [] Tryz.func58 Tryz.ntmps58 Tryz.results58 ?_;(all_goals refine gv ?_;repeat' first|exact .intro|refine Tw.mk ?_ ?_|(intro h;first|replace h:=h.o|cases h))
 all_goals (try ((with_reducible refine Vc.mk ?_);(try exact GLt)))
 all_goals (((try (conv=>whnf));refine StopRet.by [] ?_;repeat' first|exact .intro|refine Tw.mk ?_ ?_);all_goals (simp only[zbD];split<;>first|rfl|(exfalso;omega)))
theorem zlO(p:Pe)(me:Int):Fn Tryz.prog 60 [.agg (peRow p),.v (.int .i64 me)] [] (.agg [.v (.int .i64 me),.v (.int .i64 p.who)]) []:=by
 obtain⟨wh,bo,lf⟩:=p;unfold peRow;refine foA zaA [] [] Tryz.func60 Tryz.ntmps60 Tryz.results60 ?_;(all_goals refine gv ?_;repeat' first|exact .intro|refine Tw.mk ?_ ?_|(intro h;first|replace h:=h.o|cases h))
 all_goals (try ((with_reducible refine Vc.mk ?_);(try exact GLt)))
 all_goals exact Y13
theorem rtr_ok(n:Int):Fn Tryz.prog 76 [.v (.int .i64 n)] [] (.v (.bool (decide (1<=n)&&decide (n<=6)))) []:=by
 refine foA zaA [] [] Tryz.func76 Tryz.ntmps76 Tryz.results76 ?_;(all_goals refine gv ?_;repeat' first|exact .intro|refine Tw.mk ?_ ?_|(intro h;first|replace h:=h.o|cases h))
 all_goals (try ((with_reducible refine Vc.mk ?_);(try exact GLt)))
 all_goals (((try (conv=>whnf));refine StopRet.by [] ?_;repeat' first|exact .intro|refine Tw.mk ?_ ?_);all_goals (simp;omega))
theorem zet(a b:Int):Fn Tryz.prog 59 [.agg [.v (.int .i64 a),.v (.int .i64 b)]] [] (.tup [.v (.string (if heE a b=0 then tx (heB a b) else ByteArray.empty)),.err (heE a b)]) []:=by
 have r1:=rtr_ok a;have r2:=rtr_ok b;by_cases hg:1<=a/\a<=6/\0<=b/\b<=6
 .rw[zht.2 hg];rw[show (decide (1<=a)&&decide (a<=6))=true from by simp;omega] at r1;rw[show (decide (1<=b)&&decide (b<=6))=decide (1<=b) from by simp [hg.2.2.2]] at r2;refine foA zaA [] [] Tryz.func59 Tryz.ntmps59 Tryz.results59 ?_;(all_goals refine gv ?_;repeat' first|exact .intro|refine Tw.mk ?_ ?_|(intro h;first|replace h:=h.o|cases h))
  (all_goals (try ((first|refine StopCall.by0 (r1) ?_|refine StopPure.by0 (r1) ?_);(all_goals refine gv ?_;repeat' first|exact .intro|refine Tw.mk ?_ ?_|(intro h;first|replace h:=h.o|cases h)))))
  (all_goals (try ((first|refine StopCall.by0 (r2) ?_|refine StopPure.by0 (r2) ?_);(all_goals refine gv ?_;repeat' first|exact .intro|refine Tw.mk ?_ ?_|(intro h;first|replace h:=h.o|cases h)))))
  all_goals (try (simp only[decide_eq_true_eq,decide_eq_false_iff_not] at h))
  all_goals (try omega)
  all_goals (refine⟨heB a b,?_,?_⟩)
  all_goals (first|(show viewR _=_;simp [viewR,viewL,AV.view,heB,wrap_u8];done)|skip)
  all_goals (all_goals refine gv ?_;repeat' first|exact .intro|refine Tw.mk ?_ ?_|(intro h;first|replace h:=h.o|cases h))
  all_goals exact Y13
 .rw[heE_bad hg];refine foA zaA [] [] Tryz.func59 Tryz.ntmps59 Tryz.results59 ?_;(all_goals refine gv ?_;repeat' first|exact .intro|refine Tw.mk ?_ ?_|(intro h;first|replace h:=h.o|cases h))
  (all_goals (try ((first|refine StopCall.by0 (r1) ?_|refine StopPure.by0 (r1) ?_);(all_goals refine gv ?_;repeat' first|exact .intro|refine Tw.mk ?_ ?_|(intro h;first|replace h:=h.o|cases h)))))
  (all_goals (try ((first|refine StopCall.by0 (r2) ?_|refine StopPure.by0 (r2) ?_);(all_goals refine gv ?_;repeat' first|exact .intro|refine Tw.mk ?_ ?_|(intro h;first|replace h:=h.o|cases h)))))
  all_goals (try ((with_reducible refine Vc.mk ?_);(try exact GLt)))
  clear r1 r2;all_goals (try simp only[Bool.and_eq_true,Bool.and_eq_false_iff,decide_eq_true_eq,decide_eq_false_iff_not] at *)
  all_goals (try (exfalso;omega))
  all_goals exact Y13
theorem zc2(s:ByteArray)(hs:s.size<=1000):Fn Tryz.prog 83 [.v (.string s)] [] (.tup [.agg [.v (.int .i64 (hpA s)),.v (.int .i64 (hpB s))],.err (hpE s)]) []:=by
 have b0:=zaz s 0;have b1:=zaz s 1;have hb:=zet (zaG s 0) (zaG s 1);refine foA zaA [] [] Tryz.func83 Tryz.ntmps83 Tryz.results83 ?_;(all_goals refine gv ?_;repeat' first|exact .intro|refine Tw.mk ?_ ?_|(intro h;first|replace h:=h.o|cases h))
 all_goals (try ((with_reducible refine Vc.mk ?_);(try exact GLt)))
 .have hg: ¬zdw s=true:=λh'=>h (by have:=zdi.1 h';omega);((try (conv=>whnf));refine StopRet.by [] ?_;repeat' first|exact .intro|refine Tw.mk ?_ ?_);all_goals simp [hpA,hpB,hpE,hg]
 by_cases hg:heE (zaG s 0) (zaG s 1)=0
 .rw[hg] at hb;(refine⟨_,_,_,_,[],hb,rfl,rfl,rfl,?_,?_,?_⟩)
  .exact Y3
  .exact Y107
  (all_goals refine gv ?_;repeat' first|exact .intro|refine Tw.mk ?_ ?_|(intro h;first|replace h:=h.o|cases h))
  all_goals (try ((with_reducible refine Vc.mk ?_);(try exact GLt)))
  have hh:zdw s=true:=zdi.2 (by have:=zht.1 hg;omega);((try (conv=>whnf));refine StopRet.by [] ?_;repeat' first|exact .intro|refine Tw.mk ?_ ?_);all_goals simp [hpA,hpB,hpE,hh,wrap_byte]
 .have he:heE (zaG s 0) (zaG s 1)=1:=by unfold heE at hg ⊢;split<;>first|rfl|(rename_i h';rw[if_pos h'] at hg;exact absurd rfl hg)
  rw[he] at hb;(refine⟨_,_,_,_,[],hb,rfl,rfl,rfl,?_,?_,?_⟩)
  .exact Y3
  .exact Y107
  (all_goals refine gv ?_;repeat' first|exact .intro|refine Tw.mk ?_ ?_|(intro h;first|replace h:=h.o|cases h))
  all_goals (try ((with_reducible refine Vc.mk ?_);(try exact GLt)))
  have hh: ¬zdw s=true:=λh'=>hg (zht.2 (by have:=zdi.1 h';omega));((try (conv=>whnf));refine StopRet.by [] ?_;repeat' first|exact .intro|refine Tw.mk ?_ ?_);all_goals simp [hpA,hpB,hpE,hh]
end Go.Proofs.YtimfnpjcedjmiadGreat
namespace Go.Proofs.YtimfnpjcedjmiadGreat
open Go.RowKit
def asks(s m:Int):List (Int×Int):=(if 0<s then [(1,s)] else [])++(if 0<m then [(5,m)] else [])
def rej(l:List (Int×Int)):List (Int×Int):=l.filter λo=>o.1 != 1&&o.1 != 5
def nakOf(m:Int)(o:Int×Int):Option (Int×Int):=
 if o.1=1/\o.2<40 then some (1,40) else if o.1=5/\(o.2=0\/o.2=m) then some (5,m%255+1) else none
def nak(m:Int)(l:List (Int×Int)):List (Int×Int):=l.filterMap (nakOf m)
theorem rej_succ{l:List (Int×Int)}{k:Nat}(h:k<l.length):rej (l.take (k+1))=rej (l.take k)++(if l[k].1≠1/\l[k].1≠5 then [l[k]] else []):=by
 unfold rej;rw[List.take_add_one,List.getElem?_eq_getElem h,List.filter_append];simp [List.filter_cons]
theorem nak_succ{l:List (Int×Int)}{m:Int}{k:Nat}(h:k<l.length):nak m (l.take (k+1))=nak m (l.take k)++(nakOf m l[k]).toList:=by
 unfold nak;rw[List.take_add_one,List.getElem?_eq_getElem h,List.filterMap_append];cases e:nakOf m l[k]<;>simp [e]
def zeR(s m:Int):Bool:=decide (40<=s)&&decide (s<=255)&&decide (1<=m)&&decide (m<=255)
theorem zc7{s m:Int}:zeR s m=true↔(40<=s/\s<=255/\1<=m/\m<=255):=by simp [zeR,and_assoc]
theorem asks_ok(s m:Int):Fn Tryz.prog 95 [.agg [.v (.int .i64 s),.v (.int .i64 m)]] [] (.sl 2 ((asks s m).map opRow) none) []:=by
 refine foA zaA [] [] Tryz.func95 Tryz.ntmps95 Tryz.results95 ?_;(all_goals refine gv ?_;repeat' first|exact .intro|refine Tw.mk ?_ ?_|(intro h;first|replace h:=h.o|cases h))
 all_goals (try ((with_reducible refine Vc.mk ?_);(try exact GLt)))
 all_goals (((try (conv=>whnf));refine StopRet.by [] ?_;repeat' first|exact .intro|refine Tw.mk ?_ ?_))
 all_goals (first|(exact rfl)|(decide)|omega|(unfold In64;omega)|(simp [viewR,viewL,AV.view,asks,opRow, *];done)|skip)
theorem new_ok(s m:Int):Fn Tryz.prog 53 [.v (.int .i64 s),.v (.int .i64 m)] [] (.tup [.agg [.v (.int .i64 (if zeR s m then s else 0)),.v (.int .i64 (if zeR s m then m else 0))],.err (if zeR s m then 0 else 1)]) []:=by
 refine foA zaA [] [] Tryz.func53 Tryz.ntmps53 Tryz.results53 ?_;(all_goals refine gv ?_;repeat' first|exact .intro|refine Tw.mk ?_ ?_|(intro h;first|replace h:=h.o|cases h))
 all_goals (try ((with_reducible refine Vc.mk ?_);(try exact GLt)))
 all_goals (((try (conv=>whnf));refine StopRet.by [] ?_;repeat' first|exact .intro|refine Tw.mk ?_ ?_))
 all_goals first
  |(
    have hp:zeR s m=true:=zc7.2 ⟨by omega,by omega,by omega,by omega⟩;simp [hp];done)
  |(
    have hp: ¬zeR s m=true:=λh=>by have:=zc7.1 h;omega
    simp [hp];done)
  |trace_state
def told1(c:Int)(p o:Int×Int):Int×Int:=
 if c=4/\o.1=1 then (0,p.2) else if c=4/\o.1=5 then (p.1,0) else if c=3/\o.1=1/\0<p.1/\40<=o.2 then (o.2,p.2) else if c=3/\o.1=5/\0<p.2/\0<o.2 then (p.1,o.2) else p
def told(c:Int)(p:Int×Int)(l:List (Int×Int)):Int×Int:=l.foldl (told1 c) p
theorem zoI{c:Int}{p:Int×Int}{l:List (Int×Int)}{k:Nat}(h:k<l.length):told c p (l.take (k+1))=told1 c (told c p (l.take k)) l[k]:=by
 unfold told;rw[List.take_add_one,List.getElem?_eq_getElem h,List.foldl_append];rfl
end Go.Proofs.YtimfnpjcedjmiadGreat
namespace Go.Proofs.YtimfnpjcedjmiadGreat
open Go.RowKit
end Go.Proofs.YtimfnpjcedjmiadGreat
namespace Go.Proofs.YtimfnpjcedjmiadGreat
open Go.RowKit
theorem told_ok(s m c:Int)(l:List (Int×Int)):Fn Tryz.prog 102 [.agg [.v (.int .i64 s),.v (.int .i64 m)],.v (.int .i64 c),.sl 2 (l.map opRow) none] [] (.agg [.v (.int .i64 (told c (s,m) l).1),.v (.int .i64 (told c (s,m) l).2)]) []:=by
 refine zi0 ⟨_,Tryz.func102,rfl,by decide+kernel⟩ 2 rfl λha=>?_;simp only[List.length_map,maxLen] at ha;refine foA zaA [] [] Tryz.func102 Tryz.ntmps102 Tryz.results102 ?_;(all_goals refine gv ?_;repeat' first|exact .intro|refine Tw.mk ?_ ?_|(intro h;first|replace h:=h.o|cases h))
 refine lpG (λk:Nat=>⟨[(11,.v (.int .i64 k)),(10,.v (.int .i64 l.length)),(9,.sl 2 (l.map opRow) none),(6,.box 1 0),(3,.box 0 0),(1,.v (.int .i64 c)),(2,.sl 2 (l.map opRow) none)],[.cells [.v (.int .i64 (told c (s,m) (l.take k)).1),.v (.int .i64 (told c (s,m) (l.take k)).2)],.cells [.any,.any]]⟩) (λk=>k<=l.length) (λk=>l.length-k) 0 (by omega) (by (refine zaC [0,1] ?_;repeat' first|exact .intro|refine Tw.mk ?_ ?_);all_goals (all_goals (try simp))) ?_;intro k hk;(all_goals refine gv ?_;repeat' first|exact .intro|refine Tw.mk ?_ ?_|(intro h;first|replace h:=h.o|cases h))
 all_goals (try omega)
 all_goals (try ((with_reducible refine Vc.mk ?_);(try exact GLt)))
 all_goals (try (refine zaU (k+1) ?_ ?_ (by (refine zaC [0,1] ?_;repeat' first|exact .intro|refine Tw.mk ?_ ?_);all_goals (all_goals (try (rw[zoI (by omega)];unfold told1;(repeat' split)<;>first|rfl|omega))))))
 all_goals (try omega)
 have e:k=l.length:=by omega
 subst e;rw[List.take_length];((try (conv=>whnf));refine StopRet.by [] ?_;repeat' first|exact .intro|refine Tw.mk ?_ ?_)
end Go.Proofs.YtimfnpjcedjmiadGreat
namespace Go.Proofs.YtimfnpjcedjmiadGreat
open Go.RowKit
end Go.Proofs.YtimfnpjcedjmiadGreat
namespace Go.Proofs.YtimfnpjcedjmiadGreat
open Go.RowKit
theorem zjN(rows:List (List AV))(hl:rows.length<=1000000):Fn Tryz.prog 112 [.sl 2 rows none] [] (.sl 2 rows none) []:=by
 refine foA zaA [] [] Tryz.func112 Tryz.ntmps112 Tryz.results112 ?_;(all_goals refine gv ?_;repeat' first|exact .intro|refine Tw.mk ?_ ?_|(intro h;first|replace h:=h.o|cases h))
 all_goals exact Y83
theorem judge_ok(s m:Int)(l:List (Int×Int))(hl:l.length<=1000000)(hm:0<=m):Fn Tryz.prog 113 [.agg [.v (.int .i64 s),.v (.int .i64 m)],.sl 2 (l.map opRow) none] [] (.tup [.v (.int .i64 (if rej l≠[] then 4 else if nak m l≠[] then 3 else 2)),.sl 2 ((if rej l≠[] then rej l else if nak m l≠[] then nak m l else l).map opRow) none]) []:=by
 refine foA zaA [] [] Tryz.func113 Tryz.ntmps113 Tryz.results113 ?_;(all_goals refine gv ?_;repeat' first|exact .intro|refine Tw.mk ?_ ?_|(intro h;first|replace h:=h.o|cases h))
 refine lpG (λk:Nat=>⟨[(12,.v (.int .i64 k)),(11,.v (.int .i64 l.length)),(10,.sl 2 (l.map opRow) none),(7,.sl 2 ((nak m (l.take k)).map opRow) (some (2,1))),(6,.sl 2 ((rej (l.take k)).map opRow) (some (1,1))),(2,.box 0 0),(1,.sl 2 (l.map opRow) none)],[.cells [.v (.int .i64 s),.v (.int .i64 m)],.grow 184 2 1,.grow 184 2 1]⟩) (λk=>k<=l.length) (λk=>l.length-k) 0 (by omega) ?_ ?_
 .refine AS.le_trans (zeb 6 184 2 rfl) (AS.le_trans (zeb 7 184 2 rfl) ?_);(refine zg4 [0,1,2] rfl rfl ?_ ?_)
  all_goals ((all_goals refine gr ?_;repeat' first|exact .intro|refine Tw.mk ?_ ?_);all_goals (try simp))
 intro k hk;have ht:m.tmod 255=m%255:=Int.tmod_eq_emod_of_nonneg hm;have h1:(rej (l.take k)).length<=k:=by unfold rej;exact Nat.le_trans (List.length_filter_le ..) (List.length_take_le ..)
 have h2:(nak m (l.take k)).length<=k:=by unfold nak;exact Nat.le_trans (List.length_filterMap_le ..) (List.length_take_le ..)
 (all_goals refine gv ?_;repeat' first|exact .intro|refine Tw.mk ?_ ?_|(intro h;first|replace h:=h.o|cases h))
 all_goals (try (refine Vc.mk ?_;(first|(exact rfl)|(decide)|omega|(unfold In64;omega)|(simp only[wrap_byte,Int.reduceToNat,Int.toNat_natCast,In64];omega)|(simp only[maxLen,Fits,viewR,viewL,AV.view,List.length_map,List.length_append,List.length_cons,List.length_nil];omega)|(simp [viewR,viewL,AV.view,opRow];done)|skip)))
 all_goals (try (refine zaU (k+1) ?_ ?_ (by (refine zaC [0,1,2] ?_;repeat' first|exact .intro|refine Tw.mk ?_ ?_);all_goals (all_goals (try (first|(rw[nak_succ (by omega)];simp [nakOf,opRow,viewR,viewL,AV.view, *];done)|(rw[rej_succ (by omega)];simp [opRow,viewR,viewL,AV.view, *];done)))))))
 all_goals (try omega)
 all_goals (try (refine Vc.mk ?_;(first|(exact rfl)|(decide)|omega|(unfold In64;omega)|(simp only[wrap_byte,Int.reduceToNat,Int.toNat_natCast,In64];omega)|(simp only[maxLen,Fits,viewR,viewL,AV.view,List.length_map,List.length_append,List.length_cons,List.length_nil];omega)|(simp [viewR,viewL,AV.view,opRow];done)|skip)))
 all_goals (try ((refine⟨_,_,_,_,[],zjN (l.map opRow) (by simpa using hl),rfl,rfl,rfl,?_,?_,?_⟩);(· (all_goals refine gr ?_;repeat' first|exact .intro|refine Tw.mk ?_ ?_));(· (all_goals refine gr ?_;repeat' first|exact .intro|refine Tw.mk ?_ ?_));(all_goals refine gv ?_;repeat' first|exact .intro|refine Tw.mk ?_ ?_|(intro h;first|replace h:=h.o|cases h))))
 all_goals
  have e:k=l.length:=by omega
  subst e;rw[List.take_length] at *
  ((try (conv=>whnf));refine⟨[],rfl,rfl,?_,?_⟩)
  (all_goals refine gr ?_;repeat' first|exact .intro|refine Tw.mk ?_ ?_)
  all_goals (by_cases hr:rej l=[]<;>by_cases hn:nak m l=[]<;>simp_all)
end Go.Proofs.YtimfnpjcedjmiadGreat
namespace Go.Proofs.YtimfnpjcedjmiadGreat
open Go.RowKit
def crc1(x:Nat):Nat:=if x%2=1 then (x / 2)^^^33800 else x / 2
def crcN(x:Nat):Nat->Nat
 |0=>x
 |n+1=>crc1 (crcN x n)
def crcB(x:Nat)(c:UInt8):Nat:=crcN (x^^^c.toNat) 8
def crcL(l:List UInt8):Nat:=l.foldl crcB 65535
def sumL(l:List UInt8):Nat:=crcL l^^^65535
theorem zlp{m n:Nat}(hm:m<65536)(hn:n<65536):m^^^n<65536:=Nat.xor_lt_two_pow (n:=16) hm hn
theorem crc1_lt{x:Nat}(h:x<65536):crc1 x<65536:=by
 unfold crc1;split
 .exact zlp (by omega) (by decide)
 .omega
theorem zkN{x:Nat}(h:x<65536): ∀n,crcN x n<65536
 |0=>h
 |n+1=>crc1_lt (zkN h n)
theorem crcB_lt{x:Nat}(h:x<65536)(c:UInt8):crcB x c<65536:=zkN (zlp h (by have:=UInt8.toNat_lt c;omega)) 8
theorem zok: ∀(l:List UInt8) {x:Nat},x<65536->l.foldl crcB x<65536
 |[],x,h=>h
 |c::l,x,h=>zok l (crcB_lt h c)
theorem zpZ(l:List UInt8):crcL l<65536:=zok l (by decide)
theorem zov(l:List UInt8):sumL l<65536:=zlp (zpZ l) (by decide)
theorem zp7{l:List UInt8}{k:Nat}(h:k<l.length):crcL (l.take (k+1))=crcB (crcL (l.take k)) l[k]:=by
 unfold crcL;rw[zaT h,List.foldl_append];rfl
theorem crc1_odd{x:Nat}(h:x%2=1):crc1 x=(x / 2)^^^33800:=by unfold crc1;rw[if_pos h]
theorem zn9{x:Nat}(h:x%2≠1):crc1 x=x / 2:=by unfold crc1;rw[if_neg h]
theorem znz(s:ByteArray)(hs:s.size<=1000000):Fn Tryz.prog 97 [.v (.string s)] [] (.v (.int .i64 (sumL (bs s)))) []:=by
 have hl:=zcz s;refine foA zaA [] [] Tryz.func97 Tryz.ntmps97 Tryz.results97 ?_;(all_goals refine gv ?_;repeat' first|exact .intro|refine Tw.mk ?_ ?_|(intro h;first|replace h:=h.o|cases h))
 refine lpG (λk:Nat=>⟨[(0,.v (.string s)),(3,.v (.int .i64 (crcL ((bs s).take k)))),(7,.v (.int .i64 s.size)),(8,.v (.int .i64 k))],[]⟩) (λk=>k<=s.size) (λk=>s.size-k) 0 (by omega) (by (refine zaC [] ?_;repeat' first|exact .intro|refine Tw.mk ?_ ?_);all_goals (all_goals (try simp [crcL]))) ?_;rintro k hk;have hc:=zpZ ((bs s).take k);(all_goals refine gv ?_;repeat' first|exact .intro|refine Tw.mk ?_ ?_|(intro h;first|replace h:=h.o|cases h))
 all_goals (try omega)
 all_goals (try ((with_reducible refine Vc.mk ?_);(try exact GLt)))
 .have hk':k<(bs s).length:=by omega
  have hb:=UInt8.toNat_lt (bs s)[k];refine lpG (λj:Nat=>⟨[(0,.v (.string s)),(3,.v (.int .i64 (crcN (crcL ((bs s).take k)^^^((bs s)[k]).toNat) j))),(7,.v (.int .i64 s.size)),(8,.v (.int .i64 k)),(17,.v (.int .i64 j))],[]⟩) (λj=>j<=8) (λj=>8-j) 0 (by omega) (by
   (refine zaC [] ?_;repeat' first|exact .intro|refine Tw.mk ?_ ?_);all_goals (all_goals (try (rw[show ((k:Int)).toNat=k from Int.toNat_natCast k,wrap_byte,zio hk',xor64 (by omega) (by omega)];rfl)))) ?_
  rintro j hj;have hx:=zkN (zlp hc (by omega:(bs s)[k].toNat<65536)) j;generalize hgx:crcN (crcL ((bs s).take k)^^^((bs s)[k]).toNat) j=x at *
  (all_goals refine gv ?_;repeat' first|exact .intro|refine Tw.mk ?_ ?_|(intro h;first|replace h:=h.o|cases h))
  all_goals (try omega)
  all_goals (try ((with_reducible refine Vc.mk ?_);(try exact GLt)))
  .rw[zoq (by omega)] at h;refine zaU (j+1) (by omega) (by omega) (by (refine zaC [] ?_;repeat' first|exact .intro|refine Tw.mk ?_ ?_);all_goals (all_goals (try (rw[fdiv_2 rfl,show (33800:Int)=((33800:Nat):Int) from rfl,xor64 (by omega) (by decide)];show _=((crc1 (crcN _ j):Nat):Int);rw[hgx,crc1_odd (by omega)]))))
  .rw[zoq (by omega)] at h;refine zaU (j+1) (by omega) (by omega) (by (refine zaC [] ?_;repeat' first|exact .intro|refine Tw.mk ?_ ?_);all_goals (all_goals (try (rw[fdiv_2 rfl];show _=((crc1 (crcN _ j):Nat):Int);rw[hgx,zn9 (by omega)]))))
  .have e:j=8:=by omega
   subst e;refine zaU (k+1) (by omega) (by omega) (by (refine zaC [] ?_;repeat' first|exact .intro|refine Tw.mk ?_ ?_);all_goals (all_goals (try (rw[zp7 hk'];unfold crcB;rw[hgx]))))
 .have e:k=s.size:=by omega
  subst e;rw[<-hl,List.take_length] at hc;((try (conv=>whnf));refine StopRet.by [] ?_;repeat' first|exact .intro|refine Tw.mk ?_ ?_)
  all_goals (rw[<-hl,List.take_length,show (65535:Int)=((65535:Nat):Int) from rfl,xor64 (by omega) (by decide)];rfl)
def escB(c:UInt8):List UInt8:=if c=126\/c=125\/c.toNat<32 then [125,c^^^32] else [c]
def zbI(l:List UInt8):List UInt8:=l++[u8 (sumL l),u8 ((sumL l / 256:Nat):Int)]
def frmO(l:List UInt8):List UInt8:=[126]++l.flatMap escB
def frm(l:List UInt8):List UInt8:=frmO (zbI l)++[126]
theorem escB_len(c:UInt8):(escB c).length<=2:=by unfold escB;split<;>simp
theorem ziv{l:List UInt8}{k:Nat}(h:k<l.length):frmO (l.take (k+1))=frmO (l.take k)++escB l[k]:=by
 unfold frmO;rw[zaT h,List.flatMap_append,List.append_assoc];simp
theorem zlb(l:List UInt8):(frmO l).length<=1+2*l.length:=by
 induction l with
 |nil=>simp [frmO]
 |cons c l ih=>
  have:=escB_len c;simp only[frmO,List.flatMap_cons,List.length_append,List.length_cons,List.length_nil] at ih ⊢;omega
theorem zkQ{c:UInt8}:((c.toNat:Int)=126↔c=126)/\((c.toNat:Int)=125↔c=125):=by
 constructor<;>(rw[<-UInt8.toNat_inj];simp;omega)
theorem make_ok(s:ByteArray)(hs:s.size<=1000000):Fn Tryz.prog 77 [.v (.string s)] [] (.tup [.v (.string (if 60<s.size then ByteArray.empty else tx (frm (bs s)))),.err (if 60<s.size then 2 else 0)]) []:=by
 have hl:=zcz s;have hsl:=zov (bs s);refine foA zaA [] [] Tryz.func77 Tryz.ntmps77 Tryz.results77 ?_;(all_goals refine gv ?_;repeat' first|exact .intro|refine Tw.mk ?_ ?_|(intro h;first|replace h:=h.o|cases h))
 (all_goals (try ((first|refine StopCall.by0 (znz s hs) ?_|refine StopPure.by0 (znz s hs) ?_);(all_goals refine gv ?_;repeat' first|exact .intro|refine Tw.mk ?_ ?_|(intro h;first|replace h:=h.o|cases h)))))
 all_goals (try ((with_reducible refine Vc.mk ?_);(try exact GLt)))
 .have:60<s.size:=by omega
  ((try (conv=>whnf));refine StopRet.by [] ?_;repeat' first|exact .intro|refine Tw.mk ?_ ?_)
  all_goals first|(simp [this];done)|(simp [this];rfl)
 .have h60: ¬60<s.size:=by omega
  simp only[h60,if_false];conv=>whnf
  refine⟨[u8 (sumL (bs s)),u8 ((sumL (bs s) / 256:Nat):Int)],?_,?_⟩
  .simp [bRow,viewR,viewL,AV.view,wrap_u8];rw[Int.fdiv_eq_ediv_of_nonneg _ (by decide)];rfl
  (all_goals refine gv ?_;repeat' first|exact .intro|refine Tw.mk ?_ ?_|(intro h;first|replace h:=h.o|cases h))
  .refine Vc.mk ?_;show s.size+2<=_;omega
  .refine Vc.mk ?_;rw[ByteArray.size_append];show s.size+2<=_;unfold maxLen;omega
  have hbt: ∀t:ByteArray,t=s++tx [u8 (sumL (bs s)),u8 ((sumL (bs s) / 256:Nat):Int)]->bs t=zbI (bs s)/\t.size=(zbI (bs s)).length:=by
   rintro t rfl;rw[zgk,<-zcz,zgk];exact⟨rfl,rfl⟩
  have htl:(zbI (bs s)).length=s.size+2:=by simp [zbI,hl]
  refine lpG (λk:Nat=>⟨[(5,.sl 1 ((frmO ((zbI (bs s)).take k)).map bRow) (some (0,1))),(24,.sl 1 ((zbI (bs s)).map bRow) none),(25,.v (.int .i64 (s.size+2:Nat))),(26,.v (.int .i64 k))],[.grow 5 1 1]⟩) (λk=>k<=s.size+2) (λk=>s.size+2-k) 0 (by omega) (by
   (refine zaC [0] ?_;repeat' first|exact .intro|refine Tw.mk ?_ ?_);all_goals (all_goals (try first|(simp [frmO,bRow,viewR,viewL,AV.view];done)|(rw[<-htl,<-(hbt _ rfl).1];rfl)|(rw[byteRows_eq,List.length_map,<-htl,<-(hbt _ rfl).1];done)))) ?_
  rintro k hk;have hb:=zlb ((zbI (bs s)).take k);rw[List.length_take] at hb;(all_goals refine gv ?_;repeat' first|exact .intro|refine Tw.mk ?_ ?_|(intro h;first|replace h:=h.o|cases h))
  all_goals (try omega)
  all_goals (try ((with_reducible refine Vc.mk ?_);(try exact GLt)))
  all_goals (try
   (
    have hk':k<(zbI (bs s)).length:=by omega
    have hc:=UInt8.toNat_lt (zbI (bs s))[k];have u1:=zkQ (c:=(zbI (bs s))[k]);first
     |(
      have he:escB (zbI (bs s))[k]=[125,(zbI (bs s))[k]^^^32]:=if_pos (by first|exact .inl (u1.1.1 (by omega))|exact .inr (.inl (u1.2.1 (by omega)))|exact .inr (.inr (by omega)));refine zaU (k+1) (by omega) (by omega) (by (refine zaC [0] ?_;repeat' first|exact .intro|refine Tw.mk ?_ ?_);all_goals (try (rw[ziv hk',he,List.map_append];simp [bRow,viewR,viewL,AV.view];first|done|exact xorU _ 32))))
     |(
      have he:escB (zbI (bs s))[k]=[(zbI (bs s))[k]]:=if_neg (by rintro (e|e|e);exact absurd (u1.1.2 e) (by omega);exact absurd (u1.2.2 e) (by omega);omega);refine zaU (k+1) (by omega) (by omega) (by (refine zaC [0] ?_;repeat' first|exact .intro|refine Tw.mk ?_ ?_);all_goals (try (rw[ziv hk',he,List.map_append];simp [bRow,viewR,viewL,AV.view];done))))))
  have e:k=(zbI (bs s)).length:=by omega
  subst e;rw[List.take_length] at hb ⊢;conv=>whnf
  refine⟨frm (bs s),?_,?_⟩
  .simp [frm,bRow,viewR,viewL,AV.view]
  (all_goals refine gv ?_;repeat' first|exact .intro|refine Tw.mk ?_ ?_|(intro h;first|replace h:=h.o|cases h))
  ((try (conv=>whnf));refine StopRet.by [] ?_;repeat' first|exact .intro|refine Tw.mk ?_ ?_)
end Go.Proofs.YtimfnpjcedjmiadGreat
namespace Go.Proofs.YtimfnpjcedjmiadGreat
def nod(n:Int):Prop:=1<=n/\n<=6
structure MOk (M:Int->Int->Int):Prop where
 pos: ∀a b,0<=M a b
 most: ∀a b,M a b<=20
section
variable {M:Int->Int->Int}
inductive Wk (M:Int->Int->Int) (r:Int):Int->Int->Int->Prop
 |one {n:Int} (h:nod n) (hm:0<M r n):Wk M r n (M r n) n
 |step {u n d f:Int} (h:Wk M r u d f) (hn:nod n) (hm:0<M u n):Wk M r n (d+M u n) f
def lx(d f d' f':Int):Prop:=d<d'\/(d=d'/\f<=f')
theorem zgM(d f:Int):lx d f d f:=.inr ⟨rfl,Int.le_refl _⟩
theorem zeX{a b c d e f:Int}(h:lx a b c d)(k:lx c d e f):lx a b e f:=by unfold lx at *; omega
theorem Wk.pos{r n d f:Int}(h:Wk M r n d f):0<d:=by
 induction h with
 |one h hm=>exact hm
 |step h hn hm ih=>omega
theorem Wk.nod{r n d f:Int}(h:Wk M r n d f):Go.Proofs.YtimfnpjcedjmiadGreat.nod n/\Go.Proofs.YtimfnpjcedjmiadGreat.nod f:=by
 induction h with
 |one h hm=>exact⟨h,h⟩
 |step h hn hm ih=>exact⟨hn,ih.2⟩
def Best(M:Int->Int->Int)(r n d f:Int):Prop:=n≠r/\Wk M r n d f/\ ∀d' f',Wk M r n d' f'->lx d f d' f'
theorem Best.uniq{r n d f d' f':Int}(h:Best M r n d f)(k:Best M r n d' f'):d=d'/\f=f':=by
 have h1:=h.2.2 _ _ k.2.1;have h2:=k.2.2 _ _ h.2.1;unfold lx at *; omega
structure DInv (M:Int->Int->Int) (r:Int) (far next:Int->Int) (done:Int->Bool):Prop where
 rn:nod r
 root:far r=0
 first:done r=false-> ∀n,nod n->done n=false/\(n≠r->far n<0)
 wk: ∀n,nod n->n≠r->0<=far n->Wk M r n (far n) (next n)
 rel: ∀u,nod u->done u=true-> ∀v,nod v->v≠r->0<M u v->0<=far v/\lx (far v) (next v) (far u+M u v) (if u=r then v else next u)
 mono: ∀u,nod u->done u=true->0<=far u/\ ∀v,nod v->done v=false->0<=far v->far u<=far v
theorem DInv.low{r:Int}{far next:Int->Int}{done:Int->Bool}(h:DInv M r far next done)(hend: ∀n,nod n->done n=false->far n<0){n d f:Int}(hw:Wk M r n d f):n≠r->0<=far n/\lx (far n) (next n) d f:=by
 have hr:done r=true:=by
  cases hd:done r with
  |true=>rfl
  |false=>have:=hend r h.rn hd;have:=h.root;omega
 induction hw with
 |one hn hm=>
  intro hne;obtain⟨h1,h2⟩:=h.rel r h.rn hr _ hn hne hm;refine⟨h1,?_⟩;rw[if_pos rfl,h.root,Int.zero_add] at h2;exact h2
 | @step u n d f hu hn hm ih=>
  intro hne;by_cases hur:u=r
  .subst hur;obtain⟨h1,h2⟩:=h.rel u h.rn hr n hn hne hm;refine⟨h1,zeX h2 ?_⟩;have:=hu.pos;rw[h.root];unfold lx;omega
  .obtain⟨g1,g2⟩:=ih hur;have hdu:done u=true:=by
    cases hd:done u with
    |true=>rfl
    |false=>have:=hend u hu.nod.1 hd;omega
   obtain⟨h1,h2⟩:=h.rel u hu.nod.1 hdu n hn hne hm;refine⟨h1,zeX h2 ?_⟩;rw[if_neg hur];unfold lx at *; omega
theorem DInv.best{r:Int}{far next:Int->Int}{done:Int->Bool}(h:DInv M r far next done)(hend: ∀n,nod n->done n=false->far n<0){n:Int}(hn:nod n)(hne:n≠r):(0<=far n->Best M r n (far n) (next n))/\(¬0<=far n-> ∀d f,¬Wk M r n d f):=
 ⟨λh0=>⟨hne,h.wk n hn hne h0,λd f hw=>(h.low hend hw hne).2⟩,λh0 d f hw=>h0 (h.low hend hw hne).1⟩
def Pick(far:Int->Int)(done:Int->Bool)(m a:Int):Prop:=
 (a=0/\ ∀n,1<=n->n<m->done n=false->far n<0)\/(1<=a/\a<m/\done a=false/\0<=far a/\ ∀n,1<=n->n<m->done n=false->0<=far n->far a<=far n)
def upd{α:Type}(f:Int->α)(i:Int)(x:α):Int->α:=λk=>if k=i then x else f k
theorem zav{α:Type}(f:Int->α)(i:Int)(x:α):upd f i x i=x:=by simp [upd]
theorem zbM{α:Type}(f:Int->α){i k:Int}(x:α)(h:k≠i):upd f i x k=f k:=by simp [upd,h]
structure RInv (M:Int->Int->Int) (r a m:Int) (far next:Int->Int) (done:Int->Bool):Prop where
 rn:nod r
 an:nod a
 root:far r=0
 rdone:done r=true
 adone:done a=true
 apos:0<=far a
 wk: ∀n,nod n->n≠r->0<=far n->Wk M r n (far n) (next n)
 rel: ∀u,nod u->done u=true-> ∀v,nod v->v≠r->0<M u v->(u≠a\/v<m)->0<=far v/\lx (far v) (next v) (far u+M u v) (if u=r then v else next u)
 mono: ∀u,nod u->done u=true->0<=far u/\far u<=far a/\ ∀v,nod v->done v=false->0<=far v->far u<=far v
theorem RInv.start{r a:Int}{far next:Int->Int}{done:Int->Bool}(h:DInv M r far next done)(hp:Pick far done 7 a)(ha:a≠0):RInv M r a 1 far next (upd done a true):=by
 rcases hp with⟨h0,_⟩|⟨h1,h2,h3,h4,h5⟩
 .exact absurd h0 ha
 .have an:nod a:=⟨h1,by omega⟩;have hr:r=a\/done r=true:=by
   cases hd:done r with
   |true=>exact .inr rfl
   |false=>
    left
    have:=(h.first hd a an).2;by_cases e:a=r
    .exact e.symm
    .have:=this e;omega
  refine⟨h.rn,an,h.root,?_,zav _ _ _,h4,h.wk,?_,?_⟩
  .rcases hr with e|e
   .rw[e];exact zav _ _ _
   .unfold upd;split<;>simp [e]
  .intro u hu hd v hv hvr hm hor;by_cases e:u=a
   .unfold nod at hv;omega
   .rw[zbM _ _ e] at hd;exact h.rel u hu hd v hv hvr hm
  .intro u hu hd;by_cases e:u=a
   .subst e;refine⟨h4,Int.le_refl _,λv hv hdv h0=>?_⟩;have hva:v≠u:=by rintro rfl;rw[zav] at hdv;cases hdv
    rw[zbM _ _ hva] at hdv;unfold nod at hv;exact h5 v (by omega) (by omega) hdv h0
   .rw[zbM _ _ e] at hd;obtain⟨g1,g2⟩:=h.mono u hu hd;refine⟨g1,g2 a an h3 h4,λv hv hdv h0=>?_⟩;have hva:v≠a:=by rintro rfl;rw[zav] at hdv;cases hdv
    rw[zbM _ _ hva] at hdv;exact g2 v hv hdv h0
theorem RInv.done{r a:Int}{far next:Int->Int}{done:Int->Bool}(h:RInv M r a 7 far next done):DInv M r far next done:=
 ⟨h.rn,h.root,λhd=>(by rw[h.rdone] at hd;cases hd),h.wk,λu hu hd v hv hvr hm=>h.rel u hu hd v hv hvr hm (.inr (by unfold nod at hv;omega)),λu hu hd=>⟨(h.mono u hu hd).1,(h.mono u hu hd).2.2⟩⟩
theorem RInv.skip{r a m:Int}{far next:Int->Int}{done:Int->Bool}(h:RInv M r a m far next done)(hM:MOk M)(hs:M a m=0\/done m=true)(hmn:nod m):RInv M r a (m+1) far next done:=by
 refine⟨h.rn,h.an,h.root,h.rdone,h.adone,h.apos,h.wk,λu hu hd v hv hvr hm hor=>?_,h.mono⟩;by_cases e:u=a/\v=m
 .obtain⟨rfl,rfl⟩:=e;rcases hs with hs|hs
  .omega
  .obtain⟨g1,g2,g3⟩:=h.mono v hv hs;refine⟨g1,?_⟩;unfold lx;omega
 .exact h.rel u hu hd v hv hvr hm (by omega)
def byOf(r a m:Int)(next:Int->Int):Int:=if a=r then m else next a
theorem RInv.cand{r a m:Int}{far next:Int->Int}{done:Int->Bool}(h:RInv M r a m far next done)(hmn:nod m)(hm:0<M a m):Wk M r m (far a+M a m) (byOf r a m next):=by
 unfold byOf;by_cases e:a=r
 .rw[if_pos e,e,h.root,Int.zero_add];rw[e] at hm;exact .one hmn hm
 .rw[if_neg e];exact .step (h.wk a h.an e h.apos) hmn hm
theorem RInv.keep{r a m:Int}{far next:Int->Int}{done:Int->Bool}(h:RInv M r a m far next done)(hmn:nod m)(h0:0<=far m)(hl:lx (far m) (next m) (far a+M a m) (byOf r a m next)):RInv M r a (m+1) far next done:=by
 refine⟨h.rn,h.an,h.root,h.rdone,h.adone,h.apos,h.wk,λu hu hd v hv hvr hm hor=>?_,h.mono⟩;by_cases e:u=a/\v=m
 .obtain⟨rfl,rfl⟩:=e;exact⟨h0,hl⟩
 .exact h.rel u hu hd v hv hvr hm (by omega)
theorem RInv.take{r a m:Int}{far next:Int->Int}{done:Int->Bool}(h:RInv M r a m far next done)(hmn:nod m)(hm:0<M a m)(hd:done m=false)(hl:far m<0\/lx (far a+M a m) (byOf r a m next) (far m) (next m)):RInv M r a (m+1) (upd far m (far a+M a m)) (upd next m (byOf r a m next)) done:=by
 have ham:a≠m:=by rintro rfl;rw[h.adone] at hd;cases hd
 have hrm:r≠m:=by rintro rfl;rw[h.rdone] at hd;cases hd
 refine⟨h.rn,h.an,by rw[zbM _ _ hrm];exact h.root,h.rdone,h.adone,by rw[zbM _ _ ham];exact h.apos,?_,?_,?_⟩
 .intro n hn hne h0;by_cases e:n=m
  .subst e;rw[zav,zav];exact h.cand hmn hm
  .rw[zbM _ _ e] at h0 ⊢;rw[zbM _ _ e];exact h.wk n hn hne h0
 .intro u hu hdu v hv hvr hmv hor;have hum:u≠m:=by rintro rfl;rw[hd] at hdu;cases hdu
  rw[zbM _ _ hum,zbM _ _ hum];by_cases e:v=m
  .subst e;rw[zav,zav];by_cases e2:u=a
   .subst e2;refine⟨by have:=h.apos;omega,?_⟩;unfold byOf;exact zgM _ _
   .obtain⟨g1,g2⟩:=h.rel u hu hdu v hv hvr hmv (.inl e2);refine⟨by have:=h.apos;omega,?_⟩;rcases hl with hl|hl
    .omega
    .exact zeX hl g2
  .rw[zbM _ _ e,zbM _ _ e];exact h.rel u hu hdu v hv hvr hmv (by omega)
 .intro u hu hdu;obtain⟨g1,g2,g3⟩:=h.mono u hu hdu;have hum:u≠m:=by rintro rfl;rw[hd] at hdu;cases hdu
  rw[zbM _ _ hum,zbM _ _ ham];refine⟨g1,g2,λv hv hdv h0=>?_⟩;by_cases e:v=m
  .subst e;rw[zav];omega
  .rw[zbM _ _ e] at h0 ⊢;exact g3 v hv hdv h0
end
open Classical in
noncomputable def hopV(M:Int->Int->Int)(r n:Int):Option (Int×Int):=if h: ∃p:Int×Int,Best M r n p.1 p.2 then some (Classical.choose h) else none
theorem zjI{M:Int->Int->Int}{r n d f:Int}(h:Best M r n d f):hopV M r n=some (d,f):=by
 have hx: ∃p:Int×Int,Best M r n p.1 p.2:=⟨(d,f),h⟩;unfold hopV;rw[dif_pos hx];obtain⟨e1,e2⟩:=(Classical.choose_spec hx).uniq h;rw[show Classical.choose hx=(d,f) from Prod.ext e1 e2]
theorem zju{M:Int->Int->Int}{r n:Int}(h: ∀d f,¬Wk M r n d f):hopV M r n=none:=by
 unfold hopV;rw[dif_neg];rintro⟨p,hp⟩;exact h _ _ hp.2.1
theorem zjm{M:Int->Int->Int}{r:Int}:hopV M r r=none:=by
 unfold hopV;rw[dif_neg];rintro⟨p,hp⟩;exact hp.1 rfl
noncomputable def zky(M:Int->Int->Int)(r n:Int):List (Int×Int×Int):=match hopV M r n with
 |some p=>[(n,p.1,p.2)]
 |none=>[]
noncomputable def hopsTo(M:Int->Int->Int)(r:Int):Nat->List (Int×Int×Int)
 |0=>[]
 |k+1=>hopsTo M r k++zky M r ((k:Int)+1)
noncomputable def hopsM(M:Int->Int->Int)(r:Int):List (Int×Int×Int):=hopsTo M r 6
theorem zf2(M:Int->Int->Int)(r:Int): ∀k,(hopsTo M r k).length<=k
 |0=>by simp [hopsTo]
 |k+1=>by
  have:=zf2 M r k;have h2:(zky M r ((k:Int)+1)).length<=1:=by unfold zky;split<;>simp
  simp only[hopsTo,List.length_append];omega
abbrev Hp:=Int×Int×Int
section
variable {M:Int->Int->Int}
def betB(h:Hp)(d f:Int):Bool:=decide (h.1=0)||decide (d<h.2.1)||(decide (d=h.2.1)&&decide (f<h.2.2))
def putB(best:Int->Hp)(n d f:Int):Int->Hp:=if betB (best n) d f then upd best n (n,d,f) else best
def byB(by_ n:Int):Int:=if by_=0 then n else by_
inductive EE (M:Int->Int->Int):Int->Int->Int->(Int->Bool)->Int->Int->Int->Prop
 |here {at_ far by_:Int} {been:Int->Bool} {n:Int} (hn:nod n) (hm:M at_ n≠0) (hb:upd been at_ true n=false):EE M at_ far by_ been n (far+M at_ n) (byB by_ n)
 |deep {at_ far by_:Int} {been:Int->Bool} {u n d f:Int} (hu:nod u) (hm:M at_ u≠0) (hb:upd been at_ true u=false) (h:EE M u (far+M at_ u) (byB by_ u) (upd been at_ true) n d f):EE M at_ far by_ been n d f
structure Bet (P:Int->Int->Int->Prop) (b b':Int->Hp):Prop where
 from_: ∀n,b' n=b n\/ ∃d f,P n d f/\b' n=(n,d,f)
 keep: ∀n,(b n).1≠0->(b' n).1≠0/\lx (b' n).2.1 (b' n).2.2 (b n).2.1 (b n).2.2
 all: ∀n d f,P n d f->(b' n).1≠0/\lx (b' n).2.1 (b' n).2.2 d f
theorem Bet.refl{P:Int->Int->Int->Prop}(hP: ∀n d f,¬P n d f)(b:Int->Hp):Bet P b b:=
 ⟨λn=>.inl rfl,λn h=>⟨h,zgM _ _⟩,λn d f h=>absurd h (hP n d f)⟩
theorem Bet.trans{P Q R:Int->Int->Int->Prop}{a b c:Int->Hp}(h:Bet P a b)(k:Bet Q b c)(hR: ∀n d f,R n d f↔P n d f\/Q n d f):Bet R a c:=by
 refine⟨λn=>?_,λn hn=>?_,λn d f hr=>?_⟩
 .rcases k.from_ n with e|⟨d,f,h1,h2⟩
  .rcases h.from_ n with e2|⟨d,f,h1,h2⟩
   .exact .inl (e.trans e2)
   .exact .inr ⟨d,f,(hR _ _ _).2 (.inl h1),e.trans h2⟩
  .exact .inr ⟨d,f,(hR _ _ _).2 (.inr h1),h2⟩
 .obtain⟨h1,h2⟩:=h.keep n hn;obtain⟨k1,k2⟩:=k.keep n h1;exact⟨k1,zeX k2 h2⟩
 .rcases (hR _ _ _).1 hr with hp|hq
  .obtain⟨h1,h2⟩:=h.all n d f hp;obtain⟨k1,k2⟩:=k.keep n h1;exact⟨k1,zeX k2 h2⟩
  .exact k.all n d f hq
theorem Bet.put{n d f:Int}(hn:nod n)(b:Int->Hp):Bet (λx y z=>x=n/\y=d/\z=f) b (putB b n d f):=by
 unfold putB;by_cases hb:betB (b n) d f=true
 .rw[if_pos hb];simp only[betB,Bool.or_eq_true,Bool.and_eq_true,decide_eq_true_eq] at hb;unfold nod at hn;refine⟨λx=>?_,λx hx=>?_,?_⟩
  .by_cases e:x=n
   .subst e;exact .inr ⟨d,f,⟨rfl,rfl,rfl⟩,zav _ _ _⟩
   .exact .inl (zbM _ _ e)
  .by_cases e:x=n
   .subst e;rw[zav];refine⟨by show x≠0;omega,?_⟩;unfold lx;simp only;omega
   .rw[zbM _ _ e];exact⟨hx,zgM _ _⟩
  .rintro x y z ⟨rfl,rfl,rfl⟩;rw[zav];exact⟨by show x≠0;omega,zgM _ _⟩
 .rw[if_neg hb];simp only[betB,Bool.or_eq_true,Bool.and_eq_true,decide_eq_true_eq,not_or,not_and] at hb;refine⟨λx=>.inl rfl,λx hx=>⟨hx,zgM _ _⟩,?_⟩;rintro x y z ⟨rfl,rfl,rfl⟩;refine⟨hb.1.1,?_⟩;unfold lx;have h1:=hb.1.2;have h2:=hb.2;omega
def zcr(been:Int->Bool):Nat:=[1,2,3,4,5,6].countP λn=> !been n
theorem zom{been:Int->Bool}{a:Int}(ha:nod a)(hb:been a=false):zcr (upd been a true)+1=zcr been:=by
 unfold zcr upd;unfold nod at ha;rcases (by omega:a=1\/a=2\/a=3\/a=4\/a=5\/a=6) with rfl|rfl|rfl|rfl|rfl|rfl<;>simp [List.countP_cons,hb]<;>omega
theorem EE.wk{r:Int}(hM:MOk M){at_ far by_:Int}{been:Int->Bool}{n d f:Int}(h:EE M at_ far by_ been n d f):(at_=r/\far=0/\by_=0)\/(by_≠0/\Wk M r at_ far by_)->Wk M r n d f:=by
 induction h with
 | @here at_ far by_ been n hn hm hb=>
  have hp:=hM.pos at_ n;rintro (⟨rfl,rfl,rfl⟩|⟨h1,h2⟩)
  .rw[Int.zero_add];exact .one hn (by omega)
  .unfold byB;rw[if_neg h1];exact .step h2 hn (by omega)
 | @deep at_ far by_ been u n d f hu hm hb h ih=>
  have hp:=hM.pos at_ u;rintro (⟨rfl,rfl,rfl⟩|⟨h1,h2⟩)
  .refine ih (.inr ⟨?_,?_⟩)
   .unfold byB;rw[if_pos rfl];unfold nod at hu;omega
   .unfold byB;rw[if_pos rfl,Int.zero_add];exact .one hu (by omega)
  .refine ih (.inr ⟨?_,?_⟩)
   .unfold byB;rw[if_neg h1];exact h1
   .unfold byB;rw[if_neg h1];exact .step h2 hu (by omega)
inductive Ch (M:Int->Int->Int) (r:Int):Int->Int->Int->List Int->Prop
 |one {n:Int} (h:Best M r n (M r n) n) (hm:0<M r n):Ch M r n (M r n) n [r]
 |step {u n d f:Int} {vs:List Int} (h:Ch M r u d f vs) (hb:Best M r n (d+M u n) f) (hm:0<M u n):Ch M r n (d+M u n) f (u::vs)
theorem Ch.best{r n d f:Int}{vs:List Int}(h:Ch M r n d f vs):Best M r n d f:=by
 cases h with
 |one h hm=>exact h
 |step h hb hm=>exact hb
theorem Ch.mem{r n d f:Int}{vs:List Int}(h:Ch M r n d f vs): ∀x∈vs,x=r\/ ∃d' f',d'<d/\Best M r x d' f':=by
 induction h with
 |one h hm=>intro x hx;simp at hx;exact .inl hx
 | @step u n d f vs h hb hm ih=>
  intro x hx;rcases List.mem_cons.1 hx with rfl|hx
  .exact .inr ⟨_,_,by omega,h.best⟩
  .rcases ih x hx with e|⟨d',f',h1,h2⟩
   .exact .inl e
   .exact .inr ⟨d',f',by omega,h2⟩
theorem Ch.new{r n d f:Int}{vs:List Int}(h:Ch M r n d f vs):n∉vs:=by
 intro hn;rcases h.mem n hn with e|⟨d',f',h1,h2⟩
 .exact h.best.1 e
 .have:=(h.best.uniq h2).1;omega
def zfo(vs:List Int):Int->Bool:=λx=>vs.contains x
theorem zcE(u:Int)(vs:List Int):upd (zfo vs) u true=zfo (u::vs):=by
 funext x
 unfold upd zfo;by_cases e:x=u
 .subst e;simp
 .rw[if_neg e];simp [e]
theorem Ch.reach{r n d f:Int}{vs:List Int}(h:Ch M r n d f vs): ∀{n' d' f':Int},EE M n d f (zfo vs) n' d' f'->EE M r 0 0 (zfo []) n' d' f':=by
 induction h with
 | @one n h hm=>
  intro n' d' f' he;have hn:=h.2.1.nod.1;refine .deep hn (by omega) ?_ ?_
  .rw[zcE];simp [zfo];exact h.1
  .rw[zcE];unfold byB;rw[if_pos rfl,Int.zero_add];exact he
 | @step u n d f vs h hb hm ih=>
  intro n' d' f' he;have hn:=hb.2.1.nod.1;refine ih (.deep hn (by omega) ?_ ?_)
  .rw[zcE];have:=(Ch.step h hb hm).new;simpa[zfo] using this
  .rw[zcE];have hf:f≠0:=by have:=h.best.2.1.nod.2;unfold nod at this;omega
   unfold byB;rw[if_neg hf];exact he
theorem Ch.here{r n d f:Int}{vs:List Int}(h:Ch M r n d f vs):EE M r 0 0 (zfo []) n d f:=by
 cases h with
 |one h hm=>
  have hn:=h.2.1.nod.1;have e:EE M r 0 0 (zfo []) n (0+M r n) (byB 0 n):=.here hn (by omega) (by rw[zcE];simp [zfo];exact h.1);rw[Int.zero_add] at e;exact e
 | @step u _ d _ vs h hb hm=>
  refine h.reach ?_;have hn:=hb.2.1.nod.1;have hf:f≠0:=by have:=h.best.2.1.nod.2;unfold nod at this;omega
  have e:EE M u d f (zfo vs) n (d+M u n) (byB f n):=.here hn (by omega) (by
   rw[zcE];have:=(Ch.step h hb hm).new;simpa[zfo] using this)
  unfold byB at e;rw[if_neg hf] at e;exact e
end
end Go.Proofs.YtimfnpjcedjmiadGreat
namespace Go.Proofs.YtimfnpjcedjmiadGreat
open Go.RowKit
theorem zmI{k:Nat}{fr:List (Nat×AV)}{mem:List Res}(q:Nat){E sz g:Nat}(id j:Nat)(l:List AV)(hq:mem[q]? =some (.grow E sz g))(hne:q≠id)(hid:mem[id]? =some (.cells l))(hj:l[j]? =some (.v (.slice none 0 0))):
  AS.le k ⟨fr,mem⟩ ⟨fr,(mem.set q (.grow E sz (g+1))).set id (.cells (l.set j (.sl sz [] (some (q,g+1)))))⟩:=by
 intro n fp w0 σ μ Ds a w hk hr;have hlt:q<mem.length:=(List.getElem?_eq_some_iff.1 hq).1;obtain⟨ao,m,cap,xs,h1,_⟩:=hr.mem.ok q _ hq;have hu:=hr.upd (id:=q) (r:=.grow E sz (g+1)) (D:=λ_=>False) (an:=.cur none 0 0 (g+1)) (σ':=σ) (w':=w) (Nat.le_of_lt hlt) (Nat.le_refl _) rfl rfl rfl (λb hb hd=>⟨rfl,λo=>rfl⟩) (λb o y hy=>hy) hr.agree
  ⟨none,0,0,[],updG_self,⟨by simp,.inl ⟨rfl,rfl⟩⟩,λk hk=>hk.elim,λk=>⟨λh=>h.elim,λh=>by cases h⟩⟩
  (λb hb=>hb.elim) (λa ha=>by rw[h1] at ha;obtain rfl:=Option.some.inj ha;exact⟨by omega,λe=>by omega⟩)
 have hp:putR mem q (.grow E sz (g+1))=mem.set q (.grow E sz (g+1)):=by unfold putR;rw[if_pos hlt]
 rw[show (⟨fr,mem⟩:AS).mem=mem from rfl,hp] at hu;exact⟨_,_,_,hu.recell (id:=id) (j:=j) (by show (mem.set q _)[id]? =_;rw[List.getElem?_set_ne hne];exact hid) hj (λx hx=>by rw[hx.inv_v];exact zqW updG_self (An.le_refl _))⟩
def zhR(P:Program)(k:Nat)(rs:List ResultVar)(r:AV)(m':List Res)(A:AS):Prop:= ∃B,AS.le k A B/\vret P k rs r m' B
theorem fn_ofL{P:Program}(hm:P.follows .mixedOrders=true)(mt:Mut)(cuts:List Nat){f:FuncId}{fn:Func}{c:Code}{args:List AV}{m:List Res}{r:AV}{m':List Res}(hf:P.funcs[f]? =some fn)(hb:fn.body=some c)(hname:(fn.name=="runtime.NumGoroutine")=false)
  {n:Nat} (hn:fn.ntmps=n) (hle:Nat.ble args.length n=true) {rs:List ResultVar} (hrs:fn.results.toList=rs) (h0:gen0 m=true) (hok:zbo P n c=true)
  (h:vawp P mt m.length cuts c (zhR P m.length rs r m') (λ_ _=>False) (zhR P m.length rs r m') ⟨zf1 0 args,m⟩):Fn P f args m r m':=by
 subst hn hrs;refine⟨⟨fn,hf,by rw[hb];rfl,hname⟩,λw σ μ Ds vs hag hmem hlen hargs=>?_⟩;have hle:=Nat.le_of_ble_eq_true hle;refine calls_of_wp hf hb ?_;let w0:Start:=⟨w,σ,μ,m.length,λi ao n cap g hi=>by
  have hlt:i<m.length:=by
   exact Y84
  obtain⟨z1,z2⟩:=zdf h0 i _ (List.getElem?_eq_getElem hlt);obtain⟨an,x1,x2⟩:=MemOk.an (A:=⟨[],m⟩) hmem (List.getElem?_eq_getElem hlt) z1;rw[hi] at x1;obtain rfl:=Option.some.inj x1;rcases x2 with⟨v,e,_⟩|⟨_,_,_,gA,e,hg⟩
  .cases e
  .cases e;rw[hg] at z2;exact z2⟩
 have hrel:Rel fn.ntmps (λb=> ∃id,Ds id b) w0 σ μ Ds ⟨zf1 0 args,m⟩ { tmps:=vs++Array.replicate (fn.ntmps-vs.size) undef,defers:=[] } w:=by
  exact Y22
 refine wp_mono (zae hm rfl c hok hrel h) ?_;have fin: ∀a' w',zgt fn.ntmps (λb=> ∃id,Ds id b) w0 (zhR P m.length fn.results.toList r m') a' w'->a'.defers=[]/\ ∃v,(results fn a'.tmps).run P w'=.ok v w' ∧
   ∃x σ' μ' Ds',(Ending.returned v:Ending)=.returned x/\Post σ μ Ds w r m' x σ' μ' Ds' w':=by
  rintro a' w' ⟨A0,σ0,μ0,Ds0,⟨A,hAB,hr⟩,hrel0⟩;obtain⟨σ',μ',Ds',hrel⟩:=hAB _ _ w0 σ0 μ0 Ds0 a' w' rfl hrel0;obtain⟨x,v,h1,h2,ρ,hnd,hp,hM,hK⟩:=zkE hrel hr;refine⟨hrel.defers,x,h1,x,σ',subG μ' ρ m',subD Ds' ρ m',rfl,⟨h2.sub hrel.mem hK,hrel.mem.sub (of_decide_eq_true hnd) hM,zgn hrel hp hM,hrel.agree,hrel.keeps,λb o hb hf=>hrel.old b o hb hf,hrel.mono,λid b hb=>?_⟩⟩;obtain⟨⟨i,_,h4⟩,_⟩:=hb;exact hrel.own i b h4
 intro e a' w' he;cases e with
 |normal=>exact fin a' w' he
 |ret=>exact fin a' w' he
 |exit id=>obtain⟨A,σ',μ,Ds,hr,hrel⟩:=he;exact hr.elim
 |_=>exact he.elim
def findC:List (Nat×Code)->Nat->Option Code
 |[],_=>none
 |(i,c)::l,j=>match Nat.beq i j with
  |true=>some c
  |false=>findC l j
noncomputable def reb(L:List (Nat×Code))(c:Code):Code:=
 Code.rec (motive:=λ_=>Code) .skip (λid ops d=>.region id ops d) (λ_ _ a b=>.seq a b) (λo _ _ a b=>.cond o a b) (λid _ a=>.block id a)
  (λc a=>match zfM c with
   |some i=>match findC L i with
    |some c'=>.loop c'
    |none=>.loop a
   |none=>.loop a)
  (λf ps _ _ a b=>.rangeFunc f ps a b) (λid=>.exit id) (λ_ a=>.scope a) (λl=>.label l) (λl=>.goto l) .ret (λw=>.refuse w) c
noncomputable def zhO(f:Func):Code:=f.body.getD .skip
theorem named_ok{P:Program}{n:Nat}{f:Func}{L:List (Nat×Code)}(hb:f.body=some (reb L (zhO f)))(hk:zbo P n (zhO f)=true):zbo P n (reb L (zhO f))=true:=by
 have e:zhO f=reb L (zhO f):=by
  conv=>lhs;unfold zhO;rw[hb]
  rfl
 rw[<-e];exact hk
theorem zeO{P:Program}{mt:Mut}{k:Nat}{cuts:List Nat}{c c':Code}{K:AS->Prop}{X:Nat->AS->Prop}{R:AS->Prop}{A:AS}(hc:c=c')(h:vawp P mt k cuts c' K X R A):vawp P mt k cuts c K X R A:=by
 subst hc;exact h
theorem lpG2{α β:Type}{k:Nat}{step:(AS->Prop)->AS->Prop}{A:AS}(B:α->β->AS)(ok:α->β->Prop)(meas:α->β->Nat)(a:α)(b:β)(h0:ok a b)(hle:AS.le k A (B a b))
  (hr: ∀a b,ok a b->step (λB'=> ∃m' B'',m'<meas a b/\AS.le k B' B''/\ ∃a b,ok a b/\meas a b=m'/\B a b=B'') (B a b)):StopLoop k step A:=
 ⟨λm A'=> ∃a b,ok a b/\meas a b=m/\B a b=A',⟨meas a b,B a b,hle,a,b,h0,rfl,rfl⟩,λm A' ⟨a,b,hs,hm,hB⟩=>by subst hm hB;exact hr a b hs⟩
theorem za3{α β:Type}{k m:Nat}{B':AS}{B:α->β->AS}{ok:α->β->Prop}{meas:α->β->Nat}(a:α)(b:β)(hok:ok a b)(hlt:meas a b<m)(hle:AS.le k B' (B a b)):
  ∃m' B'',m'<m/\AS.le k B' B''/\ ∃a b,ok a b/\meas a b=m'/\B a b=B'':=⟨_,_,hlt,hle,a,b,hok,rfl,rfl⟩
theorem lpG3{α β γ:Type}{k:Nat}{step:(AS->Prop)->AS->Prop}{A:AS}(B:α->β->γ->AS)(ok:α->β->γ->Prop)(meas:α->β->γ->Nat)(a:α)(b:β)(c:γ)(h0:ok a b c)(hle:AS.le k A (B a b c))
  (hr: ∀a b c,ok a b c->step (λB'=> ∃m' B'',m'<meas a b c/\AS.le k B' B''/\ ∃a b c,ok a b c/\meas a b c=m'/\B a b c=B'') (B a b c)):StopLoop k step A:=
 ⟨λm A'=> ∃a b c,ok a b c/\meas a b c=m/\B a b c=A',⟨meas a b c,B a b c,hle,a,b,c,h0,rfl,rfl⟩,λm A' ⟨a,b,c,hs,hm,hB⟩=>by subst hm hB;exact hr a b c hs⟩
theorem zmT{α β γ:Type}{k m:Nat}{B':AS}{B:α->β->γ->AS}{ok:α->β->γ->Prop}{meas:α->β->γ->Nat}(a:α)(b:β)(c:γ)(hok:ok a b c)(hlt:meas a b c<m)(hle:AS.le k B' (B a b c)):
  ∃m' B'',m'<m/\AS.le k B' B''/\ ∃a b c,ok a b c/\meas a b c=m'/\B a b c=B'':=⟨_,_,hlt,hle,a,b,c,hok,rfl,rfl⟩
theorem and255{x:Int}(h0:0<=x)(h:x<4294967296):IntKind.i64.wrap ((BitVec.ofInt IntKind.i64.bits x&&&BitVec.ofInt IntKind.i64.bits 255).toNat:Int)=x%256:=by
 have e:x=((x.toNat:Nat):Int):=by omega
 rw[e,show (255:Int)=((255:Nat):Int) from rfl,and64 (by omega) (by decide)];have:=Nat.and_two_pow_sub_one_eq_mod x.toNat 8;rw[show (2:Nat)^8-1=255 from rfl] at this;rw[this];omega
theorem foL{P:Program}(hm:P.follows .mixedOrders=true)(mt:Mut)(cuts:List Nat){f:FuncId}{fn:Func}{c:Code}{args:List AV}{m:List Res}{r:AV}{m':List Res}(hf:P.funcs[f]? =some fn){n:Nat}(hn:fn.ntmps=n){rs:Array ResultVar}(hrs:fn.results=rs)(h:vawp P mt m.length cuts c (zhR P m.length rs.toList r m') (λ_ _=>False) (zhR P m.length rs.toList r m') ⟨zf1 0 args,m⟩)(hb:fn.body=some c:=by exact rfl)(hname:(fn.name=="runtime.NumGoroutine")=false:=by decide+kernel)(hle:Nat.ble args.length n=true:=by exact rfl)(h0:gen0 m=true:=by exact rfl)(hok:zbo P n c=true:=by decide+kernel):Fn P f args m r m':=fn_ofL hm mt cuts hf hb hname hn hle (congrArg Array.toList hrs) h0 hok h
end Go.Proofs.YtimfnpjcedjmiadGreat
