/- Lemmas. -/
import Derived.Test.YtimfnpjcedjmiadGreatK7
import Derived.Test.YtimfnpjcedjmiadGreatK8
set_option maxRecDepth 100000
set_option maxHeartbeats 64000000
set_option linter.all false
namespace Go.Proofs.YtimfnpjcedjmiadGreat
open Go.RowKit
def zde(a:Int):List (Int×Int)->Nat->Int
 |[],_=> -1
 |o::r,k=>if o.1=a then k else zde a r (k+1)
theorem zhM{a:Int}: ∀{l:List (Int×Int)} {k:Nat},decide (0<=zde a l k)=l.any (fun o=>o.1==a)
 |[],k=>by simp [zde]
 |o::r,k=>by
  unfold zde
  by_cases h:o.1=a
  ·simp [h]
  ·simp [h,zhM (l:=r)]
def zgQ(o:Int×Int):Bool:=decide (o.1<0)||decide (255<o.1)||decide (o.2<0)||decide (255<o.2)
def zcy:List (Int×Int)->List (Int×Int)->Int
 |_,[]=>0
 |p,o::r=>if zgQ o then 1 else if p.any (fun q=>q.1==o.1) then 3 else zcy (p++[o]) r
def zbJ(c i:Int)(l:List (Int×Int)):Int:=
 if c<1\/6<c\/i<0\/255<i then 1 else if 8<l.length then 2 else if 4<c/\0<l.length then 3 else zcy [] l
theorem ze1: ∀(p l:List (Int×Int)),0<=zcy p l
 |p,[]=>by simp [zcy]
 |p,o::r=>by
  unfold zcy
  split
  ·omega
  ·split
   ·omega
   ·exact ze1 _ r
theorem zeD(c i:Int)(l:List (Int×Int)):0<=zbJ c i l:=by
 have:=ze1 [] l
 unfold zbJ
 (repeat' split)<;>omega
theorem zfu{l:List (Int×Int)}{k:Nat}(h:k<l.length):zcy (l.take k) (l.drop k)=if zgQ l[k] then 1 else if (l.take k).any (fun q=>q.1==l[k].1) then 3 else zcy (l.take (k+1)) (l.drop (k+1)):=by
 rw[zaX h,List.take_add_one,List.getElem?_eq_getElem h]
 rfl
theorem zpI(k n a b:Int):Fn Tryz.prog 110 [.agg [.v (.int .i64 k),.v (.int .i64 n)],.box 0 0] [.cells [.v (.int .i64 a),.v (.int .i64 b)]] (.v (.bool (k==a))) [.cells [.v (.int .i64 a),.v (.int .i64 b)]]:=by
 refine foA zaA [] [] Tryz.func110 Tryz.ntmps110 Tryz.results110 ?_
 (all_goals refine gv ?_;repeat' first|exact .intro|refine Tw.mk ?_ ?_|(intro h;first|replace h:=h.o|cases h))
 all_goals (((try (conv=>whnf));refine StopRet.by [0] ?_;repeat' first|exact .intro|refine Tw.mk ?_ ?_))
theorem zm2(l:List (Int×Int))(a b:Int)(hl:l.length<=1000000):Fn Tryz.prog 118 [.sl 2 (l.map opRow) none,.clo 110 [.box 0 0]] [.cells [.v (.int .i64 a),.v (.int .i64 b)]] (.v (.int .i64 (zde a l 0))) [.cells [.v (.int .i64 a),.v (.int .i64 b)]]:=by
 refine foA zaA [] [] Tryz.func118 Tryz.ntmps118 Tryz.results118 ?_
 (all_goals refine gv ?_;repeat' first|exact .intro|refine Tw.mk ?_ ?_|(intro h;first|replace h:=h.o|cases h))
 refine lpG (fun k:Nat=>⟨[(0,.sl 2 (l.map opRow) none),(1,.clo 110 [.box 0 0]),(7,.v (.int .i64 l.length)),(8,.v (.int .i64 k))],[.cells [.v (.int .i64 a),.v (.int .i64 b)]]⟩) (fun k=>k<=l.length/\zde a l 0=zde a (l.drop k) k) (fun k=>l.length-k) 0 ⟨by omega,rfl⟩ (by (refine zaD [0] ?_;repeat' first|exact .intro|refine Tw.mk ?_ ?_);all_goals (all_goals (try simp))) ?_
 rintro k ⟨hk,hp⟩
 (all_goals refine gv ?_;repeat' first|exact .intro|refine Tw.mk ?_ ?_|(intro h;first|replace h:=h.o|cases h))
 all_goals (try omega)
 ·have hk':k<l.length:=by omega
  (refine⟨_,_,_,_,[0],zpI l[k].1 l[k].2 a b,rfl,rfl,rfl,?_,?_,?_⟩)
  ·exact Y3
  ·exact Y3
  (all_goals refine gv ?_;repeat' first|exact .intro|refine Tw.mk ?_ ?_|(intro h;first|replace h:=h.o|cases h))
  all_goals (try ((with_reducible refine Vc.mk ?_);(try exact GLt)))
  ·((try (conv=>whnf));refine StopRet.by [0] ?_;repeat' first|exact .intro|refine Tw.mk ?_ ?_)
   rw[hp,zaX (by omega)]
   simp [zde,h]
  ·refine zaS (k+1) ⟨by omega,?_⟩ (by omega) (by (refine zaD [0] ?_;repeat' first|exact .intro|refine Tw.mk ?_ ?_))
   rw[hp,zaX (by omega)]
   simp [zde,h]
 ·have e:k=l.length:=by omega
  subst e
  ((try (conv=>whnf));refine StopRet.by [0] ?_;repeat' first|exact .intro|refine Tw.mk ?_ ?_)
  rw[hp]
  simp [zde]
theorem zje(l:List (Int×Int))(a b:Int)(hl:l.length<=1000000):Fn Tryz.prog 109 [.sl 2 (l.map opRow) none,.clo 110 [.box 0 0]] [.cells [.v (.int .i64 a),.v (.int .i64 b)]] (.v (.bool (l.any (fun o=>o.1==a)))) [.cells [.v (.int .i64 a),.v (.int .i64 b)]]:=by
 refine foA zaA [] [] Tryz.func109 Tryz.ntmps109 Tryz.results109 ?_
 (all_goals refine gv ?_;repeat' first|exact .intro|refine Tw.mk ?_ ?_|(intro h;first|replace h:=h.o|cases h))
 (refine⟨_,_,_,_,[0],zm2 l a b hl,rfl,rfl,rfl,?_,?_,?_⟩)
 ·exact Y3
 ·exact Y3
 (all_goals refine gv ?_;repeat' first|exact .intro|refine Tw.mk ?_ ?_|(intro h;first|replace h:=h.o|cases h))
 ((try (conv=>whnf));refine StopRet.by [0] ?_;repeat' first|exact .intro|refine Tw.mk ?_ ?_)
 exact zhM
theorem zh5(c i:Int)(l:List (Int×Int)):Fn Tryz.prog 89 [.agg [.v (.int .i64 c),.v (.int .i64 i),.sl 2 (l.map opRow) none]] [] (.err (zbJ c i l)) []:=by
 refine foA zaA [] [] Tryz.func89 Tryz.ntmps89 Tryz.results89 ?_
 (all_goals refine gv ?_;repeat' first|exact .intro|refine Tw.mk ?_ ?_|(intro h;first|replace h:=h.o|cases h))
 all_goals (try ((with_reducible refine Vc.mk ?_);(try exact GLt)))
 all_goals (try (((try (conv=>whnf));refine StopRet.by [] ?_;repeat' first|exact .intro|refine Tw.mk ?_ ?_);unfold zbJ;(repeat' split)<;>first|rfl|omega))
 all_goals
  have hp:zbJ c i l=zcy [] l:=by unfold zbJ;(repeat' split)<;>first|rfl|omega
  refine lpG (fun k:Nat=>⟨[(1,.box 0 0),(40,.sl 2 (l.map opRow) none),(41,.v (.int .i64 l.length)),(42,.v (.int .i64 k))],[.cells [.v (.int .i64 c),.v (.int .i64 i),.sl 2 (l.map opRow) none]]⟩) (fun k=>k<=l.length/\zbJ c i l=zcy (l.take k) (l.drop k)) (fun k=>l.length-k) 0 ⟨by omega,hp⟩ (by (refine zaD [0] ?_;repeat' first|exact .intro|refine Tw.mk ?_ ?_);all_goals (all_goals (try simp))) ?_
  rintro k ⟨hk,hq⟩
  (all_goals refine gv ?_;repeat' first|exact .intro|refine Tw.mk ?_ ?_|(intro h;first|replace h:=h.o|cases h))
  all_goals (try omega)
  all_goals (try ((with_reducible refine Vc.mk ?_);(try exact GLt)))
  all_goals (try
   (
    have hk':k<l.length:=by omega
    rw[zfu hk'] at hq
    have hb:zgQ l[k]=true:=by simp only[zgQ,Bool.or_eq_true,decide_eq_true_eq];omega
    rw[if_pos hb] at hq
    ((try (conv=>whnf));refine⟨[],rfl,rfl,?_,?_⟩)
    ·exact Y3
    ·(all_goals refine gr ?_;repeat' first|exact .intro|refine Tw.mk ?_ ?_);all_goals exact hq.symm))
  all_goals (try
   (
    have e:k=l.length:=by omega
    subst e
    rw[List.drop_length] at hq
    ((try (conv=>whnf));refine⟨[],rfl,rfl,?_,?_⟩)
    ·exact Y3
    ·(all_goals refine gr ?_;repeat' first|exact .intro|refine Tw.mk ?_ ?_);all_goals exact hq.symm))
 all_goals
  have hk':k<l.length:=by omega
  have hb: ¬zgQ l[k]=true:=by simp only[zgQ,Bool.or_eq_true,decide_eq_true_eq];omega
  rw[zfu hk',if_neg hb] at hq
  (refine⟨_,_,_,_,[1],zje (l.take k) l[k].1 l[k].2 (by simp;omega),rfl,rfl,rfl,?_,?_,?_⟩)
  ·exact Y3
  ·(all_goals refine gr ?_;repeat' first|exact .intro|refine Tw.mk ?_ ?_)
   all_goals simp [List.map_take]
  (all_goals refine gv ?_;repeat' first|exact .intro|refine Tw.mk ?_ ?_|(intro h;first|replace h:=h.o|cases h))
  all_goals (try ((with_reducible refine Vc.mk ?_);(try exact GLt)))
  ·rw[if_pos h] at hq
   ((try (conv=>whnf));refine⟨[],rfl,rfl,?_,?_⟩)
   ·exact Y3
   ·(all_goals refine gr ?_;repeat' first|exact .intro|refine Tw.mk ?_ ?_)
    all_goals exact hq.symm
  ·rw[if_neg (by rw[h];simp)] at hq
   refine zaS (k+1) ⟨by omega,hq⟩ (by omega) (by (refine zaD [0] ?_;repeat' first|exact .intro|refine Tw.mk ?_ ?_))
end Go.Proofs.YtimfnpjcedjmiadGreat
namespace Go.Proofs.YtimfnpjcedjmiadGreat
open Go.RowKit
end Go.Proofs.YtimfnpjcedjmiadGreat
namespace Go.Proofs.YtimfnpjcedjmiadGreat
open Go.RowKit
def pbyt(c i:Int)(n:Nat)(l:List (Int×Int)):List UInt8:=[u8 c,u8 i,u8 n]++l.flatMap fun o=>[u8 o.1,u8 o.2]
def zfW(c i:Int)(l:List (Int×Int)):List UInt8:=pbyt c i l.length l
theorem znc{c i:Int}{n:Nat}{l:List (Int×Int)}{k:Nat}(h:k<l.length):pbyt c i n (l.take (k+1))=pbyt c i n (l.take k)++[u8 l[k].1,u8 l[k].2]:=by
 unfold pbyt
 rw[List.take_add_one,List.getElem?_eq_getElem h,List.flatMap_append,List.append_assoc]
 simp
theorem pbyt_len{c i:Int}{n:Nat}{l:List (Int×Int)}:(pbyt c i n l).length=3+2*l.length:=by
 unfold pbyt
 exact Y64
theorem zo0(c i:Int)(l:List (Int×Int))(hl:l.length<=1000000):Fn Tryz.prog 69 [.agg [.v (.int .i64 c),.v (.int .i64 i),.sl 2 (l.map opRow) none]] [] (.tup [.v (.string (if zbJ c i l=0 then ⟨(zfW c i l).toArray⟩ else ByteArray.empty)),.err (zbJ c i l)]) []:=by
 refine foA zaA [] [] Tryz.func69 Tryz.ntmps69 Tryz.results69 ?_
 (all_goals refine gv ?_;repeat' first|exact .intro|refine Tw.mk ?_ ?_|(intro h;first|replace h:=h.o|cases h))
 refine zmL (zh5 c i l) ?_ ?_
 ·exact Y3
 (all_goals refine gv ?_;repeat' first|exact .intro|refine Tw.mk ?_ ?_|(intro h;first|replace h:=h.o|cases h))
 all_goals (try ((with_reducible refine Vc.mk ?_);(try exact GLt)))
 ·exact Y107
 rw[h]
 simp only[if_true]
 refine lpG (fun k:Nat=>⟨[(1,.box 0 0),(5,.sl 1 ((pbyt c i l.length (l.take k)).map bRow) (some (1,1))),(25,.sl 2 (l.map opRow) none),(26,.v (.int .i64 l.length)),(27,.v (.int .i64 k))],[.cells [.v (.int .i64 c),.v (.int .i64 i),.sl 2 (l.map opRow) none],.grow 5 1 1]⟩) (fun k=>k<=l.length) (fun k=>l.length-k) 0 (by omega) (by (refine zaD [0,1] ?_;repeat' first|exact .intro|refine Tw.mk ?_ ?_);all_goals (all_goals (try simp [pbyt,bRow,wrap_u8,viewR,viewL,AV.view]))) ?_
 rintro k hk
 have hb:=pbyt_len (c:=c) (i:=i) (n:=l.length) (l:=l.take k)
 rw[List.length_take] at hb
 (all_goals refine gv ?_;repeat' first|exact .intro|refine Tw.mk ?_ ?_|(intro h;first|replace h:=h.o|cases h))
 all_goals (try omega)
 all_goals (try ((with_reducible refine Vc.mk ?_);(try exact GLt)))
 ·refine zaS (k+1) (by omega) (by omega) (by (refine zaD [0,1] ?_;repeat' first|exact .intro|refine Tw.mk ?_ ?_);all_goals (try (rw[znc (by omega)];simp [bRow,wrap_u8,viewR,viewL,AV.view];done)))
 ·have e:k=l.length:=by omega
  subst e
  rw[List.take_length]
  conv=>whnf
  refine⟨pbyt c i l.length l,rfl,?_⟩
  (all_goals refine gv ?_;repeat' first|exact .intro|refine Tw.mk ?_ ?_|(intro h;first|replace h:=h.o|cases h))
  ((try (conv=>whnf));refine StopRet.by [] ?_;repeat' first|exact .intro|refine Tw.mk ?_ ?_)
end Go.Proofs.YtimfnpjcedjmiadGreat
namespace Go.Proofs.YtimfnpjcedjmiadGreat
open Go.RowKit
def zgI(s:ByteArray)(n:Nat):List (Int×Int):=(List.range n).map fun q=>((zaG s (3+2*q):Int),(zaG s (4+2*q):Int))
theorem zlh{s:ByteArray}{n:Nat}:zgI s (n+1)=zgI s n++[((zaG s (3+2*n):Int),(zaG s (4+2*n):Int))]:=by
 unfold zgI;rw[List.range_succ,List.map_append];rfl
theorem zoO{s:ByteArray}{n:Nat}:(zgI s n).length=n:=by simp [zgI]
def ziD(s:ByteArray):Bool:=decide (3<=s.size)&&decide (s.size=3+2*zaG s 2)&&decide (zbJ (zaG s 0) (zaG s 1) (zgI s (zaG s 2))=0)
theorem zgF{s:ByteArray}:ziD s=true↔3<=s.size/\s.size=3+2*zaG s 2/\zbJ (zaG s 0) (zaG s 1) (zgI s (zaG s 2))=0:=by simp [ziD,and_assoc]
def zcb(s:ByteArray):Int:=if ziD s then zaG s 0 else 0
def pid(s:ByteArray):Int:=if ziD s then zaG s 1 else 0
def popt(s:ByteArray):List (Int×Int):=if ziD s then zgI s (zaG s 2) else []
def perr(s:ByteArray):Int:=if ziD s then 0 else 4
theorem zgr(s:ByteArray)(hs:s.size<=1000):Fn Tryz.prog 81 [.v (.string s)] [] (.tup [.agg [.v (.int .i64 (zcb s)),.v (.int .i64 (pid s)),.sl 2 ((popt s).map opRow) none],.err (perr s)]) []:=by
 have b0:=zap s 0
 have b1:=zap s 1
 have b2:=zap s 2
 refine foA zaA [] [] Tryz.func81 Tryz.ntmps81 Tryz.results81 ?_
 (all_goals refine gv ?_;repeat' first|exact .intro|refine Tw.mk ?_ ?_|(intro h;first|replace h:=h.o|cases h))
 all_goals (try ((with_reducible refine Vc.mk ?_);(try exact GLt)))
 all_goals (try
  (
   have hb: ¬ziD s=true:=fun h'=>by have:=zgF.1 h';omega
   ((try (conv=>whnf));refine StopRet.by [] ?_;repeat' first|exact .intro|refine Tw.mk ?_ ?_);all_goals simp [zcb,pid,popt,perr,hb]))
 refine lpG (fun k:Nat=>⟨[(0,.v (.string s)),(2,.box 0 0),(4,.box 1 0),(5,.v (.int .i64 (3+2*(k:Int))))],[.cells [.any,.any,.any],.cells [.v (.int .i64 (zaG s 0)),.v (.int .i64 (zaG s 1)),.sl 2 ((zgI s k).map opRow) (some (2,1))],.grow 184 2 1]⟩) (fun k=>k<=zaG s 2) (fun k=>zaG s 2-k) 0 (by omega) ?_ ?_
 ·refine AS.le_trans (ziB 1 2 184 2 _ rfl rfl) ?_
  (refine zgn [0,1,2] rfl rfl ?_ ?_)
  all_goals ((all_goals refine gr ?_;repeat' first|exact .intro|refine Tw.mk ?_ ?_);all_goals (try simp [wrap_byte,zgI]))
 intro k hk
 have hlen:=zoO (s:=s) (n:=k)
 have e1:(3+2*(k:Int)).toNat=3+2*k:=by omega
 have e2:(3+2*(k:Int)+1).toNat=4+2*k:=by omega
 (all_goals refine gv ?_;repeat' first|exact .intro|refine Tw.mk ?_ ?_|(intro h;first|replace h:=h.o|cases h))
 all_goals (try omega)
 all_goals (try ((with_reducible refine Vc.mk ?_);(try exact GLt)))
 ·refine zaS (k+1) (by omega) (by omega) (by (refine zaD [0,1,2] ?_;repeat' first|exact .intro|refine Tw.mk ?_ ?_);all_goals (all_goals (try (rw[zlh];simp [opRow,wrap_byte,viewR,viewL,AV.view,e1,e2]))))
 have e:k=zaG s 2:=by omega
 subst e
 (refine⟨_,_,_,_,[],zh5 (zaG s 0) (zaG s 1) (zgI s (zaG s 2)),rfl,rfl,rfl,?_,?_,?_⟩)
 ·exact Y3
 ·exact Y3
 (all_goals refine gv ?_;repeat' first|exact .intro|refine Tw.mk ?_ ?_|(intro h;first|replace h:=h.o|cases h))
 all_goals (try ((with_reducible refine Vc.mk ?_);(try exact GLt)))
 ·have hb: ¬ziD s=true:=fun h'=>by have:=zgF.1 h';omega
  exact Y95
 ·have hb:ziD s=true:=zgF.2 ⟨by omega,by omega,by omega⟩
  exact Y95
end Go.Proofs.YtimfnpjcedjmiadGreat
namespace Go.Proofs.YtimfnpjcedjmiadGreat
open Go.RowKit
end Go.Proofs.YtimfnpjcedjmiadGreat
namespace Go.Proofs.YtimfnpjcedjmiadGreat
structure Pk where
 c:Int
 i:Int
 o:List (Int×Int)
structure Lk where
 st:Int
 left:Int
 tm:Int
 id:Int
 os:Int
 om:Int
 ns:Int
 nm:Int
 ask:List (Int×Int)
 sz:Int
 out:List Pk
def zf4(m:Int)(l:List (Int×Int)):Int:=if rej l≠[] then 4 else if nak m l≠[] then 3 else 2
def jans(m:Int)(l:List (Int×Int)):List (Int×Int):=if rej l≠[] then rej l else if nak m l≠[] then nak m l else l
def act1(i c:Int)(a:List (Int×Int))(l:Lk)(b:UInt8):Lk:=
 if b=105 then { l with left:=4 }
 else if b=122 then { l with left:=0,tm:=3 }
 else if b=114 then { l with id:=(l.id+1)%256,ask:=asks l.ns l.nm,left:=l.left-1,tm:=3,out:=l.out++[⟨1,(l.id+1)%256,asks l.ns l.nm⟩] }
 else if b=97\/b=110 then { l with out:=l.out++[⟨c,i,a⟩] }
 else if b=116 then { l with id:=(l.id+1)%256,left:=l.left-1,tm:=3,out:=l.out++[⟨5,(l.id+1)%256,[]⟩] }
 else if b=107 then { l with out:=l.out++[⟨6,i,[]⟩] }
 else l
def actL(i c:Int)(a:List (Int×Int))(l:Lk)(d:List UInt8):Lk:=d.foldl (act1 i c a) l
def ownL(l:Lk)(n:Int):Lk:=if n<=3 then { l with ns:=l.os,nm:=l.om,sz:=255,st:=n } else { l with st:=n }
def evtL(l:Lk)(e i c:Int)(a:List (Int×Int)):Lk:=
 if zar l.st e=0 then actL i c a (ownL l (zb1 l.st e)) (zct l.st e) else l
def doL(l:Lk)(e:Int):Lk:=if e<0\/3<e then l else evtL l e 0 0 []
def doE(l:Lk)(e:Int):Int:=if e<0\/3<e then 1 else zar l.st e
def zac(l:Lk):Lk:=
 if 4<=l.st/\l.st<=8 then
  (if 0<l.tm-1 then { l with tm:=l.tm-1 } else evtL { l with tm:=l.tm-1 } (if l.left<=0 then 5 else 4) 0 0 [])
 else l
def szOf(o:List (Int×Int)):Int:=o.foldl (fun s x=>if x.1=1 then x.2 else s) 255
def reqL(l:Lk)(p:Pk):Lk:=
 if zf4 l.nm p.o=2 then
  (if zar l.st 6=0/\6<=(evtL l 6 p.i 2 (jans l.nm p.o)).st then { evtL l 6 p.i 2 (jans l.nm p.o) with sz:=szOf p.o } else evtL l 6 p.i 2 (jans l.nm p.o))
 else evtL l 7 p.i (zf4 l.nm p.o) (jans l.nm p.o)
def reqE(l:Lk)(p:Pk):Int:=if zf4 l.nm p.o=2 then zar l.st 6 else zar l.st 7
def nowL(l:Lk)(p:Pk):Lk:=if 6<=l.st then { l with ns:=(told p.c (l.ns,l.nm) p.o).1,nm:=(told p.c (l.ns,l.nm) p.o).2 } else l
def takL(l:Lk)(p:Pk):Lk:=
 if zbJ p.c p.i p.o≠0 then l
 else if p.c=1 then reqL l p
 else if p.c=5 then evtL l 10 p.i 0 []
 else if p.c=6 then evtL l 11 p.i 0 []
 else if p.i≠l.id then l
 else if p.c=2 then (if p.o≠l.ask then l else evtL l 8 p.i 0 [])
 else evtL (nowL l p) 9 p.i 0 []
def takE(l:Lk)(p:Pk):Int:=
 if zbJ p.c p.i p.o≠0 then zbJ p.c p.i p.o
 else if p.c=1 then reqE l p
 else if p.c=5 then zar l.st 10
 else if p.c=6 then zar l.st 11
 else if p.i≠l.id then 6
 else if p.c=2 then (if p.o≠l.ask then 6 else zar l.st 8)
 else zar l.st 9
def newL(s m:Int):Lk:=⟨0,0,0,0,s,m,s,m,[],255,[]⟩
structure Lk.ok (k:Int) (l:Lk):Prop where
 st0:0<=l.st
 st9:l.st<=9
 left0: -k<=l.left
 left4:l.left<=4
 tm0: -k<=l.tm
 tm3:l.tm<=3
 id0:0<=l.id
 id9:l.id<=255
 own:ze5 l.os l.om=true
 ns0:0<=l.ns
 ns9:l.ns<=255
 nm0:0<=l.nm
 nm9:l.nm<=255
 ask:l.ask.length<=2
 sz0:0<=l.sz
 sz9:l.sz<=255
 out:(l.out.length:Int)<=k
theorem Lk.ok.mono{k j:Int}{l:Lk}(h:l.ok k)(hj:k<=j):l.ok j:=
 ⟨h.st0,h.st9,by have:=h.left0;omega,h.left4,by have:=h.tm0;omega,h.tm3,h.id0,h.id9,h.own,h.ns0,h.ns9,h.nm0,h.nm9,h.ask,h.sz0,h.sz9,by have:=h.out;omega⟩
theorem ziX{s m:Int}:(asks s m).length<=2:=by
 unfold asks
 split<;>split<;>simp
theorem act1_ok{k:Int}{i c:Int}{a:List (Int×Int)}{l:Lk}(h:l.ok k)(b:UInt8)(hk:0<=k):(act1 i c a l b).ok (k+1):=by
 obtain⟨h1,h2,h3,h4,h5,h6,h7,h8,h9,h10,h11,h12,h13,h14,h15,h16,h17⟩:=h
 have ha:(asks l.ns l.nm).length<=2:=ziX
 unfold act1
 (repeat' split)<;>refine⟨?_,?_,?_,?_,?_,?_,?_,?_,?_,?_,?_,?_,?_,?_,?_,?_,?_⟩<;>(try dsimp only)<;>first|omega|assumption|(simp only[List.length_append,List.length_cons,List.length_nil];omega)
theorem zkE{i c:Int}{a:List (Int×Int)}: ∀{d:List UInt8} {k:Int} {l:Lk},l.ok k->0<=k->(actL i c a l d).ok (k+d.length)
 |[],k,l,h,hk=>by simpa[actL] using h
 |b::d,k,l,h,hk=>by
  have:=zkE (i:=i) (c:=c) (a:=a) (d:=d) (act1_ok (i:=i) (c:=c) (a:=a) h b hk) (by omega)
  refine Lk.ok.mono this ?_
  simp only[List.length_cons];omega
theorem zns{k n:Int}{l:Lk}(h:l.ok k)(h0:0<=n)(h9:n<=9):(ownL l n).ok k:=by
 obtain⟨h1,h2,h3,h4,h5,h6,h7,h8,h9',h10,h11,h12,h13,h14,h15,h16,h17⟩:=h
 have hp:=zcR.1 h9'
 unfold ownL
 split<;>refine⟨?_,?_,?_,?_,?_,?_,?_,?_,?_,?_,?_,?_,?_,?_,?_,?_,?_⟩<;>(try dsimp only)<;>first|omega|assumption
def tabOk(s e:Nat):Bool:=decide ((zct s e).length<=3)&&decide (0<=zb1 s e)&&decide (zb1 s e<=9)&&decide (zar s e=0\/zar s e=7)&&(zct s e).all (fun b=>decide (b.toNat<128))
theorem tab_all: ∀e:Fin 12,∀s:Fin 10,tabOk s e=true:=by decide+kernel
theorem tab{s e:Int}(h0:0<=s)(h9:s<=9)(e0:0<=e)(e9:e<=11):(zct s e).length<=3/\0<=zb1 s e/\zb1 s e<=9/\(zar s e=0\/zar s e=7)/\ ∀b∈zct s e,b.toNat<128:=by
 have h:=tab_all ⟨e.toNat,by omega⟩ ⟨s.toNat,by omega⟩
 simp only[tabOk,Int.toNat_of_nonneg h0,Int.toNat_of_nonneg e0,Bool.and_eq_true,decide_eq_true_eq,List.all_eq_true] at h
 obtain⟨⟨⟨⟨a,b⟩,c⟩,d⟩,e⟩:=h
 exact⟨a,b,c,d,e⟩
theorem zdL{k e i c:Int}{a:List (Int×Int)}{l:Lk}(h:l.ok k)(hk:0<=k)(e0:0<=e)(e9:e<=11):(evtL l e i c a).ok (k+3):=by
 have ht:=tab h.st0 h.st9 e0 e9
 unfold evtL
 split
 ·refine Lk.ok.mono (zkE (zns h ht.2.1 ht.2.2.1) hk) ?_
  have:=ht.1
  omega
 ·exact h.mono (by omega)
theorem tickL_ok{k:Int}{l:Lk}(h:l.ok k)(hk:0<=k):(zac l).ok (k+4):=by
 have h':Lk.ok (k+1) { l with tm:=l.tm-1 }:=by
  obtain⟨h1,h2,h3,h4,h5,h6,h7,h8,h9',h10,h11,h12,h13,h14,h15,h16,h17⟩:=h
  refine⟨?_,?_,?_,?_,?_,?_,?_,?_,?_,?_,?_,?_,?_,?_,?_,?_,?_⟩<;>(try dsimp only)<;>first|omega|assumption
 unfold zac
 split
 ·split
  ·exact h'.mono (by omega)
  ·refine Lk.ok.mono (zdL h' (by omega) ?_ ?_) (by omega)<;>split<;>omega
 ·exact h.mono (by omega)
theorem zjW: ∀(l p:List (Int×Int)),zcy p l=0-> ∀o∈l,0<=o.1/\o.1<=255/\0<=o.2/\o.2<=255
 |[],p,_=>fun o ho=>by cases ho
 |x::r,p,h=>by
  unfold zcy at h
  split at h
  ·omega
  ·rename_i hb
   split at h
   ·omega
   ·simp only[zgQ,Bool.or_eq_true,decide_eq_true_eq] at hb
    intro o ho
    rcases List.mem_cons.1 ho with rfl|ho
    ·omega
    ·exact zjW r _ h o ho
theorem zgX{c i:Int}{l:List (Int×Int)}(h:zbJ c i l=0):1<=c/\c<=6/\0<=i/\i<=255/\l.length<=8/\ ∀o∈l,0<=o.1/\o.1<=255/\0<=o.2/\o.2<=255:=by
 unfold zbJ at h
 (repeat' split at h)<;>first|omega|skip
 refine⟨by omega,by omega,by omega,by omega,by omega,zjW l [] h⟩
theorem szOf_in{o:List (Int×Int)}(h: ∀x∈o,0<=x.1/\x.1<=255/\0<=x.2/\x.2<=255):0<=szOf o/\szOf o<=255:=by
 have key: ∀(o:List (Int×Int)) (s:Int),0<=s->s<=255->(∀x∈o,0<=x.1/\x.1<=255/\0<=x.2/\x.2<=255)->0<=o.foldl (fun s x=>if x.1=1 then x.2 else s) s/\o.foldl (fun s x=>if x.1=1 then x.2 else s) s<=255:=by
  intro o
  induction o with
  |nil=>intro s h0 h9 _;exact⟨h0,h9⟩
  |cons x r ih=>
   intro s h0 h9 hx
   have h1:=hx x (List.mem_cons_self ..)
   refine ih _ ?_ ?_ (fun y hy=>hx y (List.mem_cons_of_mem _ hy))<;>dsimp only<;>split<;>omega
 exact key o 255 (by decide) (by decide) h
theorem zow{c:Int}{p:Int×Int}{o:List (Int×Int)}(h: ∀x∈o,0<=x.1/\x.1<=255/\0<=x.2/\x.2<=255)(hp:0<=p.1/\p.1<=255/\0<=p.2/\p.2<=255):0<=(told c p o).1/\(told c p o).1<=255/\0<=(told c p o).2/\(told c p o).2<=255:=by
 unfold told
 induction o generalizing p with
 |nil=>exact hp
 |cons x r ih=>
  have h1:=h x (List.mem_cons_self ..)
  refine ih (fun y hy=>h y (List.mem_cons_of_mem _ hy)) ?_
  unfold told1
  (repeat' split)<;>(try dsimp only)<;>omega
theorem takL_ok{k:Int}{l:Lk}{p:Pk}(h:l.ok k)(hk:0<=k):(takL l p).ok (k+3):=by
 unfold takL
 split
 ·exact h.mono (by omega)
 ·rename_i hf
  have hg:=zgX (Classical.not_not.1 hf)
  split
  ·unfold reqL
   have h6:=zdL (i:=p.i) (c:=2) (a:=jans l.nm p.o) h hk (e:=6) (by decide) (by decide)
   split
   ·split
    ·have hs:=szOf_in hg.2.2.2.2.2
     obtain⟨h1,h2,h3,h4,h5,h6,h7,h8,h9',h10,h11,h12,h13,h14,h15,h16,h17⟩:=h6
     exact Y100
    ·exact h6
   ·exact zdL h hk (by decide) (by decide)
  ·split
   ·exact zdL h hk (by decide) (by decide)
   ·split
    ·exact zdL h hk (by decide) (by decide)
    ·split
     ·exact h.mono (by omega)
     ·split
      ·split
       ·exact h.mono (by omega)
       ·exact zdL h hk (by decide) (by decide)
      ·refine zdL ?_ hk (by decide) (by decide)
       unfold nowL
       split
       ·have ht:=zow (c:=p.c) (p:=(l.ns,l.nm)) hg.2.2.2.2.2 ⟨h.ns0,h.ns9,h.nm0,h.nm9⟩
        obtain⟨h1,h2,h3,h4,h5,h6,h7,h8,h9',h10,h11,h12,h13,h14,h15,h16,h17⟩:=h
        exact Y100
       ·exact h
theorem zkG{s m:Int}(h:ze5 s m=true):(newL s m).ok 0:=by
 have hp:=zcR.1 h
 refine⟨?_,?_,?_,?_,?_,?_,?_,?_,h,?_,?_,?_,?_,?_,?_,?_,?_⟩<;>simp only[newL,List.length_nil]<;>omega
def outL(l:Lk):Lk:={ l with out:=[] }
end Go.Proofs.YtimfnpjcedjmiadGreat
namespace Go.Proofs.YtimfnpjcedjmiadGreat
open Go.RowKit
def ze3(e:Int×Int):Bool:=decide (e.1<1)||decide (6<e.1)||decide (e.2<1)||decide (20<e.2)
def zby(o:Int):Int->List (Int×Int)->Int
 |_,[]=>0
 |p,e::r=>if ze3 e then 1 else if e.1=o\/e.1<=p then 3 else zby o e.1 r
def zaK(o q:Int)(l:List (Int×Int)):Int:=
 if o<1\/6<o\/q<1\/1000000<q then 1 else if 6<l.length then 2 else zby o 0 l
theorem zeK(o:Int): ∀(p:Int) (l:List (Int×Int)),0<=zby o p l
 |p,[]=>by simp [zby]
 |p,e::r=>by
  unfold zby
  split
  ·omega
  ·split
   ·omega
   ·exact zeK o _ r
theorem zch(o q:Int)(l:List (Int×Int)):0<=zaK o q l:=by
 have:=zeK o 0 l
 unfold zaK
 (repeat' split)<;>omega
def zcI(l:List (Int×Int))(k:Nat):Int:=if h:0<k/\k<=l.length then (l[k-1]'(by omega)).1 else 0
theorem zkY{l:List (Int×Int)}{k:Nat}(h:k<l.length):zcI l (k+1)=l[k].1:=by
 unfold zcI
 rw[dif_pos ⟨by omega,by omega⟩]
 rfl
theorem zoG{l:List (Int×Int)}{k:Nat}{i:Int}(hi:i=(k:Int)-1)(h0:0<k)(h:i.toNat<l.length):l[i.toNat].1=zcI l k:=by
 subst hi
 unfold zcI
 rw[dif_pos ⟨h0,by omega⟩]
 congr 2
 omega
theorem zgk{l:List (Int×Int)}:zcI l 0=0:=by simp [zcI]
theorem zgt{l:List (Int×Int)}{k:Nat}{o:Int}(h:k<l.length):zby o (zcI l k) (l.drop k)=if ze3 l[k] then 1 else if l[k].1=o\/l[k].1<=zcI l k then 3 else zby o (zcI l (k+1)) (l.drop (k+1)):=by
 rw[zaX h,zkY h]
 rfl
theorem zdI(o q:Int)(l:List (Int×Int)):Fn Tryz.prog 55 [.agg [.v (.int .i64 o),.v (.int .i64 q),.sl 2 (l.map opRow) none]] [] (.err (zaK o q l)) []:=by
 refine foA zaA [] [] Tryz.func55 Tryz.ntmps55 Tryz.results55 ?_
 (all_goals refine gv ?_;repeat' first|exact .intro|refine Tw.mk ?_ ?_|(intro h;first|replace h:=h.o|cases h))
 all_goals (try ((with_reducible refine Vc.mk ?_);(try exact GLt)))
 all_goals (try (((try (conv=>whnf));refine StopRet.by [] ?_;repeat' first|exact .intro|refine Tw.mk ?_ ?_);unfold zaK;(repeat' split)<;>first|rfl|omega))
 all_goals
  have hp:zaK o q l=zby o (zcI l 0) l:=by unfold zaK;rw[zgk];(repeat' split)<;>first|rfl|omega
  refine lpG (fun k:Nat=>⟨[(1,.box 0 0),(30,.sl 2 (l.map opRow) none),(31,.v (.int .i64 l.length)),(32,.v (.int .i64 k))],[.cells [.v (.int .i64 o),.v (.int .i64 q),.sl 2 (l.map opRow) none]]⟩) (fun k=>k<=l.length/\zaK o q l=zby o (zcI l k) (l.drop k)) (fun k=>l.length-k) 0 ⟨by omega,hp⟩ (by (refine zaD [0] ?_;repeat' first|exact .intro|refine Tw.mk ?_ ?_);all_goals (all_goals (try simp))) ?_
  rintro k ⟨hk,hq⟩
  (all_goals refine gv ?_;repeat' first|exact .intro|refine Tw.mk ?_ ?_|(intro h;first|replace h:=h.o|cases h))
  all_goals (try omega)
  all_goals (try ((with_reducible refine Vc.mk ?_);(try exact GLt)))
  all_goals (try
   (
    have hk':k<l.length:=by omega
    rw[zgt hk'] at hq
    have hb:ze3 l[k]=true:=by simp only[ze3,Bool.or_eq_true,decide_eq_true_eq];omega
    rw[if_pos hb] at hq
    ((try (conv=>whnf));refine⟨[],rfl,rfl,?_,?_⟩)
    ·exact Y3
    ·(all_goals refine gr ?_;repeat' first|exact .intro|refine Tw.mk ?_ ?_);all_goals exact hq.symm))
  all_goals (try
   (
    have e:k=l.length:=by omega
    subst e
    rw[List.drop_length] at hq
    ((try (conv=>whnf));refine⟨[],rfl,rfl,?_,?_⟩)
    ·exact Y3
    ·(all_goals refine gr ?_;repeat' first|exact .intro|refine Tw.mk ?_ ?_);all_goals exact hq.symm))
 all_goals
  have hk':k<l.length:=by omega
  have hb: ¬ze3 l[k]=true:=by simp only[ze3,Bool.or_eq_true,decide_eq_true_eq];omega
  rw[zgt hk',if_neg hb] at hq
  have hla:zcI l k=0/\k=0\/ ∃(h0:0<k) (hx:((k:Int)-1).toNat<l.length),l[((k:Int)-1).toNat].1=zcI l k:=by
   rcases Nat.eq_zero_or_pos k with h0|h0
   ·exact .inl ⟨by rw[h0,zgk],h0⟩
   ·exact .inr ⟨h0,by omega,zoG rfl h0 (by omega)⟩
  by_cases hc:l[k].1=o\/l[k].1<=zcI l k
  ·rw[if_pos hc] at hq
   first
    |(exfalso;rcases hla with⟨e1,e2⟩|⟨h0,hx,e1⟩<;>omega)
    |(((try (conv=>whnf));refine StopRet.by [] ?_;repeat' first|exact .intro|refine Tw.mk ?_ ?_);all_goals exact hq.symm)
  ·rw[if_neg hc] at hq
   first
    |(exfalso;rcases hla with⟨e1,e2⟩|⟨h0,hx,e1⟩<;>omega)
    |(refine zaS (k+1) ⟨by omega,hq⟩ (by omega) (by (refine zaD [0] ?_;repeat' first|exact .intro|refine Tw.mk ?_ ?_)))
end Go.Proofs.YtimfnpjcedjmiadGreat
namespace Go.Proofs.YtimfnpjcedjmiadGreat
open Go.RowKit
def sbyt(o q:Int)(l:List (Int×Int)):List UInt8:=[u8 o,u8 q,u8 (q / 256),u8 (q / 65536)]++l.flatMap fun e=>[u8 e.1,u8 e.2]
theorem znf{c i:Int}{l:List (Int×Int)}{k:Nat}(h:k<l.length):sbyt c i (l.take (k+1))=sbyt c i (l.take k)++[u8 l[k].1,u8 l[k].2]:=by
 unfold sbyt
 rw[List.take_add_one,List.getElem?_eq_getElem h,List.flatMap_append,List.append_assoc]
 simp
theorem zfc{c i:Int}{l:List (Int×Int)}:(sbyt c i l).length=4+2*l.length:=by
 unfold sbyt
 exact Y64
theorem u8_mod{n m:Int}(h:n%256=m%256):u8 n=u8 m:=by unfold u8;rw[h]
theorem u8_8{q:Int}:u8 (q.fdiv 256)=u8 (q / 256):=by rw[Int.fdiv_eq_ediv_of_nonneg _ (by decide)]
theorem u8_16{q:Int}:u8 (q.fdiv 65536)=u8 (q / 65536):=by rw[Int.fdiv_eq_ediv_of_nonneg _ (by decide)]
theorem u8_r0{q:Int}(h:0<=q):u8 (q.tmod 256)=u8 q:=u8_mod (by rw[Int.tmod_eq_emod_of_nonneg h];omega)
theorem u8_r1{q:Int}(h:0<=q):u8 ((q.tdiv 256).tmod 256)=u8 (q / 256):=u8_mod (by rw[Int.tdiv_eq_ediv_of_nonneg h,Int.tmod_eq_emod_of_nonneg (by omega)];omega)
theorem u8_r2{q:Int}(h:0<=q):u8 (q.tdiv 65536)=u8 (q / 65536):=by rw[Int.tdiv_eq_ediv_of_nonneg h]
theorem zgE(c i:Int)(l:List (Int×Int))(hl:l.length<=1000000):Fn Tryz.prog 63 [.agg [.v (.int .i64 c),.v (.int .i64 i),.sl 2 (l.map opRow) none]] [] (.tup [.v (.string (if zaK c i l=0 then ⟨(sbyt c i l).toArray⟩ else ByteArray.empty)),.err (zaK c i l)]) []:=by
 refine foA zaA [] [] Tryz.func63 Tryz.ntmps63 Tryz.results63 ?_
 (all_goals refine gv ?_;repeat' first|exact .intro|refine Tw.mk ?_ ?_|(intro h;first|replace h:=h.o|cases h))
 refine zmL (zdI c i l) ?_ ?_
 ·exact Y3
 (all_goals refine gv ?_;repeat' first|exact .intro|refine Tw.mk ?_ ?_|(intro h;first|replace h:=h.o|cases h))
 all_goals (try ((with_reducible refine Vc.mk ?_);(try exact GLt)))
 ·exact Y107
 rw[h]
 simp only[if_true]
 refine lpG (fun k:Nat=>⟨[(1,.box 0 0),(5,.sl 1 ((sbyt c i (l.take k)).map bRow) (some (1,1))),(29,.sl 2 (l.map opRow) none),(30,.v (.int .i64 l.length)),(31,.v (.int .i64 k))],[.cells [.v (.int .i64 c),.v (.int .i64 i),.sl 2 (l.map opRow) none],.grow 5 1 1]⟩) (fun k=>k<=l.length) (fun k=>l.length-k) 0 (by omega) (by (refine zaD [0,1] ?_;repeat' first|exact .intro|refine Tw.mk ?_ ?_);all_goals (all_goals (try simp [sbyt,bRow,wrap_u8,viewR,viewL,AV.view,IntKind.bits,u8_8,u8_16,u8_r0,u8_r1,u8_r2, *]))) ?_
 rintro k hk
 have hb:=zfc (c:=c) (i:=i) (l:=l.take k)
 rw[List.length_take] at hb
 (all_goals refine gv ?_;repeat' first|exact .intro|refine Tw.mk ?_ ?_|(intro h;first|replace h:=h.o|cases h))
 all_goals (try omega)
 all_goals (try ((with_reducible refine Vc.mk ?_);(try exact GLt)))
 ·refine zaS (k+1) (by omega) (by omega) (by (refine zaD [0,1] ?_;repeat' first|exact .intro|refine Tw.mk ?_ ?_);all_goals (try (rw[znf (by omega)];simp [bRow,wrap_u8,viewR,viewL,AV.view];done)))
 ·have e:k=l.length:=by omega
  subst e
  rw[List.take_length]
  conv=>whnf
  refine⟨sbyt c i l,rfl,?_⟩
  (all_goals refine gv ?_;repeat' first|exact .intro|refine Tw.mk ?_ ?_|(intro h;first|replace h:=h.o|cases h))
  ((try (conv=>whnf));refine StopRet.by [] ?_;repeat' first|exact .intro|refine Tw.mk ?_ ?_)
end Go.Proofs.YtimfnpjcedjmiadGreat
namespace Go.Proofs.YtimfnpjcedjmiadGreat
open Go.RowKit
theorem or64{x y k:Nat}(hx:x<2^k)(hb:y*2^k+x<2^63):(BitVec.ofInt 64 (x:Int)|||BitVec.ofInt 64 ((y*2^k:Nat):Int)).toNat=y*2^k+x:=by
 rw[BitVec.ofInt_natCast,BitVec.ofInt_natCast,BitVec.toNat_or,BitVec.toNat_ofNat,BitVec.toNat_ofNat,Nat.mod_eq_of_lt (by omega),Nat.mod_eq_of_lt (by omega),Nat.or_comm,<-Nat.shiftLeft_eq,<-Nat.shiftLeft_add_eq_or_of_lt hx]
theorem seq_or{a b c:Nat}(ha:a<256)(hb:b<256)(hc:c<256):
  IntKind.i64.wrap (BitVec.ofInt IntKind.i64.bits (IntKind.i64.wrap (BitVec.ofInt IntKind.i64.bits (a:Int)|||BitVec.ofInt IntKind.i64.bits (IntKind.i64.wrap ((b:Int)*2^(min (8:Int).toNat IntKind.i64.bits)))).toNat)|||BitVec.ofInt IntKind.i64.bits (IntKind.i64.wrap ((c:Int)*2^(min (16:Int).toNat IntKind.i64.bits)))).toNat=a+256*b+65536*c:=by
 have e8:(b:Int)*2^(min (8:Int).toNat IntKind.i64.bits)=((b*2^8:Nat):Int):=by simp [IntKind.bits]
 have e16:(c:Int)*2^(min (16:Int).toNat IntKind.i64.bits)=((c*2^16:Nat):Int):=by simp [IntKind.bits]
 rw[e8,e16,zcN (x:=((b*2^8:Nat):Int)) (by unfold In64;omega),zcN (x:=((c*2^16:Nat):Int)) (by unfold In64;omega)]
 show IntKind.i64.wrap (BitVec.ofInt 64 (IntKind.i64.wrap (BitVec.ofInt 64 (a:Int)|||BitVec.ofInt 64 ((b*2^8:Nat):Int)).toNat)|||BitVec.ofInt 64 ((c*2^16:Nat):Int)).toNat=_
 rw[or64 (by omega) (by omega),zcN (x:=((b*2^8+a:Nat):Int)) (by unfold In64;omega),or64 (by omega) (by omega),zcN (by unfold In64;omega)]
 omega
def zg1(s:ByteArray)(n:Nat):List (Int×Int):=(List.range n).map fun q=>((zaG s (4+2*q):Int),(zaG s (5+2*q):Int))
theorem zmI{s:ByteArray}{n:Nat}:zg1 s (n+1)=zg1 s n++[((zaG s (4+2*n):Int),(zaG s (5+2*n):Int))]:=by
 unfold zg1;rw[List.range_succ,List.map_append];rfl
theorem zml{s:ByteArray}{n:Nat}:(zg1 s n).length=n:=by simp [zg1]
def sseq(s:ByteArray):Int:=zaG s 1+256*zaG s 2+65536*zaG s 3
def snum(s:ByteArray):Nat:=(s.size-4) / 2
def zh9(s:ByteArray):Bool:=decide (4<=s.size)&&decide (s.size%2=0)&&decide (zaK (zaG s 0) (sseq s) (zg1 s (snum s))=0)
theorem zeE{s:ByteArray}:zh9 s=true↔4<=s.size/\s.size%2=0/\zaK (zaG s 0) (sseq s) (zg1 s (snum s))=0:=by simp [zh9,and_assoc]
def zaf(s:ByteArray):Int:=if zh9 s then zaG s 0 else 0
def sid(s:ByteArray):Int:=if zh9 s then sseq s else 0
def sopt(s:ByteArray):List (Int×Int):=if zh9 s then zg1 s (snum s) else []
def serr(s:ByteArray):Int:=if zh9 s then 0 else 4
theorem zeB(s:ByteArray)(hs:s.size<=1000):Fn Tryz.prog 103 [.v (.string s)] [] (.tup [.agg [.v (.int .i64 (zaf s)),.v (.int .i64 (sid s)),.sl 2 ((sopt s).map opRow) none],.err (serr s)]) []:=by
 have b0:=zap s 0
 have b1:=zap s 1
 have b2:=zap s 2
 have b3:=zap s 3
 have hn:snum s=(s.size-4) / 2:=rfl
 have hsq:=seq_or b1 b2 b3
 have tm:(s.size:Int).tmod 2=(s.size:Int)%2:=Int.tmod_eq_emod_of_nonneg (by omega)
 refine foA zaA [] [] Tryz.func103 Tryz.ntmps103 Tryz.results103 ?_
 (all_goals refine gv ?_;repeat' first|exact .intro|refine Tw.mk ?_ ?_|(intro h;first|replace h:=h.o|cases h))
 all_goals (try ((with_reducible refine Vc.mk ?_);(try exact GLt)))
 all_goals (try
  (
   have hb: ¬zh9 s=true:=fun h'=>by have:=zeE.1 h';omega
   ((try (conv=>whnf));refine StopRet.by [] ?_;repeat' first|exact .intro|refine Tw.mk ?_ ?_);all_goals simp [zaf,sid,sopt,serr,hb]))
 refine lpG (fun k:Nat=>⟨[(0,.v (.string s)),(2,.box 0 0),(4,.box 1 0),(5,.v (.int .i64 (4+2*(k:Int))))],[.cells [.any,.any,.any],.cells [.v (.int .i64 (zaG s 0)),.v (.int .i64 (sseq s)),.sl 2 ((zg1 s k).map opRow) (some (2,1))],.grow 57 2 1]⟩) (fun k=>k<=snum s) (fun k=>snum s-k) 0 (by omega) ?_ ?_
 ·refine AS.le_trans (ziB 1 2 57 2 _ rfl rfl) ?_
  (refine zgn [0,1,2] rfl rfl ?_ ?_)
  all_goals ((all_goals refine gr ?_;repeat' first|exact .intro|refine Tw.mk ?_ ?_);all_goals (try (first|(simp only[wrap_byte,Int.reduceToNat];done)|(simp only[wrap_byte,Int.reduceToNat];exact hsq)|(simp [zg1];done))))
 intro k hk
 have hlen:=zml (s:=s) (n:=k)
 have e1:(4+2*(k:Int)).toNat=4+2*k:=by omega
 have e2:(4+2*(k:Int)+1).toNat=5+2*k:=by omega
 (all_goals refine gv ?_;repeat' first|exact .intro|refine Tw.mk ?_ ?_|(intro h;first|replace h:=h.o|cases h))
 all_goals (try omega)
 all_goals (try ((with_reducible refine Vc.mk ?_);(try exact GLt)))
 ·refine zaS (k+1) (by omega) (by omega) (by (refine zaD [0,1,2] ?_;repeat' first|exact .intro|refine Tw.mk ?_ ?_);all_goals (all_goals (try (rw[zmI];simp [opRow,wrap_byte,viewR,viewL,AV.view,e1,e2]))))
 have e:k=snum s:=by omega
 subst e
 (refine⟨_,_,_,_,[],zdI (zaG s 0) (sseq s) (zg1 s (snum s)),rfl,rfl,rfl,?_,?_,?_⟩)
 ·exact Y3
 ·exact Y3
 (all_goals refine gv ?_;repeat' first|exact .intro|refine Tw.mk ?_ ?_|(intro h;first|replace h:=h.o|cases h))
 all_goals (try ((with_reducible refine Vc.mk ?_);(try exact GLt)))
 ·have hb: ¬zh9 s=true:=fun h'=>by have:=zeE.1 h';omega
  exact Y96
 ·have hb:zh9 s=true:=zeE.2 ⟨by omega,by omega,by omega⟩
  exact Y96
end Go.Proofs.YtimfnpjcedjmiadGreat
namespace Go.Proofs.YtimfnpjcedjmiadGreat
open Go.RowKit
end Go.Proofs.YtimfnpjcedjmiadGreat
namespace Go.Proofs.YtimfnpjcedjmiadGreat
open Go.RowKit
theorem zj8(rows:List (List AV))(hl:rows.length<=1000000):Fn Tryz.prog 67 [.sl 2 rows none] [] (.sl 2 rows none) []:=by
 refine foA zaA [] [] Tryz.func67 Tryz.ntmps67 Tryz.results67 ?_
 (all_goals refine gv ?_;repeat' first|exact .intro|refine Tw.mk ?_ ?_|(intro h;first|replace h:=h.o|cases h))
 all_goals exact Y86
theorem zbD(o q:Int)(rows:List (List AV))(hl:rows.length<=1000000):Fn Tryz.prog 47 [.agg [.v (.int .i64 o),.v (.int .i64 q),.sl 2 rows none]] [] (.agg [.v (.int .i64 o),.v (.int .i64 q),.sl 2 rows none]) []:=by
 refine foA zaA [] [] Tryz.func47 Tryz.ntmps47 Tryz.results47 ?_
 (all_goals refine gv ?_;repeat' first|exact .intro|refine Tw.mk ?_ ?_|(intro h;first|replace h:=h.o|cases h))
 (all_goals (try ((first|refine StopCall.by0 (zj8 rows hl) ?_|refine StopPure.by0 (zj8 rows hl) ?_);(all_goals refine gv ?_;repeat' first|exact .intro|refine Tw.mk ?_ ?_|(intro h;first|replace h:=h.o|cases h)))))
 all_goals exact Y13
end Go.Proofs.YtimfnpjcedjmiadGreat
namespace Go.Proofs.YtimfnpjcedjmiadGreat
open Go.RowKit
def cmpI(a b:Int):Int:=if a<b then -1 else if b<a then 1 else 0
theorem zfj(a:Int):Fn Tryz.prog 119 [.v (.int .i64 a)] [] (.v (.bool false)) []:=by
 refine foA zaA [] [] Tryz.func119 Tryz.ntmps119 Tryz.results119 ?_
 (all_goals refine gv ?_;repeat' first|exact .intro|refine Tw.mk ?_ ?_|(intro h;first|replace h:=h.o|cases h))
 all_goals (((try (conv=>whnf));refine StopRet.by [] ?_;repeat' first|exact .intro|refine Tw.mk ?_ ?_);all_goals simp)
theorem zen(a b:Int):Fn Tryz.prog 115 [.v (.int .i64 a),.v (.int .i64 b)] [] (.v (.int .i64 (cmpI a b))) []:=by
 refine foA zaA [] [] Tryz.func115 Tryz.ntmps115 Tryz.results115 ?_
 (all_goals refine gv ?_;repeat' first|exact .intro|refine Tw.mk ?_ ?_|(intro h;first|replace h:=h.o|cases h))
 (all_goals (try ((first|refine StopCall.by0 (zfj a) ?_|refine StopPure.by0 (zfj a) ?_);(all_goals refine gv ?_;repeat' first|exact .intro|refine Tw.mk ?_ ?_|(intro h;first|replace h:=h.o|cases h)))))
 (all_goals (try ((first|refine StopCall.by0 (zfj b) ?_|refine StopPure.by0 (zfj b) ?_);(all_goals refine gv ?_;repeat' first|exact .intro|refine Tw.mk ?_ ?_|(intro h;first|replace h:=h.o|cases h)))))
 all_goals (((try (conv=>whnf));refine StopRet.by [] ?_;repeat' first|exact .intro|refine Tw.mk ?_ ?_);all_goals (unfold cmpI;(repeat' split)<;>first|rfl|omega))
def orL:List Int->Int
 |[]=>0
 |x::r=>if x≠0 then x else orL r
theorem orL_ok(l:List Int)(hl:l.length<=1000000):Fn Tryz.prog 114 [.sl 1 (l.map iRow) none] [] (.v (.int .i64 (orL l))) []:=by
 refine foA zaA [] [] Tryz.func114 Tryz.ntmps114 Tryz.results114 ?_
 (all_goals refine gv ?_;repeat' first|exact .intro|refine Tw.mk ?_ ?_|(intro h;first|replace h:=h.o|cases h))
 refine lpG (fun k:Nat=>⟨[(3,.v (.int .i64 0)),(6,.sl 1 (l.map iRow) none),(7,.v (.int .i64 l.length)),(8,.v (.int .i64 k))],[]⟩) (fun k=>k<=l.length/\orL l=orL (l.drop k)) (fun k=>l.length-k) 0 ⟨by omega,rfl⟩ (by (refine zaD [] ?_;repeat' first|exact .intro|refine Tw.mk ?_ ?_);all_goals (all_goals (try simp))) ?_
 rintro k ⟨hk,hq⟩
 (all_goals refine gv ?_;repeat' first|exact .intro|refine Tw.mk ?_ ?_|(intro h;first|replace h:=h.o|cases h))
 all_goals (try omega)
 all_goals (try ((with_reducible refine Vc.mk ?_);(try exact GLt)))
 ·have hk':k<l.length:=by omega
  rw[zaX hk'] at hq
  ((try (conv=>whnf));refine⟨[],rfl,rfl,?_,?_⟩)
  ·exact Y3
  ·(all_goals refine gr ?_;repeat' first|exact .intro|refine Tw.mk ?_ ?_)
   all_goals (rw[hq];simp [orL,h])
 ·have hk':k<l.length:=by omega
  rw[zaX hk'] at hq
  refine zaS (k+1) ⟨by omega,by rw[hq];simp [orL,h]⟩ (by omega) (by (refine zaD [] ?_;repeat' first|exact .intro|refine Tw.mk ?_ ?_))
 ·have e:k=l.length:=by omega
  subst e
  rw[List.drop_length] at hq
  ((try (conv=>whnf));refine⟨[],rfl,rfl,?_,?_⟩)
  ·exact Y3
  ·(all_goals refine gr ?_;repeat' first|exact .intro|refine Tw.mk ?_ ?_)
   all_goals exact hq.symm
theorem zpE(a b c d:Int):Fn Tryz.prog 117 [.agg [.v (.int .i64 a),.v (.int .i64 b)],.agg [.v (.int .i64 c),.v (.int .i64 d)]] [] (.v (.int .i64 (orL [cmpI a c,cmpI b d]))) []:=by
 refine foA zaA [] [] Tryz.func117 Tryz.ntmps117 Tryz.results117 ?_
 (all_goals refine gv ?_;repeat' first|exact .intro|refine Tw.mk ?_ ?_|(intro h;first|replace h:=h.o|cases h))
 (all_goals (try ((first|refine StopCall.by0 (zen a c) ?_|refine StopPure.by0 (zen a c) ?_);(all_goals refine gv ?_;repeat' first|exact .intro|refine Tw.mk ?_ ?_|(intro h;first|replace h:=h.o|cases h)))))
 (all_goals (try ((first|refine StopCall.by0 (zen b d) ?_|refine StopPure.by0 (zen b d) ?_);(all_goals refine gv ?_;repeat' first|exact .intro|refine Tw.mk ?_ ?_|(intro h;first|replace h:=h.o|cases h)))))
 have ho:=orL_ok [cmpI a c,cmpI b d] (by simp)
 first
  |((refine⟨_,_,_,_,[],ho,rfl,rfl,rfl,?_,?_,?_⟩))
  |(refine StopPure.mk _ _ ho rfl ?_ ?_)
 all_goals (try ((all_goals refine gr ?_;repeat' first|exact .intro|refine Tw.mk ?_ ?_);done))
 (all_goals refine gv ?_;repeat' first|exact .intro|refine Tw.mk ?_ ?_|(intro h;first|replace h:=h.o|cases h))
 ((try (conv=>whnf));refine StopRet.by [] ?_;repeat' first|exact .intro|refine Tw.mk ?_ ?_)
end Go.Proofs.YtimfnpjcedjmiadGreat
namespace Go.Proofs.YtimfnpjcedjmiadGreat
open Go.RowKit
def cmpE:List (Int×Int)->List (Int×Int)->Int
 |[],[]=>0
 |[],_::_=> -1
 |_::_,[]=>1
 |x::la,y::lb=>if orL [cmpI x.1 y.1,cmpI x.2 y.2]≠0 then orL [cmpI x.1 y.1,cmpI x.2 y.2] else cmpE la lb
theorem zgJ(la lb:List (Int×Int))(ha:la.length<=1000000)(hb:lb.length<=1000000):Fn Tryz.prog 116 [.sl 2 (la.map opRow) none,.sl 2 (lb.map opRow) none,.clo 117 []] [] (.v (.int .i64 (cmpE la lb))) []:=by
 refine foA zaA [] [] Tryz.func116 Tryz.ntmps116 Tryz.results116 ?_
 (all_goals refine gv ?_;repeat' first|exact .intro|refine Tw.mk ?_ ?_|(intro h;first|replace h:=h.o|cases h))
 refine lpG (fun k:Nat=>⟨[(0,.sl 2 (la.map opRow) none),(1,.sl 2 (lb.map opRow) none),(2,.clo 117 []),(11,.sl 2 (la.map opRow) none),(12,.v (.int .i64 la.length)),(13,.v (.int .i64 k))],[]⟩) (fun k=>k<=la.length/\k<=lb.length/\cmpE la lb=cmpE (la.drop k) (lb.drop k)) (fun k=>la.length-k) 0 ⟨by omega,by omega,rfl⟩ (by (refine zaD [] ?_;repeat' first|exact .intro|refine Tw.mk ?_ ?_);all_goals (all_goals (try simp))) ?_
 rintro k ⟨hk,hk2,hq⟩
 (all_goals refine gv ?_;repeat' first|exact .intro|refine Tw.mk ?_ ?_|(intro h;first|replace h:=h.o|cases h))
 all_goals (try omega)
 all_goals (try ((with_reducible refine Vc.mk ?_);(try exact GLt)))
 ·rw[zaX (l:=la) (by omega),zfm (l:=lb) (by omega)] at hq
  exact Y75
 ·have h1:k<la.length:=by omega
  have h2:k<lb.length:=by omega
  rw[zaX h1,zaX h2] at hq
  refine zmL (zpE la[k].1 la[k].2 lb[k].1 lb[k].2) ?_ ?_
  ·exact Y3
  (all_goals refine gv ?_;repeat' first|exact .intro|refine Tw.mk ?_ ?_|(intro h;first|replace h:=h.o|cases h))
  all_goals (try ((with_reducible refine Vc.mk ?_);(try exact GLt)))
  ·((try (conv=>whnf));refine StopRet.by [] ?_;repeat' first|exact .intro|refine Tw.mk ?_ ?_)
   all_goals (rw[hq];unfold cmpE;rw[if_pos h])
  ·refine zaS (k+1) ⟨by omega,by omega,?_⟩ (by omega) (by (refine zaD [] ?_;repeat' first|exact .intro|refine Tw.mk ?_ ?_))
   rw[hq]
   conv=>lhs;unfold cmpE
   rw[if_neg (by rw[h];simp)]
 ·rw[zfm (l:=la) (by omega),zaX (l:=lb) (by omega)] at hq
  exact Y75
 ·rw[zfm (l:=la) (by omega),zfm (l:=lb) (by omega)] at hq
  exact Y75
end Go.Proofs.YtimfnpjcedjmiadGreat
namespace Go.Proofs.YtimfnpjcedjmiadGreat
open Go.RowKit
theorem zaq(o q p r:Int)(la lb:List (Int×Int))(ha:la.length<=1000000)(hb:lb.length<=1000000):Fn Tryz.prog 104 [.agg [.v (.int .i64 o),.v (.int .i64 q),.sl 2 (la.map opRow) none],.agg [.v (.int .i64 p),.v (.int .i64 r),.sl 2 (lb.map opRow) none]] [] (.v (.int .i64 (orL [cmpI q r,cmpE la lb]))) []:=by
 refine foA zaA [] [] Tryz.func104 Tryz.ntmps104 Tryz.results104 ?_
 (all_goals refine gv ?_;repeat' first|exact .intro|refine Tw.mk ?_ ?_|(intro h;first|replace h:=h.o|cases h))
 (all_goals (try ((first|refine StopCall.by0 (zen q r) ?_|refine StopPure.by0 (zen q r) ?_);(all_goals refine gv ?_;repeat' first|exact .intro|refine Tw.mk ?_ ?_|(intro h;first|replace h:=h.o|cases h)))))
 (all_goals (try ((first|refine StopCall.by0 (zgJ la lb ha hb) ?_|refine StopPure.by0 (zgJ la lb ha hb) ?_);(all_goals refine gv ?_;repeat' first|exact .intro|refine Tw.mk ?_ ?_|(intro h;first|replace h:=h.o|cases h)))))
 have ho:=orL_ok [cmpI q r,cmpE la lb] (by simp)
 first
  |((refine⟨_,_,_,_,[],ho,rfl,rfl,rfl,?_,?_,?_⟩))
  |(refine StopPure.mk _ _ ho rfl ?_ ?_)
 all_goals (try ((all_goals refine gr ?_;repeat' first|exact .intro|refine Tw.mk ?_ ?_);done))
 (all_goals refine gv ?_;repeat' first|exact .intro|refine Tw.mk ?_ ?_|(intro h;first|replace h:=h.o|cases h))
 ((try (conv=>whnf));refine StopRet.by [] ?_;repeat' first|exact .intro|refine Tw.mk ?_ ?_)
end Go.Proofs.YtimfnpjcedjmiadGreat
namespace Go.Proofs.YtimfnpjcedjmiadGreat
open Go.RowKit
theorem orL2(a b:Int):orL [a,b]=if a≠0 then a else b:=by
 simp only[orL]
 by_cases h:a=0
 ·subst h;simp;intro h;exact h.symm
 ·simp [h]
end Go.Proofs.YtimfnpjcedjmiadGreat
namespace Go.Proofs.YtimfnpjcedjmiadGreat
open Go.RowKit
theorem zgb{o:Int}: ∀(p:Int) (l:List (Int×Int)),zby o p l=0-> ∀e∈l,1<=e.1/\e.1<=6/\1<=e.2/\e.2<=20
 |p,[],h=>by simp
 |p,e::r,h=>by
  unfold zby at h
  split at h
  ·omega
  ·rename_i hb
   split at h
   ·omega
   ·intro x hx
    rcases List.mem_cons.1 hx with rfl|hx
    ·simp only[ze3,Bool.or_eq_true,decide_eq_true_eq] at hb;omega
    ·exact zgb _ r h x hx
theorem zaM{o q:Int}{l:List (Int×Int)}(h:zaK o q l=0):1<=o/\o<=6/\1<=q/\q<=1000000/\l.length<=6/\ ∀e∈l,1<=e.1/\e.1<=6/\1<=e.2/\e.2<=20:=by
 unfold zaK at h
 split at h
 ·omega
 ·split at h
  ·omega
  ·exact⟨by omega,by omega,by omega,by omega,by omega,zgb _ _ h⟩
def cmp1(x y:Int×Int):Int:=orL [cmpI x.1 y.1,cmpI x.2 y.2]
def nw(q r:Int)(la lb:List (Int×Int)):Int:=orL [cmpI q r,cmpE la lb]
theorem zlU{x y:Int×Int}{la lb:List (Int×Int)}:cmpE (x::la) (y::lb)=if cmp1 x y≠0 then cmp1 x y else cmpE la lb:=rfl
theorem nw_eq(q r:Int)(la lb:List (Int×Int)):nw q r la lb=if cmpI q r≠0 then cmpI q r else cmpE la lb:=orL2 _ _
theorem zex(a b:Int): -1<=cmpI a b/\cmpI a b<=1:=by unfold cmpI;(repeat' split)<;>omega
theorem zhY: ∀(la lb:List (Int×Int)),-1<=cmpE la lb/\cmpE la lb<=1
 |[],[]=>by simp [cmpE]
 |[],_::_=>by simp [cmpE]
 |_::_,[]=>by simp [cmpE]
 |x::la,y::lb=>by
  have h1:=zex x.1 y.1
  have h2:=zex x.2 y.2
  have ih:=zhY la lb
  rw[zlU]
  unfold cmp1
  rw[orL2]
  (repeat' split)<;>omega
theorem nw_range(q r:Int)(la lb:List (Int×Int)): -1<=nw q r la lb/\nw q r la lb<=1:=by
 have h1:=zex q r
 have h2:=zhY la lb
 rw[nw_eq]
 split<;>omega
end Go.Proofs.YtimfnpjcedjmiadGreat
namespace Go.Proofs.YtimfnpjcedjmiadGreat
def upI{α:Type}(f:Int->α)(a:Int)(x:α):Int->α:=fun n=>if n=a then x else f n
theorem upI_self{α:Type}{f:Int->α}{a:Int}{x:α}:upI f a x a=x:=if_pos rfl
theorem upI_ne{α:Type}{f:Int->α}{a n:Int}{x:α}(h:n≠a):upI f a x n=f n:=if_neg h
structure Ba where
 kn:Int->Option St3
 ow:List (Int->Bool)
def sf(s:St3):Int:=zaK s.1 s.2.1 s.2.2
def nws(s t:St3):Int:=nw s.2.1 t.2.1 s.2.2 t.2.2
def modW:List (Int->Bool)->Int->((Int->Bool)->Int->Bool)->List (Int->Bool)
 |[],_,_=>[]
 |o::r,p,F=>(if p=0 then F o else o)::modW r (p-1) F
def getW:List (Int->Bool)->Int->Int->Bool
 |[],_,_=>false
 |o::r,p,n=>if p=0 then o n else getW r (p-1) n
def aO(o:Int->Bool)(i n but:Int):Int->Bool:=if i=but then o else upI o n true
def allW:List (Int->Bool)->Int->Int->Int->List (Int->Bool)
 |[],_,_,_=>[]
 |o::r,i,n,but=>aO o i n but::allW r (i+1) n but
def inP(b:Ba)(p:Int):Bool:=decide (0<=p)&&decide (p<b.ow.length)
def stsB(b:Ba):List St3:=[1,2,3,4,5,6].filterMap b.kn
def owdB(b:Ba)(p:Int):List St3:=(stsB b).filter fun s=>getW b.ow p s.1
def setB(b:Ba)(s:St3):Ba:=if sf s=0 then ⟨upI b.kn s.1 (some s),allW b.ow 0 s.1 (-1)⟩ else b
def takK(b:Ba)(s:St3):Int:=match b.kn s.1 with
 |some t=>nws s t
 |none=>1
def zbn(b:Ba)(p:Int)(s:St3):Ba:=
 if inP b p=true/\sf s=0 then
  (if takK b s=1 then ⟨upI b.kn s.1 (some s),modW (allW b.ow 0 s.1 p) p fun o=>upI o s.1 false⟩
  else if takK b s=0 then ⟨b.kn,modW b.ow p fun o=>upI o s.1 false⟩
  else ⟨b.kn,modW b.ow p fun o=>upI o s.1 true⟩)
 else b
def zau(b:Ba)(p:Int)(s:St3):Int:=if inP b p=true then sf s else 1
def zcd(b:Ba)(p:Int)(s:St3):Int:=if inP b p=true/\sf s=0 then takK b s else 0
def hrK(b:Ba)(s:St3):Int:=match b.kn s.1 with
 |some t=>nws t s
 |none=> -1
def hrdB(b:Ba)(p:Int)(s:St3):Ba:=if inP b p=true/\sf s=0/\hrK b s<=0 then ⟨b.kn,modW b.ow p fun o=>upI o s.1 false⟩ else b
def metB(b:Ba)(p:Int):Ba:=if inP b p=true then ⟨b.kn,modW b.ow p fun o n=>o n||(b.kn n).isSome⟩ else b
def metE(b:Ba)(p:Int):Int:=if inP b p=true then 0 else 1
def parB(b:Ba)(p:Int):Ba:=if inP b p=true then ⟨b.kn,modW b.ow p fun _ _=>false⟩ else b
def newB(n:Nat):Ba:=⟨fun _=>none,List.replicate n fun _=>false⟩
structure Ba.ok (b:Ba):Prop where
 kn: ∀n s,b.kn n=some s->s.1=n/\sf s=0
 n1:1<=b.ow.length
 n3:b.ow.length<=3
def allK:List (Int->Bool)->Int->Int->Int->Nat->List (Int->Bool)
 |[],_,_,_,_=>[]
 |o::r,_,_,_,0=>o::r
 |o::r,i,n,but,k+1=>aO o i n but::allK r (i+1) n but k
theorem zfC{o:Int->Bool}{i n but:Int}(h:i=but):aO o i n but=o:=if_pos h
theorem zdT{o:Int->Bool}{i n but:Int}(h: ¬i=but):aO o i n but=upI o n true:=if_neg h
theorem zeF: ∀{l:List (Int->Bool)} {p:Int} {F:(Int->Bool)->Int->Bool},(modW l p F).length=l.length
 |[],p,F=>rfl
 |o::r,p,F=>by simp [modW,zeF]
theorem zec: ∀{l:List (Int->Bool)} {i n b:Int},(allW l i n b).length=l.length
 |[],i,n,b=>rfl
 |o::r,i,n,b=>by simp [allW,zec]
theorem Ba.ok.range{b:Ba}(h:b.ok){n:Int}{s:St3}(hs:b.kn n=some s):1<=n/\n<=6:=by
 obtain⟨h1,h2⟩:=h.kn n s hs
 have:=zaM h2
 omega
theorem kn_upd{kn:Int->Option St3}{s:St3}(h: ∀n t,kn n=some t->t.1=n/\sf t=0)(hs:sf s=0): ∀n t,upI kn s.1 (some s) n=some t->t.1=n/\sf t=0:=by
 intro n t ht
 unfold upI at ht
 split at ht
 ·rename_i e
  obtain rfl:=Option.some.inj ht
  exact⟨e.symm,hs⟩
 ·exact h n t ht
theorem zeg{b:Ba}(h:b.ok)(s:St3):(setB b s).ok:=by
 unfold setB
 split
 ·exact⟨kn_upd h.kn (by assumption),by rw[zec];exact h.n1,by rw[zec];exact h.n3⟩
 ·exact h
theorem zfl{b:Ba}(h:b.ok)(p:Int)(s:St3):(zbn b p s).ok:=by
 unfold zbn
 split
 ·rename_i hc
  split
  ·exact⟨kn_upd h.kn hc.2,by rw[zeF,zec];exact h.n1,by rw[zeF,zec];exact h.n3⟩
  ·split
   ·exact Y61
   ·exact Y61
 ·exact h
theorem zkF{b:Ba}(h:b.ok)(p:Int)(s:St3):(hrdB b p s).ok:=by
 unfold hrdB
 split
 ·exact Y61
 ·exact h
theorem zk1{b:Ba}(h:b.ok)(p:Int):(metB b p).ok:=by
 unfold metB
 split
 ·exact Y61
 ·exact h
theorem zfF{b:Ba}(h:b.ok)(p:Int):(parB b p).ok:=by
 unfold parB
 split
 ·exact Y61
 ·exact h
theorem zmt{n:Nat}(h1:1<=n)(h3:n<=3):(newB n).ok:=⟨fun _ _ h=>(by cases h),by simpa[newB] using h1,by simpa[newB] using h3⟩
theorem stsB_len{b:Ba}:(stsB b).length<=6:=by
 unfold stsB
 exact Nat.le_trans (List.length_filterMap_le ..) (Nat.le_refl _)
theorem stsB_mem{b:Ba}(h:b.ok): ∀s∈stsB b,sf s=0/\b.kn s.1=some s:=by
 intro s hs
 obtain⟨n,_,hn⟩:=List.mem_filterMap.1 hs
 obtain⟨h1,h2⟩:=h.kn n s hn
 rw[h1]
 exact⟨h2,hn⟩
end Go.Proofs.YtimfnpjcedjmiadGreat
namespace Go.Proofs.YtimfnpjcedjmiadGreat
open Go.RowKit
def zcp(n:Int):List Hp->Nat->Int
 |[],_=> -1
 |h::r,k=>if h.1=n then k else zcp n r (k+1)
def toH(n:Int):List Hp->Option Hp
 |[]=>none
 |h::r=>if h.1=n then some h else toH n r
def toV(n:Int)(l:List Hp):Hp:=(toH n l).getD (0,0,0)
theorem zgY{n:Int}: ∀{l:List Hp} {k:Nat},toH n l=none->zcp n l k= -1
 |[],k,h=>rfl
 |x::r,k,h=>by
  unfold toH at h
  split at h
  ·cases h
  ·rename_i g;unfold zcp;rw[if_neg g];exact zgY h
theorem zgf{n:Int}: ∀{l:List Hp} {k:Nat} {x:Hp},toH n l=some x-> ∃i:Nat,zcp n l k=((k+i:Nat):Int)/\l[i]? =some x
 |[],k,x,h=>by cases h
 |y::r,k,x,h=>by
  unfold toH at h
  split at h
  ·rename_i g;unfold zcp;rw[if_pos g];exact⟨0,by simp,by simpa using h⟩
  ·rename_i g
   unfold zcp;rw[if_neg g]
   obtain⟨i,h1,h2⟩:=zgf (k:=k+1) h
   exact⟨i+1,by rw[h1];congr 1;omega,by simpa using h2⟩
theorem toF_ok(a b c n:Int):Fn Tryz.prog 108 [.agg [.v (.int .i64 a),.v (.int .i64 b),.v (.int .i64 c)],.box 0 0] [.cells [.v (.int .i64 n)]] (.v (.bool (a==n))) [.cells [.v (.int .i64 n)]]:=by
 refine foA zaA [] [] Tryz.func108 Tryz.ntmps108 Tryz.results108 ?_
 (all_goals refine gv ?_;repeat' first|exact .intro|refine Tw.mk ?_ ?_|(intro h;first|replace h:=h.o|cases h))
 all_goals (((try (conv=>whnf));refine StopRet.by [0] ?_;repeat' first|exact .intro|refine Tw.mk ?_ ?_))
theorem zmi(l:List Hp)(n:Int)(hl:l.length<=1000000):Fn Tryz.prog 107 [.sl 3 (l.map hRow) none,.clo 108 [.box 0 0]] [.cells [.v (.int .i64 n)]] (.v (.int .i64 (zcp n l 0))) [.cells [.v (.int .i64 n)]]:=by
 refine foA zaA [] [] Tryz.func107 Tryz.ntmps107 Tryz.results107 ?_
 (all_goals refine gv ?_;repeat' first|exact .intro|refine Tw.mk ?_ ?_|(intro h;first|replace h:=h.o|cases h))
 refine lpG (fun k:Nat=>⟨[(0,.sl 3 (l.map hRow) none),(1,.clo 108 [.box 0 0]),(7,.v (.int .i64 l.length)),(8,.v (.int .i64 k))],[.cells [.v (.int .i64 n)]]⟩) (fun k=>k<=l.length/\zcp n l 0=zcp n (l.drop k) k) (fun k=>l.length-k) 0 ⟨by omega,rfl⟩ (by (refine zaD [0] ?_;repeat' first|exact .intro|refine Tw.mk ?_ ?_);all_goals (all_goals (try simp))) ?_
 rintro k ⟨hk,hp⟩
 (all_goals refine gv ?_;repeat' first|exact .intro|refine Tw.mk ?_ ?_|(intro h;first|replace h:=h.o|cases h))
 all_goals (try omega)
 ·have hk':k<l.length:=by omega
  (refine⟨_,_,_,_,[0],toF_ok l[k].1 l[k].2.1 l[k].2.2 n,rfl,rfl,rfl,?_,?_,?_⟩)
  ·exact Y3
  ·exact Y3
  (all_goals refine gv ?_;repeat' first|exact .intro|refine Tw.mk ?_ ?_|(intro h;first|replace h:=h.o|cases h))
  all_goals (try ((with_reducible refine Vc.mk ?_);(try exact GLt)))
  ·((try (conv=>whnf));refine StopRet.by [0] ?_;repeat' first|exact .intro|refine Tw.mk ?_ ?_)
   rw[hp,zaX (by omega)]
   simp [zcp,h]
  ·refine zaS (k+1) ⟨by omega,?_⟩ (by omega) (by (refine zaD [0] ?_;repeat' first|exact .intro|refine Tw.mk ?_ ?_))
   rw[hp,zaX (by omega)]
   simp [zcp,h]
 ·have e:k=l.length:=by omega
  subst e
  ((try (conv=>whnf));refine StopRet.by [0] ?_;repeat' first|exact .intro|refine Tw.mk ?_ ?_)
  rw[hp]
  simp [zcp]
theorem to_ok(l:List Hp)(n:Int)(hl:l.length<=1000000):Fn Tryz.prog 88 [.sl 3 (l.map hRow) none,.v (.int .i64 n)] [] (.tup [.agg [.v (.int .i64 (toV n l).1),.v (.int .i64 (toV n l).2.1),.v (.int .i64 (toV n l).2.2)],.v (.bool (toH n l).isSome)]) []:=by
 have hi:=zmi l n hl
 cases ht:toH n l with
 |none=>
  rw[zgY ht] at hi
  have hv:toV n l=(0,0,0):=by unfold toV;rw[ht];rfl
  rw[hv]
  refine foA zaA [] [] Tryz.func88 Tryz.ntmps88 Tryz.results88 ?_
  (all_goals refine gv ?_;repeat' first|exact .intro|refine Tw.mk ?_ ?_|(intro h;first|replace h:=h.o|cases h))
  (refine⟨_,_,_,_,[0],hi,rfl,rfl,rfl,?_,?_,?_⟩)
  ·exact Y3
  ·exact Y3
  (all_goals refine gv ?_;repeat' first|exact .intro|refine Tw.mk ?_ ?_|(intro h;first|replace h:=h.o|cases h))
  all_goals (try omega)
  all_goals exact Y13
 |some x=>
  obtain⟨i,h1,h2⟩:=zgf (k:=0) ht
  rw[h1] at hi
  have hv:toV n l=x:=by unfold toV;rw[ht];rfl
  have hil:i<l.length:=(List.getElem?_eq_some_iff.1 h2).1
  have hx:l[i]=x:=by rw[List.getElem?_eq_getElem hil] at h2;exact Option.some.inj h2
  rw[hv]
  rw[Nat.zero_add] at hi
  refine foA zaA [] [] Tryz.func88 Tryz.ntmps88 Tryz.results88 ?_
  (all_goals refine gv ?_;repeat' first|exact .intro|refine Tw.mk ?_ ?_|(intro h;first|replace h:=h.o|cases h))
  (refine⟨_,_,_,_,[0],hi,rfl,rfl,rfl,?_,?_,?_⟩)
  ·exact Y3
  ·exact Y3
  (all_goals refine gv ?_;repeat' first|exact .intro|refine Tw.mk ?_ ?_|(intro h;first|replace h:=h.o|cases h))
  all_goals (try omega)
  all_goals (((try (conv=>whnf));refine StopRet.by [] ?_;repeat' first|exact .intro|refine Tw.mk ?_ ?_))
  all_goals (try (rw[hx]))
theorem zji(la lb:List Hp)(ha:la.length<=1000000):Fn Tryz.prog 25 [.sl 3 (la.map hRow) none,.sl 3 (lb.map hRow) none] [] (.v (.bool (decide (la=lb)))) []:=by
 refine foA zaA [] [] Tryz.func25 Tryz.ntmps25 Tryz.results25 ?_
 (all_goals refine gv ?_;repeat' first|exact .intro|refine Tw.mk ?_ ?_|(intro h;first|replace h:=h.o|cases h))
 ·exact Y62
 refine lpG (fun k:Nat=>⟨[(0,.sl 3 (la.map hRow) none),(1,.sl 3 (lb.map hRow) none),(5,.v (.int .i64 k))],[]⟩) (fun k=>k<=la.length/\ ∀i,i<k->la[i]? =lb[i]?) (fun k=>la.length-k) 0 ⟨by omega,fun i h=>by omega⟩ (by (refine zaD [] ?_;repeat' first|exact .intro|refine Tw.mk ?_ ?_)) ?_
 rintro k ⟨hk,hp⟩
 ((all_goals (try (repeat' (conv=>whnf);(first|with_reducible refine And.intro ?_ ?_|with_reducible exact True.intro|(intro h;(first|cases h|((try simp only[vis,Int.reduceToNat] at h);(try (exfalso;omega)))))|(with_reducible refine Vc.mk ?_;fail)|(with_reducible refine cutG ?_;fail)|refine zaj ?_ ?_|refine za6 ?_ ?_ ?_|(refine ne_hop ?_)))));(all_goals (first|omega|(conv=>whnf)|skip)))
 all_goals (try omega)
 all_goals (try ((with_reducible refine Vc.mk ?_);(try exact GLt)))
 ·exact Y60
 ·refine zaS (k+1) ⟨by omega,fun i hi=>?_⟩ (by omega) (by (refine zaD [] ?_;repeat' first|exact .intro|refine Tw.mk ?_ ?_))
  by_cases hik:i=k
  ·subst hik
   rw[List.getElem?_eq_getElem (by omega),List.getElem?_eq_getElem (by omega)]
   simp at h
   rw[Prod.ext h.1.1 (Prod.ext h.1.2 h.2)]
  ·exact hp i (by omega)
 ·exact Y41
structure OkL (l:List St3):Prop where
 few:l.length<=6
 good: ∀i (h:i<l.length),zaK l[i].1 l[i].2.1 l[i].2.2=0
 unlike: ∀i (h:i<l.length) k (hk:k<i),¬l[k].1=l[i].1
theorem zhR{o:Int}: ∀{l:List (Int×Int)} {p:Int},p<=6->zby o p l=0->(l.length:Int)<=6-p
 |[],p,hp,h=>by simp;omega
 |e::r,p,hp,h=>by
  unfold zby at h
  split at h
  ·omega
  ·rename_i hb
   split at h
   ·omega
   ·rename_i hc
    simp only[ze3,Bool.or_eq_true,decide_eq_true_eq] at hb
    have ih:=zhR (by omega) h
    simp only[List.length_cons];omega
theorem zhI{o:Int}: ∀{l:List (Int×Int)} {p:Int},zby o p l=0-> ∀e∈l,1<=e.1/\e.1<=6/\1<=e.2/\e.2<=20/\e.1≠o
 |[],p,h=>fun e he=>by cases he
 |e::r,p,h=>by
  unfold zby at h
  split at h
  ·omega
  ·rename_i hb
   split at h
   ·omega
   ·rename_i hc
    simp only[ze3,Bool.or_eq_true,decide_eq_true_eq] at hb
    intro x hx
    rcases List.mem_cons.1 hx with rfl|hx
    ·refine⟨by omega,by omega,by omega,by omega,fun e=>hc (.inl e)⟩
    ·exact zhI h x hx
theorem zfO{o q:Int}{l:List (Int×Int)}(h:zaK o q l=0):l.length<=6/\ ∀e∈l,1<=e.1/\e.1<=6/\1<=e.2/\e.2<=20/\e.1≠o:=by
 unfold zaK at h
 split at h
 ·omega
 ·split at h
  ·omega
  ·exact⟨by have:=zhR (by decide) h;omega,zhI h⟩
theorem OkL.mem{l:List St3}(h:OkL l): ∀s∈l,zaK s.1 s.2.1 s.2.2=0:=by
 intro s hs
 obtain⟨i,hi,rfl⟩:=List.mem_iff_getElem.1 hs
 exact h.good i hi
theorem OkL.small{l:List St3}(h:OkL l):zil l:=⟨by have:=h.few;omega,fun s hs=>by have:=(zfO (h.mem s hs)).1;omega⟩
theorem OkL.metric{l:List St3}(h:OkL l):MOk (met l):=by
 have key: ∀a b,0<=(mL a b l).1/\(mL a b l).1<=20:=by
  intro a b
  have step: ∀(l:List St3) (q:Int×Bool),(∀s∈l,zaK s.1 s.2.1 s.2.2=0)->0<=q.1/\q.1<=20->0<=(l.foldl (mE a b) q).1/\(l.foldl (mE a b) q).1<=20:=by
   intro l
   induction l with
   |nil=>intro q _ hq;exact hq
   |cons s r ih=>
    intro q hs hq
    refine ih _ (fun x hx=>hs x (List.mem_cons_of_mem _ hx)) ?_
    have hg:=(zfO (hs s (List.mem_cons_self ..))).2
    unfold mE
    have inner: ∀(es:List (Int×Int)) (q:Int×Bool),(∀e∈es,1<=e.1/\e.1<=6/\1<=e.2/\e.2<=20/\e.1≠s.1)->0<=q.1/\q.1<=20->0<=(es.foldl (mS a b s.1) q).1/\(es.foldl (mS a b s.1) q).1<=20:=by
     intro es
     induction es with
     |nil=>intro q _ hq;exact hq
     |cons e r ih=>
      intro q he hq
      refine ih _ (fun x hx=>he x (List.mem_cons_of_mem _ hx)) ?_
      have:=he e (List.mem_cons_self ..)
      unfold mS
      dsimp only
      split
      ·omega
      ·exact hq
    exact inner _ _ hg hq
  exact step l _ h.mem ⟨Int.le_refl _,by decide⟩
 refine⟨fun a b=>?_,fun a b=>?_⟩
 all_goals
  have:=key a b
  unfold met
  split
  ·omega
  ·omega
end Go.Proofs.YtimfnpjcedjmiadGreat
