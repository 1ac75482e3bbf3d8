/- Lemmas. -/
import Derived.Test.YtimfnpjcedjmiadGreatK7
import Derived.Test.YtimfnpjcedjmiadGreatK8
set_option maxRecDepth 100000
set_option maxHeartbeats 64000000
set_option linter.all false
namespace Go.Proofs.YtimfnpjcedjmiadGreat
open Go.RowKit
def zdu(a:Int):List (Int×Int)->Nat->Int
 |[],_=> -1
 |o::r,k=>if o.1=a then k else zdu a r (k+1)
theorem zh8{a:Int}: ∀{l:List (Int×Int)} {k:Nat},decide (0<=zdu a l k)=l.any (λo=>o.1==a)
 |[],k=>by simp [zdu]
 |o::r,k=>by
  unfold zdu;by_cases h:o.1=a
  .simp [h]
  .simp [h,zh8 (l:=r)]
def zgU(o:Int×Int):Bool:=decide (o.1<0)||decide (255<o.1)||decide (o.2<0)||decide (255<o.2)
def zdV:List (Int×Int)->List (Int×Int)->Int
 |_,[]=>0
 |p,o::r=>if zgU o then 1 else if p.any (λq=>q.1==o.1) then 3 else zdV (p++[o]) r
def zbN(c i:Int)(l:List (Int×Int)):Int:=
 if c<1\/6<c\/i<0\/255<i then 1 else if 8<l.length then 2 else if 4<c/\0<l.length then 3 else zdV [] l
theorem zeW: ∀(p l:List (Int×Int)),0<=zdV p l
 |p,[]=>by simp [zdV]
 |p,o::r=>by
  unfold zdV;split
  .omega
  .split
   .omega
   .exact zeW _ r
theorem zep(c i:Int)(l:List (Int×Int)):0<=zbN c i l:=by
 have:=zeW [] l;unfold zbN;(repeat' split)<;>omega
theorem zga{l:List (Int×Int)}{k:Nat}(h:k<l.length):zdV (l.take k) (l.drop k)=if zgU l[k] then 1 else if (l.take k).any (λq=>q.1==l[k].1) then 3 else zdV (l.take (k+1)) (l.drop (k+1)):=by
 rw[za1 h,List.take_add_one,List.getElem?_eq_getElem h];rfl
theorem zqL(k n a b:Int):Fn Tryz.prog 110 [.agg [.v (.int .i64 k),.v (.int .i64 n)],.box 0 0] [.cells [.v (.int .i64 a),.v (.int .i64 b)]] (.v (.bool (k==a))) [.cells [.v (.int .i64 a),.v (.int .i64 b)]]:=by
 refine foA zaA [] [] Tryz.func110 Tryz.ntmps110 Tryz.results110 ?_;(all_goals refine gv ?_;repeat' first|exact .intro|refine Tw.mk ?_ ?_|(intro h;first|replace h:=h.o|cases h))
 all_goals (((try (conv=>whnf));refine StopRet.by [0] ?_;repeat' first|exact .intro|refine Tw.mk ?_ ?_))
theorem zp6(l:List (Int×Int))(a b:Int)(hl:l.length<=1000000):Fn Tryz.prog 118 [.sl 2 (l.map opRow) none,.clo 110 [.box 0 0]] [.cells [.v (.int .i64 a),.v (.int .i64 b)]] (.v (.int .i64 (zdu a l 0))) [.cells [.v (.int .i64 a),.v (.int .i64 b)]]:=by
 refine foA zaA [] [] Tryz.func118 Tryz.ntmps118 Tryz.results118 ?_;(all_goals refine gv ?_;repeat' first|exact .intro|refine Tw.mk ?_ ?_|(intro h;first|replace h:=h.o|cases h))
 refine lpG (λk:Nat=>⟨[(0,.sl 2 (l.map opRow) none),(1,.clo 110 [.box 0 0]),(7,.v (.int .i64 l.length)),(8,.v (.int .i64 k))],[.cells [.v (.int .i64 a),.v (.int .i64 b)]]⟩) (λk=>k<=l.length/\zdu a l 0=zdu a (l.drop k) k) (λk=>l.length-k) 0 ⟨by omega,rfl⟩ (by (refine zaC [0] ?_;repeat' first|exact .intro|refine Tw.mk ?_ ?_);all_goals (all_goals (try simp))) ?_;rintro k ⟨hk,hp⟩;(all_goals refine gv ?_;repeat' first|exact .intro|refine Tw.mk ?_ ?_|(intro h;first|replace h:=h.o|cases h))
 all_goals (try omega)
 .have hk':k<l.length:=by omega
  (refine⟨_,_,_,_,[0],zqL l[k].1 l[k].2 a b,rfl,rfl,rfl,?_,?_,?_⟩)
  .exact Y3
  .exact Y3
  (all_goals refine gv ?_;repeat' first|exact .intro|refine Tw.mk ?_ ?_|(intro h;first|replace h:=h.o|cases h))
  all_goals (try ((with_reducible refine Vc.mk ?_);(try exact GLt)))
  ·((try (conv=>whnf));refine StopRet.by [0] ?_;repeat' first|exact .intro|refine Tw.mk ?_ ?_)
   rw[hp,za1 (by omega)];simp [zdu,h]
  .refine zaU (k+1) ⟨by omega,?_⟩ (by omega) (by (refine zaC [0] ?_;repeat' first|exact .intro|refine Tw.mk ?_ ?_));rw[hp,za1 (by omega)];simp [zdu,h]
 .have e:k=l.length:=by omega
  subst e;((try (conv=>whnf));refine StopRet.by [0] ?_;repeat' first|exact .intro|refine Tw.mk ?_ ?_)
  rw[hp];simp [zdu]
theorem zlZ(l:List (Int×Int))(a b:Int)(hl:l.length<=1000000):Fn Tryz.prog 109 [.sl 2 (l.map opRow) none,.clo 110 [.box 0 0]] [.cells [.v (.int .i64 a),.v (.int .i64 b)]] (.v (.bool (l.any (λo=>o.1==a)))) [.cells [.v (.int .i64 a),.v (.int .i64 b)]]:=by
 refine foA zaA [] [] Tryz.func109 Tryz.ntmps109 Tryz.results109 ?_;(all_goals refine gv ?_;repeat' first|exact .intro|refine Tw.mk ?_ ?_|(intro h;first|replace h:=h.o|cases h))
 (refine⟨_,_,_,_,[0],zp6 l a b hl,rfl,rfl,rfl,?_,?_,?_⟩)
 .exact Y3
 .exact Y3
 (all_goals refine gv ?_;repeat' first|exact .intro|refine Tw.mk ?_ ?_|(intro h;first|replace h:=h.o|cases h))
 ((try (conv=>whnf));refine StopRet.by [0] ?_;repeat' first|exact .intro|refine Tw.mk ?_ ?_)
 exact zh8
theorem zho(c i:Int)(l:List (Int×Int)):Fn Tryz.prog 89 [.agg [.v (.int .i64 c),.v (.int .i64 i),.sl 2 (l.map opRow) none]] [] (.err (zbN c i l)) []:=by
 refine foA zaA [] [] Tryz.func89 Tryz.ntmps89 Tryz.results89 ?_;(all_goals refine gv ?_;repeat' first|exact .intro|refine Tw.mk ?_ ?_|(intro h;first|replace h:=h.o|cases h))
 all_goals (try ((with_reducible refine Vc.mk ?_);(try exact GLt)))
 all_goals (try (((try (conv=>whnf));refine StopRet.by [] ?_;repeat' first|exact .intro|refine Tw.mk ?_ ?_);unfold zbN;(repeat' split)<;>first|rfl|omega))
 all_goals
  have hp:zbN c i l=zdV [] l:=by unfold zbN;(repeat' split)<;>first|rfl|omega
  refine lpG (λk:Nat=>⟨[(1,.box 0 0),(40,.sl 2 (l.map opRow) none),(41,.v (.int .i64 l.length)),(42,.v (.int .i64 k))],[.cells [.v (.int .i64 c),.v (.int .i64 i),.sl 2 (l.map opRow) none]]⟩) (λk=>k<=l.length/\zbN c i l=zdV (l.take k) (l.drop k)) (λk=>l.length-k) 0 ⟨by omega,hp⟩ (by (refine zaC [0] ?_;repeat' first|exact .intro|refine Tw.mk ?_ ?_);all_goals (all_goals (try simp))) ?_;rintro k ⟨hk,hq⟩;(all_goals refine gv ?_;repeat' first|exact .intro|refine Tw.mk ?_ ?_|(intro h;first|replace h:=h.o|cases h))
  all_goals (try omega)
  all_goals (try ((with_reducible refine Vc.mk ?_);(try exact GLt)))
  all_goals (try
   (
    have hk':k<l.length:=by omega
    rw[zga hk'] at hq;have hb:zgU l[k]=true:=by simp only[zgU,Bool.or_eq_true,decide_eq_true_eq];omega
    rw[if_pos hb] at hq;((try (conv=>whnf));refine⟨[],rfl,rfl,?_,?_⟩)
    .exact Y3
    ·(all_goals refine gr ?_;repeat' first|exact .intro|refine Tw.mk ?_ ?_);all_goals exact hq.symm))
  all_goals (try
   (
    have e:k=l.length:=by omega
    subst e;rw[List.drop_length] at hq;((try (conv=>whnf));refine⟨[],rfl,rfl,?_,?_⟩)
    .exact Y3
    ·(all_goals refine gr ?_;repeat' first|exact .intro|refine Tw.mk ?_ ?_);all_goals exact hq.symm))
 all_goals
  have hk':k<l.length:=by omega
  have hb: ¬zgU l[k]=true:=by simp only[zgU,Bool.or_eq_true,decide_eq_true_eq];omega
  rw[zga hk',if_neg hb] at hq;(refine⟨_,_,_,_,[1],zlZ (l.take k) l[k].1 l[k].2 (by simp;omega),rfl,rfl,rfl,?_,?_,?_⟩)
  .exact Y3
  ·(all_goals refine gr ?_;repeat' first|exact .intro|refine Tw.mk ?_ ?_)
   all_goals simp [List.map_take]
  (all_goals refine gv ?_;repeat' first|exact .intro|refine Tw.mk ?_ ?_|(intro h;first|replace h:=h.o|cases h))
  all_goals (try ((with_reducible refine Vc.mk ?_);(try exact GLt)))
  .rw[if_pos h] at hq;((try (conv=>whnf));refine⟨[],rfl,rfl,?_,?_⟩)
   .exact Y3
   ·(all_goals refine gr ?_;repeat' first|exact .intro|refine Tw.mk ?_ ?_)
    all_goals exact hq.symm
  .rw[if_neg (by rw[h];simp)] at hq;refine zaU (k+1) ⟨by omega,hq⟩ (by omega) (by (refine zaC [0] ?_;repeat' first|exact .intro|refine Tw.mk ?_ ?_))
end Go.Proofs.YtimfnpjcedjmiadGreat
namespace Go.Proofs.YtimfnpjcedjmiadGreat
open Go.RowKit
end Go.Proofs.YtimfnpjcedjmiadGreat
namespace Go.Proofs.YtimfnpjcedjmiadGreat
open Go.RowKit
def pbyt(c i:Int)(n:Nat)(l:List (Int×Int)):List UInt8:=[u8 c,u8 i,u8 n]++l.flatMap λo=>[u8 o.1,u8 o.2]
def zdz(c i:Int)(l:List (Int×Int)):List UInt8:=pbyt c i l.length l
theorem zpl{c i:Int}{n:Nat}{l:List (Int×Int)}{k:Nat}(h:k<l.length):pbyt c i n (l.take (k+1))=pbyt c i n (l.take k)++[u8 l[k].1,u8 l[k].2]:=by
 unfold pbyt;rw[List.take_add_one,List.getElem?_eq_getElem h,List.flatMap_append,List.append_assoc];simp
theorem pbyt_len{c i:Int}{n:Nat}{l:List (Int×Int)}:(pbyt c i n l).length=3+2*l.length:=by
 unfold pbyt;exact Y61
theorem zod(c i:Int)(l:List (Int×Int))(hl:l.length<=1000000):Fn Tryz.prog 69 [.agg [.v (.int .i64 c),.v (.int .i64 i),.sl 2 (l.map opRow) none]] [] (.tup [.v (.string (if zbN c i l=0 then ⟨(zdz c i l).toArray⟩ else ByteArray.empty)),.err (zbN c i l)]) []:=by
 refine foA zaA [] [] Tryz.func69 Tryz.ntmps69 Tryz.results69 ?_;(all_goals refine gv ?_;repeat' first|exact .intro|refine Tw.mk ?_ ?_|(intro h;first|replace h:=h.o|cases h))
 refine znJ (zho c i l) ?_ ?_
 .exact Y3
 (all_goals refine gv ?_;repeat' first|exact .intro|refine Tw.mk ?_ ?_|(intro h;first|replace h:=h.o|cases h))
 all_goals (try ((with_reducible refine Vc.mk ?_);(try exact GLt)))
 .exact Y104
 rw[h];simp only[if_true];refine lpG (λk:Nat=>⟨[(1,.box 0 0),(5,.sl 1 ((pbyt c i l.length (l.take k)).map bRow) (some (1,1))),(25,.sl 2 (l.map opRow) none),(26,.v (.int .i64 l.length)),(27,.v (.int .i64 k))],[.cells [.v (.int .i64 c),.v (.int .i64 i),.sl 2 (l.map opRow) none],.grow 5 1 1]⟩) (λk=>k<=l.length) (λk=>l.length-k) 0 (by omega) (by (refine zaC [0,1] ?_;repeat' first|exact .intro|refine Tw.mk ?_ ?_);all_goals (all_goals (try simp [pbyt,bRow,wrap_u8,viewR,viewL,AV.view]))) ?_;rintro k hk;have hb:=pbyt_len (c:=c) (i:=i) (n:=l.length) (l:=l.take k);rw[List.length_take] at hb;(all_goals refine gv ?_;repeat' first|exact .intro|refine Tw.mk ?_ ?_|(intro h;first|replace h:=h.o|cases h))
 all_goals (try omega)
 all_goals (try ((with_reducible refine Vc.mk ?_);(try exact GLt)))
 .refine zaU (k+1) (by omega) (by omega) (by (refine zaC [0,1] ?_;repeat' first|exact .intro|refine Tw.mk ?_ ?_);all_goals (try (rw[zpl (by omega)];simp [bRow,wrap_u8,viewR,viewL,AV.view];done)))
 .have e:k=l.length:=by omega
  subst e;rw[List.take_length];conv=>whnf
  refine⟨pbyt c i l.length l,rfl,?_⟩;(all_goals refine gv ?_;repeat' first|exact .intro|refine Tw.mk ?_ ?_|(intro h;first|replace h:=h.o|cases h))
  ((try (conv=>whnf));refine StopRet.by [] ?_;repeat' first|exact .intro|refine Tw.mk ?_ ?_)
end Go.Proofs.YtimfnpjcedjmiadGreat
namespace Go.Proofs.YtimfnpjcedjmiadGreat
open Go.RowKit
def zgq(s:ByteArray)(n:Nat):List (Int×Int):=(List.range n).map λq=>((zaG s (3+2*q):Int),(zaG s (4+2*q):Int))
theorem zm2{s:ByteArray}{n:Nat}:zgq s (n+1)=zgq s n++[((zaG s (3+2*n):Int),(zaG s (4+2*n):Int))]:=by
 unfold zgq;rw[List.range_succ,List.map_append];rfl
theorem zpX{s:ByteArray}{n:Nat}:(zgq s n).length=n:=by simp [zgq]
def ziZ(s:ByteArray):Bool:=decide (3<=s.size)&&decide (s.size=3+2*zaG s 2)&&decide (zbN (zaG s 0) (zaG s 1) (zgq s (zaG s 2))=0)
theorem zhB{s:ByteArray}:ziZ s=true↔3<=s.size/\s.size=3+2*zaG s 2/\zbN (zaG s 0) (zaG s 1) (zgq s (zaG s 2))=0:=by simp [ziZ,and_assoc]
def zdB(s:ByteArray):Int:=if ziZ s then zaG s 0 else 0
def pid(s:ByteArray):Int:=if ziZ s then zaG s 1 else 0
def popt(s:ByteArray):List (Int×Int):=if ziZ s then zgq s (zaG s 2) else []
def perr(s:ByteArray):Int:=if ziZ s then 0 else 4
theorem zgW(s:ByteArray)(hs:s.size<=1000):Fn Tryz.prog 81 [.v (.string s)] [] (.tup [.agg [.v (.int .i64 (zdB s)),.v (.int .i64 (pid s)),.sl 2 ((popt s).map opRow) none],.err (perr s)]) []:=by
 have b0:=zaz s 0;have b1:=zaz s 1;have b2:=zaz s 2;refine foA zaA [] [] Tryz.func81 Tryz.ntmps81 Tryz.results81 ?_;(all_goals refine gv ?_;repeat' first|exact .intro|refine Tw.mk ?_ ?_|(intro h;first|replace h:=h.o|cases h))
 all_goals (try ((with_reducible refine Vc.mk ?_);(try exact GLt)))
 all_goals (try
  (
   have hb: ¬ziZ s=true:=λh'=>by have:=zhB.1 h';omega
   ((try (conv=>whnf));refine StopRet.by [] ?_;repeat' first|exact .intro|refine Tw.mk ?_ ?_);all_goals simp [zdB,pid,popt,perr,hb]))
 refine lpG (λk:Nat=>⟨[(0,.v (.string s)),(2,.box 0 0),(4,.box 1 0),(5,.v (.int .i64 (3+2*(k:Int))))],[.cells [.any,.any,.any],.cells [.v (.int .i64 (zaG s 0)),.v (.int .i64 (zaG s 1)),.sl 2 ((zgq s k).map opRow) (some (2,1))],.grow 184 2 1]⟩) (λk=>k<=zaG s 2) (λk=>zaG s 2-k) 0 (by omega) ?_ ?_
 .refine AS.le_trans (ziJ 1 2 184 2 _ rfl rfl) ?_;(refine zg4 [0,1,2] rfl rfl ?_ ?_)
  all_goals ((all_goals refine gr ?_;repeat' first|exact .intro|refine Tw.mk ?_ ?_);all_goals (try simp [wrap_byte,zgq]))
 intro k hk;have hlen:=zpX (s:=s) (n:=k);have e1:(3+2*(k:Int)).toNat=3+2*k:=by omega
 have e2:(3+2*(k:Int)+1).toNat=4+2*k:=by omega
 (all_goals refine gv ?_;repeat' first|exact .intro|refine Tw.mk ?_ ?_|(intro h;first|replace h:=h.o|cases h))
 all_goals (try omega)
 all_goals (try ((with_reducible refine Vc.mk ?_);(try exact GLt)))
 .refine zaU (k+1) (by omega) (by omega) (by (refine zaC [0,1,2] ?_;repeat' first|exact .intro|refine Tw.mk ?_ ?_);all_goals (all_goals (try (rw[zm2];simp [opRow,wrap_byte,viewR,viewL,AV.view,e1,e2]))))
 have e:k=zaG s 2:=by omega
 subst e;(refine⟨_,_,_,_,[],zho (zaG s 0) (zaG s 1) (zgq s (zaG s 2)),rfl,rfl,rfl,?_,?_,?_⟩)
 .exact Y3
 .exact Y3
 (all_goals refine gv ?_;repeat' first|exact .intro|refine Tw.mk ?_ ?_|(intro h;first|replace h:=h.o|cases h))
 all_goals (try ((with_reducible refine Vc.mk ?_);(try exact GLt)))
 .have hb: ¬ziZ s=true:=λh'=>by have:=zhB.1 h';omega
  exact Y93
 .have hb:ziZ s=true:=zhB.2 ⟨by omega,by omega,by omega⟩;exact Y93
end Go.Proofs.YtimfnpjcedjmiadGreat
namespace Go.Proofs.YtimfnpjcedjmiadGreat
open Go.RowKit
end Go.Proofs.YtimfnpjcedjmiadGreat
namespace Go.Proofs.YtimfnpjcedjmiadGreat
structure Pk where
 c:Int
 i:Int
 o:List (Int×Int)
structure Lk where
 st:Int
 left:Int
 tm:Int
 id:Int
 os:Int
 om:Int
 ns:Int
 nm:Int
 ask:List (Int×Int)
 sz:Int
 out:List Pk
def zfp(m:Int)(l:List (Int×Int)):Int:=if rej l≠[] then 4 else if nak m l≠[] then 3 else 2
def jans(m:Int)(l:List (Int×Int)):List (Int×Int):=if rej l≠[] then rej l else if nak m l≠[] then nak m l else l
def act1(i c:Int)(a:List (Int×Int))(l:Lk)(b:UInt8):Lk:=
 if b=105 then { l with left:=4 }
 else if b=122 then { l with left:=0,tm:=3 }
 else if b=114 then { l with id:=(l.id+1)%256,ask:=asks l.ns l.nm,left:=l.left-1,tm:=3,out:=l.out++[⟨1,(l.id+1)%256,asks l.ns l.nm⟩] }
 else if b=97\/b=110 then { l with out:=l.out++[⟨c,i,a⟩] }
 else if b=116 then { l with id:=(l.id+1)%256,left:=l.left-1,tm:=3,out:=l.out++[⟨5,(l.id+1)%256,[]⟩] }
 else if b=107 then { l with out:=l.out++[⟨6,i,[]⟩] }
 else l
def actL(i c:Int)(a:List (Int×Int))(l:Lk)(d:List UInt8):Lk:=d.foldl (act1 i c a) l
def ownL(l:Lk)(n:Int):Lk:=if n<=3 then { l with ns:=l.os,nm:=l.om,sz:=255,st:=n } else { l with st:=n }
def evtL(l:Lk)(e i c:Int)(a:List (Int×Int)):Lk:=
 if zaq l.st e=0 then actL i c a (ownL l (zb3 l.st e)) (zdE l.st e) else l
def doL(l:Lk)(e:Int):Lk:=if e<0\/3<e then l else evtL l e 0 0 []
def doE(l:Lk)(e:Int):Int:=if e<0\/3<e then 1 else zaq l.st e
def zag(l:Lk):Lk:=
 if 4<=l.st/\l.st<=8 then
  (if 0<l.tm-1 then { l with tm:=l.tm-1 } else evtL { l with tm:=l.tm-1 } (if l.left<=0 then 5 else 4) 0 0 [])
 else l
def szOf(o:List (Int×Int)):Int:=o.foldl (λs x=>if x.1=1 then x.2 else s) 255
def reqL(l:Lk)(p:Pk):Lk:=
 if zfp l.nm p.o=2 then
  (if zaq l.st 6=0/\6<=(evtL l 6 p.i 2 (jans l.nm p.o)).st then { evtL l 6 p.i 2 (jans l.nm p.o) with sz:=szOf p.o } else evtL l 6 p.i 2 (jans l.nm p.o))
 else evtL l 7 p.i (zfp l.nm p.o) (jans l.nm p.o)
def reqE(l:Lk)(p:Pk):Int:=if zfp l.nm p.o=2 then zaq l.st 6 else zaq l.st 7
def nowL(l:Lk)(p:Pk):Lk:=if 6<=l.st then { l with ns:=(told p.c (l.ns,l.nm) p.o).1,nm:=(told p.c (l.ns,l.nm) p.o).2 } else l
def takL(l:Lk)(p:Pk):Lk:=
 if zbN p.c p.i p.o≠0 then l
 else if p.c=1 then reqL l p
 else if p.c=5 then evtL l 10 p.i 0 []
 else if p.c=6 then evtL l 11 p.i 0 []
 else if p.i≠l.id then l
 else if p.c=2 then (if p.o≠l.ask then l else evtL l 8 p.i 0 [])
 else evtL (nowL l p) 9 p.i 0 []
def takE(l:Lk)(p:Pk):Int:=
 if zbN p.c p.i p.o≠0 then zbN p.c p.i p.o
 else if p.c=1 then reqE l p
 else if p.c=5 then zaq l.st 10
 else if p.c=6 then zaq l.st 11
 else if p.i≠l.id then 6
 else if p.c=2 then (if p.o≠l.ask then 6 else zaq l.st 8)
 else zaq l.st 9
def newL(s m:Int):Lk:=⟨0,0,0,0,s,m,s,m,[],255,[]⟩
structure Lk.ok (k:Int) (l:Lk):Prop where
 st0:0<=l.st
 st9:l.st<=9
 left0: -k<=l.left
 left4:l.left<=4
 tm0: -k<=l.tm
 tm3:l.tm<=3
 id0:0<=l.id
 id9:l.id<=255
 own:zeR l.os l.om=true
 ns0:0<=l.ns
 ns9:l.ns<=255
 nm0:0<=l.nm
 nm9:l.nm<=255
 ask:l.ask.length<=2
 sz0:0<=l.sz
 sz9:l.sz<=255
 out:(l.out.length:Int)<=k
theorem Lk.ok.mono{k j:Int}{l:Lk}(h:l.ok k)(hj:k<=j):l.ok j:=
 ⟨h.st0,h.st9,by have:=h.left0;omega,h.left4,by have:=h.tm0;omega,h.tm3,h.id0,h.id9,h.own,h.ns0,h.ns9,h.nm0,h.nm9,h.ask,h.sz0,h.sz9,by have:=h.out;omega⟩
theorem ziB{s m:Int}:(asks s m).length<=2:=by
 unfold asks;split<;>split<;>simp
theorem act1_ok{k:Int}{i c:Int}{a:List (Int×Int)}{l:Lk}(h:l.ok k)(b:UInt8)(hk:0<=k):(act1 i c a l b).ok (k+1):=by
 obtain⟨h1,h2,h3,h4,h5,h6,h7,h8,h9,h10,h11,h12,h13,h14,h15,h16,h17⟩:=h;have ha:(asks l.ns l.nm).length<=2:=ziB;unfold act1;(repeat' split)<;>refine⟨?_,?_,?_,?_,?_,?_,?_,?_,?_,?_,?_,?_,?_,?_,?_,?_,?_⟩<;>(try dsimp only)<;>first|omega|assumption|(simp only[List.length_append,List.length_cons,List.length_nil];omega)
theorem zkn{i c:Int}{a:List (Int×Int)}: ∀{d:List UInt8} {k:Int} {l:Lk},l.ok k->0<=k->(actL i c a l d).ok (k+d.length)
 |[],k,l,h,hk=>by simpa[actL] using h
 |b::d,k,l,h,hk=>by
  have:=zkn (i:=i) (c:=c) (a:=a) (d:=d) (act1_ok (i:=i) (c:=c) (a:=a) h b hk) (by omega);refine Lk.ok.mono this ?_;simp only[List.length_cons];omega
theorem zoM{k n:Int}{l:Lk}(h:l.ok k)(h0:0<=n)(h9:n<=9):(ownL l n).ok k:=by
 obtain⟨h1,h2,h3,h4,h5,h6,h7,h8,h9',h10,h11,h12,h13,h14,h15,h16,h17⟩:=h;have hp:=zc7.1 h9';unfold ownL;split<;>refine⟨?_,?_,?_,?_,?_,?_,?_,?_,?_,?_,?_,?_,?_,?_,?_,?_,?_⟩<;>(try dsimp only)<;>first|omega|assumption
def tabOk(s e:Nat):Bool:=decide ((zdE s e).length<=3)&&decide (0<=zb3 s e)&&decide (zb3 s e<=9)&&decide (zaq s e=0\/zaq s e=7)&&(zdE s e).all (λb=>decide (b.toNat<128))
theorem tab_all: ∀e:Fin 12,∀s:Fin 10,tabOk s e=true:=by decide+kernel
theorem tab{s e:Int}(h0:0<=s)(h9:s<=9)(e0:0<=e)(e9:e<=11):(zdE s e).length<=3/\0<=zb3 s e/\zb3 s e<=9/\(zaq s e=0\/zaq s e=7)/\ ∀b∈zdE s e,b.toNat<128:=by
 have h:=tab_all ⟨e.toNat,by omega⟩ ⟨s.toNat,by omega⟩;simp only[tabOk,Int.toNat_of_nonneg h0,Int.toNat_of_nonneg e0,Bool.and_eq_true,decide_eq_true_eq,List.all_eq_true] at h;obtain⟨⟨⟨⟨a,b⟩,c⟩,d⟩,e⟩:=h;exact⟨a,b,c,d,e⟩
theorem zdQ{k e i c:Int}{a:List (Int×Int)}{l:Lk}(h:l.ok k)(hk:0<=k)(e0:0<=e)(e9:e<=11):(evtL l e i c a).ok (k+3):=by
 have ht:=tab h.st0 h.st9 e0 e9;unfold evtL;split
 .refine Lk.ok.mono (zkn (zoM h ht.2.1 ht.2.2.1) hk) ?_;have:=ht.1;omega
 .exact h.mono (by omega)
theorem tickL_ok{k:Int}{l:Lk}(h:l.ok k)(hk:0<=k):(zag l).ok (k+4):=by
 have h':Lk.ok (k+1) { l with tm:=l.tm-1 }:=by
  obtain⟨h1,h2,h3,h4,h5,h6,h7,h8,h9',h10,h11,h12,h13,h14,h15,h16,h17⟩:=h;refine⟨?_,?_,?_,?_,?_,?_,?_,?_,?_,?_,?_,?_,?_,?_,?_,?_,?_⟩<;>(try dsimp only)<;>first|omega|assumption
 unfold zag;split
 .split
  .exact h'.mono (by omega)
  .refine Lk.ok.mono (zdQ h' (by omega) ?_ ?_) (by omega)<;>split<;>omega
 .exact h.mono (by omega)
theorem zjx: ∀(l p:List (Int×Int)),zdV p l=0-> ∀o∈l,0<=o.1/\o.1<=255/\0<=o.2/\o.2<=255
 |[],p,_=>λo ho=>by cases ho
 |x::r,p,h=>by
  unfold zdV at h;split at h
  .omega
  .rename_i hb;split at h
   .omega
   .simp only[zgU,Bool.or_eq_true,decide_eq_true_eq] at hb;intro o ho;rcases List.mem_cons.1 ho with rfl|ho
    .omega
    .exact zjx r _ h o ho
theorem zhF{c i:Int}{l:List (Int×Int)}(h:zbN c i l=0):1<=c/\c<=6/\0<=i/\i<=255/\l.length<=8/\ ∀o∈l,0<=o.1/\o.1<=255/\0<=o.2/\o.2<=255:=by
 unfold zbN at h;(repeat' split at h)<;>first|omega|skip
 refine⟨by omega,by omega,by omega,by omega,by omega,zjx l [] h⟩
theorem szOf_in{o:List (Int×Int)}(h: ∀x∈o,0<=x.1/\x.1<=255/\0<=x.2/\x.2<=255):0<=szOf o/\szOf o<=255:=by
 have key: ∀(o:List (Int×Int)) (s:Int),0<=s->s<=255->(∀x∈o,0<=x.1/\x.1<=255/\0<=x.2/\x.2<=255)->0<=o.foldl (λs x=>if x.1=1 then x.2 else s) s/\o.foldl (λs x=>if x.1=1 then x.2 else s) s<=255:=by
  intro o
  induction o with
  |nil=>intro s h0 h9 _;exact⟨h0,h9⟩
  |cons x r ih=>
   intro s h0 h9 hx;have h1:=hx x (List.mem_cons_self ..);refine ih _ ?_ ?_ (λy hy=>hx y (List.mem_cons_of_mem _ hy))<;>dsimp only<;>split<;>omega
 exact key o 255 (by decide) (by decide) h
theorem zne{c:Int}{p:Int×Int}{o:List (Int×Int)}(h: ∀x∈o,0<=x.1/\x.1<=255/\0<=x.2/\x.2<=255)(hp:0<=p.1/\p.1<=255/\0<=p.2/\p.2<=255):0<=(told c p o).1/\(told c p o).1<=255/\0<=(told c p o).2/\(told c p o).2<=255:=by
 unfold told
 induction o generalizing p with
 |nil=>exact hp
 |cons x r ih=>
  have h1:=h x (List.mem_cons_self ..);refine ih (λy hy=>h y (List.mem_cons_of_mem _ hy)) ?_;unfold told1;(repeat' split)<;>(try dsimp only)<;>omega
theorem takL_ok{k:Int}{l:Lk}{p:Pk}(h:l.ok k)(hk:0<=k):(takL l p).ok (k+3):=by
 unfold takL;split
 .exact h.mono (by omega)
 .rename_i hf;have hg:=zhF (Classical.not_not.1 hf);split
  .unfold reqL;have h6:=zdQ (i:=p.i) (c:=2) (a:=jans l.nm p.o) h hk (e:=6) (by decide) (by decide);split
   .split
    .have hs:=szOf_in hg.2.2.2.2.2;obtain⟨h1,h2,h3,h4,h5,h6,h7,h8,h9',h10,h11,h12,h13,h14,h15,h16,h17⟩:=h6;exact Y98
    .exact h6
   .exact zdQ h hk (by decide) (by decide)
  .split
   .exact zdQ h hk (by decide) (by decide)
   .split
    .exact zdQ h hk (by decide) (by decide)
    .split
     .exact h.mono (by omega)
     .split
      .split
       .exact h.mono (by omega)
       .exact zdQ h hk (by decide) (by decide)
      .refine zdQ ?_ hk (by decide) (by decide);unfold nowL;split
       .have ht:=zne (c:=p.c) (p:=(l.ns,l.nm)) hg.2.2.2.2.2 ⟨h.ns0,h.ns9,h.nm0,h.nm9⟩;obtain⟨h1,h2,h3,h4,h5,h6,h7,h8,h9',h10,h11,h12,h13,h14,h15,h16,h17⟩:=h;exact Y98
       .exact h
theorem zkK{s m:Int}(h:zeR s m=true):(newL s m).ok 0:=by
 have hp:=zc7.1 h;refine⟨?_,?_,?_,?_,?_,?_,?_,?_,h,?_,?_,?_,?_,?_,?_,?_,?_⟩<;>simp only[newL,List.length_nil]<;>omega
def outL(l:Lk):Lk:={ l with out:=[] }
end Go.Proofs.YtimfnpjcedjmiadGreat
namespace Go.Proofs.YtimfnpjcedjmiadGreat
open Go.RowKit
def zeS(e:Int×Int):Bool:=decide (e.1<1)||decide (6<e.1)||decide (e.2<1)||decide (20<e.2)
def zcJ(o:Int):Int->List (Int×Int)->Int
 |_,[]=>0
 |p,e::r=>if zeS e then 1 else if e.1=o\/e.1<=p then 3 else zcJ o e.1 r
def zaL(o q:Int)(l:List (Int×Int)):Int:=
 if o<1\/6<o\/q<1\/1000000<q then 1 else if 6<l.length then 2 else zcJ o 0 l
theorem zeh(o:Int): ∀(p:Int) (l:List (Int×Int)),0<=zcJ o p l
 |p,[]=>by simp [zcJ]
 |p,e::r=>by
  unfold zcJ;split
  .omega
  .split
   .omega
   .exact zeh o _ r
theorem zcp(o q:Int)(l:List (Int×Int)):0<=zaL o q l:=by
 have:=zeh o 0 l;unfold zaL;(repeat' split)<;>omega
def zcU(l:List (Int×Int))(k:Nat):Int:=if h:0<k/\k<=l.length then (l[k-1]'(by omega)).1 else 0
theorem zkR{l:List (Int×Int)}{k:Nat}(h:k<l.length):zcU l (k+1)=l[k].1:=by
 unfold zcU;rw[dif_pos ⟨by omega,by omega⟩];rfl
theorem zpJ{l:List (Int×Int)}{k:Nat}{i:Int}(hi:i=(k:Int)-1)(h0:0<k)(h:i.toNat<l.length):l[i.toNat].1=zcU l k:=by
 subst hi;unfold zcU;rw[dif_pos ⟨h0,by omega⟩];congr 2
 omega
theorem zgL{l:List (Int×Int)}:zcU l 0=0:=by simp [zcU]
theorem zg2{l:List (Int×Int)}{k:Nat}{o:Int}(h:k<l.length):zcJ o (zcU l k) (l.drop k)=if zeS l[k] then 1 else if l[k].1=o\/l[k].1<=zcU l k then 3 else zcJ o (zcU l (k+1)) (l.drop (k+1)):=by
 rw[za1 h,zkR h];rfl
theorem zdX(o q:Int)(l:List (Int×Int)):Fn Tryz.prog 55 [.agg [.v (.int .i64 o),.v (.int .i64 q),.sl 2 (l.map opRow) none]] [] (.err (zaL o q l)) []:=by
 refine foA zaA [] [] Tryz.func55 Tryz.ntmps55 Tryz.results55 ?_;(all_goals refine gv ?_;repeat' first|exact .intro|refine Tw.mk ?_ ?_|(intro h;first|replace h:=h.o|cases h))
 all_goals (try ((with_reducible refine Vc.mk ?_);(try exact GLt)))
 all_goals (try (((try (conv=>whnf));refine StopRet.by [] ?_;repeat' first|exact .intro|refine Tw.mk ?_ ?_);unfold zaL;(repeat' split)<;>first|rfl|omega))
 all_goals
  have hp:zaL o q l=zcJ o (zcU l 0) l:=by unfold zaL;rw[zgL];(repeat' split)<;>first|rfl|omega
  refine lpG (λk:Nat=>⟨[(1,.box 0 0),(30,.sl 2 (l.map opRow) none),(31,.v (.int .i64 l.length)),(32,.v (.int .i64 k))],[.cells [.v (.int .i64 o),.v (.int .i64 q),.sl 2 (l.map opRow) none]]⟩) (λk=>k<=l.length/\zaL o q l=zcJ o (zcU l k) (l.drop k)) (λk=>l.length-k) 0 ⟨by omega,hp⟩ (by (refine zaC [0] ?_;repeat' first|exact .intro|refine Tw.mk ?_ ?_);all_goals (all_goals (try simp))) ?_;rintro k ⟨hk,hq⟩;(all_goals refine gv ?_;repeat' first|exact .intro|refine Tw.mk ?_ ?_|(intro h;first|replace h:=h.o|cases h))
  all_goals (try omega)
  all_goals (try ((with_reducible refine Vc.mk ?_);(try exact GLt)))
  all_goals (try
   (
    have hk':k<l.length:=by omega
    rw[zg2 hk'] at hq;have hb:zeS l[k]=true:=by simp only[zeS,Bool.or_eq_true,decide_eq_true_eq];omega
    rw[if_pos hb] at hq;((try (conv=>whnf));refine⟨[],rfl,rfl,?_,?_⟩)
    .exact Y3
    ·(all_goals refine gr ?_;repeat' first|exact .intro|refine Tw.mk ?_ ?_);all_goals exact hq.symm))
  all_goals (try
   (
    have e:k=l.length:=by omega
    subst e;rw[List.drop_length] at hq;((try (conv=>whnf));refine⟨[],rfl,rfl,?_,?_⟩)
    .exact Y3
    ·(all_goals refine gr ?_;repeat' first|exact .intro|refine Tw.mk ?_ ?_);all_goals exact hq.symm))
 all_goals
  have hk':k<l.length:=by omega
  have hb: ¬zeS l[k]=true:=by simp only[zeS,Bool.or_eq_true,decide_eq_true_eq];omega
  rw[zg2 hk',if_neg hb] at hq;have hla:zcU l k=0/\k=0\/ ∃(h0:0<k) (hx:((k:Int)-1).toNat<l.length),l[((k:Int)-1).toNat].1=zcU l k:=by
   rcases Nat.eq_zero_or_pos k with h0|h0
   .exact .inl ⟨by rw[h0,zgL],h0⟩
   .exact .inr ⟨h0,by omega,zpJ rfl h0 (by omega)⟩
  by_cases hc:l[k].1=o\/l[k].1<=zcU l k
  .rw[if_pos hc] at hq;first
    |(exfalso;rcases hla with⟨e1,e2⟩|⟨h0,hx,e1⟩<;>omega)
    |(((try (conv=>whnf));refine StopRet.by [] ?_;repeat' first|exact .intro|refine Tw.mk ?_ ?_);all_goals exact hq.symm)
  .rw[if_neg hc] at hq;first
    |(exfalso;rcases hla with⟨e1,e2⟩|⟨h0,hx,e1⟩<;>omega)
    |(refine zaU (k+1) ⟨by omega,hq⟩ (by omega) (by (refine zaC [0] ?_;repeat' first|exact .intro|refine Tw.mk ?_ ?_)))
end Go.Proofs.YtimfnpjcedjmiadGreat
namespace Go.Proofs.YtimfnpjcedjmiadGreat
open Go.RowKit
def sbyt(o q:Int)(l:List (Int×Int)):List UInt8:=[u8 o,u8 q,u8 (q / 256),u8 (q / 65536)]++l.flatMap λe=>[u8 e.1,u8 e.2]
theorem zoa{c i:Int}{l:List (Int×Int)}{k:Nat}(h:k<l.length):sbyt c i (l.take (k+1))=sbyt c i (l.take k)++[u8 l[k].1,u8 l[k].2]:=by
 unfold sbyt;rw[List.take_add_one,List.getElem?_eq_getElem h,List.flatMap_append,List.append_assoc];simp
theorem zfx{c i:Int}{l:List (Int×Int)}:(sbyt c i l).length=4+2*l.length:=by
 unfold sbyt;exact Y61
theorem u8_mod{n m:Int}(h:n%256=m%256):u8 n=u8 m:=by unfold u8;rw[h]
theorem u8_8{q:Int}:u8 (q.fdiv 256)=u8 (q / 256):=by rw[Int.fdiv_eq_ediv_of_nonneg _ (by decide)]
theorem u8_16{q:Int}:u8 (q.fdiv 65536)=u8 (q / 65536):=by rw[Int.fdiv_eq_ediv_of_nonneg _ (by decide)]
theorem u8_r0{q:Int}(h:0<=q):u8 (q.tmod 256)=u8 q:=u8_mod (by rw[Int.tmod_eq_emod_of_nonneg h];omega)
theorem u8_r1{q:Int}(h:0<=q):u8 ((q.tdiv 256).tmod 256)=u8 (q / 256):=u8_mod (by rw[Int.tdiv_eq_ediv_of_nonneg h,Int.tmod_eq_emod_of_nonneg (by omega)];omega)
theorem u8_r2{q:Int}(h:0<=q):u8 (q.tdiv 65536)=u8 (q / 65536):=by rw[Int.tdiv_eq_ediv_of_nonneg h]
theorem zgv(c i:Int)(l:List (Int×Int))(hl:l.length<=1000000):Fn Tryz.prog 63 [.agg [.v (.int .i64 c),.v (.int .i64 i),.sl 2 (l.map opRow) none]] [] (.tup [.v (.string (if zaL c i l=0 then ⟨(sbyt c i l).toArray⟩ else ByteArray.empty)),.err (zaL c i l)]) []:=by
 refine foA zaA [] [] Tryz.func63 Tryz.ntmps63 Tryz.results63 ?_;(all_goals refine gv ?_;repeat' first|exact .intro|refine Tw.mk ?_ ?_|(intro h;first|replace h:=h.o|cases h))
 refine znJ (zdX c i l) ?_ ?_
 .exact Y3
 (all_goals refine gv ?_;repeat' first|exact .intro|refine Tw.mk ?_ ?_|(intro h;first|replace h:=h.o|cases h))
 all_goals (try ((with_reducible refine Vc.mk ?_);(try exact GLt)))
 .exact Y104
 rw[h];simp only[if_true];refine lpG (λk:Nat=>⟨[(1,.box 0 0),(5,.sl 1 ((sbyt c i (l.take k)).map bRow) (some (1,1))),(29,.sl 2 (l.map opRow) none),(30,.v (.int .i64 l.length)),(31,.v (.int .i64 k))],[.cells [.v (.int .i64 c),.v (.int .i64 i),.sl 2 (l.map opRow) none],.grow 5 1 1]⟩) (λk=>k<=l.length) (λk=>l.length-k) 0 (by omega) (by (refine zaC [0,1] ?_;repeat' first|exact .intro|refine Tw.mk ?_ ?_);all_goals (all_goals (try simp [sbyt,bRow,wrap_u8,viewR,viewL,AV.view,IntKind.bits,u8_8,u8_16,u8_r0,u8_r1,u8_r2, *]))) ?_;rintro k hk;have hb:=zfx (c:=c) (i:=i) (l:=l.take k);rw[List.length_take] at hb;(all_goals refine gv ?_;repeat' first|exact .intro|refine Tw.mk ?_ ?_|(intro h;first|replace h:=h.o|cases h))
 all_goals (try omega)
 all_goals (try ((with_reducible refine Vc.mk ?_);(try exact GLt)))
 .refine zaU (k+1) (by omega) (by omega) (by (refine zaC [0,1] ?_;repeat' first|exact .intro|refine Tw.mk ?_ ?_);all_goals (try (rw[zoa (by omega)];simp [bRow,wrap_u8,viewR,viewL,AV.view];done)))
 .have e:k=l.length:=by omega
  subst e;rw[List.take_length];conv=>whnf
  refine⟨sbyt c i l,rfl,?_⟩;(all_goals refine gv ?_;repeat' first|exact .intro|refine Tw.mk ?_ ?_|(intro h;first|replace h:=h.o|cases h))
  ((try (conv=>whnf));refine StopRet.by [] ?_;repeat' first|exact .intro|refine Tw.mk ?_ ?_)
end Go.Proofs.YtimfnpjcedjmiadGreat
namespace Go.Proofs.YtimfnpjcedjmiadGreat
open Go.RowKit
theorem or64{x y k:Nat}(hx:x<2^k)(hb:y*2^k+x<2^63):(BitVec.ofInt 64 (x:Int)|||BitVec.ofInt 64 ((y*2^k:Nat):Int)).toNat=y*2^k+x:=by
 rw[BitVec.ofInt_natCast,BitVec.ofInt_natCast,BitVec.toNat_or,BitVec.toNat_ofNat,BitVec.toNat_ofNat,Nat.mod_eq_of_lt (by omega),Nat.mod_eq_of_lt (by omega),Nat.or_comm,<-Nat.shiftLeft_eq,<-Nat.shiftLeft_add_eq_or_of_lt hx]
theorem seq_or{a b c:Nat}(ha:a<256)(hb:b<256)(hc:c<256):
  IntKind.i64.wrap (BitVec.ofInt IntKind.i64.bits (IntKind.i64.wrap (BitVec.ofInt IntKind.i64.bits (a:Int)|||BitVec.ofInt IntKind.i64.bits (IntKind.i64.wrap ((b:Int)*2^(min (8:Int).toNat IntKind.i64.bits)))).toNat)|||BitVec.ofInt IntKind.i64.bits (IntKind.i64.wrap ((c:Int)*2^(min (16:Int).toNat IntKind.i64.bits)))).toNat=a+256*b+65536*c:=by
 have e8:(b:Int)*2^(min (8:Int).toNat IntKind.i64.bits)=((b*2^8:Nat):Int):=by simp [IntKind.bits]
 have e16:(c:Int)*2^(min (16:Int).toNat IntKind.i64.bits)=((c*2^16:Nat):Int):=by simp [IntKind.bits]
 rw[e8,e16,zc0 (x:=((b*2^8:Nat):Int)) (by unfold In64;omega),zc0 (x:=((c*2^16:Nat):Int)) (by unfold In64;omega)];show IntKind.i64.wrap (BitVec.ofInt 64 (IntKind.i64.wrap (BitVec.ofInt 64 (a:Int)|||BitVec.ofInt 64 ((b*2^8:Nat):Int)).toNat)|||BitVec.ofInt 64 ((c*2^16:Nat):Int)).toNat=_;rw[or64 (by omega) (by omega),zc0 (x:=((b*2^8+a:Nat):Int)) (by unfold In64;omega),or64 (by omega) (by omega),zc0 (by unfold In64;omega)];omega
def zgN(s:ByteArray)(n:Nat):List (Int×Int):=(List.range n).map λq=>((zaG s (4+2*q):Int),(zaG s (5+2*q):Int))
theorem znQ{s:ByteArray}{n:Nat}:zgN s (n+1)=zgN s n++[((zaG s (4+2*n):Int),(zaG s (5+2*n):Int))]:=by
 unfold zgN;rw[List.range_succ,List.map_append];rfl
theorem zpk{s:ByteArray}{n:Nat}:(zgN s n).length=n:=by simp [zgN]
def sseq(s:ByteArray):Int:=zaG s 1+256*zaG s 2+65536*zaG s 3
def snum(s:ByteArray):Nat:=(s.size-4) / 2
def ziC(s:ByteArray):Bool:=decide (4<=s.size)&&decide (s.size%2=0)&&decide (zaL (zaG s 0) (sseq s) (zgN s (snum s))=0)
theorem ze1{s:ByteArray}:ziC s=true↔4<=s.size/\s.size%2=0/\zaL (zaG s 0) (sseq s) (zgN s (snum s))=0:=by simp [ziC,and_assoc]
def zak(s:ByteArray):Int:=if ziC s then zaG s 0 else 0
def sid(s:ByteArray):Int:=if ziC s then sseq s else 0
def sopt(s:ByteArray):List (Int×Int):=if ziC s then zgN s (snum s) else []
def serr(s:ByteArray):Int:=if ziC s then 0 else 4
theorem zeq(s:ByteArray)(hs:s.size<=1000):Fn Tryz.prog 103 [.v (.string s)] [] (.tup [.agg [.v (.int .i64 (zak s)),.v (.int .i64 (sid s)),.sl 2 ((sopt s).map opRow) none],.err (serr s)]) []:=by
 have b0:=zaz s 0;have b1:=zaz s 1;have b2:=zaz s 2;have b3:=zaz s 3;have hn:snum s=(s.size-4) / 2:=rfl;have hsq:=seq_or b1 b2 b3;have tm:(s.size:Int).tmod 2=(s.size:Int)%2:=Int.tmod_eq_emod_of_nonneg (by omega);refine foA zaA [] [] Tryz.func103 Tryz.ntmps103 Tryz.results103 ?_;(all_goals refine gv ?_;repeat' first|exact .intro|refine Tw.mk ?_ ?_|(intro h;first|replace h:=h.o|cases h))
 all_goals (try ((with_reducible refine Vc.mk ?_);(try exact GLt)))
 all_goals (try
  (
   have hb: ¬ziC s=true:=λh'=>by have:=ze1.1 h';omega
   ((try (conv=>whnf));refine StopRet.by [] ?_;repeat' first|exact .intro|refine Tw.mk ?_ ?_);all_goals simp [zak,sid,sopt,serr,hb]))
 refine lpG (λk:Nat=>⟨[(0,.v (.string s)),(2,.box 0 0),(4,.box 1 0),(5,.v (.int .i64 (4+2*(k:Int))))],[.cells [.any,.any,.any],.cells [.v (.int .i64 (zaG s 0)),.v (.int .i64 (sseq s)),.sl 2 ((zgN s k).map opRow) (some (2,1))],.grow 57 2 1]⟩) (λk=>k<=snum s) (λk=>snum s-k) 0 (by omega) ?_ ?_
 .refine AS.le_trans (ziJ 1 2 57 2 _ rfl rfl) ?_;(refine zg4 [0,1,2] rfl rfl ?_ ?_)
  all_goals ((all_goals refine gr ?_;repeat' first|exact .intro|refine Tw.mk ?_ ?_);all_goals (try (first|(simp only[wrap_byte,Int.reduceToNat];done)|(simp only[wrap_byte,Int.reduceToNat];exact hsq)|(simp [zgN];done))))
 intro k hk;have hlen:=zpk (s:=s) (n:=k);have e1:(4+2*(k:Int)).toNat=4+2*k:=by omega
 have e2:(4+2*(k:Int)+1).toNat=5+2*k:=by omega
 (all_goals refine gv ?_;repeat' first|exact .intro|refine Tw.mk ?_ ?_|(intro h;first|replace h:=h.o|cases h))
 all_goals (try omega)
 all_goals (try ((with_reducible refine Vc.mk ?_);(try exact GLt)))
 .refine zaU (k+1) (by omega) (by omega) (by (refine zaC [0,1,2] ?_;repeat' first|exact .intro|refine Tw.mk ?_ ?_);all_goals (all_goals (try (rw[znQ];simp [opRow,wrap_byte,viewR,viewL,AV.view,e1,e2]))))
 have e:k=snum s:=by omega
 subst e;(refine⟨_,_,_,_,[],zdX (zaG s 0) (sseq s) (zgN s (snum s)),rfl,rfl,rfl,?_,?_,?_⟩)
 .exact Y3
 .exact Y3
 (all_goals refine gv ?_;repeat' first|exact .intro|refine Tw.mk ?_ ?_|(intro h;first|replace h:=h.o|cases h))
 all_goals (try ((with_reducible refine Vc.mk ?_);(try exact GLt)))
 .have hb: ¬ziC s=true:=λh'=>by have:=ze1.1 h';omega
  exact Y94
 .have hb:ziC s=true:=ze1.2 ⟨by omega,by omega,by omega⟩;exact Y94
end Go.Proofs.YtimfnpjcedjmiadGreat
namespace Go.Proofs.YtimfnpjcedjmiadGreat
open Go.RowKit
end Go.Proofs.YtimfnpjcedjmiadGreat
namespace Go.Proofs.YtimfnpjcedjmiadGreat
open Go.RowKit
theorem zkC(rows:List (List AV))(hl:rows.length<=1000000):Fn Tryz.prog 67 [.sl 2 rows none] [] (.sl 2 rows none) []:=by
 refine foA zaA [] [] Tryz.func67 Tryz.ntmps67 Tryz.results67 ?_;(all_goals refine gv ?_;repeat' first|exact .intro|refine Tw.mk ?_ ?_|(intro h;first|replace h:=h.o|cases h))
 all_goals exact Y83
theorem zbJ(o q:Int)(rows:List (List AV))(hl:rows.length<=1000000):Fn Tryz.prog 47 [.agg [.v (.int .i64 o),.v (.int .i64 q),.sl 2 rows none]] [] (.agg [.v (.int .i64 o),.v (.int .i64 q),.sl 2 rows none]) []:=by
 refine foA zaA [] [] Tryz.func47 Tryz.ntmps47 Tryz.results47 ?_;(all_goals refine gv ?_;repeat' first|exact .intro|refine Tw.mk ?_ ?_|(intro h;first|replace h:=h.o|cases h))
 (all_goals (try ((first|refine StopCall.by0 (zkC rows hl) ?_|refine StopPure.by0 (zkC rows hl) ?_);(all_goals refine gv ?_;repeat' first|exact .intro|refine Tw.mk ?_ ?_|(intro h;first|replace h:=h.o|cases h)))))
 all_goals exact Y13
end Go.Proofs.YtimfnpjcedjmiadGreat
namespace Go.Proofs.YtimfnpjcedjmiadGreat
open Go.RowKit
def cmpI(a b:Int):Int:=if a<b then -1 else if b<a then 1 else 0
theorem zgH(a:Int):Fn Tryz.prog 119 [.v (.int .i64 a)] [] (.v (.bool false)) []:=by
 refine foA zaA [] [] Tryz.func119 Tryz.ntmps119 Tryz.results119 ?_;(all_goals refine gv ?_;repeat' first|exact .intro|refine Tw.mk ?_ ?_|(intro h;first|replace h:=h.o|cases h))
 all_goals (((try (conv=>whnf));refine StopRet.by [] ?_;repeat' first|exact .intro|refine Tw.mk ?_ ?_);all_goals simp)
theorem zfV(a b:Int):Fn Tryz.prog 115 [.v (.int .i64 a),.v (.int .i64 b)] [] (.v (.int .i64 (cmpI a b))) []:=by
 refine foA zaA [] [] Tryz.func115 Tryz.ntmps115 Tryz.results115 ?_;(all_goals refine gv ?_;repeat' first|exact .intro|refine Tw.mk ?_ ?_|(intro h;first|replace h:=h.o|cases h))
 (all_goals (try ((first|refine StopCall.by0 (zgH a) ?_|refine StopPure.by0 (zgH a) ?_);(all_goals refine gv ?_;repeat' first|exact .intro|refine Tw.mk ?_ ?_|(intro h;first|replace h:=h.o|cases h)))))
 (all_goals (try ((first|refine StopCall.by0 (zgH b) ?_|refine StopPure.by0 (zgH b) ?_);(all_goals refine gv ?_;repeat' first|exact .intro|refine Tw.mk ?_ ?_|(intro h;first|replace h:=h.o|cases h)))))
 all_goals (((try (conv=>whnf));refine StopRet.by [] ?_;repeat' first|exact .intro|refine Tw.mk ?_ ?_);all_goals (unfold cmpI;(repeat' split)<;>first|rfl|omega))
def orL:List Int->Int
 |[]=>0
 |x::r=>if x≠0 then x else orL r
theorem orL_ok(l:List Int)(hl:l.length<=1000000):Fn Tryz.prog 114 [.sl 1 (l.map iRow) none] [] (.v (.int .i64 (orL l))) []:=by
 refine foA zaA [] [] Tryz.func114 Tryz.ntmps114 Tryz.results114 ?_;(all_goals refine gv ?_;repeat' first|exact .intro|refine Tw.mk ?_ ?_|(intro h;first|replace h:=h.o|cases h))
 refine lpG (λk:Nat=>⟨[(3,.v (.int .i64 0)),(6,.sl 1 (l.map iRow) none),(7,.v (.int .i64 l.length)),(8,.v (.int .i64 k))],[]⟩) (λk=>k<=l.length/\orL l=orL (l.drop k)) (λk=>l.length-k) 0 ⟨by omega,rfl⟩ (by (refine zaC [] ?_;repeat' first|exact .intro|refine Tw.mk ?_ ?_);all_goals (all_goals (try simp))) ?_;rintro k ⟨hk,hq⟩;(all_goals refine gv ?_;repeat' first|exact .intro|refine Tw.mk ?_ ?_|(intro h;first|replace h:=h.o|cases h))
 all_goals (try omega)
 all_goals (try ((with_reducible refine Vc.mk ?_);(try exact GLt)))
 .have hk':k<l.length:=by omega
  rw[za1 hk'] at hq;((try (conv=>whnf));refine⟨[],rfl,rfl,?_,?_⟩)
  .exact Y3
  ·(all_goals refine gr ?_;repeat' first|exact .intro|refine Tw.mk ?_ ?_)
   all_goals (rw[hq];simp [orL,h])
 .have hk':k<l.length:=by omega
  rw[za1 hk'] at hq;refine zaU (k+1) ⟨by omega,by rw[hq];simp [orL,h]⟩ (by omega) (by (refine zaC [] ?_;repeat' first|exact .intro|refine Tw.mk ?_ ?_))
 .have e:k=l.length:=by omega
  subst e;rw[List.drop_length] at hq;((try (conv=>whnf));refine⟨[],rfl,rfl,?_,?_⟩)
  .exact Y3
  ·(all_goals refine gr ?_;repeat' first|exact .intro|refine Tw.mk ?_ ?_)
   all_goals exact hq.symm
theorem zqF(a b c d:Int):Fn Tryz.prog 117 [.agg [.v (.int .i64 a),.v (.int .i64 b)],.agg [.v (.int .i64 c),.v (.int .i64 d)]] [] (.v (.int .i64 (orL [cmpI a c,cmpI b d]))) []:=by
 refine foA zaA [] [] Tryz.func117 Tryz.ntmps117 Tryz.results117 ?_;(all_goals refine gv ?_;repeat' first|exact .intro|refine Tw.mk ?_ ?_|(intro h;first|replace h:=h.o|cases h))
 (all_goals (try ((first|refine StopCall.by0 (zfV a c) ?_|refine StopPure.by0 (zfV a c) ?_);(all_goals refine gv ?_;repeat' first|exact .intro|refine Tw.mk ?_ ?_|(intro h;first|replace h:=h.o|cases h)))))
 (all_goals (try ((first|refine StopCall.by0 (zfV b d) ?_|refine StopPure.by0 (zfV b d) ?_);(all_goals refine gv ?_;repeat' first|exact .intro|refine Tw.mk ?_ ?_|(intro h;first|replace h:=h.o|cases h)))))
 have ho:=orL_ok [cmpI a c,cmpI b d] (by simp);first
  |((refine⟨_,_,_,_,[],ho,rfl,rfl,rfl,?_,?_,?_⟩))
  |(refine StopPure.mk _ _ ho rfl ?_ ?_)
 all_goals (try ((all_goals refine gr ?_;repeat' first|exact .intro|refine Tw.mk ?_ ?_);done))
 (all_goals refine gv ?_;repeat' first|exact .intro|refine Tw.mk ?_ ?_|(intro h;first|replace h:=h.o|cases h))
 ((try (conv=>whnf));refine StopRet.by [] ?_;repeat' first|exact .intro|refine Tw.mk ?_ ?_)
end Go.Proofs.YtimfnpjcedjmiadGreat
namespace Go.Proofs.YtimfnpjcedjmiadGreat
open Go.RowKit
def cmpE:List (Int×Int)->List (Int×Int)->Int
 |[],[]=>0
 |[],_::_=> -1
 |_::_,[]=>1
 |x::la,y::lb=>if orL [cmpI x.1 y.1,cmpI x.2 y.2]≠0 then orL [cmpI x.1 y.1,cmpI x.2 y.2] else cmpE la lb
theorem zgr(la lb:List (Int×Int))(ha:la.length<=1000000)(hb:lb.length<=1000000):Fn Tryz.prog 116 [.sl 2 (la.map opRow) none,.sl 2 (lb.map opRow) none,.clo 117 []] [] (.v (.int .i64 (cmpE la lb))) []:=by
 refine foA zaA [] [] Tryz.func116 Tryz.ntmps116 Tryz.results116 ?_;(all_goals refine gv ?_;repeat' first|exact .intro|refine Tw.mk ?_ ?_|(intro h;first|replace h:=h.o|cases h))
 refine lpG (λk:Nat=>⟨[(0,.sl 2 (la.map opRow) none),(1,.sl 2 (lb.map opRow) none),(2,.clo 117 []),(11,.sl 2 (la.map opRow) none),(12,.v (.int .i64 la.length)),(13,.v (.int .i64 k))],[]⟩) (λk=>k<=la.length/\k<=lb.length/\cmpE la lb=cmpE (la.drop k) (lb.drop k)) (λk=>la.length-k) 0 ⟨by omega,by omega,rfl⟩ (by (refine zaC [] ?_;repeat' first|exact .intro|refine Tw.mk ?_ ?_);all_goals (all_goals (try simp))) ?_;rintro k ⟨hk,hk2,hq⟩;(all_goals refine gv ?_;repeat' first|exact .intro|refine Tw.mk ?_ ?_|(intro h;first|replace h:=h.o|cases h))
 all_goals (try omega)
 all_goals (try ((with_reducible refine Vc.mk ?_);(try exact GLt)))
 .rw[za1 (l:=la) (by omega),zgB (l:=lb) (by omega)] at hq;exact Y72
 .have h1:k<la.length:=by omega
  have h2:k<lb.length:=by omega
  rw[za1 h1,za1 h2] at hq;refine znJ (zqF la[k].1 la[k].2 lb[k].1 lb[k].2) ?_ ?_
  .exact Y3
  (all_goals refine gv ?_;repeat' first|exact .intro|refine Tw.mk ?_ ?_|(intro h;first|replace h:=h.o|cases h))
  all_goals (try ((with_reducible refine Vc.mk ?_);(try exact GLt)))
  ·((try (conv=>whnf));refine StopRet.by [] ?_;repeat' first|exact .intro|refine Tw.mk ?_ ?_)
   all_goals (rw[hq];unfold cmpE;rw[if_pos h])
  .refine zaU (k+1) ⟨by omega,by omega,?_⟩ (by omega) (by (refine zaC [] ?_;repeat' first|exact .intro|refine Tw.mk ?_ ?_));rw[hq];conv=>lhs;unfold cmpE
   rw[if_neg (by rw[h];simp)]
 .rw[zgB (l:=la) (by omega),za1 (l:=lb) (by omega)] at hq;exact Y72
 .rw[zgB (l:=la) (by omega),zgB (l:=lb) (by omega)] at hq;exact Y72
end Go.Proofs.YtimfnpjcedjmiadGreat
namespace Go.Proofs.YtimfnpjcedjmiadGreat
open Go.RowKit
theorem zbA(o q p r:Int)(la lb:List (Int×Int))(ha:la.length<=1000000)(hb:lb.length<=1000000):Fn Tryz.prog 104 [.agg [.v (.int .i64 o),.v (.int .i64 q),.sl 2 (la.map opRow) none],.agg [.v (.int .i64 p),.v (.int .i64 r),.sl 2 (lb.map opRow) none]] [] (.v (.int .i64 (orL [cmpI q r,cmpE la lb]))) []:=by
 refine foA zaA [] [] Tryz.func104 Tryz.ntmps104 Tryz.results104 ?_;(all_goals refine gv ?_;repeat' first|exact .intro|refine Tw.mk ?_ ?_|(intro h;first|replace h:=h.o|cases h))
 (all_goals (try ((first|refine StopCall.by0 (zfV q r) ?_|refine StopPure.by0 (zfV q r) ?_);(all_goals refine gv ?_;repeat' first|exact .intro|refine Tw.mk ?_ ?_|(intro h;first|replace h:=h.o|cases h)))))
 (all_goals (try ((first|refine StopCall.by0 (zgr la lb ha hb) ?_|refine StopPure.by0 (zgr la lb ha hb) ?_);(all_goals refine gv ?_;repeat' first|exact .intro|refine Tw.mk ?_ ?_|(intro h;first|replace h:=h.o|cases h)))))
 have ho:=orL_ok [cmpI q r,cmpE la lb] (by simp);first
  |((refine⟨_,_,_,_,[],ho,rfl,rfl,rfl,?_,?_,?_⟩))
  |(refine StopPure.mk _ _ ho rfl ?_ ?_)
 all_goals (try ((all_goals refine gr ?_;repeat' first|exact .intro|refine Tw.mk ?_ ?_);done))
 (all_goals refine gv ?_;repeat' first|exact .intro|refine Tw.mk ?_ ?_|(intro h;first|replace h:=h.o|cases h))
 ((try (conv=>whnf));refine StopRet.by [] ?_;repeat' first|exact .intro|refine Tw.mk ?_ ?_)
end Go.Proofs.YtimfnpjcedjmiadGreat
namespace Go.Proofs.YtimfnpjcedjmiadGreat
open Go.RowKit
theorem orL2(a b:Int):orL [a,b]=if a≠0 then a else b:=by
 simp only[orL];by_cases h:a=0
 .subst h;simp;intro h;exact h.symm
 .simp [h]
end Go.Proofs.YtimfnpjcedjmiadGreat
namespace Go.Proofs.YtimfnpjcedjmiadGreat
open Go.RowKit
theorem zhE{o:Int}: ∀(p:Int) (l:List (Int×Int)),zcJ o p l=0-> ∀e∈l,1<=e.1/\e.1<=6/\1<=e.2/\e.2<=20
 |p,[],h=>by simp
 |p,e::r,h=>by
  unfold zcJ at h;split at h
  .omega
  .rename_i hb;split at h
   .omega
   .intro x hx;rcases List.mem_cons.1 hx with rfl|hx
    .simp only[zeS,Bool.or_eq_true,decide_eq_true_eq] at hb;omega
    .exact zhE _ r h x hx
theorem zaN{o q:Int}{l:List (Int×Int)}(h:zaL o q l=0):1<=o/\o<=6/\1<=q/\q<=1000000/\l.length<=6/\ ∀e∈l,1<=e.1/\e.1<=6/\1<=e.2/\e.2<=20:=by
 unfold zaL at h;split at h
 .omega
 .split at h
  .omega
  .exact⟨by omega,by omega,by omega,by omega,by omega,zhE _ _ h⟩
def cmp1(x y:Int×Int):Int:=orL [cmpI x.1 y.1,cmpI x.2 y.2]
def nw(q r:Int)(la lb:List (Int×Int)):Int:=orL [cmpI q r,cmpE la lb]
theorem zmu{x y:Int×Int}{la lb:List (Int×Int)}:cmpE (x::la) (y::lb)=if cmp1 x y≠0 then cmp1 x y else cmpE la lb:=rfl
theorem nw_eq(q r:Int)(la lb:List (Int×Int)):nw q r la lb=if cmpI q r≠0 then cmpI q r else cmpE la lb:=orL2 _ _
theorem zfD(a b:Int): -1<=cmpI a b/\cmpI a b<=1:=by unfold cmpI;(repeat' split)<;>omega
theorem zh9: ∀(la lb:List (Int×Int)),-1<=cmpE la lb/\cmpE la lb<=1
 |[],[]=>by simp [cmpE]
 |[],_::_=>by simp [cmpE]
 |_::_,[]=>by simp [cmpE]
 |x::la,y::lb=>by
  have h1:=zfD x.1 y.1;have h2:=zfD x.2 y.2;have ih:=zh9 la lb;rw[zmu];unfold cmp1;rw[orL2];(repeat' split)<;>omega
theorem nw_range(q r:Int)(la lb:List (Int×Int)): -1<=nw q r la lb/\nw q r la lb<=1:=by
 have h1:=zfD q r;have h2:=zh9 la lb;rw[nw_eq];split<;>omega
end Go.Proofs.YtimfnpjcedjmiadGreat
namespace Go.Proofs.YtimfnpjcedjmiadGreat
def upI{α:Type}(f:Int->α)(a:Int)(x:α):Int->α:=λn=>if n=a then x else f n
theorem upI_self{α:Type}{f:Int->α}{a:Int}{x:α}:upI f a x a=x:=if_pos rfl
theorem upI_ne{α:Type}{f:Int->α}{a n:Int}{x:α}(h:n≠a):upI f a x n=f n:=if_neg h
structure Ba where
 kn:Int->Option St3
 ow:List (Int->Bool)
def sf(s:St3):Int:=zaL s.1 s.2.1 s.2.2
def nws(s t:St3):Int:=nw s.2.1 t.2.1 s.2.2 t.2.2
def modW:List (Int->Bool)->Int->((Int->Bool)->Int->Bool)->List (Int->Bool)
 |[],_,_=>[]
 |o::r,p,F=>(if p=0 then F o else o)::modW r (p-1) F
def getW:List (Int->Bool)->Int->Int->Bool
 |[],_,_=>false
 |o::r,p,n=>if p=0 then o n else getW r (p-1) n
def aO(o:Int->Bool)(i n but:Int):Int->Bool:=if i=but then o else upI o n true
def allW:List (Int->Bool)->Int->Int->Int->List (Int->Bool)
 |[],_,_,_=>[]
 |o::r,i,n,but=>aO o i n but::allW r (i+1) n but
def inP(b:Ba)(p:Int):Bool:=decide (0<=p)&&decide (p<b.ow.length)
def stsB(b:Ba):List St3:=[1,2,3,4,5,6].filterMap b.kn
def owdB(b:Ba)(p:Int):List St3:=(stsB b).filter λs=>getW b.ow p s.1
def setB(b:Ba)(s:St3):Ba:=if sf s=0 then ⟨upI b.kn s.1 (some s),allW b.ow 0 s.1 (-1)⟩ else b
def takK(b:Ba)(s:St3):Int:=match b.kn s.1 with
 |some t=>nws s t
 |none=>1
def zbd(b:Ba)(p:Int)(s:St3):Ba:=
 if inP b p=true/\sf s=0 then
  (if takK b s=1 then ⟨upI b.kn s.1 (some s),modW (allW b.ow 0 s.1 p) p λo=>upI o s.1 false⟩
  else if takK b s=0 then ⟨b.kn,modW b.ow p λo=>upI o s.1 false⟩
  else ⟨b.kn,modW b.ow p λo=>upI o s.1 true⟩)
 else b
def zay(b:Ba)(p:Int)(s:St3):Int:=if inP b p=true then sf s else 1
def zcv(b:Ba)(p:Int)(s:St3):Int:=if inP b p=true/\sf s=0 then takK b s else 0
def hrK(b:Ba)(s:St3):Int:=match b.kn s.1 with
 |some t=>nws t s
 |none=> -1
def hrdB(b:Ba)(p:Int)(s:St3):Ba:=if inP b p=true/\sf s=0/\hrK b s<=0 then ⟨b.kn,modW b.ow p λo=>upI o s.1 false⟩ else b
def metB(b:Ba)(p:Int):Ba:=if inP b p=true then ⟨b.kn,modW b.ow p λo n=>o n||(b.kn n).isSome⟩ else b
def metE(b:Ba)(p:Int):Int:=if inP b p=true then 0 else 1
def parB(b:Ba)(p:Int):Ba:=if inP b p=true then ⟨b.kn,modW b.ow p λ_ _=>false⟩ else b
def newB(n:Nat):Ba:=⟨λ_=>none,List.replicate n λ_=>false⟩
structure Ba.ok (b:Ba):Prop where
 kn: ∀n s,b.kn n=some s->s.1=n/\sf s=0
 n1:1<=b.ow.length
 n3:b.ow.length<=3
def allK:List (Int->Bool)->Int->Int->Int->Nat->List (Int->Bool)
 |[],_,_,_,_=>[]
 |o::r,_,_,_,0=>o::r
 |o::r,i,n,but,k+1=>aO o i n but::allK r (i+1) n but k
theorem zfG{o:Int->Bool}{i n but:Int}(h:i=but):aO o i n but=o:=if_pos h
theorem zd6{o:Int->Bool}{i n but:Int}(h: ¬i=but):aO o i n but=upI o n true:=if_neg h
theorem ze0: ∀{l:List (Int->Bool)} {p:Int} {F:(Int->Bool)->Int->Bool},(modW l p F).length=l.length
 |[],p,F=>rfl
 |o::r,p,F=>by simp [modW,ze0]
theorem zer: ∀{l:List (Int->Bool)} {i n b:Int},(allW l i n b).length=l.length
 |[],i,n,b=>rfl
 |o::r,i,n,b=>by simp [allW,zer]
theorem Ba.ok.range{b:Ba}(h:b.ok){n:Int}{s:St3}(hs:b.kn n=some s):1<=n/\n<=6:=by
 obtain⟨h1,h2⟩:=h.kn n s hs;have:=zaN h2;omega
theorem kn_upd{kn:Int->Option St3}{s:St3}(h: ∀n t,kn n=some t->t.1=n/\sf t=0)(hs:sf s=0): ∀n t,upI kn s.1 (some s) n=some t->t.1=n/\sf t=0:=by
 intro n t ht;unfold upI at ht;split at ht
 .rename_i e;obtain rfl:=Option.some.inj ht;exact⟨e.symm,hs⟩
 .exact h n t ht
theorem zey{b:Ba}(h:b.ok)(s:St3):(setB b s).ok:=by
 unfold setB;split
 .exact⟨kn_upd h.kn (by assumption),by rw[zer];exact h.n1,by rw[zer];exact h.n3⟩
 .exact h
theorem zfq{b:Ba}(h:b.ok)(p:Int)(s:St3):(zbd b p s).ok:=by
 unfold zbd;split
 .rename_i hc;split
  .exact⟨kn_upd h.kn hc.2,by rw[ze0,zer];exact h.n1,by rw[ze0,zer];exact h.n3⟩
  .split
   .exact Y58
   .exact Y58
 .exact h
theorem zk8{b:Ba}(h:b.ok)(p:Int)(s:St3):(hrdB b p s).ok:=by
 unfold hrdB;split
 .exact Y58
 .exact h
theorem zkf{b:Ba}(h:b.ok)(p:Int):(metB b p).ok:=by
 unfold metB;split
 .exact Y58
 .exact h
theorem zf5{b:Ba}(h:b.ok)(p:Int):(parB b p).ok:=by
 unfold parB;split
 .exact Y58
 .exact h
theorem zoT{n:Nat}(h1:1<=n)(h3:n<=3):(newB n).ok:=⟨λ_ _ h=>(by cases h),by simpa[newB] using h1,by simpa[newB] using h3⟩
theorem stsB_len{b:Ba}:(stsB b).length<=6:=by
 unfold stsB;exact Nat.le_trans (List.length_filterMap_le ..) (Nat.le_refl _)
theorem stsB_mem{b:Ba}(h:b.ok): ∀s∈stsB b,sf s=0/\b.kn s.1=some s:=by
 intro s hs;obtain⟨n,_,hn⟩:=List.mem_filterMap.1 hs;obtain⟨h1,h2⟩:=h.kn n s hn;rw[h1];exact⟨h2,hn⟩
end Go.Proofs.YtimfnpjcedjmiadGreat
namespace Go.Proofs.YtimfnpjcedjmiadGreat
open Go.RowKit
def zcx(n:Int):List Hp->Nat->Int
 |[],_=> -1
 |h::r,k=>if h.1=n then k else zcx n r (k+1)
def toH(n:Int):List Hp->Option Hp
 |[]=>none
 |h::r=>if h.1=n then some h else toH n r
def toV(n:Int)(l:List Hp):Hp:=(toH n l).getD (0,0,0)
theorem zg9{n:Int}: ∀{l:List Hp} {k:Nat},toH n l=none->zcx n l k= -1
 |[],k,h=>rfl
 |x::r,k,h=>by
  unfold toH at h;split at h
  .cases h
  .rename_i g;unfold zcx;rw[if_neg g];exact zg9 h
theorem zg8{n:Int}: ∀{l:List Hp} {k:Nat} {x:Hp},toH n l=some x-> ∃i:Nat,zcx n l k=((k+i:Nat):Int)/\l[i]? =some x
 |[],k,x,h=>by cases h
 |y::r,k,x,h=>by
  unfold toH at h;split at h
  .rename_i g;unfold zcx;rw[if_pos g];exact⟨0,by simp,by simpa using h⟩
  .rename_i g;unfold zcx;rw[if_neg g];obtain⟨i,h1,h2⟩:=zg8 (k:=k+1) h;exact⟨i+1,by rw[h1];congr 1;omega,by simpa using h2⟩
theorem toF_ok(a b c n:Int):Fn Tryz.prog 108 [.agg [.v (.int .i64 a),.v (.int .i64 b),.v (.int .i64 c)],.box 0 0] [.cells [.v (.int .i64 n)]] (.v (.bool (a==n))) [.cells [.v (.int .i64 n)]]:=by
 refine foA zaA [] [] Tryz.func108 Tryz.ntmps108 Tryz.results108 ?_;(all_goals refine gv ?_;repeat' first|exact .intro|refine Tw.mk ?_ ?_|(intro h;first|replace h:=h.o|cases h))
 all_goals (((try (conv=>whnf));refine StopRet.by [0] ?_;repeat' first|exact .intro|refine Tw.mk ?_ ?_))
theorem zpS(l:List Hp)(n:Int)(hl:l.length<=1000000):Fn Tryz.prog 107 [.sl 3 (l.map hRow) none,.clo 108 [.box 0 0]] [.cells [.v (.int .i64 n)]] (.v (.int .i64 (zcx n l 0))) [.cells [.v (.int .i64 n)]]:=by
 refine foA zaA [] [] Tryz.func107 Tryz.ntmps107 Tryz.results107 ?_;(all_goals refine gv ?_;repeat' first|exact .intro|refine Tw.mk ?_ ?_|(intro h;first|replace h:=h.o|cases h))
 refine lpG (λk:Nat=>⟨[(0,.sl 3 (l.map hRow) none),(1,.clo 108 [.box 0 0]),(7,.v (.int .i64 l.length)),(8,.v (.int .i64 k))],[.cells [.v (.int .i64 n)]]⟩) (λk=>k<=l.length/\zcx n l 0=zcx n (l.drop k) k) (λk=>l.length-k) 0 ⟨by omega,rfl⟩ (by (refine zaC [0] ?_;repeat' first|exact .intro|refine Tw.mk ?_ ?_);all_goals (all_goals (try simp))) ?_;rintro k ⟨hk,hp⟩;(all_goals refine gv ?_;repeat' first|exact .intro|refine Tw.mk ?_ ?_|(intro h;first|replace h:=h.o|cases h))
 all_goals (try omega)
 .have hk':k<l.length:=by omega
  (refine⟨_,_,_,_,[0],toF_ok l[k].1 l[k].2.1 l[k].2.2 n,rfl,rfl,rfl,?_,?_,?_⟩)
  .exact Y3
  .exact Y3
  (all_goals refine gv ?_;repeat' first|exact .intro|refine Tw.mk ?_ ?_|(intro h;first|replace h:=h.o|cases h))
  all_goals (try ((with_reducible refine Vc.mk ?_);(try exact GLt)))
  ·((try (conv=>whnf));refine StopRet.by [0] ?_;repeat' first|exact .intro|refine Tw.mk ?_ ?_)
   rw[hp,za1 (by omega)];simp [zcx,h]
  .refine zaU (k+1) ⟨by omega,?_⟩ (by omega) (by (refine zaC [0] ?_;repeat' first|exact .intro|refine Tw.mk ?_ ?_));rw[hp,za1 (by omega)];simp [zcx,h]
 .have e:k=l.length:=by omega
  subst e;((try (conv=>whnf));refine StopRet.by [0] ?_;repeat' first|exact .intro|refine Tw.mk ?_ ?_)
  rw[hp];simp [zcx]
theorem to_ok(l:List Hp)(n:Int)(hl:l.length<=1000000):Fn Tryz.prog 88 [.sl 3 (l.map hRow) none,.v (.int .i64 n)] [] (.tup [.agg [.v (.int .i64 (toV n l).1),.v (.int .i64 (toV n l).2.1),.v (.int .i64 (toV n l).2.2)],.v (.bool (toH n l).isSome)]) []:=by
 have hi:=zpS l n hl;cases ht:toH n l with
 |none=>
  rw[zg9 ht] at hi;have hv:toV n l=(0,0,0):=by unfold toV;rw[ht];rfl
  rw[hv];refine foA zaA [] [] Tryz.func88 Tryz.ntmps88 Tryz.results88 ?_;(all_goals refine gv ?_;repeat' first|exact .intro|refine Tw.mk ?_ ?_|(intro h;first|replace h:=h.o|cases h))
  (refine⟨_,_,_,_,[0],hi,rfl,rfl,rfl,?_,?_,?_⟩)
  .exact Y3
  .exact Y3
  (all_goals refine gv ?_;repeat' first|exact .intro|refine Tw.mk ?_ ?_|(intro h;first|replace h:=h.o|cases h))
  all_goals (try omega)
  all_goals exact Y13
 |some x=>
  obtain⟨i,h1,h2⟩:=zg8 (k:=0) ht;rw[h1] at hi;have hv:toV n l=x:=by unfold toV;rw[ht];rfl
  have hil:i<l.length:=(List.getElem?_eq_some_iff.1 h2).1;have hx:l[i]=x:=by rw[List.getElem?_eq_getElem hil] at h2;exact Option.some.inj h2
  rw[hv];rw[Nat.zero_add] at hi;refine foA zaA [] [] Tryz.func88 Tryz.ntmps88 Tryz.results88 ?_;(all_goals refine gv ?_;repeat' first|exact .intro|refine Tw.mk ?_ ?_|(intro h;first|replace h:=h.o|cases h))
  (refine⟨_,_,_,_,[0],hi,rfl,rfl,rfl,?_,?_,?_⟩)
  .exact Y3
  .exact Y3
  (all_goals refine gv ?_;repeat' first|exact .intro|refine Tw.mk ?_ ?_|(intro h;first|replace h:=h.o|cases h))
  all_goals (try omega)
  all_goals (((try (conv=>whnf));refine StopRet.by [] ?_;repeat' first|exact .intro|refine Tw.mk ?_ ?_))
  all_goals (try (rw[hx]))
theorem zk5(la lb:List Hp)(ha:la.length<=1000000):Fn Tryz.prog 25 [.sl 3 (la.map hRow) none,.sl 3 (lb.map hRow) none] [] (.v (.bool (decide (la=lb)))) []:=by
 refine foA zaA [] [] Tryz.func25 Tryz.ntmps25 Tryz.results25 ?_;(all_goals refine gv ?_;repeat' first|exact .intro|refine Tw.mk ?_ ?_|(intro h;first|replace h:=h.o|cases h))
 .exact Y59
 refine lpG (λk:Nat=>⟨[(0,.sl 3 (la.map hRow) none),(1,.sl 3 (lb.map hRow) none),(5,.v (.int .i64 k))],[]⟩) (λk=>k<=la.length/\ ∀i,i<k->la[i]? =lb[i]?) (λk=>la.length-k) 0 ⟨by omega,λi h=>by omega⟩ (by (refine zaC [] ?_;repeat' first|exact .intro|refine Tw.mk ?_ ?_)) ?_;rintro k ⟨hk,hp⟩;((all_goals (try (repeat' (conv=>whnf);(first|with_reducible refine And.intro ?_ ?_|with_reducible exact True.intro|(intro h;(first|cases h|((try simp only[vis,Int.reduceToNat] at h);(try (exfalso;omega)))))|(with_reducible refine Vc.mk ?_;fail)|(with_reducible refine cutG ?_;fail)|refine zap ?_ ?_|refine zaa ?_ ?_ ?_|(refine ne_hop ?_)))));(all_goals (first|omega|(conv=>whnf)|skip)))
 all_goals (try omega)
 all_goals (try ((with_reducible refine Vc.mk ?_);(try exact GLt)))
 .exact Y57
 .refine zaU (k+1) ⟨by omega,λi hi=>?_⟩ (by omega) (by (refine zaC [] ?_;repeat' first|exact .intro|refine Tw.mk ?_ ?_));by_cases hik:i=k
  .subst hik;rw[List.getElem?_eq_getElem (by omega),List.getElem?_eq_getElem (by omega)];simp at h;rw[Prod.ext h.1.1 (Prod.ext h.1.2 h.2)]
  .exact hp i (by omega)
 .exact Y39
structure OkL (l:List St3):Prop where
 few:l.length<=6
 good: ∀i (h:i<l.length),zaL l[i].1 l[i].2.1 l[i].2.2=0
 unlike: ∀i (h:i<l.length) k (hk:k<i),¬l[k].1=l[i].1
theorem zh5{o:Int}: ∀{l:List (Int×Int)} {p:Int},p<=6->zcJ o p l=0->(l.length:Int)<=6-p
 |[],p,hp,h=>by simp;omega
 |e::r,p,hp,h=>by
  unfold zcJ at h;split at h
  .omega
  .rename_i hb;split at h
   .omega
   .rename_i hc;simp only[zeS,Bool.or_eq_true,decide_eq_true_eq] at hb;have ih:=zh5 (by omega) h;simp only[List.length_cons];omega
theorem zhg{o:Int}: ∀{l:List (Int×Int)} {p:Int},zcJ o p l=0-> ∀e∈l,1<=e.1/\e.1<=6/\1<=e.2/\e.2<=20/\e.1≠o
 |[],p,h=>λe he=>by cases he
 |e::r,p,h=>by
  unfold zcJ at h;split at h
  .omega
  .rename_i hb;split at h
   .omega
   .rename_i hc;simp only[zeS,Bool.or_eq_true,decide_eq_true_eq] at hb;intro x hx;rcases List.mem_cons.1 hx with rfl|hx
    .refine⟨by omega,by omega,by omega,by omega,λe=>hc (.inl e)⟩
    .exact zhg h x hx
theorem zf7{o q:Int}{l:List (Int×Int)}(h:zaL o q l=0):l.length<=6/\ ∀e∈l,1<=e.1/\e.1<=6/\1<=e.2/\e.2<=20/\e.1≠o:=by
 unfold zaL at h;split at h
 .omega
 .split at h
  .omega
  .exact⟨by have:=zh5 (by decide) h;omega,zhg h⟩
theorem OkL.mem{l:List St3}(h:OkL l): ∀s∈l,zaL s.1 s.2.1 s.2.2=0:=by
 intro s hs;obtain⟨i,hi,rfl⟩:=List.mem_iff_getElem.1 hs;exact h.good i hi
theorem OkL.small{l:List St3}(h:OkL l):zj2 l:=⟨by have:=h.few;omega,λs hs=>by have:=(zf7 (h.mem s hs)).1;omega⟩
theorem OkL.metric{l:List St3}(h:OkL l):MOk (met l):=by
 have key: ∀a b,0<=(mL a b l).1/\(mL a b l).1<=20:=by
  intro a b;have step: ∀(l:List St3) (q:Int×Bool),(∀s∈l,zaL s.1 s.2.1 s.2.2=0)->0<=q.1/\q.1<=20->0<=(l.foldl (mE a b) q).1/\(l.foldl (mE a b) q).1<=20:=by
   intro l
   induction l with
   |nil=>intro q _ hq;exact hq
   |cons s r ih=>
    intro q hs hq;refine ih _ (λx hx=>hs x (List.mem_cons_of_mem _ hx)) ?_;have hg:=(zf7 (hs s (List.mem_cons_self ..))).2;unfold mE;have inner: ∀(es:List (Int×Int)) (q:Int×Bool),(∀e∈es,1<=e.1/\e.1<=6/\1<=e.2/\e.2<=20/\e.1≠s.1)->0<=q.1/\q.1<=20->0<=(es.foldl (mS a b s.1) q).1/\(es.foldl (mS a b s.1) q).1<=20:=by
     intro es
     induction es with
     |nil=>intro q _ hq;exact hq
     |cons e r ih=>
      intro q he hq;refine ih _ (λx hx=>he x (List.mem_cons_of_mem _ hx)) ?_;have:=he e (List.mem_cons_self ..);unfold mS;dsimp only;split
      .omega
      .exact hq
    exact inner _ _ hg hq
  exact step l _ h.mem ⟨Int.le_refl _,by decide⟩
 refine⟨λa b=>?_,λa b=>?_⟩;all_goals
  have:=key a b;unfold met;split
  .omega
  .omega
end Go.Proofs.YtimfnpjcedjmiadGreat
