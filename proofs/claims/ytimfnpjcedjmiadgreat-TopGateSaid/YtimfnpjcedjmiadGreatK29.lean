/- Lemmas. -/
import Derived.Test.YtimfnpjcedjmiadGreatK28
import Derived.Test.YtimfnpjcedjmiadGreatK24
import Derived.Test.YtimfnpjcedjmiadGreatK26
set_option maxRecDepth 100000
set_option maxHeartbeats 64000000
set_option linter.all false
namespace Go.Proofs.YtimfnpjcedjmiadGreat
open Go.RowKit
theorem ze2{p:Rt->Prop}(h: ∀id p0 p1 p2 b inb dr,p ⟨id,[p0,p1,p2],b,inb,dr⟩)(r:Rt)(hr:r.ps.length=3):p r:=by
 obtain⟨id,ps,b,inb,dr⟩:=r
 obtain⟨p0,p1,p2,rfl⟩:=len3 hr
 exact h ..
theorem ziz{p:Int->Prop}(h0:p 0)(h1:p 1)(h2:p 2)(i:Int)(hi:0<=i/\i<3):p i:=by
 rcases (by omega:i=0\/i=1\/i=2) with rfl|rfl|rfl
 ·exact h0
 ·exact h1
 ·exact h2
theorem npR3{r:Rt}(h:r.ps.length=3):r.np:=.inr (.inr h)
theorem zpC{r q:Rt}(h:Like r q)(hr:r.ps.length=3):q.np:=.inr (.inr (h.2.trans hr))
section
variable {n d:Nat} {r:Rt}
theorem xrplug(hn:n<=8000000)(h3:r.ps.length=3)(hF:r.fine n d)(i:Int)(hi:0<=i/\i<3)(up:Bool):Fn Tryz.prog 36 [.box 0 0,.v (.int .i64 i),.v (.bool up)] [rtO r] (.err (zda r i.toNat up)) [rtO (zak r i.toNat up)]:=by
 refine zcL (g:=1) ?_ (Nat.le_refl _) (npR3 h3) (zpC (zeM ..) h3) rfl
 revert hF
 refine ze2 (p:=fun r=>r.fine n d->Fn Tryz.prog 36 [.box 0 0,.v (.int .i64 i),.v (.bool up)] (rtM r 0) (.err (zda r i.toNat up)) (rtM (zak r i.toNat up) 1)) (fun id p0 p1 p2 b inb dr hF=>?_) r h3
 have hb:=hF.b
 have hm: ∀p∈[p0,p1,p2],0<=p.m/\p.m<=20:=fun p hp=>(hF.ps p hp).m
 have ho: ∀p∈[p0,p1,p2],p.l.fit 0/\p.out.length<=10000000:=fun p hp=>⟨(hF.ps p hp).l,by have:=(hF.ps p hp).out;omega⟩
 refine ziz (p:=fun i=>Fn Tryz.prog 36 [.box 0 0,.v (.int .i64 i),.v (.bool up)] (rtM ⟨id,[p0,p1,p2],b,inb,dr⟩ 0) (.err (zda ⟨id,[p0,p1,p2],b,inb,dr⟩ i.toNat up)) (rtM (zak ⟨id,[p0,p1,p2],b,inb,dr⟩ i.toNat up) 1)) ?_ ?_ ?_ i hi
 ·exact znv id dr b hb inb p0 p1 p2 hm up (ho p0 (by simp)).1 (ho p0 (by simp)).2
 ·exact zm3 id dr b hb inb p0 p1 p2 hm up (ho p1 (by simp)).1 (ho p1 (by simp)).2
 ·exact zm7 id dr b hb inb p0 p1 p2 hm up (ho p2 (by simp)).1 (ho p2 (by simp)).2
theorem zeO(r:Rt)(i:Nat)(s:List UInt8):Like r (zay r i s):=by
 unfold zay
 refine Like.trans (zav r i fun p=>{ p with rd:=(za2 p.rd s).1,rest:=(zcA (p.rest++s)).2.2 }) ?_
 generalize (za2 (r.pt i).rd s).2.1=T
 generalize (r.onP i fun p=>{ p with rd:=(za2 p.rd s).1,rest:=(zcA (p.rest++s)).2.2 })=q
 induction T generalizing q with
 |nil=>exact Like.refl q
 |cons t T ih=>exact (zeI q i t).trans (ih _)
theorem xrrecv(hn:n<=8000000)(hd:d<=900000000)(h3:r.ps.length=3)(hF:r.fine n d)(i:Int)(hi:0<=i/\i<3)(s:ByteArray)(hs:s.size<=2000):Fn Tryz.prog 45 [.box 0 0,.v (.int .i64 i),.v (.string s)] [rtO r] (.err 0) [rtO (zay r i.toNat (bs s))]:=by
 refine zcL (g:=1) ?_ (Nat.le_refl _) (npR3 h3) (zpC (zeO ..) h3) rfl
 revert hF
 refine ze2 (p:=fun r=>r.fine n d->Fn Tryz.prog 45 [.box 0 0,.v (.int .i64 i),.v (.string s)] (rtM r 0) (.err 0) (rtM (zay r i.toNat (bs s)) 1)) (fun id p0 p1 p2 b inb dr hF=>?_) r h3
 refine ziz (p:=fun i=>Fn Tryz.prog 45 [.box 0 0,.v (.int .i64 i),.v (.string s)] (rtM ⟨id,[p0,p1,p2],b,inb,dr⟩ 0) (.err 0) (rtM (zay ⟨id,[p0,p1,p2],b,inb,dr⟩ i.toNat (bs s)) 1)) ?_ ?_ ?_ i hi
 ·exact zpF n d hn hd id dr b inb p0 p1 p2 hF s hs
 ·exact zn2 n d hn hd id dr b inb p0 p1 p2 hF s hs
 ·exact zoR n d hn hd id dr b inb p0 p1 p2 hF s hs
theorem zfq(r:Rt):Like r (zcW r):=zgz zcS _ _
theorem xrtick(hn:n<=8000000)(h3:r.ps.length=3)(hF:r.fine n d):Fn Tryz.prog 44 [.box 0 0] [rtO r] (.tup []) [rtO (zcW r)]:=by
 refine zcL (g:=1) ?_ (Nat.le_refl _) (npR3 h3) (zpC (zfq ..) h3) rfl
 revert hF
 exact ze2 (p:=fun r=>r.fine n d->Fn Tryz.prog 44 [.box 0 0] (rtM r 0) (.tup []) (rtM (zcW r) 1)) (fun id p0 p1 p2 b inb dr hF=>tick_ok3 n d hn id dr b inb p0 p1 p2 hF) r h3
theorem zej(r:Rt)(to:Int)(t:ByteArray):Like r (zcY r to t):=by
 unfold zcY
 split
 ·exact Like.refl r
 ·exact zeP ..
theorem xrsend(hn:n<=8000000)(hd:d<=900000000)(h3:r.ps.length=3)(hF:r.fine n d)(to:Int)(t:ByteArray):Fn Tryz.prog 46 [.box 0 0,.v (.int .i64 to),.v (.string t)] [rtO r] (.err (zl0 to t)) [rtO (zcY r to t)]:=by
 refine zcL (g:=1) ?_ (Nat.le_refl _) (npR3 h3) (zpC (zej ..) h3) rfl
 revert hF
 refine ze2 (p:=fun r=>r.fine n d->Fn Tryz.prog 46 [.box 0 0,.v (.int .i64 to),.v (.string t)] (rtM r 0) (.err (zl0 to t)) (rtM (zcY r to t) 1)) (fun id p0 p1 p2 b inb dr hF=>?_) r h3
 have hdr:=hF.dr
 have hin:=hF.inb
 dsimp only at hdr hin
 exact znB id dr b hF.b inb p0 p1 p2 to t (by omega) (by omega) (fun p hp=>by have:=(hF.ps p hp).out;omega)
theorem xrout(h3:r.ps.length=3)(i:Int)(hi:0<=i/\i<3):Fn Tryz.prog 50 [.box 0 0,.v (.int .i64 i)] [rtO r] (.tup [.v (.string (tx (r.pt i.toNat).out)),.err 0]) [rtO (outR r i.toNat)]:=by
 refine zcL (g:=1) ?_ (Nat.le_refl _) (npR3 h3) (zpC (zav ..) h3) rfl
 refine ze2 (p:=fun r=>Fn Tryz.prog 50 [.box 0 0,.v (.int .i64 i)] (rtM r 0) (.tup [.v (.string (tx (r.pt i.toNat).out)),.err 0]) (rtM (outR r i.toNat) 1)) (fun id p0 p1 p2 b inb dr=>?_) r h3
 refine ziz (p:=fun i=>Fn Tryz.prog 50 [.box 0 0,.v (.int .i64 i)] (rtM ⟨id,[p0,p1,p2],b,inb,dr⟩ 0) (.tup [.v (.string (tx (Rt.pt ⟨id,[p0,p1,p2],b,inb,dr⟩ i.toNat).out)),.err 0]) (rtM (outR ⟨id,[p0,p1,p2],b,inb,dr⟩ i.toNat) 1)) ?_ ?_ ?_ i hi
 ·exact out_ok30 id dr b inb p0 p1 p2
 ·exact out_ok31 id dr b inb p0 p1 p2
 ·exact out_ok32 id dr b inb p0 p1 p2
theorem xrinbox(h3:r.ps.length=3):Fn Tryz.prog 51 [.box 0 0] [rtO r] (.arr 1 0 r.inb.length) [rtO { r with inb:=[] },.arr true 67 3 0 (r.inb.map zdh)]:=
 ze2 (p:=fun r=>Fn Tryz.prog 51 [.box 0 0] [rtO r] (.arr 1 0 r.inb.length) [rtO { r with inb:=[] },.arr true 67 3 0 (r.inb.map zdh)]) (fun id p0 p1 p2 b inb dr=>zo2 id dr b inb p0 p1 p2) r h3
theorem xrpeer(h3:r.ps.length=3)(i:Int)(hi:0<=i/\i<3):Fn Tryz.prog 13 [.box 0 0,.v (.int .i64 i)] [rtO r] (.tup [.agg (peRow (r.pt i.toNat).p),.err 0]) [rtO r]:=by
 refine zcL (g:=0) ?_ (by decide) (npR3 h3) (npR3 h3) rfl
 refine ze2 (p:=fun r=>Fn Tryz.prog 13 [.box 0 0,.v (.int .i64 i)] (rtM r 0) (.tup [.agg (peRow (r.pt i.toNat).p),.err 0]) (rtM r 0)) (fun id p0 p1 p2 b inb dr=>?_) r h3
 refine ziz (p:=fun i=>Fn Tryz.prog 13 [.box 0 0,.v (.int .i64 i)] (rtM ⟨id,[p0,p1,p2],b,inb,dr⟩ 0) (.tup [.agg (peRow (Rt.pt ⟨id,[p0,p1,p2],b,inb,dr⟩ i.toNat).p),.err 0]) (rtM ⟨id,[p0,p1,p2],b,inb,dr⟩ 0)) ?_ ?_ ?_ i hi
 ·exact zoJ id dr b inb p0 p1 p2
 ·exact zo5 id dr b inb p0 p1 p2
 ·exact znU id dr b inb p0 p1 p2
theorem xrlink(h3:r.ps.length=3)(i:Int)(hi:0<=i/\i<3):Fn Tryz.prog 21 [.box 0 0,.v (.int .i64 i)] [rtO r] (.tup [.v (.int .i64 (r.pt i.toNat).l.st),.err 0]) [rtO r]:=by
 refine zcL (g:=0) ?_ (by decide) (npR3 h3) (npR3 h3) rfl
 refine ze2 (p:=fun r=>Fn Tryz.prog 21 [.box 0 0,.v (.int .i64 i)] (rtM r 0) (.tup [.v (.int .i64 (r.pt i.toNat).l.st),.err 0]) (rtM r 0)) (fun id p0 p1 p2 b inb dr=>?_) r h3
 refine ziz (p:=fun i=>Fn Tryz.prog 21 [.box 0 0,.v (.int .i64 i)] (rtM ⟨id,[p0,p1,p2],b,inb,dr⟩ 0) (.tup [.v (.int .i64 (Rt.pt ⟨id,[p0,p1,p2],b,inb,dr⟩ i.toNat).l.st),.err 0]) (rtM ⟨id,[p0,p1,p2],b,inb,dr⟩ 0)) ?_ ?_ ?_ i hi
 ·exact zls id dr b inb p0 p1 p2
 ·exact zmA id dr b inb p0 p1 p2
 ·exact zld id dr b inb p0 p1 p2
theorem xrhops(h3:r.ps.length=3)(hb:r.b.ok):Fn Tryz.prog 26 [.box 0 0] [rtO r] (.sl 3 ((zdD (stsB r.b) r.id).map hRow) none) [rtO r]:=by
 refine zcL (g:=0) ?_ (by decide) (npR3 h3) (npR3 h3) rfl
 revert hb
 exact ze2 (p:=fun r=>r.b.ok->Fn Tryz.prog 26 [.box 0 0] (rtM r 0) (.sl 3 ((zdD (stsB r.b) r.id).map hRow) none) (rtM r 0)) (fun id p0 p1 p2 b inb dr hb=>ziq id dr b hb inb p0 p1 p2) r h3
theorem xrnew(id m0 m1 m2:Int)(hid:1<=id/\id<=6)(hm:(1<=m0/\m0<=20)/\(1<=m1/\m1<=20)/\(1<=m2/\m2<=20)):Fn Tryz.prog 29 [.v (.int .i64 id),.sl 1 ([m0,m1,m2].map iRow) none] [] (.tup [.box 0 0,.err 0]) [rtO (newR id [m0,m1,m2])]:=
 ze0 (mt:=[.gone]) (m':=rtM (newR id [m0,m1,m2]) 0) (ρ:=[0]) (κ:=zaQ) (L:=0) (new_ok3 id m0 m1 m2 hid hm) rfl rfl rfl rfl grt (zoD ..) grt rfl rfl rfl rfl rfl rfl
end
def famR(xs:List Value)(rs:List Rt):Res:=.obj (famP xs (rs.map fun r=>zbr (rtM r 0)))
theorem ze4{f:FuncId}{args:List AV}{ret:AV}{r r':Rt}(hF:Fn Tryz.prog f (.box 0 0::args) [rtO r] ret [rtO r']){xs:List Value}{rs:List Rt}{j:Nat}{x:Value}(hj:rs[j]? =some r)(hx:xs[j]? =some x)(ha:args.all AV.free=true)(hr:ret.free=true):
  Fn Tryz.prog f (.v x::args) [famR xs rs] ret [famR xs (rs.set j r')]:=by
 have h:=fn_focus hF (xs:=xs) (ps:=rs.map fun r=>zbr (rtM r 0)) hx (by rw[List.getElem?_map,hj];rfl) ha hr
 unfold famR
 rw[List.map_set]
 exact h
theorem focusRA{f:FuncId}{args:List AV}{n T sz:Nat}{rows:List (List AV)}{r r':Rt}(hF:Fn Tryz.prog f (.box 0 0::args) [rtO r] (.arr 1 0 n) [rtO r',.arr true T sz 0 rows]){xs:List Value}{rs:List Rt}{j:Nat}{x:Value}(hj:rs[j]? =some r)(hx:xs[j]? =some x)(ha:args.all AV.free=true):
  Fn Tryz.prog f (.v x::args) [famR xs rs] (.arr 1 0 n) [famR xs (rs.set j r'),.arr true T sz 0 rows]:=by
 have h:=zoS hF (xs:=xs) (ps:=rs.map fun r=>zbr (rtM r 0)) hx (by rw[List.getElem?_map,hj];rfl) ha
 unfold famR
 rw[List.map_set]
 exact h
end Go.Proofs.YtimfnpjcedjmiadGreat
namespace Go.Proofs.YtimfnpjcedjmiadGreat
structure Cb where
 a:Int
 pa:Int
 b:Int
 pb:Int
 m:Int
 inn:Bool
 w0:List UInt8
 w1:List UInt8
structure Nt where
 rs:List Rt
 cs:List Cb
 mt:List (List Int)
 ib:List (List Mg)
def rtD:Rt:=⟨0,[],newB 1,[],0⟩
def Nt.rt(n:Nt)(i:Int):Rt:=n.rs.getD (i-1).toNat rtD
def Nt.onR(n:Nt)(i:Int)(f:Rt->Rt):Nt:={ n with rs:=n.rs.modify (i-1).toNat f }
def putW(inn:Bool)(w s:List UInt8):List UInt8:=if inn=true/\w.length+s.length<=2000 then w++s else w
def zc1(n:Nt)(i:Nat):Nt:=match n.cs[i]? with
 |none=>n
 |some c=>{ n.onR c.a (fun r=>outR r c.pa.toNat) with cs:=n.cs.set i { c with w0:=putW c.inn c.w0 ((n.rt c.a).pt c.pa.toNat).out } }
def zf3(n:Nt)(i:Nat):Nt:=match n.cs[i]? with
 |none=>n
 |some c=>{ n.onR c.b (fun r=>outR r c.pb.toNat) with cs:=n.cs.set i { c with w1:=putW c.inn c.w1 ((n.rt c.b).pt c.pb.toNat).out } }
def zhF(n:Nt)(i:Nat):Nt:=zf3 (zc1 n i) i
def zdM(n:Nt)(i:Nat):Nt:={ n with rs:=n.rs.modify i (fun r=>{ r with inb:=[] }),ib:=n.ib.modify i (fun l=>l++(n.rs.getD i rtD).inb) }
def zbO(n:Nt):Nt:=(List.range n.cs.length).foldl zhF n
def zbM(n:Nt):Nt:=(List.range n.rs.length).foldl zdM (zbO n)
def Nt.cb(n:Nt)(i:Int):Option Cb:=if i<0 then none else n.cs[i.toNat]?
def zfQ(n:Nt)(i:Int)(up:Bool):Int:=match n.cb i with
 |none=>6
 |some c=>if c.inn=up then 7 else 0
def zip(n:Nt)(i:Nat)(c:Cb)(up:Bool):Nt:=(({ n with cs:=n.cs.set i { c with inn:=up,w0:=[],w1:=[] } }:Nt).onR c.a (fun r=>zak r c.pa.toNat up)).onR c.b (fun r=>zak r c.pb.toNat up)
def zbI(n:Nt)(i:Int)(up:Bool):Nt:=match n.cb i with
 |none=>n
 |some c=>if c.inn=up then n else zbM (zip n i.toNat c up)
def Nt.has(n:Nt)(i:Int):Bool:=decide (1<=i)&&decide (i<=n.rs.length)
def zc6(n:Nt)(i:Int):Nt:=if n.has i then zbM (n.onR i zcW) else n
noncomputable def zgs(n:Nt)(i to:Int)(t:ByteArray):Nt:=if n.has i then zbM (n.onR i fun r=>zcY r to t) else n
def delK(many:Int)(w:List UInt8):Nat:=min (max many 0).toNat w.length
noncomputable def ndel0(n:Nt)(i:Nat)(c:Cb)(many:Int):Nt:=({ n with cs:=n.cs.set i { c with w0:=c.w0.drop (delK many c.w0) } }:Nt).onR c.b (fun r=>zay r c.pb.toNat (c.w0.take (delK many c.w0)))
noncomputable def ndel1(n:Nt)(i:Nat)(c:Cb)(many:Int):Nt:=({ n with cs:=n.cs.set i { c with w1:=c.w1.drop (delK many c.w1) } }:Nt).onR c.a (fun r=>zay r c.pa.toNat (c.w1.take (delK many c.w1)))
def zdo(n:Nt)(i way:Int):Int:=if way<0\/1<way then 6 else if (n.cb i).isNone then 6 else 0
noncomputable def ndel(n:Nt)(i way many:Int):Nt:=if way<0\/1<way then n else match n.cb i with
 |none=>n
 |some c=>zbM (if way=1 then ndel1 n i.toNat c many else ndel0 n i.toNat c many)
def zhJ(n:Nt)(i:Int)(k:Nat):Bool:=match n.cs[k]? with
 |none=>false
 |some c=>c.inn&&(c.a==i||c.b==i)
def zcD(i:Int)(s:Nt×List Nat)(k:Nat):Nt×List Nat:=if zhJ s.1 i k then (zbI s.1 (k:Int) false,s.2++[k]) else s
def nrst(n:Nt)(i:Int):Nt:=if n.has i then
  let s:=(List.range n.cs.length).foldl (zcD i) (n,[])
  s.2.foldl (fun q (k:Nat)=>zbI q k true) (s.1.onR i fun _=>newR i (n.mt.getD (i-1).toNat []))
 else n
noncomputable def zh8(n:Nt)(k:Nat):Nt:=(List.range n.cs.length).foldl (fun q (i:Nat)=>ndel (ndel q i 0 2000) i 1 2000) n
noncomputable def zeZ(n:Nt):Nt:=(List.range 12).foldl zh8 ((List.range n.rs.length).foldl (fun q (i:Nat)=>zc6 q ((i:Int)+1)) n)
def non(n:Nt)(i way:Int):Int:=match n.cb i with
 |none=>0
 |some c=>if way=0 then c.w0.length else if way=1 then c.w1.length else 0
end Go.Proofs.YtimfnpjcedjmiadGreat
namespace Go.Proofs.YtimfnpjcedjmiadGreat
open Go.RowKit
def zaw(c:Cb):List AV:=[.v (.int .i64 c.a),.v (.int .i64 c.pa),.v (.int .i64 c.b),.v (.int .i64 c.pb),.v (.int .i64 c.m),.v (.bool c.inn),.v (.string (tx c.w0)),.v (.string (tx c.w1))]
def mtRow(l:List Int):List AV:=[.sl 1 (l.map iRow) none]
def rowsR:Nat->List Rt->List (List AV)
 |_,[]=>[]
 |q,_::rs=>[.box q 0]::rowsR (q+1) rs
def rowsI:Nat->Nat->List (List Mg)->List (List AV)
 |_,_,[]=>[]
 |q,g,l::ib=>[.arr q g l.length]::rowsI (q+1) g ib
def resR:List Rt->List Res
 |[]=>[]
 |r::rs=>rtO r::resR rs
def resI:Nat->List (List Mg)->List Res
 |_,[]=>[]
 |g,l::ib=>.arr true 67 3 g (l.map zdh)::resI g ib
def ntH(k:Nat)(cs:List Cb)(mt:List (List Int))(rr ri:List (List AV)):List Res:=[.cells [.arr 1 0 k,.arr 2 0 cs.length,.arr 3 0 mt.length,.arr 4 0 k],.arr false 45 1 0 rr,.arr true 91 8 0 (cs.map zaw),.arr true 88 1 0 (mt.map mtRow),.arr false 63 1 0 ri]
def ntM(n:Nt)(g:Nat):List Res:=ntH n.rs.length n.cs n.mt (rowsR 5 n.rs) (rowsI (5+n.rs.length) g n.ib)++(resR n.rs++resI g n.ib)
structure Cb.ok (k:Nat) (c:Cb):Prop where
 a:1<=c.a/\c.a<=k
 pa:0<=c.pa/\c.pa<3
 b:1<=c.b/\c.b<=k
 pb:0<=c.pb/\c.pb<3
 w0:c.w0.length<=2000
 w1:c.w1.length<=2000
structure Rt.f3 (n d:Nat) (r:Rt):Prop where
 p3:r.ps.length=3
 f:r.fine n d
structure Nt.ok (k n d e:Nat) (N:Nt):Prop where
 rs:N.rs.length=k
 ib:N.ib.length=k
 mt:N.mt.length=k
 m3: ∀l∈N.mt,∃a b c,l=[a,b,c]/\(1<=a/\a<=20)/\(1<=b/\b<=20)/\(1<=c/\c<=20)
 cs:N.cs.length<=9
 r: ∀r∈N.rs,r.f3 n d
 c: ∀c∈N.cs,c.ok k
 i: ∀l∈N.ib,l.length<=e
theorem zgy{n d k e:Nat}{r q:Rt}(h:r.f3 n d)(hl:Like r q)(hf:q.fine k e):q.f3 k e:=⟨hl.2.trans h.p3,hf⟩
theorem fine_out{n d:Nat}{r:Rt}(h:r.fine n d)(i:Nat):(outR r i).fine n d:=zbE h (Nat.le_refl _) i (fun p hp=>⟨hp.m,hp.l,hp.rd,hp.pe,Nat.zero_le _⟩)
theorem zk9(r:Rt)(i:Nat):Like r (outR r i):=zav ..
theorem f3_out{n d:Nat}{r:Rt}(h:r.f3 n d)(i:Nat):(outR r i).f3 n d:=zgy h (zk9 ..) (fine_out h.f i)
theorem zas{k n d e m f:Nat}{N:Nt}(h:N.ok k n d e)(hn:n<=m)(hd:d<=f)(i:Int){F:Rt->Rt}(hF: ∀r,r.f3 n d->(F r).f3 m f):(N.onR i F).ok k m f e:=by
 refine⟨by rw[<-h.rs];simp [Nt.onR],h.ib,h.mt,h.m3,h.cs,fun r hr=>?_,h.c,h.i⟩
 rcases zfD (show r∈N.rs.modify (i-1).toNat F from hr) with g|⟨y,hy,rfl⟩
 ·exact⟨(h.r r g).p3,((h.r r g).f.up hn).upD hd⟩
 ·exact hF y (h.r y hy)
theorem zdr{k n d e:Nat}{N:Nt}(h:N.ok k n d e)(i:Nat){c:Cb}(hc:c.ok k):Nt.ok k n d e { N with cs:=N.cs.set i c }:=by
 refine⟨h.rs,h.ib,h.mt,h.m3,by rw[List.length_set];exact h.cs,h.r,fun q hq=>?_,h.i⟩
 rcases List.mem_or_eq_of_mem_set hq with g|g
 ·exact h.c q g
 ·exact g▸hc
theorem zkm{inn:Bool}{w s:List UInt8}(h:w.length<=2000):(putW inn w s).length<=2000:=by
 unfold putW
 split
 ·rw[List.length_append];omega
 ·exact h
theorem getq{α:Type}{l:List α}{i:Nat}{x:α}(h:l[i]? =some x):x∈l:=List.mem_of_getElem? h
theorem ok_g0{k n d e:Nat}{N:Nt}(h:N.ok k n d e)(i:Nat):(zc1 N i).ok k n d e:=by
 unfold zc1
 split
 ·exact h
 ·rename_i c hc
  have q:=h.c c (getq hc)
  exact zdr (zas h (Nat.le_refl _) (Nat.le_refl _) c.a (fun r hr=>f3_out hr c.pa.toNat)) i ⟨q.a,q.pa,q.b,q.pb,zkm q.w0,q.w1⟩
theorem ok_g1{k n d e:Nat}{N:Nt}(h:N.ok k n d e)(i:Nat):(zf3 N i).ok k n d e:=by
 unfold zf3
 split
 ·exact h
 ·rename_i c hc
  have q:=h.c c (getq hc)
  exact zdr (zas h (Nat.le_refl _) (Nat.le_refl _) c.b (fun r hr=>f3_out hr c.pb.toNat)) i ⟨q.a,q.pa,q.b,q.pb,q.w0,zkm q.w1⟩
theorem cs_g0(N:Nt)(i:Nat):(zc1 N i).cs.length=N.cs.length:=by
 unfold zc1
 split
 ·rfl
 ·show (N.cs.set _ _).length=_
  rw[List.length_set]
theorem cs_g1(N:Nt)(i:Nat):(zf3 N i).cs.length=N.cs.length:=by
 unfold zf3
 split
 ·rfl
 ·show (N.cs.set _ _).length=_
  rw[List.length_set]
theorem zdc{cs:List Cb}{i:Nat}{c:Cb}(h:cs[i]? =some c):(cs.map zaw)[i]? =some (zaw c):=by rw[List.getElem?_map,h];rfl
theorem zid{cs:List Cb}{i:Nat}{c:Cb}:(cs.map zaw).set i (zaw c)=(cs.set i c).map zaw:=by rw[List.map_set]
theorem tx_app(a b:List UInt8):tx a++tx b=tx (a++b):=by rw[<-zdm (tx a++tx b),zfr]
theorem zhr{α:Type}{l:List α}{i:Nat}{x:α}(h:l[i]? =some x):l.set i x=l:=by
 obtain⟨hi,e⟩:=List.getElem?_eq_some_iff.1 h
 rw[<-e,List.set_getElem_self]
theorem gcase(inn:Bool)(w s:List UInt8):(inn=false/\putW inn w s=w)\/(inn=true/\w.length+s.length<=2000/\putW inn w s=w++s)\/(inn=true/\2000<w.length+s.length/\putW inn w s=w):=by
 unfold putW
 cases inn
 ·exact .inl ⟨rfl,if_neg (fun h=>by cases h.1)⟩
 ·by_cases h:w.length+s.length<=2000
  ·exact .inr (.inl ⟨rfl,h,if_pos ⟨rfl,h⟩⟩)
  ·exact .inr (.inr ⟨rfl,by omega,if_neg (fun g=>h g.2)⟩)
theorem g0_cb{N:Nt}{i:Nat}{c:Cb}(h:N.cs[i]? =some c):(zc1 N i).cs[i]? =some { c with w0:=putW c.inn c.w0 ((N.rt c.a).pt c.pa.toNat).out }:=by
 have hi:=(List.getElem?_eq_some_iff.1 h).1
 unfold zc1
 rw[h]
 show (N.cs.set i _)[i]? =_
 rw[List.getElem?_set,if_pos rfl,if_pos hi]
theorem len4{α:Type}{l:List α}(h:l.length=4): ∃a b c d,l=[a,b,c,d]:=by
 match l,h with
 |[a,b,c,d],_=>exact⟨a,b,c,d,rfl⟩
theorem len5{α:Type}{l:List α}(h:l.length=5): ∃a b c d e,l=[a,b,c,d,e]:=by
 match l,h with
 |[a,b,c,d,e],_=>exact⟨a,b,c,d,e,rfl⟩
theorem len6{α:Type}{l:List α}(h:l.length=6): ∃a b c d e f,l=[a,b,c,d,e,f]:=by
 match l,h with
 |[a,b,c,d,e,f],_=>exact⟨a,b,c,d,e,f,rfl⟩
theorem zcZ{α:Type}{f:α->Nat->α}{a b:α}{i:Nat}(h:b=(List.range i).foldl f a):f b i=(List.range (i+1)).foldl f a:=by
 rw[List.range_succ,List.foldl_append,<-h];rfl
def gathPl:List (Nat×Pl):=[(4,.op 0 (.op 1 (.op 2 (.op 3 (.op 4 (.op 5 (.op 6 (.op 7 (.op 8 (.op 9 (.op 10 (.op 11 (.op 12 (.op 13 (.op 14 (.op 15 (.op 16 (.op 17 (.op 18 (.op 19 (.op 20 (.op 21 (.op 22 (.op 23 (.op 24 (.done)))))))))))))))))))))))))),(7,.op 0 (.op 1 (.op 2 (.op 3 (.op 4 (.op 5 (.op 6 (.op 7 (.op 8 (.op 9 (.op 10 (.op 11 (.op 12 (.op 13 (.op 14 (.op 15 (.op 16 (.done)))))))))))))))))),(9,.op 0 (.op 1 (.op 2 (.op 3 (.op 4 (.op 5 (.op 6 (.op 7 (.op 8 (.op 9 (.op 10 (.op 11 (.done))))))))))))),(15,.op 0 (.op 1 (.op 2 (.op 4 (.op 5 (.op 6 (.op 7 (.op 9 (.op 12 (.b3 3 (.br 8 (.br 10 (.br 11 (.op 13 (.op 14 (.op 15 (.op 16 (.done))))) 13 (.op 11 (.op 14 (.op 15 (.op 16 (.done)))))) 13 (.op 10 (.op 11 (.op 14 (.op 15 (.op 16 (.done))))))) 13 (.op 8 (.op 10 (.op 11 (.op 14 (.op 15 (.op 16 (.done)))))))) 8 (.b3 3 (.br 10 (.br 11 (.op 13 (.op 14 (.op 15 (.op 16 (.done))))) 13 (.op 11 (.op 14 (.op 15 (.op 16 (.done)))))) 13 (.op 10 (.op 11 (.op 14 (.op 15 (.op 16 (.done))))))) 10 (.b3 3 (.br 11 (.op 13 (.op 14 (.op 15 (.op 16 (.done))))) 13 (.op 11 (.op 14 (.op 15 (.op 16 (.done)))))) 11 (.br 3 (.op 13 (.op 14 (.op 15 (.op 16 (.done))))) 13 (.br 3 (.op 14 (.op 15 (.op 16 (.done)))) 14 (.op 3 (.op 15 (.op 16 (.done)))))) 13 (.op 11 (.br 3 (.op 14 (.op 15 (.op 16 (.done)))) 14 (.op 3 (.op 15 (.op 16 (.done))))))) 13 (.op 10 (.op 11 (.br 3 (.op 14 (.op 15 (.op 16 (.done)))) 14 (.op 3 (.op 15 (.op 16 (.done)))))))) 13 (.op 8 (.op 10 (.op 11 (.br 3 (.op 14 (.op 15 (.op 16 (.done)))) 14 (.op 3 (.op 15 (.op 16 (.done))))))))))))))))))]
def nplugPl:List (Nat×Pl):=[(7,.op 0 (.op 1 (.op 2 (.op 3 (.op 4 (.op 5 (.op 6 (.op 7 (.op 8 (.op 9 (.op 10 (.op 11 (.op 12 (.op 13 (.op 14 (.op 15 (.op 16 (.op 17 (.op 18 (.done)))))))))))))))))))),(8,.op 0 (.op 1 (.op 2 (.op 3 (.op 4 (.op 5 (.op 6 (.op 7 (.op 8 (.op 9 (.op 10 (.op 11 (.op 12 (.op 13 (.op 14 (.op 15 (.op 16 (.op 17 (.op 18 (.done))))))))))))))))))))]
def ndelPl:List (Nat×Pl):=[(6,.op 0 (.op 1 (.op 2 (.op 3 (.op 4 (.op 5 (.op 6 (.op 7 (.op 8 (.op 9 (.op 10 (.op 11 (.op 12 (.op 13 (.done))))))))))))))),(7,.op 0 (.op 1 (.op 2 (.op 3 (.op 4 (.op 5 (.op 6 (.op 7 (.op 8 (.op 9 (.op 10 (.op 11 (.done))))))))))))),(9,.op 0 (.op 1 (.op 2 (.op 3 (.op 4 (.op 5 (.op 6 (.op 7 (.op 8 (.op 9 (.op 10 (.op 11 (.done)))))))))))))]
theorem Hd.setr{rows:List (List AV)}{i:Nat}{K:List AV->Prop}{r:List AV}{Q:Prop}(q:Hd Q)(h:i<rows.length)(k:Hd Q->K r):StopRow (rows.set i r) i K:=⟨r,by rw[List.getElem?_set,if_pos rfl,if_pos h],k q⟩
theorem fx{P Q:Prop}(q:Q)(r:Hd Q->P:=by
  intro q
  repeat' ((conv=>whnf);first
   |((with_reducible apply Hd.and q);clear q;intro q;rotate_left;clear q;intro q;rotate_right)
   |(with_reducible exact Hd.tru q True.intro)
   |((
     with_reducible refine Im.to ?_);first
     |(refine Hd.tru q ⟨?_⟩;intro h;first|(cases h;done)|((try simp only[vis,Int.reduceToNat] at h)<;>(exfalso;omega)))
     |(apply Hd.raw q;clear q;intro q h;cases h)
     |(apply Hd.red q;(focus (intro h;(try simp only[vis,Int.reduceToNat] at h);exact h));clear q;intro q h))
   |(apply Hd.pos q rfl rfl;clear q;intro q)
   |(apply Hd.setr q;(focus (first|(simp only[List.length_map,List.length_set,Int.toNat_natCast];omega)|(simp;done)|(simp;omega)));clear q;intro q)
   |(apply Hd.row q rfl;clear q;intro q)
   |(apply Hd.row q;(focus assumption);clear q;intro q)
   |(apply Hd.lit q rfl rfl;clear q;intro q)
   |((with_reducible refine Al.to ?_);apply Hd.al q;clear q;intro q;rotate_left;clear q;intro q;rotate_right)
   |(apply Hd.idx q;(focus (first|omega|(simp;done)|(simp;omega)));clear q;intro hh q)
   |(apply Hd.idxI q;(focus (first|omega|(simp;done)|(simp;omega)));(focus (first|omega|(simp;done)|(simp;omega)));clear q;intro hh q)
   |(refine Hd.tru q ?_;(first|omega|(refine Vc.mk ?_;first|exact GLt|exact⟨by decide,by decide⟩)))
   |(refine Hd.vc q)
   |exact q.o)):P:=r ⟨q⟩
theorem zmC{n d:Nat}{r:Rt}(h:r.fine n d):(zcW r).fine (n+2210*r.ps.length) d:=by
 have key: ∀m,m<=r.ps.length->((List.range m).foldl zbT r).fine (n+2210*m) d/\Like r ((List.range m).foldl zbT r):=by
  intro m
  induction m with
  |zero=>intro _;exact⟨h,Like.refl r⟩
  |succ m ih=>
   intro hm
   obtain⟨h1,h2⟩:=ih (by omega)
   rw[List.range_succ,List.foldl_append]
   have:=zd2 h1 (i:=m) (by rw[h2.2];omega)
   exact⟨this.up (by omega),h2.trans (zcS ..)⟩
 exact (key _ (Nat.le_refl _)).1
theorem zk3{n d:Nat}{r:Rt}(h:r.f3 n d):(zcW r).f3 (n+6630) d:=zgy h (zfq r) (by have:=zmC h.f;rw[h.p3] at this;exact this)
theorem zhd{n d:Nat}{r:Rt}(h:r.f3 n d)(to:Int)(t:ByteArray):(zcY r to t).f3 (n+6630) (d+1):=by
 refine zgy h (zej ..) ?_
 unfold zcY
 split
 ·exact (h.f.up (by omega)).upD (by omega)
 ·exact (zjU h.f _).up (by omega)
theorem zmb{n d:Nat}{r:Rt}(h:r.fine n d)(i:Nat)(up:Bool):(zak r i up).fine (n+390) d:=by
 unfold zak
 split
 ·exact h.up (by omega)
 ·exact zbe (zbE h (by omega) i (fun p hp=>zfG (p:={ p with l:=doL p.l (if up then 0 else 1),rd:=rd0,rest:=[] }) (k:=3) hp.m rd0_ok hp.pe hp.out (zdb hp.l (by decide)))) i zep
theorem zdF{n d:Nat}{r:Rt}(h:r.f3 n d)(i:Nat)(up:Bool):(zak r i up).f3 (n+390) d:=zgy h (zeM ..) (zmb h.f i up)
theorem ok_gathL{k n d e:Nat}{N:Nt}(h:N.ok k n d e):(zbO N).ok k n d e:=by
 unfold zbO
 generalize N.cs.length=m
 induction m with
 |zero=>exact h
 |succ m ih=>
  rw[List.range_succ,List.foldl_append]
  exact ok_g1 (ok_g0 ih m) m
theorem zdX{k n d e:Nat}{N:Nt}(h:N.ok k n d e):(zbM N).ok k n d (e+n):=by
 have h0:=ok_gathL h
 have hl:N.rs.length=(zbO N).rs.length:=by rw[h.rs,h0.rs]
 unfold zbM
 rw[hl]
 generalize zbO N=N at *
 clear h hl
 have key: ∀m,m<=k->let Q:=(List.range m).foldl zdM N
   Q.rs.length=k/\Q.ib.length=k/\Q.mt=N.mt/\Q.cs=N.cs/\(∀r∈Q.rs,r.f3 n d)/\(∀j l,Q.ib[j]? =some l->l.length<=e+(if j<m then n else 0)):=by
  intro m
  induction m with
  |zero=>intro _;exact⟨h0.rs,h0.ib,rfl,rfl,h0.r,fun j l hj=>by have:=h0.i l (getq hj);omega⟩
  |succ m ih=>
   intro hm
   obtain⟨a1,a2,a3,a4,a5,a6⟩:=ih (by omega)
   rw[List.range_succ,List.foldl_append]
   generalize (List.range m).foldl zdM N=Q at *
   show (zdM Q m).rs.length=k/\(zdM Q m).ib.length=k/\_
   refine⟨by rw[<-a1];simp [zdM],by rw[<-a2];simp [zdM],a3,a4,fun r hr=>?_,fun j l hj=>?_⟩
   ·rcases zfD (show r∈Q.rs.modify m _ from hr) with g|⟨y,hy,rfl⟩
    ·exact a5 r g
    ·have:=a5 y hy
     exact⟨this.p3,this.f.b,this.f.ps,Nat.zero_le _,this.f.dr⟩
   ·have hj':(Q.ib.modify m fun l=>l++(Q.rs.getD m rtD).inb)[j]? =some l:=hj
    rw[List.getElem?_modify] at hj'
    cases hq:Q.ib[j]? with
    |none=>rw[hq] at hj';simp at hj'
    |some l0=>
     have:=a6 j l0 hq
     rw[hq] at hj'
     simp only[Option.map_eq_map,Option.map_some,Option.some.injEq] at hj'
     by_cases hmj:m=j
     ·subst hmj
      rw[if_pos rfl] at hj'
      subst hj'
      rw[if_neg (by omega)] at this
      rw[if_pos (by omega),List.length_append]
      have hlt:m<Q.rs.length:=by omega
      have hin:=(a5 Q.rs[m] (List.getElem_mem hlt)).f.inb
      rw[List.getD_eq_getElem?_getD,List.getElem?_eq_getElem hlt]
      simp only[Option.getD_some]
      omega
     ·rw[if_neg hmj] at hj'
      subst hj'
      split at this<;>split<;>omega
 obtain⟨a1,a2,a3,a4,a5,a6⟩:=key k (Nat.le_refl _)
 rw[h0.rs]
 refine⟨a1,a2,by rw[a3];exact h0.mt,by rw[a3];exact h0.m3,by rw[a4];exact h0.cs,a5,by rw[a4];exact h0.c,fun l hl=>?_⟩
 obtain⟨j,hj⟩:=List.mem_iff_getElem?.1 hl
 have hjl:=(List.getElem?_eq_some_iff.1 hj).1
 have:=a6 j l hj
 split at this<;>omega
theorem zc9{N:Nt}{i:Int}:N.has i=true↔1<=i/\i<=N.rs.length:=by unfold Nt.has;simp
theorem Nt.ok.up{k n d e m f g:Nat}{N:Nt}(h:N.ok k n d e)(hn:n<=m)(hd:d<=f)(he:e<=g):N.ok k m f g:=⟨h.rs,h.ib,h.mt,h.m3,h.cs,fun r hr=>⟨(h.r r hr).p3,((h.r r hr).f.up hn).upD hd⟩,h.c,fun l hl=>Nat.le_trans (h.i l hl) he⟩
theorem znC{n d:Nat}{r:Rt}(h:r.fine n d)(i:Nat){s:List UInt8}(hs:s.length<=2000):(zay r i s).fine (n+1040000) (d+2000):=by
 have hl:=(zcz (r.pt i).rd s).1
 have h0:Rt.fine n d (r.onP i fun p=>{ p with rd:=(za2 p.rd s).1,rest:=(zcA (p.rest++s)).2.2 }):=zbE h (Nat.le_refl _) i (fun p hq=>⟨hq.m,hq.l,zed hq.rd _,hq.pe,hq.out⟩)
 unfold zay
 generalize (za2 (r.pt i).rd s).2.1=T at *
 generalize (r.onP i fun p=>{ p with rd:=(za2 p.rd s).1,rest:=(zcA (p.rest++s)).2.2 })=q at *
 have key: ∀(T:List (List UInt8)) (n d:Nat) (q:Rt),q.fine n d->(T.foldl (takT i) q).fine (n+520*T.length) (d+T.length):=by
  intro T
  induction T with
  |nil=>intro n d q hq;exact hq
  |cons t T ih=>
   intro n d q hq
   have:=ih (n+520) (d+1) _ (zea hq i t)
   rw[List.foldl_cons,List.length_cons]
   exact (this.up (by omega)).upD (by omega)
 exact ((key T n d q h0).up (by omega)).upD (by omega)
theorem zdA{n d:Nat}{r:Rt}(h:r.f3 n d)(i:Nat){s:List UInt8}(hs:s.length<=2000):(zay r i s).f3 (n+1040000) (d+2000):=zgy h (zeO ..) (znC h.f i hs)
theorem zmZ(many:Int)(w:List UInt8):delK many w<=w.length:=by unfold delK;omega
theorem znm(many:Int)(w:List UInt8):(if ((tx w).size:Int)<(if many<0 then 0 else many) then ((tx w).size:Int) else (if many<0 then 0 else many))=(delK many w:Int):=by
 have:(tx w).size=w.length:=tx_size
 rw[this]
 unfold delK
 (repeat' split)<;>omega
theorem ext0{w:List UInt8}{k:Nat}(h:k<=w.length):(tx w).extract 0 k=tx (w.take k):=by rw[zd0 _ (by rw[bs_tx];exact h),bs_tx,List.drop_zero]
theorem ext1{w:List UInt8}{k:Nat}:(tx w).extract k (tx w).size=tx (w.drop k):=by
 have:(tx w).size=w.length:=tx_size
 rw[zd0 _ (by rw[bs_tx,this];exact Nat.le_refl _),bs_tx,this,List.take_length]
end Go.Proofs.YtimfnpjcedjmiadGreat
namespace Go.Proofs.YtimfnpjcedjmiadGreat
def Pt.idle(p:Pt):Prop:=p.l.st=1/\p.l.out=[]/\p.out=[]/\p.p=peNo
structure Idl (X:Nat->Prop) (r r':Rt):Prop where
 h: ∀p q,¬X p->r.ps[p]? =some q->q.idle->r'.ps[p]? =some q
section
variable {X:Nat->Prop} {r r' q:Rt}
theorem Idl.refl(r:Rt):Idl X r r:=⟨fun _ _ _ h _=>h⟩
theorem Idl.trans{a b c:Rt}(h:Idl X a b)(g:Idl X b c):Idl X a c:=⟨fun p q hx hq hi=>g.h p q hx (h.h p q hx hq hi) hi⟩
theorem Idl.mono{Y:Nat->Prop}(h:Idl X r r')(hY: ∀p,X p->Y p):Idl Y r r':=⟨fun p q hx hq hi=>h.h p q (fun g=>hx (hY p g)) hq hi⟩
theorem zfX(h:r'.ps=r.ps):Idl X r r':=⟨fun p q _ hq _=>by rw[h];exact hq⟩
theorem zh0(r:Rt)(i:Nat)(f:Pt->Pt)(p:Nat):(r.onP i f).ps[p]? =(fun q=>if i=p then f q else q) <$> r.ps[p]? :=by
 show (r.ps.modify i f)[p]? =_
 rw[List.getElem?_modify]
theorem zdJ(r:Rt)(i:Nat)(f:Pt->Pt):Idl (· =i) r (r.onP i f):=⟨fun p q hx hq _=>by
 rw[zh0,hq]
 show some (if i=p then f q else q)=some q
 rw[if_neg (fun e=>hx e.symm)]⟩
theorem zmg(r:Rt):(zbj r).ps=r.ps:=by unfold zbj;split<;>rfl
theorem ps_meet(r:Rt)(i:Nat)(now:Pe):(zaU r i now).ps=(r.onP i fun p=>{ p with p:=now }).ps:=by
 unfold zaU
 split
 ·rfl
 ·split
  ·exact zmg _
  ·exact zmg _
theorem ze9(r:Rt)(i:Nat)(now:Pe):Idl (· =i) r (zaU r i now):=(zdJ r i _).trans (zfX (ps_meet r i now))
theorem zlT(r:Rt)(i:Nat)(up:Bool):Idl (· =i) r (zak r i up):=by
 unfold zak
 split
 ·exact Idl.refl r
 ·exact (zdJ ..).trans (ze9 ..)
theorem zny(r:Rt)(i:Nat)(s:List UInt8):Idl (· =i) r (zbB r i s):=by
 unfold zbB
 split
 ·exact Idl.refl r
 ·split
  ·split
   ·exact zfX rfl
   ·exact Idl.refl r
  ·split
   ·exact (zdJ r i _).trans (zfX rfl)
   ·exact zfX rfl
theorem zht(r:Rt)(i:Nat)(s:List UInt8):(zcH r i s).ps=r.ps:=by unfold zcH;split<;>rfl
theorem zoT(ps:List Pt)(n:Int):zjJ ps n<0\/ ∃q,ps[(zjJ ps n).toNat]? =some q/\q.p.both=true:=by
 unfold zjJ
 have key: ∀m,m<=ps.length->let b:=(List.range m).foldl (zb5 ps n) (-1)
   b<0\/ ∃q,ps[b.toNat]? =some q/\q.p.both=true:=by
  intro m
  induction m with
  |zero=>intro _;left;show (-1:Int)<0;decide
  |succ m ih=>
   intro hm
   have:=ih (by omega)
   rw[List.range_succ,List.foldl_append]
   generalize (List.range m).foldl (zb5 ps n) (-1)=b at *
   show zb5 ps n b m<0\/_
   simp only[List.foldl_cons,List.foldl_nil]
   unfold zb5
   split
   ·rename_i h
    right
    refine⟨ps[m],?_,?_⟩
    ·rw[Int.toNat_natCast];exact List.getElem?_eq_getElem (by omega)
    ·have:=h.1
     rw[List.getD_eq_getElem?_getD,List.getElem?_eq_getElem (by omega)] at this
     exact this
   ·exact this
 exact key _ (Nat.le_refl _)
theorem zkk(r:Rt)(m:Mg):Idl X r (zcu r m):=by
 unfold zcu
 split
 ·exact zfX rfl
 ·split
  ·exact zfX rfl
  ·split
   ·exact zfX rfl
   ·rename_i h _ hb
    refine⟨fun p q _ hq hi=>?_⟩
    rw[zh0,hq]
    show some (if _=p then _ else q)=some q
    split
    ·rename_i e
     rcases zoT r.ps h.2.2 with g|⟨q',h1,h2⟩
     ·omega
     ·rw[e,hq] at h1
      obtain rfl:=Option.some.inj h1
      rw[hi.2.2.2] at h2
      cases h2
    ·rfl
theorem zmw(r:Rt)(s:List UInt8):Idl X r (zb0 r s):=by
 unfold zb0
 split
 ·exact zkk ..
 ·exact Idl.refl r
theorem idl_tak(r:Rt)(i:Nat)(k:UInt8)(s:List UInt8):Idl (· =i) r (takR r i k s):=by
 have h:Idl (· =i) r (tak1 r i k s):=by
  unfold tak1
  split
  ·exact zdJ ..
  ·exact Idl.refl r
 unfold takR
 split
 ·exact h.trans (ze9 ..)
 ·split
  ·split
   ·exact h.trans (ze9 ..)
   ·exact h
  ·split
   ·exact h.trans (zny ..)
   ·split
    ·exact h.trans (zfX (zht ..))
    ·split
     ·exact h.trans (zmw ..)
     ·exact h
theorem zlR(r:Rt)(i:Nat)(s:List UInt8):Idl (· =i) r (zay r i s):=by
 unfold zay
 refine Idl.trans (zdJ r i fun p=>{ p with rd:=(za2 p.rd s).1,rest:=(zcA (p.rest++s)).2.2 }) ?_
 generalize (za2 (r.pt i).rd s).2.1=T
 generalize (r.onP i fun p=>{ p with rd:=(za2 p.rd s).1,rest:=(zcA (p.rest++s)).2.2 })=q
 induction T generalizing q with
 |nil=>exact Idl.refl q
 |cons t T ih=>
  refine Idl.trans ?_ (ih _)
  unfold takT
  split
  ·exact Idl.refl _
  ·exact idl_tak ..
theorem znj(r:Rt)(to:Int)(t:ByteArray):Idl X r (zcY r to t):=by
 unfold zcY
 split
 ·exact Idl.refl r
 ·exact zkk ..
theorem zgR{r:Rt}{i:Nat}{q:Pt}(h:r.ps[i]? =some q):r.pt i=q:=by
 unfold Rt.pt
 rw[List.getD_eq_getElem?_getD,h];rfl
theorem zot(r:Rt)(i:Nat):Idl X r (zbT r i):=by
 refine⟨fun p q _ hq hi=>?_⟩
 by_cases e:p=i
 ·subst e
  obtain⟨h1,h2,h3,h4⟩:=hi
  have hl:zaE q.l=q.l:=by
   have:zac q.l=q.l:=by unfold zac;rw[if_neg (by omega)]
   unfold zaE
   rw[this,if_neg (by omega)]
  have hf:zb2 { q with l:=zaE q.l }=q:=by
   rw[hl]
   obtain⟨m,l,rd,rest,pe,out⟩:=q
   obtain⟨a1,a2,a3,a4,a5,a6,a7,a8,a9,a10,a11⟩:=l
   dsimp only at h2 h3
   subst h2 h3
   rfl
  have h0:(zaz r p).ps[p]? =some q:=by
   unfold zaz
   rw[zh0,hq]
   show some (if p=p then zb2 { q with l:=zaE q.l } else q)=some q
   rw[if_pos rfl,hf]
  have hp0:=zgR h0
  unfold zbT
  rw[hp0,if_pos (by omega),ps_meet,zh0,h0]
  show some (if p=p then { q with p:=peNo } else q)=some q
  rw[if_pos rfl,<-h4]
 ·have h:Idl (· =i) r (zbT r i):=by
   have h0:Idl (· =i) r (zaz r i):=zdJ ..
   unfold zbT
   split
   ·exact h0.trans (ze9 ..)
   ·refine (h0.trans (ze9 (zaz r i) i (zam ((zaz r i).pt i).p))).trans ?_
    refine Idl.trans (zdJ _ i (zaP r.id)) ?_
    generalize (owdB _ _)=L
    generalize (Rt.onP _ i (zaP r.id))=z
    induction L generalizing z with
    |nil=>exact Idl.refl _
    |cons x L ih=>exact Idl.trans (zdJ z i (zaT x)) (ih _)
  exact h.h p q e hq hi
theorem idl_tick(r:Rt):Idl X r (zcW r):=by
 unfold zcW
 generalize List.range r.ps.length=L
 induction L generalizing r with
 |nil=>exact Idl.refl r
 |cons i L ih=>exact (zot r i).trans (ih _)
end
def Cb.at(c:Cb)(i p:Nat):Prop:=(c.a=(i:Int)+1/\c.pa=p)\/(c.b=(i:Int)+1/\c.pb=p)
def Nt.wired(N:Nt)(i p:Nat):Prop:= ∃c∈N.cs,c.at i p
def Ends(c d:Cb):Prop:=d.a=c.a/\d.pa=c.pa/\d.b=c.b/\d.pb=c.pb/\d.m=c.m/\d.inn=c.inn
theorem zn3{c d:Cb}(h:Ends c d){i p:Nat}:d.at i p↔c.at i p:=by unfold Cb.at;rw[h.1,h.2.1,h.2.2.1,h.2.2.2.1]
def Pt.cl(q q':Pt):Prop:=q'=q\/q'={ q with out:=[] }
theorem Pt.cl.out{q q':Pt}(h:q.cl q')(ho:q.out=[]):q'.out=[]:=by
 rcases h with rfl|rfl
 ·exact ho
 ·rfl
theorem zjq(N:Nt)(a:Int)(f:Rt->Rt)(i:Nat):(N.onR a f).rs[i]? =(fun r=>if (a-1).toNat=i then f r else r) <$> N.rs[i]? :=by
 show (N.rs.modify _ f)[i]? =_
 rw[List.getElem?_modify]
structure Gd (W:Nat->Prop) (r r':Rt):Prop where
 id:r'.id=r.id
 b:r'.b=r.b
 inb:r'.inb=r.inb
 dr:r'.dr=r.dr
 len:r'.ps.length=r.ps.length
 ps: ∀p q,r.ps[p]? =some q-> ∃q',r'.ps[p]? =some q'/\q.cl q'/\(W p->q'.out=[])
theorem Gd.refl(r:Rt):Gd (fun _=>False) r r:=⟨rfl,rfl,rfl,rfl,rfl,fun p q h=>⟨q,h,.inl rfl,fun g=>g.elim⟩⟩
theorem Gd.step{W V:Nat->Prop}{r r':Rt}(h:Gd W r r')(a:Bool)(pa:Nat)(hV: ∀p,V p->W p\/(a=true/\pa=p)):Gd V r (if a=true then outR r' pa else r'):=by
 cases a with
 |false=>exact⟨h.id,h.b,h.inb,h.dr,h.len,fun p q hq=>by
   obtain⟨q',h1,h2,h3⟩:=h.ps p q hq
   exact⟨q',h1,h2,fun hv=>h3 ((hV p hv).resolve_right (fun g=>by cases g.1))⟩⟩
 |true=>
  refine⟨h.id,h.b,h.inb,h.dr,by rw[<-h.len];exact (zk9 r' pa).2,fun p q hq=>?_⟩
  obtain⟨q',h1,h2,h3⟩:=h.ps p q hq
  have e:(outR r' pa).ps[p]? =some (if pa=p then { q' with out:=[] } else q'):=by
   unfold outR
   rw[zh0,h1];rfl
  rw[if_pos rfl]
  refine⟨_,e,?_,fun hv=>?_⟩
  ·split
   ·rcases h2 with rfl|rfl
    ·exact .inr rfl
    ·exact .inr rfl
   ·exact h2
  ·rcases hV p hv with g|g
   ·have:=h3 g
    split
    ·rfl
    ·exact this
   ·rw[if_pos g.2]
structure GL (N Q:Nt) (m:Nat):Prop where
 mt:Q.mt=N.mt
 ib:Q.ib=N.ib
 cl:Q.cs.length=N.cs.length
 cs: ∀(j:Nat) (c:Cb),N.cs[j]? =some c-> ∃d,Q.cs[j]? =some d/\Ends c d/\(c.inn=false->d.w0=c.w0/\d.w1=c.w1)
 rl:Q.rs.length=N.rs.length
 rs: ∀(i:Nat) (r:Rt),N.rs[i]? =some r-> ∃r',Q.rs[i]? =some r'/\Gd (fun p=> ∃j c,j<m/\N.cs[j]? =some c/\c.at i p) r r'
theorem zjQ{cs:List Cb}{m j:Nat}{c d:Cb}(h:cs[j]? =some c):(cs.set m d)[j]? =some (if m=j then d else c):=by
 have hlt:=(List.getElem?_eq_some_iff.1 h).1
 rw[List.getElem?_set]
 split
 ·rename_i e
  subst e
  rw[if_pos hlt]
 ·exact h
theorem gl_step{k n d e:Nat}{N Q:Nt}{m:Nat}(hN:N.ok k n d e)(h:GL N Q m)(hm:m<N.cs.length):GL N (zhF Q m) (m+1):=by
 obtain⟨c,hc⟩: ∃c,N.cs[m]? =some c:=⟨_,List.getElem?_eq_getElem hm⟩
 have hco:=hN.c c (getq hc)
 obtain⟨c1,hc1,he1,hw1⟩:=h.cs m c hc
 have hg0:zc1 Q m={ Q.onR c1.a (fun r=>outR r c1.pa.toNat) with cs:=Q.cs.set m { c1 with w0:=putW c1.inn c1.w0 ((Q.rt c1.a).pt c1.pa.toNat).out } }:=by unfold zc1;rw[hc1]
 have hc2:=g0_cb hc1
 have hg1:zhF Q m={ (zc1 Q m).onR c1.b (fun r=>outR r c1.pb.toNat) with cs:=(zc1 Q m).cs.set m { c1 with w0:=putW c1.inn c1.w0 ((Q.rt c1.a).pt c1.pa.toNat).out,w1:=putW c1.inn c1.w1 (((zc1 Q m).rt c1.b).pt c1.pb.toNat).out } }:=by
  show zf3 (zc1 Q m) m=_
  unfold zf3
  rw[hc2]
 have hput: ∀w s,c.inn=false->putW c1.inn w s=w:=fun w s hi=>by unfold putW;rw[he1.2.2.2.2.2,hi,if_neg (fun g=>by cases g.1)]
 refine⟨by rw[hg1,hg0];exact h.mt,by rw[hg1,hg0];exact h.ib,by rw[hg1,hg0];simp only[Nt.onR,List.length_set];exact h.cl,fun j cj hj=>?_,by rw[hg1,hg0];simp only[Nt.onR,List.length_modify];exact h.rl,fun i r hr=>?_⟩
 ·obtain⟨d1,hd1,hd2,hd3⟩:=h.cs j cj hj
  rw[hg1,hg0]
  refine⟨_,zjQ (zjQ hd1),?_,fun hi=>?_⟩
  ·by_cases e:m=j
   ·subst e
    rw[if_pos rfl]
    rw[hc] at hj
    obtain rfl:=Option.some.inj hj
    exact he1
   ·rw[if_neg e,if_neg e];exact hd2
  ·by_cases e:m=j
   ·subst e
    rw[if_pos rfl]
    rw[hc] at hj
    obtain rfl:=Option.some.inj hj
    exact⟨by dsimp only;rw[hput _ _ hi];exact (hw1 hi).1,by dsimp only;rw[hput _ _ hi];exact (hw1 hi).2⟩
   ·rw[if_neg e,if_neg e];exact hd3 hi
 ·obtain⟨r',h1,h2⟩:=h.rs i r hr
  refine⟨_,by rw[hg1,hg0];show ((Q.rs.modify _ _).modify _ _)[i]? =_;rw[List.getElem?_modify,List.getElem?_modify,h1];rfl,?_⟩
  have s1:=h2.step (V:=fun p=>(∃j c,j<m/\N.cs[j]? =some c/\c.at i p)\/(c.a=(i:Int)+1/\c.pa=p)) (decide ((c1.a-1).toNat=i)) c1.pa.toNat (fun p hp=>hp.imp (fun g=>g) (fun g=>⟨decide_eq_true (by rw[he1.1];omega),by rw[he1.2.1];omega⟩))
  have s2:=s1.step (V:=fun p=> ∃j c,j<m+1/\N.cs[j]? =some c/\c.at i p) (decide ((c1.b-1).toNat=i)) c1.pb.toNat (fun p ⟨j,cj,hj,hcj,ha⟩=>by
   rcases Nat.lt_or_ge j m with g|g
   ·exact .inl (.inl ⟨j,cj,g,hcj,ha⟩)
   ·obtain rfl:j=m:=by omega
    rw[hc] at hcj
    obtain rfl:=Option.some.inj hcj
    rcases ha with ha|ha
    ·exact .inl (.inr ha)
    ·exact .inr ⟨decide_eq_true (by rw[he1.2.2.1];omega),by rw[he1.2.2.2.1];omega⟩)
  simp only[decide_eq_true_eq] at s2
  exact s2
theorem zit{k n d e:Nat}{N:Nt}(hN:N.ok k n d e):GL N (zbO N) N.cs.length:=by
 have key: ∀m,m<=N.cs.length->GL N ((List.range m).foldl zhF N) m:=by
  intro m
  induction m with
  |zero=>
   intro _
   refine⟨rfl,rfl,rfl,fun j c hj=>⟨c,hj,⟨rfl,rfl,rfl,rfl,rfl,rfl⟩,fun _=>⟨rfl,rfl⟩⟩,rfl,fun i r hr=>⟨r,hr,?_⟩⟩
   have:=Gd.refl r
   exact⟨this.id,this.b,this.inb,this.dr,this.len,fun p q hq=>⟨q,hq,.inl rfl,fun ⟨j,c,hj,_⟩=>absurd hj (Nat.not_lt_zero _)⟩⟩
  |succ m ih=>
   intro hm
   rw[List.range_succ,List.foldl_append]
   exact gl_step hN (ih (by omega)) (by omega)
 exact key _ (Nat.le_refl _)
def noIn(r:Rt):Rt:={ r with inb:=[] }
theorem zc4(N:Nt):(zbM N).cs=(zbO N).cs/\(zbM N).mt=(zbO N).mt/\(∀i,i<N.rs.length->(zbM N).rs[i]? =noIn <$> (zbO N).rs[i]?)/\(∀i,i<N.rs.length->(zbM N).ib[i]? =(fun l=>l++((zbO N).rs.getD i rtD).inb) <$> (zbO N).ib[i]?):=by
 unfold zbM
 have key: ∀m,let Q:=(List.range m).foldl zdM (zbO N)
   Q.cs=(zbO N).cs/\Q.mt=(zbO N).mt/\(∀i,Q.rs[i]? =(if i<m then noIn <$> (zbO N).rs[i]? else (zbO N).rs[i]?))/\(∀i,Q.ib[i]? =(if i<m then (fun l=>l++((zbO N).rs.getD i rtD).inb) <$> (zbO N).ib[i]? else (zbO N).ib[i]?)):=by
  intro m
  induction m with
  |zero=>exact⟨rfl,rfl,fun i=>by simp,fun i=>by simp⟩
  |succ m ih=>
   obtain⟨a1,a2,a3,a4⟩:=ih
   rw[List.range_succ,List.foldl_append]
   generalize (List.range m).foldl zdM (zbO N)=Q at *
   refine⟨a1,a2,fun i=>?_,fun i=>?_⟩
   ·show (Q.rs.modify m fun r=>noIn r)[i]? =_
    rw[List.getElem?_modify,a3 i]
    by_cases e:m=i
    ·subst e
     rw[if_neg (Nat.lt_irrefl _),if_pos (Nat.lt_succ_self _)]
     cases (zbO N).rs[m]? <;>simp
    ·by_cases g:i<m
     ·rw[if_pos g,if_pos (by omega)]
      cases (zbO N).rs[i]? <;>simp [e]
     ·rw[if_neg g,if_neg (by omega)]
      cases (zbO N).rs[i]? <;>simp [e]
   ·show (Q.ib.modify m fun l=>l++(Q.rs.getD m rtD).inb)[i]? =_
    rw[List.getElem?_modify,a4 i]
    have hm:(Q.rs.getD m rtD).inb=((zbO N).rs.getD m rtD).inb:=by
     rw[List.getD_eq_getElem?_getD,List.getD_eq_getElem?_getD,a3 m,if_neg (Nat.lt_irrefl _)]
    rw[hm]
    by_cases e:m=i
    ·subst e
     rw[if_neg (Nat.lt_irrefl _),if_pos (Nat.lt_succ_self _)]
     cases (zbO N).ib[m]? <;>simp
    ·by_cases g:i<m
     ·rw[if_pos g,if_pos (by omega)]
      cases (zbO N).ib[i]? <;>simp [e]
     ·rw[if_neg g,if_neg (by omega)]
      cases (zbO N).ib[i]? <;>simp [e]
 obtain⟨a1,a2,a3,a4⟩:=key N.rs.length
 exact⟨a1,a2,fun i hi=>by rw[a3 i,if_pos hi],fun i hi=>by rw[a4 i,if_pos hi]⟩
structure Nt.inv (k d e:Nat) (N:Nt):Prop where
 ok:N.ok k 0 d e
 idle: ∀(i p:Nat) (r:Rt) (q:Pt),N.rs[i]? =some r->r.ps[p]? =some q-> ¬N.wired i p->q.idle
def Nt.lone(N:Nt):Prop:= ∀(i p:Nat) (r:Rt) (q:Pt),N.rs[i]? =some r->r.ps[p]? =some q-> ¬N.wired i p->q.idle
theorem zeL{k n d e:Nat}{N:Nt}(hN:N.ok k n d e)(hI:N.lone):(zbM N).inv k d (e+n):=by
 have hG:=zdX hN
 have gl:=zit hN
 obtain⟨f1,f2,f3,f4⟩:=zc4 N
 have hw: ∀i p,(zbM N).wired i p↔N.wired i p:=fun i p=>by
  constructor
  ·rintro⟨c,hc,ha⟩
   rw[f1] at hc
   obtain⟨j,hj⟩:=List.mem_iff_getElem?.1 hc
   have hlt:j<N.cs.length:=by rw[<-gl.cl];exact (List.getElem?_eq_some_iff.1 hj).1
   obtain⟨d1,h1,h2,_⟩:=gl.cs j _ (List.getElem?_eq_getElem hlt)
   rw[hj] at h1
   obtain rfl:=Option.some.inj h1
   exact⟨_,List.getElem_mem hlt,(zn3 h2).1 ha⟩
  ·rintro⟨c,hc,ha⟩
   obtain⟨j,hj⟩:=List.mem_iff_getElem?.1 hc
   obtain⟨d1,h1,h2,_⟩:=gl.cs j c hj
   exact⟨d1,by rw[f1];exact getq h1,(zn3 h2).2 ha⟩
 have key: ∀(i:Nat) (r':Rt),(zbM N).rs[i]? =some r'-> ∃r,N.rs[i]? =some r/\r'.inb=[]/\r'.ps.length=r.ps.length/\ ∀(p:Nat) (q':Pt),r'.ps[p]? =some q'-> ∃q:Pt,r.ps[p]? =some q/\q.cl q'/\q'.out=[]:=by
  intro i r' hr'
  have hlt:i<N.rs.length:=by
   have:=(List.getElem?_eq_some_iff.1 hr').1
   rw[hG.rs] at this;rw[hN.rs];exact this
  obtain⟨r1,h1,h2⟩:=gl.rs i _ (List.getElem?_eq_getElem hlt)
  rw[f3 i hlt,h1] at hr'
  obtain rfl:noIn r1=r':=Option.some.inj hr'
  refine⟨_,List.getElem?_eq_getElem hlt,rfl,h2.len,fun p q' hq'=>?_⟩
  have hpl:p<N.rs[i].ps.length:=by rw[<-h2.len];exact (List.getElem?_eq_some_iff.1 hq').1
  obtain⟨q1,g1,g2,g3⟩:=h2.ps p _ (List.getElem?_eq_getElem hpl)
  have hq1:r1.ps[p]? =some q':=hq'
  rw[hq1] at g1
  obtain rfl:=Option.some.inj g1
  refine⟨_,List.getElem?_eq_getElem hpl,g2,?_⟩
  by_cases hwd:N.wired i p
  ·obtain⟨c,hc,ha⟩:=hwd
   obtain⟨j,hj⟩:=List.mem_iff_getElem?.1 hc
   exact g3 ⟨j,c,(List.getElem?_eq_some_iff.1 hj).1,hj,ha⟩
  ·exact g2.out (hI i p _ _ (List.getElem?_eq_getElem hlt) (List.getElem?_eq_getElem hpl) hwd).2.2.1
 refine⟨⟨hG.rs,hG.ib,hG.mt,hG.m3,hG.cs,fun r' hr'=>?_,hG.c,hG.i⟩,fun i p r' q' hr' hq' hnw=>?_⟩
 ·have hf:=hG.r r' hr'
  obtain⟨i,hi⟩:=List.mem_iff_getElem?.1 hr'
  obtain⟨r,h1,h2,h3,h4⟩:=key i r' hi
  refine⟨hf.p3,hf.f.b,fun p' hp'=>?_,by rw[h2];exact Nat.le_refl _,hf.f.dr⟩
  obtain⟨p,hp⟩:=List.mem_iff_getElem?.1 hp'
  obtain⟨q,g1,g2,g3⟩:=h4 p p' hp
  have:=hf.f.ps p' hp'
  exact⟨this.m,this.l,this.rd,this.pe,by rw[g3];exact Nat.le_refl _⟩
 ·obtain⟨r,h1,h2,h3,h4⟩:=key i r' hr'
  obtain⟨q,g1,g2,g3⟩:=h4 p q' hq'
  have:=hI i p r q h1 g1 (fun h=>hnw ((hw i p).2 h))
  rcases g2 with rfl|rfl
  ·exact this
  ·exact⟨this.1,this.2.1,rfl,this.2.2.2⟩
section
variable {k n d e:Nat} {N:Nt}
theorem Nt.inv.up(h:N.inv k d e){d' e':Nat}(hd:d<=d')(he:e<=e'):N.inv k d' e':=⟨h.ok.up (Nat.le_refl _) hd he,h.idle⟩
theorem zdU(hN:N.lone)(i:Int){F:Rt->Rt}(hL: ∀r,(F r).ps.length=r.ps.length)(hF: ∀r,N.rs[(i-1).toNat]? =some r->Idl (fun p=>N.wired (i-1).toNat p) r (F r)):(N.onR i F).lone:=by
 intro j p r' q' hr' hq' hw
 rw[zjq] at hr'
 cases hr:N.rs[j]? with
 |none=>rw[hr] at hr';cases hr'
 |some r=>
  rw[hr] at hr'
  have hr2:(if (i-1).toNat=j then F r else r)=r':=Option.some.inj hr'
  by_cases e:(i-1).toNat=j
  ·rw[if_pos e] at hr2
   subst e hr2
   have hlt:p<r.ps.length:=by rw[<-hL r];exact (List.getElem?_eq_some_iff.1 hq').1
   have hi:=hN _ p r _ hr (List.getElem?_eq_getElem hlt) hw
   have:=(hF r hr).h p _ hw (List.getElem?_eq_getElem hlt) hi
   rw[hq'] at this
   obtain rfl:=Option.some.inj this
   exact hi
  ·rw[if_neg e] at hr2
   subst hr2
   exact hN j p r q' hr hq' hw
theorem zcx{i:Nat}{c c':Cb}(hc:N.cs[i]? =some c)(he:c'.a=c.a/\c'.pa=c.pa/\c'.b=c.b/\c'.pb=c.pb){j p:Nat}:Nt.wired { N with cs:=N.cs.set i c' } j p↔N.wired j p:=by
 have hat: ∀j p,c'.at j p↔c.at j p:=fun j p=>by unfold Cb.at;rw[he.1,he.2.1,he.2.2.1,he.2.2.2]
 constructor
 ·rintro⟨x,hx,ha⟩
  rcases List.mem_or_eq_of_mem_set hx with g|g
  ·exact⟨x,g,ha⟩
  ·subst g
   exact⟨c,getq hc,(hat j p).1 ha⟩
 ·rintro⟨x,hx,ha⟩
  obtain⟨m,hm⟩:=List.mem_iff_getElem?.1 hx
  have:=zjQ (m:=i) (d:=c') hm
  by_cases e:i=m
  ·subst e
   rw[hc] at hm
   obtain rfl:=Option.some.inj hm
   rw[if_pos rfl] at this
   exact⟨c',getq this,(hat j p).2 ha⟩
  ·rw[if_neg e] at this
   exact⟨x,getq this,ha⟩
theorem zf7(hN:N.lone){i:Nat}{c c':Cb}(hc:N.cs[i]? =some c)(he:c'.a=c.a/\c'.pa=c.pa/\c'.b=c.b/\c'.pb=c.pb):Nt.lone { N with cs:=N.cs.set i c' }:=
 fun j p r q hr hq hw=>hN j p r q hr hq (fun h=>hw ((zcx hc he).2 h))
theorem zd7(h:N.inv k d e)(i:Int):(zc6 N i).inv k d (e+6630):=by
 unfold zc6
 split
 ·have h1:=zas h.ok (m:=6630) (f:=d) (by omega) (Nat.le_refl _) i (F:=zcW) (fun r hr=>by have:=zk3 hr;rw[Nat.zero_add] at this;exact this)
  exact zeL h1 (zdU h.idle i (fun r=>(zfq r).2) (fun r _=>idl_tick r))
 ·exact h.up (Nat.le_refl _) (by omega)
theorem zlE(h:N.inv k d e)(i to:Int)(t:ByteArray):(zgs N i to t).inv k (d+1) (e+6630):=by
 unfold zgs
 split
 ·have h1:=zas h.ok (m:=6630) (f:=d+1) (by omega) (by omega) i (F:=fun r=>zcY r to t) (fun r hr=>by have:=zhd hr to t;rw[Nat.zero_add] at this;exact this)
  exact zeL h1 (zdU h.idle i (fun r=>(zej r to t).2) (fun r _=>znj r to t))
 ·exact h.up (by omega) (by omega)
theorem znE{c:Cb}{i:Nat}(hc:N.cs[i]? =some c)(h:c.ok k):N.wired (c.a-1).toNat c.pa.toNat:=⟨c,getq hc,.inl ⟨by have:=h.a;omega,by have:=h.pa;omega⟩⟩
theorem zmf{c:Cb}{i:Nat}(hc:N.cs[i]? =some c)(h:c.ok k):N.wired (c.b-1).toNat c.pb.toNat:=⟨c,getq hc,.inr ⟨by have:=h.b;omega,by have:=h.pb;omega⟩⟩
theorem zdG{i:Int}{c:Cb}(h:N.cb i=some c):0<=i/\N.cs[i.toNat]? =some c:=by
 unfold Nt.cb at h
 split at h
 ·cases h
 ·exact⟨by omega,h⟩
theorem zdP(h:N.inv k d e)(i way many:Int):(ndel N i way many).inv k (d+2000) (e+1040000):=by
 have hu:N.inv k (d+2000) (e+1040000):=h.up (by omega) (by omega)
 unfold ndel
 split
 ·exact hu
 ·split
  ·exact hu
  ·rename_i c hcb
   obtain⟨h0,hc⟩:=zdG hcb
   have hco:=h.ok.c c (getq hc)
   split
   ·have hlen:(c.w1.take (delK many c.w1)).length<=2000:=Nat.le_trans (List.length_take_le' ..) hco.w1
    have k1:=zdr h.ok i.toNat (c:={ c with w1:=c.w1.drop (delK many c.w1) }) ⟨hco.a,hco.pa,hco.b,hco.pb,hco.w0,by show (c.w1.drop _).length<=_;rw[List.length_drop];have:=hco.w1;omega⟩
    have k2:=zas k1 (m:=1040000) (f:=d+2000) (by omega) (by omega) c.a (F:=fun r=>zay r c.pa.toNat (c.w1.take (delK many c.w1))) (fun r hr=>by have:=zdA hr c.pa.toNat hlen;rw[Nat.zero_add] at this;exact this)
    refine zeL k2 (zdU (zf7 (c':={ c with w1:=c.w1.drop (delK many c.w1) }) h.idle hc ⟨rfl,rfl,rfl,rfl⟩) c.a (F:=fun r=>zay r c.pa.toNat (c.w1.take (delK many c.w1))) (fun r=>(zeO ..).2) (fun r _=>(zlR r c.pa.toNat _).mono fun p hp=>?_))
    subst hp
    exact (zcx (c':={ c with w1:=c.w1.drop (delK many c.w1) }) hc ⟨rfl,rfl,rfl,rfl⟩).2 (znE hc hco)
   ·have hlen:(c.w0.take (delK many c.w0)).length<=2000:=Nat.le_trans (List.length_take_le' ..) hco.w0
    have k1:=zdr h.ok i.toNat (c:={ c with w0:=c.w0.drop (delK many c.w0) }) ⟨hco.a,hco.pa,hco.b,hco.pb,by show (c.w0.drop _).length<=_;rw[List.length_drop];have:=hco.w0;omega,hco.w1⟩
    have k2:=zas k1 (m:=1040000) (f:=d+2000) (by omega) (by omega) c.b (F:=fun r=>zay r c.pb.toNat (c.w0.take (delK many c.w0))) (fun r hr=>by have:=zdA hr c.pb.toNat hlen;rw[Nat.zero_add] at this;exact this)
    refine zeL k2 (zdU (zf7 (c':={ c with w0:=c.w0.drop (delK many c.w0) }) h.idle hc ⟨rfl,rfl,rfl,rfl⟩) c.b (F:=fun r=>zay r c.pb.toNat (c.w0.take (delK many c.w0))) (fun r=>(zeO ..).2) (fun r _=>(zlR r c.pb.toNat _).mono fun p hp=>?_))
    subst hp
    exact (zcx (c':={ c with w0:=c.w0.drop (delK many c.w0) }) hc ⟨rfl,rfl,rfl,rfl⟩).2 (zmf hc hco)
theorem zbq(h:N.inv k d e)(i:Int)(up:Bool):(zbI N i up).inv k d (e+780):=by
 have hu:N.inv k d (e+780):=h.up (by omega) (by omega)
 unfold zbI
 split
 ·exact hu
 ·rename_i c hcb
  obtain⟨h0,hc⟩:=zdG hcb
  have hco:=h.ok.c c (getq hc)
  split
  ·exact hu
  ·have k1:=zdr h.ok i.toNat (c:={ c with inn:=up,w0:=[],w1:=[] }) ⟨hco.a,hco.pa,hco.b,hco.pb,Nat.zero_le _,Nat.zero_le _⟩
   have k2:=zas k1 (m:=390) (f:=d) (by omega) (Nat.le_refl _) c.a (F:=fun r=>zak r c.pa.toNat up) (fun r hr=>by have:=zdF hr c.pa.toNat up;rw[Nat.zero_add] at this;exact this)
   have k3:=zas k2 (m:=780) (f:=d) (by omega) (Nat.le_refl _) c.b (F:=fun r=>zak r c.pb.toNat up) (fun r hr=>zdF hr c.pb.toNat up)
   have l1:=zf7 (c':={ c with inn:=up,w0:=[],w1:=[] }) h.idle hc ⟨rfl,rfl,rfl,rfl⟩
   have l2:=zdU l1 c.a (F:=fun r=>zak r c.pa.toNat up) (fun r=>(zeM ..).2) (fun r _=>(zlT r c.pa.toNat up).mono fun p hp=>by
    subst hp
    exact (zcx (c':={ c with inn:=up,w0:=[],w1:=[] }) hc ⟨rfl,rfl,rfl,rfl⟩).2 (znE hc hco))
   have l3:=zdU l2 c.b (F:=fun r=>zak r c.pb.toNat up) (fun r=>(zeM ..).2) (fun r _=>(zlT r c.pb.toNat up).mono fun p hp=>by
    subst hp
    exact (zcx (c':={ c with inn:=up,w0:=[],w1:=[] }) hc ⟨rfl,rfl,rfl,rfl⟩).2 (zmf hc hco))
   exact zeL k3 l3
theorem zkQ(i:Int)(up:Bool)(h:N.ok k n d e):(zbI N i up).cs.length=N.cs.length/\(zbI N i up).mt=N.mt:=by
 unfold zbI
 split
 ·exact⟨rfl,rfl⟩
 ·rename_i c hcb
  obtain⟨h0,hc⟩:=zdG hcb
  have hco:=h.c c (getq hc)
  split
  ·exact⟨rfl,rfl⟩
  ·have k1:=zdr h i.toNat (c:={ c with inn:=up,w0:=[],w1:=[] }) ⟨hco.a,hco.pa,hco.b,hco.pb,Nat.zero_le _,Nat.zero_le _⟩
   have k2:=zas k1 (m:=n+390) (f:=d) (by omega) (Nat.le_refl _) c.a (F:=fun r=>zak r c.pa.toNat up) (fun r hr=>zdF hr c.pa.toNat up)
   have k3:=zas k2 (m:=n+780) (f:=d) (by omega) (Nat.le_refl _) c.b (F:=fun r=>zak r c.pb.toNat up) (fun r hr=>zdF hr c.pb.toNat up)
   have gl:=zit k3
   obtain⟨f1,f2,_⟩:=zc4 (zip N i.toNat c up)
   exact⟨by rw[f1];exact gl.cl.trans (List.length_set ..),f2.trans gl.mt⟩
theorem zlC{id i m:Int}:(newPt id i m).idle:=⟨rfl,rfl,rfl,rfl⟩
theorem ze8{id:Int}: ∀(ms:List Int) (i:Int) (q:Pt),q∈zjb id i ms-> ∃j m,q=newPt id j m/\i<=j/\j<i+ms.length/\m∈ms
 |[],i,q,h=>by cases h
 |m::ms,i,q,h=>by
  rcases List.mem_cons.1 h with rfl|h
  ·exact⟨i,m,rfl,Int.le_refl _,by simp only[List.length_cons];omega,List.mem_cons_self ..⟩
  ·obtain⟨j,m',h1,h2,h3,h4⟩:=ze8 ms (i+1) q h
   exact⟨j,m',h1,by omega,by simp only[List.length_cons];omega,List.mem_cons_of_mem _ h4⟩
theorem new_f3{id a b c:Int}(hid:1<=id/\id<=6)(ha:1<=a/\a<=20)(hb:1<=b/\b<=20)(hc:1<=c/\c<=20):(newR id [a,b,c]).f3 0 d:=by
 refine⟨rfl,zeg (zmt (n:=3) (by decide) (by decide)) _,fun p hp=>?_,Nat.le_refl _,by show -(d:Int)<=0/\(0:Int)<=d;omega⟩
 obtain⟨j,m,rfl,h2,h3,h4⟩:=ze8 [a,b,c] 0 p hp
 simp only[List.length_cons,List.length_nil] at h3
 refine znN hid ⟨h2,by omega⟩ ?_
 simp only[List.mem_cons,List.not_mem_nil,or_false] at h4
 rcases h4 with rfl|rfl|rfl
 ·exact ha
 ·exact hb
 ·exact hc
theorem ziK(h:N.inv k d e)(hk:k<=6){i:Int}(hi:1<=i/\i<=k):(N.onR i fun _=>newR i (N.mt.getD (i-1).toNat [])).inv k d e:=by
 have hlt:(i-1).toNat<N.mt.length:=by rw[h.ok.mt];omega
 obtain⟨a,b,c,h1,ha,hb,hc⟩:=h.ok.m3 N.mt[(i-1).toNat] (List.getElem_mem hlt)
 have hms:N.mt.getD (i-1).toNat []=[a,b,c]:=by rw[List.getD_eq_getElem?_getD,List.getElem?_eq_getElem hlt];exact h1
 rw[hms]
 have hf:=new_f3 (d:=d) (show 1<=i/\i<=6 by omega) ha hb hc
 refine⟨zas h.ok (Nat.le_refl _) (Nat.le_refl _) i (fun r _=>hf),fun j p r q hr hq hw=>?_⟩
 rw[zjq] at hr
 cases hrj:N.rs[j]? with
 |none=>rw[hrj] at hr;cases hr
 |some r0=>
  rw[hrj] at hr
  have hr2:(if (i-1).toNat=j then newR i [a,b,c] else r0)=r:=Option.some.inj hr
  by_cases e:(i-1).toNat=j
  ·rw[if_pos e] at hr2
   subst hr2
   obtain⟨j',m,rfl,_⟩:=ze8 [a,b,c] 0 q (getq hq)
   exact zlC
  ·rw[if_neg e] at hr2
   subst hr2
   exact h.idle j p r0 q hrj hq hw
theorem inv_rst(h:N.inv k d e)(hk:k<=6)(i:Int):(nrst N i).inv k d (e+14040):=by
 unfold nrst
 split
 ·rename_i hh
  have hi:=zc9.1 hh
  rw[h.ok.rs] at hi
  have key: ∀m,m<=N.cs.length->let s:=(List.range m).foldl (zcD i) (N,[])
    s.1.inv k d (e+780*m)/\s.2.length<=m/\s.1.mt=N.mt:=by
   intro m
   induction m with
   |zero=>intro _;exact⟨h,Nat.le_refl _,rfl⟩
   |succ m ih=>
    intro hm
    obtain⟨a1,a2,a3⟩:=ih (by omega)
    rw[List.range_succ,List.foldl_append]
    generalize (List.range m).foldl (zcD i) (N,[])=s at *
    show (zcD i s m).1.inv _ _ _/\(zcD i s m).2.length<=_/\(zcD i s m).1.mt=_
    unfold zcD
    split
    ·exact⟨(zbq a1 _ _).up (Nat.le_refl _) (by omega),by simp only[List.length_append,List.length_singleton];omega,(zkQ _ _ a1.ok).2.trans a3⟩
    ·exact⟨a1.up (Nat.le_refl _) (by omega),by omega,a3⟩
  obtain⟨a1,a2,a3⟩:=key _ (Nat.le_refl _)
  have hcs:=h.ok.cs
  generalize (List.range N.cs.length).foldl (zcD i) (N,[])=s at *
  have b1:=ziK a1 hk (i:=i) ⟨hi.1,by omega⟩
  rw[a3] at b1
  show (s.2.foldl (fun q (k:Nat)=>zbI q k true) _).inv _ _ _
  generalize s.1.onR i (fun _=>newR i (N.mt.getD (i-1).toNat []))=Q at *
  have key2: ∀(L:List Nat) (Q:Nt) (e:Nat),Q.inv k d e->(L.foldl (fun q (k:Nat)=>zbI q k true) Q).inv k d (e+780*L.length):=by
   intro L
   induction L with
   |nil=>intro Q e h;exact h
   |cons x L ih=>
    intro Q e h
    have:=ih _ _ (zbq h (x:Int) true)
    rw[List.foldl_cons,List.length_cons]
    exact this.up (Nat.le_refl _) (by omega)
  exact (key2 s.2 Q _ b1).up (Nat.le_refl _) (by omega)
 ·exact h.up (Nat.le_refl _) (by omega)
theorem cs_ndel(h:N.ok k n d e)(i way many:Int):(ndel N i way many).cs.length=N.cs.length:=by
 unfold ndel
 split
 ·rfl
 ·split
  ·rfl
  ·rename_i c hcb
   obtain⟨h0,hc⟩:=zdG hcb
   have hco:=h.c c (getq hc)
   split
   ·have hlen:(c.w1.take (delK many c.w1)).length<=2000:=Nat.le_trans (List.length_take_le' ..) hco.w1
    have k1:=zdr h i.toNat (c:={ c with w1:=c.w1.drop (delK many c.w1) }) ⟨hco.a,hco.pa,hco.b,hco.pb,hco.w0,by show (c.w1.drop _).length<=_;rw[List.length_drop];have:=hco.w1;omega⟩
    have k2:=zas k1 (m:=n+1040000) (f:=d+2000) (by omega) (by omega) c.a (F:=fun r=>zay r c.pa.toNat (c.w1.take (delK many c.w1))) (fun r hr=>zdA hr c.pa.toNat hlen)
    rw[(zc4 _).1]
    exact (zit k2).cl.trans (List.length_set ..)
   ·have hlen:(c.w0.take (delK many c.w0)).length<=2000:=Nat.le_trans (List.length_take_le' ..) hco.w0
    have k1:=zdr h i.toNat (c:={ c with w0:=c.w0.drop (delK many c.w0) }) ⟨hco.a,hco.pa,hco.b,hco.pb,by show (c.w0.drop _).length<=_;rw[List.length_drop];have:=hco.w0;omega,hco.w1⟩
    have k2:=zas k1 (m:=n+1040000) (f:=d+2000) (by omega) (by omega) c.b (F:=fun r=>zay r c.pb.toNat (c.w0.take (delK many c.w0))) (fun r hr=>zdA hr c.pb.toNat hlen)
    rw[(zc4 _).1]
    exact (zit k2).cl.trans (List.length_set ..)
end
end Go.Proofs.YtimfnpjcedjmiadGreat
namespace Go.Proofs.YtimfnpjcedjmiadGreat
open Go.RowKit
def ntO(N:Nt):Res:=.obj (zbr (ntM N 0))
def zn4(x:Nat):List AV:=[.v (.int .i64 (x:Int))]
theorem cutB{α:Type}{k id:Nat}{x:(AS->Prop)->AS->Prop}{y:AS->Prop}{A:AS}(B:α->AS)(ok:α->Prop)(hy: ∀a,ok a->y (B a))(hx:(∀a,ok a->y (B a))->x (fun A'=> ∃B,AS.le k A' B/\y B) A):StopSeq k id x y A:=.mk (hx hy)
theorem znW{N:Nt}{i:Int}{k:Nat}{c:Cb}(h:N.cs[k]? =some c):zhJ N i k=(c.inn&&(c.a==i||c.b==i)):=by unfold zhJ;rw[h]
theorem mt_row{mt:List (List Int)}{j:Nat}{a b c:Int}(h:mt[j]? =some [a,b,c]):(mt.map mtRow)[j]? =some [.sl 1 ([a,b,c].map iRow) none]:=by rw[List.getElem?_map,h];rfl
def nnewPl:List (Nat×Pl):=[(12,.op 0 (.op 1 (.op 2 (.op 3 (.op 4 (.op 5 (.op 6 (.op 7 (.op 8 (.op 9 (.op 10 (.op 11 (.done))))))))))))),(13,.op 0 (.op 1 (.op 2 (.op 3 (.op 4 (.op 5 (.op 6 (.op 7 (.op 8 (.op 9 (.op 10 (.op 11 (.op 12 (.op 13 (.op 14 (.done)))))))))))))))),(14,.op 0 (.op 1 (.op 2 (.op 3 (.op 4 (.op 5 (.op 6 (.op 7 (.op 8 (.op 9 (.op 10 (.op 11 (.op 12 (.op 13 (.op 14 (.done))))))))))))))))]
def mkCb(c:Ca):Cb:=⟨c.a,c.pa,c.b,c.pb,c.m,false,[],[]⟩
def putM(T:List (List Int))(i p m:Int):List (List Int):=T.modify (i-1).toNat (fun t=>t.set p.toNat m)
def zl1(T:List (List Int))(c:Ca):List (List Int):=putM (putM T c.a c.pa c.m) c.b c.pb c.m
def newT(k:Nat)(l:List Ca):List (List Int):=l.foldl zl1 (List.replicate k [1,1,1])
def newN(k:Nat)(l:List Ca):Nt:=⟨(List.range k).map fun (i:Nat)=>newR ((i:Int)+1) ((newT k l).getD i []),l.map mkCb,newT k l,List.replicate k []⟩
structure Tok (k:Nat) (T:List (List Int)):Prop where
 len:T.length=k
 three: ∀t∈T,t.length=3/\ ∀x∈t,(1:Int)<=x/\x<=20
theorem zhn{k:Nat}{T:List (List Int)}(h:Tok k T)(i p:Int){m:Int}(hm:1<=m/\m<=20):Tok k (putM T i p m):=by
 refine⟨by rw[<-h.len];exact List.length_modify .., fun t ht=>?_⟩
 rcases zfD (show t∈T.modify _ _ from ht) with g|⟨y,hy,rfl⟩
 ·exact h.three t g
 ·obtain⟨h1,h2⟩:=h.three y hy
  refine⟨by rw[List.length_set];exact h1,fun x hx=>?_⟩
  rcases List.mem_or_eq_of_mem_set hx with g|g
  ·exact h2 x g
  ·exact g▸hm
theorem zpA(k:Nat):Tok k (List.replicate k [1,1,1]):=⟨List.length_replicate .., fun t ht=>by
 rw[List.eq_of_mem_replicate ht]
 exact⟨rfl,fun x hx=>by simp only[List.mem_cons,List.not_mem_nil,or_false] at hx;omega⟩⟩
theorem zgc{k:Nat}{T:List (List Int)}(h:Tok k T){t:List Int}(ht:t∈T): ∃a b c,t=[a,b,c]/\(1<=a/\a<=20)/\(1<=b/\b<=20)/\(1<=c/\c<=20):=by
 obtain⟨h1,h2⟩:=h.three t ht
 obtain⟨a,b,c,rfl⟩:=len3 h1
 exact⟨a,b,c,rfl,h2 a (by simp),h2 b (by simp),h2 c (by simp)⟩
theorem i_row{t:List Int}{p:Nat}(h:t.length=3)(hp:p<3):(t.map iRow)[p]? =some (iRow (t.getD p 0)):=by
 rw[List.getElem?_map,List.getD_eq_getElem?_getD,List.getElem?_eq_getElem (by omega)];rfl
theorem i_set{t:List Int}{p:Nat}{m:Int}:(t.map iRow).set p (iRow m)=(t.set p m).map iRow:=by rw[List.map_set]
end Go.Proofs.YtimfnpjcedjmiadGreat
namespace Go.Proofs.YtimfnpjcedjmiadGreat
section
variable {k d e:Nat} {N:Nt}
theorem zeJ{α:Type}{f:Nt->α->Nt}(a b:Nat)(hs: ∀(N:Nt) (x:α) (d e:Nat),N.inv k d e->(f N x).inv k (d+a) (e+b)): ∀(l:List α) {N:Nt} {d e:Nat},N.inv k d e->(l.foldl f N).inv k (d+a*l.length) (e+b*l.length)
 |[],N,d,e,h=>h.up (Nat.le_add_right ..) (Nat.le_add_right ..)
 |x::l,N,d,e,h=>by
  have h1:=zeJ a b hs l (hs N x d e h)
  refine h1.up ?_ ?_
  ·rw[List.length_cons,Nat.mul_succ];omega
  ·rw[List.length_cons,Nat.mul_succ];omega
theorem zki(h:N.inv k d e)(j:Nat):(zh8 N j).inv k (d+36000) (e+18720000):=by
 have h1:=zeJ (k:=k) (f:=fun q (i:Nat)=>ndel (ndel q i 0 2000) i 1 2000) 4000 2080000 (fun N x d e h=>(zdP (zdP h x 0 2000) x 1 2000).up (by omega) (by omega)) (List.range N.cs.length) h
 have hc:=h.ok.cs
 rw[List.length_range] at h1
 refine h1.up ?_ ?_
 ·have:=Nat.mul_le_mul_left 4000 hc;omega
 ·have:=Nat.mul_le_mul_left 2080000 hc;omega
theorem zge(h:N.inv k d e)(hk:k<=6):(zeZ N).inv k (d+432000) (e+230000000):=by
 have h1:=zeJ (k:=k) (f:=fun q (i:Nat)=>zc6 q ((i:Int)+1)) 0 6630 (fun N x d e h=>zd7 h _) (List.range N.rs.length) h
 have h2:=zeJ (k:=k) (f:=zh8) 36000 18720000 (fun N x d e h=>zki h x) (List.range 12) h1
 rw[List.length_range,List.length_range] at h2
 have hr:=h.ok.rs
 refine h2.up ?_ ?_
 ·omega
 ·rw[hr];have:=Nat.mul_le_mul_left 6630 hk;omega
theorem tok_newT{k:Nat}{l:List Ca}(hl: ∀c∈l,c.ok k):Tok k (newT k l):=by
 have: ∀(l:List Ca) (T:List (List Int)),(∀c∈l,c.ok k)->Tok k T->Tok k (l.foldl zl1 T):=by
  intro l
  induction l with
  |nil=>exact fun T _ h=>h
  |cons c l ih=>
   intro T hl h
   have hc:=(hl c (List.mem_cons_self ..)).m
   exact ih _ (fun x hx=>hl x (List.mem_cons_of_mem _ hx)) (zhn (zhn h c.a c.pa hc) c.b c.pb hc)
 exact this l _ hl (zpA k)
theorem zn0{k:Nat}(hk:k<=6){l:List Ca}(hl: ∀c∈l,c.ok k)(hlen:l.length<=9):(newN k l).inv k 0 0:=by
 have hT:=tok_newT hl
 have hrow: ∀i,i<k-> ∃a b c,(newT k l).getD i []=[a,b,c]/\(1<=a/\a<=20)/\(1<=b/\b<=20)/\(1<=c/\c<=20):=fun i hi=>by
  rw[List.getD_eq_getElem?_getD,List.getElem?_eq_getElem (by rw[hT.len];exact hi)]
  exact zgc hT (List.getElem_mem _)
 refine⟨⟨by simp [newN],by simp [newN],hT.len,fun t ht=>zgc hT ht,by simpa[newN] using hlen,fun r hr=>?_,fun c hc=>?_,fun b hb=>?_⟩,fun i p r q hr hq _=>?_⟩
 ·obtain⟨i,hi,rfl⟩:=List.mem_map.1 hr
  obtain⟨a,b,c,h1,h2,h3,h4⟩:=hrow i (List.mem_range.1 hi)
  rw[h1]
  have:=List.mem_range.1 hi
  exact new_f3 (by omega) h2 h3 h4
 ·obtain⟨x,hx,rfl⟩:=List.mem_map.1 hc
  have h:=hl x hx
  exact⟨h.a,h.pa,h.b,h.pb,Nat.zero_le _,Nat.zero_le _⟩
 ·rw[List.eq_of_mem_replicate hb];exact Nat.le_refl _
 ·have hm:r∈(newN k l).rs:=List.mem_of_getElem? hr
  obtain⟨j,hj,rfl⟩:=List.mem_map.1 hm
  obtain⟨j',m,rfl,_⟩:=ze8 _ 0 q (List.mem_of_getElem? hq)
  exact zlC
end
end Go.Proofs.YtimfnpjcedjmiadGreat
