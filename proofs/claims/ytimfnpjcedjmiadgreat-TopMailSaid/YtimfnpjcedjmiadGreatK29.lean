/- Lemmas. -/
import Derived.Test.YtimfnpjcedjmiadGreatK28
import Derived.Test.YtimfnpjcedjmiadGreatK24
import Derived.Test.YtimfnpjcedjmiadGreatK26
set_option maxRecDepth 100000
set_option maxHeartbeats 64000000
set_option linter.all false
namespace Go.Proofs.YtimfnpjcedjmiadGreat
open Go.RowKit
theorem zgi{p:Rt->Prop}(h: ∀id p0 p1 p2 b inb dr,p ⟨id,[p0,p1,p2],b,inb,dr⟩)(r:Rt)(hr:r.ps.length=3):p r:=by
 obtain⟨id,ps,b,inb,dr⟩:=r;obtain⟨p0,p1,p2,rfl⟩:=len3 hr;exact h ..
theorem zo7{p:Int->Prop}(h0:p 0)(h1:p 1)(h2:p 2)(i:Int)(hi:0<=i/\i<3):p i:=by
 rcases (by omega:i=0\/i=1\/i=2) with rfl|rfl|rfl
 .exact h0
 .exact h1
 .exact h2
theorem npR3{r:Rt}(h:r.ps.length=3):r.np:=.inr (.inr h)
theorem zp5{r q:Rt}(h:Like r q)(hr:r.ps.length=3):q.np:=.inr (.inr (h.2.trans hr))
section
variable {n d:Nat} {r:Rt}
theorem xrplug(hn:n<=8000000)(h3:r.ps.length=3)(hF:r.fine n d)(i:Int)(hi:0<=i/\i<3)(up:Bool):Fn Tryz.prog 36 [.box 0 0,.v (.int .i64 i),.v (.bool up)] [rtO r] (.err (zdD r i.toNat up)) [rtO (zaZ r i.toNat up)]:=by
 refine zdk (g:=1) ?_ (Nat.le_refl _) (npR3 h3) (zp5 (zcM ..) h3) rfl;revert hF
 refine zgi (p:=λr=>r.fine n d->Fn Tryz.prog 36 [.box 0 0,.v (.int .i64 i),.v (.bool up)] (rtM r 0) (.err (zdD r i.toNat up)) (rtM (zaZ r i.toNat up) 1)) (λid p0 p1 p2 b inb dr hF=>?_) r h3;have hb:=hF.b;have hm: ∀p∈[p0,p1,p2],0<=p.m/\p.m<=20:=λp hp=>(hF.ps p hp).m;have ho: ∀p∈[p0,p1,p2],p.l.fit 0/\p.out.length<=10000000:=λp hp=>⟨(hF.ps p hp).l,by have:=(hF.ps p hp).out;omega⟩;refine zo7 (p:=λi=>Fn Tryz.prog 36 [.box 0 0,.v (.int .i64 i),.v (.bool up)] (rtM ⟨id,[p0,p1,p2],b,inb,dr⟩ 0) (.err (zdD ⟨id,[p0,p1,p2],b,inb,dr⟩ i.toNat up)) (rtM (zaZ ⟨id,[p0,p1,p2],b,inb,dr⟩ i.toNat up) 1)) ?_ ?_ ?_ i hi
 .exact zot id dr b hb inb p0 p1 p2 hm up (ho p0 (by simp)).1 (ho p0 (by simp)).2
 .exact zn7 id dr b hb inb p0 p1 p2 hm up (ho p1 (by simp)).1 (ho p1 (by simp)).2
 .exact zpe id dr b hb inb p0 p1 p2 hm up (ho p2 (by simp)).1 (ho p2 (by simp)).2
theorem zdM(r:Rt)(i:Nat)(s:List UInt8):Like r (zar r i s):=by
 unfold zar;refine Like.trans (zam r i λp=>{ p with rd:=(zaP p.rd s).1,rest:=(zbg (p.rest++s)).2.2 }) ?_;generalize (zaP (r.pt i).rd s).2.1=T;generalize (r.onP i λp=>{ p with rd:=(zaP p.rd s).1,rest:=(zbg (p.rest++s)).2.2 })=q
 induction T generalizing q with
 |nil=>exact Like.refl q
 |cons t T ih=>exact (zea q i t).trans (ih _)
theorem xrrecv(hn:n<=8000000)(hd:d<=900000000)(h3:r.ps.length=3)(hF:r.fine n d)(i:Int)(hi:0<=i/\i<3)(s:ByteArray)(hs:s.size<=2000):Fn Tryz.prog 45 [.box 0 0,.v (.int .i64 i),.v (.string s)] [rtO r] (.err 0) [rtO (zar r i.toNat (bs s))]:=by
 refine zdk (g:=1) ?_ (Nat.le_refl _) (npR3 h3) (zp5 (zdM ..) h3) rfl;revert hF
 refine zgi (p:=λr=>r.fine n d->Fn Tryz.prog 45 [.box 0 0,.v (.int .i64 i),.v (.string s)] (rtM r 0) (.err 0) (rtM (zar r i.toNat (bs s)) 1)) (λid p0 p1 p2 b inb dr hF=>?_) r h3;refine zo7 (p:=λi=>Fn Tryz.prog 45 [.box 0 0,.v (.int .i64 i),.v (.string s)] (rtM ⟨id,[p0,p1,p2],b,inb,dr⟩ 0) (.err 0) (rtM (zar ⟨id,[p0,p1,p2],b,inb,dr⟩ i.toNat (bs s)) 1)) ?_ ?_ ?_ i hi
 .exact zo6 n d hn hd id dr b inb p0 p1 p2 hF s hs
 .exact zqZ n d hn hd id dr b inb p0 p1 p2 hF s hs
 .exact zqR n d hn hd id dr b inb p0 p1 p2 hF s hs
theorem zee(r:Rt):Like r (zch r):=zgX zc3 _ _
theorem xrtick(hn:n<=8000000)(h3:r.ps.length=3)(hF:r.fine n d):Fn Tryz.prog 44 [.box 0 0] [rtO r] (.tup []) [rtO (zch r)]:=by
 refine zdk (g:=1) ?_ (Nat.le_refl _) (npR3 h3) (zp5 (zee ..) h3) rfl;revert hF
 exact zgi (p:=λr=>r.fine n d->Fn Tryz.prog 44 [.box 0 0] (rtM r 0) (.tup []) (rtM (zch r) 1)) (λid p0 p1 p2 b inb dr hF=>tick_ok3 n d hn id dr b inb p0 p1 p2 hF) r h3
theorem zdg(r:Rt)(to:Int)(t:ByteArray):Like r (zbw r to t):=by
 unfold zbw;split
 .exact Like.refl r
 .exact zeu ..
theorem xrsend(hn:n<=8000000)(hd:d<=900000000)(h3:r.ps.length=3)(hF:r.fine n d)(to:Int)(t:ByteArray):Fn Tryz.prog 46 [.box 0 0,.v (.int .i64 to),.v (.string t)] [rtO r] (.err (zmg to t)) [rtO (zbw r to t)]:=by
 refine zdk (g:=1) ?_ (Nat.le_refl _) (npR3 h3) (zp5 (zdg ..) h3) rfl;revert hF
 refine zgi (p:=λr=>r.fine n d->Fn Tryz.prog 46 [.box 0 0,.v (.int .i64 to),.v (.string t)] (rtM r 0) (.err (zmg to t)) (rtM (zbw r to t) 1)) (λid p0 p1 p2 b inb dr hF=>?_) r h3;have hdr:=hF.dr;have hin:=hF.inb;dsimp only at hdr hin;exact zqM id dr b hF.b inb p0 p1 p2 to t (by omega) (by omega) (λp hp=>by have:=(hF.ps p hp).out;omega)
theorem xrout(h3:r.ps.length=3)(i:Int)(hi:0<=i/\i<3):Fn Tryz.prog 50 [.box 0 0,.v (.int .i64 i)] [rtO r] (.tup [.v (.string (tx (r.pt i.toNat).out)),.err 0]) [rtO (outR r i.toNat)]:=by
 refine zdk (g:=1) ?_ (Nat.le_refl _) (npR3 h3) (zp5 (zam ..) h3) rfl;refine zgi (p:=λr=>Fn Tryz.prog 50 [.box 0 0,.v (.int .i64 i)] (rtM r 0) (.tup [.v (.string (tx (r.pt i.toNat).out)),.err 0]) (rtM (outR r i.toNat) 1)) (λid p0 p1 p2 b inb dr=>?_) r h3;refine zo7 (p:=λi=>Fn Tryz.prog 50 [.box 0 0,.v (.int .i64 i)] (rtM ⟨id,[p0,p1,p2],b,inb,dr⟩ 0) (.tup [.v (.string (tx (Rt.pt ⟨id,[p0,p1,p2],b,inb,dr⟩ i.toNat).out)),.err 0]) (rtM (outR ⟨id,[p0,p1,p2],b,inb,dr⟩ i.toNat) 1)) ?_ ?_ ?_ i hi
 .exact out_ok30 id dr b inb p0 p1 p2
 .exact out_ok31 id dr b inb p0 p1 p2
 .exact out_ok32 id dr b inb p0 p1 p2
theorem xrinbox(h3:r.ps.length=3):Fn Tryz.prog 51 [.box 0 0] [rtO r] (.arr 1 0 r.inb.length) [rtO { r with inb:=[] },.arr true 67 3 0 (r.inb.map zaY)]:=
 zgi (p:=λr=>Fn Tryz.prog 51 [.box 0 0] [rtO r] (.arr 1 0 r.inb.length) [rtO { r with inb:=[] },.arr true 67 3 0 (r.inb.map zaY)]) (λid p0 p1 p2 b inb dr=>zoW id dr b inb p0 p1 p2) r h3
theorem xrhops(h3:r.ps.length=3)(hb:r.b.ok):Fn Tryz.prog 26 [.box 0 0] [rtO r] (.sl 3 ((zdP (stsB r.b) r.id).map hRow) none) [rtO r]:=by
 refine zdk (g:=0) ?_ (by decide) (npR3 h3) (npR3 h3) rfl;revert hb
 exact zgi (p:=λr=>r.b.ok->Fn Tryz.prog 26 [.box 0 0] (rtM r 0) (.sl 3 ((zdP (stsB r.b) r.id).map hRow) none) (rtM r 0)) (λid p0 p1 p2 b inb dr hb=>zj5 id dr b hb inb p0 p1 p2) r h3
theorem xrnew(id m0 m1 m2:Int)(hid:1<=id/\id<=6)(hm:(1<=m0/\m0<=20)/\(1<=m1/\m1<=20)/\(1<=m2/\m2<=20)):Fn Tryz.prog 29 [.v (.int .i64 id),.sl 1 ([m0,m1,m2].map iRow) none] [] (.tup [.box 0 0,.err 0]) [rtO (newR id [m0,m1,m2])]:=
 zev (mt:=[.gone]) (m':=rtM (newR id [m0,m1,m2]) 0) (ρ:=[0]) (κ:=zaX) (L:=0) (new_ok3 id m0 m1 m2 hid hm) rfl rfl rfl rfl grt (zpf ..) grt rfl rfl rfl rfl rfl rfl
end
def famR(xs:List Value)(rs:List Rt):Res:=.obj (famP xs (rs.map λr=>zcD (rtM r 0)))
theorem zeT{f:FuncId}{args:List AV}{ret:AV}{r r':Rt}(hF:Fn Tryz.prog f (.box 0 0::args) [rtO r] ret [rtO r']){xs:List Value}{rs:List Rt}{j:Nat}{x:Value}(hj:rs[j]? =some r)(hx:xs[j]? =some x)(ha:args.all AV.free=true)(hr:ret.free=true):
  Fn Tryz.prog f (.v x::args) [famR xs rs] ret [famR xs (rs.set j r')]:=by
 have h:=fn_focus hF (xs:=xs) (ps:=rs.map λr=>zcD (rtM r 0)) hx (by rw[List.getElem?_map,hj];rfl) ha hr;unfold famR;rw[List.map_set];exact h
theorem focusRA{f:FuncId}{args:List AV}{n T sz:Nat}{rows:List (List AV)}{r r':Rt}(hF:Fn Tryz.prog f (.box 0 0::args) [rtO r] (.arr 1 0 n) [rtO r',.arr true T sz 0 rows]){xs:List Value}{rs:List Rt}{j:Nat}{x:Value}(hj:rs[j]? =some r)(hx:xs[j]? =some x)(ha:args.all AV.free=true):
  Fn Tryz.prog f (.v x::args) [famR xs rs] (.arr 1 0 n) [famR xs (rs.set j r'),.arr true T sz 0 rows]:=by
 have h:=znf hF (xs:=xs) (ps:=rs.map λr=>zcD (rtM r 0)) hx (by rw[List.getElem?_map,hj];rfl) ha;unfold famR;rw[List.map_set];exact h
end Go.Proofs.YtimfnpjcedjmiadGreat
namespace Go.Proofs.YtimfnpjcedjmiadGreat
structure Cb where
 a:Int
 pa:Int
 b:Int
 pb:Int
 m:Int
 inn:Bool
 w0:List UInt8
 w1:List UInt8
structure Nt where
 rs:List Rt
 cs:List Cb
 mt:List (List Int)
 ib:List (List Mg)
def rtD:Rt:=⟨0,[],newB 1,[],0⟩
def Nt.rt(n:Nt)(i:Int):Rt:=n.rs.getD (i-1).toNat rtD
def Nt.onR(n:Nt)(i:Int)(f:Rt->Rt):Nt:={ n with rs:=n.rs.modify (i-1).toNat f }
def putW(inn:Bool)(w s:List UInt8):List UInt8:=if inn=true/\w.length+s.length<=2000 then w++s else w
def zcH(n:Nt)(i:Nat):Nt:=match n.cs[i]? with
 |none=>n
 |some c=>{ n.onR c.a (λr=>outR r c.pa.toNat) with cs:=n.cs.set i { c with w0:=putW c.inn c.w0 ((n.rt c.a).pt c.pa.toNat).out } }
def zds(n:Nt)(i:Nat):Nt:=match n.cs[i]? with
 |none=>n
 |some c=>{ n.onR c.b (λr=>outR r c.pb.toNat) with cs:=n.cs.set i { c with w1:=putW c.inn c.w1 ((n.rt c.b).pt c.pb.toNat).out } }
def zfk(n:Nt)(i:Nat):Nt:=zds (zcH n i) i
def zbU(n:Nt)(i:Nat):Nt:={ n with rs:=n.rs.modify i (λr=>{ r with inb:=[] }),ib:=n.ib.modify i (λl=>l++(n.rs.getD i rtD).inb) }
def zbQ(n:Nt):Nt:=(List.range n.cs.length).foldl zfk n
def zbO(n:Nt):Nt:=(List.range n.rs.length).foldl zbU (zbQ n)
def Nt.cb(n:Nt)(i:Int):Option Cb:=if i<0 then none else n.cs[i.toNat]?
def zff(n:Nt)(i:Int)(up:Bool):Int:=match n.cb i with
 |none=>6
 |some c=>if c.inn=up then 7 else 0
def zgf(n:Nt)(i:Nat)(c:Cb)(up:Bool):Nt:=(({ n with cs:=n.cs.set i { c with inn:=up,w0:=[],w1:=[] } }:Nt).onR c.a (λr=>zaZ r c.pa.toNat up)).onR c.b (λr=>zaZ r c.pb.toNat up)
def zbY(n:Nt)(i:Int)(up:Bool):Nt:=match n.cb i with
 |none=>n
 |some c=>if c.inn=up then n else zbO (zgf n i.toNat c up)
def Nt.has(n:Nt)(i:Int):Bool:=decide (1<=i)&&decide (i<=n.rs.length)
def zdH(n:Nt)(i:Int):Nt:=if n.has i then zbO (n.onR i zch) else n
noncomputable def zfm(n:Nt)(i to:Int)(t:ByteArray):Nt:=if n.has i then zbO (n.onR i λr=>zbw r to t) else n
def delK(many:Int)(w:List UInt8):Nat:=min (max many 0).toNat w.length
noncomputable def ndel0(n:Nt)(i:Nat)(c:Cb)(many:Int):Nt:=({ n with cs:=n.cs.set i { c with w0:=c.w0.drop (delK many c.w0) } }:Nt).onR c.b (λr=>zar r c.pb.toNat (c.w0.take (delK many c.w0)))
noncomputable def ndel1(n:Nt)(i:Nat)(c:Cb)(many:Int):Nt:=({ n with cs:=n.cs.set i { c with w1:=c.w1.drop (delK many c.w1) } }:Nt).onR c.a (λr=>zar r c.pa.toNat (c.w1.take (delK many c.w1)))
def zkJ(n:Nt)(i way:Int):Int:=if way<0\/1<way then 6 else if (n.cb i).isNone then 6 else 0
noncomputable def ndel(n:Nt)(i way many:Int):Nt:=if way<0\/1<way then n else match n.cb i with
 |none=>n
 |some c=>zbO (if way=1 then ndel1 n i.toNat c many else ndel0 n i.toNat c many)
def zh6(n:Nt)(i:Int)(k:Nat):Bool:=match n.cs[k]? with
 |none=>false
 |some c=>c.inn&&(c.a==i||c.b==i)
def zc8(i:Int)(s:Nt×List Nat)(k:Nat):Nt×List Nat:=if zh6 s.1 i k then (zbY s.1 (k:Int) false,s.2++[k]) else s
def nrst(n:Nt)(i:Int):Nt:=if n.has i then
  let s:=(List.range n.cs.length).foldl (zc8 i) (n,[])
  s.2.foldl (λq (k:Nat)=>zbY q k true) (s.1.onR i λ_=>newR i (n.mt.getD (i-1).toNat []))
 else n
noncomputable def ziA(n:Nt)(k:Nat):Nt:=(List.range n.cs.length).foldl (λq (i:Nat)=>ndel (ndel q i 0 2000) i 1 2000) n
noncomputable def zdt(n:Nt):Nt:=(List.range 12).foldl ziA ((List.range n.rs.length).foldl (λq (i:Nat)=>zdH q ((i:Int)+1)) n)
end Go.Proofs.YtimfnpjcedjmiadGreat
namespace Go.Proofs.YtimfnpjcedjmiadGreat
open Go.RowKit
def zb2(c:Cb):List AV:=[.v (.int .i64 c.a),.v (.int .i64 c.pa),.v (.int .i64 c.b),.v (.int .i64 c.pb),.v (.int .i64 c.m),.v (.bool c.inn),.v (.string (tx c.w0)),.v (.string (tx c.w1))]
def mtRow(l:List Int):List AV:=[.sl 1 (l.map iRow) none]
def rowsR:Nat->List Rt->List (List AV)
 |_,[]=>[]
 |q,_::rs=>[.box q 0]::rowsR (q+1) rs
def rowsI:Nat->Nat->List (List Mg)->List (List AV)
 |_,_,[]=>[]
 |q,g,l::ib=>[.arr q g l.length]::rowsI (q+1) g ib
def resR:List Rt->List Res
 |[]=>[]
 |r::rs=>rtO r::resR rs
def resI:Nat->List (List Mg)->List Res
 |_,[]=>[]
 |g,l::ib=>.arr true 67 3 g (l.map zaY)::resI g ib
def ntH(k:Nat)(cs:List Cb)(mt:List (List Int))(rr ri:List (List AV)):List Res:=[.cells [.arr 1 0 k,.arr 2 0 cs.length,.arr 3 0 mt.length,.arr 4 0 k],.arr false 45 1 0 rr,.arr true 91 8 0 (cs.map zb2),.arr true 88 1 0 (mt.map mtRow),.arr false 63 1 0 ri]
def ntM(n:Nt)(g:Nat):List Res:=ntH n.rs.length n.cs n.mt (rowsR 5 n.rs) (rowsI (5+n.rs.length) g n.ib)++(resR n.rs++resI g n.ib)
structure Cb.ok (k:Nat) (c:Cb):Prop where
 a:1<=c.a/\c.a<=k
 pa:0<=c.pa/\c.pa<3
 b:1<=c.b/\c.b<=k
 pb:0<=c.pb/\c.pb<3
 w0:c.w0.length<=2000
 w1:c.w1.length<=2000
structure Rt.f3 (n d:Nat) (r:Rt):Prop where
 p3:r.ps.length=3
 f:r.fine n d
structure Nt.ok (k n d e:Nat) (N:Nt):Prop where
 rs:N.rs.length=k
 ib:N.ib.length=k
 mt:N.mt.length=k
 m3: ∀l∈N.mt,∃a b c,l=[a,b,c]/\(1<=a/\a<=20)/\(1<=b/\b<=20)/\(1<=c/\c<=20)
 cs:N.cs.length<=9
 r: ∀r∈N.rs,r.f3 n d
 c: ∀c∈N.cs,c.ok k
 i: ∀l∈N.ib,l.length<=e
theorem zhD{n d k e:Nat}{r q:Rt}(h:r.f3 n d)(hl:Like r q)(hf:q.fine k e):q.f3 k e:=⟨hl.2.trans h.p3,hf⟩
theorem fine_out{n d:Nat}{r:Rt}(h:r.fine n d)(i:Nat):(outR r i).fine n d:=zbK h (Nat.le_refl _) i (λp hp=>⟨hp.m,hp.l,hp.rd,hp.pe,Nat.zero_le _⟩)
theorem zl9(r:Rt)(i:Nat):Like r (outR r i):=zam ..
theorem f3_out{n d:Nat}{r:Rt}(h:r.f3 n d)(i:Nat):(outR r i).f3 n d:=zhD h (zl9 ..) (fine_out h.f i)
theorem zat{k n d e m f:Nat}{N:Nt}(h:N.ok k n d e)(hn:n<=m)(hd:d<=f)(i:Int){F:Rt->Rt}(hF: ∀r,r.f3 n d->(F r).f3 m f):(N.onR i F).ok k m f e:=by
 refine⟨by rw[<-h.rs];simp [Nt.onR],h.ib,h.mt,h.m3,h.cs,λr hr=>?_,h.c,h.i⟩;rcases zdK (show r∈N.rs.modify (i-1).toNat F from hr) with g|⟨y,hy,rfl⟩
 .exact⟨(h.r r g).p3,((h.r r g).f.up hn).upD hd⟩
 .exact hF y (h.r y hy)
theorem zem{k n d e:Nat}{N:Nt}(h:N.ok k n d e)(i:Nat){c:Cb}(hc:c.ok k):Nt.ok k n d e { N with cs:=N.cs.set i c }:=by
 refine⟨h.rs,h.ib,h.mt,h.m3,by rw[List.length_set];exact h.cs,h.r,λq hq=>?_,h.i⟩;rcases List.mem_or_eq_of_mem_set hq with g|g
 .exact h.c q g
 .exact g▸hc
theorem zmM{inn:Bool}{w s:List UInt8}(h:w.length<=2000):(putW inn w s).length<=2000:=by
 unfold putW;split
 .rw[List.length_append];omega
 .exact h
theorem getq{α:Type}{l:List α}{i:Nat}{x:α}(h:l[i]? =some x):x∈l:=List.mem_of_getElem? h
theorem ok_g0{k n d e:Nat}{N:Nt}(h:N.ok k n d e)(i:Nat):(zcH N i).ok k n d e:=by
 unfold zcH;split
 .exact h
 .rename_i c hc;have q:=h.c c (getq hc);exact zem (zat h (Nat.le_refl _) (Nat.le_refl _) c.a (λr hr=>f3_out hr c.pa.toNat)) i ⟨q.a,q.pa,q.b,q.pb,zmM q.w0,q.w1⟩
theorem ok_g1{k n d e:Nat}{N:Nt}(h:N.ok k n d e)(i:Nat):(zds N i).ok k n d e:=by
 unfold zds;split
 .exact h
 .rename_i c hc;have q:=h.c c (getq hc);exact zem (zat h (Nat.le_refl _) (Nat.le_refl _) c.b (λr hr=>f3_out hr c.pb.toNat)) i ⟨q.a,q.pa,q.b,q.pb,q.w0,zmM q.w1⟩
theorem cs_g0(N:Nt)(i:Nat):(zcH N i).cs.length=N.cs.length:=by
 unfold zcH;split
 .rfl
 .show (N.cs.set _ _).length=_;rw[List.length_set]
theorem cs_g1(N:Nt)(i:Nat):(zds N i).cs.length=N.cs.length:=by
 unfold zds;split
 .rfl
 .show (N.cs.set _ _).length=_;rw[List.length_set]
theorem zfb{cs:List Cb}{i:Nat}{c:Cb}(h:cs[i]? =some c):(cs.map zb2)[i]? =some (zb2 c):=by rw[List.getElem?_map,h];rfl
theorem zjO{cs:List Cb}{i:Nat}{c:Cb}:(cs.map zb2).set i (zb2 c)=(cs.set i c).map zb2:=by rw[List.map_set]
theorem tx_app(a b:List UInt8):tx a++tx b=tx (a++b):=by rw[<-zdq (tx a++tx b),zgk]
theorem ziW{α:Type}{l:List α}{i:Nat}{x:α}(h:l[i]? =some x):l.set i x=l:=by
 obtain⟨hi,e⟩:=List.getElem?_eq_some_iff.1 h;rw[<-e,List.set_getElem_self]
theorem gcase(inn:Bool)(w s:List UInt8):(inn=false/\putW inn w s=w)\/(inn=true/\w.length+s.length<=2000/\putW inn w s=w++s)\/(inn=true/\2000<w.length+s.length/\putW inn w s=w):=by
 unfold putW;cases inn
 .exact .inl ⟨rfl,if_neg (λh=>by cases h.1)⟩
 .by_cases h:w.length+s.length<=2000
  .exact .inr (.inl ⟨rfl,h,if_pos ⟨rfl,h⟩⟩)
  .exact .inr (.inr ⟨rfl,by omega,if_neg (λg=>h g.2)⟩)
theorem g0_cb{N:Nt}{i:Nat}{c:Cb}(h:N.cs[i]? =some c):(zcH N i).cs[i]? =some { c with w0:=putW c.inn c.w0 ((N.rt c.a).pt c.pa.toNat).out }:=by
 have hi:=(List.getElem?_eq_some_iff.1 h).1;unfold zcH;rw[h];show (N.cs.set i _)[i]? =_;rw[List.getElem?_set,if_pos rfl,if_pos hi]
theorem len4{α:Type}{l:List α}(h:l.length=4): ∃a b c d,l=[a,b,c,d]:=by
 match l,h with
 |[a,b,c,d],_=>exact⟨a,b,c,d,rfl⟩
theorem len5{α:Type}{l:List α}(h:l.length=5): ∃a b c d e,l=[a,b,c,d,e]:=by
 match l,h with
 |[a,b,c,d,e],_=>exact⟨a,b,c,d,e,rfl⟩
theorem len6{α:Type}{l:List α}(h:l.length=6): ∃a b c d e f,l=[a,b,c,d,e,f]:=by
 match l,h with
 |[a,b,c,d,e,f],_=>exact⟨a,b,c,d,e,f,rfl⟩
theorem zcb{α:Type}{f:α->Nat->α}{a b:α}{i:Nat}(h:b=(List.range i).foldl f a):f b i=(List.range (i+1)).foldl f a:=by
 rw[List.range_succ,List.foldl_append,<-h];rfl
def gathPl:List (Nat×Pl):=[(4,.op 0 (.op 1 (.op 2 (.op 3 (.op 4 (.op 5 (.op 6 (.op 7 (.op 8 (.op 9 (.op 10 (.op 11 (.op 12 (.op 13 (.op 14 (.op 15 (.op 16 (.op 17 (.op 18 (.op 19 (.op 20 (.op 21 (.op 22 (.op 23 (.op 24 (.done)))))))))))))))))))))))))),(7,.op 0 (.op 1 (.op 2 (.op 3 (.op 4 (.op 5 (.op 6 (.op 7 (.op 8 (.op 9 (.op 10 (.op 11 (.op 12 (.op 13 (.op 14 (.op 15 (.op 16 (.done)))))))))))))))))),(9,.op 0 (.op 1 (.op 2 (.op 3 (.op 4 (.op 5 (.op 6 (.op 7 (.op 8 (.op 9 (.op 10 (.op 11 (.done))))))))))))),(15,.op 0 (.op 1 (.op 2 (.op 4 (.op 5 (.op 6 (.op 7 (.op 9 (.op 12 (.b3 3 (.br 8 (.br 10 (.br 11 (.op 13 (.op 14 (.op 15 (.op 16 (.done))))) 13 (.op 11 (.op 14 (.op 15 (.op 16 (.done)))))) 13 (.op 10 (.op 11 (.op 14 (.op 15 (.op 16 (.done))))))) 13 (.op 8 (.op 10 (.op 11 (.op 14 (.op 15 (.op 16 (.done)))))))) 8 (.b3 3 (.br 10 (.br 11 (.op 13 (.op 14 (.op 15 (.op 16 (.done))))) 13 (.op 11 (.op 14 (.op 15 (.op 16 (.done)))))) 13 (.op 10 (.op 11 (.op 14 (.op 15 (.op 16 (.done))))))) 10 (.b3 3 (.br 11 (.op 13 (.op 14 (.op 15 (.op 16 (.done))))) 13 (.op 11 (.op 14 (.op 15 (.op 16 (.done)))))) 11 (.br 3 (.op 13 (.op 14 (.op 15 (.op 16 (.done))))) 13 (.br 3 (.op 14 (.op 15 (.op 16 (.done)))) 14 (.op 3 (.op 15 (.op 16 (.done)))))) 13 (.op 11 (.br 3 (.op 14 (.op 15 (.op 16 (.done)))) 14 (.op 3 (.op 15 (.op 16 (.done))))))) 13 (.op 10 (.op 11 (.br 3 (.op 14 (.op 15 (.op 16 (.done)))) 14 (.op 3 (.op 15 (.op 16 (.done)))))))) 13 (.op 8 (.op 10 (.op 11 (.br 3 (.op 14 (.op 15 (.op 16 (.done)))) 14 (.op 3 (.op 15 (.op 16 (.done))))))))))))))))))]
def nplugPl:List (Nat×Pl):=[(7,.op 0 (.op 1 (.op 2 (.op 3 (.op 4 (.op 5 (.op 6 (.op 7 (.op 8 (.op 9 (.op 10 (.op 11 (.op 12 (.op 13 (.op 14 (.op 15 (.op 16 (.op 17 (.op 18 (.done)))))))))))))))))))),(8,.op 0 (.op 1 (.op 2 (.op 3 (.op 4 (.op 5 (.op 6 (.op 7 (.op 8 (.op 9 (.op 10 (.op 11 (.op 12 (.op 13 (.op 14 (.op 15 (.op 16 (.op 17 (.op 18 (.done))))))))))))))))))))]
def ndelPl:List (Nat×Pl):=[(6,.op 0 (.op 1 (.op 2 (.op 3 (.op 4 (.op 5 (.op 6 (.op 7 (.op 8 (.op 9 (.op 10 (.op 11 (.op 12 (.op 13 (.done))))))))))))))),(7,.op 0 (.op 1 (.op 2 (.op 3 (.op 4 (.op 5 (.op 6 (.op 7 (.op 8 (.op 9 (.op 10 (.op 11 (.done))))))))))))),(9,.op 0 (.op 1 (.op 2 (.op 3 (.op 4 (.op 5 (.op 6 (.op 7 (.op 8 (.op 9 (.op 10 (.op 11 (.done)))))))))))))]
theorem Hd.setr{rows:List (List AV)}{i:Nat}{K:List AV->Prop}{r:List AV}{Q:Prop}(q:Hd Q)(h:i<rows.length)(k:Hd Q->K r):StopRow (rows.set i r) i K:=⟨r,by rw[List.getElem?_set,if_pos rfl,if_pos h],k q⟩
theorem fx{P Q:Prop}(q:Q)(r:Hd Q->P:=by
  intro q;repeat' ((conv=>whnf);first
   |((with_reducible apply Hd.and q);clear q;intro q;rotate_left;clear q;intro q;rotate_right)
   |(with_reducible exact Hd.tru q True.intro)
   |((
     with_reducible refine Im.to ?_);first
     |(refine Hd.tru q ⟨?_⟩;intro h;first|(cases h;done)|((try simp only[vis,Int.reduceToNat] at h)<;>(exfalso;omega)))
     |(apply Hd.raw q;clear q;intro q h;cases h)
     |(apply Hd.red q;(focus (intro h;(try simp only[vis,Int.reduceToNat] at h);exact h));clear q;intro q h))
   |(apply Hd.pos q rfl rfl;clear q;intro q)
   |(apply Hd.setr q;(focus (first|(simp only[List.length_map,List.length_set,Int.toNat_natCast];omega)|(simp;done)|(simp;omega)));clear q;intro q)
   |(apply Hd.row q rfl;clear q;intro q)
   |(apply Hd.row q;(focus assumption);clear q;intro q)
   |(apply Hd.lit q rfl rfl;clear q;intro q)
   |((with_reducible refine Al.to ?_);apply Hd.al q;clear q;intro q;rotate_left;clear q;intro q;rotate_right)
   |(apply Hd.idx q;(focus (first|omega|(simp;done)|(simp;omega)));clear q;intro hh q)
   |(apply Hd.idxI q;(focus (first|omega|(simp;done)|(simp;omega)));(focus (first|omega|(simp;done)|(simp;omega)));clear q;intro hh q)
   |(refine Hd.tru q ?_;(first|omega|(refine Vc.mk ?_;first|exact GLt|exact⟨by decide,by decide⟩)))
   |(refine Hd.vc q)
   |exact q.o)):P:=r ⟨q⟩
theorem zmq{n d:Nat}{r:Rt}(h:r.fine n d):(zch r).fine (n+2210*r.ps.length) d:=by
 have key: ∀m,m<=r.ps.length->((List.range m).foldl zbX r).fine (n+2210*m) d/\Like r ((List.range m).foldl zbX r):=by
  intro m
  induction m with
  |zero=>intro _;exact⟨h,Like.refl r⟩
  |succ m ih=>
   intro hm;obtain⟨h1,h2⟩:=ih (by omega);rw[List.range_succ,List.foldl_append];have:=zdn h1 (i:=m) (by rw[h2.2];omega);exact⟨this.up (by omega),h2.trans (zc3 ..)⟩
 exact (key _ (Nat.le_refl _)).1
theorem zk3{n d:Nat}{r:Rt}(h:r.f3 n d):(zch r).f3 (n+6630) d:=zhD h (zee r) (by have:=zmq h.f;rw[h.p3] at this;exact this)
theorem zhp{n d:Nat}{r:Rt}(h:r.f3 n d)(to:Int)(t:ByteArray):(zbw r to t).f3 (n+6630) (d+1):=by
 refine zhD h (zdg ..) ?_;unfold zbw;split
 .exact (h.f.up (by omega)).upD (by omega)
 .exact (zjS h.f _).up (by omega)
theorem zqI{n d:Nat}{r:Rt}(h:r.fine n d)(i:Nat)(up:Bool):(zaZ r i up).fine (n+390) d:=by
 unfold zaZ;split
 .exact h.up (by omega)
 .exact zbr (zbK h (by omega) i (λp hp=>zex (p:={ p with l:=doL p.l (if up then 0 else 1),rd:=rd0,rest:=[] }) (k:=3) hp.m rd0_ok hp.pe hp.out (zdv hp.l (by decide)))) i zfT
theorem zcY{n d:Nat}{r:Rt}(h:r.f3 n d)(i:Nat)(up:Bool):(zaZ r i up).f3 (n+390) d:=zhD h (zcM ..) (zqI h.f i up)
theorem zmK{k n d e:Nat}{N:Nt}(h:N.ok k n d e):(zbQ N).ok k n d e:=by
 unfold zbQ;generalize N.cs.length=m
 induction m with
 |zero=>exact h
 |succ m ih=>
  rw[List.range_succ,List.foldl_append];exact ok_g1 (ok_g0 ih m) m
theorem zdh{k n d e:Nat}{N:Nt}(h:N.ok k n d e):(zbO N).ok k n d (e+n):=by
 have h0:=zmK h;have hl:N.rs.length=(zbQ N).rs.length:=by rw[h.rs,h0.rs]
 unfold zbO;rw[hl];generalize zbQ N=N at *
 clear h hl;have key: ∀m,m<=k->let Q:=(List.range m).foldl zbU N
   Q.rs.length=k/\Q.ib.length=k/\Q.mt=N.mt/\Q.cs=N.cs/\(∀r∈Q.rs,r.f3 n d)/\(∀j l,Q.ib[j]? =some l->l.length<=e+(if j<m then n else 0)):=by
  intro m
  induction m with
  |zero=>intro _;exact⟨h0.rs,h0.ib,rfl,rfl,h0.r,λj l hj=>by have:=h0.i l (getq hj);omega⟩
  |succ m ih=>
   intro hm;obtain⟨a1,a2,a3,a4,a5,a6⟩:=ih (by omega);rw[List.range_succ,List.foldl_append];generalize (List.range m).foldl zbU N=Q at *
   show (zbU Q m).rs.length=k/\(zbU Q m).ib.length=k/\_;refine⟨by rw[<-a1];simp [zbU],by rw[<-a2];simp [zbU],a3,a4,λr hr=>?_,λj l hj=>?_⟩
   .rcases zdK (show r∈Q.rs.modify m _ from hr) with g|⟨y,hy,rfl⟩
    .exact a5 r g
    .have:=a5 y hy;exact⟨this.p3,this.f.b,this.f.ps,Nat.zero_le _,this.f.dr⟩
   .have hj':(Q.ib.modify m λl=>l++(Q.rs.getD m rtD).inb)[j]? =some l:=hj;rw[List.getElem?_modify] at hj';cases hq:Q.ib[j]? with
    |none=>rw[hq] at hj';simp at hj'
    |some l0=>
     have:=a6 j l0 hq;rw[hq] at hj';simp only[Option.map_eq_map,Option.map_some,Option.some.injEq] at hj';by_cases hmj:m=j
     .subst hmj;rw[if_pos rfl] at hj';subst hj';rw[if_neg (by omega)] at this;rw[if_pos (by omega),List.length_append];have hlt:m<Q.rs.length:=by omega
      have hin:=(a5 Q.rs[m] (List.getElem_mem hlt)).f.inb;rw[List.getD_eq_getElem?_getD,List.getElem?_eq_getElem hlt];simp only[Option.getD_some];omega
     .rw[if_neg hmj] at hj';subst hj';split at this<;>split<;>omega
 obtain⟨a1,a2,a3,a4,a5,a6⟩:=key k (Nat.le_refl _);rw[h0.rs];refine⟨a1,a2,by rw[a3];exact h0.mt,by rw[a3];exact h0.m3,by rw[a4];exact h0.cs,a5,by rw[a4];exact h0.c,λl hl=>?_⟩;obtain⟨j,hj⟩:=List.mem_iff_getElem?.1 hl;have hjl:=(List.getElem?_eq_some_iff.1 hj).1;have:=a6 j l hj;split at this<;>omega
theorem zcI{N:Nt}{i:Int}:N.has i=true↔1<=i/\i<=N.rs.length:=by unfold Nt.has;simp
theorem Nt.ok.up{k n d e m f g:Nat}{N:Nt}(h:N.ok k n d e)(hn:n<=m)(hd:d<=f)(he:e<=g):N.ok k m f g:=⟨h.rs,h.ib,h.mt,h.m3,h.cs,λr hr=>⟨(h.r r hr).p3,((h.r r hr).f.up hn).upD hd⟩,h.c,λl hl=>Nat.le_trans (h.i l hl) he⟩
theorem zpN{n d:Nat}{r:Rt}(h:r.fine n d)(i:Nat){s:List UInt8}(hs:s.length<=2000):(zar r i s).fine (n+1040000) (d+2000):=by
 have hl:=(zdG (r.pt i).rd s).1;have h0:Rt.fine n d (r.onP i λp=>{ p with rd:=(zaP p.rd s).1,rest:=(zbg (p.rest++s)).2.2 }):=zbK h (Nat.le_refl _) i (λp hq=>⟨hq.m,hq.l,zei hq.rd _,hq.pe,hq.out⟩);unfold zar;generalize (zaP (r.pt i).rd s).2.1=T at *
 generalize (r.onP i λp=>{ p with rd:=(zaP p.rd s).1,rest:=(zbg (p.rest++s)).2.2 })=q at *
 have key: ∀(T:List (List UInt8)) (n d:Nat) (q:Rt),q.fine n d->(T.foldl (takT i) q).fine (n+520*T.length) (d+T.length):=by
  intro T
  induction T with
  |nil=>intro n d q hq;exact hq
  |cons t T ih=>
   intro n d q hq;have:=ih (n+520) (d+1) _ (ze6 hq i t);rw[List.foldl_cons,List.length_cons];exact (this.up (by omega)).upD (by omega)
 exact ((key T n d q h0).up (by omega)).upD (by omega)
theorem zeH{n d:Nat}{r:Rt}(h:r.f3 n d)(i:Nat){s:List UInt8}(hs:s.length<=2000):(zar r i s).f3 (n+1040000) (d+2000):=zhD h (zdM ..) (zpN h.f i hs)
theorem zoo(many:Int)(w:List UInt8):delK many w<=w.length:=by unfold delK;omega
theorem znj(many:Int)(w:List UInt8):(if ((tx w).size:Int)<(if many<0 then 0 else many) then ((tx w).size:Int) else (if many<0 then 0 else many))=(delK many w:Int):=by
 have:(tx w).size=w.length:=tx_size;rw[this];unfold delK;(repeat' split)<;>omega
theorem ext0{w:List UInt8}{k:Nat}(h:k<=w.length):(tx w).extract 0 k=tx (w.take k):=by rw[zdc _ (by rw[bs_tx];exact h),bs_tx,List.drop_zero]
theorem ext1{w:List UInt8}{k:Nat}:(tx w).extract k (tx w).size=tx (w.drop k):=by
 have:(tx w).size=w.length:=tx_size;rw[zdc _ (by rw[bs_tx,this];exact Nat.le_refl _),bs_tx,this,List.take_length]
end Go.Proofs.YtimfnpjcedjmiadGreat
namespace Go.Proofs.YtimfnpjcedjmiadGreat
def Pt.idle(p:Pt):Prop:=p.l.st=1/\p.l.out=[]/\p.out=[]/\p.p=peNo
structure Idl (X:Nat->Prop) (r r':Rt):Prop where
 h: ∀p q,¬X p->r.ps[p]? =some q->q.idle->r'.ps[p]? =some q
section
variable {X:Nat->Prop} {r r' q:Rt}
theorem Idl.refl(r:Rt):Idl X r r:=⟨λ_ _ _ h _=>h⟩
theorem Idl.trans{a b c:Rt}(h:Idl X a b)(g:Idl X b c):Idl X a c:=⟨λp q hx hq hi=>g.h p q hx (h.h p q hx hq hi) hi⟩
theorem Idl.mono{Y:Nat->Prop}(h:Idl X r r')(hY: ∀p,X p->Y p):Idl Y r r':=⟨λp q hx hq hi=>h.h p q (λg=>hx (hY p g)) hq hi⟩
theorem zfg(h:r'.ps=r.ps):Idl X r r':=⟨λp q _ hq _=>by rw[h];exact hq⟩
theorem zhG(r:Rt)(i:Nat)(f:Pt->Pt)(p:Nat):(r.onP i f).ps[p]? =(λq=>if i=p then f q else q) <$> r.ps[p]? :=by
 show (r.ps.modify i f)[p]? =_;rw[List.getElem?_modify]
theorem zdT(r:Rt)(i:Nat)(f:Pt->Pt):Idl (· =i) r (r.onP i f):=⟨λp q hx hq _=>by
 rw[zhG,hq];show some (if i=p then f q else q)=some q;rw[if_neg (λe=>hx e.symm)]⟩
theorem zoS(r:Rt):(zbt r).ps=r.ps:=by unfold zbt;split<;>rfl
theorem ps_meet(r:Rt)(i:Nat)(now:Pe):(zaV r i now).ps=(r.onP i λp=>{ p with p:=now }).ps:=by
 unfold zaV;split
 .rfl
 .split
  .exact zoS _
  .exact zoS _
theorem zeZ(r:Rt)(i:Nat)(now:Pe):Idl (· =i) r (zaV r i now):=(zdT r i _).trans (zfg (ps_meet r i now))
theorem zmL(r:Rt)(i:Nat)(up:Bool):Idl (· =i) r (zaZ r i up):=by
 unfold zaZ;split
 .exact Idl.refl r
 .exact (zdT ..).trans (zeZ ..)
theorem zoc(r:Rt)(i:Nat)(s:List UInt8):Idl (· =i) r (zbF r i s):=by
 unfold zbF;split
 .exact Idl.refl r
 .split
  .split
   .exact zfg rfl
   .exact Idl.refl r
  .split
   .exact (zdT r i _).trans (zfg rfl)
   .exact zfg rfl
theorem zlf(r:Rt)(i:Nat)(s:List UInt8):(zcQ r i s).ps=r.ps:=by unfold zcQ;split<;>rfl
theorem zn3(ps:List Pt)(n:Int):zkD ps n<0\/ ∃q,ps[(zkD ps n).toNat]? =some q/\q.p.both=true:=by
 unfold zkD;have key: ∀m,m<=ps.length->let b:=(List.range m).foldl (zbf ps n) (-1)
   b<0\/ ∃q,ps[b.toNat]? =some q/\q.p.both=true:=by
  intro m
  induction m with
  |zero=>intro _;left;show (-1:Int)<0;decide
  |succ m ih=>
   intro hm;have:=ih (by omega);rw[List.range_succ,List.foldl_append];generalize (List.range m).foldl (zbf ps n) (-1)=b at *
   show zbf ps n b m<0\/_;simp only[List.foldl_cons,List.foldl_nil];unfold zbf;split
   .rename_i h;right
    refine⟨ps[m],?_,?_⟩
    .rw[Int.toNat_natCast];exact List.getElem?_eq_getElem (by omega)
    .have:=h.1;rw[List.getD_eq_getElem?_getD,List.getElem?_eq_getElem (by omega)] at this;exact this
   .exact this
 exact key _ (Nat.le_refl _)
theorem zlw(r:Rt)(m:Mg):Idl X r (zcg r m):=by
 unfold zcg;split
 .exact zfg rfl
 .split
  .exact zfg rfl
  .split
   .exact zfg rfl
   .rename_i h _ hb;refine⟨λp q _ hq hi=>?_⟩;rw[zhG,hq];show some (if _=p then _ else q)=some q;split
    .rename_i e;rcases zn3 r.ps h.2.2 with g|⟨q',h1,h2⟩
     .omega
     .rw[e,hq] at h1;obtain rfl:=Option.some.inj h1;rw[hi.2.2.2] at h2;cases h2
    .rfl
theorem zpQ(r:Rt)(s:List UInt8):Idl X r (zba r s):=by
 unfold zba;split
 .exact zlw ..
 .exact Idl.refl r
theorem idl_tak(r:Rt)(i:Nat)(k:UInt8)(s:List UInt8):Idl (· =i) r (takR r i k s):=by
 have h:Idl (· =i) r (tak1 r i k s):=by
  unfold tak1;split
  .exact zdT ..
  .exact Idl.refl r
 unfold takR;split
 .exact h.trans (zeZ ..)
 .split
  .split
   .exact h.trans (zeZ ..)
   .exact h
  .split
   .exact h.trans (zoc ..)
   .split
    .exact h.trans (zfg (zlf ..))
    .split
     .exact h.trans (zpQ ..)
     .exact h
theorem zmW(r:Rt)(i:Nat)(s:List UInt8):Idl (· =i) r (zar r i s):=by
 unfold zar;refine Idl.trans (zdT r i λp=>{ p with rd:=(zaP p.rd s).1,rest:=(zbg (p.rest++s)).2.2 }) ?_;generalize (zaP (r.pt i).rd s).2.1=T;generalize (r.onP i λp=>{ p with rd:=(zaP p.rd s).1,rest:=(zbg (p.rest++s)).2.2 })=q
 induction T generalizing q with
 |nil=>exact Idl.refl q
 |cons t T ih=>
  refine Idl.trans ?_ (ih _);unfold takT;split
  .exact Idl.refl _
  .exact idl_tak ..
theorem zpj(r:Rt)(to:Int)(t:ByteArray):Idl X r (zbw r to t):=by
 unfold zbw;split
 .exact Idl.refl r
 .exact zlw ..
theorem zpA{r:Rt}{i:Nat}{q:Pt}(h:r.ps[i]? =some q):r.pt i=q:=by
 unfold Rt.pt;rw[List.getD_eq_getElem?_getD,h];rfl
theorem znp(r:Rt)(i:Nat):Idl X r (zbX r i):=by
 refine⟨λp q _ hq hi=>?_⟩;by_cases e:p=i
 .subst e;obtain⟨h1,h2,h3,h4⟩:=hi;have hl:zaD q.l=q.l:=by
   have:zag q.l=q.l:=by unfold zag;rw[if_neg (by omega)]
   unfold zaD;rw[this,if_neg (by omega)]
  have hf:zbE { q with l:=zaD q.l }=q:=by
   rw[hl];obtain⟨m,l,rd,rest,pe,out⟩:=q;obtain⟨a1,a2,a3,a4,a5,a6,a7,a8,a9,a10,a11⟩:=l;dsimp only at h2 h3;subst h2 h3;rfl
  have h0:(zas r p).ps[p]? =some q:=by
   unfold zas;rw[zhG,hq];show some (if p=p then zbE { q with l:=zaD q.l } else q)=some q;rw[if_pos rfl,hf]
  have hp0:=zpA h0;unfold zbX;rw[hp0,if_pos (by omega),ps_meet,zhG,h0];show some (if p=p then { q with p:=peNo } else q)=some q;rw[if_pos rfl,<-h4]
 .have h:Idl (· =i) r (zbX r i):=by
   have h0:Idl (· =i) r (zas r i):=zdT ..;unfold zbX;split
   .exact h0.trans (zeZ ..)
   .refine (h0.trans (zeZ (zas r i) i (zbD ((zas r i).pt i).p))).trans ?_;refine Idl.trans (zdT _ i (zaQ r.id)) ?_;generalize (owdB _ _)=L;generalize (Rt.onP _ i (zaQ r.id))=z
    induction L generalizing z with
    |nil=>exact Idl.refl _
    |cons x L ih=>exact Idl.trans (zdT z i (zaS x)) (ih _)
  exact h.h p q e hq hi
theorem idl_tick(r:Rt):Idl X r (zch r):=by
 unfold zch;generalize List.range r.ps.length=L
 induction L generalizing r with
 |nil=>exact Idl.refl r
 |cons i L ih=>exact (znp r i).trans (ih _)
end
def Cb.at(c:Cb)(i p:Nat):Prop:=(c.a=(i:Int)+1/\c.pa=p)\/(c.b=(i:Int)+1/\c.pb=p)
def Nt.wired(N:Nt)(i p:Nat):Prop:= ∃c∈N.cs,c.at i p
def Ends(c d:Cb):Prop:=d.a=c.a/\d.pa=c.pa/\d.b=c.b/\d.pb=c.pb/\d.m=c.m/\d.inn=c.inn
theorem zpz{c d:Cb}(h:Ends c d){i p:Nat}:d.at i p↔c.at i p:=by unfold Cb.at;rw[h.1,h.2.1,h.2.2.1,h.2.2.2.1]
def Pt.cl(q q':Pt):Prop:=q'=q\/q'={ q with out:=[] }
theorem Pt.cl.out{q q':Pt}(h:q.cl q')(ho:q.out=[]):q'.out=[]:=by
 rcases h with rfl|rfl
 .exact ho
 .rfl
theorem ziE(N:Nt)(a:Int)(f:Rt->Rt)(i:Nat):(N.onR a f).rs[i]? =(λr=>if (a-1).toNat=i then f r else r) <$> N.rs[i]? :=by
 show (N.rs.modify _ f)[i]? =_;rw[List.getElem?_modify]
structure Gd (W:Nat->Prop) (r r':Rt):Prop where
 id:r'.id=r.id
 b:r'.b=r.b
 inb:r'.inb=r.inb
 dr:r'.dr=r.dr
 len:r'.ps.length=r.ps.length
 ps: ∀p q,r.ps[p]? =some q-> ∃q',r'.ps[p]? =some q'/\q.cl q'/\(W p->q'.out=[])
theorem Gd.refl(r:Rt):Gd (λ_=>False) r r:=⟨rfl,rfl,rfl,rfl,rfl,λp q h=>⟨q,h,.inl rfl,λg=>g.elim⟩⟩
theorem Gd.step{W V:Nat->Prop}{r r':Rt}(h:Gd W r r')(a:Bool)(pa:Nat)(hV: ∀p,V p->W p\/(a=true/\pa=p)):Gd V r (if a=true then outR r' pa else r'):=by
 cases a with
 |false=>exact⟨h.id,h.b,h.inb,h.dr,h.len,λp q hq=>by
   obtain⟨q',h1,h2,h3⟩:=h.ps p q hq;exact⟨q',h1,h2,λhv=>h3 ((hV p hv).resolve_right (λg=>by cases g.1))⟩⟩
 |true=>
  refine⟨h.id,h.b,h.inb,h.dr,by rw[<-h.len];exact (zl9 r' pa).2,λp q hq=>?_⟩;obtain⟨q',h1,h2,h3⟩:=h.ps p q hq;have e:(outR r' pa).ps[p]? =some (if pa=p then { q' with out:=[] } else q'):=by
   unfold outR;rw[zhG,h1];rfl
  rw[if_pos rfl];refine⟨_,e,?_,λhv=>?_⟩
  .split
   .rcases h2 with rfl|rfl
    .exact .inr rfl
    .exact .inr rfl
   .exact h2
  .rcases hV p hv with g|g
   .have:=h3 g;split
    .rfl
    .exact this
   .rw[if_pos g.2]
structure GL (N Q:Nt) (m:Nat):Prop where
 mt:Q.mt=N.mt
 ib:Q.ib=N.ib
 cl:Q.cs.length=N.cs.length
 cs: ∀(j:Nat) (c:Cb),N.cs[j]? =some c-> ∃d,Q.cs[j]? =some d/\Ends c d/\(c.inn=false->d.w0=c.w0/\d.w1=c.w1)
 rl:Q.rs.length=N.rs.length
 rs: ∀(i:Nat) (r:Rt),N.rs[i]? =some r-> ∃r',Q.rs[i]? =some r'/\Gd (λp=> ∃j c,j<m/\N.cs[j]? =some c/\c.at i p) r r'
theorem zjb{cs:List Cb}{m j:Nat}{c d:Cb}(h:cs[j]? =some c):(cs.set m d)[j]? =some (if m=j then d else c):=by
 have hlt:=(List.getElem?_eq_some_iff.1 h).1;rw[List.getElem?_set];split
 .rename_i e;subst e;rw[if_pos hlt]
 .exact h
theorem gl_step{k n d e:Nat}{N Q:Nt}{m:Nat}(hN:N.ok k n d e)(h:GL N Q m)(hm:m<N.cs.length):GL N (zfk Q m) (m+1):=by
 obtain⟨c,hc⟩: ∃c,N.cs[m]? =some c:=⟨_,List.getElem?_eq_getElem hm⟩;have hco:=hN.c c (getq hc);obtain⟨c1,hc1,he1,hw1⟩:=h.cs m c hc;have hg0:zcH Q m={ Q.onR c1.a (λr=>outR r c1.pa.toNat) with cs:=Q.cs.set m { c1 with w0:=putW c1.inn c1.w0 ((Q.rt c1.a).pt c1.pa.toNat).out } }:=by unfold zcH;rw[hc1]
 have hc2:=g0_cb hc1;have hg1:zfk Q m={ (zcH Q m).onR c1.b (λr=>outR r c1.pb.toNat) with cs:=(zcH Q m).cs.set m { c1 with w0:=putW c1.inn c1.w0 ((Q.rt c1.a).pt c1.pa.toNat).out,w1:=putW c1.inn c1.w1 (((zcH Q m).rt c1.b).pt c1.pb.toNat).out } }:=by
  show zds (zcH Q m) m=_;unfold zds;rw[hc2]
 have hput: ∀w s,c.inn=false->putW c1.inn w s=w:=λw s hi=>by unfold putW;rw[he1.2.2.2.2.2,hi,if_neg (λg=>by cases g.1)]
 refine⟨by rw[hg1,hg0];exact h.mt,by rw[hg1,hg0];exact h.ib,by rw[hg1,hg0];simp only[Nt.onR,List.length_set];exact h.cl,λj cj hj=>?_,by rw[hg1,hg0];simp only[Nt.onR,List.length_modify];exact h.rl,λi r hr=>?_⟩
 .obtain⟨d1,hd1,hd2,hd3⟩:=h.cs j cj hj;rw[hg1,hg0];refine⟨_,zjb (zjb hd1),?_,λhi=>?_⟩
  .by_cases e:m=j
   .subst e;rw[if_pos rfl];rw[hc] at hj;obtain rfl:=Option.some.inj hj;exact he1
   .rw[if_neg e,if_neg e];exact hd2
  .by_cases e:m=j
   .subst e;rw[if_pos rfl];rw[hc] at hj;obtain rfl:=Option.some.inj hj;exact⟨by dsimp only;rw[hput _ _ hi];exact (hw1 hi).1,by dsimp only;rw[hput _ _ hi];exact (hw1 hi).2⟩
   .rw[if_neg e,if_neg e];exact hd3 hi
 .obtain⟨r',h1,h2⟩:=h.rs i r hr;refine⟨_,by rw[hg1,hg0];show ((Q.rs.modify _ _).modify _ _)[i]? =_;rw[List.getElem?_modify,List.getElem?_modify,h1];rfl,?_⟩;have s1:=h2.step (V:=λp=>(∃j c,j<m/\N.cs[j]? =some c/\c.at i p)\/(c.a=(i:Int)+1/\c.pa=p)) (decide ((c1.a-1).toNat=i)) c1.pa.toNat (λp hp=>hp.imp (λg=>g) (λg=>⟨decide_eq_true (by rw[he1.1];omega),by rw[he1.2.1];omega⟩));have s2:=s1.step (V:=λp=> ∃j c,j<m+1/\N.cs[j]? =some c/\c.at i p) (decide ((c1.b-1).toNat=i)) c1.pb.toNat (λp ⟨j,cj,hj,hcj,ha⟩=>by
   rcases Nat.lt_or_ge j m with g|g
   .exact .inl (.inl ⟨j,cj,g,hcj,ha⟩)
   .obtain rfl:j=m:=by omega
    rw[hc] at hcj;obtain rfl:=Option.some.inj hcj;rcases ha with ha|ha
    .exact .inl (.inr ha)
    .exact .inr ⟨decide_eq_true (by rw[he1.2.2.1];omega),by rw[he1.2.2.2.1];omega⟩)
  simp only[decide_eq_true_eq] at s2;exact s2
theorem zj1{k n d e:Nat}{N:Nt}(hN:N.ok k n d e):GL N (zbQ N) N.cs.length:=by
 have key: ∀m,m<=N.cs.length->GL N ((List.range m).foldl zfk N) m:=by
  intro m
  induction m with
  |zero=>
   intro _;refine⟨rfl,rfl,rfl,λj c hj=>⟨c,hj,⟨rfl,rfl,rfl,rfl,rfl,rfl⟩,λ_=>⟨rfl,rfl⟩⟩,rfl,λi r hr=>⟨r,hr,?_⟩⟩;have:=Gd.refl r;exact⟨this.id,this.b,this.inb,this.dr,this.len,λp q hq=>⟨q,hq,.inl rfl,λ⟨j,c,hj,_⟩=>absurd hj (Nat.not_lt_zero _)⟩⟩
  |succ m ih=>
   intro hm;rw[List.range_succ,List.foldl_append];exact gl_step hN (ih (by omega)) (by omega)
 exact key _ (Nat.le_refl _)
def noIn(r:Rt):Rt:={ r with inb:=[] }
theorem zca(N:Nt):(zbO N).cs=(zbQ N).cs/\(zbO N).mt=(zbQ N).mt/\(∀i,i<N.rs.length->(zbO N).rs[i]? =noIn <$> (zbQ N).rs[i]?)/\(∀i,i<N.rs.length->(zbO N).ib[i]? =(λl=>l++((zbQ N).rs.getD i rtD).inb) <$> (zbQ N).ib[i]?):=by
 unfold zbO;have key: ∀m,let Q:=(List.range m).foldl zbU (zbQ N)
   Q.cs=(zbQ N).cs/\Q.mt=(zbQ N).mt/\(∀i,Q.rs[i]? =(if i<m then noIn <$> (zbQ N).rs[i]? else (zbQ N).rs[i]?))/\(∀i,Q.ib[i]? =(if i<m then (λl=>l++((zbQ N).rs.getD i rtD).inb) <$> (zbQ N).ib[i]? else (zbQ N).ib[i]?)):=by
  intro m
  induction m with
  |zero=>exact⟨rfl,rfl,λi=>by simp,λi=>by simp⟩
  |succ m ih=>
   obtain⟨a1,a2,a3,a4⟩:=ih;rw[List.range_succ,List.foldl_append];generalize (List.range m).foldl zbU (zbQ N)=Q at *
   refine⟨a1,a2,λi=>?_,λi=>?_⟩
   .show (Q.rs.modify m λr=>noIn r)[i]? =_;rw[List.getElem?_modify,a3 i];by_cases e:m=i
    .subst e;rw[if_neg (Nat.lt_irrefl _),if_pos (Nat.lt_succ_self _)];cases (zbQ N).rs[m]? <;>simp
    .by_cases g:i<m
     .rw[if_pos g,if_pos (by omega)];cases (zbQ N).rs[i]? <;>simp [e]
     .rw[if_neg g,if_neg (by omega)];cases (zbQ N).rs[i]? <;>simp [e]
   .show (Q.ib.modify m λl=>l++(Q.rs.getD m rtD).inb)[i]? =_;rw[List.getElem?_modify,a4 i];have hm:(Q.rs.getD m rtD).inb=((zbQ N).rs.getD m rtD).inb:=by
     rw[List.getD_eq_getElem?_getD,List.getD_eq_getElem?_getD,a3 m,if_neg (Nat.lt_irrefl _)]
    rw[hm];by_cases e:m=i
    .subst e;rw[if_neg (Nat.lt_irrefl _),if_pos (Nat.lt_succ_self _)];cases (zbQ N).ib[m]? <;>simp
    .by_cases g:i<m
     .rw[if_pos g,if_pos (by omega)];cases (zbQ N).ib[i]? <;>simp [e]
     .rw[if_neg g,if_neg (by omega)];cases (zbQ N).ib[i]? <;>simp [e]
 obtain⟨a1,a2,a3,a4⟩:=key N.rs.length;exact⟨a1,a2,λi hi=>by rw[a3 i,if_pos hi],λi hi=>by rw[a4 i,if_pos hi]⟩
structure Nt.inv (k d e:Nat) (N:Nt):Prop where
 ok:N.ok k 0 d e
 idle: ∀(i p:Nat) (r:Rt) (q:Pt),N.rs[i]? =some r->r.ps[p]? =some q-> ¬N.wired i p->q.idle
def Nt.lone(N:Nt):Prop:= ∀(i p:Nat) (r:Rt) (q:Pt),N.rs[i]? =some r->r.ps[p]? =some q-> ¬N.wired i p->q.idle
theorem ze3{k n d e:Nat}{N:Nt}(hN:N.ok k n d e)(hI:N.lone):(zbO N).inv k d (e+n):=by
 have hG:=zdh hN;have gl:=zj1 hN;obtain⟨f1,f2,f3,f4⟩:=zca N;have hw: ∀i p,(zbO N).wired i p↔N.wired i p:=λi p=>by
  constructor
  .rintro⟨c,hc,ha⟩;rw[f1] at hc;obtain⟨j,hj⟩:=List.mem_iff_getElem?.1 hc;have hlt:j<N.cs.length:=by rw[<-gl.cl];exact (List.getElem?_eq_some_iff.1 hj).1
   obtain⟨d1,h1,h2,_⟩:=gl.cs j _ (List.getElem?_eq_getElem hlt);rw[hj] at h1;obtain rfl:=Option.some.inj h1;exact⟨_,List.getElem_mem hlt,(zpz h2).1 ha⟩
  .rintro⟨c,hc,ha⟩;obtain⟨j,hj⟩:=List.mem_iff_getElem?.1 hc;obtain⟨d1,h1,h2,_⟩:=gl.cs j c hj;exact⟨d1,by rw[f1];exact getq h1,(zpz h2).2 ha⟩
 have key: ∀(i:Nat) (r':Rt),(zbO N).rs[i]? =some r'-> ∃r,N.rs[i]? =some r/\r'.inb=[]/\r'.ps.length=r.ps.length/\ ∀(p:Nat) (q':Pt),r'.ps[p]? =some q'-> ∃q:Pt,r.ps[p]? =some q/\q.cl q'/\q'.out=[]:=by
  intro i r' hr';have hlt:i<N.rs.length:=by
   have:=(List.getElem?_eq_some_iff.1 hr').1;rw[hG.rs] at this;rw[hN.rs];exact this
  obtain⟨r1,h1,h2⟩:=gl.rs i _ (List.getElem?_eq_getElem hlt);rw[f3 i hlt,h1] at hr';obtain rfl:noIn r1=r':=Option.some.inj hr';refine⟨_,List.getElem?_eq_getElem hlt,rfl,h2.len,λp q' hq'=>?_⟩;have hpl:p<N.rs[i].ps.length:=by rw[<-h2.len];exact (List.getElem?_eq_some_iff.1 hq').1
  obtain⟨q1,g1,g2,g3⟩:=h2.ps p _ (List.getElem?_eq_getElem hpl);have hq1:r1.ps[p]? =some q':=hq';rw[hq1] at g1;obtain rfl:=Option.some.inj g1;refine⟨_,List.getElem?_eq_getElem hpl,g2,?_⟩;by_cases hwd:N.wired i p
  .obtain⟨c,hc,ha⟩:=hwd;obtain⟨j,hj⟩:=List.mem_iff_getElem?.1 hc;exact g3 ⟨j,c,(List.getElem?_eq_some_iff.1 hj).1,hj,ha⟩
  .exact g2.out (hI i p _ _ (List.getElem?_eq_getElem hlt) (List.getElem?_eq_getElem hpl) hwd).2.2.1
 refine⟨⟨hG.rs,hG.ib,hG.mt,hG.m3,hG.cs,λr' hr'=>?_,hG.c,hG.i⟩,λi p r' q' hr' hq' hnw=>?_⟩
 .have hf:=hG.r r' hr';obtain⟨i,hi⟩:=List.mem_iff_getElem?.1 hr';obtain⟨r,h1,h2,h3,h4⟩:=key i r' hi;refine⟨hf.p3,hf.f.b,λp' hp'=>?_,by rw[h2];exact Nat.le_refl _,hf.f.dr⟩;obtain⟨p,hp⟩:=List.mem_iff_getElem?.1 hp';obtain⟨q,g1,g2,g3⟩:=h4 p p' hp;have:=hf.f.ps p' hp';exact⟨this.m,this.l,this.rd,this.pe,by rw[g3];exact Nat.le_refl _⟩
 .obtain⟨r,h1,h2,h3,h4⟩:=key i r' hr';obtain⟨q,g1,g2,g3⟩:=h4 p q' hq';have:=hI i p r q h1 g1 (λh=>hnw ((hw i p).2 h));rcases g2 with rfl|rfl
  .exact this
  .exact⟨this.1,this.2.1,rfl,this.2.2.2⟩
section
variable {k n d e:Nat} {N:Nt}
theorem Nt.inv.up(h:N.inv k d e){d' e':Nat}(hd:d<=d')(he:e<=e'):N.inv k d' e':=⟨h.ok.up (Nat.le_refl _) hd he,h.idle⟩
theorem zdj(hN:N.lone)(i:Int){F:Rt->Rt}(hL: ∀r,(F r).ps.length=r.ps.length)(hF: ∀r,N.rs[(i-1).toNat]? =some r->Idl (λp=>N.wired (i-1).toNat p) r (F r)):(N.onR i F).lone:=by
 intro j p r' q' hr' hq' hw;rw[ziE] at hr';cases hr:N.rs[j]? with
 |none=>rw[hr] at hr';cases hr'
 |some r=>
  rw[hr] at hr';have hr2:(if (i-1).toNat=j then F r else r)=r':=Option.some.inj hr';by_cases e:(i-1).toNat=j
  .rw[if_pos e] at hr2;subst e hr2;have hlt:p<r.ps.length:=by rw[<-hL r];exact (List.getElem?_eq_some_iff.1 hq').1
   have hi:=hN _ p r _ hr (List.getElem?_eq_getElem hlt) hw;have:=(hF r hr).h p _ hw (List.getElem?_eq_getElem hlt) hi;rw[hq'] at this;obtain rfl:=Option.some.inj this;exact hi
  .rw[if_neg e] at hr2;subst hr2;exact hN j p r q' hr hq' hw
theorem zd0{i:Nat}{c c':Cb}(hc:N.cs[i]? =some c)(he:c'.a=c.a/\c'.pa=c.pa/\c'.b=c.b/\c'.pb=c.pb){j p:Nat}:Nt.wired { N with cs:=N.cs.set i c' } j p↔N.wired j p:=by
 have hat: ∀j p,c'.at j p↔c.at j p:=λj p=>by unfold Cb.at;rw[he.1,he.2.1,he.2.2.1,he.2.2.2]
 constructor
 .rintro⟨x,hx,ha⟩;rcases List.mem_or_eq_of_mem_set hx with g|g
  .exact⟨x,g,ha⟩
  .subst g;exact⟨c,getq hc,(hat j p).1 ha⟩
 .rintro⟨x,hx,ha⟩;obtain⟨m,hm⟩:=List.mem_iff_getElem?.1 hx;have:=zjb (m:=i) (d:=c') hm;by_cases e:i=m
  .subst e;rw[hc] at hm;obtain rfl:=Option.some.inj hm;rw[if_pos rfl] at this;exact⟨c',getq this,(hat j p).2 ha⟩
  .rw[if_neg e] at this;exact⟨x,getq this,ha⟩
theorem zi5(hN:N.lone){i:Nat}{c c':Cb}(hc:N.cs[i]? =some c)(he:c'.a=c.a/\c'.pa=c.pa/\c'.b=c.b/\c'.pb=c.pb):Nt.lone { N with cs:=N.cs.set i c' }:=
 λj p r q hr hq hw=>hN j p r q hr hq (λh=>hw ((zd0 hc he).2 h))
theorem zd8(h:N.inv k d e)(i:Int):(zdH N i).inv k d (e+6630):=by
 unfold zdH;split
 .have h1:=zat h.ok (m:=6630) (f:=d) (by omega) (Nat.le_refl _) i (F:=zch) (λr hr=>by have:=zk3 hr;rw[Nat.zero_add] at this;exact this);exact ze3 h1 (zdj h.idle i (λr=>(zee r).2) (λr _=>idl_tick r))
 .exact h.up (Nat.le_refl _) (by omega)
theorem zmU(h:N.inv k d e)(i to:Int)(t:ByteArray):(zfm N i to t).inv k (d+1) (e+6630):=by
 unfold zfm;split
 .have h1:=zat h.ok (m:=6630) (f:=d+1) (by omega) (by omega) i (F:=λr=>zbw r to t) (λr hr=>by have:=zhp hr to t;rw[Nat.zero_add] at this;exact this);exact ze3 h1 (zdj h.idle i (λr=>(zdg r to t).2) (λr _=>zpj r to t))
 .exact h.up (by omega) (by omega)
theorem zoD{c:Cb}{i:Nat}(hc:N.cs[i]? =some c)(h:c.ok k):N.wired (c.a-1).toNat c.pa.toNat:=⟨c,getq hc,.inl ⟨by have:=h.a;omega,by have:=h.pa;omega⟩⟩
theorem zqC{c:Cb}{i:Nat}(hc:N.cs[i]? =some c)(h:c.ok k):N.wired (c.b-1).toNat c.pb.toNat:=⟨c,getq hc,.inr ⟨by have:=h.b;omega,by have:=h.pb;omega⟩⟩
theorem zdL{i:Int}{c:Cb}(h:N.cb i=some c):0<=i/\N.cs[i.toNat]? =some c:=by
 unfold Nt.cb at h;split at h
 .cases h
 .exact⟨by omega,h⟩
theorem zdF(h:N.inv k d e)(i way many:Int):(ndel N i way many).inv k (d+2000) (e+1040000):=by
 have hu:N.inv k (d+2000) (e+1040000):=h.up (by omega) (by omega);unfold ndel;split
 .exact hu
 .split
  .exact hu
  .rename_i c hcb;obtain⟨h0,hc⟩:=zdL hcb;have hco:=h.ok.c c (getq hc);split
   .have hlen:(c.w1.take (delK many c.w1)).length<=2000:=Nat.le_trans (List.length_take_le' ..) hco.w1;have k1:=zem h.ok i.toNat (c:={ c with w1:=c.w1.drop (delK many c.w1) }) ⟨hco.a,hco.pa,hco.b,hco.pb,hco.w0,by show (c.w1.drop _).length<=_;rw[List.length_drop];have:=hco.w1;omega⟩;have k2:=zat k1 (m:=1040000) (f:=d+2000) (by omega) (by omega) c.a (F:=λr=>zar r c.pa.toNat (c.w1.take (delK many c.w1))) (λr hr=>by have:=zeH hr c.pa.toNat hlen;rw[Nat.zero_add] at this;exact this);refine ze3 k2 (zdj (zi5 (c':={ c with w1:=c.w1.drop (delK many c.w1) }) h.idle hc ⟨rfl,rfl,rfl,rfl⟩) c.a (F:=λr=>zar r c.pa.toNat (c.w1.take (delK many c.w1))) (λr=>(zdM ..).2) (λr _=>(zmW r c.pa.toNat _).mono λp hp=>?_));subst hp;exact (zd0 (c':={ c with w1:=c.w1.drop (delK many c.w1) }) hc ⟨rfl,rfl,rfl,rfl⟩).2 (zoD hc hco)
   .have hlen:(c.w0.take (delK many c.w0)).length<=2000:=Nat.le_trans (List.length_take_le' ..) hco.w0;have k1:=zem h.ok i.toNat (c:={ c with w0:=c.w0.drop (delK many c.w0) }) ⟨hco.a,hco.pa,hco.b,hco.pb,by show (c.w0.drop _).length<=_;rw[List.length_drop];have:=hco.w0;omega,hco.w1⟩;have k2:=zat k1 (m:=1040000) (f:=d+2000) (by omega) (by omega) c.b (F:=λr=>zar r c.pb.toNat (c.w0.take (delK many c.w0))) (λr hr=>by have:=zeH hr c.pb.toNat hlen;rw[Nat.zero_add] at this;exact this);refine ze3 k2 (zdj (zi5 (c':={ c with w0:=c.w0.drop (delK many c.w0) }) h.idle hc ⟨rfl,rfl,rfl,rfl⟩) c.b (F:=λr=>zar r c.pb.toNat (c.w0.take (delK many c.w0))) (λr=>(zdM ..).2) (λr _=>(zmW r c.pb.toNat _).mono λp hp=>?_));subst hp;exact (zd0 (c':={ c with w0:=c.w0.drop (delK many c.w0) }) hc ⟨rfl,rfl,rfl,rfl⟩).2 (zqC hc hco)
theorem zby(h:N.inv k d e)(i:Int)(up:Bool):(zbY N i up).inv k d (e+780):=by
 have hu:N.inv k d (e+780):=h.up (by omega) (by omega);unfold zbY;split
 .exact hu
 .rename_i c hcb;obtain⟨h0,hc⟩:=zdL hcb;have hco:=h.ok.c c (getq hc);split
  .exact hu
  .have k1:=zem h.ok i.toNat (c:={ c with inn:=up,w0:=[],w1:=[] }) ⟨hco.a,hco.pa,hco.b,hco.pb,Nat.zero_le _,Nat.zero_le _⟩;have k2:=zat k1 (m:=390) (f:=d) (by omega) (Nat.le_refl _) c.a (F:=λr=>zaZ r c.pa.toNat up) (λr hr=>by have:=zcY hr c.pa.toNat up;rw[Nat.zero_add] at this;exact this);have k3:=zat k2 (m:=780) (f:=d) (by omega) (Nat.le_refl _) c.b (F:=λr=>zaZ r c.pb.toNat up) (λr hr=>zcY hr c.pb.toNat up);have l1:=zi5 (c':={ c with inn:=up,w0:=[],w1:=[] }) h.idle hc ⟨rfl,rfl,rfl,rfl⟩;have l2:=zdj l1 c.a (F:=λr=>zaZ r c.pa.toNat up) (λr=>(zcM ..).2) (λr _=>(zmL r c.pa.toNat up).mono λp hp=>by
    subst hp;exact (zd0 (c':={ c with inn:=up,w0:=[],w1:=[] }) hc ⟨rfl,rfl,rfl,rfl⟩).2 (zoD hc hco))
   have l3:=zdj l2 c.b (F:=λr=>zaZ r c.pb.toNat up) (λr=>(zcM ..).2) (λr _=>(zmL r c.pb.toNat up).mono λp hp=>by
    subst hp;exact (zd0 (c':={ c with inn:=up,w0:=[],w1:=[] }) hc ⟨rfl,rfl,rfl,rfl⟩).2 (zqC hc hco))
   exact ze3 k3 l3
theorem zhH(i:Int)(up:Bool)(h:N.ok k n d e):(zbY N i up).cs.length=N.cs.length/\(zbY N i up).mt=N.mt:=by
 unfold zbY;split
 .exact⟨rfl,rfl⟩
 .rename_i c hcb;obtain⟨h0,hc⟩:=zdL hcb;have hco:=h.c c (getq hc);split
  .exact⟨rfl,rfl⟩
  .have k1:=zem h i.toNat (c:={ c with inn:=up,w0:=[],w1:=[] }) ⟨hco.a,hco.pa,hco.b,hco.pb,Nat.zero_le _,Nat.zero_le _⟩;have k2:=zat k1 (m:=n+390) (f:=d) (by omega) (Nat.le_refl _) c.a (F:=λr=>zaZ r c.pa.toNat up) (λr hr=>zcY hr c.pa.toNat up);have k3:=zat k2 (m:=n+780) (f:=d) (by omega) (Nat.le_refl _) c.b (F:=λr=>zaZ r c.pb.toNat up) (λr hr=>zcY hr c.pb.toNat up);have gl:=zj1 k3;obtain⟨f1,f2,_⟩:=zca (zgf N i.toNat c up);exact⟨by rw[f1];exact gl.cl.trans (List.length_set ..),f2.trans gl.mt⟩
theorem zlx{id i m:Int}:(newPt id i m).idle:=⟨rfl,rfl,rfl,rfl⟩
theorem zdI{id:Int}: ∀(ms:List Int) (i:Int) (q:Pt),q∈newPs id i ms-> ∃j m,q=newPt id j m/\i<=j/\j<i+ms.length/\m∈ms
 |[],i,q,h=>by cases h
 |m::ms,i,q,h=>by
  rcases List.mem_cons.1 h with rfl|h
  .exact⟨i,m,rfl,Int.le_refl _,by simp only[List.length_cons];omega,List.mem_cons_self ..⟩
  .obtain⟨j,m',h1,h2,h3,h4⟩:=zdI ms (i+1) q h;exact⟨j,m',h1,by omega,by simp only[List.length_cons];omega,List.mem_cons_of_mem _ h4⟩
theorem new_f3{id a b c:Int}(hid:1<=id/\id<=6)(ha:1<=a/\a<=20)(hb:1<=b/\b<=20)(hc:1<=c/\c<=20):(newR id [a,b,c]).f3 0 d:=by
 refine⟨rfl,zey (zoT (n:=3) (by decide) (by decide)) _,λp hp=>?_,Nat.le_refl _,by show -(d:Int)<=0/\(0:Int)<=d;omega⟩;obtain⟨j,m,rfl,h2,h3,h4⟩:=zdI [a,b,c] 0 p hp;simp only[List.length_cons,List.length_nil] at h3;refine zo0 hid ⟨h2,by omega⟩ ?_;simp only[List.mem_cons,List.not_mem_nil,or_false] at h4;rcases h4 with rfl|rfl|rfl
 .exact ha
 .exact hb
 .exact hc
theorem ziS(h:N.inv k d e)(hk:k<=6){i:Int}(hi:1<=i/\i<=k):(N.onR i λ_=>newR i (N.mt.getD (i-1).toNat [])).inv k d e:=by
 have hlt:(i-1).toNat<N.mt.length:=by rw[h.ok.mt];omega
 obtain⟨a,b,c,h1,ha,hb,hc⟩:=h.ok.m3 N.mt[(i-1).toNat] (List.getElem_mem hlt);have hms:N.mt.getD (i-1).toNat []=[a,b,c]:=by rw[List.getD_eq_getElem?_getD,List.getElem?_eq_getElem hlt];exact h1
 rw[hms];have hf:=new_f3 (d:=d) (show 1<=i/\i<=6 by omega) ha hb hc;refine⟨zat h.ok (Nat.le_refl _) (Nat.le_refl _) i (λr _=>hf),λj p r q hr hq hw=>?_⟩;rw[ziE] at hr;cases hrj:N.rs[j]? with
 |none=>rw[hrj] at hr;cases hr
 |some r0=>
  rw[hrj] at hr;have hr2:(if (i-1).toNat=j then newR i [a,b,c] else r0)=r:=Option.some.inj hr;by_cases e:(i-1).toNat=j
  .rw[if_pos e] at hr2;subst hr2;obtain⟨j',m,rfl,_⟩:=zdI [a,b,c] 0 q (getq hq);exact zlx
  .rw[if_neg e] at hr2;subst hr2;exact h.idle j p r0 q hrj hq hw
theorem inv_rst(h:N.inv k d e)(hk:k<=6)(i:Int):(nrst N i).inv k d (e+14040):=by
 unfold nrst;split
 .rename_i hh;have hi:=zcI.1 hh;rw[h.ok.rs] at hi;have key: ∀m,m<=N.cs.length->let s:=(List.range m).foldl (zc8 i) (N,[])
    s.1.inv k d (e+780*m)/\s.2.length<=m/\s.1.mt=N.mt:=by
   intro m
   induction m with
   |zero=>intro _;exact⟨h,Nat.le_refl _,rfl⟩
   |succ m ih=>
    intro hm;obtain⟨a1,a2,a3⟩:=ih (by omega);rw[List.range_succ,List.foldl_append];generalize (List.range m).foldl (zc8 i) (N,[])=s at *
    show (zc8 i s m).1.inv _ _ _/\(zc8 i s m).2.length<=_/\(zc8 i s m).1.mt=_;unfold zc8;split
    .exact⟨(zby a1 _ _).up (Nat.le_refl _) (by omega),by simp only[List.length_append,List.length_singleton];omega,(zhH _ _ a1.ok).2.trans a3⟩
    .exact⟨a1.up (Nat.le_refl _) (by omega),by omega,a3⟩
  obtain⟨a1,a2,a3⟩:=key _ (Nat.le_refl _);have hcs:=h.ok.cs;generalize (List.range N.cs.length).foldl (zc8 i) (N,[])=s at *
  have b1:=ziS a1 hk (i:=i) ⟨hi.1,by omega⟩;rw[a3] at b1;show (s.2.foldl (λq (k:Nat)=>zbY q k true) _).inv _ _ _;generalize s.1.onR i (λ_=>newR i (N.mt.getD (i-1).toNat []))=Q at *
  have key2: ∀(L:List Nat) (Q:Nt) (e:Nat),Q.inv k d e->(L.foldl (λq (k:Nat)=>zbY q k true) Q).inv k d (e+780*L.length):=by
   intro L
   induction L with
   |nil=>intro Q e h;exact h
   |cons x L ih=>
    intro Q e h;have:=ih _ _ (zby h (x:Int) true);rw[List.foldl_cons,List.length_cons];exact this.up (Nat.le_refl _) (by omega)
  exact (key2 s.2 Q _ b1).up (Nat.le_refl _) (by omega)
 .exact h.up (Nat.le_refl _) (by omega)
theorem cs_ndel(h:N.ok k n d e)(i way many:Int):(ndel N i way many).cs.length=N.cs.length:=by
 unfold ndel;split
 .rfl
 .split
  .rfl
  .rename_i c hcb;obtain⟨h0,hc⟩:=zdL hcb;have hco:=h.c c (getq hc);split
   .have hlen:(c.w1.take (delK many c.w1)).length<=2000:=Nat.le_trans (List.length_take_le' ..) hco.w1;have k1:=zem h i.toNat (c:={ c with w1:=c.w1.drop (delK many c.w1) }) ⟨hco.a,hco.pa,hco.b,hco.pb,hco.w0,by show (c.w1.drop _).length<=_;rw[List.length_drop];have:=hco.w1;omega⟩;have k2:=zat k1 (m:=n+1040000) (f:=d+2000) (by omega) (by omega) c.a (F:=λr=>zar r c.pa.toNat (c.w1.take (delK many c.w1))) (λr hr=>zeH hr c.pa.toNat hlen);rw[(zca _).1];exact (zj1 k2).cl.trans (List.length_set ..)
   .have hlen:(c.w0.take (delK many c.w0)).length<=2000:=Nat.le_trans (List.length_take_le' ..) hco.w0;have k1:=zem h i.toNat (c:={ c with w0:=c.w0.drop (delK many c.w0) }) ⟨hco.a,hco.pa,hco.b,hco.pb,by show (c.w0.drop _).length<=_;rw[List.length_drop];have:=hco.w0;omega,hco.w1⟩;have k2:=zat k1 (m:=n+1040000) (f:=d+2000) (by omega) (by omega) c.b (F:=λr=>zar r c.pb.toNat (c.w0.take (delK many c.w0))) (λr hr=>zeH hr c.pb.toNat hlen);rw[(zca _).1];exact (zj1 k2).cl.trans (List.length_set ..)
end
end Go.Proofs.YtimfnpjcedjmiadGreat
namespace Go.Proofs.YtimfnpjcedjmiadGreat
open Go.RowKit
def ntO(N:Nt):Res:=.obj (zcD (ntM N 0))
def zni(x:Nat):List AV:=[.v (.int .i64 (x:Int))]
theorem cutB{α:Type}{k id:Nat}{x:(AS->Prop)->AS->Prop}{y:AS->Prop}{A:AS}(B:α->AS)(ok:α->Prop)(hy: ∀a,ok a->y (B a))(hx:(∀a,ok a->y (B a))->x (λA'=> ∃B,AS.le k A' B/\y B) A):StopSeq k id x y A:=.mk (hx hy)
theorem znx{N:Nt}{i:Int}{k:Nat}{c:Cb}(h:N.cs[k]? =some c):zh6 N i k=(c.inn&&(c.a==i||c.b==i)):=by unfold zh6;rw[h]
theorem mt_row{mt:List (List Int)}{j:Nat}{a b c:Int}(h:mt[j]? =some [a,b,c]):(mt.map mtRow)[j]? =some [.sl 1 ([a,b,c].map iRow) none]:=by rw[List.getElem?_map,h];rfl
def nnewPl:List (Nat×Pl):=[(12,.op 0 (.op 1 (.op 2 (.op 3 (.op 4 (.op 5 (.op 6 (.op 7 (.op 8 (.op 9 (.op 10 (.op 11 (.done))))))))))))),(13,.op 0 (.op 1 (.op 2 (.op 3 (.op 4 (.op 5 (.op 6 (.op 7 (.op 8 (.op 9 (.op 10 (.op 11 (.op 12 (.op 13 (.op 14 (.done)))))))))))))))),(14,.op 0 (.op 1 (.op 2 (.op 3 (.op 4 (.op 5 (.op 6 (.op 7 (.op 8 (.op 9 (.op 10 (.op 11 (.op 12 (.op 13 (.op 14 (.done))))))))))))))))]
def mkCb(c:Ca):Cb:=⟨c.a,c.pa,c.b,c.pb,c.m,false,[],[]⟩
def putM(T:List (List Int))(i p m:Int):List (List Int):=T.modify (i-1).toNat (λt=>t.set p.toNat m)
def znG(T:List (List Int))(c:Ca):List (List Int):=putM (putM T c.a c.pa c.m) c.b c.pb c.m
def newT(k:Nat)(l:List Ca):List (List Int):=l.foldl znG (List.replicate k [1,1,1])
def newN(k:Nat)(l:List Ca):Nt:=⟨(List.range k).map λ(i:Nat)=>newR ((i:Int)+1) ((newT k l).getD i []),l.map mkCb,newT k l,List.replicate k []⟩
structure Tok (k:Nat) (T:List (List Int)):Prop where
 len:T.length=k
 three: ∀t∈T,t.length=3/\ ∀x∈t,(1:Int)<=x/\x<=20
theorem zie{k:Nat}{T:List (List Int)}(h:Tok k T)(i p:Int){m:Int}(hm:1<=m/\m<=20):Tok k (putM T i p m):=by
 refine⟨by rw[<-h.len];exact List.length_modify .., λt ht=>?_⟩;rcases zdK (show t∈T.modify _ _ from ht) with g|⟨y,hy,rfl⟩
 .exact h.three t g
 .obtain⟨h1,h2⟩:=h.three y hy;refine⟨by rw[List.length_set];exact h1,λx hx=>?_⟩;rcases List.mem_or_eq_of_mem_set hx with g|g
  .exact h2 x g
  .exact g▸hm
theorem zoA(k:Nat):Tok k (List.replicate k [1,1,1]):=⟨List.length_replicate .., λt ht=>by
 rw[List.eq_of_mem_replicate ht];exact⟨rfl,λx hx=>by simp only[List.mem_cons,List.not_mem_nil,or_false] at hx;omega⟩⟩
theorem zeU{k:Nat}{T:List (List Int)}(h:Tok k T){t:List Int}(ht:t∈T): ∃a b c,t=[a,b,c]/\(1<=a/\a<=20)/\(1<=b/\b<=20)/\(1<=c/\c<=20):=by
 obtain⟨h1,h2⟩:=h.three t ht;obtain⟨a,b,c,rfl⟩:=len3 h1;exact⟨a,b,c,rfl,h2 a (by simp),h2 b (by simp),h2 c (by simp)⟩
theorem i_row{t:List Int}{p:Nat}(h:t.length=3)(hp:p<3):(t.map iRow)[p]? =some (iRow (t.getD p 0)):=by
 rw[List.getElem?_map,List.getD_eq_getElem?_getD,List.getElem?_eq_getElem (by omega)];rfl
theorem i_set{t:List Int}{p:Nat}{m:Int}:(t.map iRow).set p (iRow m)=(t.set p m).map iRow:=by rw[List.map_set]
end Go.Proofs.YtimfnpjcedjmiadGreat
namespace Go.Proofs.YtimfnpjcedjmiadGreat
structure Co where
 id:Int
 ps:List (Int×Pe)
 b:Ba
 inb:List Mg
def Rt.co(r:Rt):Co:=⟨r.id,r.ps.map λp=>(p.m,p.p),r.b,r.inb⟩
structure Meas where
 q:Nat->List UInt8->Prop
 w:List UInt8->Nat
 Q:Nat->Co->Prop
 W:Co->Nat
 qm: ∀{X Y:Nat} {t:List UInt8},X<=Y->q X t->q Y t
 Qm: ∀{X Y:Nat} {c:Co},X<=Y->Q X c->Q Y c
def Meas.s(S:Meas)(u:List (List UInt8)):Nat:=(u.map S.w).sum
def Meas.v(S:Meas)(V:Nat->List (List UInt8)):Nat:=S.s (V 0)+S.s (V 1)+S.s (V 2)
def Meas.good(S:Meas)(X:Nat)(u:List (List UInt8)):Prop:= ∀t∈u,t.length<=60/\S.q X t
theorem Meas.s_nil(S:Meas):S.s []=0:=rfl
theorem Meas.s_app(S:Meas)(u v:List (List UInt8)):S.s (u++v)=S.s u+S.s v:=by unfold Meas.s;rw[List.map_append,List.sum_append]
theorem Meas.good.up{S:Meas}{X Y:Nat}{u:List (List UInt8)}(h:S.good X u)(hl:X<=Y):S.good Y u:=λt ht=>⟨(h t ht).1,S.qm hl (h t ht).2⟩
theorem Meas.good.app{S:Meas}{X:Nat}{u v:List (List UInt8)}(h:S.good X u)(g:S.good X v):S.good X (u++v):=λt ht=>(List.mem_append.1 ht).elim (h t) (g t)
theorem Meas.good.txs{S:Meas}{X:Nat}{u:List (List UInt8)}(h:S.good X u):Txs u:=λt ht=>(h t ht).1
def Mv(S:Meas)(d X:Nat)(r r':Rt):Prop:= ∃(Y:Nat) (V:Nat->List (List UInt8)),X<=Y/\S.Q Y r'.co/\(∀j,S.good Y (V j))/\r'.ps.length=r.ps.length/\(∀(j:Nat) (p p':Pt),r.ps[j]? =some p->r'.ps[j]? =some p'->p'.out=p.out++(V j).flatMap frm)/\S.v V+S.W r'.co+Y<=S.W r.co+d+X
variable {S:Meas} {d e X:Nat} {r r1 r2:Rt}
theorem Mv.up(h:Mv S d X r r1)(hd:d<=e):Mv S e X r r1:=by
 obtain⟨Y,V,h1,h2,h3,h4,h5,h6⟩:=h;exact⟨Y,V,h1,h2,h3,h4,h5,by omega⟩
theorem Mv.trans(h:Mv S d X r r1)(g: ∀Y,X<=Y->S.Q Y r1.co->Mv S e Y r1 r2):Mv S (d+e) X r r2:=by
 obtain⟨Y,V,h1,h2,h3,h4,h5,h6⟩:=h;obtain⟨Z,U,k1,k2,k3,k4,k5,k6⟩:=g Y h1 h2;refine⟨Z,λj=>V j++U j,Nat.le_trans h1 k1,k2,λj=>((h3 j).up k1).app (k3 j),k4.trans h4,λj p p' hp hp'=>?_,?_⟩
 .have hj:j<r1.ps.length:=by rw[h4];exact (List.getElem?_eq_some_iff.1 hp).1
  have a1:=h5 j p _ hp (List.getElem?_eq_getElem hj);have a2:=k5 j _ p' (List.getElem?_eq_getElem hj) hp';rw[a2,a1,List.flatMap_append,List.append_assoc]
 .have e1:S.v (λj=>V j++U j)=S.v V+S.v U:=by unfold Meas.v;simp only[Meas.s_app];omega
  omega
theorem zlU(hQ:S.Q X r1.co)(hl:r1.ps.length=r.ps.length)(ho: ∀(j:Nat) (p p':Pt),r.ps[j]? =some p->r1.ps[j]? =some p'->p'.out=p.out)(hW:S.W r1.co<=S.W r.co+d):Mv S d X r r1:=
 ⟨X,λ_=>[],Nat.le_refl _,hQ,λj t ht=>(by cases ht),hl,λj p p' hp hp'=>by rw[ho j p p' hp hp'];simp,by
  show 0+0+0+_+_<=_;omega⟩
theorem zbv(hQ:S.Q X r.co):Mv S 0 X r r:=zlU hQ rfl (λj p p' hp hp'=>by rw[hp] at hp';cases hp';rfl) (Nat.le_refl _)
theorem ziT{i:Nat}{f:Pt->Pt}{j:Nat}{p:Pt}(hp:(r.onP i f).ps[j]? =some p): ∃q,r.ps[j]? =some q/\p=if i=j then f q else q:=by
 rw[zhG] at hp;cases hq:r.ps[j]? with
 |none=>rw[hq] at hp;cases hp
 |some q=>rw[hq] at hp;exact⟨q,rfl,(Option.some.inj hp).symm⟩
theorem zhM(hQ:S.Q X r.co)(i:Nat){f:Pt->Pt}{u:List (List UInt8)}(hu:S.good X u)(hc: ∀p:Pt,(f p).m=p.m/\(f p).p=p.p)(hf: ∀p:Pt,∃w,(w=u\/w=[])/\(r.ps[i]? =some p->(f p).out=p.out++w.flatMap frm)):Mv S (S.s u) X r (r.onP i f):=by
 have hco:(r.onP i f).co=r.co:=by
  unfold Rt.co;show Co.mk r.id ((r.ps.modify i f).map λp=>(p.m,p.p)) r.b r.inb=_;refine congrArg (λl=>Co.mk r.id l r.b r.inb) ?_;refine List.ext_getElem? λj=>?_;rw[List.getElem?_map,List.getElem?_map,List.getElem?_modify];cases r.ps[j]? with
  |none=>rfl
  |some p=>
   show some _=some _;split
   .show some ((f p).m,(f p).p)=some (p.m,p.p);rw[(hc p).1,(hc p).2]
   .rfl
 cases hp:r.ps[i]? with
 |none=>
  refine (zlU (d:=0) (r:=r) (r1:=r.onP i f) (by rw[hco];exact hQ) (zam r i f).2 (λj p p' hq hq'=>?_) (by rw[hco];exact Nat.le_refl _)).up (Nat.zero_le _);obtain⟨q,h1,h2⟩:=ziT hq';rw[hq] at h1;cases h1;by_cases e:i=j
  .subst e;rw[hp] at hq;cases hq
  .rw[h2,if_neg e]
 |some p=>
  obtain⟨w,hw,ho⟩:=hf p;have hg:S.good X w:=by rcases hw with rfl|rfl;exact hu;exact λt ht=>by cases ht
  refine⟨X,λj=>if j=i then w else [],Nat.le_refl _,by rw[hco];exact hQ,λj=>?_,(zam r i f).2,λj q q' hq hq'=>?_,?_⟩
  .dsimp only;split
   .exact hg
   .exact λt ht=>by cases ht
  .obtain⟨q1,h1,h2⟩:=ziT hq';rw[hq] at h1;cases h1;by_cases e:i=j
   .subst e;rw[hp] at hq;cases hq;rw[h2,if_pos rfl];dsimp only;rw[if_pos rfl];exact ho hp
   .rw[h2,if_neg e];dsimp only;rw[if_neg (λg=>e g.symm)];simp
  .rw[hco];have hv:S.v (λj=>if j=i then w else [])<=S.s w:=by
    unfold Meas.v;have h0:=S.s_nil;by_cases a:i=0
    .subst a;simp [h0]
    .by_cases b:i=1
     .subst b;simp [h0]
     .by_cases c:i=2
      .subst c;simp [h0]
      .dsimp only;rw[if_neg (by omega),if_neg (by omega),if_neg (by omega),h0];omega
   have hs:S.s w<=S.s u:=by rcases hw with rfl|rfl;exact Nat.le_refl _;rw[S.s_nil];exact Nat.zero_le _
   omega
end Go.Proofs.YtimfnpjcedjmiadGreat
