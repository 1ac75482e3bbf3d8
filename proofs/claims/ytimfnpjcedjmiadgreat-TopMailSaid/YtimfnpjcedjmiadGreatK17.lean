/- Lemmas. -/
import Derived.Test.YtimfnpjcedjmiadGreatK16
import Derived.Test.YtimfnpjcedjmiadGreatK15
set_option maxRecDepth 100000
set_option maxHeartbeats 64000000
set_option linter.all false
namespace Go.Proofs.YtimfnpjcedjmiadGreat
structure Pt where
 m:Int
 l:Lk
 rd:Rd
 rest:List UInt8
 p:Pe
 out:List UInt8
def ptD:Pt:=⟨0,newL 0 0,rd0,[],peNo,[]⟩
structure Mg where
 to:Int
 hops:Int
 text:ByteArray
structure Rt where
 id:Int
 ps:List Pt
 b:Ba
 inb:List Mg
 dr:Int
def Rt.pt(r:Rt)(i:Nat):Pt:=r.ps.getD i ptD
def Rt.onP(r:Rt)(i:Nat)(f:Pt->Pt):Rt:={ r with ps:=r.ps.modify i f }
def fr1(k:UInt8)(s:List UInt8):List UInt8:=if 60<s.length+1 then [] else frm (k::s)
def putP(k:UInt8)(s:List UInt8)(p:Pt):Pt:=if k≠76/\p.l.st≠9 then p else { p with out:=p.out++fr1 k s }
def flB(x:Pk):List UInt8:=if zbN x.c x.i x.o=0 then fr1 76 (zdz x.c x.i x.o) else []
def zbE(p:Pt):Pt:={ p with l:=outL p.l,out:=p.out++p.l.out.flatMap flB }
def zcN(ps:List Pt)(n:Int):Int:=ps.foldl (λa p=>if p.p.both=true/\p.p.who=n/\(a=0\/p.m<a) then p.m else a) 0
def edgN(ps:List Pt):Nat->List (Int×Int)
 |0=>[]
 |k+1=>edgN ps k++if 0<zcN ps ((k:Int)+1) then [((k:Int)+1,zcN ps ((k:Int)+1))] else []
def zad(ps:List Pt):List (Int×Int):=edgN ps 6
def Rt.own(r:Rt):St3:=stO (r.b.kn r.id)
def zbt(r:Rt):Rt:=if r.own.2.2≠zad r.ps/\r.own.2.1<1000000 then { r with b:=setB r.b (r.id,r.own.2.1+1,zad r.ps) } else r
def zaV(r:Rt)(i:Nat)(now:Pe):Rt:=
 if (r.pt i).p.both=now.both/\(r.pt i).p.who=now.who then r.onP i λp=>{ p with p:=now }
 else if now.both then { zbt { r.onP i λp=>{ p with p:=now } with b:=parB r.b i } with b:=metB (zbt { r.onP i λp=>{ p with p:=now } with b:=parB r.b i }).b i }
 else zbt { r.onP i λp=>{ p with p:=now } with b:=parB r.b i }
def zdD(r:Rt)(i:Nat)(up:Bool):Int:=doE (r.pt i).l (if up then 0 else 1)
def zaZ(r:Rt)(i:Nat)(up:Bool):Rt:=
 if zdD r i up≠0 then r else zaV (r.onP i λp=>zbE { p with l:=doL p.l (if up then 0 else 1),rd:=rd0,rest:=[] }) i peNo
def newerS(a b:St3):Int:=orL [cmpI a.2.1 b.2.1,cmpE a.2.2 b.2.2]
def stOf(s:List UInt8):St3:=(zak (tx s),sid (tx s),sopt (tx s))
def zbF(r:Rt)(i:Nat)(s:List UInt8):Rt:=
 if serr (tx s)≠0\/(r.pt i).p.both=false then r
 else if (stOf s).1=r.id/\0<newerS (stOf s) r.own then (if (stOf s).2.1<1000000 then { r with b:=setB r.b (r.id,(stOf s).2.1+1,zad r.ps) } else r)
 else if zay r.b i (stOf s)=0/\0<=zcv r.b i (stOf s) then { r.onP i (putP 65 s) with b:=zbd r.b i (stOf s) }
 else { r with b:=zbd r.b i (stOf s) }
def zcQ(r:Rt)(i:Nat)(s:List UInt8):Rt:=if serr (tx s)=0 then { r with b:=hrdB r.b i (stOf s) } else r
def zbf(ps:List Pt)(n:Int)(b:Int)(k:Nat):Int:=if (ps.getD k ptD).p.both=true/\(ps.getD k ptD).p.who=n/\(b<0\/(ps.getD k ptD).m<(ps.getD b.toNat ptD).m) then (k:Int) else b
def zkD(ps:List Pt)(n:Int):Int:=(List.range ps.length).foldl (zbf ps n) (-1)
noncomputable def zcg(r:Rt)(m:Mg):Rt:=
 if m.to=r.id then { r with inb:=r.inb++[m] }
 else match toH m.to (zdP (stsB r.b) r.id) with
  |none=>{ r with dr:=r.dr+1 }
  |some h=>if m.hops<1\/zkD r.ps h.2.2<0 then { r with dr:=r.dr+1 } else r.onP (zkD r.ps h.2.2).toNat (putP 77 (u8 m.to::u8 (m.hops-1)::bs m.text))
noncomputable def zba(r:Rt)(s:List UInt8):Rt:=if 2<=s.length/\s.length<=22 then zcg r ⟨(s.getD 0 0).toNat,(s.getD 1 0).toNat,tx (s.drop 2)⟩ else r
def zcS(p:Pt)(s:List UInt8):Pt:=zbE { p with l:=takL p.l ⟨zdB (tx s),pid (tx s),popt (tx s)⟩ }
def tak1(r:Rt)(i:Nat)(k:UInt8)(s:List UInt8):Rt:=if k=76/\perr (tx s)=0 then r.onP i λp=>zcS p s else r
noncomputable def takR(r:Rt)(i:Nat)(k:UInt8)(s:List UInt8):Rt:=
 if ((tak1 r i k s).pt i).l.st≠9 then zaV (tak1 r i k s) i peNo
 else if k=72 then (if hpE (tx s)=0 then zaV (tak1 r i k s) i (zdO r.id (hpA (tx s)) (hpB (tx s))) else tak1 r i k s)
 else if k=83 then zbF (tak1 r i k s) i s
 else if k=65 then zcQ (tak1 r i k s) i s
 else if k=77 then zba (tak1 r i k s) s
 else tak1 r i k s
noncomputable def takT(i:Nat)(r:Rt)(t:List UInt8):Rt:=match t with
 |[]=>r
 |k::s=>takR r i k s
noncomputable def zar(r:Rt)(i:Nat)(s:List UInt8):Rt:=
 (zaP (r.pt i).rd s).2.1.foldl (takT i) (r.onP i λp=>{ p with rd:=(zaP p.rd s).1,rest:=(zbg (p.rest++s)).2.2 })
def zaD(l:Lk):Lk:=if (zag l).st=3 then doL (doL (zag l) 1) 0 else zag l
def zaS(x:St3)(p:Pt):Pt:=if sf x=0/\p.p.both=true then putP 83 (sbyt x.1 x.2.1 x.2.2) p else p
def zaQ(id:Int)(p:Pt):Pt:=if heE id p.p.who=0 then putP 72 (heB id p.p.who) p else p
def zas(r:Rt)(i:Nat):Rt:=r.onP i λp=>zbE { p with l:=zaD p.l }
def zbX(r:Rt)(i:Nat):Rt:=
 if ((zas r i).pt i).l.st≠9 then zaV (zas r i) i peNo
 else (owdB (zaV (zas r i) i (zbD ((zas r i).pt i).p)).b i).foldl (λq x=>q.onP i (zaS x)) ((zaV (zas r i) i (zbD ((zas r i).pt i).p)).onP i (zaQ r.id))
def zch(r:Rt):Rt:=(List.range r.ps.length).foldl zbX r
def outR(r:Rt)(i:Nat):Rt:=r.onP i λp=>{ p with out:=[] }
end Go.Proofs.YtimfnpjcedjmiadGreat
namespace Go.Proofs.YtimfnpjcedjmiadGreat
open Go.RowKit
def lkR(l:Lk):Res:=.obj (zcD (lkM l 0))
theorem ren_lk{l:Lk}:[]++za2 (extG 0 (lkM l 0).length) (lkM l 0)=lkM l 0:=rfl
theorem rm_lg0{l:Lk}:RM (lkM l 0) [.gone] [0] [0] [.gone]:=by (all_goals refine gr ?_;repeat' first|exact .intro|refine Tw.mk ?_ ?_)
theorem rm_lg1{l:Lk}:RM (lkM l 1) [.gone] [0] [0] [.gone]:=by (all_goals refine gr ?_;repeat' first|exact .intro|refine Tw.mk ?_ ?_)
theorem rm_lk0{l:Lk}:RM (lkM l 0) (lkM l 0) [0,1] [0,1] (lkM l 0):=by unfold lkM lkC;(all_goals refine gr ?_;repeat' first|exact .intro|refine Tw.mk ?_ ?_);all_goals rfl
theorem rm_lk1{l:Lk}:RM (lkM l 1) (lkM l 0) [0,1] [0,1] (lkM l 0):=by unfold lkM lkC;(all_goals refine gr ?_;repeat' first|exact .intro|refine Tw.mk ?_ ?_);all_goals rfl
theorem zpb{f:FuncId}{args:List AV}{r:AV}{l q:Lk}(hF:Fn Tryz.prog f args (lkM l 0) r (lkM q 0))(hr:r.free=true):Fn Tryz.prog f args [lkR l] r [lkR q]:=
 zaO (pre:=[]) (mt:=[.gone]) (ρ:=[0]) (κ:=[0,1]) (L:=0) (by rw[ren_lk];exact hF) rfl rfl rfl rfl rm_lg0 rm_lk0 (zbH hr) rfl rfl rfl rfl rfl
theorem zeV{f:FuncId}{args:List AV}{r:AV}{l q:Lk}(hF:Fn Tryz.prog f args (lkM l 0) r (lkM q 1))(hr:r.free=true):Fn Tryz.prog f args [lkR l] r [lkR q]:=
 zaO (pre:=[]) (mt:=[.gone]) (ρ:=[0]) (κ:=[0,1]) (L:=0) (by rw[ren_lk];exact hF) rfl rfl rfl rfl rm_lg1 rm_lk1 (zbH hr) rfl rfl rfl rfl rfl
theorem zik(s m:Int)(h:zeR s m=true):Fn Tryz.prog 41 [.v (.int .i64 s),.v (.int .i64 m)] [] (.tup [.box 0 0,.err 0]) [lkR (newL s m)]:=
 zev (mt:=[.gone]) (m':=lkM (newL s m) 0) (ρ:=[0]) (κ:=[0,1]) (L:=0) (lnew_ok s m h) rfl rfl rfl rfl rm_lg0 rm_lk0 (by (all_goals refine gr ?_;repeat' first|exact .intro|refine Tw.mk ?_ ?_);all_goals rfl) rfl rfl rfl rfl rfl rfl
theorem zbC(l:Lk):Fn Tryz.prog 38 [.box 0 0] [lkR l] (.v (.int .i64 l.st)) [lkR l]:=zpb (znk l) rfl
theorem xlout_ok(l:Lk):Fn Tryz.prog 68 [.box 0 0] [lkR l] (.sl 3 (l.out.map zcc) none) [lkR (outL l)]:=zeV (lout_ok l) rfl
theorem zbx(l:Lk)(h:l.ok 900)(e:Int):Fn Tryz.prog 42 [.box 0 0,.v (.int .i64 e)] [lkR l] (.err (doE l e)) [lkR (doL l e)]:=zeV (ldo_ok l h e) rfl
theorem zgx(l:Lk)(h:l.ok 800):Fn Tryz.prog 57 [.box 0 0] [lkR l] (.tup []) [lkR (zag l)]:=zeV (ltick_ok l h) rfl
theorem zg1(l:Lk)(h:l.ok 900)(p:Pk):Fn Tryz.prog 82 [.box 0 0,pkAV p] [lkR l] (.err (takE l p)) [lkR (takL l p)]:=zeV (ltake_ok l h p) rfl
def prM(m:Int)(l:Lk)(pe:Pe)(o:List UInt8)(r:Rd)(g:Nat):List Res:=[.cells [.v (.int .i64 m),.box 1 0,.arr 2 g r.n,.v (.bool r.e),.v (.bool r.x),.v (.int .i64 pe.who),.v (.bool pe.both),.v (.int .i64 pe.left),.arr 3 g o.length],lkR l,.arr true 5 1 g (r.buf.map bRow),.arr true 5 1 g (o.map bRow)]
theorem pbody_ok(m:Int)(l:Lk)(pe:Pe)(o:List UInt8)(r:Rd)(hr:r.ok):Fn Tryz.prog 99 [.box 0 2] (prM m l pe o r 0) (.tup [.v (.string (tx (rdT r))),.err (rdE r)]) (prM m l pe o r 0):=by
 obtain⟨h1,h2,h3⟩:=hr;have hb:r.b.length=r.n:=by unfold Rd.b;rw[List.length_take];omega
 have hz:(⟨r.b.toArray⟩:ByteArray).size=r.n:=hb;have hs:=znz (tx (r.b.take (r.b.length-2))) (by rw[tx_size,List.length_take];omega);rw[bs_tx] at hs;refine foA zaA [] [] Tryz.func99 Tryz.ntmps99 Tryz.results99 ?_;unfold prM;(all_goals refine gv ?_;repeat' first|exact .intro|refine Tw.mk ?_ ?_|(intro h;first|replace h:=h.o|cases h))
 conv=>whnf
 refine⟨r.b,by unfold Rd.b;rw[List.map_take];rfl,?_⟩;(all_goals refine gv ?_;repeat' first|exact .intro|refine Tw.mk ?_ ?_|(intro h;first|replace h:=h.o|cases h))
 all_goals (try (refine Vc.mk ?_;first|(unfold In64;omega)|decide|omega))
 all_goals (try
  (have hE:rdE r=4:=by
    unfold rdE zhV;(repeat' split)<;>first|rfl|(exfalso;omega)|(exfalso;simp_all;done)
   have hT:rdT r=[]:=by unfold rdT;rw[hE,if_neg (by decide)]
   rw[hE,hT];((try (conv=>whnf));refine StopRet.by [0,1,2,3] ?_;repeat' first|exact .intro|refine Tw.mk ?_ ?_)
   done))
 (refine⟨_,_,_,_,[],hs,rfl,rfl,rfl,?_,?_,?_⟩)
 .exact Y3
 ·(all_goals refine gr ?_;repeat' first|exact .intro|refine Tw.mk ?_ ?_)
  rw[<-zhX (by omega)];congr 1
  show ((r.b.length:Int)-2).toNat=_;omega
 have b0:=UInt8.toNat_lt (r.b.getD (r.n-2) 0);have b1:=UInt8.toNat_lt (r.b.getD (r.n-1) 0);have e0:zaG (tx r.b) ((tx r.b).size-2:Int).toNat=(r.b.getD (r.n-2) 0).toNat:=by rw[zji];congr 2;show ((r.b.length:Int)-2).toNat=_;omega
 have e1:zaG (tx r.b) ((tx r.b).size-2+1:Int).toNat=(r.b.getD (r.n-1) 0).toNat:=by rw[zji];congr 2;show ((r.b.length:Int)-2+1).toNat=_;omega
 (all_goals refine gv ?_;repeat' first|exact .intro|refine Tw.mk ?_ ?_|(intro h;first|replace h:=h.o|cases h))
 all_goals (try (refine Vc.mk ?_;first|omega|(unfold In64;omega)|(simp only[wrap_byte];simp only[e0,e1];unfold In64;omega)|decide))
 .have hE:rdE r=5:=by
   simp only[e0,e1,hb] at h;unfold rdE zhV;rw[if_neg (by simp_all),if_neg (by omega),if_neg (by rw[hb];omega)]
  have hT:rdT r=[]:=by unfold rdT;rw[hE,if_neg (by decide)]
  rw[hE,hT];((try (conv=>whnf));refine StopRet.by [0,1,2,3] ?_;repeat' first|exact .intro|refine Tw.mk ?_ ?_)
 .have hE:rdE r=0:=by
   simp only[e0,e1,hb] at h;unfold rdE zhV;rw[if_neg (by simp_all),if_neg (by omega),if_pos (by rw[hb];omega)]
  have hT:rdT r=r.b.take (r.n-2):=by unfold rdT;rw[hE,if_pos rfl,hb]
  rw[hE,hT];((try (conv=>whnf));refine StopRet.by [0,1,2,3] ?_;repeat' first|exact .intro|refine Tw.mk ?_ ?_)
  rw[<-zhX (by omega)];congr 1
  show ((r.b.length:Int)-2).toNat=_;omega
theorem ptake_ok(m:Int)(l:Lk)(pe:Pe)(o:List UInt8)(r:Rd)(hr:r.ok)(c:UInt8):Fn Tryz.prog 80 [.box 0 2,.v (.int .u8 c.toNat)] (prM m l pe o r 0) (.tup [.v (.string (tx (if zax r c then rdT r else []))),.v (.bool (zax r c)),.err (if zax r c then rdE r else 0)]) (prM m l pe o (zaj r c) 1):=by
 have hbody:=pbody_ok m l pe o r hr;have hc:=UInt8.toNat_lt c;have u1:=(zkQ (c:=c)).1;have u2:=(zkQ (c:=c)).2;obtain⟨h1,h2,h3⟩:=hr;by_cases c1:c=126
 .subst c1;by_cases hd:zax r 126=true
  .have hS:zaj r 126=⟨[],0,false,false⟩:=by unfold zaj;rw[if_pos rfl,if_pos hd]
   simp only[hS,hd,if_true];have hd': ¬(r.n=0/\r.x=false/\r.e=false):=by
    rintro⟨e1,e2,e3⟩;simp [zax,e1,e2,e3] at hd
   obtain⟨buf,n,e,x⟩:=r;unfold prM at hbody ⊢;cases e<;>cases x<;>simp only[Bool.false_eq_true,and_true,and_false,not_false_eq_true] at hd'
   all_goals
    refine foA zaA [] [12] Tryz.func80 Tryz.ntmps80 Tryz.results80 ?_;(all_goals refine gv ?_;repeat' first|exact .intro|refine Tw.mk ?_ ?_|(intro h;first|replace h:=h.o|cases h))
    all_goals (try (exfalso;omega))
    all_goals (try ((refine⟨_,_,_,_,[0,1,2,3],hbody,rfl,rfl,rfl,?_,?_,?_⟩);(· (all_goals refine gr ?_;repeat' first|exact .intro|refine Tw.mk ?_ ?_));(· (all_goals refine gr ?_;repeat' first|exact .intro|refine Tw.mk ?_ ?_));(all_goals refine gv ?_;repeat' first|exact .intro|refine Tw.mk ?_ ?_|(intro h;first|replace h:=h.o|cases h))))
    all_goals
     (first|refine .mk ⟨_,AS.le_trans (zbb 2 0 2 _ rfl (by decide) rfl rfl) (AS.le_refl _ _),?_⟩|refine⟨_,AS.le_trans (zbb 2 0 2 _ rfl (by decide) rfl rfl) (AS.le_refl _ _),?_⟩)
     (all_goals refine gv ?_;repeat' first|exact .intro|refine Tw.mk ?_ ?_|(intro h;first|replace h:=h.o|cases h))
     ((try (conv=>whnf));refine StopRet.by [0,1,2,3] ?_;repeat' first|exact .intro|refine Tw.mk ?_ ?_)
  .have hS:zaj r 126=r:=by unfold zaj;rw[if_pos rfl,if_neg hd]
   have hf:zax r 126=false:=by simpa using hd
   simp only[hS,hf,Bool.false_eq_true,if_false];have hd':r.n=0/\r.x=false/\r.e=false:=by
    simpa[zax,and_assoc] using hf
   obtain⟨buf,n,e,x⟩:=r;obtain⟨e1,e2,e3⟩:=hd';simp only at e1 e2 e3;subst e1 e2 e3;unfold prM at hbody ⊢;refine foA zaA [] [] Tryz.func80 Tryz.ntmps80 Tryz.results80 ?_;(all_goals refine gv ?_;repeat' first|exact .intro|refine Tw.mk ?_ ?_|(intro h;first|replace h:=h.o|cases h))
   all_goals exact Y17
 have hf:zax r c=false:=by simp [zax,c1]
 simp only[hf,Bool.false_eq_true,if_false];have n1: ¬(c.toNat:Int)=126:=λe=>c1 (u1.1 e);by_cases c2:c=125
 .subst c2;have hS:zaj r 125=⟨r.buf,r.n,true,r.x||r.e⟩:=by unfold zaj;rw[if_neg (by decide),if_pos rfl]
  simp only[hS];obtain⟨buf,n,e,x⟩:=r;unfold prM;cases e<;>cases x
  all_goals
   refine foA zaA [] [] Tryz.func80 Tryz.ntmps80 Tryz.results80 ?_;(all_goals refine gv ?_;repeat' first|exact .intro|refine Tw.mk ?_ ?_|(intro h;first|replace h:=h.o|cases h))
   all_goals (try (exfalso;omega))
   all_goals exact Y17
 have n2: ¬(c.toNat:Int)=125:=λe=>c2 (u2.1 e);by_cases c3:c.toNat<32
 .have hS:zaj r c=⟨r.buf,r.n,r.e,true⟩:=by unfold zaj;rw[if_neg c1,if_neg c2,if_pos c3]
  simp only[hS];obtain⟨buf,n,e,x⟩:=r;unfold prM;refine foA zaA [] [] Tryz.func80 Tryz.ntmps80 Tryz.results80 ?_;(all_goals refine gv ?_;repeat' first|exact .intro|refine Tw.mk ?_ ?_|(intro h;first|replace h:=h.o|cases h))
  all_goals (try (exfalso;omega))
  all_goals exact Y17
 by_cases c4:62<r.n+1
 .have hS:zaj r c=⟨r.b++[if r.e then c^^^32 else c],1,false,true⟩:=by unfold zaj;rw[if_neg c1,if_neg c2,if_neg c3,if_pos c4]
  exact Y34
 .have hS:zaj r c=⟨r.b++[if r.e then c^^^32 else c],r.n+1,false,r.x⟩:=by unfold zaj;rw[if_neg c1,if_neg c2,if_neg c3,if_neg c4]
  exact Y34
theorem zki(m:Int)(l:Lk)(pe:Pe)(o:List UInt8)(r:Rd)(hr:r.ok)(s:ByteArray)(hs:s.size<=1000000):Fn Tryz.prog 64 [.box 0 2,.v (.string s)] (prM m l pe o r 0) (.tup [.sl 1 ((zaP r (bs s)).2.1.map λt=>sRow (tx t)) none,.v (.int .i64 (zaP r (bs s)).2.2)]) (prM m l pe o (zaP r (bs s)).1 1):=by
 have hl:=zcz s;refine foA zaA [] [] Tryz.func64 Tryz.ntmps64 Tryz.results64 ?_;unfold prM;(all_goals refine gv ?_;repeat' first|exact .intro|refine Tw.mk ?_ ?_|(intro h;first|replace h:=h.o|cases h))
 refine lpG (λk:Nat=>⟨[(0,.box 0 2),(1,.v (.string s)),(4,.sl 1 ((zaP r ((bs s).take k)).2.1.map λt=>sRow (tx t)) (some (4,1))),(5,.v (.int .i64 (zaP r ((bs s).take k)).2.2)),(11,.v (.int .i64 s.size)),(12,.v (.int .i64 k))],prM m l pe o (zaP r ((bs s).take k)).1 1++[.grow 9 1 1]⟩) (λk=>k<=s.size) (λk=>s.size-k) 0 (by omega) (by
  refine AS.le_trans (zeb 4 9 1 rfl) ?_;(refine zaC [0,1,2,3,4] ?_;repeat' first|exact .intro|refine Tw.mk ?_ ?_);all_goals (all_goals (try first|rfl|(simp [zaP];done)))) ?_
 rintro k hk;have hR:=zei hr ((bs s).take k);have hN:=zdG r ((bs s).take k);rw[List.length_take] at hN;obtain⟨hN1,hN2⟩:=hN;by_cases hk':k<(bs s).length
 .have hS:=znL (r:=r) hk';generalize hq:zaP r ((bs s).take k)=q at *
  obtain⟨R,out,bad⟩:=q;dsimp only at hR hN1 hN2 ⊢;have ht:=ptake_ok m l pe o R hR (bs s)[k];have hbt:=zio hk';unfold prM at ht;unfold rdS at hS;dsimp only at hS;(all_goals refine gv ?_;repeat' first|exact .intro|refine Tw.mk ?_ ?_|(intro h;first|replace h:=h.o|cases h))
  all_goals (try (exfalso;omega))
  all_goals (try ((with_reducible refine Vc.mk ?_);(try exact GLt)))
  by_cases hd:zax R (bs s)[k]=true
  .by_cases he:rdE R=0
   .simp only[hd,he,if_true] at ht;simp only[hd,he,decide_true,Bool.and_self,if_true,Bool.not_true,Bool.and_false,Bool.false_eq_true,if_false] at hS;(refine⟨_,_,_,_,[0,1,2,3],ht,rfl,rfl,rfl,?_,?_,?_⟩)
    .exact Y3
    .exact Y81
    (all_goals refine gv ?_;repeat' first|exact .intro|refine Tw.mk ?_ ?_|(intro h;first|replace h:=h.o|cases h))
    all_goals (try ((with_reducible refine Vc.mk ?_);(try exact GLt)))
    all_goals (try (exact absurd rfl h))
    refine zaU (k+1) (by omega) (by omega) (by rw[hS];(refine zaC [0,1,2,3,4] ?_;repeat' first|exact .intro|refine Tw.mk ?_ ?_);all_goals (all_goals (try (simp [sRow,viewR,viewL,AV.view];done))))
   .simp only[hd,if_true] at ht;simp only[hd,he,decide_false,Bool.and_false,Bool.not_false,Bool.and_self,if_true,Bool.false_eq_true,if_false] at hS;(refine⟨_,_,_,_,[0,1,2,3],ht,rfl,rfl,rfl,?_,?_,?_⟩)
    .exact Y3
    .exact Y81
    (all_goals refine gv ?_;repeat' first|exact .intro|refine Tw.mk ?_ ?_|(intro h;first|replace h:=h.o|cases h))
    all_goals (try ((with_reducible refine Vc.mk ?_);(try exact GLt)))
    all_goals (try (exact absurd h he))
    refine zaU (k+1) (by omega) (by omega) (by rw[hS];(refine zaC [0,1,2,3,4] ?_;repeat' first|exact .intro|refine Tw.mk ?_ ?_);all_goals (all_goals (try (simp [sRow,viewR,viewL,AV.view];done))))
  .have hf:zax R (bs s)[k]=false:=by simpa using hd
   simp only[hf,Bool.false_eq_true,if_false] at ht;simp only[hf,Bool.false_and,Bool.false_eq_true,if_false] at hS;(refine⟨_,_,_,_,[0,1,2,3],ht,rfl,rfl,rfl,?_,?_,?_⟩)
   .exact Y3
   .exact Y81
   (all_goals refine gv ?_;repeat' first|exact .intro|refine Tw.mk ?_ ?_|(intro h;first|replace h:=h.o|cases h))
   all_goals (try ((with_reducible refine Vc.mk ?_);(try exact GLt)))
   refine zaU (k+1) (by omega) (by omega) (by rw[hS];(refine zaC [0,1,2,3,4] ?_;repeat' first|exact .intro|refine Tw.mk ?_ ?_);all_goals (all_goals (try (simp [sRow,viewR,viewL,AV.view];done))))
 .have e:k=(bs s).length:=by omega
  subst e;rw[List.take_length];(all_goals refine gv ?_;repeat' first|exact .intro|refine Tw.mk ?_ ?_|(intro h;first|replace h:=h.o|cases h))
  all_goals (try (exfalso;omega))
  ((try (conv=>whnf));refine StopRet.by [0,1,2,3] ?_;repeat' first|exact .intro|refine Tw.mk ?_ ?_)
end Go.Proofs.YtimfnpjcedjmiadGreat
namespace Go.Proofs.YtimfnpjcedjmiadGreat
def Like(r q:Rt):Prop:=q.id=r.id/\q.ps.length=r.ps.length
theorem Like.refl(r:Rt):Like r r:=⟨rfl,rfl⟩
theorem Like.trans{a b c:Rt}(h:Like a b)(g:Like b c):Like a c:=⟨g.1.trans h.1,g.2.trans h.2⟩
theorem zam(r:Rt)(i:Nat)(f:Pt->Pt):Like r (r.onP i f):=⟨rfl,by simp [Rt.onP]⟩
theorem zgy(r:Rt)(b:Ba):Like r { r with b:=b }:=⟨rfl,rfl⟩
theorem zjA(r:Rt):Like r (zbt r):=by unfold zbt;split<;>exact⟨rfl,rfl⟩
theorem zaW(r:Rt)(i:Nat)(now:Pe):Like r (zaV r i now):=by
 unfold zaV;split
 .exact zam ..
 .split
  .exact ((zam r i _).trans (zgy _ _)).trans ((zjA _).trans (zgy _ _))
  .exact ((zam r i _).trans (zgy _ _)).trans (zjA _)
theorem zcM(r:Rt)(i:Nat)(up:Bool):Like r (zaZ r i up):=by
 unfold zaZ;split
 .exact Like.refl r
 .exact (zam ..).trans (zaW ..)
theorem zdl(r:Rt)(i:Nat)(s:List UInt8):Like r (zbF r i s):=by
 unfold zbF;split
 .exact Like.refl r
 .split
  .split
   .exact zgy ..
   .exact Like.refl r
  .split
   .exact (zam r i _).trans (zgy _ _)
   .exact zgy ..
theorem zd9(r:Rt)(i:Nat)(s:List UInt8):Like r (zcQ r i s):=by
 unfold zcQ;split
 .exact zgy ..
 .exact Like.refl r
theorem zeu(r:Rt)(m:Mg):Like r (zcg r m):=by
 unfold zcg;split
 .exact⟨rfl,rfl⟩
 .split
  .exact⟨rfl,rfl⟩
  .split
   .exact⟨rfl,rfl⟩
   .exact zam ..
theorem zdb(r:Rt)(s:List UInt8):Like r (zba r s):=by
 unfold zba;split
 .exact zeu ..
 .exact Like.refl r
theorem zpY(r:Rt)(i:Nat)(k:UInt8)(s:List UInt8):Like r (tak1 r i k s):=by
 unfold tak1;split
 .exact zam ..
 .exact Like.refl r
theorem zgE(r:Rt)(i:Nat)(k:UInt8)(s:List UInt8):Like r (takR r i k s):=by
 have h:=zpY r i k s;unfold takR;split
 .exact h.trans (zaW ..)
 .split
  .split
   .exact h.trans (zaW ..)
   .exact h
  .split
   .exact h.trans (zdl ..)
   .split
    .exact h.trans (zd9 ..)
    .split
     .exact h.trans (zdb ..)
     .exact h
theorem len1{α:Type}{l:List α}(h:l.length=1): ∃a,l=[a]:=List.length_eq_one_iff.1 h
theorem len2{α:Type}{l:List α}(h:l.length=2): ∃a b,l=[a,b]:=by
 match l,h with
 |[a,b],_=>exact⟨a,b,rfl⟩
theorem len3{α:Type}{l:List α}(h:l.length=3): ∃a b c,l=[a,b,c]:=by
 match l,h with
 |[a,b,c],_=>exact⟨a,b,c,rfl⟩
theorem lit3{r q:Rt}(h:Like r q)(hr:r.ps.length=3): ∃p0 p1 p2,q=⟨r.id,[p0,p1,p2],q.b,q.inb,q.dr⟩:=by
 obtain⟨id,ps,b,inb,dr⟩:=q;obtain⟨p0,p1,p2,e⟩:=len3 (h.2.trans hr);refine⟨p0,p1,p2,?_⟩;have h1:=h.1;simp only at e h1;rw[e,h1]
end Go.Proofs.YtimfnpjcedjmiadGreat
namespace Go.Proofs.YtimfnpjcedjmiadGreat
open Go.RowKit
theorem fpart_ok(kn:Int->Option St3)(ow:List (Int->Bool))(h1:1<=ow.length)(h3:ow.length<=3)(p:Int):Fn Tryz.prog 70 [.box 0 0,.v (.int .i64 p)] (baL kn ow) (.tup []) (baM (parB ⟨kn,ow⟩ p)):=by
 refine np3 (p:=λow=>Fn Tryz.prog 70 [.box 0 0,.v (.int .i64 p)] (baL kn ow) (.tup []) (baM (parB ⟨kn,ow⟩ p))) h1 h3 (λa=>?_) (λa b=>?_) (λa b c=>?_)
 .by_cases hp:0<=p/\p<1
  .refine or3 (by omega:p=0\/p=1\/p=2) (λe=>?_) (λe=>?_) (λe=>?_);all_goals (subst e)
   all_goals (try (exfalso;omega))
   .refine foA zaA [] [] Tryz.func70 Tryz.ntmps70 Tryz.results70 ?_;(all_goals refine fv ?_;repeat' first|exact .intro|refine Tw.mk ?_ ?_|(intro h;first|replace h:=h.o|cases h))
    all_goals (((try (conv=>whnf));refine StopRet.by [0,1,2,3] ?_;repeat' first|exact .intro|refine Tw.mk ?_ ?_);all_goals (first|rfl|(exact owM_none)))
  .have hV:parB ⟨kn,[a]⟩ p=⟨kn,[a]⟩:=if_neg (by simp [inP];omega);rw[hV];refine foA zaA [] [] Tryz.func70 Tryz.ntmps70 Tryz.results70 ?_;(all_goals refine fv ?_;repeat' first|exact .intro|refine Tw.mk ?_ ?_|(intro h;first|replace h:=h.o|cases h))
   all_goals exact Y17
 .by_cases hp:0<=p/\p<2
  .refine or3 (by omega:p=0\/p=1\/p=2) (λe=>?_) (λe=>?_) (λe=>?_);all_goals (subst e)
   all_goals (try (exfalso;omega))
   .exact Y55
   .exact Y55
  .have hV:parB ⟨kn,[a,b]⟩ p=⟨kn,[a,b]⟩:=if_neg (by simp [inP];omega);rw[hV];refine foA zaA [] [] Tryz.func70 Tryz.ntmps70 Tryz.results70 ?_;(all_goals refine fv ?_;repeat' first|exact .intro|refine Tw.mk ?_ ?_|(intro h;first|replace h:=h.o|cases h))
   all_goals exact Y32
 .by_cases hp:0<=p/\p<3
  .refine or3 (by omega:p=0\/p=1\/p=2) (λe=>?_) (λe=>?_) (λe=>?_);all_goals (subst e)
   all_goals (try (exfalso;omega))
   .exact Y35
   .exact Y35
   .exact Y35
  .have hV:parB ⟨kn,[a,b,c]⟩ p=⟨kn,[a,b,c]⟩:=if_neg (by simp [inP];omega);rw[hV];refine foA zaA [] [] Tryz.func70 Tryz.ntmps70 Tryz.results70 ?_;(all_goals refine fv ?_;repeat' first|exact .intro|refine Tw.mk ?_ ?_|(intro h;first|replace h:=h.o|cases h))
   all_goals exact Y27
end Go.Proofs.YtimfnpjcedjmiadGreat
