/- Lemmas. -/
import Derived.Test.YtimfnpjcedjmiadGreatK16
import Derived.Test.YtimfnpjcedjmiadGreatK15
set_option maxRecDepth 100000
set_option maxHeartbeats 64000000
set_option linter.all false
namespace Go.Proofs.YtimfnpjcedjmiadGreat
structure Pt where
 m:Int
 l:Lk
 rd:Rd
 rest:List UInt8
 p:Pe
 out:List UInt8
def ptD:Pt:=⟨0,newL 0 0,rd0,[],peNo,[]⟩
structure Mg where
 to:Int
 hops:Int
 text:ByteArray
structure Rt where
 id:Int
 ps:List Pt
 b:Ba
 inb:List Mg
 dr:Int
def Rt.pt(r:Rt)(i:Nat):Pt:=r.ps.getD i ptD
def Rt.onP(r:Rt)(i:Nat)(f:Pt->Pt):Rt:={ r with ps:=r.ps.modify i f }
def fr1(k:UInt8)(s:List UInt8):List UInt8:=if 60<s.length+1 then [] else frm (k::s)
def putP(k:UInt8)(s:List UInt8)(p:Pt):Pt:=if k≠76/\p.l.st≠9 then p else { p with out:=p.out++fr1 k s }
def flB(x:Pk):List UInt8:=if zbK x.c x.i x.o=0 then fr1 76 (zdt x.c x.i x.o) else []
def zbB(p:Pt):Pt:={ p with l:=outL p.l,out:=p.out++p.l.out.flatMap flB }
def zb0(ps:List Pt)(n:Int):Int:=ps.foldl (λa p=>if p.p.both=true/\p.p.who=n/\(a=0\/p.m<a) then p.m else a) 0
def edgN(ps:List Pt):Nat->List (Int×Int)
 |0=>[]
 |k+1=>edgN ps k++if 0<zb0 ps ((k:Int)+1) then [((k:Int)+1,zb0 ps ((k:Int)+1))] else []
def za0(ps:List Pt):List (Int×Int):=edgN ps 6
def Rt.own(r:Rt):St3:=stO (r.b.kn r.id)
def zbL(r:Rt):Rt:=if r.own.2.2≠za0 r.ps/\r.own.2.1<1000000 then { r with b:=setB r.b (r.id,r.own.2.1+1,za0 r.ps) } else r
def zaU(r:Rt)(i:Nat)(now:Pe):Rt:=
 if (r.pt i).p.both=now.both/\(r.pt i).p.who=now.who then r.onP i λp=>{ p with p:=now }
 else if now.both then { zbL { r.onP i λp=>{ p with p:=now } with b:=parB r.b i } with b:=metB (zbL { r.onP i λp=>{ p with p:=now } with b:=parB r.b i }).b i }
 else zbL { r.onP i λp=>{ p with p:=now } with b:=parB r.b i }
def zdA(r:Rt)(i:Nat)(up:Bool):Int:=doE (r.pt i).l (if up then 0 else 1)
def zaV(r:Rt)(i:Nat)(up:Bool):Rt:=
 if zdA r i up≠0 then r else zaU (r.onP i λp=>zbB { p with l:=doL p.l (if up then 0 else 1),rd:=rd0,rest:=[] }) i peNo
def newerS(a b:St3):Int:=orL [cmpI a.2.1 b.2.1,cmpE a.2.2 b.2.2]
def stOf(s:List UInt8):St3:=(zaf (tx s),sid (tx s),sopt (tx s))
def zbD(r:Rt)(i:Nat)(s:List UInt8):Rt:=
 if serr (tx s)≠0\/(r.pt i).p.both=false then r
 else if (stOf s).1=r.id/\0<newerS (stOf s) r.own then (if (stOf s).2.1<1000000 then { r with b:=setB r.b (r.id,(stOf s).2.1+1,za0 r.ps) } else r)
 else if zaw r.b i (stOf s)=0/\0<=zcu r.b i (stOf s) then { r.onP i (putP 65 s) with b:=zba r.b i (stOf s) }
 else { r with b:=zba r.b i (stOf s) }
def zcT(r:Rt)(i:Nat)(s:List UInt8):Rt:=if serr (tx s)=0 then { r with b:=hrdB r.b i (stOf s) } else r
def zbj(ps:List Pt)(n:Int)(b:Int)(k:Nat):Int:=if (ps.getD k ptD).p.both=true/\(ps.getD k ptD).p.who=n/\(b<0\/(ps.getD k ptD).m<(ps.getD b.toNat ptD).m) then (k:Int) else b
def zjZ(ps:List Pt)(n:Int):Int:=(List.range ps.length).foldl (zbj ps n) (-1)
noncomputable def zdB(r:Rt)(m:Mg):Rt:=
 if m.to=r.id then { r with inb:=r.inb++[m] }
 else match toH m.to (zdQ (stsB r.b) r.id) with
  |none=>{ r with dr:=r.dr+1 }
  |some h=>if m.hops<1\/zjZ r.ps h.2.2<0 then { r with dr:=r.dr+1 } else r.onP (zjZ r.ps h.2.2).toNat (putP 77 (u8 m.to::u8 (m.hops-1)::bs m.text))
noncomputable def zbc(r:Rt)(s:List UInt8):Rt:=if 2<=s.length/\s.length<=22 then zdB r ⟨(s.getD 0 0).toNat,(s.getD 1 0).toNat,tx (s.drop 2)⟩ else r
def zcS(p:Pt)(s:List UInt8):Pt:=zbB { p with l:=takL p.l ⟨zdE (tx s),pid (tx s),popt (tx s)⟩ }
def tak1(r:Rt)(i:Nat)(k:UInt8)(s:List UInt8):Rt:=if k=76/\perr (tx s)=0 then r.onP i λp=>zcS p s else r
noncomputable def takR(r:Rt)(i:Nat)(k:UInt8)(s:List UInt8):Rt:=
 if ((tak1 r i k s).pt i).l.st≠9 then zaU (tak1 r i k s) i peNo
 else if k=72 then (if hpE (tx s)=0 then zaU (tak1 r i k s) i (zct r.id (hpA (tx s)) (hpB (tx s))) else tak1 r i k s)
 else if k=83 then zbD (tak1 r i k s) i s
 else if k=65 then zcT (tak1 r i k s) i s
 else if k=77 then zbc (tak1 r i k s) s
 else tak1 r i k s
noncomputable def takT(i:Nat)(r:Rt)(t:List UInt8):Rt:=match t with
 |[]=>r
 |k::s=>takR r i k s
noncomputable def zap(r:Rt)(i:Nat)(s:List UInt8):Rt:=
 (zaN (r.pt i).rd s).2.1.foldl (takT i) (r.onP i λp=>{ p with rd:=(zaN p.rd s).1,rest:=(zbg (p.rest++s)).2.2 })
def zaD(l:Lk):Lk:=if (zae l).st=3 then doL (doL (zae l) 1) 0 else zae l
def zaS(x:St3)(p:Pt):Pt:=if sf x=0/\p.p.both=true then putP 83 (sbyt x.1 x.2.1 x.2.2) p else p
def zaP(id:Int)(p:Pt):Pt:=if heE id p.p.who=0 then putP 72 (heB id p.p.who) p else p
def zak(r:Rt)(i:Nat):Rt:=r.onP i λp=>zbB { p with l:=zaD p.l }
def zb3(r:Rt)(i:Nat):Rt:=
 if ((zak r i).pt i).l.st≠9 then zaU (zak r i) i peNo
 else (owdB (zaU (zak r i) i (zay ((zak r i).pt i).p)).b i).foldl (λq x=>q.onP i (zaS x)) ((zaU (zak r i) i (zay ((zak r i).pt i).p)).onP i (zaP r.id))
def zcf(r:Rt):Rt:=(List.range r.ps.length).foldl zb3 r
def outR(r:Rt)(i:Nat):Rt:=r.onP i λp=>{ p with out:=[] }
end Go.Proofs.YtimfnpjcedjmiadGreat
namespace Go.Proofs.YtimfnpjcedjmiadGreat
open Go.RowKit
def lkR(l:Lk):Res:=.obj (zcB (lkM l 0))
theorem ren_lk{l:Lk}:[]++zbO (extG 0 (lkM l 0).length) (lkM l 0)=lkM l 0:=rfl
theorem rm_lg0{l:Lk}:RM (lkM l 0) [.gone] [0] [0] [.gone]:=by (all_goals refine gr ?_;repeat' first|exact .intro|refine Tw.mk ?_ ?_)
theorem rm_lg1{l:Lk}:RM (lkM l 1) [.gone] [0] [0] [.gone]:=by (all_goals refine gr ?_;repeat' first|exact .intro|refine Tw.mk ?_ ?_)
theorem rm_lk0{l:Lk}:RM (lkM l 0) (lkM l 0) [0,1] [0,1] (lkM l 0):=by unfold lkM lkC;(all_goals refine gr ?_;repeat' first|exact .intro|refine Tw.mk ?_ ?_);all_goals rfl
theorem rm_lk1{l:Lk}:RM (lkM l 1) (lkM l 0) [0,1] [0,1] (lkM l 0):=by unfold lkM lkC;(all_goals refine gr ?_;repeat' first|exact .intro|refine Tw.mk ?_ ?_);all_goals rfl
theorem zoj{f:FuncId}{args:List AV}{r:AV}{l q:Lk}(hF:Fn Tryz.prog f args (lkM l 0) r (lkM q 0))(hr:r.free=true):Fn Tryz.prog f args [lkR l] r [lkR q]:=
 zab (pre:=[]) (mt:=[.gone]) (ρ:=[0]) (κ:=[0,1]) (L:=0) (by rw[ren_lk];exact hF) rfl rfl rfl rfl rm_lg0 rm_lk0 (zbF hr) rfl rfl rfl rfl rfl
theorem zeh{f:FuncId}{args:List AV}{r:AV}{l q:Lk}(hF:Fn Tryz.prog f args (lkM l 0) r (lkM q 1))(hr:r.free=true):Fn Tryz.prog f args [lkR l] r [lkR q]:=
 zab (pre:=[]) (mt:=[.gone]) (ρ:=[0]) (κ:=[0,1]) (L:=0) (by rw[ren_lk];exact hF) rfl rfl rfl rfl rm_lg1 rm_lk1 (zbF hr) rfl rfl rfl rfl rfl
theorem zhw(s m:Int)(h:ze1 s m=true):Fn Tryz.prog 41 [.v (.int .i64 s),.v (.int .i64 m)] [] (.tup [.box 0 0,.err 0]) [lkR (newL s m)]:=
 zek (mt:=[.gone]) (m':=lkM (newL s m) 0) (ρ:=[0]) (κ:=[0,1]) (L:=0) (lnew_ok s m h) rfl rfl rfl rfl rm_lg0 rm_lk0 (by (all_goals refine gr ?_;repeat' first|exact .intro|refine Tw.mk ?_ ?_);all_goals rfl) rfl rfl rfl rfl rfl rfl
theorem zbA(l:Lk):Fn Tryz.prog 38 [.box 0 0] [lkR l] (.v (.int .i64 l.st)) [lkR l]:=zoj (zpg l) rfl
theorem xlout_ok(l:Lk):Fn Tryz.prog 68 [.box 0 0] [lkR l] (.sl 3 (l.out.map zc7) none) [lkR (outL l)]:=zeh (lout_ok l) rfl
theorem zbt(l:Lk)(h:l.ok 900)(e:Int):Fn Tryz.prog 42 [.box 0 0,.v (.int .i64 e)] [lkR l] (.err (doE l e)) [lkR (doL l e)]:=zeh (ldo_ok l h e) rfl
theorem zg9(l:Lk)(h:l.ok 800):Fn Tryz.prog 57 [.box 0 0] [lkR l] (.tup []) [lkR (zae l)]:=zeh (ltick_ok l h) rfl
theorem zgq(l:Lk)(h:l.ok 900)(p:Pk):Fn Tryz.prog 82 [.box 0 0,pkAV p] [lkR l] (.err (takE l p)) [lkR (takL l p)]:=zeh (ltake_ok l h p) rfl
def prM(m:Int)(l:Lk)(pe:Pe)(o:List UInt8)(r:Rd)(g:Nat):List Res:=[.cells [.v (.int .i64 m),.box 1 0,.arr 2 g r.n,.v (.bool r.e),.v (.bool r.x),.v (.int .i64 pe.who),.v (.bool pe.both),.v (.int .i64 pe.left),.arr 3 g o.length],lkR l,.arr true 5 1 g (r.buf.map bRow),.arr true 5 1 g (o.map bRow)]
theorem pbody_ok(m:Int)(l:Lk)(pe:Pe)(o:List UInt8)(r:Rd)(hr:r.ok):Fn Tryz.prog 99 [.box 0 2] (prM m l pe o r 0) (.tup [.v (.string (tx (rdT r))),.err (rdE r)]) (prM m l pe o r 0):=by
 obtain⟨h1,h2,h3⟩:=hr;have hb:r.b.length=r.n:=by unfold Rd.b;rw[List.length_take];omega
 have hz:(⟨r.b.toArray⟩:ByteArray).size=r.n:=hb;have hs:=zpd (tx (r.b.take (r.b.length-2))) (by rw[tx_size,List.length_take];omega);rw[bs_tx] at hs;refine foA zaA [] [] Tryz.func99 Tryz.ntmps99 Tryz.results99 ?_;unfold prM;(all_goals refine gv ?_;repeat' first|exact .intro|refine Tw.mk ?_ ?_|(intro h;first|replace h:=h.o|cases h))
 conv=>whnf
 refine⟨r.b,by unfold Rd.b;rw[List.map_take];rfl,?_⟩;(all_goals refine gv ?_;repeat' first|exact .intro|refine Tw.mk ?_ ?_|(intro h;first|replace h:=h.o|cases h))
 all_goals (try (refine Vc.mk ?_;first|(unfold In64;omega)|decide|omega))
 all_goals (try
  (have hE:rdE r=4:=by
    unfold rdE zhS;(repeat' split)<;>first|rfl|(exfalso;omega)|(exfalso;simp_all;done)
   have hT:rdT r=[]:=by unfold rdT;rw[hE,if_neg (by decide)]
   rw[hE,hT];((try (conv=>whnf));refine StopRet.by [0,1,2,3] ?_;repeat' first|exact .intro|refine Tw.mk ?_ ?_)
   done))
 (refine⟨_,_,_,_,[],hs,rfl,rfl,rfl,?_,?_,?_⟩)
 .exact Y3
 ·(all_goals refine gr ?_;repeat' first|exact .intro|refine Tw.mk ?_ ?_)
  rw[<-zhX (by omega)];congr 1
  show ((r.b.length:Int)-2).toNat=_;omega
 have b0:=UInt8.toNat_lt (r.b.getD (r.n-2) 0);have b1:=UInt8.toNat_lt (r.b.getD (r.n-1) 0);have e0:zaG (tx r.b) ((tx r.b).size-2:Int).toNat=(r.b.getD (r.n-2) 0).toNat:=by rw[zjV];congr 2;show ((r.b.length:Int)-2).toNat=_;omega
 have e1:zaG (tx r.b) ((tx r.b).size-2+1:Int).toNat=(r.b.getD (r.n-1) 0).toNat:=by rw[zjV];congr 2;show ((r.b.length:Int)-2+1).toNat=_;omega
 (all_goals refine gv ?_;repeat' first|exact .intro|refine Tw.mk ?_ ?_|(intro h;first|replace h:=h.o|cases h))
 all_goals (try (refine Vc.mk ?_;first|omega|(unfold In64;omega)|(simp only[wrap_byte];simp only[e0,e1];unfold In64;omega)|decide))
 .have hE:rdE r=5:=by
   simp only[e0,e1,hb] at h;unfold rdE zhS;rw[if_neg (by simp_all),if_neg (by omega),if_neg (by rw[hb];omega)]
  have hT:rdT r=[]:=by unfold rdT;rw[hE,if_neg (by decide)]
  rw[hE,hT];((try (conv=>whnf));refine StopRet.by [0,1,2,3] ?_;repeat' first|exact .intro|refine Tw.mk ?_ ?_)
 .have hE:rdE r=0:=by
   simp only[e0,e1,hb] at h;unfold rdE zhS;rw[if_neg (by simp_all),if_neg (by omega),if_pos (by rw[hb];omega)]
  have hT:rdT r=r.b.take (r.n-2):=by unfold rdT;rw[hE,if_pos rfl,hb]
  rw[hE,hT];((try (conv=>whnf));refine StopRet.by [0,1,2,3] ?_;repeat' first|exact .intro|refine Tw.mk ?_ ?_)
  rw[<-zhX (by omega)];congr 1
  show ((r.b.length:Int)-2).toNat=_;omega
theorem ptake_ok(m:Int)(l:Lk)(pe:Pe)(o:List UInt8)(r:Rd)(hr:r.ok)(c:UInt8):Fn Tryz.prog 80 [.box 0 2,.v (.int .u8 c.toNat)] (prM m l pe o r 0) (.tup [.v (.string (tx (if zav r c then rdT r else []))),.v (.bool (zav r c)),.err (if zav r c then rdE r else 0)]) (prM m l pe o (zai r c) 1):=by
 have hbody:=pbody_ok m l pe o r hr;have hc:=UInt8.toNat_lt c;have u1:=(zlD (c:=c)).1;have u2:=(zlD (c:=c)).2;obtain⟨h1,h2,h3⟩:=hr;by_cases c1:c=126
 .subst c1;by_cases hd:zav r 126=true
  .have hS:zai r 126=⟨[],0,false,false⟩:=by unfold zai;rw[if_pos rfl,if_pos hd]
   simp only[hS,hd,if_true];have hd': ¬(r.n=0/\r.x=false/\r.e=false):=by
    rintro⟨e1,e2,e3⟩;simp [zav,e1,e2,e3] at hd
   obtain⟨buf,n,e,x⟩:=r;unfold prM at hbody ⊢;cases e<;>cases x<;>simp only[Bool.false_eq_true,and_true,and_false,not_false_eq_true] at hd'
   all_goals
    refine foA zaA [] [12] Tryz.func80 Tryz.ntmps80 Tryz.results80 ?_;(all_goals refine gv ?_;repeat' first|exact .intro|refine Tw.mk ?_ ?_|(intro h;first|replace h:=h.o|cases h))
    all_goals (try (exfalso;omega))
    all_goals (try ((refine⟨_,_,_,_,[0,1,2,3],hbody,rfl,rfl,rfl,?_,?_,?_⟩);(· (all_goals refine gr ?_;repeat' first|exact .intro|refine Tw.mk ?_ ?_));(· (all_goals refine gr ?_;repeat' first|exact .intro|refine Tw.mk ?_ ?_));(all_goals refine gv ?_;repeat' first|exact .intro|refine Tw.mk ?_ ?_|(intro h;first|replace h:=h.o|cases h))))
    all_goals
     (first|refine .mk ⟨_,AS.le_trans (zb9 2 0 2 _ rfl (by decide) rfl rfl) (AS.le_refl _ _),?_⟩|refine⟨_,AS.le_trans (zb9 2 0 2 _ rfl (by decide) rfl rfl) (AS.le_refl _ _),?_⟩)
     (all_goals refine gv ?_;repeat' first|exact .intro|refine Tw.mk ?_ ?_|(intro h;first|replace h:=h.o|cases h))
     ((try (conv=>whnf));refine StopRet.by [0,1,2,3] ?_;repeat' first|exact .intro|refine Tw.mk ?_ ?_)
  .have hS:zai r 126=r:=by unfold zai;rw[if_pos rfl,if_neg hd]
   have hf:zav r 126=false:=by simpa using hd
   simp only[hS,hf,Bool.false_eq_true,if_false];have hd':r.n=0/\r.x=false/\r.e=false:=by
    simpa[zav,and_assoc] using hf
   obtain⟨buf,n,e,x⟩:=r;obtain⟨e1,e2,e3⟩:=hd';simp only at e1 e2 e3;subst e1 e2 e3;unfold prM at hbody ⊢;refine foA zaA [] [] Tryz.func80 Tryz.ntmps80 Tryz.results80 ?_;(all_goals refine gv ?_;repeat' first|exact .intro|refine Tw.mk ?_ ?_|(intro h;first|replace h:=h.o|cases h))
   all_goals exact Y18
 have hf:zav r c=false:=by simp [zav,c1]
 simp only[hf,Bool.false_eq_true,if_false];have n1: ¬(c.toNat:Int)=126:=λe=>c1 (u1.1 e);by_cases c2:c=125
 .subst c2;have hS:zai r 125=⟨r.buf,r.n,true,r.x||r.e⟩:=by unfold zai;rw[if_neg (by decide),if_pos rfl]
  simp only[hS];obtain⟨buf,n,e,x⟩:=r;unfold prM;cases e<;>cases x
  all_goals
   refine foA zaA [] [] Tryz.func80 Tryz.ntmps80 Tryz.results80 ?_;(all_goals refine gv ?_;repeat' first|exact .intro|refine Tw.mk ?_ ?_|(intro h;first|replace h:=h.o|cases h))
   all_goals (try (exfalso;omega))
   all_goals exact Y18
 have n2: ¬(c.toNat:Int)=125:=λe=>c2 (u2.1 e);by_cases c3:c.toNat<32
 .have hS:zai r c=⟨r.buf,r.n,r.e,true⟩:=by unfold zai;rw[if_neg c1,if_neg c2,if_pos c3]
  simp only[hS];obtain⟨buf,n,e,x⟩:=r;unfold prM;refine foA zaA [] [] Tryz.func80 Tryz.ntmps80 Tryz.results80 ?_;(all_goals refine gv ?_;repeat' first|exact .intro|refine Tw.mk ?_ ?_|(intro h;first|replace h:=h.o|cases h))
  all_goals (try (exfalso;omega))
  all_goals exact Y18
 by_cases c4:62<r.n+1
 .have hS:zai r c=⟨r.b++[if r.e then c^^^32 else c],1,false,true⟩:=by unfold zai;rw[if_neg c1,if_neg c2,if_neg c3,if_pos c4]
  exact Y35
 .have hS:zai r c=⟨r.b++[if r.e then c^^^32 else c],r.n+1,false,r.x⟩:=by unfold zai;rw[if_neg c1,if_neg c2,if_neg c3,if_neg c4]
  exact Y35
theorem zkm(m:Int)(l:Lk)(pe:Pe)(o:List UInt8)(r:Rd)(hr:r.ok)(s:ByteArray)(hs:s.size<=1000000):Fn Tryz.prog 64 [.box 0 2,.v (.string s)] (prM m l pe o r 0) (.tup [.sl 1 ((zaN r (bs s)).2.1.map λt=>sRow (tx t)) none,.v (.int .i64 (zaN r (bs s)).2.2)]) (prM m l pe o (zaN r (bs s)).1 1):=by
 have hl:=zcy s;refine foA zaA [] [] Tryz.func64 Tryz.ntmps64 Tryz.results64 ?_;unfold prM;(all_goals refine gv ?_;repeat' first|exact .intro|refine Tw.mk ?_ ?_|(intro h;first|replace h:=h.o|cases h))
 refine lpG (λk:Nat=>⟨[(0,.box 0 2),(1,.v (.string s)),(4,.sl 1 ((zaN r ((bs s).take k)).2.1.map λt=>sRow (tx t)) (some (4,1))),(5,.v (.int .i64 (zaN r ((bs s).take k)).2.2)),(11,.v (.int .i64 s.size)),(12,.v (.int .i64 k))],prM m l pe o (zaN r ((bs s).take k)).1 1++[.grow 9 1 1]⟩) (λk=>k<=s.size) (λk=>s.size-k) 0 (by omega) (by
  refine AS.le_trans (zef 4 9 1 rfl) ?_;(refine zaC [0,1,2,3,4] ?_;repeat' first|exact .intro|refine Tw.mk ?_ ?_);all_goals (all_goals (try first|rfl|(simp [zaN];done)))) ?_
 rintro k hk;have hR:=zed hr ((bs s).take k);have hN:=zdT r ((bs s).take k);rw[List.length_take] at hN;obtain⟨hN1,hN2⟩:=hN;by_cases hk':k<(bs s).length
 .have hS:=zmf (r:=r) hk';generalize hq:zaN r ((bs s).take k)=q at *
  obtain⟨R,out,bad⟩:=q;dsimp only at hR hN1 hN2 ⊢;have ht:=ptake_ok m l pe o R hR (bs s)[k];have hbt:=zjG hk';unfold prM at ht;unfold rdS at hS;dsimp only at hS;(all_goals refine gv ?_;repeat' first|exact .intro|refine Tw.mk ?_ ?_|(intro h;first|replace h:=h.o|cases h))
  all_goals (try (exfalso;omega))
  all_goals (try ((with_reducible refine Vc.mk ?_);(try exact GLt)))
  by_cases hd:zav R (bs s)[k]=true
  .by_cases he:rdE R=0
   .simp only[hd,he,if_true] at ht;simp only[hd,he,decide_true,Bool.and_self,if_true,Bool.not_true,Bool.and_false,Bool.false_eq_true,if_false] at hS;(refine⟨_,_,_,_,[0,1,2,3],ht,rfl,rfl,rfl,?_,?_,?_⟩)
    .exact Y3
    .exact Y87
    (all_goals refine gv ?_;repeat' first|exact .intro|refine Tw.mk ?_ ?_|(intro h;first|replace h:=h.o|cases h))
    all_goals (try ((with_reducible refine Vc.mk ?_);(try exact GLt)))
    all_goals (try (exact absurd rfl h))
    refine zaO (k+1) (by omega) (by omega) (by rw[hS];(refine zaC [0,1,2,3,4] ?_;repeat' first|exact .intro|refine Tw.mk ?_ ?_);all_goals (all_goals (try (simp [sRow,viewR,viewL,AV.view];done))))
   .simp only[hd,if_true] at ht;simp only[hd,he,decide_false,Bool.and_false,Bool.not_false,Bool.and_self,if_true,Bool.false_eq_true,if_false] at hS;(refine⟨_,_,_,_,[0,1,2,3],ht,rfl,rfl,rfl,?_,?_,?_⟩)
    .exact Y3
    .exact Y87
    (all_goals refine gv ?_;repeat' first|exact .intro|refine Tw.mk ?_ ?_|(intro h;first|replace h:=h.o|cases h))
    all_goals (try ((with_reducible refine Vc.mk ?_);(try exact GLt)))
    all_goals (try (exact absurd h he))
    refine zaO (k+1) (by omega) (by omega) (by rw[hS];(refine zaC [0,1,2,3,4] ?_;repeat' first|exact .intro|refine Tw.mk ?_ ?_);all_goals (all_goals (try (simp [sRow,viewR,viewL,AV.view];done))))
  .have hf:zav R (bs s)[k]=false:=by simpa using hd
   simp only[hf,Bool.false_eq_true,if_false] at ht;simp only[hf,Bool.false_and,Bool.false_eq_true,if_false] at hS;(refine⟨_,_,_,_,[0,1,2,3],ht,rfl,rfl,rfl,?_,?_,?_⟩)
   .exact Y3
   .exact Y87
   (all_goals refine gv ?_;repeat' first|exact .intro|refine Tw.mk ?_ ?_|(intro h;first|replace h:=h.o|cases h))
   all_goals (try ((with_reducible refine Vc.mk ?_);(try exact GLt)))
   refine zaO (k+1) (by omega) (by omega) (by rw[hS];(refine zaC [0,1,2,3,4] ?_;repeat' first|exact .intro|refine Tw.mk ?_ ?_);all_goals (all_goals (try (simp [sRow,viewR,viewL,AV.view];done))))
 .have e:k=(bs s).length:=by omega
  subst e;rw[List.take_length];(all_goals refine gv ?_;repeat' first|exact .intro|refine Tw.mk ?_ ?_|(intro h;first|replace h:=h.o|cases h))
  all_goals (try (exfalso;omega))
  ((try (conv=>whnf));refine StopRet.by [0,1,2,3] ?_;repeat' first|exact .intro|refine Tw.mk ?_ ?_)
end Go.Proofs.YtimfnpjcedjmiadGreat
namespace Go.Proofs.YtimfnpjcedjmiadGreat
def Like(r q:Rt):Prop:=q.id=r.id/\q.ps.length=r.ps.length
theorem Like.refl(r:Rt):Like r r:=⟨rfl,rfl⟩
theorem Like.trans{a b c:Rt}(h:Like a b)(g:Like b c):Like a c:=⟨g.1.trans h.1,g.2.trans h.2⟩
theorem zad(r:Rt)(i:Nat)(f:Pt->Pt):Like r (r.onP i f):=⟨rfl,by simp [Rt.onP]⟩
theorem zgx(r:Rt)(b:Ba):Like r { r with b:=b }:=⟨rfl,rfl⟩
theorem zjF(r:Rt):Like r (zbL r):=by unfold zbL;split<;>exact⟨rfl,rfl⟩
theorem zaW(r:Rt)(i:Nat)(now:Pe):Like r (zaU r i now):=by
 unfold zaU;split
 .exact zad ..
 .split
  .exact ((zad r i _).trans (zgx _ _)).trans ((zjF _).trans (zgx _ _))
  .exact ((zad r i _).trans (zgx _ _)).trans (zjF _)
theorem zcK(r:Rt)(i:Nat)(up:Bool):Like r (zaV r i up):=by
 unfold zaV;split
 .exact Like.refl r
 .exact (zad ..).trans (zaW ..)
theorem zda(r:Rt)(i:Nat)(s:List UInt8):Like r (zbD r i s):=by
 unfold zbD;split
 .exact Like.refl r
 .split
  .split
   .exact zgx ..
   .exact Like.refl r
  .split
   .exact (zad r i _).trans (zgx _ _)
   .exact zgx ..
theorem zd4(r:Rt)(i:Nat)(s:List UInt8):Like r (zcT r i s):=by
 unfold zcT;split
 .exact zgx ..
 .exact Like.refl r
theorem zeW(r:Rt)(m:Mg):Like r (zdB r m):=by
 unfold zdB;split
 .exact⟨rfl,rfl⟩
 .split
  .exact⟨rfl,rfl⟩
  .split
   .exact⟨rfl,rfl⟩
   .exact zad ..
theorem zd9(r:Rt)(s:List UInt8):Like r (zbc r s):=by
 unfold zbc;split
 .exact zeW ..
 .exact Like.refl r
theorem zj3(r:Rt)(i:Nat)(k:UInt8)(s:List UInt8):Like r (tak1 r i k s):=by
 unfold tak1;split
 .exact zad ..
 .exact Like.refl r
theorem zgB(r:Rt)(i:Nat)(k:UInt8)(s:List UInt8):Like r (takR r i k s):=by
 have h:=zj3 r i k s;unfold takR;split
 .exact h.trans (zaW ..)
 .split
  .split
   .exact h.trans (zaW ..)
   .exact h
  .split
   .exact h.trans (zda ..)
   .split
    .exact h.trans (zd4 ..)
    .split
     .exact h.trans (zd9 ..)
     .exact h
theorem len1{α:Type}{l:List α}(h:l.length=1): ∃a,l=[a]:=List.length_eq_one_iff.1 h
theorem len2{α:Type}{l:List α}(h:l.length=2): ∃a b,l=[a,b]:=by
 match l,h with
 |[a,b],_=>exact⟨a,b,rfl⟩
theorem len3{α:Type}{l:List α}(h:l.length=3): ∃a b c,l=[a,b,c]:=by
 match l,h with
 |[a,b,c],_=>exact⟨a,b,c,rfl⟩
theorem lit3{r q:Rt}(h:Like r q)(hr:r.ps.length=3): ∃p0 p1 p2,q=⟨r.id,[p0,p1,p2],q.b,q.inb,q.dr⟩:=by
 obtain⟨id,ps,b,inb,dr⟩:=q;obtain⟨p0,p1,p2,e⟩:=len3 (h.2.trans hr);refine⟨p0,p1,p2,?_⟩;have h1:=h.1;simp only at e h1;rw[e,h1]
end Go.Proofs.YtimfnpjcedjmiadGreat
namespace Go.Proofs.YtimfnpjcedjmiadGreat
open Go.RowKit
theorem fpart_ok(kn:Int->Option St3)(ow:List (Int->Bool))(h1:1<=ow.length)(h3:ow.length<=3)(p:Int):Fn Tryz.prog 70 [.box 0 0,.v (.int .i64 p)] (baL kn ow) (.tup []) (baM (parB ⟨kn,ow⟩ p)):=by
 refine np3 (p:=λow=>Fn Tryz.prog 70 [.box 0 0,.v (.int .i64 p)] (baL kn ow) (.tup []) (baM (parB ⟨kn,ow⟩ p))) h1 h3 (λa=>?_) (λa b=>?_) (λa b c=>?_)
 .by_cases hp:0<=p/\p<1
  .refine or3 (by omega:p=0\/p=1\/p=2) (λe=>?_) (λe=>?_) (λe=>?_);all_goals (subst e)
   all_goals (try (exfalso;omega))
   .refine foA zaA [] [] Tryz.func70 Tryz.ntmps70 Tryz.results70 ?_;(all_goals refine fv ?_;repeat' first|exact .intro|refine Tw.mk ?_ ?_|(intro h;first|replace h:=h.o|cases h))
    all_goals (((try (conv=>whnf));refine StopRet.by [0,1,2,3] ?_;repeat' first|exact .intro|refine Tw.mk ?_ ?_);all_goals (first|rfl|(exact owM_none)))
  .have hV:parB ⟨kn,[a]⟩ p=⟨kn,[a]⟩:=if_neg (by simp [inP];omega);rw[hV];refine foA zaA [] [] Tryz.func70 Tryz.ntmps70 Tryz.results70 ?_;(all_goals refine fv ?_;repeat' first|exact .intro|refine Tw.mk ?_ ?_|(intro h;first|replace h:=h.o|cases h))
   all_goals exact Y18
 .by_cases hp:0<=p/\p<2
  .refine or3 (by omega:p=0\/p=1\/p=2) (λe=>?_) (λe=>?_) (λe=>?_);all_goals (subst e)
   all_goals (try (exfalso;omega))
   .exact Y55
   .exact Y55
  .have hV:parB ⟨kn,[a,b]⟩ p=⟨kn,[a,b]⟩:=if_neg (by simp [inP];omega);rw[hV];refine foA zaA [] [] Tryz.func70 Tryz.ntmps70 Tryz.results70 ?_;(all_goals refine fv ?_;repeat' first|exact .intro|refine Tw.mk ?_ ?_|(intro h;first|replace h:=h.o|cases h))
   all_goals exact Y33
 .by_cases hp:0<=p/\p<3
  .refine or3 (by omega:p=0\/p=1\/p=2) (λe=>?_) (λe=>?_) (λe=>?_);all_goals (subst e)
   all_goals (try (exfalso;omega))
   .exact Y36
   .exact Y36
   .exact Y36
  .have hV:parB ⟨kn,[a,b,c]⟩ p=⟨kn,[a,b,c]⟩:=if_neg (by simp [inP];omega);rw[hV];refine foA zaA [] [] Tryz.func70 Tryz.ntmps70 Tryz.results70 ?_;(all_goals refine fv ?_;repeat' first|exact .intro|refine Tw.mk ?_ ?_|(intro h;first|replace h:=h.o|cases h))
   all_goals exact Y27
end Go.Proofs.YtimfnpjcedjmiadGreat
