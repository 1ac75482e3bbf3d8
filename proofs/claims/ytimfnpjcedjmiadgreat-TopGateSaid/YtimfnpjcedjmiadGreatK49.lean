/- Lemmas. -/
import Derived.Test.YtimfnpjcedjmiadGreatK47
import Derived.Test.YtimfnpjcedjmiadGreatK48
import Derived.Test.YtimfnpjcedjmiadGreatK45
import Derived.Test.YtimfnpjcedjmiadGreatK46
import Derived.Test.YtimfnpjcedjmiadGreatK32
import Derived.Test.YtimfnpjcedjmiadGreatK33
import Derived.Test.YtimfnpjcedjmiadGreatK40
set_option maxRecDepth 100000
set_option maxHeartbeats 64000000
set_option linter.all false
namespace Go.Proofs.YtimfnpjcedjmiadGreat
open Go.RowKit
section
variable {k d e:Nat} {N:Nt}
theorem xntick(hk:1<=k/\k<=6)(hd:d<=300000000)(he:e<=400000000000)(hN:N.inv k d e)(i:Int):Fn Tryz.prog 30 [.box 0 0,.v (.int .i64 i)] [ntO N] (.err (if N.has i then 0 else 6)) [ntO (zc6 N i)]:=
 fn_E hk.1 hN.ok (zd7 hN i).ok (fun v=>tickE (n:=0) (by omega) (by omega) hk hN.ok v i) rfl rfl
theorem xnsend(hk:1<=k/\k<=6)(hd:d<=300000000)(he:e<=400000000000)(hN:N.inv k d e)(i to:Int)(t:ByteArray):Fn Tryz.prog 33 [.box 0 0,.v (.int .i64 i),.v (.int .i64 to),.v (.string t)] [ntO N] (.err (if N.has i then zl0 to t else 6)) [ntO (zgs N i to t)]:=
 fn_E hk.1 hN.ok (zlE hN i to t).ok (fun v=>sendE' (n:=0) (by omega) (by omega) (by omega) hk hN.ok v i to t) rfl rfl
theorem xnplug(hk:1<=k/\k<=6)(he:e<=400000000000)(hN:N.inv k d e)(i:Int)(up:Bool):Fn Tryz.prog 20 [.box 0 0,.v (.int .i64 i),.v (.bool up)] [ntO N] (.err (zfQ N i up)) [ntO (zbI N i up)]:=
 fn_E hk.1 hN.ok (zbq hN i up).ok (fun v=>znT (n:=0) (by omega) (by omega) hk hN.ok v i up) rfl rfl
theorem xndel(hk:1<=k/\k<=6)(hd:d<=300000000)(he:e<=400000000000)(hN:N.inv k d e)(i way many:Int):Fn Tryz.prog 31 [.box 0 0,.v (.int .i64 i),.v (.int .i64 way),.v (.int .i64 many)] [ntO N] (.err (zdo N i way)) [ntO (ndel N i way many)]:=
 fn_E hk.1 hN.ok (zdP hN i way many).ok (fun v=>delE (n:=0) (by omega) (by omega) (by omega) hk hN.ok v i way many) rfl rfl
theorem zoh(hk:1<=k/\k<=6)(hd:d<=300000000)(he:e<=400000000000)(hN:N.inv k d e):Fn Tryz.prog 24 [.box 0 0] [ntO N] (.tup []) [ntO (zeZ N)]:=
 fn_E hk.1 hN.ok (zge hN hk.2).ok (fun v=>by
  rcases (by omega:k=1\/k=2\/k=3\/k=4\/k=5\/k=6) with h|h|h|h|h|h
  ·exact round_1 k d e N v hd he hk hN h
  ·exact round_2 k d e N v hd he hk hN h
  ·exact round_3 k d e N v hd he hk hN h
  ·exact round_4 k d e N v hd he hk hN h
  ·exact round_5 k d e N v hd he hk hN h
  ·exact round_6 k d e N v hd he hk hN h) rfl rfl
theorem xnrst(hk:1<=k/\k<=6)(hd:d<=300000000)(he:e<=400000000000)(hN:N.inv k d e)(i:Int):Fn Tryz.prog 32 [.box 0 0,.v (.int .i64 i)] [ntO N] (.err (if N.has i then 0 else 6)) [ntO (nrst N i)]:=by
 rcases (by omega:k=1\/k=2\/k=3\/k=4\/k=5\/k=6) with h|h|h|h|h|h
 ·exact rst_1 k d e N i (by omega) (by omega) hk hN h
 ·exact rst_2 k d e N i (by omega) (by omega) hk hN h
 ·exact rst_3 k d e N i (by omega) (by omega) hk hN h
 ·exact rst_4 k d e N i (by omega) (by omega) hk hN h
 ·exact rst_5 k d e N i (by omega) (by omega) hk hN h
 ·exact rst_6 k d e N i (by omega) (by omega) hk hN h
theorem xnonX(hk:1<=k/\k<=6)(hN:N.inv k d e)(v:Nat->Nat)(i way:Int):Fn Tryz.prog 22 [.box 0 0,.v (.int .i64 i),.v (.int .i64 way)] [ntX N v] (.tup [.v (.int .i64 (non N i way)),.err (zdo N i way)]) [ntX N v]:=fn_X (onE hk hN.ok v i way) rfl rfl
theorem zjF(hk:1<=k/\k<=6)(hN:N.inv k d e)(v:Nat->Nat)(i:Int)(hi:1<=i/\i<=k):Fn Tryz.prog 12 [.box 0 0,.v (.int .i64 i)] [ntX N v] (.tup [.v (.pointer (some ⟨v (i-1).toNat,0,none⟩)),.err 0]) [ntX N v]:=fn_X (zhp hk hN.ok v i hi) rfl rfl
theorem inv_eq(hN:N.inv k d e):N.rs.length=N.ib.length:=by rw[hN.ok.rs,hN.ok.ib]
theorem xnnew{k:Int}{l:List Ca}(hl:l.length<=1000000)(h:zcm k l=0):Fn Tryz.prog 10 [.v (.int .i64 k),.sl 5 (l.map zbl) none] [] (.tup [.box 0 0,.err 0]) [ntO (newN k.toNat l)]:=by
 have ck:=zjR k l hl
 rw[h] at ck
 obtain⟨h1,h2,h3,h4⟩:=zie h
 rcases (by omega:k=1\/k=2\/k=3\/k=4\/k=5\/k=6) with rfl|rfl|rfl|rfl|rfl|rfl
 ·exact new_1 1 l rfl (by decide) h4 h3 ck
 ·exact new_2 2 l rfl (by decide) h4 h3 ck
 ·exact new_3 3 l rfl (by decide) h4 h3 ck
 ·exact new_4 4 l rfl (by decide) h4 h3 ck
 ·exact new_5 5 l rfl (by decide) h4 h3 ck
 ·exact new_6 6 l rfl (by decide) h4 h3 ck
theorem xnnew_no{k:Int}{l:List Ca}(hl:l.length<=1000000)(h:zcm k l≠0):Fn Tryz.prog 10 [.v (.int .i64 k),.sl 5 (l.map zbl) none] [] (.tup [.v (.pointer none),.err (zcm k l)]) []:=by
 have ck:=zjR k l hl
 obtain⟨E,hE⟩: ∃E,zcm k l=E:=⟨_,rfl⟩
 rw[hE] at ck h ⊢
 refine foP zaA (nnewPl) [] [] Tryz.func10 Tryz.ntmps10 Tryz.results10 ?_
 (all_goals refine fx ?_;repeat' first|exact .intro|refine Tw.mk ?_ ?_|(intro h;first|replace h:=h.o|cases h))
 all_goals ((refine StopCall.fz [] (ck) ?_;(all_goals refine fx ?_;repeat' first|exact .intro|refine Tw.mk ?_ ?_|(intro h;first|replace h:=h.o|cases h))))
 all_goals (try (exfalso;omega))
 all_goals exact Y31
end
theorem works_ok:Fn Tryz.prog 7 [] [] (.v (.bool true)) []:=by
 have hn:Fn Tryz.prog 10 [.v (.int .i64 2),.sl 5 ([(⟨1,0,2,0,3⟩:Ca)].map zbl) none] [] (.tup [.box 0 0,.err 0]) [ntO (newN 2 [⟨1,0,2,0,3⟩])]:=xnnew (k:=2) (l:=[⟨1,0,2,0,3⟩]) (by decide) wo_check
 have hp:=xnplug (k:=2) (by decide) (by decide) znw 0 true
 rw[wo_plug] at hp
 refine foL zaA [] [8] Tryz.func7 Tryz.ntmps7 Tryz.results7 ?_
 (all_goals refine fx ?_;repeat' first|exact .intro|refine Tw.mk ?_ ?_|(intro h;first|replace h:=h.o|cases h))
 all_goals ((refine StopCall.fz [] (hn) ?_;(all_goals refine fx ?_;repeat' first|exact .intro|refine Tw.mk ?_ ?_|(intro h;first|replace h:=h.o|cases h))))
 all_goals (try (exfalso;omega))
 all_goals ((refine StopCall.fz [1] (hp) ?_;(all_goals refine fx ?_;repeat' first|exact .intro|refine Tw.mk ?_ ?_|(intro h;first|replace h:=h.o|cases h))))
 all_goals (try (exfalso;omega))
 obtain⟨N6,hN6⟩: ∃N,woN 6=N:=⟨_,rfl⟩
 have hsts:=wo_sts
 have hid:=wo_id
 have hI6:=zng 6
 rw[hN6] at hsts hid hI6
 obtain⟨rs,cs,mt,ib⟩:=N6
 have l1:=hI6.ok.rs
 have l2:=hI6.ok.ib
 dsimp only at l1 l2
 obtain⟨r0,r1,rfl⟩:=len2 l1
 obtain⟨b0,b1,rfl⟩:=len2 l2
 have hf:=hI6.ok.r r1 (by simp)
 have hroute:=zjF (k:=2) (by decide) hI6
 have hhops:=xrhops (r:=r1) hf.p3 hf.f.b
 rw[show r1.id=2 from hid,wo_hops (l:=stsB r1.b) hsts] at hhops
 have hib:=inv_eq hI6
 refine cutX (fun v=>⟨[(1,.box 0 0)],[ntX ⟨[r0,r1],cs,mt,[b0,b1]⟩ v]⟩) ?_ (fun hy Z hZ=>?_)
 rotate_left
 ·refine lpG (fun i:Nat=>⟨[(1,.box 0 0),(3,.v (.int .i64 i))],[ntO (woN i)]⟩) (fun i=>i<=6) (fun i=>6-i) 0 (by omega) (by (refine zaD [1] ?_;repeat' first|exact .intro|refine Tw.mk ?_ ?_)) ?_
  rintro i hi
  by_cases hi':i<6
  ·have hr:=zoh (k:=2) (by decide) (by omega) (by omega) (zng i)
   (all_goals refine fx ?_;repeat' first|exact .intro|refine Tw.mk ?_ ?_|(intro h;first|replace h:=h.o|cases h))
   all_goals (try (exfalso;omega))
   all_goals ((refine StopCall.fz [0] (hr) ?_;(all_goals refine fx ?_;repeat' first|exact .intro|refine Tw.mk ?_ ?_|(intro h;first|replace h:=h.o|cases h))))
   all_goals (refine zaS (i+1) (by omega) (by omega) (by (refine zaD [0] ?_;repeat' first|exact .intro|refine Tw.mk ?_ ?_)))
  ·obtain rfl:i=6:=by omega
   rw[hN6]
   (all_goals refine fx ?_;repeat' first|exact .intro|refine Tw.mk ?_ ?_|(intro h;first|replace h:=h.o|cases h))
   all_goals (try (exfalso;omega))
   all_goals (refine hZ _ (AS.le.to2 (B:=⟨[(1,.box 0 0)],[ntO ⟨[r0,r1],cs,mt,[b0,b1]⟩]⟩) ?_ (to_ntX 0 rfl (Nat.le_succ 1) hib hy)))
   all_goals ((refine zaD [0] ?_;repeat' first|exact .intro|refine Tw.mk ?_ ?_))
 intro v
 have hroute:=hroute v 2 (by decide)
 have hhops:=zoW (N:=⟨[r0,r1],cs,mt,[b0,b1]⟩) (i:=1) hhops rfl hib v rfl rfl
 (all_goals refine fx ?_;repeat' first|exact .intro|refine Tw.mk ?_ ?_|(intro h;first|replace h:=h.o|cases h))
 all_goals ((refine StopCall.fz [0] (hroute) ?_;(all_goals refine fx ?_;repeat' first|exact .intro|refine Tw.mk ?_ ?_|(intro h;first|replace h:=h.o|cases h))))
 all_goals ((refine StopCall.fz [0] (hhops) ?_;(all_goals refine fx ?_;repeat' first|exact .intro|refine Tw.mk ?_ ?_|(intro h;first|replace h:=h.o|cases h))))
 all_goals (have hsame:=zji [(1,3,1)] [(1,3,1)] (by decide))
 all_goals ((refine StopCall.fz [] (hsame) ?_;(all_goals refine fx ?_;repeat' first|exact .intro|refine Tw.mk ?_ ?_|(intro h;first|replace h:=h.o|cases h))))
 all_goals exact Y31
noncomputable def actN(q:Ac)(N:Nt):Nt:=
 if q.k.toList=(⟨#[112,108,117,103]⟩:ByteArray).toList then zbI N q.a (q.b==1)
 else if q.k.toList=(⟨#[116,105,99,107]⟩:ByteArray).toList then zc6 N q.a
 else if q.k.toList=(⟨#[100,101,108,105,118,101,114]⟩:ByteArray).toList then ndel N q.a q.b q.c
 else if q.k.toList=(⟨#[114,101,115,116,97,114,116]⟩:ByteArray).toList then nrst N q.a
 else if q.k.toList=(⟨#[115,101,110,100]⟩:ByteArray).toList then zgs N q.a q.b q.s
 else if q.k.toList=(⟨#[114,111,117,110,100]⟩:ByteArray).toList then zeZ N
 else N
theorem inv_act{k d e:Nat}{N:Nt}(hk:k<=6)(h:N.inv k d e)(q:Ac):(actN q N).inv k (d+432000) (e+230000000):=by
 unfold actN
 repeat' split
 ·exact (zbq h _ _).up (by omega) (by omega)
 ·exact (zd7 h _).up (by omega) (by omega)
 ·exact (zdP h _ _ _).up (by omega) (by omega)
 ·exact (inv_rst h hk _).up (by omega) (by omega)
 ·exact (zlE h _ _ _).up (by omega) (by omega)
 ·exact zge h hk
 ·exact h.up (by omega) (by omega)
theorem act_ok{k d e:Nat}{N:Nt}(hk:1<=k/\k<=6)(hd:d<=300000000)(he:e<=400000000000)(hN:N.inv k d e)(q:Ac):Fn Tryz.prog 11 [.box 0 0,.agg (zcs q)] [ntO N] (.tup []) [ntO (actN q N)]:=by
 have h1:=xnplug hk he hN q.a (q.b==1)
 have h2:=xntick hk hd he hN q.a
 have h3:=xndel hk hd he hN q.a q.b q.c
 have h4:=xnrst hk hd he hN q.a
 have h5:=xnsend hk hd he hN q.a q.b q.s
 have h6:=zoh hk hd he hN
 unfold actN zcs
 obtain⟨kd,a,b,c,dd,s,p,x⟩:=q
 dsimp only at h1 h2 h3 h4 h5 h6 ⊢
 by_cases e1:kd.toList=(⟨#[112,108,117,103]⟩:ByteArray).toList
 ·rw[if_pos e1]
  refine foL zaA [] [] Tryz.func11 Tryz.ntmps11 Tryz.results11 ?_
  (all_goals refine fx ?_;repeat' first|exact .intro|refine Tw.mk ?_ ?_|(intro h;first|replace h:=h.o|cases h))
  all_goals (try (exfalso;simp_all;done))
  all_goals ((refine StopCall.fz [0] (h1) ?_;(all_goals refine fx ?_;repeat' first|exact .intro|refine Tw.mk ?_ ?_|(intro h;first|replace h:=h.o|cases h))))
  all_goals exact Y25
 by_cases e2:kd.toList=(⟨#[116,105,99,107]⟩:ByteArray).toList
 ·rw[if_neg e1,if_pos e2]
  refine foL zaA [] [] Tryz.func11 Tryz.ntmps11 Tryz.results11 ?_
  (all_goals refine fx ?_;repeat' first|exact .intro|refine Tw.mk ?_ ?_|(intro h;first|replace h:=h.o|cases h))
  all_goals (try (exfalso;simp_all;done))
  all_goals ((refine StopCall.fz [0] (h2) ?_;(all_goals refine fx ?_;repeat' first|exact .intro|refine Tw.mk ?_ ?_|(intro h;first|replace h:=h.o|cases h))))
  all_goals exact Y25
 by_cases e3:kd.toList=(⟨#[100,101,108,105,118,101,114]⟩:ByteArray).toList
 ·rw[if_neg e1,if_neg e2,if_pos e3]
  refine foL zaA [] [] Tryz.func11 Tryz.ntmps11 Tryz.results11 ?_
  (all_goals refine fx ?_;repeat' first|exact .intro|refine Tw.mk ?_ ?_|(intro h;first|replace h:=h.o|cases h))
  all_goals (try (exfalso;simp_all;done))
  all_goals ((refine StopCall.fz [0] (h3) ?_;(all_goals refine fx ?_;repeat' first|exact .intro|refine Tw.mk ?_ ?_|(intro h;first|replace h:=h.o|cases h))))
  all_goals exact Y25
 by_cases e4:kd.toList=(⟨#[114,101,115,116,97,114,116]⟩:ByteArray).toList
 ·rw[if_neg e1,if_neg e2,if_neg e3,if_pos e4]
  refine foL zaA [] [] Tryz.func11 Tryz.ntmps11 Tryz.results11 ?_
  (all_goals refine fx ?_;repeat' first|exact .intro|refine Tw.mk ?_ ?_|(intro h;first|replace h:=h.o|cases h))
  all_goals (try (exfalso;simp_all;done))
  all_goals ((refine StopCall.fz [0] (h4) ?_;(all_goals refine fx ?_;repeat' first|exact .intro|refine Tw.mk ?_ ?_|(intro h;first|replace h:=h.o|cases h))))
  all_goals exact Y25
 by_cases e5:kd.toList=(⟨#[115,101,110,100]⟩:ByteArray).toList
 ·rw[if_neg e1,if_neg e2,if_neg e3,if_neg e4,if_pos e5]
  refine foL zaA [] [] Tryz.func11 Tryz.ntmps11 Tryz.results11 ?_
  (all_goals refine fx ?_;repeat' first|exact .intro|refine Tw.mk ?_ ?_|(intro h;first|replace h:=h.o|cases h))
  all_goals (try (exfalso;simp_all;done))
  all_goals ((refine StopCall.fz [0] (h5) ?_;(all_goals refine fx ?_;repeat' first|exact .intro|refine Tw.mk ?_ ?_|(intro h;first|replace h:=h.o|cases h))))
  all_goals exact Y25
 by_cases e6:kd.toList=(⟨#[114,111,117,110,100]⟩:ByteArray).toList
 ·rw[if_neg e1,if_neg e2,if_neg e3,if_neg e4,if_neg e5,if_pos e6]
  refine foL zaA [] [] Tryz.func11 Tryz.ntmps11 Tryz.results11 ?_
  (all_goals refine fx ?_;repeat' first|exact .intro|refine Tw.mk ?_ ?_|(intro h;first|replace h:=h.o|cases h))
  all_goals (try (exfalso;simp_all;done))
  all_goals ((refine StopCall.fz [0] (h6) ?_;(all_goals refine fx ?_;repeat' first|exact .intro|refine Tw.mk ?_ ?_|(intro h;first|replace h:=h.o|cases h))))
  all_goals exact Y25
 rw[if_neg e1,if_neg e2,if_neg e3,if_neg e4,if_neg e5,if_neg e6]
 refine foL zaA [] [] Tryz.func11 Tryz.ntmps11 Tryz.results11 ?_
 (all_goals refine fx ?_;repeat' first|exact .intro|refine Tw.mk ?_ ?_|(intro h;first|replace h:=h.o|cases h))
 all_goals (try (exfalso;simp_all;done))
 all_goals exact Y25
theorem zhC(l:List Ca):Fn Tryz.prog 8 [.sl 5 (l.map zbl) none] [] (.v (.bool (decide (l.length<=12)))) []:=by
 refine foA zaA [] [] Tryz.func8 Tryz.ntmps8 Tryz.results8 ?_
 (all_goals refine gv ?_;repeat' first|exact .intro|refine Tw.mk ?_ ?_|(intro h;first|replace h:=h.o|cases h))
 all_goals (((try (conv=>whnf));refine StopRet.by [] ?_;repeat' first|exact .intro|refine Tw.mk ?_ ?_))
 all_goals (simp;try omega)
end Go.Proofs.YtimfnpjcedjmiadGreat
namespace Go.Proofs.YtimfnpjcedjmiadGreat
def CsM(N Q:Nt)(f:Nat->Bool->Bool):Prop:=Q.cs.length=N.cs.length/\ ∀(j:Nat) (c:Cb),N.cs[j]? =some c-> ∃d,Q.cs[j]? =some d/\Ends { c with inn:=f j c.inn } d
theorem CsE.csm{N Q:Nt}(h:CsE N Q):CsM N Q (fun _ b=>b):=h
theorem CsM.cse{A B C:Nt}{f:Nat->Bool->Bool}(h:CsM A B f)(g:CsE B C):CsM A C f:=⟨g.1.trans h.1,fun j c hc=>by
 obtain⟨d,hd,e⟩:=h.2 j c hc
 obtain⟨x,hx,f⟩:=g.2 j d hd
 exact⟨x,hx,f.1.trans e.1,f.2.1.trans e.2.1,f.2.2.1.trans e.2.2.1,f.2.2.2.1.trans e.2.2.2.1,f.2.2.2.2.1.trans e.2.2.2.2.1,f.2.2.2.2.2.trans e.2.2.2.2.2⟩⟩
theorem CsM.in{A B:Nt}{f:Nat->Bool->Bool}(h:CsM A B f)(i:Int)(up:Bool):CsM A (nIn B i up) (fun j b=>if i=(j:Int) then up else f j b):=by
 unfold nIn
 cases hcb:B.cb i with
 |none=>
  refine⟨h.1,fun j c hc=>?_⟩
  obtain⟨d,hd,e⟩:=h.2 j c hc
  have hne:i≠(j:Int):=fun e=>by
   subst e
   unfold Nt.cb at hcb
   rw[if_neg (by omega),Int.toNat_natCast,hd] at hcb
   cases hcb
  exact⟨d,hd,by dsimp only;rw[if_neg hne];exact e⟩
 |some x=>
  obtain⟨h0,hx⟩:=zdG hcb
  refine⟨(List.length_set ..).trans h.1,fun j c hc=>?_⟩
  obtain⟨d,hd,e⟩:=h.2 j c hc
  show ∃d,(B.cs.set i.toNat { x with inn:=up })[j]? =some d/\_
  rw[zjQ hd]
  by_cases hj:i=(j:Int)
  ·have hj2:i.toNat=j:=by omega
   rw[hj2,hd] at hx
   cases hx
   exact⟨{ x with inn:=up },by rw[if_pos hj2],e.1,e.2.1,e.2.2.1,e.2.2.2.1,e.2.2.2.2.1,by dsimp only;rw[if_pos hj]⟩
  ·exact⟨d,by rw[if_neg (by omega)],by dsimp only;rw[if_neg hj];exact e⟩
theorem CsM.congr{A B:Nt}{f g:Nat->Bool->Bool}(h:CsM A B f)(hg: ∀j b,f j b=g j b):CsM A B g:=by
 rw[show g=f from funext fun j=>funext fun b=>(hg j b).symm];exact h
theorem csm_on{k d:Nat}{N:Nt}: ∀(L:List Nat) {Q:Nt} {e:Nat} {f:Nat->Bool->Bool},Q.inv k d e->CsM N Q f->CsM N (L.foldl (fun q (k:Nat)=>zbI q k true) Q) (fun j b=>if j∈L then true else f j b)
 |[],Q,e,f,_,h=>h.congr fun j b=>by simp
 |x::L,Q,e,f,hI,h=>by
  have h1:=(h.in x true).cse (zhz hI x true)
  refine (csm_on L (zbq hI x true) h1).congr fun j b=>?_
  by_cases hj:j∈L
  ·simp [hj]
  ·by_cases hx:x=j
   ·subst hx;simp
   ·have: ¬(x:Int)=(j:Int):=by omega
    have h2: ¬j=x:=fun e=>hx e.symm
    simp [hj,this,h2]
structure RstI (k d e:Nat) (N:Nt) (m:Nat) (s:Nt×List Nat):Prop where
 mt:s.1.mt=N.mt
 inv:s.1.inv k d (e+780*m)
 cs:CsM N s.1 (fun j b=>if j∈s.2 then false else b)
 on: ∀j∈s.2,j<m/\ ∃c,N.cs[j]? =some c/\c.inn=true
theorem rst_step{k d e m:Nat}{N:Nt}{i:Int}{s:Nt×List Nat}(h:RstI k d e N m s)(hm:m<N.cs.length):RstI k d e N (m+1) (zcD i s m):=by
 unfold zcD
 split
 ·rename_i ht
  have hnm:m∉s.2:=fun g=>absurd (h.on m g).1 (Nat.lt_irrefl m)
  obtain⟨x,hx,he⟩:=h.cs.2 m N.cs[m] (List.getElem?_eq_getElem hm)
  have hin:N.cs[m].inn=true:=by
   unfold zhJ at ht
   rw[hx] at ht
   simp only[Bool.and_eq_true] at ht
   have h2:=he.2.2.2.2.2
   dsimp only at h2
   rw[if_neg hnm] at h2
   rw[<-h2];exact ht.1
  refine⟨(zkQ _ _ h.inv.ok).2.trans h.mt,(zbq h.inv m false).up (Nat.le_refl _) (by omega),((h.cs.in m false).cse (zhz h.inv m false)).congr fun j b=>?_,fun j hj=>?_⟩
  ·by_cases e1:j=m
   ·subst e1;simp
   ·have: ¬(m:Int)=(j:Int):=by omega
    simp [this,e1]
  ·rcases List.mem_append.1 hj with g|g
   ·obtain⟨a,b⟩:=h.on j g
    exact⟨by omega,b⟩
   ·obtain rfl:=List.mem_singleton.1 g
    exact⟨by omega,_,List.getElem?_eq_getElem hm,hin⟩
 ·exact⟨h.mt,h.inv.up (Nat.le_refl _) (by omega),h.cs,fun j hj=>by obtain⟨a,b⟩:=h.on j hj;exact⟨by omega,b⟩⟩
theorem zmY{k d e:Nat}{N:Nt}(hN:N.inv k d e)(i:Int): ∀m,m<=N.cs.length->RstI k d e N m ((List.range m).foldl (zcD i) (N,[]))
 |0,_=>⟨rfl,hN,(CsE.refl N).csm.congr fun j b=>by simp,fun j hj=>by cases hj⟩
 |m+1,h=>by
  rw[List.range_succ,List.foldl_append]
  exact rst_step (zmY hN i m (by omega)) (by omega)
theorem cse_rst{k d e:Nat}{N:Nt}(h:N.inv k d e)(hk:k<=6)(i:Int):CsE N (nrst N i):=by
 unfold nrst
 split
 ·rename_i hi
  have hs:=zmY h i N.cs.length (Nat.le_refl _)
  generalize (List.range N.cs.length).foldl (zcD i) (N,[])=s at *
  have hi2:=zc9.1 hi
  rw[h.ok.rs] at hi2
  have b1:=ziK hs.inv hk (i:=i) ⟨hi2.1,by omega⟩
  rw[hs.mt] at b1
  have c1:CsM N (s.1.onR i fun _=>newR i (N.mt.getD (i-1).toNat [])) (fun j b=>if j∈s.2 then false else b):=hs.cs.cse (zdg _ i _)
  have c2:=csm_on s.2 b1 c1
  show CsE N (s.2.foldl (fun q (k:Nat)=>zbI q k true) _)
  refine⟨c2.1,fun j c hc=>?_⟩
  obtain⟨x,hx,he⟩:=c2.2 j c hc
  refine⟨x,hx,he.1,he.2.1,he.2.2.1,he.2.2.2.1,he.2.2.2.2.1,?_⟩
  have h2:=he.2.2.2.2.2
  dsimp only at h2
  by_cases hj:j∈s.2
  ·obtain⟨_,c',hc',hin⟩:=hs.on j hj
   rw[hc] at hc'
   cases hc'
   rw[h2,if_pos hj,hin]
  ·rw[h2,if_neg hj,if_neg hj]
 ·exact CsE.refl N
def actI(q:Ac)(j:Nat)(b:Bool):Bool:=if q.k.toList=(⟨#[112,108,117,103]⟩:ByteArray).toList/\q.a=(j:Int) then (q.b==1) else b
theorem csm_act{k d e:Nat}{N Q:Nt}{f:Nat->Bool->Bool}(hk:k<=6)(hI:Q.inv k d e)(h:CsM N Q f)(q:Ac):CsM N (actN q Q) (fun j b=>actI q j (f j b)):=by
 unfold actN actI
 by_cases h1:q.k.toList=(⟨#[112,108,117,103]⟩:ByteArray).toList
 ·rw[if_pos h1]
  refine ((h.in q.a (q.b==1)).cse (zhz hI q.a _)).congr fun j b=>?_
  simp only[h1,true_and]
 ·rw[if_neg h1]
  have hg:CsM N Q (fun j b=>if q.k.toList=(⟨#[112,108,117,103]⟩:ByteArray).toList/\q.a=(j:Int) then (q.b==1) else f j b):=h.congr fun j b=>by rw[if_neg (fun g=>h1 g.1)]
  refine hg.cse ?_
  repeat' split
  ·exact zk8 hI _
  ·exact zja hI _ _ _
  ·exact cse_rst hI hk _
  ·exact cse_send hI _ _ _
  ·exact zms hI
  ·exact CsE.refl Q
def Pt.opn(p:Pt):Prop:=p.l.opn/\(p.l.st≠9->p.p=peNo)
def Rt.opn(r:Rt):Prop:= ∀(j:Nat) (p:Pt),r.ps[j]? =some p->p.opn
def Rt.opX(i:Nat)(r:Rt):Prop:= ∀(j:Nat) (p:Pt),r.ps[j]? =some p->p.l.opn/\(j≠i->p.l.st≠9->p.p=peNo)
theorem znM{r r':Rt}(e:r'.ps=r.ps)(h:r.opn):r'.opn:=fun j p hp=>h j p (e▸hp)
theorem Rt.opn.x{r:Rt}(h:r.opn)(i:Nat):r.opX i:=fun j p hp=>⟨(h j p hp).1,fun _=>(h j p hp).2⟩
theorem zhi{r:Rt}{i:Nat}{f:Pt->Pt}{j:Nat}{p:Pt}(hp:(r.onP i f).ps[j]? =some p): ∃q,r.ps[j]? =some q/\p=if i=j then f q else q:=by
 rw[zh0] at hp
 cases hq:r.ps[j]? with
 |none=>rw[hq] at hp;cases hp
 |some q=>rw[hq] at hp;exact⟨q,rfl,(Option.some.inj hp).symm⟩
theorem zez{r:Rt}(h:r.opn)(i:Nat){f:Pt->Pt}(hf: ∀p:Pt,p.opn->(f p).opn):(r.onP i f).opn:=fun j p hp=>by
 obtain⟨q,hq,rfl⟩:=zhi hp
 split
 ·exact hf q (h j q hq)
 ·exact h j q hq
theorem zjx{r:Rt}{i:Nat}(h:r.opX i){f:Pt->Pt}(hf: ∀p:Pt,p.l.opn->(f p).l.opn):(r.onP i f).opX i:=fun j p hp=>by
 obtain⟨q,hq,rfl⟩:=zhi hp
 split
 ·rename_i e
  exact⟨hf q (h j q hq).1,fun g=>absurd e.symm g⟩
 ·exact h j q hq
theorem ze6{r:Rt}{i:Nat}(h:r.opX i){now:Pe}(hn: ∀p,r.ps[i]? =some p->p.l.st≠9->now=peNo):(zaU r i now).opn:=fun j p hp=>by
 rw[ps_meet] at hp
 obtain⟨q,hq,rfl⟩:=zhi hp
 split
 ·rename_i e
  subst e
  exact⟨(h i q hq).1,fun g=>hn q hq g⟩
 ·rename_i e
  exact⟨(h j q hq).1,fun g=>(h j q hq).2 (fun k=>e k.symm) g⟩
theorem Rt.opX.back{r:Rt}{i:Nat}(h:r.opX i)(hi: ¬(r.pt i).l.st≠9):r.opn:=fun j p hp=>by
 refine⟨(h j p hp).1,fun g=>?_⟩
 by_cases e:j=i
 ·subst e
  rw[zgR hp] at hi
  exact absurd g hi
 ·exact (h j p hp).2 e g
theorem zf8{p:Pt}(h:p.opn)(k:UInt8)(s:List UInt8):(putP k s p).opn:=by
 unfold putP
 split
 ·exact h
 ·exact h
theorem zo7{r:Rt}(h:r.opn)(i:Nat)(s:List UInt8):(zbB r i s).opn:=by
 unfold zbB
 split
 ·exact h
 ·split
  ·split
   ·exact h
   ·exact h
  ·split
   ·exact znM rfl (zez h i (fun p hp=>zf8 hp 65 s))
   ·exact h
theorem zlI{r:Rt}(h:r.opn)(m:Mg):(zcu r m).opn:=by
 unfold zcu
 split
 ·exact h
 ·split
  ·exact h
  ·split
   ·exact h
   ·exact zez h _ (fun p hp=>zf8 hp 77 _)
theorem zon{r:Rt}(h:r.opn)(s:List UInt8):(zb0 r s).opn:=by
 unfold zb0
 split
 ·exact zlI h _
 ·exact h
theorem zmc{r:Rt}(h:r.opn)(to:Int)(t:ByteArray):(zcY r to t).opn:=by
 unfold zcY
 split
 ·exact h
 ·exact zlI h _
theorem opX_tak1{r:Rt}(h:r.opn)(i:Nat)(k:UInt8)(s:List UInt8):(tak1 r i k s).opX i:=by
 unfold tak1
 split
 ·exact zjx (h.x i) (fun p hp=>(opn_take hp _:Lk.opn (takL p.l ⟨zcb (tx s),pid (tx s),popt (tx s)⟩)))
 ·exact h.x i
theorem opn_tak{r:Rt}(h:r.opn)(i:Nat)(k:UInt8)(s:List UInt8):(takR r i k s).opn:=by
 have hx:=opX_tak1 h i k s
 unfold takR
 generalize tak1 r i k s=q at *
 split
 ·exact ze6 hx (fun _ _ _=>rfl)
 ·rename_i hi
  have ho:=hx.back hi
  split
  ·split
   ·exact ze6 hx (fun p hp g=>absurd g (by rw[<-zgR hp];exact hi))
   ·exact ho
  ·split
   ·exact zo7 ho i s
   ·split
    ·exact znM (zht _ _ _) ho
    ·split
     ·exact zon ho s
     ·exact ho
theorem opn_recv{r:Rt}(h:r.opn)(i:Nat)(s:List UInt8):(zay r i s).opn:=by
 unfold zay
 have h1:(r.onP i fun p=>{ p with rd:=(za2 p.rd s).1,rest:=(zcA (p.rest++s)).2.2 }).opn:=zez h i (fun p hp=>hp)
 generalize (za2 (r.pt i).rd s).2.1=T
 generalize (r.onP i fun p=>{ p with rd:=(za2 p.rd s).1,rest:=(zcA (p.rest++s)).2.2 })=q at *
 induction T generalizing q with
 |nil=>exact h1
 |cons t T ih=>
  refine ih _ ?_
  unfold takT
  split
  ·exact h1
  ·exact opn_tak h1 _ _ _
theorem zlY{l:Lk}(h:l.opn):(zaE l).opn:=by
 unfold zaE
 split
 ·exact znX (znX (zjO h) (by decide)) (by decide)
 ·exact zjO h
theorem zmr{r:Rt}(h:r.opn)(i:Nat):(zbT r i).opn:=by
 have hx:(zaz r i).opX i:=zjx (h.x i) (fun p hp=>(zlY hp:Lk.opn (zaE p.l)))
 unfold zbT
 generalize zaz r i=q at *
 split
 ·exact ze6 hx (fun _ _ _=>rfl)
 ·rename_i hi
  have hm:(zaU q i (zam (q.pt i).p)).opn:=ze6 hx (fun p hp g=>absurd g (by rw[<-zgR hp];exact hi))
  have h2:((zaU q i (zam (q.pt i).p)).onP i (zaP r.id)).opn:=zez hm i (fun p hp=>by
   unfold zaP
   split
   ·exact zf8 hp _ _
   ·exact hp)
  generalize (owdB _ _)=L
  generalize (Rt.onP _ i (zaP r.id))=z at *
  induction L generalizing z with
  |nil=>exact h2
  |cons x L ih=>
   refine ih _ (zez h2 i (fun p hp=>?_))
   unfold zaT
   split
   ·exact zf8 hp _ _
   ·exact hp
theorem opn_tick{r:Rt}(h:r.opn):(zcW r).opn:=by
 unfold zcW
 generalize List.range r.ps.length=L
 induction L generalizing r with
 |nil=>exact h
 |cons i L ih=>exact ih (zmr h i)
theorem opn_plug{r:Rt}(h:r.opn)(i:Nat)(up:Bool):(zak r i up).opn:=by
 unfold zak
 split
 ·exact h
 ·exact ze6 (zjx (h.x i) (fun p hp=>(znX hp (by split<;>decide):Lk.opn (doL p.l (if up then 0 else 1))))) (fun _ _ _=>rfl)
theorem opn_newR(id:Int)(ms:List Int):(newR id ms).opn:=by
 have key: ∀(ms:List Int) (i:Int),∀p∈zjb id i ms,p.opn:=by
  intro ms
  induction ms with
  |nil=>intro i p hp;cases hp
  |cons m ms ih=>
   intro i p hp
   rcases List.mem_cons.1 hp with rfl|hp
   ·exact⟨.inl rfl,fun _=>rfl⟩
   ·exact ih _ p hp
 exact fun j p hp=>key ms 0 p (getq (l:=(zjb id 0 ms)) hp)
def Nt.all(P:Nat->Nat->Lk->Pe->Prop)(N:Nt):Prop:= ∀(i:Nat) (r:Rt),N.rs[i]? =some r-> ∀(j:Nat) (p:Pt),r.ps[j]? =some p->P i j p.l p.p
def opnP(_ _:Nat)(l:Lk)(p:Pe):Prop:=l.opn/\(l.st≠9->p=peNo)
def Nt.opn(N:Nt):Prop:=N.all opnP
structure Kp (P:Nat->Rt->Prop):Prop where
 tick: ∀{i r},P i r->P i (zcW r)
 send: ∀{i r},P i r-> ∀to t,P i (zcY r to t)
 plug: ∀{i r},P i r-> ∀p up,P i (zak r p up)
 recv: ∀{i r},P i r-> ∀p s,P i (zay r p s)
 out: ∀{i r},P i r-> ∀p,P i (outR r p)
 inb: ∀{i r},P i r->P i { r with inb:=[] }
 new: ∀(i:Int) ms,1<=i->P (i-1).toNat (newR i ms)
def Nt.al(P:Nat->Rt->Prop)(N:Nt):Prop:= ∀(i:Nat) (r:Rt),N.rs[i]? =some r->P i r
variable {P:Nat->Rt->Prop}
theorem zdz{N:Nt}(h:N.al P)(a:Int){F:Rt->Rt}(hF: ∀r,P (a-1).toNat r->P (a-1).toNat (F r)):(N.onR a F).al P:=fun i r hr=>by
 rw[zjq] at hr
 cases hs:N.rs[i]? with
 |none=>rw[hs] at hr;cases hr
 |some s=>
  rw[hs] at hr
  have hr2:(if (a-1).toNat=i then F s else s)=r:=Option.some.inj hr
  subst hr2
  split
  ·rename_i e
   subst e
   exact hF s (h _ s hs)
  ·exact h i s hs
theorem al_gathC{N:Nt}(K:Kp P)(h:N.al P)(i:Nat):(zhF N i).al P:=by
 have h0:(zc1 N i).al P:=by
  unfold zc1
  split
  ·exact h
  ·exact zdz h _ (fun r hr=>K.out hr _)
 unfold zhF zf3
 split
 ·exact h0
 ·exact zdz h0 _ (fun r hr=>K.out hr _)
theorem zgq{N:Nt}(K:Kp P)(h:N.al P):(zbM N).al P:=by
 have hL:(zbO N).al P:=by
  unfold zbO
  generalize List.range N.cs.length=L
  induction L generalizing N with
  |nil=>exact h
  |cons x L ih=>exact ih (al_gathC K h x)
 unfold zbM
 generalize List.range N.rs.length=L
 generalize zbO N=Q at *
 induction L generalizing Q with
 |nil=>exact hL
 |cons x L ih=>
  refine ih _ (fun i r hr=>?_)
  unfold zdM at hr
  dsimp only at hr
  rw[List.getElem?_modify] at hr
  cases hs:Q.rs[i]? with
  |none=>rw[hs] at hr;cases hr
  |some s=>
   rw[hs] at hr
   have hr2:(if x=i then { s with inb:=[] } else s)=r:=Option.some.inj hr
   subst hr2
   split
   ·exact K.inb (hL i s hs)
   ·exact hL i s hs
theorem znx{N:Nt}(K:Kp P)(h:N.al P)(i:Int):(zc6 N i).al P:=by
 unfold zc6
 split
 ·exact zgq K (zdz h i (fun r hr=>K.tick hr))
 ·exact h
theorem al_send{N:Nt}(K:Kp P)(h:N.al P)(i to:Int)(t:ByteArray):(zgs N i to t).al P:=by
 unfold zgs
 split
 ·exact zgq K (zdz h i (fun r hr=>K.send hr to t))
 ·exact h
theorem zjr{N:Nt}(K:Kp P)(h:N.al P)(i:Int)(up:Bool):(zbI N i up).al P:=by
 unfold zbI
 split
 ·exact h
 ·split
  ·exact h
  ·exact zgq K (zdz (zdz (N:={ N with cs:=_ }) h _ (fun r hr=>K.plug hr _ up)) _ (fun r hr=>K.plug hr _ up))
theorem znq{N:Nt}(K:Kp P)(h:N.al P)(i way many:Int):(ndel N i way many).al P:=by
 unfold ndel
 split
 ·exact h
 ·split
  ·exact h
  ·split
   ·exact zgq K (zdz (N:={ N with cs:=_ }) h _ (fun r hr=>K.recv hr _ _))
   ·exact zgq K (zdz (N:={ N with cs:=_ }) h _ (fun r hr=>K.recv hr _ _))
theorem zfE{α:Type}{f:Nt->α->Nt}(hf: ∀(N:Nt) (x:α),N.al P->(f N x).al P): ∀(l:List α) {N:Nt},N.al P->(l.foldl f N).al P
 |[],N,h=>h
 |x::l,N,h=>zfE hf l (hf N x h)
theorem al_rst{N:Nt}(K:Kp P)(h:N.al P)(i:Int):(nrst N i).al P:=by
 unfold nrst
 split
 ·rename_i hi
  have key: ∀(L:List Nat) (s:Nt×List Nat),s.1.al P->(L.foldl (zcD i) s).1.al P:=by
   intro L
   induction L with
   |nil=>exact fun s hs=>hs
   |cons x L ih=>
    intro s hs
    refine ih _ ?_
    unfold zcD
    split
    ·exact zjr K hs _ _
    ·exact hs
  exact zfE (f:=fun q (k:Nat)=>zbI q k true) (fun N x h=>zjr K h _ _) _ (zdz (key _ (N,[]) h) i (fun r hr=>K.new i _ (zc9.1 hi).1))
 ·exact h
theorem al_round{N:Nt}(K:Kp P)(h:N.al P):(zeZ N).al P:=
 zfE (f:=zh8) (fun N x h=>zfE (f:=fun q (i:Nat)=>ndel (ndel q i 0 2000) i 1 2000) (fun N x h=>znq K (znq K h _ _ _) _ _ _) _ h) _
  (zfE (f:=fun q (i:Nat)=>zc6 q ((i:Int)+1)) (fun N x h=>znx K h _) _ h)
theorem al_act{N:Nt}(K:Kp P)(h:N.al P)(q:Ac):(actN q N).al P:=by
 unfold actN
 repeat' split
 ·exact zjr K h _ _
 ·exact znx K h _
 ·exact znq K h _ _ _
 ·exact al_rst K h _
 ·exact al_send K h _ _ _
 ·exact al_round K h
 ·exact h
theorem al_spo{N:Nt}(h:N.al P)(i way j:Int)(t:UInt8):(nspo N i way j t).al P:=fun x r hr=>h x r (by rw[rs_spo] at hr;exact hr)
theorem al_newN(K:Kp P)(k:Nat)(l:List Ca):(newN k l).al P:=fun i r hr=>by
 unfold newN at hr
 dsimp only at hr
 rw[List.getElem?_map] at hr
 cases hs:(List.range k)[i]? with
 |none=>rw[hs] at hr;cases hr
 |some x=>
  rw[hs] at hr
  obtain rfl:=Option.some.inj hr
  have hx:x=i:=by
   have:=List.getElem?_eq_some_iff.1 hs
   obtain⟨h1,h2⟩:=this
   rw[List.getElem_range] at h2
   exact h2.symm
  subst hx
  have:=K.new ((x:Int)+1) ((newT k l).getD x []) (by omega)
  rw[show ((x:Int)+1-1).toNat=x by omega] at this
  exact this
theorem zgg:Kp fun _ r=>r.opn where
 tick:=fun h=>opn_tick h
 send:=fun h to t=>zmc h to t
 plug:=fun h p up=>opn_plug h p up
 recv:=fun h p s=>opn_recv h p s
 out:=fun h p=>zez h p (fun q hq=>hq)
 inb:=fun h=>znM rfl h
 new:=fun i ms _=>opn_newR i ms
def Pe.god(id:Int)(p:Pe):Prop:=(p.both=true->p.who≠0)/\p.who≠id
def Rt.god(id:Int)(r:Rt):Prop:=id≠0/\r.id=id/\ ∀(j:Nat) (p:Pt),r.ps[j]? =some p->p.p.god id
theorem zg0{id:Int}(h:id≠0):peNo.god id:=⟨fun g=>(by cases g),fun g=>h g.symm⟩
variable {id:Int}
theorem zku{r r':Rt}(e:r'.ps=r.ps)(ei:r'.id=r.id)(h:r.god id):r'.god id:=⟨h.1,ei.trans h.2.1,fun j p hp=>h.2.2 j p (e▸hp)⟩
theorem zcO{r:Rt}(h:r.god id)(i:Nat){f:Pt->Pt}(hf: ∀p:Pt,p.p.god id->(f p).p.god id):(r.onP i f).god id:=⟨h.1,h.2.1,fun j p hp=>by
 obtain⟨q,hq,rfl⟩:=zhi hp
 split
 ·exact hf q (h.2.2 j q hq)
 ·exact h.2.2 j q hq⟩
theorem zeN{r:Rt}{i:Nat}(h:r.god id){now:Pe}(hn:now.god id):(zaU r i now).god id:=by
 have h1:(r.onP i fun p=>{ p with p:=now }).god id:=zcO h i (fun p hp=>hn)
 exact zku (ps_meet r i now) ((zaV r i now).1.trans rfl) h1
theorem ziO{p:Pt}(h:p.p.god id)(k:UInt8)(s:List UInt8):(putP k s p).p.god id:=by
 unfold putP
 split
 ·exact h
 ·exact h
theorem znH{r:Rt}(h:r.god id)(i:Nat)(s:List UInt8):(zbB r i s).god id:=by
 unfold zbB
 split
 ·exact h
 ·split
  ·split
   ·exact h
   ·exact h
  ·split
   ·exact zku rfl rfl (zcO h i (fun p hp=>ziO hp 65 s))
   ·exact h
theorem zkx{r:Rt}(h:r.god id)(m:Mg):(zcu r m).god id:=by
 unfold zcu
 split
 ·exact h
 ·split
  ·exact h
  ·split
   ·exact h
   ·exact zcO h _ (fun p hp=>ziO hp 77 _)
theorem zm0{r:Rt}(h:r.god id)(s:List UInt8):(zb0 r s).god id:=by
 unfold zb0
 split
 ·exact zkx h _
 ·exact h
theorem znG{r:Rt}(h:r.god id)(to:Int)(t:ByteArray):(zcY r to t).god id:=by
 unfold zcY
 split
 ·exact h
 ·exact zkx h _
theorem god_tak1{r:Rt}(h:r.god id)(i:Nat)(k:UInt8)(s:List UInt8):(tak1 r i k s).god id:=by
 unfold tak1
 split
 ·exact zcO h i (fun p hp=>hp)
 ·exact h
theorem god_tak{r:Rt}(h:r.god id)(i:Nat)(k:UInt8)(s:List UInt8):(takR r i k s).god id:=by
 have hx:=god_tak1 h i k s
 have hr:=h.2.1
 unfold takR
 generalize tak1 r i k s=q at *
 split
 ·exact zeN hx (zg0 h.1)
 ·split
  ·split
   ·rename_i he
    refine zeN hx ?_
    unfold zcr
    split
    ·exact zg0 h.1
    ·rename_i hne
     refine⟨fun _=>?_,fun e=>hne (by rw[hr];exact e)⟩
     show hpA (tx s)≠0
     unfold hpE zcq zgV at he
     unfold hpA zcq zgV
     split at he
     ·rename_i hg
      rw[if_pos hg]
      simp only[Bool.and_eq_true,decide_eq_true_eq] at hg
      omega
     ·cases he
   ·exact hx
  ·split
   ·exact znH hx i s
   ·split
    ·exact zku (zht _ _ _) (by unfold zcH;split<;>rfl) hx
    ·split
     ·exact zm0 hx s
     ·exact hx
theorem god_recv{r:Rt}(h:r.god id)(i:Nat)(s:List UInt8):(zay r i s).god id:=by
 unfold zay
 have h1:(r.onP i fun p=>{ p with rd:=(za2 p.rd s).1,rest:=(zcA (p.rest++s)).2.2 }).god id:=zcO h i (fun p hp=>hp)
 generalize (za2 (r.pt i).rd s).2.1=T
 generalize (r.onP i fun p=>{ p with rd:=(za2 p.rd s).1,rest:=(zcA (p.rest++s)).2.2 })=q at *
 induction T generalizing q with
 |nil=>exact h1
 |cons t T ih=>
  refine ih _ ?_
  unfold takT
  split
  ·exact h1
  ·exact god_tak h1 _ _ _
theorem znn{p:Pe}(h:p.god id)(h0:id≠0):(zam p).god id:=by
 unfold zam
 split
 ·exact zg0 h0
 ·exact h
theorem god_pt{r:Rt}(h:r.god id)(i:Nat):(r.pt i).p.god id:=by
 unfold Rt.pt
 rw[List.getD_eq_getElem?_getD]
 cases hp:r.ps[i]? with
 |none=>exact zg0 h.1
 |some p=>exact h.2.2 i p hp
theorem zm6{r:Rt}(h:r.god id)(i:Nat):(zbT r i).god id:=by
 have hx:(zaz r i).god id:=zcO h i (fun p hp=>hp)
 unfold zbT
 generalize zaz r i=q at *
 split
 ·exact zeN hx (zg0 h.1)
 ·have hm:(zaU q i (zam (q.pt i).p)).god id:=zeN hx (znn (god_pt hx i) h.1)
  have h2:((zaU q i (zam (q.pt i).p)).onP i (zaP r.id)).god id:=zcO hm i (fun p hp=>by
   unfold zaP
   split
   ·exact ziO hp _ _
   ·exact hp)
  generalize (owdB _ _)=L
  generalize (Rt.onP _ i (zaP r.id))=z at *
  induction L generalizing z with
  |nil=>exact h2
  |cons x L ih=>
   refine ih _ (zcO h2 i (fun p hp=>?_))
   unfold zaT
   split
   ·exact ziO hp _ _
   ·exact hp
theorem god_tick{r:Rt}(h:r.god id):(zcW r).god id:=by
 unfold zcW
 generalize List.range r.ps.length=L
 induction L generalizing r with
 |nil=>exact h
 |cons i L ih=>exact ih (zm6 h i)
theorem god_plug{r:Rt}(h:r.god id)(i:Nat)(up:Bool):(zak r i up).god id:=by
 unfold zak
 split
 ·exact h
 ·exact zeN (zcO (f:=fun p=>zb2 { p with l:=doL p.l (if up then 0 else 1),rd:=rd0,rest:=[] }) h i (fun p hp=>hp)) (zg0 h.1)
theorem god_newR(id:Int)(ms:List Int)(h0:id≠0):(newR id ms).god id:=by
 have key: ∀(ms:List Int) (i:Int),∀p∈zjb id i ms,p.p.god id:=by
  intro ms
  induction ms with
  |nil=>intro i p hp;cases hp
  |cons m ms ih=>
   intro i p hp
   rcases List.mem_cons.1 hp with rfl|hp
   ·exact zg0 h0
   ·exact ih _ p hp
 exact⟨h0,rfl,fun j p hp=>key ms 0 p (getq (l:=(zjb id 0 ms)) hp)⟩
theorem zgw:Kp fun i r=>r.god ((i:Int)+1) where
 tick:=fun h=>god_tick h
 send:=fun h to t=>znG h to t
 plug:=fun h p up=>god_plug h p up
 recv:=fun h p s=>god_recv h p s
 out:=fun h p=>zcO h p (fun q hq=>hq)
 inb:=fun h=>zku rfl rfl h
 new:=fun i ms hi=>by
  rw[show (((i-1).toNat:Nat):Int)+1=i by omega]
  exact god_newR i ms (by omega)
def gateR(i:Nat)(r:Rt):Prop:=r.opn/\r.god ((i:Int)+1)
theorem zoB:Kp gateR where
 tick:=fun h=>⟨zgg.tick (i:=0) h.1,zgw.tick h.2⟩
 send:=fun h to t=>⟨zgg.send (i:=0) h.1 to t,zgw.send h.2 to t⟩
 plug:=fun h p up=>⟨zgg.plug (i:=0) h.1 p up,zgw.plug h.2 p up⟩
 recv:=fun h p s=>⟨zgg.recv (i:=0) h.1 p s,zgw.recv h.2 p s⟩
 out:=fun h p=>⟨zgg.out (i:=0) h.1 p,zgw.out h.2 p⟩
 inb:=fun h=>⟨zgg.inb (i:=0) h.1,zgw.inb h.2⟩
 new:=fun i ms hi=>⟨zgg.new i ms hi,zgw.new i ms hi⟩
theorem gate_pt{i:Nat}{r:Rt}(h:gateR i r){j:Nat}(hj:j<r.ps.length):((r.pt j).p.who≠0->(r.pt j).l.st=9)/\((r.pt j).p.both=true->(r.pt j).p.who≠0)/\(r.pt j).p.who≠(i:Int)+1:=by
 have hp:=List.getElem?_eq_getElem hj
 rw[zgR hp]
 have h1:=h.1 j _ hp
 have h2:=h.2.2.2 j _ hp
 refine⟨fun g=>?_,h2.1,h2.2⟩
 by_cases e:r.ps[j].l.st=9
 ·exact e
 ·rw[h1.2 e] at g
  exact absurd rfl g
noncomputable def actG(q:Ac)(N:Nt):Nt:=if q.k.toList=(⟨#[115,112,111,105,108]⟩:ByteArray).toList then nspo N q.a q.b q.c (u8 q.d) else actN q N
noncomputable def playG(l:List Ca)(k:Nat)(acts:List Ac):Nt:=acts.foldl (fun N q=>actG q N) (newN k l)
theorem inv_actG{k d e:Nat}{N:Nt}(hk:k<=6)(h:N.inv k d e)(q:Ac):(actG q N).inv k (d+432000) (e+230000000):=by
 unfold actG
 split
 ·exact (zoQ h _ _ _ _).up (by omega) (by omega)
 ·exact inv_act hk h q
theorem len_actG{k d e:Nat}{N:Nt}(hk:k<=6)(h:N.inv k d e)(q:Ac):(actG q N).cs.length=N.cs.length:=by
 unfold actG
 split
 ·unfold nspo
  split
  ·rfl
  ·split
   ·rfl
   ·split
    ·rfl
    ·exact List.length_set ..
 ·exact (csm_act hk h (CsE.refl N).csm q).1
theorem zi5{k:Nat}(hk:k<=6){l:List Ca}(hl: ∀c∈l,c.ok k)(hlen:l.length<=9)(acts:List Ac):(playG l k acts).inv k (432000*acts.length) (230000000*acts.length)/\(playG l k acts).cs.length=l.length:=by
 have: ∀(acts:List Ac) {N:Nt} {d e:Nat},N.inv k d e->N.cs.length=l.length->(acts.foldl (fun N q=>actG q N) N).inv k (d+432000*acts.length) (e+230000000*acts.length)/\(acts.foldl (fun N q=>actG q N) N).cs.length=l.length:=by
  intro acts
  induction acts with
  |nil=>exact fun h g=>⟨h,g⟩
  |cons q acts ih=>
   intro N d e h g
   have:=ih (inv_actG hk h q) ((len_actG hk h q).trans g)
   exact⟨this.1.up (by rw[List.length_cons];omega) (by rw[List.length_cons];omega),this.2⟩
 have h:=this acts (zn0 hk hl hlen) (by show (l.map mkCb).length=_;rw[List.length_map])
 exact⟨h.1.up (by omega) (by omega),h.2⟩
theorem zmJ(l:List Ca)(k:Nat)(acts:List Ac):(playG l k acts).al gateR:=
 zfE (f:=fun N q=>actG q N) (fun N q h=>by
  unfold actG
  split
  ·exact al_spo h _ _ _ _
  ·exact al_act zoB h q) acts (al_newN zoB k l)
end Go.Proofs.YtimfnpjcedjmiadGreat
namespace Go.Proofs.YtimfnpjcedjmiadGreat
open Go.RowKit
theorem xnspo{k d e:Nat}{N:Nt}(hk:1<=k/\k<=6)(hN:N.inv k d e)(i way j:Int)(t:UInt8):Fn Tryz.prog 23 [.box 0 0,.v (.int .i64 i),.v (.int .i64 way),.v (.int .i64 j),.v (.int .u8 t.toNat)] [ntO N] (.err (zmO N i way j)) [ntO (nspo N i way j t)]:=
 fn_E hk.1 hN.ok (zoQ hN i way j t).ok (fun v=>spoE hk hN.ok v i way j t) rfl rfl
end Go.Proofs.YtimfnpjcedjmiadGreat
