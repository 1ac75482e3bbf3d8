/- Lemmas. -/
import Derived.Test.YtimfnpjcedjmiadGreatK48
import Derived.Test.YtimfnpjcedjmiadGreatK49
import Derived.Test.YtimfnpjcedjmiadGreatK46
import Derived.Test.YtimfnpjcedjmiadGreatK47
import Derived.Test.YtimfnpjcedjmiadGreatK34
import Derived.Test.YtimfnpjcedjmiadGreatK35
set_option maxRecDepth 100000
set_option maxHeartbeats 64000000
set_option linter.all false
namespace Go.Proofs.YtimfnpjcedjmiadGreat
open Go.RowKit
section
variable {k d e:Nat} {N:Nt}
theorem xntick(hk:1<=k/\k<=6)(hd:d<=300000000)(he:e<=400000000000)(hN:N.inv k d e)(i:Int):Fn Tryz.prog 30 [.box 0 0,.v (.int .i64 i)] [ntO N] (.err (if N.has i then 0 else 6)) [ntO (zdH N i)]:=
 fn_E hk.1 hN.ok (zd8 hN i).ok (λv=>tickE (n:=0) (by omega) (by omega) hk hN.ok v i) rfl rfl
theorem xnsend(hk:1<=k/\k<=6)(hd:d<=300000000)(he:e<=400000000000)(hN:N.inv k d e)(i to:Int)(t:ByteArray):Fn Tryz.prog 33 [.box 0 0,.v (.int .i64 i),.v (.int .i64 to),.v (.string t)] [ntO N] (.err (if N.has i then zmg to t else 6)) [ntO (zfm N i to t)]:=
 fn_E hk.1 hN.ok (zmU hN i to t).ok (λv=>sendE' (n:=0) (by omega) (by omega) (by omega) hk hN.ok v i to t) rfl rfl
theorem xnplug(hk:1<=k/\k<=6)(he:e<=400000000000)(hN:N.inv k d e)(i:Int)(up:Bool):Fn Tryz.prog 20 [.box 0 0,.v (.int .i64 i),.v (.bool up)] [ntO N] (.err (zff N i up)) [ntO (zbY N i up)]:=
 fn_E hk.1 hN.ok (zby hN i up).ok (λv=>zox (n:=0) (by omega) (by omega) hk hN.ok v i up) rfl rfl
theorem xndel(hk:1<=k/\k<=6)(hd:d<=300000000)(he:e<=400000000000)(hN:N.inv k d e)(i way many:Int):Fn Tryz.prog 31 [.box 0 0,.v (.int .i64 i),.v (.int .i64 way),.v (.int .i64 many)] [ntO N] (.err (zkJ N i way)) [ntO (ndel N i way many)]:=
 fn_E hk.1 hN.ok (zdF hN i way many).ok (λv=>delE (n:=0) (by omega) (by omega) (by omega) hk hN.ok v i way many) rfl rfl
theorem zkF(hk:1<=k/\k<=6)(hd:d<=300000000)(he:e<=400000000000)(hN:N.inv k d e):Fn Tryz.prog 24 [.box 0 0] [ntO N] (.tup []) [ntO (zdt N)]:=
 fn_E hk.1 hN.ok (zeY hN hk.2).ok (λv=>by
  rcases (by omega:k=1\/k=2\/k=3\/k=4\/k=5\/k=6) with h|h|h|h|h|h
  .exact round_1 k d e N v hd he hk hN h
  .exact round_2 k d e N v hd he hk hN h
  .exact round_3 k d e N v hd he hk hN h
  .exact round_4 k d e N v hd he hk hN h
  .exact round_5 k d e N v hd he hk hN h
  .exact round_6 k d e N v hd he hk hN h) rfl rfl
theorem xnrst(hk:1<=k/\k<=6)(hd:d<=300000000)(he:e<=400000000000)(hN:N.inv k d e)(i:Int):Fn Tryz.prog 32 [.box 0 0,.v (.int .i64 i)] [ntO N] (.err (if N.has i then 0 else 6)) [ntO (nrst N i)]:=by
 rcases (by omega:k=1\/k=2\/k=3\/k=4\/k=5\/k=6) with h|h|h|h|h|h
 .exact rst_1 k d e N i (by omega) (by omega) hk hN h
 .exact rst_2 k d e N i (by omega) (by omega) hk hN h
 .exact rst_3 k d e N i (by omega) (by omega) hk hN h
 .exact rst_4 k d e N i (by omega) (by omega) hk hN h
 .exact rst_5 k d e N i (by omega) (by omega) hk hN h
 .exact rst_6 k d e N i (by omega) (by omega) hk hN h
theorem zn4(hk:1<=k/\k<=6)(hN:N.inv k d e)(v:Nat->Nat)(i:Int)(hi:1<=i/\i<=k):Fn Tryz.prog 12 [.box 0 0,.v (.int .i64 i)] [ntX N v] (.tup [.v (.pointer (some ⟨v (i-1).toNat,0,none⟩)),.err 0]) [ntX N v]:=fn_X (zi8 hk hN.ok v i hi) rfl rfl
theorem inv_eq(hN:N.inv k d e):N.rs.length=N.ib.length:=by rw[hN.ok.rs,hN.ok.ib]
theorem xnnew{k:Int}{l:List Ca}(hl:l.length<=1000000)(h:zb5 k l=0):Fn Tryz.prog 10 [.v (.int .i64 k),.sl 5 (l.map zcZ) none] [] (.tup [.box 0 0,.err 0]) [ntO (newN k.toNat l)]:=by
 have ck:=zjd k l hl;rw[h] at ck;obtain⟨h1,h2,h3,h4⟩:=zc4 h;rcases (by omega:k=1\/k=2\/k=3\/k=4\/k=5\/k=6) with rfl|rfl|rfl|rfl|rfl|rfl
 .exact new_1 1 l rfl (by decide) h4 h3 ck
 .exact new_2 2 l rfl (by decide) h4 h3 ck
 .exact new_3 3 l rfl (by decide) h4 h3 ck
 .exact new_4 4 l rfl (by decide) h4 h3 ck
 .exact new_5 5 l rfl (by decide) h4 h3 ck
 .exact new_6 6 l rfl (by decide) h4 h3 ck
theorem xnnew_no{k:Int}{l:List Ca}(hl:l.length<=1000000)(h:zb5 k l≠0):Fn Tryz.prog 10 [.v (.int .i64 k),.sl 5 (l.map zcZ) none] [] (.tup [.v (.pointer none),.err (zb5 k l)]) []:=by
 have ck:=zjd k l hl;obtain⟨E,hE⟩: ∃E,zb5 k l=E:=⟨_,rfl⟩;rw[hE] at ck h ⊢;refine foP zaA (nnewPl) [] [] Tryz.func10 Tryz.ntmps10 Tryz.results10 ?_;(all_goals refine fx ?_;repeat' first|exact .intro|refine Tw.mk ?_ ?_|(intro h;first|replace h:=h.o|cases h))
 all_goals ((refine StopCall.fz [] (ck) ?_;(all_goals refine fx ?_;repeat' first|exact .intro|refine Tw.mk ?_ ?_|(intro h;first|replace h:=h.o|cases h))))
 all_goals (try (exfalso;omega))
 all_goals exact Y24
end
theorem works_ok:Fn Tryz.prog 7 [] [] (.v (.bool true)) []:=by
 have hn:Fn Tryz.prog 10 [.v (.int .i64 2),.sl 5 ([(⟨1,0,2,0,3⟩:Ca)].map zcZ) none] [] (.tup [.box 0 0,.err 0]) [ntO (newN 2 [⟨1,0,2,0,3⟩])]:=xnnew (k:=2) (l:=[⟨1,0,2,0,3⟩]) (by decide) wo_check;have hp:=xnplug (k:=2) (by decide) (by decide) zoL 0 true;rw[wo_plug] at hp;refine foL zaA [] [8] Tryz.func7 Tryz.ntmps7 Tryz.results7 ?_;(all_goals refine fx ?_;repeat' first|exact .intro|refine Tw.mk ?_ ?_|(intro h;first|replace h:=h.o|cases h))
 all_goals ((refine StopCall.fz [] (hn) ?_;(all_goals refine fx ?_;repeat' first|exact .intro|refine Tw.mk ?_ ?_|(intro h;first|replace h:=h.o|cases h))))
 all_goals (try (exfalso;omega))
 all_goals ((refine StopCall.fz [1] (hp) ?_;(all_goals refine fx ?_;repeat' first|exact .intro|refine Tw.mk ?_ ?_|(intro h;first|replace h:=h.o|cases h))))
 all_goals (try (exfalso;omega))
 obtain⟨N6,hN6⟩: ∃N,woN 6=N:=⟨_,rfl⟩;have hsts:=wo_sts;have hid:=wo_id;have hI6:=zpp 6;rw[hN6] at hsts hid hI6;obtain⟨rs,cs,mt,ib⟩:=N6;have l1:=hI6.ok.rs;have l2:=hI6.ok.ib;dsimp only at l1 l2;obtain⟨r0,r1,rfl⟩:=len2 l1;obtain⟨b0,b1,rfl⟩:=len2 l2;have hf:=hI6.ok.r r1 (by simp);have hroute:=zn4 (k:=2) (by decide) hI6;have hhops:=xrhops (r:=r1) hf.p3 hf.f.b;rw[show r1.id=2 from hid,wo_hops (l:=stsB r1.b) hsts] at hhops;have hib:=inv_eq hI6;refine cutX (λv=>⟨[(1,.box 0 0)],[ntX ⟨[r0,r1],cs,mt,[b0,b1]⟩ v]⟩) ?_ (λhy Z hZ=>?_);rotate_left
 .refine lpG (λi:Nat=>⟨[(1,.box 0 0),(3,.v (.int .i64 i))],[ntO (woN i)]⟩) (λi=>i<=6) (λi=>6-i) 0 (by omega) (by (refine zaC [1] ?_;repeat' first|exact .intro|refine Tw.mk ?_ ?_)) ?_;rintro i hi;by_cases hi':i<6
  .have hr:=zkF (k:=2) (by decide) (by omega) (by omega) (zpp i);exact Y46
  .obtain rfl:i=6:=by omega
   rw[hN6];(all_goals refine fx ?_;repeat' first|exact .intro|refine Tw.mk ?_ ?_|(intro h;first|replace h:=h.o|cases h))
   all_goals (try (exfalso;omega))
   all_goals (refine hZ _ (AS.le.to2 (B:=⟨[(1,.box 0 0)],[ntO ⟨[r0,r1],cs,mt,[b0,b1]⟩]⟩) ?_ (to_ntX 0 rfl (Nat.le_succ 1) hib hy)))
   all_goals ((refine zaC [0] ?_;repeat' first|exact .intro|refine Tw.mk ?_ ?_))
 intro v;have hroute:=hroute v 2 (by decide);have hhops:=fn_rtX (N:=⟨[r0,r1],cs,mt,[b0,b1]⟩) (i:=1) hhops rfl hib v rfl rfl;(all_goals refine fx ?_;repeat' first|exact .intro|refine Tw.mk ?_ ?_|(intro h;first|replace h:=h.o|cases h))
 all_goals ((refine StopCall.fz [0] (hroute) ?_;(all_goals refine fx ?_;repeat' first|exact .intro|refine Tw.mk ?_ ?_|(intro h;first|replace h:=h.o|cases h))))
 all_goals ((refine StopCall.fz [0] (hhops) ?_;(all_goals refine fx ?_;repeat' first|exact .intro|refine Tw.mk ?_ ?_|(intro h;first|replace h:=h.o|cases h))))
 all_goals (have hsame:=zk5 [(1,3,1)] [(1,3,1)] (by decide))
 all_goals ((refine StopCall.fz [] (hsame) ?_;(all_goals refine fx ?_;repeat' first|exact .intro|refine Tw.mk ?_ ?_|(intro h;first|replace h:=h.o|cases h))))
 all_goals exact Y24
noncomputable def actN(q:Ac)(N:Nt):Nt:=
 if q.k.toList=(⟨#[112,108,117,103]⟩:ByteArray).toList then zbY N q.a (q.b==1)
 else if q.k.toList=(⟨#[116,105,99,107]⟩:ByteArray).toList then zdH N q.a
 else if q.k.toList=(⟨#[100,101,108,105,118,101,114]⟩:ByteArray).toList then ndel N q.a q.b q.c
 else if q.k.toList=(⟨#[114,101,115,116,97,114,116]⟩:ByteArray).toList then nrst N q.a
 else if q.k.toList=(⟨#[115,101,110,100]⟩:ByteArray).toList then zfm N q.a q.b q.s
 else if q.k.toList=(⟨#[114,111,117,110,100]⟩:ByteArray).toList then zdt N
 else N
theorem zob{k d e:Nat}{N:Nt}(hk:k<=6)(h:N.inv k d e)(q:Ac):(actN q N).inv k (d+432000) (e+230000000):=by
 unfold actN;repeat' split
 .exact (zby h _ _).up (by omega) (by omega)
 .exact (zd8 h _).up (by omega) (by omega)
 .exact (zdF h _ _ _).up (by omega) (by omega)
 .exact (inv_rst h hk _).up (by omega) (by omega)
 .exact (zmU h _ _ _).up (by omega) (by omega)
 .exact zeY h hk
 .exact h.up (by omega) (by omega)
theorem act_ok{k d e:Nat}{N:Nt}(hk:1<=k/\k<=6)(hd:d<=300000000)(he:e<=400000000000)(hN:N.inv k d e)(q:Ac):Fn Tryz.prog 11 [.box 0 0,.agg (zdA q)] [ntO N] (.tup []) [ntO (actN q N)]:=by
 have h1:=xnplug hk he hN q.a (q.b==1);have h2:=xntick hk hd he hN q.a;have h3:=xndel hk hd he hN q.a q.b q.c;have h4:=xnrst hk hd he hN q.a;have h5:=xnsend hk hd he hN q.a q.b q.s;have h6:=zkF hk hd he hN;unfold actN zdA;obtain⟨kd,a,b,c,dd,s,p,x⟩:=q;dsimp only at h1 h2 h3 h4 h5 h6 ⊢;by_cases e1:kd.toList=(⟨#[112,108,117,103]⟩:ByteArray).toList
 .rw[if_pos e1];refine foL zaA [] [] Tryz.func11 Tryz.ntmps11 Tryz.results11 ?_;(all_goals refine fx ?_;repeat' first|exact .intro|refine Tw.mk ?_ ?_|(intro h;first|replace h:=h.o|cases h))
  all_goals (try (exfalso;simp_all;done))
  all_goals ((refine StopCall.fz [0] (h1) ?_;(all_goals refine fx ?_;repeat' first|exact .intro|refine Tw.mk ?_ ?_|(intro h;first|replace h:=h.o|cases h))))
  all_goals exact Y20
 by_cases e2:kd.toList=(⟨#[116,105,99,107]⟩:ByteArray).toList
 .rw[if_neg e1,if_pos e2];refine foL zaA [] [] Tryz.func11 Tryz.ntmps11 Tryz.results11 ?_;(all_goals refine fx ?_;repeat' first|exact .intro|refine Tw.mk ?_ ?_|(intro h;first|replace h:=h.o|cases h))
  all_goals (try (exfalso;simp_all;done))
  all_goals ((refine StopCall.fz [0] (h2) ?_;(all_goals refine fx ?_;repeat' first|exact .intro|refine Tw.mk ?_ ?_|(intro h;first|replace h:=h.o|cases h))))
  all_goals exact Y20
 by_cases e3:kd.toList=(⟨#[100,101,108,105,118,101,114]⟩:ByteArray).toList
 .rw[if_neg e1,if_neg e2,if_pos e3];refine foL zaA [] [] Tryz.func11 Tryz.ntmps11 Tryz.results11 ?_;(all_goals refine fx ?_;repeat' first|exact .intro|refine Tw.mk ?_ ?_|(intro h;first|replace h:=h.o|cases h))
  all_goals (try (exfalso;simp_all;done))
  all_goals ((refine StopCall.fz [0] (h3) ?_;(all_goals refine fx ?_;repeat' first|exact .intro|refine Tw.mk ?_ ?_|(intro h;first|replace h:=h.o|cases h))))
  all_goals exact Y20
 by_cases e4:kd.toList=(⟨#[114,101,115,116,97,114,116]⟩:ByteArray).toList
 .rw[if_neg e1,if_neg e2,if_neg e3,if_pos e4];refine foL zaA [] [] Tryz.func11 Tryz.ntmps11 Tryz.results11 ?_;(all_goals refine fx ?_;repeat' first|exact .intro|refine Tw.mk ?_ ?_|(intro h;first|replace h:=h.o|cases h))
  all_goals (try (exfalso;simp_all;done))
  all_goals ((refine StopCall.fz [0] (h4) ?_;(all_goals refine fx ?_;repeat' first|exact .intro|refine Tw.mk ?_ ?_|(intro h;first|replace h:=h.o|cases h))))
  all_goals exact Y20
 by_cases e5:kd.toList=(⟨#[115,101,110,100]⟩:ByteArray).toList
 .rw[if_neg e1,if_neg e2,if_neg e3,if_neg e4,if_pos e5];refine foL zaA [] [] Tryz.func11 Tryz.ntmps11 Tryz.results11 ?_;(all_goals refine fx ?_;repeat' first|exact .intro|refine Tw.mk ?_ ?_|(intro h;first|replace h:=h.o|cases h))
  all_goals (try (exfalso;simp_all;done))
  all_goals ((refine StopCall.fz [0] (h5) ?_;(all_goals refine fx ?_;repeat' first|exact .intro|refine Tw.mk ?_ ?_|(intro h;first|replace h:=h.o|cases h))))
  all_goals exact Y20
 by_cases e6:kd.toList=(⟨#[114,111,117,110,100]⟩:ByteArray).toList
 .rw[if_neg e1,if_neg e2,if_neg e3,if_neg e4,if_neg e5,if_pos e6];refine foL zaA [] [] Tryz.func11 Tryz.ntmps11 Tryz.results11 ?_;(all_goals refine fx ?_;repeat' first|exact .intro|refine Tw.mk ?_ ?_|(intro h;first|replace h:=h.o|cases h))
  all_goals (try (exfalso;simp_all;done))
  all_goals ((refine StopCall.fz [0] (h6) ?_;(all_goals refine fx ?_;repeat' first|exact .intro|refine Tw.mk ?_ ?_|(intro h;first|replace h:=h.o|cases h))))
  all_goals exact Y20
 rw[if_neg e1,if_neg e2,if_neg e3,if_neg e4,if_neg e5,if_neg e6];refine foL zaA [] [] Tryz.func11 Tryz.ntmps11 Tryz.results11 ?_;(all_goals refine fx ?_;repeat' first|exact .intro|refine Tw.mk ?_ ?_|(intro h;first|replace h:=h.o|cases h))
 all_goals (try (exfalso;simp_all;done))
 all_goals exact Y20
noncomputable def zbP(N:Nt):Nat->Nt
 |0=>N
 |n+1=>zdt (zbP N n)
theorem zcd{k d e:Nat}{N:Nt}(hk:k<=6)(h:N.inv k d e): ∀n,(zbP N n).inv k (d+432000*n) (e+230000000*n)
 |0=>h
 |n+1=>(zeY (zcd hk h n) hk).up (by omega) (by omega)
theorem zoE{k d e:Nat}{N:Nt}(hk:1<=k/\k<=6)(hd:d<=200000000)(he:e<=300000000000)(hN:N.inv k d e):Fn Tryz.prog 17 [.box 0 0] [ntO N] (.tup []) [ntO (zbP N 45)]:=by
 refine foL zaA [] [] Tryz.func17 Tryz.ntmps17 Tryz.results17 ?_;(all_goals refine fx ?_;repeat' first|exact .intro|refine Tw.mk ?_ ?_|(intro h;first|replace h:=h.o|cases h))
 refine lpG (λi:Nat=>⟨[(0,.box 0 0),(2,.v (.int .i64 i))],[ntO (zbP N i)]⟩) (λi=>i<=45) (λi=>45-i) 0 (by omega) (by (refine zaC [0] ?_;repeat' first|exact .intro|refine Tw.mk ?_ ?_)) ?_;rintro i hi;by_cases hi':i<45
 .have hr:=zkF (d:=d+432000*i) (e:=e+230000000*i) hk (by omega) (by omega) (zcd hk.2 hN i);exact Y46
 .obtain rfl:i=45:=by omega
  (all_goals refine fx ?_;repeat' first|exact .intro|refine Tw.mk ?_ ?_|(intro h;first|replace h:=h.o|cases h))
  all_goals (try (exfalso;omega))
  all_goals exact Y20
def boRow(b:Bool):List AV:=[.v (.bool b)]
noncomputable def playN(l:List Ca)(k:Nat)(acts:List Ac):Nt:=acts.foldl (λN q=>actN q N) (newN k l)
def inA(n:Nat)(I:List Bool)(q:Ac):List Bool:=if q.k.toList=(⟨#[112,108,117,103]⟩:ByteArray).toList/\0<=q.a/\q.a<n then I.set q.a.toNat (q.b==1) else I
def playI(n:Nat)(acts:List Ac):List Bool:=acts.foldl (inA n) (List.replicate n false)
theorem zpB(n:Nat)(acts:List Ac):(playI n acts).length=n:=by
 have: ∀(acts:List Ac) (I:List Bool),(acts.foldl (inA n) I).length=I.length:=by
  intro acts
  induction acts with
  |nil=>exact λ_=>rfl
  |cons q acts ih=>intro I;rw[List.foldl_cons,ih];unfold inA;split;exact List.length_set ..; rfl
 rw[playI,this,List.length_replicate]
theorem ziN{k:Nat}(hk:k<=6){l:List Ca}(hl: ∀c∈l,c.ok k)(hlen:l.length<=9)(acts:List Ac):(playN l k acts).inv k (432000*acts.length) (230000000*acts.length):=by
 have: ∀(acts:List Ac) {N:Nt} {d e:Nat},N.inv k d e->(acts.foldl (λN q=>actN q N) N).inv k (d+432000*acts.length) (e+230000000*acts.length):=by
  intro acts
  induction acts with
  |nil=>exact λh=>h
  |cons q acts ih=>intro N d e h;exact (ih (zob hk h q)).up (by rw[List.length_cons];omega) (by rw[List.length_cons];omega)
 exact (this acts (zkO hk hl hlen)).up (by omega) (by omega)
theorem zdy(l:List Ca):Fn Tryz.prog 8 [.sl 5 (l.map zcZ) none] [] (.v (.bool (decide (l.length<=12)))) []:=by
 refine foA zaA [] [] Tryz.func8 Tryz.ntmps8 Tryz.results8 ?_;(all_goals refine gv ?_;repeat' first|exact .intro|refine Tw.mk ?_ ?_|(intro h;first|replace h:=h.o|cases h))
 all_goals (((try (conv=>whnf));refine StopRet.by [] ?_;repeat' first|exact .intro|refine Tw.mk ?_ ?_))
 all_goals (simp;try omega)
theorem zpq{k:Int}{l:List Ca}{acts:List Ac}(hc:l.length<=12)(ha:zdY acts 40=true)(hk:zb5 k l=0):Fn Tryz.prog 16 [.v (.int .i64 k),.sl 5 (l.map zcZ) none,.sl 12 (acts.map zdA) none] [] (.tup [.box 0 0,.arr 1 0 l.length,.v (.bool true)]) [ntO (playN l k.toNat acts),.arr true 4 1 0 ((playI l.length acts).map boRow)]:=by
 have hLC:=zdy l;rw[decide_eq_true hc] at hLC;have hLA:=zfa acts 40 (by decide);rw[ha] at hLA;have hn:=xnnew (k:=k) (l:=l) (by omega) hk;obtain⟨k1,k2,k3,k4⟩:=zc4 hk;have hal:=(zfX ha).1;obtain⟨K,rfl⟩: ∃K:Nat,k=(K:Int):=⟨k.toNat,by omega⟩;rw[Int.toNat_natCast] at hn k4 ⊢;have hI: ∀i,(playN l K (acts.take i)).inv K (432000*acts.length) (230000000*acts.length):=λi=>(ziN (by omega) k4 k3 (acts.take i)).up (Nat.mul_le_mul_left _ (List.length_take_le' ..)) (Nat.mul_le_mul_left _ (List.length_take_le' ..));refine foP zaA [(12,.op 0 (.op 1 (.op 2 (.op 3 (.op 4 (.op 5 (.op 6 (.op 7 (.op 8 (.op 9 (.op 10 (.op 11 (.op 12 (.op 13 (.done)))))))))))))))] [(59,true)] [] Tryz.func16 Tryz.ntmps16 Tryz.results16 ?_;(all_goals refine fx ?_;repeat' first|exact .intro|refine Tw.mk ?_ ?_|(intro h;first|replace h:=h.o|cases h))
 all_goals ((refine StopCall.fz [] (hLC) ?_;(all_goals refine fx ?_;repeat' first|exact .intro|refine Tw.mk ?_ ?_|(intro h;first|replace h:=h.o|cases h))))
 all_goals ((refine StopCall.fz [] (hLA) ?_;(all_goals refine fx ?_;repeat' first|exact .intro|refine Tw.mk ?_ ?_|(intro h;first|replace h:=h.o|cases h))))
 all_goals ((refine StopCall.fz [] (hn) ?_;(all_goals refine fx ?_;repeat' first|exact .intro|refine Tw.mk ?_ ?_|(intro h;first|replace h:=h.o|cases h))))
 all_goals (try (exfalso;omega))
 .exact Y89
 refine lpG (λi:Nat=>⟨[(1,.sl 5 (l.map zcZ) none),(2,.sl 12 (acts.map zdA) none),(9,.box 0 0),(11,.arr 1 0 l.length),(12,.v (.int .i64 i))],[ntO (playN l K (acts.take i)),.arr true 4 1 0 ((playI l.length (acts.take i)).map boRow)]⟩) (λi=>i<=acts.length) (λi=>acts.length-i) 0 (by omega) (by (refine zaC [0,1] ?_;repeat' first|exact .intro|refine Tw.mk ?_ ?_);all_goals (simp [playI,boRow,Value.cells];done)) ?_;rintro i hi;by_cases hi':i<acts.length
 .have hact:=act_ok (k:=K) (by omega) (by omega) (by omega) (hI i) acts[i];have hT:acts.take (i+1)=acts.take i++[acts[i]]:=zaT hi';have hN:actN acts[i] (playN l K (acts.take i))=playN l K (acts.take (i+1)):=by rw[hT,playN,playN,List.foldl_append];rfl
  have hJ:inA l.length (playI l.length (acts.take i)) acts[i]=playI l.length (acts.take (i+1)):=by rw[hT,playI,playI,List.foldl_append];rfl
  rw[hN] at hact;have hlen:=zpB l.length (acts.take i);unfold zdA at hact;unfold inA at hJ;by_cases hp:acts[i].k.toList=(⟨#[112,108,117,103]⟩:ByteArray).toList/\0<=acts[i].a/\acts[i].a<l.length
  .rw[if_pos hp] at hJ;obtain⟨hp1,hp2,hp3⟩:=hp;have hrow:((playI l.length (acts.take i)).map boRow)[acts[i].a.toNat]? =some (boRow ((playI l.length (acts.take i)).getD acts[i].a.toNat false)):=by
    rw[List.getElem?_map,List.getD_eq_getElem?_getD,List.getElem?_eq_getElem (by omega)];rfl
   (all_goals refine fx ?_;repeat' first|exact .intro|refine Tw.mk ?_ ?_|(intro h;first|replace h:=h.o|cases h))
   all_goals ((refine StopCall.fz [0] (hact) ?_;(all_goals refine fx ?_;repeat' first|exact .intro|refine Tw.mk ?_ ?_|(intro h;first|replace h:=h.o|cases h))))
   all_goals (try (exfalso;omega))
   all_goals (try contradiction)
   all_goals (refine zaU (i+1) (by omega) (by omega) (by (refine zaC [0,1] ?_;repeat' first|exact .intro|refine Tw.mk ?_ ?_);all_goals (rw[<-hJ,List.map_set];rfl)))
  .rw[if_neg hp] at hJ;(all_goals refine fx ?_;repeat' first|exact .intro|refine Tw.mk ?_ ?_|(intro h;first|replace h:=h.o|cases h))
   all_goals ((refine StopCall.fz [0] (hact) ?_;(all_goals refine fx ?_;repeat' first|exact .intro|refine Tw.mk ?_ ?_|(intro h;first|replace h:=h.o|cases h))))
   all_goals (try (exfalso;omega))
   all_goals (try (exact absurd ⟨by assumption,by omega,by omega⟩ hp))
   all_goals (refine zaU (i+1) (by omega) (by omega) (by (refine zaC [0,1] ?_;repeat' first|exact .intro|refine Tw.mk ?_ ?_);all_goals (rw[<-hJ])))
 .obtain rfl:i=acts.length:=by omega
  rw[List.take_length];(all_goals refine fx ?_;repeat' first|exact .intro|refine Tw.mk ?_ ?_|(intro h;first|replace h:=h.o|cases h))
  all_goals (try (exfalso;omega))
  all_goals (((try (conv=>whnf));refine⟨_,AS.le_refl _ _,?_⟩;((try (conv=>whnf));refine StopRet.by [0,1] ?_;repeat' first|exact .intro|refine Tw.mk ?_ ?_)))
theorem zol{k:Int}{l:List Ca}{acts:List Ac}(hno: ¬(l.length<=12/\zdY acts 40=true/\zb5 k l=0)):Fn Tryz.prog 16 [.v (.int .i64 k),.sl 5 (l.map zcZ) none,.sl 12 (acts.map zdA) none] [] (.tup [.v (.pointer none),.v (.slice none 0 0),.v (.bool false)]) []:=by
 have hLC:=zdy l;have hLA:=zfa acts 40 (by decide);refine foP zaA [(12,.op 0 (.op 1 (.op 2 (.op 3 (.op 4 (.op 5 (.op 6 (.op 7 (.op 8 (.op 9 (.op 10 (.op 11 (.op 12 (.op 13 (.done)))))))))))))))] [(59,true)] [] Tryz.func16 Tryz.ntmps16 Tryz.results16 ?_;by_cases h1:l.length<=12
 .rw[decide_eq_true h1] at hLC;by_cases h2:zdY acts 40=true
  .rw[h2] at hLA;have h3:zb5 k l≠0:=λh=>hno ⟨h1,h2,h⟩;have hn:=xnnew_no (k:=k) (l:=l) (by omega) h3;obtain⟨E,hE⟩: ∃E,zb5 k l=E:=⟨_,rfl⟩;rw[hE] at hn h3;(all_goals refine fx ?_;repeat' first|exact .intro|refine Tw.mk ?_ ?_|(intro h;first|replace h:=h.o|cases h))
   all_goals ((refine StopCall.fz [] (hLC) ?_;(all_goals refine fx ?_;repeat' first|exact .intro|refine Tw.mk ?_ ?_|(intro h;first|replace h:=h.o|cases h))))
   all_goals ((refine StopCall.fz [] (hLA) ?_;(all_goals refine fx ?_;repeat' first|exact .intro|refine Tw.mk ?_ ?_|(intro h;first|replace h:=h.o|cases h))))
   all_goals ((refine StopCall.fz [] (hn) ?_;(all_goals refine fx ?_;repeat' first|exact .intro|refine Tw.mk ?_ ?_|(intro h;first|replace h:=h.o|cases h))))
   all_goals (try (exfalso;omega))
   all_goals exact Y24
  .rw[Bool.not_eq_true] at h2;rw[h2] at hLA;(all_goals refine fx ?_;repeat' first|exact .intro|refine Tw.mk ?_ ?_|(intro h;first|replace h:=h.o|cases h))
   all_goals ((refine StopCall.fz [] (hLC) ?_;(all_goals refine fx ?_;repeat' first|exact .intro|refine Tw.mk ?_ ?_|(intro h;first|replace h:=h.o|cases h))))
   all_goals ((refine StopCall.fz [] (hLA) ?_;(all_goals refine fx ?_;repeat' first|exact .intro|refine Tw.mk ?_ ?_|(intro h;first|replace h:=h.o|cases h))))
   all_goals exact Y24
 .rw[decide_eq_false h1] at hLC;(all_goals refine fx ?_;repeat' first|exact .intro|refine Tw.mk ?_ ?_|(intro h;first|replace h:=h.o|cases h))
  all_goals ((refine StopCall.fz [] (hLC) ?_;(all_goals refine fx ?_;repeat' first|exact .intro|refine Tw.mk ?_ ?_|(intro h;first|replace h:=h.o|cases h))))
  all_goals exact Y24
end Go.Proofs.YtimfnpjcedjmiadGreat
namespace Go.Proofs.YtimfnpjcedjmiadGreat
def zeA(k:Nat)(q:Ac):Bool:=decide (q.k.toList=(⟨#[115,101,110,100]⟩:ByteArray).toList)&&decide (1<=q.a)&&decide (q.a<=k)
section
variable {S:Meas} {J:Nat->List Mg->Nat} {M ct cn:Nat} {N:Nt} {k d e:Nat} {T:List (List Int)}
theorem on_act(hB:InB S J)(hf:Cost S ct cn)(h:On S J M N)(hI:N.inv k d e)(hk:k<=6)(hn:N.num T)(q:Ac){cs:Ac->Nat}(hx: ∀X r,S.Q X r.co->Mv S (cs q) X r (zbw r q.b q.s)):On S J (M+(if zeA k q then cs q else 0)+(6*ct+cn)) (actN q N)/\(actN q N).num T:=by
 generalize hD:(if zeA k q then cs q else 0)=D;have hup: ∀{Q:Nt} {x:Nat},x<=6*ct+cn->On S J (M+x) Q/\Q.num T->On S J (M+D+(6*ct+cn)) Q/\Q.num T:=λhx h=>⟨h.1.up (by omega),h.2⟩;unfold actN;split
 .exact hup (x:=0) (by omega) (zlV hB hf h hI hn _ _)
 .split
  .exact hup (x:=ct) (by omega) (zpo hB hf h hI hn _)
  .split
   .exact hup (x:=0) (by omega) (zpi hB hf h hI hn _ _ _)
   .split
    .exact hup (x:=cn) (by omega) (on_rst hB hf h hI hk hn _)
    .split
     .rename_i hs;by_cases hh:N.has q.a=true
      .have:=on_send hB h hI hn q.a q.b q.s (λ_=>hx);have hi:=zcI.1 hh;rw[hI.ok.rs] at hi;have e1:zeA k q=true:=by
        unfold zeA;rw[decide_eq_true hs,decide_eq_true hi.1,decide_eq_true hi.2];rfl
       rw[e1,if_pos rfl] at hD;exact⟨this.1.up (by omega),this.2⟩
      .have e2:zfm N q.a q.b q.s=N:=by unfold zfm;rw[if_neg hh]
       rw[e2];exact hup (x:=0) (by omega) ⟨h,hn⟩
     .split
      .exact hup (x:=6*ct) (by omega) (zl7 hB hf h hI hk hn)
      .exact hup (x:=0) (by omega) ⟨h,hn⟩
theorem zno(hB:InB S J)(hf:Cost S ct cn){cs:Ac->Nat}(hx: ∀q X r,S.Q X r.co->Mv S (cs q) X r (zbw r q.b q.s))(hk:k<=6): ∀(acts:List Ac) {N:Nt} {d e M:Nat},N.inv k d e->N.num T->On S J M N->On S J (M+(acts.map λq=>if zeA k q then cs q else 0).sum+(6*ct+cn)*acts.length) (acts.foldl (λN q=>actN q N) N)/\(acts.foldl (λN q=>actN q N) N).num T
 |[],N,d,e,M,_,hn,h=>⟨h,hn⟩
 |q::acts,N,d,e,M,hI,hn,h=>by
  obtain⟨a1,a2⟩:=on_act hB hf h hI hk hn q (cs:=cs) (hx q);have:=zno hB hf hx hk acts (zob hk hI q) a2 a1;refine⟨this.1.up ?_,this.2⟩;rw[List.map_cons,List.sum_cons,List.length_cons,Nat.mul_succ];omega
theorem on_play(hB:InB S J)(hf:Cost S ct cn)(hJ: ∀i,J i []=0){cs:Ac->Nat}(hx: ∀q X r,S.Q X r.co->Mv S (cs q) X r (zbw r q.b q.s)){l:List Ca}(hc:zb5 k l=0)(acts:List Ac):On S J (7*cn+(acts.map λq=>if zeA k q then cs q else 0).sum+(6*ct+cn)*acts.length) (playN l k acts)/\(playN l k acts).num (newT k l):=by
 obtain⟨k1,k6,hlen,hl⟩:=zc4 hc;rw[Int.toNat_natCast] at hl;obtain⟨a1,a2⟩:=on_newN hf hJ hc;exact zno hB hf hx (by omega) acts (zkO (by omega) hl hlen) a2 a1
theorem zis(hB:InB S J)(hf:Cost S ct cn)(hk:k<=6)(h:On S J M N)(hI:N.inv k d e)(hn:N.num T): ∀n,On S J (M+6*ct*n) (zbP N n)/\(zbP N n).num T
 |0=>⟨h,hn⟩
 |n+1=>by
  obtain⟨a1,a2⟩:=zis hB hf hk h hI hn n;have:=zl7 hB hf a1 (zcd hk hI n) hk a2;exact⟨this.1.up (by rw[Nat.mul_succ];omega),this.2⟩
end
def mtA(k:Nat)(κ:Int)(t:ByteArray)(q:Ac):Bool:=zeA k q&&(decide (q.b=κ)&&decide (q.s=t))
def cntU(k:Nat)(acts:List Ac)(U:List Bool)(κ:Int)(t:ByteArray):Nat:=(acts.zip U).countP λx=> !x.2&&mtA k κ t x.1
structure OkM (k:Nat) (acts:List Ac) (U:List Bool) (R:List Mg):Prop where
 len:U.length=acts.length
 few: ∀κ t,R.countP (toP κ t)<=cntU k acts U κ t
section
variable {k:Nat} {acts:List Ac} {U:List Bool} {R:List Mg} {m:Mg}
theorem OkM.found(h:OkM k acts U (m::R)): ∃a,∃h1:a<acts.length,∃h2:a<U.length,U[a]=false/\mtA k m.to m.text acts[a]=true:=by
 have:=h.few m.to m.text;rw[List.countP_cons,if_pos (by unfold toP;simp)] at this;have hp:0<cntU k acts U m.to m.text:=by omega
 unfold cntU at hp;obtain⟨x,hx,hc⟩:=List.countP_pos_iff.1 hp;obtain⟨a,ha,rfl⟩:=List.getElem_of_mem hx;rw[List.length_zip] at ha;rw[List.getElem_zip] at hc;simp only[Bool.and_eq_true,Bool.not_eq_true'] at hc;exact⟨a,by omega,by omega,hc.1,hc.2⟩
theorem zip_get(j:Nat):(acts.zip U)[j]? =match acts[j]?, U[j]? with
  |some q,some u=>some (q,u)
  |_,_=>none:=by
 rw[List.zip,List.getElem?_zipWith];cases acts[j]? <;>cases U[j]? <;>rfl
theorem zip_set{a:Nat}(b:Bool):acts.zip (U.set a b)=(acts.zip U).modify a (λx=>(x.1,b)):=by
 refine List.ext_getElem? λj=>?_;rw[List.getElem?_modify,zip_get,zip_get,List.getElem?_set];by_cases e:a=j
 .subst e;by_cases g:a<U.length
  .rw[if_pos rfl,if_pos g,List.getElem?_eq_getElem g];cases acts[a]? with
   |none=>rfl
   |some q=>show some _=some (if a=a then _ else _);rw[if_pos rfl]
  .rw[if_pos rfl,if_neg g,List.getElem?_eq_none (l:=U) (by omega)];cases acts[a]? <;>rfl
 .rw[if_neg e];cases acts[j]? with
  |none=>rfl
  |some q=>
   cases U[j]? with
   |none=>rfl
   |some u=>show some _=some (if a=j then _ else _);rw[if_neg e]
theorem OkM.next(h:OkM k acts U (m::R)){a:Nat}(h1:a<acts.length)(h2:a<U.length)(hu:U[a]=false)(hm:mtA k m.to m.text acts[a]=true):OkM k acts (U.set a true) R:=by
 refine⟨(List.length_set ..).trans h.len,λκ t=>?_⟩;have hf:=h.few κ t;rw[List.countP_cons] at hf;have hz:(acts.zip U)[a]? =some (acts[a],false):=by rw[zip_get,List.getElem?_eq_getElem h1,List.getElem?_eq_getElem h2,hu]
 have hc:=zjL (p:=λx:Ac×Bool=> !x.2&&mtA k κ t x.1) (f:=λx=>(x.1,true)) hz;unfold cntU at hf ⊢;rw[zip_set];simp only[Bool.not_true,Bool.false_and,Bool.not_false,Bool.true_and] at hc;by_cases e:toP κ t m=true
 .rw[if_pos e] at hf;have hκ:m.to=κ/\m.text=t:=by unfold toP at e;simpa using e
  rw[hκ.1,hκ.2] at hm;rw[hm] at hc;simp at hc;omega
 .rw[if_neg e] at hf;have:mtA k κ t acts[a]=false:=by
   cases g:mtA k κ t acts[a] with
   |false=>rfl
   |true=>
    unfold mtA at g hm;simp only[Bool.and_eq_true,decide_eq_true_eq] at g hm;exact absurd (by unfold toP;simp [<-hm.2.1,<-hm.2.2,g.2.1,g.2.2]) e
  rw[this] at hc;simp at hc;omega
theorem zjT{p:Ac->Bool}{f:Ac->Nat}(hf: ∀q,f q=if p q then 1 else 0): ∀l:List Ac,(l.map f).sum=l.countP p
 |[]=>rfl
 |q::l=>by
  rw[List.map_cons,List.sum_cons,List.countP_cons,zjT hf l,hf];omega
theorem zoY(k:Nat)(κ:Int)(t:ByteArray): ∀(acts:List Ac),cntU k acts (List.replicate acts.length false) κ t=acts.countP (mtA k κ t)
 |[]=>rfl
 |q::acts=>by
  have:=zoY k κ t acts;unfold cntU at this ⊢;rw[List.length_cons,List.replicate_succ,List.zip_cons_cons,List.countP_cons,List.countP_cons,this];rfl
end
theorem zpM{S:Meas}{J:Nat->List Mg->Nat}{M:Nat}{N:Nt}(h:On S J M N):sumN N.rs.length (λi=>J i (N.ib.getD i []))<=M:=by
 obtain⟨⟨X,F,U,hn⟩,-⟩:=h;have hs:=hn.sum;unfold Meas.tot at hs;have:=ziK (f:=λi=>J i (N.ib.getD i [])) (g:=S.at J U N) N.rs.length (λi _=>by unfold Meas.at;omega);omega
theorem flat_count{p:Mg->Bool}: ∀(ib:List (List Mg)),ib.flatten.countP p=sumN ib.length (λi=>(ib.getD i []).countP p)
 |[]=>rfl
 |l::ib=>by
  rw[List.flatten_cons,List.countP_append,flat_count ib];unfold sumN;rw[List.length_cons,List.range_succ_eq_map,List.map_cons,List.sum_cons,List.map_map];rfl
theorem zo8{k:Nat}{l:List Ca}(hc:zb5 k l=0)(acts:List Ac)(n:Nat):OkM k acts (List.replicate acts.length false) (zbP (playN l k acts) n).ib.flatten/\ ∀(i:Nat) (b:List Mg),(zbP (playN l k acts) n).ib[i]? =some b-> ∀m∈b,m.to=(i:Int)+1/\0<=m.hops/\m.hops<=8:=by
 obtain⟨k1,k6,hlen,hl⟩:=zc4 hc;rw[Int.toNat_natCast] at hl;have hI:=ziN (k:=k) (by omega) hl hlen acts;have key: ∀(π:Mg->Bool) (ρ:Int->Mg->Bool),Kept π ρ->On (zaf π ρ) (zid ρ) ((acts.map λq=>if zeA k q then (if π ⟨q.b,8,q.s⟩=true then 1 else 0) else 0).sum) (zbP (playN l k acts) n):=λπ ρ hK=>by
  obtain⟨a1,a2⟩:=on_play (S:=zaf π ρ) (J:=zid ρ) zmQ (zj8 hK) (λi=>rfl) (cs:=λq=>if π ⟨q.b,8,q.s⟩=true then 1 else 0) (λq X r _=>zm1 hK q.b q.s) hc acts;have:=zis zmQ (zj8 hK) (by omega) a1 hI a2 n;exact this.1.up (by omega)
 have hI2:=zcd (k:=k) (by omega) hI n;refine⟨⟨List.length_replicate,λκ t=>?_⟩,λi b hb m hm=>?_⟩
 .have h1:=zpM (key (toP κ t) (λ_=>toP κ t) (kept_to κ t));rw[zoY,flat_count,show (zbP (playN l k acts) n).ib.length=(zbP (playN l k acts) n).rs.length by rw[hI2.ok.ib,hI2.ok.rs]];refine Nat.le_trans h1 (Nat.le_of_eq (zjT (λq=>?_) acts));unfold mtA toP;cases zeA k q with
  |false=>rfl
  |true=>rfl
 .have h1:=zpM (key badM badR kept_bad);have e0:(acts.map λq=>if zeA k q then (if badM ⟨q.b,8,q.s⟩=true then 1 else 0) else 0).sum=0:=sum0 (λn hn=>by
   obtain⟨q,_,rfl⟩:=List.mem_map.1 hn;split
   .exact if_neg (λg=>by
     have:badM ⟨q.b,8,q.s⟩=false:=rfl;rw[this] at g;cases g)
   .rfl)
  rw[e0] at h1;have hi:i<(zbP (playN l k acts) n).rs.length:=by
   rw[hI2.ok.rs,<-hI2.ok.ib];exact (List.getElem?_eq_some_iff.1 hb).1
  have h2:=zcX (f:=λi=>zid badR i ((zbP (playN l k acts) n).ib.getD i [])) (g:=λj=>if j=i then 0 else zid badR j ((zbP (playN l k acts) n).ib.getD j [])) (i:=i) (x:=zid badR i ((zbP (playN l k acts) n).ib.getD i [])) (y:=0) _ hi (λj hj hne=>by rw[if_neg hne]) (by rw[if_pos rfl];omega);have h3:zid badR i b=0:=by
   rw[List.getD_eq_getElem?_getD,hb] at h2;change _+zid badR i b<=_ at h2;omega
  unfold zid at h3;rw[List.countP_eq_zero] at h3;have h4:=h3 m hm;unfold badR at h4;simp only[Bool.or_eq_true,decide_eq_true_eq,not_or] at h4;omega
end Go.Proofs.YtimfnpjcedjmiadGreat
