/- Lemmas. -/
import Derived.Test.YtimfnpjcedjmiadGreatK48
import Derived.Test.YtimfnpjcedjmiadGreatK49
import Derived.Test.YtimfnpjcedjmiadGreatK46
import Derived.Test.YtimfnpjcedjmiadGreatK47
import Derived.Test.YtimfnpjcedjmiadGreatK33
import Derived.Test.YtimfnpjcedjmiadGreatK34
set_option maxRecDepth 100000
set_option maxHeartbeats 64000000
set_option linter.all false
namespace Go.Proofs.YtimfnpjcedjmiadGreat
open Go.RowKit
section
variable {k d e:Nat} {N:Nt}
theorem xntick(hk:1<=k/\k<=6)(hd:d<=300000000)(he:e<=400000000000)(hN:N.inv k d e)(i:Int):Fn Tryz.prog 30 [.box 0 0,.v (.int .i64 i)] [ntO N] (.err (if N.has i then 0 else 6)) [ntO (zdZ N i)]:=
 fn_E hk.1 hN.ok (zde hN i).ok (λv=>tickE (n:=0) (by omega) (by omega) hk hN.ok v i) rfl rfl
theorem xnsend(hk:1<=k/\k<=6)(hd:d<=300000000)(he:e<=400000000000)(hN:N.inv k d e)(i to:Int)(t:ByteArray):Fn Tryz.prog 33 [.box 0 0,.v (.int .i64 i),.v (.int .i64 to),.v (.string t)] [ntO N] (.err (if N.has i then zms to t else 6)) [ntO (zfn N i to t)]:=
 fn_E hk.1 hN.ok (zl1 hN i to t).ok (λv=>sendE' (n:=0) (by omega) (by omega) (by omega) hk hN.ok v i to t) rfl rfl
theorem xnplug(hk:1<=k/\k<=6)(he:e<=400000000000)(hN:N.inv k d e)(i:Int)(up:Bool):Fn Tryz.prog 20 [.box 0 0,.v (.int .i64 i),.v (.bool up)] [ntO N] (.err (zf7 N i up)) [ntO (zbS N i up)]:=
 fn_E hk.1 hN.ok (zbx hN i up).ok (λv=>zoy (n:=0) (by omega) (by omega) hk hN.ok v i up) rfl rfl
theorem xndel(hk:1<=k/\k<=6)(hd:d<=300000000)(he:e<=400000000000)(hN:N.inv k d e)(i way many:Int):Fn Tryz.prog 31 [.box 0 0,.v (.int .i64 i),.v (.int .i64 way),.v (.int .i64 many)] [ntO N] (.err (zkv N i way)) [ntO (ndel N i way many)]:=
 fn_E hk.1 hN.ok (zdS hN i way many).ok (λv=>delE (n:=0) (by omega) (by omega) (by omega) hk hN.ok v i way many) rfl rfl
theorem zno(hk:1<=k/\k<=6)(hd:d<=300000000)(he:e<=400000000000)(hN:N.inv k d e):Fn Tryz.prog 24 [.box 0 0] [ntO N] (.tup []) [ntO (zeO N)]:=
 fn_E hk.1 hN.ok (zgp hN hk.2).ok (λv=>by
  rcases (by omega:k=1\/k=2\/k=3\/k=4\/k=5\/k=6) with h|h|h|h|h|h
  .exact round_1 k d e N v hd he hk hN h
  .exact round_2 k d e N v hd he hk hN h
  .exact round_3 k d e N v hd he hk hN h
  .exact round_4 k d e N v hd he hk hN h
  .exact round_5 k d e N v hd he hk hN h
  .exact round_6 k d e N v hd he hk hN h) rfl rfl
theorem xnrst(hk:1<=k/\k<=6)(hd:d<=300000000)(he:e<=400000000000)(hN:N.inv k d e)(i:Int):Fn Tryz.prog 32 [.box 0 0,.v (.int .i64 i)] [ntO N] (.err (if N.has i then 0 else 6)) [ntO (nrst N i)]:=by
 rcases (by omega:k=1\/k=2\/k=3\/k=4\/k=5\/k=6) with h|h|h|h|h|h
 .exact rst_1 k d e N i (by omega) (by omega) hk hN h
 .exact rst_2 k d e N i (by omega) (by omega) hk hN h
 .exact rst_3 k d e N i (by omega) (by omega) hk hN h
 .exact rst_4 k d e N i (by omega) (by omega) hk hN h
 .exact rst_5 k d e N i (by omega) (by omega) hk hN h
 .exact rst_6 k d e N i (by omega) (by omega) hk hN h
theorem zje(hk:1<=k/\k<=6)(hN:N.inv k d e)(v:Nat->Nat)(i:Int)(hi:1<=i/\i<=k):Fn Tryz.prog 12 [.box 0 0,.v (.int .i64 i)] [ntX N v] (.tup [.v (.pointer (some ⟨v (i-1).toNat,0,none⟩)),.err 0]) [ntX N v]:=fn_X (ziI hk hN.ok v i hi) rfl rfl
theorem inv_eq(hN:N.inv k d e):N.rs.length=N.ib.length:=by rw[hN.ok.rs,hN.ok.ib]
theorem xnnew{k:Int}{l:List Ca}(hl:l.length<=1000000)(h:zbv k l=0):Fn Tryz.prog 10 [.v (.int .i64 k),.sl 5 (l.map zcU) none] [] (.tup [.box 0 0,.err 0]) [ntO (newN k.toNat l)]:=by
 have ck:=zkD k l hl;rw[h] at ck;obtain⟨h1,h2,h3,h4⟩:=zem h;rcases (by omega:k=1\/k=2\/k=3\/k=4\/k=5\/k=6) with rfl|rfl|rfl|rfl|rfl|rfl
 .exact new_1 1 l rfl (by decide) h4 h3 ck
 .exact new_2 2 l rfl (by decide) h4 h3 ck
 .exact new_3 3 l rfl (by decide) h4 h3 ck
 .exact new_4 4 l rfl (by decide) h4 h3 ck
 .exact new_5 5 l rfl (by decide) h4 h3 ck
 .exact new_6 6 l rfl (by decide) h4 h3 ck
theorem xnnew_no{k:Int}{l:List Ca}(hl:l.length<=1000000)(h:zbv k l≠0):Fn Tryz.prog 10 [.v (.int .i64 k),.sl 5 (l.map zcU) none] [] (.tup [.v (.pointer none),.err (zbv k l)]) []:=by
 have ck:=zkD k l hl;obtain⟨E,hE⟩: ∃E,zbv k l=E:=⟨_,rfl⟩;rw[hE] at ck h ⊢;refine foP zaA (nnewPl) [] [] Tryz.func10 Tryz.ntmps10 Tryz.results10 ?_;(all_goals refine fx ?_;repeat' first|exact .intro|refine Tw.mk ?_ ?_|(intro h;first|replace h:=h.o|cases h))
 all_goals ((refine StopCall.fz [] (ck) ?_;(all_goals refine fx ?_;repeat' first|exact .intro|refine Tw.mk ?_ ?_|(intro h;first|replace h:=h.o|cases h))))
 all_goals (try (exfalso;omega))
 all_goals exact Y30
end
theorem works_ok:Fn Tryz.prog 7 [] [] (.v (.bool true)) []:=by
 have hn:Fn Tryz.prog 10 [.v (.int .i64 2),.sl 5 ([(⟨1,0,2,0,3⟩:Ca)].map zcU) none] [] (.tup [.box 0 0,.err 0]) [ntO (newN 2 [⟨1,0,2,0,3⟩])]:=xnnew (k:=2) (l:=[⟨1,0,2,0,3⟩]) (by decide) wo_check;have hp:=xnplug (k:=2) (by decide) (by decide) zoP 0 true;rw[wo_plug] at hp;refine foL zaA [] [8] Tryz.func7 Tryz.ntmps7 Tryz.results7 ?_;(all_goals refine fx ?_;repeat' first|exact .intro|refine Tw.mk ?_ ?_|(intro h;first|replace h:=h.o|cases h))
 all_goals ((refine StopCall.fz [] (hn) ?_;(all_goals refine fx ?_;repeat' first|exact .intro|refine Tw.mk ?_ ?_|(intro h;first|replace h:=h.o|cases h))))
 all_goals (try (exfalso;omega))
 all_goals ((refine StopCall.fz [1] (hp) ?_;(all_goals refine fx ?_;repeat' first|exact .intro|refine Tw.mk ?_ ?_|(intro h;first|replace h:=h.o|cases h))))
 all_goals (try (exfalso;omega))
 obtain⟨N6,hN6⟩: ∃N,woN 6=N:=⟨_,rfl⟩;have hsts:=wo_sts;have hid:=wo_id;have hI6:=zoY 6;rw[hN6] at hsts hid hI6;obtain⟨rs,cs,mt,ib⟩:=N6;have l1:=hI6.ok.rs;have l2:=hI6.ok.ib;dsimp only at l1 l2;obtain⟨r0,r1,rfl⟩:=len2 l1;obtain⟨b0,b1,rfl⟩:=len2 l2;have hf:=hI6.ok.r r1 (by simp);have hroute:=zje (k:=2) (by decide) hI6;have hhops:=xrhops (r:=r1) hf.p3 hf.f.b;rw[show r1.id=2 from hid,wo_hops (l:=stsB r1.b) hsts] at hhops;have hib:=inv_eq hI6;refine cutX (λv=>⟨[(1,.box 0 0)],[ntX ⟨[r0,r1],cs,mt,[b0,b1]⟩ v]⟩) ?_ (λhy Z hZ=>?_);rotate_left
 .refine lpG (λi:Nat=>⟨[(1,.box 0 0),(3,.v (.int .i64 i))],[ntO (woN i)]⟩) (λi=>i<=6) (λi=>6-i) 0 (by omega) (by (refine zaC [1] ?_;repeat' first|exact .intro|refine Tw.mk ?_ ?_)) ?_;rintro i hi;by_cases hi':i<6
  .have hr:=zno (k:=2) (by decide) (by omega) (by omega) (zoY i);(all_goals refine fx ?_;repeat' first|exact .intro|refine Tw.mk ?_ ?_|(intro h;first|replace h:=h.o|cases h))
   all_goals (try (exfalso;omega))
   all_goals ((refine StopCall.fz [0] (hr) ?_;(all_goals refine fx ?_;repeat' first|exact .intro|refine Tw.mk ?_ ?_|(intro h;first|replace h:=h.o|cases h))))
   all_goals (refine zaO (i+1) (by omega) (by omega) (by (refine zaC [0] ?_;repeat' first|exact .intro|refine Tw.mk ?_ ?_)))
  .obtain rfl:i=6:=by omega
   rw[hN6];(all_goals refine fx ?_;repeat' first|exact .intro|refine Tw.mk ?_ ?_|(intro h;first|replace h:=h.o|cases h))
   all_goals (try (exfalso;omega))
   all_goals (refine hZ _ (AS.le.to2 (B:=⟨[(1,.box 0 0)],[ntO ⟨[r0,r1],cs,mt,[b0,b1]⟩]⟩) ?_ (to_ntX 0 rfl (Nat.le_succ 1) hib hy)))
   all_goals ((refine zaC [0] ?_;repeat' first|exact .intro|refine Tw.mk ?_ ?_))
 intro v;have hroute:=hroute v 2 (by decide);have hhops:=zpP (N:=⟨[r0,r1],cs,mt,[b0,b1]⟩) (i:=1) hhops rfl hib v rfl rfl;(all_goals refine fx ?_;repeat' first|exact .intro|refine Tw.mk ?_ ?_|(intro h;first|replace h:=h.o|cases h))
 all_goals ((refine StopCall.fz [0] (hroute) ?_;(all_goals refine fx ?_;repeat' first|exact .intro|refine Tw.mk ?_ ?_|(intro h;first|replace h:=h.o|cases h))))
 all_goals ((refine StopCall.fz [0] (hhops) ?_;(all_goals refine fx ?_;repeat' first|exact .intro|refine Tw.mk ?_ ?_|(intro h;first|replace h:=h.o|cases h))))
 all_goals (have hsame:=zkj [(1,3,1)] [(1,3,1)] (by decide))
 all_goals ((refine StopCall.fz [] (hsame) ?_;(all_goals refine fx ?_;repeat' first|exact .intro|refine Tw.mk ?_ ?_|(intro h;first|replace h:=h.o|cases h))))
 all_goals exact Y30
noncomputable def actN(q:Ac)(N:Nt):Nt:=
 if q.k.toList=(⟨#[112,108,117,103]⟩:ByteArray).toList then zbS N q.a (q.b==1)
 else if q.k.toList=(⟨#[116,105,99,107]⟩:ByteArray).toList then zdZ N q.a
 else if q.k.toList=(⟨#[100,101,108,105,118,101,114]⟩:ByteArray).toList then ndel N q.a q.b q.c
 else if q.k.toList=(⟨#[114,101,115,116,97,114,116]⟩:ByteArray).toList then nrst N q.a
 else if q.k.toList=(⟨#[115,101,110,100]⟩:ByteArray).toList then zfn N q.a q.b q.s
 else if q.k.toList=(⟨#[114,111,117,110,100]⟩:ByteArray).toList then zeO N
 else N
theorem zpJ{k d e:Nat}{N:Nt}(hk:k<=6)(h:N.inv k d e)(q:Ac):(actN q N).inv k (d+432000) (e+230000000):=by
 unfold actN;repeat' split
 .exact (zbx h _ _).up (by omega) (by omega)
 .exact (zde h _).up (by omega) (by omega)
 .exact (zdS h _ _ _).up (by omega) (by omega)
 .exact (inv_rst h hk _).up (by omega) (by omega)
 .exact (zl1 h _ _ _).up (by omega) (by omega)
 .exact zgp h hk
 .exact h.up (by omega) (by omega)
theorem act_ok{k d e:Nat}{N:Nt}(hk:1<=k/\k<=6)(hd:d<=300000000)(he:e<=400000000000)(hN:N.inv k d e)(q:Ac):Fn Tryz.prog 11 [.box 0 0,.agg (zcj q)] [ntO N] (.tup []) [ntO (actN q N)]:=by
 have h1:=xnplug hk he hN q.a (q.b==1);have h2:=xntick hk hd he hN q.a;have h3:=xndel hk hd he hN q.a q.b q.c;have h4:=xnrst hk hd he hN q.a;have h5:=xnsend hk hd he hN q.a q.b q.s;have h6:=zno hk hd he hN;unfold actN zcj;obtain⟨kd,a,b,c,dd,s,p,x⟩:=q;dsimp only at h1 h2 h3 h4 h5 h6 ⊢;by_cases e1:kd.toList=(⟨#[112,108,117,103]⟩:ByteArray).toList
 .rw[if_pos e1];refine foL zaA [] [] Tryz.func11 Tryz.ntmps11 Tryz.results11 ?_;(all_goals refine fx ?_;repeat' first|exact .intro|refine Tw.mk ?_ ?_|(intro h;first|replace h:=h.o|cases h))
  all_goals (try (exfalso;simp_all;done))
  all_goals ((refine StopCall.fz [0] (h1) ?_;(all_goals refine fx ?_;repeat' first|exact .intro|refine Tw.mk ?_ ?_|(intro h;first|replace h:=h.o|cases h))))
  all_goals exact Y24
 by_cases e2:kd.toList=(⟨#[116,105,99,107]⟩:ByteArray).toList
 .rw[if_neg e1,if_pos e2];refine foL zaA [] [] Tryz.func11 Tryz.ntmps11 Tryz.results11 ?_;(all_goals refine fx ?_;repeat' first|exact .intro|refine Tw.mk ?_ ?_|(intro h;first|replace h:=h.o|cases h))
  all_goals (try (exfalso;simp_all;done))
  all_goals ((refine StopCall.fz [0] (h2) ?_;(all_goals refine fx ?_;repeat' first|exact .intro|refine Tw.mk ?_ ?_|(intro h;first|replace h:=h.o|cases h))))
  all_goals exact Y24
 by_cases e3:kd.toList=(⟨#[100,101,108,105,118,101,114]⟩:ByteArray).toList
 .rw[if_neg e1,if_neg e2,if_pos e3];refine foL zaA [] [] Tryz.func11 Tryz.ntmps11 Tryz.results11 ?_;(all_goals refine fx ?_;repeat' first|exact .intro|refine Tw.mk ?_ ?_|(intro h;first|replace h:=h.o|cases h))
  all_goals (try (exfalso;simp_all;done))
  all_goals ((refine StopCall.fz [0] (h3) ?_;(all_goals refine fx ?_;repeat' first|exact .intro|refine Tw.mk ?_ ?_|(intro h;first|replace h:=h.o|cases h))))
  all_goals exact Y24
 by_cases e4:kd.toList=(⟨#[114,101,115,116,97,114,116]⟩:ByteArray).toList
 .rw[if_neg e1,if_neg e2,if_neg e3,if_pos e4];refine foL zaA [] [] Tryz.func11 Tryz.ntmps11 Tryz.results11 ?_;(all_goals refine fx ?_;repeat' first|exact .intro|refine Tw.mk ?_ ?_|(intro h;first|replace h:=h.o|cases h))
  all_goals (try (exfalso;simp_all;done))
  all_goals ((refine StopCall.fz [0] (h4) ?_;(all_goals refine fx ?_;repeat' first|exact .intro|refine Tw.mk ?_ ?_|(intro h;first|replace h:=h.o|cases h))))
  all_goals exact Y24
 by_cases e5:kd.toList=(⟨#[115,101,110,100]⟩:ByteArray).toList
 .rw[if_neg e1,if_neg e2,if_neg e3,if_neg e4,if_pos e5];refine foL zaA [] [] Tryz.func11 Tryz.ntmps11 Tryz.results11 ?_;(all_goals refine fx ?_;repeat' first|exact .intro|refine Tw.mk ?_ ?_|(intro h;first|replace h:=h.o|cases h))
  all_goals (try (exfalso;simp_all;done))
  all_goals ((refine StopCall.fz [0] (h5) ?_;(all_goals refine fx ?_;repeat' first|exact .intro|refine Tw.mk ?_ ?_|(intro h;first|replace h:=h.o|cases h))))
  all_goals exact Y24
 by_cases e6:kd.toList=(⟨#[114,111,117,110,100]⟩:ByteArray).toList
 .rw[if_neg e1,if_neg e2,if_neg e3,if_neg e4,if_neg e5,if_pos e6];refine foL zaA [] [] Tryz.func11 Tryz.ntmps11 Tryz.results11 ?_;(all_goals refine fx ?_;repeat' first|exact .intro|refine Tw.mk ?_ ?_|(intro h;first|replace h:=h.o|cases h))
  all_goals (try (exfalso;simp_all;done))
  all_goals ((refine StopCall.fz [0] (h6) ?_;(all_goals refine fx ?_;repeat' first|exact .intro|refine Tw.mk ?_ ?_|(intro h;first|replace h:=h.o|cases h))))
  all_goals exact Y24
 rw[if_neg e1,if_neg e2,if_neg e3,if_neg e4,if_neg e5,if_neg e6];refine foL zaA [] [] Tryz.func11 Tryz.ntmps11 Tryz.results11 ?_;(all_goals refine fx ?_;repeat' first|exact .intro|refine Tw.mk ?_ ?_|(intro h;first|replace h:=h.o|cases h))
 all_goals (try (exfalso;simp_all;done))
 all_goals exact Y24
noncomputable def playN(l:List Ca)(k:Nat)(acts:List Ac):Nt:=acts.foldl (λN q=>actN q N) (newN k l)
theorem inv_play{k:Nat}(hk:k<=6){l:List Ca}(hl: ∀c∈l,c.ok k)(hlen:l.length<=9)(acts:List Ac):(playN l k acts).inv k (432000*acts.length) (230000000*acts.length):=by
 have: ∀(acts:List Ac) {N:Nt} {d e:Nat},N.inv k d e->(acts.foldl (λN q=>actN q N) N).inv k (d+432000*acts.length) (e+230000000*acts.length):=by
  intro acts
  induction acts with
  |nil=>exact λh=>h
  |cons q acts ih=>intro N d e h;exact (ih (zpJ hk h q)).up (by rw[List.length_cons];omega) (by rw[List.length_cons];omega)
 exact (this acts (zkY hk hl hlen)).up (by omega) (by omega)
theorem zhU(l:List Ca):Fn Tryz.prog 8 [.sl 5 (l.map zcU) none] [] (.v (.bool (decide (l.length<=12)))) []:=by
 refine foA zaA [] [] Tryz.func8 Tryz.ntmps8 Tryz.results8 ?_;(all_goals refine gv ?_;repeat' first|exact .intro|refine Tw.mk ?_ ?_|(intro h;first|replace h:=h.o|cases h))
 all_goals (((try (conv=>whnf));refine StopRet.by [] ?_;repeat' first|exact .intro|refine Tw.mk ?_ ?_))
 all_goals (simp;try omega)
end Go.Proofs.YtimfnpjcedjmiadGreat
namespace Go.Proofs.YtimfnpjcedjmiadGreat
def zhD(k:Nat)(q:Ac):Bool:=decide (q.k.toList=(⟨#[115,101,110,100]⟩:ByteArray).toList)&&decide (1<=q.a)&&decide (q.a<=k)
section
variable {S:Meas} {J:Nat->List Mg->Nat} {M ct cn:Nat} {N:Nt} {k d e:Nat} {T:List (List Int)}
theorem on_act(hB:InB S J)(hf:Cost S ct cn)(h:On S J M N)(hI:N.inv k d e)(hk:k<=6)(hn:N.num T)(q:Ac){cs:Ac->Nat}(hx: ∀X r,S.Q X r.co->Mv S (cs q) X r (zcH r q.b q.s)):On S J (M+(if zhD k q then cs q else 0)+(6*ct+cn)) (actN q N)/\(actN q N).num T:=by
 generalize hD:(if zhD k q then cs q else 0)=D;have hup: ∀{Q:Nt} {x:Nat},x<=6*ct+cn->On S J (M+x) Q/\Q.num T->On S J (M+D+(6*ct+cn)) Q/\Q.num T:=λhx h=>⟨h.1.up (by omega),h.2⟩;unfold actN;split
 .exact hup (x:=0) (by omega) (zkg hB hf h hI hn _ _)
 .split
  .exact hup (x:=ct) (by omega) (znc hB hf h hI hn _)
  .split
   .exact hup (x:=0) (by omega) (zo0 hB hf h hI hn _ _ _)
   .split
    .exact hup (x:=cn) (by omega) (on_rst hB hf h hI hk hn _)
    .split
     .rename_i hs;by_cases hh:N.has q.a=true
      .have:=on_send hB h hI hn q.a q.b q.s (λ_=>hx);have hi:=zcG.1 hh;rw[hI.ok.rs] at hi;have e1:zhD k q=true:=by
        unfold zhD;rw[decide_eq_true hs,decide_eq_true hi.1,decide_eq_true hi.2];rfl
       rw[e1,if_pos rfl] at hD;exact⟨this.1.up (by omega),this.2⟩
      .have e2:zfn N q.a q.b q.s=N:=by unfold zfn;rw[if_neg hh]
       rw[e2];exact hup (x:=0) (by omega) ⟨h,hn⟩
     .split
      .exact hup (x:=6*ct) (by omega) (on_round hB hf h hI hk hn)
      .exact hup (x:=0) (by omega) ⟨h,hn⟩
theorem zqF(hB:InB S J)(hf:Cost S ct cn){cs:Ac->Nat}(hx: ∀q X r,S.Q X r.co->Mv S (cs q) X r (zcH r q.b q.s))(hk:k<=6): ∀(acts:List Ac) {N:Nt} {d e M:Nat},N.inv k d e->N.num T->On S J M N->On S J (M+(acts.map λq=>if zhD k q then cs q else 0).sum+(6*ct+cn)*acts.length) (acts.foldl (λN q=>actN q N) N)/\(acts.foldl (λN q=>actN q N) N).num T
 |[],N,d,e,M,_,hn,h=>⟨h,hn⟩
 |q::acts,N,d,e,M,hI,hn,h=>by
  obtain⟨a1,a2⟩:=on_act hB hf h hI hk hn q (cs:=cs) (hx q);have:=zqF hB hf hx hk acts (zpJ hk hI q) a2 a1;refine⟨this.1.up ?_,this.2⟩;rw[List.map_cons,List.sum_cons,List.length_cons,Nat.mul_succ];omega
theorem on_play(hB:InB S J)(hf:Cost S ct cn)(hJ: ∀i,J i []=0){cs:Ac->Nat}(hx: ∀q X r,S.Q X r.co->Mv S (cs q) X r (zcH r q.b q.s)){l:List Ca}(hc:zbv k l=0)(acts:List Ac):On S J (7*cn+(acts.map λq=>if zhD k q then cs q else 0).sum+(6*ct+cn)*acts.length) (playN l k acts)/\(playN l k acts).num (newT k l):=by
 obtain⟨k1,k6,hlen,hl⟩:=zem hc;rw[Int.toNat_natCast] at hl;obtain⟨a1,a2⟩:=on_newN hf hJ hc;exact zqF hB hf hx (by omega) acts (zkY (by omega) hl hlen) a2 a1
end
def lstS(F:Int->Int)(q:Pt):Int->Int:=if q.p.both=true/\(F q.p.who=0\/q.m<F q.p.who) then upI F q.p.who q.m else F
def lstF(r:Rt)(n:Nat):Int->Int:=(List.range n).foldl (λF j=>lstS F (r.pt j)) (λ_=>0)
theorem zjI(n:Int): ∀(ps:List Pt) (F:Int->Int),(ps.foldl lstS F) n=ps.foldl (λa p=>if p.p.both=true/\p.p.who=n/\(a=0\/p.m<a) then p.m else a) (F n)
 |[],F=>rfl
 |p::ps,F=>by
  rw[List.foldl_cons,List.foldl_cons,zjI n ps];congr 1
  unfold lstS;by_cases hw:p.p.who=n
  .subst hw;by_cases hb:p.p.both=true/\(F p.p.who=0\/p.m<F p.p.who)
   .rw[if_pos hb,if_pos ⟨hb.1,rfl,hb.2⟩,zdh]
   .rw[if_neg hb,if_neg (λg=>hb ⟨g.1,g.2.2⟩)]
  .by_cases hb:p.p.both=true/\(F p.p.who=0\/p.m<F p.p.who)
   .rw[if_pos hb,zof (λg=>hw g.symm),if_neg (λg=>hw g.2.1)]
   .rw[if_neg hb,if_neg (λg=>hw g.2.1)]
theorem zo2{r:Rt}(h3:r.ps.length=3)(n:Int):lstF r 3 n=zb0 r.ps n:=by
 obtain⟨id,ps,b,inb,dr⟩:=r;obtain⟨p0,p1,p2,rfl⟩:=len3 h3;exact zjI n [p0,p1,p2] (λ_=>0)
theorem zho(r:Rt)(n:Nat):lstF r (n+1)=lstS (lstF r n) (r.pt n):=by unfold lstF;rw[List.range_succ,List.foldl_append];rfl
def cntF(F:Int->Int):Nat->Nat
 |0=>0
 |n+1=>cntF F n+if 0<F ((n:Int)+1) then 1 else 0
theorem cnt_le(F:Int->Int): ∀n,cntF F n<=n
 |0=>Nat.le_refl _
 |n+1=>by unfold cntF;have:=cnt_le F n;split<;>omega
theorem zon{ps:List Pt}{F:Int->Int}(h: ∀n,F n=zb0 ps n): ∀k,(edgN ps k).length=cntF F k
 |0=>rfl
 |k+1=>by
  unfold edgN cntF;rw[List.length_append,zon h k,h];split<;>rfl
theorem znd{ps:List Pt}{F:Int->Int}(h: ∀n,F n=zb0 ps n): ∀(k:Nat) (e:Int×Int),e∈edgN ps k->1<=e.1/\e.1<=k/\e.2=F e.1
 |0,e,he=>by cases he
 |k+1,e,he=>by
  unfold edgN at he;rcases List.mem_append.1 he with g|g
  .have:=znd h k e g;push_cast;omega
  .split at g
   .rw[List.mem_singleton.1 g];refine⟨by dsimp only;omega,by push_cast;exact Int.le_refl _,?_⟩;rw[h]
   .cases g
def ownS(l:List St3)(n:Int):St3:=(l.find? λs=>s.1==n).getD (0,0,[])
theorem own_is{l:List St3}{n:Int}{s:St3}(hm:s∈l)(h1:s.1=n)(hu: ∀t∈l,t.1=n->t=s):ownS l n=s:=by
 unfold ownS;cases hf:l.find? λs=>s.1==n with
 |none=>exact absurd (List.find?_eq_none.1 hf s hm) (by simp [h1])
 |some t=>
  have h2:=List.find?_some hf;simp only[beq_iff_eq] at h2;exact hu t (List.mem_of_find?_eq_some hf) h2
theorem tell_at{M:Nat}{N:Nt}(h:On za9 (λ_ _=>0) M N)(hM:M<1000000){m:Nat}{r:Rt}(hr:N.rs[m]? =some r):(ownS (stsB r.b) r.id).2.2=za0 r.ps/\(∃s∈stsB r.b,s.1=r.id)/\ ∀j,j<3->(r.pt j).p.both=true->1<=(r.pt j).p.who/\(r.pt j).p.who<=6:=by
 obtain⟨⟨X,F,U,hn⟩,-⟩:=h;have hQ:TQ X r.co:=hn.Q m r hr;have hX:X<1000000:=by have:=hn.sum;omega
 obtain⟨s,hs⟩:=hQ.own;have hk:=hQ.kn _ _ hs;have hid:=hQ.id;have hmem:s∈stsB r.b:=List.mem_filterMap.2 ⟨r.id,by
  change 1<=r.id/\r.id<=6 at hid;generalize r.id=n at hid;rcases (by omega:n=1\/n=2\/n=3\/n=4\/n=5\/n=6) with rfl|rfl|rfl|rfl|rfl|rfl<;>decide,hs⟩
 refine⟨?_,⟨s,hmem,hk.1⟩,λj hj hb=>?_⟩
 .have e:ownS (stsB r.b) r.id=s:=own_is hmem hk.1 (λt ht h1=>by
   obtain⟨n,_,hn⟩:=List.mem_filterMap.1 ht;have:=(hQ.kn n t hn).1;have e:n=r.id:=by rw[<-this,h1]
   subst e;exact Option.some.inj (hn.symm.trans hs))
  rw[e,zhp];exact hQ.ed hX s hs
 .have hl:=zhi hQ;have hp:=List.getElem?_eq_getElem (show j<r.ps.length by omega);rw[zfD hp] at hb ⊢;have:=(hQ.ps _ (List.mem_map.2 ⟨_,getq hp,rfl⟩)).2 hb;exact⟨this.1,this.2.1⟩
theorem znq{k:Nat}{l:List Ca}(hc:zbv k l=0)(acts:List Ac)(ha:acts.length<=40):On za9 (λ_ _=>0) 999999 (playN l k acts)/\(playN l k acts).num (newT k l):=by
 have:=on_play (S:=za9) (J:=λ_ _=>0) inb_tell znY (λ_=>rfl) (cs:=λ_=>0) (λq X r hQ=>by
  unfold zcH;split
  .exact zbi (S:=za9) hQ
  .exact zpp hQ _) hc acts
 refine⟨this.1.up ?_,this.2⟩;have e:((acts.map λq=>if zhD k q then 0 else 0).sum)=0:=sum0 (λn hn=>by
  obtain⟨q,_,rfl⟩:=List.mem_map.1 hn;split<;>rfl)
 rw[e];omega
def row3(t:List Int):List AV:=t.map λx=>.v (.int .i64 x)
def cst0(k i:Nat):List (List Int):=(List.range (k+1)).map λj=>if 1<=j/\j<i then [1,1,1] else [0,0,0]
theorem ze6(k i:Nat):(cst0 k i).length=k+1:=by unfold cst0;simp
theorem zdn{k i j:Nat}(h:j<k+1):(cst0 k i)[j]? =some (if 1<=j/\j<i then [1,1,1] else [0,0,0]):=by unfold cst0;rw[List.getElem?_map,List.getElem?_range h];rfl
theorem cst0_set{k i:Nat}(h1:1<=i)(h:i<k+1):(cst0 k i).set i [1,1,1]=cst0 k (i+1):=by
 refine List.ext_getElem? λj=>?_;rw[List.getElem?_set];by_cases e:i=j
 .subst e;rw[if_pos rfl,if_pos (by rw[ze6];exact h),zdn h,if_pos ⟨h1,by omega⟩]
 .rw[if_neg e];by_cases g:j<k+1
  .rw[zdn g,zdn g];by_cases c:1<=j/\j<i
   .rw[if_pos c,if_pos ⟨c.1,by omega⟩]
   .rw[if_neg c,if_neg (λd=>c ⟨d.1,by omega⟩)]
  .rw[List.getElem?_eq_none (by rw[ze6];omega),List.getElem?_eq_none (by rw[ze6];omega)]
theorem cst0_end(k:Nat):cst0 k (k+1)=[0,0,0]::List.replicate k [1,1,1]:=by
 refine List.ext_getElem? λj=>?_;by_cases g:j<k+1
 .rw[zdn g];cases j with
  |zero=>rfl
  |succ j=>rw[if_pos ⟨by omega,by omega⟩,List.getElem?_cons_succ,List.getElem?_replicate,if_pos (by omega)]
 .rw[List.getElem?_eq_none (by rw[ze6];omega),List.getElem?_eq_none (by rw[List.length_cons,List.length_replicate];omega)]
end Go.Proofs.YtimfnpjcedjmiadGreat
