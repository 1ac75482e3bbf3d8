/- Lemmas. -/
import Derived.Test.YtimfnpjcedjmiadGreatK49
set_option maxRecDepth 100000
set_option maxHeartbeats 64000000
set_option linter.all false
namespace Go.Proofs.YtimfnpjcedjmiadGreat
open Go.RowKit
theorem zl6(k:Int)(l:List Ca)(acts:List Ac):Fn Tryz.prog 6 [.v (.int .i64 k),.sl 5 (l.map zbl) none,.sl 12 (acts.map zcs) none] [] (.v (.bool true)) []:=by
 have hwk:=works_ok
 have hLC:=zhC l
 have hLA:=zi9 acts 40 (by decide)
 by_cases h1:l.length<=12
 ·rw[decide_eq_true h1] at hLC
  by_cases h2:zfT acts 40=true
  ·rw[h2] at hLA
   by_cases h3:zcm k l=0
   ·have hn:=xnnew (k:=k) (l:=l) (by omega) h3
    obtain⟨k1,k2,k3,k4⟩:=zie h3
    have hal:=(zhQ h2).1
    obtain⟨K,rfl⟩: ∃K:Nat,k=(K:Int):=⟨k.toNat,by omega⟩
    rw[Int.toNat_natCast] at hn k4
    refine foL zaA [] [15] Tryz.func6 Tryz.ntmps6 Tryz.results6 ?_
    (all_goals refine fx ?_;repeat' first|exact .intro|refine Tw.mk ?_ ?_|(intro h;first|replace h:=h.o|cases h))
    all_goals ((refine StopCall.fz [] (hwk) ?_;(all_goals refine fx ?_;repeat' first|exact .intro|refine Tw.mk ?_ ?_|(intro h;first|replace h:=h.o|cases h))))
    all_goals ((refine StopCall.fz [] (hLC) ?_;(all_goals refine fx ?_;repeat' first|exact .intro|refine Tw.mk ?_ ?_|(intro h;first|replace h:=h.o|cases h))))
    all_goals ((refine StopCall.fz [] (hLA) ?_;(all_goals refine fx ?_;repeat' first|exact .intro|refine Tw.mk ?_ ?_|(intro h;first|replace h:=h.o|cases h))))
    all_goals ((refine StopCall.fz [] (hn) ?_;(all_goals refine fx ?_;repeat' first|exact .intro|refine Tw.mk ?_ ?_|(intro h;first|replace h:=h.o|cases h))))
    all_goals (try (exfalso;omega))
    have hI: ∀i,(playG l K (acts.take i)).inv K (432000*acts.length) (230000000*acts.length)/\(playG l K (acts.take i)).cs.length=l.length:=fun i=>⟨(zi5 (by omega) k4 k3 (acts.take i)).1.up (Nat.mul_le_mul_left _ (List.length_take_le' ..)) (Nat.mul_le_mul_left _ (List.length_take_le' ..)),(zi5 (by omega) k4 k3 (acts.take i)).2⟩
    have hG: ∀i,(playG l K (acts.take i)).al gateR:=fun i=>zmJ l K _
    clear hn hwk hLC hLA
    refine lpG (fun i:Nat=>⟨[(0,.v (.int .i64 K)),(1,.sl 5 (l.map zbl) none),(2,.sl 12 (acts.map zcs) none),(8,.box 0 0),(10,.v (.int .i64 i))],[ntO (playG l K (acts.take i))]⟩) (fun i=>i<=acts.length) (fun i=>acts.length-i) 0 (by omega) (by (refine zaD [0] ?_;repeat' first|exact .intro|refine Tw.mk ?_ ?_)) ?_
    rintro i hi
    by_cases hi':i<acts.length
    ·have hN:actG acts[i] (playG l K (acts.take i))=playG l K (acts.take (i+1)):=by rw[zaR hi',playG,playG,List.foldl_append];rfl
     have hIn:=hI (i+1)
     have hGn:=hG (i+1)
     have hrow:(acts.map zcs)[i]? =some (zcs acts[i]):=by rw[List.getElem?_map,List.getElem?_eq_getElem hi'];rfl
     have hI0:=(hI i).1
     clear hG hI
     have hact:=act_ok (k:=K) (by omega) (by omega) (by omega) hI0 acts[i]
     have hspo:=xnspo (k:=K) (by omega) hI0 acts[i].a acts[i].b acts[i].c (u8 acts[i].d)
     have hdef:actG acts[i] (playG l K (acts.take i))=if acts[i].k.toList=(⟨#[115,112,111,105,108]⟩:ByteArray).toList then nspo (playG l K (acts.take i)) acts[i].a acts[i].b acts[i].c (u8 acts[i].d) else actN acts[i] (playG l K (acts.take i)):=rfl
     rw[hN] at hdef
     unfold zcs at hact hrow
     rw[<-wrap_u8] at hspo
     generalize hN2:playG l K (acts.take (i+1))=N' at *
     generalize playG l K (acts.take i)=N0 at *
     obtain⟨hIn,hcs⟩:=hIn
     have hib:=inv_eq hIn
     (all_goals refine fx ?_;repeat' first|exact .intro|refine Tw.mk ?_ ?_|(intro h;first|replace h:=h.o|cases h))
     refine cutX (fun v=>⟨[(0,.v (.int .i64 K)),(1,.sl 5 (l.map zbl) none),(2,.sl 12 (acts.map zcs) none),(8,.box 0 0),(10,.v (.int .i64 i))],[ntX N' v]⟩) ?_ (fun hy Z hZ=>?_)
     rotate_left
     ·by_cases hs:acts[i].k.toList=(⟨#[115,112,111,105,108]⟩:ByteArray).toList
      ·rw[if_pos hs] at hdef
       rw[<-hdef] at hspo
       (all_goals refine fx ?_;repeat' first|exact .intro|refine Tw.mk ?_ ?_|(intro h;first|replace h:=h.o|cases h))
       all_goals (try contradiction)
       all_goals ((refine StopCall.fz [0] (hspo) ?_;(all_goals refine fx ?_;repeat' first|exact .intro|refine Tw.mk ?_ ?_|(intro h;first|replace h:=h.o|cases h))))
       all_goals exact Y58
      ·rw[if_neg hs] at hdef
       rw[<-hdef] at hact
       (all_goals refine fx ?_;repeat' first|exact .intro|refine Tw.mk ?_ ?_|(intro h;first|replace h:=h.o|cases h))
       all_goals (try contradiction)
       all_goals ((refine StopCall.fz [0] (hact) ?_;(all_goals refine fx ?_;repeat' first|exact .intro|refine Tw.mk ?_ ?_|(intro h;first|replace h:=h.o|cases h))))
       all_goals exact Y58
     intro v
     clear hact hspo hdef
     (all_goals refine fx ?_;repeat' first|exact .intro|refine Tw.mk ?_ ?_|(intro h;first|replace h:=h.o|cases h))
     refine lpG (fun q:Nat=>⟨[(0,.v (.int .i64 K)),(1,.sl 5 (l.map zbl) none),(2,.sl 12 (acts.map zcs) none),(8,.box 0 0),(10,.v (.int .i64 i)),(11,.v (.int .i64 q))],[ntX N' v]⟩) (fun q=>1<=q/\q<=K+1) (fun q=>K+1-q) 1 (by omega) (by (refine zaD [0] ?_;repeat' first|exact .intro|refine Tw.mk ?_ ?_)) ?_
     rintro q hq
     by_cases hq':q<=K
     ·obtain⟨m,rfl⟩: ∃m,q=m+1:=⟨q-1,by omega⟩
      have hlt:m<N'.rs.length:=by rw[hIn.ok.rs];omega
      have hr:=List.getElem?_eq_getElem hlt
      have hr3:=(hIn.ok.r _ (List.getElem_mem hlt)).p3
      have hgt:=hGn m _ hr
      have hR:=zjF (k:=K) (by omega) hIn v ((m+1:Nat):Int) (by omega)
      rw[show (((m+1:Nat):Int)-1).toNat=m by omega] at hR
      have hL: ∀p:Nat,p<3->_:=fun p hp=>zoW (xrlink hr3 (p:Int) (by omega)) hr hib v rfl rfl
      have hP: ∀p:Nat,p<3->_:=fun p hp=>zoW (xrpeer hr3 (p:Int) (by omega)) hr hib v rfl rfl
      generalize N'.rs[m]=r at *
      (all_goals refine fx ?_;repeat' first|exact .intro|refine Tw.mk ?_ ?_|(intro h;first|replace h:=h.o|cases h))
      all_goals (try (exfalso;omega))
      all_goals ((refine StopCall.fz [0] (hR) ?_;(all_goals refine fx ?_;repeat' first|exact .intro|refine Tw.mk ?_ ?_|(intro h;first|replace h:=h.o|cases h))))
      all_goals (try (exfalso;omega))
      refine lpG (fun p:Nat=>⟨[(0,.v (.int .i64 K)),(1,.sl 5 (l.map zbl) none),(2,.sl 12 (acts.map zcs) none),(8,.box 0 0),(10,.v (.int .i64 i)),(11,.v (.int .i64 (m+1:Nat))),(12,.v (.pointer (some ⟨v m,0,none⟩))),(14,.v (.int .i64 p))],[ntX N' v]⟩) (fun p=>p<=3) (fun p=>3-p) 0 (by omega) (by (refine zaD [0] ?_;repeat' first|exact .intro|refine Tw.mk ?_ ?_)) ?_
      rintro p hp
      by_cases hp':p<3
      ·have hg:=gate_pt hgt (j:=p) (by omega)
       have hl:=hL p hp'
       have hpe:=hP p hp'
       rw[Int.toNat_natCast] at hl hpe
       unfold peRow at hpe
       clear hL hP
       generalize (r.pt p).l.st=st at *
       generalize (r.pt p).p=y at *
       obtain⟨wh,bo,lf⟩:=y
       dsimp only at hg hpe
       obtain⟨g1,g2,g3⟩:=hg
       cases bo with
       |true=>
        replace g2:=g2 rfl
        (all_goals refine fx ?_;repeat' first|exact .intro|refine Tw.mk ?_ ?_|(intro h;first|replace h:=h.o|cases h))
        all_goals exact Y42
       |false=>
        (all_goals refine fx ?_;repeat' first|exact .intro|refine Tw.mk ?_ ?_|(intro h;first|replace h:=h.o|cases h))
        all_goals exact Y42
      ·obtain rfl:p=3:=by omega
       (all_goals refine fx ?_;repeat' first|exact .intro|refine Tw.mk ?_ ?_|(intro h;first|replace h:=h.o|cases h))
       all_goals (try (exfalso;omega))
       all_goals (refine zaS (m+2) (by omega) (by omega) (by (refine zaD [0] ?_;repeat' first|exact .intro|refine Tw.mk ?_ ?_)))
     ·obtain rfl:q=K+1:=by omega
      (all_goals refine fx ?_;repeat' first|exact .intro|refine Tw.mk ?_ ?_|(intro h;first|replace h:=h.o|cases h))
      all_goals (try (exfalso;omega))
      have hon:=xnonX (k:=K) (by omega) hIn v
      refine lpG (fun j:Nat=>⟨[(0,.v (.int .i64 K)),(1,.sl 5 (l.map zbl) none),(2,.sl 12 (acts.map zcs) none),(8,.box 0 0),(10,.v (.int .i64 i)),(19,.v (.int .i64 j))],[ntX N' v]⟩) (fun j=>j<=l.length) (fun j=>l.length-j) 0 (by omega) (by (refine zaD [0] ?_;repeat' first|exact .intro|refine Tw.mk ?_ ?_)) ?_
      rintro j hj
      by_cases hj':j<l.length
      ·have hO: ∀w:Nat,w<2->zdo N' (j:Int) (w:Int)=0/\0<=non N' (j:Int) (w:Int)/\non N' (j:Int) (w:Int)<=2000:=fun w hw=>by
        have hc:=List.getElem?_eq_getElem (l:=N'.cs) (i:=j) (by omega)
        have hco:=hIn.ok.c _ (getq hc)
        have hcb:N'.cb (j:Int)=some N'.cs[j]:=by unfold Nt.cb;rw[if_neg (by omega),Int.toNat_natCast];exact hc
        have c0:=hco.w0
        have c1:=hco.w1
        unfold zdo non
        rw[hcb]
        refine⟨by rw[if_neg (by omega)];rfl,?_,?_⟩<;>dsimp only<;>split<;>(try omega)<;>split<;>omega
       (all_goals refine fx ?_;repeat' first|exact .intro|refine Tw.mk ?_ ?_|(intro h;first|replace h:=h.o|cases h))
       all_goals (try (exfalso;omega))
       refine lpG (fun w:Nat=>⟨[(0,.v (.int .i64 K)),(1,.sl 5 (l.map zbl) none),(2,.sl 12 (acts.map zcs) none),(8,.box 0 0),(10,.v (.int .i64 i)),(19,.v (.int .i64 j)),(20,.v (.int .i64 w))],[ntX N' v]⟩) (fun w=>w<=2) (fun w=>2-w) 0 (by omega) (by (refine zaD [0] ?_;repeat' first|exact .intro|refine Tw.mk ?_ ?_)) ?_
       rintro w hw
       by_cases hw':w<2
       ·have ho:=hon (j:Int) (w:Int)
        obtain⟨o1,o2,o3⟩:=hO w hw'
        rw[o1] at ho
        generalize non N' (j:Int) (w:Int)=x at *
        (all_goals refine fx ?_;repeat' first|exact .intro|refine Tw.mk ?_ ?_|(intro h;first|replace h:=h.o|cases h))
        all_goals (try (exfalso;omega))
        all_goals ((refine StopCall.fz [0] (ho) ?_;(all_goals refine fx ?_;repeat' first|exact .intro|refine Tw.mk ?_ ?_|(intro h;first|replace h:=h.o|cases h))))
        all_goals (try (exfalso;omega))
        all_goals (refine zaS (w+1) (by omega) (by omega) (by (refine zaD [0] ?_;repeat' first|exact .intro|refine Tw.mk ?_ ?_)))
       ·obtain rfl:w=2:=by omega
        (all_goals refine fx ?_;repeat' first|exact .intro|refine Tw.mk ?_ ?_|(intro h;first|replace h:=h.o|cases h))
        all_goals (try (exfalso;omega))
        all_goals (refine zaS (j+1) (by omega) (by omega) (by (refine zaD [0] ?_;repeat' first|exact .intro|refine Tw.mk ?_ ?_)))
      ·obtain rfl:j=l.length:=by omega
       (all_goals refine fx ?_;repeat' first|exact .intro|refine Tw.mk ?_ ?_|(intro h;first|replace h:=h.o|cases h))
       all_goals (try (exfalso;omega))
       all_goals (refine zaS (i+1) (by omega) (by omega) (AS.le_trans (le_ntX 0 rfl hib) (by (refine zaD [0] ?_;repeat' first|exact .intro|refine Tw.mk ?_ ?_);all_goals (rw[hN2]))))
    ·obtain rfl:i=acts.length:=by omega
     (all_goals refine fx ?_;repeat' first|exact .intro|refine Tw.mk ?_ ?_|(intro h;first|replace h:=h.o|cases h))
     all_goals (try (exfalso;omega))
     all_goals exact Y31
   ·have hn:=xnnew_no (k:=k) (l:=l) (by omega) h3
    obtain⟨E,hE⟩: ∃E,zcm k l=E:=⟨_,rfl⟩
    rw[hE] at hn h3
    refine foL zaA [] [] Tryz.func6 Tryz.ntmps6 Tryz.results6 ?_
    (all_goals refine fx ?_;repeat' first|exact .intro|refine Tw.mk ?_ ?_|(intro h;first|replace h:=h.o|cases h))
    all_goals ((refine StopCall.fz [] (hwk) ?_;(all_goals refine fx ?_;repeat' first|exact .intro|refine Tw.mk ?_ ?_|(intro h;first|replace h:=h.o|cases h))))
    all_goals ((refine StopCall.fz [] (hLC) ?_;(all_goals refine fx ?_;repeat' first|exact .intro|refine Tw.mk ?_ ?_|(intro h;first|replace h:=h.o|cases h))))
    all_goals ((refine StopCall.fz [] (hLA) ?_;(all_goals refine fx ?_;repeat' first|exact .intro|refine Tw.mk ?_ ?_|(intro h;first|replace h:=h.o|cases h))))
    all_goals ((refine StopCall.fz [] (hn) ?_;(all_goals refine fx ?_;repeat' first|exact .intro|refine Tw.mk ?_ ?_|(intro h;first|replace h:=h.o|cases h))))
    all_goals (try (exfalso;omega))
    all_goals exact Y31
  ·rw[Bool.not_eq_true] at h2
   rw[h2] at hLA
   refine foL zaA [] [] Tryz.func6 Tryz.ntmps6 Tryz.results6 ?_
   (all_goals refine fx ?_;repeat' first|exact .intro|refine Tw.mk ?_ ?_|(intro h;first|replace h:=h.o|cases h))
   all_goals ((refine StopCall.fz [] (hwk) ?_;(all_goals refine fx ?_;repeat' first|exact .intro|refine Tw.mk ?_ ?_|(intro h;first|replace h:=h.o|cases h))))
   all_goals ((refine StopCall.fz [] (hLC) ?_;(all_goals refine fx ?_;repeat' first|exact .intro|refine Tw.mk ?_ ?_|(intro h;first|replace h:=h.o|cases h))))
   all_goals ((refine StopCall.fz [] (hLA) ?_;(all_goals refine fx ?_;repeat' first|exact .intro|refine Tw.mk ?_ ?_|(intro h;first|replace h:=h.o|cases h))))
   all_goals exact Y31
 ·rw[decide_eq_false h1] at hLC
  refine foL zaA [] [] Tryz.func6 Tryz.ntmps6 Tryz.results6 ?_
  (all_goals refine fx ?_;repeat' first|exact .intro|refine Tw.mk ?_ ?_|(intro h;first|replace h:=h.o|cases h))
  all_goals ((refine StopCall.fz [] (hwk) ?_;(all_goals refine fx ?_;repeat' first|exact .intro|refine Tw.mk ?_ ?_|(intro h;first|replace h:=h.o|cases h))))
  all_goals ((refine StopCall.fz [] (hLC) ?_;(all_goals refine fx ?_;repeat' first|exact .intro|refine Tw.mk ?_ ?_|(intro h;first|replace h:=h.o|cases h))))
  all_goals exact Y31
theorem zjY(W:World)(v0 v1 v2:Value)(i0: ∃n,v0=.int .i64 n/\I64 n)(i1:znF W v1)(i2:GActs W v2):
  Calls Tryz.prog 6 #[v0,v1,v2] W fun e w'=>e=.returned (.bool true)/\Below W.heap.size W w':=by
 obtain⟨k,rfl,_⟩:=i0
 obtain⟨l,_,_,hl⟩:=i1
 obtain⟨acts,_,ha⟩:=i2
 exact fn_law (zl6 k l acts) W [_,_,_] ⟨.v _ _,hl,ha,trivial⟩
end Go.Proofs.YtimfnpjcedjmiadGreat
