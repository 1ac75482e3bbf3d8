/- Lemmas. -/
import Derived.Test.YtimfnpjcedjmiadGreatK9
set_option maxRecDepth 100000
set_option maxHeartbeats 64000000
set_option linter.all false
namespace Go.Proofs.YtimfnpjcedjmiadGreat
open Go.RowKit
theorem zlm(l:List St3)(r:Int)(far next:Int->Int)(done:Int->Bool)(m a:Int)(hm1:1<=m)(hm:m<=6)(ha:a=0\/(1<=a/\a<m))(K:AS->Prop)(X:Nat->AS->Prop)(R:AS->Prop)
  (hk:(done m=true\/far m<0\/(a≠0/\far a<=far m))-> ∀A,AS.le 0 A (pickA l r far next done (m+1) a)->K A)
  (ht:done m=false->0<=far m->(a=0\/far m<far a)-> ∀A,AS.le 0 A (pickA l r far next done (m+1) m)->K A):
  vawp Tryz.prog [] 0 [8,11,19] (zdv Tryz.f39 2) K X R (pickA l r far next done m a):=by
 refine or6 (by omega:m=1\/m=2\/m=3\/m=4\/m=5\/m=6) (fun em=>?_) (fun em=>?_) (fun em=>?_) (fun em=>?_) (fun em=>?_) (fun em=>?_)
 all_goals
  refine or6 (by omega:a=0\/a=1\/a=2\/a=3\/a=4\/a=5) (fun ea=>?_) (fun ea=>?_) (fun ea=>?_) (fun ea=>?_) (fun ea=>?_) (fun ea=>?_)
 all_goals (try (exfalso;omega))
 all_goals
  subst em ea
  ((all_goals (try (repeat' (conv=>whnf);(first|with_reducible refine And.intro ?_ ?_|with_reducible exact True.intro|(intro h;(first|cases h|((try simp only[vis,Int.reduceToNat] at h);(try (exfalso;omega)))))|(with_reducible refine Vc.mk ?_;fail)|(with_reducible refine cutG ?_;fail)|refine zaj ?_ ?_|refine za6 ?_ ?_ ?_|(refine StopAt.mk (by decide) (by decide) ?_)))));(all_goals (first|omega|(conv=>whnf)|skip)))
  all_goals (try omega)
  all_goals (try ((with_reducible refine Vc.mk ?_);(try exact GLt)))
  all_goals first
   |(
     refine ht (by assumption) (by assumption) (by omega) _ ?_
     (refine zaD [0,1,2] ?_;repeat' first|exact .intro|refine Tw.mk ?_ ?_))
   |(
     refine hk (by first|(exact .inl (by assumption))|(exact .inr (by omega))) _ ?_
     (refine zaD [0,1,2] ?_;repeat' first|exact .intro|refine Tw.mk ?_ ?_))
def outA(r:Int)(far next:Int->Int)(out:List Hp)(n:Int):AS:=⟨[(1,.v (.int .i64 r)),(5,.box 0 0),(6,.box 1 0),(14,.sl 3 (out.map hRow) (some (2,1))),(15,.v (.int .i64 n))],[.cells (farC far),.cells (farC next),.grow 79 3 1]⟩
theorem zos(r:Int)(far next:Int->Int)(out:List Hp)(hout:out.length<=6)(n:Int)(h1:1<=n)(h6:n<=6)(K:AS->Prop)(X:Nat->AS->Prop)(R:AS->Prop)
  (hk: ∀A,AS.le 0 A (outA r far next (out++(if n≠r/\0<=far n then [(n,far n,next n)] else [])) (n+1))->K A):
  vawp Tryz.prog [] 0 [8,11,19] (zdv Tryz.f39 4) K X R (outA r far next out n):=by
 by_cases hc:n≠r/\0<=far n
 ·rw[if_pos hc] at hk
  refine or6 (by omega:n=1\/n=2\/n=3\/n=4\/n=5\/n=6) (fun en=>?_) (fun en=>?_) (fun en=>?_) (fun en=>?_) (fun en=>?_) (fun en=>?_)
  all_goals
   subst en
   ((all_goals (try (repeat' (conv=>whnf);(first|with_reducible refine And.intro ?_ ?_|with_reducible exact True.intro|(intro h;(first|cases h|((try simp only[vis,Int.reduceToNat] at h);(try (exfalso;omega)))))|(with_reducible refine Vc.mk ?_;fail)|(with_reducible refine cutG ?_;fail)|refine zaj ?_ ?_|refine za6 ?_ ?_ ?_|(refine StopAt.mk (by decide) (by decide) ?_)))));(all_goals (first|omega|(conv=>whnf)|skip)))
   all_goals (try omega)
   all_goals (try ((with_reducible refine Vc.mk ?_);(try exact GLt)))
   all_goals (refine hk _ ?_;(refine zaD [0,1,2] ?_;repeat' first|exact .intro|refine Tw.mk ?_ ?_);all_goals (all_goals (try first|rfl|(simp [hRow,viewR,viewL,AV.view];done))))
 ·rw[if_neg hc] at hk
  refine or6 (by omega:n=1\/n=2\/n=3\/n=4\/n=5\/n=6) (fun en=>?_) (fun en=>?_) (fun en=>?_) (fun en=>?_) (fun en=>?_) (fun en=>?_)
  all_goals
   subst en
   ((all_goals (try (repeat' (conv=>whnf);(first|with_reducible refine And.intro ?_ ?_|with_reducible exact True.intro|(intro h;(first|cases h|((try simp only[vis,Int.reduceToNat] at h);(try (exfalso;omega)))))|(with_reducible refine Vc.mk ?_;fail)|(with_reducible refine cutG ?_;fail)|refine zaj ?_ ?_|refine za6 ?_ ?_ ?_|(refine StopAt.mk (by decide) (by decide) ?_)))));(all_goals (first|omega|(conv=>whnf)|skip)))
   all_goals (try omega)
   all_goals (try ((with_reducible refine Vc.mk ?_);(try exact GLt)))
   all_goals (refine hk _ ?_;(refine zaD [0,1,2] ?_;repeat' first|exact .intro|refine Tw.mk ?_ ?_);all_goals (all_goals (try first|rfl|(simp;done))))
end Go.Proofs.YtimfnpjcedjmiadGreat
namespace Go.Proofs.YtimfnpjcedjmiadGreat
open Go.RowKit Go.ChangeShapes Go.WideShapes Go.ChangeAt Go.Deep
structure caIn (c:Ca):Prop where
 a:I64 c.a
 pa:I64 c.pa
 b:I64 c.b
 pb:I64 c.pb
 m:I64 c.m
def zkw(c:Ca):List Value:=[.int .i64 c.a,.int .i64 c.pa,.int .i64 c.b,.int .i64 c.pb,.int .i64 c.m]
def znF(w:World)(v:Value):Prop:= ∃l:List Ca,l.length<=maxLen/\(∀c∈l,caIn c)/\RepV (allS w) noG (.sl 5 (l.map zbl) none) v
theorem c_cable{H:Type}{enc:TypeId×Value->H}{w:World}{spare:Nat->Bool}{held:Bool}{fuel:Nat}{cs:List Value}{x:DataW H×List MemPlace}(hx:DataW.trod enc Tryz.prog w 0 spare held fuel 35 cs=some x):
  ∃c:Ca,cs=zkw c/\caIn c:=by
 obtain⟨xs,n,_,_,hl,hlen,hf⟩:=DataW.trod_struct Tryz.underlying35 hx
 have hc:Tryz.prog.cellsOf 35=5:=by kernel_rfl
 have ci:Tryz.prog.cellsOf 3=1:=by kernel_rfl
 rw[hc] at hl
 have h0:=hf 0 _ rfl
 have h1:=hf 1 _ rfl
 have h2:=hf 2 _ rfl
 have h3:=hf 3 _ rfl
 have h4:=hf 4 _ rfl
 clear hf
 match cs,hl,xs,hlen with
 |[v0,v1,v2,v3,v4],_,[y0,y1,y2,y3,y4],_=>
  simp only[ci,List.getElem?_cons_zero,List.getElem?_cons_succ,List.drop_zero,List.drop_succ_cons,List.take_succ_cons,List.take_zero] at h0 h1 h2 h3 h4
  obtain⟨a,e0,_,w0⟩:=DataW.trod_int Tryz.underlying3 h0
  obtain⟨b,e1,_,w1⟩:=DataW.trod_int Tryz.underlying3 h1
  obtain⟨c,e2,_,w2⟩:=DataW.trod_int Tryz.underlying3 h2
  obtain⟨d,e3,_,w3⟩:=DataW.trod_int Tryz.underlying3 h3
  obtain⟨e,e4,_,w4⟩:=DataW.trod_int Tryz.underlying3 h4
  cases e0;cases e1;cases e2;cases e3;cases e4
  exact⟨⟨a,b,c,d,e⟩,rfl,⟨zaZ w0,zaZ w1,zaZ w2,zaZ w3,zaZ w4⟩⟩
theorem g_cables{H:Type}{enc:TypeId×Value->H}{w:World}{v:Value}{d:DataW H}{p:List MemPlace}(hv:Value.okWide Tryz.prog w .any 0 22 v)(h:DataW.Trod enc Tryz.prog w 0 (fun _=>true) true 22 v d p):znF w v:=by
 obtain⟨a0,len,cap,rfl⟩:=okWide_slice Tryz.underlying22 hv
 obtain⟨fuel,hf⟩:=h
 obtain⟨ao,cp,rows,hcs,hl,hm,hr,ha⟩:=zbt Tryz.underlying22 5 (by kernel_rfl) (by decide)
  (E:=fun r=> ∃c:Ca,r=zkw c/\caIn c) (fun fuel cs x hx=>c_cable hx) hf
 obtain⟨l,rfl,hp⟩:=ziL (fun r h=>(hr r h).2)
 simp [Value.cells] at hcs
 obtain⟨rfl,rfl,rfl⟩:=hcs
 refine⟨l,by
        have:l.length<=cap:=by simpa using hl
        exact Nat.le_trans this hm,fun s hs=>hp s hs,?_⟩
 exact zhv (f:=zkw) (by simpa using hl) hm ha (fun x=>⟨rfl,fun v hv=>by simp [zkw] at hv;rcases hv with rfl|rfl|rfl|rfl|rfl<;>rfl⟩)
end Go.Proofs.YtimfnpjcedjmiadGreat
