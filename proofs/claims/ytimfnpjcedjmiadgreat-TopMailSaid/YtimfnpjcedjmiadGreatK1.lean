/- Lemmas. -/
import Derived.Test.YtimfnpjcedjmiadGreatRows
import Derived.WalkKit
import Derived.Handy
import Derived.WalkSpells
import Derived.WalkLawsBesides
import Derived.Deep.QuietTactic
import Derived.BigQuiet
import Derived.Lib.Hide
import Derived.ProofKit
import Derived.OpenShut
import Derived.ShutString
import Derived.ChangeOld
import Derived.Below
import Derived.Deep.Slices
set_option maxRecDepth 100000
set_option maxHeartbeats 64000000
set_option linter.all false
namespace Go.Proofs.YtimfnpjcedjmiadGreat
open Go.RowKit
theorem Y1{G:Prop}(h:G:=by
 all_goals (((try (conv=>whnf));refine⟨_,AS.le_refl _ _,?_⟩;((try (conv=>whnf));refine StopRet.by [0,1,2,3,4,5,6,7,8,9,10,11,12,13,14,15] ?_;repeat' first|exact .intro|refine Tw.mk ?_ ?_)))):G:=h
theorem Y2{G:Prop}(h:G:=by
 subst ea em;(((all_goals (try (repeat' (conv=>whnf);(first|with_reducible refine And.intro ?_ ?_|with_reducible exact True.intro|(intro h;(first|cases h|((try simp only[vis,Int.reduceToNat] at h);(try (exfalso;omega)))))|(with_reducible refine Vc.mk ?_;fail)|(with_reducible refine cutG ?_;fail)|refine zap ?_ ?_|refine zaa ?_ ?_ ?_|(refine StopAt.mk (by decide) (by decide) ?_)))));(all_goals (first|omega|(conv=>whnf)|skip)));(all_goals (try omega));refine znJ hmet ?_ ?_;(· (all_goals refine gr ?_;repeat' first|exact .intro|refine Tw.mk ?_ ?_));((all_goals (try (repeat' (conv=>whnf);(first|with_reducible refine And.intro ?_ ?_|with_reducible exact True.intro|(intro h;(first|cases h|((try simp only[vis,Int.reduceToNat] at h);(try (exfalso;omega)))))|(with_reducible refine Vc.mk ?_;fail)|(with_reducible refine cutG ?_;fail)|refine zap ?_ ?_|refine zaa ?_ ?_ ?_|(refine StopAt.mk (by decide) (by decide) ?_)))));(all_goals (first|omega|(conv=>whnf)|skip)));(all_goals (try omega));(all_goals (try (refine Vc.mk ?_;first|omega|(unfold In64;omega))));(all_goals (first|(refine hk (by first|(exact .inl (.inl (by assumption)))|(exact .inl (.inr (by assumption)))|(exact .inr ⟨by omega,by unfold lx;omega⟩)) _ ?_;((refine zg4 [0,1,2] rfl rfl ?_ ?_);all_goals ((all_goals refine gr ?_;repeat' first|exact .intro|refine Tw.mk ?_ ?_);all_goals (try rfl))))|(refine ht (by assumption) (by assumption) (by first|(exact .inl (by assumption))|(exact .inr (by unfold lx;omega))) _ ?_;((refine zg4 [0,1,2] rfl rfl ?_ ?_);all_goals ((all_goals refine gr ?_;repeat' first|exact .intro|refine Tw.mk ?_ ?_);all_goals (try rfl)))))))):G:=h
theorem Y3{G:Prop}(h:G:=by
 (all_goals refine gr ?_;repeat' first|exact .intro|refine Tw.mk ?_ ?_)):G:=h
theorem Y4{G:Prop}(h:G:=by
 by_cases hc:b0=bo/\w0=w
 .rw[if_pos hc];obtain⟨rfl,rfl⟩:=hc;simp only[rtM,rtH,zaE,rtP,prQ,peRow] at *
  refine foA zaA [] [] Tryz.func49 Tryz.ntmps49 Tryz.results49 ?_;(all_goals refine fv ?_;repeat' first|exact .intro|refine Tw.mk ?_ ?_|(intro h;first|replace h:=h.o|cases h))
  all_goals (try (exfalso;first|omega|(simp at h;done)))
  all_goals (((try (conv=>whnf));refine StopRet.by [0,1,2,3,4,5,6,7,8,9,10,11,12,13,14,15] ?_;repeat' first|exact .intro|refine Tw.mk ?_ ?_))
 .rw[if_neg hc];simp only[rtM,rtH,zaE,rtP,prQ,peRow] at *
  cases b0<;>cases bo
  all_goals (try (have hw: ¬w0=w:=λe=>hc ⟨rfl,e⟩))
  all_goals
   refine foA zaA [] [] Tryz.func49 Tryz.ntmps49 Tryz.results49 ?_;(all_goals refine fv ?_;repeat' first|exact .intro|refine Tw.mk ?_ ?_|(intro h;first|replace h:=h.o|cases h))
   all_goals (try (exfalso;omega))
   (refine StopCall.fz [2] (pt) ?_;(all_goals refine lv ?_;repeat' first|exact .intro|refine Tw.mk ?_ ?_|(intro h;first|replace h:=h.o|cases h)))
   (refine StopCall.fz zaX (te) ?_;(all_goals refine lv ?_;repeat' first|exact .intro|refine Tw.mk ?_ ?_|(intro h;first|replace h:=h.o|cases h)))
   all_goals (first|(((try (conv=>whnf));refine StopRet.by [0,1,2,3,4,5,6,7,8,9,10,11,12,13,14,15] ?_;repeat' first|exact .intro|refine Tw.mk ?_ ?_);done)|((refine StopCall.fz [2] (mt) ?_;(all_goals refine lv ?_;repeat' first|exact .intro|refine Tw.mk ?_ ?_|(intro h;first|replace h:=h.o|cases h)));((try (conv=>whnf));refine StopRet.by [0,1,2,3,4,5,6,7,8,9,10,11,12,13,14,15] ?_;repeat' first|exact .intro|refine Tw.mk ?_ ?_);done)|trace_state)):G:=h
theorem Y5{G:Prop}(h:G:=by
 all_goals (try omega)
 all_goals (try ((with_reducible refine Vc.mk ?_);(try exact GLt)))
 all_goals ((refine⟨_,_,_,_,[0,1],hev,rfl,rfl,rfl,?_,?_,?_⟩);(· (all_goals refine gr ?_;repeat' first|exact .intro|refine Tw.mk ?_ ?_));(· (all_goals refine gr ?_;repeat' first|exact .intro|refine Tw.mk ?_ ?_));(all_goals refine gv ?_;repeat' first|exact .intro|refine Tw.mk ?_ ?_|(intro h;first|replace h:=h.o|cases h)))
 all_goals (((try (conv=>whnf));refine StopRet.by [0,1] ?_;repeat' first|exact .intro|refine Tw.mk ?_ ?_))):G:=h
theorem Y6{G:Prop}(h:G:=by
 all_goals (try (exfalso;omega))
 all_goals (refine⟨[k],?_,?_⟩)
 all_goals (first|(show viewR _=_;simp [viewR,viewL,AV.view,bRow];done)|skip)
 all_goals (all_goals refine gv ?_;repeat' first|exact .intro|refine Tw.mk ?_ ?_|(intro h;first|replace h:=h.o|cases h))
 all_goals (try (refine Vc.mk ?_;show 1+s.size<=9223372036854775807;omega))
 all_goals ((refine StopCall.by1 [] (hm) ?_;(all_goals refine lv ?_;repeat' first|exact .intro|refine Tw.mk ?_ ?_|(intro h;first|replace h:=h.o|cases h))))
 all_goals (try (refine And.intro (a:=_<=maxLen) ?_ ?_<;>rw[hbr]<;>first|(unfold maxLen;omega)|omega))
 all_goals (try ((with_reducible refine Vc.mk ?_);(try exact GLt)))
 all_goals (((try (conv=>whnf));refine StopRet.by [0,1,2,3] ?_;repeat' first|exact .intro|refine Tw.mk ?_ ?_);all_goals (try first|rfl|(rw[hbr,List.length_append];done)|(rw[htk,byteRows_eq,bs_tx,List.map_append];done)|(simp [viewR,viewL,AV.view,hbr,byteRows_eq,bs_tx];done)))):G:=h
theorem Y7{G:Prop}(h:G:=by
 have hs1:(tx T[j]).size=t.length+1:=by rw[hT];rfl
 simp only[rtM,rtH,zaE,rtP,prQ] at tk ⊢;(all_goals refine gv ?_;repeat' first|exact .intro|refine Tw.mk ?_ ?_|(intro h;first|replace h:=h.o|cases h))
 all_goals (try (exfalso;exact absurd (hcmp.1 h) (by rw[hT];simp)))
 all_goals (try ((with_reducible refine Vc.mk ?_);(try exact GLt)))
 all_goals (try (exfalso;exact absurd (hcmp.1 h) (by rw[hT];simp)))
 all_goals (refine zlW zaX tk rfl rfl rfl ?_ ?_ ?_)
 ·((all_goals refine gr ?_;repeat' first|exact .intro|refine Tw.mk ?_ ?_);all_goals rfl)
 ·((all_goals refine gr ?_;repeat' first|exact .intro|refine Tw.mk ?_ ?_);all_goals (first|rfl|(show ((zaG (tx T[j]) 0:Nat):Int)=c.toNat;rw[hT];rfl)|(show (tx T[j]).extract 1 (tx T[j]).size=tx t;rw[hT];exact tx_tail c t)))
 (all_goals refine gv ?_;repeat' first|exact .intro|refine Tw.mk ?_ ?_|(intro h;first|replace h:=h.o|cases h))
 all_goals (try omega)
 all_goals (try ((with_reducible refine Vc.mk ?_);(try exact GLt)))
 all_goals (refine za3 (j+1) ⟨rid,[r0,r1,r2],b2,inb2,dr2⟩ ⟨by omega,hlt,(show n+520*(j+1)=n+520*j+520 by omega)▸(show d+(j+1)=d+j+1 by omega)▸hft,hst⟩ (by omega) (by
  simp only[rtM,rtH,zaE,rtP,prQ];(refine zaC [0,1,2,3,4,5,6,7,8,9,10,11,12,13,14,15] ?_;repeat' first|exact .intro|refine Tw.mk ?_ ?_)))):G:=h
theorem Y8{G:Prop}(h:G:=by
 all_goals (((try (conv=>whnf));refine StopRet.by [0,1,2,3,4,5,6,7,8,9,10,11,12,13,14,15] ?_;repeat' first|exact .intro|refine Tw.mk ?_ ?_))):G:=h
theorem Y9{G:Prop}(h:G:=by
 all_goals (((try (conv=>whnf));refine StopRet.by [0,1] ?_;repeat' first|exact .intro|refine Tw.mk ?_ ?_))):G:=h
theorem Y10{G:Prop}(h:G:=by
 cases hq:kn ((k:Int)+1) with
 |none=>
  have hlook:knM kn (.int .i64 ((k:Int)+1))=none:=by simp [knM,hq]
  have hE:stsK kn (k+1)=stsK kn k:=zgg hq;(all_goals refine fv ?_;repeat' first|exact .intro|refine Tw.mk ?_ ?_|(intro h;first|replace h:=h.o|cases h))
  refine zdC hlook ?_;(all_goals refine fv ?_;repeat' first|exact .intro|refine Tw.mk ?_ ?_|(intro h;first|replace h:=h.o|cases h))
  refine zaU (k+1) (by omega) (by omega) (by (refine zaC [0,1,2,3,4,5,6] ?_;repeat' first|exact .intro|refine Tw.mk ?_ ?_);all_goals (all_goals (first|rfl|omega|(rw[hE];done)|(rw[hE]))))
 |some t=>
  obtain⟨q,g,l⟩:=t;have hlook:knM kn (.int .i64 ((k:Int)+1))=some [.v (.int .i64 q),.v (.int .i64 g),.sl 2 (l.map opRow) none]:=by simp [knM,hq,zaF]
  have hE:stsK kn (k+1)=stsK kn k++[(q,g,l)]:=zhJ hq;have hl:l.length<=1000000:=by have:=(zaN (show zaL q g l=0 from (hkn _ _ hq).2)).2.2.2.2.1;omega
  have hcp:=zbJ q g (l.map opRow) (by simpa using hl);(all_goals refine fv ?_;repeat' first|exact .intro|refine Tw.mk ?_ ?_|(intro h;first|replace h:=h.o|cases h))
  refine zbj hlook ?_;(all_goals refine fv ?_;repeat' first|exact .intro|refine Tw.mk ?_ ?_|(intro h;first|replace h:=h.o|cases h))
  (all_goals (try ((first|refine StopCall.by0 (hcp) ?_|refine StopPure.by0 (hcp) ?_);(all_goals refine gv ?_;repeat' first|exact .intro|refine Tw.mk ?_ ?_|(intro h;first|replace h:=h.o|cases h)))))
  (all_goals refine fv ?_;repeat' first|exact .intro|refine Tw.mk ?_ ?_|(intro h;first|replace h:=h.o|cases h))
  all_goals (try (exact⟨by simp [maxLen];omega,by simp;omega⟩))
  refine zaU (k+1) (by omega) (by omega) (by (refine zaC [0,1,2,3,4,5,6] ?_;repeat' first|exact .intro|refine Tw.mk ?_ ?_);all_goals (all_goals (first|rfl|omega|(rw[hE];simp [zaF,viewR,viewL,AV.view];done)|(rw[hE];simp [zaF,viewR,viewL,AV.view,List.take_of_length_le]))))):G:=h
theorem Y11{G:Prop}(h:G:=by
 cases hq:kn ((k:Int)+1) with
 |none=>
  have hlook:knM kn (.int .i64 ((k:Int)+1))=none:=by simp [knM,hq]
  have hE:stsK kn (k+1)=stsK kn k:=zgg hq;(all_goals refine fv ?_;repeat' first|exact .intro|refine Tw.mk ?_ ?_|(intro h;first|replace h:=h.o|cases h))
  refine zdC hlook ?_;(all_goals refine fv ?_;repeat' first|exact .intro|refine Tw.mk ?_ ?_|(intro h;first|replace h:=h.o|cases h))
  refine zaU (k+1) (by omega) (by omega) (by (refine zaC [0,1,2,3,4,5] ?_;repeat' first|exact .intro|refine Tw.mk ?_ ?_);all_goals (all_goals (first|rfl|omega|(rw[hE];done)|(rw[hE]))))
 |some t=>
  obtain⟨q,g,l⟩:=t;have hlook:knM kn (.int .i64 ((k:Int)+1))=some [.v (.int .i64 q),.v (.int .i64 g),.sl 2 (l.map opRow) none]:=by simp [knM,hq,zaF]
  have hE:stsK kn (k+1)=stsK kn k++[(q,g,l)]:=zhJ hq;have hl:l.length<=1000000:=by have:=(zaN (show zaL q g l=0 from (hkn _ _ hq).2)).2.2.2.2.1;omega
  have hcp:=zbJ q g (l.map opRow) (by simpa using hl);(all_goals refine fv ?_;repeat' first|exact .intro|refine Tw.mk ?_ ?_|(intro h;first|replace h:=h.o|cases h))
  refine zbj hlook ?_;(all_goals refine fv ?_;repeat' first|exact .intro|refine Tw.mk ?_ ?_|(intro h;first|replace h:=h.o|cases h))
  (all_goals (try ((first|refine StopCall.by0 (hcp) ?_|refine StopPure.by0 (hcp) ?_);(all_goals refine gv ?_;repeat' first|exact .intro|refine Tw.mk ?_ ?_|(intro h;first|replace h:=h.o|cases h)))))
  (all_goals refine fv ?_;repeat' first|exact .intro|refine Tw.mk ?_ ?_|(intro h;first|replace h:=h.o|cases h))
  all_goals (try (exact⟨by simp [maxLen];omega,by simp;omega⟩))
  refine zaU (k+1) (by omega) (by omega) (by (refine zaC [0,1,2,3,4,5] ?_;repeat' first|exact .intro|refine Tw.mk ?_ ?_);all_goals (all_goals (first|rfl|omega|(rw[hE];simp [zaF,viewR,viewL,AV.view];done)|(rw[hE];simp [zaF,viewR,viewL,AV.view,List.take_of_length_le]))))):G:=h
theorem Y12{G:Prop}(h:G:=by
 cases hq:kn ((k:Int)+1) with
 |none=>
  have hlook:knM kn (.int .i64 ((k:Int)+1))=none:=by simp [knM,hq]
  have hE:stsK kn (k+1)=stsK kn k:=zgg hq;(all_goals refine fv ?_;repeat' first|exact .intro|refine Tw.mk ?_ ?_|(intro h;first|replace h:=h.o|cases h))
  refine zdC hlook ?_;(all_goals refine fv ?_;repeat' first|exact .intro|refine Tw.mk ?_ ?_|(intro h;first|replace h:=h.o|cases h))
  refine zaU (k+1) (by omega) (by omega) (by (refine zaC [0,1,2,3,4] ?_;repeat' first|exact .intro|refine Tw.mk ?_ ?_);all_goals (all_goals (first|rfl|omega|(rw[hE];done)|(rw[hE]))))
 |some t=>
  obtain⟨q,g,l⟩:=t;have hlook:knM kn (.int .i64 ((k:Int)+1))=some [.v (.int .i64 q),.v (.int .i64 g),.sl 2 (l.map opRow) none]:=by simp [knM,hq,zaF]
  have hE:stsK kn (k+1)=stsK kn k++[(q,g,l)]:=zhJ hq;have hl:l.length<=1000000:=by have:=(zaN (show zaL q g l=0 from (hkn _ _ hq).2)).2.2.2.2.1;omega
  have hcp:=zbJ q g (l.map opRow) (by simpa using hl);(all_goals refine fv ?_;repeat' first|exact .intro|refine Tw.mk ?_ ?_|(intro h;first|replace h:=h.o|cases h))
  refine zbj hlook ?_;(all_goals refine fv ?_;repeat' first|exact .intro|refine Tw.mk ?_ ?_|(intro h;first|replace h:=h.o|cases h))
  (all_goals (try ((first|refine StopCall.by0 (hcp) ?_|refine StopPure.by0 (hcp) ?_);(all_goals refine gv ?_;repeat' first|exact .intro|refine Tw.mk ?_ ?_|(intro h;first|replace h:=h.o|cases h)))))
  (all_goals refine fv ?_;repeat' first|exact .intro|refine Tw.mk ?_ ?_|(intro h;first|replace h:=h.o|cases h))
  all_goals (try (exact⟨by simp [maxLen];omega,by simp;omega⟩))
  refine zaU (k+1) (by omega) (by omega) (by (refine zaC [0,1,2,3,4] ?_;repeat' first|exact .intro|refine Tw.mk ?_ ?_);all_goals (all_goals (first|rfl|omega|(rw[hE];simp [zaF,viewR,viewL,AV.view];done)|(rw[hE];simp [zaF,viewR,viewL,AV.view,List.take_of_length_le]))))):G:=h
theorem Y13{G:Prop}(h:G:=by
 all_goals (((try (conv=>whnf));refine StopRet.by [] ?_;repeat' first|exact .intro|refine Tw.mk ?_ ?_))):G:=h
theorem Y14{G:Prop}(h:G:=by
 have hr:=(hkn m s hm);have hrg:=zaN (show zaL s.1 s.2.1 s.2.2=0 from hr.2);have hlt:=ziG (kn:=kn) (seen:=seen) (n:=m) (by omega) (by omega) (by rw[hm];rfl) hs;(all_goals refine fv ?_;repeat' first|exact .intro|refine Tw.mk ?_ ?_|(intro h;first|replace h:=h.o|cases h))
 refine zaU (upI seen m true) (λj hj=>?_) hlt (by (refine zaC [0,1,2,3,4,5,6] ?_;repeat' first|exact .intro|refine Tw.mk ?_ ?_);all_goals (all_goals (first|rfl|(exact⟨rfl,rfl,rfl,zc6,.inl rfl⟩)|(exact⟨rfl,rfl,(zaw.trans (congrArg owM zfU))⟩)|(exact zaw.trans (congrArg owM zfU))|(exact zc6)|skip)));unfold upI at hj;split at hj
 .rename_i e;rw[e,hm];rfl
 .exact hsn j hj):G:=h
theorem Y15{G:Prop}(h:G:=by
 all_goals (((try (conv=>whnf));refine⟨_,AS.le_refl _ _,?_⟩;((try (conv=>whnf));refine ziz ?_;repeat' first|exact .intro|refine Tw.mk ?_ ?_)))):G:=h
theorem Y16{G:Prop}(h:G:=by
 rw[hT] at hst;simp only[rtM,rtH,zaE,rtP,prQ];(all_goals refine gv ?_;repeat' first|exact .intro|refine Tw.mk ?_ ?_|(intro h;first|replace h:=h.o|cases h))
 all_goals (try (exfalso;exact h (hcmp.2 hT)))
 all_goals (try ((with_reducible refine Vc.mk ?_);(try exact GLt)))
 all_goals (try (exfalso;exact h (hcmp.2 hT)))
 all_goals (refine za3 (j+1) ⟨rid,[q0,q1,q2],b',inb',dr'⟩ ⟨by omega,hlk,(hfn.up (by omega)).upD (by omega),hst⟩ (by omega) (by
  simp only[rtM,rtH,zaE,rtP,prQ];(refine zaC [0,1,2,3,4,5,6,7,8,9,10,11,12,13,14,15] ?_;repeat' first|exact .intro|refine Tw.mk ?_ ?_)))):G:=h
theorem Y17{G:Prop}(h:G:=by
 all_goals (((try (conv=>whnf));refine StopRet.by [0,1,2,3] ?_;repeat' first|exact .intro|refine Tw.mk ?_ ?_))):G:=h
theorem Y18{G:Prop}(h:G:=by
 rw[if_neg (by rintro⟨_,q⟩;omega)] at hQ;subst hQ;rw[hp] at pp;(all_goals refine fv ?_;repeat' first|exact .intro|refine Tw.mk ?_ ?_|(intro h;first|replace h:=h.o|cases h))
 all_goals (try (exfalso;first|omega|(simp at h;done)))
 all_goals ((refine StopCall.fz [] (pp) ?_;(all_goals refine lv ?_;repeat' first|exact .intro|refine Tw.mk ?_ ?_|(intro h;first|replace h:=h.o|cases h))))
 all_goals (try (exfalso;first|omega|(simp at h;done)))
 all_goals (exact⟨_,by (refine zaC [0,1,2,3,4,5,6,7,8,9,10,11,12,13,14,15] ?_;repeat' first|exact .intro|refine Tw.mk ?_ ?_),hy⟩)):G:=h
theorem Y19{G:Prop}(h:G:=by
 all_goals (exact⟨_,by (refine zaC [0,1,2,3,4,5,6,7,8,9,10,11,12,13,14,15] ?_;repeat' first|exact .intro|refine Tw.mk ?_ ?_),hy⟩)):G:=h
theorem Y20{G:Prop}(h:G:=by
 all_goals (((try (conv=>whnf));refine⟨_,AS.le_refl _ _,?_⟩;((try (conv=>whnf));refine StopRet.by [0] ?_;repeat' first|exact .intro|refine Tw.mk ?_ ?_)))):G:=h
theorem Y21{G:Prop}(h:G:=by
 simp only[rtM,rtH,zaE,rtP,prQ];(all_goals refine fv ?_;repeat' first|exact .intro|refine Tw.mk ?_ ?_|(intro h;first|replace h:=h.o|cases h))
 all_goals (try (exfalso;omega))
 all_goals ((refine StopCall.fz [] (sb) ?_;(all_goals refine lv ?_;repeat' first|exact .intro|refine Tw.mk ?_ ?_|(intro h;first|replace h:=h.o|cases h))))
 all_goals (try (exfalso;first|omega|contradiction))
 all_goals (refine za3 (j+1) o ⟨by omega,by omega,by rw[hstep]⟩ (by omega) (by
  (refine zaC zaX ?_;repeat' first|exact .intro|refine Tw.mk ?_ ?_)))):G:=h
theorem Y22{G:Prop}(h:G:=by
 refine⟨rfl,by simp;omega,?_,hag,hmem,λid b hb=>.inr ⟨id,hb⟩,⟨rfl,rfl,rfl,Nat.le_refl _,λ_ _ _=>rfl⟩,λ_ _ _ _=>rfl,λ_ _ _ h=>h,Gle.refl _,λi hi=>(hmem.out i hi).1,Nat.le_refl _⟩;intro t av ht;rw[znE] at ht;simp only[Nat.zero_le,if_true,Nat.sub_zero] at ht;have hlt:t<args.length:=(List.getElem?_eq_some_iff.1 ht).1;have hlt':t<vs.size:=by omega
 have:=hargs t av vs[t] ht (by simp [hlt']);simpa[Array.getD_eq_getD_getElem?,Array.getElem?_append_left hlt',hlt'] using this):G:=h
theorem Y23{G:Prop}(h:G:=by
 (all_goals refine gr ?_;repeat' first|exact .intro|refine Tw.mk ?_ ?_)
 all_goals (first|rfl|(exact updF_kn (s:=(q,g,l))))):G:=h
theorem Y24{G:Prop}(h:G:=by
 all_goals (((try (conv=>whnf));refine⟨_,AS.le_refl _ _,?_⟩;((try (conv=>whnf));refine StopRet.by [] ?_;repeat' first|exact .intro|refine Tw.mk ?_ ?_)))):G:=h
theorem Y25{G:Prop}(h:G:=by
 simp only[rtM,rtH,zaE,rtP,prQ] at hy;(all_goals refine gv ?_;repeat' first|exact .intro|refine Tw.mk ?_ ?_|(intro h;first|replace h:=h.o|cases h))
 all_goals ((refine StopCall.fz [2] (gt) ?_;(all_goals refine lv ?_;repeat' first|exact .intro|refine Tw.mk ?_ ?_|(intro h;first|replace h:=h.o|cases h))))
 all_goals (exact⟨_,by (refine zaC [0,1,2,3,4,5,6,7,8,9,10,11,12,13,14,15,16,17] ?_;repeat' first|exact .intro|refine Tw.mk ?_ ?_),hy⟩)):G:=h
theorem Y26{G:Prop}(h:G:=by
 all_goals (refine zaU (k+1) (by omega) (by omega) (by rw[hS];(refine zaC [0,1,2,3] ?_;repeat' first|exact .intro|refine Tw.mk ?_ ?_)))):G:=h
theorem Y27{G:Prop}(h:G:=by
 all_goals (((try (conv=>whnf));refine StopRet.by [0,1,2,3,4,5] ?_;repeat' first|exact .intro|refine Tw.mk ?_ ?_))):G:=h
theorem Y28{G:Prop}(h:G:=by
 (all_goals refine gr ?_;repeat' first|exact .intro|refine Tw.mk ?_ ?_)
 all_goals rfl):G:=h
theorem Y29{G:Prop}(h:G:=by
 all_goals (exact⟨_,(by (refine zaC zaX ?_;repeat' first|exact .intro|refine Tw.mk ?_ ?_)),hy⟩)):G:=h
theorem Y30{G:Prop}(h:G:=by
 intro b hb;refine .sl _ sz _ none ao cap b 0 (λi j=>(xs[i*sz+j]?).getD undef) (by rw[hlen];omega) k3 hb (λr hr=>h3 r (List.mem_of_mem_take hr)) (λi j r av g1 g2=>?_) (λi j r av g1 g2=>?_) (λi j r av g1 g2=>?_) (λid g h=>by cases h)
 .obtain⟨y,y1,y2,y3⟩:=h4 i j r av (hget i r g1) g2;rcases hb with hb|hb
  .rw[hb] at g1;simp at g1
  .subst hb;show σ' b (0+i*sz+j)=_;dsimp only[σ'];rw[if_pos (show blkA (some (⟨b,0,none⟩:Addr))=some b from rfl),Nat.zero_add,y1];rfl
 .obtain⟨y,y1,y2,y3⟩:=h4 i j r av (hget i r g1) g2;simp only[y1,Option.getD_some];exact y2.mono hs (Gle.refl _)
 .obtain⟨y,y1,y2,y3⟩:=h4 i j r av (hget i r g1) g2;simp only[y1,Option.getD_some];exact y3):G:=h
theorem Y31{G:Prop}(h:G:=by
 have hr:=(hkn m s hm);have hrg:=zaN (show zaL s.1 s.2.1 s.2.2=0 from hr.2);have hlt:=ziG (kn:=kn) (seen:=seen) (n:=m) (by omega) (by omega) (by rw[hm];rfl) hs;(all_goals refine fv ?_;repeat' first|exact .intro|refine Tw.mk ?_ ?_|(intro h;first|replace h:=h.o|cases h))
 refine zaU (upI seen m true) (λj hj=>?_) hlt (by (refine zaC [0,1,2,3,4,5] ?_;repeat' first|exact .intro|refine Tw.mk ?_ ?_);all_goals (all_goals (first|rfl|(exact⟨rfl,rfl,rfl,zc6,.inl rfl⟩)|(exact⟨rfl,rfl,(zaw.trans (congrArg owM zfU))⟩)|(exact zaw.trans (congrArg owM zfU))|(exact zc6)|skip)));unfold upI at hj;split at hj
 .rename_i e;rw[e,hm];rfl
 .exact hsn j hj):G:=h
theorem Y32{G:Prop}(h:G:=by
 all_goals (((try (conv=>whnf));refine StopRet.by [0,1,2,3,4] ?_;repeat' first|exact .intro|refine Tw.mk ?_ ?_))):G:=h
theorem Y33{G:Prop}(h:G:=by
 (all_goals refine fv ?_;repeat' first|exact .intro|refine Tw.mk ?_ ?_|(intro h;first|replace h:=h.o|cases h))
 ((try (conv=>whnf));refine StopRet.by [0,1,2,3,4,5] ?_;repeat' first|exact .intro|refine Tw.mk ?_ ?_)
 all_goals (first|rfl|(exact⟨rfl,rfl,congrArg owM (zhr hall hsn)⟩)|(exact congrArg owM (zhr hall hsn))|skip)):G:=h
theorem Y34{G:Prop}(h:G:=by
 simp only[hS];obtain⟨buf,n,e,x⟩:=r;dsimp only at h1 h2 h3 c4;unfold prM;cases e;all_goals
  refine foA zaA [] [] Tryz.func80 Tryz.ntmps80 Tryz.results80 ?_;(all_goals refine gv ?_;repeat' first|exact .intro|refine Tw.mk ?_ ?_|(intro h;first|replace h:=h.o|cases h))
  all_goals (try (exfalso;omega))
  all_goals (try ((with_reducible refine Vc.mk ?_);(try exact GLt)))
  all_goals (try (exfalso;simp only[viewR,viewL,List.length_cons,List.length_nil] at h;omega))
  all_goals (((try (conv=>whnf));refine StopRet.by [0,1,2,3] ?_;repeat' first|exact .intro|refine Tw.mk ?_ ?_))
  all_goals (simp [Rd.b,bRow,List.map_take,viewR,viewL,AV.view];first|done|exact xorU _ 32)):G:=h
theorem Y35{G:Prop}(h:G:=by
 refine foA zaA [] [] Tryz.func70 Tryz.ntmps70 Tryz.results70 ?_;(all_goals refine fv ?_;repeat' first|exact .intro|refine Tw.mk ?_ ?_|(intro h;first|replace h:=h.o|cases h))
 all_goals (((try (conv=>whnf));refine StopRet.by [0,1,2,3,4,5] ?_;repeat' first|exact .intro|refine Tw.mk ?_ ?_);all_goals (first|rfl|(exact owM_none)))):G:=h
theorem Y36{G:Prop}(h:G:=by
 rcases hv with⟨hw,hv⟩|⟨hw,hv⟩
 .obtain⟨m,v,h1,h2⟩:=(zeL hnk).det2 hv;refine⟨_,AS.put ⟨B.fr,m⟩ o.dst v,.of hnk rfl (.inl ⟨?_,?_⟩),zal.put2 (λt=>(hfr t).trans (hs.2 t)) m o.dst v,h2⟩
  .rw[<-zct (ops:=ops) (o:=o) λt _=>hs.2 t];exact hw
  .rw[<-hs.1,<-ze2 (fr:=fr') λx _=>zgY λt _=>(hfr t).trans (hs.2 t)];exact h1
 .refine⟨_,B.put o.dst (.v (.tuple #[])),.inr ⟨?_,rfl⟩,?_,hv⟩
  .rw[<-zct (ops:=ops) (o:=o) λt _=>hs.2 t];exact hw
  .exact zal.put (A:=⟨fr',A.mem⟩) (B:=B) ⟨hs.1,λt=>(hfr t).trans (hs.2 t)⟩ _ _):G:=h
theorem Y37{G:Prop}(h:G:=by
 all_goals (first|rfl|(exact⟨rfl,rfl,congrArg owM (zhr hall hsn)⟩)|(exact congrArg owM (zhr hall hsn))|skip)):G:=h
theorem Y38{G:Prop}(h:G:=by
 rw[if_neg (by omega)] at ho1;simp only[he];(all_goals refine fv ?_;repeat' first|exact .intro|refine Tw.mk ?_ ?_|(intro h;first|replace h:=h.o|cases h))
 all_goals (try (exfalso;omega))
 all_goals (exact⟨_,(by rw[ho1];(refine zaC zaX ?_;repeat' first|exact .intro|refine Tw.mk ?_ ?_)),hy⟩)):G:=h
theorem Y39{G:Prop}(h:G:=by
 ((try (conv=>whnf));refine StopRet.by [] ?_;repeat' first|exact .intro|refine Tw.mk ?_ ?_)
 have:la=lb:=List.ext_getElem? λi=>by
  by_cases hi:i<k
  .exact hp i hi
  .rw[List.getElem?_eq_none (by omega),List.getElem?_eq_none (by omega)]
 simp [this]):G:=h
theorem Y40{G:Prop}(h:G:=by
 obtain⟨o,ho,hv⟩:=zaH hA.1;have ho':ops[k]? =some o:=by simpa using ho
 obtain⟨C,B',hE,hsC,hK⟩:=zgo (hn k o ho') hs hv;unfold qOp;simp only[ho'];exact⟨B',hE,zc5 hQ hn a n _ C B' hsC (hcl.step hk) h3 hK⟩):G:=h
theorem Y41{G:Prop}(h:G:=by
 (all_goals refine fv ?_;repeat' first|exact .intro|refine Tw.mk ?_ ?_|(intro h;first|replace h:=h.o|cases h))
 ((try (conv=>whnf));refine StopRet.by [0,1,2,3,4,5] ?_;repeat' first|exact .intro|refine Tw.mk ?_ ?_)
 all_goals (try rfl)):G:=h
theorem Y42{G:Prop}(h:G:=by
 (all_goals refine fv ?_;repeat' first|exact .intro|refine Tw.mk ?_ ?_|(intro h;first|replace h:=h.o|cases h))
 ((try (conv=>whnf));refine StopRet.by [0,1,2,3,4] ?_;repeat' first|exact .intro|refine Tw.mk ?_ ?_)
 all_goals (try rfl)):G:=h
theorem Y43{G:Prop}(h:G:=by
 (all_goals refine fx ?_;repeat' first|exact .intro|refine Tw.mk ?_ ?_|(intro h;first|replace h:=h.o|cases h))
 all_goals (refine hZ _ (AS.le.to2 (B:=⟨[(0,.box 0 0),(1,.v (.int .i64 i))],[ntO N]⟩) ?_ (to_unE (by rw[l2];exact hk.1) hib (by intro p hp;simp only[List.mem_cons,List.not_mem_nil,or_false] at hp;rcases hp with rfl|rfl;exact .inr rfl;exact .inl rfl) hy)))
 all_goals ((refine zaC [0] ?_;repeat' first|exact .intro|refine Tw.mk ?_ ?_))):G:=h
theorem Y44{G:Prop}(h:G:=by
 simp only[D'] at hi hj;split at hi<;>split at hj
 .omega
 .rename_i _ hne;exfalso;obtain⟨p,hp1,hp2⟩:=hDk k hi;obtain⟨⟨q,h1,h2⟩,_⟩:=hj;have:=hpost.mem.apart p q k hp2 h2;subst this;exact zh3 hap h1 hne hp1
 .rename_i hne _;exfalso;obtain⟨p,hp1,hp2⟩:=hDk k hj;obtain⟨⟨q,h1,h2⟩,_⟩:=hi;have:=hpost.mem.apart p q k hp2 h2;subst this;exact zh3 hap h1 hne hp1
 .exact hs.apart i j k hi hj):G:=h
theorem Y45{G:Prop}(h:G:=by
 rw[hM1] at hy;simp only[ntE,rowsI,resI,List.length_cons,List.length_nil,Nat.zero_add,Nat.reduceAdd,hcl] at hy;(all_goals refine fx ?_;repeat' first|exact .intro|refine Tw.mk ?_ ?_|(intro h;first|replace h:=h.o|cases h))
 all_goals (exact⟨_,(by (refine za5 ?_;repeat' first|exact .intro|refine Tw.mk ?_ ?_);all_goals (first|exact he0|(rw[hc',<-zjO];simp only[zb2,<-he1];rfl)|(simp;done))),hy⟩)):G:=h
theorem Y46{G:Prop}(h:G:=by
 (all_goals refine fx ?_;repeat' first|exact .intro|refine Tw.mk ?_ ?_|(intro h;first|replace h:=h.o|cases h))
 all_goals (try (exfalso;omega))
 all_goals ((refine StopCall.fz [0] (hr) ?_;(all_goals refine fx ?_;repeat' first|exact .intro|refine Tw.mk ?_ ?_|(intro h;first|replace h:=h.o|cases h))))
 all_goals (refine zaU (i+1) (by omega) (by omega) (by (refine zaC [0] ?_;repeat' first|exact .intro|refine Tw.mk ?_ ?_)))):G:=h
theorem Y47{G:Prop}(h:G:=by
 have ho':ops[k]? =some o:=by simpa using ho
 obtain⟨C,B',hE,hsC,hK⟩:=zgo (hn k o ho') hs hv;unfold qOp;simp only[ho'];exact⟨B',hE,zc5 hQ hn b n _ C B' hsC (hcl.step hk) h4 hK⟩):G:=h
theorem Y48{G:Prop}(h:G:=by
 rcases Classical.em (0<=TV) with q2|q2
 .exact absurd ⟨q,q2⟩ c3
 .omega):G:=h
theorem Y49{G:Prop}(h:G:=by
 all_goals (refine za3 (j+1) o2 ⟨by omega,by omega,by rw[hstep]⟩ (by omega) (by
  (refine zaC zaX ?_;repeat' first|exact .intro|refine Tw.mk ?_ ?_);all_goals (simp;done)))):G:=h
theorem Y50{G:Prop}(h:G:=by
 cases hk:b.kn id with
 |none=>simp [stO]
 |some t=>
  have:=zaN (show zaL t.1 t.2.1 t.2.2=0 from (hb.kn id t hk).2);simp only[stO,Option.getD_some];omega):G:=h
theorem Y51{G:Prop}(h:G:=by
 rw[hM0] at hy;simp only[ntE,rowsI,resI,List.length_cons,List.length_nil,Nat.zero_add,Nat.reduceAdd] at hy;(all_goals refine fx ?_;repeat' first|exact .intro|refine Tw.mk ?_ ?_|(intro h;first|replace h:=h.o|cases h))
 all_goals (exact⟨_,(by (refine za5 ?_;repeat' first|exact .intro|refine Tw.mk ?_ ?_);all_goals (exact hdk)),hy⟩)):G:=h
theorem Y52{G:Prop}(h:G:=by
 intro y hy;simp only[Instr.sliceAt,underlying,program,Sem.run_bind,Sem.run,Result.andThen_ok,pure,Sem.run_pure,Bind.bind,Sem.bind,hu,Option.map_none];exact hy):G:=h
theorem Y53{G:Prop}(h:G:=by
 (all_goals refine gv ?_;repeat' first|exact .intro|refine Tw.mk ?_ ?_|(intro h;first|replace h:=h.o|cases h))
 all_goals (try omega)
 all_goals (try ((with_reducible refine Vc.mk ?_);(try exact GLt)))
 all_goals (refine zaU (k+1) (by omega) (by omega) (by rw[hS];(refine zaC [0,1] ?_;repeat' first|exact .intro|refine Tw.mk ?_ ?_)))):G:=h
theorem Y54{G:Prop}(h:G:=by
 cases i with
 |zero=>
  simp only[List.getElem?_cons_zero,Option.some.injEq] at h1;subst h1;have:=(hargs 0 (.v x) y rfl h2).inv_v;rw[this,hb];exact .box _ 0 0 b rfl
 |succ i=>
  simp only[List.getElem?_cons_succ] at h1;exact (hargs (i+1) av y (by simpa using h1) h2).free (List.all_eq_true.1 ha av (List.mem_of_getElem? h1))):G:=h
theorem Y55{G:Prop}(h:G:=by
 refine foA zaA [] [] Tryz.func70 Tryz.ntmps70 Tryz.results70 ?_;(all_goals refine fv ?_;repeat' first|exact .intro|refine Tw.mk ?_ ?_|(intro h;first|replace h:=h.o|cases h))
 all_goals (((try (conv=>whnf));refine StopRet.by [0,1,2,3,4] ?_;repeat' first|exact .intro|refine Tw.mk ?_ ?_);all_goals (first|rfl|(exact owM_none)))):G:=h
theorem Y56{G:Prop}(h:G:=by
 refine⟨by simp [h1],λi c hc=>?_⟩;cases i with
 |zero=>simp at hc;subst hc;exact⟨a,rfl,h.1⟩
 |succ i=>exact h2 i c (by simpa using hc)):G:=h
theorem Y57{G:Prop}(h:G:=by
 ((try (conv=>whnf));refine StopRet.by [] ?_;repeat' first|exact .intro|refine Tw.mk ?_ ?_)
 have: ¬la=lb:=λe=>by subst e;simp at h
 simp [this]):G:=h
theorem Y58{G:Prop}(h:G:=by
 exact⟨h.kn,by rw[ze0];exact h.n1,by rw[ze0];exact h.n3⟩):G:=h
theorem Y59{G:Prop}(h:G:=by
 ((try (conv=>whnf));refine StopRet.by [] ?_;repeat' first|exact .intro|refine Tw.mk ?_ ?_)
 have: ¬la=lb:=λe=>by subst e;omega
 simp [this]):G:=h
theorem Y60{G:Prop}(h:G:=by
 refine zaU (k+1) ⟨by omega,λi hi=>?_⟩ (by omega) (by (refine zaC [] ?_;repeat' first|exact .intro|refine Tw.mk ?_ ?_));by_cases hik:i=k
 .subst hik;rw[List.getElem?_eq_getElem (by omega),List.getElem?_eq_getElem (by omega)];simp at h;rw[Prod.ext h.1 h.2]
 .exact hp i (by omega)):G:=h
theorem Y61{G:Prop}(h:G:=by
 have:(l.flatMap λo:Int×Int=>[u8 o.1,u8 o.2]).length=2*l.length:=by
  induction l with
  |nil=>rfl
  |cons o l ih=>simp only[List.flatMap_cons,List.length_append,ih,List.length_cons,List.length_nil];omega
 simp only[List.length_append,this,List.length_cons,List.length_nil]):G:=h
theorem Y62{G:Prop}(h:G:=by
 exact hE _ _ _ _ (by omega) (by omega) (by omega) (by omega)):G:=h
theorem Y63{G:Prop}(h:G:=by
 rcases zke x hx with h|h
 .have:=hl.ok.out;have e:l.out=[]:=List.eq_nil_of_length_eq_zero (by omega);rw[e] at h;cases h
 .omega):G:=h
theorem Y64{G:Prop}(h:G:=by
 unfold putP;split
 .exact⟨o,rfl,by omega⟩
 .exact⟨_,rfl,by show (o++fr1 83 _).length<=_;rw[List.length_append];omega⟩):G:=h
theorem Y65{G:Prop}(h:G:=by
 simp only[List.length_singleton] at hid;exact⟨if_neg (by omega),λk hk=>by omega⟩):G:=h
theorem Y66{G:Prop}(h:G:=by
 exact fin _ (by simp [Builtin.len_,underlying,program,hu,goInt,Sem.run_bind,Sem.run,Result.andThen_ok,pure,Sem.run_pure]) h2):G:=h
theorem Y67{G:Prop}(h:G:=by
 all_goals (first|(exact⟨rfl,rfl,knM_none⟩)|(exact⟨rfl,rfl,owM_none⟩)|(exact knM_none)|(exact owM_none)|rfl)):G:=h
theorem Y68{G:Prop}(h:G:=by
 obtain⟨i,hi⟩:=List.getElem?_of_mem hr;rw[zbs] at hi;obtain⟨l,_,rfl⟩:=Option.map_eq_some_iff.1 hi;rfl):G:=h
theorem Y69{G:Prop}(h:G:=by
 have hg:=(zaN h0).2.2.1;rw[orL2];have:cmpI 0 g= -1:=if_pos (by omega);rw[this,if_pos (by decide)];decide):G:=h
theorem Y70{G:Prop}(h:G:=by
 have hlt:i<s.size:=by rw[<-hl];exact (List.getElem?_eq_some_iff.1 hi).1
 simp only[za4,List.getElem?_map,Option.map_eq_some_iff] at hi;obtain⟨c,hc,rfl⟩:=hi;exact⟨hlt,by rw[List.getD_eq_getElem?_getD,hc];rfl⟩):G:=h
theorem Y71{G:Prop}(h:G:=by
 rw[World.cell?_of_block (w:=w) (w':=w') (a:=⟨b,o,none⟩) (hfr b (h.agree.lt hy))];exact h.agree b o y hy):G:=h
theorem Y72{G:Prop}(h:G:=by
 ((try (conv=>whnf));refine StopRet.by [] ?_;repeat' first|exact .intro|refine Tw.mk ?_ ?_)
 all_goals exact hq.symm):G:=h
theorem Y73{G:Prop}(h:G:=by
 (all_goals refine fv ?_;repeat' first|exact .intro|refine Tw.mk ?_ ?_|(intro h;first|replace h:=h.o|cases h))
 ((try (conv=>whnf));refine StopRet.by [0,1,2,3] ?_;repeat' first|exact .intro|refine Tw.mk ?_ ?_)
 all_goals (try rfl)):G:=h
theorem Y74{G:Prop}(h:G:=by
 rcases h2.2 with⟨e,_⟩|⟨b,cp,cur,F,fz,e,_⟩
 .simp only[Value.slice.injEq] at e;left
  exact List.eq_nil_of_length_eq_zero (by rw[hlen];omega)
 .simp only[Value.slice.injEq] at e;exact .inr ⟨b,e.1⟩):G:=h
theorem Y75{G:Prop}(h:G:=by
 simp only[Value.slice.injEq] at e;obtain⟨rfl,_,_⟩:=e;cases hk):G:=h
theorem Y76{G:Prop}(h:G:=by
 simp only[Value.slice.injEq] at e;obtain⟨rfl,_,_⟩:=e;simp only[blkA,Option.some.injEq] at hk;subst hk;rw[<-h4,List.getElem?_take] at hx;split at hx
 .simp [World.cell?,hg];simpa using hx
 .cases hx):G:=h
theorem Y77{G:Prop}(h:G:=by
 simp only[Builtin.delete_,hts,Sem.run_bind,run_underlying u1,Result.andThen_ok,getObj,Sem.run,hr,Sem.run_pure,hck,hq,setObj,List.getElem?_toArray,List.getElem?_cons_zero,List.getElem?_cons_succ];rfl):G:=h
theorem Y78{G:Prop}(h:G:=by
 have h1: -1<=orL [cmpI g g2,cmpE l l2]/\orL [cmpI g g2,cmpE l l2]<=1:=nw_range g g2 l l2;omega):G:=h
theorem Y79{G:Prop}(h:G:=by
 have ho':ops[k]? =some o:=by simpa using ho
 obtain⟨C,B',hE,hsC,hK⟩:=zgo (hn k o ho') hs hv;unfold qOp;simp only[ho'];exact⟨B',hE,zc5 hQ hn c n _ C B' hsC (hcl.step hk) h5 hK⟩):G:=h
theorem Y80{G:Prop}(h:G:=by
 rename_i hi;have:Nat.beq i id=false:=by
  cases hb:Nat.beq i id with
  |false=>rfl
  |true=>exact absurd (Nat.eq_of_beq_eq_true hb) hi
 simp only[this] at hK;exact⟨A',σ',μ',Ds',hK,hr⟩):G:=h
theorem Y81{G:Prop}(h:G:=by
 (all_goals refine gr ?_;repeat' first|exact .intro|refine Tw.mk ?_ ?_)
 rw[Int.toNat_natCast,hbt]):G:=h
theorem Y82{G:Prop}(h:G:=by
 rw[hQ];split
 .refine⟨?_,hmi⟩;rw[List.length_append];omega
 .exact⟨by omega,hmi⟩):G:=h
theorem Y83{G:Prop}(h:G:=by
 all_goals (try ((with_reducible refine Vc.mk ?_);(try exact GLt)))
 all_goals (((try (conv=>whnf));refine StopRet.by [] ?_;repeat' first|exact .intro|refine Tw.mk ?_ ?_))
 all_goals simp_all):G:=h
theorem Y84{G:Prop}(h:G:=by
 rcases Nat.lt_or_ge i m.length with q|q
 .exact q
 .rw[(hmem.out i q).1] at hi;cases hi):G:=h
theorem Y85{G:Prop}(h:G:=by
 obtain⟨i,hi⟩:=hk;split at hi
 .exact (hpost.own 0 k hi).imp (λh=>h) λ⟨i,h⟩=>⟨0,hD k ((hfp k).1 ⟨i,h⟩)⟩
 .exact .inr ⟨0,(hE.all k).2 ⟨i,hi⟩⟩):G:=h
theorem Y86{G:Prop}(h:G:=by
 exact⟨_,by simp [binOp,Sem.run_bind,he,Result.andThen_ok,Sem.run_pure],h⟩):G:=h
theorem Y87{G:Prop}(h:G:=by
 simp only[Value.slice.injEq] at e;obtain⟨rfl,_,_⟩:=e;simp only[blkA,Option.some.injEq] at hk;subst hk;exact (Array.getElem?_eq_some_iff.1 hg).1):G:=h
theorem Y88{G:Prop}(h:G:=by
 rcases Classical.em (0<NW) with q|q
 .exact absurd ⟨cx,q⟩ c1
 .omega):G:=h
theorem Y89{G:Prop}(h:G:=by
 simp only[List.length_map];refine⟨by omega,trivial,?_,by omega⟩;have hb:(Tryz.prog.types[4]).bytes=1:=by decide+kernel
 rw[hb];omega):G:=h
theorem Y90{G:Prop}(h:G:=by
 rw[List.length_set] at hj;refine⟨(hs.out j hj).1,λk hk=>?_⟩;simp only[D'] at hk;rw[if_neg (by omega)] at hk;exact (hs.out j hj).2 k hk):G:=h
theorem Y91{G:Prop}(h:G:=by
 simp only[D'] at hk;split at hk
 .obtain⟨p,_,hp2⟩:=hDk k hk;exact key p hp2
 .obtain⟨⟨q,h1,h2⟩,_⟩:=hk;exact key q h2):G:=h
theorem Y92{G:Prop}(h:G:=by
 simp only[List.length_singleton] at hid;refine⟨if_neg (by omega),λb=>?_⟩;try dsimp only
 rw[if_neg (by omega)];exact λh=>h):G:=h
theorem Y93{G:Prop}(h:G:=by
 ((try (conv=>whnf));refine StopRet.by [] ?_;repeat' first|exact .intro|refine Tw.mk ?_ ?_);all_goals simp [zdB,pid,popt,perr,hb]):G:=h
theorem Y94{G:Prop}(h:G:=by
 ((try (conv=>whnf));refine StopRet.by [] ?_;repeat' first|exact .intro|refine Tw.mk ?_ ?_);all_goals simp [zak,sid,sopt,serr,hb]):G:=h
theorem Y95{G:Prop}(h:G:=by
 split at hx
 .exact .inl hx
 .rcases zhq x hx with h|h
  .exact .inl h
  .exact .inr (by simp only[List.length_nil] at h;omega)):G:=h
theorem Y96{G:Prop}(h:G:=by
 refine zgG λd=>?_;simp [Op.equalIn,underlying,program,hu,Sem.run_bind,Result.andThen_ok,Sem.run,pure,Sem.run_pure]):G:=h
theorem Y97{G:Prop}(h:G:=by
 unfold zbX;rw[if_neg (by rw[h0];exact not_not_intro c9)];rfl):G:=h
theorem Y98{G:Prop}(h:G:=by
 refine⟨?_,?_,?_,?_,?_,?_,?_,?_,?_,?_,?_,?_,?_,?_,?_,?_,?_⟩<;>(try dsimp only)<;>first|assumption|omega):G:=h
theorem Y99{G:Prop}(h:G:=by
 obtain⟨g0,l0,g1,g2⟩:=hrep.1 e' h1;exact⟨g0,l0,by rw[zbG,if_neg (λe=>h2 (zbB e))];exact g1,g2⟩):G:=h
theorem Y100{G:Prop}(h:G:=by
 ((try (conv=>whnf));refine StopRet.by [] ?_;repeat' first|exact .intro|refine Tw.mk ?_ ?_)
 all_goals (simp [h];try rfl)):G:=h
theorem Y101{G:Prop}(h:G:=by
 intro h1 h2 h3 A hle;exact zmT (m+1) _ _ ⟨by omega,by omega,ht h1 h2 h3,(hCt h2).1,(hCt h2).2⟩ (by omega) hle):G:=h
theorem Y102{G:Prop}(h:G:=by
 ((try (conv=>whnf));refine StopRet.by [] ?_;repeat' first|exact .intro|refine Tw.mk ?_ ?_)
 all_goals (simp [h])):G:=h
theorem Y103{G:Prop}(h:G:=by
 try dsimp only at h1 h2
 split at h1
 .split at h2
  .rename_i e1 e2;rw[e1,e2]
  .exact h2.elim
 .exact h1.elim):G:=h
theorem Y104{G:Prop}(h:G:=by
 ((try (conv=>whnf));refine StopRet.by [] ?_;repeat' first|exact .intro|refine Tw.mk ?_ ?_)
 rw[if_neg h];rfl):G:=h
theorem Y105{G:Prop}(h:G:=by
 rw[if_neg e];cases N.rs[b]? with
 |none=>rfl
 |some q=>show some (if _ then _ else _)=_;rw[if_neg e]):G:=h
theorem Y106{G:Prop}(h:G:=by
 simp only[Option.some.injEq,Prod.mk.injEq] at h;obtain⟨_,rfl⟩:=h;exact⟨kt,e,sz,hu,hs⟩):G:=h
theorem Y107{G:Prop}(h:G:=by
 (all_goals refine gr ?_;repeat' first|exact .intro|refine Tw.mk ?_ ?_);all_goals (exact wrap_byte _ _)):G:=h
theorem Y108{G:Prop}(h:G:=by
 obtain⟨σ',μ',D',hr⟩:=hle n fp w0 σ μ Ds a w hk h;exact⟨n0,B,σ',μ',D',hI,hr⟩):G:=h
def errv(k:Int):Value:=if k=0 then .nilIface else .iface 96 (.int .i64 k)
theorem zjC:errv 0=.nilIface:=rfl
theorem zmV{k:Int}(h:k≠0):errv k=.iface 96 (.int .i64 k):=by unfold errv;rw[if_neg h]
def Old(n:Nat)(w:World):Prop:=n<w.heap.size
section
variable (W:World) (ex:Array Obj) (d n i:Nat) (o:Obj) (v:Value)
end
structure More where
 ex:Array Obj
 d:Nat
instance:Inhabited More:=⟨⟨#[],0⟩⟩
def Arr(sz:Nat)(w:World)(ao:Option Addr)(rows:List (List Value)):Prop:=
 rows=[]\/ ∃b off,ao=some ⟨b,off,none⟩/\Old b w/\ ∀i r,rows[i]? =some r-> ∀j v,r[j]? =some v->w.cell? ⟨b,off+i*sz+j,none⟩=some v
theorem Arr.below{sz:Nat}{W w:World}{ao:Option Addr}{rows:List (List Value)}(h:Arr sz W ao rows)(hb:Below W.heap.size W w):Arr sz w ao rows:=by
 rcases h with h|⟨b,off,h1,h2,h3⟩
 .exact .inl h
 .refine .inr ⟨b,off,h1,Nat.lt_of_lt_of_le (show b<_ from h2) hb.size,λi r hr j v hv=>?_⟩;rw[hb.cell (p:=⟨b,_,none⟩) h2];exact h3 i r hr j v hv
theorem Arr.at1{w:World}{ao:Option Addr}{rows:List (List Value)}(h:Arr 1 w ao rows)(i:Nat){v:Value}(hi:rows[i]? =some [v]):
  ∃b off,ao=some ⟨b,off,none⟩/\Old b w/\w.cell? ⟨b,off+i,none⟩=some v:=by
 rcases h with h|⟨b,off,h1,h2,h3⟩
 .subst h;simp at hi
 .exact⟨b,off,h1,h2,by have:=h3 i _ hi 0 v rfl;simpa using this⟩
end Go.Proofs.YtimfnpjcedjmiadGreat
namespace Go.Proofs.YtimfnpjcedjmiadGreat
open Go.ChangeShapes Go.WideShapes Go.ChangeAt Go.RowKit Go.Deep
open Go.ChangeMaps (open_string shut_string)
theorem own:ownKnob Tryz.prog.godebug=.none:=by kernel_rfl
theorem zkk:laidOutB Tryz.prog=true:=by kernel_rfl
section
variable {H:Type} {enc:TypeId×Value->H} {w:World} {spare:Nat->Bool} {held:Bool}
theorem addr_add(b off n:Nat):(⟨b,off,.none⟩:Addr).add n=⟨b,off+n,.none⟩:=by unfold Addr.add;split<;>simp_all
theorem zcA{P:Program}{t e:TypeId}(ht:P.underlying t=some (.slice e))(sz:Nat)(hsz:P.cellsOf e=sz)(hpos:0<sz){E:List Value->Prop}
  (hE: ∀fuel cs x,DataW.trod enc P w 0 spare held fuel e cs=some x->E cs) {fuel:Nat} {cs:List Value} {x:DataW H×List MemPlace} (h:DataW.trod enc P w 0 spare held fuel t cs=some x):
  ∃ao cap rows,cs=[.slice ao rows.length cap]/\rows.length<=cap/\cap<=maxLen/\(∀r∈rows,r.length=sz/\E r)/\Arr sz w ao rows:=by
 rcases open_slice ht h with⟨rfl,_⟩|⟨a,len,cap,m,n,D,Pl,rfl,_,hl,hm,hmm,rfl,hx⟩
 .exact⟨.none,0,[],rfl,Nat.le_refl _,Nat.zero_le _,by simp,.inl rfl⟩
 .have hlm:len<=m:=by rw[hmm];split<;>omega
  obtain⟨f,hf⟩:=choose_lt (α:=List Value) (p:=λi cs'=>w.cells? 0 (a.add (i*P.cellsOf e)) (P.cellsOf e)=some cs'/\DataW.trod enc P w 0 spare held n e cs'=some (D i,Pl i)) (λi hi=>hx i hi);rw[hsz] at hf;refine⟨some a,cap,(List.range len).map f,by simp,by simpa using hl,hm,?_,?_⟩
  .intro r hr;obtain⟨i,hi,rfl⟩:=List.mem_map.1 hr;have hi':i<len:=by simpa using hi
   obtain⟨h1,h2⟩:=hf i (by omega);exact⟨(World.cells?_some h1).2.1,hE _ _ _ h2⟩
  .by_cases h0:len=0
   .subst h0;exact .inl rfl
   .have h1:=World.cells?_some (hf 0 (by omega)).1;have h2:=h1.2.2 0 hpos;have h3:0<(f 0).length:=by rw[h1.2.1];exact hpos
    rw[List.getElem?_eq_getElem h3] at h2;obtain⟨b,off,spot⟩:=a;have hsp:spot=.none:=by simpa[Addr.add] using World.cell?_spot h2
    subst hsp;have hb:=World.block_lt_of_cell? w _ h2;simp only[Nat.zero_mul,addr_add] at hb;refine .inr ⟨b,off,rfl,hb,?_⟩;intro i r hr j v hj;have hi:i<len:=by
     have:=(List.getElem?_eq_some_iff.1 hr).1;simpa using this
    have hr':r=f i:=by
     simp [hi] at hr;exact hr.symm
    subst hr';have h4:=World.cells?_some (hf i (by omega)).1;have hj':j<sz:=by rw[<-h4.2.1];exact (List.getElem?_eq_some_iff.1 hj).1
    have h5:=h4.2.2 j hj';rw[hj,addr_add,addr_add] at h5;exact h5
theorem ziM{α:Type}{enc':α->List Value}{rows:List (List Value)}{p:α->Prop}(h: ∀r∈rows,∃x,r=enc' x/\p x): ∃l:List α,rows=l.map enc'/\ ∀x∈l,p x:=by
 induction rows with
 |nil=>exact⟨[],rfl,by simp⟩
 |cons r rows ih=>
  obtain⟨l,hl,hp⟩:=ih (λr hr=>h r (List.mem_cons_of_mem _ hr));obtain⟨x,hx,hpx⟩:=h r (List.mem_cons_self ..);refine⟨x::l,by simp [hl,hx],?_⟩;intro y hy;rcases List.mem_cons.1 hy with rfl|hy
  .exact hpx
  .exact hp y hy
end
def I64(n:Int):Prop:= -9223372036854775808<=n/\n<=9223372036854775807
theorem za6{n:Int}(h:(Lit.int .i64 n).wf=true):I64 n:=bounds_i64 h
def InInt(_w:World)(v:Value):Prop:= ∃n:Int,v=.int .i64 n/\I64 n
section
variable {H:Type} {enc:TypeId×Value->H} {w:World} {v:Value} {d:DataW H} {p:List MemPlace}
theorem in_int(hv:Value.okWide Tryz.prog w .any 0 3 v)(h:DataW.Trod enc Tryz.prog w 0 (λ_=>true) true 3 v d p):InInt w v:=by
 obtain⟨n,rfl,_,_,wn⟩:=open_int Tryz.underlying3 hv h;exact⟨n,rfl,za6 wn⟩
end
theorem e_option{H:Type}{enc:TypeId×Value->H}{w:World}{spare:Nat->Bool}{held:Bool}{fuel:Nat}{cs:List Value}{x:DataW H×List MemPlace}(hx:DataW.trod enc Tryz.prog w 0 spare held fuel 184 cs=some x):
  ∃n:Int×Int,cs=[.int .i64 n.1,.int .i64 n.2]/\I64 n.1/\I64 n.2:=by
 obtain⟨y0,y1,n,_,hl,h0,h1⟩:=trod_struct2 Tryz.underlying184 hx;obtain⟨a,ha,_,wa⟩:=DataW.trod_int Tryz.underlying3 h0;obtain⟨b,hb,_,wb⟩:=DataW.trod_int Tryz.underlying3 h1;have c1:Tryz.prog.cellsOf 3=1:=by kernel_rfl
 have c2:Tryz.prog.cellsOf 184=2:=by kernel_rfl
 rw[c2] at hl
 match cs,hl with
 |[u,v],_=>
  simp [c1] at ha hb;subst ha hb;exact⟨(a,b),rfl,za6 wa,za6 wb⟩
theorem e_edge{H:Type}{enc:TypeId×Value->H}{w:World}{spare:Nat->Bool}{held:Bool}{fuel:Nat}{cs:List Value}{x:DataW H×List MemPlace}(hx:DataW.trod enc Tryz.prog w 0 spare held fuel 57 cs=some x):
  ∃n:Int×Int,cs=[.int .i64 n.1,.int .i64 n.2]/\I64 n.1/\I64 n.2:=by
 obtain⟨y0,y1,n,_,hl,h0,h1⟩:=trod_struct2 Tryz.underlying57 hx;obtain⟨a,ha,_,wa⟩:=DataW.trod_int Tryz.underlying3 h0;obtain⟨b,hb,_,wb⟩:=DataW.trod_int Tryz.underlying3 h1;have c1:Tryz.prog.cellsOf 3=1:=by kernel_rfl
 have c2:Tryz.prog.cellsOf 57=2:=by kernel_rfl
 rw[c2] at hl
 match cs,hl with
 |[u,v],_=>
  simp [c1] at ha hb;subst ha hb;exact⟨(a,b),rfl,za6 wa,za6 wb⟩
end Go.Proofs.YtimfnpjcedjmiadGreat
namespace Go.Proofs.YtimfnpjcedjmiadGreat
open Go.RowKit
theorem zma:Tryz.prog.stoodInHeld 184=false:=by kernel_rfl
theorem zmm:Tryz.prog.eqGuardType Tryz.prog.depth 184=false:=by kernel_rfl
@[go_sem] theorem eqg_option (op:BinOp) (x y:Operand) (xs ys:Array Value) (w:World):(eqGuard op 184 x y (.agg xs) (.agg ys)).run Tryz.prog w=.ok () w:=run_eqGuard_agg w op 184 x y xs ys zmm
@[go_sem] theorem znB (a b c d:Int) (w:World):(binOp .neq 184 (.agg #[.int .i64 a,.int .i64 b]) (.agg #[.int .i64 c,.int .i64 d])).run Tryz.prog w=.ok (.bool (!(a==c&&b==d))) w:=by
 rw[run_neq_struct,run_equalIn_struct _ _ _ _ _ (by simp [Program.fieldsOf,Tryz.underlying184]) zma];by_cases h1:a=c<;>by_cases h2:b=d<;>simp [Program.fieldsOf,Tryz.underlying184,Op.eqFields,go_sem,h1,h2]
theorem sih_edge:Tryz.prog.stoodInHeld 57=false:=by kernel_rfl
theorem egt_edge:Tryz.prog.eqGuardType Tryz.prog.depth 57=false:=by kernel_rfl
@[go_sem] theorem eqg_edge (op:BinOp) (x y:Operand) (xs ys:Array Value) (w:World):(eqGuard op 57 x y (.agg xs) (.agg ys)).run Tryz.prog w=.ok () w:=run_eqGuard_agg w op 57 x y xs ys egt_edge
@[go_sem] theorem neq_edge (a b c d:Int) (w:World):(binOp .neq 57 (.agg #[.int .i64 a,.int .i64 b]) (.agg #[.int .i64 c,.int .i64 d])).run Tryz.prog w=.ok (.bool (!(a==c&&b==d))) w:=by
 rw[run_neq_struct,run_equalIn_struct _ _ _ _ _ (by simp [Program.fieldsOf,Tryz.underlying57]) sih_edge];by_cases h1:a=c<;>by_cases h2:b=d<;>simp [Program.fieldsOf,Tryz.underlying57,Op.eqFields,go_sem,h1,h2]
theorem sih_hop:Tryz.prog.stoodInHeld 79=false:=by kernel_rfl
theorem egt_hop:Tryz.prog.eqGuardType Tryz.prog.depth 79=false:=by kernel_rfl
@[go_sem] theorem eqg_hop (op:BinOp) (x y:Operand) (xs ys:Array Value) (w:World):(eqGuard op 79 x y (.agg xs) (.agg ys)).run Tryz.prog w=.ok () w:=run_eqGuard_agg w op 79 x y xs ys egt_hop
@[go_sem] theorem neq_hop (a b e c d f:Int) (w:World):(binOp .neq 79 (.agg #[.int .i64 a,.int .i64 b,.int .i64 e]) (.agg #[.int .i64 c,.int .i64 d,.int .i64 f])).run Tryz.prog w=.ok (.bool (!(a==c&&b==d&&e==f))) w:=by
 rw[run_neq_struct,run_equalIn_struct _ _ _ _ _ (by simp [Program.fieldsOf,Tryz.underlying79]) sih_hop];by_cases h1:a=c<;>by_cases h2:b=d<;>by_cases h3:e=f<;>simp [Program.fieldsOf,Tryz.underlying79,Op.eqFields,go_sem,h1,h2,h3]
end Go.Proofs.YtimfnpjcedjmiadGreat
