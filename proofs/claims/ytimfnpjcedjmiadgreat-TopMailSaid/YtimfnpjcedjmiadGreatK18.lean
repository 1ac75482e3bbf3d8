/- Lemmas. -/
import Derived.Test.YtimfnpjcedjmiadGreatK17
import Derived.Test.YtimfnpjcedjmiadGreatK10
import Derived.Test.YtimfnpjcedjmiadGreatK11
import Derived.Test.YtimfnpjcedjmiadGreatK12
set_option maxRecDepth 100000
set_option maxHeartbeats 64000000
set_option linter.all false
namespace Go.Proofs.YtimfnpjcedjmiadGreat
open Go.RowKit
def ptM(p:Pt)(g:Nat):List Res:=prM p.m p.l p.p p.out p.rd g
theorem frm_len(l:List UInt8):(frm l).length<=6+2*l.length:=by
 unfold frm;have:=zlb (zbI l);have:(zbI l).length=l.length+2:=by simp [zbI]
 rw[List.length_append,List.length_singleton];omega
theorem zew(k:UInt8)(s:List UInt8):(fr1 k s).length<=130:=by
 unfold fr1;split
 .simp
 .have:=frm_len (k::s);rw[List.length_cons] at this;omega
theorem fr1_make(k:UInt8)(s:ByteArray):(if 60<(tx [k]++s).size then ByteArray.empty else tx (frm (bs (tx [k]++s))))=(if 60<(bs s).length+1 then ByteArray.empty else tx (fr1 k (bs s))):=by
 have h1:(tx [k]++s).size=(bs s).length+1:=by rw[ByteArray.size_append,zcz];show 1+s.size=_;omega
 have h2:bs (tx [k]++s)=k::bs s:=by simp [bs,tx]
 rw[h1];split
 .rfl
 .rename_i h;unfold fr1;rw[if_neg h,h2]
theorem zcf(p:Pt)(k:UInt8)(s:ByteArray)(hs:s.size<=100000)(ho:p.out.length<=1000000000):Fn Tryz.prog 61 [.box 0 0,.v (.int .u8 k.toNat),.v (.string s)] (ptM p 0) (.tup []) (ptM (putP k (bs s) p) 1):=by
 obtain⟨m,l,rd,rest,pe,out⟩:=p;have st:=zbC l;have hm:=make_ok (tx [k]++s) (by rw[ByteArray.size_append];show 1+s.size<=_;omega);have hk:(k.toNat:Int)=76↔k=76:=by
  constructor
  .intro h;exact UInt8.toNat_inj.1 (by show k.toNat=76;omega)
  .rintro rfl;rfl
 by_cases c:k≠76/\l.st≠9
 .rw[show putP k (bs s) ⟨m,l,rd,rest,pe,out⟩=⟨m,l,rd,rest,pe,out⟩ from if_pos c];have hk': ¬(k.toNat:Int)=76:=λh=>c.1 (hk.1 h);have hc2:=c.2;unfold ptM prM;dsimp only at ho ⊢;refine foA zaA [] [] Tryz.func61 Tryz.ntmps61 Tryz.results61 ?_;(all_goals refine gv ?_;repeat' first|exact .intro|refine Tw.mk ?_ ?_|(intro h;first|replace h:=h.o|cases h))
  all_goals (try omega)
  (refine StopCall.by1 [1] (st) ?_;(all_goals refine lv ?_;repeat' first|exact .intro|refine Tw.mk ?_ ?_|(intro h;first|replace h:=h.o|cases h)))
  all_goals (try omega)
  all_goals exact Y17
 .rw[show putP k (bs s) ⟨m,l,rd,rest,pe,out⟩=⟨m,l,rd,rest,pe,out++fr1 k (bs s)⟩ from if_neg c];have hc:(k.toNat:Int)=76\/l.st=9:=by
   rcases Classical.em (k=76) with h|h
   .exact .inl (hk.2 h)
   .exact .inr (Classical.byContradiction λh'=>c ⟨h,h'⟩)
  have hfl:=zew k (bs s);have htk:List.take out.length (List.map bRow out)=List.map bRow out:=List.take_of_length_le (by simp);have hbr: ∀F,(za4 (tx F)).length=F.length:=λF=>by simp [byteRows_eq,bs_tx]
  rw[fr1_make] at hm;have hz:(tx [k]++s).size=(bs s).length+1:=by rw[ByteArray.size_append,zcz];show 1+s.size=_;omega
  rw[hz] at hm;unfold ptM prM;dsimp only at ho ⊢;by_cases h60:60<(bs s).length+1
  .rw[show fr1 k (bs s)=[] from if_pos h60,List.append_nil];simp only[h60,if_true] at hm;by_cases c1:(k.toNat:Int)=76
   .refine foA zaA [] [] Tryz.func61 Tryz.ntmps61 Tryz.results61 ?_;(all_goals refine gv ?_;repeat' first|exact .intro|refine Tw.mk ?_ ?_|(intro h;first|replace h:=h.o|cases h))
    all_goals exact Y6
   .have c2:l.st=9:=by omega
    refine foA zaA [] [] Tryz.func61 Tryz.ntmps61 Tryz.results61 ?_;(all_goals refine gv ?_;repeat' first|exact .intro|refine Tw.mk ?_ ?_|(intro h;first|replace h:=h.o|cases h))
    all_goals (try (exfalso;omega))
    (refine StopCall.by1 [1] (st) ?_;(all_goals refine lv ?_;repeat' first|exact .intro|refine Tw.mk ?_ ?_|(intro h;first|replace h:=h.o|cases h)))
    all_goals exact Y6
  .simp only[h60,if_false] at hm;generalize fr1 k (bs s)=F at *
   by_cases c1:(k.toNat:Int)=76
   .refine foA zaA [] [] Tryz.func61 Tryz.ntmps61 Tryz.results61 ?_;(all_goals refine gv ?_;repeat' first|exact .intro|refine Tw.mk ?_ ?_|(intro h;first|replace h:=h.o|cases h))
    all_goals exact Y6
   .have c2:l.st=9:=by omega
    refine foA zaA [] [] Tryz.func61 Tryz.ntmps61 Tryz.results61 ?_;(all_goals refine gv ?_;repeat' first|exact .intro|refine Tw.mk ?_ ?_|(intro h;first|replace h:=h.o|cases h))
    all_goals (try (exfalso;omega))
    (refine StopCall.by1 [1] (st) ?_;(all_goals refine lv ?_;repeat' first|exact .intro|refine Tw.mk ?_ ?_|(intro h;first|replace h:=h.o|cases h)))
    all_goals exact Y6
theorem flB_len(x:Pk):(flB x).length<=130:=by
 unfold flB;split
 .exact zew _ _
 .simp
theorem zez: ∀l:List Pk,(l.flatMap flB).length<=130*l.length
 |[]=>by simp
 |x::l=>by
  have h1:=flB_len x;have h2:=zez l;simp only[List.flatMap_cons,List.length_append,List.length_cons];omega
theorem zin: ∀l:List (Int×Int),(l.flatMap λo=>[u8 o.1,u8 o.2]).length=2*l.length
 |[]=>rfl
 |x::l=>by
  have h:=zin l;simp only[List.flatMap_cons,List.length_append,List.length_cons,List.length_nil];omega
theorem zml(c i:Int)(o:List (Int×Int)):(zdz c i o).length=3+2*o.length:=by
 unfold zdz pbyt;rw[List.length_append,zin];rfl
theorem zcB(p:Pt)(hl:p.l.out.length<=1000)(hp: ∀x∈p.l.out,x.o.length<=1000)(ho:p.out.length<=100000000):Fn Tryz.prog 48 [.box 0 0] (ptM p 0) (.tup []) (ptM (zbE p) 1):=by
 obtain⟨m,l,rd,rest,pe,out⟩:=p;dsimp only at hl hp ho;have so:=xlout_ok l;rw[show zbE ⟨m,l,rd,rest,pe,out⟩=⟨m,outL l,rd,rest,pe,out++l.out.flatMap flB⟩ from rfl];unfold ptM prM;dsimp only;refine foA zaA [] [] Tryz.func48 Tryz.ntmps48 Tryz.results48 ?_;(all_goals refine gv ?_;repeat' first|exact .intro|refine Tw.mk ?_ ?_|(intro h;first|replace h:=h.o|cases h))
 (refine StopCall.by1 [1] (so) ?_;(all_goals refine lv ?_;repeat' first|exact .intro|refine Tw.mk ?_ ?_|(intro h;first|replace h:=h.o|cases h)))
 refine lpG (λk:Nat=>⟨[(0,.box 0 0),(10,.sl 3 (l.out.map zcc) none),(11,.v (.int .i64 l.out.length)),(12,.v (.int .i64 k))],ptM ⟨m,outL l,rd,rest,pe,out++(l.out.take k).flatMap flB⟩ 1⟩) (λk=>k<=l.out.length) (λk=>l.out.length-k) 0 (by omega) (by unfold ptM prM;(refine zaC [0,1,2,3] ?_;repeat' first|exact .intro|refine Tw.mk ?_ ?_);all_goals (all_goals (try first|rfl|(simp;done)))) ?_;rintro k hk;have hlen:=zez (l.out.take k);rw[List.length_take] at hlen;by_cases hk':k<l.out.length
 .have hx:=hp l.out[k] (List.getElem_mem hk');have hb:=zod l.out[k].c l.out[k].i l.out[k].o (by omega);have hn:(l.out.take (k+1)).flatMap flB=(l.out.take k).flatMap flB++flB l.out[k]:=by rw[zaT hk',List.flatMap_append];simp
  generalize hF:(l.out.take k).flatMap flB=F at *
  by_cases hf:zbN l.out[k].c l.out[k].i l.out[k].o=0
  .have hB:flB l.out[k]=fr1 76 (zdz l.out[k].c l.out[k].i l.out[k].o):=by unfold flB;rw[if_pos hf]
   rw[hf] at hb;simp only[if_true] at hb;have hs:=zcf ⟨m,outL l,rd,rest,pe,out++F⟩ 76 ⟨(zdz l.out[k].c l.out[k].i l.out[k].o).toArray⟩ (by show (zdz l.out[k].c l.out[k].i l.out[k].o).length<=_;rw[zml];omega) (by simp;omega);rw[show putP 76 (bs ⟨(zdz l.out[k].c l.out[k].i l.out[k].o).toArray⟩) ⟨m,outL l,rd,rest,pe,out++F⟩=⟨m,outL l,rd,rest,pe,out++F++flB l.out[k]⟩ from by unfold putP;rw[if_neg (λh=>h.1 rfl),hB]] at hs;generalize flB l.out[k]=G at *
   unfold ptM prM at hs ⊢;dsimp only at hs ⊢;(all_goals refine gv ?_;repeat' first|exact .intro|refine Tw.mk ?_ ?_|(intro h;first|replace h:=h.o|cases h))
   all_goals (try omega)
   (refine StopCall.by1 [] (hb) ?_;(all_goals refine lv ?_;repeat' first|exact .intro|refine Tw.mk ?_ ?_|(intro h;first|replace h:=h.o|cases h)))
   (refine StopCall.by1 [0,1,2,3] (hs) ?_;(all_goals refine lv ?_;repeat' first|exact .intro|refine Tw.mk ?_ ?_|(intro h;first|replace h:=h.o|cases h)))
   refine zaU (k+1) (by omega) (by omega) (by rw[hn];(refine zaC [0,1,2,3] ?_;repeat' first|exact .intro|refine Tw.mk ?_ ?_);all_goals (all_goals (try first|rfl|(rw[List.append_assoc];done)|(simp;done))))
  .have hB:flB l.out[k]=[]:=if_neg hf;have hpn:=zep l.out[k].c l.out[k].i l.out[k].o;simp only[hf,if_false] at hb;rw[hB,List.append_nil] at hn;unfold ptM prM;dsimp only;(all_goals refine gv ?_;repeat' first|exact .intro|refine Tw.mk ?_ ?_|(intro h;first|replace h:=h.o|cases h))
   all_goals (try omega)
   (refine StopCall.by1 [] (hb) ?_;(all_goals refine lv ?_;repeat' first|exact .intro|refine Tw.mk ?_ ?_|(intro h;first|replace h:=h.o|cases h)))
   all_goals (try (exfalso;exact hf (by assumption)))
   refine zaU (k+1) (by omega) (by omega) (by rw[hn];(refine zaC [0,1,2,3] ?_;repeat' first|exact .intro|refine Tw.mk ?_ ?_);all_goals (all_goals (try first|rfl|(simp;done))))
 .have e:k=l.out.length:=by omega
  subst e;rw[List.take_length];unfold ptM prM;(all_goals refine gv ?_;repeat' first|exact .intro|refine Tw.mk ?_ ?_|(intro h;first|replace h:=h.o|cases h))
  all_goals (try omega)
  all_goals exact Y17
def baR(b:Ba):Res:=.obj (zcD (baM b))
def baR'(kn:Int->Option St3)(ow:List (Int->Bool)):Res:=.obj (zcD (baL kn ow))
theorem zpV(kn:Int->Option St3)(a:Int->Bool)(p:Int)(s:St3):Fn Tryz.prog 79 [.agg (zaF s),.box 0 0,.box 1 0] ([.cells [.v (.int .i64 p)],.cells [.box 2 0]]++za2 (extG 2 (baL kn [a]).length) (baL kn [a])) (.v (.bool (!getW [a] p s.1))) ([.cells [.v (.int .i64 p)],.cells [.box 2 0]]++za2 (extG 2 (baL kn [a]).length) (baL kn [a])):=by
 unfold zaF;by_cases hp:0<=p/\p<1
 .obtain rfl:p=0:=by omega
  show Fn Tryz.prog 79 _ _ (.v (.bool (!a s.1))) _;cases ha:a s.1 with
  |true=>
   have hl:owM a (.int .i64 s.1)=some [.v (.bool true)]:=by simp [owM,ha]
   refine foA zaA [] [] Tryz.func79 Tryz.ntmps79 Tryz.results79 ?_;(all_goals refine fv ?_;repeat' first|exact .intro|refine Tw.mk ?_ ?_|(intro h;first|replace h:=h.o|cases h))
   refine zbj hl ?_;(all_goals refine fv ?_;repeat' first|exact .intro|refine Tw.mk ?_ ?_|(intro h;first|replace h:=h.o|cases h))
   ((try (conv=>whnf));refine StopRet.by [0,1,2,3,4,5] ?_;repeat' first|exact .intro|refine Tw.mk ?_ ?_)
   all_goals rfl
  |false=>
   have hl:owM a (.int .i64 s.1)=none:=by simp [owM,ha]
   refine foA zaA [] [] Tryz.func79 Tryz.ntmps79 Tryz.results79 ?_;(all_goals refine fv ?_;repeat' first|exact .intro|refine Tw.mk ?_ ?_|(intro h;first|replace h:=h.o|cases h))
   refine zdC hl ?_;(all_goals refine fv ?_;repeat' first|exact .intro|refine Tw.mk ?_ ?_|(intro h;first|replace h:=h.o|cases h))
   ((try (conv=>whnf));refine StopRet.by [0,1,2,3,4,5] ?_;repeat' first|exact .intro|refine Tw.mk ?_ ?_)
   all_goals rfl
 .have hV:getW [a] p s.1=false:=by
   unfold getW;rw[if_neg (by omega)];rfl
  rw[hV];refine foA zaA [] [] Tryz.func79 Tryz.ntmps79 Tryz.results79 ?_;(all_goals refine fv ?_;repeat' first|exact .intro|refine Tw.mk ?_ ?_|(intro h;first|replace h:=h.o|cases h))
  all_goals exact Y27
theorem zpD(kn:Int->Option St3)(a b:Int->Bool)(p:Int)(s:St3):Fn Tryz.prog 79 [.agg (zaF s),.box 0 0,.box 1 0] ([.cells [.v (.int .i64 p)],.cells [.box 2 0]]++za2 (extG 2 (baL kn [a,b]).length) (baL kn [a,b])) (.v (.bool (!getW [a,b] p s.1))) ([.cells [.v (.int .i64 p)],.cells [.box 2 0]]++za2 (extG 2 (baL kn [a,b]).length) (baL kn [a,b])):=by
 unfold zaF;by_cases hp:0<=p/\p<2
 .refine or3 (by omega:p=0\/p=1\/p=2) (λe=>?_) (λe=>?_) (λe=>?_);all_goals (subst e)
  all_goals (try (exfalso;omega))
  .show Fn Tryz.prog 79 _ _ (.v (.bool (!a s.1))) _;cases ha:a s.1 with
   |true=>
    have hl:owM a (.int .i64 s.1)=some [.v (.bool true)]:=by simp [owM,ha]
    refine foA zaA [] [] Tryz.func79 Tryz.ntmps79 Tryz.results79 ?_;(all_goals refine fv ?_;repeat' first|exact .intro|refine Tw.mk ?_ ?_|(intro h;first|replace h:=h.o|cases h))
    refine zbj hl ?_;(all_goals refine fv ?_;repeat' first|exact .intro|refine Tw.mk ?_ ?_|(intro h;first|replace h:=h.o|cases h))
    ((try (conv=>whnf));refine StopRet.by [0,1,2,3,4,5,6] ?_;repeat' first|exact .intro|refine Tw.mk ?_ ?_)
    all_goals rfl
   |false=>
    have hl:owM a (.int .i64 s.1)=none:=by simp [owM,ha]
    refine foA zaA [] [] Tryz.func79 Tryz.ntmps79 Tryz.results79 ?_;(all_goals refine fv ?_;repeat' first|exact .intro|refine Tw.mk ?_ ?_|(intro h;first|replace h:=h.o|cases h))
    refine zdC hl ?_;(all_goals refine fv ?_;repeat' first|exact .intro|refine Tw.mk ?_ ?_|(intro h;first|replace h:=h.o|cases h))
    ((try (conv=>whnf));refine StopRet.by [0,1,2,3,4,5,6] ?_;repeat' first|exact .intro|refine Tw.mk ?_ ?_)
    all_goals rfl
  .show Fn Tryz.prog 79 _ _ (.v (.bool (!b s.1))) _;cases ha:b s.1 with
   |true=>
    have hl:owM b (.int .i64 s.1)=some [.v (.bool true)]:=by simp [owM,ha]
    refine foA zaA [] [] Tryz.func79 Tryz.ntmps79 Tryz.results79 ?_;(all_goals refine fv ?_;repeat' first|exact .intro|refine Tw.mk ?_ ?_|(intro h;first|replace h:=h.o|cases h))
    refine zbj hl ?_;(all_goals refine fv ?_;repeat' first|exact .intro|refine Tw.mk ?_ ?_|(intro h;first|replace h:=h.o|cases h))
    ((try (conv=>whnf));refine StopRet.by [0,1,2,3,4,5,6] ?_;repeat' first|exact .intro|refine Tw.mk ?_ ?_)
    all_goals rfl
   |false=>
    have hl:owM b (.int .i64 s.1)=none:=by simp [owM,ha]
    refine foA zaA [] [] Tryz.func79 Tryz.ntmps79 Tryz.results79 ?_;(all_goals refine fv ?_;repeat' first|exact .intro|refine Tw.mk ?_ ?_|(intro h;first|replace h:=h.o|cases h))
    refine zdC hl ?_;(all_goals refine fv ?_;repeat' first|exact .intro|refine Tw.mk ?_ ?_|(intro h;first|replace h:=h.o|cases h))
    ((try (conv=>whnf));refine StopRet.by [0,1,2,3,4,5,6] ?_;repeat' first|exact .intro|refine Tw.mk ?_ ?_)
    all_goals rfl
 .have hV:getW [a,b] p s.1=false:=by
   unfold getW;rw[if_neg (by omega)];unfold getW;rw[if_neg (by omega)];rfl
  rw[hV];refine foA zaA [] [] Tryz.func79 Tryz.ntmps79 Tryz.results79 ?_;(all_goals refine fv ?_;repeat' first|exact .intro|refine Tw.mk ?_ ?_|(intro h;first|replace h:=h.o|cases h))
  all_goals (((try (conv=>whnf));refine StopRet.by [0,1,2,3,4,5,6] ?_;repeat' first|exact .intro|refine Tw.mk ?_ ?_))
theorem zog(kn:Int->Option St3)(a b c:Int->Bool)(p:Int)(s:St3):Fn Tryz.prog 79 [.agg (zaF s),.box 0 0,.box 1 0] ([.cells [.v (.int .i64 p)],.cells [.box 2 0]]++za2 (extG 2 (baL kn [a,b,c]).length) (baL kn [a,b,c])) (.v (.bool (!getW [a,b,c] p s.1))) ([.cells [.v (.int .i64 p)],.cells [.box 2 0]]++za2 (extG 2 (baL kn [a,b,c]).length) (baL kn [a,b,c])):=by
 unfold zaF;by_cases hp:0<=p/\p<3
 .refine or3 (by omega:p=0\/p=1\/p=2) (λe=>?_) (λe=>?_) (λe=>?_);all_goals (subst e)
  .show Fn Tryz.prog 79 _ _ (.v (.bool (!a s.1))) _;cases ha:a s.1 with
   |true=>
    have hl:owM a (.int .i64 s.1)=some [.v (.bool true)]:=by simp [owM,ha]
    refine foA zaA [] [] Tryz.func79 Tryz.ntmps79 Tryz.results79 ?_;(all_goals refine fv ?_;repeat' first|exact .intro|refine Tw.mk ?_ ?_|(intro h;first|replace h:=h.o|cases h))
    refine zbj hl ?_;(all_goals refine fv ?_;repeat' first|exact .intro|refine Tw.mk ?_ ?_|(intro h;first|replace h:=h.o|cases h))
    ((try (conv=>whnf));refine StopRet.by [0,1,2,3,4,5,6,7] ?_;repeat' first|exact .intro|refine Tw.mk ?_ ?_)
    all_goals rfl
   |false=>
    have hl:owM a (.int .i64 s.1)=none:=by simp [owM,ha]
    refine foA zaA [] [] Tryz.func79 Tryz.ntmps79 Tryz.results79 ?_;(all_goals refine fv ?_;repeat' first|exact .intro|refine Tw.mk ?_ ?_|(intro h;first|replace h:=h.o|cases h))
    refine zdC hl ?_;(all_goals refine fv ?_;repeat' first|exact .intro|refine Tw.mk ?_ ?_|(intro h;first|replace h:=h.o|cases h))
    ((try (conv=>whnf));refine StopRet.by [0,1,2,3,4,5,6,7] ?_;repeat' first|exact .intro|refine Tw.mk ?_ ?_)
    all_goals rfl
  .show Fn Tryz.prog 79 _ _ (.v (.bool (!b s.1))) _;cases ha:b s.1 with
   |true=>
    have hl:owM b (.int .i64 s.1)=some [.v (.bool true)]:=by simp [owM,ha]
    refine foA zaA [] [] Tryz.func79 Tryz.ntmps79 Tryz.results79 ?_;(all_goals refine fv ?_;repeat' first|exact .intro|refine Tw.mk ?_ ?_|(intro h;first|replace h:=h.o|cases h))
    refine zbj hl ?_;(all_goals refine fv ?_;repeat' first|exact .intro|refine Tw.mk ?_ ?_|(intro h;first|replace h:=h.o|cases h))
    ((try (conv=>whnf));refine StopRet.by [0,1,2,3,4,5,6,7] ?_;repeat' first|exact .intro|refine Tw.mk ?_ ?_)
    all_goals rfl
   |false=>
    have hl:owM b (.int .i64 s.1)=none:=by simp [owM,ha]
    refine foA zaA [] [] Tryz.func79 Tryz.ntmps79 Tryz.results79 ?_;(all_goals refine fv ?_;repeat' first|exact .intro|refine Tw.mk ?_ ?_|(intro h;first|replace h:=h.o|cases h))
    refine zdC hl ?_;(all_goals refine fv ?_;repeat' first|exact .intro|refine Tw.mk ?_ ?_|(intro h;first|replace h:=h.o|cases h))
    ((try (conv=>whnf));refine StopRet.by [0,1,2,3,4,5,6,7] ?_;repeat' first|exact .intro|refine Tw.mk ?_ ?_)
    all_goals rfl
  .show Fn Tryz.prog 79 _ _ (.v (.bool (!c s.1))) _;cases ha:c s.1 with
   |true=>
    have hl:owM c (.int .i64 s.1)=some [.v (.bool true)]:=by simp [owM,ha]
    refine foA zaA [] [] Tryz.func79 Tryz.ntmps79 Tryz.results79 ?_;(all_goals refine fv ?_;repeat' first|exact .intro|refine Tw.mk ?_ ?_|(intro h;first|replace h:=h.o|cases h))
    refine zbj hl ?_;(all_goals refine fv ?_;repeat' first|exact .intro|refine Tw.mk ?_ ?_|(intro h;first|replace h:=h.o|cases h))
    ((try (conv=>whnf));refine StopRet.by [0,1,2,3,4,5,6,7] ?_;repeat' first|exact .intro|refine Tw.mk ?_ ?_)
    all_goals rfl
   |false=>
    have hl:owM c (.int .i64 s.1)=none:=by simp [owM,ha]
    refine foA zaA [] [] Tryz.func79 Tryz.ntmps79 Tryz.results79 ?_;(all_goals refine fv ?_;repeat' first|exact .intro|refine Tw.mk ?_ ?_|(intro h;first|replace h:=h.o|cases h))
    refine zdC hl ?_;(all_goals refine fv ?_;repeat' first|exact .intro|refine Tw.mk ?_ ?_|(intro h;first|replace h:=h.o|cases h))
    ((try (conv=>whnf));refine StopRet.by [0,1,2,3,4,5,6,7] ?_;repeat' first|exact .intro|refine Tw.mk ?_ ?_)
    all_goals rfl
 .have hV:getW [a,b,c] p s.1=false:=by
   unfold getW;rw[if_neg (by omega)];unfold getW;rw[if_neg (by omega)];unfold getW;rw[if_neg (by omega)];rfl
  rw[hV];refine foA zaA [] [] Tryz.func79 Tryz.ntmps79 Tryz.results79 ?_;(all_goals refine fv ?_;repeat' first|exact .intro|refine Tw.mk ?_ ?_|(intro h;first|replace h:=h.o|cases h))
  all_goals (((try (conv=>whnf));refine StopRet.by [0,1,2,3,4,5,6,7] ?_;repeat' first|exact .intro|refine Tw.mk ?_ ?_))
def clM(kn:Int->Option St3)(ow:List (Int->Bool))(p:Int):List Res:=[.cells [.v (.int .i64 p)],.cells [.box 2 0],baR' kn ow]
theorem owedC_ok(kn:Int->Option St3)(ow:List (Int->Bool))(h1:1<=ow.length)(h3:ow.length<=3)(p:Int)(s:St3):Fn Tryz.prog 79 [.agg (zaF s),.box 0 0,.box 1 0] (clM kn ow p) (.v (.bool (!getW ow p s.1))) (clM kn ow p):=by
 refine np3 (p:=λow=>Fn Tryz.prog 79 [.agg (zaF s),.box 0 0,.box 1 0] (clM kn ow p) (.v (.bool (!getW ow p s.1))) (clM kn ow p)) h1 h3 (λa=>?_) (λa b=>?_) (λa b c=>?_)
 .exact zaO (mt:=[.cells [.v (.int .i64 p)],.cells [.box 2 0],.gone]) (m':=baL kn [a]) (ρ:=[0,1,2]) (κ:=[2,3,4,5]) (zpV kn a p s) rfl rfl rfl rfl (by (all_goals refine gr ?_;repeat' first|exact .intro|refine Tw.mk ?_ ?_)) (by (all_goals refine gr ?_;repeat' first|exact .intro|refine Tw.mk ?_ ?_);all_goals rfl) (by (all_goals refine gr ?_;repeat' first|exact .intro|refine Tw.mk ?_ ?_)) rfl rfl rfl rfl rfl
 .exact zaO (mt:=[.cells [.v (.int .i64 p)],.cells [.box 2 0],.gone]) (m':=baL kn [a,b]) (ρ:=[0,1,2]) (κ:=[2,3,4,5,6]) (zpD kn a b p s) rfl rfl rfl rfl (by (all_goals refine gr ?_;repeat' first|exact .intro|refine Tw.mk ?_ ?_)) (by (all_goals refine gr ?_;repeat' first|exact .intro|refine Tw.mk ?_ ?_);all_goals rfl) (by (all_goals refine gr ?_;repeat' first|exact .intro|refine Tw.mk ?_ ?_)) rfl rfl rfl rfl rfl
 .exact zaO (mt:=[.cells [.v (.int .i64 p)],.cells [.box 2 0],.gone]) (m':=baL kn [a,b,c]) (ρ:=[0,1,2]) (κ:=[2,3,4,5,6,7]) (zog kn a b c p s) rfl rfl rfl rfl (by (all_goals refine gr ?_;repeat' first|exact .intro|refine Tw.mk ?_ ?_)) (by (all_goals refine gr ?_;repeat' first|exact .intro|refine Tw.mk ?_ ?_);all_goals rfl) (by (all_goals refine gr ?_;repeat' first|exact .intro|refine Tw.mk ?_ ?_)) rfl rfl rfl rfl rfl
def zcw(D:St3->Bool):List St3->Nat->Int
 |[],_=> -1
 |s::r,k=>if D s=true then k else zcw D r (k+1)
theorem zgl{D:St3->Bool}: ∀{l:List St3} {k:Nat},(∀s∈l,D s=false)->zcw D l k= -1
 |[],k,h=>rfl
 |s::r,k,h=>by
  unfold zcw;rw[if_neg (by rw[h s (List.mem_cons_self ..)];decide)];exact zgl λt ht=>h t (List.mem_cons_of_mem _ ht)
theorem zgO{D:St3->Bool}: ∀{l:List St3} {k:Nat},(∃s∈l,D s=true)-> ∃i:Nat,i<l.length/\zcw D l k=((k+i:Nat):Int)/\(∀s∈l.take i,D s=false)/\ ∀s,l[i]? =some s->D s=true
 |[],k,h=>by obtain⟨s,hs,_⟩:=h;cases hs
 |s::r,k,h=>by
  by_cases hd:D s=true
  .exact⟨0,by simp,by unfold zcw;rw[if_pos hd];simp,by simp,λt ht=>by simp at ht;subst ht;exact hd⟩
  .obtain⟨t,ht,hdt⟩:=h;have hr: ∃s∈r,D s=true:=by
    rcases List.mem_cons.1 ht with rfl|ht
    .exact absurd hdt hd
    .exact⟨t,ht,hdt⟩
   obtain⟨i,h1,h2,h3,h4⟩:=zgO (k:=k+1) hr;refine⟨i+1,by simp;omega,?_,?_,?_⟩
   .unfold zcw;rw[if_neg hd,h2];congr 1;omega
   .intro u hu;rw[List.take_succ_cons] at hu;rcases List.mem_cons.1 hu with rfl|hu
    .simpa using hd
    .exact h3 u hu
   .intro u hu;exact h4 u (by simpa using hu)
theorem idxS_ok(kn:Int->Option St3)(ow:List (Int->Bool))(p:Int)(l:List St3)(D:St3->Bool)(hl:l.length<=1000000)(hD: ∀s,Fn Tryz.prog 79 [.agg (zaF s),.box 0 0,.box 1 0] (clM kn ow p) (.v (.bool (D s))) (clM kn ow p)):
  Fn Tryz.prog 98 [.arr 0 0 l.length,.clo 79 [.box 1 0,.box 2 0]] [.arr true 42 3 0 (l.map zaF),.cells [.v (.int .i64 p)],.cells [.box 3 0],baR' kn ow] (.v (.int .i64 (zcw D l 0))) [.arr true 42 3 0 (l.map zaF),.cells [.v (.int .i64 p)],.cells [.box 3 0],baR' kn ow]:=by
 unfold clM at hD;refine foA zaA [] [] Tryz.func98 Tryz.ntmps98 Tryz.results98 ?_;(all_goals refine fv ?_;repeat' first|exact .intro|refine Tw.mk ?_ ?_|(intro h;first|replace h:=h.o|cases h))
 refine lpG (λk:Nat=>⟨[(0,.arr 0 0 l.length),(1,.clo 79 [.box 1 0,.box 2 0]),(7,.v (.int .i64 l.length)),(8,.v (.int .i64 k))],[.arr true 42 3 0 (l.map zaF),.cells [.v (.int .i64 p)],.cells [.box 3 0],baR' kn ow]⟩) (λk=>k<=l.length/\zcw D l 0=zcw D (l.drop k) k) (λk=>l.length-k) 0 ⟨by omega,rfl⟩ (by (refine zaC [0,1,2,3] ?_;repeat' first|exact .intro|refine Tw.mk ?_ ?_)) ?_;rintro k ⟨hk,hp⟩;by_cases hk':k<l.length
 .have hDk:=hD l[k];unfold zaF at hDk;rw[za1 hk',show zcw D (l[k]::l.drop (k+1)) k=if D l[k]=true then (k:Int) else zcw D (l.drop (k+1)) (k+1) from rfl] at hp;cases hd:D l[k] with
  |true=>
   rw[if_pos hd] at hp;rw[hd] at hDk;((all_goals (try (repeat' (conv=>whnf);(first|with_reducible refine And.intro ?_ ?_|with_reducible exact True.intro|(intro h;(first|cases h|((try simp only[vis,Int.reduceToNat] at h);(try (exfalso;omega)))))|(with_reducible refine Vc.mk ?_;fail)|(with_reducible refine cutG ?_;fail)|refine zap ?_ ?_|refine zaa ?_ ?_ ?_|(refine StopAt.mk (by omega) (by omega) ?_)|(refine zf4 hk' ?_)))));(all_goals (first|omega|(conv=>whnf)|skip)))
   all_goals (try omega)
   all_goals (try ((with_reducible refine Vc.mk ?_);(try exact GLt)))
   (refine⟨_,_,_,_,[1,2,3],hDk,rfl,rfl,rfl,?_,?_,?_⟩)
   .exact Y28
   .exact Y3
   (all_goals refine fv ?_;repeat' first|exact .intro|refine Tw.mk ?_ ?_|(intro h;first|replace h:=h.o|cases h))
   ((try (conv=>whnf));refine StopRet.by [0,1,2,3] ?_;repeat' first|exact .intro|refine Tw.mk ?_ ?_)
   all_goals (first|rfl|exact hp.symm)
  |false=>
   rw[if_neg (by rw[hd];decide)] at hp;rw[hd] at hDk;((all_goals (try (repeat' (conv=>whnf);(first|with_reducible refine And.intro ?_ ?_|with_reducible exact True.intro|(intro h;(first|cases h|((try simp only[vis,Int.reduceToNat] at h);(try (exfalso;omega)))))|(with_reducible refine Vc.mk ?_;fail)|(with_reducible refine cutG ?_;fail)|refine zap ?_ ?_|refine zaa ?_ ?_ ?_|(refine StopAt.mk (by omega) (by omega) ?_)|(refine zf4 hk' ?_)))));(all_goals (first|omega|(conv=>whnf)|skip)))
   all_goals (try omega)
   all_goals (try ((with_reducible refine Vc.mk ?_);(try exact GLt)))
   (refine⟨_,_,_,_,[1,2,3],hDk,rfl,rfl,rfl,?_,?_,?_⟩)
   .exact Y28
   .exact Y3
   (all_goals refine fv ?_;repeat' first|exact .intro|refine Tw.mk ?_ ?_|(intro h;first|replace h:=h.o|cases h))
   refine zaU (k+1) ⟨by omega,hp⟩ (by omega) (by (refine zaC [0,1,2,3] ?_;repeat' first|exact .intro|refine Tw.mk ?_ ?_))
 .have ek:k=l.length:=by omega
  subst ek;(all_goals refine fv ?_;repeat' first|exact .intro|refine Tw.mk ?_ ?_|(intro h;first|replace h:=h.o|cases h))
  ((try (conv=>whnf));refine StopRet.by [0,1,2,3] ?_;repeat' first|exact .intro|refine Tw.mk ?_ ?_)
  all_goals (first|rfl|(rw[hp];simp [zcw]))
def kc(K:St3->Bool)(l:List St3)(j:Nat):Nat:=((l.take j).filter K).length
structure KInv (K:St3->Bool) (l l':List St3) (j:Nat):Prop where
 len:l'.length=l.length
 lt:kc K l j<j
 jle:j<=l.length
 low:l'.take (kc K l j)=(l.take j).filter K
 high:l'.drop j=l.drop j
theorem KInv.at{K:St3->Bool}{l l':List St3}{j:Nat}(h:KInv K l l' j)(hj:j<l.length): ∃h':j<l'.length,l'[j]=l[j]:=by
 refine⟨by rw[h.len];exact hj,?_⟩;have e:=h.high;rw[za1 (by rw[h.len];exact hj),za1 hj] at e;exact (List.cons.inj e).1
theorem KInv.skip{K:St3->Bool}{l l':List St3}{j:Nat}(h:KInv K l l' j)(hj:j<l.length)(hk:K l[j]=false):KInv K l l' (j+1)/\kc K l (j+1)=kc K l j:=by
 have hf:(l.take (j+1)).filter K=(l.take j).filter K:=by rw[zaT hj,List.filter_append];simp [hk]
 have hc:kc K l (j+1)=kc K l j:=by unfold kc;rw[hf]
 refine⟨⟨h.len,by rw[hc];have:=h.lt;omega,hj,by rw[hc,hf];exact h.low,?_⟩,hc⟩;have e:=h.high;rw[za1 (by rw[h.len];exact hj),za1 hj] at e;exact (List.cons.inj e).2
theorem KInv.keep{K:St3->Bool}{l l':List St3}{j:Nat}(h:KInv K l l' j)(hj:j<l.length)(hk:K l[j]=true):KInv K l (l'.set (kc K l j) l[j]) (j+1)/\kc K l (j+1)=kc K l j+1:=by
 have hf:(l.take (j+1)).filter K=(l.take j).filter K++[l[j]]:=by rw[zaT hj,List.filter_append];simp [hk]
 have hc:kc K l (j+1)=kc K l j+1:=by unfold kc;rw[hf];simp
 have hlt:=h.lt;have hl:=h.len;refine⟨⟨by rw[List.length_set];exact hl,by rw[hc];omega,hj,?_,?_⟩,hc⟩
 .rw[hc,hf,zaT (by rw[List.length_set];omega),List.getElem_set_self,List.take_set_of_le (Nat.le_refl _),h.low]
 .rw[List.drop_set_of_lt (by omega)];have e:=h.high;rw[za1 (by omega),za1 hj] at e;exact (List.cons.inj e).2
theorem KInv.start{K:St3->Bool}{l:List St3}{i:Nat}(hi:i<l.length)(h: ∀s∈l.take i,K s=true)(hd:K l[i]=false):KInv K l l (i+1)/\kc K l (i+1)=i:=by
 have hf0:(l.take i).filter K=l.take i:=List.filter_eq_self.2 h;have hf:(l.take (i+1)).filter K=l.take i:=by rw[zaT hi,List.filter_append,hf0];simp [hd]
 have hc:kc K l (i+1)=i:=by unfold kc;rw[hf,List.length_take];omega
 exact⟨⟨rfl,by rw[hc];omega,hi,by rw[hc,hf],rfl⟩,hc⟩
def zRow:List AV:=[.v (.int .i64 0),.v (.int .i64 0),.v (.slice none 0 0)]
theorem KInv.done{K:St3->Bool}{l l':List St3}(h:KInv K l l' l.length):(l'.map zaF).take (kc K l l.length)++List.replicate (l.length-kc K l l.length) zRow++(l'.map zaF).drop l.length=(l.filter K).map zaF++List.replicate (l.length-(l.filter K).length) zRow:=by
 have h1:=h.low;have hc:kc K l l.length=(l.filter K).length:=by unfold kc;rw[List.take_length]
 rw[<-List.map_take,h1,List.take_length,hc,List.drop_eq_nil_of_le (by rw[List.length_map,h.len];exact Nat.le_refl _),List.append_nil]
theorem delS_ok(kn:Int->Option St3)(ow:List (Int->Bool))(p:Int)(l:List St3)(K:St3->Bool)(hl:l.length<=1000000)(hD: ∀s,Fn Tryz.prog 79 [.agg (zaF s),.box 0 0,.box 1 0] (clM kn ow p) (.v (.bool (!K s))) (clM kn ow p)):
  Fn Tryz.prog 78 [.arr 0 0 l.length,.clo 79 [.box 1 0,.box 2 0]] [.arr true 42 3 0 (l.map zaF),.cells [.v (.int .i64 p)],.cells [.box 3 0],baR' kn ow] (.arr 0 0 (l.filter K).length) [.arr true 42 3 0 ((l.filter K).map zaF++List.replicate (l.length-(l.filter K).length) zRow),.cells [.v (.int .i64 p)],.cells [.box 3 0],baR' kn ow]:=by
 have hidx:=idxS_ok kn ow p l (λs=> !K s) hl hD;unfold clM at hD;by_cases hall: ∀s∈l,K s=true
 .rw[zgl (λs hs=>by simp [hall s hs])] at hidx;have hf:l.filter K=l:=List.filter_eq_self.2 hall;rw[hf];refine foA zaA [] [] Tryz.func78 Tryz.ntmps78 Tryz.results78 ?_;(all_goals refine fv ?_;repeat' first|exact .intro|refine Tw.mk ?_ ?_|(intro h;first|replace h:=h.o|cases h))
  (refine⟨_,_,_,_,[0,1,2,3],hidx,rfl,rfl,rfl,?_,?_,?_⟩)
  .exact Y28
  .exact Y28
  (all_goals refine fv ?_;repeat' first|exact .intro|refine Tw.mk ?_ ?_|(intro h;first|replace h:=h.o|cases h))
  ((try (conv=>whnf));refine StopRet.by [0,1,2,3] ?_;repeat' first|exact .intro|refine Tw.mk ?_ ?_)
  all_goals (first|rfl|(simp;done))
 .have hex: ∃s∈l,(!K s)=true:=by
   obtain⟨s,hs⟩:=Classical.not_forall.1 hall;obtain⟨h1,h2⟩:=Classical.not_imp.1 hs;exact⟨s,h1,by simpa using h2⟩
  obtain⟨i0,hi0,hfs,hbef,hat⟩:=zgO (k:=0) hex;rw[hfs,Nat.zero_add] at hidx;have hkd:K l[i0]=false:=by have:=hat l[i0] (List.getElem?_eq_getElem hi0);simpa using this
  have hstart:=KInv.start (K:=K) hi0 (λs hs=>by simpa using hbef s hs) hkd;clear hfs hbef hat hex hall;refine foA zaA [] [] Tryz.func78 Tryz.ntmps78 Tryz.results78 ?_;(all_goals refine fv ?_;repeat' first|exact .intro|refine Tw.mk ?_ ?_|(intro h;first|replace h:=h.o|cases h))
  (refine⟨_,_,_,_,[0,1,2,3],hidx,rfl,rfl,rfl,?_,?_,?_⟩)
  .exact Y28
  .exact Y28
  (all_goals refine fv ?_;repeat' first|exact .intro|refine Tw.mk ?_ ?_|(intro h;first|replace h:=h.o|cases h))
  refine lpG2 (λ(j:Nat) (l':List St3)=>⟨[(0,.arr 0 0 l.length),(1,.clo 79 [.box 1 0,.box 2 0]),(5,.v (.int .i64 (kc K l j))),(6,.v (.int .i64 j))],[.arr true 42 3 0 (l'.map zaF),.cells [.v (.int .i64 p)],.cells [.box 3 0],baR' kn ow]⟩) (λj l'=>KInv K l l' j) (λj l'=>l.length-j) (i0+1) l hstart.1 (by rw[hstart.2];(refine zaC [0,1,2,3] ?_;repeat' first|exact .intro|refine Tw.mk ?_ ?_)) ?_;intro j l' hI;have hjle:=hI.jle;have hlt:=hI.lt;have hlen:=hI.len;by_cases hj:j<l.length
  .obtain⟨hj',hat⟩:=hI.at hj;have hDk:=hD l[j];unfold zaF at hDk;rw[<-hat] at hDk;cases hk:K l[j] with
   |true=>
    have hn:=hI.keep hj hk;rw[<-hat] at hk;rw[hk] at hDk;have hset:(l'.map zaF).set (kc K l j) (zaF l'[j])=(l'.set (kc K l j) l[j]).map zaF:=by rw[List.map_set,hat]
    unfold zaF at hset;have hki:kc K l j<l'.length:=by omega
    ((all_goals (try (repeat' (conv=>whnf);(first|with_reducible refine And.intro ?_ ?_|with_reducible exact True.intro|(intro h;(first|cases h|((try simp only[vis,Int.reduceToNat] at h);(try (exfalso;omega)))))|(with_reducible refine Vc.mk ?_;fail)|(with_reducible refine cutG ?_;fail)|refine zap ?_ ?_|refine zaa ?_ ?_ ?_|(refine StopAt.mk (by omega) (by omega) ?_)|(refine zf4 (k:=j) hj' ?_)|(refine zf4 (k:=kc K l j) hki ?_)))));(all_goals (first|omega|(conv=>whnf)|skip)))
    all_goals (try omega)
    all_goals (try ((with_reducible refine Vc.mk ?_);(try exact GLt)))
    (refine⟨_,_,_,_,[1,2,3],hDk,rfl,rfl,rfl,?_,?_,?_⟩)
    .exact Y28
    .exact Y3
    ((all_goals (try (repeat' (conv=>whnf);(first|with_reducible refine And.intro ?_ ?_|with_reducible exact True.intro|(intro h;(first|cases h|((try simp only[vis,Int.reduceToNat] at h);(try (exfalso;omega)))))|(with_reducible refine Vc.mk ?_;fail)|(with_reducible refine cutG ?_;fail)|refine zap ?_ ?_|refine zaa ?_ ?_ ?_|(refine StopAt.mk (by omega) (by omega) ?_)|(refine zf4 (k:=kc K l j) hki ?_)))));(all_goals (first|omega|(conv=>whnf)|skip)))
    all_goals (try omega)
    all_goals (try ((with_reducible refine Vc.mk ?_);(try exact GLt)))
    refine za3 (j+1) (l'.set (kc K l j) l[j]) hn.1 (by omega) (by rw[hn.2];(refine zaC [0,1,2,3] ?_;repeat' first|exact .intro|refine Tw.mk ?_ ?_);all_goals (all_goals (first|rfl|exact hset)))
   |false=>
    have hn:=hI.skip hj hk;rw[<-hat] at hk;rw[hk] at hDk;((all_goals (try (repeat' (conv=>whnf);(first|with_reducible refine And.intro ?_ ?_|with_reducible exact True.intro|(intro h;(first|cases h|((try simp only[vis,Int.reduceToNat] at h);(try (exfalso;omega)))))|(with_reducible refine Vc.mk ?_;fail)|(with_reducible refine cutG ?_;fail)|refine zap ?_ ?_|refine zaa ?_ ?_ ?_|(refine StopAt.mk (by omega) (by omega) ?_)|(refine zf4 (k:=j) hj' ?_)))));(all_goals (first|omega|(conv=>whnf)|skip)))
    all_goals (try omega)
    all_goals (try ((with_reducible refine Vc.mk ?_);(try exact GLt)))
    (refine⟨_,_,_,_,[1,2,3],hDk,rfl,rfl,rfl,?_,?_,?_⟩)
    .exact Y28
    .exact Y3
    (all_goals refine fv ?_;repeat' first|exact .intro|refine Tw.mk ?_ ?_|(intro h;first|replace h:=h.o|cases h))
    refine za3 (j+1) l' hn.1 (by omega) (by rw[hn.2];(refine zaC [0,1,2,3] ?_;repeat' first|exact .intro|refine Tw.mk ?_ ?_))
  .have ej:j=l.length:=by omega
   subst ej;have hd:=hI.done;have hc:kc K l l.length=(l.filter K).length:=by unfold kc;rw[List.take_length]
   rw[hc] at hd hlt ⊢;unfold zRow at hd ⊢;(all_goals refine fv ?_;repeat' first|exact .intro|refine Tw.mk ?_ ?_|(intro h;first|replace h:=h.o|cases h))
   ((try (conv=>whnf));refine StopRet.by [0,1,2,3] ?_;repeat' first|exact .intro|refine Tw.mk ?_ ?_)
   all_goals (first|rfl|exact hd)
def outS(l:List St3)(r:Int)(far next:Int->Int)(done:Int->Bool):AS:=⟨[(0,.sl 3 (l.map zaF) none),(1,.v (.int .i64 r)),(5,.box 0 0),(6,.box 1 0),(7,.box 2 0)],[.cells (farC far),.cells (farC next),.cells (donC done)]⟩
theorem hops_ok(l:List St3)(r:Int)(hl:zj2 l)(hM:MOk (met l)):Fn Tryz.prog 39 [.sl 3 (l.map zaF) none,.v (.int .i64 r)] [] (.sl 3 ((zdP l r).map hRow) none) []:=by
 have hex: ∃o2 d2 y2 z2 o3 d3 y3 z3 o4 d4 y4 z4,(.seq (.seq (.region 13 o2 d2) y2) z2:Code)=zeM Tryz.f39 2/\(.seq (.seq (.region 20 o3 d3) y3) z3:Code)=zeM Tryz.f39 3/\(.seq (.seq (.region 31 o4 d4) y4) z4:Code)=zeM Tryz.f39 4/\Tryz.f39.body=some (reb [(13,.seq (.seq (.region 13 o2 d2) y2) z2),(20,.seq (.seq (.region 20 o3 d3) y3) z3),(31,.seq (.seq (.region 31 o4 d4) y4) z4)] (zhO Tryz.f39)):=⟨_,_,_,_,_,_,_,_,_,_,_,_,rfl,rfl,rfl,by kernel_rfl⟩;refine Exists.elim hex λo2 hex=>Exists.elim hex λd2 hex=>Exists.elim hex λy2 hex=>Exists.elim hex λz2 hex=>?_;refine Exists.elim hex λo3 hex=>Exists.elim hex λd3 hex=>Exists.elim hex λy3 hex=>Exists.elim hex λz3 hex=>?_;refine Exists.elim hex λo4 hex=>Exists.elim hex λd4 hex=>Exists.elim hex λy4 hex=>Exists.elim hex λz4 hex=>?_;have hc2:=hex.1;have hc3:=hex.2.1;have hc4:=hex.2.2.1;have hcb:=hex.2.2.2;clear hex;refine fn_of zaA [] [8,11,19] Tryz.func39 (hcb) (by decide+kernel) Tryz.ntmps39 rfl (congrArg Array.toList Tryz.results39) rfl (named_ok (hcb) (by decide+kernel)) ?_;(all_goals refine gv ?_;repeat' first|exact .intro|refine Tw.mk ?_ ?_|(intro h;first|replace h:=h.o|cases h))
 refine cutK ⟨[(0,.sl 3 (l.map zaF) none),(1,.v (.int .i64 r)),(5,.box 0 0),(6,.box 1 0),(7,.box 2 0)],[.cells (farC λ_=> -1),.cells (farC λ_=>0),.cells (donC λ_=>false)]⟩ ?_ (λhy=>?_);rotate_left
 ·(all_goals refine gv ?_;repeat' first|exact .intro|refine Tw.mk ?_ ?_|(intro h;first|replace h:=h.o|cases h))
  (conv=>whnf)
  refine lpG (λk:Nat=>⟨[(0,.sl 3 (l.map zaF) none),(1,.v (.int .i64 r)),(5,.box 0 0),(6,.box 1 0),(7,.box 2 0),(16,.v (.int .i64 k))],[.cells (farC λi=>if i<k then -1 else 0),.cells (farC λ_=>0),.cells (donC λ_=>false)]⟩) (λk=>k<=7) (λk=>7-k) 0 (by omega) (by (refine zaC [0,1,2] ?_;repeat' first|exact .intro|refine Tw.mk ?_ ?_)) ?_;rintro k hk;by_cases hk7:k<7
  .skip
   obtain⟨k',hk'⟩: ∃k',k'=k+1:=⟨_,rfl⟩;clear hy;refine or7 (by omega:k=0\/k=1\/k=2\/k=3\/k=4\/k=5\/k=6) (λek=>?_) (λek=>?_) (λek=>?_) (λek=>?_) (λek=>?_) (λek=>?_) (λek=>?_);all_goals
    subst ek;((all_goals (try (repeat' (conv=>whnf);(first|with_reducible refine And.intro ?_ ?_|with_reducible exact True.intro|(intro h;(first|cases h|((try simp only[vis,Int.reduceToNat] at h);(try (exfalso;omega)))))|(with_reducible refine Vc.mk ?_;fail)|(with_reducible refine cutG ?_;fail)|refine zap ?_ ?_|refine zaa ?_ ?_ ?_|(refine StopAt.mk (by decide) (by decide) ?_)))));(all_goals (first|omega|(conv=>whnf)|skip)))
    all_goals (try omega)
    all_goals (try ((with_reducible refine Vc.mk ?_);(try exact GLt)))
    all_goals (refine zaU k' (by omega) (by omega) (by subst hk';(refine zaC [0,1,2] ?_;repeat' first|exact .intro|refine Tw.mk ?_ ?_);all_goals (all_goals (try first|rfl|decide))))
  .have ek:k=7:=by omega
   subst ek;(all_goals refine gv ?_;repeat' first|exact .intro|refine Tw.mk ?_ ?_|(intro h;first|replace h:=h.o|cases h))
   all_goals (try omega)
   exact⟨_,by (refine zaC [0,1,2] ?_;repeat' first|exact .intro|refine Tw.mk ?_ ?_);all_goals (all_goals (try first|rfl|decide)),hy⟩
 by_cases hr:1<=r/\r<=6
 .have hR:zdP l r=hopsM (met l) r:=by unfold zdP;rw[if_pos hr]
  rw[hR];(all_goals refine gv ?_;repeat' first|exact .intro|refine Tw.mk ?_ ?_|(intro h;first|replace h:=h.o|cases h))
  all_goals (try omega)
  refine cutK ⟨[(0,.sl 3 (l.map zaF) none),(1,.v (.int .i64 r)),(5,.box 0 0),(6,.box 1 0),(7,.box 2 0)],[.cells (farC (upd (λ_=> -1) r 0)),.cells (farC λ_=>0),.cells (donC λ_=>false)]⟩ ?_ (λhy=>?_);rotate_left
  .skip
   refine or6 (by omega:r=1\/r=2\/r=3\/r=4\/r=5\/r=6) (λer=>?_) (λer=>?_) (λer=>?_) (λer=>?_) (λer=>?_) (λer=>?_);all_goals
    subst er;((all_goals (try (repeat' (conv=>whnf);(first|with_reducible refine And.intro ?_ ?_|with_reducible exact True.intro|(intro h;(first|cases h|((try simp only[vis,Int.reduceToNat] at h);(try (exfalso;omega)))))|(with_reducible refine Vc.mk ?_;fail)|(with_reducible refine cutG ?_;fail)|refine zap ?_ ?_|refine zaa ?_ ?_ ?_|(refine StopAt.mk (by decide) (by decide) ?_)))));(all_goals (first|omega|(conv=>whnf)|skip)))
    exact⟨_,by (refine zaC [0,1,2] ?_;repeat' first|exact .intro|refine Tw.mk ?_ ?_);all_goals (all_goals (try first|rfl|decide)),hy⟩
  have hrn:nod r:=hr;(conv=>whnf)
  refine lpG3 (outS l r)
   (λfar next done=>DInv (met l) r far next done/\ ∀n,nod n->far n<=20*(6-zcr done)) (λfar next done=>zcr done) _ _ _ ⟨DInv.start hrn,λn hn=>?_⟩ (AS.le_refl _ _) ?_
  .have:=zif (λ_=>false);show upd (λ_=>(-1:Int)) r 0 n<=20*(6-zcr (λ_=>false));by_cases e:n=r
   .rw[e,zav];omega
   .rw[zbM _ _ e];omega
  intro far next done hq
  have hD:=hq.1;have hB:=hq.2;clear hq;have hfr:=zif done;(all_goals refine gv ?_;repeat' first|exact .intro|refine Tw.mk ?_ ?_|(intro h;first|replace h:=h.o|cases h))
  (conv=>whnf)
  refine lpG2 (λm a=>pickA l r far next done m a)
   (λm a=>1<=m/\m<=7/\Pick far done m a) (λm a=>(7-m).toNat) 1 0 ⟨by decide,by decide,.inl ⟨rfl,λn h1 h2=>by omega⟩⟩ ?_ ?_
  ·(refine zaC [0,1,2] ?_;repeat' first|exact .intro|refine Tw.mk ?_ ?_)
  intro m a hq;have hm1:=hq.1;have hm7:=hq.2.1;have hP:=hq.2.2;clear hq;by_cases hm:m<=6
  .have ha:a=0\/(1<=a/\a<m):=by
    rcases hP with⟨h,_⟩|⟨h,h2,_⟩
    .exact .inl h
    .exact .inr ⟨h,h2⟩
   refine zeO (P:=Tryz.prog) (mt:=[]) (cuts:=[8,11,19]) hc2 (zmr l r far next done m a hm1 hm ha _ _ _ ?_ ?_)
   .intro h A hle;exact za3 (m+1) a ⟨by omega,by omega,hP.keep hm1 h⟩ (by omega) hle
   .intro h1 h2 h3 A hle;exact za3 (m+1) m ⟨by omega,by omega,hP.take hm1 h1 h2 h3⟩ (by omega) hle
  .have em:m=7:=by omega
   subst em;refine zeO (P:=Tryz.prog) (mt:=[]) (cuts:=[8,11,19]) hc2 ?_;by_cases ha:a=0
   .subst ha;have hend: ∀n,nod n->done n=false->far n<0:=by
     rcases hP with⟨_,h⟩|⟨h,_⟩
     .exact λn hn hd=>h n hn.1 (by have:=hn.2;omega) hd
     .omega
    have hhop:=λn hn=>hD.hop hend (n:=n) hn;have hsucc: ∀k,hopsTo (met l) r (k+1)=hopsTo (met l) r k++zky (met l) r ((k:Int)+1):=λk=>rfl;have hlen:=zf2 (met l) r;clear hD hB hP;(all_goals refine gv ?_;repeat' first|exact .intro|refine Tw.mk ?_ ?_|(intro h;first|replace h:=h.o|cases h))
    all_goals (try omega)
    (conv=>whnf)
    refine lpG (λk:Nat=>outA r far next (hopsTo (met l) r k) ((k:Int)+1)) (λk=>k<=6) (λk=>6-k) 0 (by omega) (by
     refine AS.le_trans (zeb 14 79 3 rfl) ?_;(refine zaC [0,1,3] ?_;repeat' first|exact .intro|refine Tw.mk ?_ ?_)) ?_
    rintro k hk;by_cases hk6:k<6
    .have hS:=hsucc k;rw[hhop _ ⟨by omega,by omega⟩] at hS;have hl2:=hlen k;refine zeO (P:=Tryz.prog) (mt:=[]) (cuts:=[8,11,19]) hc4 (zor r far next (hopsTo (met l) r k) (by omega) ((k:Int)+1) (by omega) (by omega) _ _ _ ?_);intro A hle;exact zaU (k+1) (by omega) (by omega) (by rw[hS];exact hle)
    .have ek:k=6:=by omega
     subst ek;refine zeO (P:=Tryz.prog) (mt:=[]) (cuts:=[8,11,19]) hc4 ?_;(all_goals refine gv ?_;repeat' first|exact .intro|refine Tw.mk ?_ ?_|(intro h;first|replace h:=h.o|cases h))
     all_goals (try omega)
     ((try (conv=>whnf));refine StopRet.by [] ?_;repeat' first|exact .intro|refine Tw.mk ?_ ?_)
     all_goals rfl
   .have hR0:=RInv.start hD hP ha;have ha16:1<=a/\a<=6/\done a=false:=by
     rcases hP with⟨h,_⟩|⟨h,h2,h3,_⟩
     .exact absurd h ha
     .exact⟨h,by omega,h3⟩
    have hfu:=zom (been:=done) (a:=a) ⟨ha16.1,ha16.2.1⟩ ha16.2.2;have hB1: ∀n,nod n->far n<=20*(6-zcr (upd done a true)):=λn hn=>by have:=hB n hn;omega
    have hB2:far a<=20*(6-zcr (upd done a true))-20:=by have:=hB a ⟨ha16.1,ha16.2.1⟩;omega
    have hfr2:=zif (upd done a true);have hex: ∃dn,dn=upd done a true/\RInv (met l) r a 1 far next dn/\zcr dn+1=zcr done/\(∀n,nod n->far n<=20*(6-zcr dn))/\far a<=20*(6-zcr dn)-20/\zcr dn<=6:=⟨_,rfl,hR0,hfu,hB1,hB2,hfr2⟩
    clear hR0 hfu hB1 hB2 hfr2 hB hP hD;refine Exists.elim hex λdn hex=>?_;have hdn:=hex.1;have hR0:=hex.2.1;have hfu:=hex.2.2.1;have hB1:=hex.2.2.2.1;have hB2:=hex.2.2.2.2.1;have hfr2:=hex.2.2.2.2.2;clear hex;have hmet:=λm=>zgV l a m hl;have hMp:=λm=>hM.pos a m;have hMm:=λm=>hM.most a m;(all_goals refine gv ?_;repeat' first|exact .intro|refine Tw.mk ?_ ?_|(intro h;first|replace h:=h.o|cases h))
    all_goals (try omega)
    refine cutK ⟨[(0,.sl 3 (l.map zaF) none),(1,.v (.int .i64 r)),(5,.box 0 0),(6,.box 1 0),(7,.box 2 0),(9,.v (.int .i64 a))],[.cells (farC far),.cells (farC next),.cells (donC dn)]⟩ ?_ (λhy=>?_);rotate_left
    .clear hR0 hfu hB1 hB2 hmet hMp hMm;refine or6 (by omega:a=1\/a=2\/a=3\/a=4\/a=5\/a=6) (λea=>?_) (λea=>?_) (λea=>?_) (λea=>?_) (λea=>?_) (λea=>?_);all_goals
      subst ea;((all_goals (try (repeat' (conv=>whnf);(first|with_reducible refine And.intro ?_ ?_|with_reducible exact True.intro|(intro h;(first|cases h|((try simp only[vis,Int.reduceToNat] at h);(try (exfalso;omega)))))|(with_reducible refine Vc.mk ?_;fail)|(with_reducible refine cutG ?_;fail)|refine zap ?_ ?_|refine zaa ?_ ?_ ?_|(refine StopAt.mk (by decide) (by decide) ?_)))));(all_goals (first|omega|(conv=>whnf)|skip)))
      exact⟨_,by (refine zaC [0,1,2] ?_;repeat' first|exact .intro|refine Tw.mk ?_ ?_);all_goals (all_goals (try first|rfl|(rw[hdn];rfl))),hy⟩
    (conv=>whnf)
    refine lpG3 (λm f g=>relA l r a dn m f g)
     (λm f g=>1<=m/\m<=7/\RInv (met l) r a m f g dn/\(∀n,nod n->f n<=20*(6-zcr dn))/\f a<=20*(6-zcr dn)-20) (λm f g=>(7-m).toNat) 1 far next ⟨Int.le_refl 1,(by show (1:Int)<=7;decide),hR0,hB1,hB2⟩ (by (refine zaC [0,1,2] ?_;repeat' first|exact .intro|refine Tw.mk ?_ ?_)) ?_
    intro m f g hq;have hm1:=hq.1;have hm7:=hq.2.1;have hR:=hq.2.2.1;have hC1:=hq.2.2.2.1;have hC2:=hq.2.2.2.2;clear hq hR0 hB1 hB2;by_cases hm6:m<=6
    .have hmn:nod m:=⟨hm1,hm6⟩;have hCm:=hC1 m hmn;have hap:=hR.apos;have had:=hR.adone;have hmet':=hmet m;have hMp':=hMp m;have hMm':=hMm m;have hCt:dn m=false->(∀n,nod n->upd f m (f a+met l a m) n<=20*(6-zcr dn))/\upd f m (f a+met l a m) a<=20*(6-zcr dn)-20:=by
      intro hdm;constructor
      .intro n hn;by_cases e:n=m
       .subst e;rw[zav];omega
       .rw[zbM _ _ e];exact hC1 n hn
      .have e:a≠m:=by rintro rfl;rw[had] at hdm;cases hdm
       rw[zbM _ _ e];exact hC2
     have hk:((met l a m=0\/dn m=true)\/(0<=f m/\lx (f m) (g m) (f a+met l a m) (byOf r a m g)))->RInv (met l) r a (m+1) f g dn:=by
      rintro (h|⟨h,h'⟩)
      .exact hR.skip hM h hmn
      .exact hR.keep hmn h h'
     have ht:met l a m≠0->dn m=false->(f m<0\/lx (f a+met l a m) (byOf r a m g) (f m) (g m))->RInv (met l) r a (m+1) (upd f m (f a+met l a m)) (upd g m (byOf r a m g)) dn:=λh1 h2 h3=>hR.take hmn (by omega) h2 h3;have hby1:a=r->byOf r a m g=m:=λe=>by unfold byOf;rw[if_pos e]
     have hby2:a≠r->byOf r a m g=g a:=λe=>by unfold byOf;rw[if_neg e]
     by_cases ha3:a<=3
     .refine zeO (P:=Tryz.prog) (mt:=[]) (cuts:=[8,11,19]) hc3 (zmc l r a hl f g dn m hm1 hm6 ha16.1 ha3 hap (by omega) hMp' hMm' (byOf r a m g) hby1 hby2 _ _ _ ?_ ?_)
      .intro h A hle;exact zmT (m+1) f g ⟨by omega,by omega,hk h,hC1,hC2⟩ (by omega) hle
      .exact Y101
     .refine zeO (P:=Tryz.prog) (mt:=[]) (cuts:=[8,11,19]) hc3 (zm8 l r a hl f g dn m hm1 hm6 (by omega) ha16.2.1 hap (by omega) hMp' hMm' (byOf r a m g) hby1 hby2 _ _ _ ?_ ?_)
      .intro h A hle;exact zmT (m+1) f g ⟨by omega,by omega,hk h,hC1,hC2⟩ (by omega) hle
      .exact Y101
    .have em:m=7:=by omega
     subst em;refine zeO (P:=Tryz.prog) (mt:=[]) (cuts:=[8,11,19]) hc3 ?_;(all_goals refine gv ?_;repeat' first|exact .intro|refine Tw.mk ?_ ?_|(intro h;first|replace h:=h.o|cases h))
     all_goals (try omega)
     refine zmT f g dn ⟨hR.done,hC1⟩ (by omega) (by (refine zaC [0,1,2] ?_;repeat' first|exact .intro|refine Tw.mk ?_ ?_))
 .have hR:zdP l r=[]:=by unfold zdP;rw[if_neg hr]
  rw[hR];(all_goals refine gv ?_;repeat' first|exact .intro|refine Tw.mk ?_ ?_|(intro h;first|replace h:=h.o|cases h))
  all_goals (try omega)
  all_goals exact Y13
end Go.Proofs.YtimfnpjcedjmiadGreat
namespace Go.Proofs.YtimfnpjcedjmiadGreat
structure Pt.fine (n:Nat) (p:Pt):Prop where
 m:0<=p.m/\p.m<=20
 l:p.l.fit 0
 rd:p.rd.ok
 pe:p.p.ok
 out:p.out.length<=n
structure Rt.fine (n d:Nat) (r:Rt):Prop where
 b:r.b.ok
 ps: ∀p∈r.ps,p.fine n
 inb:r.inb.length<=n
 dr: -(d:Int)<=r.dr/\r.dr<=d
theorem Pt.fine.up{n k:Nat}{p:Pt}(h:p.fine n)(hk:n<=k):p.fine k:=⟨h.m,h.l,h.rd,h.pe,Nat.le_trans h.out hk⟩
theorem Rt.fine.up{n k d:Nat}{r:Rt}(h:r.fine n d)(hk:n<=k):r.fine k d:=⟨h.b,λp hp=>(h.ps p hp).up hk,Nat.le_trans h.inb hk,h.dr⟩
theorem Rt.fine.upD{n d e:Nat}{r:Rt}(h:r.fine n d)(hd:d<=e):r.fine n e:=⟨h.b,h.ps,h.inb,by have:=h.dr;omega⟩
theorem zdK{α:Type}{f:α->α}{x:α}: ∀{l:List α} {i:Nat},x∈l.modify i f->x∈l\/ ∃y∈l,x=f y
 |[],i,h=>by simp at h
 |a::l,0,h=>by
  simp only[List.modify_zero_cons,List.mem_cons] at h;rcases h with h|h
  .exact .inr ⟨a,List.mem_cons_self .., h⟩
  .exact .inl (List.mem_cons_of_mem _ h)
 |a::l,i+1,h=>by
  simp only[List.modify_succ_cons,List.mem_cons] at h;rcases h with h|h
  .exact .inl (h▸List.mem_cons_self ..)
  .rcases zdK h with h|⟨y,hy,e⟩
   .exact .inl (List.mem_cons_of_mem _ h)
   .exact .inr ⟨y,List.mem_cons_of_mem _ hy,e⟩
theorem zbK{n k d:Nat}{r:Rt}(h:r.fine n d)(hk:n<=k)(i:Nat){f:Pt->Pt}(hf: ∀p,p.fine n->(f p).fine k):(r.onP i f).fine k d:=by
 refine⟨h.b,λp hp=>?_,Nat.le_trans h.inb hk,h.dr⟩;rcases zdK (show p∈r.ps.modify i f from hp) with h'|⟨y,hy,rfl⟩
 .exact (h.ps p h').up hk
 .exact hf y (h.ps y hy)
theorem zg0{n d:Nat}{r:Rt}(h:r.fine n d){b:Ba}(hb:b.ok):Rt.fine n d { r with b:=b }:=⟨hb,h.ps,h.inb,h.dr⟩
theorem zgD{n:Nat}{p:Pt}(h:p.fine n)(k:UInt8)(s:List UInt8):(putP k s p).fine (n+130):=by
 unfold putP;split
 .exact h.up (by omega)
 .have:=zew k s;refine⟨h.m,h.l,h.rd,h.pe,?_⟩;have:=h.out;show (p.out++fr1 k s).length<=_;rw[List.length_append];omega
theorem zfT:peNo.ok:=by unfold Pe.ok peNo;decide
theorem zgA{p:Pe}(h:p.ok):(zbD p).ok:=by
 unfold Pe.ok at h;unfold zbD;split
 .exact zfT
 .unfold Pe.ok;dsimp only;omega
theorem hearP_ok{me:Int}{s:ByteArray}(h:hpE s=0):(zdO me (hpA s) (hpB s)).ok:=by
 have hg:zdw s=true:=by
  cases e:zdw s with
  |true=>rfl
  |false=>unfold hpE at h;rw[e] at h;simp at h
 have:=zdi.1 hg;unfold zdO;split
 .exact zfT
 .unfold Pe.ok hpA;rw[if_pos hg];dsimp only;omega
theorem znv{n d:Nat}{r:Rt}(h:r.fine n d):(zbt r).fine n d:=by
 unfold zbt;split
 .exact zg0 h (zey h.b _)
 .exact h
theorem zbr{n d:Nat}{r:Rt}(h:r.fine n d)(i:Nat){now:Pe}(hp:now.ok):(zaV r i now).fine n d:=by
 have h1:(r.onP i λp=>{ p with p:=now }).fine n d:=zbK h (Nat.le_refl _) i (λp hq=>⟨hq.m,hq.l,hq.rd,hp,hq.out⟩);have h2:=znv (zg0 h1 (zf5 h.b i));unfold zaV;split
 .exact h1
 .split
  .exact zg0 h2 (zkf h2.b i)
  .exact h2
theorem zex{n:Nat}{p:Pt}(hm:0<=p.m/\p.m<=20)(hr:p.rd.ok)(hp:p.p.ok)(ho:p.out.length<=n){k:Nat}(hl:p.l.fit (k:Int)):(zbE p).fine (n+130*k):=by
 refine⟨hm,fit_out hl,hr,hp,?_⟩;have h1:=zez p.l.out;have h2:=hl.ok.out;show (p.out++p.l.out.flatMap flB).length<=_;rw[List.length_append];have:p.l.out.length<=k:=by omega
 have:=Nat.mul_le_mul_left 130 this;omega
theorem zlF{n:Nat}{p:Pt}(h:p.fine n)(s:List UInt8):(zcS p s).fine (n+390):=
 zex (p:={ p with l:=takL p.l ⟨zdB (tx s),pid (tx s),popt (tx s)⟩ }) (k:=3) h.m h.rd h.pe h.out (zfy h.l (by decide))
theorem znU{n d:Nat}{r:Rt}(h:r.fine n d)(i:Nat)(s:List UInt8):(zbF r i s).fine (n+130) d:=by
 have hu:=h.up (show n<=n+130 by omega);unfold zbF;split
 .exact hu
 .split
  .split
   .exact zg0 hu (zey h.b _)
   .exact hu
  .split
   .exact zg0 (zbK h (by omega) i (λp hp=>zgD hp 65 s)) (zfq h.b _ _)
   .exact zg0 hu (zfq h.b _ _)
theorem znV{n d:Nat}{r:Rt}(h:r.fine n d)(i:Nat)(s:List UInt8):(zcQ r i s).fine n d:=by
 unfold zcQ;split
 .exact zg0 h (zk8 h.b _ _)
 .exact h
theorem zjS{n d:Nat}{r:Rt}(h:r.fine n d)(m:Mg):(zcg r m).fine (n+130) (d+1):=by
 have hu:=h.up (show n<=n+130 by omega);have hdr:Rt.fine (n+130) (d+1) { r with dr:=r.dr+1 }:=⟨h.b,hu.ps,hu.inb,by have:=h.dr;exact⟨by show _<=r.dr+1;omega,by show r.dr+1<=_;omega⟩⟩;unfold zcg;split
 .refine⟨h.b,hu.ps,?_,(hu.upD (Nat.le_succ d)).dr⟩;have:=h.inb;show (r.inb++[m]).length<=_;rw[List.length_append,List.length_singleton];omega
 .split
  .exact hdr
  .split
   .exact hdr
   .exact (zbK h (by omega) _ (λp hp=>zgD hp 77 _)).upD (Nat.le_succ d)
theorem znS{n d:Nat}{r:Rt}(h:r.fine n d)(s:List UInt8):(zba r s).fine (n+130) (d+1):=by
 unfold zba;split
 .exact zjS h _
 .exact (h.up (by omega)).upD (Nat.le_succ d)
theorem znb{n d:Nat}{r:Rt}(h:r.fine n d)(i:Nat)(k:UInt8)(s:List UInt8):(tak1 r i k s).fine (n+390) d:=by
 unfold tak1;split
 .exact zbK h (by omega) i (λp hp=>zlF hp s)
 .exact h.up (by omega)
theorem fine_tak{n d:Nat}{r:Rt}(h:r.fine n d)(i:Nat)(k:UInt8)(s:List UInt8):(takR r i k s).fine (n+520) (d+1):=by
 have h0:=znb h i k s;have h1:=h0.upD (Nat.le_succ d);have hu:=h1.up (show n+390<=n+520 by omega);unfold takR;split
 .exact zbr hu i zfT
 .split
  .split
   .rename_i he;exact zbr hu i (hearP_ok he)
   .exact hu
  .split
   .exact (znU h1 i s).up (by omega)
   .split
    .exact (znV h1 i s).up (by omega)
    .split
     .exact (znS h0 s).up (by omega)
     .exact hu
theorem ze6{n d:Nat}{r:Rt}(h:r.fine n d)(i:Nat)(t:List UInt8):(takT i r t).fine (n+520) (d+1):=by
 unfold takT;split
 .exact (h.up (by omega)).upD (Nat.le_succ d)
 .exact fine_tak h i _ _
theorem zea(r:Rt)(i:Nat)(t:List UInt8):Like r (takT i r t):=by
 unfold takT;split
 .exact Like.refl r
 .exact zgE ..
end Go.Proofs.YtimfnpjcedjmiadGreat
