/- Lemmas. -/
import Derived.Test.YtimfnpjcedjmiadGreatK31
set_option maxRecDepth 100000
set_option maxHeartbeats 64000000
set_option linter.all false
namespace Go.Proofs.YtimfnpjcedjmiadGreat
open Go.RowKit
section
variable {k n d e:Nat} {N:Nt}
theorem ziI(hk:1<=k/\k<=6)(hN:N.ok k n d e)(v:Nat->Nat)(i:Int)(hi:1<=i/\i<=k):Fn Tryz.prog 12 [.box 0 0,.v (.int .i64 i)] (ntE N v 0) (.tup [.v (.pointer (some ⟨v (i-1).toNat,0,none⟩)),.err 0]) (ntE N v 0):=by
 obtain⟨rs,cs,mt,ib⟩:=N;have l2:=hN.ib;dsimp only at l2;have hrow:=zam (v:=v) (k:=k) (j:=(i-1).toNat) (by omega);clear hN;rcases (by omega:k=1\/k=2\/k=3\/k=4\/k=5\/k=6) with rfl|rfl|rfl|rfl|rfl|rfl;all_goals
  first|obtain⟨b0,rfl⟩:=len1 l2|obtain⟨b0,b1,rfl⟩:=len2 l2|obtain⟨b0,b1,b2,rfl⟩:=len3 l2|obtain⟨b0,b1,b2,b3,rfl⟩:=len4 l2|obtain⟨b0,b1,b2,b3,b4,rfl⟩:=len5 l2|obtain⟨b0,b1,b2,b3,b4,b5,rfl⟩:=len6 l2
  simp only[ntE,rowsI,resI,List.length_cons,List.length_nil,Nat.zero_add,Nat.reduceAdd];refine foL zaA [] [] Tryz.func12 Tryz.ntmps12 Tryz.results12 ?_;(all_goals refine fx ?_;repeat' first|exact .intro|refine Tw.mk ?_ ?_|(intro h;first|replace h:=h.o|cases h))
  all_goals (try (exfalso;omega))
  all_goals exact Y16
end
def ntP(N:Nt)(v:Nat->Nat)(g i q:Nat):List Res:=
 .cells [.arr 1 0 N.ib.length,.arr 2 0 N.cs.length,.arr 3 0 N.mt.length,.arr 4 0 N.ib.length]::.arr false 45 1 0 ((zhV v N.ib.length).set i [.box q 0])::.arr true 91 8 0 (N.cs.map zb2)::.arr true 88 1 0 (N.mt.map mtRow)::.arr false 63 1 0 (rowsI 6 g N.ib)::famR (xsV v N.ib.length) N.rs::resI g N.ib
theorem memP_of{σ:zaM}{μ:zaJ}{w:World}{Ds:Nat->Nat->Prop}{N:Nt}{v:Nat->Nat}{g i q:Nat}{rest:List Res}{r':Rt}(hrs:N.rs.length=N.ib.length)(hi:i<N.ib.length)(hq:6+N.ib.length<=q)(hr:(ntP N v g i q++rest)[q]? =some (rtO r'))(h:MemOk σ μ w (ntP N v g i q++rest) Ds):
  ∃v' D,MemOk σ (λid=>if id<6+N.ib.length then μ id else none) w (ntE ⟨N.rs.set i r',N.cs,N.mt,N.ib⟩ v' g) D/\ ∀id b,D id b-> ∃j,Ds j b:=by
 generalize hK:N.ib.length=k at *
 have hlen:(ntP N v g i q).length=6+k:=by unfold ntP;simp only[List.length_cons,resI_len,hK];omega
 have hm: ∀id (x:Res),id<6+k->(ntP N v g i q)[id]? =some x->ROk σ μ w id (Ds id) x:=λid x hid hx=>h.ok id x (by rw[List.getElem?_append_left (by rw[hlen];exact hid)];exact hx);obtain⟨bq,hbq,hrq⟩:=h.ok q _ hr;obtain⟨c5,h50,E,hEl,hE⟩:=hm 5 (famR (xsV v N.ib.length) N.rs) (by omega) rfl;rw[hK] at hE;let v':Nat->Nat:=λj=>if j=i then bq else v j
 let D:Nat->Nat->Prop:=λid b=>if id=5 then (∃j,(if j=i then Ds q b else E j b)) else if id<6+k then Ds id b else False
 have hμ: ∀id,id<6+k->(if id<6+k then μ id else none)=μ id:=λid h=>if_pos h;have hD: ∀id,id<6+k->id≠5->D id=Ds id:=λid h1 h2=>by
  funext b
  show (if id=5 then _ else if id<6+k then Ds id b else False)=_;rw[if_neg h2,if_pos h1]
 have hE5: ∀j b,E j b->Ds 5 b:=λj b hj=>(hE.all b).2 ⟨j,hj⟩;have hEk: ∀j b,E j b->j<k:=λj b hj=>by have:=hE.out j b hj;rw[List.length_map] at this;omega
 refine⟨v',D,⟨λid x hx=>?_,λa b c h1 h2=>?_,λid hid=>?_⟩,λid b hb=>?_⟩
 .match id,hx with
  |0,hx=>
   simp only[ntE,List.getElem?_cons_zero,Option.some.injEq] at hx;subst hx;rw[hD 0 (by omega) (by decide)];exact zgn (hm 0 _ (by omega) rfl) (hμ 0 (by omega)) (hμ 1 (by omega)) (hμ 2 (by omega)) (hμ 3 (by omega)) (hμ 4 (by omega))
  |1,hx=>
   simp only[ntE,List.getElem?_cons_succ,List.getElem?_cons_zero,Option.some.injEq,hK] at hx;subst hx;rw[hD 1 (by omega) (by decide)];obtain⟨ao,cap,xs,h1,h2,h3,h4,h5,h6⟩:=hm 1 (.arr false 45 1 0 ((zhV v N.ib.length).set i [.box q 0])) (by omega) rfl;rw[List.length_set,prows_len,hK] at h1 h2;refine⟨ao,cap,xs,by rw[prows_len];exact (hμ 1 (by omega)).trans h1,by rw[prows_len];exact h2,λr hr=>?_,λj p r av g1 g2=>?_,h5,h6⟩
   .obtain⟨j,_,rfl⟩:=List.mem_map.1 hr;rfl
   .have hj:j<k:=by have:=(List.getElem?_eq_some_iff.1 g1).1;rw[prows_len] at this;exact this
    rw[zam hj] at g1;obtain rfl:=Option.some.inj g1;cases p with
    |succ p=>simp at g2
    |zero=>
     simp only[List.getElem?_cons_zero,Option.some.injEq] at g2;subst g2;by_cases e:i=j
     .subst e;obtain⟨y,y1,y2,y3⟩:=h4 i 0 [.box q 0] (.box q 0) (by rw[hK,List.getElem?_set,if_pos rfl,if_pos (by rw[prows_len];exact hj)]) rfl;refine⟨y,y1,?_,y3⟩;rw[znb y2 hbq,show v' i=bq from if_pos rfl];exact .v _ _
     .obtain⟨y,y1,y2,y3⟩:=h4 j 0 [.v (.pointer (some ⟨v j,0,none⟩))] (.v (.pointer (some ⟨v j,0,none⟩))) (by rw[hK,List.getElem?_set,if_neg e];exact zam hj) rfl;refine⟨y,y1,?_,y3⟩;rw[y2.inv_v,show v' j=v j from if_neg (λh=>e h.symm)];exact .v _ _
  |2,hx=>
   simp only[ntE,List.getElem?_cons_succ,List.getElem?_cons_zero,Option.some.injEq] at hx;subst hx;rw[hD 2 (by omega) (by decide)];exact zcR (hm 2 _ (by omega) rfl) (hμ 2 (by omega))
  |3,hx=>
   simp only[ntE,List.getElem?_cons_succ,List.getElem?_cons_zero,Option.some.injEq] at hx;subst hx;rw[hD 3 (by omega) (by decide)];exact zcR (hm 3 _ (by omega) rfl) (hμ 3 (by omega))
  |4,hx=>
   simp only[ntE,List.getElem?_cons_succ,List.getElem?_cons_zero,Option.some.injEq] at hx;subst hx;rw[hD 4 (by omega) (by decide)];exact ib_ren (hm 4 _ (by omega) rfl) (hμ 4 (by omega)) (λj hj=>hμ (6+j) (by omega))
  |5,hx=>
   simp only[ntE,List.getElem?_cons_succ,List.getElem?_cons_zero,Option.some.injEq,hK] at hx;subst hx;refine⟨c5,(hμ 5 (by omega)).trans h50,λj=>if j=i then Ds q else E j,by rw[zij,List.length_map,List.length_set,hrs],⟨λj x p hx hp=>?_,λa b c h1 h2=>?_,λb=>?_,λj b hj=>?_⟩⟩
   .have hjk:j<k:=by have:=(List.getElem?_eq_some_iff.1 hx).1;rw[zij] at this;exact this
    rw[zbb hjk] at hx;obtain rfl:=Option.some.inj hx;rw[List.getElem?_map,List.getElem?_set] at hp;by_cases e:i=j
    .subst e;rw[if_pos rfl,if_pos (by omega)] at hp;obtain rfl:=Option.some.inj hp;refine⟨bq,by rw[show v' i=bq from if_pos rfl],?_⟩;rw[if_pos rfl];exact hrq
    .rw[if_neg e] at hp;obtain⟨b,hb1,hb2⟩:=hE.one j (.pointer (some ⟨v j,0,none⟩)) p (zbb hjk) (by rw[List.getElem?_map];exact hp);refine⟨b,by rw[show v' j=v j from if_neg (λh=>e h.symm)];exact hb1,?_⟩;rw[if_neg (λh=>e h.symm)];exact hb2
   .split at h1<;>split at h2
    .rename_i e1 e2;rw[e1,e2]
    .have:=h.apart _ _ c h1 (hE5 _ _ h2);omega
    .have:=h.apart _ _ c h2 (hE5 _ _ h1);omega
    .exact hE.apart a b c h1 h2
   .show (if 5=5 then ∃j,(if j=i then Ds q b else E j b) else _)↔_;rw[if_pos rfl];exact⟨λ⟨j,hj⟩=>⟨j,by split at hj<;>(rename_i e;first|(rw[if_pos e];exact hj)|(rw[if_neg e];exact hj))⟩,λ⟨j,hj⟩=>⟨j,by split at hj<;>(rename_i e;first|(rw[if_pos e];exact hj)|(rw[if_neg e];exact hj))⟩⟩
   .rw[List.length_map,List.length_set,hrs];split at hj
    .rename_i e;omega
    .exact hEk j b hj
  |j+6,hx=>
   rw[show j+6=6+j by omega] at hx ⊢;rw[ntE_i,resI_get] at hx;obtain⟨l,hl,rfl⟩:=Option.map_eq_some_iff.1 hx;have hj:j<k:=by have:=(List.getElem?_eq_some_iff.1 hl).1;simp only at this;omega
   rw[hD (6+j) (by omega) (by omega)];refine zcR (hm (6+j) _ (by omega) ?_) (hμ (6+j) (by omega));unfold ntP;rw[show 6+j=j+1+1+1+1+1+1 by omega];simp only[List.getElem?_cons_succ];rw[resI_get,hl];rfl
 .have key: ∀id b,D id b->(id=5/\(Ds q b\/Ds 5 b))\/(id≠5/\id<6+k/\Ds id b):=λid b hd=>by
   simp only[D] at hd;split at hd
   .rename_i e;obtain⟨j,hj⟩:=hd;split at hj
    .exact .inl ⟨e,.inl hj⟩
    .exact .inl ⟨e,.inr (hE5 _ _ hj)⟩
   .split at hd
    .exact .inr ⟨by assumption,by assumption,hd⟩
    .exact hd.elim
  rcases key a c h1 with⟨a1,a2⟩|⟨a1,a2,a3⟩<;>rcases key b c h2 with⟨b1,b2⟩|⟨b1,b2,b3⟩
  .omega
  .rcases a2 with a2|a2
   .have:=h.apart _ _ c a2 b3;omega
   .have:=h.apart _ _ c a2 b3;omega
  .rcases b2 with b2|b2
   .have:=h.apart _ _ c a3 b2;omega
   .have:=h.apart _ _ c a3 b2;omega
  .exact h.apart a b c a3 b3
 .rw[zf3] at hid;simp only[hK] at hid;refine⟨if_neg (by omega),λb hb=>?_⟩;simp only[D] at hb;rw[if_neg (by omega),if_neg (by omega)] at hb;exact hb
 .simp only[D] at hb;split at hb
  .obtain⟨j,hj⟩:=hb;split at hj
   .exact⟨q,hj⟩
   .exact⟨5,hE5 _ _ hj⟩
  .split at hb
   .exact⟨id,hb⟩
   .exact hb.elim
def frOk(fr:List (Nat×AV)):Prop:= ∀p∈fr,p.2.free=true\/p.2=.box 0 0
theorem look_mem{fr:List (Nat×AV)}{t:Nat}{av:AV}(h:look fr t=some av): ∃p∈fr,p.2=av:=by
 induction fr with
 |nil=>cases h
 |cons p fr ih=>
  obtain⟨u,x⟩:=p;simp only[look] at h;split at h
  .exact⟨(u,x),List.mem_cons_self .., Option.some.inj h⟩
  .obtain⟨q,h1,h2⟩:=ih h;exact⟨q,List.mem_cons_of_mem _ h1,h2⟩
theorem Rel.swap{n:Nat}{fp:Nat->Prop}{w0:Start}{σ:zaM}{μ μ':zaJ}{Ds D':Nat->Nat->Prop}{fr:List (Nat×AV)}{mem mem':List Res}{a:Act}{w:World}(hr:Rel n fp w0 σ μ Ds ⟨fr,mem⟩ a w)(hk:w0.k=1)(hm:MemOk σ μ' w mem' D')(h0:μ' 0=μ 0)(hD: ∀id b,D' id b-> ∃j,Ds j b)(hfr:frOk fr)(hl:1<=mem'.length):Rel n fp w0 σ μ' D' ⟨fr,mem'⟩ a w:=by
 refine⟨hr.defers,hr.size,λt av ht=>?_,hr.agree,hm,λid b hb=>?_,hr.keeps,hr.old,hr.mono,λi x hi=>?_,hr.kout,by rw[hk];exact hl⟩
 .have hx:=hr.frame t av ht;obtain⟨p,hp,rfl⟩:=look_mem ht;rcases hfr p hp with g|g
  .exact hx.free g
  .rw[g] at hx ⊢;obtain⟨b,e,hb⟩:=hx.inv_box;rw[e];exact .box _ 0 0 b (h0.trans hb)
 .obtain⟨j,hj⟩:=hD id b hb;exact hr.own j b hj
 .have hi0:i=0:=by
   rcases Nat.eq_zero_or_pos i with g|g
   .exact g
   .have:=hr.kout i (by omega);rw[this] at hi;cases hi
  subst hi0;obtain⟨a',h1,h2⟩:=hr.gle 0 x hi;exact⟨a',h0.trans h1,h2⟩
theorem to_unE{fr:List (Nat×AV)}{y:AS->Prop}{N:Nt}(hk:1<=N.ib.length)(hrs:N.rs.length=N.ib.length)(hfr:frOk fr)(hy: ∀v,y ⟨fr,ntE N v 0⟩):AS.to 1 ⟨fr,[ntO N]⟩ y:=by
 intro n fp w0 σ μ Ds a w hk' hr;obtain⟨b,hb,hrep⟩:=hr.mem.ok 0 _ rfl;obtain⟨v,μ1,Ds1,h1,h2,h3⟩:=zpZ hk hrs σ w b _ hrep;exact⟨_,σ,μ1,Ds1,hy v,hr.swap hk' h1 (h2.trans hb.symm) (λid c hc=>⟨0,(h3 c).2 ⟨id,hc⟩⟩) hfr (by rw[zf3];omega)⟩
theorem to_put{fr:List (Nat×AV)}{y:AS->Prop}{N:Nt}{v:Nat->Nat}{g i q:Nat}{rest:List Res}{r':Rt}(hrs:N.rs.length=N.ib.length)(hi:i<N.ib.length)(hq:6+N.ib.length<=q)(hr:(ntP N v g i q++rest)[q]? =some (rtO r'))(hfr:frOk fr)
  (hy: ∀v',y ⟨fr,ntE ⟨N.rs.set i r',N.cs,N.mt,N.ib⟩ v' g⟩):AS.to 1 ⟨fr,ntP N v g i q++rest⟩ y:=by
 intro n fp w0 σ μ Ds a w hk' h;obtain⟨v',D,h1,h2⟩:=memP_of hrs hi hq hr h.mem;exact⟨_,σ,_,D,hy v',h.swap hk' h1 (if_pos (by omega)) h2 hfr (by rw[zf3];omega)⟩
theorem le_pkE{fr:List (Nat×AV)}{N:Nt}{v:Nat->Nat}{g:Nat}(hrs:N.rs.length=N.ib.length)(hfr:frOk fr):AS.le 1 ⟨fr,ntE N v g⟩ ⟨fr,[ntO N]⟩:=by
 intro n fp w0 σ μ Ds a w hk' h;obtain⟨c,cs,T,hc,_⟩:=h.mem.ok 0 (.cells [.arr 1 0 N.ib.length,.arr 2 0 N.cs.length,.arr 3 0 N.mt.length,.arr 4 0 N.ib.length]) rfl;have hrep:=zkd hrs σ w c μ Ds h.mem hc;refine⟨σ,λi=>if i=0 then μ 0 else none,λi k=>i=0/\ ∃j,Ds j k,h.swap hk' ⟨λid r hr=>?_,λi j k hi hj=>hi.1.trans hj.1.symm,λid hid=>?_⟩ rfl (λid b hb=>hb.2) hfr (Nat.le_refl _)⟩
 .cases id with
  |zero=>
   simp only[List.getElem?_cons_zero,Option.some.injEq] at hr;subst hr;refine⟨c,by simp only[if_true];exact hc,?_⟩;have e:(λk=>0=0/\ ∃j,Ds j k)=λk=> ∃j,Ds j k:=by funext k;simp
   show (zcB (ntM N 0)).rep σ w c (λk=>0=0/\ ∃j,Ds j k);rw[e];exact hrep
  |succ i=>simp at hr
 .exact Y71
def nilRows(k:Nat):List (List AV):=List.replicate k [.v (.slice none 0 0)]
def arrRows:Nat->Nat->List (List AV)
 |_,0=>[]
 |q,j+1=>[.arr q 0 3]::arrRows (q+1) j
def intRes:List (List Int)->List Res
 |[]=>[]
 |t::T=>.arr true 3 1 0 (t.map iRow)::intRes T
def ntN(k:Nat)(cs:List Cb)(mt:List (List Int))(rs:List Rt)(g:Nat):List Res:=
 .arr false 63 1 0 (nilRows k)::.cells [.arr 4 g rs.length,.arr 3 1 cs.length,.arr 2 1 mt.length,.arr 0 0 k]::.arr false 88 1 1 (mt.map mtRow)::.arr true 91 8 1 (cs.map zb2)::.arr false 45 1 g (rowsR 5 rs)::resR rs
theorem zkN{σ:zaM}{μ μ':zaJ}{w:World}{q q' g n:Nat}{y:Value}{fr:Bool}{E sz:Nat}{rows:List (List AV)}{D:Nat->Prop}(h:RepV σ μ (.arr q g n) y)(hr:ROk σ μ w q D (.arr fr E sz g rows))(hq:μ' q'=(μ q).map zg):RepV σ μ' (.arr q' 0 n) y:=by
 obtain⟨ao2,cap2,xs2,q1,_⟩:=hr;cases h with
 |arr _ _ _ _ ao m cap a hn hm hmax h hl=>
  rw[q1] at h;obtain rfl:=Option.some.inj h;obtain⟨_,hl⟩:=hl;obtain⟨rfl,rfl,rfl⟩:=hl rfl;exact .arr _ q' 0 n _ _ _ (.cur ao2 rows.length cap2 0) hn hm hmax (by rw[hq,q1];rfl) (An.le_refl _)
theorem arrT_gen{σ:zaM}{μ μ':zaJ}{w:World}{id id' E sz g:Nat}{rows:List (List AV)}{D:Nat->Prop}(h:ROk σ μ w id D (.arr true E sz g rows))(hid:μ' id'=(μ id).map zg):ROk σ μ' w id' D (.arr true E sz 0 rows):=by
 obtain⟨ao,cap,xs,h1,h2⟩:=h;exact⟨ao,cap,xs,by rw[hid,h1];rfl,h2⟩
theorem memN_of{σ:zaM}{μ:zaJ}{w:World}{Ds:Nat->Nat->Prop}{k g:Nat}{cs:List Cb}{mt:List (List Int)}{rs:List Rt}(hrs:rs.length=k)(h:MemOk σ μ w (ntN k cs mt rs g) Ds):
  ∃μ' D,MemOk σ μ' w (ntM ⟨rs,cs,mt,List.replicate k []⟩ 0) D/\μ' 0=μ 1/\ ∀id b,D id b-> ∃j,Ds j b:=by
 let μ':zaJ:=λid=>match id with
  |0=>μ 1
  |1=>(μ 4).map zg
  |2=>(μ 3).map zg
  |3=>(μ 2).map zg
  |4=>μ 0
  |id=>if id<5+k then μ id else if id<5+k+k then some (.cur none 0 0 0) else none
 let D:Nat->Nat->Prop:=λid=>match id with
  |0=>Ds 1
  |1=>Ds 4
  |2=>Ds 3
  |3=>Ds 2
  |4=>Ds 0
  |id=>if id<5+k then Ds id else λ_=>False
 have hlen:(ntN k cs mt rs g).length=5+k:=by unfold ntN;simp only[List.length_cons,resR_len,hrs];omega
 have mr: ∀j,j<k->μ' (5+j)=μ (5+j):=λj hj=>by
  show (match 5+j with|0=>_|1=>_|2=>_|3=>_|4=>_|id=>_)=_;rw[show 5+j=j+5 by omega];show (if j+5<5+k then μ (j+5) else _)=_;rw[if_pos (by omega)]
 have mi: ∀j,j<k->μ' (5+k+j)=some (.cur none 0 0 0):=λj hj=>by
  rw[show 5+k+j=(k+j)+5 by omega];show (if (k+j)+5<5+k then _ else if (k+j)+5<5+k+k then _ else _)=_;rw[if_neg (by omega),if_pos (by omega)]
 have dr: ∀j,D (j+5)=if j+5<5+k then Ds (j+5) else λ_=>False:=λj=>rfl
 have hm: ∀id (x:Res),(ntN k cs mt rs g)[id]? =some x->ROk σ μ w id (Ds id) x:=λid x hx=>h.ok id x hx;have r0:=hm 0 _ rfl;have r1:=hm 1 _ rfl;have r2:=hm 2 _ rfl;have r3:=hm 3 _ rfl;have r4:=hm 4 _ rfl;refine⟨μ',D,⟨λid x hx=>?_,λa b c h1 h2=>?_,λid hid=>?_⟩,rfl,λid b hb=>?_⟩
 .match id,hx with
  |0,hx=>
   obtain rfl:Res.cells [.arr 1 0 rs.length,.arr 2 0 cs.length,.arr 3 0 mt.length,.arr 4 0 rs.length]=x:=Option.some.inj hx;obtain⟨b,c,T,h1,h2,h3,h4,h5,h6⟩:=r1;refine⟨b,c,T,h1,h2,h3,λi av hi=>?_,h5,h6⟩
   match i,hi with
   |0,hi=>
    simp only[List.getElem?_cons_zero,Option.some.injEq] at hi;subst hi;obtain⟨y,y1,y2⟩:=h4 0 _ rfl;exact⟨y,y1,zkN y2 r4 rfl⟩
   |1,hi=>
    simp only[List.getElem?_cons_succ,List.getElem?_cons_zero,Option.some.injEq] at hi;subst hi;obtain⟨y,y1,y2⟩:=h4 1 _ rfl;exact⟨y,y1,zkN y2 r3 rfl⟩
   |2,hi=>
    simp only[List.getElem?_cons_succ,List.getElem?_cons_zero,Option.some.injEq] at hi;subst hi;obtain⟨y,y1,y2⟩:=h4 2 _ rfl;exact⟨y,y1,zkN y2 r2 rfl⟩
   |3,hi=>
    simp only[List.getElem?_cons_succ,List.getElem?_cons_zero,Option.some.injEq] at hi;subst hi;obtain⟨y,y1,y2⟩:=h4 3 _ rfl;rw[hrs];exact⟨y,y1,zfP y2 rfl⟩
   |i+4,hi=>simp at hi
  |1,hx=>
   obtain rfl:Res.arr false 45 1 0 (rowsR 5 rs)=x:=Option.some.inj hx;obtain⟨ao,cap,xs,h1,h2,h3,h4,h5,h6⟩:=r4;refine⟨ao,cap,xs,by show (μ 4).map zg=_;rw[h1];rfl,h2,h3,λi j r av g1 g2=>?_,h5,h6⟩;obtain⟨y,y1,y2,y3⟩:=h4 i j r av g1 g2;refine⟨y,y1,?_,y3⟩;rw[zcZ] at g1;obtain⟨l,hl,rfl⟩:=Option.map_eq_some_iff.1 g1;have hi:i<k:=by have:=(List.getElem?_eq_some_iff.1 hl).1;omega
   cases j with
   |succ j=>simp at g2
   |zero=>
    simp only[List.getElem?_cons_zero,Option.some.injEq] at g2;subst g2;obtain⟨b,e,hb⟩:=RepV.inv_box y2;rw[e];exact .box _ (5+i) 0 b ((mr i hi).trans hb)
  |2,hx=>
   obtain rfl:Res.arr true 91 8 0 (cs.map zb2)=x:=Option.some.inj hx;exact arrT_gen r3 rfl
  |3,hx=>
   obtain rfl:Res.arr true 88 1 0 (mt.map mtRow)=x:=Option.some.inj hx;obtain⟨ao,cap,xs,h1,h2,h3,h4,h5,h6⟩:=r2;refine⟨ao,cap,xs,by show (μ 2).map zg=_;rw[h1];rfl,h2,h3,λi j r av g1 g2=>?_,h5,h6⟩;obtain⟨y,y1,y2,y3⟩:=h4 i j r av g1 g2;refine⟨y,y1,?_,y3⟩;rw[List.getElem?_map] at g1;obtain⟨l,hl,rfl⟩:=Option.map_eq_some_iff.1 g1;cases j with
   |succ j=>simp [mtRow] at g2
   |zero=>
    simp only[mtRow,List.getElem?_cons_zero,Option.some.injEq] at g2;subst g2;exact y2.free0 rfl
  |4,hx=>
   obtain rfl:Res.arr false 63 1 0 (rowsI (5+rs.length) 0 (List.replicate k []))=x:=Option.some.inj hx;obtain⟨ao,cap,xs,h1,h2,h3,h4,h5,h6⟩:=r0;have hn:(nilRows k).length=k:=List.length_replicate ..;rw[hn] at h1 h2;refine⟨ao,cap,xs,by rw[zbo,List.length_replicate];exact h1,by rw[zbo,List.length_replicate];exact h2,λr hr=>?_,λi j r av g1 g2=>?_,h5,h6⟩
   .exact Y74
   .rw[zbs] at g1;obtain⟨l,hl,rfl⟩:=Option.map_eq_some_iff.1 g1;have hi:i<k:=by have:=(List.getElem?_eq_some_iff.1 hl).1;rw[List.length_replicate] at this;exact this
    have hl0:l=[]:=List.eq_of_mem_replicate (List.mem_of_getElem? hl);subst hl0;cases j with
    |succ j=>simp at g2
    |zero=>
     simp only[List.getElem?_cons_zero,Option.some.injEq] at g2;subst g2;obtain⟨y,y1,y2,y3⟩:=h4 i 0 [.v (.slice none 0 0)] (.v (.slice none 0 0)) (by unfold nilRows;rw[List.getElem?_replicate,if_pos hi]) rfl;refine⟨y,y1,?_,y3⟩;rw[y2.inv_v];exact .arr _ _ 0 0 none 0 0 (.cur none 0 0 0) (Nat.le_refl _) (Nat.le_refl _) (by decide) (by rw[hrs];exact mi i hi) (An.le_refl _)
  |i+5,hx=>
   rw[show i+5=5+i by omega] at hx;rw[ntM_r] at hx;rw[dr i];rcases Nat.lt_or_ge i k with hi|hi
   .rw[if_pos (by omega)];rw[List.getElem?_append_left (by rw[resR_len,hrs];exact hi),resR_get] at hx;obtain⟨r0,hr0,rfl⟩:=Option.map_eq_some_iff.1 hx;have hg:(ntN k cs mt rs g)[i+5]? =some (rtO r0):=by
     unfold ntN;simp only[List.getElem?_cons_succ];rw[resR_get,hr0];rfl
    obtain⟨b,hb1,hb2⟩:=hm (i+5) _ hg;exact⟨b,by rw[show i+5=5+i by omega,mr i hi,show 5+i=i+5 by omega];exact hb1,hb2⟩
   .rw[if_neg (by omega)];rw[List.getElem?_append_right (by rw[resR_len,hrs];exact hi),resR_len,hrs,resI_get] at hx;obtain⟨l,hl,rfl⟩:=Option.map_eq_some_iff.1 hx;obtain⟨q,rfl⟩: ∃q,i=k+q:=⟨i-k,by omega⟩;rw[show k+q-k=q by omega] at hl;have hq:q<k:=by have:=(List.getElem?_eq_some_iff.1 hl).1;rw[List.length_replicate] at this;exact this
    have hl0:l=[]:=List.eq_of_mem_replicate (List.mem_of_getElem? hl);subst hl0;refine⟨none,0,[],?_,?_,(λr hr=>by cases hr),(λi j r av g1=>by simp at g1),(λb hb=>hb.elim),λb=>⟨λhb=>hb.elim,λhb=>(by cases hb)⟩⟩
    .rw[show k+q+5=5+k+q by omega,mi q hq];rfl
    .first|exact World.ownsRow_nil w 0 _ _|exact zkM (World.ownsRow_nil w 0 _ _)
 .have key: ∀id b,D id b-> ∃j,(id=0/\j=1\/id=1/\j=4\/id=2/\j=3\/id=3/\j=2\/id=4/\j=0\/5<=id/\j=id)/\Ds j b:=λid b hd=>by
   match id,hd with
   |0,hd=>exact⟨1,by simp,hd⟩
   |1,hd=>exact⟨4,by simp,hd⟩
   |2,hd=>exact⟨3,by simp,hd⟩
   |3,hd=>exact⟨2,by simp,hd⟩
   |4,hd=>exact⟨0,by simp,hd⟩
   |i+5,hd=>
    rw[dr i] at hd;split at hd
    .exact⟨i+5,by simp,hd⟩
    .exact hd.elim
  obtain⟨p,hp,hp2⟩:=key a c h1;obtain⟨q,hq,hq2⟩:=key b c h2;have:=h.apart p q c hp2 hq2;omega
 .rw[zkS] at hid;simp only[List.length_replicate,hrs] at hid;obtain⟨q,rfl⟩: ∃q,id=(k+k+q)+5:=⟨id-5-k-k,by omega⟩;refine⟨?_,λb hb=>?_⟩
  .show (if (k+k+q)+5<5+k then _ else if (k+k+q)+5<5+k+k then _ else none)=none;rw[if_neg (by omega),if_neg (by omega)]
  .rw[dr] at hb;rw[if_neg (by omega)] at hb;exact hb
 .match id,hb with
  |0,hb=>exact⟨_,hb⟩
  |1,hb=>exact⟨_,hb⟩
  |2,hb=>exact⟨_,hb⟩
  |3,hb=>exact⟨_,hb⟩
  |4,hb=>exact⟨_,hb⟩
  |i+5,hb=>
   rw[dr i] at hb;split at hb
   .exact⟨_,hb⟩
   .exact hb.elim
theorem Rel.box1{n:Nat}{fp:Nat->Prop}{w0:Start}{σ:zaM}{μ μ':zaJ}{Ds D':Nat->Nat->Prop}{mem mem':List Res}{a:Act}{w:World}{p q:Nat}(hr:Rel n fp w0 σ μ Ds ⟨[(p,.box 1 0),(q,.err 0)],mem⟩ a w)(hk:w0.k=0)(hm:MemOk σ μ' w mem' D')(h0:μ' 0=μ 1)(hD: ∀id b,D' id b-> ∃j,Ds j b):Rel n fp w0 σ μ' D' ⟨[(p,.box 0 0),(q,.err 0)],mem'⟩ a w:=by
 refine⟨hr.defers,hr.size,λt av ht=>?_,hr.agree,hm,λid b hb=>?_,hr.keeps,hr.old,hr.mono,λi x hi=>?_,hr.kout,by rw[hk];exact Nat.zero_le _⟩
 .have hx:=hr.frame t;simp only[look] at ht hx;split at ht
  .rename_i e;rw[if_pos e] at hx;obtain rfl:=Option.some.inj ht;obtain⟨b,e2,hb⟩:=(hx _ rfl).inv_box;rw[e2];exact .box _ 0 0 b (h0.trans hb)
  .rename_i e;rw[if_neg e] at hx;split at ht
   .rename_i e2;rw[if_pos e2] at hx;obtain rfl:=Option.some.inj ht;exact (hx _ rfl).free rfl
   .cases ht
 .obtain⟨j,hj⟩:=hD id b hb;exact hr.own j b hj
 .have:=hr.kout i (by omega);rw[this] at hi;cases hi
theorem le_N{p q k g:Nat}{cs:List Cb}{mt:List (List Int)}{rs:List Rt}(hrs:rs.length=k):AS.le 0 ⟨[(p,.box 1 0),(q,.err 0)],ntN k cs mt rs g⟩ ⟨[(p,.box 0 0),(q,.err 0)],[ntO ⟨rs,cs,mt,List.replicate k []⟩]⟩:=by
 intro n fp w0 σ μ Ds a w hk h;obtain⟨μ',D,h1,h2,h3⟩:=memN_of hrs h.mem;obtain⟨c,cc,T,hc,_⟩:=h1.ok 0 _ rfl;refine⟨σ,λi=>if i=0 then μ' 0 else none,λi k=>i=0/\ ∃j,D j k,h.box1 hk ⟨λid r hr=>?_,λi j k hi hj=>hi.1.trans hj.1.symm,λid hid=>?_⟩ h2 (λid b hb=>by obtain⟨j,hj⟩:=hb.2;exact h3 j b hj)⟩
 .cases id with
  |zero=>
   simp only[List.getElem?_cons_zero,Option.some.injEq] at hr;subst hr;exact⟨c,by simp only[if_true];exact hc,μ',D,h1,hc,λk=>by simp⟩
  |succ i=>simp at hr
 .exact Y71
def g1:Nat->Nat
 |0=>0
 |_+1=>1
def rsN(T:List (List Int)):Nat->List Rt
 |0=>[]
 |j+1=>rsN T j++[newR ((j:Int)+1) (T.getD j [])]
theorem rsN_map(T:List (List Int)): ∀j,rsN T j=(List.range j).map λ(i:Nat)=>newR ((i:Int)+1) (T.getD i [])
 |0=>rfl
 |j+1=>by rw[List.range_succ,List.map_append,<-rsN_map T j];rfl
theorem rsN_len(T:List (List Int))(j:Nat):(rsN T j).length=j:=by rw[rsN_map];simp
def ntN1(k j:Nat):List Res:=.arr false 63 1 0 (nilRows k)::.cells [.v (.slice none 0 0),.v (.slice none 0 0),.arr 2 (g1 j) j,.arr 0 0 k]::.arr false 88 1 (g1 j) (arrRows 3 j)::intRes (List.replicate j [1,1,1])
def ntN2(k j:Nat)(l:List Ca)(T:List (List Int))(rest:List Res):List Res:=.arr false 63 1 0 (nilRows k)::.cells [.v (.slice none 0 0),.arr (3+k) 1 j,.arr 2 1 k,.arr 0 0 k]::.arr false 88 1 1 (arrRows 3 k)::(intRes T++ .arr true 91 8 1 (((l.take j).map mkCb).map zb2)::rest)
def NewS(K:Nat):Prop:= ∀(k:Nat) (l:List Ca),k=K->1<=k/\k<=6->(∀c∈l,c.ok k)->l.length<=9->Fn Tryz.prog 28 [.v (.int .i64 k),.sl 5 (l.map zcU) none] [] (.err 0) []->Fn Tryz.prog 10 [.v (.int .i64 k),.sl 5 (l.map zcU) none] [] (.tup [.box 0 0,.err 0]) [ntO (newN k l)]
theorem zmE(K:Nat)(h:NewS K:=by
  intro k l hkk hk hl hlen ck;obtain⟨κ,hκ⟩: ∃q,q=k:=⟨_,rfl⟩;have hlκ: ∀c∈l,c.ok κ:=by rw[hκ];exact hl
  have hκ6:1<=κ/\κ<=6:=by rw[hκ];exact hk
  obtain⟨R,hR⟩: ∃R,R=newN k l:=⟨_,rfl⟩;obtain⟨kk,hkk2⟩: ∃q,q=κ:=⟨_,rfl⟩;have hR2:R=newN kk l:=by rw[hR,hkk2,hκ]
  rw[<-hR];clear hR hl;subst hkk;refine foP zaA (nnewPl) [(82,false),(88,true)] [13,14] Tryz.func10 Tryz.ntmps10 Tryz.results10 ?_;(all_goals refine fx ?_;repeat' first|exact .intro|refine Tw.mk ?_ ?_|(intro h;first|replace h:=h.o|cases h))
  all_goals ((refine StopCall.fz [] (ck) ?_;(all_goals refine fx ?_;repeat' first|exact .intro|refine Tw.mk ?_ ?_|(intro h;first|replace h:=h.o|cases h))))
  all_goals (try (exfalso;omega))
  refine lpG (λj:Nat=>⟨[(0,.v (.int .i64 κ)),(1,.sl 5 (l.map zcU) none),(7,.box 1 0),(23,.v (.int .i64 κ)),(24,.v (.int .i64 j))],ntN1 κ j⟩) (λj=>j<=κ) (λj=>κ-j) 0 (by omega) (AS.le_trans (za4 false 1 2 88 1 _ rfl rfl) (by
   simp only[List.set_cons_zero,List.set_cons_succ,hκ,ntN1,ntN2,nilRows,arrRows,intRes,g1,List.replicate_zero,List.replicate_succ,List.cons_append,List.nil_append,List.append_nil,Nat.zero_add,Nat.reduceAdd];(refine za2 ?_;repeat' first|exact .intro|refine Tw.mk ?_ ?_))) ?_
  rintro j hj;by_cases hj':j<κ
  .obtain⟨q,hq⟩: ∃q,q=j:=⟨_,rfl⟩;rcases (by omega:j=0\/j=1\/j=2\/j=3\/j=4\/j=5) with rfl|rfl|rfl|rfl|rfl|rfl;all_goals (first|(exfalso;omega)|skip)
   all_goals
    simp only[hκ,ntN1,ntN2,nilRows,arrRows,intRes,g1,List.replicate_zero,List.replicate_succ,List.cons_append,List.nil_append,List.append_nil,Nat.zero_add,Nat.reduceAdd];(all_goals refine fx ?_;repeat' first|exact .intro|refine Tw.mk ?_ ?_|(intro h;first|replace h:=h.o|cases h))
    all_goals (try (exfalso;omega))
    all_goals (refine zaO (q+1) (by omega) (by omega) (by
     simp only[hq,hκ,ntN1,ntN2,nilRows,arrRows,intRes,g1,List.replicate_zero,List.replicate_succ,List.cons_append,List.nil_append,List.append_nil,Nat.zero_add,Nat.reduceAdd];(refine za2 ?_;repeat' first|exact .intro|refine Tw.mk ?_ ?_)))
  .have hjk:j=κ:=by omega
   rw[hjk];simp only[hκ,ntN1,ntN2,nilRows,arrRows,intRes,g1,List.replicate_zero,List.replicate_succ,List.cons_append,List.nil_append,List.append_nil,Nat.zero_add,Nat.reduceAdd];(all_goals refine fx ?_;repeat' first|exact .intro|refine Tw.mk ?_ ?_|(intro h;first|replace h:=h.o|cases h))
   all_goals (try (exfalso;omega))
   refine lpG2 (λ(j:Nat) (T:List (List Int))=>⟨[(0,.v (.int .i64 κ)),(1,.sl 5 (l.map zcU) none),(7,.box 1 0),(37,.sl 5 (l.map zcU) none),(38,.v (.int .i64 l.length)),(39,.v (.int .i64 j))],ntN2 κ j l T []⟩) (λj T=>j<=l.length/\Tok kk T/\T=(l.take j).foldl zmr (List.replicate kk [1,1,1])) (λj _=>l.length-j) 0 (List.replicate kk [1,1,1]) ⟨by omega,znh kk,rfl⟩ (AS.le_trans (za4 true 1 1 91 8 _ rfl rfl) (by
    simp only[List.set_cons_zero,List.set_cons_succ,hkk2,hκ,ntN1,ntN2,nilRows,arrRows,intRes,g1,List.replicate_zero,List.replicate_succ,List.cons_append,List.nil_append,List.append_nil,Nat.zero_add,Nat.reduceAdd];(refine za2 ?_;repeat' first|exact .intro|refine Tw.mk ?_ ?_);all_goals (first|rfl|(simp;done)))) ?_
   clear hj hj' hjk j;rintro j T ⟨hj,hT,hTe⟩;obtain⟨TL,hTL⟩: ∃TL,TL=T:=⟨_,rfl⟩;have l1:=hT.len;rw[hkk2,hκ] at l1;by_cases hj':j<l.length
   .obtain⟨c,hc⟩: ∃c,l[j]=c:=⟨_,rfl⟩;have hco:=hlκ c (hc▸List.getElem_mem hj');have hst:zmr T c=(l.take (j+1)).foldl zmr (List.replicate kk [1,1,1]):=by rw[zaR hj',List.foldl_append,<-hTe,hc];rfl
    have hT1:=zg7 hT c.a c.pa hco.m;have hT2:=zg7 hT1 c.b c.pb hco.m;have hTk:l.take (j+1)=l.take j++[c]:=by rw[zaR hj',hc]
    unfold zmr at hst;have htl:(l.take j).length=j:=List.length_take_of_le (by omega);obtain⟨ca,cpa,cb,cpb,cm⟩:=c;obtain⟨ha,hpa,hb,hpb,hm⟩:=hco;dsimp only at ha hpa hb hpb hm hst hT1 hT2;have hra: ∀t,T[(ca-1).toNat]? =some t->(t.map iRow)[cpa.toNat]? =some (iRow (t.getD cpa.toNat 0)):=λt ht=>i_row (hT.three t (List.mem_of_getElem? ht)).1 (by omega);have hrb: ∀t,(putM T ca cpa cm)[(cb-1).toNat]? =some t->(t.map iRow)[cpb.toNat]? =some (iRow (t.getD cpb.toNat 0)):=λt ht=>i_row (hT1.three t (List.mem_of_getElem? ht)).1 (by omega);obtain⟨T1,hT1e⟩: ∃T1,T1=putM T ca cpa cm:=⟨_,rfl⟩;rw[<-hT1e] at hT1 hT2 hst hrb;rw[<-hTL] at hT1e;clear hT hTe;first|obtain⟨b0,rfl⟩:=len1 l1|obtain⟨b0,b1,rfl⟩:=len2 l1|obtain⟨b0,b1,b2,rfl⟩:=len3 l1|obtain⟨b0,b1,b2,b3,rfl⟩:=len4 l1|obtain⟨b0,b1,b2,b3,b4,rfl⟩:=len5 l1|obtain⟨b0,b1,b2,b3,b4,b5,rfl⟩:=len6 l1
    simp only[hκ,ntN1,ntN2,nilRows,arrRows,intRes,g1,List.replicate_zero,List.replicate_succ,List.cons_append,List.nil_append,List.append_nil,Nat.zero_add,Nat.reduceAdd];(all_goals refine fx ?_;repeat' first|exact .intro|refine Tw.mk ?_ ?_|(intro h;first|replace h:=h.o|cases h))
    all_goals (try (exfalso;omega))
    refine cutK ⟨[(0,.v (.int .i64 κ)),(1,.sl 5 (l.map zcU) none),(7,.box 1 0),(37,.sl 5 (l.map zcU) none),(38,.v (.int .i64 l.length)),(9,.box (4+κ) 0),(39,.v (.int .i64 j))],ntN2 κ (j+1) l TL [.cells [.v (.int .i64 ca),.v (.int .i64 cpa),.v (.int .i64 cb),.v (.int .i64 cpb),.v (.int .i64 cm)]]⟩ ?_ (λhy=>?_);rotate_left
    .rw[hTL] at hy;simp only[hκ,ntN1,ntN2,nilRows,arrRows,intRes,g1,List.replicate_zero,List.replicate_succ,List.cons_append,List.nil_append,List.append_nil,Nat.zero_add,Nat.reduceAdd] at hy;(all_goals refine fx ?_;repeat' first|exact .intro|refine Tw.mk ?_ ?_|(intro h;first|replace h:=h.o|cases h))
     all_goals (try (show Fits _ _;unfold Fits maxLen;simp only[List.length_take,List.length_map,List.length_cons,List.length_nil];omega))
     all_goals (exact⟨_,(by (refine za2 ?_;repeat' first|exact .intro|refine Tw.mk ?_ ?_);all_goals (first|rfl|(rw[hc];done)|(rw[List.take_of_length_le (by simp;omega),hTk,List.map_append,List.map_append,<-hc];rfl)|(simp [hc];done)|skip)),hy⟩)
    rw[hTL];simp only[hκ,ntN1,ntN2,nilRows,arrRows,intRes,g1,List.replicate_zero,List.replicate_succ,List.cons_append,List.nil_append,List.append_nil,Nat.zero_add,Nat.reduceAdd];(all_goals refine fx ?_;repeat' first|exact .intro|refine Tw.mk ?_ ?_|(intro h;first|replace h:=h.o|cases h))
    refine cutK ⟨[(0,.v (.int .i64 κ)),(1,.sl 5 (l.map zcU) none),(7,.box 1 0),(37,.sl 5 (l.map zcU) none),(38,.v (.int .i64 l.length)),(9,.box (4+κ) 0),(39,.v (.int .i64 j))],ntN2 κ (j+1) l T1 [.cells [.v (.int .i64 ca),.v (.int .i64 cpa),.v (.int .i64 cb),.v (.int .i64 cpb),.v (.int .i64 cm)]]⟩ ?_ (λhy=>?_);rotate_left
    .rw[hT1e,hTL] at hy;rcases (by omega:ca=1\/ca=2\/ca=3\/ca=4\/ca=5\/ca=6) with rfl|rfl|rfl|rfl|rfl|rfl
     all_goals (first|(exfalso;omega)|skip)
     all_goals
      have hrow:=hra _ rfl;simp only[hκ,putM,Int.reduceSub,Int.reduceToNat,List.modify_zero_cons,List.modify_succ_cons,ntN1,ntN2,nilRows,arrRows,intRes,g1,List.replicate_zero,List.replicate_succ,List.cons_append,List.nil_append,List.append_nil,Nat.zero_add,Nat.reduceAdd] at hy;(all_goals refine fx ?_;repeat' first|exact .intro|refine Tw.mk ?_ ?_|(intro h;first|replace h:=h.o|cases h))
      all_goals (try (exfalso;omega))
      all_goals (exact⟨_,(by (refine za2 ?_;repeat' first|exact .intro|refine Tw.mk ?_ ?_);all_goals (first|rfl|exact i_set|(simp;done))),hy⟩)
    clear hra hT1e hTL;have l2:=hT1.len;rw[hkk2,hκ] at l2;obtain⟨T2,hT2e⟩: ∃T2,T2=putM T1 cb cpb cm:=⟨_,rfl⟩;rw[<-hT2e] at hT2 hst;clear hT1;first|obtain⟨b0,rfl⟩:=len1 l2|obtain⟨b0,b1,rfl⟩:=len2 l2|obtain⟨b0,b1,b2,rfl⟩:=len3 l2|obtain⟨b0,b1,b2,b3,rfl⟩:=len4 l2|obtain⟨b0,b1,b2,b3,b4,rfl⟩:=len5 l2|obtain⟨b0,b1,b2,b3,b4,b5,rfl⟩:=len6 l2
    simp only[hκ,ntN1,ntN2,nilRows,arrRows,intRes,g1,List.replicate_zero,List.replicate_succ,List.cons_append,List.nil_append,List.append_nil,Nat.zero_add,Nat.reduceAdd];rcases (by omega:cb=1\/cb=2\/cb=3\/cb=4\/cb=5\/cb=6) with rfl|rfl|rfl|rfl|rfl|rfl
    all_goals (first|(exfalso;omega)|skip)
    all_goals
     have hrow:=hrb _ rfl;simp only[putM,Int.reduceSub,Int.reduceToNat,List.modify_zero_cons,List.modify_succ_cons] at hT2e;(all_goals refine fx ?_;repeat' first|exact .intro|refine Tw.mk ?_ ?_|(intro h;first|replace h:=h.o|cases h))
     all_goals (try (exfalso;omega))
     all_goals (refine za5 (j+1) T2 ⟨by omega,hT2,hst⟩ (by omega) (by
      rw[hT2e];simp only[hκ,ntN1,ntN2,nilRows,arrRows,intRes,g1,List.replicate_zero,List.replicate_succ,List.cons_append,List.nil_append,List.append_nil,Nat.zero_add,Nat.reduceAdd];(refine za2 ?_;repeat' first|exact .intro|refine Tw.mk ?_ ?_);all_goals (first|rfl|exact i_set|(simp;done))))
   .have hjl:j=l.length:=by omega
    rw[hjl,List.take_length] at hTe;have hNT:newT kk l=TL:=by rw[hTL];exact hTe.symm
    have hR3:R=⟨rsN TL κ,l.map mkCb,TL,List.replicate κ []⟩:=by rw[hR2];unfold newN;rw[hNT,rsN_map,hkk2]
    rw[hR3];rw[<-hTL] at hT;have hT3: ∀t∈TL,(t.map iRow).take 3=t.map iRow:=λt ht=>List.take_of_length_le (by rw[List.length_map,(hT.three t ht).1];exact Nat.le_refl _);clear hTe hNT hR2 hR3 hlκ;first|obtain⟨b0,rfl⟩:=len1 l1|obtain⟨b0,b1,rfl⟩:=len2 l1|obtain⟨b0,b1,b2,rfl⟩:=len3 l1|obtain⟨b0,b1,b2,b3,rfl⟩:=len4 l1|obtain⟨b0,b1,b2,b3,b4,rfl⟩:=len5 l1|obtain⟨b0,b1,b2,b3,b4,b5,rfl⟩:=len6 l1
    rw[hTL] at hT3;rw[hjl];simp only[hκ,ntN1,ntN2,nilRows,arrRows,intRes,g1,List.replicate_zero,List.replicate_succ,List.cons_append,List.nil_append,List.append_nil,Nat.zero_add,Nat.reduceAdd,List.take_length];(all_goals refine fx ?_;repeat' first|exact .intro|refine Tw.mk ?_ ?_|(intro h;first|replace h:=h.o|cases h))
    all_goals (try (exfalso;omega))
    refine lpG (λj:Nat=>⟨[(0,.v (.int .i64 κ)),(7,.box 1 0),(83,.v (.int .i64 κ)),(84,.v (.int .i64 j))],ntN κ (l.map mkCb) TL (rsN TL j) (g1 j)⟩) (λj=>j<=κ) (λj=>κ-j) 0 (by omega) (by
     refine AS.le_trans (zcC 3 2 0 _ rfl rfl rfl rfl) ?_;try refine AS.le_trans (zcC 4 2 1 _ rfl rfl rfl rfl) ?_
     try refine AS.le_trans (zcC 5 2 2 _ rfl rfl rfl rfl) ?_
     try refine AS.le_trans (zcC 6 2 3 _ rfl rfl rfl rfl) ?_
     try refine AS.le_trans (zcC 7 2 4 _ rfl rfl rfl rfl) ?_
     try refine AS.le_trans (zcC 8 2 5 _ rfl rfl rfl rfl) ?_
     refine AS.le_trans (za4 false 1 0 45 1 _ rfl rfl) ?_;rw[hTL];simp only[ntN,mtRow,rsN,rowsR,resR,List.map_cons,List.map_nil,List.length_cons,List.length_nil,List.set_cons_zero,List.set_cons_succ,hκ,ntN1,ntN2,nilRows,arrRows,intRes,g1,List.replicate_zero,List.replicate_succ,List.cons_append,List.nil_append,List.append_nil,Nat.zero_add,Nat.reduceAdd];first
      |(have hg:κ=1:=hκ;(refine zaC [0,1,2,4,5] ?_;repeat' first|exact .intro|refine Tw.mk ?_ ?_);all_goals (first|rfl|(exact (List.length_map ..).symm)|(exact hT3 _ (by simp))|(simp;done)))
      |(have hg:κ=2:=hκ;(refine zaC [0,1,2,5,6] ?_;repeat' first|exact .intro|refine Tw.mk ?_ ?_);all_goals (first|rfl|(exact (List.length_map ..).symm)|(exact hT3 _ (by simp))|(simp;done)))
      |(have hg:κ=3:=hκ;(refine zaC [0,1,2,6,7] ?_;repeat' first|exact .intro|refine Tw.mk ?_ ?_);all_goals (first|rfl|(exact (List.length_map ..).symm)|(exact hT3 _ (by simp))|(simp;done)))
      |(have hg:κ=4:=hκ;(refine zaC [0,1,2,7,8] ?_;repeat' first|exact .intro|refine Tw.mk ?_ ?_);all_goals (first|rfl|(exact (List.length_map ..).symm)|(exact hT3 _ (by simp))|(simp;done)))
      |(have hg:κ=5:=hκ;(refine zaC [0,1,2,8,9] ?_;repeat' first|exact .intro|refine Tw.mk ?_ ?_);all_goals (first|rfl|(exact (List.length_map ..).symm)|(exact hT3 _ (by simp))|(simp;done)))
      |(have hg:κ=6:=hκ;(refine zaC [0,1,2,9,10] ?_;repeat' first|exact .intro|refine Tw.mk ?_ ?_);all_goals (first|rfl|(exact (List.length_map ..).symm)|(exact hT3 _ (by simp))|(simp;done)))) ?_
    clear hj hj' hjl j;rintro j hj;by_cases hj':j<κ
    .obtain⟨a,b,c,habc,ha,hb,hc⟩:=zc3 hT (t:=TL.getD j []) (by
      rw[List.getD_eq_getElem?_getD,List.getElem?_eq_getElem (by rw[hT.len,hkk2];exact hj')];exact List.getElem_mem _)
     have hn:=xrnew ((j:Int)+1) a b c (by omega) ⟨ha,hb,hc⟩;rw[hTL] at habc;clear hT;obtain⟨q,hq⟩: ∃q,q=j:=⟨_,rfl⟩;rcases (by omega:j=0\/j=1\/j=2\/j=3\/j=4\/j=5) with rfl|rfl|rfl|rfl|rfl|rfl
     all_goals (first|(exfalso;omega)|skip)
     all_goals
      simp only[List.getD_cons_zero,List.getD_cons_succ] at habc;subst habc;rw[hTL];simp only[ntN,mtRow,rsN,rowsR,resR,List.getD_cons_zero,List.getD_cons_succ,List.map_cons,List.map_nil,List.length_cons,List.length_nil,hκ,ntN1,ntN2,nilRows,arrRows,intRes,g1,List.replicate_zero,List.replicate_succ,List.cons_append,List.nil_append,List.append_nil,Nat.zero_add,Nat.reduceAdd];(all_goals refine fx ?_;repeat' first|exact .intro|refine Tw.mk ?_ ?_|(intro h;first|replace h:=h.o|cases h))
      all_goals (try (exfalso;omega))
      all_goals ((refine StopCall.fz [] (hn) ?_;(all_goals refine fx ?_;repeat' first|exact .intro|refine Tw.mk ?_ ?_|(intro h;first|replace h:=h.o|cases h))))
      all_goals (try (exfalso;omega))
      all_goals (refine zaO (q+1) (by omega) (by omega) (by
       try rw[hTL]
       simp only[ntN,mtRow,rsN,rowsR,resR,List.getD_cons_zero,List.getD_cons_succ,List.map_cons,List.map_nil,List.length_cons,List.length_nil,hq,hκ,ntN1,ntN2,nilRows,arrRows,intRes,g1,List.replicate_zero,List.replicate_succ,List.cons_append,List.nil_append,List.append_nil,Nat.zero_add,Nat.reduceAdd];(refine za2 ?_;repeat' first|exact .intro|refine Tw.mk ?_ ?_);all_goals (first|rfl|(simp;done))))
    .have hjk:j=κ:=by omega
     rw[hjk];have hN:=le_N (p:=4) (q:=5) (k:=κ) (g:=g1 κ) (cs:=l.map mkCb) (mt:=TL) (rsN_len TL κ);rw[hTL] at hN ⊢;simp only[ntN,mtRow,rsN,rowsR,resR,List.getD_cons_zero,List.getD_cons_succ,List.map_cons,List.map_nil,List.length_cons,List.length_nil,hκ,ntN1,ntN2,nilRows,arrRows,intRes,g1,List.replicate_zero,List.replicate_succ,List.cons_append,List.nil_append,List.append_nil,Nat.zero_add,Nat.reduceAdd] at hN ⊢;(all_goals refine fx ?_;repeat' first|exact .intro|refine Tw.mk ?_ ?_|(intro h;first|replace h:=h.o|cases h))
     all_goals (try (exfalso;omega))
     all_goals (refine⟨_,AS.le_trans ?_ hN,?_⟩)
     all_goals (first|((refine za2 ?_;repeat' first|exact .intro|refine Tw.mk ?_ ?_);done)|(((try (conv=>whnf));refine StopRet.by [0] ?_;repeat' first|exact .intro|refine Tw.mk ?_ ?_)))):NewS K:=h
end Go.Proofs.YtimfnpjcedjmiadGreat
namespace Go.Proofs.YtimfnpjcedjmiadGreat
section
variable {S:Meas} {J:Nat->List Mg->Nat} {M ct cn:Nat} {N:Nt} {k d e:Nat} {T:List (List Int)}
theorem zgW{α:Type}{f:Nt->α->Nt}(a b c:Nat)(hs: ∀(N:Nt) (x:α) (d e:Nat),N.inv k d e->(f N x).inv k (d+a) (e+b))(ho: ∀(N:Nt) (x:α) (d e M:Nat),N.inv k d e->N.num T->On S J M N->On S J (M+c) (f N x)/\(f N x).num T): ∀(l:List α) {N:Nt} {d e M:Nat},N.inv k d e->N.num T->On S J M N->On S J (M+c*l.length) (l.foldl f N)/\(l.foldl f N).num T
 |[],N,d,e,M,_,hn,h=>⟨h,hn⟩
 |x::l,N,d,e,M,hI,hn,h=>by
  obtain⟨h1,h2⟩:=ho N x d e M hI hn h;have:=zgW a b c hs ho l (hs N x d e hI) h2 h1;exact⟨this.1.up (by rw[List.length_cons,Nat.mul_succ];omega),this.2⟩
theorem on_dels(hB:InB S J)(hf:Cost S ct cn)(h:On S J M N)(hI:N.inv k d e)(hn:N.num T)(j:Nat):On S J M (zhl N j)/\(zhl N j).num T:=by
 have:=zgW (k:=k) (S:=S) (J:=J) (f:=λq (i:Nat)=>ndel (ndel q i 0 2000) i 1 2000) 4000 2080000 0 (λN x d e h=>(zdS (zdS h x 0 2000) x 1 2000).up (by omega) (by omega)) (λN x d e M hI hn h=>by
  obtain⟨a1,a2⟩:=zo0 hB hf h hI hn x 0 2000;exact zo0 hB hf a1 (zdS hI x 0 2000) a2 x 1 2000) (List.range N.cs.length) hI hn h
 exact⟨this.1.up (by omega),this.2⟩
theorem on_round(hB:InB S J)(hf:Cost S ct cn)(h:On S J M N)(hI:N.inv k d e)(hk:k<=6)(hn:N.num T):On S J (M+6*ct) (zeO N)/\(zeO N).num T:=by
 have h1:=zee (k:=k) (f:=λq (i:Nat)=>zdZ q ((i:Int)+1)) 0 6630 (λN x d e h=>zde h _) (List.range N.rs.length) hI;obtain⟨a1,a2⟩:=zgW (k:=k) (S:=S) (J:=J) (f:=λq (i:Nat)=>zdZ q ((i:Int)+1)) 0 6630 ct (λN x d e h=>zde h _) (λN x d e M hI hn h=>znc hB hf h hI hn _) (List.range N.rs.length) hI hn h;have:=zgW (k:=k) (S:=S) (J:=J) (f:=zhl) 36000 18720000 0 (λN x d e h=>zlM h x) (λN x d e M hI hn h=>on_dels hB hf h hI hn x) (List.range 12) h1 a2 a1;have hl:N.rs.length=k:=hI.ok.rs;refine⟨this.1.up ?_,this.2⟩;rw[List.length_range,hl];have:=Nat.mul_le_mul_left ct hk;omega
structure RsO (T:List (List Int)) (S:Meas) (J:Nat->List Mg->Nat) (M k d e:Nat) (N:Nt) (i:Int) (m:Nat) (s:Nt×List Nat):Prop where
 mt:s.1.mt=N.mt
 inv:s.1.inv k d (e+780*m)
 on:On S J M s.1
 num:s.1.num T
 out: ∀(j:Nat) (c:Cb),j<m->s.1.cs[j]? =some c->c.a=i\/c.b=i->c.inn=false
 len:s.1.cs.length=N.cs.length/\s.2.length<=m
theorem rso_step(hB:InB S J)(hf:Cost S ct cn){i:Int}{m:Nat}{s:Nt×List Nat}(h:RsO T S J M k d e N i m s):RsO T S J M k d e N i (m+1) (zc8 i s m):=by
 unfold zc8;split
 .obtain⟨a1,a2⟩:=zkg hB hf h.on h.inv h.num m false;have hcs:=cse_plug h.inv m false;refine⟨(zg5 _ _ h.inv.ok).2.trans h.mt,(zbx h.inv m false).up (Nat.le_refl _) (by omega),a1,a2,λj c hj hc ht=>?_,(zg5 _ _ h.inv.ok).1.trans h.len.1,by simp only[List.length_append,List.length_singleton];have:=h.len.2;omega⟩;have hjl:j<s.1.cs.length:=by rw[<-(zg5 (m:Int) false h.inv.ok).1];exact (List.getElem?_eq_some_iff.1 hc).1
  have hx:=List.getElem?_eq_getElem hjl;generalize s.1.cs[j]=x at hx;obtain⟨y,hy,hyi⟩: ∃y,(nIn s.1 m false).cs[j]? =some y/\(y.a=x.a/\y.b=x.b/\(if j=m then y.inn=false else y=x)):=by
   unfold nIn;cases hm:s.1.cb m with
   |none=>
    have hne:j≠m:=λg=>by
     subst g;unfold Nt.cb at hm;rw[if_neg (by omega),Int.toNat_natCast,hx] at hm;cases hm
    exact⟨x,hx,rfl,rfl,by rw[if_neg hne]⟩
   |some z=>
    have hz:=(zdW hm).2;rw[Int.toNat_natCast] at hz;show ∃y,(s.1.cs.set _ _)[j]? =some y/\_;rw[ziz hx,Int.toNat_natCast];by_cases g:m=j
    .subst g;rw[hx] at hz;cases hz;exact⟨{ x with inn:=false },by rw[if_pos rfl],rfl,rfl,by rw[if_pos rfl]⟩
    .exact⟨x,by rw[if_neg g],rfl,rfl,by rw[if_neg (λh=>g h.symm)]⟩
  obtain⟨z,hz,hE⟩:=hcs.2 j y hy;rw[hc] at hz;cases hz;rw[hE.2.2.2.2.2];by_cases g:j=m
  .rw[if_pos g] at hyi;exact hyi.2.2
  .rw[if_neg g] at hyi;rw[hyi.2.2];refine h.out j x (by omega) hx ?_;rw[<-hyi.1,<-hyi.2.1,<-hE.1,<-hE.2.2.1];exact ht
 .rename_i ht;refine⟨h.mt,h.inv.up (Nat.le_refl _) (by omega),h.on,h.num,λj c hj hc hi=>?_,h.len.1,by have:=h.len.2;omega⟩;by_cases g:j=m
  .subst g;unfold zhg at ht;rw[hc] at ht;cases hin:c.inn with
   |false=>rfl
   |true=>
    exfalso;apply ht;dsimp only;rw[hin];rcases hi with hi|hi
    .rw[hi,beq_self_eq_true];rfl
    .rw[hi,beq_self_eq_true,Bool.or_true];rfl
  .exact h.out j c (by omega) hc hi
theorem on_rst(hB:InB S J)(hf:Cost S ct cn)(h:On S J M N)(hI:N.inv k d e)(hk:k<=6)(hn:N.num T)(i:Int):On S J (M+cn) (nrst N i)/\(nrst N i).num T:=by
 unfold nrst;split
 .rename_i hi0;have hi:=zcG.1 hi0;rw[hI.ok.rs] at hi;have key: ∀m,m<=N.cs.length->RsO T S J M k d e N i m ((List.range m).foldl (zc8 i) (N,[])):=by
   intro m
   induction m with
   |zero=>exact λ_=>⟨rfl,hI,h,hn,λj c hj=>absurd hj (Nat.not_lt_zero _),rfl,Nat.le_refl _⟩
   |succ m ih=>
    intro hm;rw[List.range_succ,List.foldl_append];exact rso_step hB hf (ih (by omega))
  have hs:=key _ (Nat.le_refl _);generalize (List.range N.cs.length).foldl (zc8 i) (N,[])=s at *
  have b1:=zhv hs.inv hk (i:=i) ⟨hi.1,by omega⟩;have b2:=on_new hf hs.on hs.inv hk hs.num (i:=i) ⟨hi.1,by omega⟩ (λj c hc ht=>hs.out j c (by have:=(List.getElem?_eq_some_iff.1 hc).1;have:=hs.len.1;omega) hc ht);rw[hs.mt] at b1 b2;have:=zgW (k:=k) (S:=S) (J:=J) (f:=λq (j:Nat)=>zbS q j true) 0 780 0 (λN x d e h=>zbx h _ _) (λN x d e M hI hn h=>zkg hB hf h hI hn _ _) s.2 b1 b2.2 b2.1;exact⟨this.1.up (by omega),this.2⟩
 .exact⟨h.up (by omega),hn⟩
end
def Ca.en(c:Ca)(s:Bool):Int×Int:=if s then (c.a,c.pa) else (c.b,c.pb)
theorem zli{k:Int}: ∀{l:List Ca} {U:List (Int×Int)},zeo k l U=0->(∀(i:Nat) (c:Ca) (s:Bool),l[i]? =some c->c.en s∉U)/\ ∀(i j:Nat) (c d:Ca) (s t:Bool),l[i]? =some c->l[j]? =some d->c.en s=d.en t->i=j/\s=t
 |[],U,_=>⟨λi c s h=>(by cases h),λi j c d s t h=>(by cases h)⟩
 |x::l,U,h=>by
  unfold zeo at h;split at h
  .rename_i h1;exact absurd h h1
  .rename_i h1;have h2:capE k U x=0:=Decidable.not_not.1 h1;unfold capE at h2;split at h2
   .cases h2
   .split at h2
    .rename_i g1 g2;exact absurd h2 g2
    .rename_i g1 g2;have e1:=(ziJ (Decidable.not_not.1 g2)).2.2.2.2;have e2:=(ziJ h2).2.2.2.2;obtain⟨r1,r2⟩:=zli h;have hx: ∀s,x.en s∉U:=λs=>by
      cases s
      .exact λg=>e2 (List.mem_cons_of_mem _ g)
      .exact e1
     have hxx:x.en true≠x.en false:=λg=>e2 (by rw[show (x.b,x.pb)=(x.a,x.pa) from g.symm];exact List.mem_cons_self ..);have hxl: ∀(i:Nat) (c:Ca) (s t:Bool),l[i]? =some c->c.en s≠x.en t:=λi c s t hc g=>by
      refine r1 i c s hc ?_;rw[g];unfold zoH;cases t
      .exact List.mem_cons_self ..
      .exact List.mem_cons_of_mem _ (List.mem_cons_self ..)
     refine⟨λi c s hc=>?_,λi j c d s t hc hd g=>?_⟩
     .cases i with
      |zero=>cases hc;exact hx s
      |succ i=>exact λg=>r1 i c s hc (List.mem_cons_of_mem _ (List.mem_cons_of_mem _ g))
     .cases i with
      |zero=>
       cases j with
       |zero=>
        cases hc;cases hd;refine⟨rfl,?_⟩;cases s<;>cases t
        .rfl
        .exact absurd g.symm hxx
        .exact absurd g hxx
        .rfl
       |succ j=>cases hc;exact absurd g.symm (hxl j d t s hd)
      |succ i=>
       cases j with
       |zero=>cases hd;exact absurd g (hxl i c s t hc)
       |succ j=>
        have:=r2 i j c d s t hc hd g;exact⟨by omega,this.2⟩
theorem on_newN{S:Meas}{J:Nat->List Mg->Nat}{ct cn:Nat}(hf:Cost S ct cn)(hJ: ∀i,J i []=0){k:Nat}{l:List Ca}(hc:zbv k l=0):On S J (7*cn) (newN k l)/\(newN k l).num (newT k l):=by
 obtain⟨k1,k6,hlen,hl⟩:=zem hc;rw[Int.toNat_natCast] at hl;have hT:=zgE hl;have hrow: ∀i,i<k-> ∃a b c,(newT k l).getD i []=[a,b,c]/\(1<=a/\a<=20)/\(1<=b/\b<=20)/\(1<=c/\c<=20):=λi hi=>by
  rw[List.getD_eq_getElem?_getD,List.getElem?_eq_getElem (by rw[hT.len];exact hi)];exact zc3 hT (List.getElem_mem (by rw[hT.len];exact hi))
 have hrs: ∀(i:Nat) (r:Rt),(newN k l).rs[i]? =some r->i<k/\ ∃a b c,r=newR ((i:Int)+1) [a,b,c]/\(1<=a/\a<=20)/\(1<=b/\b<=20)/\(1<=c/\c<=20):=λi r hr=>by
  unfold newN at hr;dsimp only at hr;rw[List.getElem?_map] at hr;cases hs:(List.range k)[i]? with
  |none=>rw[hs] at hr;cases hr
  |some x=>
   rw[hs] at hr;obtain rfl:=Option.some.inj hr;obtain⟨h1,h2⟩:=List.getElem?_eq_some_iff.1 hs;rw[List.getElem_range] at h2;subst h2;rw[List.length_range] at h1;obtain⟨a,b,c,h,g⟩:=hrow i h1;exact⟨h1,a,b,c,by show newR ((i:Int)+1) ((newT k l).getD i [])=_;rw[h],g⟩
 have hrl:(newN k l).rs.length=k:=by simp [newN]
 have hget: ∀i,i<k-> ∃r,(newN k l).rs[i]? =some r:=λi hi=>⟨_,List.getElem?_eq_getElem (by rw[hrl];exact hi)⟩;have hcs: ∀(i:Nat) (c:Cb),(newN k l).cs[i]? =some c-> ∃x,l[i]? =some x/\c=mkCb x:=λi c h=>by
  have h':(l.map mkCb)[i]? =some c:=h;rw[List.getElem?_map] at h';cases hx:l[i]? with
  |none=>rw[hx] at h';cases h'
  |some x=>rw[hx] at h';exact⟨x,rfl,(Option.some.inj h').symm⟩
 have hpt: ∀(i:Nat) (c:Cb) (s:Bool),(newN k l).cs[i]? =some c->((newN k l).ptA (c.rdE s)).l.st=1/\((newN k l).ptA (c.rdE s)).rd=rd0:=λi c s h=>by
  obtain⟨x,hx,rfl⟩:=hcs i c h;have hx2:=hl x (getq hx);have h1:((mkCb x).rdE s).1<k/\((mkCb x).rdE s).2<3:=by
   have:=hx2.a;have:=hx2.b;have:=hx2.pa;have:=hx2.pb;cases s
   .show (x.b-1).toNat<k/\x.pb.toNat<3;omega
   .show (x.a-1).toNat<k/\x.pa.toNat<3;omega
  obtain⟨r,hr⟩:=hget _ h1.1;obtain⟨_,a,b,c,rfl,-⟩:=hrs _ r hr;unfold Nt.ptA;rw[zb5 hr];rcases (by omega:((mkCb x).rdE s).2=0\/((mkCb x).rdE s).2=1\/((mkCb x).rdE s).2=2) with g|g|g
  .rw[g];exact⟨rfl,rfl⟩
  .rw[g];exact⟨rfl,rfl⟩
  .rw[g];exact⟨rfl,rfl⟩
 have hQ: ∀(i:Nat) (r:Rt),(newN k l).rs[i]? =some r->S.Q cn r.co/\S.W r.co<=cn:=λi r hr=>by
  obtain⟨hi,a,b,c,rfl,ha,hb,hc⟩:=hrs i r hr;obtain⟨Y,_,h2,h3⟩:=hf.new 0 ((i:Int)+1) a b c (by omega) (by omega) ha hb hc;exact⟨S.Qm (by omega) h2,by omega⟩
 refine⟨⟨⟨cn,λ_ _=>[],λ_ _=>[],⟨λi c s _ h=>?_,λi s t ht=>(by cases ht),λx r j p hr hp=>?_,λa j t ht=>(by cases ht),λa r hr=>(hQ a r hr).1,?_⟩⟩,⟨λi j c d s t h g he=>?_,λi c s h=>.inl (hpt i c s h).1,λi c s h=>?_,λi c s h _=>?_⟩⟩,rfl,λi r hr=>?_⟩
 .unfold Nt.rdA;rw[(hpt i c s h).2];obtain⟨x,hx,rfl⟩:=hcs i c h;cases s<;>exact zhm
 .obtain⟨_,a,b,c,rfl,-⟩:=hrs x r hr;obtain⟨j',m,rfl,-⟩:=zdJ [a,b,c] 0 p (getq (l:=newPs ((x:Int)+1) 0 [a,b,c]) hp);rfl
 .unfold Meas.tot;have e1:sumN (newN k l).cs.length (λi=>S.s []+S.s [])=0:=by
   unfold sumN;exact sum0 (λn hn=>by obtain⟨_,_,rfl⟩:=List.mem_map.1 hn;rfl)
  rw[e1,hrl];have e2:sumN k (S.at J (λ_ _=>[]) (newN k l))<=k*cn:=by
   have: ∀m,m<=k->sumN m (S.at J (λ_ _=>[]) (newN k l))<=m*cn:=by
    intro m
    induction m with
    |zero=>exact λ_=>Nat.zero_le _
    |succ m ih=>
     intro hm;rw[zdP,Nat.succ_mul];have h1:=ih (by omega);obtain⟨r,hr⟩:=hget m (by omega);have h2:=(hQ m r hr).2;have h3:S.at J (λ_ _=>[]) (newN k l) m=S.W r.co:=by
      unfold Meas.at;rw[zb5 hr];have hb:(newN k l).ib.getD m []=[]:=by
       show (List.replicate k []).getD m []=[];rw[List.getD_eq_getElem?_getD,List.getElem?_replicate];split<;>rfl
      rw[hb,hJ];show 0+0+0+S.W r.co+0=_;omega
     omega
   exact this k (Nat.le_refl _)
  have e3:=Nat.mul_le_mul_right cn (show k<=6 by omega);omega
 .obtain⟨x,hx,rfl⟩:=hcs i c h;obtain⟨y,hy,rfl⟩:=hcs j d g;have hx2:=hl x (getq hx);have hy2:=hl y (getq hy);unfold zbv at hc;split at hc
  .cases hc
  .split at hc
   .cases hc
   .refine (zli hc).2 i j x y s t hx hy ?_;have:=hx2.a;have:=hx2.b;have:=hx2.pa;have:=hx2.pb;have:=hy2.a;have:=hy2.b;have:=hy2.pa;have:=hy2.pb;cases s<;>cases t<;>(have q1:=congrArg Prod.fst he;have q2:=congrArg Prod.snd he)
    .change (x.b-1).toNat=(y.b-1).toNat at q1;change x.pb.toNat=y.pb.toNat at q2;exact Prod.ext (show x.b=y.b by omega) (show x.pb=y.pb by omega)
    .change (x.b-1).toNat=(y.a-1).toNat at q1;change x.pb.toNat=y.pa.toNat at q2;exact Prod.ext (show x.b=y.a by omega) (show x.pb=y.pa by omega)
    .change (x.a-1).toNat=(y.b-1).toNat at q1;change x.pa.toNat=y.pb.toNat at q2;exact Prod.ext (show x.a=y.b by omega) (show x.pa=y.pb by omega)
    .change (x.a-1).toNat=(y.a-1).toNat at q1;change x.pa.toNat=y.pa.toNat at q2;exact Prod.ext (show x.a=y.a by omega) (show x.pa=y.pa by omega)
 .obtain⟨x,hx,rfl⟩:=hcs i c h;exact⟨λ_=>rfl,λ_=>(hpt i _ s h).1⟩
 .obtain⟨x,hx,rfl⟩:=hcs i c h;cases s<;>rfl
 .have hm:(newN k l).rs[i]? =some r:=hr;obtain⟨hi,-⟩:=hrs i r hr;obtain⟨a,b,c,h,-⟩:=hrow i hi;have e:r=newR ((i:Int)+1) ((newT k l).getD i []):=by
   have h2:((List.range k).map λ(i:Nat)=>newR ((i:Int)+1) ((newT k l).getD i []))[i]? =some r:=hr;rw[List.getElem?_map,List.getElem?_range hi] at h2;exact (Option.some.inj h2).symm
  rw[h] at e ⊢;subst e;refine⟨rfl,λj=>?_⟩;rcases (by omega:j=0\/j=1\/j=2\/3<=j) with rfl|rfl|rfl|gj
  .rfl
  .rfl
  .rfl
  .unfold Rt.pt;rw[List.getD_eq_getElem?_getD,List.getElem?_eq_none (show (newR ((i:Int)+1) [a,b,c]).ps.length<=j from gj),List.getD_eq_getElem?_getD,List.getElem?_eq_none (show [a,b,c].length<=j from gj)];rfl
end Go.Proofs.YtimfnpjcedjmiadGreat
