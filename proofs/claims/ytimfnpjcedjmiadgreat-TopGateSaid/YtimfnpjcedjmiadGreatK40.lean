/- Lemmas. -/
import Derived.Test.YtimfnpjcedjmiadGreatK38
set_option maxRecDepth 100000
set_option maxHeartbeats 64000000
set_option linter.all false
namespace Go.Proofs.YtimfnpjcedjmiadGreat
open Go.RowKit
theorem ofInt8(x:UInt8):(BitVec.ofInt 8 (x.toNat:Int)).toNat=x.toNat:=by
 rw[BitVec.ofInt_natCast,BitVec.toNat_ofNat]
 exact Nat.mod_eq_of_lt x.toNat_lt
theorem xorU8(x t:UInt8):IntKind.u8.wrap (((BitVec.ofInt IntKind.u8.bits (x.toNat:Int)^^^BitVec.ofInt IntKind.u8.bits (t.toNat:Int)).toNat:Nat):Int)=((x^^^t).toNat:Int):=by
 have h:(BitVec.ofInt IntKind.u8.bits (x.toNat:Int)^^^BitVec.ofInt IntKind.u8.bits (t.toNat:Int)).toNat=(x^^^t).toNat:=by
  rw[BitVec.toNat_xor,UInt8.toNat_xor]
  exact congr (congrArg _ (ofInt8 x)) (ofInt8 t)
 rw[h,wrap_u8,u8_toNat]
theorem byteRows_tx(w:List UInt8):zaO (tx w)=w.map fun c=>[AV.v (.int .u8 c.toNat)]:=by
 show (tx w).data.toList.map _=_
 rw[show (tx w).data.toList=w from bs_tx w]
theorem spo_rows{w:List UInt8}{j:Nat}{x:UInt8}(t:UInt8)(hx:w[j]? =some x):List.take (tx w).size ((zaO (tx w)).set j [.v (.int .u8 (IntKind.u8.wrap (((BitVec.ofInt IntKind.u8.bits (x.toNat:Int)^^^BitVec.ofInt IntKind.u8.bits (t.toNat:Int)).toNat:Nat):Int)))])=(zf1 w j t).map fun c=>[AV.v (.int .u8 c.toNat)]:=by
 rw[xorU8,byteRows_tx,List.take_of_length_le (by rw[List.length_set,List.length_map];exact Nat.le_of_eq rfl)]
 unfold zf1
 refine List.ext_getElem? fun i=>?_
 rw[List.getElem?_set,List.getElem?_map,List.getElem?_map,List.getElem?_modify]
 by_cases e:j=i
 ·subst e
  rw[if_pos rfl,List.length_map,if_pos (List.getElem?_eq_some_iff.1 hx).1,hx]
  simp
 ·rw[if_neg e]
  simp [e]
variable {k n d e:Nat} {N:Nt}
theorem spoE(hk:1<=k/\k<=6)(hN:N.ok k n d e)(v:Nat->Nat)(i way j:Int)(t:UInt8):Fn Tryz.prog 23 [.box 0 0,.v (.int .i64 i),.v (.int .i64 way),.v (.int .i64 j),.v (.int .u8 t.toNat)] (ntE N v 0) (.err (zmO N i way j)) (ntE (nspo N i way j t) v 0):=by
 have l2:=hN.ib
 have hcs9:=hN.cs
 by_cases hi:(0<=i/\i<N.cs.length)/\0<=way/\way<=1
 ·obtain⟨hi,hway⟩:=hi
  have hi2:=hi.2
  obtain⟨I,rfl⟩: ∃I:Nat,i=(I:Int):=⟨i.toNat,by omega⟩
  have hIl:I<N.cs.length:=by omega
  obtain⟨c,hc⟩: ∃c,N.cs[I]? =some c:=⟨_,List.getElem?_eq_getElem hIl⟩
  have hcb:N.cb (I:Int)=some c:=by unfold Nt.cb;rw[if_neg (by omega)];exact hc
  have hco:=hN.c c (getq hc)
  have hc0:=hco.w0
  have hc1:=hco.w1
  clear hN hco
  rw[show zmO N I way j=(if j<0\/(c.way way).length<=j then 1 else 0) from by unfold zmO;rw[if_neg (by omega),hcb],show nspo N I way j t=(if j<0\/(c.way way).length<=j then N else { N with cs:=N.cs.set I (spoC c way j.toNat t) }) from by unfold nspo;rw[if_neg (by omega),hcb];rfl]
  clear hcb
  obtain⟨ca,cpa,cb,cpb,cm,inn,w0,w1⟩:=c
  have hrow:(N.cs.map zaw)[I]? =some [.v (.int .i64 ca),.v (.int .i64 cpa),.v (.int .i64 cb),.v (.int .i64 cpb),.v (.int .i64 cm),.v (.bool inn),.v (.string (tx w0)),.v (.string (tx w1))]:=zdc hc
  have hz0:(tx w0).size=w0.length:=tx_size
  have hz1:(tx w1).size=w1.length:=tx_size
  have hb0:(zaO (tx w0)).length=w0.length:=by rw[byteRows_tx,List.length_map]
  have hb1:(zaO (tx w1)).length=w1.length:=by rw[byteRows_tx,List.length_map]
  obtain⟨rs,cs,mt,ib⟩:=N
  dsimp only at l2 hcs9 hi hi2 hIl hc hrow hc0 hc1
  have hset: ∀x:Cb,(cs.set I x).map zaw=(cs.map zaw).set I (zaw x):=fun x=>by rw[List.map_set]
  rcases (by omega:way=0\/way=1) with rfl|rfl
  ·show Fn _ _ _ _ (.err (if j<0\/(w0.length:Int)<=j then 1 else 0)) (ntE (if j<0\/(w0.length:Int)<=j then _ else ⟨rs,cs.set I ⟨ca,cpa,cb,cpb,cm,inn,zf1 w0 j.toNat t,w1⟩,mt,ib⟩) v 0)
   by_cases hj:0<=j/\j<w0.length
   ·rw[if_neg (by omega),if_neg (by omega)]
    obtain⟨J,rfl⟩: ∃J:Nat,j=(J:Int):=⟨j.toNat,by omega⟩
    obtain⟨x,hx⟩: ∃x,w0[J]? =some x:=⟨_,List.getElem?_eq_getElem (by omega)⟩
    have hrb:(zaO (tx w0))[J]? =some [.v (.int .u8 x.toNat)]:=by rw[byteRows_tx,List.getElem?_map,hx];rfl
    have hlast:=hset ⟨ca,cpa,cb,cpb,cm,inn,zf1 w0 J t,w1⟩
    exact Y23
   ·rw[if_pos (by omega),if_pos (by omega)]
    exact Y14
  ·show Fn _ _ _ _ (.err (if j<0\/(w1.length:Int)<=j then 1 else 0)) (ntE (if j<0\/(w1.length:Int)<=j then _ else ⟨rs,cs.set I ⟨ca,cpa,cb,cpb,cm,inn,w0,zf1 w1 j.toNat t⟩,mt,ib⟩) v 0)
   by_cases hj:0<=j/\j<w1.length
   ·rw[if_neg (by omega),if_neg (by omega)]
    obtain⟨J,rfl⟩: ∃J:Nat,j=(J:Int):=⟨j.toNat,by omega⟩
    obtain⟨x,hx⟩: ∃x,w1[J]? =some x:=⟨_,List.getElem?_eq_getElem (by omega)⟩
    have hrb:(zaO (tx w1))[J]? =some [.v (.int .u8 x.toNat)]:=by rw[byteRows_tx,List.getElem?_map,hx];rfl
    have hlast:=hset ⟨ca,cpa,cb,cpb,cm,inn,w0,zf1 w1 J t⟩
    exact Y23
   ·rw[if_pos (by omega),if_pos (by omega)]
    exact Y14
 ·have hcb:0<=way/\way<=1->N.cb i=none:=fun hw=>by
   exact Y101
  rw[show zmO N i way j=6 from by unfold zmO;split;rfl;rw[hcb (by omega)],show nspo N i way j t=N from by unfold nspo;split;rfl;rw[hcb (by omega)]]
  clear hN hcb
  obtain⟨rs,cs,mt,ib⟩:=N
  dsimp only at l2 hcs9 hi
  exact Y14
end Go.Proofs.YtimfnpjcedjmiadGreat
