/- Lemmas. -/
import Derived.Test.YtimfnpjcedjmiadGreatK24
set_option maxRecDepth 100000
set_option maxHeartbeats 64000000
set_option linter.all false
namespace Go.Proofs.YtimfnpjcedjmiadGreat
section
variable {k n d e : Nat} {N : Nt}
theorem Nt.inv.up (h : N.inv k d e) {d' e' : Nat} (hd : d <= d') (he : e <= e') : N.inv k d' e' := ⟨h.ok.up (Nat.le_refl _) hd he, h.idle⟩
theorem zdR (hN : N.lone) (i : Int) {F : Rt -> Rt} (hL : ∀ r, (F r).ps.length = r.ps.length) (hF : ∀ r, N.rs[(i - 1).toNat]? = some r -> Idl (fun p => N.wired (i - 1).toNat p) r (F r)) : (N.onR i F).lone := by
 intro j p r' q' hr' hq' hw
 rw [zjb] at hr'
 cases hr : N.rs[j]? with
 | none => rw [hr] at hr'; cases hr'
 | some r =>
  rw [hr] at hr'
  have hr2 : (if (i - 1).toNat = j then F r else r) = r' := Option.some.inj hr'
  by_cases e : (i - 1).toNat = j
  ·rw [if_pos e] at hr2
   subst e hr2
   have hlt : p < r.ps.length := by rw [<- hL r]; exact (List.getElem?_eq_some_iff.1 hq').1
   have hi := hN _ p r _ hr (List.getElem?_eq_getElem hlt) hw
   have := (hF r hr).h p _ hw (List.getElem?_eq_getElem hlt) hi
   rw [hq'] at this
   obtain rfl := Option.some.inj this
   exact hi
  ·rw [if_neg e] at hr2
   subst hr2
   exact hN j p r q' hr hq' hw
theorem zcw {i : Nat} {c c' : Cb} (hc : N.cs[i]? = some c) (he : c'.a = c.a /\ c'.pa = c.pa /\ c'.b = c.b /\ c'.pb = c.pb) {j p : Nat} : Nt.wired { N with cs := N.cs.set i c' } j p ↔ N.wired j p := by
 have hat : ∀ j p, c'.at j p ↔ c.at j p := fun j p => by unfold Cb.at; rw [he.1, he.2.1, he.2.2.1, he.2.2.2]
 constructor
 ·rintro ⟨x, hx, ha⟩
  rcases List.mem_or_eq_of_mem_set hx with g | g
  ·exact ⟨x, g, ha⟩
  ·subst g
   exact ⟨c, getq hc, (hat j p).1 ha⟩
 ·rintro ⟨x, hx, ha⟩
  obtain ⟨m, hm⟩ := List.mem_iff_getElem?.1 hx
  have := zjR (m := i) (d := c') hm
  by_cases e : i = m
  ·subst e
   rw [hc] at hm
   obtain rfl := Option.some.inj hm
   rw [if_pos rfl] at this
   exact ⟨c', getq this, (hat j p).2 ha⟩
  ·rw [if_neg e] at this
   exact ⟨x, getq this, ha⟩
theorem zhr (hN : N.lone) {i : Nat} {c c' : Cb} (hc : N.cs[i]? = some c) (he : c'.a = c.a /\ c'.pa = c.pa /\ c'.b = c.b /\ c'.pb = c.pb) : Nt.lone { N with cs := N.cs.set i c' } :=
 fun j p r q hr hq hw => hN j p r q hr hq (fun h => hw ((zcw hc he).2 h))
theorem zd6 (h : N.inv k d e) (i : Int) : (zcb N i).inv k d (e + 6630) := by
 unfold zcb
 split
 ·have h1 := zai h.ok (m := 6630) (f := d) (by omega) (Nat.le_refl _) i (F := zdJ) (fun r hr => by have := zji hr; rw [Nat.zero_add] at this; exact this)
  exact zeM h1 (zdR h.idle i (fun r => (zfw r).2) (fun r _ => idl_tick r))
 ·exact h.up (Nat.le_refl _) (by omega)
theorem zks (h : N.inv k d e) (i to : Int) (t : ByteArray) : (zg8 N i to t).inv k (d + 1) (e + 6630) := by
 unfold zg8
 split
 ·have h1 := zai h.ok (m := 6630) (f := d + 1) (by omega) (by omega) i (F := fun r => zdH r to t) (fun r hr => by have := zhw hr to t; rw [Nat.zero_add] at this; exact this)
  exact zeM h1 (zdR h.idle i (fun r => (zev r to t).2) (fun r _ => zpB r to t))
 ·exact h.up (by omega) (by omega)
theorem zoL {c : Cb} {i : Nat} (hc : N.cs[i]? = some c) (h : c.ok k) : N.wired (c.a - 1).toNat c.pa.toNat := ⟨c, getq hc, .inl ⟨by have := h.a; omega, by have := h.pa; omega⟩⟩
theorem zpE {c : Cb} {i : Nat} (hc : N.cs[i]? = some c) (h : c.ok k) : N.wired (c.b - 1).toNat c.pb.toNat := ⟨c, getq hc, .inr ⟨by have := h.b; omega, by have := h.pb; omega⟩⟩
theorem zcr {i : Int} {c : Cb} (h : N.cb i = some c) : 0 <= i /\ N.cs[i.toNat]? = some c := by
 unfold Nt.cb at h
 split at h
 ·cases h
 ·exact ⟨by omega, h⟩
theorem zdL (h : N.inv k d e) (i way many : Int) : (ndel N i way many).inv k (d + 2000) (e + 1040000) := by
 have hu : N.inv k (d + 2000) (e + 1040000) := h.up (by omega) (by omega)
 unfold ndel
 split
 ·exact hu
 ·split
  ·exact hu
  ·rename_i c hcb
   obtain ⟨h0, hc⟩ := zcr hcb
   have hco := h.ok.c c (getq hc)
   split
   ·have hlen : (c.w1.take (delK many c.w1)).length <= 2000 := Nat.le_trans (List.length_take_le' ..) hco.w1
    have k1 := zdn h.ok i.toNat (c := { c with w1 := c.w1.drop (delK many c.w1) }) ⟨hco.a, hco.pa, hco.b, hco.pb, hco.w0, by show (c.w1.drop _).length <= _; rw [List.length_drop]; have := hco.w1; omega⟩
    have k2 := zai k1 (m := 1040000) (f := d + 2000) (by omega) (by omega) c.a (F := fun r => zbH r c.pa.toNat (c.w1.take (delK many c.w1))) (fun r hr => by have := zcx hr c.pa.toNat hlen; rw [Nat.zero_add] at this; exact this)
    refine zeM k2 (zdR (zhr (c' := { c with w1 := c.w1.drop (delK many c.w1) }) h.idle hc ⟨rfl, rfl, rfl, rfl⟩) c.a (F := fun r => zbH r c.pa.toNat (c.w1.take (delK many c.w1))) (fun r => (ze8 ..).2) (fun r _ => (zlA r c.pa.toNat _).mono fun p hp => ?_))
    subst hp
    exact (zcw (c' := { c with w1 := c.w1.drop (delK many c.w1) }) hc ⟨rfl, rfl, rfl, rfl⟩).2 (zoL hc hco)
   ·have hlen : (c.w0.take (delK many c.w0)).length <= 2000 := Nat.le_trans (List.length_take_le' ..) hco.w0
    have k1 := zdn h.ok i.toNat (c := { c with w0 := c.w0.drop (delK many c.w0) }) ⟨hco.a, hco.pa, hco.b, hco.pb, by show (c.w0.drop _).length <= _; rw [List.length_drop]; have := hco.w0; omega, hco.w1⟩
    have k2 := zai k1 (m := 1040000) (f := d + 2000) (by omega) (by omega) c.b (F := fun r => zbH r c.pb.toNat (c.w0.take (delK many c.w0))) (fun r hr => by have := zcx hr c.pb.toNat hlen; rw [Nat.zero_add] at this; exact this)
    refine zeM k2 (zdR (zhr (c' := { c with w0 := c.w0.drop (delK many c.w0) }) h.idle hc ⟨rfl, rfl, rfl, rfl⟩) c.b (F := fun r => zbH r c.pb.toNat (c.w0.take (delK many c.w0))) (fun r => (ze8 ..).2) (fun r _ => (zlA r c.pb.toNat _).mono fun p hp => ?_))
    subst hp
    exact (zcw (c' := { c with w0 := c.w0.drop (delK many c.w0) }) hc ⟨rfl, rfl, rfl, rfl⟩).2 (zpE hc hco)
theorem zb9 (h : N.inv k d e) (i : Int) (up : Bool) : (zam N i up).inv k d (e + 780) := by
 have hu : N.inv k d (e + 780) := h.up (by omega) (by omega)
 unfold zam
 split
 ·exact hu
 ·rename_i c hcb
  obtain ⟨h0, hc⟩ := zcr hcb
  have hco := h.ok.c c (getq hc)
  split
  ·exact hu
  ·have k1 := zdn h.ok i.toNat (c := { c with inn := up, w0 := [], w1 := [] }) ⟨hco.a, hco.pa, hco.b, hco.pb, Nat.zero_le _, Nat.zero_le _⟩
   have k2 := zai k1 (m := 390) (f := d) (by omega) (Nat.le_refl _) c.a (F := fun r => zae r c.pa.toNat up) (fun r hr => by have := zcP hr c.pa.toNat up; rw [Nat.zero_add] at this; exact this)
   have k3 := zai k2 (m := 780) (f := d) (by omega) (Nat.le_refl _) c.b (F := fun r => zae r c.pb.toNat up) (fun r hr => zcP hr c.pb.toNat up)
   have l1 := zhr (c' := { c with inn := up, w0 := [], w1 := [] }) h.idle hc ⟨rfl, rfl, rfl, rfl⟩
   have l2 := zdR l1 c.a (F := fun r => zae r c.pa.toNat up) (fun r => (zeU ..).2) (fun r _ => (zlL r c.pa.toNat up).mono fun p hp => by
    subst hp
    exact (zcw (c' := { c with inn := up, w0 := [], w1 := [] }) hc ⟨rfl, rfl, rfl, rfl⟩).2 (zoL hc hco))
   have l3 := zdR l2 c.b (F := fun r => zae r c.pb.toNat up) (fun r => (zeU ..).2) (fun r _ => (zlL r c.pb.toNat up).mono fun p hp => by
    subst hp
    exact (zcw (c' := { c with inn := up, w0 := [], w1 := [] }) hc ⟨rfl, rfl, rfl, rfl⟩).2 (zpE hc hco))
   exact zeM k3 l3
theorem zju (i : Int) (up : Bool) (h : N.ok k n d e) : (zam N i up).cs.length = N.cs.length /\ (zam N i up).mt = N.mt := by
 unfold zam
 split
 ·exact ⟨rfl, rfl⟩
 ·rename_i c hcb
  obtain ⟨h0, hc⟩ := zcr hcb
  have hco := h.c c (getq hc)
  split
  ·exact ⟨rfl, rfl⟩
  ·have k1 := zdn h i.toNat (c := { c with inn := up, w0 := [], w1 := [] }) ⟨hco.a, hco.pa, hco.b, hco.pb, Nat.zero_le _, Nat.zero_le _⟩
   have k2 := zai k1 (m := n + 390) (f := d) (by omega) (Nat.le_refl _) c.a (F := fun r => zae r c.pa.toNat up) (fun r hr => zcP hr c.pa.toNat up)
   have k3 := zai k2 (m := n + 780) (f := d) (by omega) (Nat.le_refl _) c.b (F := fun r => zae r c.pb.toNat up) (fun r hr => zcP hr c.pb.toNat up)
   have gl := zhQ k3
   obtain ⟨f1, f2, _⟩ := zbs (ze1 N i.toNat c up)
   exact ⟨by rw [f1]; exact gl.cl.trans (List.length_set ..), f2.trans gl.mt⟩
theorem zlK {id i m : Int} : (newPt id i m).idle := ⟨rfl, rfl, rfl, rfl⟩
theorem zee {id : Int} : ∀ (ms : List Int) (i : Int) (q : Pt), q ∈ znd id i ms -> ∃ j m, q = newPt id j m /\ i <= j /\ j < i + ms.length /\ m ∈ ms
 | [], i, q, h => by cases h
 | m :: ms, i, q, h => by
  rcases List.mem_cons.1 h with rfl | h
  ·exact ⟨i, m, rfl, Int.le_refl _, by simp only [List.length_cons]; omega, List.mem_cons_self ..⟩
  ·obtain ⟨j, m', h1, h2, h3, h4⟩ := zee ms (i + 1) q h
   exact ⟨j, m', h1, by omega, by simp only [List.length_cons]; omega, List.mem_cons_of_mem _ h4⟩
theorem new_f3 {id a b c : Int} (hid : 1 <= id /\ id <= 6) (ha : 1 <= a /\ a <= 20) (hb : 1 <= b /\ b <= 20) (hc : 1 <= c /\ c <= 20) : (newR id [a, b, c]).f3 0 d := by
 refine ⟨rfl, zfR (zn7 (n := 3) (by decide) (by decide)) _, fun p hp => ?_, Nat.le_refl _, by show -(d : Int) <= 0 /\ (0 : Int) <= d; omega⟩
 obtain ⟨j, m, rfl, h2, h3, h4⟩ := zee [a, b, c] 0 p hp
 simp only [List.length_cons, List.length_nil] at h3
 refine znW hid ⟨h2, by omega⟩ ?_
 simp only [List.mem_cons, List.not_mem_nil, or_false] at h4
 rcases h4 with rfl | rfl | rfl
 ·exact ha
 ·exact hb
 ·exact hc
theorem zhy (h : N.inv k d e) (hk : k <= 6) {i : Int} (hi : 1 <= i /\ i <= k) : (N.onR i fun _ => newR i (N.mt.getD (i - 1).toNat [])).inv k d e := by
 have hlt : (i - 1).toNat < N.mt.length := by rw [h.ok.mt]; omega
 obtain ⟨a, b, c, h1, ha, hb, hc⟩ := h.ok.m3 N.mt[(i - 1).toNat] (List.getElem_mem hlt)
 have hms : N.mt.getD (i - 1).toNat [] = [a, b, c] := by rw [List.getD_eq_getElem?_getD, List.getElem?_eq_getElem hlt]; exact h1
 rw [hms]
 have hf := new_f3 (d := d) (show 1 <= i /\ i <= 6 by omega) ha hb hc
 refine ⟨zai h.ok (Nat.le_refl _) (Nat.le_refl _) i (fun r _ => hf), fun j p r q hr hq hw => ?_⟩
 rw [zjb] at hr
 cases hrj : N.rs[j]? with
 | none => rw [hrj] at hr; cases hr
 | some r0 =>
  rw [hrj] at hr
  have hr2 : (if (i - 1).toNat = j then newR i [a, b, c] else r0) = r := Option.some.inj hr
  by_cases e : (i - 1).toNat = j
  ·rw [if_pos e] at hr2
   subst hr2
   obtain ⟨j', m, rfl, _⟩ := zee [a, b, c] 0 q (getq hq)
   exact zlK
  ·rw [if_neg e] at hr2
   subst hr2
   exact h.idle j p r0 q hrj hq hw
theorem inv_rst (h : N.inv k d e) (hk : k <= 6) (i : Int) : (nrst N i).inv k d (e + 14040) := by
 unfold nrst
 split
 ·rename_i hh
  have hi := zcz.1 hh
  rw [h.ok.rs] at hi
  have key : ∀ m, m <= N.cs.length -> let s := (List.range m).foldl (zcD i) (N, [])
    s.1.inv k d (e + 780 * m) /\ s.2.length <= m /\ s.1.mt = N.mt := by
   intro m
   induction m with
   | zero => intro _; exact ⟨h, Nat.le_refl _, rfl⟩
   | succ m ih =>
    intro hm
    obtain ⟨a1, a2, a3⟩ := ih (by omega)
    rw [List.range_succ, List.foldl_append]
    generalize (List.range m).foldl (zcD i) (N, []) = s at *
    show (zcD i s m).1.inv _ _ _ /\ (zcD i s m).2.length <= _ /\ (zcD i s m).1.mt = _
    unfold zcD
    split
    ·exact ⟨(zb9 a1 _ _).up (Nat.le_refl _) (by omega), by simp only [List.length_append, List.length_singleton]; omega, (zju _ _ a1.ok).2.trans a3⟩
    ·exact ⟨a1.up (Nat.le_refl _) (by omega), by omega, a3⟩
  obtain ⟨a1, a2, a3⟩ := key _ (Nat.le_refl _)
  have hcs := h.ok.cs
  generalize (List.range N.cs.length).foldl (zcD i) (N, []) = s at *
  have b1 := zhy a1 hk (i := i) ⟨hi.1, by omega⟩
  rw [a3] at b1
  show (s.2.foldl (fun q (k : Nat) => zam q k true) _).inv _ _ _
  generalize s.1.onR i (fun _ => newR i (N.mt.getD (i - 1).toNat [])) = Q at *
  have key2 : ∀ (L : List Nat) (Q : Nt) (e : Nat), Q.inv k d e -> (L.foldl (fun q (k : Nat) => zam q k true) Q).inv k d (e + 780 * L.length) := by
   intro L
   induction L with
   | nil => intro Q e h; exact h
   | cons x L ih =>
    intro Q e h
    have := ih _ _ (zb9 h (x : Int) true)
    rw [List.foldl_cons, List.length_cons]
    exact this.up (Nat.le_refl _) (by omega)
  exact (key2 s.2 Q _ b1).up (Nat.le_refl _) (by omega)
 ·exact h.up (Nat.le_refl _) (by omega)
theorem cs_ndel (h : N.ok k n d e) (i way many : Int) : (ndel N i way many).cs.length = N.cs.length := by
 unfold ndel
 split
 ·rfl
 ·split
  ·rfl
  ·rename_i c hcb
   obtain ⟨h0, hc⟩ := zcr hcb
   have hco := h.c c (getq hc)
   split
   ·have hlen : (c.w1.take (delK many c.w1)).length <= 2000 := Nat.le_trans (List.length_take_le' ..) hco.w1
    have k1 := zdn h i.toNat (c := { c with w1 := c.w1.drop (delK many c.w1) }) ⟨hco.a, hco.pa, hco.b, hco.pb, hco.w0, by show (c.w1.drop _).length <= _; rw [List.length_drop]; have := hco.w1; omega⟩
    have k2 := zai k1 (m := n + 1040000) (f := d + 2000) (by omega) (by omega) c.a (F := fun r => zbH r c.pa.toNat (c.w1.take (delK many c.w1))) (fun r hr => zcx hr c.pa.toNat hlen)
    rw [(zbs _).1]
    exact (zhQ k2).cl.trans (List.length_set ..)
   ·have hlen : (c.w0.take (delK many c.w0)).length <= 2000 := Nat.le_trans (List.length_take_le' ..) hco.w0
    have k1 := zdn h i.toNat (c := { c with w0 := c.w0.drop (delK many c.w0) }) ⟨hco.a, hco.pa, hco.b, hco.pb, by show (c.w0.drop _).length <= _; rw [List.length_drop]; have := hco.w0; omega, hco.w1⟩
    have k2 := zai k1 (m := n + 1040000) (f := d + 2000) (by omega) (by omega) c.b (F := fun r => zbH r c.pb.toNat (c.w0.take (delK many c.w0))) (fun r hr => zcx hr c.pb.toNat hlen)
    rw [(zbs _).1]
    exact (zhQ k2).cl.trans (List.length_set ..)
end
end Go.Proofs.YtimfnpjcedjmiadGreat
namespace Go.Proofs.YtimfnpjcedjmiadGreat
open Go.RowKit
def ntO (N : Nt) : Res := .obj (zbq (ntM N 0))
def zpH (x : Nat) : List AV := [.v (.int .i64 (x : Int))]
theorem cutB {α : Type} {k id : Nat} {x : (AS -> Prop) -> AS -> Prop} {y : AS -> Prop} {A : AS} (B : α -> AS) (ok : α -> Prop) (hy : ∀ a, ok a -> y (B a)) (hx : (∀ a, ok a -> y (B a)) -> x (fun A' => ∃ B, AS.le k A' B /\ y B) A) : StopSeq k id x y A := .mk (hx hy)
theorem zo3 {N : Nt} {i : Int} {k : Nat} {c : Cb} (h : N.cs[k]? = some c) : zhK N i k = (c.inn && (c.a == i || c.b == i)) := by unfold zhK; rw [h]
theorem mt_row {mt : List (List Int)} {j : Nat} {a b c : Int} (h : mt[j]? = some [a, b, c]) : (mt.map mtRow)[j]? = some [.sl 1 ([a, b, c].map iRow) none] := by rw [List.getElem?_map, h]; rfl
def xsV (v : Nat -> Nat) (k : Nat) : List Value := (List.range k).map fun j => .pointer (some ⟨v j, 0, none⟩)
def zhA (v : Nat -> Nat) (k : Nat) : List (List AV) := (List.range k).map fun j => [.v (.pointer (some ⟨v j, 0, none⟩))]
def ntE (N : Nt) (v : Nat -> Nat) (g : Nat) : List Res :=
 .cells [.arr 1 0 N.ib.length, .arr 2 0 N.cs.length, .arr 3 0 N.mt.length, .arr 4 0 N.ib.length] :: .arr false 45 1 0 (zhA v N.ib.length) :: .arr true 91 8 0 (N.cs.map zbN) :: .arr true 88 1 0 (N.mt.map mtRow) :: .arr false 63 1 0 (rowsI 6 g N.ib) :: famR (xsV v N.ib.length) N.rs :: resI g N.ib
theorem zb0 {v : Nat -> Nat} {k j : Nat} (h : j < k) : (xsV v k)[j]? = some (.pointer (some ⟨v j, 0, none⟩)) := by
 unfold xsV; rw [List.getElem?_map, List.getElem?_range h]; rfl
theorem zaj {v : Nat -> Nat} {k j : Nat} (h : j < k) : (zhA v k)[j]? = some [.v (.pointer (some ⟨v j, 0, none⟩))] := by
 unfold zhA; rw [List.getElem?_map, List.getElem?_range h]; rfl
theorem prows_len (v : Nat -> Nat) (k : Nat) : (zhA v k).length = k := by unfold zhA; simp
theorem ziU (v : Nat -> Nat) (k : Nat) : (xsV v k).length = k := by unfold xsV; simp
theorem resR_get : ∀ (rs : List Rt) (i : Nat), (resR rs)[i]? = rs[i]?.map rtO
 | [], i => by simp [resR]
 | r :: rs, 0 => rfl
 | r :: rs, i + 1 => by
  show (resR rs)[i]? = _
  rw [resR_get rs i]; rfl
theorem zc0 : ∀ (rs : List Rt) (q i : Nat), (rowsR q rs)[i]? = rs[i]?.map fun _ => [.box (q + i) 0]
 | [], q, i => by simp [rowsR]
 | r :: rs, q, 0 => rfl
 | r :: rs, q, i + 1 => by
  show (rowsR (q + 1) rs)[i]? = _
  rw [zc0 rs (q + 1) i, show q + 1 + i = q + (i + 1) by omega]; rfl
theorem zbi : ∀ (ib : List (List Mg)) (q g i : Nat), (rowsI q g ib)[i]? = ib[i]?.map fun l => [.arr (q + i) g l.length]
 | [], q, g, i => by simp [rowsI]
 | l :: ib, q, g, 0 => rfl
 | l :: ib, q, g, i + 1 => by
  show (rowsI (q + 1) g ib)[i]? = _
  rw [zbi ib (q + 1) g i, show q + 1 + i = q + (i + 1) by omega]; rfl
theorem resI_get : ∀ (ib : List (List Mg)) (g i : Nat), (resI g ib)[i]? = ib[i]?.map fun l => .arr true 67 3 g (l.map zdt)
 | [], g, i => by simp [resI]
 | l :: ib, g, 0 => rfl
 | l :: ib, g, i + 1 => by
  show (resI g ib)[i]? = _
  rw [resI_get ib g i]; rfl
theorem zh9 {α β : Type} {l : List α} {m : List β} {f : Nat -> α -> β} (h : ∀ i, m[i]? = l[i]?.map (f i)) : m.length = l.length := by
 rcases Nat.lt_trichotomy m.length l.length with g | g | g
 ·have := h m.length
  rw [List.getElem?_eq_none (Nat.le_refl _), List.getElem?_eq_getElem g] at this
  cases this
 ·exact g
 ·have := h l.length
  rw [List.getElem?_eq_none (l := l) (Nat.le_refl _), List.getElem?_eq_getElem g] at this
  cases this
theorem resR_len (rs : List Rt) : (resR rs).length = rs.length := zh9 (f := fun _ => rtO) (resR_get rs)
theorem zfu (rs : List Rt) (q : Nat) : (rowsR q rs).length = rs.length := zh9 (f := fun i _ => [.box (q + i) 0]) (zc0 rs q)
theorem zbb (ib : List (List Mg)) (q g : Nat) : (rowsI q g ib).length = ib.length := zh9 (f := fun i l => [.arr (q + i) g l.length]) (zbi ib q g)
theorem resI_len (ib : List (List Mg)) (g : Nat) : (resI g ib).length = ib.length := zh9 (f := fun _ l => .arr true 67 3 g (l.map zdt)) (resI_get ib g)
theorem zfI (N : Nt) (v : Nat -> Nat) (g : Nat) : (ntE N v g).length = 6 + N.ib.length := by
 unfold ntE; simp only [List.length_cons, resI_len]; omega
theorem zjm (N : Nt) (g : Nat) : (ntM N g).length = 5 + N.rs.length + N.ib.length := by
 unfold ntM ntH; simp only [List.length_append, List.length_cons, List.length_nil, resR_len, resI_len]; omega
theorem ntM_r (N : Nt) (g i : Nat) : (ntM N g)[5 + i]? = (resR N.rs ++ resI g N.ib)[i]? := by
 show (_ :: _ :: _ :: _ :: _ :: (resR N.rs ++ resI g N.ib) : List Res)[5 + i]? = _
 rw [show 5 + i = i + 1 + 1 + 1 + 1 + 1 by omega]
 simp only [List.getElem?_cons_succ]
theorem ntE_i (N : Nt) (v : Nat -> Nat) (g i : Nat) : (ntE N v g)[6 + i]? = (resI g N.ib)[i]? := by
 unfold ntE
 rw [show 6 + i = i + 1 + 1 + 1 + 1 + 1 + 1 by omega]
 simp only [List.getElem?_cons_succ]
def muE (k : Nat) (μ : zaJ) : zaJ := fun id => if id <= 5 then μ id else if id < 6 + k then μ (id + k - 1) else none
theorem znw {σ : zaM} {μ : zaJ} {q : Nat} {y : Value} {b : Nat} (h : RepV σ μ (.box q 0) y) (hq : μ q = some (.fix (.pointer (some ⟨b, 0, none⟩)))) : y = .pointer (some ⟨b, 0, none⟩) := by
 cases h with
 | box _ _ _ c hc =>
  rw [hq] at hc
  simp only [Option.some.injEq, An.fix.injEq, Value.pointer.injEq, Addr.mk.injEq] at hc
  rw [hc.1]
theorem zfE {σ : zaM} {μ μ' : zaJ} {q q' g n : Nat} {y : Value} (h : RepV σ μ (.arr q g n) y) (hq : μ' q' = μ q) : RepV σ μ' (.arr q' g n) y := by
 cases h with
 | arr _ _ _ _ ao m cap a hn hm hmax h hl => exact .arr _ q' g n ao m cap a hn hm hmax (hq.trans h) hl
theorem ib_ren {σ : zaM} {μ μ' : zaJ} {w : World} {q q' id id' g : Nat} {ib : List (List Mg)} {D : Nat -> Prop} (h : ROk σ μ w id D (.arr false 63 1 0 (rowsI q g ib))) (hid : μ' id' = μ id) (hq : ∀ i, i < ib.length -> μ' (q' + i) = μ (q + i)) : ROk σ μ' w id' D (.arr false 63 1 0 (rowsI q' g ib)) := by
 obtain ⟨ao, cap, xs, h1, h2, h3, h4, h5, h6⟩ := h
 rw [zbb] at h1 h2
 refine ⟨ao, cap, xs, by rw [zbb, hid]; exact h1, by rw [zbb]; exact h2, fun r hr => ?_, fun i j r av g1 g2 => ?_, h5, h6⟩
 ·exact Y64
 ·rw [zbi] at g1
  obtain ⟨l, hl, rfl⟩ := Option.map_eq_some_iff.1 g1
  cases j with
  | succ j => simp at g2
  | zero =>
   simp only [List.getElem?_cons_zero, Option.some.injEq] at g2
   subst g2
   obtain ⟨y, y1, y2, y3⟩ := h4 i 0 [.arr (q + i) g l.length] (.arr (q + i) g l.length) (by rw [zbi, hl]; rfl) rfl
   exact ⟨y, y1, zfE y2 (hq i (List.getElem?_eq_some_iff.1 hl).1), y3⟩
theorem zgh {σ : zaM} {μ μ' : zaJ} {w : World} {id id' a b c d : Nat} {D : Nat -> Prop} {i1 i2 i3 i4 : Nat} (h : ROk σ μ w id D (.cells [.arr i1 0 a, .arr i2 0 b, .arr i3 0 c, .arr i4 0 d])) (hid : μ' id' = μ id) (e1 : μ' i1 = μ i1) (e2 : μ' i2 = μ i2) (e3 : μ' i3 = μ i3) (e4 : μ' i4 = μ i4) : ROk σ μ' w id' D (.cells [.arr i1 0 a, .arr i2 0 b, .arr i3 0 c, .arr i4 0 d]) := by
 obtain ⟨x, cs, T, h1, h2, h3, h4, h5, h6⟩ := h
 refine ⟨x, cs, T, hid.trans h1, h2, h3, fun i av hi => ?_, h5, h6⟩
 obtain ⟨y, y1, y2⟩ := h4 i av hi
 refine ⟨y, y1, ?_⟩
 match i, hi with
 | 0, hi => simp only [List.getElem?_cons_zero, Option.some.injEq] at hi; subst hi; exact zfE y2 e1
 | 1, hi => simp only [List.getElem?_cons_succ, List.getElem?_cons_zero, Option.some.injEq] at hi; subst hi; exact zfE y2 e2
 | 2, hi => simp only [List.getElem?_cons_succ, List.getElem?_cons_zero, Option.some.injEq] at hi; subst hi; exact zfE y2 e3
 | 3, hi => simp only [List.getElem?_cons_succ, List.getElem?_cons_zero, Option.some.injEq] at hi; subst hi; exact zfE y2 e4
 | i + 4, hi => simp at hi
theorem zcI {σ : zaM} {μ μ' : zaJ} {w : World} {id id' E sz g : Nat} {rows : List (List AV)} {D : Nat -> Prop} (h : ROk σ μ w id D (.arr true E sz g rows)) (hid : μ' id' = μ id) : ROk σ μ' w id' D (.arr true E sz g rows) := by
 obtain ⟨ao, cap, xs, h1, h2⟩ := h
 exact ⟨ao, cap, xs, hid.trans h1, h2⟩
theorem memE_of {σ : zaM} {μ : zaJ} {w : World} {Ds : Nat -> Nat -> Prop} {N : Nt} (hk : 1 <= N.ib.length) (hrs : N.rs.length = N.ib.length) (h : MemOk σ μ w (ntM N 0) Ds) :
  ∃ v D, MemOk σ (muE N.ib.length μ) w (ntE N v 0) D /\ ∀ b, (∃ i, D i b) ↔ ∃ i, Ds i b := by
 generalize hK : N.ib.length = k at *
 have hobj : ∀ j, j < k -> ∃ c, μ (5 + j) = some (.fix (.pointer (some ⟨c, 0, none⟩))) /\ ∀ r, N.rs[j]? = some r -> (zbq (rtM r 0)).rep σ w c (Ds (5 + j)) := fun j hj => by
  have hr := List.getElem?_eq_getElem (l := N.rs) (i := j) (by omega)
  have : (ntM N 0)[5 + j]? = some (rtO N.rs[j]) := by
   rw [ntM_r, List.getElem?_append_left (by rw [resR_len]; omega), resR_get, hr]; rfl
  obtain ⟨c, h1, h2⟩ := h.ok _ _ this
  exact ⟨c, h1, fun r hr' => by rw [hr] at hr'; obtain rfl := Option.some.inj hr'; exact h2⟩
 let v : Nat -> Nat := fun j => match μ (5 + j) with
  | some (.fix (.pointer (some ⟨c, _, _⟩))) => c
  | _ => 0
 have hv : ∀ j, j < k -> μ (5 + j) = some (.fix (.pointer (some ⟨v j, 0, none⟩))) /\ ∀ r, N.rs[j]? = some r -> (zbq (rtM r 0)).rep σ w (v j) (Ds (5 + j)) := fun j hj => by
  obtain ⟨c, h1, h2⟩ := hobj j hj
  have e : v j = c := by
   show (match μ (5 + j) with
    | some (.fix (.pointer (some ⟨c, _, _⟩))) => c
    | _ => 0) = c
   rw [h1]
  rw [e]; exact ⟨h1, h2⟩
 have hle : ∀ id, id <= 5 -> muE k μ id = μ id := fun id h => if_pos h
 have hgt : ∀ i, i < k -> muE k μ (6 + i) = μ (5 + k + i) := fun i hi => by
  unfold muE; rw [if_neg (by omega), if_pos (by omega)]; congr 1; omega
 let D : Nat -> Nat -> Prop := fun id b => if id < 5 then Ds id b else if id = 5 then ∃ j, j < k /\ Ds (5 + j) b else if id < 6 + k then Ds (id + k - 1) b else False
 have hD5 : ∀ id, id < 5 -> D id = Ds id := fun id h => by funext b; exact if_pos h
 have hDi : ∀ i, i < k -> D (6 + i) = Ds (5 + k + i) := fun i hi => by
  funext b
  show (if 6 + i < 5 then _ else if 6 + i = 5 then _ else if 6 + i < 6 + k then Ds (6 + i + k - 1) b else False) = _
  rw [if_neg (by omega), if_neg (by omega), if_pos (by omega), show 6 + i + k - 1 = 5 + k + i by omega]
 refine ⟨v, D, ⟨fun id r hr => ?_, fun i j b hi hj => ?_, fun id hid => ?_⟩, fun b => ⟨?_, ?_⟩⟩
 ·match id, hr with
  | 0, hr =>
   simp only [ntE, List.getElem?_cons_zero, Option.some.injEq, hK] at hr
   subst hr
   rw [hD5 0 (by decide)]
   have := h.ok 0 (.cells [.arr 1 0 N.rs.length, .arr 2 0 N.cs.length, .arr 3 0 N.mt.length, .arr 4 0 N.rs.length]) rfl
   rw [hrs] at this
   exact zgh this (hle 0 (by decide)) (hle 1 (by decide)) (hle 2 (by decide)) (hle 3 (by decide)) (hle 4 (by decide))
  | 1, hr =>
   simp only [ntE, List.getElem?_cons_succ, List.getElem?_cons_zero, Option.some.injEq, hK] at hr
   subst hr
   rw [hD5 1 (by decide)]
   obtain ⟨ao, cap, xs, h1, h2, h3, h4, h5, h6⟩ := h.ok 1 (.arr false 45 1 0 (rowsR 5 N.rs)) rfl
   rw [zfu, hrs] at h1 h2
   refine ⟨ao, cap, xs, by rw [prows_len, hle 1 (by decide)]; exact h1, by rw [prows_len]; exact h2, fun r hr => ?_, fun i j r av g1 g2 => ?_, h5, h6⟩
   ·obtain ⟨j, _, rfl⟩ := List.mem_map.1 hr
    rfl
   ·have hi : i < k := by have := (List.getElem?_eq_some_iff.1 g1).1; rw [prows_len] at this; exact this
    rw [zaj hi] at g1
    obtain rfl := Option.some.inj g1
    cases j with
    | succ j => simp at g2
    | zero =>
     simp only [List.getElem?_cons_zero, Option.some.injEq] at g2
     subst g2
     obtain ⟨y, y1, y2, y3⟩ := h4 i 0 [.box (5 + i) 0] (.box (5 + i) 0) (by rw [zc0, List.getElem?_eq_getElem (by omega)]; rfl) rfl
     refine ⟨y, y1, ?_, y3⟩
     rw [znw y2 (hv i hi).1]
     exact .v _ _
  | 2, hr =>
   simp only [ntE, List.getElem?_cons_succ, List.getElem?_cons_zero, Option.some.injEq] at hr
   subst hr
   rw [hD5 2 (by decide)]
   exact zcI (h.ok 2 _ rfl) (hle 2 (by decide))
  | 3, hr =>
   simp only [ntE, List.getElem?_cons_succ, List.getElem?_cons_zero, Option.some.injEq] at hr
   subst hr
   rw [hD5 3 (by decide)]
   exact zcI (h.ok 3 _ rfl) (hle 3 (by decide))
  | 4, hr =>
   simp only [ntE, List.getElem?_cons_succ, List.getElem?_cons_zero, Option.some.injEq] at hr
   subst hr
   rw [hD5 4 (by decide)]
   have := h.ok 4 (.arr false 63 1 0 (rowsI (5 + N.rs.length) 0 N.ib)) rfl
   exact ib_ren this (hle 4 (by decide)) (fun i hi => by rw [hgt i (by omega), hrs])
  | 5, hr =>
   simp only [ntE, List.getElem?_cons_succ, List.getElem?_cons_zero, Option.some.injEq, hK] at hr
   subst hr
   refine ⟨v 0, by rw [hle 5 (by decide)]; exact (hv 0 (by omega)).1, fun j => if j < k then Ds (5 + j) else fun _ => False, by rw [ziU, List.length_map, hrs], ⟨fun j x p hx hp => ?_, fun i j b hi hj => ?_, fun b => ?_, fun j b hj => ?_⟩⟩
   ·have hjk : j < k := by have := (List.getElem?_eq_some_iff.1 hx).1; rw [ziU] at this; exact this
    rw [zb0 hjk] at hx
    obtain rfl := Option.some.inj hx
    rw [List.getElem?_map] at hp
    obtain ⟨r, hr, rfl⟩ := Option.map_eq_some_iff.1 hp
    refine ⟨v j, rfl, ?_⟩
    rw [if_pos hjk]
    exact (hv j hjk).2 r hr
   ·split at hi <;> split at hj
    ·have := h.apart _ _ b hi hj; omega
    ·exact hj.elim
    ·exact hi.elim
    ·exact hi.elim
   ·show (if 5 < 5 then _ else if 5 = 5 then ∃ j, j < k /\ Ds (5 + j) b else _) ↔ _
    rw [if_neg (by decide), if_pos rfl]
    exact ⟨fun ⟨j, hj, hb⟩ => ⟨j, by rw [if_pos hj]; exact hb⟩, fun ⟨j, hb⟩ => by
     split at hb
     ·rename_i hj; exact ⟨j, hj, hb⟩
     ·exact hb.elim⟩
   ·split at hj
    ·rename_i hj'; rw [List.length_map, hrs]; exact hj'
    ·exact hj.elim
  | i + 6, hr =>
   rw [show i + 6 = 6 + i by omega] at hr ⊢
   rw [ntE_i, resI_get] at hr
   obtain ⟨l, hl, rfl⟩ := Option.map_eq_some_iff.1 hr
   have hi : i < k := by have := (List.getElem?_eq_some_iff.1 hl).1; omega
   rw [hDi i hi]
   refine zcI (h.ok (5 + k + i) _ ?_) (hgt i hi)
   rw [show 5 + k + i = 5 + (k + i) by omega, ntM_r, List.getElem?_append_right (by rw [resR_len]; omega), resR_len, hrs, show k + i - k = i by omega, resI_get, hl]; rfl
 ·have key : ∀ id b, D id b -> (id < 5 /\ Ds id b) \/ (id = 5 /\ ∃ j, j < k /\ Ds (5 + j) b) \/ (6 <= id /\ id < 6 + k /\ Ds (id + k - 1) b) := fun id b hd => by
   simp only [D] at hd
   split at hd
   ·exact .inl ⟨by assumption, hd⟩
   ·split at hd
    ·exact .inr (.inl ⟨by assumption, hd⟩)
    ·split at hd
     ·exact .inr (.inr ⟨by omega, by assumption, hd⟩)
     ·exact hd.elim
  rcases key i b hi with ⟨a1, a2⟩ | ⟨a1, p, a2, a3⟩ | ⟨a1, a2, a3⟩ <;> rcases key j b hj with ⟨b1, b2⟩ | ⟨b1, q, b2, b3⟩ | ⟨b1, b2, b3⟩
  ·exact h.apart i j b a2 b2
  ·have := h.apart _ _ b a2 b3; omega
  ·have := h.apart _ _ b a2 b3; omega
  ·have := h.apart _ _ b a3 b2; omega
  ·omega
  ·have := h.apart _ _ b a3 b3; omega
  ·have := h.apart _ _ b a3 b2; omega
  ·have := h.apart _ _ b a3 b3; omega
  ·have := h.apart _ _ b a3 b3; omega
 ·rw [zfI, hK] at hid
  refine ⟨by unfold muE; rw [if_neg (by omega), if_neg (by omega)], fun b hb => ?_⟩
  simp only [D] at hb
  rw [if_neg (by omega), if_neg (by omega), if_neg (by omega)] at hb
  exact hb
 ·rintro ⟨i, hi⟩
  simp only [D] at hi
  split at hi
  ·exact ⟨i, hi⟩
  ·split at hi
   ·obtain ⟨j, _, hj⟩ := hi; exact ⟨_, hj⟩
   ·split at hi
    ·exact ⟨_, hi⟩
    ·exact hi.elim
 ·rintro ⟨i, hi⟩
  have hlt := h.lt hi
  rw [zjm, hrs, hK] at hlt
  rcases Nat.lt_or_ge i 5 with g | g
  ·exact ⟨i, by rw [hD5 i g]; exact hi⟩
  ·rcases Nat.lt_or_ge i (5 + k) with g2 | g2
   ·refine ⟨5, ?_⟩
    show (if 5 < 5 then _ else if 5 = 5 then ∃ j, j < k /\ Ds (5 + j) b else _)
    rw [if_neg (by decide), if_pos rfl]
    exact ⟨i - 5, by omega, by rw [show 5 + (i - 5) = i by omega]; exact hi⟩
   ·exact ⟨6 + (i - 5 - k), by rw [hDi _ (by omega), show 5 + k + (i - 5 - k) = i by omega]; exact hi⟩
def zg : An -> An
 | .cur ao n cap _ => .cur ao n cap 0
 | x => x
theorem memM_of {σ : zaM} {μ : zaJ} {w : World} {Ds : Nat -> Nat -> Prop} {N : Nt} {v : Nat -> Nat} {g : Nat} (hrs : N.rs.length = N.ib.length) (h : MemOk σ μ w (ntE N v g) Ds) :
  ∃ μ' D, MemOk σ μ' w (ntM N 0) D /\ μ' 0 = μ 0 /\ ∀ b, (∃ i, D i b) ↔ ∃ i, Ds i b := by
 generalize hK : N.ib.length = k at *
 obtain ⟨c5, _, E, hEl, hE⟩ := h.ok 5 (famR (xsV v N.ib.length) N.rs) rfl
 rw [hK] at hE
 let μ' : zaJ := fun id => if id < 5 then μ id else if id < 5 + k then some (.fix (.pointer (some ⟨v (id - 5), 0, none⟩))) else (μ (id + 1 - k)).map zg
 let D : Nat -> Nat -> Prop := fun id b => if id < 5 then Ds id b else if id < 5 + k then E (id - 5) b else Ds (id + 1 - k) b
 have m5 : ∀ id, id < 5 -> μ' id = μ id := fun id h => if_pos h
 have mr : ∀ j, j < k -> μ' (5 + j) = some (.fix (.pointer (some ⟨v j, 0, none⟩))) := fun j hj => by
  show (if 5 + j < 5 then _ else if 5 + j < 5 + k then _ else _) = _
  rw [if_neg (by omega), if_pos (by omega), show 5 + j - 5 = j by omega]
 have mi : ∀ i, μ' (5 + k + i) = (μ (6 + i)).map zg := fun i => by
  show (if 5 + k + i < 5 then _ else if 5 + k + i < 5 + k then _ else (μ (5 + k + i + 1 - k)).map zg) = _
  rw [if_neg (by omega), if_neg (by omega), show 5 + k + i + 1 - k = 6 + i by omega]
 have d5 : ∀ id, id < 5 -> D id = Ds id := fun id h => by funext b; exact if_pos h
 have dr : ∀ j, j < k -> D (5 + j) = E j := fun j hj => by
  funext b
  show (if 5 + j < 5 then _ else if 5 + j < 5 + k then E (5 + j - 5) b else _) = _
  rw [if_neg (by omega), if_pos (by omega), show 5 + j - 5 = j by omega]
 have di : ∀ i, D (5 + k + i) = Ds (6 + i) := fun i => by
  funext b
  show (if 5 + k + i < 5 then _ else if 5 + k + i < 5 + k then _ else Ds (5 + k + i + 1 - k) b) = _
  rw [if_neg (by omega), if_neg (by omega), show 5 + k + i + 1 - k = 6 + i by omega]
 have hEk : ∀ j b, E j b -> j < k := fun j b hj => by have := hE.out j b hj; rw [List.length_map] at this; omega
 have hE5 : ∀ j b, E j b -> Ds 5 b := fun j b hj => (hE.all b).2 ⟨j, hj⟩
 refine ⟨μ', D, ⟨fun id r hr => ?_, fun i j b hi hj => ?_, fun id hid => ?_⟩, m5 0 (by decide), fun b => ⟨?_, ?_⟩⟩
 ·match id, hr with
  | 0, hr =>
   obtain rfl : Res.cells [.arr 1 0 N.rs.length, .arr 2 0 N.cs.length, .arr 3 0 N.mt.length, .arr 4 0 N.rs.length] = r := Option.some.inj hr
   rw [d5 0 (by decide)]
   have := h.ok 0 (.cells [.arr 1 0 N.ib.length, .arr 2 0 N.cs.length, .arr 3 0 N.mt.length, .arr 4 0 N.ib.length]) rfl
   rw [hK, <- hrs] at this
   exact zgh this (m5 0 (by decide)) (m5 1 (by decide)) (m5 2 (by decide)) (m5 3 (by decide)) (m5 4 (by decide))
  | 1, hr =>
   obtain rfl : Res.arr false 45 1 0 (rowsR 5 N.rs) = r := Option.some.inj hr
   rw [d5 1 (by decide)]
   obtain ⟨ao, cap, xs, h1, h2, h3, h4, h5, h6⟩ := h.ok 1 (.arr false 45 1 0 (zhA v N.ib.length)) rfl
   rw [prows_len, hK] at h1 h2
   refine ⟨ao, cap, xs, by rw [zfu, hrs, m5 1 (by decide)]; exact h1, by rw [zfu, hrs]; exact h2, fun r hr => ?_, fun i j r av g1 g2 => ?_, h5, h6⟩
   ·obtain ⟨i, hi⟩ := List.getElem?_of_mem hr
    rw [zc0] at hi
    obtain ⟨l, _, rfl⟩ := Option.map_eq_some_iff.1 hi
    rfl
   ·rw [zc0] at g1
    obtain ⟨l, hl, rfl⟩ := Option.map_eq_some_iff.1 g1
    have hi : i < k := by have := (List.getElem?_eq_some_iff.1 hl).1; omega
    cases j with
    | succ j => simp at g2
    | zero =>
     simp only [List.getElem?_cons_zero, Option.some.injEq] at g2
     subst g2
     obtain ⟨y, y1, y2, y3⟩ := h4 i 0 [.v (.pointer (some ⟨v i, 0, none⟩))] (.v (.pointer (some ⟨v i, 0, none⟩))) (by rw [hK]; exact zaj hi) rfl
     refine ⟨y, y1, ?_, y3⟩
     rw [y2.inv_v]
     exact .box _ _ 0 (v i) (mr i hi)
  | 2, hr =>
   obtain rfl : Res.arr true 91 8 0 (N.cs.map zbN) = r := Option.some.inj hr
   rw [d5 2 (by decide)]
   exact zcI (h.ok 2 _ rfl) (m5 2 (by decide))
  | 3, hr =>
   obtain rfl : Res.arr true 88 1 0 (N.mt.map mtRow) = r := Option.some.inj hr
   rw [d5 3 (by decide)]
   exact zcI (h.ok 3 _ rfl) (m5 3 (by decide))
  | 4, hr =>
   obtain rfl : Res.arr false 63 1 0 (rowsI (5 + N.rs.length) 0 N.ib) = r := Option.some.inj hr
   rw [d5 4 (by decide)]
   obtain ⟨ao, cap, xs, h1, h2, h3, h4, h5, h6⟩ := h.ok 4 (.arr false 63 1 0 (rowsI 6 g N.ib)) rfl
   rw [zbb] at h1 h2
   refine ⟨ao, cap, xs, by rw [zbb, m5 4 (by decide)]; exact h1, by rw [zbb]; exact h2, fun r hr => ?_, fun i j r av g1 g2 => ?_, h5, h6⟩
   ·exact Y64
   ·rw [zbi] at g1
    obtain ⟨l, hl, rfl⟩ := Option.map_eq_some_iff.1 g1
    cases j with
    | succ j => simp at g2
    | zero =>
     simp only [List.getElem?_cons_zero, Option.some.injEq] at g2
     subst g2
     obtain ⟨y, y1, y2, y3⟩ := h4 i 0 [.arr (6 + i) g l.length] (.arr (6 + i) g l.length) (by rw [zbi, hl]; rfl) rfl
     refine ⟨y, y1, ?_, y3⟩
     cases y2 with
     | arr _ _ _ _ ao' m' cap' a hn hm hmax h7 h8 =>
      obtain ⟨ao2, cap2, xs2, q1, _⟩ := h.ok (6 + i) (.arr true 67 3 g (l.map zdt)) (by rw [ntE_i, resI_get, hl]; rfl)
      have h7' : μ (6 + i) = some a := h7
      rw [q1] at h7'
      obtain rfl := Option.some.inj h7'
      obtain ⟨_, h8⟩ := h8
      obtain ⟨rfl, rfl, rfl⟩ := h8 rfl
      refine .arr _ _ 0 _ _ _ _ (.cur ao2 (l.map zdt).length cap2 0) hn hm hmax ?_ (An.le_refl _)
      show μ' (5 + N.rs.length + i) = _
      rw [hrs, mi i, q1]; rfl
  | i + 5, hr =>
   rw [show i + 5 = 5 + i by omega] at hr ⊢
   rw [ntM_r] at hr
   rcases Nat.lt_or_ge i k with hi | hi
   ·rw [List.getElem?_append_left (by rw [resR_len]; omega), resR_get] at hr
    obtain ⟨r0, hr0, rfl⟩ := Option.map_eq_some_iff.1 hr
    rw [dr i hi]
    obtain ⟨b, hb1, hb2⟩ := hE.one i (.pointer (some ⟨v i, 0, none⟩)) (zbq (rtM r0 0)) (zb0 hi) (by rw [List.getElem?_map, hr0]; rfl)
    simp only [Value.pointer.injEq, Option.some.injEq, Addr.mk.injEq, and_true] at hb1
    subst hb1
    exact ⟨v i, mr i hi, hb2⟩
   ·rw [List.getElem?_append_right (by rw [resR_len]; omega), resR_len, hrs, resI_get] at hr
    obtain ⟨l, hl, rfl⟩ := Option.map_eq_some_iff.1 hr
    obtain ⟨q, rfl⟩ : ∃ q, i = k + q := ⟨i - k, by omega⟩
    rw [show k + q - k = q by omega] at hl
    rw [show 5 + (k + q) = 5 + k + q by omega, di q]
    obtain ⟨ao, cap, xs, h1, h2⟩ := h.ok (6 + q) (.arr true 67 3 g (l.map zdt)) (by rw [ntE_i, resI_get, hl]; rfl)
    exact ⟨ao, cap, xs, by rw [mi q, h1]; rfl, h2⟩
 ·have key : ∀ id b, D id b -> (id < 5 /\ Ds id b) \/ (5 <= id /\ id < 5 + k /\ E (id - 5) b) \/ (5 + k <= id /\ Ds (id + 1 - k) b) := fun id b hd => by
   simp only [D] at hd
   split at hd
   ·exact .inl ⟨by assumption, hd⟩
   ·split at hd
    ·exact .inr (.inl ⟨by omega, by assumption, hd⟩)
    ·exact .inr (.inr ⟨by omega, hd⟩)
  rcases key i b hi with ⟨a1, a2⟩ | ⟨a1, a2, a3⟩ | ⟨a1, a2⟩ <;> rcases key j b hj with ⟨b1, b2⟩ | ⟨b1, b2, b3⟩ | ⟨b1, b2⟩
  ·exact h.apart i j b a2 b2
  ·have := h.apart _ _ b a2 (hE5 _ _ b3); omega
  ·have := h.apart _ _ b a2 b2; omega
  ·have := h.apart _ _ b (hE5 _ _ a3) b2; omega
  ·have := hE.apart _ _ b a3 b3; omega
  ·have := h.apart _ _ b (hE5 _ _ a3) b2; omega
  ·have := h.apart _ _ b a2 b2; omega
  ·have := h.apart _ _ b a2 (hE5 _ _ b3); omega
  ·have := h.apart _ _ b a2 b2; omega
 ·rw [zjm, hrs, hK] at hid
  obtain ⟨q, rfl⟩ : ∃ q, id = 5 + k + q := ⟨id - 5 - k, by omega⟩
  have := h.out (6 + q) (by rw [zfI, hK]; omega)
  exact ⟨by rw [mi q, this.1]; rfl, fun b hb => by rw [di q] at hb; exact this.2 b hb⟩
 ·rintro ⟨i, hi⟩
  simp only [D] at hi
  split at hi
  ·exact ⟨i, hi⟩
  ·split at hi
   ·exact ⟨5, hE5 _ _ hi⟩
   ·exact ⟨_, hi⟩
 ·rintro ⟨i, hi⟩
  have hlt := h.lt hi
  rw [zfI, hK] at hlt
  rcases Nat.lt_or_ge i 5 with g1 | g1
  ·exact ⟨i, by rw [d5 i g1]; exact hi⟩
  ·rcases Nat.eq_or_lt_of_le g1 with g2 | g2
   ·subst g2
    obtain ⟨j, hj⟩ := (hE.all b).1 hi
    exact ⟨5 + j, by rw [dr j (hEk j b hj)]; exact hj⟩
   ·exact ⟨5 + k + (i - 6), by rw [di, show 6 + (i - 6) = i by omega]; exact hi⟩
theorem zaY {k : Nat} {fr fr' : List (Nat × AV)} {mem mem' : List Res} {Q : Prop} (q : Q) (hnd : decide ((List.range mem'.length).Nodup) = true := by exact rfl) (hp : zdd mem 0 k (List.range mem'.length) mem' = true := by exact rfl) (r : Q -> RM mem mem' (List.range mem'.length) (List.range mem'.length) mem' /\ RF mem mem' (List.range mem'.length) fr fr' := by (intro q; exact gr q)) : AS.le k ⟨fr, mem⟩ ⟨fr', mem'⟩ := zgn _ hnd hp (r q).1 (r q).2
theorem zgr {k : Nat} {mem : List Res} {v r : AV} {m' : List Res} {Q : Prop} (q : Q) (hnd : decide ((List.range m'.length).Nodup) = true := by exact rfl) (hp : zdd mem 0 k (List.range m'.length) m' = true := by exact rfl) (h : Q -> RM mem m' (List.range m'.length) (List.range m'.length) m' /\ RK mem m' (List.range m'.length) v r := by (intro q; exact gr q)) : StopRet k mem v r m' := ⟨_, hnd, hp, (h q).1, (h q).2⟩
theorem zbP {P : Program} {f : FuncId} {l : List AV} {mem : List Res} {K : MK} {args : List AV} {m : List Res} {r : AV} {m' : List Res} (hF : Fn P f args m r m')
  (k : fzP (prs mem (List.range m.length)) fun ps => fzP (ps ++ extG mem.length (m'.length - (List.range m.length).length)) fun g => fzM2 (mrg g mem 0 ps m') fun M => fz (ren g r) fun R => K M R) (h0 : gen0 m = true := by exact rfl) (hup : upw 0 mem.length (List.range m.length) = true := by exact rfl) (hle : Nat.ble m.length m'.length = true := by exact rfl) (hM : RM mem m (List.range m.length) (List.range m.length) m := by exact grt) (hA : RKL1 mem m (List.range m.length) l args := by exact grt) : StopCall P f l mem K := zjr _ hF h0 hup hle hM hA k
theorem zoN {ι : Type} {P : Program} {f : FuncId} {args : List AV} {ret : AV} {p p' : OPred} {m m' : ι -> List Res} (i0 : ι)
  (hin : ∀ (σ : zaM) (w : World) (b : Nat) (D : Nat -> Prop), p.rep σ w b D -> ∃ v μ Ds, MemOk σ μ w (m v) Ds /\ μ 0 = some (.fix (.pointer (some ⟨b, 0, none⟩))) /\ ∀ k, D k ↔ ∃ i, Ds i k)
  (hout : ∀ (v : ι) (σ : zaM) (w : World) (b : Nat) (μ : zaJ) (Ds : Nat -> Nat -> Prop), MemOk σ μ w (m' v) Ds -> μ 0 = some (.fix (.pointer (some ⟨b, 0, none⟩))) -> p'.rep σ w b (fun k => ∃ i, Ds i k))
  (hF : ∀ v, Fn P f (.box 0 0 :: args) (m v) ret (m' v)) (ha : args.all AV.free = true) (hr : ret.free = true) : Fn P f (.box 0 0 :: args) [.obj p] ret [.obj p'] := by
 refine ⟨(hF i0).1, fun w σ μ Ds vs hag hmem hlen hargs => ?_⟩
 obtain ⟨b, hb, hrep⟩ := hmem.ok 0 _ rfl
 obtain ⟨v, μ1, Ds1, hm1, h10, hD1⟩ := hin σ w b _ hrep
 refine ((hF v).2 w σ μ1 Ds1 vs hag hm1 hlen (fun i av y h1 h2 => ?_)).mono ?_
 ·cases i with
  | zero =>
   simp only [List.getElem?_cons_zero, Option.some.injEq] at h1
   subst h1
   have := hargs 0 (.box 0 0) y rfl h2
   cases this with
   | box _ _ _ b' h =>
    rw [hb] at h
    simp only [Option.some.injEq, An.fix.injEq, Value.pointer.injEq, Addr.mk.injEq] at h
    obtain ⟨rfl, _⟩ := h
    exact .box _ 0 0 b h10
  | succ i =>
   simp only [List.getElem?_cons_succ] at h1
   exact (hargs (i + 1) av y (by simpa using h1) h2).free (List.all_eq_true.1 ha av (List.mem_of_getElem? h1))
 ·rintro e w' ⟨x, σ', μE, DE, rfl, hpost⟩
  have hfp : ∀ k, (∃ id, Ds1 id k) -> ∃ id, Ds id k := fun k h => ⟨0, (hD1 k).2 h⟩
  have hE0 : μE 0 = some (.fix (.pointer (some ⟨b, 0, none⟩))) := by
   obtain ⟨a, h1, h2⟩ := hpost.gle 0 _ h10
   cases a with
   | fix x => simp only [An.le] at h2; subst h2; exact h1
   | cur => exact h2.elim
  refine ⟨x, σ', fun i => if i = 0 then μE 0 else none, fun i k => i = 0 /\ ∃ j, DE j k, rfl, ⟨hpost.rep.free hr, ⟨fun id q hq => ?_, fun i j k hi hj => hi.1.trans hj.1.symm, fun id hid => ?_⟩, fun i a hi => ?_, hpost.agree, ⟨hpost.keeps.os, hpost.keeps.tape, hpost.keeps.output, hpost.keeps.size, fun k hk hno => hpost.keeps.block k hk (fun h => hno (hfp k h))⟩, fun c o hc hno => hpost.old c o hc (fun h => hno (hfp c h)), hpost.mono, fun id k hk => ?_⟩⟩
  ·cases id with
   | zero =>
    simp only [List.getElem?_cons_zero, Option.some.injEq] at hq
    subst hq
    refine ⟨b, by simp only [if_true]; exact hE0, ?_⟩
    have := hout v σ' w' b μE DE hpost.mem hE0
    have e : (fun k => 0 = 0 /\ ∃ j, DE j k) = fun k => ∃ j, DE j k := by funext k; simp
    show p'.rep σ' w' b (fun k => 0 = 0 /\ ∃ j, DE j k)
    rw [e]; exact this
   | succ i => simp at hq
  ·exact Y59
  ·by_cases h0 : i = 0
   ·subst h0
    rw [hb] at hi
    obtain rfl := Option.some.inj hi
    exact ⟨_, by simp only [if_true]; exact hE0, An.le_refl _⟩
   ·rw [(hmem.out i (by simp; omega)).1] at hi; cases hi
  ·obtain ⟨j, hj⟩ := hk.2
   exact (hpost.own j k hj).imp (fun h => h) (hfp k)
theorem zn1 {N : Nt} (hk : 1 <= N.ib.length) (hrs : N.rs.length = N.ib.length) (σ : zaM) (w : World) (b : Nat) (D : Nat -> Prop) (h : (zbq (ntM N 0)).rep σ w b D) : ∃ v μ Ds, MemOk σ μ w (ntE N v 0) Ds /\ μ 0 = some (.fix (.pointer (some ⟨b, 0, none⟩))) /\ ∀ k, D k ↔ ∃ i, Ds i k := by
 obtain ⟨μ1, Ds1, h1, h2, h3⟩ := h
 obtain ⟨v, D2, q1, q2⟩ := memE_of hk hrs h1
 exact ⟨v, _, D2, q1, (if_pos (Nat.zero_le _)).trans h2, fun k => (h3 k).trans (q2 k).symm⟩
theorem zmV {N : Nt} {v : Nat -> Nat} {g : Nat} (hrs : N.rs.length = N.ib.length) (σ : zaM) (w : World) (b : Nat) (μ : zaJ) (Ds : Nat -> Nat -> Prop) (h : MemOk σ μ w (ntE N v g) Ds) (h0 : μ 0 = some (.fix (.pointer (some ⟨b, 0, none⟩)))) : (zbq (ntM N 0)).rep σ w b (fun k => ∃ i, Ds i k) := by
 obtain ⟨μ', D, q1, q2, q3⟩ := memM_of hrs h
 exact ⟨μ', D, q1, q2.trans h0, fun k => (q3 k).symm⟩
theorem fn_E {f : FuncId} {args : List AV} {ret : AV} {N N' : Nt} {g k n d e n' d' e' : Nat} (hk : 1 <= k) (hN : N.ok k n d e) (hN' : N'.ok k n' d' e') (hF : ∀ v, Fn Tryz.prog f (.box 0 0 :: args) (ntE N v 0) ret (ntE N' v g)) (ha : args.all AV.free = true) (hr : ret.free = true) : Fn Tryz.prog f (.box 0 0 :: args) [ntO N] ret [ntO N'] :=
 zoN (fun _ => 0) (zn1 (by rw [hN.ib]; exact hk) (by rw [hN.ib, hN.rs])) (fun v => zmV (by rw [hN'.ib, hN'.rs])) hF ha hr
def ntX (N : Nt) (v : Nat -> Nat) : Res := .obj (zbq (ntE N v 0))
theorem fn_X {f : FuncId} {args : List AV} {ret : AV} {N N' : Nt} {v : Nat -> Nat} (hF : Fn Tryz.prog f (.box 0 0 :: args) (ntE N v 0) ret (ntE N' v 0)) (ha : args.all AV.free = true) (hr : ret.free = true) : Fn Tryz.prog f (.box 0 0 :: args) [ntX N v] ret [ntX N' v] :=
 zoN (ι := Unit) () (fun σ w b D ⟨μ, Ds, h1, h2, h3⟩ => ⟨(), μ, Ds, h1, h2, h3⟩) (fun _ σ w b μ Ds h h0 => ⟨μ, Ds, h, h0, fun k => Iff.rfl⟩) (fun _ => hF) ha hr
theorem zl6 {σ : zaM} {μ : zaJ} {w : World} {mem : List Res} {Ds : Nat -> Nat -> Prop} (h : MemOk σ μ w mem Ds) {q : Nat} {r : Res} (hr : q < mem.length -> ROk σ μ w q (Ds q) r) : MemOk σ μ w (mem.set q r) Ds := by
 refine ⟨fun id s hs => ?_, h.apart, fun id hid => h.out id (by rwa [List.length_set] at hid)⟩
 rw [List.getElem?_set] at hs
 by_cases e : q = id
 ·subst e
  rw [if_pos rfl] at hs
  split at hs
  ·rename_i hlt
   obtain rfl := Option.some.inj hs
   exact hr hlt
  ·cases hs
 ·rw [if_neg e] at hs
  exact h.ok id s hs
theorem to_ntX {k : Nat} {fr : List (Nat × AV)} {mem : List Res} {y : AS -> Prop} (q : Nat) {N : Nt} (hq : mem[q]? = some (ntO N)) (hk : 1 <= N.ib.length) (hrs : N.rs.length = N.ib.length) (hy : ∀ v, y ⟨fr, mem.set q (ntX N v)⟩) : AS.to k ⟨fr, mem⟩ y := by
 intro n fp w0 σ μ Ds a w hk' hr
 obtain ⟨b, hb, hrep⟩ := hr.mem.ok q _ hq
 obtain ⟨v, μ1, Ds1, h1, h2, h3⟩ := zn1 hk hrs σ w b _ hrep
 exact ⟨_, σ, μ, Ds, hy v, hr.defers, hr.size, hr.frame, hr.agree, zl6 hr.mem (fun _ => ⟨b, hb, μ1, Ds1, h1, h2, h3⟩), hr.own, hr.keeps, hr.old, hr.mono, hr.gle, hr.kout, by rw [List.length_set]; exact hr.klen⟩
theorem cutX {k id : Nat} {x : (AS -> Prop) -> AS -> Prop} {y : AS -> Prop} {A : AS} (B : (Nat -> Nat) -> AS) (hy : ∀ v, y (B v)) (hx : (∀ v, y (B v)) -> ∀ Z : AS -> Prop, (∀ A', AS.to k A' y -> Z A') -> x Z A) : StopSeq k id x y A := .mkE (hx hy _ (fun _ h => h))
theorem fn_atP {P : Program} {f : FuncId} {args : List AV} {r : AV} {p p' : OPred} {m : List Res} {j : Nat} (hF : Fn P f args [.obj p] r [.obj p']) (hj : m[j]? = some (.obj p)) (ha : args.all AV.free = true) (hr : r.free = true) :
  Fn P f args [.obj (zbq m)] r [.obj (zbq (m.set j (.obj p')))] := by
 refine ⟨hF.1, fun w σ μ Ds vs hag hmem hlen hargs => ?_⟩
 obtain ⟨b, hb, μ1, Ds1, hm1, h10, hD1⟩ := hmem.ok 0 _ rfl
 obtain ⟨c, hc, hpc⟩ := hm1.ok j _ hj
 have hjlt : j < m.length := (List.getElem?_eq_some_iff.1 hj).1
 have hm2 : MemOk σ (fun i => if i = 0 then some (.fix (.pointer (some ⟨c, 0, none⟩))) else none) w [.obj p] (fun i k => i = 0 /\ Ds1 j k) := by
  refine ⟨fun id q hq => ?_, fun i i' k h1 h2 => h1.1.trans h2.1.symm, fun id hid => ?_⟩
  ·cases id with
   | zero =>
    simp only [List.getElem?_cons_zero, Option.some.injEq] at hq
    subst hq
    refine ⟨c, rfl, ?_⟩
    have e : (fun k => 0 = 0 /\ Ds1 j k) = Ds1 j := by funext k; simp
    show p.rep σ w c (fun k => 0 = 0 /\ Ds1 j k)
    rw [e]; exact hpc
   | succ i => simp at hq
  ·exact Y59
 refine (hF.2 w σ _ _ vs hag hm2 hlen (fun i av y h1 h2 => (hargs i av y h1 h2).free (List.all_eq_true.1 ha av (List.mem_of_getElem? h1)))).mono ?_
 rintro e w' ⟨x, σ', μE, DE, rfl, hpost⟩
 have hfp : ∀ k, (∃ id, id = 0 /\ Ds1 j k) -> Ds1 j k := fun k ⟨_, _, h⟩ => h
 have hDj : ∀ k, Ds1 j k -> ∃ id, Ds id k := fun k h => ⟨0, (hD1 k).2 ⟨j, h⟩⟩
 obtain ⟨c1, g1, g2⟩ := hpost.mem.ok 0 _ rfl
 obtain ⟨a', q1, q2⟩ := hpost.gle 0 (.fix (.pointer (some ⟨c, 0, none⟩))) rfl
 rw [g1] at q1
 obtain rfl := Option.some.inj q1
 obtain rfl : c1 = c := by
  simp only [An.le, Value.pointer.injEq, Option.some.injEq] at q2
  have := congrArg Addr.block q2
  exact this
 have hlive : ∀ q k, Ds1 q k -> k < w.heap.size := fun q k h => hm1.live h
 let D2 : Nat -> Nat -> Prop := fun q => if q = j then DE 0 else Ds1 q
 have hown : ∀ k, DE 0 k -> w.heap.size <= k \/ Ds1 j k := fun k h => (hpost.own 0 k h).imp (fun g => g) (hfp k)
 have hnew : MemOk σ' μ1 w' (m.set j (.obj p')) D2 := by
  refine ⟨fun id q hq => ?_, fun i i' k h1 h2 => ?_, fun id hid => ?_⟩
  ·rw [List.getElem?_set] at hq
   by_cases e : j = id
   ·subst e
    rw [if_pos rfl, if_pos hjlt] at hq
    obtain rfl := Option.some.inj hq
    simp only [D2, if_true]
    exact ⟨c1, hc, g2⟩
   ·rw [if_neg e] at hq
    simp only [D2, if_neg (fun g : id = j => e g.symm)]
    have hne : ∀ k, Ds1 id k -> ¬ ∃ id', id' = 0 /\ Ds1 j k := fun k h g => e (hm1.apart j id k (hfp k g) h)
    exact (hm1.ok id q hq).ext rfl (Gle.refl _) (fun k hk => ⟨hpost.keeps.block k (hlive id k hk) (hne k hk), fun o => hpost.old k o (hlive id k hk) (hne k hk)⟩) hpost.mono
  ·simp only [D2] at h1 h2
   split at h1 <;> split at h2
   ·rename_i e1 e2; rw [e1, e2]
   ·rename_i e1 e2
    rcases hown k h1 with g | g
    ·have := hlive _ _ h2; omega
    ·exact e1.trans (hm1.apart j i' k g h2)
   ·rename_i e1 e2
    rcases hown k h2 with g | g
    ·have := hlive _ _ h1; omega
    ·exact (hm1.apart i j k h1 g).trans e2.symm
   ·exact hm1.apart i i' k h1 h2
  ·rw [List.length_set] at hid
   refine ⟨(hm1.out id hid).1, fun k hk => ?_⟩
   simp only [D2] at hk
   rw [if_neg (by omega)] at hk
   exact (hm1.out id hid).2 k hk
 refine ⟨x, σ', μ, fun i k => i = 0 /\ ∃ q, D2 q k, rfl, ⟨hpost.rep.free hr, ⟨fun id q hq => ?_, fun i i' k h1 h2 => h1.1.trans h2.1.symm, fun id hid => ?_⟩, Gle.refl _, hpost.agree, ⟨hpost.keeps.os, hpost.keeps.tape, hpost.keeps.output, hpost.keeps.size, fun k hk hno => hpost.keeps.block k hk (fun h => hno (hDj k (hfp k h)))⟩, fun c o hc hno => hpost.old c o hc (fun h => hno (hDj c (hfp c h))), hpost.mono, fun id k hk => ?_⟩⟩
 ·cases id with
  | zero =>
   simp only [List.getElem?_cons_zero, Option.some.injEq] at hq
   subst hq
   exact ⟨b, hb, μ1, D2, hnew, h10, fun k => ⟨fun h => h.2, fun h => ⟨rfl, h⟩⟩⟩
  | succ i => simp at hq
 ·refine ⟨(hmem.out id (by simpa using hid)).1, fun k hk => ?_⟩
  simp only [List.length_singleton] at hid
  omega
 ·obtain ⟨q, hq⟩ := hk.2
  simp only [D2] at hq
  split at hq
  ·exact (hown k hq).imp (fun h => h) (hDj k)
  ·exact .inr ⟨0, (hD1 k).2 ⟨q, hq⟩⟩
theorem zjD {f : FuncId} {args : List AV} {ret : AV} {N : Nt} {r : Rt} {i : Nat} (hF : Fn Tryz.prog f (.box 0 0 :: args) [rtO r] ret [rtO r]) (hr : N.rs[i]? = some r) (hrs : N.rs.length = N.ib.length) (v : Nat -> Nat) (ha : args.all AV.free = true) (hf : ret.free = true) : Fn Tryz.prog f (.v (.pointer (some ⟨v i, 0, none⟩)) :: args) [ntX N v] ret [ntX N v] := by
 have hi : i < N.ib.length := by have := (List.getElem?_eq_some_iff.1 hr).1; omega
 have h := zed hF hr (zb0 (v := v) hi) ha hf
 rw [zh7 hr] at h
 have h2 := fn_atP (m := ntE N v 0) (j := 5) h rfl (by rw [List.all_cons, ha]; rfl) hf
 have e : (ntE N v 0).set 5 (famR (xsV v N.ib.length) N.rs) = ntE N v 0 := rfl
 rw [show (.obj (famP (xsV v N.ib.length) (N.rs.map fun r => zbq (rtM r 0))) : Res) = famR (xsV v N.ib.length) N.rs from rfl, e] at h2
 exact h2
section
variable {k n d e : Nat} {N : Nt}
theorem zhd (hk : 1 <= k /\ k <= 6) (hN : N.ok k n d e) (v : Nat -> Nat) (i : Int) (hi : 1 <= i /\ i <= k) : Fn Tryz.prog 12 [.box 0 0, .v (.int .i64 i)] (ntE N v 0) (.tup [.v (.pointer (some ⟨v (i - 1).toNat, 0, none⟩)), .err 0]) (ntE N v 0) := by
 obtain ⟨rs, cs, mt, ib⟩ := N
 have l2 := hN.ib
 dsimp only at l2
 have hrow := zaj (v := v) (k := k) (j := (i - 1).toNat) (by omega)
 clear hN
 rcases (by omega : k = 1 \/ k = 2 \/ k = 3 \/ k = 4 \/ k = 5 \/ k = 6) with rfl | rfl | rfl | rfl | rfl | rfl
 all_goals
  first | obtain ⟨b0, rfl⟩ := len1 l2 | obtain ⟨b0, b1, rfl⟩ := len2 l2 | obtain ⟨b0, b1, b2, rfl⟩ := len3 l2 | obtain ⟨b0, b1, b2, b3, rfl⟩ := len4 l2 | obtain ⟨b0, b1, b2, b3, b4, rfl⟩ := len5 l2 | obtain ⟨b0, b1, b2, b3, b4, b5, rfl⟩ := len6 l2
  simp only [ntE, rowsI, resI, List.length_cons, List.length_nil, Nat.zero_add, Nat.reduceAdd]
  refine foL zaA [] [] Tryz.func12 Tryz.ntmps12 Tryz.results12 ?_
  (all_goals refine fx ?_;repeat' first|exact .intro|refine Tw.mk ?_ ?_|(intro h;first|replace h:=h.o|cases h))
  all_goals exact Y11
end
def nnewPl : List (Nat × Pl) := [(12, .op 0 (.op 1 (.op 2 (.op 3 (.op 4 (.op 5 (.op 6 (.op 7 (.op 8 (.op 9 (.op 10 (.op 11 (.done))))))))))))), (13, .op 0 (.op 1 (.op 2 (.op 3 (.op 4 (.op 5 (.op 6 (.op 7 (.op 8 (.op 9 (.op 10 (.op 11 (.op 12 (.op 13 (.op 14 (.done)))))))))))))))), (14, .op 0 (.op 1 (.op 2 (.op 3 (.op 4 (.op 5 (.op 6 (.op 7 (.op 8 (.op 9 (.op 10 (.op 11 (.op 12 (.op 13 (.op 14 (.done))))))))))))))))]
def mkCb (c : Ca) : Cb := ⟨c.a, c.pa, c.b, c.pb, c.m, false, [], []⟩
def putM (T : List (List Int)) (i p m : Int) : List (List Int) := T.modify (i - 1).toNat (fun t => t.set p.toNat m)
def zlm (T : List (List Int)) (c : Ca) : List (List Int) := putM (putM T c.a c.pa c.m) c.b c.pb c.m
def newT (k : Nat) (l : List Ca) : List (List Int) := l.foldl zlm (List.replicate k [1, 1, 1])
def newN (k : Nat) (l : List Ca) : Nt := ⟨(List.range k).map fun (i : Nat) => newR ((i : Int) + 1) ((newT k l).getD i []), l.map mkCb, newT k l, List.replicate k []⟩
structure Tok (k : Nat) (T : List (List Int)) : Prop where
 len : T.length = k
 three : ∀ t ∈ T, t.length = 3 /\ ∀ x ∈ t, (1 : Int) <= x /\ x <= 20
theorem ziW {k : Nat} {T : List (List Int)} (h : Tok k T) (i p : Int) {m : Int} (hm : 1 <= m /\ m <= 20) : Tok k (putM T i p m) := by
 refine ⟨by rw [<- h.len]; exact List.length_modify .., fun t ht => ?_⟩
 rcases zej (show t ∈ T.modify _ _ from ht) with g | ⟨y, hy, rfl⟩
 ·exact h.three t g
 ·obtain ⟨h1, h2⟩ := h.three y hy
  refine ⟨by rw [List.length_set]; exact h1, fun x hx => ?_⟩
  rcases List.mem_or_eq_of_mem_set hx with g | g
  ·exact h2 x g
  ·exact g ▸ hm
theorem zoM (k : Nat) : Tok k (List.replicate k [1, 1, 1]) := ⟨List.length_replicate .., fun t ht => by
 rw [List.eq_of_mem_replicate ht]
 exact ⟨rfl, fun x hx => by simp only [List.mem_cons, List.not_mem_nil, or_false] at hx; omega⟩⟩
theorem zgJ {k : Nat} {T : List (List Int)} (h : Tok k T) {t : List Int} (ht : t ∈ T) : ∃ a b c, t = [a, b, c] /\ (1 <= a /\ a <= 20) /\ (1 <= b /\ b <= 20) /\ (1 <= c /\ c <= 20) := by
 obtain ⟨h1, h2⟩ := h.three t ht
 obtain ⟨a, b, c, rfl⟩ := len3 h1
 exact ⟨a, b, c, rfl, h2 a (by simp), h2 b (by simp), h2 c (by simp)⟩
theorem i_row {t : List Int} {p : Nat} (h : t.length = 3) (hp : p < 3) : (t.map iRow)[p]? = some (iRow (t.getD p 0)) := by
 rw [List.getElem?_map, List.getD_eq_getElem?_getD, List.getElem?_eq_getElem (by omega)]; rfl
theorem i_set {t : List Int} {p : Nat} {m : Int} : (t.map iRow).set p (iRow m) = (t.set p m).map iRow := by rw [List.map_set]
end Go.Proofs.YtimfnpjcedjmiadGreat
namespace Go.Proofs.YtimfnpjcedjmiadGreat
section
variable {k d e : Nat} {N : Nt}
theorem zeC {α : Type} {f : Nt -> α -> Nt} (a b : Nat) (hs : ∀ (N : Nt) (x : α) (d e : Nat), N.inv k d e -> (f N x).inv k (d + a) (e + b)) : ∀ (l : List α) {N : Nt} {d e : Nat}, N.inv k d e -> (l.foldl f N).inv k (d + a * l.length) (e + b * l.length)
 | [], N, d, e, h => h.up (Nat.le_add_right ..) (Nat.le_add_right ..)
 | x :: l, N, d, e, h => by
  have h1 := zeC a b hs l (hs N x d e h)
  refine h1.up ?_ ?_
  ·rw [List.length_cons, Nat.mul_succ]; omega
  ·rw [List.length_cons, Nat.mul_succ]; omega
theorem zlM (h : N.inv k d e) (j : Nat) : (zhz N j).inv k (d + 36000) (e + 18720000) := by
 have h1 := zeC (k := k) (f := fun q (i : Nat) => ndel (ndel q i 0 2000) i 1 2000) 4000 2080000 (fun N x d e h => (zdL (zdL h x 0 2000) x 1 2000).up (by omega) (by omega)) (List.range N.cs.length) h
 have hc := h.ok.cs
 rw [List.length_range] at h1
 refine h1.up ?_ ?_
 ·have := Nat.mul_le_mul_left 4000 hc; omega
 ·have := Nat.mul_le_mul_left 2080000 hc; omega
theorem zgQ (h : N.inv k d e) (hk : k <= 6) : (ze0 N).inv k (d + 432000) (e + 230000000) := by
 have h1 := zeC (k := k) (f := fun q (i : Nat) => zcb q ((i : Int) + 1)) 0 6630 (fun N x d e h => zd6 h _) (List.range N.rs.length) h
 have h2 := zeC (k := k) (f := zhz) 36000 18720000 (fun N x d e h => zlM h x) (List.range 12) h1
 rw [List.length_range, List.length_range] at h2
 have hr := h.ok.rs
 refine h2.up ?_ ?_
 ·omega
 ·rw [hr]; have := Nat.mul_le_mul_left 6630 hk; omega
theorem tok_newT {k : Nat} {l : List Ca} (hl : ∀ c ∈ l, c.ok k) : Tok k (newT k l) := by
 have : ∀ (l : List Ca) (T : List (List Int)), (∀ c ∈ l, c.ok k) -> Tok k T -> Tok k (l.foldl zlm T) := by
  intro l
  induction l with
  | nil => exact fun T _ h => h
  | cons c l ih =>
   intro T hl h
   have hc := (hl c (List.mem_cons_self ..)).m
   exact ih _ (fun x hx => hl x (List.mem_cons_of_mem _ hx)) (ziW (ziW h c.a c.pa hc) c.b c.pb hc)
 exact this l _ hl (zoM k)
theorem zkK {k : Nat} (hk : k <= 6) {l : List Ca} (hl : ∀ c ∈ l, c.ok k) (hlen : l.length <= 9) : (newN k l).inv k 0 0 := by
 have hT := tok_newT hl
 have hrow : ∀ i, i < k -> ∃ a b c, (newT k l).getD i [] = [a, b, c] /\ (1 <= a /\ a <= 20) /\ (1 <= b /\ b <= 20) /\ (1 <= c /\ c <= 20) := fun i hi => by
  rw [List.getD_eq_getElem?_getD, List.getElem?_eq_getElem (by rw [hT.len]; exact hi)]
  exact zgJ hT (List.getElem_mem _)
 refine ⟨⟨by simp [newN], by simp [newN], hT.len, fun t ht => zgJ hT ht, by simpa [newN] using hlen, fun r hr => ?_, fun c hc => ?_, fun b hb => ?_⟩, fun i p r q hr hq _ => ?_⟩
 ·obtain ⟨i, hi, rfl⟩ := List.mem_map.1 hr
  obtain ⟨a, b, c, h1, h2, h3, h4⟩ := hrow i (List.mem_range.1 hi)
  rw [h1]
  have := List.mem_range.1 hi
  exact new_f3 (by omega) h2 h3 h4
 ·obtain ⟨x, hx, rfl⟩ := List.mem_map.1 hc
  have h := hl x hx
  exact ⟨h.a, h.pa, h.b, h.pb, Nat.zero_le _, Nat.zero_le _⟩
 ·rw [List.eq_of_mem_replicate hb]; exact Nat.le_refl _
 ·have hm : r ∈ (newN k l).rs := List.mem_of_getElem? hr
  obtain ⟨j, hj, rfl⟩ := List.mem_map.1 hm
  obtain ⟨j', m, rfl, _⟩ := zee _ 0 q (List.mem_of_getElem? hq)
  exact zlK
end
noncomputable def woN : Nat -> Nt
 | 0 => zam (newN 2 [⟨1, 0, 2, 0, 3⟩]) 0 true
 | n + 1 => ze0 (woN n)
theorem wo_check : zbz 2 [⟨1, 0, 2, 0, 3⟩] = 0 := by decide +kernel
theorem wo_plug : zcm (newN 2 [⟨1, 0, 2, 0, 3⟩]) 0 true = 0 := by decide +kernel
theorem wo_sts : (stsB ((woN 6).rt 2).b).map (fun x => (x.1, x.2.2)) = [(1, [(2, 3)]), (2, [(1, 3)])] := by decide +kernel
theorem wo_id : ((woN 6).rt 2).id = 2 := by decide +kernel
theorem znj : (newN 2 [⟨1, 0, 2, 0, 3⟩]).inv 2 0 0 := zkK (by decide) (fun c hc => by
 rw [List.mem_singleton.1 hc]
 exact ⟨by decide, by decide, by decide, by decide, by decide⟩) (by decide)
theorem zmt : ∀ n, (woN n).inv 2 (432000 * n) (780 + 230000000 * n)
 | 0 => (zb9 znj 0 true).up (by omega) (by omega)
 | n + 1 => (zgQ (zmt n) (by decide)).up (by omega) (by omega)
theorem zmn (s1 s2 a b : Int) (ha : nod a) (hb : nod b) : met [(1, s1, [(2, 3)]), (2, s2, [(1, 3)])] a b = if (a = 1 /\ b = 2) \/ (a = 2 /\ b = 1) then 3 else 0 := by
 unfold nod at ha hb
 rcases (by omega : a = 1 \/ a = 2 \/ a = 3 \/ a = 4 \/ a = 5 \/ a = 6) with rfl | rfl | rfl | rfl | rfl | rfl <;>
 rcases (by omega : b = 1 \/ b = 2 \/ b = 3 \/ b = 4 \/ b = 5 \/ b = 6) with rfl | rfl | rfl | rfl | rfl | rfl <;> rfl
theorem znB {s1 s2 n d f : Int} (h : Wk (met [(1, s1, [(2, 3)]), (2, s2, [(1, 3)])]) 2 n d f) : (n = 1 \/ n = 2) /\ f = 1 /\ 3 <= d := by
 induction h with
 | one hn hm =>
  rw [zmn _ _ _ _ (by unfold nod; omega) hn] at hm ⊢
  split at hm
  ·rename_i g; rw [if_pos g]; omega
  ·omega
 | step h hn hm ih =>
  rw [zmn _ _ _ _ h.nod.1 hn] at hm ⊢
  split at hm
  ·rename_i g; rw [if_pos g]; omega
  ·omega
theorem wo_hops {l : List St3} (h : l.map (fun x => (x.1, x.2.2)) = [(1, [(2, 3)]), (2, [(1, 3)])]) : zcs l 2 = [(1, 3, 1)] := by
 obtain ⟨s1, s2, rfl⟩ : ∃ s1 s2, l = [(1, s1, [(2, 3)]), (2, s2, [(1, 3)])] := by
  match l, h with
  | [(a, s1, x), (b, s2, y)], h =>
   simp only [List.map_cons, List.map_nil, List.cons.injEq, Prod.mk.injEq, and_true] at h
   obtain ⟨⟨rfl, rfl⟩, rfl, rfl⟩ := h
   exact ⟨s1, s2, rfl⟩
 have hB : Best (met [(1, s1, [(2, 3)]), (2, s2, [(1, 3)])]) 2 1 3 1 := by
  refine ⟨by decide, ?_, fun d' f' g => ?_⟩
  ·have hm := zmn s1 s2 2 1 (by unfold nod; omega) (by unfold nod; omega)
   rw [if_pos (by decide)] at hm
   have := Wk.one (M := met [(1, s1, [(2, 3)]), (2, s2, [(1, 3)])]) (r := 2) (n := 1) (by unfold nod; omega) (by rw [hm]; decide)
   rw [hm] at this
   exact this
  ·have := znB g
   unfold lx; omega
 have hN : ∀ n : Int, 3 <= n -> hopV (met [(1, s1, [(2, 3)]), (2, s2, [(1, 3)])]) 2 n = none := fun n hn => zjF fun d f g => by have := znB g; omega
 have h1 := ziu hB
 have h2 := zjT (M := met [(1, s1, [(2, 3)]), (2, s2, [(1, 3)])]) (r := 2)
 unfold zcs
 rw [if_pos (by decide)]
 simp only [hopsM, hopsTo, zje]
 simp only [show ((0 : Nat) : Int) + 1 = 1 from rfl, show ((1 : Nat) : Int) + 1 = 2 from rfl, show ((2 : Nat) : Int) + 1 = 3 from rfl, show ((3 : Nat) : Int) + 1 = 4 from rfl, show ((4 : Nat) : Int) + 1 = 5 from rfl, show ((5 : Nat) : Int) + 1 = 6 from rfl, h1, h2, hN 3 (by decide), hN 4 (by decide), hN 5 (by decide), hN 6 (by decide), List.nil_append, List.append_nil]
end Go.Proofs.YtimfnpjcedjmiadGreat
