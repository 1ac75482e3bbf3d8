/- Lemmas. -/
import Derived.Test.YtimfnpjcedjmiadGreatK5
set_option maxRecDepth 100000
set_option maxHeartbeats 64000000
set_option linter.all false
namespace Go.Proofs.YtimfnpjcedjmiadGreat
open Go.RowKit
structure Pe where
 who : Int
 both : Bool
 left : Int
def peRow (p : Pe) : List AV := [.v (.int .i64 p.who), .v (.bool p.both), .v (.int .i64 p.left)]
def peNo : Pe := ⟨0, false, 0⟩
def zdG (me a b : Int) : Pe := if a = me then peNo else ⟨a, b == me, 4⟩
def zax (p : Pe) : Pe := if p.left <= 1 then peNo else ⟨p.who, p.both, p.left - 1⟩
def Pe.ok (p : Pe) : Prop := 0 <= p.who /\ p.who <= 6 /\ 0 <= p.left /\ p.left <= 4
def zim (a b : Int) : Bool := decide (1 <= a) && decide (a <= 6) && decide (0 <= b) && decide (b <= 6)
def heE (a b : Int) : Int := if zim a b then 0 else 1
theorem zha {a b : Int} : heE a b = 0 ↔ 1 <= a /\ a <= 6 /\ 0 <= b /\ b <= 6 := by
 unfold heE zim
 split
 ·rename_i h; simp only [Bool.and_eq_true, decide_eq_true_eq] at h; exact ⟨fun _ => by omega, fun _ => rfl⟩
 ·rename_i h; simp only [Bool.and_eq_true, decide_eq_true_eq] at h; exact ⟨fun h' => (by cases h'), fun h' => absurd (by omega) h⟩
theorem heE_bad {a b : Int} (h : ¬ (1 <= a /\ a <= 6 /\ 0 <= b /\ b <= 6)) : heE a b = 1 := by
 unfold heE
 rw [if_neg]
 unfold zim
 simp only [Bool.and_eq_true, decide_eq_true_eq]
 omega
def heB (a b : Int) : List UInt8 := [u8 a, u8 b]
def zdi (s : ByteArray) : Bool := decide (s.size = 2) && zim (zaG s 0) (zaG s 1)
theorem zd9 {s : ByteArray} : zdi s = true ↔ s.size = 2 /\ 1 <= (zaG s 0 : Int) /\ (zaG s 0 : Int) <= 6 /\ (zaG s 1 : Int) <= 6 := by
 unfold zdi zim
 simp only [Bool.and_eq_true, decide_eq_true_eq, and_assoc]
 constructor
 ·rintro ⟨h1, h2, h3, h4, h5⟩; exact ⟨h1, h2, h3, h5⟩
 ·rintro ⟨h1, h2, h3, h5⟩; exact ⟨h1, h2, h3, by omega, h5⟩
def hpA (s : ByteArray) : Int := if zdi s then zaG s 0 else 0
def hpB (s : ByteArray) : Int := if zdi s then zaG s 1 else 0
def hpE (s : ByteArray) : Int := if zdi s then 0 else 4
theorem zjs (p : Pe) (me a b : Int) : Fn Tryz.prog 84 [.agg (peRow p), .v (.int .i64 me), .agg [.v (.int .i64 a), .v (.int .i64 b)]] [] (.agg (peRow (zdG me a b))) [] := by
 obtain ⟨wh, bo, lf⟩ := p
 unfold peRow
 refine foA zaA [] [] Tryz.func84 Tryz.ntmps84 Tryz.results84 ?_
 (all_goals refine gv ?_;repeat' first|exact .intro|refine Tw.mk ?_ ?_|(intro h;first|replace h:=h.o|cases h))
 all_goals (((try (conv => whnf));refine StopRet.by [] ?_;repeat' first|exact .intro|refine Tw.mk ?_ ?_); all_goals (simp [zdG, peNo, h]; done))
theorem zhq (p : Pe) (hp : p.ok) : Fn Tryz.prog 58 [.agg (peRow p)] [] (.agg (peRow (zax p))) [] := by
 obtain ⟨wh, bo, lf⟩ := p
 unfold Pe.ok at hp
 dsimp only at hp
 unfold peRow
 refine foA zaA [] [] Tryz.func58 Tryz.ntmps58 Tryz.results58 ?_
 (all_goals refine gv ?_;repeat' first|exact .intro|refine Tw.mk ?_ ?_|(intro h;first|replace h:=h.o|cases h))
 all_goals (((try (conv => whnf));refine StopRet.by [] ?_;repeat' first|exact .intro|refine Tw.mk ?_ ?_); all_goals (simp only [zax]; split <;> first | rfl | (exfalso; omega)))
theorem zjl (p : Pe) (me : Int) : Fn Tryz.prog 60 [.agg (peRow p), .v (.int .i64 me)] [] (.agg [.v (.int .i64 me), .v (.int .i64 p.who)]) [] := by
 obtain ⟨wh, bo, lf⟩ := p
 unfold peRow
 refine foA zaA [] [] Tryz.func60 Tryz.ntmps60 Tryz.results60 ?_
 (all_goals refine gv ?_)
 all_goals exact Y9
theorem rtr_ok (n : Int) : Fn Tryz.prog 76 [.v (.int .i64 n)] [] (.v (.bool (decide (1 <= n) && decide (n <= 6)))) [] := by
 refine foA zaA [] [] Tryz.func76 Tryz.ntmps76 Tryz.results76 ?_
 (all_goals refine gv ?_;repeat' first|exact .intro|refine Tw.mk ?_ ?_|(intro h;first|replace h:=h.o|cases h))
 all_goals (((try (conv => whnf));refine StopRet.by [] ?_;repeat' first|exact .intro|refine Tw.mk ?_ ?_); all_goals (simp; omega))
theorem zeO (a b : Int) : Fn Tryz.prog 59 [.agg [.v (.int .i64 a), .v (.int .i64 b)]] [] (.tup [.v (.string (if heE a b = 0 then tx (heB a b) else ByteArray.empty)), .err (heE a b)]) [] := by
 have r1 := rtr_ok a
 have r2 := rtr_ok b
 by_cases hg : 1 <= a /\ a <= 6 /\ 0 <= b /\ b <= 6
 ·rw [zha.2 hg]
  rw [show (decide (1 <= a) && decide (a <= 6)) = true from by simp; omega] at r1
  rw [show (decide (1 <= b) && decide (b <= 6)) = decide (1 <= b) from by simp [hg.2.2.2]] at r2
  refine foA zaA [] [] Tryz.func59 Tryz.ntmps59 Tryz.results59 ?_
  (all_goals refine gv ?_)
  (all_goals (try ((first|refine StopCall.by0 (r1) ?_|refine StopPure.by0 (r1) ?_);(all_goals refine gv ?_;repeat' first|exact .intro|refine Tw.mk ?_ ?_|(intro h;first|replace h:=h.o|cases h)))))
  (all_goals (try ((first|refine StopCall.by0 (r2) ?_|refine StopPure.by0 (r2) ?_);(all_goals refine gv ?_;repeat' first|exact .intro|refine Tw.mk ?_ ?_|(intro h;first|replace h:=h.o|cases h)))))
  all_goals (refine ⟨heB a b, ?_, ?_⟩)
  all_goals (first | (show viewR _ = _; simp [viewR, viewL, AV.view, heB, wrap_u8]; done) | skip)
  all_goals (all_goals refine gv ?_)
  all_goals exact Y9
 ·rw [heE_bad hg]
  refine foA zaA [] [] Tryz.func59 Tryz.ntmps59 Tryz.results59 ?_
  (all_goals refine gv ?_)
  (all_goals (try ((first|refine StopCall.by0 (r1) ?_|refine StopPure.by0 (r1) ?_);(all_goals refine gv ?_;repeat' first|exact .intro|refine Tw.mk ?_ ?_|(intro h;first|replace h:=h.o|cases h)))))
  (all_goals (try ((first|refine StopCall.by0 (r2) ?_|refine StopPure.by0 (r2) ?_);(all_goals refine gv ?_;repeat' first|exact .intro|refine Tw.mk ?_ ?_|(intro h;first|replace h:=h.o|cases h)))))
  clear r1 r2
  all_goals (try simp only [Bool.and_eq_true, Bool.and_eq_false_iff, decide_eq_true_eq, decide_eq_false_iff_not] at *)
  all_goals (try (exfalso; omega))
  all_goals exact Y9
theorem zc5 (s : ByteArray) (hs : s.size <= 1000) : Fn Tryz.prog 83 [.v (.string s)] [] (.tup [.agg [.v (.int .i64 (hpA s)), .v (.int .i64 (hpB s))], .err (hpE s)]) [] := by
 have b0 := zat s 0
 have b1 := zat s 1
 have hb := zeO (zaG s 0) (zaG s 1)
 refine foA zaA [] [] Tryz.func83 Tryz.ntmps83 Tryz.results83 ?_
 (all_goals refine gv ?_;repeat' first|exact .intro|refine Tw.mk ?_ ?_|(intro h;first|replace h:=h.o|cases h))
 ·have hg : ¬ zdi s = true := fun h' => h (by have := zd9.1 h'; omega)
  ((try (conv => whnf));refine StopRet.by [] ?_;repeat' first|exact .intro|refine Tw.mk ?_ ?_); all_goals simp [hpA, hpB, hpE, hg]
 by_cases hg : heE (zaG s 0) (zaG s 1) = 0
 ·rw [hg] at hb
  (refine ⟨_, _, _, _, [], hb, rfl, rfl, rfl, ?_, ?_, ?_⟩)
  ·exact Y3
  ·exact Y97
  (all_goals refine gv ?_;repeat' first|exact .intro|refine Tw.mk ?_ ?_|(intro h;first|replace h:=h.o|cases h))
  have hh : zdi s = true := zd9.2 (by have := zha.1 hg; omega)
  ((try (conv => whnf));refine StopRet.by [] ?_;repeat' first|exact .intro|refine Tw.mk ?_ ?_); all_goals simp [hpA, hpB, hpE, hh, wrap_byte]
 ·have he : heE (zaG s 0) (zaG s 1) = 1 := by unfold heE at hg ⊢; split <;> first | rfl | (rename_i h'; rw [if_pos h'] at hg; exact absurd rfl hg)
  rw [he] at hb
  (refine ⟨_, _, _, _, [], hb, rfl, rfl, rfl, ?_, ?_, ?_⟩)
  ·exact Y3
  ·exact Y97
  (all_goals refine gv ?_;repeat' first|exact .intro|refine Tw.mk ?_ ?_|(intro h;first|replace h:=h.o|cases h))
  have hh : ¬ zdi s = true := fun h' => hg (zha.2 (by have := zd9.1 h'; omega))
  ((try (conv => whnf));refine StopRet.by [] ?_;repeat' first|exact .intro|refine Tw.mk ?_ ?_); all_goals simp [hpA, hpB, hpE, hh]
abbrev St3 := Int × Int × List (Int × Int)
def zaF (s : St3) : List AV := [.v (.int .i64 s.1), .v (.int .i64 s.2.1), .sl 2 (s.2.2.map opRow) none]
def crc1 (x : Nat) : Nat := if x % 2 = 1 then (x / 2) ^^^ 33800 else x / 2
def crcN (x : Nat) : Nat -> Nat
 | 0 => x
 | n + 1 => crc1 (crcN x n)
def crcB (x : Nat) (c : UInt8) : Nat := crcN (x ^^^ c.toNat) 8
def crcL (l : List UInt8) : Nat := l.foldl crcB 65535
def sumL (l : List UInt8) : Nat := crcL l ^^^ 65535
theorem zko {m n : Nat} (hm : m < 65536) (hn : n < 65536) : m ^^^ n < 65536 := Nat.xor_lt_two_pow (n := 16) hm hn
theorem crc1_lt {x : Nat} (h : x < 65536) : crc1 x < 65536 := by
 unfold crc1
 split
 ·exact zko (by omega) (by decide)
 ·omega
theorem zkE {x : Nat} (h : x < 65536) : ∀ n, crcN x n < 65536
 | 0 => h
 | n + 1 => crc1_lt (zkE h n)
theorem crcB_lt {x : Nat} (h : x < 65536) (c : UInt8) : crcB x c < 65536 := zkE (zko h (by have := UInt8.toNat_lt c; omega)) 8
theorem znI : ∀ (l : List UInt8) {x : Nat}, x < 65536 -> l.foldl crcB x < 65536
 | [], x, h => h
 | c :: l, x, h => znI l (crcB_lt h c)
theorem zop (l : List UInt8) : crcL l < 65536 := znI l (by decide)
theorem sumL_lt (l : List UInt8) : sumL l < 65536 := zko (zop l) (by decide)
theorem zoi {l : List UInt8} {k : Nat} (h : k < l.length) : crcL (l.take (k + 1)) = crcB (crcL (l.take k)) l[k] := by
 unfold crcL
 rw [zaQ h, List.foldl_append]; rfl
theorem crc1_odd {x : Nat} (h : x % 2 = 1) : crc1 x = (x / 2) ^^^ 33800 := by unfold crc1; rw [if_pos h]
theorem znk {x : Nat} (h : x % 2 ≠ 1) : crc1 x = x / 2 := by unfold crc1; rw [if_neg h]
theorem znv (s : ByteArray) (hs : s.size <= 1000000) : Fn Tryz.prog 97 [.v (.string s)] [] (.v (.int .i64 (sumL (bs s)))) [] := by
 have hl := zcn s
 refine foA zaA [] [] Tryz.func97 Tryz.ntmps97 Tryz.results97 ?_
 (all_goals refine gv ?_)
 refine lpG (fun k : Nat => ⟨[(0, .v (.string s)), (3, .v (.int .i64 (crcL ((bs s).take k)))), (7, .v (.int .i64 s.size)), (8, .v (.int .i64 k))], []⟩) (fun k => k <= s.size) (fun k => s.size - k) 0 (by omega) (by (refine zaC [] ?_;repeat' first|exact .intro|refine Tw.mk ?_ ?_); all_goals (all_goals (try simp [crcL]))) ?_
 rintro k hk
 have hc := zop ((bs s).take k)
 (all_goals refine gv ?_;repeat' first|exact .intro|refine Tw.mk ?_ ?_|(intro h;first|replace h:=h.o|cases h))
 ·have hk' : k < (bs s).length := by omega
  have hb := UInt8.toNat_lt (bs s)[k]
  refine lpG (fun j : Nat => ⟨[(0, .v (.string s)), (3, .v (.int .i64 (crcN (crcL ((bs s).take k) ^^^ ((bs s)[k]).toNat) j))), (7, .v (.int .i64 s.size)), (8, .v (.int .i64 k)), (17, .v (.int .i64 j))], []⟩) (fun j => j <= 8) (fun j => 8 - j) 0 (by omega) (by
   (refine zaC [] ?_;repeat' first|exact .intro|refine Tw.mk ?_ ?_); all_goals (all_goals (try (rw [show ((k : Int)).toNat = k from Int.toNat_natCast k, wrap_byte, zi8 hk', xor64 (by omega) (by omega)]; rfl)))) ?_
  rintro j hj
  have hx := zkE (zko hc (by omega : (bs s)[k].toNat < 65536)) j
  generalize hgx : crcN (crcL ((bs s).take k) ^^^ ((bs s)[k]).toNat) j = x at *
  (all_goals refine gv ?_;repeat' first|exact .intro|refine Tw.mk ?_ ?_|(intro h;first|replace h:=h.o|cases h))
  ·rw [zpI (by omega)] at h
   refine zaO (j + 1) (by omega) (by omega) (by (refine zaC [] ?_;repeat' first|exact .intro|refine Tw.mk ?_ ?_); all_goals (all_goals (try (rw [fdiv_2 rfl, show (33800 : Int) = ((33800 : Nat) : Int) from rfl, xor64 (by omega) (by decide)]; show _ = ((crc1 (crcN _ j) : Nat) : Int); rw [hgx, crc1_odd (by omega)]))))
  ·rw [zpI (by omega)] at h
   refine zaO (j + 1) (by omega) (by omega) (by (refine zaC [] ?_;repeat' first|exact .intro|refine Tw.mk ?_ ?_); all_goals (all_goals (try (rw [fdiv_2 rfl]; show _ = ((crc1 (crcN _ j) : Nat) : Int); rw [hgx, znk (by omega)]))))
  ·have e : j = 8 := by omega
   subst e
   refine zaO (k + 1) (by omega) (by omega) (by (refine zaC [] ?_;repeat' first|exact .intro|refine Tw.mk ?_ ?_); all_goals (all_goals (try (rw [zoi hk']; unfold crcB; rw [hgx]))))
 ·have e : k = s.size := by omega
  subst e
  rw [<- hl, List.take_length] at hc
  ((try (conv => whnf));refine StopRet.by [] ?_;repeat' first|exact .intro|refine Tw.mk ?_ ?_)
  all_goals (rw [<- hl, List.take_length, show (65535 : Int) = ((65535 : Nat) : Int) from rfl, xor64 (by omega) (by decide)]; rfl)
def escB (c : UInt8) : List UInt8 := if c = 126 \/ c = 125 \/ c.toNat < 32 then [125, c ^^^ 32] else [c]
def zce (l : List UInt8) : List UInt8 := l ++ [u8 (sumL l), u8 ((sumL l / 256 : Nat) : Int)]
def frmO (l : List UInt8) : List UInt8 := [126] ++ l.flatMap escB
def frm (l : List UInt8) : List UInt8 := frmO (zce l) ++ [126]
theorem escB_len (c : UInt8) : (escB c).length <= 2 := by unfold escB; split <;> simp
theorem zit {l : List UInt8} {k : Nat} (h : k < l.length) : frmO (l.take (k + 1)) = frmO (l.take k) ++ escB l[k] := by
 unfold frmO
 rw [zaQ h, List.flatMap_append, List.append_assoc]; simp
theorem zkq (l : List UInt8) : (frmO l).length <= 1 + 2 * l.length := by
 induction l with
 | nil => simp [frmO]
 | cons c l ih =>
  have := escB_len c
  simp only [frmO, List.flatMap_cons, List.length_append, List.length_cons, List.length_nil] at ih ⊢
  omega
theorem zjo {c : UInt8} : ((c.toNat : Int) = 126 ↔ c = 126) /\ ((c.toNat : Int) = 125 ↔ c = 125) := by
 constructor <;> (rw [<- UInt8.toNat_inj]; simp; omega)
theorem make_ok (s : ByteArray) (hs : s.size <= 1000000) : Fn Tryz.prog 77 [.v (.string s)] [] (.tup [.v (.string (if 60 < s.size then ByteArray.empty else tx (frm (bs s)))), .err (if 60 < s.size then 2 else 0)]) [] := by
 have hl := zcn s
 have hsl := sumL_lt (bs s)
 refine foA zaA [] [] Tryz.func77 Tryz.ntmps77 Tryz.results77 ?_
 (all_goals refine gv ?_;repeat' first|exact .intro|refine Tw.mk ?_ ?_|(intro h;first|replace h:=h.o|cases h))
 (all_goals (try ((first|refine StopCall.by0 (znv s hs) ?_|refine StopPure.by0 (znv s hs) ?_);(all_goals refine gv ?_;repeat' first|exact .intro|refine Tw.mk ?_ ?_|(intro h;first|replace h:=h.o|cases h)))))
 ·have : 60 < s.size := by omega
  ((try (conv => whnf));refine StopRet.by [] ?_;repeat' first|exact .intro|refine Tw.mk ?_ ?_)
  all_goals first | (simp [this]; done) | (simp [this]; rfl)
 ·have h60 : ¬ 60 < s.size := by omega
  simp only [h60, if_false]
  conv => whnf
  refine ⟨[u8 (sumL (bs s)), u8 ((sumL (bs s) / 256 : Nat) : Int)], ?_, ?_⟩
  ·simp [bRow, viewR, viewL, AV.view, wrap_u8]
   rw [Int.fdiv_eq_ediv_of_nonneg _ (by decide)]; rfl
  (all_goals refine gv ?_;repeat' first|exact .intro|refine Tw.mk ?_ ?_|(intro h;first|replace h:=h.o|cases h))
  ·refine Vc.mk ?_; show s.size + 2 <= _; omega
  ·refine Vc.mk ?_; rw [ByteArray.size_append]; show s.size + 2 <= _; unfold maxLen; omega
  have hbt : ∀ t : ByteArray, t = s ++ tx [u8 (sumL (bs s)), u8 ((sumL (bs s) / 256 : Nat) : Int)] -> bs t = zce (bs s) /\ t.size = (zce (bs s)).length := by
   rintro t rfl
   rw [zfs, <- zcn, zfs]
   exact ⟨rfl, rfl⟩
  have htl : (zce (bs s)).length = s.size + 2 := by simp [zce, hl]
  refine lpG (fun k : Nat => ⟨[(5, .sl 1 ((frmO ((zce (bs s)).take k)).map bRow) (some (0, 1))), (24, .sl 1 ((zce (bs s)).map bRow) none), (25, .v (.int .i64 (s.size + 2 : Nat))), (26, .v (.int .i64 k))], [.grow 5 1 1]⟩) (fun k => k <= s.size + 2) (fun k => s.size + 2 - k) 0 (by omega) (by
   (refine zaC [0] ?_;repeat' first|exact .intro|refine Tw.mk ?_ ?_); all_goals (all_goals (try first | (simp [frmO, bRow, viewR, viewL, AV.view]; done) | (rw [<- htl, <- (hbt _ rfl).1]; rfl) | (rw [byteRows_eq, List.length_map, <- htl, <- (hbt _ rfl).1]; done)))) ?_
  rintro k hk
  have hb := zkq ((zce (bs s)).take k)
  rw [List.length_take] at hb
  (all_goals refine gv ?_;repeat' first|exact .intro|refine Tw.mk ?_ ?_|(intro h;first|replace h:=h.o|cases h))
  all_goals (try
   (
    have hk' : k < (zce (bs s)).length := by omega
    have hc := UInt8.toNat_lt (zce (bs s))[k]
    have u1 := zjo (c := (zce (bs s))[k])
    first
     | (
      have he : escB (zce (bs s))[k] = [125, (zce (bs s))[k] ^^^ 32] := if_pos (by first | exact .inl (u1.1.1 (by omega)) | exact .inr (.inl (u1.2.1 (by omega))) | exact .inr (.inr (by omega)))
      refine zaO (k + 1) (by omega) (by omega) (by (refine zaC [0] ?_;repeat' first|exact .intro|refine Tw.mk ?_ ?_); all_goals (try (rw [zit hk', he, List.map_append]; simp [bRow, viewR, viewL, AV.view]; first | done | exact xorU _ 32))))
     | (
      have he : escB (zce (bs s))[k] = [(zce (bs s))[k]] := if_neg (by rintro (e | e | e); exact absurd (u1.1.2 e) (by omega); exact absurd (u1.2.2 e) (by omega); omega)
      refine zaO (k + 1) (by omega) (by omega) (by (refine zaC [0] ?_;repeat' first|exact .intro|refine Tw.mk ?_ ?_); all_goals (try (rw [zit hk', he, List.map_append]; simp [bRow, viewR, viewL, AV.view]; done))))))
  have e : k = (zce (bs s)).length := by omega
  subst e
  rw [List.take_length] at hb ⊢
  conv => whnf
  refine ⟨frm (bs s), ?_, ?_⟩
  ·simp [frm, bRow, viewR, viewL, AV.view]
  (all_goals refine gv ?_)
  ((try (conv => whnf));refine StopRet.by [] ?_;repeat' first|exact .intro|refine Tw.mk ?_ ?_)
structure Rd where
 buf : List UInt8
 n : Nat
 e : Bool
 x : Bool
def Rd.b (r : Rd) : List UInt8 := r.buf.take r.n
def Rd.ok (r : Rd) : Prop := r.n <= r.buf.length /\ r.n <= 62 /\ r.buf.length <= 63
def zjI (b : List UInt8) : Int := if b.length < 2 then 4 else if ((b.getD (b.length - 2) 0).toNat + 256 * (b.getD (b.length - 1) 0).toNat : Nat) = sumL (b.take (b.length - 2)) then 0 else 5
def bodyT (b : List UInt8) : List UInt8 := if zjI b = 0 then b.take (b.length - 2) else []
def rdE (r : Rd) : Int := if r.x || r.e then 4 else zjI r.b
def rdT (r : Rd) : List UInt8 := if rdE r = 0 then r.b.take (r.b.length - 2) else []
theorem zip {l : List UInt8} {i : Nat} : zaG (tx l) i = (l.getD i 0).toNat := rfl
theorem zhJ {l : List UInt8} {n : Nat} (h : n <= l.length) : (tx l).extract 0 n = tx (l.take n) := by
 apply ByteArray.ext
 simp [tx, ByteArray.extract, ByteArray.copySlice]
theorem tx_size {l : List UInt8} : (tx l).size = l.length := rfl
def zb4 (r : Rd) (c : UInt8) : Bool := decide (c = 126) && !(decide (r.n = 0) && !r.x && !r.e)
def zb3 (r : Rd) (c : UInt8) : Rd :=
 if c = 126 then (if zb4 r c then ⟨[], 0, false, false⟩ else r)
 else if c = 125 then ⟨r.buf, r.n, true, r.x || r.e⟩
 else if c.toNat < 32 then ⟨r.buf, r.n, r.e, true⟩
 else if 62 < r.n + 1 then ⟨r.b ++ [if r.e then c ^^^ 32 else c], 1, false, true⟩
 else ⟨r.b ++ [if r.e then c ^^^ 32 else c], r.n + 1, false, r.x⟩
theorem zgv {r : Rd} (h : r.ok) (c : UInt8) : (zb3 r c).ok := by
 obtain ⟨h1, h2, h3⟩ := h
 have hb : r.b.length = r.n := by unfold Rd.b; rw [List.length_take]; omega
 unfold zb3 Rd.ok
 (repeat' split) <;> (try simp only [List.length_append, List.length_cons, List.length_nil, hb]) <;> omega
def rdS (q : Rd × List (List UInt8) × Nat) (c : UInt8) : Rd × List (List UInt8) × Nat :=
 (zb3 q.1 c, if zb4 q.1 c && decide (rdE q.1 = 0) then q.2.1 ++ [rdT q.1] else q.2.1, if zb4 q.1 c && !decide (rdE q.1 = 0) then q.2.2 + 1 else q.2.2)
def za5 (r : Rd) (l : List UInt8) : Rd × List (List UInt8) × Nat := l.foldl rdS (r, [], 0)
theorem zmL {r : Rd} {l : List UInt8} {k : Nat} (h : k < l.length) : za5 r (l.take (k + 1)) = rdS (za5 r (l.take k)) l[k] := by
 unfold za5
 rw [zaQ h, List.foldl_append]; rfl
theorem rdF_ok : ∀ (l : List UInt8) (q : Rd × List (List UInt8) × Nat), q.1.ok -> (l.foldl rdS q).1.ok
 | [], q, h => h
 | c :: l, q, h => rdF_ok l _ (zgv h c)
theorem zpC : ∀ (l : List UInt8) (q : Rd × List (List UInt8) × Nat), (l.foldl rdS q).2.1.length <= q.2.1.length + l.length /\ (l.foldl rdS q).2.2 <= q.2.2 + l.length
 | [], q => by simp
 | c :: l, q => by
  obtain ⟨h1, h2⟩ := zpC l (rdS q c)
  have g : (rdS q c).2.1.length <= q.2.1.length + 1 /\ (rdS q c).2.2 <= q.2.2 + 1 := by
   unfold rdS
   dsimp only
   constructor <;> split <;> simp
  simp only [List.foldl_cons, List.length_cons]
  omega
theorem zeT {r : Rd} (h : r.ok) (l : List UInt8) : (za5 r l).1.ok := rdF_ok l _ h
theorem zdI (r : Rd) (l : List UInt8) : (za5 r l).2.1.length <= l.length /\ (za5 r l).2.2 <= l.length := by
 have := zpC l (r, [], 0)
 simpa [za5] using this
def carL : List UInt8 -> List UInt8 -> Option (List UInt8)
 | [], acc => some acc
 | c :: r, acc =>
  if c.toNat < 32 then none
  else if c = 125 then
   match r with
   | [] => none
   | d :: r' => if d = 125 \/ d.toNat < 32 then none else if 62 < acc.length + 1 then none else carL r' (acc ++ [d ^^^ 32])
  else if 62 < acc.length + 1 then none else carL r (acc ++ [c])
def carE (s : List UInt8) : Int := match carL s [] with
 | none => 4
 | some b => zjI b
def carT (s : List UInt8) : List UInt8 := match carL s [] with
 | none => []
 | some b => bodyT b
theorem carL_low {c : UInt8} {r acc : List UInt8} (h : c.toNat < 32) : carL (c :: r) acc = none := by unfold carL; rw [if_pos h]
theorem zm3 {acc : List UInt8} : carL [125] acc = none := by unfold carL; rw [if_neg (by decide), if_pos rfl]
theorem zi1 {d : UInt8} {r acc : List UInt8} (h : d = 125 \/ d.toNat < 32) : carL (125 :: d :: r) acc = none := by unfold carL; rw [if_neg (by decide), if_pos rfl]; simp only; rw [if_pos h]
theorem zm4 {d : UInt8} {r acc : List UInt8} (h2 : 62 < acc.length + 1) : carL (125 :: d :: r) acc = none := by
 unfold carL; rw [if_neg (by decide), if_pos rfl]; simp only; split <;> first | rfl | (rw [if_pos h2])
theorem carL_esc {d : UInt8} {r acc : List UInt8} (h : ¬ (d = 125 \/ d.toNat < 32)) (h2 : ¬ 62 < acc.length + 1) : carL (125 :: d :: r) acc = carL r (acc ++ [d ^^^ 32]) := by
 conv => lhs; unfold carL
 rw [if_neg (by decide), if_pos rfl]; simp only; rw [if_neg h, if_neg h2]
theorem znR {c : UInt8} {r acc : List UInt8} (h : c ≠ 125) (h2 : 62 < acc.length + 1) : carL (c :: r) acc = none := by
 unfold carL; split <;> first | rfl | (rw [if_neg h, if_pos h2]) | (rw [if_pos h2])
theorem carL_one {c : UInt8} {r acc : List UInt8} (h : ¬ c.toNat < 32) (h1 : c ≠ 125) (h2 : ¬ 62 < acc.length + 1) : carL (c :: r) acc = carL r (acc ++ [c]) := by
 conv => lhs; unfold carL
 rw [if_neg h, if_neg h1, if_neg h2]
abbrev Rg := List (List UInt8) × List Int × List UInt8
def rgS (q : Rg) (c : UInt8) : Rg :=
 if c = 126 then (if q.2.2 = [] then (q.1, q.2.1, []) else if carE q.2.2 = 0 then (q.1 ++ [carT q.2.2], q.2.1, []) else (q.1, q.2.1 ++ [carE q.2.2], []))
 else (q.1, q.2.1, q.2.2 ++ [c])
def zcO (l : List UInt8) : Rg := l.foldl rgS ([], [], [])
theorem zd4 (s : ByteArray) {a b : Nat} (h : b <= (bs s).length) : s.extract a b = tx (((bs s).take b).drop a) := by
 apply ByteArray.ext
 rw [ByteArray.data_extract]
 apply Array.ext'
 simp [bs, List.drop_take]
theorem toList_bs (s : ByteArray) : s.toList = bs s := by
 rw [ByteArray.toList_eq]
structure Sim (r : Rd) (cur : List UInt8) : Prop where
 ok : r.ok
 flag : ∀ c ∈ cur, c ≠ 126
 bad : r.x = true -> cur ≠ [] /\ ∀ t, carL (cur ++ t) [] = none
 clean : r.x = false -> r.e = false -> (cur = [] ↔ r.n = 0) /\ ∀ t, carL (cur ++ t) [] = carL t r.b
 esc : r.x = false -> r.e = true -> cur ≠ [] /\ ∀ t, carL (cur ++ t) [] = carL (125 :: t) r.b
theorem Rd.b_len {r : Rd} (h : r.ok) : r.b.length = r.n := by
 obtain ⟨h1, h2, h3⟩ := h
 unfold Rd.b; rw [List.length_take]; omega
def rd0 : Rd := ⟨[], 0, false, false⟩
theorem rd0_ok : rd0.ok := ⟨Nat.le_refl _, by decide, by decide⟩
theorem Sim.none {r : Rd} {cur : List UInt8} (h : Sim r cur) : zb4 r 126 = true ↔ cur ≠ [] := by
 obtain ⟨buf, n, e, x⟩ := r
 cases x with
 | true => simp [zb4]; exact (h.bad rfl).1
 | false => cases e with
  | true => simp [zb4]; exact (h.esc rfl rfl).1
  | false =>
   have := (h.clean rfl rfl).1
   simp only at this
   simp [zb4, this]
theorem Sim.err {r : Rd} {cur : List UInt8} (h : Sim r cur) : rdE r = carE cur /\ rdT r = carT cur := by
 have key : rdE r = carE cur /\ (rdE r = 0 -> rdT r = carT cur) := by
  obtain ⟨buf, n, e, x⟩ := r
  cases x with
  | true =>
   have h1 := (h.bad rfl).2 []
   rw [List.append_nil] at h1
   refine ⟨by simp [rdE, carE, h1], fun e => by simp [rdE] at e⟩
  | false => cases e with
   | true =>
    have h1 := (h.esc rfl rfl).2 []
    rw [List.append_nil, zm3] at h1
    refine ⟨by simp [rdE, carE, h1], fun e => by simp [rdE] at e⟩
   | false =>
    have h1 := (h.clean rfl rfl).2 []
    rw [List.append_nil] at h1
    have h2 : carL cur [] = some (Rd.b ⟨buf, n, false, false⟩) := h1
    refine ⟨by simp [rdE, carE, h2], fun e => ?_⟩
    have e' : zjI (Rd.b ⟨buf, n, false, false⟩) = 0 := by simpa [rdE] using e
    simp [rdT, e, carT, h2, bodyT, e']
 refine ⟨key.1, ?_⟩
 by_cases h0 : rdE r = 0
 ·exact key.2 h0
 ·have h1 : rdT r = [] := by unfold rdT; rw [if_neg h0]
  rw [h1]
  unfold carT
  have h2 : carE cur ≠ 0 := by rw [<- key.1]; exact h0
  cases hc : carL cur [] with
  | none => rfl
  | some b =>
   simp only
   unfold bodyT
   have : carE cur = zjI b := by unfold carE; rw [hc]
   rw [if_neg (by rw [<- this]; exact h2)]
theorem zbT {α : Type} (l : List α) (c : α) (t : List α) : l ++ [c] ++ t = l ++ c :: t := by simp
theorem Sim.step {r : Rd} {cur : List UInt8} {c : UInt8} (h : Sim r cur) (hc : c ≠ 126) : Sim (zb3 r c) (cur ++ [c]) := by
 have hok := zgv h.ok c
 have hfl : ∀ d ∈ cur ++ [c], d ≠ 126 := by
  intro d hd
  rcases List.mem_append.1 hd with g | g
  ·exact h.flag d g
  ·rw [List.mem_singleton.1 g]; exact hc
 have hne : cur ++ [c] ≠ [] := by simp
 have hbl := Rd.b_len h.ok
 obtain ⟨h1, h2, h3⟩ := h.ok
 obtain ⟨buf, n, e, x⟩ := r
 unfold zb3 at hok ⊢
 rw [if_neg hc] at hok ⊢
 dsimp only at h1 h2 h3 hbl hok ⊢
 by_cases c2 : c = 125
 ·subst c2
  simp only [if_true] at hok ⊢
  refine ⟨hok, hfl, fun hx => ⟨hne, fun t => ?_⟩, fun hx he => (by cases he), fun hx _ => ⟨hne, fun t => ?_⟩⟩
  ·rw [zbT]
   cases x with
   | true => exact (h.bad rfl).2 _
   | false =>
    cases e with
    | false => simp at hx
    | true => rw [(h.esc rfl rfl).2, zi1 (.inl rfl)]
  ·rw [zbT]
   cases x with
   | true => simp at hx
   | false =>
    cases e with
    | true => simp at hx
    | false => exact (h.clean rfl rfl).2 _
 rw [if_neg c2] at hok ⊢
 by_cases c3 : c.toNat < 32
 ·rw [if_pos c3] at hok ⊢
  refine ⟨hok, hfl, fun hx => ⟨hne, fun t => ?_⟩, fun hx => (by cases hx), fun hx => (by cases hx)⟩
  rw [zbT]
  cases x with
  | true => exact (h.bad rfl).2 _
  | false =>
   cases e with
   | true => rw [(h.esc rfl rfl).2, zi1 (.inr c3)]
   | false => rw [(h.clean rfl rfl).2, carL_low c3]
 rw [if_neg c3] at hok ⊢
 by_cases c4 : 62 < n + 1
 ·rw [if_pos c4] at hok ⊢
  refine ⟨hok, hfl, fun hx => ⟨hne, fun t => ?_⟩, fun hx => (by cases hx), fun hx => (by cases hx)⟩
  rw [zbT]
  cases x with
  | true => exact (h.bad rfl).2 _
  | false =>
   cases e with
   | true => rw [(h.esc rfl rfl).2, zm4 (by omega)]
   | false => rw [(h.clean rfl rfl).2, znR c2 (by omega)]
 ·rw [if_neg c4] at hok ⊢
  have hb' : ∀ d : UInt8, (Rd.b ⟨Rd.b ⟨buf, n, e, x⟩ ++ [d], n + 1, false, x⟩) = Rd.b ⟨buf, n, e, x⟩ ++ [d] := by
   intro d
   show (Rd.b ⟨buf, n, e, x⟩ ++ [d]).take (n + 1) = _
   exact List.take_of_length_le (by simp only [List.length_append, hbl, List.length_cons, List.length_nil]; omega)
  refine ⟨hok, hfl, fun hx => ⟨hne, fun t => ?_⟩, fun hx _ => ⟨by simp, fun t => ?_⟩, fun hx he => (by cases he)⟩
  ·rw [zbT]
   dsimp only at hx
   subst hx
   exact (h.bad rfl).2 _
  ·rw [zbT, hb']
   dsimp only at hx
   subst hx
   cases e with
   | true =>
    rw [(h.esc rfl rfl).2, carL_esc (by rintro (g | g); exact c2 g; exact c3 g) (by omega)]
    rfl
   | false =>
    rw [(h.clean rfl rfl).2, carL_one c3 c2 (by omega)]
    rfl
end Go.Proofs.YtimfnpjcedjmiadGreat
namespace Go.Proofs.YtimfnpjcedjmiadGreat
def nod (n : Int) : Prop := 1 <= n /\ n <= 6
structure MOk (M : Int -> Int -> Int) : Prop where
 pos : ∀ a b, 0 <= M a b
 most : ∀ a b, M a b <= 20
section
variable {M : Int -> Int -> Int}
inductive Wk (M : Int -> Int -> Int) (r : Int) : Int -> Int -> Int -> Prop
 | one {n : Int} (h : nod n) (hm : 0 < M r n) : Wk M r n (M r n) n
 | step {u n d f : Int} (h : Wk M r u d f) (hn : nod n) (hm : 0 < M u n) : Wk M r n (d + M u n) f
def lx (d f d' f' : Int) : Prop := d < d' \/ (d = d' /\ f <= f')
theorem zg2 (d f : Int) : lx d f d f := .inr ⟨rfl, Int.le_refl _⟩
theorem zeH {a b c d e f : Int} (h : lx a b c d) (k : lx c d e f) : lx a b e f := by unfold lx at *; omega
theorem Wk.pos {r n d f : Int} (h : Wk M r n d f) : 0 < d := by
 induction h with
 | one h hm => exact hm
 | step h hn hm ih => omega
theorem Wk.nod {r n d f : Int} (h : Wk M r n d f) : Go.Proofs.YtimfnpjcedjmiadGreat.nod n /\ Go.Proofs.YtimfnpjcedjmiadGreat.nod f := by
 induction h with
 | one h hm => exact ⟨h, h⟩
 | step h hn hm ih => exact ⟨hn, ih.2⟩
def Best (M : Int -> Int -> Int) (r n d f : Int) : Prop := n ≠ r /\ Wk M r n d f /\ ∀ d' f', Wk M r n d' f' -> lx d f d' f'
theorem Best.uniq {r n d f d' f' : Int} (h : Best M r n d f) (k : Best M r n d' f') : d = d' /\ f = f' := by
 have h1 := h.2.2 _ _ k.2.1
 have h2 := k.2.2 _ _ h.2.1
 unfold lx at *; omega
structure DInv (M : Int -> Int -> Int) (r : Int) (far next : Int -> Int) (done : Int -> Bool) : Prop where
 rn : nod r
 root : far r = 0
 first : done r = false -> ∀ n, nod n -> done n = false /\ (n ≠ r -> far n < 0)
 wk : ∀ n, nod n -> n ≠ r -> 0 <= far n -> Wk M r n (far n) (next n)
 rel : ∀ u, nod u -> done u = true -> ∀ v, nod v -> v ≠ r -> 0 < M u v -> 0 <= far v /\ lx (far v) (next v) (far u + M u v) (if u = r then v else next u)
 mono : ∀ u, nod u -> done u = true -> 0 <= far u /\ ∀ v, nod v -> done v = false -> 0 <= far v -> far u <= far v
theorem DInv.low {r : Int} {far next : Int -> Int} {done : Int -> Bool} (h : DInv M r far next done) (hend : ∀ n, nod n -> done n = false -> far n < 0) {n d f : Int} (hw : Wk M r n d f) : n ≠ r -> 0 <= far n /\ lx (far n) (next n) d f := by
 have hr : done r = true := by
  cases hd : done r with
  | true => rfl
  | false => have := hend r h.rn hd; have := h.root; omega
 induction hw with
 | one hn hm =>
  intro hne
  obtain ⟨h1, h2⟩ := h.rel r h.rn hr _ hn hne hm
  refine ⟨h1, ?_⟩
  rw [if_pos rfl, h.root, Int.zero_add] at h2
  exact h2
 | @step u n d f hu hn hm ih =>
  intro hne
  by_cases hur : u = r
  ·subst hur
   obtain ⟨h1, h2⟩ := h.rel u h.rn hr n hn hne hm
   refine ⟨h1, zeH h2 ?_⟩
   have := hu.pos
   rw [h.root]
   unfold lx; omega
  ·obtain ⟨g1, g2⟩ := ih hur
   have hdu : done u = true := by
    cases hd : done u with
    | true => rfl
    | false => have := hend u hu.nod.1 hd; omega
   obtain ⟨h1, h2⟩ := h.rel u hu.nod.1 hdu n hn hne hm
   refine ⟨h1, zeH h2 ?_⟩
   rw [if_neg hur]
   unfold lx at *; omega
theorem DInv.best {r : Int} {far next : Int -> Int} {done : Int -> Bool} (h : DInv M r far next done) (hend : ∀ n, nod n -> done n = false -> far n < 0) {n : Int} (hn : nod n) (hne : n ≠ r) : (0 <= far n -> Best M r n (far n) (next n)) /\ (¬ 0 <= far n -> ∀ d f, ¬ Wk M r n d f) :=
 ⟨fun h0 => ⟨hne, h.wk n hn hne h0, fun d f hw => (h.low hend hw hne).2⟩, fun h0 d f hw => h0 (h.low hend hw hne).1⟩
def Pick (far : Int -> Int) (done : Int -> Bool) (m a : Int) : Prop :=
 (a = 0 /\ ∀ n, 1 <= n -> n < m -> done n = false -> far n < 0) \/ (1 <= a /\ a < m /\ done a = false /\ 0 <= far a /\ ∀ n, 1 <= n -> n < m -> done n = false -> 0 <= far n -> far a <= far n)
def upd {α : Type} (f : Int -> α) (i : Int) (x : α) : Int -> α := fun k => if k = i then x else f k
theorem zap {α : Type} (f : Int -> α) (i : Int) (x : α) : upd f i x i = x := by simp [upd]
theorem zbD {α : Type} (f : Int -> α) {i k : Int} (x : α) (h : k ≠ i) : upd f i x k = f k := by simp [upd, h]
structure RInv (M : Int -> Int -> Int) (r a m : Int) (far next : Int -> Int) (done : Int -> Bool) : Prop where
 rn : nod r
 an : nod a
 root : far r = 0
 rdone : done r = true
 adone : done a = true
 apos : 0 <= far a
 wk : ∀ n, nod n -> n ≠ r -> 0 <= far n -> Wk M r n (far n) (next n)
 rel : ∀ u, nod u -> done u = true -> ∀ v, nod v -> v ≠ r -> 0 < M u v -> (u ≠ a \/ v < m) -> 0 <= far v /\ lx (far v) (next v) (far u + M u v) (if u = r then v else next u)
 mono : ∀ u, nod u -> done u = true -> 0 <= far u /\ far u <= far a /\ ∀ v, nod v -> done v = false -> 0 <= far v -> far u <= far v
theorem RInv.start {r a : Int} {far next : Int -> Int} {done : Int -> Bool} (h : DInv M r far next done) (hp : Pick far done 7 a) (ha : a ≠ 0) : RInv M r a 1 far next (upd done a true) := by
 rcases hp with ⟨h0, _⟩ | ⟨h1, h2, h3, h4, h5⟩
 ·exact absurd h0 ha
 ·have an : nod a := ⟨h1, by omega⟩
  have hr : r = a \/ done r = true := by
   cases hd : done r with
   | true => exact .inr rfl
   | false =>
    left
    have := (h.first hd a an).2
    by_cases e : a = r
    ·exact e.symm
    ·have := this e; omega
  refine ⟨h.rn, an, h.root, ?_, zap _ _ _, h4, h.wk, ?_, ?_⟩
  ·rcases hr with e | e
   ·rw [e]; exact zap _ _ _
   ·unfold upd; split <;> simp [e]
  ·intro u hu hd v hv hvr hm hor
   by_cases e : u = a
   ·unfold nod at hv; omega
   ·rw [zbD _ _ e] at hd
    exact h.rel u hu hd v hv hvr hm
  ·intro u hu hd
   by_cases e : u = a
   ·subst e
    refine ⟨h4, Int.le_refl _, fun v hv hdv h0 => ?_⟩
    have hva : v ≠ u := by rintro rfl; rw [zap] at hdv; cases hdv
    rw [zbD _ _ hva] at hdv
    unfold nod at hv
    exact h5 v (by omega) (by omega) hdv h0
   ·rw [zbD _ _ e] at hd
    obtain ⟨g1, g2⟩ := h.mono u hu hd
    refine ⟨g1, g2 a an h3 h4, fun v hv hdv h0 => ?_⟩
    have hva : v ≠ a := by rintro rfl; rw [zap] at hdv; cases hdv
    rw [zbD _ _ hva] at hdv
    exact g2 v hv hdv h0
theorem RInv.done {r a : Int} {far next : Int -> Int} {done : Int -> Bool} (h : RInv M r a 7 far next done) : DInv M r far next done :=
 ⟨h.rn, h.root, fun hd => (by rw [h.rdone] at hd; cases hd), h.wk, fun u hu hd v hv hvr hm => h.rel u hu hd v hv hvr hm (.inr (by unfold nod at hv; omega)), fun u hu hd => ⟨(h.mono u hu hd).1, (h.mono u hu hd).2.2⟩⟩
theorem RInv.skip {r a m : Int} {far next : Int -> Int} {done : Int -> Bool} (h : RInv M r a m far next done) (hM : MOk M) (hs : M a m = 0 \/ done m = true) (hmn : nod m) : RInv M r a (m + 1) far next done := by
 refine ⟨h.rn, h.an, h.root, h.rdone, h.adone, h.apos, h.wk, fun u hu hd v hv hvr hm hor => ?_, h.mono⟩
 by_cases e : u = a /\ v = m
 ·obtain ⟨rfl, rfl⟩ := e
  rcases hs with hs | hs
  ·omega
  ·obtain ⟨g1, g2, g3⟩ := h.mono v hv hs
   refine ⟨g1, ?_⟩
   unfold lx; omega
 ·exact h.rel u hu hd v hv hvr hm (by omega)
def byOf (r a m : Int) (next : Int -> Int) : Int := if a = r then m else next a
theorem RInv.cand {r a m : Int} {far next : Int -> Int} {done : Int -> Bool} (h : RInv M r a m far next done) (hmn : nod m) (hm : 0 < M a m) : Wk M r m (far a + M a m) (byOf r a m next) := by
 unfold byOf
 by_cases e : a = r
 ·rw [if_pos e, e, h.root, Int.zero_add]
  rw [e] at hm
  exact .one hmn hm
 ·rw [if_neg e]
  exact .step (h.wk a h.an e h.apos) hmn hm
theorem RInv.keep {r a m : Int} {far next : Int -> Int} {done : Int -> Bool} (h : RInv M r a m far next done) (hmn : nod m) (h0 : 0 <= far m) (hl : lx (far m) (next m) (far a + M a m) (byOf r a m next)) : RInv M r a (m + 1) far next done := by
 refine ⟨h.rn, h.an, h.root, h.rdone, h.adone, h.apos, h.wk, fun u hu hd v hv hvr hm hor => ?_, h.mono⟩
 by_cases e : u = a /\ v = m
 ·obtain ⟨rfl, rfl⟩ := e
  exact ⟨h0, hl⟩
 ·exact h.rel u hu hd v hv hvr hm (by omega)
theorem RInv.take {r a m : Int} {far next : Int -> Int} {done : Int -> Bool} (h : RInv M r a m far next done) (hmn : nod m) (hm : 0 < M a m) (hd : done m = false) (hl : far m < 0 \/ lx (far a + M a m) (byOf r a m next) (far m) (next m)) : RInv M r a (m + 1) (upd far m (far a + M a m)) (upd next m (byOf r a m next)) done := by
 have ham : a ≠ m := by rintro rfl; rw [h.adone] at hd; cases hd
 have hrm : r ≠ m := by rintro rfl; rw [h.rdone] at hd; cases hd
 refine ⟨h.rn, h.an, by rw [zbD _ _ hrm]; exact h.root, h.rdone, h.adone, by rw [zbD _ _ ham]; exact h.apos, ?_, ?_, ?_⟩
 ·intro n hn hne h0
  by_cases e : n = m
  ·subst e
   rw [zap, zap]
   exact h.cand hmn hm
  ·rw [zbD _ _ e] at h0 ⊢
   rw [zbD _ _ e]
   exact h.wk n hn hne h0
 ·intro u hu hdu v hv hvr hmv hor
  have hum : u ≠ m := by rintro rfl; rw [hd] at hdu; cases hdu
  rw [zbD _ _ hum, zbD _ _ hum]
  by_cases e : v = m
  ·subst e
   rw [zap, zap]
   by_cases e2 : u = a
   ·subst e2
    refine ⟨by have := h.apos; omega, ?_⟩
    unfold byOf
    exact zg2 _ _
   ·obtain ⟨g1, g2⟩ := h.rel u hu hdu v hv hvr hmv (.inl e2)
    refine ⟨by have := h.apos; omega, ?_⟩
    rcases hl with hl | hl
    ·omega
    ·exact zeH hl g2
  ·rw [zbD _ _ e, zbD _ _ e]
   exact h.rel u hu hdu v hv hvr hmv (by omega)
 ·intro u hu hdu
  obtain ⟨g1, g2, g3⟩ := h.mono u hu hdu
  have hum : u ≠ m := by rintro rfl; rw [hd] at hdu; cases hdu
  rw [zbD _ _ hum, zbD _ _ ham]
  refine ⟨g1, g2, fun v hv hdv h0 => ?_⟩
  by_cases e : v = m
  ·subst e; rw [zap]; omega
  ·rw [zbD _ _ e] at h0 ⊢; exact g3 v hv hdv h0
end
open Classical in
noncomputable def hopV (M : Int -> Int -> Int) (r n : Int) : Option (Int × Int) := if h : ∃ p : Int × Int, Best M r n p.1 p.2 then some (Classical.choose h) else none
theorem ziu {M : Int -> Int -> Int} {r n d f : Int} (h : Best M r n d f) : hopV M r n = some (d, f) := by
 have hx : ∃ p : Int × Int, Best M r n p.1 p.2 := ⟨(d, f), h⟩
 unfold hopV
 rw [dif_pos hx]
 obtain ⟨e1, e2⟩ := (Classical.choose_spec hx).uniq h
 rw [show Classical.choose hx = (d, f) from Prod.ext e1 e2]
theorem zjF {M : Int -> Int -> Int} {r n : Int} (h : ∀ d f, ¬ Wk M r n d f) : hopV M r n = none := by
 unfold hopV
 rw [dif_neg]
 rintro ⟨p, hp⟩
 exact h _ _ hp.2.1
theorem zjT {M : Int -> Int -> Int} {r : Int} : hopV M r r = none := by
 unfold hopV
 rw [dif_neg]
 rintro ⟨p, hp⟩
 exact hp.1 rfl
noncomputable def zje (M : Int -> Int -> Int) (r n : Int) : List (Int × Int × Int) := match hopV M r n with
 | some p => [(n, p.1, p.2)]
 | none => []
noncomputable def hopsTo (M : Int -> Int -> Int) (r : Int) : Nat -> List (Int × Int × Int)
 | 0 => []
 | k + 1 => hopsTo M r k ++ zje M r ((k : Int) + 1)
noncomputable def hopsM (M : Int -> Int -> Int) (r : Int) : List (Int × Int × Int) := hopsTo M r 6
theorem zeu (M : Int -> Int -> Int) (r : Int) : ∀ k, (hopsTo M r k).length <= k
 | 0 => by simp [hopsTo]
 | k + 1 => by
  have := zeu M r k
  have h2 : (zje M r ((k : Int) + 1)).length <= 1 := by unfold zje; split <;> simp
  simp only [hopsTo, List.length_append]; omega
abbrev Hp := Int × Int × Int
section
variable {M : Int -> Int -> Int}
def betB (h : Hp) (d f : Int) : Bool := decide (h.1 = 0) || decide (d < h.2.1) || (decide (d = h.2.1) && decide (f < h.2.2))
def putB (best : Int -> Hp) (n d f : Int) : Int -> Hp := if betB (best n) d f then upd best n (n, d, f) else best
def byB (by_ n : Int) : Int := if by_ = 0 then n else by_
inductive EE (M : Int -> Int -> Int) : Int -> Int -> Int -> (Int -> Bool) -> Int -> Int -> Int -> Prop
 | here {at_ far by_ : Int} {been : Int -> Bool} {n : Int} (hn : nod n) (hm : M at_ n ≠ 0) (hb : upd been at_ true n = false) : EE M at_ far by_ been n (far + M at_ n) (byB by_ n)
 | deep {at_ far by_ : Int} {been : Int -> Bool} {u n d f : Int} (hu : nod u) (hm : M at_ u ≠ 0) (hb : upd been at_ true u = false) (h : EE M u (far + M at_ u) (byB by_ u) (upd been at_ true) n d f) : EE M at_ far by_ been n d f
structure Bet (P : Int -> Int -> Int -> Prop) (b b' : Int -> Hp) : Prop where
 from_ : ∀ n, b' n = b n \/ ∃ d f, P n d f /\ b' n = (n, d, f)
 keep : ∀ n, (b n).1 ≠ 0 -> (b' n).1 ≠ 0 /\ lx (b' n).2.1 (b' n).2.2 (b n).2.1 (b n).2.2
 all : ∀ n d f, P n d f -> (b' n).1 ≠ 0 /\ lx (b' n).2.1 (b' n).2.2 d f
theorem Bet.refl {P : Int -> Int -> Int -> Prop} (hP : ∀ n d f, ¬ P n d f) (b : Int -> Hp) : Bet P b b :=
 ⟨fun n => .inl rfl, fun n h => ⟨h, zg2 _ _⟩, fun n d f h => absurd h (hP n d f)⟩
theorem Bet.trans {P Q R : Int -> Int -> Int -> Prop} {a b c : Int -> Hp} (h : Bet P a b) (k : Bet Q b c) (hR : ∀ n d f, R n d f ↔ P n d f \/ Q n d f) : Bet R a c := by
 refine ⟨fun n => ?_, fun n hn => ?_, fun n d f hr => ?_⟩
 ·rcases k.from_ n with e | ⟨d, f, h1, h2⟩
  ·rcases h.from_ n with e2 | ⟨d, f, h1, h2⟩
   ·exact .inl (e.trans e2)
   ·exact .inr ⟨d, f, (hR _ _ _).2 (.inl h1), e.trans h2⟩
  ·exact .inr ⟨d, f, (hR _ _ _).2 (.inr h1), h2⟩
 ·obtain ⟨h1, h2⟩ := h.keep n hn
  obtain ⟨k1, k2⟩ := k.keep n h1
  exact ⟨k1, zeH k2 h2⟩
 ·rcases (hR _ _ _).1 hr with hp | hq
  ·obtain ⟨h1, h2⟩ := h.all n d f hp
   obtain ⟨k1, k2⟩ := k.keep n h1
   exact ⟨k1, zeH k2 h2⟩
  ·exact k.all n d f hq
theorem Bet.put {n d f : Int} (hn : nod n) (b : Int -> Hp) : Bet (fun x y z => x = n /\ y = d /\ z = f) b (putB b n d f) := by
 unfold putB
 by_cases hb : betB (b n) d f = true
 ·rw [if_pos hb]
  simp only [betB, Bool.or_eq_true, Bool.and_eq_true, decide_eq_true_eq] at hb
  unfold nod at hn
  refine ⟨fun x => ?_, fun x hx => ?_, ?_⟩
  ·by_cases e : x = n
   ·subst e; exact .inr ⟨d, f, ⟨rfl, rfl, rfl⟩, zap _ _ _⟩
   ·exact .inl (zbD _ _ e)
  ·by_cases e : x = n
   ·subst e
    rw [zap]
    refine ⟨by show x ≠ 0; omega, ?_⟩
    unfold lx
    simp only
    omega
   ·rw [zbD _ _ e]; exact ⟨hx, zg2 _ _⟩
  ·rintro x y z ⟨rfl, rfl, rfl⟩
   rw [zap]
   exact ⟨by show x ≠ 0; omega, zg2 _ _⟩
 ·rw [if_neg hb]
  simp only [betB, Bool.or_eq_true, Bool.and_eq_true, decide_eq_true_eq, not_or, not_and] at hb
  refine ⟨fun x => .inl rfl, fun x hx => ⟨hx, zg2 _ _⟩, ?_⟩
  rintro x y z ⟨rfl, rfl, rfl⟩
  refine ⟨hb.1.1, ?_⟩
  unfold lx
  have h1 := hb.1.2
  have h2 := hb.2
  omega
def zc8 (been : Int -> Bool) : Nat := [1, 2, 3, 4, 5, 6].countP fun n => !been n
theorem zoe {been : Int -> Bool} {a : Int} (ha : nod a) (hb : been a = false) : zc8 (upd been a true) + 1 = zc8 been := by
 unfold zc8 upd
 unfold nod at ha
 rcases (by omega : a = 1 \/ a = 2 \/ a = 3 \/ a = 4 \/ a = 5 \/ a = 6) with rfl | rfl | rfl | rfl | rfl | rfl <;> simp [List.countP_cons, hb] <;> omega
theorem EE.wk {r : Int} (hM : MOk M) {at_ far by_ : Int} {been : Int -> Bool} {n d f : Int} (h : EE M at_ far by_ been n d f) : (at_ = r /\ far = 0 /\ by_ = 0) \/ (by_ ≠ 0 /\ Wk M r at_ far by_) -> Wk M r n d f := by
 induction h with
 | @here at_ far by_ been n hn hm hb =>
  have hp := hM.pos at_ n
  rintro (⟨rfl, rfl, rfl⟩ | ⟨h1, h2⟩)
  ·rw [Int.zero_add]; exact .one hn (by omega)
  ·unfold byB; rw [if_neg h1]; exact .step h2 hn (by omega)
 | @deep at_ far by_ been u n d f hu hm hb h ih =>
  have hp := hM.pos at_ u
  rintro (⟨rfl, rfl, rfl⟩ | ⟨h1, h2⟩)
  ·refine ih (.inr ⟨?_, ?_⟩)
   ·unfold byB; rw [if_pos rfl]; unfold nod at hu; omega
   ·unfold byB; rw [if_pos rfl, Int.zero_add]; exact .one hu (by omega)
  ·refine ih (.inr ⟨?_, ?_⟩)
   ·unfold byB; rw [if_neg h1]; exact h1
   ·unfold byB; rw [if_neg h1]; exact .step h2 hu (by omega)
inductive Ch (M : Int -> Int -> Int) (r : Int) : Int -> Int -> Int -> List Int -> Prop
 | one {n : Int} (h : Best M r n (M r n) n) (hm : 0 < M r n) : Ch M r n (M r n) n [r]
 | step {u n d f : Int} {vs : List Int} (h : Ch M r u d f vs) (hb : Best M r n (d + M u n) f) (hm : 0 < M u n) : Ch M r n (d + M u n) f (u :: vs)
theorem Ch.best {r n d f : Int} {vs : List Int} (h : Ch M r n d f vs) : Best M r n d f := by
 cases h with
 | one h hm => exact h
 | step h hb hm => exact hb
theorem Ch.mem {r n d f : Int} {vs : List Int} (h : Ch M r n d f vs) : ∀ x ∈ vs, x = r \/ ∃ d' f', d' < d /\ Best M r x d' f' := by
 induction h with
 | one h hm => intro x hx; simp at hx; exact .inl hx
 | @step u n d f vs h hb hm ih =>
  intro x hx
  rcases List.mem_cons.1 hx with rfl | hx
  ·exact .inr ⟨_, _, by omega, h.best⟩
  ·rcases ih x hx with e | ⟨d', f', h1, h2⟩
   ·exact .inl e
   ·exact .inr ⟨d', f', by omega, h2⟩
theorem Ch.new {r n d f : Int} {vs : List Int} (h : Ch M r n d f vs) : n ∉ vs := by
 intro hn
 rcases h.mem n hn with e | ⟨d', f', h1, h2⟩
 ·exact h.best.1 e
 ·have := (h.best.uniq h2).1; omega
def zf5 (vs : List Int) : Int -> Bool := fun x => vs.contains x
theorem zbt (u : Int) (vs : List Int) : upd (zf5 vs) u true = zf5 (u :: vs) := by
 funext x
 unfold upd zf5
 by_cases e : x = u
 ·subst e; simp
 ·rw [if_neg e]; simp [e]
theorem Ch.reach {r n d f : Int} {vs : List Int} (h : Ch M r n d f vs) : ∀ {n' d' f' : Int}, EE M n d f (zf5 vs) n' d' f' -> EE M r 0 0 (zf5 []) n' d' f' := by
 induction h with
 | @one n h hm =>
  intro n' d' f' he
  have hn := h.2.1.nod.1
  refine .deep hn (by omega) ?_ ?_
  ·rw [zbt]; simp [zf5]; exact h.1
  ·rw [zbt]
   unfold byB
   rw [if_pos rfl, Int.zero_add]
   exact he
 | @step u n d f vs h hb hm ih =>
  intro n' d' f' he
  have hn := hb.2.1.nod.1
  refine ih (.deep hn (by omega) ?_ ?_)
  ·rw [zbt]
   have := (Ch.step h hb hm).new
   simpa [zf5] using this
  ·rw [zbt]
   have hf : f ≠ 0 := by have := h.best.2.1.nod.2; unfold nod at this; omega
   unfold byB
   rw [if_neg hf]
   exact he
theorem Ch.here {r n d f : Int} {vs : List Int} (h : Ch M r n d f vs) : EE M r 0 0 (zf5 []) n d f := by
 cases h with
 | one h hm =>
  have hn := h.2.1.nod.1
  have e : EE M r 0 0 (zf5 []) n (0 + M r n) (byB 0 n) := .here hn (by omega) (by rw [zbt]; simp [zf5]; exact h.1)
  rw [Int.zero_add] at e
  exact e
 | @step u _ d _ vs h hb hm =>
  refine h.reach ?_
  have hn := hb.2.1.nod.1
  have hf : f ≠ 0 := by have := h.best.2.1.nod.2; unfold nod at this; omega
  have e : EE M u d f (zf5 vs) n (d + M u n) (byB f n) := .here hn (by omega) (by
   rw [zbt]
   have := (Ch.step h hb hm).new
   simpa [zf5] using this)
  unfold byB at e
  rw [if_neg hf] at e
  exact e
end
end Go.Proofs.YtimfnpjcedjmiadGreat
namespace Go.Proofs.YtimfnpjcedjmiadGreat
open Go.RowKit
def mS (a b o : Int) (q : Int × Bool) (e : Int × Int) : Int × Bool := (if o = a /\ e.1 = b then e.2 else q.1, q.2 || (decide (o = b) && decide (e.1 = a)))
def mE (a b : Int) (q : Int × Bool) (s : St3) : Int × Bool := s.2.2.foldl (mS a b s.1) q
def mL (a b : Int) (l : List St3) : Int × Bool := l.foldl (mE a b) (0, false)
def met (l : List St3) (a b : Int) : Int := if (mL a b l).2 then (mL a b l).1 else 0
theorem mL_succ {a b : Int} {l : List St3} {k : Nat} (h : k < l.length) : mL a b (l.take (k + 1)) = mE a b (mL a b (l.take k)) l[k] := by
 unfold mL
 rw [zaQ h, List.foldl_append]; rfl
theorem mF_succ {a b o : Int} {q : Int × Bool} {l : List (Int × Int)} {k : Nat} (h : k < l.length) : (l.take (k + 1)).foldl (mS a b o) q = (if o = a /\ l[k].1 = b then l[k].2 else ((l.take k).foldl (mS a b o) q).1, ((l.take k).foldl (mS a b o) q).2 || (decide (o = b) && decide (l[k].1 = a))) := by
 rw [zaQ h, List.foldl_append]; rfl
def hRow (h : Hp) : List AV := [.v (.int .i64 h.1), .v (.int .i64 h.2.1), .v (.int .i64 h.2.2)]
def zi6 (l : List St3) : Prop := l.length <= 1000000 /\ ∀ s ∈ l, s.2.2.length <= 1000000
theorem zgm (l : List St3) (a b : Int) (hl : zi6 l) : Fn Tryz.prog 52 [.sl 3 (l.map zaF) none, .v (.int .i64 a), .v (.int .i64 b)] [] (.v (.int .i64 (met l a b))) [] := by
 obtain ⟨hl1, hl2⟩ := hl
 refine foA zaA [] [] Tryz.func52 Tryz.ntmps52 Tryz.results52 ?_
 (all_goals refine gv ?_)
 refine lpG (fun k : Nat => ⟨[(1, .v (.int .i64 a)), (2, .v (.int .i64 b)), (7, .v (.int .i64 (mL a b (l.take k)).1)), (8, .v (.bool (mL a b (l.take k)).2)), (13, .sl 3 (l.map zaF) none), (14, .v (.int .i64 l.length)), (15, .v (.int .i64 k))], []⟩) (fun k => k <= l.length) (fun k => l.length - k) 0 (by omega) (by (refine zaC [] ?_;repeat' first|exact .intro|refine Tw.mk ?_ ?_); all_goals (all_goals (try (simp [mL]; done)))) ?_
 rintro k hk
 by_cases hk' : k < l.length
 ·have hel := hl2 l[k] (List.getElem_mem hk')
  have hS := mL_succ (a := a) (b := b) hk'
  unfold mE at hS
  generalize mL a b (l.take k) = Q at *
  (all_goals refine gv ?_;repeat' first|exact .intro|refine Tw.mk ?_ ?_|(intro h;first|replace h:=h.o|cases h))
  refine lpG (fun j : Nat => ⟨[(1, .v (.int .i64 a)), (2, .v (.int .i64 b)), (7, .v (.int .i64 ((l[k].2.2.take j).foldl (mS a b l[k].1) Q).1)), (8, .v (.bool ((l[k].2.2.take j).foldl (mS a b l[k].1) Q).2)), (10, .box 0 0), (13, .sl 3 (l.map zaF) none), (14, .v (.int .i64 l.length)), (15, .v (.int .i64 k)), (20, .sl 2 (l[k].2.2.map opRow) none), (21, .v (.int .i64 l[k].2.2.length)), (22, .v (.int .i64 j))], [.cells (zaF l[k])]⟩) (fun j => j <= l[k].2.2.length) (fun j => l[k].2.2.length - j) 0 (by omega) (by (refine zaC [0] ?_;repeat' first|exact .intro|refine Tw.mk ?_ ?_); all_goals (all_goals (try (simp; done)))) ?_
  rintro j hj
  by_cases hj' : j < l[k].2.2.length
  ·have hF := mF_succ (a := a) (b := b) (o := l[k].1) (q := Q) hj'
   generalize (l[k].2.2.take j).foldl (mS a b l[k].1) Q = R at *
   obtain ⟨n, back⟩ := R
   dsimp only at hF ⊢
   unfold zaF
   cases back
   all_goals
    (all_goals refine gv ?_;repeat' first|exact .intro|refine Tw.mk ?_ ?_|(intro h;first|replace h:=h.o|cases h))
    all_goals (refine zaO (j + 1) (by omega) (by omega) (by rw [hF]; (refine zaC [0] ?_;repeat' first|exact .intro|refine Tw.mk ?_ ?_); all_goals (all_goals (first | (simp_all; done) | (simp_all; rw [Bool.eq_iff_iff]; simp; done)))))
  ·have e : j = l[k].2.2.length := by omega
   subst e
   rw [List.take_length, <- hS]
   unfold zaF
   (all_goals refine gv ?_;repeat' first|exact .intro|refine Tw.mk ?_ ?_|(intro h;first|replace h:=h.o|cases h))
   refine zaO (k + 1) (by omega) (by omega) (by (refine zaC [] ?_;repeat' first|exact .intro|refine Tw.mk ?_ ?_))
 ·have e : k = l.length := by omega
  subst e
  rw [List.take_length]
  unfold met
  generalize mL a b l = Q
  obtain ⟨n, back⟩ := Q
  cases back
  all_goals
   (all_goals refine gv ?_;repeat' first|exact .intro|refine Tw.mk ?_ ?_|(intro h;first|replace h:=h.o|cases h))
   all_goals exact Y9
noncomputable def zcs (l : List St3) (r : Int) : List Hp := if 1 <= r /\ r <= 6 then hopsM (met l) r else []
theorem Pick.keep {far : Int -> Int} {done : Int -> Bool} {m a : Int} (h : Pick far done m a) (hm : 1 <= m) (hk : done m = true \/ far m < 0 \/ (a ≠ 0 /\ far a <= far m)) : Pick far done (m + 1) a := by
 rcases h with ⟨h0, h1⟩ | ⟨h1, h2, h3, h4, h5⟩
 ·refine .inl ⟨h0, fun n hn hnm hd => ?_⟩
  by_cases e : n = m
  ·subst e
   rcases hk with hk | hk | hk
   ·rw [hk] at hd; cases hd
   ·exact hk
   ·exact absurd h0 hk.1
  ·exact h1 n hn (by omega) hd
 ·refine .inr ⟨h1, by omega, h3, h4, fun n hn hnm hd h0 => ?_⟩
  by_cases e : n = m
  ·subst e
   rcases hk with hk | hk | hk
   ·rw [hk] at hd; cases hd
   ·omega
   ·exact hk.2
  ·exact h5 n hn (by omega) hd h0
theorem Pick.take {far : Int -> Int} {done : Int -> Bool} {m a : Int} (h : Pick far done m a) (hm : 1 <= m) (hd : done m = false) (h0 : 0 <= far m) (hl : a = 0 \/ far m < far a) : Pick far done (m + 1) m := by
 refine .inr ⟨hm, by omega, hd, h0, fun n hn hnm hdn hn0 => ?_⟩
 by_cases e : n = m
 ·subst e; omega
 ·rcases h with ⟨g0, g1⟩ | ⟨g1, g2, g3, g4, g5⟩
  ·have := g1 n hn (by omega) hdn; omega
  ·have := g5 n hn (by omega) hdn hn0
   rcases hl with hl | hl <;> omega
def farC (f : Int -> Int) : List AV := [.v (.int .i64 (f 0)), .v (.int .i64 (f 1)), .v (.int .i64 (f 2)), .v (.int .i64 (f 3)), .v (.int .i64 (f 4)), .v (.int .i64 (f 5)), .v (.int .i64 (f 6))]
def donC (f : Int -> Bool) : List AV := [.v (.bool (f 0)), .v (.bool (f 1)), .v (.bool (f 2)), .v (.bool (f 3)), .v (.bool (f 4)), .v (.bool (f 5)), .v (.bool (f 6))]
theorem DInv.start {M : Int -> Int -> Int} {r : Int} (hr : nod r) : DInv M r (upd (fun _ => -1) r 0) (fun _ => 0) (fun _ => false) := by
 refine ⟨hr, zap _ _ _, fun _ n hn => ⟨rfl, fun h => by rw [zbD _ _ h]; decide⟩, fun n hn hne h0 => ?_, fun u hu hd => (by cases hd), fun u hu hd => (by cases hd)⟩
 rw [zbD _ _ hne] at h0; omega
theorem ziS (f : Int -> Bool) : zc8 f <= 6 := by
 unfold zc8
 exact List.countP_le_length
theorem DInv.hop {M : Int -> Int -> Int} {r : Int} {far next : Int -> Int} {done : Int -> Bool} (h : DInv M r far next done) (hend : ∀ n, nod n -> done n = false -> far n < 0) {n : Int} (hn : nod n) : zje M r n = if n ≠ r /\ 0 <= far n then [(n, far n, next n)] else [] := by
 unfold zje
 by_cases e : n = r
 ·subst e
  rw [zjT, if_neg (by simp)]
 ·obtain ⟨h1, h2⟩ := h.best hend hn e
  by_cases h0 : 0 <= far n
  ·rw [ziu (h1 h0), if_pos ⟨e, h0⟩]
  ·rw [zjF (h2 h0), if_neg (by simp [h0])]
def pickA (l : List St3) (r : Int) (far next : Int -> Int) (done : Int -> Bool) (m a : Int) : AS := ⟨[(0, .sl 3 (l.map zaF) none), (1, .v (.int .i64 r)), (5, .box 0 0), (6, .box 1 0), (7, .box 2 0), (9, .v (.int .i64 a)), (10, .v (.int .i64 m))], [.cells (farC far), .cells (farC next), .cells (donC done)]⟩
def relA (l : List St3) (r a : Int) (done : Int -> Bool) (m : Int) (far next : Int -> Int) : AS := ⟨[(0, .sl 3 (l.map zaF) none), (1, .v (.int .i64 r)), (5, .box 0 0), (6, .box 1 0), (7, .box 2 0), (9, .v (.int .i64 a)), (11, .v (.int .i64 m))], [.cells (farC far), .cells (farC next), .cells (donC done)]⟩
theorem zlB {k : Nat} {fr : List (Nat × AV)} {mem : List Res} (q : Nat) {E sz g : Nat} (id j : Nat) (l : List AV) (hq : mem[q]? = some (.grow E sz g)) (hne : q ≠ id) (hid : mem[id]? = some (.cells l)) (hj : l[j]? = some (.v (.slice none 0 0))) :
  AS.le k ⟨fr, mem⟩ ⟨fr, (mem.set q (.grow E sz (g + 1))).set id (.cells (l.set j (.sl sz [] (some (q, g + 1)))))⟩ := by
 intro n fp w0 σ μ Ds a w hk hr
 have hlt : q < mem.length := (List.getElem?_eq_some_iff.1 hq).1
 obtain ⟨ao, m, cap, xs, h1, _⟩ := hr.mem.ok q _ hq
 have hu := hr.upd (id := q) (r := .grow E sz (g + 1)) (D := fun _ => False) (an := .cur none 0 0 (g + 1)) (σ' := σ) (w' := w) (Nat.le_of_lt hlt) (Nat.le_refl _) rfl rfl rfl (fun b hb hd => ⟨rfl, fun o => rfl⟩) (fun b o y hy => hy) hr.agree
  ⟨none, 0, 0, [], updG_self, ⟨by simp, .inl ⟨rfl, rfl⟩⟩, fun k hk => hk.elim, fun k => ⟨fun h => h.elim, fun h => by cases h⟩⟩
  (fun b hb => hb.elim) (fun a ha => by rw [h1] at ha; obtain rfl := Option.some.inj ha; exact ⟨by omega, fun e => by omega⟩)
 have hp : putR mem q (.grow E sz (g + 1)) = mem.set q (.grow E sz (g + 1)) := by unfold putR; rw [if_pos hlt]
 rw [show (⟨fr, mem⟩ : AS).mem = mem from rfl, hp] at hu
 exact ⟨_, _, _, hu.recell (id := id) (j := j) (by show (mem.set q _)[id]? = _; rw [List.getElem?_set_ne hne]; exact hid) hj (fun x hx => by rw [hx.inv_v]; exact zoU updG_self (An.le_refl _))⟩
def zhD (P : Program) (k : Nat) (rs : List ResultVar) (r : AV) (m' : List Res) (A : AS) : Prop := ∃ B, AS.le k A B /\ vret P k rs r m' B
theorem fn_ofL {P : Program} (hm : P.follows .mixedOrders = true) (mt : Mut) (cuts : List Nat) {f : FuncId} {fn : Func} {c : Code} {args : List AV} {m : List Res} {r : AV} {m' : List Res} (hf : P.funcs[f]? = some fn) (hb : fn.body = some c) (hname : (fn.name == "runtime.NumGoroutine") = false)
  {n : Nat} (hn : fn.ntmps = n) (hle : Nat.ble args.length n = true) {rs : List ResultVar} (hrs : fn.results.toList = rs) (h0 : gen0 m = true) (hok : zbf P n c = true)
  (h : vawp P mt m.length cuts c (zhD P m.length rs r m') (fun _ _ => False) (zhD P m.length rs r m') ⟨zel 0 args, m⟩) : Fn P f args m r m' := by
 subst hn hrs
 refine ⟨⟨fn, hf, by rw [hb]; rfl, hname⟩, fun w σ μ Ds vs hag hmem hlen hargs => ?_⟩
 have hle := Nat.le_of_ble_eq_true hle
 refine calls_of_wp hf hb ?_
 let w0 : Start := ⟨w, σ, μ, m.length, fun i ao n cap g hi => by
  have hlt : i < m.length := by
   exact Y75
  obtain ⟨z1, z2⟩ := zdc h0 i _ (List.getElem?_eq_getElem hlt)
  obtain ⟨an, x1, x2⟩ := MemOk.an (A := ⟨[], m⟩) hmem (List.getElem?_eq_getElem hlt) z1
  rw [hi] at x1
  obtain rfl := Option.some.inj x1
  rcases x2 with ⟨v, e, _⟩ | ⟨_, _, _, gA, e, hg⟩
  ·cases e
  ·cases e
   rw [hg] at z2
   exact z2⟩
 have hrel : Rel fn.ntmps (fun b => ∃ id, Ds id b) w0 σ μ Ds ⟨zel 0 args, m⟩ { tmps := vs ++ Array.replicate (fn.ntmps - vs.size) undef, defers := [] } w := by
  exact Y15
 refine wp_mono (za9 hm rfl c hok hrel h) ?_
 have fin : ∀ a' w', zga fn.ntmps (fun b => ∃ id, Ds id b) w0 (zhD P m.length fn.results.toList r m') a' w' -> a'.defers = [] /\ ∃ v, (results fn a'.tmps).run P w' = .ok v w' ∧
   ∃ x σ' μ' Ds', (Ending.returned v : Ending) = .returned x /\ Post σ μ Ds w r m' x σ' μ' Ds' w' := by
  rintro a' w' ⟨A0, σ0, μ0, Ds0, ⟨A, hAB, hr⟩, hrel0⟩
  obtain ⟨σ', μ', Ds', hrel⟩ := hAB _ _ w0 σ0 μ0 Ds0 a' w' rfl hrel0
  obtain ⟨x, v, h1, h2, ρ, hnd, hp, hM, hK⟩ := zjg hrel hr
  refine ⟨hrel.defers, x, h1, x, σ', subG μ' ρ m', subD Ds' ρ m', rfl, ⟨h2.sub hrel.mem hK, hrel.mem.sub (of_decide_eq_true hnd) hM, zgE hrel hp hM, hrel.agree, hrel.keeps, fun b o hb hf => hrel.old b o hb hf, hrel.mono, fun id b hb => ?_⟩⟩
  obtain ⟨⟨i, _, h4⟩, _⟩ := hb
  exact hrel.own i b h4
 intro e a' w' he
 cases e with
 | normal => exact fin a' w' he
 | ret => exact fin a' w' he
 | exit id => obtain ⟨A, σ', μ, Ds, hr, hrel⟩ := he; exact hr.elim
 | _ => exact he.elim
def findC : List (Nat × Code) -> Nat -> Option Code
 | [], _ => none
 | (i, c) :: l, j => match Nat.beq i j with
  | true => some c
  | false => findC l j
noncomputable def reb (L : List (Nat × Code)) (c : Code) : Code :=
 Code.rec (motive := fun _ => Code) .skip (fun id ops d => .region id ops d) (fun _ _ a b => .seq a b) (fun o _ _ a b => .cond o a b) (fun id _ a => .block id a)
  (fun c a => match zen c with
   | some i => match findC L i with
    | some c' => .loop c'
    | none => .loop a
   | none => .loop a)
  (fun f ps _ _ a b => .rangeFunc f ps a b) (fun id => .exit id) (fun _ a => .scope a) (fun l => .label l) (fun l => .goto l) .ret (fun w => .refuse w) c
noncomputable def zgZ (f : Func) : Code := f.body.getD .skip
theorem named_ok {P : Program} {n : Nat} {f : Func} {L : List (Nat × Code)} (hb : f.body = some (reb L (zgZ f))) (hk : zbf P n (zgZ f) = true) : zbf P n (reb L (zgZ f)) = true := by
 have e : zgZ f = reb L (zgZ f) := by
  conv => lhs; unfold zgZ; rw [hb]
  rfl
 rw [<- e]; exact hk
theorem zds {P : Program} {mt : Mut} {k : Nat} {cuts : List Nat} {c c' : Code} {K : AS -> Prop} {X : Nat -> AS -> Prop} {R : AS -> Prop} {A : AS} (hc : c = c') (h : vawp P mt k cuts c' K X R A) : vawp P mt k cuts c K X R A := by
 subst hc
 exact h
theorem lpG2 {α β : Type} {k : Nat} {step : (AS -> Prop) -> AS -> Prop} {A : AS} (B : α -> β -> AS) (ok : α -> β -> Prop) (meas : α -> β -> Nat) (a : α) (b : β) (h0 : ok a b) (hle : AS.le k A (B a b))
  (hr : ∀ a b, ok a b -> step (fun B' => ∃ m' B'', m' < meas a b /\ AS.le k B' B'' /\ ∃ a b, ok a b /\ meas a b = m' /\ B a b = B'') (B a b)) : StopLoop k step A :=
 ⟨fun m A' => ∃ a b, ok a b /\ meas a b = m /\ B a b = A', ⟨meas a b, B a b, hle, a, b, h0, rfl, rfl⟩, fun m A' ⟨a, b, hs, hm, hB⟩ => by subst hm hB; exact hr a b hs⟩
theorem za1 {α β : Type} {k m : Nat} {B' : AS} {B : α -> β -> AS} {ok : α -> β -> Prop} {meas : α -> β -> Nat} (a : α) (b : β) (hok : ok a b) (hlt : meas a b < m) (hle : AS.le k B' (B a b)) :
  ∃ m' B'', m' < m /\ AS.le k B' B'' /\ ∃ a b, ok a b /\ meas a b = m' /\ B a b = B'' := ⟨_, _, hlt, hle, a, b, hok, rfl, rfl⟩
theorem lpG3 {α β γ : Type} {k : Nat} {step : (AS -> Prop) -> AS -> Prop} {A : AS} (B : α -> β -> γ -> AS) (ok : α -> β -> γ -> Prop) (meas : α -> β -> γ -> Nat) (a : α) (b : β) (c : γ) (h0 : ok a b c) (hle : AS.le k A (B a b c))
  (hr : ∀ a b c, ok a b c -> step (fun B' => ∃ m' B'', m' < meas a b c /\ AS.le k B' B'' /\ ∃ a b c, ok a b c /\ meas a b c = m' /\ B a b c = B'') (B a b c)) : StopLoop k step A :=
 ⟨fun m A' => ∃ a b c, ok a b c /\ meas a b c = m /\ B a b c = A', ⟨meas a b c, B a b c, hle, a, b, c, h0, rfl, rfl⟩, fun m A' ⟨a, b, c, hs, hm, hB⟩ => by subst hm hB; exact hr a b c hs⟩
theorem zkx {α β γ : Type} {k m : Nat} {B' : AS} {B : α -> β -> γ -> AS} {ok : α -> β -> γ -> Prop} {meas : α -> β -> γ -> Nat} (a : α) (b : β) (c : γ) (hok : ok a b c) (hlt : meas a b c < m) (hle : AS.le k B' (B a b c)) :
  ∃ m' B'', m' < m /\ AS.le k B' B'' /\ ∃ a b c, ok a b c /\ meas a b c = m' /\ B a b c = B'' := ⟨_, _, hlt, hle, a, b, c, hok, rfl, rfl⟩
theorem and255 {x : Int} (h0 : 0 <= x) (h : x < 4294967296) : IntKind.i64.wrap ((BitVec.ofInt IntKind.i64.bits x &&& BitVec.ofInt IntKind.i64.bits 255).toNat : Int) = x % 256 := by
 have e : x = ((x.toNat : Nat) : Int) := by omega
 rw [e, show (255 : Int) = ((255 : Nat) : Int) from rfl, and64 (by omega) (by decide)]
 have := Nat.and_two_pow_sub_one_eq_mod x.toNat 8
 rw [show (2 : Nat) ^ 8 - 1 = 255 from rfl] at this
 rw [this]; omega
theorem foL {P : Program} (hm : P.follows .mixedOrders = true) (mt : Mut) (cuts : List Nat) {f : FuncId} {fn : Func} {c : Code} {args : List AV} {m : List Res} {r : AV} {m' : List Res} (hf : P.funcs[f]? = some fn) {n : Nat} (hn : fn.ntmps = n) {rs : Array ResultVar} (hrs : fn.results = rs) (h : vawp P mt m.length cuts c (zhD P m.length rs.toList r m') (fun _ _ => False) (zhD P m.length rs.toList r m') ⟨zel 0 args, m⟩) (hb : fn.body = some c := by exact rfl) (hname : (fn.name == "runtime.NumGoroutine") = false := by decide +kernel) (hle : Nat.ble args.length n = true := by exact rfl) (h0 : gen0 m = true := by exact rfl) (hok : zbf P n c = true := by decide +kernel) : Fn P f args m r m' := fn_ofL hm mt cuts hf hb hname hn hle (congrArg Array.toList hrs) h0 hok h
def outA (r : Int) (far next : Int -> Int) (out : List Hp) (n : Int) : AS := ⟨[(1, .v (.int .i64 r)), (5, .box 0 0), (6, .box 1 0), (14, .sl 3 (out.map hRow) (some (2, 1))), (15, .v (.int .i64 n))], [.cells (farC far), .cells (farC next), .grow 79 3 1]⟩
theorem zm2 (r : Int) (far next : Int -> Int) (out : List Hp) (hout : out.length <= 6) (n : Int) (h1 : 1 <= n) (h6 : n <= 6) (K : AS -> Prop) (X : Nat -> AS -> Prop) (R : AS -> Prop)
  (hk : ∀ A, AS.le 0 A (outA r far next (out ++ (if n ≠ r /\ 0 <= far n then [(n, far n, next n)] else [])) (n + 1)) -> K A) :
  vawp Tryz.prog [] 0 [8, 11, 19] (zdy Tryz.f39 4) K X R (outA r far next out n) := by
 by_cases hc : n ≠ r /\ 0 <= far n
 ·rw [if_pos hc] at hk
  refine or6 (by omega : n = 1 \/ n = 2 \/ n = 3 \/ n = 4 \/ n = 5 \/ n = 6) (fun en => ?_) (fun en => ?_) (fun en => ?_) (fun en => ?_) (fun en => ?_) (fun en => ?_)
  all_goals
   subst en
   ((all_goals (try (repeat' (conv => whnf); (first | with_reducible refine And.intro ?_ ?_ | with_reducible exact True.intro | (intro h; (first | cases h | ((try simp only [vis, Int.reduceToNat] at h); (try (exfalso; omega))))) | (with_reducible refine Vc.mk ?_; fail) | (with_reducible refine cutG ?_; fail) | refine zal ?_ ?_ | refine za2 ?_ ?_ ?_ | (refine StopAt.mk (by decide) (by decide) ?_))))); (all_goals (first | omega | (conv => whnf) | skip)))
   all_goals (try ((with_reducible refine Vc.mk ?_);(try exact GLt)))
   all_goals (refine hk _ ?_; (refine zaC [0, 1, 2] ?_;repeat' first|exact .intro|refine Tw.mk ?_ ?_); all_goals (all_goals (try first | rfl | (simp [hRow, viewR, viewL, AV.view]; done))))
 ·rw [if_neg hc] at hk
  refine or6 (by omega : n = 1 \/ n = 2 \/ n = 3 \/ n = 4 \/ n = 5 \/ n = 6) (fun en => ?_) (fun en => ?_) (fun en => ?_) (fun en => ?_) (fun en => ?_) (fun en => ?_)
  all_goals
   subst en
   ((all_goals (try (repeat' (conv => whnf); (first | with_reducible refine And.intro ?_ ?_ | with_reducible exact True.intro | (intro h; (first | cases h | ((try simp only [vis, Int.reduceToNat] at h); (try (exfalso; omega))))) | (with_reducible refine Vc.mk ?_; fail) | (with_reducible refine cutG ?_; fail) | refine zal ?_ ?_ | refine za2 ?_ ?_ ?_ | (refine StopAt.mk (by decide) (by decide) ?_))))); (all_goals (first | omega | (conv => whnf) | skip)))
   all_goals (try ((with_reducible refine Vc.mk ?_);(try exact GLt)))
   all_goals (refine hk _ ?_; (refine zaC [0, 1, 2] ?_;repeat' first|exact .intro|refine Tw.mk ?_ ?_); all_goals (all_goals (try first | rfl | (simp; done))))
end Go.Proofs.YtimfnpjcedjmiadGreat
namespace Go.Proofs.YtimfnpjcedjmiadGreat
open Go.RowKit Go.ChangeShapes Go.WideShapes Go.ChangeAt Go.Deep
end Go.Proofs.YtimfnpjcedjmiadGreat
namespace Go.Proofs.YtimfnpjcedjmiadGreat
open Go.RowKit
theorem zow (k : Int) (hk : 0 <= k) : Fn Tryz.prog 19 [.err k] [] (.v (.int .i64 k)) [] := by
 refine foA zaA [] [] Tryz.func19 Tryz.ntmps19 Tryz.results19 ?_
 (all_goals refine gv ?_;repeat' first|exact .intro|refine Tw.mk ?_ ?_|(intro h;first|replace h:=h.o|cases h))
 all_goals (((try (conv => whnf));refine StopRet.by [] ?_;repeat' first|exact .intro|refine Tw.mk ?_ ?_))
 all_goals (first | omega | (exfalso; first | omega | simp_all))
end Go.Proofs.YtimfnpjcedjmiadGreat
