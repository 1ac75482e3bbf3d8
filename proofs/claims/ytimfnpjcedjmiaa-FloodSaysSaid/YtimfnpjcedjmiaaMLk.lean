/-
  One end of a link: the program's.
-/
import Derived.Test.YtimfnpjcedjmiaaGF
import Derived.Test.YtimfnpjcedjmiaaLLk
namespace Go.Proofs.Ytimfnpjcedjmiaa
open Go.RowKit
set_option linter.unusedSimpArgs false
set_option linter.unusedVariables false
def pkRow (p : Pk) : List AV := [.v (.int .i64 p.c), .v (.int .i64 p.i), .sl 2 (p.o.map opRow) none]
def pkAV (p : Pk) : AV := .agg (pkRow p)
/-- What an end holds; what is to be sent lies in memory q. -/
def lkC (l : Lk) (q g : Nat) : Res := .cells [.v (.int .i64 l.st), .v (.int .i64 l.left), .v (.int .i64 l.tm), .v (.int .i64 l.id), .v (.int .i64 l.os), .v (.int .i64 l.om), .v (.int .i64 l.ns), .v (.int .i64 l.nm), .sl 2 (l.ask.map opRow) none, .v (.int .i64 l.sz), .sl 3 (l.out.map pkRow) (some (q, g))]
def lkM (l : Lk) (g : Nat) : List Res := [lkC l 1 g, .grow 48 3 g]
set_option maxHeartbeats 4000000 in
set_option maxRecDepth 100000 in
theorem lnew_ok (s m : Int) (h : polOk s m = true) : Fn Try.prog 91 [.v (.int .i64 s), .v (.int .i64 m)] [] (.tup [.box 0 0, .err 0]) (lkM (newL s m) 0) := by
  have hn := new_ok s m
  rw [h] at hn
  simp only [if_true] at hn
  refine fn_ofL mixed [] [] Try.func91 rfl (by decide +kernel) Try.ntmps91 rfl (congrArg Array.toList Try.results91) rfl (by decide +kernel) ?_
  (iterate 2 all_goals (try (repeat' (conv => whnf); (first | with_reducible refine And.intro ?_ ?_ | with_reducible exact True.intro | (intro h; (first | cases h | ((try simp only [vis, Int.reduceToNat] at h); (try (exfalso; omega))))) | (with_reducible refine Vc.mk ?_; fail) | (with_reducible refine cutG ?_; fail) | refine idx_map ?_ ?_ | refine idx_mapI ?_ ?_ ?_ ))))
  (all_goals (try ((first | (refine call0 (hn) ?_ ?_) | (refine pure0 (hn) rfl ?_ ?_)); (· (repeat' (conv => whnf); (first | with_reducible refine And.intro ?_ ?_ | with_reducible exact True.intro | with_reducible exact Or.inl rfl | (refine Vc.mk ?_; (first | exact rfl | exact ⟨rfl, .inl rfl⟩ | omega | skip))))); (iterate 2 all_goals (try (repeat' (conv => whnf); (first | with_reducible refine And.intro ?_ ?_ | with_reducible exact True.intro | (intro h; (first | cases h | ((try simp only [vis, Int.reduceToNat] at h); (try (exfalso; omega))))) | (with_reducible refine Vc.mk ?_; fail) | (with_reducible refine cutG ?_; fail) | refine idx_map ?_ ?_ | refine idx_mapI ?_ ?_ ?_ )))))))
  all_goals (try ((first | with_reducible refine Vc.mk ?_ | refine Vc.mk ?_); (try exact GLt)))
  refine ⟨_, le_nilC 1 10 48 3 _ rfl rfl, ?_⟩
  ((try (conv => whnf)); refine ⟨[1, 2], rfl, rfl, ?_, ?_⟩); (repeat' (conv => whnf); (first | with_reducible refine And.intro ?_ ?_ | with_reducible exact True.intro | with_reducible exact Or.inl rfl | (refine Vc.mk ?_; (first | exact rfl | exact ⟨rfl, .inl rfl⟩ | omega | skip))))
set_option maxRecDepth 100000 in
theorem lnew_no (s m : Int) (h : ¬ polOk s m = true) : Fn Try.prog 91 [.v (.int .i64 s), .v (.int .i64 m)] [] (.tup [.v (.pointer none), .err 1]) [] := by
  have hn := new_ok s m
  rw [if_neg h, if_neg h, if_neg h] at hn
  refine fn_of mixed [] [] Try.func91 rfl (by decide +kernel) Try.ntmps91 rfl (congrArg Array.toList Try.results91) rfl (by decide +kernel) ?_
  (iterate 2 all_goals (try (repeat' (conv => whnf); (first | with_reducible refine And.intro ?_ ?_ | with_reducible exact True.intro | (intro h; (first | cases h | ((try simp only [vis, Int.reduceToNat] at h); (try (exfalso; omega))))) | (with_reducible refine Vc.mk ?_; fail) | (with_reducible refine cutG ?_; fail) | refine idx_map ?_ ?_ | refine idx_mapI ?_ ?_ ?_ ))))
  (all_goals (try ((first | (refine call0 (hn) ?_ ?_) | (refine pure0 (hn) rfl ?_ ?_)); (· (repeat' (conv => whnf); (first | with_reducible refine And.intro ?_ ?_ | with_reducible exact True.intro | with_reducible exact Or.inl rfl | (refine Vc.mk ?_; (first | exact rfl | exact ⟨rfl, .inl rfl⟩ | omega | skip))))); (iterate 2 all_goals (try (repeat' (conv => whnf); (first | with_reducible refine And.intro ?_ ?_ | with_reducible exact True.intro | (intro h; (first | cases h | ((try simp only [vis, Int.reduceToNat] at h); (try (exfalso; omega))))) | (with_reducible refine Vc.mk ?_; fail) | (with_reducible refine cutG ?_; fail) | refine idx_map ?_ ?_ | refine idx_mapI ?_ ?_ ?_ )))))))
  all_goals (try ((first | with_reducible refine Vc.mk ?_ | refine Vc.mk ?_); (try exact GLt)))
  all_goals (((try (conv => whnf)); refine ⟨[], rfl, rfl, ?_, ?_⟩); (repeat' (conv => whnf); (first | with_reducible refine And.intro ?_ ?_ | with_reducible exact True.intro | with_reducible exact Or.inl rfl | (refine Vc.mk ?_; (first | exact rfl | exact ⟨rfl, .inl rfl⟩ | omega | skip)))))
set_option maxRecDepth 100000 in
theorem lstate_ok (l : Lk) : Fn Try.prog 99 [.box 0 0] (lkM l 0) (.v (.int .i64 l.st)) (lkM l 0) := by
  unfold lkM lkC
  refine fn_of mixed [] [] Try.func99 rfl (by decide +kernel) Try.ntmps99 rfl (congrArg Array.toList Try.results99) rfl (by decide +kernel) ?_
  (iterate 2 all_goals (try (repeat' (conv => whnf); (first | with_reducible refine And.intro ?_ ?_ | with_reducible exact True.intro | (intro h; (first | cases h | ((try simp only [vis, Int.reduceToNat] at h); (try (exfalso; omega))))) | (with_reducible refine Vc.mk ?_; fail) | (with_reducible refine cutG ?_; fail) | refine idx_map ?_ ?_ | refine idx_mapI ?_ ?_ ?_ ))))
  ((try (conv => whnf)); refine ⟨[0, 1], rfl, rfl, ?_, ?_⟩); (repeat' (conv => whnf); (first | with_reducible refine And.intro ?_ ?_ | with_reducible exact True.intro | with_reducible exact Or.inl rfl | (refine Vc.mk ?_; (first | exact rfl | exact ⟨rfl, .inl rfl⟩ | omega | skip))))
set_option maxRecDepth 100000 in
theorem lsize_ok (l : Lk) : Fn Try.prog 100 [.box 0 0] (lkM l 0) (.v (.int .i64 l.sz)) (lkM l 0) := by
  unfold lkM lkC
  refine fn_of mixed [] [] Try.func100 rfl (by decide +kernel) Try.ntmps100 rfl (congrArg Array.toList Try.results100) rfl (by decide +kernel) ?_
  (iterate 2 all_goals (try (repeat' (conv => whnf); (first | with_reducible refine And.intro ?_ ?_ | with_reducible exact True.intro | (intro h; (first | cases h | ((try simp only [vis, Int.reduceToNat] at h); (try (exfalso; omega))))) | (with_reducible refine Vc.mk ?_; fail) | (with_reducible refine cutG ?_; fail) | refine idx_map ?_ ?_ | refine idx_mapI ?_ ?_ ?_ ))))
  ((try (conv => whnf)); refine ⟨[0, 1], rfl, rfl, ?_, ?_⟩); (repeat' (conv => whnf); (first | with_reducible refine And.intro ?_ ?_ | with_reducible exact True.intro | with_reducible exact Or.inl rfl | (refine Vc.mk ?_; (first | exact rfl | exact ⟨rfl, .inl rfl⟩ | omega | skip))))
set_option maxRecDepth 100000 in
theorem lout_ok (l : Lk) : Fn Try.prog 102 [.box 0 0] (lkM l 0) (.sl 3 (l.out.map pkRow) none) (lkM (outL l) 1) := by
  unfold lkM lkC
  refine fn_ofL mixed [] [] Try.func102 rfl (by decide +kernel) Try.ntmps102 rfl (congrArg Array.toList Try.results102) rfl (by decide +kernel) ?_
  (iterate 2 all_goals (try (repeat' (conv => whnf); (first | with_reducible refine And.intro ?_ ?_ | with_reducible exact True.intro | (intro h; (first | cases h | ((try simp only [vis, Int.reduceToNat] at h); (try (exfalso; omega))))) | (with_reducible refine Vc.mk ?_; fail) | (with_reducible refine cutG ?_; fail) | refine idx_map ?_ ?_ | refine idx_mapI ?_ ?_ ?_ ))))
  refine ⟨_, le_anewG 1 0 10 _ rfl (by decide) rfl rfl, ?_⟩
  ((try (conv => whnf)); refine ⟨[0, 1], rfl, rfl, ?_, ?_⟩); (repeat' (conv => whnf); (first | with_reducible refine And.intro ?_ ?_ | with_reducible exact True.intro | with_reducible exact Or.inl rfl | (refine Vc.mk ?_; (first | exact rfl | exact ⟨rfl, .inl rfl⟩ | omega | skip))))
set_option maxHeartbeats 4000000 in
set_option maxRecDepth 100000 in
theorem lsend_ok (l : Lk) (c i : Int) (o : List (Int × Int)) (ho : o.length ≤ 1000000) (hl : l.out.length ≤ 1000000) : Fn Try.prog 133 [.box 0 0, .v (.int .i64 c), .v (.int .i64 i), .sl 2 (o.map opRow) none] (lkM l 0) (.tup []) (lkM { l with out := l.out ++ [⟨c, i, o⟩] } 1) := by
  have hc := cloneO_ok (o.map opRow) (by simpa using ho)
  unfold lkM lkC
  refine fn_of mixed [] [] Try.func133 rfl (by decide +kernel) Try.ntmps133 rfl (congrArg Array.toList Try.results133) rfl (by decide +kernel) ?_
  (iterate 2 all_goals (try (repeat' (conv => whnf); (first | with_reducible refine And.intro ?_ ?_ | with_reducible exact True.intro | (intro h; (first | cases h | ((try simp only [vis, Int.reduceToNat] at h); (try (exfalso; omega))))) | (with_reducible refine Vc.mk ?_; fail) | (with_reducible refine cutG ?_; fail) | refine idx_map ?_ ?_ | refine idx_mapI ?_ ?_ ?_ ))))
  (all_goals (try ((first | (refine call0 (hc) ?_ ?_) | (refine pure0 (hc) rfl ?_ ?_)); (· (repeat' (conv => whnf); (first | with_reducible refine And.intro ?_ ?_ | with_reducible exact True.intro | with_reducible exact Or.inl rfl | (refine Vc.mk ?_; (first | exact rfl | exact ⟨rfl, .inl rfl⟩ | omega | skip))))); (iterate 2 all_goals (try (repeat' (conv => whnf); (first | with_reducible refine And.intro ?_ ?_ | with_reducible exact True.intro | (intro h; (first | cases h | ((try simp only [vis, Int.reduceToNat] at h); (try (exfalso; omega))))) | (with_reducible refine Vc.mk ?_; fail) | (with_reducible refine cutG ?_; fail) | refine idx_map ?_ ?_ | refine idx_mapI ?_ ?_ ?_ )))))))
  all_goals (try ((first | with_reducible refine Vc.mk ?_ | refine Vc.mk ?_); (try exact GLt)))
  ((try (conv => whnf)); refine ⟨[0, 1], rfl, rfl, ?_, ?_⟩); (repeat' (conv => whnf); (first | with_reducible refine And.intro ?_ ?_ | with_reducible exact True.intro | with_reducible exact Or.inl rfl | (refine Vc.mk ?_; (first | exact rfl | exact ⟨rfl, .inl rfl⟩ | omega | skip))))
  all_goals (simp [pkRow, viewR, viewL, AV.view])
theorem actL_succ {i c : Int} {a : List (Int × Int)} {l : Lk} {d : List UInt8} {k : Nat} (h : k < d.length) : actL i c a l (d.take (k + 1)) = act1 i c a (actL i c a l (d.take k)) d[k] := by
  unfold actL
  rw [take_succ' h, List.foldl_append]; rfl
theorem byteAt_txk {d : List UInt8} {k : Nat} (h : k < d.length) : byteAt (tx d) k = d[k].toNat := by
  show (d.getD k 0).toNat = _
  simp [List.getD_eq_getElem?_getD, h]
theorem u8_is {b : UInt8} (n : Nat) (hn : n < 256) : (b = UInt8.ofNat n) ↔ b.toNat = n := by
  constructor
  · rintro rfl; simp; omega
  · intro h; rw [← h]; simp
set_option maxHeartbeats 16000000 in
set_option maxRecDepth 100000 in
theorem lact_ok (l : Lk) (h : l.ok 1000) (d : List UInt8) (hd : d.length ≤ 1000) (hb : ∀ b ∈ d, b.toNat < 128) (x i c : Int) (o a : List (Int × Int)) (ha : a.length ≤ 1000000) :
    Fn Try.prog 132 [.box 0 0, .v (.string (tx d)), .agg [.v (.int .i64 x), .v (.int .i64 i), .sl 2 (o.map opRow) none], .v (.int .i64 c), .sl 2 (a.map opRow) none] (lkM l 0) (.tup []) (lkM (actL i c a l d) 1) := by
  have hsz : (tx d).size = d.length := rfl
  unfold lkM lkC
  refine fn_of mixed [] [] Try.func132 rfl (by decide +kernel) Try.ntmps132 rfl (congrArg Array.toList Try.results132) rfl (by decide +kernel) ?_
  (iterate 2 all_goals (try (repeat' (conv => whnf); (first | with_reducible refine And.intro ?_ ?_ | with_reducible exact True.intro | (intro h; (first | cases h | ((try simp only [vis, Int.reduceToNat] at h); (try (exfalso; omega))))) | (with_reducible refine Vc.mk ?_; fail) | (with_reducible refine cutG ?_; fail) | refine idx_map ?_ ?_ | refine idx_mapI ?_ ?_ ?_ ))))
  refine lpG (fun k : Nat => ⟨[(0, .box 0 0), (3, .v (.int .i64 c)), (4, .sl 2 (a.map opRow) none), (7, .box 2 0), (13, .box 3 0)], [lkC (actL i c a l (d.take k)) 1 1, .grow 48 3 1, .cells [.v (.int .i64 x), .v (.int .i64 i), .sl 2 (o.map opRow) none], .siter (tx d) k]⟩) (fun k => k ≤ d.length) (fun k => d.length - k) 0 (by omega) (by unfold lkC; (refine le_sub [0, 1, 2, 3] rfl rfl ?_ ?_); all_goals ((repeat' (conv => whnf); (first | with_reducible refine And.intro ?_ ?_ | with_reducible exact True.intro | with_reducible exact Or.inl rfl | (refine Vc.mk ?_; (first | exact rfl | exact ⟨rfl, .inl rfl⟩ | omega | skip)))); all_goals (try rfl))) ?_
  intro k hk
  by_cases hk' : k < d.length
  · have hbt := byteAt_txk hk'
    have hb1 := hb d[k] (List.getElem_mem hk')
    have hS := actL_succ (i := i) (c := c) (a := a) (l := l) hk'
    have hok := actL_ok (i := i) (c := c) (a := a) (d := d.take k) h (by decide)
    rw [List.length_take] at hok
    generalize actL i c a l (d.take k) = q at *
    generalize d[k] = b at *
    obtain ⟨g1, g2, g3, g4, g5, g6, g7, g8, g9, g10, g11, g12, g13, g14, g15, g16, g17⟩ := hok.mono (j := 2000) (by omega)
    have hid := and255 (x := q.id + 1) (by omega) (by omega)
    unfold act1 at hS
    unfold lkC
    by_cases c1 : b = 105
    · have c1' : b.toNat = 105 := by rw [c1]; rfl
      rw [if_pos c1] at hS
      (iterate 2 all_goals (try (repeat' (conv => whnf); (first | with_reducible refine And.intro ?_ ?_ | with_reducible exact True.intro | (intro h; (first | cases h | ((try simp only [vis, Int.reduceToNat] at h); (try (exfalso; omega))))) | (with_reducible refine Vc.mk ?_; fail) | (with_reducible refine cutG ?_; fail) | refine idx_map ?_ ?_ | refine idx_mapI ?_ ?_ ?_ ))))
      all_goals (try omega)
      all_goals (try ((first | with_reducible refine Vc.mk ?_ | refine Vc.mk ?_); (try exact GLt)))
      all_goals (refine nextG (k + 1) (by omega) (by omega) (by rw [hS]; (refine le_sub [0, 1, 2, 3] rfl rfl ?_ ?_); all_goals ((repeat' (conv => whnf); (first | with_reducible refine And.intro ?_ ?_ | with_reducible exact True.intro | with_reducible exact Or.inl rfl | (refine Vc.mk ?_; (first | exact rfl | exact ⟨rfl, .inl rfl⟩ | omega | skip)))); all_goals (try rfl))))
    rw [if_neg c1] at hS
    have d1 : ¬ b.toNat = 105 := fun e => c1 ((u8_is 105 (by decide)).2 e)
    by_cases c2 : b = 122
    · have c2' : b.toNat = 122 := by rw [c2]; rfl
      rw [if_pos c2] at hS
      (iterate 2 all_goals (try (repeat' (conv => whnf); (first | with_reducible refine And.intro ?_ ?_ | with_reducible exact True.intro | (intro h; (first | cases h | ((try simp only [vis, Int.reduceToNat] at h); (try (exfalso; omega))))) | (with_reducible refine Vc.mk ?_; fail) | (with_reducible refine cutG ?_; fail) | refine idx_map ?_ ?_ | refine idx_mapI ?_ ?_ ?_ ))))
      all_goals (try omega)
      all_goals (try ((first | with_reducible refine Vc.mk ?_ | refine Vc.mk ?_); (try exact GLt)))
      all_goals (refine nextG (k + 1) (by omega) (by omega) (by rw [hS]; (refine le_sub [0, 1, 2, 3] rfl rfl ?_ ?_); all_goals ((repeat' (conv => whnf); (first | with_reducible refine And.intro ?_ ?_ | with_reducible exact True.intro | with_reducible exact Or.inl rfl | (refine Vc.mk ?_; (first | exact rfl | exact ⟨rfl, .inl rfl⟩ | omega | skip)))); all_goals (try rfl))))
    rw [if_neg c2] at hS
    have d2 : ¬ b.toNat = 122 := fun e => c2 ((u8_is 122 (by decide)).2 e)
    by_cases c3 : b = 114
    · have c3' : b.toNat = 114 := by rw [c3]; rfl
      rw [if_pos c3] at hS
      have hsend := lsend_ok { q with id := (q.id + 1) % 256, ask := asks q.ns q.nm, left := q.left - 1, tm := 3 } 1 ((q.id + 1) % 256) (asks q.ns q.nm) (by have := asks_len (s := q.ns) (m := q.nm); omega) (by show q.out.length ≤ 1000000; omega)
      have hasks := asks_ok q.ns q.nm
      unfold lkM lkC at hsend
      (iterate 2 all_goals (try (repeat' (conv => whnf); (first | with_reducible refine And.intro ?_ ?_ | with_reducible exact True.intro | (intro h; (first | cases h | ((try simp only [vis, Int.reduceToNat] at h); (try (exfalso; omega))))) | (with_reducible refine Vc.mk ?_; fail) | (with_reducible refine cutG ?_; fail) | refine idx_map ?_ ?_ | refine idx_mapI ?_ ?_ ?_ ))))
      all_goals (try omega)
      all_goals (try ((first | with_reducible refine Vc.mk ?_ | refine Vc.mk ?_); (try exact GLt)))
      (all_goals (try ((first | (refine call0 (hasks) ?_ ?_) | (refine pure0 (hasks) rfl ?_ ?_)); (· (repeat' (conv => whnf); (first | with_reducible refine And.intro ?_ ?_ | with_reducible exact True.intro | with_reducible exact Or.inl rfl | (refine Vc.mk ?_; (first | exact rfl | exact ⟨rfl, .inl rfl⟩ | omega | skip))))); (iterate 2 all_goals (try (repeat' (conv => whnf); (first | with_reducible refine And.intro ?_ ?_ | with_reducible exact True.intro | (intro h; (first | cases h | ((try simp only [vis, Int.reduceToNat] at h); (try (exfalso; omega))))) | (with_reducible refine Vc.mk ?_; fail) | (with_reducible refine cutG ?_; fail) | refine idx_map ?_ ?_ | refine idx_mapI ?_ ?_ ?_ )))))))
      all_goals (try omega)
      all_goals (try ((first | with_reducible refine Vc.mk ?_ | refine Vc.mk ?_); (try exact GLt)))
      all_goals ((refine ⟨_, _, _, _, [0, 1], hsend, rfl, rfl, rfl, ?_, ?_, ?_⟩); (· ((repeat' (conv => whnf); (first | with_reducible refine And.intro ?_ ?_ | with_reducible exact True.intro | with_reducible exact Or.inl rfl | (refine Vc.mk ?_; (first | exact rfl | exact ⟨rfl, .inl rfl⟩ | omega | skip)))); all_goals (try exact hid))); (· ((repeat' (conv => whnf); (first | with_reducible refine And.intro ?_ ?_ | with_reducible exact True.intro | with_reducible exact Or.inl rfl | (refine Vc.mk ?_; (first | exact rfl | exact ⟨rfl, .inl rfl⟩ | omega | skip)))); all_goals (try exact hid))); (iterate 2 all_goals (try (repeat' (conv => whnf); (first | with_reducible refine And.intro ?_ ?_ | with_reducible exact True.intro | (intro h; (first | cases h | ((try simp only [vis, Int.reduceToNat] at h); (try (exfalso; omega))))) | (with_reducible refine Vc.mk ?_; fail) | (with_reducible refine cutG ?_; fail) | refine idx_map ?_ ?_ | refine idx_mapI ?_ ?_ ?_ )))))
      all_goals (refine nextG (k + 1) (by omega) (by omega) (by rw [hS]; (refine le_sub [0, 1, 2, 3] rfl rfl ?_ ?_); all_goals ((repeat' (conv => whnf); (first | with_reducible refine And.intro ?_ ?_ | with_reducible exact True.intro | with_reducible exact Or.inl rfl | (refine Vc.mk ?_; (first | exact rfl | exact ⟨rfl, .inl rfl⟩ | omega | skip)))); all_goals (try rfl))))
    rw [if_neg c3] at hS
    have d3 : ¬ b.toNat = 114 := fun e => c3 ((u8_is 114 (by decide)).2 e)
    by_cases c4 : b = 97 ∨ b = 110
    · have c4' : b.toNat = 97 ∨ b.toNat = 110 := by
        rcases c4 with e | e
        · left; rw [e]; rfl
        · right; rw [e]; rfl
      rw [if_pos c4] at hS
      have hsend := lsend_ok q c i a ha (by omega)
      unfold lkM lkC at hsend
      (iterate 2 all_goals (try (repeat' (conv => whnf); (first | with_reducible refine And.intro ?_ ?_ | with_reducible exact True.intro | (intro h; (first | cases h | ((try simp only [vis, Int.reduceToNat] at h); (try (exfalso; omega))))) | (with_reducible refine Vc.mk ?_; fail) | (with_reducible refine cutG ?_; fail) | refine idx_map ?_ ?_ | refine idx_mapI ?_ ?_ ?_ ))))
      all_goals (try omega)
      all_goals (try ((first | with_reducible refine Vc.mk ?_ | refine Vc.mk ?_); (try exact GLt)))
      all_goals ((refine ⟨_, _, _, _, [0, 1], hsend, rfl, rfl, rfl, ?_, ?_, ?_⟩); (· (repeat' (conv => whnf); (first | with_reducible refine And.intro ?_ ?_ | with_reducible exact True.intro | with_reducible exact Or.inl rfl | (refine Vc.mk ?_; (first | exact rfl | exact ⟨rfl, .inl rfl⟩ | omega | skip))))); (· (repeat' (conv => whnf); (first | with_reducible refine And.intro ?_ ?_ | with_reducible exact True.intro | with_reducible exact Or.inl rfl | (refine Vc.mk ?_; (first | exact rfl | exact ⟨rfl, .inl rfl⟩ | omega | skip))))); (iterate 2 all_goals (try (repeat' (conv => whnf); (first | with_reducible refine And.intro ?_ ?_ | with_reducible exact True.intro | (intro h; (first | cases h | ((try simp only [vis, Int.reduceToNat] at h); (try (exfalso; omega))))) | (with_reducible refine Vc.mk ?_; fail) | (with_reducible refine cutG ?_; fail) | refine idx_map ?_ ?_ | refine idx_mapI ?_ ?_ ?_ )))))
      all_goals (refine nextG (k + 1) (by omega) (by omega) (by rw [hS]; (refine le_sub [0, 1, 2, 3] rfl rfl ?_ ?_); all_goals ((repeat' (conv => whnf); (first | with_reducible refine And.intro ?_ ?_ | with_reducible exact True.intro | with_reducible exact Or.inl rfl | (refine Vc.mk ?_; (first | exact rfl | exact ⟨rfl, .inl rfl⟩ | omega | skip)))); all_goals (try rfl))))
    rw [if_neg c4] at hS
    have d4 : ¬ b.toNat = 97 := fun e => c4 (.inl ((u8_is 97 (by decide)).2 e))
    have d5 : ¬ b.toNat = 110 := fun e => c4 (.inr ((u8_is 110 (by decide)).2 e))
    by_cases c5 : b = 116
    · have c5' : b.toNat = 116 := by rw [c5]; rfl
      rw [if_pos c5] at hS
      have hsend := lsend_ok { q with id := (q.id + 1) % 256, left := q.left - 1, tm := 3 } 5 ((q.id + 1) % 256) [] (by decide) (by show q.out.length ≤ 1000000; omega)
      unfold lkM lkC at hsend
      (iterate 2 all_goals (try (repeat' (conv => whnf); (first | with_reducible refine And.intro ?_ ?_ | with_reducible exact True.intro | (intro h; (first | cases h | ((try simp only [vis, Int.reduceToNat] at h); (try (exfalso; omega))))) | (with_reducible refine Vc.mk ?_; fail) | (with_reducible refine cutG ?_; fail) | refine idx_map ?_ ?_ | refine idx_mapI ?_ ?_ ?_ ))))
      all_goals (try omega)
      all_goals (try ((first | with_reducible refine Vc.mk ?_ | refine Vc.mk ?_); (try exact GLt)))
      all_goals ((refine ⟨_, _, _, _, [0, 1], hsend, rfl, rfl, rfl, ?_, ?_, ?_⟩); (· ((repeat' (conv => whnf); (first | with_reducible refine And.intro ?_ ?_ | with_reducible exact True.intro | with_reducible exact Or.inl rfl | (refine Vc.mk ?_; (first | exact rfl | exact ⟨rfl, .inl rfl⟩ | omega | skip)))); all_goals (try exact hid))); (· ((repeat' (conv => whnf); (first | with_reducible refine And.intro ?_ ?_ | with_reducible exact True.intro | with_reducible exact Or.inl rfl | (refine Vc.mk ?_; (first | exact rfl | exact ⟨rfl, .inl rfl⟩ | omega | skip)))); all_goals (try exact hid))); (iterate 2 all_goals (try (repeat' (conv => whnf); (first | with_reducible refine And.intro ?_ ?_ | with_reducible exact True.intro | (intro h; (first | cases h | ((try simp only [vis, Int.reduceToNat] at h); (try (exfalso; omega))))) | (with_reducible refine Vc.mk ?_; fail) | (with_reducible refine cutG ?_; fail) | refine idx_map ?_ ?_ | refine idx_mapI ?_ ?_ ?_ )))))
      all_goals (refine nextG (k + 1) (by omega) (by omega) (by rw [hS]; (refine le_sub [0, 1, 2, 3] rfl rfl ?_ ?_); all_goals ((repeat' (conv => whnf); (first | with_reducible refine And.intro ?_ ?_ | with_reducible exact True.intro | with_reducible exact Or.inl rfl | (refine Vc.mk ?_; (first | exact rfl | exact ⟨rfl, .inl rfl⟩ | omega | skip)))); all_goals (try rfl))))
    rw [if_neg c5] at hS
    have d6 : ¬ b.toNat = 116 := fun e => c5 ((u8_is 116 (by decide)).2 e)
    by_cases c6 : b = 107
    · have c6' : b.toNat = 107 := by rw [c6]; rfl
      rw [if_pos c6] at hS
      have hsend := lsend_ok q 6 i [] (by decide) (by omega)
      unfold lkM lkC at hsend
      (iterate 2 all_goals (try (repeat' (conv => whnf); (first | with_reducible refine And.intro ?_ ?_ | with_reducible exact True.intro | (intro h; (first | cases h | ((try simp only [vis, Int.reduceToNat] at h); (try (exfalso; omega))))) | (with_reducible refine Vc.mk ?_; fail) | (with_reducible refine cutG ?_; fail) | refine idx_map ?_ ?_ | refine idx_mapI ?_ ?_ ?_ ))))
      all_goals (try omega)
      all_goals (try ((first | with_reducible refine Vc.mk ?_ | refine Vc.mk ?_); (try exact GLt)))
      all_goals ((refine ⟨_, _, _, _, [0, 1], hsend, rfl, rfl, rfl, ?_, ?_, ?_⟩); (· (repeat' (conv => whnf); (first | with_reducible refine And.intro ?_ ?_ | with_reducible exact True.intro | with_reducible exact Or.inl rfl | (refine Vc.mk ?_; (first | exact rfl | exact ⟨rfl, .inl rfl⟩ | omega | skip))))); (· (repeat' (conv => whnf); (first | with_reducible refine And.intro ?_ ?_ | with_reducible exact True.intro | with_reducible exact Or.inl rfl | (refine Vc.mk ?_; (first | exact rfl | exact ⟨rfl, .inl rfl⟩ | omega | skip))))); (iterate 2 all_goals (try (repeat' (conv => whnf); (first | with_reducible refine And.intro ?_ ?_ | with_reducible exact True.intro | (intro h; (first | cases h | ((try simp only [vis, Int.reduceToNat] at h); (try (exfalso; omega))))) | (with_reducible refine Vc.mk ?_; fail) | (with_reducible refine cutG ?_; fail) | refine idx_map ?_ ?_ | refine idx_mapI ?_ ?_ ?_ )))))
      all_goals (refine nextG (k + 1) (by omega) (by omega) (by rw [hS]; (refine le_sub [0, 1, 2, 3] rfl rfl ?_ ?_); all_goals ((repeat' (conv => whnf); (first | with_reducible refine And.intro ?_ ?_ | with_reducible exact True.intro | with_reducible exact Or.inl rfl | (refine Vc.mk ?_; (first | exact rfl | exact ⟨rfl, .inl rfl⟩ | omega | skip)))); all_goals (try rfl))))
    rw [if_neg c6] at hS
    have d7 : ¬ b.toNat = 107 := fun e => c6 ((u8_is 107 (by decide)).2 e)
    (iterate 2 all_goals (try (repeat' (conv => whnf); (first | with_reducible refine And.intro ?_ ?_ | with_reducible exact True.intro | (intro h; (first | cases h | ((try simp only [vis, Int.reduceToNat] at h); (try (exfalso; omega))))) | (with_reducible refine Vc.mk ?_; fail) | (with_reducible refine cutG ?_; fail) | refine idx_map ?_ ?_ | refine idx_mapI ?_ ?_ ?_ ))))
    all_goals (try omega)
    all_goals (try ((first | with_reducible refine Vc.mk ?_ | refine Vc.mk ?_); (try exact GLt)))
    all_goals (refine nextG (k + 1) (by omega) (by omega) (by rw [hS]; (refine le_sub [0, 1, 2, 3] rfl rfl ?_ ?_); all_goals ((repeat' (conv => whnf); (first | with_reducible refine And.intro ?_ ?_ | with_reducible exact True.intro | with_reducible exact Or.inl rfl | (refine Vc.mk ?_; (first | exact rfl | exact ⟨rfl, .inl rfl⟩ | omega | skip)))); all_goals (try rfl))))
  · have ek : k = d.length := by omega
    subst ek
    rw [List.take_length]
    unfold lkC
    (iterate 2 all_goals (try (repeat' (conv => whnf); (first | with_reducible refine And.intro ?_ ?_ | with_reducible exact True.intro | (intro h; (first | cases h | ((try simp only [vis, Int.reduceToNat] at h); (try (exfalso; omega))))) | (with_reducible refine Vc.mk ?_; fail) | (with_reducible refine cutG ?_; fail) | refine idx_map ?_ ?_ | refine idx_mapI ?_ ?_ ?_ ))))
    all_goals (try omega)
    all_goals (((try (conv => whnf)); refine ⟨[0, 1], rfl, rfl, ?_, ?_⟩); (repeat' (conv => whnf); (first | with_reducible refine And.intro ?_ ?_ | with_reducible exact True.intro | with_reducible exact Or.inl rfl | (refine Vc.mk ?_; (first | exact rfl | exact ⟨rfl, .inl rfl⟩ | omega | skip)))))
end Go.Proofs.Ytimfnpjcedjmiaa
