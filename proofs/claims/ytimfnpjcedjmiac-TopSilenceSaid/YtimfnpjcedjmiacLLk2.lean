/-
  Plain law: who is not answered; two ends who talk.
-/
import Derived.Test.YtimfnpjcedjmiacLLk
namespace Go.Proofs.Ytimfnpjcedjmiac
set_option linter.unusedSimpArgs false
set_option linter.unusedVariables false
-- PLAIN
theorem asks_pos {s m : Int} (h : polOk s m = true) : asks s m = [(1, s), (5, m)] := by
  have := polOk_iff.1 h
  unfold asks
  rw [if_pos (by omega), if_pos (by omega)]; rfl
/-- Who is not answered, so long. -/
def silL (s m : Int) (n : Int) : Lk :=
  if n < 12 then ⟨6, 3 - n / 3, 3 - n % 3, 1 + n / 3, s, m, s, m, asks s m, 255, []⟩ else ⟨3, 0, 0, 4, s, m, s, m, asks s m, 255, []⟩
def silO (s m : Int) (n : Int) : List Pk := if n < 12 ∧ n % 3 = 0 then [⟨1, 1 + n / 3, asks s m⟩] else []
theorem beg_sil {s m : Int} : doL (doL (newL s m) 2) 0 = { silL s m 0 with out := silO s m 0 } := rfl
theorem beg_E {s m : Int} : doE (newL s m) 2 = 0 ∧ doE (doL (newL s m) 2) 0 = 0 := ⟨rfl, rfl⟩
theorem ev64 {l : Lk} (h : l.st = 6) : evtL l 4 0 0 [] = { l with st := 6, id := (l.id + 1) % 256, ask := asks l.ns l.nm, left := l.left - 1, tm := 3, out := l.out ++ [⟨1, (l.id + 1) % 256, asks l.ns l.nm⟩] } := by
  unfold evtL; rw [h]; rfl
theorem ev65 {l : Lk} (h : l.st = 6) : evtL l 5 0 0 [] = { l with st := 3, ns := l.os, nm := l.om, sz := 255 } := by
  unfold evtL; rw [h]; rfl
theorem sil_tick {s m n : Int} (h0 : 0 ≤ n) : tickL (silL s m n) = { silL s m (n + 1) with out := silO s m (n + 1) } := by
  by_cases h12 : n < 12
  · have e : silL s m n = ⟨6, 3 - n / 3, 3 - n % 3, 1 + n / 3, s, m, s, m, asks s m, 255, []⟩ := by unfold silL; rw [if_pos h12]
    rw [e]
    unfold tickL
    rw [if_pos (by dsimp only; omega)]
    dsimp only
    by_cases h3 : n % 3 = 2
    · rw [if_neg (by omega)]
      by_cases h11 : n = 11
      · subst h11
        rw [if_pos (by decide), ev65 rfl]
        rfl
      · rw [if_neg (by omega), ev64 rfl]
        unfold silL silO
        rw [if_pos (by omega), if_pos (by omega)]
        dsimp only [List.nil_append]
        have a1 : 3 - (n + 1) / 3 = 3 - n / 3 - 1 := by omega
        have a2 : 3 - (n + 1) % 3 = 3 := by omega
        have a3 : 1 + (n + 1) / 3 = (1 + n / 3 + 1) % 256 := by omega
        rw [a1, a2, a3]
    · rw [if_pos (by omega)]
      unfold silL silO
      rw [if_pos (by omega), if_neg (by omega)]
      have a1 : 3 - (n + 1) / 3 = 3 - n / 3 := by omega
      have a2 : 3 - (n + 1) % 3 = 3 - n % 3 - 1 := by omega
      have a3 : 1 + (n + 1) / 3 = 1 + n / 3 := by omega
      rw [a1, a2, a3]
  · have e : ∀ k : Int, 12 ≤ k → silL s m k = ⟨3, 0, 0, 4, s, m, s, m, asks s m, 255, []⟩ := fun k hk => by unfold silL; rw [if_neg (by omega)]
    have e2 : silO s m (n + 1) = [] := by unfold silO; rw [if_neg (by omega)]
    rw [e n (by omega), e (n + 1) (by omega), e2]
    rfl
theorem silL_out {s m n : Int} : (silL s m n).out = [] := by unfold silL; split <;> rfl
theorem silL_ok {s m n : Int} (h : polOk s m = true) (h0 : 0 ≤ n) : (silL s m n).ok 0 := by
  have hp := polOk_iff.1 h
  have ha : (asks s m).length ≤ 2 := asks_len
  unfold silL
  split <;> refine ⟨?_, ?_, ?_, ?_, ?_, ?_, ?_, ?_, h, ?_, ?_, ?_, ?_, ?_, ?_, ?_, ?_⟩ <;> dsimp only <;> first | omega | assumption | exact Int.le_refl 0
/-- How often was asked. -/
def silN (n : Int) : Int := if n < 12 then 1 + n / 3 else 4
theorem silN_next {s m n : Int} (h0 : 0 ≤ n) : silN (n + 1) = silN n + ((silO s m (n + 1)).length : Int) := by
  unfold silN silO
  (repeat' split) <;> simp <;> omega
theorem silN_min {n : Int} (h0 : 0 ≤ n) : silN n = min (1 + n / 3) 4 := by
  unfold silN
  rw [Int.min_def]
  (repeat' split) <;> omega
theorem sil_st {s m n : Int} (h0 : 0 ≤ n) : ((silL s m n).st = 3) ↔ 12 ≤ n := by
  unfold silL
  split <;> simp <;> omega
-- two ends
/-- Both are told what the other one said; first the first one. -/
def takA (l : Lk) (ps : List Pk) : Lk := ps.foldl takL l
def rnd1 (q : Lk × Lk) : Lk × Lk := (outL q.1, takA q.2 q.1.out)
def rnd2 (q : Lk × Lk) : Lk × Lk := (takA q.1 q.2.out, outL q.2)
def rndL (q : Lk × Lk) : Lk × Lk := rnd2 (rnd1 q)
def talkN : Nat → Lk × Lk → Lk × Lk
  | 0, q => q
  | k + 1, q => talkN k (rndL q)
theorem talkN_rest {q : Lk × Lk} (h : rndL q = q) : ∀ k, talkN k q = q
  | 0 => rfl
  | k + 1 => by show talkN k (rndL q) = q; rw [h]; exact talkN_rest h k
/-- Opened, and nothing to be said. -/
def opL (a b x left tm id : Int) : Lk := ⟨9, left, tm, id, a, b, a, b, asks a b, x, []⟩
def opd (a b x : Int) (l : Lk) : Prop := ∃ left tm id, l = opL a b x left tm id ∧ 0 ≤ left ∧ left ≤ 4 ∧ 0 ≤ tm ∧ tm ≤ 3 ∧ 0 ≤ id ∧ id ≤ 255
/-- It began, and asked. -/
def bgL (a b sz left tm id : Int) : Lk := ⟨6, left, tm, id, a, b, a, b, asks a b, sz, [⟨1, id, asks a b⟩]⟩
section
variable {a b x y : Int}
theorem pf_asks {c i : Int} (h : polOk a b = true) (hc : 1 ≤ c) (hc4 : c ≤ 4) (hi : 0 ≤ i) (hi9 : i ≤ 255) : pfault c i (asks a b) = 0 := by
  have hp := polOk_iff.1 h
  rw [asks_pos h]
  unfold pfault
  rw [if_neg (by omega), if_neg (by simp), if_neg (by omega)]
  unfold ofault
  rw [if_neg (by simp [optBad]; omega), if_neg (by simp)]
  unfold ofault
  rw [if_neg (by simp [optBad]; omega), if_neg (by simp)]
  rfl
theorem pf_nil {c i : Int} (hc : 1 ≤ c) (hc6 : c ≤ 6) (hi : 0 ≤ i) (hi9 : i ≤ 255) : pfault c i [] = 0 := by
  unfold pfault
  rw [if_neg (by omega), if_neg (by decide), if_neg (by simp)]
  rfl
theorem jd_asks (h : polOk a b = true) (hm : b ≠ y) : jcode y (asks a b) = 2 ∧ jans y (asks a b) = asks a b := by
  have hp := polOk_iff.1 h
  have h1 : rej (asks a b) = [] := by rw [asks_pos h]; rfl
  have h2 : nak y (asks a b) = [] := by
    rw [asks_pos h]
    unfold nak
    rw [List.filterMap_cons_none, List.filterMap_cons_none]
    · rfl
    · unfold nakOf; rw [if_neg (by simp), if_neg (by simp; omega)]
    · unfold nakOf; rw [if_neg (by simp; omega), if_neg (by simp)]
  unfold jcode jans
  rw [h1, h2]
  exact ⟨rfl, rfl⟩
theorem sz_asks (h : polOk a b = true) : szOf (asks a b) = a := by rw [asks_pos h]; rfl
theorem ev66 {l : Lk} {i c : Int} {o : List (Int × Int)} (h : l.st = 6) : evtL l 6 i c o = { l with st := 8, out := l.out ++ [⟨c, i, o⟩] } := by
  unfold evtL; rw [h]; rfl
theorem ev96 {l : Lk} {i c : Int} {o : List (Int × Int)} (h : l.st = 9) : evtL l 6 i c o = { l with st := 8, id := (l.id + 1) % 256, ask := asks l.ns l.nm, left := l.left - 1, tm := 3, out := l.out ++ [⟨1, (l.id + 1) % 256, asks l.ns l.nm⟩] ++ [⟨c, i, o⟩] } := by
  unfold evtL; rw [h]; rfl
theorem ev88 {l : Lk} {i : Int} (h : l.st = 8) : evtL l 8 i 0 [] = { l with st := 9, left := 4 } := by
  unfold evtL; rw [h]; rfl
/-- A request comes to one that asked. -/
theorem tk6 {l : Lk} {i : Int} (h : polOk x y = true) (hne : y ≠ l.nm) (hs : l.st = 6) (hi : 0 ≤ i) (hi9 : i ≤ 255) : takL l ⟨1, i, asks x y⟩ = { l with st := 8, out := l.out ++ [⟨2, i, asks x y⟩], sz := x } := by
  have hj := jd_asks (y := l.nm) h hne
  unfold takL
  rw [if_neg (by simp [pf_asks h (by decide : (1 : Int) ≤ 1) (by decide) hi hi9]), if_pos rfl]
  unfold reqL
  dsimp only
  rw [hj.1, hj.2, if_pos rfl, ev66 hs, if_pos ⟨by rw [hs]; rfl, by dsimp only; decide⟩, sz_asks h]
/-- .. to one that is Opened. -/
theorem tk9 {l : Lk} {i : Int} (h : polOk x y = true) (hne : y ≠ l.nm) (hs : l.st = 9) (hi : 0 ≤ i) (hi9 : i ≤ 255) : takL l ⟨1, i, asks x y⟩ = { l with st := 8, id := (l.id + 1) % 256, ask := asks l.ns l.nm, left := l.left - 1, tm := 3, out := l.out ++ [⟨1, (l.id + 1) % 256, asks l.ns l.nm⟩] ++ [⟨2, i, asks x y⟩], sz := x } := by
  have hj := jd_asks (y := l.nm) h hne
  unfold takL
  rw [if_neg (by simp [pf_asks h (by decide : (1 : Int) ≤ 1) (by decide) hi hi9]), if_pos rfl]
  unfold reqL
  dsimp only
  rw [hj.1, hj.2, if_pos rfl, ev96 hs, if_pos ⟨by rw [hs]; rfl, by dsimp only; decide⟩, sz_asks h]
/-- An Ack of what was asked. -/
theorem tk8 {l : Lk} (h : polOk a b = true) (ha : l.ask = asks a b) (hs : l.st = 8) (hi : 0 ≤ l.id) (hi9 : l.id ≤ 255) : takL l ⟨2, l.id, asks a b⟩ = { l with st := 9, left := 4 } := by
  unfold takL
  rw [if_neg (by simp [pf_asks h (by decide : (1 : Int) ≤ 2) (by decide) hi hi9]), if_neg (by simp), if_neg (by simp), if_neg (by simp), if_neg (by simp), if_pos rfl, if_neg (by simp [ha]), ev88 hs]
theorem m256 (i : Int) : 0 ≤ (i + 1) % 256 ∧ (i + 1) % 256 ≤ 255 := by omega
/-- Both asked. -/
theorem rnd_bb {s1 s2 l1 l2 t1 t2 i j : Int} (hp : polOk a b = true) (hq : polOk x y = true) (hne : b ≠ y) (hi : 0 ≤ i) (hi9 : i ≤ 255) (hj : 0 ≤ j) (hj9 : j ≤ 255) :
    rndL (bgL a b s1 l1 t1 i, bgL x y s2 l2 t2 j) = (⟨9, 4, t1, i, a, b, a, b, asks a b, x, [⟨2, j, asks x y⟩]⟩, ⟨8, l2, t2, j, x, y, x, y, asks x y, a, []⟩) := by
  unfold rndL rnd1
  dsimp only
  have e1 : takA (bgL x y s2 l2 t2 j) (bgL a b s1 l1 t1 i).out = ⟨8, l2, t2, j, x, y, x, y, asks x y, a, [⟨1, j, asks x y⟩, ⟨2, i, asks a b⟩]⟩ :=
    tk6 (l := bgL x y s2 l2 t2 j) hp hne rfl hi hi9
  rw [e1]
  unfold rnd2
  dsimp only
  have e2 : takA (outL (bgL a b s1 l1 t1 i)) [⟨1, j, asks x y⟩, ⟨2, i, asks a b⟩] = ⟨9, 4, t1, i, a, b, a, b, asks a b, x, [⟨2, j, asks x y⟩]⟩ := by
    unfold takA
    rw [List.foldl_cons, tk6 (l := outL (bgL a b s1 l1 t1 i)) hq (fun e => hne e.symm) rfl hj hj9]
    exact tk8 (l := ⟨8, l1, t1, i, a, b, a, b, asks a b, x, [⟨2, j, asks x y⟩]⟩) hp rfl rfl hi hi9
  rw [e2]
  rfl
/-- The second one is told the last thing. -/
theorem rnd_b2 {l1 l2 t1 t2 i j : Int} (hq : polOk x y = true) (hj : 0 ≤ j) (hj9 : j ≤ 255) :
    rndL (⟨9, l1, t1, i, a, b, a, b, asks a b, x, [⟨2, j, asks x y⟩]⟩, ⟨8, l2, t2, j, x, y, x, y, asks x y, a, []⟩) = (opL a b x l1 t1 i, opL x y a 4 t2 j) := by
  have e1 : takA ⟨8, l2, t2, j, x, y, x, y, asks x y, a, []⟩ [⟨2, j, asks x y⟩] = opL x y a 4 t2 j :=
    tk8 (l := ⟨8, l2, t2, j, x, y, x, y, asks x y, a, []⟩) hq rfl rfl hj hj9
  unfold rndL rnd1
  dsimp only
  rw [e1]
  rfl
/-- The first one began anew. -/
theorem rnd_bo {s1 l1 l2 t1 t2 i j : Int} (hp : polOk a b = true) (hq : polOk x y = true) (hne : b ≠ y) (hi : 0 ≤ i) (hi9 : i ≤ 255) :
    rndL (bgL a b s1 l1 t1 i, opL x y a l2 t2 j) = (⟨9, 4, t1, i, a, b, a, b, asks a b, x, [⟨2, (j + 1) % 256, asks x y⟩]⟩, ⟨8, l2 - 1, 3, (j + 1) % 256, x, y, x, y, asks x y, a, []⟩) := by
  have hm := m256 j
  unfold rndL rnd1
  dsimp only
  have e1 : takA (opL x y a l2 t2 j) (bgL a b s1 l1 t1 i).out = ⟨8, l2 - 1, 3, (j + 1) % 256, x, y, x, y, asks x y, a, [⟨1, (j + 1) % 256, asks x y⟩, ⟨2, i, asks a b⟩]⟩ :=
    tk9 (l := opL x y a l2 t2 j) hp hne rfl hi hi9
  rw [e1]
  unfold rnd2
  dsimp only
  have e2 : takA (outL (bgL a b s1 l1 t1 i)) [⟨1, (j + 1) % 256, asks x y⟩, ⟨2, i, asks a b⟩] = ⟨9, 4, t1, i, a, b, a, b, asks a b, x, [⟨2, (j + 1) % 256, asks x y⟩]⟩ := by
    unfold takA
    rw [List.foldl_cons, tk6 (l := outL (bgL a b s1 l1 t1 i)) hq (fun e => hne e.symm) rfl hm.1 hm.2]
    exact tk8 (l := ⟨8, l1, t1, i, a, b, a, b, asks a b, x, [⟨2, (j + 1) % 256, asks x y⟩]⟩) hp rfl rfl hi hi9
  rw [e2]
  rfl
/-- The second one began anew. -/
theorem rnd_ob {s2 l1 l2 t1 t2 i j : Int} (hp : polOk a b = true) (hq : polOk x y = true) (hne : b ≠ y) (hj : 0 ≤ j) (hj9 : j ≤ 255) :
    rndL (opL a b x l1 t1 i, bgL x y s2 l2 t2 j) = (⟨8, l1 - 1, 3, (i + 1) % 256, a, b, a, b, asks a b, x, [⟨1, (i + 1) % 256, asks a b⟩, ⟨2, j, asks x y⟩]⟩, ⟨6, l2, t2, j, x, y, x, y, asks x y, s2, []⟩) := by
  unfold rndL
  have e0 : rnd1 (opL a b x l1 t1 i, bgL x y s2 l2 t2 j) = (opL a b x l1 t1 i, bgL x y s2 l2 t2 j) := rfl
  rw [e0]
  unfold rnd2
  dsimp only
  have e1 : takA (opL a b x l1 t1 i) (bgL x y s2 l2 t2 j).out = ⟨8, l1 - 1, 3, (i + 1) % 256, a, b, a, b, asks a b, x, [⟨1, (i + 1) % 256, asks a b⟩, ⟨2, j, asks x y⟩]⟩ :=
    tk9 (l := opL a b x l1 t1 i) hq (fun e => hne e.symm) rfl hj hj9
  rw [e1]
  rfl
theorem rnd_o2 {s2 l1 l2 t1 t2 i j : Int} (hp : polOk a b = true) (hq : polOk x y = true) (hne : b ≠ y) (hi : 0 ≤ i) (hi9 : i ≤ 255) (hj : 0 ≤ j) (hj9 : j ≤ 255) :
    rndL (⟨8, l1, t1, i, a, b, a, b, asks a b, x, [⟨1, i, asks a b⟩, ⟨2, j, asks x y⟩]⟩, ⟨6, l2, t2, j, x, y, x, y, asks x y, s2, []⟩) = (opL a b x 4 t1 i, opL x y a 4 t2 j) := by
  unfold rndL rnd1
  dsimp only
  have e1 : takA ⟨6, l2, t2, j, x, y, x, y, asks x y, s2, []⟩ [⟨1, i, asks a b⟩, ⟨2, j, asks x y⟩] = ⟨9, 4, t2, j, x, y, x, y, asks x y, a, [⟨2, i, asks a b⟩]⟩ := by
    unfold takA
    rw [List.foldl_cons, tk6 (l := ⟨6, l2, t2, j, x, y, x, y, asks x y, s2, []⟩) hp hne rfl hi hi9]
    exact tk8 (l := ⟨8, l2, t2, j, x, y, x, y, asks x y, a, [⟨2, i, asks a b⟩]⟩) hq rfl rfl hj hj9
  rw [e1]
  unfold rnd2
  dsimp only
  have e2 : takA (outL ⟨8, l1, t1, i, a, b, a, b, asks a b, x, [⟨1, i, asks a b⟩, ⟨2, j, asks x y⟩]⟩) [⟨2, i, asks a b⟩] = opL a b x 4 t1 i :=
    tk8 (l := ⟨8, l1, t1, i, a, b, a, b, asks a b, x, []⟩) hp rfl rfl hi hi9
  rw [e2]
  rfl
theorem rnd_oo {l1 l2 t1 t2 i j : Int} : rndL (opL a b x l1 t1 i, opL x y a l2 t2 j) = (opL a b x l1 t1 i, opL x y a l2 t2 j) := rfl
theorem opL_ok {l1 t1 i : Int} (hp : polOk a b = true) (hq : polOk x y = true) (h1 : -20 ≤ l1) (h2 : l1 ≤ 4) (h3 : 0 ≤ t1) (h4 : t1 ≤ 3) (h5 : 0 ≤ i) (h6 : i ≤ 255) {st : Int} (hs : 0 ≤ st) (hs9 : st ≤ 9) {sz : Int} (hz : 0 ≤ sz) (hz9 : sz ≤ 255) {out : List Pk} (ho : out.length ≤ 20) : Lk.ok 20 ⟨st, l1, t1, i, a, b, a, b, asks a b, sz, out⟩ := by
  have hp' := polOk_iff.1 hp
  have ha : (asks a b).length ≤ 2 := asks_len
  refine ⟨?_, ?_, ?_, ?_, ?_, ?_, ?_, ?_, hp, ?_, ?_, ?_, ?_, ?_, ?_, ?_, ?_⟩ <;> dsimp only <;> first | omega | assumption
def ok2 (q : Lk × Lk) : Prop := q.1.ok 20 ∧ q.2.ok 20
/-- Two ends come to agree. -/
theorem talk_two {q q1 q2 : Lk × Lk} (h0 : ok2 q) (h1 : rndL q = q1) (k1 : ok2 q1) (h2 : rndL q1 = q2) (k2 : ok2 q2) (h3 : rndL q2 = q2) : (∀ k, ok2 (talkN k q)) ∧ talkN 8 q = q2 := by
  have e : ∀ k, talkN (k + 2) q = q2 := fun k => by
    show talkN k (rndL (rndL q)) = q2
    rw [h1, h2]; exact talkN_rest h3 k
  refine ⟨fun k => ?_, e 6⟩
  match k with
  | 0 => exact h0
  | 1 => show ok2 (rndL q); rw [h1]; exact k1
  | k + 2 => rw [e]; exact k2
theorem talk_bb {i j : Int} (hp : polOk a b = true) (hq : polOk x y = true) (hne : b ≠ y) (hi : 0 ≤ i) (hi9 : i ≤ 255) (hj : 0 ≤ j) (hj9 : j ≤ 255) :
    (∀ k, ok2 (talkN k (bgL a b 255 3 3 i, bgL x y 255 3 3 j))) ∧ talkN 8 (bgL a b 255 3 3 i, bgL x y 255 3 3 j) = (opL a b x 4 3 i, opL x y a 4 3 j) := by
  have hp' := polOk_iff.1 hp
  have hq' := polOk_iff.1 hq
  refine talk_two ⟨?_, ?_⟩ (rnd_bb hp hq hne hi hi9 hj hj9) ⟨?_, ?_⟩ (rnd_b2 hq hj hj9) ⟨?_, ?_⟩ rnd_oo
  all_goals first | (refine opL_ok hp hq ?_ ?_ ?_ ?_ ?_ ?_ ?_ ?_ ?_ ?_ ?_; done) | (refine opL_ok hp hq ?_ ?_ ?_ ?_ ?_ ?_ ?_ ?_ ?_ ?_ ?_ <;> first | omega | (simp; done)) | (refine opL_ok hq hp ?_ ?_ ?_ ?_ ?_ ?_ ?_ ?_ ?_ ?_ ?_ <;> first | omega | (simp; done))
theorem talk_bo {l2 t2 i j : Int} (hp : polOk a b = true) (hq : polOk x y = true) (hne : b ≠ y) (hi : 0 ≤ i) (hi9 : i ≤ 255) (hl : l2 = 4) (ht : t2 = 3) (hj : 0 ≤ j) (hj9 : j ≤ 255) :
    (∀ k, ok2 (talkN k (bgL a b 255 3 3 i, opL x y a l2 t2 j))) ∧ talkN 8 (bgL a b 255 3 3 i, opL x y a l2 t2 j) = (opL a b x 4 3 i, opL x y a 4 3 ((j + 1) % 256)) := by
  subst hl ht
  have hp' := polOk_iff.1 hp
  have hq' := polOk_iff.1 hq
  have hm := m256 j
  refine talk_two ⟨?_, ?_⟩ (rnd_bo hp hq hne hi hi9) ⟨?_, ?_⟩ (rnd_b2 hq hm.1 hm.2) ⟨?_, ?_⟩ rnd_oo
  all_goals first | (refine opL_ok hp hq ?_ ?_ ?_ ?_ ?_ ?_ ?_ ?_ ?_ ?_ ?_ <;> first | omega | (simp; done)) | (refine opL_ok hq hp ?_ ?_ ?_ ?_ ?_ ?_ ?_ ?_ ?_ ?_ ?_ <;> first | omega | (simp; done))
theorem talk_ob {l1 t1 i j : Int} (hp : polOk a b = true) (hq : polOk x y = true) (hne : b ≠ y) (hi : 0 ≤ i) (hi9 : i ≤ 255) (hl : l1 = 4) (ht : t1 = 3) (hj : 0 ≤ j) (hj9 : j ≤ 255) :
    (∀ k, ok2 (talkN k (opL a b x l1 t1 i, bgL x y 255 3 3 j))) ∧ talkN 8 (opL a b x l1 t1 i, bgL x y 255 3 3 j) = (opL a b x 4 3 ((i + 1) % 256), opL x y a 4 3 j) := by
  subst hl ht
  have hp' := polOk_iff.1 hp
  have hq' := polOk_iff.1 hq
  have hm := m256 i
  refine talk_two ⟨?_, ?_⟩ (rnd_ob hp hq hne hj hj9) ⟨?_, ?_⟩ (rnd_o2 hp hq hne hm.1 hm.2 hj hj9) ⟨?_, ?_⟩ rnd_oo
  all_goals first | (refine opL_ok hp hq ?_ ?_ ?_ ?_ ?_ ?_ ?_ ?_ ?_ ?_ ?_ <;> first | omega | (simp; done)) | (refine opL_ok hq hp ?_ ?_ ?_ ?_ ?_ ?_ ?_ ?_ ?_ ?_ ?_ <;> first | omega | (simp; done))
theorem talk_oo {i j : Int} (hp : polOk a b = true) (hq : polOk x y = true) (hi : 0 ≤ i) (hi9 : i ≤ 255) (hj : 0 ≤ j) (hj9 : j ≤ 255) :
    (∀ k, ok2 (talkN k (opL a b x 4 3 i, opL x y a 4 3 j))) ∧ talkN 8 (opL a b x 4 3 i, opL x y a 4 3 j) = (opL a b x 4 3 i, opL x y a 4 3 j) := by
  have hp' := polOk_iff.1 hp
  have hq' := polOk_iff.1 hq
  refine talk_two ⟨?_, ?_⟩ rnd_oo ⟨?_, ?_⟩ rnd_oo ⟨?_, ?_⟩ rnd_oo
  all_goals first | (refine opL_ok hp hq ?_ ?_ ?_ ?_ ?_ ?_ ?_ ?_ ?_ ?_ ?_ <;> first | omega | (simp; done)) | (refine opL_ok hq hp ?_ ?_ ?_ ?_ ?_ ?_ ?_ ?_ ?_ ?_ ?_ <;> first | omega | (simp; done))
/-- It begins anew. -/
theorem do_anew {i : Int} : doL (doL (opL a b x 4 3 i) 1) 0 = bgL a b 255 3 3 ((i + 1) % 256) := rfl
theorem do_beg : doL (doL (newL a b) 2) 0 = bgL a b 255 3 3 1 := rfl
/-- It is closed. -/
def clL (a b x i : Int) : Lk := ⟨4, 3, 3, i, a, b, a, b, asks a b, x, [⟨5, i, []⟩]⟩
theorem do_close {i : Int} : doL (opL a b x 4 3 i) 3 = clL a b x ((i + 1) % 256) ∧ doE (opL a b x 4 3 i) 3 = 0 := ⟨rfl, rfl⟩
theorem tk95 {i : Int} {l : Lk} (hs : l.st = 9) (hi : 0 ≤ i) (hi9 : i ≤ 255) : takL l ⟨5, i, []⟩ = { l with st := 5, left := 0, tm := 3, out := l.out ++ [⟨6, i, []⟩] } := by
  unfold takL
  rw [if_neg (by simp [pf_nil (by decide : (1 : Int) ≤ 5) (by decide) hi hi9]), if_neg (by simp), if_pos rfl]
  unfold evtL; rw [hs]; rfl
theorem tk42 {i : Int} {l : Lk} (hs : l.st = 4) (hi : 0 ≤ i) (hi9 : i ≤ 255) : takL l ⟨6, i, []⟩ = { l with st := 2, ns := l.os, nm := l.om, sz := 255 } := by
  unfold takL
  rw [if_neg (by simp [pf_nil (by decide : (1 : Int) ≤ 6) (by decide) hi hi9]), if_neg (by simp), if_neg (by simp), if_pos rfl]
  unfold evtL; rw [hs]; rfl
def stL (x y sz k j : Int) : Lk := if k < 3 then ⟨5, 0, 3 - k, j, x, y, x, y, asks x y, sz, []⟩ else ⟨3, 0, 0, j, x, y, x, y, asks x y, 255, []⟩
theorem rnd_cl {i j : Int} (hi : 0 ≤ i) (hi9 : i ≤ 255) : rndL (clL a b x i, opL x y a 4 3 j) = (⟨2, 3, 3, i, a, b, a, b, asks a b, 255, []⟩, stL x y a 0 j) := by
  unfold rndL rnd1
  dsimp only
  have e1 : takA (opL x y a 4 3 j) (clL a b x i).out = ⟨5, 0, 3, j, x, y, x, y, asks x y, a, [⟨6, i, []⟩]⟩ := tk95 (l := opL x y a 4 3 j) rfl hi hi9
  rw [e1]
  unfold rnd2
  dsimp only
  have e2 : takA (outL (clL a b x i)) [⟨6, i, []⟩] = ⟨2, 3, 3, i, a, b, a, b, asks a b, 255, []⟩ := tk42 (l := outL (clL a b x i)) rfl hi hi9
  rw [e2]
  rfl
theorem talk_cl {i j : Int} (hp : polOk a b = true) (hq : polOk x y = true) (hi : 0 ≤ i) (hi9 : i ≤ 255) (hj : 0 ≤ j) (hj9 : j ≤ 255) :
    (∀ k, ok2 (talkN k (clL a b x i, opL x y a 4 3 j))) ∧ talkN 8 (clL a b x i, opL x y a 4 3 j) = (⟨2, 3, 3, i, a, b, a, b, asks a b, 255, []⟩, stL x y a 0 j) := by
  have hp' := polOk_iff.1 hp
  have hq' := polOk_iff.1 hq
  refine talk_two ⟨?_, ?_⟩ (rnd_cl hi hi9) ⟨?_, ?_⟩ (rfl : rndL (⟨2, 3, 3, i, a, b, a, b, asks a b, 255, []⟩, stL x y a 0 j) = (⟨2, 3, 3, i, a, b, a, b, asks a b, 255, []⟩, stL x y a 0 j)) ⟨?_, ?_⟩ rfl
  all_goals first | (refine opL_ok hp hq ?_ ?_ ?_ ?_ ?_ ?_ ?_ ?_ ?_ ?_ ?_ <;> first | omega | (simp; done)) | (refine opL_ok hq hp ?_ ?_ ?_ ?_ ?_ ?_ ?_ ?_ ?_ ?_ ?_ <;> first | omega | (simp; done))
theorem st_tick {k j : Int} (h0 : 0 ≤ k) : tickL (stL x y a k j) = stL x y a (k + 1) j := by
  by_cases h3 : k < 3
  · have e : stL x y a k j = ⟨5, 0, 3 - k, j, x, y, x, y, asks x y, a, []⟩ := by unfold stL; rw [if_pos h3]
    rw [e]
    unfold tickL
    rw [if_pos ⟨by simp, by simp⟩]
    dsimp only
    by_cases h2 : k < 2
    · rw [if_pos (by omega)]
      unfold stL
      rw [if_pos (by omega), show 3 - (k + 1) = 3 - k - 1 from by omega]
    · have ek : k = 2 := by omega
      subst ek
      rfl
  · have e : ∀ k : Int, 3 ≤ k → stL x y a k j = ⟨3, 0, 0, j, x, y, x, y, asks x y, 255, []⟩ := fun k hk => by unfold stL; rw [if_neg (by omega)]
    rw [e k (by omega), e (k + 1) (by omega)]
    rfl
theorem st_ok {k j : Int} (hp : polOk a b = true) (hq : polOk x y = true) (h0 : 0 ≤ k) (hj : 0 ≤ j) (hj9 : j ≤ 255) : Lk.ok 20 (stL x y a k j) := by
  have hp' := polOk_iff.1 hp
  unfold stL
  split <;> refine opL_ok hq hp ?_ ?_ ?_ ?_ ?_ ?_ ?_ ?_ ?_ ?_ ?_ <;> first | omega | (simp; done)
end
end Go.Proofs.Ytimfnpjcedjmiac
