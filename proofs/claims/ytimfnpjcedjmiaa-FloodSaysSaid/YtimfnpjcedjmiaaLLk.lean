/-
  Plain law: one end of a link.
-/
import Derived.Test.YtimfnpjcedjmiaaMPol
import Derived.Test.YtimfnpjcedjmiaaMPkt
import Derived.Test.YtimfnpjcedjmiaaMAuto
namespace Go.Proofs.Ytimfnpjcedjmiaa
set_option linter.unusedSimpArgs false
set_option linter.unusedVariables false
-- PLAIN
/-- A packet. -/
structure Pk where
  c : Int
  i : Int
  o : List (Int × Int)
/-- What an end of a link knows. -/
structure Lk where
  st : Int
  left : Int
  tm : Int
  id : Int
  os : Int
  om : Int
  ns : Int
  nm : Int
  ask : List (Int × Int)
  sz : Int
  out : List Pk
def jcode (m : Int) (l : List (Int × Int)) : Int := if rej l ≠ [] then 4 else if nak m l ≠ [] then 3 else 2
def jans (m : Int) (l : List (Int × Int)) : List (Int × Int) := if rej l ≠ [] then rej l else if nak m l ≠ [] then nak m l else l
/-- One thing is done, of a packet that came. -/
def act1 (i c : Int) (a : List (Int × Int)) (l : Lk) (b : UInt8) : Lk :=
  if b = 105 then { l with left := 4 }
  else if b = 122 then { l with left := 0, tm := 3 }
  else if b = 114 then { l with id := (l.id + 1) % 256, ask := asks l.ns l.nm, left := l.left - 1, tm := 3, out := l.out ++ [⟨1, (l.id + 1) % 256, asks l.ns l.nm⟩] }
  else if b = 97 ∨ b = 110 then { l with out := l.out ++ [⟨c, i, a⟩] }
  else if b = 116 then { l with id := (l.id + 1) % 256, left := l.left - 1, tm := 3, out := l.out ++ [⟨5, (l.id + 1) % 256, []⟩] }
  else if b = 107 then { l with out := l.out ++ [⟨6, i, []⟩] }
  else l
def actL (i c : Int) (a : List (Int × Int)) (l : Lk) (d : List UInt8) : Lk := d.foldl (act1 i c a) l
def ownL (l : Lk) (n : Int) : Lk := if n ≤ 3 then { l with ns := l.os, nm := l.om, sz := 255, st := n } else { l with st := n }
def evtL (l : Lk) (e i c : Int) (a : List (Int × Int)) : Lk :=
  if stepE l.st e = 0 then actL i c a (ownL l (stepN l.st e)) (stepD l.st e) else l
def doL (l : Lk) (e : Int) : Lk := if e < 0 ∨ 3 < e then l else evtL l e 0 0 []
def doE (l : Lk) (e : Int) : Int := if e < 0 ∨ 3 < e then 1 else stepE l.st e
def tickL (l : Lk) : Lk :=
  if 4 ≤ l.st ∧ l.st ≤ 8 then
    (if 0 < l.tm - 1 then { l with tm := l.tm - 1 } else evtL { l with tm := l.tm - 1 } (if l.left ≤ 0 then 5 else 4) 0 0 [])
  else l
def szOf (o : List (Int × Int)) : Int := o.foldl (fun s x => if x.1 = 1 then x.2 else s) 255
def reqL (l : Lk) (p : Pk) : Lk :=
  if jcode l.nm p.o = 2 then
    (if stepE l.st 6 = 0 ∧ 6 ≤ (evtL l 6 p.i 2 (jans l.nm p.o)).st then { evtL l 6 p.i 2 (jans l.nm p.o) with sz := szOf p.o } else evtL l 6 p.i 2 (jans l.nm p.o))
  else evtL l 7 p.i (jcode l.nm p.o) (jans l.nm p.o)
def reqE (l : Lk) (p : Pk) : Int := if jcode l.nm p.o = 2 then stepE l.st 6 else stepE l.st 7
def nowL (l : Lk) (p : Pk) : Lk := if 6 ≤ l.st then { l with ns := (told p.c (l.ns, l.nm) p.o).1, nm := (told p.c (l.ns, l.nm) p.o).2 } else l
def takL (l : Lk) (p : Pk) : Lk :=
  if pfault p.c p.i p.o ≠ 0 then l
  else if p.c = 1 then reqL l p
  else if p.c = 5 then evtL l 10 p.i 0 []
  else if p.c = 6 then evtL l 11 p.i 0 []
  else if p.i ≠ l.id then l
  else if p.c = 2 then (if p.o ≠ l.ask then l else evtL l 8 p.i 0 [])
  else evtL (nowL l p) 9 p.i 0 []
def takE (l : Lk) (p : Pk) : Int :=
  if pfault p.c p.i p.o ≠ 0 then pfault p.c p.i p.o
  else if p.c = 1 then reqE l p
  else if p.c = 5 then stepE l.st 10
  else if p.c = 6 then stepE l.st 11
  else if p.i ≠ l.id then 6
  else if p.c = 2 then (if p.o ≠ l.ask then 6 else stepE l.st 8)
  else stepE l.st 9
def newL (s m : Int) : Lk := ⟨0, 0, 0, 0, s, m, s, m, [], 255, []⟩
/-- What may be, with something to spare. -/
structure Lk.ok (k : Int) (l : Lk) : Prop where
  st0 : 0 ≤ l.st
  st9 : l.st ≤ 9
  left0 : -k ≤ l.left
  left4 : l.left ≤ 4
  tm0 : -k ≤ l.tm
  tm3 : l.tm ≤ 3
  id0 : 0 ≤ l.id
  id9 : l.id ≤ 255
  own : polOk l.os l.om = true
  ns0 : 0 ≤ l.ns
  ns9 : l.ns ≤ 255
  nm0 : 0 ≤ l.nm
  nm9 : l.nm ≤ 255
  ask : l.ask.length ≤ 2
  sz0 : 0 ≤ l.sz
  sz9 : l.sz ≤ 255
  out : (l.out.length : Int) ≤ k
theorem Lk.ok.mono {k j : Int} {l : Lk} (h : l.ok k) (hj : k ≤ j) : l.ok j :=
  ⟨h.st0, h.st9, by have := h.left0; omega, h.left4, by have := h.tm0; omega, h.tm3, h.id0, h.id9, h.own, h.ns0, h.ns9, h.nm0, h.nm9, h.ask, h.sz0, h.sz9, by have := h.out; omega⟩
theorem asks_len {s m : Int} : (asks s m).length ≤ 2 := by
  unfold asks
  split <;> split <;> simp
theorem act1_ok {k : Int} {i c : Int} {a : List (Int × Int)} {l : Lk} (h : l.ok k) (b : UInt8) (hk : 0 ≤ k) : (act1 i c a l b).ok (k + 1) := by
  obtain ⟨h1, h2, h3, h4, h5, h6, h7, h8, h9, h10, h11, h12, h13, h14, h15, h16, h17⟩ := h
  have ha : (asks l.ns l.nm).length ≤ 2 := asks_len
  unfold act1
  (repeat' split) <;> refine ⟨?_, ?_, ?_, ?_, ?_, ?_, ?_, ?_, ?_, ?_, ?_, ?_, ?_, ?_, ?_, ?_, ?_⟩ <;> (try dsimp only) <;> first | omega | assumption | (simp only [List.length_append, List.length_cons, List.length_nil]; omega)
theorem actL_ok {i c : Int} {a : List (Int × Int)} : ∀ {d : List UInt8} {k : Int} {l : Lk}, l.ok k → 0 ≤ k → (actL i c a l d).ok (k + d.length)
  | [], k, l, h, hk => by simpa [actL] using h
  | b :: d, k, l, h, hk => by
    have := actL_ok (i := i) (c := c) (a := a) (d := d) (act1_ok (i := i) (c := c) (a := a) h b hk) (by omega)
    refine Lk.ok.mono this ?_
    simp only [List.length_cons]; omega
theorem ownL_ok {k n : Int} {l : Lk} (h : l.ok k) (h0 : 0 ≤ n) (h9 : n ≤ 9) : (ownL l n).ok k := by
  obtain ⟨h1, h2, h3, h4, h5, h6, h7, h8, h9', h10, h11, h12, h13, h14, h15, h16, h17⟩ := h
  have hp := polOk_iff.1 h9'
  unfold ownL
  split <;> refine ⟨?_, ?_, ?_, ?_, ?_, ?_, ?_, ?_, ?_, ?_, ?_, ?_, ?_, ?_, ?_, ?_, ?_⟩ <;> (try dsimp only) <;> first | omega | assumption
theorem cases10 {s : Int} (h0 : 0 ≤ s) (h : s ≤ 9) : s = 0 ∨ s = 1 ∨ s = 2 ∨ s = 3 ∨ s = 4 ∨ s = 5 ∨ s = 6 ∨ s = 7 ∨ s = 8 ∨ s = 9 := by omega
def tabOk (s e : Nat) : Bool := decide ((stepD s e).length ≤ 3) && decide (0 ≤ stepN s e) && decide (stepN s e ≤ 9) && decide (stepE s e = 0 ∨ stepE s e = 7) && (stepD s e).all (fun b => decide (b.toNat < 128))
theorem tab_all : ∀ e : Fin 12, ∀ s : Fin 10, tabOk s e = true := by decide +kernel
theorem tab {s e : Int} (h0 : 0 ≤ s) (h9 : s ≤ 9) (e0 : 0 ≤ e) (e9 : e ≤ 11) : (stepD s e).length ≤ 3 ∧ 0 ≤ stepN s e ∧ stepN s e ≤ 9 ∧ (stepE s e = 0 ∨ stepE s e = 7) ∧ ∀ b ∈ stepD s e, b.toNat < 128 := by
  have h := tab_all ⟨e.toNat, by omega⟩ ⟨s.toNat, by omega⟩
  simp only [tabOk, Int.toNat_of_nonneg h0, Int.toNat_of_nonneg e0, Bool.and_eq_true, decide_eq_true_eq, List.all_eq_true] at h
  obtain ⟨⟨⟨⟨a, b⟩, c⟩, d⟩, e⟩ := h
  exact ⟨a, b, c, d, e⟩
theorem evtL_ok {k e i c : Int} {a : List (Int × Int)} {l : Lk} (h : l.ok k) (hk : 0 ≤ k) (e0 : 0 ≤ e) (e9 : e ≤ 11) : (evtL l e i c a).ok (k + 3) := by
  have ht := tab h.st0 h.st9 e0 e9
  unfold evtL
  split
  · refine Lk.ok.mono (actL_ok (ownL_ok h ht.2.1 ht.2.2.1) hk) ?_
    have := ht.1
    omega
  · exact h.mono (by omega)
theorem doL_ok {k e : Int} {l : Lk} (h : l.ok k) (hk : 0 ≤ k) : (doL l e).ok (k + 3) := by
  unfold doL
  split
  · exact h.mono (by omega)
  · exact evtL_ok h hk (by omega) (by omega)
theorem tickL_ok {k : Int} {l : Lk} (h : l.ok k) (hk : 0 ≤ k) : (tickL l).ok (k + 4) := by
  have h' : Lk.ok (k + 1) { l with tm := l.tm - 1 } := by
    obtain ⟨h1, h2, h3, h4, h5, h6, h7, h8, h9', h10, h11, h12, h13, h14, h15, h16, h17⟩ := h
    refine ⟨?_, ?_, ?_, ?_, ?_, ?_, ?_, ?_, ?_, ?_, ?_, ?_, ?_, ?_, ?_, ?_, ?_⟩ <;> (try dsimp only) <;> first | omega | assumption
  unfold tickL
  split
  · split
    · exact h'.mono (by omega)
    · refine Lk.ok.mono (evtL_ok h' (by omega) ?_ ?_) (by omega) <;> split <;> omega
  · exact h.mono (by omega)
theorem lk_ofault : ∀ (l p : List (Int × Int)), ofault p l = 0 → ∀ o ∈ l, 0 ≤ o.1 ∧ o.1 ≤ 255 ∧ 0 ≤ o.2 ∧ o.2 ≤ 255
  | [], p, _ => fun o ho => by cases ho
  | x :: r, p, h => by
    unfold ofault at h
    split at h
    · omega
    · rename_i hb
      split at h
      · omega
      · simp only [optBad, Bool.or_eq_true, decide_eq_true_eq] at hb
        intro o ho
        rcases List.mem_cons.1 ho with rfl | ho
        · omega
        · exact lk_ofault r _ h o ho
theorem lk_pfault {c i : Int} {l : List (Int × Int)} (h : pfault c i l = 0) : 1 ≤ c ∧ c ≤ 6 ∧ 0 ≤ i ∧ i ≤ 255 ∧ l.length ≤ 8 ∧ ∀ o ∈ l, 0 ≤ o.1 ∧ o.1 ≤ 255 ∧ 0 ≤ o.2 ∧ o.2 ≤ 255 := by
  unfold pfault at h
  (repeat' split at h) <;> first | omega | skip
  refine ⟨by omega, by omega, by omega, by omega, by omega, lk_ofault l [] h⟩
theorem szOf_in {o : List (Int × Int)} (h : ∀ x ∈ o, 0 ≤ x.1 ∧ x.1 ≤ 255 ∧ 0 ≤ x.2 ∧ x.2 ≤ 255) : 0 ≤ szOf o ∧ szOf o ≤ 255 := by
  have key : ∀ (o : List (Int × Int)) (s : Int), 0 ≤ s → s ≤ 255 → (∀ x ∈ o, 0 ≤ x.1 ∧ x.1 ≤ 255 ∧ 0 ≤ x.2 ∧ x.2 ≤ 255) → 0 ≤ o.foldl (fun s x => if x.1 = 1 then x.2 else s) s ∧ o.foldl (fun s x => if x.1 = 1 then x.2 else s) s ≤ 255 := by
    intro o
    induction o with
    | nil => intro s h0 h9 _; exact ⟨h0, h9⟩
    | cons x r ih =>
      intro s h0 h9 hx
      have h1 := hx x (List.mem_cons_self ..)
      refine ih _ ?_ ?_ (fun y hy => hx y (List.mem_cons_of_mem _ hy)) <;> dsimp only <;> split <;> omega
  exact key o 255 (by decide) (by decide) h
theorem told_in {c : Int} {p : Int × Int} {o : List (Int × Int)} (h : ∀ x ∈ o, 0 ≤ x.1 ∧ x.1 ≤ 255 ∧ 0 ≤ x.2 ∧ x.2 ≤ 255) (hp : 0 ≤ p.1 ∧ p.1 ≤ 255 ∧ 0 ≤ p.2 ∧ p.2 ≤ 255) : 0 ≤ (told c p o).1 ∧ (told c p o).1 ≤ 255 ∧ 0 ≤ (told c p o).2 ∧ (told c p o).2 ≤ 255 := by
  unfold told
  induction o generalizing p with
  | nil => exact hp
  | cons x r ih =>
    have h1 := h x (List.mem_cons_self ..)
    refine ih (fun y hy => h y (List.mem_cons_of_mem _ hy)) ?_
    unfold told1
    (repeat' split) <;> (try dsimp only) <;> omega
theorem takL_ok {k : Int} {l : Lk} {p : Pk} (h : l.ok k) (hk : 0 ≤ k) : (takL l p).ok (k + 3) := by
  unfold takL
  split
  · exact h.mono (by omega)
  · rename_i hf
    have hg := lk_pfault (Classical.not_not.1 hf)
    split
    · unfold reqL
      have h6 := evtL_ok (i := p.i) (c := 2) (a := jans l.nm p.o) h hk (e := 6) (by decide) (by decide)
      split
      · split
        · have hs := szOf_in hg.2.2.2.2.2
          obtain ⟨h1, h2, h3, h4, h5, h6, h7, h8, h9', h10, h11, h12, h13, h14, h15, h16, h17⟩ := h6
          refine ⟨?_, ?_, ?_, ?_, ?_, ?_, ?_, ?_, ?_, ?_, ?_, ?_, ?_, ?_, ?_, ?_, ?_⟩ <;> (try dsimp only) <;> first | assumption | omega
        · exact h6
      · exact evtL_ok h hk (by decide) (by decide)
    · split
      · exact evtL_ok h hk (by decide) (by decide)
      · split
        · exact evtL_ok h hk (by decide) (by decide)
        · split
          · exact h.mono (by omega)
          · split
            · split
              · exact h.mono (by omega)
              · exact evtL_ok h hk (by decide) (by decide)
            · refine evtL_ok ?_ hk (by decide) (by decide)
              unfold nowL
              split
              · have ht := told_in (c := p.c) (p := (l.ns, l.nm)) hg.2.2.2.2.2 ⟨h.ns0, h.ns9, h.nm0, h.nm9⟩
                obtain ⟨h1, h2, h3, h4, h5, h6, h7, h8, h9', h10, h11, h12, h13, h14, h15, h16, h17⟩ := h
                refine ⟨?_, ?_, ?_, ?_, ?_, ?_, ?_, ?_, ?_, ?_, ?_, ?_, ?_, ?_, ?_, ?_, ?_⟩ <;> (try dsimp only) <;> first | assumption | omega
              · exact h
theorem newL_ok {s m : Int} (h : polOk s m = true) : (newL s m).ok 0 := by
  have hp := polOk_iff.1 h
  refine ⟨?_, ?_, ?_, ?_, ?_, ?_, ?_, ?_, h, ?_, ?_, ?_, ?_, ?_, ?_, ?_, ?_⟩ <;> simp only [newL, List.length_nil] <;> omega
def outL (l : Lk) : Lk := { l with out := [] }
theorem outL_ok {k j : Int} {l : Lk} (h : l.ok k) (hk : k ≤ j) (hj : 0 ≤ j) : (outL l).ok j := by
  obtain ⟨h1, h2, h3, h4, h5, h6, h7, h8, h9', h10, h11, h12, h13, h14, h15, h16, h17⟩ := h.mono hk
  exact ⟨h1, h2, h3, h4, h5, h6, h7, h8, h9', h10, h11, h12, h13, h14, h15, h16, hj⟩
end Go.Proofs.Ytimfnpjcedjmiaa
