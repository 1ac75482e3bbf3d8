/-
  Plain law: a base of states.
-/
import Derived.Test.YtimfnpjcedjmiaaVo3
import Derived.Test.YtimfnpjcedjmiaaLSt
namespace Go.Proofs.Ytimfnpjcedjmiaa
set_option linter.unusedSimpArgs false
set_option linter.unusedVariables false
def upI {α : Type} (f : Int → α) (a : Int) (x : α) : Int → α := fun n => if n = a then x else f n
theorem upI_self {α : Type} {f : Int → α} {a : Int} {x : α} : upI f a x a = x := if_pos rfl
theorem upI_ne {α : Type} {f : Int → α} {a n : Int} {x : α} (h : n ≠ a) : upI f a x n = f n := if_neg h
theorem upI_upI {α : Type} {f : Int → α} {a : Int} {x y : α} : upI (upI f a x) a y = upI f a y := by
  funext n
  unfold upI
  split <;> rfl
/-- States that are known; of each port: whose states are owed. -/
structure Ba where
  kn : Int → Option St3
  ow : List (Int → Bool)
def sf (s : St3) : Int := sfault s.1 s.2.1 s.2.2
def nws (s t : St3) : Int := nw s.2.1 t.2.1 s.2.2 t.2.2
def modW : List (Int → Bool) → Int → ((Int → Bool) → Int → Bool) → List (Int → Bool)
  | [], _, _ => []
  | o :: r, p, F => (if p = 0 then F o else o) :: modW r (p - 1) F
def getW : List (Int → Bool) → Int → Int → Bool
  | [], _, _ => false
  | o :: r, p, n => if p = 0 then o n else getW r (p - 1) n
def aO (o : Int → Bool) (i n but : Int) : Int → Bool := if i = but then o else upI o n true
def allW : List (Int → Bool) → Int → Int → Int → List (Int → Bool)
  | [], _, _, _ => []
  | o :: r, i, n, but => aO o i n but :: allW r (i + 1) n but
def inP (b : Ba) (p : Int) : Bool := decide (0 ≤ p) && decide (p < b.ow.length)
def stsB (b : Ba) : List St3 := [1, 2, 3, 4, 5, 6].filterMap b.kn
def owdB (b : Ba) (p : Int) : List St3 := (stsB b).filter fun s => getW b.ow p s.1
def setB (b : Ba) (s : St3) : Ba := if sf s = 0 then ⟨upI b.kn s.1 (some s), allW b.ow 0 s.1 (-1)⟩ else b
def takK (b : Ba) (s : St3) : Int := match b.kn s.1 with
  | some t => nws s t
  | none => 1
def takeB (b : Ba) (p : Int) (s : St3) : Ba :=
  if inP b p = true ∧ sf s = 0 then
    (if takK b s = 1 then ⟨upI b.kn s.1 (some s), modW (allW b.ow 0 s.1 p) p fun o => upI o s.1 false⟩
    else if takK b s = 0 then ⟨b.kn, modW b.ow p fun o => upI o s.1 false⟩
    else ⟨b.kn, modW b.ow p fun o => upI o s.1 true⟩)
  else b
def takeE (b : Ba) (p : Int) (s : St3) : Int := if inP b p = true then sf s else 1
def takeV (b : Ba) (p : Int) (s : St3) : Int := if inP b p = true ∧ sf s = 0 then takK b s else 0
def hrK (b : Ba) (s : St3) : Int := match b.kn s.1 with
  | some t => nws t s
  | none => -1
def hrdB (b : Ba) (p : Int) (s : St3) : Ba := if inP b p = true ∧ sf s = 0 ∧ hrK b s ≤ 0 then ⟨b.kn, modW b.ow p fun o => upI o s.1 false⟩ else b
def metB (b : Ba) (p : Int) : Ba := if inP b p = true then ⟨b.kn, modW b.ow p fun o n => o n || (b.kn n).isSome⟩ else b
def metE (b : Ba) (p : Int) : Int := if inP b p = true then 0 else 1
def parB (b : Ba) (p : Int) : Ba := if inP b p = true then ⟨b.kn, modW b.ow p fun _ _ => false⟩ else b
def newB (n : Nat) : Ba := ⟨fun _ => none, List.replicate n fun _ => false⟩
/-- What may be. -/
structure Ba.ok (b : Ba) : Prop where
  kn : ∀ n s, b.kn n = some s → s.1 = n ∧ sf s = 0
  n1 : 1 ≤ b.ow.length
  n3 : b.ow.length ≤ 3
/-- .. of the first k ports. -/
def allK : List (Int → Bool) → Int → Int → Int → Nat → List (Int → Bool)
  | [], _, _, _, _ => []
  | o :: r, _, _, _, 0 => o :: r
  | o :: r, i, n, but, k + 1 => aO o i n but :: allK r (i + 1) n but k
theorem aO_same {o : Int → Bool} {i n but : Int} (h : i = but) : aO o i n but = o := if_pos h
theorem aO_other {o : Int → Bool} {i n but : Int} (h : ¬ i = but) : aO o i n but = upI o n true := if_neg h
theorem modW_len : ∀ {l : List (Int → Bool)} {p : Int} {F : (Int → Bool) → Int → Bool}, (modW l p F).length = l.length
  | [], p, F => rfl
  | o :: r, p, F => by simp [modW, modW_len]
theorem allW_len : ∀ {l : List (Int → Bool)} {i n b : Int}, (allW l i n b).length = l.length
  | [], i, n, b => rfl
  | o :: r, i, n, b => by simp [allW, allW_len]
theorem Ba.ok.range {b : Ba} (h : b.ok) {n : Int} {s : St3} (hs : b.kn n = some s) : 1 ≤ n ∧ n ≤ 6 := by
  obtain ⟨h1, h2⟩ := h.kn n s hs
  have := sfault_good h2
  omega
theorem kn_upd {kn : Int → Option St3} {s : St3} (h : ∀ n t, kn n = some t → t.1 = n ∧ sf t = 0) (hs : sf s = 0) : ∀ n t, upI kn s.1 (some s) n = some t → t.1 = n ∧ sf t = 0 := by
  intro n t ht
  unfold upI at ht
  split at ht
  · rename_i e
    obtain rfl := Option.some.inj ht
    exact ⟨e.symm, hs⟩
  · exact h n t ht
theorem setB_ok {b : Ba} (h : b.ok) (s : St3) : (setB b s).ok := by
  unfold setB
  split
  · exact ⟨kn_upd h.kn (by assumption), by rw [allW_len]; exact h.n1, by rw [allW_len]; exact h.n3⟩
  · exact h
theorem takeB_ok {b : Ba} (h : b.ok) (p : Int) (s : St3) : (takeB b p s).ok := by
  unfold takeB
  split
  · rename_i hc
    split
    · exact ⟨kn_upd h.kn hc.2, by rw [modW_len, allW_len]; exact h.n1, by rw [modW_len, allW_len]; exact h.n3⟩
    · split
      · exact ⟨h.kn, by rw [modW_len]; exact h.n1, by rw [modW_len]; exact h.n3⟩
      · exact ⟨h.kn, by rw [modW_len]; exact h.n1, by rw [modW_len]; exact h.n3⟩
  · exact h
theorem hrdB_ok {b : Ba} (h : b.ok) (p : Int) (s : St3) : (hrdB b p s).ok := by
  unfold hrdB
  split
  · exact ⟨h.kn, by rw [modW_len]; exact h.n1, by rw [modW_len]; exact h.n3⟩
  · exact h
theorem metB_ok {b : Ba} (h : b.ok) (p : Int) : (metB b p).ok := by
  unfold metB
  split
  · exact ⟨h.kn, by rw [modW_len]; exact h.n1, by rw [modW_len]; exact h.n3⟩
  · exact h
theorem parB_ok {b : Ba} (h : b.ok) (p : Int) : (parB b p).ok := by
  unfold parB
  split
  · exact ⟨h.kn, by rw [modW_len]; exact h.n1, by rw [modW_len]; exact h.n3⟩
  · exact h
theorem newB_ok {n : Nat} (h1 : 1 ≤ n) (h3 : n ≤ 3) : (newB n).ok := ⟨fun _ _ h => (by cases h), by simpa [newB] using h1, by simpa [newB] using h3⟩
theorem stsB_len {b : Ba} : (stsB b).length ≤ 6 := by
  unfold stsB
  exact Nat.le_trans (List.length_filterMap_le ..) (Nat.le_refl _)
theorem stsB_mem {b : Ba} (h : b.ok) : ∀ s ∈ stsB b, sf s = 0 ∧ b.kn s.1 = some s := by
  intro s hs
  obtain ⟨n, _, hn⟩ := List.mem_filterMap.1 hs
  obtain ⟨h1, h2⟩ := h.kn n s hn
  rw [h1]
  exact ⟨h2, hn⟩
theorem nws_range (s t : St3) : -1 ≤ nws s t ∧ nws s t ≤ 1 := nw_range _ _ _ _
theorem takK_cases (b : Ba) (s : St3) : takK b s = 1 ∨ takK b s = 0 ∨ takK b s = -1 := by
  unfold takK
  split
  · have := nws_range s (by assumption)
    omega
  · exact .inl rfl
end Go.Proofs.Ytimfnpjcedjmiaa
