/-
  Engine G, extensions: an array of one's own is written no more.
-/
import Derived.Test.YtimfnpjcedjmiaaGO
namespace Go.Proofs.Ytimfnpjcedjmiaa
open Go.RowKit
set_option linter.unusedSimpArgs false
set_option linter.unusedVariables false
/-- An array of one's own that nobody writes any more: its rows stay. -/
theorem le_freeze {k : Nat} {fr : List (Nat × AV)} {mem : List Res} (t id : Nat) {g n E sz : Nat} {rows : List (List AV)} (h : lk fr t = .arr id g n) (hid : mem[id]? = some (.arr true E sz g rows)) :
    AS.le k ⟨fr, mem⟩ ⟨(t, .sl sz (rows.take n) none) :: fr, mem.set id .gone⟩ := by
  intro nn fp w0 σ μ Ds a w hk hr
  have hlt : id < mem.length := (List.getElem?_eq_some_iff.1 hid).1
  obtain ⟨ao, cap, xs, h1, h2, h3, h4, h5, h6⟩ := hr.mem.ok id _ hid
  have hev := hr.ev (.tmp t)
  rw [show evO fr (.tmp t) = lk fr t from rfl, h] at hev
  obtain ⟨ao2, m, cap2, an, hx, k1, k2, k3, hmu, hle⟩ := hev.inv_arr
  rw [h1] at hmu
  obtain rfl := Option.some.inj hmu
  obtain ⟨_, hle⟩ := hle
  obtain ⟨e1, e2, e3⟩ := hle rfl
  subst e1 e3
  let σ' : Store := fun b o => if blkA ao = some b then xs[o]? else σ b o
  have hs : ∀ b o y, σ b o = some y → σ' b o = some y := fun b o y hy => by
    dsimp only [σ']
    split
    · rename_i e
      rw [h5 b ((h6 b).2 e) o] at hy; cases hy
    · exact hy
  have hag : Agree σ' w := fun b o y hy => by
    dsimp only [σ'] at hy
    split at hy
    · rename_i e
      exact ownsRow_cell h2 e hy
    · exact hr.agree b o y hy
  have hu := hr.upd (id := id) (r := .gone) (D := fun _ => False) (an := .cur ao rows.length cap g) (σ' := σ') (w' := w) (Nat.le_of_lt hlt) (Nat.le_refl _) rfl rfl rfl
    (fun b hb hd => ⟨rfl, fun o => if_neg (fun e => hd ((h6 b).2 e))⟩) hs hag (fun b hb => hb) (fun b hb => hb.elim) (fun x hx => by rw [h1] at hx; obtain rfl := Option.some.inj hx; exact An.le_refl _)
  have hp : putR mem id .gone = mem.set id .gone := putR_set hlt
  rw [show (⟨fr, mem⟩ : AS).mem = mem from rfl, hp] at hu
  have hlen : (rows.take n).length = n := by rw [List.length_take]; omega
  have hrep : RepV σ' (updG μ id (.cur ao rows.length cap g)) (.sl sz (rows.take n) none) (.slice ao n cap) := by
    have hget : ∀ (i : Nat) (r : List AV), (rows.take n)[i]? = some r → rows[i]? = some r := fun i r hi => by
      rw [List.getElem?_take] at hi
      split at hi
      · exact hi
      · cases hi
    have hao : rows.take n = [] ∨ ∃ b, ao = some ⟨b, 0, none⟩ := by
      rcases h2.2 with ⟨e, _⟩ | ⟨b, cp, cur, e, _⟩
      · simp only [Value.slice.injEq] at e
        left
        exact List.eq_nil_of_length_eq_zero (by rw [hlen]; omega)
      · simp only [Value.slice.injEq] at e
        exact .inr ⟨b, e.1⟩
    have key : ∀ b, (rows.take n = [] ∨ ao = some ⟨b, 0, none⟩) → RepV σ' (updG μ id (.cur ao rows.length cap g)) (.sl sz (rows.take n) none) (.slice ao (rows.take n).length cap) := by
      intro b hb
      refine .sl _ sz _ none ao cap b 0 (fun i j => (xs[i * sz + j]?).getD undef) (by rw [hlen]; omega) k3 hb (fun r hr => h3 r (List.mem_of_mem_take hr)) (fun i j r av g1 g2 => ?_) (fun i j r av g1 g2 => ?_) (fun i j r av g1 g2 => ?_) (fun id g h => by cases h)
      · obtain ⟨y, y1, y2, y3⟩ := h4 i j r av (hget i r g1) g2
        rcases hb with hb | hb
        · rw [hb] at g1; simp at g1
        · subst hb
          show σ' b (0 + i * sz + j) = _
          dsimp only [σ']
          rw [if_pos (show blkA (some (⟨b, 0, none⟩ : Addr)) = some b from rfl), Nat.zero_add, y1]; rfl
      · obtain ⟨y, y1, y2, y3⟩ := h4 i j r av (hget i r g1) g2
        simp only [y1, Option.getD_some]
        exact y2.mono hs (Gle.refl _)
      · obtain ⟨y, y1, y2, y3⟩ := h4 i j r av (hget i r g1) g2
        simp only [y1, Option.getD_some]
        exact y3
    rcases hao with hao | ⟨b, hao⟩
    · have := key 0 (.inl hao)
      rw [hlen] at this
      exact this
    · have := key b (.inr hao)
      rw [hlen] at this
      exact this
  have hx' : a.tmps.getD t undef = .slice ao n cap := hx
  refine ⟨_, _, _, ⟨hu.defers, hu.size, fun u av hu' => ?_, hu.agree, hu.mem, hu.own, hu.keeps, hu.old, hu.mono, hu.gle, hu.kout, hu.klen⟩⟩
  simp only [look] at hu'
  split at hu'
  · rename_i e
    subst e
    obtain rfl := Option.some.inj hu'
    rw [hx']
    exact hrep
  · exact hu.frame u av hu'
-- what stands by itself
section
variable {m m' : List Res} {ρ : List Nat}
theorem RVal_refl (x : Value) : RVal x x := by
  unfold RVal
  split
  · rename_i k n
    show tt (kEq k k) (Vc (n = n))
    rw [kEq_self]; exact ⟨rfl⟩
  · exact ⟨rfl⟩
  · exact ⟨rfl⟩
  · exact ⟨rfl⟩
theorem RK0_free {v : AV} (h : v.free0 = true) : RK0 m m' ρ v v := by
  cases v with
  | any => trivial
  | v x => exact RVal_refl x
  | err k => exact ⟨rfl⟩
  | sl sz rows own =>
    cases own with
    | none => exact ⟨rfl, .inl rfl⟩
    | some p => simp [AV.free0] at h
  | adr c => exact ⟨rfl⟩
  | _ => simp [AV.free0] at h
theorem RKL0_free : ∀ {l : List AV}, (∀ x ∈ l, x.free0 = true) → RKL0 m m' ρ l l
  | [], _ => trivial
  | a :: l, h => ⟨RK0_free (h a (List.mem_cons_self ..)), RKL0_free fun x hx => h x (List.mem_cons_of_mem _ hx)⟩
theorem RK1_free {v : AV} (h : v.free1 = true) : RK1 m m' ρ v v := by
  by_cases hv : v.free0 = true
  · have := RK0_free (m := m) (m' := m') (ρ := ρ) hv
    cases v <;> first | exact this | (simp [AV.free0] at hv)
  · cases v with
    | agg l => exact RKL0_free (List.all_eq_true.1 h)
    | _ => exact absurd h hv
theorem RKL1_free : ∀ {l : List AV}, (∀ x ∈ l, x.free1 = true) → RKL1 m m' ρ l l
  | [], _ => trivial
  | a :: l, h => ⟨RK1_free (h a (List.mem_cons_self ..)), RKL1_free fun x hx => h x (List.mem_cons_of_mem _ hx)⟩
theorem RK_free {v : AV} (h : v.free = true) : RK m m' ρ v v := by
  by_cases hv : v.free1 = true
  · have := RK1_free (m := m) (m' := m') (ρ := ρ) hv
    cases v <;> first | exact this | (simp [AV.free1, AV.free0] at hv)
  · cases v with
    | tup l => exact RKL1_free (List.all_eq_true.1 h)
    | _ => exact absurd h hv
end
end Go.Proofs.Ytimfnpjcedjmiaa
