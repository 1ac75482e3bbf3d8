/-
  Engine G, part 26: nothing in a cell becomes a slice of one's own.
-/
import Derived.Test.YtimfnpjcedjmiaaG25
namespace Go.Proofs.Ytimfnpjcedjmiaa
open Go.RowKit
set_option linter.unusedSimpArgs false
set_option linter.unusedVariables false
theorem rep_nil {σ : Store} {μ : Ghost} {sz id g : Nat} {a : An} (h : μ id = some a) (hl : (An.cur none 0 0 g).le a) : RepV σ μ (.sl sz [] (some (id, g))) (.slice none 0 0) :=
  .sl _ sz [] _ none 0 0 0 (fun _ _ => undef) (Nat.le_refl _) (by decide) (.inl rfl) (fun r hr => by simp at hr) (fun i j r av g => by simp at g) (fun i j r av g => by simp at g) (fun i j r av g => by simp at g) (fun id' g' e' => by cases e'; exact ⟨_, h, hl⟩)
/-- A cell is known otherwise. -/
theorem Rel.recell {n : Nat} {fp : Nat → Prop} {w0 : Start} {σ : Store} {μ : Ghost} {Ds : Nat → Nat → Prop} {A : AS} {a : Act} {w : World} (h : Rel n fp w0 σ μ Ds A a w) {id j : Nat} {l : List AV} {u v : AV} (hid : A.mem[id]? = some (.cells l)) (hj : l[j]? = some u) (hv : ∀ x, RepV σ μ u x → RepV σ μ v x) :
    Rel n fp w0 σ μ Ds ⟨A.fr, A.mem.set id (.cells (l.set j v))⟩ a w := by
  have hlt : id < A.mem.length := (List.getElem?_eq_some_iff.1 hid).1
  refine ⟨h.defers, h.size, h.frame, h.agree, ⟨fun i r hi => ?_, h.mem.apart, fun i hi => h.mem.out i (by simpa using hi)⟩, h.own, h.keeps, h.old, h.mono, h.gle, h.kout, by simpa using h.klen⟩
  rw [List.getElem?_set] at hi
  split at hi
  · rename_i e
    subst e
    obtain rfl := Option.some.inj hi
    obtain ⟨b, c, T, h1, h2, h3, h4, h5, h6⟩ := h.mem.ok _ _ hid
    refine ⟨b, c, T, h1, h2, by simpa using h3, fun q av hq => ?_, h5, h6⟩
    rw [List.getElem?_set] at hq
    split at hq
    · rename_i e
      subst e
      rw [if_pos (by first | exact (List.getElem?_eq_some_iff.1 hj).1 | exact trivial)] at hq
      obtain rfl := Option.some.inj hq
      obtain ⟨x, hx, hr⟩ := h4 _ _ hj
      exact ⟨x, hx, hv x hr⟩
    · exact h4 q av hq
  · exact h.mem.ok i r hi
theorem le_nilC {k : Nat} {fr : List (Nat × AV)} {mem : List Res} (id j E sz : Nat) (l : List AV) (hid : mem[id]? = some (.cells l)) (hj : l[j]? = some (.v (.slice none 0 0))) :
    AS.le k ⟨fr, mem⟩ ⟨fr, (mem ++ [Res.grow E sz 0]).set id (.cells (l.set j (.sl sz [] (some (mem.length, 0)))))⟩ := by
  intro n fp w0 σ μ Ds a w hk hr
  have hlt : id < mem.length := (List.getElem?_eq_some_iff.1 hid).1
  have hnew := hr.newGrow (E := E) (sz := sz) (m := 0) (ao := none) (cap := 0) (xs := []) (Nat.le_refl _) rfl rfl rfl (fun _ _ => rfl) ⟨by simp, .inl ⟨rfl, rfl⟩⟩ (fun k hk => by cases hk)
  exact ⟨_, _, hnew.recell (id := id) (j := j) (by rw [List.getElem?_append_left hlt]; exact hid) hj (fun x hx => by rw [hx.inv_v]; exact rep_nil updG_self (An.le_refl _))⟩
end Go.Proofs.Ytimfnpjcedjmiaa
