/-
  Engine G, extensions: arrays of one's own that begin anew.
-/
import Derived.Test.YtimfnpjcedjmiaaVoc
namespace Go.Proofs.Ytimfnpjcedjmiaa
open Go.RowKit
set_option linter.unusedSimpArgs false
set_option linter.unusedVariables false
theorem rep_nilA {σ : Store} {μ : Ghost} {id g : Nat} {a : An} (h : μ id = some a) (hl : (An.cur none 0 0 g).le a) : RepV σ μ (.arr id g 0) (.slice none 0 0) :=
  .arr _ _ _ 0 none 0 0 _ (Nat.le_refl _) (Nat.le_refl _) (by decide) h hl
/-- Nothing in a cell becomes an array of one's own of no rows. -/
theorem le_nilAC {k : Nat} {fr : List (Nat × AV)} {mem : List Res} (f : Bool) (id j E sz : Nat) (l : List AV) (hid : mem[id]? = some (.cells l)) (hj : l[j]? = some (.v (.slice none 0 0))) :
    AS.le k ⟨fr, mem⟩ ⟨fr, (mem ++ [Res.arr f E sz 0 []]).set id (.cells (l.set j (.arr mem.length 0 0)))⟩ := by
  intro n fp w0 σ μ Ds a w hk hr
  have hlt : id < mem.length := (List.getElem?_eq_some_iff.1 hid).1
  have hnew := hr.newArr (E := E) (sz := sz) (f := f) (rows := []) (ao := none) (cap := 0) (xs := []) (Nat.le_refl _) rfl rfl rfl (fun _ _ => rfl) ⟨by simp, .inl ⟨rfl, rfl⟩⟩ (fun k hk => by cases hk) (fun r hr => by simp at hr) (fun i j r av g => by simp at g)
  exact ⟨_, _, _, hnew.recell (id := id) (j := j) (by rw [List.getElem?_append_left hlt]; exact hid) hj (fun x hx => by rw [hx.inv_v]; exact rep_nilA updG_self (An.le_refl _))⟩
/-- An array of one's own is left alone, and begins anew; so a cell that holds nothing holds it. -/
theorem le_anewC {k : Nat} {fr : List (Nat × AV)} {mem : List Res} (q : Nat) {f : Bool} {E sz g : Nat} {rows : List (List AV)} (id j : Nat) (l : List AV) (hq : mem[q]? = some (.arr f E sz g rows)) (hne : q ≠ id) (hid : mem[id]? = some (.cells l)) (hj : l[j]? = some (.v (.slice none 0 0))) :
    AS.le k ⟨fr, mem⟩ ⟨fr, (mem.set q (.arr f E sz (g + 1) [])).set id (.cells (l.set j (.arr q (g + 1) 0)))⟩ := by
  intro n fp w0 σ μ Ds a w hk hr
  have hlt : q < mem.length := (List.getElem?_eq_some_iff.1 hq).1
  obtain ⟨ao, cap, xs, h1, _⟩ := hr.mem.ok q _ hq
  have hu := hr.upd (id := q) (r := .arr f E sz (g + 1) []) (D := fun _ => False) (an := .cur none 0 0 (g + 1)) (σ' := σ) (w' := w) (Nat.le_of_lt hlt) (Nat.le_refl _) rfl rfl rfl (fun b hb hd => ⟨rfl, fun o => rfl⟩) (fun b o y hy => hy) hr.agree
    ⟨none, 0, [], updG_self, ⟨by simp, .inl ⟨rfl, rfl⟩⟩, fun r hr => by simp at hr, fun i j r av g => by simp at g, fun k hk => hk.elim, fun k => ⟨fun h => h.elim, fun h => by cases h⟩⟩
    (fun b hb => hb.elim) (fun a ha => by rw [h1] at ha; obtain rfl := Option.some.inj ha; exact ⟨by omega, fun e => by omega⟩)
  have hp : putR mem q (.arr f E sz (g + 1) []) = mem.set q (.arr f E sz (g + 1) []) := by unfold putR; rw [if_pos hlt]
  rw [show (⟨fr, mem⟩ : AS).mem = mem from rfl, hp] at hu
  exact ⟨_, _, _, hu.recell (id := id) (j := j) (by show (mem.set q _)[id]? = _; rw [List.getElem?_set_ne hne]; exact hid) hj (fun x hx => by rw [hx.inv_v]; exact rep_nilA updG_self (An.le_refl _))⟩
-- parts of a function's code
/-- The bodies of the loops of a code, as they begin. -/
noncomputable def loopsOf (c : Code) : List Code :=
  Code.rec (motive := fun _ => List Code) [] (fun _ _ _ => []) (fun _ _ a b => a ++ b) (fun _ _ _ a b => a ++ b) (fun _ _ a => a) (fun c a => c :: a) (fun _ _ _ _ _ _ => []) (fun _ => []) (fun _ a => a) (fun _ => []) (fun _ => []) [] (fun _ => []) c
noncomputable def nthLoop (f : Func) (i : Nat) : Code :=
  match f.body with
  | some c => (loopsOf c).getD i .skip
  | none => .skip
theorem or6 {a b c d e f p : Prop} (h : a ∨ b ∨ c ∨ d ∨ e ∨ f) (h1 : a → p) (h2 : b → p) (h3 : c → p) (h4 : d → p) (h5 : e → p) (h6 : f → p) : p := by
  rcases h with h | h | h | h | h | h
  · exact h1 h
  · exact h2 h
  · exact h3 h
  · exact h4 h
  · exact h5 h
  · exact h6 h
theorem or3 {a b c p : Prop} (h : a ∨ b ∨ c) (h1 : a → p) (h2 : b → p) (h3 : c → p) : p := by
  rcases h with h | h | h
  · exact h1 h
  · exact h2 h
  · exact h3 h
theorem or7 {a b c d e f g p : Prop} (h : a ∨ b ∨ c ∨ d ∨ e ∨ f ∨ g) (h1 : a → p) (h2 : b → p) (h3 : c → p) (h4 : d → p) (h5 : e → p) (h6 : f → p) (h7 : g → p) : p := by
  rcases h with h | h
  · exact h1 h
  · exact or6 h h2 h3 h4 h5 h6 h7
theorem cutK {k id : Nat} {x : (AS → Prop) → AS → Prop} {y : AS → Prop} {A : AS} (B0 : AS) (hy : y B0) (hx : y B0 → x (fun A' => ∃ B, AS.le k A' B ∧ y B) A) : StopSeq k id x y A := ⟨hx hy⟩
end Go.Proofs.Ytimfnpjcedjmiaa
