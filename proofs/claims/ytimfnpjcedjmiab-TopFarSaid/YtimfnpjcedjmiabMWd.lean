/-
  The reference's hops: all ways that come nowhere twice.
-/
import Derived.Test.YtimfnpjcedjmiabMWa
import Derived.Test.YtimfnpjcedjmiabLWb
namespace Go.Proofs.Ytimfnpjcedjmiab
open Go.RowKit
set_option linter.unusedSimpArgs false
set_option linter.unusedVariables false
theorem EE.been {M : Int → Int → Int} {at_ far by_ : Int} {been : Int → Bool} {n d f : Int} (h : EE M at_ far by_ been n d f) : n ≠ at_ ∧ been n = false := by
  have key : ∀ {been : Int → Bool} {a n : Int}, upd been a true n = false → n ≠ a ∧ been n = false := by
    intro been a n h
    by_cases e : n = a
    · subst e; rw [upd_same] at h; cases h
    · rw [upd_ne _ _ e] at h; exact ⟨e, h⟩
  induction h with
  | here hn hm hb => exact key hb
  | deep hu hm hb h ih => exact key ih.2
theorem wkN_root {M : Int → Int → Int} {r : Int} (hr : nod r) : wkN M 6 r 0 0 (beenL []) (fun _ => (0, 0, 0)) r = (0, 0, 0) := by
  rcases (wkN_bet (M := M) 6 r 0 0 (beenL []) (fun _ => (0, 0, 0)) hr rfl (by decide)).from_ r with e | ⟨d, f, h1, h2⟩
  · exact e
  · exact absurd rfl h1.been.1
theorem wkN_hop {M : Int → Int → Int} {r n : Int} (hM : MOk M) (hr : nod r) (hn : nod n) (b : Hp) (hb : wkN M 6 r 0 0 (beenL []) (fun _ => (0, 0, 0)) n = b) : hopAt M r n = if 0 < b.1 then [b] else [] := by
  unfold hopAt
  by_cases e : n = r
  · subst e
    rw [wkN_root hr] at hb
    subst hb
    rw [hopV_self]; rfl
  · obtain ⟨h1, h2⟩ := wkN_best hM hr e
    cases hv : hopV M r n with
    | none =>
      rw [h2 hv] at hb
      subst hb; rfl
    | some p =>
      obtain ⟨d, f⟩ := p
      rw [h1 d f hv] at hb
      subst hb
      unfold nod at hn
      rw [if_pos (by show 0 < n; omega)]
def restL (n : Int) : List Int := ([1, 2, 3, 4, 5, 6] : List Int).drop (n.toNat - 1)
theorem or6' {a b c d e f p : Prop} (h : a ∨ b ∨ c ∨ d ∨ e ∨ f) (h1 : a → p) (h2 : b → p) (h3 : c → p) (h4 : d → p) (h5 : e → p) (h6 : f → p) : p := by
  rcases h with h | h | h | h | h | h
  · exact h1 h
  · exact h2 h
  · exact h3 h
  · exact h4 h
  · exact h5 h
  · exact h6 h
theorem restL_cons {n : Int} (h1 : 1 ≤ n) (h6 : n ≤ 6) : restL n = n :: restL (n + 1) := by
  rcases (by omega : n = 1 ∨ n = 2 ∨ n = 3 ∨ n = 4 ∨ n = 5 ∨ n = 6) with rfl | rfl | rfl | rfl | rfl | rfl <;> rfl
def bolC (f : Int → Bool) : List AV := [.v (.bool (f 0)), .v (.bool (f 1)), .v (.bool (f 2)), .v (.bool (f 3)), .v (.bool (f 4)), .v (.bool (f 5)), .v (.bool (f 6))]
def bstC (b : Int → Hp) : List AV := [.v (.int .i64 (b 0).1), .v (.int .i64 (b 0).2.1), .v (.int .i64 (b 0).2.2), .v (.int .i64 (b 1).1), .v (.int .i64 (b 1).2.1), .v (.int .i64 (b 1).2.2), .v (.int .i64 (b 2).1), .v (.int .i64 (b 2).2.1), .v (.int .i64 (b 2).2.2), .v (.int .i64 (b 3).1), .v (.int .i64 (b 3).2.1), .v (.int .i64 (b 3).2.2), .v (.int .i64 (b 4).1), .v (.int .i64 (b 4).2.1), .v (.int .i64 (b 4).2.2), .v (.int .i64 (b 5).1), .v (.int .i64 (b 5).2.1), .v (.int .i64 (b 5).2.2), .v (.int .i64 (b 6).1), .v (.int .i64 (b 6).2.1), .v (.int .i64 (b 6).2.2)]
theorem cutR {k id : Nat} {x : (AS → Prop) → AS → Prop} {y : AS → Prop} {A : AS} (B0 : AS) (hy : y B0) (hx : y B0 → x (fun A' => ∃ B, AS.le k A' B ∧ y B) A) : StopSeq k id x y A := ⟨hx hy⟩
end Go.Proofs.Ytimfnpjcedjmiab
