/-
  Engine G, part 24: loops by states; nothing becomes a slice of one's own; helpers.
-/
import Derived.Test.YtimfnpjcedjmiaaG23
import Derived.Test.YtimfnpjcedjmiaaEq
namespace Go.Proofs.Ytimfnpjcedjmiaa
open Go.RowKit
set_option linter.unusedSimpArgs false
set_option linter.unusedVariables false

theorem mixed : Try.prog.follows .mixedOrders = true := by kernel_rfl
/-- A loop, by states. -/
theorem lpG {k : Nat} {step : (AS → Prop) → AS → Prop} {A : AS} {S : Type} (B : S → AS) (ok : S → Prop) (meas : S → Nat) (s0 : S) (h0 : ok s0) (hle : AS.le k A (B s0))
    (hr : ∀ s, ok s → step (fun B' => ∃ m' B'', m' < meas s ∧ AS.le k B' B'' ∧ ∃ s', ok s' ∧ meas s' = m' ∧ B s' = B'') (B s)) : StopLoop k step A :=
  ⟨fun m A' => ∃ s, ok s ∧ meas s = m ∧ B s = A', ⟨meas s0, B s0, hle, s0, h0, rfl, rfl⟩, fun m A' ⟨s, hs, hm, hB⟩ => by subst hm hB; exact hr s hs⟩
theorem nextG {k m : Nat} {B' : AS} {S : Type} {B : S → AS} {ok : S → Prop} {meas : S → Nat} (s' : S) (hok : ok s') (hlt : meas s' < m) (hle : AS.le k B' (B s')) :
    ∃ m' B'', m' < m ∧ AS.le k B' B'' ∧ ∃ s', ok s' ∧ meas s' = m' ∧ B s' = B'' := ⟨_, _, hlt, hle, s', hok, rfl, rfl⟩
theorem cutG {k id : Nat} {x : (AS → Prop) → AS → Prop} {y : AS → Prop} {A : AS} (h : x (fun A' => ∃ B, AS.le k A' B ∧ y B) A) : StopSeq k id x y A := ⟨h⟩

/-- Nothing, as a slice of one's own that nothing was put into. -/
theorem le_nil {k : Nat} {fr : List (Nat × AV)} {mem : List Res} (t E sz : Nat) (h : lk fr t = .v (.slice none 0 0)) : AS.le k ⟨fr, mem⟩ ⟨(t, .sl sz [] (some (mem.length, 0))) :: fr, mem ++ [.grow E sz 0]⟩ := by
  intro n fp w0 σ μ Ds a w hk hr
  have hnew := hr.newGrow (E := E) (sz := sz) (m := 0) (ao := none) (cap := 0) (xs := []) (Nat.le_refl _) rfl rfl rfl (fun _ _ => rfl) ⟨by simp, .inl ⟨rfl, rfl⟩⟩ (fun k hk => by cases hk)
  refine ⟨_, _, hnew.defers, hnew.size, fun u av hu => ?_, hnew.agree, hnew.mem, hnew.own, hnew.keeps, hnew.old, hnew.mono, hnew.gle, hnew.kout, hnew.klen⟩
  simp only [look] at hu
  split at hu
  · rename_i e
    subst e
    obtain rfl := Option.some.inj hu
    have hv := hr.ev (.tmp t)
    rw [show evO fr (.tmp t) = lk fr t from rfl, h] at hv
    rw [show a.tmps.getD t undef = _ from hv.inv_v]
    exact .sl _ sz [] _ none 0 0 0 (fun _ _ => undef) (Nat.le_refl _) (by decide) (.inl rfl) (fun r hr => by simp at hr) (fun i j r av g => by simp at g) (fun i j r av g => by simp at g) (fun i j r av g => by simp at g) (fun id' g' e' => by cases e'; exact ⟨_, updG_self, An.le_refl _⟩)
  · exact hnew.frame u av hu
/-- .. as an array of one's own of no rows. -/
theorem le_nilA {k : Nat} {fr : List (Nat × AV)} {mem : List Res} (t : Nat) (f : Bool) (E sz : Nat) (h : lk fr t = .v (.slice none 0 0)) : AS.le k ⟨fr, mem⟩ ⟨(t, .arr mem.length 0 0) :: fr, mem ++ [.arr f E sz 0 []]⟩ := by
  intro n fp w0 σ μ Ds a w hk hr
  have hnew := hr.newArr (E := E) (sz := sz) (f := f) (rows := []) (ao := none) (cap := 0) (xs := []) (Nat.le_refl _) rfl rfl rfl (fun _ _ => rfl) ⟨by simp, .inl ⟨rfl, rfl⟩⟩ (fun k hk => by cases hk) (fun r hr => by simp at hr) (fun i j r av g => by simp at g)
  refine ⟨_, _, hnew.defers, hnew.size, fun u av hu => ?_, hnew.agree, hnew.mem, hnew.own, hnew.keeps, hnew.old, hnew.mono, hnew.gle, hnew.kout, hnew.klen⟩
  simp only [look] at hu
  split at hu
  · rename_i e
    subst e
    obtain rfl := Option.some.inj hu
    have hv := hr.ev (.tmp t)
    rw [show evO fr (.tmp t) = lk fr t from rfl, h] at hv
    rw [show a.tmps.getD t undef = _ from hv.inv_v]
    exact .arr _ _ 0 0 none 0 0 _ (Nat.le_refl _) (Nat.le_refl _) (by decide) updG_self (An.le_refl _)
  · exact hnew.frame u av hu

-- indices
theorem idx_map {α : Type} {l : List α} {f : α → List AV} {k : Nat} {K : AV → Prop} (h : k < l.length) (hk : K (.adr (f l[k]))) : StopIdx (l.map f) (k : Int) K :=
  ⟨f l[k], by omega, by simp [h], hk⟩
theorem idx_mapI {α : Type} {l : List α} {f : α → List AV} {i : Int} {K : AV → Prop} (h0 : 0 ≤ i) (h : i.toNat < l.length) (hk : K (.adr (f l[i.toNat]))) : StopIdx (l.map f) i K :=
  ⟨f l[i.toNat], h0, by simp [h], hk⟩
theorem row_map {α : Type} {l : List α} {f : α → List AV} {k : Nat} {K : List AV → Prop} (h : k < l.length) (hk : K (f l[k])) : StopRow (l.map f) k K :=
  ⟨f l[k], by simp [h], hk⟩
/-- A slice among the arguments is no longer than a slice may be. -/
theorem fn_light {P : Program} {f : FuncId} {args : List AV} {m : List Res} {r : AV} {m' : List Res} (he : Enters P f) (i : Nat) {sz : Nat} {rows : List (List AV)} {o : Option (Nat × Nat)} (ha : args[i]? = some (.sl sz rows o)) (h : rows.length ≤ maxLen → Fn P f args m r m') : Fn P f args m r m' := by
  refine ⟨he, fun w σ μ Ds vs hag hmem hlen hargs => ?_⟩
  have hi : i < vs.size := by rw [hlen]; exact (List.getElem?_eq_some_iff.1 ha).1
  have := hargs i _ vs[i] ha (Array.getElem?_eq_getElem hi)
  refine (h ?_).2 w σ μ Ds vs hag hmem hlen hargs
  generalize vs[i] = x at this
  cases this with
  | sl _ _ _ _ ao cap b off f hcap hmax => exact Nat.le_trans hcap hmax
theorem byteAt_lt (s : ByteArray) (i : Nat) : byteAt s i < 256 := by
  unfold byteAt
  exact UInt8.toNat_lt _
theorem wrap_byte (s : ByteArray) (i : Nat) : IntKind.i64.wrap (byteAt s i : Int) = byteAt s i := by
  have := byteAt_lt s i
  exact wrap_in (by unfold In64; omega)
theorem neg_tt : neg true = false := rfl
theorem neg_ff : neg false = true := rfl
theorem neg_t {b : Bool} : (neg b = true) = (b = false) := by cases b <;> simp [neg]
theorem neg_f {b : Bool} : (neg b = false) = (b = true) := by cases b <;> simp [neg]

-- equality of structs
theorem eq_of {P : Program} {op : BinOp} {t : TypeId} {K : AV → Prop} (xs ys : List Value) (b : Bool) (h : EqOk P op t xs.toArray ys.toArray b) (hk : K (.v (.bool b))) : StopEq P op t (xs.map .v) (ys.map .v) K := ⟨xs, ys, b, rfl, rfl, h, hk⟩
section
variable {K : AV → Prop} {a b c d e f : Int}
theorem eq_option (h : K (.v (.bool (a == c && b == d)))) : StopEq Try.prog .eql 163 [.v (.int .i64 a), .v (.int .i64 b)] [.v (.int .i64 c), .v (.int .i64 d)] K :=
  eq_of [.int .i64 a, .int .i64 b] [.int .i64 c, .int .i64 d] _ (fun x y w => by simp only [Sem.run_bind, eqg_option, Result.andThen_ok, eql_option]) h
theorem ne_option (h : K (.v (.bool (!(a == c && b == d))))) : StopEq Try.prog .neq 163 [.v (.int .i64 a), .v (.int .i64 b)] [.v (.int .i64 c), .v (.int .i64 d)] K :=
  eq_of [.int .i64 a, .int .i64 b] [.int .i64 c, .int .i64 d] _ (fun x y w => by simp only [Sem.run_bind, eqg_option, Result.andThen_ok, neq_option]) h
theorem eq_edge (h : K (.v (.bool (a == c && b == d)))) : StopEq Try.prog .eql 168 [.v (.int .i64 a), .v (.int .i64 b)] [.v (.int .i64 c), .v (.int .i64 d)] K :=
  eq_of [.int .i64 a, .int .i64 b] [.int .i64 c, .int .i64 d] _ (fun x y w => by simp only [Sem.run_bind, eqg_edge, Result.andThen_ok, eql_edge]) h
theorem ne_edge (h : K (.v (.bool (!(a == c && b == d))))) : StopEq Try.prog .neq 168 [.v (.int .i64 a), .v (.int .i64 b)] [.v (.int .i64 c), .v (.int .i64 d)] K :=
  eq_of [.int .i64 a, .int .i64 b] [.int .i64 c, .int .i64 d] _ (fun x y w => by simp only [Sem.run_bind, eqg_edge, Result.andThen_ok, neq_edge]) h
theorem eq_policy (h : K (.v (.bool (a == c && b == d)))) : StopEq Try.prog .eql 61 [.v (.int .i64 a), .v (.int .i64 b)] [.v (.int .i64 c), .v (.int .i64 d)] K :=
  eq_of [.int .i64 a, .int .i64 b] [.int .i64 c, .int .i64 d] _ (fun x y w => by simp only [Sem.run_bind, eqg_policy, Result.andThen_ok, eql_policy]) h
theorem ne_policy (h : K (.v (.bool (!(a == c && b == d))))) : StopEq Try.prog .neq 61 [.v (.int .i64 a), .v (.int .i64 b)] [.v (.int .i64 c), .v (.int .i64 d)] K :=
  eq_of [.int .i64 a, .int .i64 b] [.int .i64 c, .int .i64 d] _ (fun x y w => by simp only [Sem.run_bind, eqg_policy, Result.andThen_ok, neq_policy]) h
theorem eq_hop (h : K (.v (.bool (a == d && b == e && c == f)))) : StopEq Try.prog .eql 78 [.v (.int .i64 a), .v (.int .i64 b), .v (.int .i64 c)] [.v (.int .i64 d), .v (.int .i64 e), .v (.int .i64 f)] K :=
  eq_of [.int .i64 a, .int .i64 b, .int .i64 c] [.int .i64 d, .int .i64 e, .int .i64 f] _ (fun x y w => by simp only [Sem.run_bind, eqg_hop, Result.andThen_ok, eql_hop]) h
theorem ne_hop (h : K (.v (.bool (!(a == d && b == e && c == f))))) : StopEq Try.prog .neq 78 [.v (.int .i64 a), .v (.int .i64 b), .v (.int .i64 c)] [.v (.int .i64 d), .v (.int .i64 e), .v (.int .i64 f)] K :=
  eq_of [.int .i64 a, .int .i64 b, .int .i64 c] [.int .i64 d, .int .i64 e, .int .i64 f] _ (fun x y w => by simp only [Sem.run_bind, eqg_hop, Result.andThen_ok, neq_hop]) h
end
end Go.Proofs.Ytimfnpjcedjmiaa
