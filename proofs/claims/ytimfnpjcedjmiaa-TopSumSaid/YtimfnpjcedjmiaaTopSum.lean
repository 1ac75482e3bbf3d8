/-
  The statement TopSum: a byte that is turned turns the sum.
-/
import Derived.Test.YtimfnpjcedjmiaaLSum
import Derived.Test.YtimfnpjcedjmiaaOpen
import Derived.Test.YtimfnpjcedjmiaaBits
import Derived.Outline
import Derived.Deep.DeepCutAuto
import Derived.Deep.RegionWith
import Derived.Deep.CutBlock
namespace Go.Proofs.Ytimfnpjcedjmiaa
set_option linter.unusedSimpArgs false
open Go.RowKit
theorem sumC (s : ByteArray) (hs : s.size ≤ 1000000) (w : World) :
    Calls Try.prog 50 #[.string s] w fun e w' => e = .returned (.int .i64 (sumL (bs s))) ∧ Below w.heap.size w w' :=
  (fn_run (sum_ok s hs) w #[.string s] rfl (fun i av x h1 h2 => by
    match i with
    | 0 => simp at h1 h2; subst h1 h2; exact .v _ _
    | i + 1 => simp at h1)).mono fun e w' ⟨x, σ', μ', he, hr, hb⟩ => ⟨by rw [he, hr.inv_v], hb⟩
set_option maxHeartbeats 2000000 in
set_option maxRecDepth 100000 in
theorem topSum_good (s : ByteArray) (a : Int) (t : Int) (ht : 0 ≤ t ∧ t < 256) (w : World) :
    Calls Try.prog 12 #[.string s, .int .i64 a, .int .u8 t] w fun e w' => e = .returned (.bool true) ∧ Below w.heap.size w w' := by
  have ca := fun w => sumC ⟨#[97]⟩ (by decide) w
  have cb := fun w => sumC ⟨#[98]⟩ (by decide) w
  go_enter Try.func12, Try.ntmps12
  have hne : (((sumL (bs ⟨#[97]⟩) : Nat) : Int) == ((sumL (bs ⟨#[98]⟩) : Nat) : Int)) = false := by decide +kernel
  generalize ((sumL (bs ⟨#[97]⟩) : Nat) : Int) = x at ca hne
  generalize ((sumL (bs ⟨#[98]⟩) : Nat) : Int) = y at cb hne
  by_cases h0 : s.size = 0 ∨ 300 < s.size ∨ t = 0
  · go_upto_region 3 with (first | (go_at_call 50; (with_reducible refine (ca _).mono ?_); rintro e w' ⟨rfl, hb⟩; obtain ⟨ex1, d1, rfl⟩ := plus_of hb; clear hb) | (go_at_call 50; (with_reducible refine (cb _).mono ?_); rintro e w' ⟨rfl, hb⟩; obtain ⟨ex2, d2, rfl⟩ := plus_of hb; clear hb))
    by_cases h1 : s.size = 0
    · go_wp2
      go_returns
      exact ⟨rfl, by repeat' (first | (with_reducible exact Below.refl _ _) | (with_reducible assumption) | (with_reducible refine Below.plus ?_ ?_ _ _) | (with_reducible refine Below.alloc ?_ ?_ _) | (with_reducible refine Below.drew ?_) | (with_reducible refine Below.drewN ?_ _) | (with_reducible refine Below.setCell ?_ ?_ _) | (with_reducible exact Nat.le_refl _) | omega | (simp; omega) | (simp; done))⟩
    · by_cases h2 : 300 < s.size
      · go_wp2
        go_returns
        exact ⟨rfl, by repeat' (first | (with_reducible exact Below.refl _ _) | (with_reducible assumption) | (with_reducible refine Below.plus ?_ ?_ _ _) | (with_reducible refine Below.alloc ?_ ?_ _) | (with_reducible refine Below.drew ?_) | (with_reducible refine Below.drewN ?_ _) | (with_reducible refine Below.setCell ?_ ?_ _) | (with_reducible exact Nat.le_refl _) | omega | (simp; omega) | (simp; done))⟩
      · have h3 : t = 0 := by omega
        subst h3
        go_wp2
        go_returns
        exact ⟨rfl, by repeat' (first | (with_reducible exact Below.refl _ _) | (with_reducible assumption) | (with_reducible refine Below.plus ?_ ?_ _ _) | (with_reducible refine Below.alloc ?_ ?_ _) | (with_reducible refine Below.drew ?_) | (with_reducible refine Below.drewN ?_ _) | (with_reducible refine Below.setCell ?_ ?_ _) | (with_reducible exact Nat.le_refl _) | omega | (simp; omega) | (simp; done))⟩
  · have h1 : ¬ s.size = 0 := by omega
    have h2 : ¬ 300 < s.size := by omega
    have h3 : ¬ t = 0 := by omega
    have h4 : ((s.size : Int) == 0) = false := by simpa using h1
    have h5 : (t == 0) = false := by simpa using h3
    have h6 : decide (300 < (s.size : Int)) = false := decide_eq_false (by omega)
    go_upto_region 6 with (first | (go_at_call 50; (with_reducible refine (ca _).mono ?_); rintro e w' ⟨rfl, hb⟩; obtain ⟨ex1, d1, rfl⟩ := plus_of hb; clear hb) | (go_at_call 50; (with_reducible refine (cb _).mono ?_); rintro e w' ⟨rfl, hb⟩; obtain ⟨ex2, d2, rfl⟩ := plus_of hb; clear hb))
    rw [run_bytes_of_string _ 9 39 5 s Try.underlying9 Try.underlying39 Try.underlying5]
    generalize grownCap _ s.size 0 5 = cp
    go_upto_region 6 with (fail)
    obtain ⟨W, hW⟩ : ∃ W, W = plus (plus w ex1 d1) ex2 (d2 + 1) := ⟨_, rfl⟩
    have hG : w.heap.size + ex1.size + ex2.size = W.heap.size := by rw [hW]; simp
    have hB : Below w.heap.size w W := by rw [hW]; repeat' (first | (with_reducible exact Below.refl _ _) | (with_reducible assumption) | (with_reducible refine Below.plus ?_ ?_ _ _) | (with_reducible refine Below.alloc ?_ ?_ _) | (with_reducible refine Below.drew ?_) | (with_reducible refine Below.drewN ?_ _) | (with_reducible refine Below.setCell ?_ ?_ _) | (with_reducible exact Nat.le_refl _) | omega | (simp; omega) | (simp; done))
    rw [← hW]
    simp only [hG]
    clear hW hG
    obtain ⟨k, hk, hk2⟩ : ∃ k : Nat, (bits .and .i64 a 1023).tmod s.size = (k : Int) ∧ k < s.size := by
      have h := and_small a 1023 (by omega)
      refine ⟨((bits .and .i64 a 1023).tmod s.size).toNat, ?_, ?_⟩
      · exact (Int.toNat_of_nonneg (Int.tmod_nonneg _ h.1)).symm
      · have h8 := Int.tmod_lt_of_pos (bits .and .i64 a 1023) (b := s.size) (by omega)
        have h9 := Int.tmod_nonneg (s.size : Int) h.1
        omega
    have hR : ∀ j, j < s.size → (bytesRow s cp)[j]? = some (.int .u8 ((bs s).getD j 0).toNat) := fun j hj => by
      have hj' : j < s.data.size := hj
      have hso : s.data[j]? = some s.data[j] := Array.getElem?_eq_getElem hj'
      simp [bytesRow, Array.getElem?_append, hj, hso]
    have hRs : s.size ≤ (bytesRow s cp).size := by simp [bytesRow]
    obtain ⟨X, hX⟩ : ∃ X, X = W.alloc (.cells (bytesRow s cp) 5 ((bytesRow s cp).size, (bytesRow s cp).size + 1)) := ⟨_, rfl⟩
    have hc : ∀ j, j < s.size → X.cell? ⟨W.heap.size, j, none⟩ = some (.int .u8 ((bs s).getD j 0).toNat) := fun j hj => by
      rw [hX, World.cell?_alloc_mark]; exact hR j hj
    have hf : X.frozen? ⟨W.heap.size, k, none⟩ = false := by
      have : (W.alloc (.cells (bytesRow s cp) 5 ((bytesRow s cp).size, (bytesRow s cp).size + 1))).heap[W.heap.size]? = some (.cells (bytesRow s cp) 5 ((bytesRow s cp).size, (bytesRow s cp).size + 1)) := heap_alloc_new W _
      rw [hX, World.frozen?]
      simp only [this]
      simp; omega
    have hBX : Below w.heap.size w X := by have := hB.size; rw [hX]; repeat' (first | (with_reducible exact Below.refl _ _) | (with_reducible assumption) | (with_reducible refine Below.plus ?_ ?_ _ _) | (with_reducible refine Below.alloc ?_ ?_ _) | (with_reducible refine Below.drew ?_) | (with_reducible refine Below.drewN ?_ _) | (with_reducible refine Below.setCell ?_ ?_ _) | (with_reducible exact Nat.le_refl _) | omega | (simp; omega) | (simp; done))
    rw [← hX]
    clear hX hR hRs
    have hck := hc k hk2
    have hkn : (((k : Nat) : Int)).toNat = k := Int.toNat_natCast k
    obtain ⟨T, rfl⟩ : ∃ T : UInt8, t = (T.toNat : Int) := ⟨UInt8.ofNat t.toNat, by rw [UInt8.toNat_ofNat']; omega⟩
    have hl : (bs s).length = s.size := bs_len s
    have hkl : k < (bs s).length := by omega
    have hx : ∀ h : k < s.data.size, bits .xor .u8 ((s.data[k]).toNat : Int) (T.toNat : Int) = ((((bs s)[k] ^^^ T : UInt8)).toNat : Int) := fun _ => xorU _ _
    have hT : (bs s)[k] ≠ (bs s)[k] ^^^ T := fun e => by
      have e1 := congrArg UInt8.toNat e
      rw [UInt8.toNat_xor] at e1
      have e2 : T.toNat = 0 := xor_injL (c := (bs s)[k].toNat) (by rw [Nat.xor_zero]; exact e1.symm)
      omega
    have hS := sumL_set hkl hT
    go_upto_region 7 with (fail)
    have hlen : ((bs s).set k ((bs s)[k] ^^^ T)).length = s.size := by rw [List.length_set]; exact hl
    have cc := fun w => sumC (tx ((bs s).set k ((bs s)[k] ^^^ T))) (by show ((bs s).set k ((bs s)[k] ^^^ T)).length ≤ _; rw [hlen]; omega) w
    have cd := fun w => sumC s (by omega) w
    have hk8 : k < s.data.size := hk2
    have hV : ∀ v, v = Value.int .u8 ((s.data[k].toNat ^^^ T.toNat : Nat) : Int) → (convert 39 9 (.slice (some ⟨W.heap.size, 0, none⟩) s.size cp)).run Try.prog (X.setCell ⟨W.heap.size, k, none⟩ v) = .ok (.string (tx ((bs s).set k ((bs s)[k] ^^^ T)))) (X.setCell ⟨W.heap.size, k, none⟩ v) := by
      rintro v rfl
      rw [← hlen]
      refine bytes_run Try.underlying39 Try.underlying5 Try.underlying9 (.inr rfl) (fun i c hi => ?_)
      rw [Nat.zero_add]
      have hil : i < s.size := by rw [← hlen]; exact (List.getElem?_eq_some_iff.1 hi).1
      by_cases hik : i = k
      · subst hik
        rw [World.cell?_setCell_same' _ _ _ (by rw [hck]; rfl)]
        rw [List.getElem?_set_self hkl] at hi
        cases hi; rw [UInt8.toNat_xor]; rfl
      · rw [World.cell?_setCell_other _ _ _ _ (fun e => hik (by injection e with _ e2 _; exact e2.symm)), hc i hil]
        rw [List.getElem?_set_ne (fun e => hik e.symm)] at hi
        rw [List.getD_eq_getElem?_getD, hi]; rfl
    have hne2 : (((sumL (bs (tx ((bs s).set k ((bs s)[k] ^^^ T)))) : Nat) : Int) == ((sumL (bs s) : Nat) : Int)) = false := by
      rw [bs_tx]
      rw [beq_eq_false_iff_ne]; omega
    generalize ((sumL (bs (tx ((bs s).set k ((bs s)[k] ^^^ T)))) : Nat) : Int) = z1 at cc hne2
    generalize ((sumL (bs s) : Nat) : Int) = z2 at cd hne2
    clear hS hT hlen
    have hV := hV _ rfl
    generalize tx ((bs s).set k ((bs s)[k] ^^^ T)) = S' at *
    generalize hd : Value.int .u8 ((s.data[k].toNat ^^^ T.toNat : Nat) : Int) = d at *
    have hBY : Below w.heap.size w (X.setCell ⟨W.heap.size, k, none⟩ d) := by have := hB.size; repeat' (first | (with_reducible exact Below.refl _ _) | (with_reducible assumption) | (with_reducible refine Below.plus ?_ ?_ _ _) | (with_reducible refine Below.alloc ?_ ?_ _) | (with_reducible refine Below.drew ?_) | (with_reducible refine Below.drewN ?_ _) | (with_reducible refine Below.setCell ?_ ?_ _) | (with_reducible exact Nat.le_refl _) | omega | (simp; omega) | (simp; done))
    generalize X.setCell ⟨W.heap.size, k, none⟩ d = Y at *
    clear hck hc hf hBX
    go_wp2_with (first | (go_at_call 50; (with_reducible refine (cc _).mono ?_); rintro e w' ⟨rfl, hb⟩; obtain ⟨ex3, d3, rfl⟩ := plus_of hb; clear hb) | (go_at_call 50; (with_reducible refine (cd _).mono ?_); rintro e w' ⟨rfl, hb⟩; obtain ⟨ex4, d4, rfl⟩ := plus_of hb; clear hb))
    go_returns
    have hne3 : (z1 != z2) = true := by simp [bne, hne2]
    have hYs := hBY.size
    exact ⟨by simp [hne3], by repeat' (first | (with_reducible exact Below.refl _ _) | (with_reducible assumption) | (with_reducible refine Below.plus ?_ ?_ _ _) | (with_reducible refine Below.alloc ?_ ?_ _) | (with_reducible refine Below.drew ?_) | (with_reducible refine Below.drewN ?_ _) | (with_reducible refine Below.setCell ?_ ?_ _) | (with_reducible exact Nat.le_refl _) | omega | (simp; omega) | (simp; done))⟩
theorem topSum_walk (W : World) (v0 v1 v2 : Value) (i0 : InString W v0) (i1 : InInt W v1) (i2 : InByte W v2) :
    Calls Try.prog 12 #[v0, v1, v2] W fun e w' => e = .returned (.bool true) ∧ Below W.heap.size W w' := by
  obtain ⟨s, rfl, _⟩ := i0
  obtain ⟨a, rfl, _⟩ := i1
  obtain ⟨t, rfl, ht⟩ := i2
  exact topSum_good s a t ⟨ht.1, by omega⟩ W
end Go.Proofs.Ytimfnpjcedjmiaa
