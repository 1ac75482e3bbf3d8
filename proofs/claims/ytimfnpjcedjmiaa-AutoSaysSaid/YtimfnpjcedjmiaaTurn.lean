/-
  The reference's table as a function.
-/
import Derived.Test.YtimfnpjcedjmiaaAutoTab
import Derived.Outline
import Derived.Deep.DeepCutAuto
namespace Go.Proofs.Ytimfnpjcedjmiaa
open Go.RowKit

def turnStr (s e : Nat) : ByteArray := ⟨(turnRow s e).toArray⟩
def turnV (s e : Nat) : Value := .tuple #[.string (turnDo s e), .int .i64 (turnNext s e)]
theorem ext_toList (a : ByteArray) (i j : Nat) : (a.extract i j).data.toList = (a.data.toList.drop i).take (j - i) := by
  simp [ByteArray.data_extract, Array.toList_extract]
theorem dash_dec : ∀ e : Fin 12, ∀ s : Fin 10, turnRow s e = [45] ∨ (0 < (turnRow s e).length ∧ (turnRow s e).length ≤ 4 ∧ 48 ≤ ((turnRow s e).getLastD 48).toNat ∧ ((turnRow s e).getLastD 48).toNat ≤ 57 ∧ turnRow s e ≠ [45]) := by decide
theorem dash_do : ∀ e : Fin 12, ∀ s : Fin 10, turnRow s e = [45] → (turnRow s e).dropLast = [] := by decide
theorem idx_last (l : List UInt8) (h : 0 < l.length) (w : World) : (Instr.index 9 (.string ⟨l.toArray⟩) (.int .i64 (((⟨l.toArray⟩ : ByteArray).size : Int) - 1))).run Try.prog w = .ok (.int .u8 ((l.getLastD 48).toNat : Int)) w := by
  have hsz : (⟨l.toArray⟩ : ByteArray).size = l.length := by simp [ByteArray.size]
  have h0 : (0 : Int) ≤ ((⟨l.toArray⟩ : ByteArray).size : Int) - 1 := by omega
  have h1 : ((((⟨l.toArray⟩ : ByteArray).size : Int) - 1).toNat) = l.length - 1 := by omega
  have h2 : (⟨l.toArray⟩ : ByteArray)[l.length - 1]? = some (l.getLastD 48) := by
    rw [getElem?_pos _ _ (by rw [hsz]; omega)]
    show some (l.toArray[l.length - 1]'(by simp; omega)) = _
    simp [List.getLastD_eq_getLast?, List.getLast?_eq_getElem?, List.getElem?_eq_getElem (show l.length - 1 < l.length by omega)]
  have h3 : (1 : Int) ≤ ((⟨l.toArray⟩ : ByteArray).size : Int) := by omega
  have h4 : l.getLast?.getD 48 = l.getLastD 48 := by simp [List.getLastD_eq_getLast?]
  simp only [Instr.index, Sem.run_bind, asIntOf, Sem.run_pure, Result.andThen_ok, run_underlying Try.underlying9, if_pos h0, h1, h2]
theorem sl_last (l : List UInt8) (h : 0 < l.length) (w : World) : (Instr.slice 9 (.string ⟨l.toArray⟩) .none (some (.int .i64 (((⟨l.toArray⟩ : ByteArray).size : Int) - 1))) .none).run Try.prog w = .ok (.string ⟨l.dropLast.toArray⟩) w := by
  have hsz : (⟨l.toArray⟩ : ByteArray).size = l.length := by simp [ByteArray.size]
  refine (run_slice_string_h (P := Try.prog) w 9 (⟨l.toArray⟩ : ByteArray) Try.underlying9 .i64 _ (by omega) (by omega)).trans ?_
  congr 2
  apply ByteArray.ext
  apply Array.toList_inj.1
  rw [ext_toList]
  simp [List.dropLast_eq_take]
  congr 1
  omega
set_option maxHeartbeats 2000000 in
set_option maxRecDepth 100000 in
theorem turn_any (s e : Int) (h0 : 0 ≤ s) (hs : s < 10) (h1 : 0 ≤ e) (he : e < 12) (w : World) :
    Calls Try.prog 58 #[.int .i64 s, .int .i64 e] w fun r w' => r = .returned (turnV s.toNat e.toNat) ∧ Below w.heap.size w w' := by
  go_enter Try.func58, Try.ntmps58
  go_upto_region 1 with (fail)
  go_cut [6] (fun v wr => ∃ B, v = .slice (some ⟨B, 0, none⟩) 12 12 ∧ (∃ b, wr.cell? ⟨B, e.toNat, none⟩ = some (.slice (some ⟨b, 0, none⟩) 10 10) ∧ wr.cell? ⟨b, s.toNat, none⟩ = some (.string (turnStr s.toNat e.toNat))) ∧ Below w.heap.size w wr)
  case first =>
    go_wp2
    go_meet
    case rel =>
      refine ⟨_, rfl, ?_, by repeat' (first | (with_reducible exact Below.refl _ _) | (with_reducible assumption) | (with_reducible refine Below.plus ?_ ?_ _ _) | (with_reducible refine Below.alloc ?_ ?_ _) | (with_reducible refine Below.drew ?_) | (with_reducible refine Below.drewN ?_ _) | (with_reducible refine Below.setCell ?_ ?_ _) | (with_reducible exact Nat.le_refl _) | omega | (simp; omega) | (simp; done))⟩
      rcases twelve h1 he with rfl | rfl | rfl | rfl | rfl | rfl | rfl | rfl | rfl | rfl | rfl | rfl
      all_goals
        refine ⟨_, by simp [go_sem]; rfl, ?_⟩
        obtain rfl | rfl | rfl | rfl | rfl | rfl | rfl | rfl | rfl | rfl : s = 0 ∨ s = 1 ∨ s = 2 ∨ s = 3 ∨ s = 4 ∨ s = 5 ∨ s = 6 ∨ s = 7 ∨ s = 8 ∨ s = 9 := by omega
        all_goals first | (simp [go_sem]; rfl) | trace_state
  case rest =>
    obtain ⟨B, rfl, ⟨b, hc1, hc2⟩, hW⟩ := hcut
    have hd := dash_dec ⟨e.toNat, by omega⟩ ⟨s.toNat, by omega⟩
    have hdo := dash_do ⟨e.toNat, by omega⟩ ⟨s.toNat, by omega⟩
    simp only at hd hdo
    unfold turnStr at hc2
    obtain ⟨l, hl⟩ : ∃ l, l = turnRow s.toNat e.toNat := ⟨_, rfl⟩
    rw [← hl] at hd hdo hc2
    have HL := Lib.hid hl
    clear hl
    rcases hd with hd | ⟨hl1, hl2, hg1, hg2, hd⟩
    · subst hd
      clear hdo
      go_wp2
      go_ret2
      refine ⟨ret_congr ?_, by have hs0 := hW.size; repeat' (first | (with_reducible exact Below.refl _ _) | (with_reducible assumption) | (with_reducible refine Below.plus ?_ ?_ _ _) | (with_reducible refine Below.alloc ?_ ?_ _) | (with_reducible refine Below.drew ?_) | (with_reducible refine Below.drewN ?_ _) | (with_reducible refine Below.setCell ?_ ?_ _) | (with_reducible exact Nat.le_refl _) | omega | (simp; omega) | (simp; done))⟩
      unfold turnV turnDo turnNext
      rw [← HL.out]
      rfl
    · clear hdo
      generalize hT : (⟨l.toArray⟩ : ByteArray) = T at *
      have hsz : T.size = l.length := by rw [← hT]; simp [ByteArray.size]
      have hne : (T.toList == [45]) = false := by
        rw [← hT, beq_eq_false_iff_ne, ByteArray.toList_eq]; simpa using hd
      have hp : 0 < T.size := by omega
      have hp4 : T.size ≤ 4 := by omega
      have hix := fun w => idx_last l hl1 w
      have hsl := fun w => sl_last l hl1 w
      rw [hT] at hix hsl
      generalize hc : (l.getLastD 48).toNat = c at *
      generalize hdr : (⟨l.dropLast.toArray⟩ : ByteArray) = D at *
      have HC := Lib.hid hc
      have HR := Lib.hid hdr
      clear hc hdr
      have HT := Lib.hid hT
      have HS := Lib.hid hsz
      have HD := Lib.hid hd
      clear hT hsz hd
      go_wp2
      (refine wp_region_quietp (by kernel_rfl) (by kernel_rfl) ?_; (repeat (go_big_quiet_step (fail))); refine wpQuiet_nil ?_; rintro _ ⟨⟨exq, dq⟩, rfl⟩; dsimp only)
      go_wp2
      go_ret2
      refine ⟨ret_congr ?_, by have hs0 := hW.size; repeat' (first | (with_reducible exact Below.refl _ _) | (with_reducible assumption) | (with_reducible refine Below.plus ?_ ?_ _ _) | (with_reducible refine Below.alloc ?_ ?_ _) | (with_reducible refine Below.drew ?_) | (with_reducible refine Below.drewN ?_ _) | (with_reducible refine Below.setCell ?_ ?_ _) | (with_reducible exact Nat.le_refl _) | omega | (simp; omega) | (simp; done))⟩
      unfold turnV turnDo turnNext
      rw [← HL.out, if_neg HD.out, HC.out, HR.out]
      rfl
end Go.Proofs.Ytimfnpjcedjmiaa
