/-
  The statement FloodSays: any ports, any acts.
-/
import Derived.Test.YtimfnpjcedjmiaaMLa
import Derived.Test.YtimfnpjcedjmiaaMFs
import Derived.Test.YtimfnpjcedjmiaaGP
namespace Go.Proofs.Ytimfnpjcedjmiaa
open Go.RowKit
set_option linter.unusedSimpArgs false
set_option linter.unusedVariables false
/-- What an act does. -/
def stepF (b : Ba) (x : Ac) : Ba := if x.k.toList = (⟨#[115, 101, 116]⟩ : ByteArray).toList then setB b x.x else if x.k.toList = (⟨#[116, 97, 107, 101]⟩ : ByteArray).toList then takeB b x.a x.x else if x.k.toList = (⟨#[104, 101, 97, 114, 100]⟩ : ByteArray).toList then hrdB b x.a x.x else if x.k.toList = (⟨#[109, 101, 101, 116]⟩ : ByteArray).toList then metB b x.a else parB b x.a
theorem stepF_ok {b : Ba} {x : Ac} (h : b.ok) : (stepF b x).ok := by
  unfold stepF
  split
  · exact setB_ok h _
  · split
    · exact takeB_ok h _ _
    · split
      · exact hrdB_ok h _ _
      · split
        · exact metB_ok h _
        · exact parB_ok h _
theorem stepF_len {b : Ba} {x : Ac} : (stepF b x).ow.length = b.ow.length := by
  unfold stepF setB takeB hrdB metB parB
  repeat' split
  all_goals simp only [allW_len, modW_len]
def floodPl : List (Nat × Pl) := [(19, .op 0 (.op 1 (.op 2 (.op 4 (.op 5 (.br 3 (.op 6 (.op 7 (.op 8 (.op 9 (.done))))) 6 (.op 3 (.op 7 (.op 8 (.op 9 (.done))))))))))), (25, .op 0 (.op 1 (.op 2 (.op 3 (.op 4 (.op 6 (.op 7 (.op 9 (.b3 5 (.op 8 (.op 10 (.op 11 (.op 12 (.op 13 (.done)))))) 8 (.br 5 (.op 10 (.op 11 (.op 12 (.op 13 (.done))))) 10 (.op 5 (.op 11 (.op 12 (.op 13 (.done)))))) 10 (.br 5 (.op 8 (.op 11 (.op 12 (.op 13 (.done))))) 8 (.op 5 (.op 11 (.op 12 (.op 13 (.done))))))))))))))), (27, .op 0 (.op 1 (.op 2 (.op 4 (.op 5 (.br 3 (.op 6 (.op 7 (.op 8 (.op 9 (.done))))) 6 (.op 3 (.op 7 (.op 8 (.op 9 (.done)))))))))))]
def flA (n : Int) (l : List Ac) (k : Nat) (b : Ba) (x : List (Nat × AV)) : AS := ⟨[(0, .v (.int .i64 n)), (1, .sl 12 (l.map acRow) none), (6, .box 0 0), (8, .box 1 0), (9, .v (.int .i64 k))] ++ x, [baR b, .cells (knC b.kn (.arr 2 0 b.ow.length)), .arr true 170 7 0 (b.ow.map owC)]⟩
theorem or8 {k : Nat} {p : Prop} (h : k = 0 ∨ k = 1 ∨ k = 2 ∨ k = 3 ∨ k = 4 ∨ k = 5 ∨ k = 6 ∨ k = 7) (h0 : k = 0 → p) (h1 : k = 1 → p) (h2 : k = 2 → p) (h3 : k = 3 → p) (h4 : k = 4 → p) (h5 : k = 5 → p) (h6 : k = 6 → p) (h7 : k = 7 → p) : p := by
  rcases h with h | h | h | h | h | h | h | h
  · exact h0 h
  · exact h1 h
  · exact h2 h
  · exact h3 h
  · exact h4 h
  · exact h5 h
  · exact h6 h
  · exact h7 h
set_option maxHeartbeats 64000000 in
set_option maxRecDepth 100000 in
theorem floodSays_ok (n : Int) (l : List Ac) : Fn Try.prog 10 [.v (.int .i64 n), .sl 12 (l.map acRow) none] [] (.v (.bool true)) [] := by
  have hla := lightActs_ok l 60 (by decide)
  by_cases hL : lightA l 60 = true
  · rw [hL] at hla
    have hl := lightA_out hL
    by_cases hn : 1 ≤ n ∧ n ≤ 3
    · obtain ⟨N, rfl⟩ : ∃ N : Nat, n = N := ⟨n.toNat, by omega⟩
      have n1 := xnew_ok N (by omega) (by omega)
      have k0 := newB_ok (n := N) (by omega) (by omega)
      have l0 : (newB N).ow.length = N := by simp [newB]
      have o0 : (newB N).ow.map owC = List.replicate N (owC fun _ => false) := by simp [newB]
      have o1 : knC (newB N).kn (.arr 2 0 (newB N).ow.length) = knC (fun _ => none) (.arr 2 0 N) := by rw [l0]; rfl
      have hN := hn.1
      have hN3 := hn.2
      generalize newB N = b0 at *
      refine fn_plan mixed (floodPl) [] [28] Try.func10 rfl (by decide +kernel) Try.ntmps10 rfl (congrArg Array.toList Try.results10) rfl (by decide +kernel) ?_
      (iterate 2 all_goals (try (repeat' (conv => whnf); (first | with_reducible refine And.intro ?_ ?_ | with_reducible exact True.intro | (intro h; (first | cases h | ((try simp only [vis, Int.reduceToNat] at h); (try (exfalso; omega))))) | (with_reducible refine Vc.mk ?_; fail) | (with_reducible refine cutG ?_; fail) | refine idx_map ?_ ?_ | refine idx_mapI ?_ ?_ ?_ ))))
      (all_goals (try ((first | (refine call0 (bases_ok) ?_ ?_) | (refine pure0 (bases_ok) rfl ?_ ?_)); (· (repeat' (conv => whnf); (first | with_reducible refine And.intro ?_ ?_ | with_reducible exact True.intro | with_reducible exact Or.inl rfl | (refine Vc.mk ?_; (first | exact rfl | exact ⟨rfl, .inl rfl⟩ | omega | skip))))); (iterate 2 all_goals (try (repeat' (conv => whnf); (first | with_reducible refine And.intro ?_ ?_ | with_reducible exact True.intro | (intro h; (first | cases h | ((try simp only [vis, Int.reduceToNat] at h); (try (exfalso; omega))))) | (with_reducible refine Vc.mk ?_; fail) | (with_reducible refine cutG ?_; fail) | refine idx_map ?_ ?_ | refine idx_mapI ?_ ?_ ?_ )))))))
      all_goals (try ((first | with_reducible refine Vc.mk ?_ | refine Vc.mk ?_); (try exact GLt)))
      (all_goals (try ((first | (refine call0 (hla) ?_ ?_) | (refine pure0 (hla) rfl ?_ ?_)); (· (repeat' (conv => whnf); (first | with_reducible refine And.intro ?_ ?_ | with_reducible exact True.intro | with_reducible exact Or.inl rfl | (refine Vc.mk ?_; (first | exact rfl | exact ⟨rfl, .inl rfl⟩ | omega | skip))))); (iterate 2 all_goals (try (repeat' (conv => whnf); (first | with_reducible refine And.intro ?_ ?_ | with_reducible exact True.intro | (intro h; (first | cases h | ((try simp only [vis, Int.reduceToNat] at h); (try (exfalso; omega))))) | (with_reducible refine Vc.mk ?_; fail) | (with_reducible refine cutG ?_; fail) | refine idx_map ?_ ?_ | refine idx_mapI ?_ ?_ ?_ )))))))
      all_goals (try (exfalso; first | omega | (simp at h; done)))
      all_goals (try ((first | with_reducible refine Vc.mk ?_ | refine Vc.mk ?_); (try exact GLt)))
      ((all_goals (try omega)); (all_goals (try ((first | with_reducible refine Vc.mk ?_ | refine Vc.mk ?_); (try exact GLt)))); ((refine ⟨_, _, _, _, [], n1, rfl, rfl, rfl, ?_, ?_, ?_⟩)); (· ((repeat' (conv => whnf); (first | with_reducible refine And.intro ?_ ?_ | with_reducible exact True.intro | with_reducible exact Or.inl rfl | (refine Vc.mk ?_; (first | exact rfl | exact ⟨rfl, .inl rfl⟩ | omega | skip)))); all_goals rfl)); (· ((repeat' (conv => whnf); (first | with_reducible refine And.intro ?_ ?_ | with_reducible exact True.intro | with_reducible exact Or.inl rfl | (refine Vc.mk ?_; (first | exact rfl | exact ⟨rfl, .inl rfl⟩ | omega | skip)))); all_goals rfl)); (iterate 2 all_goals (try (repeat' (conv => whnf); (first | with_reducible refine And.intro ?_ ?_ | with_reducible exact True.intro | (intro h; (first | cases h | ((try simp only [vis, Int.reduceToNat] at h); (try (exfalso; omega))))) | (with_reducible refine Vc.mk ?_; fail) | (with_reducible refine cutG ?_; fail) | refine idx_map ?_ ?_ | refine idx_mapI ?_ ?_ ?_ )))); (all_goals (try omega)); (all_goals (try ((first | with_reducible refine Vc.mk ?_ | refine Vc.mk ?_); (try exact GLt)))))
      all_goals (try omega)
      all_goals (try ((first | with_reducible refine Vc.mk ?_ | refine Vc.mk ?_); (try exact GLt)))
      · rcases (by omega : N = 1 ∨ N = 2 ∨ N = 3) with rfl | rfl | rfl <;> exact ⟨by decide, rfl, by decide +kernel, by decide⟩
      (iterate 2 all_goals (try (repeat' (conv => whnf); (first | with_reducible refine And.intro ?_ ?_ | with_reducible exact True.intro | (intro h; (first | cases h | ((try simp only [vis, Int.reduceToNat] at h); (try (exfalso; omega))))) | (with_reducible refine Vc.mk ?_; fail) | (with_reducible refine cutG ?_; fail) | refine idx_map ?_ ?_ | refine idx_mapI ?_ ?_ ?_ ))))
      all_goals (try omega)
      all_goals (try ((first | with_reducible refine Vc.mk ?_ | refine Vc.mk ?_); (try exact GLt)))
      refine lpG2 (fun (k : Nat) (b : Ba) => flA N l k b []) (fun k b => k ≤ l.length ∧ b.ok ∧ b.ow.length = N) (fun k b => l.length - k) 0 b0 ⟨by omega, k0, l0⟩ (by
        unfold flA
        rw [o0, o1]
        (refine le_sub [0, 2, 1] rfl rfl ?_ ?_); all_goals ((repeat' (conv => whnf); (first | with_reducible refine And.intro ?_ ?_ | with_reducible exact True.intro | with_reducible exact Or.inl rfl | (refine Vc.mk ?_; (first | exact rfl | exact ⟨rfl, .inl rfl⟩ | omega | skip)))); all_goals (try first | rfl | (simp; done)))) ?_
      clear n1 k0 l0 o0 o1 hla
      rintro k b ⟨hk, hok, hlen⟩
      have hl60 := hl.1
      by_cases hk' : k < l.length
      · have hqs := hl.2 l[k] (List.getElem_mem hk')
        have hok' := stepF_ok (x := l[k]) hok
        have hlen' := (stepF_len (x := l[k]) (b := b)).trans hlen
        have hST : ∃ b', b' = stepF b l[k] := ⟨_, rfl⟩
        refine Exists.elim hST fun b' hST => ?_
        rw [← hST] at hok' hlen'
        unfold flA
        (iterate 2 all_goals (try (repeat' (conv => whnf); (first | with_reducible refine And.intro ?_ ?_ | with_reducible exact True.intro | (intro h; (first | cases h | ((try simp only [vis, Int.reduceToNat] at h); (try (exfalso; omega))))) | (with_reducible refine Vc.mk ?_; fail) | (with_reducible refine cutG ?_; fail) | refine idx_map ?_ ?_ | refine idx_mapI ?_ ?_ ?_ ))))
        all_goals (try omega)
        all_goals (try ((first | with_reducible refine Vc.mk ?_ | refine Vc.mk ?_); (try exact GLt)))
        refine cutK ⟨(11, .v (.bool true)) :: (flA N l k b' []).fr, (flA N l k b' []).mem⟩ ?_ (fun hy => ?_)
        · clear hST hok
          have hmem := fun s (hs : s ∈ stsB b') => (stsB_mem hok' s hs).1
          have hsl := stsB_len (b := b')
          have hsmall : ∀ s ∈ stsB b', s.2.2.length ≤ 1000000 := fun s hs => by have := (sfault_good (show sfault s.1 s.2.1 s.2.2 = 0 from hmem s hs)).2.2.2.2.1; omega
          have z1 := xstates_ok hok'
          have z2 := sstates_ok hok'
          have z3 := sameSts_refl (stsB b') (by omega) hsmall
          have w1 := fun p => xowed_ok hok' p
          have w2 := fun p => sowed_ok hok' p
          have w3 := fun p => sameSts_refl (owdB b' p) (by have : (owdB b' p).length ≤ (stsB b').length := List.length_filter_le ..; omega) (fun s hs => hsmall s (List.mem_filter.1 hs).1)
          have g1 := fun n => xget_ok hok' n
          have hsq := fun n => seqOk hok'.kn n
          have h7 := kn_out hok'.kn (n := 7) (by omega)
          unfold rbS at z2 w2
          unfold flA
          clear hmem hsmall
          generalize stsB b' = S at *
          (iterate 2 all_goals (try (repeat' (conv => whnf); (first | with_reducible refine And.intro ?_ ?_ | with_reducible exact True.intro | (intro h; (first | cases h | ((try simp only [vis, Int.reduceToNat] at h); (try (exfalso; omega))))) | (with_reducible refine Vc.mk ?_; fail) | (with_reducible refine cutG ?_; fail) | refine idx_map ?_ ?_ | refine idx_mapI ?_ ?_ ?_ ))))
          all_goals (try omega)
          all_goals (try ((first | with_reducible refine Vc.mk ?_ | refine Vc.mk ?_); (try exact GLt)))
          ((all_goals (try omega)); (all_goals (try ((first | with_reducible refine Vc.mk ?_ | refine Vc.mk ?_); (try exact GLt)))); ((refine ⟨_, _, _, _, [0], z1, rfl, rfl, rfl, ?_, ?_, ?_⟩)); (· ((repeat' (conv => whnf); (first | with_reducible refine And.intro ?_ ?_ | with_reducible exact True.intro | with_reducible exact Or.inl rfl | (refine Vc.mk ?_; (first | exact rfl | exact ⟨rfl, .inl rfl⟩ | omega | skip)))); all_goals rfl)); (· ((repeat' (conv => whnf); (first | with_reducible refine And.intro ?_ ?_ | with_reducible exact True.intro | with_reducible exact Or.inl rfl | (refine Vc.mk ?_; (first | exact rfl | exact ⟨rfl, .inl rfl⟩ | omega | skip)))); all_goals rfl)); (iterate 2 all_goals (try (repeat' (conv => whnf); (first | with_reducible refine And.intro ?_ ?_ | with_reducible exact True.intro | (intro h; (first | cases h | ((try simp only [vis, Int.reduceToNat] at h); (try (exfalso; omega))))) | (with_reducible refine Vc.mk ?_; fail) | (with_reducible refine cutG ?_; fail) | refine idx_map ?_ ?_ | refine idx_mapI ?_ ?_ ?_ )))); (all_goals (try omega)); (all_goals (try ((first | with_reducible refine Vc.mk ?_ | refine Vc.mk ?_); (try exact GLt)))))
          ((all_goals (try omega)); (all_goals (try ((first | with_reducible refine Vc.mk ?_ | refine Vc.mk ?_); (try exact GLt)))); ((refine ⟨_, _, _, _, [1, 2], z2, rfl, rfl, rfl, ?_, ?_, ?_⟩)); (· ((repeat' (conv => whnf); (first | with_reducible refine And.intro ?_ ?_ | with_reducible exact True.intro | with_reducible exact Or.inl rfl | (refine Vc.mk ?_; (first | exact rfl | exact ⟨rfl, .inl rfl⟩ | omega | skip)))); all_goals rfl)); (· ((repeat' (conv => whnf); (first | with_reducible refine And.intro ?_ ?_ | with_reducible exact True.intro | with_reducible exact Or.inl rfl | (refine Vc.mk ?_; (first | exact rfl | exact ⟨rfl, .inl rfl⟩ | omega | skip)))); all_goals rfl)); (iterate 2 all_goals (try (repeat' (conv => whnf); (first | with_reducible refine And.intro ?_ ?_ | with_reducible exact True.intro | (intro h; (first | cases h | ((try simp only [vis, Int.reduceToNat] at h); (try (exfalso; omega))))) | (with_reducible refine Vc.mk ?_; fail) | (with_reducible refine cutG ?_; fail) | refine idx_map ?_ ?_ | refine idx_mapI ?_ ?_ ?_ )))); (all_goals (try omega)); (all_goals (try ((first | with_reducible refine Vc.mk ?_ | refine Vc.mk ?_); (try exact GLt)))))
          ((all_goals (try omega)); (all_goals (try ((first | with_reducible refine Vc.mk ?_ | refine Vc.mk ?_); (try exact GLt)))); ((refine ⟨_, _, _, _, [], z3, rfl, rfl, rfl, ?_, ?_, ?_⟩)); (· ((repeat' (conv => whnf); (first | with_reducible refine And.intro ?_ ?_ | with_reducible exact True.intro | with_reducible exact Or.inl rfl | (refine Vc.mk ?_; (first | exact rfl | exact ⟨rfl, .inl rfl⟩ | omega | skip)))); all_goals rfl)); (· ((repeat' (conv => whnf); (first | with_reducible refine And.intro ?_ ?_ | with_reducible exact True.intro | with_reducible exact Or.inl rfl | (refine Vc.mk ?_; (first | exact rfl | exact ⟨rfl, .inl rfl⟩ | omega | skip)))); all_goals rfl)); (iterate 2 all_goals (try (repeat' (conv => whnf); (first | with_reducible refine And.intro ?_ ?_ | with_reducible exact True.intro | (intro h; (first | cases h | ((try simp only [vis, Int.reduceToNat] at h); (try (exfalso; omega))))) | (with_reducible refine Vc.mk ?_; fail) | (with_reducible refine cutG ?_; fail) | refine idx_map ?_ ?_ | refine idx_mapI ?_ ?_ ?_ )))); (all_goals (try omega)); (all_goals (try ((first | with_reducible refine Vc.mk ?_ | refine Vc.mk ?_); (try exact GLt)))))
          refine lpG (fun j : Nat => flA N l k b' [(16, .v (.int .i64 ((j : Int) - 1)))]) (fun j => (j : Int) ≤ N + 2) (fun j => N + 2 - j) 0 (by omega) (by unfold flA; (refine le_sub [0, 1, 2] rfl rfl ?_ ?_); all_goals ((repeat' (conv => whnf); (first | with_reducible refine And.intro ?_ ?_ | with_reducible exact True.intro | with_reducible exact Or.inl rfl | (refine Vc.mk ?_; (first | exact rfl | exact ⟨rfl, .inl rfl⟩ | omega | skip)))); all_goals (try rfl))) ?_
          rintro j hj
          by_cases hj' : (j : Int) < N + 2
          · have w1 := w1 ((j : Int) - 1)
            have w2 := w2 ((j : Int) - 1)
            have w3 := w3 ((j : Int) - 1)
            clear z1 z2 z3 g1 hsq
            generalize owdB b' ((j : Int) - 1) = O at *
            unfold flA
            (iterate 2 all_goals (try (repeat' (conv => whnf); (first | with_reducible refine And.intro ?_ ?_ | with_reducible exact True.intro | (intro h; (first | cases h | ((try simp only [vis, Int.reduceToNat] at h); (try (exfalso; omega))))) | (with_reducible refine Vc.mk ?_; fail) | (with_reducible refine cutG ?_; fail) | refine idx_map ?_ ?_ | refine idx_mapI ?_ ?_ ?_ ))))
            all_goals (try omega)
            all_goals (try ((first | with_reducible refine Vc.mk ?_ | refine Vc.mk ?_); (try exact GLt)))
            ((all_goals (try omega)); (all_goals (try ((first | with_reducible refine Vc.mk ?_ | refine Vc.mk ?_); (try exact GLt)))); ((refine ⟨_, _, _, _, [0], w1, rfl, rfl, rfl, ?_, ?_, ?_⟩)); (· ((repeat' (conv => whnf); (first | with_reducible refine And.intro ?_ ?_ | with_reducible exact True.intro | with_reducible exact Or.inl rfl | (refine Vc.mk ?_; (first | exact rfl | exact ⟨rfl, .inl rfl⟩ | omega | skip)))); all_goals rfl)); (· ((repeat' (conv => whnf); (first | with_reducible refine And.intro ?_ ?_ | with_reducible exact True.intro | with_reducible exact Or.inl rfl | (refine Vc.mk ?_; (first | exact rfl | exact ⟨rfl, .inl rfl⟩ | omega | skip)))); all_goals rfl)); (iterate 2 all_goals (try (repeat' (conv => whnf); (first | with_reducible refine And.intro ?_ ?_ | with_reducible exact True.intro | (intro h; (first | cases h | ((try simp only [vis, Int.reduceToNat] at h); (try (exfalso; omega))))) | (with_reducible refine Vc.mk ?_; fail) | (with_reducible refine cutG ?_; fail) | refine idx_map ?_ ?_ | refine idx_mapI ?_ ?_ ?_ )))); (all_goals (try omega)); (all_goals (try ((first | with_reducible refine Vc.mk ?_ | refine Vc.mk ?_); (try exact GLt)))))
            ((all_goals (try omega)); (all_goals (try ((first | with_reducible refine Vc.mk ?_ | refine Vc.mk ?_); (try exact GLt)))); ((refine ⟨_, _, _, _, [1, 2], w2, rfl, rfl, rfl, ?_, ?_, ?_⟩)); (· ((repeat' (conv => whnf); (first | with_reducible refine And.intro ?_ ?_ | with_reducible exact True.intro | with_reducible exact Or.inl rfl | (refine Vc.mk ?_; (first | exact rfl | exact ⟨rfl, .inl rfl⟩ | omega | skip)))); all_goals rfl)); (· ((repeat' (conv => whnf); (first | with_reducible refine And.intro ?_ ?_ | with_reducible exact True.intro | with_reducible exact Or.inl rfl | (refine Vc.mk ?_; (first | exact rfl | exact ⟨rfl, .inl rfl⟩ | omega | skip)))); all_goals rfl)); (iterate 2 all_goals (try (repeat' (conv => whnf); (first | with_reducible refine And.intro ?_ ?_ | with_reducible exact True.intro | (intro h; (first | cases h | ((try simp only [vis, Int.reduceToNat] at h); (try (exfalso; omega))))) | (with_reducible refine Vc.mk ?_; fail) | (with_reducible refine cutG ?_; fail) | refine idx_map ?_ ?_ | refine idx_mapI ?_ ?_ ?_ )))); (all_goals (try omega)); (all_goals (try ((first | with_reducible refine Vc.mk ?_ | refine Vc.mk ?_); (try exact GLt)))))
            ((all_goals (try omega)); (all_goals (try ((first | with_reducible refine Vc.mk ?_ | refine Vc.mk ?_); (try exact GLt)))); ((refine ⟨_, _, _, _, [], w3, rfl, rfl, rfl, ?_, ?_, ?_⟩)); (· ((repeat' (conv => whnf); (first | with_reducible refine And.intro ?_ ?_ | with_reducible exact True.intro | with_reducible exact Or.inl rfl | (refine Vc.mk ?_; (first | exact rfl | exact ⟨rfl, .inl rfl⟩ | omega | skip)))); all_goals rfl)); (· ((repeat' (conv => whnf); (first | with_reducible refine And.intro ?_ ?_ | with_reducible exact True.intro | with_reducible exact Or.inl rfl | (refine Vc.mk ?_; (first | exact rfl | exact ⟨rfl, .inl rfl⟩ | omega | skip)))); all_goals rfl)); (iterate 2 all_goals (try (repeat' (conv => whnf); (first | with_reducible refine And.intro ?_ ?_ | with_reducible exact True.intro | (intro h; (first | cases h | ((try simp only [vis, Int.reduceToNat] at h); (try (exfalso; omega))))) | (with_reducible refine Vc.mk ?_; fail) | (with_reducible refine cutG ?_; fail) | refine idx_map ?_ ?_ | refine idx_mapI ?_ ?_ ?_ )))); (all_goals (try omega)); (all_goals (try ((first | with_reducible refine Vc.mk ?_ | refine Vc.mk ?_); (try exact GLt)))))
            refine nextG (j + 1) (by omega) (by omega) ?_
            (refine le_sub [0, 1, 2] rfl rfl ?_ ?_); all_goals ((repeat' (conv => whnf); (first | with_reducible refine And.intro ?_ ?_ | with_reducible exact True.intro | with_reducible exact Or.inl rfl | (refine Vc.mk ?_; (first | exact rfl | exact ⟨rfl, .inl rfl⟩ | omega | skip)))); all_goals (try first | rfl | omega))
          clear z1 z2 z3 w1 w2 w3
          unfold flA
          (iterate 2 all_goals (try (repeat' (conv => whnf); (first | with_reducible refine And.intro ?_ ?_ | with_reducible exact True.intro | (intro h; (first | cases h | ((try simp only [vis, Int.reduceToNat] at h); (try (exfalso; omega))))) | (with_reducible refine Vc.mk ?_; fail) | (with_reducible refine cutG ?_; fail) | refine idx_map ?_ ?_ | refine idx_mapI ?_ ?_ ?_ ))))
          all_goals (try omega)
          all_goals (try ((first | with_reducible refine Vc.mk ?_ | refine Vc.mk ?_); (try exact GLt)))
          refine lpG (fun j : Nat => flA N l k b' [(17, .v (.int .i64 j))]) (fun j => j ≤ 8) (fun j => 8 - j) 0 (by omega) (by unfold flA; (refine le_sub [0, 1, 2] rfl rfl ?_ ?_); all_goals ((repeat' (conv => whnf); (first | with_reducible refine And.intro ?_ ?_ | with_reducible exact True.intro | with_reducible exact Or.inl rfl | (refine Vc.mk ?_; (first | exact rfl | exact ⟨rfl, .inl rfl⟩ | omega | skip)))); all_goals (try rfl))) ?_
          rintro j hj
          by_cases hj' : j < 8
          · obtain ⟨M, hM⟩ : ∃ M : Int, M = (j : Int) := ⟨_, rfl⟩
            have g1 := g1 M
            have hq := (hsq M).pos
            have hle := (hsq M).len
            have hqe : (b'.kn M).isSome = decide (0 < (stO (b'.kn M)).2.1) := by
              rw [Bool.eq_iff_iff, decide_eq_true_eq]; exact hq.symm
            have sm := rsameS_ok (stO (b'.kn M)).1 (stO (b'.kn M)).2.1 (stO (b'.kn M)).1 (stO (b'.kn M)).2.1 (stO (b'.kn M)).2.2 (stO (b'.kn M)).2.2 hle
            simp only [beq_self_eq_true, Bool.and_self] at sm
            have hst7 : stO (b'.kn 7) = (0, 0, []) := by
              cases hk7 : b'.kn 7 with
              | none => rfl
              | some s => rw [hk7] at h7; cases h7
            obtain ⟨j', hj''⟩ : ∃ j', j' = j + 1 := ⟨_, rfl⟩
            refine or8 (by omega : j = 0 ∨ j = 1 ∨ j = 2 ∨ j = 3 ∨ j = 4 ∨ j = 5 ∨ j = 6 ∨ j = 7) (fun ej => ?_) (fun ej => ?_) (fun ej => ?_) (fun ej => ?_) (fun ej => ?_) (fun ej => ?_) (fun ej => ?_) (fun ej => ?_)
            all_goals
              subst ej
              first | (obtain rfl : M = 0 := hM) | (obtain rfl : M = 1 := hM) | (obtain rfl : M = 2 := hM) | (obtain rfl : M = 3 := hM) | (obtain rfl : M = 4 := hM) | (obtain rfl : M = 5 := hM) | (obtain rfl : M = 6 := hM) | (obtain rfl : M = 7 := hM)
            all_goals (try rw [hst7] at g1 hqe sm)
            all_goals clear hsq hst7
            all_goals unfold flA
            all_goals ((iterate 2 all_goals (try (repeat' (conv => whnf); (first | with_reducible refine And.intro ?_ ?_ | with_reducible exact True.intro | (intro h; (first | cases h | ((try simp only [vis, Int.reduceToNat] at h); (try (exfalso; omega))))) | (with_reducible refine Vc.mk ?_; fail) | (with_reducible refine cutG ?_; fail) | refine idx_map ?_ ?_ | refine idx_mapI ?_ ?_ ?_ | (refine StopAt.mk (by decide) (by decide) ?_) | (refine StopRow.mk _ rfl ?_))))); (all_goals (try omega)); (all_goals (try ((first | with_reducible refine Vc.mk ?_ | refine Vc.mk ?_); (try exact GLt)))); (all_goals (try (exact ⟨by decide, by decide⟩))))
            all_goals (((all_goals (try omega)); (all_goals (try ((first | with_reducible refine Vc.mk ?_ | refine Vc.mk ?_); (try exact GLt)))); ((refine ⟨_, _, _, _, [0], g1, rfl, rfl, rfl, ?_, ?_, ?_⟩)); (· ((repeat' (conv => whnf); (first | with_reducible refine And.intro ?_ ?_ | with_reducible exact True.intro | with_reducible exact Or.inl rfl | (refine Vc.mk ?_; (first | exact rfl | exact ⟨rfl, .inl rfl⟩ | omega | skip)))); all_goals rfl)); (· ((repeat' (conv => whnf); (first | with_reducible refine And.intro ?_ ?_ | with_reducible exact True.intro | with_reducible exact Or.inl rfl | (refine Vc.mk ?_; (first | exact rfl | exact ⟨rfl, .inl rfl⟩ | omega | skip)))); all_goals rfl)); (iterate 2 all_goals (try (repeat' (conv => whnf); (first | with_reducible refine And.intro ?_ ?_ | with_reducible exact True.intro | (intro h; (first | cases h | ((try simp only [vis, Int.reduceToNat] at h); (try (exfalso; omega))))) | (with_reducible refine Vc.mk ?_; fail) | (with_reducible refine cutG ?_; fail) | refine idx_map ?_ ?_ | refine idx_mapI ?_ ?_ ?_ )))); (all_goals (try omega)); (all_goals (try ((first | with_reducible refine Vc.mk ?_ | refine Vc.mk ?_); (try exact GLt))))))
            all_goals ((iterate 2 all_goals (try (repeat' (conv => whnf); (first | with_reducible refine And.intro ?_ ?_ | with_reducible exact True.intro | (intro h; (first | cases h | ((try simp only [vis, Int.reduceToNat] at h); (try (exfalso; omega))))) | (with_reducible refine Vc.mk ?_; fail) | (with_reducible refine cutG ?_; fail) | refine idx_map ?_ ?_ | refine idx_mapI ?_ ?_ ?_ | (refine StopAt.mk (by decide) (by decide) ?_) | (refine StopRow.mk _ rfl ?_))))); (all_goals (try omega)); (all_goals (try ((first | with_reducible refine Vc.mk ?_ | refine Vc.mk ?_); (try exact GLt)))); (all_goals (try (exact ⟨by decide, by decide⟩))))
            all_goals (try (exfalso; first | contradiction | (exact (by assumption : ¬ _) hqe)))
            all_goals (((all_goals (try omega)); (all_goals (try ((first | with_reducible refine Vc.mk ?_ | refine Vc.mk ?_); (try exact GLt)))); ((refine ⟨_, _, _, _, [], sm, rfl, rfl, rfl, ?_, ?_, ?_⟩)); (· ((repeat' (conv => whnf); (first | with_reducible refine And.intro ?_ ?_ | with_reducible exact True.intro | with_reducible exact Or.inl rfl | (refine Vc.mk ?_; (first | exact rfl | exact ⟨rfl, .inl rfl⟩ | omega | skip)))); all_goals rfl)); (· ((repeat' (conv => whnf); (first | with_reducible refine And.intro ?_ ?_ | with_reducible exact True.intro | with_reducible exact Or.inl rfl | (refine Vc.mk ?_; (first | exact rfl | exact ⟨rfl, .inl rfl⟩ | omega | skip)))); all_goals rfl)); (iterate 2 all_goals (try (repeat' (conv => whnf); (first | with_reducible refine And.intro ?_ ?_ | with_reducible exact True.intro | (intro h; (first | cases h | ((try simp only [vis, Int.reduceToNat] at h); (try (exfalso; omega))))) | (with_reducible refine Vc.mk ?_; fail) | (with_reducible refine cutG ?_; fail) | refine idx_map ?_ ?_ | refine idx_mapI ?_ ?_ ?_ )))); (all_goals (try omega)); (all_goals (try ((first | with_reducible refine Vc.mk ?_ | refine Vc.mk ?_); (try exact GLt))))))
            all_goals (refine nextG j' (by omega) (by omega) ?_; (refine le_sub [0, 1, 2] rfl rfl ?_ ?_); all_goals ((repeat' (conv => whnf); (first | with_reducible refine And.intro ?_ ?_ | with_reducible exact True.intro | with_reducible exact Or.inl rfl | (refine Vc.mk ?_; (first | exact rfl | exact ⟨rfl, .inl rfl⟩ | omega | skip)))); all_goals (try first | rfl | omega)))
          · have ej : j = 8 := by omega
            subst ej
            unfold flA
            (iterate 2 all_goals (try (repeat' (conv => whnf); (first | with_reducible refine And.intro ?_ ?_ | with_reducible exact True.intro | (intro h; (first | cases h | ((try simp only [vis, Int.reduceToNat] at h); (try (exfalso; omega))))) | (with_reducible refine Vc.mk ?_; fail) | (with_reducible refine cutG ?_; fail) | refine idx_map ?_ ?_ | refine idx_mapI ?_ ?_ ?_ ))))
            all_goals (try omega)
            all_goals (try ((first | with_reducible refine Vc.mk ?_ | refine Vc.mk ?_); (try exact GLt)))
            all_goals (refine nextG2 (k + 1) b' ⟨by omega, hok', hlen'⟩ (by omega) ?_; (refine le_sub [0, 1, 2] rfl rfl ?_ ?_); all_goals ((repeat' (conv => whnf); (first | with_reducible refine And.intro ?_ ?_ | with_reducible exact True.intro | with_reducible exact Or.inl rfl | (refine Vc.mk ?_; (first | exact rfl | exact ⟨rfl, .inl rfl⟩ | omega | skip)))); all_goals (try rfl)))
        · unfold stepF at hST
          by_cases c1 : (l[k].k).toList = (⟨#[115, 101, 116]⟩ : ByteArray).toList
          · rw [if_pos c1] at hST
            have HD := xset_ok hok l[k].x (by omega)
            have RD := sset_ok hok l[k].x
            have hs := gsame_ok (sf l[k].x) (sf l[k].x) (sfault_nonneg ..)
            simp only [beq_self_eq_true] at hs
            rw [← hST] at HD RD
            unfold flA at hy
            unfold rbS at RD
            unfold stRow at HD RD
            generalize sf l[k].x = E at *
            (iterate 2 all_goals (try (repeat' (conv => whnf); (first | with_reducible refine And.intro ?_ ?_ | with_reducible exact True.intro | (intro h; (first | cases h | ((try simp only [vis, Int.reduceToNat] at h); (try (exfalso; omega))))) | (with_reducible refine Vc.mk ?_; fail) | (with_reducible refine cutG ?_; fail) | refine idx_map ?_ ?_ | refine idx_mapI ?_ ?_ ?_ ))))
            all_goals (try omega)
            all_goals (try (exfalso; first | contradiction | omega))
            all_goals (try ((first | with_reducible refine Vc.mk ?_ | refine Vc.mk ?_); (try exact GLt)))
            all_goals (((all_goals (try omega)); (all_goals (try ((first | with_reducible refine Vc.mk ?_ | refine Vc.mk ?_); (try exact GLt)))); ((refine ⟨_, _, _, _, [0], HD, rfl, rfl, rfl, ?_, ?_, ?_⟩)); (· ((repeat' (conv => whnf); (first | with_reducible refine And.intro ?_ ?_ | with_reducible exact True.intro | with_reducible exact Or.inl rfl | (refine Vc.mk ?_; (first | exact rfl | exact ⟨rfl, .inl rfl⟩ | omega | skip)))); all_goals rfl)); (· ((repeat' (conv => whnf); (first | with_reducible refine And.intro ?_ ?_ | with_reducible exact True.intro | with_reducible exact Or.inl rfl | (refine Vc.mk ?_; (first | exact rfl | exact ⟨rfl, .inl rfl⟩ | omega | skip)))); all_goals rfl)); (iterate 2 all_goals (try (repeat' (conv => whnf); (first | with_reducible refine And.intro ?_ ?_ | with_reducible exact True.intro | (intro h; (first | cases h | ((try simp only [vis, Int.reduceToNat] at h); (try (exfalso; omega))))) | (with_reducible refine Vc.mk ?_; fail) | (with_reducible refine cutG ?_; fail) | refine idx_map ?_ ?_ | refine idx_mapI ?_ ?_ ?_ )))); (all_goals (try omega)); (all_goals (try ((first | with_reducible refine Vc.mk ?_ | refine Vc.mk ?_); (try exact GLt))))); ((all_goals (try omega)); (all_goals (try ((first | with_reducible refine Vc.mk ?_ | refine Vc.mk ?_); (try exact GLt)))); ((refine ⟨_, _, _, _, [1, 2], RD, rfl, rfl, rfl, ?_, ?_, ?_⟩)); (· ((repeat' (conv => whnf); (first | with_reducible refine And.intro ?_ ?_ | with_reducible exact True.intro | with_reducible exact Or.inl rfl | (refine Vc.mk ?_; (first | exact rfl | exact ⟨rfl, .inl rfl⟩ | omega | skip)))); all_goals rfl)); (· ((repeat' (conv => whnf); (first | with_reducible refine And.intro ?_ ?_ | with_reducible exact True.intro | with_reducible exact Or.inl rfl | (refine Vc.mk ?_; (first | exact rfl | exact ⟨rfl, .inl rfl⟩ | omega | skip)))); all_goals rfl)); (iterate 2 all_goals (try (repeat' (conv => whnf); (first | with_reducible refine And.intro ?_ ?_ | with_reducible exact True.intro | (intro h; (first | cases h | ((try simp only [vis, Int.reduceToNat] at h); (try (exfalso; omega))))) | (with_reducible refine Vc.mk ?_; fail) | (with_reducible refine cutG ?_; fail) | refine idx_map ?_ ?_ | refine idx_mapI ?_ ?_ ?_ )))); (all_goals (try omega)); (all_goals (try ((first | with_reducible refine Vc.mk ?_ | refine Vc.mk ?_); (try exact GLt))))))
            (all_goals (try ((first | (refine call0 (hs) ?_ ?_) | (refine pure0 (hs) rfl ?_ ?_)); (· (repeat' (conv => whnf); (first | with_reducible refine And.intro ?_ ?_ | with_reducible exact True.intro | with_reducible exact Or.inl rfl | (refine Vc.mk ?_; (first | exact rfl | exact ⟨rfl, .inl rfl⟩ | omega | skip))))); (iterate 2 all_goals (try (repeat' (conv => whnf); (first | with_reducible refine And.intro ?_ ?_ | with_reducible exact True.intro | (intro h; (first | cases h | ((try simp only [vis, Int.reduceToNat] at h); (try (exfalso; omega))))) | (with_reducible refine Vc.mk ?_; fail) | (with_reducible refine cutG ?_; fail) | refine idx_map ?_ ?_ | refine idx_mapI ?_ ?_ ?_ )))))))
            all_goals (try omega)
            all_goals (try ((first | with_reducible refine Vc.mk ?_ | refine Vc.mk ?_); (try exact GLt)))
            all_goals (exact ⟨_, by (refine le_sub [0, 1, 2] rfl rfl ?_ ?_); all_goals ((repeat' (conv => whnf); (first | with_reducible refine And.intro ?_ ?_ | with_reducible exact True.intro | with_reducible exact Or.inl rfl | (refine Vc.mk ?_; (first | exact rfl | exact ⟨rfl, .inl rfl⟩ | omega | skip)))); all_goals (try rfl)), hy⟩)
          rw [if_neg c1] at hST
          by_cases c2 : (l[k].k).toList = (⟨#[116, 97, 107, 101]⟩ : ByteArray).toList
          · rw [if_pos c2] at hST
            have HD := xtake_ok hok l[k].a l[k].x
            have RD := stake_ok hok l[k].a l[k].x
            have hs := gsame_ok (takeE b l[k].a l[k].x) (takeE b l[k].a l[k].x) (by unfold takeE; split <;> first | decide | exact sfault_nonneg ..)
            simp only [beq_self_eq_true] at hs
            rw [← hST] at HD RD
            unfold flA at hy
            unfold rbS at RD
            unfold stRow at HD RD
            generalize takeE b l[k].a l[k].x = E at *
            generalize takeV b l[k].a l[k].x = V at *
            (iterate 2 all_goals (try (repeat' (conv => whnf); (first | with_reducible refine And.intro ?_ ?_ | with_reducible exact True.intro | (intro h; (first | cases h | ((try simp only [vis, Int.reduceToNat] at h); (try (exfalso; omega))))) | (with_reducible refine Vc.mk ?_; fail) | (with_reducible refine cutG ?_; fail) | refine idx_map ?_ ?_ | refine idx_mapI ?_ ?_ ?_ ))))
            all_goals (try omega)
            all_goals (try (exfalso; first | contradiction | omega))
            all_goals (try ((first | with_reducible refine Vc.mk ?_ | refine Vc.mk ?_); (try exact GLt)))
            all_goals (((all_goals (try omega)); (all_goals (try ((first | with_reducible refine Vc.mk ?_ | refine Vc.mk ?_); (try exact GLt)))); ((refine ⟨_, _, _, _, [0], HD, rfl, rfl, rfl, ?_, ?_, ?_⟩)); (· ((repeat' (conv => whnf); (first | with_reducible refine And.intro ?_ ?_ | with_reducible exact True.intro | with_reducible exact Or.inl rfl | (refine Vc.mk ?_; (first | exact rfl | exact ⟨rfl, .inl rfl⟩ | omega | skip)))); all_goals rfl)); (· ((repeat' (conv => whnf); (first | with_reducible refine And.intro ?_ ?_ | with_reducible exact True.intro | with_reducible exact Or.inl rfl | (refine Vc.mk ?_; (first | exact rfl | exact ⟨rfl, .inl rfl⟩ | omega | skip)))); all_goals rfl)); (iterate 2 all_goals (try (repeat' (conv => whnf); (first | with_reducible refine And.intro ?_ ?_ | with_reducible exact True.intro | (intro h; (first | cases h | ((try simp only [vis, Int.reduceToNat] at h); (try (exfalso; omega))))) | (with_reducible refine Vc.mk ?_; fail) | (with_reducible refine cutG ?_; fail) | refine idx_map ?_ ?_ | refine idx_mapI ?_ ?_ ?_ )))); (all_goals (try omega)); (all_goals (try ((first | with_reducible refine Vc.mk ?_ | refine Vc.mk ?_); (try exact GLt))))); ((all_goals (try omega)); (all_goals (try ((first | with_reducible refine Vc.mk ?_ | refine Vc.mk ?_); (try exact GLt)))); ((refine ⟨_, _, _, _, [1, 2], RD, rfl, rfl, rfl, ?_, ?_, ?_⟩)); (· ((repeat' (conv => whnf); (first | with_reducible refine And.intro ?_ ?_ | with_reducible exact True.intro | with_reducible exact Or.inl rfl | (refine Vc.mk ?_; (first | exact rfl | exact ⟨rfl, .inl rfl⟩ | omega | skip)))); all_goals rfl)); (· ((repeat' (conv => whnf); (first | with_reducible refine And.intro ?_ ?_ | with_reducible exact True.intro | with_reducible exact Or.inl rfl | (refine Vc.mk ?_; (first | exact rfl | exact ⟨rfl, .inl rfl⟩ | omega | skip)))); all_goals rfl)); (iterate 2 all_goals (try (repeat' (conv => whnf); (first | with_reducible refine And.intro ?_ ?_ | with_reducible exact True.intro | (intro h; (first | cases h | ((try simp only [vis, Int.reduceToNat] at h); (try (exfalso; omega))))) | (with_reducible refine Vc.mk ?_; fail) | (with_reducible refine cutG ?_; fail) | refine idx_map ?_ ?_ | refine idx_mapI ?_ ?_ ?_ )))); (all_goals (try omega)); (all_goals (try ((first | with_reducible refine Vc.mk ?_ | refine Vc.mk ?_); (try exact GLt))))))
            (all_goals (try ((first | (refine call0 (hs) ?_ ?_) | (refine pure0 (hs) rfl ?_ ?_)); (· (repeat' (conv => whnf); (first | with_reducible refine And.intro ?_ ?_ | with_reducible exact True.intro | with_reducible exact Or.inl rfl | (refine Vc.mk ?_; (first | exact rfl | exact ⟨rfl, .inl rfl⟩ | omega | skip))))); (iterate 2 all_goals (try (repeat' (conv => whnf); (first | with_reducible refine And.intro ?_ ?_ | with_reducible exact True.intro | (intro h; (first | cases h | ((try simp only [vis, Int.reduceToNat] at h); (try (exfalso; omega))))) | (with_reducible refine Vc.mk ?_; fail) | (with_reducible refine cutG ?_; fail) | refine idx_map ?_ ?_ | refine idx_mapI ?_ ?_ ?_ )))))))
            all_goals (try omega)
            all_goals (try ((first | with_reducible refine Vc.mk ?_ | refine Vc.mk ?_); (try exact GLt)))
            all_goals (exact ⟨_, by (refine le_sub [0, 1, 2] rfl rfl ?_ ?_); all_goals ((repeat' (conv => whnf); (first | with_reducible refine And.intro ?_ ?_ | with_reducible exact True.intro | with_reducible exact Or.inl rfl | (refine Vc.mk ?_; (first | exact rfl | exact ⟨rfl, .inl rfl⟩ | omega | skip)))); all_goals (try rfl)), hy⟩)
          rw [if_neg c2] at hST
          by_cases c3 : (l[k].k).toList = (⟨#[104, 101, 97, 114, 100]⟩ : ByteArray).toList
          · rw [if_pos c3] at hST
            have HD := xheard_ok hok l[k].a l[k].x
            have RD := sheard_ok hok l[k].a l[k].x
            have hs := gsame_ok (takeE b l[k].a l[k].x) (takeE b l[k].a l[k].x) (by unfold takeE; split <;> first | decide | exact sfault_nonneg ..)
            simp only [beq_self_eq_true] at hs
            rw [← hST] at HD RD
            unfold flA at hy
            unfold rbS at RD
            unfold stRow at HD RD
            generalize takeE b l[k].a l[k].x = E at *
            (iterate 2 all_goals (try (repeat' (conv => whnf); (first | with_reducible refine And.intro ?_ ?_ | with_reducible exact True.intro | (intro h; (first | cases h | ((try simp only [vis, Int.reduceToNat] at h); (try (exfalso; omega))))) | (with_reducible refine Vc.mk ?_; fail) | (with_reducible refine cutG ?_; fail) | refine idx_map ?_ ?_ | refine idx_mapI ?_ ?_ ?_ ))))
            all_goals (try omega)
            all_goals (try (exfalso; first | contradiction | omega))
            all_goals (try ((first | with_reducible refine Vc.mk ?_ | refine Vc.mk ?_); (try exact GLt)))
            all_goals (((all_goals (try omega)); (all_goals (try ((first | with_reducible refine Vc.mk ?_ | refine Vc.mk ?_); (try exact GLt)))); ((refine ⟨_, _, _, _, [0], HD, rfl, rfl, rfl, ?_, ?_, ?_⟩)); (· ((repeat' (conv => whnf); (first | with_reducible refine And.intro ?_ ?_ | with_reducible exact True.intro | with_reducible exact Or.inl rfl | (refine Vc.mk ?_; (first | exact rfl | exact ⟨rfl, .inl rfl⟩ | omega | skip)))); all_goals rfl)); (· ((repeat' (conv => whnf); (first | with_reducible refine And.intro ?_ ?_ | with_reducible exact True.intro | with_reducible exact Or.inl rfl | (refine Vc.mk ?_; (first | exact rfl | exact ⟨rfl, .inl rfl⟩ | omega | skip)))); all_goals rfl)); (iterate 2 all_goals (try (repeat' (conv => whnf); (first | with_reducible refine And.intro ?_ ?_ | with_reducible exact True.intro | (intro h; (first | cases h | ((try simp only [vis, Int.reduceToNat] at h); (try (exfalso; omega))))) | (with_reducible refine Vc.mk ?_; fail) | (with_reducible refine cutG ?_; fail) | refine idx_map ?_ ?_ | refine idx_mapI ?_ ?_ ?_ )))); (all_goals (try omega)); (all_goals (try ((first | with_reducible refine Vc.mk ?_ | refine Vc.mk ?_); (try exact GLt))))); ((all_goals (try omega)); (all_goals (try ((first | with_reducible refine Vc.mk ?_ | refine Vc.mk ?_); (try exact GLt)))); ((refine ⟨_, _, _, _, [1, 2], RD, rfl, rfl, rfl, ?_, ?_, ?_⟩)); (· ((repeat' (conv => whnf); (first | with_reducible refine And.intro ?_ ?_ | with_reducible exact True.intro | with_reducible exact Or.inl rfl | (refine Vc.mk ?_; (first | exact rfl | exact ⟨rfl, .inl rfl⟩ | omega | skip)))); all_goals rfl)); (· ((repeat' (conv => whnf); (first | with_reducible refine And.intro ?_ ?_ | with_reducible exact True.intro | with_reducible exact Or.inl rfl | (refine Vc.mk ?_; (first | exact rfl | exact ⟨rfl, .inl rfl⟩ | omega | skip)))); all_goals rfl)); (iterate 2 all_goals (try (repeat' (conv => whnf); (first | with_reducible refine And.intro ?_ ?_ | with_reducible exact True.intro | (intro h; (first | cases h | ((try simp only [vis, Int.reduceToNat] at h); (try (exfalso; omega))))) | (with_reducible refine Vc.mk ?_; fail) | (with_reducible refine cutG ?_; fail) | refine idx_map ?_ ?_ | refine idx_mapI ?_ ?_ ?_ )))); (all_goals (try omega)); (all_goals (try ((first | with_reducible refine Vc.mk ?_ | refine Vc.mk ?_); (try exact GLt))))))
            (all_goals (try ((first | (refine call0 (hs) ?_ ?_) | (refine pure0 (hs) rfl ?_ ?_)); (· (repeat' (conv => whnf); (first | with_reducible refine And.intro ?_ ?_ | with_reducible exact True.intro | with_reducible exact Or.inl rfl | (refine Vc.mk ?_; (first | exact rfl | exact ⟨rfl, .inl rfl⟩ | omega | skip))))); (iterate 2 all_goals (try (repeat' (conv => whnf); (first | with_reducible refine And.intro ?_ ?_ | with_reducible exact True.intro | (intro h; (first | cases h | ((try simp only [vis, Int.reduceToNat] at h); (try (exfalso; omega))))) | (with_reducible refine Vc.mk ?_; fail) | (with_reducible refine cutG ?_; fail) | refine idx_map ?_ ?_ | refine idx_mapI ?_ ?_ ?_ )))))))
            all_goals (try omega)
            all_goals (try ((first | with_reducible refine Vc.mk ?_ | refine Vc.mk ?_); (try exact GLt)))
            all_goals (exact ⟨_, by (refine le_sub [0, 1, 2] rfl rfl ?_ ?_); all_goals ((repeat' (conv => whnf); (first | with_reducible refine And.intro ?_ ?_ | with_reducible exact True.intro | with_reducible exact Or.inl rfl | (refine Vc.mk ?_; (first | exact rfl | exact ⟨rfl, .inl rfl⟩ | omega | skip)))); all_goals (try rfl)), hy⟩)
          rw [if_neg c3] at hST
          by_cases c4 : (l[k].k).toList = (⟨#[109, 101, 101, 116]⟩ : ByteArray).toList
          · rw [if_pos c4] at hST
            have HD := xmeet_ok hok l[k].a
            have RD := smeet_ok hok l[k].a
            have hs := gsame_ok (metE b l[k].a) (metE b l[k].a) (by unfold metE; split <;> decide)
            simp only [beq_self_eq_true] at hs
            rw [← hST] at HD RD
            unfold flA at hy
            unfold rbS at RD
            generalize metE b l[k].a = E at *
            (iterate 2 all_goals (try (repeat' (conv => whnf); (first | with_reducible refine And.intro ?_ ?_ | with_reducible exact True.intro | (intro h; (first | cases h | ((try simp only [vis, Int.reduceToNat] at h); (try (exfalso; omega))))) | (with_reducible refine Vc.mk ?_; fail) | (with_reducible refine cutG ?_; fail) | refine idx_map ?_ ?_ | refine idx_mapI ?_ ?_ ?_ ))))
            all_goals (try omega)
            all_goals (try (exfalso; first | contradiction | omega))
            all_goals (try ((first | with_reducible refine Vc.mk ?_ | refine Vc.mk ?_); (try exact GLt)))
            all_goals (((all_goals (try omega)); (all_goals (try ((first | with_reducible refine Vc.mk ?_ | refine Vc.mk ?_); (try exact GLt)))); ((refine ⟨_, _, _, _, [0], HD, rfl, rfl, rfl, ?_, ?_, ?_⟩)); (· ((repeat' (conv => whnf); (first | with_reducible refine And.intro ?_ ?_ | with_reducible exact True.intro | with_reducible exact Or.inl rfl | (refine Vc.mk ?_; (first | exact rfl | exact ⟨rfl, .inl rfl⟩ | omega | skip)))); all_goals rfl)); (· ((repeat' (conv => whnf); (first | with_reducible refine And.intro ?_ ?_ | with_reducible exact True.intro | with_reducible exact Or.inl rfl | (refine Vc.mk ?_; (first | exact rfl | exact ⟨rfl, .inl rfl⟩ | omega | skip)))); all_goals rfl)); (iterate 2 all_goals (try (repeat' (conv => whnf); (first | with_reducible refine And.intro ?_ ?_ | with_reducible exact True.intro | (intro h; (first | cases h | ((try simp only [vis, Int.reduceToNat] at h); (try (exfalso; omega))))) | (with_reducible refine Vc.mk ?_; fail) | (with_reducible refine cutG ?_; fail) | refine idx_map ?_ ?_ | refine idx_mapI ?_ ?_ ?_ )))); (all_goals (try omega)); (all_goals (try ((first | with_reducible refine Vc.mk ?_ | refine Vc.mk ?_); (try exact GLt))))); ((all_goals (try omega)); (all_goals (try ((first | with_reducible refine Vc.mk ?_ | refine Vc.mk ?_); (try exact GLt)))); ((refine ⟨_, _, _, _, [1, 2], RD, rfl, rfl, rfl, ?_, ?_, ?_⟩)); (· ((repeat' (conv => whnf); (first | with_reducible refine And.intro ?_ ?_ | with_reducible exact True.intro | with_reducible exact Or.inl rfl | (refine Vc.mk ?_; (first | exact rfl | exact ⟨rfl, .inl rfl⟩ | omega | skip)))); all_goals rfl)); (· ((repeat' (conv => whnf); (first | with_reducible refine And.intro ?_ ?_ | with_reducible exact True.intro | with_reducible exact Or.inl rfl | (refine Vc.mk ?_; (first | exact rfl | exact ⟨rfl, .inl rfl⟩ | omega | skip)))); all_goals rfl)); (iterate 2 all_goals (try (repeat' (conv => whnf); (first | with_reducible refine And.intro ?_ ?_ | with_reducible exact True.intro | (intro h; (first | cases h | ((try simp only [vis, Int.reduceToNat] at h); (try (exfalso; omega))))) | (with_reducible refine Vc.mk ?_; fail) | (with_reducible refine cutG ?_; fail) | refine idx_map ?_ ?_ | refine idx_mapI ?_ ?_ ?_ )))); (all_goals (try omega)); (all_goals (try ((first | with_reducible refine Vc.mk ?_ | refine Vc.mk ?_); (try exact GLt))))))
            (all_goals (try ((first | (refine call0 (hs) ?_ ?_) | (refine pure0 (hs) rfl ?_ ?_)); (· (repeat' (conv => whnf); (first | with_reducible refine And.intro ?_ ?_ | with_reducible exact True.intro | with_reducible exact Or.inl rfl | (refine Vc.mk ?_; (first | exact rfl | exact ⟨rfl, .inl rfl⟩ | omega | skip))))); (iterate 2 all_goals (try (repeat' (conv => whnf); (first | with_reducible refine And.intro ?_ ?_ | with_reducible exact True.intro | (intro h; (first | cases h | ((try simp only [vis, Int.reduceToNat] at h); (try (exfalso; omega))))) | (with_reducible refine Vc.mk ?_; fail) | (with_reducible refine cutG ?_; fail) | refine idx_map ?_ ?_ | refine idx_mapI ?_ ?_ ?_ )))))))
            all_goals (try omega)
            all_goals (try ((first | with_reducible refine Vc.mk ?_ | refine Vc.mk ?_); (try exact GLt)))
            all_goals (exact ⟨_, by (refine le_sub [0, 1, 2] rfl rfl ?_ ?_); all_goals ((repeat' (conv => whnf); (first | with_reducible refine And.intro ?_ ?_ | with_reducible exact True.intro | with_reducible exact Or.inl rfl | (refine Vc.mk ?_; (first | exact rfl | exact ⟨rfl, .inl rfl⟩ | omega | skip)))); all_goals (try rfl)), hy⟩)
          rw [if_neg c4] at hST
          have HD := xpart_ok hok l[k].a
          have RD := spart_ok hok l[k].a
          rw [← hST] at HD RD
          unfold flA at hy
          unfold rbS at RD
          (iterate 2 all_goals (try (repeat' (conv => whnf); (first | with_reducible refine And.intro ?_ ?_ | with_reducible exact True.intro | (intro h; (first | cases h | ((try simp only [vis, Int.reduceToNat] at h); (try (exfalso; omega))))) | (with_reducible refine Vc.mk ?_; fail) | (with_reducible refine cutG ?_; fail) | refine idx_map ?_ ?_ | refine idx_mapI ?_ ?_ ?_ ))))
          all_goals (try omega)
          all_goals (try (exfalso; first | contradiction | omega))
          all_goals (try ((first | with_reducible refine Vc.mk ?_ | refine Vc.mk ?_); (try exact GLt)))
          all_goals (((all_goals (try omega)); (all_goals (try ((first | with_reducible refine Vc.mk ?_ | refine Vc.mk ?_); (try exact GLt)))); ((refine ⟨_, _, _, _, [0], HD, rfl, rfl, rfl, ?_, ?_, ?_⟩)); (· ((repeat' (conv => whnf); (first | with_reducible refine And.intro ?_ ?_ | with_reducible exact True.intro | with_reducible exact Or.inl rfl | (refine Vc.mk ?_; (first | exact rfl | exact ⟨rfl, .inl rfl⟩ | omega | skip)))); all_goals rfl)); (· ((repeat' (conv => whnf); (first | with_reducible refine And.intro ?_ ?_ | with_reducible exact True.intro | with_reducible exact Or.inl rfl | (refine Vc.mk ?_; (first | exact rfl | exact ⟨rfl, .inl rfl⟩ | omega | skip)))); all_goals rfl)); (iterate 2 all_goals (try (repeat' (conv => whnf); (first | with_reducible refine And.intro ?_ ?_ | with_reducible exact True.intro | (intro h; (first | cases h | ((try simp only [vis, Int.reduceToNat] at h); (try (exfalso; omega))))) | (with_reducible refine Vc.mk ?_; fail) | (with_reducible refine cutG ?_; fail) | refine idx_map ?_ ?_ | refine idx_mapI ?_ ?_ ?_ )))); (all_goals (try omega)); (all_goals (try ((first | with_reducible refine Vc.mk ?_ | refine Vc.mk ?_); (try exact GLt))))); ((all_goals (try omega)); (all_goals (try ((first | with_reducible refine Vc.mk ?_ | refine Vc.mk ?_); (try exact GLt)))); ((refine ⟨_, _, _, _, [1, 2], RD, rfl, rfl, rfl, ?_, ?_, ?_⟩)); (· ((repeat' (conv => whnf); (first | with_reducible refine And.intro ?_ ?_ | with_reducible exact True.intro | with_reducible exact Or.inl rfl | (refine Vc.mk ?_; (first | exact rfl | exact ⟨rfl, .inl rfl⟩ | omega | skip)))); all_goals rfl)); (· ((repeat' (conv => whnf); (first | with_reducible refine And.intro ?_ ?_ | with_reducible exact True.intro | with_reducible exact Or.inl rfl | (refine Vc.mk ?_; (first | exact rfl | exact ⟨rfl, .inl rfl⟩ | omega | skip)))); all_goals rfl)); (iterate 2 all_goals (try (repeat' (conv => whnf); (first | with_reducible refine And.intro ?_ ?_ | with_reducible exact True.intro | (intro h; (first | cases h | ((try simp only [vis, Int.reduceToNat] at h); (try (exfalso; omega))))) | (with_reducible refine Vc.mk ?_; fail) | (with_reducible refine cutG ?_; fail) | refine idx_map ?_ ?_ | refine idx_mapI ?_ ?_ ?_ )))); (all_goals (try omega)); (all_goals (try ((first | with_reducible refine Vc.mk ?_ | refine Vc.mk ?_); (try exact GLt))))))
          all_goals (exact ⟨_, by (refine le_sub [0, 1, 2] rfl rfl ?_ ?_); all_goals ((repeat' (conv => whnf); (first | with_reducible refine And.intro ?_ ?_ | with_reducible exact True.intro | with_reducible exact Or.inl rfl | (refine Vc.mk ?_; (first | exact rfl | exact ⟨rfl, .inl rfl⟩ | omega | skip)))); all_goals (try rfl)), hy⟩)
      · unfold flA
        (iterate 2 all_goals (try (repeat' (conv => whnf); (first | with_reducible refine And.intro ?_ ?_ | with_reducible exact True.intro | (intro h; (first | cases h | ((try simp only [vis, Int.reduceToNat] at h); (try (exfalso; omega))))) | (with_reducible refine Vc.mk ?_; fail) | (with_reducible refine cutG ?_; fail) | refine idx_map ?_ ?_ | refine idx_mapI ?_ ?_ ?_ ))))
        all_goals (try omega)
        all_goals (((try (conv => whnf)); refine ⟨_, AS.le_refl _ _, ?_⟩; ((try (conv => whnf)); refine ⟨[], rfl, rfl, ?_, ?_⟩)); (repeat' (conv => whnf); (first | with_reducible refine And.intro ?_ ?_ | with_reducible exact True.intro | with_reducible exact Or.inl rfl | (refine Vc.mk ?_; (first | exact rfl | exact ⟨rfl, .inl rfl⟩ | omega | skip)))))
    · have n1 := fnew_no n (by omega)
      have g1 := gsame_ok 1 1 (by decide)
      refine fn_plan mixed (floodPl) [] [] Try.func10 rfl (by decide +kernel) Try.ntmps10 rfl (congrArg Array.toList Try.results10) rfl (by decide +kernel) ?_
      (iterate 2 all_goals (try (repeat' (conv => whnf); (first | with_reducible refine And.intro ?_ ?_ | with_reducible exact True.intro | (intro h; (first | cases h | ((try simp only [vis, Int.reduceToNat] at h); (try (exfalso; omega))))) | (with_reducible refine Vc.mk ?_; fail) | (with_reducible refine cutG ?_; fail) | refine idx_map ?_ ?_ | refine idx_mapI ?_ ?_ ?_ ))))
      (all_goals (try ((first | (refine call0 (bases_ok) ?_ ?_) | (refine pure0 (bases_ok) rfl ?_ ?_)); (· (repeat' (conv => whnf); (first | with_reducible refine And.intro ?_ ?_ | with_reducible exact True.intro | with_reducible exact Or.inl rfl | (refine Vc.mk ?_; (first | exact rfl | exact ⟨rfl, .inl rfl⟩ | omega | skip))))); (iterate 2 all_goals (try (repeat' (conv => whnf); (first | with_reducible refine And.intro ?_ ?_ | with_reducible exact True.intro | (intro h; (first | cases h | ((try simp only [vis, Int.reduceToNat] at h); (try (exfalso; omega))))) | (with_reducible refine Vc.mk ?_; fail) | (with_reducible refine cutG ?_; fail) | refine idx_map ?_ ?_ | refine idx_mapI ?_ ?_ ?_ )))))))
      all_goals (try ((first | with_reducible refine Vc.mk ?_ | refine Vc.mk ?_); (try exact GLt)))
      (all_goals (try ((first | (refine call0 (hla) ?_ ?_) | (refine pure0 (hla) rfl ?_ ?_)); (· (repeat' (conv => whnf); (first | with_reducible refine And.intro ?_ ?_ | with_reducible exact True.intro | with_reducible exact Or.inl rfl | (refine Vc.mk ?_; (first | exact rfl | exact ⟨rfl, .inl rfl⟩ | omega | skip))))); (iterate 2 all_goals (try (repeat' (conv => whnf); (first | with_reducible refine And.intro ?_ ?_ | with_reducible exact True.intro | (intro h; (first | cases h | ((try simp only [vis, Int.reduceToNat] at h); (try (exfalso; omega))))) | (with_reducible refine Vc.mk ?_; fail) | (with_reducible refine cutG ?_; fail) | refine idx_map ?_ ?_ | refine idx_mapI ?_ ?_ ?_ )))))))
      all_goals (try (exfalso; first | omega | (simp at h; done)))
      all_goals (try ((first | with_reducible refine Vc.mk ?_ | refine Vc.mk ?_); (try exact GLt)))
      (all_goals (try ((first | (refine call0 (n1) ?_ ?_) | (refine pure0 (n1) rfl ?_ ?_)); (· (repeat' (conv => whnf); (first | with_reducible refine And.intro ?_ ?_ | with_reducible exact True.intro | with_reducible exact Or.inl rfl | (refine Vc.mk ?_; (first | exact rfl | exact ⟨rfl, .inl rfl⟩ | omega | skip))))); (iterate 2 all_goals (try (repeat' (conv => whnf); (first | with_reducible refine And.intro ?_ ?_ | with_reducible exact True.intro | (intro h; (first | cases h | ((try simp only [vis, Int.reduceToNat] at h); (try (exfalso; omega))))) | (with_reducible refine Vc.mk ?_; fail) | (with_reducible refine cutG ?_; fail) | refine idx_map ?_ ?_ | refine idx_mapI ?_ ?_ ?_ )))))))
      all_goals (try omega)
      all_goals (try ((first | with_reducible refine Vc.mk ?_ | refine Vc.mk ?_); (try exact GLt)))
      (all_goals (try ((first | (refine call0 (g1) ?_ ?_) | (refine pure0 (g1) rfl ?_ ?_)); (· (repeat' (conv => whnf); (first | with_reducible refine And.intro ?_ ?_ | with_reducible exact True.intro | with_reducible exact Or.inl rfl | (refine Vc.mk ?_; (first | exact rfl | exact ⟨rfl, .inl rfl⟩ | omega | skip))))); (iterate 2 all_goals (try (repeat' (conv => whnf); (first | with_reducible refine And.intro ?_ ?_ | with_reducible exact True.intro | (intro h; (first | cases h | ((try simp only [vis, Int.reduceToNat] at h); (try (exfalso; omega))))) | (with_reducible refine Vc.mk ?_; fail) | (with_reducible refine cutG ?_; fail) | refine idx_map ?_ ?_ | refine idx_mapI ?_ ?_ ?_ )))))))
      all_goals (try omega)
      all_goals (try ((first | with_reducible refine Vc.mk ?_ | refine Vc.mk ?_); (try exact GLt)))
      all_goals (((try (conv => whnf)); refine ⟨_, AS.le_refl _ _, ?_⟩; ((try (conv => whnf)); refine ⟨[], rfl, rfl, ?_, ?_⟩)); (repeat' (conv => whnf); (first | with_reducible refine And.intro ?_ ?_ | with_reducible exact True.intro | with_reducible exact Or.inl rfl | (refine Vc.mk ?_; (first | exact rfl | exact ⟨rfl, .inl rfl⟩ | omega | skip)))))
  · rw [show lightA l 60 = false from by simpa using hL] at hla
    refine fn_plan mixed (floodPl) [] [] Try.func10 rfl (by decide +kernel) Try.ntmps10 rfl (congrArg Array.toList Try.results10) rfl (by decide +kernel) ?_
    (iterate 2 all_goals (try (repeat' (conv => whnf); (first | with_reducible refine And.intro ?_ ?_ | with_reducible exact True.intro | (intro h; (first | cases h | ((try simp only [vis, Int.reduceToNat] at h); (try (exfalso; omega))))) | (with_reducible refine Vc.mk ?_; fail) | (with_reducible refine cutG ?_; fail) | refine idx_map ?_ ?_ | refine idx_mapI ?_ ?_ ?_ ))))
    (all_goals (try ((first | (refine call0 (bases_ok) ?_ ?_) | (refine pure0 (bases_ok) rfl ?_ ?_)); (· (repeat' (conv => whnf); (first | with_reducible refine And.intro ?_ ?_ | with_reducible exact True.intro | with_reducible exact Or.inl rfl | (refine Vc.mk ?_; (first | exact rfl | exact ⟨rfl, .inl rfl⟩ | omega | skip))))); (iterate 2 all_goals (try (repeat' (conv => whnf); (first | with_reducible refine And.intro ?_ ?_ | with_reducible exact True.intro | (intro h; (first | cases h | ((try simp only [vis, Int.reduceToNat] at h); (try (exfalso; omega))))) | (with_reducible refine Vc.mk ?_; fail) | (with_reducible refine cutG ?_; fail) | refine idx_map ?_ ?_ | refine idx_mapI ?_ ?_ ?_ )))))))
    all_goals (try ((first | with_reducible refine Vc.mk ?_ | refine Vc.mk ?_); (try exact GLt)))
    (all_goals (try ((first | (refine call0 (hla) ?_ ?_) | (refine pure0 (hla) rfl ?_ ?_)); (· (repeat' (conv => whnf); (first | with_reducible refine And.intro ?_ ?_ | with_reducible exact True.intro | with_reducible exact Or.inl rfl | (refine Vc.mk ?_; (first | exact rfl | exact ⟨rfl, .inl rfl⟩ | omega | skip))))); (iterate 2 all_goals (try (repeat' (conv => whnf); (first | with_reducible refine And.intro ?_ ?_ | with_reducible exact True.intro | (intro h; (first | cases h | ((try simp only [vis, Int.reduceToNat] at h); (try (exfalso; omega))))) | (with_reducible refine Vc.mk ?_; fail) | (with_reducible refine cutG ?_; fail) | refine idx_map ?_ ?_ | refine idx_mapI ?_ ?_ ?_ )))))))
    all_goals (try ((first | with_reducible refine Vc.mk ?_ | refine Vc.mk ?_); (try exact GLt)))
    all_goals (((try (conv => whnf)); refine ⟨_, AS.le_refl _ _, ?_⟩; ((try (conv => whnf)); refine ⟨[], rfl, rfl, ?_, ?_⟩)); (repeat' (conv => whnf); (first | with_reducible refine And.intro ?_ ?_ | with_reducible exact True.intro | with_reducible exact Or.inl rfl | (refine Vc.mk ?_; (first | exact rfl | exact ⟨rfl, .inl rfl⟩ | omega | skip)))))
theorem floodSays_walk (W : World) (v0 v1 : Value) (i0 : InInt W v0) (i1 : GActs W v1) :
    Calls Try.prog 10 #[v0, v1] W fun e w' => e = .returned (.bool true) ∧ Below W.heap.size W w' := by
  obtain ⟨n, rfl, _⟩ := i0
  obtain ⟨l, _, hl⟩ := i1
  exact fn_law (floodSays_ok n l) W [_, _] ⟨.v _ _, hl, trivial⟩
end Go.Proofs.Ytimfnpjcedjmiaa
