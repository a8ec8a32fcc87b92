/-
  For every input VersionSequence returns true, and the arguments read as they did. No condition.
-/
import Derived.Test.YtmdnombjckcfoaaDoorBh
set_option linter.unusedSimpArgs false
set_option linter.unusedVariables false
section
namespace Go.Proofs
open Go Go.Abs
set_option linter.unusedSimpArgs false
set_option linter.unusedVariables false
set_option maxRecDepth 10000
namespace Tryd
theorem daysA_len (c : Es.Contract) (l : List Es.Amend) (known : Int) : (Es.daysA c l known).1.length ≤ l.length := by
  unfold Es.daysA
  split
  · exact Nat.zero_le _
  · refine Nat.le_trans (turnsA_len _ _) (Nat.le_trans (endsA_len _) (Nat.le_trans (Es.versionsA_len _ _ _) ?_))
    rw [Es.sortedA, Es.isort_len]
    exact Nat.le_refl _
theorem vchanges_spec (c : Es.Contract) (l : List Es.Amend) (day known : Int) (hf : Es.Fits c) (hl : l.length ≤ 9223372036854775807) : APure M 13 [conD c, slD 22 amdC l, .v (.int .i64 day), .v (.int .i64 known)] (.v (.bool true)) := by
  refine pure_of gpu func13 rfl results13 ntmps13 (by simp) ⟨pu_conD _, pu_slD pu_amdC _, .v _, .v _, trivial⟩ ?_
  intro b
  simp only [go_sem, ↓reduceIte, reduceCtorEq, Nat.reduceEqDiff, Nat.reduceLT, Nat.reduceLeDiff, Nat.reduceAdd, Nat.reduceSub, Nat.reduceMul, Nat.reduceGT, Int.reduceNeg, Int.reduceToNat]
  repeat' (first | ((with_reducible refine call_at M_P M_G (head25_spec) ?_); simp only [go_sem, ↓reduceIte, reduceCtorEq, Nat.reduceEqDiff, Nat.reduceLT, Nat.reduceLeDiff, Nat.reduceAdd, Nat.reduceSub, Nat.reduceMul, Nat.reduceGT, Int.reduceNeg, Int.reduceToNat]) | ((with_reducible refine call_at M_P M_G (small25_spec c l hf hl) ?_); simp only [go_sem, ↓reduceIte, reduceCtorEq, Nat.reduceEqDiff, Nat.reduceLT, Nat.reduceLeDiff, Nat.reduceAdd, Nat.reduceSub, Nat.reduceMul, Nat.reduceGT, Int.reduceNeg, Int.reduceToNat]) | (with_reducible refine And.intro ?_ ?_) | ((with_reducible refine ite_cases ?_ ?_) <;> intro _))
  · trivial
  have hl12 : l.length ≤ 12 := fewL_len (n := 12) (by simp_all)
  have hI := inForce_fits c l day known
  have he1 := Es.inForce_err c l day known
  have he2 : (Es.daysA c l known).2 = Es.checkA c l := by
    unfold Es.daysA
    split
    · rfl
    · rename_i h; simpa using (by simpa using h : Es.checkA c l = 0).symm
  refine call_at M_P M_G (days_spec c l known hf hl12) ?_
  simp only [go_sem, ↓reduceIte, reduceCtorEq, Nat.reduceEqDiff, Nat.reduceLT, Nat.reduceLeDiff, Nat.reduceAdd, Nat.reduceSub, Nat.reduceMul, Nat.reduceGT, Int.reduceNeg, Int.reduceToNat]
  refine call_at M_P M_G (inForce_spec c l day known hf hl12) ?_
  simp only [go_sem, ↓reduceIte, reduceCtorEq, Nat.reduceEqDiff, Nat.reduceLT, Nat.reduceLeDiff, Nat.reduceAdd, Nat.reduceSub, Nat.reduceMul, Nat.reduceGT, Int.reduceNeg, Int.reduceToNat]
  rw [he1, he2]
  by_cases hck : ¬ Es.checkA c l = 0
  · rw [if_neg (by simpa using hck), if_pos (by simp)]
    have hD : (Es.daysA c l known).1 = [] := by unfold Es.daysA; rw [if_pos (by simpa using hck)]
    rw [hD]; rfl
  have hck : Es.checkA c l = 0 := by simpa using hck
  rw [if_pos (by simpa using hck), if_neg (by simpa using hck)]
  obtain ⟨hpw, hT, hfold⟩ := Es.law_changes (known := known) hck day
  have hDl : (Es.daysA c l known).1.length ≤ 12 := Nat.le_trans (daysA_len c l known) hl12
  generalize (Es.daysA c l known).1 = D at *
  refine awp_count0 D.length (fun e0 s0 k e st => (e 1 = e0 1 ∧ e 2 = e0 2 ∧ e 3 = e0 3 ∧ e 4 = e0 4 ∧ e 9 = e0 9 ∧ e 10 = e0 10 ∧ e 12 = e0 12 ∧ e 15 = e0 15 ∧ e 16 = e0 16) ∧ e 17 = .v (.int .i64 k) ∧ 4 ≤ st.nx ∧ st.o 0 0 = some (.blk 7 1 27 (rowOf (conCells c))) ∧ st.o 1 0 = some (.blk 7 1 27 (rowOf (conCells (Es.inForce c l day known).1))) ∧
    (∃ last, st.o 2 0 = some (.blk 7 1 27 (rowOf (conCells last))) ∧ Es.Turns (fun d => (Es.inForce c l d known).1) last (D.drop k)) ∧ st.o 3 0 = some (.blk 7 1 27 (rowOf (conCells ((D.take k).foldl (fun now d => if decide (d ≤ day) then (Es.inForce c l d known).1 else now) c))))) ⟨⟨rfl, rfl, rfl, rfl, rfl, rfl, rfl, rfl, rfl⟩, ?_, Nat.le_refl _, ?_, ?_, ⟨c, ?_, by rw [List.drop_zero]; exact hT⟩, ?_⟩ ?_
  · simp only [go_sem, ↓reduceIte, reduceCtorEq, Nat.reduceEqDiff, Nat.reduceLT, Nat.reduceLeDiff, Nat.reduceAdd, Nat.reduceSub, Nat.reduceMul, Nat.reduceGT, Int.reduceNeg, Int.reduceToNat]; rfl
  · simp only [go_sem, ↓reduceIte, reduceCtorEq, Nat.reduceEqDiff, Nat.reduceLT, Nat.reduceLeDiff, Nat.reduceAdd, Nat.reduceSub, Nat.reduceMul, Nat.reduceGT, Int.reduceNeg, Int.reduceToNat, conCells_eq]
  · simp only [go_sem, ↓reduceIte, reduceCtorEq, Nat.reduceEqDiff, Nat.reduceLT, Nat.reduceLeDiff, Nat.reduceAdd, Nat.reduceSub, Nat.reduceMul, Nat.reduceGT, Int.reduceNeg, Int.reduceToNat, conCells_eq]
  · simp only [go_sem, ↓reduceIte, reduceCtorEq, Nat.reduceEqDiff, Nat.reduceLT, Nat.reduceLeDiff, Nat.reduceAdd, Nat.reduceSub, Nat.reduceMul, Nat.reduceGT, Int.reduceNeg, Int.reduceToNat, conCells_eq]
  · simp only [go_sem, ↓reduceIte, reduceCtorEq, Nat.reduceEqDiff, Nat.reduceLT, Nat.reduceLeDiff, Nat.reduceAdd, Nat.reduceSub, Nat.reduceMul, Nat.reduceGT, Int.reduceNeg, Int.reduceToNat, conCells_eq, List.take_zero, List.foldl_nil]
  rintro k e ⟨o2, n2⟩ hk ⟨⟨a1, a2, a3, a4, a9, a10, a12, a15, a16⟩, a17, hn, i0, i1, ⟨last, i2, htn⟩, i3⟩
  simp only [go_sem, ↓reduceIte, reduceCtorEq, Nat.reduceEqDiff, Nat.reduceLT, Nat.reduceLeDiff, Nat.reduceAdd, Nat.reduceSub, Nat.reduceMul, Nat.reduceGT, Int.reduceNeg, Int.reduceToNat] at a1 a2 a3 a4 a9 a10 a12 a15 a16
  simp only at hn i0 i1 i2 i3
  simp only [conCells_eq] at i0 i1 i2 i3
  have e0 : ∀ {a b : Nat}, a ≠ b → (a = b) = False := fun h => by simp [h]
  have w1 : (0 = 1) = False := e0 (by omega); have w2 : (0 = 2) = False := e0 (by omega); have w3 : (0 = 3) = False := e0 (by omega); have w4 : (0 = n2) = False := e0 (by omega); have w5 : (0 = n2 + 1) = False := e0 (by omega); have w6 : (1 = 0) = False := e0 (by omega); have w7 : (1 = 2) = False := e0 (by omega); have w8 : (1 = 3) = False := e0 (by omega); have w9 : (1 = n2) = False := e0 (by omega); have w10 : (1 = n2 + 1) = False := e0 (by omega); have w11 : (2 = 0) = False := e0 (by omega); have w12 : (2 = 1) = False := e0 (by omega); have w13 : (2 = 3) = False := e0 (by omega); have w14 : (2 = n2) = False := e0 (by omega); have w15 : (2 = n2 + 1) = False := e0 (by omega); have w16 : (3 = 0) = False := e0 (by omega); have w17 : (3 = 1) = False := e0 (by omega); have w18 : (3 = 2) = False := e0 (by omega); have w19 : (3 = n2) = False := e0 (by omega); have w20 : (3 = n2 + 1) = False := e0 (by omega); have w21 : (n2 = 0) = False := e0 (by omega); have w22 : (n2 = 1) = False := e0 (by omega); have w23 : (n2 = 2) = False := e0 (by omega); have w24 : (n2 = 3) = False := e0 (by omega); have w25 : (n2 = n2 + 1) = False := e0 (by omega); have w26 : (n2 + 1 = 0) = False := e0 (by omega); have w27 : (n2 + 1 = 1) = False := e0 (by omega); have w28 : (n2 + 1 = 2) = False := e0 (by omega); have w29 : (n2 + 1 = 3) = False := e0 (by omega); have w30 : (n2 + 1 = n2) = False := e0 (by omega)
  have hw : IntKind.i64.wrap ((k : Int) + 1) = (k : Int) + 1 := wrap_i64 _ (by omega) (by omega)
  have hw1 : IntKind.i64.wrap ((k : Int) - 1) = (k : Int) - 1 := wrap_i64 _ (by omega) (by omega)
  simp only [go_sem, ↓reduceIte, reduceCtorEq, Nat.reduceEqDiff, Nat.reduceLT, Nat.reduceLeDiff, Nat.reduceAdd, Nat.reduceSub, Nat.reduceMul, Nat.reduceGT, Int.reduceNeg, Int.reduceToNat, a1, a2, a3, a4, a9, a10, a12, a15, a16, a17, i0, i1, i2, i3, hw, hw1, w1, w2, w3, w4, w5, w6, w7, w8, w9, w10, w11, w12, w13, w14, w15, w16, w17, w18, w19, w20, w21, w22, w23, w24, w25, w26, w27, w28, w29, w30]
  refine ite_cases (fun hlt => ?_) (fun hlt => ?_)
  · have hlt' : k < D.length := Es.len_lt.1 hlt
    refine awp_plan ((.op 0 (.op 1 (.op 2 (.op 3 (.op 4 (.op 5 (.op 9 (.op 10 (.op 11 (.op 12 (.op 6 (.op 7 (.op 8 (.op 13 (.op 14 .done)))))))))))))))) [] mix (by kernel_rfl) ?_
    simp only [go_sem, ↓reduceIte, reduceCtorEq, Nat.reduceEqDiff, Nat.reduceLT, Nat.reduceLeDiff, Nat.reduceAdd, Nat.reduceSub, Nat.reduceMul, Nat.reduceGT, Int.reduceNeg, Int.reduceToNat, a1, a2, a3, a4, a9, a10, a12, a15, a16, a17, i0, i1, i2, i3, hw, hw1, w1, w2, w3, w4, w5, w6, w7, w8, w9, w10, w11, w12, w13, w14, w15, w16, w17, w18, w19, w20, w21, w22, w23, w24, w25, w26, w27, w28, w29, w30]
    have hnx : D.take (k + 1) = D.take k ++ [Es.at_ D (k : Int)] := by rw [List.take_add_one, List.getElem?_eq_getElem hlt', Es.at_nat hlt']; rfl
    have hdr : D.drop k = Es.at_ D (k : Int) :: D.drop (k + 1) := Es.drop_at hlt'
    rw [hdr] at htn
    have hI2 := inForce_fits c l (Es.at_ D (k : Int)) known
    have hne : Es.sameC (Es.inForce c l (Es.at_ D (k : Int)) known).1 last = false := by
      rw [Bool.eq_false_iff]; intro h; exact htn.1 ((Es.sameC_iff _ _).1 h)
    have he3 := Es.inForce_err c l (Es.at_ D (k : Int)) known
    rw [hck] at he3
    have hlast := htn.2
    refine ite_cases (fun h0 => ?_) (fun h0 => ?_)
    · have hm : max ((k : Int) - 1) 0 = ((k - 1 : Nat) : Int) := by omega
      have hlt2 : Es.at_ D ((k - 1 : Nat) : Int) < Es.at_ D (k : Int) := by
        rw [Es.at_nat hlt', Es.at_nat (show k - 1 < D.length by omega)]
        exact List.pairwise_iff_getElem.1 hpw _ _ _ _ (by omega)
      rw [hm]
      refine ⟨⟨by omega, hlt⟩, ⟨by omega, by simp only [Es.len]; omega⟩, ?_⟩
      rw [if_neg (by omega)]
      refine awp_wf fun hwf => ?_
      have hn0 : o2 n2 0 = none := hwf n2 0 (Nat.le_refl _)
      refine awp_plan ((.op 0 (.op 1 (.op 2 (.op 3 (.op 4 (.op 5 (.op 6 (.alt 7 (.op 8 (.op 9 (.op 10 (.op 11 (.op 12 (.op 13 (.op 14 (.op 15 .done)))))))) (.alt 12 (.op 7 (.op 8 (.op 9 (.op 10 (.op 11 (.op 13 (.op 14 (.op 15 .done)))))))) .dead)))))))))) [13] mix (by kernel_rfl) ?_
      simp only [go_sem, ↓reduceIte, reduceCtorEq, Nat.reduceEqDiff, Nat.reduceLT, Nat.reduceLeDiff, Nat.reduceAdd, Nat.reduceSub, Nat.reduceMul, Nat.reduceGT, Int.reduceNeg, Int.reduceToNat, a1, a2, a3, a4, a9, a10, a12, a15, a16, a17, i0, i1, i2, i3, hw, hw1, w1, w2, w3, w4, w5, w6, w7, w8, w9, w10, w11, w12, w13, w14, w15, w16, w17, w18, w19, w20, w21, w22, w23, w24, w25, w26, w27, w28, w29, w30]
      repeat' (first | (with_reducible refine And.intro ?_ ?_) | ((with_reducible refine ite_cases ?_ ?_) <;> intro _))
      all_goals first
        | omega
        | exact hlt
        | (exact keeps_set hn0)
        | refine call_at M_P M_G (inForce_spec c l (Es.at_ D (k : Int)) known hf hl12) ?_
      all_goals simp only [go_sem, ↓reduceIte, reduceCtorEq, Nat.reduceEqDiff, Nat.reduceLT, Nat.reduceLeDiff, Nat.reduceAdd, Nat.reduceSub, Nat.reduceMul, Nat.reduceGT, Int.reduceNeg, Int.reduceToNat, a1, a2, a3, a4, a9, a10, a12, a15, a16, a17, i0, i1, i2, i3, hw, hw1, he3, w1, w2, w3, w4, w5, w6, w7, w8, w9, w10, w11, w12, w13, w14, w15, w16, w17, w18, w19, w20, w21, w22, w23, w24, w25, w26, w27, w28, w29, w30]
      all_goals try refine ⟨keeps_set hn0, ?_⟩
      all_goals rw [if_pos (by rfl)]
      all_goals refine call_at M_P M_G (same13_spec (Es.inForce c l (Es.at_ D (k : Int)) known).1 last hI2.1 hI2.2.1) ?_
      all_goals simp only [go_sem, ↓reduceIte, reduceCtorEq, Nat.reduceEqDiff, Nat.reduceLT, Nat.reduceLeDiff, Nat.reduceAdd, Nat.reduceSub, Nat.reduceMul, Nat.reduceGT, Int.reduceNeg, Int.reduceToNat, a1, a2, a3, a4, a9, a10, a12, a15, a16, a17, i0, i1, i2, i3, hw, hw1, he3, hne, w1, w2, w3, w4, w5, w6, w7, w8, w9, w10, w11, w12, w13, w14, w15, w16, w17, w18, w19, w20, w21, w22, w23, w24, w25, w26, w27, w28, w29, w30]
      all_goals refine ⟨⟨by omega, hlt⟩, ?_⟩
      all_goals refine ite_cases (fun hd => ?_) (fun hd => ?_)
      all_goals refine ⟨hlt', ?_⟩
      all_goals simp only [go_sem, ↓reduceIte, reduceCtorEq, Nat.reduceEqDiff, Nat.reduceLT, Nat.reduceLeDiff, Nat.reduceAdd, Nat.reduceSub, Nat.reduceMul, Nat.reduceGT, Int.reduceNeg, Int.reduceToNat, a1, a2, a3, a4, a9, a10, a12, a15, a16, a17, i0, i1, i2, i3, hw, hw1, w1, w2, w3, w4, w5, w6, w7, w8, w9, w10, w11, w12, w13, w14, w15, w16, w17, w18, w19, w20, w21, w22, w23, w24, w25, w26, w27, w28, w29, w30]
      all_goals rw [hnx, List.foldl_append, List.foldl_cons, List.foldl_nil]
      all_goals first | rw [if_pos hd] | rw [if_neg hd]
      all_goals exact ⟨by simp, by omega, ⟨_, rfl, hlast⟩, rfl⟩
    · refine awp_wf fun hwf => ?_
      have hn0 : o2 n2 0 = none := hwf n2 0 (Nat.le_refl _)
      refine awp_plan ((.op 0 (.op 1 (.op 2 (.op 3 (.op 4 (.op 5 (.op 6 (.alt 7 (.op 8 (.op 9 (.op 10 (.op 11 (.op 12 (.op 13 (.op 14 (.op 15 .done)))))))) (.alt 12 (.op 7 (.op 8 (.op 9 (.op 10 (.op 11 (.op 13 (.op 14 (.op 15 .done)))))))) .dead)))))))))) [13] mix (by kernel_rfl) ?_
      simp only [go_sem, ↓reduceIte, reduceCtorEq, Nat.reduceEqDiff, Nat.reduceLT, Nat.reduceLeDiff, Nat.reduceAdd, Nat.reduceSub, Nat.reduceMul, Nat.reduceGT, Int.reduceNeg, Int.reduceToNat, a1, a2, a3, a4, a9, a10, a12, a15, a16, a17, i0, i1, i2, i3, hw, hw1, w1, w2, w3, w4, w5, w6, w7, w8, w9, w10, w11, w12, w13, w14, w15, w16, w17, w18, w19, w20, w21, w22, w23, w24, w25, w26, w27, w28, w29, w30]
      repeat' (first | (with_reducible refine And.intro ?_ ?_) | ((with_reducible refine ite_cases ?_ ?_) <;> intro _))
      all_goals first
        | omega
        | exact hlt
        | (exact keeps_set hn0)
        | refine call_at M_P M_G (inForce_spec c l (Es.at_ D (k : Int)) known hf hl12) ?_
      all_goals simp only [go_sem, ↓reduceIte, reduceCtorEq, Nat.reduceEqDiff, Nat.reduceLT, Nat.reduceLeDiff, Nat.reduceAdd, Nat.reduceSub, Nat.reduceMul, Nat.reduceGT, Int.reduceNeg, Int.reduceToNat, a1, a2, a3, a4, a9, a10, a12, a15, a16, a17, i0, i1, i2, i3, hw, hw1, he3, w1, w2, w3, w4, w5, w6, w7, w8, w9, w10, w11, w12, w13, w14, w15, w16, w17, w18, w19, w20, w21, w22, w23, w24, w25, w26, w27, w28, w29, w30]
      all_goals try refine ⟨keeps_set hn0, ?_⟩
      all_goals rw [if_pos (by rfl)]
      all_goals refine call_at M_P M_G (same13_spec (Es.inForce c l (Es.at_ D (k : Int)) known).1 last hI2.1 hI2.2.1) ?_
      all_goals simp only [go_sem, ↓reduceIte, reduceCtorEq, Nat.reduceEqDiff, Nat.reduceLT, Nat.reduceLeDiff, Nat.reduceAdd, Nat.reduceSub, Nat.reduceMul, Nat.reduceGT, Int.reduceNeg, Int.reduceToNat, a1, a2, a3, a4, a9, a10, a12, a15, a16, a17, i0, i1, i2, i3, hw, hw1, he3, hne, w1, w2, w3, w4, w5, w6, w7, w8, w9, w10, w11, w12, w13, w14, w15, w16, w17, w18, w19, w20, w21, w22, w23, w24, w25, w26, w27, w28, w29, w30]
      all_goals refine ⟨⟨by omega, hlt⟩, ?_⟩
      all_goals refine ite_cases (fun hd => ?_) (fun hd => ?_)
      all_goals refine ⟨hlt', ?_⟩
      all_goals simp only [go_sem, ↓reduceIte, reduceCtorEq, Nat.reduceEqDiff, Nat.reduceLT, Nat.reduceLeDiff, Nat.reduceAdd, Nat.reduceSub, Nat.reduceMul, Nat.reduceGT, Int.reduceNeg, Int.reduceToNat, a1, a2, a3, a4, a9, a10, a12, a15, a16, a17, i0, i1, i2, i3, hw, hw1, w1, w2, w3, w4, w5, w6, w7, w8, w9, w10, w11, w12, w13, w14, w15, w16, w17, w18, w19, w20, w21, w22, w23, w24, w25, w26, w27, w28, w29, w30]
      all_goals rw [hnx, List.foldl_append, List.foldl_cons, List.foldl_nil]
      all_goals first | rw [if_pos hd] | rw [if_neg hd]
      all_goals exact ⟨by simp, by omega, ⟨_, rfl, hlast⟩, rfl⟩
  · obtain rfl : k = D.length := by simp only [Es.len] at hlt; omega
    have hsame : Es.sameC (Es.inForce c l day known).1 (Es.inForce c l day known).1 = true := Es.sameC_refl _
    simp only [decide_eq_true_eq] at hfold
    simp only [List.take_length, hfold]
    refine call_at M_P M_G (same13_spec (Es.inForce c l day known).1 (Es.inForce c l day known).1 hI.1 hI.2.1) ?_
    simp only [go_sem, ↓reduceIte, reduceCtorEq, Nat.reduceEqDiff, Nat.reduceLT, Nat.reduceLeDiff, Nat.reduceAdd, Nat.reduceSub, Nat.reduceMul, Nat.reduceGT, Int.reduceNeg, Int.reduceToNat, hsame]
end Tryd
end Go.Proofs
end
section
namespace Es
theorem mod_two {x s n : Nat} (hx : x < n) (hs : s < n) : (x + s) % n = if x + s < n then x + s else x + s - n := by
  split
  · exact Nat.mod_eq_of_lt (by omega)
  · rw [Nat.mod_eq_sub_mod (by omega)]; exact Nat.mod_eq_of_lt (by omega)
theorem turn_perm {n t : Nat} (hn : 0 < n) : ((List.range n).map fun j => (n - 1 - j + t) % n).Perm (List.range n) := by
  have hs : t % n < n := Nat.mod_lt _ hn
  have hg : ∀ x, x < n → (x + t) % n = if x + t % n < n then x + t % n else x + t % n - n := fun x hx => by
    rw [Nat.add_mod, Nat.mod_eq_of_lt hx]; exact mod_two hx hs
  refine (List.perm_ext_iff_of_nodup ?_ List.nodup_range).2 fun a => ?_
  · refine List.pairwise_map.2 (List.Pairwise.imp_of_mem ?_ (List.pairwise_lt_range))
    intro i j hi hj hij
    simp only [List.mem_range] at hi hj
    rw [hg _ (by omega), hg _ (by omega)]
    split <;> split <;> omega
  · simp only [List.mem_map, List.mem_range]
    constructor
    · rintro ⟨j, hj, rfl⟩; exact Nat.mod_lt _ hn
    · intro ha
      refine ⟨n - 1 - (if t % n ≤ a then a - t % n else a + n - t % n), ?_, ?_⟩
      · split <;> omega
      · have : n - 1 - (n - 1 - (if t % n ≤ a then a - t % n else a + n - t % n)) = (if t % n ≤ a then a - t % n else a + n - t % n) := by split <;> omega
        rw [this, hg _ (by split <;> omega)]
        split <;> split <;> omega
/-- The list turned and reversed, its first k entries. -/
def turned (l : List Amend) (t k : Nat) : List Amend := (List.range k).map fun j => at_ l (((l.length - 1 - j + t) % l.length : Nat) : Int)
theorem turned_next (l : List Amend) (t k : Nat) : turned l t (k + 1) = turned l t k ++ [at_ l (((l.length - 1 - k + t) % l.length : Nat) : Int)] := by
  unfold turned; rw [List.range_succ, List.map_append]; rfl
theorem turned_perm {l : List Amend} (t : Nat) (hl : 0 < l.length) : l.Perm (turned l t l.length) := by
  have h := (turn_perm (t := t) hl).map fun i : Nat => at_ l (i : Int)
  rw [List.map_map] at h
  have e : (List.range l.length).map (fun i : Nat => at_ l (i : Int)) = l := List.ext_getElem (by simp) fun i h1 h2 => by
    rw [List.getElem_map, List.getElem_range, at_nat h2]
  rw [e] at h
  exact h.symm
end Es
namespace Go.Proofs
open Go Go.Abs
set_option linter.unusedSimpArgs false
set_option linter.unusedVariables false
set_option maxRecDepth 10000
namespace Tryd
theorem vsequence_spec (c : Es.Contract) (l : List Es.Amend) (day known turn : Int) (hf : Es.Fits c) (hl : l.length ≤ 9223372036854775807) (ht : 0 ≤ turn ∧ turn ≤ 255) : APure M 9 [conD c, slD 22 amdC l, .v (.int .i64 day), .v (.int .i64 known), .v (.int .u8 turn)] (.v (.bool true)) := by
  refine apure_of (PuL.mem (show PuL [conD c, slD 22 amdC l, .v (.int .i64 day), .v (.int .i64 known), .v (.int .u8 turn)] from ⟨pu_conD _, pu_slD pu_amdC _, .v _, .v _, .v _, trivial⟩)) gpu (acall_of func9 rfl results9 ntmps9 (by simp) fun b => ?_)
  refine awp_seq (wpA_sound _ _ _ _ ?_)
  simp only [go_sem, ↓reduceIte, reduceCtorEq, Nat.reduceEqDiff, Nat.reduceLT, Nat.reduceLeDiff, Nat.reduceAdd, Nat.reduceSub, Nat.reduceMul, Nat.reduceGT, Int.reduceNeg, Int.reduceToNat]
  refine awp_seq (wpA_sound _ _ _ _ ?_)
  simp only [go_sem, ↓reduceIte, reduceCtorEq, Nat.reduceEqDiff, Nat.reduceLT, Nat.reduceLeDiff, Nat.reduceAdd, Nat.reduceSub, Nat.reduceMul, Nat.reduceGT, Int.reduceNeg, Int.reduceToNat]
  refine call_at M_P M_G head25_spec ?_
  simp only [go_sem, ↓reduceIte, reduceCtorEq, Nat.reduceEqDiff, Nat.reduceLT, Nat.reduceLeDiff, Nat.reduceAdd, Nat.reduceSub, Nat.reduceMul, Nat.reduceGT, Int.reduceNeg, Int.reduceToNat]
  refine awp_seq (wpA_sound _ _ _ _ ?_)
  simp only [go_sem, ↓reduceIte, reduceCtorEq, Nat.reduceEqDiff, Nat.reduceLT, Nat.reduceLeDiff, Nat.reduceAdd, Nat.reduceSub, Nat.reduceMul, Nat.reduceGT, Int.reduceNeg, Int.reduceToNat]
  refine call_at M_P M_G (small25_spec c l hf hl) ?_
  simp only [go_sem, ↓reduceIte, reduceCtorEq, Nat.reduceEqDiff, Nat.reduceLT, Nat.reduceLeDiff, Nat.reduceAdd, Nat.reduceSub, Nat.reduceMul, Nat.reduceGT, Int.reduceNeg, Int.reduceToNat]
  repeat' (first | (with_reducible refine And.intro ?_ ?_) | ((with_reducible refine ite_cases ?_ ?_) <;> intro _))
  · trivial
  rotate_left
  · trivial
  have hl12 : l.length ≤ 12 := fewL_len (n := 12) (by simp_all)
  have hl0 : 0 < l.length := by
    rcases Nat.eq_zero_or_pos l.length with h | h
    · exfalso; simp_all [Es.len]
    · exact h
  refine awp_seq (wpA_sound _ _ _ _ ?_)
  simp only [go_sem, ↓reduceIte, reduceCtorEq, Nat.reduceEqDiff, Nat.reduceLT, Nat.reduceLeDiff, Nat.reduceAdd, Nat.reduceSub, Nat.reduceMul, Nat.reduceGT, Int.reduceNeg, Int.reduceToNat]
  refine awp_seq (wpA_sound _ _ _ _ ?_)
  simp only [go_sem, ↓reduceIte, reduceCtorEq, Nat.reduceEqDiff, Nat.reduceLT, Nat.reduceLeDiff, Nat.reduceAdd, Nat.reduceSub, Nat.reduceMul, Nat.reduceGT, Int.reduceNeg, Int.reduceToNat]
  have hw0 : IntKind.i64.wrap (Es.len l - 1) = (l.length : Int) - 1 - (0 : Nat) := by simp only [Es.len]; rw [wrap_i64 _ (by omega) (by omega)]; omega
  refine awp_count0 l.length (fun e0 s0 k e st => (e 1 = e0 1 ∧ e 2 = e0 2 ∧ e 3 = e0 3 ∧ e 4 = e0 4 ∧ e 5 = e0 5 ∧ e 11 = e0 11) ∧ e 13 = .v (.int .i64 ((l.length : Int) - 1 - k)) ∧ 1 ≤ st.nx ∧ st.o 0 0 = some (.blk 7 1 27 (rowOf (conCells c))) ∧
    OutL amdC 22 64 1 st (e 12) (Es.turned l turn.toNat k) ∧ ∀ i j : Nat, i < l.length → l.length ≤ i + k → j < i → ¬ ((Es.at_ l (j : Int)).day = (Es.at_ l (i : Int)).day ∧ (Es.at_ l (j : Int)).number = (Es.at_ l (i : Int)).number)) ⟨⟨rfl, rfl, rfl, rfl, rfl, rfl⟩, ?_, Nat.le_refl _, ?_, .inl ⟨rfl, rfl⟩, fun i j h1 h2 h3 => by omega⟩ ?_
  · simp only [go_sem, ↓reduceIte, reduceCtorEq, Nat.reduceEqDiff, Nat.reduceLT, Nat.reduceLeDiff, Nat.reduceAdd, Nat.reduceSub, Nat.reduceMul, Nat.reduceGT, Int.reduceNeg, Int.reduceToNat, hw0]
  · simp only [go_sem, ↓reduceIte, reduceCtorEq, Nat.reduceEqDiff, Nat.reduceLT, Nat.reduceLeDiff, Nat.reduceAdd, Nat.reduceSub, Nat.reduceMul, Nat.reduceGT, Int.reduceNeg, Int.reduceToNat, conCells_eq]
  rintro k e ⟨o2, n2⟩ hk ⟨⟨a1, a2, a3, a4, a5, a11⟩, a13, hn, i0, hO, hdis⟩
  simp only [go_sem, ↓reduceIte, reduceCtorEq, Nat.reduceEqDiff, Nat.reduceLT, Nat.reduceLeDiff, Nat.reduceAdd, Nat.reduceSub, Nat.reduceMul, Nat.reduceGT, Int.reduceNeg, Int.reduceToNat] at a1 a2 a3 a4 a5 a11
  simp only at hn i0
  simp only [conCells_eq] at i0
  have e0 : ∀ {a b : Nat}, a ≠ b → (a = b) = False := fun h => by simp [h]
  have w1 : (0 = n2) = False := e0 (by omega); have w2 : (0 = n2 + 1) = False := e0 (by omega); have w3 : (0 = n2 + 1 + 1) = False := e0 (by omega); have w4 : (n2 = 0) = False := e0 (by omega); have w5 : (n2 = n2 + 1) = False := e0 (by omega); have w6 : (n2 = n2 + 1 + 1) = False := e0 (by omega); have w7 : (n2 + 1 = 0) = False := e0 (by omega); have w8 : (n2 + 1 = n2) = False := e0 (by omega); have w9 : (n2 + 1 = n2 + 1 + 1) = False := e0 (by omega); have w10 : (n2 + 1 + 1 = 0) = False := e0 (by omega); have w11 : (n2 + 1 + 1 = n2) = False := e0 (by omega); have w12 : (n2 + 1 + 1 = n2 + 1) = False := e0 (by omega)
  have hwt : IntKind.i64.wrap turn = turn := wrap_i64 _ (by omega) (by omega)
  have hwa : IntKind.i64.wrap ((l.length : Int) - 1 - k + turn) = (l.length : Int) - 1 - k + turn := wrap_i64 _ (by omega) (by omega)
  have hws : IntKind.i64.wrap ((l.length : Int) - 1 - k - 1) = (l.length : Int) - 1 - (k + 1 : Nat) := by rw [wrap_i64 _ (by omega) (by omega)]; omega
  simp only [go_sem, ↓reduceIte, reduceCtorEq, Nat.reduceEqDiff, Nat.reduceLT, Nat.reduceLeDiff, Nat.reduceAdd, Nat.reduceSub, Nat.reduceMul, Nat.reduceGT, Int.reduceNeg, Int.reduceToNat, a1, a2, a3, a4, a5, a11, a13, i0, hwt, hwa, hws, w1, w2, w3, w4, w5, w6, w7, w8, w9, w10, w11, w12]
  refine ite_cases (fun hlt => ?_) (fun hlt => ?_)
  · have hk' : k < l.length := by omega
    have htm : ((l.length : Int) - 1 - k + turn).tmod (Es.len l) = (((l.length - 1 - k + turn.toNat) % l.length : Nat) : Int) := by
      rw [show (l.length : Int) - 1 - k + turn = ((l.length - 1 - k + turn.toNat : Nat) : Int) by omega]; rfl
    have hml : (l.length - 1 - k + turn.toNat) % l.length < l.length := Nat.mod_lt _ hl0
    have hnx := Es.turned_next l turn.toNat k
    have htl : (Es.turned l turn.toNat k).length = k := by simp [Es.turned]
    rw [htm]
    refine ⟨by simp only [Es.len]; omega, ⟨by omega, by simp only [Es.len]; omega⟩, ?_⟩
    generalize hm : Es.at_ l (((l.length - 1 - k + turn.toNat) % l.length : Nat) : Int) = m at hnx ⊢
    generalize hd : e 12 = dd at hO
    rcases hO with ⟨hnil, rfl⟩ | ⟨g, cl, rfl, hg1, hg2, hg3, hg4⟩
    · simp only [go_sem, ↓reduceIte, reduceCtorEq, Nat.reduceEqDiff, Nat.reduceLT, Nat.reduceLeDiff, Nat.reduceAdd, Nat.reduceSub, Nat.reduceMul, Nat.reduceGT, Int.reduceNeg, Int.reduceToNat, hd, a1, a2, a3, a4, a5, a11, a13, i0, w1, w2, w3, w4, w5, w6, w7, w8, w9, w10, w11, w12]
      refine awp_count0 (l.length - 1 - k) (fun e0 s0 j e st => (e 1 = e0 1 ∧ e 2 = e0 2 ∧ e 3 = e0 3 ∧ e 4 = e0 4 ∧ e 5 = e0 5 ∧ e 11 = e0 11 ∧ e 12 = e0 12 ∧ e 13 = e0 13) ∧ e 14 = .v (.int .i64 j) ∧ st = s0 ∧ ∀ i : Nat, i < j → ¬ ((Es.at_ l (i : Int)).day = (Es.at_ l ((l.length - 1 - k : Nat) : Int)).day ∧ (Es.at_ l (i : Int)).number = (Es.at_ l ((l.length - 1 - k : Nat) : Int)).number)) ⟨⟨rfl, rfl, rfl, rfl, rfl, rfl, rfl, rfl⟩, ?_, rfl, fun i h => by omega⟩ ?_
      · simp only [go_sem, ↓reduceIte, reduceCtorEq, Nat.reduceEqDiff, Nat.reduceLT, Nat.reduceLeDiff, Nat.reduceAdd, Nat.reduceSub, Nat.reduceMul, Nat.reduceGT, Int.reduceNeg, Int.reduceToNat]; first | done | rfl
      rintro j f s hj ⟨⟨b1, b2, b3, b4, b5, b11, b12, b13⟩, b14, rfl, hdj⟩
      simp only [go_sem, ↓reduceIte, reduceCtorEq, Nat.reduceEqDiff, Nat.reduceLT, Nat.reduceLeDiff, Nat.reduceAdd, Nat.reduceSub, Nat.reduceMul, Nat.reduceGT, Int.reduceNeg, Int.reduceToNat, a1, a2, a3, a4, a5, a11, a13] at b1 b2 b3 b4 b5 b11 b12 b13
      simp only [go_sem, ↓reduceIte, reduceCtorEq, Nat.reduceEqDiff, Nat.reduceLT, Nat.reduceLeDiff, Nat.reduceAdd, Nat.reduceSub, Nat.reduceMul, Nat.reduceGT, Int.reduceNeg, Int.reduceToNat, b1, b2, b3, b4, b5, b11, b12, b13, b14]
      have hik : (l.length : Int) - 1 - k = ((l.length - 1 - k : Nat) : Int) := by omega
      refine ite_cases (fun hlt2 => ?_) (fun hlt2 => ?_)
      · refine awp_plan ((.op 0 (.op 1 (.op 2 (.op 3 (.op 4 (.op 5 (.op 6 (.op 7 (.op 8 (.op 9 (.op 10 (.op 11 (.op 12 (.op 13 (.op 14 (.op 15 (.op 16 (.op 17 (.op 18 (.op 19 (.op 20 (.op 21 (.op 22 (.op 23 .done))))))))))))))))))))))))) [] mix (by kernel_rfl) ?_
        simp only [go_sem, ↓reduceIte, reduceCtorEq, Nat.reduceEqDiff, Nat.reduceLT, Nat.reduceLeDiff, Nat.reduceAdd, Nat.reduceSub, Nat.reduceMul, Nat.reduceGT, Int.reduceNeg, Int.reduceToNat, b1, b2, b3, b4, b5, b11, b12, b13, b14]
        simp only [hik]
        repeat' (first | (with_reducible refine And.intro ?_ ?_) | ((with_reducible refine ite_cases ?_ ?_) <;> intro _))
        all_goals first
          | trivial
          | (simp only [Es.len]; omega)
          | omega
          | skip
        all_goals refine ⟨by omega, ?_⟩
        all_goals simp only [go_sem, ↓reduceIte, reduceCtorEq, Nat.reduceEqDiff, Nat.reduceLT, Nat.reduceLeDiff, Nat.reduceAdd, Nat.reduceSub, Nat.reduceMul, Nat.reduceGT, Int.reduceNeg, Int.reduceToNat, b1, b2, b3, b4, b5, b11, b12, b13, b14, hik]
        all_goals refine ⟨⟨a1.symm, a2.symm, a3.symm, a4.symm, a5.symm, a11.symm, by rw [a13, hik]⟩, by rw [wrap_i64 _ (by omega) (by omega)]; simp, fun i hi => ?_⟩
        all_goals
          rcases Nat.lt_or_ge i j with h | h
          · exact hdj i h
          · obtain rfl : i = j := by omega
            simp_all
      · obtain rfl : j = l.length - 1 - k := by omega
        refine ⟨hk', ?_⟩
        simp only [go_sem, ↓reduceIte, reduceCtorEq, Nat.reduceEqDiff, Nat.reduceLT, Nat.reduceLeDiff, Nat.reduceAdd, Nat.reduceSub, Nat.reduceMul, Nat.reduceGT, Int.reduceNeg, Int.reduceToNat, b1, b2, b3, b4, b5, b11, b12, b13, b14, hws, i0, w1, w2, w3, w4, w5, w6, w7, w8, w9, w10, w11, w12]
        refine ⟨?_, fun i i2 h1 h2 h3 => ?_⟩
        · rw [hnx]
          (rw [hnil]; exact OutL.one' (by omega) (fun j hj => amd_row _ j hj))
        · rcases Nat.lt_or_ge (i + k) l.length with h | h
          · obtain rfl : i = l.length - 1 - k := by omega
            exact hdj i2 h3
          · exact hdis i i2 h1 h h3
    · simp only at hg2 hg3
      have v1 : (0 = g) = False := e0 (by omega); have v2 : (0 = n2) = False := e0 (by omega); have v3 : (0 = n2 + 1) = False := e0 (by omega); have v4 : (0 = n2 + 1 + 1) = False := e0 (by omega); have v5 : (g = 0) = False := e0 (by omega); have v6 : (g = n2) = False := e0 (by omega); have v7 : (g = n2 + 1) = False := e0 (by omega); have v8 : (g = n2 + 1 + 1) = False := e0 (by omega); have v9 : (n2 = 0) = False := e0 (by omega); have v10 : (n2 = g) = False := e0 (by omega); have v11 : (n2 = n2 + 1) = False := e0 (by omega); have v12 : (n2 = n2 + 1 + 1) = False := e0 (by omega); have v13 : (n2 + 1 = 0) = False := e0 (by omega); have v14 : (n2 + 1 = g) = False := e0 (by omega); have v15 : (n2 + 1 = n2) = False := e0 (by omega); have v16 : (n2 + 1 = n2 + 1 + 1) = False := e0 (by omega); have v17 : (n2 + 1 + 1 = 0) = False := e0 (by omega); have v18 : (n2 + 1 + 1 = g) = False := e0 (by omega); have v19 : (n2 + 1 + 1 = n2) = False := e0 (by omega); have v20 : (n2 + 1 + 1 = n2 + 1) = False := e0 (by omega)
      simp only [go_sem, ↓reduceIte, reduceCtorEq, Nat.reduceEqDiff, Nat.reduceLT, Nat.reduceLeDiff, Nat.reduceAdd, Nat.reduceSub, Nat.reduceMul, Nat.reduceGT, Int.reduceNeg, Int.reduceToNat, hd, a1, a2, a3, a4, a5, a11, a13, i0, hg3, v1, v2, v3, v4, v5, v6, v7, v8, v9, v10, v11, v12, v13, v14, v15, v16, v17, v18, v19, v20]
      refine ⟨⟨by omega, by omega⟩, ?_⟩
      refine awp_count0 (l.length - 1 - k) (fun e0 s0 j e st => (e 1 = e0 1 ∧ e 2 = e0 2 ∧ e 3 = e0 3 ∧ e 4 = e0 4 ∧ e 5 = e0 5 ∧ e 11 = e0 11 ∧ e 12 = e0 12 ∧ e 13 = e0 13) ∧ e 14 = .v (.int .i64 j) ∧ st = s0 ∧ ∀ i : Nat, i < j → ¬ ((Es.at_ l (i : Int)).day = (Es.at_ l ((l.length - 1 - k : Nat) : Int)).day ∧ (Es.at_ l (i : Int)).number = (Es.at_ l ((l.length - 1 - k : Nat) : Int)).number)) ⟨⟨rfl, rfl, rfl, rfl, rfl, rfl, rfl, rfl⟩, ?_, rfl, fun i h => by omega⟩ ?_
      · simp only [go_sem, ↓reduceIte, reduceCtorEq, Nat.reduceEqDiff, Nat.reduceLT, Nat.reduceLeDiff, Nat.reduceAdd, Nat.reduceSub, Nat.reduceMul, Nat.reduceGT, Int.reduceNeg, Int.reduceToNat]; first | done | rfl
      rintro j f s hj ⟨⟨b1, b2, b3, b4, b5, b11, b12, b13⟩, b14, rfl, hdj⟩
      simp only [go_sem, ↓reduceIte, reduceCtorEq, Nat.reduceEqDiff, Nat.reduceLT, Nat.reduceLeDiff, Nat.reduceAdd, Nat.reduceSub, Nat.reduceMul, Nat.reduceGT, Int.reduceNeg, Int.reduceToNat, a1, a2, a3, a4, a5, a11, a13] at b1 b2 b3 b4 b5 b11 b12 b13
      simp only [go_sem, ↓reduceIte, reduceCtorEq, Nat.reduceEqDiff, Nat.reduceLT, Nat.reduceLeDiff, Nat.reduceAdd, Nat.reduceSub, Nat.reduceMul, Nat.reduceGT, Int.reduceNeg, Int.reduceToNat, b1, b2, b3, b4, b5, b11, b12, b13, b14]
      have hik : (l.length : Int) - 1 - k = ((l.length - 1 - k : Nat) : Int) := by omega
      refine ite_cases (fun hlt2 => ?_) (fun hlt2 => ?_)
      · refine awp_plan ((.op 0 (.op 1 (.op 2 (.op 3 (.op 4 (.op 5 (.op 6 (.op 7 (.op 8 (.op 9 (.op 10 (.op 11 (.op 12 (.op 13 (.op 14 (.op 15 (.op 16 (.op 17 (.op 18 (.op 19 (.op 20 (.op 21 (.op 22 (.op 23 .done))))))))))))))))))))))))) [] mix (by kernel_rfl) ?_
        simp only [go_sem, ↓reduceIte, reduceCtorEq, Nat.reduceEqDiff, Nat.reduceLT, Nat.reduceLeDiff, Nat.reduceAdd, Nat.reduceSub, Nat.reduceMul, Nat.reduceGT, Int.reduceNeg, Int.reduceToNat, b1, b2, b3, b4, b5, b11, b12, b13, b14]
        simp only [hik]
        repeat' (first | (with_reducible refine And.intro ?_ ?_) | ((with_reducible refine ite_cases ?_ ?_) <;> intro _))
        all_goals first
          | trivial
          | (simp only [Es.len]; omega)
          | omega
          | skip
        all_goals refine ⟨by omega, ?_⟩
        all_goals simp only [go_sem, ↓reduceIte, reduceCtorEq, Nat.reduceEqDiff, Nat.reduceLT, Nat.reduceLeDiff, Nat.reduceAdd, Nat.reduceSub, Nat.reduceMul, Nat.reduceGT, Int.reduceNeg, Int.reduceToNat, b1, b2, b3, b4, b5, b11, b12, b13, b14, hik]
        all_goals refine ⟨⟨a1.symm, a2.symm, a3.symm, a4.symm, a5.symm, a11.symm, by rw [a13, hik]⟩, by rw [wrap_i64 _ (by omega) (by omega)]; simp, fun i hi => ?_⟩
        all_goals
          rcases Nat.lt_or_ge i j with h | h
          · exact hdj i h
          · obtain rfl : i = j := by omega
            simp_all
      · obtain rfl : j = l.length - 1 - k := by omega
        refine ⟨hk', ?_⟩
        simp only [go_sem, ↓reduceIte, reduceCtorEq, Nat.reduceEqDiff, Nat.reduceLT, Nat.reduceLeDiff, Nat.reduceAdd, Nat.reduceSub, Nat.reduceMul, Nat.reduceGT, Int.reduceNeg, Int.reduceToNat, b1, b2, b3, b4, b5, b11, b12, b13, b14, hws, i0, v1, v2, v3, v4, v5, v6, v7, v8, v9, v10, v11, v12, v13, v14, v15, v16, v17, v18, v19, v20]
        refine ⟨?_, fun i i2 h1 h2 h3 => ?_⟩
        · rw [hnx]
          (exact OutL.more' (by omega) hg4 (fun j hj => amd_row _ j hj))
        · rcases Nat.lt_or_ge (i + k) l.length with h | h
          · obtain rfl : i = l.length - 1 - k := by omega
            exact hdj i2 h3
          · exact hdis i i2 h1 h h3
  · obtain rfl : k = l.length := by omega
    refine awp_out (t := 12) hO fun o3 ho3 => ?_
    have j0 : o3 0 0 = o2 0 0 := ho3 0 0 (by omega)
    rw [i0] at j0
    refine wpA_sound _ _ _ _ ?_
    simp only [go_sem, ↓reduceIte, reduceCtorEq, Nat.reduceEqDiff, Nat.reduceLT, Nat.reduceLeDiff, Nat.reduceAdd, Nat.reduceSub, Nat.reduceMul, Nat.reduceGT, Int.reduceNeg, Int.reduceToNat, a1, a2, a3, a4, a5, a11, a13, j0, w1, w2, w3, w4, w5, w6, w7, w8, w9, w10, w11, w12]
    have hperm := Es.turned_perm turn.toNat hl0
    have htl : (Es.turned l turn.toNat l.length).length ≤ 12 := by rw [← hperm.length_eq]; exact hl12
    have hlaw := Es.law_sequence hperm (fun a a' ha ha' h1 h2 => by
      obtain ⟨i, hi, rfl⟩ := List.getElem_of_mem ha
      obtain ⟨j, hj, rfl⟩ := List.getElem_of_mem ha'
      rcases Nat.lt_trichotomy i j with h | h | h
      · exfalso
        have := hdis j i hj (by omega) h
        rw [Es.at_nat hi, Es.at_nat hj] at this
        exact this ⟨h1, h2⟩
      · subst h; rfl
      · exfalso
        have := hdis i j hi (by omega) h
        rw [Es.at_nat hi, Es.at_nat hj] at this
        exact this ⟨h1.symm, h2.symm⟩) c day known
    have hI := inForce_fits c l day known
    have hDl : (Es.daysA c l known).1.length ≤ 12 := Nat.le_trans (daysA_len c l known) hl12
    refine call_at M_P M_G (inForce_spec c l day known hf hl12) ?_
    simp only [go_sem, ↓reduceIte, reduceCtorEq, Nat.reduceEqDiff, Nat.reduceLT, Nat.reduceLeDiff, Nat.reduceAdd, Nat.reduceSub, Nat.reduceMul, Nat.reduceGT, Int.reduceNeg, Int.reduceToNat, a1, a2, a3, a4, a5, a11, a13, j0, w1, w2, w3, w4, w5, w6, w7, w8, w9, w10, w11, w12]
    refine call_at M_P M_G (inForce_spec c _ day known hf htl) ?_
    simp only [go_sem, ↓reduceIte, reduceCtorEq, Nat.reduceEqDiff, Nat.reduceLT, Nat.reduceLeDiff, Nat.reduceAdd, Nat.reduceSub, Nat.reduceMul, Nat.reduceGT, Int.reduceNeg, Int.reduceToNat, a1, a2, a3, a4, a5, a11, a13, j0, ← hlaw.1, w1, w2, w3, w4, w5, w6, w7, w8, w9, w10, w11, w12]
    refine call_at M_P M_G (days_spec c l known hf hl12) ?_
    simp only [go_sem, ↓reduceIte, reduceCtorEq, Nat.reduceEqDiff, Nat.reduceLT, Nat.reduceLeDiff, Nat.reduceAdd, Nat.reduceSub, Nat.reduceMul, Nat.reduceGT, Int.reduceNeg, Int.reduceToNat, a1, a2, a3, a4, a5, a11, a13, j0, w1, w2, w3, w4, w5, w6, w7, w8, w9, w10, w11, w12]
    refine call_at M_P M_G (days_spec c _ known hf htl) ?_
    simp only [go_sem, ↓reduceIte, reduceCtorEq, Nat.reduceEqDiff, Nat.reduceLT, Nat.reduceLeDiff, Nat.reduceAdd, Nat.reduceSub, Nat.reduceMul, Nat.reduceGT, Int.reduceNeg, Int.reduceToNat, a1, a2, a3, a4, a5, a11, a13, j0, ← hlaw.2, w1, w2, w3, w4, w5, w6, w7, w8, w9, w10, w11, w12]
    repeat' (first | ((with_reducible refine call_at M_P M_G (same13_spec (Es.inForce c l day known).1 (Es.inForce c l day known).1 hI.1 hI.2.1) ?_); simp only [go_sem, ↓reduceIte, reduceCtorEq, Nat.reduceEqDiff, Nat.reduceLT, Nat.reduceLeDiff, Nat.reduceAdd, Nat.reduceSub, Nat.reduceMul, Nat.reduceGT, Int.reduceNeg, Int.reduceToNat]) | ((with_reducible refine call_at M_P M_G (ints13_spec (Es.inForce c l day known).2.1 (Es.inForce c l day known).2.1 (by omega)) ?_); simp only [go_sem, ↓reduceIte, reduceCtorEq, Nat.reduceEqDiff, Nat.reduceLT, Nat.reduceLeDiff, Nat.reduceAdd, Nat.reduceSub, Nat.reduceMul, Nat.reduceGT, Int.reduceNeg, Int.reduceToNat]) | ((with_reducible refine call_at M_P M_G (ints13_spec (Es.daysA c l known).1 (Es.daysA c l known).1 (by omega)) ?_); simp only [go_sem, ↓reduceIte, reduceCtorEq, Nat.reduceEqDiff, Nat.reduceLT, Nat.reduceLeDiff, Nat.reduceAdd, Nat.reduceSub, Nat.reduceMul, Nat.reduceGT, Int.reduceNeg, Int.reduceToNat]) | (with_reducible refine And.intro ?_ ?_) | ((with_reducible refine ite_cases ?_ ?_) <;> intro _))
    all_goals first
      | (simp; done)
      | (exfalso; simp_all [Es.sameC_refl]; done)
      | trace_state
end Tryd
end Go.Proofs
end
section
/-
  For every input VersionSequence returns true, and the arguments read as they did. No condition.
-/
namespace Go.Proofs.YtmdnombjckcfoaaDoor
open Go Go.Abs Go.ChangeShapes Go.WideShapes Go.ChangeAt Go.RowKit
set_option linter.unusedVariables false
namespace lawVersionSequence
set_option maxRecDepth 100000 in
theorem lifted (os : Os) (started : os.Started) (H : Type) (enc : TypeId × Value → H) :
    ReturnsInHanded {} Tryd.checked os 9 .any (fun w args => (Rows.versionSequenceSpec.pre enc Tryd.prog Tryd.f9 [] false w args ∧ laidMetH Tryd.prog Tryd.laidL w) ∧ sizedMet enc Tryd.prog Tryd.f9 (OpenSpec.ofChange Rows.versionSequenceSpec) false w args)
      (Rows.versionSequenceSpec.post enc Tryd.prog Tryd.f9 false true false false) := by
  refine returnsInHanded_of_change_and (C := Tryd.checked) (X := fun w _ => laidMetH Tryd.prog Tryd.laidL w) (fun _ _ _ hh h => h.of_heap hh) Tryd.own started (by kernel_rfl) Tryd.func9
    (ChangeSpec.witness_shaped (enc := enc) (C := Tryd.checked) (os := os) (X := fun w _ => laidMetH Tryd.prog Tryd.laidL w) false (World.doorLaid Tryd.prog 400 os) #[.agg #[.int .i64 0, .slice none 0 0, .slice none 0 0, .slice none 0 0, .slice none 0 0, .int .i64 0, .slice none 0 0], .slice none 0 0, .int .i64 0, .int .i64 0, .int .u8 0] 8 rfl (World.shaped_of_RefB (by kernel_rfl) (by kernel_rfl)) (by kernel_rfl) (by kernel_rfl) (by kernel_rfl) (Tryd.door_met os _)) ?_
  intro W base args ds gs before hval0 hW _ _ hL _
  have hval : ∀ (j : Nat) t v, Tryd.f9.params[j]? = some t → args[j]? = some v → Value.okWide Tryd.prog W .any base t v := hval0
  have hW' := hW
  obtain ⟨p, q, hA0, hV, rfl, hfz, hnd⟩ := hW
  have hA : DataW.TrodAll enc Tryd.prog W 0 (fun _ => true) true Tryd.f9.params.toList args.toList ds p := hA0
  rw [Tryd.params9] at hA hval
  have hstay := hA
  obtain ⟨rfl, rfl⟩ := trodVars_none hV
  simp only [List.append_nil] at hW'
  obtain ⟨v0, vs0, d0, ds0, p0, q0, e0, rfl, rfl, h0, t0⟩ := trodAll_cons hA
  obtain ⟨v1, vs1, d1, ds1, p1, q1, e1, rfl, rfl, h1, t1⟩ := trodAll_cons t0
  obtain ⟨v2, vs2, d2, ds2, p2, q2, e2, rfl, rfl, h2, t2⟩ := trodAll_cons t1
  obtain ⟨v3, vs3, d3, ds3, p3, q3, e3, rfl, rfl, h3, t3⟩ := trodAll_cons t2
  obtain ⟨v4, vs4, d4, ds4, p4, q4, e4, rfl, rfl, h4, t4⟩ := trodAll_cons t3
  obtain ⟨z1, rfl, rfl⟩ := trodAll_nil t4
  subst z1
  subst e4
  subst e3
  subst e2
  subst e1
  obtain rfl : args = #[v0, v1, v2, v3, v4] := by apply Array.ext'; simpa using e0
  obtain ⟨x0, g0, r0⟩ := Tryd.arg_contract (hval 0 27 v0 rfl rfl) h0
  obtain ⟨x1, g1, r1⟩ := Tryd.arg_amends (hval 1 56 v1 rfl rfl) h1
  obtain ⟨x2, g2, r2⟩ := Tryd.arg_int (hval 2 3 v2 rfl rfl) h2
  obtain ⟨x3, g3, r3⟩ := Tryd.arg_int (hval 3 3 v3 rfl rfl) h3
  obtain ⟨x4, g4, r4⟩ := Tryd.arg_u8 (hval 4 5 v4 rfl rfl) h4
  refine (calls_of_apure (vals := [v0, v1, v2, v3, v4]) (Tryd.vsequence_spec x0 x1 x2 x3 x4 g0 g1 g4) rfl (fun i d hi => ?_) (Tryd.glob_ok hL)).mono ?_
  · rcases i with _ | _ | _ | _ | _ | i <;> first | (simp at hi; subst hi; assumption) | (simp at hi)
  · rintro e W' ⟨c', v, rfl, rfl, hb, hr⟩
    cases hr
    have hlt := hW'.lt
    refine ⟨_, rfl, ⟨_, _, _, [], _, [], hW', trodAll_mk1 (shut_bool Tryd.underlying4 _), args_stay Tryd.rowLaidOut hb ?_ hA0 ?_ ?_, rfl, hb.frame _, fun h => by cases h⟩⟩
    · rw [Tryd.params9]; intro t ht
      have hall : ([27, 56, 3, 3, 5].all fun t => Tryd.prog.readableRec t && decide (t < Tryd.prog.types.size)) = true := by kernel_rfl
      have := List.all_eq_true.1 hall t (by simpa using ht)
      simpa using this
    · intro x hx; exact by simpa using hlt x (by simpa using hx)
    · intro x hx; simpa using hlt x (by simpa using hx)
theorem row_holds : Rows.VersionSequenceSaid :=
  OpenClaim.holds_of_wide 9 Tryd.f9 rfl rfl rfl rfl rfl rfl rfl ⟨rfl, rfl, rfl, rfl, rfl⟩ rfl rfl rfl rfl rfl (by kernel_rfl) Tryd.func9 (by kernel_rfl)
    (of_decide_eq_true (by kernel_rfl)) (by unfold Func.isWrapper; first | (rw [if_pos (by decide +kernel)]; kernel_rfl) | (rw [if_neg (by decide +kernel)]; exact ⟨rfl, rfl⟩))
    (fun os started H enc _ => lifted os started H enc)
theorem card_holds : Rows.VersionSequenceCardSaid :=
  Claim7.holds_tied_plain_at .later [] [.data, .data] true Rows.versionSequenceCard.stood.harness false
    row_holds (fun _ h => by cases h) (by kernel_rfl) (fun _ h => by cases h) versionSequence_row_tie rfl ⟨rfl, rfl⟩ (by kernel_rfl) rfl
    (fun f fn hf hfn => by
      obtain rfl : f = 9 := Option.some.inj ((show Tryd.prog.funcNamed Rows.versionSequenceRow.func = some 9 by kernel_rfl).symm.trans hf) |>.symm
      obtain rfl : fn = Tryd.f9 := (Option.some.inj (Tryd.func9.symm.trans hfn)).symm
      exact ⟨by kernel_rfl, fun j t ht => by
        rw [Tryd.params9] at ht
        have hm : t ∈ [27, 56, 3, 3, 5] := by simpa using Array.mem_of_getElem? ht
        have hall : ([27, 56, 3, 3, 5].all fun u => !Tryd.prog.wantsStandIn u) = true := by kernel_rfl
        exact (show Tryd.prog.wantsStandIn t = false by simpa using List.all_eq_true.1 hall t hm)⟩)
    (by kernel_rfl)
end lawVersionSequence
#print axioms lawVersionSequence.card_holds
end Go.Proofs.YtmdnombjckcfoaaDoor
end
