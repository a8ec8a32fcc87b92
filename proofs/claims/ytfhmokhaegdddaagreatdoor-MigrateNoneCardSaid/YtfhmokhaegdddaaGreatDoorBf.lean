/-
  Parts of an abstract machine over the model, of the program's data and of what its functions compute: the texts F3, merged.
-/
import Derived.Test.YtfhmokhaegdddaaGreatDoorBe
set_option linter.unusedSimpArgs false
set_option linter.unusedVariables false
section
namespace Go.Proofs
open Go Go.Abs
set_option linter.unusedSimpArgs false
set_option maxRecDepth 10000
namespace Tryz
set_option maxHeartbeats 4000000 in
theorem clause_spec (c : Es.Contract) (i : Int) (hi : 0 ≤ i ∧ i < Es.len c.clauses) : APure M 69 [conD c, .v (.int .i64 i)] (.v (.bool (Es.clauseOk c i))) := by
  refine pure_of gpu func69 rfl results69 ntmps69 (by simp) ⟨pu_conD _, .v _, trivial⟩ ?_
  intro b
  simp only [go_sem, ↓reduceIte, reduceCtorEq, Nat.reduceEqDiff, Nat.reduceLT, Nat.reduceLeDiff, Nat.reduceAdd, Nat.reduceSub, Nat.reduceMul, Nat.reduceGT, Int.reduceNeg, Int.reduceToNat]
  refine ⟨hi, ?_⟩
  repeat' (first | ((with_reducible refine call_at M_P M_G (under_spec _ _) ?_); simp only [go_sem, ↓reduceIte, reduceCtorEq, Nat.reduceEqDiff, Nat.reduceLT, Nat.reduceLeDiff, Nat.reduceAdd, Nat.reduceSub, Nat.reduceMul, Nat.reduceGT, Int.reduceNeg, Int.reduceToNat]) | ((with_reducible refine call_at M_P M_G (within_spec _ _ _) ?_); simp only [go_sem, ↓reduceIte, reduceCtorEq, Nat.reduceEqDiff, Nat.reduceLT, Nat.reduceLeDiff, Nat.reduceAdd, Nat.reduceSub, Nat.reduceMul, Nat.reduceGT, Int.reduceNeg, Int.reduceToNat]) | ((with_reducible refine call_at M_P M_G (natural_spec _ _) ?_); simp only [go_sem, ↓reduceIte, reduceCtorEq, Nat.reduceEqDiff, Nat.reduceLT, Nat.reduceLeDiff, Nat.reduceAdd, Nat.reduceSub, Nat.reduceMul, Nat.reduceGT, Int.reduceNeg, Int.reduceToNat]) | ((with_reducible refine call_at M_P M_G (positive_spec _) ?_); simp only [go_sem, ↓reduceIte, reduceCtorEq, Nat.reduceEqDiff, Nat.reduceLT, Nat.reduceLeDiff, Nat.reduceAdd, Nat.reduceSub, Nat.reduceMul, Nat.reduceGT, Int.reduceNeg, Int.reduceToNat]) | (with_reducible refine And.intro ?_ ?_) | ((with_reducible refine ite_cases ?_ ?_) <;> intro _))
  all_goals first
    | (refine awp_count0 (Es.at_ c.clauses i).start.length (fun e0 s0 k e s => (e 1 = e0 1 ∧ e 2 = e0 2 ∧ e 5 = e0 5 ∧ e 91 = e0 91 ∧ e 92 = e0 92 ∧ e 9 = e0 9) ∧ e 93 = .v (.int .i64 k) ∧ Grow s0 s ∧ ∀ d ∈ (Es.at_ c.clauses i).start.take k, Es.condOk c i d = true) ⟨⟨rfl, rfl, rfl, rfl, rfl, rfl⟩, ?_, Grow.refl _, (by simp)⟩ ?_
       · simp only [go_sem, ↓reduceIte, reduceCtorEq, Nat.reduceEqDiff, Nat.reduceLT, Nat.reduceLeDiff, Nat.reduceAdd, Nat.reduceSub, Nat.reduceMul, Nat.reduceGT, Int.reduceNeg, Int.reduceToNat]; rfl
       rintro k e ⟨o, nx⟩ hk ⟨⟨h1, h2, h5, h91, h92, h9⟩, h93, hg, hall⟩
       simp only [go_sem, ↓reduceIte, reduceCtorEq, Nat.reduceEqDiff, Nat.reduceLT, Nat.reduceLeDiff, Nat.reduceAdd, Nat.reduceSub, Nat.reduceMul, Nat.reduceGT, Int.reduceNeg, Int.reduceToNat] at h1 h2 h5 h91 h92 h9
       have g0 := hg.2 0 0 (by show (0:Nat) < 2; decide); have g1 := hg.2 1 0 (by show (1:Nat) < 2; decide); have hn : 2 ≤ nx := hg.1; have n0 : (0 = nx) = False := (by simp only [eq_iff_iff, iff_false]; omega); have n1 : (1 = nx) = False := (by simp only [eq_iff_iff, iff_false]; omega); simp only [go_sem, ↓reduceIte, reduceCtorEq, Nat.reduceEqDiff, Nat.reduceLT, Nat.reduceLeDiff, Nat.reduceAdd, Nat.reduceSub, Nat.reduceMul, Nat.reduceGT, Int.reduceNeg, Int.reduceToNat] at g0 g1
       simp only [go_sem, ↓reduceIte, reduceCtorEq, Nat.reduceEqDiff, Nat.reduceLT, Nat.reduceLeDiff, Nat.reduceAdd, Nat.reduceSub, Nat.reduceMul, Nat.reduceGT, Int.reduceNeg, Int.reduceToNat, h1, h2, h5, h91, h92, h9, h93, g0, g1, n0, n1]
       refine ite_cases (fun hlt => ?_) (fun hlt => ?_)
       · have hlt' : k < (Es.at_ c.clauses i).start.length := Es.len_lt.1 hlt
         have htk : (Es.at_ c.clauses i).start.take (k + 1) = (Es.at_ c.clauses i).start.take k ++ [Es.at_ (Es.at_ c.clauses i).start k] := by
           rw [List.take_succ_eq_append_getElem hlt', Es.at_nat hlt']
         have hmem : Es.at_ (Es.at_ c.clauses i).start k ∈ (Es.at_ c.clauses i).start := by rw [Es.at_nat hlt']; exact List.getElem_mem _
         refine ⟨⟨by omega, hlt⟩, ?_⟩
         repeat' (first | ((with_reducible refine call_at M_P M_G (under_spec _ _) ?_); simp only [go_sem, ↓reduceIte, reduceCtorEq, Nat.reduceEqDiff, Nat.reduceLT, Nat.reduceLeDiff, Nat.reduceAdd, Nat.reduceSub, Nat.reduceMul, Nat.reduceGT, Int.reduceNeg, Int.reduceToNat, h1, h2, h5, h91, h92, h9, h93, g0, g1, n0, n1]) | ((with_reducible refine call_at M_P M_G (within_spec _ _ _) ?_); simp only [go_sem, ↓reduceIte, reduceCtorEq, Nat.reduceEqDiff, Nat.reduceLT, Nat.reduceLeDiff, Nat.reduceAdd, Nat.reduceSub, Nat.reduceMul, Nat.reduceGT, Int.reduceNeg, Int.reduceToNat, h1, h2, h5, h91, h92, h9, h93, g0, g1, n0, n1]) | (with_reducible refine And.intro ?_ ?_) | ((with_reducible refine ite_cases ?_ ?_) <;> intro _))
         all_goals first
           | (refine ⟨hlt', ?_⟩
              simp only [go_sem, ↓reduceIte, reduceCtorEq, Nat.reduceEqDiff, Nat.reduceLT, Nat.reduceLeDiff, Nat.reduceAdd, Nat.reduceSub, Nat.reduceMul, Nat.reduceGT, Int.reduceNeg, Int.reduceToNat, h1, h2, h5, h91, h92, h9, h93, g0, g1, n0, n1]
              refine ⟨by rw [wrap_i64 _ (by omega) (by omega)]; simp, hg.set hn (by omega), ?_⟩
              rw [htk]
              intro d hd
              rcases List.mem_append.1 hd with hd | hd
              · exact hall d hd
              · simp only [List.mem_singleton] at hd
                subst hd
                first | (simp [Es.condOk, *]; done) | (simp [Es.condOk, *]; omega) | (simp_all [Es.condOk]; done) | (simp_all [Es.condOk]; omega))
           | (have hbad : (Es.at_ c.clauses i).start.all (Es.condOk c i) = false := by
                rw [List.all_eq_false]; exact ⟨_, hmem, by first | (simp [Es.condOk, *]; done) | (simp [Es.condOk, *]; omega) | (simp_all [Es.condOk]; done) | (simp_all [Es.condOk]; omega)⟩
              first | (simp [Es.clauseOk, Es.clauseB, *]; done) | (simp [Es.clauseOk, Es.clauseB, *]; omega) | (simp_all [Es.clauseOk, Es.clauseB]; done) | (simp_all [Es.clauseOk, Es.clauseB]; omega))
       · have hA : (Es.at_ c.clauses i).start.all (Es.condOk c i) = true := by
           rw [List.all_eq_true]
           have : k = (Es.at_ c.clauses i).start.length := by simp only [Es.len] at hlt; omega
           rw [this, List.take_length] at hall
           exact hall
         repeat' (first | ((with_reducible refine call_at M_P M_G (under_spec _ _) ?_); simp only [go_sem, ↓reduceIte, reduceCtorEq, Nat.reduceEqDiff, Nat.reduceLT, Nat.reduceLeDiff, Nat.reduceAdd, Nat.reduceSub, Nat.reduceMul, Nat.reduceGT, Int.reduceNeg, Int.reduceToNat, h1, h2, h5, h91, h92, h9, h93, g0, g1, n0, n1]) | ((with_reducible refine call_at M_P M_G (within_spec _ _ _) ?_); simp only [go_sem, ↓reduceIte, reduceCtorEq, Nat.reduceEqDiff, Nat.reduceLT, Nat.reduceLeDiff, Nat.reduceAdd, Nat.reduceSub, Nat.reduceMul, Nat.reduceGT, Int.reduceNeg, Int.reduceToNat, h1, h2, h5, h91, h92, h9, h93, g0, g1, n0, n1]) | ((with_reducible refine call_at M_P M_G (natural_spec _ _) ?_); simp only [go_sem, ↓reduceIte, reduceCtorEq, Nat.reduceEqDiff, Nat.reduceLT, Nat.reduceLeDiff, Nat.reduceAdd, Nat.reduceSub, Nat.reduceMul, Nat.reduceGT, Int.reduceNeg, Int.reduceToNat, h1, h2, h5, h91, h92, h9, h93, g0, g1, n0, n1]) | ((with_reducible refine call_at M_P M_G (positive_spec _) ?_); simp only [go_sem, ↓reduceIte, reduceCtorEq, Nat.reduceEqDiff, Nat.reduceLT, Nat.reduceLeDiff, Nat.reduceAdd, Nat.reduceSub, Nat.reduceMul, Nat.reduceGT, Int.reduceNeg, Int.reduceToNat, h1, h2, h5, h91, h92, h9, h93, g0, g1, n0, n1]) | (with_reducible refine And.intro ?_ ?_) | ((with_reducible refine ite_cases ?_ ?_) <;> intro _))
         all_goals first
           | first | (simp [Es.clauseOk, Es.clauseB, Es.ratio_beq, *]; done) | (simp [Es.clauseOk, Es.clauseB, Es.ratio_beq, *]; omega) | (simp_all [Es.clauseOk, Es.clauseB, Es.ratio_beq]; done) | (simp_all [Es.clauseOk, Es.clauseB, Es.ratio_beq]; omega)
           | (simp only [Es.under, Bool.and_eq_true, decide_eq_true_eq] at *; omega))
    | first | (simp [Es.clauseOk, Es.clauseB, *]; done) | (simp [Es.clauseOk, Es.clauseB, *]; omega) | (simp_all [Es.clauseOk, Es.clauseB]; done) | (simp_all [Es.clauseOk, Es.clauseB]; omega)
end Tryz
end Go.Proofs
end
