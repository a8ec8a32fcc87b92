/-
  Parts of an abstract machine over the model, of the program's data and of what its functions compute: the texts F8w, merged.
-/
import Derived.Test.YtfhmokhaegdddaaGreatDoorBd
set_option linter.unusedSimpArgs false
set_option linter.unusedVariables false
section
namespace Go.Proofs
open Go Go.Abs
set_option linter.unusedSimpArgs false
set_option maxRecDepth 10000
namespace Tryz
set_option maxHeartbeats 2000000 in
theorem wellFormed_spec (c : Es.Contract) (x : Es.Clause) (m : Es.Mark) : APure M 31 [conD c, clsD x, mrkD m] (.v (.bool (Es.wellFormed c x m))) := by
  refine pure_of gpu func31 rfl results31 ntmps31 (by simp) ⟨pu_conD _, pu_clsD _, pu_mrkD _, trivial⟩ ?_
  intro b
  simp (config := { maxSteps := 2000000 }) only [go_sem, ↓reduceIte, reduceCtorEq, Nat.reduceEqDiff, Nat.reduceLT, Nat.reduceLeDiff, Nat.reduceAdd, Nat.reduceSub, Nat.reduceMul, Nat.reduceGT, Int.reduceNeg, Int.reduceToNat]
  repeat' (first | (with_reducible refine And.intro ?_ ?_) | ((with_reducible refine ite_cases ?_ ?_) <;> intro _))
  all_goals first
    | (refine congrArg Value.bool ?_; grind [Es.wellFormed, Es.party, Es.mark_beq])
    | first | (simp [Es.wellFormed, Es.party, Es.mark_beq, *]; done) | (simp [Es.wellFormed, Es.party, Es.mark_beq, *]; omega) | (simp_all [Es.wellFormed, Es.party, Es.mark_beq]; done) | (simp_all [Es.wellFormed, Es.party, Es.mark_beq]; omega)
end Tryz
end Go.Proofs
end
