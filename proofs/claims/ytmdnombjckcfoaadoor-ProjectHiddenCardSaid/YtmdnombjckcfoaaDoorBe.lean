/-
  Parts of an abstract machine over the model, of the program's data and of what its functions compute: the texts F8w, merged.
-/
import Derived.Test.YtmdnombjckcfoaaDoorBd
set_option linter.unusedSimpArgs false
set_option linter.unusedVariables false
section
namespace Go.Proofs
open Go Go.Abs
set_option linter.unusedSimpArgs false
set_option maxRecDepth 10000
namespace Tryd
set_option maxHeartbeats 2000000 in
theorem wellFormed_spec (c : Es.Contract) (x : Es.Clause) (m : Es.Mark) : APure M 52 [conD c, clsD x, mrkD m] (.v (.bool (Es.wellFormed c x m))) := by
  refine pure_of gpu func52 rfl results52 ntmps52 (by simp) ⟨pu_conD _, pu_clsD _, pu_mrkD _, trivial⟩ ?_
  intro b
  simp (config := { maxSteps := 2000000 }) only [go_sem, ↓reduceIte, decide_eq_true_eq, reduceCtorEq, Nat.reduceEqDiff, Nat.reduceLT, Nat.reduceLeDiff, Nat.reduceAdd, Nat.reduceSub, Nat.reduceMul, Nat.reduceGT, Int.reduceNeg, Int.reduceToNat, and_true, true_and, and_false, false_and, List.getElem?_toArray, List.getElem?_cons_zero, List.getElem?_cons_succ, List.cons_append, List.nil_append, if_true, if_false, Option.getD_some, Option.isSome_some, Bool.false_eq_true, List.append_nil, List.drop_zero, List.drop_succ_cons, Bool.cond_false_right, Bool.cond_false_left, Bool.cond_true_left, Bool.cond_true_right, ite_self, Bool.not_true, Bool.not_false, cond_true, cond_false, List.size_toArray, implies_true, true_implies, false_implies, List.all_cons, List.all_nil, List.nodup_cons, List.nodup_nil, List.mem_cons, List.not_mem_nil, or_false, false_or, not_false_eq_true, decide_true, Bool.and_true, Bool.and_self]
  repeat' (first | (with_reducible refine And.intro ?_ ?_) | ((with_reducible refine ite_cases ?_ ?_) <;> intro _))
  all_goals first
    | (refine congrArg Value.bool ?_; grind [Es.wellFormed, Es.party, Es.mark_beq])
    | first | (simp [Es.wellFormed, Es.party, Es.mark_beq, *]; done) | (simp [Es.wellFormed, Es.party, Es.mark_beq, *]; omega) | (simp_all [Es.wellFormed, Es.party, Es.mark_beq]; done) | (simp_all [Es.wellFormed, Es.party, Es.mark_beq]; omega)
end Tryd
end Go.Proofs
end
