/-
  Parts of an abstract machine over the model, of the program's data and of what its functions compute: the texts F8 F9, merged.
-/
import Derived.Test.YtamkehdhddfeaaaDoorBc
set_option linter.unusedSimpArgs false
set_option linter.unusedVariables false
section
namespace Go.Proofs
open Go Go.Abs
set_option linter.unusedSimpArgs false
set_option maxRecDepth 10000
namespace Tryd
theorem holder_spec (c : Es.Contract) (p : Int) : APure M 29 [.v (.int .i64 p), .rp 7 (conC c) 0] (.v (.bool (decide (p < 0) || decide (c.parties ≤ p)))) := by
  refine pure_of gpu func29 rfl results29 ntmps29 (by simp) ⟨.v _, pu_rp (pu_conC c), trivial⟩ ?_
  intro b
  simp only [go_sem, ↓reduceIte, decide_eq_true_eq, reduceCtorEq, Nat.reduceEqDiff, Nat.reduceLT, Nat.reduceLeDiff, Nat.reduceAdd, Nat.reduceSub, Nat.reduceMul, Nat.reduceGT, Int.reduceNeg, Int.reduceToNat, and_true, true_and, and_false, false_and, List.getElem?_toArray, List.getElem?_cons_zero, List.getElem?_cons_succ, List.cons_append, List.nil_append, if_true, if_false, Option.getD_some, Option.isSome_some, Bool.false_eq_true, List.append_nil, List.drop_zero, List.drop_succ_cons, Bool.cond_false_right, Bool.cond_false_left, Bool.cond_true_left, Bool.cond_true_right, ite_self, Bool.not_true, Bool.not_false, cond_true, cond_false, List.size_toArray, implies_true, true_implies, false_implies, List.all_cons, List.all_nil, List.nodup_cons, List.nodup_nil, List.mem_cons, List.not_mem_nil, or_false, false_or, not_false_eq_true, decide_true, Bool.and_true, Bool.and_self]
  repeat' (first | (with_reducible refine And.intro ?_ ?_) | ((with_reducible refine ite_cases ?_ ?_) <;> intro _))
  all_goals first | (simp [decide_eq_true_eq, *]; done) | (simp [decide_eq_true_eq, *]; omega) | (simp_all [decide_eq_true_eq]; done) | (simp_all [decide_eq_true_eq]; omega)
theorem isNaN_spec (n : Int) : APure M 67 [.v (.int .i64 n)] (.v (.bool false)) := by
  refine pure_of gpu func67 rfl results67 ntmps67 (by simp) ⟨.v _, trivial⟩ ?_
  intro b
  simp only [go_sem, ↓reduceIte, decide_eq_true_eq, reduceCtorEq, Nat.reduceEqDiff, Nat.reduceLT, Nat.reduceLeDiff, Nat.reduceAdd, Nat.reduceSub, Nat.reduceMul, Nat.reduceGT, Int.reduceNeg, Int.reduceToNat, and_true, true_and, and_false, false_and, List.getElem?_toArray, List.getElem?_cons_zero, List.getElem?_cons_succ, List.cons_append, List.nil_append, if_true, if_false, Option.getD_some, Option.isSome_some, Bool.false_eq_true, List.append_nil, List.drop_zero, List.drop_succ_cons, Bool.cond_false_right, Bool.cond_false_left, Bool.cond_true_left, Bool.cond_true_right, ite_self, Bool.not_true, Bool.not_false, cond_true, cond_false, List.size_toArray, implies_true, true_implies, false_implies, List.all_cons, List.all_nil, List.nodup_cons, List.nodup_nil, List.mem_cons, List.not_mem_nil, or_false, false_or, not_false_eq_true, decide_true, Bool.and_true, Bool.and_self]
  simp
theorem isNaN2_spec (n : Int) : APure M 53 [.v (.int .i64 n)] (.v (.bool false)) := by
  refine pure_of gpu func53 rfl results53 ntmps53 (by simp) ⟨.v _, trivial⟩ ?_
  intro b
  simp only [go_sem, ↓reduceIte, decide_eq_true_eq, reduceCtorEq, Nat.reduceEqDiff, Nat.reduceLT, Nat.reduceLeDiff, Nat.reduceAdd, Nat.reduceSub, Nat.reduceMul, Nat.reduceGT, Int.reduceNeg, Int.reduceToNat, and_true, true_and, and_false, false_and, List.getElem?_toArray, List.getElem?_cons_zero, List.getElem?_cons_succ, List.cons_append, List.nil_append, if_true, if_false, Option.getD_some, Option.isSome_some, Bool.false_eq_true, List.append_nil, List.drop_zero, List.drop_succ_cons, Bool.cond_false_right, Bool.cond_false_left, Bool.cond_true_left, Bool.cond_true_right, ite_self, Bool.not_true, Bool.not_false, cond_true, cond_false, List.size_toArray, implies_true, true_implies, false_implies, List.all_cons, List.all_nil, List.nodup_cons, List.nodup_nil, List.mem_cons, List.not_mem_nil, or_false, false_or, not_false_eq_true, decide_true, Bool.and_true, Bool.and_self]
  simp
theorem less_spec (a b : Int) : APure M 52 [.v (.int .i64 a), .v (.int .i64 b)] (.v (.bool (decide (a < b)))) := by
  refine pure_of gpu func52 rfl results52 ntmps52 (by simp) ⟨.v _, .v _, trivial⟩ ?_
  intro b
  simp only [go_sem, ↓reduceIte, decide_eq_true_eq, reduceCtorEq, Nat.reduceEqDiff, Nat.reduceLT, Nat.reduceLeDiff, Nat.reduceAdd, Nat.reduceSub, Nat.reduceMul, Nat.reduceGT, Int.reduceNeg, Int.reduceToNat, and_true, true_and, and_false, false_and, List.getElem?_toArray, List.getElem?_cons_zero, List.getElem?_cons_succ, List.cons_append, List.nil_append, if_true, if_false, Option.getD_some, Option.isSome_some, Bool.false_eq_true, List.append_nil, List.drop_zero, List.drop_succ_cons, Bool.cond_false_right, Bool.cond_false_left, Bool.cond_true_left, Bool.cond_true_right, ite_self, Bool.not_true, Bool.not_false, cond_true, cond_false, List.size_toArray, implies_true, true_implies, false_implies, List.all_cons, List.all_nil, List.nodup_cons, List.nodup_nil, List.mem_cons, List.not_mem_nil, or_false, false_or, not_false_eq_true, decide_true, Bool.and_true, Bool.and_self]
  repeat' (first | ((with_reducible refine call_at M_P M_G (isNaN_spec _) ?_); simp only [go_sem, ↓reduceIte, decide_eq_true_eq, reduceCtorEq, Nat.reduceEqDiff, Nat.reduceLT, Nat.reduceLeDiff, Nat.reduceAdd, Nat.reduceSub, Nat.reduceMul, Nat.reduceGT, Int.reduceNeg, Int.reduceToNat, and_true, true_and, and_false, false_and, List.getElem?_toArray, List.getElem?_cons_zero, List.getElem?_cons_succ, List.cons_append, List.nil_append, if_true, if_false, Option.getD_some, Option.isSome_some, Bool.false_eq_true, List.append_nil, List.drop_zero, List.drop_succ_cons, Bool.cond_false_right, Bool.cond_false_left, Bool.cond_true_left, Bool.cond_true_right, ite_self, Bool.not_true, Bool.not_false, cond_true, cond_false, List.size_toArray, implies_true, true_implies, false_implies, List.all_cons, List.all_nil, List.nodup_cons, List.nodup_nil, List.mem_cons, List.not_mem_nil, or_false, false_or, not_false_eq_true, decide_true, Bool.and_true, Bool.and_self]) | (with_reducible refine And.intro ?_ ?_) | ((with_reducible refine ite_cases ?_ ?_) <;> intro _))
theorem equalI_spec (l m : List Int) (hl : l.length ≤ 9223372036854775807) : APure M 36 [slD 1 intC l, slD 1 intC m] (.v (.bool (l == m))) := by
  refine pure_of gpu func36 rfl results36 ntmps36 (by simp) ⟨pu_slD pu_intC _, pu_slD pu_intC _, trivial⟩ ?_
  intro b
  simp only [go_sem, ↓reduceIte, decide_eq_true_eq, reduceCtorEq, Nat.reduceEqDiff, Nat.reduceLT, Nat.reduceLeDiff, Nat.reduceAdd, Nat.reduceSub, Nat.reduceMul, Nat.reduceGT, Int.reduceNeg, Int.reduceToNat, and_true, true_and, and_false, false_and, List.getElem?_toArray, List.getElem?_cons_zero, List.getElem?_cons_succ, List.cons_append, List.nil_append, if_true, if_false, Option.getD_some, Option.isSome_some, Bool.false_eq_true, List.append_nil, List.drop_zero, List.drop_succ_cons, Bool.cond_false_right, Bool.cond_false_left, Bool.cond_true_left, Bool.cond_true_right, ite_self, Bool.not_true, Bool.not_false, cond_true, cond_false, List.size_toArray, implies_true, true_implies, false_implies, List.all_cons, List.all_nil, List.nodup_cons, List.nodup_nil, List.mem_cons, List.not_mem_nil, or_false, false_or, not_false_eq_true, decide_true, Bool.and_true, Bool.and_self]
  refine ite_cases (fun hne => ?_) (fun hne => ?_)
  · have : l ≠ m := fun h => by rw [h] at hne; simp at hne
    simp [this]
  · have hlen : l.length = m.length := by simp [Es.len] at hne; omega
    refine awp_count0 l.length (fun e0 s0 k e s => (e 0 = e0 0 ∧ e 1 = e0 1 ∧ e 12 = e0 12) ∧ e 13 = .v (.int .i64 k) ∧ s = s0 ∧ ∀ j : Nat, j < k → Es.at_ l j = Es.at_ m j) ⟨⟨rfl, rfl, rfl⟩, ?_, rfl, (by omega)⟩ ?_
    · simp only [go_sem, ↓reduceIte, decide_eq_true_eq, reduceCtorEq, Nat.reduceEqDiff, Nat.reduceLT, Nat.reduceLeDiff, Nat.reduceAdd, Nat.reduceSub, Nat.reduceMul, Nat.reduceGT, Int.reduceNeg, Int.reduceToNat, and_true, true_and, and_false, false_and, List.getElem?_toArray, List.getElem?_cons_zero, List.getElem?_cons_succ, List.cons_append, List.nil_append, if_true, if_false, Option.getD_some, Option.isSome_some, Bool.false_eq_true, List.append_nil, List.drop_zero, List.drop_succ_cons, Bool.cond_false_right, Bool.cond_false_left, Bool.cond_true_left, Bool.cond_true_right, ite_self, Bool.not_true, Bool.not_false, cond_true, cond_false, List.size_toArray, implies_true, true_implies, false_implies, List.all_cons, List.all_nil, List.nodup_cons, List.nodup_nil, List.mem_cons, List.not_mem_nil, or_false, false_or, not_false_eq_true, decide_true, Bool.and_true, Bool.and_self]; rfl
    rintro k e s hk ⟨⟨h0, h1, h12⟩, h13, rfl, hall⟩
    simp only [go_sem, ↓reduceIte, decide_eq_true_eq, reduceCtorEq, Nat.reduceEqDiff, Nat.reduceLT, Nat.reduceLeDiff, Nat.reduceAdd, Nat.reduceSub, Nat.reduceMul, Nat.reduceGT, Int.reduceNeg, Int.reduceToNat, and_true, true_and, and_false, false_and, List.getElem?_toArray, List.getElem?_cons_zero, List.getElem?_cons_succ, List.cons_append, List.nil_append, if_true, if_false, Option.getD_some, Option.isSome_some, Bool.false_eq_true, List.append_nil, List.drop_zero, List.drop_succ_cons, Bool.cond_false_right, Bool.cond_false_left, Bool.cond_true_left, Bool.cond_true_right, ite_self, Bool.not_true, Bool.not_false, cond_true, cond_false, List.size_toArray, implies_true, true_implies, false_implies, List.all_cons, List.all_nil, List.nodup_cons, List.nodup_nil, List.mem_cons, List.not_mem_nil, or_false, false_or, not_false_eq_true, decide_true, Bool.and_true, Bool.and_self] at h0 h1 h12
    simp only [go_sem, ↓reduceIte, decide_eq_true_eq, reduceCtorEq, Nat.reduceEqDiff, Nat.reduceLT, Nat.reduceLeDiff, Nat.reduceAdd, Nat.reduceSub, Nat.reduceMul, Nat.reduceGT, Int.reduceNeg, Int.reduceToNat, and_true, true_and, and_false, false_and, List.getElem?_toArray, List.getElem?_cons_zero, List.getElem?_cons_succ, List.cons_append, List.nil_append, if_true, if_false, Option.getD_some, Option.isSome_some, Bool.false_eq_true, List.append_nil, List.drop_zero, List.drop_succ_cons, Bool.cond_false_right, Bool.cond_false_left, Bool.cond_true_left, Bool.cond_true_right, ite_self, Bool.not_true, Bool.not_false, cond_true, cond_false, List.size_toArray, implies_true, true_implies, false_implies, List.all_cons, List.all_nil, List.nodup_cons, List.nodup_nil, List.mem_cons, List.not_mem_nil, or_false, false_or, not_false_eq_true, decide_true, Bool.and_true, Bool.and_self, h0, h1, h12, h13]
    refine ite_cases (fun hlt => ?_) (fun hlt => ?_)
    · have hlt' : k < l.length := Es.len_lt.1 hlt
      refine awp_plan ((.op 0 (.op 1 (.op 2 (.op 3 (.op 4 (.op 5 (.op 6 (.op 7 (.op 8 .done)))))))))) [] mix (by kernel_rfl) ?_
      simp only [go_sem, ↓reduceIte, decide_eq_true_eq, reduceCtorEq, Nat.reduceEqDiff, Nat.reduceLT, Nat.reduceLeDiff, Nat.reduceAdd, Nat.reduceSub, Nat.reduceMul, Nat.reduceGT, Int.reduceNeg, Int.reduceToNat, and_true, true_and, and_false, false_and, List.getElem?_toArray, List.getElem?_cons_zero, List.getElem?_cons_succ, List.cons_append, List.nil_append, if_true, if_false, Option.getD_some, Option.isSome_some, Bool.false_eq_true, List.append_nil, List.drop_zero, List.drop_succ_cons, Bool.cond_false_right, Bool.cond_false_left, Bool.cond_true_left, Bool.cond_true_right, ite_self, Bool.not_true, Bool.not_false, cond_true, cond_false, List.size_toArray, implies_true, true_implies, false_implies, List.all_cons, List.all_nil, List.nodup_cons, List.nodup_nil, List.mem_cons, List.not_mem_nil, or_false, false_or, not_false_eq_true, decide_true, Bool.and_true, Bool.and_self, h0, h1, h12, h13]
      refine ⟨⟨by omega, hlt⟩, ⟨by omega, by simp only [Es.len] at hlt ⊢; omega⟩, ?_⟩
      refine ite_cases (fun hd => ?_) (fun hd => ?_)
      · have : l ≠ m := fun h => by rw [h] at hd; simp at hd
        simp [this]
      · refine ⟨hlt', ?_⟩
        simp only [go_sem, ↓reduceIte, decide_eq_true_eq, reduceCtorEq, Nat.reduceEqDiff, Nat.reduceLT, Nat.reduceLeDiff, Nat.reduceAdd, Nat.reduceSub, Nat.reduceMul, Nat.reduceGT, Int.reduceNeg, Int.reduceToNat, and_true, true_and, and_false, false_and, List.getElem?_toArray, List.getElem?_cons_zero, List.getElem?_cons_succ, List.cons_append, List.nil_append, if_true, if_false, Option.getD_some, Option.isSome_some, Bool.false_eq_true, List.append_nil, List.drop_zero, List.drop_succ_cons, Bool.cond_false_right, Bool.cond_false_left, Bool.cond_true_left, Bool.cond_true_right, ite_self, Bool.not_true, Bool.not_false, cond_true, cond_false, List.size_toArray, implies_true, true_implies, false_implies, List.all_cons, List.all_nil, List.nodup_cons, List.nodup_nil, List.mem_cons, List.not_mem_nil, or_false, false_or, not_false_eq_true, decide_true, Bool.and_true, Bool.and_self, h0, h1, h12, h13]
        refine ⟨by rw [wrap_i64 _ (by omega) (by omega)]; simp, fun j hj => ?_⟩
        rcases Nat.lt_or_ge j k with h | h
        · exact hall j h
        · have : j = k := by omega
          rw [this]; simpa using hd
    · have hkk : k = l.length := by simp only [Es.len] at hlt; omega
      have : l = m := by
        apply List.ext_getElem hlen
        intro j h1 h2
        have := hall j (by omega)
        rwa [Es.at_nat h1, Es.at_nat h2] at this
      simp [this]
theorem equalB_spec (l m : List Bool) (hl : l.length ≤ 9223372036854775807) : APure M 37 [slD 1 booC l, slD 1 booC m] (.v (.bool (l == m))) := by
  refine pure_of gpu func37 rfl results37 ntmps37 (by simp) ⟨pu_slD pu_booC _, pu_slD pu_booC _, trivial⟩ ?_
  intro b
  simp only [go_sem, ↓reduceIte, decide_eq_true_eq, reduceCtorEq, Nat.reduceEqDiff, Nat.reduceLT, Nat.reduceLeDiff, Nat.reduceAdd, Nat.reduceSub, Nat.reduceMul, Nat.reduceGT, Int.reduceNeg, Int.reduceToNat, and_true, true_and, and_false, false_and, List.getElem?_toArray, List.getElem?_cons_zero, List.getElem?_cons_succ, List.cons_append, List.nil_append, if_true, if_false, Option.getD_some, Option.isSome_some, Bool.false_eq_true, List.append_nil, List.drop_zero, List.drop_succ_cons, Bool.cond_false_right, Bool.cond_false_left, Bool.cond_true_left, Bool.cond_true_right, ite_self, Bool.not_true, Bool.not_false, cond_true, cond_false, List.size_toArray, implies_true, true_implies, false_implies, List.all_cons, List.all_nil, List.nodup_cons, List.nodup_nil, List.mem_cons, List.not_mem_nil, or_false, false_or, not_false_eq_true, decide_true, Bool.and_true, Bool.and_self]
  refine ite_cases (fun hne => ?_) (fun hne => ?_)
  · have : l ≠ m := fun h => by rw [h] at hne; simp at hne
    simp [this]
  · have hlen : l.length = m.length := by simp [Es.len] at hne; omega
    refine awp_count0 l.length (fun e0 s0 k e s => (e 0 = e0 0 ∧ e 1 = e0 1 ∧ e 12 = e0 12) ∧ e 13 = .v (.int .i64 k) ∧ s = s0 ∧ ∀ j : Nat, j < k → Es.at_ l j = Es.at_ m j) ⟨⟨rfl, rfl, rfl⟩, ?_, rfl, (by omega)⟩ ?_
    · simp only [go_sem, ↓reduceIte, decide_eq_true_eq, reduceCtorEq, Nat.reduceEqDiff, Nat.reduceLT, Nat.reduceLeDiff, Nat.reduceAdd, Nat.reduceSub, Nat.reduceMul, Nat.reduceGT, Int.reduceNeg, Int.reduceToNat, and_true, true_and, and_false, false_and, List.getElem?_toArray, List.getElem?_cons_zero, List.getElem?_cons_succ, List.cons_append, List.nil_append, if_true, if_false, Option.getD_some, Option.isSome_some, Bool.false_eq_true, List.append_nil, List.drop_zero, List.drop_succ_cons, Bool.cond_false_right, Bool.cond_false_left, Bool.cond_true_left, Bool.cond_true_right, ite_self, Bool.not_true, Bool.not_false, cond_true, cond_false, List.size_toArray, implies_true, true_implies, false_implies, List.all_cons, List.all_nil, List.nodup_cons, List.nodup_nil, List.mem_cons, List.not_mem_nil, or_false, false_or, not_false_eq_true, decide_true, Bool.and_true, Bool.and_self]; rfl
    rintro k e s hk ⟨⟨h0, h1, h12⟩, h13, rfl, hall⟩
    simp only [go_sem, ↓reduceIte, decide_eq_true_eq, reduceCtorEq, Nat.reduceEqDiff, Nat.reduceLT, Nat.reduceLeDiff, Nat.reduceAdd, Nat.reduceSub, Nat.reduceMul, Nat.reduceGT, Int.reduceNeg, Int.reduceToNat, and_true, true_and, and_false, false_and, List.getElem?_toArray, List.getElem?_cons_zero, List.getElem?_cons_succ, List.cons_append, List.nil_append, if_true, if_false, Option.getD_some, Option.isSome_some, Bool.false_eq_true, List.append_nil, List.drop_zero, List.drop_succ_cons, Bool.cond_false_right, Bool.cond_false_left, Bool.cond_true_left, Bool.cond_true_right, ite_self, Bool.not_true, Bool.not_false, cond_true, cond_false, List.size_toArray, implies_true, true_implies, false_implies, List.all_cons, List.all_nil, List.nodup_cons, List.nodup_nil, List.mem_cons, List.not_mem_nil, or_false, false_or, not_false_eq_true, decide_true, Bool.and_true, Bool.and_self] at h0 h1 h12
    simp only [go_sem, ↓reduceIte, decide_eq_true_eq, reduceCtorEq, Nat.reduceEqDiff, Nat.reduceLT, Nat.reduceLeDiff, Nat.reduceAdd, Nat.reduceSub, Nat.reduceMul, Nat.reduceGT, Int.reduceNeg, Int.reduceToNat, and_true, true_and, and_false, false_and, List.getElem?_toArray, List.getElem?_cons_zero, List.getElem?_cons_succ, List.cons_append, List.nil_append, if_true, if_false, Option.getD_some, Option.isSome_some, Bool.false_eq_true, List.append_nil, List.drop_zero, List.drop_succ_cons, Bool.cond_false_right, Bool.cond_false_left, Bool.cond_true_left, Bool.cond_true_right, ite_self, Bool.not_true, Bool.not_false, cond_true, cond_false, List.size_toArray, implies_true, true_implies, false_implies, List.all_cons, List.all_nil, List.nodup_cons, List.nodup_nil, List.mem_cons, List.not_mem_nil, or_false, false_or, not_false_eq_true, decide_true, Bool.and_true, Bool.and_self, h0, h1, h12, h13]
    refine ite_cases (fun hlt => ?_) (fun hlt => ?_)
    · have hlt' : k < l.length := Es.len_lt.1 hlt
      refine awp_plan ((.op 0 (.op 1 (.op 2 (.op 3 (.op 4 (.op 5 (.op 6 (.op 7 (.op 8 .done)))))))))) [] mix (by kernel_rfl) ?_
      simp only [go_sem, ↓reduceIte, decide_eq_true_eq, reduceCtorEq, Nat.reduceEqDiff, Nat.reduceLT, Nat.reduceLeDiff, Nat.reduceAdd, Nat.reduceSub, Nat.reduceMul, Nat.reduceGT, Int.reduceNeg, Int.reduceToNat, and_true, true_and, and_false, false_and, List.getElem?_toArray, List.getElem?_cons_zero, List.getElem?_cons_succ, List.cons_append, List.nil_append, if_true, if_false, Option.getD_some, Option.isSome_some, Bool.false_eq_true, List.append_nil, List.drop_zero, List.drop_succ_cons, Bool.cond_false_right, Bool.cond_false_left, Bool.cond_true_left, Bool.cond_true_right, ite_self, Bool.not_true, Bool.not_false, cond_true, cond_false, List.size_toArray, implies_true, true_implies, false_implies, List.all_cons, List.all_nil, List.nodup_cons, List.nodup_nil, List.mem_cons, List.not_mem_nil, or_false, false_or, not_false_eq_true, decide_true, Bool.and_true, Bool.and_self, h0, h1, h12, h13]
      refine ⟨⟨by omega, hlt⟩, ⟨by omega, by simp only [Es.len] at hlt ⊢; omega⟩, ?_⟩
      refine ite_cases (fun hd => ?_) (fun hd => ?_)
      · have : l ≠ m := fun h => by rw [h] at hd; simp at hd
        simp [this]
      · refine ⟨hlt', ?_⟩
        simp only [go_sem, ↓reduceIte, decide_eq_true_eq, reduceCtorEq, Nat.reduceEqDiff, Nat.reduceLT, Nat.reduceLeDiff, Nat.reduceAdd, Nat.reduceSub, Nat.reduceMul, Nat.reduceGT, Int.reduceNeg, Int.reduceToNat, and_true, true_and, and_false, false_and, List.getElem?_toArray, List.getElem?_cons_zero, List.getElem?_cons_succ, List.cons_append, List.nil_append, if_true, if_false, Option.getD_some, Option.isSome_some, Bool.false_eq_true, List.append_nil, List.drop_zero, List.drop_succ_cons, Bool.cond_false_right, Bool.cond_false_left, Bool.cond_true_left, Bool.cond_true_right, ite_self, Bool.not_true, Bool.not_false, cond_true, cond_false, List.size_toArray, implies_true, true_implies, false_implies, List.all_cons, List.all_nil, List.nodup_cons, List.nodup_nil, List.mem_cons, List.not_mem_nil, or_false, false_or, not_false_eq_true, decide_true, Bool.and_true, Bool.and_self, h0, h1, h12, h13]
        refine ⟨by rw [wrap_i64 _ (by omega) (by omega)]; simp, fun j hj => ?_⟩
        rcases Nat.lt_or_ge j k with h | h
        · exact hall j h
        · have : j = k := by omega
          rw [this]; simpa using hd
    · have hkk : k = l.length := by simp only [Es.len] at hlt; omega
      have : l = m := by
        apply List.ext_getElem hlen
        intro j h1 h2
        have := hall j (by omega)
        rwa [Es.at_nat h1, Es.at_nat h2] at this
      simp [this]
end Tryd
end Go.Proofs
end
section
namespace Go.Proofs
open Go Go.Abs
set_option linter.unusedSimpArgs false
set_option maxRecDepth 10000
namespace Tryd
theorem equalM_spec (l m : List Es.Mark) (hl : l.length ≤ 9223372036854775807) : APure M 38 [slD 5 mrkC l, slD 5 mrkC m] (.v (.bool (l == m))) := by
  refine pure_of gpu func38 rfl results38 ntmps38 (by simp) ⟨pu_slD pu_mrkC _, pu_slD pu_mrkC _, trivial⟩ ?_
  intro b
  simp only [go_sem, ↓reduceIte, decide_eq_true_eq, reduceCtorEq, Nat.reduceEqDiff, Nat.reduceLT, Nat.reduceLeDiff, Nat.reduceAdd, Nat.reduceSub, Nat.reduceMul, Nat.reduceGT, Int.reduceNeg, Int.reduceToNat, and_true, true_and, and_false, false_and, List.getElem?_toArray, List.getElem?_cons_zero, List.getElem?_cons_succ, List.cons_append, List.nil_append, if_true, if_false, Option.getD_some, Option.isSome_some, Bool.false_eq_true, List.append_nil, List.drop_zero, List.drop_succ_cons, Bool.cond_false_right, Bool.cond_false_left, Bool.cond_true_left, Bool.cond_true_right, ite_self, Bool.not_true, Bool.not_false, cond_true, cond_false, List.size_toArray, implies_true, true_implies, false_implies, List.all_cons, List.all_nil, List.nodup_cons, List.nodup_nil, List.mem_cons, List.not_mem_nil, or_false, false_or, not_false_eq_true, decide_true, Bool.and_true, Bool.and_self]
  refine ite_cases (fun hne => ?_) (fun hne => ?_)
  · have : l ≠ m := fun h => by rw [h] at hne; simp at hne
    simp [this]
  · have hlen : l.length = m.length := by simp [Es.len] at hne; omega
    refine awp_count0 l.length (fun e0 s0 k e s => (e 0 = e0 0 ∧ e 1 = e0 1 ∧ e 12 = e0 12) ∧ e 13 = .v (.int .i64 k) ∧ s = s0 ∧ ∀ j : Nat, j < k → Es.at_ l j = Es.at_ m j) ⟨⟨rfl, rfl, rfl⟩, ?_, rfl, (by omega)⟩ ?_
    · simp only [go_sem, ↓reduceIte, decide_eq_true_eq, reduceCtorEq, Nat.reduceEqDiff, Nat.reduceLT, Nat.reduceLeDiff, Nat.reduceAdd, Nat.reduceSub, Nat.reduceMul, Nat.reduceGT, Int.reduceNeg, Int.reduceToNat, and_true, true_and, and_false, false_and, List.getElem?_toArray, List.getElem?_cons_zero, List.getElem?_cons_succ, List.cons_append, List.nil_append, if_true, if_false, Option.getD_some, Option.isSome_some, Bool.false_eq_true, List.append_nil, List.drop_zero, List.drop_succ_cons, Bool.cond_false_right, Bool.cond_false_left, Bool.cond_true_left, Bool.cond_true_right, ite_self, Bool.not_true, Bool.not_false, cond_true, cond_false, List.size_toArray, implies_true, true_implies, false_implies, List.all_cons, List.all_nil, List.nodup_cons, List.nodup_nil, List.mem_cons, List.not_mem_nil, or_false, false_or, not_false_eq_true, decide_true, Bool.and_true, Bool.and_self]; rfl
    rintro k e s hk ⟨⟨h0, h1, h12⟩, h13, rfl, hall⟩
    simp only [go_sem, ↓reduceIte, decide_eq_true_eq, reduceCtorEq, Nat.reduceEqDiff, Nat.reduceLT, Nat.reduceLeDiff, Nat.reduceAdd, Nat.reduceSub, Nat.reduceMul, Nat.reduceGT, Int.reduceNeg, Int.reduceToNat, and_true, true_and, and_false, false_and, List.getElem?_toArray, List.getElem?_cons_zero, List.getElem?_cons_succ, List.cons_append, List.nil_append, if_true, if_false, Option.getD_some, Option.isSome_some, Bool.false_eq_true, List.append_nil, List.drop_zero, List.drop_succ_cons, Bool.cond_false_right, Bool.cond_false_left, Bool.cond_true_left, Bool.cond_true_right, ite_self, Bool.not_true, Bool.not_false, cond_true, cond_false, List.size_toArray, implies_true, true_implies, false_implies, List.all_cons, List.all_nil, List.nodup_cons, List.nodup_nil, List.mem_cons, List.not_mem_nil, or_false, false_or, not_false_eq_true, decide_true, Bool.and_true, Bool.and_self] at h0 h1 h12
    simp only [go_sem, ↓reduceIte, decide_eq_true_eq, reduceCtorEq, Nat.reduceEqDiff, Nat.reduceLT, Nat.reduceLeDiff, Nat.reduceAdd, Nat.reduceSub, Nat.reduceMul, Nat.reduceGT, Int.reduceNeg, Int.reduceToNat, and_true, true_and, and_false, false_and, List.getElem?_toArray, List.getElem?_cons_zero, List.getElem?_cons_succ, List.cons_append, List.nil_append, if_true, if_false, Option.getD_some, Option.isSome_some, Bool.false_eq_true, List.append_nil, List.drop_zero, List.drop_succ_cons, Bool.cond_false_right, Bool.cond_false_left, Bool.cond_true_left, Bool.cond_true_right, ite_self, Bool.not_true, Bool.not_false, cond_true, cond_false, List.size_toArray, implies_true, true_implies, false_implies, List.all_cons, List.all_nil, List.nodup_cons, List.nodup_nil, List.mem_cons, List.not_mem_nil, or_false, false_or, not_false_eq_true, decide_true, Bool.and_true, Bool.and_self, h0, h1, h12, h13]
    refine ite_cases (fun hlt => ?_) (fun hlt => ?_)
    · have hlt' : k < l.length := Es.len_lt.1 hlt
      refine awp_plan ((.op 0 (.op 1 (.op 2 (.op 3 (.op 4 (.op 5 (.op 6 (.op 7 (.op 8 .done)))))))))) [] mix (by kernel_rfl) ?_
      simp only [go_sem, ↓reduceIte, decide_eq_true_eq, reduceCtorEq, Nat.reduceEqDiff, Nat.reduceLT, Nat.reduceLeDiff, Nat.reduceAdd, Nat.reduceSub, Nat.reduceMul, Nat.reduceGT, Int.reduceNeg, Int.reduceToNat, and_true, true_and, and_false, false_and, List.getElem?_toArray, List.getElem?_cons_zero, List.getElem?_cons_succ, List.cons_append, List.nil_append, if_true, if_false, Option.getD_some, Option.isSome_some, Bool.false_eq_true, List.append_nil, List.drop_zero, List.drop_succ_cons, Bool.cond_false_right, Bool.cond_false_left, Bool.cond_true_left, Bool.cond_true_right, ite_self, Bool.not_true, Bool.not_false, cond_true, cond_false, List.size_toArray, implies_true, true_implies, false_implies, List.all_cons, List.all_nil, List.nodup_cons, List.nodup_nil, List.mem_cons, List.not_mem_nil, or_false, false_or, not_false_eq_true, decide_true, Bool.and_true, Bool.and_self, h0, h1, h12, h13, ← Es.mark_beq]
      refine ⟨⟨by omega, hlt⟩, ⟨by omega, by simp only [Es.len] at hlt ⊢; omega⟩, ?_⟩
      refine ite_cases (fun hd => ?_) (fun hd => ?_)
      · have : l ≠ m := fun h => by rw [h] at hd; simp at hd
        simp [this]
      · refine ⟨hlt', ?_⟩
        simp only [go_sem, ↓reduceIte, decide_eq_true_eq, reduceCtorEq, Nat.reduceEqDiff, Nat.reduceLT, Nat.reduceLeDiff, Nat.reduceAdd, Nat.reduceSub, Nat.reduceMul, Nat.reduceGT, Int.reduceNeg, Int.reduceToNat, and_true, true_and, and_false, false_and, List.getElem?_toArray, List.getElem?_cons_zero, List.getElem?_cons_succ, List.cons_append, List.nil_append, if_true, if_false, Option.getD_some, Option.isSome_some, Bool.false_eq_true, List.append_nil, List.drop_zero, List.drop_succ_cons, Bool.cond_false_right, Bool.cond_false_left, Bool.cond_true_left, Bool.cond_true_right, ite_self, Bool.not_true, Bool.not_false, cond_true, cond_false, List.size_toArray, implies_true, true_implies, false_implies, List.all_cons, List.all_nil, List.nodup_cons, List.nodup_nil, List.mem_cons, List.not_mem_nil, or_false, false_or, not_false_eq_true, decide_true, Bool.and_true, Bool.and_self, h0, h1, h12, h13]
        refine ⟨by rw [wrap_i64 _ (by omega) (by omega)]; simp, fun j hj => ?_⟩
        rcases Nat.lt_or_ge j k with h | h
        · exact hall j h
        · have : j = k := by omega
          rw [this]; simpa using hd
    · have hkk : k = l.length := by simp only [Es.len] at hlt; omega
      have : l = m := by
        apply List.ext_getElem hlen
        intro j h1 h2
        have := hall j (by omega)
        rwa [Es.at_nat h1, Es.at_nat h2] at this
      simp [this]

theorem same_spec (a b : Es.State) (ha : Es.SFits a) : APure M 21 [staD a, staD b] (.v (.bool (a.day == b.day && a.holders == b.holders && a.used == b.used && a.marks == b.marks))) := by
  refine pure_of gpu func21 rfl results21 ntmps21 (by simp) ⟨pu_staD _, pu_staD _, trivial⟩ ?_
  intro b
  simp only [go_sem, ↓reduceIte, decide_eq_true_eq, reduceCtorEq, Nat.reduceEqDiff, Nat.reduceLT, Nat.reduceLeDiff, Nat.reduceAdd, Nat.reduceSub, Nat.reduceMul, Nat.reduceGT, Int.reduceNeg, Int.reduceToNat, and_true, true_and, and_false, false_and, List.getElem?_toArray, List.getElem?_cons_zero, List.getElem?_cons_succ, List.cons_append, List.nil_append, if_true, if_false, Option.getD_some, Option.isSome_some, Bool.false_eq_true, List.append_nil, List.drop_zero, List.drop_succ_cons, Bool.cond_false_right, Bool.cond_false_left, Bool.cond_true_left, Bool.cond_true_right, ite_self, Bool.not_true, Bool.not_false, cond_true, cond_false, List.size_toArray, implies_true, true_implies, false_implies, List.all_cons, List.all_nil, List.nodup_cons, List.nodup_nil, List.mem_cons, List.not_mem_nil, or_false, false_or, not_false_eq_true, decide_true, Bool.and_true, Bool.and_self]
  repeat' (first | ((with_reducible refine call_at M_P M_G (equalI_spec _ _ ha.holders) ?_); simp only [go_sem, ↓reduceIte, decide_eq_true_eq, reduceCtorEq, Nat.reduceEqDiff, Nat.reduceLT, Nat.reduceLeDiff, Nat.reduceAdd, Nat.reduceSub, Nat.reduceMul, Nat.reduceGT, Int.reduceNeg, Int.reduceToNat, and_true, true_and, and_false, false_and, List.getElem?_toArray, List.getElem?_cons_zero, List.getElem?_cons_succ, List.cons_append, List.nil_append, if_true, if_false, Option.getD_some, Option.isSome_some, Bool.false_eq_true, List.append_nil, List.drop_zero, List.drop_succ_cons, Bool.cond_false_right, Bool.cond_false_left, Bool.cond_true_left, Bool.cond_true_right, ite_self, Bool.not_true, Bool.not_false, cond_true, cond_false, List.size_toArray, implies_true, true_implies, false_implies, List.all_cons, List.all_nil, List.nodup_cons, List.nodup_nil, List.mem_cons, List.not_mem_nil, or_false, false_or, not_false_eq_true, decide_true, Bool.and_true, Bool.and_self]) | ((with_reducible refine call_at M_P M_G (equalB_spec _ _ ha.used) ?_); simp only [go_sem, ↓reduceIte, decide_eq_true_eq, reduceCtorEq, Nat.reduceEqDiff, Nat.reduceLT, Nat.reduceLeDiff, Nat.reduceAdd, Nat.reduceSub, Nat.reduceMul, Nat.reduceGT, Int.reduceNeg, Int.reduceToNat, and_true, true_and, and_false, false_and, List.getElem?_toArray, List.getElem?_cons_zero, List.getElem?_cons_succ, List.cons_append, List.nil_append, if_true, if_false, Option.getD_some, Option.isSome_some, Bool.false_eq_true, List.append_nil, List.drop_zero, List.drop_succ_cons, Bool.cond_false_right, Bool.cond_false_left, Bool.cond_true_left, Bool.cond_true_right, ite_self, Bool.not_true, Bool.not_false, cond_true, cond_false, List.size_toArray, implies_true, true_implies, false_implies, List.all_cons, List.all_nil, List.nodup_cons, List.nodup_nil, List.mem_cons, List.not_mem_nil, or_false, false_or, not_false_eq_true, decide_true, Bool.and_true, Bool.and_self]) | ((with_reducible refine call_at M_P M_G (equalM_spec _ _ ha.marks) ?_); simp only [go_sem, ↓reduceIte, decide_eq_true_eq, reduceCtorEq, Nat.reduceEqDiff, Nat.reduceLT, Nat.reduceLeDiff, Nat.reduceAdd, Nat.reduceSub, Nat.reduceMul, Nat.reduceGT, Int.reduceNeg, Int.reduceToNat, and_true, true_and, and_false, false_and, List.getElem?_toArray, List.getElem?_cons_zero, List.getElem?_cons_succ, List.cons_append, List.nil_append, if_true, if_false, Option.getD_some, Option.isSome_some, Bool.false_eq_true, List.append_nil, List.drop_zero, List.drop_succ_cons, Bool.cond_false_right, Bool.cond_false_left, Bool.cond_true_left, Bool.cond_true_right, ite_self, Bool.not_true, Bool.not_false, cond_true, cond_false, List.size_toArray, implies_true, true_implies, false_implies, List.all_cons, List.all_nil, List.nodup_cons, List.nodup_nil, List.mem_cons, List.not_mem_nil, or_false, false_or, not_false_eq_true, decide_true, Bool.and_true, Bool.and_self]) | (with_reducible refine And.intro ?_ ?_) | ((with_reducible refine ite_cases ?_ ?_) <;> intro _))
  all_goals first | (simp [decide_eq_true_eq, *]; done) | (simp [decide_eq_true_eq, *]; omega) | (simp_all [decide_eq_true_eq]; done) | (simp_all [decide_eq_true_eq]; omega)

theorem doer_spec (c : Es.Contract) (s : Es.State) (a : Int) (h1 : 0 ≤ a ∧ a < Es.len c.acts) (h2 : (Es.at_ c.acts a).role ≠ -1 → 0 ≤ (Es.at_ c.acts a).role ∧ (Es.at_ c.acts a).role < Es.len s.holders) : APure M 35 [conD c, staD s, .v (.int .i64 a)] (.v (.int .i64 (if (Es.at_ c.acts a).role == -1 then -1 else Es.at_ s.holders (Es.at_ c.acts a).role))) := by
  refine pure_of gpu func35 rfl results35 ntmps35 (by simp) ⟨pu_conD _, pu_staD _, .v _, trivial⟩ ?_
  intro b
  simp only [go_sem, ↓reduceIte, decide_eq_true_eq, reduceCtorEq, Nat.reduceEqDiff, Nat.reduceLT, Nat.reduceLeDiff, Nat.reduceAdd, Nat.reduceSub, Nat.reduceMul, Nat.reduceGT, Int.reduceNeg, Int.reduceToNat, and_true, true_and, and_false, false_and, List.getElem?_toArray, List.getElem?_cons_zero, List.getElem?_cons_succ, List.cons_append, List.nil_append, if_true, if_false, Option.getD_some, Option.isSome_some, Bool.false_eq_true, List.append_nil, List.drop_zero, List.drop_succ_cons, Bool.cond_false_right, Bool.cond_false_left, Bool.cond_true_left, Bool.cond_true_right, ite_self, Bool.not_true, Bool.not_false, cond_true, cond_false, List.size_toArray, implies_true, true_implies, false_implies, List.all_cons, List.all_nil, List.nodup_cons, List.nodup_nil, List.mem_cons, List.not_mem_nil, or_false, false_or, not_false_eq_true, decide_true, Bool.and_true, Bool.and_self]
  refine ⟨h1, ?_⟩
  repeat' (first | (with_reducible refine And.intro ?_ ?_) | ((with_reducible refine ite_cases ?_ ?_) <;> intro _))
  · exact (h2 (bne_iff_ne.1 ‹_›)).1
  · exact (h2 (bne_iff_ne.1 ‹_›)).2
  · first | (simp [bne_iff_ne, *]; done) | (simp [bne_iff_ne, *]; omega) | (simp_all [bne_iff_ne]; done) | (simp_all [bne_iff_ne]; omega)
  · first | (simp [bne_iff_ne, *]; done) | (simp [bne_iff_ne, *]; omega) | (simp_all [bne_iff_ne]; done) | (simp_all [bne_iff_ne]; omega)
end Tryd
end Go.Proofs
end
