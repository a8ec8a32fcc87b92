/-
  For every contract, state and step SystemStarts returns true, and the arguments read as they did. No condition.
-/
import Derived.Test.YtamkehdhddfeaaaDoorBh
set_option linter.unusedSimpArgs false
set_option linter.unusedVariables false
section
namespace Go.Proofs
open Go Go.Abs
set_option linter.unusedSimpArgs false
set_option linter.unusedVariables false
set_option maxRecDepth 10000
namespace Tryd
theorem sstarts_spec (c : Es.Contract) (s : Es.State) (k : Int) (hf : Es.Fits c) (hs : Es.SFits s) : APure M 5 [conD c, staD s, .v (.int .i64 k)] (.v (.bool true)) := by
  refine pure_of gpu func5 rfl results5 ntmps5 (by simp) ⟨pu_conD _, pu_staD _, .v _, trivial⟩ ?_
  intro b
  simp only [go_sem, ↓reduceIte, decide_eq_true_eq, reduceCtorEq, Nat.reduceEqDiff, Nat.reduceLT, Nat.reduceLeDiff, Nat.reduceAdd, Nat.reduceSub, Nat.reduceMul, Nat.reduceGT, Int.reduceNeg, Int.reduceToNat, and_true, true_and, and_false, false_and, List.getElem?_toArray, List.getElem?_cons_zero, List.getElem?_cons_succ, List.cons_append, List.nil_append, if_true, if_false, Option.getD_some, Option.isSome_some, Bool.false_eq_true, List.append_nil, List.drop_zero, List.drop_succ_cons, Bool.cond_false_right, Bool.cond_false_left, Bool.cond_true_left, Bool.cond_true_right, ite_self, Bool.not_true, Bool.not_false, cond_true, cond_false, List.size_toArray, implies_true, true_implies, false_implies, List.all_cons, List.all_nil, List.nodup_cons, List.nodup_nil, List.mem_cons, List.not_mem_nil, or_false, false_or, not_false_eq_true, decide_true, Bool.and_true, Bool.and_self]
  repeat' (first | ((with_reducible refine call_at M_P M_G (head_spec) ?_); simp only [go_sem, ↓reduceIte, decide_eq_true_eq, reduceCtorEq, Nat.reduceEqDiff, Nat.reduceLT, Nat.reduceLeDiff, Nat.reduceAdd, Nat.reduceSub, Nat.reduceMul, Nat.reduceGT, Int.reduceNeg, Int.reduceToNat, and_true, true_and, and_false, false_and, List.getElem?_toArray, List.getElem?_cons_zero, List.getElem?_cons_succ, List.cons_append, List.nil_append, if_true, if_false, Option.getD_some, Option.isSome_some, Bool.false_eq_true, List.append_nil, List.drop_zero, List.drop_succ_cons, Bool.cond_false_right, Bool.cond_false_left, Bool.cond_true_left, Bool.cond_true_right, ite_self, Bool.not_true, Bool.not_false, cond_true, cond_false, List.size_toArray, implies_true, true_implies, false_implies, List.all_cons, List.all_nil, List.nodup_cons, List.nodup_nil, List.mem_cons, List.not_mem_nil, or_false, false_or, not_false_eq_true, decide_true, Bool.and_true, Bool.and_self]) | ((with_reducible refine call_at M_P M_G (small_spec c 40 hf) ?_); simp only [go_sem, ↓reduceIte, decide_eq_true_eq, reduceCtorEq, Nat.reduceEqDiff, Nat.reduceLT, Nat.reduceLeDiff, Nat.reduceAdd, Nat.reduceSub, Nat.reduceMul, Nat.reduceGT, Int.reduceNeg, Int.reduceToNat, and_true, true_and, and_false, false_and, List.getElem?_toArray, List.getElem?_cons_zero, List.getElem?_cons_succ, List.cons_append, List.nil_append, if_true, if_false, Option.getD_some, Option.isSome_some, Bool.false_eq_true, List.append_nil, List.drop_zero, List.drop_succ_cons, Bool.cond_false_right, Bool.cond_false_left, Bool.cond_true_left, Bool.cond_true_right, ite_self, Bool.not_true, Bool.not_false, cond_true, cond_false, List.size_toArray, implies_true, true_implies, false_implies, List.all_cons, List.all_nil, List.nodup_cons, List.nodup_nil, List.mem_cons, List.not_mem_nil, or_false, false_or, not_false_eq_true, decide_true, Bool.and_true, Bool.and_self]) | ((with_reducible refine call_at M_P M_G (few_spec s) ?_); simp only [go_sem, ↓reduceIte, decide_eq_true_eq, reduceCtorEq, Nat.reduceEqDiff, Nat.reduceLT, Nat.reduceLeDiff, Nat.reduceAdd, Nat.reduceSub, Nat.reduceMul, Nat.reduceGT, Int.reduceNeg, Int.reduceToNat, and_true, true_and, and_false, false_and, List.getElem?_toArray, List.getElem?_cons_zero, List.getElem?_cons_succ, List.cons_append, List.nil_append, if_true, if_false, Option.getD_some, Option.isSome_some, Bool.false_eq_true, List.append_nil, List.drop_zero, List.drop_succ_cons, Bool.cond_false_right, Bool.cond_false_left, Bool.cond_true_left, Bool.cond_true_right, ite_self, Bool.not_true, Bool.not_false, cond_true, cond_false, List.size_toArray, implies_true, true_implies, false_implies, List.all_cons, List.all_nil, List.nodup_cons, List.nodup_nil, List.mem_cons, List.not_mem_nil, or_false, false_or, not_false_eq_true, decide_true, Bool.and_true, Bool.and_self]) | ((with_reducible refine call_at M_P M_G (step_spec c s k hf hs) ?_); simp only [go_sem, ↓reduceIte, decide_eq_true_eq, reduceCtorEq, Nat.reduceEqDiff, Nat.reduceLT, Nat.reduceLeDiff, Nat.reduceAdd, Nat.reduceSub, Nat.reduceMul, Nat.reduceGT, Int.reduceNeg, Int.reduceToNat, and_true, true_and, and_false, false_and, List.getElem?_toArray, List.getElem?_cons_zero, List.getElem?_cons_succ, List.cons_append, List.nil_append, if_true, if_false, Option.getD_some, Option.isSome_some, Bool.false_eq_true, List.append_nil, List.drop_zero, List.drop_succ_cons, Bool.cond_false_right, Bool.cond_false_left, Bool.cond_true_left, Bool.cond_true_right, ite_self, Bool.not_true, Bool.not_false, cond_true, cond_false, List.size_toArray, implies_true, true_implies, false_implies, List.all_cons, List.all_nil, List.nodup_cons, List.nodup_nil, List.mem_cons, List.not_mem_nil, or_false, false_or, not_false_eq_true, decide_true, Bool.and_true, Bool.and_self]) | ((with_reducible refine call_at M_P M_G (lfits_spec c s _) ?_); simp only [go_sem, ↓reduceIte, decide_eq_true_eq, reduceCtorEq, Nat.reduceEqDiff, Nat.reduceLT, Nat.reduceLeDiff, Nat.reduceAdd, Nat.reduceSub, Nat.reduceMul, Nat.reduceGT, Int.reduceNeg, Int.reduceToNat, and_true, true_and, and_false, false_and, List.getElem?_toArray, List.getElem?_cons_zero, List.getElem?_cons_succ, List.cons_append, List.nil_append, if_true, if_false, Option.getD_some, Option.isSome_some, Bool.false_eq_true, List.append_nil, List.drop_zero, List.drop_succ_cons, Bool.cond_false_right, Bool.cond_false_left, Bool.cond_true_left, Bool.cond_true_right, ite_self, Bool.not_true, Bool.not_false, cond_true, cond_false, List.size_toArray, implies_true, true_implies, false_implies, List.all_cons, List.all_nil, List.nodup_cons, List.nodup_nil, List.mem_cons, List.not_mem_nil, or_false, false_or, not_false_eq_true, decide_true, Bool.and_true, Bool.and_self]) | (with_reducible refine And.intro ?_ ?_) | ((with_reducible refine ite_cases ?_ ?_) <;> intro _))
  all_goals
    first
      | trivial
      | (simp_all; done)
      | (have h0 : (Es.step c s k).2 = 0 := by simp_all
         have hL := Es.law_fits h0
         simp_all; done)
      | skip
  have h0 : (Es.step c s k).2 = 0 := by simp_all
  have hL := fun i hi h1 h2 => Es.law_starts h0 (i := i) hi h1 h2
  have hS := Es.step_ok h0
  have hl1 := hS.len
  have hl2 := hS.pre.ml
  have hV := Es.valid2_ok hS.pre.con
  have hC2 := (Es.sValid_iff.1 hS.valid).1
  have hhl := hC2.hl
  have hsm := hs.marks
  have hst := fun (j : Nat) hj => Es.clauseOk_start (Es.valid2_clause (c := c) (by simpa using hS.pre.con) (j := j) hj)
  generalize (Es.step c s k).1 = t at *
  refine awp_count0 s.marks.length (fun e0 s0 k e st => (e 3 = e0 3 ∧ e 4 = e0 4 ∧ e 7 = e0 7 ∧ e 8 = e0 8) ∧ e 10 = .v (.int .i64 k) ∧ Grow s0 st) ⟨⟨rfl, rfl, rfl, rfl⟩, ?_, Grow.refl _⟩ ?_
  · simp only [go_sem, ↓reduceIte, decide_eq_true_eq, reduceCtorEq, Nat.reduceEqDiff, Nat.reduceLT, Nat.reduceLeDiff, Nat.reduceAdd, Nat.reduceSub, Nat.reduceMul, Nat.reduceGT, Int.reduceNeg, Int.reduceToNat, and_true, true_and, and_false, false_and, List.getElem?_toArray, List.getElem?_cons_zero, List.getElem?_cons_succ, List.cons_append, List.nil_append, if_true, if_false, Option.getD_some, Option.isSome_some, Bool.false_eq_true, List.append_nil, List.drop_zero, List.drop_succ_cons, Bool.cond_false_right, Bool.cond_false_left, Bool.cond_true_left, Bool.cond_true_right, ite_self, Bool.not_true, Bool.not_false, cond_true, cond_false, List.size_toArray, implies_true, true_implies, false_implies, List.all_cons, List.all_nil, List.nodup_cons, List.nodup_nil, List.mem_cons, List.not_mem_nil, or_false, false_or, not_false_eq_true, decide_true, Bool.and_true, Bool.and_self]; rfl
  rintro i e ⟨o, nx⟩ hi ⟨⟨a3, a4, a7, a8⟩, a10, hg⟩
  simp only [go_sem, ↓reduceIte, decide_eq_true_eq, reduceCtorEq, Nat.reduceEqDiff, Nat.reduceLT, Nat.reduceLeDiff, Nat.reduceAdd, Nat.reduceSub, Nat.reduceMul, Nat.reduceGT, Int.reduceNeg, Int.reduceToNat, and_true, true_and, and_false, false_and, List.getElem?_toArray, List.getElem?_cons_zero, List.getElem?_cons_succ, List.cons_append, List.nil_append, if_true, if_false, Option.getD_some, Option.isSome_some, Bool.false_eq_true, List.append_nil, List.drop_zero, List.drop_succ_cons, Bool.cond_false_right, Bool.cond_false_left, Bool.cond_true_left, Bool.cond_true_right, ite_self, Bool.not_true, Bool.not_false, cond_true, cond_false, List.size_toArray, implies_true, true_implies, false_implies, List.all_cons, List.all_nil, List.nodup_cons, List.nodup_nil, List.mem_cons, List.not_mem_nil, or_false, false_or, not_false_eq_true, decide_true, Bool.and_true, Bool.and_self] at a3 a4 a7 a8
  have g0 := hg.2 0 0 (by show (0:Nat) < 3; decide); have g1 := hg.2 1 0 (by show (1:Nat) < 3; decide); have g2 := hg.2 2 0 (by show (2:Nat) < 3; decide); have hn : 3 ≤ nx := hg.1; have n0 : (0 = nx) = False := (by simp only [eq_iff_iff, iff_false]; omega); have n1 : (1 = nx) = False := (by simp only [eq_iff_iff, iff_false]; omega); have n2 : (2 = nx) = False := (by simp only [eq_iff_iff, iff_false]; omega); simp only [go_sem, ↓reduceIte, decide_eq_true_eq, reduceCtorEq, Nat.reduceEqDiff, Nat.reduceLT, Nat.reduceLeDiff, Nat.reduceAdd, Nat.reduceSub, Nat.reduceMul, Nat.reduceGT, Int.reduceNeg, Int.reduceToNat, and_true, true_and, and_false, false_and, List.getElem?_toArray, List.getElem?_cons_zero, List.getElem?_cons_succ, List.cons_append, List.nil_append, if_true, if_false, Option.getD_some, Option.isSome_some, Bool.false_eq_true, List.append_nil, List.drop_zero, List.drop_succ_cons, Bool.cond_false_right, Bool.cond_false_left, Bool.cond_true_left, Bool.cond_true_right, ite_self, Bool.not_true, Bool.not_false, cond_true, cond_false, List.size_toArray, implies_true, true_implies, false_implies, List.all_cons, List.all_nil, List.nodup_cons, List.nodup_nil, List.mem_cons, List.not_mem_nil, or_false, false_or, not_false_eq_true, decide_true, Bool.and_true, Bool.and_self] at g0 g1 g2
  simp only [go_sem, ↓reduceIte, decide_eq_true_eq, reduceCtorEq, Nat.reduceEqDiff, Nat.reduceLT, Nat.reduceLeDiff, Nat.reduceAdd, Nat.reduceSub, Nat.reduceMul, Nat.reduceGT, Int.reduceNeg, Int.reduceToNat, and_true, true_and, and_false, false_and, List.getElem?_toArray, List.getElem?_cons_zero, List.getElem?_cons_succ, List.cons_append, List.nil_append, if_true, if_false, Option.getD_some, Option.isSome_some, Bool.false_eq_true, List.append_nil, List.drop_zero, List.drop_succ_cons, Bool.cond_false_right, Bool.cond_false_left, Bool.cond_true_left, Bool.cond_true_right, ite_self, Bool.not_true, Bool.not_false, cond_true, cond_false, List.size_toArray, implies_true, true_implies, false_implies, List.all_cons, List.all_nil, List.nodup_cons, List.nodup_nil, List.mem_cons, List.not_mem_nil, or_false, false_or, not_false_eq_true, decide_true, Bool.and_true, Bool.and_self, a3, a4, a7, a8, a10, g0, g1, g2, n0, n1, n2]
  refine ite_cases (fun hlt => ?_) (fun hlt => ?_)
  case refine_2 => trivial
  have hlt' : i < s.marks.length := Es.len_lt.1 hlt
  have hlt2 : (i : Int) < Es.len t.marks := by simp only [Es.len]; omega
  have hlt3 : (i : Int) < Es.len c.clauses := by simp only [Es.len]; omega
  have hli := hL i hlt'
  have hC := hV.clause i (by omega)
  obtain ⟨hs8, hsc⟩ := hst i (by omega)
  have hrole : ((Es.at_ c.clauses (i : Int)).kind != 4) = true → 0 ≤ (Es.at_ c.clauses (i : Int)).role ∧ (Es.at_ c.clauses (i : Int)).role < Es.len t.holders := fun h => by
    have := hC.role (by simpa using h)
    simp only [Es.len] at this ⊢
    omega
  repeat' (first | (with_reducible refine And.intro ?_ ?_) | ((with_reducible refine ite_cases ?_ ?_) <;> intro _))
  all_goals first
    | omega
    | exact hlt
    | exact hlt2
    | exact hlt3
    | (refine ⟨hlt', ?_⟩
       simp only [go_sem, ↓reduceIte, decide_eq_true_eq, reduceCtorEq, Nat.reduceEqDiff, Nat.reduceLT, Nat.reduceLeDiff, Nat.reduceAdd, Nat.reduceSub, Nat.reduceMul, Nat.reduceGT, Int.reduceNeg, Int.reduceToNat, and_true, true_and, and_false, false_and, List.getElem?_toArray, List.getElem?_cons_zero, List.getElem?_cons_succ, List.cons_append, List.nil_append, if_true, if_false, Option.getD_some, Option.isSome_some, Bool.false_eq_true, List.append_nil, List.drop_zero, List.drop_succ_cons, Bool.cond_false_right, Bool.cond_false_left, Bool.cond_true_left, Bool.cond_true_right, ite_self, Bool.not_true, Bool.not_false, cond_true, cond_false, List.size_toArray, implies_true, true_implies, false_implies, List.all_cons, List.all_nil, List.nodup_cons, List.nodup_nil, List.mem_cons, List.not_mem_nil, or_false, false_or, not_false_eq_true, decide_true, Bool.and_true, Bool.and_self, a3, a4, a7, a8, a10]
       exact ⟨by rw [wrap_i64 _ (by omega) (by omega)]; simp, hg⟩)
    | exact (hrole ‹_›).1
    | exact (hrole ‹_›).2
    | skip
  all_goals
    obtain ⟨hm, hh⟩ := hli (by simp_all) (by simp_all)
    have hcl : ∀ y ∈ (Es.at_ c.clauses (i : Int)).start, (0 ≤ y.clause ∧ y.clause < Es.len t.marks) ∧ 0 ≤ y.is ∧ y.is ≤ 1000 := fun y hy => by
      have := hsc y hy
      simp only [Es.condOk, Es.under, Es.within, Bool.and_eq_true, decide_eq_true_eq] at this
      simp only [Es.len] at this ⊢
      omega
    refine awp_plan ((.op 0 (.op 1 (.op 2 (.op 3 (.op 4 (.op 5 (.op 6 (.op 7 (.op 8 (.op 9 .done))))))))))) [] mix (by kernel_rfl) ?_
    simp only [go_sem, ↓reduceIte, decide_eq_true_eq, reduceCtorEq, Nat.reduceEqDiff, Nat.reduceLT, Nat.reduceLeDiff, Nat.reduceAdd, Nat.reduceSub, Nat.reduceMul, Nat.reduceGT, Int.reduceNeg, Int.reduceToNat, and_true, true_and, and_false, false_and, List.getElem?_toArray, List.getElem?_cons_zero, List.getElem?_cons_succ, List.cons_append, List.nil_append, if_true, if_false, Option.getD_some, Option.isSome_some, Bool.false_eq_true, List.append_nil, List.drop_zero, List.drop_succ_cons, Bool.cond_false_right, Bool.cond_false_left, Bool.cond_true_left, Bool.cond_true_right, ite_self, Bool.not_true, Bool.not_false, cond_true, cond_false, List.size_toArray, implies_true, true_implies, false_implies, List.all_cons, List.all_nil, List.nodup_cons, List.nodup_nil, List.mem_cons, List.not_mem_nil, or_false, false_or, not_false_eq_true, decide_true, Bool.and_true, Bool.and_self, a3, a4, a7, a8, a10, g0, g1, g2, n0, n1, n2]
    repeat' (first | (with_reducible refine And.intro ?_ ?_) | ((with_reducible refine ite_cases ?_ ?_) <;> intro _))
  all_goals first
    | omega
    | exact hlt
    | exact hlt2
    | (exfalso; clear a3 a4 a7 a8 a10 g0 g1 g2 n0 n1 n2 hg hL hst hn hh hli hsc hcl; simp_all; done)
    | skip
  all_goals
    refine awp_count0 (Es.at_ c.clauses (i : Int)).start.length (fun e0 s0 k e st => (e 3 = e0 3 ∧ e 4 = e0 4 ∧ e 7 = e0 7 ∧ e 8 = e0 8 ∧ e 10 = e0 10 ∧ e 11 = e0 11) ∧ e 13 = .v (.int .i64 k) ∧ st = s0) ⟨⟨rfl, rfl, rfl, rfl, rfl, rfl⟩, ?_, rfl⟩ ?_
    · simp only [go_sem, ↓reduceIte, decide_eq_true_eq, reduceCtorEq, Nat.reduceEqDiff, Nat.reduceLT, Nat.reduceLeDiff, Nat.reduceAdd, Nat.reduceSub, Nat.reduceMul, Nat.reduceGT, Int.reduceNeg, Int.reduceToNat, and_true, true_and, and_false, false_and, List.getElem?_toArray, List.getElem?_cons_zero, List.getElem?_cons_succ, List.cons_append, List.nil_append, if_true, if_false, Option.getD_some, Option.isSome_some, Bool.false_eq_true, List.append_nil, List.drop_zero, List.drop_succ_cons, Bool.cond_false_right, Bool.cond_false_left, Bool.cond_true_left, Bool.cond_true_right, ite_self, Bool.not_true, Bool.not_false, cond_true, cond_false, List.size_toArray, implies_true, true_implies, false_implies, List.all_cons, List.all_nil, List.nodup_cons, List.nodup_nil, List.mem_cons, List.not_mem_nil, or_false, false_or, not_false_eq_true, decide_true, Bool.and_true, Bool.and_self]; rfl
    rintro j e' st hj ⟨⟨b3, b4, b7, b8, b10, b11⟩, b13, rfl⟩
    simp only [go_sem, ↓reduceIte, decide_eq_true_eq, reduceCtorEq, Nat.reduceEqDiff, Nat.reduceLT, Nat.reduceLeDiff, Nat.reduceAdd, Nat.reduceSub, Nat.reduceMul, Nat.reduceGT, Int.reduceNeg, Int.reduceToNat, and_true, true_and, and_false, false_and, List.getElem?_toArray, List.getElem?_cons_zero, List.getElem?_cons_succ, List.cons_append, List.nil_append, if_true, if_false, Option.getD_some, Option.isSome_some, Bool.false_eq_true, List.append_nil, List.drop_zero, List.drop_succ_cons, Bool.cond_false_right, Bool.cond_false_left, Bool.cond_true_left, Bool.cond_true_right, ite_self, Bool.not_true, Bool.not_false, cond_true, cond_false, List.size_toArray, implies_true, true_implies, false_implies, List.all_cons, List.all_nil, List.nodup_cons, List.nodup_nil, List.mem_cons, List.not_mem_nil, or_false, false_or, not_false_eq_true, decide_true, Bool.and_true, Bool.and_self, a3, a4, a7, a8, a10] at b3 b4 b7 b8 b10 b11
    simp only [go_sem, ↓reduceIte, decide_eq_true_eq, reduceCtorEq, Nat.reduceEqDiff, Nat.reduceLT, Nat.reduceLeDiff, Nat.reduceAdd, Nat.reduceSub, Nat.reduceMul, Nat.reduceGT, Int.reduceNeg, Int.reduceToNat, and_true, true_and, and_false, false_and, List.getElem?_toArray, List.getElem?_cons_zero, List.getElem?_cons_succ, List.cons_append, List.nil_append, if_true, if_false, Option.getD_some, Option.isSome_some, Bool.false_eq_true, List.append_nil, List.drop_zero, List.drop_succ_cons, Bool.cond_false_right, Bool.cond_false_left, Bool.cond_true_left, Bool.cond_true_right, ite_self, Bool.not_true, Bool.not_false, cond_true, cond_false, List.size_toArray, implies_true, true_implies, false_implies, List.all_cons, List.all_nil, List.nodup_cons, List.nodup_nil, List.mem_cons, List.not_mem_nil, or_false, false_or, not_false_eq_true, decide_true, Bool.and_true, Bool.and_self, b3, b4, b7, b8, b10, b11, b13, g0, g1, g2, n0, n1, n2]
    refine ite_cases (fun hjl => ?_) (fun hjl => ?_)
    · have hjl' : j < (Es.at_ c.clauses (i : Int)).start.length := Es.len_lt.1 hjl
      have hx := hcl _ (Es.at_mem hjl')
      have hxh := hh _ (Es.at_mem hjl')
      refine awp_plan ((.op 0 (.op 1 (.op 2 (.op 3 (.op 4 (.op 5 (.op 6 (.op 7 (.op 8 .done)))))))))) [] mix (by kernel_rfl) ?_
      simp only [go_sem, ↓reduceIte, decide_eq_true_eq, reduceCtorEq, Nat.reduceEqDiff, Nat.reduceLT, Nat.reduceLeDiff, Nat.reduceAdd, Nat.reduceSub, Nat.reduceMul, Nat.reduceGT, Int.reduceNeg, Int.reduceToNat, and_true, true_and, and_false, false_and, List.getElem?_toArray, List.getElem?_cons_zero, List.getElem?_cons_succ, List.cons_append, List.nil_append, if_true, if_false, Option.getD_some, Option.isSome_some, Bool.false_eq_true, List.append_nil, List.drop_zero, List.drop_succ_cons, Bool.cond_false_right, Bool.cond_false_left, Bool.cond_true_left, Bool.cond_true_right, ite_self, Bool.not_true, Bool.not_false, cond_true, cond_false, List.size_toArray, implies_true, true_implies, false_implies, List.all_cons, List.all_nil, List.nodup_cons, List.nodup_nil, List.mem_cons, List.not_mem_nil, or_false, false_or, not_false_eq_true, decide_true, Bool.and_true, Bool.and_self, b3, b4, b7, b8, b10, b11, b13, g0, g1, g2, n0, n1, n2]
      repeat' (first | ((with_reducible refine call_at M_P M_G (holds_spec _ _ hx.1 hx.2) ?_); simp only [go_sem, ↓reduceIte, decide_eq_true_eq, reduceCtorEq, Nat.reduceEqDiff, Nat.reduceLT, Nat.reduceLeDiff, Nat.reduceAdd, Nat.reduceSub, Nat.reduceMul, Nat.reduceGT, Int.reduceNeg, Int.reduceToNat, and_true, true_and, and_false, false_and, List.getElem?_toArray, List.getElem?_cons_zero, List.getElem?_cons_succ, List.cons_append, List.nil_append, if_true, if_false, Option.getD_some, Option.isSome_some, Bool.false_eq_true, List.append_nil, List.drop_zero, List.drop_succ_cons, Bool.cond_false_right, Bool.cond_false_left, Bool.cond_true_left, Bool.cond_true_right, ite_self, Bool.not_true, Bool.not_false, cond_true, cond_false, List.size_toArray, implies_true, true_implies, false_implies, List.all_cons, List.all_nil, List.nodup_cons, List.nodup_nil, List.mem_cons, List.not_mem_nil, or_false, false_or, not_false_eq_true, decide_true, Bool.and_true, Bool.and_self, b3, b4, b7, b8, b10, b11, b13, g0, g1, g2, n0, n1, n2]) | (with_reducible refine And.intro ?_ ?_) | ((with_reducible refine ite_cases ?_ ?_) <;> intro _))
      all_goals first
        | omega
        | exact hjl
        | (exfalso; rename_i q; rw [hxh] at q; simp at q; done)
        | (refine ⟨hjl', ?_⟩
           simp only [go_sem, ↓reduceIte, decide_eq_true_eq, reduceCtorEq, Nat.reduceEqDiff, Nat.reduceLT, Nat.reduceLeDiff, Nat.reduceAdd, Nat.reduceSub, Nat.reduceMul, Nat.reduceGT, Int.reduceNeg, Int.reduceToNat, and_true, true_and, and_false, false_and, List.getElem?_toArray, List.getElem?_cons_zero, List.getElem?_cons_succ, List.cons_append, List.nil_append, if_true, if_false, Option.getD_some, Option.isSome_some, Bool.false_eq_true, List.append_nil, List.drop_zero, List.drop_succ_cons, Bool.cond_false_right, Bool.cond_false_left, Bool.cond_true_left, Bool.cond_true_right, ite_self, Bool.not_true, Bool.not_false, cond_true, cond_false, List.size_toArray, implies_true, true_implies, false_implies, List.all_cons, List.all_nil, List.nodup_cons, List.nodup_nil, List.mem_cons, List.not_mem_nil, or_false, false_or, not_false_eq_true, decide_true, Bool.and_true, Bool.and_self, b3, b4, b7, b8, b10, b11, b13, a3, a4, a7, a8, a10]
           rw [wrap_i64 _ (by omega) (by omega)]; simp; done)
    · refine ⟨hlt', ?_⟩
      simp only [go_sem, ↓reduceIte, decide_eq_true_eq, reduceCtorEq, Nat.reduceEqDiff, Nat.reduceLT, Nat.reduceLeDiff, Nat.reduceAdd, Nat.reduceSub, Nat.reduceMul, Nat.reduceGT, Int.reduceNeg, Int.reduceToNat, and_true, true_and, and_false, false_and, List.getElem?_toArray, List.getElem?_cons_zero, List.getElem?_cons_succ, List.cons_append, List.nil_append, if_true, if_false, Option.getD_some, Option.isSome_some, Bool.false_eq_true, List.append_nil, List.drop_zero, List.drop_succ_cons, Bool.cond_false_right, Bool.cond_false_left, Bool.cond_true_left, Bool.cond_true_right, ite_self, Bool.not_true, Bool.not_false, cond_true, cond_false, List.size_toArray, implies_true, true_implies, false_implies, List.all_cons, List.all_nil, List.nodup_cons, List.nodup_nil, List.mem_cons, List.not_mem_nil, or_false, false_or, not_false_eq_true, decide_true, Bool.and_true, Bool.and_self, b3, b4, b7, b8, b10, b11, b13]
      exact ⟨by rw [wrap_i64 _ (by omega) (by omega)]; simp, hg.set hn (by omega)⟩
end Tryd
end Go.Proofs
end
section
/-
  For every contract, state and step SystemStarts returns true, and the arguments read as they did. No condition.
-/
namespace Go.Proofs.YtamkehdhddfeaaaDoor
open Go Go.Abs Go.ChangeShapes Go.WideShapes Go.ChangeAt Go.RowKit
set_option linter.unusedVariables false
namespace lawSystemStarts
set_option maxRecDepth 100000 in
theorem lifted (os : Os) (started : os.Started) (H : Type) (enc : TypeId × Value → H) :
    ReturnsInHanded {} Tryd.checked os 5 .any (fun w args => (Rows.systemStartsSpec.pre enc Tryd.prog Tryd.f5 [] false w args ∧ laidMetH Tryd.prog Tryd.laidL w) ∧ sizedMet enc Tryd.prog Tryd.f5 (OpenSpec.ofChange Rows.systemStartsSpec) false w args)
      (Rows.systemStartsSpec.post enc Tryd.prog Tryd.f5 false true false false) := by
  refine returnsInHanded_of_change_and (C := Tryd.checked) (X := fun w _ => laidMetH Tryd.prog Tryd.laidL w) (fun _ _ _ hh h => h.of_heap hh) Tryd.own started (by kernel_rfl) Tryd.func5
    (ChangeSpec.witness_shaped (enc := enc) (C := Tryd.checked) (os := os) (X := fun w _ => laidMetH Tryd.prog Tryd.laidL w) false (World.doorLaid Tryd.prog 400 os) #[.agg #[.int .i64 0, .slice none 0 0, .slice none 0 0, .slice none 0 0, .slice none 0 0, .int .i64 0, .slice none 0 0], .agg #[.int .i64 0, .slice none 0 0, .slice none 0 0, .slice none 0 0], .int .i64 0] 8 rfl (World.shaped_of_RefB (by kernel_rfl) (by kernel_rfl)) (by kernel_rfl) (by kernel_rfl) (by kernel_rfl) (Tryd.door_met os _)) ?_
  intro W base args ds gs before hval0 hW _ _ hL _
  have hval : ∀ (j : Nat) t v, Tryd.f5.params[j]? = some t → args[j]? = some v → Value.okWide Tryd.prog W .any base t v := hval0
  have hW' := hW
  obtain ⟨p, q, hA0, hV, rfl, hfz, hnd⟩ := hW
  have hA : DataW.TrodAll enc Tryd.prog W 0 (fun _ => true) true Tryd.f5.params.toList args.toList ds p := hA0
  rw [Tryd.params5] at hA hval
  have hstay := hA
  obtain ⟨rfl, rfl⟩ := trodVars_none hV
  simp only [List.append_nil] at hW'
  obtain ⟨v0, vs0, d0, ds0, p0, q0, e0, rfl, rfl, h0, t0⟩ := trodAll_cons hA
  obtain ⟨v1, vs1, d1, ds1, p1, q1, e1, rfl, rfl, h1, t1⟩ := trodAll_cons t0
  obtain ⟨v2, vs2, d2, ds2, p2, q2, e2, rfl, rfl, h2, t2⟩ := trodAll_cons t1
  obtain ⟨z1, rfl, rfl⟩ := trodAll_nil t2
  subst z1
  subst e2
  subst e1
  obtain rfl : args = #[v0, v1, v2] := by apply Array.ext'; simpa using e0
  obtain ⟨x0, g0, r0⟩ := Tryd.arg_contract (hval 0 27 v0 rfl rfl) h0
  obtain ⟨x1, g1, r1⟩ := Tryd.arg_state (hval 1 31 v1 rfl rfl) h1
  obtain ⟨x2, g2, r2⟩ := Tryd.arg_int (hval 2 3 v2 rfl rfl) h2
  refine (calls_of_apure (vals := [v0, v1, v2]) (Tryd.sstarts_spec x0 x1 x2 g0 g1) rfl (fun i d hi => ?_) (Tryd.glob_ok hL)).mono ?_
  · rcases i with _ | _ | _ | i <;> first | (simp at hi; subst hi; assumption) | (simp at hi)
  · rintro e W' ⟨c', v, rfl, rfl, hb, hr⟩
    cases hr
    have hlt := hW'.lt
    refine ⟨_, rfl, ⟨_, _, _, [], _, [], hW', trodAll_mk1 (shut_bool Tryd.underlying4 _), args_stay Tryd.rowLaidOut hb ?_ hA0 ?_ ?_, rfl, hb.frame _, fun h => by cases h⟩⟩
    · rw [Tryd.params5]; intro t ht
      have hall : ([27, 31, 3].all fun t => Tryd.prog.readableRec t && decide (t < Tryd.prog.types.size)) = true := by kernel_rfl
      have := List.all_eq_true.1 hall t (by simpa using ht)
      simpa using this
    · intro x hx; exact by simpa using hlt x (by simpa using hx)
    · intro x hx; simpa using hlt x (by simpa using hx)
theorem row_holds : Rows.SystemStartsSaid :=
  OpenClaim.holds_of_wide 5 Tryd.f5 rfl rfl rfl rfl rfl rfl rfl ⟨rfl, rfl, rfl, rfl, rfl⟩ rfl rfl rfl rfl rfl (by kernel_rfl) Tryd.func5 (by kernel_rfl)
    (of_decide_eq_true (by kernel_rfl)) (by unfold Func.isWrapper; first | (rw [if_pos (by decide +kernel)]; kernel_rfl) | (rw [if_neg (by decide +kernel)]; exact ⟨rfl, rfl⟩))
    (fun os started H enc _ => lifted os started H enc)
theorem card_holds : Rows.SystemStartsCardSaid :=
  Claim7.holds_tied_plain_at .later [] [.data, .data] true Rows.systemStartsCard.stood.harness false
    row_holds (fun _ h => by cases h) (by kernel_rfl) (fun _ h => by cases h) systemStarts_row_tie rfl ⟨rfl, rfl⟩ (by kernel_rfl) rfl
    (fun f fn hf hfn => by
      obtain rfl : f = 5 := Option.some.inj ((show Tryd.prog.funcNamed Rows.systemStartsRow.func = some 5 by kernel_rfl).symm.trans hf) |>.symm
      obtain rfl : fn = Tryd.f5 := (Option.some.inj (Tryd.func5.symm.trans hfn)).symm
      exact ⟨by kernel_rfl, fun j t ht => by
        rw [Tryd.params5] at ht
        have hm : t ∈ [27, 31, 3] := by simpa using Array.mem_of_getElem? ht
        have hall : ([27, 31, 3].all fun u => !Tryd.prog.wantsStandIn u) = true := by kernel_rfl
        exact (show Tryd.prog.wantsStandIn t = false by simpa using List.all_eq_true.1 hall t hm)⟩)
    (by kernel_rfl)
end lawSystemStarts
#print axioms lawSystemStarts.card_holds
end Go.Proofs.YtamkehdhddfeaaaDoor
end
