/-
  For every contract, state and step SystemNoReturn returns true, and the arguments read as they did. No condition.
-/
import Derived.Test.YtamkehdhddfeaaaDoorBh
set_option linter.unusedSimpArgs false
set_option linter.unusedVariables false
section
namespace Go.Proofs
open Go Go.Abs
set_option linter.unusedSimpArgs false
set_option linter.unusedVariables false
set_option maxRecDepth 10000
namespace Tryd
/-- Two marks in variables. -/
structure TwoM (e : Env) (a b : Es.Mark) (fa fb : Nat) (e1 : Env) (s1 : S) : Prop where
  ne : fa ≠ fb
  e4 : e1 4 = e 4
  e7 : e1 7 = e 7
  e8 : e1 8 = e 8
  e10 : e1 10 = e 10
  e11 : e1 11 = .mp fa 0 5 0 0
  e12 : e1 12 = .mp fb 0 5 0 0
  a : s1.o fa 0 = some (.blk 5 1 42 (rowOf [.v (.int .i64 a.status), .v (.int .i64 a.left), .v (.int .i64 a.got), .v (.int .i64 a.bearer), .v (.bool a.paused)]))
  b : s1.o fb 0 = some (.blk 5 1 42 (rowOf [.v (.int .i64 b.status), .v (.int .i64 b.left), .v (.int .i64 b.got), .v (.int .i64 b.bearer), .v (.bool b.paused)]))
theorem sret_spec (c : Es.Contract) (s : Es.State) (k : Int) (hf : Es.Fits c) (hs : Es.SFits s) : APure M 4 [conD c, staD s, .v (.int .i64 k)] (.v (.bool true)) := by
  refine pure_of gpu func4 rfl results4 ntmps4 (by simp) ⟨pu_conD _, pu_staD _, .v _, trivial⟩ ?_
  intro b
  simp only [go_sem, ↓reduceIte, decide_eq_true_eq, reduceCtorEq, Nat.reduceEqDiff, Nat.reduceLT, Nat.reduceLeDiff, Nat.reduceAdd, Nat.reduceSub, Nat.reduceMul, Nat.reduceGT, Int.reduceNeg, Int.reduceToNat, and_true, true_and, and_false, false_and, List.getElem?_toArray, List.getElem?_cons_zero, List.getElem?_cons_succ, List.cons_append, List.nil_append, if_true, if_false, Option.getD_some, Option.isSome_some, Bool.false_eq_true, List.append_nil, List.drop_zero, List.drop_succ_cons, Bool.cond_false_right, Bool.cond_false_left, Bool.cond_true_left, Bool.cond_true_right, ite_self, Bool.not_true, Bool.not_false, cond_true, cond_false, List.size_toArray, implies_true, true_implies, false_implies, List.all_cons, List.all_nil, List.nodup_cons, List.nodup_nil, List.mem_cons, List.not_mem_nil, or_false, false_or, not_false_eq_true, decide_true, Bool.and_true, Bool.and_self]
  repeat' (first | ((with_reducible refine call_at M_P M_G (head_spec) ?_); simp only [go_sem, ↓reduceIte, decide_eq_true_eq, reduceCtorEq, Nat.reduceEqDiff, Nat.reduceLT, Nat.reduceLeDiff, Nat.reduceAdd, Nat.reduceSub, Nat.reduceMul, Nat.reduceGT, Int.reduceNeg, Int.reduceToNat, and_true, true_and, and_false, false_and, List.getElem?_toArray, List.getElem?_cons_zero, List.getElem?_cons_succ, List.cons_append, List.nil_append, if_true, if_false, Option.getD_some, Option.isSome_some, Bool.false_eq_true, List.append_nil, List.drop_zero, List.drop_succ_cons, Bool.cond_false_right, Bool.cond_false_left, Bool.cond_true_left, Bool.cond_true_right, ite_self, Bool.not_true, Bool.not_false, cond_true, cond_false, List.size_toArray, implies_true, true_implies, false_implies, List.all_cons, List.all_nil, List.nodup_cons, List.nodup_nil, List.mem_cons, List.not_mem_nil, or_false, false_or, not_false_eq_true, decide_true, Bool.and_true, Bool.and_self]) | ((with_reducible refine call_at M_P M_G (small_spec c 40 hf) ?_); simp only [go_sem, ↓reduceIte, decide_eq_true_eq, reduceCtorEq, Nat.reduceEqDiff, Nat.reduceLT, Nat.reduceLeDiff, Nat.reduceAdd, Nat.reduceSub, Nat.reduceMul, Nat.reduceGT, Int.reduceNeg, Int.reduceToNat, and_true, true_and, and_false, false_and, List.getElem?_toArray, List.getElem?_cons_zero, List.getElem?_cons_succ, List.cons_append, List.nil_append, if_true, if_false, Option.getD_some, Option.isSome_some, Bool.false_eq_true, List.append_nil, List.drop_zero, List.drop_succ_cons, Bool.cond_false_right, Bool.cond_false_left, Bool.cond_true_left, Bool.cond_true_right, ite_self, Bool.not_true, Bool.not_false, cond_true, cond_false, List.size_toArray, implies_true, true_implies, false_implies, List.all_cons, List.all_nil, List.nodup_cons, List.nodup_nil, List.mem_cons, List.not_mem_nil, or_false, false_or, not_false_eq_true, decide_true, Bool.and_true, Bool.and_self]) | ((with_reducible refine call_at M_P M_G (few_spec s) ?_); simp only [go_sem, ↓reduceIte, decide_eq_true_eq, reduceCtorEq, Nat.reduceEqDiff, Nat.reduceLT, Nat.reduceLeDiff, Nat.reduceAdd, Nat.reduceSub, Nat.reduceMul, Nat.reduceGT, Int.reduceNeg, Int.reduceToNat, and_true, true_and, and_false, false_and, List.getElem?_toArray, List.getElem?_cons_zero, List.getElem?_cons_succ, List.cons_append, List.nil_append, if_true, if_false, Option.getD_some, Option.isSome_some, Bool.false_eq_true, List.append_nil, List.drop_zero, List.drop_succ_cons, Bool.cond_false_right, Bool.cond_false_left, Bool.cond_true_left, Bool.cond_true_right, ite_self, Bool.not_true, Bool.not_false, cond_true, cond_false, List.size_toArray, implies_true, true_implies, false_implies, List.all_cons, List.all_nil, List.nodup_cons, List.nodup_nil, List.mem_cons, List.not_mem_nil, or_false, false_or, not_false_eq_true, decide_true, Bool.and_true, Bool.and_self]) | ((with_reducible refine call_at M_P M_G (step_spec c s k hf hs) ?_); simp only [go_sem, ↓reduceIte, decide_eq_true_eq, reduceCtorEq, Nat.reduceEqDiff, Nat.reduceLT, Nat.reduceLeDiff, Nat.reduceAdd, Nat.reduceSub, Nat.reduceMul, Nat.reduceGT, Int.reduceNeg, Int.reduceToNat, and_true, true_and, and_false, false_and, List.getElem?_toArray, List.getElem?_cons_zero, List.getElem?_cons_succ, List.cons_append, List.nil_append, if_true, if_false, Option.getD_some, Option.isSome_some, Bool.false_eq_true, List.append_nil, List.drop_zero, List.drop_succ_cons, Bool.cond_false_right, Bool.cond_false_left, Bool.cond_true_left, Bool.cond_true_right, ite_self, Bool.not_true, Bool.not_false, cond_true, cond_false, List.size_toArray, implies_true, true_implies, false_implies, List.all_cons, List.all_nil, List.nodup_cons, List.nodup_nil, List.mem_cons, List.not_mem_nil, or_false, false_or, not_false_eq_true, decide_true, Bool.and_true, Bool.and_self]) | (with_reducible refine And.intro ?_ ?_) | ((with_reducible refine ite_cases ?_ ?_) <;> intro _))
  all_goals
    first
      | trivial
      | (simp_all; done)
      | (have hr := Es.step_refused (c := c) (s := s) (k := k) (by simp_all); rw [hr]; rfl)
      | (exfalso
         have h0 : (Es.step c s k).2 = 0 := by simp_all
         have hL := Es.law_noReturn h0
         have hd := (Es.step_ok h0).pre.day
         have hd2 := (Es.valid2_ok (Es.step_ok h0).pre.con).small
         have hw : IntKind.i64.wrap (s.day + 1) = s.day + 1 := wrap_i64 _ (by omega) (by omega)
         simp_all [Es.len]; done)
      | skip
  all_goals
    have h0 : (Es.step c s k).2 = 0 := by simp_all
    obtain ⟨hl, hd, hL⟩ := Es.law_noReturn h0
    have hsm := hs.marks
    refine awp_count0 s.marks.length (fun e0 s0 k e st => (e 4 = e0 4 ∧ e 7 = e0 7 ∧ e 8 = e0 8) ∧ e 10 = .v (.int .i64 k) ∧ Grow s0 st) ⟨⟨rfl, rfl, rfl⟩, ?_, Grow.refl _⟩ ?_
    · simp only [go_sem, ↓reduceIte, decide_eq_true_eq, reduceCtorEq, Nat.reduceEqDiff, Nat.reduceLT, Nat.reduceLeDiff, Nat.reduceAdd, Nat.reduceSub, Nat.reduceMul, Nat.reduceGT, Int.reduceNeg, Int.reduceToNat, and_true, true_and, and_false, false_and, List.getElem?_toArray, List.getElem?_cons_zero, List.getElem?_cons_succ, List.cons_append, List.nil_append, if_true, if_false, Option.getD_some, Option.isSome_some, Bool.false_eq_true, List.append_nil, List.drop_zero, List.drop_succ_cons, Bool.cond_false_right, Bool.cond_false_left, Bool.cond_true_left, Bool.cond_true_right, ite_self, Bool.not_true, Bool.not_false, cond_true, cond_false, List.size_toArray, implies_true, true_implies, false_implies, List.all_cons, List.all_nil, List.nodup_cons, List.nodup_nil, List.mem_cons, List.not_mem_nil, or_false, false_or, not_false_eq_true, decide_true, Bool.and_true, Bool.and_self]; rfl
    rintro i e ⟨o, nx⟩ hi ⟨⟨a4, a7, a8⟩, a10, hg⟩
    simp only [go_sem, ↓reduceIte, decide_eq_true_eq, reduceCtorEq, Nat.reduceEqDiff, Nat.reduceLT, Nat.reduceLeDiff, Nat.reduceAdd, Nat.reduceSub, Nat.reduceMul, Nat.reduceGT, Int.reduceNeg, Int.reduceToNat, and_true, true_and, and_false, false_and, List.getElem?_toArray, List.getElem?_cons_zero, List.getElem?_cons_succ, List.cons_append, List.nil_append, if_true, if_false, Option.getD_some, Option.isSome_some, Bool.false_eq_true, List.append_nil, List.drop_zero, List.drop_succ_cons, Bool.cond_false_right, Bool.cond_false_left, Bool.cond_true_left, Bool.cond_true_right, ite_self, Bool.not_true, Bool.not_false, cond_true, cond_false, List.size_toArray, implies_true, true_implies, false_implies, List.all_cons, List.all_nil, List.nodup_cons, List.nodup_nil, List.mem_cons, List.not_mem_nil, or_false, false_or, not_false_eq_true, decide_true, Bool.and_true, Bool.and_self] at a4 a7 a8
    have g1 := hg.2 1 0 (by show (1:Nat) < 3; decide); have g2 := hg.2 2 0 (by show (2:Nat) < 3; decide); have hn : 3 ≤ nx := hg.1; have n1 : (1 = nx) = False := (by simp only [eq_iff_iff, iff_false]; omega); have n2 : (2 = nx) = False := (by simp only [eq_iff_iff, iff_false]; omega); simp only [go_sem, ↓reduceIte, decide_eq_true_eq, reduceCtorEq, Nat.reduceEqDiff, Nat.reduceLT, Nat.reduceLeDiff, Nat.reduceAdd, Nat.reduceSub, Nat.reduceMul, Nat.reduceGT, Int.reduceNeg, Int.reduceToNat, and_true, true_and, and_false, false_and, List.getElem?_toArray, List.getElem?_cons_zero, List.getElem?_cons_succ, List.cons_append, List.nil_append, if_true, if_false, Option.getD_some, Option.isSome_some, Bool.false_eq_true, List.append_nil, List.drop_zero, List.drop_succ_cons, Bool.cond_false_right, Bool.cond_false_left, Bool.cond_true_left, Bool.cond_true_right, ite_self, Bool.not_true, Bool.not_false, cond_true, cond_false, List.size_toArray, implies_true, true_implies, false_implies, List.all_cons, List.all_nil, List.nodup_cons, List.nodup_nil, List.mem_cons, List.not_mem_nil, or_false, false_or, not_false_eq_true, decide_true, Bool.and_true, Bool.and_self] at g1 g2
    simp only [go_sem, ↓reduceIte, decide_eq_true_eq, reduceCtorEq, Nat.reduceEqDiff, Nat.reduceLT, Nat.reduceLeDiff, Nat.reduceAdd, Nat.reduceSub, Nat.reduceMul, Nat.reduceGT, Int.reduceNeg, Int.reduceToNat, and_true, true_and, and_false, false_and, List.getElem?_toArray, List.getElem?_cons_zero, List.getElem?_cons_succ, List.cons_append, List.nil_append, if_true, if_false, Option.getD_some, Option.isSome_some, Bool.false_eq_true, List.append_nil, List.drop_zero, List.drop_succ_cons, Bool.cond_false_right, Bool.cond_false_left, Bool.cond_true_left, Bool.cond_true_right, ite_self, Bool.not_true, Bool.not_false, cond_true, cond_false, List.size_toArray, implies_true, true_implies, false_implies, List.all_cons, List.all_nil, List.nodup_cons, List.nodup_nil, List.mem_cons, List.not_mem_nil, or_false, false_or, not_false_eq_true, decide_true, Bool.and_true, Bool.and_self, a4, a7, a8, a10, g1, g2, n1, n2]
    refine ite_cases (fun hlt => ?_) (fun hlt => ?_)
    case refine_2 => trivial
    have hlt' : i < s.marks.length := Es.len_lt.1 hlt
    have hlt2 : (i : Int) < Es.len (Es.step c s k).1.marks := by simp only [Es.len]; omega
    obtain ⟨L1, L2, L3⟩ := hL i hlt'
    refine awp_wf fun hw => ?_
    simp only at hw
    refine AWp.mono (Q := fun x e1 s1 => x = .normal ∧ ∃ fa fb, TwoM e (Es.at_ s.marks (i : Int)) (Es.at_ (Es.step c s k).1.marks (i : Int)) fa fb e1 s1 ∧ Grow ⟨o, nx⟩ s1) ?_ ?_
    · refine awp_plan ((.op 0 (.op 1 (.op 2 (.op 3 (.op 4 (.op 5 (.op 7 (.alt 6 (.op 8 (.alt 9 (.alt 10 (.op 11 (.op 12 (.op 13 .done))) (.alt 11 (.op 10 (.op 12 (.op 13 .done))) .dead)) (.alt 10 (.alt 9 (.op 11 (.op 12 (.op 13 .done))) (.alt 11 (.alt 9 (.op 12 (.op 13 .done)) (.alt 12 (.op 9 (.op 13 .done)) .dead)) .dead)) (.alt 11 (.alt 9 (.op 10 (.op 12 (.op 13 .done))) (.alt 10 (.alt 9 (.op 12 (.op 13 .done)) (.alt 12 (.op 9 (.op 13 .done)) .dead)) .dead)) .dead)))) (.alt 10 (.alt 6 (.op 8 (.alt 9 (.op 11 (.op 12 (.op 13 .done))) (.alt 11 (.alt 9 (.op 12 (.op 13 .done)) (.alt 12 (.op 9 (.op 13 .done)) .dead)) .dead))) (.alt 11 (.alt 6 (.op 8 (.alt 9 (.op 12 (.op 13 .done)) (.alt 12 (.op 9 (.op 13 .done)) .dead))) (.alt 12 (.op 6 (.op 8 (.op 9 (.op 13 .done)))) .dead)) .dead)) (.alt 11 (.alt 6 (.op 8 (.alt 9 (.op 10 (.op 12 (.op 13 .done))) (.alt 10 (.alt 9 (.op 12 (.op 13 .done)) (.alt 12 (.op 9 (.op 13 .done)) .dead)) .dead))) (.alt 10 (.alt 6 (.op 8 (.alt 9 (.op 12 (.op 13 .done)) (.alt 12 (.op 9 (.op 13 .done)) .dead))) (.alt 12 (.op 6 (.op 8 (.op 9 (.op 13 .done)))) .dead)) .dead)) .dead))))))))))) [12, 13] mix (by kernel_rfl) ?_
      have e0 : ∀ {a b : Nat}, a ≠ b → (a = b) = False := fun h => by simp [h]
      have m1 : (nx = nx + 1) = False := e0 (by omega); have m2 : (nx = 1) = False := e0 (by omega); have m3 : (nx = 2) = False := e0 (by omega); have m4 : (nx + 1 = nx) = False := e0 (by omega); have m5 : (nx + 1 = 1) = False := e0 (by omega); have m6 : (nx + 1 = 2) = False := e0 (by omega); have m7 : (1 = nx) = False := e0 (by omega); have m8 : (1 = nx + 1) = False := e0 (by omega); have m9 : (1 = 2) = False := e0 (by omega); have m10 : (2 = nx) = False := e0 (by omega); have m11 : (2 = nx + 1) = False := e0 (by omega); have m12 : (2 = 1) = False := e0 (by omega)
      simp only [go_sem, ↓reduceIte, decide_eq_true_eq, reduceCtorEq, Nat.reduceEqDiff, Nat.reduceLT, Nat.reduceLeDiff, Nat.reduceAdd, Nat.reduceSub, Nat.reduceMul, Nat.reduceGT, Int.reduceNeg, Int.reduceToNat, and_true, true_and, and_false, false_and, List.getElem?_toArray, List.getElem?_cons_zero, List.getElem?_cons_succ, List.cons_append, List.nil_append, if_true, if_false, Option.getD_some, Option.isSome_some, Bool.false_eq_true, List.append_nil, List.drop_zero, List.drop_succ_cons, Bool.cond_false_right, Bool.cond_false_left, Bool.cond_true_left, Bool.cond_true_right, ite_self, Bool.not_true, Bool.not_false, cond_true, cond_false, List.size_toArray, implies_true, true_implies, false_implies, List.all_cons, List.all_nil, List.nodup_cons, List.nodup_nil, List.mem_cons, List.not_mem_nil, or_false, false_or, not_false_eq_true, decide_true, Bool.and_true, Bool.and_self, a4, a7, a8, a10, g1, g2, n1, n2, m1, m2, m3, m4, m5, m6, m7, m8, m9, m10, m11, m12]
      repeat' (first | (with_reducible refine And.intro ?_ ?_) | ((with_reducible refine ite_cases ?_ ?_) <;> intro _))
      all_goals first
        | omega
        | exact hlt
        | exact hlt2
        | exact keeps_set (hw _ _ (by omega))
        | exact keeps_set (by rw [set_ne (by omega)]; exact hw _ _ (by omega))
        | (refine ⟨_, _, ⟨?_, rfl, rfl, rfl, rfl, rfl, rfl, ?_, ?_⟩, ?_⟩
           · omega
           · dsimp only; (repeat (first | rw [set_eq] | rw [set_ne (by omega)]))
           · dsimp only; (repeat (first | rw [set_eq] | rw [set_ne (by omega)]))
           · refine Grow.to (by show nx ≤ _; omega) ?_
             show SameB nx o _
             (repeat (refine SameB.set ?_ (by omega) _ _)); exact SameB.refl _ _)
    · rintro x e1 ⟨o1, n1⟩ ⟨rfl, fa, fb, ⟨q0, k4, k7, k8, k10, k11, k12, ka, kb⟩, hg2⟩
      rw [a4] at k4
      rw [a7] at k7
      rw [a8] at k8
      rw [a10] at k10
      simp only at ka kb
      have hn2 : nx ≤ n1 := hg2.1
      simp only [thenA, go_sem, ↓reduceIte, decide_eq_true_eq, reduceCtorEq, Nat.reduceEqDiff, Nat.reduceLT, Nat.reduceLeDiff, Nat.reduceAdd, Nat.reduceSub, Nat.reduceMul, Nat.reduceGT, Int.reduceNeg, Int.reduceToNat, and_true, true_and, and_false, false_and, List.getElem?_toArray, List.getElem?_cons_zero, List.getElem?_cons_succ, List.cons_append, List.nil_append, if_true, if_false, Option.getD_some, Option.isSome_some, Bool.false_eq_true, List.append_nil, List.drop_zero, List.drop_succ_cons, Bool.cond_false_right, Bool.cond_false_left, Bool.cond_true_left, Bool.cond_true_right, ite_self, Bool.not_true, Bool.not_false, cond_true, cond_false, List.size_toArray, implies_true, true_implies, false_implies, List.all_cons, List.all_nil, List.nodup_cons, List.nodup_nil, List.mem_cons, List.not_mem_nil, or_false, false_or, not_false_eq_true, decide_true, Bool.and_true, Bool.and_self, k4, k7, k8, k10, k11, k12, ka, kb]
      repeat' (first | ((with_reducible refine call_at M_P M_G (ended_spec _) ?_); simp only [go_sem, ↓reduceIte, decide_eq_true_eq, reduceCtorEq, Nat.reduceEqDiff, Nat.reduceLT, Nat.reduceLeDiff, Nat.reduceAdd, Nat.reduceSub, Nat.reduceMul, Nat.reduceGT, Int.reduceNeg, Int.reduceToNat, and_true, true_and, and_false, false_and, List.getElem?_toArray, List.getElem?_cons_zero, List.getElem?_cons_succ, List.cons_append, List.nil_append, if_true, if_false, Option.getD_some, Option.isSome_some, Bool.false_eq_true, List.append_nil, List.drop_zero, List.drop_succ_cons, Bool.cond_false_right, Bool.cond_false_left, Bool.cond_true_left, Bool.cond_true_right, ite_self, Bool.not_true, Bool.not_false, cond_true, cond_false, List.size_toArray, implies_true, true_implies, false_implies, List.all_cons, List.all_nil, List.nodup_cons, List.nodup_nil, List.mem_cons, List.not_mem_nil, or_false, false_or, not_false_eq_true, decide_true, Bool.and_true, Bool.and_self, k4, k7, k8, k10, k11, k12, ka, kb]) | (with_reducible refine And.intro ?_ ?_) | ((with_reducible refine ite_cases ?_ ?_) <;> intro _))
      all_goals first
        | (exfalso
           clear hg hg2 hw k4 k7 k8 k10 k11 k12 ka kb a4 a7 a8 a10 hL hi g1 g2 n1 n2 hn2
           simp_all; done)
        | (refine ⟨hlt', ?_⟩
           simp only [go_sem, ↓reduceIte, decide_eq_true_eq, reduceCtorEq, Nat.reduceEqDiff, Nat.reduceLT, Nat.reduceLeDiff, Nat.reduceAdd, Nat.reduceSub, Nat.reduceMul, Nat.reduceGT, Int.reduceNeg, Int.reduceToNat, and_true, true_and, and_false, false_and, List.getElem?_toArray, List.getElem?_cons_zero, List.getElem?_cons_succ, List.cons_append, List.nil_append, if_true, if_false, Option.getD_some, Option.isSome_some, Bool.false_eq_true, List.append_nil, List.drop_zero, List.drop_succ_cons, Bool.cond_false_right, Bool.cond_false_left, Bool.cond_true_left, Bool.cond_true_right, ite_self, Bool.not_true, Bool.not_false, cond_true, cond_false, List.size_toArray, implies_true, true_implies, false_implies, List.all_cons, List.all_nil, List.nodup_cons, List.nodup_nil, List.mem_cons, List.not_mem_nil, or_false, false_or, not_false_eq_true, decide_true, Bool.and_true, Bool.and_self, k4, k7, k8, k10, k11, k12]
           exact ⟨by rw [wrap_i64 _ (by omega) (by omega)]; simp, Nat.le_trans hg.1 hg2.1, fun f i hf => (hg2.2 f i (Nat.lt_of_lt_of_le hf hg.1)).trans (hg.2 f i hf)⟩)
end Tryd
end Go.Proofs
end
section
/-
  For every contract, state and step SystemNoReturn returns true, and the arguments read as they did. No condition.
-/
namespace Go.Proofs.YtamkehdhddfeaaaDoor
open Go Go.Abs Go.ChangeShapes Go.WideShapes Go.ChangeAt Go.RowKit
set_option linter.unusedVariables false
namespace lawSystemNoReturn
set_option maxRecDepth 100000 in
theorem lifted (os : Os) (started : os.Started) (H : Type) (enc : TypeId × Value → H) :
    ReturnsInHanded {} Tryd.checked os 4 .any (fun w args => (Rows.systemNoReturnSpec.pre enc Tryd.prog Tryd.f4 [] false w args ∧ laidMetH Tryd.prog Tryd.laidL w) ∧ sizedMet enc Tryd.prog Tryd.f4 (OpenSpec.ofChange Rows.systemNoReturnSpec) false w args)
      (Rows.systemNoReturnSpec.post enc Tryd.prog Tryd.f4 false true false false) := by
  refine returnsInHanded_of_change_and (C := Tryd.checked) (X := fun w _ => laidMetH Tryd.prog Tryd.laidL w) (fun _ _ _ hh h => h.of_heap hh) Tryd.own started (by kernel_rfl) Tryd.func4
    (ChangeSpec.witness_shaped (enc := enc) (C := Tryd.checked) (os := os) (X := fun w _ => laidMetH Tryd.prog Tryd.laidL w) false (World.doorLaid Tryd.prog 400 os) #[.agg #[.int .i64 0, .slice none 0 0, .slice none 0 0, .slice none 0 0, .slice none 0 0, .int .i64 0, .slice none 0 0], .agg #[.int .i64 0, .slice none 0 0, .slice none 0 0, .slice none 0 0], .int .i64 0] 8 rfl (World.shaped_of_RefB (by kernel_rfl) (by kernel_rfl)) (by kernel_rfl) (by kernel_rfl) (by kernel_rfl) (Tryd.door_met os _)) ?_
  intro W base args ds gs before hval0 hW _ _ hL _
  have hval : ∀ (j : Nat) t v, Tryd.f4.params[j]? = some t → args[j]? = some v → Value.okWide Tryd.prog W .any base t v := hval0
  have hW' := hW
  obtain ⟨p, q, hA0, hV, rfl, hfz, hnd⟩ := hW
  have hA : DataW.TrodAll enc Tryd.prog W 0 (fun _ => true) true Tryd.f4.params.toList args.toList ds p := hA0
  rw [Tryd.params4] at hA hval
  have hstay := hA
  obtain ⟨rfl, rfl⟩ := trodVars_none hV
  simp only [List.append_nil] at hW'
  obtain ⟨v0, vs0, d0, ds0, p0, q0, e0, rfl, rfl, h0, t0⟩ := trodAll_cons hA
  obtain ⟨v1, vs1, d1, ds1, p1, q1, e1, rfl, rfl, h1, t1⟩ := trodAll_cons t0
  obtain ⟨v2, vs2, d2, ds2, p2, q2, e2, rfl, rfl, h2, t2⟩ := trodAll_cons t1
  obtain ⟨z1, rfl, rfl⟩ := trodAll_nil t2
  subst z1
  subst e2
  subst e1
  obtain rfl : args = #[v0, v1, v2] := by apply Array.ext'; simpa using e0
  obtain ⟨x0, g0, r0⟩ := Tryd.arg_contract (hval 0 27 v0 rfl rfl) h0
  obtain ⟨x1, g1, r1⟩ := Tryd.arg_state (hval 1 31 v1 rfl rfl) h1
  obtain ⟨x2, g2, r2⟩ := Tryd.arg_int (hval 2 3 v2 rfl rfl) h2
  refine (calls_of_apure (vals := [v0, v1, v2]) (Tryd.sret_spec x0 x1 x2 g0 g1) rfl (fun i d hi => ?_) (Tryd.glob_ok hL)).mono ?_
  · rcases i with _ | _ | _ | i <;> first | (simp at hi; subst hi; assumption) | (simp at hi)
  · rintro e W' ⟨c', v, rfl, rfl, hb, hr⟩
    cases hr
    have hlt := hW'.lt
    refine ⟨_, rfl, ⟨_, _, _, [], _, [], hW', trodAll_mk1 (shut_bool Tryd.underlying4 _), args_stay Tryd.rowLaidOut hb ?_ hA0 ?_ ?_, rfl, hb.frame _, fun h => by cases h⟩⟩
    · rw [Tryd.params4]; intro t ht
      have hall : ([27, 31, 3].all fun t => Tryd.prog.readableRec t && decide (t < Tryd.prog.types.size)) = true := by kernel_rfl
      have := List.all_eq_true.1 hall t (by simpa using ht)
      simpa using this
    · intro x hx; exact by simpa using hlt x (by simpa using hx)
    · intro x hx; simpa using hlt x (by simpa using hx)
theorem row_holds : Rows.SystemNoReturnSaid :=
  OpenClaim.holds_of_wide 4 Tryd.f4 rfl rfl rfl rfl rfl rfl rfl ⟨rfl, rfl, rfl, rfl, rfl⟩ rfl rfl rfl rfl rfl (by kernel_rfl) Tryd.func4 (by kernel_rfl)
    (of_decide_eq_true (by kernel_rfl)) (by unfold Func.isWrapper; first | (rw [if_pos (by decide +kernel)]; kernel_rfl) | (rw [if_neg (by decide +kernel)]; exact ⟨rfl, rfl⟩))
    (fun os started H enc _ => lifted os started H enc)
theorem card_holds : Rows.SystemNoReturnCardSaid :=
  Claim7.holds_tied_plain_at .later [] [.data, .data] true Rows.systemNoReturnCard.stood.harness false
    row_holds (fun _ h => by cases h) (by kernel_rfl) (fun _ h => by cases h) systemNoReturn_row_tie rfl ⟨rfl, rfl⟩ (by kernel_rfl) rfl
    (fun f fn hf hfn => by
      obtain rfl : f = 4 := Option.some.inj ((show Tryd.prog.funcNamed Rows.systemNoReturnRow.func = some 4 by kernel_rfl).symm.trans hf) |>.symm
      obtain rfl : fn = Tryd.f4 := (Option.some.inj (Tryd.func4.symm.trans hfn)).symm
      exact ⟨by kernel_rfl, fun j t ht => by
        rw [Tryd.params4] at ht
        have hm : t ∈ [27, 31, 3] := by simpa using Array.mem_of_getElem? ht
        have hall : ([27, 31, 3].all fun u => !Tryd.prog.wantsStandIn u) = true := by kernel_rfl
        exact (show Tryd.prog.wantsStandIn t = false by simpa using List.all_eq_true.1 hall t hm)⟩)
    (by kernel_rfl)
end lawSystemNoReturn
#print axioms lawSystemNoReturn.card_holds
end Go.Proofs.YtamkehdhddfeaaaDoor
end
