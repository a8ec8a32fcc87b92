/-
  For every input MigrateKeeps returns true, and the arguments read as they did. No condition.
-/
import Derived.Test.YtfhmokhaegdddaaGreatDoorBj
set_option linter.unusedSimpArgs false
set_option linter.unusedVariables false
section
namespace Es
theorem migrate_zero {c : Contract} {p : Patch} {s : State} (h : (migrate c p s).2 = 0) : sValid c s = true ∧ (applyP c p).2 = 0 := by
  rcases law_mstates c p s with ⟨h1, h2⟩ | ⟨h1, h2, h3, h4⟩ | ⟨h1, h2, h3, h4, h5, h6, h7⟩
  · omega
  · omega
  · exact ⟨h1, h2⟩
end Es
namespace Go.Proofs
open Go Go.Abs
set_option linter.unusedSimpArgs false
set_option linter.unusedVariables false
set_option maxRecDepth 10000
namespace Tryz
theorem failures_spec (s : Es.State) (hs : Es.SFits s) : APure M 15 [staD s] (.v (.int .i64 (Es.failures s))) := by
  have hsm := hs.marks
  refine pure_of gpu func15 rfl results15 ntmps15 (by simp) ⟨pu_staD _, trivial⟩ ?_
  intro b
  simp only [go_sem, ↓reduceIte, reduceCtorEq, Nat.reduceEqDiff, Nat.reduceLT, Nat.reduceLeDiff, Nat.reduceAdd, Nat.reduceSub, Nat.reduceMul, Nat.reduceGT, Int.reduceNeg, Int.reduceToNat]
  refine awp_count0 s.marks.length (fun e0 s0 k e st => e 1 = e0 1 ∧ e 4 = .v (.int .i64 k) ∧ e 3 = .v (.int .i64 (Es.failK s.marks k)) ∧ st = s0) ⟨rfl, ?_, ?_, rfl⟩ ?_
  · simp only [go_sem, ↓reduceIte, reduceCtorEq, Nat.reduceEqDiff, Nat.reduceLT, Nat.reduceLeDiff, Nat.reduceAdd, Nat.reduceSub, Nat.reduceMul, Nat.reduceGT, Int.reduceNeg, Int.reduceToNat]; rfl
  · simp only [go_sem, ↓reduceIte, reduceCtorEq, Nat.reduceEqDiff, Nat.reduceLT, Nat.reduceLeDiff, Nat.reduceAdd, Nat.reduceSub, Nat.reduceMul, Nat.reduceGT, Int.reduceNeg, Int.reduceToNat]; rfl
  rintro k e st hk ⟨a1, a4, a3, rfl⟩
  simp only [go_sem, ↓reduceIte, reduceCtorEq, Nat.reduceEqDiff, Nat.reduceLT, Nat.reduceLeDiff, Nat.reduceAdd, Nat.reduceSub, Nat.reduceMul, Nat.reduceGT, Int.reduceNeg, Int.reduceToNat] at a1
  simp only [go_sem, ↓reduceIte, reduceCtorEq, Nat.reduceEqDiff, Nat.reduceLT, Nat.reduceLeDiff, Nat.reduceAdd, Nat.reduceSub, Nat.reduceMul, Nat.reduceGT, Int.reduceNeg, Int.reduceToNat, a1, a3, a4]
  have hb := Es.failK_le s.marks k
  refine ite_cases (fun hlt => ?_) (fun hlt => ?_)
  · have hlt' : k < s.marks.length := Es.len_lt.1 hlt
    have hw1 : IntKind.i64.wrap ((k : Int) + 1) = ((k + 1 : Nat) : Int) := by
      rw [wrap_i64 _ (by omega) (by omega)]; simp
    have hw2 : IntKind.i64.wrap (Es.failK s.marks k + 1) = Es.failK s.marks k + 1 := wrap_i64 _ (by omega) (by omega)
    refine ⟨⟨by omega, hlt⟩, ite_cases (fun h4 => ?_) (fun h4 => ?_)⟩
    · refine ⟨hlt', ?_⟩
      simp only [go_sem, ↓reduceIte, reduceCtorEq, Nat.reduceEqDiff, Nat.reduceLT, Nat.reduceLeDiff, Nat.reduceAdd, Nat.reduceSub, Nat.reduceMul, Nat.reduceGT, Int.reduceNeg, Int.reduceToNat, a1, a3, a4, hw1, hw2]
      rw [Es.failK, if_pos h4]
    · refine ⟨hlt', ?_⟩
      simp only [go_sem, ↓reduceIte, reduceCtorEq, Nat.reduceEqDiff, Nat.reduceLT, Nat.reduceLeDiff, Nat.reduceAdd, Nat.reduceSub, Nat.reduceMul, Nat.reduceGT, Int.reduceNeg, Int.reduceToNat, a1, a3, a4, hw1]
      rw [Es.failK, if_neg h4]; simp
  · have hkk : k = s.marks.length := by simp only [Es.len] at hlt; omega
    subst hkk
    rfl
theorem mfails_spec2 (c : Es.Contract) (p : Es.Patch) (s : Es.State) (hf : Es.Fits c) (hs : Es.SFits s) : APure M 4 [conD c, patD p, staD s] (.v (.bool true)) := by
  refine pure_of gpu func4 rfl results4 ntmps4 (by simp) ⟨pu_conD _, pu_patD _, pu_staD _, trivial⟩ ?_
  intro b
  simp only [go_sem, ↓reduceIte, reduceCtorEq, Nat.reduceEqDiff, Nat.reduceLT, Nat.reduceLeDiff, Nat.reduceAdd, Nat.reduceSub, Nat.reduceMul, Nat.reduceGT, Int.reduceNeg, Int.reduceToNat]
  repeat' (first | ((with_reducible refine call_at M_P M_G (head27_spec) ?_); simp only [go_sem, ↓reduceIte, reduceCtorEq, Nat.reduceEqDiff, Nat.reduceLT, Nat.reduceLeDiff, Nat.reduceAdd, Nat.reduceSub, Nat.reduceMul, Nat.reduceGT, Int.reduceNeg, Int.reduceToNat]) | ((with_reducible refine call_at M_P M_G (small_spec c 40 hf) ?_); simp only [go_sem, ↓reduceIte, reduceCtorEq, Nat.reduceEqDiff, Nat.reduceLT, Nat.reduceLeDiff, Nat.reduceAdd, Nat.reduceSub, Nat.reduceMul, Nat.reduceGT, Int.reduceNeg, Int.reduceToNat]) | ((with_reducible refine call_at M_P M_G (patSmall_spec p) ?_); simp only [go_sem, ↓reduceIte, reduceCtorEq, Nat.reduceEqDiff, Nat.reduceLT, Nat.reduceLeDiff, Nat.reduceAdd, Nat.reduceSub, Nat.reduceMul, Nat.reduceGT, Int.reduceNeg, Int.reduceToNat]) | ((with_reducible refine call_at M_P M_G (few_spec s) ?_); simp only [go_sem, ↓reduceIte, reduceCtorEq, Nat.reduceEqDiff, Nat.reduceLT, Nat.reduceLeDiff, Nat.reduceAdd, Nat.reduceSub, Nat.reduceMul, Nat.reduceGT, Int.reduceNeg, Int.reduceToNat]) | ((with_reducible refine call_at M_P M_G (migrate_spec c p s hf hs) ?_); simp only [go_sem, ↓reduceIte, reduceCtorEq, Nat.reduceEqDiff, Nat.reduceLT, Nat.reduceLeDiff, Nat.reduceAdd, Nat.reduceSub, Nat.reduceMul, Nat.reduceGT, Int.reduceNeg, Int.reduceToNat]) | (with_reducible refine And.intro ?_ ?_) | ((with_reducible refine ite_cases ?_ ?_) <;> intro _))
  all_goals first
    | trivial
    | skip
  all_goals
    have he : (Es.migrate c p s).2 = 0 := by simp_all
    obtain ⟨hv, ha⟩ := Es.migrate_zero he
    have hml := (Es.sValid_iff.1 hv).1.ml
    have hlen := Es.migrate_len hv ha
    first
      | (exfalso; simp_all [Es.len]; done)
      | (exfalso; simp only [Es.len, bne_iff_ne, ne_eq, beq_iff_eq, decide_eq_true_eq] at *; omega)
      | skip
  have hm1 := hs.marks
  refine awp_count0 s.marks.length (fun e0 s0 k e st => (e 3 = e0 3 ∧ e 4 = e0 4 ∧ e 5 = e0 5 ∧ e 7 = e0 7 ∧ e 8 = e0 8) ∧ e 10 = .v (.int .i64 k) ∧ st = s0) ⟨⟨rfl, rfl, rfl, rfl, rfl⟩, ?_, rfl⟩ ?_
  · simp only [go_sem, ↓reduceIte, reduceCtorEq, Nat.reduceEqDiff, Nat.reduceLT, Nat.reduceLeDiff, Nat.reduceAdd, Nat.reduceSub, Nat.reduceMul, Nat.reduceGT, Int.reduceNeg, Int.reduceToNat]; rfl
  rintro k e st hk ⟨⟨a3, a4, a5, a7, a8⟩, a10, rfl⟩
  simp only [go_sem, ↓reduceIte, reduceCtorEq, Nat.reduceEqDiff, Nat.reduceLT, Nat.reduceLeDiff, Nat.reduceAdd, Nat.reduceSub, Nat.reduceMul, Nat.reduceGT, Int.reduceNeg, Int.reduceToNat] at a3 a4 a5 a7 a8
  simp only [go_sem, ↓reduceIte, reduceCtorEq, Nat.reduceEqDiff, Nat.reduceLT, Nat.reduceLeDiff, Nat.reduceAdd, Nat.reduceSub, Nat.reduceMul, Nat.reduceGT, Int.reduceNeg, Int.reduceToNat, a3, a4, a5, a7, a8, a10]
  refine ite_cases (fun hlt => ?_) (fun hlt => ?_)
  · have hlt' : k < s.marks.length := Es.len_lt.1 hlt
    have hK := Es.law_kept hv ha hlt'
    have hw1 : IntKind.i64.wrap ((k : Int) + 1) = ((k + 1 : Nat) : Int) := by
      rw [wrap_i64 _ (by omega) (by omega)]; simp
    have hl2 : (k : Int) < Es.len (Es.migrate c p s).1.marks := by simp only [Es.len]; rw [hlen]; omega
    refine ⟨⟨by omega, hlt⟩, ?_⟩
    refine call_at M_P M_G (rruns_spec _) ?_
    simp only [go_sem, ↓reduceIte, reduceCtorEq, Nat.reduceEqDiff, Nat.reduceLT, Nat.reduceLeDiff, Nat.reduceAdd, Nat.reduceSub, Nat.reduceMul, Nat.reduceGT, Int.reduceNeg, Int.reduceToNat, a3, a4, a5, a7, a8, a10]
    refine ite_cases (fun hr => ?_) (fun hr => ?_)
    · refine ⟨⟨by omega, hl2⟩, ite_cases (fun h0 => ?_) (fun h0 => ?_)⟩
      · exfalso
        have := hK.idle (by have := Es.runs_iff.1 hr; simp only at this; omega)
        simp_all
      · refine ⟨hlt', ?_⟩
        simp only [go_sem, ↓reduceIte, reduceCtorEq, Nat.reduceEqDiff, Nat.reduceLT, Nat.reduceLeDiff, Nat.reduceAdd, Nat.reduceSub, Nat.reduceMul, Nat.reduceGT, Int.reduceNeg, Int.reduceToNat, a3, a4, a5, a7, a8, a10, hw1]
    · refine ⟨hlt', ?_⟩
      simp only [go_sem, ↓reduceIte, reduceCtorEq, Nat.reduceEqDiff, Nat.reduceLT, Nat.reduceLeDiff, Nat.reduceAdd, Nat.reduceSub, Nat.reduceMul, Nat.reduceGT, Int.reduceNeg, Int.reduceToNat, a3, a4, a5, a7, a8, a10, hw1]
  · refine awp_plan ((.op 0 (.op 1 (.op 2 (.op 4 (.op 3 (.op 5 (.op 6 (.op 7 (.op 8 .done)))))))))) [] mix (by kernel_rfl) ?_
    simp only [go_sem, ↓reduceIte, reduceCtorEq, Nat.reduceEqDiff, Nat.reduceLT, Nat.reduceLeDiff, Nat.reduceAdd, Nat.reduceSub, Nat.reduceMul, Nat.reduceGT, Int.reduceNeg, Int.reduceToNat, a3, a4, a5, a7, a8, a10]
    repeat' (first | ((with_reducible refine call_at M_P M_G (failures_spec s hs) ?_); simp only [go_sem, ↓reduceIte, reduceCtorEq, Nat.reduceEqDiff, Nat.reduceLT, Nat.reduceLeDiff, Nat.reduceAdd, Nat.reduceSub, Nat.reduceMul, Nat.reduceGT, Int.reduceNeg, Int.reduceToNat, a3, a4, a5, a7, a8, a10]) | ((with_reducible refine call_at M_P M_G (failures_spec (Es.migrate c p s).1 (sfits_migrate c p s)) ?_); simp only [go_sem, ↓reduceIte, reduceCtorEq, Nat.reduceEqDiff, Nat.reduceLT, Nat.reduceLeDiff, Nat.reduceAdd, Nat.reduceSub, Nat.reduceMul, Nat.reduceGT, Int.reduceNeg, Int.reduceToNat, a3, a4, a5, a7, a8, a10]) | (with_reducible refine And.intro ?_ ?_) | ((with_reducible refine ite_cases ?_ ?_) <;> intro _))
    rw [Es.law_fails hv ha]; simp
end Tryz
end Go.Proofs
end
section
namespace Go.Proofs
open Go Go.Abs
set_option linter.unusedSimpArgs false
set_option linter.unusedVariables false
set_option maxRecDepth 10000
namespace Tryz
theorem contains_snoc (l : List Int) (x k : Int) : (l ++ [x]).contains k = (l.contains k || (x == k)) := by
  rw [Bool.eq_iff_iff]
  simp only [List.contains_eq_mem, List.mem_append, List.mem_singleton, Bool.or_eq_true, decide_eq_true_eq, beq_iff_eq]
  constructor <;> rintro (h | h) <;> simp [h]
theorem grow_more {s0 : S} {o o1 : St} {n n1 : Nat} (h : Grow s0 ⟨o, n⟩) (hn : n ≤ n1) (ho : ∀ f j, f < n → o1 f j = o f j) : Grow s0 ⟨o1, n1⟩ :=
  ⟨Nat.le_trans h.1 hn, fun f j hf => (ho f j (Nat.lt_of_lt_of_le hf h.1)).trans (h.2 f j hf)⟩
/-- Where the two marks lie. -/
structure KpR (o : St) (nx : Nat) (a b : Es.Mark) (k : Nat) (e : Env) (st : S) : Prop where
  e3 : e 3 = .mp 0 0 7 0 0
  e4 : e 4 = .mp 1 0 19 0 0
  e5 : e 5 = .mp 2 0 4 0 0
  e7 : e 7 = .v (.bool true)
  e8 : e 8 = .mp 3 0 4 0 0
  e10 : e 10 = .v (.int .i64 k)
  nxt : nx ≤ st.nx
  old : ∀ f j, f < nx → st.o f j = o f j
  boxes : ∃ ga gb, e 11 = .mp ga 0 5 0 0 ∧ e 12 = .mp gb 0 5 0 0 ∧ (nx ≤ ga ∧ nx ≤ gb ∧ ga < st.nx ∧ gb < st.nx) ∧ st.o ga 0 = some (.blk 5 1 47 (rowOf [.v (.int .i64 a.status), .v (.int .i64 a.left), .v (.int .i64 a.got), .v (.int .i64 a.bearer), .v (.bool a.paused)])) ∧
    st.o gb 0 = some (.blk 5 1 47 (rowOf [.v (.int .i64 b.status), .v (.int .i64 b.left), .v (.int .i64 b.got), .v (.int .i64 b.bearer), .v (.bool b.paused)]))
set_option maxHeartbeats 4000000 in
theorem mkeeps_spec (c : Es.Contract) (p : Es.Patch) (s : Es.State) (hf : Es.Fits c) (hs : Es.SFits s) : APure M 3 [conD c, patD p, staD s] (.v (.bool true)) := by
  refine pure_of gpu func3 rfl results3 ntmps3 (by simp) ⟨pu_conD _, pu_patD _, pu_staD _, trivial⟩ ?_
  intro b
  simp only [go_sem, ↓reduceIte, reduceCtorEq, Nat.reduceEqDiff, Nat.reduceLT, Nat.reduceLeDiff, Nat.reduceAdd, Nat.reduceSub, Nat.reduceMul, Nat.reduceGT, Int.reduceNeg, Int.reduceToNat]
  repeat' (first | ((with_reducible refine call_at M_P M_G (head27_spec) ?_); simp only [go_sem, ↓reduceIte, reduceCtorEq, Nat.reduceEqDiff, Nat.reduceLT, Nat.reduceLeDiff, Nat.reduceAdd, Nat.reduceSub, Nat.reduceMul, Nat.reduceGT, Int.reduceNeg, Int.reduceToNat]) | ((with_reducible refine call_at M_P M_G (small_spec c 40 hf) ?_); simp only [go_sem, ↓reduceIte, reduceCtorEq, Nat.reduceEqDiff, Nat.reduceLT, Nat.reduceLeDiff, Nat.reduceAdd, Nat.reduceSub, Nat.reduceMul, Nat.reduceGT, Int.reduceNeg, Int.reduceToNat]) | ((with_reducible refine call_at M_P M_G (patSmall_spec p) ?_); simp only [go_sem, ↓reduceIte, reduceCtorEq, Nat.reduceEqDiff, Nat.reduceLT, Nat.reduceLeDiff, Nat.reduceAdd, Nat.reduceSub, Nat.reduceMul, Nat.reduceGT, Int.reduceNeg, Int.reduceToNat]) | ((with_reducible refine call_at M_P M_G (few_spec s) ?_); simp only [go_sem, ↓reduceIte, reduceCtorEq, Nat.reduceEqDiff, Nat.reduceLT, Nat.reduceLeDiff, Nat.reduceAdd, Nat.reduceSub, Nat.reduceMul, Nat.reduceGT, Int.reduceNeg, Int.reduceToNat]) | ((with_reducible refine call_at M_P M_G (migrate_spec c p s hf hs) ?_); simp only [go_sem, ↓reduceIte, reduceCtorEq, Nat.reduceEqDiff, Nat.reduceLT, Nat.reduceLeDiff, Nat.reduceAdd, Nat.reduceSub, Nat.reduceMul, Nat.reduceGT, Int.reduceNeg, Int.reduceToNat]) | (with_reducible refine And.intro ?_ ?_) | ((with_reducible refine ite_cases ?_ ?_) <;> intro _))
  all_goals first
    | trivial
    | skip
  all_goals
    have he : (Es.migrate c p s).2 = 0 := by simp_all
    obtain ⟨hv, ha⟩ := Es.migrate_zero he
    have hml := (Es.sValid_iff.1 hv).1.ml
    have hlen := Es.migrate_len hv ha
    first
      | (exfalso; simp_all [Es.len]; done)
      | (exfalso; simp only [Es.len, bne_iff_ne, ne_eq, beq_iff_eq, decide_eq_true_eq] at *; omega)
      | skip
  have hm1 := hs.marks
  have hF := Es.fine2 hv ha
  have hfew := hF.few
  refine awp_count0 s.marks.length (fun e0 s0 k e st => (e 3 = e0 3 ∧ e 4 = e0 4 ∧ e 5 = e0 5 ∧ e 7 = e0 7 ∧ e 8 = e0 8) ∧ e 10 = .v (.int .i64 k) ∧ Grow s0 st) ⟨⟨rfl, rfl, rfl, rfl, rfl⟩, ?_, Grow.refl _⟩ ?_
  · simp only [go_sem, ↓reduceIte, reduceCtorEq, Nat.reduceEqDiff, Nat.reduceLT, Nat.reduceLeDiff, Nat.reduceAdd, Nat.reduceSub, Nat.reduceMul, Nat.reduceGT, Int.reduceNeg, Int.reduceToNat]; rfl
  rintro k e ⟨o, nx⟩ hk ⟨⟨a3, a4, a5, a7, a8⟩, a10, hg⟩
  simp only [go_sem, ↓reduceIte, reduceCtorEq, Nat.reduceEqDiff, Nat.reduceLT, Nat.reduceLeDiff, Nat.reduceAdd, Nat.reduceSub, Nat.reduceMul, Nat.reduceGT, Int.reduceNeg, Int.reduceToNat] at a3 a4 a5 a7 a8
  have g0 := hg.2 0 0 (by show (0:Nat) < 4; decide); have g1 := hg.2 1 0 (by show (1:Nat) < 4; decide); have g2 := hg.2 2 0 (by show (2:Nat) < 4; decide); have g3 := hg.2 3 0 (by show (3:Nat) < 4; decide); have hn : 4 ≤ nx := hg.1; have n0 : (0 = nx) = False := (by simp only [eq_iff_iff, iff_false]; omega); have n1 : (1 = nx) = False := (by simp only [eq_iff_iff, iff_false]; omega); have n2 : (2 = nx) = False := (by simp only [eq_iff_iff, iff_false]; omega); have n3 : (3 = nx) = False := (by simp only [eq_iff_iff, iff_false]; omega); simp only [go_sem, ↓reduceIte, reduceCtorEq, Nat.reduceEqDiff, Nat.reduceLT, Nat.reduceLeDiff, Nat.reduceAdd, Nat.reduceSub, Nat.reduceMul, Nat.reduceGT, Int.reduceNeg, Int.reduceToNat] at g0 g1 g2 g3
  simp only [go_sem, ↓reduceIte, reduceCtorEq, Nat.reduceEqDiff, Nat.reduceLT, Nat.reduceLeDiff, Nat.reduceAdd, Nat.reduceSub, Nat.reduceMul, Nat.reduceGT, Int.reduceNeg, Int.reduceToNat, a3, a4, a5, a7, a8, a10, g0, g1, g2, g3]
  refine ite_cases (fun hlt => ?_) (fun hlt => ?_)
  · have hlt' : k < s.marks.length := Es.len_lt.1 hlt
    have hK := Es.law_kept hv ha hlt'
    have hw1 : IntKind.i64.wrap ((k : Int) + 1) = ((k + 1 : Nat) : Int) := by
      rw [wrap_i64 _ (by omega) (by omega)]; simp
    have hl2 : (k : Int) < Es.len (Es.migrate c p s).1.marks := by simp only [Es.len]; rw [hlen]; omega
    refine AWp.mono (Q := fun x e1 s1 => x = .normal ∧ KpR o nx (Es.at_ s.marks (k : Int)) (Es.at_ (Es.migrate c p s).1.marks (k : Int)) k e1 s1) ?_ ?_
    · refine awp_wf fun hwf => ?_
      simp only at hwf
      have w1 := hwf nx 0 (by omega)
      have w2 := hwf (nx + 1) 0 (by omega)
      have e0 : ∀ {a b : Nat}, a ≠ b → (a = b) = False := fun h => by simp [h]
      have z1 : (0 = 1) = False := e0 (by omega); have z2 : (0 = 2) = False := e0 (by omega); have z3 : (0 = 3) = False := e0 (by omega); have z4 : (0 = nx) = False := e0 (by omega); have z5 : (0 = nx + 1) = False := e0 (by omega); have z6 : (1 = 0) = False := e0 (by omega); have z7 : (1 = 2) = False := e0 (by omega); have z8 : (1 = 3) = False := e0 (by omega); have z9 : (1 = nx) = False := e0 (by omega); have z10 : (1 = nx + 1) = False := e0 (by omega); have z11 : (2 = 0) = False := e0 (by omega); have z12 : (2 = 1) = False := e0 (by omega); have z13 : (2 = 3) = False := e0 (by omega); have z14 : (2 = nx) = False := e0 (by omega); have z15 : (2 = nx + 1) = False := e0 (by omega); have z16 : (3 = 0) = False := e0 (by omega); have z17 : (3 = 1) = False := e0 (by omega); have z18 : (3 = 2) = False := e0 (by omega); have z19 : (3 = nx) = False := e0 (by omega); have z20 : (3 = nx + 1) = False := e0 (by omega); have z21 : (nx = 0) = False := e0 (by omega); have z22 : (nx = 1) = False := e0 (by omega); have z23 : (nx = 2) = False := e0 (by omega); have z24 : (nx = 3) = False := e0 (by omega); have z25 : (nx = nx + 1) = False := e0 (by omega); have z26 : (nx + 1 = 0) = False := e0 (by omega); have z27 : (nx + 1 = 1) = False := e0 (by omega); have z28 : (nx + 1 = 2) = False := e0 (by omega); have z29 : (nx + 1 = 3) = False := e0 (by omega); have z30 : (nx + 1 = nx) = False := e0 (by omega)
      refine awp_plan ((.op 0 (.op 1 (.op 2 (.op 3 (.op 4 (.op 5 (.op 7 (.alt 6 (.op 8 (.alt 9 (.alt 10 (.op 11 (.op 12 (.op 13 .done))) (.alt 11 (.op 10 (.op 12 (.op 13 .done))) .dead)) (.alt 10 (.alt 9 (.op 11 (.op 12 (.op 13 .done))) (.alt 11 (.alt 9 (.op 12 (.op 13 .done)) (.alt 12 (.op 9 (.op 13 .done)) .dead)) .dead)) (.alt 11 (.alt 9 (.op 10 (.op 12 (.op 13 .done))) (.alt 10 (.alt 9 (.op 12 (.op 13 .done)) (.alt 12 (.op 9 (.op 13 .done)) .dead)) .dead)) .dead)))) (.alt 10 (.alt 6 (.op 8 (.alt 9 (.op 11 (.op 12 (.op 13 .done))) (.alt 11 (.alt 9 (.op 12 (.op 13 .done)) (.alt 12 (.op 9 (.op 13 .done)) .dead)) .dead))) (.alt 11 (.alt 6 (.op 8 (.alt 9 (.op 12 (.op 13 .done)) (.alt 12 (.op 9 (.op 13 .done)) .dead))) (.alt 12 (.op 6 (.op 8 (.op 9 (.op 13 .done)))) .dead)) .dead)) (.alt 11 (.alt 6 (.op 8 (.alt 9 (.op 10 (.op 12 (.op 13 .done))) (.alt 10 (.alt 9 (.op 12 (.op 13 .done)) (.alt 12 (.op 9 (.op 13 .done)) .dead)) .dead))) (.alt 10 (.alt 6 (.op 8 (.alt 9 (.op 12 (.op 13 .done)) (.alt 12 (.op 9 (.op 13 .done)) .dead))) (.alt 12 (.op 6 (.op 8 (.op 9 (.op 13 .done)))) .dead)) .dead)) .dead))))))))))) [12, 13] mix (by kernel_rfl) ?_
      simp only [go_sem, ↓reduceIte, reduceCtorEq, Nat.reduceEqDiff, Nat.reduceLT, Nat.reduceLeDiff, Nat.reduceAdd, Nat.reduceSub, Nat.reduceMul, Nat.reduceGT, Int.reduceNeg, Int.reduceToNat, a3, a4, a5, a7, a8, a10, g0, g1, g2, g3, w1, w2, z1, z2, z3, z4, z5, z6, z7, z8, z9, z10, z11, z12, z13, z14, z15, z16, z17, z18, z19, z20, z21, z22, z23, z24, z25, z26, z27, z28, z29, z30]
      repeat' (first | (with_reducible refine And.intro ?_ ?_) | ((with_reducible refine ite_cases ?_ ?_) <;> intro _))
      all_goals clear z1 z2 z3 z4 z5 z6 z7 z8 z9 z10 z11 z12 z13 z14 z15 z16 z17 z18 z19 z20 z21 z22 z23 z24 z25 z26 z27 z28 z29 z30
      all_goals first
        | omega
        | exact hlt
        | exact hl2
        | (refine keeps_set ?_; (repeat (refine (set_ne (by omega)).trans ?_)); first | exact w1 | exact w2)
        | (refine ⟨a3, a4, a5, a7, a8, a10, by simp only; omega, fun f j h => ?_, nx, nx + 1, rfl, rfl, by simp only; omega, ?_, ?_⟩
           · (repeat (refine (set_ne (by omega)).trans ?_)); rfl
           · (repeat (refine (set_ne (by omega)).trans ?_)); exact St_set_self _ _ _ _
           · (repeat (refine (set_ne (by omega)).trans ?_)); exact St_set_self _ _ _ _)
        | (refine ⟨a3, a4, a5, a7, a8, a10, by simp only; omega, fun f j h => ?_, nx + 1, nx, rfl, rfl, by simp only; omega, ?_, ?_⟩
           · (repeat (refine (set_ne (by omega)).trans ?_)); rfl
           · (repeat (refine (set_ne (by omega)).trans ?_)); exact St_set_self _ _ _ _
           · (repeat (refine (set_ne (by omega)).trans ?_)); exact St_set_self _ _ _ _)
    · rintro x e1 ⟨o1, n1⟩ ⟨rfl, hP⟩
      obtain ⟨b3, b4, b5, b7, b8, b10, bn, bold, ga, gb, b11, b12, ⟨q1, q2, q3, q4⟩, va, vb⟩ := hP
      simp only at bn bold q1 q2 q3 q4 va vb
      have r0 := (bold 0 0 (by omega)).trans g0
      have r1 := (bold 1 0 (by omega)).trans g1
      have r2 := (bold 2 0 (by omega)).trans g2
      have r3 := (bold 3 0 (by omega)).trans g3
      clear g0 g1 g2 g3
      simp only [go_sem, ↓reduceIte, reduceCtorEq, Nat.reduceEqDiff, Nat.reduceLT, Nat.reduceLeDiff, Nat.reduceAdd, Nat.reduceSub, Nat.reduceMul, Nat.reduceGT, Int.reduceNeg, Int.reduceToNat]
      refine awp_count0 p.clauses.length (fun e0 s0 m e st => (e 3 = e0 3 ∧ e 4 = e0 4 ∧ e 5 = e0 5 ∧ e 7 = e0 7 ∧ e 8 = e0 8 ∧ e 10 = e0 10 ∧ e 11 = e0 11 ∧ e 12 = e0 12) ∧ e 14 = .v (.int .i64 m) ∧ e 13 = .v (.bool ((p.clauses.take m).contains (k : Int))) ∧ st = s0) ⟨⟨rfl, rfl, rfl, rfl, rfl, rfl, rfl, rfl⟩, ?_, ?_, rfl⟩ ?_
      · simp only [go_sem, ↓reduceIte, reduceCtorEq, Nat.reduceEqDiff, Nat.reduceLT, Nat.reduceLeDiff, Nat.reduceAdd, Nat.reduceSub, Nat.reduceMul, Nat.reduceGT, Int.reduceNeg, Int.reduceToNat]; rfl
      · simp only [go_sem, ↓reduceIte, reduceCtorEq, Nat.reduceEqDiff, Nat.reduceLT, Nat.reduceLeDiff, Nat.reduceAdd, Nat.reduceSub, Nat.reduceMul, Nat.reduceGT, Int.reduceNeg, Int.reduceToNat]; rfl
      rintro m e2 st2 hm ⟨⟨d3, d4, d5, d7, d8, d10, d11, d12⟩, d14, d13, rfl⟩
      simp only [go_sem, ↓reduceIte, reduceCtorEq, Nat.reduceEqDiff, Nat.reduceLT, Nat.reduceLeDiff, Nat.reduceAdd, Nat.reduceSub, Nat.reduceMul, Nat.reduceGT, Int.reduceNeg, Int.reduceToNat, b3, b4, b5, b7, b8, b10, b11, b12] at d3 d4 d5 d7 d8 d10 d11 d12
      simp only [go_sem, ↓reduceIte, reduceCtorEq, Nat.reduceEqDiff, Nat.reduceLT, Nat.reduceLeDiff, Nat.reduceAdd, Nat.reduceSub, Nat.reduceMul, Nat.reduceGT, Int.reduceNeg, Int.reduceToNat, d3, d4, d5, d7, d8, d10, d11, d12, d13, d14, r0, r1, r2, r3, va, vb]
      refine ite_cases (fun hmt => ?_) (fun hmt => ?_)
      · have hmt' : m < p.clauses.length := Es.len_lt.1 hmt
        have hw2 : IntKind.i64.wrap ((m : Int) + 1) = ((m + 1 : Nat) : Int) := by
          rw [wrap_i64 _ (by omega) (by omega)]; simp
        have hnx : (p.clauses.take (m + 1)).contains (k : Int) = ((p.clauses.take m).contains (k : Int) || (Es.at_ p.clauses (m : Int) == (k : Int))) := by
            rw [Es.take_at hmt', contains_snoc]
        refine ite_cases (fun hc0 => ?_) (fun hc0 => ?_)
        · refine ⟨⟨by omega, hmt⟩, hmt', ?_⟩
          simp only [go_sem, ↓reduceIte, reduceCtorEq, Nat.reduceEqDiff, Nat.reduceLT, Nat.reduceLeDiff, Nat.reduceAdd, Nat.reduceSub, Nat.reduceMul, Nat.reduceGT, Int.reduceNeg, Int.reduceToNat, d3, d4, d5, d7, d8, d10, d11, d12, d13, d14, b3, b4, b5, b7, b8, b10, b11, b12, hw2]
          rw [hnx, hc0]; simp
        · refine ⟨hmt', ?_⟩
          simp only [go_sem, ↓reduceIte, reduceCtorEq, Nat.reduceEqDiff, Nat.reduceLT, Nat.reduceLeDiff, Nat.reduceAdd, Nat.reduceSub, Nat.reduceMul, Nat.reduceGT, Int.reduceNeg, Int.reduceToNat, d3, d4, d5, d7, d8, d10, d11, d12, d13, d14, b3, b4, b5, b7, b8, b10, b11, b12, hw2]
          rw [hnx, show (p.clauses.take m).contains (k : Int) = true by simpa using hc0]; simp
      · have hmm : m = p.clauses.length := by simp only [Es.len] at hmt; omega
        subst hmm
        rw [List.take_length] at d13
        have hfin := grow_more hg bn bold
        have hE := hK.ended
        have hR := hK.run
        have hN := hK.other
        have hcm : p.clauses.contains (k : Int) = true ↔ (k : Int) ∈ p.clauses := by simp
        rw [← hcm] at hR hN
        generalize Es.at_ s.marks (k : Int) = m0 at *
        generalize Es.at_ (Es.migrate c p s).1.marks (k : Int) = m2 at *
        generalize p.clauses.contains (k : Int) = named at *
        have hkl : (k : Int) < Es.len c.clauses := by simp only [Es.len]; omega
        obtain ⟨oth, hoth⟩ : ∃ oth : Bool, (named && (p.kind == 2) && (p.new.kind != (Es.at_ c.clauses (k : Int)).kind) && !p.new.waived) = oth := ⟨_, rfl⟩
        have hR2 : Es.runs m0 = true → oth = false → m2.got = m0.got ∧ m2.bearer = m0.bearer := fun h1 h2 => hR h1 fun h3 h4 => by
          rw [← hoth, h3, h4] at h2
          exact Decidable.or_iff_not_imp_left.2 (by simpa using h2)
        clear hR
        refine AWp.mono (Q := fun x e5 s5 => x = .normal ∧ (e5 3 = .mp 0 0 7 0 0 ∧ e5 4 = .mp 1 0 19 0 0 ∧ e5 5 = .mp 2 0 4 0 0 ∧ e5 7 = .v (.bool true) ∧ e5 8 = .mp 3 0 4 0 0 ∧ e5 10 = .v (.int .i64 k) ∧ e5 11 = .mp ga 0 5 0 0 ∧ e5 12 = .mp gb 0 5 0 0 ∧ e5 13 = .v (.bool named)) ∧ e5 15 = .v (.bool oth) ∧ s5 = ⟨o1, n1⟩) ?_ ?_
        · refine awp_plan ((.op 0 (.op 1 (.op 2 (.op 3 (.op 4 (.op 5 (.op 6 (.op 7 (.op 8 (.op 9 (.op 10 (.op 11 (.op 12 (.op 13 (.op 14 (.op 15 (.op 16 (.op 17 (.op 18 (.op 19 (.op 20 (.op 21 (.op 22 (.op 23 (.op 24 .done)))))))))))))))))))))))))) [] mix (by kernel_rfl) ?_
          simp only [go_sem, ↓reduceIte, reduceCtorEq, Nat.reduceEqDiff, Nat.reduceLT, Nat.reduceLeDiff, Nat.reduceAdd, Nat.reduceSub, Nat.reduceMul, Nat.reduceGT, Int.reduceNeg, Int.reduceToNat, d3, d4, d5, d7, d8, d10, d11, d12, d13, d14, r0, r1, r2, r3, va, vb]
          repeat' (first | (with_reducible refine And.intro ?_ ?_) | ((with_reducible refine ite_cases ?_ ?_) <;> intro _))
          all_goals first
            | omega
            | exact hkl
            | (clear hg hfin bold va vb r0 r1 r2 r3 hE hN hR2; subst hoth; simp_all; done)
        · rintro x e5 ⟨o5, n5⟩ ⟨rfl, ⟨f3, f4, f5, f7, f8, f10, f11, f12, f13⟩, f15, hst⟩
          cases hst
          simp only [go_sem, ↓reduceIte, reduceCtorEq, Nat.reduceEqDiff, Nat.reduceLT, Nat.reduceLeDiff, Nat.reduceAdd, Nat.reduceSub, Nat.reduceMul, Nat.reduceGT, Int.reduceNeg, Int.reduceToNat, f3, f4, f5, f7, f8, f10, f11, f12, f13, f15, r0, r1, r2, r3, va, vb]
          repeat' (first | ((with_reducible refine call_at M_P M_G (ended_spec _) ?_); simp only [go_sem, ↓reduceIte, reduceCtorEq, Nat.reduceEqDiff, Nat.reduceLT, Nat.reduceLeDiff, Nat.reduceAdd, Nat.reduceSub, Nat.reduceMul, Nat.reduceGT, Int.reduceNeg, Int.reduceToNat, f3, f4, f5, f7, f8, f10, f11, f12, f13, f15, r0, r1, r2, r3, va, vb]) | ((with_reducible refine call_at M_P M_G (rruns_spec _) ?_); simp only [go_sem, ↓reduceIte, reduceCtorEq, Nat.reduceEqDiff, Nat.reduceLT, Nat.reduceLeDiff, Nat.reduceAdd, Nat.reduceSub, Nat.reduceMul, Nat.reduceGT, Int.reduceNeg, Int.reduceToNat, f3, f4, f5, f7, f8, f10, f11, f12, f13, f15, r0, r1, r2, r3, va, vb]) | (with_reducible refine And.intro ?_ ?_) | ((with_reducible refine ite_cases ?_ ?_) <;> intro _))
          all_goals first
            | (refine ⟨hlt', ?_⟩
               simp only [go_sem, ↓reduceIte, reduceCtorEq, Nat.reduceEqDiff, Nat.reduceLT, Nat.reduceLeDiff, Nat.reduceAdd, Nat.reduceSub, Nat.reduceMul, Nat.reduceGT, Int.reduceNeg, Int.reduceToNat, f3, f4, f5, f7, f8, f10, f11, f12, f13, f15, hw1]
               exact hfin)
            | (exfalso; clear hg hfin bold va vb r0 r1 r2 r3 hoth f3 f4 f5 f7 f8 f10 f11 f12 f13 f15; simp_all; done)
  · trivial
end Tryz
end Go.Proofs
end
section
/-
  For every input MigrateKeeps returns true, and the arguments read as they did. No condition.
-/
namespace Go.Proofs.YtfhmokhaegdddaaGreatDoor
open Go Go.Abs Go.ChangeShapes Go.WideShapes Go.ChangeAt Go.RowKit
set_option linter.unusedVariables false
namespace lawMigrateKeeps
set_option maxRecDepth 100000 in
theorem lifted (os : Os) (started : os.Started) (H : Type) (enc : TypeId × Value → H) :
    ReturnsInHanded {} Tryz.checked os 3 .any (fun w args => (Rows.migrateKeepsSpec.pre enc Tryz.prog Tryz.f3 [] false w args ∧ laidMetH Tryz.prog Tryz.laidL w) ∧ sizedMet enc Tryz.prog Tryz.f3 (OpenSpec.ofChange Rows.migrateKeepsSpec) false w args)
      (Rows.migrateKeepsSpec.post enc Tryz.prog Tryz.f3 false true false false) := by
  refine returnsInHanded_of_change_and (C := Tryz.checked) (X := fun w _ => laidMetH Tryz.prog Tryz.laidL w) (fun _ _ _ hh h => h.of_heap hh) Tryz.own started (by kernel_rfl) Tryz.func3
    (ChangeSpec.witness_shaped (enc := enc) (C := Tryz.checked) (os := os) (X := fun w _ => laidMetH Tryz.prog Tryz.laidL w) false (World.doorLaid Tryz.prog 400 os) #[.agg #[.int .i64 0, .slice none 0 0, .slice none 0 0, .slice none 0 0, .slice none 0 0, .int .i64 0, .slice none 0 0], .agg #[.int .i64 0, .slice none 0 0, .int .i64 0, .int .i64 0, .int .i64 0, .int .i64 0, .slice none 0 0, .int .i64 0, .int .i64 0, .bool false, .bool false, .int .i64 0, .int .i64 0, .int .i64 0, .int .i64 0, .int .i64 0, .int .i64 0, .bool false, .int .i64 0], .agg #[.int .i64 0, .slice none 0 0, .slice none 0 0, .slice none 0 0]] 8 rfl (World.shaped_of_RefB (by kernel_rfl) (by kernel_rfl)) (by kernel_rfl) (by kernel_rfl) (by kernel_rfl) (Tryz.door_met os _)) ?_
  intro W base args ds gs before hval0 hW _ _ hL _
  have hval : ∀ (j : Nat) t v, Tryz.f3.params[j]? = some t → args[j]? = some v → Value.okWide Tryz.prog W .any base t v := hval0
  have hW' := hW
  obtain ⟨p, q, hA0, hV, rfl, hfz, hnd⟩ := hW
  have hA : DataW.TrodAll enc Tryz.prog W 0 (fun _ => true) true Tryz.f3.params.toList args.toList ds p := hA0
  rw [Tryz.params3] at hA hval
  have hstay := hA
  obtain ⟨rfl, rfl⟩ := trodVars_none hV
  simp only [List.append_nil] at hW'
  obtain ⟨v0, vs0, d0, ds0, p0, q0, e0, rfl, rfl, h0, t0⟩ := trodAll_cons hA
  obtain ⟨v1, vs1, d1, ds1, p1, q1, e1, rfl, rfl, h1, t1⟩ := trodAll_cons t0
  obtain ⟨v2, vs2, d2, ds2, p2, q2, e2, rfl, rfl, h2, t2⟩ := trodAll_cons t1
  obtain ⟨z1, rfl, rfl⟩ := trodAll_nil t2
  subst z1
  subst e2
  subst e1
  obtain rfl : args = #[v0, v1, v2] := by apply Array.ext'; simpa using e0
  obtain ⟨x0, g0, r0⟩ := Tryz.arg_contract (hval 0 27 v0 rfl rfl) h0
  obtain ⟨x1, g1, r1⟩ := Tryz.arg_patch (hval 1 34 v1 rfl rfl) h1
  obtain ⟨x2, g2, r2⟩ := Tryz.arg_state (hval 2 38 v2 rfl rfl) h2
  refine (calls_of_apure (vals := [v0, v1, v2]) (Tryz.mkeeps_spec x0 x1 x2 g0 g2) rfl (fun i d hi => ?_) (Tryz.glob_ok hL)).mono ?_
  · rcases i with _ | _ | _ | i <;> first | (simp at hi; subst hi; assumption) | (simp at hi)
  · rintro e W' ⟨c', v, rfl, rfl, hb, hr⟩
    cases hr
    have hlt := hW'.lt
    refine ⟨_, rfl, ⟨_, _, _, [], _, [], hW', trodAll_mk1 (shut_bool Tryz.underlying4 _), args_stay Tryz.rowLaidOut hb ?_ hA0 ?_ ?_, rfl, hb.frame _, fun h => by cases h⟩⟩
    · rw [Tryz.params3]; intro t ht
      have hall : ([27, 34, 38].all fun t => Tryz.prog.readableRec t && decide (t < Tryz.prog.types.size)) = true := by kernel_rfl
      have := List.all_eq_true.1 hall t (by simpa using ht)
      simpa using this
    · intro x hx; exact by simpa using hlt x (by simpa using hx)
    · intro x hx; simpa using hlt x (by simpa using hx)
theorem row_holds : Rows.MigrateKeepsSaid :=
  OpenClaim.holds_of_wide 3 Tryz.f3 rfl rfl rfl rfl rfl rfl rfl ⟨rfl, rfl, rfl, rfl, rfl⟩ rfl rfl rfl rfl rfl (by kernel_rfl) Tryz.func3 (by kernel_rfl)
    (of_decide_eq_true (by kernel_rfl)) (by unfold Func.isWrapper; first | (rw [if_pos (by decide +kernel)]; kernel_rfl) | (rw [if_neg (by decide +kernel)]; exact ⟨rfl, rfl⟩))
    (fun os started H enc _ => lifted os started H enc)
theorem card_holds : Rows.MigrateKeepsCardSaid :=
  Claim7.holds_tied_plain_at .later [] [.data, .data] true Rows.migrateKeepsCard.stood.harness false
    row_holds (fun _ h => by cases h) (by kernel_rfl) (fun _ h => by cases h) migrateKeeps_row_tie rfl ⟨rfl, rfl⟩ (by kernel_rfl) rfl
    (fun f fn hf hfn => by
      obtain rfl : f = 3 := Option.some.inj ((show Tryz.prog.funcNamed Rows.migrateKeepsRow.func = some 3 by kernel_rfl).symm.trans hf) |>.symm
      obtain rfl : fn = Tryz.f3 := (Option.some.inj (Tryz.func3.symm.trans hfn)).symm
      exact ⟨by kernel_rfl, fun j t ht => by
        rw [Tryz.params3] at ht
        have hm : t ∈ [27, 34, 38] := by simpa using Array.mem_of_getElem? ht
        have hall : ([27, 34, 38].all fun u => !Tryz.prog.wantsStandIn u) = true := by kernel_rfl
        exact (show Tryz.prog.wantsStandIn t = false by simpa using List.all_eq_true.1 hall t hm)⟩)
    (by kernel_rfl)
end lawMigrateKeeps
#print axioms lawMigrateKeeps.card_holds
end Go.Proofs.YtfhmokhaegdddaaGreatDoor
end
