/-
  For every input MigrateNone returns true, and the arguments read as they did. No condition.
-/
import Derived.Test.YtfhmokhaegdddaaGreatDoorBj
set_option linter.unusedSimpArgs false
set_option linter.unusedVariables false
section
namespace Go.Proofs
open Go Go.Abs
set_option linter.unusedSimpArgs false
set_option linter.unusedVariables false
set_option maxRecDepth 10000
namespace Tryz
@[go_sem] theorem untM_bin (P : Program) (op : BinOp) (t : Nat) (x y : Es.Unt) (s : S) (K : D → S → Prop) : aBin P op t (untD x) (untD y) s K = ABinA P op t (eqShape P 10000 t) [.v (.string ⟨x.name.toArray⟩), .v (.int .i64 x.kind), .v (.int .i64 x.base), .v (.int .i64 x.factor.num), .v (.int .i64 x.factor.den)] [.v (.string ⟨y.name.toArray⟩), .v (.int .i64 y.kind), .v (.int .i64 y.base), .v (.int .i64 y.factor.num), .v (.int .i64 y.factor.den)] s K := nr rfl
@[go_sem] theorem actM_bin (P : Program) (op : BinOp) (t : Nat) (x y : Es.ActT) (s : S) (K : D → S → Prop) : aBin P op t (actD x) (actD y) s K = ABinA P op t (eqShape P 10000 t) [.v (.int .i64 x.kind), .v (.int .i64 x.role), .v (.int .i64 x.give), .v (.int .i64 x.to), .v (.int .i64 x.unit), .v (.int .i64 x.lot.num), .v (.int .i64 x.lot.den)] [.v (.int .i64 y.kind), .v (.int .i64 y.role), .v (.int .i64 y.give), .v (.int .i64 y.to), .v (.int .i64 y.unit), .v (.int .i64 y.lot.num), .v (.int .i64 y.lot.den)] s K := nr rfl
theorem ints24_spec (u : List Int) (ha : u.length ≤ 9223372036854775807) : APure M 43 [slD 1 intC u, slD 1 intC u] (.v (.bool true)) := by
  refine pure_of gpu func43 rfl results43 ntmps43 (by simp) ⟨pu_slD pu_intC _, pu_slD pu_intC _, trivial⟩ ?_
  intro b
  simp only [go_sem, ↓reduceIte, reduceCtorEq, Nat.reduceEqDiff, Nat.reduceLT, Nat.reduceLeDiff, Nat.reduceAdd, Nat.reduceSub, Nat.reduceMul, Nat.reduceGT, Int.reduceNeg, Int.reduceToNat]
  refine ite_cases (fun hne => by simp at hne) (fun hne => ?_)
  refine awp_count0 u.length (fun e0 s0 k e st => (e 0 = e0 0 ∧ e 1 = e0 1) ∧ e 5 = .v (.int .i64 k) ∧ st = s0) ⟨⟨rfl, rfl⟩, ?_, rfl⟩ ?_
  · simp only [go_sem, ↓reduceIte, reduceCtorEq, Nat.reduceEqDiff, Nat.reduceLT, Nat.reduceLeDiff, Nat.reduceAdd, Nat.reduceSub, Nat.reduceMul, Nat.reduceGT, Int.reduceNeg, Int.reduceToNat]; rfl
  rintro k e st hk ⟨⟨a0, a1⟩, a5, rfl⟩
  simp only [go_sem, ↓reduceIte, reduceCtorEq, Nat.reduceEqDiff, Nat.reduceLT, Nat.reduceLeDiff, Nat.reduceAdd, Nat.reduceSub, Nat.reduceMul, Nat.reduceGT, Int.reduceNeg, Int.reduceToNat] at a0 a1
  simp only [go_sem, ↓reduceIte, reduceCtorEq, Nat.reduceEqDiff, Nat.reduceLT, Nat.reduceLeDiff, Nat.reduceAdd, Nat.reduceSub, Nat.reduceMul, Nat.reduceGT, Int.reduceNeg, Int.reduceToNat, a0, a1, a5]
  refine ite_cases (fun hlt => ?_) (fun hlt => ?_)
  · have hlt' : k < u.length := Es.len_lt.1 hlt
    refine awp_plan ((.op 0 (.op 1 (.op 2 (.op 3 (.op 4 (.op 5 (.op 6 (.op 7 (.op 8 .done)))))))))) [] mix (by kernel_rfl) ?_
    simp only [go_sem, ↓reduceIte, reduceCtorEq, Nat.reduceEqDiff, Nat.reduceLT, Nat.reduceLeDiff, Nat.reduceAdd, Nat.reduceSub, Nat.reduceMul, Nat.reduceGT, Int.reduceNeg, Int.reduceToNat, a0, a1, a5]
    refine ⟨⟨by omega, hlt⟩, ⟨by omega, hlt⟩, ?_⟩
    refine ite_cases (fun he => by simp at he) (fun he => ?_)
    refine ⟨hlt', ?_⟩
    simp only [go_sem, ↓reduceIte, reduceCtorEq, Nat.reduceEqDiff, Nat.reduceLT, Nat.reduceLeDiff, Nat.reduceAdd, Nat.reduceSub, Nat.reduceMul, Nat.reduceGT, Int.reduceNeg, Int.reduceToNat, a0, a1, a5]
    rw [wrap_i64 _ (by omega) (by omega)]; simp
  · trivial
theorem clause24_spec (x : Es.Clause) (hl : x.start.length ≤ 9223372036854775807) : APure M 65 [clsD x, clsD x] (.v (.bool true)) := by
  refine pure_of gpu func65 rfl results65 ntmps65 (by simp) ⟨pu_clsD x, pu_clsD x, trivial⟩ ?_
  intro b
  simp only [go_sem, ↓reduceIte, reduceCtorEq, Nat.reduceEqDiff, Nat.reduceLT, Nat.reduceLeDiff, Nat.reduceAdd, Nat.reduceSub, Nat.reduceMul, Nat.reduceGT, Int.reduceNeg, Int.reduceToNat]
  simp only [bne_self_eq_false, ↓reduceIte, Bool.false_eq_true]
  repeat' (first | (with_reducible refine And.intro ?_ ?_) | ((with_reducible refine ite_cases ?_ ?_) <;> intro _))
  all_goals first
    | (exfalso; simp_all; done)
    | skip
  refine awp_count0 x.start.length (fun e0 s0 k e st => (e 2 = e0 2 ∧ e 3 = e0 3) ∧ e 5 = .v (.int .i64 k) ∧ st = s0) ⟨⟨rfl, rfl⟩, ?_, rfl⟩ ?_
  · simp only [go_sem, ↓reduceIte, reduceCtorEq, Nat.reduceEqDiff, Nat.reduceLT, Nat.reduceLeDiff, Nat.reduceAdd, Nat.reduceSub, Nat.reduceMul, Nat.reduceGT, Int.reduceNeg, Int.reduceToNat]; rfl
  rintro k e st hk ⟨⟨a2, a3⟩, a5, rfl⟩
  simp only [go_sem, ↓reduceIte, reduceCtorEq, Nat.reduceEqDiff, Nat.reduceLT, Nat.reduceLeDiff, Nat.reduceAdd, Nat.reduceSub, Nat.reduceMul, Nat.reduceGT, Int.reduceNeg, Int.reduceToNat] at a2 a3
  simp only [go_sem, ↓reduceIte, reduceCtorEq, Nat.reduceEqDiff, Nat.reduceLT, Nat.reduceLeDiff, Nat.reduceAdd, Nat.reduceSub, Nat.reduceMul, Nat.reduceGT, Int.reduceNeg, Int.reduceToNat, a2, a3, a5]
  refine ite_cases (fun hlt => ?_) (fun hlt => ?_)
  · have hlt' : k < x.start.length := Es.len_lt.1 hlt
    refine awp_plan ((.op 0 (.op 1 (.op 2 (.op 3 (.op 4 (.op 5 (.op 6 (.op 7 (.op 8 (.op 9 (.op 10 .done)))))))))))) [] mix (by kernel_rfl) ?_
    simp only [go_sem, ↓reduceIte, reduceCtorEq, Nat.reduceEqDiff, Nat.reduceLT, Nat.reduceLeDiff, Nat.reduceAdd, Nat.reduceSub, Nat.reduceMul, Nat.reduceGT, Int.reduceNeg, Int.reduceToNat, a2, a3, a5]
    refine ⟨⟨by omega, hlt⟩, ⟨by omega, hlt⟩, ?_⟩
    refine ite_cases (fun he => by simp at he) (fun he => ?_)
    refine ⟨hlt', ?_⟩
    simp only [go_sem, ↓reduceIte, reduceCtorEq, Nat.reduceEqDiff, Nat.reduceLT, Nat.reduceLeDiff, Nat.reduceAdd, Nat.reduceSub, Nat.reduceMul, Nat.reduceGT, Int.reduceNeg, Int.reduceToNat, a2, a3, a5]
    rw [wrap_i64 _ (by omega) (by omega)]; simp
  · trivial
theorem clauses24_spec (u : List Es.Clause) (ha : u.length ≤ 9223372036854775807) (hs : ∀ x ∈ u, x.start.length ≤ 9223372036854775807) : APure M 44 [slD 16 clsC u, slD 16 clsC u] (.v (.bool true)) := by
  refine pure_of gpu func44 rfl results44 ntmps44 (by simp) ⟨pu_slD pu_clsC _, pu_slD pu_clsC _, trivial⟩ ?_
  intro b
  simp only [go_sem, ↓reduceIte, reduceCtorEq, Nat.reduceEqDiff, Nat.reduceLT, Nat.reduceLeDiff, Nat.reduceAdd, Nat.reduceSub, Nat.reduceMul, Nat.reduceGT, Int.reduceNeg, Int.reduceToNat]
  refine ite_cases (fun hne => by simp at hne) (fun hne => ?_)
  refine awp_count0 u.length (fun e0 s0 k e st => (e 0 = e0 0 ∧ e 1 = e0 1) ∧ e 5 = .v (.int .i64 k) ∧ st = s0) ⟨⟨rfl, rfl⟩, ?_, rfl⟩ ?_
  · simp only [go_sem, ↓reduceIte, reduceCtorEq, Nat.reduceEqDiff, Nat.reduceLT, Nat.reduceLeDiff, Nat.reduceAdd, Nat.reduceSub, Nat.reduceMul, Nat.reduceGT, Int.reduceNeg, Int.reduceToNat]; rfl
  rintro k e st hk ⟨⟨a0, a1⟩, a5, rfl⟩
  simp only [go_sem, ↓reduceIte, reduceCtorEq, Nat.reduceEqDiff, Nat.reduceLT, Nat.reduceLeDiff, Nat.reduceAdd, Nat.reduceSub, Nat.reduceMul, Nat.reduceGT, Int.reduceNeg, Int.reduceToNat] at a0 a1
  simp only [go_sem, ↓reduceIte, reduceCtorEq, Nat.reduceEqDiff, Nat.reduceLT, Nat.reduceLeDiff, Nat.reduceAdd, Nat.reduceSub, Nat.reduceMul, Nat.reduceGT, Int.reduceNeg, Int.reduceToNat, a0, a1, a5]
  refine ite_cases (fun hlt => ?_) (fun hlt => ?_)
  · have hlt' : k < u.length := Es.len_lt.1 hlt
    refine awp_plan ((.op 0 (.op 1 (.op 2 (.op 3 (.op 4 (.op 5 (.op 6 (.op 7 (.op 8 (.op 9 .done))))))))))) [] mix (by kernel_rfl) ?_
    simp only [go_sem, ↓reduceIte, reduceCtorEq, Nat.reduceEqDiff, Nat.reduceLT, Nat.reduceLeDiff, Nat.reduceAdd, Nat.reduceSub, Nat.reduceMul, Nat.reduceGT, Int.reduceNeg, Int.reduceToNat, a0, a1, a5]
    refine ⟨⟨by omega, hlt⟩, ⟨by omega, hlt⟩, ?_⟩
    refine call_at M_P M_G (clause24_spec (Es.at_ u (k : Int)) (hs _ (Es.at_mem hlt'))) ?_
    simp only [go_sem, ↓reduceIte, reduceCtorEq, Nat.reduceEqDiff, Nat.reduceLT, Nat.reduceLeDiff, Nat.reduceAdd, Nat.reduceSub, Nat.reduceMul, Nat.reduceGT, Int.reduceNeg, Int.reduceToNat, a0, a1, a5]
    repeat' (first | (with_reducible refine And.intro ?_ ?_) | ((with_reducible refine ite_cases ?_ ?_) <;> intro _))
    refine ⟨hlt', ?_⟩
    simp only [go_sem, ↓reduceIte, reduceCtorEq, Nat.reduceEqDiff, Nat.reduceLT, Nat.reduceLeDiff, Nat.reduceAdd, Nat.reduceSub, Nat.reduceMul, Nat.reduceGT, Int.reduceNeg, Int.reduceToNat, a0, a1, a5]
    rw [wrap_i64 _ (by omega) (by omega)]; simp
  · trivial
theorem same24_spec (c : Es.Contract) (hf : Es.Fits c) (hs : ∀ x ∈ c.clauses, x.start.length ≤ 9223372036854775807) : APure M 21 [conD c, conD c] (.v (.bool true)) := by
  have hfu := hf.units
  have hfa := hf.acts
  refine pure_of gpu func21 rfl results21 ntmps21 (by simp) ⟨pu_conD _, pu_conD _, trivial⟩ ?_
  intro b
  simp only [go_sem, ↓reduceIte, reduceCtorEq, Nat.reduceEqDiff, Nat.reduceLT, Nat.reduceLeDiff, Nat.reduceAdd, Nat.reduceSub, Nat.reduceMul, Nat.reduceGT, Int.reduceNeg, Int.reduceToNat]
  simp only [bne_self_eq_false, ↓reduceIte, Bool.false_eq_true]
  repeat' (first | ((with_reducible refine call_at M_P M_G (ints24_spec c.holders hf.holders) ?_); simp only [go_sem, ↓reduceIte, reduceCtorEq, Nat.reduceEqDiff, Nat.reduceLT, Nat.reduceLeDiff, Nat.reduceAdd, Nat.reduceSub, Nat.reduceMul, Nat.reduceGT, Int.reduceNeg, Int.reduceToNat]) | ((with_reducible refine call_at M_P M_G (ints24_spec c.off hf.off) ?_); simp only [go_sem, ↓reduceIte, reduceCtorEq, Nat.reduceEqDiff, Nat.reduceLT, Nat.reduceLeDiff, Nat.reduceAdd, Nat.reduceSub, Nat.reduceMul, Nat.reduceGT, Int.reduceNeg, Int.reduceToNat]) | (with_reducible refine And.intro ?_ ?_) | ((with_reducible refine ite_cases ?_ ?_) <;> intro _))
  all_goals first
    | (exfalso; simp_all; done)
    | skip
  refine awp_count0 c.units.length (fun e0 s0 k e s => (e 2 = e0 2 ∧ e 3 = e0 3) ∧ e 5 = .v (.int .i64 k) ∧ s = s0) ⟨⟨rfl, rfl⟩, ?_, rfl⟩ ?_
  · simp only [go_sem, ↓reduceIte, reduceCtorEq, Nat.reduceEqDiff, Nat.reduceLT, Nat.reduceLeDiff, Nat.reduceAdd, Nat.reduceSub, Nat.reduceMul, Nat.reduceGT, Int.reduceNeg, Int.reduceToNat]; rfl
  rintro k e s hk ⟨⟨a2, a3⟩, a5, rfl⟩
  simp only [go_sem, ↓reduceIte, reduceCtorEq, Nat.reduceEqDiff, Nat.reduceLT, Nat.reduceLeDiff, Nat.reduceAdd, Nat.reduceSub, Nat.reduceMul, Nat.reduceGT, Int.reduceNeg, Int.reduceToNat] at a2 a3
  simp only [go_sem, ↓reduceIte, reduceCtorEq, Nat.reduceEqDiff, Nat.reduceLT, Nat.reduceLeDiff, Nat.reduceAdd, Nat.reduceSub, Nat.reduceMul, Nat.reduceGT, Int.reduceNeg, Int.reduceToNat, a2, a3, a5]
  refine ite_cases (fun hlt => ?_) (fun hlt => ?_)
  · have hlt' : k < c.units.length := Es.len_lt.1 hlt
    refine awp_plan ((.op 0 (.op 1 (.op 2 (.op 3 (.op 4 (.op 5 (.op 6 (.op 7 (.op 8 (.op 9 (.op 10 .done)))))))))))) [] mix (by kernel_rfl) ?_
    simp only [go_sem, ↓reduceIte, reduceCtorEq, Nat.reduceEqDiff, Nat.reduceLT, Nat.reduceLeDiff, Nat.reduceAdd, Nat.reduceSub, Nat.reduceMul, Nat.reduceGT, Int.reduceNeg, Int.reduceToNat, a2, a3, a5]
    refine ⟨⟨by omega, hlt⟩, ⟨by omega, hlt⟩, ?_⟩
    refine ite_cases (fun hd => by simp at hd) (fun hd => ?_)
    refine ⟨hlt', ?_⟩
    simp only [go_sem, ↓reduceIte, reduceCtorEq, Nat.reduceEqDiff, Nat.reduceLT, Nat.reduceLeDiff, Nat.reduceAdd, Nat.reduceSub, Nat.reduceMul, Nat.reduceGT, Int.reduceNeg, Int.reduceToNat, a2, a3, a5]
    rw [wrap_i64 _ (by omega) (by omega)]; simp
  refine awp_count0 c.acts.length (fun e0 s0 k e s => (e 2 = e0 2 ∧ e 3 = e0 3) ∧ e 6 = .v (.int .i64 k) ∧ s = s0) ⟨⟨rfl, rfl⟩, ?_, rfl⟩ ?_
  · simp only [go_sem, ↓reduceIte, reduceCtorEq, Nat.reduceEqDiff, Nat.reduceLT, Nat.reduceLeDiff, Nat.reduceAdd, Nat.reduceSub, Nat.reduceMul, Nat.reduceGT, Int.reduceNeg, Int.reduceToNat]; rfl
  rintro k2 e2 s2 hk2 ⟨⟨b2, b3⟩, b6, rfl⟩
  simp only [go_sem, ↓reduceIte, reduceCtorEq, Nat.reduceEqDiff, Nat.reduceLT, Nat.reduceLeDiff, Nat.reduceAdd, Nat.reduceSub, Nat.reduceMul, Nat.reduceGT, Int.reduceNeg, Int.reduceToNat] at b2 b3
  rw [a2] at b2
  rw [a3] at b3
  simp only [go_sem, ↓reduceIte, reduceCtorEq, Nat.reduceEqDiff, Nat.reduceLT, Nat.reduceLeDiff, Nat.reduceAdd, Nat.reduceSub, Nat.reduceMul, Nat.reduceGT, Int.reduceNeg, Int.reduceToNat, b2, b3, b6]
  refine ite_cases (fun hlt2 => ?_) (fun hlt2 => ?_)
  · have hlt2' : k2 < c.acts.length := Es.len_lt.1 hlt2
    refine awp_plan ((.op 0 (.op 1 (.op 2 (.op 3 (.op 4 (.op 5 (.op 6 (.op 7 (.op 8 (.op 9 (.op 10 .done)))))))))))) [] mix (by kernel_rfl) ?_
    simp only [go_sem, ↓reduceIte, reduceCtorEq, Nat.reduceEqDiff, Nat.reduceLT, Nat.reduceLeDiff, Nat.reduceAdd, Nat.reduceSub, Nat.reduceMul, Nat.reduceGT, Int.reduceNeg, Int.reduceToNat, b2, b3, b6]
    refine ⟨⟨by omega, hlt2⟩, ⟨by omega, hlt2⟩, ?_⟩
    refine ite_cases (fun hd => by simp at hd) (fun hd => ?_)
    refine ⟨hlt2', ?_⟩
    simp only [go_sem, ↓reduceIte, reduceCtorEq, Nat.reduceEqDiff, Nat.reduceLT, Nat.reduceLeDiff, Nat.reduceAdd, Nat.reduceSub, Nat.reduceMul, Nat.reduceGT, Int.reduceNeg, Int.reduceToNat, b2, b3, b6]
    refine ⟨⟨a2.symm, a3.symm⟩, by rw [wrap_i64 _ (by omega) (by omega)]; simp⟩
  refine call_at M_P M_G (clauses24_spec c.clauses hf.clauses hs) ?_
  simp only [go_sem, ↓reduceIte, reduceCtorEq, Nat.reduceEqDiff, Nat.reduceLT, Nat.reduceLeDiff, Nat.reduceAdd, Nat.reduceSub, Nat.reduceMul, Nat.reduceGT, Int.reduceNeg, Int.reduceToNat]
end Tryz
end Go.Proofs
end
section
/-
  A run without amendments is the run of the contract.
-/
namespace Es
/-- The state after i steps. -/
def vSt (c : Contract) (s : State) (tr : List Int) (i : Nat) : State := (tr.take i).foldl (fun s k => (step c s k).1) s
def vErr (c : Contract) (s : State) (tr : List Int) (i : Nat) : Int := (step c (vSt c s tr i) (at_ tr (i : Int))).2
/-- The states of a trace, or its error. -/
def vrun (c : Contract) (tr : List Int) : List State × Int :=
  if !((start c).2 == 0) then ([], (start c).2)
  else if decide (4000 < len tr) then ([], 3)
  else match (List.range tr.length).find? (fun i => vErr c (start c).1 tr i != 0) with
    | some i => ([], vErr c (start c).1 tr i)
    | none => ((List.range (tr.length + 1)).map (vSt c (start c).1 tr), 0)
theorem vSt_succ (c : Contract) (s : State) (k : Int) (tr : List Int) (i : Nat) : vSt c s (k :: tr) (i + 1) = vSt c (step c s k).1 tr i := by
  unfold vSt; rw [List.take_succ_cons, List.foldl_cons]
theorem vErr_succ (c : Contract) (s : State) (k : Int) (tr : List Int) (i : Nat) : vErr c s (k :: tr) (i + 1) = vErr c (step c s k).1 tr i := by
  have h : at_ (k :: tr) ((i + 1 : Nat) : Int) = at_ tr (i : Int) := by simp [at_]
  unfold vErr
  rw [vSt_succ, h]
theorem vErr_zero (c : Contract) (s : State) (k : Int) (tr : List Int) : vErr c s (k :: tr) 0 = (step c s k).2 := by
  have h : at_ (k :: tr) ((0 : Nat) : Int) = k := by simp [at_]
  unfold vErr; rw [h]; rfl
theorem vSt_next {c : Contract} {s : State} {tr : List Int} {i : Nat} (h : i < tr.length) : vSt c s tr (i + 1) = (step c (vSt c s tr i) (at_ tr (i : Int))).1 := by
  unfold vSt
  rw [List.take_succ_eq_append_getElem h, List.foldl_append, at_nat h]
  rfl
theorem stagesF_nil (c : Contract) : ∀ (tr : List Int) (s : State),
    (∃ i z, i < tr.length ∧ (∀ j, j < i → vErr c s tr j = 0) ∧ vErr c s tr i ≠ 0 ∧ (stagesF c s [] tr).find? (fun z => z.err != 0) = some z ∧ z.err = vErr c s tr i) ∨
    ((∀ j, j < tr.length → vErr c s tr j = 0) ∧ (stagesF c s [] tr).find? (fun z => z.err != 0) = none ∧ (stagesF c s [] tr).length = tr.length ∧ (∀ z ∈ stagesF c s [] tr, z.con = c) ∧ (stagesF c s [] tr).map (·.st) = (List.range tr.length).map fun i => vSt c s tr (i + 1))
  | [], s => by right; simp [stagesF]
  | k :: tr, s => by
    by_cases h : (step c s k).2 = 0
    · have hF : stagesF c s [] (k :: tr) = ⟨c, (step c s k).1, 0⟩ :: stagesF c (step c s k).1 [] tr := by
        rw [stagesF, if_neg (by simp [h])]
        simp only [applyS]
        split <;> rfl
      rw [hF]
      rcases stagesF_nil c tr (step c s k).1 with ⟨i, z, h1, h2, h3, h4, h5⟩ | ⟨h1, h2, h3, h4, h5⟩
      · left
        refine ⟨i + 1, z, by simp; omega, fun j hj => ?_, by rw [vErr_succ]; exact h3, by simpa using h4, by rw [vErr_succ]; exact h5⟩
        cases j with
        | zero => rw [vErr_zero]; exact h
        | succ j => rw [vErr_succ]; exact h2 j (by omega)
      · right
        refine ⟨fun j hj => ?_, by simpa using h2, by simp [h3], fun z hz => ?_, ?_⟩
        · cases j with
          | zero => rw [vErr_zero]; exact h
          | succ j => rw [vErr_succ]; exact h1 j (by simpa using hj)
        · rcases List.mem_cons.1 hz with rfl | hz
          · rfl
          · exact h4 z hz
        · rw [List.map_cons, h5, List.length_cons, List.range_succ_eq_map, List.map_cons, List.map_map]
          rfl
    · left
      refine ⟨0, ⟨c, (step c s k).1, (step c s k).2⟩, by simp, by omega, by rw [vErr_zero]; exact h, ?_, by rw [vErr_zero]⟩
      rw [stagesF, if_pos (by simp [h])]
      simp [h]
theorem find_first {p : Nat → Bool} : ∀ {n i : Nat}, i < n → (∀ j, j < i → p j = false) → p i = true → (List.range n).find? p = some i := by
  intro n i hi h1 h2
  rw [List.find?_eq_some_iff_append]
  refine ⟨h2, List.range i, (List.range (n - i - 1)).map (· + (i + 1)), ?_, fun j hj => ?_⟩
  · apply List.ext_getElem
    · simp; omega
    · intro k hk1 hk2
      simp only [List.getElem_range]
      rcases Nat.lt_trichotomy k i with h | h | h
      · rw [List.getElem_append_left (by simpa using h)]; simp
      · subst h; rw [List.getElem_append_right (by simp)]; simp
      · rw [List.getElem_append_right (by simpa using Nat.le_of_lt h)]
        simp only [List.length_range]
        obtain ⟨m, hm⟩ : ∃ m, k - i = m + 1 := ⟨k - i - 1, by omega⟩
        simp only [hm, List.getElem_cons_succ, List.getElem_map, List.getElem_range]
        omega
  · have := h1 j (by simpa using hj); simp [this]
theorem find_none {p : Nat → Bool} {n : Nat} (h : ∀ j, j < n → p j = false) : (List.range n).find? p = none := by
  rw [List.find?_eq_none]
  intro j hj
  have := h j (by simpa using hj); simp [this]
theorem vrun_bad {c : Contract} {tr : List Int} {i : Nat} (h0 : (start c).2 = 0) (hl : ¬ 4000 < len tr) (hi : i < tr.length) (h1 : ∀ j, j < i → vErr c (start c).1 tr j = 0) (h2 : vErr c (start c).1 tr i ≠ 0) : vrun c tr = ([], vErr c (start c).1 tr i) := by
  unfold vrun
  rw [if_neg (by simp [h0]), if_neg (by simpa using hl), find_first hi (fun j hj => by simp [h1 j hj]) (by simpa using h2)]
theorem vrun_good {c : Contract} {tr : List Int} (h0 : (start c).2 = 0) (hl : ¬ 4000 < len tr) (h1 : ∀ j, j < tr.length → vErr c (start c).1 tr j = 0) : vrun c tr = ((List.range (tr.length + 1)).map (vSt c (start c).1 tr), 0) := by
  unfold vrun
  rw [if_neg (by simp [h0]), if_neg (by simpa using hl), find_none (fun j hj => by simp [h1 j hj])]
/-- Without amendments. -/
theorem law_none (c : Contract) (known : Int) (tr : List Int) (hl : ¬ 60 < len tr) :
    (runG c [] known tr).2.2 = (vrun c tr).2 ∧ ((vrun c tr).2 = 0 → (runG c [] known tr).2.1 = (vrun c tr).1 ∧ (runG c [] known tr).1.length = (vrun c tr).1.length ∧ ∀ x ∈ (runG c [] known tr).1, x = c) := by
  by_cases h0 : (start c).2 = 0
  · have h4 : ¬ 4000 < len tr := by omega
    have hA : stagesA c (todoA [] known) tr = ⟨c, (start c).1, 0⟩ :: stagesF c (start c).1 [] tr := by
      show stagesA c [] tr = _
      unfold stagesA
      rw [show applyU 0 [] c = (c, []) from rfl]
      simp only [h0]
      rfl
    have hR : runG c [] known tr = match (stagesF c (start c).1 [] tr).find? (fun z => z.err != 0) with
        | some z => ([], [], z.err)
        | none => (c :: (stagesF c (start c).1 [] tr).map (·.con), (start c).1 :: (stagesF c (start c).1 [] tr).map (·.st), 0) := by
      unfold runG
      rw [if_neg (by simp [h0]), if_neg (by simp only [len, List.length_nil] at h4 ⊢; simp [h4]), hA]
      rw [List.find?_cons_of_neg (by simp)]
      cases (stagesF c (start c).1 [] tr).find? (fun z => z.err != 0) <;> rfl
    rcases stagesF_nil c tr (start c).1 with ⟨i, z, h1, h2, h3, h5, h6⟩ | ⟨h1, h2, h3, h5, h6⟩
    · rw [hR, h5, vrun_bad h0 h4 h1 h2 h3]
      exact ⟨h6, fun h => absurd h h3⟩
    · rw [hR, h2, vrun_good h0 h4 h1]
      refine ⟨rfl, fun _ => ⟨?_, ?_, ?_⟩⟩
      · show _ = List.map _ (List.range (tr.length + 1))
        rw [h6, List.range_succ_eq_map, List.map_cons, List.map_map]
        rfl
      · simp [h3]
      · intro x hx
        rcases List.mem_cons.1 hx with rfl | hx
        · rfl
        · obtain ⟨z, hz, rfl⟩ := List.mem_map.1 hx
          exact h5 z hz
  · have hR : runG c [] known tr = ([], [], (start c).2) := by unfold runG; rw [if_pos (by simp [h0])]
    have hV : vrun c tr = ([], (start c).2) := by unfold vrun; rw [if_pos (by simp [h0])]
    rw [hR, hV]
    exact ⟨rfl, fun h => absurd h h0⟩
end Es
end
section
namespace Es
theorem range_map_succ {α : Type} (f : Nat → α) (n : Nat) : (List.range (n + 1)).map f = (List.range n).map f ++ [f n] := by
  rw [List.range_succ, List.map_append]; rfl
def vSts (c : Contract) (tr : List Int) (n : Nat) : List State := (List.range n).map (vSt c (start c).1 tr)
theorem vSts_len (c : Contract) (tr : List Int) (n : Nat) : (vSts c tr n).length = n := by simp [vSts]
theorem vSts_next {c : Contract} {tr : List Int} {k : Nat} (h : k < tr.length) : vSts c tr (k + 1 + 1) = vSts c tr (k + 1) ++ [(step c (vSt c (start c).1 tr k) (at_ tr (k : Int))).1] := by
  unfold vSts; rw [range_map_succ _ (k + 1), vSt_next h]
theorem sfits_vSt (c : Contract) (tr : List Int) (k : Nat) : SFits (vSt c (start c).1 tr k) := by
  have key : ∀ (l : List Int) (s : State), SFits s → SFits (l.foldl (fun s k => (step c s k).1) s) := by
    intro l
    induction l with
    | nil => exact fun s h => h
    | cons k l ih => exact fun s _ => ih _ (sfits_step c s k)
  exact key _ _ (sfits_start c)
theorem step_out {c : Contract} {s : State} {k : Int} (h : k < -1 ∨ len c.acts ≤ k) : (step c s k).2 = 1 := by
  unfold step
  rw [if_pos (by simp only [Bool.or_eq_true, decide_eq_true_eq]; omega)]
end Es
namespace Go.Proofs
open Go Go.Abs
set_option linter.unusedSimpArgs false
set_option linter.unusedVariables false
set_option maxRecDepth 10000
theorem OutL.moreN {α : Type} [Inhabited α] {f : α → Nat → D} {w n0 n : Nat} {ty : TypeId} {l : List α} {o : St} {x : α} {g : Nat} {cell src : Nat → Nat → D} (hn : l.length = n) (h2 : n0 ≤ g) (hc : ∀ r c, r < l.length → c < w → cell r c = rowsOf f l r c) (hs : ∀ j, j < w → src 0 j = f x j) : OutL f w ty n0 ⟨St.set o g 0 (some (.blk w (n + 1) ty (appC cell n src))), g + 1⟩ (.ms g 0 w 0 (n + 1)) (l ++ [x]) := by
  subst hn; exact OutL.more' h2 hc hs
namespace Tryz
def resV (x : List Es.State × Int) : D := .tup [slD 4 staC x.1, .v (.int .i64 x.2)]
@[go_sem] theorem resV_eq (x : List Es.State × Int) : resV x = .tup [slD 4 staC x.1, .v (.int .i64 x.2)] := nr rfl
theorem sta_row (x : Es.State) (j : Nat) (hj : j < 4) : List.getD [.v (.int .i64 x.day), slD 1 intC x.holders, slD 1 booC x.used, slD 5 mrkC x.marks] j D.any = staC x j := by
  rcases (show j = 0 ∨ j = 1 ∨ j = 2 ∨ j = 3 by omega) with rfl | rfl | rfl | rfl <;> rfl
theorem vrun_spec (c : Es.Contract) (tr : List Int) (hf : Es.Fits c) (hl : tr.length ≤ 9223372036854775807) : APure M 20 [conD c, slD 1 intC tr] (resV (Es.vrun c tr)) := by
  refine pure_of gpu func20 rfl results20 ntmps20 (by simp) ⟨pu_conD _, pu_slD pu_intC _, trivial⟩ ?_
  intro b
  simp only [go_sem, ↓reduceIte, reduceCtorEq, Nat.reduceEqDiff, Nat.reduceLT, Nat.reduceLeDiff, Nat.reduceAdd, Nat.reduceSub, Nat.reduceMul, Nat.reduceGT, Int.reduceNeg, Int.reduceToNat]
  refine call_at M_P M_G (start_spec c hf) ?_
  simp only [go_sem, ↓reduceIte, reduceCtorEq, Nat.reduceEqDiff, Nat.reduceLT, Nat.reduceLeDiff, Nat.reduceAdd, Nat.reduceSub, Nat.reduceMul, Nat.reduceGT, Int.reduceNeg, Int.reduceToNat]
  refine ite_cases (fun h0 => ?_) (fun h0 => ?_)
  · unfold Es.vrun
    rw [if_pos (by simpa using h0)]
    exact Fz_tup ⟨.nil _ _, .v _, trivial⟩
  have h0' : (Es.start c).2 = 0 := by simpa using h0
  refine ite_cases (fun h4 => ?_) (fun h4 => ?_)
  · unfold Es.vrun
    rw [if_neg (by simpa using h0), if_pos (by simpa using h4)]
    exact Fz_tup ⟨.nil _ _, .v _, trivial⟩
  have h4' : ¬ 4000 < Es.len tr := by simpa using h4
  refine awp_count0 tr.length (fun e0 s0 k e st => (e 2 = e0 2 ∧ e 6 = e0 6 ∧ e 24 = e0 24 ∧ e 25 = e0 25) ∧ e 26 = .v (.int .i64 k) ∧ 2 ≤ st.nx ∧ st.o 0 0 = s0.o 0 0 ∧ (∀ j, j < k → Es.vErr c (Es.start c).1 tr j = 0) ∧
      st.o 1 0 = some (.blk 4 1 38 (rowOf [.v (.int .i64 (Es.vSt c (Es.start c).1 tr k).day), slD 1 intC (Es.vSt c (Es.start c).1 tr k).holders, slD 1 booC (Es.vSt c (Es.start c).1 tr k).used, slD 5 mrkC (Es.vSt c (Es.start c).1 tr k).marks])) ∧
      OutL staC 4 38 2 st (e 8) (Es.vSts c tr (k + 1))) ⟨⟨rfl, rfl, rfl, rfl⟩, ?_, ?_, rfl, (by omega), ?_, ?_⟩ ?_
  · simp only [go_sem, ↓reduceIte, reduceCtorEq, Nat.reduceEqDiff, Nat.reduceLT, Nat.reduceLeDiff, Nat.reduceAdd, Nat.reduceSub, Nat.reduceMul, Nat.reduceGT, Int.reduceNeg, Int.reduceToNat]; rfl
  · simp only; omega
  · rfl
  · refine .inr ⟨2, _, rfl, by omega, by simp only; omega, rfl, fun r c' hr hc' => ?_⟩
    obtain rfl : r = 0 := by rw [Es.vSts_len] at hr; omega
    have hz : Es.vSt c (Es.start c).1 tr 0 = (Es.start c).1 := rfl
    simp only [Es.vSts, rowsOf, List.range_one, List.map_cons, List.map_nil, Nat.zero_add, hz]
    rcases (show c' = 0 ∨ c' = 1 ∨ c' = 2 ∨ c' = 3 by omega) with rfl | rfl | rfl | rfl <;> rfl
  rintro k e ⟨o2, n2⟩ hk ⟨⟨a2, a6, a24, a25⟩, a26, hn, i0, hall, i1, hO⟩
  simp only [go_sem, ↓reduceIte, reduceCtorEq, Nat.reduceEqDiff, Nat.reduceLT, Nat.reduceLeDiff, Nat.reduceAdd, Nat.reduceSub, Nat.reduceMul, Nat.reduceGT, Int.reduceNeg, Int.reduceToNat] at a2 a6 a24 a25
  simp only [go_sem, ↓reduceIte, reduceCtorEq, Nat.reduceEqDiff, Nat.reduceLT, Nat.reduceLeDiff, Nat.reduceAdd, Nat.reduceSub, Nat.reduceMul, Nat.reduceGT, Int.reduceNeg, Int.reduceToNat] at hn i0 i1
  have e0 : ∀ {a b : Nat}, a ≠ b → (a = b) = False := fun h => by simp [h]
  have w1 : (0 = 1) = False := e0 (by omega); have w2 : (0 = n2) = False := e0 (by omega); have w3 : (0 = n2 + 1) = False := e0 (by omega); have w4 : (0 = n2 + 1 + 1) = False := e0 (by omega); have w5 : (1 = 0) = False := e0 (by omega); have w6 : (1 = n2) = False := e0 (by omega); have w7 : (1 = n2 + 1) = False := e0 (by omega); have w8 : (1 = n2 + 1 + 1) = False := e0 (by omega); have w9 : (n2 = 0) = False := e0 (by omega); have w10 : (n2 = 1) = False := e0 (by omega); have w11 : (n2 = n2 + 1) = False := e0 (by omega); have w12 : (n2 = n2 + 1 + 1) = False := e0 (by omega); have w13 : (n2 + 1 = 0) = False := e0 (by omega); have w14 : (n2 + 1 = 1) = False := e0 (by omega); have w15 : (n2 + 1 = n2) = False := e0 (by omega); have w16 : (n2 + 1 = n2 + 1 + 1) = False := e0 (by omega); have w17 : (n2 + 1 + 1 = 0) = False := e0 (by omega); have w18 : (n2 + 1 + 1 = 1) = False := e0 (by omega); have w19 : (n2 + 1 + 1 = n2) = False := e0 (by omega); have w20 : (n2 + 1 + 1 = n2 + 1) = False := e0 (by omega)
  refine Classical.byCases (p := k < tr.length) (fun hlt' => ?_) (fun hlt' => ?_)
  · have hw : IntKind.i64.wrap ((k : Int) + 1) = (k : Int) + 1 := wrap_i64 _ (by omega) (by omega)
    have hlt : (k : Int) < Es.len tr := Es.len_lt.2 hlt'
    simp only [go_sem, ↓reduceIte, reduceCtorEq, Nat.reduceEqDiff, Nat.reduceLT, Nat.reduceLeDiff, Nat.reduceAdd, Nat.reduceSub, Nat.reduceMul, Nat.reduceGT, Int.reduceNeg, Int.reduceToNat, a2, a6, a24, a25, a26, i0, i1, hw, w1, w2, w3, w4, w5, w6, w7, w8, w9, w10, w11, w12, w13, w14, w15, w16, w17, w18, w19, w20]
    refine ite_cases (fun _ => ?_) (fun h => absurd hlt h)
    refine ⟨⟨by omega, hlt⟩, ?_⟩
    have hbad : (Es.at_ tr (k : Int) < -1 ∨ Es.len c.acts ≤ Es.at_ tr (k : Int)) → Fz ⟨o2, n2⟩ (.tup [.v (.slice none 0 0), .v (.int .i64 1)]) (.tup [slD 4 staC (Es.vrun c tr).1, .v (.int .i64 (Es.vrun c tr).2)]) := fun h => by
      have h1 : Es.vErr c (Es.start c).1 tr k = 1 := Es.step_out h
      rw [Es.vrun_bad h0' h4' hlt' hall (by omega), h1]
      exact Fz_tup ⟨.nil _ _, .v _, trivial⟩
    refine ite_cases (fun q1 => ?_) (fun q1 => ?_)
    · refine ite_cases (fun q2 => ?_) (fun q2 => ?_)
      · refine ite_cases (fun q3 => ?_) (fun q3 => ?_)
        · exact hbad (.inr q3)
        ·
          refine call_at M_P M_G (step_spec c (Es.vSt c (Es.start c).1 tr k) (Es.at_ tr (k : Int)) hf (Es.sfits_vSt _ _ _)) ?_
          simp only [go_sem, ↓reduceIte, reduceCtorEq, Nat.reduceEqDiff, Nat.reduceLT, Nat.reduceLeDiff, Nat.reduceAdd, Nat.reduceSub, Nat.reduceMul, Nat.reduceGT, Int.reduceNeg, Int.reduceToNat, a2, a6, a24, a25, a26, i0, i1, hw, w1, w2, w3, w4, w5, w6, w7, w8, w9, w10, w11, w12, w13, w14, w15, w16, w17, w18, w19, w20]
          refine ite_cases (fun he => ?_) (fun he => ?_)
          · rw [Es.vrun_bad h0' h4' hlt' hall (by simpa [Es.vErr] using he)]
            exact Fz_tup ⟨.nil _ _, .v _, trivial⟩
          have he' : Es.vErr c (Es.start c).1 tr k = 0 := by simpa [Es.vErr] using he
          have hll := Es.vSts_len c tr (k + 1)
          have hall' : ∀ j, j < k + 1 → Es.vErr c (Es.start c).1 tr j = 0 := fun j hj => by
            rcases Nat.lt_or_ge j k with h | h
            · exact hall j h
            · have : j = k := by omega
              rw [this]; exact he'
          generalize hd : e 8 = d at hO
          rcases hO with ⟨hnil, rfl⟩ | ⟨g, cl, rfl, hg1, hg2, hg3, hg4⟩
          · rw [hnil] at hll; simp at hll
          rw [hll] at hg3
          simp only at hg2 hg3
          have v1 : (0 = 1) = False := e0 (by omega); have v2 : (0 = g) = False := e0 (by omega); have v3 : (0 = n2) = False := e0 (by omega); have v4 : (0 = n2 + 1) = False := e0 (by omega); have v5 : (0 = n2 + 1 + 1) = False := e0 (by omega); have v6 : (1 = 0) = False := e0 (by omega); have v7 : (1 = g) = False := e0 (by omega); have v8 : (1 = n2) = False := e0 (by omega); have v9 : (1 = n2 + 1) = False := e0 (by omega); have v10 : (1 = n2 + 1 + 1) = False := e0 (by omega); have v11 : (g = 0) = False := e0 (by omega); have v12 : (g = 1) = False := e0 (by omega); have v13 : (g = n2) = False := e0 (by omega); have v14 : (g = n2 + 1) = False := e0 (by omega); have v15 : (g = n2 + 1 + 1) = False := e0 (by omega); have v16 : (n2 = 0) = False := e0 (by omega); have v17 : (n2 = 1) = False := e0 (by omega); have v18 : (n2 = g) = False := e0 (by omega); have v19 : (n2 = n2 + 1) = False := e0 (by omega); have v20 : (n2 = n2 + 1 + 1) = False := e0 (by omega); have v21 : (n2 + 1 = 0) = False := e0 (by omega); have v22 : (n2 + 1 = 1) = False := e0 (by omega); have v23 : (n2 + 1 = g) = False := e0 (by omega); have v24 : (n2 + 1 = n2) = False := e0 (by omega); have v25 : (n2 + 1 = n2 + 1 + 1) = False := e0 (by omega); have v26 : (n2 + 1 + 1 = 0) = False := e0 (by omega); have v27 : (n2 + 1 + 1 = 1) = False := e0 (by omega); have v28 : (n2 + 1 + 1 = g) = False := e0 (by omega); have v29 : (n2 + 1 + 1 = n2) = False := e0 (by omega); have v30 : (n2 + 1 + 1 = n2 + 1) = False := e0 (by omega)
          simp only [go_sem, ↓reduceIte, reduceCtorEq, Nat.reduceEqDiff, Nat.reduceLT, Nat.reduceLeDiff, Nat.reduceAdd, Nat.reduceSub, Nat.reduceMul, Nat.reduceGT, Int.reduceNeg, Int.reduceToNat, hd, a2, a6, a24, a25, a26, i0, i1, hw, hg3, hll, v1, v2, v3, v4, v5, v6, v7, v8, v9, v10, v11, v12, v13, v14, v15, v16, v17, v18, v19, v20, v21, v22, v23, v24, v25, v26, v27, v28, v29, v30]
          refine ⟨⟨by omega, by omega⟩, hlt', ?_⟩
          simp only [go_sem, ↓reduceIte, reduceCtorEq, Nat.reduceEqDiff, Nat.reduceLT, Nat.reduceLeDiff, Nat.reduceAdd, Nat.reduceSub, Nat.reduceMul, Nat.reduceGT, Int.reduceNeg, Int.reduceToNat, hd, a2, a6, a24, a25, a26, i0, i1, hw, hg3, hll, v1, v2, v3, v4, v5, v6, v7, v8, v9, v10, v11, v12, v13, v14, v15, v16, v17, v18, v19, v20, v21, v22, v23, v24, v25, v26, v27, v28, v29, v30]
          rw [Es.vSts_next hlt', Es.vSt_next hlt']
          refine ⟨by simp, hall', rfl, ?_⟩
          exact OutL.moreN hll (by omega) hg4 (sta_lit (Es.step c (Es.vSt c (Es.start c).1 tr k) (Es.at_ tr (k : Int))).1)
      · refine hbad (.inl ?_)
        simp only [bne_iff_ne, ne_eq, decide_eq_false_iff_not] at q1 q2
        omega
    ·
      refine call_at M_P M_G (step_spec c (Es.vSt c (Es.start c).1 tr k) (Es.at_ tr (k : Int)) hf (Es.sfits_vSt _ _ _)) ?_
      simp only [go_sem, ↓reduceIte, reduceCtorEq, Nat.reduceEqDiff, Nat.reduceLT, Nat.reduceLeDiff, Nat.reduceAdd, Nat.reduceSub, Nat.reduceMul, Nat.reduceGT, Int.reduceNeg, Int.reduceToNat, a2, a6, a24, a25, a26, i0, i1, hw, w1, w2, w3, w4, w5, w6, w7, w8, w9, w10, w11, w12, w13, w14, w15, w16, w17, w18, w19, w20]
      refine ite_cases (fun he => ?_) (fun he => ?_)
      · rw [Es.vrun_bad h0' h4' hlt' hall (by simpa [Es.vErr] using he)]
        exact Fz_tup ⟨.nil _ _, .v _, trivial⟩
      have he' : Es.vErr c (Es.start c).1 tr k = 0 := by simpa [Es.vErr] using he
      have hll := Es.vSts_len c tr (k + 1)
      have hall' : ∀ j, j < k + 1 → Es.vErr c (Es.start c).1 tr j = 0 := fun j hj => by
        rcases Nat.lt_or_ge j k with h | h
        · exact hall j h
        · have : j = k := by omega
          rw [this]; exact he'
      generalize hd : e 8 = d at hO
      rcases hO with ⟨hnil, rfl⟩ | ⟨g, cl, rfl, hg1, hg2, hg3, hg4⟩
      · rw [hnil] at hll; simp at hll
      rw [hll] at hg3
      simp only at hg2 hg3
      have v1 : (0 = 1) = False := e0 (by omega); have v2 : (0 = g) = False := e0 (by omega); have v3 : (0 = n2) = False := e0 (by omega); have v4 : (0 = n2 + 1) = False := e0 (by omega); have v5 : (0 = n2 + 1 + 1) = False := e0 (by omega); have v6 : (1 = 0) = False := e0 (by omega); have v7 : (1 = g) = False := e0 (by omega); have v8 : (1 = n2) = False := e0 (by omega); have v9 : (1 = n2 + 1) = False := e0 (by omega); have v10 : (1 = n2 + 1 + 1) = False := e0 (by omega); have v11 : (g = 0) = False := e0 (by omega); have v12 : (g = 1) = False := e0 (by omega); have v13 : (g = n2) = False := e0 (by omega); have v14 : (g = n2 + 1) = False := e0 (by omega); have v15 : (g = n2 + 1 + 1) = False := e0 (by omega); have v16 : (n2 = 0) = False := e0 (by omega); have v17 : (n2 = 1) = False := e0 (by omega); have v18 : (n2 = g) = False := e0 (by omega); have v19 : (n2 = n2 + 1) = False := e0 (by omega); have v20 : (n2 = n2 + 1 + 1) = False := e0 (by omega); have v21 : (n2 + 1 = 0) = False := e0 (by omega); have v22 : (n2 + 1 = 1) = False := e0 (by omega); have v23 : (n2 + 1 = g) = False := e0 (by omega); have v24 : (n2 + 1 = n2) = False := e0 (by omega); have v25 : (n2 + 1 = n2 + 1 + 1) = False := e0 (by omega); have v26 : (n2 + 1 + 1 = 0) = False := e0 (by omega); have v27 : (n2 + 1 + 1 = 1) = False := e0 (by omega); have v28 : (n2 + 1 + 1 = g) = False := e0 (by omega); have v29 : (n2 + 1 + 1 = n2) = False := e0 (by omega); have v30 : (n2 + 1 + 1 = n2 + 1) = False := e0 (by omega)
      simp only [go_sem, ↓reduceIte, reduceCtorEq, Nat.reduceEqDiff, Nat.reduceLT, Nat.reduceLeDiff, Nat.reduceAdd, Nat.reduceSub, Nat.reduceMul, Nat.reduceGT, Int.reduceNeg, Int.reduceToNat, hd, a2, a6, a24, a25, a26, i0, i1, hw, hg3, hll, v1, v2, v3, v4, v5, v6, v7, v8, v9, v10, v11, v12, v13, v14, v15, v16, v17, v18, v19, v20, v21, v22, v23, v24, v25, v26, v27, v28, v29, v30]
      refine ⟨⟨by omega, by omega⟩, hlt', ?_⟩
      simp only [go_sem, ↓reduceIte, reduceCtorEq, Nat.reduceEqDiff, Nat.reduceLT, Nat.reduceLeDiff, Nat.reduceAdd, Nat.reduceSub, Nat.reduceMul, Nat.reduceGT, Int.reduceNeg, Int.reduceToNat, hd, a2, a6, a24, a25, a26, i0, i1, hw, hg3, hll, v1, v2, v3, v4, v5, v6, v7, v8, v9, v10, v11, v12, v13, v14, v15, v16, v17, v18, v19, v20, v21, v22, v23, v24, v25, v26, v27, v28, v29, v30]
      rw [Es.vSts_next hlt', Es.vSt_next hlt']
      refine ⟨by simp, hall', rfl, ?_⟩
      exact OutL.moreN hll (by omega) hg4 (sta_lit (Es.step c (Es.vSt c (Es.start c).1 tr k) (Es.at_ tr (k : Int))).1)
  · have hkk : k = tr.length := by omega
    have hlt : ¬ (k : Int) < Es.len tr := by simp only [Es.len]; omega
    simp only [go_sem, ↓reduceIte, reduceCtorEq, Nat.reduceEqDiff, Nat.reduceLT, Nat.reduceLeDiff, Nat.reduceAdd, Nat.reduceSub, Nat.reduceMul, Nat.reduceGT, Int.reduceNeg, Int.reduceToNat, a2, a6, a24, a25, a26, i0, i1, w1, w2, w3, w4, w5, w6, w7, w8, w9, w10, w11, w12, w13, w14, w15, w16, w17, w18, w19, w20]
    refine ite_cases (fun h => absurd h hlt) (fun _ => ?_)
    rw [Es.vrun_good h0' h4' (fun j hj => hall j (by omega))]
    rw [hkk] at hO
    unfold Es.vSts at hO
    exact Fz_tup ⟨hO.fz (fun g _ _ => rfl) pu_staC, .v _, trivial⟩
end Tryz
end Go.Proofs
end
section
namespace Es
theorem small_starts {c : Contract} {n : Int} (h : small c n = true) : ∀ x ∈ c.clauses, x.start.length ≤ 9223372036854775807 := by
  intro x hx
  unfold small at h
  split at h
  · cases h
  · have := List.all_eq_true.1 h x hx
    have h2 := of_decide_eq_true this
    simp only [len] at h2
    omega
theorem vrun_mem {c : Contract} {tr : List Int} : ∀ x ∈ (vrun c tr).1, SFits x := by
  intro x hx
  unfold vrun at hx
  split at hx
  · cases hx
  · split at hx
    · cases hx
    · split at hx
      · cases hx
      · obtain ⟨i, _, rfl⟩ := List.mem_map.1 hx
        exact sfits_vSt c tr i
theorem vrun_len (c : Contract) (tr : List Int) : (vrun c tr).1.length ≤ tr.length + 1 := by
  unfold vrun
  split
  · simp
  · split
    · simp
    · split <;> simp
end Es
namespace Go.Proofs
open Go Go.Abs
set_option linter.unusedSimpArgs false
set_option linter.unusedVariables false
set_option maxRecDepth 10000
namespace Tryz
theorem mnone_spec (c : Es.Contract) (known : Int) (tr : List Int) (hf : Es.Fits c) (hl : tr.length ≤ 9223372036854775807) : APure M 7 [conD c, .v (.int .i64 known), slD 1 intC tr] (.v (.bool true)) := by
  refine pure_of gpu func7 rfl results7 ntmps7 (by simp) ⟨pu_conD _, .v _, pu_slD pu_intC _, trivial⟩ ?_
  intro b
  simp only [go_sem, ↓reduceIte, reduceCtorEq, Nat.reduceEqDiff, Nat.reduceLT, Nat.reduceLeDiff, Nat.reduceAdd, Nat.reduceSub, Nat.reduceMul, Nat.reduceGT, Int.reduceNeg, Int.reduceToNat]
  repeat' (first | ((with_reducible refine call_at M_P M_G (head27_spec) ?_); simp only [go_sem, ↓reduceIte, reduceCtorEq, Nat.reduceEqDiff, Nat.reduceLT, Nat.reduceLeDiff, Nat.reduceAdd, Nat.reduceSub, Nat.reduceMul, Nat.reduceGT, Int.reduceNeg, Int.reduceToNat]) | ((with_reducible refine call_at M_P M_G (small_spec c 40 hf) ?_); simp only [go_sem, ↓reduceIte, reduceCtorEq, Nat.reduceEqDiff, Nat.reduceLT, Nat.reduceLeDiff, Nat.reduceAdd, Nat.reduceSub, Nat.reduceMul, Nat.reduceGT, Int.reduceNeg, Int.reduceToNat]) | (with_reducible refine And.intro ?_ ?_) | ((with_reducible refine ite_cases ?_ ?_) <;> intro _))
  all_goals first
    | trivial
    | skip
  refine Classical.byCases (p := Es.small c 40 = true ∧ ¬ 60 < Es.len tr) (fun hsm => ?_) (fun hsm => by exfalso; simp_all)
  obtain ⟨hsm, h60⟩ := hsm
  have hlaw := Es.law_none c known tr h60
  have hst := Es.small_starts hsm
  refine acall_weak (args' := [conD c, slD 22 amdC [], .v (.int .i64 known), slD 1 intC tr]) ⟨fun _ _ h => h, wk_nil _ _, fun _ _ h => h, fun _ _ h => h, trivial⟩ ?_
  refine call_at M_P M_G (run_spec c [] known tr hf (by simp) (by simp only [Es.len] at h60; omega)) ?_
  simp only [go_sem, ↓reduceIte, reduceCtorEq, Nat.reduceEqDiff, Nat.reduceLT, Nat.reduceLeDiff, Nat.reduceAdd, Nat.reduceSub, Nat.reduceMul, Nat.reduceGT, Int.reduceNeg, Int.reduceToNat]
  refine call_at M_P M_G (vrun_spec c tr hf hl) ?_
  simp only [go_sem, ↓reduceIte, reduceCtorEq, Nat.reduceEqDiff, Nat.reduceLT, Nat.reduceLeDiff, Nat.reduceAdd, Nat.reduceSub, Nat.reduceMul, Nat.reduceGT, Int.reduceNeg, Int.reduceToNat]
  generalize hG : Es.runG c [] known tr = G at hlaw
  generalize hV : Es.vrun c tr = V at hlaw
  have hfit : ∀ x ∈ V.1, Es.SFits x := hV ▸ Es.vrun_mem
  have hvl : V.1.length ≤ tr.length + 1 := hV ▸ Es.vrun_len c tr
  obtain ⟨h1, h2⟩ := hlaw
  obtain ⟨A, B, e⟩ := G
  obtain ⟨W, f⟩ := V
  simp only at h1 h2 hfit hvl
  subst h1
  simp only [Es.len] at h60
  refine ite_cases (fun he => ?_) (fun he => ?_)
  · obtain ⟨rfl, hlen, hall⟩ := h2 (by simpa using he)
    refine ite_cases (fun h => by simp at h he; exact absurd he h) (fun _ => ?_)
    refine ite_cases (fun _ => ?_) (fun h => by simp at h)
    refine ite_cases (fun h => by simp [Es.len, hlen] at h) (fun _ => ?_)
    refine awp_count0 B.length (fun e0 s0 k e st => (e 3 = e0 3 ∧ e 7 = e0 7 ∧ e 8 = e0 8 ∧ e 9 = e0 9 ∧ e 11 = e0 11) ∧ e 13 = .v (.int .i64 k) ∧ st = s0) ⟨⟨rfl, rfl, rfl, rfl, rfl⟩, ?_, rfl⟩ ?_
    · simp only [go_sem, ↓reduceIte, reduceCtorEq, Nat.reduceEqDiff, Nat.reduceLT, Nat.reduceLeDiff, Nat.reduceAdd, Nat.reduceSub, Nat.reduceMul, Nat.reduceGT, Int.reduceNeg, Int.reduceToNat]; rfl
    rintro k e1 st hk ⟨⟨a3, a7, a8, a9, a11⟩, a13, rfl⟩
    simp only [go_sem, ↓reduceIte, reduceCtorEq, Nat.reduceEqDiff, Nat.reduceLT, Nat.reduceLeDiff, Nat.reduceAdd, Nat.reduceSub, Nat.reduceMul, Nat.reduceGT, Int.reduceNeg, Int.reduceToNat] at a3 a7 a8 a9 a11
    simp only [go_sem, ↓reduceIte, reduceCtorEq, Nat.reduceEqDiff, Nat.reduceLT, Nat.reduceLeDiff, Nat.reduceAdd, Nat.reduceSub, Nat.reduceMul, Nat.reduceGT, Int.reduceNeg, Int.reduceToNat, a3, a7, a8, a9, a11, a13]
    refine ite_cases (fun hlt => ?_) (fun hlt => ?_)
    · have hlt' : k < B.length := Es.len_lt.1 hlt
      have hA : (k : Int) < Es.len A := by simp only [Es.len]; omega
      have hAc : Es.at_ A (k : Int) = c := hall _ (Es.at_mem (by omega))
      refine awp_plan ((.op 0 (.op 1 (.op 2 (.op 3 (.op 4 (.op 5 (.op 6 (.op 7 (.op 8 (.op 9 (.op 10 (.op 11 (.op 12 (.op 13 (.op 14 (.op 15 (.op 16 (.op 17 (.op 18 .done)))))))))))))))))))) [] mix (by kernel_rfl) ?_
      simp only [go_sem, ↓reduceIte, reduceCtorEq, Nat.reduceEqDiff, Nat.reduceLT, Nat.reduceLeDiff, Nat.reduceAdd, Nat.reduceSub, Nat.reduceMul, Nat.reduceGT, Int.reduceNeg, Int.reduceToNat, a3, a7, a8, a9, a11, a13]
      refine ⟨⟨by omega, hlt⟩, ⟨by omega, hlt⟩, ?_⟩
      refine call_at M_P M_G (same_spec (Es.at_ B (k : Int)) (Es.at_ B (k : Int)) (hfit _ (Es.at_mem hlt'))) ?_
      simp only [go_sem, ↓reduceIte, reduceCtorEq, Nat.reduceEqDiff, Nat.reduceLT, Nat.reduceLeDiff, Nat.reduceAdd, Nat.reduceSub, Nat.reduceMul, Nat.reduceGT, Int.reduceNeg, Int.reduceToNat, a3, a7, a8, a9, a11, a13]
      refine ite_cases (fun _ => ?_) (fun h => by simp at h)
      refine ⟨⟨by omega, hA⟩, ?_⟩
      rw [hAc]
      refine call_at M_P M_G (same24_spec c hf hst) ?_
      simp only [go_sem, ↓reduceIte, reduceCtorEq, Nat.reduceEqDiff, Nat.reduceLT, Nat.reduceLeDiff, Nat.reduceAdd, Nat.reduceSub, Nat.reduceMul, Nat.reduceGT, Int.reduceNeg, Int.reduceToNat, a3, a7, a8, a9, a11, a13]
      repeat' (first | (with_reducible refine And.intro ?_ ?_) | ((with_reducible refine ite_cases ?_ ?_) <;> intro _))
      refine ⟨hlt', ?_⟩
      simp only [go_sem, ↓reduceIte, reduceCtorEq, Nat.reduceEqDiff, Nat.reduceLT, Nat.reduceLeDiff, Nat.reduceAdd, Nat.reduceSub, Nat.reduceMul, Nat.reduceGT, Int.reduceNeg, Int.reduceToNat, a3, a7, a8, a9, a11, a13]
      rw [wrap_i64 _ (by omega) (by omega)]; simp
    · trivial
  · repeat' (first | (with_reducible refine And.intro ?_ ?_) | ((with_reducible refine ite_cases ?_ ?_) <;> intro _))
    all_goals first
      | (simp; done)
      | (exfalso; simp_all; done)
end Tryz
end Go.Proofs
end
section
/-
  For every input MigrateNone returns true, and the arguments read as they did. No condition.
-/
namespace Go.Proofs.YtfhmokhaegdddaaGreatDoor
open Go Go.Abs Go.ChangeShapes Go.WideShapes Go.ChangeAt Go.RowKit
set_option linter.unusedVariables false
namespace lawMigrateNone
set_option maxRecDepth 100000 in
theorem lifted (os : Os) (started : os.Started) (H : Type) (enc : TypeId × Value → H) :
    ReturnsInHanded {} Tryz.checked os 7 .any (fun w args => (Rows.migrateNoneSpec.pre enc Tryz.prog Tryz.f7 [] false w args ∧ laidMetH Tryz.prog Tryz.laidL w) ∧ sizedMet enc Tryz.prog Tryz.f7 (OpenSpec.ofChange Rows.migrateNoneSpec) false w args)
      (Rows.migrateNoneSpec.post enc Tryz.prog Tryz.f7 false true false false) := by
  refine returnsInHanded_of_change_and (C := Tryz.checked) (X := fun w _ => laidMetH Tryz.prog Tryz.laidL w) (fun _ _ _ hh h => h.of_heap hh) Tryz.own started (by kernel_rfl) Tryz.func7
    (ChangeSpec.witness_shaped (enc := enc) (C := Tryz.checked) (os := os) (X := fun w _ => laidMetH Tryz.prog Tryz.laidL w) false (World.doorLaid Tryz.prog 400 os) #[.agg #[.int .i64 0, .slice none 0 0, .slice none 0 0, .slice none 0 0, .slice none 0 0, .int .i64 0, .slice none 0 0], .int .i64 0, .slice none 0 0] 8 rfl (World.shaped_of_RefB (by kernel_rfl) (by kernel_rfl)) (by kernel_rfl) (by kernel_rfl) (by kernel_rfl) (Tryz.door_met os _)) ?_
  intro W base args ds gs before hval0 hW _ _ hL _
  have hval : ∀ (j : Nat) t v, Tryz.f7.params[j]? = some t → args[j]? = some v → Value.okWide Tryz.prog W .any base t v := hval0
  have hW' := hW
  obtain ⟨p, q, hA0, hV, rfl, hfz, hnd⟩ := hW
  have hA : DataW.TrodAll enc Tryz.prog W 0 (fun _ => true) true Tryz.f7.params.toList args.toList ds p := hA0
  rw [Tryz.params7] at hA hval
  have hstay := hA
  obtain ⟨rfl, rfl⟩ := trodVars_none hV
  simp only [List.append_nil] at hW'
  obtain ⟨v0, vs0, d0, ds0, p0, q0, e0, rfl, rfl, h0, t0⟩ := trodAll_cons hA
  obtain ⟨v1, vs1, d1, ds1, p1, q1, e1, rfl, rfl, h1, t1⟩ := trodAll_cons t0
  obtain ⟨v2, vs2, d2, ds2, p2, q2, e2, rfl, rfl, h2, t2⟩ := trodAll_cons t1
  obtain ⟨z1, rfl, rfl⟩ := trodAll_nil t2
  subst z1
  subst e2
  subst e1
  obtain rfl : args = #[v0, v1, v2] := by apply Array.ext'; simpa using e0
  obtain ⟨x0, g0, r0⟩ := Tryz.arg_contract (hval 0 27 v0 rfl rfl) h0
  obtain ⟨x1, g1, r1⟩ := Tryz.arg_int (hval 1 3 v1 rfl rfl) h1
  obtain ⟨x2, g2, r2⟩ := Tryz.arg_ints (hval 2 22 v2 rfl rfl) h2
  refine (calls_of_apure (vals := [v0, v1, v2]) (Tryz.mnone_spec x0 x1 x2 g0 g2) rfl (fun i d hi => ?_) (Tryz.glob_ok hL)).mono ?_
  · rcases i with _ | _ | _ | i <;> first | (simp at hi; subst hi; assumption) | (simp at hi)
  · rintro e W' ⟨c', v, rfl, rfl, hb, hr⟩
    cases hr
    have hlt := hW'.lt
    refine ⟨_, rfl, ⟨_, _, _, [], _, [], hW', trodAll_mk1 (shut_bool Tryz.underlying4 _), args_stay Tryz.rowLaidOut hb ?_ hA0 ?_ ?_, rfl, hb.frame _, fun h => by cases h⟩⟩
    · rw [Tryz.params7]; intro t ht
      have hall : ([27, 3, 22].all fun t => Tryz.prog.readableRec t && decide (t < Tryz.prog.types.size)) = true := by kernel_rfl
      have := List.all_eq_true.1 hall t (by simpa using ht)
      simpa using this
    · intro x hx; exact by simpa using hlt x (by simpa using hx)
    · intro x hx; simpa using hlt x (by simpa using hx)
theorem row_holds : Rows.MigrateNoneSaid :=
  OpenClaim.holds_of_wide 7 Tryz.f7 rfl rfl rfl rfl rfl rfl rfl ⟨rfl, rfl, rfl, rfl, rfl⟩ rfl rfl rfl rfl rfl (by kernel_rfl) Tryz.func7 (by kernel_rfl)
    (of_decide_eq_true (by kernel_rfl)) (by unfold Func.isWrapper; first | (rw [if_pos (by decide +kernel)]; kernel_rfl) | (rw [if_neg (by decide +kernel)]; exact ⟨rfl, rfl⟩))
    (fun os started H enc _ => lifted os started H enc)
theorem card_holds : Rows.MigrateNoneCardSaid :=
  Claim7.holds_tied_plain_at .later [] [.data, .data] true Rows.migrateNoneCard.stood.harness false
    row_holds (fun _ h => by cases h) (by kernel_rfl) (fun _ h => by cases h) migrateNone_row_tie rfl ⟨rfl, rfl⟩ (by kernel_rfl) rfl
    (fun f fn hf hfn => by
      obtain rfl : f = 7 := Option.some.inj ((show Tryz.prog.funcNamed Rows.migrateNoneRow.func = some 7 by kernel_rfl).symm.trans hf) |>.symm
      obtain rfl : fn = Tryz.f7 := (Option.some.inj (Tryz.func7.symm.trans hfn)).symm
      exact ⟨by kernel_rfl, fun j t ht => by
        rw [Tryz.params7] at ht
        have hm : t ∈ [27, 3, 22] := by simpa using Array.mem_of_getElem? ht
        have hall : ([27, 3, 22].all fun u => !Tryz.prog.wantsStandIn u) = true := by kernel_rfl
        exact (show Tryz.prog.wantsStandIn t = false by simpa using List.all_eq_true.1 hall t hm)⟩)
    (by kernel_rfl)
end lawMigrateNone
#print axioms lawMigrateNone.card_holds
end Go.Proofs.YtfhmokhaegdddaaGreatDoor
end
