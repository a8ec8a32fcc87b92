/-
  For every input MigrateSpans returns true, and the arguments read as they did. No condition.
-/
import Derived.Test.YtfhmokhaegdddaaGreatDoorBj
set_option linter.unusedSimpArgs false
set_option linter.unusedVariables false
section
namespace Es
theorem migrate_zero {c : Contract} {p : Patch} {s : State} (h : (migrate c p s).2 = 0) : sValid c s = true ∧ (applyP c p).2 = 0 := by
  rcases law_mstates c p s with ⟨h1, h2⟩ | ⟨h1, h2, h3, h4⟩ | ⟨h1, h2, h3, h4, h5, h6, h7⟩
  · omega
  · omega
  · exact ⟨h1, h2⟩
end Es
namespace Go.Proofs
open Go Go.Abs
set_option linter.unusedSimpArgs false
set_option linter.unusedVariables false
set_option maxRecDepth 10000
namespace Tryz
theorem failures_spec (s : Es.State) (hs : Es.SFits s) : APure M 15 [staD s] (.v (.int .i64 (Es.failures s))) := by
  have hsm := hs.marks
  refine pure_of gpu func15 rfl results15 ntmps15 (by simp) ⟨pu_staD _, trivial⟩ ?_
  intro b
  simp only [go_sem, ↓reduceIte, reduceCtorEq, Nat.reduceEqDiff, Nat.reduceLT, Nat.reduceLeDiff, Nat.reduceAdd, Nat.reduceSub, Nat.reduceMul, Nat.reduceGT, Int.reduceNeg, Int.reduceToNat]
  refine awp_count0 s.marks.length (fun e0 s0 k e st => e 1 = e0 1 ∧ e 4 = .v (.int .i64 k) ∧ e 3 = .v (.int .i64 (Es.failK s.marks k)) ∧ st = s0) ⟨rfl, ?_, ?_, rfl⟩ ?_
  · simp only [go_sem, ↓reduceIte, reduceCtorEq, Nat.reduceEqDiff, Nat.reduceLT, Nat.reduceLeDiff, Nat.reduceAdd, Nat.reduceSub, Nat.reduceMul, Nat.reduceGT, Int.reduceNeg, Int.reduceToNat]; rfl
  · simp only [go_sem, ↓reduceIte, reduceCtorEq, Nat.reduceEqDiff, Nat.reduceLT, Nat.reduceLeDiff, Nat.reduceAdd, Nat.reduceSub, Nat.reduceMul, Nat.reduceGT, Int.reduceNeg, Int.reduceToNat]; rfl
  rintro k e st hk ⟨a1, a4, a3, rfl⟩
  simp only [go_sem, ↓reduceIte, reduceCtorEq, Nat.reduceEqDiff, Nat.reduceLT, Nat.reduceLeDiff, Nat.reduceAdd, Nat.reduceSub, Nat.reduceMul, Nat.reduceGT, Int.reduceNeg, Int.reduceToNat] at a1
  simp only [go_sem, ↓reduceIte, reduceCtorEq, Nat.reduceEqDiff, Nat.reduceLT, Nat.reduceLeDiff, Nat.reduceAdd, Nat.reduceSub, Nat.reduceMul, Nat.reduceGT, Int.reduceNeg, Int.reduceToNat, a1, a3, a4]
  have hb := Es.failK_le s.marks k
  refine ite_cases (fun hlt => ?_) (fun hlt => ?_)
  · have hlt' : k < s.marks.length := Es.len_lt.1 hlt
    have hw1 : IntKind.i64.wrap ((k : Int) + 1) = ((k + 1 : Nat) : Int) := by
      rw [wrap_i64 _ (by omega) (by omega)]; simp
    have hw2 : IntKind.i64.wrap (Es.failK s.marks k + 1) = Es.failK s.marks k + 1 := wrap_i64 _ (by omega) (by omega)
    refine ⟨⟨by omega, hlt⟩, ite_cases (fun h4 => ?_) (fun h4 => ?_)⟩
    · refine ⟨hlt', ?_⟩
      simp only [go_sem, ↓reduceIte, reduceCtorEq, Nat.reduceEqDiff, Nat.reduceLT, Nat.reduceLeDiff, Nat.reduceAdd, Nat.reduceSub, Nat.reduceMul, Nat.reduceGT, Int.reduceNeg, Int.reduceToNat, a1, a3, a4, hw1, hw2]
      rw [Es.failK, if_pos h4]
    · refine ⟨hlt', ?_⟩
      simp only [go_sem, ↓reduceIte, reduceCtorEq, Nat.reduceEqDiff, Nat.reduceLT, Nat.reduceLeDiff, Nat.reduceAdd, Nat.reduceSub, Nat.reduceMul, Nat.reduceGT, Int.reduceNeg, Int.reduceToNat, a1, a3, a4, hw1]
      rw [Es.failK, if_neg h4]; simp
  · have hkk : k = s.marks.length := by simp only [Es.len] at hlt; omega
    subst hkk
    rfl
theorem mfails_spec2 (c : Es.Contract) (p : Es.Patch) (s : Es.State) (hf : Es.Fits c) (hs : Es.SFits s) : APure M 4 [conD c, patD p, staD s] (.v (.bool true)) := by
  refine pure_of gpu func4 rfl results4 ntmps4 (by simp) ⟨pu_conD _, pu_patD _, pu_staD _, trivial⟩ ?_
  intro b
  simp only [go_sem, ↓reduceIte, reduceCtorEq, Nat.reduceEqDiff, Nat.reduceLT, Nat.reduceLeDiff, Nat.reduceAdd, Nat.reduceSub, Nat.reduceMul, Nat.reduceGT, Int.reduceNeg, Int.reduceToNat]
  repeat' (first | ((with_reducible refine call_at M_P M_G (head27_spec) ?_); simp only [go_sem, ↓reduceIte, reduceCtorEq, Nat.reduceEqDiff, Nat.reduceLT, Nat.reduceLeDiff, Nat.reduceAdd, Nat.reduceSub, Nat.reduceMul, Nat.reduceGT, Int.reduceNeg, Int.reduceToNat]) | ((with_reducible refine call_at M_P M_G (small_spec c 40 hf) ?_); simp only [go_sem, ↓reduceIte, reduceCtorEq, Nat.reduceEqDiff, Nat.reduceLT, Nat.reduceLeDiff, Nat.reduceAdd, Nat.reduceSub, Nat.reduceMul, Nat.reduceGT, Int.reduceNeg, Int.reduceToNat]) | ((with_reducible refine call_at M_P M_G (patSmall_spec p) ?_); simp only [go_sem, ↓reduceIte, reduceCtorEq, Nat.reduceEqDiff, Nat.reduceLT, Nat.reduceLeDiff, Nat.reduceAdd, Nat.reduceSub, Nat.reduceMul, Nat.reduceGT, Int.reduceNeg, Int.reduceToNat]) | ((with_reducible refine call_at M_P M_G (few_spec s) ?_); simp only [go_sem, ↓reduceIte, reduceCtorEq, Nat.reduceEqDiff, Nat.reduceLT, Nat.reduceLeDiff, Nat.reduceAdd, Nat.reduceSub, Nat.reduceMul, Nat.reduceGT, Int.reduceNeg, Int.reduceToNat]) | ((with_reducible refine call_at M_P M_G (migrate_spec c p s hf hs) ?_); simp only [go_sem, ↓reduceIte, reduceCtorEq, Nat.reduceEqDiff, Nat.reduceLT, Nat.reduceLeDiff, Nat.reduceAdd, Nat.reduceSub, Nat.reduceMul, Nat.reduceGT, Int.reduceNeg, Int.reduceToNat]) | (with_reducible refine And.intro ?_ ?_) | ((with_reducible refine ite_cases ?_ ?_) <;> intro _))
  all_goals first
    | trivial
    | skip
  all_goals
    have he : (Es.migrate c p s).2 = 0 := by simp_all
    obtain ⟨hv, ha⟩ := Es.migrate_zero he
    have hml := (Es.sValid_iff.1 hv).1.ml
    have hlen := Es.migrate_len hv ha
    first
      | (exfalso; simp_all [Es.len]; done)
      | (exfalso; simp only [Es.len, bne_iff_ne, ne_eq, beq_iff_eq, decide_eq_true_eq] at *; omega)
      | skip
  have hm1 := hs.marks
  refine awp_count0 s.marks.length (fun e0 s0 k e st => (e 3 = e0 3 ∧ e 4 = e0 4 ∧ e 5 = e0 5 ∧ e 7 = e0 7 ∧ e 8 = e0 8) ∧ e 10 = .v (.int .i64 k) ∧ st = s0) ⟨⟨rfl, rfl, rfl, rfl, rfl⟩, ?_, rfl⟩ ?_
  · simp only [go_sem, ↓reduceIte, reduceCtorEq, Nat.reduceEqDiff, Nat.reduceLT, Nat.reduceLeDiff, Nat.reduceAdd, Nat.reduceSub, Nat.reduceMul, Nat.reduceGT, Int.reduceNeg, Int.reduceToNat]; rfl
  rintro k e st hk ⟨⟨a3, a4, a5, a7, a8⟩, a10, rfl⟩
  simp only [go_sem, ↓reduceIte, reduceCtorEq, Nat.reduceEqDiff, Nat.reduceLT, Nat.reduceLeDiff, Nat.reduceAdd, Nat.reduceSub, Nat.reduceMul, Nat.reduceGT, Int.reduceNeg, Int.reduceToNat] at a3 a4 a5 a7 a8
  simp only [go_sem, ↓reduceIte, reduceCtorEq, Nat.reduceEqDiff, Nat.reduceLT, Nat.reduceLeDiff, Nat.reduceAdd, Nat.reduceSub, Nat.reduceMul, Nat.reduceGT, Int.reduceNeg, Int.reduceToNat, a3, a4, a5, a7, a8, a10]
  refine ite_cases (fun hlt => ?_) (fun hlt => ?_)
  · have hlt' : k < s.marks.length := Es.len_lt.1 hlt
    have hK := Es.law_kept hv ha hlt'
    have hw1 : IntKind.i64.wrap ((k : Int) + 1) = ((k + 1 : Nat) : Int) := by
      rw [wrap_i64 _ (by omega) (by omega)]; simp
    have hl2 : (k : Int) < Es.len (Es.migrate c p s).1.marks := by simp only [Es.len]; rw [hlen]; omega
    refine ⟨⟨by omega, hlt⟩, ?_⟩
    refine call_at M_P M_G (rruns_spec _) ?_
    simp only [go_sem, ↓reduceIte, reduceCtorEq, Nat.reduceEqDiff, Nat.reduceLT, Nat.reduceLeDiff, Nat.reduceAdd, Nat.reduceSub, Nat.reduceMul, Nat.reduceGT, Int.reduceNeg, Int.reduceToNat, a3, a4, a5, a7, a8, a10]
    refine ite_cases (fun hr => ?_) (fun hr => ?_)
    · refine ⟨⟨by omega, hl2⟩, ite_cases (fun h0 => ?_) (fun h0 => ?_)⟩
      · exfalso
        have := hK.idle (by have := Es.runs_iff.1 hr; simp only at this; omega)
        simp_all
      · refine ⟨hlt', ?_⟩
        simp only [go_sem, ↓reduceIte, reduceCtorEq, Nat.reduceEqDiff, Nat.reduceLT, Nat.reduceLeDiff, Nat.reduceAdd, Nat.reduceSub, Nat.reduceMul, Nat.reduceGT, Int.reduceNeg, Int.reduceToNat, a3, a4, a5, a7, a8, a10, hw1]
    · refine ⟨hlt', ?_⟩
      simp only [go_sem, ↓reduceIte, reduceCtorEq, Nat.reduceEqDiff, Nat.reduceLT, Nat.reduceLeDiff, Nat.reduceAdd, Nat.reduceSub, Nat.reduceMul, Nat.reduceGT, Int.reduceNeg, Int.reduceToNat, a3, a4, a5, a7, a8, a10, hw1]
  · refine awp_plan ((.op 0 (.op 1 (.op 2 (.op 4 (.op 3 (.op 5 (.op 6 (.op 7 (.op 8 .done)))))))))) [] mix (by kernel_rfl) ?_
    simp only [go_sem, ↓reduceIte, reduceCtorEq, Nat.reduceEqDiff, Nat.reduceLT, Nat.reduceLeDiff, Nat.reduceAdd, Nat.reduceSub, Nat.reduceMul, Nat.reduceGT, Int.reduceNeg, Int.reduceToNat, a3, a4, a5, a7, a8, a10]
    repeat' (first | ((with_reducible refine call_at M_P M_G (failures_spec s hs) ?_); simp only [go_sem, ↓reduceIte, reduceCtorEq, Nat.reduceEqDiff, Nat.reduceLT, Nat.reduceLeDiff, Nat.reduceAdd, Nat.reduceSub, Nat.reduceMul, Nat.reduceGT, Int.reduceNeg, Int.reduceToNat, a3, a4, a5, a7, a8, a10]) | ((with_reducible refine call_at M_P M_G (failures_spec (Es.migrate c p s).1 (sfits_migrate c p s)) ?_); simp only [go_sem, ↓reduceIte, reduceCtorEq, Nat.reduceEqDiff, Nat.reduceLT, Nat.reduceLeDiff, Nat.reduceAdd, Nat.reduceSub, Nat.reduceMul, Nat.reduceGT, Int.reduceNeg, Int.reduceToNat, a3, a4, a5, a7, a8, a10]) | (with_reducible refine And.intro ?_ ?_) | ((with_reducible refine ite_cases ?_ ?_) <;> intro _))
    rw [Es.law_fails hv ha]; simp
end Tryz
end Go.Proofs
end
section
namespace Go.Proofs
open Go Go.Abs
set_option linter.unusedSimpArgs false
set_option linter.unusedVariables false
set_option maxRecDepth 10000
namespace Tryz
theorem mspans_spec (c : Es.Contract) (s : Es.State) (a d : Int) (hf : Es.Fits c) (hs : Es.SFits s) (ha0 : 0 ≤ a ∧ a ≤ 65535) (hd0 : 0 ≤ d ∧ d ≤ 65535) : APure M 5 [conD c, staD s, .v (.int .u16 a), .v (.int .u16 d)] (.v (.bool true)) := by
  refine pure_of gpu func5 rfl results5 ntmps5 (by simp) ⟨pu_conD _, pu_staD _, .v _, .v _, trivial⟩ ?_
  intro b
  simp only [go_sem, ↓reduceIte, reduceCtorEq, Nat.reduceEqDiff, Nat.reduceLT, Nat.reduceLeDiff, Nat.reduceAdd, Nat.reduceSub, Nat.reduceMul, Nat.reduceGT, Int.reduceNeg, Int.reduceToNat]
  have hwa : IntKind.i64.wrap a = a := wrap_i64 _ (by omega) (by omega)
  have hwd : IntKind.i64.wrap d = d := wrap_i64 _ (by omega) (by omega)
  repeat' (first | ((with_reducible refine call_at M_P M_G (head27_spec) ?_); simp only [go_sem, ↓reduceIte, reduceCtorEq, Nat.reduceEqDiff, Nat.reduceLT, Nat.reduceLeDiff, Nat.reduceAdd, Nat.reduceSub, Nat.reduceMul, Nat.reduceGT, Int.reduceNeg, Int.reduceToNat, hwa, hwd]) | ((with_reducible refine call_at M_P M_G (small_spec c 40 hf) ?_); simp only [go_sem, ↓reduceIte, reduceCtorEq, Nat.reduceEqDiff, Nat.reduceLT, Nat.reduceLeDiff, Nat.reduceAdd, Nat.reduceSub, Nat.reduceMul, Nat.reduceGT, Int.reduceNeg, Int.reduceToNat, hwa, hwd]) | ((with_reducible refine call_at M_P M_G (few_spec s) ?_); simp only [go_sem, ↓reduceIte, reduceCtorEq, Nat.reduceEqDiff, Nat.reduceLT, Nat.reduceLeDiff, Nat.reduceAdd, Nat.reduceSub, Nat.reduceMul, Nat.reduceGT, Int.reduceNeg, Int.reduceToNat, hwa, hwd]) | (with_reducible refine And.intro ?_ ?_) | ((with_reducible refine ite_cases ?_ ?_) <;> intro _))
  all_goals first
    | trivial
    | skip
  all_goals try (simpa using ‹¬ (Es.len c.clauses == 0) = true›)
  have hne : Es.len c.clauses ≠ 0 := by simpa using ‹¬ (Es.len c.clauses == 0) = true›
  have hpos : 0 < Es.len c.clauses := by simp only [Es.len] at hne ⊢; omega
  have htm : a.tmod (Es.len c.clauses) = a % Es.len c.clauses := Int.tmod_eq_emod_of_nonneg ha0.1
  have hr1 := Int.emod_nonneg a hne
  have hr2 := Int.emod_lt_of_pos a hpos
  obtain ⟨i, hi⟩ : ∃ i : Nat, a.tmod (Es.len c.clauses) = (i : Int) := ⟨(a % Es.len c.clauses).toNat, by rw [htm]; omega⟩
  have hil : i < c.clauses.length := by rw [htm] at hi; simp only [Es.len] at hr2 hi; omega
  have htd : d.tmod 400 = d % 400 := Int.tmod_eq_emod_of_nonneg hd0.1
  obtain ⟨n, hn⟩ : ∃ n : Int, 1 + d.tmod 400 = n := ⟨_, rfl⟩
  have hn1 : 1 ≤ n ∧ n ≤ 400 := by rw [htd] at hn; omega
  have hwn : IntKind.i64.wrap n = n := wrap_i64 _ (by omega) (by omega)
  simp only [hi, hn, hwn]
  refine acall_given (f := 2) (k := 1) (n := 1) (cell' := rowsOf intC [(i : Int)]) (args' := [conD c, patD (Es.spanP Es.zeroCl i n), staD s]) rfl (fun r j hr hj => ?_) ⟨.same _, Given_agg ⟨.same _, .hit, .same _, .same _, .same _, .same _, .nil _ _, .same _, .same _, .same _, .same _, .same _, .same _, .same _, .same _, .same _, .same _, .same _, .same _, trivial⟩, .same _, trivial⟩ ?_
  · obtain rfl : r = 0 := by omega
    obtain rfl : j = 0 := by omega
    rfl
  refine call_at M_P M_G (migrate_spec c (Es.spanP Es.zeroCl i n) s hf hs) ?_
  have hL := fun hv => Es.law_spans (c := c) (s := s) (z := Es.zeroCl) (i := i) (n := n) hv rfl hil hn1
  generalize hT : Es.migrate c (Es.spanP Es.zeroCl i n) s = T at hL
  simp only [go_sem, ↓reduceIte, reduceCtorEq, Nat.reduceEqDiff, Nat.reduceLT, Nat.reduceLeDiff, Nat.reduceAdd, Nat.reduceSub, Nat.reduceMul, Nat.reduceGT, Int.reduceNeg, Int.reduceToNat, hi, hn, hwn]
  refine ite_cases (fun he => ?_) (fun he => ?_)
  · refine call_at M_P M_G (sValid_spec c s hf hs) ?_
    simp only [go_sem, ↓reduceIte, reduceCtorEq, Nat.reduceEqDiff, Nat.reduceLT, Nat.reduceLeDiff, Nat.reduceAdd, Nat.reduceSub, Nat.reduceMul, Nat.reduceGT, Int.reduceNeg, Int.reduceToNat]
    cases hv : Es.sValid c s with
    | false => rfl
    | true => exact absurd (hL hv).1 (by simpa using he)
  have he0 : T.2 = 0 := by simpa using he
  have hv : Es.sValid c s = true := (Es.migrate_zero (by rw [hT]; exact he0)).1
  obtain ⟨_, hL2, hL3⟩ := hL hv
  have hC := (Es.sValid_iff.1 hv).1
  have hml := hC.ml
  have hlE1 : (Es.len s.marks != Es.len c.clauses) = false := by simp [Es.len, hml]
  have hlE2 : (Es.len T.1.marks != Es.len s.marks) = false := by simp [Es.len, hL2]
  simp only [hlE1, hlE2, go_sem, ↓reduceIte, reduceCtorEq, Nat.reduceEqDiff, Nat.reduceLT, Nat.reduceLeDiff, Nat.reduceAdd, Nat.reduceSub, Nat.reduceMul, Nat.reduceGT, Int.reduceNeg, Int.reduceToNat]
  refine ⟨⟨by omega, by simp only [Es.len]; omega⟩, ?_⟩
  refine ite_cases (fun h1 => ?_) (fun h1 => ?_)
  · have hsp : Es.spanM n (Es.at_ c.clauses (i : Int)) (Es.at_ s.marks (i : Int)) = { Es.at_ s.marks (i : Int) with left := max 1 ((Es.at_ s.marks (i : Int)).left + n - (Es.at_ c.clauses (i : Int)).after) } := by unfold Es.spanM; rw [if_pos h1]
    have hx := (Es.valid2_ok hC.con).clause i hil
    have hR := (Es.wf_run (.inl (by simpa using h1))).1 (hC.marks i (by omega))
    have hRl := hR.left
    have hxa := hx.after
    rw [if_neg (by simp only [beq_iff_eq] at h1; omega)] at hRl
    have w1 : IntKind.i64.wrap ((Es.at_ s.marks (i : Int)).left + n) = (Es.at_ s.marks (i : Int)).left + n := wrap_i64 _ (by omega) (by omega)
    have w2 : IntKind.i64.wrap ((Es.at_ s.marks (i : Int)).left + n - (Es.at_ c.clauses (i : Int)).after) = (Es.at_ s.marks (i : Int)).left + n - (Es.at_ c.clauses (i : Int)).after := wrap_i64 _ (by omega) (by omega)
    refine awp_plan ((.op 0 (.op 1 (.op 2 (.op 3 (.op 4 (.op 5 (.op 6 (.op 7 (.op 8 (.op 9 (.op 10 (.op 11 (.op 12 (.op 13 .done))))))))))))))) [13] mix (by kernel_rfl) ?_
    simp only [go_sem, ↓reduceIte, reduceCtorEq, Nat.reduceEqDiff, Nat.reduceLT, Nat.reduceLeDiff, Nat.reduceAdd, Nat.reduceSub, Nat.reduceMul, Nat.reduceGT, Int.reduceNeg, Int.reduceToNat, w1, w2]
    refine ⟨⟨by omega, Es.len_lt.2 hil⟩, ?_⟩
    have hm1 := hs.marks
    refine awp_count0 s.marks.length (fun e0 s0 k e st => (e 4 = e0 4 ∧ e 5 = e0 5 ∧ e 9 = e0 9 ∧ e 10 = e0 10 ∧ e 11 = e0 11 ∧ e 12 = e0 12 ∧ e 14 = e0 14) ∧ e 15 = .v (.int .i64 k) ∧ st = s0) ⟨⟨rfl, rfl, rfl, rfl, rfl, rfl, rfl⟩, ?_, rfl⟩ ?_
    · simp only [go_sem, ↓reduceIte, reduceCtorEq, Nat.reduceEqDiff, Nat.reduceLT, Nat.reduceLeDiff, Nat.reduceAdd, Nat.reduceSub, Nat.reduceMul, Nat.reduceGT, Int.reduceNeg, Int.reduceToNat]; rfl
    rintro k e st hk ⟨⟨a4, a5, a9, a10, a11, a12, a14⟩, a15, rfl⟩
    simp only [go_sem, ↓reduceIte, reduceCtorEq, Nat.reduceEqDiff, Nat.reduceLT, Nat.reduceLeDiff, Nat.reduceAdd, Nat.reduceSub, Nat.reduceMul, Nat.reduceGT, Int.reduceNeg, Int.reduceToNat] at a4 a5 a9 a10 a11 a12 a14
    simp only [go_sem, ↓reduceIte, reduceCtorEq, Nat.reduceEqDiff, Nat.reduceLT, Nat.reduceLeDiff, Nat.reduceAdd, Nat.reduceSub, Nat.reduceMul, Nat.reduceGT, Int.reduceNeg, Int.reduceToNat, a4, a5, a9, a10, a11, a12, a14, a15]
    refine ite_cases (fun hlt => ?_) (fun hlt => ?_)
    · have hlt' : k < s.marks.length := Es.len_lt.1 hlt
      have hw1 : IntKind.i64.wrap ((k : Int) + 1) = ((k + 1 : Nat) : Int) := by
        rw [wrap_i64 _ (by omega) (by omega)]; simp
      have hl2 : (k : Int) < Es.len T.1.marks := by simp only [Es.len]; omega
      have hk3 := hL3 k hlt'
      refine awp_plan ((.op 0 (.op 1 (.op 2 (.op 3 (.op 4 (.op 5 (.op 6 (.op 7 (.op 8 (.op 9 (.op 10 (.op 11 (.op 12 (.op 13 (.op 14 (.op 15 .done))))))))))))))))) [] mix (by kernel_rfl) ?_
      simp only [go_sem, ↓reduceIte, reduceCtorEq, Nat.reduceEqDiff, Nat.reduceLT, Nat.reduceLeDiff, Nat.reduceAdd, Nat.reduceSub, Nat.reduceMul, Nat.reduceGT, Int.reduceNeg, Int.reduceToNat, a4, a5, a9, a10, a11, a12, a14, a15]
      repeat' (first | (with_reducible refine And.intro ?_ ?_) | ((with_reducible refine ite_cases ?_ ?_) <;> intro _))
      all_goals first
        | omega
        | exact hlt
        | exact hl2
        | (refine ⟨hlt', ?_⟩
           simp only [go_sem, ↓reduceIte, reduceCtorEq, Nat.reduceEqDiff, Nat.reduceLT, Nat.reduceLeDiff, Nat.reduceAdd, Nat.reduceSub, Nat.reduceMul, Nat.reduceGT, Int.reduceNeg, Int.reduceToNat, a4, a5, a9, a10, a11, a12, a14, a15, hw1]; done)
        | (exfalso
           have hki : k ≠ i := by
             intro h; subst h; simp_all
           rw [if_neg hki] at hk3
           simp_all; done)
    · refine awp_plan ((.op 0 (.op 1 (.op 2 (.op 3 (.op 4 (.op 5 (.op 6 (.op 7 (.op 8 (.op 9 (.op 10 .done)))))))))))) [] mix (by kernel_rfl) ?_
      simp only [go_sem, ↓reduceIte, reduceCtorEq, Nat.reduceEqDiff, Nat.reduceLT, Nat.reduceLeDiff, Nat.reduceAdd, Nat.reduceSub, Nat.reduceMul, Nat.reduceGT, Int.reduceNeg, Int.reduceToNat, a4, a5, a9, a10, a11, a12, a14, a15]
      refine ⟨⟨by omega, by simp only [Es.len]; omega⟩, ?_⟩
      have hki := hL3 i (by omega)
      rw [if_pos rfl, hsp] at hki
      rw [hki]
      simp
  · have hsp : Es.spanM n (Es.at_ c.clauses (i : Int)) (Es.at_ s.marks (i : Int)) = Es.at_ s.marks (i : Int) := by unfold Es.spanM; rw [if_neg h1]
    have hm1 := hs.marks
    refine awp_count0 s.marks.length (fun e0 s0 k e st => (e 4 = e0 4 ∧ e 5 = e0 5 ∧ e 9 = e0 9 ∧ e 10 = e0 10 ∧ e 11 = e0 11 ∧ e 12 = e0 12 ∧ e 14 = e0 14) ∧ e 15 = .v (.int .i64 k) ∧ st = s0) ⟨⟨rfl, rfl, rfl, rfl, rfl, rfl, rfl⟩, ?_, rfl⟩ ?_
    · simp only [go_sem, ↓reduceIte, reduceCtorEq, Nat.reduceEqDiff, Nat.reduceLT, Nat.reduceLeDiff, Nat.reduceAdd, Nat.reduceSub, Nat.reduceMul, Nat.reduceGT, Int.reduceNeg, Int.reduceToNat]; rfl
    rintro k e st hk ⟨⟨a4, a5, a9, a10, a11, a12, a14⟩, a15, rfl⟩
    simp only [go_sem, ↓reduceIte, reduceCtorEq, Nat.reduceEqDiff, Nat.reduceLT, Nat.reduceLeDiff, Nat.reduceAdd, Nat.reduceSub, Nat.reduceMul, Nat.reduceGT, Int.reduceNeg, Int.reduceToNat] at a4 a5 a9 a10 a11 a12 a14
    simp only [go_sem, ↓reduceIte, reduceCtorEq, Nat.reduceEqDiff, Nat.reduceLT, Nat.reduceLeDiff, Nat.reduceAdd, Nat.reduceSub, Nat.reduceMul, Nat.reduceGT, Int.reduceNeg, Int.reduceToNat, a4, a5, a9, a10, a11, a12, a14, a15]
    refine ite_cases (fun hlt => ?_) (fun hlt => ?_)
    · have hlt' : k < s.marks.length := Es.len_lt.1 hlt
      have hw1 : IntKind.i64.wrap ((k : Int) + 1) = ((k + 1 : Nat) : Int) := by
        rw [wrap_i64 _ (by omega) (by omega)]; simp
      have hl2 : (k : Int) < Es.len T.1.marks := by simp only [Es.len]; omega
      have hk3 := hL3 k hlt'
      refine awp_plan ((.op 0 (.op 1 (.op 2 (.op 3 (.op 4 (.op 5 (.op 6 (.op 7 (.op 8 (.op 9 (.op 10 (.op 11 (.op 12 (.op 13 (.op 14 (.op 15 .done))))))))))))))))) [] mix (by kernel_rfl) ?_
      simp only [go_sem, ↓reduceIte, reduceCtorEq, Nat.reduceEqDiff, Nat.reduceLT, Nat.reduceLeDiff, Nat.reduceAdd, Nat.reduceSub, Nat.reduceMul, Nat.reduceGT, Int.reduceNeg, Int.reduceToNat, a4, a5, a9, a10, a11, a12, a14, a15]
      repeat' (first | (with_reducible refine And.intro ?_ ?_) | ((with_reducible refine ite_cases ?_ ?_) <;> intro _))
      all_goals first
        | omega
        | exact hlt
        | exact hl2
        | (refine ⟨hlt', ?_⟩
           simp only [go_sem, ↓reduceIte, reduceCtorEq, Nat.reduceEqDiff, Nat.reduceLT, Nat.reduceLeDiff, Nat.reduceAdd, Nat.reduceSub, Nat.reduceMul, Nat.reduceGT, Int.reduceNeg, Int.reduceToNat, a4, a5, a9, a10, a11, a12, a14, a15, hw1]; done)
        | (exfalso
           have hki : k ≠ i := by
             intro h; subst h; simp_all
           rw [if_neg hki] at hk3
           simp_all; done)
    · refine awp_plan ((.op 0 (.op 1 (.op 2 (.op 3 (.op 4 (.op 5 (.op 6 (.op 7 (.op 8 (.op 9 (.op 10 .done)))))))))))) [] mix (by kernel_rfl) ?_
      simp only [go_sem, ↓reduceIte, reduceCtorEq, Nat.reduceEqDiff, Nat.reduceLT, Nat.reduceLeDiff, Nat.reduceAdd, Nat.reduceSub, Nat.reduceMul, Nat.reduceGT, Int.reduceNeg, Int.reduceToNat, a4, a5, a9, a10, a11, a12, a14, a15]
      refine ⟨⟨by omega, by simp only [Es.len]; omega⟩, ?_⟩
      have hki := hL3 i (by omega)
      rw [if_pos rfl, hsp] at hki
      rw [hki]
      simp
end Tryz
end Go.Proofs
end
section
/-
  For every input MigrateSpans returns true, and the arguments read as they did. No condition.
-/
namespace Go.Proofs.YtfhmokhaegdddaaGreatDoor
open Go Go.Abs Go.ChangeShapes Go.WideShapes Go.ChangeAt Go.RowKit
set_option linter.unusedVariables false
namespace lawMigrateSpans
set_option maxRecDepth 100000 in
theorem lifted (os : Os) (started : os.Started) (H : Type) (enc : TypeId × Value → H) :
    ReturnsInHanded {} Tryz.checked os 5 .any (fun w args => (Rows.migrateSpansSpec.pre enc Tryz.prog Tryz.f5 [] false w args ∧ laidMetH Tryz.prog Tryz.laidL w) ∧ sizedMet enc Tryz.prog Tryz.f5 (OpenSpec.ofChange Rows.migrateSpansSpec) false w args)
      (Rows.migrateSpansSpec.post enc Tryz.prog Tryz.f5 false true false false) := by
  refine returnsInHanded_of_change_and (C := Tryz.checked) (X := fun w _ => laidMetH Tryz.prog Tryz.laidL w) (fun _ _ _ hh h => h.of_heap hh) Tryz.own started (by kernel_rfl) Tryz.func5
    (ChangeSpec.witness_shaped (enc := enc) (C := Tryz.checked) (os := os) (X := fun w _ => laidMetH Tryz.prog Tryz.laidL w) false (World.doorLaid Tryz.prog 400 os) #[.agg #[.int .i64 0, .slice none 0 0, .slice none 0 0, .slice none 0 0, .slice none 0 0, .int .i64 0, .slice none 0 0], .agg #[.int .i64 0, .slice none 0 0, .slice none 0 0, .slice none 0 0], .int .u16 0, .int .u16 0] 8 rfl (World.shaped_of_RefB (by kernel_rfl) (by kernel_rfl)) (by kernel_rfl) (by kernel_rfl) (by kernel_rfl) (Tryz.door_met os _)) ?_
  intro W base args ds gs before hval0 hW _ _ hL _
  have hval : ∀ (j : Nat) t v, Tryz.f5.params[j]? = some t → args[j]? = some v → Value.okWide Tryz.prog W .any base t v := hval0
  have hW' := hW
  obtain ⟨p, q, hA0, hV, rfl, hfz, hnd⟩ := hW
  have hA : DataW.TrodAll enc Tryz.prog W 0 (fun _ => true) true Tryz.f5.params.toList args.toList ds p := hA0
  rw [Tryz.params5] at hA hval
  have hstay := hA
  obtain ⟨rfl, rfl⟩ := trodVars_none hV
  simp only [List.append_nil] at hW'
  obtain ⟨v0, vs0, d0, ds0, p0, q0, e0, rfl, rfl, h0, t0⟩ := trodAll_cons hA
  obtain ⟨v1, vs1, d1, ds1, p1, q1, e1, rfl, rfl, h1, t1⟩ := trodAll_cons t0
  obtain ⟨v2, vs2, d2, ds2, p2, q2, e2, rfl, rfl, h2, t2⟩ := trodAll_cons t1
  obtain ⟨v3, vs3, d3, ds3, p3, q3, e3, rfl, rfl, h3, t3⟩ := trodAll_cons t2
  obtain ⟨z1, rfl, rfl⟩ := trodAll_nil t3
  subst z1
  subst e3
  subst e2
  subst e1
  obtain rfl : args = #[v0, v1, v2, v3] := by apply Array.ext'; simpa using e0
  obtain ⟨x0, g0, r0⟩ := Tryz.arg_contract (hval 0 27 v0 rfl rfl) h0
  obtain ⟨x1, g1, r1⟩ := Tryz.arg_state (hval 1 38 v1 rfl rfl) h1
  obtain ⟨x2, g2, r2⟩ := Tryz.arg_u16 (hval 2 51 v2 rfl rfl) h2
  obtain ⟨x3, g3, r3⟩ := Tryz.arg_u16 (hval 3 51 v3 rfl rfl) h3
  refine (calls_of_apure (vals := [v0, v1, v2, v3]) (Tryz.mspans_spec x0 x1 x2 x3 g0 g1 g2 g3) rfl (fun i d hi => ?_) (Tryz.glob_ok hL)).mono ?_
  · rcases i with _ | _ | _ | _ | i <;> first | (simp at hi; subst hi; assumption) | (simp at hi)
  · rintro e W' ⟨c', v, rfl, rfl, hb, hr⟩
    cases hr
    have hlt := hW'.lt
    refine ⟨_, rfl, ⟨_, _, _, [], _, [], hW', trodAll_mk1 (shut_bool Tryz.underlying4 _), args_stay Tryz.rowLaidOut hb ?_ hA0 ?_ ?_, rfl, hb.frame _, fun h => by cases h⟩⟩
    · rw [Tryz.params5]; intro t ht
      have hall : ([27, 38, 51, 51].all fun t => Tryz.prog.readableRec t && decide (t < Tryz.prog.types.size)) = true := by kernel_rfl
      have := List.all_eq_true.1 hall t (by simpa using ht)
      simpa using this
    · intro x hx; exact by simpa using hlt x (by simpa using hx)
    · intro x hx; simpa using hlt x (by simpa using hx)
theorem row_holds : Rows.MigrateSpansSaid :=
  OpenClaim.holds_of_wide 5 Tryz.f5 rfl rfl rfl rfl rfl rfl rfl ⟨rfl, rfl, rfl, rfl, rfl⟩ rfl rfl rfl rfl rfl (by kernel_rfl) Tryz.func5 (by kernel_rfl)
    (of_decide_eq_true (by kernel_rfl)) (by unfold Func.isWrapper; first | (rw [if_pos (by decide +kernel)]; kernel_rfl) | (rw [if_neg (by decide +kernel)]; exact ⟨rfl, rfl⟩))
    (fun os started H enc _ => lifted os started H enc)
theorem card_holds : Rows.MigrateSpansCardSaid :=
  Claim7.holds_tied_plain_at .later [] [.data, .data] true Rows.migrateSpansCard.stood.harness false
    row_holds (fun _ h => by cases h) (by kernel_rfl) (fun _ h => by cases h) migrateSpans_row_tie rfl ⟨rfl, rfl⟩ (by kernel_rfl) rfl
    (fun f fn hf hfn => by
      obtain rfl : f = 5 := Option.some.inj ((show Tryz.prog.funcNamed Rows.migrateSpansRow.func = some 5 by kernel_rfl).symm.trans hf) |>.symm
      obtain rfl : fn = Tryz.f5 := (Option.some.inj (Tryz.func5.symm.trans hfn)).symm
      exact ⟨by kernel_rfl, fun j t ht => by
        rw [Tryz.params5] at ht
        have hm : t ∈ [27, 38, 51, 51] := by simpa using Array.mem_of_getElem? ht
        have hall : ([27, 38, 51, 51].all fun u => !Tryz.prog.wantsStandIn u) = true := by kernel_rfl
        exact (show Tryz.prog.wantsStandIn t = false by simpa using List.all_eq_true.1 hall t hm)⟩)
    (by kernel_rfl)
end lawMigrateSpans
#print axioms lawMigrateSpans.card_holds
end Go.Proofs.YtfhmokhaegdddaaGreatDoor
end
