/-
  Parts of an abstract machine over the model, of the program's data and of what its functions compute: the texts F4 F5 F6 F10 EncB F11 F12 F13 F14 F15 F16 F16b F9b, merged.
-/
import Derived.Test.YtmdnombjckcfoaaDoorBf
set_option linter.unusedSimpArgs false
set_option linter.unusedVariables false
section
namespace Go.Proofs
open Go Go.Abs
set_option linter.unusedSimpArgs false
set_option maxRecDepth 10000
namespace Tryd
theorem utAt_spec (us : List Es.Unt) (i : Int) : APure M 134 [slD 5 untC us, .v (.int .i64 i)] (.tup [untD (Es.utAt us i).1, .v (.bool (Es.utAt us i).2)]) := by
  refine pure_of gpu func134 rfl results134 ntmps134 (by simp) ⟨pu_slD pu_untC _, .v _, trivial⟩ ?_
  intro b
  simp only [go_sem, ↓reduceIte, decide_eq_true_eq, reduceCtorEq, Nat.reduceEqDiff, Nat.reduceLT, Nat.reduceLeDiff, Nat.reduceAdd, Nat.reduceSub, Nat.reduceMul, Nat.reduceGT, Int.reduceNeg, Int.reduceToNat, and_true, true_and, and_false, false_and, List.getElem?_toArray, List.getElem?_cons_zero, List.getElem?_cons_succ, List.cons_append, List.nil_append, if_true, if_false, Option.getD_some, Option.isSome_some, Bool.false_eq_true, List.append_nil, List.drop_zero, List.drop_succ_cons, Bool.cond_false_right, Bool.cond_false_left, Bool.cond_true_left, Bool.cond_true_right, ite_self, Bool.not_true, Bool.not_false, cond_true, cond_false, List.size_toArray, implies_true, true_implies, false_implies, List.all_cons, List.all_nil, List.nodup_cons, List.nodup_nil, List.mem_cons, List.not_mem_nil, or_false, false_or, not_false_eq_true, decide_true, Bool.and_true, Bool.and_self]
  repeat' (first | (with_reducible refine And.intro ?_ ?_) | ((with_reducible refine ite_cases ?_ ?_) <;> intro _))
  all_goals simp only [decide_eq_false_iff_not, Decidable.not_not] at *
  all_goals first
    | omega
    | (rw [show Es.utAt us i = (default, false) from if_pos (by omega)]; exact Fz_tup ⟨(pu_untD default).fz, .v _, trivial⟩)
    | (rw [show Es.utAt us i = (Es.at_ us i, true) from if_neg (by omega)]; exact Fz_tup ⟨(pu_untD _).fz, .v _, trivial⟩)

theorem fits_spec (X : D → Value → Prop) (N : Nat) (r : Option Nat) (b : Nat) (us : List Es.Unt) (i : Int) (hi : 0 ≤ i ∧ i < Es.len us) (f : Nat) (names : List (List UInt8)) (o : St) (nx : Nat) (K : D → S → Prop) (hf : f < nx) (ho : o f 0 = some (.mapo (mapOf names)))
    (hk : ∀ s', Grow ⟨o, nx⟩ s' → K (.v (.bool (Es.fits us i names))) s') : ACall { P := prog, G := gl, X := X, N := N, r := r, b := b } 113 [slD 5 untC us, .v (.int .i64 i), .mm f 0] ⟨o, nx⟩ K := by
  have hk' : ∀ bb s', bb = Es.fits us i names → Grow ⟨o, nx⟩ s' → K (.v (.bool bb)) s' := fun bb s' hb hg => hb ▸ hk s' hg
  refine acall_ofA (M := { P := prog, G := gl, X := X, N := N, r := r, b := b }) func113 rfl results113 ntmps113 (by simp) fun b => ?_
  simp only [go_sem, ↓reduceIte, decide_eq_true_eq, reduceCtorEq, Nat.reduceEqDiff, Nat.reduceLT, Nat.reduceLeDiff, Nat.reduceAdd, Nat.reduceSub, Nat.reduceMul, Nat.reduceGT, Int.reduceNeg, Int.reduceToNat, and_true, true_and, and_false, false_and, List.getElem?_toArray, List.getElem?_cons_zero, List.getElem?_cons_succ, List.cons_append, List.nil_append, if_true, if_false, Option.getD_some, Option.isSome_some, Bool.false_eq_true, List.append_nil, List.drop_zero, List.drop_succ_cons, Bool.cond_false_right, Bool.cond_false_left, Bool.cond_true_left, Bool.cond_true_right, ite_self, Bool.not_true, Bool.not_false, cond_true, cond_false, List.size_toArray, implies_true, true_implies, false_implies, List.all_cons, List.all_nil, List.nodup_cons, List.nodup_nil, List.mem_cons, List.not_mem_nil, or_false, false_or, not_false_eq_true, decide_true, Bool.and_true, Bool.and_self]
  have n0 : (f = nx) = False := by simp only [eq_iff_iff, iff_false]; omega
  have n1 : (f = nx + 1) = False := by simp only [eq_iff_iff, iff_false]; omega
  have n2 : (nx = nx + 1) = False := by simp only [eq_iff_iff, iff_false]; omega
  refine ⟨hi, ?_⟩
  repeat' (first | ((with_reducible refine call_at M_P M_G (utAt_spec _ _) ?_); simp only [go_sem, ↓reduceIte, decide_eq_true_eq, reduceCtorEq, Nat.reduceEqDiff, Nat.reduceLT, Nat.reduceLeDiff, Nat.reduceAdd, Nat.reduceSub, Nat.reduceMul, Nat.reduceGT, Int.reduceNeg, Int.reduceToNat, and_true, true_and, and_false, false_and, List.getElem?_toArray, List.getElem?_cons_zero, List.getElem?_cons_succ, List.cons_append, List.nil_append, if_true, if_false, Option.getD_some, Option.isSome_some, Bool.false_eq_true, List.append_nil, List.drop_zero, List.drop_succ_cons, Bool.cond_false_right, Bool.cond_false_left, Bool.cond_true_left, Bool.cond_true_right, ite_self, Bool.not_true, Bool.not_false, cond_true, cond_false, List.size_toArray, implies_true, true_implies, false_implies, List.all_cons, List.all_nil, List.nodup_cons, List.nodup_nil, List.mem_cons, List.not_mem_nil, or_false, false_or, not_false_eq_true, decide_true, Bool.and_true, Bool.and_self, ho, n0, n1, n2, mfind_mapOf, ByteArray.toList_mk]) | ((with_reducible refine call_at M_P M_G (ratValid_spec _) ?_); simp only [go_sem, ↓reduceIte, decide_eq_true_eq, reduceCtorEq, Nat.reduceEqDiff, Nat.reduceLT, Nat.reduceLeDiff, Nat.reduceAdd, Nat.reduceSub, Nat.reduceMul, Nat.reduceGT, Int.reduceNeg, Int.reduceToNat, and_true, true_and, and_false, false_and, List.getElem?_toArray, List.getElem?_cons_zero, List.getElem?_cons_succ, List.cons_append, List.nil_append, if_true, if_false, Option.getD_some, Option.isSome_some, Bool.false_eq_true, List.append_nil, List.drop_zero, List.drop_succ_cons, Bool.cond_false_right, Bool.cond_false_left, Bool.cond_true_left, Bool.cond_true_right, ite_self, Bool.not_true, Bool.not_false, cond_true, cond_false, List.size_toArray, implies_true, true_implies, false_implies, List.all_cons, List.all_nil, List.nodup_cons, List.nodup_nil, List.mem_cons, List.not_mem_nil, or_false, false_or, not_false_eq_true, decide_true, Bool.and_true, Bool.and_self, ho, n0, n1, n2, mfind_mapOf, ByteArray.toList_mk]) | (with_reducible refine And.intro ?_ ?_) | ((with_reducible refine ite_cases ?_ ?_) <;> intro _))
  all_goals first
    | exact mapOf_keys _
    | rfl
    | (refine hk' _ _ ?_ (Grow.to (by show nx ≤ _; omega) ?_)
       · first | (simp [Es.fits, Es.ratio_beq, *]; done) | (simp [Es.fits, Es.ratio_beq, *]; omega) | (simp_all [Es.fits, Es.ratio_beq]; done) | (simp_all [Es.fits, Es.ratio_beq]; omega)
       · repeat' (first | exact SameB.refl _ _ | refine SameB.set ?_ (by show nx ≤ _; omega) _ _))

theorem qValid_spec (us : List Es.Unt) (hl : us.length ≤ 9223372036854775807) : APure M 90 [slD 5 untC us] (.tup [.v (.int .i64 (Es.qValid us).1), .v (.bool (Es.qValid us).2)]) := by
  refine pure_of gpu func90 rfl results90 ntmps90 (by simp) ⟨pu_slD pu_untC _, trivial⟩ ?_
  intro b
  simp only [go_sem, ↓reduceIte, decide_eq_true_eq, reduceCtorEq, Nat.reduceEqDiff, Nat.reduceLT, Nat.reduceLeDiff, Nat.reduceAdd, Nat.reduceSub, Nat.reduceMul, Nat.reduceGT, Int.reduceNeg, Int.reduceToNat, and_true, true_and, and_false, false_and, List.getElem?_toArray, List.getElem?_cons_zero, List.getElem?_cons_succ, List.cons_append, List.nil_append, if_true, if_false, Option.getD_some, Option.isSome_some, Bool.false_eq_true, List.append_nil, List.drop_zero, List.drop_succ_cons, Bool.cond_false_right, Bool.cond_false_left, Bool.cond_true_left, Bool.cond_true_right, ite_self, Bool.not_true, Bool.not_false, cond_true, cond_false, List.size_toArray, implies_true, true_implies, false_implies, List.all_cons, List.all_nil, List.nodup_cons, List.nodup_nil, List.mem_cons, List.not_mem_nil, or_false, false_or, not_false_eq_true, decide_true, Bool.and_true, Bool.and_self]
  refine awp_count0 us.length (fun e0 s0 k e s => (e 0 = e0 0 ∧ e 4 = e0 4 ∧ e 8 = e0 8 ∧ e 9 = e0 9) ∧ e 10 = .v (.int .i64 k) ∧ 1 ≤ s.nx ∧ s.o 0 0 = some (.mapo (mapOf ((us.take k).map (·.name)))) ∧ ∀ j : Nat, j < k → Es.fits us j ((us.take j).map (·.name)) = true) ⟨⟨rfl, rfl, rfl, rfl⟩, ?_, Nat.le_refl 1, rfl, (by omega)⟩ ?_
  · simp only [go_sem, ↓reduceIte, decide_eq_true_eq, reduceCtorEq, Nat.reduceEqDiff, Nat.reduceLT, Nat.reduceLeDiff, Nat.reduceAdd, Nat.reduceSub, Nat.reduceMul, Nat.reduceGT, Int.reduceNeg, Int.reduceToNat, and_true, true_and, and_false, false_and, List.getElem?_toArray, List.getElem?_cons_zero, List.getElem?_cons_succ, List.cons_append, List.nil_append, if_true, if_false, Option.getD_some, Option.isSome_some, Bool.false_eq_true, List.append_nil, List.drop_zero, List.drop_succ_cons, Bool.cond_false_right, Bool.cond_false_left, Bool.cond_true_left, Bool.cond_true_right, ite_self, Bool.not_true, Bool.not_false, cond_true, cond_false, List.size_toArray, implies_true, true_implies, false_implies, List.all_cons, List.all_nil, List.nodup_cons, List.nodup_nil, List.mem_cons, List.not_mem_nil, or_false, false_or, not_false_eq_true, decide_true, Bool.and_true, Bool.and_self]; rfl
  rintro k e ⟨o, nx⟩ hk ⟨⟨h0, h4, h8, h9⟩, h10, hn, g0, hall⟩
  simp only [go_sem, ↓reduceIte, decide_eq_true_eq, reduceCtorEq, Nat.reduceEqDiff, Nat.reduceLT, Nat.reduceLeDiff, Nat.reduceAdd, Nat.reduceSub, Nat.reduceMul, Nat.reduceGT, Int.reduceNeg, Int.reduceToNat, and_true, true_and, and_false, false_and, List.getElem?_toArray, List.getElem?_cons_zero, List.getElem?_cons_succ, List.cons_append, List.nil_append, if_true, if_false, Option.getD_some, Option.isSome_some, Bool.false_eq_true, List.append_nil, List.drop_zero, List.drop_succ_cons, Bool.cond_false_right, Bool.cond_false_left, Bool.cond_true_left, Bool.cond_true_right, ite_self, Bool.not_true, Bool.not_false, cond_true, cond_false, List.size_toArray, implies_true, true_implies, false_implies, List.all_cons, List.all_nil, List.nodup_cons, List.nodup_nil, List.mem_cons, List.not_mem_nil, or_false, false_or, not_false_eq_true, decide_true, Bool.and_true, Bool.and_self] at h0 h4 h8 h9 hn g0
  have n0 : (0 = nx) = False := by simp only [eq_iff_iff, iff_false]; omega
  simp only [go_sem, ↓reduceIte, decide_eq_true_eq, reduceCtorEq, Nat.reduceEqDiff, Nat.reduceLT, Nat.reduceLeDiff, Nat.reduceAdd, Nat.reduceSub, Nat.reduceMul, Nat.reduceGT, Int.reduceNeg, Int.reduceToNat, and_true, true_and, and_false, false_and, List.getElem?_toArray, List.getElem?_cons_zero, List.getElem?_cons_succ, List.cons_append, List.nil_append, if_true, if_false, Option.getD_some, Option.isSome_some, Bool.false_eq_true, List.append_nil, List.drop_zero, List.drop_succ_cons, Bool.cond_false_right, Bool.cond_false_left, Bool.cond_true_left, Bool.cond_true_right, ite_self, Bool.not_true, Bool.not_false, cond_true, cond_false, List.size_toArray, implies_true, true_implies, false_implies, List.all_cons, List.all_nil, List.nodup_cons, List.nodup_nil, List.mem_cons, List.not_mem_nil, or_false, false_or, not_false_eq_true, decide_true, Bool.and_true, Bool.and_self, h0, h4, h8, h9, h10, g0, n0]
  refine ite_cases (fun hlt => ?_) (fun hlt => ?_)
  · have hlt' : k < us.length := Es.len_lt.1 hlt
    refine ⟨⟨by omega, hlt⟩, ?_⟩
    refine fits_spec _ _ _ _ us k ⟨by omega, hlt⟩ 0 ((us.take k).map (·.name)) _ _ _ (by omega) (by simp only [go_sem, ↓reduceIte, decide_eq_true_eq, reduceCtorEq, Nat.reduceEqDiff, Nat.reduceLT, Nat.reduceLeDiff, Nat.reduceAdd, Nat.reduceSub, Nat.reduceMul, Nat.reduceGT, Int.reduceNeg, Int.reduceToNat, and_true, true_and, and_false, false_and, List.getElem?_toArray, List.getElem?_cons_zero, List.getElem?_cons_succ, List.cons_append, List.nil_append, if_true, if_false, Option.getD_some, Option.isSome_some, Bool.false_eq_true, List.append_nil, List.drop_zero, List.drop_succ_cons, Bool.cond_false_right, Bool.cond_false_left, Bool.cond_true_left, Bool.cond_true_right, ite_self, Bool.not_true, Bool.not_false, cond_true, cond_false, List.size_toArray, implies_true, true_implies, false_implies, List.all_cons, List.all_nil, List.nodup_cons, List.nodup_nil, List.mem_cons, List.not_mem_nil, or_false, false_or, not_false_eq_true, decide_true, Bool.and_true, Bool.and_self, g0, n0]) ?_
    rintro ⟨o', nx'⟩ hg
    have gg0 := hg.2 0 0 (by show 0 < nx + 1; omega)
    have gg1 := hg.2 nx 0 (by show nx < nx + 1; omega)
    simp only [go_sem, ↓reduceIte, decide_eq_true_eq, reduceCtorEq, Nat.reduceEqDiff, Nat.reduceLT, Nat.reduceLeDiff, Nat.reduceAdd, Nat.reduceSub, Nat.reduceMul, Nat.reduceGT, Int.reduceNeg, Int.reduceToNat, and_true, true_and, and_false, false_and, List.getElem?_toArray, List.getElem?_cons_zero, List.getElem?_cons_succ, List.cons_append, List.nil_append, if_true, if_false, Option.getD_some, Option.isSome_some, Bool.false_eq_true, List.append_nil, List.drop_zero, List.drop_succ_cons, Bool.cond_false_right, Bool.cond_false_left, Bool.cond_true_left, Bool.cond_true_right, ite_self, Bool.not_true, Bool.not_false, cond_true, cond_false, List.size_toArray, implies_true, true_implies, false_implies, List.all_cons, List.all_nil, List.nodup_cons, List.nodup_nil, List.mem_cons, List.not_mem_nil, or_false, false_or, not_false_eq_true, decide_true, Bool.and_true, Bool.and_self, g0, n0] at gg0 gg1
    simp only [go_sem, ↓reduceIte, decide_eq_true_eq, reduceCtorEq, Nat.reduceEqDiff, Nat.reduceLT, Nat.reduceLeDiff, Nat.reduceAdd, Nat.reduceSub, Nat.reduceMul, Nat.reduceGT, Int.reduceNeg, Int.reduceToNat, and_true, true_and, and_false, false_and, List.getElem?_toArray, List.getElem?_cons_zero, List.getElem?_cons_succ, List.cons_append, List.nil_append, if_true, if_false, Option.getD_some, Option.isSome_some, Bool.false_eq_true, List.append_nil, List.drop_zero, List.drop_succ_cons, Bool.cond_false_right, Bool.cond_false_left, Bool.cond_true_left, Bool.cond_true_right, ite_self, Bool.not_true, Bool.not_false, cond_true, cond_false, List.size_toArray, implies_true, true_implies, false_implies, List.all_cons, List.all_nil, List.nodup_cons, List.nodup_nil, List.mem_cons, List.not_mem_nil, or_false, false_or, not_false_eq_true, decide_true, Bool.and_true, Bool.and_self, h0, h4, h8, h9, h10, gg0, gg1]
    refine ite_cases (fun hf => ?_) (fun hf => ?_)
    · have hq : Es.qBad us = some k := Es.qBad_some hlt' (by simpa using hf) hall
      simp only [Es.qValid, hq]
      exact Fz_tup ⟨.v _, .v _, trivial⟩
    · have hf' : Es.fits us k ((us.take k).map (·.name)) = true := by simpa using hf
      refine ⟨mapOf_keys _, hlt', ?_⟩
      simp only [go_sem, ↓reduceIte, decide_eq_true_eq, reduceCtorEq, Nat.reduceEqDiff, Nat.reduceLT, Nat.reduceLeDiff, Nat.reduceAdd, Nat.reduceSub, Nat.reduceMul, Nat.reduceGT, Int.reduceNeg, Int.reduceToNat, and_true, true_and, and_false, false_and, List.getElem?_toArray, List.getElem?_cons_zero, List.getElem?_cons_succ, List.cons_append, List.nil_append, if_true, if_false, Option.getD_some, Option.isSome_some, Bool.false_eq_true, List.append_nil, List.drop_zero, List.drop_succ_cons, Bool.cond_false_right, Bool.cond_false_left, Bool.cond_true_left, Bool.cond_true_right, ite_self, Bool.not_true, Bool.not_false, cond_true, cond_false, List.size_toArray, implies_true, true_implies, false_implies, List.all_cons, List.all_nil, List.nodup_cons, List.nodup_nil, List.mem_cons, List.not_mem_nil, or_false, false_or, not_false_eq_true, decide_true, Bool.and_true, Bool.and_self, h0, h4, h8, h9, h10, gg0, gg1]
      refine ⟨by rw [wrap_i64 _ (by omega) (by omega)]; simp, ?_, ?_, ?_⟩
      · have := hg.1; simp only at this; omega
      · rw [mput_mapOf _ _ (Es.fits_new hf'), List.take_succ_eq_append_getElem hlt', List.map_append, Es.at_nat hlt']; rfl
      · intro j hj
        rcases Nat.lt_or_ge j k with h | h
        · exact hall j h
        · have : j = k := by omega
          rw [this]; exact hf'
  · have hkk : k = us.length := by simp only [Es.len] at hlt; omega
    have hq : Es.qBad us = .none := Es.qBad_none (hkk ▸ hall)
    simp only [Es.qValid, hq]
    exact Fz_tup ⟨.v _, .v _, trivial⟩
end Tryd
end Go.Proofs
end
section
namespace Go.Proofs
open Go Go.Abs
set_option linter.unusedSimpArgs false
set_option maxRecDepth 10000
namespace Tryd
set_option maxHeartbeats 2000000 in
theorem frame_spec (c : Es.Contract) (hf : Es.Fits c) (hp : c.parties ≤ 12) : APure M 67 [conD c] (.v (.bool (Es.frame c))) := by
  have hf1 := hf.holders
  have hf2 := hf.units
  have hf3 := hf.acts
  have hf5 := hf.off
  refine pure_of gpu func67 rfl results67 ntmps67 (by simp) ⟨pu_conD _, trivial⟩ ?_
  intro b
  simp only [go_sem, ↓reduceIte, decide_eq_true_eq, reduceCtorEq, Nat.reduceEqDiff, Nat.reduceLT, Nat.reduceLeDiff, Nat.reduceAdd, Nat.reduceSub, Nat.reduceMul, Nat.reduceGT, Int.reduceNeg, Int.reduceToNat, and_true, true_and, and_false, false_and, List.getElem?_toArray, List.getElem?_cons_zero, List.getElem?_cons_succ, List.cons_append, List.nil_append, if_true, if_false, Option.getD_some, Option.isSome_some, Bool.false_eq_true, List.append_nil, List.drop_zero, List.drop_succ_cons, Bool.cond_false_right, Bool.cond_false_left, Bool.cond_true_left, Bool.cond_true_right, ite_self, Bool.not_true, Bool.not_false, cond_true, cond_false, List.size_toArray, implies_true, true_implies, false_implies, List.all_cons, List.all_nil, List.nodup_cons, List.nodup_nil, List.mem_cons, List.not_mem_nil, or_false, false_or, not_false_eq_true, decide_true, Bool.and_true, Bool.and_self]
  repeat' (first | ((with_reducible refine call_at M_P M_G (qValid_spec _ hf.units) ?_); simp only [go_sem, ↓reduceIte, decide_eq_true_eq, reduceCtorEq, Nat.reduceEqDiff, Nat.reduceLT, Nat.reduceLeDiff, Nat.reduceAdd, Nat.reduceSub, Nat.reduceMul, Nat.reduceGT, Int.reduceNeg, Int.reduceToNat, and_true, true_and, and_false, false_and, List.getElem?_toArray, List.getElem?_cons_zero, List.getElem?_cons_succ, List.cons_append, List.nil_append, if_true, if_false, Option.getD_some, Option.isSome_some, Bool.false_eq_true, List.append_nil, List.drop_zero, List.drop_succ_cons, Bool.cond_false_right, Bool.cond_false_left, Bool.cond_true_left, Bool.cond_true_right, ite_self, Bool.not_true, Bool.not_false, cond_true, cond_false, List.size_toArray, implies_true, true_implies, false_implies, List.all_cons, List.all_nil, List.nodup_cons, List.nodup_nil, List.mem_cons, List.not_mem_nil, or_false, false_or, not_false_eq_true, decide_true, Bool.and_true, Bool.and_self]) | (with_reducible refine And.intro ?_ ?_) | ((with_reducible refine ite_cases ?_ ?_) <;> intro _))
  all_goals try (refine congrArg Value.bool ?_; first | (simp [Es.frame, *]; done) | (simp [Es.frame, *]; omega) | (simp_all [Es.frame]; done) | (simp_all [Es.frame]; omega))
  · (refine awp_count0 c.holders.length (fun e0 s0 k e s => (e 1 = e0 1 ∧ e 38 = e0 38 ∧ e 39 = e0 39) ∧ e 40 = .v (.int .i64 k) ∧ s = s0 ∧ ∀ p ∈ c.holders.take k, (fun p => Es.under p c.parties) p = true) ⟨⟨rfl, rfl, rfl⟩, ?_, rfl, (by simp)⟩ ?_
     · simp only [go_sem, ↓reduceIte, decide_eq_true_eq, reduceCtorEq, Nat.reduceEqDiff, Nat.reduceLT, Nat.reduceLeDiff, Nat.reduceAdd, Nat.reduceSub, Nat.reduceMul, Nat.reduceGT, Int.reduceNeg, Int.reduceToNat, and_true, true_and, and_false, false_and, List.getElem?_toArray, List.getElem?_cons_zero, List.getElem?_cons_succ, List.cons_append, List.nil_append, if_true, if_false, Option.getD_some, Option.isSome_some, Bool.false_eq_true, List.append_nil, List.drop_zero, List.drop_succ_cons, Bool.cond_false_right, Bool.cond_false_left, Bool.cond_true_left, Bool.cond_true_right, ite_self, Bool.not_true, Bool.not_false, cond_true, cond_false, List.size_toArray, implies_true, true_implies, false_implies, List.all_cons, List.all_nil, List.nodup_cons, List.nodup_nil, List.mem_cons, List.not_mem_nil, or_false, false_or, not_false_eq_true, decide_true, Bool.and_true, Bool.and_self]; rfl
     rintro k e s hk ⟨⟨a1, a38, a39⟩, a40, rfl, hall⟩
     simp only [go_sem, ↓reduceIte, decide_eq_true_eq, reduceCtorEq, Nat.reduceEqDiff, Nat.reduceLT, Nat.reduceLeDiff, Nat.reduceAdd, Nat.reduceSub, Nat.reduceMul, Nat.reduceGT, Int.reduceNeg, Int.reduceToNat, and_true, true_and, and_false, false_and, List.getElem?_toArray, List.getElem?_cons_zero, List.getElem?_cons_succ, List.cons_append, List.nil_append, if_true, if_false, Option.getD_some, Option.isSome_some, Bool.false_eq_true, List.append_nil, List.drop_zero, List.drop_succ_cons, Bool.cond_false_right, Bool.cond_false_left, Bool.cond_true_left, Bool.cond_true_right, ite_self, Bool.not_true, Bool.not_false, cond_true, cond_false, List.size_toArray, implies_true, true_implies, false_implies, List.all_cons, List.all_nil, List.nodup_cons, List.nodup_nil, List.mem_cons, List.not_mem_nil, or_false, false_or, not_false_eq_true, decide_true, Bool.and_true, Bool.and_self] at a1 a38 a39
     simp only [go_sem, ↓reduceIte, decide_eq_true_eq, reduceCtorEq, Nat.reduceEqDiff, Nat.reduceLT, Nat.reduceLeDiff, Nat.reduceAdd, Nat.reduceSub, Nat.reduceMul, Nat.reduceGT, Int.reduceNeg, Int.reduceToNat, and_true, true_and, and_false, false_and, List.getElem?_toArray, List.getElem?_cons_zero, List.getElem?_cons_succ, List.cons_append, List.nil_append, if_true, if_false, Option.getD_some, Option.isSome_some, Bool.false_eq_true, List.append_nil, List.drop_zero, List.drop_succ_cons, Bool.cond_false_right, Bool.cond_false_left, Bool.cond_true_left, Bool.cond_true_right, ite_self, Bool.not_true, Bool.not_false, cond_true, cond_false, List.size_toArray, implies_true, true_implies, false_implies, List.all_cons, List.all_nil, List.nodup_cons, List.nodup_nil, List.mem_cons, List.not_mem_nil, or_false, false_or, not_false_eq_true, decide_true, Bool.and_true, Bool.and_self, a1, a38, a39, a40]
     refine ite_cases (fun hlt => ?_) (fun hlt => ?_)
     · have hlt' : k < c.holders.length := Es.len_lt.1 hlt
       refine ⟨⟨by omega, hlt⟩, ?_⟩
       refine awp_count0 c.parties.toNat (fun e0 s0 q e s => (e 1 = e0 1 ∧ e 38 = e0 38 ∧ e 39 = e0 39 ∧ e 40 = e0 40 ∧ e 45 = e0 45 ∧ e 6 = e0 6) ∧ e 46 = .v (.int .i64 q) ∧ s = s0 ∧ ∀ j : Nat, j < q → Es.at_ c.holders k ≠ j) ⟨⟨rfl, rfl, rfl, rfl, rfl, rfl⟩, ?_, rfl, (by omega)⟩ ?_
       · simp only [go_sem, ↓reduceIte, decide_eq_true_eq, reduceCtorEq, Nat.reduceEqDiff, Nat.reduceLT, Nat.reduceLeDiff, Nat.reduceAdd, Nat.reduceSub, Nat.reduceMul, Nat.reduceGT, Int.reduceNeg, Int.reduceToNat, and_true, true_and, and_false, false_and, List.getElem?_toArray, List.getElem?_cons_zero, List.getElem?_cons_succ, List.cons_append, List.nil_append, if_true, if_false, Option.getD_some, Option.isSome_some, Bool.false_eq_true, List.append_nil, List.drop_zero, List.drop_succ_cons, Bool.cond_false_right, Bool.cond_false_left, Bool.cond_true_left, Bool.cond_true_right, ite_self, Bool.not_true, Bool.not_false, cond_true, cond_false, List.size_toArray, implies_true, true_implies, false_implies, List.all_cons, List.all_nil, List.nodup_cons, List.nodup_nil, List.mem_cons, List.not_mem_nil, or_false, false_or, not_false_eq_true, decide_true, Bool.and_true, Bool.and_self]; rfl
       rintro q e s hq ⟨⟨h1, h38, h39, h40, h45, h6⟩, h46, rfl, hne⟩
       simp only [go_sem, ↓reduceIte, decide_eq_true_eq, reduceCtorEq, Nat.reduceEqDiff, Nat.reduceLT, Nat.reduceLeDiff, Nat.reduceAdd, Nat.reduceSub, Nat.reduceMul, Nat.reduceGT, Int.reduceNeg, Int.reduceToNat, and_true, true_and, and_false, false_and, List.getElem?_toArray, List.getElem?_cons_zero, List.getElem?_cons_succ, List.cons_append, List.nil_append, if_true, if_false, Option.getD_some, Option.isSome_some, Bool.false_eq_true, List.append_nil, List.drop_zero, List.drop_succ_cons, Bool.cond_false_right, Bool.cond_false_left, Bool.cond_true_left, Bool.cond_true_right, ite_self, Bool.not_true, Bool.not_false, cond_true, cond_false, List.size_toArray, implies_true, true_implies, false_implies, List.all_cons, List.all_nil, List.nodup_cons, List.nodup_nil, List.mem_cons, List.not_mem_nil, or_false, false_or, not_false_eq_true, decide_true, Bool.and_true, Bool.and_self, a1, a38, a39, a40] at h1 h38 h39 h40 h45 h6
       simp only [go_sem, ↓reduceIte, decide_eq_true_eq, reduceCtorEq, Nat.reduceEqDiff, Nat.reduceLT, Nat.reduceLeDiff, Nat.reduceAdd, Nat.reduceSub, Nat.reduceMul, Nat.reduceGT, Int.reduceNeg, Int.reduceToNat, and_true, true_and, and_false, false_and, List.getElem?_toArray, List.getElem?_cons_zero, List.getElem?_cons_succ, List.cons_append, List.nil_append, if_true, if_false, Option.getD_some, Option.isSome_some, Bool.false_eq_true, List.append_nil, List.drop_zero, List.drop_succ_cons, Bool.cond_false_right, Bool.cond_false_left, Bool.cond_true_left, Bool.cond_true_right, ite_self, Bool.not_true, Bool.not_false, cond_true, cond_false, List.size_toArray, implies_true, true_implies, false_implies, List.all_cons, List.all_nil, List.nodup_cons, List.nodup_nil, List.mem_cons, List.not_mem_nil, or_false, false_or, not_false_eq_true, decide_true, Bool.and_true, Bool.and_self, h1, h38, h39, h40, h45, h6, h46, a1, a38, a39, a40]
       refine ite_cases (fun hq' => ?_) (fun hq' => ?_)
       · refine ite_cases (fun he => ?_) (fun he => ?_)
         · have he' : Es.at_ c.holders k = q := by simpa using he
           refine ⟨hlt', ?_⟩
           simp only [go_sem, ↓reduceIte, decide_eq_true_eq, reduceCtorEq, Nat.reduceEqDiff, Nat.reduceLT, Nat.reduceLeDiff, Nat.reduceAdd, Nat.reduceSub, Nat.reduceMul, Nat.reduceGT, Int.reduceNeg, Int.reduceToNat, and_true, true_and, and_false, false_and, List.getElem?_toArray, List.getElem?_cons_zero, List.getElem?_cons_succ, List.cons_append, List.nil_append, if_true, if_false, Option.getD_some, Option.isSome_some, Bool.false_eq_true, List.append_nil, List.drop_zero, List.drop_succ_cons, Bool.cond_false_right, Bool.cond_false_left, Bool.cond_true_left, Bool.cond_true_right, ite_self, Bool.not_true, Bool.not_false, cond_true, cond_false, List.size_toArray, implies_true, true_implies, false_implies, List.all_cons, List.all_nil, List.nodup_cons, List.nodup_nil, List.mem_cons, List.not_mem_nil, or_false, false_or, not_false_eq_true, decide_true, Bool.and_true, Bool.and_self, h1, h38, h39, h40, h45, h6, h46, a1, a38, a39, a40]
           refine ⟨by rw [wrap_i64 _ (by omega) (by omega)]; simp, Es.all_step hlt' hall ?_⟩
           rw [he']; simp only [Es.under, Bool.and_eq_true, decide_eq_true_eq]; omega
         · have he' : Es.at_ c.holders k ≠ q := by simpa using he
           refine ⟨by omega, ?_⟩
           simp only [go_sem, ↓reduceIte, decide_eq_true_eq, reduceCtorEq, Nat.reduceEqDiff, Nat.reduceLT, Nat.reduceLeDiff, Nat.reduceAdd, Nat.reduceSub, Nat.reduceMul, Nat.reduceGT, Int.reduceNeg, Int.reduceToNat, and_true, true_and, and_false, false_and, List.getElem?_toArray, List.getElem?_cons_zero, List.getElem?_cons_succ, List.cons_append, List.nil_append, if_true, if_false, Option.getD_some, Option.isSome_some, Bool.false_eq_true, List.append_nil, List.drop_zero, List.drop_succ_cons, Bool.cond_false_right, Bool.cond_false_left, Bool.cond_true_left, Bool.cond_true_right, ite_self, Bool.not_true, Bool.not_false, cond_true, cond_false, List.size_toArray, implies_true, true_implies, false_implies, List.all_cons, List.all_nil, List.nodup_cons, List.nodup_nil, List.mem_cons, List.not_mem_nil, or_false, false_or, not_false_eq_true, decide_true, Bool.and_true, Bool.and_self, h1, h38, h39, h40, h45, h6, h46, a1, a38, a39, a40]
           refine ⟨by rw [wrap_i64 _ (by omega) (by omega)]; simp, ?_⟩
           intro j hj
           rcases Nat.lt_or_ge j q with h | h
           · exact hne j h
           · have : j = q := by omega
             rw [this]; exact he'
       · have hbad : c.holders.all (fun p => Es.under p c.parties) = false := Es.all_bad hlt' (by
           show Es.under _ _ = false
           cases hu : Es.under (Es.at_ c.holders k) c.parties with
           | false => rfl
           | true =>
             simp only [Es.under, Bool.and_eq_true, decide_eq_true_eq] at hu
             exact absurd (Int.toNat_of_nonneg hu.1).symm (hne (Es.at_ c.holders k).toNat (by omega)))
         first | (simp [Es.frame, *]; done) | (simp [Es.frame, *]; omega) | (simp_all [Es.frame]; done) | (simp_all [Es.frame]; omega)
     · have hA := Es.all_end (p := fun p => Es.under p c.parties) hlt hk hall
       refine awp_count0 c.acts.length (fun e0 s0 k e s => (e 1 = e0 1 ∧ e 55 = e0 55 ∧ e 56 = e0 56) ∧ e 57 = .v (.int .i64 k) ∧ Grow s0 s ∧ ∀ x ∈ c.acts.take k, Es.act c x = true) ⟨⟨rfl, rfl, rfl⟩, ?_, Grow.refl _, (by simp)⟩ ?_
       · simp only [go_sem, ↓reduceIte, decide_eq_true_eq, reduceCtorEq, Nat.reduceEqDiff, Nat.reduceLT, Nat.reduceLeDiff, Nat.reduceAdd, Nat.reduceSub, Nat.reduceMul, Nat.reduceGT, Int.reduceNeg, Int.reduceToNat, and_true, true_and, and_false, false_and, List.getElem?_toArray, List.getElem?_cons_zero, List.getElem?_cons_succ, List.cons_append, List.nil_append, if_true, if_false, Option.getD_some, Option.isSome_some, Bool.false_eq_true, List.append_nil, List.drop_zero, List.drop_succ_cons, Bool.cond_false_right, Bool.cond_false_left, Bool.cond_true_left, Bool.cond_true_right, ite_self, Bool.not_true, Bool.not_false, cond_true, cond_false, List.size_toArray, implies_true, true_implies, false_implies, List.all_cons, List.all_nil, List.nodup_cons, List.nodup_nil, List.mem_cons, List.not_mem_nil, or_false, false_or, not_false_eq_true, decide_true, Bool.and_true, Bool.and_self]; rfl
       clear hall
       rintro k e ⟨o, nx⟩ hk ⟨⟨h1, h55, h56⟩, h57, hg, hall⟩
       simp only [go_sem, ↓reduceIte, decide_eq_true_eq, reduceCtorEq, Nat.reduceEqDiff, Nat.reduceLT, Nat.reduceLeDiff, Nat.reduceAdd, Nat.reduceSub, Nat.reduceMul, Nat.reduceGT, Int.reduceNeg, Int.reduceToNat, and_true, true_and, and_false, false_and, List.getElem?_toArray, List.getElem?_cons_zero, List.getElem?_cons_succ, List.cons_append, List.nil_append, if_true, if_false, Option.getD_some, Option.isSome_some, Bool.false_eq_true, List.append_nil, List.drop_zero, List.drop_succ_cons, Bool.cond_false_right, Bool.cond_false_left, Bool.cond_true_left, Bool.cond_true_right, ite_self, Bool.not_true, Bool.not_false, cond_true, cond_false, List.size_toArray, implies_true, true_implies, false_implies, List.all_cons, List.all_nil, List.nodup_cons, List.nodup_nil, List.mem_cons, List.not_mem_nil, or_false, false_or, not_false_eq_true, decide_true, Bool.and_true, Bool.and_self, a1] at h1 h55 h56
       have g0 := hg.2 0 0 (by show (0:Nat) < 1; decide); have hn : 1 ≤ nx := hg.1; have n0 : (0 = nx) = False := (by simp only [eq_iff_iff, iff_false]; omega); simp only [go_sem, ↓reduceIte, decide_eq_true_eq, reduceCtorEq, Nat.reduceEqDiff, Nat.reduceLT, Nat.reduceLeDiff, Nat.reduceAdd, Nat.reduceSub, Nat.reduceMul, Nat.reduceGT, Int.reduceNeg, Int.reduceToNat, and_true, true_and, and_false, false_and, List.getElem?_toArray, List.getElem?_cons_zero, List.getElem?_cons_succ, List.cons_append, List.nil_append, if_true, if_false, Option.getD_some, Option.isSome_some, Bool.false_eq_true, List.append_nil, List.drop_zero, List.drop_succ_cons, Bool.cond_false_right, Bool.cond_false_left, Bool.cond_true_left, Bool.cond_true_right, ite_self, Bool.not_true, Bool.not_false, cond_true, cond_false, List.size_toArray, implies_true, true_implies, false_implies, List.all_cons, List.all_nil, List.nodup_cons, List.nodup_nil, List.mem_cons, List.not_mem_nil, or_false, false_or, not_false_eq_true, decide_true, Bool.and_true, Bool.and_self] at g0
       simp only [go_sem, ↓reduceIte, decide_eq_true_eq, reduceCtorEq, Nat.reduceEqDiff, Nat.reduceLT, Nat.reduceLeDiff, Nat.reduceAdd, Nat.reduceSub, Nat.reduceMul, Nat.reduceGT, Int.reduceNeg, Int.reduceToNat, and_true, true_and, and_false, false_and, List.getElem?_toArray, List.getElem?_cons_zero, List.getElem?_cons_succ, List.cons_append, List.nil_append, if_true, if_false, Option.getD_some, Option.isSome_some, Bool.false_eq_true, List.append_nil, List.drop_zero, List.drop_succ_cons, Bool.cond_false_right, Bool.cond_false_left, Bool.cond_true_left, Bool.cond_true_right, ite_self, Bool.not_true, Bool.not_false, cond_true, cond_false, List.size_toArray, implies_true, true_implies, false_implies, List.all_cons, List.all_nil, List.nodup_cons, List.nodup_nil, List.mem_cons, List.not_mem_nil, or_false, false_or, not_false_eq_true, decide_true, Bool.and_true, Bool.and_self, h1, h55, h56, h57, g0, n0, a1]
       refine ite_cases (fun hlt => ?_) (fun hlt => ?_)
       · have hlt' : k < c.acts.length := Es.len_lt.1 hlt
         refine ⟨⟨by omega, hlt⟩, ?_⟩
         repeat' (first | ((with_reducible refine call_at M_P M_G (act_spec _ _) ?_); simp only [go_sem, ↓reduceIte, decide_eq_true_eq, reduceCtorEq, Nat.reduceEqDiff, Nat.reduceLT, Nat.reduceLeDiff, Nat.reduceAdd, Nat.reduceSub, Nat.reduceMul, Nat.reduceGT, Int.reduceNeg, Int.reduceToNat, and_true, true_and, and_false, false_and, List.getElem?_toArray, List.getElem?_cons_zero, List.getElem?_cons_succ, List.cons_append, List.nil_append, if_true, if_false, Option.getD_some, Option.isSome_some, Bool.false_eq_true, List.append_nil, List.drop_zero, List.drop_succ_cons, Bool.cond_false_right, Bool.cond_false_left, Bool.cond_true_left, Bool.cond_true_right, ite_self, Bool.not_true, Bool.not_false, cond_true, cond_false, List.size_toArray, implies_true, true_implies, false_implies, List.all_cons, List.all_nil, List.nodup_cons, List.nodup_nil, List.mem_cons, List.not_mem_nil, or_false, false_or, not_false_eq_true, decide_true, Bool.and_true, Bool.and_self, h1, h55, h56, h57, g0, n0, a1]) | (with_reducible refine And.intro ?_ ?_) | ((with_reducible refine ite_cases ?_ ?_) <;> intro _))
         · have hbad : c.acts.all (Es.act c) = false := Es.all_bad hlt' (by simpa using ‹(!Es.act c _) = true›)
           first | (simp [Es.frame, *]; done) | (simp [Es.frame, *]; omega) | (simp_all [Es.frame]; done) | (simp_all [Es.frame]; omega)
         · refine ⟨hlt', ?_⟩
           simp only [go_sem, ↓reduceIte, decide_eq_true_eq, reduceCtorEq, Nat.reduceEqDiff, Nat.reduceLT, Nat.reduceLeDiff, Nat.reduceAdd, Nat.reduceSub, Nat.reduceMul, Nat.reduceGT, Int.reduceNeg, Int.reduceToNat, and_true, true_and, and_false, false_and, List.getElem?_toArray, List.getElem?_cons_zero, List.getElem?_cons_succ, List.cons_append, List.nil_append, if_true, if_false, Option.getD_some, Option.isSome_some, Bool.false_eq_true, List.append_nil, List.drop_zero, List.drop_succ_cons, Bool.cond_false_right, Bool.cond_false_left, Bool.cond_true_left, Bool.cond_true_right, ite_self, Bool.not_true, Bool.not_false, cond_true, cond_false, List.size_toArray, implies_true, true_implies, false_implies, List.all_cons, List.all_nil, List.nodup_cons, List.nodup_nil, List.mem_cons, List.not_mem_nil, or_false, false_or, not_false_eq_true, decide_true, Bool.and_true, Bool.and_self, h1, h55, h56, h57, g0, n0, a1]
           exact ⟨by rw [wrap_i64 _ (by omega) (by omega)]; simp, hg.set hn (by omega), Es.all_step hlt' hall (by simpa using ‹¬ (!Es.act c _) = true›)⟩
       · have hB := Es.all_end (p := Es.act c) hlt hk hall
         refine awp_count0 c.off.length (fun e0 s0 k e s => (e 1 = e0 1 ∧ e 67 = e0 67 ∧ e 68 = e0 68) ∧ e 69 = .v (.int .i64 k) ∧ s = s0 ∧ ∃ last, e 10 = .v (.int .i64 last) ∧ Es.offOk c.days (-1) c.off = Es.offOk c.days last (c.off.drop k)) ⟨⟨rfl, rfl, rfl⟩, ?_, rfl, ?_⟩ ?_
         · simp only [go_sem, ↓reduceIte, decide_eq_true_eq, reduceCtorEq, Nat.reduceEqDiff, Nat.reduceLT, Nat.reduceLeDiff, Nat.reduceAdd, Nat.reduceSub, Nat.reduceMul, Nat.reduceGT, Int.reduceNeg, Int.reduceToNat, and_true, true_and, and_false, false_and, List.getElem?_toArray, List.getElem?_cons_zero, List.getElem?_cons_succ, List.cons_append, List.nil_append, if_true, if_false, Option.getD_some, Option.isSome_some, Bool.false_eq_true, List.append_nil, List.drop_zero, List.drop_succ_cons, Bool.cond_false_right, Bool.cond_false_left, Bool.cond_true_left, Bool.cond_true_right, ite_self, Bool.not_true, Bool.not_false, cond_true, cond_false, List.size_toArray, implies_true, true_implies, false_implies, List.all_cons, List.all_nil, List.nodup_cons, List.nodup_nil, List.mem_cons, List.not_mem_nil, or_false, false_or, not_false_eq_true, decide_true, Bool.and_true, Bool.and_self]; rfl
         · exact ⟨-1, by simp only [go_sem, ↓reduceIte, decide_eq_true_eq, reduceCtorEq, Nat.reduceEqDiff, Nat.reduceLT, Nat.reduceLeDiff, Nat.reduceAdd, Nat.reduceSub, Nat.reduceMul, Nat.reduceGT, Int.reduceNeg, Int.reduceToNat, and_true, true_and, and_false, false_and, List.getElem?_toArray, List.getElem?_cons_zero, List.getElem?_cons_succ, List.cons_append, List.nil_append, if_true, if_false, Option.getD_some, Option.isSome_some, Bool.false_eq_true, List.append_nil, List.drop_zero, List.drop_succ_cons, Bool.cond_false_right, Bool.cond_false_left, Bool.cond_true_left, Bool.cond_true_right, ite_self, Bool.not_true, Bool.not_false, cond_true, cond_false, List.size_toArray, implies_true, true_implies, false_implies, List.all_cons, List.all_nil, List.nodup_cons, List.nodup_nil, List.mem_cons, List.not_mem_nil, or_false, false_or, not_false_eq_true, decide_true, Bool.and_true, Bool.and_self], rfl⟩
         rintro m e s hm ⟨⟨b1, b67, b68⟩, b69, rfl, last, b10, hoff⟩
         simp only [go_sem, ↓reduceIte, decide_eq_true_eq, reduceCtorEq, Nat.reduceEqDiff, Nat.reduceLT, Nat.reduceLeDiff, Nat.reduceAdd, Nat.reduceSub, Nat.reduceMul, Nat.reduceGT, Int.reduceNeg, Int.reduceToNat, and_true, true_and, and_false, false_and, List.getElem?_toArray, List.getElem?_cons_zero, List.getElem?_cons_succ, List.cons_append, List.nil_append, if_true, if_false, Option.getD_some, Option.isSome_some, Bool.false_eq_true, List.append_nil, List.drop_zero, List.drop_succ_cons, Bool.cond_false_right, Bool.cond_false_left, Bool.cond_true_left, Bool.cond_true_right, ite_self, Bool.not_true, Bool.not_false, cond_true, cond_false, List.size_toArray, implies_true, true_implies, false_implies, List.all_cons, List.all_nil, List.nodup_cons, List.nodup_nil, List.mem_cons, List.not_mem_nil, or_false, false_or, not_false_eq_true, decide_true, Bool.and_true, Bool.and_self, h1, g0, n0] at b1 b67 b68
         simp only [go_sem, ↓reduceIte, decide_eq_true_eq, reduceCtorEq, Nat.reduceEqDiff, Nat.reduceLT, Nat.reduceLeDiff, Nat.reduceAdd, Nat.reduceSub, Nat.reduceMul, Nat.reduceGT, Int.reduceNeg, Int.reduceToNat, and_true, true_and, and_false, false_and, List.getElem?_toArray, List.getElem?_cons_zero, List.getElem?_cons_succ, List.cons_append, List.nil_append, if_true, if_false, Option.getD_some, Option.isSome_some, Bool.false_eq_true, List.append_nil, List.drop_zero, List.drop_succ_cons, Bool.cond_false_right, Bool.cond_false_left, Bool.cond_true_left, Bool.cond_true_right, ite_self, Bool.not_true, Bool.not_false, cond_true, cond_false, List.size_toArray, implies_true, true_implies, false_implies, List.all_cons, List.all_nil, List.nodup_cons, List.nodup_nil, List.mem_cons, List.not_mem_nil, or_false, false_or, not_false_eq_true, decide_true, Bool.and_true, Bool.and_self, b1, b67, b68, b69, b10, g0, n0, h1, a1]
         refine ite_cases (fun hlt2 => ?_) (fun hlt2 => ?_)
         · have hlt2' : m < c.off.length := Es.len_lt.1 hlt2
           have hd := Es.drop_at hlt2'
           refine ⟨⟨by omega, hlt2⟩, ?_⟩
           rw [hd, Es.offOk] at hoff
           repeat' (first | (with_reducible refine And.intro ?_ ?_) | ((with_reducible refine ite_cases ?_ ?_) <;> intro _))
           all_goals first
             | (refine ⟨hlt2', ?_⟩
                simp only [go_sem, ↓reduceIte, decide_eq_true_eq, reduceCtorEq, Nat.reduceEqDiff, Nat.reduceLT, Nat.reduceLeDiff, Nat.reduceAdd, Nat.reduceSub, Nat.reduceMul, Nat.reduceGT, Int.reduceNeg, Int.reduceToNat, and_true, true_and, and_false, false_and, List.getElem?_toArray, List.getElem?_cons_zero, List.getElem?_cons_succ, List.cons_append, List.nil_append, if_true, if_false, Option.getD_some, Option.isSome_some, Bool.false_eq_true, List.append_nil, List.drop_zero, List.drop_succ_cons, Bool.cond_false_right, Bool.cond_false_left, Bool.cond_true_left, Bool.cond_true_right, ite_self, Bool.not_true, Bool.not_false, cond_true, cond_false, List.size_toArray, implies_true, true_implies, false_implies, List.all_cons, List.all_nil, List.nodup_cons, List.nodup_nil, List.mem_cons, List.not_mem_nil, or_false, false_or, not_false_eq_true, decide_true, Bool.and_true, Bool.and_self, b1, b67, b68, b69, b10, g0, n0, h1, a1]
                refine ⟨by rw [wrap_i64 _ (by omega) (by omega)]; simp, _, rfl, ?_⟩
                rw [hoff]
                simp_all
                done)
             | (have hoff' : Es.offOk c.days (-1) c.off = false := by rw [hoff]; simp_all
                first | (simp [Es.frame, *]; done) | (simp [Es.frame, *]; omega) | (simp_all [Es.frame]; done) | (simp_all [Es.frame]; omega))
         · have hdm : c.off.drop m = [] := List.drop_eq_nil_of_le (by simp only [Es.len] at hlt2; omega)
           rw [hdm] at hoff
           have hoff' : Es.offOk c.days (-1) c.off = true := hoff
           first | (simp [Es.frame, *]; done) | (simp [Es.frame, *]; omega) | (simp_all [Es.frame]; done) | (simp_all [Es.frame]; omega))
end Tryd
end Go.Proofs
end
section
namespace Go.Proofs
open Go Go.Abs
set_option linter.unusedSimpArgs false
set_option maxRecDepth 10000
namespace Tryd
theorem find_some {c : Es.Contract} {k : Nat} (hk : k < c.clauses.length) (h : Es.clauseOk c k = false) (hall : ∀ j : Nat, j < k → Es.clauseOk c j = true) : (List.range c.clauses.length).find? (fun i : Nat => !Es.clauseOk c (i : Int)) = some k := by
  rw [List.find?_range_eq_some]
  exact ⟨by simp only [h, Bool.not_false], by simpa using hk, fun j hj => by simp only [hall j hj, Bool.not_true, Bool.not_false]⟩
theorem find_none {c : Es.Contract} (hall : ∀ j : Nat, j < c.clauses.length → Es.clauseOk c j = true) : (List.range c.clauses.length).find? (fun i : Nat => !Es.clauseOk c (i : Int)) = .none := by
  rw [List.find?_eq_none]
  intro j hj
  simp only [hall j (List.mem_range.1 hj), Bool.not_true, Bool.false_eq_true, not_false_eq_true]
set_option maxHeartbeats 2000000 in
theorem valid2_spec (c : Es.Contract) (hf : Es.Fits c) : APure M 35 [conD c] (.tup [.v (.int .i64 (Es.valid2 c).1), .v (.int .i64 (Es.valid2 c).2)]) := by
  have hf4 := hf.clauses
  refine pure_of gpu func35 rfl results35 ntmps35 (by simp) ⟨pu_conD _, trivial⟩ ?_
  intro b
  simp only [go_sem, ↓reduceIte, decide_eq_true_eq, reduceCtorEq, Nat.reduceEqDiff, Nat.reduceLT, Nat.reduceLeDiff, Nat.reduceAdd, Nat.reduceSub, Nat.reduceMul, Nat.reduceGT, Int.reduceNeg, Int.reduceToNat, and_true, true_and, and_false, false_and, List.getElem?_toArray, List.getElem?_cons_zero, List.getElem?_cons_succ, List.cons_append, List.nil_append, if_true, if_false, Option.getD_some, Option.isSome_some, Bool.false_eq_true, List.append_nil, List.drop_zero, List.drop_succ_cons, Bool.cond_false_right, Bool.cond_false_left, Bool.cond_true_left, Bool.cond_true_right, ite_self, Bool.not_true, Bool.not_false, cond_true, cond_false, List.size_toArray, implies_true, true_implies, false_implies, List.all_cons, List.all_nil, List.nodup_cons, List.nodup_nil, List.mem_cons, List.not_mem_nil, or_false, false_or, not_false_eq_true, decide_true, Bool.and_true, Bool.and_self]
  repeat' (first | (with_reducible refine And.intro ?_ ?_) | ((with_reducible refine ite_cases ?_ ?_) <;> intro _))
  all_goals first
    | (rw [show Es.valid2 c = (3, -1) by simp only [Es.valid2]; rw [if_pos]; first | (simp [Es.len, *]; done) | (simp [Es.len, *]; omega) | (simp_all [Es.len]; done) | (simp_all [Es.len]; omega)]
       exact Fz_tup ⟨.v _, .v _, trivial⟩)
    | skip
  have h0 : ¬ ((decide (12 < c.parties) || decide (2000 < c.days) || decide (12 < Es.len c.holders) || decide (20 < Es.len c.units) || decide (60 < Es.len c.acts) || decide (400 < Es.len c.clauses)) = true) := by simp [*]
  have hp : c.parties ≤ 12 := by simp at h0; omega
  refine call_at M_P M_G (frame_spec c hf hp) ?_
  simp only [go_sem, ↓reduceIte, decide_eq_true_eq, reduceCtorEq, Nat.reduceEqDiff, Nat.reduceLT, Nat.reduceLeDiff, Nat.reduceAdd, Nat.reduceSub, Nat.reduceMul, Nat.reduceGT, Int.reduceNeg, Int.reduceToNat, and_true, true_and, and_false, false_and, List.getElem?_toArray, List.getElem?_cons_zero, List.getElem?_cons_succ, List.cons_append, List.nil_append, if_true, if_false, Option.getD_some, Option.isSome_some, Bool.false_eq_true, List.append_nil, List.drop_zero, List.drop_succ_cons, Bool.cond_false_right, Bool.cond_false_left, Bool.cond_true_left, Bool.cond_true_right, ite_self, Bool.not_true, Bool.not_false, cond_true, cond_false, List.size_toArray, implies_true, true_implies, false_implies, List.all_cons, List.all_nil, List.nodup_cons, List.nodup_nil, List.mem_cons, List.not_mem_nil, or_false, false_or, not_false_eq_true, decide_true, Bool.and_true, Bool.and_self]
  refine ite_cases (fun hfr => ?_) (fun hfr => ?_)
  · have : Es.valid2 c = (1, -1) := by
      unfold Es.valid2; rw [if_neg h0, if_pos hfr]
    rw [this]; exact Fz_tup ⟨.v _, .v _, trivial⟩
  · have hv : Es.valid2 c = match (List.range c.clauses.length).find? (fun i : Nat => !Es.clauseOk c (i : Int)) with | some i => (1, (i : Int)) | .none => (0, -1) := by
      unfold Es.valid2; rw [if_neg h0, if_neg hfr]; rfl
    refine awp_count0 c.clauses.length (fun e0 s0 k e s => (e 1 = e0 1 ∧ e 41 = e0 41 ∧ e 42 = e0 42) ∧ e 43 = .v (.int .i64 k) ∧ s = s0 ∧ ∀ j : Nat, j < k → Es.clauseOk c j = true) ⟨⟨rfl, rfl, rfl⟩, ?_, rfl, (by omega)⟩ ?_
    · simp only [go_sem, ↓reduceIte, decide_eq_true_eq, reduceCtorEq, Nat.reduceEqDiff, Nat.reduceLT, Nat.reduceLeDiff, Nat.reduceAdd, Nat.reduceSub, Nat.reduceMul, Nat.reduceGT, Int.reduceNeg, Int.reduceToNat, and_true, true_and, and_false, false_and, List.getElem?_toArray, List.getElem?_cons_zero, List.getElem?_cons_succ, List.cons_append, List.nil_append, if_true, if_false, Option.getD_some, Option.isSome_some, Bool.false_eq_true, List.append_nil, List.drop_zero, List.drop_succ_cons, Bool.cond_false_right, Bool.cond_false_left, Bool.cond_true_left, Bool.cond_true_right, ite_self, Bool.not_true, Bool.not_false, cond_true, cond_false, List.size_toArray, implies_true, true_implies, false_implies, List.all_cons, List.all_nil, List.nodup_cons, List.nodup_nil, List.mem_cons, List.not_mem_nil, or_false, false_or, not_false_eq_true, decide_true, Bool.and_true, Bool.and_self]; rfl
    rintro k e s hk ⟨⟨h1, h41, h42⟩, h43, rfl, hall⟩
    simp only [go_sem, ↓reduceIte, decide_eq_true_eq, reduceCtorEq, Nat.reduceEqDiff, Nat.reduceLT, Nat.reduceLeDiff, Nat.reduceAdd, Nat.reduceSub, Nat.reduceMul, Nat.reduceGT, Int.reduceNeg, Int.reduceToNat, and_true, true_and, and_false, false_and, List.getElem?_toArray, List.getElem?_cons_zero, List.getElem?_cons_succ, List.cons_append, List.nil_append, if_true, if_false, Option.getD_some, Option.isSome_some, Bool.false_eq_true, List.append_nil, List.drop_zero, List.drop_succ_cons, Bool.cond_false_right, Bool.cond_false_left, Bool.cond_true_left, Bool.cond_true_right, ite_self, Bool.not_true, Bool.not_false, cond_true, cond_false, List.size_toArray, implies_true, true_implies, false_implies, List.all_cons, List.all_nil, List.nodup_cons, List.nodup_nil, List.mem_cons, List.not_mem_nil, or_false, false_or, not_false_eq_true, decide_true, Bool.and_true, Bool.and_self] at h1 h41 h42
    simp only [go_sem, ↓reduceIte, decide_eq_true_eq, reduceCtorEq, Nat.reduceEqDiff, Nat.reduceLT, Nat.reduceLeDiff, Nat.reduceAdd, Nat.reduceSub, Nat.reduceMul, Nat.reduceGT, Int.reduceNeg, Int.reduceToNat, and_true, true_and, and_false, false_and, List.getElem?_toArray, List.getElem?_cons_zero, List.getElem?_cons_succ, List.cons_append, List.nil_append, if_true, if_false, Option.getD_some, Option.isSome_some, Bool.false_eq_true, List.append_nil, List.drop_zero, List.drop_succ_cons, Bool.cond_false_right, Bool.cond_false_left, Bool.cond_true_left, Bool.cond_true_right, ite_self, Bool.not_true, Bool.not_false, cond_true, cond_false, List.size_toArray, implies_true, true_implies, false_implies, List.all_cons, List.all_nil, List.nodup_cons, List.nodup_nil, List.mem_cons, List.not_mem_nil, or_false, false_or, not_false_eq_true, decide_true, Bool.and_true, Bool.and_self, h1, h41, h42, h43]
    refine ite_cases (fun hlt => ?_) (fun hlt => ?_)
    · have hlt' : k < c.clauses.length := Es.len_lt.1 hlt
      refine call_at M_P M_G (clause_spec c k ⟨by omega, hlt⟩) ?_
      simp only [go_sem, ↓reduceIte, decide_eq_true_eq, reduceCtorEq, Nat.reduceEqDiff, Nat.reduceLT, Nat.reduceLeDiff, Nat.reduceAdd, Nat.reduceSub, Nat.reduceMul, Nat.reduceGT, Int.reduceNeg, Int.reduceToNat, and_true, true_and, and_false, false_and, List.getElem?_toArray, List.getElem?_cons_zero, List.getElem?_cons_succ, List.cons_append, List.nil_append, if_true, if_false, Option.getD_some, Option.isSome_some, Bool.false_eq_true, List.append_nil, List.drop_zero, List.drop_succ_cons, Bool.cond_false_right, Bool.cond_false_left, Bool.cond_true_left, Bool.cond_true_right, ite_self, Bool.not_true, Bool.not_false, cond_true, cond_false, List.size_toArray, implies_true, true_implies, false_implies, List.all_cons, List.all_nil, List.nodup_cons, List.nodup_nil, List.mem_cons, List.not_mem_nil, or_false, false_or, not_false_eq_true, decide_true, Bool.and_true, Bool.and_self, h1, h41, h42, h43]
      refine ite_cases (fun hb => ?_) (fun hb => ?_)
      · have : Es.valid2 c = (1, (k : Int)) := by rw [hv, find_some hlt' (by simpa using hb) hall]
        rw [this]; exact Fz_tup ⟨.v _, .v _, trivial⟩
      · refine ⟨hlt', ?_⟩
        simp only [go_sem, ↓reduceIte, decide_eq_true_eq, reduceCtorEq, Nat.reduceEqDiff, Nat.reduceLT, Nat.reduceLeDiff, Nat.reduceAdd, Nat.reduceSub, Nat.reduceMul, Nat.reduceGT, Int.reduceNeg, Int.reduceToNat, and_true, true_and, and_false, false_and, List.getElem?_toArray, List.getElem?_cons_zero, List.getElem?_cons_succ, List.cons_append, List.nil_append, if_true, if_false, Option.getD_some, Option.isSome_some, Bool.false_eq_true, List.append_nil, List.drop_zero, List.drop_succ_cons, Bool.cond_false_right, Bool.cond_false_left, Bool.cond_true_left, Bool.cond_true_right, ite_self, Bool.not_true, Bool.not_false, cond_true, cond_false, List.size_toArray, implies_true, true_implies, false_implies, List.all_cons, List.all_nil, List.nodup_cons, List.nodup_nil, List.mem_cons, List.not_mem_nil, or_false, false_or, not_false_eq_true, decide_true, Bool.and_true, Bool.and_self, h1, h41, h42, h43]
        refine ⟨by rw [wrap_i64 _ (by omega) (by omega)]; simp, ?_⟩
        intro j hj
        rcases Nat.lt_or_ge j k with h | h
        · exact hall j h
        · have : j = k := by omega
          rw [this]; simpa using hb
    · have hkk : k = c.clauses.length := by simp only [Es.len] at hlt; omega
      have : Es.valid2 c = (0, -1) := by rw [hv, find_none (hkk ▸ hall)]
      rw [this]; exact Fz_tup ⟨.v _, .v _, trivial⟩

theorem valid_spec (c : Es.Contract) (hf : Es.Fits c) : APure M 44 [conD c] (.v (.bool ((Es.valid2 c).1 == 0))) := by
  refine pure_of gpu func44 rfl results44 ntmps44 (by simp) ⟨pu_conD _, trivial⟩ ?_
  intro b
  simp only [go_sem, ↓reduceIte, decide_eq_true_eq, reduceCtorEq, Nat.reduceEqDiff, Nat.reduceLT, Nat.reduceLeDiff, Nat.reduceAdd, Nat.reduceSub, Nat.reduceMul, Nat.reduceGT, Int.reduceNeg, Int.reduceToNat, and_true, true_and, and_false, false_and, List.getElem?_toArray, List.getElem?_cons_zero, List.getElem?_cons_succ, List.cons_append, List.nil_append, if_true, if_false, Option.getD_some, Option.isSome_some, Bool.false_eq_true, List.append_nil, List.drop_zero, List.drop_succ_cons, Bool.cond_false_right, Bool.cond_false_left, Bool.cond_true_left, Bool.cond_true_right, ite_self, Bool.not_true, Bool.not_false, cond_true, cond_false, List.size_toArray, implies_true, true_implies, false_implies, List.all_cons, List.all_nil, List.nodup_cons, List.nodup_nil, List.mem_cons, List.not_mem_nil, or_false, false_or, not_false_eq_true, decide_true, Bool.and_true, Bool.and_self]
  repeat' (first | ((with_reducible refine call_at M_P M_G (valid2_spec _ hf) ?_); simp only [go_sem, ↓reduceIte, decide_eq_true_eq, reduceCtorEq, Nat.reduceEqDiff, Nat.reduceLT, Nat.reduceLeDiff, Nat.reduceAdd, Nat.reduceSub, Nat.reduceMul, Nat.reduceGT, Int.reduceNeg, Int.reduceToNat, and_true, true_and, and_false, false_and, List.getElem?_toArray, List.getElem?_cons_zero, List.getElem?_cons_succ, List.cons_append, List.nil_append, if_true, if_false, Option.getD_some, Option.isSome_some, Bool.false_eq_true, List.append_nil, List.drop_zero, List.drop_succ_cons, Bool.cond_false_right, Bool.cond_false_left, Bool.cond_true_left, Bool.cond_true_right, ite_self, Bool.not_true, Bool.not_false, cond_true, cond_false, List.size_toArray, implies_true, true_implies, false_implies, List.all_cons, List.all_nil, List.nodup_cons, List.nodup_nil, List.mem_cons, List.not_mem_nil, or_false, false_or, not_false_eq_true, decide_true, Bool.and_true, Bool.and_self]) | (with_reducible refine And.intro ?_ ?_) | ((with_reducible refine ite_cases ?_ ?_) <;> intro _))
end Tryd
end Go.Proofs
end
section
namespace Go.Proofs
open Go Go.Abs
set_option linter.unusedSimpArgs false
set_option maxRecDepth 10000
namespace Tryd
set_option maxHeartbeats 2000000 in
theorem sValid_spec (c : Es.Contract) (s : Es.State) (hf : Es.Fits c) (hs : Es.SFits s) : APure M 26 [conD c, staD s] (.v (.bool (Es.sValid c s))) := by
  have hcall : callable prog 51 = true := by simp only [go_sem]
  have hcon := containsI_spec 51 [.rp 7 (conC c) 0] hcall ⟨pu_rp (pu_conC c), trivial⟩ (fun p => decide (p < 0) || decide (c.parties ≤ p)) s.holders hs.holders (fun x _ => holder_spec c x)
  have hs1 := hs.used
  have hs2 := hs.marks
  refine pure_of gpu func26 rfl results26 ntmps26 (by simp) ⟨pu_conD _, pu_staD _, trivial⟩ ?_
  intro b
  simp only [go_sem, ↓reduceIte, decide_eq_true_eq, reduceCtorEq, Nat.reduceEqDiff, Nat.reduceLT, Nat.reduceLeDiff, Nat.reduceAdd, Nat.reduceSub, Nat.reduceMul, Nat.reduceGT, Int.reduceNeg, Int.reduceToNat, and_true, true_and, and_false, false_and, List.getElem?_toArray, List.getElem?_cons_zero, List.getElem?_cons_succ, List.cons_append, List.nil_append, if_true, if_false, Option.getD_some, Option.isSome_some, Bool.false_eq_true, List.append_nil, List.drop_zero, List.drop_succ_cons, Bool.cond_false_right, Bool.cond_false_left, Bool.cond_true_left, Bool.cond_true_right, ite_self, Bool.not_true, Bool.not_false, cond_true, cond_false, List.size_toArray, implies_true, true_implies, false_implies, List.all_cons, List.all_nil, List.nodup_cons, List.nodup_nil, List.mem_cons, List.not_mem_nil, or_false, false_or, not_false_eq_true, decide_true, Bool.and_true, Bool.and_self]
  repeat' (first | ((with_reducible refine call_at M_P M_G (valid_spec c hf) ?_); simp only [go_sem, ↓reduceIte, decide_eq_true_eq, reduceCtorEq, Nat.reduceEqDiff, Nat.reduceLT, Nat.reduceLeDiff, Nat.reduceAdd, Nat.reduceSub, Nat.reduceMul, Nat.reduceGT, Int.reduceNeg, Int.reduceToNat, and_true, true_and, and_false, false_and, List.getElem?_toArray, List.getElem?_cons_zero, List.getElem?_cons_succ, List.cons_append, List.nil_append, if_true, if_false, Option.getD_some, Option.isSome_some, Bool.false_eq_true, List.append_nil, List.drop_zero, List.drop_succ_cons, Bool.cond_false_right, Bool.cond_false_left, Bool.cond_true_left, Bool.cond_true_right, ite_self, Bool.not_true, Bool.not_false, cond_true, cond_false, List.size_toArray, implies_true, true_implies, false_implies, List.all_cons, List.all_nil, List.nodup_cons, List.nodup_nil, List.mem_cons, List.not_mem_nil, or_false, false_or, not_false_eq_true, decide_true, Bool.and_true, Bool.and_self]) | ((with_reducible apply lend_at M_P M_G (hcon) gpu (Flat.v _)); (exact ⟨(pu_slD pu_intC _).fz, Fz_fn ⟨fz_con rfl (by decide), trivial⟩, trivial⟩); simp only [go_sem, ↓reduceIte, decide_eq_true_eq, reduceCtorEq, Nat.reduceEqDiff, Nat.reduceLT, Nat.reduceLeDiff, Nat.reduceAdd, Nat.reduceSub, Nat.reduceMul, Nat.reduceGT, Int.reduceNeg, Int.reduceToNat, and_true, true_and, and_false, false_and, List.getElem?_toArray, List.getElem?_cons_zero, List.getElem?_cons_succ, List.cons_append, List.nil_append, if_true, if_false, Option.getD_some, Option.isSome_some, Bool.false_eq_true, List.append_nil, List.drop_zero, List.drop_succ_cons, Bool.cond_false_right, Bool.cond_false_left, Bool.cond_true_left, Bool.cond_true_right, ite_self, Bool.not_true, Bool.not_false, cond_true, cond_false, List.size_toArray, implies_true, true_implies, false_implies, List.all_cons, List.all_nil, List.nodup_cons, List.nodup_nil, List.mem_cons, List.not_mem_nil, or_false, false_or, not_false_eq_true, decide_true, Bool.and_true, Bool.and_self]) | (with_reducible refine And.intro ?_ ?_) | ((with_reducible refine ite_cases ?_ ?_) <;> intro _))
  all_goals try (refine congrArg Value.bool ?_; first | (simp [Es.sValid, *]; done) | (simp [Es.sValid, *]; omega) | (simp_all [Es.sValid]; done) | (simp_all [Es.sValid]; omega))
  have hv : ((Es.valid2 c).1 == 0) = true := by simp_all
  have hm : Es.len s.marks = Es.len c.clauses := by simp_all
  have hu : Es.len s.used = Es.len c.acts := by simp_all
  have hm' : s.marks.length = c.clauses.length := by simp only [Es.len] at hm; omega
  have hu' : s.used.length = c.acts.length := by simp only [Es.len] at hu; omega
  have hV : Es.sValid c s = if !Es.allN s.used.length (fun i => !(Es.at_ s.used (i : Int) && (Es.at_ c.acts (i : Int)).kind == 1)) then false
      else if !Es.allN s.marks.length (fun i => Es.wellFormed c (Es.at_ c.clauses (i : Int)) (Es.at_ s.marks (i : Int))) then false
      else Es.allN s.marks.length (fun i => !Es.ready c s (i : Int)) := by
    unfold Es.sValid; rw [if_neg (by simp_all), if_neg (by simp_all)]
  refine awp_count0 s.used.length (fun e0 s0 k e st => (e 2 = e0 2 ∧ e 3 = e0 3 ∧ e 57 = e0 57 ∧ e 58 = e0 58) ∧ e 59 = .v (.int .i64 k) ∧ st = s0 ∧ ∀ j : Nat, j < k → (fun i : Nat => !(Es.at_ s.used (i : Int) && (Es.at_ c.acts (i : Int)).kind == 1)) j = true) ⟨⟨rfl, rfl, rfl, rfl⟩, ?_, rfl, (by omega)⟩ ?_
  · simp only [go_sem, ↓reduceIte, decide_eq_true_eq, reduceCtorEq, Nat.reduceEqDiff, Nat.reduceLT, Nat.reduceLeDiff, Nat.reduceAdd, Nat.reduceSub, Nat.reduceMul, Nat.reduceGT, Int.reduceNeg, Int.reduceToNat, and_true, true_and, and_false, false_and, List.getElem?_toArray, List.getElem?_cons_zero, List.getElem?_cons_succ, List.cons_append, List.nil_append, if_true, if_false, Option.getD_some, Option.isSome_some, Bool.false_eq_true, List.append_nil, List.drop_zero, List.drop_succ_cons, Bool.cond_false_right, Bool.cond_false_left, Bool.cond_true_left, Bool.cond_true_right, ite_self, Bool.not_true, Bool.not_false, cond_true, cond_false, List.size_toArray, implies_true, true_implies, false_implies, List.all_cons, List.all_nil, List.nodup_cons, List.nodup_nil, List.mem_cons, List.not_mem_nil, or_false, false_or, not_false_eq_true, decide_true, Bool.and_true, Bool.and_self]; rfl
  rintro k e st hk ⟨⟨a2, a3, a57, a58⟩, a59, rfl, hall⟩
  simp only [go_sem, ↓reduceIte, decide_eq_true_eq, reduceCtorEq, Nat.reduceEqDiff, Nat.reduceLT, Nat.reduceLeDiff, Nat.reduceAdd, Nat.reduceSub, Nat.reduceMul, Nat.reduceGT, Int.reduceNeg, Int.reduceToNat, and_true, true_and, and_false, false_and, List.getElem?_toArray, List.getElem?_cons_zero, List.getElem?_cons_succ, List.cons_append, List.nil_append, if_true, if_false, Option.getD_some, Option.isSome_some, Bool.false_eq_true, List.append_nil, List.drop_zero, List.drop_succ_cons, Bool.cond_false_right, Bool.cond_false_left, Bool.cond_true_left, Bool.cond_true_right, ite_self, Bool.not_true, Bool.not_false, cond_true, cond_false, List.size_toArray, implies_true, true_implies, false_implies, List.all_cons, List.all_nil, List.nodup_cons, List.nodup_nil, List.mem_cons, List.not_mem_nil, or_false, false_or, not_false_eq_true, decide_true, Bool.and_true, Bool.and_self] at a2 a3 a57 a58
  simp only [go_sem, ↓reduceIte, decide_eq_true_eq, reduceCtorEq, Nat.reduceEqDiff, Nat.reduceLT, Nat.reduceLeDiff, Nat.reduceAdd, Nat.reduceSub, Nat.reduceMul, Nat.reduceGT, Int.reduceNeg, Int.reduceToNat, and_true, true_and, and_false, false_and, List.getElem?_toArray, List.getElem?_cons_zero, List.getElem?_cons_succ, List.cons_append, List.nil_append, if_true, if_false, Option.getD_some, Option.isSome_some, Bool.false_eq_true, List.append_nil, List.drop_zero, List.drop_succ_cons, Bool.cond_false_right, Bool.cond_false_left, Bool.cond_true_left, Bool.cond_true_right, ite_self, Bool.not_true, Bool.not_false, cond_true, cond_false, List.size_toArray, implies_true, true_implies, false_implies, List.all_cons, List.all_nil, List.nodup_cons, List.nodup_nil, List.mem_cons, List.not_mem_nil, or_false, false_or, not_false_eq_true, decide_true, Bool.and_true, Bool.and_self, a2, a3, a57, a58, a59]
  refine ite_cases (fun hlt => ?_) (fun hlt => ?_)
  · have hlt' : k < s.used.length := Es.len_lt.1 hlt
    refine ⟨⟨by omega, hlt⟩, ?_⟩
    repeat' (first | (with_reducible refine And.intro ?_ ?_) | ((with_reducible refine ite_cases ?_ ?_) <;> intro _))
    all_goals first
      | omega
      | (refine ⟨hlt', ?_⟩
         simp only [go_sem, ↓reduceIte, decide_eq_true_eq, reduceCtorEq, Nat.reduceEqDiff, Nat.reduceLT, Nat.reduceLeDiff, Nat.reduceAdd, Nat.reduceSub, Nat.reduceMul, Nat.reduceGT, Int.reduceNeg, Int.reduceToNat, and_true, true_and, and_false, false_and, List.getElem?_toArray, List.getElem?_cons_zero, List.getElem?_cons_succ, List.cons_append, List.nil_append, if_true, if_false, Option.getD_some, Option.isSome_some, Bool.false_eq_true, List.append_nil, List.drop_zero, List.drop_succ_cons, Bool.cond_false_right, Bool.cond_false_left, Bool.cond_true_left, Bool.cond_true_right, ite_self, Bool.not_true, Bool.not_false, cond_true, cond_false, List.size_toArray, implies_true, true_implies, false_implies, List.all_cons, List.all_nil, List.nodup_cons, List.nodup_nil, List.mem_cons, List.not_mem_nil, or_false, false_or, not_false_eq_true, decide_true, Bool.and_true, Bool.and_self, a2, a3, a57, a58, a59]
         exact ⟨by rw [wrap_i64 _ (by omega) (by omega)]; simp, Es.upto_step hall (by simp_all)⟩)
      | (have hbad := Es.allN_bad (p := fun i : Nat => !(Es.at_ s.used (i : Int) && (Es.at_ c.acts (i : Int)).kind == 1)) hlt' (by simp_all)
         rw [hV, hbad]; rfl)
  · have hA := Es.allN_end (p := fun i : Nat => !(Es.at_ s.used (i : Int) && (Es.at_ c.acts (i : Int)).kind == 1)) (n := s.used.length) (by simp only [Es.len] at hlt; omega) hall
    rw [hA] at hV
    simp only [Bool.not_true, Bool.false_eq_true, if_false] at hV
    refine awp_count0 s.marks.length (fun e0 s0 k e st => (e 2 = e0 2 ∧ e 3 = e0 3 ∧ e 76 = e0 76 ∧ e 77 = e0 77) ∧ e 78 = .v (.int .i64 k) ∧ Grow s0 st ∧ ∀ j : Nat, j < k → (fun i : Nat => Es.wellFormed c (Es.at_ c.clauses (i : Int)) (Es.at_ s.marks (i : Int))) j = true) ⟨⟨rfl, rfl, rfl, rfl⟩, ?_, Grow.refl _, (by omega)⟩ ?_
    · simp only [go_sem, ↓reduceIte, decide_eq_true_eq, reduceCtorEq, Nat.reduceEqDiff, Nat.reduceLT, Nat.reduceLeDiff, Nat.reduceAdd, Nat.reduceSub, Nat.reduceMul, Nat.reduceGT, Int.reduceNeg, Int.reduceToNat, and_true, true_and, and_false, false_and, List.getElem?_toArray, List.getElem?_cons_zero, List.getElem?_cons_succ, List.cons_append, List.nil_append, if_true, if_false, Option.getD_some, Option.isSome_some, Bool.false_eq_true, List.append_nil, List.drop_zero, List.drop_succ_cons, Bool.cond_false_right, Bool.cond_false_left, Bool.cond_true_left, Bool.cond_true_right, ite_self, Bool.not_true, Bool.not_false, cond_true, cond_false, List.size_toArray, implies_true, true_implies, false_implies, List.all_cons, List.all_nil, List.nodup_cons, List.nodup_nil, List.mem_cons, List.not_mem_nil, or_false, false_or, not_false_eq_true, decide_true, Bool.and_true, Bool.and_self]; rfl
    clear hall
    rintro k e ⟨o, nx⟩ hk ⟨⟨b2, b3, b76, b77⟩, b78, hg, hall⟩
    simp only [go_sem, ↓reduceIte, decide_eq_true_eq, reduceCtorEq, Nat.reduceEqDiff, Nat.reduceLT, Nat.reduceLeDiff, Nat.reduceAdd, Nat.reduceSub, Nat.reduceMul, Nat.reduceGT, Int.reduceNeg, Int.reduceToNat, and_true, true_and, and_false, false_and, List.getElem?_toArray, List.getElem?_cons_zero, List.getElem?_cons_succ, List.cons_append, List.nil_append, if_true, if_false, Option.getD_some, Option.isSome_some, Bool.false_eq_true, List.append_nil, List.drop_zero, List.drop_succ_cons, Bool.cond_false_right, Bool.cond_false_left, Bool.cond_true_left, Bool.cond_true_right, ite_self, Bool.not_true, Bool.not_false, cond_true, cond_false, List.size_toArray, implies_true, true_implies, false_implies, List.all_cons, List.all_nil, List.nodup_cons, List.nodup_nil, List.mem_cons, List.not_mem_nil, or_false, false_or, not_false_eq_true, decide_true, Bool.and_true, Bool.and_self, a2, a3] at b2 b3 b76 b77
    have g0 := hg.2 0 0 (by show (0:Nat) < 2; decide); have g1 := hg.2 1 0 (by show (1:Nat) < 2; decide); have hn : 2 ≤ nx := hg.1; have n0 : (0 = nx) = False := (by simp only [eq_iff_iff, iff_false]; omega); have n1 : (1 = nx) = False := (by simp only [eq_iff_iff, iff_false]; omega); simp only [go_sem, ↓reduceIte, decide_eq_true_eq, reduceCtorEq, Nat.reduceEqDiff, Nat.reduceLT, Nat.reduceLeDiff, Nat.reduceAdd, Nat.reduceSub, Nat.reduceMul, Nat.reduceGT, Int.reduceNeg, Int.reduceToNat, and_true, true_and, and_false, false_and, List.getElem?_toArray, List.getElem?_cons_zero, List.getElem?_cons_succ, List.cons_append, List.nil_append, if_true, if_false, Option.getD_some, Option.isSome_some, Bool.false_eq_true, List.append_nil, List.drop_zero, List.drop_succ_cons, Bool.cond_false_right, Bool.cond_false_left, Bool.cond_true_left, Bool.cond_true_right, ite_self, Bool.not_true, Bool.not_false, cond_true, cond_false, List.size_toArray, implies_true, true_implies, false_implies, List.all_cons, List.all_nil, List.nodup_cons, List.nodup_nil, List.mem_cons, List.not_mem_nil, or_false, false_or, not_false_eq_true, decide_true, Bool.and_true, Bool.and_self] at g0 g1
    simp only [go_sem, ↓reduceIte, decide_eq_true_eq, reduceCtorEq, Nat.reduceEqDiff, Nat.reduceLT, Nat.reduceLeDiff, Nat.reduceAdd, Nat.reduceSub, Nat.reduceMul, Nat.reduceGT, Int.reduceNeg, Int.reduceToNat, and_true, true_and, and_false, false_and, List.getElem?_toArray, List.getElem?_cons_zero, List.getElem?_cons_succ, List.cons_append, List.nil_append, if_true, if_false, Option.getD_some, Option.isSome_some, Bool.false_eq_true, List.append_nil, List.drop_zero, List.drop_succ_cons, Bool.cond_false_right, Bool.cond_false_left, Bool.cond_true_left, Bool.cond_true_right, ite_self, Bool.not_true, Bool.not_false, cond_true, cond_false, List.size_toArray, implies_true, true_implies, false_implies, List.all_cons, List.all_nil, List.nodup_cons, List.nodup_nil, List.mem_cons, List.not_mem_nil, or_false, false_or, not_false_eq_true, decide_true, Bool.and_true, Bool.and_self, b2, b3, b76, b77, b78, g0, g1, n0, n1, a2, a3]
    refine ite_cases (fun hlt => ?_) (fun hlt => ?_)
    · have hlt' : k < s.marks.length := Es.len_lt.1 hlt
      refine ⟨⟨by omega, hlt⟩, ?_⟩
      refine awp_plan ((.op 0 (.op 1 (.op 2 (.op 3 (.op 4 (.op 5 (.op 6 (.op 7 (.op 8 .done)))))))))) [] mix (by kernel_rfl) ?_
      simp only [go_sem, ↓reduceIte, decide_eq_true_eq, reduceCtorEq, Nat.reduceEqDiff, Nat.reduceLT, Nat.reduceLeDiff, Nat.reduceAdd, Nat.reduceSub, Nat.reduceMul, Nat.reduceGT, Int.reduceNeg, Int.reduceToNat, and_true, true_and, and_false, false_and, List.getElem?_toArray, List.getElem?_cons_zero, List.getElem?_cons_succ, List.cons_append, List.nil_append, if_true, if_false, Option.getD_some, Option.isSome_some, Bool.false_eq_true, List.append_nil, List.drop_zero, List.drop_succ_cons, Bool.cond_false_right, Bool.cond_false_left, Bool.cond_true_left, Bool.cond_true_right, ite_self, Bool.not_true, Bool.not_false, cond_true, cond_false, List.size_toArray, implies_true, true_implies, false_implies, List.all_cons, List.all_nil, List.nodup_cons, List.nodup_nil, List.mem_cons, List.not_mem_nil, or_false, false_or, not_false_eq_true, decide_true, Bool.and_true, Bool.and_self, b2, b3, b76, b77, b78, g0, g1, n0, n1, a2, a3]
      refine ⟨⟨by omega, by rw [← hm]; exact hlt⟩, ?_⟩
      refine call_at M_P M_G (wellFormed_spec c _ _) ?_
      simp only [go_sem, ↓reduceIte, decide_eq_true_eq, reduceCtorEq, Nat.reduceEqDiff, Nat.reduceLT, Nat.reduceLeDiff, Nat.reduceAdd, Nat.reduceSub, Nat.reduceMul, Nat.reduceGT, Int.reduceNeg, Int.reduceToNat, and_true, true_and, and_false, false_and, List.getElem?_toArray, List.getElem?_cons_zero, List.getElem?_cons_succ, List.cons_append, List.nil_append, if_true, if_false, Option.getD_some, Option.isSome_some, Bool.false_eq_true, List.append_nil, List.drop_zero, List.drop_succ_cons, Bool.cond_false_right, Bool.cond_false_left, Bool.cond_true_left, Bool.cond_true_right, ite_self, Bool.not_true, Bool.not_false, cond_true, cond_false, List.size_toArray, implies_true, true_implies, false_implies, List.all_cons, List.all_nil, List.nodup_cons, List.nodup_nil, List.mem_cons, List.not_mem_nil, or_false, false_or, not_false_eq_true, decide_true, Bool.and_true, Bool.and_self, b2, b3, b76, b77, b78, g0, g1, n0, n1, a2, a3]
      refine ite_cases (fun hw => ?_) (fun hw => ?_)
      · have hbad := Es.allN_bad (p := fun i : Nat => Es.wellFormed c (Es.at_ c.clauses (i : Int)) (Es.at_ s.marks (i : Int))) hlt' (by simpa using hw)
        rw [hV, hbad]; rfl
      · refine ⟨hlt', ?_⟩
        simp only [go_sem, ↓reduceIte, decide_eq_true_eq, reduceCtorEq, Nat.reduceEqDiff, Nat.reduceLT, Nat.reduceLeDiff, Nat.reduceAdd, Nat.reduceSub, Nat.reduceMul, Nat.reduceGT, Int.reduceNeg, Int.reduceToNat, and_true, true_and, and_false, false_and, List.getElem?_toArray, List.getElem?_cons_zero, List.getElem?_cons_succ, List.cons_append, List.nil_append, if_true, if_false, Option.getD_some, Option.isSome_some, Bool.false_eq_true, List.append_nil, List.drop_zero, List.drop_succ_cons, Bool.cond_false_right, Bool.cond_false_left, Bool.cond_true_left, Bool.cond_true_right, ite_self, Bool.not_true, Bool.not_false, cond_true, cond_false, List.size_toArray, implies_true, true_implies, false_implies, List.all_cons, List.all_nil, List.nodup_cons, List.nodup_nil, List.mem_cons, List.not_mem_nil, or_false, false_or, not_false_eq_true, decide_true, Bool.and_true, Bool.and_self, b2, b3, b76, b77, b78, g0, g1, n0, n1, a2, a3]
        exact ⟨by rw [wrap_i64 _ (by omega) (by omega)]; simp, hg.set hn (by omega), Es.upto_step hall (by simpa using hw)⟩
    · have hB := Es.allN_end (p := fun i : Nat => Es.wellFormed c (Es.at_ c.clauses (i : Int)) (Es.at_ s.marks (i : Int))) (n := s.marks.length) (by simp only [Es.len] at hlt; omega) hall
      rw [hB] at hV
      simp only [Bool.not_true, Bool.false_eq_true, if_false] at hV
      refine awp_count0 s.marks.length (fun e0 s0 k e st => (e 2 = e0 2 ∧ e 3 = e0 3 ∧ e 94 = e0 94 ∧ e 95 = e0 95) ∧ e 96 = .v (.int .i64 k) ∧ st = s0 ∧ ∀ j : Nat, j < k → (fun i : Nat => !Es.ready c s (i : Int)) j = true) ⟨⟨rfl, rfl, rfl, rfl⟩, ?_, rfl, (by omega)⟩ ?_
      · simp only [go_sem, ↓reduceIte, decide_eq_true_eq, reduceCtorEq, Nat.reduceEqDiff, Nat.reduceLT, Nat.reduceLeDiff, Nat.reduceAdd, Nat.reduceSub, Nat.reduceMul, Nat.reduceGT, Int.reduceNeg, Int.reduceToNat, and_true, true_and, and_false, false_and, List.getElem?_toArray, List.getElem?_cons_zero, List.getElem?_cons_succ, List.cons_append, List.nil_append, if_true, if_false, Option.getD_some, Option.isSome_some, Bool.false_eq_true, List.append_nil, List.drop_zero, List.drop_succ_cons, Bool.cond_false_right, Bool.cond_false_left, Bool.cond_true_left, Bool.cond_true_right, ite_self, Bool.not_true, Bool.not_false, cond_true, cond_false, List.size_toArray, implies_true, true_implies, false_implies, List.all_cons, List.all_nil, List.nodup_cons, List.nodup_nil, List.mem_cons, List.not_mem_nil, or_false, false_or, not_false_eq_true, decide_true, Bool.and_true, Bool.and_self]; rfl
      clear hall
      rintro m e st hm2 ⟨⟨c2, c3, c94, c95⟩, c96, rfl, hall⟩
      simp only [go_sem, ↓reduceIte, decide_eq_true_eq, reduceCtorEq, Nat.reduceEqDiff, Nat.reduceLT, Nat.reduceLeDiff, Nat.reduceAdd, Nat.reduceSub, Nat.reduceMul, Nat.reduceGT, Int.reduceNeg, Int.reduceToNat, and_true, true_and, and_false, false_and, List.getElem?_toArray, List.getElem?_cons_zero, List.getElem?_cons_succ, List.cons_append, List.nil_append, if_true, if_false, Option.getD_some, Option.isSome_some, Bool.false_eq_true, List.append_nil, List.drop_zero, List.drop_succ_cons, Bool.cond_false_right, Bool.cond_false_left, Bool.cond_true_left, Bool.cond_true_right, ite_self, Bool.not_true, Bool.not_false, cond_true, cond_false, List.size_toArray, implies_true, true_implies, false_implies, List.all_cons, List.all_nil, List.nodup_cons, List.nodup_nil, List.mem_cons, List.not_mem_nil, or_false, false_or, not_false_eq_true, decide_true, Bool.and_true, Bool.and_self, b2, b3, g0, g1, n0, n1, a2, a3] at c2 c3 c94 c95
      simp only [go_sem, ↓reduceIte, decide_eq_true_eq, reduceCtorEq, Nat.reduceEqDiff, Nat.reduceLT, Nat.reduceLeDiff, Nat.reduceAdd, Nat.reduceSub, Nat.reduceMul, Nat.reduceGT, Int.reduceNeg, Int.reduceToNat, and_true, true_and, and_false, false_and, List.getElem?_toArray, List.getElem?_cons_zero, List.getElem?_cons_succ, List.cons_append, List.nil_append, if_true, if_false, Option.getD_some, Option.isSome_some, Bool.false_eq_true, List.append_nil, List.drop_zero, List.drop_succ_cons, Bool.cond_false_right, Bool.cond_false_left, Bool.cond_true_left, Bool.cond_true_right, ite_self, Bool.not_true, Bool.not_false, cond_true, cond_false, List.size_toArray, implies_true, true_implies, false_implies, List.all_cons, List.all_nil, List.nodup_cons, List.nodup_nil, List.mem_cons, List.not_mem_nil, or_false, false_or, not_false_eq_true, decide_true, Bool.and_true, Bool.and_self, c2, c3, c94, c95, c96, g0, g1, n0, n1]
      refine ite_cases (fun hlt2 => ?_) (fun hlt2 => ?_)
      · have hlt2' : m < s.marks.length := Es.len_lt.1 hlt2
        have hst := Es.clauseOk_start (Es.valid2_clause hv (hm' ▸ hlt2'))
        refine call_at M_P M_G (ready_spec c s m ⟨by omega, hlt2⟩ (by rw [← hm]; exact hlt2) (fun x hx => ?_) (by have := hst.1; simp only [Es.len] at this; omega)) ?_
        · have := hst.2 x hx
          simp only [Es.condOk, Es.under, Bool.and_eq_true, decide_eq_true_eq] at this
          rw [hm]; exact this.1.1
        simp only [go_sem, ↓reduceIte, decide_eq_true_eq, reduceCtorEq, Nat.reduceEqDiff, Nat.reduceLT, Nat.reduceLeDiff, Nat.reduceAdd, Nat.reduceSub, Nat.reduceMul, Nat.reduceGT, Int.reduceNeg, Int.reduceToNat, and_true, true_and, and_false, false_and, List.getElem?_toArray, List.getElem?_cons_zero, List.getElem?_cons_succ, List.cons_append, List.nil_append, if_true, if_false, Option.getD_some, Option.isSome_some, Bool.false_eq_true, List.append_nil, List.drop_zero, List.drop_succ_cons, Bool.cond_false_right, Bool.cond_false_left, Bool.cond_true_left, Bool.cond_true_right, ite_self, Bool.not_true, Bool.not_false, cond_true, cond_false, List.size_toArray, implies_true, true_implies, false_implies, List.all_cons, List.all_nil, List.nodup_cons, List.nodup_nil, List.mem_cons, List.not_mem_nil, or_false, false_or, not_false_eq_true, decide_true, Bool.and_true, Bool.and_self, c2, c3, c94, c95, c96, g0, g1, n0, n1]
        refine ite_cases (fun hw => ?_) (fun hw => ?_)
        · have hbad := Es.allN_bad (p := fun i : Nat => !Es.ready c s (i : Int)) hlt2' (by simpa using hw)
          rw [hV, hbad]
        · refine ⟨hlt2', ?_⟩
          simp only [go_sem, ↓reduceIte, decide_eq_true_eq, reduceCtorEq, Nat.reduceEqDiff, Nat.reduceLT, Nat.reduceLeDiff, Nat.reduceAdd, Nat.reduceSub, Nat.reduceMul, Nat.reduceGT, Int.reduceNeg, Int.reduceToNat, and_true, true_and, and_false, false_and, List.getElem?_toArray, List.getElem?_cons_zero, List.getElem?_cons_succ, List.cons_append, List.nil_append, if_true, if_false, Option.getD_some, Option.isSome_some, Bool.false_eq_true, List.append_nil, List.drop_zero, List.drop_succ_cons, Bool.cond_false_right, Bool.cond_false_left, Bool.cond_true_left, Bool.cond_true_right, ite_self, Bool.not_true, Bool.not_false, cond_true, cond_false, List.size_toArray, implies_true, true_implies, false_implies, List.all_cons, List.all_nil, List.nodup_cons, List.nodup_nil, List.mem_cons, List.not_mem_nil, or_false, false_or, not_false_eq_true, decide_true, Bool.and_true, Bool.and_self, c2, c3, c94, c95, c96, g0, g1, n0, n1, b2, b3]
          exact ⟨by rw [wrap_i64 _ (by omega) (by omega)]; simp, Es.upto_step hall (by simpa using hw)⟩
      · have hC := Es.allN_end (p := fun i : Nat => !Es.ready c s (i : Int)) (n := s.marks.length) (by simp only [Es.len] at hlt2; omega) hall
        rw [hV, hC]
end Tryd
end Go.Proofs
end
section
/-
  How the program's data read as abstract values, part 2: marks that can be changed.
-/
namespace Go.Abs
open Go
def clcD (x : Es.Clause) (p : D) : D := .agg [.v (.int .i64 x.kind), .v (.int .i64 x.role), .v (.int .i64 x.act), .v (.int .i64 x.need), slD 2 condC x.start, .v (.int .i64 x.after), .v (.int .i64 x.grace), .v (.bool x.business), .v (.bool x.final), .v (.int .i64 x.pause), .v (.int .i64 x.resume), .v (.int .i64 x.value.num), .v (.int .i64 x.value.den), .v (.int .i64 x.unit), .v (.int .i64 x.to), .v (.bool x.waived), p]
@[go_sem] theorem clcD_fold (x : Es.Clause) (p : D) : D.agg [.v (.int .i64 x.kind), .v (.int .i64 x.role), .v (.int .i64 x.act), .v (.int .i64 x.need), slD 2 condC x.start, .v (.int .i64 x.after), .v (.int .i64 x.grace), .v (.bool x.business), .v (.bool x.final), .v (.int .i64 x.pause), .v (.int .i64 x.resume), .v (.int .i64 x.value.num), .v (.int .i64 x.value.den), .v (.int .i64 x.unit), .v (.int .i64 x.to), .v (.bool x.waived), p] = clcD x p := nr rfl
@[go_sem] theorem clcD_cells (x : Es.Clause) (p : D) : (clcD x p).cells? = some [.v (.int .i64 x.kind), .v (.int .i64 x.role), .v (.int .i64 x.act), .v (.int .i64 x.need), slD 2 condC x.start, .v (.int .i64 x.after), .v (.int .i64 x.grace), .v (.bool x.business), .v (.bool x.final), .v (.int .i64 x.pause), .v (.int .i64 x.resume), .v (.int .i64 x.value.num), .v (.int .i64 x.value.den), .v (.int .i64 x.unit), .v (.int .i64 x.to), .v (.bool x.waived), p] := nr rfl
@[go_sem] theorem rowsOf_row {α : Type} [Inhabited α] (f : α → Nat → D) (l : List α) (r : Nat) : rowsOf f l r = f (Es.at_ l (r : Int)) := nr rfl
theorem setC_mrk {ms : List Es.Mark} {r j : Nat} (hr : r < ms.length) {d : D} {m : Es.Mark} (h : ∀ c, mrkC m c = if c = j then d else mrkC (Es.at_ ms (r : Int)) c) : setC (rowsOf mrkC ms) r j [d] = rowsOf mrkC (ms.set r m) := by
  funext r' c'
  simp only [setC, rowsOf, List.length_cons, List.length_nil]
  by_cases hrr : r' = r
  · subst hrr
    simp only [List.getD_eq_getElem?_getD, List.getElem?_set, hr, if_true, Option.getD_some, true_and]
    rw [h]
    by_cases hc : c' = j
    · subst hc; rw [if_pos (by omega), if_pos rfl]; simp
    · rw [if_neg (by omega), if_neg hc]; simp [Es.at_, List.getD]
  · rw [if_neg (by omega)]
    simp only [List.getD_eq_getElem?_getD, List.getElem?_set, if_neg (Ne.symm hrr)]
theorem setC_mrk0 {ms : List Es.Mark} {r : Nat} (hr : r < ms.length) (v : Int) : setC (rowsOf mrkC ms) r 0 [.v (.int .i64 v)] = rowsOf mrkC (ms.set r { Es.at_ ms (r : Int) with status := v }) :=
  setC_mrk hr (fun c => by rcases c with _ | _ | _ | _ | _ | c <;> rfl)
theorem setC_mrk1 {ms : List Es.Mark} {r : Nat} (hr : r < ms.length) (v : Int) : setC (rowsOf mrkC ms) r 1 [.v (.int .i64 v)] = rowsOf mrkC (ms.set r { Es.at_ ms (r : Int) with left := v }) :=
  setC_mrk hr (fun c => by rcases c with _ | _ | _ | _ | _ | c <;> rfl)
theorem setC_mrk2 {ms : List Es.Mark} {r : Nat} (hr : r < ms.length) (v : Int) : setC (rowsOf mrkC ms) r 2 [.v (.int .i64 v)] = rowsOf mrkC (ms.set r { Es.at_ ms (r : Int) with got := v }) :=
  setC_mrk hr (fun c => by rcases c with _ | _ | _ | _ | _ | c <;> rfl)
theorem setC_mrk3 {ms : List Es.Mark} {r : Nat} (hr : r < ms.length) (v : Int) : setC (rowsOf mrkC ms) r 3 [.v (.int .i64 v)] = rowsOf mrkC (ms.set r { Es.at_ ms (r : Int) with bearer := v }) :=
  setC_mrk hr (fun c => by rcases c with _ | _ | _ | _ | _ | c <;> rfl)
theorem setC_mrk4 {ms : List Es.Mark} {r : Nat} (hr : r < ms.length) (v : Bool) : setC (rowsOf mrkC ms) r 4 [.v (.bool v)] = rowsOf mrkC (ms.set r { Es.at_ ms (r : Int) with paused := v }) :=
  setC_mrk hr (fun c => by rcases c with _ | _ | _ | _ | _ | c <;> rfl)
theorem at_set {α : Type} [Inhabited α] {l : List α} {r : Nat} (hr : r < l.length) (m : α) : Es.at_ (l.set r m) (r : Int) = m := by simp [Es.at_, List.getD, hr]
end Go.Abs
end
section
namespace Go.Proofs
open Go Go.Abs
set_option linter.unusedSimpArgs false
set_option maxRecDepth 10000
namespace Tryd
/-- What is said of a store in which one mark is written. -/
def Wrote (o : St) (nx fm : Nat) (ty : TypeId) (ms : List Es.Mark) (o' : St) (nx' : Nat) : Prop :=
  nx ≤ nx' ∧ o' fm 0 = some (.blk 5 ms.length ty (rowsOf mrkC ms)) ∧ ∀ f i, f < nx → ¬ (f = fm ∧ i = 0) → o' f i = o f i

theorem end_spec (X : D → Value → Prop) (N : Nat) (r : Option Nat) (b : Nat) (x : Es.Clause) (fm i : Nat) (ty : TypeId) (ms : List Es.Mark) (st : Int) (o : St) (nx : Nat) (K : D → S → Prop) (hf : fm < nx) (ho : o fm 0 = some (.blk 5 ms.length ty (rowsOf mrkC ms))) (hi : i < ms.length)
    (hk : ∀ o' nx', Wrote o nx fm ty (ms.set i { Es.at_ ms (i : Int) with status := st, left := 0, paused := false }) o' nx' → K (.tup []) ⟨o', nx'⟩) :
    ACall { P := prog, G := gl, X := X, N := N, r := r, b := b } 123 [clcD x (.mp fm 0 5 i 0), .v (.int .i64 st)] ⟨o, nx⟩ K := by
  refine acall_ofA (M := { P := prog, G := gl, X := X, N := N, r := r, b := b }) func123 rfl results123 ntmps123 (by simp) fun b => ?_
  simp only [go_sem, ↓reduceIte, decide_eq_true_eq, reduceCtorEq, Nat.reduceEqDiff, Nat.reduceLT, Nat.reduceLeDiff, Nat.reduceAdd, Nat.reduceSub, Nat.reduceMul, Nat.reduceGT, Int.reduceNeg, Int.reduceToNat, and_true, true_and, and_false, false_and, List.getElem?_toArray, List.getElem?_cons_zero, List.getElem?_cons_succ, List.cons_append, List.nil_append, if_true, if_false, Option.getD_some, Option.isSome_some, Bool.false_eq_true, List.append_nil, List.drop_zero, List.drop_succ_cons, Bool.cond_false_right, Bool.cond_false_left, Bool.cond_true_left, Bool.cond_true_right, ite_self, Bool.not_true, Bool.not_false, cond_true, cond_false, List.size_toArray, implies_true, true_implies, false_implies, List.all_cons, List.all_nil, List.nodup_cons, List.nodup_nil, List.mem_cons, List.not_mem_nil, or_false, false_or, not_false_eq_true, decide_true, Bool.and_true, Bool.and_self]
  have n0 : (fm = nx) = False := by simp only [eq_iff_iff, iff_false]; omega
  have n1 : (nx = fm) = False := by simp only [eq_iff_iff, iff_false]; omega
  refine awp_plan ((.op 0 (.op 1 (.op 2 (.op 4 (.op 6 (.op 7 (.op 8 (.alt 3 (.alt 5 (.op 9 (.op 10 (.op 11 (.op 12 (.op 13 (.op 14 (.op 15 .done))))))) (.alt 9 (.op 10 (.op 11 (.alt 5 (.op 12 (.op 13 (.op 14 (.op 15 .done)))) (.alt 12 (.op 5 (.op 13 (.op 14 (.op 15 .done)))) .dead)))) .dead)) (.alt 5 (.alt 3 (.op 9 (.op 10 (.op 11 (.op 12 (.op 13 (.op 14 (.op 15 .done))))))) (.alt 9 (.op 3 (.op 10 (.op 11 (.op 12 (.op 13 (.op 14 (.op 15 .done))))))) .dead)) (.alt 9 (.op 3 (.op 10 (.op 11 (.alt 5 (.op 12 (.op 13 (.op 14 (.op 15 .done)))) (.alt 12 (.op 5 (.op 13 (.op 14 (.op 15 .done)))) .dead))))) .dead))))))))))) [9, 12, 15] mix (by kernel_rfl) ?_
  simp only [go_sem, ↓reduceIte, decide_eq_true_eq, reduceCtorEq, Nat.reduceEqDiff, Nat.reduceLT, Nat.reduceLeDiff, Nat.reduceAdd, Nat.reduceSub, Nat.reduceMul, Nat.reduceGT, Int.reduceNeg, Int.reduceToNat, and_true, true_and, and_false, false_and, List.getElem?_toArray, List.getElem?_cons_zero, List.getElem?_cons_succ, List.cons_append, List.nil_append, if_true, if_false, Option.getD_some, Option.isSome_some, Bool.false_eq_true, List.append_nil, List.drop_zero, List.drop_succ_cons, Bool.cond_false_right, Bool.cond_false_left, Bool.cond_true_left, Bool.cond_true_right, ite_self, Bool.not_true, Bool.not_false, cond_true, cond_false, List.size_toArray, implies_true, true_implies, false_implies, List.all_cons, List.all_nil, List.nodup_cons, List.nodup_nil, List.mem_cons, List.not_mem_nil, or_false, false_or, not_false_eq_true, decide_true, Bool.and_true, Bool.and_self, ho, n0, n1, setC_mrk0, setC_mrk1, setC_mrk4, at_set, hi, List.length_set, List.set_set]
  have fin : ∀ B, K (.tup []) ⟨St.set (St.set o nx 0 B) fm 0 (some (.blk 5 ms.length ty (rowsOf mrkC (ms.set i { Es.at_ ms (i : Int) with status := st, left := 0, paused := false })))), nx + 1⟩ := fun B => hk _ _ ⟨by omega, by simp [St.set], fun f j hfj hne => by simp only [St.set]; rw [if_neg hne, if_neg (by omega)]⟩
  repeat' (first | (with_reducible refine And.intro ?_ ?_) | ((with_reducible refine ite_cases ?_ ?_) <;> intro _))
  all_goals first
    | exact fin _
theorem set_at {ms : List Es.Mark} {i : Nat} (hi : i < ms.length) : ms.set i (Es.at_ ms (i : Int)) = ms := by
  apply List.ext_getElem (by simp)
  intro n h1 h2
  rw [List.getElem_set]
  split
  · rename_i h; subst h; exact Es.at_nat hi
  · rfl
theorem wrote_same {o : St} {nx fm : Nat} {ty : TypeId} {ms : List Es.Mark} {B : Option SObj} (hf : fm < nx) (ho : o fm 0 = some (.blk 5 ms.length ty (rowsOf mrkC ms))) : Wrote o nx fm ty ms (St.set o nx 0 B) (nx + 1) :=
  ⟨by omega, by simp only [St.set]; rw [if_neg (by omega)]; exact ho, fun f j hfj hne => by simp only [St.set]; rw [if_neg (by omega)]⟩
theorem Wrote.box {o o' : St} {nx nx' fm : Nat} {ty : TypeId} {ms : List Es.Mark} {B : Option SObj} (hf : fm < nx) (h : Wrote (St.set o nx 0 B) (nx + 1) fm ty ms o' nx') : Wrote o nx fm ty ms o' nx' :=
  ⟨Nat.le_trans (Nat.le_succ _) h.1, h.2.1, fun f j hfj hne => by rw [h.2.2 f j (by omega) hne]; simp only [St.set]; rw [if_neg (by omega)]⟩
def ended (m : Es.Mark) (st : Int) : Es.Mark := { m with status := st, left := 0, paused := false }
theorem observed_spec (X : D → Value → Prop) (N : Nat) (r : Option Nat) (b : Nat) (x : Es.Clause) (fm i : Nat) (ty : TypeId) (ms : List Es.Mark) (o : St) (nx : Nat) (K : D → S → Prop) (hf : fm < nx) (ho : o fm 0 = some (.blk 5 ms.length ty (rowsOf mrkC ms))) (hi : i < ms.length)
    (hk : ∀ o' nx', Wrote o nx fm ty (ms.set i (ended (Es.at_ ms (i : Int)) 3)) o' nx' → K (.tup []) ⟨o', nx'⟩) :
    ACall { P := prog, G := gl, X := X, N := N, r := r, b := b } 104 [clcD x (.mp fm 0 5 i 0)] ⟨o, nx⟩ K := by
  refine acall_ofA (M := { P := prog, G := gl, X := X, N := N, r := r, b := b }) func104 rfl results104 ntmps104 (by simp) fun b => ?_
  simp only [go_sem, ↓reduceIte, decide_eq_true_eq, reduceCtorEq, Nat.reduceEqDiff, Nat.reduceLT, Nat.reduceLeDiff, Nat.reduceAdd, Nat.reduceSub, Nat.reduceMul, Nat.reduceGT, Int.reduceNeg, Int.reduceToNat, and_true, true_and, and_false, false_and, List.getElem?_toArray, List.getElem?_cons_zero, List.getElem?_cons_succ, List.cons_append, List.nil_append, if_true, if_false, Option.getD_some, Option.isSome_some, Bool.false_eq_true, List.append_nil, List.drop_zero, List.drop_succ_cons, Bool.cond_false_right, Bool.cond_false_left, Bool.cond_true_left, Bool.cond_true_right, ite_self, Bool.not_true, Bool.not_false, cond_true, cond_false, List.size_toArray, implies_true, true_implies, false_implies, List.all_cons, List.all_nil, List.nodup_cons, List.nodup_nil, List.mem_cons, List.not_mem_nil, or_false, false_or, not_false_eq_true, decide_true, Bool.and_true, Bool.and_self]
  have n0 : (fm = nx) = False := by simp only [eq_iff_iff, iff_false]; omega
  have n1 : (nx = fm) = False := by simp only [eq_iff_iff, iff_false]; omega
  refine end_spec _ _ _ _ x fm i ty ms 3 _ _ _ (by omega) (by simp only [go_sem, ↓reduceIte, decide_eq_true_eq, reduceCtorEq, Nat.reduceEqDiff, Nat.reduceLT, Nat.reduceLeDiff, Nat.reduceAdd, Nat.reduceSub, Nat.reduceMul, Nat.reduceGT, Int.reduceNeg, Int.reduceToNat, and_true, true_and, and_false, false_and, List.getElem?_toArray, List.getElem?_cons_zero, List.getElem?_cons_succ, List.cons_append, List.nil_append, if_true, if_false, Option.getD_some, Option.isSome_some, Bool.false_eq_true, List.append_nil, List.drop_zero, List.drop_succ_cons, Bool.cond_false_right, Bool.cond_false_left, Bool.cond_true_left, Bool.cond_true_right, ite_self, Bool.not_true, Bool.not_false, cond_true, cond_false, List.size_toArray, implies_true, true_implies, false_implies, List.all_cons, List.all_nil, List.nodup_cons, List.nodup_nil, List.mem_cons, List.not_mem_nil, or_false, false_or, not_false_eq_true, decide_true, Bool.and_true, Bool.and_self, ho, n0, n1]) hi fun o' nx' hw => ?_
  simp only [go_sem, ↓reduceIte, decide_eq_true_eq, reduceCtorEq, Nat.reduceEqDiff, Nat.reduceLT, Nat.reduceLeDiff, Nat.reduceAdd, Nat.reduceSub, Nat.reduceMul, Nat.reduceGT, Int.reduceNeg, Int.reduceToNat, and_true, true_and, and_false, false_and, List.getElem?_toArray, List.getElem?_cons_zero, List.getElem?_cons_succ, List.cons_append, List.nil_append, if_true, if_false, Option.getD_some, Option.isSome_some, Bool.false_eq_true, List.append_nil, List.drop_zero, List.drop_succ_cons, Bool.cond_false_right, Bool.cond_false_left, Bool.cond_true_left, Bool.cond_true_right, ite_self, Bool.not_true, Bool.not_false, cond_true, cond_false, List.size_toArray, implies_true, true_implies, false_implies, List.all_cons, List.all_nil, List.nodup_cons, List.nodup_nil, List.mem_cons, List.not_mem_nil, or_false, false_or, not_false_eq_true, decide_true, Bool.and_true, Bool.and_self]
  exact hk _ _ (Wrote.box hf hw)
theorem lapsed_spec (X : D → Value → Prop) (N : Nat) (r : Option Nat) (b : Nat) (x : Es.Clause) (fm i : Nat) (ty : TypeId) (ms : List Es.Mark) (o : St) (nx : Nat) (K : D → S → Prop) (hf : fm < nx) (ho : o fm 0 = some (.blk 5 ms.length ty (rowsOf mrkC ms))) (hi : i < ms.length)
    (hk : ∀ o' nx', Wrote o nx fm ty (ms.set i (ended (Es.at_ ms (i : Int)) 5)) o' nx' → K (.tup []) ⟨o', nx'⟩) :
    ACall { P := prog, G := gl, X := X, N := N, r := r, b := b } 105 [clcD x (.mp fm 0 5 i 0)] ⟨o, nx⟩ K := by
  refine acall_ofA (M := { P := prog, G := gl, X := X, N := N, r := r, b := b }) func105 rfl results105 ntmps105 (by simp) fun b => ?_
  simp only [go_sem, ↓reduceIte, decide_eq_true_eq, reduceCtorEq, Nat.reduceEqDiff, Nat.reduceLT, Nat.reduceLeDiff, Nat.reduceAdd, Nat.reduceSub, Nat.reduceMul, Nat.reduceGT, Int.reduceNeg, Int.reduceToNat, and_true, true_and, and_false, false_and, List.getElem?_toArray, List.getElem?_cons_zero, List.getElem?_cons_succ, List.cons_append, List.nil_append, if_true, if_false, Option.getD_some, Option.isSome_some, Bool.false_eq_true, List.append_nil, List.drop_zero, List.drop_succ_cons, Bool.cond_false_right, Bool.cond_false_left, Bool.cond_true_left, Bool.cond_true_right, ite_self, Bool.not_true, Bool.not_false, cond_true, cond_false, List.size_toArray, implies_true, true_implies, false_implies, List.all_cons, List.all_nil, List.nodup_cons, List.nodup_nil, List.mem_cons, List.not_mem_nil, or_false, false_or, not_false_eq_true, decide_true, Bool.and_true, Bool.and_self]
  have n0 : (fm = nx) = False := by simp only [eq_iff_iff, iff_false]; omega
  have n1 : (nx = fm) = False := by simp only [eq_iff_iff, iff_false]; omega
  refine end_spec _ _ _ _ x fm i ty ms 5 _ _ _ (by omega) (by simp only [go_sem, ↓reduceIte, decide_eq_true_eq, reduceCtorEq, Nat.reduceEqDiff, Nat.reduceLT, Nat.reduceLeDiff, Nat.reduceAdd, Nat.reduceSub, Nat.reduceMul, Nat.reduceGT, Int.reduceNeg, Int.reduceToNat, and_true, true_and, and_false, false_and, List.getElem?_toArray, List.getElem?_cons_zero, List.getElem?_cons_succ, List.cons_append, List.nil_append, if_true, if_false, Option.getD_some, Option.isSome_some, Bool.false_eq_true, List.append_nil, List.drop_zero, List.drop_succ_cons, Bool.cond_false_right, Bool.cond_false_left, Bool.cond_true_left, Bool.cond_true_right, ite_self, Bool.not_true, Bool.not_false, cond_true, cond_false, List.size_toArray, implies_true, true_implies, false_implies, List.all_cons, List.all_nil, List.nodup_cons, List.nodup_nil, List.mem_cons, List.not_mem_nil, or_false, false_or, not_false_eq_true, decide_true, Bool.and_true, Bool.and_self, ho, n0, n1]) hi fun o' nx' hw => ?_
  simp only [go_sem, ↓reduceIte, decide_eq_true_eq, reduceCtorEq, Nat.reduceEqDiff, Nat.reduceLT, Nat.reduceLeDiff, Nat.reduceAdd, Nat.reduceSub, Nat.reduceMul, Nat.reduceGT, Int.reduceNeg, Int.reduceToNat, and_true, true_and, and_false, false_and, List.getElem?_toArray, List.getElem?_cons_zero, List.getElem?_cons_succ, List.cons_append, List.nil_append, if_true, if_false, Option.getD_some, Option.isSome_some, Bool.false_eq_true, List.append_nil, List.drop_zero, List.drop_succ_cons, Bool.cond_false_right, Bool.cond_false_left, Bool.cond_true_left, Bool.cond_true_right, ite_self, Bool.not_true, Bool.not_false, cond_true, cond_false, List.size_toArray, implies_true, true_implies, false_implies, List.all_cons, List.all_nil, List.nodup_cons, List.nodup_nil, List.mem_cons, List.not_mem_nil, or_false, false_or, not_false_eq_true, decide_true, Bool.and_true, Bool.and_self]
  exact hk _ _ (Wrote.box hf hw)
theorem violated_spec (X : D → Value → Prop) (N : Nat) (r : Option Nat) (b : Nat) (x : Es.Clause) (fm i : Nat) (ty : TypeId) (ms : List Es.Mark) (o : St) (nx : Nat) (K : D → S → Prop) (hf : fm < nx) (ho : o fm 0 = some (.blk 5 ms.length ty (rowsOf mrkC ms))) (hi : i < ms.length)
    (hk : ∀ o' nx', Wrote o nx fm ty (ms.set i (if (Es.at_ ms (i : Int)).paused then Es.at_ ms (i : Int) else ended (Es.at_ ms (i : Int)) 4)) o' nx' → K (.tup []) ⟨o', nx'⟩) :
    ACall { P := prog, G := gl, X := X, N := N, r := r, b := b } 107 [clcD x (.mp fm 0 5 i 0)] ⟨o, nx⟩ K := by
  refine acall_ofA (M := { P := prog, G := gl, X := X, N := N, r := r, b := b }) func107 rfl results107 ntmps107 (by simp) fun b => ?_
  simp only [go_sem, ↓reduceIte, decide_eq_true_eq, reduceCtorEq, Nat.reduceEqDiff, Nat.reduceLT, Nat.reduceLeDiff, Nat.reduceAdd, Nat.reduceSub, Nat.reduceMul, Nat.reduceGT, Int.reduceNeg, Int.reduceToNat, and_true, true_and, and_false, false_and, List.getElem?_toArray, List.getElem?_cons_zero, List.getElem?_cons_succ, List.cons_append, List.nil_append, if_true, if_false, Option.getD_some, Option.isSome_some, Bool.false_eq_true, List.append_nil, List.drop_zero, List.drop_succ_cons, Bool.cond_false_right, Bool.cond_false_left, Bool.cond_true_left, Bool.cond_true_right, ite_self, Bool.not_true, Bool.not_false, cond_true, cond_false, List.size_toArray, implies_true, true_implies, false_implies, List.all_cons, List.all_nil, List.nodup_cons, List.nodup_nil, List.mem_cons, List.not_mem_nil, or_false, false_or, not_false_eq_true, decide_true, Bool.and_true, Bool.and_self]
  have n0 : (fm = nx) = False := by simp only [eq_iff_iff, iff_false]; omega
  have n1 : (nx = fm) = False := by simp only [eq_iff_iff, iff_false]; omega
  simp only [go_sem, ↓reduceIte, decide_eq_true_eq, reduceCtorEq, Nat.reduceEqDiff, Nat.reduceLT, Nat.reduceLeDiff, Nat.reduceAdd, Nat.reduceSub, Nat.reduceMul, Nat.reduceGT, Int.reduceNeg, Int.reduceToNat, and_true, true_and, and_false, false_and, List.getElem?_toArray, List.getElem?_cons_zero, List.getElem?_cons_succ, List.cons_append, List.nil_append, if_true, if_false, Option.getD_some, Option.isSome_some, Bool.false_eq_true, List.append_nil, List.drop_zero, List.drop_succ_cons, Bool.cond_false_right, Bool.cond_false_left, Bool.cond_true_left, Bool.cond_true_right, ite_self, Bool.not_true, Bool.not_false, cond_true, cond_false, List.size_toArray, implies_true, true_implies, false_implies, List.all_cons, List.all_nil, List.nodup_cons, List.nodup_nil, List.mem_cons, List.not_mem_nil, or_false, false_or, not_false_eq_true, decide_true, Bool.and_true, Bool.and_self, ho, n0, n1]
  refine ⟨hi, ?_⟩
  refine ite_cases (fun hp => ?_) (fun hp => ?_)
  · refine end_spec _ _ _ _ x fm i ty ms 4 _ _ _ (by omega) (by simp only [go_sem, ↓reduceIte, decide_eq_true_eq, reduceCtorEq, Nat.reduceEqDiff, Nat.reduceLT, Nat.reduceLeDiff, Nat.reduceAdd, Nat.reduceSub, Nat.reduceMul, Nat.reduceGT, Int.reduceNeg, Int.reduceToNat, and_true, true_and, and_false, false_and, List.getElem?_toArray, List.getElem?_cons_zero, List.getElem?_cons_succ, List.cons_append, List.nil_append, if_true, if_false, Option.getD_some, Option.isSome_some, Bool.false_eq_true, List.append_nil, List.drop_zero, List.drop_succ_cons, Bool.cond_false_right, Bool.cond_false_left, Bool.cond_true_left, Bool.cond_true_right, ite_self, Bool.not_true, Bool.not_false, cond_true, cond_false, List.size_toArray, implies_true, true_implies, false_implies, List.all_cons, List.all_nil, List.nodup_cons, List.nodup_nil, List.mem_cons, List.not_mem_nil, or_false, false_or, not_false_eq_true, decide_true, Bool.and_true, Bool.and_self, ho, n0, n1]) hi fun o' nx' hw => ?_
    simp only [go_sem, ↓reduceIte, decide_eq_true_eq, reduceCtorEq, Nat.reduceEqDiff, Nat.reduceLT, Nat.reduceLeDiff, Nat.reduceAdd, Nat.reduceSub, Nat.reduceMul, Nat.reduceGT, Int.reduceNeg, Int.reduceToNat, and_true, true_and, and_false, false_and, List.getElem?_toArray, List.getElem?_cons_zero, List.getElem?_cons_succ, List.cons_append, List.nil_append, if_true, if_false, Option.getD_some, Option.isSome_some, Bool.false_eq_true, List.append_nil, List.drop_zero, List.drop_succ_cons, Bool.cond_false_right, Bool.cond_false_left, Bool.cond_true_left, Bool.cond_true_right, ite_self, Bool.not_true, Bool.not_false, cond_true, cond_false, List.size_toArray, implies_true, true_implies, false_implies, List.all_cons, List.all_nil, List.nodup_cons, List.nodup_nil, List.mem_cons, List.not_mem_nil, or_false, false_or, not_false_eq_true, decide_true, Bool.and_true, Bool.and_self]
    have := Wrote.box hf hw
    exact hk _ _ (by rw [if_neg (by simpa using hp)]; exact this)
  · refine hk _ _ ?_
    rw [if_pos (by simpa using hp), set_at hi]
    exact wrote_same hf ho
def performed (x : Es.Clause) (m : Es.Mark) : Es.Mark := if m.got + 1 == x.need then ended { m with got := m.got + 1 } 3 else { m with got := m.got + 1 }
def overdue (x : Es.Clause) (m : Es.Mark) : Es.Mark := if m.status == 1 && decide (0 < x.grace) then { m with status := 2, left := x.grace } else ended m 4
theorem performed_spec (X : D → Value → Prop) (N : Nat) (r : Option Nat) (b : Nat) (x : Es.Clause) (fm i : Nat) (ty : TypeId) (ms : List Es.Mark) (o : St) (nx : Nat) (K : D → S → Prop) (hf : fm < nx) (ho : o fm 0 = some (.blk 5 ms.length ty (rowsOf mrkC ms))) (hi : i < ms.length) (hgot : 0 ≤ (Es.at_ ms (i : Int)).got ∧ (Es.at_ ms (i : Int)).got ≤ 9)
    (hk : ∀ o' nx', Wrote o nx fm ty (ms.set i (performed x (Es.at_ ms (i : Int)))) o' nx' → K (.tup []) ⟨o', nx'⟩) :
    ACall { P := prog, G := gl, X := X, N := N, r := r, b := b } 106 [clcD x (.mp fm 0 5 i 0)] ⟨o, nx⟩ K := by
  refine acall_ofA (M := { P := prog, G := gl, X := X, N := N, r := r, b := b }) func106 rfl results106 ntmps106 (by simp) fun b => ?_
  simp only [go_sem, ↓reduceIte, decide_eq_true_eq, reduceCtorEq, Nat.reduceEqDiff, Nat.reduceLT, Nat.reduceLeDiff, Nat.reduceAdd, Nat.reduceSub, Nat.reduceMul, Nat.reduceGT, Int.reduceNeg, Int.reduceToNat, and_true, true_and, and_false, false_and, List.getElem?_toArray, List.getElem?_cons_zero, List.getElem?_cons_succ, List.cons_append, List.nil_append, if_true, if_false, Option.getD_some, Option.isSome_some, Bool.false_eq_true, List.append_nil, List.drop_zero, List.drop_succ_cons, Bool.cond_false_right, Bool.cond_false_left, Bool.cond_true_left, Bool.cond_true_right, ite_self, Bool.not_true, Bool.not_false, cond_true, cond_false, List.size_toArray, implies_true, true_implies, false_implies, List.all_cons, List.all_nil, List.nodup_cons, List.nodup_nil, List.mem_cons, List.not_mem_nil, or_false, false_or, not_false_eq_true, decide_true, Bool.and_true, Bool.and_self]
  have n0 : (fm = nx) = False := by simp only [eq_iff_iff, iff_false]; omega
  have n1 : (nx = fm) = False := by simp only [eq_iff_iff, iff_false]; omega
  have hw : IntKind.i64.wrap ((Es.at_ ms (i : Int)).got + 1) = (Es.at_ ms (i : Int)).got + 1 := wrap_i64 _ (by omega) (by omega)
  simp only [go_sem, ↓reduceIte, decide_eq_true_eq, reduceCtorEq, Nat.reduceEqDiff, Nat.reduceLT, Nat.reduceLeDiff, Nat.reduceAdd, Nat.reduceSub, Nat.reduceMul, Nat.reduceGT, Int.reduceNeg, Int.reduceToNat, and_true, true_and, and_false, false_and, List.getElem?_toArray, List.getElem?_cons_zero, List.getElem?_cons_succ, List.cons_append, List.nil_append, if_true, if_false, Option.getD_some, Option.isSome_some, Bool.false_eq_true, List.append_nil, List.drop_zero, List.drop_succ_cons, Bool.cond_false_right, Bool.cond_false_left, Bool.cond_true_left, Bool.cond_true_right, ite_self, Bool.not_true, Bool.not_false, cond_true, cond_false, List.size_toArray, implies_true, true_implies, false_implies, List.all_cons, List.all_nil, List.nodup_cons, List.nodup_nil, List.mem_cons, List.not_mem_nil, or_false, false_or, not_false_eq_true, decide_true, Bool.and_true, Bool.and_self, ho, n0, n1, setC_mrk2, at_set, hi, List.length_set, List.set_set, hw]
  refine awp_plan ((.op 0 (.op 1 (.op 2 (.op 3 (.op 4 (.op 5 (.op 6 (.op 7 (.op 8 .done)))))))))) [] mix (by kernel_rfl) ?_
  simp only [go_sem, ↓reduceIte, decide_eq_true_eq, reduceCtorEq, Nat.reduceEqDiff, Nat.reduceLT, Nat.reduceLeDiff, Nat.reduceAdd, Nat.reduceSub, Nat.reduceMul, Nat.reduceGT, Int.reduceNeg, Int.reduceToNat, and_true, true_and, and_false, false_and, List.getElem?_toArray, List.getElem?_cons_zero, List.getElem?_cons_succ, List.cons_append, List.nil_append, if_true, if_false, Option.getD_some, Option.isSome_some, Bool.false_eq_true, List.append_nil, List.drop_zero, List.drop_succ_cons, Bool.cond_false_right, Bool.cond_false_left, Bool.cond_true_left, Bool.cond_true_right, ite_self, Bool.not_true, Bool.not_false, cond_true, cond_false, List.size_toArray, implies_true, true_implies, false_implies, List.all_cons, List.all_nil, List.nodup_cons, List.nodup_nil, List.mem_cons, List.not_mem_nil, or_false, false_or, not_false_eq_true, decide_true, Bool.and_true, Bool.and_self, ho, n0, n1, setC_mrk2, at_set, hi, List.length_set, List.set_set, hw]
  refine ite_cases (fun hc => ?_) (fun hc => ?_)
  · have hi' : i < (ms.set i { Es.at_ ms (i : Int) with got := (Es.at_ ms (i : Int)).got + 1 }).length := by simpa using hi
    refine end_spec _ _ _ _ x fm i ty (ms.set i { Es.at_ ms (i : Int) with got := (Es.at_ ms (i : Int)).got + 1 }) 3 _ _ _ (by omega) (by simp only [go_sem, ↓reduceIte, decide_eq_true_eq, reduceCtorEq, Nat.reduceEqDiff, Nat.reduceLT, Nat.reduceLeDiff, Nat.reduceAdd, Nat.reduceSub, Nat.reduceMul, Nat.reduceGT, Int.reduceNeg, Int.reduceToNat, and_true, true_and, and_false, false_and, List.getElem?_toArray, List.getElem?_cons_zero, List.getElem?_cons_succ, List.cons_append, List.nil_append, if_true, if_false, Option.getD_some, Option.isSome_some, Bool.false_eq_true, List.append_nil, List.drop_zero, List.drop_succ_cons, Bool.cond_false_right, Bool.cond_false_left, Bool.cond_true_left, Bool.cond_true_right, ite_self, Bool.not_true, Bool.not_false, cond_true, cond_false, List.size_toArray, implies_true, true_implies, false_implies, List.all_cons, List.all_nil, List.nodup_cons, List.nodup_nil, List.mem_cons, List.not_mem_nil, or_false, false_or, not_false_eq_true, decide_true, Bool.and_true, Bool.and_self, ho, n0, n1, List.length_set]) hi' fun o' nx' hw => ?_
    simp only [go_sem, ↓reduceIte, decide_eq_true_eq, reduceCtorEq, Nat.reduceEqDiff, Nat.reduceLT, Nat.reduceLeDiff, Nat.reduceAdd, Nat.reduceSub, Nat.reduceMul, Nat.reduceGT, Int.reduceNeg, Int.reduceToNat, and_true, true_and, and_false, false_and, List.getElem?_toArray, List.getElem?_cons_zero, List.getElem?_cons_succ, List.cons_append, List.nil_append, if_true, if_false, Option.getD_some, Option.isSome_some, Bool.false_eq_true, List.append_nil, List.drop_zero, List.drop_succ_cons, Bool.cond_false_right, Bool.cond_false_left, Bool.cond_true_left, Bool.cond_true_right, ite_self, Bool.not_true, Bool.not_false, cond_true, cond_false, List.size_toArray, implies_true, true_implies, false_implies, List.all_cons, List.all_nil, List.nodup_cons, List.nodup_nil, List.mem_cons, List.not_mem_nil, or_false, false_or, not_false_eq_true, decide_true, Bool.and_true, Bool.and_self]
    refine hk _ _ ⟨by have := hw.1; omega, ?_, fun f j hfj hne => ?_⟩
    · rw [show performed x (Es.at_ ms (i : Int)) = ended { Es.at_ ms (i : Int) with got := (Es.at_ ms (i : Int)).got + 1 } 3 from if_pos hc]
      have := hw.2.1
      rw [at_set hi, List.set_set] at this
      exact this
    · rw [hw.2.2 f j (by omega) hne]
      simp only [St.set]; rw [if_neg hne, if_neg (by omega)]
  · refine hk _ _ ⟨by omega, ?_, fun f j hfj hne => ?_⟩
    · rw [show performed x (Es.at_ ms (i : Int)) = { Es.at_ ms (i : Int) with got := (Es.at_ ms (i : Int)).got + 1 } from if_neg hc]
      simp [St.set]
    · simp only [St.set]; rw [if_neg hne, if_neg (by omega)]
theorem overdue_spec (X : D → Value → Prop) (N : Nat) (r : Option Nat) (b : Nat) (x : Es.Clause) (fm i : Nat) (ty : TypeId) (ms : List Es.Mark) (o : St) (nx : Nat) (K : D → S → Prop) (hf : fm < nx) (ho : o fm 0 = some (.blk 5 ms.length ty (rowsOf mrkC ms))) (hi : i < ms.length)
    (hk : ∀ o' nx', Wrote o nx fm ty (ms.set i (overdue x (Es.at_ ms (i : Int)))) o' nx' → K (.tup []) ⟨o', nx'⟩) :
    ACall { P := prog, G := gl, X := X, N := N, r := r, b := b } 103 [clcD x (.mp fm 0 5 i 0)] ⟨o, nx⟩ K := by
  refine acall_ofA (M := { P := prog, G := gl, X := X, N := N, r := r, b := b }) func103 rfl results103 ntmps103 (by simp) fun b => ?_
  simp only [go_sem, ↓reduceIte, decide_eq_true_eq, reduceCtorEq, Nat.reduceEqDiff, Nat.reduceLT, Nat.reduceLeDiff, Nat.reduceAdd, Nat.reduceSub, Nat.reduceMul, Nat.reduceGT, Int.reduceNeg, Int.reduceToNat, and_true, true_and, and_false, false_and, List.getElem?_toArray, List.getElem?_cons_zero, List.getElem?_cons_succ, List.cons_append, List.nil_append, if_true, if_false, Option.getD_some, Option.isSome_some, Bool.false_eq_true, List.append_nil, List.drop_zero, List.drop_succ_cons, Bool.cond_false_right, Bool.cond_false_left, Bool.cond_true_left, Bool.cond_true_right, ite_self, Bool.not_true, Bool.not_false, cond_true, cond_false, List.size_toArray, implies_true, true_implies, false_implies, List.all_cons, List.all_nil, List.nodup_cons, List.nodup_nil, List.mem_cons, List.not_mem_nil, or_false, false_or, not_false_eq_true, decide_true, Bool.and_true, Bool.and_self]
  have n0 : (fm = nx) = False := by simp only [eq_iff_iff, iff_false]; omega
  have n1 : (nx = fm) = False := by simp only [eq_iff_iff, iff_false]; omega
  simp only [go_sem, ↓reduceIte, decide_eq_true_eq, reduceCtorEq, Nat.reduceEqDiff, Nat.reduceLT, Nat.reduceLeDiff, Nat.reduceAdd, Nat.reduceSub, Nat.reduceMul, Nat.reduceGT, Int.reduceNeg, Int.reduceToNat, and_true, true_and, and_false, false_and, List.getElem?_toArray, List.getElem?_cons_zero, List.getElem?_cons_succ, List.cons_append, List.nil_append, if_true, if_false, Option.getD_some, Option.isSome_some, Bool.false_eq_true, List.append_nil, List.drop_zero, List.drop_succ_cons, Bool.cond_false_right, Bool.cond_false_left, Bool.cond_true_left, Bool.cond_true_right, ite_self, Bool.not_true, Bool.not_false, cond_true, cond_false, List.size_toArray, implies_true, true_implies, false_implies, List.all_cons, List.all_nil, List.nodup_cons, List.nodup_nil, List.mem_cons, List.not_mem_nil, or_false, false_or, not_false_eq_true, decide_true, Bool.and_true, Bool.and_self, ho, n0, n1]
  refine ⟨hi, ?_⟩
  have fin : ∀ B, ((Es.at_ ms (i : Int)).status == 1 && decide (0 < x.grace)) = true → K (.tup []) ⟨St.set (St.set o nx 0 B) fm 0 (some (.blk 5 ms.length ty (rowsOf mrkC (ms.set i { Es.at_ ms (i : Int) with status := 2, left := x.grace })))), nx + 1⟩ := fun B hc => hk _ _ ⟨by omega, by rw [show overdue x (Es.at_ ms (i : Int)) = _ from if_pos hc]; simp [St.set], fun f j hfj hne => by simp only [St.set]; rw [if_neg hne, if_neg (by omega)]⟩
  have fin2 : ∀ B, ¬ ((Es.at_ ms (i : Int)).status == 1 && decide (0 < x.grace)) = true → ∀ o' nx', Wrote (St.set o nx 0 B) (nx + 1) fm ty (ms.set i (ended (Es.at_ ms (i : Int)) 4)) o' nx' → K (.tup []) ⟨o', nx'⟩ := fun B hc o' nx' hw => hk _ _ (by rw [show overdue x (Es.at_ ms (i : Int)) = _ from if_neg hc]; exact Wrote.box hf hw)
  refine ite_cases (fun h1 => ?_) (fun h1 => ?_)
  · refine ite_cases (fun h2 => ?_) (fun h2 => ?_)
    · refine awp_plan ((.op 0 (.op 1 (.op 2 (.op 4 (.op 5 (.op 7 (.op 8 (.alt 3 (.alt 6 (.op 9 (.op 10 (.op 11 (.op 12 .done)))) (.alt 9 (.op 6 (.op 10 (.op 11 (.op 12 .done)))) .dead)) (.alt 6 (.alt 3 (.op 9 (.op 10 (.op 11 (.op 12 .done)))) (.alt 9 (.op 3 (.op 10 (.op 11 (.op 12 .done)))) .dead)) (.alt 9 (.op 3 (.op 6 (.op 10 (.op 11 (.op 12 .done))))) .dead))))))))))) [9, 12] mix (by kernel_rfl) ?_
      simp only [go_sem, ↓reduceIte, decide_eq_true_eq, reduceCtorEq, Nat.reduceEqDiff, Nat.reduceLT, Nat.reduceLeDiff, Nat.reduceAdd, Nat.reduceSub, Nat.reduceMul, Nat.reduceGT, Int.reduceNeg, Int.reduceToNat, and_true, true_and, and_false, false_and, List.getElem?_toArray, List.getElem?_cons_zero, List.getElem?_cons_succ, List.cons_append, List.nil_append, if_true, if_false, Option.getD_some, Option.isSome_some, Bool.false_eq_true, List.append_nil, List.drop_zero, List.drop_succ_cons, Bool.cond_false_right, Bool.cond_false_left, Bool.cond_true_left, Bool.cond_true_right, ite_self, Bool.not_true, Bool.not_false, cond_true, cond_false, List.size_toArray, implies_true, true_implies, false_implies, List.all_cons, List.all_nil, List.nodup_cons, List.nodup_nil, List.mem_cons, List.not_mem_nil, or_false, false_or, not_false_eq_true, decide_true, Bool.and_true, Bool.and_self, ho, n0, n1, setC_mrk0, setC_mrk1, at_set, hi, List.length_set, List.set_set]
      repeat' (first | (with_reducible refine And.intro ?_ ?_) | ((with_reducible refine ite_cases ?_ ?_) <;> intro _))
      all_goals exact fin _ (by simp [h1, h2])
    · refine end_spec _ _ _ _ x fm i ty ms 4 _ _ _ (by omega) (by simp only [go_sem, ↓reduceIte, decide_eq_true_eq, reduceCtorEq, Nat.reduceEqDiff, Nat.reduceLT, Nat.reduceLeDiff, Nat.reduceAdd, Nat.reduceSub, Nat.reduceMul, Nat.reduceGT, Int.reduceNeg, Int.reduceToNat, and_true, true_and, and_false, false_and, List.getElem?_toArray, List.getElem?_cons_zero, List.getElem?_cons_succ, List.cons_append, List.nil_append, if_true, if_false, Option.getD_some, Option.isSome_some, Bool.false_eq_true, List.append_nil, List.drop_zero, List.drop_succ_cons, Bool.cond_false_right, Bool.cond_false_left, Bool.cond_true_left, Bool.cond_true_right, ite_self, Bool.not_true, Bool.not_false, cond_true, cond_false, List.size_toArray, implies_true, true_implies, false_implies, List.all_cons, List.all_nil, List.nodup_cons, List.nodup_nil, List.mem_cons, List.not_mem_nil, or_false, false_or, not_false_eq_true, decide_true, Bool.and_true, Bool.and_self, ho, n0, n1]) hi fun o' nx' hw => ?_
      simp only [go_sem, ↓reduceIte, decide_eq_true_eq, reduceCtorEq, Nat.reduceEqDiff, Nat.reduceLT, Nat.reduceLeDiff, Nat.reduceAdd, Nat.reduceSub, Nat.reduceMul, Nat.reduceGT, Int.reduceNeg, Int.reduceToNat, and_true, true_and, and_false, false_and, List.getElem?_toArray, List.getElem?_cons_zero, List.getElem?_cons_succ, List.cons_append, List.nil_append, if_true, if_false, Option.getD_some, Option.isSome_some, Bool.false_eq_true, List.append_nil, List.drop_zero, List.drop_succ_cons, Bool.cond_false_right, Bool.cond_false_left, Bool.cond_true_left, Bool.cond_true_right, ite_self, Bool.not_true, Bool.not_false, cond_true, cond_false, List.size_toArray, implies_true, true_implies, false_implies, List.all_cons, List.all_nil, List.nodup_cons, List.nodup_nil, List.mem_cons, List.not_mem_nil, or_false, false_or, not_false_eq_true, decide_true, Bool.and_true, Bool.and_self]
      exact fin2 _ (by simp [h2]) _ _ hw
  · refine end_spec _ _ _ _ x fm i ty ms 4 _ _ _ (by omega) (by simp only [go_sem, ↓reduceIte, decide_eq_true_eq, reduceCtorEq, Nat.reduceEqDiff, Nat.reduceLT, Nat.reduceLeDiff, Nat.reduceAdd, Nat.reduceSub, Nat.reduceMul, Nat.reduceGT, Int.reduceNeg, Int.reduceToNat, and_true, true_and, and_false, false_and, List.getElem?_toArray, List.getElem?_cons_zero, List.getElem?_cons_succ, List.cons_append, List.nil_append, if_true, if_false, Option.getD_some, Option.isSome_some, Bool.false_eq_true, List.append_nil, List.drop_zero, List.drop_succ_cons, Bool.cond_false_right, Bool.cond_false_left, Bool.cond_true_left, Bool.cond_true_right, ite_self, Bool.not_true, Bool.not_false, cond_true, cond_false, List.size_toArray, implies_true, true_implies, false_implies, List.all_cons, List.all_nil, List.nodup_cons, List.nodup_nil, List.mem_cons, List.not_mem_nil, or_false, false_or, not_false_eq_true, decide_true, Bool.and_true, Bool.and_self, ho, n0, n1]) hi fun o' nx' hw => ?_
    simp only [go_sem, ↓reduceIte, decide_eq_true_eq, reduceCtorEq, Nat.reduceEqDiff, Nat.reduceLT, Nat.reduceLeDiff, Nat.reduceAdd, Nat.reduceSub, Nat.reduceMul, Nat.reduceGT, Int.reduceNeg, Int.reduceToNat, and_true, true_and, and_false, false_and, List.getElem?_toArray, List.getElem?_cons_zero, List.getElem?_cons_succ, List.cons_append, List.nil_append, if_true, if_false, Option.getD_some, Option.isSome_some, Bool.false_eq_true, List.append_nil, List.drop_zero, List.drop_succ_cons, Bool.cond_false_right, Bool.cond_false_left, Bool.cond_true_left, Bool.cond_true_right, ite_self, Bool.not_true, Bool.not_false, cond_true, cond_false, List.size_toArray, implies_true, true_implies, false_implies, List.all_cons, List.all_nil, List.nodup_cons, List.nodup_nil, List.mem_cons, List.not_mem_nil, or_false, false_or, not_false_eq_true, decide_true, Bool.and_true, Bool.and_self]
    exact fin2 _ (by simp [h1]) _ _ hw

/-- The methods, by the kind of a clause. -/
theorem counted_spec (k : Int) (hk : k = 1 ∨ k = 2 ∨ k = 3 ∨ k = 4) : APure M 80 [.v (.int .i64 k)] (.fn (.func (if k = 1 then 106 else if k = 2 then 107 else 104)) []) := by
  refine pure_of gpu func80 rfl results80 ntmps80 (by simp) ⟨.v _, trivial⟩ ?_
  intro b
  simp only [go_sem, ↓reduceIte, decide_eq_true_eq, reduceCtorEq, Nat.reduceEqDiff, Nat.reduceLT, Nat.reduceLeDiff, Nat.reduceAdd, Nat.reduceSub, Nat.reduceMul, Nat.reduceGT, Int.reduceNeg, Int.reduceToNat, and_true, true_and, and_false, false_and, List.getElem?_toArray, List.getElem?_cons_zero, List.getElem?_cons_succ, List.cons_append, List.nil_append, if_true, if_false, Option.getD_some, Option.isSome_some, Bool.false_eq_true, List.append_nil, List.drop_zero, List.drop_succ_cons, Bool.cond_false_right, Bool.cond_false_left, Bool.cond_true_left, Bool.cond_true_right, ite_self, Bool.not_true, Bool.not_false, cond_true, cond_false, List.size_toArray, implies_true, true_implies, false_implies, List.all_cons, List.all_nil, List.nodup_cons, List.nodup_nil, List.mem_cons, List.not_mem_nil, or_false, false_or, not_false_eq_true, decide_true, Bool.and_true, Bool.and_self]
  rcases hk with rfl | rfl | rfl | rfl
  all_goals simp only [go_sem, ↓reduceIte, decide_eq_true_eq, reduceCtorEq, Nat.reduceEqDiff, Nat.reduceLT, Nat.reduceLeDiff, Nat.reduceAdd, Nat.reduceSub, Nat.reduceMul, Nat.reduceGT, Int.reduceNeg, Int.reduceToNat, and_true, true_and, and_false, false_and, List.getElem?_toArray, List.getElem?_cons_zero, List.getElem?_cons_succ, List.cons_append, List.nil_append, if_true, if_false, Option.getD_some, Option.isSome_some, Bool.false_eq_true, List.append_nil, List.drop_zero, List.drop_succ_cons, Bool.cond_false_right, Bool.cond_false_left, Bool.cond_true_left, Bool.cond_true_right, ite_self, Bool.not_true, Bool.not_false, cond_true, cond_false, List.size_toArray, implies_true, true_implies, false_implies, List.all_cons, List.all_nil, List.nodup_cons, List.nodup_nil, List.mem_cons, List.not_mem_nil, or_false, false_or, not_false_eq_true, decide_true, Bool.and_true, Bool.and_self]
  all_goals exact ⟨⟨by omega, by omega⟩, Fz_fn trivial⟩
theorem elapsed_spec (k : Int) (hk : k = 1 ∨ k = 2 ∨ k = 3 ∨ k = 4) : APure M 79 [.v (.int .i64 k)] (.fn (.func (if k = 1 then 103 else if k = 2 then 104 else 105)) []) := by
  refine pure_of gpu func79 rfl results79 ntmps79 (by simp) ⟨.v _, trivial⟩ ?_
  intro b
  simp only [go_sem, ↓reduceIte, decide_eq_true_eq, reduceCtorEq, Nat.reduceEqDiff, Nat.reduceLT, Nat.reduceLeDiff, Nat.reduceAdd, Nat.reduceSub, Nat.reduceMul, Nat.reduceGT, Int.reduceNeg, Int.reduceToNat, and_true, true_and, and_false, false_and, List.getElem?_toArray, List.getElem?_cons_zero, List.getElem?_cons_succ, List.cons_append, List.nil_append, if_true, if_false, Option.getD_some, Option.isSome_some, Bool.false_eq_true, List.append_nil, List.drop_zero, List.drop_succ_cons, Bool.cond_false_right, Bool.cond_false_left, Bool.cond_true_left, Bool.cond_true_right, ite_self, Bool.not_true, Bool.not_false, cond_true, cond_false, List.size_toArray, implies_true, true_implies, false_implies, List.all_cons, List.all_nil, List.nodup_cons, List.nodup_nil, List.mem_cons, List.not_mem_nil, or_false, false_or, not_false_eq_true, decide_true, Bool.and_true, Bool.and_self]
  rcases hk with rfl | rfl | rfl | rfl
  all_goals simp only [go_sem, ↓reduceIte, decide_eq_true_eq, reduceCtorEq, Nat.reduceEqDiff, Nat.reduceLT, Nat.reduceLeDiff, Nat.reduceAdd, Nat.reduceSub, Nat.reduceMul, Nat.reduceGT, Int.reduceNeg, Int.reduceToNat, and_true, true_and, and_false, false_and, List.getElem?_toArray, List.getElem?_cons_zero, List.getElem?_cons_succ, List.cons_append, List.nil_append, if_true, if_false, Option.getD_some, Option.isSome_some, Bool.false_eq_true, List.append_nil, List.drop_zero, List.drop_succ_cons, Bool.cond_false_right, Bool.cond_false_left, Bool.cond_true_left, Bool.cond_true_right, ite_self, Bool.not_true, Bool.not_false, cond_true, cond_false, List.size_toArray, implies_true, true_implies, false_implies, List.all_cons, List.all_nil, List.nodup_cons, List.nodup_nil, List.mem_cons, List.not_mem_nil, or_false, false_or, not_false_eq_true, decide_true, Bool.and_true, Bool.and_self]
  all_goals exact ⟨⟨by omega, by omega⟩, Fz_fn trivial⟩
/-- The method for a clause whose days are over, whichever it is. -/
theorem aged_spec (X : D → Value → Prop) (N : Nat) (r : Option Nat) (b : Nat) (x : Es.Clause) (fm i : Nat) (ty : TypeId) (ms : List Es.Mark) (o : St) (nx : Nat) (K : D → S → Prop) (hkd : x.kind = 1 ∨ x.kind = 2 ∨ x.kind = 3 ∨ x.kind = 4) (hf : fm < nx) (ho : o fm 0 = some (.blk 5 ms.length ty (rowsOf mrkC ms))) (hi : i < ms.length)
    (hk : ∀ o' nx', Wrote o nx fm ty (ms.set i (Es.older x (Es.at_ ms (i : Int)))) o' nx' → K (.tup []) ⟨o', nx'⟩) :
    callable prog (if x.kind = 1 then 103 else if x.kind = 2 then 104 else 105) = true ∧
    ACall { P := prog, G := gl, X := X, N := N, r := r, b := b } (if x.kind = 1 then 103 else if x.kind = 2 then 104 else 105) [clcD x (.mp fm 0 5 i 0)] ⟨o, nx⟩ K := by
  by_cases h1 : x.kind = 1
  · simp only [if_pos h1]
    refine ⟨by simp only [go_sem], overdue_spec _ _ _ _ x fm i ty ms _ _ _ hf ho hi fun o' nx' hw => hk o' nx' ?_⟩
    rw [show Es.older x (Es.at_ ms (i : Int)) = overdue x (Es.at_ ms (i : Int)) by unfold Es.older overdue ended; rw [if_pos (by simpa using h1)]]
    exact hw
  · simp only [if_neg h1]
    by_cases h2 : x.kind = 2
    · simp only [if_pos h2]
      refine ⟨by simp only [go_sem], observed_spec _ _ _ _ x fm i ty ms _ _ _ hf ho hi fun o' nx' hw => hk o' nx' ?_⟩
      rw [show Es.older x (Es.at_ ms (i : Int)) = ended (Es.at_ ms (i : Int)) 3 by unfold Es.older ended; rw [if_neg (by simpa using h1), if_pos (by simpa using h2)]]
      exact hw
    · simp only [if_neg h2]
      refine ⟨by simp only [go_sem], lapsed_spec _ _ _ _ x fm i ty ms _ _ _ hf ho hi fun o' nx' hw => hk o' nx' ?_⟩
      rw [show Es.older x (Es.at_ ms (i : Int)) = ended (Es.at_ ms (i : Int)) 5 by unfold Es.older ended; rw [if_neg (by simpa using h1), if_neg (by simpa using h2)]]
      exact hw
/-- The method for an act that counts, whichever it is. -/
theorem acted_spec (X : D → Value → Prop) (N : Nat) (r : Option Nat) (b : Nat) (x : Es.Clause) (fm i : Nat) (ty : TypeId) (ms : List Es.Mark) (o : St) (nx : Nat) (K : D → S → Prop) (hf : fm < nx) (ho : o fm 0 = some (.blk 5 ms.length ty (rowsOf mrkC ms))) (hi : i < ms.length)
    (hgot : 0 ≤ (Es.at_ ms (i : Int)).got ∧ (Es.at_ ms (i : Int)).got ≤ 9)
    (hk : ∀ o' nx', Wrote o nx fm ty (ms.set i (Es.countedM x (Es.at_ ms (i : Int)))) o' nx' → K (.tup []) ⟨o', nx'⟩) :
    callable prog (if x.kind = 1 then 106 else if x.kind = 2 then 107 else 104) = true ∧
    ACall { P := prog, G := gl, X := X, N := N, r := r, b := b } (if x.kind = 1 then 106 else if x.kind = 2 then 107 else 104) [clcD x (.mp fm 0 5 i 0)] ⟨o, nx⟩ K := by
  by_cases h1 : x.kind = 1
  · simp only [if_pos h1]
    refine ⟨by simp only [go_sem], performed_spec _ _ _ _ x fm i ty ms _ _ _ hf ho hi hgot fun o' nx' hw => hk o' nx' ?_⟩
    rw [show Es.countedM x (Es.at_ ms (i : Int)) = performed x (Es.at_ ms (i : Int)) by unfold Es.countedM performed; rw [if_pos (by simpa using h1)]; rfl]
    exact hw
  · simp only [if_neg h1]
    by_cases h2 : x.kind = 2
    · simp only [if_pos h2]
      refine ⟨by simp only [go_sem], violated_spec _ _ _ _ x fm i ty ms _ _ _ hf ho hi fun o' nx' hw => hk o' nx' ?_⟩
      rw [show Es.countedM x (Es.at_ ms (i : Int)) = (if (Es.at_ ms (i : Int)).paused then Es.at_ ms (i : Int) else ended (Es.at_ ms (i : Int)) 4) by unfold Es.countedM; rw [if_neg (by simpa using h1), if_pos (by simpa using h2)]; rfl]
      exact hw
    · simp only [if_neg h2]
      refine ⟨by simp only [go_sem], observed_spec _ _ _ _ x fm i ty ms _ _ _ hf ho hi fun o' nx' hw => hk o' nx' ?_⟩
      rw [show Es.countedM x (Es.at_ ms (i : Int)) = ended (Es.at_ ms (i : Int)) 3 by unfold Es.countedM; rw [if_neg (by simpa using h1), if_neg (by simpa using h2)]; rfl]
      exact hw
theorem acted_spec' (X : D → Value → Prop) (N : Nat) (r : Option Nat) (b : Nat) (x : Es.Clause) (fm i n : Nat) (ty : TypeId) (ms : List Es.Mark) (o : St) (nx : Nat) (K : D → S → Prop) (ho : o fm 0 = some (.blk 5 n ty (rowsOf mrkC ms))) (hn : ms.length = n) (hf : fm < nx) (hi : i < n)
    (hgot : 0 ≤ (Es.at_ ms (i : Int)).got ∧ (Es.at_ ms (i : Int)).got ≤ 9)
    (hk : ∀ o' nx', Wrote o nx fm ty (ms.set i (Es.countedM x (Es.at_ ms (i : Int)))) o' nx' → K (.tup []) ⟨o', nx'⟩) :
    callable prog (if x.kind = 1 then 106 else if x.kind = 2 then 107 else 104) = true ∧
    ACall { P := prog, G := gl, X := X, N := N, r := r, b := b } (if x.kind = 1 then 106 else if x.kind = 2 then 107 else 104) [clcD x (.mp fm 0 5 i 0)] ⟨o, nx⟩ K := by
  subst hn; exact acted_spec X N r b x fm i ty ms o nx K hf ho hi hgot hk
end Tryd
end Go.Proofs
end
section
namespace Go.Proofs
open Go Go.Abs
set_option linter.unusedSimpArgs false
set_option maxRecDepth 10000
theorem acall_nil {M : Ctx} {f : FuncId} {args : List D} {s : S} {K : D → S → Prop} (k ty : Nat) (cell : Nat → Nat → D)
    (h : ACall M f args s fun d s' => K d s' ∨ (d = .v (.slice none 0 0) ∧ K (.ms s'.nx 0 k 0 0) (s'.push (.blk k 0 ty cell)))) : ACall M f args s K := by
  intro c vals h1 h2 h3 h4
  refine (h c vals h1 h2 h3 h4).mono ?_
  rintro x W' ⟨c', v, d, s', rfl, g2, g3, g4, g5, g6⟩
  rcases g6 with g6 | ⟨rfl, g6⟩
  · exact ⟨c', v, d, s', rfl, g2, g3, g4, g5, g6⟩
  · cases g5
    exact ⟨c', _, _, _, rfl, g2, g3, empty_ok g4 (.blk k 0 ty cell) rfl, .msnil _ _ _ _, g6⟩
/-- Nothing lies at or beyond the next name. -/
def WfO (o : St) (nx : Nat) : Prop := ∀ f i, nx ≤ f → o f i = none
theorem WfO.set {o : St} {nx nx' f : Nat} {i : Nat} {B : Option SObj} (h : WfO o nx) (hf : f < nx') (hn : nx ≤ nx') : WfO (St.set o f i B) nx' := fun f' i' hf' => by
  show (if f' = f ∧ i' = i then B else o f' i') = none
  rw [if_neg (by omega)]; exact h f' i' (by omega)
theorem keeps_of {o o' : St} {nx nx' : Nat} (h : WfO o nx) (k : SameB nx o o') : keeps ⟨o, nx⟩ ⟨o', nx'⟩ := fun f i B hB => by
  rcases Nat.lt_or_ge f nx with hl | hg
  · exact (k f i hl).trans hB
  · have := h f i hg
    change o f i = some B at hB
    rw [this] at hB; cases hB
namespace Tryd
theorem cloneI_spec (X : D → Value → Prop) (N : Nat) (r : Option Nat) (b : Nat) (l : List Int) (hl : l.length ≤ 1000000000) (o : St) (nx : Nat) (K : D → S → Prop) (hw : WfO o nx)
    (hk : ∀ o' nx' f ty, nx ≤ f → f < nx' → SameB nx o o' → WfO o' nx' → o' f 0 = some (.blk 1 l.length ty (rowsOf intC l)) → K (.ms f 0 1 0 l.length) ⟨o', nx'⟩) :
    ACall { P := prog, G := gl, X := X, N := N, r := r, b := b } 45 [slD 1 intC l] ⟨o, nx⟩ K := by
  refine acall_nil 1 0 (rowsOf intC l) ?_
  refine acall_ofA (M := { P := prog, G := gl, X := X, N := N, r := r, b := b }) func45 rfl results45 ntmps45 (by simp) fun b => ?_
  simp only [go_sem, ↓reduceIte, decide_eq_true_eq, reduceCtorEq, Nat.reduceEqDiff, Nat.reduceLT, Nat.reduceLeDiff, Nat.reduceAdd, Nat.reduceSub, Nat.reduceMul, Nat.reduceGT, Int.reduceNeg, Int.reduceToNat, and_true, true_and, and_false, false_and, List.getElem?_toArray, List.getElem?_cons_zero, List.getElem?_cons_succ, List.cons_append, List.nil_append, if_true, if_false, Option.getD_some, Option.isSome_some, Bool.false_eq_true, List.append_nil, List.drop_zero, List.drop_succ_cons, Bool.cond_false_right, Bool.cond_false_left, Bool.cond_true_left, Bool.cond_true_right, ite_self, Bool.not_true, Bool.not_false, cond_true, cond_false, List.size_toArray, implies_true, true_implies, false_implies, List.all_cons, List.all_nil, List.nodup_cons, List.nodup_nil, List.mem_cons, List.not_mem_nil, or_false, false_or, not_false_eq_true, decide_true, Bool.and_true, Bool.and_self]
  intro q hq
  refine ite_cases (fun h => ?_) (fun h => ?_)
  · have h0 := hq h
    refine .inr ?_
    have := hk (St.set o nx 0 (some (.blk 1 0 0 (rowsOf intC l)))) (nx + 1) nx 0 (Nat.le_refl _) (by omega) (SameB.set (SameB.refl _ _) (Nat.le_refl _) _ _) (hw.set (by omega) (by omega)) (by simp [St.set, h0])
    rw [h0] at this; exact this
  · refine ⟨⟨by omega, by omega⟩, ?_⟩
    have hc : ∀ cell, appC cell 0 (rowsOf intC l) = rowsOf intC l := fun cell => by funext r c; simp [appC]
    rw [hc, Nat.zero_add]
    exact hk _ _ (nx + 1) _ (by omega) (by omega) (SameB.set (SameB.set (SameB.refl _ _) (Nat.le_refl _) _ _) (by omega) _ _) ((hw.set (nx' := nx + 1) (by omega) (by omega)).set (by omega) (by omega)) (by simp [St.set]; rfl)
theorem cloneB_spec (X : D → Value → Prop) (N : Nat) (r : Option Nat) (b : Nat) (l : List Bool) (hl : l.length ≤ 1000000000) (o : St) (nx : Nat) (K : D → S → Prop) (hw : WfO o nx)
    (hk : ∀ o' nx' f ty, nx ≤ f → f < nx' → SameB nx o o' → WfO o' nx' → o' f 0 = some (.blk 1 l.length ty (rowsOf booC l)) → K (.ms f 0 1 0 l.length) ⟨o', nx'⟩) :
    ACall { P := prog, G := gl, X := X, N := N, r := r, b := b } 75 [slD 1 booC l] ⟨o, nx⟩ K := by
  refine acall_nil 1 0 (rowsOf booC l) ?_
  refine acall_ofA (M := { P := prog, G := gl, X := X, N := N, r := r, b := b }) func75 rfl results75 ntmps75 (by simp) fun b => ?_
  simp only [go_sem, ↓reduceIte, decide_eq_true_eq, reduceCtorEq, Nat.reduceEqDiff, Nat.reduceLT, Nat.reduceLeDiff, Nat.reduceAdd, Nat.reduceSub, Nat.reduceMul, Nat.reduceGT, Int.reduceNeg, Int.reduceToNat, and_true, true_and, and_false, false_and, List.getElem?_toArray, List.getElem?_cons_zero, List.getElem?_cons_succ, List.cons_append, List.nil_append, if_true, if_false, Option.getD_some, Option.isSome_some, Bool.false_eq_true, List.append_nil, List.drop_zero, List.drop_succ_cons, Bool.cond_false_right, Bool.cond_false_left, Bool.cond_true_left, Bool.cond_true_right, ite_self, Bool.not_true, Bool.not_false, cond_true, cond_false, List.size_toArray, implies_true, true_implies, false_implies, List.all_cons, List.all_nil, List.nodup_cons, List.nodup_nil, List.mem_cons, List.not_mem_nil, or_false, false_or, not_false_eq_true, decide_true, Bool.and_true, Bool.and_self]
  intro q hq
  refine ite_cases (fun h => ?_) (fun h => ?_)
  · have h0 := hq h
    refine .inr ?_
    have := hk (St.set o nx 0 (some (.blk 1 0 0 (rowsOf booC l)))) (nx + 1) nx 0 (Nat.le_refl _) (by omega) (SameB.set (SameB.refl _ _) (Nat.le_refl _) _ _) (hw.set (by omega) (by omega)) (by simp [St.set, h0])
    rw [h0] at this; exact this
  · refine ⟨⟨by omega, by omega⟩, ?_⟩
    have hc : ∀ cell, appC cell 0 (rowsOf booC l) = rowsOf booC l := fun cell => by funext r c; simp [appC]
    rw [hc, Nat.zero_add]
    exact hk _ _ (nx + 1) _ (by omega) (by omega) (SameB.set (SameB.set (SameB.refl _ _) (Nat.le_refl _) _ _) (by omega) _ _) ((hw.set (nx' := nx + 1) (by omega) (by omega)).set (by omega) (by omega)) (by simp [St.set]; rfl)
theorem cloneM_spec (X : D → Value → Prop) (N : Nat) (r : Option Nat) (b : Nat) (l : List Es.Mark) (hl : l.length ≤ 1000000000) (o : St) (nx : Nat) (K : D → S → Prop) (hw : WfO o nx)
    (hk : ∀ o' nx' f ty, nx ≤ f → f < nx' → SameB nx o o' → WfO o' nx' → o' f 0 = some (.blk 5 l.length ty (rowsOf mrkC l)) → K (.ms f 0 5 0 l.length) ⟨o', nx'⟩) :
    ACall { P := prog, G := gl, X := X, N := N, r := r, b := b } 76 [slD 5 mrkC l] ⟨o, nx⟩ K := by
  refine acall_nil 5 0 (rowsOf mrkC l) ?_
  refine acall_ofA (M := { P := prog, G := gl, X := X, N := N, r := r, b := b }) func76 rfl results76 ntmps76 (by simp) fun b => ?_
  simp only [go_sem, ↓reduceIte, decide_eq_true_eq, reduceCtorEq, Nat.reduceEqDiff, Nat.reduceLT, Nat.reduceLeDiff, Nat.reduceAdd, Nat.reduceSub, Nat.reduceMul, Nat.reduceGT, Int.reduceNeg, Int.reduceToNat, and_true, true_and, and_false, false_and, List.getElem?_toArray, List.getElem?_cons_zero, List.getElem?_cons_succ, List.cons_append, List.nil_append, if_true, if_false, Option.getD_some, Option.isSome_some, Bool.false_eq_true, List.append_nil, List.drop_zero, List.drop_succ_cons, Bool.cond_false_right, Bool.cond_false_left, Bool.cond_true_left, Bool.cond_true_right, ite_self, Bool.not_true, Bool.not_false, cond_true, cond_false, List.size_toArray, implies_true, true_implies, false_implies, List.all_cons, List.all_nil, List.nodup_cons, List.nodup_nil, List.mem_cons, List.not_mem_nil, or_false, false_or, not_false_eq_true, decide_true, Bool.and_true, Bool.and_self]
  intro q hq
  refine ite_cases (fun h => ?_) (fun h => ?_)
  · have h0 := hq h
    refine .inr ?_
    have := hk (St.set o nx 0 (some (.blk 5 0 0 (rowsOf mrkC l)))) (nx + 1) nx 0 (Nat.le_refl _) (by omega) (SameB.set (SameB.refl _ _) (Nat.le_refl _) _ _) (hw.set (by omega) (by omega)) (by simp [St.set, h0])
    rw [h0] at this; exact this
  · refine ⟨⟨by omega, by omega⟩, ?_⟩
    have hc : ∀ cell, appC cell 0 (rowsOf mrkC l) = rowsOf mrkC l := fun cell => by funext r c; simp [appC]
    rw [hc, Nat.zero_add]
    exact hk _ _ (nx + 1) _ (by omega) (by omega) (SameB.set (SameB.set (SameB.refl _ _) (Nat.le_refl _) _ _) (by omega) _ _) ((hw.set (nx' := nx + 1) (by omega) (by omega)).set (by omega) (by omega)) (by simp [St.set]; rfl)
end Tryd
end Go.Proofs
end
section
namespace Go.Proofs
open Go Go.Abs
set_option linter.unusedSimpArgs false
set_option maxRecDepth 10000
namespace Tryd
/-- A state whose parts can be changed. -/
def stO (day : Int) (fh nh fu nu fm nm : Nat) : D := .agg [.v (.int .i64 day), .ms fh 0 1 0 nh, .ms fu 0 1 0 nu, .ms fm 0 5 0 nm]
@[go_sem] theorem stO_fold (day : Int) (fh nh fu nu fm nm : Nat) : D.agg [.v (.int .i64 day), .ms fh 0 1 0 nh, .ms fu 0 1 0 nu, .ms fm 0 5 0 nm] = stO day fh nh fu nu fm nm := nr rfl
@[go_sem] theorem stO_cells (day : Int) (fh nh fu nu fm nm : Nat) : (stO day fh nh fu nu fm nm).cells? = some [.v (.int .i64 day), .ms fh 0 1 0 nh, .ms fu 0 1 0 nu, .ms fm 0 5 0 nm] := nr rfl
/-- The store holds a state's parts. -/
structure HasSt (o : St) (fh fu fm : Nat) (th tu tm : TypeId) (s : Es.State) : Prop where
  h : o fh 0 = some (.blk 1 s.holders.length th (rowsOf intC s.holders))
  u : o fu 0 = some (.blk 1 s.used.length tu (rowsOf booC s.used))
  m : o fm 0 = some (.blk 5 s.marks.length tm (rowsOf mrkC s.marks))
theorem HasSt.fz {o : St} {nx fh fu fm : Nat} {th tu tm : TypeId} {s : Es.State} (h : HasSt o fh fu fm th tu tm s) : Fz ⟨o, nx⟩ (stO s.day fh s.holders.length fu s.used.length fm s.marks.length) (staD s) :=
  Fz_agg ⟨.v _, fz_rows h.h rfl pu_intC, fz_rows h.u rfl pu_booC, fz_rows h.m rfl pu_mrkC, trivial⟩
structure Fine (c : Es.Contract) (s : Es.State) : Prop where
  len : s.marks.length = c.clauses.length
  cond : ∀ i : Nat, i < c.clauses.length → Es.len (Es.at_ c.clauses (i : Int)).start ≤ 8 ∧ ∀ y ∈ (Es.at_ c.clauses (i : Int)).start, 0 ≤ y.clause ∧ y.clause < Es.len c.clauses
  role : ∀ i : Nat, i < c.clauses.length → (Es.at_ c.clauses (i : Int)).kind ≠ 4 → 0 ≤ (Es.at_ c.clauses (i : Int)).role ∧ (Es.at_ c.clauses (i : Int)).role < Es.len s.holders
theorem setC_mrkA {ms : List Es.Mark} {r : Nat} (hr : r < ms.length) (a b d e : Int) (f : Bool) : setC (rowsOf mrkC ms) r 0 [.v (.int .i64 a), .v (.int .i64 b), .v (.int .i64 d), .v (.int .i64 e), .v (.bool f)] = rowsOf mrkC (ms.set r ⟨a, b, d, e, f⟩) := by
  funext r' c'
  simp only [setC, rowsOf, List.length_cons, List.length_nil]
  by_cases hrr : r' = r
  · subst hrr
    simp only [List.getD_eq_getElem?_getD, List.getElem?_set, hr, if_true, Option.getD_some, true_and]
    rcases c' with _ | _ | _ | _ | _ | c' <;> first | rfl | (rw [if_neg (by omega)]; rfl)
  · rw [if_neg (by omega)]
    simp only [List.getD_eq_getElem?_getD, List.getElem?_set, if_neg (Ne.symm hrr)]
/-- What holds of the store while clauses start. -/
structure BInv (o : St) (nx : Nat) (c : Es.Contract) (s : Es.State) (fh fu fm : Nat) (tm ct sx : TypeId) (ms : List Es.Mark) (st : S) : Prop where
  nxt : nx + 2 ≤ st.nx
  con : st.o nx 0 = some (.blk 7 1 ct (rowOf [.v (.int .i64 c.parties), slD 1 intC c.holders, slD 5 untC c.units, slD 7 actC c.acts, slD 16 clsC c.clauses, .v (.int .i64 c.days), slD 1 intC c.off]))
  sta : st.o (nx + 1) 0 = some (.blk 4 1 sx (rowOf [.v (.int .i64 s.day), .ms fh 0 1 0 s.holders.length, .ms fu 0 1 0 s.used.length, .ms fm 0 5 0 s.marks.length]))
  len : ms.length = s.marks.length
  mrk : st.o fm 0 = some (.blk 5 s.marks.length tm (rowsOf mrkC ms))
  old : ∀ f i, f < nx → ¬ (f = fm ∧ i = 0) → st.o f i = o f i
theorem begin_spec (X : D → Value → Prop) (N : Nat) (r : Option Nat) (b : Nat) (c : Es.Contract) (s : Es.State) (fh fu fm : Nat) (th tu tm : TypeId) (o : St) (nx : Nat) (K : D → S → Prop) (hs : HasSt o fh fu fm th tu tm s) (hx : fh < nx ∧ fu < nx ∧ fm < nx ∧ fh ≠ fm ∧ fu ≠ fm)
    (hF : Fine c s) (hl : c.clauses.length ≤ 400) (hk : ∀ o' nx', Wrote o nx fm tm (Es.begin_ c s).marks o' nx' → K (.tup []) ⟨o', nx'⟩) :
    ACall { P := prog, G := gl, X := X, N := N, r := r, b := b } 46 [conD c, stO s.day fh s.holders.length fu s.used.length fm s.marks.length] ⟨o, nx⟩ K := by
  refine acall_ofA (M := { P := prog, G := gl, X := X, N := N, r := r, b := b }) func46 rfl results46 ntmps46 (by simp) fun b => ?_
  simp only [go_sem, ↓reduceIte, decide_eq_true_eq, reduceCtorEq, Nat.reduceEqDiff, Nat.reduceLT, Nat.reduceLeDiff, Nat.reduceAdd, Nat.reduceSub, Nat.reduceMul, Nat.reduceGT, Int.reduceNeg, Int.reduceToNat, and_true, true_and, and_false, false_and, List.getElem?_toArray, List.getElem?_cons_zero, List.getElem?_cons_succ, List.cons_append, List.nil_append, if_true, if_false, Option.getD_some, Option.isSome_some, Bool.false_eq_true, List.append_nil, List.drop_zero, List.drop_succ_cons, Bool.cond_false_right, Bool.cond_false_left, Bool.cond_true_left, Bool.cond_true_right, ite_self, Bool.not_true, Bool.not_false, cond_true, cond_false, List.size_toArray, implies_true, true_implies, false_implies, List.all_cons, List.all_nil, List.nodup_cons, List.nodup_nil, List.mem_cons, List.not_mem_nil, or_false, false_or, not_false_eq_true, decide_true, Bool.and_true, Bool.and_self]
  have g1 : (nx = nx + 1) = False := by simp only [eq_iff_iff, iff_false]; omega
  refine awp_loopA (fun n e st => ∃ (ms : List Es.Mark) (q : Bool), e 2 = .mp nx 0 7 0 0 ∧ e 3 = .mp (nx + 1) 0 4 0 0 ∧ e 4 = .v (.bool q) ∧ BInv o nx c s fh fu fm tm 27 40 ms st ∧
      (if q = true then n = Es.idle ms + 1 ∧ Es.begin_ c { s with marks := ms } = Es.begin_ c s else n = 0 ∧ ms = (Es.begin_ c s).marks)) ?_ (n := Es.idle s.marks + 1) ?_
  · rintro n e ⟨o1, nx1⟩ ⟨ms, q, h2, h3, h4, hI, hq⟩
    have hb1 := hI.nxt
    have hb2 := hI.con
    have hb3 := hI.sta
    have hb4 := hI.mrk
    have hb5 := hI.len
    simp only at hb1 hb2 hb3 hb4
    cases q with
    | false =>
      simp only [Bool.false_eq_true, if_false] at hq
      obtain ⟨rfl, hms⟩ := hq
      simp only [go_sem, ↓reduceIte, decide_eq_true_eq, reduceCtorEq, Nat.reduceEqDiff, Nat.reduceLT, Nat.reduceLeDiff, Nat.reduceAdd, Nat.reduceSub, Nat.reduceMul, Nat.reduceGT, Int.reduceNeg, Int.reduceToNat, and_true, true_and, and_false, false_and, List.getElem?_toArray, List.getElem?_cons_zero, List.getElem?_cons_succ, List.cons_append, List.nil_append, if_true, if_false, Option.getD_some, Option.isSome_some, Bool.false_eq_true, List.append_nil, List.drop_zero, List.drop_succ_cons, Bool.cond_false_right, Bool.cond_false_left, Bool.cond_true_left, Bool.cond_true_right, ite_self, Bool.not_true, Bool.not_false, cond_true, cond_false, List.size_toArray, implies_true, true_implies, false_implies, List.all_cons, List.all_nil, List.nodup_cons, List.nodup_nil, List.mem_cons, List.not_mem_nil, or_false, false_or, not_false_eq_true, decide_true, Bool.and_true, Bool.and_self, h2, h3, h4]
      refine hk _ _ ⟨by omega, ?_, hI.old⟩
      rw [← hms, hb4, hb5]
    | true =>
      simp only [if_true] at hq
      obtain ⟨rfl, hbeg⟩ := hq
      simp only [go_sem, ↓reduceIte, decide_eq_true_eq, reduceCtorEq, Nat.reduceEqDiff, Nat.reduceLT, Nat.reduceLeDiff, Nat.reduceAdd, Nat.reduceSub, Nat.reduceMul, Nat.reduceGT, Int.reduceNeg, Int.reduceToNat, and_true, true_and, and_false, false_and, List.getElem?_toArray, List.getElem?_cons_zero, List.getElem?_cons_succ, List.cons_append, List.nil_append, if_true, if_false, Option.getD_some, Option.isSome_some, Bool.false_eq_true, List.append_nil, List.drop_zero, List.drop_succ_cons, Bool.cond_false_right, Bool.cond_false_left, Bool.cond_true_left, Bool.cond_true_right, ite_self, Bool.not_true, Bool.not_false, cond_true, cond_false, List.size_toArray, implies_true, true_implies, false_implies, List.all_cons, List.all_nil, List.nodup_cons, List.nodup_nil, List.mem_cons, List.not_mem_nil, or_false, false_or, not_false_eq_true, decide_true, Bool.and_true, Bool.and_self, h2, h3, h4, hb2, hb3]
      refine awp_count0 c.clauses.length (fun e0 s0 k e st => ∃ (ms1 : List Es.Mark) (q1 : Bool), Es.pass c { s with marks := ms } k = (ms1, q1) ∧ e 2 = e0 2 ∧ e 3 = e0 3 ∧ e 9 = e0 9 ∧ e 10 = e0 10 ∧ e 11 = .v (.int .i64 k) ∧ e 4 = .v (.bool q1) ∧ BInv o nx c s fh fu fm tm 27 40 ms1 st) ⟨ms, false, rfl, rfl, rfl, rfl, rfl, ?_, ?_, hI⟩ ?_
      · simp only [go_sem, ↓reduceIte, decide_eq_true_eq, reduceCtorEq, Nat.reduceEqDiff, Nat.reduceLT, Nat.reduceLeDiff, Nat.reduceAdd, Nat.reduceSub, Nat.reduceMul, Nat.reduceGT, Int.reduceNeg, Int.reduceToNat, and_true, true_and, and_false, false_and, List.getElem?_toArray, List.getElem?_cons_zero, List.getElem?_cons_succ, List.cons_append, List.nil_append, if_true, if_false, Option.getD_some, Option.isSome_some, Bool.false_eq_true, List.append_nil, List.drop_zero, List.drop_succ_cons, Bool.cond_false_right, Bool.cond_false_left, Bool.cond_true_left, Bool.cond_true_right, ite_self, Bool.not_true, Bool.not_false, cond_true, cond_false, List.size_toArray, implies_true, true_implies, false_implies, List.all_cons, List.all_nil, List.nodup_cons, List.nodup_nil, List.mem_cons, List.not_mem_nil, or_false, false_or, not_false_eq_true, decide_true, Bool.and_true, Bool.and_self]; rfl
      · simp only [go_sem, ↓reduceIte, decide_eq_true_eq, reduceCtorEq, Nat.reduceEqDiff, Nat.reduceLT, Nat.reduceLeDiff, Nat.reduceAdd, Nat.reduceSub, Nat.reduceMul, Nat.reduceGT, Int.reduceNeg, Int.reduceToNat, and_true, true_and, and_false, false_and, List.getElem?_toArray, List.getElem?_cons_zero, List.getElem?_cons_succ, List.cons_append, List.nil_append, if_true, if_false, Option.getD_some, Option.isSome_some, Bool.false_eq_true, List.append_nil, List.drop_zero, List.drop_succ_cons, Bool.cond_false_right, Bool.cond_false_left, Bool.cond_true_left, Bool.cond_true_right, ite_self, Bool.not_true, Bool.not_false, cond_true, cond_false, List.size_toArray, implies_true, true_implies, false_implies, List.all_cons, List.all_nil, List.nodup_cons, List.nodup_nil, List.mem_cons, List.not_mem_nil, or_false, false_or, not_false_eq_true, decide_true, Bool.and_true, Bool.and_self]
      rintro k e' ⟨o2, nx2⟩ hk2 ⟨ms1, q1, hp, a2, a3, a9, a10, a11, a4, hJ⟩
      simp only [go_sem, ↓reduceIte, decide_eq_true_eq, reduceCtorEq, Nat.reduceEqDiff, Nat.reduceLT, Nat.reduceLeDiff, Nat.reduceAdd, Nat.reduceSub, Nat.reduceMul, Nat.reduceGT, Int.reduceNeg, Int.reduceToNat, and_true, true_and, and_false, false_and, List.getElem?_toArray, List.getElem?_cons_zero, List.getElem?_cons_succ, List.cons_append, List.nil_append, if_true, if_false, Option.getD_some, Option.isSome_some, Bool.false_eq_true, List.append_nil, List.drop_zero, List.drop_succ_cons, Bool.cond_false_right, Bool.cond_false_left, Bool.cond_true_left, Bool.cond_true_right, ite_self, Bool.not_true, Bool.not_false, cond_true, cond_false, List.size_toArray, implies_true, true_implies, false_implies, List.all_cons, List.all_nil, List.nodup_cons, List.nodup_nil, List.mem_cons, List.not_mem_nil, or_false, false_or, not_false_eq_true, decide_true, Bool.and_true, Bool.and_self, h2, h3] at a2 a3 a9 a10
      have c1 := hJ.nxt
      have c2 := hJ.con
      have c3 := hJ.sta
      have c4 := hJ.mrk
      have c5 := hJ.len
      simp only at c1 c2 c3 c4
      have m0 : (nx = nx2) = False := by simp only [eq_iff_iff, iff_false]; omega
      have m1 : (nx + 1 = nx2) = False := by simp only [eq_iff_iff, iff_false]; omega
      have m2 : (fm = nx2) = False := by simp only [eq_iff_iff, iff_false]; omega
      have m3 : (nx2 = fm) = False := by simp only [eq_iff_iff, iff_false]; omega
      have m4 : (nx = fm) = False := by simp only [eq_iff_iff, iff_false]; omega
      have m5 : (nx + 1 = fm) = False := by simp only [eq_iff_iff, iff_false]; omega
      simp only [go_sem, ↓reduceIte, decide_eq_true_eq, reduceCtorEq, Nat.reduceEqDiff, Nat.reduceLT, Nat.reduceLeDiff, Nat.reduceAdd, Nat.reduceSub, Nat.reduceMul, Nat.reduceGT, Int.reduceNeg, Int.reduceToNat, and_true, true_and, and_false, false_and, List.getElem?_toArray, List.getElem?_cons_zero, List.getElem?_cons_succ, List.cons_append, List.nil_append, if_true, if_false, Option.getD_some, Option.isSome_some, Bool.false_eq_true, List.append_nil, List.drop_zero, List.drop_succ_cons, Bool.cond_false_right, Bool.cond_false_left, Bool.cond_true_left, Bool.cond_true_right, ite_self, Bool.not_true, Bool.not_false, cond_true, cond_false, List.size_toArray, implies_true, true_implies, false_implies, List.all_cons, List.all_nil, List.nodup_cons, List.nodup_nil, List.mem_cons, List.not_mem_nil, or_false, false_or, not_false_eq_true, decide_true, Bool.and_true, Bool.and_self, a2, a3, a9, a10, a11, a4, c2, c3, c4, m0, m1, m2, m3]
      refine ite_cases (fun hlt => ?_) (fun hlt => ?_)
      · have hlt' : k < c.clauses.length := Es.len_lt.1 hlt
        have hlm : k < ms1.length := by have := hF.len; omega
        refine ⟨⟨by omega, hlt⟩, ?_⟩
        have hst := hF.cond k hlt'
        have hml : Es.len ms1 = Es.len c.clauses := by have := hF.len; simp only [Es.len]; omega
        have hr := ready_spec c { s with marks := ms1 } k ⟨by omega, Es.len_lt.2 hlm⟩ hlt (fun x hx => by rw [show Es.len ({ s with marks := ms1 } : Es.State).marks = Es.len c.clauses from hml]; exact hst.2 x hx) (by have := hst.1; simp only [Es.len] at this; omega)
        have hold : ∀ f, f < nx → f ≠ fm → ∀ B, St.set o2 nx2 0 B f 0 = o f 0 := fun f hf hne B => by
          simp only [St.set]; rw [if_neg (by omega)]; exact hJ.old f 0 hf (by omega)
        have hH : ∀ B, HasSt (St.set o2 nx2 0 B) fh fu fm th tu tm { s with marks := ms1 } := fun B =>
          ⟨(hold fh hx.1 hx.2.2.2.1 B).trans hs.h, (hold fu hx.2.1 hx.2.2.2.2 B).trans hs.u, by simp only [St.set]; rw [if_neg (by omega), c4, c5]⟩
        refine lend_at M_P M_G hr gpu (.v _) ⟨(pu_conD _).fz, c5 ▸ (hH _).fz, .v _, trivial⟩ ?_
        simp only [go_sem, ↓reduceIte, decide_eq_true_eq, reduceCtorEq, Nat.reduceEqDiff, Nat.reduceLT, Nat.reduceLeDiff, Nat.reduceAdd, Nat.reduceSub, Nat.reduceMul, Nat.reduceGT, Int.reduceNeg, Int.reduceToNat, and_true, true_and, and_false, false_and, List.getElem?_toArray, List.getElem?_cons_zero, List.getElem?_cons_succ, List.cons_append, List.nil_append, if_true, if_false, Option.getD_some, Option.isSome_some, Bool.false_eq_true, List.append_nil, List.drop_zero, List.drop_succ_cons, Bool.cond_false_right, Bool.cond_false_left, Bool.cond_true_left, Bool.cond_true_right, ite_self, Bool.not_true, Bool.not_false, cond_true, cond_false, List.size_toArray, implies_true, true_implies, false_implies, List.all_cons, List.all_nil, List.nodup_cons, List.nodup_nil, List.mem_cons, List.not_mem_nil, or_false, false_or, not_false_eq_true, decide_true, Bool.and_true, Bool.and_self, a2, a3, a9, a10, a11, a4, c2, c3, c4, m0, m1, m2, m3]
        have hJ2 : ∀ B, BInv o nx c s fh fu fm tm 27 40 ms1 ⟨St.set o2 nx2 0 B, nx2 + 1⟩ := fun B => ⟨by simp only; omega, by simp only [St.set]; rw [if_neg (by omega)]; exact c2, by simp only [St.set]; rw [if_neg (by omega)]; exact c3, c5,
          by simp only [St.set]; rw [if_neg (by omega)]; exact c4, fun f j hf hne => by simp only [St.set]; rw [if_neg (by omega)]; exact hJ.old f j hf hne⟩
        refine ite_cases (fun hrd => ?_) (fun hrd => ?_)
        · refine ⟨hlt', ms1, q1, ?_, ?_⟩
          · rw [Es.pass_succ, hp]; unfold Es.stepB; rw [if_neg (by simpa using hrd)]
          · simp only [go_sem, ↓reduceIte, decide_eq_true_eq, reduceCtorEq, Nat.reduceEqDiff, Nat.reduceLT, Nat.reduceLeDiff, Nat.reduceAdd, Nat.reduceSub, Nat.reduceMul, Nat.reduceGT, Int.reduceNeg, Int.reduceToNat, and_true, true_and, and_false, false_and, List.getElem?_toArray, List.getElem?_cons_zero, List.getElem?_cons_succ, List.cons_append, List.nil_append, if_true, if_false, Option.getD_some, Option.isSome_some, Bool.false_eq_true, List.append_nil, List.drop_zero, List.drop_succ_cons, Bool.cond_false_right, Bool.cond_false_left, Bool.cond_true_left, Bool.cond_true_right, ite_self, Bool.not_true, Bool.not_false, cond_true, cond_false, List.size_toArray, implies_true, true_implies, false_implies, List.all_cons, List.all_nil, List.nodup_cons, List.nodup_nil, List.mem_cons, List.not_mem_nil, or_false, false_or, not_false_eq_true, decide_true, Bool.and_true, Bool.and_self, h2, h3, a2, a3, a9, a10, a11, a4]
            exact ⟨by rw [wrap_i64 _ (by omega) (by omega)]; simp, hJ2 _⟩
        · have hrd' : Es.ready c { s with marks := ms1 } k = true := by simpa using hrd
          have hlm' : k < s.marks.length := by omega
          simp only [Nat.zero_add, Int.toNat_natCast, setC_mrkA hlm]
          have hJ3 : ∀ B (m : Es.Mark), BInv o nx c s fh fu fm tm 27 40 (ms1.set k m) ⟨St.set (St.set o2 nx2 0 B) fm 0 (some (.blk 5 s.marks.length tm (rowsOf mrkC (ms1.set k m)))), nx2 + 1⟩ := fun B m => ⟨by simp only; omega,
            by simp only [St.set]; rw [if_neg (by omega), if_neg (by omega)]; exact c2, by simp only [St.set]; rw [if_neg (by omega), if_neg (by omega)]; exact c3, by simpa using c5,
            by simp [St.set], fun f j hf hne => by simp only [St.set]; rw [if_neg hne, if_neg (by omega)]; exact hJ.old f j hf hne⟩
          have hps : ∀ m, m = Es.startMark c { s with marks := ms } (k : Int) → Es.pass c { s with marks := ms } (k + 1) = (ms1.set k m, true) := fun m hm => by
            rw [Es.pass_succ, hp]; unfold Es.stepB; rw [if_pos hrd', hm]
          refine ⟨⟨by omega, by omega⟩, hlm', ?_⟩
          refine ite_cases (fun hkd => ?_) (fun hkd => ?_)
          · have hrole := hF.role k hlt' (by simpa using hkd)
            refine awp_plan ((.op 0 (.op 1 (.op 2 (.op 3 (.op 4 (.op 5 (.op 6 (.op 7 (.op 8 (.op 9 (.op 10 (.op 11 .done))))))))))))) [11] mix (by kernel_rfl) ?_
            have hoh : ∀ B B', St.set (St.set o2 nx2 0 B) fm 0 B' fh 0 = some (.blk 1 s.holders.length th (rowsOf intC s.holders)) := fun B B' => by
              simp only [St.set]; rw [if_neg (by omega), if_neg (by omega)]; exact (hJ.old fh 0 hx.1 (by omega)).trans hs.h
            have hlk : k < (ms1.set k ⟨1, (Es.at_ c.clauses (k : Int)).after, 0, -1, false⟩).length := by simpa using hlm
            simp only [go_sem, ↓reduceIte, decide_eq_true_eq, reduceCtorEq, Nat.reduceEqDiff, Nat.reduceLT, Nat.reduceLeDiff, Nat.reduceAdd, Nat.reduceSub, Nat.reduceMul, Nat.reduceGT, Int.reduceNeg, Int.reduceToNat, and_true, true_and, and_false, false_and, List.getElem?_toArray, List.getElem?_cons_zero, List.getElem?_cons_succ, List.cons_append, List.nil_append, if_true, if_false, Option.getD_some, Option.isSome_some, Bool.false_eq_true, List.append_nil, List.drop_zero, List.drop_succ_cons, Bool.cond_false_right, Bool.cond_false_left, Bool.cond_true_left, Bool.cond_true_right, ite_self, Bool.not_true, Bool.not_false, cond_true, cond_false, List.size_toArray, implies_true, true_implies, false_implies, List.all_cons, List.all_nil, List.nodup_cons, List.nodup_nil, List.mem_cons, List.not_mem_nil, or_false, false_or, not_false_eq_true, decide_true, Bool.and_true, Bool.and_self, a2, a3, a9, a10, a11, a4, c2, c3, c4, m0, m1, m2, m3, m4, m5, hoh, Nat.zero_add, Int.toNat_natCast]
            have hat : Es.at_ s.holders (((Es.at_ c.clauses (k : Int)).role.toNat : Nat) : Int) = Es.at_ s.holders (Es.at_ c.clauses (k : Int)).role := by
              generalize (Es.at_ c.clauses (k : Int)).role = rl
              unfold Es.at_; rw [Int.toNat_natCast]
            simp only [setC_mrk3 hlk, at_set hlm, List.set_set, hat]
            refine ⟨⟨hrole.1, by have := hrole.2; simp only [Es.len] at this; exact this⟩, by have := hrole.2; simp only [Es.len] at this; omega, ⟨by omega, by omega⟩, hlm', hlt', _, _, hps ⟨1, (Es.at_ c.clauses (k : Int)).after, 0, Es.at_ s.holders (Es.at_ c.clauses (k : Int)).role, false⟩ ?_, ?_⟩
            · unfold Es.startMark; rw [if_pos hkd]
            · simp only [go_sem, ↓reduceIte, decide_eq_true_eq, reduceCtorEq, Nat.reduceEqDiff, Nat.reduceLT, Nat.reduceLeDiff, Nat.reduceAdd, Nat.reduceSub, Nat.reduceMul, Nat.reduceGT, Int.reduceNeg, Int.reduceToNat, and_true, true_and, and_false, false_and, List.getElem?_toArray, List.getElem?_cons_zero, List.getElem?_cons_succ, List.cons_append, List.nil_append, if_true, if_false, Option.getD_some, Option.isSome_some, Bool.false_eq_true, List.append_nil, List.drop_zero, List.drop_succ_cons, Bool.cond_false_right, Bool.cond_false_left, Bool.cond_true_left, Bool.cond_true_right, ite_self, Bool.not_true, Bool.not_false, cond_true, cond_false, List.size_toArray, implies_true, true_implies, false_implies, List.all_cons, List.all_nil, List.nodup_cons, List.nodup_nil, List.mem_cons, List.not_mem_nil, or_false, false_or, not_false_eq_true, decide_true, Bool.and_true, Bool.and_self, h2, h3, a2, a3, a9, a10, a11, a4]
              exact ⟨by rw [wrap_i64 _ (by omega) (by omega)]; simp, hJ3 _ _⟩
          · refine ⟨hlt', _, _, hps ⟨1, (Es.at_ c.clauses (k : Int)).after, 0, -1, false⟩ ?_, ?_⟩
            · unfold Es.startMark; rw [if_neg hkd]
            · simp only [go_sem, ↓reduceIte, decide_eq_true_eq, reduceCtorEq, Nat.reduceEqDiff, Nat.reduceLT, Nat.reduceLeDiff, Nat.reduceAdd, Nat.reduceSub, Nat.reduceMul, Nat.reduceGT, Int.reduceNeg, Int.reduceToNat, and_true, true_and, and_false, false_and, List.getElem?_toArray, List.getElem?_cons_zero, List.getElem?_cons_succ, List.cons_append, List.nil_append, if_true, if_false, Option.getD_some, Option.isSome_some, Bool.false_eq_true, List.append_nil, List.drop_zero, List.drop_succ_cons, Bool.cond_false_right, Bool.cond_false_left, Bool.cond_true_left, Bool.cond_true_right, ite_self, Bool.not_true, Bool.not_false, cond_true, cond_false, List.size_toArray, implies_true, true_implies, false_implies, List.all_cons, List.all_nil, List.nodup_cons, List.nodup_nil, List.mem_cons, List.not_mem_nil, or_false, false_or, not_false_eq_true, decide_true, Bool.and_true, Bool.and_self, h2, h3, a2, a3, a9, a10, a11, a4]
              exact ⟨by rw [wrap_i64 _ (by omega) (by omega)]; simp, hJ3 _ _⟩
      · have hkk : k = c.clauses.length := by simp only [Es.len] at hlt; omega
        subst hkk
        have hpi := Es.pass_idle c { s with marks := ms } c.clauses.length (by have := hF.len; simp only; omega)
        rw [hp] at hpi
        cases q1 with
        | true =>
          refine ⟨Es.idle ms1 + 1, by have := hpi.2; simp only [if_true] at this; omega, ms1, true, ?_⟩
          simp only [go_sem, ↓reduceIte, decide_eq_true_eq, reduceCtorEq, Nat.reduceEqDiff, Nat.reduceLT, Nat.reduceLeDiff, Nat.reduceAdd, Nat.reduceSub, Nat.reduceMul, Nat.reduceGT, Int.reduceNeg, Int.reduceToNat, and_true, true_and, and_false, false_and, List.getElem?_toArray, List.getElem?_cons_zero, List.getElem?_cons_succ, List.cons_append, List.nil_append, if_true, if_false, Option.getD_some, Option.isSome_some, Bool.false_eq_true, List.append_nil, List.drop_zero, List.drop_succ_cons, Bool.cond_false_right, Bool.cond_false_left, Bool.cond_true_left, Bool.cond_true_right, ite_self, Bool.not_true, Bool.not_false, cond_true, cond_false, List.size_toArray, implies_true, true_implies, false_implies, List.all_cons, List.all_nil, List.nodup_cons, List.nodup_nil, List.mem_cons, List.not_mem_nil, or_false, false_or, not_false_eq_true, decide_true, Bool.and_true, Bool.and_self, h2, h3, a2, a3, a9, a10, a11, a4]
          refine ⟨hJ, ?_⟩
          have := Es.beginF_step (c := c) (s := { s with marks := ms }) (by have := hF.len; simp only; omega) (by rw [hp])
          rw [hp] at this
          rw [← hbeg, this]
        | false =>
          refine ⟨0, by omega, ms1, false, ?_⟩
          simp only [go_sem, ↓reduceIte, decide_eq_true_eq, reduceCtorEq, Nat.reduceEqDiff, Nat.reduceLT, Nat.reduceLeDiff, Nat.reduceAdd, Nat.reduceSub, Nat.reduceMul, Nat.reduceGT, Int.reduceNeg, Int.reduceToNat, and_true, true_and, and_false, false_and, List.getElem?_toArray, List.getElem?_cons_zero, List.getElem?_cons_succ, List.cons_append, List.nil_append, if_true, if_false, Option.getD_some, Option.isSome_some, Bool.false_eq_true, List.append_nil, List.drop_zero, List.drop_succ_cons, Bool.cond_false_right, Bool.cond_false_left, Bool.cond_true_left, Bool.cond_true_right, ite_self, Bool.not_true, Bool.not_false, cond_true, cond_false, List.size_toArray, implies_true, true_implies, false_implies, List.all_cons, List.all_nil, List.nodup_cons, List.nodup_nil, List.mem_cons, List.not_mem_nil, or_false, false_or, not_false_eq_true, decide_true, Bool.and_true, Bool.and_self, h2, h3, a2, a3, a9, a10, a11, a4]
          refine ⟨hJ, ?_⟩
          have := Es.begin_done (c := c) (s := { s with marks := ms }) (by rw [hp])
          rw [hp] at this
          rw [← hbeg, this]
  · refine ⟨s.marks, true, by simp only [go_sem, ↓reduceIte, decide_eq_true_eq, reduceCtorEq, Nat.reduceEqDiff, Nat.reduceLT, Nat.reduceLeDiff, Nat.reduceAdd, Nat.reduceSub, Nat.reduceMul, Nat.reduceGT, Int.reduceNeg, Int.reduceToNat, and_true, true_and, and_false, false_and, List.getElem?_toArray, List.getElem?_cons_zero, List.getElem?_cons_succ, List.cons_append, List.nil_append, if_true, if_false, Option.getD_some, Option.isSome_some, Bool.false_eq_true, List.append_nil, List.drop_zero, List.drop_succ_cons, Bool.cond_false_right, Bool.cond_false_left, Bool.cond_true_left, Bool.cond_true_right, ite_self, Bool.not_true, Bool.not_false, cond_true, cond_false, List.size_toArray, implies_true, true_implies, false_implies, List.all_cons, List.all_nil, List.nodup_cons, List.nodup_nil, List.mem_cons, List.not_mem_nil, or_false, false_or, not_false_eq_true, decide_true, Bool.and_true, Bool.and_self], by simp only [go_sem, ↓reduceIte, decide_eq_true_eq, reduceCtorEq, Nat.reduceEqDiff, Nat.reduceLT, Nat.reduceLeDiff, Nat.reduceAdd, Nat.reduceSub, Nat.reduceMul, Nat.reduceGT, Int.reduceNeg, Int.reduceToNat, and_true, true_and, and_false, false_and, List.getElem?_toArray, List.getElem?_cons_zero, List.getElem?_cons_succ, List.cons_append, List.nil_append, if_true, if_false, Option.getD_some, Option.isSome_some, Bool.false_eq_true, List.append_nil, List.drop_zero, List.drop_succ_cons, Bool.cond_false_right, Bool.cond_false_left, Bool.cond_true_left, Bool.cond_true_right, ite_self, Bool.not_true, Bool.not_false, cond_true, cond_false, List.size_toArray, implies_true, true_implies, false_implies, List.all_cons, List.all_nil, List.nodup_cons, List.nodup_nil, List.mem_cons, List.not_mem_nil, or_false, false_or, not_false_eq_true, decide_true, Bool.and_true, Bool.and_self], by simp only [go_sem, ↓reduceIte, decide_eq_true_eq, reduceCtorEq, Nat.reduceEqDiff, Nat.reduceLT, Nat.reduceLeDiff, Nat.reduceAdd, Nat.reduceSub, Nat.reduceMul, Nat.reduceGT, Int.reduceNeg, Int.reduceToNat, and_true, true_and, and_false, false_and, List.getElem?_toArray, List.getElem?_cons_zero, List.getElem?_cons_succ, List.cons_append, List.nil_append, if_true, if_false, Option.getD_some, Option.isSome_some, Bool.false_eq_true, List.append_nil, List.drop_zero, List.drop_succ_cons, Bool.cond_false_right, Bool.cond_false_left, Bool.cond_true_left, Bool.cond_true_right, ite_self, Bool.not_true, Bool.not_false, cond_true, cond_false, List.size_toArray, implies_true, true_implies, false_implies, List.all_cons, List.all_nil, List.nodup_cons, List.nodup_nil, List.mem_cons, List.not_mem_nil, or_false, false_or, not_false_eq_true, decide_true, Bool.and_true, Bool.and_self], ⟨by simp, ?_, ?_, rfl, ?_, ?_⟩, by simp⟩
    · simp only [St.set]; rw [if_neg (by omega), if_pos ⟨trivial, trivial⟩]
    · simp only [St.set]; rw [if_pos ⟨trivial, trivial⟩]
    · simp only [St.set]; rw [if_neg (by omega), if_neg (by omega)]; exact hs.m
    · intro f j hf hne
      simp only [St.set]; rw [if_neg (by omega), if_neg (by omega)]
end Tryd
end Go.Proofs
end
section
namespace Go.Proofs
open Go Go.Abs
set_option linter.unusedSimpArgs false
set_option maxRecDepth 10000
namespace Tryd
theorem sclone_spec (X : D → Value → Prop) (N : Nat) (r : Option Nat) (b : Nat) (s : Es.State) (hl : s.holders.length ≤ 1000000000 ∧ s.used.length ≤ 1000000000 ∧ s.marks.length ≤ 1000000000) (o : St) (nx : Nat) (K : D → S → Prop) (hw : WfO o nx)
    (hk : ∀ o' nx' fh fu fm th tu tm, nx ≤ fh ∧ fh < nx' ∧ nx ≤ fu ∧ fu < nx' ∧ nx ≤ fm ∧ fm < nx' ∧ fh ≠ fm ∧ fu ≠ fm ∧ fh ≠ fu → SameB nx o o' → WfO o' nx' → HasSt o' fh fu fm th tu tm s →
      K (stO s.day fh s.holders.length fu s.used.length fm s.marks.length) ⟨o', nx'⟩) :
    ACall { P := prog, G := gl, X := X, N := N, r := r, b := b } 48 [staD s] ⟨o, nx⟩ K := by
  refine acall_ofA (M := { P := prog, G := gl, X := X, N := N, r := r, b := b }) func48 rfl results48 ntmps48 (by simp) fun b => ?_
  simp only [go_sem, ↓reduceIte, decide_eq_true_eq, reduceCtorEq, Nat.reduceEqDiff, Nat.reduceLT, Nat.reduceLeDiff, Nat.reduceAdd, Nat.reduceSub, Nat.reduceMul, Nat.reduceGT, Int.reduceNeg, Int.reduceToNat, and_true, true_and, and_false, false_and, List.getElem?_toArray, List.getElem?_cons_zero, List.getElem?_cons_succ, List.cons_append, List.nil_append, if_true, if_false, Option.getD_some, Option.isSome_some, Bool.false_eq_true, List.append_nil, List.drop_zero, List.drop_succ_cons, Bool.cond_false_right, Bool.cond_false_left, Bool.cond_true_left, Bool.cond_true_right, ite_self, Bool.not_true, Bool.not_false, cond_true, cond_false, List.size_toArray, implies_true, true_implies, false_implies, List.all_cons, List.all_nil, List.nodup_cons, List.nodup_nil, List.mem_cons, List.not_mem_nil, or_false, false_or, not_false_eq_true, decide_true, Bool.and_true, Bool.and_self]
  have g1 : (nx = nx + 1) = False := by simp only [eq_iff_iff, iff_false]; omega
  refine awp_plan ((.op 0 (.op 1 (.op 3 (.op 4 (.op 6 (.op 7 (.op 2 (.op 9 (.op 5 (.op 8 (.op 10 (.op 11 (.op 12 (.op 13 (.op 14 .done)))))))))))))))) [10, 12, 14] mix (by kernel_rfl) ?_
  simp only [go_sem, ↓reduceIte, decide_eq_true_eq, reduceCtorEq, Nat.reduceEqDiff, Nat.reduceLT, Nat.reduceLeDiff, Nat.reduceAdd, Nat.reduceSub, Nat.reduceMul, Nat.reduceGT, Int.reduceNeg, Int.reduceToNat, and_true, true_and, and_false, false_and, List.getElem?_toArray, List.getElem?_cons_zero, List.getElem?_cons_succ, List.cons_append, List.nil_append, if_true, if_false, Option.getD_some, Option.isSome_some, Bool.false_eq_true, List.append_nil, List.drop_zero, List.drop_succ_cons, Bool.cond_false_right, Bool.cond_false_left, Bool.cond_true_left, Bool.cond_true_right, ite_self, Bool.not_true, Bool.not_false, cond_true, cond_false, List.size_toArray, implies_true, true_implies, false_implies, List.all_cons, List.all_nil, List.nodup_cons, List.nodup_nil, List.mem_cons, List.not_mem_nil, or_false, false_or, not_false_eq_true, decide_true, Bool.and_true, Bool.and_self, g1]
  have hw0 : ∀ B B', WfO (St.set (St.set o nx 0 B) (nx + 1) 0 B') (nx + 1 + 1) := fun B B' => (hw.set (nx' := nx + 1) (by omega) (by omega)).set (by omega) (by omega)
  refine cloneI_spec _ _ _ _ s.holders hl.1 _ _ _ (hw0 _ _) fun o1 n1 f1 t1 p1 p1' q1 w1 r1 => ?_
  have a0 := q1 nx 0 (by omega)
  have a1 := q1 (nx + 1) 0 (by omega)
  simp only [go_sem, ↓reduceIte, decide_eq_true_eq, reduceCtorEq, Nat.reduceEqDiff, Nat.reduceLT, Nat.reduceLeDiff, Nat.reduceAdd, Nat.reduceSub, Nat.reduceMul, Nat.reduceGT, Int.reduceNeg, Int.reduceToNat, and_true, true_and, and_false, false_and, List.getElem?_toArray, List.getElem?_cons_zero, List.getElem?_cons_succ, List.cons_append, List.nil_append, if_true, if_false, Option.getD_some, Option.isSome_some, Bool.false_eq_true, List.append_nil, List.drop_zero, List.drop_succ_cons, Bool.cond_false_right, Bool.cond_false_left, Bool.cond_true_left, Bool.cond_true_right, ite_self, Bool.not_true, Bool.not_false, cond_true, cond_false, List.size_toArray, implies_true, true_implies, false_implies, List.all_cons, List.all_nil, List.nodup_cons, List.nodup_nil, List.mem_cons, List.not_mem_nil, or_false, false_or, not_false_eq_true, decide_true, Bool.and_true, Bool.and_self, g1] at a0 a1
  simp only [go_sem, ↓reduceIte, decide_eq_true_eq, reduceCtorEq, Nat.reduceEqDiff, Nat.reduceLT, Nat.reduceLeDiff, Nat.reduceAdd, Nat.reduceSub, Nat.reduceMul, Nat.reduceGT, Int.reduceNeg, Int.reduceToNat, and_true, true_and, and_false, false_and, List.getElem?_toArray, List.getElem?_cons_zero, List.getElem?_cons_succ, List.cons_append, List.nil_append, if_true, if_false, Option.getD_some, Option.isSome_some, Bool.false_eq_true, List.append_nil, List.drop_zero, List.drop_succ_cons, Bool.cond_false_right, Bool.cond_false_left, Bool.cond_true_left, Bool.cond_true_right, ite_self, Bool.not_true, Bool.not_false, cond_true, cond_false, List.size_toArray, implies_true, true_implies, false_implies, List.all_cons, List.all_nil, List.nodup_cons, List.nodup_nil, List.mem_cons, List.not_mem_nil, or_false, false_or, not_false_eq_true, decide_true, Bool.and_true, Bool.and_self, g1]
  refine ⟨keeps_of (hw0 _ _) q1, ?_⟩
  refine cloneB_spec _ _ _ _ s.used hl.2.1 _ _ _ w1 fun o2 n2 f2 t2 p2 p2' q2 w2 r2 => ?_
  simp only [go_sem, ↓reduceIte, decide_eq_true_eq, reduceCtorEq, Nat.reduceEqDiff, Nat.reduceLT, Nat.reduceLeDiff, Nat.reduceAdd, Nat.reduceSub, Nat.reduceMul, Nat.reduceGT, Int.reduceNeg, Int.reduceToNat, and_true, true_and, and_false, false_and, List.getElem?_toArray, List.getElem?_cons_zero, List.getElem?_cons_succ, List.cons_append, List.nil_append, if_true, if_false, Option.getD_some, Option.isSome_some, Bool.false_eq_true, List.append_nil, List.drop_zero, List.drop_succ_cons, Bool.cond_false_right, Bool.cond_false_left, Bool.cond_true_left, Bool.cond_true_right, ite_self, Bool.not_true, Bool.not_false, cond_true, cond_false, List.size_toArray, implies_true, true_implies, false_implies, List.all_cons, List.all_nil, List.nodup_cons, List.nodup_nil, List.mem_cons, List.not_mem_nil, or_false, false_or, not_false_eq_true, decide_true, Bool.and_true, Bool.and_self, g1]
  refine ⟨keeps_of w1 q2, ?_⟩
  refine cloneM_spec _ _ _ _ s.marks hl.2.2 _ _ _ w2 fun o3 n3 f3 t3 p3 p3' q3 w3 r3 => ?_
  have b0 := (q3 nx 0 (by omega)).trans ((q2 nx 0 (by omega)).trans a0)
  have b1 := (q3 (nx + 1) 0 (by omega)).trans ((q2 (nx + 1) 0 (by omega)).trans a1)
  have c1 := (q3 f1 0 (by omega)).trans ((q2 f1 0 (by omega)).trans r1)
  have c2 := (q3 f2 0 (by omega)).trans r2
  have g2 : (nx + 1 = nx) = False := by simp only [eq_iff_iff, iff_false]; omega
  simp only [go_sem, ↓reduceIte, decide_eq_true_eq, reduceCtorEq, Nat.reduceEqDiff, Nat.reduceLT, Nat.reduceLeDiff, Nat.reduceAdd, Nat.reduceSub, Nat.reduceMul, Nat.reduceGT, Int.reduceNeg, Int.reduceToNat, and_true, true_and, and_false, false_and, List.getElem?_toArray, List.getElem?_cons_zero, List.getElem?_cons_succ, List.cons_append, List.nil_append, if_true, if_false, Option.getD_some, Option.isSome_some, Bool.false_eq_true, List.append_nil, List.drop_zero, List.drop_succ_cons, Bool.cond_false_right, Bool.cond_false_left, Bool.cond_true_left, Bool.cond_true_right, ite_self, Bool.not_true, Bool.not_false, cond_true, cond_false, List.size_toArray, implies_true, true_implies, false_implies, List.all_cons, List.all_nil, List.nodup_cons, List.nodup_nil, List.mem_cons, List.not_mem_nil, or_false, false_or, not_false_eq_true, decide_true, Bool.and_true, Bool.and_self, g1, g2, b0, b1]
  refine ⟨keeps_of w2 q3, ?_⟩
  have hs3 : SameB nx o o3 := fun f i hf => by
    rw [q3 f i (by omega), q2 f i (by omega), q1 f i (by omega)]
    simp only [St.set]; rw [if_neg (by omega), if_neg (by omega)]
  refine hk _ _ f1 f2 f3 t1 t2 t3 (by omega) (SameB.set (SameB.set hs3 (by omega) _ _) (by omega) _ _) ((w3.set (nx' := n3) (by omega) (Nat.le_refl _)).set (by omega) (Nat.le_refl _)) ⟨?_, ?_, ?_⟩
  · simp only [St.set]; rw [if_neg (by omega), if_neg (by omega)]; exact c1
  · simp only [St.set]; rw [if_neg (by omega), if_neg (by omega)]; exact c2
  · simp only [St.set]; rw [if_neg (by omega), if_neg (by omega)]; exact r3
end Tryd
end Go.Proofs
end
section
namespace Go.Proofs
open Go Go.Abs
set_option linter.unusedSimpArgs false
set_option maxRecDepth 10000
namespace Tryd
theorem running_spec (X : D → Value → Prop) (N : Nat) (r : Option Nat) (b : Nat) (c : Es.Contract) (day : Int) (fh nh fu nu fm nm : Nat) (o : St) (nx : Nat) (K : D → S → Prop)
    (hk : K (.fn (.func 101) [.mp (nx + 1) 0 4 0 0, .mp nx 0 7 0 0])
      ⟨St.set (St.set o nx 0 (some (.blk 7 1 27 (rowOf [.v (.int .i64 c.parties), slD 1 intC c.holders, slD 5 untC c.units, slD 7 actC c.acts, slD 16 clsC c.clauses, .v (.int .i64 c.days), slD 1 intC c.off])))) (nx + 1) 0 (some (.blk 4 1 40 (rowOf [.v (.int .i64 day), .ms fh 0 1 0 nh, .ms fu 0 1 0 nu, .ms fm 0 5 0 nm]))), nx + 1 + 1⟩) :
    ACall { P := prog, G := gl, X := X, N := N, r := r, b := b } 78 [conD c, stO day fh nh fu nu fm nm] ⟨o, nx⟩ K := by
  refine acall_ofA (M := { P := prog, G := gl, X := X, N := N, r := r, b := b }) func78 rfl results78 ntmps78 (by simp) fun b => ?_
  simp only [go_sem, ↓reduceIte, decide_eq_true_eq, reduceCtorEq, Nat.reduceEqDiff, Nat.reduceLT, Nat.reduceLeDiff, Nat.reduceAdd, Nat.reduceSub, Nat.reduceMul, Nat.reduceGT, Int.reduceNeg, Int.reduceToNat, and_true, true_and, and_false, false_and, List.getElem?_toArray, List.getElem?_cons_zero, List.getElem?_cons_succ, List.cons_append, List.nil_append, if_true, if_false, Option.getD_some, Option.isSome_some, Bool.false_eq_true, List.append_nil, List.drop_zero, List.drop_succ_cons, Bool.cond_false_right, Bool.cond_false_left, Bool.cond_true_left, Bool.cond_true_right, ite_self, Bool.not_true, Bool.not_false, cond_true, cond_false, List.size_toArray, implies_true, true_implies, false_implies, List.all_cons, List.all_nil, List.nodup_cons, List.nodup_nil, List.mem_cons, List.not_mem_nil, or_false, false_or, not_false_eq_true, decide_true, Bool.and_true, Bool.and_self]
  exact hk
open Es (runs met met_succ met_length met_at)
theorem pu_clcD (x : Es.Clause) {p : D} (hp : Pu p) : Pu (clcD x p) := Pu_agg ⟨.v _, .v _, .v _, .v _, pu_slD pu_condC _, .v _, .v _, .v _, .v _, .v _, .v _, .v _, .v _, .v _, .v _, .v _, hp, trivial⟩
theorem fz_clcD {s : S} (x : Es.Clause) {p p' : D} (hp : Fz s p p') : Fz s (clcD x p) (clcD x p') := Fz_agg ⟨.v _, .v _, .v _, .v _, (pu_slD pu_condC _).fz, .v _, .v _, .v _, .v _, .v _, .v _, .v _, .v _, .v _, .v _, .v _, hp, trivial⟩
theorem runs_spec (x : Es.Clause) (m : Es.Mark) : APure M 102 [clcD x (.rp 5 (mrkC m) 0)] (.v (.bool (runs m))) := by
  refine pure_of gpu func102 rfl results102 ntmps102 (by simp) ⟨pu_clcD x (pu_rp (pu_mrkC m)), trivial⟩ ?_
  intro b
  simp only [go_sem, ↓reduceIte, decide_eq_true_eq, reduceCtorEq, Nat.reduceEqDiff, Nat.reduceLT, Nat.reduceLeDiff, Nat.reduceAdd, Nat.reduceSub, Nat.reduceMul, Nat.reduceGT, Int.reduceNeg, Int.reduceToNat, and_true, true_and, and_false, false_and, List.getElem?_toArray, List.getElem?_cons_zero, List.getElem?_cons_succ, List.cons_append, List.nil_append, if_true, if_false, Option.getD_some, Option.isSome_some, Bool.false_eq_true, List.append_nil, List.drop_zero, List.drop_succ_cons, Bool.cond_false_right, Bool.cond_false_left, Bool.cond_true_left, Bool.cond_true_right, ite_self, Bool.not_true, Bool.not_false, cond_true, cond_false, List.size_toArray, implies_true, true_implies, false_implies, List.all_cons, List.all_nil, List.nodup_cons, List.nodup_nil, List.mem_cons, List.not_mem_nil, or_false, false_or, not_false_eq_true, decide_true, Bool.and_true, Bool.and_self]
  repeat' (first | (with_reducible refine And.intro ?_ ?_) | ((with_reducible refine ite_cases ?_ ?_) <;> intro _))
  all_goals first | (simp [Es.runs, *]; done) | (simp [Es.runs, *]; omega) | (simp_all [Es.runs]; done) | (simp_all [Es.runs]; omega)
/-- A mark behind its pointer. -/
theorem fz_mrk {s : S} {fm i n : Nat} {ty : TypeId} {ms : List Es.Mark} (ho : s.o fm 0 = some (.blk 5 n ty (rowsOf mrkC ms))) (hi : i < n) : Fz s (.mp fm 0 5 i 0) (.rp 5 (mrkC (Es.at_ ms (i : Int))) 0) :=
  .mp fm 0 5 i 0 n ty _ _ ho hi fun j _ => (pu_mrkC _ j).fz
end Tryd
end Go.Proofs
end
section
namespace Go.Proofs
open Go Go.Abs
set_option linter.unusedSimpArgs false
set_option maxRecDepth 10000
/-- At the start of whatever is walked, nothing lies at or beyond the next name. -/
theorem awp_wf {M : Ctx} {c : Code} {Q : Exit → Env → S → Prop} {e : Env} {s : S} (h : WfO s.o s.nx → AWp M c Q e s) : AWp M c Q e s := fun cf a n hE hok =>
  h (fun f i hf => by
    cases hB : s.o f i with
    | none => rfl
    | some B => have := (hok.obj f i B hB).1; omega) cf a n hE hok
theorem acall_wf {M : Ctx} {f : FuncId} {args : List D} {s : S} {K : D → S → Prop} (h : WfO s.o s.nx → ACall M f args s K) : ACall M f args s K := fun c vals hok h2 h3 h4 =>
  h (fun f i hf => by
    cases hB : s.o f i with
    | none => rfl
    | some B => have := (hok.obj f i B hB).1; omega) c vals hok h2 h3 h4
namespace Tryd
open Es (runs met met_succ met_length met_at)
/-- What the caller of a loop over running clauses owns: J speaks of what lies below n0. -/
structure RunJ (c : Es.Contract) (day : Int) (fh nh fu nu fm n fc fs n0 : Nat) (tm : TypeId) (J : List Es.Mark → S → Prop) : Prop where
  mrk : ∀ ms st, J ms st → st.o fm 0 = some (.blk 5 n tm (rowsOf mrkC ms)) ∧ ms.length = n
  con : ∀ ms st, J ms st → st.o fc 0 = some (.blk 7 1 27 (rowOf [.v (.int .i64 c.parties), slD 1 intC c.holders, slD 5 untC c.units, slD 7 actC c.acts, slD 16 clsC c.clauses, .v (.int .i64 c.days), slD 1 intC c.off]))
  sta : ∀ ms st, J ms st → st.o fs 0 = some (.blk 4 1 40 (rowOf [.v (.int .i64 day), .ms fh 0 1 0 nh, .ms fu 0 1 0 nu, .ms fm 0 5 0 n]))
  nxt : ∀ ms st, J ms st → n0 ≤ st.nx
  same : ∀ ms st st', J ms st → st.nx ≤ st'.nx → SameB n0 st.o st'.o → J ms st'
  lt : fm < n0 ∧ fc < n0 ∧ fs < n0
theorem running1_spec (X : D → Value → Prop) (N : Nat) (r : Option Nat) (b : Nat) (l : Nat) (c : Es.Contract) (day : Int) (fh nh fu nu fm n fc fs n0 : Nat) (tm : TypeId) (J : List Es.Mark → S → Prop) (hJ : RunJ c day fh nh fu nu fm n fc fs n0 tm J)
    (hn : n = c.clauses.length) (hl : n ≤ 400) (g : Nat → Es.Mark → Es.Mark) (ms0 : List Es.Mark)
    (hY : ∀ (N : Nat) (b : Nat) (i : Nat) (st : S), i < n → J (met g ms0 i) st → runs (Es.at_ (met g ms0 i) (i : Int)) = true →
      ARound { P := prog, G := gl, X := X, N := N, r := none, b := b } l [clcD (Es.at_ c.clauses (i : Int)) (.mp fm 0 5 i 0)] st
        (fun d st' => d = .v (.bool true) ∧ J ((met g ms0 i).set i (g i (Es.at_ (met g ms0 i) (i : Int)))) st' ∧ st.nx ≤ st'.nx ∧ ∀ f j, n0 ≤ f → f < st.nx → st'.o f j = st.o f j))
    (st : S) (h0 : J ms0 st) (K : D → S → Prop) (hk : ∀ st', J (met g ms0 n) st' → K (.tup []) st') :
    ACall { P := prog, G := gl, X := X, N := N, r := r, b := b } 101 [.fn (.yield l) [], .mp fs 0 4 0 0, .mp fc 0 7 0 0] st K := by
  refine acall_ofA (M := { P := prog, G := gl, X := X, N := N, r := r, b := b }) func101 rfl results101 ntmps101 (by simp) fun b => ?_
  simp only [go_sem, ↓reduceIte, decide_eq_true_eq, reduceCtorEq, Nat.reduceEqDiff, Nat.reduceLT, Nat.reduceLeDiff, Nat.reduceAdd, Nat.reduceSub, Nat.reduceMul, Nat.reduceGT, Int.reduceNeg, Int.reduceToNat, and_true, true_and, and_false, false_and, List.getElem?_toArray, List.getElem?_cons_zero, List.getElem?_cons_succ, List.cons_append, List.nil_append, if_true, if_false, Option.getD_some, Option.isSome_some, Bool.false_eq_true, List.append_nil, List.drop_zero, List.drop_succ_cons, Bool.cond_false_right, Bool.cond_false_left, Bool.cond_true_left, Bool.cond_true_right, ite_self, Bool.not_true, Bool.not_false, cond_true, cond_false, List.size_toArray, implies_true, true_implies, false_implies, List.all_cons, List.all_nil, List.nodup_cons, List.nodup_nil, List.mem_cons, List.not_mem_nil, or_false, false_or, not_false_eq_true, decide_true, Bool.and_true, Bool.and_self]
  obtain ⟨o, nx⟩ := st
  have j1 := hJ.mrk _ _ h0
  have j2 := hJ.con _ _ h0
  have j3 := hJ.sta _ _ h0
  simp only at j1 j2 j3
  simp only [go_sem, ↓reduceIte, decide_eq_true_eq, reduceCtorEq, Nat.reduceEqDiff, Nat.reduceLT, Nat.reduceLeDiff, Nat.reduceAdd, Nat.reduceSub, Nat.reduceMul, Nat.reduceGT, Int.reduceNeg, Int.reduceToNat, and_true, true_and, and_false, false_and, List.getElem?_toArray, List.getElem?_cons_zero, List.getElem?_cons_succ, List.cons_append, List.nil_append, if_true, if_false, Option.getD_some, Option.isSome_some, Bool.false_eq_true, List.append_nil, List.drop_zero, List.drop_succ_cons, Bool.cond_false_right, Bool.cond_false_left, Bool.cond_true_left, Bool.cond_true_right, ite_self, Bool.not_true, Bool.not_false, cond_true, cond_false, List.size_toArray, implies_true, true_implies, false_implies, List.all_cons, List.all_nil, List.nodup_cons, List.nodup_nil, List.mem_cons, List.not_mem_nil, or_false, false_or, not_false_eq_true, decide_true, Bool.and_true, Bool.and_self, j1.1, j2, j3]
  refine awp_count0 n (fun e0 s0 k e st => (e 0 = e0 0 ∧ e 1 = e0 1 ∧ e 2 = e0 2 ∧ e 8 = e0 8) ∧ e 9 = .v (.int .i64 k) ∧ J (met g ms0 k) st) ⟨⟨rfl, rfl, rfl, rfl⟩, ?_, h0⟩ ?_
  · simp only [go_sem, ↓reduceIte, decide_eq_true_eq, reduceCtorEq, Nat.reduceEqDiff, Nat.reduceLT, Nat.reduceLeDiff, Nat.reduceAdd, Nat.reduceSub, Nat.reduceMul, Nat.reduceGT, Int.reduceNeg, Int.reduceToNat, and_true, true_and, and_false, false_and, List.getElem?_toArray, List.getElem?_cons_zero, List.getElem?_cons_succ, List.cons_append, List.nil_append, if_true, if_false, Option.getD_some, Option.isSome_some, Bool.false_eq_true, List.append_nil, List.drop_zero, List.drop_succ_cons, Bool.cond_false_right, Bool.cond_false_left, Bool.cond_true_left, Bool.cond_true_right, ite_self, Bool.not_true, Bool.not_false, cond_true, cond_false, List.size_toArray, implies_true, true_implies, false_implies, List.all_cons, List.all_nil, List.nodup_cons, List.nodup_nil, List.mem_cons, List.not_mem_nil, or_false, false_or, not_false_eq_true, decide_true, Bool.and_true, Bool.and_self]; rfl
  clear j1 j2 j3
  rintro k e ⟨o2, nx2⟩ hk2 ⟨⟨a0, a1, a2, a8⟩, a9, hk3⟩
  simp only [go_sem, ↓reduceIte, decide_eq_true_eq, reduceCtorEq, Nat.reduceEqDiff, Nat.reduceLT, Nat.reduceLeDiff, Nat.reduceAdd, Nat.reduceSub, Nat.reduceMul, Nat.reduceGT, Int.reduceNeg, Int.reduceToNat, and_true, true_and, and_false, false_and, List.getElem?_toArray, List.getElem?_cons_zero, List.getElem?_cons_succ, List.cons_append, List.nil_append, if_true, if_false, Option.getD_some, Option.isSome_some, Bool.false_eq_true, List.append_nil, List.drop_zero, List.drop_succ_cons, Bool.cond_false_right, Bool.cond_false_left, Bool.cond_true_left, Bool.cond_true_right, ite_self, Bool.not_true, Bool.not_false, cond_true, cond_false, List.size_toArray, implies_true, true_implies, false_implies, List.all_cons, List.all_nil, List.nodup_cons, List.nodup_nil, List.mem_cons, List.not_mem_nil, or_false, false_or, not_false_eq_true, decide_true, Bool.and_true, Bool.and_self] at a0 a1 a2 a8
  obtain ⟨j1, j1'⟩ := hJ.mrk _ _ hk3
  have j2 := hJ.con _ _ hk3
  have j3 := hJ.sta _ _ hk3
  have j4 := hJ.nxt _ _ hk3
  have j5 := hJ.lt
  simp only at j1 j2 j3 j4
  simp only [go_sem, ↓reduceIte, decide_eq_true_eq, reduceCtorEq, Nat.reduceEqDiff, Nat.reduceLT, Nat.reduceLeDiff, Nat.reduceAdd, Nat.reduceSub, Nat.reduceMul, Nat.reduceGT, Int.reduceNeg, Int.reduceToNat, and_true, true_and, and_false, false_and, List.getElem?_toArray, List.getElem?_cons_zero, List.getElem?_cons_succ, List.cons_append, List.nil_append, if_true, if_false, Option.getD_some, Option.isSome_some, Bool.false_eq_true, List.append_nil, List.drop_zero, List.drop_succ_cons, Bool.cond_false_right, Bool.cond_false_left, Bool.cond_true_left, Bool.cond_true_right, ite_self, Bool.not_true, Bool.not_false, cond_true, cond_false, List.size_toArray, implies_true, true_implies, false_implies, List.all_cons, List.all_nil, List.nodup_cons, List.nodup_nil, List.mem_cons, List.not_mem_nil, or_false, false_or, not_false_eq_true, decide_true, Bool.and_true, Bool.and_self, a0, a1, a2, a8, a9, j1, j2, j3]
  refine ite_cases (fun hlt => ?_) (fun hlt => ?_)
  · have hlt' : k < n := by omega
    have m1 : (fm = nx2) = False := by simp only [eq_iff_iff, iff_false]; omega
    have m2 : (fc = nx2) = False := by simp only [eq_iff_iff, iff_false]; omega
    have m3 : (fs = nx2) = False := by simp only [eq_iff_iff, iff_false]; omega
    refine awp_wf fun hw => ?_
    have hw0 : o2 nx2 0 = none := hw nx2 0 (Nat.le_refl _)
    refine awp_plan ((.op 0 (.op 1 (.op 2 (.op 3 (.op 4 (.op 5 (.op 6 (.op 7 (.op 8 (.op 9 (.op 10 (.op 11 .done))))))))))))) [11] mix (by kernel_rfl) ?_
    simp only [go_sem, ↓reduceIte, decide_eq_true_eq, reduceCtorEq, Nat.reduceEqDiff, Nat.reduceLT, Nat.reduceLeDiff, Nat.reduceAdd, Nat.reduceSub, Nat.reduceMul, Nat.reduceGT, Int.reduceNeg, Int.reduceToNat, and_true, true_and, and_false, false_and, List.getElem?_toArray, List.getElem?_cons_zero, List.getElem?_cons_succ, List.cons_append, List.nil_append, if_true, if_false, Option.getD_some, Option.isSome_some, Bool.false_eq_true, List.append_nil, List.drop_zero, List.drop_succ_cons, Bool.cond_false_right, Bool.cond_false_left, Bool.cond_true_left, Bool.cond_true_right, ite_self, Bool.not_true, Bool.not_false, cond_true, cond_false, List.size_toArray, implies_true, true_implies, false_implies, List.all_cons, List.all_nil, List.nodup_cons, List.nodup_nil, List.mem_cons, List.not_mem_nil, or_false, false_or, not_false_eq_true, decide_true, Bool.and_true, Bool.and_self, a0, a1, a2, a8, a9, j1, j2, j3, m1, m2, m3, Nat.zero_add, Int.toNat_natCast, hw0]
    refine ⟨⟨by omega, by simp only [Es.len]; omega⟩, ⟨by omega, by omega⟩, ?_⟩
    have hfm : ∀ B, St.set o2 nx2 0 B fm 0 = some (.blk 5 n tm (rowsOf mrkC (met g ms0 k))) := fun B => by
      simp only [St.set]; rw [if_neg (by omega)]; exact j1
    refine lend_at M_P M_G (runs_spec (Es.at_ c.clauses (k : Int)) (Es.at_ (met g ms0 k) (k : Int))) gpu (.v _) ⟨fz_clcD _ (fz_mrk (n := n) (hfm _) hlt'), trivial⟩ ?_
    simp only [go_sem, ↓reduceIte, decide_eq_true_eq, reduceCtorEq, Nat.reduceEqDiff, Nat.reduceLT, Nat.reduceLeDiff, Nat.reduceAdd, Nat.reduceSub, Nat.reduceMul, Nat.reduceGT, Int.reduceNeg, Int.reduceToNat, and_true, true_and, and_false, false_and, List.getElem?_toArray, List.getElem?_cons_zero, List.getElem?_cons_succ, List.cons_append, List.nil_append, if_true, if_false, Option.getD_some, Option.isSome_some, Bool.false_eq_true, List.append_nil, List.drop_zero, List.drop_succ_cons, Bool.cond_false_right, Bool.cond_false_left, Bool.cond_true_left, Bool.cond_true_right, ite_self, Bool.not_true, Bool.not_false, cond_true, cond_false, List.size_toArray, implies_true, true_implies, false_implies, List.all_cons, List.all_nil, List.nodup_cons, List.nodup_nil, List.mem_cons, List.not_mem_nil, or_false, false_or, not_false_eq_true, decide_true, Bool.and_true, Bool.and_self, a0, a1, a2, a8, a9, j1, j2, j3, m1, m2, m3]
    have hJ2 : ∀ B, J (met g ms0 k) ⟨St.set o2 nx2 0 B, nx2 + 1⟩ := fun B => hJ.same _ _ _ hk3 (Nat.le_succ nx2) (SameB.set (SameB.refl _ _) j4 _ _)
    refine ite_cases (fun hr => ?_) (fun hr => ?_)
    · refine (hY _ _ k _ hlt' (hJ2 _) hr).mono ?_
      rintro d ⟨o3, nx3⟩ ⟨rfl, hJ3, hn3, hs3⟩
      simp only [go_sem, ↓reduceIte, decide_eq_true_eq, reduceCtorEq, Nat.reduceEqDiff, Nat.reduceLT, Nat.reduceLeDiff, Nat.reduceAdd, Nat.reduceSub, Nat.reduceMul, Nat.reduceGT, Int.reduceNeg, Int.reduceToNat, and_true, true_and, and_false, false_and, List.getElem?_toArray, List.getElem?_cons_zero, List.getElem?_cons_succ, List.cons_append, List.nil_append, if_true, if_false, Option.getD_some, Option.isSome_some, Bool.false_eq_true, List.append_nil, List.drop_zero, List.drop_succ_cons, Bool.cond_false_right, Bool.cond_false_left, Bool.cond_true_left, Bool.cond_true_right, ite_self, Bool.not_true, Bool.not_false, cond_true, cond_false, List.size_toArray, implies_true, true_implies, false_implies, List.all_cons, List.all_nil, List.nodup_cons, List.nodup_nil, List.mem_cons, List.not_mem_nil, or_false, false_or, not_false_eq_true, decide_true, Bool.and_true, Bool.and_self, a0, a1, a2, a8, a9]
      refine ⟨hlt', ?_⟩
      simp only [go_sem, ↓reduceIte, decide_eq_true_eq, reduceCtorEq, Nat.reduceEqDiff, Nat.reduceLT, Nat.reduceLeDiff, Nat.reduceAdd, Nat.reduceSub, Nat.reduceMul, Nat.reduceGT, Int.reduceNeg, Int.reduceToNat, and_true, true_and, and_false, false_and, List.getElem?_toArray, List.getElem?_cons_zero, List.getElem?_cons_succ, List.cons_append, List.nil_append, if_true, if_false, Option.getD_some, Option.isSome_some, Bool.false_eq_true, List.append_nil, List.drop_zero, List.drop_succ_cons, Bool.cond_false_right, Bool.cond_false_left, Bool.cond_true_left, Bool.cond_true_right, ite_self, Bool.not_true, Bool.not_false, cond_true, cond_false, List.size_toArray, implies_true, true_implies, false_implies, List.all_cons, List.all_nil, List.nodup_cons, List.nodup_nil, List.mem_cons, List.not_mem_nil, or_false, false_or, not_false_eq_true, decide_true, Bool.and_true, Bool.and_self, a0, a1, a2, a8, a9]
      refine ⟨by rw [wrap_i64 _ (by omega) (by omega)]; simp, ?_⟩
      rw [met_succ, if_pos hr]; exact hJ3
    · refine ⟨hlt', ?_⟩
      simp only [go_sem, ↓reduceIte, decide_eq_true_eq, reduceCtorEq, Nat.reduceEqDiff, Nat.reduceLT, Nat.reduceLeDiff, Nat.reduceAdd, Nat.reduceSub, Nat.reduceMul, Nat.reduceGT, Int.reduceNeg, Int.reduceToNat, and_true, true_and, and_false, false_and, List.getElem?_toArray, List.getElem?_cons_zero, List.getElem?_cons_succ, List.cons_append, List.nil_append, if_true, if_false, Option.getD_some, Option.isSome_some, Bool.false_eq_true, List.append_nil, List.drop_zero, List.drop_succ_cons, Bool.cond_false_right, Bool.cond_false_left, Bool.cond_true_left, Bool.cond_true_right, ite_self, Bool.not_true, Bool.not_false, cond_true, cond_false, List.size_toArray, implies_true, true_implies, false_implies, List.all_cons, List.all_nil, List.nodup_cons, List.nodup_nil, List.mem_cons, List.not_mem_nil, or_false, false_or, not_false_eq_true, decide_true, Bool.and_true, Bool.and_self, a0, a1, a2, a8, a9]
      refine ⟨by rw [wrap_i64 _ (by omega) (by omega)]; simp, ?_⟩
      rw [met_succ, if_neg hr]; exact hJ2 _
  · have : k = n := by omega
    rw [this] at hk3
    exact hk _ hk3
end Tryd
end Go.Proofs
end
section
namespace Go.Proofs
open Go Go.Abs
set_option linter.unusedSimpArgs false
set_option linter.unusedVariables false
set_option maxRecDepth 10000
theorem around_ctx {P : Program} {G : Nat → Option D} {X : D → Value → Prop} {N N' : Nat} {r r' : Option Nat} {b b' : Nat} {l : Nat} {args : List D} {s : S} {K : D → S → Prop} (h : ARound { P := P, G := G, X := X, N := N, r := r, b := b } l args s K) :
    ARound { P := P, G := G, X := X, N := N', r := r', b := b' } l args s K := fun c vals h1 h2 h3 h4 => h c vals h1 ⟨h2.g, h2.x⟩ h3 h4
@[go_sem] theorem assignA_normal (K : Env → S → Prop) (e : Env) (s : S) : assignA K .normal e s = K e s := nr rfl
@[go_sem] theorem roundA_normal (f : Nat) (rd bz : SObj) (dn : Code → SObj) (K : D → S → Prop) (e : Env) (s : S) : roundA f rd bz dn K .normal e s = (s.o f 0 = some bz ∧ K (.v (.bool true)) (s.put f 0 rd)) := nr rfl
namespace Tryd
open Es (runs met met_succ met_length met_at)
theorem set_ne {o : St} {f i f' i' : Nat} {B : Option SObj} (h : f' ≠ f) : St.set o f i B f' i' = o f' i' := by simp only [St.set]; rw [if_neg (by omega)]
theorem set_eq {o : St} {f i : Nat} {B : Option SObj} : St.set o f i B f i = B := by simp only [St.set]; rw [if_pos ⟨trivial, trivial⟩]
theorem keeps_set {o : St} {nx nx' f i : Nat} {B : Option SObj} (h : o f i = none) : keeps ⟨o, nx⟩ ⟨St.set o f i B, nx'⟩ := fun f' i' B' hB => by
  show St.set o f i B f' i' = some B'
  simp only [St.set]
  split
  · rename_i hh; obtain ⟨rfl, rfl⟩ := hh; change o f' i' = some B' at hB; rw [h] at hB; cases hB
  · exact hB
/-- What a loop over running clauses keeps: but for marks, all is as at its start. -/
def LoopJ (o : St) (nb fm n : Nat) (tm : TypeId) (ms : List Es.Mark) (st : S) : Prop := Wrote o nb fm tm ms st.o st.nx ∧ ms.length = n
theorem LoopJ.at {o : St} {nb fm n : Nat} {tm : TypeId} {ms : List Es.Mark} {st : S} (h : LoopJ o nb fm n tm ms st) {f i : Nat} (hf : f < nb) (hne : ¬ (f = fm ∧ i = 0)) : st.o f i = o f i := h.1.2.2 f i hf hne
theorem loopJ {o : St} {nb fc fs fh nh fu nu fm n : Nat} {tm : TypeId} {c : Es.Contract} {day : Int} (hc : o fc 0 = some (.blk 7 1 27 (rowOf [.v (.int .i64 c.parties), slD 1 intC c.holders, slD 5 untC c.units, slD 7 actC c.acts, slD 16 clsC c.clauses, .v (.int .i64 c.days), slD 1 intC c.off])))
    (hs : o fs 0 = some (.blk 4 1 40 (rowOf [.v (.int .i64 day), .ms fh 0 1 0 nh, .ms fu 0 1 0 nu, .ms fm 0 5 0 n]))) (hl : fm < nb ∧ fc < nb ∧ fs < nb) (hne : fc ≠ fm ∧ fs ≠ fm) :
    RunJ c day fh nh fu nu fm n fc fs nb tm (LoopJ o nb fm n tm) where
  mrk ms st h := ⟨by rw [← h.2]; exact h.1.2.1, h.2⟩
  con ms st h := (h.at hl.2.1 (by omega)).trans hc
  sta ms st h := (h.at hl.2.2 (by omega)).trans hs
  nxt ms st h := h.1.1
  same ms st st' h hn hs := ⟨⟨Nat.le_trans h.1.1 hn, (hs fm 0 hl.1).trans h.1.2.1, fun f i hf hne => (hs f i hf).trans (h.1.2.2 f i hf hne)⟩, h.2⟩
  lt := hl
theorem loop_end {o o2 o3 : St} {nb nx2 n3 fr fm n : Nat} {tm : TypeId} {rd : SObj} {ms ms' : List Es.Mark} (h : LoopJ o nb fm n tm ms ⟨o2, nx2⟩) (hr : o fr 0 = some rd) (hf : fm < nb) (hfr : fr < nb) (hne : fr ≠ fm) (hn : nx2 ≤ n3)
    (hm : o3 fm 0 = some (.blk 5 n tm (rowsOf mrkC ms'))) (hl : ms'.length = n) (ho : ∀ f j, f < nx2 → ¬ (f = fm ∧ j = 0) → ¬ (f = fr ∧ j = 0) → o3 f j = o2 f j) :
    LoopJ o nb fm n tm ms' ⟨St.set o3 fr 0 (some rd), n3⟩ ∧ nx2 ≤ n3 ∧ ∀ f j, nb ≤ f → f < nx2 → St.set o3 fr 0 (some rd) f j = o2 f j := by
  have hx := h.1.1
  simp only at hx
  refine ⟨⟨⟨by simp only; omega, by simp only [St.set]; rw [if_neg (by omega), hl]; exact hm, fun f i hf' hne' => ?_⟩, hl⟩, hn, fun f j h1 h2 => ?_⟩
  · simp only [St.set]
    split
    · rename_i hh; obtain ⟨rfl, rfl⟩ := hh; exact hr.symm
    · rename_i hh; rw [ho f i (by omega) hne' hh]; exact h.1.2.2 f i hf' hne'
  · simp only [St.set]; rw [if_neg (by omega)]; exact ho f j h2 (by omega) (by omega)
/-- A loop over the clauses that run, with what a round does to a mark. -/
theorem run_loop {X : D → Value → Prop} {N b : Nat} {gop : Operand} {p : Tmp} {assign body : Code} {Q : Exit → Env → S → Prop} {e : Env} {o : St} {n1 : Nat} (c : Es.Contract) (day : Int) (fh nh fu nu fm n : Nat) (tm : TypeId) (g : Nat → Es.Mark → Es.Mark) (ms0 : List Es.Mark)
    (hp : p < N) (hg : ev gl e gop = .fn (.func 101) [.mp (n1 + 1) 0 4 0 0, .mp n1 0 7 0 0])
    (hcon : o n1 0 = some (.blk 7 1 27 (rowOf [.v (.int .i64 c.parties), slD 1 intC c.holders, slD 5 untC c.units, slD 7 actC c.acts, slD 16 clsC c.clauses, .v (.int .i64 c.days), slD 1 intC c.off])))
    (hsta : o (n1 + 1) 0 = some (.blk 4 1 40 (rowOf [.v (.int .i64 day), .ms fh 0 1 0 nh, .ms fu 0 1 0 nu, .ms fm 0 5 0 n])))
    (hf : fm < n1) (hn : n = c.clauses.length) (hl : n ≤ 400) (hms : ms0.length = n) (hmrk : o fm 0 = some (.blk 5 n tm (rowsOf mrkC ms0)))
    (hbody : ∀ (X2 : D → Value → Prop) (l i : Nat) (o2 : St) (nx2 : Nat) (rd bz : SObj) (R : Exit → Env → S → Prop), i < n → n1 + 3 ≤ nx2 → o2 fm 0 = some (.blk 5 n tm (rowsOf mrkC (met g ms0 i))) → o2 (n1 + 2) 0 = some rd →
      (∀ f j, f < n1 + 2 → ¬ (f = fm ∧ j = 0) → o2 f j = o f j) → runs (Es.at_ (met g ms0 i) (i : Int)) = true →
      (∀ (e' : Env) (o3 : St) (n3 : Nat), nx2 ≤ n3 → o3 (n1 + 2) 0 = some bz → o3 fm 0 = some (.blk 5 n tm (rowsOf mrkC ((met g ms0 i).set i (g i (Es.at_ (met g ms0 i) (i : Int)))))) →
        (∀ f j, f < nx2 → ¬ (f = fm ∧ j = 0) → ¬ (f = n1 + 2 ∧ j = 0) → o3 f j = o2 f j) → R .normal e' ⟨o3, n3⟩) →
      AWp { P := prog, G := gl, X := X2, N := N, r := some l, b := 0 } assign (assignA fun e' s' => s'.o (n1 + 2) 0 = some rd ∧ AWp { P := prog, G := gl, X := X2, N := N, r := some l, b := 0 } body R e' (s'.put (n1 + 2) 0 bz))
        (upd e p (clcD (Es.at_ c.clauses (i : Int)) (.mp fm 0 5 i 0))) ⟨o2, nx2⟩)
    (hend : ∀ o3 n3, Wrote o (n1 + 2) fm tm (met g ms0 n) o3 n3 → Q .normal e ⟨o3, n3⟩) :
    AWp { P := prog, G := gl, X := X, N := N, r := none, b := b } (.rangeFunc gop #[p] assign body) Q e ⟨o, n1 + 2⟩ := by
  refine awp_rangeFunc rfl (by simpa using hp) hg (by simp only [go_sem, ↓reduceIte, decide_eq_true_eq, reduceCtorEq, Nat.reduceEqDiff, Nat.reduceLT, Nat.reduceLeDiff, Nat.reduceAdd, Nat.reduceSub, Nat.reduceMul, Nat.reduceGT, Int.reduceNeg, Int.reduceToNat, and_true, true_and, and_false, false_and, List.getElem?_toArray, List.getElem?_cons_zero, List.getElem?_cons_succ, List.cons_append, List.nil_append, if_true, if_false, Option.getD_some, Option.isSome_some, Bool.false_eq_true, List.append_nil, List.drop_zero, List.drop_succ_cons, Bool.cond_false_right, Bool.cond_false_left, Bool.cond_true_left, Bool.cond_true_right, ite_self, Bool.not_true, Bool.not_false, cond_true, cond_false, List.size_toArray, implies_true, true_implies, false_implies, List.all_cons, List.all_nil, List.nodup_cons, List.nodup_nil, List.mem_cons, List.not_mem_nil, or_false, false_or, not_false_eq_true, decide_true, Bool.and_true, Bool.and_self]) ?_
  intro X2 l rd bz dn hround
  obtain ⟨oL, hoL⟩ : ∃ oL, oL = St.set o (n1 + 2) 0 (some rd) := ⟨_, rfl⟩
  have L1 : oL n1 0 = o n1 0 := by rw [hoL, set_ne (by omega)]
  have L2 : oL (n1 + 1) 0 = o (n1 + 1) 0 := by rw [hoL, set_ne (by omega)]
  have L3 : oL (n1 + 2) 0 = some rd := by rw [hoL, set_eq]
  refine running1_spec X2 _ _ _ l c day fh nh fu nu fm n n1 (n1 + 1) (n1 + 3) tm (LoopJ oL (n1 + 3) fm n tm) (loopJ (L1.trans hcon) (L2.trans hsta) (by omega) (by omega)) hn hl g ms0 ?_ _ ?_ _ ?_
  · intro N' b' i st hi hJ hr
    obtain ⟨o2, nx2⟩ := st
    have j1 := hJ.1.1
    have j2 := hJ.1.2.1
    have j3 := hJ.2
    simp only at j1 j2
    rw [j3] at j2
    have j4 : o2 (n1 + 2) 0 = some rd := (hJ.1.2.2 (n1 + 2) 0 (by omega) (by omega)).trans L3
    refine around_ctx (hround _ _ _ (by simp) j4 ?_)
    refine hbody X2 l i o2 nx2 rd bz _ hi j1 j2 j4 (fun f j h1 h2 => ?_) hr ?_
    · have e1 : o2 f j = oL f j := hJ.1.2.2 f j (by omega) h2
      rw [e1, hoL, set_ne (by omega)]
    · intro e' o3 n3 h1 h2 h3 h4
      refine ⟨h2, rfl, ?_⟩
      exact loop_end (fr := n1 + 2) hJ L3 (by omega) (by omega) (by omega) h1 h3 (by simpa using j3) h4
  · refine ⟨⟨Nat.le_refl _, ?_, fun f i _ _ => (by rw [hoL]; rfl)⟩, hms⟩
    rw [hms]
    simp only [S.push, St.set]; rw [if_neg (by omega)]; exact hmrk
  · intro st hJ
    obtain ⟨o3, n3⟩ := st
    have j1 := hJ.1.1
    simp only at j1
    refine .inl ⟨(hJ.1.2.2 (n1 + 2) 0 (by omega) (by omega)).trans L3, hend _ _ ⟨show n1 + 2 ≤ n3 by omega, ?_, fun f i h1 h2 => ?_⟩⟩
    · show St.set o3 (n1 + 2) 0 none fm 0 = _
      rw [set_ne (by omega)]; exact hJ.1.2.1
    · show St.set o3 (n1 + 2) 0 none f i = o f i
      rw [set_ne (by omega)]
      have e1 : o3 f i = oL f i := hJ.1.2.2 f i (by omega) h2
      rw [e1, hoL, set_ne (by omega)]
end Tryd
end Go.Proofs
end
section
namespace Go.Proofs
open Go Go.Abs
set_option linter.unusedSimpArgs false
set_option maxRecDepth 10000
namespace Tryd
theorem bsearch_spec (l : List Int) (t : Int) (hl : l.length ≤ 4611686018427387903) (hs : ∀ a b : Nat, a < b → b < l.length → Es.at_ l (a : Int) < Es.at_ l (b : Int)) :
    ∃ pos : Int, APure M 77 [slD 1 intC l, .v (.int .i64 t)] (.tup [.v (.int .i64 pos), .v (.bool (l.contains t))]) := by
  obtain ⟨p, hp1, hp2, hp3⟩ : ∃ p : Nat, p ≤ l.length ∧ (∀ a : Nat, a < p → Es.at_ l (a : Int) < t) ∧ (∀ a : Nat, p ≤ a → a < l.length → t ≤ Es.at_ l (a : Int)) := by
    have key : ∀ n : Nat, n ≤ l.length → ∃ p : Nat, p ≤ n ∧ (∀ a : Nat, a < p → Es.at_ l (a : Int) < t) ∧ (∀ a : Nat, p ≤ a → a < n → t ≤ Es.at_ l (a : Int)) := by
      intro n
      induction n with
      | zero => exact fun _ => ⟨0, Nat.le_refl _, fun a h => by omega, fun a h h2 => by omega⟩
      | succ n ih =>
        intro hn
        obtain ⟨p, h1, h2, h3⟩ := ih (by omega)
        by_cases hlt : Es.at_ l (n : Int) < t
        · refine ⟨n + 1, Nat.le_refl _, fun a ha => ?_, fun a h h2 => by omega⟩
          rcases Nat.lt_or_ge a n with h | h
          · have := hs a n h (by omega); omega
          · have : a = n := by omega
            rw [this]; exact hlt
        · refine ⟨p, by omega, h2, fun a ha hb => ?_⟩
          rcases Nat.lt_or_ge a n with h | h
          · exact h3 a ha h
          · have : a = n := by omega
            rw [this]; omega
    exact key l.length (Nat.le_refl _)
  refine ⟨p, ?_⟩
  refine pure_of gpu func77 rfl results77 ntmps77 (by simp) ⟨pu_slD pu_intC _, .v _, trivial⟩ ?_
  intro b
  simp only [go_sem, ↓reduceIte, decide_eq_true_eq, reduceCtorEq, Nat.reduceEqDiff, Nat.reduceLT, Nat.reduceLeDiff, Nat.reduceAdd, Nat.reduceSub, Nat.reduceMul, Nat.reduceGT, Int.reduceNeg, Int.reduceToNat, and_true, true_and, and_false, false_and, List.getElem?_toArray, List.getElem?_cons_zero, List.getElem?_cons_succ, List.cons_append, List.nil_append, if_true, if_false, Option.getD_some, Option.isSome_some, Bool.false_eq_true, List.append_nil, List.drop_zero, List.drop_succ_cons, Bool.cond_false_right, Bool.cond_false_left, Bool.cond_true_left, Bool.cond_true_right, ite_self, Bool.not_true, Bool.not_false, cond_true, cond_false, List.size_toArray, implies_true, true_implies, false_implies, List.all_cons, List.all_nil, List.nodup_cons, List.nodup_nil, List.mem_cons, List.not_mem_nil, or_false, false_or, not_false_eq_true, decide_true, Bool.and_true, Bool.and_self]
  refine awp_loopA (fun n e s => ∃ i j : Nat, n = j - i ∧ i ≤ p ∧ p ≤ j ∧ j ≤ l.length ∧ e 0 = slD 1 intC l ∧ e 1 = .v (.int .i64 t) ∧ e 6 = .v (.int .i64 (Es.len l)) ∧ e 7 = .v (.int .i64 i) ∧ e 8 = .v (.int .i64 j)) ?_ (n := l.length) ⟨0, l.length, by omega, by omega, hp1, Nat.le_refl _, ?_⟩
  · rintro n e s ⟨i, j, rfl, hi, hj, hjl, h0, h1, h6, h7, h8⟩
    simp only [go_sem, ↓reduceIte, decide_eq_true_eq, reduceCtorEq, Nat.reduceEqDiff, Nat.reduceLT, Nat.reduceLeDiff, Nat.reduceAdd, Nat.reduceSub, Nat.reduceMul, Nat.reduceGT, Int.reduceNeg, Int.reduceToNat, and_true, true_and, and_false, false_and, List.getElem?_toArray, List.getElem?_cons_zero, List.getElem?_cons_succ, List.cons_append, List.nil_append, if_true, if_false, Option.getD_some, Option.isSome_some, Bool.false_eq_true, List.append_nil, List.drop_zero, List.drop_succ_cons, Bool.cond_false_right, Bool.cond_false_left, Bool.cond_true_left, Bool.cond_true_right, ite_self, Bool.not_true, Bool.not_false, cond_true, cond_false, List.size_toArray, implies_true, true_implies, false_implies, List.all_cons, List.all_nil, List.nodup_cons, List.nodup_nil, List.mem_cons, List.not_mem_nil, or_false, false_or, not_false_eq_true, decide_true, Bool.and_true, Bool.and_self, h0, h1, h6, h7, h8]
    refine ite_cases (fun hlt => ?_) (fun hlt => ?_)
    · have hmid : IntKind.i64.wrap ((IntKind.u64.wrap (IntKind.i64.wrap ((i : Int) + (j : Int)))).fdiv (2 ^ 1)) = (((i + j) / 2 : Nat) : Int) := by
        rw [wrap_i64 ((i : Int) + j) (by omega) (by omega), wrap_u64, Int.emod_eq_of_lt (by omega) (by omega), Int.fdiv_eq_ediv_of_nonneg _ (by omega)]
        rw [wrap_i64 _ (by omega) (by omega)]; omega
      simp only [hmid]
      have hh : (i + j) / 2 < l.length := by omega
      refine ⟨by omega, ⟨by omega, Es.len_lt.2 hh⟩, ?_⟩
      refine call_at M_P M_G (less_spec _ _) ?_
      simp only [go_sem, ↓reduceIte, decide_eq_true_eq, reduceCtorEq, Nat.reduceEqDiff, Nat.reduceLT, Nat.reduceLeDiff, Nat.reduceAdd, Nat.reduceSub, Nat.reduceMul, Nat.reduceGT, Int.reduceNeg, Int.reduceToNat, and_true, true_and, and_false, false_and, List.getElem?_toArray, List.getElem?_cons_zero, List.getElem?_cons_succ, List.cons_append, List.nil_append, if_true, if_false, Option.getD_some, Option.isSome_some, Bool.false_eq_true, List.append_nil, List.drop_zero, List.drop_succ_cons, Bool.cond_false_right, Bool.cond_false_left, Bool.cond_true_left, Bool.cond_true_right, ite_self, Bool.not_true, Bool.not_false, cond_true, cond_false, List.size_toArray, implies_true, true_implies, false_implies, List.all_cons, List.all_nil, List.nodup_cons, List.nodup_nil, List.mem_cons, List.not_mem_nil, or_false, false_or, not_false_eq_true, decide_true, Bool.and_true, Bool.and_self, h0, h1, h6, h7, h8]
      refine ite_cases (fun hc => ?_) (fun hc => ?_)
      · refine ⟨j - ((i + j) / 2 + 1), by omega, (i + j) / 2 + 1, j, rfl, ?_, hj, hjl, ?_⟩
        · rcases Nat.lt_or_ge ((i + j) / 2) p with h | h
          · exact h
          · have := hp3 _ h hh; omega
        · simp only [go_sem, ↓reduceIte, decide_eq_true_eq, reduceCtorEq, Nat.reduceEqDiff, Nat.reduceLT, Nat.reduceLeDiff, Nat.reduceAdd, Nat.reduceSub, Nat.reduceMul, Nat.reduceGT, Int.reduceNeg, Int.reduceToNat, and_true, true_and, and_false, false_and, List.getElem?_toArray, List.getElem?_cons_zero, List.getElem?_cons_succ, List.cons_append, List.nil_append, if_true, if_false, Option.getD_some, Option.isSome_some, Bool.false_eq_true, List.append_nil, List.drop_zero, List.drop_succ_cons, Bool.cond_false_right, Bool.cond_false_left, Bool.cond_true_left, Bool.cond_true_right, ite_self, Bool.not_true, Bool.not_false, cond_true, cond_false, List.size_toArray, implies_true, true_implies, false_implies, List.all_cons, List.all_nil, List.nodup_cons, List.nodup_nil, List.mem_cons, List.not_mem_nil, or_false, false_or, not_false_eq_true, decide_true, Bool.and_true, Bool.and_self, h0, h1, h6, h7, h8]
          rw [wrap_i64 _ (by omega) (by omega)]; simp
      · refine ⟨(i + j) / 2 - i, by omega, i, (i + j) / 2, rfl, hi, ?_, by omega, ?_⟩
        · rcases Nat.lt_or_ge ((i + j) / 2) p with h | h
          · have := hp2 _ h; omega
          · exact h
        · simp only [go_sem, ↓reduceIte, decide_eq_true_eq, reduceCtorEq, Nat.reduceEqDiff, Nat.reduceLT, Nat.reduceLeDiff, Nat.reduceAdd, Nat.reduceSub, Nat.reduceMul, Nat.reduceGT, Int.reduceNeg, Int.reduceToNat, and_true, true_and, and_false, false_and, List.getElem?_toArray, List.getElem?_cons_zero, List.getElem?_cons_succ, List.cons_append, List.nil_append, if_true, if_false, Option.getD_some, Option.isSome_some, Bool.false_eq_true, List.append_nil, List.drop_zero, List.drop_succ_cons, Bool.cond_false_right, Bool.cond_false_left, Bool.cond_true_left, Bool.cond_true_right, ite_self, Bool.not_true, Bool.not_false, cond_true, cond_false, List.size_toArray, implies_true, true_implies, false_implies, List.all_cons, List.all_nil, List.nodup_cons, List.nodup_nil, List.mem_cons, List.not_mem_nil, or_false, false_or, not_false_eq_true, decide_true, Bool.and_true, Bool.and_self, h0, h1, h6, h7, h8]
    · have hij : i = p := by omega
      subst hij
      have fin : ∀ q : Bool, q = l.contains t → Fz s (.tup [.v (.int .i64 i), .v (.bool q)]) (.tup [.v (.int .i64 i), .v (.bool (l.contains t))]) := fun q hq => by
        rw [hq]; exact Fz_tup ⟨.v _, .v _, trivial⟩
      have hcon : l.contains t = (decide ((i : Int) < Es.len l) && (Es.at_ l (i : Int) == t)) := by
        rw [Bool.eq_iff_iff]
        simp only [List.contains_iff_mem, Bool.and_eq_true, decide_eq_true_eq, beq_iff_eq]
        constructor
        · intro hm
          obtain ⟨a, ha, hat⟩ := List.mem_iff_getElem.1 hm
          have hat' : Es.at_ l (a : Int) = t := by rw [Es.at_nat ha]; exact hat
          have : a = i := by
            rcases Nat.lt_trichotomy a i with h | h | h
            · have := hp2 a h; omega
            · exact h
            · have h1 := hs i a h ha
              have h2 := hp3 i (Nat.le_refl _) (by omega)
              omega
          subst this
          exact ⟨Es.len_lt.2 ha, hat'⟩
        · rintro ⟨h1, h2⟩
          have := Es.len_lt.1 h1
          rw [Es.at_nat this] at h2
          exact h2 ▸ List.getElem_mem _
      repeat' (first | ((with_reducible refine call_at M_P M_G (isNaN2_spec _) ?_); simp only [go_sem, ↓reduceIte, decide_eq_true_eq, reduceCtorEq, Nat.reduceEqDiff, Nat.reduceLT, Nat.reduceLeDiff, Nat.reduceAdd, Nat.reduceSub, Nat.reduceMul, Nat.reduceGT, Int.reduceNeg, Int.reduceToNat, and_true, true_and, and_false, false_and, List.getElem?_toArray, List.getElem?_cons_zero, List.getElem?_cons_succ, List.cons_append, List.nil_append, if_true, if_false, Option.getD_some, Option.isSome_some, Bool.false_eq_true, List.append_nil, List.drop_zero, List.drop_succ_cons, Bool.cond_false_right, Bool.cond_false_left, Bool.cond_true_left, Bool.cond_true_right, ite_self, Bool.not_true, Bool.not_false, cond_true, cond_false, List.size_toArray, implies_true, true_implies, false_implies, List.all_cons, List.all_nil, List.nodup_cons, List.nodup_nil, List.mem_cons, List.not_mem_nil, or_false, false_or, not_false_eq_true, decide_true, Bool.and_true, Bool.and_self]) | (with_reducible refine And.intro ?_ ?_) | ((with_reducible refine ite_cases ?_ ?_) <;> intro _))
      all_goals first
        | omega
        | (refine fin _ ?_; rw [hcon]; simp [*]; done)
        | (have hq : (Es.at_ l (i : Int) == t) = true := by simpa using ‹¬ (Es.at_ l (i : Int) == t) = false›
           refine fin _ ?_; rw [hcon, hq]; simp [*]; done)
  · simp only [go_sem, ↓reduceIte, decide_eq_true_eq, reduceCtorEq, Nat.reduceEqDiff, Nat.reduceLT, Nat.reduceLeDiff, Nat.reduceAdd, Nat.reduceSub, Nat.reduceMul, Nat.reduceGT, Int.reduceNeg, Int.reduceToNat, and_true, true_and, and_false, false_and, List.getElem?_toArray, List.getElem?_cons_zero, List.getElem?_cons_succ, List.cons_append, List.nil_append, if_true, if_false, Option.getD_some, Option.isSome_some, Bool.false_eq_true, List.append_nil, List.drop_zero, List.drop_succ_cons, Bool.cond_false_right, Bool.cond_false_left, Bool.cond_true_left, Bool.cond_true_right, ite_self, Bool.not_true, Bool.not_false, cond_true, cond_false, List.size_toArray, implies_true, true_implies, false_implies, List.all_cons, List.all_nil, List.nodup_cons, List.nodup_nil, List.mem_cons, List.not_mem_nil, or_false, false_or, not_false_eq_true, decide_true, Bool.and_true, Bool.and_self]; exact ⟨rfl, rfl⟩
end Tryd
end Go.Proofs
end
