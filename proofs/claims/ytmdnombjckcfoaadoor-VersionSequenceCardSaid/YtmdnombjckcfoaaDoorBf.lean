/-
  Parts of an abstract machine over the model, of the program's data and of what its functions compute: the texts F4 F5 F6 F42 F44 F45 F47 F48 F16b F9b F17 F9 F18 F49 F50, merged.
-/
import Derived.Test.YtmdnombjckcfoaaDoorBe
set_option linter.unusedSimpArgs false
set_option linter.unusedVariables false
section
namespace Go.Proofs
open Go Go.Abs
set_option linter.unusedSimpArgs false
set_option maxRecDepth 10000
namespace Tryd
theorem utAt_spec (us : List Es.Unt) (i : Int) : APure M 134 [slD 5 untC us, .v (.int .i64 i)] (.tup [untD (Es.utAt us i).1, .v (.bool (Es.utAt us i).2)]) := by
  refine pure_of gpu func134 rfl results134 ntmps134 (by simp) ⟨pu_slD pu_untC _, .v _, trivial⟩ ?_
  intro b
  simp only [go_sem, ↓reduceIte, reduceCtorEq, Nat.reduceEqDiff, Nat.reduceLT, Nat.reduceLeDiff, Nat.reduceAdd, Nat.reduceSub, Nat.reduceMul, Nat.reduceGT, Int.reduceNeg, Int.reduceToNat]
  repeat' (first | (with_reducible refine And.intro ?_ ?_) | ((with_reducible refine ite_cases ?_ ?_) <;> intro _))
  all_goals simp only [decide_eq_false_iff_not, Decidable.not_not] at *
  all_goals first
    | omega
    | (rw [show Es.utAt us i = (default, false) from if_pos (by omega)]; exact Fz_tup ⟨(pu_untD default).fz, .v _, trivial⟩)
    | (rw [show Es.utAt us i = (Es.at_ us i, true) from if_neg (by omega)]; exact Fz_tup ⟨(pu_untD _).fz, .v _, trivial⟩)

theorem fits_spec (X : D → Value → Prop) (N : Nat) (r : Option Nat) (b : Nat) (us : List Es.Unt) (i : Int) (hi : 0 ≤ i ∧ i < Es.len us) (f : Nat) (names : List (List UInt8)) (o : St) (nx : Nat) (K : D → S → Prop) (hf : f < nx) (ho : o f 0 = some (.mapo (mapOf names)))
    (hk : ∀ s', Grow ⟨o, nx⟩ s' → K (.v (.bool (Es.fits us i names))) s') : ACall { P := prog, G := gl, X := X, N := N, r := r, b := b } 113 [slD 5 untC us, .v (.int .i64 i), .mm f 0] ⟨o, nx⟩ K := by
  have hk' : ∀ bb s', bb = Es.fits us i names → Grow ⟨o, nx⟩ s' → K (.v (.bool bb)) s' := fun bb s' hb hg => hb ▸ hk s' hg
  refine acall_ofA (M := { P := prog, G := gl, X := X, N := N, r := r, b := b }) func113 rfl results113 ntmps113 (by simp) fun b => ?_
  simp only [go_sem, ↓reduceIte, reduceCtorEq, Nat.reduceEqDiff, Nat.reduceLT, Nat.reduceLeDiff, Nat.reduceAdd, Nat.reduceSub, Nat.reduceMul, Nat.reduceGT, Int.reduceNeg, Int.reduceToNat]
  have n0 : (f = nx) = False := by simp only [eq_iff_iff, iff_false]; omega
  have n1 : (f = nx + 1) = False := by simp only [eq_iff_iff, iff_false]; omega
  have n2 : (nx = nx + 1) = False := by simp only [eq_iff_iff, iff_false]; omega
  refine ⟨hi, ?_⟩
  repeat' (first | ((with_reducible refine call_at M_P M_G (utAt_spec _ _) ?_); simp only [go_sem, ↓reduceIte, reduceCtorEq, Nat.reduceEqDiff, Nat.reduceLT, Nat.reduceLeDiff, Nat.reduceAdd, Nat.reduceSub, Nat.reduceMul, Nat.reduceGT, Int.reduceNeg, Int.reduceToNat, ho, n0, n1, n2, mfind_mapOf, ByteArray.toList_mk]) | ((with_reducible refine call_at M_P M_G (ratValid_spec _) ?_); simp only [go_sem, ↓reduceIte, reduceCtorEq, Nat.reduceEqDiff, Nat.reduceLT, Nat.reduceLeDiff, Nat.reduceAdd, Nat.reduceSub, Nat.reduceMul, Nat.reduceGT, Int.reduceNeg, Int.reduceToNat, ho, n0, n1, n2, mfind_mapOf, ByteArray.toList_mk]) | (with_reducible refine And.intro ?_ ?_) | ((with_reducible refine ite_cases ?_ ?_) <;> intro _))
  all_goals first
    | exact mapOf_keys _
    | rfl
    | (refine hk' _ _ ?_ (Grow.to (by show nx ≤ _; omega) ?_)
       · first | (simp [Es.fits, Es.ratio_beq, *]; done) | (simp [Es.fits, Es.ratio_beq, *]; omega) | (simp_all [Es.fits, Es.ratio_beq]; done) | (simp_all [Es.fits, Es.ratio_beq]; omega)
       · repeat' (first | exact SameB.refl _ _ | refine SameB.set ?_ (by show nx ≤ _; omega) _ _))

theorem qValid_spec (us : List Es.Unt) (hl : us.length ≤ 9223372036854775807) : APure M 90 [slD 5 untC us] (.tup [.v (.int .i64 (Es.qValid us).1), .v (.bool (Es.qValid us).2)]) := by
  refine pure_of gpu func90 rfl results90 ntmps90 (by simp) ⟨pu_slD pu_untC _, trivial⟩ ?_
  intro b
  simp only [go_sem, ↓reduceIte, reduceCtorEq, Nat.reduceEqDiff, Nat.reduceLT, Nat.reduceLeDiff, Nat.reduceAdd, Nat.reduceSub, Nat.reduceMul, Nat.reduceGT, Int.reduceNeg, Int.reduceToNat]
  refine awp_count0 us.length (fun e0 s0 k e s => (e 0 = e0 0 ∧ e 4 = e0 4 ∧ e 8 = e0 8 ∧ e 9 = e0 9) ∧ e 10 = .v (.int .i64 k) ∧ 1 ≤ s.nx ∧ s.o 0 0 = some (.mapo (mapOf ((us.take k).map (·.name)))) ∧ ∀ j : Nat, j < k → Es.fits us j ((us.take j).map (·.name)) = true) ⟨⟨rfl, rfl, rfl, rfl⟩, ?_, Nat.le_refl 1, rfl, (by omega)⟩ ?_
  · simp only [go_sem, ↓reduceIte, reduceCtorEq, Nat.reduceEqDiff, Nat.reduceLT, Nat.reduceLeDiff, Nat.reduceAdd, Nat.reduceSub, Nat.reduceMul, Nat.reduceGT, Int.reduceNeg, Int.reduceToNat]; rfl
  rintro k e ⟨o, nx⟩ hk ⟨⟨h0, h4, h8, h9⟩, h10, hn, g0, hall⟩
  simp only [go_sem, ↓reduceIte, reduceCtorEq, Nat.reduceEqDiff, Nat.reduceLT, Nat.reduceLeDiff, Nat.reduceAdd, Nat.reduceSub, Nat.reduceMul, Nat.reduceGT, Int.reduceNeg, Int.reduceToNat] at h0 h4 h8 h9 hn g0
  have n0 : (0 = nx) = False := by simp only [eq_iff_iff, iff_false]; omega
  simp only [go_sem, ↓reduceIte, reduceCtorEq, Nat.reduceEqDiff, Nat.reduceLT, Nat.reduceLeDiff, Nat.reduceAdd, Nat.reduceSub, Nat.reduceMul, Nat.reduceGT, Int.reduceNeg, Int.reduceToNat, h0, h4, h8, h9, h10, g0, n0]
  refine ite_cases (fun hlt => ?_) (fun hlt => ?_)
  · have hlt' : k < us.length := Es.len_lt.1 hlt
    refine ⟨⟨by omega, hlt⟩, ?_⟩
    refine fits_spec _ _ _ _ us k ⟨by omega, hlt⟩ 0 ((us.take k).map (·.name)) _ _ _ (by omega) (by simp only [go_sem, ↓reduceIte, reduceCtorEq, Nat.reduceEqDiff, Nat.reduceLT, Nat.reduceLeDiff, Nat.reduceAdd, Nat.reduceSub, Nat.reduceMul, Nat.reduceGT, Int.reduceNeg, Int.reduceToNat, g0, n0]) ?_
    rintro ⟨o', nx'⟩ hg
    have gg0 := hg.2 0 0 (by show 0 < nx + 1; omega)
    have gg1 := hg.2 nx 0 (by show nx < nx + 1; omega)
    simp only [go_sem, ↓reduceIte, reduceCtorEq, Nat.reduceEqDiff, Nat.reduceLT, Nat.reduceLeDiff, Nat.reduceAdd, Nat.reduceSub, Nat.reduceMul, Nat.reduceGT, Int.reduceNeg, Int.reduceToNat, g0, n0] at gg0 gg1
    simp only [go_sem, ↓reduceIte, reduceCtorEq, Nat.reduceEqDiff, Nat.reduceLT, Nat.reduceLeDiff, Nat.reduceAdd, Nat.reduceSub, Nat.reduceMul, Nat.reduceGT, Int.reduceNeg, Int.reduceToNat, h0, h4, h8, h9, h10, gg0, gg1]
    refine ite_cases (fun hf => ?_) (fun hf => ?_)
    · have hq : Es.qBad us = some k := Es.qBad_some hlt' (by simpa using hf) hall
      simp only [Es.qValid, hq]
      exact Fz_tup ⟨.v _, .v _, trivial⟩
    · have hf' : Es.fits us k ((us.take k).map (·.name)) = true := by simpa using hf
      refine ⟨mapOf_keys _, hlt', ?_⟩
      simp only [go_sem, ↓reduceIte, reduceCtorEq, Nat.reduceEqDiff, Nat.reduceLT, Nat.reduceLeDiff, Nat.reduceAdd, Nat.reduceSub, Nat.reduceMul, Nat.reduceGT, Int.reduceNeg, Int.reduceToNat, h0, h4, h8, h9, h10, gg0, gg1]
      refine ⟨by rw [wrap_i64 _ (by omega) (by omega)]; simp, ?_, ?_, ?_⟩
      · have := hg.1; simp only at this; omega
      · rw [mput_mapOf _ _ (Es.fits_new hf'), List.take_succ_eq_append_getElem hlt', List.map_append, Es.at_nat hlt']; rfl
      · intro j hj
        rcases Nat.lt_or_ge j k with h | h
        · exact hall j h
        · have : j = k := by omega
          rw [this]; exact hf'
  · have hkk : k = us.length := by simp only [Es.len] at hlt; omega
    have hq : Es.qBad us = .none := Es.qBad_none (hkk ▸ hall)
    simp only [Es.qValid, hq]
    exact Fz_tup ⟨.v _, .v _, trivial⟩
end Tryd
end Go.Proofs
end
section
namespace Go.Proofs
open Go Go.Abs
set_option linter.unusedSimpArgs false
set_option maxRecDepth 10000
namespace Tryd
set_option maxHeartbeats 2000000 in
theorem frame_spec (c : Es.Contract) (hf : Es.Fits c) (hp : c.parties ≤ 12) : APure M 67 [conD c] (.v (.bool (Es.frame c))) := by
  have hf1 := hf.holders
  have hf2 := hf.units
  have hf3 := hf.acts
  have hf5 := hf.off
  refine pure_of gpu func67 rfl results67 ntmps67 (by simp) ⟨pu_conD _, trivial⟩ ?_
  intro b
  simp only [go_sem, ↓reduceIte, reduceCtorEq, Nat.reduceEqDiff, Nat.reduceLT, Nat.reduceLeDiff, Nat.reduceAdd, Nat.reduceSub, Nat.reduceMul, Nat.reduceGT, Int.reduceNeg, Int.reduceToNat]
  repeat' (first | ((with_reducible refine call_at M_P M_G (qValid_spec _ hf.units) ?_); simp only [go_sem, ↓reduceIte, reduceCtorEq, Nat.reduceEqDiff, Nat.reduceLT, Nat.reduceLeDiff, Nat.reduceAdd, Nat.reduceSub, Nat.reduceMul, Nat.reduceGT, Int.reduceNeg, Int.reduceToNat]) | (with_reducible refine And.intro ?_ ?_) | ((with_reducible refine ite_cases ?_ ?_) <;> intro _))
  all_goals try (refine congrArg Value.bool ?_; first | (simp [Es.frame, *]; done) | (simp [Es.frame, *]; omega) | (simp_all [Es.frame]; done) | (simp_all [Es.frame]; omega))
  · (refine awp_count0 c.holders.length (fun e0 s0 k e s => (e 1 = e0 1 ∧ e 38 = e0 38 ∧ e 39 = e0 39) ∧ e 40 = .v (.int .i64 k) ∧ s = s0 ∧ ∀ p ∈ c.holders.take k, (fun p => Es.under p c.parties) p = true) ⟨⟨rfl, rfl, rfl⟩, ?_, rfl, (by simp)⟩ ?_
     · simp only [go_sem, ↓reduceIte, reduceCtorEq, Nat.reduceEqDiff, Nat.reduceLT, Nat.reduceLeDiff, Nat.reduceAdd, Nat.reduceSub, Nat.reduceMul, Nat.reduceGT, Int.reduceNeg, Int.reduceToNat]; rfl
     rintro k e s hk ⟨⟨a1, a38, a39⟩, a40, rfl, hall⟩
     simp only [go_sem, ↓reduceIte, reduceCtorEq, Nat.reduceEqDiff, Nat.reduceLT, Nat.reduceLeDiff, Nat.reduceAdd, Nat.reduceSub, Nat.reduceMul, Nat.reduceGT, Int.reduceNeg, Int.reduceToNat] at a1 a38 a39
     simp only [go_sem, ↓reduceIte, reduceCtorEq, Nat.reduceEqDiff, Nat.reduceLT, Nat.reduceLeDiff, Nat.reduceAdd, Nat.reduceSub, Nat.reduceMul, Nat.reduceGT, Int.reduceNeg, Int.reduceToNat, a1, a38, a39, a40]
     refine ite_cases (fun hlt => ?_) (fun hlt => ?_)
     · have hlt' : k < c.holders.length := Es.len_lt.1 hlt
       refine ⟨⟨by omega, hlt⟩, ?_⟩
       refine awp_count0 c.parties.toNat (fun e0 s0 q e s => (e 1 = e0 1 ∧ e 38 = e0 38 ∧ e 39 = e0 39 ∧ e 40 = e0 40 ∧ e 45 = e0 45 ∧ e 6 = e0 6) ∧ e 46 = .v (.int .i64 q) ∧ s = s0 ∧ ∀ j : Nat, j < q → Es.at_ c.holders k ≠ j) ⟨⟨rfl, rfl, rfl, rfl, rfl, rfl⟩, ?_, rfl, (by omega)⟩ ?_
       · simp only [go_sem, ↓reduceIte, reduceCtorEq, Nat.reduceEqDiff, Nat.reduceLT, Nat.reduceLeDiff, Nat.reduceAdd, Nat.reduceSub, Nat.reduceMul, Nat.reduceGT, Int.reduceNeg, Int.reduceToNat]; rfl
       rintro q e s hq ⟨⟨h1, h38, h39, h40, h45, h6⟩, h46, rfl, hne⟩
       simp only [go_sem, ↓reduceIte, reduceCtorEq, Nat.reduceEqDiff, Nat.reduceLT, Nat.reduceLeDiff, Nat.reduceAdd, Nat.reduceSub, Nat.reduceMul, Nat.reduceGT, Int.reduceNeg, Int.reduceToNat, a1, a38, a39, a40] at h1 h38 h39 h40 h45 h6
       simp only [go_sem, ↓reduceIte, reduceCtorEq, Nat.reduceEqDiff, Nat.reduceLT, Nat.reduceLeDiff, Nat.reduceAdd, Nat.reduceSub, Nat.reduceMul, Nat.reduceGT, Int.reduceNeg, Int.reduceToNat, h1, h38, h39, h40, h45, h6, h46, a1, a38, a39, a40]
       refine ite_cases (fun hq' => ?_) (fun hq' => ?_)
       · refine ite_cases (fun he => ?_) (fun he => ?_)
         · have he' : Es.at_ c.holders k = q := by simpa using he
           refine ⟨hlt', ?_⟩
           simp only [go_sem, ↓reduceIte, reduceCtorEq, Nat.reduceEqDiff, Nat.reduceLT, Nat.reduceLeDiff, Nat.reduceAdd, Nat.reduceSub, Nat.reduceMul, Nat.reduceGT, Int.reduceNeg, Int.reduceToNat, h1, h38, h39, h40, h45, h6, h46, a1, a38, a39, a40]
           refine ⟨by rw [wrap_i64 _ (by omega) (by omega)]; simp, Es.all_step hlt' hall ?_⟩
           rw [he']; simp only [Es.under, Bool.and_eq_true, decide_eq_true_eq]; omega
         · have he' : Es.at_ c.holders k ≠ q := by simpa using he
           refine ⟨by omega, ?_⟩
           simp only [go_sem, ↓reduceIte, reduceCtorEq, Nat.reduceEqDiff, Nat.reduceLT, Nat.reduceLeDiff, Nat.reduceAdd, Nat.reduceSub, Nat.reduceMul, Nat.reduceGT, Int.reduceNeg, Int.reduceToNat, h1, h38, h39, h40, h45, h6, h46, a1, a38, a39, a40]
           refine ⟨by rw [wrap_i64 _ (by omega) (by omega)]; simp, ?_⟩
           intro j hj
           rcases Nat.lt_or_ge j q with h | h
           · exact hne j h
           · have : j = q := by omega
             rw [this]; exact he'
       · have hbad : c.holders.all (fun p => Es.under p c.parties) = false := Es.all_bad hlt' (by
           show Es.under _ _ = false
           cases hu : Es.under (Es.at_ c.holders k) c.parties with
           | false => rfl
           | true =>
             simp only [Es.under, Bool.and_eq_true, decide_eq_true_eq] at hu
             exact absurd (Int.toNat_of_nonneg hu.1).symm (hne (Es.at_ c.holders k).toNat (by omega)))
         first | (simp [Es.frame, *]; done) | (simp [Es.frame, *]; omega) | (simp_all [Es.frame]; done) | (simp_all [Es.frame]; omega)
     · have hA := Es.all_end (p := fun p => Es.under p c.parties) hlt hk hall
       refine awp_count0 c.acts.length (fun e0 s0 k e s => (e 1 = e0 1 ∧ e 55 = e0 55 ∧ e 56 = e0 56) ∧ e 57 = .v (.int .i64 k) ∧ Grow s0 s ∧ ∀ x ∈ c.acts.take k, Es.act c x = true) ⟨⟨rfl, rfl, rfl⟩, ?_, Grow.refl _, (by simp)⟩ ?_
       · simp only [go_sem, ↓reduceIte, reduceCtorEq, Nat.reduceEqDiff, Nat.reduceLT, Nat.reduceLeDiff, Nat.reduceAdd, Nat.reduceSub, Nat.reduceMul, Nat.reduceGT, Int.reduceNeg, Int.reduceToNat]; rfl
       clear hall
       rintro k e ⟨o, nx⟩ hk ⟨⟨h1, h55, h56⟩, h57, hg, hall⟩
       simp only [go_sem, ↓reduceIte, reduceCtorEq, Nat.reduceEqDiff, Nat.reduceLT, Nat.reduceLeDiff, Nat.reduceAdd, Nat.reduceSub, Nat.reduceMul, Nat.reduceGT, Int.reduceNeg, Int.reduceToNat, a1] at h1 h55 h56
       have g0 := hg.2 0 0 (by show (0:Nat) < 1; decide); have hn : 1 ≤ nx := hg.1; have n0 : (0 = nx) = False := (by simp only [eq_iff_iff, iff_false]; omega); simp only [go_sem, ↓reduceIte, reduceCtorEq, Nat.reduceEqDiff, Nat.reduceLT, Nat.reduceLeDiff, Nat.reduceAdd, Nat.reduceSub, Nat.reduceMul, Nat.reduceGT, Int.reduceNeg, Int.reduceToNat] at g0
       simp only [go_sem, ↓reduceIte, reduceCtorEq, Nat.reduceEqDiff, Nat.reduceLT, Nat.reduceLeDiff, Nat.reduceAdd, Nat.reduceSub, Nat.reduceMul, Nat.reduceGT, Int.reduceNeg, Int.reduceToNat, h1, h55, h56, h57, g0, n0, a1]
       refine ite_cases (fun hlt => ?_) (fun hlt => ?_)
       · have hlt' : k < c.acts.length := Es.len_lt.1 hlt
         refine ⟨⟨by omega, hlt⟩, ?_⟩
         repeat' (first | ((with_reducible refine call_at M_P M_G (act_spec _ _) ?_); simp only [go_sem, ↓reduceIte, reduceCtorEq, Nat.reduceEqDiff, Nat.reduceLT, Nat.reduceLeDiff, Nat.reduceAdd, Nat.reduceSub, Nat.reduceMul, Nat.reduceGT, Int.reduceNeg, Int.reduceToNat, h1, h55, h56, h57, g0, n0, a1]) | (with_reducible refine And.intro ?_ ?_) | ((with_reducible refine ite_cases ?_ ?_) <;> intro _))
         · have hbad : c.acts.all (Es.act c) = false := Es.all_bad hlt' (by simpa using ‹(!Es.act c _) = true›)
           first | (simp [Es.frame, *]; done) | (simp [Es.frame, *]; omega) | (simp_all [Es.frame]; done) | (simp_all [Es.frame]; omega)
         · refine ⟨hlt', ?_⟩
           simp only [go_sem, ↓reduceIte, reduceCtorEq, Nat.reduceEqDiff, Nat.reduceLT, Nat.reduceLeDiff, Nat.reduceAdd, Nat.reduceSub, Nat.reduceMul, Nat.reduceGT, Int.reduceNeg, Int.reduceToNat, h1, h55, h56, h57, g0, n0, a1]
           exact ⟨by rw [wrap_i64 _ (by omega) (by omega)]; simp, hg.set hn (by omega), Es.all_step hlt' hall (by simpa using ‹¬ (!Es.act c _) = true›)⟩
       · have hB := Es.all_end (p := Es.act c) hlt hk hall
         refine awp_count0 c.off.length (fun e0 s0 k e s => (e 1 = e0 1 ∧ e 67 = e0 67 ∧ e 68 = e0 68) ∧ e 69 = .v (.int .i64 k) ∧ s = s0 ∧ ∃ last, e 10 = .v (.int .i64 last) ∧ Es.offOk c.days (-1) c.off = Es.offOk c.days last (c.off.drop k)) ⟨⟨rfl, rfl, rfl⟩, ?_, rfl, ?_⟩ ?_
         · simp only [go_sem, ↓reduceIte, reduceCtorEq, Nat.reduceEqDiff, Nat.reduceLT, Nat.reduceLeDiff, Nat.reduceAdd, Nat.reduceSub, Nat.reduceMul, Nat.reduceGT, Int.reduceNeg, Int.reduceToNat]; rfl
         · exact ⟨-1, by simp only [go_sem, ↓reduceIte, reduceCtorEq, Nat.reduceEqDiff, Nat.reduceLT, Nat.reduceLeDiff, Nat.reduceAdd, Nat.reduceSub, Nat.reduceMul, Nat.reduceGT, Int.reduceNeg, Int.reduceToNat], rfl⟩
         rintro m e s hm ⟨⟨b1, b67, b68⟩, b69, rfl, last, b10, hoff⟩
         simp only [go_sem, ↓reduceIte, reduceCtorEq, Nat.reduceEqDiff, Nat.reduceLT, Nat.reduceLeDiff, Nat.reduceAdd, Nat.reduceSub, Nat.reduceMul, Nat.reduceGT, Int.reduceNeg, Int.reduceToNat, h1, g0, n0] at b1 b67 b68
         simp only [go_sem, ↓reduceIte, reduceCtorEq, Nat.reduceEqDiff, Nat.reduceLT, Nat.reduceLeDiff, Nat.reduceAdd, Nat.reduceSub, Nat.reduceMul, Nat.reduceGT, Int.reduceNeg, Int.reduceToNat, b1, b67, b68, b69, b10, g0, n0, h1, a1]
         refine ite_cases (fun hlt2 => ?_) (fun hlt2 => ?_)
         · have hlt2' : m < c.off.length := Es.len_lt.1 hlt2
           have hd := Es.drop_at hlt2'
           refine ⟨⟨by omega, hlt2⟩, ?_⟩
           rw [hd, Es.offOk] at hoff
           repeat' (first | (with_reducible refine And.intro ?_ ?_) | ((with_reducible refine ite_cases ?_ ?_) <;> intro _))
           all_goals first
             | (refine ⟨hlt2', ?_⟩
                simp only [go_sem, ↓reduceIte, reduceCtorEq, Nat.reduceEqDiff, Nat.reduceLT, Nat.reduceLeDiff, Nat.reduceAdd, Nat.reduceSub, Nat.reduceMul, Nat.reduceGT, Int.reduceNeg, Int.reduceToNat, b1, b67, b68, b69, b10, g0, n0, h1, a1]
                refine ⟨by rw [wrap_i64 _ (by omega) (by omega)]; simp, _, rfl, ?_⟩
                rw [hoff]
                simp_all
                done)
             | (have hoff' : Es.offOk c.days (-1) c.off = false := by rw [hoff]; simp_all
                first | (simp [Es.frame, *]; done) | (simp [Es.frame, *]; omega) | (simp_all [Es.frame]; done) | (simp_all [Es.frame]; omega))
         · have hdm : c.off.drop m = [] := List.drop_eq_nil_of_le (by simp only [Es.len] at hlt2; omega)
           rw [hdm] at hoff
           have hoff' : Es.offOk c.days (-1) c.off = true := hoff
           first | (simp [Es.frame, *]; done) | (simp [Es.frame, *]; omega) | (simp_all [Es.frame]; done) | (simp_all [Es.frame]; omega))
end Tryd
end Go.Proofs
end
section
namespace Go.Proofs
open Go Go.Abs
set_option linter.unusedSimpArgs false
set_option maxRecDepth 10000
namespace Tryd
theorem find_some {c : Es.Contract} {k : Nat} (hk : k < c.clauses.length) (h : Es.clauseOk c k = false) (hall : ∀ j : Nat, j < k → Es.clauseOk c j = true) : (List.range c.clauses.length).find? (fun i : Nat => !Es.clauseOk c (i : Int)) = some k := by
  rw [List.find?_range_eq_some]
  exact ⟨by simp only [h, Bool.not_false], by simpa using hk, fun j hj => by simp only [hall j hj, Bool.not_true, Bool.not_false]⟩
theorem find_none {c : Es.Contract} (hall : ∀ j : Nat, j < c.clauses.length → Es.clauseOk c j = true) : (List.range c.clauses.length).find? (fun i : Nat => !Es.clauseOk c (i : Int)) = .none := by
  rw [List.find?_eq_none]
  intro j hj
  simp only [hall j (List.mem_range.1 hj), Bool.not_true, Bool.false_eq_true, not_false_eq_true]
set_option maxHeartbeats 2000000 in
theorem valid2_spec (c : Es.Contract) (hf : Es.Fits c) : APure M 35 [conD c] (.tup [.v (.int .i64 (Es.valid2 c).1), .v (.int .i64 (Es.valid2 c).2)]) := by
  have hf4 := hf.clauses
  refine pure_of gpu func35 rfl results35 ntmps35 (by simp) ⟨pu_conD _, trivial⟩ ?_
  intro b
  simp only [go_sem, ↓reduceIte, reduceCtorEq, Nat.reduceEqDiff, Nat.reduceLT, Nat.reduceLeDiff, Nat.reduceAdd, Nat.reduceSub, Nat.reduceMul, Nat.reduceGT, Int.reduceNeg, Int.reduceToNat]
  repeat' (first | (with_reducible refine And.intro ?_ ?_) | ((with_reducible refine ite_cases ?_ ?_) <;> intro _))
  all_goals first
    | (rw [show Es.valid2 c = (3, -1) by simp only [Es.valid2]; rw [if_pos]; first | (simp [Es.len, *]; done) | (simp [Es.len, *]; omega) | (simp_all [Es.len]; done) | (simp_all [Es.len]; omega)]
       exact Fz_tup ⟨.v _, .v _, trivial⟩)
    | skip
  have h0 : ¬ ((decide (12 < c.parties) || decide (2000 < c.days) || decide (12 < Es.len c.holders) || decide (20 < Es.len c.units) || decide (60 < Es.len c.acts) || decide (400 < Es.len c.clauses)) = true) := by simp [*]
  have hp : c.parties ≤ 12 := by simp at h0; omega
  refine call_at M_P M_G (frame_spec c hf hp) ?_
  simp only [go_sem, ↓reduceIte, reduceCtorEq, Nat.reduceEqDiff, Nat.reduceLT, Nat.reduceLeDiff, Nat.reduceAdd, Nat.reduceSub, Nat.reduceMul, Nat.reduceGT, Int.reduceNeg, Int.reduceToNat]
  refine ite_cases (fun hfr => ?_) (fun hfr => ?_)
  · have : Es.valid2 c = (1, -1) := by
      unfold Es.valid2; rw [if_neg h0, if_pos hfr]
    rw [this]; exact Fz_tup ⟨.v _, .v _, trivial⟩
  · have hv : Es.valid2 c = match (List.range c.clauses.length).find? (fun i : Nat => !Es.clauseOk c (i : Int)) with | some i => (1, (i : Int)) | .none => (0, -1) := by
      unfold Es.valid2; rw [if_neg h0, if_neg hfr]; rfl
    refine awp_count0 c.clauses.length (fun e0 s0 k e s => (e 1 = e0 1 ∧ e 41 = e0 41 ∧ e 42 = e0 42) ∧ e 43 = .v (.int .i64 k) ∧ s = s0 ∧ ∀ j : Nat, j < k → Es.clauseOk c j = true) ⟨⟨rfl, rfl, rfl⟩, ?_, rfl, (by omega)⟩ ?_
    · simp only [go_sem, ↓reduceIte, reduceCtorEq, Nat.reduceEqDiff, Nat.reduceLT, Nat.reduceLeDiff, Nat.reduceAdd, Nat.reduceSub, Nat.reduceMul, Nat.reduceGT, Int.reduceNeg, Int.reduceToNat]; rfl
    rintro k e s hk ⟨⟨h1, h41, h42⟩, h43, rfl, hall⟩
    simp only [go_sem, ↓reduceIte, reduceCtorEq, Nat.reduceEqDiff, Nat.reduceLT, Nat.reduceLeDiff, Nat.reduceAdd, Nat.reduceSub, Nat.reduceMul, Nat.reduceGT, Int.reduceNeg, Int.reduceToNat] at h1 h41 h42
    simp only [go_sem, ↓reduceIte, reduceCtorEq, Nat.reduceEqDiff, Nat.reduceLT, Nat.reduceLeDiff, Nat.reduceAdd, Nat.reduceSub, Nat.reduceMul, Nat.reduceGT, Int.reduceNeg, Int.reduceToNat, h1, h41, h42, h43]
    refine ite_cases (fun hlt => ?_) (fun hlt => ?_)
    · have hlt' : k < c.clauses.length := Es.len_lt.1 hlt
      refine call_at M_P M_G (clause_spec c k ⟨by omega, hlt⟩) ?_
      simp only [go_sem, ↓reduceIte, reduceCtorEq, Nat.reduceEqDiff, Nat.reduceLT, Nat.reduceLeDiff, Nat.reduceAdd, Nat.reduceSub, Nat.reduceMul, Nat.reduceGT, Int.reduceNeg, Int.reduceToNat, h1, h41, h42, h43]
      refine ite_cases (fun hb => ?_) (fun hb => ?_)
      · have : Es.valid2 c = (1, (k : Int)) := by rw [hv, find_some hlt' (by simpa using hb) hall]
        rw [this]; exact Fz_tup ⟨.v _, .v _, trivial⟩
      · refine ⟨hlt', ?_⟩
        simp only [go_sem, ↓reduceIte, reduceCtorEq, Nat.reduceEqDiff, Nat.reduceLT, Nat.reduceLeDiff, Nat.reduceAdd, Nat.reduceSub, Nat.reduceMul, Nat.reduceGT, Int.reduceNeg, Int.reduceToNat, h1, h41, h42, h43]
        refine ⟨by rw [wrap_i64 _ (by omega) (by omega)]; simp, ?_⟩
        intro j hj
        rcases Nat.lt_or_ge j k with h | h
        · exact hall j h
        · have : j = k := by omega
          rw [this]; simpa using hb
    · have hkk : k = c.clauses.length := by simp only [Es.len] at hlt; omega
      have : Es.valid2 c = (0, -1) := by rw [hv, find_none (hkk ▸ hall)]
      rw [this]; exact Fz_tup ⟨.v _, .v _, trivial⟩

theorem valid_spec (c : Es.Contract) (hf : Es.Fits c) : APure M 44 [conD c] (.v (.bool ((Es.valid2 c).1 == 0))) := by
  refine pure_of gpu func44 rfl results44 ntmps44 (by simp) ⟨pu_conD _, trivial⟩ ?_
  intro b
  simp only [go_sem, ↓reduceIte, reduceCtorEq, Nat.reduceEqDiff, Nat.reduceLT, Nat.reduceLeDiff, Nat.reduceAdd, Nat.reduceSub, Nat.reduceMul, Nat.reduceGT, Int.reduceNeg, Int.reduceToNat]
  repeat' (first | ((with_reducible refine call_at M_P M_G (valid2_spec _ hf) ?_); simp only [go_sem, ↓reduceIte, reduceCtorEq, Nat.reduceEqDiff, Nat.reduceLT, Nat.reduceLeDiff, Nat.reduceAdd, Nat.reduceSub, Nat.reduceMul, Nat.reduceGT, Int.reduceNeg, Int.reduceToNat]) | (with_reducible refine And.intro ?_ ?_) | ((with_reducible refine ite_cases ?_ ?_) <;> intro _))
end Tryd
end Go.Proofs
end
section
namespace Go.Proofs
open Go Go.Abs
set_option linter.unusedSimpArgs false
set_option linter.unusedVariables false
set_option maxRecDepth 10000
namespace Tryd
theorem zero_spec (x : Es.Clause) : APure M 97 [clsD x] (.v (.bool (Es.zeroClause x))) := by
  have hcall : callable prog 121 = true := by simp only [go_sem]
  have hcon := containsI_spec 121 [] hcall trivial (fun n => n != 0) (numsZ x) (by simp [numsZ]) (fun n _ => pzero1_spec n)
  refine pure_of gpu func97 rfl results97 ntmps97 (by simp) ⟨pu_clsD x, trivial⟩ ?_
  intro b
  simp only [go_sem, ↓reduceIte, reduceCtorEq, Nat.reduceEqDiff, Nat.reduceLT, Nat.reduceLeDiff, Nat.reduceAdd, Nat.reduceSub, Nat.reduceMul, Nat.reduceGT, Int.reduceNeg, Int.reduceToNat]
  refine call_at M_P M_G (numbers_spec x) ?_
  simp only [go_sem, ↓reduceIte, reduceCtorEq, Nat.reduceEqDiff, Nat.reduceLT, Nat.reduceLeDiff, Nat.reduceAdd, Nat.reduceSub, Nat.reduceMul, Nat.reduceGT, Int.reduceNeg, Int.reduceToNat]
  repeat' (first | ((with_reducible refine call_at M_P M_G (hcon) ?_); simp only [go_sem, ↓reduceIte, reduceCtorEq, Nat.reduceEqDiff, Nat.reduceLT, Nat.reduceLeDiff, Nat.reduceAdd, Nat.reduceSub, Nat.reduceMul, Nat.reduceGT, Int.reduceNeg, Int.reduceToNat]) | (with_reducible refine And.intro ?_ ?_) | ((with_reducible refine ite_cases ?_ ?_) <;> intro _))
  all_goals (rw [← numsZ_any]; simp_all)
def effD (least most : Int) (cl dy : Bool) (ch : D) : D := .agg [.v (.int .i64 least), .v (.int .i64 most), .v (.bool cl), .v (.bool dy), ch]
theorem effD_eq (least most : Int) (cl dy : Bool) (ch : D) : effD least most cl dy ch = .agg [.v (.int .i64 least), .v (.int .i64 most), .v (.bool cl), .v (.bool dy), ch] := nr rfl
@[go_sem] theorem effD_cells (least most : Int) (cl dy : Bool) (ch : D) : (effD least most cl dy ch).cells? = some [.v (.int .i64 least), .v (.int .i64 most), .v (.bool cl), .v (.bool dy), ch] := nr rfl
/-- What a kind of patch does. -/
def doesD (k : Int) : D := if k = 2 then .fn (.func 118) [] else if k = 3 ∨ k = 4 then .fn (.func 117) [] else if k = 5 then .fn (.func 119) [] else .v .nilFunc
def kindD (k : Int) : D := if k = 1 ∨ k = 2 ∨ k = 3 ∨ k = 4 ∨ k = 5 then effD (Es.leastOf k) (Es.mostOf k) (k == 1 || k == 2) (k == 5) (doesD k) else effD 0 0 false false (.v .nilFunc)
def effL : List (Value × D) := [1, 2, 3, 4, 5].map fun k => (.int .i64 k, kindD k)
theorem mput_key {d : TypeDesc} {k : Value} {x : D} (hk : isKeyB d k = true) : ∀ {es : List (Value × D)}, (∀ e ∈ es, isKeyB d e.1 = true) → ∀ e ∈ mput k x es, isKeyB d e.1 = true
  | [], _, e, he => by
    simp only [mput, List.mem_singleton] at he; subst he; exact hk
  | (k', y) :: es, h, e, he => by
    unfold mput at he
    split at he
    · rcases List.mem_cons.1 he with rfl | he
      · exact h (k', y) (by simp)
      · exact h e (by simp [he])
    · rcases List.mem_cons.1 he with rfl | he
      · exact h (k', y) (by simp)
      · exact mput_key hk (fun e he => h e (by simp [he])) e he
theorem eff_made : mput (.int .i64 5) (.agg [.v (.int .i64 1), .v (.int .i64 400), .v (.bool false), .v (.bool true), .fn (.func 119) []]) (mput (.int .i64 4) (.agg [.v (.int .i64 1), .v (.int .i64 400), .v (.bool false), .v (.bool false), .fn (.func 117) []])
    (mput (.int .i64 3) (.agg [.v (.int .i64 1), .v (.int .i64 1), .v (.bool false), .v (.bool false), .fn (.func 117) []]) (mput (.int .i64 2) (.agg [.v (.int .i64 1), .v (.int .i64 1), .v (.bool true), .v (.bool false), .fn (.func 118) []])
    (mput (.int .i64 1) (.agg [.v (.int .i64 0), .v (.int .i64 0), .v (.bool true), .v (.bool false), .v .nilFunc]) [])))) = effL := by rfl
theorem effects_spec (X : D → Value → Prop) (N : Nat) (r : Option Nat) (b : Nat) (o : St) (nx : Nat) (K : D → S → Prop)
    (hk : ∀ o' nx' f, nx ≤ f → f < nx' → SameB nx o o' → o' f 0 = some (.mapo effL) → keeps ⟨o, nx⟩ ⟨o', nx'⟩ → WfO o' nx' → K (.mm f 0) ⟨o', nx'⟩) :
    ACall { P := prog, G := gl, X := X, N := N, r := r, b := b } 96 [] ⟨o, nx⟩ K := by
  refine acall_wf fun hw => ?_
  simp only at hw
  refine acall_ofA (M := { P := prog, G := gl, X := X, N := N, r := r, b := b }) func96 rfl results96 ntmps96 (by simp) fun b => ?_
  simp only [go_sem, ↓reduceIte, reduceCtorEq, Nat.reduceEqDiff, Nat.reduceLT, Nat.reduceLeDiff, Nat.reduceAdd, Nat.reduceSub, Nat.reduceMul, Nat.reduceGT, Int.reduceNeg, Int.reduceToNat]
  have h0 : ∀ e ∈ ([] : List (Value × D)), isKeyB (.int .i64) e.1 = true := fun e h => by cases h
  refine ⟨rfl, ⟨rfl, mput_key rfl h0⟩, ⟨rfl, mput_key rfl (mput_key rfl h0)⟩, ⟨rfl, mput_key rfl (mput_key rfl (mput_key rfl h0))⟩, ⟨rfl, mput_key rfl (mput_key rfl (mput_key rfl (mput_key rfl h0)))⟩, ?_⟩
  rw [eff_made]
  have hS : SameB nx o (St.set o nx 0 (some (.mapo effL))) := SameB.set (SameB.refl _ _) (Nat.le_refl _) _ _
  exact hk _ _ nx (Nat.le_refl _) (by omega) hS (by simp [St.set]) (keeps_of hw hS) (hw.set (by omega) (by omega))
theorem eff_keys : ∀ e ∈ effL, isKeyB (.int .i64) e.1 = true := by
  intro e he
  simp only [effL, List.map_cons, List.map_nil, List.mem_cons, List.not_mem_nil, or_false] at he
  rcases he with rfl | rfl | rfl | rfl | rfl <;> rfl
theorem keq_int (a b : Int) : keq (.int .i64 a) (.int .i64 b) = decide (a = b) := by
  show (IntKind.i64 == IntKind.i64 && a == b) = decide (a = b)
  rw [Bool.eq_iff_iff]; simp
theorem mfind_eff (k : Int) : mfind (.int .i64 k) effL = if k = 1 ∨ k = 2 ∨ k = 3 ∨ k = 4 ∨ k = 5 then some (kindD k) else none := by
  simp only [effL, List.map_cons, List.map_nil, mfind, keq_int, decide_eq_true_eq]
  by_cases h1 : 1 = k
  · subst h1; simp
  by_cases h2 : 2 = k
  · subst h2; simp
  by_cases h3 : 3 = k
  · subst h3; simp
  by_cases h4 : 4 = k
  · subst h4; simp
  by_cases h5 : 5 = k
  · subst h5; simp
  rw [if_neg h1, if_neg h2, if_neg h3, if_neg h4, if_neg h5, if_neg (by omega)]
def leastK (k : Int) : Int := if k = 1 ∨ k = 2 ∨ k = 3 ∨ k = 4 ∨ k = 5 then Es.leastOf k else 0
def mostK (k : Int) : Int := if k = 1 ∨ k = 2 ∨ k = 3 ∨ k = 4 ∨ k = 5 then Es.mostOf k else 0
theorem kindD_eq (k : Int) : kindD k = effD (leastK k) (mostK k) (k == 1 || k == 2) (k == 5) (doesD k) := by
  unfold kindD leastK mostK
  by_cases h : k = 1 ∨ k = 2 ∨ k = 3 ∨ k = 4 ∨ k = 5
  · simp only [if_pos h]
  · have h1 : (k == 1 || k == 2) = false := by simp; omega
    have h5 : (k == 5) = false := by simp; omega
    simp only [if_neg h, h1, h5]
    rw [show doesD k = .v .nilFunc from by unfold doesD; rw [if_neg (by omega), if_neg (by omega), if_neg (by omega)]]
def oneOf (k : Int) : Bool := decide (k = 1 ∨ k = 2 ∨ k = 3 ∨ k = 4 ∨ k = 5)
/-- What a look-up among the effects gives. -/
theorem look_eff (k : Int) : ((mfind (.int .i64 k) effL).isSome = oneOf k) ∧ (mfind (.int .i64 k) effL).getD (D.agg [.v (.int .i64 0), .v (.int .i64 0), .v (.bool false), .v (.bool false), .v .nilFunc]) = kindD k := by
  rw [mfind_eff]
  by_cases h : k = 1 ∨ k = 2 ∨ k = 3 ∨ k = 4 ∨ k = 5
  · rw [if_pos h]
    exact ⟨by simp [oneOf, h], by rw [Option.getD_some]⟩
  · rw [if_neg h]
    refine ⟨by simp [oneOf]; omega, ?_⟩
    unfold kindD
    rw [if_neg h]; rfl
theorem mostK_le (k : Int) : mostK k ≤ 400 := by
  unfold mostK Es.mostOf; repeat' split
  all_goals omega
theorem pu_doesD (k : Int) : Pu (doesD k) := by
  unfold doesD; repeat' split
  all_goals first | exact .v _ | exact Pu_fn trivial
theorem pu_eff (a b : Int) (x y : Bool) (k : Int) : Pu (effD a b x y (doesD k)) := Pu_agg ⟨.v _, .v _, .v _, .v _, pu_doesD k, trivial⟩
/-- Is it a patch, but for the clauses' order and the days? -/
def formedA (p : Es.Patch) : Bool := oneOf p.kind && !decide (Es.len p.clauses < leastK p.kind) && !decide (mostK p.kind < Es.len p.clauses) && ((p.kind == 1 || p.kind == 2) || Es.zeroClause p.new)
theorem oneOf_eq (k : Int) : oneOf k = (decide (1 ≤ k) && decide (k ≤ 5)) := by unfold oneOf; rw [Bool.eq_iff_iff]; simp; omega
theorem formed_eq (c : Es.Contract) (p : Es.Patch) : Es.formed c p = (formedA p && Es.inOrder (Es.len c.clauses) p.clauses && if p.kind == 5 then decide (1 ≤ p.days) && decide (p.days ≤ 400) else p.days == 0) := by
  unfold Es.formed formedA leastK mostK
  rw [oneOf_eq]
  by_cases hk : 1 ≤ p.kind ∧ p.kind ≤ 5
  · rw [if_pos (show p.kind = 1 ∨ p.kind = 2 ∨ p.kind = 3 ∨ p.kind = 4 ∨ p.kind = 5 by omega), if_pos (show p.kind = 1 ∨ p.kind = 2 ∨ p.kind = 3 ∨ p.kind = 4 ∨ p.kind = 5 by omega)]
    simp only [hk.1, hk.2, decide_true, Bool.and_self, Bool.not_true, Bool.false_or, Bool.true_and]
    generalize decide (Es.len p.clauses < Es.leastOf p.kind) = a
    generalize decide (Es.mostOf p.kind < Es.len p.clauses) = b
    generalize (p.kind == 1 || p.kind == 2) = d
    generalize Es.zeroClause p.new = z
    generalize Es.inOrder (Es.len c.clauses) p.clauses = o
    cases a <;> cases b <;> cases d <;> cases z <;> cases o <;> simp
  · have : (decide (1 ≤ p.kind) && decide (p.kind ≤ 5)) = false := by
      rw [Bool.eq_false_iff]; simpa using hk
    simp [this]
theorem formed_bad {c : Es.Contract} {p : Es.Patch} (h : formedA p = false) : Es.formed c p = false := by rw [formed_eq, h]; rfl
theorem formed_order {c : Es.Contract} {p : Es.Patch} {k : Nat} (hk : k < p.clauses.length) (h : Es.inOrdB (Es.len c.clauses) p.clauses k = false) : Es.formed c p = false := by
  rw [formed_eq, show Es.inOrder (Es.len c.clauses) p.clauses = false from Es.allN_bad hk h]; simp
theorem formedA_true {p : Es.Patch} (h1 : (!oneOf p.kind) = false) (h2 : decide (Es.len p.clauses < leastK p.kind) = false) (h3 : decide (mostK p.kind < Es.len p.clauses) = false) (h4 : ¬ (!(p.kind == 1 || p.kind == 2)) = true ∨ ¬ (!Es.zeroClause p.new) = true) : formedA p = true := by
  unfold formedA
  rw [h2, h3]
  revert h1 h4
  generalize oneOf p.kind = a
  generalize (p.kind == 1 || p.kind == 2) = d
  generalize Es.zeroClause p.new = z
  cases a <;> cases d <;> cases z <;> decide
theorem inOrdB_false {n : Int} {l : List Int} {k : Nat} (h : Es.at_ l (k : Int) < 0 ∨ n ≤ Es.at_ l (k : Int) ∨ (0 < (k : Int) ∧ Es.at_ l (k : Int) ≤ Es.at_ l ((k : Int) - 1))) : Es.inOrdB n l k = false := by
  rw [Bool.eq_false_iff]
  intro hh
  simp only [Es.inOrdB, Bool.and_eq_true, Bool.or_eq_true, decide_eq_true_eq] at hh
  omega
theorem inOrdB_true {n : Int} {l : List Int} {k : Nat} (h1 : ¬ Es.at_ l (k : Int) < 0) (h2 : ¬ n ≤ Es.at_ l (k : Int)) (h3 : ¬ 0 < (k : Int) ∨ ¬ Es.at_ l (k : Int) ≤ Es.at_ l ((k : Int) - 1)) : Es.inOrdB n l k = true := by
  simp only [Es.inOrdB, Bool.and_eq_true, Bool.or_eq_true, decide_eq_true_eq]
  omega
theorem formed_spec (c : Es.Contract) (p : Es.Patch) : APure M 69 [conD c, patD p] (.tup [kindD p.kind, .v (.bool (Es.formed c p))]) := by
  refine pure_of gpu func69 rfl results69 ntmps69 (by simp) ⟨pu_conD _, pu_patD _, trivial⟩ ?_
  intro b
  simp only [go_sem, ↓reduceIte, reduceCtorEq, Nat.reduceEqDiff, Nat.reduceLT, Nat.reduceLeDiff, Nat.reduceAdd, Nat.reduceSub, Nat.reduceMul, Nat.reduceGT, Int.reduceNeg, Int.reduceToNat]
  obtain ⟨hl1, hl2⟩ := look_eff p.kind
  refine AWp.mono (Q := fun x e s => x = .normal ∧ e 3 = .mp 1 0 19 0 0 ∧ e 2 = .mp 0 0 7 0 0 ∧ e 4 = .mp 2 0 5 0 0 ∧ s.o 2 0 = some (.blk 5 1 111 (rowOf [.v (.int .i64 0), .v (.int .i64 0), .v (.bool false), .v (.bool false), .v .nilFunc])) ∧ ∃ g, g ≠ 0 ∧ g ≠ 1 ∧ g ≠ 2 ∧ e 6 = .mp g 0 5 0 0 ∧ s.o g 0 = some (.blk 5 1 111 (rowOf [.v (.int .i64 (leastK p.kind)), .v (.int .i64 (mostK p.kind)), .v (.bool (p.kind == 1 || p.kind == 2)), .v (.bool (p.kind == 5)), doesD p.kind])) ∧ e 7 = .v (.bool (oneOf p.kind)) ∧
    s.o 0 0 = some (.blk 7 1 27 (rowOf [.v (.int .i64 c.parties), slD 1 intC c.holders, slD 5 untC c.units, slD 7 actC c.acts, slD 16 clsC c.clauses, .v (.int .i64 c.days), slD 1 intC c.off])) ∧
    s.o 1 0 = some (.blk 19 1 62 (rowOf [.v (.int .i64 p.kind), slD 1 intC p.clauses, .v (.int .i64 p.new.kind), .v (.int .i64 p.new.role), .v (.int .i64 p.new.act), .v (.int .i64 p.new.need), slD 2 condC p.new.start, .v (.int .i64 p.new.after), .v (.int .i64 p.new.grace), .v (.bool p.new.business), .v (.bool p.new.final), .v (.int .i64 p.new.pause), .v (.int .i64 p.new.resume), .v (.int .i64 p.new.value.num), .v (.int .i64 p.new.value.den), .v (.int .i64 p.new.unit), .v (.int .i64 p.new.to), .v (.bool p.new.waived), .v (.int .i64 p.days)]))) ?_ ?_
  · refine awp_plan ((.op 1 (.op 2 (.alt 0 (.alt 3 (.op 4 (.op 5 (.op 6 (.op 7 (.op 8 (.op 9 .done)))))) (.alt 7 (.op 3 (.op 4 (.op 5 (.op 6 (.op 8 (.op 9 .done)))))) .dead)) (.alt 7 (.op 0 (.op 3 (.op 4 (.op 5 (.op 6 (.op 8 (.op 9 .done))))))) .dead))))) [8] mix (by kernel_rfl) ?_
    simp only [go_sem, ↓reduceIte, reduceCtorEq, Nat.reduceEqDiff, Nat.reduceLT, Nat.reduceLeDiff, Nat.reduceAdd, Nat.reduceSub, Nat.reduceMul, Nat.reduceGT, Int.reduceNeg, Int.reduceToNat]
    refine ⟨?_, ?_⟩
    · apply effects_spec
      intro o1 n1 f hf1 hf2 hs hm hkp hw
      have g0 := hs 0 0 (by omega)
      have g1 := hs 1 0 (by omega)
      have g2 := hs 2 0 (by omega)
      simp only [go_sem, ↓reduceIte, reduceCtorEq, Nat.reduceEqDiff, Nat.reduceLT, Nat.reduceLeDiff, Nat.reduceAdd, Nat.reduceSub, Nat.reduceMul, Nat.reduceGT, Int.reduceNeg, Int.reduceToNat] at g0 g1 g2
      have hn : o1 n1 0 = none := hw n1 0 (Nat.le_refl _)
      have e0 : ∀ {a b : Nat}, a ≠ b → (a = b) = False := fun h => by simp [h]
      have z1 : (0 = 1) = False := e0 (by omega); have z2 : (0 = 2) = False := e0 (by omega); have z3 : (0 = f) = False := e0 (by omega); have z4 : (0 = n1) = False := e0 (by omega); have z5 : (1 = 0) = False := e0 (by omega); have z6 : (1 = 2) = False := e0 (by omega); have z7 : (1 = f) = False := e0 (by omega); have z8 : (1 = n1) = False := e0 (by omega); have z9 : (2 = 0) = False := e0 (by omega); have z10 : (2 = 1) = False := e0 (by omega); have z11 : (2 = f) = False := e0 (by omega); have z12 : (2 = n1) = False := e0 (by omega); have z13 : (f = 0) = False := e0 (by omega); have z14 : (f = 1) = False := e0 (by omega); have z15 : (f = 2) = False := e0 (by omega); have z16 : (f = n1) = False := e0 (by omega); have z17 : (n1 = 0) = False := e0 (by omega); have z18 : (n1 = 1) = False := e0 (by omega); have z19 : (n1 = 2) = False := e0 (by omega); have z20 : (n1 = f) = False := e0 (by omega)
      have hI : (IntKind.i64 == IntKind.i64) = true := rfl
      have fin : ∃ g, g ≠ 0 ∧ g ≠ 1 ∧ g ≠ 2 ∧ D.mp n1 0 5 0 0 = D.mp g 0 5 0 0 ∧ (if g = n1 then some (SObj.blk 5 1 111 (rowOf [.v (.int .i64 (leastK p.kind)), .v (.int .i64 (mostK p.kind)), .v (.bool (p.kind == 1 || p.kind == 2)), .v (.bool (p.kind == 5)), doesD p.kind])) else o1 g 0) = some (SObj.blk 5 1 111 (rowOf [.v (.int .i64 (leastK p.kind)), .v (.int .i64 (mostK p.kind)), .v (.bool (p.kind == 1 || p.kind == 2)), .v (.bool (p.kind == 5)), doesD p.kind])) := ⟨n1, by omega, by omega, by omega, rfl, by simp⟩
      have hkp2 : ∀ B, keeps ⟨o1, n1⟩ ⟨St.set o1 n1 0 B, n1 + 1⟩ := fun B => (by simp only [keeps_new hn])
      have hkeys : (∀ e ∈ effL, isKeyB (.int .i64) e.1 = true) = True := eq_true eff_keys
      simp only [go_sem, ↓reduceIte, reduceCtorEq, Nat.reduceEqDiff, Nat.reduceLT, Nat.reduceLeDiff, Nat.reduceAdd, Nat.reduceSub, Nat.reduceMul, Nat.reduceGT, Int.reduceNeg, Int.reduceToNat, hm, g0, g1, g2, hl1, hl2, kindD_eq, z1, z2, z3, z4, z5, z6, z7, z8, z9, z10, z11, z12, z13, z14, z15, z16, z17, z18, z19, z20, hkp, keeps_new hn, hI, hkeys]
      exact ⟨fin, fin⟩
    · apply effects_spec
      intro o1 n1 f hf1 hf2 hs hm hkp hw
      have g0 := hs 0 0 (by omega)
      have g1 := hs 1 0 (by omega)
      have g2 := hs 2 0 (by omega)
      have g3 := hs 3 0 (by omega)
      simp only [go_sem, ↓reduceIte, reduceCtorEq, Nat.reduceEqDiff, Nat.reduceLT, Nat.reduceLeDiff, Nat.reduceAdd, Nat.reduceSub, Nat.reduceMul, Nat.reduceGT, Int.reduceNeg, Int.reduceToNat] at g0 g1 g2 g3
      have hI : (IntKind.i64 == IntKind.i64) = true := rfl
      have hkeys : (∀ e ∈ effL, isKeyB (.int .i64) e.1 = true) = True := eq_true eff_keys
      simp only [go_sem, ↓reduceIte, reduceCtorEq, Nat.reduceEqDiff, Nat.reduceLT, Nat.reduceLeDiff, Nat.reduceAdd, Nat.reduceSub, Nat.reduceMul, Nat.reduceGT, Int.reduceNeg, Int.reduceToNat, hm, g0, g1, g2, g3, hl1, hl2, kindD_eq, hkp, hI, hkeys]
      exact ⟨3, by omega, by omega, by omega, rfl, by simp⟩
  rintro x e ⟨o, nx⟩ ⟨rfl, h3, h2, h4, ho2, g, hg0, hg1, hg2, h6, hg, h7, ho0, ho1⟩
  simp only at hg ho0 ho1 ho2
  have y0 : (g = 0) = False := by simp [hg0]
  have y1 : (g = 1) = False := by simp [hg1]
  have y2 : (g = 2) = False := by simp [hg2]
  simp only [go_sem, ↓reduceIte, reduceCtorEq, Nat.reduceEqDiff, Nat.reduceLT, Nat.reduceLeDiff, Nat.reduceAdd, Nat.reduceSub, Nat.reduceMul, Nat.reduceGT, Int.reduceNeg, Int.reduceToNat, h3, h2, h4, h6, h7, ho0, ho1, ho2, hg, y0, y1, y2]
  repeat' (first | ((with_reducible refine call_at M_P M_G (zero_spec p.new) ?_); simp only [go_sem, ↓reduceIte, reduceCtorEq, Nat.reduceEqDiff, Nat.reduceLT, Nat.reduceLeDiff, Nat.reduceAdd, Nat.reduceSub, Nat.reduceMul, Nat.reduceGT, Int.reduceNeg, Int.reduceToNat, h3, h2, h4, h6, h7, ho0, ho1, ho2, hg, y0, y1, y2]) | (with_reducible refine And.intro ?_ ?_) | ((with_reducible refine ite_cases ?_ ?_) <;> intro _))
  all_goals first
    | (refine Fz_tup ⟨?_, ?_, trivial⟩
       · rw [kindD_eq]; exact (pu_eff _ _ _ _ _).fz
       · rw [formed_bad (by unfold formedA; simp_all)]; exact .v _)
    | skip
  all_goals
    have hb : p.clauses.length ≤ 400 := by
      have h1 : decide (mostK p.kind < Es.len p.clauses) = false := ‹_›
      have h2 := mostK_le p.kind
      have h3 := of_decide_eq_false h1
      simp only [Es.len] at h3; omega
    refine awp_count0 p.clauses.length (fun e0 s0 k e s => (e 2 = e0 2 ∧ e 3 = e0 3 ∧ e 4 = e0 4 ∧ e 6 = e0 6 ∧ e 48 = e0 48 ∧ e 49 = e0 49) ∧ e 50 = .v (.int .i64 k) ∧ s = s0 ∧ ∀ j : Nat, j < k → Es.inOrdB (Es.len c.clauses) p.clauses j = true) ⟨⟨rfl, rfl, rfl, rfl, rfl, rfl⟩, ?_, rfl, (by omega)⟩ ?_
    · simp only [go_sem, ↓reduceIte, reduceCtorEq, Nat.reduceEqDiff, Nat.reduceLT, Nat.reduceLeDiff, Nat.reduceAdd, Nat.reduceSub, Nat.reduceMul, Nat.reduceGT, Int.reduceNeg, Int.reduceToNat]; rfl
    rintro k e s hk ⟨⟨h2', h3', h4', h6', h48, h49⟩, h50, rfl, hall⟩
    simp only [go_sem, ↓reduceIte, reduceCtorEq, Nat.reduceEqDiff, Nat.reduceLT, Nat.reduceLeDiff, Nat.reduceAdd, Nat.reduceSub, Nat.reduceMul, Nat.reduceGT, Int.reduceNeg, Int.reduceToNat, h3, h2, h4, h6, h7, ho0, ho1, ho2, hg, y0, y1, y2] at h2' h3' h4' h6' h48 h49
    simp only [go_sem, ↓reduceIte, reduceCtorEq, Nat.reduceEqDiff, Nat.reduceLT, Nat.reduceLeDiff, Nat.reduceAdd, Nat.reduceSub, Nat.reduceMul, Nat.reduceGT, Int.reduceNeg, Int.reduceToNat, h2', h3', h4', h6', h48, h49, h50, ho0, ho1, ho2, hg, y0, y1, y2]
    have hw : IntKind.i64.wrap ((k : Int) - 1) = (k : Int) - 1 := wrap_i64 _ (by omega) (by omega)
    have hw2 : IntKind.i64.wrap ((k : Int) + 1) = (k : Int) + 1 := wrap_i64 _ (by omega) (by omega)
    refine ite_cases (fun hlt => ?_) (fun hlt => ?_)
    · have hlt' : k < p.clauses.length := Es.len_lt.1 hlt
      refine ⟨⟨by omega, hlt⟩, ?_⟩
      have hA : formedA p = true := formedA_true ‹_› ‹_› ‹_› (by first | exact .inl ‹_› | exact .inr ‹_›)
      repeat' (first | (with_reducible refine And.intro ?_ ?_) | ((with_reducible refine ite_cases ?_ ?_) <;> intro _))
      all_goals first
        | (rw [hw]; omega)
        | (rw [hw]; simp only [Es.len] at hlt ⊢; omega)
        | (refine Fz_tup ⟨?_, ?_, trivial⟩
           · rw [kindD_eq]; exact (pu_eff _ _ _ _ _).fz
           · rw [formed_order (k := k) hlt' (inOrdB_false (by simp only [decide_eq_true_eq, decide_eq_false_iff_not, hw] at *; omega))]; exact .v _)
        | (refine ⟨hlt', ?_⟩
           simp only [go_sem, ↓reduceIte, reduceCtorEq, Nat.reduceEqDiff, Nat.reduceLT, Nat.reduceLeDiff, Nat.reduceAdd, Nat.reduceSub, Nat.reduceMul, Nat.reduceGT, Int.reduceNeg, Int.reduceToNat, h2', h3', h4', h6', h48, h49, h50, h3, h2, h4, h6, hw2]
           refine ⟨by simp, Es.upto_step hall (inOrdB_true ?_ ?_ ?_)⟩ <;> (simp only [decide_eq_true_eq, decide_eq_false_iff_not, hw] at *; omega))
    · have hA : formedA p = true := formedA_true ‹_› ‹_› ‹_› (by first | exact .inl ‹_› | exact .inr ‹_›)
      have hO : Es.inOrder (Es.len c.clauses) p.clauses = true := Es.allN_end (k := k) (by simp only [Es.len] at hlt; omega) hall
      repeat' (first | (with_reducible refine And.intro ?_ ?_) | ((with_reducible refine ite_cases ?_ ?_) <;> intro _))
      · refine awp_plan ((.op 0 (.op 1 (.op 2 (.op 3 (.op 4 (.op 5 (.alt 6 (.op 7 (.op 8 (.op 9 (.op 10 .done)))) (.alt 9 (.op 6 (.op 7 (.op 8 (.op 10 .done)))) .dead))))))))) [9] mix (by kernel_rfl) ?_
        simp only [go_sem, ↓reduceIte, reduceCtorEq, Nat.reduceEqDiff, Nat.reduceLT, Nat.reduceLeDiff, Nat.reduceAdd, Nat.reduceSub, Nat.reduceMul, Nat.reduceGT, Int.reduceNeg, Int.reduceToNat, h2', h3', h4', h6', h48, h49, h50, ho0, ho1, ho2, hg, y0, y1, y2]
        repeat' (first | (with_reducible refine And.intro ?_ ?_) | ((with_reducible refine ite_cases ?_ ?_) <;> intro _))
        all_goals
          refine Fz_tup ⟨by rw [kindD_eq]; exact (pu_eff _ _ _ _ _).fz, (Fz_v _ _ _).2 (congrArg Value.bool ?_), trivial⟩
          rw [formed_eq, hA, hO]
          first | (simp_all; done) | (simp_all; intros; omega)
      · refine awp_plan ((.op 0 (.op 1 (.alt 2 (.op 3 (.op 4 (.op 5 .done))) (.alt 4 (.op 2 (.op 3 (.op 5 .done))) .dead))))) [4] mix (by kernel_rfl) ?_
        simp only [go_sem, ↓reduceIte, reduceCtorEq, Nat.reduceEqDiff, Nat.reduceLT, Nat.reduceLeDiff, Nat.reduceAdd, Nat.reduceSub, Nat.reduceMul, Nat.reduceGT, Int.reduceNeg, Int.reduceToNat, h2', h3', h4', h6', h48, h49, h50, ho0, ho1, ho2, hg, y0, y1, y2]
        repeat' (first | (with_reducible refine And.intro ?_ ?_) | ((with_reducible refine ite_cases ?_ ?_) <;> intro _))
        all_goals
          refine Fz_tup ⟨by rw [kindD_eq]; exact (pu_eff _ _ _ _ _).fz, (Fz_v _ _ _).2 (congrArg Value.bool ?_), trivial⟩
          rw [formed_eq, hA, hO]
          first | (simp_all; done) | (simp_all; intros; omega)
theorem pvalid_spec (c : Es.Contract) (hf : Es.Fits c) : APure M 70 [conD c] (.v (.bool ((Es.valid2 c).1 == 0))) := by
  refine pure_of gpu func70 rfl results70 ntmps70 (by simp) ⟨pu_conD _, trivial⟩ ?_
  intro b
  simp only [go_sem, ↓reduceIte, reduceCtorEq, Nat.reduceEqDiff, Nat.reduceLT, Nat.reduceLeDiff, Nat.reduceAdd, Nat.reduceSub, Nat.reduceMul, Nat.reduceGT, Int.reduceNeg, Int.reduceToNat]
  repeat' (first | ((with_reducible refine call_at M_P M_G (valid2_spec c hf) ?_); simp only [go_sem, ↓reduceIte, reduceCtorEq, Nat.reduceEqDiff, Nat.reduceLT, Nat.reduceLeDiff, Nat.reduceAdd, Nat.reduceSub, Nat.reduceMul, Nat.reduceGT, Int.reduceNeg, Int.reduceToNat]) | (with_reducible refine And.intro ?_ ?_) | ((with_reducible refine ite_cases ?_ ?_) <;> intro _))
end Tryd
end Go.Proofs
end
section
namespace Go.Proofs
open Go Go.Abs
set_option linter.unusedSimpArgs false
set_option linter.unusedVariables false
set_option maxRecDepth 10000
namespace Tryd
theorem eff1_spec (X : D → Value → Prop) (N : Nat) (r : Option Nat) (b : Nat) (p : Es.Patch) (f i n : Nat) (ty : TypeId) (l : List Es.Clause) (o : St) (nx : Nat) (K : D → S → Prop) (ho : o f 0 = some (.blk 16 n ty (rowsOf clsC l))) (hf : f < nx) (hn : l.length = n) (hi : i < n)
    (hk : ∀ o' nx', nx ≤ nx' → (∀ g j, g < nx → ¬ (g = f ∧ j = 0) → o' g j = o g j) → o' f 0 = some (.blk 16 n ty (rowsOf clsC (l.set i { Es.at_ l (i : Int) with waived := true }))) → K (.tup []) ⟨o', nx'⟩) :
    ACall { P := prog, G := gl, X := X, N := N, r := r, b := b } 117 [patD p, .mp f 0 16 i 0] ⟨o, nx⟩ K := by
  have n0 : (f = nx) = False := by simp only [eq_iff_iff, iff_false]; omega
  have n1 : (nx = f) = False := by simp only [eq_iff_iff, iff_false]; omega
  have hi' : i < l.length := by omega
  refine acall_ofA (M := { P := prog, G := gl, X := X, N := N, r := r, b := b }) func117 rfl results117 ntmps117 (by simp) fun b => ?_
  simp only [go_sem, ↓reduceIte, reduceCtorEq, Nat.reduceEqDiff, Nat.reduceLT, Nat.reduceLeDiff, Nat.reduceAdd, Nat.reduceSub, Nat.reduceMul, Nat.reduceGT, Int.reduceNeg, Int.reduceToNat]
  simp only [go_sem, ↓reduceIte, reduceCtorEq, Nat.reduceEqDiff, Nat.reduceLT, Nat.reduceLeDiff, Nat.reduceAdd, Nat.reduceSub, Nat.reduceMul, Nat.reduceGT, Int.reduceNeg, Int.reduceToNat, ho, n0, n1, setC_cls15 hi']
  exact ⟨hi, hk _ _ (by omega) (fun g j hg hne => by simp only [St.set]; rw [if_neg hne, if_neg (by omega)]) (by simp [St.set])⟩
theorem eff2_spec (X : D → Value → Prop) (N : Nat) (r : Option Nat) (b : Nat) (p : Es.Patch) (f i n : Nat) (ty : TypeId) (l : List Es.Clause) (o : St) (nx : Nat) (K : D → S → Prop) (ho : o f 0 = some (.blk 16 n ty (rowsOf clsC l))) (hf : f < nx) (hn : l.length = n) (hi : i < n)
    (hk : ∀ o' nx', nx ≤ nx' → (∀ g j, g < nx → ¬ (g = f ∧ j = 0) → o' g j = o g j) → o' f 0 = some (.blk 16 n ty (rowsOf clsC (l.set i p.new))) → K (.tup []) ⟨o', nx'⟩) :
    ACall { P := prog, G := gl, X := X, N := N, r := r, b := b } 118 [patD p, .mp f 0 16 i 0] ⟨o, nx⟩ K := by
  have n0 : (f = nx) = False := by simp only [eq_iff_iff, iff_false]; omega
  have n1 : (nx = f) = False := by simp only [eq_iff_iff, iff_false]; omega
  have hi' : i < l.length := by omega
  refine acall_ofA (M := { P := prog, G := gl, X := X, N := N, r := r, b := b }) func118 rfl results118 ntmps118 (by simp) fun b => ?_
  simp only [go_sem, ↓reduceIte, reduceCtorEq, Nat.reduceEqDiff, Nat.reduceLT, Nat.reduceLeDiff, Nat.reduceAdd, Nat.reduceSub, Nat.reduceMul, Nat.reduceGT, Int.reduceNeg, Int.reduceToNat]
  simp only [go_sem, ↓reduceIte, reduceCtorEq, Nat.reduceEqDiff, Nat.reduceLT, Nat.reduceLeDiff, Nat.reduceAdd, Nat.reduceSub, Nat.reduceMul, Nat.reduceGT, Int.reduceNeg, Int.reduceToNat, ho, n0, n1, setC_cls hi']
  exact ⟨hi, hk _ _ (by omega) (fun g j hg hne => by simp only [St.set]; rw [if_neg hne, if_neg (by omega)]) (by simp [St.set])⟩
theorem eff3_spec (X : D → Value → Prop) (N : Nat) (r : Option Nat) (b : Nat) (p : Es.Patch) (f i n : Nat) (ty : TypeId) (l : List Es.Clause) (o : St) (nx : Nat) (K : D → S → Prop) (ho : o f 0 = some (.blk 16 n ty (rowsOf clsC l))) (hf : f < nx) (hn : l.length = n) (hi : i < n)
    (hk : ∀ o' nx', nx ≤ nx' → (∀ g j, g < nx → ¬ (g = f ∧ j = 0) → o' g j = o g j) → o' f 0 = some (.blk 16 n ty (rowsOf clsC (l.set i { Es.at_ l (i : Int) with after := p.days }))) → K (.tup []) ⟨o', nx'⟩) :
    ACall { P := prog, G := gl, X := X, N := N, r := r, b := b } 119 [patD p, .mp f 0 16 i 0] ⟨o, nx⟩ K := by
  have n0 : (f = nx) = False := by simp only [eq_iff_iff, iff_false]; omega
  have n1 : (nx = f) = False := by simp only [eq_iff_iff, iff_false]; omega
  have hi' : i < l.length := by omega
  refine acall_ofA (M := { P := prog, G := gl, X := X, N := N, r := r, b := b }) func119 rfl results119 ntmps119 (by simp) fun b => ?_
  simp only [go_sem, ↓reduceIte, reduceCtorEq, Nat.reduceEqDiff, Nat.reduceLT, Nat.reduceLeDiff, Nat.reduceAdd, Nat.reduceSub, Nat.reduceMul, Nat.reduceGT, Int.reduceNeg, Int.reduceToNat]
  simp only [go_sem, ↓reduceIte, reduceCtorEq, Nat.reduceEqDiff, Nat.reduceLT, Nat.reduceLeDiff, Nat.reduceAdd, Nat.reduceSub, Nat.reduceMul, Nat.reduceGT, Int.reduceNeg, Int.reduceToNat, ho, n0, n1, setC_cls5 hi']
  exact ⟨hi, hk _ _ (by omega) (fun g j hg hne => by simp only [St.set]; rw [if_neg hne, if_neg (by omega)]) (by simp [St.set])⟩

/-- What a patch does to a clause that it names. -/
theorem does_all (p : Es.Patch) (hp : 2 ≤ p.kind ∧ p.kind ≤ 5) : ∃ g, doesD p.kind = .fn (.func g) [] ∧ callable prog g = true ∧
    ∀ (X : D → Value → Prop) (N : Nat) (r : Option Nat) (b : Nat) (f i n : Nat) (ty : TypeId) (l : List Es.Clause) (o : St) (nx : Nat) (K : D → S → Prop), o f 0 = some (.blk 16 n ty (rowsOf clsC l)) → f < nx → l.length = n → i < n →
    (∀ o' nx', nx ≤ nx' → (∀ g j, g < nx → ¬ (g = f ∧ j = 0) → o' g j = o g j) → o' f 0 = some (.blk 16 n ty (rowsOf clsC (l.set i (Es.change p (Es.at_ l (i : Int)))))) → K (.tup []) ⟨o', nx'⟩) →
    ACall { P := prog, G := gl, X := X, N := N, r := r, b := b } g [patD p, .mp f 0 16 i 0] ⟨o, nx⟩ K := by
  by_cases h2 : p.kind = 2
  · refine ⟨118, by unfold doesD; rw [if_pos h2], by simp only [go_sem], fun X N r b f i n ty l o nx K ho hf hn hi hk => eff2_spec X N r b p f i n ty l o nx K ho hf hn hi ?_⟩
    rwa [show Es.change p (Es.at_ l (i : Int)) = p.new by unfold Es.change; rw [if_pos (by simpa using h2)]] at hk
  by_cases h34 : p.kind = 3 ∨ p.kind = 4
  · refine ⟨117, by unfold doesD; rw [if_neg h2, if_pos h34], by simp only [go_sem], fun X N r b f i n ty l o nx K ho hf hn hi hk => eff1_spec X N r b p f i n ty l o nx K ho hf hn hi ?_⟩
    rwa [show Es.change p (Es.at_ l (i : Int)) = { Es.at_ l (i : Int) with waived := true } by unfold Es.change; rw [if_neg (by simpa using h2), if_neg (by simp; omega)]] at hk
  have h5 : p.kind = 5 := by omega
  refine ⟨119, by unfold doesD; rw [if_neg h2, if_neg h34, if_pos h5], by simp only [go_sem], fun X N r b f i n ty l o nx K ho hf hn hi hk => eff3_spec X N r b p f i n ty l o nx K ho hf hn hi ?_⟩
  rwa [show Es.change p (Es.at_ l (i : Int)) = { Es.at_ l (i : Int) with after := p.days } by unfold Es.change; rw [if_neg (by simpa using h2), if_pos (by simpa using h5)]] at hk
theorem cloneC_spec (X : D → Value → Prop) (N : Nat) (r : Option Nat) (b : Nat) (l : List Es.Clause) (hl : l.length ≤ 100000000) (o : St) (nx : Nat) (K : D → S → Prop) (hw : WfO o nx)
    (hk : ∀ o' nx' f, nx ≤ f → f < nx' → SameB nx o o' → WfO o' nx' → o' f 0 = some (.blk 16 l.length 60 (rowsOf clsC l)) → K (.ms f 0 16 0 l.length) ⟨o', nx'⟩) :
    ACall { P := prog, G := gl, X := X, N := N, r := r, b := b } 71 [slD 16 clsC l] ⟨o, nx⟩ K := by
  refine acall_nil 16 60 (rowsOf clsC l) ?_
  refine acall_ofA (M := { P := prog, G := gl, X := X, N := N, r := r, b := b }) func71 rfl results71 ntmps71 (by simp) fun b => ?_
  simp only [go_sem, ↓reduceIte, reduceCtorEq, Nat.reduceEqDiff, Nat.reduceLT, Nat.reduceLeDiff, Nat.reduceAdd, Nat.reduceSub, Nat.reduceMul, Nat.reduceGT, Int.reduceNeg, Int.reduceToNat]
  intro q hq
  refine ite_cases (fun h => ?_) (fun h => ?_)
  · have h0 := hq h
    refine .inr ?_
    have := hk (St.set o nx 0 (some (.blk 16 0 60 (rowsOf clsC l)))) (nx + 1) nx (Nat.le_refl _) (by omega) (SameB.set (SameB.refl _ _) (Nat.le_refl _) _ _) (hw.set (by omega) (by omega)) (by simp [St.set, h0])
    rw [h0] at this; exact this
  · refine ⟨⟨by omega, by omega⟩, ?_⟩
    have hc : ∀ cell, appC cell 0 (rowsOf clsC l) = rowsOf clsC l := fun cell => by funext r c; simp [appC]
    rw [hc, Nat.zero_add]
    exact hk _ _ (nx + 1) (by omega) (by omega) (SameB.set (SameB.set (SameB.refl _ _) (Nat.le_refl _) _ _) (by omega) _ _) ((hw.set (nx' := nx + 1) (by omega) (by omega)).set (by omega) (by omega)) (by simp [St.set])
end Tryd
end Go.Proofs
end
section
namespace Go.Proofs
open Go Go.Abs
set_option linter.unusedSimpArgs false
set_option linter.unusedVariables false
set_option maxRecDepth 10000
namespace Tryd
theorem fz_zeroC (s : S) : Fz s (.agg [.v (.int .i64 0), .v (.slice none 0 0), .v (.slice none 0 0), .v (.slice none 0 0), .v (.slice none 0 0), .v (.int .i64 0), .v (.slice none 0 0)]) (conD Es.zeroCon) := Fz_agg ⟨.v _, .nil _ _, .nil _ _, .nil _ _, .nil _ _, .v _, .nil _ _, trivial⟩
def resC (x : Es.Contract × Int) : D := .tup [conD x.1, .v (.int .i64 x.2)]
@[go_sem] theorem resC_eq (x : Es.Contract × Int) : resC x = .tup [conD x.1, .v (.int .i64 x.2)] := nr rfl
theorem fz_bad {s : S} {x : Es.Contract × Int} {e : Int} (h : x = (Es.zeroCon, e)) : Fz s (.tup [.agg [.v (.int .i64 0), .v (.slice none 0 0), .v (.slice none 0 0), .v (.slice none 0 0), .v (.slice none 0 0), .v (.int .i64 0), .v (.slice none 0 0)], .v (.int .i64 e)]) (.tup [conD x.1, .v (.int .i64 x.2)]) := by
  subst h; exact Fz_tup ⟨fz_zeroC s, .v _, trivial⟩
theorem app_cls {l : List Es.Clause} {x : Es.Clause} {src : Nat → Nat → D} (hs : ∀ j, j < 16 → src 0 j = clsC x j) : ∀ r c, r < l.length + 1 → c < 16 → appC (rowsOf clsC l) l.length src r c = rowsOf clsC (l ++ [x]) r c := by
  intro r c hr hc
  simp only [appC]
  by_cases h1 : r < l.length
  · rw [if_pos h1]; simp [rowsOf, List.getD_eq_getElem?_getD, h1, List.getElem?_append_left h1]
  · have : r = l.length := by omega
    subst this
    rw [if_neg h1, Nat.sub_self, hs c hc]; simp [rowsOf, List.getD_eq_getElem?_getD]
theorem apply_spec (c : Es.Contract) (p : Es.Patch) (hf : Es.Fits c) : APure M 36 [conD c, patD p] (resC (Es.applyP c p)) := by
  refine pure_of gpu func36 rfl results36 ntmps36 (by simp) ⟨pu_conD _, pu_patD _, trivial⟩ ?_
  intro b
  simp only [go_sem, ↓reduceIte, reduceCtorEq, Nat.reduceEqDiff, Nat.reduceLT, Nat.reduceLeDiff, Nat.reduceAdd, Nat.reduceSub, Nat.reduceMul, Nat.reduceGT, Int.reduceNeg, Int.reduceToNat]
  have hkc : (kindD p.kind).cells? = some [.v (.int .i64 (leastK p.kind)), .v (.int .i64 (mostK p.kind)), .v (.bool (p.kind == 1 || p.kind == 2)), .v (.bool (p.kind == 5)), doesD p.kind] := by rw [kindD_eq]; rfl
  repeat' (first | ((with_reducible refine call_at M_P M_G (formed_spec c p) ?_); simp only [go_sem, ↓reduceIte, reduceCtorEq, Nat.reduceEqDiff, Nat.reduceLT, Nat.reduceLeDiff, Nat.reduceAdd, Nat.reduceSub, Nat.reduceMul, Nat.reduceGT, Int.reduceNeg, Int.reduceToNat, hkc]) | ((with_reducible refine call_at M_P M_G (pvalid_spec c hf) ?_); simp only [go_sem, ↓reduceIte, reduceCtorEq, Nat.reduceEqDiff, Nat.reduceLT, Nat.reduceLeDiff, Nat.reduceAdd, Nat.reduceSub, Nat.reduceMul, Nat.reduceGT, Int.reduceNeg, Int.reduceToNat, hkc]) | (with_reducible refine And.intro ?_ ?_) | ((with_reducible refine ite_cases ?_ ?_) <;> intro _))
  all_goals first
    | (refine fz_bad ?_; unfold Es.applyP; rw [if_pos (by simp_all)]; done)
    | skip
  have hv : (Es.valid2 c).1 = 0 := by simp_all
  have hF : Es.formed c p = true := by simp_all
  have hlen : c.clauses.length ≤ 400 := by
    have := (Es.valid2_ok hv).small; omega
  have hgood : Es.applyP c p = if p.kind == 1 && Es.len c.clauses == 400 then (Es.zeroCon, 3) else if !((Es.valid2 (Es.changed c p)).1 == 0) then (Es.zeroCon, 1) else (Es.changed c p, 0) := by
    unfold Es.applyP; rw [if_neg (by simp_all)]
  obtain ⟨hA, hO⟩ : formedA p = true ∧ Es.inOrder (Es.len c.clauses) p.clauses = true := by
    rw [formed_eq] at hF; simp only [Bool.and_eq_true] at hF; exact hF.1
  have hmost : p.clauses.length ≤ 400 ∧ (p.kind = 1 → p.clauses.length = 0) ∧ (1 ≤ p.kind ∧ p.kind ≤ 5) := by
    unfold formedA at hA
    simp only [Bool.and_eq_true, Bool.not_eq_true', decide_eq_false_iff_not, oneOf_eq, decide_eq_true_eq] at hA
    have h2 := mostK_le p.kind
    refine ⟨by have := hA.1.2; simp only [Es.len] at this; omega, fun h1 => ?_, hA.1.1.1⟩
    have h3 : mostK p.kind = 0 := by rw [h1]; rfl
    have := hA.1.2; rw [h3] at this; simp only [Es.len] at this; omega
  have hk25 : ∀ {k : Nat}, k < p.clauses.length → 2 ≤ p.kind ∧ p.kind ≤ 5 := fun h => by
    obtain ⟨_, h1, h2, h3⟩ := hmost
    refine ⟨?_, h3⟩
    rcases Int.lt_or_le p.kind 2 with h | h
    · have : p.kind = 1 := by omega
      have := h1 this; omega
    · exact h
  refine acall_wf fun hw => ?_
  simp only at hw
  refine cloneC_spec _ _ _ _ c.clauses (by omega) _ _ _ hw fun o1 n1 g hg1 hg2 hs hw1 ho1 => ?_
  have g0 := hs 0 0 (by omega)
  have g1 := hs 1 0 (by omega)
  have g2 := hs 2 0 (by omega)
  have g3 := hs 3 0 (by omega)
  simp only [go_sem, ↓reduceIte, reduceCtorEq, Nat.reduceEqDiff, Nat.reduceLT, Nat.reduceLeDiff, Nat.reduceAdd, Nat.reduceSub, Nat.reduceMul, Nat.reduceGT, Int.reduceNeg, Int.reduceToNat] at g0 g1 g2 g3
  have e0 : ∀ {a b : Nat}, a ≠ b → (a = b) = False := fun h => by simp [h]
  have z1 : (0 = 1) = False := e0 (by omega); have z2 : (0 = 2) = False := e0 (by omega); have z3 : (0 = 3) = False := e0 (by omega); have z4 : (0 = g) = False := e0 (by omega); have z5 : (0 = n1) = False := e0 (by omega); have z6 : (0 = n1 + 1) = False := e0 (by omega); have z7 : (1 = 0) = False := e0 (by omega); have z8 : (1 = 2) = False := e0 (by omega); have z9 : (1 = 3) = False := e0 (by omega); have z10 : (1 = g) = False := e0 (by omega); have z11 : (1 = n1) = False := e0 (by omega); have z12 : (1 = n1 + 1) = False := e0 (by omega); have z13 : (2 = 0) = False := e0 (by omega); have z14 : (2 = 1) = False := e0 (by omega); have z15 : (2 = 3) = False := e0 (by omega); have z16 : (2 = g) = False := e0 (by omega); have z17 : (2 = n1) = False := e0 (by omega); have z18 : (2 = n1 + 1) = False := e0 (by omega); have z19 : (3 = 0) = False := e0 (by omega); have z20 : (3 = 1) = False := e0 (by omega); have z21 : (3 = 2) = False := e0 (by omega); have z22 : (3 = g) = False := e0 (by omega); have z23 : (3 = n1) = False := e0 (by omega); have z24 : (3 = n1 + 1) = False := e0 (by omega); have z25 : (g = 0) = False := e0 (by omega); have z26 : (g = 1) = False := e0 (by omega); have z27 : (g = 2) = False := e0 (by omega); have z28 : (g = 3) = False := e0 (by omega); have z29 : (g = n1) = False := e0 (by omega); have z30 : (g = n1 + 1) = False := e0 (by omega); have z31 : (n1 = 0) = False := e0 (by omega); have z32 : (n1 = 1) = False := e0 (by omega); have z33 : (n1 = 2) = False := e0 (by omega); have z34 : (n1 = 3) = False := e0 (by omega); have z35 : (n1 = g) = False := e0 (by omega); have z36 : (n1 = n1 + 1) = False := e0 (by omega); have z37 : (n1 + 1 = 0) = False := e0 (by omega); have z38 : (n1 + 1 = 1) = False := e0 (by omega); have z39 : (n1 + 1 = 2) = False := e0 (by omega); have z40 : (n1 + 1 = 3) = False := e0 (by omega); have z41 : (n1 + 1 = g) = False := e0 (by omega); have z42 : (n1 + 1 = n1) = False := e0 (by omega)
  simp only [go_sem, ↓reduceIte, reduceCtorEq, Nat.reduceEqDiff, Nat.reduceLT, Nat.reduceLeDiff, Nat.reduceAdd, Nat.reduceSub, Nat.reduceMul, Nat.reduceGT, Int.reduceNeg, Int.reduceToNat, g0, g1, g2, g3, ho1, z1, z2, z3, z4, z5, z6, z7, z8, z9, z10, z11, z12, z13, z14, z15, z16, z17, z18, z19, z20, z21, z22, z23, z24, z25, z26, z27, z28, z29, z30, z31, z32, z33, z34, z35, z36, z37, z38, z39, z40, z41, z42]
  refine ite_cases (fun hk1 => ?_) (fun hk1 => ?_)
  · refine ite_cases (fun h400 => ?_) (fun h400 => ?_)
    · refine fz_bad ?_
      rw [hgood, if_pos (by rw [hk1, show (Es.len c.clauses == 400) = true from h400]; rfl)]
    refine ⟨⟨by omega, by omega⟩, ?_⟩
    have hbase : Es.changedL p c.clauses = p.clauses.foldl (Es.changeAt p) (c.clauses ++ [p.new]) := by unfold Es.changedL; rw [if_pos hk1]
    have hno : ¬ (p.kind == 1 && Es.len c.clauses == 400) = true := by
      rw [hk1, Bool.true_and]; exact h400
    refine awp_cells (f := n1 + 1) (k := 16) (n := c.clauses.length + 1) (cell' := rowsOf clsC (c.clauses ++ [p.new])) (by simp only [go_sem, ↓reduceIte, reduceCtorEq, Nat.reduceEqDiff, Nat.reduceLT, Nat.reduceLeDiff, Nat.reduceAdd, Nat.reduceSub, Nat.reduceMul, Nat.reduceGT, Int.reduceNeg, Int.reduceToNat, g0, g1, g2, g3, ho1, z1, z2, z3, z4, z5, z6, z7, z8, z9, z10, z11, z12, z13, z14, z15, z16, z17, z18, z19, z20, z21, z22, z23, z24, z25, z26, z27, z28, z29, z30, z31, z32, z33, z34, z35, z36, z37, z38, z39, z40, z41, z42]; rfl) (app_cls fun j hj => ?_) ?_
    · rcases (show j = 0 ∨ j = 1 ∨ j = 2 ∨ j = 3 ∨ j = 4 ∨ j = 5 ∨ j = 6 ∨ j = 7 ∨ j = 8 ∨ j = 9 ∨ j = 10 ∨ j = 11 ∨ j = 12 ∨ j = 13 ∨ j = 14 ∨ j = 15 by omega) with rfl | rfl | rfl | rfl | rfl | rfl | rfl | rfl | rfl | rfl | rfl | rfl | rfl | rfl | rfl | rfl <;> rfl
    refine awp_count0 p.clauses.length (fun e0 s0 k e s => (e 2 = e0 2 ∧ e 3 = e0 3 ∧ e 4 = e0 4 ∧ e 6 = e0 6 ∧ e 44 = e0 44 ∧ e 45 = e0 45) ∧ e 46 = .v (.int .i64 k) ∧ s0.nx ≤ s.nx ∧ (∀ gg j, gg < s0.nx → ¬ (gg = n1 + 1 ∧ j = 0) → s.o gg j = s0.o gg j) ∧ s.o (n1 + 1) 0 = some (.blk 16 (c.clauses.length + 1) 60 (rowsOf clsC ((p.clauses.take k).foldl (Es.changeAt p) (c.clauses ++ [p.new]))))) ⟨⟨rfl, rfl, rfl, rfl, rfl, rfl⟩, ?_, Nat.le_refl _, fun _ _ _ _ => rfl, ?_⟩ ?_
    · simp only [go_sem, ↓reduceIte, reduceCtorEq, Nat.reduceEqDiff, Nat.reduceLT, Nat.reduceLeDiff, Nat.reduceAdd, Nat.reduceSub, Nat.reduceMul, Nat.reduceGT, Int.reduceNeg, Int.reduceToNat]; rfl
    · simp only [go_sem, ↓reduceIte, reduceCtorEq, Nat.reduceEqDiff, Nat.reduceLT, Nat.reduceLeDiff, Nat.reduceAdd, Nat.reduceSub, Nat.reduceMul, Nat.reduceGT, Int.reduceNeg, Int.reduceToNat, g0, g1, g2, g3, ho1, z1, z2, z3, z4, z5, z6, z7, z8, z9, z10, z11, z12, z13, z14, z15, z16, z17, z18, z19, z20, z21, z22, z23, z24, z25, z26, z27, z28, z29, z30, z31, z32, z33, z34, z35, z36, z37, z38, z39, z40, z41, z42, List.take_zero, List.foldl_nil]
    rintro k e ⟨o2, n2⟩ hk ⟨⟨h2, h3, h4, h6, h44, h45⟩, h46, hn2, hold, hG⟩
    simp only at hn2 hold hG
    have hx0 := hold 0 0 (by omega) (by omega)
    have hx1 := hold 1 0 (by omega) (by omega)
    have hx2 := hold 2 0 (by omega) (by omega)
    have hx3 := hold 3 0 (by omega) (by omega)
    simp only [go_sem, ↓reduceIte, reduceCtorEq, Nat.reduceEqDiff, Nat.reduceLT, Nat.reduceLeDiff, Nat.reduceAdd, Nat.reduceSub, Nat.reduceMul, Nat.reduceGT, Int.reduceNeg, Int.reduceToNat, g0, g1, g2, g3, ho1, z1, z2, z3, z4, z5, z6, z7, z8, z9, z10, z11, z12, z13, z14, z15, z16, z17, z18, z19, z20, z21, z22, z23, z24, z25, z26, z27, z28, z29, z30, z31, z32, z33, z34, z35, z36, z37, z38, z39, z40, z41, z42] at h2 h3 h4 h6 h44 h45 hx0 hx1 hx2 hx3
    have hlenk : ((p.clauses.take k).foldl (Es.changeAt p) (c.clauses ++ [p.new])).length = c.clauses.length + 1 := by rw [Es.changeF_len]; try simp
    simp only [go_sem, ↓reduceIte, reduceCtorEq, Nat.reduceEqDiff, Nat.reduceLT, Nat.reduceLeDiff, Nat.reduceAdd, Nat.reduceSub, Nat.reduceMul, Nat.reduceGT, Int.reduceNeg, Int.reduceToNat, h2, h3, h4, h6, h44, h45, h46]
    have hw2 : IntKind.i64.wrap ((k : Int) + 1) = (k : Int) + 1 := wrap_i64 _ (by omega) (by omega)
    refine ite_cases (fun hlt => ?_) (fun hlt => ?_)
    · have hlt' : k < p.clauses.length := Es.len_lt.1 hlt
      refine ⟨⟨by omega, hlt⟩, ?_⟩
      obtain ⟨hi0, hi1⟩ := Es.inOrder_at hO hlt'
      refine awp_plan ((.op 0 (.op 1 (.op 2 (.op 3 (.op 4 (.op 5 (.op 6 (.op 7 .done))))))))) [7] mix (by kernel_rfl) ?_
      obtain ⟨gf, hgf, hcl, hdo⟩ := does_all p (hk25 hlt')
      have w1 : (0 = 1) = False := e0 (by omega); have w2 : (0 = 2) = False := e0 (by omega); have w3 : (0 = 3) = False := e0 (by omega); have w4 : (0 = n1 + 1) = False := e0 (by omega); have w5 : (0 = n2) = False := e0 (by omega); have w6 : (1 = 0) = False := e0 (by omega); have w7 : (1 = 2) = False := e0 (by omega); have w8 : (1 = 3) = False := e0 (by omega); have w9 : (1 = n1 + 1) = False := e0 (by omega); have w10 : (1 = n2) = False := e0 (by omega); have w11 : (2 = 0) = False := e0 (by omega); have w12 : (2 = 1) = False := e0 (by omega); have w13 : (2 = 3) = False := e0 (by omega); have w14 : (2 = n1 + 1) = False := e0 (by omega); have w15 : (2 = n2) = False := e0 (by omega); have w16 : (3 = 0) = False := e0 (by omega); have w17 : (3 = 1) = False := e0 (by omega); have w18 : (3 = 2) = False := e0 (by omega); have w19 : (3 = n1 + 1) = False := e0 (by omega); have w20 : (3 = n2) = False := e0 (by omega); have w21 : (n1 + 1 = 0) = False := e0 (by omega); have w22 : (n1 + 1 = 1) = False := e0 (by omega); have w23 : (n1 + 1 = 2) = False := e0 (by omega); have w24 : (n1 + 1 = 3) = False := e0 (by omega); have w25 : (n1 + 1 = n2) = False := e0 (by omega); have w26 : (n2 = 0) = False := e0 (by omega); have w27 : (n2 = 1) = False := e0 (by omega); have w28 : (n2 = 2) = False := e0 (by omega); have w29 : (n2 = 3) = False := e0 (by omega); have w30 : (n2 = n1 + 1) = False := e0 (by omega)
      simp only [go_sem, ↓reduceIte, reduceCtorEq, Nat.reduceEqDiff, Nat.reduceLT, Nat.reduceLeDiff, Nat.reduceAdd, Nat.reduceSub, Nat.reduceMul, Nat.reduceGT, Int.reduceNeg, Int.reduceToNat, h2, h3, h4, h6, h44, h45, h46, hx0, hx1, hx2, hx3, hG, hgf, hcl, w1, w2, w3, w4, w5, w6, w7, w8, w9, w10, w11, w12, w13, w14, w15, w16, w17, w18, w19, w20, w21, w22, w23, w24, w25, w26, w27, w28, w29, w30]
      refine ⟨⟨hi0, by simp only [Es.len] at hi1; omega⟩, ?_⟩
      refine hdo _ _ _ _ (n1 + 1) (0 + (Es.at_ p.clauses (k : Int)).toNat) (c.clauses.length + 1) _ _ _ _ _ hG (by omega) hlenk (by simp only [Es.len] at hi1; omega) fun o3 n3 hn3 hs3 ho3 => ?_
      simp only [go_sem, ↓reduceIte, reduceCtorEq, Nat.reduceEqDiff, Nat.reduceLT, Nat.reduceLeDiff, Nat.reduceAdd, Nat.reduceSub, Nat.reduceMul, Nat.reduceGT, Int.reduceNeg, Int.reduceToNat, h2, h3, h4, h6, h44, h45, h46, hw2]
      refine ⟨hlt', ?_⟩
      simp only [go_sem, ↓reduceIte, reduceCtorEq, Nat.reduceEqDiff, Nat.reduceLT, Nat.reduceLeDiff, Nat.reduceAdd, Nat.reduceSub, Nat.reduceMul, Nat.reduceGT, Int.reduceNeg, Int.reduceToNat, h2, h3, h4, h6, h44, h45, h46, hw2]
      refine ⟨by simp, by omega, fun gg j h1 h2 => (hs3 gg j (by omega) h2).trans (hold gg j h1 h2), ?_⟩
      rw [Es.take_at hlt', List.foldl_append]
      rw [show (((0 + (Es.at_ p.clauses (k : Int)).toNat : Nat)) : Int) = Es.at_ p.clauses (k : Int) by omega, Nat.zero_add] at ho3
      exact ho3
    · have hkk : k = p.clauses.length := by simp only [Es.len] at hlt; omega
      subst hkk
      rw [List.take_length] at hG hlenk
      have hch : Es.changed c p = { c with clauses := p.clauses.foldl (Es.changeAt p) (c.clauses ++ [p.new]) } := by unfold Es.changed; rw [hbase]
      have hfit : Es.Fits (Es.changed c p) := by
        rw [hch]; exact ⟨hf.holders, hf.units, hf.acts, by simp only [hlenk]; omega, hf.off⟩
      have w1 : (0 = 1) = False := e0 (by omega); have w2 : (0 = 2) = False := e0 (by omega); have w3 : (0 = 3) = False := e0 (by omega); have w4 : (0 = n1 + 1) = False := e0 (by omega); have w5 : (0 = n2) = False := e0 (by omega); have w6 : (1 = 0) = False := e0 (by omega); have w7 : (1 = 2) = False := e0 (by omega); have w8 : (1 = 3) = False := e0 (by omega); have w9 : (1 = n1 + 1) = False := e0 (by omega); have w10 : (1 = n2) = False := e0 (by omega); have w11 : (2 = 0) = False := e0 (by omega); have w12 : (2 = 1) = False := e0 (by omega); have w13 : (2 = 3) = False := e0 (by omega); have w14 : (2 = n1 + 1) = False := e0 (by omega); have w15 : (2 = n2) = False := e0 (by omega); have w16 : (3 = 0) = False := e0 (by omega); have w17 : (3 = 1) = False := e0 (by omega); have w18 : (3 = 2) = False := e0 (by omega); have w19 : (3 = n1 + 1) = False := e0 (by omega); have w20 : (3 = n2) = False := e0 (by omega); have w21 : (n1 + 1 = 0) = False := e0 (by omega); have w22 : (n1 + 1 = 1) = False := e0 (by omega); have w23 : (n1 + 1 = 2) = False := e0 (by omega); have w24 : (n1 + 1 = 3) = False := e0 (by omega); have w25 : (n1 + 1 = n2) = False := e0 (by omega); have w26 : (n2 = 0) = False := e0 (by omega); have w27 : (n2 = 1) = False := e0 (by omega); have w28 : (n2 = 2) = False := e0 (by omega); have w29 : (n2 = 3) = False := e0 (by omega); have w30 : (n2 = n1 + 1) = False := e0 (by omega)
      simp only [go_sem, ↓reduceIte, reduceCtorEq, Nat.reduceEqDiff, Nat.reduceLT, Nat.reduceLeDiff, Nat.reduceAdd, Nat.reduceSub, Nat.reduceMul, Nat.reduceGT, Int.reduceNeg, Int.reduceToNat, h2, h3, h4, h6, h44, h45, h46, hx0, hx1, hx2, hx3, hG, w1, w2, w3, w4, w5, w6, w7, w8, w9, w10, w11, w12, w13, w14, w15, w16, w17, w18, w19, w20, w21, w22, w23, w24, w25, w26, w27, w28, w29, w30]
      refine lend_at M_P M_G (pvalid_spec (Es.changed c p) hfit) gpu (.v _) ⟨?_, trivial⟩ ?_
      · rw [hch]
        exact Fz_agg ⟨.v _, (pu_slD pu_intC _).fz, (pu_slD pu_untC _).fz, (pu_slD pu_actC _).fz, fz_rows hG hlenk.symm pu_clsC, .v _, (pu_slD pu_intC _).fz, trivial⟩
      simp only [go_sem, ↓reduceIte, reduceCtorEq, Nat.reduceEqDiff, Nat.reduceLT, Nat.reduceLeDiff, Nat.reduceAdd, Nat.reduceSub, Nat.reduceMul, Nat.reduceGT, Int.reduceNeg, Int.reduceToNat, h2, h3, h4, h6, h44, h45, h46, hx0, hx1, hx2, hx3, hG, w1, w2, w3, w4, w5, w6, w7, w8, w9, w10, w11, w12, w13, w14, w15, w16, w17, w18, w19, w20, w21, w22, w23, w24, w25, w26, w27, w28, w29, w30]
      refine ite_cases (fun hv2 => ?_) (fun hv2 => ?_)
      · refine fz_bad ?_
        rw [hgood, if_neg hno, if_pos hv2]
      · rw [hgood, if_neg hno, if_neg hv2, hch]
        refine Fz_tup ⟨Fz_agg ⟨.v _, (pu_slD pu_intC _).fz, (pu_slD pu_untC _).fz, (pu_slD pu_actC _).fz, fz_rows (ty := 60) ?_ hlenk.symm pu_clsC, .v _, (pu_slD pu_intC _).fz, trivial⟩, .v _, trivial⟩
        simp only [St.set]; (repeat rw [if_neg (by omega)]); exact hG
  · have hbase : Es.changedL p c.clauses = p.clauses.foldl (Es.changeAt p) c.clauses := by unfold Es.changedL; rw [if_neg hk1]
    have hno : ¬ (p.kind == 1 && Es.len c.clauses == 400) = true := by simp_all
    refine awp_count0 p.clauses.length (fun e0 s0 k e s => (e 2 = e0 2 ∧ e 3 = e0 3 ∧ e 4 = e0 4 ∧ e 6 = e0 6 ∧ e 44 = e0 44 ∧ e 45 = e0 45) ∧ e 46 = .v (.int .i64 k) ∧ s0.nx ≤ s.nx ∧ (∀ gg j, gg < s0.nx → ¬ (gg = g ∧ j = 0) → s.o gg j = s0.o gg j) ∧ s.o (g) 0 = some (.blk 16 (c.clauses.length) 60 (rowsOf clsC ((p.clauses.take k).foldl (Es.changeAt p) (c.clauses))))) ⟨⟨rfl, rfl, rfl, rfl, rfl, rfl⟩, ?_, Nat.le_refl _, fun _ _ _ _ => rfl, ?_⟩ ?_
    · simp only [go_sem, ↓reduceIte, reduceCtorEq, Nat.reduceEqDiff, Nat.reduceLT, Nat.reduceLeDiff, Nat.reduceAdd, Nat.reduceSub, Nat.reduceMul, Nat.reduceGT, Int.reduceNeg, Int.reduceToNat]; rfl
    · simp only [go_sem, ↓reduceIte, reduceCtorEq, Nat.reduceEqDiff, Nat.reduceLT, Nat.reduceLeDiff, Nat.reduceAdd, Nat.reduceSub, Nat.reduceMul, Nat.reduceGT, Int.reduceNeg, Int.reduceToNat, g0, g1, g2, g3, ho1, z1, z2, z3, z4, z5, z6, z7, z8, z9, z10, z11, z12, z13, z14, z15, z16, z17, z18, z19, z20, z21, z22, z23, z24, z25, z26, z27, z28, z29, z30, z31, z32, z33, z34, z35, z36, z37, z38, z39, z40, z41, z42, List.take_zero, List.foldl_nil]
    rintro k e ⟨o2, n2⟩ hk ⟨⟨h2, h3, h4, h6, h44, h45⟩, h46, hn2, hold, hG⟩
    simp only at hn2 hold hG
    have hx0 := hold 0 0 (by omega) (by omega)
    have hx1 := hold 1 0 (by omega) (by omega)
    have hx2 := hold 2 0 (by omega) (by omega)
    have hx3 := hold 3 0 (by omega) (by omega)
    simp only [go_sem, ↓reduceIte, reduceCtorEq, Nat.reduceEqDiff, Nat.reduceLT, Nat.reduceLeDiff, Nat.reduceAdd, Nat.reduceSub, Nat.reduceMul, Nat.reduceGT, Int.reduceNeg, Int.reduceToNat, g0, g1, g2, g3, ho1, z1, z2, z3, z4, z5, z6, z7, z8, z9, z10, z11, z12, z13, z14, z15, z16, z17, z18, z19, z20, z21, z22, z23, z24, z25, z26, z27, z28, z29, z30, z31, z32, z33, z34, z35, z36, z37, z38, z39, z40, z41, z42] at h2 h3 h4 h6 h44 h45 hx0 hx1 hx2 hx3
    have hlenk : ((p.clauses.take k).foldl (Es.changeAt p) (c.clauses)).length = c.clauses.length := by rw [Es.changeF_len]; try simp
    simp only [go_sem, ↓reduceIte, reduceCtorEq, Nat.reduceEqDiff, Nat.reduceLT, Nat.reduceLeDiff, Nat.reduceAdd, Nat.reduceSub, Nat.reduceMul, Nat.reduceGT, Int.reduceNeg, Int.reduceToNat, h2, h3, h4, h6, h44, h45, h46]
    have hw2 : IntKind.i64.wrap ((k : Int) + 1) = (k : Int) + 1 := wrap_i64 _ (by omega) (by omega)
    refine ite_cases (fun hlt => ?_) (fun hlt => ?_)
    · have hlt' : k < p.clauses.length := Es.len_lt.1 hlt
      refine ⟨⟨by omega, hlt⟩, ?_⟩
      obtain ⟨hi0, hi1⟩ := Es.inOrder_at hO hlt'
      refine awp_plan ((.op 0 (.op 1 (.op 2 (.op 3 (.op 4 (.op 5 (.op 6 (.op 7 .done))))))))) [7] mix (by kernel_rfl) ?_
      obtain ⟨gf, hgf, hcl, hdo⟩ := does_all p (hk25 hlt')
      have w1 : (0 = 1) = False := e0 (by omega); have w2 : (0 = 2) = False := e0 (by omega); have w3 : (0 = 3) = False := e0 (by omega); have w4 : (0 = g) = False := e0 (by omega); have w5 : (0 = n2) = False := e0 (by omega); have w6 : (1 = 0) = False := e0 (by omega); have w7 : (1 = 2) = False := e0 (by omega); have w8 : (1 = 3) = False := e0 (by omega); have w9 : (1 = g) = False := e0 (by omega); have w10 : (1 = n2) = False := e0 (by omega); have w11 : (2 = 0) = False := e0 (by omega); have w12 : (2 = 1) = False := e0 (by omega); have w13 : (2 = 3) = False := e0 (by omega); have w14 : (2 = g) = False := e0 (by omega); have w15 : (2 = n2) = False := e0 (by omega); have w16 : (3 = 0) = False := e0 (by omega); have w17 : (3 = 1) = False := e0 (by omega); have w18 : (3 = 2) = False := e0 (by omega); have w19 : (3 = g) = False := e0 (by omega); have w20 : (3 = n2) = False := e0 (by omega); have w21 : (g = 0) = False := e0 (by omega); have w22 : (g = 1) = False := e0 (by omega); have w23 : (g = 2) = False := e0 (by omega); have w24 : (g = 3) = False := e0 (by omega); have w25 : (g = n2) = False := e0 (by omega); have w26 : (n2 = 0) = False := e0 (by omega); have w27 : (n2 = 1) = False := e0 (by omega); have w28 : (n2 = 2) = False := e0 (by omega); have w29 : (n2 = 3) = False := e0 (by omega); have w30 : (n2 = g) = False := e0 (by omega)
      simp only [go_sem, ↓reduceIte, reduceCtorEq, Nat.reduceEqDiff, Nat.reduceLT, Nat.reduceLeDiff, Nat.reduceAdd, Nat.reduceSub, Nat.reduceMul, Nat.reduceGT, Int.reduceNeg, Int.reduceToNat, h2, h3, h4, h6, h44, h45, h46, hx0, hx1, hx2, hx3, hG, hgf, hcl, w1, w2, w3, w4, w5, w6, w7, w8, w9, w10, w11, w12, w13, w14, w15, w16, w17, w18, w19, w20, w21, w22, w23, w24, w25, w26, w27, w28, w29, w30]
      refine ⟨⟨hi0, by simp only [Es.len] at hi1; omega⟩, ?_⟩
      refine hdo _ _ _ _ (g) (0 + (Es.at_ p.clauses (k : Int)).toNat) (c.clauses.length) _ _ _ _ _ hG (by omega) hlenk (by simp only [Es.len] at hi1; omega) fun o3 n3 hn3 hs3 ho3 => ?_
      simp only [go_sem, ↓reduceIte, reduceCtorEq, Nat.reduceEqDiff, Nat.reduceLT, Nat.reduceLeDiff, Nat.reduceAdd, Nat.reduceSub, Nat.reduceMul, Nat.reduceGT, Int.reduceNeg, Int.reduceToNat, h2, h3, h4, h6, h44, h45, h46, hw2]
      refine ⟨hlt', ?_⟩
      simp only [go_sem, ↓reduceIte, reduceCtorEq, Nat.reduceEqDiff, Nat.reduceLT, Nat.reduceLeDiff, Nat.reduceAdd, Nat.reduceSub, Nat.reduceMul, Nat.reduceGT, Int.reduceNeg, Int.reduceToNat, h2, h3, h4, h6, h44, h45, h46, hw2]
      refine ⟨by simp, by omega, fun gg j h1 h2 => (hs3 gg j (by omega) h2).trans (hold gg j h1 h2), ?_⟩
      rw [Es.take_at hlt', List.foldl_append]
      rw [show (((0 + (Es.at_ p.clauses (k : Int)).toNat : Nat)) : Int) = Es.at_ p.clauses (k : Int) by omega, Nat.zero_add] at ho3
      exact ho3
    · have hkk : k = p.clauses.length := by simp only [Es.len] at hlt; omega
      subst hkk
      rw [List.take_length] at hG hlenk
      have hch : Es.changed c p = { c with clauses := p.clauses.foldl (Es.changeAt p) (c.clauses) } := by unfold Es.changed; rw [hbase]
      have hfit : Es.Fits (Es.changed c p) := by
        rw [hch]; exact ⟨hf.holders, hf.units, hf.acts, by simp only [hlenk]; omega, hf.off⟩
      have w1 : (0 = 1) = False := e0 (by omega); have w2 : (0 = 2) = False := e0 (by omega); have w3 : (0 = 3) = False := e0 (by omega); have w4 : (0 = g) = False := e0 (by omega); have w5 : (0 = n2) = False := e0 (by omega); have w6 : (1 = 0) = False := e0 (by omega); have w7 : (1 = 2) = False := e0 (by omega); have w8 : (1 = 3) = False := e0 (by omega); have w9 : (1 = g) = False := e0 (by omega); have w10 : (1 = n2) = False := e0 (by omega); have w11 : (2 = 0) = False := e0 (by omega); have w12 : (2 = 1) = False := e0 (by omega); have w13 : (2 = 3) = False := e0 (by omega); have w14 : (2 = g) = False := e0 (by omega); have w15 : (2 = n2) = False := e0 (by omega); have w16 : (3 = 0) = False := e0 (by omega); have w17 : (3 = 1) = False := e0 (by omega); have w18 : (3 = 2) = False := e0 (by omega); have w19 : (3 = g) = False := e0 (by omega); have w20 : (3 = n2) = False := e0 (by omega); have w21 : (g = 0) = False := e0 (by omega); have w22 : (g = 1) = False := e0 (by omega); have w23 : (g = 2) = False := e0 (by omega); have w24 : (g = 3) = False := e0 (by omega); have w25 : (g = n2) = False := e0 (by omega); have w26 : (n2 = 0) = False := e0 (by omega); have w27 : (n2 = 1) = False := e0 (by omega); have w28 : (n2 = 2) = False := e0 (by omega); have w29 : (n2 = 3) = False := e0 (by omega); have w30 : (n2 = g) = False := e0 (by omega)
      simp only [go_sem, ↓reduceIte, reduceCtorEq, Nat.reduceEqDiff, Nat.reduceLT, Nat.reduceLeDiff, Nat.reduceAdd, Nat.reduceSub, Nat.reduceMul, Nat.reduceGT, Int.reduceNeg, Int.reduceToNat, h2, h3, h4, h6, h44, h45, h46, hx0, hx1, hx2, hx3, hG, w1, w2, w3, w4, w5, w6, w7, w8, w9, w10, w11, w12, w13, w14, w15, w16, w17, w18, w19, w20, w21, w22, w23, w24, w25, w26, w27, w28, w29, w30]
      refine lend_at M_P M_G (pvalid_spec (Es.changed c p) hfit) gpu (.v _) ⟨?_, trivial⟩ ?_
      · rw [hch]
        exact Fz_agg ⟨.v _, (pu_slD pu_intC _).fz, (pu_slD pu_untC _).fz, (pu_slD pu_actC _).fz, fz_rows hG hlenk.symm pu_clsC, .v _, (pu_slD pu_intC _).fz, trivial⟩
      simp only [go_sem, ↓reduceIte, reduceCtorEq, Nat.reduceEqDiff, Nat.reduceLT, Nat.reduceLeDiff, Nat.reduceAdd, Nat.reduceSub, Nat.reduceMul, Nat.reduceGT, Int.reduceNeg, Int.reduceToNat, h2, h3, h4, h6, h44, h45, h46, hx0, hx1, hx2, hx3, hG, w1, w2, w3, w4, w5, w6, w7, w8, w9, w10, w11, w12, w13, w14, w15, w16, w17, w18, w19, w20, w21, w22, w23, w24, w25, w26, w27, w28, w29, w30]
      refine ite_cases (fun hv2 => ?_) (fun hv2 => ?_)
      · refine fz_bad ?_
        rw [hgood, if_neg hno, if_pos hv2]
      · rw [hgood, if_neg hno, if_neg hv2, hch]
        refine Fz_tup ⟨Fz_agg ⟨.v _, (pu_slD pu_intC _).fz, (pu_slD pu_untC _).fz, (pu_slD pu_actC _).fz, fz_rows (ty := 60) ?_ hlenk.symm pu_clsC, .v _, (pu_slD pu_intC _).fz, trivial⟩, .v _, trivial⟩
        simp only [St.set]; (repeat rw [if_neg (by omega)]); exact hG
end Tryd
end Go.Proofs
end
section
namespace Go.Proofs
open Go Go.Abs
set_option linter.unusedSimpArgs false
set_option linter.unusedVariables false
set_option maxRecDepth 10000
namespace Tryd
theorem sorted_spec (l : List Es.Amend) (hl : l.length ≤ 12) : APure M 60 [slD 22 amdC l] (slD 23 entC (Es.sortedP l)) := by
  refine pure_of gpu func60 rfl results60 ntmps60 (by simp) ⟨pu_slD pu_amdC _, trivial⟩ ?_
  intro b
  simp only [go_sem, ↓reduceIte, reduceCtorEq, Nat.reduceEqDiff, Nat.reduceLT, Nat.reduceLeDiff, Nat.reduceAdd, Nat.reduceSub, Nat.reduceMul, Nat.reduceGT, Int.reduceNeg, Int.reduceToNat]
  refine awp_count0 l.length (fun e0 s0 k e s => (e 6 = e0 6 ∧ e 7 = e0 7) ∧ e 8 = .v (.int .i64 k) ∧ s0.nx ≤ s.nx ∧ OutL entC 23 99 0 s (e 3) (l.zipIdx.take k)) ⟨⟨rfl, rfl⟩, ?_, Nat.le_refl _, ?_⟩ ?_
  · simp only [go_sem, ↓reduceIte, reduceCtorEq, Nat.reduceEqDiff, Nat.reduceLT, Nat.reduceLeDiff, Nat.reduceAdd, Nat.reduceSub, Nat.reduceMul, Nat.reduceGT, Int.reduceNeg, Int.reduceToNat]; rfl
  · simp only [go_sem, ↓reduceIte, reduceCtorEq, Nat.reduceEqDiff, Nat.reduceLT, Nat.reduceLeDiff, Nat.reduceAdd, Nat.reduceSub, Nat.reduceMul, Nat.reduceGT, Int.reduceNeg, Int.reduceToNat]; exact OutL.nil
  rintro k e ⟨o, nx⟩ hk ⟨⟨h6, h7⟩, h8, hn, hO⟩
  simp only [go_sem, ↓reduceIte, reduceCtorEq, Nat.reduceEqDiff, Nat.reduceLT, Nat.reduceLeDiff, Nat.reduceAdd, Nat.reduceSub, Nat.reduceMul, Nat.reduceGT, Int.reduceNeg, Int.reduceToNat] at h6 h7
  have e0 : ∀ {a b : Nat}, a ≠ b → (a = b) = False := fun h => by simp [h]
  have hw : IntKind.i64.wrap ((k : Int) + 1) = (k : Int) + 1 := wrap_i64 _ (by omega) (by omega)
  simp only [go_sem, ↓reduceIte, reduceCtorEq, Nat.reduceEqDiff, Nat.reduceLT, Nat.reduceLeDiff, Nat.reduceAdd, Nat.reduceSub, Nat.reduceMul, Nat.reduceGT, Int.reduceNeg, Int.reduceToNat, h6, h7, h8]
  refine ite_cases (fun hlt => ?_) (fun hlt => ?_)
  · have hlt' : k < l.length := Es.len_lt.1 hlt
    refine ⟨⟨by omega, hlt⟩, ?_⟩
    have hz : l.zipIdx.take (k + 1) = l.zipIdx.take k ++ [(Es.at_ l (k : Int), k)] := by
      rw [List.take_succ_eq_append_getElem (by simpa using hlt')]; simp [Es.at_nat hlt']
    generalize hd : e 3 = d at hO
    rcases hO with ⟨hnil, rfl⟩ | ⟨g, cell, rfl, hg1, hg2, hg3, hg4⟩
    · simp only [go_sem, ↓reduceIte, reduceCtorEq, Nat.reduceEqDiff, Nat.reduceLT, Nat.reduceLeDiff, Nat.reduceAdd, Nat.reduceSub, Nat.reduceMul, Nat.reduceGT, Int.reduceNeg, Int.reduceToNat, h6, h7, h8, hd, hw]
      refine ⟨hlt', ?_⟩
      simp only [go_sem, ↓reduceIte, reduceCtorEq, Nat.reduceEqDiff, Nat.reduceLT, Nat.reduceLeDiff, Nat.reduceAdd, Nat.reduceSub, Nat.reduceMul, Nat.reduceGT, Int.reduceNeg, Int.reduceToNat, h6, h7, h8, hd, hw]
      refine ⟨by simp, ?_⟩
      rw [hz, hnil]
      refine OutL.one' (Nat.zero_le _) fun j hj => ?_
      rcases (show j = 0 ∨ j = 1 ∨ j = 2 ∨ j = 3 ∨ j = 4 ∨ j = 5 ∨ j = 6 ∨ j = 7 ∨ j = 8 ∨ j = 9 ∨ j = 10 ∨ j = 11 ∨ j = 12 ∨ j = 13 ∨ j = 14 ∨ j = 15 ∨ j = 16 ∨ j = 17 ∨ j = 18 ∨ j = 19 ∨ j = 20 ∨ j = 21 ∨ j = 22 by omega) with rfl | rfl | rfl | rfl | rfl | rfl | rfl | rfl | rfl | rfl | rfl | rfl | rfl | rfl | rfl | rfl | rfl | rfl | rfl | rfl | rfl | rfl | rfl <;> rfl
    · simp only at hg2 hg3
      have z1 : (g = nx) = False := e0 (by omega); have z2 : (g = nx + 1) = False := e0 (by omega); have z3 : (g = nx + 1 + 1) = False := e0 (by omega); have z4 : (nx = g) = False := e0 (by omega); have z5 : (nx = nx + 1) = False := e0 (by omega); have z6 : (nx = nx + 1 + 1) = False := e0 (by omega); have z7 : (nx + 1 = g) = False := e0 (by omega); have z8 : (nx + 1 = nx) = False := e0 (by omega); have z9 : (nx + 1 = nx + 1 + 1) = False := e0 (by omega); have z10 : (nx + 1 + 1 = g) = False := e0 (by omega); have z11 : (nx + 1 + 1 = nx) = False := e0 (by omega); have z12 : (nx + 1 + 1 = nx + 1) = False := e0 (by omega)
      simp only [go_sem, ↓reduceIte, reduceCtorEq, Nat.reduceEqDiff, Nat.reduceLT, Nat.reduceLeDiff, Nat.reduceAdd, Nat.reduceSub, Nat.reduceMul, Nat.reduceGT, Int.reduceNeg, Int.reduceToNat, h6, h7, h8, hd, hw, hg3, z1, z2, z3, z4, z5, z6, z7, z8, z9, z10, z11, z12]
      have hlk : (l.zipIdx.take k).length ≤ 12 := by rw [List.length_take]; omega
      refine ⟨⟨by omega, by omega⟩, ⟨hlt', ?_⟩⟩
      simp only [go_sem, ↓reduceIte, reduceCtorEq, Nat.reduceEqDiff, Nat.reduceLT, Nat.reduceLeDiff, Nat.reduceAdd, Nat.reduceSub, Nat.reduceMul, Nat.reduceGT, Int.reduceNeg, Int.reduceToNat, h6, h7, h8, hd, hw]
      refine ⟨by simp, ?_⟩
      rw [hz]
      refine OutL.more' (Nat.zero_le _) hg4 fun j hj => ?_
      rcases (show j = 0 ∨ j = 1 ∨ j = 2 ∨ j = 3 ∨ j = 4 ∨ j = 5 ∨ j = 6 ∨ j = 7 ∨ j = 8 ∨ j = 9 ∨ j = 10 ∨ j = 11 ∨ j = 12 ∨ j = 13 ∨ j = 14 ∨ j = 15 ∨ j = 16 ∨ j = 17 ∨ j = 18 ∨ j = 19 ∨ j = 20 ∨ j = 21 ∨ j = 22 by omega) with rfl | rfl | rfl | rfl | rfl | rfl | rfl | rfl | rfl | rfl | rfl | rfl | rfl | rfl | rfl | rfl | rfl | rfl | rfl | rfl | rfl | rfl | rfl <;> rfl
  · have hkk : k = l.length := by simp only [Es.len] at hlt; omega
    subst hkk
    have hz : l.zipIdx.take l.length = l.zipIdx := List.take_of_length_le (by simp)
    rw [hz] at hO
    generalize hd : e 3 = d at hO
    rcases hO with ⟨hnil, rfl⟩ | ⟨g, cell, rfl, hg1, hg2, hg3, hg4⟩
    · have hl0 : l = [] := by
        rw [← List.length_eq_zero_iff, ← List.length_zipIdx (i := 0), hnil]; rfl
      subst hl0
      simp only [go_sem, ↓reduceIte, reduceCtorEq, Nat.reduceEqDiff, Nat.reduceLT, Nat.reduceLeDiff, Nat.reduceAdd, Nat.reduceSub, Nat.reduceMul, Nat.reduceGT, Int.reduceNeg, Int.reduceToNat, h6, h7, h8, hd]
      refine acall_nilarg (k := 23) (args' := [.ms nx 0 23 0 0, .fn (.func 84) []]) 99 (rowsOf entC []) ⟨.inr ⟨rfl, rfl⟩, .inl rfl, trivial⟩ ?_
      refine sort12_spec _ _ _ _ nx 0 _ [] _ _ _ (St_set_self _ _ _ _) (by omega) rfl (by omega) fun o' nx' m h1 h2 h3 h4 h5 => ?_
      try simp only [go_sem, ↓reduceIte, reduceCtorEq, Nat.reduceEqDiff, Nat.reduceLT, Nat.reduceLeDiff, Nat.reduceAdd, Nat.reduceSub, Nat.reduceMul, Nat.reduceGT, Int.reduceNeg, Int.reduceToNat, h6, h7, h8, hd]
      exact .nil _ _
    · simp only at hg2 hg3
      have hlz : l.zipIdx.length = l.length := by simp
      try simp only [go_sem, ↓reduceIte, reduceCtorEq, Nat.reduceEqDiff, Nat.reduceLT, Nat.reduceLeDiff, Nat.reduceAdd, Nat.reduceSub, Nat.reduceMul, Nat.reduceGT, Int.reduceNeg, Int.reduceToNat, h6, h7, h8, hd]
      refine acall_cells hg3 hg4 ?_
      refine sort12_spec _ _ _ _ g _ _ l.zipIdx _ _ _ (St_set_self _ _ _ _) hg2 rfl (by omega) fun o' nx' m h1 h2 h3 h4 h5 => ?_
      try simp only [go_sem, ↓reduceIte, reduceCtorEq, Nat.reduceEqDiff, Nat.reduceLT, Nat.reduceLeDiff, Nat.reduceAdd, Nat.reduceSub, Nat.reduceMul, Nat.reduceGT, Int.reduceNeg, Int.reduceToNat, h6, h7, h8, hd]
      rw [Es.sortedP_unique h4 h5] at h3
      exact fz_rows h3 (by rw [← Es.sortedP_unique h4 h5]; exact h4.length_eq.symm) pu_entC
theorem order_spec' (l : List Es.Amend) (hl : l.length ≤ 12) : APure M 29 [slD 22 amdC l] (slD 1 intC (Es.orderA l)) := by
  refine pure_of gpu func29 rfl results29 ntmps29 (by simp) ⟨pu_slD pu_amdC _, trivial⟩ ?_
  intro b
  simp only [go_sem, ↓reduceIte, reduceCtorEq, Nat.reduceEqDiff, Nat.reduceLT, Nat.reduceLeDiff, Nat.reduceAdd, Nat.reduceSub, Nat.reduceMul, Nat.reduceGT, Int.reduceNeg, Int.reduceToNat]
  repeat' (first | ((with_reducible refine call_at M_P M_G (sorted_spec l hl) ?_); simp only [go_sem, ↓reduceIte, reduceCtorEq, Nat.reduceEqDiff, Nat.reduceLT, Nat.reduceLeDiff, Nat.reduceAdd, Nat.reduceSub, Nat.reduceMul, Nat.reduceGT, Int.reduceNeg, Int.reduceToNat]) | (with_reducible refine And.intro ?_ ?_) | ((with_reducible refine ite_cases ?_ ?_) <;> intro _))
  have hll : (Es.sortedP l).length = l.length := by simp [Es.sortedP, Es.isort_len]
  refine awp_count0 (Es.sortedP l).length (fun e0 s0 k e s => (e 7 = e0 7 ∧ e 8 = e0 8) ∧ e 9 = .v (.int .i64 k) ∧ s0.nx ≤ s.nx ∧ OutL intC 1 3 0 s (e 3) (((Es.sortedP l).take k).map fun x => (x.2 : Int))) ⟨⟨rfl, rfl⟩, ?_, Nat.le_refl _, ?_⟩ ?_
  · simp only [go_sem, ↓reduceIte, reduceCtorEq, Nat.reduceEqDiff, Nat.reduceLT, Nat.reduceLeDiff, Nat.reduceAdd, Nat.reduceSub, Nat.reduceMul, Nat.reduceGT, Int.reduceNeg, Int.reduceToNat]; rfl
  · simp only [go_sem, ↓reduceIte, reduceCtorEq, Nat.reduceEqDiff, Nat.reduceLT, Nat.reduceLeDiff, Nat.reduceAdd, Nat.reduceSub, Nat.reduceMul, Nat.reduceGT, Int.reduceNeg, Int.reduceToNat]; exact OutL.nil
  rintro k e ⟨o, nx⟩ hk ⟨⟨h7, h8⟩, h9, hn, hO⟩
  simp only [go_sem, ↓reduceIte, reduceCtorEq, Nat.reduceEqDiff, Nat.reduceLT, Nat.reduceLeDiff, Nat.reduceAdd, Nat.reduceSub, Nat.reduceMul, Nat.reduceGT, Int.reduceNeg, Int.reduceToNat] at h7 h8
  have e0 : ∀ {a b : Nat}, a ≠ b → (a = b) = False := fun h => by simp [h]
  have hw : IntKind.i64.wrap ((k : Int) + 1) = (k : Int) + 1 := wrap_i64 _ (by omega) (by omega)
  simp only [go_sem, ↓reduceIte, reduceCtorEq, Nat.reduceEqDiff, Nat.reduceLT, Nat.reduceLeDiff, Nat.reduceAdd, Nat.reduceSub, Nat.reduceMul, Nat.reduceGT, Int.reduceNeg, Int.reduceToNat, h9, h7, h8]
  refine ite_cases (fun hlt => ?_) (fun hlt => ?_)
  · have hlt' : k < (Es.sortedP l).length := Es.len_lt.1 hlt
    refine ⟨⟨by omega, hlt⟩, ?_⟩
    have hz : ((Es.sortedP l).take (k + 1)).map (fun x => (x.2 : Int)) = ((Es.sortedP l).take k).map (fun x => (x.2 : Int)) ++ [((Es.at_ (Es.sortedP l) (k : Int)).2 : Int)] := by
      rw [Es.take_at hlt', List.map_append]; rfl
    generalize hd : e 3 = d at hO
    rcases hO with ⟨hnil, rfl⟩ | ⟨g, cell, rfl, hg1, hg2, hg3, hg4⟩
    · simp only [go_sem, ↓reduceIte, reduceCtorEq, Nat.reduceEqDiff, Nat.reduceLT, Nat.reduceLeDiff, Nat.reduceAdd, Nat.reduceSub, Nat.reduceMul, Nat.reduceGT, Int.reduceNeg, Int.reduceToNat, h9, h7, h8, hd, hw]
      refine ⟨hlt', ?_⟩
      simp only [go_sem, ↓reduceIte, reduceCtorEq, Nat.reduceEqDiff, Nat.reduceLT, Nat.reduceLeDiff, Nat.reduceAdd, Nat.reduceSub, Nat.reduceMul, Nat.reduceGT, Int.reduceNeg, Int.reduceToNat, h9, h7, h8, hd, hw]
      refine ⟨by simp, ?_⟩
      rw [hz, hnil]
      refine OutL.one' (Nat.zero_le _) fun j hj => ?_
      rcases (show j = 0 by omega) with rfl <;> rfl
    · simp only at hg2 hg3
      have z1 : (g = nx) = False := e0 (by omega); have z2 : (g = nx + 1) = False := e0 (by omega); have z3 : (g = nx + 1 + 1) = False := e0 (by omega); have z4 : (nx = g) = False := e0 (by omega); have z5 : (nx = nx + 1) = False := e0 (by omega); have z6 : (nx = nx + 1 + 1) = False := e0 (by omega); have z7 : (nx + 1 = g) = False := e0 (by omega); have z8 : (nx + 1 = nx) = False := e0 (by omega); have z9 : (nx + 1 = nx + 1 + 1) = False := e0 (by omega); have z10 : (nx + 1 + 1 = g) = False := e0 (by omega); have z11 : (nx + 1 + 1 = nx) = False := e0 (by omega); have z12 : (nx + 1 + 1 = nx + 1) = False := e0 (by omega)
      have hlk : (((Es.sortedP l).take k).map fun x => (x.2 : Int)).length ≤ 12 := by rw [List.length_map, List.length_take]; omega
      simp only [go_sem, ↓reduceIte, reduceCtorEq, Nat.reduceEqDiff, Nat.reduceLT, Nat.reduceLeDiff, Nat.reduceAdd, Nat.reduceSub, Nat.reduceMul, Nat.reduceGT, Int.reduceNeg, Int.reduceToNat, h9, h7, h8, hd, hw, hg3, z1, z2, z3, z4, z5, z6, z7, z8, z9, z10, z11, z12]
      refine ⟨⟨by omega, by omega⟩, ⟨hlt', ?_⟩⟩
      simp only [go_sem, ↓reduceIte, reduceCtorEq, Nat.reduceEqDiff, Nat.reduceLT, Nat.reduceLeDiff, Nat.reduceAdd, Nat.reduceSub, Nat.reduceMul, Nat.reduceGT, Int.reduceNeg, Int.reduceToNat, h9, h7, h8, hd, hw]
      refine ⟨by simp, ?_⟩
      rw [hz]
      refine OutL.more' (Nat.zero_le _) hg4 fun j hj => ?_
      rcases (show j = 0 by omega) with rfl <;> rfl
  · have hkk : k = (Es.sortedP l).length := by simp only [Es.len] at hlt; omega
    subst hkk
    rw [List.take_length] at hO
    try simp only [go_sem, ↓reduceIte, reduceCtorEq, Nat.reduceEqDiff, Nat.reduceLT, Nat.reduceLeDiff, Nat.reduceAdd, Nat.reduceSub, Nat.reduceMul, Nat.reduceGT, Int.reduceNeg, Int.reduceToNat, h9, h7, h8]
    exact hO.fz (fun g _ _ => rfl) pu_intC
theorem check_spec (c : Es.Contract) (l : List Es.Amend) (hf : Es.Fits c) : APure M 63 [conD c, slD 22 amdC l] (.v (.int .i64 (Es.checkA c l))) := by
  refine pure_of gpu func63 rfl results63 ntmps63 (by simp) ⟨pu_conD _, pu_slD pu_amdC _, trivial⟩ ?_
  intro b
  simp only [go_sem, ↓reduceIte, reduceCtorEq, Nat.reduceEqDiff, Nat.reduceLT, Nat.reduceLeDiff, Nat.reduceAdd, Nat.reduceSub, Nat.reduceMul, Nat.reduceGT, Int.reduceNeg, Int.reduceToNat]
  repeat' (first | ((with_reducible refine call_at M_P M_G (valid2_spec c hf) ?_); simp only [go_sem, ↓reduceIte, reduceCtorEq, Nat.reduceEqDiff, Nat.reduceLT, Nat.reduceLeDiff, Nat.reduceAdd, Nat.reduceSub, Nat.reduceMul, Nat.reduceGT, Int.reduceNeg, Int.reduceToNat]) | (with_reducible refine And.intro ?_ ?_) | ((with_reducible refine ite_cases ?_ ?_) <;> intro _))
  all_goals (unfold Es.checkA; simp_all)
end Tryd
end Go.Proofs
end
section
namespace Go.Proofs
open Go Go.Abs
set_option linter.unusedSimpArgs false
set_option linter.unusedVariables false
set_option maxRecDepth 10000
namespace Tryd
def conCells (c : Es.Contract) : List D := [.v (.int .i64 c.parties), slD 1 intC c.holders, slD 5 untC c.units, slD 7 actC c.acts, slD 16 clsC c.clauses, .v (.int .i64 c.days), slD 1 intC c.off]
@[go_sem] theorem conCells_eq (c : Es.Contract) : conCells c = [.v (.int .i64 c.parties), slD 1 intC c.holders, slD 5 untC c.units, slD 7 actC c.acts, slD 16 clsC c.clauses, .v (.int .i64 c.days), slD 1 intC c.off] := nr rfl
theorem fits_valid {c : Es.Contract} (h : (Es.valid2 c).1 = 0) : Es.Fits c := by
  have hV := Es.valid2_ok h
  have hs := hV.small
  have ho := Es.off_len c.off (-1) (by have := hV.pos; omega) hV.off
  exact ⟨by omega, by omega, by omega, by omega, by omega⟩
theorem versions_spec (X : D → Value → Prop) (N : Nat) (r : Option Nat) (b : Nat) (c : Es.Contract) (l : List Es.Amend) (known : Int) (o : St) (nx : Nat) (K : D → S → Prop)
    (hk : K (.fn (.func 85) [.mp (nx + 1) 0 1 0 0, .mp (nx + 1 + 1) 0 1 0 0, .mp nx 0 7 0 0])
      ⟨St.set (St.set (St.set o nx 0 (some (.blk 7 1 27 (rowOf (conCells c))))) (nx + 1) 0 (some (.blk 1 1 56 (rowOf [slD 22 amdC l])))) (nx + 1 + 1) 0 (some (.blk 1 1 3 (rowOf [.v (.int .i64 known)]))), nx + 1 + 1 + 1⟩) :
    ACall { P := prog, G := gl, X := X, N := N, r := r, b := b } 64 [conD c, slD 22 amdC l, .v (.int .i64 known)] ⟨o, nx⟩ K := by
  refine acall_ofA (M := { P := prog, G := gl, X := X, N := N, r := r, b := b }) func64 rfl results64 ntmps64 (by simp) fun b => ?_
  simp only [go_sem, ↓reduceIte, reduceCtorEq, Nat.reduceEqDiff, Nat.reduceLT, Nat.reduceLeDiff, Nat.reduceAdd, Nat.reduceSub, Nat.reduceMul, Nat.reduceGT, Int.reduceNeg, Int.reduceToNat]
  exact hk
/-- The versions after the first entries. -/
def versK (known : Int) (l : List Es.Amend) (c : Es.Contract) (k : Nat) : List (Es.Amend × Es.Contract) := Es.versionsA known (((Es.sortedP l).take k).map (·.1)) c
theorem versK_zero (known : Int) (l : List Es.Amend) (c : Es.Contract) : versK known l c 0 = [] := rfl
theorem versK_end (known : Int) (l : List Es.Amend) (c : Es.Contract) : versK known l c (Es.sortedP l).length = Es.versionsA known (Es.sortedA l) c := by
  unfold versK; rw [List.take_length, Es.sortedA_eq]
theorem versK_pre (known : Int) (l : List Es.Amend) (c : Es.Contract) (k : Nat) : ∃ v, Es.versionsA known (Es.sortedA l) c = versK known l c k ++ v := by
  rw [← Es.sortedA_eq]
  unfold versK
  have h : (Es.sortedP l).map (·.1) = ((Es.sortedP l).take k).map (·.1) ++ ((Es.sortedP l).drop k).map (·.1) := by rw [← List.map_append, List.take_append_drop]
  rw [h, Es.versionsA_app]
  exact ⟨_, rfl⟩
theorem versK_skip {known : Int} {l : List Es.Amend} {c : Es.Contract} {k : Nat} (hk : k < (Es.sortedP l).length)
    (h : known < (Es.at_ (Es.sortedP l) (k : Int)).1.known ∨ (Es.applyP (Es.lastC c (versK known l c k)) (Es.at_ (Es.sortedP l) (k : Int)).1.patch).2 ≠ 0) : versK known l c (k + 1) = versK known l c k := by
  unfold versK at *
  rw [Es.take_at hk, List.map_append, Es.versionsA_app]
  have : Es.versionsA known [(Es.at_ (Es.sortedP l) (k : Int)).1] (Es.lastC c (Es.versionsA known (((Es.sortedP l).take k).map (·.1)) c)) = [] := by
    rw [Es.versionsA, if_pos (by
      rcases h with h | h
      · simp only [h, decide_true, Bool.true_or]
      · rw [beq_eq_false_iff_ne.2 h]; simp)]; rfl
  rw [List.map_cons, List.map_nil, this, List.append_nil]
theorem versK_next {known : Int} {l : List Es.Amend} {c : Es.Contract} {k : Nat} (hk : k < (Es.sortedP l).length)
    (h1 : ¬ known < (Es.at_ (Es.sortedP l) (k : Int)).1.known) (h2 : (Es.applyP (Es.lastC c (versK known l c k)) (Es.at_ (Es.sortedP l) (k : Int)).1.patch).2 = 0) :
    versK known l c (k + 1) = versK known l c k ++ [((Es.at_ (Es.sortedP l) (k : Int)).1, (Es.applyP (Es.lastC c (versK known l c k)) (Es.at_ (Es.sortedP l) (k : Int)).1.patch).1)] := by
  unfold versK at *
  rw [Es.take_at hk, List.map_append, Es.versionsA_app]
  congr 1
  rw [List.map_cons, List.map_nil, Es.versionsA, if_neg (by rw [h2]; simp [h1])]; rfl
theorem versK_fits {known : Int} {l : List Es.Amend} {c : Es.Contract} (hf : Es.Fits c) (k : Nat) : Es.Fits (Es.lastC c (versK known l c k)) := by
  rcases Es.lastC_mem (c := c) (v := versK known l c k) with h | ⟨y, hy, h⟩
  · rw [h]; exact hf
  · rw [h]; exact fits_valid (Es.versionsA_ok known _ c y hy).1
theorem lastC_snoc (c : Es.Contract) (v : List (Es.Amend × Es.Contract)) (z : Es.Amend × Es.Contract) : Es.lastC c (v ++ [z]) = z.2 := by simp [Es.lastC]
theorem versions1_spec (X : D → Value → Prop) (N : Nat) (r : Option Nat) (b : Nat) (y : Nat) (c : Es.Contract) (l : List Es.Amend) (known : Int) (hf : Es.Fits c) (hl : l.length ≤ 12) (fc fl fk : Nat) (tc tl tk : TypeId) (o : St) (nx : Nat)
    (hx : fc < nx ∧ fl < nx ∧ fk < nx ∧ fc ≠ fl ∧ fc ≠ fk) (ho1 : o fc 0 = some (.blk 7 1 tc (rowOf (conCells c)))) (ho2 : o fl 0 = some (.blk 1 1 tl (rowOf [slD 22 amdC l]))) (ho3 : o fk 0 = some (.blk 1 1 tk (rowOf [.v (.int .i64 known)])))
    (J : Nat → S → Prop) (Js : S → Prop)
    (hsame : ∀ i o nx o' nx', J i ⟨o, nx⟩ → nx ≤ nx' → (∀ f j, f < nx → f ≠ fc → o' f j = o f j) → J i ⟨o', nx'⟩)
    (hY : ∀ (N : Nat) (b : Nat) (i : Nat) (z : Es.Amend × Es.Contract) (o1 : St) (n1 : Nat), (Es.versionsA known (Es.sortedA l) c)[i]? = some z → nx ≤ n1 → J i ⟨o1, n1⟩ →
      ARound { P := prog, G := gl, X := X, N := N, r := none, b := b } y [amdD z.1, conD z.2] ⟨o1, n1⟩
        (fun d st' => n1 ≤ st'.nx ∧ st'.o fc 0 = o1 fc 0 ∧ st'.o fk 0 = o1 fk 0 ∧ ((d = .v (.bool true) ∧ J (i + 1) st') ∨ (d = .v (.bool false) ∧ Js st'))))
    (h0 : J 0 ⟨o, nx⟩) (K : D → S → Prop)
    (hk1 : ∀ o' nx', J (Es.versionsA known (Es.sortedA l) c).length ⟨o', nx'⟩ → K (.tup []) ⟨o', nx'⟩) (hk2 : ∀ o' nx', Js ⟨o', nx'⟩ → K (.tup []) ⟨o', nx'⟩) :
    ACall { P := prog, G := gl, X := X, N := N, r := r, b := b } 85 [.fn (.yield y) [], .mp fl 0 1 0 0, .mp fk 0 1 0 0, .mp fc 0 7 0 0] ⟨o, nx⟩ K := by
  refine acall_ofA (M := { P := prog, G := gl, X := X, N := N, r := r, b := b }) func85 rfl results85 ntmps85 (by simp) fun b => ?_
  simp only [go_sem, ↓reduceIte, reduceCtorEq, Nat.reduceEqDiff, Nat.reduceLT, Nat.reduceLeDiff, Nat.reduceAdd, Nat.reduceSub, Nat.reduceMul, Nat.reduceGT, Int.reduceNeg, Int.reduceToNat]
  simp only [go_sem, ↓reduceIte, reduceCtorEq, Nat.reduceEqDiff, Nat.reduceLT, Nat.reduceLeDiff, Nat.reduceAdd, Nat.reduceSub, Nat.reduceMul, Nat.reduceGT, Int.reduceNeg, Int.reduceToNat, ho2]
  refine call_at M_P M_G (sorted_spec l hl) ?_
  simp only [go_sem, ↓reduceIte, reduceCtorEq, Nat.reduceEqDiff, Nat.reduceLT, Nat.reduceLeDiff, Nat.reduceAdd, Nat.reduceSub, Nat.reduceMul, Nat.reduceGT, Int.reduceNeg, Int.reduceToNat]
  have hll : (Es.sortedP l).length = l.length := by simp [Es.sortedP, Es.isort_len]
  refine awp_count0 (Es.sortedP l).length (fun e0 s0 k e st => (e 0 = e0 0 ∧ e 1 = e0 1 ∧ e 2 = e0 2 ∧ e 3 = e0 3 ∧ e 10 = e0 10 ∧ e 11 = e0 11) ∧ e 12 = .v (.int .i64 k) ∧ nx ≤ st.nx ∧ J (versK known l c k).length st ∧
      st.o fc 0 = some (.blk 7 1 tc (rowOf (conCells (Es.lastC c (versK known l c k))))) ∧ st.o fk 0 = some (.blk 1 1 tk (rowOf [.v (.int .i64 known)]))) ⟨⟨rfl, rfl, rfl, rfl, rfl, rfl⟩, ?_, Nat.le_refl _, h0, ho1, ho3⟩ ?_
  · simp only [go_sem, ↓reduceIte, reduceCtorEq, Nat.reduceEqDiff, Nat.reduceLT, Nat.reduceLeDiff, Nat.reduceAdd, Nat.reduceSub, Nat.reduceMul, Nat.reduceGT, Int.reduceNeg, Int.reduceToNat]; rfl
  rintro k e ⟨o2, n1⟩ hkn ⟨⟨a0, a1, a2, a3, a10, a11⟩, a12, hn1, hJ, i1, i3⟩
  simp only [go_sem, ↓reduceIte, reduceCtorEq, Nat.reduceEqDiff, Nat.reduceLT, Nat.reduceLeDiff, Nat.reduceAdd, Nat.reduceSub, Nat.reduceMul, Nat.reduceGT, Int.reduceNeg, Int.reduceToNat] at a0 a1 a2 a3 a10 a11
  simp only at hn1 i1 i3
  simp only [conCells_eq] at i1
  have e0 : ∀ {a b : Nat}, a ≠ b → (a = b) = False := fun h => by simp [h]
  have z1 : (fc = fk) = False := e0 (by omega); have z2 : (fc = n1) = False := e0 (by omega); have z3 : (fc = n1 + 1) = False := e0 (by omega); have z4 : (fk = fc) = False := e0 (by omega); have z5 : (fk = n1) = False := e0 (by omega); have z6 : (fk = n1 + 1) = False := e0 (by omega); have z7 : (n1 = fc) = False := e0 (by omega); have z8 : (n1 = fk) = False := e0 (by omega); have z9 : (n1 = n1 + 1) = False := e0 (by omega); have z10 : (n1 + 1 = fc) = False := e0 (by omega); have z11 : (n1 + 1 = fk) = False := e0 (by omega); have z12 : (n1 + 1 = n1) = False := e0 (by omega)
  have hw : IntKind.i64.wrap ((k : Int) + 1) = (k : Int) + 1 := wrap_i64 _ (by omega) (by omega)
  simp only [go_sem, ↓reduceIte, reduceCtorEq, Nat.reduceEqDiff, Nat.reduceLT, Nat.reduceLeDiff, Nat.reduceAdd, Nat.reduceSub, Nat.reduceMul, Nat.reduceGT, Int.reduceNeg, Int.reduceToNat, a0, a1, a2, a3, a10, a11, a12, i1, i3, hw, z1, z2, z3, z4, z5, z6, z7, z8, z9, z10, z11, z12]
  refine ite_cases (fun hlt => ?_) (fun hlt => ?_)
  · have hlt' : k < (Es.sortedP l).length := Es.len_lt.1 hlt
    refine ⟨⟨by omega, hlt⟩, ?_⟩
    refine ite_cases (fun hkn1 => ?_) (fun hkn1 => ?_)
    · have hskip := versK_skip (c := c) (known := known) hlt' (.inl hkn1)
      refine ⟨hlt', ?_⟩
      simp only [go_sem, ↓reduceIte, reduceCtorEq, Nat.reduceEqDiff, Nat.reduceLT, Nat.reduceLeDiff, Nat.reduceAdd, Nat.reduceSub, Nat.reduceMul, Nat.reduceGT, Int.reduceNeg, Int.reduceToNat, a0, a1, a2, a3, a10, a11, a12, i1, i3, hw, z1, z2, z3, z4, z5, z6, z7, z8, z9, z10, z11, z12]
      rw [hskip]
      refine ⟨by simp, by omega, hsame _ _ _ _ _ hJ (by omega) fun f j h1 h2 => by simp only [St.set]; rw [if_neg (by omega)], rfl⟩
    refine call_at M_P M_G (apply_spec (Es.lastC c (versK known l c k)) (Es.at_ (Es.sortedP l) (k : Int)).1.patch (versK_fits hf k)) ?_
    simp only [go_sem, ↓reduceIte, reduceCtorEq, Nat.reduceEqDiff, Nat.reduceLT, Nat.reduceLeDiff, Nat.reduceAdd, Nat.reduceSub, Nat.reduceMul, Nat.reduceGT, Int.reduceNeg, Int.reduceToNat, a0, a1, a2, a3, a10, a11, a12, i1, i3, hw, z1, z2, z3, z4, z5, z6, z7, z8, z9, z10, z11, z12]
    refine ite_cases (fun he => ?_) (fun he => ?_)
    · have hskip := versK_skip (c := c) (known := known) hlt' (.inr (by simpa using he))
      refine ⟨hlt', ?_⟩
      simp only [go_sem, ↓reduceIte, reduceCtorEq, Nat.reduceEqDiff, Nat.reduceLT, Nat.reduceLeDiff, Nat.reduceAdd, Nat.reduceSub, Nat.reduceMul, Nat.reduceGT, Int.reduceNeg, Int.reduceToNat, a0, a1, a2, a3, a10, a11, a12, i1, i3, hw, z1, z2, z3, z4, z5, z6, z7, z8, z9, z10, z11, z12]
      rw [hskip]
      refine ⟨by simp, by omega, hsame _ _ _ _ _ hJ (by omega) fun f j h1 h2 => by simp only [St.set]; rw [if_neg (by omega), if_neg (by omega)], rfl⟩
    · have hnext := versK_next (c := c) (known := known) hlt' hkn1 (by simpa using he)
      obtain ⟨v, hv⟩ := versK_pre known l c (k + 1)
      have hget : (Es.versionsA known (Es.sortedA l) c)[(versK known l c k).length]? = some ((Es.at_ (Es.sortedP l) (k : Int)).1, (Es.applyP (Es.lastC c (versK known l c k)) (Es.at_ (Es.sortedP l) (k : Int)).1.patch).1) := by
        rw [hv, hnext]; simp
      refine (hY _ _ _ _ _ _ hget (by omega) (hsame _ _ _ _ _ hJ (by omega) fun f j h1 h2 => by simp only [St.set]; rw [if_neg (by omega), if_neg (by omega), if_neg (by omega)])).mono ?_
      rintro d ⟨o3, n3⟩ ⟨hn3, hfc, hfk, hd⟩
      simp only at hn3 hfc hfk
      rw [St_set_self] at hfc
      simp only [St.set] at hfk
      (repeat rw [if_neg (by omega)] at hfk)
      rw [i3] at hfk
      rcases hd with ⟨rfl, hJ3⟩ | ⟨rfl, hJs⟩
      · simp only [go_sem, ↓reduceIte, reduceCtorEq, Nat.reduceEqDiff, Nat.reduceLT, Nat.reduceLeDiff, Nat.reduceAdd, Nat.reduceSub, Nat.reduceMul, Nat.reduceGT, Int.reduceNeg, Int.reduceToNat, a0, a1, a2, a3, a10, a11, a12, hfc, hfk, hw, z1, z2, z3, z4, z5, z6, z7, z8, z9, z10, z11, z12]
        refine ⟨hlt', ?_⟩
        simp only [go_sem, ↓reduceIte, reduceCtorEq, Nat.reduceEqDiff, Nat.reduceLT, Nat.reduceLeDiff, Nat.reduceAdd, Nat.reduceSub, Nat.reduceMul, Nat.reduceGT, Int.reduceNeg, Int.reduceToNat, a0, a1, a2, a3, a10, a11, a12, hfc, hfk, hw, z1, z2, z3, z4, z5, z6, z7, z8, z9, z10, z11, z12]
        rw [hnext, List.length_append, lastC_snoc]
        exact ⟨by simp, by omega, hJ3, rfl⟩
      · simp only [go_sem, ↓reduceIte, reduceCtorEq, Nat.reduceEqDiff, Nat.reduceLT, Nat.reduceLeDiff, Nat.reduceAdd, Nat.reduceSub, Nat.reduceMul, Nat.reduceGT, Int.reduceNeg, Int.reduceToNat, a0, a1, a2, a3, a10, a11, a12, hfc, hfk, hw, z1, z2, z3, z4, z5, z6, z7, z8, z9, z10, z11, z12]
        exact hk2 _ _ hJs
  · have hkk : k = (Es.sortedP l).length := by simp only [Es.len] at hlt; omega
    subst hkk
    rw [versK_end] at hJ
    exact hk1 _ _ hJ
end Tryd
end Go.Proofs
end
section
namespace Go.Proofs
open Go Go.Abs
set_option linter.unusedSimpArgs false
set_option linter.unusedVariables false
set_option maxRecDepth 10000
theorem around_ctx {P : Program} {G : Nat → Option D} {X : D → Value → Prop} {N N' : Nat} {r r' : Option Nat} {b b' : Nat} {l : Nat} {args : List D} {s : S} {K : D → S → Prop} (h : ARound { P := P, G := G, X := X, N := N, r := r, b := b } l args s K) :
    ARound { P := P, G := G, X := X, N := N', r := r', b := b' } l args s K := fun c vals h1 h2 h3 h4 => h c vals h1 ⟨h2.g, h2.x⟩ h3 h4
@[go_sem] theorem assignA_normal (K : Env → S → Prop) (e : Env) (s : S) : assignA K .normal e s = K e s := nr rfl
@[go_sem] theorem roundA_normal (f : Nat) (rd bz : SObj) (dn : Code → SObj) (K : D → S → Prop) (e : Env) (s : S) : roundA f rd bz dn K .normal e s = (s.o f 0 = some bz ∧ K (.v (.bool true)) (s.put f 0 rd)) := nr rfl
namespace Tryd
open Es (runs met met_succ met_length met_at)
theorem set_ne {o : St} {f i f' i' : Nat} {B : Option SObj} (h : f' ≠ f) : St.set o f i B f' i' = o f' i' := by simp only [St.set]; rw [if_neg (by omega)]
theorem set_eq {o : St} {f i : Nat} {B : Option SObj} : St.set o f i B f i = B := by simp only [St.set]; rw [if_pos ⟨trivial, trivial⟩]
theorem keeps_set {o : St} {nx nx' f i : Nat} {B : Option SObj} (h : o f i = none) : keeps ⟨o, nx⟩ ⟨St.set o f i B, nx'⟩ := fun f' i' B' hB => by
  show St.set o f i B f' i' = some B'
  simp only [St.set]
  split
  · rename_i hh; obtain ⟨rfl, rfl⟩ := hh; change o f' i' = some B' at hB; rw [h] at hB; cases hB
  · exact hB
/-- What a loop over running clauses keeps: but for marks, all is as at its start. -/
def LoopJ (o : St) (nb fm n : Nat) (tm : TypeId) (ms : List Es.Mark) (st : S) : Prop := Wrote o nb fm tm ms st.o st.nx ∧ ms.length = n
theorem LoopJ.at {o : St} {nb fm n : Nat} {tm : TypeId} {ms : List Es.Mark} {st : S} (h : LoopJ o nb fm n tm ms st) {f i : Nat} (hf : f < nb) (hne : ¬ (f = fm ∧ i = 0)) : st.o f i = o f i := h.1.2.2 f i hf hne
theorem loopJ {o : St} {nb fc fs fh nh fu nu fm n : Nat} {tm : TypeId} {c : Es.Contract} {day : Int} (hc : o fc 0 = some (.blk 7 1 27 (rowOf [.v (.int .i64 c.parties), slD 1 intC c.holders, slD 5 untC c.units, slD 7 actC c.acts, slD 16 clsC c.clauses, .v (.int .i64 c.days), slD 1 intC c.off])))
    (hs : o fs 0 = some (.blk 4 1 40 (rowOf [.v (.int .i64 day), .ms fh 0 1 0 nh, .ms fu 0 1 0 nu, .ms fm 0 5 0 n]))) (hl : fm < nb ∧ fc < nb ∧ fs < nb) (hne : fc ≠ fm ∧ fs ≠ fm) :
    RunJ c day fh nh fu nu fm n fc fs nb tm (LoopJ o nb fm n tm) where
  mrk ms st h := ⟨by rw [← h.2]; exact h.1.2.1, h.2⟩
  con ms st h := (h.at hl.2.1 (by omega)).trans hc
  sta ms st h := (h.at hl.2.2 (by omega)).trans hs
  nxt ms st h := h.1.1
  same ms st st' h hn hs := ⟨⟨Nat.le_trans h.1.1 hn, (hs fm 0 hl.1).trans h.1.2.1, fun f i hf hne => (hs f i hf).trans (h.1.2.2 f i hf hne)⟩, h.2⟩
  lt := hl
theorem loop_end {o o2 o3 : St} {nb nx2 n3 fr fm n : Nat} {tm : TypeId} {rd : SObj} {ms ms' : List Es.Mark} (h : LoopJ o nb fm n tm ms ⟨o2, nx2⟩) (hr : o fr 0 = some rd) (hf : fm < nb) (hfr : fr < nb) (hne : fr ≠ fm) (hn : nx2 ≤ n3)
    (hm : o3 fm 0 = some (.blk 5 n tm (rowsOf mrkC ms'))) (hl : ms'.length = n) (ho : ∀ f j, f < nx2 → ¬ (f = fm ∧ j = 0) → ¬ (f = fr ∧ j = 0) → o3 f j = o2 f j) :
    LoopJ o nb fm n tm ms' ⟨St.set o3 fr 0 (some rd), n3⟩ ∧ nx2 ≤ n3 ∧ ∀ f j, nb ≤ f → f < nx2 → St.set o3 fr 0 (some rd) f j = o2 f j := by
  have hx := h.1.1
  simp only at hx
  refine ⟨⟨⟨by simp only; omega, by simp only [St.set]; rw [if_neg (by omega), hl]; exact hm, fun f i hf' hne' => ?_⟩, hl⟩, hn, fun f j h1 h2 => ?_⟩
  · simp only [St.set]
    split
    · rename_i hh; obtain ⟨rfl, rfl⟩ := hh; exact hr.symm
    · rename_i hh; rw [ho f i (by omega) hne' hh]; exact h.1.2.2 f i hf' hne'
  · simp only [St.set]; rw [if_neg (by omega)]; exact ho f j h2 (by omega) (by omega)
/-- A loop over the clauses that run, with what a round does to a mark. -/
theorem run_loop {X : D → Value → Prop} {N b : Nat} {gop : Operand} {p : Tmp} {assign body : Code} {Q : Exit → Env → S → Prop} {e : Env} {o : St} {n1 : Nat} (c : Es.Contract) (day : Int) (fh nh fu nu fm n : Nat) (tm : TypeId) (g : Nat → Es.Mark → Es.Mark) (ms0 : List Es.Mark)
    (hp : p < N) (hg : ev gl e gop = .fn (.func 101) [.mp (n1 + 1) 0 4 0 0, .mp n1 0 7 0 0])
    (hcon : o n1 0 = some (.blk 7 1 27 (rowOf [.v (.int .i64 c.parties), slD 1 intC c.holders, slD 5 untC c.units, slD 7 actC c.acts, slD 16 clsC c.clauses, .v (.int .i64 c.days), slD 1 intC c.off])))
    (hsta : o (n1 + 1) 0 = some (.blk 4 1 40 (rowOf [.v (.int .i64 day), .ms fh 0 1 0 nh, .ms fu 0 1 0 nu, .ms fm 0 5 0 n])))
    (hf : fm < n1) (hn : n = c.clauses.length) (hl : n ≤ 400) (hms : ms0.length = n) (hmrk : o fm 0 = some (.blk 5 n tm (rowsOf mrkC ms0)))
    (hbody : ∀ (X2 : D → Value → Prop) (l i : Nat) (o2 : St) (nx2 : Nat) (rd bz : SObj) (R : Exit → Env → S → Prop), i < n → n1 + 3 ≤ nx2 → o2 fm 0 = some (.blk 5 n tm (rowsOf mrkC (met g ms0 i))) → o2 (n1 + 2) 0 = some rd →
      (∀ f j, f < n1 + 2 → ¬ (f = fm ∧ j = 0) → o2 f j = o f j) → runs (Es.at_ (met g ms0 i) (i : Int)) = true →
      (∀ (e' : Env) (o3 : St) (n3 : Nat), nx2 ≤ n3 → o3 (n1 + 2) 0 = some bz → o3 fm 0 = some (.blk 5 n tm (rowsOf mrkC ((met g ms0 i).set i (g i (Es.at_ (met g ms0 i) (i : Int)))))) →
        (∀ f j, f < nx2 → ¬ (f = fm ∧ j = 0) → ¬ (f = n1 + 2 ∧ j = 0) → o3 f j = o2 f j) → R .normal e' ⟨o3, n3⟩) →
      AWp { P := prog, G := gl, X := X2, N := N, r := some l, b := 0 } assign (assignA fun e' s' => s'.o (n1 + 2) 0 = some rd ∧ AWp { P := prog, G := gl, X := X2, N := N, r := some l, b := 0 } body R e' (s'.put (n1 + 2) 0 bz))
        (upd e p (clcD (Es.at_ c.clauses (i : Int)) (.mp fm 0 5 i 0))) ⟨o2, nx2⟩)
    (hend : ∀ o3 n3, Wrote o (n1 + 2) fm tm (met g ms0 n) o3 n3 → Q .normal e ⟨o3, n3⟩) :
    AWp { P := prog, G := gl, X := X, N := N, r := none, b := b } (.rangeFunc gop #[p] assign body) Q e ⟨o, n1 + 2⟩ := by
  refine awp_rangeFunc rfl (by simpa using hp) hg (by simp only [go_sem, ↓reduceIte, reduceCtorEq, Nat.reduceEqDiff, Nat.reduceLT, Nat.reduceLeDiff, Nat.reduceAdd, Nat.reduceSub, Nat.reduceMul, Nat.reduceGT, Int.reduceNeg, Int.reduceToNat]) ?_
  intro X2 l rd bz dn hround
  obtain ⟨oL, hoL⟩ : ∃ oL, oL = St.set o (n1 + 2) 0 (some rd) := ⟨_, rfl⟩
  have L1 : oL n1 0 = o n1 0 := by rw [hoL, set_ne (by omega)]
  have L2 : oL (n1 + 1) 0 = o (n1 + 1) 0 := by rw [hoL, set_ne (by omega)]
  have L3 : oL (n1 + 2) 0 = some rd := by rw [hoL, set_eq]
  refine running1_spec X2 _ _ _ l c day fh nh fu nu fm n n1 (n1 + 1) (n1 + 3) tm (LoopJ oL (n1 + 3) fm n tm) (loopJ (L1.trans hcon) (L2.trans hsta) (by omega) (by omega)) hn hl g ms0 ?_ _ ?_ _ ?_
  · intro N' b' i st hi hJ hr
    obtain ⟨o2, nx2⟩ := st
    have j1 := hJ.1.1
    have j2 := hJ.1.2.1
    have j3 := hJ.2
    simp only at j1 j2
    rw [j3] at j2
    have j4 : o2 (n1 + 2) 0 = some rd := (hJ.1.2.2 (n1 + 2) 0 (by omega) (by omega)).trans L3
    refine around_ctx (hround _ _ _ (by simp) j4 ?_)
    refine hbody X2 l i o2 nx2 rd bz _ hi j1 j2 j4 (fun f j h1 h2 => ?_) hr ?_
    · have e1 : o2 f j = oL f j := hJ.1.2.2 f j (by omega) h2
      rw [e1, hoL, set_ne (by omega)]
    · intro e' o3 n3 h1 h2 h3 h4
      refine ⟨h2, rfl, ?_⟩
      exact loop_end (fr := n1 + 2) hJ L3 (by omega) (by omega) (by omega) h1 h3 (by simpa using j3) h4
  · refine ⟨⟨Nat.le_refl _, ?_, fun f i _ _ => (by rw [hoL]; rfl)⟩, hms⟩
    rw [hms]
    simp only [S.push, St.set]; rw [if_neg (by omega)]; exact hmrk
  · intro st hJ
    obtain ⟨o3, n3⟩ := st
    have j1 := hJ.1.1
    simp only at j1
    refine .inl ⟨(hJ.1.2.2 (n1 + 2) 0 (by omega) (by omega)).trans L3, hend _ _ ⟨show n1 + 2 ≤ n3 by omega, ?_, fun f i h1 h2 => ?_⟩⟩
    · show St.set o3 (n1 + 2) 0 none fm 0 = _
      rw [set_ne (by omega)]; exact hJ.1.2.1
    · show St.set o3 (n1 + 2) 0 none f i = o f i
      rw [set_ne (by omega)]
      have e1 : o3 f i = oL f i := hJ.1.2.2 f i (by omega) h2
      rw [e1, hoL, set_ne (by omega)]
end Tryd
end Go.Proofs
end
section
namespace Go.Proofs
open Go Go.Abs
set_option linter.unusedSimpArgs false
set_option maxRecDepth 10000
namespace Tryd
theorem bsearch_spec (l : List Int) (t : Int) (hl : l.length ≤ 4611686018427387903) (hs : ∀ a b : Nat, a < b → b < l.length → Es.at_ l (a : Int) < Es.at_ l (b : Int)) :
    ∃ pos : Int, APure M 77 [slD 1 intC l, .v (.int .i64 t)] (.tup [.v (.int .i64 pos), .v (.bool (l.contains t))]) := by
  obtain ⟨p, hp1, hp2, hp3⟩ : ∃ p : Nat, p ≤ l.length ∧ (∀ a : Nat, a < p → Es.at_ l (a : Int) < t) ∧ (∀ a : Nat, p ≤ a → a < l.length → t ≤ Es.at_ l (a : Int)) := by
    have key : ∀ n : Nat, n ≤ l.length → ∃ p : Nat, p ≤ n ∧ (∀ a : Nat, a < p → Es.at_ l (a : Int) < t) ∧ (∀ a : Nat, p ≤ a → a < n → t ≤ Es.at_ l (a : Int)) := by
      intro n
      induction n with
      | zero => exact fun _ => ⟨0, Nat.le_refl _, fun a h => by omega, fun a h h2 => by omega⟩
      | succ n ih =>
        intro hn
        obtain ⟨p, h1, h2, h3⟩ := ih (by omega)
        by_cases hlt : Es.at_ l (n : Int) < t
        · refine ⟨n + 1, Nat.le_refl _, fun a ha => ?_, fun a h h2 => by omega⟩
          rcases Nat.lt_or_ge a n with h | h
          · have := hs a n h (by omega); omega
          · have : a = n := by omega
            rw [this]; exact hlt
        · refine ⟨p, by omega, h2, fun a ha hb => ?_⟩
          rcases Nat.lt_or_ge a n with h | h
          · exact h3 a ha h
          · have : a = n := by omega
            rw [this]; omega
    exact key l.length (Nat.le_refl _)
  refine ⟨p, ?_⟩
  refine pure_of gpu func77 rfl results77 ntmps77 (by simp) ⟨pu_slD pu_intC _, .v _, trivial⟩ ?_
  intro b
  simp only [go_sem, ↓reduceIte, reduceCtorEq, Nat.reduceEqDiff, Nat.reduceLT, Nat.reduceLeDiff, Nat.reduceAdd, Nat.reduceSub, Nat.reduceMul, Nat.reduceGT, Int.reduceNeg, Int.reduceToNat]
  refine awp_loopA (fun n e s => ∃ i j : Nat, n = j - i ∧ i ≤ p ∧ p ≤ j ∧ j ≤ l.length ∧ e 0 = slD 1 intC l ∧ e 1 = .v (.int .i64 t) ∧ e 6 = .v (.int .i64 (Es.len l)) ∧ e 7 = .v (.int .i64 i) ∧ e 8 = .v (.int .i64 j)) ?_ (n := l.length) ⟨0, l.length, by omega, by omega, hp1, Nat.le_refl _, ?_⟩
  · rintro n e s ⟨i, j, rfl, hi, hj, hjl, h0, h1, h6, h7, h8⟩
    simp only [go_sem, ↓reduceIte, reduceCtorEq, Nat.reduceEqDiff, Nat.reduceLT, Nat.reduceLeDiff, Nat.reduceAdd, Nat.reduceSub, Nat.reduceMul, Nat.reduceGT, Int.reduceNeg, Int.reduceToNat, h0, h1, h6, h7, h8]
    refine ite_cases (fun hlt => ?_) (fun hlt => ?_)
    · have hmid : IntKind.i64.wrap ((IntKind.u64.wrap (IntKind.i64.wrap ((i : Int) + (j : Int)))).fdiv (2 ^ 1)) = (((i + j) / 2 : Nat) : Int) := by
        rw [wrap_i64 ((i : Int) + j) (by omega) (by omega), wrap_u64, Int.emod_eq_of_lt (by omega) (by omega), Int.fdiv_eq_ediv_of_nonneg _ (by omega)]
        rw [wrap_i64 _ (by omega) (by omega)]; omega
      simp only [hmid]
      have hh : (i + j) / 2 < l.length := by omega
      refine ⟨by omega, ⟨by omega, Es.len_lt.2 hh⟩, ?_⟩
      refine call_at M_P M_G (less_spec _ _) ?_
      simp only [go_sem, ↓reduceIte, reduceCtorEq, Nat.reduceEqDiff, Nat.reduceLT, Nat.reduceLeDiff, Nat.reduceAdd, Nat.reduceSub, Nat.reduceMul, Nat.reduceGT, Int.reduceNeg, Int.reduceToNat, h0, h1, h6, h7, h8]
      refine ite_cases (fun hc => ?_) (fun hc => ?_)
      · refine ⟨j - ((i + j) / 2 + 1), by omega, (i + j) / 2 + 1, j, rfl, ?_, hj, hjl, ?_⟩
        · rcases Nat.lt_or_ge ((i + j) / 2) p with h | h
          · exact h
          · have := hp3 _ h hh; omega
        · simp only [go_sem, ↓reduceIte, reduceCtorEq, Nat.reduceEqDiff, Nat.reduceLT, Nat.reduceLeDiff, Nat.reduceAdd, Nat.reduceSub, Nat.reduceMul, Nat.reduceGT, Int.reduceNeg, Int.reduceToNat, h0, h1, h6, h7, h8]
          rw [wrap_i64 _ (by omega) (by omega)]; simp
      · refine ⟨(i + j) / 2 - i, by omega, i, (i + j) / 2, rfl, hi, ?_, by omega, ?_⟩
        · rcases Nat.lt_or_ge ((i + j) / 2) p with h | h
          · have := hp2 _ h; omega
          · exact h
        · simp only [go_sem, ↓reduceIte, reduceCtorEq, Nat.reduceEqDiff, Nat.reduceLT, Nat.reduceLeDiff, Nat.reduceAdd, Nat.reduceSub, Nat.reduceMul, Nat.reduceGT, Int.reduceNeg, Int.reduceToNat, h0, h1, h6, h7, h8]
    · have hij : i = p := by omega
      subst hij
      have fin : ∀ q : Bool, q = l.contains t → Fz s (.tup [.v (.int .i64 i), .v (.bool q)]) (.tup [.v (.int .i64 i), .v (.bool (l.contains t))]) := fun q hq => by
        rw [hq]; exact Fz_tup ⟨.v _, .v _, trivial⟩
      have hcon : l.contains t = (decide ((i : Int) < Es.len l) && (Es.at_ l (i : Int) == t)) := by
        rw [Bool.eq_iff_iff]
        simp only [List.contains_iff_mem, Bool.and_eq_true, decide_eq_true_eq, beq_iff_eq]
        constructor
        · intro hm
          obtain ⟨a, ha, hat⟩ := List.mem_iff_getElem.1 hm
          have hat' : Es.at_ l (a : Int) = t := by rw [Es.at_nat ha]; exact hat
          have : a = i := by
            rcases Nat.lt_trichotomy a i with h | h | h
            · have := hp2 a h; omega
            · exact h
            · have h1 := hs i a h ha
              have h2 := hp3 i (Nat.le_refl _) (by omega)
              omega
          subst this
          exact ⟨Es.len_lt.2 ha, hat'⟩
        · rintro ⟨h1, h2⟩
          have := Es.len_lt.1 h1
          rw [Es.at_nat this] at h2
          exact h2 ▸ List.getElem_mem _
      repeat' (first | ((with_reducible refine call_at M_P M_G (isNaN2_spec _) ?_); simp only [go_sem, ↓reduceIte, reduceCtorEq, Nat.reduceEqDiff, Nat.reduceLT, Nat.reduceLeDiff, Nat.reduceAdd, Nat.reduceSub, Nat.reduceMul, Nat.reduceGT, Int.reduceNeg, Int.reduceToNat]) | (with_reducible refine And.intro ?_ ?_) | ((with_reducible refine ite_cases ?_ ?_) <;> intro _))
      all_goals first
        | omega
        | (refine fin _ ?_; rw [hcon]; simp [*]; done)
        | (have hq : (Es.at_ l (i : Int) == t) = true := by simpa using ‹¬ (Es.at_ l (i : Int) == t) = false›
           refine fin _ ?_; rw [hcon, hq]; simp [*]; done)
  · simp only [go_sem, ↓reduceIte, reduceCtorEq, Nat.reduceEqDiff, Nat.reduceLT, Nat.reduceLeDiff, Nat.reduceAdd, Nat.reduceSub, Nat.reduceMul, Nat.reduceGT, Int.reduceNeg, Int.reduceToNat]; exact ⟨rfl, rfl⟩
end Tryd
end Go.Proofs
end
section
namespace Go.Proofs
open Go Go.Abs
set_option linter.unusedSimpArgs false
set_option maxRecDepth 10000
namespace Tryd
open Es (runs met met_succ met_length met_at)
/-- What a day's loop owns. -/
structure TickJ (o : St) (nx : Nat) (c : Es.Contract) (s : Es.State) (fh fu fm : Nat) (tm bt : TypeId) (rd : SObj) (ms : List Es.Mark) (st : S) : Prop where
  nxt : nx + 6 ≤ st.nx
  mrk : st.o fm 0 = some (.blk 5 s.marks.length tm (rowsOf mrkC ms))
  len : ms.length = s.marks.length
  off : st.o (nx + 2) 0 = some (.blk 1 1 bt (rowOf [.v (.bool (c.off.contains s.day))]))
  con : st.o (nx + 3) 0 = some (.blk 7 1 27 (rowOf [.v (.int .i64 c.parties), slD 1 intC c.holders, slD 5 untC c.units, slD 7 actC c.acts, slD 16 clsC c.clauses, .v (.int .i64 c.days), slD 1 intC c.off]))
  sta : st.o (nx + 4) 0 = some (.blk 4 1 40 (rowOf [.v (.int .i64 s.day), .ms fh 0 1 0 s.holders.length, .ms fu 0 1 0 s.used.length, .ms fm 0 5 0 s.marks.length]))
  rcd : st.o (nx + 5) 0 = some rd
  old : ∀ f i, f < nx → ¬ (f = fm ∧ i = 0) → st.o f i = o f i
theorem tickJ {o : St} {nx : Nat} {c : Es.Contract} {s : Es.State} {fh fu fm : Nat} {tm bt : TypeId} {rd : SObj} (hf : fm < nx) : RunJ c s.day fh s.holders.length fu s.used.length fm s.marks.length (nx + 3) (nx + 4) (nx + 6) tm (TickJ o nx c s fh fu fm tm bt rd) where
  mrk _ _ h := ⟨h.mrk, h.len⟩
  con _ _ h := h.con
  sta _ _ h := h.sta
  nxt _ _ h := h.nxt
  same ms st st' h hn hs := ⟨Nat.le_trans h.nxt hn, (hs fm 0 (by omega)).trans h.mrk, h.len, (hs _ 0 (by omega)).trans h.off, (hs _ 0 (by omega)).trans h.con, (hs _ 0 (by omega)).trans h.sta, (hs _ 0 (by omega)).trans h.rcd,
    fun f i hf' hne => (hs f i (by omega)).trans (h.old f i hf' hne)⟩
  lt := ⟨by omega, by omega, by omega⟩
theorem tickJ_end {o o2 o3 : St} {nx nx2 n3 : Nat} {c : Es.Contract} {s : Es.State} {fh fu fm : Nat} {tm bt : TypeId} {rd : SObj} {ms ms' : List Es.Mark} (h : TickJ o nx c s fh fu fm tm bt rd ms ⟨o2, nx2⟩) (hf : fm < nx) (hn : nx2 ≤ n3) (hm : o3 fm 0 = some (.blk 5 s.marks.length tm (rowsOf mrkC ms')))
    (hl : ms'.length = s.marks.length) (ho : ∀ f j, f < nx2 → ¬ (f = fm ∧ j = 0) → ¬ (f = nx + 5 ∧ j = 0) → o3 f j = o2 f j) :
    TickJ o nx c s fh fu fm tm bt rd ms' ⟨St.set o3 (nx + 5) 0 (some rd), n3⟩ ∧ nx2 ≤ n3 ∧ ∀ f j, nx + 6 ≤ f → f < nx2 → St.set o3 (nx + 5) 0 (some rd) f j = o2 f j := by
  have hx := h.nxt
  simp only at hx
  have hs : ∀ f j, f < nx2 → ¬ (f = fm ∧ j = 0) → ¬ (f = nx + 5 ∧ j = 0) → St.set o3 (nx + 5) 0 (some rd) f j = o2 f j := fun f j h1 h2 h3 => by
    simp only [St.set]; rw [if_neg h3]; exact ho f j h1 h2 h3
  refine ⟨⟨by simp only; omega, by simp only [St.set]; rw [if_neg (by omega)]; exact hm, hl, (hs _ 0 (by omega) (by omega) (by omega)).trans h.off, (hs _ 0 (by omega) (by omega) (by omega)).trans h.con, (hs _ 0 (by omega) (by omega) (by omega)).trans h.sta,
    by simp [St.set], fun f i hf' hne => (hs f i (by omega) hne (by omega)).trans (h.old f i hf' hne)⟩, hn, fun f j h1 h2 => hs f j h2 (by omega) (by omega)⟩
theorem tick_spec (X : D → Value → Prop) (N : Nat) (r : Option Nat) (b : Nat) (c : Es.Contract) (s : Es.State) (fh fu fm : Nat) (th tu tm : TypeId) (o : St) (nx : Nat) (K : D → S → Prop) (hs : HasSt o fh fu fm th tu tm s) (hx : fh < nx ∧ fu < nx ∧ fm < nx ∧ fh ≠ fm ∧ fu ≠ fm)
    (hm : s.marks.length = c.clauses.length) (hl : c.clauses.length ≤ 400) (ho : c.off.length ≤ 4611686018427387903) (hso : ∀ a b : Nat, a < b → b < c.off.length → Es.at_ c.off (a : Int) < Es.at_ c.off (b : Int))
    (hkd : ∀ i : Nat, i < c.clauses.length → (Es.at_ c.clauses (i : Int)).kind = 1 ∨ (Es.at_ c.clauses (i : Int)).kind = 2 ∨ (Es.at_ c.clauses (i : Int)).kind = 3 ∨ (Es.at_ c.clauses (i : Int)).kind = 4)
    (hleft : ∀ i : Nat, i < c.clauses.length → runs (Es.at_ s.marks (i : Int)) = true → 1 ≤ (Es.at_ s.marks (i : Int)).left ∧ (Es.at_ s.marks (i : Int)).left ≤ 400)
    (hk : ∀ o' nx', Wrote o nx fm tm (met (Es.dayMark c s) s.marks c.clauses.length) o' nx' → K (.tup []) ⟨o', nx'⟩) :
    ACall { P := prog, G := gl, X := X, N := N, r := r, b := b } 49 [conD c, stO s.day fh s.holders.length fu s.used.length fm s.marks.length] ⟨o, nx⟩ K := by
  obtain ⟨pos, hbs⟩ := bsearch_spec c.off s.day ho hso
  refine acall_ofA (M := { P := prog, G := gl, X := X, N := N, r := r, b := b }) func49 rfl results49 ntmps49 (by simp) fun b => ?_
  simp only [go_sem, ↓reduceIte, reduceCtorEq, Nat.reduceEqDiff, Nat.reduceLT, Nat.reduceLeDiff, Nat.reduceAdd, Nat.reduceSub, Nat.reduceMul, Nat.reduceGT, Int.reduceNeg, Int.reduceToNat]
  have g1 : (nx = nx + 1) = False := by simp only [eq_iff_iff, iff_false]; omega
  simp only [go_sem, ↓reduceIte, reduceCtorEq, Nat.reduceEqDiff, Nat.reduceLT, Nat.reduceLeDiff, Nat.reduceAdd, Nat.reduceSub, Nat.reduceMul, Nat.reduceGT, Int.reduceNeg, Int.reduceToNat, g1]
  refine call_at M_P M_G hbs ?_
  have g2 : (nx = nx + 1 + 1) = False := by simp only [eq_iff_iff, iff_false]; omega
  have g3 : (nx + 1 = nx + 1 + 1) = False := by simp only [eq_iff_iff, iff_false]; omega
  simp only [go_sem, ↓reduceIte, reduceCtorEq, Nat.reduceEqDiff, Nat.reduceLT, Nat.reduceLeDiff, Nat.reduceAdd, Nat.reduceSub, Nat.reduceMul, Nat.reduceGT, Int.reduceNeg, Int.reduceToNat, g1, g2, g3]
  refine running_spec _ _ _ _ c s.day fh s.holders.length fu s.used.length fm s.marks.length _ _ _ ?_
  simp only [go_sem, ↓reduceIte, reduceCtorEq, Nat.reduceEqDiff, Nat.reduceLT, Nat.reduceLeDiff, Nat.reduceAdd, Nat.reduceSub, Nat.reduceMul, Nat.reduceGT, Int.reduceNeg, Int.reduceToNat, g1, g2, g3]
  refine awp_rangeFunc rfl (by simp) (gf := 101) (caps := [.mp (nx + 3 + 1) 0 4 0 0, .mp (nx + 3) 0 7 0 0]) (by simp only [go_sem, ↓reduceIte, reduceCtorEq, Nat.reduceEqDiff, Nat.reduceLT, Nat.reduceLeDiff, Nat.reduceAdd, Nat.reduceSub, Nat.reduceMul, Nat.reduceGT, Int.reduceNeg, Int.reduceToNat]) (by simp only [go_sem, ↓reduceIte, reduceCtorEq, Nat.reduceEqDiff, Nat.reduceLT, Nat.reduceLeDiff, Nat.reduceAdd, Nat.reduceSub, Nat.reduceMul, Nat.reduceGT, Int.reduceNeg, Int.reduceToNat]) ?_
  intro X2 l rd bz dn hround
  refine running1_spec X2 _ _ _ l c s.day fh s.holders.length fu s.used.length fm s.marks.length (nx + 3) (nx + 4) (nx + 6) tm (TickJ o nx c s fh fu fm tm 4 rd) (tickJ hx.2.2.1) hm (by omega) (Es.dayMark c s) s.marks ?_ _ ?_ _ ?_
  · intro N' b' i st hi hJ hr
    refine around_ctx (hround _ _ _ (by simp) hJ.rcd ?_)
    refine wpA_sound _ _ _ _ ?_
    have j1 := hJ.mrk
    have j2 := hJ.off
    have j3 := hJ.con
    have j4 := hJ.sta
    have j5 := hJ.rcd
    have j6 := hJ.nxt
    have j7 := hJ.len
    obtain ⟨o2, nx2⟩ := st
    simp only at j1 j2 j3 j4 j5 j6
    have e0 : ∀ {a b : Nat}, a ≠ b → (a = b) = False := fun h => by simp [h]
    have k1 : (nx + 1 + 1 + 1 + 1 + 1 = nx2) = False := e0 (by omega)
    have k2 : (fm = nx2) = False := e0 (by omega)
    have k3 : (nx2 = fm) = False := e0 (by omega)
    have k4 : (nx + 1 + 1 = nx2) = False := e0 (by omega)
    have k5 : (fm = nx + 1 + 1 + 1 + 1 + 1) = False := e0 (by omega)
    have k6 : (nx2 = nx + 1 + 1 + 1 + 1 + 1) = False := e0 (by omega)
    have k7 : (nx + 1 + 1 = nx + 1 + 1 + 1 + 1 + 1) = False := e0 (by omega)
    have k8 : (nx + 1 + 1 = fm) = False := e0 (by omega)
    have k9 : (nx + 1 + 1 + 1 + 1 + 1 = fm) = False := e0 (by omega)
    simp only [go_sem, ↓reduceIte, reduceCtorEq, Nat.reduceEqDiff, Nat.reduceLT, Nat.reduceLeDiff, Nat.reduceAdd, Nat.reduceSub, Nat.reduceMul, Nat.reduceGT, Int.reduceNeg, Int.reduceToNat, envAt, k1, j5]
    refine wpA_sound _ _ _ _ ?_
    have hlft := hleft i (by omega) (by rw [met_at _ _ _ _ (Nat.le_refl _)] at hr; exact hr)
    rw [← met_at (Es.dayMark c s) s.marks i i (Nat.le_refl _)] at hlft
    have him : i < (met (Es.dayMark c s) s.marks i).length := by rw [met_length]; exact hi
    generalize hms : met (Es.dayMark c s) s.marks i = ms at *
    have hwr : IntKind.i64.wrap ((Es.at_ ms (i : Int)).left - 1) = (Es.at_ ms (i : Int)).left - 1 := wrap_i64 _ (by omega) (by omega)
    simp only [go_sem, ↓reduceIte, reduceCtorEq, Nat.reduceEqDiff, Nat.reduceLT, Nat.reduceLeDiff, Nat.reduceAdd, Nat.reduceSub, Nat.reduceMul, Nat.reduceGT, Int.reduceNeg, Int.reduceToNat, j1, j2, k1, k2, k3, k4, k5, k6, k7, k8, k9, him, hi, setC_mrk1, at_set, List.length_set, List.set_set, hwr]
    have hend : ∀ (o3 : St) (n3 : Nat) (m' : Es.Mark), m' = Es.dayMark c s i (Es.at_ ms (i : Int)) → nx2 ≤ n3 → o3 fm 0 = some (.blk 5 s.marks.length tm (rowsOf mrkC (ms.set i m'))) → (∀ f j, f < nx2 → ¬ (f = fm ∧ j = 0) → ¬ (f = nx + 5 ∧ j = 0) → o3 f j = o2 f j) →
        TickJ o nx c s fh fu fm tm 4 rd (ms.set i (Es.dayMark c s i (Es.at_ ms (i : Int)))) ⟨St.set o3 (nx + 5) 0 (some rd), n3⟩ ∧ nx2 ≤ n3 ∧ ∀ f j, nx + 6 ≤ f → f < nx2 → St.set o3 (nx + 5) 0 (some rd) f j = o2 f j := fun o3 n3 m' hm' h1 h2 h3 => by
      rw [← hm']; exact tickJ_end hJ hx.2.2.1 h1 h2 (by simpa using j7) h3
    have hA : Es.dayMark c s i (Es.at_ ms (i : Int)) = Es.at_ ms (i : Int) → ∀ B, TickJ o nx c s fh fu fm tm 4 rd (ms.set i (Es.dayMark c s i (Es.at_ ms (i : Int)))) ⟨St.set (St.set o2 nx2 0 B) (nx + 5) 0 (some rd), nx2 + 1⟩ ∧ nx2 ≤ nx2 + 1 ∧ ∀ f j, nx + 6 ≤ f → f < nx2 → St.set (St.set o2 nx2 0 B) (nx + 5) 0 (some rd) f j = o2 f j := fun h B =>
      hend _ _ _ h.symm (Nat.le_succ _) (by simp only [St.set]; rw [if_neg (by omega), set_at him]; exact j1) (fun f j h1 h2 h3 => by simp only [St.set]; rw [if_neg (by omega)])
    refine ite_cases (fun hp => ?_) (fun hp => ?_)
    · refine ite_cases (fun hb => ?_) (fun hb => ?_)
      · refine ite_cases (fun ho2 => ?_) (fun ho2 => ?_)
        · exact hA (by unfold Es.dayMark; rw [if_pos (by simp_all)]) _
        · (have hdm : Es.dayMark c s i (Es.at_ ms (i : Int)) = if (Es.at_ ms (i : Int)).left - 1 == 0 then Es.older (Es.at_ c.clauses (i : Int)) { Es.at_ ms (i : Int) with left := (Es.at_ ms (i : Int)).left - 1 } else { Es.at_ ms (i : Int) with left := (Es.at_ ms (i : Int)).left - 1 } := by
             unfold Es.dayMark; rw [if_neg (by simp_all)]
           refine ite_cases (fun hz => ?_) (fun hz => ?_)
           · rw [if_pos hz] at hdm
             refine awp_plan ((.op 0 (.op 1 (.op 2 (.op 4 (.op 3 (.op 5 .done))))))) [5] mix (by kernel_rfl) ?_
             simp only [go_sem, ↓reduceIte, reduceCtorEq, Nat.reduceEqDiff, Nat.reduceLT, Nat.reduceLeDiff, Nat.reduceAdd, Nat.reduceSub, Nat.reduceMul, Nat.reduceGT, Int.reduceNeg, Int.reduceToNat, j1, j2, k1, k2, k3, k4, k5, k6, k7, k8, k9, hi]
             refine call_at M_P M_G (elapsed_spec _ (hkd i (by omega))) ?_
             simp only [go_sem, ↓reduceIte, reduceCtorEq, Nat.reduceEqDiff, Nat.reduceLT, Nat.reduceLeDiff, Nat.reduceAdd, Nat.reduceSub, Nat.reduceMul, Nat.reduceGT, Int.reduceNeg, Int.reduceToNat, j1, j2, k1, k2, k3, k4, k5, k6, k7, k8, k9, hi]
             refine aged_spec _ _ _ _ _ fm i tm (ms.set i { Es.at_ ms (i : Int) with left := (Es.at_ ms (i : Int)).left - 1 }) _ _ _ (hkd i (by omega)) (by omega) (by simp [St.set, j7]) (by simpa using him) fun o3 n3 hw => ?_
             rw [at_set him, List.set_set] at hw
             simp only [go_sem, ↓reduceIte, reduceCtorEq, Nat.reduceEqDiff, Nat.reduceLT, Nat.reduceLeDiff, Nat.reduceAdd, Nat.reduceSub, Nat.reduceMul, Nat.reduceGT, Int.reduceNeg, Int.reduceToNat, k1, k2, k3, k4, k5, k6, k7, k8, k9]
             refine ⟨?_, hend o3 n3 _ hdm.symm (by have := hw.1; omega) (by have := hw.2.1; rw [List.length_set, j7] at this; exact this) (fun f j h1 h2 h3 => by rw [hw.2.2 f j (by omega) h2]; simp only [St.set]; rw [if_neg (by omega), if_neg (by omega), if_neg (by omega)])⟩
             rw [hw.2.2 _ 0 (by omega) (by omega)]
             simp only [St.set]; rw [if_neg (by omega), if_pos ⟨trivial, trivial⟩]
           · rw [if_neg hz] at hdm
             exact hend _ _ _ hdm.symm (Nat.le_succ _) (by simp only [St.set]; rw [if_pos ⟨trivial, trivial⟩]) (fun f j h1 h2 h3 => by simp only [St.set]; rw [if_neg (by omega), if_neg (by omega), if_neg (by omega)]))
      · (have hdm : Es.dayMark c s i (Es.at_ ms (i : Int)) = if (Es.at_ ms (i : Int)).left - 1 == 0 then Es.older (Es.at_ c.clauses (i : Int)) { Es.at_ ms (i : Int) with left := (Es.at_ ms (i : Int)).left - 1 } else { Es.at_ ms (i : Int) with left := (Es.at_ ms (i : Int)).left - 1 } := by
           unfold Es.dayMark; rw [if_neg (by simp_all)]
         refine ite_cases (fun hz => ?_) (fun hz => ?_)
         · rw [if_pos hz] at hdm
           refine awp_plan ((.op 0 (.op 1 (.op 2 (.op 4 (.op 3 (.op 5 .done))))))) [5] mix (by kernel_rfl) ?_
           simp only [go_sem, ↓reduceIte, reduceCtorEq, Nat.reduceEqDiff, Nat.reduceLT, Nat.reduceLeDiff, Nat.reduceAdd, Nat.reduceSub, Nat.reduceMul, Nat.reduceGT, Int.reduceNeg, Int.reduceToNat, j1, j2, k1, k2, k3, k4, k5, k6, k7, k8, k9, hi]
           refine call_at M_P M_G (elapsed_spec _ (hkd i (by omega))) ?_
           simp only [go_sem, ↓reduceIte, reduceCtorEq, Nat.reduceEqDiff, Nat.reduceLT, Nat.reduceLeDiff, Nat.reduceAdd, Nat.reduceSub, Nat.reduceMul, Nat.reduceGT, Int.reduceNeg, Int.reduceToNat, j1, j2, k1, k2, k3, k4, k5, k6, k7, k8, k9, hi]
           refine aged_spec _ _ _ _ _ fm i tm (ms.set i { Es.at_ ms (i : Int) with left := (Es.at_ ms (i : Int)).left - 1 }) _ _ _ (hkd i (by omega)) (by omega) (by simp [St.set, j7]) (by simpa using him) fun o3 n3 hw => ?_
           rw [at_set him, List.set_set] at hw
           simp only [go_sem, ↓reduceIte, reduceCtorEq, Nat.reduceEqDiff, Nat.reduceLT, Nat.reduceLeDiff, Nat.reduceAdd, Nat.reduceSub, Nat.reduceMul, Nat.reduceGT, Int.reduceNeg, Int.reduceToNat, k1, k2, k3, k4, k5, k6, k7, k8, k9]
           refine ⟨?_, hend o3 n3 _ hdm.symm (by have := hw.1; omega) (by have := hw.2.1; rw [List.length_set, j7] at this; exact this) (fun f j h1 h2 h3 => by rw [hw.2.2 f j (by omega) h2]; simp only [St.set]; rw [if_neg (by omega), if_neg (by omega), if_neg (by omega)])⟩
           rw [hw.2.2 _ 0 (by omega) (by omega)]
           simp only [St.set]; rw [if_neg (by omega), if_pos ⟨trivial, trivial⟩]
         · rw [if_neg hz] at hdm
           exact hend _ _ _ hdm.symm (Nat.le_succ _) (by simp only [St.set]; rw [if_pos ⟨trivial, trivial⟩]) (fun f j h1 h2 h3 => by simp only [St.set]; rw [if_neg (by omega), if_neg (by omega), if_neg (by omega)]))
    · exact hA (by unfold Es.dayMark; rw [if_pos (by simp_all)]) _
  · refine ⟨Nat.le_refl _, ?_, rfl, ?_, ?_, ?_, ?_, ?_⟩
    · simp only [S.push, St.set]
      repeat rw [if_neg (by omega)]
      exact hs.m
    · simp only [S.push, St.set]
      repeat first | rw [if_neg (by omega)] | rw [if_pos ⟨trivial, trivial⟩]
    · simp only [S.push, St.set]
      repeat first | rw [if_neg (by omega)] | rw [if_pos ⟨trivial, trivial⟩]
    · simp only [S.push, St.set]
      repeat first | rw [if_neg (by omega)] | rw [if_pos ⟨trivial, trivial⟩]
    · simp only [S.push, St.set]
      repeat first | rw [if_neg (by omega)] | rw [if_pos ⟨trivial, trivial⟩]
    · intro f j hf hne
      simp only [S.push, St.set]
      repeat rw [if_neg (by omega)]
  · intro st hJ
    refine .inl ⟨hJ.rcd, ?_⟩
    obtain ⟨o3, n3⟩ := st
    simp only [go_sem, ↓reduceIte, reduceCtorEq, Nat.reduceEqDiff, Nat.reduceLT, Nat.reduceLeDiff, Nat.reduceAdd, Nat.reduceSub, Nat.reduceMul, Nat.reduceGT, Int.reduceNeg, Int.reduceToNat]
    have := hJ.nxt
    simp only at this
    rw [hm] at hJ
    refine hk _ _ ⟨by omega, ?_, fun f j hf hne => ?_⟩
    · simp only [St.set]; rw [if_neg (by omega)]
      have h1 := hJ.mrk
      have h2 := hJ.len
      rw [h2]; exact h1
    · simp only [St.set]; rw [if_neg (by omega)]; exact hJ.old f j hf hne
end Tryd
end Go.Proofs
end
section
namespace Go.Proofs
open Go Go.Abs
set_option linter.unusedSimpArgs false
set_option maxRecDepth 10000
namespace Tryd
theorem equalM_spec (l m : List Es.Mark) (hl : l.length ≤ 9223372036854775807) : APure M 56 [slD 5 mrkC l, slD 5 mrkC m] (.v (.bool (l == m))) := by
  refine pure_of gpu func56 rfl results56 ntmps56 (by simp) ⟨pu_slD pu_mrkC _, pu_slD pu_mrkC _, trivial⟩ ?_
  intro b
  simp only [go_sem, ↓reduceIte, reduceCtorEq, Nat.reduceEqDiff, Nat.reduceLT, Nat.reduceLeDiff, Nat.reduceAdd, Nat.reduceSub, Nat.reduceMul, Nat.reduceGT, Int.reduceNeg, Int.reduceToNat]
  refine ite_cases (fun hne => ?_) (fun hne => ?_)
  · have : l ≠ m := fun h => by rw [h] at hne; simp at hne
    simp [this]
  · have hlen : l.length = m.length := by simp [Es.len] at hne; omega
    refine awp_count0 l.length (fun e0 s0 k e s => (e 0 = e0 0 ∧ e 1 = e0 1 ∧ e 12 = e0 12) ∧ e 13 = .v (.int .i64 k) ∧ s = s0 ∧ ∀ j : Nat, j < k → Es.at_ l j = Es.at_ m j) ⟨⟨rfl, rfl, rfl⟩, ?_, rfl, (by omega)⟩ ?_
    · simp only [go_sem, ↓reduceIte, reduceCtorEq, Nat.reduceEqDiff, Nat.reduceLT, Nat.reduceLeDiff, Nat.reduceAdd, Nat.reduceSub, Nat.reduceMul, Nat.reduceGT, Int.reduceNeg, Int.reduceToNat]; rfl
    rintro k e s hk ⟨⟨h0, h1, h12⟩, h13, rfl, hall⟩
    simp only [go_sem, ↓reduceIte, reduceCtorEq, Nat.reduceEqDiff, Nat.reduceLT, Nat.reduceLeDiff, Nat.reduceAdd, Nat.reduceSub, Nat.reduceMul, Nat.reduceGT, Int.reduceNeg, Int.reduceToNat] at h0 h1 h12
    simp only [go_sem, ↓reduceIte, reduceCtorEq, Nat.reduceEqDiff, Nat.reduceLT, Nat.reduceLeDiff, Nat.reduceAdd, Nat.reduceSub, Nat.reduceMul, Nat.reduceGT, Int.reduceNeg, Int.reduceToNat, h0, h1, h12, h13]
    refine ite_cases (fun hlt => ?_) (fun hlt => ?_)
    · have hlt' : k < l.length := Es.len_lt.1 hlt
      refine awp_plan ((.op 0 (.op 1 (.op 2 (.op 3 (.op 4 (.op 5 (.op 6 (.op 7 (.op 8 .done)))))))))) [] mix (by kernel_rfl) ?_
      simp only [go_sem, ↓reduceIte, reduceCtorEq, Nat.reduceEqDiff, Nat.reduceLT, Nat.reduceLeDiff, Nat.reduceAdd, Nat.reduceSub, Nat.reduceMul, Nat.reduceGT, Int.reduceNeg, Int.reduceToNat, h0, h1, h12, h13, ← Es.mark_beq]
      refine ⟨⟨by omega, hlt⟩, ⟨by omega, by simp only [Es.len] at hlt ⊢; omega⟩, ?_⟩
      refine ite_cases (fun hd => ?_) (fun hd => ?_)
      · have : l ≠ m := fun h => by rw [h] at hd; simp at hd
        simp [this]
      · refine ⟨hlt', ?_⟩
        simp only [go_sem, ↓reduceIte, reduceCtorEq, Nat.reduceEqDiff, Nat.reduceLT, Nat.reduceLeDiff, Nat.reduceAdd, Nat.reduceSub, Nat.reduceMul, Nat.reduceGT, Int.reduceNeg, Int.reduceToNat, h0, h1, h12, h13]
        refine ⟨by rw [wrap_i64 _ (by omega) (by omega)]; simp, fun j hj => ?_⟩
        rcases Nat.lt_or_ge j k with h | h
        · exact hall j h
        · have : j = k := by omega
          rw [this]; simpa using hd
    · have hkk : k = l.length := by simp only [Es.len] at hlt; omega
      have : l = m := by
        apply List.ext_getElem hlen
        intro j h1 h2
        have := hall j (by omega)
        rwa [Es.at_nat h1, Es.at_nat h2] at this
      simp [this]

theorem same_spec (a b : Es.State) (ha : Es.SFits a) : APure M 27 [staD a, staD b] (.v (.bool (a.day == b.day && a.holders == b.holders && a.used == b.used && a.marks == b.marks))) := by
  refine pure_of gpu func27 rfl results27 ntmps27 (by simp) ⟨pu_staD _, pu_staD _, trivial⟩ ?_
  intro b
  simp only [go_sem, ↓reduceIte, reduceCtorEq, Nat.reduceEqDiff, Nat.reduceLT, Nat.reduceLeDiff, Nat.reduceAdd, Nat.reduceSub, Nat.reduceMul, Nat.reduceGT, Int.reduceNeg, Int.reduceToNat]
  repeat' (first | ((with_reducible refine call_at M_P M_G (equalI_spec _ _ ha.holders) ?_); simp only [go_sem, ↓reduceIte, reduceCtorEq, Nat.reduceEqDiff, Nat.reduceLT, Nat.reduceLeDiff, Nat.reduceAdd, Nat.reduceSub, Nat.reduceMul, Nat.reduceGT, Int.reduceNeg, Int.reduceToNat]) | ((with_reducible refine call_at M_P M_G (equalB_spec _ _ ha.used) ?_); simp only [go_sem, ↓reduceIte, reduceCtorEq, Nat.reduceEqDiff, Nat.reduceLT, Nat.reduceLeDiff, Nat.reduceAdd, Nat.reduceSub, Nat.reduceMul, Nat.reduceGT, Int.reduceNeg, Int.reduceToNat]) | ((with_reducible refine call_at M_P M_G (equalM_spec _ _ ha.marks) ?_); simp only [go_sem, ↓reduceIte, reduceCtorEq, Nat.reduceEqDiff, Nat.reduceLT, Nat.reduceLeDiff, Nat.reduceAdd, Nat.reduceSub, Nat.reduceMul, Nat.reduceGT, Int.reduceNeg, Int.reduceToNat]) | (with_reducible refine And.intro ?_ ?_) | ((with_reducible refine ite_cases ?_ ?_) <;> intro _))
  all_goals first | (simp [decide_eq_true_eq, *]; done) | (simp [decide_eq_true_eq, *]; omega) | (simp_all [decide_eq_true_eq]; done) | (simp_all [decide_eq_true_eq]; omega)

theorem doer_spec (c : Es.Contract) (s : Es.State) (a : Int) (h1 : 0 ≤ a ∧ a < Es.len c.acts) (h2 : (Es.at_ c.acts a).role ≠ -1 → 0 ≤ (Es.at_ c.acts a).role ∧ (Es.at_ c.acts a).role < Es.len s.holders) : APure M 47 [conD c, staD s, .v (.int .i64 a)] (.v (.int .i64 (if (Es.at_ c.acts a).role == -1 then -1 else Es.at_ s.holders (Es.at_ c.acts a).role))) := by
  refine pure_of gpu func47 rfl results47 ntmps47 (by simp) ⟨pu_conD _, pu_staD _, .v _, trivial⟩ ?_
  intro b
  simp only [go_sem, ↓reduceIte, reduceCtorEq, Nat.reduceEqDiff, Nat.reduceLT, Nat.reduceLeDiff, Nat.reduceAdd, Nat.reduceSub, Nat.reduceMul, Nat.reduceGT, Int.reduceNeg, Int.reduceToNat]
  refine ⟨h1, ?_⟩
  repeat' (first | (with_reducible refine And.intro ?_ ?_) | ((with_reducible refine ite_cases ?_ ?_) <;> intro _))
  · exact (h2 (bne_iff_ne.1 ‹_›)).1
  · exact (h2 (bne_iff_ne.1 ‹_›)).2
  · first | (simp [bne_iff_ne, *]; done) | (simp [bne_iff_ne, *]; omega) | (simp_all [bne_iff_ne]; done) | (simp_all [bne_iff_ne]; omega)
  · first | (simp [bne_iff_ne, *]; done) | (simp [bne_iff_ne, *]; omega) | (simp_all [bne_iff_ne]; done) | (simp_all [bne_iff_ne]; omega)
end Tryd
end Go.Proofs
end
section
namespace Go.Proofs
open Go Go.Abs
set_option linter.unusedSimpArgs false
set_option linter.unusedVariables false
set_option maxRecDepth 10000
namespace Tryd
open Es (runs met met_succ met_length met_at)
/-- What an act's execution leaves. -/
structure Did (o : St) (nx fh fu fm : Nat) (th tu tm : TypeId) (s : Es.State) (o' : St) (nx' : Nat) : Prop where
  nxt : nx ≤ nx'
  has : HasSt o' fh fu fm th tu tm s
  old : ∀ f i, f < nx → ¬ (f = fm ∧ i = 0) → ¬ (f = fh ∧ i = 0) → ¬ (f = fu ∧ i = 0) → o' f i = o f i
theorem setC_one {α : Type} [Inhabited α] {f : α → Nat → D} {l : List α} {r : Nat} (hr : r < l.length) (d : D) (v : α) (h0 : f v 0 = d) (hf : ∀ a c, f a (c + 1) = .any) : setC (rowsOf f l) r 0 [d] = rowsOf f (l.set r v) := by
  funext r' c'
  simp only [setC, rowsOf, List.length_cons, List.length_nil]
  by_cases hr' : r' = r
  · subst hr'
    simp only [List.getD_eq_getElem?_getD, List.getElem?_set, hr, if_true, Option.getD_some, true_and]
    cases c' with
    | zero => rw [if_pos (by omega), h0]; rfl
    | succ c' => rw [if_neg (by omega), hf, hf]
  · rw [if_neg (by omega)]
    simp only [List.getD_eq_getElem?_getD, List.getElem?_set, if_neg (Ne.symm hr')]
theorem setC_int {l : List Int} {r : Nat} (hr : r < l.length) (v : Int) : setC (rowsOf intC l) r 0 [.v (.int .i64 v)] = rowsOf intC (l.set r v) := setC_one hr _ v rfl fun _ _ => rfl
theorem setC_boo {l : List Bool} {r : Nat} (hr : r < l.length) (v : Bool) : setC (rowsOf booC l) r 0 [.v (.bool v)] = rowsOf booC (l.set r v) := setC_one hr _ v rfl fun _ _ => rfl
/-- Where the act, its doer and the arguments lie. -/
structure DoR (c : Es.Contract) (s : Es.State) (act : Int) (fh fu fm : Nat) (o : St) (nx : Nat) (f6 f7 : Nat) (e : Env) (st : S) : Prop where
  nxt : nx + 3 ≤ f6 ∧ f6 < st.nx ∧ nx + 3 ≤ f7 ∧ f7 < st.nx ∧ f6 ≠ f7
  e3 : e 3 = .mp nx 0 7 0 0
  e4 : e 4 = .mp (nx + 1) 0 4 0 0
  e5 : e 5 = .mp (nx + 2) 0 1 0 0
  e6 : e 6 = .mp f6 0 7 0 0
  e7 : e 7 = .mp f7 0 1 0 0
  con : st.o nx 0 = some (.blk 7 1 27 (rowOf [.v (.int .i64 c.parties), slD 1 intC c.holders, slD 5 untC c.units, slD 7 actC c.acts, slD 16 clsC c.clauses, .v (.int .i64 c.days), slD 1 intC c.off]))
  sta : st.o (nx + 1) 0 = some (.blk 4 1 40 (rowOf [.v (.int .i64 s.day), .ms fh 0 1 0 s.holders.length, .ms fu 0 1 0 s.used.length, .ms fm 0 5 0 s.marks.length]))
  arg : st.o (nx + 2) 0 = some (.blk 1 1 3 (rowOf [.v (.int .i64 act)]))
  a : st.o f6 0 = some (.blk 7 1 53 (rowOf [.v (.int .i64 (Es.at_ c.acts act).kind), .v (.int .i64 (Es.at_ c.acts act).role), .v (.int .i64 (Es.at_ c.acts act).give), .v (.int .i64 (Es.at_ c.acts act).to), .v (.int .i64 (Es.at_ c.acts act).unit), .v (.int .i64 (Es.at_ c.acts act).lot.num), .v (.int .i64 (Es.at_ c.acts act).lot.den)]))
  who : st.o f7 0 = some (.blk 1 1 3 (rowOf [.v (.int .i64 (Es.doer c s act))]))
  old : ∀ f i, f < nx → st.o f i = o f i
set_option maxHeartbeats 4000000 in
theorem do_spec (X : D → Value → Prop) (N : Nat) (r : Option Nat) (b : Nat) (c : Es.Contract) (s : Es.State) (act : Int) (fh fu fm : Nat) (th tu tm : TypeId) (o : St) (nx : Nat) (K : D → S → Prop) (hs : HasSt o fh fu fm th tu tm s) (hx : fh < nx ∧ fu < nx ∧ fm < nx ∧ fh ≠ fm ∧ fu ≠ fm ∧ fh ≠ fu)
    (hm : s.marks.length = c.clauses.length) (hl : c.clauses.length ≤ 400) (hu : s.used.length = c.acts.length) (ha : 0 ≤ act ∧ act < Es.len c.acts)
    (hrole : (Es.at_ c.acts act).role ≠ -1 → 0 ≤ (Es.at_ c.acts act).role ∧ (Es.at_ c.acts act).role < Es.len s.holders)
    (hgive : (Es.at_ c.acts act).kind ≠ 1 → 0 ≤ (Es.at_ c.acts act).give ∧ (Es.at_ c.acts act).give < Es.len s.holders)
    (hkd : ∀ i : Nat, i < c.clauses.length → (Es.at_ c.clauses (i : Int)).kind = 1 ∨ (Es.at_ c.clauses (i : Int)).kind = 2 ∨ (Es.at_ c.clauses (i : Int)).kind = 3 ∨ (Es.at_ c.clauses (i : Int)).kind = 4)
    (hgot : ∀ i : Nat, i < c.clauses.length → runs (Es.at_ s.marks (i : Int)) = true → 0 ≤ (Es.at_ s.marks (i : Int)).got ∧ (Es.at_ s.marks (i : Int)).got ≤ 9)
    (hk : ∀ o' nx', Did o nx fh fu fm th tu tm (Es.doS c s act) o' nx' → K (.tup []) ⟨o', nx'⟩) :
    ACall { P := prog, G := gl, X := X, N := N, r := r, b := b } 50 [conD c, stO s.day fh s.holders.length fu s.used.length fm s.marks.length, .v (.int .i64 act)] ⟨o, nx⟩ K := by
  refine acall_wf fun hw => ?_
  simp only at hw
  refine acall_ofA (M := { P := prog, G := gl, X := X, N := N, r := r, b := b }) func50 rfl results50 ntmps50 (by simp) fun b => ?_
  simp only [go_sem, ↓reduceIte, reduceCtorEq, Nat.reduceEqDiff, Nat.reduceLT, Nat.reduceLeDiff, Nat.reduceAdd, Nat.reduceSub, Nat.reduceMul, Nat.reduceGT, Int.reduceNeg, Int.reduceToNat]
  have e0 : ∀ {a b : Nat}, a ≠ b → (a = b) = False := fun h => by simp [h]
  have g1 : (nx = nx + 1) = False := e0 (by omega)
  have g2 : (nx = nx + 1 + 1) = False := e0 (by omega)
  have g3 : (nx + 1 = nx + 1 + 1) = False := e0 (by omega)
  refine AWp.mono (Q := fun x e1 s1 => x = .normal ∧ (∃ f6 f7, DoR c s act fh fu fm o nx f6 f7 e1 s1)) ?_ ?_
  · refine awp_plan ((.op 0 (.op 1 (.op 2 (.op 3 (.op 4 (.op 5 (.op 6 (.op 7 (.alt 8 (.alt 9 (.op 10 (.op 11 (.op 12 .done))) (.alt 10 (.op 9 (.op 11 (.op 12 .done))) .dead)) (.alt 9 (.alt 8 (.op 10 (.op 11 (.op 12 .done))) (.alt 10 (.op 8 (.op 11 (.op 12 .done))) .dead)) (.alt 10 (.alt 8 (.op 9 (.op 11 (.op 12 .done))) (.alt 9 (.op 8 (.op 11 (.op 12 .done))) .dead)) .dead)))))))))))) [11, 12] mix (by kernel_rfl) ?_
    have hd := doer_spec c s act ha hrole
    simp only [go_sem, ↓reduceIte, reduceCtorEq, Nat.reduceEqDiff, Nat.reduceLT, Nat.reduceLeDiff, Nat.reduceAdd, Nat.reduceSub, Nat.reduceMul, Nat.reduceGT, Int.reduceNeg, Int.reduceToNat, g1, g2, g3]
    refine ⟨ha, ?_⟩
    have h2 : (nx + 1 + 1 + 1 = nx + 1 + 1 + 1 + 1) = False := e0 (by omega)
    have h3 : (nx + 1 + 1 + 1 + 1 = nx + 1 + 1 + 1) = False := e0 (by omega)
    have hH : ∀ o', SameB nx o o' → HasSt o' fh fu fm th tu tm s := fun o' h => ⟨(h fh 0 hx.1).trans hs.h, (h fu 0 hx.2.1).trans hs.u, (h fm 0 hx.2.2.1).trans hs.m⟩
    have hB : ∀ {o' : St} {f : Nat} {i : Nat} {B : Option SObj}, nx ≤ f → SameB nx o o' → SameB nx o (St.set o' f i B) := fun hf h => h.set hf _ _
    repeat' (first | ((with_reducible apply lend_at M_P M_G (hd) gpu (Flat.v _)); (exact ⟨(pu_conD _).fz, (hH _ (by (repeat (refine hB (by omega) ?_)); exact SameB.refl _ _)).fz, .v _, trivial⟩); simp only [go_sem, ↓reduceIte, reduceCtorEq, Nat.reduceEqDiff, Nat.reduceLT, Nat.reduceLeDiff, Nat.reduceAdd, Nat.reduceSub, Nat.reduceMul, Nat.reduceGT, Int.reduceNeg, Int.reduceToNat, g1, g2, g3, h2, h3]) | (with_reducible refine And.intro ?_ ?_) | ((with_reducible refine ite_cases ?_ ?_) <;> intro _))
    all_goals first
      | (refine keeps_set ?_; (repeat rw [set_ne (by omega)]); exact hw _ _ (by omega))
      | (refine ⟨_, _, ⟨?_, rfl, rfl, rfl, rfl, rfl, ?_, ?_, ?_, ?_, ?_, ?_⟩⟩
         · simp only; omega
         · dsimp only; repeat (first | rw [set_eq] | rw [set_ne (by omega)])
         · dsimp only; repeat (first | rw [set_eq] | rw [set_ne (by omega)])
         · dsimp only; repeat (first | rw [set_eq] | rw [set_ne (by omega)])
         · dsimp only; repeat (first | rw [set_eq] | rw [set_ne (by omega)])
         · dsimp only; (repeat (first | rw [set_eq] | rw [set_ne (by omega)])); rfl
         · intro f i hf; dsimp only; repeat rw [set_ne (by omega)])
  · rintro x e1 ⟨o1, n1⟩ ⟨rfl, f6, f7, ⟨k0, k3, k4, k5, k6, k7, kc, ks, ka, kA, kw, ko⟩⟩
    simp only at k0 kc ks ka kA kw ko
    have hu1 : o1 fu 0 = some (.blk 1 s.used.length tu (rowsOf booC s.used)) := (ko fu 0 hx.2.1).trans hs.u
    have hal : act < (s.used.length : Int) := by have := ha.2; simp only [Es.len] at this; omega
    simp only [thenA, go_sem, ↓reduceIte, reduceCtorEq, Nat.reduceEqDiff, Nat.reduceLT, Nat.reduceLeDiff, Nat.reduceAdd, Nat.reduceSub, Nat.reduceMul, Nat.reduceGT, Int.reduceNeg, Int.reduceToNat, k3, k4, k5, k6, k7, kc, ks, ka, kA, kw, hu1]
    refine ⟨⟨ha.1, hal⟩, by omega, ?_⟩
    rw [show Es.at_ s.used ((0 + act.toNat : Nat) : Int) = Es.at_ s.used act by rw [Nat.zero_add, Es.at_nn]]
    have hol : HasSt o1 fh fu fm th tu tm s := ⟨(ko _ _ hx.1).trans hs.h, hu1, (ko _ _ hx.2.2.1).trans hs.m⟩
    refine ite_cases (fun hus => ?_) (fun hus => ?_)
    · refine hk _ _ ⟨by omega, ?_, fun f i hf _ _ _ => ko f i hf⟩
      rw [show Es.doS c s act = s by unfold Es.doS; rw [if_pos hus]]
      exact hol
    refine running_spec _ _ _ _ c s.day fh s.holders.length fu s.used.length fm s.marks.length _ _ _ ?_
    simp only [go_sem, ↓reduceIte, reduceCtorEq, Nat.reduceEqDiff, Nat.reduceLT, Nat.reduceLeDiff, Nat.reduceAdd, Nat.reduceSub, Nat.reduceMul, Nat.reduceGT, Int.reduceNeg, Int.reduceToNat, k3, k4, k5, k6, k7]
    refine run_loop (n1 := n1) c s.day fh s.holders.length fu s.used.length fm s.marks.length tm (Es.actMark c act (Es.doer c s act)) s.marks (by decide) (by simp only [go_sem, ↓reduceIte, reduceCtorEq, Nat.reduceEqDiff, Nat.reduceLT, Nat.reduceLeDiff, Nat.reduceAdd, Nat.reduceSub, Nat.reduceMul, Nat.reduceGT, Int.reduceNeg, Int.reduceToNat]) (by rw [set_ne (by omega), set_eq]) (by rw [set_eq]) (by omega) hm (by omega) rfl (by rw [set_ne (by omega), set_ne (by omega)]; exact hol.m) ?_ ?_
    · intro X2 l i o2 nx2 rd bz R hi hn2 hm2 hr2 ho2 hrun hR
      have q0 : o2 (nx + 2) 0 = o1 (nx + 2) 0 := by rw [ho2 _ 0 (by omega) (by omega), set_ne (by omega), set_ne (by omega)]
      have q1 : o2 f7 0 = o1 f7 0 := by rw [ho2 _ 0 (by omega) (by omega), set_ne (by omega), set_ne (by omega)]
      rw [ka] at q0
      rw [kw] at q1
      have u1 : (nx2 = n1 + 2) = False := e0 (by omega); have u2 : (nx2 = fm) = False := e0 (by omega); have u3 : (nx2 = nx + 2) = False := e0 (by omega); have u4 : (nx2 = f7) = False := e0 (by omega); have u5 : (n1 + 2 = nx2) = False := e0 (by omega); have u6 : (n1 + 2 = fm) = False := e0 (by omega); have u7 : (n1 + 2 = nx + 2) = False := e0 (by omega); have u8 : (n1 + 2 = f7) = False := e0 (by omega); have u9 : (fm = nx2) = False := e0 (by omega); have u10 : (fm = n1 + 2) = False := e0 (by omega); have u11 : (fm = nx + 2) = False := e0 (by omega); have u12 : (fm = f7) = False := e0 (by omega); have u13 : (nx + 2 = nx2) = False := e0 (by omega); have u14 : (nx + 2 = n1 + 2) = False := e0 (by omega); have u15 : (nx + 2 = fm) = False := e0 (by omega); have u16 : (nx + 2 = f7) = False := e0 (by omega); have u17 : (f7 = nx2) = False := e0 (by omega); have u18 : (f7 = n1 + 2) = False := e0 (by omega); have u19 : (f7 = fm) = False := e0 (by omega); have u20 : (f7 = nx + 2) = False := e0 (by omega)
      have hgt := hgot i (by omega) (by rw [met_at _ _ _ _ (Nat.le_refl _)] at hrun; exact hrun)
      rw [← met_at (Es.actMark c act (Es.doer c s act)) s.marks i i (Nat.le_refl _)] at hgt
      have hlen : (met (Es.actMark c act (Es.doer c s act)) s.marks i).length = s.marks.length := met_length _ _ _
      have him : i < (met (Es.actMark c act (Es.doer c s act)) s.marks i).length := by rw [hlen]; exact hi
      generalize met (Es.actMark c act (Es.doer c s act)) s.marks i = ms at *
      have hfin : ∀ (e' : Env) (o3 : St) (n3 : Nat) (m' : Es.Mark), m' = Es.actMark c act (Es.doer c s act) i (Es.at_ ms (i : Int)) → nx2 ≤ n3 → o3 (n1 + 2) 0 = some bz → o3 fm 0 = some (.blk 5 s.marks.length tm (rowsOf mrkC (ms.set i m'))) →
          (∀ f j, f < nx2 → ¬ (f = fm ∧ j = 0) → ¬ (f = n1 + 2 ∧ j = 0) → o3 f j = o2 f j) → R .normal e' ⟨o3, n3⟩ := fun e' o3 n3 m' hm' h1 h2 h3 h4 => hR e' o3 n3 h1 h2 (by rw [← hm']; exact h3) h4
      have hfinA : ∀ (e' : Env) (B : Option SObj) (m' : Es.Mark), m' = Es.actMark c act (Es.doer c s act) i (Es.at_ ms (i : Int)) → R .normal e' ⟨St.set (St.set (St.set o2 nx2 0 B) (n1 + 2) 0 (some bz)) fm 0 (some (.blk 5 s.marks.length tm (rowsOf mrkC (ms.set i m')))), nx2 + 1⟩ := fun e' B m' hm' =>
        hfin e' _ _ m' hm' (by omega) (by rw [set_ne (by omega), set_eq]) (by rw [set_eq]) (fun f j h1 h2 h3 => by
          simp only [St.set]; rw [if_neg (by omega), if_neg (by omega), if_neg (by omega)])
      have hfinB : ∀ (e' : Env) (B : Option SObj), Es.at_ ms (i : Int) = Es.actMark c act (Es.doer c s act) i (Es.at_ ms (i : Int)) → R .normal e' ⟨St.set (St.set o2 nx2 0 B) (n1 + 2) 0 (some bz), nx2 + 1⟩ := fun e' B hm' =>
        hfin e' _ _ _ hm' (by omega) (by rw [set_eq]) (by rw [set_ne (by omega), set_ne (by omega), set_at him]; exact hm2) (fun f j h1 h2 h3 => by
          simp only [St.set]; rw [if_neg (by omega), if_neg (by omega)])
      have hfinC : ∀ (e' : Env) (oo o3 : St) (n3 : Nat) (m' : Es.Mark), Wrote oo (nx2 + 1) fm tm (ms.set i m') o3 n3 → oo (n1 + 2) 0 = some bz → (∀ f j, f < nx2 → ¬ (f = fm ∧ j = 0) → ¬ (f = n1 + 2 ∧ j = 0) → oo f j = o2 f j) → m' = Es.actMark c act (Es.doer c s act) i (Es.at_ ms (i : Int)) → R .normal e' ⟨o3, n3⟩ := fun e' oo o3 n3 m' hw h1 h2 hm' =>
        hfin e' _ _ m' hm' (by have := hw.1; omega) ((hw.2.2 _ _ (by omega) (by omega)).trans h1) (by have := hw.2.1; rw [List.length_set, hlen] at this; exact this) (fun f j g1 g2 g3 => by
          rw [hw.2.2 f j (by omega) g2]; exact h2 f j g1 g2 g3)
      refine wpA_sound _ _ _ _ ?_
      simp only [go_sem, ↓reduceIte, reduceCtorEq, Nat.reduceEqDiff, Nat.reduceLT, Nat.reduceLeDiff, Nat.reduceAdd, Nat.reduceSub, Nat.reduceMul, Nat.reduceGT, Int.reduceNeg, Int.reduceToNat, k3, k4, k5, k6, k7, u1, u2, u3, u4, u5, u6, u7, u8, u9, u10, u11, u12, u13, u14, u15, u16, u17, u18, u19, u20, hr2]
      refine wpA_sound _ _ _ _ ?_
      simp only [go_sem, ↓reduceIte, reduceCtorEq, Nat.reduceEqDiff, Nat.reduceLT, Nat.reduceLeDiff, Nat.reduceAdd, Nat.reduceSub, Nat.reduceMul, Nat.reduceGT, Int.reduceNeg, Int.reduceToNat, k3, k4, k5, k6, k7, u1, u2, u3, u4, u5, u6, u7, u8, u9, u10, u11, u12, u13, u14, u15, u16, u17, u18, u19, u20, hm2, q0, q1, him, hi, setC_mrk4, at_set, List.length_set, List.set_set]
      repeat' (first | (with_reducible refine And.intro ?_ ?_) | ((with_reducible refine ite_cases ?_ ?_) <;> intro _))
      all_goals refine awp_plan ((.op 0 (.op 1 (.op 2 (.op 3 (.op 4 (.op 5 (.op 6 (.op 7 (.op 8 (.op 9 (.op 10 (.op 11 (.op 12 (.op 13 (.op 14 (.op 15 (.op 16 (.op 17 (.op 18 (.op 19 .done))))))))))))))))))))) [] mix (by kernel_rfl) ?_
      all_goals simp only [go_sem, ↓reduceIte, reduceCtorEq, Nat.reduceEqDiff, Nat.reduceLT, Nat.reduceLeDiff, Nat.reduceAdd, Nat.reduceSub, Nat.reduceMul, Nat.reduceGT, Int.reduceNeg, Int.reduceToNat, k3, k4, k5, k6, k7, u1, u2, u3, u4, u5, u6, u7, u8, u9, u10, u11, u12, u13, u14, u15, u16, u17, u18, u19, u20, hm2, q0, q1, him, hi, setC_mrk4, at_set, List.length_set, List.set_set]
      repeat' (first | (with_reducible refine And.intro ?_ ?_) | ((with_reducible refine ite_cases ?_ ?_) <;> intro _))
      all_goals first
        | exact hfinA _ _ _ (by clear hfinA hfinB hfinC hfin hR hm2 hr2 ho2 kc ks ka kA kw ko q0 q1 hk hol hs hgt hgot hkd hgive hrole k0 k3 k4 k5 k6 k7 hw hu1 hx hrun u1 u2 u3 u4 u5 u6 u7 u8 u9 u10 u11 u12 u13 u14 u15 u16 u17 u18 u19 u20; clear hus hal ha hu hm hl; simp_all [Es.actMark])
        | exact hfinB _ _ (by clear hfinA hfinB hfinC hfin hR hm2 hr2 ho2 kc ks ka kA kw ko q0 q1 hk hol hs hgt hgot hkd hgive hrole k0 k3 k4 k5 k6 k7 hw hu1 hx hrun u1 u2 u3 u4 u5 u6 u7 u8 u9 u10 u11 u12 u13 u14 u15 u16 u17 u18 u19 u20; clear hus hal ha hu hm hl; simp_all [Es.actMark])
        | (refine awp_plan ((.op 0 (.op 1 (.op 2 (.op 4 (.op 3 (.op 5 .done))))))) [5] mix (by kernel_rfl) ?_
           simp only [go_sem, ↓reduceIte, reduceCtorEq, Nat.reduceEqDiff, Nat.reduceLT, Nat.reduceLeDiff, Nat.reduceAdd, Nat.reduceSub, Nat.reduceMul, Nat.reduceGT, Int.reduceNeg, Int.reduceToNat, k3, k4, k5, k6, k7, u1, u2, u3, u4, u5, u6, u7, u8, u9, u10, u11, u12, u13, u14, u15, u16, u17, u18, u19, u20, hm2, q0, q1, him, hi]
           refine call_at M_P M_G (counted_spec _ (hkd i (by omega))) ?_
           simp only [go_sem, ↓reduceIte, reduceCtorEq, Nat.reduceEqDiff, Nat.reduceLT, Nat.reduceLeDiff, Nat.reduceAdd, Nat.reduceSub, Nat.reduceMul, Nat.reduceGT, Int.reduceNeg, Int.reduceToNat, k3, k4, k5, k6, k7, u1, u2, u3, u4, u5, u6, u7, u8, u9, u10, u11, u12, u13, u14, u15, u16, u17, u18, u19, u20, hm2, q0, q1, him, hi]
           refine acted_spec' _ _ _ _ _ fm i s.marks.length tm _ _ _ _ (by (repeat (first | rw [set_eq] | rw [set_ne (by omega)])); try exact hm2) (by simp [hlen]) (by omega) hi (by first | exact hgt | (rw [at_set him]; exact hgt)) fun o3 n3 hw => ?_
           try simp only [at_set him, List.set_set] at hw
           simp only [go_sem, ↓reduceIte, reduceCtorEq, Nat.reduceEqDiff, Nat.reduceLT, Nat.reduceLeDiff, Nat.reduceAdd, Nat.reduceSub, Nat.reduceMul, Nat.reduceGT, Int.reduceNeg, Int.reduceToNat, k3, k4, k5, k6, k7]
           refine hfinC _ _ _ _ _ hw ?_ ?_ ?_
           · (repeat (first | rw [set_eq] | rw [set_ne (by omega)]))
           · intro f j h1 h2 h3
             simp only [St.set]
             repeat rw [if_neg (by omega)]
           · clear hw; clear hfinA hfinB hfinC hfin hR hm2 hr2 ho2 kc ks ka kA kw ko q0 q1 hk hol hs hgt hgot hkd hgive hrole k0 k3 k4 k5 k6 k7 hw hu1 hx hrun u1 u2 u3 u4 u5 u6 u7 u8 u9 u10 u11 u12 u13 u14 u15 u16 u17 u18 u19 u20; clear hus hal ha hu hm hl; simp_all [Es.actMark])
    · intro o3 n3 hw3
      have hn3 := hw3.1
      have hl1 : (met (Es.actMark c act (Es.doer c s act)) s.marks s.marks.length).length = s.marks.length := met_length _ _ _
      have hm3 := hw3.2.1
      rw [hl1] at hm3
      have hold3 : ∀ f i, f < n1 → ¬ (f = fm ∧ i = 0) → o3 f i = o1 f i := fun f i h1 h2 => by rw [hw3.2.2 f i (by omega) h2, set_ne (by omega), set_ne (by omega)]
      have hend : ∀ (M2 : List Es.Mark) (oT : St) (nT : Nat), M2 = (if (Es.at_ c.acts act).kind == 3 then met (Es.novMark c (Es.at_ c.acts act)) (met (Es.actMark c act (Es.doer c s act)) s.marks c.clauses.length) c.clauses.length else met (Es.actMark c act (Es.doer c s act)) s.marks c.clauses.length) →
          n1 ≤ nT → oT fm 0 = some (.blk 5 s.marks.length tm (rowsOf mrkC M2)) → (∀ f i, f < n1 → ¬ (f = fm ∧ i = 0) → oT f i = o1 f i) →
          ((Es.at_ c.acts act).kind = 1 → K (.tup []) ⟨oT, nT⟩) ∧ ((Es.at_ c.acts act).kind ≠ 1 → ∀ o', o' fh 0 = some (.blk 1 s.holders.length th (rowsOf intC (s.holders.set (Es.at_ c.acts act).give.toNat (Es.at_ c.acts act).to))) →
            o' fu 0 = some (.blk 1 s.used.length tu (rowsOf booC (s.used.set act.toNat true))) → (∀ f i, ¬ (f = fh ∧ i = 0) → ¬ (f = fu ∧ i = 0) → o' f i = oT f i) → K (.tup []) ⟨o', nT⟩) := by
        intro M2 oT nT hM hnT hT hoT
        have hML : M2.length = s.marks.length := by rw [hM]; split <;> simp [met_length]
        have hdo : Es.doS c s act = { s with marks := M2, holders := if (Es.at_ c.acts act).kind != 1 then s.holders.set (Es.at_ c.acts act).give.toNat (Es.at_ c.acts act).to else s.holders, used := if (Es.at_ c.acts act).kind != 1 then s.used.set act.toNat true else s.used } := by
          unfold Es.doS; rw [if_neg hus, hM]
        refine ⟨fun h1 => hk _ _ ⟨by omega, ?_, fun f i hf hne _ _ => ?_⟩, fun h1 o' hh hu' ho' => hk _ _ ⟨by omega, ?_, fun f i hf hne h2 h3 => ?_⟩⟩
        · rw [hdo]
          simp only [h1, bne_self_eq_false, Bool.false_eq_true, if_false]
          exact ⟨(hoT _ _ (by omega) (by omega)).trans hol.h, (hoT _ _ (by omega) (by omega)).trans hol.u, by rw [hML]; exact hT⟩
        · rw [hoT f i (by omega) hne]; exact ko f i hf
        · rw [hdo]
          have : ((Es.at_ c.acts act).kind != 1) = true := by simpa using h1
          simp only [this, if_true]
          refine ⟨by simp only [List.length_set]; exact hh, by simp only [List.length_set]; exact hu', ?_⟩
          rw [hML]; exact (ho' _ _ (by omega) (by omega)).trans hT
        · rw [ho' f i h2 h3, hoT f i (by omega) hne]; exact ko f i hf
      have v1 : (fu = fh) = False := e0 (by omega); have v2 : (fu = nx) = False := e0 (by omega); have v3 : (fu = nx + 1) = False := e0 (by omega); have v4 : (fu = nx + 2) = False := e0 (by omega); have v5 : (fu = f6) = False := e0 (by omega); have v6 : (fh = fu) = False := e0 (by omega); have v7 : (fh = nx) = False := e0 (by omega); have v8 : (fh = nx + 1) = False := e0 (by omega); have v9 : (fh = nx + 2) = False := e0 (by omega); have v10 : (fh = f6) = False := e0 (by omega); have v11 : (nx = fu) = False := e0 (by omega); have v12 : (nx = fh) = False := e0 (by omega); have v13 : (nx = nx + 1) = False := e0 (by omega); have v14 : (nx = nx + 2) = False := e0 (by omega); have v15 : (nx = f6) = False := e0 (by omega); have v16 : (nx + 1 = fu) = False := e0 (by omega); have v17 : (nx + 1 = fh) = False := e0 (by omega); have v18 : (nx + 1 = nx) = False := e0 (by omega); have v19 : (nx + 1 = nx + 2) = False := e0 (by omega); have v20 : (nx + 1 = f6) = False := e0 (by omega); have v21 : (nx + 2 = fu) = False := e0 (by omega); have v22 : (nx + 2 = fh) = False := e0 (by omega); have v23 : (nx + 2 = nx) = False := e0 (by omega); have v24 : (nx + 2 = nx + 1) = False := e0 (by omega); have v25 : (nx + 2 = f6) = False := e0 (by omega); have v26 : (f6 = fu) = False := e0 (by omega); have v27 : (f6 = fh) = False := e0 (by omega); have v28 : (f6 = nx) = False := e0 (by omega); have v29 : (f6 = nx + 1) = False := e0 (by omega); have v30 : (f6 = nx + 2) = False := e0 (by omega)
      have tA : o3 f6 0 = o1 f6 0 := hold3 _ _ (by omega) (by omega)
      have tC : o3 nx 0 = o1 nx 0 := hold3 _ _ (by omega) (by omega)
      have tS : o3 (nx + 1) 0 = o1 (nx + 1) 0 := hold3 _ _ (by omega) (by omega)
      have tR : o3 (nx + 2) 0 = o1 (nx + 2) 0 := hold3 _ _ (by omega) (by omega)
      have tH : o3 fh 0 = o1 fh 0 := hold3 _ _ (by omega) (by omega)
      have tU : o3 fu 0 = o1 fu 0 := hold3 _ _ (by omega) (by omega)
      rw [kA] at tA
      rw [kc] at tC
      rw [ks] at tS
      rw [ka] at tR
      rw [hol.h] at tH
      rw [hol.u] at tU
      simp only [go_sem, ↓reduceIte, reduceCtorEq, Nat.reduceEqDiff, Nat.reduceLT, Nat.reduceLeDiff, Nat.reduceAdd, Nat.reduceSub, Nat.reduceMul, Nat.reduceGT, Int.reduceNeg, Int.reduceToNat, k3, k4, k5, k6, k7, tA, tC, tS, tR, tH, tU, thenA]
      refine ite_cases (fun h3 => ?_) (fun h3 => ?_)
      · refine running_spec _ _ _ _ c s.day fh s.holders.length fu s.used.length fm s.marks.length _ _ _ ?_
        simp only [go_sem, ↓reduceIte, reduceCtorEq, Nat.reduceEqDiff, Nat.reduceLT, Nat.reduceLeDiff, Nat.reduceAdd, Nat.reduceSub, Nat.reduceMul, Nat.reduceGT, Int.reduceNeg, Int.reduceToNat, k3, k4, k5, k6, k7]
        refine run_loop (n1 := n3) c s.day fh s.holders.length fu s.used.length fm s.marks.length tm (Es.novMark c (Es.at_ c.acts act)) (met (Es.actMark c act (Es.doer c s act)) s.marks s.marks.length) (by decide) (by simp only [go_sem, ↓reduceIte, reduceCtorEq, Nat.reduceEqDiff, Nat.reduceLT, Nat.reduceLeDiff, Nat.reduceAdd, Nat.reduceSub, Nat.reduceMul, Nat.reduceGT, Int.reduceNeg, Int.reduceToNat]) (by rw [set_ne (by omega), set_eq]) (by rw [set_eq]) (by omega) hm (by omega) hl1 (by rw [set_ne (by omega), set_ne (by omega)]; exact hm3) ?_ ?_
        · intro X2 l i o2 nx2 rd bz R hi hn2 hm2 hr2 ho2 hrun hR
          refine wpA_sound _ _ _ _ ?_
          have q1 : o2 f6 0 = o1 f6 0 := by rw [ho2 _ 0 (by omega) (by omega), set_ne (by omega), set_ne (by omega)]; exact hold3 _ _ (by omega) (by omega)
          rw [kA] at q1
          have u1 : (nx2 = n3 + 2) = False := e0 (by omega); have u2 : (nx2 = fm) = False := e0 (by omega); have u3 : (nx2 = f6) = False := e0 (by omega); have u4 : (n3 + 2 = nx2) = False := e0 (by omega); have u5 : (n3 + 2 = fm) = False := e0 (by omega); have u6 : (n3 + 2 = f6) = False := e0 (by omega); have u7 : (fm = nx2) = False := e0 (by omega); have u8 : (fm = n3 + 2) = False := e0 (by omega); have u9 : (fm = f6) = False := e0 (by omega); have u10 : (f6 = nx2) = False := e0 (by omega); have u11 : (f6 = n3 + 2) = False := e0 (by omega); have u12 : (f6 = fm) = False := e0 (by omega)
          have hlen : (met (Es.novMark c (Es.at_ c.acts act)) (met (Es.actMark c act (Es.doer c s act)) s.marks s.marks.length) i).length = s.marks.length := (met_length _ _ _).trans hl1
          have him : i < (met (Es.novMark c (Es.at_ c.acts act)) (met (Es.actMark c act (Es.doer c s act)) s.marks s.marks.length) i).length := by rw [hlen]; exact hi
          generalize met (Es.novMark c (Es.at_ c.acts act)) (met (Es.actMark c act (Es.doer c s act)) s.marks s.marks.length) i = ms at *
          have hfin : ∀ (e' : Env) (o3 : St) (n4 : Nat) (m' : Es.Mark), m' = Es.novMark c (Es.at_ c.acts act) i (Es.at_ ms (i : Int)) → nx2 ≤ n4 → o3 (n3 + 2) 0 = some bz → o3 fm 0 = some (.blk 5 s.marks.length tm (rowsOf mrkC (ms.set i m'))) →
              (∀ f j, f < nx2 → ¬ (f = fm ∧ j = 0) → ¬ (f = n3 + 2 ∧ j = 0) → o3 f j = o2 f j) → R .normal e' ⟨o3, n4⟩ := fun e' o3 n3 m' hm' h1 h2 h3 h4 => hR e' o3 n3 h1 h2 (by rw [← hm']; exact h3) h4
          have hfinA : ∀ (e' : Env) (B : Option SObj) (m' : Es.Mark), m' = Es.novMark c (Es.at_ c.acts act) i (Es.at_ ms (i : Int)) → R .normal e' ⟨St.set (St.set (St.set o2 nx2 0 B) (n3 + 2) 0 (some bz)) fm 0 (some (.blk 5 s.marks.length tm (rowsOf mrkC (ms.set i m')))), nx2 + 1⟩ := fun e' B m' hm' =>
            hfin e' _ _ m' hm' (by omega) (by rw [set_ne (by omega), set_eq]) (by rw [set_eq]) (fun f j h1 h2 h3 => by
              simp only [St.set]; rw [if_neg (by omega), if_neg (by omega), if_neg (by omega)])
          have hfinB : ∀ (e' : Env) (B : Option SObj), Es.at_ ms (i : Int) = Es.novMark c (Es.at_ c.acts act) i (Es.at_ ms (i : Int)) → R .normal e' ⟨St.set (St.set o2 nx2 0 B) (n3 + 2) 0 (some bz), nx2 + 1⟩ := fun e' B hm' =>
            hfin e' _ _ _ hm' (by omega) (by rw [set_eq]) (by rw [set_ne (by omega), set_ne (by omega), set_at him]; exact hm2) (fun f j h1 h2 h3 => by
              simp only [St.set]; rw [if_neg (by omega), if_neg (by omega)])
          simp only [go_sem, ↓reduceIte, reduceCtorEq, Nat.reduceEqDiff, Nat.reduceLT, Nat.reduceLeDiff, Nat.reduceAdd, Nat.reduceSub, Nat.reduceMul, Nat.reduceGT, Int.reduceNeg, Int.reduceToNat, k3, k4, k5, k6, k7, u1, u2, u3, u4, u5, u6, u7, u8, u9, u10, u11, u12, hr2]
          refine wpA_sound _ _ _ _ ?_
          simp only [go_sem, ↓reduceIte, reduceCtorEq, Nat.reduceEqDiff, Nat.reduceLT, Nat.reduceLeDiff, Nat.reduceAdd, Nat.reduceSub, Nat.reduceMul, Nat.reduceGT, Int.reduceNeg, Int.reduceToNat, k3, k4, k5, k6, k7, u1, u2, u3, u4, u5, u6, u7, u8, u9, u10, u11, u12, hm2, q1, him, hi, setC_mrk3, at_set, List.length_set, List.set_set]
          repeat' (first | (with_reducible refine And.intro ?_ ?_) | ((with_reducible refine ite_cases ?_ ?_) <;> intro _))
          all_goals first
            | exact hfinA _ _ _ (by clear hfinA hfinB hfin hR hm2 hr2 ho2 kc ks ka kA kw ko q1 hk hol hs hgot hkd hgive hrole k0 k3 k4 k5 k6 k7 hw hu1 hx hrun hend hold3 tA tC tS tR tH tU hw3 hm3 u1 u2 u3 u4 u5 u6 u7 u8 u9 u10 u11 u12; simp_all [Es.novMark])
            | exact hfinB _ _ (by clear hfinA hfinB hfin hR hm2 hr2 ho2 kc ks ka kA kw ko q1 hk hol hs hgot hkd hgive hrole k0 k3 k4 k5 k6 k7 hw hu1 hx hrun hend hold3 tA tC tS tR tH tU hw3 hm3 u1 u2 u3 u4 u5 u6 u7 u8 u9 u10 u11 u12; simp_all [Es.novMark])
        · intro o5 n5 hw5
          have hn5 := hw5.1
          have hm5 := hw5.2.1
          rw [met_length, hl1] at hm5
          have hold5 : ∀ f i, f < n1 → ¬ (f = fm ∧ i = 0) → o5 f i = o1 f i := fun f i h1 h2 => by rw [hw5.2.2 f i (by omega) h2, set_ne (by omega), set_ne (by omega)]; exact hold3 f i h1 h2
          have hE := hend _ o5 n5 (by rw [if_pos h3, ← hm]) (by omega) hm5 hold5
          have tA := (hold5 f6 0 (by omega) (by omega)).trans ((hold3 f6 0 (by omega) (by omega)).symm.trans tA)
          have tS := (hold5 (nx + 1) 0 (by omega) (by omega)).trans ((hold3 _ 0 (by omega) (by omega)).symm.trans tS)
          have tR := (hold5 (nx + 2) 0 (by omega) (by omega)).trans ((hold3 _ 0 (by omega) (by omega)).symm.trans tR)
          have tH := (hold5 fh 0 (by omega) (by omega)).trans ((hold3 _ 0 (by omega) (by omega)).symm.trans tH)
          have tU := (hold5 fu 0 (by omega) (by omega)).trans ((hold3 _ 0 (by omega) (by omega)).symm.trans tU)
          simp only [go_sem, ↓reduceIte, reduceCtorEq, Nat.reduceEqDiff, Nat.reduceLT, Nat.reduceLeDiff, Nat.reduceAdd, Nat.reduceSub, Nat.reduceMul, Nat.reduceGT, Int.reduceNeg, Int.reduceToNat, k3, k4, k5, k6, k7, tA, tS, tR, tH, tU, thenA]
          refine ite_cases (fun hk1 => ?_) (fun hk1 => ?_)
          · have hne : (Es.at_ c.acts act).kind ≠ 1 := by simpa using hk1
            have hgv := hgive hne
            have hgv' : (Es.at_ c.acts act).give.toNat < s.holders.length := by have := hgv; simp only [Es.len] at this; omega
            have hav' : act.toNat < s.used.length := by omega
            refine awp_plan ((.op 0 (.op 1 (.op 2 (.op 3 (.op 4 (.op 7 (.op 8 (.op 9 (.alt 5 (.alt 6 (.op 10 (.op 11 (.op 12 .done))) (.alt 10 (.op 6 (.op 11 (.op 12 .done))) .dead)) (.alt 6 (.alt 5 (.op 10 (.op 11 (.op 12 .done))) (.alt 10 (.op 5 (.op 11 (.op 12 .done))) .dead)) (.alt 10 (.op 5 (.op 6 (.op 11 (.op 12 .done)))) .dead)))))))))))) [10, 12] mix (by kernel_rfl) ?_
            simp only [go_sem, ↓reduceIte, reduceCtorEq, Nat.reduceEqDiff, Nat.reduceLT, Nat.reduceLeDiff, Nat.reduceAdd, Nat.reduceSub, Nat.reduceMul, Nat.reduceGT, Int.reduceNeg, Int.reduceToNat, k3, k4, k5, k6, k7, tA, tS, tR, tH, tU, v1, v2, v3, v4, v5, v6, v7, v8, v9, v10, v11, v12, v13, v14, v15, v16, v17, v18, v19, v20, v21, v22, v23, v24, v25, v26, v27, v28, v29, v30, Nat.zero_add, setC_int hgv', setC_boo hav']
            repeat' (first | (with_reducible refine And.intro ?_ ?_) | ((with_reducible refine ite_cases ?_ ?_) <;> intro _))
            all_goals first
              | (refine hE.2 hne _ ?_ ?_ ?_
                 · (repeat (first | rw [set_eq] | rw [set_ne (by omega)]))
                 · (repeat (first | rw [set_eq] | rw [set_ne (by omega)]))
                 · intro f i h1 h2
                   simp only [St.set]
                   repeat rw [if_neg (by omega)])
              | (have := hgv.2; simp only [Es.len] at this; omega)
              | omega
          · exact hE.1 (by simpa using hk1)
      · have hE := hend _ o3 n3 (by rw [if_neg h3, ← hm]) (by omega) hm3 hold3
        refine ite_cases (fun hk1 => ?_) (fun hk1 => ?_)
        · have hne : (Es.at_ c.acts act).kind ≠ 1 := by simpa using hk1
          have hgv := hgive hne
          have hgv' : (Es.at_ c.acts act).give.toNat < s.holders.length := by have := hgv; simp only [Es.len] at this; omega
          have hav' : act.toNat < s.used.length := by omega
          refine awp_plan ((.op 0 (.op 1 (.op 2 (.op 3 (.op 4 (.op 7 (.op 8 (.op 9 (.alt 5 (.alt 6 (.op 10 (.op 11 (.op 12 .done))) (.alt 10 (.op 6 (.op 11 (.op 12 .done))) .dead)) (.alt 6 (.alt 5 (.op 10 (.op 11 (.op 12 .done))) (.alt 10 (.op 5 (.op 11 (.op 12 .done))) .dead)) (.alt 10 (.op 5 (.op 6 (.op 11 (.op 12 .done)))) .dead)))))))))))) [10, 12] mix (by kernel_rfl) ?_
          simp only [go_sem, ↓reduceIte, reduceCtorEq, Nat.reduceEqDiff, Nat.reduceLT, Nat.reduceLeDiff, Nat.reduceAdd, Nat.reduceSub, Nat.reduceMul, Nat.reduceGT, Int.reduceNeg, Int.reduceToNat, k3, k4, k5, k6, k7, tA, tS, tR, tH, tU, v1, v2, v3, v4, v5, v6, v7, v8, v9, v10, v11, v12, v13, v14, v15, v16, v17, v18, v19, v20, v21, v22, v23, v24, v25, v26, v27, v28, v29, v30, Nat.zero_add, setC_int hgv', setC_boo hav']
          repeat' (first | (with_reducible refine And.intro ?_ ?_) | ((with_reducible refine ite_cases ?_ ?_) <;> intro _))
          all_goals first
            | (refine hE.2 hne _ ?_ ?_ ?_
               · (repeat (first | rw [set_eq] | rw [set_ne (by omega)]))
               · (repeat (first | rw [set_eq] | rw [set_ne (by omega)]))
               · intro f i h1 h2
                 simp only [St.set]
                 repeat rw [if_neg (by omega)])
            | (have := hgv.2; simp only [Es.len] at this; omega)
            | omega
        · exact hE.1 (by simpa using hk1)
end Tryd
end Go.Proofs
end
section
namespace Go.Proofs
open Go Go.Abs
set_option linter.unusedSimpArgs false
set_option linter.unusedVariables false
set_option maxRecDepth 10000
namespace Tryd
def resF (x : Es.Contract × List Int × Int) : D := .tup [conD x.1, slD 1 intC x.2.1, .v (.int .i64 x.2.2)]
@[go_sem] theorem resF_eq (x : Es.Contract × List Int × Int) : resF x = .tup [conD x.1, slD 1 intC x.2.1, .v (.int .i64 x.2.2)] := nr rfl
/-- What the loop of InForce owns. -/
structure InJ (c : Es.Contract) (day : Int) (v : List (Es.Amend × Es.Contract)) (st : S) : Prop where
  nxt : 9 ≤ st.nx
  now : st.o 3 0 = some (.blk 7 1 27 (rowOf (conCells (Es.lastC c v))))
  num : ∃ d cell, st.o 4 0 = some (.blk 1 1 22 cell) ∧ cell 0 0 = d ∧ OutL intC 1 3 9 st d (v.map (·.1.number))
  bnd : st.o 1 0 = some (.blk 1 1 3 (rowOf [.v (.int .i64 day)]))
  res : ∃ cell, st.o 2 0 = some (.blk 7 1 27 cell)
  all : ∀ z ∈ v, z.1.day ≤ day
theorem InJ.same {c : Es.Contract} {day : Int} {v : List (Es.Amend × Es.Contract)} {o o' : St} {nx nx' : Nat} (h : InJ c day v ⟨o, nx⟩) (hn : nx ≤ nx') (hs : ∀ f j, f < nx → f ≠ 5 → f ≠ 8 → o' f j = o f j) : InJ c day v ⟨o', nx'⟩ := by
  have hx := h.nxt
  simp only at hx
  refine ⟨by simp only; omega, (hs _ 0 (by omega) (by omega) (by omega)).trans h.now, ?_, (hs _ 0 (by omega) (by omega) (by omega)).trans h.bnd, ?_, h.all⟩
  · obtain ⟨d, cell, h1, h2, h3⟩ := h.num
    exact ⟨d, cell, (hs _ 0 (by omega) (by omega) (by omega)).trans h1, h2, h3.keep hn fun g h1 h2 => hs g 0 h2 (by omega) (by omega)⟩
  · obtain ⟨cell, h1⟩ := h.res
    exact ⟨cell, (hs _ 0 (by omega) (by omega) (by omega)).trans h1⟩
theorem InJ.next {c : Es.Contract} {day : Int} {v : List (Es.Amend × Es.Contract)} {z : Es.Amend × Es.Contract} {o o3 : St} {n1 n3 : Nat} (h : InJ c day v ⟨o, n1⟩) (hz : z.1.day ≤ day) (hn : n1 ≤ n3) (h3 : o3 3 0 = some (.blk 7 1 27 (rowOf (conCells z.2))))
    (h4 : ∃ d cell, o3 4 0 = some (.blk 1 1 22 cell) ∧ cell 0 0 = d ∧ OutL intC 1 3 9 ⟨o3, n3⟩ d (v.map (·.1.number) ++ [z.1.number])) (h1 : o3 1 0 = o 1 0) (h2 : o3 2 0 = o 2 0) : InJ c day (v ++ [z]) ⟨o3, n3⟩ := by
  have hx := h.nxt
  simp only at hx
  refine ⟨by simp only; omega, by rw [lastC_snoc]; exact h3, by rw [List.map_append]; exact h4, h1.trans h.bnd, ?_, fun w hw => ?_⟩
  · obtain ⟨cell, g⟩ := h.res; exact ⟨cell, h2.trans g⟩
  · rcases List.mem_append.1 hw with hw | hw
    · exact h.all w hw
    · simp only [List.mem_singleton] at hw; subst hw; exact hz
theorem inForce_spec (c : Es.Contract) (l : List Es.Amend) (day known : Int) (hf : Es.Fits c) (hl : l.length ≤ 12) : APure M 31 [conD c, slD 22 amdC l, .v (.int .i64 day), .v (.int .i64 known)] (resF (Es.inForce c l day known)) := by
  refine pure_of gpu func31 rfl results31 ntmps31 (by simp) ⟨pu_conD _, pu_slD pu_amdC _, .v _, .v _, trivial⟩ ?_
  intro b
  simp only [go_sem, ↓reduceIte, reduceCtorEq, Nat.reduceEqDiff, Nat.reduceLT, Nat.reduceLeDiff, Nat.reduceAdd, Nat.reduceSub, Nat.reduceMul, Nat.reduceGT, Int.reduceNeg, Int.reduceToNat]
  repeat' (first | ((with_reducible refine call_at M_P M_G (check_spec c l hf) ?_); simp only [go_sem, ↓reduceIte, reduceCtorEq, Nat.reduceEqDiff, Nat.reduceLT, Nat.reduceLeDiff, Nat.reduceAdd, Nat.reduceSub, Nat.reduceMul, Nat.reduceGT, Int.reduceNeg, Int.reduceToNat]) | (with_reducible refine And.intro ?_ ?_) | ((with_reducible refine ite_cases ?_ ?_) <;> intro _))
  · rw [Es.inForce_bad (by simp_all)]
    exact Fz_tup ⟨fz_zeroC _, .nil _ _, .v _, trivial⟩
  have hck : Es.checkA c l = 0 := by simp_all
  have hres : Es.inForce c l day known = (Es.lastC c (Es.uptoDay day (Es.versionsA known (Es.sortedA l) c)), (Es.uptoDay day (Es.versionsA known (Es.sortedA l) c)).map (·.1.number), 0) := by
    unfold Es.inForce; rw [if_neg (by simp [hck])]
  rw [hres]
  generalize hit : Es.versionsA known (Es.sortedA l) c = items
  refine versions_spec _ _ _ _ c l known _ _ _ ?_
  simp only [go_sem, ↓reduceIte, reduceCtorEq, Nat.reduceEqDiff, Nat.reduceLT, Nat.reduceLeDiff, Nat.reduceAdd, Nat.reduceSub, Nat.reduceMul, Nat.reduceGT, Int.reduceNeg, Int.reduceToNat]
  refine awp_rangeFunc rfl (by simp) (gf := 85) (caps := [.mp 6 0 1 0 0, .mp 7 0 1 0 0, .mp 5 0 7 0 0]) (by simp only [go_sem, ↓reduceIte, reduceCtorEq, Nat.reduceEqDiff, Nat.reduceLT, Nat.reduceLeDiff, Nat.reduceAdd, Nat.reduceSub, Nat.reduceMul, Nat.reduceGT, Int.reduceNeg, Int.reduceToNat]) (by simp only [go_sem, ↓reduceIte, reduceCtorEq, Nat.reduceEqDiff, Nat.reduceLT, Nat.reduceLeDiff, Nat.reduceAdd, Nat.reduceSub, Nat.reduceMul, Nat.reduceGT, Int.reduceNeg, Int.reduceToNat]) ?_
  intro X2 y rd bz dn hround
  refine versions1_spec X2 _ _ _ y c l known hf hl 5 6 7 _ _ _ _ _ (by simp only [go_sem, ↓reduceIte, reduceCtorEq, Nat.reduceEqDiff, Nat.reduceLT, Nat.reduceLeDiff, Nat.reduceAdd, Nat.reduceSub, Nat.reduceMul, Nat.reduceGT, Int.reduceNeg, Int.reduceToNat]; omega) (by simp only [go_sem, ↓reduceIte, reduceCtorEq, Nat.reduceEqDiff, Nat.reduceLT, Nat.reduceLeDiff, Nat.reduceAdd, Nat.reduceSub, Nat.reduceMul, Nat.reduceGT, Int.reduceNeg, Int.reduceToNat]; rfl) (by simp only [go_sem, ↓reduceIte, reduceCtorEq, Nat.reduceEqDiff, Nat.reduceLT, Nat.reduceLeDiff, Nat.reduceAdd, Nat.reduceSub, Nat.reduceMul, Nat.reduceGT, Int.reduceNeg, Int.reduceToNat]; rfl) (by simp only [go_sem, ↓reduceIte, reduceCtorEq, Nat.reduceEqDiff, Nat.reduceLT, Nat.reduceLeDiff, Nat.reduceAdd, Nat.reduceSub, Nat.reduceMul, Nat.reduceGT, Int.reduceNeg, Int.reduceToNat]; rfl)
    (fun i st => InJ c day (items.take i) st ∧ st.o 8 0 = some rd) (fun st => InJ c day (Es.uptoDay day items) st ∧ st.o 8 0 = some (dn (.exit 0))) ?_ ?_ ?_ _ ?_ ?_
  · rintro i o nx o' nx' ⟨h1, h2⟩ hn hs
    exact ⟨h1.same hn fun f j h1 h2 _ => hs f j h1 h2, (hs 8 0 (by have := h1.nxt; simp only at this; omega) (by omega)).trans h2⟩
  · rw [hit]
    intro N' b' i z o1 n1 hz hn ⟨hJ, hrec⟩
    refine around_ctx (hround _ _ _ (by simp) hrec ?_)
    refine wpA_sound _ _ _ _ ?_
    have hx := hJ.nxt
    have F1 := hJ.bnd
    have F3 := hJ.now
    obtain ⟨d, cell, F4, hcell, hO⟩ := hJ.num
    simp only at hx F1 F3 F4 hrec
    simp only [conCells_eq] at F3
    have e0 : ∀ {a b : Nat}, a ≠ b → (a = b) = False := fun h => by simp [h]
    have z1 : (1 = 2) = False := e0 (by omega); have z2 : (1 = 3) = False := e0 (by omega); have z3 : (1 = 4) = False := e0 (by omega); have z4 : (1 = 5) = False := e0 (by omega); have z5 : (1 = 7) = False := e0 (by omega); have z6 : (1 = 8) = False := e0 (by omega); have z7 : (1 = n1) = False := e0 (by omega); have z8 : (1 = n1 + 1) = False := e0 (by omega); have z9 : (1 = n1 + 1 + 1) = False := e0 (by omega); have z10 : (1 = n1 + 1 + 1 + 1) = False := e0 (by omega); have z11 : (2 = 1) = False := e0 (by omega); have z12 : (2 = 3) = False := e0 (by omega); have z13 : (2 = 4) = False := e0 (by omega); have z14 : (2 = 5) = False := e0 (by omega); have z15 : (2 = 7) = False := e0 (by omega); have z16 : (2 = 8) = False := e0 (by omega); have z17 : (2 = n1) = False := e0 (by omega); have z18 : (2 = n1 + 1) = False := e0 (by omega); have z19 : (2 = n1 + 1 + 1) = False := e0 (by omega); have z20 : (2 = n1 + 1 + 1 + 1) = False := e0 (by omega); have z21 : (3 = 1) = False := e0 (by omega); have z22 : (3 = 2) = False := e0 (by omega); have z23 : (3 = 4) = False := e0 (by omega); have z24 : (3 = 5) = False := e0 (by omega); have z25 : (3 = 7) = False := e0 (by omega); have z26 : (3 = 8) = False := e0 (by omega); have z27 : (3 = n1) = False := e0 (by omega); have z28 : (3 = n1 + 1) = False := e0 (by omega); have z29 : (3 = n1 + 1 + 1) = False := e0 (by omega); have z30 : (3 = n1 + 1 + 1 + 1) = False := e0 (by omega); have z31 : (4 = 1) = False := e0 (by omega); have z32 : (4 = 2) = False := e0 (by omega); have z33 : (4 = 3) = False := e0 (by omega); have z34 : (4 = 5) = False := e0 (by omega); have z35 : (4 = 7) = False := e0 (by omega); have z36 : (4 = 8) = False := e0 (by omega); have z37 : (4 = n1) = False := e0 (by omega); have z38 : (4 = n1 + 1) = False := e0 (by omega); have z39 : (4 = n1 + 1 + 1) = False := e0 (by omega); have z40 : (4 = n1 + 1 + 1 + 1) = False := e0 (by omega); have z41 : (5 = 1) = False := e0 (by omega); have z42 : (5 = 2) = False := e0 (by omega); have z43 : (5 = 3) = False := e0 (by omega); have z44 : (5 = 4) = False := e0 (by omega); have z45 : (5 = 7) = False := e0 (by omega); have z46 : (5 = 8) = False := e0 (by omega); have z47 : (5 = n1) = False := e0 (by omega); have z48 : (5 = n1 + 1) = False := e0 (by omega); have z49 : (5 = n1 + 1 + 1) = False := e0 (by omega); have z50 : (5 = n1 + 1 + 1 + 1) = False := e0 (by omega); have z51 : (7 = 1) = False := e0 (by omega); have z52 : (7 = 2) = False := e0 (by omega); have z53 : (7 = 3) = False := e0 (by omega); have z54 : (7 = 4) = False := e0 (by omega); have z55 : (7 = 5) = False := e0 (by omega); have z56 : (7 = 8) = False := e0 (by omega); have z57 : (7 = n1) = False := e0 (by omega); have z58 : (7 = n1 + 1) = False := e0 (by omega); have z59 : (7 = n1 + 1 + 1) = False := e0 (by omega); have z60 : (7 = n1 + 1 + 1 + 1) = False := e0 (by omega); have z61 : (8 = 1) = False := e0 (by omega); have z62 : (8 = 2) = False := e0 (by omega); have z63 : (8 = 3) = False := e0 (by omega); have z64 : (8 = 4) = False := e0 (by omega); have z65 : (8 = 5) = False := e0 (by omega); have z66 : (8 = 7) = False := e0 (by omega); have z67 : (8 = n1) = False := e0 (by omega); have z68 : (8 = n1 + 1) = False := e0 (by omega); have z69 : (8 = n1 + 1 + 1) = False := e0 (by omega); have z70 : (8 = n1 + 1 + 1 + 1) = False := e0 (by omega); have z71 : (n1 = 1) = False := e0 (by omega); have z72 : (n1 = 2) = False := e0 (by omega); have z73 : (n1 = 3) = False := e0 (by omega); have z74 : (n1 = 4) = False := e0 (by omega); have z75 : (n1 = 5) = False := e0 (by omega); have z76 : (n1 = 7) = False := e0 (by omega); have z77 : (n1 = 8) = False := e0 (by omega); have z78 : (n1 = n1 + 1) = False := e0 (by omega); have z79 : (n1 = n1 + 1 + 1) = False := e0 (by omega); have z80 : (n1 = n1 + 1 + 1 + 1) = False := e0 (by omega); have z81 : (n1 + 1 = 1) = False := e0 (by omega); have z82 : (n1 + 1 = 2) = False := e0 (by omega); have z83 : (n1 + 1 = 3) = False := e0 (by omega); have z84 : (n1 + 1 = 4) = False := e0 (by omega); have z85 : (n1 + 1 = 5) = False := e0 (by omega); have z86 : (n1 + 1 = 7) = False := e0 (by omega); have z87 : (n1 + 1 = 8) = False := e0 (by omega); have z88 : (n1 + 1 = n1) = False := e0 (by omega); have z89 : (n1 + 1 = n1 + 1 + 1) = False := e0 (by omega); have z90 : (n1 + 1 = n1 + 1 + 1 + 1) = False := e0 (by omega); have z91 : (n1 + 1 + 1 = 1) = False := e0 (by omega); have z92 : (n1 + 1 + 1 = 2) = False := e0 (by omega); have z93 : (n1 + 1 + 1 = 3) = False := e0 (by omega); have z94 : (n1 + 1 + 1 = 4) = False := e0 (by omega); have z95 : (n1 + 1 + 1 = 5) = False := e0 (by omega); have z96 : (n1 + 1 + 1 = 7) = False := e0 (by omega); have z97 : (n1 + 1 + 1 = 8) = False := e0 (by omega); have z98 : (n1 + 1 + 1 = n1) = False := e0 (by omega); have z99 : (n1 + 1 + 1 = n1 + 1) = False := e0 (by omega); have z100 : (n1 + 1 + 1 = n1 + 1 + 1 + 1) = False := e0 (by omega); have z101 : (n1 + 1 + 1 + 1 = 1) = False := e0 (by omega); have z102 : (n1 + 1 + 1 + 1 = 2) = False := e0 (by omega); have z103 : (n1 + 1 + 1 + 1 = 3) = False := e0 (by omega); have z104 : (n1 + 1 + 1 + 1 = 4) = False := e0 (by omega); have z105 : (n1 + 1 + 1 + 1 = 5) = False := e0 (by omega); have z106 : (n1 + 1 + 1 + 1 = 7) = False := e0 (by omega); have z107 : (n1 + 1 + 1 + 1 = 8) = False := e0 (by omega); have z108 : (n1 + 1 + 1 + 1 = n1) = False := e0 (by omega); have z109 : (n1 + 1 + 1 + 1 = n1 + 1) = False := e0 (by omega); have z110 : (n1 + 1 + 1 + 1 = n1 + 1 + 1) = False := e0 (by omega)
    simp only [go_sem, ↓reduceIte, reduceCtorEq, Nat.reduceEqDiff, Nat.reduceLT, Nat.reduceLeDiff, Nat.reduceAdd, Nat.reduceSub, Nat.reduceMul, Nat.reduceGT, Int.reduceNeg, Int.reduceToNat, envAt, F1, F3, F4, hrec, hcell, z1, z2, z3, z4, z5, z6, z7, z8, z9, z10, z11, z12, z13, z14, z15, z16, z17, z18, z19, z20, z21, z22, z23, z24, z25, z26, z27, z28, z29, z30, z31, z32, z33, z34, z35, z36, z37, z38, z39, z40, z41, z42, z43, z44, z45, z46, z47, z48, z49, z50, z51, z52, z53, z54, z55, z56, z57, z58, z59, z60, z61, z62, z63, z64, z65, z66, z67, z68, z69, z70, z71, z72, z73, z74, z75, z76, z77, z78, z79, z80, z81, z82, z83, z84, z85, z86, z87, z88, z89, z90, z91, z92, z93, z94, z95, z96, z97, z98, z99, z100, z101, z102, z103, z104, z105, z106, z107, z108, z109, z110]
    refine wpA_sound _ _ _ _ ?_
    simp only [go_sem, ↓reduceIte, reduceCtorEq, Nat.reduceEqDiff, Nat.reduceLT, Nat.reduceLeDiff, Nat.reduceAdd, Nat.reduceSub, Nat.reduceMul, Nat.reduceGT, Int.reduceNeg, Int.reduceToNat, F1, F3, F4, hrec, hcell, z1, z2, z3, z4, z5, z6, z7, z8, z9, z10, z11, z12, z13, z14, z15, z16, z17, z18, z19, z20, z21, z22, z23, z24, z25, z26, z27, z28, z29, z30, z31, z32, z33, z34, z35, z36, z37, z38, z39, z40, z41, z42, z43, z44, z45, z46, z47, z48, z49, z50, z51, z52, z53, z54, z55, z56, z57, z58, z59, z60, z61, z62, z63, z64, z65, z66, z67, z68, z69, z70, z71, z72, z73, z74, z75, z76, z77, z78, z79, z80, z81, z82, z83, z84, z85, z86, z87, z88, z89, z90, z91, z92, z93, z94, z95, z96, z97, z98, z99, z100, z101, z102, z103, z104, z105, z106, z107, z108, z109, z110]
    refine ite_cases (fun hgt => ?_) (fun hgt => ?_)
    · refine ⟨by simp [St.set], ?_⟩
      have hup := Es.upto_take hz hJ.all hgt
      rw [hup]
      refine ⟨by simp only [S.put]; omega, by simp only [S.put, go_sem, ↓reduceIte, reduceCtorEq, Nat.reduceEqDiff, Nat.reduceLT, Nat.reduceLeDiff, Nat.reduceAdd, Nat.reduceSub, Nat.reduceMul, Nat.reduceGT, Int.reduceNeg, Int.reduceToNat, z1, z2, z3, z4, z5, z6, z7, z8, z9, z10, z11, z12, z13, z14, z15, z16, z17, z18, z19, z20, z21, z22, z23, z24, z25, z26, z27, z28, z29, z30, z31, z32, z33, z34, z35, z36, z37, z38, z39, z40, z41, z42, z43, z44, z45, z46, z47, z48, z49, z50, z51, z52, z53, z54, z55, z56, z57, z58, z59, z60, z61, z62, z63, z64, z65, z66, z67, z68, z69, z70, z71, z72, z73, z74, z75, z76, z77, z78, z79, z80, z81, z82, z83, z84, z85, z86, z87, z88, z89, z90, z91, z92, z93, z94, z95, z96, z97, z98, z99, z100, z101, z102, z103, z104, z105, z106, z107, z108, z109, z110], by simp only [S.put, go_sem, ↓reduceIte, reduceCtorEq, Nat.reduceEqDiff, Nat.reduceLT, Nat.reduceLeDiff, Nat.reduceAdd, Nat.reduceSub, Nat.reduceMul, Nat.reduceGT, Int.reduceNeg, Int.reduceToNat, z1, z2, z3, z4, z5, z6, z7, z8, z9, z10, z11, z12, z13, z14, z15, z16, z17, z18, z19, z20, z21, z22, z23, z24, z25, z26, z27, z28, z29, z30, z31, z32, z33, z34, z35, z36, z37, z38, z39, z40, z41, z42, z43, z44, z45, z46, z47, z48, z49, z50, z51, z52, z53, z54, z55, z56, z57, z58, z59, z60, z61, z62, z63, z64, z65, z66, z67, z68, z69, z70, z71, z72, z73, z74, z75, z76, z77, z78, z79, z80, z81, z82, z83, z84, z85, z86, z87, z88, z89, z90, z91, z92, z93, z94, z95, z96, z97, z98, z99, z100, z101, z102, z103, z104, z105, z106, z107, z108, z109, z110], .inr ⟨rfl, hJ.same ?_ fun f j h1 h2 h3 => ?_, by simp [S.put, St.set]⟩⟩
      · show n1 ≤ n1 + 1 + 1; omega
      · simp only [St.set]; (repeat rw [if_neg (by omega)])
    · have hnext : items.take (i + 1) = items.take i ++ [z] := by
        obtain ⟨h1, h2⟩ := List.getElem?_eq_some_iff.1 hz
        rw [List.take_succ_eq_append_getElem h1, h2]
      generalize hdd : d = d' at hO
      rcases hO with ⟨hnil, rfl⟩ | ⟨g, cl, rfl, hg1, hg2, hg3, hg4⟩
      · subst hdd
        simp only [go_sem, ↓reduceIte, reduceCtorEq, Nat.reduceEqDiff, Nat.reduceLT, Nat.reduceLeDiff, Nat.reduceAdd, Nat.reduceSub, Nat.reduceMul, Nat.reduceGT, Int.reduceNeg, Int.reduceToNat, F1, F3, F4, hrec, hcell, z1, z2, z3, z4, z5, z6, z7, z8, z9, z10, z11, z12, z13, z14, z15, z16, z17, z18, z19, z20, z21, z22, z23, z24, z25, z26, z27, z28, z29, z30, z31, z32, z33, z34, z35, z36, z37, z38, z39, z40, z41, z42, z43, z44, z45, z46, z47, z48, z49, z50, z51, z52, z53, z54, z55, z56, z57, z58, z59, z60, z61, z62, z63, z64, z65, z66, z67, z68, z69, z70, z71, z72, z73, z74, z75, z76, z77, z78, z79, z80, z81, z82, z83, z84, z85, z86, z87, z88, z89, z90, z91, z92, z93, z94, z95, z96, z97, z98, z99, z100, z101, z102, z103, z104, z105, z106, z107, z108, z109, z110]
        refine ⟨by omega, .inl ?_⟩
        rw [hnext]
        refine hJ.next (by omega) (by omega) (by simp only [go_sem, ↓reduceIte, reduceCtorEq, Nat.reduceEqDiff, Nat.reduceLT, Nat.reduceLeDiff, Nat.reduceAdd, Nat.reduceSub, Nat.reduceMul, Nat.reduceGT, Int.reduceNeg, Int.reduceToNat, z1, z2, z3, z4, z5, z6, z7, z8, z9, z10, z11, z12, z13, z14, z15, z16, z17, z18, z19, z20, z21, z22, z23, z24, z25, z26, z27, z28, z29, z30, z31, z32, z33, z34, z35, z36, z37, z38, z39, z40, z41, z42, z43, z44, z45, z46, z47, z48, z49, z50, z51, z52, z53, z54, z55, z56, z57, z58, z59, z60, z61, z62, z63, z64, z65, z66, z67, z68, z69, z70, z71, z72, z73, z74, z75, z76, z77, z78, z79, z80, z81, z82, z83, z84, z85, z86, z87, z88, z89, z90, z91, z92, z93, z94, z95, z96, z97, z98, z99, z100, z101, z102, z103, z104, z105, z106, z107, z108, z109, z110]) ⟨_, _, (set_ne (by omega)).trans (St_set_self _ _ _ _), rfl, ?_⟩ (by simp only [go_sem, ↓reduceIte, reduceCtorEq, Nat.reduceEqDiff, Nat.reduceLT, Nat.reduceLeDiff, Nat.reduceAdd, Nat.reduceSub, Nat.reduceMul, Nat.reduceGT, Int.reduceNeg, Int.reduceToNat, F1, z1, z2, z3, z4, z5, z6, z7, z8, z9, z10, z11, z12, z13, z14, z15, z16, z17, z18, z19, z20, z21, z22, z23, z24, z25, z26, z27, z28, z29, z30, z31, z32, z33, z34, z35, z36, z37, z38, z39, z40, z41, z42, z43, z44, z45, z46, z47, z48, z49, z50, z51, z52, z53, z54, z55, z56, z57, z58, z59, z60, z61, z62, z63, z64, z65, z66, z67, z68, z69, z70, z71, z72, z73, z74, z75, z76, z77, z78, z79, z80, z81, z82, z83, z84, z85, z86, z87, z88, z89, z90, z91, z92, z93, z94, z95, z96, z97, z98, z99, z100, z101, z102, z103, z104, z105, z106, z107, z108, z109, z110]) (by simp only [go_sem, ↓reduceIte, reduceCtorEq, Nat.reduceEqDiff, Nat.reduceLT, Nat.reduceLeDiff, Nat.reduceAdd, Nat.reduceSub, Nat.reduceMul, Nat.reduceGT, Int.reduceNeg, Int.reduceToNat, z1, z2, z3, z4, z5, z6, z7, z8, z9, z10, z11, z12, z13, z14, z15, z16, z17, z18, z19, z20, z21, z22, z23, z24, z25, z26, z27, z28, z29, z30, z31, z32, z33, z34, z35, z36, z37, z38, z39, z40, z41, z42, z43, z44, z45, z46, z47, z48, z49, z50, z51, z52, z53, z54, z55, z56, z57, z58, z59, z60, z61, z62, z63, z64, z65, z66, z67, z68, z69, z70, z71, z72, z73, z74, z75, z76, z77, z78, z79, z80, z81, z82, z83, z84, z85, z86, z87, z88, z89, z90, z91, z92, z93, z94, z95, z96, z97, z98, z99, z100, z101, z102, z103, z104, z105, z106, z107, z108, z109, z110])
        rw [hnil]
        exact OutL.one (by omega) (by simp only; omega) ((set_ne (by omega)).trans ((set_ne (by omega)).trans (St_set_self _ _ _ _))) fun j hj => by
          obtain rfl : j = 0 := by omega
          rfl
      · subst hdd
        simp only at hg2 hg3
        have w1 : (g = 1) = False := e0 (by omega); have w2 : (g = 2) = False := e0 (by omega); have w3 : (g = 3) = False := e0 (by omega); have w4 : (g = 4) = False := e0 (by omega); have w5 : (g = 5) = False := e0 (by omega); have w6 : (g = 7) = False := e0 (by omega); have w7 : (g = 8) = False := e0 (by omega); have w8 : (g = n1) = False := e0 (by omega); have w9 : (g = n1 + 1) = False := e0 (by omega); have w10 : (g = n1 + 1 + 1) = False := e0 (by omega); have w11 : (g = n1 + 1 + 1 + 1) = False := e0 (by omega); have w12 : (1 = g) = False := e0 (by omega); have w13 : (1 = 2) = False := e0 (by omega); have w14 : (1 = 3) = False := e0 (by omega); have w15 : (1 = 4) = False := e0 (by omega); have w16 : (1 = 5) = False := e0 (by omega); have w17 : (1 = 7) = False := e0 (by omega); have w18 : (1 = 8) = False := e0 (by omega); have w19 : (1 = n1) = False := e0 (by omega); have w20 : (1 = n1 + 1) = False := e0 (by omega); have w21 : (1 = n1 + 1 + 1) = False := e0 (by omega); have w22 : (1 = n1 + 1 + 1 + 1) = False := e0 (by omega); have w23 : (2 = g) = False := e0 (by omega); have w24 : (2 = 1) = False := e0 (by omega); have w25 : (2 = 3) = False := e0 (by omega); have w26 : (2 = 4) = False := e0 (by omega); have w27 : (2 = 5) = False := e0 (by omega); have w28 : (2 = 7) = False := e0 (by omega); have w29 : (2 = 8) = False := e0 (by omega); have w30 : (2 = n1) = False := e0 (by omega); have w31 : (2 = n1 + 1) = False := e0 (by omega); have w32 : (2 = n1 + 1 + 1) = False := e0 (by omega); have w33 : (2 = n1 + 1 + 1 + 1) = False := e0 (by omega); have w34 : (3 = g) = False := e0 (by omega); have w35 : (3 = 1) = False := e0 (by omega); have w36 : (3 = 2) = False := e0 (by omega); have w37 : (3 = 4) = False := e0 (by omega); have w38 : (3 = 5) = False := e0 (by omega); have w39 : (3 = 7) = False := e0 (by omega); have w40 : (3 = 8) = False := e0 (by omega); have w41 : (3 = n1) = False := e0 (by omega); have w42 : (3 = n1 + 1) = False := e0 (by omega); have w43 : (3 = n1 + 1 + 1) = False := e0 (by omega); have w44 : (3 = n1 + 1 + 1 + 1) = False := e0 (by omega); have w45 : (4 = g) = False := e0 (by omega); have w46 : (4 = 1) = False := e0 (by omega); have w47 : (4 = 2) = False := e0 (by omega); have w48 : (4 = 3) = False := e0 (by omega); have w49 : (4 = 5) = False := e0 (by omega); have w50 : (4 = 7) = False := e0 (by omega); have w51 : (4 = 8) = False := e0 (by omega); have w52 : (4 = n1) = False := e0 (by omega); have w53 : (4 = n1 + 1) = False := e0 (by omega); have w54 : (4 = n1 + 1 + 1) = False := e0 (by omega); have w55 : (4 = n1 + 1 + 1 + 1) = False := e0 (by omega); have w56 : (5 = g) = False := e0 (by omega); have w57 : (5 = 1) = False := e0 (by omega); have w58 : (5 = 2) = False := e0 (by omega); have w59 : (5 = 3) = False := e0 (by omega); have w60 : (5 = 4) = False := e0 (by omega); have w61 : (5 = 7) = False := e0 (by omega); have w62 : (5 = 8) = False := e0 (by omega); have w63 : (5 = n1) = False := e0 (by omega); have w64 : (5 = n1 + 1) = False := e0 (by omega); have w65 : (5 = n1 + 1 + 1) = False := e0 (by omega); have w66 : (5 = n1 + 1 + 1 + 1) = False := e0 (by omega); have w67 : (7 = g) = False := e0 (by omega); have w68 : (7 = 1) = False := e0 (by omega); have w69 : (7 = 2) = False := e0 (by omega); have w70 : (7 = 3) = False := e0 (by omega); have w71 : (7 = 4) = False := e0 (by omega); have w72 : (7 = 5) = False := e0 (by omega); have w73 : (7 = 8) = False := e0 (by omega); have w74 : (7 = n1) = False := e0 (by omega); have w75 : (7 = n1 + 1) = False := e0 (by omega); have w76 : (7 = n1 + 1 + 1) = False := e0 (by omega); have w77 : (7 = n1 + 1 + 1 + 1) = False := e0 (by omega); have w78 : (8 = g) = False := e0 (by omega); have w79 : (8 = 1) = False := e0 (by omega); have w80 : (8 = 2) = False := e0 (by omega); have w81 : (8 = 3) = False := e0 (by omega); have w82 : (8 = 4) = False := e0 (by omega); have w83 : (8 = 5) = False := e0 (by omega); have w84 : (8 = 7) = False := e0 (by omega); have w85 : (8 = n1) = False := e0 (by omega); have w86 : (8 = n1 + 1) = False := e0 (by omega); have w87 : (8 = n1 + 1 + 1) = False := e0 (by omega); have w88 : (8 = n1 + 1 + 1 + 1) = False := e0 (by omega); have w89 : (n1 = g) = False := e0 (by omega); have w90 : (n1 = 1) = False := e0 (by omega); have w91 : (n1 = 2) = False := e0 (by omega); have w92 : (n1 = 3) = False := e0 (by omega); have w93 : (n1 = 4) = False := e0 (by omega); have w94 : (n1 = 5) = False := e0 (by omega); have w95 : (n1 = 7) = False := e0 (by omega); have w96 : (n1 = 8) = False := e0 (by omega); have w97 : (n1 = n1 + 1) = False := e0 (by omega); have w98 : (n1 = n1 + 1 + 1) = False := e0 (by omega); have w99 : (n1 = n1 + 1 + 1 + 1) = False := e0 (by omega); have w100 : (n1 + 1 = g) = False := e0 (by omega); have w101 : (n1 + 1 = 1) = False := e0 (by omega); have w102 : (n1 + 1 = 2) = False := e0 (by omega); have w103 : (n1 + 1 = 3) = False := e0 (by omega); have w104 : (n1 + 1 = 4) = False := e0 (by omega); have w105 : (n1 + 1 = 5) = False := e0 (by omega); have w106 : (n1 + 1 = 7) = False := e0 (by omega); have w107 : (n1 + 1 = 8) = False := e0 (by omega); have w108 : (n1 + 1 = n1) = False := e0 (by omega); have w109 : (n1 + 1 = n1 + 1 + 1) = False := e0 (by omega); have w110 : (n1 + 1 = n1 + 1 + 1 + 1) = False := e0 (by omega); have w111 : (n1 + 1 + 1 = g) = False := e0 (by omega); have w112 : (n1 + 1 + 1 = 1) = False := e0 (by omega); have w113 : (n1 + 1 + 1 = 2) = False := e0 (by omega); have w114 : (n1 + 1 + 1 = 3) = False := e0 (by omega); have w115 : (n1 + 1 + 1 = 4) = False := e0 (by omega); have w116 : (n1 + 1 + 1 = 5) = False := e0 (by omega); have w117 : (n1 + 1 + 1 = 7) = False := e0 (by omega); have w118 : (n1 + 1 + 1 = 8) = False := e0 (by omega); have w119 : (n1 + 1 + 1 = n1) = False := e0 (by omega); have w120 : (n1 + 1 + 1 = n1 + 1) = False := e0 (by omega); have w121 : (n1 + 1 + 1 = n1 + 1 + 1 + 1) = False := e0 (by omega); have w122 : (n1 + 1 + 1 + 1 = g) = False := e0 (by omega); have w123 : (n1 + 1 + 1 + 1 = 1) = False := e0 (by omega); have w124 : (n1 + 1 + 1 + 1 = 2) = False := e0 (by omega); have w125 : (n1 + 1 + 1 + 1 = 3) = False := e0 (by omega); have w126 : (n1 + 1 + 1 + 1 = 4) = False := e0 (by omega); have w127 : (n1 + 1 + 1 + 1 = 5) = False := e0 (by omega); have w128 : (n1 + 1 + 1 + 1 = 7) = False := e0 (by omega); have w129 : (n1 + 1 + 1 + 1 = 8) = False := e0 (by omega); have w130 : (n1 + 1 + 1 + 1 = n1) = False := e0 (by omega); have w131 : (n1 + 1 + 1 + 1 = n1 + 1) = False := e0 (by omega); have w132 : (n1 + 1 + 1 + 1 = n1 + 1 + 1) = False := e0 (by omega)
        simp only [go_sem, ↓reduceIte, reduceCtorEq, Nat.reduceEqDiff, Nat.reduceLT, Nat.reduceLeDiff, Nat.reduceAdd, Nat.reduceSub, Nat.reduceMul, Nat.reduceGT, Int.reduceNeg, Int.reduceToNat, F1, F3, F4, hrec, hcell, hg3, z1, z2, z3, z4, z5, z6, z7, z8, z9, z10, z11, z12, z13, z14, z15, z16, z17, z18, z19, z20, z21, z22, z23, z24, z25, z26, z27, z28, z29, z30, z31, z32, z33, z34, z35, z36, z37, z38, z39, z40, z41, z42, z43, z44, z45, z46, z47, z48, z49, z50, z51, z52, z53, z54, z55, z56, z57, z58, z59, z60, z61, z62, z63, z64, z65, z66, z67, z68, z69, z70, z71, z72, z73, z74, z75, z76, z77, z78, z79, z80, z81, z82, z83, z84, z85, z86, z87, z88, z89, z90, z91, z92, z93, z94, z95, z96, z97, z98, z99, z100, z101, z102, z103, z104, z105, z106, z107, z108, z109, z110, w1, w2, w3, w4, w5, w6, w7, w8, w9, w10, w11, w12, w13, w14, w15, w16, w17, w18, w19, w20, w21, w22, w23, w24, w25, w26, w27, w28, w29, w30, w31, w32, w33, w34, w35, w36, w37, w38, w39, w40, w41, w42, w43, w44, w45, w46, w47, w48, w49, w50, w51, w52, w53, w54, w55, w56, w57, w58, w59, w60, w61, w62, w63, w64, w65, w66, w67, w68, w69, w70, w71, w72, w73, w74, w75, w76, w77, w78, w79, w80, w81, w82, w83, w84, w85, w86, w87, w88, w89, w90, w91, w92, w93, w94, w95, w96, w97, w98, w99, w100, w101, w102, w103, w104, w105, w106, w107, w108, w109, w110, w111, w112, w113, w114, w115, w116, w117, w118, w119, w120, w121, w122, w123, w124, w125, w126, w127, w128, w129, w130, w131, w132]
        have hli : ((items.take i).map fun x => x.1.number).length ≤ 12 := by
          rw [List.length_map]
          have h1 : (items.take i).length ≤ items.length := by rw [List.length_take]; omega
          have h2 : items.length ≤ 12 := by rw [← hit]; exact Nat.le_trans (Es.versionsA_len _ _ _) (by rw [Es.sortedA, Es.isort_len]; exact hl)
          omega
        refine ⟨⟨by omega, by omega⟩, by omega, .inl ?_⟩
        rw [hnext]
        refine hJ.next (by omega) (by omega) (by simp only [go_sem, ↓reduceIte, reduceCtorEq, Nat.reduceEqDiff, Nat.reduceLT, Nat.reduceLeDiff, Nat.reduceAdd, Nat.reduceSub, Nat.reduceMul, Nat.reduceGT, Int.reduceNeg, Int.reduceToNat, z1, z2, z3, z4, z5, z6, z7, z8, z9, z10, z11, z12, z13, z14, z15, z16, z17, z18, z19, z20, z21, z22, z23, z24, z25, z26, z27, z28, z29, z30, z31, z32, z33, z34, z35, z36, z37, z38, z39, z40, z41, z42, z43, z44, z45, z46, z47, z48, z49, z50, z51, z52, z53, z54, z55, z56, z57, z58, z59, z60, z61, z62, z63, z64, z65, z66, z67, z68, z69, z70, z71, z72, z73, z74, z75, z76, z77, z78, z79, z80, z81, z82, z83, z84, z85, z86, z87, z88, z89, z90, z91, z92, z93, z94, z95, z96, z97, z98, z99, z100, z101, z102, z103, z104, z105, z106, z107, z108, z109, z110, w1, w2, w3, w4, w5, w6, w7, w8, w9, w10, w11, w12, w13, w14, w15, w16, w17, w18, w19, w20, w21, w22, w23, w24, w25, w26, w27, w28, w29, w30, w31, w32, w33, w34, w35, w36, w37, w38, w39, w40, w41, w42, w43, w44, w45, w46, w47, w48, w49, w50, w51, w52, w53, w54, w55, w56, w57, w58, w59, w60, w61, w62, w63, w64, w65, w66, w67, w68, w69, w70, w71, w72, w73, w74, w75, w76, w77, w78, w79, w80, w81, w82, w83, w84, w85, w86, w87, w88, w89, w90, w91, w92, w93, w94, w95, w96, w97, w98, w99, w100, w101, w102, w103, w104, w105, w106, w107, w108, w109, w110, w111, w112, w113, w114, w115, w116, w117, w118, w119, w120, w121, w122, w123, w124, w125, w126, w127, w128, w129, w130, w131, w132]) ⟨_, _, (set_ne (by omega)).trans (St_set_self _ _ _ _), rfl, ?_⟩ (by simp only [go_sem, ↓reduceIte, reduceCtorEq, Nat.reduceEqDiff, Nat.reduceLT, Nat.reduceLeDiff, Nat.reduceAdd, Nat.reduceSub, Nat.reduceMul, Nat.reduceGT, Int.reduceNeg, Int.reduceToNat, F1, z1, z2, z3, z4, z5, z6, z7, z8, z9, z10, z11, z12, z13, z14, z15, z16, z17, z18, z19, z20, z21, z22, z23, z24, z25, z26, z27, z28, z29, z30, z31, z32, z33, z34, z35, z36, z37, z38, z39, z40, z41, z42, z43, z44, z45, z46, z47, z48, z49, z50, z51, z52, z53, z54, z55, z56, z57, z58, z59, z60, z61, z62, z63, z64, z65, z66, z67, z68, z69, z70, z71, z72, z73, z74, z75, z76, z77, z78, z79, z80, z81, z82, z83, z84, z85, z86, z87, z88, z89, z90, z91, z92, z93, z94, z95, z96, z97, z98, z99, z100, z101, z102, z103, z104, z105, z106, z107, z108, z109, z110, w1, w2, w3, w4, w5, w6, w7, w8, w9, w10, w11, w12, w13, w14, w15, w16, w17, w18, w19, w20, w21, w22, w23, w24, w25, w26, w27, w28, w29, w30, w31, w32, w33, w34, w35, w36, w37, w38, w39, w40, w41, w42, w43, w44, w45, w46, w47, w48, w49, w50, w51, w52, w53, w54, w55, w56, w57, w58, w59, w60, w61, w62, w63, w64, w65, w66, w67, w68, w69, w70, w71, w72, w73, w74, w75, w76, w77, w78, w79, w80, w81, w82, w83, w84, w85, w86, w87, w88, w89, w90, w91, w92, w93, w94, w95, w96, w97, w98, w99, w100, w101, w102, w103, w104, w105, w106, w107, w108, w109, w110, w111, w112, w113, w114, w115, w116, w117, w118, w119, w120, w121, w122, w123, w124, w125, w126, w127, w128, w129, w130, w131, w132]) (by simp only [go_sem, ↓reduceIte, reduceCtorEq, Nat.reduceEqDiff, Nat.reduceLT, Nat.reduceLeDiff, Nat.reduceAdd, Nat.reduceSub, Nat.reduceMul, Nat.reduceGT, Int.reduceNeg, Int.reduceToNat, z1, z2, z3, z4, z5, z6, z7, z8, z9, z10, z11, z12, z13, z14, z15, z16, z17, z18, z19, z20, z21, z22, z23, z24, z25, z26, z27, z28, z29, z30, z31, z32, z33, z34, z35, z36, z37, z38, z39, z40, z41, z42, z43, z44, z45, z46, z47, z48, z49, z50, z51, z52, z53, z54, z55, z56, z57, z58, z59, z60, z61, z62, z63, z64, z65, z66, z67, z68, z69, z70, z71, z72, z73, z74, z75, z76, z77, z78, z79, z80, z81, z82, z83, z84, z85, z86, z87, z88, z89, z90, z91, z92, z93, z94, z95, z96, z97, z98, z99, z100, z101, z102, z103, z104, z105, z106, z107, z108, z109, z110, w1, w2, w3, w4, w5, w6, w7, w8, w9, w10, w11, w12, w13, w14, w15, w16, w17, w18, w19, w20, w21, w22, w23, w24, w25, w26, w27, w28, w29, w30, w31, w32, w33, w34, w35, w36, w37, w38, w39, w40, w41, w42, w43, w44, w45, w46, w47, w48, w49, w50, w51, w52, w53, w54, w55, w56, w57, w58, w59, w60, w61, w62, w63, w64, w65, w66, w67, w68, w69, w70, w71, w72, w73, w74, w75, w76, w77, w78, w79, w80, w81, w82, w83, w84, w85, w86, w87, w88, w89, w90, w91, w92, w93, w94, w95, w96, w97, w98, w99, w100, w101, w102, w103, w104, w105, w106, w107, w108, w109, w110, w111, w112, w113, w114, w115, w116, w117, w118, w119, w120, w121, w122, w123, w124, w125, w126, w127, w128, w129, w130, w131, w132])
        exact OutL.more (by omega) (by simp only; omega) ((set_ne (by omega)).trans ((set_ne (by omega)).trans (St_set_self _ _ _ _))) hg4 fun j hj => by
          obtain rfl : j = 0 := by omega
          rfl
  · refine ⟨⟨Nat.le_refl _, rfl, ⟨.v (.slice none 0 0), rowOf [.v (.slice none 0 0)], rfl, rfl, .inl ⟨rfl, rfl⟩⟩, rfl, ⟨_, rfl⟩, fun z hz => by simp at hz⟩, rfl⟩
  · rintro o' nx' ⟨hJ, hrec⟩
    rw [hit, List.take_length] at hJ
    refine .inl ⟨hrec, ?_⟩
    have hx := hJ.nxt
    have F3 := hJ.now
    obtain ⟨d, cell, F4, hcell, hO⟩ := hJ.num
    obtain ⟨cr, F2⟩ := hJ.res
    simp only at hx F3 F4 F2
    simp only [conCells_eq] at F3
    have hup : Es.uptoDay day items = items := Es.upto_all hJ.all
    simp only [go_sem, ↓reduceIte, reduceCtorEq, Nat.reduceEqDiff, Nat.reduceLT, Nat.reduceLeDiff, Nat.reduceAdd, Nat.reduceSub, Nat.reduceMul, Nat.reduceGT, Int.reduceNeg, Int.reduceToNat]
    refine awp_plan ((.op 0 (.alt 1 (.op 2 (.op 3 (.op 4 .done))) (.alt 2 (.op 1 (.op 3 (.op 4 .done))) .dead)))) [2] mix (by kernel_rfl) ?_
    simp only [go_sem, ↓reduceIte, reduceCtorEq, Nat.reduceEqDiff, Nat.reduceLT, Nat.reduceLeDiff, Nat.reduceAdd, Nat.reduceSub, Nat.reduceMul, Nat.reduceGT, Int.reduceNeg, Int.reduceToNat, F3, F4, F2, hcell]
    rw [hup]
    refine ⟨?_, ?_⟩ <;> exact Fz_tup ⟨(pu_conD _).fz, hO.fz (fun g h1 h2 => by simp only [St.set]; rw [if_neg (by omega), if_neg (by omega)]) pu_intC, .v _, trivial⟩
  · rintro o' nx' ⟨hJ, hrec⟩
    refine .inr ⟨_, hrec, ?_⟩
    have hx := hJ.nxt
    have F3 := hJ.now
    obtain ⟨d, cell, F4, hcell, hO⟩ := hJ.num
    obtain ⟨cr, F2⟩ := hJ.res
    simp only at hx F3 F4 F2
    simp only [conCells_eq] at F3
    refine wpA_sound _ _ _ _ ?_
    simp only [go_sem, ↓reduceIte, reduceCtorEq, Nat.reduceEqDiff, Nat.reduceLT, Nat.reduceLeDiff, Nat.reduceAdd, Nat.reduceSub, Nat.reduceMul, Nat.reduceGT, Int.reduceNeg, Int.reduceToNat]
    refine awp_plan ((.op 0 (.alt 1 (.op 2 (.op 3 (.op 4 .done))) (.alt 2 (.op 1 (.op 3 (.op 4 .done))) .dead)))) [2] mix (by kernel_rfl) ?_
    simp only [go_sem, ↓reduceIte, reduceCtorEq, Nat.reduceEqDiff, Nat.reduceLT, Nat.reduceLeDiff, Nat.reduceAdd, Nat.reduceSub, Nat.reduceMul, Nat.reduceGT, Int.reduceNeg, Int.reduceToNat, F3, F4, F2, hcell]
    refine ⟨?_, ?_⟩ <;> exact Fz_tup ⟨(pu_conD _).fz, hO.fz (fun g h1 h2 => by simp only [St.set]; rw [if_neg (by omega), if_neg (by omega)]) pu_intC, .v _, trivial⟩
end Tryd
end Go.Proofs
end
section
namespace Go.Proofs
open Go Go.Abs
set_option linter.unusedSimpArgs false
set_option linter.unusedVariables false
set_option maxRecDepth 10000
namespace Tryd
theorem plain_spec (x : Es.Clause) : APure M 89 [.agg [.v (.int .i64 x.kind), .v (.int .i64 x.role), .v (.int .i64 x.act), .v (.int .i64 x.need), .v (.slice none 0 0), .v (.int .i64 x.after), .v (.int .i64 x.grace), .v (.bool x.business), .v (.bool x.final), .v (.int .i64 x.pause), .v (.int .i64 x.resume), .v (.int .i64 x.value.num), .v (.int .i64 x.value.den), .v (.int .i64 x.unit), .v (.int .i64 x.to), .v (.bool x.waived)]] (plainD x) := by
  refine pure_of gpu func89 rfl results89 ntmps89 (by simp) ⟨Pu_agg ⟨.v _, .v _, .v _, .v _, .v _, .v _, .v _, .v _, .v _, .v _, .v _, .v _, .v _, .v _, .v _, .v _, trivial⟩, trivial⟩ ?_
  intro b
  simp only [go_sem, ↓reduceIte, reduceCtorEq, Nat.reduceEqDiff, Nat.reduceLT, Nat.reduceLeDiff, Nat.reduceAdd, Nat.reduceSub, Nat.reduceMul, Nat.reduceGT, Int.reduceNeg, Int.reduceToNat]
  exact (pu_plainD x).fz
theorem equalC_spec (l m : List Es.Cond) (hl : l.length ≤ 9223372036854775807) : APure M 88 [slD 2 condC l, slD 2 condC m] (.v (.bool (Es.eqL Es.eqCond l m))) := by
  refine pure_of gpu func88 rfl results88 ntmps88 (by simp) ⟨pu_slD pu_condC _, pu_slD pu_condC _, trivial⟩ ?_
  intro b
  simp only [go_sem, ↓reduceIte, reduceCtorEq, Nat.reduceEqDiff, Nat.reduceLT, Nat.reduceLeDiff, Nat.reduceAdd, Nat.reduceSub, Nat.reduceMul, Nat.reduceGT, Int.reduceNeg, Int.reduceToNat]
  refine ite_cases (fun hne => ?_) (fun hne => ?_)
  · rw [Es.eqL_len hne]
  · have hlen : l.length = m.length := by simp [Es.len] at hne; omega
    refine awp_count0 l.length (fun e0 s0 k e s => (e 0 = e0 0 ∧ e 1 = e0 1 ∧ e 12 = e0 12) ∧ e 13 = .v (.int .i64 k) ∧ s = s0 ∧ ∀ j : Nat, j < k → Es.eqCond (Es.at_ l j) (Es.at_ m j) = true) ⟨⟨rfl, rfl, rfl⟩, ?_, rfl, (by omega)⟩ ?_
    · simp only [go_sem, ↓reduceIte, reduceCtorEq, Nat.reduceEqDiff, Nat.reduceLT, Nat.reduceLeDiff, Nat.reduceAdd, Nat.reduceSub, Nat.reduceMul, Nat.reduceGT, Int.reduceNeg, Int.reduceToNat]; rfl
    rintro k e s hk ⟨⟨h0, h1, h12⟩, h13, rfl, hall⟩
    simp only [go_sem, ↓reduceIte, reduceCtorEq, Nat.reduceEqDiff, Nat.reduceLT, Nat.reduceLeDiff, Nat.reduceAdd, Nat.reduceSub, Nat.reduceMul, Nat.reduceGT, Int.reduceNeg, Int.reduceToNat] at h0 h1 h12
    simp only [go_sem, ↓reduceIte, reduceCtorEq, Nat.reduceEqDiff, Nat.reduceLT, Nat.reduceLeDiff, Nat.reduceAdd, Nat.reduceSub, Nat.reduceMul, Nat.reduceGT, Int.reduceNeg, Int.reduceToNat, h0, h1, h12, h13]
    refine ite_cases (fun hlt => ?_) (fun hlt => ?_)
    · have hlt' : k < l.length := Es.len_lt.1 hlt
      refine awp_plan ((.op 0 (.op 1 (.op 2 (.op 3 (.op 4 (.op 5 (.op 6 (.op 7 (.op 8 .done)))))))))) [] mix (by kernel_rfl) ?_
      simp only [go_sem, ↓reduceIte, reduceCtorEq, Nat.reduceEqDiff, Nat.reduceLT, Nat.reduceLeDiff, Nat.reduceAdd, Nat.reduceSub, Nat.reduceMul, Nat.reduceGT, Int.reduceNeg, Int.reduceToNat, h0, h1, h12, h13]
      refine ⟨⟨by omega, hlt⟩, ⟨by omega, by simp only [Es.len] at hlt ⊢; omega⟩, ?_⟩
      refine ite_cases (fun hd => ?_) (fun hd => ?_)
      · rw [Es.eqL_bad hlt' (by simpa only [Es.eqCond, Bool.not_eq_true'] using hd)]
      · refine ⟨hlt', ?_⟩
        simp only [go_sem, ↓reduceIte, reduceCtorEq, Nat.reduceEqDiff, Nat.reduceLT, Nat.reduceLeDiff, Nat.reduceAdd, Nat.reduceSub, Nat.reduceMul, Nat.reduceGT, Int.reduceNeg, Int.reduceToNat, h0, h1, h12, h13]
        refine ⟨by rw [wrap_i64 _ (by omega) (by omega)]; simp, Es.upto_step (p := fun j : Nat => Es.eqCond (Es.at_ l j) (Es.at_ m j)) hall (by simpa [Es.eqCond] using hd)⟩
    · rw [Es.eqL_end hlen (by simp only [Es.len] at hlt; omega) hall]
theorem same1_spec (x y : Es.Clause) (hl : x.start.length ≤ 9223372036854775807) : APure M 87 [clsD x, clsD y] (.v (.bool (Es.eqClause x y))) := by
  refine pure_of gpu func87 rfl results87 ntmps87 (by simp) ⟨pu_clsD x, pu_clsD y, trivial⟩ ?_
  intro b
  simp only [go_sem, ↓reduceIte, reduceCtorEq, Nat.reduceEqDiff, Nat.reduceLT, Nat.reduceLeDiff, Nat.reduceAdd, Nat.reduceSub, Nat.reduceMul, Nat.reduceGT, Int.reduceNeg, Int.reduceToNat]
  refine call_at M_P M_G (equalC_spec x.start y.start hl) ?_
  simp only [go_sem, ↓reduceIte, reduceCtorEq, Nat.reduceEqDiff, Nat.reduceLT, Nat.reduceLeDiff, Nat.reduceAdd, Nat.reduceSub, Nat.reduceMul, Nat.reduceGT, Int.reduceNeg, Int.reduceToNat]
  refine ite_cases (fun hne => ?_) (fun hne => ?_)
  · unfold Es.eqClause; simp_all
  · refine awp_plan ((.op 0 (.op 2 (.op 1 (.op 3 (.op 4 (.op 5 .done))))))) [] mix (by kernel_rfl) ?_
    simp only [go_sem, ↓reduceIte, reduceCtorEq, Nat.reduceEqDiff, Nat.reduceLT, Nat.reduceLeDiff, Nat.reduceAdd, Nat.reduceSub, Nat.reduceMul, Nat.reduceGT, Int.reduceNeg, Int.reduceToNat]
    refine call_at M_P M_G (plain_spec x) ?_
    simp only [go_sem, ↓reduceIte, reduceCtorEq, Nat.reduceEqDiff, Nat.reduceLT, Nat.reduceLeDiff, Nat.reduceAdd, Nat.reduceSub, Nat.reduceMul, Nat.reduceGT, Int.reduceNeg, Int.reduceToNat]
    refine call_at M_P M_G (plain_spec y) ?_
    simp only [go_sem, ↓reduceIte, reduceCtorEq, Nat.reduceEqDiff, Nat.reduceLT, Nat.reduceLeDiff, Nat.reduceAdd, Nat.reduceSub, Nat.reduceMul, Nat.reduceGT, Int.reduceNeg, Int.reduceToNat]
    refine congrArg Value.bool ?_
    have h1 : Es.eqL Es.eqCond x.start y.start = true := by simpa using hne
    unfold Es.eqClause Es.eqPlain
    rw [h1, Es.ratio_beq, Bool.true_and, Bool.eq_iff_iff]
    simp only [Bool.and_eq_true, beq_iff_eq]
    constructor
    · intro h; simp_all
    · intro h; simp_all
theorem equalCl_spec (l m : List Es.Clause) (hl : l.length ≤ 9223372036854775807) (hs : ∀ x ∈ l, x.start.length ≤ 9223372036854775807) : APure M 86 [slD 16 clsC l, slD 16 clsC m, .fn (.func 87) []] (.v (.bool (Es.eqL Es.eqClause l m))) := by
  refine pure_of gpu func86 rfl results86 ntmps86 (by simp) ⟨pu_slD pu_clsC _, pu_slD pu_clsC _, Pu_fn trivial, trivial⟩ ?_
  intro b
  simp only [go_sem, ↓reduceIte, reduceCtorEq, Nat.reduceEqDiff, Nat.reduceLT, Nat.reduceLeDiff, Nat.reduceAdd, Nat.reduceSub, Nat.reduceMul, Nat.reduceGT, Int.reduceNeg, Int.reduceToNat]
  refine ite_cases (fun hne => ?_) (fun hne => ?_)
  · rw [Es.eqL_len hne]
  · have hlen : l.length = m.length := by simp [Es.len] at hne; omega
    refine awp_count0 l.length (fun e0 s0 k e s => (e 1 = e0 1 ∧ e 2 = e0 2 ∧ e 15 = e0 15 ∧ e 16 = e0 16) ∧ e 17 = .v (.int .i64 k) ∧ ∀ j : Nat, j < k → Es.eqClause (Es.at_ l j) (Es.at_ m j) = true) ⟨⟨rfl, rfl, rfl, rfl⟩, ?_, (by omega)⟩ ?_
    · simp only [go_sem, ↓reduceIte, reduceCtorEq, Nat.reduceEqDiff, Nat.reduceLT, Nat.reduceLeDiff, Nat.reduceAdd, Nat.reduceSub, Nat.reduceMul, Nat.reduceGT, Int.reduceNeg, Int.reduceToNat]; rfl
    rintro k e ⟨o, nx⟩ hk ⟨⟨h1, h2, h15, h16⟩, h17, hall⟩
    simp only [go_sem, ↓reduceIte, reduceCtorEq, Nat.reduceEqDiff, Nat.reduceLT, Nat.reduceLeDiff, Nat.reduceAdd, Nat.reduceSub, Nat.reduceMul, Nat.reduceGT, Int.reduceNeg, Int.reduceToNat] at h1 h2 h15 h16
    have e0 : ∀ {a b : Nat}, a ≠ b → (a = b) = False := fun h => by simp [h]
    have hcl : callable prog 87 = true := by simp only [go_sem]
    have z1 : (nx = nx + 1) = False := e0 (by omega); have z2 : (nx + 1 = nx) = False := e0 (by omega)
    simp only [go_sem, ↓reduceIte, reduceCtorEq, Nat.reduceEqDiff, Nat.reduceLT, Nat.reduceLeDiff, Nat.reduceAdd, Nat.reduceSub, Nat.reduceMul, Nat.reduceGT, Int.reduceNeg, Int.reduceToNat, h1, h2, h15, h16, h17, hcl, z1, z2]
    refine ite_cases (fun hlt => ?_) (fun hlt => ?_)
    · have hlt' : k < l.length := Es.len_lt.1 hlt
      refine ⟨⟨by omega, hlt⟩, ⟨by omega, by simp only [Es.len] at hlt ⊢; omega⟩, ?_⟩
      refine call_at M_P M_G (same1_spec _ _ (hs _ (Es.at_mem hlt'))) ?_
      simp only [go_sem, ↓reduceIte, reduceCtorEq, Nat.reduceEqDiff, Nat.reduceLT, Nat.reduceLeDiff, Nat.reduceAdd, Nat.reduceSub, Nat.reduceMul, Nat.reduceGT, Int.reduceNeg, Int.reduceToNat, h1, h2, h15, h16, h17, z1, z2]
      refine ite_cases (fun hd => ?_) (fun hd => ?_)
      · rw [Es.eqL_bad hlt' (by simpa using hd)]
      · refine ⟨hlt', ?_⟩
        simp only [go_sem, ↓reduceIte, reduceCtorEq, Nat.reduceEqDiff, Nat.reduceLT, Nat.reduceLeDiff, Nat.reduceAdd, Nat.reduceSub, Nat.reduceMul, Nat.reduceGT, Int.reduceNeg, Int.reduceToNat, h1, h2, h15, h16, h17]
        refine ⟨by rw [wrap_i64 _ (by omega) (by omega)]; simp, Es.upto_step (p := fun j : Nat => Es.eqClause (Es.at_ l j) (Es.at_ m j)) hall (by simpa using hd)⟩
    · rw [Es.eqL_end hlen (by simp only [Es.len] at hlt; omega) hall]
theorem vsame_spec (a b : Es.Contract) (hl : a.clauses.length ≤ 9223372036854775807) (hs : ∀ x ∈ a.clauses, x.start.length ≤ 9223372036854775807) : APure M 65 [conD a, conD b] (.v (.bool (Es.eqL Es.eqClause a.clauses b.clauses))) := by
  refine pure_of gpu func65 rfl results65 ntmps65 (by simp) ⟨pu_conD a, pu_conD b, trivial⟩ ?_
  intro b
  simp only [go_sem, ↓reduceIte, reduceCtorEq, Nat.reduceEqDiff, Nat.reduceLT, Nat.reduceLeDiff, Nat.reduceAdd, Nat.reduceSub, Nat.reduceMul, Nat.reduceGT, Int.reduceNeg, Int.reduceToNat]
  repeat' (first | ((with_reducible refine call_at M_P M_G (equalCl_spec a.clauses _ hl hs) ?_); simp only [go_sem, ↓reduceIte, reduceCtorEq, Nat.reduceEqDiff, Nat.reduceLT, Nat.reduceLeDiff, Nat.reduceAdd, Nat.reduceSub, Nat.reduceMul, Nat.reduceGT, Int.reduceNeg, Int.reduceToNat]) | (with_reducible refine And.intro ?_ ?_) | ((with_reducible refine ite_cases ?_ ?_) <;> intro _))
end Tryd
end Go.Proofs
end
