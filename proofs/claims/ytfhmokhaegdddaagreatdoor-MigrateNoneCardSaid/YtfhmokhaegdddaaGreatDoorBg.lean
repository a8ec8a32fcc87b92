/-
  Parts of an abstract machine over the model, of the program's data and of what its functions compute: the texts F4 F5 F6 F10 F9b F17 F18 F20 F41 F42 F44 AbsQ AbsT LawV F45, merged.
-/
import Derived.Test.YtfhmokhaegdddaaGreatDoorBf
set_option linter.unusedSimpArgs false
set_option linter.unusedVariables false
section
namespace Go.Proofs
open Go Go.Abs
set_option linter.unusedSimpArgs false
set_option maxRecDepth 10000
namespace Tryz
theorem utAt_spec (us : List Es.Unt) (i : Int) : APure M 119 [slD 5 untC us, .v (.int .i64 i)] (.tup [untD (Es.utAt us i).1, .v (.bool (Es.utAt us i).2)]) := by
  refine pure_of gpu func119 rfl results119 ntmps119 (by simp) ⟨pu_slD pu_untC _, .v _, trivial⟩ ?_
  intro b
  simp only [go_sem, ↓reduceIte, reduceCtorEq, Nat.reduceEqDiff, Nat.reduceLT, Nat.reduceLeDiff, Nat.reduceAdd, Nat.reduceSub, Nat.reduceMul, Nat.reduceGT, Int.reduceNeg, Int.reduceToNat]
  repeat' (first | (with_reducible refine And.intro ?_ ?_) | ((with_reducible refine ite_cases ?_ ?_) <;> intro _))
  all_goals simp only [decide_eq_false_iff_not, Decidable.not_not] at *
  all_goals first
    | omega
    | (rw [show Es.utAt us i = (default, false) from if_pos (by omega)]; exact Fz_tup ⟨(pu_untD default).fz, .v _, trivial⟩)
    | (rw [show Es.utAt us i = (Es.at_ us i, true) from if_neg (by omega)]; exact Fz_tup ⟨(pu_untD _).fz, .v _, trivial⟩)

theorem fits_spec (X : D → Value → Prop) (N : Nat) (r : Option Nat) (b : Nat) (us : List Es.Unt) (i : Int) (hi : 0 ≤ i ∧ i < Es.len us) (f : Nat) (names : List (List UInt8)) (o : St) (nx : Nat) (K : D → S → Prop) (hf : f < nx) (ho : o f 0 = some (.mapo (mapOf names)))
    (hk : ∀ s', Grow ⟨o, nx⟩ s' → K (.v (.bool (Es.fits us i names))) s') : ACall { P := prog, G := gl, X := X, N := N, r := r, b := b } 103 [slD 5 untC us, .v (.int .i64 i), .mm f 0] ⟨o, nx⟩ K := by
  have hk' : ∀ bb s', bb = Es.fits us i names → Grow ⟨o, nx⟩ s' → K (.v (.bool bb)) s' := fun bb s' hb hg => hb ▸ hk s' hg
  refine acall_ofA (M := { P := prog, G := gl, X := X, N := N, r := r, b := b }) func103 rfl results103 ntmps103 (by simp) fun b => ?_
  simp only [go_sem, ↓reduceIte, reduceCtorEq, Nat.reduceEqDiff, Nat.reduceLT, Nat.reduceLeDiff, Nat.reduceAdd, Nat.reduceSub, Nat.reduceMul, Nat.reduceGT, Int.reduceNeg, Int.reduceToNat]
  have n0 : (f = nx) = False := by simp only [eq_iff_iff, iff_false]; omega
  have n1 : (f = nx + 1) = False := by simp only [eq_iff_iff, iff_false]; omega
  have n2 : (nx = nx + 1) = False := by simp only [eq_iff_iff, iff_false]; omega
  refine ⟨hi, ?_⟩
  repeat' (first | ((with_reducible refine call_at M_P M_G (utAt_spec _ _) ?_); simp only [go_sem, ↓reduceIte, reduceCtorEq, Nat.reduceEqDiff, Nat.reduceLT, Nat.reduceLeDiff, Nat.reduceAdd, Nat.reduceSub, Nat.reduceMul, Nat.reduceGT, Int.reduceNeg, Int.reduceToNat, ho, n0, n1, n2, mfind_mapOf, ByteArray.toList_mk]) | ((with_reducible refine call_at M_P M_G (ratValid_spec _) ?_); simp only [go_sem, ↓reduceIte, reduceCtorEq, Nat.reduceEqDiff, Nat.reduceLT, Nat.reduceLeDiff, Nat.reduceAdd, Nat.reduceSub, Nat.reduceMul, Nat.reduceGT, Int.reduceNeg, Int.reduceToNat, ho, n0, n1, n2, mfind_mapOf, ByteArray.toList_mk]) | (with_reducible refine And.intro ?_ ?_) | ((with_reducible refine ite_cases ?_ ?_) <;> intro _))
  all_goals first
    | exact mapOf_keys _
    | rfl
    | (refine hk' _ _ ?_ (Grow.to (by show nx ≤ _; omega) ?_)
       · first | (simp [Es.fits, Es.ratio_beq, *]; done) | (simp [Es.fits, Es.ratio_beq, *]; omega) | (simp_all [Es.fits, Es.ratio_beq]; done) | (simp_all [Es.fits, Es.ratio_beq]; omega)
       · repeat' (first | exact SameB.refl _ _ | refine SameB.set ?_ (by show nx ≤ _; omega) _ _))

theorem qValid_spec (us : List Es.Unt) (hl : us.length ≤ 9223372036854775807) : APure M 83 [slD 5 untC us] (.tup [.v (.int .i64 (Es.qValid us).1), .v (.bool (Es.qValid us).2)]) := by
  refine pure_of gpu func83 rfl results83 ntmps83 (by simp) ⟨pu_slD pu_untC _, trivial⟩ ?_
  intro b
  simp only [go_sem, ↓reduceIte, reduceCtorEq, Nat.reduceEqDiff, Nat.reduceLT, Nat.reduceLeDiff, Nat.reduceAdd, Nat.reduceSub, Nat.reduceMul, Nat.reduceGT, Int.reduceNeg, Int.reduceToNat]
  refine awp_count0 us.length (fun e0 s0 k e s => (e 0 = e0 0 ∧ e 4 = e0 4 ∧ e 8 = e0 8 ∧ e 9 = e0 9) ∧ e 10 = .v (.int .i64 k) ∧ 1 ≤ s.nx ∧ s.o 0 0 = some (.mapo (mapOf ((us.take k).map (·.name)))) ∧ ∀ j : Nat, j < k → Es.fits us j ((us.take j).map (·.name)) = true) ⟨⟨rfl, rfl, rfl, rfl⟩, ?_, Nat.le_refl 1, rfl, (by omega)⟩ ?_
  · simp only [go_sem, ↓reduceIte, reduceCtorEq, Nat.reduceEqDiff, Nat.reduceLT, Nat.reduceLeDiff, Nat.reduceAdd, Nat.reduceSub, Nat.reduceMul, Nat.reduceGT, Int.reduceNeg, Int.reduceToNat]; rfl
  rintro k e ⟨o, nx⟩ hk ⟨⟨h0, h4, h8, h9⟩, h10, hn, g0, hall⟩
  simp only [go_sem, ↓reduceIte, reduceCtorEq, Nat.reduceEqDiff, Nat.reduceLT, Nat.reduceLeDiff, Nat.reduceAdd, Nat.reduceSub, Nat.reduceMul, Nat.reduceGT, Int.reduceNeg, Int.reduceToNat] at h0 h4 h8 h9 hn g0
  have n0 : (0 = nx) = False := by simp only [eq_iff_iff, iff_false]; omega
  simp only [go_sem, ↓reduceIte, reduceCtorEq, Nat.reduceEqDiff, Nat.reduceLT, Nat.reduceLeDiff, Nat.reduceAdd, Nat.reduceSub, Nat.reduceMul, Nat.reduceGT, Int.reduceNeg, Int.reduceToNat, h0, h4, h8, h9, h10, g0, n0]
  refine ite_cases (fun hlt => ?_) (fun hlt => ?_)
  · have hlt' : k < us.length := Es.len_lt.1 hlt
    refine ⟨⟨by omega, hlt⟩, ?_⟩
    refine fits_spec _ _ _ _ us k ⟨by omega, hlt⟩ 0 ((us.take k).map (·.name)) _ _ _ (by omega) (by simp only [go_sem, ↓reduceIte, reduceCtorEq, Nat.reduceEqDiff, Nat.reduceLT, Nat.reduceLeDiff, Nat.reduceAdd, Nat.reduceSub, Nat.reduceMul, Nat.reduceGT, Int.reduceNeg, Int.reduceToNat, g0, n0]) ?_
    rintro ⟨o', nx'⟩ hg
    have gg0 := hg.2 0 0 (by show 0 < nx + 1; omega)
    have gg1 := hg.2 nx 0 (by show nx < nx + 1; omega)
    simp only [go_sem, ↓reduceIte, reduceCtorEq, Nat.reduceEqDiff, Nat.reduceLT, Nat.reduceLeDiff, Nat.reduceAdd, Nat.reduceSub, Nat.reduceMul, Nat.reduceGT, Int.reduceNeg, Int.reduceToNat, g0, n0] at gg0 gg1
    simp only [go_sem, ↓reduceIte, reduceCtorEq, Nat.reduceEqDiff, Nat.reduceLT, Nat.reduceLeDiff, Nat.reduceAdd, Nat.reduceSub, Nat.reduceMul, Nat.reduceGT, Int.reduceNeg, Int.reduceToNat, h0, h4, h8, h9, h10, gg0, gg1]
    refine ite_cases (fun hf => ?_) (fun hf => ?_)
    · have hq : Es.qBad us = some k := Es.qBad_some hlt' (by simpa using hf) hall
      simp only [Es.qValid, hq]
      exact Fz_tup ⟨.v _, .v _, trivial⟩
    · have hf' : Es.fits us k ((us.take k).map (·.name)) = true := by simpa using hf
      refine ⟨mapOf_keys _, hlt', ?_⟩
      simp only [go_sem, ↓reduceIte, reduceCtorEq, Nat.reduceEqDiff, Nat.reduceLT, Nat.reduceLeDiff, Nat.reduceAdd, Nat.reduceSub, Nat.reduceMul, Nat.reduceGT, Int.reduceNeg, Int.reduceToNat, h0, h4, h8, h9, h10, gg0, gg1]
      refine ⟨by rw [wrap_i64 _ (by omega) (by omega)]; simp, ?_, ?_, ?_⟩
      · have := hg.1; simp only at this; omega
      · rw [mput_mapOf _ _ (Es.fits_new hf'), List.take_succ_eq_append_getElem hlt', List.map_append, Es.at_nat hlt']; rfl
      · intro j hj
        rcases Nat.lt_or_ge j k with h | h
        · exact hall j h
        · have : j = k := by omega
          rw [this]; exact hf'
  · have hkk : k = us.length := by simp only [Es.len] at hlt; omega
    have hq : Es.qBad us = .none := Es.qBad_none (hkk ▸ hall)
    simp only [Es.qValid, hq]
    exact Fz_tup ⟨.v _, .v _, trivial⟩
end Tryz
end Go.Proofs
end
section
namespace Go.Proofs
open Go Go.Abs
set_option linter.unusedSimpArgs false
set_option maxRecDepth 10000
namespace Tryz
set_option maxHeartbeats 2000000 in
theorem frame_spec (c : Es.Contract) (hf : Es.Fits c) (hp : c.parties ≤ 12) : APure M 68 [conD c] (.v (.bool (Es.frame c))) := by
  have hf1 := hf.holders
  have hf2 := hf.units
  have hf3 := hf.acts
  have hf5 := hf.off
  refine pure_of gpu func68 rfl results68 ntmps68 (by simp) ⟨pu_conD _, trivial⟩ ?_
  intro b
  simp only [go_sem, ↓reduceIte, reduceCtorEq, Nat.reduceEqDiff, Nat.reduceLT, Nat.reduceLeDiff, Nat.reduceAdd, Nat.reduceSub, Nat.reduceMul, Nat.reduceGT, Int.reduceNeg, Int.reduceToNat]
  repeat' (first | ((with_reducible refine call_at M_P M_G (qValid_spec _ hf.units) ?_); simp only [go_sem, ↓reduceIte, reduceCtorEq, Nat.reduceEqDiff, Nat.reduceLT, Nat.reduceLeDiff, Nat.reduceAdd, Nat.reduceSub, Nat.reduceMul, Nat.reduceGT, Int.reduceNeg, Int.reduceToNat]) | (with_reducible refine And.intro ?_ ?_) | ((with_reducible refine ite_cases ?_ ?_) <;> intro _))
  all_goals try (refine congrArg Value.bool ?_; first | (simp [Es.frame, *]; done) | (simp [Es.frame, *]; omega) | (simp_all [Es.frame]; done) | (simp_all [Es.frame]; omega))
  · (refine awp_count0 c.holders.length (fun e0 s0 k e s => (e 1 = e0 1 ∧ e 38 = e0 38 ∧ e 39 = e0 39) ∧ e 40 = .v (.int .i64 k) ∧ s = s0 ∧ ∀ p ∈ c.holders.take k, (fun p => Es.under p c.parties) p = true) ⟨⟨rfl, rfl, rfl⟩, ?_, rfl, (by simp)⟩ ?_
     · simp only [go_sem, ↓reduceIte, reduceCtorEq, Nat.reduceEqDiff, Nat.reduceLT, Nat.reduceLeDiff, Nat.reduceAdd, Nat.reduceSub, Nat.reduceMul, Nat.reduceGT, Int.reduceNeg, Int.reduceToNat]; rfl
     rintro k e s hk ⟨⟨a1, a38, a39⟩, a40, rfl, hall⟩
     simp only [go_sem, ↓reduceIte, reduceCtorEq, Nat.reduceEqDiff, Nat.reduceLT, Nat.reduceLeDiff, Nat.reduceAdd, Nat.reduceSub, Nat.reduceMul, Nat.reduceGT, Int.reduceNeg, Int.reduceToNat] at a1 a38 a39
     simp only [go_sem, ↓reduceIte, reduceCtorEq, Nat.reduceEqDiff, Nat.reduceLT, Nat.reduceLeDiff, Nat.reduceAdd, Nat.reduceSub, Nat.reduceMul, Nat.reduceGT, Int.reduceNeg, Int.reduceToNat, a1, a38, a39, a40]
     refine ite_cases (fun hlt => ?_) (fun hlt => ?_)
     · have hlt' : k < c.holders.length := Es.len_lt.1 hlt
       refine ⟨⟨by omega, hlt⟩, ?_⟩
       refine awp_count0 c.parties.toNat (fun e0 s0 q e s => (e 1 = e0 1 ∧ e 38 = e0 38 ∧ e 39 = e0 39 ∧ e 40 = e0 40 ∧ e 45 = e0 45 ∧ e 6 = e0 6) ∧ e 46 = .v (.int .i64 q) ∧ s = s0 ∧ ∀ j : Nat, j < q → Es.at_ c.holders k ≠ j) ⟨⟨rfl, rfl, rfl, rfl, rfl, rfl⟩, ?_, rfl, (by omega)⟩ ?_
       · simp only [go_sem, ↓reduceIte, reduceCtorEq, Nat.reduceEqDiff, Nat.reduceLT, Nat.reduceLeDiff, Nat.reduceAdd, Nat.reduceSub, Nat.reduceMul, Nat.reduceGT, Int.reduceNeg, Int.reduceToNat]; rfl
       rintro q e s hq ⟨⟨h1, h38, h39, h40, h45, h6⟩, h46, rfl, hne⟩
       simp only [go_sem, ↓reduceIte, reduceCtorEq, Nat.reduceEqDiff, Nat.reduceLT, Nat.reduceLeDiff, Nat.reduceAdd, Nat.reduceSub, Nat.reduceMul, Nat.reduceGT, Int.reduceNeg, Int.reduceToNat, a1, a38, a39, a40] at h1 h38 h39 h40 h45 h6
       simp only [go_sem, ↓reduceIte, reduceCtorEq, Nat.reduceEqDiff, Nat.reduceLT, Nat.reduceLeDiff, Nat.reduceAdd, Nat.reduceSub, Nat.reduceMul, Nat.reduceGT, Int.reduceNeg, Int.reduceToNat, h1, h38, h39, h40, h45, h6, h46, a1, a38, a39, a40]
       refine ite_cases (fun hq' => ?_) (fun hq' => ?_)
       · refine ite_cases (fun he => ?_) (fun he => ?_)
         · have he' : Es.at_ c.holders k = q := by simpa using he
           refine ⟨hlt', ?_⟩
           simp only [go_sem, ↓reduceIte, reduceCtorEq, Nat.reduceEqDiff, Nat.reduceLT, Nat.reduceLeDiff, Nat.reduceAdd, Nat.reduceSub, Nat.reduceMul, Nat.reduceGT, Int.reduceNeg, Int.reduceToNat, h1, h38, h39, h40, h45, h6, h46, a1, a38, a39, a40]
           refine ⟨by rw [wrap_i64 _ (by omega) (by omega)]; simp, Es.all_step hlt' hall ?_⟩
           rw [he']; simp only [Es.under, Bool.and_eq_true, decide_eq_true_eq]; omega
         · have he' : Es.at_ c.holders k ≠ q := by simpa using he
           refine ⟨by omega, ?_⟩
           simp only [go_sem, ↓reduceIte, reduceCtorEq, Nat.reduceEqDiff, Nat.reduceLT, Nat.reduceLeDiff, Nat.reduceAdd, Nat.reduceSub, Nat.reduceMul, Nat.reduceGT, Int.reduceNeg, Int.reduceToNat, h1, h38, h39, h40, h45, h6, h46, a1, a38, a39, a40]
           refine ⟨by rw [wrap_i64 _ (by omega) (by omega)]; simp, ?_⟩
           intro j hj
           rcases Nat.lt_or_ge j q with h | h
           · exact hne j h
           · have : j = q := by omega
             rw [this]; exact he'
       · have hbad : c.holders.all (fun p => Es.under p c.parties) = false := Es.all_bad hlt' (by
           show Es.under _ _ = false
           cases hu : Es.under (Es.at_ c.holders k) c.parties with
           | false => rfl
           | true =>
             simp only [Es.under, Bool.and_eq_true, decide_eq_true_eq] at hu
             exact absurd (Int.toNat_of_nonneg hu.1).symm (hne (Es.at_ c.holders k).toNat (by omega)))
         first | (simp [Es.frame, *]; done) | (simp [Es.frame, *]; omega) | (simp_all [Es.frame]; done) | (simp_all [Es.frame]; omega)
     · have hA := Es.all_end (p := fun p => Es.under p c.parties) hlt hk hall
       refine awp_count0 c.acts.length (fun e0 s0 k e s => (e 1 = e0 1 ∧ e 55 = e0 55 ∧ e 56 = e0 56) ∧ e 57 = .v (.int .i64 k) ∧ Grow s0 s ∧ ∀ x ∈ c.acts.take k, Es.act c x = true) ⟨⟨rfl, rfl, rfl⟩, ?_, Grow.refl _, (by simp)⟩ ?_
       · simp only [go_sem, ↓reduceIte, reduceCtorEq, Nat.reduceEqDiff, Nat.reduceLT, Nat.reduceLeDiff, Nat.reduceAdd, Nat.reduceSub, Nat.reduceMul, Nat.reduceGT, Int.reduceNeg, Int.reduceToNat]; rfl
       clear hall
       rintro k e ⟨o, nx⟩ hk ⟨⟨h1, h55, h56⟩, h57, hg, hall⟩
       simp only [go_sem, ↓reduceIte, reduceCtorEq, Nat.reduceEqDiff, Nat.reduceLT, Nat.reduceLeDiff, Nat.reduceAdd, Nat.reduceSub, Nat.reduceMul, Nat.reduceGT, Int.reduceNeg, Int.reduceToNat, a1] at h1 h55 h56
       have g0 := hg.2 0 0 (by show (0:Nat) < 1; decide); have hn : 1 ≤ nx := hg.1; have n0 : (0 = nx) = False := (by simp only [eq_iff_iff, iff_false]; omega); simp only [go_sem, ↓reduceIte, reduceCtorEq, Nat.reduceEqDiff, Nat.reduceLT, Nat.reduceLeDiff, Nat.reduceAdd, Nat.reduceSub, Nat.reduceMul, Nat.reduceGT, Int.reduceNeg, Int.reduceToNat] at g0
       simp only [go_sem, ↓reduceIte, reduceCtorEq, Nat.reduceEqDiff, Nat.reduceLT, Nat.reduceLeDiff, Nat.reduceAdd, Nat.reduceSub, Nat.reduceMul, Nat.reduceGT, Int.reduceNeg, Int.reduceToNat, h1, h55, h56, h57, g0, n0, a1]
       refine ite_cases (fun hlt => ?_) (fun hlt => ?_)
       · have hlt' : k < c.acts.length := Es.len_lt.1 hlt
         refine ⟨⟨by omega, hlt⟩, ?_⟩
         repeat' (first | ((with_reducible refine call_at M_P M_G (act_spec _ _) ?_); simp only [go_sem, ↓reduceIte, reduceCtorEq, Nat.reduceEqDiff, Nat.reduceLT, Nat.reduceLeDiff, Nat.reduceAdd, Nat.reduceSub, Nat.reduceMul, Nat.reduceGT, Int.reduceNeg, Int.reduceToNat, h1, h55, h56, h57, g0, n0, a1]) | (with_reducible refine And.intro ?_ ?_) | ((with_reducible refine ite_cases ?_ ?_) <;> intro _))
         · have hbad : c.acts.all (Es.act c) = false := Es.all_bad hlt' (by simpa using ‹(!Es.act c _) = true›)
           first | (simp [Es.frame, *]; done) | (simp [Es.frame, *]; omega) | (simp_all [Es.frame]; done) | (simp_all [Es.frame]; omega)
         · refine ⟨hlt', ?_⟩
           simp only [go_sem, ↓reduceIte, reduceCtorEq, Nat.reduceEqDiff, Nat.reduceLT, Nat.reduceLeDiff, Nat.reduceAdd, Nat.reduceSub, Nat.reduceMul, Nat.reduceGT, Int.reduceNeg, Int.reduceToNat, h1, h55, h56, h57, g0, n0, a1]
           exact ⟨by rw [wrap_i64 _ (by omega) (by omega)]; simp, hg.set hn (by omega), Es.all_step hlt' hall (by simpa using ‹¬ (!Es.act c _) = true›)⟩
       · have hB := Es.all_end (p := Es.act c) hlt hk hall
         refine awp_count0 c.off.length (fun e0 s0 k e s => (e 1 = e0 1 ∧ e 67 = e0 67 ∧ e 68 = e0 68) ∧ e 69 = .v (.int .i64 k) ∧ s = s0 ∧ ∃ last, e 10 = .v (.int .i64 last) ∧ Es.offOk c.days (-1) c.off = Es.offOk c.days last (c.off.drop k)) ⟨⟨rfl, rfl, rfl⟩, ?_, rfl, ?_⟩ ?_
         · simp only [go_sem, ↓reduceIte, reduceCtorEq, Nat.reduceEqDiff, Nat.reduceLT, Nat.reduceLeDiff, Nat.reduceAdd, Nat.reduceSub, Nat.reduceMul, Nat.reduceGT, Int.reduceNeg, Int.reduceToNat]; rfl
         · exact ⟨-1, by simp only [go_sem, ↓reduceIte, reduceCtorEq, Nat.reduceEqDiff, Nat.reduceLT, Nat.reduceLeDiff, Nat.reduceAdd, Nat.reduceSub, Nat.reduceMul, Nat.reduceGT, Int.reduceNeg, Int.reduceToNat], rfl⟩
         rintro m e s hm ⟨⟨b1, b67, b68⟩, b69, rfl, last, b10, hoff⟩
         simp only [go_sem, ↓reduceIte, reduceCtorEq, Nat.reduceEqDiff, Nat.reduceLT, Nat.reduceLeDiff, Nat.reduceAdd, Nat.reduceSub, Nat.reduceMul, Nat.reduceGT, Int.reduceNeg, Int.reduceToNat, h1, g0, n0] at b1 b67 b68
         simp only [go_sem, ↓reduceIte, reduceCtorEq, Nat.reduceEqDiff, Nat.reduceLT, Nat.reduceLeDiff, Nat.reduceAdd, Nat.reduceSub, Nat.reduceMul, Nat.reduceGT, Int.reduceNeg, Int.reduceToNat, b1, b67, b68, b69, b10, g0, n0, h1, a1]
         refine ite_cases (fun hlt2 => ?_) (fun hlt2 => ?_)
         · have hlt2' : m < c.off.length := Es.len_lt.1 hlt2
           have hd := Es.drop_at hlt2'
           refine ⟨⟨by omega, hlt2⟩, ?_⟩
           rw [hd, Es.offOk] at hoff
           repeat' (first | (with_reducible refine And.intro ?_ ?_) | ((with_reducible refine ite_cases ?_ ?_) <;> intro _))
           all_goals first
             | (refine ⟨hlt2', ?_⟩
                simp only [go_sem, ↓reduceIte, reduceCtorEq, Nat.reduceEqDiff, Nat.reduceLT, Nat.reduceLeDiff, Nat.reduceAdd, Nat.reduceSub, Nat.reduceMul, Nat.reduceGT, Int.reduceNeg, Int.reduceToNat, b1, b67, b68, b69, b10, g0, n0, h1, a1]
                refine ⟨by rw [wrap_i64 _ (by omega) (by omega)]; simp, _, rfl, ?_⟩
                rw [hoff]
                simp_all
                done)
             | (have hoff' : Es.offOk c.days (-1) c.off = false := by rw [hoff]; simp_all
                first | (simp [Es.frame, *]; done) | (simp [Es.frame, *]; omega) | (simp_all [Es.frame]; done) | (simp_all [Es.frame]; omega))
         · have hdm : c.off.drop m = [] := List.drop_eq_nil_of_le (by simp only [Es.len] at hlt2; omega)
           rw [hdm] at hoff
           have hoff' : Es.offOk c.days (-1) c.off = true := hoff
           first | (simp [Es.frame, *]; done) | (simp [Es.frame, *]; omega) | (simp_all [Es.frame]; done) | (simp_all [Es.frame]; omega))
end Tryz
end Go.Proofs
end
section
namespace Go.Proofs
open Go Go.Abs
set_option linter.unusedSimpArgs false
set_option maxRecDepth 10000
namespace Tryz
theorem find_some {c : Es.Contract} {k : Nat} (hk : k < c.clauses.length) (h : Es.clauseOk c k = false) (hall : ∀ j : Nat, j < k → Es.clauseOk c j = true) : (List.range c.clauses.length).find? (fun i : Nat => !Es.clauseOk c (i : Int)) = some k := by
  rw [List.find?_range_eq_some]
  exact ⟨by simp only [h, Bool.not_false], by simpa using hk, fun j hj => by simp only [hall j hj, Bool.not_true, Bool.not_false]⟩
theorem find_none {c : Es.Contract} (hall : ∀ j : Nat, j < c.clauses.length → Es.clauseOk c j = true) : (List.range c.clauses.length).find? (fun i : Nat => !Es.clauseOk c (i : Int)) = .none := by
  rw [List.find?_eq_none]
  intro j hj
  simp only [hall j (List.mem_range.1 hj), Bool.not_true, Bool.false_eq_true, not_false_eq_true]
set_option maxHeartbeats 2000000 in
theorem valid2_spec (c : Es.Contract) (hf : Es.Fits c) : APure M 53 [conD c] (.tup [.v (.int .i64 (Es.valid2 c).1), .v (.int .i64 (Es.valid2 c).2)]) := by
  have hf4 := hf.clauses
  refine pure_of gpu func53 rfl results53 ntmps53 (by simp) ⟨pu_conD _, trivial⟩ ?_
  intro b
  simp only [go_sem, ↓reduceIte, reduceCtorEq, Nat.reduceEqDiff, Nat.reduceLT, Nat.reduceLeDiff, Nat.reduceAdd, Nat.reduceSub, Nat.reduceMul, Nat.reduceGT, Int.reduceNeg, Int.reduceToNat]
  repeat' (first | (with_reducible refine And.intro ?_ ?_) | ((with_reducible refine ite_cases ?_ ?_) <;> intro _))
  all_goals first
    | (rw [show Es.valid2 c = (3, -1) by simp only [Es.valid2]; rw [if_pos]; first | (simp [Es.len, *]; done) | (simp [Es.len, *]; omega) | (simp_all [Es.len]; done) | (simp_all [Es.len]; omega)]
       exact Fz_tup ⟨.v _, .v _, trivial⟩)
    | skip
  have h0 : ¬ ((decide (12 < c.parties) || decide (2000 < c.days) || decide (12 < Es.len c.holders) || decide (20 < Es.len c.units) || decide (60 < Es.len c.acts) || decide (400 < Es.len c.clauses)) = true) := by simp [*]
  have hp : c.parties ≤ 12 := by simp at h0; omega
  refine call_at M_P M_G (frame_spec c hf hp) ?_
  simp only [go_sem, ↓reduceIte, reduceCtorEq, Nat.reduceEqDiff, Nat.reduceLT, Nat.reduceLeDiff, Nat.reduceAdd, Nat.reduceSub, Nat.reduceMul, Nat.reduceGT, Int.reduceNeg, Int.reduceToNat]
  refine ite_cases (fun hfr => ?_) (fun hfr => ?_)
  · have : Es.valid2 c = (1, -1) := by
      unfold Es.valid2; rw [if_neg h0, if_pos hfr]
    rw [this]; exact Fz_tup ⟨.v _, .v _, trivial⟩
  · have hv : Es.valid2 c = match (List.range c.clauses.length).find? (fun i : Nat => !Es.clauseOk c (i : Int)) with | some i => (1, (i : Int)) | .none => (0, -1) := by
      unfold Es.valid2; rw [if_neg h0, if_neg hfr]; rfl
    refine awp_count0 c.clauses.length (fun e0 s0 k e s => (e 1 = e0 1 ∧ e 41 = e0 41 ∧ e 42 = e0 42) ∧ e 43 = .v (.int .i64 k) ∧ s = s0 ∧ ∀ j : Nat, j < k → Es.clauseOk c j = true) ⟨⟨rfl, rfl, rfl⟩, ?_, rfl, (by omega)⟩ ?_
    · simp only [go_sem, ↓reduceIte, reduceCtorEq, Nat.reduceEqDiff, Nat.reduceLT, Nat.reduceLeDiff, Nat.reduceAdd, Nat.reduceSub, Nat.reduceMul, Nat.reduceGT, Int.reduceNeg, Int.reduceToNat]; rfl
    rintro k e s hk ⟨⟨h1, h41, h42⟩, h43, rfl, hall⟩
    simp only [go_sem, ↓reduceIte, reduceCtorEq, Nat.reduceEqDiff, Nat.reduceLT, Nat.reduceLeDiff, Nat.reduceAdd, Nat.reduceSub, Nat.reduceMul, Nat.reduceGT, Int.reduceNeg, Int.reduceToNat] at h1 h41 h42
    simp only [go_sem, ↓reduceIte, reduceCtorEq, Nat.reduceEqDiff, Nat.reduceLT, Nat.reduceLeDiff, Nat.reduceAdd, Nat.reduceSub, Nat.reduceMul, Nat.reduceGT, Int.reduceNeg, Int.reduceToNat, h1, h41, h42, h43]
    refine ite_cases (fun hlt => ?_) (fun hlt => ?_)
    · have hlt' : k < c.clauses.length := Es.len_lt.1 hlt
      refine call_at M_P M_G (clause_spec c k ⟨by omega, hlt⟩) ?_
      simp only [go_sem, ↓reduceIte, reduceCtorEq, Nat.reduceEqDiff, Nat.reduceLT, Nat.reduceLeDiff, Nat.reduceAdd, Nat.reduceSub, Nat.reduceMul, Nat.reduceGT, Int.reduceNeg, Int.reduceToNat, h1, h41, h42, h43]
      refine ite_cases (fun hb => ?_) (fun hb => ?_)
      · have : Es.valid2 c = (1, (k : Int)) := by rw [hv, find_some hlt' (by simpa using hb) hall]
        rw [this]; exact Fz_tup ⟨.v _, .v _, trivial⟩
      · refine ⟨hlt', ?_⟩
        simp only [go_sem, ↓reduceIte, reduceCtorEq, Nat.reduceEqDiff, Nat.reduceLT, Nat.reduceLeDiff, Nat.reduceAdd, Nat.reduceSub, Nat.reduceMul, Nat.reduceGT, Int.reduceNeg, Int.reduceToNat, h1, h41, h42, h43]
        refine ⟨by rw [wrap_i64 _ (by omega) (by omega)]; simp, ?_⟩
        intro j hj
        rcases Nat.lt_or_ge j k with h | h
        · exact hall j h
        · have : j = k := by omega
          rw [this]; simpa using hb
    · have hkk : k = c.clauses.length := by simp only [Es.len] at hlt; omega
      have : Es.valid2 c = (0, -1) := by rw [hv, find_none (hkk ▸ hall)]
      rw [this]; exact Fz_tup ⟨.v _, .v _, trivial⟩

theorem valid_spec (c : Es.Contract) (hf : Es.Fits c) : APure M 28 [conD c] (.v (.bool ((Es.valid2 c).1 == 0))) := by
  refine pure_of gpu func28 rfl results28 ntmps28 (by simp) ⟨pu_conD _, trivial⟩ ?_
  intro b
  simp only [go_sem, ↓reduceIte, reduceCtorEq, Nat.reduceEqDiff, Nat.reduceLT, Nat.reduceLeDiff, Nat.reduceAdd, Nat.reduceSub, Nat.reduceMul, Nat.reduceGT, Int.reduceNeg, Int.reduceToNat]
  repeat' (first | ((with_reducible refine call_at M_P M_G (valid2_spec _ hf) ?_); simp only [go_sem, ↓reduceIte, reduceCtorEq, Nat.reduceEqDiff, Nat.reduceLT, Nat.reduceLeDiff, Nat.reduceAdd, Nat.reduceSub, Nat.reduceMul, Nat.reduceGT, Int.reduceNeg, Int.reduceToNat]) | (with_reducible refine And.intro ?_ ?_) | ((with_reducible refine ite_cases ?_ ?_) <;> intro _))
end Tryz
end Go.Proofs
end
section
namespace Go.Proofs
open Go Go.Abs
set_option linter.unusedSimpArgs false
set_option maxRecDepth 10000
namespace Tryz
set_option maxHeartbeats 2000000 in
theorem sValid_spec (c : Es.Contract) (s : Es.State) (hf : Es.Fits c) (hs : Es.SFits s) : APure M 16 [conD c, staD s] (.v (.bool (Es.sValid c s))) := by
  have hcall : callable prog 30 = true := by simp only [go_sem]
  have hcon := containsI_spec 30 [.rp 7 (conC c) 0] hcall ⟨pu_rp (pu_conC c), trivial⟩ (fun p => decide (p < 0) || decide (c.parties ≤ p)) s.holders hs.holders (fun x _ => holder_spec c x)
  have hs1 := hs.used
  have hs2 := hs.marks
  refine pure_of gpu func16 rfl results16 ntmps16 (by simp) ⟨pu_conD _, pu_staD _, trivial⟩ ?_
  intro b
  simp only [go_sem, ↓reduceIte, reduceCtorEq, Nat.reduceEqDiff, Nat.reduceLT, Nat.reduceLeDiff, Nat.reduceAdd, Nat.reduceSub, Nat.reduceMul, Nat.reduceGT, Int.reduceNeg, Int.reduceToNat]
  repeat' (first | ((with_reducible refine call_at M_P M_G (valid_spec c hf) ?_); simp only [go_sem, ↓reduceIte, reduceCtorEq, Nat.reduceEqDiff, Nat.reduceLT, Nat.reduceLeDiff, Nat.reduceAdd, Nat.reduceSub, Nat.reduceMul, Nat.reduceGT, Int.reduceNeg, Int.reduceToNat]) | ((with_reducible apply lend_at M_P M_G (hcon) gpu (Flat.v _)); (exact ⟨(pu_slD pu_intC _).fz, Fz_fn ⟨fz_con rfl (by decide), trivial⟩, trivial⟩); simp only [go_sem, ↓reduceIte, reduceCtorEq, Nat.reduceEqDiff, Nat.reduceLT, Nat.reduceLeDiff, Nat.reduceAdd, Nat.reduceSub, Nat.reduceMul, Nat.reduceGT, Int.reduceNeg, Int.reduceToNat]) | (with_reducible refine And.intro ?_ ?_) | ((with_reducible refine ite_cases ?_ ?_) <;> intro _))
  all_goals try (refine congrArg Value.bool ?_; first | (simp [Es.sValid, *]; done) | (simp [Es.sValid, *]; omega) | (simp_all [Es.sValid]; done) | (simp_all [Es.sValid]; omega))
  have hv : ((Es.valid2 c).1 == 0) = true := by simp_all
  have hm : Es.len s.marks = Es.len c.clauses := by simp_all
  have hu : Es.len s.used = Es.len c.acts := by simp_all
  have hm' : s.marks.length = c.clauses.length := by simp only [Es.len] at hm; omega
  have hu' : s.used.length = c.acts.length := by simp only [Es.len] at hu; omega
  have hV : Es.sValid c s = if !Es.allN s.used.length (fun i => !(Es.at_ s.used (i : Int) && (Es.at_ c.acts (i : Int)).kind == 1)) then false
      else if !Es.allN s.marks.length (fun i => Es.wellFormed c (Es.at_ c.clauses (i : Int)) (Es.at_ s.marks (i : Int))) then false
      else Es.allN s.marks.length (fun i => !Es.ready c s (i : Int)) := by
    unfold Es.sValid; rw [if_neg (by simp_all), if_neg (by simp_all)]
  refine awp_count0 s.used.length (fun e0 s0 k e st => (e 2 = e0 2 ∧ e 3 = e0 3 ∧ e 57 = e0 57 ∧ e 58 = e0 58) ∧ e 59 = .v (.int .i64 k) ∧ st = s0 ∧ ∀ j : Nat, j < k → (fun i : Nat => !(Es.at_ s.used (i : Int) && (Es.at_ c.acts (i : Int)).kind == 1)) j = true) ⟨⟨rfl, rfl, rfl, rfl⟩, ?_, rfl, (by omega)⟩ ?_
  · simp only [go_sem, ↓reduceIte, reduceCtorEq, Nat.reduceEqDiff, Nat.reduceLT, Nat.reduceLeDiff, Nat.reduceAdd, Nat.reduceSub, Nat.reduceMul, Nat.reduceGT, Int.reduceNeg, Int.reduceToNat]; rfl
  rintro k e st hk ⟨⟨a2, a3, a57, a58⟩, a59, rfl, hall⟩
  simp only [go_sem, ↓reduceIte, reduceCtorEq, Nat.reduceEqDiff, Nat.reduceLT, Nat.reduceLeDiff, Nat.reduceAdd, Nat.reduceSub, Nat.reduceMul, Nat.reduceGT, Int.reduceNeg, Int.reduceToNat] at a2 a3 a57 a58
  simp only [go_sem, ↓reduceIte, reduceCtorEq, Nat.reduceEqDiff, Nat.reduceLT, Nat.reduceLeDiff, Nat.reduceAdd, Nat.reduceSub, Nat.reduceMul, Nat.reduceGT, Int.reduceNeg, Int.reduceToNat, a2, a3, a57, a58, a59]
  refine ite_cases (fun hlt => ?_) (fun hlt => ?_)
  · have hlt' : k < s.used.length := Es.len_lt.1 hlt
    refine ⟨⟨by omega, hlt⟩, ?_⟩
    repeat' (first | (with_reducible refine And.intro ?_ ?_) | ((with_reducible refine ite_cases ?_ ?_) <;> intro _))
    all_goals first
      | omega
      | (refine ⟨hlt', ?_⟩
         simp only [go_sem, ↓reduceIte, reduceCtorEq, Nat.reduceEqDiff, Nat.reduceLT, Nat.reduceLeDiff, Nat.reduceAdd, Nat.reduceSub, Nat.reduceMul, Nat.reduceGT, Int.reduceNeg, Int.reduceToNat, a2, a3, a57, a58, a59]
         exact ⟨by rw [wrap_i64 _ (by omega) (by omega)]; simp, Es.upto_step hall (by simp_all)⟩)
      | (have hbad := Es.allN_bad (p := fun i : Nat => !(Es.at_ s.used (i : Int) && (Es.at_ c.acts (i : Int)).kind == 1)) hlt' (by simp_all)
         rw [hV, hbad]; rfl)
  · have hA := Es.allN_end (p := fun i : Nat => !(Es.at_ s.used (i : Int) && (Es.at_ c.acts (i : Int)).kind == 1)) (n := s.used.length) (by simp only [Es.len] at hlt; omega) hall
    rw [hA] at hV
    simp only [Bool.not_true, Bool.false_eq_true, if_false] at hV
    refine awp_count0 s.marks.length (fun e0 s0 k e st => (e 2 = e0 2 ∧ e 3 = e0 3 ∧ e 76 = e0 76 ∧ e 77 = e0 77) ∧ e 78 = .v (.int .i64 k) ∧ Grow s0 st ∧ ∀ j : Nat, j < k → (fun i : Nat => Es.wellFormed c (Es.at_ c.clauses (i : Int)) (Es.at_ s.marks (i : Int))) j = true) ⟨⟨rfl, rfl, rfl, rfl⟩, ?_, Grow.refl _, (by omega)⟩ ?_
    · simp only [go_sem, ↓reduceIte, reduceCtorEq, Nat.reduceEqDiff, Nat.reduceLT, Nat.reduceLeDiff, Nat.reduceAdd, Nat.reduceSub, Nat.reduceMul, Nat.reduceGT, Int.reduceNeg, Int.reduceToNat]; rfl
    clear hall
    rintro k e ⟨o, nx⟩ hk ⟨⟨b2, b3, b76, b77⟩, b78, hg, hall⟩
    simp only [go_sem, ↓reduceIte, reduceCtorEq, Nat.reduceEqDiff, Nat.reduceLT, Nat.reduceLeDiff, Nat.reduceAdd, Nat.reduceSub, Nat.reduceMul, Nat.reduceGT, Int.reduceNeg, Int.reduceToNat, a2, a3] at b2 b3 b76 b77
    have g0 := hg.2 0 0 (by show (0:Nat) < 2; decide); have g1 := hg.2 1 0 (by show (1:Nat) < 2; decide); have hn : 2 ≤ nx := hg.1; have n0 : (0 = nx) = False := (by simp only [eq_iff_iff, iff_false]; omega); have n1 : (1 = nx) = False := (by simp only [eq_iff_iff, iff_false]; omega); simp only [go_sem, ↓reduceIte, reduceCtorEq, Nat.reduceEqDiff, Nat.reduceLT, Nat.reduceLeDiff, Nat.reduceAdd, Nat.reduceSub, Nat.reduceMul, Nat.reduceGT, Int.reduceNeg, Int.reduceToNat] at g0 g1
    simp only [go_sem, ↓reduceIte, reduceCtorEq, Nat.reduceEqDiff, Nat.reduceLT, Nat.reduceLeDiff, Nat.reduceAdd, Nat.reduceSub, Nat.reduceMul, Nat.reduceGT, Int.reduceNeg, Int.reduceToNat, b2, b3, b76, b77, b78, g0, g1, n0, n1, a2, a3]
    refine ite_cases (fun hlt => ?_) (fun hlt => ?_)
    · have hlt' : k < s.marks.length := Es.len_lt.1 hlt
      refine ⟨⟨by omega, hlt⟩, ?_⟩
      refine awp_plan ((.op 0 (.op 1 (.op 2 (.op 3 (.op 4 (.op 5 (.op 6 (.op 7 (.op 8 .done)))))))))) [] mix (by kernel_rfl) ?_
      simp only [go_sem, ↓reduceIte, reduceCtorEq, Nat.reduceEqDiff, Nat.reduceLT, Nat.reduceLeDiff, Nat.reduceAdd, Nat.reduceSub, Nat.reduceMul, Nat.reduceGT, Int.reduceNeg, Int.reduceToNat, b2, b3, b76, b77, b78, g0, g1, n0, n1, a2, a3]
      refine ⟨⟨by omega, by rw [← hm]; exact hlt⟩, ?_⟩
      refine call_at M_P M_G (wellFormed_spec c _ _) ?_
      simp only [go_sem, ↓reduceIte, reduceCtorEq, Nat.reduceEqDiff, Nat.reduceLT, Nat.reduceLeDiff, Nat.reduceAdd, Nat.reduceSub, Nat.reduceMul, Nat.reduceGT, Int.reduceNeg, Int.reduceToNat, b2, b3, b76, b77, b78, g0, g1, n0, n1, a2, a3]
      refine ite_cases (fun hw => ?_) (fun hw => ?_)
      · have hbad := Es.allN_bad (p := fun i : Nat => Es.wellFormed c (Es.at_ c.clauses (i : Int)) (Es.at_ s.marks (i : Int))) hlt' (by simpa using hw)
        rw [hV, hbad]; rfl
      · refine ⟨hlt', ?_⟩
        simp only [go_sem, ↓reduceIte, reduceCtorEq, Nat.reduceEqDiff, Nat.reduceLT, Nat.reduceLeDiff, Nat.reduceAdd, Nat.reduceSub, Nat.reduceMul, Nat.reduceGT, Int.reduceNeg, Int.reduceToNat, b2, b3, b76, b77, b78, g0, g1, n0, n1, a2, a3]
        exact ⟨by rw [wrap_i64 _ (by omega) (by omega)]; simp, hg.set hn (by omega), Es.upto_step hall (by simpa using hw)⟩
    · have hB := Es.allN_end (p := fun i : Nat => Es.wellFormed c (Es.at_ c.clauses (i : Int)) (Es.at_ s.marks (i : Int))) (n := s.marks.length) (by simp only [Es.len] at hlt; omega) hall
      rw [hB] at hV
      simp only [Bool.not_true, Bool.false_eq_true, if_false] at hV
      refine awp_count0 s.marks.length (fun e0 s0 k e st => (e 2 = e0 2 ∧ e 3 = e0 3 ∧ e 94 = e0 94 ∧ e 95 = e0 95) ∧ e 96 = .v (.int .i64 k) ∧ st = s0 ∧ ∀ j : Nat, j < k → (fun i : Nat => !Es.ready c s (i : Int)) j = true) ⟨⟨rfl, rfl, rfl, rfl⟩, ?_, rfl, (by omega)⟩ ?_
      · simp only [go_sem, ↓reduceIte, reduceCtorEq, Nat.reduceEqDiff, Nat.reduceLT, Nat.reduceLeDiff, Nat.reduceAdd, Nat.reduceSub, Nat.reduceMul, Nat.reduceGT, Int.reduceNeg, Int.reduceToNat]; rfl
      clear hall
      rintro m e st hm2 ⟨⟨c2, c3, c94, c95⟩, c96, rfl, hall⟩
      simp only [go_sem, ↓reduceIte, reduceCtorEq, Nat.reduceEqDiff, Nat.reduceLT, Nat.reduceLeDiff, Nat.reduceAdd, Nat.reduceSub, Nat.reduceMul, Nat.reduceGT, Int.reduceNeg, Int.reduceToNat, b2, b3, g0, g1, n0, n1, a2, a3] at c2 c3 c94 c95
      simp only [go_sem, ↓reduceIte, reduceCtorEq, Nat.reduceEqDiff, Nat.reduceLT, Nat.reduceLeDiff, Nat.reduceAdd, Nat.reduceSub, Nat.reduceMul, Nat.reduceGT, Int.reduceNeg, Int.reduceToNat, c2, c3, c94, c95, c96, g0, g1, n0, n1]
      refine ite_cases (fun hlt2 => ?_) (fun hlt2 => ?_)
      · have hlt2' : m < s.marks.length := Es.len_lt.1 hlt2
        have hst := Es.clauseOk_start (Es.valid2_clause hv (hm' ▸ hlt2'))
        refine call_at M_P M_G (ready_spec c s m ⟨by omega, hlt2⟩ (by rw [← hm]; exact hlt2) (fun x hx => ?_) (by have := hst.1; simp only [Es.len] at this; omega)) ?_
        · have := hst.2 x hx
          simp only [Es.condOk, Es.under, Bool.and_eq_true, decide_eq_true_eq] at this
          rw [hm]; exact this.1.1
        simp only [go_sem, ↓reduceIte, reduceCtorEq, Nat.reduceEqDiff, Nat.reduceLT, Nat.reduceLeDiff, Nat.reduceAdd, Nat.reduceSub, Nat.reduceMul, Nat.reduceGT, Int.reduceNeg, Int.reduceToNat, c2, c3, c94, c95, c96, g0, g1, n0, n1]
        refine ite_cases (fun hw => ?_) (fun hw => ?_)
        · have hbad := Es.allN_bad (p := fun i : Nat => !Es.ready c s (i : Int)) hlt2' (by simpa using hw)
          rw [hV, hbad]
        · refine ⟨hlt2', ?_⟩
          simp only [go_sem, ↓reduceIte, reduceCtorEq, Nat.reduceEqDiff, Nat.reduceLT, Nat.reduceLeDiff, Nat.reduceAdd, Nat.reduceSub, Nat.reduceMul, Nat.reduceGT, Int.reduceNeg, Int.reduceToNat, c2, c3, c94, c95, c96, g0, g1, n0, n1, b2, b3]
          exact ⟨by rw [wrap_i64 _ (by omega) (by omega)]; simp, Es.upto_step hall (by simpa using hw)⟩
      · have hC := Es.allN_end (p := fun i : Nat => !Es.ready c s (i : Int)) (n := s.marks.length) (by simp only [Es.len] at hlt2; omega) hall
        rw [hV, hC]
end Tryz
end Go.Proofs
end
section
namespace Go.Proofs
open Go Go.Abs
set_option linter.unusedSimpArgs false
set_option maxRecDepth 10000
namespace Tryz
theorem bsearch_spec (l : List Int) (t : Int) (hl : l.length ≤ 4611686018427387903) (hs : ∀ a b : Nat, a < b → b < l.length → Es.at_ l (a : Int) < Es.at_ l (b : Int)) :
    ∃ pos : Int, APure M 78 [slD 1 intC l, .v (.int .i64 t)] (.tup [.v (.int .i64 pos), .v (.bool (l.contains t))]) := by
  obtain ⟨p, hp1, hp2, hp3⟩ : ∃ p : Nat, p ≤ l.length ∧ (∀ a : Nat, a < p → Es.at_ l (a : Int) < t) ∧ (∀ a : Nat, p ≤ a → a < l.length → t ≤ Es.at_ l (a : Int)) := by
    have key : ∀ n : Nat, n ≤ l.length → ∃ p : Nat, p ≤ n ∧ (∀ a : Nat, a < p → Es.at_ l (a : Int) < t) ∧ (∀ a : Nat, p ≤ a → a < n → t ≤ Es.at_ l (a : Int)) := by
      intro n
      induction n with
      | zero => exact fun _ => ⟨0, Nat.le_refl _, fun a h => by omega, fun a h h2 => by omega⟩
      | succ n ih =>
        intro hn
        obtain ⟨p, h1, h2, h3⟩ := ih (by omega)
        by_cases hlt : Es.at_ l (n : Int) < t
        · refine ⟨n + 1, Nat.le_refl _, fun a ha => ?_, fun a h h2 => by omega⟩
          rcases Nat.lt_or_ge a n with h | h
          · have := hs a n h (by omega); omega
          · have : a = n := by omega
            rw [this]; exact hlt
        · refine ⟨p, by omega, h2, fun a ha hb => ?_⟩
          rcases Nat.lt_or_ge a n with h | h
          · exact h3 a ha h
          · have : a = n := by omega
            rw [this]; omega
    exact key l.length (Nat.le_refl _)
  refine ⟨p, ?_⟩
  refine pure_of gpu func78 rfl results78 ntmps78 (by simp) ⟨pu_slD pu_intC _, .v _, trivial⟩ ?_
  intro b
  simp only [go_sem, ↓reduceIte, reduceCtorEq, Nat.reduceEqDiff, Nat.reduceLT, Nat.reduceLeDiff, Nat.reduceAdd, Nat.reduceSub, Nat.reduceMul, Nat.reduceGT, Int.reduceNeg, Int.reduceToNat]
  refine awp_loopA (fun n e s => ∃ i j : Nat, n = j - i ∧ i ≤ p ∧ p ≤ j ∧ j ≤ l.length ∧ e 0 = slD 1 intC l ∧ e 1 = .v (.int .i64 t) ∧ e 6 = .v (.int .i64 (Es.len l)) ∧ e 7 = .v (.int .i64 i) ∧ e 8 = .v (.int .i64 j)) ?_ (n := l.length) ⟨0, l.length, by omega, by omega, hp1, Nat.le_refl _, ?_⟩
  · rintro n e s ⟨i, j, rfl, hi, hj, hjl, h0, h1, h6, h7, h8⟩
    simp only [go_sem, ↓reduceIte, reduceCtorEq, Nat.reduceEqDiff, Nat.reduceLT, Nat.reduceLeDiff, Nat.reduceAdd, Nat.reduceSub, Nat.reduceMul, Nat.reduceGT, Int.reduceNeg, Int.reduceToNat, h0, h1, h6, h7, h8]
    refine ite_cases (fun hlt => ?_) (fun hlt => ?_)
    · have hmid : IntKind.i64.wrap ((IntKind.u64.wrap (IntKind.i64.wrap ((i : Int) + (j : Int)))).fdiv (2 ^ 1)) = (((i + j) / 2 : Nat) : Int) := by
        rw [wrap_i64 ((i : Int) + j) (by omega) (by omega), wrap_u64, Int.emod_eq_of_lt (by omega) (by omega), Int.fdiv_eq_ediv_of_nonneg _ (by omega)]
        rw [wrap_i64 _ (by omega) (by omega)]; omega
      simp only [hmid]
      have hh : (i + j) / 2 < l.length := by omega
      refine ⟨by omega, ⟨by omega, Es.len_lt.2 hh⟩, ?_⟩
      refine call_at M_P M_G (less_spec _ _) ?_
      simp only [go_sem, ↓reduceIte, reduceCtorEq, Nat.reduceEqDiff, Nat.reduceLT, Nat.reduceLeDiff, Nat.reduceAdd, Nat.reduceSub, Nat.reduceMul, Nat.reduceGT, Int.reduceNeg, Int.reduceToNat, h0, h1, h6, h7, h8]
      refine ite_cases (fun hc => ?_) (fun hc => ?_)
      · refine ⟨j - ((i + j) / 2 + 1), by omega, (i + j) / 2 + 1, j, rfl, ?_, hj, hjl, ?_⟩
        · rcases Nat.lt_or_ge ((i + j) / 2) p with h | h
          · exact h
          · have := hp3 _ h hh; omega
        · simp only [go_sem, ↓reduceIte, reduceCtorEq, Nat.reduceEqDiff, Nat.reduceLT, Nat.reduceLeDiff, Nat.reduceAdd, Nat.reduceSub, Nat.reduceMul, Nat.reduceGT, Int.reduceNeg, Int.reduceToNat, h0, h1, h6, h7, h8]
          rw [wrap_i64 _ (by omega) (by omega)]; simp
      · refine ⟨(i + j) / 2 - i, by omega, i, (i + j) / 2, rfl, hi, ?_, by omega, ?_⟩
        · rcases Nat.lt_or_ge ((i + j) / 2) p with h | h
          · have := hp2 _ h; omega
          · exact h
        · simp only [go_sem, ↓reduceIte, reduceCtorEq, Nat.reduceEqDiff, Nat.reduceLT, Nat.reduceLeDiff, Nat.reduceAdd, Nat.reduceSub, Nat.reduceMul, Nat.reduceGT, Int.reduceNeg, Int.reduceToNat, h0, h1, h6, h7, h8]
    · have hij : i = p := by omega
      subst hij
      have fin : ∀ q : Bool, q = l.contains t → Fz s (.tup [.v (.int .i64 i), .v (.bool q)]) (.tup [.v (.int .i64 i), .v (.bool (l.contains t))]) := fun q hq => by
        rw [hq]; exact Fz_tup ⟨.v _, .v _, trivial⟩
      have hcon : l.contains t = (decide ((i : Int) < Es.len l) && (Es.at_ l (i : Int) == t)) := by
        rw [Bool.eq_iff_iff]
        simp only [List.contains_iff_mem, Bool.and_eq_true, decide_eq_true_eq, beq_iff_eq]
        constructor
        · intro hm
          obtain ⟨a, ha, hat⟩ := List.mem_iff_getElem.1 hm
          have hat' : Es.at_ l (a : Int) = t := by rw [Es.at_nat ha]; exact hat
          have : a = i := by
            rcases Nat.lt_trichotomy a i with h | h | h
            · have := hp2 a h; omega
            · exact h
            · have h1 := hs i a h ha
              have h2 := hp3 i (Nat.le_refl _) (by omega)
              omega
          subst this
          exact ⟨Es.len_lt.2 ha, hat'⟩
        · rintro ⟨h1, h2⟩
          have := Es.len_lt.1 h1
          rw [Es.at_nat this] at h2
          exact h2 ▸ List.getElem_mem _
      repeat' (first | ((with_reducible refine call_at M_P M_G (isNaN2_spec _) ?_); simp only [go_sem, ↓reduceIte, reduceCtorEq, Nat.reduceEqDiff, Nat.reduceLT, Nat.reduceLeDiff, Nat.reduceAdd, Nat.reduceSub, Nat.reduceMul, Nat.reduceGT, Int.reduceNeg, Int.reduceToNat]) | (with_reducible refine And.intro ?_ ?_) | ((with_reducible refine ite_cases ?_ ?_) <;> intro _))
      all_goals first
        | omega
        | (refine fin _ ?_; rw [hcon]; simp [*]; done)
        | (have hq : (Es.at_ l (i : Int) == t) = true := by simpa using ‹¬ (Es.at_ l (i : Int) == t) = false›
           refine fin _ ?_; rw [hcon, hq]; simp [*]; done)
  · simp only [go_sem, ↓reduceIte, reduceCtorEq, Nat.reduceEqDiff, Nat.reduceLT, Nat.reduceLeDiff, Nat.reduceAdd, Nat.reduceSub, Nat.reduceMul, Nat.reduceGT, Int.reduceNeg, Int.reduceToNat]; exact ⟨rfl, rfl⟩
end Tryz
end Go.Proofs
end
section
namespace Go.Proofs
open Go Go.Abs
set_option linter.unusedSimpArgs false
set_option maxRecDepth 10000
namespace Tryz
open Es (runs met met_succ met_length met_at)
/-- What a day's loop owns. -/
structure TickJ (o : St) (nx : Nat) (c : Es.Contract) (s : Es.State) (fh fu fm : Nat) (tm bt : TypeId) (rd : SObj) (ms : List Es.Mark) (st : S) : Prop where
  nxt : nx + 6 ≤ st.nx
  mrk : st.o fm 0 = some (.blk 5 s.marks.length tm (rowsOf mrkC ms))
  len : ms.length = s.marks.length
  off : st.o (nx + 2) 0 = some (.blk 1 1 bt (rowOf [.v (.bool (c.off.contains s.day))]))
  con : st.o (nx + 3) 0 = some (.blk 7 1 27 (rowOf [.v (.int .i64 c.parties), slD 1 intC c.holders, slD 5 untC c.units, slD 7 actC c.acts, slD 16 clsC c.clauses, .v (.int .i64 c.days), slD 1 intC c.off]))
  sta : st.o (nx + 4) 0 = some (.blk 4 1 38 (rowOf [.v (.int .i64 s.day), .ms fh 0 1 0 s.holders.length, .ms fu 0 1 0 s.used.length, .ms fm 0 5 0 s.marks.length]))
  rcd : st.o (nx + 5) 0 = some rd
  old : ∀ f i, f < nx → ¬ (f = fm ∧ i = 0) → st.o f i = o f i
theorem tickJ {o : St} {nx : Nat} {c : Es.Contract} {s : Es.State} {fh fu fm : Nat} {tm bt : TypeId} {rd : SObj} (hf : fm < nx) : RunJ c s.day fh s.holders.length fu s.used.length fm s.marks.length (nx + 3) (nx + 4) (nx + 6) tm (TickJ o nx c s fh fu fm tm bt rd) where
  mrk _ _ h := ⟨h.mrk, h.len⟩
  con _ _ h := h.con
  sta _ _ h := h.sta
  nxt _ _ h := h.nxt
  same ms st st' h hn hs := ⟨Nat.le_trans h.nxt hn, (hs fm 0 (by omega)).trans h.mrk, h.len, (hs _ 0 (by omega)).trans h.off, (hs _ 0 (by omega)).trans h.con, (hs _ 0 (by omega)).trans h.sta, (hs _ 0 (by omega)).trans h.rcd,
    fun f i hf' hne => (hs f i (by omega)).trans (h.old f i hf' hne)⟩
  lt := ⟨by omega, by omega, by omega⟩
theorem tickJ_end {o o2 o3 : St} {nx nx2 n3 : Nat} {c : Es.Contract} {s : Es.State} {fh fu fm : Nat} {tm bt : TypeId} {rd : SObj} {ms ms' : List Es.Mark} (h : TickJ o nx c s fh fu fm tm bt rd ms ⟨o2, nx2⟩) (hf : fm < nx) (hn : nx2 ≤ n3) (hm : o3 fm 0 = some (.blk 5 s.marks.length tm (rowsOf mrkC ms')))
    (hl : ms'.length = s.marks.length) (ho : ∀ f j, f < nx2 → ¬ (f = fm ∧ j = 0) → ¬ (f = nx + 5 ∧ j = 0) → o3 f j = o2 f j) :
    TickJ o nx c s fh fu fm tm bt rd ms' ⟨St.set o3 (nx + 5) 0 (some rd), n3⟩ ∧ nx2 ≤ n3 ∧ ∀ f j, nx + 6 ≤ f → f < nx2 → St.set o3 (nx + 5) 0 (some rd) f j = o2 f j := by
  have hx := h.nxt
  simp only at hx
  have hs : ∀ f j, f < nx2 → ¬ (f = fm ∧ j = 0) → ¬ (f = nx + 5 ∧ j = 0) → St.set o3 (nx + 5) 0 (some rd) f j = o2 f j := fun f j h1 h2 h3 => by
    simp only [St.set]; rw [if_neg h3]; exact ho f j h1 h2 h3
  refine ⟨⟨by simp only; omega, by simp only [St.set]; rw [if_neg (by omega)]; exact hm, hl, (hs _ 0 (by omega) (by omega) (by omega)).trans h.off, (hs _ 0 (by omega) (by omega) (by omega)).trans h.con, (hs _ 0 (by omega) (by omega) (by omega)).trans h.sta,
    by simp [St.set], fun f i hf' hne => (hs f i (by omega) hne (by omega)).trans (h.old f i hf' hne)⟩, hn, fun f j h1 h2 => hs f j h2 (by omega) (by omega)⟩
theorem tick_spec (X : D → Value → Prop) (N : Nat) (r : Option Nat) (b : Nat) (c : Es.Contract) (s : Es.State) (fh fu fm : Nat) (th tu tm : TypeId) (o : St) (nx : Nat) (K : D → S → Prop) (hs : HasSt o fh fu fm th tu tm s) (hx : fh < nx ∧ fu < nx ∧ fm < nx ∧ fh ≠ fm ∧ fu ≠ fm)
    (hm : s.marks.length = c.clauses.length) (hl : c.clauses.length ≤ 400) (ho : c.off.length ≤ 4611686018427387903) (hso : ∀ a b : Nat, a < b → b < c.off.length → Es.at_ c.off (a : Int) < Es.at_ c.off (b : Int))
    (hkd : ∀ i : Nat, i < c.clauses.length → (Es.at_ c.clauses (i : Int)).kind = 1 ∨ (Es.at_ c.clauses (i : Int)).kind = 2 ∨ (Es.at_ c.clauses (i : Int)).kind = 3 ∨ (Es.at_ c.clauses (i : Int)).kind = 4)
    (hleft : ∀ i : Nat, i < c.clauses.length → runs (Es.at_ s.marks (i : Int)) = true → 1 ≤ (Es.at_ s.marks (i : Int)).left ∧ (Es.at_ s.marks (i : Int)).left ≤ 400)
    (hk : ∀ o' nx', Wrote o nx fm tm (met (Es.dayMark c s) s.marks c.clauses.length) o' nx' → K (.tup []) ⟨o', nx'⟩) :
    ACall { P := prog, G := gl, X := X, N := N, r := r, b := b } 63 [conD c, stO s.day fh s.holders.length fu s.used.length fm s.marks.length] ⟨o, nx⟩ K := by
  obtain ⟨pos, hbs⟩ := bsearch_spec c.off s.day ho hso
  refine acall_ofA (M := { P := prog, G := gl, X := X, N := N, r := r, b := b }) func63 rfl results63 ntmps63 (by simp) fun b => ?_
  simp only [go_sem, ↓reduceIte, reduceCtorEq, Nat.reduceEqDiff, Nat.reduceLT, Nat.reduceLeDiff, Nat.reduceAdd, Nat.reduceSub, Nat.reduceMul, Nat.reduceGT, Int.reduceNeg, Int.reduceToNat]
  have g1 : (nx = nx + 1) = False := by simp only [eq_iff_iff, iff_false]; omega
  simp only [go_sem, ↓reduceIte, reduceCtorEq, Nat.reduceEqDiff, Nat.reduceLT, Nat.reduceLeDiff, Nat.reduceAdd, Nat.reduceSub, Nat.reduceMul, Nat.reduceGT, Int.reduceNeg, Int.reduceToNat, g1]
  refine call_at M_P M_G hbs ?_
  have g2 : (nx = nx + 1 + 1) = False := by simp only [eq_iff_iff, iff_false]; omega
  have g3 : (nx + 1 = nx + 1 + 1) = False := by simp only [eq_iff_iff, iff_false]; omega
  simp only [go_sem, ↓reduceIte, reduceCtorEq, Nat.reduceEqDiff, Nat.reduceLT, Nat.reduceLeDiff, Nat.reduceAdd, Nat.reduceSub, Nat.reduceMul, Nat.reduceGT, Int.reduceNeg, Int.reduceToNat, g1, g2, g3]
  refine running_spec _ _ _ _ c s.day fh s.holders.length fu s.used.length fm s.marks.length _ _ _ ?_
  simp only [go_sem, ↓reduceIte, reduceCtorEq, Nat.reduceEqDiff, Nat.reduceLT, Nat.reduceLeDiff, Nat.reduceAdd, Nat.reduceSub, Nat.reduceMul, Nat.reduceGT, Int.reduceNeg, Int.reduceToNat, g1, g2, g3]
  refine awp_rangeFunc rfl (by simp) (gf := 96) (caps := [.mp (nx + 3 + 1) 0 4 0 0, .mp (nx + 3) 0 7 0 0]) (by simp only [go_sem, ↓reduceIte, reduceCtorEq, Nat.reduceEqDiff, Nat.reduceLT, Nat.reduceLeDiff, Nat.reduceAdd, Nat.reduceSub, Nat.reduceMul, Nat.reduceGT, Int.reduceNeg, Int.reduceToNat]) (by simp only [go_sem, ↓reduceIte, reduceCtorEq, Nat.reduceEqDiff, Nat.reduceLT, Nat.reduceLeDiff, Nat.reduceAdd, Nat.reduceSub, Nat.reduceMul, Nat.reduceGT, Int.reduceNeg, Int.reduceToNat]) ?_
  intro X2 l rd bz dn hround
  refine running1_spec X2 _ _ _ l c s.day fh s.holders.length fu s.used.length fm s.marks.length (nx + 3) (nx + 4) (nx + 6) tm (TickJ o nx c s fh fu fm tm 4 rd) (tickJ hx.2.2.1) hm (by omega) (Es.dayMark c s) s.marks ?_ _ ?_ _ ?_
  · intro N' b' i st hi hJ hr
    refine around_ctx (hround _ _ _ (by simp) hJ.rcd ?_)
    refine wpA_sound _ _ _ _ ?_
    have j1 := hJ.mrk
    have j2 := hJ.off
    have j3 := hJ.con
    have j4 := hJ.sta
    have j5 := hJ.rcd
    have j6 := hJ.nxt
    have j7 := hJ.len
    obtain ⟨o2, nx2⟩ := st
    simp only at j1 j2 j3 j4 j5 j6
    have e0 : ∀ {a b : Nat}, a ≠ b → (a = b) = False := fun h => by simp [h]
    have k1 : (nx + 1 + 1 + 1 + 1 + 1 = nx2) = False := e0 (by omega)
    have k2 : (fm = nx2) = False := e0 (by omega)
    have k3 : (nx2 = fm) = False := e0 (by omega)
    have k4 : (nx + 1 + 1 = nx2) = False := e0 (by omega)
    have k5 : (fm = nx + 1 + 1 + 1 + 1 + 1) = False := e0 (by omega)
    have k6 : (nx2 = nx + 1 + 1 + 1 + 1 + 1) = False := e0 (by omega)
    have k7 : (nx + 1 + 1 = nx + 1 + 1 + 1 + 1 + 1) = False := e0 (by omega)
    have k8 : (nx + 1 + 1 = fm) = False := e0 (by omega)
    have k9 : (nx + 1 + 1 + 1 + 1 + 1 = fm) = False := e0 (by omega)
    simp only [go_sem, ↓reduceIte, reduceCtorEq, Nat.reduceEqDiff, Nat.reduceLT, Nat.reduceLeDiff, Nat.reduceAdd, Nat.reduceSub, Nat.reduceMul, Nat.reduceGT, Int.reduceNeg, Int.reduceToNat, envAt, k1, j5]
    refine wpA_sound _ _ _ _ ?_
    have hlft := hleft i (by omega) (by rw [met_at _ _ _ _ (Nat.le_refl _)] at hr; exact hr)
    rw [← met_at (Es.dayMark c s) s.marks i i (Nat.le_refl _)] at hlft
    have him : i < (met (Es.dayMark c s) s.marks i).length := by rw [met_length]; exact hi
    generalize hms : met (Es.dayMark c s) s.marks i = ms at *
    have hwr : IntKind.i64.wrap ((Es.at_ ms (i : Int)).left - 1) = (Es.at_ ms (i : Int)).left - 1 := wrap_i64 _ (by omega) (by omega)
    simp only [go_sem, ↓reduceIte, reduceCtorEq, Nat.reduceEqDiff, Nat.reduceLT, Nat.reduceLeDiff, Nat.reduceAdd, Nat.reduceSub, Nat.reduceMul, Nat.reduceGT, Int.reduceNeg, Int.reduceToNat, j1, j2, k1, k2, k3, k4, k5, k6, k7, k8, k9, him, hi, setC_mrk1, at_set, List.length_set, List.set_set, hwr]
    have hend : ∀ (o3 : St) (n3 : Nat) (m' : Es.Mark), m' = Es.dayMark c s i (Es.at_ ms (i : Int)) → nx2 ≤ n3 → o3 fm 0 = some (.blk 5 s.marks.length tm (rowsOf mrkC (ms.set i m'))) → (∀ f j, f < nx2 → ¬ (f = fm ∧ j = 0) → ¬ (f = nx + 5 ∧ j = 0) → o3 f j = o2 f j) →
        TickJ o nx c s fh fu fm tm 4 rd (ms.set i (Es.dayMark c s i (Es.at_ ms (i : Int)))) ⟨St.set o3 (nx + 5) 0 (some rd), n3⟩ ∧ nx2 ≤ n3 ∧ ∀ f j, nx + 6 ≤ f → f < nx2 → St.set o3 (nx + 5) 0 (some rd) f j = o2 f j := fun o3 n3 m' hm' h1 h2 h3 => by
      rw [← hm']; exact tickJ_end hJ hx.2.2.1 h1 h2 (by simpa using j7) h3
    have hA : Es.dayMark c s i (Es.at_ ms (i : Int)) = Es.at_ ms (i : Int) → ∀ B, TickJ o nx c s fh fu fm tm 4 rd (ms.set i (Es.dayMark c s i (Es.at_ ms (i : Int)))) ⟨St.set (St.set o2 nx2 0 B) (nx + 5) 0 (some rd), nx2 + 1⟩ ∧ nx2 ≤ nx2 + 1 ∧ ∀ f j, nx + 6 ≤ f → f < nx2 → St.set (St.set o2 nx2 0 B) (nx + 5) 0 (some rd) f j = o2 f j := fun h B =>
      hend _ _ _ h.symm (Nat.le_succ _) (by simp only [St.set]; rw [if_neg (by omega), set_at him]; exact j1) (fun f j h1 h2 h3 => by simp only [St.set]; rw [if_neg (by omega)])
    refine ite_cases (fun hp => ?_) (fun hp => ?_)
    · refine ite_cases (fun hb => ?_) (fun hb => ?_)
      · refine ite_cases (fun ho2 => ?_) (fun ho2 => ?_)
        · exact hA (by unfold Es.dayMark; rw [if_pos (by simp_all)]) _
        · (have hdm : Es.dayMark c s i (Es.at_ ms (i : Int)) = if (Es.at_ ms (i : Int)).left - 1 == 0 then Es.older (Es.at_ c.clauses (i : Int)) { Es.at_ ms (i : Int) with left := (Es.at_ ms (i : Int)).left - 1 } else { Es.at_ ms (i : Int) with left := (Es.at_ ms (i : Int)).left - 1 } := by
             unfold Es.dayMark; rw [if_neg (by simp_all)]
           refine ite_cases (fun hz => ?_) (fun hz => ?_)
           · rw [if_pos hz] at hdm
             refine awp_plan ((.op 0 (.op 1 (.op 2 (.op 4 (.op 3 (.op 5 .done))))))) [5] mix (by kernel_rfl) ?_
             simp only [go_sem, ↓reduceIte, reduceCtorEq, Nat.reduceEqDiff, Nat.reduceLT, Nat.reduceLeDiff, Nat.reduceAdd, Nat.reduceSub, Nat.reduceMul, Nat.reduceGT, Int.reduceNeg, Int.reduceToNat, j1, j2, k1, k2, k3, k4, k5, k6, k7, k8, k9, hi]
             refine call_at M_P M_G (elapsed_spec _ (hkd i (by omega))) ?_
             simp only [go_sem, ↓reduceIte, reduceCtorEq, Nat.reduceEqDiff, Nat.reduceLT, Nat.reduceLeDiff, Nat.reduceAdd, Nat.reduceSub, Nat.reduceMul, Nat.reduceGT, Int.reduceNeg, Int.reduceToNat, j1, j2, k1, k2, k3, k4, k5, k6, k7, k8, k9, hi]
             refine aged_spec _ _ _ _ _ fm i tm (ms.set i { Es.at_ ms (i : Int) with left := (Es.at_ ms (i : Int)).left - 1 }) _ _ _ (hkd i (by omega)) (by omega) (by simp [St.set, j7]) (by simpa using him) fun o3 n3 hw => ?_
             rw [at_set him, List.set_set] at hw
             simp only [go_sem, ↓reduceIte, reduceCtorEq, Nat.reduceEqDiff, Nat.reduceLT, Nat.reduceLeDiff, Nat.reduceAdd, Nat.reduceSub, Nat.reduceMul, Nat.reduceGT, Int.reduceNeg, Int.reduceToNat, k1, k2, k3, k4, k5, k6, k7, k8, k9]
             refine ⟨?_, hend o3 n3 _ hdm.symm (by have := hw.1; omega) (by have := hw.2.1; rw [List.length_set, j7] at this; exact this) (fun f j h1 h2 h3 => by rw [hw.2.2 f j (by omega) h2]; simp only [St.set]; rw [if_neg (by omega), if_neg (by omega), if_neg (by omega)])⟩
             rw [hw.2.2 _ 0 (by omega) (by omega)]
             simp only [St.set]; rw [if_neg (by omega), if_pos ⟨trivial, trivial⟩]
           · rw [if_neg hz] at hdm
             exact hend _ _ _ hdm.symm (Nat.le_succ _) (by simp only [St.set]; rw [if_pos ⟨trivial, trivial⟩]) (fun f j h1 h2 h3 => by simp only [St.set]; rw [if_neg (by omega), if_neg (by omega), if_neg (by omega)]))
      · (have hdm : Es.dayMark c s i (Es.at_ ms (i : Int)) = if (Es.at_ ms (i : Int)).left - 1 == 0 then Es.older (Es.at_ c.clauses (i : Int)) { Es.at_ ms (i : Int) with left := (Es.at_ ms (i : Int)).left - 1 } else { Es.at_ ms (i : Int) with left := (Es.at_ ms (i : Int)).left - 1 } := by
           unfold Es.dayMark; rw [if_neg (by simp_all)]
         refine ite_cases (fun hz => ?_) (fun hz => ?_)
         · rw [if_pos hz] at hdm
           refine awp_plan ((.op 0 (.op 1 (.op 2 (.op 4 (.op 3 (.op 5 .done))))))) [5] mix (by kernel_rfl) ?_
           simp only [go_sem, ↓reduceIte, reduceCtorEq, Nat.reduceEqDiff, Nat.reduceLT, Nat.reduceLeDiff, Nat.reduceAdd, Nat.reduceSub, Nat.reduceMul, Nat.reduceGT, Int.reduceNeg, Int.reduceToNat, j1, j2, k1, k2, k3, k4, k5, k6, k7, k8, k9, hi]
           refine call_at M_P M_G (elapsed_spec _ (hkd i (by omega))) ?_
           simp only [go_sem, ↓reduceIte, reduceCtorEq, Nat.reduceEqDiff, Nat.reduceLT, Nat.reduceLeDiff, Nat.reduceAdd, Nat.reduceSub, Nat.reduceMul, Nat.reduceGT, Int.reduceNeg, Int.reduceToNat, j1, j2, k1, k2, k3, k4, k5, k6, k7, k8, k9, hi]
           refine aged_spec _ _ _ _ _ fm i tm (ms.set i { Es.at_ ms (i : Int) with left := (Es.at_ ms (i : Int)).left - 1 }) _ _ _ (hkd i (by omega)) (by omega) (by simp [St.set, j7]) (by simpa using him) fun o3 n3 hw => ?_
           rw [at_set him, List.set_set] at hw
           simp only [go_sem, ↓reduceIte, reduceCtorEq, Nat.reduceEqDiff, Nat.reduceLT, Nat.reduceLeDiff, Nat.reduceAdd, Nat.reduceSub, Nat.reduceMul, Nat.reduceGT, Int.reduceNeg, Int.reduceToNat, k1, k2, k3, k4, k5, k6, k7, k8, k9]
           refine ⟨?_, hend o3 n3 _ hdm.symm (by have := hw.1; omega) (by have := hw.2.1; rw [List.length_set, j7] at this; exact this) (fun f j h1 h2 h3 => by rw [hw.2.2 f j (by omega) h2]; simp only [St.set]; rw [if_neg (by omega), if_neg (by omega), if_neg (by omega)])⟩
           rw [hw.2.2 _ 0 (by omega) (by omega)]
           simp only [St.set]; rw [if_neg (by omega), if_pos ⟨trivial, trivial⟩]
         · rw [if_neg hz] at hdm
           exact hend _ _ _ hdm.symm (Nat.le_succ _) (by simp only [St.set]; rw [if_pos ⟨trivial, trivial⟩]) (fun f j h1 h2 h3 => by simp only [St.set]; rw [if_neg (by omega), if_neg (by omega), if_neg (by omega)]))
    · exact hA (by unfold Es.dayMark; rw [if_pos (by simp_all)]) _
  · refine ⟨Nat.le_refl _, ?_, rfl, ?_, ?_, ?_, ?_, ?_⟩
    · simp only [S.push, St.set]
      repeat rw [if_neg (by omega)]
      exact hs.m
    · simp only [S.push, St.set]
      repeat first | rw [if_neg (by omega)] | rw [if_pos ⟨trivial, trivial⟩]
    · simp only [S.push, St.set]
      repeat first | rw [if_neg (by omega)] | rw [if_pos ⟨trivial, trivial⟩]
    · simp only [S.push, St.set]
      repeat first | rw [if_neg (by omega)] | rw [if_pos ⟨trivial, trivial⟩]
    · simp only [S.push, St.set]
      repeat first | rw [if_neg (by omega)] | rw [if_pos ⟨trivial, trivial⟩]
    · intro f j hf hne
      simp only [S.push, St.set]
      repeat rw [if_neg (by omega)]
  · intro st hJ
    refine .inl ⟨hJ.rcd, ?_⟩
    obtain ⟨o3, n3⟩ := st
    simp only [go_sem, ↓reduceIte, reduceCtorEq, Nat.reduceEqDiff, Nat.reduceLT, Nat.reduceLeDiff, Nat.reduceAdd, Nat.reduceSub, Nat.reduceMul, Nat.reduceGT, Int.reduceNeg, Int.reduceToNat]
    have := hJ.nxt
    simp only at this
    rw [hm] at hJ
    refine hk _ _ ⟨by omega, ?_, fun f j hf hne => ?_⟩
    · simp only [St.set]; rw [if_neg (by omega)]
      have h1 := hJ.mrk
      have h2 := hJ.len
      rw [h2]; exact h1
    · simp only [St.set]; rw [if_neg (by omega)]; exact hJ.old f j hf hne
end Tryz
end Go.Proofs
end
section
namespace Go.Proofs
open Go Go.Abs
set_option linter.unusedSimpArgs false
set_option linter.unusedVariables false
set_option maxRecDepth 10000
namespace Tryz
open Es (runs met met_succ met_length met_at)
/-- What an act's execution leaves. -/
structure Did (o : St) (nx fh fu fm : Nat) (th tu tm : TypeId) (s : Es.State) (o' : St) (nx' : Nat) : Prop where
  nxt : nx ≤ nx'
  has : HasSt o' fh fu fm th tu tm s
  old : ∀ f i, f < nx → ¬ (f = fm ∧ i = 0) → ¬ (f = fh ∧ i = 0) → ¬ (f = fu ∧ i = 0) → o' f i = o f i
theorem setC_one {α : Type} [Inhabited α] {f : α → Nat → D} {l : List α} {r : Nat} (hr : r < l.length) (d : D) (v : α) (h0 : f v 0 = d) (hf : ∀ a c, f a (c + 1) = .any) : setC (rowsOf f l) r 0 [d] = rowsOf f (l.set r v) := by
  funext r' c'
  simp only [setC, rowsOf, List.length_cons, List.length_nil]
  by_cases hr' : r' = r
  · subst hr'
    simp only [List.getD_eq_getElem?_getD, List.getElem?_set, hr, if_true, Option.getD_some, true_and]
    cases c' with
    | zero => rw [if_pos (by omega), h0]; rfl
    | succ c' => rw [if_neg (by omega), hf, hf]
  · rw [if_neg (by omega)]
    simp only [List.getD_eq_getElem?_getD, List.getElem?_set, if_neg (Ne.symm hr')]
theorem setC_int {l : List Int} {r : Nat} (hr : r < l.length) (v : Int) : setC (rowsOf intC l) r 0 [.v (.int .i64 v)] = rowsOf intC (l.set r v) := setC_one hr _ v rfl fun _ _ => rfl
theorem setC_boo {l : List Bool} {r : Nat} (hr : r < l.length) (v : Bool) : setC (rowsOf booC l) r 0 [.v (.bool v)] = rowsOf booC (l.set r v) := setC_one hr _ v rfl fun _ _ => rfl
/-- Where the act, its doer and the arguments lie. -/
structure DoR (c : Es.Contract) (s : Es.State) (act : Int) (fh fu fm : Nat) (o : St) (nx : Nat) (f6 f7 : Nat) (e : Env) (st : S) : Prop where
  nxt : nx + 3 ≤ f6 ∧ f6 < st.nx ∧ nx + 3 ≤ f7 ∧ f7 < st.nx ∧ f6 ≠ f7
  e3 : e 3 = .mp nx 0 7 0 0
  e4 : e 4 = .mp (nx + 1) 0 4 0 0
  e5 : e 5 = .mp (nx + 2) 0 1 0 0
  e6 : e 6 = .mp f6 0 7 0 0
  e7 : e 7 = .mp f7 0 1 0 0
  con : st.o nx 0 = some (.blk 7 1 27 (rowOf [.v (.int .i64 c.parties), slD 1 intC c.holders, slD 5 untC c.units, slD 7 actC c.acts, slD 16 clsC c.clauses, .v (.int .i64 c.days), slD 1 intC c.off]))
  sta : st.o (nx + 1) 0 = some (.blk 4 1 38 (rowOf [.v (.int .i64 s.day), .ms fh 0 1 0 s.holders.length, .ms fu 0 1 0 s.used.length, .ms fm 0 5 0 s.marks.length]))
  arg : st.o (nx + 2) 0 = some (.blk 1 1 3 (rowOf [.v (.int .i64 act)]))
  a : st.o f6 0 = some (.blk 7 1 80 (rowOf [.v (.int .i64 (Es.at_ c.acts act).kind), .v (.int .i64 (Es.at_ c.acts act).role), .v (.int .i64 (Es.at_ c.acts act).give), .v (.int .i64 (Es.at_ c.acts act).to), .v (.int .i64 (Es.at_ c.acts act).unit), .v (.int .i64 (Es.at_ c.acts act).lot.num), .v (.int .i64 (Es.at_ c.acts act).lot.den)]))
  who : st.o f7 0 = some (.blk 1 1 3 (rowOf [.v (.int .i64 (Es.doer c s act))]))
  old : ∀ f i, f < nx → st.o f i = o f i
set_option maxHeartbeats 4000000 in
theorem do_spec (X : D → Value → Prop) (N : Nat) (r : Option Nat) (b : Nat) (c : Es.Contract) (s : Es.State) (act : Int) (fh fu fm : Nat) (th tu tm : TypeId) (o : St) (nx : Nat) (K : D → S → Prop) (hs : HasSt o fh fu fm th tu tm s) (hx : fh < nx ∧ fu < nx ∧ fm < nx ∧ fh ≠ fm ∧ fu ≠ fm ∧ fh ≠ fu)
    (hm : s.marks.length = c.clauses.length) (hl : c.clauses.length ≤ 400) (hu : s.used.length = c.acts.length) (ha : 0 ≤ act ∧ act < Es.len c.acts)
    (hrole : (Es.at_ c.acts act).role ≠ -1 → 0 ≤ (Es.at_ c.acts act).role ∧ (Es.at_ c.acts act).role < Es.len s.holders)
    (hgive : (Es.at_ c.acts act).kind ≠ 1 → 0 ≤ (Es.at_ c.acts act).give ∧ (Es.at_ c.acts act).give < Es.len s.holders)
    (hkd : ∀ i : Nat, i < c.clauses.length → (Es.at_ c.clauses (i : Int)).kind = 1 ∨ (Es.at_ c.clauses (i : Int)).kind = 2 ∨ (Es.at_ c.clauses (i : Int)).kind = 3 ∨ (Es.at_ c.clauses (i : Int)).kind = 4)
    (hgot : ∀ i : Nat, i < c.clauses.length → runs (Es.at_ s.marks (i : Int)) = true → 0 ≤ (Es.at_ s.marks (i : Int)).got ∧ (Es.at_ s.marks (i : Int)).got ≤ 9)
    (hk : ∀ o' nx', Did o nx fh fu fm th tu tm (Es.doS c s act) o' nx' → K (.tup []) ⟨o', nx'⟩) :
    ACall { P := prog, G := gl, X := X, N := N, r := r, b := b } 64 [conD c, stO s.day fh s.holders.length fu s.used.length fm s.marks.length, .v (.int .i64 act)] ⟨o, nx⟩ K := by
  refine acall_wf fun hw => ?_
  simp only at hw
  refine acall_ofA (M := { P := prog, G := gl, X := X, N := N, r := r, b := b }) func64 rfl results64 ntmps64 (by simp) fun b => ?_
  simp only [go_sem, ↓reduceIte, reduceCtorEq, Nat.reduceEqDiff, Nat.reduceLT, Nat.reduceLeDiff, Nat.reduceAdd, Nat.reduceSub, Nat.reduceMul, Nat.reduceGT, Int.reduceNeg, Int.reduceToNat]
  have e0 : ∀ {a b : Nat}, a ≠ b → (a = b) = False := fun h => by simp [h]
  have g1 : (nx = nx + 1) = False := e0 (by omega)
  have g2 : (nx = nx + 1 + 1) = False := e0 (by omega)
  have g3 : (nx + 1 = nx + 1 + 1) = False := e0 (by omega)
  refine AWp.mono (Q := fun x e1 s1 => x = .normal ∧ (∃ f6 f7, DoR c s act fh fu fm o nx f6 f7 e1 s1)) ?_ ?_
  · refine awp_plan ((.op 0 (.op 1 (.op 2 (.op 3 (.op 4 (.op 5 (.op 6 (.op 7 (.alt 8 (.alt 9 (.op 10 (.op 11 (.op 12 .done))) (.alt 10 (.op 9 (.op 11 (.op 12 .done))) .dead)) (.alt 9 (.alt 8 (.op 10 (.op 11 (.op 12 .done))) (.alt 10 (.op 8 (.op 11 (.op 12 .done))) .dead)) (.alt 10 (.alt 8 (.op 9 (.op 11 (.op 12 .done))) (.alt 9 (.op 8 (.op 11 (.op 12 .done))) .dead)) .dead)))))))))))) [11, 12] mix (by kernel_rfl) ?_
    have hd := doer_spec c s act ha hrole
    simp only [go_sem, ↓reduceIte, reduceCtorEq, Nat.reduceEqDiff, Nat.reduceLT, Nat.reduceLeDiff, Nat.reduceAdd, Nat.reduceSub, Nat.reduceMul, Nat.reduceGT, Int.reduceNeg, Int.reduceToNat, g1, g2, g3]
    refine ⟨ha, ?_⟩
    have h2 : (nx + 1 + 1 + 1 = nx + 1 + 1 + 1 + 1) = False := e0 (by omega)
    have h3 : (nx + 1 + 1 + 1 + 1 = nx + 1 + 1 + 1) = False := e0 (by omega)
    have hH : ∀ o', SameB nx o o' → HasSt o' fh fu fm th tu tm s := fun o' h => ⟨(h fh 0 hx.1).trans hs.h, (h fu 0 hx.2.1).trans hs.u, (h fm 0 hx.2.2.1).trans hs.m⟩
    have hB : ∀ {o' : St} {f : Nat} {i : Nat} {B : Option SObj}, nx ≤ f → SameB nx o o' → SameB nx o (St.set o' f i B) := fun hf h => h.set hf _ _
    repeat' (first | ((with_reducible apply lend_at M_P M_G (hd) gpu (Flat.v _)); (exact ⟨(pu_conD _).fz, (hH _ (by (repeat (refine hB (by omega) ?_)); exact SameB.refl _ _)).fz, .v _, trivial⟩); simp only [go_sem, ↓reduceIte, reduceCtorEq, Nat.reduceEqDiff, Nat.reduceLT, Nat.reduceLeDiff, Nat.reduceAdd, Nat.reduceSub, Nat.reduceMul, Nat.reduceGT, Int.reduceNeg, Int.reduceToNat, g1, g2, g3, h2, h3]) | (with_reducible refine And.intro ?_ ?_) | ((with_reducible refine ite_cases ?_ ?_) <;> intro _))
    all_goals first
      | (refine keeps_set ?_; (repeat rw [set_ne (by omega)]); exact hw _ _ (by omega))
      | (refine ⟨_, _, ⟨?_, rfl, rfl, rfl, rfl, rfl, ?_, ?_, ?_, ?_, ?_, ?_⟩⟩
         · simp only; omega
         · dsimp only; repeat (first | rw [set_eq] | rw [set_ne (by omega)])
         · dsimp only; repeat (first | rw [set_eq] | rw [set_ne (by omega)])
         · dsimp only; repeat (first | rw [set_eq] | rw [set_ne (by omega)])
         · dsimp only; repeat (first | rw [set_eq] | rw [set_ne (by omega)])
         · dsimp only; (repeat (first | rw [set_eq] | rw [set_ne (by omega)])); rfl
         · intro f i hf; dsimp only; repeat rw [set_ne (by omega)])
  · rintro x e1 ⟨o1, n1⟩ ⟨rfl, f6, f7, ⟨k0, k3, k4, k5, k6, k7, kc, ks, ka, kA, kw, ko⟩⟩
    simp only at k0 kc ks ka kA kw ko
    have hu1 : o1 fu 0 = some (.blk 1 s.used.length tu (rowsOf booC s.used)) := (ko fu 0 hx.2.1).trans hs.u
    have hal : act < (s.used.length : Int) := by have := ha.2; simp only [Es.len] at this; omega
    simp only [thenA, go_sem, ↓reduceIte, reduceCtorEq, Nat.reduceEqDiff, Nat.reduceLT, Nat.reduceLeDiff, Nat.reduceAdd, Nat.reduceSub, Nat.reduceMul, Nat.reduceGT, Int.reduceNeg, Int.reduceToNat, k3, k4, k5, k6, k7, kc, ks, ka, kA, kw, hu1]
    refine ⟨⟨ha.1, hal⟩, by omega, ?_⟩
    rw [show Es.at_ s.used ((0 + act.toNat : Nat) : Int) = Es.at_ s.used act by rw [Nat.zero_add, Es.at_nn]]
    have hol : HasSt o1 fh fu fm th tu tm s := ⟨(ko _ _ hx.1).trans hs.h, hu1, (ko _ _ hx.2.2.1).trans hs.m⟩
    refine ite_cases (fun hus => ?_) (fun hus => ?_)
    · refine hk _ _ ⟨by omega, ?_, fun f i hf _ _ _ => ko f i hf⟩
      rw [show Es.doS c s act = s by unfold Es.doS; rw [if_pos hus]]
      exact hol
    refine running_spec _ _ _ _ c s.day fh s.holders.length fu s.used.length fm s.marks.length _ _ _ ?_
    simp only [go_sem, ↓reduceIte, reduceCtorEq, Nat.reduceEqDiff, Nat.reduceLT, Nat.reduceLeDiff, Nat.reduceAdd, Nat.reduceSub, Nat.reduceMul, Nat.reduceGT, Int.reduceNeg, Int.reduceToNat, k3, k4, k5, k6, k7]
    refine run_loop (n1 := n1) c s.day fh s.holders.length fu s.used.length fm s.marks.length tm (Es.actMark c act (Es.doer c s act)) s.marks (by decide) (by simp only [go_sem, ↓reduceIte, reduceCtorEq, Nat.reduceEqDiff, Nat.reduceLT, Nat.reduceLeDiff, Nat.reduceAdd, Nat.reduceSub, Nat.reduceMul, Nat.reduceGT, Int.reduceNeg, Int.reduceToNat]) (by rw [set_ne (by omega), set_eq]) (by rw [set_eq]) (by omega) hm (by omega) rfl (by rw [set_ne (by omega), set_ne (by omega)]; exact hol.m) ?_ ?_
    · intro X2 l i o2 nx2 rd bz R hi hn2 hm2 hr2 ho2 hrun hR
      have q0 : o2 (nx + 2) 0 = o1 (nx + 2) 0 := by rw [ho2 _ 0 (by omega) (by omega), set_ne (by omega), set_ne (by omega)]
      have q1 : o2 f7 0 = o1 f7 0 := by rw [ho2 _ 0 (by omega) (by omega), set_ne (by omega), set_ne (by omega)]
      rw [ka] at q0
      rw [kw] at q1
      have u1 : (nx2 = n1 + 2) = False := e0 (by omega); have u2 : (nx2 = fm) = False := e0 (by omega); have u3 : (nx2 = nx + 2) = False := e0 (by omega); have u4 : (nx2 = f7) = False := e0 (by omega); have u5 : (n1 + 2 = nx2) = False := e0 (by omega); have u6 : (n1 + 2 = fm) = False := e0 (by omega); have u7 : (n1 + 2 = nx + 2) = False := e0 (by omega); have u8 : (n1 + 2 = f7) = False := e0 (by omega); have u9 : (fm = nx2) = False := e0 (by omega); have u10 : (fm = n1 + 2) = False := e0 (by omega); have u11 : (fm = nx + 2) = False := e0 (by omega); have u12 : (fm = f7) = False := e0 (by omega); have u13 : (nx + 2 = nx2) = False := e0 (by omega); have u14 : (nx + 2 = n1 + 2) = False := e0 (by omega); have u15 : (nx + 2 = fm) = False := e0 (by omega); have u16 : (nx + 2 = f7) = False := e0 (by omega); have u17 : (f7 = nx2) = False := e0 (by omega); have u18 : (f7 = n1 + 2) = False := e0 (by omega); have u19 : (f7 = fm) = False := e0 (by omega); have u20 : (f7 = nx + 2) = False := e0 (by omega)
      have hgt := hgot i (by omega) (by rw [met_at _ _ _ _ (Nat.le_refl _)] at hrun; exact hrun)
      rw [← met_at (Es.actMark c act (Es.doer c s act)) s.marks i i (Nat.le_refl _)] at hgt
      have hlen : (met (Es.actMark c act (Es.doer c s act)) s.marks i).length = s.marks.length := met_length _ _ _
      have him : i < (met (Es.actMark c act (Es.doer c s act)) s.marks i).length := by rw [hlen]; exact hi
      generalize met (Es.actMark c act (Es.doer c s act)) s.marks i = ms at *
      have hfin : ∀ (e' : Env) (o3 : St) (n3 : Nat) (m' : Es.Mark), m' = Es.actMark c act (Es.doer c s act) i (Es.at_ ms (i : Int)) → nx2 ≤ n3 → o3 (n1 + 2) 0 = some bz → o3 fm 0 = some (.blk 5 s.marks.length tm (rowsOf mrkC (ms.set i m'))) →
          (∀ f j, f < nx2 → ¬ (f = fm ∧ j = 0) → ¬ (f = n1 + 2 ∧ j = 0) → o3 f j = o2 f j) → R .normal e' ⟨o3, n3⟩ := fun e' o3 n3 m' hm' h1 h2 h3 h4 => hR e' o3 n3 h1 h2 (by rw [← hm']; exact h3) h4
      have hfinA : ∀ (e' : Env) (B : Option SObj) (m' : Es.Mark), m' = Es.actMark c act (Es.doer c s act) i (Es.at_ ms (i : Int)) → R .normal e' ⟨St.set (St.set (St.set o2 nx2 0 B) (n1 + 2) 0 (some bz)) fm 0 (some (.blk 5 s.marks.length tm (rowsOf mrkC (ms.set i m')))), nx2 + 1⟩ := fun e' B m' hm' =>
        hfin e' _ _ m' hm' (by omega) (by rw [set_ne (by omega), set_eq]) (by rw [set_eq]) (fun f j h1 h2 h3 => by
          simp only [St.set]; rw [if_neg (by omega), if_neg (by omega), if_neg (by omega)])
      have hfinB : ∀ (e' : Env) (B : Option SObj), Es.at_ ms (i : Int) = Es.actMark c act (Es.doer c s act) i (Es.at_ ms (i : Int)) → R .normal e' ⟨St.set (St.set o2 nx2 0 B) (n1 + 2) 0 (some bz), nx2 + 1⟩ := fun e' B hm' =>
        hfin e' _ _ _ hm' (by omega) (by rw [set_eq]) (by rw [set_ne (by omega), set_ne (by omega), set_at him]; exact hm2) (fun f j h1 h2 h3 => by
          simp only [St.set]; rw [if_neg (by omega), if_neg (by omega)])
      have hfinC : ∀ (e' : Env) (oo o3 : St) (n3 : Nat) (m' : Es.Mark), Wrote oo (nx2 + 1) fm tm (ms.set i m') o3 n3 → oo (n1 + 2) 0 = some bz → (∀ f j, f < nx2 → ¬ (f = fm ∧ j = 0) → ¬ (f = n1 + 2 ∧ j = 0) → oo f j = o2 f j) → m' = Es.actMark c act (Es.doer c s act) i (Es.at_ ms (i : Int)) → R .normal e' ⟨o3, n3⟩ := fun e' oo o3 n3 m' hw h1 h2 hm' =>
        hfin e' _ _ m' hm' (by have := hw.1; omega) ((hw.2.2 _ _ (by omega) (by omega)).trans h1) (by have := hw.2.1; rw [List.length_set, hlen] at this; exact this) (fun f j g1 g2 g3 => by
          rw [hw.2.2 f j (by omega) g2]; exact h2 f j g1 g2 g3)
      refine wpA_sound _ _ _ _ ?_
      simp only [go_sem, ↓reduceIte, reduceCtorEq, Nat.reduceEqDiff, Nat.reduceLT, Nat.reduceLeDiff, Nat.reduceAdd, Nat.reduceSub, Nat.reduceMul, Nat.reduceGT, Int.reduceNeg, Int.reduceToNat, k3, k4, k5, k6, k7, u1, u2, u3, u4, u5, u6, u7, u8, u9, u10, u11, u12, u13, u14, u15, u16, u17, u18, u19, u20, hr2]
      refine wpA_sound _ _ _ _ ?_
      simp only [go_sem, ↓reduceIte, reduceCtorEq, Nat.reduceEqDiff, Nat.reduceLT, Nat.reduceLeDiff, Nat.reduceAdd, Nat.reduceSub, Nat.reduceMul, Nat.reduceGT, Int.reduceNeg, Int.reduceToNat, k3, k4, k5, k6, k7, u1, u2, u3, u4, u5, u6, u7, u8, u9, u10, u11, u12, u13, u14, u15, u16, u17, u18, u19, u20, hm2, q0, q1, him, hi, setC_mrk4, at_set, List.length_set, List.set_set]
      repeat' (first | (with_reducible refine And.intro ?_ ?_) | ((with_reducible refine ite_cases ?_ ?_) <;> intro _))
      all_goals refine awp_plan ((.op 0 (.op 1 (.op 2 (.op 3 (.op 4 (.op 5 (.op 6 (.op 7 (.op 8 (.op 9 (.op 10 (.op 11 (.op 12 (.op 13 (.op 14 (.op 15 (.op 16 (.op 17 (.op 18 (.op 19 .done))))))))))))))))))))) [] mix (by kernel_rfl) ?_
      all_goals simp only [go_sem, ↓reduceIte, reduceCtorEq, Nat.reduceEqDiff, Nat.reduceLT, Nat.reduceLeDiff, Nat.reduceAdd, Nat.reduceSub, Nat.reduceMul, Nat.reduceGT, Int.reduceNeg, Int.reduceToNat, k3, k4, k5, k6, k7, u1, u2, u3, u4, u5, u6, u7, u8, u9, u10, u11, u12, u13, u14, u15, u16, u17, u18, u19, u20, hm2, q0, q1, him, hi, setC_mrk4, at_set, List.length_set, List.set_set]
      repeat' (first | (with_reducible refine And.intro ?_ ?_) | ((with_reducible refine ite_cases ?_ ?_) <;> intro _))
      all_goals first
        | exact hfinA _ _ _ (by clear hfinA hfinB hfinC hfin hR hm2 hr2 ho2 kc ks ka kA kw ko q0 q1 hk hol hs hgt hgot hkd hgive hrole k0 k3 k4 k5 k6 k7 hw hu1 hx hrun u1 u2 u3 u4 u5 u6 u7 u8 u9 u10 u11 u12 u13 u14 u15 u16 u17 u18 u19 u20; clear hus hal ha hu hm hl; simp_all [Es.actMark])
        | exact hfinB _ _ (by clear hfinA hfinB hfinC hfin hR hm2 hr2 ho2 kc ks ka kA kw ko q0 q1 hk hol hs hgt hgot hkd hgive hrole k0 k3 k4 k5 k6 k7 hw hu1 hx hrun u1 u2 u3 u4 u5 u6 u7 u8 u9 u10 u11 u12 u13 u14 u15 u16 u17 u18 u19 u20; clear hus hal ha hu hm hl; simp_all [Es.actMark])
        | (refine awp_plan ((.op 0 (.op 1 (.op 2 (.op 4 (.op 3 (.op 5 .done))))))) [5] mix (by kernel_rfl) ?_
           simp only [go_sem, ↓reduceIte, reduceCtorEq, Nat.reduceEqDiff, Nat.reduceLT, Nat.reduceLeDiff, Nat.reduceAdd, Nat.reduceSub, Nat.reduceMul, Nat.reduceGT, Int.reduceNeg, Int.reduceToNat, k3, k4, k5, k6, k7, u1, u2, u3, u4, u5, u6, u7, u8, u9, u10, u11, u12, u13, u14, u15, u16, u17, u18, u19, u20, hm2, q0, q1, him, hi]
           refine call_at M_P M_G (counted_spec _ (hkd i (by omega))) ?_
           simp only [go_sem, ↓reduceIte, reduceCtorEq, Nat.reduceEqDiff, Nat.reduceLT, Nat.reduceLeDiff, Nat.reduceAdd, Nat.reduceSub, Nat.reduceMul, Nat.reduceGT, Int.reduceNeg, Int.reduceToNat, k3, k4, k5, k6, k7, u1, u2, u3, u4, u5, u6, u7, u8, u9, u10, u11, u12, u13, u14, u15, u16, u17, u18, u19, u20, hm2, q0, q1, him, hi]
           refine acted_spec' _ _ _ _ _ fm i s.marks.length tm _ _ _ _ (by (repeat (first | rw [set_eq] | rw [set_ne (by omega)])); try exact hm2) (by simp [hlen]) (by omega) hi (by first | exact hgt | (rw [at_set him]; exact hgt)) fun o3 n3 hw => ?_
           try simp only [at_set him, List.set_set] at hw
           simp only [go_sem, ↓reduceIte, reduceCtorEq, Nat.reduceEqDiff, Nat.reduceLT, Nat.reduceLeDiff, Nat.reduceAdd, Nat.reduceSub, Nat.reduceMul, Nat.reduceGT, Int.reduceNeg, Int.reduceToNat, k3, k4, k5, k6, k7]
           refine hfinC _ _ _ _ _ hw ?_ ?_ ?_
           · (repeat (first | rw [set_eq] | rw [set_ne (by omega)]))
           · intro f j h1 h2 h3
             simp only [St.set]
             repeat rw [if_neg (by omega)]
           · clear hw; clear hfinA hfinB hfinC hfin hR hm2 hr2 ho2 kc ks ka kA kw ko q0 q1 hk hol hs hgt hgot hkd hgive hrole k0 k3 k4 k5 k6 k7 hw hu1 hx hrun u1 u2 u3 u4 u5 u6 u7 u8 u9 u10 u11 u12 u13 u14 u15 u16 u17 u18 u19 u20; clear hus hal ha hu hm hl; simp_all [Es.actMark])
    · intro o3 n3 hw3
      have hn3 := hw3.1
      have hl1 : (met (Es.actMark c act (Es.doer c s act)) s.marks s.marks.length).length = s.marks.length := met_length _ _ _
      have hm3 := hw3.2.1
      rw [hl1] at hm3
      have hold3 : ∀ f i, f < n1 → ¬ (f = fm ∧ i = 0) → o3 f i = o1 f i := fun f i h1 h2 => by rw [hw3.2.2 f i (by omega) h2, set_ne (by omega), set_ne (by omega)]
      have hend : ∀ (M2 : List Es.Mark) (oT : St) (nT : Nat), M2 = (if (Es.at_ c.acts act).kind == 3 then met (Es.novMark c (Es.at_ c.acts act)) (met (Es.actMark c act (Es.doer c s act)) s.marks c.clauses.length) c.clauses.length else met (Es.actMark c act (Es.doer c s act)) s.marks c.clauses.length) →
          n1 ≤ nT → oT fm 0 = some (.blk 5 s.marks.length tm (rowsOf mrkC M2)) → (∀ f i, f < n1 → ¬ (f = fm ∧ i = 0) → oT f i = o1 f i) →
          ((Es.at_ c.acts act).kind = 1 → K (.tup []) ⟨oT, nT⟩) ∧ ((Es.at_ c.acts act).kind ≠ 1 → ∀ o', o' fh 0 = some (.blk 1 s.holders.length th (rowsOf intC (s.holders.set (Es.at_ c.acts act).give.toNat (Es.at_ c.acts act).to))) →
            o' fu 0 = some (.blk 1 s.used.length tu (rowsOf booC (s.used.set act.toNat true))) → (∀ f i, ¬ (f = fh ∧ i = 0) → ¬ (f = fu ∧ i = 0) → o' f i = oT f i) → K (.tup []) ⟨o', nT⟩) := by
        intro M2 oT nT hM hnT hT hoT
        have hML : M2.length = s.marks.length := by rw [hM]; split <;> simp [met_length]
        have hdo : Es.doS c s act = { s with marks := M2, holders := if (Es.at_ c.acts act).kind != 1 then s.holders.set (Es.at_ c.acts act).give.toNat (Es.at_ c.acts act).to else s.holders, used := if (Es.at_ c.acts act).kind != 1 then s.used.set act.toNat true else s.used } := by
          unfold Es.doS; rw [if_neg hus, hM]
        refine ⟨fun h1 => hk _ _ ⟨by omega, ?_, fun f i hf hne _ _ => ?_⟩, fun h1 o' hh hu' ho' => hk _ _ ⟨by omega, ?_, fun f i hf hne h2 h3 => ?_⟩⟩
        · rw [hdo]
          simp only [h1, bne_self_eq_false, Bool.false_eq_true, if_false]
          exact ⟨(hoT _ _ (by omega) (by omega)).trans hol.h, (hoT _ _ (by omega) (by omega)).trans hol.u, by rw [hML]; exact hT⟩
        · rw [hoT f i (by omega) hne]; exact ko f i hf
        · rw [hdo]
          have : ((Es.at_ c.acts act).kind != 1) = true := by simpa using h1
          simp only [this, if_true]
          refine ⟨by simp only [List.length_set]; exact hh, by simp only [List.length_set]; exact hu', ?_⟩
          rw [hML]; exact (ho' _ _ (by omega) (by omega)).trans hT
        · rw [ho' f i h2 h3, hoT f i (by omega) hne]; exact ko f i hf
      have v1 : (fu = fh) = False := e0 (by omega); have v2 : (fu = nx) = False := e0 (by omega); have v3 : (fu = nx + 1) = False := e0 (by omega); have v4 : (fu = nx + 2) = False := e0 (by omega); have v5 : (fu = f6) = False := e0 (by omega); have v6 : (fh = fu) = False := e0 (by omega); have v7 : (fh = nx) = False := e0 (by omega); have v8 : (fh = nx + 1) = False := e0 (by omega); have v9 : (fh = nx + 2) = False := e0 (by omega); have v10 : (fh = f6) = False := e0 (by omega); have v11 : (nx = fu) = False := e0 (by omega); have v12 : (nx = fh) = False := e0 (by omega); have v13 : (nx = nx + 1) = False := e0 (by omega); have v14 : (nx = nx + 2) = False := e0 (by omega); have v15 : (nx = f6) = False := e0 (by omega); have v16 : (nx + 1 = fu) = False := e0 (by omega); have v17 : (nx + 1 = fh) = False := e0 (by omega); have v18 : (nx + 1 = nx) = False := e0 (by omega); have v19 : (nx + 1 = nx + 2) = False := e0 (by omega); have v20 : (nx + 1 = f6) = False := e0 (by omega); have v21 : (nx + 2 = fu) = False := e0 (by omega); have v22 : (nx + 2 = fh) = False := e0 (by omega); have v23 : (nx + 2 = nx) = False := e0 (by omega); have v24 : (nx + 2 = nx + 1) = False := e0 (by omega); have v25 : (nx + 2 = f6) = False := e0 (by omega); have v26 : (f6 = fu) = False := e0 (by omega); have v27 : (f6 = fh) = False := e0 (by omega); have v28 : (f6 = nx) = False := e0 (by omega); have v29 : (f6 = nx + 1) = False := e0 (by omega); have v30 : (f6 = nx + 2) = False := e0 (by omega)
      have tA : o3 f6 0 = o1 f6 0 := hold3 _ _ (by omega) (by omega)
      have tC : o3 nx 0 = o1 nx 0 := hold3 _ _ (by omega) (by omega)
      have tS : o3 (nx + 1) 0 = o1 (nx + 1) 0 := hold3 _ _ (by omega) (by omega)
      have tR : o3 (nx + 2) 0 = o1 (nx + 2) 0 := hold3 _ _ (by omega) (by omega)
      have tH : o3 fh 0 = o1 fh 0 := hold3 _ _ (by omega) (by omega)
      have tU : o3 fu 0 = o1 fu 0 := hold3 _ _ (by omega) (by omega)
      rw [kA] at tA
      rw [kc] at tC
      rw [ks] at tS
      rw [ka] at tR
      rw [hol.h] at tH
      rw [hol.u] at tU
      simp only [go_sem, ↓reduceIte, reduceCtorEq, Nat.reduceEqDiff, Nat.reduceLT, Nat.reduceLeDiff, Nat.reduceAdd, Nat.reduceSub, Nat.reduceMul, Nat.reduceGT, Int.reduceNeg, Int.reduceToNat, k3, k4, k5, k6, k7, tA, tC, tS, tR, tH, tU, thenA]
      refine ite_cases (fun h3 => ?_) (fun h3 => ?_)
      · refine running_spec _ _ _ _ c s.day fh s.holders.length fu s.used.length fm s.marks.length _ _ _ ?_
        simp only [go_sem, ↓reduceIte, reduceCtorEq, Nat.reduceEqDiff, Nat.reduceLT, Nat.reduceLeDiff, Nat.reduceAdd, Nat.reduceSub, Nat.reduceMul, Nat.reduceGT, Int.reduceNeg, Int.reduceToNat, k3, k4, k5, k6, k7]
        refine run_loop (n1 := n3) c s.day fh s.holders.length fu s.used.length fm s.marks.length tm (Es.novMark c (Es.at_ c.acts act)) (met (Es.actMark c act (Es.doer c s act)) s.marks s.marks.length) (by decide) (by simp only [go_sem, ↓reduceIte, reduceCtorEq, Nat.reduceEqDiff, Nat.reduceLT, Nat.reduceLeDiff, Nat.reduceAdd, Nat.reduceSub, Nat.reduceMul, Nat.reduceGT, Int.reduceNeg, Int.reduceToNat]) (by rw [set_ne (by omega), set_eq]) (by rw [set_eq]) (by omega) hm (by omega) hl1 (by rw [set_ne (by omega), set_ne (by omega)]; exact hm3) ?_ ?_
        · intro X2 l i o2 nx2 rd bz R hi hn2 hm2 hr2 ho2 hrun hR
          refine wpA_sound _ _ _ _ ?_
          have q1 : o2 f6 0 = o1 f6 0 := by rw [ho2 _ 0 (by omega) (by omega), set_ne (by omega), set_ne (by omega)]; exact hold3 _ _ (by omega) (by omega)
          rw [kA] at q1
          have u1 : (nx2 = n3 + 2) = False := e0 (by omega); have u2 : (nx2 = fm) = False := e0 (by omega); have u3 : (nx2 = f6) = False := e0 (by omega); have u4 : (n3 + 2 = nx2) = False := e0 (by omega); have u5 : (n3 + 2 = fm) = False := e0 (by omega); have u6 : (n3 + 2 = f6) = False := e0 (by omega); have u7 : (fm = nx2) = False := e0 (by omega); have u8 : (fm = n3 + 2) = False := e0 (by omega); have u9 : (fm = f6) = False := e0 (by omega); have u10 : (f6 = nx2) = False := e0 (by omega); have u11 : (f6 = n3 + 2) = False := e0 (by omega); have u12 : (f6 = fm) = False := e0 (by omega)
          have hlen : (met (Es.novMark c (Es.at_ c.acts act)) (met (Es.actMark c act (Es.doer c s act)) s.marks s.marks.length) i).length = s.marks.length := (met_length _ _ _).trans hl1
          have him : i < (met (Es.novMark c (Es.at_ c.acts act)) (met (Es.actMark c act (Es.doer c s act)) s.marks s.marks.length) i).length := by rw [hlen]; exact hi
          generalize met (Es.novMark c (Es.at_ c.acts act)) (met (Es.actMark c act (Es.doer c s act)) s.marks s.marks.length) i = ms at *
          have hfin : ∀ (e' : Env) (o3 : St) (n4 : Nat) (m' : Es.Mark), m' = Es.novMark c (Es.at_ c.acts act) i (Es.at_ ms (i : Int)) → nx2 ≤ n4 → o3 (n3 + 2) 0 = some bz → o3 fm 0 = some (.blk 5 s.marks.length tm (rowsOf mrkC (ms.set i m'))) →
              (∀ f j, f < nx2 → ¬ (f = fm ∧ j = 0) → ¬ (f = n3 + 2 ∧ j = 0) → o3 f j = o2 f j) → R .normal e' ⟨o3, n4⟩ := fun e' o3 n3 m' hm' h1 h2 h3 h4 => hR e' o3 n3 h1 h2 (by rw [← hm']; exact h3) h4
          have hfinA : ∀ (e' : Env) (B : Option SObj) (m' : Es.Mark), m' = Es.novMark c (Es.at_ c.acts act) i (Es.at_ ms (i : Int)) → R .normal e' ⟨St.set (St.set (St.set o2 nx2 0 B) (n3 + 2) 0 (some bz)) fm 0 (some (.blk 5 s.marks.length tm (rowsOf mrkC (ms.set i m')))), nx2 + 1⟩ := fun e' B m' hm' =>
            hfin e' _ _ m' hm' (by omega) (by rw [set_ne (by omega), set_eq]) (by rw [set_eq]) (fun f j h1 h2 h3 => by
              simp only [St.set]; rw [if_neg (by omega), if_neg (by omega), if_neg (by omega)])
          have hfinB : ∀ (e' : Env) (B : Option SObj), Es.at_ ms (i : Int) = Es.novMark c (Es.at_ c.acts act) i (Es.at_ ms (i : Int)) → R .normal e' ⟨St.set (St.set o2 nx2 0 B) (n3 + 2) 0 (some bz), nx2 + 1⟩ := fun e' B hm' =>
            hfin e' _ _ _ hm' (by omega) (by rw [set_eq]) (by rw [set_ne (by omega), set_ne (by omega), set_at him]; exact hm2) (fun f j h1 h2 h3 => by
              simp only [St.set]; rw [if_neg (by omega), if_neg (by omega)])
          simp only [go_sem, ↓reduceIte, reduceCtorEq, Nat.reduceEqDiff, Nat.reduceLT, Nat.reduceLeDiff, Nat.reduceAdd, Nat.reduceSub, Nat.reduceMul, Nat.reduceGT, Int.reduceNeg, Int.reduceToNat, k3, k4, k5, k6, k7, u1, u2, u3, u4, u5, u6, u7, u8, u9, u10, u11, u12, hr2]
          refine wpA_sound _ _ _ _ ?_
          simp only [go_sem, ↓reduceIte, reduceCtorEq, Nat.reduceEqDiff, Nat.reduceLT, Nat.reduceLeDiff, Nat.reduceAdd, Nat.reduceSub, Nat.reduceMul, Nat.reduceGT, Int.reduceNeg, Int.reduceToNat, k3, k4, k5, k6, k7, u1, u2, u3, u4, u5, u6, u7, u8, u9, u10, u11, u12, hm2, q1, him, hi, setC_mrk3, at_set, List.length_set, List.set_set]
          repeat' (first | (with_reducible refine And.intro ?_ ?_) | ((with_reducible refine ite_cases ?_ ?_) <;> intro _))
          all_goals first
            | exact hfinA _ _ _ (by clear hfinA hfinB hfin hR hm2 hr2 ho2 kc ks ka kA kw ko q1 hk hol hs hgot hkd hgive hrole k0 k3 k4 k5 k6 k7 hw hu1 hx hrun hend hold3 tA tC tS tR tH tU hw3 hm3 u1 u2 u3 u4 u5 u6 u7 u8 u9 u10 u11 u12; simp_all [Es.novMark])
            | exact hfinB _ _ (by clear hfinA hfinB hfin hR hm2 hr2 ho2 kc ks ka kA kw ko q1 hk hol hs hgot hkd hgive hrole k0 k3 k4 k5 k6 k7 hw hu1 hx hrun hend hold3 tA tC tS tR tH tU hw3 hm3 u1 u2 u3 u4 u5 u6 u7 u8 u9 u10 u11 u12; simp_all [Es.novMark])
        · intro o5 n5 hw5
          have hn5 := hw5.1
          have hm5 := hw5.2.1
          rw [met_length, hl1] at hm5
          have hold5 : ∀ f i, f < n1 → ¬ (f = fm ∧ i = 0) → o5 f i = o1 f i := fun f i h1 h2 => by rw [hw5.2.2 f i (by omega) h2, set_ne (by omega), set_ne (by omega)]; exact hold3 f i h1 h2
          have hE := hend _ o5 n5 (by rw [if_pos h3, ← hm]) (by omega) hm5 hold5
          have tA := (hold5 f6 0 (by omega) (by omega)).trans ((hold3 f6 0 (by omega) (by omega)).symm.trans tA)
          have tS := (hold5 (nx + 1) 0 (by omega) (by omega)).trans ((hold3 _ 0 (by omega) (by omega)).symm.trans tS)
          have tR := (hold5 (nx + 2) 0 (by omega) (by omega)).trans ((hold3 _ 0 (by omega) (by omega)).symm.trans tR)
          have tH := (hold5 fh 0 (by omega) (by omega)).trans ((hold3 _ 0 (by omega) (by omega)).symm.trans tH)
          have tU := (hold5 fu 0 (by omega) (by omega)).trans ((hold3 _ 0 (by omega) (by omega)).symm.trans tU)
          simp only [go_sem, ↓reduceIte, reduceCtorEq, Nat.reduceEqDiff, Nat.reduceLT, Nat.reduceLeDiff, Nat.reduceAdd, Nat.reduceSub, Nat.reduceMul, Nat.reduceGT, Int.reduceNeg, Int.reduceToNat, k3, k4, k5, k6, k7, tA, tS, tR, tH, tU, thenA]
          refine ite_cases (fun hk1 => ?_) (fun hk1 => ?_)
          · have hne : (Es.at_ c.acts act).kind ≠ 1 := by simpa using hk1
            have hgv := hgive hne
            have hgv' : (Es.at_ c.acts act).give.toNat < s.holders.length := by have := hgv; simp only [Es.len] at this; omega
            have hav' : act.toNat < s.used.length := by omega
            refine awp_plan ((.op 0 (.op 1 (.op 2 (.op 3 (.op 4 (.op 7 (.op 8 (.op 9 (.alt 5 (.alt 6 (.op 10 (.op 11 (.op 12 .done))) (.alt 10 (.op 6 (.op 11 (.op 12 .done))) .dead)) (.alt 6 (.alt 5 (.op 10 (.op 11 (.op 12 .done))) (.alt 10 (.op 5 (.op 11 (.op 12 .done))) .dead)) (.alt 10 (.op 5 (.op 6 (.op 11 (.op 12 .done)))) .dead)))))))))))) [10, 12] mix (by kernel_rfl) ?_
            simp only [go_sem, ↓reduceIte, reduceCtorEq, Nat.reduceEqDiff, Nat.reduceLT, Nat.reduceLeDiff, Nat.reduceAdd, Nat.reduceSub, Nat.reduceMul, Nat.reduceGT, Int.reduceNeg, Int.reduceToNat, k3, k4, k5, k6, k7, tA, tS, tR, tH, tU, v1, v2, v3, v4, v5, v6, v7, v8, v9, v10, v11, v12, v13, v14, v15, v16, v17, v18, v19, v20, v21, v22, v23, v24, v25, v26, v27, v28, v29, v30, Nat.zero_add, setC_int hgv', setC_boo hav']
            repeat' (first | (with_reducible refine And.intro ?_ ?_) | ((with_reducible refine ite_cases ?_ ?_) <;> intro _))
            all_goals first
              | (refine hE.2 hne _ ?_ ?_ ?_
                 · (repeat (first | rw [set_eq] | rw [set_ne (by omega)]))
                 · (repeat (first | rw [set_eq] | rw [set_ne (by omega)]))
                 · intro f i h1 h2
                   simp only [St.set]
                   repeat rw [if_neg (by omega)])
              | (have := hgv.2; simp only [Es.len] at this; omega)
              | omega
          · exact hE.1 (by simpa using hk1)
      · have hE := hend _ o3 n3 (by rw [if_neg h3, ← hm]) (by omega) hm3 hold3
        refine ite_cases (fun hk1 => ?_) (fun hk1 => ?_)
        · have hne : (Es.at_ c.acts act).kind ≠ 1 := by simpa using hk1
          have hgv := hgive hne
          have hgv' : (Es.at_ c.acts act).give.toNat < s.holders.length := by have := hgv; simp only [Es.len] at this; omega
          have hav' : act.toNat < s.used.length := by omega
          refine awp_plan ((.op 0 (.op 1 (.op 2 (.op 3 (.op 4 (.op 7 (.op 8 (.op 9 (.alt 5 (.alt 6 (.op 10 (.op 11 (.op 12 .done))) (.alt 10 (.op 6 (.op 11 (.op 12 .done))) .dead)) (.alt 6 (.alt 5 (.op 10 (.op 11 (.op 12 .done))) (.alt 10 (.op 5 (.op 11 (.op 12 .done))) .dead)) (.alt 10 (.op 5 (.op 6 (.op 11 (.op 12 .done)))) .dead)))))))))))) [10, 12] mix (by kernel_rfl) ?_
          simp only [go_sem, ↓reduceIte, reduceCtorEq, Nat.reduceEqDiff, Nat.reduceLT, Nat.reduceLeDiff, Nat.reduceAdd, Nat.reduceSub, Nat.reduceMul, Nat.reduceGT, Int.reduceNeg, Int.reduceToNat, k3, k4, k5, k6, k7, tA, tS, tR, tH, tU, v1, v2, v3, v4, v5, v6, v7, v8, v9, v10, v11, v12, v13, v14, v15, v16, v17, v18, v19, v20, v21, v22, v23, v24, v25, v26, v27, v28, v29, v30, Nat.zero_add, setC_int hgv', setC_boo hav']
          repeat' (first | (with_reducible refine And.intro ?_ ?_) | ((with_reducible refine ite_cases ?_ ?_) <;> intro _))
          all_goals first
            | (refine hE.2 hne _ ?_ ?_ ?_
               · (repeat (first | rw [set_eq] | rw [set_ne (by omega)]))
               · (repeat (first | rw [set_eq] | rw [set_ne (by omega)]))
               · intro f i h1 h2
                 simp only [St.set]
                 repeat rw [if_neg (by omega)])
            | (have := hgv.2; simp only [Es.len] at this; omega)
            | omega
        · exact hE.1 (by simpa using hk1)
end Tryz
end Go.Proofs
end
section
namespace Go.Proofs
open Go Go.Abs
set_option linter.unusedSimpArgs false
set_option linter.unusedVariables false
set_option maxRecDepth 10000
namespace Tryz
def resD2 (x : Es.State × Int) : D := .tup [staD x.1, .v (.int .i64 x.2)]
theorem fz_zero (s : S) : Fz s (.agg [.v (.int .i64 0), .v (.slice none 0 0), .v (.slice none 0 0), .v (.slice none 0 0)]) (staD ⟨0, [], [], []⟩) := Fz_agg ⟨.v _, .nil _ _, .nil _ _, .nil _ _, trivial⟩
theorem fine_of {c : Es.Contract} {s : Es.State} (h : Es.Core c s) : Fine c s where
  len := h.ml
  cond i hi := by
    obtain ⟨h1, h2⟩ := Es.clauseOk_start (Es.valid2_clause (c := c) (by simpa using h.con) hi)
    refine ⟨h1, fun y hy => ?_⟩
    have := h2 y hy
    simp only [Es.condOk, Es.under, Bool.and_eq_true, decide_eq_true_eq] at this
    exact this.1.1
  role i hi hk := by
    have := ((Es.valid2_ok h.con).clause i hi).role hk
    have hl := h.hl
    simp only [Es.len] at this ⊢
    omega
theorem has_wrote {o o' : St} {nx nx' fh fu fm : Nat} {th tu tm : TypeId} {s : Es.State} {ms : List Es.Mark} (h : HasSt o fh fu fm th tu tm s) (hw : Wrote o nx fm tm ms o' nx') (hx : fh < nx ∧ fu < nx ∧ fh ≠ fm ∧ fu ≠ fm) : HasSt o' fh fu fm th tu tm { s with marks := ms } :=
  ⟨(hw.2.2 fh 0 hx.1 (by omega)).trans h.h, (hw.2.2 fu 0 hx.2.1 (by omega)).trans h.u, hw.2.1⟩
theorem HasSt.day {o : St} {fh fu fm : Nat} {th tu tm : TypeId} {s : Es.State} (h : HasSt o fh fu fm th tu tm s) (d : Int) : HasSt o fh fu fm th tu tm { s with day := d } := ⟨h.h, h.u, h.m⟩
theorem HasSt.set {o : St} {fh fu fm f : Nat} {th tu tm : TypeId} {s : Es.State} (h : HasSt o fh fu fm th tu tm s) (hf : f ≠ fh ∧ f ≠ fu ∧ f ≠ fm) (i : Nat) (B : Option SObj) : HasSt (St.set o f i B) fh fu fm th tu tm s :=
  ⟨by rw [set_ne (by omega)]; exact h.h, by rw [set_ne (by omega)]; exact h.u, by rw [set_ne (by omega)]; exact h.m⟩
theorem HasSt.fz' {o : St} {nx fh fu fm nh nu nm : Nat} {th tu tm : TypeId} {s : Es.State} {d : Int} (h : HasSt o fh fu fm th tu tm s) (hd : s.day = d) (h1 : s.holders.length = nh) (h2 : s.used.length = nu) (h3 : s.marks.length = nm) : Fz ⟨o, nx⟩ (stO d fh nh fu nu fm nm) (staD s) := by
  subst hd h1 h2 h3; exact h.fz
theorem begin_spec' (X : D → Value → Prop) (N : Nat) (r : Option Nat) (b : Nat) (c : Es.Contract) (s : Es.State) (fh fu fm nh nu nm : Nat) (d : Int) (th tu tm : TypeId) (o : St) (nx : Nat) (K : D → S → Prop) (hd : s.day = d) (h1 : s.holders.length = nh) (h2 : s.used.length = nu) (h3 : s.marks.length = nm) (hs : HasSt o fh fu fm th tu tm s) (hx : fh < nx ∧ fu < nx ∧ fm < nx ∧ fh ≠ fm ∧ fu ≠ fm)
    (hF : Fine c s) (hl : c.clauses.length ≤ 400) (hk : ∀ o' nx', Wrote o nx fm tm (Es.begin_ c s).marks o' nx' → K (.tup []) ⟨o', nx'⟩) :
    ACall { P := prog, G := gl, X := X, N := N, r := r, b := b } 58 [conD c, stO d fh nh fu nu fm nm] ⟨o, nx⟩ K := by
  subst hd h1 h2 h3; exact begin_spec X N r b c s fh fu fm th tu tm o nx K hs hx hF hl hk
theorem step_spec (c : Es.Contract) (s : Es.State) (k : Int) (hf : Es.Fits c) (hs : Es.SFits s) : APure M 42 [conD c, staD s, .v (.int .i64 k)] (resD2 (Es.step c s k)) := by
  refine pure_of gpu func42 rfl results42 ntmps42 (by simp) ⟨pu_conD _, pu_staD _, .v _, trivial⟩ ?_
  intro b
  simp only [go_sem, ↓reduceIte, reduceCtorEq, Nat.reduceEqDiff, Nat.reduceLT, Nat.reduceLeDiff, Nat.reduceAdd, Nat.reduceSub, Nat.reduceMul, Nat.reduceGT, Int.reduceNeg, Int.reduceToNat]
  repeat' (first | ((with_reducible refine call_at M_P M_G (sValid_spec c s hf hs) ?_); simp only [go_sem, ↓reduceIte, reduceCtorEq, Nat.reduceEqDiff, Nat.reduceLT, Nat.reduceLeDiff, Nat.reduceAdd, Nat.reduceSub, Nat.reduceMul, Nat.reduceGT, Int.reduceNeg, Int.reduceToNat]) | (with_reducible refine And.intro ?_ ?_) | ((with_reducible refine ite_cases ?_ ?_) <;> intro _))
  all_goals first
    | (rw [show Es.step c s k = (⟨0, [], [], []⟩, 1) by unfold Es.step; rw [if_pos (by simp_all)]]; exact Fz_tup ⟨fz_zero _, .v _, trivial⟩)
    | (rw [show Es.step c s k = (⟨0, [], [], []⟩, 13) by unfold Es.step; rw [if_neg (by simp_all), if_pos (by simp_all)]]; exact Fz_tup ⟨fz_zero _, .v _, trivial⟩)
    | skip
  have hv : Es.sValid c s = true := by simpa using ‹(!Es.sValid c s) = false›
  have hk0 : -1 ≤ k ∧ k < Es.len c.acts := by
    have h1 : decide (k < -1) = false := ‹_›
    have h2 : ¬ Es.len c.acts ≤ k := ‹_›
    have h3 := of_decide_eq_false h1
    omega
  have hday : ¬ (s.day == c.days) = true := ‹_›
  have hst : Es.step c s k = (Es.begin_ c (Es.mid c s k), 0) := by
    unfold Es.step Es.mid; rw [if_neg (by simp_all), if_neg hday]
  have hC := (Es.sValid_iff.1 hv).1
  have hV := Es.valid2_ok hC.con
  have hM := (Es.step_ok (c := c) (s := s) (k := k) (by rw [hst])).core
  have hsm := hV.small
  have hsl := hC.hl
  have hsu := hC.ul
  have hsk := hC.ml
  have hfine := fine_of hM
  have hoff := (Es.off_sorted c.off (-1) hV.off).2
  have hdy := hC.day
  refine acall_wf fun hw => ?_
  simp only at hw
  refine sclone_spec _ _ _ _ s ⟨by omega, by omega, by omega⟩ _ _ _ hw fun o1 n1 fh fu fm th tu tm hlt hsame hw1 hH => ?_
  have g0 := hsame 0 0 (by omega)
  have g1 := hsame 1 0 (by omega)
  have g2 := hsame 2 0 (by omega)
  simp only [go_sem, ↓reduceIte, reduceCtorEq, Nat.reduceEqDiff, Nat.reduceLT, Nat.reduceLeDiff, Nat.reduceAdd, Nat.reduceSub, Nat.reduceMul, Nat.reduceGT, Int.reduceNeg, Int.reduceToNat] at g0 g1 g2
  have e0 : ∀ {a b : Nat}, a ≠ b → (a = b) = False := fun h => by simp [h]
  simp only [go_sem, ↓reduceIte, reduceCtorEq, Nat.reduceEqDiff, Nat.reduceLT, Nat.reduceLeDiff, Nat.reduceAdd, Nat.reduceSub, Nat.reduceMul, Nat.reduceGT, Int.reduceNeg, Int.reduceToNat, g0, g1, g2]
  have hol : (c.off.length : Int) ≤ c.days - 1 - (-1) := Es.off_len c.off (-1) (by have := hV.pos; omega) hV.off
  have hml := Es.mid_len c s k
  refine ite_cases (fun hk1 => ?_) (fun hk1 => ?_)
  · have hmid : Es.mid c s k = { Es.tickS c s with day := s.day + 1 } := by unfold Es.mid; rw [if_pos hk1]
    have hwr : IntKind.i64.wrap (s.day + 1) = s.day + 1 := wrap_i64 _ (by omega) (by omega)
    have hmd : (Es.mid c s k).day = s.day + 1 := by rw [hmid]
    have hmh : (Es.mid c s k).holders.length = s.holders.length := by rw [hmid]; rfl
    have hmu : (Es.mid c s k).used.length = s.used.length := by rw [hmid]; rfl
    refine tick_spec _ _ _ _ c s fh fu fm th tu tm _ _ _ (hH.set (by omega) _ _) (by omega) hsk (by omega) (by omega) hoff (fun i hi => (hV.clause i hi).kind) (fun i hi hr => ?_) fun o2 n2 hw2 => ?_
    · have hR := (hC.running hi hr).left
      have h1 := (hV.clause i hi).after
      have h2 := (hV.clause i hi).grace
      split at hR <;> omega
    have hn2 := hw2.1
    have p0 : o2 0 0 = _ := (hw2.2.2 0 0 (by omega) (by omega)).trans ((set_ne (by omega)).trans g0)
    have p1 : o2 1 0 = _ := (hw2.2.2 1 0 (by omega) (by omega)).trans set_eq
    have p2 : o2 2 0 = _ := (hw2.2.2 2 0 (by omega) (by omega)).trans ((set_ne (by omega)).trans g2)
    have hH2 : HasSt o2 fh fu fm th tu tm (Es.mid c s k) := by
      rw [hmid]; exact (has_wrote (hH.set (by omega) _ _) hw2 (by omega)).day _
    simp only [go_sem, ↓reduceIte, reduceCtorEq, Nat.reduceEqDiff, Nat.reduceLT, Nat.reduceLeDiff, Nat.reduceAdd, Nat.reduceSub, Nat.reduceMul, Nat.reduceGT, Int.reduceNeg, Int.reduceToNat, p0, p1, p2, hwr]
    refine begin_spec' _ _ _ _ c (Es.mid c s k) fh fu fm _ _ _ _ th tu tm _ _ _ hmd hmh hmu hml (hH2.set (by omega) _ _) (by omega) hfine (by omega) fun o3 n3 hw3 => ?_
    have hn3 := hw3.1
    have q1 : o3 1 0 = _ := (hw3.2.2 1 0 (by omega) (by omega)).trans set_eq
    have q2 : o3 2 0 = _ := (hw3.2.2 2 0 (by omega) (by omega)).trans ((set_ne (by omega)).trans p2)
    simp only [go_sem, ↓reduceIte, reduceCtorEq, Nat.reduceEqDiff, Nat.reduceLT, Nat.reduceLeDiff, Nat.reduceAdd, Nat.reduceSub, Nat.reduceMul, Nat.reduceGT, Int.reduceNeg, Int.reduceToNat, q1, q2]
    rw [hst]
    have hHB := has_wrote (hH2.set (f := 1) (by omega) 0 _) hw3 (by omega)
    rw [← Es.begin_eq hM.ml] at hHB
    refine Fz_tup ⟨HasSt.fz' (hHB.set (by omega) _ _) ?_ ?_ ?_ ?_, .v _, trivial⟩
    · rw [Es.begin_day hM.ml]; exact hmd
    · rw [Es.begin_holders hM.ml]; exact hmh
    · rw [Es.begin_used hM.ml]; exact hmu
    · rw [Es.begin_len hM.ml]; exact hml
  · have hmid : Es.mid c s k = Es.doS c s k := by unfold Es.mid; rw [if_neg hk1]
    have hk2 : 0 ≤ k ∧ k < Es.len c.acts := by
      have : ¬ k = -1 := by simpa using hk1
      omega
    have hmd : (Es.mid c s k).day = s.day := by rw [hmid]; exact Es.do_day c s k
    have hmh : (Es.mid c s k).holders.length = s.holders.length := by rw [hmid, Es.do_holders]; split <;> simp
    have hmu : (Es.mid c s k).used.length = s.used.length := by rw [hmid, Es.do_used]; split <;> simp
    refine do_spec _ _ _ _ c s k fh fu fm th tu tm _ _ _ (hH.set (by omega) _ _) (by omega) hsk (by omega) hsu hk2 (fun hr => hC.role hk2 hr) (fun hr => hC.give hk2 hr) (fun i hi => (hV.clause i hi).kind) (fun i hi hr => (hC.running hi hr).got9 (hV.clause i hi)) fun o2 n2 hw2 => ?_
    have hn2 := hw2.nxt
    have p0 : o2 0 0 = _ := (hw2.old 0 0 (by omega) (by omega) (by omega) (by omega)).trans ((set_ne (by omega)).trans g0)
    have p1 : o2 1 0 = _ := (hw2.old 1 0 (by omega) (by omega) (by omega) (by omega)).trans set_eq
    have p2 : o2 2 0 = _ := (hw2.old 2 0 (by omega) (by omega) (by omega) (by omega)).trans ((set_ne (by omega)).trans g2)
    have hH2 : HasSt o2 fh fu fm th tu tm (Es.mid c s k) := by rw [hmid]; exact hw2.has
    simp only [go_sem, ↓reduceIte, reduceCtorEq, Nat.reduceEqDiff, Nat.reduceLT, Nat.reduceLeDiff, Nat.reduceAdd, Nat.reduceSub, Nat.reduceMul, Nat.reduceGT, Int.reduceNeg, Int.reduceToNat, p0, p1, p2]
    refine begin_spec' _ _ _ _ c (Es.mid c s k) fh fu fm _ _ _ _ th tu tm _ _ _ hmd hmh hmu hml hH2 (by omega) hfine (by omega) fun o3 n3 hw3 => ?_
    have hn3 := hw3.1
    have q1 : o3 1 0 = _ := (hw3.2.2 1 0 (by omega) (by omega)).trans p1
    have q2 : o3 2 0 = _ := (hw3.2.2 2 0 (by omega) (by omega)).trans p2
    simp only [go_sem, ↓reduceIte, reduceCtorEq, Nat.reduceEqDiff, Nat.reduceLT, Nat.reduceLeDiff, Nat.reduceAdd, Nat.reduceSub, Nat.reduceMul, Nat.reduceGT, Int.reduceNeg, Int.reduceToNat, q1, q2]
    rw [hst]
    have hHB := has_wrote hH2 hw3 (by omega)
    rw [← Es.begin_eq hM.ml] at hHB
    refine Fz_tup ⟨HasSt.fz' (hHB.set (by omega) _ _) ?_ ?_ ?_ ?_, .v _, trivial⟩
    · rw [Es.begin_day hM.ml]; exact hmd
    · rw [Es.begin_holders hM.ml]; exact hmh
    · rw [Es.begin_used hM.ml]; exact hmu
    · rw [Es.begin_len hM.ml]; exact hml
end Tryz
end Go.Proofs
end
section
namespace Go.Proofs
open Go Go.Abs
set_option linter.unusedSimpArgs false
set_option linter.unusedVariables false
set_option maxRecDepth 10000
namespace Tryz
theorem bit_spec (q : Bool) : APure M 89 [.v (.bool q)] (.v (.int .i64 (if q then 1 else 0))) := by
  refine pure_of gpu func89 rfl results89 ntmps89 (by simp) ⟨.v _, trivial⟩ ?_
  intro b
  simp only [go_sem, ↓reduceIte, reduceCtorEq, Nat.reduceEqDiff, Nat.reduceLT, Nat.reduceLeDiff, Nat.reduceAdd, Nat.reduceSub, Nat.reduceMul, Nat.reduceGT, Int.reduceNeg, Int.reduceToNat]
  cases q <;> simp
theorem pzero1_spec (n : Int) : APure M 74 [.v (.int .i64 n)] (.v (.bool (n != 0))) := by
  refine pure_of gpu func74 rfl results74 ntmps74 (by simp) ⟨.v _, trivial⟩ ?_
  intro b
  simp only [go_sem, ↓reduceIte, reduceCtorEq, Nat.reduceEqDiff, Nat.reduceLT, Nat.reduceLeDiff, Nat.reduceAdd, Nat.reduceSub, Nat.reduceMul, Nat.reduceGT, Int.reduceNeg, Int.reduceToNat]
def numsZ (x : Es.Clause) : List Int :=
  [0, 0, 0, x.kind, x.role, x.act, x.need, x.after, x.grace, if x.business then 1 else 0, if x.final then 1 else 0, x.pause, x.resume, x.value.num, x.value.den, x.unit, x.to, if x.waived then 1 else 0, 0]
def nilP (x : Es.Clause) : D := .agg [.v (.int .i64 0), .v (.slice none 0 0), .v (.int .i64 x.kind), .v (.int .i64 x.role), .v (.int .i64 x.act), .v (.int .i64 x.need), .v (.slice none 0 0), .v (.int .i64 x.after), .v (.int .i64 x.grace), .v (.bool x.business), .v (.bool x.final), .v (.int .i64 x.pause), .v (.int .i64 x.resume), .v (.int .i64 x.value.num), .v (.int .i64 x.value.den), .v (.int .i64 x.unit), .v (.int .i64 x.to), .v (.bool x.waived), .v (.int .i64 0)]
@[go_sem] theorem nilP_cells (x : Es.Clause) : (nilP x).cells? = some [.v (.int .i64 0), .v (.slice none 0 0), .v (.int .i64 x.kind), .v (.int .i64 x.role), .v (.int .i64 x.act), .v (.int .i64 x.need), .v (.slice none 0 0), .v (.int .i64 x.after), .v (.int .i64 x.grace), .v (.bool x.business), .v (.bool x.final), .v (.int .i64 x.pause), .v (.int .i64 x.resume), .v (.int .i64 x.value.num), .v (.int .i64 x.value.den), .v (.int .i64 x.unit), .v (.int .i64 x.to), .v (.bool x.waived), .v (.int .i64 0)] := nr rfl
theorem numbers_spec (x : Es.Clause) : APure M 73 [nilP x] (slD 1 intC (numsZ x)) := by
  refine pure_of gpu func73 rfl results73 ntmps73 (by simp) ⟨Pu_agg ⟨.v _, .v _, .v _, .v _, .v _, .v _, .v _, .v _, .v _, .v _, .v _, .v _, .v _, .v _, .v _, .v _, .v _, .v _, .v _, trivial⟩, trivial⟩ ?_
  intro b
  simp only [go_sem, ↓reduceIte, reduceCtorEq, Nat.reduceEqDiff, Nat.reduceLT, Nat.reduceLeDiff, Nat.reduceAdd, Nat.reduceSub, Nat.reduceMul, Nat.reduceGT, Int.reduceNeg, Int.reduceToNat]
  refine awp_plan ((.op 0 (.op 1 (.op 2 (.op 3 (.op 4 (.op 5 (.op 6 (.op 7 (.op 8 (.op 9 (.op 10 (.op 11 (.op 12 (.op 13 (.op 14 (.op 16 (.op 17 (.op 19 (.op 20 (.op 21 (.op 22 (.op 23 (.op 24 (.op 25 (.op 26 (.op 27 (.op 28 (.op 29 (.op 30 (.op 31 (.op 32 (.op 33 (.op 34 (.op 36 (.op 37 (.op 38 (.op 15 (.op 18 (.op 35 (.op 39 (.op 40 (.op 41 .done))))))))))))))))))))))))))))))))))))))))))) [40] mix (by kernel_rfl) ?_
  simp only [go_sem, ↓reduceIte, reduceCtorEq, Nat.reduceEqDiff, Nat.reduceLT, Nat.reduceLeDiff, Nat.reduceAdd, Nat.reduceSub, Nat.reduceMul, Nat.reduceGT, Int.reduceNeg, Int.reduceToNat]
  repeat' (first | ((with_reducible refine call_at M_P M_G (bit_spec _) ?_); simp only [go_sem, ↓reduceIte, reduceCtorEq, Nat.reduceEqDiff, Nat.reduceLT, Nat.reduceLeDiff, Nat.reduceAdd, Nat.reduceSub, Nat.reduceMul, Nat.reduceGT, Int.reduceNeg, Int.reduceToNat]) | (with_reducible refine And.intro ?_ ?_) | ((with_reducible refine ite_cases ?_ ?_) <;> intro _))
  refine awp_count0 0 (fun e0 s0 k e s => e = e0 ∧ s = s0) ⟨rfl, rfl⟩ ?_
  rintro k e s hk ⟨rfl, rfl⟩
  simp only [go_sem, ↓reduceIte, reduceCtorEq, Nat.reduceEqDiff, Nat.reduceLT, Nat.reduceLeDiff, Nat.reduceAdd, Nat.reduceSub, Nat.reduceMul, Nat.reduceGT, Int.reduceNeg, Int.reduceToNat]
  refine fz_ms rfl rfl pu_intC fun r j hr hj => ?_
  obtain rfl : j = 0 := by omega
  have hr : r < 19 := hr
  rcases (show r = 0 ∨ r = 1 ∨ r = 2 ∨ r = 3 ∨ r = 4 ∨ r = 5 ∨ r = 6 ∨ r = 7 ∨ r = 8 ∨ r = 9 ∨ r = 10 ∨ r = 11 ∨ r = 12 ∨ r = 13 ∨ r = 14 ∨ r = 15 ∨ r = 16 ∨ r = 17 ∨ r = 18 by omega) with rfl | rfl | rfl | rfl | rfl | rfl | rfl | rfl | rfl | rfl | rfl | rfl | rfl | rfl | rfl | rfl | rfl | rfl | rfl <;> rfl
theorem numsZ_any (x : Es.Clause) : (Es.len x.start == 0 && !(numsZ x).any fun n => n != 0) = Es.zeroClause x := by
  have hs : (Es.len x.start == 0) = x.start.isEmpty := by
    cases x.start with
    | nil => rfl
    | cons a l => rw [Bool.eq_iff_iff]; simp [Es.len]; omega
  have hb : ∀ q : Bool, ((if q then (1:Int) else 0) != 0) = q := by decide
  simp only [numsZ, Es.zeroClause, hs, List.any_cons, List.any_nil, hb, Bool.or_false]
  rw [Bool.eq_iff_iff]
  simp [and_assoc]
end Tryz
end Go.Proofs
end
section
namespace Go.Proofs
open Go Go.Abs
set_option linter.unusedSimpArgs false
set_option linter.unusedVariables false
set_option maxRecDepth 10000
namespace Tryz
theorem zero_spec (x : Es.Clause) : APure M 57 [clsD x] (.v (.bool (Es.zeroClause x))) := by
  have hcall : callable prog 74 = true := by simp only [go_sem]
  have hcon := containsI_spec 74 [] hcall trivial (fun n => n != 0) (numsZ x) (by simp [numsZ]) (fun n _ => pzero1_spec n)
  refine pure_of gpu func57 rfl results57 ntmps57 (by simp) ⟨pu_clsD x, trivial⟩ ?_
  intro b
  simp only [go_sem, ↓reduceIte, reduceCtorEq, Nat.reduceEqDiff, Nat.reduceLT, Nat.reduceLeDiff, Nat.reduceAdd, Nat.reduceSub, Nat.reduceMul, Nat.reduceGT, Int.reduceNeg, Int.reduceToNat]
  refine call_at M_P M_G (numbers_spec x) ?_
  simp only [go_sem, ↓reduceIte, reduceCtorEq, Nat.reduceEqDiff, Nat.reduceLT, Nat.reduceLeDiff, Nat.reduceAdd, Nat.reduceSub, Nat.reduceMul, Nat.reduceGT, Int.reduceNeg, Int.reduceToNat]
  repeat' (first | ((with_reducible refine call_at M_P M_G (hcon) ?_); simp only [go_sem, ↓reduceIte, reduceCtorEq, Nat.reduceEqDiff, Nat.reduceLT, Nat.reduceLeDiff, Nat.reduceAdd, Nat.reduceSub, Nat.reduceMul, Nat.reduceGT, Int.reduceNeg, Int.reduceToNat]) | (with_reducible refine And.intro ?_ ?_) | ((with_reducible refine ite_cases ?_ ?_) <;> intro _))
  all_goals (rw [← numsZ_any]; simp_all)
def effD (least most : Int) (cl dy : Bool) (ch : D) : D := .agg [.v (.int .i64 least), .v (.int .i64 most), .v (.bool cl), .v (.bool dy), ch]
theorem effD_eq (least most : Int) (cl dy : Bool) (ch : D) : effD least most cl dy ch = .agg [.v (.int .i64 least), .v (.int .i64 most), .v (.bool cl), .v (.bool dy), ch] := nr rfl
@[go_sem] theorem effD_cells (least most : Int) (cl dy : Bool) (ch : D) : (effD least most cl dy ch).cells? = some [.v (.int .i64 least), .v (.int .i64 most), .v (.bool cl), .v (.bool dy), ch] := nr rfl
/-- What a kind of patch does. -/
def doesD (k : Int) : D := if k = 2 then .fn (.func 71) [] else if k = 3 ∨ k = 4 then .fn (.func 70) [] else if k = 5 then .fn (.func 72) [] else .v .nilFunc
def kindD (k : Int) : D := if k = 1 ∨ k = 2 ∨ k = 3 ∨ k = 4 ∨ k = 5 then effD (Es.leastOf k) (Es.mostOf k) (k == 1 || k == 2) (k == 5) (doesD k) else effD 0 0 false false (.v .nilFunc)
def effL : List (Value × D) := [1, 2, 3, 4, 5].map fun k => (.int .i64 k, kindD k)
theorem mput_key {d : TypeDesc} {k : Value} {x : D} (hk : isKeyB d k = true) : ∀ {es : List (Value × D)}, (∀ e ∈ es, isKeyB d e.1 = true) → ∀ e ∈ mput k x es, isKeyB d e.1 = true
  | [], _, e, he => by
    simp only [mput, List.mem_singleton] at he; subst he; exact hk
  | (k', y) :: es, h, e, he => by
    unfold mput at he
    split at he
    · rcases List.mem_cons.1 he with rfl | he
      · exact h (k', y) (by simp)
      · exact h e (by simp [he])
    · rcases List.mem_cons.1 he with rfl | he
      · exact h (k', y) (by simp)
      · exact mput_key hk (fun e he => h e (by simp [he])) e he
theorem eff_made : mput (.int .i64 5) (.agg [.v (.int .i64 1), .v (.int .i64 400), .v (.bool false), .v (.bool true), .fn (.func 72) []]) (mput (.int .i64 4) (.agg [.v (.int .i64 1), .v (.int .i64 400), .v (.bool false), .v (.bool false), .fn (.func 70) []])
    (mput (.int .i64 3) (.agg [.v (.int .i64 1), .v (.int .i64 1), .v (.bool false), .v (.bool false), .fn (.func 70) []]) (mput (.int .i64 2) (.agg [.v (.int .i64 1), .v (.int .i64 1), .v (.bool true), .v (.bool false), .fn (.func 71) []])
    (mput (.int .i64 1) (.agg [.v (.int .i64 0), .v (.int .i64 0), .v (.bool true), .v (.bool false), .v .nilFunc]) [])))) = effL := by rfl
theorem effects_spec (X : D → Value → Prop) (N : Nat) (r : Option Nat) (b : Nat) (o : St) (nx : Nat) (K : D → S → Prop)
    (hk : ∀ o' nx' f, nx ≤ f → f < nx' → SameB nx o o' → o' f 0 = some (.mapo effL) → keeps ⟨o, nx⟩ ⟨o', nx'⟩ → WfO o' nx' → K (.mm f 0) ⟨o', nx'⟩) :
    ACall { P := prog, G := gl, X := X, N := N, r := r, b := b } 56 [] ⟨o, nx⟩ K := by
  refine acall_wf fun hw => ?_
  simp only at hw
  refine acall_ofA (M := { P := prog, G := gl, X := X, N := N, r := r, b := b }) func56 rfl results56 ntmps56 (by simp) fun b => ?_
  simp only [go_sem, ↓reduceIte, reduceCtorEq, Nat.reduceEqDiff, Nat.reduceLT, Nat.reduceLeDiff, Nat.reduceAdd, Nat.reduceSub, Nat.reduceMul, Nat.reduceGT, Int.reduceNeg, Int.reduceToNat]
  have h0 : ∀ e ∈ ([] : List (Value × D)), isKeyB (.int .i64) e.1 = true := fun e h => by cases h
  refine ⟨rfl, ⟨rfl, mput_key rfl h0⟩, ⟨rfl, mput_key rfl (mput_key rfl h0)⟩, ⟨rfl, mput_key rfl (mput_key rfl (mput_key rfl h0))⟩, ⟨rfl, mput_key rfl (mput_key rfl (mput_key rfl (mput_key rfl h0)))⟩, ?_⟩
  rw [eff_made]
  have hS : SameB nx o (St.set o nx 0 (some (.mapo effL))) := SameB.set (SameB.refl _ _) (Nat.le_refl _) _ _
  exact hk _ _ nx (Nat.le_refl _) (by omega) hS (by simp [St.set]) (keeps_of hw hS) (hw.set (by omega) (by omega))
theorem eff_keys : ∀ e ∈ effL, isKeyB (.int .i64) e.1 = true := by
  intro e he
  simp only [effL, List.map_cons, List.map_nil, List.mem_cons, List.not_mem_nil, or_false] at he
  rcases he with rfl | rfl | rfl | rfl | rfl <;> rfl
theorem keq_int (a b : Int) : keq (.int .i64 a) (.int .i64 b) = decide (a = b) := by
  show (IntKind.i64 == IntKind.i64 && a == b) = decide (a = b)
  rw [Bool.eq_iff_iff]; simp
theorem mfind_eff (k : Int) : mfind (.int .i64 k) effL = if k = 1 ∨ k = 2 ∨ k = 3 ∨ k = 4 ∨ k = 5 then some (kindD k) else none := by
  simp only [effL, List.map_cons, List.map_nil, mfind, keq_int, decide_eq_true_eq]
  by_cases h1 : 1 = k
  · subst h1; simp
  by_cases h2 : 2 = k
  · subst h2; simp
  by_cases h3 : 3 = k
  · subst h3; simp
  by_cases h4 : 4 = k
  · subst h4; simp
  by_cases h5 : 5 = k
  · subst h5; simp
  rw [if_neg h1, if_neg h2, if_neg h3, if_neg h4, if_neg h5, if_neg (by omega)]
def leastK (k : Int) : Int := if k = 1 ∨ k = 2 ∨ k = 3 ∨ k = 4 ∨ k = 5 then Es.leastOf k else 0
def mostK (k : Int) : Int := if k = 1 ∨ k = 2 ∨ k = 3 ∨ k = 4 ∨ k = 5 then Es.mostOf k else 0
theorem kindD_eq (k : Int) : kindD k = effD (leastK k) (mostK k) (k == 1 || k == 2) (k == 5) (doesD k) := by
  unfold kindD leastK mostK
  by_cases h : k = 1 ∨ k = 2 ∨ k = 3 ∨ k = 4 ∨ k = 5
  · simp only [if_pos h]
  · have h1 : (k == 1 || k == 2) = false := by simp; omega
    have h5 : (k == 5) = false := by simp; omega
    simp only [if_neg h, h1, h5]
    rw [show doesD k = .v .nilFunc from by unfold doesD; rw [if_neg (by omega), if_neg (by omega), if_neg (by omega)]]
def oneOf (k : Int) : Bool := decide (k = 1 ∨ k = 2 ∨ k = 3 ∨ k = 4 ∨ k = 5)
/-- What a look-up among the effects gives. -/
theorem look_eff (k : Int) : ((mfind (.int .i64 k) effL).isSome = oneOf k) ∧ (mfind (.int .i64 k) effL).getD (D.agg [.v (.int .i64 0), .v (.int .i64 0), .v (.bool false), .v (.bool false), .v .nilFunc]) = kindD k := by
  rw [mfind_eff]
  by_cases h : k = 1 ∨ k = 2 ∨ k = 3 ∨ k = 4 ∨ k = 5
  · rw [if_pos h]
    exact ⟨by simp [oneOf, h], by rw [Option.getD_some]⟩
  · rw [if_neg h]
    refine ⟨by simp [oneOf]; omega, ?_⟩
    unfold kindD
    rw [if_neg h]; rfl
theorem mostK_le (k : Int) : mostK k ≤ 400 := by
  unfold mostK Es.mostOf; repeat' split
  all_goals omega
theorem pu_doesD (k : Int) : Pu (doesD k) := by
  unfold doesD; repeat' split
  all_goals first | exact .v _ | exact Pu_fn trivial
theorem pu_eff (a b : Int) (x y : Bool) (k : Int) : Pu (effD a b x y (doesD k)) := Pu_agg ⟨.v _, .v _, .v _, .v _, pu_doesD k, trivial⟩
/-- Is it a patch, but for the clauses' order and the days? -/
def formedA (p : Es.Patch) : Bool := oneOf p.kind && !decide (Es.len p.clauses < leastK p.kind) && !decide (mostK p.kind < Es.len p.clauses) && ((p.kind == 1 || p.kind == 2) || Es.zeroClause p.new)
theorem oneOf_eq (k : Int) : oneOf k = (decide (1 ≤ k) && decide (k ≤ 5)) := by unfold oneOf; rw [Bool.eq_iff_iff]; simp; omega
theorem formed_eq (c : Es.Contract) (p : Es.Patch) : Es.formed c p = (formedA p && Es.inOrder (Es.len c.clauses) p.clauses && if p.kind == 5 then decide (1 ≤ p.days) && decide (p.days ≤ 400) else p.days == 0) := by
  unfold Es.formed formedA leastK mostK
  rw [oneOf_eq]
  by_cases hk : 1 ≤ p.kind ∧ p.kind ≤ 5
  · rw [if_pos (show p.kind = 1 ∨ p.kind = 2 ∨ p.kind = 3 ∨ p.kind = 4 ∨ p.kind = 5 by omega), if_pos (show p.kind = 1 ∨ p.kind = 2 ∨ p.kind = 3 ∨ p.kind = 4 ∨ p.kind = 5 by omega)]
    simp only [hk.1, hk.2, decide_true, Bool.and_self, Bool.not_true, Bool.false_or, Bool.true_and]
    generalize decide (Es.len p.clauses < Es.leastOf p.kind) = a
    generalize decide (Es.mostOf p.kind < Es.len p.clauses) = b
    generalize (p.kind == 1 || p.kind == 2) = d
    generalize Es.zeroClause p.new = z
    generalize Es.inOrder (Es.len c.clauses) p.clauses = o
    cases a <;> cases b <;> cases d <;> cases z <;> cases o <;> simp
  · have : (decide (1 ≤ p.kind) && decide (p.kind ≤ 5)) = false := by
      rw [Bool.eq_false_iff]; simpa using hk
    simp [this]
theorem formed_bad {c : Es.Contract} {p : Es.Patch} (h : formedA p = false) : Es.formed c p = false := by rw [formed_eq, h]; rfl
theorem formed_order {c : Es.Contract} {p : Es.Patch} {k : Nat} (hk : k < p.clauses.length) (h : Es.inOrdB (Es.len c.clauses) p.clauses k = false) : Es.formed c p = false := by
  rw [formed_eq, show Es.inOrder (Es.len c.clauses) p.clauses = false from Es.allN_bad hk h]; simp
theorem formedA_true {p : Es.Patch} (h1 : (!oneOf p.kind) = false) (h2 : decide (Es.len p.clauses < leastK p.kind) = false) (h3 : decide (mostK p.kind < Es.len p.clauses) = false) (h4 : ¬ (!(p.kind == 1 || p.kind == 2)) = true ∨ ¬ (!Es.zeroClause p.new) = true) : formedA p = true := by
  unfold formedA
  rw [h2, h3]
  revert h1 h4
  generalize oneOf p.kind = a
  generalize (p.kind == 1 || p.kind == 2) = d
  generalize Es.zeroClause p.new = z
  cases a <;> cases d <;> cases z <;> decide
theorem inOrdB_false {n : Int} {l : List Int} {k : Nat} (h : Es.at_ l (k : Int) < 0 ∨ n ≤ Es.at_ l (k : Int) ∨ (0 < (k : Int) ∧ Es.at_ l (k : Int) ≤ Es.at_ l ((k : Int) - 1))) : Es.inOrdB n l k = false := by
  rw [Bool.eq_false_iff]
  intro hh
  simp only [Es.inOrdB, Bool.and_eq_true, Bool.or_eq_true, decide_eq_true_eq] at hh
  omega
theorem inOrdB_true {n : Int} {l : List Int} {k : Nat} (h1 : ¬ Es.at_ l (k : Int) < 0) (h2 : ¬ n ≤ Es.at_ l (k : Int)) (h3 : ¬ 0 < (k : Int) ∨ ¬ Es.at_ l (k : Int) ≤ Es.at_ l ((k : Int) - 1)) : Es.inOrdB n l k = true := by
  simp only [Es.inOrdB, Bool.and_eq_true, Bool.or_eq_true, decide_eq_true_eq]
  omega
theorem formed_spec (c : Es.Contract) (p : Es.Patch) : APure M 33 [conD c, patD p] (.tup [kindD p.kind, .v (.bool (Es.formed c p))]) := by
  refine pure_of gpu func33 rfl results33 ntmps33 (by simp) ⟨pu_conD _, pu_patD _, trivial⟩ ?_
  intro b
  simp only [go_sem, ↓reduceIte, reduceCtorEq, Nat.reduceEqDiff, Nat.reduceLT, Nat.reduceLeDiff, Nat.reduceAdd, Nat.reduceSub, Nat.reduceMul, Nat.reduceGT, Int.reduceNeg, Int.reduceToNat]
  obtain ⟨hl1, hl2⟩ := look_eff p.kind
  refine AWp.mono (Q := fun x e s => x = .normal ∧ e 3 = .mp 1 0 19 0 0 ∧ e 2 = .mp 0 0 7 0 0 ∧ e 4 = .mp 2 0 5 0 0 ∧ s.o 2 0 = some (.blk 5 1 85 (rowOf [.v (.int .i64 0), .v (.int .i64 0), .v (.bool false), .v (.bool false), .v .nilFunc])) ∧ ∃ g, g ≠ 0 ∧ g ≠ 1 ∧ g ≠ 2 ∧ e 6 = .mp g 0 5 0 0 ∧ s.o g 0 = some (.blk 5 1 85 (rowOf [.v (.int .i64 (leastK p.kind)), .v (.int .i64 (mostK p.kind)), .v (.bool (p.kind == 1 || p.kind == 2)), .v (.bool (p.kind == 5)), doesD p.kind])) ∧ e 7 = .v (.bool (oneOf p.kind)) ∧
    s.o 0 0 = some (.blk 7 1 27 (rowOf [.v (.int .i64 c.parties), slD 1 intC c.holders, slD 5 untC c.units, slD 7 actC c.acts, slD 16 clsC c.clauses, .v (.int .i64 c.days), slD 1 intC c.off])) ∧
    s.o 1 0 = some (.blk 19 1 34 (rowOf [.v (.int .i64 p.kind), slD 1 intC p.clauses, .v (.int .i64 p.new.kind), .v (.int .i64 p.new.role), .v (.int .i64 p.new.act), .v (.int .i64 p.new.need), slD 2 condC p.new.start, .v (.int .i64 p.new.after), .v (.int .i64 p.new.grace), .v (.bool p.new.business), .v (.bool p.new.final), .v (.int .i64 p.new.pause), .v (.int .i64 p.new.resume), .v (.int .i64 p.new.value.num), .v (.int .i64 p.new.value.den), .v (.int .i64 p.new.unit), .v (.int .i64 p.new.to), .v (.bool p.new.waived), .v (.int .i64 p.days)]))) ?_ ?_
  · refine awp_plan ((.op 1 (.op 2 (.alt 0 (.alt 3 (.op 4 (.op 5 (.op 6 (.op 7 (.op 8 (.op 9 .done)))))) (.alt 7 (.op 3 (.op 4 (.op 5 (.op 6 (.op 8 (.op 9 .done)))))) .dead)) (.alt 7 (.op 0 (.op 3 (.op 4 (.op 5 (.op 6 (.op 8 (.op 9 .done))))))) .dead))))) [8] mix (by kernel_rfl) ?_
    simp only [go_sem, ↓reduceIte, reduceCtorEq, Nat.reduceEqDiff, Nat.reduceLT, Nat.reduceLeDiff, Nat.reduceAdd, Nat.reduceSub, Nat.reduceMul, Nat.reduceGT, Int.reduceNeg, Int.reduceToNat]
    refine ⟨?_, ?_⟩
    · apply effects_spec
      intro o1 n1 f hf1 hf2 hs hm hkp hw
      have g0 := hs 0 0 (by omega)
      have g1 := hs 1 0 (by omega)
      have g2 := hs 2 0 (by omega)
      simp only [go_sem, ↓reduceIte, reduceCtorEq, Nat.reduceEqDiff, Nat.reduceLT, Nat.reduceLeDiff, Nat.reduceAdd, Nat.reduceSub, Nat.reduceMul, Nat.reduceGT, Int.reduceNeg, Int.reduceToNat] at g0 g1 g2
      have hn : o1 n1 0 = none := hw n1 0 (Nat.le_refl _)
      have e0 : ∀ {a b : Nat}, a ≠ b → (a = b) = False := fun h => by simp [h]
      have z1 : (0 = 1) = False := e0 (by omega); have z2 : (0 = 2) = False := e0 (by omega); have z3 : (0 = f) = False := e0 (by omega); have z4 : (0 = n1) = False := e0 (by omega); have z5 : (1 = 0) = False := e0 (by omega); have z6 : (1 = 2) = False := e0 (by omega); have z7 : (1 = f) = False := e0 (by omega); have z8 : (1 = n1) = False := e0 (by omega); have z9 : (2 = 0) = False := e0 (by omega); have z10 : (2 = 1) = False := e0 (by omega); have z11 : (2 = f) = False := e0 (by omega); have z12 : (2 = n1) = False := e0 (by omega); have z13 : (f = 0) = False := e0 (by omega); have z14 : (f = 1) = False := e0 (by omega); have z15 : (f = 2) = False := e0 (by omega); have z16 : (f = n1) = False := e0 (by omega); have z17 : (n1 = 0) = False := e0 (by omega); have z18 : (n1 = 1) = False := e0 (by omega); have z19 : (n1 = 2) = False := e0 (by omega); have z20 : (n1 = f) = False := e0 (by omega)
      have hI : (IntKind.i64 == IntKind.i64) = true := rfl
      have fin : ∃ g, g ≠ 0 ∧ g ≠ 1 ∧ g ≠ 2 ∧ D.mp n1 0 5 0 0 = D.mp g 0 5 0 0 ∧ (if g = n1 then some (SObj.blk 5 1 85 (rowOf [.v (.int .i64 (leastK p.kind)), .v (.int .i64 (mostK p.kind)), .v (.bool (p.kind == 1 || p.kind == 2)), .v (.bool (p.kind == 5)), doesD p.kind])) else o1 g 0) = some (SObj.blk 5 1 85 (rowOf [.v (.int .i64 (leastK p.kind)), .v (.int .i64 (mostK p.kind)), .v (.bool (p.kind == 1 || p.kind == 2)), .v (.bool (p.kind == 5)), doesD p.kind])) := ⟨n1, by omega, by omega, by omega, rfl, by simp⟩
      have hkp2 : ∀ B, keeps ⟨o1, n1⟩ ⟨St.set o1 n1 0 B, n1 + 1⟩ := fun B => (by simp only [keeps_new hn])
      have hkeys : (∀ e ∈ effL, isKeyB (.int .i64) e.1 = true) = True := eq_true eff_keys
      simp only [go_sem, ↓reduceIte, reduceCtorEq, Nat.reduceEqDiff, Nat.reduceLT, Nat.reduceLeDiff, Nat.reduceAdd, Nat.reduceSub, Nat.reduceMul, Nat.reduceGT, Int.reduceNeg, Int.reduceToNat, hm, g0, g1, g2, hl1, hl2, kindD_eq, z1, z2, z3, z4, z5, z6, z7, z8, z9, z10, z11, z12, z13, z14, z15, z16, z17, z18, z19, z20, hkp, keeps_new hn, hI, hkeys]
      exact ⟨fin, fin⟩
    · apply effects_spec
      intro o1 n1 f hf1 hf2 hs hm hkp hw
      have g0 := hs 0 0 (by omega)
      have g1 := hs 1 0 (by omega)
      have g2 := hs 2 0 (by omega)
      have g3 := hs 3 0 (by omega)
      simp only [go_sem, ↓reduceIte, reduceCtorEq, Nat.reduceEqDiff, Nat.reduceLT, Nat.reduceLeDiff, Nat.reduceAdd, Nat.reduceSub, Nat.reduceMul, Nat.reduceGT, Int.reduceNeg, Int.reduceToNat] at g0 g1 g2 g3
      have hI : (IntKind.i64 == IntKind.i64) = true := rfl
      have hkeys : (∀ e ∈ effL, isKeyB (.int .i64) e.1 = true) = True := eq_true eff_keys
      simp only [go_sem, ↓reduceIte, reduceCtorEq, Nat.reduceEqDiff, Nat.reduceLT, Nat.reduceLeDiff, Nat.reduceAdd, Nat.reduceSub, Nat.reduceMul, Nat.reduceGT, Int.reduceNeg, Int.reduceToNat, hm, g0, g1, g2, g3, hl1, hl2, kindD_eq, hkp, hI, hkeys]
      exact ⟨3, by omega, by omega, by omega, rfl, by simp⟩
  rintro x e ⟨o, nx⟩ ⟨rfl, h3, h2, h4, ho2, g, hg0, hg1, hg2, h6, hg, h7, ho0, ho1⟩
  simp only at hg ho0 ho1 ho2
  have y0 : (g = 0) = False := by simp [hg0]
  have y1 : (g = 1) = False := by simp [hg1]
  have y2 : (g = 2) = False := by simp [hg2]
  simp only [go_sem, ↓reduceIte, reduceCtorEq, Nat.reduceEqDiff, Nat.reduceLT, Nat.reduceLeDiff, Nat.reduceAdd, Nat.reduceSub, Nat.reduceMul, Nat.reduceGT, Int.reduceNeg, Int.reduceToNat, h3, h2, h4, h6, h7, ho0, ho1, ho2, hg, y0, y1, y2]
  repeat' (first | ((with_reducible refine call_at M_P M_G (zero_spec p.new) ?_); simp only [go_sem, ↓reduceIte, reduceCtorEq, Nat.reduceEqDiff, Nat.reduceLT, Nat.reduceLeDiff, Nat.reduceAdd, Nat.reduceSub, Nat.reduceMul, Nat.reduceGT, Int.reduceNeg, Int.reduceToNat, h3, h2, h4, h6, h7, ho0, ho1, ho2, hg, y0, y1, y2]) | (with_reducible refine And.intro ?_ ?_) | ((with_reducible refine ite_cases ?_ ?_) <;> intro _))
  all_goals first
    | (refine Fz_tup ⟨?_, ?_, trivial⟩
       · rw [kindD_eq]; exact (pu_eff _ _ _ _ _).fz
       · rw [formed_bad (by unfold formedA; simp_all)]; exact .v _)
    | skip
  all_goals
    have hb : p.clauses.length ≤ 400 := by
      have h1 : decide (mostK p.kind < Es.len p.clauses) = false := ‹_›
      have h2 := mostK_le p.kind
      have h3 := of_decide_eq_false h1
      simp only [Es.len] at h3; omega
    refine awp_count0 p.clauses.length (fun e0 s0 k e s => (e 2 = e0 2 ∧ e 3 = e0 3 ∧ e 4 = e0 4 ∧ e 6 = e0 6 ∧ e 48 = e0 48 ∧ e 49 = e0 49) ∧ e 50 = .v (.int .i64 k) ∧ s = s0 ∧ ∀ j : Nat, j < k → Es.inOrdB (Es.len c.clauses) p.clauses j = true) ⟨⟨rfl, rfl, rfl, rfl, rfl, rfl⟩, ?_, rfl, (by omega)⟩ ?_
    · simp only [go_sem, ↓reduceIte, reduceCtorEq, Nat.reduceEqDiff, Nat.reduceLT, Nat.reduceLeDiff, Nat.reduceAdd, Nat.reduceSub, Nat.reduceMul, Nat.reduceGT, Int.reduceNeg, Int.reduceToNat]; rfl
    rintro k e s hk ⟨⟨h2', h3', h4', h6', h48, h49⟩, h50, rfl, hall⟩
    simp only [go_sem, ↓reduceIte, reduceCtorEq, Nat.reduceEqDiff, Nat.reduceLT, Nat.reduceLeDiff, Nat.reduceAdd, Nat.reduceSub, Nat.reduceMul, Nat.reduceGT, Int.reduceNeg, Int.reduceToNat, h3, h2, h4, h6, h7, ho0, ho1, ho2, hg, y0, y1, y2] at h2' h3' h4' h6' h48 h49
    simp only [go_sem, ↓reduceIte, reduceCtorEq, Nat.reduceEqDiff, Nat.reduceLT, Nat.reduceLeDiff, Nat.reduceAdd, Nat.reduceSub, Nat.reduceMul, Nat.reduceGT, Int.reduceNeg, Int.reduceToNat, h2', h3', h4', h6', h48, h49, h50, ho0, ho1, ho2, hg, y0, y1, y2]
    have hw : IntKind.i64.wrap ((k : Int) - 1) = (k : Int) - 1 := wrap_i64 _ (by omega) (by omega)
    have hw2 : IntKind.i64.wrap ((k : Int) + 1) = (k : Int) + 1 := wrap_i64 _ (by omega) (by omega)
    refine ite_cases (fun hlt => ?_) (fun hlt => ?_)
    · have hlt' : k < p.clauses.length := Es.len_lt.1 hlt
      refine ⟨⟨by omega, hlt⟩, ?_⟩
      have hA : formedA p = true := formedA_true ‹_› ‹_› ‹_› (by first | exact .inl ‹_› | exact .inr ‹_›)
      repeat' (first | (with_reducible refine And.intro ?_ ?_) | ((with_reducible refine ite_cases ?_ ?_) <;> intro _))
      all_goals first
        | (rw [hw]; omega)
        | (rw [hw]; simp only [Es.len] at hlt ⊢; omega)
        | (refine Fz_tup ⟨?_, ?_, trivial⟩
           · rw [kindD_eq]; exact (pu_eff _ _ _ _ _).fz
           · rw [formed_order (k := k) hlt' (inOrdB_false (by simp only [decide_eq_true_eq, decide_eq_false_iff_not, hw] at *; omega))]; exact .v _)
        | (refine ⟨hlt', ?_⟩
           simp only [go_sem, ↓reduceIte, reduceCtorEq, Nat.reduceEqDiff, Nat.reduceLT, Nat.reduceLeDiff, Nat.reduceAdd, Nat.reduceSub, Nat.reduceMul, Nat.reduceGT, Int.reduceNeg, Int.reduceToNat, h2', h3', h4', h6', h48, h49, h50, h3, h2, h4, h6, hw2]
           refine ⟨by simp, Es.upto_step hall (inOrdB_true ?_ ?_ ?_)⟩ <;> (simp only [decide_eq_true_eq, decide_eq_false_iff_not, hw] at *; omega))
    · have hA : formedA p = true := formedA_true ‹_› ‹_› ‹_› (by first | exact .inl ‹_› | exact .inr ‹_›)
      have hO : Es.inOrder (Es.len c.clauses) p.clauses = true := Es.allN_end (k := k) (by simp only [Es.len] at hlt; omega) hall
      repeat' (first | (with_reducible refine And.intro ?_ ?_) | ((with_reducible refine ite_cases ?_ ?_) <;> intro _))
      · refine awp_plan ((.op 0 (.op 1 (.op 2 (.op 3 (.op 4 (.op 5 (.alt 6 (.op 7 (.op 8 (.op 9 (.op 10 .done)))) (.alt 9 (.op 6 (.op 7 (.op 8 (.op 10 .done)))) .dead))))))))) [9] mix (by kernel_rfl) ?_
        simp only [go_sem, ↓reduceIte, reduceCtorEq, Nat.reduceEqDiff, Nat.reduceLT, Nat.reduceLeDiff, Nat.reduceAdd, Nat.reduceSub, Nat.reduceMul, Nat.reduceGT, Int.reduceNeg, Int.reduceToNat, h2', h3', h4', h6', h48, h49, h50, ho0, ho1, ho2, hg, y0, y1, y2]
        repeat' (first | (with_reducible refine And.intro ?_ ?_) | ((with_reducible refine ite_cases ?_ ?_) <;> intro _))
        all_goals
          refine Fz_tup ⟨by rw [kindD_eq]; exact (pu_eff _ _ _ _ _).fz, (Fz_v _ _ _).2 (congrArg Value.bool ?_), trivial⟩
          rw [formed_eq, hA, hO]
          first | (simp_all; done) | (simp_all; intros; omega)
      · refine awp_plan ((.op 0 (.op 1 (.alt 2 (.op 3 (.op 4 (.op 5 .done))) (.alt 4 (.op 2 (.op 3 (.op 5 .done))) .dead))))) [4] mix (by kernel_rfl) ?_
        simp only [go_sem, ↓reduceIte, reduceCtorEq, Nat.reduceEqDiff, Nat.reduceLT, Nat.reduceLeDiff, Nat.reduceAdd, Nat.reduceSub, Nat.reduceMul, Nat.reduceGT, Int.reduceNeg, Int.reduceToNat, h2', h3', h4', h6', h48, h49, h50, ho0, ho1, ho2, hg, y0, y1, y2]
        repeat' (first | (with_reducible refine And.intro ?_ ?_) | ((with_reducible refine ite_cases ?_ ?_) <;> intro _))
        all_goals
          refine Fz_tup ⟨by rw [kindD_eq]; exact (pu_eff _ _ _ _ _).fz, (Fz_v _ _ _).2 (congrArg Value.bool ?_), trivial⟩
          rw [formed_eq, hA, hO]
          first | (simp_all; done) | (simp_all; intros; omega)
theorem pvalid_spec (c : Es.Contract) (hf : Es.Fits c) : APure M 34 [conD c] (.v (.bool ((Es.valid2 c).1 == 0))) := by
  refine pure_of gpu func34 rfl results34 ntmps34 (by simp) ⟨pu_conD _, trivial⟩ ?_
  intro b
  simp only [go_sem, ↓reduceIte, reduceCtorEq, Nat.reduceEqDiff, Nat.reduceLT, Nat.reduceLeDiff, Nat.reduceAdd, Nat.reduceSub, Nat.reduceMul, Nat.reduceGT, Int.reduceNeg, Int.reduceToNat]
  repeat' (first | ((with_reducible refine call_at M_P M_G (valid2_spec c hf) ?_); simp only [go_sem, ↓reduceIte, reduceCtorEq, Nat.reduceEqDiff, Nat.reduceLT, Nat.reduceLeDiff, Nat.reduceAdd, Nat.reduceSub, Nat.reduceMul, Nat.reduceGT, Int.reduceNeg, Int.reduceToNat]) | (with_reducible refine And.intro ?_ ?_) | ((with_reducible refine ite_cases ?_ ?_) <;> intro _))
end Tryz
end Go.Proofs
end
section
namespace Go.Proofs
open Go Go.Abs
set_option linter.unusedSimpArgs false
set_option linter.unusedVariables false
set_option maxRecDepth 10000
namespace Tryz
theorem eff1_spec (X : D → Value → Prop) (N : Nat) (r : Option Nat) (b : Nat) (p : Es.Patch) (f i n : Nat) (ty : TypeId) (l : List Es.Clause) (o : St) (nx : Nat) (K : D → S → Prop) (ho : o f 0 = some (.blk 16 n ty (rowsOf clsC l))) (hf : f < nx) (hn : l.length = n) (hi : i < n)
    (hk : ∀ o' nx', nx ≤ nx' → (∀ g j, g < nx → ¬ (g = f ∧ j = 0) → o' g j = o g j) → o' f 0 = some (.blk 16 n ty (rowsOf clsC (l.set i { Es.at_ l (i : Int) with waived := true }))) → K (.tup []) ⟨o', nx'⟩) :
    ACall { P := prog, G := gl, X := X, N := N, r := r, b := b } 70 [patD p, .mp f 0 16 i 0] ⟨o, nx⟩ K := by
  have n0 : (f = nx) = False := by simp only [eq_iff_iff, iff_false]; omega
  have n1 : (nx = f) = False := by simp only [eq_iff_iff, iff_false]; omega
  have hi' : i < l.length := by omega
  refine acall_ofA (M := { P := prog, G := gl, X := X, N := N, r := r, b := b }) func70 rfl results70 ntmps70 (by simp) fun b => ?_
  simp only [go_sem, ↓reduceIte, reduceCtorEq, Nat.reduceEqDiff, Nat.reduceLT, Nat.reduceLeDiff, Nat.reduceAdd, Nat.reduceSub, Nat.reduceMul, Nat.reduceGT, Int.reduceNeg, Int.reduceToNat]
  simp only [go_sem, ↓reduceIte, reduceCtorEq, Nat.reduceEqDiff, Nat.reduceLT, Nat.reduceLeDiff, Nat.reduceAdd, Nat.reduceSub, Nat.reduceMul, Nat.reduceGT, Int.reduceNeg, Int.reduceToNat, ho, n0, n1, setC_cls15 hi']
  exact ⟨hi, hk _ _ (by omega) (fun g j hg hne => by simp only [St.set]; rw [if_neg hne, if_neg (by omega)]) (by simp [St.set])⟩
theorem eff2_spec (X : D → Value → Prop) (N : Nat) (r : Option Nat) (b : Nat) (p : Es.Patch) (f i n : Nat) (ty : TypeId) (l : List Es.Clause) (o : St) (nx : Nat) (K : D → S → Prop) (ho : o f 0 = some (.blk 16 n ty (rowsOf clsC l))) (hf : f < nx) (hn : l.length = n) (hi : i < n)
    (hk : ∀ o' nx', nx ≤ nx' → (∀ g j, g < nx → ¬ (g = f ∧ j = 0) → o' g j = o g j) → o' f 0 = some (.blk 16 n ty (rowsOf clsC (l.set i p.new))) → K (.tup []) ⟨o', nx'⟩) :
    ACall { P := prog, G := gl, X := X, N := N, r := r, b := b } 71 [patD p, .mp f 0 16 i 0] ⟨o, nx⟩ K := by
  have n0 : (f = nx) = False := by simp only [eq_iff_iff, iff_false]; omega
  have n1 : (nx = f) = False := by simp only [eq_iff_iff, iff_false]; omega
  have hi' : i < l.length := by omega
  refine acall_ofA (M := { P := prog, G := gl, X := X, N := N, r := r, b := b }) func71 rfl results71 ntmps71 (by simp) fun b => ?_
  simp only [go_sem, ↓reduceIte, reduceCtorEq, Nat.reduceEqDiff, Nat.reduceLT, Nat.reduceLeDiff, Nat.reduceAdd, Nat.reduceSub, Nat.reduceMul, Nat.reduceGT, Int.reduceNeg, Int.reduceToNat]
  simp only [go_sem, ↓reduceIte, reduceCtorEq, Nat.reduceEqDiff, Nat.reduceLT, Nat.reduceLeDiff, Nat.reduceAdd, Nat.reduceSub, Nat.reduceMul, Nat.reduceGT, Int.reduceNeg, Int.reduceToNat, ho, n0, n1, setC_cls hi']
  exact ⟨hi, hk _ _ (by omega) (fun g j hg hne => by simp only [St.set]; rw [if_neg hne, if_neg (by omega)]) (by simp [St.set])⟩
theorem eff3_spec (X : D → Value → Prop) (N : Nat) (r : Option Nat) (b : Nat) (p : Es.Patch) (f i n : Nat) (ty : TypeId) (l : List Es.Clause) (o : St) (nx : Nat) (K : D → S → Prop) (ho : o f 0 = some (.blk 16 n ty (rowsOf clsC l))) (hf : f < nx) (hn : l.length = n) (hi : i < n)
    (hk : ∀ o' nx', nx ≤ nx' → (∀ g j, g < nx → ¬ (g = f ∧ j = 0) → o' g j = o g j) → o' f 0 = some (.blk 16 n ty (rowsOf clsC (l.set i { Es.at_ l (i : Int) with after := p.days }))) → K (.tup []) ⟨o', nx'⟩) :
    ACall { P := prog, G := gl, X := X, N := N, r := r, b := b } 72 [patD p, .mp f 0 16 i 0] ⟨o, nx⟩ K := by
  have n0 : (f = nx) = False := by simp only [eq_iff_iff, iff_false]; omega
  have n1 : (nx = f) = False := by simp only [eq_iff_iff, iff_false]; omega
  have hi' : i < l.length := by omega
  refine acall_ofA (M := { P := prog, G := gl, X := X, N := N, r := r, b := b }) func72 rfl results72 ntmps72 (by simp) fun b => ?_
  simp only [go_sem, ↓reduceIte, reduceCtorEq, Nat.reduceEqDiff, Nat.reduceLT, Nat.reduceLeDiff, Nat.reduceAdd, Nat.reduceSub, Nat.reduceMul, Nat.reduceGT, Int.reduceNeg, Int.reduceToNat]
  simp only [go_sem, ↓reduceIte, reduceCtorEq, Nat.reduceEqDiff, Nat.reduceLT, Nat.reduceLeDiff, Nat.reduceAdd, Nat.reduceSub, Nat.reduceMul, Nat.reduceGT, Int.reduceNeg, Int.reduceToNat, ho, n0, n1, setC_cls5 hi']
  exact ⟨hi, hk _ _ (by omega) (fun g j hg hne => by simp only [St.set]; rw [if_neg hne, if_neg (by omega)]) (by simp [St.set])⟩

/-- What a patch does to a clause that it names. -/
theorem does_all (p : Es.Patch) (hp : 2 ≤ p.kind ∧ p.kind ≤ 5) : ∃ g, doesD p.kind = .fn (.func g) [] ∧ callable prog g = true ∧
    ∀ (X : D → Value → Prop) (N : Nat) (r : Option Nat) (b : Nat) (f i n : Nat) (ty : TypeId) (l : List Es.Clause) (o : St) (nx : Nat) (K : D → S → Prop), o f 0 = some (.blk 16 n ty (rowsOf clsC l)) → f < nx → l.length = n → i < n →
    (∀ o' nx', nx ≤ nx' → (∀ g j, g < nx → ¬ (g = f ∧ j = 0) → o' g j = o g j) → o' f 0 = some (.blk 16 n ty (rowsOf clsC (l.set i (Es.change p (Es.at_ l (i : Int)))))) → K (.tup []) ⟨o', nx'⟩) →
    ACall { P := prog, G := gl, X := X, N := N, r := r, b := b } g [patD p, .mp f 0 16 i 0] ⟨o, nx⟩ K := by
  by_cases h2 : p.kind = 2
  · refine ⟨71, by unfold doesD; rw [if_pos h2], by simp only [go_sem], fun X N r b f i n ty l o nx K ho hf hn hi hk => eff2_spec X N r b p f i n ty l o nx K ho hf hn hi ?_⟩
    rwa [show Es.change p (Es.at_ l (i : Int)) = p.new by unfold Es.change; rw [if_pos (by simpa using h2)]] at hk
  by_cases h34 : p.kind = 3 ∨ p.kind = 4
  · refine ⟨70, by unfold doesD; rw [if_neg h2, if_pos h34], by simp only [go_sem], fun X N r b f i n ty l o nx K ho hf hn hi hk => eff1_spec X N r b p f i n ty l o nx K ho hf hn hi ?_⟩
    rwa [show Es.change p (Es.at_ l (i : Int)) = { Es.at_ l (i : Int) with waived := true } by unfold Es.change; rw [if_neg (by simpa using h2), if_neg (by simp; omega)]] at hk
  have h5 : p.kind = 5 := by omega
  refine ⟨72, by unfold doesD; rw [if_neg h2, if_neg h34, if_pos h5], by simp only [go_sem], fun X N r b f i n ty l o nx K ho hf hn hi hk => eff3_spec X N r b p f i n ty l o nx K ho hf hn hi ?_⟩
  rwa [show Es.change p (Es.at_ l (i : Int)) = { Es.at_ l (i : Int) with after := p.days } by unfold Es.change; rw [if_neg (by simpa using h2), if_pos (by simpa using h5)]] at hk
theorem cloneC_spec (X : D → Value → Prop) (N : Nat) (r : Option Nat) (b : Nat) (l : List Es.Clause) (hl : l.length ≤ 100000000) (o : St) (nx : Nat) (K : D → S → Prop) (hw : WfO o nx)
    (hk : ∀ o' nx' f, nx ≤ f → f < nx' → SameB nx o o' → WfO o' nx' → o' f 0 = some (.blk 16 l.length 32 (rowsOf clsC l)) → K (.ms f 0 16 0 l.length) ⟨o', nx'⟩) :
    ACall { P := prog, G := gl, X := X, N := N, r := r, b := b } 35 [slD 16 clsC l] ⟨o, nx⟩ K := by
  refine acall_nil 16 32 (rowsOf clsC l) ?_
  refine acall_ofA (M := { P := prog, G := gl, X := X, N := N, r := r, b := b }) func35 rfl results35 ntmps35 (by simp) fun b => ?_
  simp only [go_sem, ↓reduceIte, reduceCtorEq, Nat.reduceEqDiff, Nat.reduceLT, Nat.reduceLeDiff, Nat.reduceAdd, Nat.reduceSub, Nat.reduceMul, Nat.reduceGT, Int.reduceNeg, Int.reduceToNat]
  intro q hq
  refine ite_cases (fun h => ?_) (fun h => ?_)
  · have h0 := hq h
    refine .inr ?_
    have := hk (St.set o nx 0 (some (.blk 16 0 32 (rowsOf clsC l)))) (nx + 1) nx (Nat.le_refl _) (by omega) (SameB.set (SameB.refl _ _) (Nat.le_refl _) _ _) (hw.set (by omega) (by omega)) (by simp [St.set, h0])
    rw [h0] at this; exact this
  · refine ⟨⟨by omega, by omega⟩, ?_⟩
    have hc : ∀ cell, appC cell 0 (rowsOf clsC l) = rowsOf clsC l := fun cell => by funext r c; simp [appC]
    rw [hc, Nat.zero_add]
    exact hk _ _ (nx + 1) (by omega) (by omega) (SameB.set (SameB.set (SameB.refl _ _) (Nat.le_refl _) _ _) (by omega) _ _) ((hw.set (nx' := nx + 1) (by omega) (by omega)).set (by omega) (by omega)) (by simp [St.set])
end Tryz
end Go.Proofs
end
section
/-
  An abstract machine over the model, part 16: what lies beyond a block's rows is nobody's concern.
-/
namespace Go.Abs
open Go
/-- The store may be told otherwise, where every configuration that fits the one fits the other. -/
theorem AWp.sim {M : Ctx} {c : Code} {Q Q' : Exit → Env → S → Prop} {e : Env} {s : S} (h : AWp M c Q e s) (hq : ∀ x e s, Q x e s → ∃ s', (∀ cf : Cfg, cf.Ok s → cf.Ok s') ∧ Q' x e s') : AWp M c Q' e s :=
  fun cf a n hE hok => wpIn_mono (h cf a n hE hok) fun x _ _ ⟨cf', e', s', h1, h2, h3, h4, h5⟩ =>
    let ⟨s'', g1, g2⟩ := hq x e' s' h5
    ⟨cf', e', s'', h1, h2, h3, g1 cf' h4, g2⟩
theorem ACall.sim {M : Ctx} {f : FuncId} {args : List D} {s : S} {K K' : D → S → Prop} (h : ACall M f args s K) (hk : ∀ d s, K d s → ∃ s', (∀ cf : Cfg, cf.Ok s → cf.Ok s') ∧ K' d s') : ACall M f args s K' :=
  fun c vals h1 h2 h3 h4 => (h c vals h1 h2 h3 h4).mono fun _ _ ⟨c', v, d, s', g1, g2, g3, g4, g5, g6⟩ =>
    let ⟨s'', k1, k2⟩ := hk d s' g6
    ⟨c', v, d, s'', g1, g2, g3, k1 c' g4, g5, k2⟩
theorem cells_sim {s : S} {f i k n : Nat} {ty : TypeId} {cell cell' : Nat → Nat → D} (hB : s.o f i = some (.blk k n ty cell)) (hc : ∀ r c, r < n → c < k → cell r c = cell' r c) (cf : Cfg) (h : cf.Ok s) : cf.Ok (s.put f i (.blk k n ty cell')) where
  kb := h.kb
  βb := h.βb
  fresh := h.fresh
  obj f1 i1 B1 hB1 := by
    change (if f1 = f ∧ i1 = i then some (SObj.blk k n ty cell') else s.o f1 i1) = some B1 at hB1
    split at hB1
    · rename_i hh
      obtain ⟨rfl, rfl⟩ := hh
      cases hB1
      obtain ⟨h1, h2⟩ := h.obj _ _ _ hB
      refine ⟨h1, ?_⟩
      rcases h2 with ⟨b, cp, g1, g2, g3, arr, g4, g5, g6⟩ | ⟨g1, g2⟩
      · exact .inl ⟨b, cp, g1, g2, g3, arr, g4, g5, fun r c hr hc' => by rw [← hc r c hr hc']; exact g6 r c hr hc'⟩
      · exact .inr ⟨g1, g2⟩
    · exact h.obj f1 i1 B1 hB1
  inj f1 i1 f2 i2 B1 B2 b cp1 cp2 h1 h2 h3 h4 := by
    have hl : ∀ f' i' B0, St.set s.o f i (some (.blk k n ty cell')) f' i' = some B0 → ∃ B1, s.o f' i' = some B1 := by
      intro f' i' B0 hh
      change (if f' = f ∧ i' = i then some (SObj.blk k n ty cell') else s.o f' i') = some B0 at hh
      split at hh
      · rename_i e; obtain ⟨rfl, rfl⟩ := e; exact ⟨_, hB⟩
      · exact ⟨B0, hh⟩
    obtain ⟨B3, h5⟩ := hl _ _ _ h1
    obtain ⟨B4, h6⟩ := hl _ _ _ h2
    exact h.inj _ _ _ _ _ _ _ _ _ h5 h6 h3 h4
/-- Arguments of which one owned slice is given away for good. -/
def FrL (f k n : Nat) (cell : Nat → Nat → D) : List D → List D → Prop
  | [], [] => True
  | d :: ds, d' :: ds' => (d' = d ∨ (d = .ms f 0 k 0 n ∧ d' = .sl k n cell)) ∧ FrL f k n cell ds ds'
  | _, _ => False
theorem FrL.len {f k n : Nat} {cell : Nat → Nat → D} : ∀ {ds ds' : List D}, FrL f k n cell ds ds' → ds.length = ds'.length
  | [], [], _ => rfl
  | d :: ds, d' :: ds', h => by simp [FrL.len h.2]
theorem FrL.get {f k n : Nat} {cell : Nat → Nat → D} : ∀ {ds ds' : List D}, FrL f k n cell ds ds' → ∀ (i : Nat) (d d' : D), ds[i]? = some d → ds'[i]? = some d' → d' = d ∨ (d = .ms f 0 k 0 n ∧ d' = .sl k n cell)
  | d :: ds, d' :: ds', h, 0, x, y, hx, hy => by simp at hx hy; subst hx; subst hy; exact h.1
  | d :: ds, d' :: ds', h, i + 1, x, y, hx, hy => FrL.get h.2 i x y (by simpa using hx) (by simpa using hy)
theorem acall_freeze {M : Ctx} {g : FuncId} {args args' : List D} {s : S} {K : D → S → Prop} {f k n : Nat} {ty : TypeId} {cell cell' : Nat → Nat → D} (hB : s.o f 0 = some (.blk k n ty cell)) (hc : ∀ r c, r < n → c < k → cell r c = cell' r c)
    (ha : FrL f k n cell' args args') (h : ACall M g args' (s.kill f 0) K) : ACall M g args s K := by
  intro c vals hok hglob hlen hrep
  obtain ⟨hlt, ho⟩ := hok.obj f 0 _ hB
  have hget : ∀ (i : Nat) (d' : D), args'[i]? = some d' → ∃ d, args[i]? = some d ∧ (d' = d ∨ (d = .ms f 0 k 0 n ∧ d' = .sl k n cell')) := fun i d' hd' => by
    have hi : i < args.length := by
      rw [ha.len]
      rcases Nat.lt_or_ge i args'.length with h | h
      · exact h
      · rw [List.getElem?_eq_none h] at hd'; cases hd'
    exact ⟨_, List.getElem?_eq_getElem hi, ha.get i _ d' (List.getElem?_eq_getElem hi) hd'⟩
  have hkill : ∀ f' i' B', (s.kill f 0).o f' i' = some B' → ¬ (f' = f ∧ i' = 0) ∧ s.o f' i' = some B' := fun f' i' B' hh => by
    change (if f' = f ∧ i' = 0 then none else s.o f' i') = some B' at hh
    split at hh
    · cases hh
    · rename_i hne; exact ⟨hne, hh⟩
  rcases ho with ⟨b, cp, hβ, hnk, hn, arr, harr, hsz, hcell⟩ | ⟨hβ, he⟩
  · obtain ⟨c1, hc1⟩ : ∃ c1 : Cfg, c1 = ⟨fun x => c.K x ∨ x = b, c.β, c.W⟩ := ⟨_, rfl⟩
    have hx : Ext c c1 := by
      rw [hc1]
      exact ⟨fun _ h => .inl h, fun _ _ _ h => h, Nat.le_refl _, rfl, rfl, rfl, fun _ _ => rfl, fun _ _ _ => rfl, fun x hx => by
        rcases hx with hx | rfl
        · exact .inl hx
        · exact .inr (.inl ⟨f, 0, cp, hβ⟩), fun f i x cp h => .inl ⟨f, i, cp, h⟩⟩
    have hok1 : c1.Ok (s.kill f 0) := by
      rw [hc1]
      refine ⟨fun x hx => ?_, hok.βb, hok.fresh, fun f1 i1 B1 hB1 => ?_, fun f1 i1 f2 i2 B1 B2 b' cp1 cp2 h1 h2 h3 h4 => hok.inj _ _ _ _ _ _ _ _ _ (hkill _ _ _ h1).2 (hkill _ _ _ h2).2 h3 h4⟩
      · rcases hx with hx | rfl
        · exact hok.kb x hx
        · exact hok.βb f 0 _ cp hβ
      · obtain ⟨hne, hB1'⟩ := hkill _ _ _ hB1
        obtain ⟨k1, k2⟩ := hok.obj f1 i1 B1 hB1'
        refine ⟨k1, ?_⟩
        rcases k2 with ⟨b1, cp1, g1, g2, g3⟩ | k2
        · refine .inl ⟨b1, cp1, g1, fun hk => ?_, g3.mono (fun _ h => .inl h) (fun _ _ _ h => h) (fun _ _ => rfl) rfl⟩
          rcases hk with hk | rfl
          · exact g2 hk
          · exact hne (hok.inj _ _ _ _ _ _ _ _ _ hB1' hB g1 hβ)
        · exact .inr k2
    have hrep1 : ∀ (i : Nat) (d' : D), args'[i]? = some d' → c1.Rep d' (vals.getD i undef) := fun i d' hd' => by
      obtain ⟨d, hd, hdd⟩ := hget i d' hd'
      have hr := hrep i d hd
      rcases hdd with rfl | ⟨rfl, rfl⟩
      · exact hx.rep hr
      · generalize vals.getD i undef = v at hr
        cases hr with
        | ms _ _ _ _ _ b0 cp0 cap hβ0 hcp1 hcp2 =>
          rw [hβ] at hβ0; cases hβ0
          refine .sl k n cell' b (0 * k) cap (fun r j => arr.getD (r * k + j) undef) (by rw [hc1]; exact .inr rfl) hcp1 (fun r j hr hj => ?_) (fun r j hr hj => (hcell r j hr hj).1) (fun r j hr hj => ?_)
          · have := arr_cell (w := c.W) harr (o := r * k + j) (by rw [hsz]; exact idx_lt (by omega) hj)
            rw [hc1, Nat.zero_mul, Nat.zero_add]; exact this
          · rw [← hc r j hr hj]; exact hx.rep (hcell r j hr hj).2
        | msnil => exact .slnil k cell'
    refine (h c1 vals hok1 (hglob.ext hx) (by rw [hlen, ha.len]) hrep1 : Calls M.P g vals.toArray c1.W _).mono ?_ |> fun hh => (by rw [hc1] at hh; exact hh)
    rintro x W' ⟨c', v, d, s', g1, g2, g3, g4, g5, g6⟩
    exact ⟨c', v, d, s', g1, g2, hx.trans g3, g4, g5, g6⟩
  · have hn0 : n = 0 := he
    subst hn0
    have hok1 : c.Ok (s.kill f 0) := kill_ok hok f 0
    refine h c vals hok1 hglob (by rw [hlen, ha.len]) fun i d' hd' => ?_
    obtain ⟨d, hd, hdd⟩ := hget i d' hd'
    have hr := hrep i d hd
    rcases hdd with rfl | ⟨rfl, rfl⟩
    · exact hr
    · generalize vals.getD i undef = v at hr
      cases hr with
      | ms _ _ _ _ _ b0 cp0 cap hβ0 => rw [hβ] at hβ0; cases hβ0
      | msnil => exact .slnil k cell'
/-- Arguments that stand for whatever they stood for. -/
def WkL : List D → List D → Prop
  | [], [] => True
  | d :: ds, d' :: ds' => (∀ (c : Cfg) (v : Value), c.Rep d v → c.Rep d' v) ∧ WkL ds ds'
  | _, _ => False
theorem WkL.len : ∀ {ds ds' : List D}, WkL ds ds' → ds.length = ds'.length
  | [], [], _ => rfl
  | d :: ds, d' :: ds', h => by simp [WkL.len h.2]
theorem WkL.get : ∀ {ds ds' : List D}, WkL ds ds' → ∀ (i : Nat) (d d' : D), ds[i]? = some d → ds'[i]? = some d' → ∀ (c : Cfg) (v : Value), c.Rep d v → c.Rep d' v
  | d :: ds, d' :: ds', h, 0, x, y, hx, hy => by simp at hx hy; subst hx; subst hy; exact h.1
  | d :: ds, d' :: ds', h, i + 1, x, y, hx, hy => WkL.get h.2 i x y (by simpa using hx) (by simpa using hy)
theorem acall_weak {M : Ctx} {g : FuncId} {args args' : List D} {s : S} {K : D → S → Prop} (ha : WkL args args') (h : ACall M g args' s K) : ACall M g args s K := fun c vals hok hglob hlen hrep =>
  h c vals hok hglob (by rw [hlen, ha.len]) fun i d' hd' => by
    have hi : i < args.length := by
      rw [ha.len]
      rcases Nat.lt_or_ge i args'.length with h | h
      · exact h
      · rw [List.getElem?_eq_none h] at hd'; cases hd'
    exact ha.get i _ d' (List.getElem?_eq_getElem hi) hd' c _ (hrep i _ (List.getElem?_eq_getElem hi))
theorem wk_nil (k : Nat) (row : Nat → Nat → D) (c : Cfg) (v : Value) (h : c.Rep (.v (.slice none 0 0)) v) : c.Rep (.sl k 0 row) v := by cases h; exact .slnil k row
end Go.Abs
end
section
/-
  An abstract machine over the model, part 18: an owned slice in a slot is given away where it lies.
-/
namespace Go.Abs
open Go

theorem freeze_cfg {c : Cfg} {s : S} {f k n : Nat} {ty : TypeId} {cell cell' : Nat → Nat → D} (hok : c.Ok s) (hB : s.o f 0 = some (.blk k n ty cell)) (hc : ∀ r c, r < n → c < k → cell r c = cell' r c) :
    ∃ c1 : Cfg, c1.W = c.W ∧ Ext c c1 ∧ c1.Ok (s.kill f 0) ∧ ∀ v, c.Rep (.ms f 0 k 0 n) v → c1.Rep (.sl k n cell') v := by
  obtain ⟨hlt, ho⟩ := hok.obj f 0 _ hB
  have hkill : ∀ f' i' B', (s.kill f 0).o f' i' = some B' → ¬ (f' = f ∧ i' = 0) ∧ s.o f' i' = some B' := fun f' i' B' hh => by
    change (if f' = f ∧ i' = 0 then none else s.o f' i') = some B' at hh
    split at hh
    · cases hh
    · rename_i hne; exact ⟨hne, hh⟩
  rcases ho with ⟨b, cp, hβ, hnk, hn, arr, harr, hsz, hcell⟩ | ⟨hβ, he⟩
  · have hx : Ext c ⟨fun x => c.K x ∨ x = b, c.β, c.W⟩ :=
      ⟨fun _ h => .inl h, fun _ _ _ h => h, Nat.le_refl _, rfl, rfl, rfl, fun _ _ => rfl, fun _ _ _ => rfl, fun x hx => by
        rcases hx with hx | rfl
        · exact .inl hx
        · exact .inr (.inl ⟨f, 0, cp, hβ⟩), fun f i x cp h => .inl ⟨f, i, cp, h⟩⟩
    refine ⟨⟨fun x => c.K x ∨ x = b, c.β, c.W⟩, rfl, hx, ?_, fun v hr => ?_⟩
    · refine ⟨fun x hx => ?_, hok.βb, hok.fresh, fun f1 i1 B1 hB1 => ?_, fun f1 i1 f2 i2 B1 B2 b' cp1 cp2 h1 h2 h3 h4 => hok.inj _ _ _ _ _ _ _ _ _ (hkill _ _ _ h1).2 (hkill _ _ _ h2).2 h3 h4⟩
      · rcases hx with hx | rfl
        · exact hok.kb x hx
        · exact hok.βb f 0 _ cp hβ
      · obtain ⟨hne, hB1'⟩ := hkill _ _ _ hB1
        obtain ⟨k1, k2⟩ := hok.obj f1 i1 B1 hB1'
        refine ⟨k1, ?_⟩
        rcases k2 with ⟨b1, cp1, g1, g2, g3⟩ | k2
        · refine .inl ⟨b1, cp1, g1, fun hk => ?_, g3.mono (fun _ h => .inl h) (fun _ _ _ h => h) (fun _ _ => rfl) rfl⟩
          rcases hk with hk | rfl
          · exact g2 hk
          · exact hne (hok.inj _ _ _ _ _ _ _ _ _ hB1' hB g1 hβ)
        · exact .inr k2
    · cases hr with
      | ms _ _ _ _ _ b0 cp0 cap hβ0 hcp1 hcp2 =>
        rw [hβ] at hβ0; cases hβ0
        refine .sl k n cell' b (0 * k) cap (fun r j => arr.getD (r * k + j) undef) (.inr rfl) hcp1 (fun r j hr hj => ?_) (fun r j hr hj => (hcell r j hr hj).1) (fun r j hr hj => ?_)
        · have := arr_cell (w := c.W) harr (o := r * k + j) (by rw [hsz]; exact idx_lt (by omega) hj)
          rw [Nat.zero_mul, Nat.zero_add]; exact this
        · rw [← hc r j hr hj]; exact hx.rep (hcell r j hr hj).2
      | msnil => exact .slnil k cell'
  · have hn0 : n = 0 := he
    subst hn0
    refine ⟨c, rfl, Ext.refl c, kill_ok hok f 0, fun v hr => ?_⟩
    cases hr with
    | ms _ _ _ _ _ b0 cp0 cap hβ0 => rw [hβ] at hβ0; cases hβ0
    | msnil => exact .slnil k cell'
theorem awp_freeze {M : Ctx} {x : Code} {Q : Exit → Env → S → Prop} {e : Env} {s : S} {t f k n : Nat} {ty : TypeId} {cell cell' : Nat → Nat → D} (ht : e t = .ms f 0 k 0 n) (hB : s.o f 0 = some (.blk k n ty cell)) (hc : ∀ r c, r < n → c < k → cell r c = cell' r c)
    (h : AWp M x Q (upd e t (.sl k n cell')) (s.kill f 0)) : AWp M x Q e s := by
  intro cf a m hE hok
  obtain ⟨c1, hW, hx, hok1, hr⟩ := freeze_cfg hok hB hc
  have hE1 : EnvRel M c1 (upd e t (.sl k n cell')) a := by
    refine ⟨hE.defers.ext hx, hE.size, fun u => ?_, hE.glob.ext hx⟩
    show c1.Rep (if u = t then .sl k n cell' else e u) _
    by_cases hu : u = t
    · subst hu; rw [if_pos rfl]; exact hr _ (ht ▸ hE.slot u)
    · rw [if_neg hu]; exact hx.rep (hE.slot u)
  have := h c1 a m hE1 hok1
  rw [hW] at this
  refine wpIn_mono this ?_
  rintro ex a' W' ⟨cf', e', s', g1, g2, g3, g4, g5⟩
  exact ⟨cf', e', s', g1, hx.trans g2, g3, g4, g5⟩
/-- Cells may be told otherwise within a block's rows. -/
theorem awp_cells {M : Ctx} {x : Code} {Q : Exit → Env → S → Prop} {e : Env} {o : St} {nx f k n : Nat} {ty : TypeId} {cell cell' : Nat → Nat → D} (hB : o f 0 = some (.blk k n ty cell)) (hc : ∀ r c, r < n → c < k → cell r c = cell' r c)
    (h : AWp M x Q e ⟨St.set o f 0 (some (.blk k n ty cell')), nx⟩) : AWp M x Q e ⟨o, nx⟩ :=
  fun cf a m hE hok => h cf a m hE (cells_sim (s := ⟨o, nx⟩) hB hc cf hok)
theorem acall_cells {M : Ctx} {g : FuncId} {args : List D} {K : D → S → Prop} {o : St} {nx f k n : Nat} {ty : TypeId} {cell cell' : Nat → Nat → D} (hB : o f 0 = some (.blk k n ty cell)) (hc : ∀ r c, r < n → c < k → cell r c = cell' r c)
    (h : ACall M g args ⟨St.set o f 0 (some (.blk k n ty cell')), nx⟩ K) : ACall M g args ⟨o, nx⟩ K :=
  fun cf vals hok hg hl hr => h cf vals (cells_sim (s := ⟨o, nx⟩) hB hc cf hok) hg hl hr
theorem nil_ok {c : Cfg} {o : St} {nx : Nat} (h : c.Ok ⟨o, nx⟩) (k : Nat) (ty : TypeId) (cell : Nat → Nat → D) : c.Ok ⟨St.set o nx 0 (some (.blk k 0 ty cell)), nx + 1⟩ where
  kb := h.kb
  βb := h.βb
  fresh f i hf := h.fresh f i (by simp only at hf ⊢; omega)
  obj f i B hB := by
    change (if f = nx ∧ i = 0 then some (SObj.blk k 0 ty cell) else o f i) = some B at hB
    split at hB
    · rename_i hh
      obtain ⟨rfl, rfl⟩ := hh
      cases hB
      exact ⟨Nat.lt_succ_self _, .inr ⟨h.fresh _ _ (Nat.le_refl _), rfl⟩⟩
    · obtain ⟨h1, h2⟩ := h.obj f i B hB
      exact ⟨Nat.lt_succ_of_lt h1, h2⟩
  inj f1 i1 f2 i2 B1 B2 b cp1 cp2 h1 h2 h3 h4 := by
    change (if f1 = nx ∧ i1 = 0 then some (SObj.blk k 0 ty cell) else o f1 i1) = some B1 at h1
    change (if f2 = nx ∧ i2 = 0 then some (SObj.blk k 0 ty cell) else o f2 i2) = some B2 at h2
    have hn : ∀ i, c.β nx i = none := fun i => h.fresh nx i (Nat.le_refl _)
    split at h1
    · rename_i hh; rw [hh.1, hn] at h3; cases h3
    · split at h2
      · rename_i hh; rw [hh.1, hn] at h4; cases h4
      · exact h.inj _ _ _ _ _ _ _ _ _ h1 h2 h3 h4
/-- Arguments in which nothing is seen as an owned slice without rows. -/
def NiL (f k : Nat) : List D → List D → Prop
  | [], [] => True
  | d :: ds, d' :: ds' => (d' = d ∨ (d = .v (.slice none 0 0) ∧ d' = .ms f 0 k 0 0)) ∧ NiL f k ds ds'
  | _, _ => False
theorem NiL.len {f k : Nat} : ∀ {ds ds' : List D}, NiL f k ds ds' → ds.length = ds'.length
  | [], [], _ => rfl
  | d :: ds, d' :: ds', h => by simp [NiL.len h.2]
theorem NiL.get {f k : Nat} : ∀ {ds ds' : List D}, NiL f k ds ds' → ∀ (i : Nat) (d d' : D), ds[i]? = some d → ds'[i]? = some d' → d' = d ∨ (d = .v (.slice none 0 0) ∧ d' = .ms f 0 k 0 0)
  | d :: ds, d' :: ds', h, 0, x, y, hx, hy => by simp at hx hy; subst hx; subst hy; exact h.1
  | d :: ds, d' :: ds', h, i + 1, x, y, hx, hy => NiL.get h.2 i x y (by simpa using hx) (by simpa using hy)
theorem acall_nilarg {M : Ctx} {g : FuncId} {args args' : List D} {K : D → S → Prop} {o : St} {nx k : Nat} (ty : TypeId) (cell : Nat → Nat → D) (ha : NiL nx k args args') (h : ACall M g args' ⟨St.set o nx 0 (some (.blk k 0 ty cell)), nx + 1⟩ K) : ACall M g args ⟨o, nx⟩ K :=
  fun cf vals hok hg hl hr => h cf vals (nil_ok hok k ty cell) hg (by rw [hl, ha.len]) fun i d' hd' => by
    have hi : i < args.length := by
      rw [ha.len]
      rcases Nat.lt_or_ge i args'.length with h | h
      · exact h
      · rw [List.getElem?_eq_none h] at hd'; cases hd'
    have hx := hr i _ (List.getElem?_eq_getElem hi)
    rcases ha.get i _ d' (List.getElem?_eq_getElem hi) hd' with h1 | ⟨h1, h2⟩
    · rw [h1]; exact hx
    · rw [h1] at hx; rw [h2]
      generalize vals.getD i undef = v at hx
      cases hx; exact .msnil nx 0 k 0
end Go.Abs
end
section
/-
  Plain laws of amendments: their order, and the versions of a contract.
-/
namespace Es
section
variable {α : Type} {le : α → α → Bool}
theorem ins_perm (x : α) : ∀ l : List α, (ins le x l).Perm (x :: l)
  | [] => .refl _
  | y :: l => by
    unfold ins
    split
    · exact .refl _
    · exact ((ins_perm x l).cons y).trans (.swap x y l)
theorem isort_perm : ∀ l : List α, (isort le l).Perm l
  | [] => .refl _
  | x :: l => (ins_perm x _).trans ((isort_perm l).cons x)
theorem isort_len (l : List α) : (isort le l).length = l.length := (isort_perm l).length_eq
structure TotalLe (le : α → α → Bool) : Prop where
  trans : ∀ a b c, le a b = true → le b c = true → le a c = true
  total : ∀ a b, le a b = true ∨ le b a = true
abbrev Sorted (le : α → α → Bool) (l : List α) : Prop := l.Pairwise fun a b => le a b = true
theorem ins_sorted (h : TotalLe le) {x : α} : ∀ {l : List α}, Sorted le l → Sorted le (ins le x l)
  | [], _ => List.pairwise_singleton _ _
  | y :: l, hs => by
    unfold ins
    split
    · rename_i hxy
      refine List.pairwise_cons.2 ⟨fun z hz => ?_, hs⟩
      rcases List.mem_cons.1 hz with rfl | hz
      · exact hxy
      · exact h.trans _ _ _ hxy ((List.pairwise_cons.1 hs).1 z hz)
    · rename_i hxy
      have hyx := (h.total x y).resolve_left hxy
      obtain ⟨h1, h2⟩ := List.pairwise_cons.1 hs
      refine List.pairwise_cons.2 ⟨fun z hz => ?_, ins_sorted h h2⟩
      rcases List.mem_cons.1 ((ins_perm x l).mem_iff.1 hz) with rfl | hz
      · exact hyx
      · exact h1 z hz
theorem isort_sorted (h : TotalLe le) : ∀ l : List α, Sorted le (isort le l)
  | [] => .nil
  | _ :: l => ins_sorted h (isort_sorted h l)
/-- The sorted list is the only one, where order and equality agree. -/
theorem sorted_unique {l m : List α} (hp : l.Perm m) (hl : Sorted le l) (hm : Sorted le m) (ha : ∀ a b, a ∈ l → b ∈ l → le a b = true → le b a = true → a = b) : l = m :=
  hp.eq_of_pairwise (fun a b ha' hb h1 h2 => ha a b ha' (hp.mem_iff.2 hb) h1 h2) hl hm
theorem ins_filter (h : TotalLe le) (p : α → Bool) (x : α) : ∀ l : List α, Sorted le l → (ins le x l).filter p = if p x then ins le x (l.filter p) else l.filter p
  | [], _ => by unfold ins; cases hp : p x <;> simp [hp, ins]
  | y :: l, hs => by
    obtain ⟨h1, h2⟩ := List.pairwise_cons.1 hs
    have ih := ins_filter h p x l h2
    rw [ins]
    by_cases hxy : le x y = true
    · rw [if_pos hxy]
      cases hp : p x with
      | false => simp [hp]
      | true =>
        simp only [List.filter_cons, hp, if_true]
        cases hy : p y with
        | true => simp [ins, hxy]
        | false =>
          simp only [Bool.false_eq_true, if_false]
          cases hf : l.filter p with
          | nil => rfl
          | cons z m =>
            have hz : z ∈ l := (List.mem_filter.1 (by rw [hf]; simp : z ∈ l.filter p)).1
            simp [ins, h.trans _ _ _ hxy (h1 z hz)]
    · rw [if_neg hxy]
      simp only [List.filter_cons, ih]
      cases hp : p x <;> cases hy : p y <;> simp [ins, hxy]
theorem isort_filter (h : TotalLe le) (p : α → Bool) : ∀ l : List α, (isort le l).filter p = isort le (l.filter p)
  | [] => rfl
  | x :: l => by
    rw [isort, ins_filter h p x _ (isort_sorted h l), isort_filter h p l]
    cases hp : p x <;> simp [hp, isort]
end
theorem leA_total : TotalLe leA where
  trans a b c h1 h2 := by
    simp only [leA, Bool.or_eq_true, Bool.and_eq_true, decide_eq_true_eq, beq_iff_eq] at *; omega
  total a b := by simp only [leA, Bool.or_eq_true, Bool.and_eq_true, decide_eq_true_eq, beq_iff_eq]; omega
theorem leP_total : TotalLe leP where
  trans a b c h1 h2 := by
    simp only [leP, Bool.or_eq_true, Bool.and_eq_true, decide_eq_true_eq, beq_iff_eq] at *; omega
  total a b := by simp only [leP, Bool.or_eq_true, Bool.and_eq_true, decide_eq_true_eq, beq_iff_eq]; omega
theorem leP_lt {x y : Amend} {i j : Nat} (h : i < j) : leP (x, i) (y, j) = leA x y := by
  rw [Bool.eq_iff_iff]; simp only [leP, leA, Bool.or_eq_true, Bool.and_eq_true, decide_eq_true_eq, beq_iff_eq]; omega
theorem ins_fst {x : Amend} {i : Nat} : ∀ {l : List (Amend × Nat)}, (∀ y ∈ l, i < y.2) → (ins leP (x, i) l).map (·.1) = ins leA x (l.map (·.1))
  | [], _ => rfl
  | y :: l, h => by
    have hy := h y (by simp)
    have e : leP (x, i) y = leA x y.1 := leP_lt hy
    simp only [ins, List.map_cons, e]
    split
    · rfl
    · rw [List.map_cons, ins_fst fun z hz => h z (by simp [hz])]
theorem isort_fst : ∀ (l : List Amend) (k : Nat), (isort leP (l.zipIdx k)).map (·.1) = isort leA l
  | [], _ => rfl
  | x :: l, k => by
    rw [List.zipIdx_cons, isort, ins_fst, isort_fst l (k + 1), isort]
    intro y hy
    have := (isort_perm _).mem_iff.1 hy
    exact Nat.lt_of_succ_le (List.le_snd_of_mem_zipIdx this)
theorem sortedA_eq (l : List Amend) : (sortedP l).map (·.1) = sortedA l := isort_fst l 0
theorem zip_inj {l : List Amend} {a b : Amend × Nat} (ha : a ∈ l.zipIdx) (hb : b ∈ l.zipIdx) (h : a.2 = b.2) : a = b := by
  obtain ⟨a1, a2⟩ := a
  obtain ⟨b1, b2⟩ := b
  simp only at h; subst h
  have h1 := List.mem_zipIdx_iff_getElem?.1 ha
  have h2 := List.mem_zipIdx_iff_getElem?.1 hb
  simp only at h1 h2
  rw [h1] at h2; cases h2; rfl
theorem leP_anti {a b : Amend × Nat} (h1 : leP a b = true) (h2 : leP b a = true) : a.2 = b.2 := by
  simp only [leP, Bool.or_eq_true, Bool.and_eq_true, decide_eq_true_eq, beq_iff_eq] at *; omega
/-- Whatever is sorted and consists of the pairs is the list that the code makes. -/
theorem sortedP_unique {l : List Amend} {m : List (Amend × Nat)} (hp : m.Perm l.zipIdx) (hs : Sorted leP m) : m = sortedP l :=
  sorted_unique (hp.trans (isort_perm _).symm) hs (isort_sorted leP_total _) fun _ _ ha hb h1 h2 => zip_inj (hp.mem_iff.1 ha) (hp.mem_iff.1 hb) (leP_anti h1 h2)
theorem sortedA_sorted (l : List Amend) : Sorted leA (sortedA l) := isort_sorted leA_total l
theorem sortedA_perm (l : List Amend) : (sortedA l).Perm l := isort_perm l
theorem sortedA_filter (p : Amend → Bool) (l : List Amend) : (sortedA l).filter p = sortedA (l.filter p) := isort_filter leA_total p l
/-- Lists with the same amendments, no two of which have the same keys, are sorted alike. -/
theorem sortedA_eq_of_perm {l m : List Amend} (hp : l.Perm m) (hd : ∀ a b, a ∈ l → b ∈ l → a.day = b.day → a.number = b.number → a = b) : sortedA l = sortedA m :=
  sorted_unique ((isort_perm l).trans (hp.trans (isort_perm m).symm)) (isort_sorted leA_total l) (isort_sorted leA_total m) fun a b ha hb h1 h2 => by
    have ha' := (isort_perm l).mem_iff.1 ha
    have hb' := (isort_perm l).mem_iff.1 hb
    simp only [leA, Bool.or_eq_true, Bool.and_eq_true, decide_eq_true_eq, beq_iff_eq] at h1 h2
    exact hd a b ha' hb' (by omega) (by omega)

/-! ### versions -/
theorem versionsA_app (known : Int) : ∀ (l m : List Amend) (c : Contract), versionsA known (l ++ m) c = versionsA known l c ++ versionsA known m (lastC c (versionsA known l c))
  | [], m, c => rfl
  | x :: l, m, c => by
    rw [List.cons_append, versionsA, versionsA]
    split
    · exact versionsA_app known l m c
    · rw [versionsA_app known l m, List.cons_append]
      congr 2
      simp only [lastC]
      cases hv : versionsA known l (applyP c x.patch).1 with
      | nil => rfl
      | cons y v => simp [List.getLast?_cons]
theorem versionsA_len (known : Int) : ∀ (l : List Amend) (c : Contract), (versionsA known l c).length ≤ l.length
  | [], _ => Nat.le_refl _
  | x :: l, c => by
    rw [versionsA]
    split
    · exact Nat.le_succ_of_le (versionsA_len known l c)
    · exact Nat.succ_le_succ (versionsA_len known l _)
theorem versionsA_mem (known : Int) : ∀ (l : List Amend) (c : Contract) (y : Amend × Contract), y ∈ versionsA known l c → y.1 ∈ l
  | [], _, _, h => by cases h
  | x :: l, c, y, h => by
    rw [versionsA] at h
    split at h
    · exact List.mem_cons_of_mem _ (versionsA_mem known l c y h)
    · rcases List.mem_cons.1 h with rfl | h
      · simp
      · exact List.mem_cons_of_mem _ (versionsA_mem known l _ y h)
/-- Amendments that are not known do not matter. -/
theorem versionsA_known (known : Int) (p : Amend → Bool) (hp : ∀ x, p x = false → known < x.known) : ∀ (l : List Amend) (c : Contract), versionsA known (l.filter p) c = versionsA known l c
  | [], _ => rfl
  | x :: l, c => by
    rw [List.filter_cons, versionsA]
    cases hx : p x with
    | true => simp only [if_true]; rw [versionsA, versionsA_known known p hp l c, versionsA_known known p hp l _]
    | false =>
      simp only [Bool.false_eq_true, if_false]
      rw [if_pos (by simp [hp x hx]), versionsA_known known p hp l c]
theorem sorted_split (day : Int) : ∀ {l : List Amend}, Sorted leA l → l = l.filter (fun x => decide (x.day ≤ day)) ++ l.filter (fun x => decide (day < x.day))
  | [], _ => rfl
  | x :: l, hs => by
    obtain ⟨h1, h2⟩ := List.pairwise_cons.1 hs
    have ih := sorted_split day h2
    by_cases hx : x.day ≤ day
    · have : ¬ day < x.day := by omega
      simp only [List.filter_cons, hx, this, decide_true, decide_false, if_true, Bool.false_eq_true, if_false, List.cons_append]
      rw [← ih]
    · have hd : day < x.day := by omega
      have hall : ∀ y ∈ l, day < y.day := fun y hy => by
        have := h1 y hy
        simp only [leA, Bool.or_eq_true, Bool.and_eq_true, decide_eq_true_eq, beq_iff_eq] at this; omega
      have e1 : l.filter (fun x => decide (x.day ≤ day)) = [] := by
        rw [List.filter_eq_nil_iff]; intro y hy; have := hall y hy; simp; omega
      have e2 : l.filter (fun x => decide (day < x.day)) = l := by
        rw [List.filter_eq_self]; intro y hy; simp [hall y hy]
      simp [List.filter_cons, hx, hd, e1, e2]
theorem upto_all {day : Int} {v : List (Amend × Contract)} (h : ∀ x ∈ v, x.1.day ≤ day) : uptoDay day v = v := by
  unfold uptoDay
  induction v with
  | nil => rfl
  | cons x v ih => rw [List.takeWhile_cons, if_pos (by simpa using h x (by simp)), ih fun y hy => h y (by simp [hy])]
theorem upto_none {day : Int} {v : List (Amend × Contract)} (h : ∀ x ∈ v, day < x.1.day) : uptoDay day v = [] := by
  unfold uptoDay
  cases v with
  | nil => rfl
  | cons x v => rw [List.takeWhile_cons, if_neg (by have := h x (by simp); simp; omega)]
theorem upto_app {day : Int} {v w : List (Amend × Contract)} (h1 : ∀ x ∈ v, x.1.day ≤ day) (h2 : ∀ x ∈ w, day < x.1.day) : uptoDay day (v ++ w) = v := by
  induction v with
  | nil => exact upto_none h2
  | cons x v ih =>
    unfold uptoDay
    rw [List.cons_append, List.takeWhile_cons, if_pos (by simpa using h1 x (by simp))]
    exact congrArg _ (ih fun y hy => h1 y (by simp [hy]))
theorem upto_take {day : Int} {v : List (Amend × Contract)} {i : Nat} {z : Amend × Contract} (hz : v[i]? = some z) (h : ∀ x ∈ v.take i, x.1.day ≤ day) (hd : day < z.1.day) : uptoDay day v = v.take i := by
  induction v generalizing i with
  | nil => simp at hz
  | cons x v ih =>
    cases i with
    | zero =>
      simp only [List.getElem?_cons_zero, Option.some.injEq] at hz
      subst hz
      unfold uptoDay
      rw [List.takeWhile_cons, if_neg (by simp; omega), List.take_zero]
    | succ i =>
      have hx := h x (by simp)
      unfold uptoDay at *
      rw [List.takeWhile_cons, if_pos (by simpa using hx), List.take_succ_cons, ih (by simpa using hz) fun y hy => h y (by simp [hy])]
/-- The versions up to a day are those of the amendments up to it. -/
theorem upto_versions (day known : Int) (l : List Amend) (c : Contract) : uptoDay day (versionsA known (sortedA l) c) = versionsA known (sortedA (l.filter fun x => decide (x.day ≤ day))) c := by
  have hs := sorted_split day (sortedA_sorted l)
  rw [sortedA_filter, sortedA_filter] at hs
  rw [hs, versionsA_app]
  refine upto_app (fun x hx => ?_) fun x hx => ?_
  · have := (sortedA_perm _).mem_iff.1 (versionsA_mem known _ _ x hx)
    simpa using (List.mem_filter.1 this).2
  · have := (sortedA_perm _).mem_iff.1 (versionsA_mem known _ _ x hx)
    simpa using (List.mem_filter.1 this).2

/-! ### equality -/
theorem eqL_iff {α : Type} [Inhabited α] {f : α → α → Bool} (hf : ∀ x y, f x y = true ↔ x = y) {l m : List α} : eqL f l m = true ↔ l = m := by
  unfold eqL
  rw [Bool.and_eq_true, allN_iff]
  constructor
  · rintro ⟨h1, h2⟩
    have hl : l.length = m.length := by simp only [len, beq_iff_eq] at h1; omega
    refine List.ext_getElem hl fun i hi hi' => ?_
    have := (hf _ _).1 (h2 i hi)
    rwa [at_nat hi, at_nat hi'] at this
  · rintro rfl
    exact ⟨by simp, fun i _ => (hf _ _).2 rfl⟩
theorem eqL_len {α : Type} [Inhabited α] {f : α → α → Bool} {l m : List α} (h : (len l != len m) = true) : eqL f l m = false := by
  unfold eqL
  have : (len l == len m) = false := by rw [← Bool.not_eq_true, ← bne_iff_ne.trans (by simp : len l ≠ len m ↔ ¬ (len l == len m) = true)]; exact h
  rw [this]; rfl
theorem eqL_bad {α : Type} [Inhabited α] {f : α → α → Bool} {l m : List α} {k : Nat} (hk : k < l.length) (h : f (at_ l (k : Int)) (at_ m (k : Int)) = false) : eqL f l m = false := by
  unfold eqL; rw [allN_bad hk h]; simp
theorem eqL_end {α : Type} [Inhabited α] {f : α → α → Bool} {l m : List α} {k : Nat} (hl : l.length = m.length) (hk : l.length ≤ k) (h : ∀ j : Nat, j < k → f (at_ l (j : Int)) (at_ m (j : Int)) = true) : eqL f l m = true := by
  unfold eqL; rw [allN_end hk h]; simp [len, hl]
theorem eqCond_iff (x y : Cond) : eqCond x y = true ↔ x = y := by cases x; cases y; simp [eqCond]
theorem eqUnt_iff (x y : Unt) : eqUnt x y = true ↔ x = y := by cases x; cases y; simp [eqUnt, and_assoc]
theorem eqAct_iff (x y : ActT) : eqAct x y = true ↔ x = y := by cases x; cases y; simp [eqAct, and_assoc]
theorem eqClause_iff (x y : Clause) : eqClause x y = true ↔ x = y := by
  cases x; cases y
  simp only [eqClause, eqPlain, Bool.and_eq_true, eqL_iff eqCond_iff, beq_iff_eq, Clause.mk.injEq]
  constructor
  · rintro ⟨h, ⟨⟨⟨⟨⟨⟨⟨⟨⟨⟨⟨⟨⟨h1, h2⟩, h3⟩, h4⟩, h5⟩, h6⟩, h7⟩, h8⟩, h9⟩, h10⟩, h11⟩, h12⟩, h13⟩, h14⟩⟩
    exact ⟨h1, h2, h3, h4, h, h5, h6, h7, h8, h9, h10, h11, h12, h13, h14⟩
  · rintro ⟨h1, h2, h3, h4, h, h5, h6, h7, h8, h9, h10, h11, h12, h13, h14⟩
    exact ⟨h, ⟨⟨⟨⟨⟨⟨⟨⟨⟨⟨⟨⟨⟨h1, h2⟩, h3⟩, h4⟩, h5⟩, h6⟩, h7⟩, h8⟩, h9⟩, h10⟩, h11⟩, h12⟩, h13⟩, h14⟩⟩
theorem sameC_iff (a b : Contract) : sameC a b = true ↔ a = b := by
  cases a; cases b
  simp only [sameC, Bool.and_eq_true, eqL_iff eqUnt_iff, eqL_iff eqAct_iff, eqL_iff eqClause_iff, beq_iff_eq, Contract.mk.injEq]
  constructor
  · rintro ⟨⟨⟨⟨⟨⟨h1, h2⟩, h3⟩, h4⟩, h5⟩, h6⟩, h7⟩; exact ⟨h1, h3, h5, h6, h7, h2, h4⟩
  · rintro ⟨h1, h3, h5, h6, h7, h2, h4⟩; exact ⟨⟨⟨⟨⟨⟨h1, h2⟩, h3⟩, h4⟩, h5⟩, h6⟩, h7⟩
theorem sameC_refl (a : Contract) : sameC a a = true := (sameC_iff a a).2 rfl

/-! ### patches -/
theorem applyP_ok {c : Contract} {p : Patch} (h : (applyP c p).2 = 0) : (applyP c p).1 = changed c p ∧ (valid2 (changed c p)).1 = 0 ∧ (valid2 c).1 = 0 ∧ formed c p = true := by
  unfold applyP at *
  split at h
  · cases h
  · split at h
    · cases h
    · split at h
      · cases h
      · rename_i h1 h2 h3
        rw [if_neg h1, if_neg h2, if_neg h3]
        simp at h1 h3
        exact ⟨rfl, h3, h1.2, h1.1⟩
theorem changeAt_len (p : Patch) (l : List Clause) (i : Int) : (changeAt p l i).length = l.length := by simp [changeAt]
theorem changeF_len (p : Patch) : ∀ (is : List Int) (l : List Clause), (is.foldl (changeAt p) l).length = l.length
  | [], _ => rfl
  | i :: is, l => by rw [List.foldl_cons, changeF_len p is, changeAt_len]
theorem inOrder_at {n : Int} {l : List Int} {k : Nat} (h : inOrder n l = true) (hk : k < l.length) : 0 ≤ at_ l (k : Int) ∧ at_ l (k : Int) < n := by
  have := allN_iff.1 h k hk
  simp only [inOrdB, Bool.and_eq_true, decide_eq_true_eq] at this
  exact this.1
/-- Versions are valid, and differ from the contract in their clauses alone. -/
theorem versionsA_ok (known : Int) : ∀ (l : List Amend) (c : Contract) (y : Amend × Contract), y ∈ versionsA known l c → (valid2 y.2).1 = 0 ∧ y.2 = { c with clauses := y.2.clauses }
  | [], _, _, h => by cases h
  | x :: l, c, y, h => by
    rw [versionsA] at h
    split at h
    · exact versionsA_ok known l c y h
    · rename_i hx
      have hok : (applyP c x.patch).2 = 0 := by
        simp only [Bool.or_eq_true, not_or, Bool.not_eq_true', Bool.not_eq_true] at hx; simpa using hx.2
      obtain ⟨h1, h2, _⟩ := applyP_ok hok
      rcases List.mem_cons.1 h with rfl | h
      · exact ⟨by rw [h1]; exact h2, by rw [h1]; rfl⟩
      · obtain ⟨g1, g2⟩ := versionsA_ok known l _ y h
        refine ⟨g1, ?_⟩
        rw [h1] at g2
        rw [g2]; rfl
theorem lastC_mem {c : Contract} {v : List (Amend × Contract)} : lastC c v = c ∨ ∃ y ∈ v, lastC c v = y.2 := by
  unfold lastC
  cases h : v.getLast? with
  | none => exact .inl rfl
  | some y => exact .inr ⟨y, List.mem_of_getLast? h, rfl⟩
theorem lastC_ok {known : Int} {l : List Amend} {c : Contract} (hc : (valid2 c).1 = 0) : (valid2 (lastC c (versionsA known l c))).1 = 0 := by
  rcases lastC_mem (c := c) (v := versionsA known l c) with h | ⟨y, hy, h⟩
  · rw [h]; exact hc
  · rw [h]; exact (versionsA_ok known l c y hy).1

/-! ### the laws -/
theorem inForce_ok {c : Contract} {l : List Amend} (h : checkA c l = 0) (day known : Int) :
    inForce c l day known = (lastC c (versionsA known (sortedA (l.filter fun x => decide (x.day ≤ day))) c), (versionsA known (sortedA (l.filter fun x => decide (x.day ≤ day))) c).map (·.1.number), 0) := by
  unfold inForce
  rw [if_neg (by simp [h]), upto_versions]
theorem inForce_bad {c : Contract} {l : List Amend} (h : checkA c l ≠ 0) (day known : Int) : inForce c l day known = (zeroCon, [], checkA c l) := by
  unfold inForce
  rw [if_pos (by simpa using h)]
theorem inForce_err (c : Contract) (l : List Amend) (day known : Int) : (inForce c l day known).2.2 = checkA c l := by
  by_cases h : checkA c l = 0
  · rw [inForce_ok h, h]
  · rw [inForce_bad h]
theorem checkA_small {c : Contract} {l : List Amend} (h : l.length ≤ 60) : checkA c l = if !((valid2 c).1 == 0) then 1 else 0 := by
  unfold checkA
  have : ¬ 60 < len l := by simp only [len]; omega
  simp [this]
theorem checkA_perm {c : Contract} {l m : List Amend} (h : l.Perm m) : checkA c l = checkA c m := by
  unfold checkA len; rw [h.length_eq]
theorem law_sequence {l m : List Amend} (hp : l.Perm m) (hd : ∀ a b, a ∈ l → b ∈ l → a.day = b.day → a.number = b.number → a = b) (c : Contract) (day known : Int) :
    inForce c l day known = inForce c m day known ∧ daysA c l known = daysA c m known := by
  unfold inForce daysA
  rw [checkA_perm hp, sortedA_eq_of_perm hp hd]
  exact ⟨rfl, rfl⟩
theorem law_counts (c : Contract) (l : List Amend) (hl : l.length ≤ 60) (day known : Int) : inForce c (l.filter fun x => decide (x.known ≤ known) && decide (x.day ≤ day)) day known = inForce c l day known := by
  have hl' : (l.filter fun x => decide (x.known ≤ known) && decide (x.day ≤ day)).length ≤ 60 := Nat.le_trans (List.length_filter_le _ _) hl
  have hc : checkA c (l.filter fun x => decide (x.known ≤ known) && decide (x.day ≤ day)) = checkA c l := by rw [checkA_small hl, checkA_small hl']
  by_cases h : checkA c l = 0
  · rw [inForce_ok h, inForce_ok (hc.trans h)]
    have e : (l.filter fun x => decide (x.known ≤ known) && decide (x.day ≤ day)).filter (fun x => decide (x.day ≤ day)) = (l.filter fun x => decide (x.day ≤ day)).filter fun x => decide (x.known ≤ known) := by
      rw [List.filter_filter, List.filter_filter]
      congr 1; funext x; cases decide (x.known ≤ known) <;> cases decide (x.day ≤ day) <;> rfl
    rw [e, ← sortedA_filter, versionsA_known known (fun x => decide (x.known ≤ known)) (fun x hx => by simpa using hx)]
  · rw [inForce_bad h, inForce_bad (by rw [hc]; exact h), hc]
theorem law_days (c : Contract) (l : List Amend) (hl : l.length ≤ 60) (first second known : Int) (hfs : first ≤ second) (h : (inForce c l first known).2.2 = 0) :
    (inForce (inForce c l first known).1 (l.filter fun x => decide (first < x.day)) second known).2.2 = 0 ∧ (inForce c l second known).2.2 = 0 ∧
    (inForce (inForce c l first known).1 (l.filter fun x => decide (first < x.day)) second known).1 = (inForce c l second known).1 ∧
    (inForce c l first known).2.1 ++ (inForce (inForce c l first known).1 (l.filter fun x => decide (first < x.day)) second known).2.1 = (inForce c l second known).2.1 := by
  rw [inForce_err] at h
  have hv : (valid2 c).1 = 0 := by rw [checkA_small hl] at h; simpa using h
  have ha : (inForce c l first known).1 = lastC c (versionsA known (sortedA (l.filter fun x => decide (x.day ≤ first))) c) := by rw [inForce_ok h]
  have hva : (valid2 (inForce c l first known).1).1 = 0 := by rw [ha]; exact lastC_ok hv
  have hl' : (l.filter fun x => decide (first < x.day)).length ≤ 60 := Nat.le_trans (List.length_filter_le _ _) hl
  have hca : checkA (inForce c l first known).1 (l.filter fun x => decide (first < x.day)) = 0 := by rw [checkA_small hl', hva]; rfl
  have hs : sortedA (l.filter fun x => decide (x.day ≤ second)) = sortedA (l.filter fun x => decide (x.day ≤ first)) ++ sortedA ((l.filter fun x => decide (first < x.day)).filter fun x => decide (x.day ≤ second)) := by
    have := sorted_split first (sortedA_sorted (l.filter fun x => decide (x.day ≤ second)))
    rw [sortedA_filter, sortedA_filter, List.filter_filter, List.filter_filter] at this
    rw [this, List.filter_filter]
    congr 2
    · congr 1; funext x
      by_cases hx : x.day ≤ first
      · have : x.day ≤ second := by omega
        simp [hx, this]
      · simp [hx]
    · congr 1; funext x; rw [Bool.and_comm]
  refine ⟨by rw [inForce_ok hca], by rw [inForce_ok h], ?_, ?_⟩
  · rw [inForce_ok hca, ha, inForce_ok h, hs, versionsA_app]
    simp only
    generalize versionsA known (sortedA (l.filter fun x => decide (x.day ≤ first))) c = v
    generalize versionsA known (sortedA ((l.filter fun x => decide (first < x.day)).filter fun x => decide (x.day ≤ second))) (lastC c v) = w
    simp only [lastC]
    cases hw : w.getLast? with
    | none =>
      have : w = [] := List.getLast?_eq_none_iff.1 hw
      subst this; simp
    | some y => simp [List.getLast?_append, hw]
  · rw [inForce_ok hca, ha, inForce_ok h, inForce_ok h, hs, versionsA_app]
    simp
/-- One amendment more, for a contract in force. -/
def stepLO (day known : Int) (x : Contract × List Int) (m : Amend) : Contract × List Int :=
  if decide (known < m.known) || decide (day < m.day) then x
  else if (applyP x.1 m.patch).2 == 0 then ((applyP x.1 m.patch).1, x.2 ++ [m.number]) else x
theorem fold_versions (day known : Int) : ∀ (l : List Amend) (x : Contract × List Int),
    l.foldl (stepLO day known) x = (lastC x.1 (versionsA known (l.filter fun m => decide (m.day ≤ day)) x.1), x.2 ++ (versionsA known (l.filter fun m => decide (m.day ≤ day)) x.1).map (·.1.number))
  | [], x => by simp [versionsA, lastC]
  | m :: l, x => by
    rw [List.foldl_cons, fold_versions day known l, stepLO]
    by_cases hd : m.day ≤ day
    · have hd' : ¬ day < m.day := by omega
      simp only [List.filter_cons, hd, decide_true, if_true, hd', decide_false, Bool.or_false]
      rw [versionsA]
      by_cases hk : known < m.known
      · simp [hk]
      · by_cases he : (applyP x.1 m.patch).2 = 0
        · simp only [hk, decide_false, Bool.false_eq_true, if_false, he, beq_self_eq_true, if_true, Bool.not_true, Bool.or_self, List.map_cons, lastC]
          refine Prod.ext ?_ (by simp)
          cases hv : versionsA known (l.filter fun m => decide (m.day ≤ day)) (applyP x.1 m.patch).1 with
          | nil => rfl
          | cons y v => simp [List.getLast?_cons]
        · simp [hk, he]
    · have hd' : day < m.day := by omega
      simp [List.filter_cons, hd, hd']
theorem order_fold {β : Type} (f : β → Amend → β) (x : β) (l : List Amend) : (orderA l).foldl (fun x k => f x (at_ l k)) x = (sortedA l).foldl f x := by
  rw [← sortedA_eq, orderA, List.foldl_map, List.foldl_map]
  have : ∀ (m : List (Amend × Nat)) (x : β), (∀ y ∈ m, at_ l (y.2 : Int) = y.1) → m.foldl (fun x y => f x (at_ l (y.2 : Int))) x = m.foldl (fun x y => f x y.1) x := by
    intro m
    induction m with
    | nil => intro _ _; rfl
    | cons y m ih =>
      intro x h
      rw [List.foldl_cons, List.foldl_cons, h y (by simp), ih _ fun z hz => h z (by simp [hz])]
  refine this _ x fun y hy => ?_
  obtain ⟨y1, y2⟩ := y
  have hy := List.mem_zipIdx_iff_getElem?.1 ((isort_perm _).mem_iff.1 hy)
  obtain ⟨h1, h2⟩ := List.getElem?_eq_some_iff.1 hy
  rw [at_nat h1]; exact h2
theorem law_leaves {c : Contract} {l : List Amend} {day known : Int} (h : checkA c l = 0) :
    (orderA l).foldl (fun x k => stepLO day known x (at_ l k)) (c, []) = ((inForce c l day known).1, (inForce c l day known).2.1) := by
  rw [order_fold, fold_versions, inForce_ok h, sortedA_filter]
  simp
theorem orderA_range {l : List Amend} {k : Int} (h : k ∈ orderA l) : 0 ≤ k ∧ k < len l := by
  simp only [orderA, List.mem_map] at h
  obtain ⟨y, hy, rfl⟩ := h
  have hy := (isort_perm _).mem_iff.1 hy
  have := List.snd_lt_of_mem_zipIdx hy
  simp only [len]; omega
theorem orderA_len (l : List Amend) : (orderA l).length = l.length := by simp [orderA, sortedP, isort_len]
/-! ### days -/
/-- The value on a day, of values that hold from days on. -/
def atDay (last : Contract) : List (Int × Contract) → Int → Contract
  | [], _ => last
  | y :: E, day => if decide (y.1 ≤ day) then atDay y.2 E day else last
abbrev Rising (E : List (Int × Contract)) : Prop := E.Pairwise fun a b => a.1 < b.1
theorem atDay_none {last : Contract} {E : List (Int × Contract)} {day : Int} (h : ∀ y ∈ E, day < y.1) : atDay last E day = last := by
  cases E with
  | nil => rfl
  | cons y E => rw [atDay, if_neg (by have := h y (by simp); simp; omega)]
theorem atDay_snoc {day : Int} : ∀ (E : List (Int × Contract)) (last : Contract) (y : Int × Contract), Rising (E ++ [y]) → atDay last (E ++ [y]) day = if decide (y.1 ≤ day) then y.2 else atDay last E day
  | [], last, y, _ => rfl
  | x :: E, last, y, h => by
    obtain ⟨h1, h2⟩ := List.pairwise_cons.1 h
    have hxy := h1 y (by simp)
    rw [List.cons_append, atDay, atDay_snoc E x.2 y h2, atDay]
    by_cases hy : y.1 ≤ day
    · have : x.1 ≤ day := by omega
      simp [hy, this]
    · by_cases hx : x.1 ≤ day <;> simp [hy, hx]
theorem list_snoc {α : Type} {P : List α → Prop} (h0 : P []) (h1 : ∀ l x, P l → P (l ++ [x])) (l : List α) : P l := by
  have : ∀ l : List α, P l.reverse := by
    intro l
    induction l with
    | nil => exact h0
    | cons x l ih => rw [List.reverse_cons]; exact h1 _ _ ih
  rw [← List.reverse_reverse l]; exact this _
/-- What the ends of days are. -/
structure EndsOk (c : Contract) (v : List (Amend × Contract)) (E : List (Int × Contract)) : Prop where
  rise : Rising E
  last : E.getLast? = v.getLast?.map fun x => (x.1.day, x.2)
  val : ∀ day, atDay c E day = lastC c (uptoDay day v)
theorem rising_last {E : List (Int × Contract)} {y : Int × Contract} (h : Rising E) (hy : E.getLast? = some y) : E = E.dropLast ++ [y] := by
  obtain ⟨ys, rfl⟩ := List.getLast?_eq_some_iff.1 hy
  simp
theorem ends_ok (c : Contract) : ∀ v : List (Amend × Contract), (v.Pairwise fun a b => a.1.day ≤ b.1.day) → EndsOk c v (endsA v) := by
  refine list_snoc (fun _ => ⟨.nil, rfl, fun _ => rfl⟩) fun v x ih hs => ?_
  obtain ⟨hv, _, hx⟩ := List.pairwise_append.1 hs
  have hx : ∀ y ∈ v, y.1.day ≤ x.1.day := fun y hy => hx y hy x (by simp)
  obtain ⟨h1, h2, h3⟩ := ih hv
  have hE : endsA (v ++ [x]) = pushE (endsA v) x := by unfold endsA; rw [List.foldl_append]; rfl
  generalize endsA v = E at *
  have hval : ∀ day, lastC c (uptoDay day (v ++ [x])) = if decide (x.1.day ≤ day) then x.2 else lastC c (uptoDay day v) := by
    intro day
    by_cases hd : x.1.day ≤ day
    · rw [upto_all (fun y hy => by
        rcases List.mem_append.1 hy with hy | hy
        · have := hx y hy; omega
        · simp only [List.mem_singleton] at hy; subst hy; exact hd)]
      simp [lastC, hd]
    · have : ∀ w : List (Amend × Contract), uptoDay day (w ++ [x]) = uptoDay day w := by
        intro w
        induction w with
        | nil => simp [uptoDay, hd]
        | cons y w ihw =>
          unfold uptoDay at ihw ⊢
          rw [List.cons_append, List.takeWhile_cons, List.takeWhile_cons, ihw]
      rw [this]; simp [hd]
  rw [hE]
  unfold pushE
  cases hl : E.getLast? with
  | none =>
    have hE0 : E = [] := List.getLast?_eq_none_iff.1 hl
    subst hE0
    refine ⟨List.pairwise_singleton _ _, by simp, fun day => ?_⟩
    rw [hval, atDay]
    by_cases hd : x.1.day ≤ day
    · simp [hd, atDay]
    · rw [← h3]; simp [hd, atDay]
  | some y =>
    have hEy := rising_last h1 hl
    have hyv : ∃ z ∈ v, y = (z.1.day, z.2) := by
      rw [hl] at h2
      cases hz : v.getLast? with
      | none => rw [hz] at h2; cases h2
      | some z => rw [hz] at h2; cases h2; exact ⟨z, List.mem_of_getLast? hz, rfl⟩
    obtain ⟨z, hz, hyz⟩ := hyv
    have hyx : y.1 ≤ x.1.day := by rw [hyz]; exact hx z hz
    have hr : ∀ w ∈ E.dropLast, w.1 < y.1 := fun w hw => by
      rw [hEy] at h1
      exact (List.pairwise_append.1 h1).2.2 w hw y (by simp)
    have hrd : Rising E.dropLast := by rw [hEy] at h1; exact (List.pairwise_append.1 h1).1
    simp only
    by_cases hlt : y.1 < x.1.day
    · rw [if_pos (by simpa using hlt)]
      have hR : Rising (E ++ [(x.1.day, x.2)]) := by
        refine List.pairwise_append.2 ⟨h1, List.pairwise_singleton _ _, fun a ha b hb => ?_⟩
        simp only [List.mem_singleton] at hb; subst hb
        rw [hEy] at ha
        rcases List.mem_append.1 ha with ha | ha
        · have := hr a ha; simp only; omega
        · simp only [List.mem_singleton] at ha; subst ha; exact hlt
      exact ⟨hR, by simp, fun day => by rw [atDay_snoc _ _ _ hR, hval, h3]⟩
    · rw [if_neg (by simpa using hlt)]
      have hyx' : y.1 = x.1.day := by omega
      have hR : Rising (E.dropLast ++ [(y.1, x.2)]) := by
        refine List.pairwise_append.2 ⟨hrd, List.pairwise_singleton _ _, fun a ha b hb => ?_⟩
        simp only [List.mem_singleton] at hb; subst hb; exact hr a ha
      refine ⟨hR, by simp [hyx'], fun day => ?_⟩
      rw [atDay_snoc _ _ _ hR, hval, ← h3 day, hyx']
      by_cases hd : x.1.day ≤ day
      · simp [hd]
      · have e := atDay_snoc (day := day) E.dropLast c y (by rw [← hEy]; exact h1)
        rw [← hEy] at e
        rw [e]
        simp [hyx', hd]
theorem turnsA_mem : ∀ (E : List (Int × Contract)) (last : Contract) (d : Int), d ∈ turnsA last E → ∃ y ∈ E, y.1 = d
  | [], _, _, h => by cases h
  | y :: E, last, d, h => by
    rw [turnsA] at h
    split at h
    · obtain ⟨z, hz, e⟩ := turnsA_mem E _ d h; exact ⟨z, by simp [hz], e⟩
    · rcases List.mem_cons.1 h with rfl | h
      · exact ⟨y, by simp, rfl⟩
      · obtain ⟨z, hz, e⟩ := turnsA_mem E _ d h; exact ⟨z, by simp [hz], e⟩
theorem turnsA_rise : ∀ (E : List (Int × Contract)) (last : Contract), Rising E → (turnsA last E).Pairwise (· < ·)
  | [], _, _ => .nil
  | y :: E, last, h => by
    obtain ⟨h1, h2⟩ := List.pairwise_cons.1 h
    rw [turnsA]
    split
    · exact turnsA_rise E _ h2
    · refine List.pairwise_cons.2 ⟨fun d hd => ?_, turnsA_rise E _ h2⟩
      obtain ⟨z, hz, rfl⟩ := turnsA_mem E _ d hd
      exact h1 z hz
/-- On each of the days there is another value than on the one before. -/
def Turns (T : Int → Contract) : Contract → List Int → Prop
  | _, [] => True
  | last, d :: l => T d ≠ last ∧ Turns T (T d) l
theorem Turns.congr {T T' : Int → Contract} : ∀ {l : List Int} {last : Contract}, (∀ d ∈ l, T d = T' d) → Turns T last l → Turns T' last l
  | [], _, _, _ => trivial
  | d :: l, last, h, ht => by
    have := h d (by simp)
    refine ⟨this ▸ ht.1, ?_⟩
    rw [← this]
    exact Turns.congr (fun x hx => h x (by simp [hx])) ht.2
theorem turns_ok (c : Contract) : ∀ (E : List (Int × Contract)) (last : Contract), Rising E → (∀ y ∈ E, y.2 = { c with clauses := y.2.clauses }) → last = { c with clauses := last.clauses } → Turns (atDay last E) last (turnsA last E)
  | [], _, _, _, _ => trivial
  | y :: E, last, h, hc, hl => by
    obtain ⟨h1, h2⟩ := List.pairwise_cons.1 h
    have hy := hc y (by simp)
    have ih := turns_ok c E y.2 h2 (fun z hz => hc z (by simp [hz])) hy
    have hT : ∀ d ∈ turnsA y.2 E, atDay y.2 E d = atDay last (y :: E) d := fun d hd => by
      obtain ⟨z, hz, rfl⟩ := turnsA_mem E _ d hd
      have := h1 z hz
      rw [atDay, if_pos (by simp; omega)]
    rw [turnsA]
    split
    · rename_i he
      have : y.2 = last := by
        rw [hy, hl, (eqL_iff eqClause_iff).1 he]
      rw [this] at ih hT ⊢
      exact ih.congr hT
    · rename_i he
      have hTy : atDay last (y :: E) y.1 = y.2 := by
        rw [atDay, if_pos (by simp), atDay_none fun z hz => h1 z hz]
      refine ⟨?_, ?_⟩
      · rw [hTy]; intro e; exact he ((eqL_iff eqClause_iff).2 (by rw [e]))
      · rw [hTy]; exact ih.congr hT
theorem turns_now (c : Contract) (day : Int) : ∀ (E : List (Int × Contract)) (last : Contract), Rising E → (∀ y ∈ E, y.2 = { c with clauses := y.2.clauses }) → last = { c with clauses := last.clauses } →
    (turnsA last E).foldl (fun now d => if decide (d ≤ day) then atDay last E d else now) last = atDay last E day
  | [], _, _, _, _ => rfl
  | y :: E, last, h, hc, hl => by
    obtain ⟨h1, h2⟩ := List.pairwise_cons.1 h
    have hy := hc y (by simp)
    have ih := turns_now c day E y.2 h2 (fun z hz => hc z (by simp [hz])) hy
    have hT : ∀ d ∈ turnsA y.2 E, atDay last (y :: E) d = atDay y.2 E d := fun d hd => by
      obtain ⟨z, hz, rfl⟩ := turnsA_mem E _ d hd
      have := h1 z hz
      rw [atDay, if_pos (by simp; omega)]
    have hfold : ∀ (l : List Int) (x : Contract), (∀ d ∈ l, atDay last (y :: E) d = atDay y.2 E d) → l.foldl (fun now d => if decide (d ≤ day) then atDay last (y :: E) d else now) x = l.foldl (fun now d => if decide (d ≤ day) then atDay y.2 E d else now) x := by
      intro l
      induction l with
      | nil => intro _ _; rfl
      | cons d l ih => intro x hh; rw [List.foldl_cons, List.foldl_cons, hh d (by simp), ih _ fun e he => hh e (by simp [he])]
    have hskip : ∀ (l : List Int) (x : Contract), (∀ d ∈ l, day < d) → l.foldl (fun now d => if decide (d ≤ day) then atDay y.2 E d else now) x = x := by
      intro l
      induction l with
      | nil => intro _ _; rfl
      | cons d l ih =>
        intro x hh
        have := hh d (by simp)
        rw [List.foldl_cons, if_neg (by simp; omega), ih _ fun e he => hh e (by simp [he])]
    rw [turnsA]
    split
    · rename_i he
      have hyl : y.2 = last := by rw [hy, hl, (eqL_iff eqClause_iff).1 he]
      rw [hfold _ _ hT, atDay]
      rw [hyl] at ih ⊢
      rw [ih]
      split
      · rfl
      · rename_i hd
        exact atDay_none fun z hz => by have := h1 z hz; simp at hd; omega
    · have hTy : atDay last (y :: E) y.1 = y.2 := by
        rw [atDay, if_pos (by simp), atDay_none fun z hz => h1 z hz]
      rw [List.foldl_cons, hTy, hfold _ _ hT, atDay]
      by_cases hd : y.1 ≤ day
      · rw [if_pos (by simpa using hd), if_pos (by simpa using hd), ih]
      · rw [if_neg (by simpa using hd), if_neg (by simpa using hd)]
        exact hskip _ _ fun d hd' => by
          obtain ⟨z, hz, rfl⟩ := turnsA_mem E _ d hd'
          have := h1 z hz; omega
theorem versionsA_days (known : Int) : ∀ {l : List Amend} (c : Contract), Sorted leA l → (versionsA known l c).Pairwise fun a b => a.1.day ≤ b.1.day
  | [], _, _ => .nil
  | x :: l, c, h => by
    obtain ⟨h1, h2⟩ := List.pairwise_cons.1 h
    rw [versionsA]
    split
    · exact versionsA_days known c h2
    · refine List.pairwise_cons.2 ⟨fun y hy => ?_, versionsA_days known _ h2⟩
      have := h1 _ (versionsA_mem known _ _ y hy)
      simp only [leA, Bool.or_eq_true, Bool.and_eq_true, decide_eq_true_eq, beq_iff_eq] at this; simp only; omega
theorem endsA_con {c : Contract} : ∀ v : List (Amend × Contract), (∀ y ∈ v, y.2 = { c with clauses := y.2.clauses }) → ∀ y ∈ endsA v, y.2 = { c with clauses := y.2.clauses } := by
  refine list_snoc (fun _ y hy => by cases hy) fun v x ih hv y hy => ?_
  have ih := ih fun z hz => hv z (by simp [hz])
  have hx := hv x (by simp)
  have hE : endsA (v ++ [x]) = pushE (endsA v) x := by unfold endsA; rw [List.foldl_append]; rfl
  rw [hE, pushE] at hy
  split at hy
  · simp only [List.mem_singleton] at hy; subst hy; exact hx
  · split at hy
    · rcases List.mem_append.1 hy with hy | hy
      · exact ih y hy
      · simp only [List.mem_singleton] at hy; subst hy; exact hx
    · rcases List.mem_append.1 hy with hy | hy
      · exact ih y (List.dropLast_subset _ hy)
      · simp only [List.mem_singleton] at hy; subst hy; exact hx
theorem law_changes {c : Contract} {l : List Amend} {known : Int} (h : checkA c l = 0) (day : Int) :
    (daysA c l known).1.Pairwise (· < ·) ∧ Turns (fun d => (inForce c l d known).1) c (daysA c l known).1 ∧
    (daysA c l known).1.foldl (fun now d => if decide (d ≤ day) then (inForce c l d known).1 else now) c = (inForce c l day known).1 := by
  have hE := ends_ok c _ (versionsA_days known c (sortedA_sorted l))
  have hc := endsA_con (c := c) (versionsA known (sortedA l) c) fun y hy => (versionsA_ok known _ c y hy).2
  have hT : ∀ d, (inForce c l d known).1 = atDay c (endsA (versionsA known (sortedA l) c)) d := fun d => by
    rw [hE.val]; unfold inForce; rw [if_neg (by simp [h])]
  have hd : (daysA c l known).1 = turnsA c (endsA (versionsA known (sortedA l) c)) := by unfold daysA; rw [if_neg (by simp [h])]
  have hTT : (fun d => (inForce c l d known).1) = atDay c (endsA (versionsA known (sortedA l) c)) := funext hT
  rw [hd, hTT]
  refine ⟨turnsA_rise _ _ hE.rise, turns_ok c _ c hE.rise hc rfl, ?_⟩
  simp only [hT]
  exact turns_now c day _ c hE.rise hc rfl
end Es
end
section
namespace Go.Proofs
open Go Go.Abs
set_option linter.unusedSimpArgs false
set_option linter.unusedVariables false
set_option maxRecDepth 10000
namespace Tryz
theorem fz_zeroC (s : S) : Fz s (.agg [.v (.int .i64 0), .v (.slice none 0 0), .v (.slice none 0 0), .v (.slice none 0 0), .v (.slice none 0 0), .v (.int .i64 0), .v (.slice none 0 0)]) (conD Es.zeroCon) := Fz_agg ⟨.v _, .nil _ _, .nil _ _, .nil _ _, .nil _ _, .v _, .nil _ _, trivial⟩
def resC (x : Es.Contract × Int) : D := .tup [conD x.1, .v (.int .i64 x.2)]
@[go_sem] theorem resC_eq (x : Es.Contract × Int) : resC x = .tup [conD x.1, .v (.int .i64 x.2)] := nr rfl
theorem fz_bad {s : S} {x : Es.Contract × Int} {e : Int} (h : x = (Es.zeroCon, e)) : Fz s (.tup [.agg [.v (.int .i64 0), .v (.slice none 0 0), .v (.slice none 0 0), .v (.slice none 0 0), .v (.slice none 0 0), .v (.int .i64 0), .v (.slice none 0 0)], .v (.int .i64 e)]) (.tup [conD x.1, .v (.int .i64 x.2)]) := by
  subst h; exact Fz_tup ⟨fz_zeroC s, .v _, trivial⟩
theorem app_cls {l : List Es.Clause} {x : Es.Clause} {src : Nat → Nat → D} (hs : ∀ j, j < 16 → src 0 j = clsC x j) : ∀ r c, r < l.length + 1 → c < 16 → appC (rowsOf clsC l) l.length src r c = rowsOf clsC (l ++ [x]) r c := by
  intro r c hr hc
  simp only [appC]
  by_cases h1 : r < l.length
  · rw [if_pos h1]; simp [rowsOf, List.getD_eq_getElem?_getD, h1, List.getElem?_append_left h1]
  · have : r = l.length := by omega
    subst this
    rw [if_neg h1, Nat.sub_self, hs c hc]; simp [rowsOf, List.getD_eq_getElem?_getD]
theorem apply_spec (c : Es.Contract) (p : Es.Patch) (hf : Es.Fits c) : APure M 17 [conD c, patD p] (resC (Es.applyP c p)) := by
  refine pure_of gpu func17 rfl results17 ntmps17 (by simp) ⟨pu_conD _, pu_patD _, trivial⟩ ?_
  intro b
  simp only [go_sem, ↓reduceIte, reduceCtorEq, Nat.reduceEqDiff, Nat.reduceLT, Nat.reduceLeDiff, Nat.reduceAdd, Nat.reduceSub, Nat.reduceMul, Nat.reduceGT, Int.reduceNeg, Int.reduceToNat]
  have hkc : (kindD p.kind).cells? = some [.v (.int .i64 (leastK p.kind)), .v (.int .i64 (mostK p.kind)), .v (.bool (p.kind == 1 || p.kind == 2)), .v (.bool (p.kind == 5)), doesD p.kind] := by rw [kindD_eq]; rfl
  repeat' (first | ((with_reducible refine call_at M_P M_G (formed_spec c p) ?_); simp only [go_sem, ↓reduceIte, reduceCtorEq, Nat.reduceEqDiff, Nat.reduceLT, Nat.reduceLeDiff, Nat.reduceAdd, Nat.reduceSub, Nat.reduceMul, Nat.reduceGT, Int.reduceNeg, Int.reduceToNat, hkc]) | ((with_reducible refine call_at M_P M_G (pvalid_spec c hf) ?_); simp only [go_sem, ↓reduceIte, reduceCtorEq, Nat.reduceEqDiff, Nat.reduceLT, Nat.reduceLeDiff, Nat.reduceAdd, Nat.reduceSub, Nat.reduceMul, Nat.reduceGT, Int.reduceNeg, Int.reduceToNat, hkc]) | (with_reducible refine And.intro ?_ ?_) | ((with_reducible refine ite_cases ?_ ?_) <;> intro _))
  all_goals first
    | (refine fz_bad ?_; unfold Es.applyP; rw [if_pos (by simp_all)]; done)
    | skip
  have hv : (Es.valid2 c).1 = 0 := by simp_all
  have hF : Es.formed c p = true := by simp_all
  have hlen : c.clauses.length ≤ 400 := by
    have := (Es.valid2_ok hv).small; omega
  have hgood : Es.applyP c p = if p.kind == 1 && Es.len c.clauses == 400 then (Es.zeroCon, 3) else if !((Es.valid2 (Es.changed c p)).1 == 0) then (Es.zeroCon, 1) else (Es.changed c p, 0) := by
    unfold Es.applyP; rw [if_neg (by simp_all)]
  obtain ⟨hA, hO⟩ : formedA p = true ∧ Es.inOrder (Es.len c.clauses) p.clauses = true := by
    rw [formed_eq] at hF; simp only [Bool.and_eq_true] at hF; exact hF.1
  have hmost : p.clauses.length ≤ 400 ∧ (p.kind = 1 → p.clauses.length = 0) ∧ (1 ≤ p.kind ∧ p.kind ≤ 5) := by
    unfold formedA at hA
    simp only [Bool.and_eq_true, Bool.not_eq_true', decide_eq_false_iff_not, oneOf_eq, decide_eq_true_eq] at hA
    have h2 := mostK_le p.kind
    refine ⟨by have := hA.1.2; simp only [Es.len] at this; omega, fun h1 => ?_, hA.1.1.1⟩
    have h3 : mostK p.kind = 0 := by rw [h1]; rfl
    have := hA.1.2; rw [h3] at this; simp only [Es.len] at this; omega
  have hk25 : ∀ {k : Nat}, k < p.clauses.length → 2 ≤ p.kind ∧ p.kind ≤ 5 := fun h => by
    obtain ⟨_, h1, h2, h3⟩ := hmost
    refine ⟨?_, h3⟩
    rcases Int.lt_or_le p.kind 2 with h | h
    · have : p.kind = 1 := by omega
      have := h1 this; omega
    · exact h
  refine acall_wf fun hw => ?_
  simp only at hw
  refine cloneC_spec _ _ _ _ c.clauses (by omega) _ _ _ hw fun o1 n1 g hg1 hg2 hs hw1 ho1 => ?_
  have g0 := hs 0 0 (by omega)
  have g1 := hs 1 0 (by omega)
  have g2 := hs 2 0 (by omega)
  have g3 := hs 3 0 (by omega)
  simp only [go_sem, ↓reduceIte, reduceCtorEq, Nat.reduceEqDiff, Nat.reduceLT, Nat.reduceLeDiff, Nat.reduceAdd, Nat.reduceSub, Nat.reduceMul, Nat.reduceGT, Int.reduceNeg, Int.reduceToNat] at g0 g1 g2 g3
  have e0 : ∀ {a b : Nat}, a ≠ b → (a = b) = False := fun h => by simp [h]
  have z1 : (0 = 1) = False := e0 (by omega); have z2 : (0 = 2) = False := e0 (by omega); have z3 : (0 = 3) = False := e0 (by omega); have z4 : (0 = g) = False := e0 (by omega); have z5 : (0 = n1) = False := e0 (by omega); have z6 : (0 = n1 + 1) = False := e0 (by omega); have z7 : (1 = 0) = False := e0 (by omega); have z8 : (1 = 2) = False := e0 (by omega); have z9 : (1 = 3) = False := e0 (by omega); have z10 : (1 = g) = False := e0 (by omega); have z11 : (1 = n1) = False := e0 (by omega); have z12 : (1 = n1 + 1) = False := e0 (by omega); have z13 : (2 = 0) = False := e0 (by omega); have z14 : (2 = 1) = False := e0 (by omega); have z15 : (2 = 3) = False := e0 (by omega); have z16 : (2 = g) = False := e0 (by omega); have z17 : (2 = n1) = False := e0 (by omega); have z18 : (2 = n1 + 1) = False := e0 (by omega); have z19 : (3 = 0) = False := e0 (by omega); have z20 : (3 = 1) = False := e0 (by omega); have z21 : (3 = 2) = False := e0 (by omega); have z22 : (3 = g) = False := e0 (by omega); have z23 : (3 = n1) = False := e0 (by omega); have z24 : (3 = n1 + 1) = False := e0 (by omega); have z25 : (g = 0) = False := e0 (by omega); have z26 : (g = 1) = False := e0 (by omega); have z27 : (g = 2) = False := e0 (by omega); have z28 : (g = 3) = False := e0 (by omega); have z29 : (g = n1) = False := e0 (by omega); have z30 : (g = n1 + 1) = False := e0 (by omega); have z31 : (n1 = 0) = False := e0 (by omega); have z32 : (n1 = 1) = False := e0 (by omega); have z33 : (n1 = 2) = False := e0 (by omega); have z34 : (n1 = 3) = False := e0 (by omega); have z35 : (n1 = g) = False := e0 (by omega); have z36 : (n1 = n1 + 1) = False := e0 (by omega); have z37 : (n1 + 1 = 0) = False := e0 (by omega); have z38 : (n1 + 1 = 1) = False := e0 (by omega); have z39 : (n1 + 1 = 2) = False := e0 (by omega); have z40 : (n1 + 1 = 3) = False := e0 (by omega); have z41 : (n1 + 1 = g) = False := e0 (by omega); have z42 : (n1 + 1 = n1) = False := e0 (by omega)
  simp only [go_sem, ↓reduceIte, reduceCtorEq, Nat.reduceEqDiff, Nat.reduceLT, Nat.reduceLeDiff, Nat.reduceAdd, Nat.reduceSub, Nat.reduceMul, Nat.reduceGT, Int.reduceNeg, Int.reduceToNat, g0, g1, g2, g3, ho1, z1, z2, z3, z4, z5, z6, z7, z8, z9, z10, z11, z12, z13, z14, z15, z16, z17, z18, z19, z20, z21, z22, z23, z24, z25, z26, z27, z28, z29, z30, z31, z32, z33, z34, z35, z36, z37, z38, z39, z40, z41, z42]
  refine ite_cases (fun hk1 => ?_) (fun hk1 => ?_)
  · refine ite_cases (fun h400 => ?_) (fun h400 => ?_)
    · refine fz_bad ?_
      rw [hgood, if_pos (by rw [hk1, show (Es.len c.clauses == 400) = true from h400]; rfl)]
    refine ⟨⟨by omega, by omega⟩, ?_⟩
    have hbase : Es.changedL p c.clauses = p.clauses.foldl (Es.changeAt p) (c.clauses ++ [p.new]) := by unfold Es.changedL; rw [if_pos hk1]
    have hno : ¬ (p.kind == 1 && Es.len c.clauses == 400) = true := by
      rw [hk1, Bool.true_and]; exact h400
    refine awp_cells (f := n1 + 1) (k := 16) (n := c.clauses.length + 1) (cell' := rowsOf clsC (c.clauses ++ [p.new])) (by simp only [go_sem, ↓reduceIte, reduceCtorEq, Nat.reduceEqDiff, Nat.reduceLT, Nat.reduceLeDiff, Nat.reduceAdd, Nat.reduceSub, Nat.reduceMul, Nat.reduceGT, Int.reduceNeg, Int.reduceToNat, g0, g1, g2, g3, ho1, z1, z2, z3, z4, z5, z6, z7, z8, z9, z10, z11, z12, z13, z14, z15, z16, z17, z18, z19, z20, z21, z22, z23, z24, z25, z26, z27, z28, z29, z30, z31, z32, z33, z34, z35, z36, z37, z38, z39, z40, z41, z42]; rfl) (app_cls fun j hj => ?_) ?_
    · rcases (show j = 0 ∨ j = 1 ∨ j = 2 ∨ j = 3 ∨ j = 4 ∨ j = 5 ∨ j = 6 ∨ j = 7 ∨ j = 8 ∨ j = 9 ∨ j = 10 ∨ j = 11 ∨ j = 12 ∨ j = 13 ∨ j = 14 ∨ j = 15 by omega) with rfl | rfl | rfl | rfl | rfl | rfl | rfl | rfl | rfl | rfl | rfl | rfl | rfl | rfl | rfl | rfl <;> rfl
    refine awp_count0 p.clauses.length (fun e0 s0 k e s => (e 2 = e0 2 ∧ e 3 = e0 3 ∧ e 4 = e0 4 ∧ e 6 = e0 6 ∧ e 44 = e0 44 ∧ e 45 = e0 45) ∧ e 46 = .v (.int .i64 k) ∧ s0.nx ≤ s.nx ∧ (∀ gg j, gg < s0.nx → ¬ (gg = n1 + 1 ∧ j = 0) → s.o gg j = s0.o gg j) ∧ s.o (n1 + 1) 0 = some (.blk 16 (c.clauses.length + 1) 32 (rowsOf clsC ((p.clauses.take k).foldl (Es.changeAt p) (c.clauses ++ [p.new]))))) ⟨⟨rfl, rfl, rfl, rfl, rfl, rfl⟩, ?_, Nat.le_refl _, fun _ _ _ _ => rfl, ?_⟩ ?_
    · simp only [go_sem, ↓reduceIte, reduceCtorEq, Nat.reduceEqDiff, Nat.reduceLT, Nat.reduceLeDiff, Nat.reduceAdd, Nat.reduceSub, Nat.reduceMul, Nat.reduceGT, Int.reduceNeg, Int.reduceToNat]; rfl
    · simp only [go_sem, ↓reduceIte, reduceCtorEq, Nat.reduceEqDiff, Nat.reduceLT, Nat.reduceLeDiff, Nat.reduceAdd, Nat.reduceSub, Nat.reduceMul, Nat.reduceGT, Int.reduceNeg, Int.reduceToNat, g0, g1, g2, g3, ho1, z1, z2, z3, z4, z5, z6, z7, z8, z9, z10, z11, z12, z13, z14, z15, z16, z17, z18, z19, z20, z21, z22, z23, z24, z25, z26, z27, z28, z29, z30, z31, z32, z33, z34, z35, z36, z37, z38, z39, z40, z41, z42, List.take_zero, List.foldl_nil]
    rintro k e ⟨o2, n2⟩ hk ⟨⟨h2, h3, h4, h6, h44, h45⟩, h46, hn2, hold, hG⟩
    simp only at hn2 hold hG
    have hx0 := hold 0 0 (by omega) (by omega)
    have hx1 := hold 1 0 (by omega) (by omega)
    have hx2 := hold 2 0 (by omega) (by omega)
    have hx3 := hold 3 0 (by omega) (by omega)
    simp only [go_sem, ↓reduceIte, reduceCtorEq, Nat.reduceEqDiff, Nat.reduceLT, Nat.reduceLeDiff, Nat.reduceAdd, Nat.reduceSub, Nat.reduceMul, Nat.reduceGT, Int.reduceNeg, Int.reduceToNat, g0, g1, g2, g3, ho1, z1, z2, z3, z4, z5, z6, z7, z8, z9, z10, z11, z12, z13, z14, z15, z16, z17, z18, z19, z20, z21, z22, z23, z24, z25, z26, z27, z28, z29, z30, z31, z32, z33, z34, z35, z36, z37, z38, z39, z40, z41, z42] at h2 h3 h4 h6 h44 h45 hx0 hx1 hx2 hx3
    have hlenk : ((p.clauses.take k).foldl (Es.changeAt p) (c.clauses ++ [p.new])).length = c.clauses.length + 1 := by rw [Es.changeF_len]; try simp
    simp only [go_sem, ↓reduceIte, reduceCtorEq, Nat.reduceEqDiff, Nat.reduceLT, Nat.reduceLeDiff, Nat.reduceAdd, Nat.reduceSub, Nat.reduceMul, Nat.reduceGT, Int.reduceNeg, Int.reduceToNat, h2, h3, h4, h6, h44, h45, h46]
    have hw2 : IntKind.i64.wrap ((k : Int) + 1) = (k : Int) + 1 := wrap_i64 _ (by omega) (by omega)
    refine ite_cases (fun hlt => ?_) (fun hlt => ?_)
    · have hlt' : k < p.clauses.length := Es.len_lt.1 hlt
      refine ⟨⟨by omega, hlt⟩, ?_⟩
      obtain ⟨hi0, hi1⟩ := Es.inOrder_at hO hlt'
      refine awp_plan ((.op 0 (.op 1 (.op 2 (.op 3 (.op 4 (.op 5 (.op 6 (.op 7 .done))))))))) [7] mix (by kernel_rfl) ?_
      obtain ⟨gf, hgf, hcl, hdo⟩ := does_all p (hk25 hlt')
      have w1 : (0 = 1) = False := e0 (by omega); have w2 : (0 = 2) = False := e0 (by omega); have w3 : (0 = 3) = False := e0 (by omega); have w4 : (0 = n1 + 1) = False := e0 (by omega); have w5 : (0 = n2) = False := e0 (by omega); have w6 : (1 = 0) = False := e0 (by omega); have w7 : (1 = 2) = False := e0 (by omega); have w8 : (1 = 3) = False := e0 (by omega); have w9 : (1 = n1 + 1) = False := e0 (by omega); have w10 : (1 = n2) = False := e0 (by omega); have w11 : (2 = 0) = False := e0 (by omega); have w12 : (2 = 1) = False := e0 (by omega); have w13 : (2 = 3) = False := e0 (by omega); have w14 : (2 = n1 + 1) = False := e0 (by omega); have w15 : (2 = n2) = False := e0 (by omega); have w16 : (3 = 0) = False := e0 (by omega); have w17 : (3 = 1) = False := e0 (by omega); have w18 : (3 = 2) = False := e0 (by omega); have w19 : (3 = n1 + 1) = False := e0 (by omega); have w20 : (3 = n2) = False := e0 (by omega); have w21 : (n1 + 1 = 0) = False := e0 (by omega); have w22 : (n1 + 1 = 1) = False := e0 (by omega); have w23 : (n1 + 1 = 2) = False := e0 (by omega); have w24 : (n1 + 1 = 3) = False := e0 (by omega); have w25 : (n1 + 1 = n2) = False := e0 (by omega); have w26 : (n2 = 0) = False := e0 (by omega); have w27 : (n2 = 1) = False := e0 (by omega); have w28 : (n2 = 2) = False := e0 (by omega); have w29 : (n2 = 3) = False := e0 (by omega); have w30 : (n2 = n1 + 1) = False := e0 (by omega)
      simp only [go_sem, ↓reduceIte, reduceCtorEq, Nat.reduceEqDiff, Nat.reduceLT, Nat.reduceLeDiff, Nat.reduceAdd, Nat.reduceSub, Nat.reduceMul, Nat.reduceGT, Int.reduceNeg, Int.reduceToNat, h2, h3, h4, h6, h44, h45, h46, hx0, hx1, hx2, hx3, hG, hgf, hcl, w1, w2, w3, w4, w5, w6, w7, w8, w9, w10, w11, w12, w13, w14, w15, w16, w17, w18, w19, w20, w21, w22, w23, w24, w25, w26, w27, w28, w29, w30]
      refine ⟨⟨hi0, by simp only [Es.len] at hi1; omega⟩, ?_⟩
      refine hdo _ _ _ _ (n1 + 1) (0 + (Es.at_ p.clauses (k : Int)).toNat) (c.clauses.length + 1) _ _ _ _ _ hG (by omega) hlenk (by simp only [Es.len] at hi1; omega) fun o3 n3 hn3 hs3 ho3 => ?_
      simp only [go_sem, ↓reduceIte, reduceCtorEq, Nat.reduceEqDiff, Nat.reduceLT, Nat.reduceLeDiff, Nat.reduceAdd, Nat.reduceSub, Nat.reduceMul, Nat.reduceGT, Int.reduceNeg, Int.reduceToNat, h2, h3, h4, h6, h44, h45, h46, hw2]
      refine ⟨hlt', ?_⟩
      simp only [go_sem, ↓reduceIte, reduceCtorEq, Nat.reduceEqDiff, Nat.reduceLT, Nat.reduceLeDiff, Nat.reduceAdd, Nat.reduceSub, Nat.reduceMul, Nat.reduceGT, Int.reduceNeg, Int.reduceToNat, h2, h3, h4, h6, h44, h45, h46, hw2]
      refine ⟨by simp, by omega, fun gg j h1 h2 => (hs3 gg j (by omega) h2).trans (hold gg j h1 h2), ?_⟩
      rw [Es.take_at hlt', List.foldl_append]
      rw [show (((0 + (Es.at_ p.clauses (k : Int)).toNat : Nat)) : Int) = Es.at_ p.clauses (k : Int) by omega, Nat.zero_add] at ho3
      exact ho3
    · have hkk : k = p.clauses.length := by simp only [Es.len] at hlt; omega
      subst hkk
      rw [List.take_length] at hG hlenk
      have hch : Es.changed c p = { c with clauses := p.clauses.foldl (Es.changeAt p) (c.clauses ++ [p.new]) } := by unfold Es.changed; rw [hbase]
      have hfit : Es.Fits (Es.changed c p) := by
        rw [hch]; exact ⟨hf.holders, hf.units, hf.acts, by simp only [hlenk]; omega, hf.off⟩
      have w1 : (0 = 1) = False := e0 (by omega); have w2 : (0 = 2) = False := e0 (by omega); have w3 : (0 = 3) = False := e0 (by omega); have w4 : (0 = n1 + 1) = False := e0 (by omega); have w5 : (0 = n2) = False := e0 (by omega); have w6 : (1 = 0) = False := e0 (by omega); have w7 : (1 = 2) = False := e0 (by omega); have w8 : (1 = 3) = False := e0 (by omega); have w9 : (1 = n1 + 1) = False := e0 (by omega); have w10 : (1 = n2) = False := e0 (by omega); have w11 : (2 = 0) = False := e0 (by omega); have w12 : (2 = 1) = False := e0 (by omega); have w13 : (2 = 3) = False := e0 (by omega); have w14 : (2 = n1 + 1) = False := e0 (by omega); have w15 : (2 = n2) = False := e0 (by omega); have w16 : (3 = 0) = False := e0 (by omega); have w17 : (3 = 1) = False := e0 (by omega); have w18 : (3 = 2) = False := e0 (by omega); have w19 : (3 = n1 + 1) = False := e0 (by omega); have w20 : (3 = n2) = False := e0 (by omega); have w21 : (n1 + 1 = 0) = False := e0 (by omega); have w22 : (n1 + 1 = 1) = False := e0 (by omega); have w23 : (n1 + 1 = 2) = False := e0 (by omega); have w24 : (n1 + 1 = 3) = False := e0 (by omega); have w25 : (n1 + 1 = n2) = False := e0 (by omega); have w26 : (n2 = 0) = False := e0 (by omega); have w27 : (n2 = 1) = False := e0 (by omega); have w28 : (n2 = 2) = False := e0 (by omega); have w29 : (n2 = 3) = False := e0 (by omega); have w30 : (n2 = n1 + 1) = False := e0 (by omega)
      simp only [go_sem, ↓reduceIte, reduceCtorEq, Nat.reduceEqDiff, Nat.reduceLT, Nat.reduceLeDiff, Nat.reduceAdd, Nat.reduceSub, Nat.reduceMul, Nat.reduceGT, Int.reduceNeg, Int.reduceToNat, h2, h3, h4, h6, h44, h45, h46, hx0, hx1, hx2, hx3, hG, w1, w2, w3, w4, w5, w6, w7, w8, w9, w10, w11, w12, w13, w14, w15, w16, w17, w18, w19, w20, w21, w22, w23, w24, w25, w26, w27, w28, w29, w30]
      refine lend_at M_P M_G (pvalid_spec (Es.changed c p) hfit) gpu (.v _) ⟨?_, trivial⟩ ?_
      · rw [hch]
        exact Fz_agg ⟨.v _, (pu_slD pu_intC _).fz, (pu_slD pu_untC _).fz, (pu_slD pu_actC _).fz, fz_rows hG hlenk.symm pu_clsC, .v _, (pu_slD pu_intC _).fz, trivial⟩
      simp only [go_sem, ↓reduceIte, reduceCtorEq, Nat.reduceEqDiff, Nat.reduceLT, Nat.reduceLeDiff, Nat.reduceAdd, Nat.reduceSub, Nat.reduceMul, Nat.reduceGT, Int.reduceNeg, Int.reduceToNat, h2, h3, h4, h6, h44, h45, h46, hx0, hx1, hx2, hx3, hG, w1, w2, w3, w4, w5, w6, w7, w8, w9, w10, w11, w12, w13, w14, w15, w16, w17, w18, w19, w20, w21, w22, w23, w24, w25, w26, w27, w28, w29, w30]
      refine ite_cases (fun hv2 => ?_) (fun hv2 => ?_)
      · refine fz_bad ?_
        rw [hgood, if_neg hno, if_pos hv2]
      · rw [hgood, if_neg hno, if_neg hv2, hch]
        refine Fz_tup ⟨Fz_agg ⟨.v _, (pu_slD pu_intC _).fz, (pu_slD pu_untC _).fz, (pu_slD pu_actC _).fz, fz_rows (ty := 32) ?_ hlenk.symm pu_clsC, .v _, (pu_slD pu_intC _).fz, trivial⟩, .v _, trivial⟩
        simp only [St.set]; (repeat rw [if_neg (by omega)]); exact hG
  · have hbase : Es.changedL p c.clauses = p.clauses.foldl (Es.changeAt p) c.clauses := by unfold Es.changedL; rw [if_neg hk1]
    have hno : ¬ (p.kind == 1 && Es.len c.clauses == 400) = true := by simp_all
    refine awp_count0 p.clauses.length (fun e0 s0 k e s => (e 2 = e0 2 ∧ e 3 = e0 3 ∧ e 4 = e0 4 ∧ e 6 = e0 6 ∧ e 44 = e0 44 ∧ e 45 = e0 45) ∧ e 46 = .v (.int .i64 k) ∧ s0.nx ≤ s.nx ∧ (∀ gg j, gg < s0.nx → ¬ (gg = g ∧ j = 0) → s.o gg j = s0.o gg j) ∧ s.o (g) 0 = some (.blk 16 (c.clauses.length) 32 (rowsOf clsC ((p.clauses.take k).foldl (Es.changeAt p) (c.clauses))))) ⟨⟨rfl, rfl, rfl, rfl, rfl, rfl⟩, ?_, Nat.le_refl _, fun _ _ _ _ => rfl, ?_⟩ ?_
    · simp only [go_sem, ↓reduceIte, reduceCtorEq, Nat.reduceEqDiff, Nat.reduceLT, Nat.reduceLeDiff, Nat.reduceAdd, Nat.reduceSub, Nat.reduceMul, Nat.reduceGT, Int.reduceNeg, Int.reduceToNat]; rfl
    · simp only [go_sem, ↓reduceIte, reduceCtorEq, Nat.reduceEqDiff, Nat.reduceLT, Nat.reduceLeDiff, Nat.reduceAdd, Nat.reduceSub, Nat.reduceMul, Nat.reduceGT, Int.reduceNeg, Int.reduceToNat, g0, g1, g2, g3, ho1, z1, z2, z3, z4, z5, z6, z7, z8, z9, z10, z11, z12, z13, z14, z15, z16, z17, z18, z19, z20, z21, z22, z23, z24, z25, z26, z27, z28, z29, z30, z31, z32, z33, z34, z35, z36, z37, z38, z39, z40, z41, z42, List.take_zero, List.foldl_nil]
    rintro k e ⟨o2, n2⟩ hk ⟨⟨h2, h3, h4, h6, h44, h45⟩, h46, hn2, hold, hG⟩
    simp only at hn2 hold hG
    have hx0 := hold 0 0 (by omega) (by omega)
    have hx1 := hold 1 0 (by omega) (by omega)
    have hx2 := hold 2 0 (by omega) (by omega)
    have hx3 := hold 3 0 (by omega) (by omega)
    simp only [go_sem, ↓reduceIte, reduceCtorEq, Nat.reduceEqDiff, Nat.reduceLT, Nat.reduceLeDiff, Nat.reduceAdd, Nat.reduceSub, Nat.reduceMul, Nat.reduceGT, Int.reduceNeg, Int.reduceToNat, g0, g1, g2, g3, ho1, z1, z2, z3, z4, z5, z6, z7, z8, z9, z10, z11, z12, z13, z14, z15, z16, z17, z18, z19, z20, z21, z22, z23, z24, z25, z26, z27, z28, z29, z30, z31, z32, z33, z34, z35, z36, z37, z38, z39, z40, z41, z42] at h2 h3 h4 h6 h44 h45 hx0 hx1 hx2 hx3
    have hlenk : ((p.clauses.take k).foldl (Es.changeAt p) (c.clauses)).length = c.clauses.length := by rw [Es.changeF_len]; try simp
    simp only [go_sem, ↓reduceIte, reduceCtorEq, Nat.reduceEqDiff, Nat.reduceLT, Nat.reduceLeDiff, Nat.reduceAdd, Nat.reduceSub, Nat.reduceMul, Nat.reduceGT, Int.reduceNeg, Int.reduceToNat, h2, h3, h4, h6, h44, h45, h46]
    have hw2 : IntKind.i64.wrap ((k : Int) + 1) = (k : Int) + 1 := wrap_i64 _ (by omega) (by omega)
    refine ite_cases (fun hlt => ?_) (fun hlt => ?_)
    · have hlt' : k < p.clauses.length := Es.len_lt.1 hlt
      refine ⟨⟨by omega, hlt⟩, ?_⟩
      obtain ⟨hi0, hi1⟩ := Es.inOrder_at hO hlt'
      refine awp_plan ((.op 0 (.op 1 (.op 2 (.op 3 (.op 4 (.op 5 (.op 6 (.op 7 .done))))))))) [7] mix (by kernel_rfl) ?_
      obtain ⟨gf, hgf, hcl, hdo⟩ := does_all p (hk25 hlt')
      have w1 : (0 = 1) = False := e0 (by omega); have w2 : (0 = 2) = False := e0 (by omega); have w3 : (0 = 3) = False := e0 (by omega); have w4 : (0 = g) = False := e0 (by omega); have w5 : (0 = n2) = False := e0 (by omega); have w6 : (1 = 0) = False := e0 (by omega); have w7 : (1 = 2) = False := e0 (by omega); have w8 : (1 = 3) = False := e0 (by omega); have w9 : (1 = g) = False := e0 (by omega); have w10 : (1 = n2) = False := e0 (by omega); have w11 : (2 = 0) = False := e0 (by omega); have w12 : (2 = 1) = False := e0 (by omega); have w13 : (2 = 3) = False := e0 (by omega); have w14 : (2 = g) = False := e0 (by omega); have w15 : (2 = n2) = False := e0 (by omega); have w16 : (3 = 0) = False := e0 (by omega); have w17 : (3 = 1) = False := e0 (by omega); have w18 : (3 = 2) = False := e0 (by omega); have w19 : (3 = g) = False := e0 (by omega); have w20 : (3 = n2) = False := e0 (by omega); have w21 : (g = 0) = False := e0 (by omega); have w22 : (g = 1) = False := e0 (by omega); have w23 : (g = 2) = False := e0 (by omega); have w24 : (g = 3) = False := e0 (by omega); have w25 : (g = n2) = False := e0 (by omega); have w26 : (n2 = 0) = False := e0 (by omega); have w27 : (n2 = 1) = False := e0 (by omega); have w28 : (n2 = 2) = False := e0 (by omega); have w29 : (n2 = 3) = False := e0 (by omega); have w30 : (n2 = g) = False := e0 (by omega)
      simp only [go_sem, ↓reduceIte, reduceCtorEq, Nat.reduceEqDiff, Nat.reduceLT, Nat.reduceLeDiff, Nat.reduceAdd, Nat.reduceSub, Nat.reduceMul, Nat.reduceGT, Int.reduceNeg, Int.reduceToNat, h2, h3, h4, h6, h44, h45, h46, hx0, hx1, hx2, hx3, hG, hgf, hcl, w1, w2, w3, w4, w5, w6, w7, w8, w9, w10, w11, w12, w13, w14, w15, w16, w17, w18, w19, w20, w21, w22, w23, w24, w25, w26, w27, w28, w29, w30]
      refine ⟨⟨hi0, by simp only [Es.len] at hi1; omega⟩, ?_⟩
      refine hdo _ _ _ _ (g) (0 + (Es.at_ p.clauses (k : Int)).toNat) (c.clauses.length) _ _ _ _ _ hG (by omega) hlenk (by simp only [Es.len] at hi1; omega) fun o3 n3 hn3 hs3 ho3 => ?_
      simp only [go_sem, ↓reduceIte, reduceCtorEq, Nat.reduceEqDiff, Nat.reduceLT, Nat.reduceLeDiff, Nat.reduceAdd, Nat.reduceSub, Nat.reduceMul, Nat.reduceGT, Int.reduceNeg, Int.reduceToNat, h2, h3, h4, h6, h44, h45, h46, hw2]
      refine ⟨hlt', ?_⟩
      simp only [go_sem, ↓reduceIte, reduceCtorEq, Nat.reduceEqDiff, Nat.reduceLT, Nat.reduceLeDiff, Nat.reduceAdd, Nat.reduceSub, Nat.reduceMul, Nat.reduceGT, Int.reduceNeg, Int.reduceToNat, h2, h3, h4, h6, h44, h45, h46, hw2]
      refine ⟨by simp, by omega, fun gg j h1 h2 => (hs3 gg j (by omega) h2).trans (hold gg j h1 h2), ?_⟩
      rw [Es.take_at hlt', List.foldl_append]
      rw [show (((0 + (Es.at_ p.clauses (k : Int)).toNat : Nat)) : Int) = Es.at_ p.clauses (k : Int) by omega, Nat.zero_add] at ho3
      exact ho3
    · have hkk : k = p.clauses.length := by simp only [Es.len] at hlt; omega
      subst hkk
      rw [List.take_length] at hG hlenk
      have hch : Es.changed c p = { c with clauses := p.clauses.foldl (Es.changeAt p) (c.clauses) } := by unfold Es.changed; rw [hbase]
      have hfit : Es.Fits (Es.changed c p) := by
        rw [hch]; exact ⟨hf.holders, hf.units, hf.acts, by simp only [hlenk]; omega, hf.off⟩
      have w1 : (0 = 1) = False := e0 (by omega); have w2 : (0 = 2) = False := e0 (by omega); have w3 : (0 = 3) = False := e0 (by omega); have w4 : (0 = g) = False := e0 (by omega); have w5 : (0 = n2) = False := e0 (by omega); have w6 : (1 = 0) = False := e0 (by omega); have w7 : (1 = 2) = False := e0 (by omega); have w8 : (1 = 3) = False := e0 (by omega); have w9 : (1 = g) = False := e0 (by omega); have w10 : (1 = n2) = False := e0 (by omega); have w11 : (2 = 0) = False := e0 (by omega); have w12 : (2 = 1) = False := e0 (by omega); have w13 : (2 = 3) = False := e0 (by omega); have w14 : (2 = g) = False := e0 (by omega); have w15 : (2 = n2) = False := e0 (by omega); have w16 : (3 = 0) = False := e0 (by omega); have w17 : (3 = 1) = False := e0 (by omega); have w18 : (3 = 2) = False := e0 (by omega); have w19 : (3 = g) = False := e0 (by omega); have w20 : (3 = n2) = False := e0 (by omega); have w21 : (g = 0) = False := e0 (by omega); have w22 : (g = 1) = False := e0 (by omega); have w23 : (g = 2) = False := e0 (by omega); have w24 : (g = 3) = False := e0 (by omega); have w25 : (g = n2) = False := e0 (by omega); have w26 : (n2 = 0) = False := e0 (by omega); have w27 : (n2 = 1) = False := e0 (by omega); have w28 : (n2 = 2) = False := e0 (by omega); have w29 : (n2 = 3) = False := e0 (by omega); have w30 : (n2 = g) = False := e0 (by omega)
      simp only [go_sem, ↓reduceIte, reduceCtorEq, Nat.reduceEqDiff, Nat.reduceLT, Nat.reduceLeDiff, Nat.reduceAdd, Nat.reduceSub, Nat.reduceMul, Nat.reduceGT, Int.reduceNeg, Int.reduceToNat, h2, h3, h4, h6, h44, h45, h46, hx0, hx1, hx2, hx3, hG, w1, w2, w3, w4, w5, w6, w7, w8, w9, w10, w11, w12, w13, w14, w15, w16, w17, w18, w19, w20, w21, w22, w23, w24, w25, w26, w27, w28, w29, w30]
      refine lend_at M_P M_G (pvalid_spec (Es.changed c p) hfit) gpu (.v _) ⟨?_, trivial⟩ ?_
      · rw [hch]
        exact Fz_agg ⟨.v _, (pu_slD pu_intC _).fz, (pu_slD pu_untC _).fz, (pu_slD pu_actC _).fz, fz_rows hG hlenk.symm pu_clsC, .v _, (pu_slD pu_intC _).fz, trivial⟩
      simp only [go_sem, ↓reduceIte, reduceCtorEq, Nat.reduceEqDiff, Nat.reduceLT, Nat.reduceLeDiff, Nat.reduceAdd, Nat.reduceSub, Nat.reduceMul, Nat.reduceGT, Int.reduceNeg, Int.reduceToNat, h2, h3, h4, h6, h44, h45, h46, hx0, hx1, hx2, hx3, hG, w1, w2, w3, w4, w5, w6, w7, w8, w9, w10, w11, w12, w13, w14, w15, w16, w17, w18, w19, w20, w21, w22, w23, w24, w25, w26, w27, w28, w29, w30]
      refine ite_cases (fun hv2 => ?_) (fun hv2 => ?_)
      · refine fz_bad ?_
        rw [hgood, if_neg hno, if_pos hv2]
      · rw [hgood, if_neg hno, if_neg hv2, hch]
        refine Fz_tup ⟨Fz_agg ⟨.v _, (pu_slD pu_intC _).fz, (pu_slD pu_untC _).fz, (pu_slD pu_actC _).fz, fz_rows (ty := 32) ?_ hlenk.symm pu_clsC, .v _, (pu_slD pu_intC _).fz, trivial⟩, .v _, trivial⟩
        simp only [St.set]; (repeat rw [if_neg (by omega)]); exact hG
end Tryz
end Go.Proofs
end
