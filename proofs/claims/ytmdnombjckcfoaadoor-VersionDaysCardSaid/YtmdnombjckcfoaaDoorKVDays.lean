/-
  For every input VersionDays returns true, and the arguments read as they did. No condition.
-/
import Derived.Test.YtmdnombjckcfoaaDoorBh
set_option linter.unusedSimpArgs false
set_option linter.unusedVariables false
section
namespace Go.Proofs
open Go Go.Abs
set_option linter.unusedSimpArgs false
set_option linter.unusedVariables false
set_option maxRecDepth 10000
namespace Tryd
theorem two_rows (cell : Nat → Nat → D) (x y : List Int) (r : Nat) (hr : r < (x ++ y).length) : appC (appC cell 0 (rowsOf intC x)) (0 + x.length) (rowsOf intC y) r 0 = .v (.int .i64 ((x ++ y).getD r default)) := by
  simp only [appC, rowsOf, Nat.zero_add]
  rw [List.length_append] at hr
  by_cases h : r < x.length
  · rw [if_pos h, if_neg (by omega)]
    simp [List.getD_eq_getElem?_getD, List.getElem?_append, h]
    rfl
  · rw [if_neg h]
    simp [List.getD_eq_getElem?_getD, List.getElem?_append, h]
    rfl
theorem ints_own2 {X : D → Value → Prop} {N b n : Nat} {r : Option Nat} {o : St} {nx f : Nat} {ty : TypeId} {K : D → S → Prop} {cell : Nat → Nat → D} (L L' : List Int) (hl : L.length ≤ 9223372036854775807) (hB : o f 0 = some (.blk 1 n ty cell)) (hn : n = L.length) (hc : ∀ r, r < L.length → cell r 0 = .v (.int .i64 (L.getD r default))) (hk : K (.v (.bool (L == L'))) ⟨o, nx⟩) :
    ACall { P := prog, G := gl, X := X, N := N, r := r, b := b } 34 [.ms f 0 1 0 n, slD 1 intC L'] ⟨o, nx⟩ K :=
  lend_at M_P M_G (ints13_spec L L' hl) gpu (.v _) ⟨fz_ms hB hn pu_intC (fun r c hr hc' => by
    obtain rfl : c = 0 := by omega
    exact hc r hr), (pu_slD pu_intC _).fz, trivial⟩ hk
theorem vdays_spec (c : Es.Contract) (l : List Es.Amend) (first second known : Int) (hf : Es.Fits c) (hl : l.length ≤ 9223372036854775807) : APure M 11 [conD c, slD 22 amdC l, .v (.int .i64 first), .v (.int .i64 second), .v (.int .i64 known)] (.v (.bool true)) := by
  refine pure_of gpu func11 rfl results11 ntmps11 (by simp) ⟨pu_conD _, pu_slD pu_amdC _, .v _, .v _, .v _, trivial⟩ ?_
  intro b
  simp only [go_sem, ↓reduceIte, reduceCtorEq, Nat.reduceEqDiff, Nat.reduceLT, Nat.reduceLeDiff, Nat.reduceAdd, Nat.reduceSub, Nat.reduceMul, Nat.reduceGT, Int.reduceNeg, Int.reduceToNat]
  repeat' (first | ((with_reducible refine call_at M_P M_G (head25_spec) ?_); simp only [go_sem, ↓reduceIte, reduceCtorEq, Nat.reduceEqDiff, Nat.reduceLT, Nat.reduceLeDiff, Nat.reduceAdd, Nat.reduceSub, Nat.reduceMul, Nat.reduceGT, Int.reduceNeg, Int.reduceToNat]) | ((with_reducible refine call_at M_P M_G (small25_spec c l hf hl) ?_); simp only [go_sem, ↓reduceIte, reduceCtorEq, Nat.reduceEqDiff, Nat.reduceLT, Nat.reduceLeDiff, Nat.reduceAdd, Nat.reduceSub, Nat.reduceMul, Nat.reduceGT, Int.reduceNeg, Int.reduceToNat]) | (with_reducible refine And.intro ?_ ?_) | ((with_reducible refine ite_cases ?_ ?_) <;> intro _))
  · trivial
  rotate_left
  · trivial
  have hl12 : l.length ≤ 12 := fewL_len (n := 12) (by simp_all)
  refine awp_count0 l.length (fun e0 s0 k e st => (e 1 = e0 1 ∧ e 2 = e0 2 ∧ e 3 = e0 3 ∧ e 4 = e0 4 ∧ e 5 = e0 5 ∧ e 11 = e0 11) ∧ e 13 = .v (.int .i64 k) ∧ 1 ≤ st.nx ∧ st.o 0 0 = some (.blk 7 1 27 (rowOf (conCells c))) ∧
    OutL amdC 22 64 1 st (e 12) ((l.take k).filter fun x => decide (first < x.day))) ⟨⟨rfl, rfl, rfl, rfl, rfl, rfl⟩, ?_, Nat.le_refl _, ?_, .inl ⟨rfl, rfl⟩⟩ ?_
  · simp only [go_sem, ↓reduceIte, reduceCtorEq, Nat.reduceEqDiff, Nat.reduceLT, Nat.reduceLeDiff, Nat.reduceAdd, Nat.reduceSub, Nat.reduceMul, Nat.reduceGT, Int.reduceNeg, Int.reduceToNat]; rfl
  · simp only [go_sem, ↓reduceIte, reduceCtorEq, Nat.reduceEqDiff, Nat.reduceLT, Nat.reduceLeDiff, Nat.reduceAdd, Nat.reduceSub, Nat.reduceMul, Nat.reduceGT, Int.reduceNeg, Int.reduceToNat, conCells_eq]
  rintro k e ⟨o2, n2⟩ hk ⟨⟨a1, a2, a3, a4, a5, a11⟩, a13, hn, i0, hO⟩
  simp only [go_sem, ↓reduceIte, reduceCtorEq, Nat.reduceEqDiff, Nat.reduceLT, Nat.reduceLeDiff, Nat.reduceAdd, Nat.reduceSub, Nat.reduceMul, Nat.reduceGT, Int.reduceNeg, Int.reduceToNat] at a1 a2 a3 a4 a5 a11
  simp only at hn i0
  simp only [conCells_eq] at i0
  have e0 : ∀ {a b : Nat}, a ≠ b → (a = b) = False := fun h => by simp [h]
  have w1 : (0 = n2) = False := e0 (by omega); have w2 : (0 = n2 + 1) = False := e0 (by omega); have w3 : (0 = n2 + 1 + 1) = False := e0 (by omega); have w4 : (n2 = 0) = False := e0 (by omega); have w5 : (n2 = n2 + 1) = False := e0 (by omega); have w6 : (n2 = n2 + 1 + 1) = False := e0 (by omega); have w7 : (n2 + 1 = 0) = False := e0 (by omega); have w8 : (n2 + 1 = n2) = False := e0 (by omega); have w9 : (n2 + 1 = n2 + 1 + 1) = False := e0 (by omega); have w10 : (n2 + 1 + 1 = 0) = False := e0 (by omega); have w11 : (n2 + 1 + 1 = n2) = False := e0 (by omega); have w12 : (n2 + 1 + 1 = n2 + 1) = False := e0 (by omega)
  have hw : IntKind.i64.wrap ((k : Int) + 1) = (k : Int) + 1 := wrap_i64 _ (by omega) (by omega)
  simp only [go_sem, ↓reduceIte, reduceCtorEq, Nat.reduceEqDiff, Nat.reduceLT, Nat.reduceLeDiff, Nat.reduceAdd, Nat.reduceSub, Nat.reduceMul, Nat.reduceGT, Int.reduceNeg, Int.reduceToNat, a1, a2, a3, a4, a5, a11, a13, i0, hw, w1, w2, w3, w4, w5, w6, w7, w8, w9, w10, w11, w12]
  refine ite_cases (fun hlt => ?_) (fun hlt => ?_)
  · have hlt' : k < l.length := Es.len_lt.1 hlt
    have hnext : l.take (k + 1) = l.take k ++ [Es.at_ l (k : Int)] := by rw [List.take_add_one, List.getElem?_eq_getElem hlt', Es.at_nat hlt']; rfl
    have hll : ((l.take k).filter fun x => decide (first < x.day)).length ≤ 12 := by
      have h1 := List.length_filter_le (fun x : Es.Amend => decide (first < x.day)) (l.take k)
      have h2 : (l.take k).length ≤ l.length := by rw [List.length_take]; omega
      omega
    repeat' (first | (with_reducible refine And.intro ?_ ?_) | ((with_reducible refine ite_cases ?_ ?_) <;> intro _))
    all_goals first
      | omega
      | exact hlt
      | (have hp : (decide (first < (Es.at_ l (k : Int)).day)) = false := by
           simp only [decide_eq_false_iff_not]; omega
         refine ⟨hlt', ?_⟩
         simp only [go_sem, ↓reduceIte, reduceCtorEq, Nat.reduceEqDiff, Nat.reduceLT, Nat.reduceLeDiff, Nat.reduceAdd, Nat.reduceSub, Nat.reduceMul, Nat.reduceGT, Int.reduceNeg, Int.reduceToNat, a1, a2, a3, a4, a5, a11, a13, i0, hw, w1, w2, w3, w4, w5, w6, w7, w8, w9, w10, w11, w12]
         refine ⟨by simp, hn, ?_⟩
         rw [hnext, List.filter_append, List.filter_cons, hp]
         simpa using hO)
      | skip
    have hp : (decide (first < (Es.at_ l (k : Int)).day)) = true := by
      simp only [decide_eq_true_eq]; omega
    have hfil : (l.take (k + 1)).filter (fun x => decide (first < x.day)) = (l.take k).filter (fun x => decide (first < x.day)) ++ [Es.at_ l (k : Int)] := by
      rw [hnext, List.filter_append, List.filter_cons, hp]; rfl
    generalize hd : e 12 = d at hO
    rcases hO with ⟨hnil, rfl⟩ | ⟨g, cl, rfl, hg1, hg2, hg3, hg4⟩
    · simp only [go_sem, ↓reduceIte, reduceCtorEq, Nat.reduceEqDiff, Nat.reduceLT, Nat.reduceLeDiff, Nat.reduceAdd, Nat.reduceSub, Nat.reduceMul, Nat.reduceGT, Int.reduceNeg, Int.reduceToNat, hd, a1, a2, a3, a4, a5, a11, a13, i0, hw, w1, w2, w3, w4, w5, w6, w7, w8, w9, w10, w11, w12]
      refine ⟨hlt', ?_⟩
      simp only [go_sem, ↓reduceIte, reduceCtorEq, Nat.reduceEqDiff, Nat.reduceLT, Nat.reduceLeDiff, Nat.reduceAdd, Nat.reduceSub, Nat.reduceMul, Nat.reduceGT, Int.reduceNeg, Int.reduceToNat, hd, a1, a2, a3, a4, a5, a11, a13, i0, hw, w1, w2, w3, w4, w5, w6, w7, w8, w9, w10, w11, w12]
      refine ⟨by simp, ?_⟩
      rw [hfil, hnil]
      exact OutL.one' (by omega) (fun j hj => amd_row _ j hj)
    · simp only at hg2 hg3
      have v1 : (0 = g) = False := e0 (by omega); have v2 : (0 = n2) = False := e0 (by omega); have v3 : (0 = n2 + 1) = False := e0 (by omega); have v4 : (0 = n2 + 1 + 1) = False := e0 (by omega); have v5 : (g = 0) = False := e0 (by omega); have v6 : (g = n2) = False := e0 (by omega); have v7 : (g = n2 + 1) = False := e0 (by omega); have v8 : (g = n2 + 1 + 1) = False := e0 (by omega); have v9 : (n2 = 0) = False := e0 (by omega); have v10 : (n2 = g) = False := e0 (by omega); have v11 : (n2 = n2 + 1) = False := e0 (by omega); have v12 : (n2 = n2 + 1 + 1) = False := e0 (by omega); have v13 : (n2 + 1 = 0) = False := e0 (by omega); have v14 : (n2 + 1 = g) = False := e0 (by omega); have v15 : (n2 + 1 = n2) = False := e0 (by omega); have v16 : (n2 + 1 = n2 + 1 + 1) = False := e0 (by omega); have v17 : (n2 + 1 + 1 = 0) = False := e0 (by omega); have v18 : (n2 + 1 + 1 = g) = False := e0 (by omega); have v19 : (n2 + 1 + 1 = n2) = False := e0 (by omega); have v20 : (n2 + 1 + 1 = n2 + 1) = False := e0 (by omega)
      simp only [go_sem, ↓reduceIte, reduceCtorEq, Nat.reduceEqDiff, Nat.reduceLT, Nat.reduceLeDiff, Nat.reduceAdd, Nat.reduceSub, Nat.reduceMul, Nat.reduceGT, Int.reduceNeg, Int.reduceToNat, hd, a1, a2, a3, a4, a5, a11, a13, i0, hw, hg3, v1, v2, v3, v4, v5, v6, v7, v8, v9, v10, v11, v12, v13, v14, v15, v16, v17, v18, v19, v20]
      refine ⟨⟨by omega, by omega⟩, hlt', ?_⟩
      simp only [go_sem, ↓reduceIte, reduceCtorEq, Nat.reduceEqDiff, Nat.reduceLT, Nat.reduceLeDiff, Nat.reduceAdd, Nat.reduceSub, Nat.reduceMul, Nat.reduceGT, Int.reduceNeg, Int.reduceToNat, hd, a1, a2, a3, a4, a5, a11, a13, i0, hw, hg3, v1, v2, v3, v4, v5, v6, v7, v8, v9, v10, v11, v12, v13, v14, v15, v16, v17, v18, v19, v20]
      refine ⟨by simp, ?_⟩
      rw [hfil]
      exact OutL.more' (by omega) hg4 (fun j hj => amd_row _ j hj)
  · obtain rfl : k = l.length := by simp only [Es.len] at hlt; omega
    rw [List.take_length] at hO
    have hI := inForce_fits c l first known
    have hI2 := inForce_fits (Es.inForce c l first known).1 (l.filter fun x => decide (first < x.day)) second known
    have hI3 := inForce_fits c l second known
    have hlf : (l.filter fun x => decide (first < x.day)).length ≤ 12 := Nat.le_trans (List.length_filter_le _ _) hl12
    refine call_at M_P M_G (inForce_spec c l first known hf hl12) ?_
    simp only [go_sem, ↓reduceIte, reduceCtorEq, Nat.reduceEqDiff, Nat.reduceLT, Nat.reduceLeDiff, Nat.reduceAdd, Nat.reduceSub, Nat.reduceMul, Nat.reduceGT, Int.reduceNeg, Int.reduceToNat, a1, a2, a3, a4, a5, a11, a13, i0, hw, w1, w2, w3, w4, w5, w6, w7, w8, w9, w10, w11, w12]
    refine ite_cases (fun he => ?_) (fun he => ?_)
    · rw [Es.inForce_bad (by rw [← Es.inForce_err c l first known]; simpa using he)]
      rfl
    have hL := Es.law_days c l (by omega) first second known (by simp_all) (by simpa using he)
    refine inForce_out hO (fun g h1 h2 => by simp only [St.set]; rw [if_neg (by omega)]) hI.1 hlf fun o3 ho3 => ?_
    have j0 : o3 0 0 = o2 0 0 := by rw [ho3 0 0 (by omega)]; simp only [St.set]; rw [if_neg (by omega)]
    rw [i0] at j0
    have j1 := ho3 n2 0 (.inr (Nat.le_refl _))
    rw [St_set_self] at j1
    simp only [go_sem, ↓reduceIte, reduceCtorEq, Nat.reduceEqDiff, Nat.reduceLT, Nat.reduceLeDiff, Nat.reduceAdd, Nat.reduceSub, Nat.reduceMul, Nat.reduceGT, Int.reduceNeg, Int.reduceToNat, a1, a2, a3, a4, a5, a11, a13, j0, j1, hw, w1, w2, w3, w4, w5, w6, w7, w8, w9, w10, w11, w12]
    refine call_at M_P M_G (inForce_spec c l second known hf hl12) ?_
    simp only [go_sem, ↓reduceIte, reduceCtorEq, Nat.reduceEqDiff, Nat.reduceLT, Nat.reduceLeDiff, Nat.reduceAdd, Nat.reduceSub, Nat.reduceMul, Nat.reduceGT, Int.reduceNeg, Int.reduceToNat, a1, a2, a3, a4, a5, a11, a13, j0, j1, hw, w1, w2, w3, w4, w5, w6, w7, w8, w9, w10, w11, w12]
    generalize Es.inForce (Es.inForce c l first known).1 (l.filter fun x => decide (first < x.day)) second known = F2 at hI2 hL
    generalize Es.inForce c l second known = F3 at hI3 hL
    generalize Es.inForce c l first known = F1 at hI hL j1
    obtain ⟨g1, g2, g3, g4⟩ := hL
    have hx1 : F1.2.1.length ≤ 12 := by have := hI.2.2; omega
    have hx2 : F2.2.1.length ≤ 12 := by have := hI2.2.2; omega
    have hsame : Es.sameC F2.1 F3.1 = true := by rw [g3]; exact Es.sameC_refl _
    have u1 : (n2 = n2 + 1) = False := by simp
    have u2 : (n2 = n2 + 2) = False := by simp
    have u3 : (n2 = n2 + 3) = False := by simp
    have u4 : (n2 = n2 + 4) = False := by simp
    have u5 : (n2 = n2 + 5) = False := by simp
    refine ⟨⟨by omega, by omega⟩, ⟨by omega, by omega⟩, ?_⟩
    rw [if_pos (by rw [g1]; rfl), if_pos (by rw [g2]; rfl)]
    simp only [go_sem, ↓reduceIte, reduceCtorEq, Nat.reduceEqDiff, Nat.reduceLT, Nat.reduceLeDiff, Nat.reduceAdd, Nat.reduceSub, Nat.reduceMul, Nat.reduceGT, Int.reduceNeg, Int.reduceToNat, u1, u2, u3, u4, u5]
    refine call_at M_P M_G (same13_spec F2.1 F3.1 hI2.1 hI2.2.1) ?_
    simp only [go_sem, ↓reduceIte, reduceCtorEq, Nat.reduceEqDiff, Nat.reduceLT, Nat.reduceLeDiff, Nat.reduceAdd, Nat.reduceSub, Nat.reduceMul, Nat.reduceGT, Int.reduceNeg, Int.reduceToNat, u1, u2, u3, u4, u5, hsame]
    refine ints_own2 (F1.2.1 ++ F2.2.1) F3.2.1 (by simp; omega) (St_set_self _ _ _ _) (by simp) (fun r hr => two_rows _ _ _ r hr) ?_
    rw [g4]
    simp only [go_sem, ↓reduceIte, reduceCtorEq, Nat.reduceEqDiff, Nat.reduceLT, Nat.reduceLeDiff, Nat.reduceAdd, Nat.reduceSub, Nat.reduceMul, Nat.reduceGT, Int.reduceNeg, Int.reduceToNat, u1, u2, u3, u4, u5, hsame]
    simp
end Tryd
end Go.Proofs
end
section
/-
  For every input VersionDays returns true, and the arguments read as they did. No condition.
-/
namespace Go.Proofs.YtmdnombjckcfoaaDoor
open Go Go.Abs Go.ChangeShapes Go.WideShapes Go.ChangeAt Go.RowKit
set_option linter.unusedVariables false
namespace lawVersionDays
set_option maxRecDepth 100000 in
theorem lifted (os : Os) (started : os.Started) (H : Type) (enc : TypeId × Value → H) :
    ReturnsInHanded {} Tryd.checked os 11 .any (fun w args => (Rows.versionDaysSpec.pre enc Tryd.prog Tryd.f11 [] false w args ∧ laidMetH Tryd.prog Tryd.laidL w) ∧ sizedMet enc Tryd.prog Tryd.f11 (OpenSpec.ofChange Rows.versionDaysSpec) false w args)
      (Rows.versionDaysSpec.post enc Tryd.prog Tryd.f11 false true false false) := by
  refine returnsInHanded_of_change_and (C := Tryd.checked) (X := fun w _ => laidMetH Tryd.prog Tryd.laidL w) (fun _ _ _ hh h => h.of_heap hh) Tryd.own started (by kernel_rfl) Tryd.func11
    (ChangeSpec.witness_shaped (enc := enc) (C := Tryd.checked) (os := os) (X := fun w _ => laidMetH Tryd.prog Tryd.laidL w) false (World.doorLaid Tryd.prog 400 os) #[.agg #[.int .i64 0, .slice none 0 0, .slice none 0 0, .slice none 0 0, .slice none 0 0, .int .i64 0, .slice none 0 0], .slice none 0 0, .int .i64 0, .int .i64 0, .int .i64 0] 8 rfl (World.shaped_of_RefB (by kernel_rfl) (by kernel_rfl)) (by kernel_rfl) (by kernel_rfl) (by kernel_rfl) (Tryd.door_met os _)) ?_
  intro W base args ds gs before hval0 hW _ _ hL _
  have hval : ∀ (j : Nat) t v, Tryd.f11.params[j]? = some t → args[j]? = some v → Value.okWide Tryd.prog W .any base t v := hval0
  have hW' := hW
  obtain ⟨p, q, hA0, hV, rfl, hfz, hnd⟩ := hW
  have hA : DataW.TrodAll enc Tryd.prog W 0 (fun _ => true) true Tryd.f11.params.toList args.toList ds p := hA0
  rw [Tryd.params11] at hA hval
  have hstay := hA
  obtain ⟨rfl, rfl⟩ := trodVars_none hV
  simp only [List.append_nil] at hW'
  obtain ⟨v0, vs0, d0, ds0, p0, q0, e0, rfl, rfl, h0, t0⟩ := trodAll_cons hA
  obtain ⟨v1, vs1, d1, ds1, p1, q1, e1, rfl, rfl, h1, t1⟩ := trodAll_cons t0
  obtain ⟨v2, vs2, d2, ds2, p2, q2, e2, rfl, rfl, h2, t2⟩ := trodAll_cons t1
  obtain ⟨v3, vs3, d3, ds3, p3, q3, e3, rfl, rfl, h3, t3⟩ := trodAll_cons t2
  obtain ⟨v4, vs4, d4, ds4, p4, q4, e4, rfl, rfl, h4, t4⟩ := trodAll_cons t3
  obtain ⟨z1, rfl, rfl⟩ := trodAll_nil t4
  subst z1
  subst e4
  subst e3
  subst e2
  subst e1
  obtain rfl : args = #[v0, v1, v2, v3, v4] := by apply Array.ext'; simpa using e0
  obtain ⟨x0, g0, r0⟩ := Tryd.arg_contract (hval 0 27 v0 rfl rfl) h0
  obtain ⟨x1, g1, r1⟩ := Tryd.arg_amends (hval 1 56 v1 rfl rfl) h1
  obtain ⟨x2, g2, r2⟩ := Tryd.arg_int (hval 2 3 v2 rfl rfl) h2
  obtain ⟨x3, g3, r3⟩ := Tryd.arg_int (hval 3 3 v3 rfl rfl) h3
  obtain ⟨x4, g4, r4⟩ := Tryd.arg_int (hval 4 3 v4 rfl rfl) h4
  refine (calls_of_apure (vals := [v0, v1, v2, v3, v4]) (Tryd.vdays_spec x0 x1 x2 x3 x4 g0 g1) rfl (fun i d hi => ?_) (Tryd.glob_ok hL)).mono ?_
  · rcases i with _ | _ | _ | _ | _ | i <;> first | (simp at hi; subst hi; assumption) | (simp at hi)
  · rintro e W' ⟨c', v, rfl, rfl, hb, hr⟩
    cases hr
    have hlt := hW'.lt
    refine ⟨_, rfl, ⟨_, _, _, [], _, [], hW', trodAll_mk1 (shut_bool Tryd.underlying4 _), args_stay Tryd.rowLaidOut hb ?_ hA0 ?_ ?_, rfl, hb.frame _, fun h => by cases h⟩⟩
    · rw [Tryd.params11]; intro t ht
      have hall : ([27, 56, 3, 3, 3].all fun t => Tryd.prog.readableRec t && decide (t < Tryd.prog.types.size)) = true := by kernel_rfl
      have := List.all_eq_true.1 hall t (by simpa using ht)
      simpa using this
    · intro x hx; exact by simpa using hlt x (by simpa using hx)
    · intro x hx; simpa using hlt x (by simpa using hx)
theorem row_holds : Rows.VersionDaysSaid :=
  OpenClaim.holds_of_wide 11 Tryd.f11 rfl rfl rfl rfl rfl rfl rfl ⟨rfl, rfl, rfl, rfl, rfl⟩ rfl rfl rfl rfl rfl (by kernel_rfl) Tryd.func11 (by kernel_rfl)
    (of_decide_eq_true (by kernel_rfl)) (by unfold Func.isWrapper; first | (rw [if_pos (by decide +kernel)]; kernel_rfl) | (rw [if_neg (by decide +kernel)]; exact ⟨rfl, rfl⟩))
    (fun os started H enc _ => lifted os started H enc)
theorem card_holds : Rows.VersionDaysCardSaid :=
  Claim7.holds_tied_plain_at .later [] [.data, .data] true Rows.versionDaysCard.stood.harness false
    row_holds (fun _ h => by cases h) (by kernel_rfl) (fun _ h => by cases h) versionDays_row_tie rfl ⟨rfl, rfl⟩ (by kernel_rfl) rfl
    (fun f fn hf hfn => by
      obtain rfl : f = 11 := Option.some.inj ((show Tryd.prog.funcNamed Rows.versionDaysRow.func = some 11 by kernel_rfl).symm.trans hf) |>.symm
      obtain rfl : fn = Tryd.f11 := (Option.some.inj (Tryd.func11.symm.trans hfn)).symm
      exact ⟨by kernel_rfl, fun j t ht => by
        rw [Tryd.params11] at ht
        have hm : t ∈ [27, 56, 3, 3, 3] := by simpa using Array.mem_of_getElem? ht
        have hall : ([27, 56, 3, 3, 3].all fun u => !Tryd.prog.wantsStandIn u) = true := by kernel_rfl
        exact (show Tryd.prog.wantsStandIn t = false by simpa using List.all_eq_true.1 hall t hm)⟩)
    (by kernel_rfl)
end lawVersionDays
#print axioms lawVersionDays.card_holds
end Go.Proofs.YtmdnombjckcfoaaDoor
end
