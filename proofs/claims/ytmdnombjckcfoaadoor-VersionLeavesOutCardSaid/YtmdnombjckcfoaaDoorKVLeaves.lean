/-
  For every input VersionLeavesOut returns true, and the arguments read as they did. No condition.
-/
import Derived.Test.YtmdnombjckcfoaaDoorBh
set_option linter.unusedSimpArgs false
set_option linter.unusedVariables false
section
namespace Go.Proofs
open Go Go.Abs
set_option linter.unusedSimpArgs false
set_option linter.unusedVariables false
set_option maxRecDepth 10000
namespace Tryd
/-- What the loop over the order has made. -/
def sK (c : Es.Contract) (l : List Es.Amend) (day known : Int) (k : Nat) : Es.Contract × List Int := ((Es.orderA l).take k).foldl (fun x i => Es.stepLO day known x (Es.at_ l i)) (c, [])
theorem sK_next (c : Es.Contract) (l : List Es.Amend) (day known : Int) {k : Nat} (h : k < (Es.orderA l).length) : sK c l day known (k + 1) = Es.stepLO day known (sK c l day known k) (Es.at_ l (Es.at_ (Es.orderA l) (k : Int))) := by
  unfold sK
  rw [List.take_add_one, List.getElem?_eq_getElem h, Es.at_nat h, Option.toList_some, List.foldl_append]
  rfl
theorem ints_outL {X : D → Value → Prop} {N b n0 : Nat} {r : Option Nat} {o : St} {nx : Nat} {ty : TypeId} {K : D → S → Prop} {d : D} {L L' : List Int} (hO : OutL intC 1 ty n0 ⟨o, nx⟩ d L') (hl : L.length ≤ 9223372036854775807) (hk : K (.v (.bool (L == L'))) ⟨o, nx⟩) :
    ACall { P := prog, G := gl, X := X, N := N, r := r, b := b } 34 [slD 1 intC L, d] ⟨o, nx⟩ K :=
  lend_at M_P M_G (ints13_spec L L' hl) gpu (.v _) ⟨(pu_slD pu_intC _).fz, hO.fz (fun _ _ _ => rfl) pu_intC, trivial⟩ hk
theorem vleaves_spec (c : Es.Contract) (l : List Es.Amend) (day known : Int) (hf : Es.Fits c) (hl : l.length ≤ 9223372036854775807) : APure M 12 [conD c, slD 22 amdC l, .v (.int .i64 day), .v (.int .i64 known)] (.v (.bool true)) := by
  refine pure_of gpu func12 rfl results12 ntmps12 (by simp) ⟨pu_conD _, pu_slD pu_amdC _, .v _, .v _, trivial⟩ ?_
  intro b
  simp only [go_sem, ↓reduceIte, reduceCtorEq, Nat.reduceEqDiff, Nat.reduceLT, Nat.reduceLeDiff, Nat.reduceAdd, Nat.reduceSub, Nat.reduceMul, Nat.reduceGT, Int.reduceNeg, Int.reduceToNat]
  repeat' (first | ((with_reducible refine call_at M_P M_G (head25_spec) ?_); simp only [go_sem, ↓reduceIte, reduceCtorEq, Nat.reduceEqDiff, Nat.reduceLT, Nat.reduceLeDiff, Nat.reduceAdd, Nat.reduceSub, Nat.reduceMul, Nat.reduceGT, Int.reduceNeg, Int.reduceToNat]) | ((with_reducible refine call_at M_P M_G (small25_spec c l hf hl) ?_); simp only [go_sem, ↓reduceIte, reduceCtorEq, Nat.reduceEqDiff, Nat.reduceLT, Nat.reduceLeDiff, Nat.reduceAdd, Nat.reduceSub, Nat.reduceMul, Nat.reduceGT, Int.reduceNeg, Int.reduceToNat]) | (with_reducible refine And.intro ?_ ?_) | ((with_reducible refine ite_cases ?_ ?_) <;> intro _))
  · trivial
  have hl12 : l.length ≤ 12 := fewL_len (n := 12) (by simp_all)
  have hI := inForce_fits c l day known
  refine call_at M_P M_G (inForce_spec c l day known hf hl12) ?_
  simp only [go_sem, ↓reduceIte, reduceCtorEq, Nat.reduceEqDiff, Nat.reduceLT, Nat.reduceLeDiff, Nat.reduceAdd, Nat.reduceSub, Nat.reduceMul, Nat.reduceGT, Int.reduceNeg, Int.reduceToNat]
  refine call_at M_P M_G (valid2_spec c hf) ?_
  simp only [go_sem, ↓reduceIte, reduceCtorEq, Nat.reduceEqDiff, Nat.reduceLT, Nat.reduceLeDiff, Nat.reduceAdd, Nat.reduceSub, Nat.reduceMul, Nat.reduceGT, Int.reduceNeg, Int.reduceToNat]
  refine ite_cases (fun he => ?_) (fun he => ?_)
  · have h := Es.inForce_err c l day known
    rw [Es.checkA_small (by omega)] at h
    by_cases hv : (Es.valid2 c).1 = 0
    · exfalso
      rw [hv] at h
      rw [h] at he
      simp at he
    · rw [if_pos (by simpa using hv), h, if_pos (by simpa using hv)]
      rfl
  have hck : Es.checkA c l = 0 := by rw [← Es.inForce_err c l day known]; simpa using he
  have hlaw := Es.law_leaves (day := day) (known := known) hck
  have hval := checkA_valid hck
  have hvA : (Es.valid2 (Es.inForce c l day known).1).1 = 0 := by
    rw [Es.inForce_ok hck]
    exact Es.lastC_ok hval
  refine call_at M_P M_G (order_spec' l hl12) ?_
  simp only [go_sem, ↓reduceIte, reduceCtorEq, Nat.reduceEqDiff, Nat.reduceLT, Nat.reduceLeDiff, Nat.reduceAdd, Nat.reduceSub, Nat.reduceMul, Nat.reduceGT, Int.reduceNeg, Int.reduceToNat]
  have hol := Es.orderA_len l
  refine awp_count0 (Es.orderA l).length (fun e0 s0 k e st => (e 1 = e0 1 ∧ e 2 = e0 2 ∧ e 3 = e0 3 ∧ e 9 = e0 9 ∧ e 10 = e0 10 ∧ e 11 = e0 11 ∧ e 12 = e0 12 ∧ e 13 = e0 13 ∧ e 15 = e0 15 ∧ e 17 = e0 17) ∧ e 18 = .v (.int .i64 k) ∧ 3 ≤ st.nx ∧ st.o 1 0 = some (.blk 7 1 27 (rowOf (conCells (Es.inForce c l day known).1))) ∧
    st.o 2 0 = some (.blk 7 1 27 (rowOf (conCells (sK c l day known k).1))) ∧ Es.Fits (sK c l day known k).1 ∧ (sK c l day known k).2.length ≤ k ∧ OutL intC 1 3 3 st (e 16) (sK c l day known k).2) ⟨⟨rfl, rfl, rfl, rfl, rfl, rfl, rfl, rfl, rfl, rfl⟩, ?_, Nat.le_refl _, ?_, ?_, hf, Nat.le_refl _, .inl ⟨rfl, rfl⟩⟩ ?_
  · simp only [go_sem, ↓reduceIte, reduceCtorEq, Nat.reduceEqDiff, Nat.reduceLT, Nat.reduceLeDiff, Nat.reduceAdd, Nat.reduceSub, Nat.reduceMul, Nat.reduceGT, Int.reduceNeg, Int.reduceToNat]; rfl
  · simp only [go_sem, ↓reduceIte, reduceCtorEq, Nat.reduceEqDiff, Nat.reduceLT, Nat.reduceLeDiff, Nat.reduceAdd, Nat.reduceSub, Nat.reduceMul, Nat.reduceGT, Int.reduceNeg, Int.reduceToNat, conCells_eq]
  · simp only [go_sem, ↓reduceIte, reduceCtorEq, Nat.reduceEqDiff, Nat.reduceLT, Nat.reduceLeDiff, Nat.reduceAdd, Nat.reduceSub, Nat.reduceMul, Nat.reduceGT, Int.reduceNeg, Int.reduceToNat, conCells_eq, sK, List.take_zero, List.foldl_nil]
  rintro k e ⟨o2, n2⟩ hk ⟨⟨a1, a2, a3, a9, a10, a11, a12, a13, a15, a17⟩, a18, hn, i1, i2, hfk, hlk, hO⟩
  simp only [go_sem, ↓reduceIte, reduceCtorEq, Nat.reduceEqDiff, Nat.reduceLT, Nat.reduceLeDiff, Nat.reduceAdd, Nat.reduceSub, Nat.reduceMul, Nat.reduceGT, Int.reduceNeg, Int.reduceToNat] at a1 a2 a3 a9 a10 a11 a12 a13 a15 a17
  simp only at hn i1 i2
  simp only [conCells_eq] at i1 i2
  have e0 : ∀ {a b : Nat}, a ≠ b → (a = b) = False := fun h => by simp [h]
  have w1 : (1 = 2) = False := e0 (by omega); have w2 : (1 = n2) = False := e0 (by omega); have w3 : (1 = n2 + 1) = False := e0 (by omega); have w4 : (1 = n2 + 1 + 1) = False := e0 (by omega); have w5 : (1 = n2 + 1 + 1 + 1) = False := e0 (by omega); have w6 : (2 = 1) = False := e0 (by omega); have w7 : (2 = n2) = False := e0 (by omega); have w8 : (2 = n2 + 1) = False := e0 (by omega); have w9 : (2 = n2 + 1 + 1) = False := e0 (by omega); have w10 : (2 = n2 + 1 + 1 + 1) = False := e0 (by omega); have w11 : (n2 = 1) = False := e0 (by omega); have w12 : (n2 = 2) = False := e0 (by omega); have w13 : (n2 = n2 + 1) = False := e0 (by omega); have w14 : (n2 = n2 + 1 + 1) = False := e0 (by omega); have w15 : (n2 = n2 + 1 + 1 + 1) = False := e0 (by omega); have w16 : (n2 + 1 = 1) = False := e0 (by omega); have w17 : (n2 + 1 = 2) = False := e0 (by omega); have w18 : (n2 + 1 = n2) = False := e0 (by omega); have w19 : (n2 + 1 = n2 + 1 + 1) = False := e0 (by omega); have w20 : (n2 + 1 = n2 + 1 + 1 + 1) = False := e0 (by omega); have w21 : (n2 + 1 + 1 = 1) = False := e0 (by omega); have w22 : (n2 + 1 + 1 = 2) = False := e0 (by omega); have w23 : (n2 + 1 + 1 = n2) = False := e0 (by omega); have w24 : (n2 + 1 + 1 = n2 + 1) = False := e0 (by omega); have w25 : (n2 + 1 + 1 = n2 + 1 + 1 + 1) = False := e0 (by omega); have w26 : (n2 + 1 + 1 + 1 = 1) = False := e0 (by omega); have w27 : (n2 + 1 + 1 + 1 = 2) = False := e0 (by omega); have w28 : (n2 + 1 + 1 + 1 = n2) = False := e0 (by omega); have w29 : (n2 + 1 + 1 + 1 = n2 + 1) = False := e0 (by omega); have w30 : (n2 + 1 + 1 + 1 = n2 + 1 + 1) = False := e0 (by omega)
  have hw : IntKind.i64.wrap ((k : Int) + 1) = (k : Int) + 1 := wrap_i64 _ (by omega) (by omega)
  simp only [go_sem, ↓reduceIte, reduceCtorEq, Nat.reduceEqDiff, Nat.reduceLT, Nat.reduceLeDiff, Nat.reduceAdd, Nat.reduceSub, Nat.reduceMul, Nat.reduceGT, Int.reduceNeg, Int.reduceToNat, a1, a2, a3, a9, a10, a11, a12, a13, a15, a17, a18, i1, i2, hw, w1, w2, w3, w4, w5, w6, w7, w8, w9, w10, w11, w12, w13, w14, w15, w16, w17, w18, w19, w20, w21, w22, w23, w24, w25, w26, w27, w28, w29, w30]
  refine ite_cases (fun hlt => ?_) (fun hlt => ?_)
  · have hlt' : k < (Es.orderA l).length := Es.len_lt.1 hlt
    have hr := Es.orderA_range (Es.at_mem hlt')
    have hnx := sK_next c l day known hlt'
    refine ⟨⟨by omega, hlt⟩, ?_⟩
    rw [if_pos (by simp; omega)]
    refine ⟨⟨by omega, hlt⟩, ?_⟩
    rw [if_neg (by omega)]
    refine ⟨⟨by omega, hlt⟩, ⟨hr.1, hr.2⟩, ?_⟩
    generalize hm : Es.at_ l (Es.at_ (Es.orderA l) (k : Int)) = m at hnx ⊢
    refine ite_cases (fun hkn => ?_) (fun hkn => ?_)
    · refine ite_cases (fun hdy => ?_) (fun hdy => ?_)
      · have hst : Es.stepLO day known (sK c l day known k) m = sK c l day known k := by unfold Es.stepLO; rw [if_pos (by simp_all)]
        refine ⟨hlt', ?_⟩
        simp only [go_sem, ↓reduceIte, reduceCtorEq, Nat.reduceEqDiff, Nat.reduceLT, Nat.reduceLeDiff, Nat.reduceAdd, Nat.reduceSub, Nat.reduceMul, Nat.reduceGT, Int.reduceNeg, Int.reduceToNat, a1, a2, a3, a9, a10, a11, a12, a13, a15, a17, a18, i1, i2, hw, w1, w2, w3, w4, w5, w6, w7, w8, w9, w10, w11, w12, w13, w14, w15, w16, w17, w18, w19, w20, w21, w22, w23, w24, w25, w26, w27, w28, w29, w30]
        rw [hnx, hst]
        refine ⟨by simp, by omega, rfl, hfk, by omega, hO.keep (by simp only; omega) fun g h1 h2 => ?_⟩
        simp only at h2
        simp only [St.set]; rw [if_neg (by omega)]
      · refine call_at M_P M_G (apply_spec (sK c l day known k).1 m.patch hfk) ?_
        simp only [go_sem, ↓reduceIte, reduceCtorEq, Nat.reduceEqDiff, Nat.reduceLT, Nat.reduceLeDiff, Nat.reduceAdd, Nat.reduceSub, Nat.reduceMul, Nat.reduceGT, Int.reduceNeg, Int.reduceToNat, a1, a2, a3, a9, a10, a11, a12, a13, a15, a17, a18, i1, i2, hw, w1, w2, w3, w4, w5, w6, w7, w8, w9, w10, w11, w12, w13, w14, w15, w16, w17, w18, w19, w20, w21, w22, w23, w24, w25, w26, w27, w28, w29, w30]
        refine ite_cases (fun hok => ?_) (fun hok => ?_)
        · have hok' : (Es.applyP (sK c l day known k).1 m.patch).2 = 0 := by simpa using hok
          have hst : Es.stepLO day known (sK c l day known k) m = ((Es.applyP (sK c l day known k).1 m.patch).1, (sK c l day known k).2 ++ [m.number]) := by unfold Es.stepLO; rw [if_neg (by simp_all), if_pos hok]
          have hfa : Es.Fits (Es.applyP (sK c l day known k).1 m.patch).1 := by
            rw [(Es.applyP_ok hok').1]; exact fits_valid (Es.applyP_ok hok').2.1
          generalize hd : e 16 = dd at hO
          rcases hO with ⟨hnil, rfl⟩ | ⟨g, cl, rfl, hg1, hg2, hg3, hg4⟩
          · simp only [go_sem, ↓reduceIte, reduceCtorEq, Nat.reduceEqDiff, Nat.reduceLT, Nat.reduceLeDiff, Nat.reduceAdd, Nat.reduceSub, Nat.reduceMul, Nat.reduceGT, Int.reduceNeg, Int.reduceToNat, hd, a1, a2, a3, a9, a10, a11, a12, a13, a15, a17, a18, i1, i2, hw, w1, w2, w3, w4, w5, w6, w7, w8, w9, w10, w11, w12, w13, w14, w15, w16, w17, w18, w19, w20, w21, w22, w23, w24, w25, w26, w27, w28, w29, w30]
            refine ⟨hlt', ?_⟩
            simp only [go_sem, ↓reduceIte, reduceCtorEq, Nat.reduceEqDiff, Nat.reduceLT, Nat.reduceLeDiff, Nat.reduceAdd, Nat.reduceSub, Nat.reduceMul, Nat.reduceGT, Int.reduceNeg, Int.reduceToNat, hd, a1, a2, a3, a9, a10, a11, a12, a13, a15, a17, a18, i1, i2, hw, w1, w2, w3, w4, w5, w6, w7, w8, w9, w10, w11, w12, w13, w14, w15, w16, w17, w18, w19, w20, w21, w22, w23, w24, w25, w26, w27, w28, w29, w30]
            rw [hnx, hst]
            refine ⟨by simp, rfl, hfa, by simp; omega, ?_⟩
            show OutL _ _ _ _ _ _ ((sK c l day known k).2 ++ [m.number])
            rw [hnil]
            exact OutL.one' (by omega) (one_row rfl)
          · simp only at hg2 hg3
            have v1 : (g = 1) = False := e0 (by omega); have v2 : (g = 2) = False := e0 (by omega); have v3 : (g = n2) = False := e0 (by omega); have v4 : (g = n2 + 1) = False := e0 (by omega); have v5 : (g = n2 + 1 + 1) = False := e0 (by omega); have v6 : (g = n2 + 1 + 1 + 1) = False := e0 (by omega); have v7 : (1 = g) = False := e0 (by omega); have v8 : (1 = 2) = False := e0 (by omega); have v9 : (1 = n2) = False := e0 (by omega); have v10 : (1 = n2 + 1) = False := e0 (by omega); have v11 : (1 = n2 + 1 + 1) = False := e0 (by omega); have v12 : (1 = n2 + 1 + 1 + 1) = False := e0 (by omega); have v13 : (2 = g) = False := e0 (by omega); have v14 : (2 = 1) = False := e0 (by omega); have v15 : (2 = n2) = False := e0 (by omega); have v16 : (2 = n2 + 1) = False := e0 (by omega); have v17 : (2 = n2 + 1 + 1) = False := e0 (by omega); have v18 : (2 = n2 + 1 + 1 + 1) = False := e0 (by omega); have v19 : (n2 = g) = False := e0 (by omega); have v20 : (n2 = 1) = False := e0 (by omega); have v21 : (n2 = 2) = False := e0 (by omega); have v22 : (n2 = n2 + 1) = False := e0 (by omega); have v23 : (n2 = n2 + 1 + 1) = False := e0 (by omega); have v24 : (n2 = n2 + 1 + 1 + 1) = False := e0 (by omega); have v25 : (n2 + 1 = g) = False := e0 (by omega); have v26 : (n2 + 1 = 1) = False := e0 (by omega); have v27 : (n2 + 1 = 2) = False := e0 (by omega); have v28 : (n2 + 1 = n2) = False := e0 (by omega); have v29 : (n2 + 1 = n2 + 1 + 1) = False := e0 (by omega); have v30 : (n2 + 1 = n2 + 1 + 1 + 1) = False := e0 (by omega); have v31 : (n2 + 1 + 1 = g) = False := e0 (by omega); have v32 : (n2 + 1 + 1 = 1) = False := e0 (by omega); have v33 : (n2 + 1 + 1 = 2) = False := e0 (by omega); have v34 : (n2 + 1 + 1 = n2) = False := e0 (by omega); have v35 : (n2 + 1 + 1 = n2 + 1) = False := e0 (by omega); have v36 : (n2 + 1 + 1 = n2 + 1 + 1 + 1) = False := e0 (by omega); have v37 : (n2 + 1 + 1 + 1 = g) = False := e0 (by omega); have v38 : (n2 + 1 + 1 + 1 = 1) = False := e0 (by omega); have v39 : (n2 + 1 + 1 + 1 = 2) = False := e0 (by omega); have v40 : (n2 + 1 + 1 + 1 = n2) = False := e0 (by omega); have v41 : (n2 + 1 + 1 + 1 = n2 + 1) = False := e0 (by omega); have v42 : (n2 + 1 + 1 + 1 = n2 + 1 + 1) = False := e0 (by omega)
            simp only [go_sem, ↓reduceIte, reduceCtorEq, Nat.reduceEqDiff, Nat.reduceLT, Nat.reduceLeDiff, Nat.reduceAdd, Nat.reduceSub, Nat.reduceMul, Nat.reduceGT, Int.reduceNeg, Int.reduceToNat, hd, a1, a2, a3, a9, a10, a11, a12, a13, a15, a17, a18, i1, i2, hw, hg3, v1, v2, v3, v4, v5, v6, v7, v8, v9, v10, v11, v12, v13, v14, v15, v16, v17, v18, v19, v20, v21, v22, v23, v24, v25, v26, v27, v28, v29, v30, v31, v32, v33, v34, v35, v36, v37, v38, v39, v40, v41, v42]
            refine ⟨⟨by omega, by omega⟩, hlt', ?_⟩
            simp only [go_sem, ↓reduceIte, reduceCtorEq, Nat.reduceEqDiff, Nat.reduceLT, Nat.reduceLeDiff, Nat.reduceAdd, Nat.reduceSub, Nat.reduceMul, Nat.reduceGT, Int.reduceNeg, Int.reduceToNat, hd, a1, a2, a3, a9, a10, a11, a12, a13, a15, a17, a18, i1, i2, hw, hg3, v1, v2, v3, v4, v5, v6, v7, v8, v9, v10, v11, v12, v13, v14, v15, v16, v17, v18, v19, v20, v21, v22, v23, v24, v25, v26, v27, v28, v29, v30, v31, v32, v33, v34, v35, v36, v37, v38, v39, v40, v41, v42]
            rw [hnx, hst]
            refine ⟨by simp, rfl, hfa, by simp; omega, ?_⟩
            exact OutL.more' (by omega) hg4 (one_row rfl)
        · have hst : Es.stepLO day known (sK c l day known k) m = sK c l day known k := by unfold Es.stepLO; rw [if_neg (by simp_all), if_neg hok]
          refine ⟨hlt', ?_⟩
          simp only [go_sem, ↓reduceIte, reduceCtorEq, Nat.reduceEqDiff, Nat.reduceLT, Nat.reduceLeDiff, Nat.reduceAdd, Nat.reduceSub, Nat.reduceMul, Nat.reduceGT, Int.reduceNeg, Int.reduceToNat, a1, a2, a3, a9, a10, a11, a12, a13, a15, a17, a18, i1, i2, hw, w1, w2, w3, w4, w5, w6, w7, w8, w9, w10, w11, w12, w13, w14, w15, w16, w17, w18, w19, w20, w21, w22, w23, w24, w25, w26, w27, w28, w29, w30]
          rw [hnx, hst]
          refine ⟨by simp, by omega, rfl, hfk, by omega, hO.keep (by simp only; omega) fun g h1 h2 => ?_⟩
          simp only at h2
          simp only [St.set]; (repeat rw [if_neg (by omega)])
    · have hst : Es.stepLO day known (sK c l day known k) m = sK c l day known k := by unfold Es.stepLO; rw [if_pos (by simp_all)]
      refine ⟨hlt', ?_⟩
      simp only [go_sem, ↓reduceIte, reduceCtorEq, Nat.reduceEqDiff, Nat.reduceLT, Nat.reduceLeDiff, Nat.reduceAdd, Nat.reduceSub, Nat.reduceMul, Nat.reduceGT, Int.reduceNeg, Int.reduceToNat, a1, a2, a3, a9, a10, a11, a12, a13, a15, a17, a18, i1, i2, hw, w1, w2, w3, w4, w5, w6, w7, w8, w9, w10, w11, w12, w13, w14, w15, w16, w17, w18, w19, w20, w21, w22, w23, w24, w25, w26, w27, w28, w29, w30]
      rw [hnx, hst]
      refine ⟨by simp, by omega, rfl, hfk, by omega, hO.keep (by simp only; omega) fun g h1 h2 => ?_⟩
      simp only at h2
      simp only [St.set]; rw [if_neg (by omega)]
  · obtain rfl : k = (Es.orderA l).length := by simp only [Es.len] at hlt; omega
    have hS : sK c l day known (Es.orderA l).length = ((Es.inForce c l day known).1, (Es.inForce c l day known).2.1) := by
      unfold sK; rw [List.take_length]; exact hlaw
    rw [hS] at i2 hO
    refine call_at M_P M_G (valid2_spec (Es.inForce c l day known).1 hI.1) ?_
    simp only [go_sem, ↓reduceIte, reduceCtorEq, Nat.reduceEqDiff, Nat.reduceLT, Nat.reduceLeDiff, Nat.reduceAdd, Nat.reduceSub, Nat.reduceMul, Nat.reduceGT, Int.reduceNeg, Int.reduceToNat, a1, a2, a3, a9, a10, a11, a12, a13, a15, a17, a18, i1, i2, hw, w1, w2, w3, w4, w5, w6, w7, w8, w9, w10, w11, w12, w13, w14, w15, w16, w17, w18, w19, w20, w21, w22, w23, w24, w25, w26, w27, w28, w29, w30]
    rw [hval, hvA]
    have hsame : Es.sameC (Es.inForce c l day known).1 (Es.inForce c l day known).1 = true := Es.sameC_refl _
    refine call_at M_P M_G (same13_spec (Es.inForce c l day known).1 (Es.inForce c l day known).1 hI.1 hI.2.1) ?_
    simp only [go_sem, ↓reduceIte, reduceCtorEq, Nat.reduceEqDiff, Nat.reduceLT, Nat.reduceLeDiff, Nat.reduceAdd, Nat.reduceSub, Nat.reduceMul, Nat.reduceGT, Int.reduceNeg, Int.reduceToNat, a1, a2, a3, a9, a10, a11, a12, a13, a15, a17, a18, i1, i2, hw, hsame, w1, w2, w3, w4, w5, w6, w7, w8, w9, w10, w11, w12, w13, w14, w15, w16, w17, w18, w19, w20, w21, w22, w23, w24, w25, w26, w27, w28, w29, w30]
    refine ints_outL hO (by have := hI.2.2; omega) ?_
    simp only [go_sem, ↓reduceIte, reduceCtorEq, Nat.reduceEqDiff, Nat.reduceLT, Nat.reduceLeDiff, Nat.reduceAdd, Nat.reduceSub, Nat.reduceMul, Nat.reduceGT, Int.reduceNeg, Int.reduceToNat, a1, a2, a3, a9, a10, a11, a12, a13, a15, a17, a18, i1, i2, hw, hsame, w1, w2, w3, w4, w5, w6, w7, w8, w9, w10, w11, w12, w13, w14, w15, w16, w17, w18, w19, w20, w21, w22, w23, w24, w25, w26, w27, w28, w29, w30]
    simp
end Tryd
end Go.Proofs
end
section
/-
  For every input VersionLeavesOut returns true, and the arguments read as they did. No condition.
-/
namespace Go.Proofs.YtmdnombjckcfoaaDoor
open Go Go.Abs Go.ChangeShapes Go.WideShapes Go.ChangeAt Go.RowKit
set_option linter.unusedVariables false
namespace lawVersionLeavesOut
set_option maxRecDepth 100000 in
theorem lifted (os : Os) (started : os.Started) (H : Type) (enc : TypeId × Value → H) :
    ReturnsInHanded {} Tryd.checked os 12 .any (fun w args => (Rows.versionLeavesOutSpec.pre enc Tryd.prog Tryd.f12 [] false w args ∧ laidMetH Tryd.prog Tryd.laidL w) ∧ sizedMet enc Tryd.prog Tryd.f12 (OpenSpec.ofChange Rows.versionLeavesOutSpec) false w args)
      (Rows.versionLeavesOutSpec.post enc Tryd.prog Tryd.f12 false true false false) := by
  refine returnsInHanded_of_change_and (C := Tryd.checked) (X := fun w _ => laidMetH Tryd.prog Tryd.laidL w) (fun _ _ _ hh h => h.of_heap hh) Tryd.own started (by kernel_rfl) Tryd.func12
    (ChangeSpec.witness_shaped (enc := enc) (C := Tryd.checked) (os := os) (X := fun w _ => laidMetH Tryd.prog Tryd.laidL w) false (World.doorLaid Tryd.prog 400 os) #[.agg #[.int .i64 0, .slice none 0 0, .slice none 0 0, .slice none 0 0, .slice none 0 0, .int .i64 0, .slice none 0 0], .slice none 0 0, .int .i64 0, .int .i64 0] 8 rfl (World.shaped_of_RefB (by kernel_rfl) (by kernel_rfl)) (by kernel_rfl) (by kernel_rfl) (by kernel_rfl) (Tryd.door_met os _)) ?_
  intro W base args ds gs before hval0 hW _ _ hL _
  have hval : ∀ (j : Nat) t v, Tryd.f12.params[j]? = some t → args[j]? = some v → Value.okWide Tryd.prog W .any base t v := hval0
  have hW' := hW
  obtain ⟨p, q, hA0, hV, rfl, hfz, hnd⟩ := hW
  have hA : DataW.TrodAll enc Tryd.prog W 0 (fun _ => true) true Tryd.f12.params.toList args.toList ds p := hA0
  rw [Tryd.params12] at hA hval
  have hstay := hA
  obtain ⟨rfl, rfl⟩ := trodVars_none hV
  simp only [List.append_nil] at hW'
  obtain ⟨v0, vs0, d0, ds0, p0, q0, e0, rfl, rfl, h0, t0⟩ := trodAll_cons hA
  obtain ⟨v1, vs1, d1, ds1, p1, q1, e1, rfl, rfl, h1, t1⟩ := trodAll_cons t0
  obtain ⟨v2, vs2, d2, ds2, p2, q2, e2, rfl, rfl, h2, t2⟩ := trodAll_cons t1
  obtain ⟨v3, vs3, d3, ds3, p3, q3, e3, rfl, rfl, h3, t3⟩ := trodAll_cons t2
  obtain ⟨z1, rfl, rfl⟩ := trodAll_nil t3
  subst z1
  subst e3
  subst e2
  subst e1
  obtain rfl : args = #[v0, v1, v2, v3] := by apply Array.ext'; simpa using e0
  obtain ⟨x0, g0, r0⟩ := Tryd.arg_contract (hval 0 27 v0 rfl rfl) h0
  obtain ⟨x1, g1, r1⟩ := Tryd.arg_amends (hval 1 56 v1 rfl rfl) h1
  obtain ⟨x2, g2, r2⟩ := Tryd.arg_int (hval 2 3 v2 rfl rfl) h2
  obtain ⟨x3, g3, r3⟩ := Tryd.arg_int (hval 3 3 v3 rfl rfl) h3
  refine (calls_of_apure (vals := [v0, v1, v2, v3]) (Tryd.vleaves_spec x0 x1 x2 x3 g0 g1) rfl (fun i d hi => ?_) (Tryd.glob_ok hL)).mono ?_
  · rcases i with _ | _ | _ | _ | i <;> first | (simp at hi; subst hi; assumption) | (simp at hi)
  · rintro e W' ⟨c', v, rfl, rfl, hb, hr⟩
    cases hr
    have hlt := hW'.lt
    refine ⟨_, rfl, ⟨_, _, _, [], _, [], hW', trodAll_mk1 (shut_bool Tryd.underlying4 _), args_stay Tryd.rowLaidOut hb ?_ hA0 ?_ ?_, rfl, hb.frame _, fun h => by cases h⟩⟩
    · rw [Tryd.params12]; intro t ht
      have hall : ([27, 56, 3, 3].all fun t => Tryd.prog.readableRec t && decide (t < Tryd.prog.types.size)) = true := by kernel_rfl
      have := List.all_eq_true.1 hall t (by simpa using ht)
      simpa using this
    · intro x hx; exact by simpa using hlt x (by simpa using hx)
    · intro x hx; simpa using hlt x (by simpa using hx)
theorem row_holds : Rows.VersionLeavesOutSaid :=
  OpenClaim.holds_of_wide 12 Tryd.f12 rfl rfl rfl rfl rfl rfl rfl ⟨rfl, rfl, rfl, rfl, rfl⟩ rfl rfl rfl rfl rfl (by kernel_rfl) Tryd.func12 (by kernel_rfl)
    (of_decide_eq_true (by kernel_rfl)) (by unfold Func.isWrapper; first | (rw [if_pos (by decide +kernel)]; kernel_rfl) | (rw [if_neg (by decide +kernel)]; exact ⟨rfl, rfl⟩))
    (fun os started H enc _ => lifted os started H enc)
theorem card_holds : Rows.VersionLeavesOutCardSaid :=
  Claim7.holds_tied_plain_at .later [] [.data, .data] true Rows.versionLeavesOutCard.stood.harness false
    row_holds (fun _ h => by cases h) (by kernel_rfl) (fun _ h => by cases h) versionLeavesOut_row_tie rfl ⟨rfl, rfl⟩ (by kernel_rfl) rfl
    (fun f fn hf hfn => by
      obtain rfl : f = 12 := Option.some.inj ((show Tryd.prog.funcNamed Rows.versionLeavesOutRow.func = some 12 by kernel_rfl).symm.trans hf) |>.symm
      obtain rfl : fn = Tryd.f12 := (Option.some.inj (Tryd.func12.symm.trans hfn)).symm
      exact ⟨by kernel_rfl, fun j t ht => by
        rw [Tryd.params12] at ht
        have hm : t ∈ [27, 56, 3, 3] := by simpa using Array.mem_of_getElem? ht
        have hall : ([27, 56, 3, 3].all fun u => !Tryd.prog.wantsStandIn u) = true := by kernel_rfl
        exact (show Tryd.prog.wantsStandIn t = false by simpa using List.all_eq_true.1 hall t hm)⟩)
    (by kernel_rfl)
end lawVersionLeavesOut
#print axioms lawVersionLeavesOut.card_holds
end Go.Proofs.YtmdnombjckcfoaaDoor
end
