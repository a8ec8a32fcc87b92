/-
  For every input ProjectBeginnings returns true, and the arguments read as they did. No condition.
-/
import Derived.Test.YtmdnombjckcfoaaDoorBi
set_option linter.unusedSimpArgs false
set_option linter.unusedVariables false
section
namespace Go.Proofs
open Go Go.Abs
set_option linter.unusedSimpArgs false
set_option linter.unusedVariables false
set_option maxRecDepth 10000
@[go_sem] theorem aslice_slD {α : Type} [Inhabited α] (k' k : Nat) (f : α → Nat → D) (l : List α) (lo hi : Option D) (s : S) (K : D → S → Prop) : ASliceL (some k') (slD k f l) lo hi s K =
    ((k = k' ∧ 0 ≤ bnd lo 0 ∧ bnd lo 0 ≤ bnd hi l.length ∧ bnd hi l.length ≤ l.length) ∧ K (.sl k ((bnd hi l.length).toNat - (bnd lo 0).toNat) (shift (bnd lo 0).toNat (rowsOf f l))) s) := nr rfl
namespace Tryd
theorem wk_sl {k n m : Nat} {row row' : Nat → Nat → D} (hn : n = m) (h : ∀ i j, i < n → j < k → row i j = row' i j) (c : Cfg) (v : Value) (hr : c.Rep (.sl k n row) v) : c.Rep (.sl k m row') v := by
  subst hn
  cases hr with
  | sl _ _ _ b off cap g hb hc hg ho hr => exact .sl k n row' b off cap g hb hc hg ho (fun i j hi hj => by rw [← h i j hi hj]; exact hr i j hi hj)
  | slnil => exact .slnil k row'
  | sl0 _ _ a cap => exact .sl0 k row' a cap
/-- The first elements of a list, as a part of the slice. -/
theorem wk_take (l : List Int) (n m : Nat) (hn : n = m) (hm : m ≤ l.length) (c : Cfg) (v : Value) (hr : c.Rep (.sl 1 n (shift 0 (rowsOf intC l))) v) : c.Rep (slD 1 intC (l.take m)) v := by
  refine wk_sl (by rw [hn, List.length_take]; omega) (fun i j hi hj => ?_) c v hr
  simp only [shift, rowsOf, Nat.zero_add]
  congr 1
  simp [List.getD, List.getElem?_take, hn ▸ hi]
theorem wk_drop (l : List Int) (n m : Nat) (hn : n = l.length - m) (c : Cfg) (v : Value) (hr : c.Rep (.sl 1 n (shift m (rowsOf intC l))) v) : c.Rep (slD 1 intC (l.drop m)) v := by
  refine wk_sl (by rw [hn, List.length_drop]) (fun i j hi hj => ?_) c v hr
  simp only [shift, rowsOf]
  congr 1
  simp [List.getD, List.getElem?_drop]
theorem pbegin_spec (c : Es.Contract) (l : List Int) (p k : Int) (hf : Es.Fits c) (hl : l.length ≤ maxLen) (hk : 0 ≤ k ∧ k ≤ 255) : APure M 4 [conD c, slD 1 intC l, .v (.int .i64 p), .v (.int .u8 k)] (.v (.bool true)) := by
  refine pure_of gpu func4 rfl results4 ntmps4 (by simp) ⟨pu_conD _, pu_slD pu_intC _, .v _, .v _, trivial⟩ ?_
  intro b
  simp only [go_sem, ↓reduceIte, decide_eq_true_eq, reduceCtorEq, Nat.reduceEqDiff, Nat.reduceLT, Nat.reduceLeDiff, Nat.reduceAdd, Nat.reduceSub, Nat.reduceMul, Nat.reduceGT, Int.reduceNeg, Int.reduceToNat, and_true, true_and, and_false, false_and, List.getElem?_toArray, List.getElem?_cons_zero, List.getElem?_cons_succ, List.cons_append, List.nil_append, if_true, if_false, Option.getD_some, Option.isSome_some, Bool.false_eq_true, List.append_nil, List.drop_zero, List.drop_succ_cons, Bool.cond_false_right, Bool.cond_false_left, Bool.cond_true_left, Bool.cond_true_right, ite_self, Bool.not_true, Bool.not_false, cond_true, cond_false, List.size_toArray, implies_true, true_implies, false_implies, List.all_cons, List.all_nil, List.nodup_cons, List.nodup_nil, List.mem_cons, List.not_mem_nil, or_false, false_or, not_false_eq_true, decide_true, Bool.and_true, Bool.and_self]
  repeat' (first | ((with_reducible refine call_at M_P M_G (headP_spec) ?_); simp only [go_sem, ↓reduceIte, decide_eq_true_eq, reduceCtorEq, Nat.reduceEqDiff, Nat.reduceLT, Nat.reduceLeDiff, Nat.reduceAdd, Nat.reduceSub, Nat.reduceMul, Nat.reduceGT, Int.reduceNeg, Int.reduceToNat, and_true, true_and, and_false, false_and, List.getElem?_toArray, List.getElem?_cons_zero, List.getElem?_cons_succ, List.cons_append, List.nil_append, if_true, if_false, Option.getD_some, Option.isSome_some, Bool.false_eq_true, List.append_nil, List.drop_zero, List.drop_succ_cons, Bool.cond_false_right, Bool.cond_false_left, Bool.cond_true_left, Bool.cond_true_right, ite_self, Bool.not_true, Bool.not_false, cond_true, cond_false, List.size_toArray, implies_true, true_implies, false_implies, List.all_cons, List.all_nil, List.nodup_cons, List.nodup_nil, List.mem_cons, List.not_mem_nil, or_false, false_or, not_false_eq_true, decide_true, Bool.and_true, Bool.and_self]) | ((with_reducible refine call_at M_P M_G (small_spec c 40 hf) ?_); simp only [go_sem, ↓reduceIte, decide_eq_true_eq, reduceCtorEq, Nat.reduceEqDiff, Nat.reduceLT, Nat.reduceLeDiff, Nat.reduceAdd, Nat.reduceSub, Nat.reduceMul, Nat.reduceGT, Int.reduceNeg, Int.reduceToNat, and_true, true_and, and_false, false_and, List.getElem?_toArray, List.getElem?_cons_zero, List.getElem?_cons_succ, List.cons_append, List.nil_append, if_true, if_false, Option.getD_some, Option.isSome_some, Bool.false_eq_true, List.append_nil, List.drop_zero, List.drop_succ_cons, Bool.cond_false_right, Bool.cond_false_left, Bool.cond_true_left, Bool.cond_true_right, ite_self, Bool.not_true, Bool.not_false, cond_true, cond_false, List.size_toArray, implies_true, true_implies, false_implies, List.all_cons, List.all_nil, List.nodup_cons, List.nodup_nil, List.mem_cons, List.not_mem_nil, or_false, false_or, not_false_eq_true, decide_true, Bool.and_true, Bool.and_self]) | (with_reducible refine And.intro ?_ ?_) | ((with_reducible refine ite_cases ?_ ?_) <;> intro _))
  all_goals first
    | trivial
    | skip
  have hl60 : l.length ≤ 60 := by
    have h : ¬ 60 < Es.len l := ‹_›
    simp only [Es.len] at h; omega
  refine call_at M_P M_G (view_spec c l p hf (by omega)) ?_
  simp only [go_sem, ↓reduceIte, decide_eq_true_eq, reduceCtorEq, Nat.reduceEqDiff, Nat.reduceLT, Nat.reduceLeDiff, Nat.reduceAdd, Nat.reduceSub, Nat.reduceMul, Nat.reduceGT, Int.reduceNeg, Int.reduceToNat, and_true, true_and, and_false, false_and, List.getElem?_toArray, List.getElem?_cons_zero, List.getElem?_cons_succ, List.cons_append, List.nil_append, if_true, if_false, Option.getD_some, Option.isSome_some, Bool.false_eq_true, List.append_nil, List.drop_zero, List.drop_succ_cons, Bool.cond_false_right, Bool.cond_false_left, Bool.cond_true_left, Bool.cond_true_right, ite_self, Bool.not_true, Bool.not_false, cond_true, cond_false, List.size_toArray, implies_true, true_implies, false_implies, List.all_cons, List.all_nil, List.nodup_cons, List.nodup_nil, List.mem_cons, List.not_mem_nil, or_false, false_or, not_false_eq_true, decide_true, Bool.and_true, Bool.and_self]
  refine ite_cases (fun he => ?_) (fun he => ?_)
  · trivial
  have h0 : (Es.view c l p).2 = 0 := by simpa using he
  obtain ⟨m, hm, hml⟩ : ∃ m : Nat, k.tmod (Es.len l + 1) = (m : Int) ∧ m ≤ l.length := by
    have h1 := Int.tmod_nonneg (Es.len l + 1) hk.1
    have h2 := Int.tmod_lt_of_pos k (show 0 < Es.len l + 1 by simp only [Es.len]; omega)
    exact ⟨(k.tmod (Es.len l + 1)).toNat, by omega, by simp only [Es.len] at h1 h2 ⊢; omega⟩
  obtain ⟨b1, b2, b3⟩ := Es.law_begin h0 (by omega) m
  rw [wrap_i64 (Es.len l + 1) (by simp only [Es.len]; omega) (by simp only [Es.len]; omega), wrap_i64 k (by omega) (by omega), hm]
  refine ⟨by simp only [Es.len]; omega, ?_⟩
  refine awp_plan ((.op 0 (.op 1 (.op 2 (.op 4 (.op 3 (.op 5 (.op 6 (.op 7 (.op 8 (.op 9 (.op 10 .done)))))))))))) [] mix (by kernel_rfl) ?_
  simp only [go_sem, ↓reduceIte, decide_eq_true_eq, reduceCtorEq, Nat.reduceEqDiff, Nat.reduceLT, Nat.reduceLeDiff, Nat.reduceAdd, Nat.reduceSub, Nat.reduceMul, Nat.reduceGT, Int.reduceNeg, Int.reduceToNat, and_true, true_and, and_false, false_and, List.getElem?_toArray, List.getElem?_cons_zero, List.getElem?_cons_succ, List.cons_append, List.nil_append, if_true, if_false, Option.getD_some, Option.isSome_some, Bool.false_eq_true, List.append_nil, List.drop_zero, List.drop_succ_cons, Bool.cond_false_right, Bool.cond_false_left, Bool.cond_true_left, Bool.cond_true_right, ite_self, Bool.not_true, Bool.not_false, cond_true, cond_false, List.size_toArray, implies_true, true_implies, false_implies, List.all_cons, List.all_nil, List.nodup_cons, List.nodup_nil, List.mem_cons, List.not_mem_nil, or_false, false_or, not_false_eq_true, decide_true, Bool.and_true, Bool.and_self]
  refine ⟨⟨by omega, by omega⟩, ?_⟩
  refine acall_weak (args' := [conD c, slD 1 intC (l.take m), .v (.int .i64 p)]) ⟨fun _ _ h => h, wk_take l _ m (by simp) hml, fun _ _ h => h, trivial⟩ ?_
  refine call_at M_P M_G (view_spec c (l.take m) p hf (by rw [List.length_take]; omega)) ?_
  simp only [go_sem, ↓reduceIte, decide_eq_true_eq, reduceCtorEq, Nat.reduceEqDiff, Nat.reduceLT, Nat.reduceLeDiff, Nat.reduceAdd, Nat.reduceSub, Nat.reduceMul, Nat.reduceGT, Int.reduceNeg, Int.reduceToNat, and_true, true_and, and_false, false_and, List.getElem?_toArray, List.getElem?_cons_zero, List.getElem?_cons_succ, List.cons_append, List.nil_append, if_true, if_false, Option.getD_some, Option.isSome_some, Bool.false_eq_true, List.append_nil, List.drop_zero, List.drop_succ_cons, Bool.cond_false_right, Bool.cond_false_left, Bool.cond_true_left, Bool.cond_true_right, ite_self, Bool.not_true, Bool.not_false, cond_true, cond_false, List.size_toArray, implies_true, true_implies, false_implies, List.all_cons, List.all_nil, List.nodup_cons, List.nodup_nil, List.mem_cons, List.not_mem_nil, or_false, false_or, not_false_eq_true, decide_true, Bool.and_true, Bool.and_self, b1]
  rw [if_pos (by decide)]
  refine ite_cases (fun hle => ?_) (fun hle => ?_)
  · have hle' : (Es.view c (l.take m) p).1.length ≤ (Es.view c l p).1.length := b2
    refine ⟨⟨by first | omega | (simp only [Es.len]; omega), by first | omega | (simp only [Es.len]; omega)⟩, ?_⟩
    refine acall_weak (args' := [slD 1 intC (Es.view c (l.take m) p).1, slD 1 intC ((Es.view c l p).1.take (Es.view c (l.take m) p).1.length)]) ⟨fun _ _ h => h, wk_take _ _ _ (by simp [Es.len]) hle', trivial⟩ ?_
    have hvl : (Es.view c (l.take m) p).1.length ≤ 1000000 := by
      unfold Es.view at b1 ⊢
      obtain ⟨_, _, _, _, g5, g6⟩ := Es.joint_ok b1
      rw [g6]
      have := Es.kept_len (c := c) (ps := [p]) (l := l.take m) (p := Es.start c) (by rw [← Es.runL_goes]; exact g5)
      rw [List.length_take] at this; omega
    refine call_at M_P M_G (ints_spec _ _ hvl) ?_
    simp only [go_sem, ↓reduceIte, decide_eq_true_eq, reduceCtorEq, Nat.reduceEqDiff, Nat.reduceLT, Nat.reduceLeDiff, Nat.reduceAdd, Nat.reduceSub, Nat.reduceMul, Nat.reduceGT, Int.reduceNeg, Int.reduceToNat, and_true, true_and, and_false, false_and, List.getElem?_toArray, List.getElem?_cons_zero, List.getElem?_cons_succ, List.cons_append, List.nil_append, if_true, if_false, Option.getD_some, Option.isSome_some, Bool.false_eq_true, List.append_nil, List.drop_zero, List.drop_succ_cons, Bool.cond_false_right, Bool.cond_false_left, Bool.cond_true_left, Bool.cond_true_right, ite_self, Bool.not_true, Bool.not_false, cond_true, cond_false, List.size_toArray, implies_true, true_implies, false_implies, List.all_cons, List.all_nil, List.nodup_cons, List.nodup_nil, List.mem_cons, List.not_mem_nil, or_false, false_or, not_false_eq_true, decide_true, Bool.and_true, Bool.and_self]
    rw [← b3]
    simp [Es.ints]
  · exact absurd (by simp only [Es.len]; omega) hle
end Tryd
end Go.Proofs
end
section
/-
  For every input ProjectBeginnings returns true, and the arguments read as they did. No condition.
-/
namespace Go.Proofs.YtmdnombjckcfoaaDoor
open Go Go.Abs Go.ChangeShapes Go.WideShapes Go.ChangeAt Go.RowKit
set_option linter.unusedVariables false
namespace lawProjectBeginnings
set_option maxRecDepth 100000 in
theorem lifted (os : Os) (started : os.Started) (H : Type) (enc : TypeId × Value → H) :
    ReturnsInHanded {} Tryd.checked os 4 .any (fun w args => (Rows.projectBeginningsSpec.pre enc Tryd.prog Tryd.f4 [] false w args ∧ laidMetH Tryd.prog Tryd.laidL w) ∧ sizedMet enc Tryd.prog Tryd.f4 (OpenSpec.ofChange Rows.projectBeginningsSpec) false w args)
      (Rows.projectBeginningsSpec.post enc Tryd.prog Tryd.f4 false true false false) := by
  refine returnsInHanded_of_change_and (C := Tryd.checked) (X := fun w _ => laidMetH Tryd.prog Tryd.laidL w) (fun _ _ _ hh h => h.of_heap hh) Tryd.own started (by kernel_rfl) Tryd.func4
    (ChangeSpec.witness_shaped (enc := enc) (C := Tryd.checked) (os := os) (X := fun w _ => laidMetH Tryd.prog Tryd.laidL w) false (World.doorLaid Tryd.prog 400 os) #[.agg #[.int .i64 0, .slice none 0 0, .slice none 0 0, .slice none 0 0, .slice none 0 0, .int .i64 0, .slice none 0 0], .slice none 0 0, .int .i64 0, .int .u8 0] 8 rfl (World.shaped_of_RefB (by kernel_rfl) (by kernel_rfl)) (by kernel_rfl) (by kernel_rfl) (by kernel_rfl) (Tryd.door_met os _)) ?_
  intro W base args ds gs before hval0 hW _ _ hL _
  have hval : ∀ (j : Nat) t v, Tryd.f4.params[j]? = some t → args[j]? = some v → Value.okWide Tryd.prog W .any base t v := hval0
  have hW' := hW
  obtain ⟨p, q, hA0, hV, rfl, hfz, hnd⟩ := hW
  have hA : DataW.TrodAll enc Tryd.prog W 0 (fun _ => true) true Tryd.f4.params.toList args.toList ds p := hA0
  rw [Tryd.params4] at hA hval
  have hstay := hA
  obtain ⟨rfl, rfl⟩ := trodVars_none hV
  simp only [List.append_nil] at hW'
  obtain ⟨v0, vs0, d0, ds0, p0, q0, e0, rfl, rfl, h0, t0⟩ := trodAll_cons hA
  obtain ⟨v1, vs1, d1, ds1, p1, q1, e1, rfl, rfl, h1, t1⟩ := trodAll_cons t0
  obtain ⟨v2, vs2, d2, ds2, p2, q2, e2, rfl, rfl, h2, t2⟩ := trodAll_cons t1
  obtain ⟨v3, vs3, d3, ds3, p3, q3, e3, rfl, rfl, h3, t3⟩ := trodAll_cons t2
  obtain ⟨z1, rfl, rfl⟩ := trodAll_nil t3
  subst z1
  subst e3
  subst e2
  subst e1
  obtain rfl : args = #[v0, v1, v2, v3] := by apply Array.ext'; simpa using e0
  obtain ⟨x0, g0, r0⟩ := Tryd.arg_contract (hval 0 27 v0 rfl rfl) h0
  obtain ⟨x1, g1, r1⟩ := Tryd.arg_ints (hval 1 22 v1 rfl rfl) h1
  obtain ⟨x2, g2, r2⟩ := Tryd.arg_int (hval 2 3 v2 rfl rfl) h2
  obtain ⟨x3, g3, r3⟩ := Tryd.arg_u8 (hval 3 5 v3 rfl rfl) h3
  refine (calls_of_apure (vals := [v0, v1, v2, v3]) (Tryd.pbegin_spec x0 x1 x2 x3 g0 g1 g3) rfl (fun i d hi => ?_) (Tryd.glob_ok hL)).mono ?_
  · rcases i with _ | _ | _ | _ | i <;> first | (simp at hi; subst hi; assumption) | (simp at hi)
  · rintro e W' ⟨c', v, rfl, rfl, hb, hr⟩
    cases hr
    have hlt := hW'.lt
    refine ⟨_, rfl, ⟨_, _, _, [], _, [], hW', trodAll_mk1 (shut_bool Tryd.underlying4 _), args_stay Tryd.rowLaidOut hb ?_ hA0 ?_ ?_, rfl, hb.frame _, fun h => by cases h⟩⟩
    · rw [Tryd.params4]; intro t ht
      have hall : ([27, 22, 3, 5].all fun t => Tryd.prog.readableRec t && decide (t < Tryd.prog.types.size)) = true := by kernel_rfl
      have := List.all_eq_true.1 hall t (by simpa using ht)
      simpa using this
    · intro x hx; exact by simpa using hlt x (by simpa using hx)
    · intro x hx; simpa using hlt x (by simpa using hx)
theorem row_holds : Rows.ProjectBeginningsSaid :=
  OpenClaim.holds_of_wide 4 Tryd.f4 rfl rfl rfl rfl rfl rfl rfl ⟨rfl, rfl, rfl, rfl, rfl⟩ rfl rfl rfl rfl rfl (by kernel_rfl) Tryd.func4 (by kernel_rfl)
    (of_decide_eq_true (by kernel_rfl)) (by unfold Func.isWrapper; first | (rw [if_pos (by decide +kernel)]; kernel_rfl) | (rw [if_neg (by decide +kernel)]; exact ⟨rfl, rfl⟩))
    (fun os started H enc _ => lifted os started H enc)
theorem card_holds : Rows.ProjectBeginningsCardSaid :=
  Claim7.holds_tied_plain_at .later [] [.data, .data] true Rows.projectBeginningsCard.stood.harness false
    row_holds (fun _ h => by cases h) (by kernel_rfl) (fun _ h => by cases h) projectBeginnings_row_tie rfl ⟨rfl, rfl⟩ (by kernel_rfl) rfl
    (fun f fn hf hfn => by
      obtain rfl : f = 4 := Option.some.inj ((show Tryd.prog.funcNamed Rows.projectBeginningsRow.func = some 4 by kernel_rfl).symm.trans hf) |>.symm
      obtain rfl : fn = Tryd.f4 := (Option.some.inj (Tryd.func4.symm.trans hfn)).symm
      exact ⟨by kernel_rfl, fun j t ht => by
        rw [Tryd.params4] at ht
        have hm : t ∈ [27, 22, 3, 5] := by simpa using Array.mem_of_getElem? ht
        have hall : ([27, 22, 3, 5].all fun u => !Tryd.prog.wantsStandIn u) = true := by kernel_rfl
        exact (show Tryd.prog.wantsStandIn t = false by simpa using List.all_eq_true.1 hall t hm)⟩)
    (by kernel_rfl)
end lawProjectBeginnings
#print axioms lawProjectBeginnings.card_holds
end Go.Proofs.YtmdnombjckcfoaaDoor
end
