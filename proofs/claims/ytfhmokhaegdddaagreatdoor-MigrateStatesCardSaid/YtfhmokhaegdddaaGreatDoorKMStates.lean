/-
  For every input MigrateStates returns true, and the arguments read as they did. No condition.
-/
import Derived.Test.YtfhmokhaegdddaaGreatDoorBj
set_option linter.unusedSimpArgs false
set_option linter.unusedVariables false
section
/-
  For every input MigrateStates returns true, and the arguments read as they did. No condition.
-/
namespace Go.Proofs.YtfhmokhaegdddaaGreatDoor
open Go Go.Abs Go.ChangeShapes Go.WideShapes Go.ChangeAt Go.RowKit
set_option linter.unusedVariables false
namespace lawMigrateStates
set_option maxRecDepth 100000 in
theorem lifted (os : Os) (started : os.Started) (H : Type) (enc : TypeId × Value → H) :
    ReturnsInHanded {} Tryz.checked os 6 .any (fun w args => (Rows.migrateStatesSpec.pre enc Tryz.prog Tryz.f6 [] false w args ∧ laidMetH Tryz.prog Tryz.laidL w) ∧ sizedMet enc Tryz.prog Tryz.f6 (OpenSpec.ofChange Rows.migrateStatesSpec) false w args)
      (Rows.migrateStatesSpec.post enc Tryz.prog Tryz.f6 false true false false) := by
  refine returnsInHanded_of_change_and (C := Tryz.checked) (X := fun w _ => laidMetH Tryz.prog Tryz.laidL w) (fun _ _ _ hh h => h.of_heap hh) Tryz.own started (by kernel_rfl) Tryz.func6
    (ChangeSpec.witness_shaped (enc := enc) (C := Tryz.checked) (os := os) (X := fun w _ => laidMetH Tryz.prog Tryz.laidL w) false (World.doorLaid Tryz.prog 400 os) #[.agg #[.int .i64 0, .slice none 0 0, .slice none 0 0, .slice none 0 0, .slice none 0 0, .int .i64 0, .slice none 0 0], .agg #[.int .i64 0, .slice none 0 0, .int .i64 0, .int .i64 0, .int .i64 0, .int .i64 0, .slice none 0 0, .int .i64 0, .int .i64 0, .bool false, .bool false, .int .i64 0, .int .i64 0, .int .i64 0, .int .i64 0, .int .i64 0, .int .i64 0, .bool false, .int .i64 0], .agg #[.int .i64 0, .slice none 0 0, .slice none 0 0, .slice none 0 0]] 8 rfl (World.shaped_of_RefB (by kernel_rfl) (by kernel_rfl)) (by kernel_rfl) (by kernel_rfl) (by kernel_rfl) (Tryz.door_met os _)) ?_
  intro W base args ds gs before hval0 hW _ _ hL _
  have hval : ∀ (j : Nat) t v, Tryz.f6.params[j]? = some t → args[j]? = some v → Value.okWide Tryz.prog W .any base t v := hval0
  have hW' := hW
  obtain ⟨p, q, hA0, hV, rfl, hfz, hnd⟩ := hW
  have hA : DataW.TrodAll enc Tryz.prog W 0 (fun _ => true) true Tryz.f6.params.toList args.toList ds p := hA0
  rw [Tryz.params6] at hA hval
  have hstay := hA
  obtain ⟨rfl, rfl⟩ := trodVars_none hV
  simp only [List.append_nil] at hW'
  obtain ⟨v0, vs0, d0, ds0, p0, q0, e0, rfl, rfl, h0, t0⟩ := trodAll_cons hA
  obtain ⟨v1, vs1, d1, ds1, p1, q1, e1, rfl, rfl, h1, t1⟩ := trodAll_cons t0
  obtain ⟨v2, vs2, d2, ds2, p2, q2, e2, rfl, rfl, h2, t2⟩ := trodAll_cons t1
  obtain ⟨z1, rfl, rfl⟩ := trodAll_nil t2
  subst z1
  subst e2
  subst e1
  obtain rfl : args = #[v0, v1, v2] := by apply Array.ext'; simpa using e0
  obtain ⟨x0, g0, r0⟩ := Tryz.arg_contract (hval 0 27 v0 rfl rfl) h0
  obtain ⟨x1, g1, r1⟩ := Tryz.arg_patch (hval 1 34 v1 rfl rfl) h1
  obtain ⟨x2, g2, r2⟩ := Tryz.arg_state (hval 2 38 v2 rfl rfl) h2
  refine (calls_of_apure (vals := [v0, v1, v2]) (Tryz.mstates_spec x0 x1 x2 g0 g2) rfl (fun i d hi => ?_) (Tryz.glob_ok hL)).mono ?_
  · rcases i with _ | _ | _ | i <;> first | (simp at hi; subst hi; assumption) | (simp at hi)
  · rintro e W' ⟨c', v, rfl, rfl, hb, hr⟩
    cases hr
    have hlt := hW'.lt
    refine ⟨_, rfl, ⟨_, _, _, [], _, [], hW', trodAll_mk1 (shut_bool Tryz.underlying4 _), args_stay Tryz.rowLaidOut hb ?_ hA0 ?_ ?_, rfl, hb.frame _, fun h => by cases h⟩⟩
    · rw [Tryz.params6]; intro t ht
      have hall : ([27, 34, 38].all fun t => Tryz.prog.readableRec t && decide (t < Tryz.prog.types.size)) = true := by kernel_rfl
      have := List.all_eq_true.1 hall t (by simpa using ht)
      simpa using this
    · intro x hx; exact by simpa using hlt x (by simpa using hx)
    · intro x hx; simpa using hlt x (by simpa using hx)
theorem row_holds : Rows.MigrateStatesSaid :=
  OpenClaim.holds_of_wide 6 Tryz.f6 rfl rfl rfl rfl rfl rfl rfl ⟨rfl, rfl, rfl, rfl, rfl⟩ rfl rfl rfl rfl rfl (by kernel_rfl) Tryz.func6 (by kernel_rfl)
    (of_decide_eq_true (by kernel_rfl)) (by unfold Func.isWrapper; first | (rw [if_pos (by decide +kernel)]; kernel_rfl) | (rw [if_neg (by decide +kernel)]; exact ⟨rfl, rfl⟩))
    (fun os started H enc _ => lifted os started H enc)
theorem card_holds : Rows.MigrateStatesCardSaid :=
  Claim7.holds_tied_plain_at .later [] [.data, .data] true Rows.migrateStatesCard.stood.harness false
    row_holds (fun _ h => by cases h) (by kernel_rfl) (fun _ h => by cases h) migrateStates_row_tie rfl ⟨rfl, rfl⟩ (by kernel_rfl) rfl
    (fun f fn hf hfn => by
      obtain rfl : f = 6 := Option.some.inj ((show Tryz.prog.funcNamed Rows.migrateStatesRow.func = some 6 by kernel_rfl).symm.trans hf) |>.symm
      obtain rfl : fn = Tryz.f6 := (Option.some.inj (Tryz.func6.symm.trans hfn)).symm
      exact ⟨by kernel_rfl, fun j t ht => by
        rw [Tryz.params6] at ht
        have hm : t ∈ [27, 34, 38] := by simpa using Array.mem_of_getElem? ht
        have hall : ([27, 34, 38].all fun u => !Tryz.prog.wantsStandIn u) = true := by kernel_rfl
        exact (show Tryz.prog.wantsStandIn t = false by simpa using List.all_eq_true.1 hall t hm)⟩)
    (by kernel_rfl)
end lawMigrateStates
#print axioms lawMigrateStates.card_holds
end Go.Proofs.YtfhmokhaegdddaaGreatDoor
end
