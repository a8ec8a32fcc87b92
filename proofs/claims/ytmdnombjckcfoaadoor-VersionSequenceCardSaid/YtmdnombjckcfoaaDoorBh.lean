/-
  Parts of an abstract machine over the model, of the program's data and of what its functions compute: the texts LawC LawD ModP LawP F52 AbsV F53 F54 F55, merged.
-/
import Derived.Test.YtmdnombjckcfoaaDoorBg
set_option linter.unusedSimpArgs false
set_option linter.unusedVariables false
section
/-
  Plain laws of the states of a contract, part 3: what the statements ask.
-/
namespace Es
theorem start_cases (c : Contract) (s : State) : ((start c).2 = 0 ∧ sValid c (start c).1 = true ∧ (start c).1.day = 0) ∨ ((start c).2 = 1 ∧ sValid c s = false) := by
  unfold start
  by_cases h : (valid2 c).1 = 0
  · rw [if_neg (by simp [h])]
    exact .inl ⟨rfl, start_valid h, by rw [begin_day (core_start h).ml]; rfl⟩
  · rw [if_pos (by simpa using h)]
    refine .inr ⟨rfl, ?_⟩
    cases hv : sValid c s with
    | false => rfl
    | true => exact absurd (sValid_iff.1 hv).1.con h
theorem step_arg {c : Contract} {s : State} {k : Int} (h : sValid c s = false ∨ k < -1 ∨ len c.acts ≤ k) : step c s k = (⟨0, [], [], []⟩, 1) := by
  unfold step
  rw [if_pos]
  rcases h with h | h | h
  · simp [h]
  · simp [h]
  · simp [h]
theorem step_state {c : Contract} {s : State} {k : Int} (h : sValid c s = true) (h1 : -1 ≤ k) (h2 : k < len c.acts) (hd : s.day = c.days) : step c s k = (⟨0, [], [], []⟩, 13) := by
  unfold step
  rw [if_neg (by simp [h]; omega), if_pos (by simpa using hd)]
theorem step_fine {c : Contract} {s : State} {k : Int} (h : sValid c s = true) (h1 : -1 ≤ k) (h2 : k < len c.acts) (hd : s.day ≠ c.days) : (step c s k).2 = 0 ∧ sValid c (step c s k).1 = true := by
  have h0 : (step c s k).2 = 0 := by
    unfold step
    rw [if_neg (by simp [h]; omega), if_neg (by simpa using hd)]
  exact ⟨h0, (step_ok h0).valid⟩
theorem step_refused {c : Contract} {s : State} {k : Int} (h : (step c s k).2 ≠ 0) : (step c s k).1 = ⟨0, [], [], []⟩ := by
  unfold step at h ⊢
  split
  · rfl
  · split
    · rfl
    · rename_i h1 h2; rw [if_neg h1, if_neg h2] at h; exact absurd rfl h
theorem law_states (c : Contract) (s : State) (k : Int) : ((start c).2 = 0 ∧ sValid c (start c).1 = true ∧ (start c).1.day = 0 ∧
    (((sValid c s = false ∨ k < -1 ∨ len c.acts ≤ k) ∧ (step c s k).2 = 1) ∨ (sValid c s = true ∧ ¬ k < -1 ∧ ¬ len c.acts ≤ k ∧ ((s.day = c.days ∧ (step c s k).2 = 13) ∨ (s.day ≠ c.days ∧ (step c s k).2 = 0 ∧ sValid c (step c s k).1 = true))))) ∨ ((start c).2 = 1 ∧ sValid c s = false) := by
  rcases start_cases c s with ⟨h1, h2, h3⟩ | h
  · refine .inl ⟨h1, h2, h3, ?_⟩
    by_cases hb : sValid c s = false ∨ k < -1 ∨ len c.acts ≤ k
    · exact .inl ⟨hb, by rw [step_arg hb]⟩
    · simp only [not_or, Bool.not_eq_false] at hb
      refine .inr ⟨hb.1, hb.2.1, hb.2.2, ?_⟩
      by_cases hd : s.day = c.days
      · exact .inl ⟨hd, by rw [step_state hb.1 (by omega) (by omega) hd]⟩
      · exact .inr ⟨hd, step_fine hb.1 (by omega) (by omega) hd⟩
  · exact .inr h
end Es
end
section
/-
  Plain laws of the states of a contract, part 4: what the other statements ask.
-/
namespace Es
/-- A mark after a step. -/
theorem Stepped.at_end {c : Contract} {s t : State} {k : Int} (h : Stepped c s k t) {i : Nat} (hi : i < s.marks.length) (he : endedB (at_ s.marks (i : Int)) = true) : at_ t.marks (i : Int) = at_ s.marks (i : Int) := by
  have hr : runs (at_ s.marks (i : Int)) = false := by
    simp only [endedB, Bool.or_eq_true, beq_iff_eq] at he
    simp only [runs, Bool.or_eq_false_iff, beq_eq_false_iff_ne]
    omega
  have hm : at_ (mid c s k).marks (i : Int) = at_ s.marks (i : Int) := by rw [mid_at h.pre.ml hi, midM_still hr]
  have hb := h.began.old i (by rw [mid_len]; exact hi) (by
    rw [hm]; simp only [endedB, Bool.or_eq_true, beq_iff_eq] at he; omega)
  rw [hb, hm]
theorem Stepped.not_idle {c : Contract} {s t : State} {k : Int} (h : Stepped c s k t) {i : Nat} (hi : i < s.marks.length) (he : (at_ s.marks (i : Int)).status ≠ 0) : at_ t.marks (i : Int) = at_ (mid c s k).marks (i : Int) ∧ (at_ (mid c s k).marks (i : Int)).status ≠ 0 := by
  have hm := mid_at (k := k) h.pre.ml hi
  have hst : (at_ (mid c s k).marks (i : Int)).status ≠ 0 := by
    rw [hm]
    rcases midM_st (c := c) (s := s) (k := k) (i := i) (m := at_ s.marks (i : Int)) with h1 | h1
    · rw [h1]; exact he
    · exact h1.1
  exact ⟨h.began.old i (by rw [mid_len]; exact hi) hst, hst⟩
theorem Stepped.not_live {c : Contract} {s t : State} {k : Int} (h : Stepped c s k t) {i : Nat} (hi : i < s.marks.length) (he : (at_ s.marks (i : Int)).status = 2) : (at_ t.marks (i : Int)).status ≠ 1 := by
  obtain ⟨h1, _⟩ := h.not_idle hi (by omega)
  rw [h1, mid_at h.pre.ml hi]
  rcases midM_st (c := c) (s := s) (k := k) (i := i) (m := at_ s.marks (i : Int)) with h2 | h2
  · rw [h2]; omega
  · exact h2.2
theorem Stepped.dayE {c : Contract} {s t : State} {k : Int} (h : Stepped c s k t) : t.day = if k = -1 then s.day + 1 else s.day := by
  rw [h.eq, begin_day h.core.ml]
  unfold mid
  by_cases hk : k = -1
  · rw [if_pos (by simpa using hk), if_pos hk]
  · rw [if_neg (by simpa using hk), if_neg hk]; exact do_day c s k
/-- What SystemNoReturn asks. -/
theorem law_noReturn {c : Contract} {s : State} {k : Int} (h : (step c s k).2 = 0) :
    (step c s k).1.marks.length = s.marks.length ∧ (step c s k).1.day = (if k = -1 then s.day + 1 else s.day) ∧
    ∀ i : Nat, i < s.marks.length → ((endedB (at_ s.marks (i : Int)) = true → at_ s.marks (i : Int) = at_ (step c s k).1.marks (i : Int)) ∧
      ((at_ s.marks (i : Int)).status ≠ 0 → (at_ (step c s k).1.marks (i : Int)).status ≠ 0) ∧ ((at_ s.marks (i : Int)).status = 2 → (at_ (step c s k).1.marks (i : Int)).status ≠ 1)) := by
  have hS := step_ok h
  refine ⟨hS.len, hS.dayE, fun i hi => ⟨fun he => (hS.at_end hi he).symm, fun he => ?_, fun he => hS.not_live hi he⟩⟩
  obtain ⟨h1, h2⟩ := hS.not_idle hi he
  rw [h1]; exact h2
/-- Lengths after a step. -/
theorem law_fits {c : Contract} {s : State} {k : Int} (h : (step c s k).2 = 0) : fitsB c s (step c s k).1 = true := by
  have hS := step_ok h
  have hv := (sValid_iff.1 hS.valid).1
  have hp := hS.pre
  simp only [fitsB, len, Bool.and_eq_true, beq_iff_eq]
  have := hv.hl; have := hv.ul; have := hv.ml; have := hp.hl; have := hp.ul; have := hp.ml
  omega
/-- What SystemActs asks of the marks. -/
def named (c : Contract) (k : Int) (i : Nat) : Bool :=
  let x := at_ c.clauses (i : Int)
  x.act == k || x.pause == k || x.resume == k || ((at_ c.acts k).kind == 3 && x.role == (at_ c.acts k).give)
theorem actM_same {c : Contract} {s : State} {k : Int} {i : Nat} {m : Mark} (hn : named c k i = false) : actM c s k i m = m := by
  unfold named at hn
  simp only [Bool.or_eq_false_iff, Bool.and_eq_false_iff, beq_eq_false_iff_ne] at hn
  obtain ⟨⟨⟨h1, h2⟩, h3⟩, h4⟩ := hn
  have e1 : actMark c k (doer c s k) i m = m := by
    unfold actMark
    simp [h1, h2, h3]
  have e2 : (if runs m then actMark c k (doer c s k) i m else m) = m := by rw [e1]; split <;> rfl
  unfold actM
  simp only [e2]
  split
  · rfl
  · split
    · rename_i h3'
      have h5 : (at_ c.clauses (i : Int)).role ≠ (at_ c.acts k).give := by
        rcases h4 with h4 | h4
        · exact absurd (by simpa using h3') h4
        · exact h4
      have : novMark c (at_ c.acts k) i m = m := by
        unfold novMark; rw [if_neg (by simp [h5])]
      rw [this]; split <;> rfl
    · rfl
theorem runs_ne {m : Mark} (h : runs m = true) : m.status ≠ 0 := by rw [runs_iff] at h; omega
theorem law_acts_marks {c : Contract} {s : State} {k : Int} (h : (step c s k).2 = 0) (hk : 0 ≤ k) {i : Nat} (hi : i < s.marks.length) (hr : runs (at_ s.marks (i : Int)) = true) (hn : named c k i = false) : at_ s.marks (i : Int) = at_ (step c s k).1.marks (i : Int) := by
  have hS := step_ok h
  obtain ⟨h1, _⟩ := hS.not_idle hi (runs_ne hr)
  rw [h1, mid_at hS.pre.ml hi]
  unfold midM
  rw [if_neg (by simp; omega), actM_same hn]
theorem mid_do {c : Contract} {s : State} {k : Int} (hk : 0 ≤ k) : mid c s k = doS c s k := by unfold mid; rw [if_neg (by simp; omega)]
theorem law_acts_holders {c : Contract} {s : State} {k : Int} (h : (step c s k).2 = 0) (hk : 0 ≤ k) {i : Nat} (hi : i < s.holders.length) :
    at_ s.holders (i : Int) = at_ (step c s k).1.holders (i : Int) ∨ ((at_ c.acts k).kind ≠ 1 ∧ (i : Int) = (at_ c.acts k).give ∧ at_ (step c s k).1.holders (i : Int) = (at_ c.acts k).to) := by
  have hS := step_ok h
  rw [hS.hold, mid_do hk, do_holders]
  split
  · exact .inl rfl
  · rename_i hn
    simp only [not_or] at hn
    have hg := hS.pre.give ⟨hk, hS.rng.2⟩ hn.2
    by_cases he : i = (at_ c.acts k).give.toNat
    · refine .inr ⟨hn.2, by omega, ?_⟩
      rw [← he]; simp [at_, List.getD, hi]
    · left
      generalize (at_ c.acts k).give.toNat = g at he
      simp [at_, List.getD, List.getElem?_set, Ne.symm he]
/-- An act that assigns or novates changes nothing a second time. -/
theorem law_acts_again {c : Contract} {s : State} {k : Int} (h : (step c s k).2 = 0) (hk : 0 ≤ k) (hn : (at_ c.acts k).kind ≠ 1) :
    step c (step c s k).1 k = ((step c s k).1, 0) ∧ at_ (step c s k).1.used k = true := by
  have hS := step_ok h
  have hu : at_ (step c s k).1.used k = true := by
    rw [hS.use, mid_do hk, do_used]
    split
    · rename_i hh
      rcases hh with hh | hh
      · exact hh
      · exact absurd hh hn
    · have : k.toNat < s.used.length := by have := hS.pre.ul; have := hS.rng.2; simp only [len] at this; omega
      simp [at_, List.getD, this]
  refine ⟨?_, hu⟩
  have hv := hS.valid
  have hd : (step c s k).1.day = s.day := by rw [hS.dayE, if_neg (by omega)]
  have hidle := (sValid_iff.1 hv).2
  have hml := (sValid_iff.1 hv).1.ml
  generalize (step c s k).1 = t at *
  unfold step
  rw [if_neg (by simp [hv]; have := hS.rng; omega), if_neg (by rw [hd]; simpa using hS.day), if_neg (by simp; omega)]
  have hdo : doS c t k = t := by unfold doS; rw [if_pos hu]
  rw [hdo, begin_none fun i hi => hidle i (by omega)]
/-- What SystemTicks asks. -/
theorem older_ne {c : Contract} {x : Clause} {m : Mark} (h : runs m = true) : older x { m with left := m.left - 1 } ≠ m := by
  intro he
  have hs : (older x { m with left := m.left - 1 }).status = m.status := by rw [he]
  rw [runs_iff] at h
  unfold older at hs
  split at hs
  · split at hs
    · rename_i hg
      simp only [Bool.and_eq_true, beq_iff_eq] at hg
      simp only at hs hg; omega
    · simp only at hs; omega
  · split at hs
    · simp only at hs; omega
    · simp only at hs; omega
theorem law_ticks_marks {c : Contract} {s : State} (h : (step c s (-1)).2 = 0) {i : Nat} (hi : i < s.marks.length) (hr : runs (at_ s.marks (i : Int)) = true) :
    (at_ s.marks (i : Int) != at_ (step c s (-1)).1.marks (i : Int)) = countsB c (at_ c.clauses (i : Int)) (at_ s.marks (i : Int)) s.day := by
  have hS := step_ok h
  obtain ⟨h1, _⟩ := hS.not_idle hi (runs_ne hr)
  rw [h1, mid_at hS.pre.ml hi]
  unfold midM dayM
  rw [if_pos (by rfl), if_pos hr]
  have hc : countsB c (at_ c.clauses (i : Int)) (at_ s.marks (i : Int)) s.day = !((at_ s.marks (i : Int)).paused || ((at_ c.clauses (i : Int)).business && c.off.contains s.day)) := by
    unfold countsB
    simp only [hr, Bool.not_true, Bool.false_or]
    cases hp : (at_ s.marks (i : Int)).paused with
    | true => simp
    | false =>
      simp only [Bool.false_eq_true, if_false, Bool.false_or]
      congr 1
      cases hb : (at_ c.clauses (i : Int)).business with
      | false => simp
      | true =>
        simp only [Bool.and_true, Bool.true_and]
        rw [Bool.eq_iff_iff]
        simp only [List.any_eq_true, beq_iff_eq, List.contains_iff_mem]
        exact ⟨fun ⟨x, h1, h2⟩ => h2 ▸ h1, fun h => ⟨_, h, rfl⟩⟩
  rw [hc]
  unfold dayMark
  by_cases hp : ((at_ s.marks (i : Int)).paused || ((at_ c.clauses (i : Int)).business && c.off.contains s.day)) = true
  · rw [if_pos hp, hp]; simp
  · rw [if_neg hp]
    have hp' : ((at_ s.marks (i : Int)).paused || ((at_ c.clauses (i : Int)).business && c.off.contains s.day)) = false := by simpa using hp
    rw [hp']
    simp only [Bool.not_false, bne_iff_ne, ne_eq]
    split
    · exact fun he => older_ne (c := c) hr he.symm
    · intro he
      have := congrArg Mark.left he
      simp only at this
      omega
theorem law_ticks_rest {c : Contract} {s : State} (h : (step c s (-1)).2 = 0) : (step c s (-1)).1.holders = s.holders ∧ (step c s (-1)).1.used = s.used := by
  have hS := step_ok h
  rw [hS.hold, hS.use]
  exact ⟨rfl, rfl⟩
/-- What SystemStarts asks. -/
theorem law_starts {c : Contract} {s : State} {k : Int} (h : (step c s k).2 = 0) {i : Nat} (hi : i < s.marks.length) (h0 : (at_ s.marks (i : Int)).status = 0) (h1 : (at_ (step c s k).1.marks (i : Int)).status ≠ 0) :
    at_ (step c s k).1.marks (i : Int) = ⟨1, (at_ c.clauses (i : Int)).after, 0, if (at_ c.clauses (i : Int)).kind != 4 then at_ (step c s k).1.holders (at_ c.clauses (i : Int)).role else -1, false⟩ ∧
    ∀ x ∈ (at_ c.clauses (i : Int)).start, holdsB (step c s k).1.marks x = true := by
  have hS := step_ok h
  have hr : runs (at_ s.marks (i : Int)) = false := by simp [runs, h0]
  have hm : at_ (mid c s k).marks (i : Int) = at_ s.marks (i : Int) := by rw [mid_at hS.pre.ml hi, midM_still hr]
  rcases hS.began.new i (by rw [mid_len]; exact hi) (by rw [hm]; exact h0) with h2 | ⟨h2, _, h3⟩
  · rw [h2, hm] at h1; exact absurd h0 h1
  · have hhold := hS.hold
    generalize (step c s k).1 = t at *
    refine ⟨?_, fun x hx => ?_⟩
    · rw [h2, hhold]; rfl
    · have hf := h3 x hx
      have hco := clauseOk_start (valid2_clause (c := c) (by simpa using hS.pre.con) (j := i) (by rw [← hS.pre.ml]; exact hi))
      have hok := hco.2 x hx
      simp only [condOk, within, Bool.and_eq_true, decide_eq_true_eq] at hok
      have h4 := hok.2
      unfold fails at hf
      unfold holdsB
      simp only at hf
      by_cases e1 : x.is = 1
      · rw [if_pos (by simpa using e1)]
        rw [if_neg (by simp [e1]), if_neg (by simp [e1]), if_neg (by simp [e1])] at hf
        simpa using hf
      · rw [if_neg (by simpa using e1)]
        have h5 : x.is = 2 ∨ x.is = 3 ∨ x.is = 4 := by omega
        rcases h5 with e | e | e <;> simp [e] at hf ⊢ <;> exact hf
/-- What SystemBreach asks. -/
theorem breach_iff {c : Contract} {s : State} {p : Int} : breach c s p = true ↔ sValid c s = true ∧ 0 ≤ p ∧ ∃ i : Nat, i < s.marks.length ∧ (at_ c.clauses (i : Int)).final = true ∧ (at_ s.marks (i : Int)).status = 4 ∧ (at_ s.marks (i : Int)).bearer = p := by
  unfold breach
  split
  · rename_i h
    simp only [Bool.or_eq_true, Bool.not_eq_true', decide_eq_true_eq] at h
    constructor
    · intro h'; cases h'
    · rintro ⟨h1, h2, _⟩
      rcases h with h | h
      · rw [h1] at h; cases h
      · omega
  · rename_i h
    simp only [Bool.or_eq_true, Bool.not_eq_true', decide_eq_true_eq, not_or, Bool.not_eq_false] at h
    simp only [List.any_eq_true, List.mem_range, Bool.and_eq_true, beq_iff_eq]
    constructor
    · rintro ⟨i, h1, ⟨h2, h3⟩, h4⟩; exact ⟨h.1, by omega, i, h1, h2, h3, h4⟩
    · rintro ⟨_, _, i, h1, h2, h3, h4⟩; exact ⟨i, h1, ⟨h2, h3⟩, h4⟩
theorem law_breach_stays {c : Contract} {s : State} {k p : Int} (h : (step c s k).2 = 0) (hb : breach c s p = true) : breach c (step c s k).1 p = true := by
  have hS := step_ok h
  rw [breach_iff] at hb ⊢
  obtain ⟨_, hp, i, hi, h1, h2, h3⟩ := hb
  have he := hS.at_end hi (by simp [endedB, h2])
  exact ⟨hS.valid, hp, i, by rw [hS.len]; exact hi, h1, by rw [he]; exact h2, by rw [he]; exact h3⟩
theorem counted_fail {x : Clause} {m : Mark} (h0 : m.status ≠ 4) (h : (countedM x m).status = 4) : x.kind ≠ 4 ∧ (countedM x m).bearer = m.bearer := by
  unfold countedM at h ⊢
  split
  · rename_i hk
    rw [if_pos hk] at h
    split at h
    · simp [ended] at h
    · exact absurd h h0
  · rename_i hk
    rw [if_neg hk] at h
    split
    · rename_i hk2
      rw [if_pos hk2] at h
      simp only [beq_iff_eq] at hk2
      split at h
      · exact absurd h h0
      · refine ⟨by omega, ?_⟩
        rename_i hp
        rw [if_neg hp]; rfl
    · rename_i hk2
      rw [if_neg hk2] at h
      simp [ended] at h
theorem actMark_fail {c : Contract} {k w : Int} {i : Nat} {m : Mark} (h0 : m.status ≠ 4) (h : (actMark c k w i m).status = 4) : (actMark c k w i m).bearer = w := by
  unfold actMark at h ⊢
  simp only at h ⊢
  have e1 : (if (at_ c.clauses (i : Int)).pause == k then { m with paused := true } else m).status = m.status := by split <;> rfl
  generalize (if (at_ c.clauses (i : Int)).pause == k then { m with paused := true } else m) = m1 at *
  have e2 : (if (at_ c.clauses (i : Int)).resume == k then { m1 with paused := false } else m1).status = m1.status := by split <;> rfl
  generalize (if (at_ c.clauses (i : Int)).resume == k then { m1 with paused := false } else m1) = m2 at *
  split
  · rename_i hc
    rw [if_pos hc] at h
    obtain ⟨h1, h2⟩ := counted_fail (by rw [e2, e1]; exact h0) h
    rw [h2]
    simp only [Bool.and_eq_true, Bool.or_eq_true, beq_iff_eq] at hc
    rcases hc.2 with hh | hh
    · exact absurd hh h1
    · exact hh
  · rename_i hc
    rw [if_neg hc, e2, e1] at h
    exact absurd h h0
theorem actM_fail {c : Contract} {s : State} {k : Int} {i : Nat} {m : Mark} (h0 : m.status ≠ 4) (h : (actM c s k i m).status = 4) : (actM c s k i m).bearer = doer c s k := by
  have key : ∀ m1 : Mark, (m1.status = 4 → m1.bearer = doer c s k) → (if (at_ c.acts k).kind == 3 then (if runs m1 then novMark c (at_ c.acts k) i m1 else m1) else m1).status = 4 → (if (at_ c.acts k).kind == 3 then (if runs m1 then novMark c (at_ c.acts k) i m1 else m1) else m1).bearer = doer c s k := by
    intro m1 h1 h2
    split
    · rename_i h3
      rw [if_pos h3] at h2
      split
      · rename_i hr
        rw [if_pos hr, novMark_st] at h2
        rw [runs_iff] at hr; omega
      · rename_i hr
        rw [if_neg hr] at h2; exact h1 h2
    · rename_i h3
      rw [if_neg h3] at h2; exact h1 h2
  unfold actM at h ⊢
  split
  · rename_i hu
    rw [if_pos hu] at h; exact absurd h h0
  · rename_i hu
    rw [if_neg hu] at h
    refine key _ (fun h1 => ?_) h
    split
    · rename_i hr
      rw [if_pos hr] at h1
      exact actMark_fail h0 h1
    · rename_i hr
      rw [if_neg hr] at h1; exact absurd h1 h0
theorem law_breach_comes {c : Contract} {s : State} {k p : Int} (h : (step c s k).2 = 0) (hn : breach c s p = false) (hb : breach c (step c s k).1 p = true) : k = -1 ∨ doerX c s k = p := by
  have hS := step_ok h
  have hv : sValid c s = true := sValid_iff.2 ⟨hS.pre, hS.idle⟩
  obtain ⟨_, hp, i, hi, h1, h2, h3⟩ := breach_iff.1 hb
  rw [hS.len] at hi
  by_cases hk : k = -1
  · exact .inl hk
  right
  have hk0 : 0 ≤ k := by have := hS.rng.1; omega
  have hst : (at_ s.marks (i : Int)).status ≠ 4 := fun h4 => by
    have he := hS.at_end hi (by simp [endedB, h4])
    have : breach c s p = true := breach_iff.2 ⟨hv, hp, i, hi, h1, h4, by rw [← he]; exact h3⟩
    rw [hn] at this; cases this
  have hst0 : (at_ s.marks (i : Int)).status ≠ 0 := fun h0 => by
    have hr : runs (at_ s.marks (i : Int)) = false := by simp [runs, h0]
    have hm : at_ (mid c s k).marks (i : Int) = at_ s.marks (i : Int) := by rw [mid_at hS.pre.ml hi, midM_still hr]
    rcases hS.began.new i (by rw [mid_len]; exact hi) (by rw [hm]; exact h0) with g | ⟨g, _⟩
    · rw [g, hm, h0] at h2; simp at h2
    · rw [g] at h2; simp [startMark] at h2
  obtain ⟨e1, _⟩ := hS.not_idle hi hst0
  rw [e1, mid_at hS.pre.ml hi] at h2 h3
  unfold midM at h2 h3
  rw [if_neg (by simpa using hk)] at h2 h3
  have := actM_fail hst h2
  unfold doerX
  rw [if_neg (by simp [hv]; have := hS.rng.2; omega), ← this, h3]
end Es
end
section
/-
  What the functions of project compute, as plain functions, and plain laws of views.
-/
namespace Es
def private_ (a : ActT) : Bool := a.kind == 1 && a.to != -1
def sees (c : Contract) (s : State) (p k : Int) : Bool := !private_ (at_ c.acts k) || at_ s.holders (at_ c.acts k).to == p || doerX c s k == p
def seesX (c : Contract) (s : State) (p k : Int) : Bool := sValid c s && decide (0 ≤ p) && decide (p < c.parties) && decide (0 ≤ k) && decide (k < len c.acts) && sees c s p k
/-- The steps that are executed, with the states before them. -/
def trail (c : Contract) : List Int → State × Int → List (Int × State)
  | [], _ => []
  | k :: l, p => if p.2 == 0 then (if (step c p.1 k).2 == 0 then (k, p.1) :: trail c l (step c p.1 k) else []) else []
def keepB (c : Contract) (ps : List Int) (x : Int × State) : Bool := x.1 == -1 || ps.any fun p => sees c x.2 p x.1
def kept (c : Contract) (ps : List Int) (l : List Int) (p : State × Int) : List Int := ((trail c l p).filter (keepB c ps)).map (·.1)
def goesOn (c : Contract) (l : List Int) (p : State × Int) : State × Int := l.foldl (fun p k => if p.2 == 0 then step c p.1 k else p) p
theorem runL_goes (c : Contract) (l : List Int) : runL c l = goesOn c l (start c) := rfl
def joint (c : Contract) (l ps : List Int) : List Int × Int :=
  if !((start c).2 == 0) then ([], (start c).2)
  else if len ps == 0 || decide (12 < len ps) || (ps.any fun p => decide (p < 0) || decide (c.parties ≤ p)) then ([], 1)
  else if decide (4000 < len l) then ([], 3)
  else if (runL c l).2 == 0 then (kept c ps l (start c), 0) else ([], (runL c l).2)
def view (c : Contract) (l : List Int) (p : Int) : List Int × Int := joint c l [p]

/-! ### runs -/
theorem goesOn_nil (c : Contract) (p : State × Int) : goesOn c [] p = p := rfl
theorem goesOn_cons (c : Contract) (k : Int) (l : List Int) (p : State × Int) : goesOn c (k :: l) p = goesOn c l (if p.2 == 0 then step c p.1 k else p) := rfl
theorem goesOn_app (c : Contract) (a b : List Int) (p : State × Int) : goesOn c (a ++ b) p = goesOn c b (goesOn c a p) := by simp [goesOn, List.foldl_append]
theorem goesOn_stop {c : Contract} {p : State × Int} (h : ¬ (p.2 == 0) = true) (l : List Int) : goesOn c l p = p := runL_stop h l
theorem goesOn_ok {c : Contract} {l : List Int} {p : State × Int} (h : (goesOn c l p).2 = 0) : p.2 = 0 := by
  by_cases hp : p.2 = 0
  · exact hp
  · rw [goesOn_stop (by simpa using hp)] at h; exact h
theorem goesOn_pre {c : Contract} {a b : List Int} {p : State × Int} (h : (goesOn c (a ++ b) p).2 = 0) : (goesOn c a p).2 = 0 := by
  rw [goesOn_app] at h; exact goesOn_ok h
theorem run_take {c : Contract} {l : List Int} (h : (runL c l).2 = 0) (n : Nat) : (runL c (l.take n)).2 = 0 := by
  rw [runL_goes] at *
  exact goesOn_pre (b := l.drop n) (by rw [List.take_append_drop]; exact h)
theorem run_next {c : Contract} {l : List Int} {n : Nat} (hn : n < l.length) (h : (runL c (l.take n)).2 = 0) : runL c (l.take (n + 1)) = step c (runL c (l.take n)).1 (at_ l (n : Int)) := by
  rw [take_at hn, runL_goes, goesOn_app, ← runL_goes, goesOn_cons, goesOn_nil, if_pos (by simpa using h)]
theorem run_refused {c : Contract} {l : List Int} {n : Nat} (hn : n < l.length) (h : (runL c (l.take n)).2 = 0) (h1 : (step c (runL c (l.take n)).1 (at_ l (n : Int))).2 ≠ 0) : (runL c l).2 = (step c (runL c (l.take n)).1 (at_ l (n : Int))).2 := by
  have e1 := run_next hn h
  have e2 : runL c l = goesOn c (l.drop (n + 1)) (runL c (l.take (n + 1))) := by
    rw [runL_goes, runL_goes, ← goesOn_app, List.take_append_drop]
  rw [e2, e1, goesOn_stop (by simpa using h1)]
theorem run_valid {c : Contract} {l : List Int} (h : (runL c l).2 = 0) : sValid c (runL c l).1 = true := by
  have key : ∀ (l : List Int) (p : State × Int), (p.2 = 0 → sValid c p.1 = true) → (goesOn c l p).2 = 0 → sValid c (goesOn c l p).1 = true := by
    intro l
    induction l with
    | nil => intro p hp h; exact hp h
    | cons k l ih =>
      intro p hp h
      rw [goesOn_cons] at h ⊢
      refine ih _ (fun h2 => ?_) h
      by_cases h0 : p.2 = 0
      · rw [if_pos (by simpa using h0)] at h2 ⊢; exact (step_ok h2).valid
      · rw [if_neg (by simpa using h0)] at h2; exact absurd h2 h0
  rw [runL_goes] at *
  refine key l _ (fun h0 => ?_) h
  unfold start at h0 ⊢
  split at h0
  · simp at h0
  · rename_i h1; rw [if_neg h1]; exact start_valid (by simpa using h1)

/-! ### trails -/
theorem trail_app (c : Contract) : ∀ (a b : List Int) (p : State × Int), (goesOn c a p).2 = 0 → trail c (a ++ b) p = trail c a p ++ trail c b (goesOn c a p)
  | [], b, p, _ => by simp [trail, goesOn_nil]
  | k :: a, b, p, h => by
    have h0 : (p.2 == 0) = true := by simpa using goesOn_ok h
    rw [goesOn_cons, if_pos h0] at h
    have h1 : ((step c p.1 k).2 == 0) = true := by simpa using goesOn_ok h
    rw [List.cons_append, trail, trail, if_pos h0, if_pos h1, if_pos h0, if_pos h1, trail_app c a b _ h, goesOn_cons, if_pos h0]; rfl
theorem trail_one {c : Contract} {k : Int} {p : State × Int} (h0 : p.2 = 0) (h1 : (step c p.1 k).2 = 0) : trail c [k] p = [(k, p.1)] := by
  rw [trail, if_pos (by simpa using h0), if_pos (by simpa using h1)]; rfl
theorem trail_fst (c : Contract) : ∀ (l : List Int) (p : State × Int), (goesOn c l p).2 = 0 → (trail c l p).map (·.1) = l
  | [], _, _ => rfl
  | k :: l, p, h => by
    have h0 : (p.2 == 0) = true := by simpa using goesOn_ok h
    rw [goesOn_cons, if_pos h0] at h
    have h1 : ((step c p.1 k).2 == 0) = true := by simpa using goesOn_ok h
    rw [trail, if_pos h0, if_pos h1, List.map_cons, trail_fst c l _ h]
theorem trail_valid (c : Contract) : ∀ (l : List Int) (p : State × Int), ∀ x ∈ trail c l p, (step c x.2 x.1).2 = 0
  | [], _, _, h => by cases h
  | k :: l, p, x, h => by
    rw [trail] at h
    split at h
    · split at h
      · rename_i h1
        rcases List.mem_cons.1 h with rfl | h
        · simpa using h1
        · exact trail_valid c l _ x h
      · cases h
    · cases h
theorem kept_app {c : Contract} {ps a b : List Int} {p : State × Int} (h : (goesOn c a p).2 = 0) : kept c ps (a ++ b) p = kept c ps a p ++ kept c ps b (goesOn c a p) := by
  unfold kept; rw [trail_app c a b p h, List.filter_append, List.map_append]
theorem kept_one {c : Contract} {ps : List Int} {k : Int} {p : State × Int} (h0 : p.2 = 0) (h1 : (step c p.1 k).2 = 0) : kept c ps [k] p = if keepB c ps (k, p.1) then [k] else [] := by
  unfold kept; rw [trail_one h0 h1]; simp only [List.filter_cons, List.filter_nil]; split <;> rfl
theorem kept_nil (c : Contract) (ps : List Int) (p : State × Int) : kept c ps [] p = [] := rfl
theorem kept_sub {c : Contract} {ps l : List Int} {p : State × Int} (h : (goesOn c l p).2 = 0) : (kept c ps l p).Sublist l := by
  unfold kept
  have := (List.filter_sublist (p := keepB c ps) (l := trail c l p)).map (fun x : Int × State => x.1)
  rwa [trail_fst c l p h] at this
theorem kept_next {c : Contract} {ps l : List Int} {n : Nat} (hn : n < l.length) (h : (runL c (l.take n)).2 = 0) (h1 : (step c (runL c (l.take n)).1 (at_ l (n : Int))).2 = 0) :
    kept c ps (l.take (n + 1)) (start c) = kept c ps (l.take n) (start c) ++ if keepB c ps (at_ l (n : Int), (runL c (l.take n)).1) then [at_ l (n : Int)] else [] := by
  rw [runL_goes] at *
  rw [take_at hn, kept_app h, kept_one h h1]
theorem kept_len {c : Contract} {ps l : List Int} {p : State × Int} (h : (goesOn c l p).2 = 0) : (kept c ps l p).length ≤ l.length := (kept_sub h).length_le
end Es
end
section
/-
  Plain laws of views: what the statements about project ask.
-/
namespace Es
/-! ### lists -/
def ints (a b : List Int) : Bool := decide (a = b)
/-- How many numbers of the first list have been met. -/
def wI (a b : List Int) : Nat := b.foldl (fun i y => if decide (i < a.length) && at_ a (i : Int) == y then i + 1 else i) 0
def wIn (a b : List Int) : Bool := wI a b == a.length
def countI (l : List Int) (n : Int) : Nat := l.foldl (fun i y => if y == n then i + 1 else i) 0
theorem wI_go (a : List Int) : ∀ (b : List Int) (i : Nat), i ≤ a.length → (a.drop i).Sublist b → b.foldl (fun i y => if decide (i < a.length) && at_ a (i : Int) == y then i + 1 else i) i = a.length
  | [], i, hi, h => by
    have := List.eq_nil_of_sublist_nil h
    have := List.drop_eq_nil_iff.1 this
    show i = a.length; omega
  | y :: b, i, hi, h => by
    rw [List.foldl_cons]
    by_cases hl : i < a.length
    · rw [drop_at hl] at h
      by_cases he : at_ a (i : Int) = y
      · rw [if_pos (by simp [hl, he])]
        refine wI_go a b (i + 1) hl ?_
        rw [he] at h; exact List.cons_sublist_cons.1 h
      · rw [if_neg (by simp [he])]
        refine wI_go a b i hi ?_
        rw [drop_at hl]
        cases h with
        | cons _ h => exact h
        | cons_cons _ h => exact absurd rfl he
    · rw [if_neg (by simp [hl])]
      refine wI_go a b i hi ?_
      rw [List.drop_eq_nil_iff.2 (by omega)]; exact List.nil_sublist _
theorem wIn_of {a b : List Int} (h : a.Sublist b) : wIn a b = true := by
  unfold wIn wI
  rw [wI_go a b 0 (Nat.zero_le _) (by simpa using h)]; simp
theorem countI_go (n : Int) : ∀ (l : List Int) (i : Nat), l.foldl (fun i y => if y == n then i + 1 else i) i = i + (l.filter (· == n)).length
  | [], i => rfl
  | y :: l, i => by
    rw [List.foldl_cons, countI_go n l, List.filter_cons]
    split <;> simp <;> omega
theorem countI_eq (l : List Int) (n : Int) : countI l n = (l.filter (· == n)).length := by rw [countI, countI_go]; omega

/-! ### joint views -/
theorem joint_ok {c : Contract} {l ps : List Int} (h : (joint c l ps).2 = 0) :
    (start c).2 = 0 ∧ ps ≠ [] ∧ ps.length ≤ 12 ∧ (∀ p ∈ ps, 0 ≤ p ∧ p < c.parties) ∧ (runL c l).2 = 0 ∧ (joint c l ps).1 = kept c ps l (start c) := by
  unfold joint at h ⊢
  split at h
  · rename_i h1; simp at h1; exact absurd h h1
  rename_i h1
  split at h
  · simp at h
  rename_i h2
  split at h
  · simp at h
  rename_i h3
  split at h
  · rename_i h4
    rw [if_neg h1, if_neg h2, if_neg h3, if_pos h4]
    simp only [Bool.or_eq_true, not_or, Bool.not_eq_true, List.any_eq_false, decide_eq_true_eq] at h2
    refine ⟨by simpa using h1, fun he => ?_, ?_, fun p hp => ?_, by simpa using h4, rfl⟩
    · subst he; simp [len] at h2
    · have := h2.1.2; simp only [len] at this; omega
    · have := h2.2 p hp; omega
  · rename_i h4; simp at h4; exact absurd h h4
theorem joint_nil {c : Contract} {l ps : List Int} (h : (joint c l ps).2 ≠ 0) : (joint c l ps).1 = [] := by
  unfold joint at h ⊢
  split
  · rfl
  split
  · rfl
  split
  · rfl
  split
  · rename_i h1 h2 h3 h4; rw [if_neg h1, if_neg h2, if_neg h3, if_pos h4] at h; exact absurd rfl h
  · rfl
theorem joint_of {c : Contract} {l ps : List Int} (h1 : (runL c l).2 = 0) (h2 : ps ≠ []) (h3 : ps.length ≤ 12) (h4 : ∀ p ∈ ps, 0 ≤ p ∧ p < c.parties) (h5 : l.length ≤ 4000) : joint c l ps = (kept c ps l (start c), 0) := by
  have h0 : (start c).2 = 0 := goesOn_ok (by rw [← runL_goes]; exact h1)
  unfold joint
  have h6 : ¬ decide (4000 < len l) = true := by rw [decide_eq_true_eq]; simp only [len]; omega
  have h7 : ¬ (len ps == 0 || decide (12 < len ps) || ps.any fun p => decide (p < 0) || decide (c.parties ≤ p)) = true := by
    have := List.length_pos_iff.2 h2
    simp only [Bool.or_eq_true, not_or, List.any_eq_true, not_exists, not_and, decide_eq_true_eq, len, beq_iff_eq]
    refine ⟨⟨by omega, fun h => ?_⟩, fun p hp => by have := h4 p hp; omega⟩
    have h' : (12 : Int) < (ps.length : Int) := of_decide_eq_true h
    omega
  rw [if_neg (by simp [h0]), if_neg h7, if_neg h6, if_pos (by simpa using h1)]
theorem priv_to {c : Contract} {s : State} {k : Int} (hC : Core c s) (hk : 0 ≤ k ∧ k < len c.acts) (hp : private_ (at_ c.acts k) = true) : 0 ≤ (at_ c.acts k).to ∧ (at_ c.acts k).to < len s.holders := by
  have hV := valid2_ok hC.con
  have hka : k.toNat < c.acts.length := by simp only [len] at hk; omega
  have hact := hV.acts (at_ c.acts k) (by rw [← at_nn]; exact at_mem hka)
  simp only [private_, Bool.and_eq_true, beq_iff_eq, bne_iff_ne] at hp
  have hl := hC.hl
  unfold act at hact
  split at hact
  · rename_i hm; simp [moves, hp.1] at hm
  · split at hact
    · cases hact
    · rename_i h1
      simp only [Bool.or_eq_true, not_or, Bool.and_eq_true, not_and, Bool.not_eq_true', Bool.not_eq_false, role, under, decide_eq_true_eq, bne_iff_ne] at h1
      have := h1.2 hp.2
      simp only [len] at this ⊢; omega
/-- What the joint view of all parties is. -/
theorem keep_all {c : Contract} {s : State} {k : Int} (h : (step c s k).2 = 0) (ps : List Int) (hp : ∀ p, 0 ≤ p → p < c.parties → p ∈ ps) : keepB c ps (k, s) = true := by
  have hS := step_ok h
  have hV := valid2_ok hS.pre.con
  unfold keepB
  by_cases hk : k = -1
  · simp [hk]
  rw [Bool.or_eq_true]; right
  rw [List.any_eq_true]
  by_cases hpr : private_ (at_ c.acts k) = true
  · have hka : k.toNat < c.acts.length := by have := hS.rng; simp only [len] at this; omega
    have hact := hV.acts (at_ c.acts k) (by rw [← at_nn]; exact at_mem hka)
    simp only [private_, Bool.and_eq_true, beq_iff_eq, bne_iff_ne] at hpr
    have hto : 0 ≤ (at_ c.acts k).to ∧ (at_ c.acts k).to < len c.holders := by
      unfold act at hact
      split at hact
      · rename_i hm; simp [moves, hpr.1] at hm
      · split at hact
        · cases hact
        · rename_i h1
          simp only [Bool.or_eq_true, not_or, Bool.and_eq_true, not_and, Bool.not_eq_true', Bool.not_eq_false, role, under, decide_eq_true_eq, bne_iff_ne] at h1
          exact h1.2 hpr.2
    have hm : at_ s.holders (at_ c.acts k).to ∈ s.holders := by
      rw [← at_nn]; exact at_mem (by have := hS.pre.hl; simp only [len] at hto; omega)
    have := hS.pre.holders _ hm
    exact ⟨_, hp _ this.1 this.2, by simp [sees]⟩
  · exact ⟨0, hp 0 (by omega) (by have := hV.pos; omega), by simp [sees, hpr]⟩
theorem kept_all {c : Contract} {l : List Int} {p : State × Int} (h : (goesOn c l p).2 = 0) (ps : List Int) (hp : ∀ q, 0 ≤ q → q < c.parties → q ∈ ps) : kept c ps l p = l := by
  unfold kept
  rw [List.filter_eq_self.2 (fun x hx => keep_all (trail_valid c l p x hx) ps hp), trail_fst c l p h]
theorem sub_filter {α : Type} {f g : α → Bool} (h : ∀ x, f x = true → g x = true) : ∀ l : List α, (l.filter f).Sublist (l.filter g)
  | [] => List.Sublist.refl _
  | x :: l => by
    rw [List.filter_cons, List.filter_cons]
    by_cases hf : f x = true
    · rw [if_pos hf, if_pos (h x hf)]; exact (sub_filter h l).cons_cons x
    · rw [if_neg hf]
      split
      · exact (sub_filter h l).cons x
      · exact sub_filter h l
theorem kept_mono {c : Contract} {l : List Int} {p : State × Int} {ps qs : List Int} (h : ∀ q ∈ ps, q ∈ qs) : (kept c ps l p).Sublist (kept c qs l p) := by
  unfold kept
  refine List.Sublist.map _ ?_
  refine sub_filter (fun x hx => ?_) _
  simp only [keepB, Bool.or_eq_true, List.any_eq_true] at hx ⊢
  rcases hx with hx | ⟨q, h1, h2⟩
  · exact .inl hx
  · exact .inr ⟨q, h q h1, h2⟩

/-! ### ProjectAll -/
def allP (n : Int) : List Int := (List.range n.toNat).map Int.ofNat
theorem mem_allP {n q : Int} : q ∈ allP n ↔ 0 ≤ q ∧ q < n := by
  simp only [allP, List.mem_map, List.mem_range]
  constructor
  · rintro ⟨i, h1, rfl⟩; simp only [Int.ofNat_eq_natCast]; omega
  · intro h; exact ⟨q.toNat, by omega, by simp only [Int.ofNat_eq_natCast]; omega⟩
theorem law_all {c : Contract} {l : List Int} (h : (joint c l (allP c.parties)).2 = 0) : (joint c l (allP c.parties)).1 = l ∧ (start c).2 = 0 ∧ (runL c l).2 = 0 := by
  obtain ⟨h1, _, _, _, h5, h6⟩ := joint_ok h
  exact ⟨by rw [h6]; exact kept_all (by rw [← runL_goes]; exact h5) _ fun q a b => mem_allP.2 ⟨a, b⟩, h1, h5⟩
theorem law_parts {c : Contract} {l ps : List Int} (h : (joint c l ps).2 = 0) {p : Int} (hp : p ∈ ps) (hl : l.length ≤ 4000) : (view c l p).2 = 0 ∧ wIn (view c l p).1 (joint c l ps).1 = true := by
  obtain ⟨h1, _, _, h4, h5, h6⟩ := joint_ok h
  have := joint_of (ps := [p]) h5 (by simp) (by simp) (fun q hq => by simp only [List.mem_singleton] at hq; subst hq; exact h4 q hp) hl
  unfold view
  rw [this, h6]
  exact ⟨rfl, wIn_of (kept_mono fun q hq => by simp only [List.mem_singleton] at hq; subst hq; exact hp)⟩
theorem law_within {c : Contract} {l ps : List Int} (h : (joint c l ps).2 = 0) : wIn (joint c l ps).1 l = true := by
  obtain ⟨_, _, _, _, h5, h6⟩ := joint_ok h
  rw [h6]; exact wIn_of (kept_sub (by rw [← runL_goes]; exact h5))
theorem law_err {c : Contract} {l ps : List Int} (h1 : (start c).2 = 0) (h2 : (runL c l).2 = 0) (hl : l.length ≤ 4000) (h : (joint c l ps).2 ≠ 0) : (joint c l ps).2 = 1 := by
  unfold joint at h ⊢
  rw [if_neg (by simp [h1])] at h ⊢
  split
  · rfl
  · rename_i h3
    have h6 : ¬ decide (4000 < len l) = true := by rw [decide_eq_true_eq]; simp only [len]; omega
    rw [if_neg h3, if_neg h6, if_pos (by simpa using h2)] at h; exact absurd rfl h

/-! ### ProjectBeginnings -/
theorem law_begin {c : Contract} {l : List Int} {p : Int} (h : (view c l p).2 = 0) (hl : l.length ≤ 4000) (n : Nat) :
    (view c (l.take n) p).2 = 0 ∧ (view c (l.take n) p).1.length ≤ (view c l p).1.length ∧ (view c (l.take n) p).1 = (view c l p).1.take (view c (l.take n) p).1.length := by
  unfold view at h ⊢
  obtain ⟨h1, h2, h3, h4, h5, h6⟩ := joint_ok h
  rw [joint_of (run_take h5 n) h2 h3 h4 (by simp; omega), h6]
  have hk := kept_app (c := c) (ps := [p]) (a := l.take n) (b := l.drop n) (p := start c) (by rw [← runL_goes]; exact run_take h5 n)
  rw [List.take_append_drop] at hk
  rw [hk]
  exact ⟨rfl, by simp, by simp⟩

/-! ### ProjectOwn -/
theorem seesX_of {c : Contract} {s : State} {p k : Int} (h : (step c s k).2 = 0) (hp : 0 ≤ p ∧ p < c.parties) (hk : k ≠ -1) : seesX c s p k = sees c s p k := by
  have hS := step_ok h
  have hv : sValid c s = true := sValid_iff.2 ⟨hS.pre, hS.idle⟩
  have hr := hS.rng
  unfold seesX
  rw [hv, decide_eq_true hp.1, decide_eq_true hp.2, decide_eq_true (show 0 ≤ k by omega), decide_eq_true hr.2]; rfl
theorem keep_one {c : Contract} {s : State} {p k : Int} (h : (step c s k).2 = 0) (hp : 0 ≤ p ∧ p < c.parties) : keepB c [p] (k, s) = (k == -1 || seesX c s p k) := by
  unfold keepB
  by_cases hk : k = -1
  · simp [hk]
  · rw [seesX_of h hp hk]; simp
theorem own_seen {c : Contract} {s : State} {p k : Int} (h : (step c s k).2 = 0) (hp : 0 ≤ p ∧ p < c.parties) (ho : k = -1 ∨ doerX c s k = p) : (k == -1 || seesX c s p k) = true := by
  by_cases hk : k = -1
  · simp [hk]
  · rw [seesX_of h hp hk]
    have hd : doerX c s k = p := ho.resolve_left hk
    rw [Bool.or_eq_true]; right
    unfold sees; rw [hd]; simp
structure Seen (c : Contract) (l : List Int) (p : Int) (n : Nat) : Prop where
  run : (runL c (l.take n)).2 = 0
  ok : (step c (runL c (l.take n)).1 (at_ l (n : Int))).2 = 0
  next : runL c (l.take (n + 1)) = step c (runL c (l.take n)).1 (at_ l (n : Int))
  keep : kept c [p] (l.take (n + 1)) (start c) = kept c [p] (l.take n) (start c) ++ if (at_ l (n : Int) == -1 || seesX c (runL c (l.take n)).1 p (at_ l (n : Int))) then [at_ l (n : Int)] else []
  own : (at_ l (n : Int) = -1 ∨ doerX c (runL c (l.take n)).1 (at_ l (n : Int)) = p) → (at_ l (n : Int) == -1 || seesX c (runL c (l.take n)).1 p (at_ l (n : Int))) = true
  place : (at_ l (n : Int) == -1 || seesX c (runL c (l.take n)).1 p (at_ l (n : Int))) = true → (kept c [p] (l.take n) (start c)).length < (view c l p).1.length ∧ at_ (view c l p).1 ((kept c [p] (l.take n) (start c)).length : Int) = at_ l (n : Int)
theorem law_seen {c : Contract} {l : List Int} {p : Int} (h : (view c l p).2 = 0) {n : Nat} (hn : n < l.length) : Seen c l p n := by
  unfold view at h
  obtain ⟨h1, h2, h3, h4, h5, h6⟩ := joint_ok h
  have hp := h4 p (by simp)
  have hr := run_take h5 n
  have hnx := run_next hn hr
  have hok : (step c (runL c (l.take n)).1 (at_ l (n : Int))).2 = 0 := by rw [← hnx]; exact run_take h5 (n + 1)
  have hk := kept_next (ps := [p]) hn hr hok
  rw [keep_one hok hp] at hk
  refine ⟨hr, hok, hnx, hk, own_seen hok hp, fun hs => ?_⟩
  rw [if_pos hs] at hk
  have hall := kept_app (c := c) (ps := [p]) (a := l.take (n + 1)) (b := l.drop (n + 1)) (p := start c) (by rw [← runL_goes]; exact run_take h5 (n + 1))
  rw [List.take_append_drop, hk] at hall
  have hv : (view c l p).1 = kept c [p] l (start c) := h6
  rw [hv, hall]
  have hlt : (kept c [p] (l.take n) (start c)).length < (kept c [p] (l.take n) (start c) ++ [at_ l (n : Int)] ++ kept c [p] (l.drop (n + 1)) (goesOn c (l.take (n + 1)) (start c))).length := by simp <;> omega
  refine ⟨hlt, ?_⟩
  rw [at_nat hlt]; simp
theorem law_ownEnd {c : Contract} {l : List Int} {p : Int} (h : (view c l p).2 = 0) : (runL c l).2 = 0 ∧ (kept c [p] l (start c)).length = (view c l p).1.length ∧ wIn (view c l p).1 l = true ∧ countI (view c l p).1 (-1) = countI l (-1) ∧ (start c).2 = 0 := by
  unfold view at h
  have hw := law_within h
  obtain ⟨h1, h2, h3, h4, h5, h6⟩ := joint_ok h
  have hv : (view c l p).1 = kept c [p] l (start c) := h6
  refine ⟨h5, by rw [hv], hw, ?_, h1⟩
  rw [countI_eq, countI_eq, hv]
  unfold kept
  have hf := trail_fst c l (start c) (by rw [← runL_goes]; exact h5)
  conv => rhs; rw [← hf]
  rw [List.filter_map, List.filter_map, List.length_map, List.length_map, List.filter_filter]
  congr 1
  refine List.filter_congr fun x _ => ?_
  simp only [Function.comp, keepB]
  cases x.1 == -1 <;> simp

/-! ### ProjectPrivate -/
theorem law_private {c : Contract} {s : State} {p k : Int} (hs : sValid c s = true) (hp : 0 ≤ p ∧ p < c.parties) (hk : 0 ≤ k ∧ k < len c.acts) :
    seesX c s p k = (if (at_ c.acts k).kind = 1 ∧ 0 ≤ (at_ c.acts k).to then (doerX c s k == p || at_ s.holders (at_ c.acts k).to == p) else true) := by
  have hC := (sValid_iff.1 hs).1
  have hV := valid2_ok hC.con
  have hka : k.toNat < c.acts.length := by simp only [len] at hk; omega
  have hact := hV.acts (at_ c.acts k) (by rw [← at_nn]; exact at_mem hka)
  have hto : (at_ c.acts k).kind = 1 → (at_ c.acts k).to ≠ -1 → 0 ≤ (at_ c.acts k).to := by
    intro h1 h2
    unfold act at hact
    split at hact
    · rename_i hm; simp [moves, h1] at hm
    · split at hact
      · cases hact
      · rename_i h3
        simp only [Bool.or_eq_true, not_or, Bool.and_eq_true, not_and, Bool.not_eq_true', Bool.not_eq_false, role, under, decide_eq_true_eq, bne_iff_ne] at h3
        exact (h3.2 h2).1
  unfold seesX
  rw [hs, decide_eq_true hp.1, decide_eq_true hp.2, decide_eq_true hk.1, decide_eq_true hk.2]
  simp only [Bool.true_and]
  unfold sees private_
  by_cases h1 : (at_ c.acts k).kind = 1
  · by_cases h2 : (at_ c.acts k).to = -1
    · rw [if_neg (by omega)]; simp [h2]
    · rw [if_pos ⟨h1, hto h1 h2⟩]
      have e2 : (((at_ c.acts k).to != -1) : Bool) = true := by simpa using h2
      rw [e2, h1]; simp [Bool.or_comm]
  · rw [if_neg (by simp [h1])]; simp [h1]
theorem law_notSeen {c : Contract} {s : State} {p k : Int} (h : sValid c s = false ∨ p < 0 ∨ c.parties ≤ p ∨ k < 0 ∨ len c.acts ≤ k) : seesX c s p k = false := by
  unfold seesX
  rcases h with h | h | h | h | h
  · simp [h]
  all_goals
    simp only [Bool.and_eq_false_iff, decide_eq_false_iff_not]
    omega

/-! ### ProjectHidden -/
theorem law_hidden {c : Contract} {l : List Int} {p k : Int} {n : Nat} (h : (view c l p).2 = 0) (hl : l.length ≤ 3000) (hk : 0 ≤ k)
    (h1 : (step c (runL c (l.take n)).1 k).2 = 0) (h2 : (step c (runL c (l.take n)).1 k).1 = (runL c (l.take n)).1) (h3 : seesX c (runL c (l.take n)).1 p k = false) :
    view c (l.take n ++ [k] ++ l.drop n) p = view c l p := by
  unfold view at h ⊢
  obtain ⟨g1, g2, g3, g4, g5, g6⟩ := joint_ok h
  have hr := run_take g5 n
  have hpq : ∀ p : State × Int, p.2 = 0 → p = (p.1, 0) := fun p hp => by cases p; simp_all
  have e1 := hpq _ hr
  have e2 := hpq _ h1
  have hgo : goesOn c (l.take n ++ [k]) (start c) = goesOn c (l.take n) (start c) := by
    rw [goesOn_app, ← runL_goes, goesOn_cons, goesOn_nil, if_pos (by simpa using hr), e2, h2, ← e1]
  have hgo1 : (goesOn c (l.take n ++ [k]) (start c)).2 = 0 := by rw [hgo, ← runL_goes]; exact hr
  have hrun : (runL c (l.take n ++ [k] ++ l.drop n)).2 = 0 := by
    rw [runL_goes, goesOn_app, hgo, ← goesOn_app, List.take_append_drop, ← runL_goes]; exact g5
  rw [joint_of hrun g2 g3 g4 (by simp; omega), joint_of g5 g2 g3 g4 (by omega)]
  have hr' : (goesOn c (l.take n) (start c)).2 = 0 := hr
  have hka := kept_app (c := c) (ps := [p]) (a := l.take n) (b := l.drop n) (p := start c) hr
  rw [List.take_append_drop] at hka
  have hkeep : keepB c [p] (k, (goesOn c (l.take n) (start c)).1) = false := by
    have := keep_one h1 (g4 p (by simp))
    rw [h3] at this
    exact this.trans (by simp only [Bool.or_false, beq_eq_false_iff_ne]; omega)
  rw [kept_app hgo1, kept_app hr', hgo, hka, kept_one hr' h1, hkeep]
  simp
/-! ### The chapter's example -/
def sampleP : Contract := ⟨3, [0, 1, 2], [], [⟨1, 0, 0, 1, -1, ⟨0, 1⟩⟩, ⟨1, 1, 0, -1, -1, ⟨0, 1⟩⟩], [], 5, []⟩
theorem sampleP_fits : Fits sampleP := ⟨by decide, by decide, by decide, by decide, by decide⟩
theorem headP_a : joint sampleP [0, -1, 1] [0] = ([0, -1, 1], 0) := by rfl
theorem headP_b : joint sampleP [0, -1, 1] [2] = ([-1, 1], 0) := by rfl
theorem headP_c : joint sampleP [0, -1, 1] [2, 1] = ([0, -1, 1], 0) := by rfl
theorem headP_h : joint sampleP [0, -1, 1] [3] = ([], 1) := by rfl
end Es
end
section
namespace Go.Proofs
open Go Go.Abs
set_option linter.unusedSimpArgs false
set_option linter.unusedVariables false
set_option maxRecDepth 10000
namespace Tryd
@[go_sem] theorem untD_bin (P : Program) (op : BinOp) (t : Nat) (x y : Es.Unt) (s : S) (K : D → S → Prop) : aBin P op t (untD x) (untD y) s K = ABinA P op t (eqShape P 10000 t) [.v (.string ⟨x.name.toArray⟩), .v (.int .i64 x.kind), .v (.int .i64 x.base), .v (.int .i64 x.factor.num), .v (.int .i64 x.factor.den)] [.v (.string ⟨y.name.toArray⟩), .v (.int .i64 y.kind), .v (.int .i64 y.base), .v (.int .i64 y.factor.num), .v (.int .i64 y.factor.den)] s K := nr rfl
@[go_sem] theorem actD_bin (P : Program) (op : BinOp) (t : Nat) (x y : Es.ActT) (s : S) (K : D → S → Prop) : aBin P op t (actD x) (actD y) s K = ABinA P op t (eqShape P 10000 t) [.v (.int .i64 x.kind), .v (.int .i64 x.role), .v (.int .i64 x.give), .v (.int .i64 x.to), .v (.int .i64 x.unit), .v (.int .i64 x.lot.num), .v (.int .i64 x.lot.den)] [.v (.int .i64 y.kind), .v (.int .i64 y.role), .v (.int .i64 y.give), .v (.int .i64 y.to), .v (.int .i64 y.unit), .v (.int .i64 y.lot.num), .v (.int .i64 y.lot.den)] s K := nr rfl
/-- Few of the reference of layer 13. -/
def fewC (c : Es.Contract) (n : Int) : Bool :=
  if decide (13 < Es.len c.holders) || decide (21 < Es.len c.units) || decide (61 < Es.len c.acts) || decide (n < Es.len c.clauses) || decide (100 < Es.len c.off) then false
  else Es.allN c.units.length (fun i => !decide (60 < Es.len (Es.at_ c.units (i : Int)).name)) && Es.allN c.clauses.length (fun i => !decide (10 < Es.len (Es.at_ c.clauses (i : Int)).start))
theorem ints13_spec (u w : List Int) (ha : u.length ≤ 9223372036854775807) : APure M 34 [slD 1 intC u, slD 1 intC w] (.v (.bool (u == w))) := by
  refine pure_of gpu func34 rfl results34 ntmps34 (by simp) ⟨pu_slD pu_intC _, pu_slD pu_intC _, trivial⟩ ?_
  intro b
  simp only [go_sem, ↓reduceIte, reduceCtorEq, Nat.reduceEqDiff, Nat.reduceLT, Nat.reduceLeDiff, Nat.reduceAdd, Nat.reduceSub, Nat.reduceMul, Nat.reduceGT, Int.reduceNeg, Int.reduceToNat]
  refine ite_cases (fun hne => ?_) (fun hne => ?_)
  · refine congrArg Value.bool ?_
    have : u ≠ w := fun h => by subst h; simp at hne
    simp [this]
  have hlen : u.length = w.length := by have hh := hne; simp [Es.len] at hh; omega
  refine awp_count0 u.length (fun e0 s0 k e st => (e 0 = e0 0 ∧ e 1 = e0 1) ∧ e 5 = .v (.int .i64 k) ∧ st = s0 ∧ ∀ j : Nat, j < k → Es.at_ u (j : Int) = Es.at_ w (j : Int)) ⟨⟨rfl, rfl⟩, ?_, rfl, (by omega)⟩ ?_
  · simp only [go_sem, ↓reduceIte, reduceCtorEq, Nat.reduceEqDiff, Nat.reduceLT, Nat.reduceLeDiff, Nat.reduceAdd, Nat.reduceSub, Nat.reduceMul, Nat.reduceGT, Int.reduceNeg, Int.reduceToNat]; rfl
  rintro k e st hk ⟨⟨a0, a1⟩, a5, rfl, hall⟩
  simp only [go_sem, ↓reduceIte, reduceCtorEq, Nat.reduceEqDiff, Nat.reduceLT, Nat.reduceLeDiff, Nat.reduceAdd, Nat.reduceSub, Nat.reduceMul, Nat.reduceGT, Int.reduceNeg, Int.reduceToNat] at a0 a1
  simp only [go_sem, ↓reduceIte, reduceCtorEq, Nat.reduceEqDiff, Nat.reduceLT, Nat.reduceLeDiff, Nat.reduceAdd, Nat.reduceSub, Nat.reduceMul, Nat.reduceGT, Int.reduceNeg, Int.reduceToNat, a0, a1, a5]
  refine ite_cases (fun hlt => ?_) (fun hlt => ?_)
  · have hlt' : k < u.length := Es.len_lt.1 hlt
    refine awp_plan ((.op 0 (.op 1 (.op 2 (.op 3 (.op 4 (.op 5 (.op 6 (.op 7 (.op 8 .done)))))))))) [] mix (by kernel_rfl) ?_
    simp only [go_sem, ↓reduceIte, reduceCtorEq, Nat.reduceEqDiff, Nat.reduceLT, Nat.reduceLeDiff, Nat.reduceAdd, Nat.reduceSub, Nat.reduceMul, Nat.reduceGT, Int.reduceNeg, Int.reduceToNat, a0, a1, a5]
    refine ⟨⟨by omega, hlt⟩, ⟨by omega, by simp only [Es.len]; omega⟩, ?_⟩
    refine ite_cases (fun he => ?_) (fun he => ?_)
    · have hd : ¬ Es.at_ u (k : Int) = Es.at_ w (k : Int) := by simpa using he
      have : u ≠ w := fun h => hd (by rw [h])
      simp [this]
    · have hd : Es.at_ u (k : Int) = Es.at_ w (k : Int) := by simpa using he
      refine ⟨hlt', ?_⟩
      simp only [go_sem, ↓reduceIte, reduceCtorEq, Nat.reduceEqDiff, Nat.reduceLT, Nat.reduceLeDiff, Nat.reduceAdd, Nat.reduceSub, Nat.reduceMul, Nat.reduceGT, Int.reduceNeg, Int.reduceToNat, a0, a1, a5]
      refine ⟨by rw [wrap_i64 _ (by omega) (by omega)]; simp, fun j hj => ?_⟩
      rcases Nat.lt_or_ge j k with h | h
      · exact hall j h
      · have : j = k := by omega
        rw [this]; exact hd
  · have hkk : k = u.length := by simp only [Es.len] at hlt; omega
    have : u = w := List.ext_getElem hlen fun i h1 h2 => by
      have := hall i (by omega)
      rwa [Es.at_nat h1, Es.at_nat h2] at this
    simp [this]
theorem clauses13_spec (x y : Es.Clause) (hl : x.start.length ≤ 9223372036854775807) : APure M 66 [clsD x, clsD y] (.v (.bool (Es.eqClause x y))) := by
  refine pure_of gpu func66 rfl results66 ntmps66 (by simp) ⟨pu_clsD x, pu_clsD y, trivial⟩ ?_
  intro b
  simp only [go_sem, ↓reduceIte, reduceCtorEq, Nat.reduceEqDiff, Nat.reduceLT, Nat.reduceLeDiff, Nat.reduceAdd, Nat.reduceSub, Nat.reduceMul, Nat.reduceGT, Int.reduceNeg, Int.reduceToNat]
  refine ite_cases (fun hlen0 => ?_) (fun hne => by rw [show Es.eqClause x y = false by unfold Es.eqClause; rw [Es.eqL_len (by simpa using hne)]; rfl])
  refine ite_cases (fun h0 => ?_) (fun h0 => by unfold Es.eqClause Es.eqPlain; simp_all)
  refine ite_cases (fun h1 => ?_) (fun h1 => by unfold Es.eqClause Es.eqPlain; simp_all)
  refine ite_cases (fun h2 => ?_) (fun h2 => by unfold Es.eqClause Es.eqPlain; simp_all)
  refine ite_cases (fun h3 => ?_) (fun h3 => by unfold Es.eqClause Es.eqPlain; simp_all)
  refine ite_cases (fun h4 => ?_) (fun h4 => by unfold Es.eqClause Es.eqPlain; simp_all)
  refine ite_cases (fun h5 => ?_) (fun h5 => by unfold Es.eqClause Es.eqPlain; simp_all)
  refine ite_cases (fun h6 => ?_) (fun h6 => by unfold Es.eqClause Es.eqPlain; simp_all)
  refine ite_cases (fun h7 => by unfold Es.eqClause Es.eqPlain; simp_all) (fun h7 => ?_)
  have hlen : x.start.length = y.start.length := by simp [Es.len] at hlen0; omega
  refine awp_count0 x.start.length (fun e0 s0 k e s => (e 2 = e0 2 ∧ e 3 = e0 3) ∧ e 5 = .v (.int .i64 k) ∧ s = s0 ∧ ∀ j : Nat, j < k → Es.eqCond (Es.at_ x.start j) (Es.at_ y.start j) = true) ⟨⟨rfl, rfl⟩, ?_, rfl, (by omega)⟩ ?_
  · simp only [go_sem, ↓reduceIte, reduceCtorEq, Nat.reduceEqDiff, Nat.reduceLT, Nat.reduceLeDiff, Nat.reduceAdd, Nat.reduceSub, Nat.reduceMul, Nat.reduceGT, Int.reduceNeg, Int.reduceToNat]; rfl
  rintro k e s hk ⟨⟨a2, a3⟩, a5, rfl, hall⟩
  simp only [go_sem, ↓reduceIte, reduceCtorEq, Nat.reduceEqDiff, Nat.reduceLT, Nat.reduceLeDiff, Nat.reduceAdd, Nat.reduceSub, Nat.reduceMul, Nat.reduceGT, Int.reduceNeg, Int.reduceToNat] at a2 a3
  simp only [go_sem, ↓reduceIte, reduceCtorEq, Nat.reduceEqDiff, Nat.reduceLT, Nat.reduceLeDiff, Nat.reduceAdd, Nat.reduceSub, Nat.reduceMul, Nat.reduceGT, Int.reduceNeg, Int.reduceToNat, a2, a3, a5]
  refine ite_cases (fun hlt => ?_) (fun hlt => ?_)
  · have hlt' : k < x.start.length := Es.len_lt.1 hlt
    refine awp_plan ((.op 0 (.op 1 (.op 2 (.op 3 (.op 4 (.op 5 (.op 6 (.op 7 (.op 8 (.op 9 (.op 10 .done)))))))))))) [] mix (by kernel_rfl) ?_
    simp only [go_sem, ↓reduceIte, reduceCtorEq, Nat.reduceEqDiff, Nat.reduceLT, Nat.reduceLeDiff, Nat.reduceAdd, Nat.reduceSub, Nat.reduceMul, Nat.reduceGT, Int.reduceNeg, Int.reduceToNat, a2, a3, a5]
    refine ⟨⟨by omega, hlt⟩, ⟨by omega, by simp only [Es.len] at hlt ⊢; omega⟩, ?_⟩
    refine ite_cases (fun hd => ?_) (fun hd => ?_)
    · rw [show Es.eqClause x y = false by unfold Es.eqClause; rw [Es.eqL_bad hlt' (by simpa only [Es.eqCond, Bool.not_eq_true'] using hd)]; rfl]
    · refine ⟨hlt', ?_⟩
      simp only [go_sem, ↓reduceIte, reduceCtorEq, Nat.reduceEqDiff, Nat.reduceLT, Nat.reduceLeDiff, Nat.reduceAdd, Nat.reduceSub, Nat.reduceMul, Nat.reduceGT, Int.reduceNeg, Int.reduceToNat, a2, a3, a5]
      refine ⟨by rw [wrap_i64 _ (by omega) (by omega)]; simp, Es.upto_step (p := fun j : Nat => Es.eqCond (Es.at_ x.start j) (Es.at_ y.start j)) hall (by simpa [Es.eqCond] using hd)⟩
  · have hst : Es.eqL Es.eqCond x.start y.start = true := Es.eqL_end hlen (by simp only [Es.len] at hlt; omega) hall
    have heq : Es.eqClause x y = ((x.pause == y.pause) && (x.resume == y.resume) && (x.value.num == y.value.num && x.value.den == y.value.den) && (x.unit == y.unit) && (x.to == y.to) && (x.waived == y.waived)) := by
      unfold Es.eqClause Es.eqPlain
      rw [hst, Es.ratio_beq, Bool.true_and, Bool.eq_iff_iff]
      simp only [Bool.and_eq_true, beq_iff_eq]
      constructor
      · intro h; simp_all
      · intro h; simp_all
    rw [heq]
    repeat' (first | (with_reducible refine And.intro ?_ ?_) | ((with_reducible refine ite_cases ?_ ?_) <;> intro _))
    all_goals first
      | (refine congrArg Value.bool ?_; simp_all; done)
      | (simp_all; done)
      | trace_state
theorem few13_spec (c : Es.Contract) (n : Int) (hf : Es.Fits c) : APure M 61 [conD c, .v (.int .i64 n)] (.v (.bool (fewC c n))) := by
  refine pure_of gpu func61 rfl results61 ntmps61 (by simp) ⟨pu_conD _, .v _, trivial⟩ ?_
  intro b
  simp only [go_sem, ↓reduceIte, reduceCtorEq, Nat.reduceEqDiff, Nat.reduceLT, Nat.reduceLeDiff, Nat.reduceAdd, Nat.reduceSub, Nat.reduceMul, Nat.reduceGT, Int.reduceNeg, Int.reduceToNat]
  refine ite_cases (fun h0 => ?_) (fun h0 => by unfold fewC; rw [if_pos (by simp_all)])
  refine ite_cases (fun h1 => ?_) (fun h1 => by unfold fewC; rw [if_pos (by simp_all)])
  refine ite_cases (fun h2 => ?_) (fun h2 => by unfold fewC; rw [if_pos (by simp_all)])
  refine ite_cases (fun h3 => ?_) (fun h3 => by unfold fewC; rw [if_pos (by simp_all)])
  refine ite_cases (fun h4 => by unfold fewC; rw [if_pos (by simp_all)]) (fun h4 => ?_)
  refine awp_count0 c.units.length (fun e0 s0 k e s => (e 2 = e0 2 ∧ e 1 = e0 1) ∧ e 5 = .v (.int .i64 k) ∧ s = s0 ∧ ∀ j : Nat, j < k → (!decide (60 < Es.len (Es.at_ c.units (j : Int)).name)) = true) ⟨⟨rfl, rfl⟩, ?_, rfl, (by omega)⟩ ?_
  · simp only [go_sem, ↓reduceIte, reduceCtorEq, Nat.reduceEqDiff, Nat.reduceLT, Nat.reduceLeDiff, Nat.reduceAdd, Nat.reduceSub, Nat.reduceMul, Nat.reduceGT, Int.reduceNeg, Int.reduceToNat]; rfl
  rintro k e s hk ⟨⟨a2, a1⟩, a5, rfl, hall⟩
  simp only [go_sem, ↓reduceIte, reduceCtorEq, Nat.reduceEqDiff, Nat.reduceLT, Nat.reduceLeDiff, Nat.reduceAdd, Nat.reduceSub, Nat.reduceMul, Nat.reduceGT, Int.reduceNeg, Int.reduceToNat] at a2 a1
  simp only [go_sem, ↓reduceIte, reduceCtorEq, Nat.reduceEqDiff, Nat.reduceLT, Nat.reduceLeDiff, Nat.reduceAdd, Nat.reduceSub, Nat.reduceMul, Nat.reduceGT, Int.reduceNeg, Int.reduceToNat, a2, a1, a5]
  have hfu := hf.units
  refine ite_cases (fun hlt => ?_) (fun hlt => ?_)
  · have hlt' : k < c.units.length := Es.len_lt.1 hlt
    refine ⟨⟨by omega, hlt⟩, ?_⟩
    refine ite_cases (fun hd => ?_) (fun hd => ?_)
    · have hd' : (60 : Int) < Es.len (Es.at_ c.units (k : Int)).name := by simpa [Es.len, ByteArray.size] using hd
      rw [show fewC c n = false by
        unfold fewC
        rw [Es.allN_bad (p := fun j : Nat => !decide (60 < Es.len (Es.at_ c.units (j : Int)).name)) hlt' (by simp [hd'])]
        split <;> simp]
    · have hd' : ¬ (60 : Int) < Es.len (Es.at_ c.units (k : Int)).name := by simpa [Es.len, ByteArray.size] using hd
      refine ⟨hlt', ?_⟩
      simp only [go_sem, ↓reduceIte, reduceCtorEq, Nat.reduceEqDiff, Nat.reduceLT, Nat.reduceLeDiff, Nat.reduceAdd, Nat.reduceSub, Nat.reduceMul, Nat.reduceGT, Int.reduceNeg, Int.reduceToNat, a2, a1, a5]
      refine ⟨by rw [wrap_i64 _ (by omega) (by omega)]; simp, Es.upto_step (p := fun j : Nat => !decide (60 < Es.len (Es.at_ c.units (j : Int)).name)) hall (by simp [hd'])⟩
  · have hun := Es.allN_end (p := fun j : Nat => !decide (60 < Es.len (Es.at_ c.units (j : Int)).name)) (n := c.units.length) (by simp only [Es.len] at hlt; omega) hall
    refine awp_count0 c.clauses.length (fun e0 s0 k e s => (e 2 = e0 2 ∧ e 1 = e0 1) ∧ e 6 = .v (.int .i64 k) ∧ s = s0 ∧ ∀ j : Nat, j < k → (!decide (10 < Es.len (Es.at_ c.clauses (j : Int)).start)) = true) ⟨⟨rfl, rfl⟩, ?_, rfl, (by omega)⟩ ?_
    · simp only [go_sem, ↓reduceIte, reduceCtorEq, Nat.reduceEqDiff, Nat.reduceLT, Nat.reduceLeDiff, Nat.reduceAdd, Nat.reduceSub, Nat.reduceMul, Nat.reduceGT, Int.reduceNeg, Int.reduceToNat]; rfl
    rintro k2 e2 s2 hk2 ⟨⟨b2, b1⟩, b6, rfl, hall2⟩
    simp only [go_sem, ↓reduceIte, reduceCtorEq, Nat.reduceEqDiff, Nat.reduceLT, Nat.reduceLeDiff, Nat.reduceAdd, Nat.reduceSub, Nat.reduceMul, Nat.reduceGT, Int.reduceNeg, Int.reduceToNat] at b2 b1
    simp only [go_sem, ↓reduceIte, reduceCtorEq, Nat.reduceEqDiff, Nat.reduceLT, Nat.reduceLeDiff, Nat.reduceAdd, Nat.reduceSub, Nat.reduceMul, Nat.reduceGT, Int.reduceNeg, Int.reduceToNat, a2, a1] at b2 b1
    simp only [go_sem, ↓reduceIte, reduceCtorEq, Nat.reduceEqDiff, Nat.reduceLT, Nat.reduceLeDiff, Nat.reduceAdd, Nat.reduceSub, Nat.reduceMul, Nat.reduceGT, Int.reduceNeg, Int.reduceToNat, b2, b1, b6]
    have hfc := hf.clauses
    refine ite_cases (fun hlt2 => ?_) (fun hlt2 => ?_)
    · have hlt2' : k2 < c.clauses.length := Es.len_lt.1 hlt2
      refine ⟨⟨by omega, hlt2⟩, ?_⟩
      refine ite_cases (fun hd => ?_) (fun hd => ?_)
      · rw [show fewC c n = false by
          unfold fewC
          rw [Es.allN_bad (p := fun j : Nat => !decide (10 < Es.len (Es.at_ c.clauses (j : Int)).start)) hlt2' (by simpa using hd)]
          split <;> simp]
      · refine ⟨hlt2', ?_⟩
        simp only [go_sem, ↓reduceIte, reduceCtorEq, Nat.reduceEqDiff, Nat.reduceLT, Nat.reduceLeDiff, Nat.reduceAdd, Nat.reduceSub, Nat.reduceMul, Nat.reduceGT, Int.reduceNeg, Int.reduceToNat, b2, b1, b6]
        refine ⟨⟨a2.symm, a1.symm⟩, by rw [wrap_i64 _ (by omega) (by omega)]; simp, Es.upto_step (p := fun j : Nat => !decide (10 < Es.len (Es.at_ c.clauses (j : Int)).start)) hall2 (by simpa using hd)⟩
    · have hcl := Es.allN_end (p := fun j : Nat => !decide (10 < Es.len (Es.at_ c.clauses (j : Int)).start)) (n := c.clauses.length) (by simp only [Es.len] at hlt2; omega) hall2
      refine congrArg Value.bool ?_
      unfold fewC
      rw [hun, hcl, if_neg (by simp_all)]
      rfl
def badA (x : Es.Amend) : Bool := decide (1000000 < max x.day x.known) || decide (min x.day x.known < -1000000) || decide (12 < Es.len x.patch.clauses) || decide (10 < Es.len x.patch.new.start)
/-- Few of the reference of layer 25. -/
def fewL (l : List Es.Amend) (n : Int) : Bool := if decide (n < Es.len l) then false else Es.allN l.length fun i => !badA (Es.at_ l (i : Int))
theorem few25_spec (l : List Es.Amend) (n : Int) (hl : l.length ≤ 9223372036854775807) : APure M 62 [slD 22 amdC l, .v (.int .i64 n)] (.v (.bool (fewL l n))) := by
  refine pure_of gpu func62 rfl results62 ntmps62 (by simp) ⟨pu_slD pu_amdC _, .v _, trivial⟩ ?_
  intro b
  simp only [go_sem, ↓reduceIte, reduceCtorEq, Nat.reduceEqDiff, Nat.reduceLT, Nat.reduceLeDiff, Nat.reduceAdd, Nat.reduceSub, Nat.reduceMul, Nat.reduceGT, Int.reduceNeg, Int.reduceToNat]
  refine ite_cases (fun h0 => by unfold fewL; rw [if_pos (by simpa using h0)]) (fun h0 => ?_)
  refine awp_count0 l.length (fun e0 s0 k e s => (e 0 = e0 0 ∧ e 1 = e0 1) ∧ e 5 = .v (.int .i64 k) ∧ s = s0 ∧ ∀ j : Nat, j < k → (!badA (Es.at_ l (j : Int))) = true) ⟨⟨rfl, rfl⟩, ?_, rfl, (by omega)⟩ ?_
  · simp only [go_sem, ↓reduceIte, reduceCtorEq, Nat.reduceEqDiff, Nat.reduceLT, Nat.reduceLeDiff, Nat.reduceAdd, Nat.reduceSub, Nat.reduceMul, Nat.reduceGT, Int.reduceNeg, Int.reduceToNat]; rfl
  rintro k e s hk ⟨⟨a0, a1⟩, a5, rfl, hall⟩
  simp only [go_sem, ↓reduceIte, reduceCtorEq, Nat.reduceEqDiff, Nat.reduceLT, Nat.reduceLeDiff, Nat.reduceAdd, Nat.reduceSub, Nat.reduceMul, Nat.reduceGT, Int.reduceNeg, Int.reduceToNat] at a0 a1
  simp only [go_sem, ↓reduceIte, reduceCtorEq, Nat.reduceEqDiff, Nat.reduceLT, Nat.reduceLeDiff, Nat.reduceAdd, Nat.reduceSub, Nat.reduceMul, Nat.reduceGT, Int.reduceNeg, Int.reduceToNat, a0, a1, a5]
  refine ite_cases (fun hlt => ?_) (fun hlt => ?_)
  · have hlt' : k < l.length := Es.len_lt.1 hlt
    refine awp_plan ((.op 0 (.op 1 (.op 2 (.op 3 (.op 4 (.op 5 (.op 6 (.op 7 (.op 8 (.op 9 (.op 10 (.op 11 (.op 12 (.op 13 (.op 14 (.op 15 (.op 16 (.op 17 (.op 18 (.op 19 (.op 20 (.op 21 (.op 22 (.op 23 (.op 24 (.op 25 (.op 26 (.op 27 (.op 28 (.op 29 (.op 30 (.op 31 (.op 32 (.op 33 (.op 34 (.op 35 (.op 36 (.op 37 (.op 38 (.op 39 (.op 40 (.op 41 (.op 42 (.op 43 (.op 44 (.op 45 (.op 46 .done)))))))))))))))))))))))))))))))))))))))))))))))) [] mix (by kernel_rfl) ?_
    simp only [go_sem, ↓reduceIte, reduceCtorEq, Nat.reduceEqDiff, Nat.reduceLT, Nat.reduceLeDiff, Nat.reduceAdd, Nat.reduceSub, Nat.reduceMul, Nat.reduceGT, Int.reduceNeg, Int.reduceToNat, a0, a1, a5]
    have hbad : badA (Es.at_ l (k : Int)) = true → fewL l n = false := fun h => by
      unfold fewL
      rw [Es.allN_bad (p := fun j : Nat => !badA (Es.at_ l (j : Int))) hlt' (by simp [h])]
      split <;> rfl
    repeat' (first | (with_reducible refine And.intro ?_ ?_) | ((with_reducible refine ite_cases ?_ ?_) <;> intro _))
    all_goals first
      | exact hlt
      | omega
      | (rw [hbad (by unfold badA; simp_all)]; done)
      | (rw [hbad (by unfold badA; simp_all <;> omega)]; done)
      | skip
    refine ⟨hlt', ?_⟩
    simp only [go_sem, ↓reduceIte, reduceCtorEq, Nat.reduceEqDiff, Nat.reduceLT, Nat.reduceLeDiff, Nat.reduceAdd, Nat.reduceSub, Nat.reduceMul, Nat.reduceGT, Int.reduceNeg, Int.reduceToNat, a0, a1, a5]
    refine ⟨by rw [wrap_i64 _ (by omega) (by omega)]; simp, Es.upto_step (p := fun j : Nat => !badA (Es.at_ l (j : Int))) hall (by unfold badA; simp_all)⟩
  · unfold fewL
    rw [if_neg (by simpa using h0), Es.allN_end (by simp only [Es.len] at hlt; omega) hall]
theorem same13_spec (a c : Es.Contract) (hf : Es.Fits a) (hs : ∀ x ∈ a.clauses, x.start.length ≤ 9223372036854775807) : APure M 33 [conD a, conD c] (.v (.bool (Es.sameC a c))) := by
  refine pure_of gpu func33 rfl results33 ntmps33 (by simp) ⟨pu_conD _, pu_conD _, trivial⟩ ?_
  intro b
  simp only [go_sem, ↓reduceIte, reduceCtorEq, Nat.reduceEqDiff, Nat.reduceLT, Nat.reduceLeDiff, Nat.reduceAdd, Nat.reduceSub, Nat.reduceMul, Nat.reduceGT, Int.reduceNeg, Int.reduceToNat]
  repeat' (first | ((with_reducible refine call_at M_P M_G (ints13_spec a.holders c.holders hf.holders) ?_); simp only [go_sem, ↓reduceIte, reduceCtorEq, Nat.reduceEqDiff, Nat.reduceLT, Nat.reduceLeDiff, Nat.reduceAdd, Nat.reduceSub, Nat.reduceMul, Nat.reduceGT, Int.reduceNeg, Int.reduceToNat]) | ((with_reducible refine call_at M_P M_G (ints13_spec a.off c.off hf.off) ?_); simp only [go_sem, ↓reduceIte, reduceCtorEq, Nat.reduceEqDiff, Nat.reduceLT, Nat.reduceLeDiff, Nat.reduceAdd, Nat.reduceSub, Nat.reduceMul, Nat.reduceGT, Int.reduceNeg, Int.reduceToNat]) | (with_reducible refine And.intro ?_ ?_) | ((with_reducible refine ite_cases ?_ ?_) <;> intro _))
  all_goals first
    | (rw [show Es.sameC a c = false by unfold Es.sameC; simp_all [Es.eqL]]; done)
    | skip
  have hlu : a.units.length = c.units.length := by
    have h : (Es.len a.units != Es.len c.units) = false := by assumption
    simp [Es.len] at h; omega
  have hla : a.acts.length = c.acts.length := by
    have h : (Es.len a.acts != Es.len c.acts) = false := by assumption
    simp [Es.len] at h; omega
  have hlc : a.clauses.length = c.clauses.length := by
    have h : ¬ (Es.len a.clauses != Es.len c.clauses) = true := by assumption
    simp [Es.len] at h; omega
  have hfu := hf.units
  have hfa := hf.acts
  have hfc := hf.clauses
  refine awp_count0 a.units.length (fun e0 s0 k e s => (e 2 = e0 2 ∧ e 3 = e0 3) ∧ e 5 = .v (.int .i64 k) ∧ s = s0 ∧ ∀ j : Nat, j < k → Es.eqUnt (Es.at_ a.units j) (Es.at_ c.units j) = true) ⟨⟨rfl, rfl⟩, ?_, rfl, (by omega)⟩ ?_
  · simp only [go_sem, ↓reduceIte, reduceCtorEq, Nat.reduceEqDiff, Nat.reduceLT, Nat.reduceLeDiff, Nat.reduceAdd, Nat.reduceSub, Nat.reduceMul, Nat.reduceGT, Int.reduceNeg, Int.reduceToNat]; rfl
  rintro k e s hk ⟨⟨a2, a3⟩, a5, rfl, hall⟩
  simp only [go_sem, ↓reduceIte, reduceCtorEq, Nat.reduceEqDiff, Nat.reduceLT, Nat.reduceLeDiff, Nat.reduceAdd, Nat.reduceSub, Nat.reduceMul, Nat.reduceGT, Int.reduceNeg, Int.reduceToNat] at a2 a3
  simp only [go_sem, ↓reduceIte, reduceCtorEq, Nat.reduceEqDiff, Nat.reduceLT, Nat.reduceLeDiff, Nat.reduceAdd, Nat.reduceSub, Nat.reduceMul, Nat.reduceGT, Int.reduceNeg, Int.reduceToNat, a2, a3, a5]
  refine ite_cases (fun hlt => ?_) (fun hlt => ?_)
  · have hlt' : k < a.units.length := Es.len_lt.1 hlt
    refine awp_plan ((.op 0 (.op 1 (.op 2 (.op 3 (.op 4 (.op 5 (.op 6 (.op 7 (.op 8 (.op 9 (.op 10 .done)))))))))))) [] mix (by kernel_rfl) ?_
    simp only [go_sem, ↓reduceIte, reduceCtorEq, Nat.reduceEqDiff, Nat.reduceLT, Nat.reduceLeDiff, Nat.reduceAdd, Nat.reduceSub, Nat.reduceMul, Nat.reduceGT, Int.reduceNeg, Int.reduceToNat, a2, a3, a5]
    refine ⟨⟨by omega, hlt⟩, ⟨by omega, by simp only [Es.len] at hlt ⊢; omega⟩, ?_⟩
    refine ite_cases (fun hd => ?_) (fun hd => ?_)
    · have hb : Es.eqUnt (Es.at_ a.units (k : Int)) (Es.at_ c.units (k : Int)) = false := by
        rw [Bool.eq_false_iff]
        intro h
        unfold Es.eqUnt at h
        rw [Es.ratio_beq] at h
        simp only [Bool.and_eq_true, beq_iff_eq] at h
        obtain ⟨h, h1, h2⟩ := h
        simp [ByteArray.toList_mk, h, h1, h2] at hd
      rw [show Es.sameC a c = false by unfold Es.sameC; rw [Es.eqL_bad hlt' hb]; simp]
    · have hb : Es.eqUnt (Es.at_ a.units (k : Int)) (Es.at_ c.units (k : Int)) = true := by
        unfold Es.eqUnt
        rw [Es.ratio_beq]
        simpa [Bool.and_assoc, and_assoc, ByteArray.toList_mk] using hd
      refine ⟨hlt', ?_⟩
      simp only [go_sem, ↓reduceIte, reduceCtorEq, Nat.reduceEqDiff, Nat.reduceLT, Nat.reduceLeDiff, Nat.reduceAdd, Nat.reduceSub, Nat.reduceMul, Nat.reduceGT, Int.reduceNeg, Int.reduceToNat, a2, a3, a5]
      refine ⟨by rw [wrap_i64 _ (by omega) (by omega)]; simp, Es.upto_step (p := fun j : Nat => Es.eqUnt (Es.at_ a.units j) (Es.at_ c.units j)) hall hb⟩
  have hU : Es.eqL Es.eqUnt a.units c.units = true := Es.eqL_end hlu (by simp only [Es.len] at hlt; omega) hall
  refine awp_count0 a.acts.length (fun e0 s0 k e s => (e 2 = e0 2 ∧ e 3 = e0 3) ∧ e 6 = .v (.int .i64 k) ∧ s = s0 ∧ ∀ j : Nat, j < k → Es.eqAct (Es.at_ a.acts j) (Es.at_ c.acts j) = true) ⟨⟨rfl, rfl⟩, ?_, rfl, (by omega)⟩ ?_
  · simp only [go_sem, ↓reduceIte, reduceCtorEq, Nat.reduceEqDiff, Nat.reduceLT, Nat.reduceLeDiff, Nat.reduceAdd, Nat.reduceSub, Nat.reduceMul, Nat.reduceGT, Int.reduceNeg, Int.reduceToNat]; rfl
  rintro k2 e2 s2 hk2 ⟨⟨b2, b3⟩, b6, rfl, hall2⟩
  simp only [go_sem, ↓reduceIte, reduceCtorEq, Nat.reduceEqDiff, Nat.reduceLT, Nat.reduceLeDiff, Nat.reduceAdd, Nat.reduceSub, Nat.reduceMul, Nat.reduceGT, Int.reduceNeg, Int.reduceToNat] at b2 b3
  rw [a2] at b2
  rw [a3] at b3
  simp only [go_sem, ↓reduceIte, reduceCtorEq, Nat.reduceEqDiff, Nat.reduceLT, Nat.reduceLeDiff, Nat.reduceAdd, Nat.reduceSub, Nat.reduceMul, Nat.reduceGT, Int.reduceNeg, Int.reduceToNat, b2, b3, b6]
  refine ite_cases (fun hlt2 => ?_) (fun hlt2 => ?_)
  · have hlt2' : k2 < a.acts.length := Es.len_lt.1 hlt2
    refine awp_plan ((.op 0 (.op 1 (.op 2 (.op 3 (.op 4 (.op 5 (.op 6 (.op 7 (.op 8 (.op 9 (.op 10 .done)))))))))))) [] mix (by kernel_rfl) ?_
    simp only [go_sem, ↓reduceIte, reduceCtorEq, Nat.reduceEqDiff, Nat.reduceLT, Nat.reduceLeDiff, Nat.reduceAdd, Nat.reduceSub, Nat.reduceMul, Nat.reduceGT, Int.reduceNeg, Int.reduceToNat, b2, b3, b6]
    refine ⟨⟨by omega, hlt2⟩, ⟨by omega, by simp only [Es.len] at hlt2 ⊢; omega⟩, ?_⟩
    refine ite_cases (fun hd => ?_) (fun hd => ?_)
    · have hb : Es.eqAct (Es.at_ a.acts (k2 : Int)) (Es.at_ c.acts (k2 : Int)) = false := by
        rw [Bool.eq_false_iff]
        intro h
        unfold Es.eqAct at h
        rw [Es.ratio_beq] at h
        simp only [Bool.and_eq_true, beq_iff_eq] at h
        obtain ⟨h, h1, h2⟩ := h
        simp [ByteArray.toList_mk, h, h1, h2] at hd
      rw [show Es.sameC a c = false by unfold Es.sameC; rw [Es.eqL_bad hlt2' hb]; simp]
    · have hb : Es.eqAct (Es.at_ a.acts (k2 : Int)) (Es.at_ c.acts (k2 : Int)) = true := by
        unfold Es.eqAct
        rw [Es.ratio_beq]
        simpa [Bool.and_assoc, and_assoc, ByteArray.toList_mk] using hd
      refine ⟨hlt2', ?_⟩
      simp only [go_sem, ↓reduceIte, reduceCtorEq, Nat.reduceEqDiff, Nat.reduceLT, Nat.reduceLeDiff, Nat.reduceAdd, Nat.reduceSub, Nat.reduceMul, Nat.reduceGT, Int.reduceNeg, Int.reduceToNat, b2, b3, b6]
      refine ⟨⟨a2.symm, a3.symm⟩, by rw [wrap_i64 _ (by omega) (by omega)]; simp, Es.upto_step (p := fun j : Nat => Es.eqAct (Es.at_ a.acts j) (Es.at_ c.acts j)) hall2 hb⟩
  have hA : Es.eqL Es.eqAct a.acts c.acts = true := Es.eqL_end hla (by simp only [Es.len] at hlt2; omega) hall2
  refine awp_count0 a.clauses.length (fun e0 s0 k e s => (e 2 = e0 2 ∧ e 3 = e0 3) ∧ e 7 = .v (.int .i64 k) ∧ s = s0 ∧ ∀ j : Nat, j < k → Es.eqClause (Es.at_ a.clauses j) (Es.at_ c.clauses j) = true) ⟨⟨rfl, rfl⟩, ?_, rfl, (by omega)⟩ ?_
  · simp only [go_sem, ↓reduceIte, reduceCtorEq, Nat.reduceEqDiff, Nat.reduceLT, Nat.reduceLeDiff, Nat.reduceAdd, Nat.reduceSub, Nat.reduceMul, Nat.reduceGT, Int.reduceNeg, Int.reduceToNat]; rfl
  rintro k3 e3 s3 hk3 ⟨⟨c2, c3⟩, c7, rfl, hall3⟩
  simp only [go_sem, ↓reduceIte, reduceCtorEq, Nat.reduceEqDiff, Nat.reduceLT, Nat.reduceLeDiff, Nat.reduceAdd, Nat.reduceSub, Nat.reduceMul, Nat.reduceGT, Int.reduceNeg, Int.reduceToNat] at c2 c3
  rw [b2] at c2
  rw [b3] at c3
  simp only [go_sem, ↓reduceIte, reduceCtorEq, Nat.reduceEqDiff, Nat.reduceLT, Nat.reduceLeDiff, Nat.reduceAdd, Nat.reduceSub, Nat.reduceMul, Nat.reduceGT, Int.reduceNeg, Int.reduceToNat, c2, c3, c7]
  refine ite_cases (fun hlt3 => ?_) (fun hlt3 => ?_)
  · have hlt3' : k3 < a.clauses.length := Es.len_lt.1 hlt3
    refine awp_plan ((.op 0 (.op 1 (.op 2 (.op 3 (.op 4 (.op 5 (.op 6 (.op 7 (.op 8 (.op 9 (.op 10 (.op 11 .done))))))))))))) [] mix (by kernel_rfl) ?_
    simp only [go_sem, ↓reduceIte, reduceCtorEq, Nat.reduceEqDiff, Nat.reduceLT, Nat.reduceLeDiff, Nat.reduceAdd, Nat.reduceSub, Nat.reduceMul, Nat.reduceGT, Int.reduceNeg, Int.reduceToNat, c2, c3, c7]
    refine ⟨⟨by omega, hlt3⟩, ⟨by omega, by simp only [Es.len] at hlt3 ⊢; omega⟩, ?_⟩
    refine call_at M_P M_G (clauses13_spec (Es.at_ a.clauses (k3 : Int)) (Es.at_ c.clauses (k3 : Int)) (hs _ (Es.at_mem hlt3'))) ?_
    simp only [go_sem, ↓reduceIte, reduceCtorEq, Nat.reduceEqDiff, Nat.reduceLT, Nat.reduceLeDiff, Nat.reduceAdd, Nat.reduceSub, Nat.reduceMul, Nat.reduceGT, Int.reduceNeg, Int.reduceToNat, c2, c3, c7]
    refine ite_cases (fun hd => ?_) (fun hd => ?_)
    · rw [show Es.sameC a c = false by unfold Es.sameC; rw [Es.eqL_bad hlt3' (by simpa using hd)]; simp]
    · refine ⟨hlt3', ?_⟩
      simp only [go_sem, ↓reduceIte, reduceCtorEq, Nat.reduceEqDiff, Nat.reduceLT, Nat.reduceLeDiff, Nat.reduceAdd, Nat.reduceSub, Nat.reduceMul, Nat.reduceGT, Int.reduceNeg, Int.reduceToNat, c2, c3, c7]
      refine ⟨⟨b2.symm, b3.symm⟩, by rw [wrap_i64 _ (by omega) (by omega)]; simp, Es.upto_step (p := fun j : Nat => Es.eqClause (Es.at_ a.clauses j) (Es.at_ c.clauses j)) hall3 (by simpa using hd)⟩
  have hC : Es.eqL Es.eqClause a.clauses c.clauses = true := Es.eqL_end hlc (by simp only [Es.len] at hlt3; omega) hall3
  refine congrArg Value.bool ?_
  unfold Es.sameC
  rw [hU, hA, hC]
  simp_all
end Tryd
end Go.Proofs
end
section
namespace Go.Abs
open Go
theorem awp_weak1 {M : Ctx} {x : Code} {Q : Exit → Env → S → Prop} {e : Env} {s : S} {t : Nat} {d' : D} (hw : ∀ (c : Cfg) (v : Value), c.Rep (e t) v → c.Rep d' v) (h : AWp M x Q (upd e t d') s) : AWp M x Q e s := by
  intro cf a m hE hok
  refine h cf a m ⟨hE.defers, hE.size, fun u => ?_, hE.glob⟩ hok
  show cf.Rep (if u = t then d' else e u) _
  by_cases hu : u = t
  · subst hu; rw [if_pos rfl]; exact hw _ _ (hE.slot u)
  · rw [if_neg hu]; exact hE.slot u
/-- A list that the code has made is frozen: from here on it is like one that was handed in. -/
theorem awp_out {α : Type} [Inhabited α] {f : α → Nat → D} {w n0 : Nat} {ty : TypeId} {L : List α} {M : Ctx} {x : Code} {Q : Exit → Env → S → Prop} {e : Env} {o : St} {nx t : Nat} (hO : OutL f w ty n0 ⟨o, nx⟩ (e t) L) (h : ∀ o' : St, (∀ g i, g < n0 → o' g i = o g i) → AWp M x Q (upd e t (slD w f L)) ⟨o', nx⟩) : AWp M x Q e ⟨o, nx⟩ := by
  rcases hO with ⟨rfl, hd⟩ | ⟨g, cell, hd, h2, h3, h4, h5⟩
  · exact awp_weak1 (d' := slD w f []) (by rw [hd]; exact wk_nil _ _) (h o fun _ _ _ => rfl)
  · exact awp_freeze hd h4 h5 (h (St.set o g 0 none) fun g' i hg => by simp only [St.set]; rw [if_neg (by omega)])
/-- What can be told of a value otherwise. -/
def Wkd (d d' : D) : Prop := ∀ (K : Nat → Prop) (β : Pl) (W : World) (v : Value), Rep K β W d v → Rep K β W d' v
theorem Wkd.refl (d : D) : Wkd d d := fun _ _ _ _ h => h
theorem Wkd.nil (k : Nat) (row : Nat → Nat → D) : Wkd (.v (.slice none 0 0)) (.sl k 0 row) := fun _ _ _ _ h => by cases h; exact .slnil k row
theorem cells_weak {s : S} {f k n : Nat} {ty : TypeId} {cell cell' : Nat → Nat → D} (hB : s.o f 0 = some (.blk k n ty cell)) (hc : ∀ r c, r < n → c < k → Wkd (cell r c) (cell' r c)) (cf : Cfg) (h : cf.Ok s) : cf.Ok (s.put f 0 (.blk k n ty cell')) where
  kb := h.kb
  βb := h.βb
  fresh := h.fresh
  obj f1 i1 B1 hB1 := by
    change (if f1 = f ∧ i1 = 0 then some (SObj.blk k n ty cell') else s.o f1 i1) = some B1 at hB1
    split at hB1
    · rename_i hh
      obtain ⟨rfl, rfl⟩ := hh
      cases hB1
      obtain ⟨h1, h2⟩ := h.obj _ _ _ hB
      refine ⟨h1, ?_⟩
      rcases h2 with ⟨b, cp, g1, g2, g3, arr, g4, g5, g6⟩ | ⟨g1, g2⟩
      · exact .inl ⟨b, cp, g1, g2, g3, arr, g4, g5, fun r c hr hc' => ⟨(g6 r c hr hc').1, hc r c hr hc' _ _ _ _ (g6 r c hr hc').2⟩⟩
      · exact .inr ⟨g1, g2⟩
    · exact h.obj f1 i1 B1 hB1
  inj f1 i1 f2 i2 B1 B2 b cp1 cp2 h1 h2 h3 h4 := by
    have hl : ∀ f' i' B0, St.set s.o f 0 (some (.blk k n ty cell')) f' i' = some B0 → ∃ B1, s.o f' i' = some B1 := by
      intro f' i' B0 hh
      change (if f' = f ∧ i' = 0 then some (SObj.blk k n ty cell') else s.o f' i') = some B0 at hh
      split at hh
      · rename_i e; obtain ⟨rfl, rfl⟩ := e; exact ⟨_, hB⟩
      · exact ⟨B0, hh⟩
    obtain ⟨B3, h5⟩ := hl _ _ _ h1
    obtain ⟨B4, h6⟩ := hl _ _ _ h2
    exact h.inj _ _ _ _ _ _ _ _ _ h5 h6 h3 h4
theorem awp_cellsW {M : Ctx} {x : Code} {Q : Exit → Env → S → Prop} {e : Env} {o : St} {nx f k n : Nat} {ty : TypeId} {cell cell' : Nat → Nat → D} (hB : o f 0 = some (.blk k n ty cell)) (hc : ∀ r c, r < n → c < k → Wkd (cell r c) (cell' r c))
    (h : AWp M x Q e ⟨St.set o f 0 (some (.blk k n ty cell')), nx⟩) : AWp M x Q e ⟨o, nx⟩ :=
  fun cf a m hE hok => h cf a m hE (cells_weak (s := ⟨o, nx⟩) hB hc cf hok)
theorem acall_cellsW {M : Ctx} {g : FuncId} {args : List D} {K : D → S → Prop} {o : St} {nx f k n : Nat} {ty : TypeId} {cell cell' : Nat → Nat → D} (hB : o f 0 = some (.blk k n ty cell)) (hc : ∀ r c, r < n → c < k → Wkd (cell r c) (cell' r c))
    (h : ACall M g args ⟨St.set o f 0 (some (.blk k n ty cell')), nx⟩ K) : ACall M g args ⟨o, nx⟩ K :=
  fun cf vals hok hg hl hr => h cf vals (cells_weak (s := ⟨o, nx⟩) hB hc cf hok) hg hl hr
end Go.Abs
end
section
namespace Es
/-- What the head of the statements on versions looks at. -/
def exCl : Clause := ⟨3, 0, 0, 1, [], 3, 0, false, false, -1, -1, ⟨0, 1⟩, -1, -1, false⟩
def exC : Contract := ⟨1, [0], [], [⟨1, 0, 0, -1, -1, ⟨0, 1⟩⟩], [exCl, exCl], 9, []⟩
def zeCl : Clause := ⟨0, 0, 0, 0, [], 0, 0, false, false, 0, 0, ⟨0, 0⟩, 0, 0, false⟩
def waive (i : Int) : Patch := ⟨3, [i], zeCl, 0⟩
def exL : List Amend := [⟨7, 5, 2, waive 0⟩, ⟨3, 5, 4, ⟨1, [], exCl, 0⟩⟩, ⟨9, 1, 0, waive 2⟩]
def zeL : List Amend := List.replicate 61 ⟨0, 0, 0, ⟨0, [], zeCl, 0⟩⟩
theorem exC_fits : Fits exC := ⟨by decide, by decide, by decide, by decide, by decide⟩
def exW : Clause := { exCl with waived := true }
def exA : Contract := { exC with clauses := [exW, exCl, exCl] }
def exB : Contract := { exC with clauses := [exW, exCl] }
theorem head_1 : inForce exC exL 5 4 = (exA, [3, 7], 0) := by rfl
theorem head_2 : inForce exC exL 5 2 = (exB, [7], 0) := by rfl
theorem head_3 : daysA exC exL 9 = ([5], 0) := by rfl
theorem head_4 : checkA exC zeL = 3 := by rfl
theorem head_5 : orderA exL = [2, 1, 0] := by rfl
end Es
namespace Go.Proofs
open Go Go.Abs
set_option linter.unusedSimpArgs false
set_option linter.unusedVariables false
set_option maxRecDepth 10000
namespace Tryd
theorem inForceBad_spec (c : Es.Contract) (l : List Es.Amend) (day known : Int) (hf : Es.Fits c) (hne : ¬ Es.checkA c l = 0) : APure M 31 [conD c, slD 22 amdC l, .v (.int .i64 day), .v (.int .i64 known)] (resF (Es.inForce c l day known)) := by
  refine pure_of gpu func31 rfl results31 ntmps31 (by simp) ⟨pu_conD _, pu_slD pu_amdC _, .v _, .v _, trivial⟩ ?_
  intro b
  simp only [go_sem, ↓reduceIte, reduceCtorEq, Nat.reduceEqDiff, Nat.reduceLT, Nat.reduceLeDiff, Nat.reduceAdd, Nat.reduceSub, Nat.reduceMul, Nat.reduceGT, Int.reduceNeg, Int.reduceToNat]
  repeat' (first | ((with_reducible refine call_at M_P M_G (check_spec c l hf) ?_); simp only [go_sem, ↓reduceIte, reduceCtorEq, Nat.reduceEqDiff, Nat.reduceLT, Nat.reduceLeDiff, Nat.reduceAdd, Nat.reduceSub, Nat.reduceMul, Nat.reduceGT, Int.reduceNeg, Int.reduceToNat]) | (with_reducible refine And.intro ?_ ?_) | ((with_reducible refine ite_cases ?_ ?_) <;> intro _))
  · rw [Es.inForce_bad (by simp_all)]
    exact Fz_tup ⟨fz_zeroC _, .nil _ _, .v _, trivial⟩
  all_goals simp_all
theorem small25_spec (c : Es.Contract) (l : List Es.Amend) (hf : Es.Fits c) (hl : l.length ≤ 9223372036854775807) : APure M 30 [conD c, slD 22 amdC l] (.v (.bool (fewC c 8 && fewL l 12))) := by
  refine pure_of gpu func30 rfl results30 ntmps30 (by simp) ⟨pu_conD _, pu_slD pu_amdC _, trivial⟩ ?_
  intro b
  simp only [go_sem, ↓reduceIte, reduceCtorEq, Nat.reduceEqDiff, Nat.reduceLT, Nat.reduceLeDiff, Nat.reduceAdd, Nat.reduceSub, Nat.reduceMul, Nat.reduceGT, Int.reduceNeg, Int.reduceToNat]
  repeat' (first | ((with_reducible refine call_at M_P M_G (few13_spec c 8 hf) ?_); simp only [go_sem, ↓reduceIte, reduceCtorEq, Nat.reduceEqDiff, Nat.reduceLT, Nat.reduceLeDiff, Nat.reduceAdd, Nat.reduceSub, Nat.reduceMul, Nat.reduceGT, Int.reduceNeg, Int.reduceToNat]) | ((with_reducible refine call_at M_P M_G (few25_spec l 12 hl) ?_); simp only [go_sem, ↓reduceIte, reduceCtorEq, Nat.reduceEqDiff, Nat.reduceLT, Nat.reduceLeDiff, Nat.reduceAdd, Nat.reduceSub, Nat.reduceMul, Nat.reduceGT, Int.reduceNeg, Int.reduceToNat]) | (with_reducible refine And.intro ?_ ?_) | ((with_reducible refine ite_cases ?_ ?_) <;> intro _))
  all_goals simp_all
theorem fewL_len {l : List Es.Amend} {n : Nat} (h : fewL l n = true) : l.length ≤ n := by
  unfold fewL at h
  split at h
  · cases h
  · rename_i h'; simp [Es.len] at h'; exact h'
theorem clause25_spec : APure M 59 [] (clsD Es.exCl) := by
  refine pure_of gpu func59 rfl results59 ntmps59 (by simp) trivial ?_
  intro b
  simp only [go_sem, ↓reduceIte, reduceCtorEq, Nat.reduceEqDiff, Nat.reduceLT, Nat.reduceLeDiff, Nat.reduceAdd, Nat.reduceSub, Nat.reduceMul, Nat.reduceGT, Int.reduceNeg, Int.reduceToNat]
  refine Fz_agg ⟨.v _, .v _, .v _, .v _, .nil _ _, .v _, .v _, .v _, .v _, .v _, .v _, .v _, .v _, .v _, .v _, .v _, trivial⟩
theorem waive_spec (i : Int) : APure M 58 [.v (.int .i64 i)] (patD (Es.waive i)) := by
  refine pure_of gpu func58 rfl results58 ntmps58 (by simp) ⟨.v _, trivial⟩ ?_
  intro b
  simp only [go_sem, ↓reduceIte, reduceCtorEq, Nat.reduceEqDiff, Nat.reduceLT, Nat.reduceLeDiff, Nat.reduceAdd, Nat.reduceSub, Nat.reduceMul, Nat.reduceGT, Int.reduceNeg, Int.reduceToNat]
  refine Fz_agg ⟨.v _, .ms _ _ _ _ _ _ _ _ _ rfl (by decide) ?_, .v _, .v _, .v _, .v _, .nil _ _, .v _, .v _, .v _, .v _, .v _, .v _, .v _, .v _, .v _, .v _, .v _, .v _, trivial⟩
  intro r j hr hj
  obtain rfl : r = 0 := by omega
  obtain rfl : j = 0 := by omega
  exact .v _
theorem example_spec : APure M 57 [] (conD Es.exC) := by
  refine pure_of gpu func57 rfl results57 ntmps57 (by simp) trivial ?_
  intro b
  simp only [go_sem, ↓reduceIte, reduceCtorEq, Nat.reduceEqDiff, Nat.reduceLT, Nat.reduceLeDiff, Nat.reduceAdd, Nat.reduceSub, Nat.reduceMul, Nat.reduceGT, Int.reduceNeg, Int.reduceToNat]
  repeat' (first | ((with_reducible refine call_at M_P M_G (clause25_spec) ?_); simp only [go_sem, ↓reduceIte, reduceCtorEq, Nat.reduceEqDiff, Nat.reduceLT, Nat.reduceLeDiff, Nat.reduceAdd, Nat.reduceSub, Nat.reduceMul, Nat.reduceGT, Int.reduceNeg, Int.reduceToNat]) | (with_reducible refine And.intro ?_ ?_) | ((with_reducible refine ite_cases ?_ ?_) <;> intro _))
  refine Fz_agg ⟨.v _, .ms _ _ _ _ _ _ _ _ _ rfl (by decide) ?_, .nil _ _, .ms _ _ _ _ _ _ _ _ _ rfl (by decide) ?_, .ms _ _ _ _ _ _ _ _ _ rfl (by decide) ?_, .v _, .nil _ _, trivial⟩
  · intro r j hr hj
    obtain rfl : r = 0 := by omega
    obtain rfl : j = 0 := by omega
    exact .v _
  · intro r j hr hj
    obtain rfl : r = 0 := by omega
    rcases (show j = 0 ∨ j = 1 ∨ j = 2 ∨ j = 3 ∨ j = 4 ∨ j = 5 ∨ j = 6 by omega) with rfl | rfl | rfl | rfl | rfl | rfl | rfl <;> exact .v _
  · intro r j hr hj
    have hr : r = 0 ∨ r = 1 := by omega
    rcases hr with rfl | rfl <;> (rcases (show j = 0 ∨ j = 1 ∨ j = 2 ∨ j = 3 ∨ j = 4 ∨ j = 5 ∨ j = 6 ∨ j = 7 ∨ j = 8 ∨ j = 9 ∨ j = 10 ∨ j = 11 ∨ j = 12 ∨ j = 13 ∨ j = 14 ∨ j = 15 by omega) with rfl | rfl | rfl | rfl | rfl | rfl | rfl | rfl | rfl | rfl | rfl | rfl | rfl | rfl | rfl | rfl <;> first | exact .v _ | exact (pu_slD pu_condC _).fz)
/-- Nothing of a list that is empty lies anywhere. -/
theorem mov_nil {k : Nat} {row : Nat → Nat → D} {K K' : Nat → Prop} {β β' : Pl} {W W' : World} {v : Value} (h : Rep K β W (.sl k 0 row) v) : Rep K' β' W' (.sl k 0 row) v := by
  cases h with
  | sl _ _ _ b off cap g hb hc hg ho hr => exact .sl0 k row _ cap
  | slnil => exact .slnil k row
  | sl0 _ _ a cap => exact .sl0 k row a cap
theorem mov_v {x : Value} {K K' : Nat → Prop} {β β' : Pl} {W W' : World} {v : Value} (h : Rep K β W (.v x) v) : Rep K' β' W' (.v x) v := by
  cases h; exact .v x
theorem lendM {M M' : Ctx} {f : FuncId} {args args' : List D} {d : D} {s : S} {K : D → S → Prop} (h : APure M f args' d) (hgp : ∀ g x, M.G g = some x → Pu x) (hP : M'.P = M.P) (hG : M'.G = M.G) (hd : ∀ {K K' : Nat → Prop} {β β' : Pl} {W W' : World} {v : Value}, Rep K β W d v → Rep K' β' W' d v) (hz : FzL s args args') (hk : K d s) : ACall M' f args s K := by
  intro c vals hok hglob hlen hrep
  have hfs : ∀ b, c.K b → frozenK c s b := fun b hb => .inl hb
  have hok0 : Cfg.Ok ⟨frozenK c s, fun _ _ => none, c.W⟩ S0 := ⟨by
    rintro b (hb | ⟨f, i, B, cp, _, hβ⟩)
    · exact hok.kb b hb
    · exact hok.βb f i b cp hβ, fun _ _ _ _ h => (by cases h), fun _ _ _ => rfl, fun _ _ _ h => (by cases h), fun _ _ _ _ _ _ _ _ _ h => (by cases h)⟩
  have hg0 : GlobOk { M with X := fun _ _ => False } ⟨frozenK c s, fun _ _ => none, c.W⟩ :=
    ⟨fun g x hx => ((hglob.g g x (hG ▸ hx)).pure (hgp g x hx)).mono hfs (fun _ _ _ h => h) (fun _ _ => rfl), fun _ _ h => h.elim⟩
  have hcall := h { M with X := fun _ _ => False } rfl rfl S0 (fun d' _ => d' = d) rfl ⟨frozenK c s, fun _ _ => none, c.W⟩ vals hok0 hg0 (by rw [hlen, hz.len]) (fun i x hx => by
    have hi : i < args.length := by
      rw [hz.len]
      rcases Nat.lt_or_ge i args'.length with h | h
      · exact h
      · rw [List.getElem?_eq_none h] at hx; cases hx
    exact fz_rep hok (hz.get i _ x (List.getElem?_eq_getElem hi) hx) (hrep i _ (List.getElem?_eq_getElem hi)))
  rw [hP]
  refine hcall.mono ?_
  rintro x W' ⟨c', v, d', s', rfl, rfl, h1, h2, h3, rfl⟩
  have hnone : ∀ b, (∀ f i cp, (fun _ _ => none : Pl) f i ≠ some (b, cp)) := fun b f i cp h => by cases h
  have hsame : ∀ b, b < c.W.heap.size → c'.W.heap[b]? = c.W.heap[b]? := fun b hb => h1.frame b hb (hnone b)
  have hext : Ext c ⟨c.K, c.β, c'.W⟩ := ⟨fun _ h => h, fun _ _ _ h => h, h1.size, h1.os, h1.tape, h1.output, fun b hb => hsame b (hok.kb b hb), fun b hb _ => hsame b hb, fun b hb => .inl hb, fun f i b cp hb => .inl ⟨f, i, cp, hb⟩⟩
  refine ⟨⟨c.K, c.β, c'.W⟩, v, d', s, rfl, rfl, hext, ⟨fun b hb => Nat.lt_of_lt_of_le (hok.kb b hb) h1.size, fun f i b cp hb => Nat.lt_of_lt_of_le (hok.βb f i b cp hb) h1.size, hok.fresh, ?_, hok.inj⟩, hd h3, hk⟩
  intro f i B hB
  obtain ⟨hlt, ho⟩ := hok.obj f i B hB
  refine ⟨hlt, ?_⟩
  rcases ho with ⟨b, cp, g1, g2, g3⟩ | ho
  · exact .inl ⟨b, cp, g1, g2, g3.mono (fun _ h => h) (fun _ _ _ h => h) hext.keep (hsame b (hok.βb f i b cp g1))⟩
  · exact .inr ho

def zeZ : List Value := [Value.int IntKind.i64 0, Value.int IntKind.i64 0, Value.int IntKind.i64 0, Value.int IntKind.i64 0, Value.slice none 0 0, Value.int IntKind.i64 0, Value.int IntKind.i64 0, Value.int IntKind.i64 0, Value.int IntKind.i64 0, Value.slice none 0 0, Value.int IntKind.i64 0, Value.int IntKind.i64 0, Value.bool false, Value.bool false, Value.int IntKind.i64 0, Value.int IntKind.i64 0, Value.int IntKind.i64 0, Value.int IntKind.i64 0, Value.int IntKind.i64 0, Value.int IntKind.i64 0, Value.bool false, Value.int IntKind.i64 0]
def limD : D := .tup [conD Es.zeroCon, slD 1 intC [], .v (.int .i64 3)]
theorem limD_eq : limD = .tup [conD Es.zeroCon, slD 1 intC [], .v (.int .i64 3)] := rfl
theorem limit_mov {K K' : Nat → Prop} {β β' : Pl} {W W' : World} {v : Value} (h : Rep K β W limD v) : Rep K' β' W' limD v := by
  rw [limD_eq] at h ⊢
  cases h with
  | tup _ xs hl hr =>
    refine .tup _ xs hl fun i d hd => ?_
    have h1 := hr i d hd
    generalize xs.getD i undef = w at h1 ⊢
    rcases i with _ | _ | _ | i
    · obtain rfl : conD Es.zeroCon = d := by simpa using hd
      rw [conD_eq] at h1 ⊢
      cases h1 with
      | agg _ ys hl' ho' hr' =>
        refine .agg _ ys hl' ho' fun i d hd => ?_
        have h2 := hr' i d hd
        generalize ys.getD i undef = w at h2 ⊢
        rcases i with _ | _ | _ | _ | _ | _ | _ | i
        · obtain rfl : _ = d := by simpa using hd
          exact mov_v h2
        · obtain rfl : _ = d := by simpa using hd
          exact mov_nil h2
        · obtain rfl : _ = d := by simpa using hd
          exact mov_nil h2
        · obtain rfl : _ = d := by simpa using hd
          exact mov_nil h2
        · obtain rfl : _ = d := by simpa using hd
          exact mov_nil h2
        · obtain rfl : _ = d := by simpa using hd
          exact mov_v h2
        · obtain rfl : _ = d := by simpa using hd
          exact mov_nil h2
        · simp at hd
    · obtain rfl : slD 1 intC [] = d := by simpa using hd
      exact mov_nil h1
    · obtain rfl : D.v (.int .i64 3) = d := by simpa using hd
      exact mov_v h1
    · simp at hd
theorem limit_call {X : D → Value → Prop} {N b : Nat} {r : Option Nat} {o : St} {nx f : Nat} {ty : TypeId} {K : D → S → Prop} (hB : o f 0 = some (.blk 22 61 ty (zeroRow zeZ))) (hk : K limD ⟨o, nx⟩) :
    ACall { P := prog, G := gl, X := X, N := N, r := r, b := b } 31 [conD Es.exC, .ms f 0 22 0 61, .v (.int .i64 0), .v (.int .i64 0)] ⟨o, nx⟩ K := by
  have h : resF (Es.inForce Es.exC Es.zeL 0 0) = limD := by
    rw [Es.inForce_bad (by rw [Es.head_4]; decide), Es.head_4]; rfl
  have hs := inForceBad_spec Es.exC Es.zeL 0 0 Es.exC_fits (by rw [Es.head_4]; decide)
  rw [h] at hs
  refine lendM hs gpu rfl rfl limit_mov ⟨(pu_conD _).fz, ?_, .v _, .v _, trivial⟩ hk
  refine .ms _ _ _ _ _ _ _ _ _ hB (by decide) fun r c hr hc => ?_
  have h : rowsOf amdC Es.zeL r c = amdC ⟨0, 0, 0, ⟨0, [], Es.zeCl, 0⟩⟩ c := by
    unfold rowsOf Es.zeL
    rw [List.getD_eq_getElem?_getD, List.getElem?_replicate, if_pos hr]
    rfl
  show Fz _ _ (rowsOf amdC Es.zeL r c)
  rw [h]
  rcases (show c = 0 ∨ c = 1 ∨ c = 2 ∨ c = 3 ∨ c = 4 ∨ c = 5 ∨ c = 6 ∨ c = 7 ∨ c = 8 ∨ c = 9 ∨ c = 10 ∨ c = 11 ∨ c = 12 ∨ c = 13 ∨ c = 14 ∨ c = 15 ∨ c = 16 ∨ c = 17 ∨ c = 18 ∨ c = 19 ∨ c = 20 ∨ c = 21 by omega) with rfl | rfl | rfl | rfl | rfl | rfl | rfl | rfl | rfl | rfl | rfl | rfl | rfl | rfl | rfl | rfl | rfl | rfl | rfl | rfl | rfl | rfl <;> first | exact .v _ | exact .nil _ _
theorem q1 : (([2, 1, 0] : List Int) == [2, 1, 0]) = true := rfl
theorem q2 : (([3, 7] : List Int) == [3, 7]) = true := rfl
theorem q3 : (([7] : List Int) == [7]) = true := rfl
theorem q4 : (([5] : List Int) == [5]) = true := rfl
theorem ints_own {X : D → Value → Prop} {N b n : Nat} {r : Option Nat} {o : St} {nx f : Nat} {ty : TypeId} {K : D → S → Prop} {cell : Nat → Nat → D} (L L' : List Int) (hl : L.length ≤ 9223372036854775807) (hB : o f 0 = some (.blk 1 n ty cell)) (hn : n = L'.length) (hc : ∀ r, r < L'.length → cell r 0 = .v (.int .i64 (L'.getD r default))) (hk : K (.v (.bool (L == L'))) ⟨o, nx⟩) :
    ACall { P := prog, G := gl, X := X, N := N, r := r, b := b } 34 [slD 1 intC L, .ms f 0 1 0 n] ⟨o, nx⟩ K :=
  lend_at M_P M_G (ints13_spec L L' hl) gpu (.v _) ⟨(pu_slD pu_intC _).fz, fz_ms hB hn pu_intC (fun r c hr hc' => by
    obtain rfl : c = 0 := by omega
    exact hc r hr), trivial⟩ hk
theorem r3 {P : Nat → Prop} (a : P 0) (b : P 1) (c : P 2) : ∀ r, r < 3 → P r
  | 0, _ => a
  | 1, _ => b
  | 2, _ => c
  | r + 3, h => absurd h (by omega)
theorem r2 {P : Nat → Prop} (a : P 0) (b : P 1) : ∀ r, r < 2 → P r
  | 0, _ => a
  | 1, _ => b
  | r + 2, h => absurd h (by omega)
theorem r1 {P : Nat → Prop} (a : P 0) : ∀ r, r < 1 → P r
  | 0, _ => a
  | r + 1, h => absurd h (by omega)
theorem head25_spec : APure M 28 [] (.v (.bool true)) := by
  refine apure_of (fun x h => by cases h) gpu (acall_of func28 rfl results28 ntmps28 (by simp) fun b => ?_)
  refine awp_seq (wpA_sound _ _ _ _ ?_)
  simp only [go_sem, ↓reduceIte, reduceCtorEq, Nat.reduceEqDiff, Nat.reduceLT, Nat.reduceLeDiff, Nat.reduceAdd, Nat.reduceSub, Nat.reduceMul, Nat.reduceGT, Int.reduceNeg, Int.reduceToNat]
  refine awp_seq (wpA_sound _ _ _ _ ?_)
  simp only [go_sem, ↓reduceIte, reduceCtorEq, Nat.reduceEqDiff, Nat.reduceLT, Nat.reduceLeDiff, Nat.reduceAdd, Nat.reduceSub, Nat.reduceMul, Nat.reduceGT, Int.reduceNeg, Int.reduceToNat]
  refine call_at M_P M_G example_spec ?_
  simp only [go_sem, ↓reduceIte, reduceCtorEq, Nat.reduceEqDiff, Nat.reduceLT, Nat.reduceLeDiff, Nat.reduceAdd, Nat.reduceSub, Nat.reduceMul, Nat.reduceGT, Int.reduceNeg, Int.reduceToNat]
  refine awp_seq (wpA_sound _ _ _ _ ?_)
  simp only [go_sem, ↓reduceIte, reduceCtorEq, Nat.reduceEqDiff, Nat.reduceLT, Nat.reduceLeDiff, Nat.reduceAdd, Nat.reduceSub, Nat.reduceMul, Nat.reduceGT, Int.reduceNeg, Int.reduceToNat]
  refine awp_seq (wpA_sound _ _ _ _ ?_)
  simp only [go_sem, ↓reduceIte, reduceCtorEq, Nat.reduceEqDiff, Nat.reduceLT, Nat.reduceLeDiff, Nat.reduceAdd, Nat.reduceSub, Nat.reduceMul, Nat.reduceGT, Int.reduceNeg, Int.reduceToNat]
  refine call_at M_P M_G (waive_spec 0) ?_
  simp only [go_sem, ↓reduceIte, reduceCtorEq, Nat.reduceEqDiff, Nat.reduceLT, Nat.reduceLeDiff, Nat.reduceAdd, Nat.reduceSub, Nat.reduceMul, Nat.reduceGT, Int.reduceNeg, Int.reduceToNat]
  refine call_at M_P M_G clause25_spec ?_
  simp only [go_sem, ↓reduceIte, reduceCtorEq, Nat.reduceEqDiff, Nat.reduceLT, Nat.reduceLeDiff, Nat.reduceAdd, Nat.reduceSub, Nat.reduceMul, Nat.reduceGT, Int.reduceNeg, Int.reduceToNat]
  refine call_at M_P M_G (waive_spec 2) ?_
  simp only [go_sem, ↓reduceIte, reduceCtorEq, Nat.reduceEqDiff, Nat.reduceLT, Nat.reduceLeDiff, Nat.reduceAdd, Nat.reduceSub, Nat.reduceMul, Nat.reduceGT, Int.reduceNeg, Int.reduceToNat]
  refine awp_cellsW (f := 1) (k := 22) (n := 3) (cell' := rowsOf amdC Es.exL) rfl (fun r c hr hc => ?_) ?_
  · have hr : r = 0 ∨ r = 1 ∨ r = 2 := by omega
    rcases hr with rfl | rfl | rfl <;> (rcases (show c = 0 ∨ c = 1 ∨ c = 2 ∨ c = 3 ∨ c = 4 ∨ c = 5 ∨ c = 6 ∨ c = 7 ∨ c = 8 ∨ c = 9 ∨ c = 10 ∨ c = 11 ∨ c = 12 ∨ c = 13 ∨ c = 14 ∨ c = 15 ∨ c = 16 ∨ c = 17 ∨ c = 18 ∨ c = 19 ∨ c = 20 ∨ c = 21 by omega) with rfl | rfl | rfl | rfl | rfl | rfl | rfl | rfl | rfl | rfl | rfl | rfl | rfl | rfl | rfl | rfl | rfl | rfl | rfl | rfl | rfl | rfl <;> first | exact Wkd.refl _ | exact Wkd.nil _ _)
  refine awp_freeze (t := 3) (f := 1) (k := 22) (n := 3) (cell' := rowsOf amdC Es.exL) rfl rfl (fun _ _ _ _ => rfl) ?_
  rw [show D.sl 22 3 (rowsOf amdC Es.exL) = slD 22 amdC Es.exL from rfl]
  refine awp_seq (wpA_sound _ _ _ _ ?_)
  simp only [go_sem, ↓reduceIte, reduceCtorEq, Nat.reduceEqDiff, Nat.reduceLT, Nat.reduceLeDiff, Nat.reduceAdd, Nat.reduceSub, Nat.reduceMul, Nat.reduceGT, Int.reduceNeg, Int.reduceToNat]
  refine call_at M_P M_G (inForce_spec Es.exC Es.exL 5 4 Es.exC_fits (by decide)) ?_
  simp only [go_sem, ↓reduceIte, reduceCtorEq, Nat.reduceEqDiff, Nat.reduceLT, Nat.reduceLeDiff, Nat.reduceAdd, Nat.reduceSub, Nat.reduceMul, Nat.reduceGT, Int.reduceNeg, Int.reduceToNat, Es.head_1]
  refine awp_seq (wpA_sound _ _ _ _ ?_)
  simp only [go_sem, ↓reduceIte, reduceCtorEq, Nat.reduceEqDiff, Nat.reduceLT, Nat.reduceLeDiff, Nat.reduceAdd, Nat.reduceSub, Nat.reduceMul, Nat.reduceGT, Int.reduceNeg, Int.reduceToNat]
  refine call_at M_P M_G (inForce_spec Es.exC Es.exL 5 2 Es.exC_fits (by decide)) ?_
  simp only [go_sem, ↓reduceIte, reduceCtorEq, Nat.reduceEqDiff, Nat.reduceLT, Nat.reduceLeDiff, Nat.reduceAdd, Nat.reduceSub, Nat.reduceMul, Nat.reduceGT, Int.reduceNeg, Int.reduceToNat, Es.head_2]
  refine awp_seq (wpA_sound _ _ _ _ ?_)
  simp only [go_sem, ↓reduceIte, reduceCtorEq, Nat.reduceEqDiff, Nat.reduceLT, Nat.reduceLeDiff, Nat.reduceAdd, Nat.reduceSub, Nat.reduceMul, Nat.reduceGT, Int.reduceNeg, Int.reduceToNat]
  refine call_at M_P M_G (days_spec Es.exC Es.exL 9 Es.exC_fits (by decide)) ?_
  simp only [go_sem, ↓reduceIte, reduceCtorEq, Nat.reduceEqDiff, Nat.reduceLT, Nat.reduceLeDiff, Nat.reduceAdd, Nat.reduceSub, Nat.reduceMul, Nat.reduceGT, Int.reduceNeg, Int.reduceToNat, Es.head_3]
  refine wpA_sound _ _ _ _ ?_
  simp only [go_sem, ↓reduceIte, reduceCtorEq, Nat.reduceEqDiff, Nat.reduceLT, Nat.reduceLeDiff, Nat.reduceAdd, Nat.reduceSub, Nat.reduceMul, Nat.reduceGT, Int.reduceNeg, Int.reduceToNat]
  refine awp_plan ((.op 0 (.alt 1 (.alt 2 (.op 3 (.op 4 (.op 5 (.op 6 (.op 7 (.op 8 (.op 9 (.op 10 .done)))))))) (.alt 7 (.op 2 (.op 3 (.op 4 (.op 5 (.op 6 (.op 8 (.op 9 (.op 10 .done)))))))) .dead)) (.alt 7 (.op 1 (.op 2 (.op 3 (.op 4 (.op 5 (.op 6 (.op 8 (.op 9 (.op 10 .done))))))))) .dead)))) [8] mix (by kernel_rfl) ?_
  simp only [go_sem, ↓reduceIte, reduceCtorEq, Nat.reduceEqDiff, Nat.reduceLT, Nat.reduceLeDiff, Nat.reduceAdd, Nat.reduceSub, Nat.reduceMul, Nat.reduceGT, Int.reduceNeg, Int.reduceToNat]
  repeat' (first | (with_reducible refine And.intro ?_ ?_) | ((with_reducible refine ite_cases ?_ ?_) <;> intro _))
  all_goals first
    | omega
    | (refine limit_call rfl ?_)
    | skip
  all_goals simp only [go_sem, ↓reduceIte, reduceCtorEq, Nat.reduceEqDiff, Nat.reduceLT, Nat.reduceLeDiff, Nat.reduceAdd, Nat.reduceSub, Nat.reduceMul, Nat.reduceGT, Int.reduceNeg, Int.reduceToNat, limD_eq]
  all_goals repeat (first | (rw [if_pos (by decide)]) | (rw [if_neg (by decide)]) | (refine ⟨by decide, ?_⟩))
  all_goals refine call_at M_P M_G (order_spec' Es.exL (by decide)) ?_
  all_goals simp only [go_sem, ↓reduceIte, reduceCtorEq, Nat.reduceEqDiff, Nat.reduceLT, Nat.reduceLeDiff, Nat.reduceAdd, Nat.reduceSub, Nat.reduceMul, Nat.reduceGT, Int.reduceNeg, Int.reduceToNat, Es.head_5]
  all_goals refine ints_own [2, 1, 0] [2, 1, 0] (by decide) rfl rfl (r3 rfl rfl rfl) ?_
  all_goals simp only [go_sem, ↓reduceIte, reduceCtorEq, Nat.reduceEqDiff, Nat.reduceLT, Nat.reduceLeDiff, Nat.reduceAdd, Nat.reduceSub, Nat.reduceMul, Nat.reduceGT, Int.reduceNeg, Int.reduceToNat, q1, q2, q3, q4]
  all_goals repeat (first | (rw [if_pos (by decide)]) | (rw [if_neg (by decide)]) | (refine ⟨by decide, ?_⟩))
  all_goals refine ints_own [3, 7] [3, 7] (by decide) rfl rfl (r2 rfl rfl) ?_
  all_goals simp only [go_sem, ↓reduceIte, reduceCtorEq, Nat.reduceEqDiff, Nat.reduceLT, Nat.reduceLeDiff, Nat.reduceAdd, Nat.reduceSub, Nat.reduceMul, Nat.reduceGT, Int.reduceNeg, Int.reduceToNat, q1, q2, q3, q4]
  all_goals repeat (first | (rw [if_pos (by decide)]) | (rw [if_neg (by decide)]) | (refine ⟨by decide, ?_⟩))
  all_goals refine ints_own [7] [7] (by decide) rfl rfl (r1 rfl) ?_
  all_goals simp only [go_sem, ↓reduceIte, reduceCtorEq, Nat.reduceEqDiff, Nat.reduceLT, Nat.reduceLeDiff, Nat.reduceAdd, Nat.reduceSub, Nat.reduceMul, Nat.reduceGT, Int.reduceNeg, Int.reduceToNat, q1, q2, q3, q4]
  all_goals repeat (first | (rw [if_pos (by decide)]) | (rw [if_neg (by decide)]) | (refine ⟨by decide, ?_⟩))
  all_goals refine ints_own [5] [5] (by decide) rfl rfl (r1 rfl) ?_
  all_goals simp only [go_sem, ↓reduceIte, reduceCtorEq, Nat.reduceEqDiff, Nat.reduceLT, Nat.reduceLeDiff, Nat.reduceAdd, Nat.reduceSub, Nat.reduceMul, Nat.reduceGT, Int.reduceNeg, Int.reduceToNat, q1, q2, q3, q4]
  all_goals repeat (first | (rw [if_pos (by decide)]) | (rw [if_neg (by decide)]) | (refine ⟨by decide, ?_⟩))
  all_goals rfl
end Tryd
end Go.Proofs
end
section
namespace Go.Proofs
open Go Go.Abs
set_option linter.unusedSimpArgs false
set_option linter.unusedVariables false
set_option maxRecDepth 10000
namespace Tryd
theorem checkA_valid {c : Es.Contract} {l : List Es.Amend} (h : Es.checkA c l = 0) : (Es.valid2 c).1 = 0 := by
  unfold Es.checkA at h
  split at h
  · simp at h
  · rename_i h'; simpa using h'
theorem inForce_fits (c : Es.Contract) (l : List Es.Amend) (day known : Int) : Es.Fits (Es.inForce c l day known).1 ∧ (∀ x ∈ (Es.inForce c l day known).1.clauses, x.start.length ≤ 9223372036854775807) ∧ (Es.inForce c l day known).2.1.length ≤ l.length := by
  by_cases h : Es.checkA c l = 0
  · rw [Es.inForce_ok h]
    have hv := Es.lastC_ok (known := known) (l := Es.sortedA (l.filter fun x => decide (x.day ≤ day))) (checkA_valid h)
    refine ⟨fits_valid hv, fun x hx => Nat.le_trans (starts_valid hv x hx) (by omega), ?_⟩
    simp only [List.length_map]
    refine Nat.le_trans (Es.versionsA_len _ _ _) ?_
    rw [Es.sortedA, Es.isort_len]
    exact List.length_filter_le _ _
  · rw [Es.inForce_bad h]
    exact ⟨⟨Nat.zero_le _, Nat.zero_le _, Nat.zero_le _, Nat.zero_le _, Nat.zero_le _⟩, fun x hx => by simp [Es.zeroCon] at hx, Nat.zero_le _⟩
theorem inForce_out {X : D → Value → Prop} {N b n0 : Nat} {r : Option Nat} {o o2 : St} {nx n2 : Nat} {ty : TypeId} {K : D → S → Prop} {d : D} {L : List Es.Amend} {c : Es.Contract} {day known : Int} (hO : OutL amdC 22 ty n0 ⟨o2, n2⟩ d L) (hs : ∀ g, n0 ≤ g → g < n2 → o g 0 = o2 g 0) (hf : Es.Fits c) (hL : L.length ≤ 12) (hk : ∀ o' : St, (∀ g i, g < n0 ∨ n2 ≤ g → o' g i = o g i) → K (resF (Es.inForce c L day known)) ⟨o', nx⟩) :
    ACall { P := prog, G := gl, X := X, N := N, r := r, b := b } 31 [conD c, d, .v (.int .i64 day), .v (.int .i64 known)] ⟨o, nx⟩ K := by
  rcases hO with ⟨rfl, rfl⟩ | ⟨g, cell, rfl, h2, h3, h4, h5⟩
  · refine acall_weak (args' := [conD c, slD 22 amdC [], .v (.int .i64 day), .v (.int .i64 known)]) ⟨fun _ _ h => h, wk_nil _ _, fun _ _ h => h, fun _ _ h => h, trivial⟩ ?_
    exact call_at M_P M_G (inForce_spec c [] day known hf hL) (hk o fun _ _ _ => rfl)
  · simp only at h3 h4
    refine acall_freeze (f := g) (k := 22) (n := L.length) (cell' := rowsOf amdC L) (args' := [conD c, slD 22 amdC L, .v (.int .i64 day), .v (.int .i64 known)]) ((hs g h2 h3).trans h4) h5 ⟨.inl rfl, .inr ⟨rfl, rfl⟩, .inl rfl, .inl rfl, trivial⟩ ?_
    exact call_at M_P M_G (inForce_spec c L day known hf hL) (hk (St.set o g 0 none) fun g' i hg => by simp only [St.set]; rw [if_neg (by omega)])
end Tryd
end Go.Proofs
end
section
namespace Go.Proofs
open Go Go.Abs
set_option linter.unusedSimpArgs false
set_option linter.unusedVariables false
set_option maxRecDepth 10000
namespace Tryd
theorem amd_row (x : Es.Amend) (j : Nat) (hj : j < 22) : List.getD [.v (.int .i64 x.number), .v (.int .i64 x.day), .v (.int .i64 x.known), .v (.int .i64 x.patch.kind), slD 1 intC x.patch.clauses, .v (.int .i64 x.patch.new.kind), .v (.int .i64 x.patch.new.role), .v (.int .i64 x.patch.new.act), .v (.int .i64 x.patch.new.need), slD 2 condC x.patch.new.start, .v (.int .i64 x.patch.new.after), .v (.int .i64 x.patch.new.grace), .v (.bool x.patch.new.business), .v (.bool x.patch.new.final), .v (.int .i64 x.patch.new.pause), .v (.int .i64 x.patch.new.resume), .v (.int .i64 x.patch.new.value.num), .v (.int .i64 x.patch.new.value.den), .v (.int .i64 x.patch.new.unit), .v (.int .i64 x.patch.new.to), .v (.bool x.patch.new.waived), .v (.int .i64 x.patch.days)] j D.any = amdC x j := by
  rcases (show j = 0 ∨ j = 1 ∨ j = 2 ∨ j = 3 ∨ j = 4 ∨ j = 5 ∨ j = 6 ∨ j = 7 ∨ j = 8 ∨ j = 9 ∨ j = 10 ∨ j = 11 ∨ j = 12 ∨ j = 13 ∨ j = 14 ∨ j = 15 ∨ j = 16 ∨ j = 17 ∨ j = 18 ∨ j = 19 ∨ j = 20 ∨ j = 21 by omega) with rfl | rfl | rfl | rfl | rfl | rfl | rfl | rfl | rfl | rfl | rfl | rfl | rfl | rfl | rfl | rfl | rfl | rfl | rfl | rfl | rfl | rfl <;> rfl
theorem vcounts_spec (c : Es.Contract) (l : List Es.Amend) (day known : Int) (hf : Es.Fits c) (hl : l.length ≤ 9223372036854775807) : APure M 10 [conD c, slD 22 amdC l, .v (.int .i64 day), .v (.int .i64 known)] (.v (.bool true)) := by
  refine pure_of gpu func10 rfl results10 ntmps10 (by simp) ⟨pu_conD _, pu_slD pu_amdC _, .v _, .v _, trivial⟩ ?_
  intro b
  simp only [go_sem, ↓reduceIte, reduceCtorEq, Nat.reduceEqDiff, Nat.reduceLT, Nat.reduceLeDiff, Nat.reduceAdd, Nat.reduceSub, Nat.reduceMul, Nat.reduceGT, Int.reduceNeg, Int.reduceToNat]
  repeat' (first | ((with_reducible refine call_at M_P M_G (head25_spec) ?_); simp only [go_sem, ↓reduceIte, reduceCtorEq, Nat.reduceEqDiff, Nat.reduceLT, Nat.reduceLeDiff, Nat.reduceAdd, Nat.reduceSub, Nat.reduceMul, Nat.reduceGT, Int.reduceNeg, Int.reduceToNat]) | ((with_reducible refine call_at M_P M_G (small25_spec c l hf hl) ?_); simp only [go_sem, ↓reduceIte, reduceCtorEq, Nat.reduceEqDiff, Nat.reduceLT, Nat.reduceLeDiff, Nat.reduceAdd, Nat.reduceSub, Nat.reduceMul, Nat.reduceGT, Int.reduceNeg, Int.reduceToNat]) | (with_reducible refine And.intro ?_ ?_) | ((with_reducible refine ite_cases ?_ ?_) <;> intro _))
  · trivial
  have hl12 : l.length ≤ 12 := fewL_len (n := 12) (by simp_all)
  refine awp_count0 l.length (fun e0 s0 k e st => (e 1 = e0 1 ∧ e 2 = e0 2 ∧ e 3 = e0 3 ∧ e 4 = e0 4 ∧ e 9 = e0 9) ∧ e 11 = .v (.int .i64 k) ∧ 1 ≤ st.nx ∧ st.o 0 0 = some (.blk 7 1 27 (rowOf (conCells c))) ∧
    OutL amdC 22 64 1 st (e 10) ((l.take k).filter fun x => decide (x.known ≤ known) && decide (x.day ≤ day))) ⟨⟨rfl, rfl, rfl, rfl, rfl⟩, ?_, Nat.le_refl _, ?_, .inl ⟨rfl, rfl⟩⟩ ?_
  · simp only [go_sem, ↓reduceIte, reduceCtorEq, Nat.reduceEqDiff, Nat.reduceLT, Nat.reduceLeDiff, Nat.reduceAdd, Nat.reduceSub, Nat.reduceMul, Nat.reduceGT, Int.reduceNeg, Int.reduceToNat]; rfl
  · simp only [go_sem, ↓reduceIte, reduceCtorEq, Nat.reduceEqDiff, Nat.reduceLT, Nat.reduceLeDiff, Nat.reduceAdd, Nat.reduceSub, Nat.reduceMul, Nat.reduceGT, Int.reduceNeg, Int.reduceToNat, conCells_eq]
  rintro k e ⟨o2, n2⟩ hk ⟨⟨a1, a2, a3, a4, a9⟩, a11, hn, i0, hO⟩
  simp only [go_sem, ↓reduceIte, reduceCtorEq, Nat.reduceEqDiff, Nat.reduceLT, Nat.reduceLeDiff, Nat.reduceAdd, Nat.reduceSub, Nat.reduceMul, Nat.reduceGT, Int.reduceNeg, Int.reduceToNat] at a1 a2 a3 a4 a9
  simp only at hn i0
  simp only [conCells_eq] at i0
  have e0 : ∀ {a b : Nat}, a ≠ b → (a = b) = False := fun h => by simp [h]
  have w1 : (0 = n2) = False := e0 (by omega); have w2 : (0 = n2 + 1) = False := e0 (by omega); have w3 : (0 = n2 + 1 + 1) = False := e0 (by omega); have w4 : (n2 = 0) = False := e0 (by omega); have w5 : (n2 = n2 + 1) = False := e0 (by omega); have w6 : (n2 = n2 + 1 + 1) = False := e0 (by omega); have w7 : (n2 + 1 = 0) = False := e0 (by omega); have w8 : (n2 + 1 = n2) = False := e0 (by omega); have w9 : (n2 + 1 = n2 + 1 + 1) = False := e0 (by omega); have w10 : (n2 + 1 + 1 = 0) = False := e0 (by omega); have w11 : (n2 + 1 + 1 = n2) = False := e0 (by omega); have w12 : (n2 + 1 + 1 = n2 + 1) = False := e0 (by omega)
  have hw : IntKind.i64.wrap ((k : Int) + 1) = (k : Int) + 1 := wrap_i64 _ (by omega) (by omega)
  simp only [go_sem, ↓reduceIte, reduceCtorEq, Nat.reduceEqDiff, Nat.reduceLT, Nat.reduceLeDiff, Nat.reduceAdd, Nat.reduceSub, Nat.reduceMul, Nat.reduceGT, Int.reduceNeg, Int.reduceToNat, a1, a2, a3, a4, a9, a11, i0, hw, w1, w2, w3, w4, w5, w6, w7, w8, w9, w10, w11, w12]
  refine ite_cases (fun hlt => ?_) (fun hlt => ?_)
  · have hlt' : k < l.length := Es.len_lt.1 hlt
    have hnext : l.take (k + 1) = l.take k ++ [Es.at_ l (k : Int)] := by rw [List.take_add_one, List.getElem?_eq_getElem hlt', Es.at_nat hlt']; rfl
    have hll : ((l.take k).filter fun x => decide (x.known ≤ known) && decide (x.day ≤ day)).length ≤ 12 := by
      have h1 := List.length_filter_le (fun x : Es.Amend => decide (x.known ≤ known) && decide (x.day ≤ day)) (l.take k)
      have h2 : (l.take k).length ≤ l.length := by rw [List.length_take]; omega
      omega
    repeat' (first | (with_reducible refine And.intro ?_ ?_) | ((with_reducible refine ite_cases ?_ ?_) <;> intro _))
    all_goals first
      | omega
      | exact hlt
      | (have hp : (decide ((Es.at_ l (k : Int)).known ≤ known) && decide ((Es.at_ l (k : Int)).day ≤ day)) = false := by
           simp only [Bool.and_eq_false_iff, decide_eq_false_iff_not]; omega
         refine ⟨hlt', ?_⟩
         simp only [go_sem, ↓reduceIte, reduceCtorEq, Nat.reduceEqDiff, Nat.reduceLT, Nat.reduceLeDiff, Nat.reduceAdd, Nat.reduceSub, Nat.reduceMul, Nat.reduceGT, Int.reduceNeg, Int.reduceToNat, a1, a2, a3, a4, a9, a11, i0, hw, w1, w2, w3, w4, w5, w6, w7, w8, w9, w10, w11, w12]
         refine ⟨by simp, hn, ?_⟩
         rw [hnext, List.filter_append, List.filter_cons, hp]
         simpa using hO)
      | skip
    have hp : (decide ((Es.at_ l (k : Int)).known ≤ known) && decide ((Es.at_ l (k : Int)).day ≤ day)) = true := by
      simp only [Bool.and_eq_true, decide_eq_true_eq]; omega
    have hfil : (l.take (k + 1)).filter (fun x => decide (x.known ≤ known) && decide (x.day ≤ day)) = (l.take k).filter (fun x => decide (x.known ≤ known) && decide (x.day ≤ day)) ++ [Es.at_ l (k : Int)] := by
      rw [hnext, List.filter_append, List.filter_cons, hp]; rfl
    generalize hd : e 10 = d at hO
    rcases hO with ⟨hnil, rfl⟩ | ⟨g, cl, rfl, hg1, hg2, hg3, hg4⟩
    · simp only [go_sem, ↓reduceIte, reduceCtorEq, Nat.reduceEqDiff, Nat.reduceLT, Nat.reduceLeDiff, Nat.reduceAdd, Nat.reduceSub, Nat.reduceMul, Nat.reduceGT, Int.reduceNeg, Int.reduceToNat, hd, a1, a2, a3, a4, a9, a11, i0, hw, w1, w2, w3, w4, w5, w6, w7, w8, w9, w10, w11, w12]
      refine ⟨hlt', ?_⟩
      simp only [go_sem, ↓reduceIte, reduceCtorEq, Nat.reduceEqDiff, Nat.reduceLT, Nat.reduceLeDiff, Nat.reduceAdd, Nat.reduceSub, Nat.reduceMul, Nat.reduceGT, Int.reduceNeg, Int.reduceToNat, hd, a1, a2, a3, a4, a9, a11, i0, hw, w1, w2, w3, w4, w5, w6, w7, w8, w9, w10, w11, w12]
      refine ⟨by simp, ?_⟩
      rw [hfil, hnil]
      exact OutL.one' (by omega) (fun j hj => amd_row _ j hj)
    · simp only at hg2 hg3
      have v1 : (0 = g) = False := e0 (by omega); have v2 : (0 = n2) = False := e0 (by omega); have v3 : (0 = n2 + 1) = False := e0 (by omega); have v4 : (0 = n2 + 1 + 1) = False := e0 (by omega); have v5 : (g = 0) = False := e0 (by omega); have v6 : (g = n2) = False := e0 (by omega); have v7 : (g = n2 + 1) = False := e0 (by omega); have v8 : (g = n2 + 1 + 1) = False := e0 (by omega); have v9 : (n2 = 0) = False := e0 (by omega); have v10 : (n2 = g) = False := e0 (by omega); have v11 : (n2 = n2 + 1) = False := e0 (by omega); have v12 : (n2 = n2 + 1 + 1) = False := e0 (by omega); have v13 : (n2 + 1 = 0) = False := e0 (by omega); have v14 : (n2 + 1 = g) = False := e0 (by omega); have v15 : (n2 + 1 = n2) = False := e0 (by omega); have v16 : (n2 + 1 = n2 + 1 + 1) = False := e0 (by omega); have v17 : (n2 + 1 + 1 = 0) = False := e0 (by omega); have v18 : (n2 + 1 + 1 = g) = False := e0 (by omega); have v19 : (n2 + 1 + 1 = n2) = False := e0 (by omega); have v20 : (n2 + 1 + 1 = n2 + 1) = False := e0 (by omega)
      simp only [go_sem, ↓reduceIte, reduceCtorEq, Nat.reduceEqDiff, Nat.reduceLT, Nat.reduceLeDiff, Nat.reduceAdd, Nat.reduceSub, Nat.reduceMul, Nat.reduceGT, Int.reduceNeg, Int.reduceToNat, hd, a1, a2, a3, a4, a9, a11, i0, hw, hg3, v1, v2, v3, v4, v5, v6, v7, v8, v9, v10, v11, v12, v13, v14, v15, v16, v17, v18, v19, v20]
      refine ⟨⟨by omega, by omega⟩, hlt', ?_⟩
      simp only [go_sem, ↓reduceIte, reduceCtorEq, Nat.reduceEqDiff, Nat.reduceLT, Nat.reduceLeDiff, Nat.reduceAdd, Nat.reduceSub, Nat.reduceMul, Nat.reduceGT, Int.reduceNeg, Int.reduceToNat, hd, a1, a2, a3, a4, a9, a11, i0, hw, hg3, v1, v2, v3, v4, v5, v6, v7, v8, v9, v10, v11, v12, v13, v14, v15, v16, v17, v18, v19, v20]
      refine ⟨by simp, ?_⟩
      rw [hfil]
      exact OutL.more' (by omega) hg4 (fun j hj => amd_row _ j hj)
  · obtain rfl : k = l.length := by simp only [Es.len] at hlt; omega
    rw [List.take_length] at hO
    have hI := inForce_fits c l day known
    refine call_at M_P M_G (inForce_spec c l day known hf hl12) ?_
    simp only [go_sem, ↓reduceIte, reduceCtorEq, Nat.reduceEqDiff, Nat.reduceLT, Nat.reduceLeDiff, Nat.reduceAdd, Nat.reduceSub, Nat.reduceMul, Nat.reduceGT, Int.reduceNeg, Int.reduceToNat, a1, a2, a3, a4, a9, a11, i0, hw, w1, w2, w3, w4, w5, w6, w7, w8, w9, w10, w11, w12]
    refine inForce_out hO (fun g h1 h2 => by simp only [St.set]; rw [if_neg (by omega)]) hf (Nat.le_trans (List.length_filter_le _ _) hl12) fun o3 ho3 => ?_
    rw [Es.law_counts c l (by omega) day known]
    have j0 : o3 0 0 = o2 0 0 := by rw [ho3 0 0 (by omega)]; simp only [St.set]; rw [if_neg (by omega)]
    rw [i0] at j0
    have j1 := ho3 n2 0 (.inr (Nat.le_refl _))
    rw [St_set_self] at j1
    generalize Es.inForce c l day known = F at hI j1
    obtain ⟨A, x, er⟩ := F
    simp only at hI j1
    simp only [go_sem, ↓reduceIte, reduceCtorEq, Nat.reduceEqDiff, Nat.reduceLT, Nat.reduceLeDiff, Nat.reduceAdd, Nat.reduceSub, Nat.reduceMul, Nat.reduceGT, Int.reduceNeg, Int.reduceToNat, a1, a2, a3, a4, a9, a11, j0, j1, hw, w1, w2, w3, w4, w5, w6, w7, w8, w9, w10, w11, w12]
    repeat' (first | ((with_reducible refine call_at M_P M_G (same13_spec A A hI.1 hI.2.1) ?_); simp only [go_sem, ↓reduceIte, reduceCtorEq, Nat.reduceEqDiff, Nat.reduceLT, Nat.reduceLeDiff, Nat.reduceAdd, Nat.reduceSub, Nat.reduceMul, Nat.reduceGT, Int.reduceNeg, Int.reduceToNat]) | ((with_reducible refine call_at M_P M_G (ints13_spec x x (by omega)) ?_); simp only [go_sem, ↓reduceIte, reduceCtorEq, Nat.reduceEqDiff, Nat.reduceLT, Nat.reduceLeDiff, Nat.reduceAdd, Nat.reduceSub, Nat.reduceMul, Nat.reduceGT, Int.reduceNeg, Int.reduceToNat]) | (with_reducible refine And.intro ?_ ?_) | ((with_reducible refine ite_cases ?_ ?_) <;> intro _))
    all_goals first
      | (simp; done)
      | (exfalso; simp_all [Es.sameC_refl]; done)
end Tryd
end Go.Proofs
end
