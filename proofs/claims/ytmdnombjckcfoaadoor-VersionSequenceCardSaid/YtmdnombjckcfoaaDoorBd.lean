/-
  Parts of an abstract machine over the model, of the program's data and of what its functions compute: the texts LawB ModH F1 Row F2 F7 F8 LawV AbsQ AbsT F43 F11 F12 F13 F14 F15 F16 F46 F41, merged.
-/
import Derived.Test.YtmdnombjckcfoaaDoorBc
import Derived.Test.YtmdnombjckcfoaaDoorTie
import Derived.Test.YtmdnombjckcfoaaDoorCards
import Derived.ProofKit
import Derived.LaidMore
import Derived.OpenShut
import Derived.Carry
import Derived.Stop.Joined
set_option linter.unusedSimpArgs false
set_option linter.unusedVariables false
section
/-
  Plain laws of the states of a contract, part 2: steps.
-/
namespace Es
/-- What a step leaves of the mark of a clause, before clauses start. -/
def dayM (c : Contract) (s : State) (i : Nat) (m : Mark) : Mark := if runs m then dayMark c s i m else m
def actM (c : Contract) (s : State) (k : Int) (i : Nat) (m : Mark) : Mark :=
  if at_ s.used k then m else
  let m1 := if runs m then actMark c k (doer c s k) i m else m
  if (at_ c.acts k).kind == 3 then (if runs m1 then novMark c (at_ c.acts k) i m1 else m1) else m1
theorem tick_at {c : Contract} {s : State} (hl : s.marks.length = c.clauses.length) {i : Nat} (hi : i < s.marks.length) : at_ (tickS c s).marks (i : Int) = dayM c s i (at_ s.marks (i : Int)) :=
  met_done _ _ _ _ (by omega) hi
theorem tick_len (c : Contract) (s : State) : (tickS c s).marks.length = s.marks.length := met_length _ _ _
theorem do_at {c : Contract} {s : State} {k : Int} (hl : s.marks.length = c.clauses.length) {i : Nat} (hi : i < s.marks.length) : at_ (doS c s k).marks (i : Int) = actM c s k i (at_ s.marks (i : Int)) := by
  unfold doS actM
  split
  · rfl
  · simp only
    have h1 := met_done (actMark c k (doer c s k)) s.marks c.clauses.length i (by omega) hi
    split
    · rw [met_done _ _ _ _ (by omega) (by rw [met_length]; exact hi), h1]
    · exact h1
theorem do_len (c : Contract) (s : State) (k : Int) : (doS c s k).marks.length = s.marks.length := by
  unfold doS
  split
  · rfl
  · simp only
    split <;> simp [met_length]
theorem do_day (c : Contract) (s : State) (k : Int) : (doS c s k).day = s.day := by
  unfold doS; split <;> rfl
theorem do_holders (c : Contract) (s : State) (k : Int) : (doS c s k).holders = if at_ s.used k = true ∨ (at_ c.acts k).kind = 1 then s.holders else s.holders.set (at_ c.acts k).give.toNat (at_ c.acts k).to := by
  unfold doS
  split
  · rename_i h; rw [if_pos (.inl h)]
  · rename_i h
    simp only
    by_cases h2 : (at_ c.acts k).kind = 1
    · simp [h2]
    · simp [h, h2]
theorem do_used (c : Contract) (s : State) (k : Int) : (doS c s k).used = if at_ s.used k = true ∨ (at_ c.acts k).kind = 1 then s.used else s.used.set k.toNat true := by
  unfold doS
  split
  · rename_i h; rw [if_pos (.inl h)]
  · rename_i h
    simp only
    by_cases h2 : (at_ c.acts k).kind = 1
    · simp [h2]
    · simp [h, h2]

/-- A running clause's well-formed mark. -/
structure Run (c : Contract) (x : Clause) (m : Mark) : Prop where
  st : m.status = 1 ∨ m.status = 2
  waived : x.waived = false
  got : if x.kind = 1 then 0 ≤ m.got ∧ m.got < x.need else m.got = 0
  left : 1 ≤ m.left ∧ m.left ≤ if m.status = 2 then x.grace else x.after
  paused : m.paused = true → 0 ≤ x.pause
  bearer : (x.kind = 4 ∧ m.bearer = -1) ∨ (x.kind ≠ 4 ∧ 0 ≤ m.bearer ∧ m.bearer < c.parties)
/-- The mark of a clause that has ended. -/
structure End (c : Contract) (m : Mark) : Prop where
  st : m.status = 3 ∨ m.status = 4 ∨ m.status = 5
  left : m.left = 0
  paused : m.paused = false
  got : 0 ≤ m.got ∧ m.got ≤ 9
  bearer : (0 ≤ m.bearer ∧ m.bearer < c.parties) ∨ m.bearer = -1
theorem wf_run {c : Contract} {x : Clause} {m : Mark} (hr : m.status = 1 ∨ m.status = 2) : wellFormed c x m = true ↔ Run c x m := by
  have e1 : (m.status == 3 || m.status == 4 || m.status == 5) = false := by rcases hr with h | h <;> simp [h]
  have e2 : (m.status == 0) = false := by rcases hr with h | h <;> simp [h]
  have e3 : (m.status == 1 || m.status == 2) = true := by rcases hr with h | h <;> simp [h]
  unfold wellFormed
  simp only [e1, e2, e3, if_true, Bool.false_eq_true, if_false, Bool.and_eq_true, Bool.or_eq_true, Bool.not_eq_true', decide_eq_true_eq, beq_iff_eq, bne_iff_ne, party]
  constructor
  · rintro ⟨⟨⟨⟨⟨h1, h2⟩, h3⟩, h4⟩, h5⟩, h6⟩
    refine ⟨hr, h1, ?_, ⟨h3, h4⟩, fun hp => ?_, h6⟩
    · split at h2 <;> rename_i hk <;> simp only [Bool.and_eq_true, decide_eq_true_eq, beq_iff_eq] at h2
      · rw [if_pos hk]; exact h2
      · rw [if_neg hk]; exact h2
    · rcases h5 with h5 | h5
      · rw [hp] at h5; cases h5
      · exact h5
  · rintro ⟨_, h1, h2, h3, h4, h5⟩
    refine ⟨⟨⟨⟨⟨h1, ?_⟩, h3.1⟩, h3.2⟩, ?_⟩, h5⟩
    · split at h2 <;> rename_i hk
      · rw [if_pos hk]; simpa using h2
      · rw [if_neg hk]; simpa using h2
    · cases hp : m.paused with
      | false => exact .inl rfl
      | true => exact .inr (h4 hp)
theorem wf_end {c : Contract} {x : Clause} {m : Mark} (hr : m.status = 3 ∨ m.status = 4 ∨ m.status = 5) : wellFormed c x m = true ↔ End c m := by
  have e1 : (m.status == 3 || m.status == 4 || m.status == 5) = true := by rcases hr with h | h | h <;> simp [h]
  unfold wellFormed
  simp only [e1, if_true, Bool.and_eq_true, Bool.or_eq_true, Bool.not_eq_true', decide_eq_true_eq, beq_iff_eq, party]
  constructor
  · rintro ⟨⟨⟨⟨h1, h2⟩, h3⟩, h4⟩, h5⟩; exact ⟨hr, h1, h2, ⟨h3, h4⟩, h5⟩
  · rintro ⟨_, h1, h2, h3, h5⟩; exact ⟨⟨⟨⟨h1, h2⟩, h3.1⟩, h3.2⟩, h5⟩
theorem wf_status {c : Contract} {x : Clause} {m : Mark} (h : wellFormed c x m = true) : m.status = 0 ∨ Run c x m ∨ End c m := by
  by_cases h0 : m.status = 0
  · exact .inl h0
  by_cases h1 : m.status = 1 ∨ m.status = 2
  · exact .inr (.inl ((wf_run h1).1 h))
  by_cases h2 : m.status = 3 ∨ m.status = 4 ∨ m.status = 5
  · exact .inr (.inr ((wf_end h2).1 h))
  · unfold wellFormed at h
    rw [if_neg (by simpa [or_assoc] using h2), if_neg (by simpa using h0), if_neg (by simpa using h1)] at h
    cases h
theorem runs_iff {m : Mark} : runs m = true ↔ m.status = 1 ∨ m.status = 2 := by unfold runs; simp
theorem Run.wf {c : Contract} {x : Clause} {m : Mark} (h : Run c x m) : wellFormed c x m = true := (wf_run h.st).2 h
theorem End.wf {c : Contract} {x : Clause} {m : Mark} (h : End c m) : wellFormed c x m = true := (wf_end h.st).2 h
theorem Run.bear {c : Contract} {x : Clause} {m : Mark} (h : Run c x m) : (0 ≤ m.bearer ∧ m.bearer < c.parties) ∨ m.bearer = -1 := by rcases h.bearer with h | h <;> omega
theorem Run.got9 {c : Contract} {x : Clause} {m : Mark} (h : Run c x m) (hc : COk c x) : 0 ≤ m.got ∧ m.got ≤ 9 := by
  have := h.got
  have := hc.need
  split at * <;> omega
/-- A mark after its clause has ended. -/
theorem Run.toEnd {c : Contract} {x : Clause} {m : Mark} (h : Run c x m) (hc : COk c x) {st : Int} (hs : st = 3 ∨ st = 4 ∨ st = 5) : End c (ended m st) := ⟨hs, rfl, rfl, h.got9 hc, h.bear⟩
theorem older_wf {c : Contract} {x : Clause} {m : Mark} (h : Run c x m) (hc : COk c x) (hp : m.paused = false) : (older x { m with left := m.left - 1 }).status ≠ 0 ∧ wellFormed c x (older x { m with left := m.left - 1 }) = true := by
  have hend : ∀ st : Int, st = 3 ∨ st = 4 ∨ st = 5 → End c { m with left := 0, status := st, paused := false } := fun st hs => h.toEnd hc hs
  unfold older
  split
  · rename_i hk
    simp only [beq_iff_eq] at hk
    split
    · rename_i hg
      simp only [Bool.and_eq_true, beq_iff_eq, decide_eq_true_eq] at hg
      refine ⟨by simp, Run.wf ⟨.inr rfl, h.waived, ?_, ?_, fun hq => absurd (hp.symm.trans hq) (by simp), h.bearer⟩⟩
      · simpa [hk] using h.got
      · simp only [if_true]; omega
    · exact ⟨by simp, (hend 4 (by simp)).wf⟩
  · split
    · exact ⟨by simp, (hend 3 (by simp)).wf⟩
    · exact ⟨by simp, (hend 5 (by simp)).wf⟩
theorem dayM_wf {c : Contract} {s : State} {i : Nat} {m : Mark} (h : wellFormed c (at_ c.clauses (i : Int)) m = true) (hc : COk c (at_ c.clauses (i : Int))) : wellFormed c (at_ c.clauses (i : Int)) (dayM c s i m) = true := by
  unfold dayM
  split
  case isFalse => exact h
  rename_i hr
  rw [runs_iff] at hr
  have hR := (wf_run hr).1 h
  unfold dayMark
  split
  · exact h
  rename_i hp
  simp only [Bool.or_eq_true, not_or, Bool.not_eq_true] at hp
  split
  · exact (older_wf hR hc hp.1).2
  · rename_i hz
    simp only [beq_iff_eq] at hz
    have hl := hR.left
    exact Run.wf ⟨hr, hR.waived, hR.got, ⟨by simp only; omega, by simp only; omega⟩, fun hq => absurd (hp.1.symm.trans hq) (by simp), hR.bearer⟩
theorem counted_wf {c : Contract} {x : Clause} {m : Mark} (h : Run c x m) (hc : COk c x) : wellFormed c x (countedM x m) = true := by
  unfold countedM
  split
  · rename_i hk
    simp only [beq_iff_eq] at hk
    have hg := h.got
    rw [if_pos hk] at hg
    have hn := hc.need
    split
    · rename_i he
      simp only [beq_iff_eq] at he
      exact End.wf ⟨.inl rfl, rfl, rfl, ⟨by simp only [ended]; omega, by simp only [ended]; omega⟩, h.bear⟩
    · rename_i he
      simp only [beq_iff_eq] at he
      exact Run.wf ⟨h.st, h.waived, by simp only [hk, if_true]; omega, h.left, h.paused, h.bearer⟩
  · split
    · split
      · exact h.wf
      · exact (h.toEnd hc (by simp)).wf
    · exact (h.toEnd hc (by simp)).wf
theorem actM_wf {c : Contract} {s : State} {k : Int} {i : Nat} {m : Mark} (h : wellFormed c (at_ c.clauses (i : Int)) m = true) (hc : COk c (at_ c.clauses (i : Int))) (hk : 0 ≤ k) (hto : (at_ c.acts k).kind = 3 → 0 ≤ (at_ c.acts k).to ∧ (at_ c.acts k).to < c.parties) :
    wellFormed c (at_ c.clauses (i : Int)) (actM c s k i m) = true := by
  unfold actM
  split
  · exact h
  have h1 : wellFormed c (at_ c.clauses (i : Int)) (if runs m then actMark c k (doer c s k) i m else m) = true := by
    split
    case isFalse => exact h
    rename_i hr
    rw [runs_iff] at hr
    have hR := (wf_run hr).1 h
    unfold actMark
    simp only
    have hR1 : Run c (at_ c.clauses (i : Int)) (if (at_ c.clauses (i : Int)).pause == k then { m with paused := true } else m) := by
      split
      · rename_i hp
        simp only [beq_iff_eq] at hp
        exact ⟨hR.st, hR.waived, hR.got, hR.left, fun _ => by omega, hR.bearer⟩
      · exact hR
    generalize (if (at_ c.clauses (i : Int)).pause == k then { m with paused := true } else m) = m1 at *
    have hR2 : Run c (at_ c.clauses (i : Int)) (if (at_ c.clauses (i : Int)).resume == k then { m1 with paused := false } else m1) := by
      split
      · exact ⟨hR1.st, hR1.waived, hR1.got, hR1.left, fun hq => absurd hq (by simp), hR1.bearer⟩
      · exact hR1
    generalize (if (at_ c.clauses (i : Int)).resume == k then { m1 with paused := false } else m1) = m2 at *
    split
    · exact counted_wf hR2 hc
    · exact hR2.wf
  generalize (if runs m then actMark c k (doer c s k) i m else m) = m1 at *
  simp only
  split
  case isFalse => exact h1
  rename_i h3
  simp only [beq_iff_eq] at h3
  split
  case isFalse => exact h1
  rename_i hr
  rw [runs_iff] at hr
  have hR := (wf_run hr).1 h1
  unfold novMark
  split
  · rename_i hn
    simp only [Bool.and_eq_true, bne_iff_ne, ne_eq] at hn
    exact Run.wf ⟨hR.st, hR.waived, hR.got, hR.left, hR.paused, .inr ⟨hn.1, hto h3⟩⟩
  · exact h1
theorem core_tick {c : Contract} {s : State} (h : Core c s) (hd : s.day ≠ c.days) : Core c { tickS c s with day := s.day + 1 } := by
  have hv := valid2_ok h.con
  have hday := h.day
  refine ⟨h.con, by simp only; omega, h.hl, h.ul, (tick_len c s).trans h.ml, h.holders, h.used, fun i hi => ?_⟩
  have hi' : i < s.marks.length := by rw [← tick_len c s]; exact hi
  show wellFormed c _ (at_ (tickS c s).marks _) = true
  rw [tick_at h.ml hi']
  exact dayM_wf (h.marks i hi') (hv.clause i (by rw [← h.ml]; exact hi'))
theorem at_act {c : Contract} {k : Int} (h0 : 0 ≤ k) (h1 : k < len c.acts) : at_ c.acts k ∈ c.acts := by
  rw [← at_nn]; exact at_mem (by simp only [len] at h1; omega)
theorem core_do {c : Contract} {s : State} {k : Int} (h : Core c s) (h0 : 0 ≤ k) (h1 : k < len c.acts) : Core c (doS c s k) := by
  have hv := valid2_ok h.con
  have hact := hv.acts _ (at_act h0 h1)
  have hto : (at_ c.acts k).kind ≠ 1 → 0 ≤ (at_ c.acts k).to ∧ (at_ c.acts k).to < c.parties := fun hk => (act_moves hact hk).2.2.2
  refine ⟨h.con, by rw [do_day]; exact h.day, ?_, ?_, (do_len c s k).trans h.ml, ?_, ?_, fun i hi => ?_⟩
  · rw [do_holders]; split <;> simp [h.hl]
  · rw [do_used]; split <;> simp [h.ul]
  · rw [do_holders]
    split
    · exact h.holders
    · rename_i hn
      simp only [not_or] at hn
      intro p hp
      rcases List.mem_or_eq_of_mem_set hp with hp | rfl
      · exact h.holders p hp
      · exact hto hn.2
  · rw [do_used]
    split
    · exact h.used
    · rename_i hn
      simp only [not_or] at hn
      intro i hi hu
      rw [List.length_set] at hi
      by_cases hik : k.toNat = i
      · subst hik; rw [at_nn]; exact hn.2
      · have : at_ (s.used.set k.toNat true) (i : Int) = at_ s.used (i : Int) := by simp [at_, List.getD, hik]
        rw [this] at hu
        exact h.used i hi hu
  · have hi' : i < s.marks.length := by rw [← do_len c s k]; exact hi
    rw [do_at h.ml hi']
    exact actM_wf (h.marks i hi') (hv.clause i (by rw [← h.ml]; exact hi')) h0 fun h3 => hto (by omega)
theorem core_start {c : Contract} (h : (valid2 c).1 = 0) : Core c (state0 c) := by
  have hv := valid2_ok h
  have hp := hv.pos
  refine ⟨h, by simp only [state0]; omega, rfl, by simp [state0], by simp [state0], hv.holders, fun i hi hu => ?_, fun i hi => ?_⟩
  · simp [state0] at hi
    have : at_ (state0 c).used (i : Int) = false := by simp [state0, at_, List.getD, List.getElem?_replicate, hi]
    rw [this] at hu; cases hu
  · simp only [state0, List.length_map] at hi
    have : at_ (state0 c).marks (i : Int) = mark0 (at_ c.clauses (i : Int)) := by simp [state0, at_, List.getD, hi]
    rw [this]
    unfold wellFormed mark0 party
    cases hw : (at_ c.clauses (i : Int)).waived <;> simp [hw]
theorem start_valid {c : Contract} (h : (valid2 c).1 = 0) : sValid c (begin_ c (state0 c)) = true := (core_start h).begin
theorem begin_day {c : Contract} {s : State} (hl : s.marks.length = c.clauses.length) : (begin_ c s).day = s.day := by
  obtain ⟨ms, h1, _⟩ := begin_spec (c := c) (s := s) hl; rw [h1]
theorem begin_holders {c : Contract} {s : State} (hl : s.marks.length = c.clauses.length) : (begin_ c s).holders = s.holders := by
  obtain ⟨ms, h1, _⟩ := begin_spec (c := c) (s := s) hl; rw [h1]
theorem begin_used {c : Contract} {s : State} (hl : s.marks.length = c.clauses.length) : (begin_ c s).used = s.used := by
  obtain ⟨ms, h1, _⟩ := begin_spec (c := c) (s := s) hl; rw [h1]
/-- What a step that is not refused gives. -/
def mid (c : Contract) (s : State) (k : Int) : State := if k == -1 then { tickS c s with day := s.day + 1 } else doS c s k
structure Stepped (c : Contract) (s : State) (k : Int) (t : State) : Prop where
  pre : Core c s
  idle : ∀ i : Nat, i < s.marks.length → ready c s (i : Int) = false
  rng : -1 ≤ k ∧ k < len c.acts
  day : s.day ≠ c.days
  core : Core c (mid c s k)
  eq : t = begin_ c (mid c s k)
  valid : sValid c t = true
theorem step_ok {c : Contract} {s : State} {k : Int} (h : (step c s k).2 = 0) : Stepped c s k (step c s k).1 := by
  unfold step at h ⊢
  split at h
  · simp at h
  rename_i h1
  split at h
  · simp at h
  rename_i h2
  rw [if_neg h1, if_neg h2]
  simp only [Bool.or_eq_true, not_or, Bool.not_eq_true', Bool.not_eq_false, decide_eq_true_eq] at h1
  simp only [beq_iff_eq] at h2
  obtain ⟨hc, hr⟩ := sValid_iff.1 h1.1.1
  have hm : Core c (mid c s k) := by
    unfold mid
    split
    · exact core_tick hc h2
    · rename_i hk
      simp only [beq_iff_eq] at hk
      exact core_do hc (by omega) (by omega)
  exact ⟨hc, hr, by omega, h2, hm, rfl, hm.begin⟩
theorem mid_len (c : Contract) (s : State) (k : Int) : (mid c s k).marks.length = s.marks.length := by
  unfold mid; split
  · exact tick_len c s
  · exact do_len c s k
/-- A mark after a step, before clauses start. -/
def midM (c : Contract) (s : State) (k : Int) (i : Nat) (m : Mark) : Mark := if k == -1 then dayM c s i m else actM c s k i m
theorem mid_at {c : Contract} {s : State} {k : Int} (hl : s.marks.length = c.clauses.length) {i : Nat} (hi : i < s.marks.length) : at_ (mid c s k).marks (i : Int) = midM c s k i (at_ s.marks (i : Int)) := by
  unfold mid midM; split
  · exact tick_at hl hi
  · exact do_at hl hi
theorem Stepped.len {c : Contract} {s t : State} {k : Int} (h : Stepped c s k t) : t.marks.length = s.marks.length := by
  obtain ⟨ms, h1, h2, _⟩ := begin_spec (c := c) (s := mid c s k) h.core.ml
  rw [h.eq, h1]; exact h2.len.trans (mid_len c s k)
theorem Stepped.hold {c : Contract} {s t : State} {k : Int} (h : Stepped c s k t) : t.holders = (mid c s k).holders := by rw [h.eq]; exact begin_holders h.core.ml
theorem Stepped.use {c : Contract} {s t : State} {k : Int} (h : Stepped c s k t) : t.used = (mid c s k).used := by rw [h.eq]; exact begin_used h.core.ml
theorem Stepped.began {c : Contract} {s t : State} {k : Int} (h : Stepped c s k t) : Began c (mid c s k) t.marks := by
  obtain ⟨ms, h1, h2, _⟩ := begin_spec (c := c) (s := mid c s k) h.core.ml
  rw [h.eq, h1]; exact h2
/-- A step leaves marks of clauses that do not run. -/
theorem midM_still {c : Contract} {s : State} {k : Int} {i : Nat} {m : Mark} (h : runs m = false) : midM c s k i m = m := by
  unfold midM dayM actM
  simp only [h, Bool.false_eq_true, if_false]
  split
  · rfl
  · split
    · rfl
    · split <;> rfl
theorem older_runs {x : Clause} {m : Mark} : (older x m).status ≠ 0 ∧ (m.status = 2 → (older x m).status ≠ 1) ∧ ((older x m).status = 1 → False) := by
  unfold older
  split
  · split <;> simp
  · split <;> simp
theorem counted_st {x : Clause} {m : Mark} : (countedM x m).status = m.status ∨ (countedM x m).status = 3 ∨ (countedM x m).status = 4 := by
  unfold countedM ended
  split
  · split <;> simp
  · split
    · split <;> simp
    · simp
theorem dayMark_st {c : Contract} {s : State} {i : Nat} {m : Mark} : (dayMark c s i m).status = m.status ∨ ((dayMark c s i m).status ≠ 0 ∧ (dayMark c s i m).status ≠ 1) := by
  unfold dayMark
  split
  · exact .inl rfl
  · split
    · have h := older_runs (x := at_ c.clauses (i : Int)) (m := { m with left := m.left - 1 })
      exact .inr ⟨h.1, fun h1 => h.2.2 h1⟩
    · exact .inl rfl
theorem actMark_st {c : Contract} {k w : Int} {i : Nat} {m : Mark} : (actMark c k w i m).status = m.status ∨ (actMark c k w i m).status = 3 ∨ (actMark c k w i m).status = 4 := by
  unfold actMark
  simp only
  have e1 : (if (at_ c.clauses (i : Int)).pause == k then { m with paused := true } else m).status = m.status := by split <;> rfl
  generalize (if (at_ c.clauses (i : Int)).pause == k then { m with paused := true } else m) = m1 at *
  have e2 : (if (at_ c.clauses (i : Int)).resume == k then { m1 with paused := false } else m1).status = m1.status := by split <;> rfl
  generalize (if (at_ c.clauses (i : Int)).resume == k then { m1 with paused := false } else m1) = m2 at *
  rw [← e1, ← e2]
  split
  · exact counted_st
  · exact .inl rfl
theorem novMark_st {c : Contract} {a : ActT} {i : Nat} {m : Mark} : (novMark c a i m).status = m.status := by unfold novMark; split <;> rfl
theorem midM_st {c : Contract} {s : State} {k : Int} {i : Nat} {m : Mark} : (midM c s k i m).status = m.status ∨ ((midM c s k i m).status ≠ 0 ∧ (midM c s k i m).status ≠ 1) := by
  unfold midM dayM actM
  split
  · split
    · exact dayMark_st
    · exact .inl rfl
  · split
    · exact .inl rfl
    · have h1 : (if runs m then actMark c k (doer c s k) i m else m).status = m.status ∨ ((if runs m then actMark c k (doer c s k) i m else m).status ≠ 0 ∧ (if runs m then actMark c k (doer c s k) i m else m).status ≠ 1) := by
        split
        · rcases actMark_st (c := c) (k := k) (w := doer c s k) (i := i) (m := m) with h | h | h
          · exact .inl h
          · exact .inr (by omega)
          · exact .inr (by omega)
        · exact .inl rfl
      generalize (if runs m then actMark c k (doer c s k) i m else m) = m1 at *
      simp only
      split
      · split
        · rw [novMark_st]; exact h1
        · exact h1
      · exact h1
theorem Core.role {c : Contract} {s : State} (h : Core c s) {a : Int} (ha : 0 ≤ a ∧ a < len c.acts) (hr : (at_ c.acts a).role ≠ -1) : 0 ≤ (at_ c.acts a).role ∧ (at_ c.acts a).role < len s.holders := by
  have := act_role ((valid2_ok h.con).acts _ (at_act ha.1 ha.2)) hr
  have hl := h.hl
  simp only [len] at this ⊢
  omega
theorem Core.give {c : Contract} {s : State} (h : Core c s) {a : Int} (ha : 0 ≤ a ∧ a < len c.acts) (hk : (at_ c.acts a).kind ≠ 1) : 0 ≤ (at_ c.acts a).give ∧ (at_ c.acts a).give < len s.holders := by
  have := (act_moves ((valid2_ok h.con).acts _ (at_act ha.1 ha.2)) hk).2.2.1
  have hl := h.hl
  simp only [len] at this ⊢
  omega
theorem Core.running {c : Contract} {s : State} (h : Core c s) {i : Nat} (hi : i < c.clauses.length) (hr : runs (at_ s.marks (i : Int)) = true) : Run c (at_ c.clauses (i : Int)) (at_ s.marks (i : Int)) :=
  (wf_run (runs_iff.1 hr)).1 (h.marks i (by rw [h.ml]; exact hi))
theorem off_len {days : Int} : ∀ (l : List Int) (last : Int), last < days → offOk days last l = true → (l.length : Int) ≤ days - 1 - last
  | [], last, h0, _ => by simp only [List.length_nil]; omega
  | d :: l, last, h0, h => by
    unfold offOk at h
    split at h
    · cases h
    rename_i h1
    simp only [Bool.or_eq_true, decide_eq_true_eq, not_or] at h1
    have := off_len l d (by omega) h
    simp only [List.length_cons]
    omega
theorem begin_eq {c : Contract} {s : State} (hl : s.marks.length = c.clauses.length) : begin_ c s = { s with marks := (begin_ c s).marks } := by
  obtain ⟨ms, h1, _⟩ := begin_spec (c := c) (s := s) hl; rw [h1]
theorem begin_len {c : Contract} {s : State} (hl : s.marks.length = c.clauses.length) : (begin_ c s).marks.length = s.marks.length := by
  obtain ⟨ms, h1, h2, _⟩ := begin_spec (c := c) (s := s) hl; rw [h1]; exact h2.len
end Es
end
section
/-
  What the statements about states ask, as plain functions.
-/
namespace Es
def small (c : Contract) (n : Int) : Bool :=
  if decide (20 < len c.holders) || decide (30 < len c.units) || decide (70 < len c.acts) || decide (n < len c.clauses) || decide (100 < len c.off) then false
  else c.clauses.all fun x => decide (len x.start ≤ 20)
def few (s : State) : Bool := decide (len s.holders ≤ 20) && decide (len s.used ≤ 70) && decide (len s.marks ≤ 60)
def endedB (m : Mark) : Bool := m.status == 3 || m.status == 4 || m.status == 5
def holdsB (ms : List Mark) (x : Cond) : Bool := if x.is == 1 then (at_ ms x.clause).status != 0 else (at_ ms x.clause).status == x.is + 1
def countsB (c : Contract) (x : Clause) (m : Mark) (day : Int) : Bool := if !runs m || m.paused then false else !c.off.any fun d => d == day && x.business
def fitsB (c : Contract) (s t : State) : Bool :=
  (len s.marks == len c.clauses && len s.holders == len c.holders && len s.used == len c.acts) && len t.marks == len s.marks && len t.holders == len s.holders && len t.used == len s.used
def runL (c : Contract) (l : List Int) : State × Int := l.foldl (fun p k => if p.2 == 0 then step c p.1 k else p) (start c)
theorem runL_stop {c : Contract} {p : State × Int} (h : ¬ (p.2 == 0) = true) : ∀ l : List Int, l.foldl (fun (p : State × Int) k => if p.2 == 0 then step c p.1 k else p) p = p
  | [] => rfl
  | k :: l => by
    simp only [List.foldl_cons]
    rw [if_neg h]
    exact runL_stop h l
theorem sfits_nil : SFits ⟨0, [], [], []⟩ := ⟨by simp, by simp, by simp⟩
theorem sfits_core {c : Contract} {s : State} (h : Core c s) : SFits s := by
  have hv := (valid2_ok h.con).small
  exact ⟨by have := h.hl; omega, by have := h.ul; omega, by have := h.ml; omega⟩
theorem sfits_step (c : Contract) (s : State) (k : Int) : SFits (step c s k).1 := by
  by_cases h : (step c s k).2 = 0
  · exact sfits_core (sValid_iff.1 (step_ok h).valid).1
  · unfold step at h ⊢
    split
    · exact sfits_nil
    · split
      · exact sfits_nil
      · rename_i h1 h2
        rw [if_neg h1, if_neg h2] at h; exact absurd rfl h
theorem sfits_start (c : Contract) : SFits (start c).1 := by
  unfold start
  split
  · exact sfits_nil
  · rename_i h
    have h' : (valid2 c).1 = 0 := by simpa using h
    exact sfits_core (sValid_iff.1 (start_valid h')).1
theorem sfits_run (c : Contract) (l : List Int) : SFits (runL c l).1 := by
  have key : ∀ (l : List Int) (p : State × Int), SFits p.1 → SFits (l.foldl (fun (p : State × Int) k => if p.2 == 0 then step c p.1 k else p) p).1 := by
    intro l
    induction l with
    | nil => exact fun _ h => h
    | cons k l ih =>
      intro p h
      simp only [List.foldl_cons]
      split
      · exact ih _ (sfits_step c p.1 k)
      · exact ih _ h
  exact key l _ (sfits_start c)
/-- The contract of the chapter's example. -/
def sample : Contract :=
  ⟨2, [0, 1], [], [⟨1, 0, 0, -1, -1, ⟨0, 1⟩⟩, ⟨1, 1, 0, -1, -1, ⟨0, 1⟩⟩],
    [⟨1, 0, 0, 1, [], 2, 1, false, true, -1, -1, ⟨0, 1⟩, -1, -1, false⟩, ⟨2, 1, 1, 1, [⟨0, 2⟩], 3, 0, false, false, -1, -1, ⟨0, 1⟩, -1, -1, false⟩], 9, []⟩
theorem sample_fits : Fits sample := ⟨by decide, by decide, by decide, by decide, by decide⟩
def sA : State := ⟨0, [0, 1], [false, false], [⟨1, 2, 0, 0, false⟩, ⟨0, 0, 0, -1, false⟩]⟩
def sB : State := ⟨0, [0, 1], [false, false], [⟨3, 0, 1, 0, false⟩, ⟨1, 3, 0, 1, false⟩]⟩
def sD : State := ⟨2, [0, 1], [false, false], [⟨2, 1, 0, 0, false⟩, ⟨0, 0, 0, -1, false⟩]⟩
def sK : State := ⟨3, [0, 1], [false, false], [⟨4, 0, 0, 0, false⟩, ⟨0, 0, 0, -1, false⟩]⟩
def sM : State := ⟨0, [0, 1], [false, false], [⟨3, 0, 1, 0, false⟩, ⟨4, 0, 0, 1, false⟩]⟩
theorem runA : runL sample [] = (sA, 0) := by rfl
theorem runB : runL sample [0] = (sB, 0) := by rfl
theorem runD : runL sample [-1, -1] = (sD, 0) := by rfl
theorem runK : runL sample [-1, -1, -1] = (sK, 0) := by rfl
theorem runM : runL sample [0, 1] = (sM, 0) := by rfl
theorem breK0 : breach sample sK 0 = true := by rfl
theorem breK1 : breach sample sK 1 = false := by rfl
theorem breM1 : breach sample sM 1 = false := by rfl
theorem sfK : SFits sK := ⟨by decide, by decide, by decide⟩
theorem sfM : SFits sM := ⟨by decide, by decide, by decide⟩
end Es
end
section
namespace Go.Proofs
open Go Go.Abs
set_option linter.unusedSimpArgs false
set_option maxRecDepth 10000

def Tryd.gl : Nat → Option D
  | 1 => some (.rp 2 (ratC Es.wholeR) 0)
  | 0 => some (.rp 2 (ratC Es.noneR) 0)
  | _ => none
@[go_sem] theorem Tryd.gl_whole : Tryd.gl 1 = some (.rp 2 (ratC Es.wholeR) 0) := nr rfl
@[go_sem] theorem Tryd.gl_none : Tryd.gl 0 = some (.rp 2 (ratC Es.noneR) 0) := nr rfl
noncomputable def Tryd.M : Ctx := { P := Tryd.prog, G := Tryd.gl, X := fun _ _ => False, N := 0, r := none, b := 0 }
@[go_sem] theorem Tryd.M_P : Tryd.M.P = Tryd.prog := nr rfl
@[go_sem] theorem Tryd.M_G : Tryd.M.G = Tryd.gl := nr rfl
theorem Tryd.gpu (g : Nat) (x : D) (h : Tryd.M.G g = some x) : Pu x := by
  rw [Tryd.M_G] at h
  unfold Tryd.gl at h
  split at h <;> first
    | (cases h; done)
    | (simp only [Option.some.injEq] at h; subst h; exact pu_rp (pu_ratC _))

namespace Tryd
theorem under_spec (i n : Int) : APure M 92 [.v (.int .i64 i), .v (.int .i64 n)] (.v (.bool (Es.under i n))) := by
  refine pure_of gpu func92 rfl results92 ntmps92 (by simp) ⟨.v _, .v _, trivial⟩ ?_
  intro b
  simp only [go_sem, ↓reduceIte, reduceCtorEq, Nat.reduceEqDiff, Nat.reduceLT, Nat.reduceLeDiff, Nat.reduceAdd, Nat.reduceSub, Nat.reduceMul, Nat.reduceGT, Int.reduceNeg, Int.reduceToNat]
  split <;> simp_all [Es.under] <;> omega

theorem within_spec (i l h : Int) : APure M 94 [.v (.int .i64 i), .v (.int .i64 l), .v (.int .i64 h)] (.v (.bool (Es.within i l h))) := by
  refine pure_of gpu func94 rfl results94 ntmps94 (by simp) ⟨.v _, .v _, .v _, trivial⟩ ?_
  intro b
  simp only [go_sem, ↓reduceIte, reduceCtorEq, Nat.reduceEqDiff, Nat.reduceLT, Nat.reduceLeDiff, Nat.reduceAdd, Nat.reduceSub, Nat.reduceMul, Nat.reduceGT, Int.reduceNeg, Int.reduceToNat]
  split <;> simp_all [Es.within] <;> omega

theorem moves_spec (a : Es.ActT) : APure M 115 [actD a] (.v (.bool (Es.moves a))) := by
  refine pure_of gpu func115 rfl results115 ntmps115 (by simp) ⟨pu_actD _, trivial⟩ ?_
  intro b
  simp only [go_sem, ↓reduceIte, reduceCtorEq, Nat.reduceEqDiff, Nat.reduceLT, Nat.reduceLeDiff, Nat.reduceAdd, Nat.reduceSub, Nat.reduceMul, Nat.reduceGT, Int.reduceNeg, Int.reduceToNat]
  split <;> simp_all [Es.moves]

theorem natural_spec (c : Es.Contract) (a : Int) : APure M 93 [conD c, .v (.int .i64 a)] (.v (.bool (Es.natural c a))) := by
  refine pure_of gpu func93 rfl results93 ntmps93 (by simp) ⟨pu_conD _, .v _, trivial⟩ ?_
  intro b
  simp only [go_sem, ↓reduceIte, reduceCtorEq, Nat.reduceEqDiff, Nat.reduceLT, Nat.reduceLeDiff, Nat.reduceAdd, Nat.reduceSub, Nat.reduceMul, Nat.reduceGT, Int.reduceNeg, Int.reduceToNat]
  refine call_at M_P M_G (under_spec _ _) ?_
  simp only [go_sem, ↓reduceIte, reduceCtorEq, Nat.reduceEqDiff, Nat.reduceLT, Nat.reduceLeDiff, Nat.reduceAdd, Nat.reduceSub, Nat.reduceMul, Nat.reduceGT, Int.reduceNeg, Int.reduceToNat]
  simp only [Es.natural, Es.under]
  repeat' (first | split | apply And.intro)
  all_goals simp_all <;> omega
end Tryd
end Go.Proofs
end
section
namespace Go.Proofs
open Go Go.Abs Go.ChangeShapes Go.WideShapes Go.ChangeAt Go.RowKit
set_option linter.unusedSimpArgs false
set_option linter.unusedVariables false
set_option maxRecDepth 100000
/-- Arguments read behind the call as they did. -/
theorem args_stay {H : Type} {enc : TypeId × Value → H} {P : Program} (hl : laidOutB P = true) {W W' : World} (hb : Below W.heap.size W W') {sp : Nat → Bool} : ∀ {ts : List TypeId} {vs : List Value} {ds : List (DataW H)} {p : List MemPlace},
    (∀ t ∈ ts, P.readableRec t = true ∧ t < P.types.size) → DataW.TrodAll enc P W 0 (fun _ => true) true ts vs ds p → (∀ x ∈ p, x.block < W.heap.size) → (∀ x ∈ p, sp x.block = true) → DataW.TrodAll enc P W' 0 sp true ts vs ds p
  | [], _, _, _, _, h, _, _ => by obtain ⟨rfl, rfl, rfl⟩ := trodAll_nil h; rfl
  | t :: ts, _, _, _, ht, h, hlt, hsp => by
    obtain ⟨v, vs, d, ds, a, b, rfl, rfl, rfl, h1, h2⟩ := trodAll_cons h
    have h3 := ht t (by simp)
    exact ⟨a, b, WideElems.Trod_stays hl h3.1 h3.2 h1 (fun x hx => hb.same (hlt x (by simp [hx]))) (fun x hx => hsp x (by simp [hx])),
      args_stay hl hb (fun t ht' => ht t (by simp [ht'])) h2 (fun x hx => hlt x (by simp [hx])) (fun x hx => hsp x (by simp [hx])), rfl⟩
theorem okWide_agg {P : Program} {W : World} {r : Reach} {b : Nat} {t : TypeId} {fs : Array Field} {v : Value} (ht : P.underlying t = some (.struct fs)) (h : Value.okWide P W r b t v) : ∃ cs : List Value, v = .agg cs.toArray := by
  simp only [Value.okWide, ht] at h
  obtain ⟨cs, rfl, _⟩ := h
  exact ⟨cs.toList, by simp⟩
namespace Tryd
theorem rowLaidOut : laidOutB prog = true := by kernel_rfl
theorem own : ownKnob prog.godebug = none := by kernel_rfl
section
variable {H : Type} {enc : TypeId × Value → H} {W : World} {spare : Nat → Bool} {held : Bool} {r : Reach} {b : Nat} {v : Value} {d : DataW H} {p : List MemPlace}
theorem arg_contract (hv : Value.okWide prog W r b 27 v) (h : DataW.Trod enc prog W 0 spare held 27 v d p) : ∃ c : Es.Contract, Es.Fits c ∧ (cfg0 W).Rep (conD c) v := by
  obtain ⟨cs, rfl⟩ := okWide_agg underlying27 hv
  obtain ⟨fuel, hf⟩ := h
  have hm : maxLen ≤ 9223372036854775807 := by decide
  obtain ⟨c, h1, h2, h3, h4, h5, h6⟩ := rd_contract (show Treads enc prog W spare held fuel 27 cs (d, p) from hf)
  refine ⟨c, ⟨by omega, by omega, by omega, by omega, by omega⟩, agg_of_row (row := conC c) h6 fun i d hi => ?_⟩
  rcases i with _ | _ | _ | _ | _ | _ | _ | i <;> first | (simp at hi; subst hi; rfl) | (simp at hi)
theorem arg_state (hv : Value.okWide prog W r b 40 v) (h : DataW.Trod enc prog W 0 spare held 40 v d p) : ∃ s : Es.State, Es.SFits s ∧ (cfg0 W).Rep (staD s) v := by
  obtain ⟨cs, rfl⟩ := okWide_agg underlying40 hv
  obtain ⟨fuel, hf⟩ := h
  have hm : maxLen ≤ 9223372036854775807 := by decide
  obtain ⟨s, h1, h2, h3, h6⟩ := rd_state (show Treads enc prog W spare held fuel 40 cs (d, p) from hf)
  refine ⟨s, ⟨by omega, by omega, by omega⟩, agg_of_row (row := staC s) h6 fun i d hi => ?_⟩
  rcases i with _ | _ | _ | _ | i <;> first | (simp at hi; subst hi; rfl) | (simp at hi)
theorem arg_int (hv : Value.okWide prog W r b 3 v) (h : DataW.Trod enc prog W 0 spare held 3 v d p) : ∃ n : Int, (-9223372036854775808 ≤ n ∧ n ≤ 9223372036854775807) ∧ (cfg0 W).Rep (.v (.int .i64 n)) v := by
  obtain ⟨n, rfl, _, _, hw⟩ := open_int underlying3 hv h
  refine ⟨n, ?_, .v _⟩
  simp only [Lit.wf, IntKind.min, IntKind.max, IntKind.signed, IntKind.bits, Bool.and_eq_true, decide_eq_true_eq] at hw
  simp at hw
  omega
theorem arg_u8 (hv : Value.okWide prog W r b 5 v) (h : DataW.Trod enc prog W 0 spare held 5 v d p) : ∃ n : Int, (0 ≤ n ∧ n ≤ 255) ∧ (cfg0 W).Rep (.v (.int .u8 n)) v := by
  obtain ⟨n, rfl, _, _, hw⟩ := open_int underlying5 hv h
  refine ⟨n, ?_, .v _⟩
  simp only [Lit.wf, IntKind.min, IntKind.max, IntKind.signed, IntKind.bits, Bool.and_eq_true, decide_eq_true_eq] at hw
  simp at hw
  omega
theorem cells_one {v : Value} (h : ∀ cs, v ≠ .agg cs) : v.cells = #[v] := by
  cases v <;> first | rfl | exact absurd rfl (h _)
theorem arg_ints (hv : Value.okWide prog W r b 22 v) (h : DataW.Trod enc prog W 0 spare held 22 v d p) : ∃ l : List Int, l.length ≤ maxLen ∧ (cfg0 W).Rep (slD 1 intC l) v := by
  have hc : v.cells = #[v] := cells_one fun cs he => by
    subst he
    simp [Value.okWide, underlying22, Cell.okWide, Cell.ok] at hv
  obtain ⟨fuel, hf⟩ := h
  rw [hc] at hf
  obtain ⟨l, h1, h2⟩ := rd_slice (f := intC) underlying22 c_int (by decide) (fun _ _ _ h => rd_i h) (show Treads enc prog W spare held fuel 22 [v] (d, p) from hf)
  exact ⟨l, h1, (h2.2 0 (by decide)).2⟩
theorem arg_amends (hv : Value.okWide prog W r b 56 v) (h : DataW.Trod enc prog W 0 spare held 56 v d p) : ∃ l : List Es.Amend, l.length ≤ 9223372036854775807 ∧ (cfg0 W).Rep (slD 22 amdC l) v := by
  have hc : v.cells = #[v] := cells_one fun cs he => by
    subst he
    simp [Value.okWide, underlying56, Cell.okWide, Cell.ok] at hv
  obtain ⟨fuel, hf⟩ := h
  rw [hc] at hf
  have hm : maxLen ≤ 9223372036854775807 := by decide
  obtain ⟨l, h1, h2⟩ := rd_slice (f := amdC) underlying56 c_amend (by decide) (fun _ _ _ h => rd_amend h) (show Treads enc prog W spare held fuel 56 [v] (d, p) from hf)
  exact ⟨l, by omega, (h2.2 0 (by decide)).2⟩
end
/-- The laid variables. -/
def laidL : List (String × DataW Unit) := Go.Proofs.YtmdnombjckcfoaaDoor.Rows.projectAllRow.laid
theorem door_met (os : Os) (args : Array Value) : laidMetH prog laidL ((World.doorLaid prog 400 os).forCall (fun _ _ => 0) ⟨#[], args, []⟩).memory :=
  laidMetH_of_parts3 (fuel := 8) (laidMet_of_run' 8 (by kernel_rfl) (by kernel_rfl)) (by kernel_rfl) (by kernel_rfl)
theorem glob_ratio {W : World} {name : String} {g : Nat} {n m : Int} {t fuel : Nat} {cs : Array Value} {p : List MemPlace} (ht : t = 51) (hg : prog.globalNamed name = some g) (hv : W.var? prog name = some cs)
    (hd : DataW.trod (fun _ => ()) prog W 0 (fun _ => true) false fuel t cs.toList = some (.agg [.lit (.int .i64 n), .lit (.int .i64 m)], p)) : (cfg0 W).Rep (.rp 2 (ratC ⟨n, m⟩) 0) (.pointer (some ⟨g, 0, none⟩)) := by
  subst ht
  obtain ⟨xs, k, _, hx, hl, hxl, hf⟩ := DataW.trod_struct underlying51 hd
  rw [c_ratio] at hl
  have f0 : DataW.trod (fun _ => ()) prog W 0 (fun _ => true) false k 3 ((cs.toList.drop 0).take (prog.cellsOf 3)) = xs[0]? := hf 0 _ rfl
  have f1 : DataW.trod (fun _ => ()) prog W 0 (fun _ => true) false k 3 ((cs.toList.drop 1).take (prog.cellsOf 3)) = xs[1]? := hf 1 _ rfl
  rw [c_int] at f0 f1
  match xs, hxl with
  | [x0, x1], _ =>
    obtain ⟨n', h1, h2, _⟩ := DataW.trod_int underlying3 f0
    obtain ⟨m', k1, k2, _⟩ := DataW.trod_int underlying3 f1
    simp only [List.map_cons, List.map_nil, Prod.mk.injEq, DataW.agg.injEq, List.cons.injEq, and_true] at hx
    rw [h2, k2] at hx
    obtain ⟨⟨hx1, hx2⟩, _⟩ := hx
    simp only [DataW.lit.injEq, Lit.int.injEq, true_and] at hx1 hx2
    subst hx1 hx2
    obtain ⟨l⟩ := cs
    match l, hl with
    | [c0, c1], _ =>
      simp only [List.drop_zero, List.take_succ_cons, List.take_zero, List.drop_succ_cons, List.cons.injEq, and_true] at h1 k1
      subst h1 k1
      refine rp_of_row (xs := [.int .i64 n, .int .i64 m]) ⟨rfl, fun j hj => ?_⟩ (by decide) fun i => by simpa using World.var?_cell hg hv i
      have : j = 0 ∨ j = 1 := by omega
      rcases this with rfl | rfl <;> exact ⟨rfl, .v _⟩
theorem glob_ok {W : World} (h : laidMetH prog laidL W) : ∀ g d, M.G g = some d → (cfg0 W).Rep d (.pointer (some ⟨g, 0, none⟩)) := by
  rw [MakeChecks.laidMetH_plain _ _ _ (by kernel_rfl)] at h
  obtain ⟨ps, ⟨g0, t0, cs0, f0, p0, q0, hg0, ht0, hv0, hd0, ⟨g1, t1, cs1, f1, p1, q1, hg1, ht1, hv1, hd1, _, _⟩, _⟩, _, _⟩ := h
  obtain rfl := Option.some.inj ((show prog.globalNamed _ = some 1 by kernel_rfl).symm.trans hg0)
  obtain rfl := Option.some.inj ((show prog.globalNamed _ = some 0 by kernel_rfl).symm.trans hg1)
  have e0 := Option.some.inj ((show (prog.globals[1]?).map (·.type) = some 51 by kernel_rfl).symm.trans ht0)
  have e1 := Option.some.inj ((show (prog.globals[0]?).map (·.type) = some 51 by kernel_rfl).symm.trans ht1)
  have r0 := glob_ratio e0.symm hg0 hv0 hd0
  have r1 := glob_ratio e1.symm hg1 hv1 hd1
  intro g d hg
  rw [M_G] at hg
  unfold gl at hg
  split at hg
  · simp only [Option.some.injEq] at hg; subst hg; exact r0
  · simp only [Option.some.injEq] at hg; subst hg; exact r1
  · cases hg
end Tryd
end Go.Proofs
end
section
namespace Go.Proofs
open Go Go.Abs
set_option linter.unusedSimpArgs false
set_option maxRecDepth 10000
namespace Tryd
theorem mix : Tryd.prog.follows .mixedOrders = true := by kernel_rfl

theorem mag_spec (n : Int) : APure M 135 [.v (.int .i64 n)] (.v (.int .u64 (Es.mag n))) := by
  refine pure_of gpu func135 rfl results135 ntmps135 (by simp) ⟨.v _, trivial⟩ ?_
  intro b
  simp only [go_sem, ↓reduceIte, reduceCtorEq, Nat.reduceEqDiff, Nat.reduceLT, Nat.reduceLeDiff, Nat.reduceAdd, Nat.reduceSub, Nat.reduceMul, Nat.reduceGT, Int.reduceNeg, Int.reduceToNat]
  simp only [wrap_u64, Es.mag]
  split <;> simp_all
theorem common_spec (l : List Nat) (hl : l.length ≤ 9223372036854775807) : APure M 136 [slD 1 u64C l] (.v (.int .u64 (l.foldl Nat.gcd 0 : Nat))) := by
  refine pure_of gpu func136 rfl results136 ntmps136 (by simp) ⟨pu_slD pu_u64C _, trivial⟩ ?_
  intro b
  simp only [go_sem, ↓reduceIte, reduceCtorEq, Nat.reduceEqDiff, Nat.reduceLT, Nat.reduceLeDiff, Nat.reduceAdd, Nat.reduceSub, Nat.reduceMul, Nat.reduceGT, Int.reduceNeg, Int.reduceToNat]
  refine awp_count l.length (fun i e s => e 6 = slD 1 u64C l ∧ e 7 = .v (.int .i64 (Es.len l)) ∧ e 8 = .v (.int .i64 i) ∧ e 3 = .v (.int .u64 ((l.take i).foldl Nat.gcd 0 : Nat))) ?_ ?_
  · rintro i e s hi ⟨h6, h7, h8, h3⟩
    simp only [go_sem, ↓reduceIte, reduceCtorEq, Nat.reduceEqDiff, Nat.reduceLT, Nat.reduceLeDiff, Nat.reduceAdd, Nat.reduceSub, Nat.reduceMul, Nat.reduceGT, Int.reduceNeg, Int.reduceToNat, h6, h7, h8, h3]
    split
    · rename_i hlt
      have hlt' : i < l.length := by simpa [Es.len] using hlt
      refine ⟨⟨by omega, hlt⟩, ?_⟩
      refine awp_loopA (fun n e s => ∃ g x : Nat, n = x ∧ e 6 = slD 1 u64C l ∧ e 7 = .v (.int .i64 (Es.len l)) ∧ e 8 = .v (.int .i64 i) ∧ e 3 = .v (.int .u64 g) ∧ e 5 = .v (.int .u64 x) ∧ Nat.gcd x g = ((l.take (i + 1)).foldl Nat.gcd 0 : Nat)) ?_ (n := Es.at_ l i) ?_
      · rintro n e s ⟨g, x, rfl, h6, h7, h8, h3, h5, hg⟩
        simp only [go_sem, ↓reduceIte, reduceCtorEq, Nat.reduceEqDiff, Nat.reduceLT, Nat.reduceLeDiff, Nat.reduceAdd, Nat.reduceSub, Nat.reduceMul, Nat.reduceGT, Int.reduceNeg, Int.reduceToNat, h6, h7, h8, h3, h5]
        split
        · rename_i hx
          have hx' : n ≠ 0 := by simpa using hx
          refine awp_plan ((.op 0 (.op 1 (.op 2 (.op 3 (.op 4 (.op 5 .done))))))) [] mix (by kernel_rfl) ?_
          simp only [go_sem, ↓reduceIte, reduceCtorEq, Nat.reduceEqDiff, Nat.reduceLT, Nat.reduceLeDiff, Nat.reduceAdd, Nat.reduceSub, Nat.reduceMul, Nat.reduceGT, Int.reduceNeg, Int.reduceToNat, h6, h7, h8, h3, h5]
          refine ⟨by omega, g % n, Nat.mod_lt _ (by omega), n, g % n, rfl, ?_⟩
          simp only [go_sem, ↓reduceIte, reduceCtorEq, Nat.reduceEqDiff, Nat.reduceLT, Nat.reduceLeDiff, Nat.reduceAdd, Nat.reduceSub, Nat.reduceMul, Nat.reduceGT, Int.reduceNeg, Int.reduceToNat, h6, h7, h8, h3, h5]
          refine ⟨by rw [← Int.ofNat_tmod], ?_⟩
          rw [← hg, Nat.gcd_rec n g]
        · rename_i hx
          have hx' : n = 0 := by simpa using hx
          subst hx'
          refine ⟨hlt', ?_⟩
          simp only [go_sem, ↓reduceIte, reduceCtorEq, Nat.reduceEqDiff, Nat.reduceLT, Nat.reduceLeDiff, Nat.reduceAdd, Nat.reduceSub, Nat.reduceMul, Nat.reduceGT, Int.reduceNeg, Int.reduceToNat, h6, h7, h8, h3, h5]
          rw [wrap_i64 _ (by omega) (by omega)]
          refine ⟨by simp, ?_⟩
          rw [← hg]; simp
      · simp only [go_sem, ↓reduceIte, reduceCtorEq, Nat.reduceEqDiff, Nat.reduceLT, Nat.reduceLeDiff, Nat.reduceAdd, Nat.reduceSub, Nat.reduceMul, Nat.reduceGT, Int.reduceNeg, Int.reduceToNat, h6, h7, h8, h3]
        refine ⟨_, _, rfl, rfl, rfl, ?_⟩
        rw [List.take_succ_eq_append_getElem hlt', List.foldl_append, Es.at_nat hlt']
        simp [Nat.gcd_comm]
    · rename_i hlt
      have : i = l.length := by simp [Es.len] at hlt; omega
      subst this
      simp
  · simp only [go_sem, ↓reduceIte, reduceCtorEq, Nat.reduceEqDiff, Nat.reduceLT, Nat.reduceLeDiff, Nat.reduceAdd, Nat.reduceSub, Nat.reduceMul, Nat.reduceGT, Int.reduceNeg, Int.reduceToNat]
    simp
theorem fz_two {o : St} {nx f : Nat} {ty : TypeId} (a b : Es.Ratio) : Fz ⟨St.set o f 0 (some (.blk 1 2 ty (litCell [.int .u64 0] [(0, [.v (.int .u64 (Es.mag a.num))]), (1, [.v (.int .u64 (Es.mag b.den))])]))), nx⟩ (.ms f 0 1 0 2) (slD 1 u64C [(Es.mag a.num).toNat, (Es.mag b.den).toNat]) := by
  refine fz_ms (St_set_self _ _ _ _) rfl pu_u64C fun r c hr hc => ?_
  have hc0 : c = 0 := by omega
  subst hc0
  simp only [List.length_cons, List.length_nil] at hr
  have : r = 0 ∨ r = 1 := by omega
  rcases this with rfl | rfl <;> simp only [go_sem, ↓reduceIte, reduceCtorEq, Nat.reduceEqDiff, Nat.reduceLT, Nat.reduceLeDiff, Nat.reduceAdd, Nat.reduceSub, Nat.reduceMul, Nat.reduceGT, Int.reduceNeg, Int.reduceToNat] <;> simp [Int.toNat_of_nonneg (Es.mag_nonneg _)]
theorem ratValid_spec (a : Es.Ratio) : APure M 116 [ratD a] (.v (.bool (Es.ratValid a))) := by
  refine pure_of gpu func116 rfl results116 ntmps116 (by simp) ⟨pu_ratD _, trivial⟩ ?_
  intro b
  simp only [go_sem, ↓reduceIte, reduceCtorEq, Nat.reduceEqDiff, Nat.reduceLT, Nat.reduceLeDiff, Nat.reduceAdd, Nat.reduceSub, Nat.reduceMul, Nat.reduceGT, Int.reduceNeg, Int.reduceToNat]
  refine awp_plan ((.op 0 (.op 1 (.op 2 (.op 3 (.op 4 (.op 5 (.op 6 (.op 7 (.op 8 (.op 9 (.op 10 (.op 11 (.op 12 (.op 13 (.op 14 (.op 15 (.op 16 (.op 18 (.op 19 (.op 17 (.op 20 (.op 21 (.op 22 (.op 23 (.op 24 (.op 25 .done))))))))))))))))))))))))))) [] mix (by kernel_rfl) ?_
  simp only [go_sem, ↓reduceIte, reduceCtorEq, Nat.reduceEqDiff, Nat.reduceLT, Nat.reduceLeDiff, Nat.reduceAdd, Nat.reduceSub, Nat.reduceMul, Nat.reduceGT, Int.reduceNeg, Int.reduceToNat]
  have hc := common_spec [(Es.mag a.num).toNat, (Es.mag a.den).toNat] (by simp)
  repeat' (first | ((with_reducible refine call_at M_P M_G (mag_spec _) ?_); simp only [go_sem, ↓reduceIte, reduceCtorEq, Nat.reduceEqDiff, Nat.reduceLT, Nat.reduceLeDiff, Nat.reduceAdd, Nat.reduceSub, Nat.reduceMul, Nat.reduceGT, Int.reduceNeg, Int.reduceToNat]) | ((with_reducible apply lend_at M_P M_G (hc) gpu (Flat.v _)); (exact ⟨fz_two _ _, trivial⟩); simp only [go_sem, ↓reduceIte, reduceCtorEq, Nat.reduceEqDiff, Nat.reduceLT, Nat.reduceLeDiff, Nat.reduceAdd, Nat.reduceSub, Nat.reduceMul, Nat.reduceGT, Int.reduceNeg, Int.reduceToNat]) | (with_reducible refine And.intro ?_ ?_) | ((with_reducible refine ite_cases ?_ ?_) <;> intro _))
  all_goals first
    | trivial
    | first | (simp [Es.ratValid, *]; done) | (simp [Es.ratValid, *]; omega) | (simp_all [Es.ratValid]; done) | (simp_all [Es.ratValid]; omega)
    | (rw [show List.foldl Nat.gcd 0 [(Es.mag a.num).toNat, (Es.mag a.den).toNat] = Nat.gcd (Es.mag a.num).toNat (Es.mag a.den).toNat by simp]
       simp [Es.ratValid, *]; rw [Bool.eq_iff_iff]; simp; omega)

theorem positive_spec (a : Es.Ratio) : APure M 95 [ratD a] (.v (.bool (Es.positive a))) := by
  refine pure_of gpu func95 rfl results95 ntmps95 (by simp) ⟨pu_ratD _, trivial⟩ ?_
  intro b
  simp only [go_sem, ↓reduceIte, reduceCtorEq, Nat.reduceEqDiff, Nat.reduceLT, Nat.reduceLeDiff, Nat.reduceAdd, Nat.reduceSub, Nat.reduceMul, Nat.reduceGT, Int.reduceNeg, Int.reduceToNat]
  repeat' (first | ((with_reducible refine call_at M_P M_G (ratValid_spec _) ?_); simp only [go_sem, ↓reduceIte, reduceCtorEq, Nat.reduceEqDiff, Nat.reduceLT, Nat.reduceLeDiff, Nat.reduceAdd, Nat.reduceSub, Nat.reduceMul, Nat.reduceGT, Int.reduceNeg, Int.reduceToNat]) | (with_reducible refine And.intro ?_ ?_) | ((with_reducible refine ite_cases ?_ ?_) <;> intro _))
  all_goals first | (simp [Es.positive, *]; done) | (simp [Es.positive, *]; omega) | (simp_all [Es.positive]; done) | (simp_all [Es.positive]; omega)

theorem role_spec (c : Es.Contract) (r : Int) : APure M 114 [.v (.int .i64 r), .rp 7 (conC c) 0] (.v (.bool (Es.role c r))) := by
  refine pure_of gpu func114 rfl results114 ntmps114 (by simp) ⟨.v _, pu_rp (pu_conC c), trivial⟩ ?_
  intro b
  simp only [go_sem, ↓reduceIte, reduceCtorEq, Nat.reduceEqDiff, Nat.reduceLT, Nat.reduceLeDiff, Nat.reduceAdd, Nat.reduceSub, Nat.reduceMul, Nat.reduceGT, Int.reduceNeg, Int.reduceToNat]
  repeat' (first | ((with_reducible refine call_at M_P M_G (under_spec _ _) ?_); simp only [go_sem, ↓reduceIte, reduceCtorEq, Nat.reduceEqDiff, Nat.reduceLT, Nat.reduceLeDiff, Nat.reduceAdd, Nat.reduceSub, Nat.reduceMul, Nat.reduceGT, Int.reduceNeg, Int.reduceToNat]) | (with_reducible refine And.intro ?_ ?_) | ((with_reducible refine ite_cases ?_ ?_) <;> intro _))
  all_goals first | (simp [Es.role, *]; done) | (simp [Es.role, *]; omega) | (simp_all [Es.role]; done) | (simp_all [Es.role]; omega)

theorem act_spec (c : Es.Contract) (a : Es.ActT) : APure M 91 [conD c, actD a] (.v (.bool (Es.act c a))) := by
  refine pure_of gpu func91 rfl results91 ntmps91 (by simp) ⟨pu_conD c, pu_actD a, trivial⟩ ?_
  intro b
  simp only [go_sem, ↓reduceIte, reduceCtorEq, Nat.reduceEqDiff, Nat.reduceLT, Nat.reduceLeDiff, Nat.reduceAdd, Nat.reduceSub, Nat.reduceMul, Nat.reduceGT, Int.reduceNeg, Int.reduceToNat]
  repeat' (first | ((with_reducible refine call_at M_P M_G (under_spec _ _) ?_); simp only [go_sem, ↓reduceIte, reduceCtorEq, Nat.reduceEqDiff, Nat.reduceLT, Nat.reduceLeDiff, Nat.reduceAdd, Nat.reduceSub, Nat.reduceMul, Nat.reduceGT, Int.reduceNeg, Int.reduceToNat]) | ((with_reducible refine call_at M_P M_G (moves_spec _) ?_); simp only [go_sem, ↓reduceIte, reduceCtorEq, Nat.reduceEqDiff, Nat.reduceLT, Nat.reduceLeDiff, Nat.reduceAdd, Nat.reduceSub, Nat.reduceMul, Nat.reduceGT, Int.reduceNeg, Int.reduceToNat]) | ((with_reducible refine call_at M_P M_G (positive_spec _) ?_); simp only [go_sem, ↓reduceIte, reduceCtorEq, Nat.reduceEqDiff, Nat.reduceLT, Nat.reduceLeDiff, Nat.reduceAdd, Nat.reduceSub, Nat.reduceMul, Nat.reduceGT, Int.reduceNeg, Int.reduceToNat]) | ((with_reducible apply lend_at M_P M_G (role_spec c _) gpu (Flat.v _)); (exact ⟨.v _, fz_con rfl (by decide), trivial⟩); simp only [go_sem, ↓reduceIte, reduceCtorEq, Nat.reduceEqDiff, Nat.reduceLT, Nat.reduceLeDiff, Nat.reduceAdd, Nat.reduceSub, Nat.reduceMul, Nat.reduceGT, Int.reduceNeg, Int.reduceToNat]) | (with_reducible refine And.intro ?_ ?_) | ((with_reducible refine ite_cases ?_ ?_) <;> intro _))
  all_goals first
    | first | (simp [Es.act, Es.still, Es.ratio_beq, *]; done) | (simp [Es.act, Es.still, Es.ratio_beq, *]; omega) | (simp_all [Es.act, Es.still, Es.ratio_beq]; done) | (simp_all [Es.act, Es.still, Es.ratio_beq]; omega)

end Tryd
end Go.Proofs
end
section
namespace Go.Proofs
open Go Go.Abs
set_option linter.unusedSimpArgs false
set_option maxRecDepth 10000
theorem Fz_fn {s : S} {f : Fn} {ds ds' : List D} (h : FzL s ds ds') : Fz s (.fn f ds) (.fn f ds') := .fn f ds ds' h.len h.get
namespace Tryd
theorem indexC_spec (g : Nat) (caps : List D) (hc : callable prog g = true) (hpu : PuL caps) (p : Es.Cond → Bool) (l : List Es.Cond) (hl : l.length ≤ 9223372036854775807) (h : ∀ x ∈ l, APure M g (condD x :: caps) (.v (.bool (p x)))) :
    APure M 108 [slD 2 condC l, .fn (.func g) caps] (.v (.int .i64 (Es.index p l))) := by
  refine pure_of gpu func108 rfl results108 ntmps108 (by simp) ⟨pu_slD pu_condC _, Pu_fn hpu, trivial⟩ ?_
  intro b
  simp only [go_sem, ↓reduceIte, reduceCtorEq, Nat.reduceEqDiff, Nat.reduceLT, Nat.reduceLeDiff, Nat.reduceAdd, Nat.reduceSub, Nat.reduceMul, Nat.reduceGT, Int.reduceNeg, Int.reduceToNat]
  refine awp_count0 l.length (fun e0 s0 k e s => (e 0 = e0 0 ∧ e 1 = e0 1 ∧ e 7 = e0 7) ∧ e 8 = .v (.int .i64 k) ∧ s = s0 ∧ ∀ j : Nat, j < k → p (Es.at_ l j) = false) ⟨⟨rfl, rfl, rfl⟩, ?_, rfl, (by omega)⟩ ?_
  · simp only [go_sem, ↓reduceIte, reduceCtorEq, Nat.reduceEqDiff, Nat.reduceLT, Nat.reduceLeDiff, Nat.reduceAdd, Nat.reduceSub, Nat.reduceMul, Nat.reduceGT, Int.reduceNeg, Int.reduceToNat]; rfl
  rintro k e s hk ⟨⟨h0, h1, h7⟩, h8, rfl, hall⟩
  simp only [go_sem, ↓reduceIte, reduceCtorEq, Nat.reduceEqDiff, Nat.reduceLT, Nat.reduceLeDiff, Nat.reduceAdd, Nat.reduceSub, Nat.reduceMul, Nat.reduceGT, Int.reduceNeg, Int.reduceToNat] at h0 h1 h7
  simp only [go_sem, ↓reduceIte, reduceCtorEq, Nat.reduceEqDiff, Nat.reduceLT, Nat.reduceLeDiff, Nat.reduceAdd, Nat.reduceSub, Nat.reduceMul, Nat.reduceGT, Int.reduceNeg, Int.reduceToNat, h0, h1, h7, h8, hc]
  refine ite_cases (fun hlt => ?_) (fun hlt => ?_)
  · have hlt' : k < l.length := Es.len_lt.1 hlt
    refine ⟨⟨by omega, hlt⟩, ?_⟩
    refine call_at M_P M_G (h _ (Es.at_mem hlt')) ?_
    simp only [go_sem, ↓reduceIte, reduceCtorEq, Nat.reduceEqDiff, Nat.reduceLT, Nat.reduceLeDiff, Nat.reduceAdd, Nat.reduceSub, Nat.reduceMul, Nat.reduceGT, Int.reduceNeg, Int.reduceToNat, h0, h1, h7, h8]
    refine ite_cases (fun hp => ?_) (fun hp => ?_)
    · rw [Es.index_some hlt' hp hall]
    · refine ⟨hlt', ?_⟩
      simp only [go_sem, ↓reduceIte, reduceCtorEq, Nat.reduceEqDiff, Nat.reduceLT, Nat.reduceLeDiff, Nat.reduceAdd, Nat.reduceSub, Nat.reduceMul, Nat.reduceGT, Int.reduceNeg, Int.reduceToNat, h0, h1, h7, h8]
      refine ⟨by rw [wrap_i64 _ (by omega) (by omega)]; simp, fun j hj => ?_⟩
      rcases Nat.lt_or_ge j k with h | h
      · exact hall j h
      · have : j = k := by omega
        rw [this]; simpa using hp
  · have hkk : k = l.length := by simp only [Es.len] at hlt; omega
    rw [Es.index_none (hkk ▸ hall)]
theorem containsC_spec (g : Nat) (caps : List D) (hc : callable prog g = true) (hpu : PuL caps) (p : Es.Cond → Bool) (l : List Es.Cond) (hl : l.length ≤ 9223372036854775807) (h : ∀ x ∈ l, APure M g (condD x :: caps) (.v (.bool (p x)))) :
    APure M 81 [slD 2 condC l, .fn (.func g) caps] (.v (.bool (l.any p))) := by
  refine pure_of gpu func81 rfl results81 ntmps81 (by simp) ⟨pu_slD pu_condC _, Pu_fn hpu, trivial⟩ ?_
  intro b
  simp only [go_sem, ↓reduceIte, reduceCtorEq, Nat.reduceEqDiff, Nat.reduceLT, Nat.reduceLeDiff, Nat.reduceAdd, Nat.reduceSub, Nat.reduceMul, Nat.reduceGT, Int.reduceNeg, Int.reduceToNat]
  refine call_at M_P M_G (indexC_spec g caps hc hpu p l hl h) ?_
  simp only [go_sem, ↓reduceIte, reduceCtorEq, Nat.reduceEqDiff, Nat.reduceLT, Nat.reduceLeDiff, Nat.reduceAdd, Nat.reduceSub, Nat.reduceMul, Nat.reduceGT, Int.reduceNeg, Int.reduceToNat, Es.index_ge]
theorem indexI_spec (g : Nat) (caps : List D) (hc : callable prog g = true) (hpu : PuL caps) (p : Int → Bool) (l : List Int) (hl : l.length ≤ 9223372036854775807) (h : ∀ x ∈ l, APure M g (.v (.int .i64 x) :: caps) (.v (.bool (p x)))) :
    APure M 72 [slD 1 intC l, .fn (.func g) caps] (.v (.int .i64 (Es.index p l))) := by
  refine pure_of gpu func72 rfl results72 ntmps72 (by simp) ⟨pu_slD pu_intC _, Pu_fn hpu, trivial⟩ ?_
  intro b
  simp only [go_sem, ↓reduceIte, reduceCtorEq, Nat.reduceEqDiff, Nat.reduceLT, Nat.reduceLeDiff, Nat.reduceAdd, Nat.reduceSub, Nat.reduceMul, Nat.reduceGT, Int.reduceNeg, Int.reduceToNat]
  refine awp_count0 l.length (fun e0 s0 k e s => (e 0 = e0 0 ∧ e 1 = e0 1 ∧ e 7 = e0 7) ∧ e 8 = .v (.int .i64 k) ∧ s = s0 ∧ ∀ j : Nat, j < k → p (Es.at_ l j) = false) ⟨⟨rfl, rfl, rfl⟩, ?_, rfl, (by omega)⟩ ?_
  · simp only [go_sem, ↓reduceIte, reduceCtorEq, Nat.reduceEqDiff, Nat.reduceLT, Nat.reduceLeDiff, Nat.reduceAdd, Nat.reduceSub, Nat.reduceMul, Nat.reduceGT, Int.reduceNeg, Int.reduceToNat]; rfl
  rintro k e s hk ⟨⟨h0, h1, h7⟩, h8, rfl, hall⟩
  simp only [go_sem, ↓reduceIte, reduceCtorEq, Nat.reduceEqDiff, Nat.reduceLT, Nat.reduceLeDiff, Nat.reduceAdd, Nat.reduceSub, Nat.reduceMul, Nat.reduceGT, Int.reduceNeg, Int.reduceToNat] at h0 h1 h7
  simp only [go_sem, ↓reduceIte, reduceCtorEq, Nat.reduceEqDiff, Nat.reduceLT, Nat.reduceLeDiff, Nat.reduceAdd, Nat.reduceSub, Nat.reduceMul, Nat.reduceGT, Int.reduceNeg, Int.reduceToNat, h0, h1, h7, h8, hc]
  refine ite_cases (fun hlt => ?_) (fun hlt => ?_)
  · have hlt' : k < l.length := Es.len_lt.1 hlt
    refine ⟨⟨by omega, hlt⟩, ?_⟩
    refine call_at M_P M_G (h _ (Es.at_mem hlt')) ?_
    simp only [go_sem, ↓reduceIte, reduceCtorEq, Nat.reduceEqDiff, Nat.reduceLT, Nat.reduceLeDiff, Nat.reduceAdd, Nat.reduceSub, Nat.reduceMul, Nat.reduceGT, Int.reduceNeg, Int.reduceToNat, h0, h1, h7, h8]
    refine ite_cases (fun hp => ?_) (fun hp => ?_)
    · rw [Es.index_some hlt' hp hall]
    · refine ⟨hlt', ?_⟩
      simp only [go_sem, ↓reduceIte, reduceCtorEq, Nat.reduceEqDiff, Nat.reduceLT, Nat.reduceLeDiff, Nat.reduceAdd, Nat.reduceSub, Nat.reduceMul, Nat.reduceGT, Int.reduceNeg, Int.reduceToNat, h0, h1, h7, h8]
      refine ⟨by rw [wrap_i64 _ (by omega) (by omega)]; simp, fun j hj => ?_⟩
      rcases Nat.lt_or_ge j k with h | h
      · exact hall j h
      · have : j = k := by omega
        rw [this]; simpa using hp
  · have hkk : k = l.length := by simp only [Es.len] at hlt; omega
    rw [Es.index_none (hkk ▸ hall)]
theorem containsI_spec (g : Nat) (caps : List D) (hc : callable prog g = true) (hpu : PuL caps) (p : Int → Bool) (l : List Int) (hl : l.length ≤ 9223372036854775807) (h : ∀ x ∈ l, APure M g (.v (.int .i64 x) :: caps) (.v (.bool (p x)))) :
    APure M 38 [slD 1 intC l, .fn (.func g) caps] (.v (.bool (l.any p))) := by
  refine pure_of gpu func38 rfl results38 ntmps38 (by simp) ⟨pu_slD pu_intC _, Pu_fn hpu, trivial⟩ ?_
  intro b
  simp only [go_sem, ↓reduceIte, reduceCtorEq, Nat.reduceEqDiff, Nat.reduceLT, Nat.reduceLeDiff, Nat.reduceAdd, Nat.reduceSub, Nat.reduceMul, Nat.reduceGT, Int.reduceNeg, Int.reduceToNat]
  refine call_at M_P M_G (indexI_spec g caps hc hpu p l hl h) ?_
  simp only [go_sem, ↓reduceIte, reduceCtorEq, Nat.reduceEqDiff, Nat.reduceLT, Nat.reduceLeDiff, Nat.reduceAdd, Nat.reduceSub, Nat.reduceMul, Nat.reduceGT, Int.reduceNeg, Int.reduceToNat, Es.index_ge]

theorem ready1_spec (s : Es.State) (x : Es.Cond) (hx : 0 ≤ x.clause ∧ x.clause < Es.len s.marks) : APure M 82 [condD x, .rp 4 (staC s) 0] (.v (.bool (Es.fails s x))) := by
  refine pure_of gpu func82 rfl results82 ntmps82 (by simp) ⟨pu_condD _, pu_rp (pu_staC s), trivial⟩ ?_
  intro b
  simp only [go_sem, ↓reduceIte, reduceCtorEq, Nat.reduceEqDiff, Nat.reduceLT, Nat.reduceLeDiff, Nat.reduceAdd, Nat.reduceSub, Nat.reduceMul, Nat.reduceGT, Int.reduceNeg, Int.reduceToNat]
  refine ⟨hx, ?_⟩
  repeat' (first | (with_reducible refine And.intro ?_ ?_) | ((with_reducible refine ite_cases ?_ ?_) <;> intro _))
  all_goals first | (simp [Es.fails, *]; done) | (simp [Es.fails, *]; omega) | (simp_all [Es.fails]; done) | (simp_all [Es.fails]; omega)

theorem ready_spec (c : Es.Contract) (s : Es.State) (i : Int) (hi : 0 ≤ i ∧ i < Es.len s.marks) (hc : i < Es.len c.clauses) (hx : ∀ x ∈ (Es.at_ c.clauses i).start, 0 ≤ x.clause ∧ x.clause < Es.len s.marks) (hl : (Es.at_ c.clauses i).start.length ≤ 9223372036854775807) :
    APure M 53 [conD c, staD s, .v (.int .i64 i)] (.v (.bool (Es.ready c s i))) := by
  have hcall : callable prog 82 = true := by simp only [go_sem]
  have hcon := containsC_spec 82 [.rp 4 (staC s) 0] hcall ⟨pu_rp (pu_staC s), trivial⟩ (Es.fails s) (Es.at_ c.clauses i).start hl (fun x hm => ready1_spec s x (hx x hm))
  refine pure_of gpu func53 rfl results53 ntmps53 (by simp) ⟨pu_conD _, pu_staD _, .v _, trivial⟩ ?_
  intro b
  simp only [go_sem, ↓reduceIte, reduceCtorEq, Nat.reduceEqDiff, Nat.reduceLT, Nat.reduceLeDiff, Nat.reduceAdd, Nat.reduceSub, Nat.reduceMul, Nat.reduceGT, Int.reduceNeg, Int.reduceToNat]
  refine ⟨hi, ?_⟩
  repeat' (first | ((with_reducible apply lend_at M_P M_G (hcon) gpu (Flat.v _)); (exact ⟨(pu_slD pu_condC _).fz, Fz_fn ⟨fz_sta rfl (by decide), trivial⟩, trivial⟩); simp only [go_sem, ↓reduceIte, reduceCtorEq, Nat.reduceEqDiff, Nat.reduceLT, Nat.reduceLeDiff, Nat.reduceAdd, Nat.reduceSub, Nat.reduceMul, Nat.reduceGT, Int.reduceNeg, Int.reduceToNat]) | (with_reducible refine And.intro ?_ ?_) | ((with_reducible refine ite_cases ?_ ?_) <;> intro _))
  all_goals first
    | omega
    | first | (simp [Es.ready, *]; done) | (simp [Es.ready, *]; omega) | (simp_all [Es.ready]; done) | (simp_all [Es.ready]; omega)
end Tryd
end Go.Proofs
end
section
namespace Go.Proofs
open Go Go.Abs
set_option linter.unusedSimpArgs false
set_option maxRecDepth 10000
namespace Tryd
theorem holder_spec (c : Es.Contract) (p : Int) : APure M 51 [.v (.int .i64 p), .rp 7 (conC c) 0] (.v (.bool (decide (p < 0) || decide (c.parties ≤ p)))) := by
  refine pure_of gpu func51 rfl results51 ntmps51 (by simp) ⟨.v _, pu_rp (pu_conC c), trivial⟩ ?_
  intro b
  simp only [go_sem, ↓reduceIte, reduceCtorEq, Nat.reduceEqDiff, Nat.reduceLT, Nat.reduceLeDiff, Nat.reduceAdd, Nat.reduceSub, Nat.reduceMul, Nat.reduceGT, Int.reduceNeg, Int.reduceToNat]
  repeat' (first | (with_reducible refine And.intro ?_ ?_) | ((with_reducible refine ite_cases ?_ ?_) <;> intro _))
  all_goals first | (simp [decide_eq_true_eq, *]; done) | (simp [decide_eq_true_eq, *]; omega) | (simp_all [decide_eq_true_eq]; done) | (simp_all [decide_eq_true_eq]; omega)
theorem isNaN_spec (n : Int) : APure M 122 [.v (.int .i64 n)] (.v (.bool false)) := by
  refine pure_of gpu func122 rfl results122 ntmps122 (by simp) ⟨.v _, trivial⟩ ?_
  intro b
  simp only [go_sem, ↓reduceIte, reduceCtorEq, Nat.reduceEqDiff, Nat.reduceLT, Nat.reduceLeDiff, Nat.reduceAdd, Nat.reduceSub, Nat.reduceMul, Nat.reduceGT, Int.reduceNeg, Int.reduceToNat]
  simp
theorem isNaN2_spec (n : Int) : APure M 100 [.v (.int .i64 n)] (.v (.bool false)) := by
  refine pure_of gpu func100 rfl results100 ntmps100 (by simp) ⟨.v _, trivial⟩ ?_
  intro b
  simp only [go_sem, ↓reduceIte, reduceCtorEq, Nat.reduceEqDiff, Nat.reduceLT, Nat.reduceLeDiff, Nat.reduceAdd, Nat.reduceSub, Nat.reduceMul, Nat.reduceGT, Int.reduceNeg, Int.reduceToNat]
  simp
theorem less_spec (a b : Int) : APure M 99 [.v (.int .i64 a), .v (.int .i64 b)] (.v (.bool (decide (a < b)))) := by
  refine pure_of gpu func99 rfl results99 ntmps99 (by simp) ⟨.v _, .v _, trivial⟩ ?_
  intro b
  simp only [go_sem, ↓reduceIte, reduceCtorEq, Nat.reduceEqDiff, Nat.reduceLT, Nat.reduceLeDiff, Nat.reduceAdd, Nat.reduceSub, Nat.reduceMul, Nat.reduceGT, Int.reduceNeg, Int.reduceToNat]
  repeat' (first | ((with_reducible refine call_at M_P M_G (isNaN_spec _) ?_); simp only [go_sem, ↓reduceIte, reduceCtorEq, Nat.reduceEqDiff, Nat.reduceLT, Nat.reduceLeDiff, Nat.reduceAdd, Nat.reduceSub, Nat.reduceMul, Nat.reduceGT, Int.reduceNeg, Int.reduceToNat]) | (with_reducible refine And.intro ?_ ?_) | ((with_reducible refine ite_cases ?_ ?_) <;> intro _))
theorem equalI_spec (l m : List Int) (hl : l.length ≤ 9223372036854775807) : APure M 54 [slD 1 intC l, slD 1 intC m] (.v (.bool (l == m))) := by
  refine pure_of gpu func54 rfl results54 ntmps54 (by simp) ⟨pu_slD pu_intC _, pu_slD pu_intC _, trivial⟩ ?_
  intro b
  simp only [go_sem, ↓reduceIte, reduceCtorEq, Nat.reduceEqDiff, Nat.reduceLT, Nat.reduceLeDiff, Nat.reduceAdd, Nat.reduceSub, Nat.reduceMul, Nat.reduceGT, Int.reduceNeg, Int.reduceToNat]
  refine ite_cases (fun hne => ?_) (fun hne => ?_)
  · have : l ≠ m := fun h => by rw [h] at hne; simp at hne
    simp [this]
  · have hlen : l.length = m.length := by simp [Es.len] at hne; omega
    refine awp_count0 l.length (fun e0 s0 k e s => (e 0 = e0 0 ∧ e 1 = e0 1 ∧ e 12 = e0 12) ∧ e 13 = .v (.int .i64 k) ∧ s = s0 ∧ ∀ j : Nat, j < k → Es.at_ l j = Es.at_ m j) ⟨⟨rfl, rfl, rfl⟩, ?_, rfl, (by omega)⟩ ?_
    · simp only [go_sem, ↓reduceIte, reduceCtorEq, Nat.reduceEqDiff, Nat.reduceLT, Nat.reduceLeDiff, Nat.reduceAdd, Nat.reduceSub, Nat.reduceMul, Nat.reduceGT, Int.reduceNeg, Int.reduceToNat]; rfl
    rintro k e s hk ⟨⟨h0, h1, h12⟩, h13, rfl, hall⟩
    simp only [go_sem, ↓reduceIte, reduceCtorEq, Nat.reduceEqDiff, Nat.reduceLT, Nat.reduceLeDiff, Nat.reduceAdd, Nat.reduceSub, Nat.reduceMul, Nat.reduceGT, Int.reduceNeg, Int.reduceToNat] at h0 h1 h12
    simp only [go_sem, ↓reduceIte, reduceCtorEq, Nat.reduceEqDiff, Nat.reduceLT, Nat.reduceLeDiff, Nat.reduceAdd, Nat.reduceSub, Nat.reduceMul, Nat.reduceGT, Int.reduceNeg, Int.reduceToNat, h0, h1, h12, h13]
    refine ite_cases (fun hlt => ?_) (fun hlt => ?_)
    · have hlt' : k < l.length := Es.len_lt.1 hlt
      refine awp_plan ((.op 0 (.op 1 (.op 2 (.op 3 (.op 4 (.op 5 (.op 6 (.op 7 (.op 8 .done)))))))))) [] mix (by kernel_rfl) ?_
      simp only [go_sem, ↓reduceIte, reduceCtorEq, Nat.reduceEqDiff, Nat.reduceLT, Nat.reduceLeDiff, Nat.reduceAdd, Nat.reduceSub, Nat.reduceMul, Nat.reduceGT, Int.reduceNeg, Int.reduceToNat, h0, h1, h12, h13]
      refine ⟨⟨by omega, hlt⟩, ⟨by omega, by simp only [Es.len] at hlt ⊢; omega⟩, ?_⟩
      refine ite_cases (fun hd => ?_) (fun hd => ?_)
      · have : l ≠ m := fun h => by rw [h] at hd; simp at hd
        simp [this]
      · refine ⟨hlt', ?_⟩
        simp only [go_sem, ↓reduceIte, reduceCtorEq, Nat.reduceEqDiff, Nat.reduceLT, Nat.reduceLeDiff, Nat.reduceAdd, Nat.reduceSub, Nat.reduceMul, Nat.reduceGT, Int.reduceNeg, Int.reduceToNat, h0, h1, h12, h13]
        refine ⟨by rw [wrap_i64 _ (by omega) (by omega)]; simp, fun j hj => ?_⟩
        rcases Nat.lt_or_ge j k with h | h
        · exact hall j h
        · have : j = k := by omega
          rw [this]; simpa using hd
    · have hkk : k = l.length := by simp only [Es.len] at hlt; omega
      have : l = m := by
        apply List.ext_getElem hlen
        intro j h1 h2
        have := hall j (by omega)
        rwa [Es.at_nat h1, Es.at_nat h2] at this
      simp [this]
theorem equalB_spec (l m : List Bool) (hl : l.length ≤ 9223372036854775807) : APure M 55 [slD 1 booC l, slD 1 booC m] (.v (.bool (l == m))) := by
  refine pure_of gpu func55 rfl results55 ntmps55 (by simp) ⟨pu_slD pu_booC _, pu_slD pu_booC _, trivial⟩ ?_
  intro b
  simp only [go_sem, ↓reduceIte, reduceCtorEq, Nat.reduceEqDiff, Nat.reduceLT, Nat.reduceLeDiff, Nat.reduceAdd, Nat.reduceSub, Nat.reduceMul, Nat.reduceGT, Int.reduceNeg, Int.reduceToNat]
  refine ite_cases (fun hne => ?_) (fun hne => ?_)
  · have : l ≠ m := fun h => by rw [h] at hne; simp at hne
    simp [this]
  · have hlen : l.length = m.length := by simp [Es.len] at hne; omega
    refine awp_count0 l.length (fun e0 s0 k e s => (e 0 = e0 0 ∧ e 1 = e0 1 ∧ e 12 = e0 12) ∧ e 13 = .v (.int .i64 k) ∧ s = s0 ∧ ∀ j : Nat, j < k → Es.at_ l j = Es.at_ m j) ⟨⟨rfl, rfl, rfl⟩, ?_, rfl, (by omega)⟩ ?_
    · simp only [go_sem, ↓reduceIte, reduceCtorEq, Nat.reduceEqDiff, Nat.reduceLT, Nat.reduceLeDiff, Nat.reduceAdd, Nat.reduceSub, Nat.reduceMul, Nat.reduceGT, Int.reduceNeg, Int.reduceToNat]; rfl
    rintro k e s hk ⟨⟨h0, h1, h12⟩, h13, rfl, hall⟩
    simp only [go_sem, ↓reduceIte, reduceCtorEq, Nat.reduceEqDiff, Nat.reduceLT, Nat.reduceLeDiff, Nat.reduceAdd, Nat.reduceSub, Nat.reduceMul, Nat.reduceGT, Int.reduceNeg, Int.reduceToNat] at h0 h1 h12
    simp only [go_sem, ↓reduceIte, reduceCtorEq, Nat.reduceEqDiff, Nat.reduceLT, Nat.reduceLeDiff, Nat.reduceAdd, Nat.reduceSub, Nat.reduceMul, Nat.reduceGT, Int.reduceNeg, Int.reduceToNat, h0, h1, h12, h13]
    refine ite_cases (fun hlt => ?_) (fun hlt => ?_)
    · have hlt' : k < l.length := Es.len_lt.1 hlt
      refine awp_plan ((.op 0 (.op 1 (.op 2 (.op 3 (.op 4 (.op 5 (.op 6 (.op 7 (.op 8 .done)))))))))) [] mix (by kernel_rfl) ?_
      simp only [go_sem, ↓reduceIte, reduceCtorEq, Nat.reduceEqDiff, Nat.reduceLT, Nat.reduceLeDiff, Nat.reduceAdd, Nat.reduceSub, Nat.reduceMul, Nat.reduceGT, Int.reduceNeg, Int.reduceToNat, h0, h1, h12, h13]
      refine ⟨⟨by omega, hlt⟩, ⟨by omega, by simp only [Es.len] at hlt ⊢; omega⟩, ?_⟩
      refine ite_cases (fun hd => ?_) (fun hd => ?_)
      · have : l ≠ m := fun h => by rw [h] at hd; simp at hd
        simp [this]
      · refine ⟨hlt', ?_⟩
        simp only [go_sem, ↓reduceIte, reduceCtorEq, Nat.reduceEqDiff, Nat.reduceLT, Nat.reduceLeDiff, Nat.reduceAdd, Nat.reduceSub, Nat.reduceMul, Nat.reduceGT, Int.reduceNeg, Int.reduceToNat, h0, h1, h12, h13]
        refine ⟨by rw [wrap_i64 _ (by omega) (by omega)]; simp, fun j hj => ?_⟩
        rcases Nat.lt_or_ge j k with h | h
        · exact hall j h
        · have : j = k := by omega
          rw [this]; simpa using hd
    · have hkk : k = l.length := by simp only [Es.len] at hlt; omega
      have : l = m := by
        apply List.ext_getElem hlen
        intro j h1 h2
        have := hall j (by omega)
        rwa [Es.at_nat h1, Es.at_nat h2] at this
      simp [this]
end Tryd
end Go.Proofs
end
section
/-
  Plain laws of amendments: their order, and the versions of a contract.
-/
namespace Es
section
variable {α : Type} {le : α → α → Bool}
theorem ins_perm (x : α) : ∀ l : List α, (ins le x l).Perm (x :: l)
  | [] => .refl _
  | y :: l => by
    unfold ins
    split
    · exact .refl _
    · exact ((ins_perm x l).cons y).trans (.swap x y l)
theorem isort_perm : ∀ l : List α, (isort le l).Perm l
  | [] => .refl _
  | x :: l => (ins_perm x _).trans ((isort_perm l).cons x)
theorem isort_len (l : List α) : (isort le l).length = l.length := (isort_perm l).length_eq
structure TotalLe (le : α → α → Bool) : Prop where
  trans : ∀ a b c, le a b = true → le b c = true → le a c = true
  total : ∀ a b, le a b = true ∨ le b a = true
abbrev Sorted (le : α → α → Bool) (l : List α) : Prop := l.Pairwise fun a b => le a b = true
theorem ins_sorted (h : TotalLe le) {x : α} : ∀ {l : List α}, Sorted le l → Sorted le (ins le x l)
  | [], _ => List.pairwise_singleton _ _
  | y :: l, hs => by
    unfold ins
    split
    · rename_i hxy
      refine List.pairwise_cons.2 ⟨fun z hz => ?_, hs⟩
      rcases List.mem_cons.1 hz with rfl | hz
      · exact hxy
      · exact h.trans _ _ _ hxy ((List.pairwise_cons.1 hs).1 z hz)
    · rename_i hxy
      have hyx := (h.total x y).resolve_left hxy
      obtain ⟨h1, h2⟩ := List.pairwise_cons.1 hs
      refine List.pairwise_cons.2 ⟨fun z hz => ?_, ins_sorted h h2⟩
      rcases List.mem_cons.1 ((ins_perm x l).mem_iff.1 hz) with rfl | hz
      · exact hyx
      · exact h1 z hz
theorem isort_sorted (h : TotalLe le) : ∀ l : List α, Sorted le (isort le l)
  | [] => .nil
  | _ :: l => ins_sorted h (isort_sorted h l)
/-- The sorted list is the only one, where order and equality agree. -/
theorem sorted_unique {l m : List α} (hp : l.Perm m) (hl : Sorted le l) (hm : Sorted le m) (ha : ∀ a b, a ∈ l → b ∈ l → le a b = true → le b a = true → a = b) : l = m :=
  hp.eq_of_pairwise (fun a b ha' hb h1 h2 => ha a b ha' (hp.mem_iff.2 hb) h1 h2) hl hm
theorem ins_filter (h : TotalLe le) (p : α → Bool) (x : α) : ∀ l : List α, Sorted le l → (ins le x l).filter p = if p x then ins le x (l.filter p) else l.filter p
  | [], _ => by unfold ins; cases hp : p x <;> simp [hp, ins]
  | y :: l, hs => by
    obtain ⟨h1, h2⟩ := List.pairwise_cons.1 hs
    have ih := ins_filter h p x l h2
    rw [ins]
    by_cases hxy : le x y = true
    · rw [if_pos hxy]
      cases hp : p x with
      | false => simp [hp]
      | true =>
        simp only [List.filter_cons, hp, if_true]
        cases hy : p y with
        | true => simp [ins, hxy]
        | false =>
          simp only [Bool.false_eq_true, if_false]
          cases hf : l.filter p with
          | nil => rfl
          | cons z m =>
            have hz : z ∈ l := (List.mem_filter.1 (by rw [hf]; simp : z ∈ l.filter p)).1
            simp [ins, h.trans _ _ _ hxy (h1 z hz)]
    · rw [if_neg hxy]
      simp only [List.filter_cons, ih]
      cases hp : p x <;> cases hy : p y <;> simp [ins, hxy]
theorem isort_filter (h : TotalLe le) (p : α → Bool) : ∀ l : List α, (isort le l).filter p = isort le (l.filter p)
  | [] => rfl
  | x :: l => by
    rw [isort, ins_filter h p x _ (isort_sorted h l), isort_filter h p l]
    cases hp : p x <;> simp [hp, isort]
end
theorem leA_total : TotalLe leA where
  trans a b c h1 h2 := by
    simp only [leA, Bool.or_eq_true, Bool.and_eq_true, decide_eq_true_eq, beq_iff_eq] at *; omega
  total a b := by simp only [leA, Bool.or_eq_true, Bool.and_eq_true, decide_eq_true_eq, beq_iff_eq]; omega
theorem leP_total : TotalLe leP where
  trans a b c h1 h2 := by
    simp only [leP, Bool.or_eq_true, Bool.and_eq_true, decide_eq_true_eq, beq_iff_eq] at *; omega
  total a b := by simp only [leP, Bool.or_eq_true, Bool.and_eq_true, decide_eq_true_eq, beq_iff_eq]; omega
theorem leP_lt {x y : Amend} {i j : Nat} (h : i < j) : leP (x, i) (y, j) = leA x y := by
  rw [Bool.eq_iff_iff]; simp only [leP, leA, Bool.or_eq_true, Bool.and_eq_true, decide_eq_true_eq, beq_iff_eq]; omega
theorem ins_fst {x : Amend} {i : Nat} : ∀ {l : List (Amend × Nat)}, (∀ y ∈ l, i < y.2) → (ins leP (x, i) l).map (·.1) = ins leA x (l.map (·.1))
  | [], _ => rfl
  | y :: l, h => by
    have hy := h y (by simp)
    have e : leP (x, i) y = leA x y.1 := leP_lt hy
    simp only [ins, List.map_cons, e]
    split
    · rfl
    · rw [List.map_cons, ins_fst fun z hz => h z (by simp [hz])]
theorem isort_fst : ∀ (l : List Amend) (k : Nat), (isort leP (l.zipIdx k)).map (·.1) = isort leA l
  | [], _ => rfl
  | x :: l, k => by
    rw [List.zipIdx_cons, isort, ins_fst, isort_fst l (k + 1), isort]
    intro y hy
    have := (isort_perm _).mem_iff.1 hy
    exact Nat.lt_of_succ_le (List.le_snd_of_mem_zipIdx this)
theorem sortedA_eq (l : List Amend) : (sortedP l).map (·.1) = sortedA l := isort_fst l 0
theorem zip_inj {l : List Amend} {a b : Amend × Nat} (ha : a ∈ l.zipIdx) (hb : b ∈ l.zipIdx) (h : a.2 = b.2) : a = b := by
  obtain ⟨a1, a2⟩ := a
  obtain ⟨b1, b2⟩ := b
  simp only at h; subst h
  have h1 := List.mem_zipIdx_iff_getElem?.1 ha
  have h2 := List.mem_zipIdx_iff_getElem?.1 hb
  simp only at h1 h2
  rw [h1] at h2; cases h2; rfl
theorem leP_anti {a b : Amend × Nat} (h1 : leP a b = true) (h2 : leP b a = true) : a.2 = b.2 := by
  simp only [leP, Bool.or_eq_true, Bool.and_eq_true, decide_eq_true_eq, beq_iff_eq] at *; omega
/-- Whatever is sorted and consists of the pairs is the list that the code makes. -/
theorem sortedP_unique {l : List Amend} {m : List (Amend × Nat)} (hp : m.Perm l.zipIdx) (hs : Sorted leP m) : m = sortedP l :=
  sorted_unique (hp.trans (isort_perm _).symm) hs (isort_sorted leP_total _) fun _ _ ha hb h1 h2 => zip_inj (hp.mem_iff.1 ha) (hp.mem_iff.1 hb) (leP_anti h1 h2)
theorem sortedA_sorted (l : List Amend) : Sorted leA (sortedA l) := isort_sorted leA_total l
theorem sortedA_perm (l : List Amend) : (sortedA l).Perm l := isort_perm l
theorem sortedA_filter (p : Amend → Bool) (l : List Amend) : (sortedA l).filter p = sortedA (l.filter p) := isort_filter leA_total p l
/-- Lists with the same amendments, no two of which have the same keys, are sorted alike. -/
theorem sortedA_eq_of_perm {l m : List Amend} (hp : l.Perm m) (hd : ∀ a b, a ∈ l → b ∈ l → a.day = b.day → a.number = b.number → a = b) : sortedA l = sortedA m :=
  sorted_unique ((isort_perm l).trans (hp.trans (isort_perm m).symm)) (isort_sorted leA_total l) (isort_sorted leA_total m) fun a b ha hb h1 h2 => by
    have ha' := (isort_perm l).mem_iff.1 ha
    have hb' := (isort_perm l).mem_iff.1 hb
    simp only [leA, Bool.or_eq_true, Bool.and_eq_true, decide_eq_true_eq, beq_iff_eq] at h1 h2
    exact hd a b ha' hb' (by omega) (by omega)

/-! ### versions -/
theorem versionsA_app (known : Int) : ∀ (l m : List Amend) (c : Contract), versionsA known (l ++ m) c = versionsA known l c ++ versionsA known m (lastC c (versionsA known l c))
  | [], m, c => rfl
  | x :: l, m, c => by
    rw [List.cons_append, versionsA, versionsA]
    split
    · exact versionsA_app known l m c
    · rw [versionsA_app known l m, List.cons_append]
      congr 2
      simp only [lastC]
      cases hv : versionsA known l (applyP c x.patch).1 with
      | nil => rfl
      | cons y v => simp [List.getLast?_cons]
theorem versionsA_len (known : Int) : ∀ (l : List Amend) (c : Contract), (versionsA known l c).length ≤ l.length
  | [], _ => Nat.le_refl _
  | x :: l, c => by
    rw [versionsA]
    split
    · exact Nat.le_succ_of_le (versionsA_len known l c)
    · exact Nat.succ_le_succ (versionsA_len known l _)
theorem versionsA_mem (known : Int) : ∀ (l : List Amend) (c : Contract) (y : Amend × Contract), y ∈ versionsA known l c → y.1 ∈ l
  | [], _, _, h => by cases h
  | x :: l, c, y, h => by
    rw [versionsA] at h
    split at h
    · exact List.mem_cons_of_mem _ (versionsA_mem known l c y h)
    · rcases List.mem_cons.1 h with rfl | h
      · simp
      · exact List.mem_cons_of_mem _ (versionsA_mem known l _ y h)
/-- Amendments that are not known do not matter. -/
theorem versionsA_known (known : Int) (p : Amend → Bool) (hp : ∀ x, p x = false → known < x.known) : ∀ (l : List Amend) (c : Contract), versionsA known (l.filter p) c = versionsA known l c
  | [], _ => rfl
  | x :: l, c => by
    rw [List.filter_cons, versionsA]
    cases hx : p x with
    | true => simp only [if_true]; rw [versionsA, versionsA_known known p hp l c, versionsA_known known p hp l _]
    | false =>
      simp only [Bool.false_eq_true, if_false]
      rw [if_pos (by simp [hp x hx]), versionsA_known known p hp l c]
theorem sorted_split (day : Int) : ∀ {l : List Amend}, Sorted leA l → l = l.filter (fun x => decide (x.day ≤ day)) ++ l.filter (fun x => decide (day < x.day))
  | [], _ => rfl
  | x :: l, hs => by
    obtain ⟨h1, h2⟩ := List.pairwise_cons.1 hs
    have ih := sorted_split day h2
    by_cases hx : x.day ≤ day
    · have : ¬ day < x.day := by omega
      simp only [List.filter_cons, hx, this, decide_true, decide_false, if_true, Bool.false_eq_true, if_false, List.cons_append]
      rw [← ih]
    · have hd : day < x.day := by omega
      have hall : ∀ y ∈ l, day < y.day := fun y hy => by
        have := h1 y hy
        simp only [leA, Bool.or_eq_true, Bool.and_eq_true, decide_eq_true_eq, beq_iff_eq] at this; omega
      have e1 : l.filter (fun x => decide (x.day ≤ day)) = [] := by
        rw [List.filter_eq_nil_iff]; intro y hy; have := hall y hy; simp; omega
      have e2 : l.filter (fun x => decide (day < x.day)) = l := by
        rw [List.filter_eq_self]; intro y hy; simp [hall y hy]
      simp [List.filter_cons, hx, hd, e1, e2]
theorem upto_all {day : Int} {v : List (Amend × Contract)} (h : ∀ x ∈ v, x.1.day ≤ day) : uptoDay day v = v := by
  unfold uptoDay
  induction v with
  | nil => rfl
  | cons x v ih => rw [List.takeWhile_cons, if_pos (by simpa using h x (by simp)), ih fun y hy => h y (by simp [hy])]
theorem upto_none {day : Int} {v : List (Amend × Contract)} (h : ∀ x ∈ v, day < x.1.day) : uptoDay day v = [] := by
  unfold uptoDay
  cases v with
  | nil => rfl
  | cons x v => rw [List.takeWhile_cons, if_neg (by have := h x (by simp); simp; omega)]
theorem upto_app {day : Int} {v w : List (Amend × Contract)} (h1 : ∀ x ∈ v, x.1.day ≤ day) (h2 : ∀ x ∈ w, day < x.1.day) : uptoDay day (v ++ w) = v := by
  induction v with
  | nil => exact upto_none h2
  | cons x v ih =>
    unfold uptoDay
    rw [List.cons_append, List.takeWhile_cons, if_pos (by simpa using h1 x (by simp))]
    exact congrArg _ (ih fun y hy => h1 y (by simp [hy]))
theorem upto_take {day : Int} {v : List (Amend × Contract)} {i : Nat} {z : Amend × Contract} (hz : v[i]? = some z) (h : ∀ x ∈ v.take i, x.1.day ≤ day) (hd : day < z.1.day) : uptoDay day v = v.take i := by
  induction v generalizing i with
  | nil => simp at hz
  | cons x v ih =>
    cases i with
    | zero =>
      simp only [List.getElem?_cons_zero, Option.some.injEq] at hz
      subst hz
      unfold uptoDay
      rw [List.takeWhile_cons, if_neg (by simp; omega), List.take_zero]
    | succ i =>
      have hx := h x (by simp)
      unfold uptoDay at *
      rw [List.takeWhile_cons, if_pos (by simpa using hx), List.take_succ_cons, ih (by simpa using hz) fun y hy => h y (by simp [hy])]
/-- The versions up to a day are those of the amendments up to it. -/
theorem upto_versions (day known : Int) (l : List Amend) (c : Contract) : uptoDay day (versionsA known (sortedA l) c) = versionsA known (sortedA (l.filter fun x => decide (x.day ≤ day))) c := by
  have hs := sorted_split day (sortedA_sorted l)
  rw [sortedA_filter, sortedA_filter] at hs
  rw [hs, versionsA_app]
  refine upto_app (fun x hx => ?_) fun x hx => ?_
  · have := (sortedA_perm _).mem_iff.1 (versionsA_mem known _ _ x hx)
    simpa using (List.mem_filter.1 this).2
  · have := (sortedA_perm _).mem_iff.1 (versionsA_mem known _ _ x hx)
    simpa using (List.mem_filter.1 this).2

/-! ### equality -/
theorem eqL_iff {α : Type} [Inhabited α] {f : α → α → Bool} (hf : ∀ x y, f x y = true ↔ x = y) {l m : List α} : eqL f l m = true ↔ l = m := by
  unfold eqL
  rw [Bool.and_eq_true, allN_iff]
  constructor
  · rintro ⟨h1, h2⟩
    have hl : l.length = m.length := by simp only [len, beq_iff_eq] at h1; omega
    refine List.ext_getElem hl fun i hi hi' => ?_
    have := (hf _ _).1 (h2 i hi)
    rwa [at_nat hi, at_nat hi'] at this
  · rintro rfl
    exact ⟨by simp, fun i _ => (hf _ _).2 rfl⟩
theorem eqL_len {α : Type} [Inhabited α] {f : α → α → Bool} {l m : List α} (h : (len l != len m) = true) : eqL f l m = false := by
  unfold eqL
  have : (len l == len m) = false := by rw [← Bool.not_eq_true, ← bne_iff_ne.trans (by simp : len l ≠ len m ↔ ¬ (len l == len m) = true)]; exact h
  rw [this]; rfl
theorem eqL_bad {α : Type} [Inhabited α] {f : α → α → Bool} {l m : List α} {k : Nat} (hk : k < l.length) (h : f (at_ l (k : Int)) (at_ m (k : Int)) = false) : eqL f l m = false := by
  unfold eqL; rw [allN_bad hk h]; simp
theorem eqL_end {α : Type} [Inhabited α] {f : α → α → Bool} {l m : List α} {k : Nat} (hl : l.length = m.length) (hk : l.length ≤ k) (h : ∀ j : Nat, j < k → f (at_ l (j : Int)) (at_ m (j : Int)) = true) : eqL f l m = true := by
  unfold eqL; rw [allN_end hk h]; simp [len, hl]
theorem eqCond_iff (x y : Cond) : eqCond x y = true ↔ x = y := by cases x; cases y; simp [eqCond]
theorem eqUnt_iff (x y : Unt) : eqUnt x y = true ↔ x = y := by cases x; cases y; simp [eqUnt, and_assoc]
theorem eqAct_iff (x y : ActT) : eqAct x y = true ↔ x = y := by cases x; cases y; simp [eqAct, and_assoc]
theorem eqClause_iff (x y : Clause) : eqClause x y = true ↔ x = y := by
  cases x; cases y
  simp only [eqClause, eqPlain, Bool.and_eq_true, eqL_iff eqCond_iff, beq_iff_eq, Clause.mk.injEq]
  constructor
  · rintro ⟨h, ⟨⟨⟨⟨⟨⟨⟨⟨⟨⟨⟨⟨⟨h1, h2⟩, h3⟩, h4⟩, h5⟩, h6⟩, h7⟩, h8⟩, h9⟩, h10⟩, h11⟩, h12⟩, h13⟩, h14⟩⟩
    exact ⟨h1, h2, h3, h4, h, h5, h6, h7, h8, h9, h10, h11, h12, h13, h14⟩
  · rintro ⟨h1, h2, h3, h4, h, h5, h6, h7, h8, h9, h10, h11, h12, h13, h14⟩
    exact ⟨h, ⟨⟨⟨⟨⟨⟨⟨⟨⟨⟨⟨⟨⟨h1, h2⟩, h3⟩, h4⟩, h5⟩, h6⟩, h7⟩, h8⟩, h9⟩, h10⟩, h11⟩, h12⟩, h13⟩, h14⟩⟩
theorem sameC_iff (a b : Contract) : sameC a b = true ↔ a = b := by
  cases a; cases b
  simp only [sameC, Bool.and_eq_true, eqL_iff eqUnt_iff, eqL_iff eqAct_iff, eqL_iff eqClause_iff, beq_iff_eq, Contract.mk.injEq]
  constructor
  · rintro ⟨⟨⟨⟨⟨⟨h1, h2⟩, h3⟩, h4⟩, h5⟩, h6⟩, h7⟩; exact ⟨h1, h3, h5, h6, h7, h2, h4⟩
  · rintro ⟨h1, h3, h5, h6, h7, h2, h4⟩; exact ⟨⟨⟨⟨⟨⟨h1, h2⟩, h3⟩, h4⟩, h5⟩, h6⟩, h7⟩
theorem sameC_refl (a : Contract) : sameC a a = true := (sameC_iff a a).2 rfl

/-! ### patches -/
theorem applyP_ok {c : Contract} {p : Patch} (h : (applyP c p).2 = 0) : (applyP c p).1 = changed c p ∧ (valid2 (changed c p)).1 = 0 ∧ (valid2 c).1 = 0 ∧ formed c p = true := by
  unfold applyP at *
  split at h
  · cases h
  · split at h
    · cases h
    · split at h
      · cases h
      · rename_i h1 h2 h3
        rw [if_neg h1, if_neg h2, if_neg h3]
        simp at h1 h3
        exact ⟨rfl, h3, h1.2, h1.1⟩
theorem changeAt_len (p : Patch) (l : List Clause) (i : Int) : (changeAt p l i).length = l.length := by simp [changeAt]
theorem changeF_len (p : Patch) : ∀ (is : List Int) (l : List Clause), (is.foldl (changeAt p) l).length = l.length
  | [], _ => rfl
  | i :: is, l => by rw [List.foldl_cons, changeF_len p is, changeAt_len]
theorem inOrder_at {n : Int} {l : List Int} {k : Nat} (h : inOrder n l = true) (hk : k < l.length) : 0 ≤ at_ l (k : Int) ∧ at_ l (k : Int) < n := by
  have := allN_iff.1 h k hk
  simp only [inOrdB, Bool.and_eq_true, decide_eq_true_eq] at this
  exact this.1
/-- Versions are valid, and differ from the contract in their clauses alone. -/
theorem versionsA_ok (known : Int) : ∀ (l : List Amend) (c : Contract) (y : Amend × Contract), y ∈ versionsA known l c → (valid2 y.2).1 = 0 ∧ y.2 = { c with clauses := y.2.clauses }
  | [], _, _, h => by cases h
  | x :: l, c, y, h => by
    rw [versionsA] at h
    split at h
    · exact versionsA_ok known l c y h
    · rename_i hx
      have hok : (applyP c x.patch).2 = 0 := by
        simp only [Bool.or_eq_true, not_or, Bool.not_eq_true', Bool.not_eq_true] at hx; simpa using hx.2
      obtain ⟨h1, h2, _⟩ := applyP_ok hok
      rcases List.mem_cons.1 h with rfl | h
      · exact ⟨by rw [h1]; exact h2, by rw [h1]; rfl⟩
      · obtain ⟨g1, g2⟩ := versionsA_ok known l _ y h
        refine ⟨g1, ?_⟩
        rw [h1] at g2
        rw [g2]; rfl
theorem lastC_mem {c : Contract} {v : List (Amend × Contract)} : lastC c v = c ∨ ∃ y ∈ v, lastC c v = y.2 := by
  unfold lastC
  cases h : v.getLast? with
  | none => exact .inl rfl
  | some y => exact .inr ⟨y, List.mem_of_getLast? h, rfl⟩
theorem lastC_ok {known : Int} {l : List Amend} {c : Contract} (hc : (valid2 c).1 = 0) : (valid2 (lastC c (versionsA known l c))).1 = 0 := by
  rcases lastC_mem (c := c) (v := versionsA known l c) with h | ⟨y, hy, h⟩
  · rw [h]; exact hc
  · rw [h]; exact (versionsA_ok known l c y hy).1

/-! ### the laws -/
theorem inForce_ok {c : Contract} {l : List Amend} (h : checkA c l = 0) (day known : Int) :
    inForce c l day known = (lastC c (versionsA known (sortedA (l.filter fun x => decide (x.day ≤ day))) c), (versionsA known (sortedA (l.filter fun x => decide (x.day ≤ day))) c).map (·.1.number), 0) := by
  unfold inForce
  rw [if_neg (by simp [h]), upto_versions]
theorem inForce_bad {c : Contract} {l : List Amend} (h : checkA c l ≠ 0) (day known : Int) : inForce c l day known = (zeroCon, [], checkA c l) := by
  unfold inForce
  rw [if_pos (by simpa using h)]
theorem inForce_err (c : Contract) (l : List Amend) (day known : Int) : (inForce c l day known).2.2 = checkA c l := by
  by_cases h : checkA c l = 0
  · rw [inForce_ok h, h]
  · rw [inForce_bad h]
theorem checkA_small {c : Contract} {l : List Amend} (h : l.length ≤ 60) : checkA c l = if !((valid2 c).1 == 0) then 1 else 0 := by
  unfold checkA
  have : ¬ 60 < len l := by simp only [len]; omega
  simp [this]
theorem checkA_perm {c : Contract} {l m : List Amend} (h : l.Perm m) : checkA c l = checkA c m := by
  unfold checkA len; rw [h.length_eq]
theorem law_sequence {l m : List Amend} (hp : l.Perm m) (hd : ∀ a b, a ∈ l → b ∈ l → a.day = b.day → a.number = b.number → a = b) (c : Contract) (day known : Int) :
    inForce c l day known = inForce c m day known ∧ daysA c l known = daysA c m known := by
  unfold inForce daysA
  rw [checkA_perm hp, sortedA_eq_of_perm hp hd]
  exact ⟨rfl, rfl⟩
theorem law_counts (c : Contract) (l : List Amend) (hl : l.length ≤ 60) (day known : Int) : inForce c (l.filter fun x => decide (x.known ≤ known) && decide (x.day ≤ day)) day known = inForce c l day known := by
  have hl' : (l.filter fun x => decide (x.known ≤ known) && decide (x.day ≤ day)).length ≤ 60 := Nat.le_trans (List.length_filter_le _ _) hl
  have hc : checkA c (l.filter fun x => decide (x.known ≤ known) && decide (x.day ≤ day)) = checkA c l := by rw [checkA_small hl, checkA_small hl']
  by_cases h : checkA c l = 0
  · rw [inForce_ok h, inForce_ok (hc.trans h)]
    have e : (l.filter fun x => decide (x.known ≤ known) && decide (x.day ≤ day)).filter (fun x => decide (x.day ≤ day)) = (l.filter fun x => decide (x.day ≤ day)).filter fun x => decide (x.known ≤ known) := by
      rw [List.filter_filter, List.filter_filter]
      congr 1; funext x; cases decide (x.known ≤ known) <;> cases decide (x.day ≤ day) <;> rfl
    rw [e, ← sortedA_filter, versionsA_known known (fun x => decide (x.known ≤ known)) (fun x hx => by simpa using hx)]
  · rw [inForce_bad h, inForce_bad (by rw [hc]; exact h), hc]
theorem law_days (c : Contract) (l : List Amend) (hl : l.length ≤ 60) (first second known : Int) (hfs : first ≤ second) (h : (inForce c l first known).2.2 = 0) :
    (inForce (inForce c l first known).1 (l.filter fun x => decide (first < x.day)) second known).2.2 = 0 ∧ (inForce c l second known).2.2 = 0 ∧
    (inForce (inForce c l first known).1 (l.filter fun x => decide (first < x.day)) second known).1 = (inForce c l second known).1 ∧
    (inForce c l first known).2.1 ++ (inForce (inForce c l first known).1 (l.filter fun x => decide (first < x.day)) second known).2.1 = (inForce c l second known).2.1 := by
  rw [inForce_err] at h
  have hv : (valid2 c).1 = 0 := by rw [checkA_small hl] at h; simpa using h
  have ha : (inForce c l first known).1 = lastC c (versionsA known (sortedA (l.filter fun x => decide (x.day ≤ first))) c) := by rw [inForce_ok h]
  have hva : (valid2 (inForce c l first known).1).1 = 0 := by rw [ha]; exact lastC_ok hv
  have hl' : (l.filter fun x => decide (first < x.day)).length ≤ 60 := Nat.le_trans (List.length_filter_le _ _) hl
  have hca : checkA (inForce c l first known).1 (l.filter fun x => decide (first < x.day)) = 0 := by rw [checkA_small hl', hva]; rfl
  have hs : sortedA (l.filter fun x => decide (x.day ≤ second)) = sortedA (l.filter fun x => decide (x.day ≤ first)) ++ sortedA ((l.filter fun x => decide (first < x.day)).filter fun x => decide (x.day ≤ second)) := by
    have := sorted_split first (sortedA_sorted (l.filter fun x => decide (x.day ≤ second)))
    rw [sortedA_filter, sortedA_filter, List.filter_filter, List.filter_filter] at this
    rw [this, List.filter_filter]
    congr 2
    · congr 1; funext x
      by_cases hx : x.day ≤ first
      · have : x.day ≤ second := by omega
        simp [hx, this]
      · simp [hx]
    · congr 1; funext x; rw [Bool.and_comm]
  refine ⟨by rw [inForce_ok hca], by rw [inForce_ok h], ?_, ?_⟩
  · rw [inForce_ok hca, ha, inForce_ok h, hs, versionsA_app]
    simp only
    generalize versionsA known (sortedA (l.filter fun x => decide (x.day ≤ first))) c = v
    generalize versionsA known (sortedA ((l.filter fun x => decide (first < x.day)).filter fun x => decide (x.day ≤ second))) (lastC c v) = w
    simp only [lastC]
    cases hw : w.getLast? with
    | none =>
      have : w = [] := List.getLast?_eq_none_iff.1 hw
      subst this; simp
    | some y => simp [List.getLast?_append, hw]
  · rw [inForce_ok hca, ha, inForce_ok h, inForce_ok h, hs, versionsA_app]
    simp
/-- One amendment more, for a contract in force. -/
def stepLO (day known : Int) (x : Contract × List Int) (m : Amend) : Contract × List Int :=
  if decide (known < m.known) || decide (day < m.day) then x
  else if (applyP x.1 m.patch).2 == 0 then ((applyP x.1 m.patch).1, x.2 ++ [m.number]) else x
theorem fold_versions (day known : Int) : ∀ (l : List Amend) (x : Contract × List Int),
    l.foldl (stepLO day known) x = (lastC x.1 (versionsA known (l.filter fun m => decide (m.day ≤ day)) x.1), x.2 ++ (versionsA known (l.filter fun m => decide (m.day ≤ day)) x.1).map (·.1.number))
  | [], x => by simp [versionsA, lastC]
  | m :: l, x => by
    rw [List.foldl_cons, fold_versions day known l, stepLO]
    by_cases hd : m.day ≤ day
    · have hd' : ¬ day < m.day := by omega
      simp only [List.filter_cons, hd, decide_true, if_true, hd', decide_false, Bool.or_false]
      rw [versionsA]
      by_cases hk : known < m.known
      · simp [hk]
      · by_cases he : (applyP x.1 m.patch).2 = 0
        · simp only [hk, decide_false, Bool.false_eq_true, if_false, he, beq_self_eq_true, if_true, Bool.not_true, Bool.or_self, List.map_cons, lastC]
          refine Prod.ext ?_ (by simp)
          cases hv : versionsA known (l.filter fun m => decide (m.day ≤ day)) (applyP x.1 m.patch).1 with
          | nil => rfl
          | cons y v => simp [List.getLast?_cons]
        · simp [hk, he]
    · have hd' : day < m.day := by omega
      simp [List.filter_cons, hd, hd']
theorem order_fold {β : Type} (f : β → Amend → β) (x : β) (l : List Amend) : (orderA l).foldl (fun x k => f x (at_ l k)) x = (sortedA l).foldl f x := by
  rw [← sortedA_eq, orderA, List.foldl_map, List.foldl_map]
  have : ∀ (m : List (Amend × Nat)) (x : β), (∀ y ∈ m, at_ l (y.2 : Int) = y.1) → m.foldl (fun x y => f x (at_ l (y.2 : Int))) x = m.foldl (fun x y => f x y.1) x := by
    intro m
    induction m with
    | nil => intro _ _; rfl
    | cons y m ih =>
      intro x h
      rw [List.foldl_cons, List.foldl_cons, h y (by simp), ih _ fun z hz => h z (by simp [hz])]
  refine this _ x fun y hy => ?_
  obtain ⟨y1, y2⟩ := y
  have hy := List.mem_zipIdx_iff_getElem?.1 ((isort_perm _).mem_iff.1 hy)
  obtain ⟨h1, h2⟩ := List.getElem?_eq_some_iff.1 hy
  rw [at_nat h1]; exact h2
theorem law_leaves {c : Contract} {l : List Amend} {day known : Int} (h : checkA c l = 0) :
    (orderA l).foldl (fun x k => stepLO day known x (at_ l k)) (c, []) = ((inForce c l day known).1, (inForce c l day known).2.1) := by
  rw [order_fold, fold_versions, inForce_ok h, sortedA_filter]
  simp
theorem orderA_range {l : List Amend} {k : Int} (h : k ∈ orderA l) : 0 ≤ k ∧ k < len l := by
  simp only [orderA, List.mem_map] at h
  obtain ⟨y, hy, rfl⟩ := h
  have hy := (isort_perm _).mem_iff.1 hy
  have := List.snd_lt_of_mem_zipIdx hy
  simp only [len]; omega
theorem orderA_len (l : List Amend) : (orderA l).length = l.length := by simp [orderA, sortedP, isort_len]
/-! ### days -/
/-- The value on a day, of values that hold from days on. -/
def atDay (last : Contract) : List (Int × Contract) → Int → Contract
  | [], _ => last
  | y :: E, day => if decide (y.1 ≤ day) then atDay y.2 E day else last
abbrev Rising (E : List (Int × Contract)) : Prop := E.Pairwise fun a b => a.1 < b.1
theorem atDay_none {last : Contract} {E : List (Int × Contract)} {day : Int} (h : ∀ y ∈ E, day < y.1) : atDay last E day = last := by
  cases E with
  | nil => rfl
  | cons y E => rw [atDay, if_neg (by have := h y (by simp); simp; omega)]
theorem atDay_snoc {day : Int} : ∀ (E : List (Int × Contract)) (last : Contract) (y : Int × Contract), Rising (E ++ [y]) → atDay last (E ++ [y]) day = if decide (y.1 ≤ day) then y.2 else atDay last E day
  | [], last, y, _ => rfl
  | x :: E, last, y, h => by
    obtain ⟨h1, h2⟩ := List.pairwise_cons.1 h
    have hxy := h1 y (by simp)
    rw [List.cons_append, atDay, atDay_snoc E x.2 y h2, atDay]
    by_cases hy : y.1 ≤ day
    · have : x.1 ≤ day := by omega
      simp [hy, this]
    · by_cases hx : x.1 ≤ day <;> simp [hy, hx]
theorem list_snoc {α : Type} {P : List α → Prop} (h0 : P []) (h1 : ∀ l x, P l → P (l ++ [x])) (l : List α) : P l := by
  have : ∀ l : List α, P l.reverse := by
    intro l
    induction l with
    | nil => exact h0
    | cons x l ih => rw [List.reverse_cons]; exact h1 _ _ ih
  rw [← List.reverse_reverse l]; exact this _
/-- What the ends of days are. -/
structure EndsOk (c : Contract) (v : List (Amend × Contract)) (E : List (Int × Contract)) : Prop where
  rise : Rising E
  last : E.getLast? = v.getLast?.map fun x => (x.1.day, x.2)
  val : ∀ day, atDay c E day = lastC c (uptoDay day v)
theorem rising_last {E : List (Int × Contract)} {y : Int × Contract} (h : Rising E) (hy : E.getLast? = some y) : E = E.dropLast ++ [y] := by
  obtain ⟨ys, rfl⟩ := List.getLast?_eq_some_iff.1 hy
  simp
theorem ends_ok (c : Contract) : ∀ v : List (Amend × Contract), (v.Pairwise fun a b => a.1.day ≤ b.1.day) → EndsOk c v (endsA v) := by
  refine list_snoc (fun _ => ⟨.nil, rfl, fun _ => rfl⟩) fun v x ih hs => ?_
  obtain ⟨hv, _, hx⟩ := List.pairwise_append.1 hs
  have hx : ∀ y ∈ v, y.1.day ≤ x.1.day := fun y hy => hx y hy x (by simp)
  obtain ⟨h1, h2, h3⟩ := ih hv
  have hE : endsA (v ++ [x]) = pushE (endsA v) x := by unfold endsA; rw [List.foldl_append]; rfl
  generalize endsA v = E at *
  have hval : ∀ day, lastC c (uptoDay day (v ++ [x])) = if decide (x.1.day ≤ day) then x.2 else lastC c (uptoDay day v) := by
    intro day
    by_cases hd : x.1.day ≤ day
    · rw [upto_all (fun y hy => by
        rcases List.mem_append.1 hy with hy | hy
        · have := hx y hy; omega
        · simp only [List.mem_singleton] at hy; subst hy; exact hd)]
      simp [lastC, hd]
    · have : ∀ w : List (Amend × Contract), uptoDay day (w ++ [x]) = uptoDay day w := by
        intro w
        induction w with
        | nil => simp [uptoDay, hd]
        | cons y w ihw =>
          unfold uptoDay at ihw ⊢
          rw [List.cons_append, List.takeWhile_cons, List.takeWhile_cons, ihw]
      rw [this]; simp [hd]
  rw [hE]
  unfold pushE
  cases hl : E.getLast? with
  | none =>
    have hE0 : E = [] := List.getLast?_eq_none_iff.1 hl
    subst hE0
    refine ⟨List.pairwise_singleton _ _, by simp, fun day => ?_⟩
    rw [hval, atDay]
    by_cases hd : x.1.day ≤ day
    · simp [hd, atDay]
    · rw [← h3]; simp [hd, atDay]
  | some y =>
    have hEy := rising_last h1 hl
    have hyv : ∃ z ∈ v, y = (z.1.day, z.2) := by
      rw [hl] at h2
      cases hz : v.getLast? with
      | none => rw [hz] at h2; cases h2
      | some z => rw [hz] at h2; cases h2; exact ⟨z, List.mem_of_getLast? hz, rfl⟩
    obtain ⟨z, hz, hyz⟩ := hyv
    have hyx : y.1 ≤ x.1.day := by rw [hyz]; exact hx z hz
    have hr : ∀ w ∈ E.dropLast, w.1 < y.1 := fun w hw => by
      rw [hEy] at h1
      exact (List.pairwise_append.1 h1).2.2 w hw y (by simp)
    have hrd : Rising E.dropLast := by rw [hEy] at h1; exact (List.pairwise_append.1 h1).1
    simp only
    by_cases hlt : y.1 < x.1.day
    · rw [if_pos (by simpa using hlt)]
      have hR : Rising (E ++ [(x.1.day, x.2)]) := by
        refine List.pairwise_append.2 ⟨h1, List.pairwise_singleton _ _, fun a ha b hb => ?_⟩
        simp only [List.mem_singleton] at hb; subst hb
        rw [hEy] at ha
        rcases List.mem_append.1 ha with ha | ha
        · have := hr a ha; simp only; omega
        · simp only [List.mem_singleton] at ha; subst ha; exact hlt
      exact ⟨hR, by simp, fun day => by rw [atDay_snoc _ _ _ hR, hval, h3]⟩
    · rw [if_neg (by simpa using hlt)]
      have hyx' : y.1 = x.1.day := by omega
      have hR : Rising (E.dropLast ++ [(y.1, x.2)]) := by
        refine List.pairwise_append.2 ⟨hrd, List.pairwise_singleton _ _, fun a ha b hb => ?_⟩
        simp only [List.mem_singleton] at hb; subst hb; exact hr a ha
      refine ⟨hR, by simp [hyx'], fun day => ?_⟩
      rw [atDay_snoc _ _ _ hR, hval, ← h3 day, hyx']
      by_cases hd : x.1.day ≤ day
      · simp [hd]
      · have e := atDay_snoc (day := day) E.dropLast c y (by rw [← hEy]; exact h1)
        rw [← hEy] at e
        rw [e]
        simp [hyx', hd]
theorem turnsA_mem : ∀ (E : List (Int × Contract)) (last : Contract) (d : Int), d ∈ turnsA last E → ∃ y ∈ E, y.1 = d
  | [], _, _, h => by cases h
  | y :: E, last, d, h => by
    rw [turnsA] at h
    split at h
    · obtain ⟨z, hz, e⟩ := turnsA_mem E _ d h; exact ⟨z, by simp [hz], e⟩
    · rcases List.mem_cons.1 h with rfl | h
      · exact ⟨y, by simp, rfl⟩
      · obtain ⟨z, hz, e⟩ := turnsA_mem E _ d h; exact ⟨z, by simp [hz], e⟩
theorem turnsA_rise : ∀ (E : List (Int × Contract)) (last : Contract), Rising E → (turnsA last E).Pairwise (· < ·)
  | [], _, _ => .nil
  | y :: E, last, h => by
    obtain ⟨h1, h2⟩ := List.pairwise_cons.1 h
    rw [turnsA]
    split
    · exact turnsA_rise E _ h2
    · refine List.pairwise_cons.2 ⟨fun d hd => ?_, turnsA_rise E _ h2⟩
      obtain ⟨z, hz, rfl⟩ := turnsA_mem E _ d hd
      exact h1 z hz
/-- On each of the days there is another value than on the one before. -/
def Turns (T : Int → Contract) : Contract → List Int → Prop
  | _, [] => True
  | last, d :: l => T d ≠ last ∧ Turns T (T d) l
theorem Turns.congr {T T' : Int → Contract} : ∀ {l : List Int} {last : Contract}, (∀ d ∈ l, T d = T' d) → Turns T last l → Turns T' last l
  | [], _, _, _ => trivial
  | d :: l, last, h, ht => by
    have := h d (by simp)
    refine ⟨this ▸ ht.1, ?_⟩
    rw [← this]
    exact Turns.congr (fun x hx => h x (by simp [hx])) ht.2
theorem turns_ok (c : Contract) : ∀ (E : List (Int × Contract)) (last : Contract), Rising E → (∀ y ∈ E, y.2 = { c with clauses := y.2.clauses }) → last = { c with clauses := last.clauses } → Turns (atDay last E) last (turnsA last E)
  | [], _, _, _, _ => trivial
  | y :: E, last, h, hc, hl => by
    obtain ⟨h1, h2⟩ := List.pairwise_cons.1 h
    have hy := hc y (by simp)
    have ih := turns_ok c E y.2 h2 (fun z hz => hc z (by simp [hz])) hy
    have hT : ∀ d ∈ turnsA y.2 E, atDay y.2 E d = atDay last (y :: E) d := fun d hd => by
      obtain ⟨z, hz, rfl⟩ := turnsA_mem E _ d hd
      have := h1 z hz
      rw [atDay, if_pos (by simp; omega)]
    rw [turnsA]
    split
    · rename_i he
      have : y.2 = last := by
        rw [hy, hl, (eqL_iff eqClause_iff).1 he]
      rw [this] at ih hT ⊢
      exact ih.congr hT
    · rename_i he
      have hTy : atDay last (y :: E) y.1 = y.2 := by
        rw [atDay, if_pos (by simp), atDay_none fun z hz => h1 z hz]
      refine ⟨?_, ?_⟩
      · rw [hTy]; intro e; exact he ((eqL_iff eqClause_iff).2 (by rw [e]))
      · rw [hTy]; exact ih.congr hT
theorem turns_now (c : Contract) (day : Int) : ∀ (E : List (Int × Contract)) (last : Contract), Rising E → (∀ y ∈ E, y.2 = { c with clauses := y.2.clauses }) → last = { c with clauses := last.clauses } →
    (turnsA last E).foldl (fun now d => if decide (d ≤ day) then atDay last E d else now) last = atDay last E day
  | [], _, _, _, _ => rfl
  | y :: E, last, h, hc, hl => by
    obtain ⟨h1, h2⟩ := List.pairwise_cons.1 h
    have hy := hc y (by simp)
    have ih := turns_now c day E y.2 h2 (fun z hz => hc z (by simp [hz])) hy
    have hT : ∀ d ∈ turnsA y.2 E, atDay last (y :: E) d = atDay y.2 E d := fun d hd => by
      obtain ⟨z, hz, rfl⟩ := turnsA_mem E _ d hd
      have := h1 z hz
      rw [atDay, if_pos (by simp; omega)]
    have hfold : ∀ (l : List Int) (x : Contract), (∀ d ∈ l, atDay last (y :: E) d = atDay y.2 E d) → l.foldl (fun now d => if decide (d ≤ day) then atDay last (y :: E) d else now) x = l.foldl (fun now d => if decide (d ≤ day) then atDay y.2 E d else now) x := by
      intro l
      induction l with
      | nil => intro _ _; rfl
      | cons d l ih => intro x hh; rw [List.foldl_cons, List.foldl_cons, hh d (by simp), ih _ fun e he => hh e (by simp [he])]
    have hskip : ∀ (l : List Int) (x : Contract), (∀ d ∈ l, day < d) → l.foldl (fun now d => if decide (d ≤ day) then atDay y.2 E d else now) x = x := by
      intro l
      induction l with
      | nil => intro _ _; rfl
      | cons d l ih =>
        intro x hh
        have := hh d (by simp)
        rw [List.foldl_cons, if_neg (by simp; omega), ih _ fun e he => hh e (by simp [he])]
    rw [turnsA]
    split
    · rename_i he
      have hyl : y.2 = last := by rw [hy, hl, (eqL_iff eqClause_iff).1 he]
      rw [hfold _ _ hT, atDay]
      rw [hyl] at ih ⊢
      rw [ih]
      split
      · rfl
      · rename_i hd
        exact atDay_none fun z hz => by have := h1 z hz; simp at hd; omega
    · have hTy : atDay last (y :: E) y.1 = y.2 := by
        rw [atDay, if_pos (by simp), atDay_none fun z hz => h1 z hz]
      rw [List.foldl_cons, hTy, hfold _ _ hT, atDay]
      by_cases hd : y.1 ≤ day
      · rw [if_pos (by simpa using hd), if_pos (by simpa using hd), ih]
      · rw [if_neg (by simpa using hd), if_neg (by simpa using hd)]
        exact hskip _ _ fun d hd' => by
          obtain ⟨z, hz, rfl⟩ := turnsA_mem E _ d hd'
          have := h1 z hz; omega
theorem versionsA_days (known : Int) : ∀ {l : List Amend} (c : Contract), Sorted leA l → (versionsA known l c).Pairwise fun a b => a.1.day ≤ b.1.day
  | [], _, _ => .nil
  | x :: l, c, h => by
    obtain ⟨h1, h2⟩ := List.pairwise_cons.1 h
    rw [versionsA]
    split
    · exact versionsA_days known c h2
    · refine List.pairwise_cons.2 ⟨fun y hy => ?_, versionsA_days known _ h2⟩
      have := h1 _ (versionsA_mem known _ _ y hy)
      simp only [leA, Bool.or_eq_true, Bool.and_eq_true, decide_eq_true_eq, beq_iff_eq] at this; simp only; omega
theorem endsA_con {c : Contract} : ∀ v : List (Amend × Contract), (∀ y ∈ v, y.2 = { c with clauses := y.2.clauses }) → ∀ y ∈ endsA v, y.2 = { c with clauses := y.2.clauses } := by
  refine list_snoc (fun _ y hy => by cases hy) fun v x ih hv y hy => ?_
  have ih := ih fun z hz => hv z (by simp [hz])
  have hx := hv x (by simp)
  have hE : endsA (v ++ [x]) = pushE (endsA v) x := by unfold endsA; rw [List.foldl_append]; rfl
  rw [hE, pushE] at hy
  split at hy
  · simp only [List.mem_singleton] at hy; subst hy; exact hx
  · split at hy
    · rcases List.mem_append.1 hy with hy | hy
      · exact ih y hy
      · simp only [List.mem_singleton] at hy; subst hy; exact hx
    · rcases List.mem_append.1 hy with hy | hy
      · exact ih y (List.dropLast_subset _ hy)
      · simp only [List.mem_singleton] at hy; subst hy; exact hx
theorem law_changes {c : Contract} {l : List Amend} {known : Int} (h : checkA c l = 0) (day : Int) :
    (daysA c l known).1.Pairwise (· < ·) ∧ Turns (fun d => (inForce c l d known).1) c (daysA c l known).1 ∧
    (daysA c l known).1.foldl (fun now d => if decide (d ≤ day) then (inForce c l d known).1 else now) c = (inForce c l day known).1 := by
  have hE := ends_ok c _ (versionsA_days known c (sortedA_sorted l))
  have hc := endsA_con (c := c) (versionsA known (sortedA l) c) fun y hy => (versionsA_ok known _ c y hy).2
  have hT : ∀ d, (inForce c l d known).1 = atDay c (endsA (versionsA known (sortedA l) c)) d := fun d => by
    rw [hE.val]; unfold inForce; rw [if_neg (by simp [h])]
  have hd : (daysA c l known).1 = turnsA c (endsA (versionsA known (sortedA l) c)) := by unfold daysA; rw [if_neg (by simp [h])]
  have hTT : (fun d => (inForce c l d known).1) = atDay c (endsA (versionsA known (sortedA l) c)) := funext hT
  rw [hd, hTT]
  refine ⟨turnsA_rise _ _ hE.rise, turns_ok c _ c hE.rise hc rfl, ?_⟩
  simp only [hT]
  exact turns_now c day _ c hE.rise hc rfl
end Es
end
section
/-
  An abstract machine over the model, part 16: what lies beyond a block's rows is nobody's concern.
-/
namespace Go.Abs
open Go
/-- The store may be told otherwise, where every configuration that fits the one fits the other. -/
theorem AWp.sim {M : Ctx} {c : Code} {Q Q' : Exit → Env → S → Prop} {e : Env} {s : S} (h : AWp M c Q e s) (hq : ∀ x e s, Q x e s → ∃ s', (∀ cf : Cfg, cf.Ok s → cf.Ok s') ∧ Q' x e s') : AWp M c Q' e s :=
  fun cf a n hE hok => wpIn_mono (h cf a n hE hok) fun x _ _ ⟨cf', e', s', h1, h2, h3, h4, h5⟩ =>
    let ⟨s'', g1, g2⟩ := hq x e' s' h5
    ⟨cf', e', s'', h1, h2, h3, g1 cf' h4, g2⟩
theorem ACall.sim {M : Ctx} {f : FuncId} {args : List D} {s : S} {K K' : D → S → Prop} (h : ACall M f args s K) (hk : ∀ d s, K d s → ∃ s', (∀ cf : Cfg, cf.Ok s → cf.Ok s') ∧ K' d s') : ACall M f args s K' :=
  fun c vals h1 h2 h3 h4 => (h c vals h1 h2 h3 h4).mono fun _ _ ⟨c', v, d, s', g1, g2, g3, g4, g5, g6⟩ =>
    let ⟨s'', k1, k2⟩ := hk d s' g6
    ⟨c', v, d, s'', g1, g2, g3, k1 c' g4, g5, k2⟩
theorem cells_sim {s : S} {f i k n : Nat} {ty : TypeId} {cell cell' : Nat → Nat → D} (hB : s.o f i = some (.blk k n ty cell)) (hc : ∀ r c, r < n → c < k → cell r c = cell' r c) (cf : Cfg) (h : cf.Ok s) : cf.Ok (s.put f i (.blk k n ty cell')) where
  kb := h.kb
  βb := h.βb
  fresh := h.fresh
  obj f1 i1 B1 hB1 := by
    change (if f1 = f ∧ i1 = i then some (SObj.blk k n ty cell') else s.o f1 i1) = some B1 at hB1
    split at hB1
    · rename_i hh
      obtain ⟨rfl, rfl⟩ := hh
      cases hB1
      obtain ⟨h1, h2⟩ := h.obj _ _ _ hB
      refine ⟨h1, ?_⟩
      rcases h2 with ⟨b, cp, g1, g2, g3, arr, g4, g5, g6⟩ | ⟨g1, g2⟩
      · exact .inl ⟨b, cp, g1, g2, g3, arr, g4, g5, fun r c hr hc' => by rw [← hc r c hr hc']; exact g6 r c hr hc'⟩
      · exact .inr ⟨g1, g2⟩
    · exact h.obj f1 i1 B1 hB1
  inj f1 i1 f2 i2 B1 B2 b cp1 cp2 h1 h2 h3 h4 := by
    have hl : ∀ f' i' B0, St.set s.o f i (some (.blk k n ty cell')) f' i' = some B0 → ∃ B1, s.o f' i' = some B1 := by
      intro f' i' B0 hh
      change (if f' = f ∧ i' = i then some (SObj.blk k n ty cell') else s.o f' i') = some B0 at hh
      split at hh
      · rename_i e; obtain ⟨rfl, rfl⟩ := e; exact ⟨_, hB⟩
      · exact ⟨B0, hh⟩
    obtain ⟨B3, h5⟩ := hl _ _ _ h1
    obtain ⟨B4, h6⟩ := hl _ _ _ h2
    exact h.inj _ _ _ _ _ _ _ _ _ h5 h6 h3 h4
/-- Arguments of which one owned slice is given away for good. -/
def FrL (f k n : Nat) (cell : Nat → Nat → D) : List D → List D → Prop
  | [], [] => True
  | d :: ds, d' :: ds' => (d' = d ∨ (d = .ms f 0 k 0 n ∧ d' = .sl k n cell)) ∧ FrL f k n cell ds ds'
  | _, _ => False
theorem FrL.len {f k n : Nat} {cell : Nat → Nat → D} : ∀ {ds ds' : List D}, FrL f k n cell ds ds' → ds.length = ds'.length
  | [], [], _ => rfl
  | d :: ds, d' :: ds', h => by simp [FrL.len h.2]
theorem FrL.get {f k n : Nat} {cell : Nat → Nat → D} : ∀ {ds ds' : List D}, FrL f k n cell ds ds' → ∀ (i : Nat) (d d' : D), ds[i]? = some d → ds'[i]? = some d' → d' = d ∨ (d = .ms f 0 k 0 n ∧ d' = .sl k n cell)
  | d :: ds, d' :: ds', h, 0, x, y, hx, hy => by simp at hx hy; subst hx; subst hy; exact h.1
  | d :: ds, d' :: ds', h, i + 1, x, y, hx, hy => FrL.get h.2 i x y (by simpa using hx) (by simpa using hy)
theorem acall_freeze {M : Ctx} {g : FuncId} {args args' : List D} {s : S} {K : D → S → Prop} {f k n : Nat} {ty : TypeId} {cell cell' : Nat → Nat → D} (hB : s.o f 0 = some (.blk k n ty cell)) (hc : ∀ r c, r < n → c < k → cell r c = cell' r c)
    (ha : FrL f k n cell' args args') (h : ACall M g args' (s.kill f 0) K) : ACall M g args s K := by
  intro c vals hok hglob hlen hrep
  obtain ⟨hlt, ho⟩ := hok.obj f 0 _ hB
  have hget : ∀ (i : Nat) (d' : D), args'[i]? = some d' → ∃ d, args[i]? = some d ∧ (d' = d ∨ (d = .ms f 0 k 0 n ∧ d' = .sl k n cell')) := fun i d' hd' => by
    have hi : i < args.length := by
      rw [ha.len]
      rcases Nat.lt_or_ge i args'.length with h | h
      · exact h
      · rw [List.getElem?_eq_none h] at hd'; cases hd'
    exact ⟨_, List.getElem?_eq_getElem hi, ha.get i _ d' (List.getElem?_eq_getElem hi) hd'⟩
  have hkill : ∀ f' i' B', (s.kill f 0).o f' i' = some B' → ¬ (f' = f ∧ i' = 0) ∧ s.o f' i' = some B' := fun f' i' B' hh => by
    change (if f' = f ∧ i' = 0 then none else s.o f' i') = some B' at hh
    split at hh
    · cases hh
    · rename_i hne; exact ⟨hne, hh⟩
  rcases ho with ⟨b, cp, hβ, hnk, hn, arr, harr, hsz, hcell⟩ | ⟨hβ, he⟩
  · obtain ⟨c1, hc1⟩ : ∃ c1 : Cfg, c1 = ⟨fun x => c.K x ∨ x = b, c.β, c.W⟩ := ⟨_, rfl⟩
    have hx : Ext c c1 := by
      rw [hc1]
      exact ⟨fun _ h => .inl h, fun _ _ _ h => h, Nat.le_refl _, rfl, rfl, rfl, fun _ _ => rfl, fun _ _ _ => rfl, fun x hx => by
        rcases hx with hx | rfl
        · exact .inl hx
        · exact .inr (.inl ⟨f, 0, cp, hβ⟩), fun f i x cp h => .inl ⟨f, i, cp, h⟩⟩
    have hok1 : c1.Ok (s.kill f 0) := by
      rw [hc1]
      refine ⟨fun x hx => ?_, hok.βb, hok.fresh, fun f1 i1 B1 hB1 => ?_, fun f1 i1 f2 i2 B1 B2 b' cp1 cp2 h1 h2 h3 h4 => hok.inj _ _ _ _ _ _ _ _ _ (hkill _ _ _ h1).2 (hkill _ _ _ h2).2 h3 h4⟩
      · rcases hx with hx | rfl
        · exact hok.kb x hx
        · exact hok.βb f 0 _ cp hβ
      · obtain ⟨hne, hB1'⟩ := hkill _ _ _ hB1
        obtain ⟨k1, k2⟩ := hok.obj f1 i1 B1 hB1'
        refine ⟨k1, ?_⟩
        rcases k2 with ⟨b1, cp1, g1, g2, g3⟩ | k2
        · refine .inl ⟨b1, cp1, g1, fun hk => ?_, g3.mono (fun _ h => .inl h) (fun _ _ _ h => h) (fun _ _ => rfl) rfl⟩
          rcases hk with hk | rfl
          · exact g2 hk
          · exact hne (hok.inj _ _ _ _ _ _ _ _ _ hB1' hB g1 hβ)
        · exact .inr k2
    have hrep1 : ∀ (i : Nat) (d' : D), args'[i]? = some d' → c1.Rep d' (vals.getD i undef) := fun i d' hd' => by
      obtain ⟨d, hd, hdd⟩ := hget i d' hd'
      have hr := hrep i d hd
      rcases hdd with rfl | ⟨rfl, rfl⟩
      · exact hx.rep hr
      · generalize vals.getD i undef = v at hr
        cases hr with
        | ms _ _ _ _ _ b0 cp0 cap hβ0 hcp1 hcp2 =>
          rw [hβ] at hβ0; cases hβ0
          refine .sl k n cell' b (0 * k) cap (fun r j => arr.getD (r * k + j) undef) (by rw [hc1]; exact .inr rfl) hcp1 (fun r j hr hj => ?_) (fun r j hr hj => (hcell r j hr hj).1) (fun r j hr hj => ?_)
          · have := arr_cell (w := c.W) harr (o := r * k + j) (by rw [hsz]; exact idx_lt (by omega) hj)
            rw [hc1, Nat.zero_mul, Nat.zero_add]; exact this
          · rw [← hc r j hr hj]; exact hx.rep (hcell r j hr hj).2
        | msnil => exact .slnil k cell'
    refine (h c1 vals hok1 (hglob.ext hx) (by rw [hlen, ha.len]) hrep1 : Calls M.P g vals.toArray c1.W _).mono ?_ |> fun hh => (by rw [hc1] at hh; exact hh)
    rintro x W' ⟨c', v, d, s', g1, g2, g3, g4, g5, g6⟩
    exact ⟨c', v, d, s', g1, g2, hx.trans g3, g4, g5, g6⟩
  · have hn0 : n = 0 := he
    subst hn0
    have hok1 : c.Ok (s.kill f 0) := kill_ok hok f 0
    refine h c vals hok1 hglob (by rw [hlen, ha.len]) fun i d' hd' => ?_
    obtain ⟨d, hd, hdd⟩ := hget i d' hd'
    have hr := hrep i d hd
    rcases hdd with rfl | ⟨rfl, rfl⟩
    · exact hr
    · generalize vals.getD i undef = v at hr
      cases hr with
      | ms _ _ _ _ _ b0 cp0 cap hβ0 => rw [hβ] at hβ0; cases hβ0
      | msnil => exact .slnil k cell'
/-- Arguments that stand for whatever they stood for. -/
def WkL : List D → List D → Prop
  | [], [] => True
  | d :: ds, d' :: ds' => (∀ (c : Cfg) (v : Value), c.Rep d v → c.Rep d' v) ∧ WkL ds ds'
  | _, _ => False
theorem WkL.len : ∀ {ds ds' : List D}, WkL ds ds' → ds.length = ds'.length
  | [], [], _ => rfl
  | d :: ds, d' :: ds', h => by simp [WkL.len h.2]
theorem WkL.get : ∀ {ds ds' : List D}, WkL ds ds' → ∀ (i : Nat) (d d' : D), ds[i]? = some d → ds'[i]? = some d' → ∀ (c : Cfg) (v : Value), c.Rep d v → c.Rep d' v
  | d :: ds, d' :: ds', h, 0, x, y, hx, hy => by simp at hx hy; subst hx; subst hy; exact h.1
  | d :: ds, d' :: ds', h, i + 1, x, y, hx, hy => WkL.get h.2 i x y (by simpa using hx) (by simpa using hy)
theorem acall_weak {M : Ctx} {g : FuncId} {args args' : List D} {s : S} {K : D → S → Prop} (ha : WkL args args') (h : ACall M g args' s K) : ACall M g args s K := fun c vals hok hglob hlen hrep =>
  h c vals hok hglob (by rw [hlen, ha.len]) fun i d' hd' => by
    have hi : i < args.length := by
      rw [ha.len]
      rcases Nat.lt_or_ge i args'.length with h | h
      · exact h
      · rw [List.getElem?_eq_none h] at hd'; cases hd'
    exact ha.get i _ d' (List.getElem?_eq_getElem hi) hd' c _ (hrep i _ (List.getElem?_eq_getElem hi))
theorem wk_nil (k : Nat) (row : Nat → Nat → D) (c : Cfg) (v : Value) (h : c.Rep (.v (.slice none 0 0)) v) : c.Rep (.sl k 0 row) v := by cases h; exact .slnil k row
end Go.Abs
end
section
/-
  An abstract machine over the model, part 18: an owned slice in a slot is given away where it lies.
-/
namespace Go.Abs
open Go

theorem freeze_cfg {c : Cfg} {s : S} {f k n : Nat} {ty : TypeId} {cell cell' : Nat → Nat → D} (hok : c.Ok s) (hB : s.o f 0 = some (.blk k n ty cell)) (hc : ∀ r c, r < n → c < k → cell r c = cell' r c) :
    ∃ c1 : Cfg, c1.W = c.W ∧ Ext c c1 ∧ c1.Ok (s.kill f 0) ∧ ∀ v, c.Rep (.ms f 0 k 0 n) v → c1.Rep (.sl k n cell') v := by
  obtain ⟨hlt, ho⟩ := hok.obj f 0 _ hB
  have hkill : ∀ f' i' B', (s.kill f 0).o f' i' = some B' → ¬ (f' = f ∧ i' = 0) ∧ s.o f' i' = some B' := fun f' i' B' hh => by
    change (if f' = f ∧ i' = 0 then none else s.o f' i') = some B' at hh
    split at hh
    · cases hh
    · rename_i hne; exact ⟨hne, hh⟩
  rcases ho with ⟨b, cp, hβ, hnk, hn, arr, harr, hsz, hcell⟩ | ⟨hβ, he⟩
  · have hx : Ext c ⟨fun x => c.K x ∨ x = b, c.β, c.W⟩ :=
      ⟨fun _ h => .inl h, fun _ _ _ h => h, Nat.le_refl _, rfl, rfl, rfl, fun _ _ => rfl, fun _ _ _ => rfl, fun x hx => by
        rcases hx with hx | rfl
        · exact .inl hx
        · exact .inr (.inl ⟨f, 0, cp, hβ⟩), fun f i x cp h => .inl ⟨f, i, cp, h⟩⟩
    refine ⟨⟨fun x => c.K x ∨ x = b, c.β, c.W⟩, rfl, hx, ?_, fun v hr => ?_⟩
    · refine ⟨fun x hx => ?_, hok.βb, hok.fresh, fun f1 i1 B1 hB1 => ?_, fun f1 i1 f2 i2 B1 B2 b' cp1 cp2 h1 h2 h3 h4 => hok.inj _ _ _ _ _ _ _ _ _ (hkill _ _ _ h1).2 (hkill _ _ _ h2).2 h3 h4⟩
      · rcases hx with hx | rfl
        · exact hok.kb x hx
        · exact hok.βb f 0 _ cp hβ
      · obtain ⟨hne, hB1'⟩ := hkill _ _ _ hB1
        obtain ⟨k1, k2⟩ := hok.obj f1 i1 B1 hB1'
        refine ⟨k1, ?_⟩
        rcases k2 with ⟨b1, cp1, g1, g2, g3⟩ | k2
        · refine .inl ⟨b1, cp1, g1, fun hk => ?_, g3.mono (fun _ h => .inl h) (fun _ _ _ h => h) (fun _ _ => rfl) rfl⟩
          rcases hk with hk | rfl
          · exact g2 hk
          · exact hne (hok.inj _ _ _ _ _ _ _ _ _ hB1' hB g1 hβ)
        · exact .inr k2
    · cases hr with
      | ms _ _ _ _ _ b0 cp0 cap hβ0 hcp1 hcp2 =>
        rw [hβ] at hβ0; cases hβ0
        refine .sl k n cell' b (0 * k) cap (fun r j => arr.getD (r * k + j) undef) (.inr rfl) hcp1 (fun r j hr hj => ?_) (fun r j hr hj => (hcell r j hr hj).1) (fun r j hr hj => ?_)
        · have := arr_cell (w := c.W) harr (o := r * k + j) (by rw [hsz]; exact idx_lt (by omega) hj)
          rw [Nat.zero_mul, Nat.zero_add]; exact this
        · rw [← hc r j hr hj]; exact hx.rep (hcell r j hr hj).2
      | msnil => exact .slnil k cell'
  · have hn0 : n = 0 := he
    subst hn0
    refine ⟨c, rfl, Ext.refl c, kill_ok hok f 0, fun v hr => ?_⟩
    cases hr with
    | ms _ _ _ _ _ b0 cp0 cap hβ0 => rw [hβ] at hβ0; cases hβ0
    | msnil => exact .slnil k cell'
theorem awp_freeze {M : Ctx} {x : Code} {Q : Exit → Env → S → Prop} {e : Env} {s : S} {t f k n : Nat} {ty : TypeId} {cell cell' : Nat → Nat → D} (ht : e t = .ms f 0 k 0 n) (hB : s.o f 0 = some (.blk k n ty cell)) (hc : ∀ r c, r < n → c < k → cell r c = cell' r c)
    (h : AWp M x Q (upd e t (.sl k n cell')) (s.kill f 0)) : AWp M x Q e s := by
  intro cf a m hE hok
  obtain ⟨c1, hW, hx, hok1, hr⟩ := freeze_cfg hok hB hc
  have hE1 : EnvRel M c1 (upd e t (.sl k n cell')) a := by
    refine ⟨hE.defers.ext hx, hE.size, fun u => ?_, hE.glob.ext hx⟩
    show c1.Rep (if u = t then .sl k n cell' else e u) _
    by_cases hu : u = t
    · subst hu; rw [if_pos rfl]; exact hr _ (ht ▸ hE.slot u)
    · rw [if_neg hu]; exact hx.rep (hE.slot u)
  have := h c1 a m hE1 hok1
  rw [hW] at this
  refine wpIn_mono this ?_
  rintro ex a' W' ⟨cf', e', s', g1, g2, g3, g4, g5⟩
  exact ⟨cf', e', s', g1, hx.trans g2, g3, g4, g5⟩
/-- Cells may be told otherwise within a block's rows. -/
theorem awp_cells {M : Ctx} {x : Code} {Q : Exit → Env → S → Prop} {e : Env} {o : St} {nx f k n : Nat} {ty : TypeId} {cell cell' : Nat → Nat → D} (hB : o f 0 = some (.blk k n ty cell)) (hc : ∀ r c, r < n → c < k → cell r c = cell' r c)
    (h : AWp M x Q e ⟨St.set o f 0 (some (.blk k n ty cell')), nx⟩) : AWp M x Q e ⟨o, nx⟩ :=
  fun cf a m hE hok => h cf a m hE (cells_sim (s := ⟨o, nx⟩) hB hc cf hok)
theorem acall_cells {M : Ctx} {g : FuncId} {args : List D} {K : D → S → Prop} {o : St} {nx f k n : Nat} {ty : TypeId} {cell cell' : Nat → Nat → D} (hB : o f 0 = some (.blk k n ty cell)) (hc : ∀ r c, r < n → c < k → cell r c = cell' r c)
    (h : ACall M g args ⟨St.set o f 0 (some (.blk k n ty cell')), nx⟩ K) : ACall M g args ⟨o, nx⟩ K :=
  fun cf vals hok hg hl hr => h cf vals (cells_sim (s := ⟨o, nx⟩) hB hc cf hok) hg hl hr
theorem nil_ok {c : Cfg} {o : St} {nx : Nat} (h : c.Ok ⟨o, nx⟩) (k : Nat) (ty : TypeId) (cell : Nat → Nat → D) : c.Ok ⟨St.set o nx 0 (some (.blk k 0 ty cell)), nx + 1⟩ where
  kb := h.kb
  βb := h.βb
  fresh f i hf := h.fresh f i (by simp only at hf ⊢; omega)
  obj f i B hB := by
    change (if f = nx ∧ i = 0 then some (SObj.blk k 0 ty cell) else o f i) = some B at hB
    split at hB
    · rename_i hh
      obtain ⟨rfl, rfl⟩ := hh
      cases hB
      exact ⟨Nat.lt_succ_self _, .inr ⟨h.fresh _ _ (Nat.le_refl _), rfl⟩⟩
    · obtain ⟨h1, h2⟩ := h.obj f i B hB
      exact ⟨Nat.lt_succ_of_lt h1, h2⟩
  inj f1 i1 f2 i2 B1 B2 b cp1 cp2 h1 h2 h3 h4 := by
    change (if f1 = nx ∧ i1 = 0 then some (SObj.blk k 0 ty cell) else o f1 i1) = some B1 at h1
    change (if f2 = nx ∧ i2 = 0 then some (SObj.blk k 0 ty cell) else o f2 i2) = some B2 at h2
    have hn : ∀ i, c.β nx i = none := fun i => h.fresh nx i (Nat.le_refl _)
    split at h1
    · rename_i hh; rw [hh.1, hn] at h3; cases h3
    · split at h2
      · rename_i hh; rw [hh.1, hn] at h4; cases h4
      · exact h.inj _ _ _ _ _ _ _ _ _ h1 h2 h3 h4
/-- Arguments in which nothing is seen as an owned slice without rows. -/
def NiL (f k : Nat) : List D → List D → Prop
  | [], [] => True
  | d :: ds, d' :: ds' => (d' = d ∨ (d = .v (.slice none 0 0) ∧ d' = .ms f 0 k 0 0)) ∧ NiL f k ds ds'
  | _, _ => False
theorem NiL.len {f k : Nat} : ∀ {ds ds' : List D}, NiL f k ds ds' → ds.length = ds'.length
  | [], [], _ => rfl
  | d :: ds, d' :: ds', h => by simp [NiL.len h.2]
theorem NiL.get {f k : Nat} : ∀ {ds ds' : List D}, NiL f k ds ds' → ∀ (i : Nat) (d d' : D), ds[i]? = some d → ds'[i]? = some d' → d' = d ∨ (d = .v (.slice none 0 0) ∧ d' = .ms f 0 k 0 0)
  | d :: ds, d' :: ds', h, 0, x, y, hx, hy => by simp at hx hy; subst hx; subst hy; exact h.1
  | d :: ds, d' :: ds', h, i + 1, x, y, hx, hy => NiL.get h.2 i x y (by simpa using hx) (by simpa using hy)
theorem acall_nilarg {M : Ctx} {g : FuncId} {args args' : List D} {K : D → S → Prop} {o : St} {nx k : Nat} (ty : TypeId) (cell : Nat → Nat → D) (ha : NiL nx k args args') (h : ACall M g args' ⟨St.set o nx 0 (some (.blk k 0 ty cell)), nx + 1⟩ K) : ACall M g args ⟨o, nx⟩ K :=
  fun cf vals hok hg hl hr => h cf vals (nil_ok hok k ty cell) hg (by rw [hl, ha.len]) fun i d' hd' => by
    have hi : i < args.length := by
      rw [ha.len]
      rcases Nat.lt_or_ge i args'.length with h | h
      · exact h
      · rw [List.getElem?_eq_none h] at hd'; cases hd'
    have hx := hr i _ (List.getElem?_eq_getElem hi)
    rcases ha.get i _ d' (List.getElem?_eq_getElem hi) hd' with h1 | ⟨h1, h2⟩
    · rw [h1]; exact hx
    · rw [h1] at hx; rw [h2]
      generalize vals.getD i undef = v at hx
      cases hx; exact .msnil nx 0 k 0
end Go.Abs
end
section
namespace Go.Proofs
open Go Go.Abs
set_option linter.unusedSimpArgs false
set_option linter.unusedVariables false
set_option maxRecDepth 10000
namespace Tryd
def cmpI (a b : Int) : Int := if a < b then -1 else if b < a then 1 else 0
theorem compare_spec (a b : Int) : APure M 112 [.v (.int .i64 a), .v (.int .i64 b)] (.v (.int .i64 (cmpI a b))) := by
  refine pure_of gpu func112 rfl results112 ntmps112 (by simp) ⟨.v _, .v _, trivial⟩ ?_
  intro b
  simp only [go_sem, ↓reduceIte, reduceCtorEq, Nat.reduceEqDiff, Nat.reduceLT, Nat.reduceLeDiff, Nat.reduceAdd, Nat.reduceSub, Nat.reduceMul, Nat.reduceGT, Int.reduceNeg, Int.reduceToNat]
  repeat' (first | ((with_reducible refine call_at M_P M_G (isNaN_spec _) ?_); simp only [go_sem, ↓reduceIte, reduceCtorEq, Nat.reduceEqDiff, Nat.reduceLT, Nat.reduceLeDiff, Nat.reduceAdd, Nat.reduceSub, Nat.reduceMul, Nat.reduceGT, Int.reduceNeg, Int.reduceToNat]) | (with_reducible refine And.intro ?_ ?_) | ((with_reducible refine ite_cases ?_ ?_) <;> intro _))
  all_goals first | (simp [cmpI, *]; done) | (simp [cmpI, *]; omega) | (simp_all [cmpI]; done) | (simp_all [cmpI]; omega)
def orI (l : List Int) : Int := (l.find? (· != 0)).getD 0
theorem orI_at : ∀ {l : List Int} {k : Nat}, k < l.length → Es.at_ l (k : Int) ≠ 0 → (∀ j : Nat, j < k → Es.at_ l (j : Int) = 0) → orI l = Es.at_ l (k : Int)
  | [], _, h, _, _ => by simp at h
  | x :: l, 0, _, h, _ => by
    have h : x ≠ 0 := h
    have : (x != 0) = true := by simpa using h
    simp [orI, List.find?, this, Es.at_]
  | x :: l, k + 1, hk, h, hall => by
    have h0 : x = 0 := hall 0 (by omega)
    have ih := orI_at (l := l) (k := k) (by simpa using hk) (by simpa [Es.at_] using h) fun j hj => by simpa [Es.at_] using hall (j + 1) (by omega)
    subst h0
    have e : orI (0 :: l) = orI l := by simp [orI, List.find?]
    rw [e, ih]; simp [Es.at_]
theorem orI_end {l : List Int} (hall : ∀ j : Nat, j < l.length → Es.at_ l (j : Int) = 0) : orI l = 0 := by
  have : l.find? (· != 0) = none := by
    rw [List.find?_eq_none]
    intro x hx
    obtain ⟨j, hj, rfl⟩ := List.mem_iff_getElem.1 hx
    rw [← Es.at_nat hj, hall j hj]; simp
  unfold orI; rw [this]; rfl
theorem or_spec (l : List Int) (hl : l.length ≤ 9223372036854775807) : APure M 111 [slD 1 intC l] (.v (.int .i64 (orI l))) := by
  refine pure_of gpu func111 rfl results111 ntmps111 (by simp) ⟨pu_slD pu_intC _, trivial⟩ ?_
  intro b
  simp only [go_sem, ↓reduceIte, reduceCtorEq, Nat.reduceEqDiff, Nat.reduceLT, Nat.reduceLeDiff, Nat.reduceAdd, Nat.reduceSub, Nat.reduceMul, Nat.reduceGT, Int.reduceNeg, Int.reduceToNat]
  refine awp_count0 l.length (fun e0 s0 k e s => (e 3 = e0 3 ∧ e 6 = e0 6 ∧ e 7 = e0 7) ∧ e 8 = .v (.int .i64 k) ∧ s = s0 ∧ ∀ j : Nat, j < k → Es.at_ l j = 0) ⟨⟨rfl, rfl, rfl⟩, ?_, rfl, (by omega)⟩ ?_
  · simp only [go_sem, ↓reduceIte, reduceCtorEq, Nat.reduceEqDiff, Nat.reduceLT, Nat.reduceLeDiff, Nat.reduceAdd, Nat.reduceSub, Nat.reduceMul, Nat.reduceGT, Int.reduceNeg, Int.reduceToNat]; rfl
  rintro k e s hk ⟨⟨h3, h6, h7⟩, h8, rfl, hall⟩
  simp only [go_sem, ↓reduceIte, reduceCtorEq, Nat.reduceEqDiff, Nat.reduceLT, Nat.reduceLeDiff, Nat.reduceAdd, Nat.reduceSub, Nat.reduceMul, Nat.reduceGT, Int.reduceNeg, Int.reduceToNat] at h3 h6 h7
  simp only [go_sem, ↓reduceIte, reduceCtorEq, Nat.reduceEqDiff, Nat.reduceLT, Nat.reduceLeDiff, Nat.reduceAdd, Nat.reduceSub, Nat.reduceMul, Nat.reduceGT, Int.reduceNeg, Int.reduceToNat, h3, h6, h7, h8]
  refine ite_cases (fun hlt => ?_) (fun hlt => ?_)
  · have hlt' : k < l.length := Es.len_lt.1 hlt
    refine ⟨⟨by omega, hlt⟩, ?_⟩
    refine ite_cases (fun hp => ?_) (fun hp => ?_)
    · rw [orI_at hlt' (by simpa using hp) hall]
    · refine ⟨hlt', ?_⟩
      simp only [go_sem, ↓reduceIte, reduceCtorEq, Nat.reduceEqDiff, Nat.reduceLT, Nat.reduceLeDiff, Nat.reduceAdd, Nat.reduceSub, Nat.reduceMul, Nat.reduceGT, Int.reduceNeg, Int.reduceToNat, h3, h6, h7, h8]
      refine ⟨by rw [wrap_i64 _ (by omega) (by omega)]; simp, fun j hj => ?_⟩
      rcases Nat.lt_or_ge j k with h | h
      · exact hall j h
      · have : j = k := by omega
        rw [this]; simpa using hp
  · have hkk : k = l.length := by simp only [Es.len] at hlt; omega
    rw [orI_end (hkk ▸ hall)]
def cmpE (a b : Es.Amend × Nat) : Int := orI [cmpI a.1.day b.1.day, cmpI a.1.number b.1.number, cmpI a.2 b.2]
theorem orI3 (a b c : Int) : orI [a, b, c] = if a = 0 then (if b = 0 then c else b) else a := by
  have hz : ∀ (x : Int) (l : List Int), orI (x :: l) = if x = 0 then orI l else x := fun x l => by
    by_cases hx : x = 0
    · subst hx; simp [orI, List.find?]
    · have : (x != 0) = true := by simpa using hx
      simp [orI, List.find?, this, hx]
  rw [hz, hz, hz]
  by_cases hc : c = 0 <;> simp [hc, orI]
theorem cmpE_lt (a b : Es.Amend × Nat) : decide (cmpE a b < 0) = !Es.leP b a := by
  unfold cmpE
  rw [orI3]
  unfold cmpI
  rw [Bool.eq_iff_iff]
  simp only [Es.leP, Bool.not_eq_true', Bool.or_eq_false_iff, Bool.and_eq_false_iff, decide_eq_false_iff_not, decide_eq_true_eq, beq_eq_false_iff_ne]
  repeat' split
  all_goals omega
theorem order_spec (x y : Es.Amend × Nat) : APure M 84 [entD x, entD y] (.v (.int .i64 (cmpE x y))) := by
  refine pure_of gpu func84 rfl results84 ntmps84 (by simp) ⟨pu_entD x, pu_entD y, trivial⟩ ?_
  intro b
  simp only [go_sem, ↓reduceIte, reduceCtorEq, Nat.reduceEqDiff, Nat.reduceLT, Nat.reduceLeDiff, Nat.reduceAdd, Nat.reduceSub, Nat.reduceMul, Nat.reduceGT, Int.reduceNeg, Int.reduceToNat]
  refine awp_plan ((.op 0 (.op 1 (.op 2 (.op 3 (.op 4 (.op 5 (.op 7 (.op 8 (.op 9 (.op 10 (.op 11 (.op 12 (.op 14 (.op 15 (.op 16 (.op 17 (.op 6 (.op 13 (.op 18 (.op 19 (.op 20 (.op 21 .done))))))))))))))))))))))) [] mix (by kernel_rfl) ?_
  simp only [go_sem, ↓reduceIte, reduceCtorEq, Nat.reduceEqDiff, Nat.reduceLT, Nat.reduceLeDiff, Nat.reduceAdd, Nat.reduceSub, Nat.reduceMul, Nat.reduceGT, Int.reduceNeg, Int.reduceToNat]
  repeat' (first | ((with_reducible refine call_at M_P M_G (compare_spec _ _) ?_); simp only [go_sem, ↓reduceIte, reduceCtorEq, Nat.reduceEqDiff, Nat.reduceLT, Nat.reduceLeDiff, Nat.reduceAdd, Nat.reduceSub, Nat.reduceMul, Nat.reduceGT, Int.reduceNeg, Int.reduceToNat]) | (with_reducible refine And.intro ?_ ?_) | ((with_reducible refine ite_cases ?_ ?_) <;> intro _))
  refine lend_at M_P M_G (or_spec [cmpI x.1.day y.1.day, cmpI x.1.number y.1.number, cmpI x.2 y.2] (by simp)) gpu (.v _) ⟨fz_ms rfl rfl pu_intC fun r j hr hj => ?_, trivial⟩ ?_
  · obtain rfl : j = 0 := by omega
    have hr : r < 3 := hr
    rcases (show r = 0 ∨ r = 1 ∨ r = 2 by omega) with rfl | rfl | rfl <;> rfl
  simp only [go_sem, ↓reduceIte, reduceCtorEq, Nat.reduceEqDiff, Nat.reduceLT, Nat.reduceLeDiff, Nat.reduceAdd, Nat.reduceSub, Nat.reduceMul, Nat.reduceGT, Int.reduceNeg, Int.reduceToNat]
  rfl
end Tryd
end Go.Proofs
end
section
namespace Go.Proofs
open Go Go.Abs
set_option linter.unusedSimpArgs false
set_option maxRecDepth 10000
namespace Tryd
/-- What is said of a store in which one mark is written. -/
def Wrote (o : St) (nx fm : Nat) (ty : TypeId) (ms : List Es.Mark) (o' : St) (nx' : Nat) : Prop :=
  nx ≤ nx' ∧ o' fm 0 = some (.blk 5 ms.length ty (rowsOf mrkC ms)) ∧ ∀ f i, f < nx → ¬ (f = fm ∧ i = 0) → o' f i = o f i

theorem end_spec (X : D → Value → Prop) (N : Nat) (r : Option Nat) (b : Nat) (x : Es.Clause) (fm i : Nat) (ty : TypeId) (ms : List Es.Mark) (st : Int) (o : St) (nx : Nat) (K : D → S → Prop) (hf : fm < nx) (ho : o fm 0 = some (.blk 5 ms.length ty (rowsOf mrkC ms))) (hi : i < ms.length)
    (hk : ∀ o' nx', Wrote o nx fm ty (ms.set i { Es.at_ ms (i : Int) with status := st, left := 0, paused := false }) o' nx' → K (.tup []) ⟨o', nx'⟩) :
    ACall { P := prog, G := gl, X := X, N := N, r := r, b := b } 123 [clcD x (.mp fm 0 5 i 0), .v (.int .i64 st)] ⟨o, nx⟩ K := by
  refine acall_ofA (M := { P := prog, G := gl, X := X, N := N, r := r, b := b }) func123 rfl results123 ntmps123 (by simp) fun b => ?_
  simp only [go_sem, ↓reduceIte, reduceCtorEq, Nat.reduceEqDiff, Nat.reduceLT, Nat.reduceLeDiff, Nat.reduceAdd, Nat.reduceSub, Nat.reduceMul, Nat.reduceGT, Int.reduceNeg, Int.reduceToNat]
  have n0 : (fm = nx) = False := by simp only [eq_iff_iff, iff_false]; omega
  have n1 : (nx = fm) = False := by simp only [eq_iff_iff, iff_false]; omega
  refine awp_plan ((.op 0 (.op 1 (.op 2 (.op 4 (.op 6 (.op 7 (.op 8 (.alt 3 (.alt 5 (.op 9 (.op 10 (.op 11 (.op 12 (.op 13 (.op 14 (.op 15 .done))))))) (.alt 9 (.op 10 (.op 11 (.alt 5 (.op 12 (.op 13 (.op 14 (.op 15 .done)))) (.alt 12 (.op 5 (.op 13 (.op 14 (.op 15 .done)))) .dead)))) .dead)) (.alt 5 (.alt 3 (.op 9 (.op 10 (.op 11 (.op 12 (.op 13 (.op 14 (.op 15 .done))))))) (.alt 9 (.op 3 (.op 10 (.op 11 (.op 12 (.op 13 (.op 14 (.op 15 .done))))))) .dead)) (.alt 9 (.op 3 (.op 10 (.op 11 (.alt 5 (.op 12 (.op 13 (.op 14 (.op 15 .done)))) (.alt 12 (.op 5 (.op 13 (.op 14 (.op 15 .done)))) .dead))))) .dead))))))))))) [9, 12, 15] mix (by kernel_rfl) ?_
  simp only [go_sem, ↓reduceIte, reduceCtorEq, Nat.reduceEqDiff, Nat.reduceLT, Nat.reduceLeDiff, Nat.reduceAdd, Nat.reduceSub, Nat.reduceMul, Nat.reduceGT, Int.reduceNeg, Int.reduceToNat, ho, n0, n1, setC_mrk0, setC_mrk1, setC_mrk4, at_set, hi, List.length_set, List.set_set]
  have fin : ∀ B, K (.tup []) ⟨St.set (St.set o nx 0 B) fm 0 (some (.blk 5 ms.length ty (rowsOf mrkC (ms.set i { Es.at_ ms (i : Int) with status := st, left := 0, paused := false })))), nx + 1⟩ := fun B => hk _ _ ⟨by omega, by simp [St.set], fun f j hfj hne => by simp only [St.set]; rw [if_neg hne, if_neg (by omega)]⟩
  repeat' (first | (with_reducible refine And.intro ?_ ?_) | ((with_reducible refine ite_cases ?_ ?_) <;> intro _))
  all_goals first
    | exact fin _
theorem set_at {ms : List Es.Mark} {i : Nat} (hi : i < ms.length) : ms.set i (Es.at_ ms (i : Int)) = ms := by
  apply List.ext_getElem (by simp)
  intro n h1 h2
  rw [List.getElem_set]
  split
  · rename_i h; subst h; exact Es.at_nat hi
  · rfl
theorem wrote_same {o : St} {nx fm : Nat} {ty : TypeId} {ms : List Es.Mark} {B : Option SObj} (hf : fm < nx) (ho : o fm 0 = some (.blk 5 ms.length ty (rowsOf mrkC ms))) : Wrote o nx fm ty ms (St.set o nx 0 B) (nx + 1) :=
  ⟨by omega, by simp only [St.set]; rw [if_neg (by omega)]; exact ho, fun f j hfj hne => by simp only [St.set]; rw [if_neg (by omega)]⟩
theorem Wrote.box {o o' : St} {nx nx' fm : Nat} {ty : TypeId} {ms : List Es.Mark} {B : Option SObj} (hf : fm < nx) (h : Wrote (St.set o nx 0 B) (nx + 1) fm ty ms o' nx') : Wrote o nx fm ty ms o' nx' :=
  ⟨Nat.le_trans (Nat.le_succ _) h.1, h.2.1, fun f j hfj hne => by rw [h.2.2 f j (by omega) hne]; simp only [St.set]; rw [if_neg (by omega)]⟩
def ended (m : Es.Mark) (st : Int) : Es.Mark := { m with status := st, left := 0, paused := false }
theorem observed_spec (X : D → Value → Prop) (N : Nat) (r : Option Nat) (b : Nat) (x : Es.Clause) (fm i : Nat) (ty : TypeId) (ms : List Es.Mark) (o : St) (nx : Nat) (K : D → S → Prop) (hf : fm < nx) (ho : o fm 0 = some (.blk 5 ms.length ty (rowsOf mrkC ms))) (hi : i < ms.length)
    (hk : ∀ o' nx', Wrote o nx fm ty (ms.set i (ended (Es.at_ ms (i : Int)) 3)) o' nx' → K (.tup []) ⟨o', nx'⟩) :
    ACall { P := prog, G := gl, X := X, N := N, r := r, b := b } 104 [clcD x (.mp fm 0 5 i 0)] ⟨o, nx⟩ K := by
  refine acall_ofA (M := { P := prog, G := gl, X := X, N := N, r := r, b := b }) func104 rfl results104 ntmps104 (by simp) fun b => ?_
  simp only [go_sem, ↓reduceIte, reduceCtorEq, Nat.reduceEqDiff, Nat.reduceLT, Nat.reduceLeDiff, Nat.reduceAdd, Nat.reduceSub, Nat.reduceMul, Nat.reduceGT, Int.reduceNeg, Int.reduceToNat]
  have n0 : (fm = nx) = False := by simp only [eq_iff_iff, iff_false]; omega
  have n1 : (nx = fm) = False := by simp only [eq_iff_iff, iff_false]; omega
  refine end_spec _ _ _ _ x fm i ty ms 3 _ _ _ (by omega) (by simp only [go_sem, ↓reduceIte, reduceCtorEq, Nat.reduceEqDiff, Nat.reduceLT, Nat.reduceLeDiff, Nat.reduceAdd, Nat.reduceSub, Nat.reduceMul, Nat.reduceGT, Int.reduceNeg, Int.reduceToNat, ho, n0, n1]) hi fun o' nx' hw => ?_
  simp only [go_sem, ↓reduceIte, reduceCtorEq, Nat.reduceEqDiff, Nat.reduceLT, Nat.reduceLeDiff, Nat.reduceAdd, Nat.reduceSub, Nat.reduceMul, Nat.reduceGT, Int.reduceNeg, Int.reduceToNat]
  exact hk _ _ (Wrote.box hf hw)
theorem lapsed_spec (X : D → Value → Prop) (N : Nat) (r : Option Nat) (b : Nat) (x : Es.Clause) (fm i : Nat) (ty : TypeId) (ms : List Es.Mark) (o : St) (nx : Nat) (K : D → S → Prop) (hf : fm < nx) (ho : o fm 0 = some (.blk 5 ms.length ty (rowsOf mrkC ms))) (hi : i < ms.length)
    (hk : ∀ o' nx', Wrote o nx fm ty (ms.set i (ended (Es.at_ ms (i : Int)) 5)) o' nx' → K (.tup []) ⟨o', nx'⟩) :
    ACall { P := prog, G := gl, X := X, N := N, r := r, b := b } 105 [clcD x (.mp fm 0 5 i 0)] ⟨o, nx⟩ K := by
  refine acall_ofA (M := { P := prog, G := gl, X := X, N := N, r := r, b := b }) func105 rfl results105 ntmps105 (by simp) fun b => ?_
  simp only [go_sem, ↓reduceIte, reduceCtorEq, Nat.reduceEqDiff, Nat.reduceLT, Nat.reduceLeDiff, Nat.reduceAdd, Nat.reduceSub, Nat.reduceMul, Nat.reduceGT, Int.reduceNeg, Int.reduceToNat]
  have n0 : (fm = nx) = False := by simp only [eq_iff_iff, iff_false]; omega
  have n1 : (nx = fm) = False := by simp only [eq_iff_iff, iff_false]; omega
  refine end_spec _ _ _ _ x fm i ty ms 5 _ _ _ (by omega) (by simp only [go_sem, ↓reduceIte, reduceCtorEq, Nat.reduceEqDiff, Nat.reduceLT, Nat.reduceLeDiff, Nat.reduceAdd, Nat.reduceSub, Nat.reduceMul, Nat.reduceGT, Int.reduceNeg, Int.reduceToNat, ho, n0, n1]) hi fun o' nx' hw => ?_
  simp only [go_sem, ↓reduceIte, reduceCtorEq, Nat.reduceEqDiff, Nat.reduceLT, Nat.reduceLeDiff, Nat.reduceAdd, Nat.reduceSub, Nat.reduceMul, Nat.reduceGT, Int.reduceNeg, Int.reduceToNat]
  exact hk _ _ (Wrote.box hf hw)
theorem violated_spec (X : D → Value → Prop) (N : Nat) (r : Option Nat) (b : Nat) (x : Es.Clause) (fm i : Nat) (ty : TypeId) (ms : List Es.Mark) (o : St) (nx : Nat) (K : D → S → Prop) (hf : fm < nx) (ho : o fm 0 = some (.blk 5 ms.length ty (rowsOf mrkC ms))) (hi : i < ms.length)
    (hk : ∀ o' nx', Wrote o nx fm ty (ms.set i (if (Es.at_ ms (i : Int)).paused then Es.at_ ms (i : Int) else ended (Es.at_ ms (i : Int)) 4)) o' nx' → K (.tup []) ⟨o', nx'⟩) :
    ACall { P := prog, G := gl, X := X, N := N, r := r, b := b } 107 [clcD x (.mp fm 0 5 i 0)] ⟨o, nx⟩ K := by
  refine acall_ofA (M := { P := prog, G := gl, X := X, N := N, r := r, b := b }) func107 rfl results107 ntmps107 (by simp) fun b => ?_
  simp only [go_sem, ↓reduceIte, reduceCtorEq, Nat.reduceEqDiff, Nat.reduceLT, Nat.reduceLeDiff, Nat.reduceAdd, Nat.reduceSub, Nat.reduceMul, Nat.reduceGT, Int.reduceNeg, Int.reduceToNat]
  have n0 : (fm = nx) = False := by simp only [eq_iff_iff, iff_false]; omega
  have n1 : (nx = fm) = False := by simp only [eq_iff_iff, iff_false]; omega
  simp only [go_sem, ↓reduceIte, reduceCtorEq, Nat.reduceEqDiff, Nat.reduceLT, Nat.reduceLeDiff, Nat.reduceAdd, Nat.reduceSub, Nat.reduceMul, Nat.reduceGT, Int.reduceNeg, Int.reduceToNat, ho, n0, n1]
  refine ⟨hi, ?_⟩
  refine ite_cases (fun hp => ?_) (fun hp => ?_)
  · refine end_spec _ _ _ _ x fm i ty ms 4 _ _ _ (by omega) (by simp only [go_sem, ↓reduceIte, reduceCtorEq, Nat.reduceEqDiff, Nat.reduceLT, Nat.reduceLeDiff, Nat.reduceAdd, Nat.reduceSub, Nat.reduceMul, Nat.reduceGT, Int.reduceNeg, Int.reduceToNat, ho, n0, n1]) hi fun o' nx' hw => ?_
    simp only [go_sem, ↓reduceIte, reduceCtorEq, Nat.reduceEqDiff, Nat.reduceLT, Nat.reduceLeDiff, Nat.reduceAdd, Nat.reduceSub, Nat.reduceMul, Nat.reduceGT, Int.reduceNeg, Int.reduceToNat]
    have := Wrote.box hf hw
    exact hk _ _ (by rw [if_neg (by simpa using hp)]; exact this)
  · refine hk _ _ ?_
    rw [if_pos (by simpa using hp), set_at hi]
    exact wrote_same hf ho
def performed (x : Es.Clause) (m : Es.Mark) : Es.Mark := if m.got + 1 == x.need then ended { m with got := m.got + 1 } 3 else { m with got := m.got + 1 }
def overdue (x : Es.Clause) (m : Es.Mark) : Es.Mark := if m.status == 1 && decide (0 < x.grace) then { m with status := 2, left := x.grace } else ended m 4
theorem performed_spec (X : D → Value → Prop) (N : Nat) (r : Option Nat) (b : Nat) (x : Es.Clause) (fm i : Nat) (ty : TypeId) (ms : List Es.Mark) (o : St) (nx : Nat) (K : D → S → Prop) (hf : fm < nx) (ho : o fm 0 = some (.blk 5 ms.length ty (rowsOf mrkC ms))) (hi : i < ms.length) (hgot : 0 ≤ (Es.at_ ms (i : Int)).got ∧ (Es.at_ ms (i : Int)).got ≤ 9)
    (hk : ∀ o' nx', Wrote o nx fm ty (ms.set i (performed x (Es.at_ ms (i : Int)))) o' nx' → K (.tup []) ⟨o', nx'⟩) :
    ACall { P := prog, G := gl, X := X, N := N, r := r, b := b } 106 [clcD x (.mp fm 0 5 i 0)] ⟨o, nx⟩ K := by
  refine acall_ofA (M := { P := prog, G := gl, X := X, N := N, r := r, b := b }) func106 rfl results106 ntmps106 (by simp) fun b => ?_
  simp only [go_sem, ↓reduceIte, reduceCtorEq, Nat.reduceEqDiff, Nat.reduceLT, Nat.reduceLeDiff, Nat.reduceAdd, Nat.reduceSub, Nat.reduceMul, Nat.reduceGT, Int.reduceNeg, Int.reduceToNat]
  have n0 : (fm = nx) = False := by simp only [eq_iff_iff, iff_false]; omega
  have n1 : (nx = fm) = False := by simp only [eq_iff_iff, iff_false]; omega
  have hw : IntKind.i64.wrap ((Es.at_ ms (i : Int)).got + 1) = (Es.at_ ms (i : Int)).got + 1 := wrap_i64 _ (by omega) (by omega)
  simp only [go_sem, ↓reduceIte, reduceCtorEq, Nat.reduceEqDiff, Nat.reduceLT, Nat.reduceLeDiff, Nat.reduceAdd, Nat.reduceSub, Nat.reduceMul, Nat.reduceGT, Int.reduceNeg, Int.reduceToNat, ho, n0, n1, setC_mrk2, at_set, hi, List.length_set, List.set_set, hw]
  refine awp_plan ((.op 0 (.op 1 (.op 2 (.op 3 (.op 4 (.op 5 (.op 6 (.op 7 (.op 8 .done)))))))))) [] mix (by kernel_rfl) ?_
  simp only [go_sem, ↓reduceIte, reduceCtorEq, Nat.reduceEqDiff, Nat.reduceLT, Nat.reduceLeDiff, Nat.reduceAdd, Nat.reduceSub, Nat.reduceMul, Nat.reduceGT, Int.reduceNeg, Int.reduceToNat, ho, n0, n1, setC_mrk2, at_set, hi, List.length_set, List.set_set, hw]
  refine ite_cases (fun hc => ?_) (fun hc => ?_)
  · have hi' : i < (ms.set i { Es.at_ ms (i : Int) with got := (Es.at_ ms (i : Int)).got + 1 }).length := by simpa using hi
    refine end_spec _ _ _ _ x fm i ty (ms.set i { Es.at_ ms (i : Int) with got := (Es.at_ ms (i : Int)).got + 1 }) 3 _ _ _ (by omega) (by simp only [go_sem, ↓reduceIte, reduceCtorEq, Nat.reduceEqDiff, Nat.reduceLT, Nat.reduceLeDiff, Nat.reduceAdd, Nat.reduceSub, Nat.reduceMul, Nat.reduceGT, Int.reduceNeg, Int.reduceToNat, ho, n0, n1, List.length_set]) hi' fun o' nx' hw => ?_
    simp only [go_sem, ↓reduceIte, reduceCtorEq, Nat.reduceEqDiff, Nat.reduceLT, Nat.reduceLeDiff, Nat.reduceAdd, Nat.reduceSub, Nat.reduceMul, Nat.reduceGT, Int.reduceNeg, Int.reduceToNat]
    refine hk _ _ ⟨by have := hw.1; omega, ?_, fun f j hfj hne => ?_⟩
    · rw [show performed x (Es.at_ ms (i : Int)) = ended { Es.at_ ms (i : Int) with got := (Es.at_ ms (i : Int)).got + 1 } 3 from if_pos hc]
      have := hw.2.1
      rw [at_set hi, List.set_set] at this
      exact this
    · rw [hw.2.2 f j (by omega) hne]
      simp only [St.set]; rw [if_neg hne, if_neg (by omega)]
  · refine hk _ _ ⟨by omega, ?_, fun f j hfj hne => ?_⟩
    · rw [show performed x (Es.at_ ms (i : Int)) = { Es.at_ ms (i : Int) with got := (Es.at_ ms (i : Int)).got + 1 } from if_neg hc]
      simp [St.set]
    · simp only [St.set]; rw [if_neg hne, if_neg (by omega)]
theorem overdue_spec (X : D → Value → Prop) (N : Nat) (r : Option Nat) (b : Nat) (x : Es.Clause) (fm i : Nat) (ty : TypeId) (ms : List Es.Mark) (o : St) (nx : Nat) (K : D → S → Prop) (hf : fm < nx) (ho : o fm 0 = some (.blk 5 ms.length ty (rowsOf mrkC ms))) (hi : i < ms.length)
    (hk : ∀ o' nx', Wrote o nx fm ty (ms.set i (overdue x (Es.at_ ms (i : Int)))) o' nx' → K (.tup []) ⟨o', nx'⟩) :
    ACall { P := prog, G := gl, X := X, N := N, r := r, b := b } 103 [clcD x (.mp fm 0 5 i 0)] ⟨o, nx⟩ K := by
  refine acall_ofA (M := { P := prog, G := gl, X := X, N := N, r := r, b := b }) func103 rfl results103 ntmps103 (by simp) fun b => ?_
  simp only [go_sem, ↓reduceIte, reduceCtorEq, Nat.reduceEqDiff, Nat.reduceLT, Nat.reduceLeDiff, Nat.reduceAdd, Nat.reduceSub, Nat.reduceMul, Nat.reduceGT, Int.reduceNeg, Int.reduceToNat]
  have n0 : (fm = nx) = False := by simp only [eq_iff_iff, iff_false]; omega
  have n1 : (nx = fm) = False := by simp only [eq_iff_iff, iff_false]; omega
  simp only [go_sem, ↓reduceIte, reduceCtorEq, Nat.reduceEqDiff, Nat.reduceLT, Nat.reduceLeDiff, Nat.reduceAdd, Nat.reduceSub, Nat.reduceMul, Nat.reduceGT, Int.reduceNeg, Int.reduceToNat, ho, n0, n1]
  refine ⟨hi, ?_⟩
  have fin : ∀ B, ((Es.at_ ms (i : Int)).status == 1 && decide (0 < x.grace)) = true → K (.tup []) ⟨St.set (St.set o nx 0 B) fm 0 (some (.blk 5 ms.length ty (rowsOf mrkC (ms.set i { Es.at_ ms (i : Int) with status := 2, left := x.grace })))), nx + 1⟩ := fun B hc => hk _ _ ⟨by omega, by rw [show overdue x (Es.at_ ms (i : Int)) = _ from if_pos hc]; simp [St.set], fun f j hfj hne => by simp only [St.set]; rw [if_neg hne, if_neg (by omega)]⟩
  have fin2 : ∀ B, ¬ ((Es.at_ ms (i : Int)).status == 1 && decide (0 < x.grace)) = true → ∀ o' nx', Wrote (St.set o nx 0 B) (nx + 1) fm ty (ms.set i (ended (Es.at_ ms (i : Int)) 4)) o' nx' → K (.tup []) ⟨o', nx'⟩ := fun B hc o' nx' hw => hk _ _ (by rw [show overdue x (Es.at_ ms (i : Int)) = _ from if_neg hc]; exact Wrote.box hf hw)
  refine ite_cases (fun h1 => ?_) (fun h1 => ?_)
  · refine ite_cases (fun h2 => ?_) (fun h2 => ?_)
    · refine awp_plan ((.op 0 (.op 1 (.op 2 (.op 4 (.op 5 (.op 7 (.op 8 (.alt 3 (.alt 6 (.op 9 (.op 10 (.op 11 (.op 12 .done)))) (.alt 9 (.op 6 (.op 10 (.op 11 (.op 12 .done)))) .dead)) (.alt 6 (.alt 3 (.op 9 (.op 10 (.op 11 (.op 12 .done)))) (.alt 9 (.op 3 (.op 10 (.op 11 (.op 12 .done)))) .dead)) (.alt 9 (.op 3 (.op 6 (.op 10 (.op 11 (.op 12 .done))))) .dead))))))))))) [9, 12] mix (by kernel_rfl) ?_
      simp only [go_sem, ↓reduceIte, reduceCtorEq, Nat.reduceEqDiff, Nat.reduceLT, Nat.reduceLeDiff, Nat.reduceAdd, Nat.reduceSub, Nat.reduceMul, Nat.reduceGT, Int.reduceNeg, Int.reduceToNat, ho, n0, n1, setC_mrk0, setC_mrk1, at_set, hi, List.length_set, List.set_set]
      repeat' (first | (with_reducible refine And.intro ?_ ?_) | ((with_reducible refine ite_cases ?_ ?_) <;> intro _))
      all_goals exact fin _ (by simp [h1, h2])
    · refine end_spec _ _ _ _ x fm i ty ms 4 _ _ _ (by omega) (by simp only [go_sem, ↓reduceIte, reduceCtorEq, Nat.reduceEqDiff, Nat.reduceLT, Nat.reduceLeDiff, Nat.reduceAdd, Nat.reduceSub, Nat.reduceMul, Nat.reduceGT, Int.reduceNeg, Int.reduceToNat, ho, n0, n1]) hi fun o' nx' hw => ?_
      simp only [go_sem, ↓reduceIte, reduceCtorEq, Nat.reduceEqDiff, Nat.reduceLT, Nat.reduceLeDiff, Nat.reduceAdd, Nat.reduceSub, Nat.reduceMul, Nat.reduceGT, Int.reduceNeg, Int.reduceToNat]
      exact fin2 _ (by simp [h2]) _ _ hw
  · refine end_spec _ _ _ _ x fm i ty ms 4 _ _ _ (by omega) (by simp only [go_sem, ↓reduceIte, reduceCtorEq, Nat.reduceEqDiff, Nat.reduceLT, Nat.reduceLeDiff, Nat.reduceAdd, Nat.reduceSub, Nat.reduceMul, Nat.reduceGT, Int.reduceNeg, Int.reduceToNat, ho, n0, n1]) hi fun o' nx' hw => ?_
    simp only [go_sem, ↓reduceIte, reduceCtorEq, Nat.reduceEqDiff, Nat.reduceLT, Nat.reduceLeDiff, Nat.reduceAdd, Nat.reduceSub, Nat.reduceMul, Nat.reduceGT, Int.reduceNeg, Int.reduceToNat]
    exact fin2 _ (by simp [h1]) _ _ hw

/-- The methods, by the kind of a clause. -/
theorem counted_spec (k : Int) (hk : k = 1 ∨ k = 2 ∨ k = 3 ∨ k = 4) : APure M 80 [.v (.int .i64 k)] (.fn (.func (if k = 1 then 106 else if k = 2 then 107 else 104)) []) := by
  refine pure_of gpu func80 rfl results80 ntmps80 (by simp) ⟨.v _, trivial⟩ ?_
  intro b
  simp only [go_sem, ↓reduceIte, reduceCtorEq, Nat.reduceEqDiff, Nat.reduceLT, Nat.reduceLeDiff, Nat.reduceAdd, Nat.reduceSub, Nat.reduceMul, Nat.reduceGT, Int.reduceNeg, Int.reduceToNat]
  rcases hk with rfl | rfl | rfl | rfl
  all_goals simp only [go_sem, ↓reduceIte, reduceCtorEq, Nat.reduceEqDiff, Nat.reduceLT, Nat.reduceLeDiff, Nat.reduceAdd, Nat.reduceSub, Nat.reduceMul, Nat.reduceGT, Int.reduceNeg, Int.reduceToNat]
  all_goals exact ⟨⟨by omega, by omega⟩, Fz_fn trivial⟩
theorem elapsed_spec (k : Int) (hk : k = 1 ∨ k = 2 ∨ k = 3 ∨ k = 4) : APure M 79 [.v (.int .i64 k)] (.fn (.func (if k = 1 then 103 else if k = 2 then 104 else 105)) []) := by
  refine pure_of gpu func79 rfl results79 ntmps79 (by simp) ⟨.v _, trivial⟩ ?_
  intro b
  simp only [go_sem, ↓reduceIte, reduceCtorEq, Nat.reduceEqDiff, Nat.reduceLT, Nat.reduceLeDiff, Nat.reduceAdd, Nat.reduceSub, Nat.reduceMul, Nat.reduceGT, Int.reduceNeg, Int.reduceToNat]
  rcases hk with rfl | rfl | rfl | rfl
  all_goals simp only [go_sem, ↓reduceIte, reduceCtorEq, Nat.reduceEqDiff, Nat.reduceLT, Nat.reduceLeDiff, Nat.reduceAdd, Nat.reduceSub, Nat.reduceMul, Nat.reduceGT, Int.reduceNeg, Int.reduceToNat]
  all_goals exact ⟨⟨by omega, by omega⟩, Fz_fn trivial⟩
/-- The method for a clause whose days are over, whichever it is. -/
theorem aged_spec (X : D → Value → Prop) (N : Nat) (r : Option Nat) (b : Nat) (x : Es.Clause) (fm i : Nat) (ty : TypeId) (ms : List Es.Mark) (o : St) (nx : Nat) (K : D → S → Prop) (hkd : x.kind = 1 ∨ x.kind = 2 ∨ x.kind = 3 ∨ x.kind = 4) (hf : fm < nx) (ho : o fm 0 = some (.blk 5 ms.length ty (rowsOf mrkC ms))) (hi : i < ms.length)
    (hk : ∀ o' nx', Wrote o nx fm ty (ms.set i (Es.older x (Es.at_ ms (i : Int)))) o' nx' → K (.tup []) ⟨o', nx'⟩) :
    callable prog (if x.kind = 1 then 103 else if x.kind = 2 then 104 else 105) = true ∧
    ACall { P := prog, G := gl, X := X, N := N, r := r, b := b } (if x.kind = 1 then 103 else if x.kind = 2 then 104 else 105) [clcD x (.mp fm 0 5 i 0)] ⟨o, nx⟩ K := by
  by_cases h1 : x.kind = 1
  · simp only [if_pos h1]
    refine ⟨by simp only [go_sem], overdue_spec _ _ _ _ x fm i ty ms _ _ _ hf ho hi fun o' nx' hw => hk o' nx' ?_⟩
    rw [show Es.older x (Es.at_ ms (i : Int)) = overdue x (Es.at_ ms (i : Int)) by unfold Es.older overdue ended; rw [if_pos (by simpa using h1)]]
    exact hw
  · simp only [if_neg h1]
    by_cases h2 : x.kind = 2
    · simp only [if_pos h2]
      refine ⟨by simp only [go_sem], observed_spec _ _ _ _ x fm i ty ms _ _ _ hf ho hi fun o' nx' hw => hk o' nx' ?_⟩
      rw [show Es.older x (Es.at_ ms (i : Int)) = ended (Es.at_ ms (i : Int)) 3 by unfold Es.older ended; rw [if_neg (by simpa using h1), if_pos (by simpa using h2)]]
      exact hw
    · simp only [if_neg h2]
      refine ⟨by simp only [go_sem], lapsed_spec _ _ _ _ x fm i ty ms _ _ _ hf ho hi fun o' nx' hw => hk o' nx' ?_⟩
      rw [show Es.older x (Es.at_ ms (i : Int)) = ended (Es.at_ ms (i : Int)) 5 by unfold Es.older ended; rw [if_neg (by simpa using h1), if_neg (by simpa using h2)]]
      exact hw
/-- The method for an act that counts, whichever it is. -/
theorem acted_spec (X : D → Value → Prop) (N : Nat) (r : Option Nat) (b : Nat) (x : Es.Clause) (fm i : Nat) (ty : TypeId) (ms : List Es.Mark) (o : St) (nx : Nat) (K : D → S → Prop) (hf : fm < nx) (ho : o fm 0 = some (.blk 5 ms.length ty (rowsOf mrkC ms))) (hi : i < ms.length)
    (hgot : 0 ≤ (Es.at_ ms (i : Int)).got ∧ (Es.at_ ms (i : Int)).got ≤ 9)
    (hk : ∀ o' nx', Wrote o nx fm ty (ms.set i (Es.countedM x (Es.at_ ms (i : Int)))) o' nx' → K (.tup []) ⟨o', nx'⟩) :
    callable prog (if x.kind = 1 then 106 else if x.kind = 2 then 107 else 104) = true ∧
    ACall { P := prog, G := gl, X := X, N := N, r := r, b := b } (if x.kind = 1 then 106 else if x.kind = 2 then 107 else 104) [clcD x (.mp fm 0 5 i 0)] ⟨o, nx⟩ K := by
  by_cases h1 : x.kind = 1
  · simp only [if_pos h1]
    refine ⟨by simp only [go_sem], performed_spec _ _ _ _ x fm i ty ms _ _ _ hf ho hi hgot fun o' nx' hw => hk o' nx' ?_⟩
    rw [show Es.countedM x (Es.at_ ms (i : Int)) = performed x (Es.at_ ms (i : Int)) by unfold Es.countedM performed; rw [if_pos (by simpa using h1)]; rfl]
    exact hw
  · simp only [if_neg h1]
    by_cases h2 : x.kind = 2
    · simp only [if_pos h2]
      refine ⟨by simp only [go_sem], violated_spec _ _ _ _ x fm i ty ms _ _ _ hf ho hi fun o' nx' hw => hk o' nx' ?_⟩
      rw [show Es.countedM x (Es.at_ ms (i : Int)) = (if (Es.at_ ms (i : Int)).paused then Es.at_ ms (i : Int) else ended (Es.at_ ms (i : Int)) 4) by unfold Es.countedM; rw [if_neg (by simpa using h1), if_pos (by simpa using h2)]; rfl]
      exact hw
    · simp only [if_neg h2]
      refine ⟨by simp only [go_sem], observed_spec _ _ _ _ x fm i ty ms _ _ _ hf ho hi fun o' nx' hw => hk o' nx' ?_⟩
      rw [show Es.countedM x (Es.at_ ms (i : Int)) = ended (Es.at_ ms (i : Int)) 3 by unfold Es.countedM; rw [if_neg (by simpa using h1), if_neg (by simpa using h2)]; rfl]
      exact hw
theorem acted_spec' (X : D → Value → Prop) (N : Nat) (r : Option Nat) (b : Nat) (x : Es.Clause) (fm i n : Nat) (ty : TypeId) (ms : List Es.Mark) (o : St) (nx : Nat) (K : D → S → Prop) (ho : o fm 0 = some (.blk 5 n ty (rowsOf mrkC ms))) (hn : ms.length = n) (hf : fm < nx) (hi : i < n)
    (hgot : 0 ≤ (Es.at_ ms (i : Int)).got ∧ (Es.at_ ms (i : Int)).got ≤ 9)
    (hk : ∀ o' nx', Wrote o nx fm ty (ms.set i (Es.countedM x (Es.at_ ms (i : Int)))) o' nx' → K (.tup []) ⟨o', nx'⟩) :
    callable prog (if x.kind = 1 then 106 else if x.kind = 2 then 107 else 104) = true ∧
    ACall { P := prog, G := gl, X := X, N := N, r := r, b := b } (if x.kind = 1 then 106 else if x.kind = 2 then 107 else 104) [clcD x (.mp fm 0 5 i 0)] ⟨o, nx⟩ K := by
  subst hn; exact acted_spec X N r b x fm i ty ms o nx K hf ho hi hgot hk
end Tryd
end Go.Proofs
end
section
namespace Go.Proofs
open Go Go.Abs
set_option linter.unusedSimpArgs false
set_option maxRecDepth 10000
theorem acall_nil {M : Ctx} {f : FuncId} {args : List D} {s : S} {K : D → S → Prop} (k ty : Nat) (cell : Nat → Nat → D)
    (h : ACall M f args s fun d s' => K d s' ∨ (d = .v (.slice none 0 0) ∧ K (.ms s'.nx 0 k 0 0) (s'.push (.blk k 0 ty cell)))) : ACall M f args s K := by
  intro c vals h1 h2 h3 h4
  refine (h c vals h1 h2 h3 h4).mono ?_
  rintro x W' ⟨c', v, d, s', rfl, g2, g3, g4, g5, g6⟩
  rcases g6 with g6 | ⟨rfl, g6⟩
  · exact ⟨c', v, d, s', rfl, g2, g3, g4, g5, g6⟩
  · cases g5
    exact ⟨c', _, _, _, rfl, g2, g3, empty_ok g4 (.blk k 0 ty cell) rfl, .msnil _ _ _ _, g6⟩
/-- Nothing lies at or beyond the next name. -/
def WfO (o : St) (nx : Nat) : Prop := ∀ f i, nx ≤ f → o f i = none
theorem WfO.set {o : St} {nx nx' f : Nat} {i : Nat} {B : Option SObj} (h : WfO o nx) (hf : f < nx') (hn : nx ≤ nx') : WfO (St.set o f i B) nx' := fun f' i' hf' => by
  show (if f' = f ∧ i' = i then B else o f' i') = none
  rw [if_neg (by omega)]; exact h f' i' (by omega)
theorem keeps_of {o o' : St} {nx nx' : Nat} (h : WfO o nx) (k : SameB nx o o') : keeps ⟨o, nx⟩ ⟨o', nx'⟩ := fun f i B hB => by
  rcases Nat.lt_or_ge f nx with hl | hg
  · exact (k f i hl).trans hB
  · have := h f i hg
    change o f i = some B at hB
    rw [this] at hB; cases hB
namespace Tryd
theorem cloneI_spec (X : D → Value → Prop) (N : Nat) (r : Option Nat) (b : Nat) (l : List Int) (hl : l.length ≤ 1000000000) (o : St) (nx : Nat) (K : D → S → Prop) (hw : WfO o nx)
    (hk : ∀ o' nx' f ty, nx ≤ f → f < nx' → SameB nx o o' → WfO o' nx' → o' f 0 = some (.blk 1 l.length ty (rowsOf intC l)) → K (.ms f 0 1 0 l.length) ⟨o', nx'⟩) :
    ACall { P := prog, G := gl, X := X, N := N, r := r, b := b } 45 [slD 1 intC l] ⟨o, nx⟩ K := by
  refine acall_nil 1 0 (rowsOf intC l) ?_
  refine acall_ofA (M := { P := prog, G := gl, X := X, N := N, r := r, b := b }) func45 rfl results45 ntmps45 (by simp) fun b => ?_
  simp only [go_sem, ↓reduceIte, reduceCtorEq, Nat.reduceEqDiff, Nat.reduceLT, Nat.reduceLeDiff, Nat.reduceAdd, Nat.reduceSub, Nat.reduceMul, Nat.reduceGT, Int.reduceNeg, Int.reduceToNat]
  intro q hq
  refine ite_cases (fun h => ?_) (fun h => ?_)
  · have h0 := hq h
    refine .inr ?_
    have := hk (St.set o nx 0 (some (.blk 1 0 0 (rowsOf intC l)))) (nx + 1) nx 0 (Nat.le_refl _) (by omega) (SameB.set (SameB.refl _ _) (Nat.le_refl _) _ _) (hw.set (by omega) (by omega)) (by simp [St.set, h0])
    rw [h0] at this; exact this
  · refine ⟨⟨by omega, by omega⟩, ?_⟩
    have hc : ∀ cell, appC cell 0 (rowsOf intC l) = rowsOf intC l := fun cell => by funext r c; simp [appC]
    rw [hc, Nat.zero_add]
    exact hk _ _ (nx + 1) _ (by omega) (by omega) (SameB.set (SameB.set (SameB.refl _ _) (Nat.le_refl _) _ _) (by omega) _ _) ((hw.set (nx' := nx + 1) (by omega) (by omega)).set (by omega) (by omega)) (by simp [St.set]; rfl)
theorem cloneB_spec (X : D → Value → Prop) (N : Nat) (r : Option Nat) (b : Nat) (l : List Bool) (hl : l.length ≤ 1000000000) (o : St) (nx : Nat) (K : D → S → Prop) (hw : WfO o nx)
    (hk : ∀ o' nx' f ty, nx ≤ f → f < nx' → SameB nx o o' → WfO o' nx' → o' f 0 = some (.blk 1 l.length ty (rowsOf booC l)) → K (.ms f 0 1 0 l.length) ⟨o', nx'⟩) :
    ACall { P := prog, G := gl, X := X, N := N, r := r, b := b } 75 [slD 1 booC l] ⟨o, nx⟩ K := by
  refine acall_nil 1 0 (rowsOf booC l) ?_
  refine acall_ofA (M := { P := prog, G := gl, X := X, N := N, r := r, b := b }) func75 rfl results75 ntmps75 (by simp) fun b => ?_
  simp only [go_sem, ↓reduceIte, reduceCtorEq, Nat.reduceEqDiff, Nat.reduceLT, Nat.reduceLeDiff, Nat.reduceAdd, Nat.reduceSub, Nat.reduceMul, Nat.reduceGT, Int.reduceNeg, Int.reduceToNat]
  intro q hq
  refine ite_cases (fun h => ?_) (fun h => ?_)
  · have h0 := hq h
    refine .inr ?_
    have := hk (St.set o nx 0 (some (.blk 1 0 0 (rowsOf booC l)))) (nx + 1) nx 0 (Nat.le_refl _) (by omega) (SameB.set (SameB.refl _ _) (Nat.le_refl _) _ _) (hw.set (by omega) (by omega)) (by simp [St.set, h0])
    rw [h0] at this; exact this
  · refine ⟨⟨by omega, by omega⟩, ?_⟩
    have hc : ∀ cell, appC cell 0 (rowsOf booC l) = rowsOf booC l := fun cell => by funext r c; simp [appC]
    rw [hc, Nat.zero_add]
    exact hk _ _ (nx + 1) _ (by omega) (by omega) (SameB.set (SameB.set (SameB.refl _ _) (Nat.le_refl _) _ _) (by omega) _ _) ((hw.set (nx' := nx + 1) (by omega) (by omega)).set (by omega) (by omega)) (by simp [St.set]; rfl)
theorem cloneM_spec (X : D → Value → Prop) (N : Nat) (r : Option Nat) (b : Nat) (l : List Es.Mark) (hl : l.length ≤ 1000000000) (o : St) (nx : Nat) (K : D → S → Prop) (hw : WfO o nx)
    (hk : ∀ o' nx' f ty, nx ≤ f → f < nx' → SameB nx o o' → WfO o' nx' → o' f 0 = some (.blk 5 l.length ty (rowsOf mrkC l)) → K (.ms f 0 5 0 l.length) ⟨o', nx'⟩) :
    ACall { P := prog, G := gl, X := X, N := N, r := r, b := b } 76 [slD 5 mrkC l] ⟨o, nx⟩ K := by
  refine acall_nil 5 0 (rowsOf mrkC l) ?_
  refine acall_ofA (M := { P := prog, G := gl, X := X, N := N, r := r, b := b }) func76 rfl results76 ntmps76 (by simp) fun b => ?_
  simp only [go_sem, ↓reduceIte, reduceCtorEq, Nat.reduceEqDiff, Nat.reduceLT, Nat.reduceLeDiff, Nat.reduceAdd, Nat.reduceSub, Nat.reduceMul, Nat.reduceGT, Int.reduceNeg, Int.reduceToNat]
  intro q hq
  refine ite_cases (fun h => ?_) (fun h => ?_)
  · have h0 := hq h
    refine .inr ?_
    have := hk (St.set o nx 0 (some (.blk 5 0 0 (rowsOf mrkC l)))) (nx + 1) nx 0 (Nat.le_refl _) (by omega) (SameB.set (SameB.refl _ _) (Nat.le_refl _) _ _) (hw.set (by omega) (by omega)) (by simp [St.set, h0])
    rw [h0] at this; exact this
  · refine ⟨⟨by omega, by omega⟩, ?_⟩
    have hc : ∀ cell, appC cell 0 (rowsOf mrkC l) = rowsOf mrkC l := fun cell => by funext r c; simp [appC]
    rw [hc, Nat.zero_add]
    exact hk _ _ (nx + 1) _ (by omega) (by omega) (SameB.set (SameB.set (SameB.refl _ _) (Nat.le_refl _) _ _) (by omega) _ _) ((hw.set (nx' := nx + 1) (by omega) (by omega)).set (by omega) (by omega)) (by simp [St.set]; rfl)
end Tryd
end Go.Proofs
end
section
namespace Go.Proofs
open Go Go.Abs
set_option linter.unusedSimpArgs false
set_option maxRecDepth 10000
namespace Tryd
/-- A state whose parts can be changed. -/
def stO (day : Int) (fh nh fu nu fm nm : Nat) : D := .agg [.v (.int .i64 day), .ms fh 0 1 0 nh, .ms fu 0 1 0 nu, .ms fm 0 5 0 nm]
@[go_sem] theorem stO_fold (day : Int) (fh nh fu nu fm nm : Nat) : D.agg [.v (.int .i64 day), .ms fh 0 1 0 nh, .ms fu 0 1 0 nu, .ms fm 0 5 0 nm] = stO day fh nh fu nu fm nm := nr rfl
@[go_sem] theorem stO_cells (day : Int) (fh nh fu nu fm nm : Nat) : (stO day fh nh fu nu fm nm).cells? = some [.v (.int .i64 day), .ms fh 0 1 0 nh, .ms fu 0 1 0 nu, .ms fm 0 5 0 nm] := nr rfl
/-- The store holds a state's parts. -/
structure HasSt (o : St) (fh fu fm : Nat) (th tu tm : TypeId) (s : Es.State) : Prop where
  h : o fh 0 = some (.blk 1 s.holders.length th (rowsOf intC s.holders))
  u : o fu 0 = some (.blk 1 s.used.length tu (rowsOf booC s.used))
  m : o fm 0 = some (.blk 5 s.marks.length tm (rowsOf mrkC s.marks))
theorem HasSt.fz {o : St} {nx fh fu fm : Nat} {th tu tm : TypeId} {s : Es.State} (h : HasSt o fh fu fm th tu tm s) : Fz ⟨o, nx⟩ (stO s.day fh s.holders.length fu s.used.length fm s.marks.length) (staD s) :=
  Fz_agg ⟨.v _, fz_rows h.h rfl pu_intC, fz_rows h.u rfl pu_booC, fz_rows h.m rfl pu_mrkC, trivial⟩
structure Fine (c : Es.Contract) (s : Es.State) : Prop where
  len : s.marks.length = c.clauses.length
  cond : ∀ i : Nat, i < c.clauses.length → Es.len (Es.at_ c.clauses (i : Int)).start ≤ 8 ∧ ∀ y ∈ (Es.at_ c.clauses (i : Int)).start, 0 ≤ y.clause ∧ y.clause < Es.len c.clauses
  role : ∀ i : Nat, i < c.clauses.length → (Es.at_ c.clauses (i : Int)).kind ≠ 4 → 0 ≤ (Es.at_ c.clauses (i : Int)).role ∧ (Es.at_ c.clauses (i : Int)).role < Es.len s.holders
theorem setC_mrkA {ms : List Es.Mark} {r : Nat} (hr : r < ms.length) (a b d e : Int) (f : Bool) : setC (rowsOf mrkC ms) r 0 [.v (.int .i64 a), .v (.int .i64 b), .v (.int .i64 d), .v (.int .i64 e), .v (.bool f)] = rowsOf mrkC (ms.set r ⟨a, b, d, e, f⟩) := by
  funext r' c'
  simp only [setC, rowsOf, List.length_cons, List.length_nil]
  by_cases hrr : r' = r
  · subst hrr
    simp only [List.getD_eq_getElem?_getD, List.getElem?_set, hr, if_true, Option.getD_some, true_and]
    rcases c' with _ | _ | _ | _ | _ | c' <;> first | rfl | (rw [if_neg (by omega)]; rfl)
  · rw [if_neg (by omega)]
    simp only [List.getD_eq_getElem?_getD, List.getElem?_set, if_neg (Ne.symm hrr)]
/-- What holds of the store while clauses start. -/
structure BInv (o : St) (nx : Nat) (c : Es.Contract) (s : Es.State) (fh fu fm : Nat) (tm ct sx : TypeId) (ms : List Es.Mark) (st : S) : Prop where
  nxt : nx + 2 ≤ st.nx
  con : st.o nx 0 = some (.blk 7 1 ct (rowOf [.v (.int .i64 c.parties), slD 1 intC c.holders, slD 5 untC c.units, slD 7 actC c.acts, slD 16 clsC c.clauses, .v (.int .i64 c.days), slD 1 intC c.off]))
  sta : st.o (nx + 1) 0 = some (.blk 4 1 sx (rowOf [.v (.int .i64 s.day), .ms fh 0 1 0 s.holders.length, .ms fu 0 1 0 s.used.length, .ms fm 0 5 0 s.marks.length]))
  len : ms.length = s.marks.length
  mrk : st.o fm 0 = some (.blk 5 s.marks.length tm (rowsOf mrkC ms))
  old : ∀ f i, f < nx → ¬ (f = fm ∧ i = 0) → st.o f i = o f i
theorem begin_spec (X : D → Value → Prop) (N : Nat) (r : Option Nat) (b : Nat) (c : Es.Contract) (s : Es.State) (fh fu fm : Nat) (th tu tm : TypeId) (o : St) (nx : Nat) (K : D → S → Prop) (hs : HasSt o fh fu fm th tu tm s) (hx : fh < nx ∧ fu < nx ∧ fm < nx ∧ fh ≠ fm ∧ fu ≠ fm)
    (hF : Fine c s) (hl : c.clauses.length ≤ 400) (hk : ∀ o' nx', Wrote o nx fm tm (Es.begin_ c s).marks o' nx' → K (.tup []) ⟨o', nx'⟩) :
    ACall { P := prog, G := gl, X := X, N := N, r := r, b := b } 46 [conD c, stO s.day fh s.holders.length fu s.used.length fm s.marks.length] ⟨o, nx⟩ K := by
  refine acall_ofA (M := { P := prog, G := gl, X := X, N := N, r := r, b := b }) func46 rfl results46 ntmps46 (by simp) fun b => ?_
  simp only [go_sem, ↓reduceIte, reduceCtorEq, Nat.reduceEqDiff, Nat.reduceLT, Nat.reduceLeDiff, Nat.reduceAdd, Nat.reduceSub, Nat.reduceMul, Nat.reduceGT, Int.reduceNeg, Int.reduceToNat]
  have g1 : (nx = nx + 1) = False := by simp only [eq_iff_iff, iff_false]; omega
  refine awp_loopA (fun n e st => ∃ (ms : List Es.Mark) (q : Bool), e 2 = .mp nx 0 7 0 0 ∧ e 3 = .mp (nx + 1) 0 4 0 0 ∧ e 4 = .v (.bool q) ∧ BInv o nx c s fh fu fm tm 27 40 ms st ∧
      (if q = true then n = Es.idle ms + 1 ∧ Es.begin_ c { s with marks := ms } = Es.begin_ c s else n = 0 ∧ ms = (Es.begin_ c s).marks)) ?_ (n := Es.idle s.marks + 1) ?_
  · rintro n e ⟨o1, nx1⟩ ⟨ms, q, h2, h3, h4, hI, hq⟩
    have hb1 := hI.nxt
    have hb2 := hI.con
    have hb3 := hI.sta
    have hb4 := hI.mrk
    have hb5 := hI.len
    simp only at hb1 hb2 hb3 hb4
    cases q with
    | false =>
      simp only [Bool.false_eq_true, if_false] at hq
      obtain ⟨rfl, hms⟩ := hq
      simp only [go_sem, ↓reduceIte, reduceCtorEq, Nat.reduceEqDiff, Nat.reduceLT, Nat.reduceLeDiff, Nat.reduceAdd, Nat.reduceSub, Nat.reduceMul, Nat.reduceGT, Int.reduceNeg, Int.reduceToNat, h2, h3, h4]
      refine hk _ _ ⟨by omega, ?_, hI.old⟩
      rw [← hms, hb4, hb5]
    | true =>
      simp only [if_true] at hq
      obtain ⟨rfl, hbeg⟩ := hq
      simp only [go_sem, ↓reduceIte, reduceCtorEq, Nat.reduceEqDiff, Nat.reduceLT, Nat.reduceLeDiff, Nat.reduceAdd, Nat.reduceSub, Nat.reduceMul, Nat.reduceGT, Int.reduceNeg, Int.reduceToNat, h2, h3, h4, hb2, hb3]
      refine awp_count0 c.clauses.length (fun e0 s0 k e st => ∃ (ms1 : List Es.Mark) (q1 : Bool), Es.pass c { s with marks := ms } k = (ms1, q1) ∧ e 2 = e0 2 ∧ e 3 = e0 3 ∧ e 9 = e0 9 ∧ e 10 = e0 10 ∧ e 11 = .v (.int .i64 k) ∧ e 4 = .v (.bool q1) ∧ BInv o nx c s fh fu fm tm 27 40 ms1 st) ⟨ms, false, rfl, rfl, rfl, rfl, rfl, ?_, ?_, hI⟩ ?_
      · simp only [go_sem, ↓reduceIte, reduceCtorEq, Nat.reduceEqDiff, Nat.reduceLT, Nat.reduceLeDiff, Nat.reduceAdd, Nat.reduceSub, Nat.reduceMul, Nat.reduceGT, Int.reduceNeg, Int.reduceToNat]; rfl
      · simp only [go_sem, ↓reduceIte, reduceCtorEq, Nat.reduceEqDiff, Nat.reduceLT, Nat.reduceLeDiff, Nat.reduceAdd, Nat.reduceSub, Nat.reduceMul, Nat.reduceGT, Int.reduceNeg, Int.reduceToNat]
      rintro k e' ⟨o2, nx2⟩ hk2 ⟨ms1, q1, hp, a2, a3, a9, a10, a11, a4, hJ⟩
      simp only [go_sem, ↓reduceIte, reduceCtorEq, Nat.reduceEqDiff, Nat.reduceLT, Nat.reduceLeDiff, Nat.reduceAdd, Nat.reduceSub, Nat.reduceMul, Nat.reduceGT, Int.reduceNeg, Int.reduceToNat, h2, h3] at a2 a3 a9 a10
      have c1 := hJ.nxt
      have c2 := hJ.con
      have c3 := hJ.sta
      have c4 := hJ.mrk
      have c5 := hJ.len
      simp only at c1 c2 c3 c4
      have m0 : (nx = nx2) = False := by simp only [eq_iff_iff, iff_false]; omega
      have m1 : (nx + 1 = nx2) = False := by simp only [eq_iff_iff, iff_false]; omega
      have m2 : (fm = nx2) = False := by simp only [eq_iff_iff, iff_false]; omega
      have m3 : (nx2 = fm) = False := by simp only [eq_iff_iff, iff_false]; omega
      have m4 : (nx = fm) = False := by simp only [eq_iff_iff, iff_false]; omega
      have m5 : (nx + 1 = fm) = False := by simp only [eq_iff_iff, iff_false]; omega
      simp only [go_sem, ↓reduceIte, reduceCtorEq, Nat.reduceEqDiff, Nat.reduceLT, Nat.reduceLeDiff, Nat.reduceAdd, Nat.reduceSub, Nat.reduceMul, Nat.reduceGT, Int.reduceNeg, Int.reduceToNat, a2, a3, a9, a10, a11, a4, c2, c3, c4, m0, m1, m2, m3]
      refine ite_cases (fun hlt => ?_) (fun hlt => ?_)
      · have hlt' : k < c.clauses.length := Es.len_lt.1 hlt
        have hlm : k < ms1.length := by have := hF.len; omega
        refine ⟨⟨by omega, hlt⟩, ?_⟩
        have hst := hF.cond k hlt'
        have hml : Es.len ms1 = Es.len c.clauses := by have := hF.len; simp only [Es.len]; omega
        have hr := ready_spec c { s with marks := ms1 } k ⟨by omega, Es.len_lt.2 hlm⟩ hlt (fun x hx => by rw [show Es.len ({ s with marks := ms1 } : Es.State).marks = Es.len c.clauses from hml]; exact hst.2 x hx) (by have := hst.1; simp only [Es.len] at this; omega)
        have hold : ∀ f, f < nx → f ≠ fm → ∀ B, St.set o2 nx2 0 B f 0 = o f 0 := fun f hf hne B => by
          simp only [St.set]; rw [if_neg (by omega)]; exact hJ.old f 0 hf (by omega)
        have hH : ∀ B, HasSt (St.set o2 nx2 0 B) fh fu fm th tu tm { s with marks := ms1 } := fun B =>
          ⟨(hold fh hx.1 hx.2.2.2.1 B).trans hs.h, (hold fu hx.2.1 hx.2.2.2.2 B).trans hs.u, by simp only [St.set]; rw [if_neg (by omega), c4, c5]⟩
        refine lend_at M_P M_G hr gpu (.v _) ⟨(pu_conD _).fz, c5 ▸ (hH _).fz, .v _, trivial⟩ ?_
        simp only [go_sem, ↓reduceIte, reduceCtorEq, Nat.reduceEqDiff, Nat.reduceLT, Nat.reduceLeDiff, Nat.reduceAdd, Nat.reduceSub, Nat.reduceMul, Nat.reduceGT, Int.reduceNeg, Int.reduceToNat, a2, a3, a9, a10, a11, a4, c2, c3, c4, m0, m1, m2, m3]
        have hJ2 : ∀ B, BInv o nx c s fh fu fm tm 27 40 ms1 ⟨St.set o2 nx2 0 B, nx2 + 1⟩ := fun B => ⟨by simp only; omega, by simp only [St.set]; rw [if_neg (by omega)]; exact c2, by simp only [St.set]; rw [if_neg (by omega)]; exact c3, c5,
          by simp only [St.set]; rw [if_neg (by omega)]; exact c4, fun f j hf hne => by simp only [St.set]; rw [if_neg (by omega)]; exact hJ.old f j hf hne⟩
        refine ite_cases (fun hrd => ?_) (fun hrd => ?_)
        · refine ⟨hlt', ms1, q1, ?_, ?_⟩
          · rw [Es.pass_succ, hp]; unfold Es.stepB; rw [if_neg (by simpa using hrd)]
          · simp only [go_sem, ↓reduceIte, reduceCtorEq, Nat.reduceEqDiff, Nat.reduceLT, Nat.reduceLeDiff, Nat.reduceAdd, Nat.reduceSub, Nat.reduceMul, Nat.reduceGT, Int.reduceNeg, Int.reduceToNat, h2, h3, a2, a3, a9, a10, a11, a4]
            exact ⟨by rw [wrap_i64 _ (by omega) (by omega)]; simp, hJ2 _⟩
        · have hrd' : Es.ready c { s with marks := ms1 } k = true := by simpa using hrd
          have hlm' : k < s.marks.length := by omega
          simp only [Nat.zero_add, Int.toNat_natCast, setC_mrkA hlm]
          have hJ3 : ∀ B (m : Es.Mark), BInv o nx c s fh fu fm tm 27 40 (ms1.set k m) ⟨St.set (St.set o2 nx2 0 B) fm 0 (some (.blk 5 s.marks.length tm (rowsOf mrkC (ms1.set k m)))), nx2 + 1⟩ := fun B m => ⟨by simp only; omega,
            by simp only [St.set]; rw [if_neg (by omega), if_neg (by omega)]; exact c2, by simp only [St.set]; rw [if_neg (by omega), if_neg (by omega)]; exact c3, by simpa using c5,
            by simp [St.set], fun f j hf hne => by simp only [St.set]; rw [if_neg hne, if_neg (by omega)]; exact hJ.old f j hf hne⟩
          have hps : ∀ m, m = Es.startMark c { s with marks := ms } (k : Int) → Es.pass c { s with marks := ms } (k + 1) = (ms1.set k m, true) := fun m hm => by
            rw [Es.pass_succ, hp]; unfold Es.stepB; rw [if_pos hrd', hm]
          refine ⟨⟨by omega, by omega⟩, hlm', ?_⟩
          refine ite_cases (fun hkd => ?_) (fun hkd => ?_)
          · have hrole := hF.role k hlt' (by simpa using hkd)
            refine awp_plan ((.op 0 (.op 1 (.op 2 (.op 3 (.op 4 (.op 5 (.op 6 (.op 7 (.op 8 (.op 9 (.op 10 (.op 11 .done))))))))))))) [11] mix (by kernel_rfl) ?_
            have hoh : ∀ B B', St.set (St.set o2 nx2 0 B) fm 0 B' fh 0 = some (.blk 1 s.holders.length th (rowsOf intC s.holders)) := fun B B' => by
              simp only [St.set]; rw [if_neg (by omega), if_neg (by omega)]; exact (hJ.old fh 0 hx.1 (by omega)).trans hs.h
            have hlk : k < (ms1.set k ⟨1, (Es.at_ c.clauses (k : Int)).after, 0, -1, false⟩).length := by simpa using hlm
            simp only [go_sem, ↓reduceIte, reduceCtorEq, Nat.reduceEqDiff, Nat.reduceLT, Nat.reduceLeDiff, Nat.reduceAdd, Nat.reduceSub, Nat.reduceMul, Nat.reduceGT, Int.reduceNeg, Int.reduceToNat, a2, a3, a9, a10, a11, a4, c2, c3, c4, m0, m1, m2, m3, m4, m5, hoh, Nat.zero_add, Int.toNat_natCast]
            have hat : Es.at_ s.holders (((Es.at_ c.clauses (k : Int)).role.toNat : Nat) : Int) = Es.at_ s.holders (Es.at_ c.clauses (k : Int)).role := by
              generalize (Es.at_ c.clauses (k : Int)).role = rl
              unfold Es.at_; rw [Int.toNat_natCast]
            simp only [setC_mrk3 hlk, at_set hlm, List.set_set, hat]
            refine ⟨⟨hrole.1, by have := hrole.2; simp only [Es.len] at this; exact this⟩, by have := hrole.2; simp only [Es.len] at this; omega, ⟨by omega, by omega⟩, hlm', hlt', _, _, hps ⟨1, (Es.at_ c.clauses (k : Int)).after, 0, Es.at_ s.holders (Es.at_ c.clauses (k : Int)).role, false⟩ ?_, ?_⟩
            · unfold Es.startMark; rw [if_pos hkd]
            · simp only [go_sem, ↓reduceIte, reduceCtorEq, Nat.reduceEqDiff, Nat.reduceLT, Nat.reduceLeDiff, Nat.reduceAdd, Nat.reduceSub, Nat.reduceMul, Nat.reduceGT, Int.reduceNeg, Int.reduceToNat, h2, h3, a2, a3, a9, a10, a11, a4]
              exact ⟨by rw [wrap_i64 _ (by omega) (by omega)]; simp, hJ3 _ _⟩
          · refine ⟨hlt', _, _, hps ⟨1, (Es.at_ c.clauses (k : Int)).after, 0, -1, false⟩ ?_, ?_⟩
            · unfold Es.startMark; rw [if_neg hkd]
            · simp only [go_sem, ↓reduceIte, reduceCtorEq, Nat.reduceEqDiff, Nat.reduceLT, Nat.reduceLeDiff, Nat.reduceAdd, Nat.reduceSub, Nat.reduceMul, Nat.reduceGT, Int.reduceNeg, Int.reduceToNat, h2, h3, a2, a3, a9, a10, a11, a4]
              exact ⟨by rw [wrap_i64 _ (by omega) (by omega)]; simp, hJ3 _ _⟩
      · have hkk : k = c.clauses.length := by simp only [Es.len] at hlt; omega
        subst hkk
        have hpi := Es.pass_idle c { s with marks := ms } c.clauses.length (by have := hF.len; simp only; omega)
        rw [hp] at hpi
        cases q1 with
        | true =>
          refine ⟨Es.idle ms1 + 1, by have := hpi.2; simp only [if_true] at this; omega, ms1, true, ?_⟩
          simp only [go_sem, ↓reduceIte, reduceCtorEq, Nat.reduceEqDiff, Nat.reduceLT, Nat.reduceLeDiff, Nat.reduceAdd, Nat.reduceSub, Nat.reduceMul, Nat.reduceGT, Int.reduceNeg, Int.reduceToNat, h2, h3, a2, a3, a9, a10, a11, a4]
          refine ⟨hJ, ?_⟩
          have := Es.beginF_step (c := c) (s := { s with marks := ms }) (by have := hF.len; simp only; omega) (by rw [hp])
          rw [hp] at this
          rw [← hbeg, this]
        | false =>
          refine ⟨0, by omega, ms1, false, ?_⟩
          simp only [go_sem, ↓reduceIte, reduceCtorEq, Nat.reduceEqDiff, Nat.reduceLT, Nat.reduceLeDiff, Nat.reduceAdd, Nat.reduceSub, Nat.reduceMul, Nat.reduceGT, Int.reduceNeg, Int.reduceToNat, h2, h3, a2, a3, a9, a10, a11, a4]
          refine ⟨hJ, ?_⟩
          have := Es.begin_done (c := c) (s := { s with marks := ms }) (by rw [hp])
          rw [hp] at this
          rw [← hbeg, this]
  · refine ⟨s.marks, true, by simp only [go_sem, ↓reduceIte, reduceCtorEq, Nat.reduceEqDiff, Nat.reduceLT, Nat.reduceLeDiff, Nat.reduceAdd, Nat.reduceSub, Nat.reduceMul, Nat.reduceGT, Int.reduceNeg, Int.reduceToNat], by simp only [go_sem, ↓reduceIte, reduceCtorEq, Nat.reduceEqDiff, Nat.reduceLT, Nat.reduceLeDiff, Nat.reduceAdd, Nat.reduceSub, Nat.reduceMul, Nat.reduceGT, Int.reduceNeg, Int.reduceToNat], by simp only [go_sem, ↓reduceIte, reduceCtorEq, Nat.reduceEqDiff, Nat.reduceLT, Nat.reduceLeDiff, Nat.reduceAdd, Nat.reduceSub, Nat.reduceMul, Nat.reduceGT, Int.reduceNeg, Int.reduceToNat], ⟨by simp, ?_, ?_, rfl, ?_, ?_⟩, by simp⟩
    · simp only [St.set]; rw [if_neg (by omega), if_pos ⟨trivial, trivial⟩]
    · simp only [St.set]; rw [if_pos ⟨trivial, trivial⟩]
    · simp only [St.set]; rw [if_neg (by omega), if_neg (by omega)]; exact hs.m
    · intro f j hf hne
      simp only [St.set]; rw [if_neg (by omega), if_neg (by omega)]
end Tryd
end Go.Proofs
end
section
namespace Go.Proofs
open Go Go.Abs
set_option linter.unusedSimpArgs false
set_option maxRecDepth 10000
namespace Tryd
theorem sclone_spec (X : D → Value → Prop) (N : Nat) (r : Option Nat) (b : Nat) (s : Es.State) (hl : s.holders.length ≤ 1000000000 ∧ s.used.length ≤ 1000000000 ∧ s.marks.length ≤ 1000000000) (o : St) (nx : Nat) (K : D → S → Prop) (hw : WfO o nx)
    (hk : ∀ o' nx' fh fu fm th tu tm, nx ≤ fh ∧ fh < nx' ∧ nx ≤ fu ∧ fu < nx' ∧ nx ≤ fm ∧ fm < nx' ∧ fh ≠ fm ∧ fu ≠ fm ∧ fh ≠ fu → SameB nx o o' → WfO o' nx' → HasSt o' fh fu fm th tu tm s →
      K (stO s.day fh s.holders.length fu s.used.length fm s.marks.length) ⟨o', nx'⟩) :
    ACall { P := prog, G := gl, X := X, N := N, r := r, b := b } 48 [staD s] ⟨o, nx⟩ K := by
  refine acall_ofA (M := { P := prog, G := gl, X := X, N := N, r := r, b := b }) func48 rfl results48 ntmps48 (by simp) fun b => ?_
  simp only [go_sem, ↓reduceIte, reduceCtorEq, Nat.reduceEqDiff, Nat.reduceLT, Nat.reduceLeDiff, Nat.reduceAdd, Nat.reduceSub, Nat.reduceMul, Nat.reduceGT, Int.reduceNeg, Int.reduceToNat]
  have g1 : (nx = nx + 1) = False := by simp only [eq_iff_iff, iff_false]; omega
  refine awp_plan ((.op 0 (.op 1 (.op 3 (.op 4 (.op 6 (.op 7 (.op 2 (.op 9 (.op 5 (.op 8 (.op 10 (.op 11 (.op 12 (.op 13 (.op 14 .done)))))))))))))))) [10, 12, 14] mix (by kernel_rfl) ?_
  simp only [go_sem, ↓reduceIte, reduceCtorEq, Nat.reduceEqDiff, Nat.reduceLT, Nat.reduceLeDiff, Nat.reduceAdd, Nat.reduceSub, Nat.reduceMul, Nat.reduceGT, Int.reduceNeg, Int.reduceToNat, g1]
  have hw0 : ∀ B B', WfO (St.set (St.set o nx 0 B) (nx + 1) 0 B') (nx + 1 + 1) := fun B B' => (hw.set (nx' := nx + 1) (by omega) (by omega)).set (by omega) (by omega)
  refine cloneI_spec _ _ _ _ s.holders hl.1 _ _ _ (hw0 _ _) fun o1 n1 f1 t1 p1 p1' q1 w1 r1 => ?_
  have a0 := q1 nx 0 (by omega)
  have a1 := q1 (nx + 1) 0 (by omega)
  simp only [go_sem, ↓reduceIte, reduceCtorEq, Nat.reduceEqDiff, Nat.reduceLT, Nat.reduceLeDiff, Nat.reduceAdd, Nat.reduceSub, Nat.reduceMul, Nat.reduceGT, Int.reduceNeg, Int.reduceToNat, g1] at a0 a1
  simp only [go_sem, ↓reduceIte, reduceCtorEq, Nat.reduceEqDiff, Nat.reduceLT, Nat.reduceLeDiff, Nat.reduceAdd, Nat.reduceSub, Nat.reduceMul, Nat.reduceGT, Int.reduceNeg, Int.reduceToNat, g1]
  refine ⟨keeps_of (hw0 _ _) q1, ?_⟩
  refine cloneB_spec _ _ _ _ s.used hl.2.1 _ _ _ w1 fun o2 n2 f2 t2 p2 p2' q2 w2 r2 => ?_
  simp only [go_sem, ↓reduceIte, reduceCtorEq, Nat.reduceEqDiff, Nat.reduceLT, Nat.reduceLeDiff, Nat.reduceAdd, Nat.reduceSub, Nat.reduceMul, Nat.reduceGT, Int.reduceNeg, Int.reduceToNat, g1]
  refine ⟨keeps_of w1 q2, ?_⟩
  refine cloneM_spec _ _ _ _ s.marks hl.2.2 _ _ _ w2 fun o3 n3 f3 t3 p3 p3' q3 w3 r3 => ?_
  have b0 := (q3 nx 0 (by omega)).trans ((q2 nx 0 (by omega)).trans a0)
  have b1 := (q3 (nx + 1) 0 (by omega)).trans ((q2 (nx + 1) 0 (by omega)).trans a1)
  have c1 := (q3 f1 0 (by omega)).trans ((q2 f1 0 (by omega)).trans r1)
  have c2 := (q3 f2 0 (by omega)).trans r2
  have g2 : (nx + 1 = nx) = False := by simp only [eq_iff_iff, iff_false]; omega
  simp only [go_sem, ↓reduceIte, reduceCtorEq, Nat.reduceEqDiff, Nat.reduceLT, Nat.reduceLeDiff, Nat.reduceAdd, Nat.reduceSub, Nat.reduceMul, Nat.reduceGT, Int.reduceNeg, Int.reduceToNat, g1, g2, b0, b1]
  refine ⟨keeps_of w2 q3, ?_⟩
  have hs3 : SameB nx o o3 := fun f i hf => by
    rw [q3 f i (by omega), q2 f i (by omega), q1 f i (by omega)]
    simp only [St.set]; rw [if_neg (by omega), if_neg (by omega)]
  refine hk _ _ f1 f2 f3 t1 t2 t3 (by omega) (SameB.set (SameB.set hs3 (by omega) _ _) (by omega) _ _) ((w3.set (nx' := n3) (by omega) (Nat.le_refl _)).set (by omega) (Nat.le_refl _)) ⟨?_, ?_, ?_⟩
  · simp only [St.set]; rw [if_neg (by omega), if_neg (by omega)]; exact c1
  · simp only [St.set]; rw [if_neg (by omega), if_neg (by omega)]; exact c2
  · simp only [St.set]; rw [if_neg (by omega), if_neg (by omega)]; exact r3
end Tryd
end Go.Proofs
end
section
namespace Go.Proofs
open Go Go.Abs
set_option linter.unusedSimpArgs false
set_option maxRecDepth 10000
namespace Tryd
theorem running_spec (X : D → Value → Prop) (N : Nat) (r : Option Nat) (b : Nat) (c : Es.Contract) (day : Int) (fh nh fu nu fm nm : Nat) (o : St) (nx : Nat) (K : D → S → Prop)
    (hk : K (.fn (.func 101) [.mp (nx + 1) 0 4 0 0, .mp nx 0 7 0 0])
      ⟨St.set (St.set o nx 0 (some (.blk 7 1 27 (rowOf [.v (.int .i64 c.parties), slD 1 intC c.holders, slD 5 untC c.units, slD 7 actC c.acts, slD 16 clsC c.clauses, .v (.int .i64 c.days), slD 1 intC c.off])))) (nx + 1) 0 (some (.blk 4 1 40 (rowOf [.v (.int .i64 day), .ms fh 0 1 0 nh, .ms fu 0 1 0 nu, .ms fm 0 5 0 nm]))), nx + 1 + 1⟩) :
    ACall { P := prog, G := gl, X := X, N := N, r := r, b := b } 78 [conD c, stO day fh nh fu nu fm nm] ⟨o, nx⟩ K := by
  refine acall_ofA (M := { P := prog, G := gl, X := X, N := N, r := r, b := b }) func78 rfl results78 ntmps78 (by simp) fun b => ?_
  simp only [go_sem, ↓reduceIte, reduceCtorEq, Nat.reduceEqDiff, Nat.reduceLT, Nat.reduceLeDiff, Nat.reduceAdd, Nat.reduceSub, Nat.reduceMul, Nat.reduceGT, Int.reduceNeg, Int.reduceToNat]
  exact hk
open Es (runs met met_succ met_length met_at)
theorem pu_clcD (x : Es.Clause) {p : D} (hp : Pu p) : Pu (clcD x p) := Pu_agg ⟨.v _, .v _, .v _, .v _, pu_slD pu_condC _, .v _, .v _, .v _, .v _, .v _, .v _, .v _, .v _, .v _, .v _, .v _, hp, trivial⟩
theorem fz_clcD {s : S} (x : Es.Clause) {p p' : D} (hp : Fz s p p') : Fz s (clcD x p) (clcD x p') := Fz_agg ⟨.v _, .v _, .v _, .v _, (pu_slD pu_condC _).fz, .v _, .v _, .v _, .v _, .v _, .v _, .v _, .v _, .v _, .v _, .v _, hp, trivial⟩
theorem runs_spec (x : Es.Clause) (m : Es.Mark) : APure M 102 [clcD x (.rp 5 (mrkC m) 0)] (.v (.bool (runs m))) := by
  refine pure_of gpu func102 rfl results102 ntmps102 (by simp) ⟨pu_clcD x (pu_rp (pu_mrkC m)), trivial⟩ ?_
  intro b
  simp only [go_sem, ↓reduceIte, reduceCtorEq, Nat.reduceEqDiff, Nat.reduceLT, Nat.reduceLeDiff, Nat.reduceAdd, Nat.reduceSub, Nat.reduceMul, Nat.reduceGT, Int.reduceNeg, Int.reduceToNat]
  repeat' (first | (with_reducible refine And.intro ?_ ?_) | ((with_reducible refine ite_cases ?_ ?_) <;> intro _))
  all_goals first | (simp [Es.runs, *]; done) | (simp [Es.runs, *]; omega) | (simp_all [Es.runs]; done) | (simp_all [Es.runs]; omega)
/-- A mark behind its pointer. -/
theorem fz_mrk {s : S} {fm i n : Nat} {ty : TypeId} {ms : List Es.Mark} (ho : s.o fm 0 = some (.blk 5 n ty (rowsOf mrkC ms))) (hi : i < n) : Fz s (.mp fm 0 5 i 0) (.rp 5 (mrkC (Es.at_ ms (i : Int))) 0) :=
  .mp fm 0 5 i 0 n ty _ _ ho hi fun j _ => (pu_mrkC _ j).fz
end Tryd
end Go.Proofs
end
section
namespace Go.Proofs
open Go Go.Abs
set_option linter.unusedSimpArgs false
set_option maxRecDepth 10000
/-- At the start of whatever is walked, nothing lies at or beyond the next name. -/
theorem awp_wf {M : Ctx} {c : Code} {Q : Exit → Env → S → Prop} {e : Env} {s : S} (h : WfO s.o s.nx → AWp M c Q e s) : AWp M c Q e s := fun cf a n hE hok =>
  h (fun f i hf => by
    cases hB : s.o f i with
    | none => rfl
    | some B => have := (hok.obj f i B hB).1; omega) cf a n hE hok
theorem acall_wf {M : Ctx} {f : FuncId} {args : List D} {s : S} {K : D → S → Prop} (h : WfO s.o s.nx → ACall M f args s K) : ACall M f args s K := fun c vals hok h2 h3 h4 =>
  h (fun f i hf => by
    cases hB : s.o f i with
    | none => rfl
    | some B => have := (hok.obj f i B hB).1; omega) c vals hok h2 h3 h4
namespace Tryd
open Es (runs met met_succ met_length met_at)
/-- What the caller of a loop over running clauses owns: J speaks of what lies below n0. -/
structure RunJ (c : Es.Contract) (day : Int) (fh nh fu nu fm n fc fs n0 : Nat) (tm : TypeId) (J : List Es.Mark → S → Prop) : Prop where
  mrk : ∀ ms st, J ms st → st.o fm 0 = some (.blk 5 n tm (rowsOf mrkC ms)) ∧ ms.length = n
  con : ∀ ms st, J ms st → st.o fc 0 = some (.blk 7 1 27 (rowOf [.v (.int .i64 c.parties), slD 1 intC c.holders, slD 5 untC c.units, slD 7 actC c.acts, slD 16 clsC c.clauses, .v (.int .i64 c.days), slD 1 intC c.off]))
  sta : ∀ ms st, J ms st → st.o fs 0 = some (.blk 4 1 40 (rowOf [.v (.int .i64 day), .ms fh 0 1 0 nh, .ms fu 0 1 0 nu, .ms fm 0 5 0 n]))
  nxt : ∀ ms st, J ms st → n0 ≤ st.nx
  same : ∀ ms st st', J ms st → st.nx ≤ st'.nx → SameB n0 st.o st'.o → J ms st'
  lt : fm < n0 ∧ fc < n0 ∧ fs < n0
theorem running1_spec (X : D → Value → Prop) (N : Nat) (r : Option Nat) (b : Nat) (l : Nat) (c : Es.Contract) (day : Int) (fh nh fu nu fm n fc fs n0 : Nat) (tm : TypeId) (J : List Es.Mark → S → Prop) (hJ : RunJ c day fh nh fu nu fm n fc fs n0 tm J)
    (hn : n = c.clauses.length) (hl : n ≤ 400) (g : Nat → Es.Mark → Es.Mark) (ms0 : List Es.Mark)
    (hY : ∀ (N : Nat) (b : Nat) (i : Nat) (st : S), i < n → J (met g ms0 i) st → runs (Es.at_ (met g ms0 i) (i : Int)) = true →
      ARound { P := prog, G := gl, X := X, N := N, r := none, b := b } l [clcD (Es.at_ c.clauses (i : Int)) (.mp fm 0 5 i 0)] st
        (fun d st' => d = .v (.bool true) ∧ J ((met g ms0 i).set i (g i (Es.at_ (met g ms0 i) (i : Int)))) st' ∧ st.nx ≤ st'.nx ∧ ∀ f j, n0 ≤ f → f < st.nx → st'.o f j = st.o f j))
    (st : S) (h0 : J ms0 st) (K : D → S → Prop) (hk : ∀ st', J (met g ms0 n) st' → K (.tup []) st') :
    ACall { P := prog, G := gl, X := X, N := N, r := r, b := b } 101 [.fn (.yield l) [], .mp fs 0 4 0 0, .mp fc 0 7 0 0] st K := by
  refine acall_ofA (M := { P := prog, G := gl, X := X, N := N, r := r, b := b }) func101 rfl results101 ntmps101 (by simp) fun b => ?_
  simp only [go_sem, ↓reduceIte, reduceCtorEq, Nat.reduceEqDiff, Nat.reduceLT, Nat.reduceLeDiff, Nat.reduceAdd, Nat.reduceSub, Nat.reduceMul, Nat.reduceGT, Int.reduceNeg, Int.reduceToNat]
  obtain ⟨o, nx⟩ := st
  have j1 := hJ.mrk _ _ h0
  have j2 := hJ.con _ _ h0
  have j3 := hJ.sta _ _ h0
  simp only at j1 j2 j3
  simp only [go_sem, ↓reduceIte, reduceCtorEq, Nat.reduceEqDiff, Nat.reduceLT, Nat.reduceLeDiff, Nat.reduceAdd, Nat.reduceSub, Nat.reduceMul, Nat.reduceGT, Int.reduceNeg, Int.reduceToNat, j1.1, j2, j3]
  refine awp_count0 n (fun e0 s0 k e st => (e 0 = e0 0 ∧ e 1 = e0 1 ∧ e 2 = e0 2 ∧ e 8 = e0 8) ∧ e 9 = .v (.int .i64 k) ∧ J (met g ms0 k) st) ⟨⟨rfl, rfl, rfl, rfl⟩, ?_, h0⟩ ?_
  · simp only [go_sem, ↓reduceIte, reduceCtorEq, Nat.reduceEqDiff, Nat.reduceLT, Nat.reduceLeDiff, Nat.reduceAdd, Nat.reduceSub, Nat.reduceMul, Nat.reduceGT, Int.reduceNeg, Int.reduceToNat]; rfl
  clear j1 j2 j3
  rintro k e ⟨o2, nx2⟩ hk2 ⟨⟨a0, a1, a2, a8⟩, a9, hk3⟩
  simp only [go_sem, ↓reduceIte, reduceCtorEq, Nat.reduceEqDiff, Nat.reduceLT, Nat.reduceLeDiff, Nat.reduceAdd, Nat.reduceSub, Nat.reduceMul, Nat.reduceGT, Int.reduceNeg, Int.reduceToNat] at a0 a1 a2 a8
  obtain ⟨j1, j1'⟩ := hJ.mrk _ _ hk3
  have j2 := hJ.con _ _ hk3
  have j3 := hJ.sta _ _ hk3
  have j4 := hJ.nxt _ _ hk3
  have j5 := hJ.lt
  simp only at j1 j2 j3 j4
  simp only [go_sem, ↓reduceIte, reduceCtorEq, Nat.reduceEqDiff, Nat.reduceLT, Nat.reduceLeDiff, Nat.reduceAdd, Nat.reduceSub, Nat.reduceMul, Nat.reduceGT, Int.reduceNeg, Int.reduceToNat, a0, a1, a2, a8, a9, j1, j2, j3]
  refine ite_cases (fun hlt => ?_) (fun hlt => ?_)
  · have hlt' : k < n := by omega
    have m1 : (fm = nx2) = False := by simp only [eq_iff_iff, iff_false]; omega
    have m2 : (fc = nx2) = False := by simp only [eq_iff_iff, iff_false]; omega
    have m3 : (fs = nx2) = False := by simp only [eq_iff_iff, iff_false]; omega
    refine awp_wf fun hw => ?_
    have hw0 : o2 nx2 0 = none := hw nx2 0 (Nat.le_refl _)
    refine awp_plan ((.op 0 (.op 1 (.op 2 (.op 3 (.op 4 (.op 5 (.op 6 (.op 7 (.op 8 (.op 9 (.op 10 (.op 11 .done))))))))))))) [11] mix (by kernel_rfl) ?_
    simp only [go_sem, ↓reduceIte, reduceCtorEq, Nat.reduceEqDiff, Nat.reduceLT, Nat.reduceLeDiff, Nat.reduceAdd, Nat.reduceSub, Nat.reduceMul, Nat.reduceGT, Int.reduceNeg, Int.reduceToNat, a0, a1, a2, a8, a9, j1, j2, j3, m1, m2, m3, Nat.zero_add, Int.toNat_natCast, hw0]
    refine ⟨⟨by omega, by simp only [Es.len]; omega⟩, ⟨by omega, by omega⟩, ?_⟩
    have hfm : ∀ B, St.set o2 nx2 0 B fm 0 = some (.blk 5 n tm (rowsOf mrkC (met g ms0 k))) := fun B => by
      simp only [St.set]; rw [if_neg (by omega)]; exact j1
    refine lend_at M_P M_G (runs_spec (Es.at_ c.clauses (k : Int)) (Es.at_ (met g ms0 k) (k : Int))) gpu (.v _) ⟨fz_clcD _ (fz_mrk (n := n) (hfm _) hlt'), trivial⟩ ?_
    simp only [go_sem, ↓reduceIte, reduceCtorEq, Nat.reduceEqDiff, Nat.reduceLT, Nat.reduceLeDiff, Nat.reduceAdd, Nat.reduceSub, Nat.reduceMul, Nat.reduceGT, Int.reduceNeg, Int.reduceToNat, a0, a1, a2, a8, a9, j1, j2, j3, m1, m2, m3]
    have hJ2 : ∀ B, J (met g ms0 k) ⟨St.set o2 nx2 0 B, nx2 + 1⟩ := fun B => hJ.same _ _ _ hk3 (Nat.le_succ nx2) (SameB.set (SameB.refl _ _) j4 _ _)
    refine ite_cases (fun hr => ?_) (fun hr => ?_)
    · refine (hY _ _ k _ hlt' (hJ2 _) hr).mono ?_
      rintro d ⟨o3, nx3⟩ ⟨rfl, hJ3, hn3, hs3⟩
      simp only [go_sem, ↓reduceIte, reduceCtorEq, Nat.reduceEqDiff, Nat.reduceLT, Nat.reduceLeDiff, Nat.reduceAdd, Nat.reduceSub, Nat.reduceMul, Nat.reduceGT, Int.reduceNeg, Int.reduceToNat, a0, a1, a2, a8, a9]
      refine ⟨hlt', ?_⟩
      simp only [go_sem, ↓reduceIte, reduceCtorEq, Nat.reduceEqDiff, Nat.reduceLT, Nat.reduceLeDiff, Nat.reduceAdd, Nat.reduceSub, Nat.reduceMul, Nat.reduceGT, Int.reduceNeg, Int.reduceToNat, a0, a1, a2, a8, a9]
      refine ⟨by rw [wrap_i64 _ (by omega) (by omega)]; simp, ?_⟩
      rw [met_succ, if_pos hr]; exact hJ3
    · refine ⟨hlt', ?_⟩
      simp only [go_sem, ↓reduceIte, reduceCtorEq, Nat.reduceEqDiff, Nat.reduceLT, Nat.reduceLeDiff, Nat.reduceAdd, Nat.reduceSub, Nat.reduceMul, Nat.reduceGT, Int.reduceNeg, Int.reduceToNat, a0, a1, a2, a8, a9]
      refine ⟨by rw [wrap_i64 _ (by omega) (by omega)]; simp, ?_⟩
      rw [met_succ, if_neg hr]; exact hJ2 _
  · have : k = n := by omega
    rw [this] at hk3
    exact hk _ hk3
end Tryd
end Go.Proofs
end
section
namespace Go.Proofs
open Go Go.Abs
set_option linter.unusedSimpArgs false
set_option linter.unusedVariables false
set_option maxRecDepth 10000
namespace Tryd
/-- A pass of the insertion sort under way: the element at place j is on its way to the left. -/
def Moving (l m : List (Es.Amend × Nat)) (i j : Nat) : Prop :=
  m.Perm l ∧ ∃ A x B C, m = A ++ x :: (B ++ C) ∧ A.length = j ∧ A.length + B.length = i ∧ Es.Sorted Es.leP (A ++ B) ∧ ∀ y ∈ B, Es.leP x y = true
theorem Moving.start {l m : List (Es.Amend × Nat)} {i : Nat} (hp : m.Perm l) (hs : Es.Sorted Es.leP (m.take i)) (hi : i < m.length) : Moving l m i i :=
  ⟨hp, m.take i, m[i], [], m.drop (i + 1), by rw [List.nil_append, List.getElem_cons_drop, List.take_append_drop], by rw [List.length_take]; omega, by rw [List.length_take, List.length_nil]; omega, by simpa using hs, fun y hy => by cases hy⟩
theorem Moving.step {l m : List (Es.Amend × Nat)} {i j : Nat} (h : Moving l m i (j + 1)) (hlt : Es.leP (Es.at_ m (j : Int)) (Es.at_ m ((j + 1 : Nat) : Int)) = false) : Moving l ((m.set (j + 1) (Es.at_ m (j : Int))).set j (Es.at_ m ((j + 1 : Nat) : Int))) i j := by
  obtain ⟨hp, A, x, B, C, rfl, hA, hB, hs, hx⟩ := h
  have hne : A ≠ [] := fun h => by subst h; simp at hA
  obtain ⟨A', y, rfl⟩ : ∃ A' y, A = A' ++ [y] := ⟨A.dropLast, A.getLast hne, (List.dropLast_concat_getLast hne).symm⟩
  have hA' : A'.length = j := by simpa using hA
  have e1 : Es.at_ ((A' ++ [y]) ++ x :: (B ++ C)) (j : Int) = y := by
    rw [Es.at_nat (by simp; omega)]
    simp only [List.append_assoc, List.cons_append, List.nil_append]
    rw [List.getElem_append_right (by omega)]; simp [hA']
  have e2 : Es.at_ ((A' ++ [y]) ++ x :: (B ++ C)) ((j + 1 : Nat) : Int) = x := by
    rw [Es.at_nat (by simp; omega), List.getElem_append_right (by simp; omega)]; simp [hA']
  rw [e1, e2] at hlt
  rw [e1, e2]
  have e3 : (((A' ++ [y]) ++ x :: (B ++ C)).set (j + 1) y).set j x = A' ++ x :: ((y :: B) ++ C) := by
    subst hA'
    simp [List.set_append_right, List.append_assoc]
  rw [e3]
  refine ⟨?_, A', x, y :: B, C, rfl, hA', by simp at hB ⊢; omega, by simpa using hs, fun z hz => ?_⟩
  · refine List.Perm.trans ?_ hp
    simp only [List.append_assoc, List.cons_append, List.nil_append]
    exact (List.Perm.swap y x _).append_left A'
  · rcases List.mem_cons.1 hz with rfl | hz
    · exact (Es.leP_total.total x z).resolve_right (by simp [hlt])
    · exact hx z hz
theorem Moving.done {l m : List (Es.Amend × Nat)} {i j : Nat} (h : Moving l m i j) (hd : j = 0 ∨ Es.leP (Es.at_ m ((j : Int) - 1)) (Es.at_ m (j : Int)) = true) : m.Perm l ∧ Es.Sorted Es.leP (m.take (i + 1)) := by
  obtain ⟨hp, A, x, B, C, rfl, hA, hB, hs, hx⟩ := h
  refine ⟨hp, ?_⟩
  have e : (A ++ x :: (B ++ C)).take (i + 1) = A ++ x :: B := by
    rw [show A ++ x :: (B ++ C) = (A ++ x :: B) ++ C by simp]
    rw [List.take_append_of_le_length (by simp only [List.length_append, List.length_cons]; omega), List.take_of_length_le (by simp only [List.length_append, List.length_cons]; omega)]
  rw [e]
  obtain ⟨h1, h2, h3⟩ := List.pairwise_append.1 hs
  refine List.pairwise_append.2 ⟨h1, List.pairwise_cons.2 ⟨hx, h2⟩, fun a ha b hb => ?_⟩
  rcases List.mem_cons.1 hb with rfl | hb
  · rcases hd with rfl | hd
    · rw [List.length_eq_zero_iff.1 hA] at ha; cases ha
    · have hne : A ≠ [] := fun h => by subst h; cases ha
      obtain ⟨A', y, rfl⟩ : ∃ A' y, A = A' ++ [y] := ⟨A.dropLast, A.getLast hne, (List.dropLast_concat_getLast hne).symm⟩
      have hj : j = A'.length + 1 := by simpa using hA.symm
      have e1 : Es.at_ ((A' ++ [y]) ++ b :: (B ++ C)) ((j : Int) - 1) = y := by
        rw [show (j : Int) - 1 = ((A'.length : Nat) : Int) by omega, Es.at_nat (by simp only [List.length_append, List.length_cons, List.length_nil]; omega)]
        simp only [List.append_assoc, List.cons_append, List.nil_append]
        rw [List.getElem_append_right (by omega)]; simp
      have e2 : Es.at_ ((A' ++ [y]) ++ b :: (B ++ C)) (j : Int) = b := by
        rw [Es.at_nat (by simp; omega), List.getElem_append_right (by simp; omega)]; simp [hj]
      rw [e1, e2] at hd
      rcases List.mem_append.1 ha with ha | ha
      · exact Es.leP_total.trans _ _ _ ((List.pairwise_append.1 h1).2.2 a ha y (by simp)) hd
      · simp only [List.mem_singleton] at ha; subst ha; exact hd
  · exact h3 a ha b hb
theorem cmpE_pos {a b : Es.Amend × Nat} (h : cmpE a b < 0) : Es.leP b a = false := by
  have := cmpE_lt a b
  rw [decide_eq_true h] at this
  simpa using this.symm
theorem cmpE_neg {a b : Es.Amend × Nat} (h : ¬ cmpE a b < 0) : Es.leP b a = true := by
  have := cmpE_lt a b
  rw [decide_eq_false h] at this
  simpa using this.symm
theorem insSort_spec (X : D → Value → Prop) (N : Nat) (r : Option Nat) (b : Nat) (f n : Nat) (ty : TypeId) (l : List (Es.Amend × Nat)) (o : St) (nx : Nat) (K : D → S → Prop) (ho : o f 0 = some (.blk 23 n ty (rowsOf entC l))) (hf : f < nx) (hn : l.length = n) (hb : n ≤ 1000000)
    (hk : ∀ o' nx' m, nx ≤ nx' → (∀ g j, g < nx → ¬ (g = f ∧ j = 0) → o' g j = o g j) → o' f 0 = some (.blk 23 n ty (rowsOf entC m)) → m.Perm l → Es.Sorted Es.leP m → K (.tup []) ⟨o', nx'⟩) :
    ACall { P := prog, G := gl, X := X, N := N, r := r, b := b } 124 [.ms f 0 23 0 n, .v (.int .i64 0), .v (.int .i64 n), .fn (.func 84) []] ⟨o, nx⟩ K := by
  refine acall_ofA (M := { P := prog, G := gl, X := X, N := N, r := r, b := b }) func124 rfl results124 ntmps124 (by simp) fun b => ?_
  simp only [go_sem, ↓reduceIte, reduceCtorEq, Nat.reduceEqDiff, Nat.reduceLT, Nat.reduceLeDiff, Nat.reduceAdd, Nat.reduceSub, Nat.reduceMul, Nat.reduceGT, Int.reduceNeg, Int.reduceToNat]
  have hl1 : Es.Sorted Es.leP (l.take (0 + 1)) := by
    cases l with
    | nil => exact .nil
    | cons x l => exact List.pairwise_singleton _ _
  refine awp_count0 n (fun e0 s0 k e s => (e 0 = e0 0 ∧ e 1 = e0 1 ∧ e 2 = e0 2 ∧ e 3 = e0 3) ∧ e 8 = .v (.int .i64 ((k : Int) + 1)) ∧ s0.nx ≤ s.nx ∧ (∀ gg j, gg < s0.nx → ¬ (gg = f ∧ j = 0) → s.o gg j = s0.o gg j) ∧ ∃ m, s.o f 0 = some (.blk 23 n ty (rowsOf entC m)) ∧ m.Perm l ∧ Es.Sorted Es.leP (m.take (k + 1))) ⟨⟨rfl, rfl, rfl, rfl⟩, ?_, Nat.le_refl _, fun _ _ _ _ => rfl, l, ho, .refl _, hl1⟩ ?_
  · first | (simp only [go_sem, ↓reduceIte, reduceCtorEq, Nat.reduceEqDiff, Nat.reduceLT, Nat.reduceLeDiff, Nat.reduceAdd, Nat.reduceSub, Nat.reduceMul, Nat.reduceGT, Int.reduceNeg, Int.reduceToNat]; done) | (simp only [go_sem, ↓reduceIte, reduceCtorEq, Nat.reduceEqDiff, Nat.reduceLT, Nat.reduceLeDiff, Nat.reduceAdd, Nat.reduceSub, Nat.reduceMul, Nat.reduceGT, Int.reduceNeg, Int.reduceToNat]; rfl)
  rintro k e ⟨o2, n2⟩ hkn ⟨⟨h0, h1, h2, h3⟩, h8, hn2, hold, m, hm, hp, hs⟩
  simp only at hn2 hold hm
  simp only [go_sem, ↓reduceIte, reduceCtorEq, Nat.reduceEqDiff, Nat.reduceLT, Nat.reduceLeDiff, Nat.reduceAdd, Nat.reduceSub, Nat.reduceMul, Nat.reduceGT, Int.reduceNeg, Int.reduceToNat] at h0 h1 h2 h3
  have hml : m.length = n := by rw [hp.length_eq]; exact hn
  simp only [go_sem, ↓reduceIte, reduceCtorEq, Nat.reduceEqDiff, Nat.reduceLT, Nat.reduceLeDiff, Nat.reduceAdd, Nat.reduceSub, Nat.reduceMul, Nat.reduceGT, Int.reduceNeg, Int.reduceToNat, h0, h1, h2, h3, h8]
  refine ite_cases (fun hlt => ?_) (fun hlt => ?_)
  · have hlt' : k + 1 < n := by omega
    refine awp_count0 (k + 1) (fun e0 s0 t e s => (e 0 = e0 0 ∧ e 1 = e0 1 ∧ e 2 = e0 2 ∧ e 3 = e0 3 ∧ e 8 = e0 8) ∧ e 9 = .v (.int .i64 ((k : Int) + 1 - t)) ∧ s0.nx ≤ s.nx ∧ (∀ gg j, gg < s0.nx → ¬ (gg = f ∧ j = 0) → s.o gg j = s0.o gg j) ∧ ∃ m, s.o f 0 = some (.blk 23 n ty (rowsOf entC m)) ∧ Moving l m (k + 1) (k + 1 - t)) ⟨⟨rfl, rfl, rfl, rfl, rfl⟩, ?_, Nat.le_refl _, fun _ _ _ _ => rfl, m, hm, Moving.start hp hs (by omega)⟩ ?_
    · first | (simp only [go_sem, ↓reduceIte, reduceCtorEq, Nat.reduceEqDiff, Nat.reduceLT, Nat.reduceLeDiff, Nat.reduceAdd, Nat.reduceSub, Nat.reduceMul, Nat.reduceGT, Int.reduceNeg, Int.reduceToNat]; done) | (simp only [go_sem, ↓reduceIte, reduceCtorEq, Nat.reduceEqDiff, Nat.reduceLT, Nat.reduceLeDiff, Nat.reduceAdd, Nat.reduceSub, Nat.reduceMul, Nat.reduceGT, Int.reduceNeg, Int.reduceToNat]; congr 2 <;> simp)
    rintro t e2 ⟨o3, n3⟩ ht ⟨⟨k0, k1, k2, k3, k8⟩, k9, kn, kold, m2, km, kM⟩
    simp only at kn kold km
    simp only [go_sem, ↓reduceIte, reduceCtorEq, Nat.reduceEqDiff, Nat.reduceLT, Nat.reduceLeDiff, Nat.reduceAdd, Nat.reduceSub, Nat.reduceMul, Nat.reduceGT, Int.reduceNeg, Int.reduceToNat, h0, h1, h2, h3, h8] at k0 k1 k2 k3 k8
    have hm2 : m2.length = n := by rw [kM.1.length_eq]; exact hn
    have hcl : callable prog 84 = true := by simp only [go_sem]
    have hcast : ((k + 1 - t : Nat) : Int) = (k : Int) + 1 - t := by omega
    have hw1 : IntKind.i64.wrap ((k : Int) + 1 - t - 1) = (k : Int) + 1 - t - 1 := wrap_i64 _ (by omega) (by omega)
    have hw2 : IntKind.i64.wrap ((k : Int) + 1 + 1) = (k : Int) + 1 + 1 := wrap_i64 _ (by omega) (by omega)
    simp only [go_sem, ↓reduceIte, reduceCtorEq, Nat.reduceEqDiff, Nat.reduceLT, Nat.reduceLeDiff, Nat.reduceAdd, Nat.reduceSub, Nat.reduceMul, Nat.reduceGT, Int.reduceNeg, Int.reduceToNat, k0, k1, k2, k3, k8, k9, km, hcl]
    refine awp_plan ((.op 0 (.op 1 (.op 2 (.op 3 (.op 4 (.op 5 (.op 6 (.op 7 (.op 8 (.op 9 (.op 10 (.op 11 (.op 12 (.op 13 (.op 14 (.op 15 (.op 16 .done)))))))))))))))))) [] mix (by kernel_rfl) ?_
    simp only [go_sem, ↓reduceIte, reduceCtorEq, Nat.reduceEqDiff, Nat.reduceLT, Nat.reduceLeDiff, Nat.reduceAdd, Nat.reduceSub, Nat.reduceMul, Nat.reduceGT, Int.reduceNeg, Int.reduceToNat, k0, k1, k2, k3, k8, k9, km, hcl, hw1]
    refine ite_cases (fun hj => ?_) (fun hj => ?_)
    · refine ⟨⟨by omega, by omega⟩, ?_⟩
      have q1 : 0 + ((k : Int) + 1 - t).toNat = k - t + 1 := by omega
      have q2 : 0 + ((k : Int) + 1 - t - 1).toNat = k - t := by omega
      have q3 : k + 1 - t = k - t + 1 := by omega
      rw [q3] at kM
      simp only [q1, q2]
      refine ⟨by omega, ⟨by omega, by omega⟩, by omega, ?_⟩
      refine call_at M_P M_G (order_spec _ _) ?_
      simp only [go_sem, ↓reduceIte, reduceCtorEq, Nat.reduceEqDiff, Nat.reduceLT, Nat.reduceLeDiff, Nat.reduceAdd, Nat.reduceSub, Nat.reduceMul, Nat.reduceGT, Int.reduceNeg, Int.reduceToNat, k0, k1, k2, k3, k8, k9, km, hcl, hw1]
      refine ite_cases (fun hc => ?_) (fun hc => ?_)
      · refine awp_plan ((.op 0 (.op 1 (.op 2 (.op 3 (.op 4 (.op 5 (.op 6 (.op 7 (.op 8 (.op 9 (.op 10 (.op 11 (.op 12 (.op 13 (.op 14 (.op 15 (.op 16 (.op 17 .done))))))))))))))))))) [15, 17] mix (by kernel_rfl) ?_
        have s1 := setC_ent (l := m2) (r := k - t + 1) (by omega) (Es.at_ m2 ((k - t : Nat) : Int)) (entD_cells _)
        have s2 := setC_ent (l := m2.set (k - t + 1) (Es.at_ m2 ((k - t : Nat) : Int))) (r := k - t) (by rw [List.length_set]; omega) (Es.at_ m2 ((k - t + 1 : Nat) : Int)) (entD_cells _)
        simp only [go_sem, ↓reduceIte, reduceCtorEq, Nat.reduceEqDiff, Nat.reduceLT, Nat.reduceLeDiff, Nat.reduceAdd, Nat.reduceSub, Nat.reduceMul, Nat.reduceGT, Int.reduceNeg, Int.reduceToNat, k0, k1, k2, k3, k8, k9, km, hcl, hw1, q1, q2, s1, s2]
        refine ⟨⟨by omega, by omega⟩, by omega, ⟨by omega, by omega⟩, by omega, ⟨by omega, by omega⟩, by omega, ⟨by omega, by omega⟩, by omega, ?_⟩
        refine ⟨by omega, ?_⟩
        simp only [go_sem, ↓reduceIte, reduceCtorEq, Nat.reduceEqDiff, Nat.reduceLT, Nat.reduceLeDiff, Nat.reduceAdd, Nat.reduceSub, Nat.reduceMul, Nat.reduceGT, Int.reduceNeg, Int.reduceToNat, k0, k1, k2, k3, k8, k9, h0, h1, h2, h3, h8, hw1]
        refine ⟨by congr 2; omega, by omega, fun gg j g1 g2 => ?_, _, rfl, ?_⟩
        · simp only [if_neg g2]; exact kold gg j g1 g2
        · rw [show k + 1 - (t + 1) = k - t by omega]
          exact kM.step (cmpE_pos (by simpa using hc))
      · obtain ⟨d1, d2⟩ := kM.done (.inr (by
          rw [show (((k - t + 1 : Nat)) : Int) - 1 = ((k - t : Nat) : Int) by omega]
          exact cmpE_neg (by simpa using hc)))
        refine ⟨by omega, ?_⟩
        simp only [go_sem, ↓reduceIte, reduceCtorEq, Nat.reduceEqDiff, Nat.reduceLT, Nat.reduceLeDiff, Nat.reduceAdd, Nat.reduceSub, Nat.reduceMul, Nat.reduceGT, Int.reduceNeg, Int.reduceToNat, k0, k1, k2, k3, k8, k9, h0, h1, h2, h3, h8, hw1, hw2]
        exact ⟨by first | rfl | (congr 2; omega), by omega, fun gg j g1 g2 => (kold gg j (by omega) g2).trans (hold gg j g1 g2), m2, km, d1, d2⟩
    · have q3 : k + 1 - t = 0 := by omega
      rw [q3] at kM
      obtain ⟨d1, d2⟩ := kM.done (.inl rfl)
      refine ⟨by omega, ?_⟩
      simp only [go_sem, ↓reduceIte, reduceCtorEq, Nat.reduceEqDiff, Nat.reduceLT, Nat.reduceLeDiff, Nat.reduceAdd, Nat.reduceSub, Nat.reduceMul, Nat.reduceGT, Int.reduceNeg, Int.reduceToNat, k0, k1, k2, k3, k8, k9, h0, h1, h2, h3, h8, hw1, hw2]
      exact ⟨by first | rfl | (congr 2; omega), by omega, fun gg j g1 g2 => (kold gg j (by omega) g2).trans (hold gg j g1 g2), m2, km, d1, d2⟩
  · have hkk : m.take (k + 1) = m := List.take_of_length_le (by omega)
    rw [hkk] at hs
    exact hk _ _ m hn2 hold hm hp hs
/-- How many bits a number has. -/
def bl (n : Nat) : Int := if n = 0 then 0 else (Nat.log2 n + 1 : Nat)
set_option maxRecDepth 100000 in
theorem len64_spec (n : Nat) (h : n < 256) : APure M 133 [.v (.int .u64 n)] (.v (.int .i64 (bl n))) := by
  refine pure_of gpu func133 rfl results133 ntmps133 (by simp) ⟨.v _, trivial⟩ ?_
  intro b
  simp only [go_sem, ↓reduceIte, reduceCtorEq, Nat.reduceEqDiff, Nat.reduceLT, Nat.reduceLeDiff, Nat.reduceAdd, Nat.reduceSub, Nat.reduceMul, Nat.reduceGT, Int.reduceNeg, Int.reduceToNat]
  rw [if_neg (by omega), if_neg (by omega), if_neg (by omega)]
  have hu : IntKind.u8.wrap (n : Int) = n := by simp [IntKind.wrap, IntKind.bits, IntKind.signed]; omega
  rw [hu]
  refine ⟨⟨by omega, ?_⟩, congrArg (Value.int IntKind.i64) ?_⟩
  · exact Int.lt_of_lt_of_le (by omega : (n : Int) < 256) (by decide +kernel)
  · rw [Int.toNat_natCast]
    clear hu
    revert n
    decide +kernel
theorem len_spec (n : Nat) (h : n < 256) : APure M 110 [.v (.int .u64 n)] (.v (.int .i64 (bl n))) := by
  refine pure_of gpu func110 rfl results110 ntmps110 (by simp) ⟨.v _, trivial⟩ ?_
  intro b
  simp only [go_sem, ↓reduceIte, reduceCtorEq, Nat.reduceEqDiff, Nat.reduceLT, Nat.reduceLeDiff, Nat.reduceAdd, Nat.reduceSub, Nat.reduceMul, Nat.reduceGT, Int.reduceNeg, Int.reduceToNat]
  repeat' (first | ((with_reducible refine call_at M_P M_G (len64_spec n h) ?_); simp only [go_sem, ↓reduceIte, reduceCtorEq, Nat.reduceEqDiff, Nat.reduceLT, Nat.reduceLeDiff, Nat.reduceAdd, Nat.reduceSub, Nat.reduceMul, Nat.reduceGT, Int.reduceNeg, Int.reduceToNat]) | (with_reducible refine And.intro ?_ ?_) | ((with_reducible refine ite_cases ?_ ?_) <;> intro _))
/-- A list of at most twelve entries is sorted by insertion alone. -/
theorem pdq12_spec (X : D → Value → Prop) (N : Nat) (r : Option Nat) (b : Nat) (f n : Nat) (v : Int) (ty : TypeId) (l : List (Es.Amend × Nat)) (o : St) (nx : Nat) (K : D → S → Prop) (ho : o f 0 = some (.blk 23 n ty (rowsOf entC l))) (hf : f < nx) (hn : l.length = n) (hb : n ≤ 12)
    (hk : ∀ o' nx' m, nx ≤ nx' → (∀ g j, g < nx → ¬ (g = f ∧ j = 0) → o' g j = o g j) → o' f 0 = some (.blk 23 n ty (rowsOf entC m)) → m.Perm l → Es.Sorted Es.leP m → K (.tup []) ⟨o', nx'⟩) :
    ACall { P := prog, G := gl, X := X, N := N, r := r, b := b } 109 [.ms f 0 23 0 n, .v (.int .i64 0), .v (.int .i64 n), .v (.int .i64 v), .fn (.func 84) []] ⟨o, nx⟩ K := by
  refine acall_ofA (M := { P := prog, G := gl, X := X, N := N, r := r, b := b }) func109 rfl results109 ntmps109 (by simp) fun b => ?_
  simp only [go_sem, ↓reduceIte, reduceCtorEq, Nat.reduceEqDiff, Nat.reduceLT, Nat.reduceLeDiff, Nat.reduceAdd, Nat.reduceSub, Nat.reduceMul, Nat.reduceGT, Int.reduceNeg, Int.reduceToNat]
  refine awp_count0 0 (fun e0 s0 k e s => e = e0 ∧ s = s0) ⟨rfl, rfl⟩ ?_
  rintro k e s hk' ⟨rfl, rfl⟩
  simp only [go_sem, ↓reduceIte, reduceCtorEq, Nat.reduceEqDiff, Nat.reduceLT, Nat.reduceLeDiff, Nat.reduceAdd, Nat.reduceSub, Nat.reduceMul, Nat.reduceGT, Int.reduceNeg, Int.reduceToNat]
  rw [if_pos (by rw [wrap_i64 _ (by omega) (by omega)]; omega)]
  refine insSort_spec _ _ _ _ f n ty l _ _ _ ho hf hn (by omega) fun o' nx' m h1 h2 h3 h4 h5 => ?_
  simp only [go_sem, ↓reduceIte, reduceCtorEq, Nat.reduceEqDiff, Nat.reduceLT, Nat.reduceLeDiff, Nat.reduceAdd, Nat.reduceSub, Nat.reduceMul, Nat.reduceGT, Int.reduceNeg, Int.reduceToNat]
  exact hk _ _ m h1 h2 h3 h4 h5
theorem sort12_spec (X : D → Value → Prop) (N : Nat) (r : Option Nat) (b : Nat) (f n : Nat) (ty : TypeId) (l : List (Es.Amend × Nat)) (o : St) (nx : Nat) (K : D → S → Prop) (ho : o f 0 = some (.blk 23 n ty (rowsOf entC l))) (hf : f < nx) (hn : l.length = n) (hb : n ≤ 12)
    (hk : ∀ o' nx' m, nx ≤ nx' → (∀ g j, g < nx → ¬ (g = f ∧ j = 0) → o' g j = o g j) → o' f 0 = some (.blk 23 n ty (rowsOf entC m)) → m.Perm l → Es.Sorted Es.leP m → K (.tup []) ⟨o', nx'⟩) :
    ACall { P := prog, G := gl, X := X, N := N, r := r, b := b } 83 [.ms f 0 23 0 n, .fn (.func 84) []] ⟨o, nx⟩ K := by
  refine acall_ofA (M := { P := prog, G := gl, X := X, N := N, r := r, b := b }) func83 rfl results83 ntmps83 (by simp) fun b => ?_
  simp only [go_sem, ↓reduceIte, reduceCtorEq, Nat.reduceEqDiff, Nat.reduceLT, Nat.reduceLeDiff, Nat.reduceAdd, Nat.reduceSub, Nat.reduceMul, Nat.reduceGT, Int.reduceNeg, Int.reduceToNat]
  have hu : IntKind.u64.wrap (n : Int) = n := by rw [wrap_u64]; omega
  rw [hu]
  refine call_at M_P M_G (len_spec n (by omega)) ?_
  simp only [go_sem, ↓reduceIte, reduceCtorEq, Nat.reduceEqDiff, Nat.reduceLT, Nat.reduceLeDiff, Nat.reduceAdd, Nat.reduceSub, Nat.reduceMul, Nat.reduceGT, Int.reduceNeg, Int.reduceToNat]
  refine pdq12_spec _ _ _ _ f n _ ty l _ _ _ ho hf hn hb fun o' nx' m h1 h2 h3 h4 h5 => ?_
  simp only [go_sem, ↓reduceIte, reduceCtorEq, Nat.reduceEqDiff, Nat.reduceLT, Nat.reduceLeDiff, Nat.reduceAdd, Nat.reduceSub, Nat.reduceMul, Nat.reduceGT, Int.reduceNeg, Int.reduceToNat]
  exact hk _ _ m h1 h2 h3 h4 h5
end Tryd
end Go.Proofs
end
section
namespace Go.Proofs
open Go Go.Abs
set_option linter.unusedSimpArgs false
set_option linter.unusedVariables false
set_option maxRecDepth 10000
namespace Tryd
theorem bit_spec (q : Bool) : APure M 137 [.v (.bool q)] (.v (.int .i64 (if q then 1 else 0))) := by
  refine pure_of gpu func137 rfl results137 ntmps137 (by simp) ⟨.v _, trivial⟩ ?_
  intro b
  simp only [go_sem, ↓reduceIte, reduceCtorEq, Nat.reduceEqDiff, Nat.reduceLT, Nat.reduceLeDiff, Nat.reduceAdd, Nat.reduceSub, Nat.reduceMul, Nat.reduceGT, Int.reduceNeg, Int.reduceToNat]
  cases q <;> simp
theorem pzero1_spec (n : Int) : APure M 121 [.v (.int .i64 n)] (.v (.bool (n != 0))) := by
  refine pure_of gpu func121 rfl results121 ntmps121 (by simp) ⟨.v _, trivial⟩ ?_
  intro b
  simp only [go_sem, ↓reduceIte, reduceCtorEq, Nat.reduceEqDiff, Nat.reduceLT, Nat.reduceLeDiff, Nat.reduceAdd, Nat.reduceSub, Nat.reduceMul, Nat.reduceGT, Int.reduceNeg, Int.reduceToNat]
def numsZ (x : Es.Clause) : List Int :=
  [0, 0, 0, x.kind, x.role, x.act, x.need, x.after, x.grace, if x.business then 1 else 0, if x.final then 1 else 0, x.pause, x.resume, x.value.num, x.value.den, x.unit, x.to, if x.waived then 1 else 0, 0]
def nilP (x : Es.Clause) : D := .agg [.v (.int .i64 0), .v (.slice none 0 0), .v (.int .i64 x.kind), .v (.int .i64 x.role), .v (.int .i64 x.act), .v (.int .i64 x.need), .v (.slice none 0 0), .v (.int .i64 x.after), .v (.int .i64 x.grace), .v (.bool x.business), .v (.bool x.final), .v (.int .i64 x.pause), .v (.int .i64 x.resume), .v (.int .i64 x.value.num), .v (.int .i64 x.value.den), .v (.int .i64 x.unit), .v (.int .i64 x.to), .v (.bool x.waived), .v (.int .i64 0)]
@[go_sem] theorem nilP_cells (x : Es.Clause) : (nilP x).cells? = some [.v (.int .i64 0), .v (.slice none 0 0), .v (.int .i64 x.kind), .v (.int .i64 x.role), .v (.int .i64 x.act), .v (.int .i64 x.need), .v (.slice none 0 0), .v (.int .i64 x.after), .v (.int .i64 x.grace), .v (.bool x.business), .v (.bool x.final), .v (.int .i64 x.pause), .v (.int .i64 x.resume), .v (.int .i64 x.value.num), .v (.int .i64 x.value.den), .v (.int .i64 x.unit), .v (.int .i64 x.to), .v (.bool x.waived), .v (.int .i64 0)] := nr rfl
theorem numbers_spec (x : Es.Clause) : APure M 120 [nilP x] (slD 1 intC (numsZ x)) := by
  refine pure_of gpu func120 rfl results120 ntmps120 (by simp) ⟨Pu_agg ⟨.v _, .v _, .v _, .v _, .v _, .v _, .v _, .v _, .v _, .v _, .v _, .v _, .v _, .v _, .v _, .v _, .v _, .v _, .v _, trivial⟩, trivial⟩ ?_
  intro b
  simp only [go_sem, ↓reduceIte, reduceCtorEq, Nat.reduceEqDiff, Nat.reduceLT, Nat.reduceLeDiff, Nat.reduceAdd, Nat.reduceSub, Nat.reduceMul, Nat.reduceGT, Int.reduceNeg, Int.reduceToNat]
  refine awp_plan ((.op 0 (.op 1 (.op 2 (.op 3 (.op 4 (.op 5 (.op 6 (.op 7 (.op 8 (.op 9 (.op 10 (.op 11 (.op 12 (.op 13 (.op 14 (.op 16 (.op 17 (.op 19 (.op 20 (.op 21 (.op 22 (.op 23 (.op 24 (.op 25 (.op 26 (.op 27 (.op 28 (.op 29 (.op 30 (.op 31 (.op 32 (.op 33 (.op 34 (.op 36 (.op 37 (.op 38 (.op 15 (.op 18 (.op 35 (.op 39 (.op 40 (.op 41 .done))))))))))))))))))))))))))))))))))))))))))) [40] mix (by kernel_rfl) ?_
  simp only [go_sem, ↓reduceIte, reduceCtorEq, Nat.reduceEqDiff, Nat.reduceLT, Nat.reduceLeDiff, Nat.reduceAdd, Nat.reduceSub, Nat.reduceMul, Nat.reduceGT, Int.reduceNeg, Int.reduceToNat]
  repeat' (first | ((with_reducible refine call_at M_P M_G (bit_spec _) ?_); simp only [go_sem, ↓reduceIte, reduceCtorEq, Nat.reduceEqDiff, Nat.reduceLT, Nat.reduceLeDiff, Nat.reduceAdd, Nat.reduceSub, Nat.reduceMul, Nat.reduceGT, Int.reduceNeg, Int.reduceToNat]) | (with_reducible refine And.intro ?_ ?_) | ((with_reducible refine ite_cases ?_ ?_) <;> intro _))
  refine awp_count0 0 (fun e0 s0 k e s => e = e0 ∧ s = s0) ⟨rfl, rfl⟩ ?_
  rintro k e s hk ⟨rfl, rfl⟩
  simp only [go_sem, ↓reduceIte, reduceCtorEq, Nat.reduceEqDiff, Nat.reduceLT, Nat.reduceLeDiff, Nat.reduceAdd, Nat.reduceSub, Nat.reduceMul, Nat.reduceGT, Int.reduceNeg, Int.reduceToNat]
  refine fz_ms rfl rfl pu_intC fun r j hr hj => ?_
  obtain rfl : j = 0 := by omega
  have hr : r < 19 := hr
  rcases (show r = 0 ∨ r = 1 ∨ r = 2 ∨ r = 3 ∨ r = 4 ∨ r = 5 ∨ r = 6 ∨ r = 7 ∨ r = 8 ∨ r = 9 ∨ r = 10 ∨ r = 11 ∨ r = 12 ∨ r = 13 ∨ r = 14 ∨ r = 15 ∨ r = 16 ∨ r = 17 ∨ r = 18 by omega) with rfl | rfl | rfl | rfl | rfl | rfl | rfl | rfl | rfl | rfl | rfl | rfl | rfl | rfl | rfl | rfl | rfl | rfl | rfl <;> rfl
theorem numsZ_any (x : Es.Clause) : (Es.len x.start == 0 && !(numsZ x).any fun n => n != 0) = Es.zeroClause x := by
  have hs : (Es.len x.start == 0) = x.start.isEmpty := by
    cases x.start with
    | nil => rfl
    | cons a l => rw [Bool.eq_iff_iff]; simp [Es.len]; omega
  have hb : ∀ q : Bool, ((if q then (1:Int) else 0) != 0) = q := by decide
  simp only [numsZ, Es.zeroClause, hs, List.any_cons, List.any_nil, hb, Bool.or_false]
  rw [Bool.eq_iff_iff]
  simp [and_assoc]
end Tryd
end Go.Proofs
end
