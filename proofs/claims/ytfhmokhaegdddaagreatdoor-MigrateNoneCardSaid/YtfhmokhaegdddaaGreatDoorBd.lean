/-
  Parts of an abstract machine over the model, of the program's data and of what its functions compute: the texts LawB ModH F1 Row F2 F7 F11 F12 F13 ModM F60 F14 F15 F16 F16b F61 F62 F8 F9, merged.
-/
import Derived.Test.YtfhmokhaegdddaaGreatDoorBc
import Derived.Test.YtfhmokhaegdddaaGreatDoorTie
import Derived.Test.YtfhmokhaegdddaaGreatDoorCards
import Derived.ProofKit
import Derived.LaidMore
import Derived.OpenShut
import Derived.Carry
import Derived.Stop.Joined
set_option linter.unusedSimpArgs false
set_option linter.unusedVariables false
section
/-
  Plain laws of the states of a contract, part 2: steps.
-/
namespace Es
/-- What a step leaves of the mark of a clause, before clauses start. -/
def dayM (c : Contract) (s : State) (i : Nat) (m : Mark) : Mark := if runs m then dayMark c s i m else m
def actM (c : Contract) (s : State) (k : Int) (i : Nat) (m : Mark) : Mark :=
  if at_ s.used k then m else
  let m1 := if runs m then actMark c k (doer c s k) i m else m
  if (at_ c.acts k).kind == 3 then (if runs m1 then novMark c (at_ c.acts k) i m1 else m1) else m1
theorem tick_at {c : Contract} {s : State} (hl : s.marks.length = c.clauses.length) {i : Nat} (hi : i < s.marks.length) : at_ (tickS c s).marks (i : Int) = dayM c s i (at_ s.marks (i : Int)) :=
  met_done _ _ _ _ (by omega) hi
theorem tick_len (c : Contract) (s : State) : (tickS c s).marks.length = s.marks.length := met_length _ _ _
theorem do_at {c : Contract} {s : State} {k : Int} (hl : s.marks.length = c.clauses.length) {i : Nat} (hi : i < s.marks.length) : at_ (doS c s k).marks (i : Int) = actM c s k i (at_ s.marks (i : Int)) := by
  unfold doS actM
  split
  · rfl
  · simp only
    have h1 := met_done (actMark c k (doer c s k)) s.marks c.clauses.length i (by omega) hi
    split
    · rw [met_done _ _ _ _ (by omega) (by rw [met_length]; exact hi), h1]
    · exact h1
theorem do_len (c : Contract) (s : State) (k : Int) : (doS c s k).marks.length = s.marks.length := by
  unfold doS
  split
  · rfl
  · simp only
    split <;> simp [met_length]
theorem do_day (c : Contract) (s : State) (k : Int) : (doS c s k).day = s.day := by
  unfold doS; split <;> rfl
theorem do_holders (c : Contract) (s : State) (k : Int) : (doS c s k).holders = if at_ s.used k = true ∨ (at_ c.acts k).kind = 1 then s.holders else s.holders.set (at_ c.acts k).give.toNat (at_ c.acts k).to := by
  unfold doS
  split
  · rename_i h; rw [if_pos (.inl h)]
  · rename_i h
    simp only
    by_cases h2 : (at_ c.acts k).kind = 1
    · simp [h2]
    · simp [h, h2]
theorem do_used (c : Contract) (s : State) (k : Int) : (doS c s k).used = if at_ s.used k = true ∨ (at_ c.acts k).kind = 1 then s.used else s.used.set k.toNat true := by
  unfold doS
  split
  · rename_i h; rw [if_pos (.inl h)]
  · rename_i h
    simp only
    by_cases h2 : (at_ c.acts k).kind = 1
    · simp [h2]
    · simp [h, h2]

/-- A running clause's well-formed mark. -/
structure Run (c : Contract) (x : Clause) (m : Mark) : Prop where
  st : m.status = 1 ∨ m.status = 2
  waived : x.waived = false
  got : if x.kind = 1 then 0 ≤ m.got ∧ m.got < x.need else m.got = 0
  left : 1 ≤ m.left ∧ m.left ≤ if m.status = 2 then x.grace else x.after
  paused : m.paused = true → 0 ≤ x.pause
  bearer : (x.kind = 4 ∧ m.bearer = -1) ∨ (x.kind ≠ 4 ∧ 0 ≤ m.bearer ∧ m.bearer < c.parties)
/-- The mark of a clause that has ended. -/
structure End (c : Contract) (m : Mark) : Prop where
  st : m.status = 3 ∨ m.status = 4 ∨ m.status = 5
  left : m.left = 0
  paused : m.paused = false
  got : 0 ≤ m.got ∧ m.got ≤ 9
  bearer : (0 ≤ m.bearer ∧ m.bearer < c.parties) ∨ m.bearer = -1
theorem wf_run {c : Contract} {x : Clause} {m : Mark} (hr : m.status = 1 ∨ m.status = 2) : wellFormed c x m = true ↔ Run c x m := by
  have e1 : (m.status == 3 || m.status == 4 || m.status == 5) = false := by rcases hr with h | h <;> simp [h]
  have e2 : (m.status == 0) = false := by rcases hr with h | h <;> simp [h]
  have e3 : (m.status == 1 || m.status == 2) = true := by rcases hr with h | h <;> simp [h]
  unfold wellFormed
  simp only [e1, e2, e3, if_true, Bool.false_eq_true, if_false, Bool.and_eq_true, Bool.or_eq_true, Bool.not_eq_true', decide_eq_true_eq, beq_iff_eq, bne_iff_ne, party]
  constructor
  · rintro ⟨⟨⟨⟨⟨h1, h2⟩, h3⟩, h4⟩, h5⟩, h6⟩
    refine ⟨hr, h1, ?_, ⟨h3, h4⟩, fun hp => ?_, h6⟩
    · split at h2 <;> rename_i hk <;> simp only [Bool.and_eq_true, decide_eq_true_eq, beq_iff_eq] at h2
      · rw [if_pos hk]; exact h2
      · rw [if_neg hk]; exact h2
    · rcases h5 with h5 | h5
      · rw [hp] at h5; cases h5
      · exact h5
  · rintro ⟨_, h1, h2, h3, h4, h5⟩
    refine ⟨⟨⟨⟨⟨h1, ?_⟩, h3.1⟩, h3.2⟩, ?_⟩, h5⟩
    · split at h2 <;> rename_i hk
      · rw [if_pos hk]; simpa using h2
      · rw [if_neg hk]; simpa using h2
    · cases hp : m.paused with
      | false => exact .inl rfl
      | true => exact .inr (h4 hp)
theorem wf_end {c : Contract} {x : Clause} {m : Mark} (hr : m.status = 3 ∨ m.status = 4 ∨ m.status = 5) : wellFormed c x m = true ↔ End c m := by
  have e1 : (m.status == 3 || m.status == 4 || m.status == 5) = true := by rcases hr with h | h | h <;> simp [h]
  unfold wellFormed
  simp only [e1, if_true, Bool.and_eq_true, Bool.or_eq_true, Bool.not_eq_true', decide_eq_true_eq, beq_iff_eq, party]
  constructor
  · rintro ⟨⟨⟨⟨h1, h2⟩, h3⟩, h4⟩, h5⟩; exact ⟨hr, h1, h2, ⟨h3, h4⟩, h5⟩
  · rintro ⟨_, h1, h2, h3, h5⟩; exact ⟨⟨⟨⟨h1, h2⟩, h3.1⟩, h3.2⟩, h5⟩
theorem wf_status {c : Contract} {x : Clause} {m : Mark} (h : wellFormed c x m = true) : m.status = 0 ∨ Run c x m ∨ End c m := by
  by_cases h0 : m.status = 0
  · exact .inl h0
  by_cases h1 : m.status = 1 ∨ m.status = 2
  · exact .inr (.inl ((wf_run h1).1 h))
  by_cases h2 : m.status = 3 ∨ m.status = 4 ∨ m.status = 5
  · exact .inr (.inr ((wf_end h2).1 h))
  · unfold wellFormed at h
    rw [if_neg (by simpa [or_assoc] using h2), if_neg (by simpa using h0), if_neg (by simpa using h1)] at h
    cases h
theorem runs_iff {m : Mark} : runs m = true ↔ m.status = 1 ∨ m.status = 2 := by unfold runs; simp
theorem Run.wf {c : Contract} {x : Clause} {m : Mark} (h : Run c x m) : wellFormed c x m = true := (wf_run h.st).2 h
theorem End.wf {c : Contract} {x : Clause} {m : Mark} (h : End c m) : wellFormed c x m = true := (wf_end h.st).2 h
theorem Run.bear {c : Contract} {x : Clause} {m : Mark} (h : Run c x m) : (0 ≤ m.bearer ∧ m.bearer < c.parties) ∨ m.bearer = -1 := by rcases h.bearer with h | h <;> omega
theorem Run.got9 {c : Contract} {x : Clause} {m : Mark} (h : Run c x m) (hc : COk c x) : 0 ≤ m.got ∧ m.got ≤ 9 := by
  have := h.got
  have := hc.need
  split at * <;> omega
/-- A mark after its clause has ended. -/
theorem Run.toEnd {c : Contract} {x : Clause} {m : Mark} (h : Run c x m) (hc : COk c x) {st : Int} (hs : st = 3 ∨ st = 4 ∨ st = 5) : End c (ended m st) := ⟨hs, rfl, rfl, h.got9 hc, h.bear⟩
theorem older_wf {c : Contract} {x : Clause} {m : Mark} (h : Run c x m) (hc : COk c x) (hp : m.paused = false) : (older x { m with left := m.left - 1 }).status ≠ 0 ∧ wellFormed c x (older x { m with left := m.left - 1 }) = true := by
  have hend : ∀ st : Int, st = 3 ∨ st = 4 ∨ st = 5 → End c { m with left := 0, status := st, paused := false } := fun st hs => h.toEnd hc hs
  unfold older
  split
  · rename_i hk
    simp only [beq_iff_eq] at hk
    split
    · rename_i hg
      simp only [Bool.and_eq_true, beq_iff_eq, decide_eq_true_eq] at hg
      refine ⟨by simp, Run.wf ⟨.inr rfl, h.waived, ?_, ?_, fun hq => absurd (hp.symm.trans hq) (by simp), h.bearer⟩⟩
      · simpa [hk] using h.got
      · simp only [if_true]; omega
    · exact ⟨by simp, (hend 4 (by simp)).wf⟩
  · split
    · exact ⟨by simp, (hend 3 (by simp)).wf⟩
    · exact ⟨by simp, (hend 5 (by simp)).wf⟩
theorem dayM_wf {c : Contract} {s : State} {i : Nat} {m : Mark} (h : wellFormed c (at_ c.clauses (i : Int)) m = true) (hc : COk c (at_ c.clauses (i : Int))) : wellFormed c (at_ c.clauses (i : Int)) (dayM c s i m) = true := by
  unfold dayM
  split
  case isFalse => exact h
  rename_i hr
  rw [runs_iff] at hr
  have hR := (wf_run hr).1 h
  unfold dayMark
  split
  · exact h
  rename_i hp
  simp only [Bool.or_eq_true, not_or, Bool.not_eq_true] at hp
  split
  · exact (older_wf hR hc hp.1).2
  · rename_i hz
    simp only [beq_iff_eq] at hz
    have hl := hR.left
    exact Run.wf ⟨hr, hR.waived, hR.got, ⟨by simp only; omega, by simp only; omega⟩, fun hq => absurd (hp.1.symm.trans hq) (by simp), hR.bearer⟩
theorem counted_wf {c : Contract} {x : Clause} {m : Mark} (h : Run c x m) (hc : COk c x) : wellFormed c x (countedM x m) = true := by
  unfold countedM
  split
  · rename_i hk
    simp only [beq_iff_eq] at hk
    have hg := h.got
    rw [if_pos hk] at hg
    have hn := hc.need
    split
    · rename_i he
      simp only [beq_iff_eq] at he
      exact End.wf ⟨.inl rfl, rfl, rfl, ⟨by simp only [ended]; omega, by simp only [ended]; omega⟩, h.bear⟩
    · rename_i he
      simp only [beq_iff_eq] at he
      exact Run.wf ⟨h.st, h.waived, by simp only [hk, if_true]; omega, h.left, h.paused, h.bearer⟩
  · split
    · split
      · exact h.wf
      · exact (h.toEnd hc (by simp)).wf
    · exact (h.toEnd hc (by simp)).wf
theorem actM_wf {c : Contract} {s : State} {k : Int} {i : Nat} {m : Mark} (h : wellFormed c (at_ c.clauses (i : Int)) m = true) (hc : COk c (at_ c.clauses (i : Int))) (hk : 0 ≤ k) (hto : (at_ c.acts k).kind = 3 → 0 ≤ (at_ c.acts k).to ∧ (at_ c.acts k).to < c.parties) :
    wellFormed c (at_ c.clauses (i : Int)) (actM c s k i m) = true := by
  unfold actM
  split
  · exact h
  have h1 : wellFormed c (at_ c.clauses (i : Int)) (if runs m then actMark c k (doer c s k) i m else m) = true := by
    split
    case isFalse => exact h
    rename_i hr
    rw [runs_iff] at hr
    have hR := (wf_run hr).1 h
    unfold actMark
    simp only
    have hR1 : Run c (at_ c.clauses (i : Int)) (if (at_ c.clauses (i : Int)).pause == k then { m with paused := true } else m) := by
      split
      · rename_i hp
        simp only [beq_iff_eq] at hp
        exact ⟨hR.st, hR.waived, hR.got, hR.left, fun _ => by omega, hR.bearer⟩
      · exact hR
    generalize (if (at_ c.clauses (i : Int)).pause == k then { m with paused := true } else m) = m1 at *
    have hR2 : Run c (at_ c.clauses (i : Int)) (if (at_ c.clauses (i : Int)).resume == k then { m1 with paused := false } else m1) := by
      split
      · exact ⟨hR1.st, hR1.waived, hR1.got, hR1.left, fun hq => absurd hq (by simp), hR1.bearer⟩
      · exact hR1
    generalize (if (at_ c.clauses (i : Int)).resume == k then { m1 with paused := false } else m1) = m2 at *
    split
    · exact counted_wf hR2 hc
    · exact hR2.wf
  generalize (if runs m then actMark c k (doer c s k) i m else m) = m1 at *
  simp only
  split
  case isFalse => exact h1
  rename_i h3
  simp only [beq_iff_eq] at h3
  split
  case isFalse => exact h1
  rename_i hr
  rw [runs_iff] at hr
  have hR := (wf_run hr).1 h1
  unfold novMark
  split
  · rename_i hn
    simp only [Bool.and_eq_true, bne_iff_ne, ne_eq] at hn
    exact Run.wf ⟨hR.st, hR.waived, hR.got, hR.left, hR.paused, .inr ⟨hn.1, hto h3⟩⟩
  · exact h1
theorem core_tick {c : Contract} {s : State} (h : Core c s) (hd : s.day ≠ c.days) : Core c { tickS c s with day := s.day + 1 } := by
  have hv := valid2_ok h.con
  have hday := h.day
  refine ⟨h.con, by simp only; omega, h.hl, h.ul, (tick_len c s).trans h.ml, h.holders, h.used, fun i hi => ?_⟩
  have hi' : i < s.marks.length := by rw [← tick_len c s]; exact hi
  show wellFormed c _ (at_ (tickS c s).marks _) = true
  rw [tick_at h.ml hi']
  exact dayM_wf (h.marks i hi') (hv.clause i (by rw [← h.ml]; exact hi'))
theorem at_act {c : Contract} {k : Int} (h0 : 0 ≤ k) (h1 : k < len c.acts) : at_ c.acts k ∈ c.acts := by
  rw [← at_nn]; exact at_mem (by simp only [len] at h1; omega)
theorem core_do {c : Contract} {s : State} {k : Int} (h : Core c s) (h0 : 0 ≤ k) (h1 : k < len c.acts) : Core c (doS c s k) := by
  have hv := valid2_ok h.con
  have hact := hv.acts _ (at_act h0 h1)
  have hto : (at_ c.acts k).kind ≠ 1 → 0 ≤ (at_ c.acts k).to ∧ (at_ c.acts k).to < c.parties := fun hk => (act_moves hact hk).2.2.2
  refine ⟨h.con, by rw [do_day]; exact h.day, ?_, ?_, (do_len c s k).trans h.ml, ?_, ?_, fun i hi => ?_⟩
  · rw [do_holders]; split <;> simp [h.hl]
  · rw [do_used]; split <;> simp [h.ul]
  · rw [do_holders]
    split
    · exact h.holders
    · rename_i hn
      simp only [not_or] at hn
      intro p hp
      rcases List.mem_or_eq_of_mem_set hp with hp | rfl
      · exact h.holders p hp
      · exact hto hn.2
  · rw [do_used]
    split
    · exact h.used
    · rename_i hn
      simp only [not_or] at hn
      intro i hi hu
      rw [List.length_set] at hi
      by_cases hik : k.toNat = i
      · subst hik; rw [at_nn]; exact hn.2
      · have : at_ (s.used.set k.toNat true) (i : Int) = at_ s.used (i : Int) := by simp [at_, List.getD, hik]
        rw [this] at hu
        exact h.used i hi hu
  · have hi' : i < s.marks.length := by rw [← do_len c s k]; exact hi
    rw [do_at h.ml hi']
    exact actM_wf (h.marks i hi') (hv.clause i (by rw [← h.ml]; exact hi')) h0 fun h3 => hto (by omega)
theorem core_start {c : Contract} (h : (valid2 c).1 = 0) : Core c (state0 c) := by
  have hv := valid2_ok h
  have hp := hv.pos
  refine ⟨h, by simp only [state0]; omega, rfl, by simp [state0], by simp [state0], hv.holders, fun i hi hu => ?_, fun i hi => ?_⟩
  · simp [state0] at hi
    have : at_ (state0 c).used (i : Int) = false := by simp [state0, at_, List.getD, List.getElem?_replicate, hi]
    rw [this] at hu; cases hu
  · simp only [state0, List.length_map] at hi
    have : at_ (state0 c).marks (i : Int) = mark0 (at_ c.clauses (i : Int)) := by simp [state0, at_, List.getD, hi]
    rw [this]
    unfold wellFormed mark0 party
    cases hw : (at_ c.clauses (i : Int)).waived <;> simp [hw]
theorem start_valid {c : Contract} (h : (valid2 c).1 = 0) : sValid c (begin_ c (state0 c)) = true := (core_start h).begin
theorem begin_day {c : Contract} {s : State} (hl : s.marks.length = c.clauses.length) : (begin_ c s).day = s.day := by
  obtain ⟨ms, h1, _⟩ := begin_spec (c := c) (s := s) hl; rw [h1]
theorem begin_holders {c : Contract} {s : State} (hl : s.marks.length = c.clauses.length) : (begin_ c s).holders = s.holders := by
  obtain ⟨ms, h1, _⟩ := begin_spec (c := c) (s := s) hl; rw [h1]
theorem begin_used {c : Contract} {s : State} (hl : s.marks.length = c.clauses.length) : (begin_ c s).used = s.used := by
  obtain ⟨ms, h1, _⟩ := begin_spec (c := c) (s := s) hl; rw [h1]
/-- What a step that is not refused gives. -/
def mid (c : Contract) (s : State) (k : Int) : State := if k == -1 then { tickS c s with day := s.day + 1 } else doS c s k
structure Stepped (c : Contract) (s : State) (k : Int) (t : State) : Prop where
  pre : Core c s
  idle : ∀ i : Nat, i < s.marks.length → ready c s (i : Int) = false
  rng : -1 ≤ k ∧ k < len c.acts
  day : s.day ≠ c.days
  core : Core c (mid c s k)
  eq : t = begin_ c (mid c s k)
  valid : sValid c t = true
theorem step_ok {c : Contract} {s : State} {k : Int} (h : (step c s k).2 = 0) : Stepped c s k (step c s k).1 := by
  unfold step at h ⊢
  split at h
  · simp at h
  rename_i h1
  split at h
  · simp at h
  rename_i h2
  rw [if_neg h1, if_neg h2]
  simp only [Bool.or_eq_true, not_or, Bool.not_eq_true', Bool.not_eq_false, decide_eq_true_eq] at h1
  simp only [beq_iff_eq] at h2
  obtain ⟨hc, hr⟩ := sValid_iff.1 h1.1.1
  have hm : Core c (mid c s k) := by
    unfold mid
    split
    · exact core_tick hc h2
    · rename_i hk
      simp only [beq_iff_eq] at hk
      exact core_do hc (by omega) (by omega)
  exact ⟨hc, hr, by omega, h2, hm, rfl, hm.begin⟩
theorem mid_len (c : Contract) (s : State) (k : Int) : (mid c s k).marks.length = s.marks.length := by
  unfold mid; split
  · exact tick_len c s
  · exact do_len c s k
/-- A mark after a step, before clauses start. -/
def midM (c : Contract) (s : State) (k : Int) (i : Nat) (m : Mark) : Mark := if k == -1 then dayM c s i m else actM c s k i m
theorem mid_at {c : Contract} {s : State} {k : Int} (hl : s.marks.length = c.clauses.length) {i : Nat} (hi : i < s.marks.length) : at_ (mid c s k).marks (i : Int) = midM c s k i (at_ s.marks (i : Int)) := by
  unfold mid midM; split
  · exact tick_at hl hi
  · exact do_at hl hi
theorem Stepped.len {c : Contract} {s t : State} {k : Int} (h : Stepped c s k t) : t.marks.length = s.marks.length := by
  obtain ⟨ms, h1, h2, _⟩ := begin_spec (c := c) (s := mid c s k) h.core.ml
  rw [h.eq, h1]; exact h2.len.trans (mid_len c s k)
theorem Stepped.hold {c : Contract} {s t : State} {k : Int} (h : Stepped c s k t) : t.holders = (mid c s k).holders := by rw [h.eq]; exact begin_holders h.core.ml
theorem Stepped.use {c : Contract} {s t : State} {k : Int} (h : Stepped c s k t) : t.used = (mid c s k).used := by rw [h.eq]; exact begin_used h.core.ml
theorem Stepped.began {c : Contract} {s t : State} {k : Int} (h : Stepped c s k t) : Began c (mid c s k) t.marks := by
  obtain ⟨ms, h1, h2, _⟩ := begin_spec (c := c) (s := mid c s k) h.core.ml
  rw [h.eq, h1]; exact h2
/-- A step leaves marks of clauses that do not run. -/
theorem midM_still {c : Contract} {s : State} {k : Int} {i : Nat} {m : Mark} (h : runs m = false) : midM c s k i m = m := by
  unfold midM dayM actM
  simp only [h, Bool.false_eq_true, if_false]
  split
  · rfl
  · split
    · rfl
    · split <;> rfl
theorem older_runs {x : Clause} {m : Mark} : (older x m).status ≠ 0 ∧ (m.status = 2 → (older x m).status ≠ 1) ∧ ((older x m).status = 1 → False) := by
  unfold older
  split
  · split <;> simp
  · split <;> simp
theorem counted_st {x : Clause} {m : Mark} : (countedM x m).status = m.status ∨ (countedM x m).status = 3 ∨ (countedM x m).status = 4 := by
  unfold countedM ended
  split
  · split <;> simp
  · split
    · split <;> simp
    · simp
theorem dayMark_st {c : Contract} {s : State} {i : Nat} {m : Mark} : (dayMark c s i m).status = m.status ∨ ((dayMark c s i m).status ≠ 0 ∧ (dayMark c s i m).status ≠ 1) := by
  unfold dayMark
  split
  · exact .inl rfl
  · split
    · have h := older_runs (x := at_ c.clauses (i : Int)) (m := { m with left := m.left - 1 })
      exact .inr ⟨h.1, fun h1 => h.2.2 h1⟩
    · exact .inl rfl
theorem actMark_st {c : Contract} {k w : Int} {i : Nat} {m : Mark} : (actMark c k w i m).status = m.status ∨ (actMark c k w i m).status = 3 ∨ (actMark c k w i m).status = 4 := by
  unfold actMark
  simp only
  have e1 : (if (at_ c.clauses (i : Int)).pause == k then { m with paused := true } else m).status = m.status := by split <;> rfl
  generalize (if (at_ c.clauses (i : Int)).pause == k then { m with paused := true } else m) = m1 at *
  have e2 : (if (at_ c.clauses (i : Int)).resume == k then { m1 with paused := false } else m1).status = m1.status := by split <;> rfl
  generalize (if (at_ c.clauses (i : Int)).resume == k then { m1 with paused := false } else m1) = m2 at *
  rw [← e1, ← e2]
  split
  · exact counted_st
  · exact .inl rfl
theorem novMark_st {c : Contract} {a : ActT} {i : Nat} {m : Mark} : (novMark c a i m).status = m.status := by unfold novMark; split <;> rfl
theorem midM_st {c : Contract} {s : State} {k : Int} {i : Nat} {m : Mark} : (midM c s k i m).status = m.status ∨ ((midM c s k i m).status ≠ 0 ∧ (midM c s k i m).status ≠ 1) := by
  unfold midM dayM actM
  split
  · split
    · exact dayMark_st
    · exact .inl rfl
  · split
    · exact .inl rfl
    · have h1 : (if runs m then actMark c k (doer c s k) i m else m).status = m.status ∨ ((if runs m then actMark c k (doer c s k) i m else m).status ≠ 0 ∧ (if runs m then actMark c k (doer c s k) i m else m).status ≠ 1) := by
        split
        · rcases actMark_st (c := c) (k := k) (w := doer c s k) (i := i) (m := m) with h | h | h
          · exact .inl h
          · exact .inr (by omega)
          · exact .inr (by omega)
        · exact .inl rfl
      generalize (if runs m then actMark c k (doer c s k) i m else m) = m1 at *
      simp only
      split
      · split
        · rw [novMark_st]; exact h1
        · exact h1
      · exact h1
theorem Core.role {c : Contract} {s : State} (h : Core c s) {a : Int} (ha : 0 ≤ a ∧ a < len c.acts) (hr : (at_ c.acts a).role ≠ -1) : 0 ≤ (at_ c.acts a).role ∧ (at_ c.acts a).role < len s.holders := by
  have := act_role ((valid2_ok h.con).acts _ (at_act ha.1 ha.2)) hr
  have hl := h.hl
  simp only [len] at this ⊢
  omega
theorem Core.give {c : Contract} {s : State} (h : Core c s) {a : Int} (ha : 0 ≤ a ∧ a < len c.acts) (hk : (at_ c.acts a).kind ≠ 1) : 0 ≤ (at_ c.acts a).give ∧ (at_ c.acts a).give < len s.holders := by
  have := (act_moves ((valid2_ok h.con).acts _ (at_act ha.1 ha.2)) hk).2.2.1
  have hl := h.hl
  simp only [len] at this ⊢
  omega
theorem Core.running {c : Contract} {s : State} (h : Core c s) {i : Nat} (hi : i < c.clauses.length) (hr : runs (at_ s.marks (i : Int)) = true) : Run c (at_ c.clauses (i : Int)) (at_ s.marks (i : Int)) :=
  (wf_run (runs_iff.1 hr)).1 (h.marks i (by rw [h.ml]; exact hi))
theorem off_len {days : Int} : ∀ (l : List Int) (last : Int), last < days → offOk days last l = true → (l.length : Int) ≤ days - 1 - last
  | [], last, h0, _ => by simp only [List.length_nil]; omega
  | d :: l, last, h0, h => by
    unfold offOk at h
    split at h
    · cases h
    rename_i h1
    simp only [Bool.or_eq_true, decide_eq_true_eq, not_or] at h1
    have := off_len l d (by omega) h
    simp only [List.length_cons]
    omega
theorem begin_eq {c : Contract} {s : State} (hl : s.marks.length = c.clauses.length) : begin_ c s = { s with marks := (begin_ c s).marks } := by
  obtain ⟨ms, h1, _⟩ := begin_spec (c := c) (s := s) hl; rw [h1]
theorem begin_len {c : Contract} {s : State} (hl : s.marks.length = c.clauses.length) : (begin_ c s).marks.length = s.marks.length := by
  obtain ⟨ms, h1, h2, _⟩ := begin_spec (c := c) (s := s) hl; rw [h1]; exact h2.len
end Es
end
section
/-
  What the statements about states ask, as plain functions.
-/
namespace Es
def small (c : Contract) (n : Int) : Bool :=
  if decide (20 < len c.holders) || decide (30 < len c.units) || decide (70 < len c.acts) || decide (n < len c.clauses) || decide (100 < len c.off) then false
  else c.clauses.all fun x => decide (len x.start ≤ 20)
def few (s : State) : Bool := decide (len s.holders ≤ 20) && decide (len s.used ≤ 70) && decide (len s.marks ≤ 60)
def endedB (m : Mark) : Bool := m.status == 3 || m.status == 4 || m.status == 5
def holdsB (ms : List Mark) (x : Cond) : Bool := if x.is == 1 then (at_ ms x.clause).status != 0 else (at_ ms x.clause).status == x.is + 1
def countsB (c : Contract) (x : Clause) (m : Mark) (day : Int) : Bool := if !runs m || m.paused then false else !c.off.any fun d => d == day && x.business
def fitsB (c : Contract) (s t : State) : Bool :=
  (len s.marks == len c.clauses && len s.holders == len c.holders && len s.used == len c.acts) && len t.marks == len s.marks && len t.holders == len s.holders && len t.used == len s.used
def runL (c : Contract) (l : List Int) : State × Int := l.foldl (fun p k => if p.2 == 0 then step c p.1 k else p) (start c)
theorem runL_stop {c : Contract} {p : State × Int} (h : ¬ (p.2 == 0) = true) : ∀ l : List Int, l.foldl (fun (p : State × Int) k => if p.2 == 0 then step c p.1 k else p) p = p
  | [] => rfl
  | k :: l => by
    simp only [List.foldl_cons]
    rw [if_neg h]
    exact runL_stop h l
theorem sfits_nil : SFits ⟨0, [], [], []⟩ := ⟨by simp, by simp, by simp⟩
theorem sfits_core {c : Contract} {s : State} (h : Core c s) : SFits s := by
  have hv := (valid2_ok h.con).small
  exact ⟨by have := h.hl; omega, by have := h.ul; omega, by have := h.ml; omega⟩
theorem sfits_step (c : Contract) (s : State) (k : Int) : SFits (step c s k).1 := by
  by_cases h : (step c s k).2 = 0
  · exact sfits_core (sValid_iff.1 (step_ok h).valid).1
  · unfold step at h ⊢
    split
    · exact sfits_nil
    · split
      · exact sfits_nil
      · rename_i h1 h2
        rw [if_neg h1, if_neg h2] at h; exact absurd rfl h
theorem sfits_start (c : Contract) : SFits (start c).1 := by
  unfold start
  split
  · exact sfits_nil
  · rename_i h
    have h' : (valid2 c).1 = 0 := by simpa using h
    exact sfits_core (sValid_iff.1 (start_valid h')).1
theorem sfits_run (c : Contract) (l : List Int) : SFits (runL c l).1 := by
  have key : ∀ (l : List Int) (p : State × Int), SFits p.1 → SFits (l.foldl (fun (p : State × Int) k => if p.2 == 0 then step c p.1 k else p) p).1 := by
    intro l
    induction l with
    | nil => exact fun _ h => h
    | cons k l ih =>
      intro p h
      simp only [List.foldl_cons]
      split
      · exact ih _ (sfits_step c p.1 k)
      · exact ih _ h
  exact key l _ (sfits_start c)
/-- The contract of the chapter's example. -/
def sample : Contract :=
  ⟨2, [0, 1], [], [⟨1, 0, 0, -1, -1, ⟨0, 1⟩⟩, ⟨1, 1, 0, -1, -1, ⟨0, 1⟩⟩],
    [⟨1, 0, 0, 1, [], 2, 1, false, true, -1, -1, ⟨0, 1⟩, -1, -1, false⟩, ⟨2, 1, 1, 1, [⟨0, 2⟩], 3, 0, false, false, -1, -1, ⟨0, 1⟩, -1, -1, false⟩], 9, []⟩
theorem sample_fits : Fits sample := ⟨by decide, by decide, by decide, by decide, by decide⟩
def sA : State := ⟨0, [0, 1], [false, false], [⟨1, 2, 0, 0, false⟩, ⟨0, 0, 0, -1, false⟩]⟩
def sB : State := ⟨0, [0, 1], [false, false], [⟨3, 0, 1, 0, false⟩, ⟨1, 3, 0, 1, false⟩]⟩
def sD : State := ⟨2, [0, 1], [false, false], [⟨2, 1, 0, 0, false⟩, ⟨0, 0, 0, -1, false⟩]⟩
def sK : State := ⟨3, [0, 1], [false, false], [⟨4, 0, 0, 0, false⟩, ⟨0, 0, 0, -1, false⟩]⟩
def sM : State := ⟨0, [0, 1], [false, false], [⟨3, 0, 1, 0, false⟩, ⟨4, 0, 0, 1, false⟩]⟩
theorem runA : runL sample [] = (sA, 0) := by rfl
theorem runB : runL sample [0] = (sB, 0) := by rfl
theorem runD : runL sample [-1, -1] = (sD, 0) := by rfl
theorem runK : runL sample [-1, -1, -1] = (sK, 0) := by rfl
theorem runM : runL sample [0, 1] = (sM, 0) := by rfl
theorem breK0 : breach sample sK 0 = true := by rfl
theorem breK1 : breach sample sK 1 = false := by rfl
theorem breM1 : breach sample sM 1 = false := by rfl
theorem sfK : SFits sK := ⟨by decide, by decide, by decide⟩
theorem sfM : SFits sM := ⟨by decide, by decide, by decide⟩
end Es
end
section
namespace Go.Proofs
open Go Go.Abs
set_option linter.unusedSimpArgs false
set_option maxRecDepth 10000

def Tryz.gl : Nat → Option D
  | 1 => some (.rp 2 (ratC Es.wholeR) 0)
  | 0 => some (.rp 2 (ratC Es.noneR) 0)
  | _ => none
@[go_sem] theorem Tryz.gl_whole : Tryz.gl 1 = some (.rp 2 (ratC Es.wholeR) 0) := nr rfl
@[go_sem] theorem Tryz.gl_none : Tryz.gl 0 = some (.rp 2 (ratC Es.noneR) 0) := nr rfl
noncomputable def Tryz.M : Ctx := { P := Tryz.prog, G := Tryz.gl, X := fun _ _ => False, N := 0, r := none, b := 0 }
@[go_sem] theorem Tryz.M_P : Tryz.M.P = Tryz.prog := nr rfl
@[go_sem] theorem Tryz.M_G : Tryz.M.G = Tryz.gl := nr rfl
theorem Tryz.gpu (g : Nat) (x : D) (h : Tryz.M.G g = some x) : Pu x := by
  rw [Tryz.M_G] at h
  unfold Tryz.gl at h
  split at h <;> first
    | (cases h; done)
    | (simp only [Option.some.injEq] at h; subst h; exact pu_rp (pu_ratC _))

namespace Tryz
theorem under_spec (i n : Int) : APure M 85 [.v (.int .i64 i), .v (.int .i64 n)] (.v (.bool (Es.under i n))) := by
  refine pure_of gpu func85 rfl results85 ntmps85 (by simp) ⟨.v _, .v _, trivial⟩ ?_
  intro b
  simp only [go_sem, ↓reduceIte, reduceCtorEq, Nat.reduceEqDiff, Nat.reduceLT, Nat.reduceLeDiff, Nat.reduceAdd, Nat.reduceSub, Nat.reduceMul, Nat.reduceGT, Int.reduceNeg, Int.reduceToNat]
  split <;> simp_all [Es.under] <;> omega

theorem within_spec (i l h : Int) : APure M 87 [.v (.int .i64 i), .v (.int .i64 l), .v (.int .i64 h)] (.v (.bool (Es.within i l h))) := by
  refine pure_of gpu func87 rfl results87 ntmps87 (by simp) ⟨.v _, .v _, .v _, trivial⟩ ?_
  intro b
  simp only [go_sem, ↓reduceIte, reduceCtorEq, Nat.reduceEqDiff, Nat.reduceLT, Nat.reduceLeDiff, Nat.reduceAdd, Nat.reduceSub, Nat.reduceMul, Nat.reduceGT, Int.reduceNeg, Int.reduceToNat]
  split <;> simp_all [Es.within] <;> omega

theorem moves_spec (a : Es.ActT) : APure M 105 [actD a] (.v (.bool (Es.moves a))) := by
  refine pure_of gpu func105 rfl results105 ntmps105 (by simp) ⟨pu_actD _, trivial⟩ ?_
  intro b
  simp only [go_sem, ↓reduceIte, reduceCtorEq, Nat.reduceEqDiff, Nat.reduceLT, Nat.reduceLeDiff, Nat.reduceAdd, Nat.reduceSub, Nat.reduceMul, Nat.reduceGT, Int.reduceNeg, Int.reduceToNat]
  split <;> simp_all [Es.moves]

theorem natural_spec (c : Es.Contract) (a : Int) : APure M 86 [conD c, .v (.int .i64 a)] (.v (.bool (Es.natural c a))) := by
  refine pure_of gpu func86 rfl results86 ntmps86 (by simp) ⟨pu_conD _, .v _, trivial⟩ ?_
  intro b
  simp only [go_sem, ↓reduceIte, reduceCtorEq, Nat.reduceEqDiff, Nat.reduceLT, Nat.reduceLeDiff, Nat.reduceAdd, Nat.reduceSub, Nat.reduceMul, Nat.reduceGT, Int.reduceNeg, Int.reduceToNat]
  refine call_at M_P M_G (under_spec _ _) ?_
  simp only [go_sem, ↓reduceIte, reduceCtorEq, Nat.reduceEqDiff, Nat.reduceLT, Nat.reduceLeDiff, Nat.reduceAdd, Nat.reduceSub, Nat.reduceMul, Nat.reduceGT, Int.reduceNeg, Int.reduceToNat]
  simp only [Es.natural, Es.under]
  repeat' (first | split | apply And.intro)
  all_goals simp_all <;> omega
end Tryz
end Go.Proofs
end
section
namespace Go.Proofs
open Go Go.Abs Go.ChangeShapes Go.WideShapes Go.ChangeAt Go.RowKit
set_option linter.unusedSimpArgs false
set_option linter.unusedVariables false
set_option maxRecDepth 100000
/-- Arguments read behind the call as they did. -/
theorem args_stay {H : Type} {enc : TypeId × Value → H} {P : Program} (hl : laidOutB P = true) {W W' : World} (hb : Below W.heap.size W W') {sp : Nat → Bool} : ∀ {ts : List TypeId} {vs : List Value} {ds : List (DataW H)} {p : List MemPlace},
    (∀ t ∈ ts, P.readableRec t = true ∧ t < P.types.size) → DataW.TrodAll enc P W 0 (fun _ => true) true ts vs ds p → (∀ x ∈ p, x.block < W.heap.size) → (∀ x ∈ p, sp x.block = true) → DataW.TrodAll enc P W' 0 sp true ts vs ds p
  | [], _, _, _, _, h, _, _ => by obtain ⟨rfl, rfl, rfl⟩ := trodAll_nil h; rfl
  | t :: ts, _, _, _, ht, h, hlt, hsp => by
    obtain ⟨v, vs, d, ds, a, b, rfl, rfl, rfl, h1, h2⟩ := trodAll_cons h
    have h3 := ht t (by simp)
    exact ⟨a, b, WideElems.Trod_stays hl h3.1 h3.2 h1 (fun x hx => hb.same (hlt x (by simp [hx]))) (fun x hx => hsp x (by simp [hx])),
      args_stay hl hb (fun t ht' => ht t (by simp [ht'])) h2 (fun x hx => hlt x (by simp [hx])) (fun x hx => hsp x (by simp [hx])), rfl⟩
theorem okWide_agg {P : Program} {W : World} {r : Reach} {b : Nat} {t : TypeId} {fs : Array Field} {v : Value} (ht : P.underlying t = some (.struct fs)) (h : Value.okWide P W r b t v) : ∃ cs : List Value, v = .agg cs.toArray := by
  simp only [Value.okWide, ht] at h
  obtain ⟨cs, rfl, _⟩ := h
  exact ⟨cs.toList, by simp⟩
namespace Tryz
theorem rowLaidOut : laidOutB prog = true := by kernel_rfl
theorem own : ownKnob prog.godebug = none := by kernel_rfl
section
variable {H : Type} {enc : TypeId × Value → H} {W : World} {spare : Nat → Bool} {held : Bool} {r : Reach} {b : Nat} {v : Value} {d : DataW H} {p : List MemPlace}
theorem arg_contract (hv : Value.okWide prog W r b 27 v) (h : DataW.Trod enc prog W 0 spare held 27 v d p) : ∃ c : Es.Contract, Es.Fits c ∧ (cfg0 W).Rep (conD c) v := by
  obtain ⟨cs, rfl⟩ := okWide_agg underlying27 hv
  obtain ⟨fuel, hf⟩ := h
  have hm : maxLen ≤ 9223372036854775807 := by decide
  obtain ⟨c, h1, h2, h3, h4, h5, h6⟩ := rd_contract (show Treads enc prog W spare held fuel 27 cs (d, p) from hf)
  refine ⟨c, ⟨by omega, by omega, by omega, by omega, by omega⟩, agg_of_row (row := conC c) h6 fun i d hi => ?_⟩
  rcases i with _ | _ | _ | _ | _ | _ | _ | i <;> first | (simp at hi; subst hi; rfl) | (simp at hi)
theorem arg_state (hv : Value.okWide prog W r b 38 v) (h : DataW.Trod enc prog W 0 spare held 38 v d p) : ∃ s : Es.State, Es.SFits s ∧ (cfg0 W).Rep (staD s) v := by
  obtain ⟨cs, rfl⟩ := okWide_agg underlying38 hv
  obtain ⟨fuel, hf⟩ := h
  have hm : maxLen ≤ 9223372036854775807 := by decide
  obtain ⟨s, h1, h2, h3, h6⟩ := rd_state (show Treads enc prog W spare held fuel 38 cs (d, p) from hf)
  refine ⟨s, ⟨by omega, by omega, by omega⟩, agg_of_row (row := staC s) h6 fun i d hi => ?_⟩
  rcases i with _ | _ | _ | _ | i <;> first | (simp at hi; subst hi; rfl) | (simp at hi)
theorem arg_int (hv : Value.okWide prog W r b 3 v) (h : DataW.Trod enc prog W 0 spare held 3 v d p) : ∃ n : Int, (-9223372036854775808 ≤ n ∧ n ≤ 9223372036854775807) ∧ (cfg0 W).Rep (.v (.int .i64 n)) v := by
  obtain ⟨n, rfl, _, _, hw⟩ := open_int underlying3 hv h
  refine ⟨n, ?_, .v _⟩
  simp only [Lit.wf, IntKind.min, IntKind.max, IntKind.signed, IntKind.bits, Bool.and_eq_true, decide_eq_true_eq] at hw
  simp at hw
  omega
theorem arg_u8 (hv : Value.okWide prog W r b 5 v) (h : DataW.Trod enc prog W 0 spare held 5 v d p) : ∃ n : Int, (0 ≤ n ∧ n ≤ 255) ∧ (cfg0 W).Rep (.v (.int .u8 n)) v := by
  obtain ⟨n, rfl, _, _, hw⟩ := open_int underlying5 hv h
  refine ⟨n, ?_, .v _⟩
  simp only [Lit.wf, IntKind.min, IntKind.max, IntKind.signed, IntKind.bits, Bool.and_eq_true, decide_eq_true_eq] at hw
  simp at hw
  omega
theorem arg_u16 (hv : Value.okWide prog W r b 51 v) (h : DataW.Trod enc prog W 0 spare held 51 v d p) : ∃ n : Int, (0 ≤ n ∧ n ≤ 65535) ∧ (cfg0 W).Rep (.v (.int .u16 n)) v := by
  obtain ⟨n, rfl, _, _, hw⟩ := open_int underlying51 hv h
  refine ⟨n, ?_, .v _⟩
  simp only [Lit.wf, IntKind.min, IntKind.max, IntKind.signed, IntKind.bits, Bool.and_eq_true, decide_eq_true_eq] at hw
  simp at hw
  omega
theorem arg_patch (hv : Value.okWide prog W r b 34 v) (h : DataW.Trod enc prog W 0 spare held 34 v d p) : ∃ x : Es.Patch, True ∧ (cfg0 W).Rep (patD x) v := by
  obtain ⟨cs, rfl⟩ := okWide_agg underlying34 hv
  obtain ⟨fuel, hf⟩ := h
  obtain ⟨x, _, h6⟩ := rd_patch (show Treads enc prog W spare held fuel 34 cs (d, p) from hf)
  refine ⟨x, trivial, agg_of_row (row := patC x) h6 fun i d hi => ?_⟩
  rcases i with _ | _ | _ | _ | _ | _ | _ | _ | _ | _ | _ | _ | _ | _ | _ | _ | _ | _ | _ | i <;> first | (simp at hi; subst hi; rfl) | (simp at hi)
theorem cells_one {v : Value} (h : ∀ cs, v ≠ .agg cs) : v.cells = #[v] := by
  cases v <;> first | rfl | exact absurd rfl (h _)
theorem arg_ints (hv : Value.okWide prog W r b 22 v) (h : DataW.Trod enc prog W 0 spare held 22 v d p) : ∃ l : List Int, l.length ≤ maxLen ∧ (cfg0 W).Rep (slD 1 intC l) v := by
  have hc : v.cells = #[v] := cells_one fun cs he => by
    subst he
    simp [Value.okWide, underlying22, Cell.okWide, Cell.ok] at hv
  obtain ⟨fuel, hf⟩ := h
  rw [hc] at hf
  obtain ⟨l, h1, h2⟩ := rd_slice (f := intC) underlying22 c_int (by decide) (fun _ _ _ h => rd_i h) (show Treads enc prog W spare held fuel 22 [v] (d, p) from hf)
  exact ⟨l, h1, (h2.2 0 (by decide)).2⟩
theorem arg_amends (hv : Value.okWide prog W r b 70 v) (h : DataW.Trod enc prog W 0 spare held 70 v d p) : ∃ l : List Es.Amend, l.length ≤ 9223372036854775807 ∧ (cfg0 W).Rep (slD 22 amdC l) v := by
  have hc : v.cells = #[v] := cells_one fun cs he => by
    subst he
    simp [Value.okWide, underlying70, Cell.okWide, Cell.ok] at hv
  obtain ⟨fuel, hf⟩ := h
  rw [hc] at hf
  have hm : maxLen ≤ 9223372036854775807 := by decide
  obtain ⟨l, h1, h2⟩ := rd_slice (f := amdC) underlying70 c_amend (by decide) (fun _ _ _ h => rd_amend h) (show Treads enc prog W spare held fuel 70 [v] (d, p) from hf)
  exact ⟨l, by omega, (h2.2 0 (by decide)).2⟩
end
/-- The laid variables. -/
def laidL : List (String × DataW Unit) := Go.Proofs.YtfhmokhaegdddaaGreatDoor.Rows.migrateKeepsRow.laid
theorem door_met (os : Os) (args : Array Value) : laidMetH prog laidL ((World.doorLaid prog 400 os).forCall (fun _ _ => 0) ⟨#[], args, []⟩).memory :=
  laidMetH_of_parts3 (fuel := 8) (laidMet_of_run' 8 (by kernel_rfl) (by kernel_rfl)) (by kernel_rfl) (by kernel_rfl)
theorem glob_ratio {W : World} {name : String} {g : Nat} {n m : Int} {t fuel : Nat} {cs : Array Value} {p : List MemPlace} (ht : t = 30) (hg : prog.globalNamed name = some g) (hv : W.var? prog name = some cs)
    (hd : DataW.trod (fun _ => ()) prog W 0 (fun _ => true) false fuel t cs.toList = some (.agg [.lit (.int .i64 n), .lit (.int .i64 m)], p)) : (cfg0 W).Rep (.rp 2 (ratC ⟨n, m⟩) 0) (.pointer (some ⟨g, 0, none⟩)) := by
  subst ht
  obtain ⟨xs, k, _, hx, hl, hxl, hf⟩ := DataW.trod_struct underlying30 hd
  rw [c_ratio] at hl
  have f0 : DataW.trod (fun _ => ()) prog W 0 (fun _ => true) false k 3 ((cs.toList.drop 0).take (prog.cellsOf 3)) = xs[0]? := hf 0 _ rfl
  have f1 : DataW.trod (fun _ => ()) prog W 0 (fun _ => true) false k 3 ((cs.toList.drop 1).take (prog.cellsOf 3)) = xs[1]? := hf 1 _ rfl
  rw [c_int] at f0 f1
  match xs, hxl with
  | [x0, x1], _ =>
    obtain ⟨n', h1, h2, _⟩ := DataW.trod_int underlying3 f0
    obtain ⟨m', k1, k2, _⟩ := DataW.trod_int underlying3 f1
    simp only [List.map_cons, List.map_nil, Prod.mk.injEq, DataW.agg.injEq, List.cons.injEq, and_true] at hx
    rw [h2, k2] at hx
    obtain ⟨⟨hx1, hx2⟩, _⟩ := hx
    simp only [DataW.lit.injEq, Lit.int.injEq, true_and] at hx1 hx2
    subst hx1 hx2
    obtain ⟨l⟩ := cs
    match l, hl with
    | [c0, c1], _ =>
      simp only [List.drop_zero, List.take_succ_cons, List.take_zero, List.drop_succ_cons, List.cons.injEq, and_true] at h1 k1
      subst h1 k1
      refine rp_of_row (xs := [.int .i64 n, .int .i64 m]) ⟨rfl, fun j hj => ?_⟩ (by decide) fun i => by simpa using World.var?_cell hg hv i
      have : j = 0 ∨ j = 1 := by omega
      rcases this with rfl | rfl <;> exact ⟨rfl, .v _⟩
theorem glob_ok {W : World} (h : laidMetH prog laidL W) : ∀ g d, M.G g = some d → (cfg0 W).Rep d (.pointer (some ⟨g, 0, none⟩)) := by
  rw [MakeChecks.laidMetH_plain _ _ _ (by kernel_rfl)] at h
  obtain ⟨ps, ⟨g0, t0, cs0, f0, p0, q0, hg0, ht0, hv0, hd0, ⟨g1, t1, cs1, f1, p1, q1, hg1, ht1, hv1, hd1, _, _⟩, _⟩, _, _⟩ := h
  obtain rfl := Option.some.inj ((show prog.globalNamed _ = some 1 by kernel_rfl).symm.trans hg0)
  obtain rfl := Option.some.inj ((show prog.globalNamed _ = some 0 by kernel_rfl).symm.trans hg1)
  have e0 := Option.some.inj ((show (prog.globals[1]?).map (·.type) = some 30 by kernel_rfl).symm.trans ht0)
  have e1 := Option.some.inj ((show (prog.globals[0]?).map (·.type) = some 30 by kernel_rfl).symm.trans ht1)
  have r0 := glob_ratio e0.symm hg0 hv0 hd0
  have r1 := glob_ratio e1.symm hg1 hv1 hd1
  intro g d hg
  rw [M_G] at hg
  unfold gl at hg
  split at hg
  · simp only [Option.some.injEq] at hg; subst hg; exact r0
  · simp only [Option.some.injEq] at hg; subst hg; exact r1
  · cases hg
end Tryz
end Go.Proofs
end
section
namespace Go.Proofs
open Go Go.Abs
set_option linter.unusedSimpArgs false
set_option maxRecDepth 10000
namespace Tryz
theorem mix : Tryz.prog.follows .mixedOrders = true := by kernel_rfl

theorem mag_spec (n : Int) : APure M 120 [.v (.int .i64 n)] (.v (.int .u64 (Es.mag n))) := by
  refine pure_of gpu func120 rfl results120 ntmps120 (by simp) ⟨.v _, trivial⟩ ?_
  intro b
  simp only [go_sem, ↓reduceIte, reduceCtorEq, Nat.reduceEqDiff, Nat.reduceLT, Nat.reduceLeDiff, Nat.reduceAdd, Nat.reduceSub, Nat.reduceMul, Nat.reduceGT, Int.reduceNeg, Int.reduceToNat]
  simp only [wrap_u64, Es.mag]
  split <;> simp_all
theorem common_spec (l : List Nat) (hl : l.length ≤ 9223372036854775807) : APure M 121 [slD 1 u64C l] (.v (.int .u64 (l.foldl Nat.gcd 0 : Nat))) := by
  refine pure_of gpu func121 rfl results121 ntmps121 (by simp) ⟨pu_slD pu_u64C _, trivial⟩ ?_
  intro b
  simp only [go_sem, ↓reduceIte, reduceCtorEq, Nat.reduceEqDiff, Nat.reduceLT, Nat.reduceLeDiff, Nat.reduceAdd, Nat.reduceSub, Nat.reduceMul, Nat.reduceGT, Int.reduceNeg, Int.reduceToNat]
  refine awp_count l.length (fun i e s => e 6 = slD 1 u64C l ∧ e 7 = .v (.int .i64 (Es.len l)) ∧ e 8 = .v (.int .i64 i) ∧ e 3 = .v (.int .u64 ((l.take i).foldl Nat.gcd 0 : Nat))) ?_ ?_
  · rintro i e s hi ⟨h6, h7, h8, h3⟩
    simp only [go_sem, ↓reduceIte, reduceCtorEq, Nat.reduceEqDiff, Nat.reduceLT, Nat.reduceLeDiff, Nat.reduceAdd, Nat.reduceSub, Nat.reduceMul, Nat.reduceGT, Int.reduceNeg, Int.reduceToNat, h6, h7, h8, h3]
    split
    · rename_i hlt
      have hlt' : i < l.length := by simpa [Es.len] using hlt
      refine ⟨⟨by omega, hlt⟩, ?_⟩
      refine awp_loopA (fun n e s => ∃ g x : Nat, n = x ∧ e 6 = slD 1 u64C l ∧ e 7 = .v (.int .i64 (Es.len l)) ∧ e 8 = .v (.int .i64 i) ∧ e 3 = .v (.int .u64 g) ∧ e 5 = .v (.int .u64 x) ∧ Nat.gcd x g = ((l.take (i + 1)).foldl Nat.gcd 0 : Nat)) ?_ (n := Es.at_ l i) ?_
      · rintro n e s ⟨g, x, rfl, h6, h7, h8, h3, h5, hg⟩
        simp only [go_sem, ↓reduceIte, reduceCtorEq, Nat.reduceEqDiff, Nat.reduceLT, Nat.reduceLeDiff, Nat.reduceAdd, Nat.reduceSub, Nat.reduceMul, Nat.reduceGT, Int.reduceNeg, Int.reduceToNat, h6, h7, h8, h3, h5]
        split
        · rename_i hx
          have hx' : n ≠ 0 := by simpa using hx
          refine awp_plan ((.op 0 (.op 1 (.op 2 (.op 3 (.op 4 (.op 5 .done))))))) [] mix (by kernel_rfl) ?_
          simp only [go_sem, ↓reduceIte, reduceCtorEq, Nat.reduceEqDiff, Nat.reduceLT, Nat.reduceLeDiff, Nat.reduceAdd, Nat.reduceSub, Nat.reduceMul, Nat.reduceGT, Int.reduceNeg, Int.reduceToNat, h6, h7, h8, h3, h5]
          refine ⟨by omega, g % n, Nat.mod_lt _ (by omega), n, g % n, rfl, ?_⟩
          simp only [go_sem, ↓reduceIte, reduceCtorEq, Nat.reduceEqDiff, Nat.reduceLT, Nat.reduceLeDiff, Nat.reduceAdd, Nat.reduceSub, Nat.reduceMul, Nat.reduceGT, Int.reduceNeg, Int.reduceToNat, h6, h7, h8, h3, h5]
          refine ⟨by rw [← Int.ofNat_tmod], ?_⟩
          rw [← hg, Nat.gcd_rec n g]
        · rename_i hx
          have hx' : n = 0 := by simpa using hx
          subst hx'
          refine ⟨hlt', ?_⟩
          simp only [go_sem, ↓reduceIte, reduceCtorEq, Nat.reduceEqDiff, Nat.reduceLT, Nat.reduceLeDiff, Nat.reduceAdd, Nat.reduceSub, Nat.reduceMul, Nat.reduceGT, Int.reduceNeg, Int.reduceToNat, h6, h7, h8, h3, h5]
          rw [wrap_i64 _ (by omega) (by omega)]
          refine ⟨by simp, ?_⟩
          rw [← hg]; simp
      · simp only [go_sem, ↓reduceIte, reduceCtorEq, Nat.reduceEqDiff, Nat.reduceLT, Nat.reduceLeDiff, Nat.reduceAdd, Nat.reduceSub, Nat.reduceMul, Nat.reduceGT, Int.reduceNeg, Int.reduceToNat, h6, h7, h8, h3]
        refine ⟨_, _, rfl, rfl, rfl, ?_⟩
        rw [List.take_succ_eq_append_getElem hlt', List.foldl_append, Es.at_nat hlt']
        simp [Nat.gcd_comm]
    · rename_i hlt
      have : i = l.length := by simp [Es.len] at hlt; omega
      subst this
      simp
  · simp only [go_sem, ↓reduceIte, reduceCtorEq, Nat.reduceEqDiff, Nat.reduceLT, Nat.reduceLeDiff, Nat.reduceAdd, Nat.reduceSub, Nat.reduceMul, Nat.reduceGT, Int.reduceNeg, Int.reduceToNat]
    simp
theorem fz_two {o : St} {nx f : Nat} {ty : TypeId} (a b : Es.Ratio) : Fz ⟨St.set o f 0 (some (.blk 1 2 ty (litCell [.int .u64 0] [(0, [.v (.int .u64 (Es.mag a.num))]), (1, [.v (.int .u64 (Es.mag b.den))])]))), nx⟩ (.ms f 0 1 0 2) (slD 1 u64C [(Es.mag a.num).toNat, (Es.mag b.den).toNat]) := by
  refine fz_ms (St_set_self _ _ _ _) rfl pu_u64C fun r c hr hc => ?_
  have hc0 : c = 0 := by omega
  subst hc0
  simp only [List.length_cons, List.length_nil] at hr
  have : r = 0 ∨ r = 1 := by omega
  rcases this with rfl | rfl <;> simp only [go_sem, ↓reduceIte, reduceCtorEq, Nat.reduceEqDiff, Nat.reduceLT, Nat.reduceLeDiff, Nat.reduceAdd, Nat.reduceSub, Nat.reduceMul, Nat.reduceGT, Int.reduceNeg, Int.reduceToNat] <;> simp [Int.toNat_of_nonneg (Es.mag_nonneg _)]
theorem ratValid_spec (a : Es.Ratio) : APure M 106 [ratD a] (.v (.bool (Es.ratValid a))) := by
  refine pure_of gpu func106 rfl results106 ntmps106 (by simp) ⟨pu_ratD _, trivial⟩ ?_
  intro b
  simp only [go_sem, ↓reduceIte, reduceCtorEq, Nat.reduceEqDiff, Nat.reduceLT, Nat.reduceLeDiff, Nat.reduceAdd, Nat.reduceSub, Nat.reduceMul, Nat.reduceGT, Int.reduceNeg, Int.reduceToNat]
  refine awp_plan ((.op 0 (.op 1 (.op 2 (.op 3 (.op 4 (.op 5 (.op 6 (.op 7 (.op 8 (.op 9 (.op 10 (.op 11 (.op 12 (.op 13 (.op 14 (.op 15 (.op 16 (.op 18 (.op 19 (.op 17 (.op 20 (.op 21 (.op 22 (.op 23 (.op 24 (.op 25 .done))))))))))))))))))))))))))) [] mix (by kernel_rfl) ?_
  simp only [go_sem, ↓reduceIte, reduceCtorEq, Nat.reduceEqDiff, Nat.reduceLT, Nat.reduceLeDiff, Nat.reduceAdd, Nat.reduceSub, Nat.reduceMul, Nat.reduceGT, Int.reduceNeg, Int.reduceToNat]
  have hc := common_spec [(Es.mag a.num).toNat, (Es.mag a.den).toNat] (by simp)
  repeat' (first | ((with_reducible refine call_at M_P M_G (mag_spec _) ?_); simp only [go_sem, ↓reduceIte, reduceCtorEq, Nat.reduceEqDiff, Nat.reduceLT, Nat.reduceLeDiff, Nat.reduceAdd, Nat.reduceSub, Nat.reduceMul, Nat.reduceGT, Int.reduceNeg, Int.reduceToNat]) | ((with_reducible apply lend_at M_P M_G (hc) gpu (Flat.v _)); (exact ⟨fz_two _ _, trivial⟩); simp only [go_sem, ↓reduceIte, reduceCtorEq, Nat.reduceEqDiff, Nat.reduceLT, Nat.reduceLeDiff, Nat.reduceAdd, Nat.reduceSub, Nat.reduceMul, Nat.reduceGT, Int.reduceNeg, Int.reduceToNat]) | (with_reducible refine And.intro ?_ ?_) | ((with_reducible refine ite_cases ?_ ?_) <;> intro _))
  all_goals first
    | trivial
    | first | (simp [Es.ratValid, *]; done) | (simp [Es.ratValid, *]; omega) | (simp_all [Es.ratValid]; done) | (simp_all [Es.ratValid]; omega)
    | (rw [show List.foldl Nat.gcd 0 [(Es.mag a.num).toNat, (Es.mag a.den).toNat] = Nat.gcd (Es.mag a.num).toNat (Es.mag a.den).toNat by simp]
       simp [Es.ratValid, *]; rw [Bool.eq_iff_iff]; simp; omega)

theorem positive_spec (a : Es.Ratio) : APure M 88 [ratD a] (.v (.bool (Es.positive a))) := by
  refine pure_of gpu func88 rfl results88 ntmps88 (by simp) ⟨pu_ratD _, trivial⟩ ?_
  intro b
  simp only [go_sem, ↓reduceIte, reduceCtorEq, Nat.reduceEqDiff, Nat.reduceLT, Nat.reduceLeDiff, Nat.reduceAdd, Nat.reduceSub, Nat.reduceMul, Nat.reduceGT, Int.reduceNeg, Int.reduceToNat]
  repeat' (first | ((with_reducible refine call_at M_P M_G (ratValid_spec _) ?_); simp only [go_sem, ↓reduceIte, reduceCtorEq, Nat.reduceEqDiff, Nat.reduceLT, Nat.reduceLeDiff, Nat.reduceAdd, Nat.reduceSub, Nat.reduceMul, Nat.reduceGT, Int.reduceNeg, Int.reduceToNat]) | (with_reducible refine And.intro ?_ ?_) | ((with_reducible refine ite_cases ?_ ?_) <;> intro _))
  all_goals first | (simp [Es.positive, *]; done) | (simp [Es.positive, *]; omega) | (simp_all [Es.positive]; done) | (simp_all [Es.positive]; omega)

theorem role_spec (c : Es.Contract) (r : Int) : APure M 104 [.v (.int .i64 r), .rp 7 (conC c) 0] (.v (.bool (Es.role c r))) := by
  refine pure_of gpu func104 rfl results104 ntmps104 (by simp) ⟨.v _, pu_rp (pu_conC c), trivial⟩ ?_
  intro b
  simp only [go_sem, ↓reduceIte, reduceCtorEq, Nat.reduceEqDiff, Nat.reduceLT, Nat.reduceLeDiff, Nat.reduceAdd, Nat.reduceSub, Nat.reduceMul, Nat.reduceGT, Int.reduceNeg, Int.reduceToNat]
  repeat' (first | ((with_reducible refine call_at M_P M_G (under_spec _ _) ?_); simp only [go_sem, ↓reduceIte, reduceCtorEq, Nat.reduceEqDiff, Nat.reduceLT, Nat.reduceLeDiff, Nat.reduceAdd, Nat.reduceSub, Nat.reduceMul, Nat.reduceGT, Int.reduceNeg, Int.reduceToNat]) | (with_reducible refine And.intro ?_ ?_) | ((with_reducible refine ite_cases ?_ ?_) <;> intro _))
  all_goals first | (simp [Es.role, *]; done) | (simp [Es.role, *]; omega) | (simp_all [Es.role]; done) | (simp_all [Es.role]; omega)

theorem act_spec (c : Es.Contract) (a : Es.ActT) : APure M 84 [conD c, actD a] (.v (.bool (Es.act c a))) := by
  refine pure_of gpu func84 rfl results84 ntmps84 (by simp) ⟨pu_conD c, pu_actD a, trivial⟩ ?_
  intro b
  simp only [go_sem, ↓reduceIte, reduceCtorEq, Nat.reduceEqDiff, Nat.reduceLT, Nat.reduceLeDiff, Nat.reduceAdd, Nat.reduceSub, Nat.reduceMul, Nat.reduceGT, Int.reduceNeg, Int.reduceToNat]
  repeat' (first | ((with_reducible refine call_at M_P M_G (under_spec _ _) ?_); simp only [go_sem, ↓reduceIte, reduceCtorEq, Nat.reduceEqDiff, Nat.reduceLT, Nat.reduceLeDiff, Nat.reduceAdd, Nat.reduceSub, Nat.reduceMul, Nat.reduceGT, Int.reduceNeg, Int.reduceToNat]) | ((with_reducible refine call_at M_P M_G (moves_spec _) ?_); simp only [go_sem, ↓reduceIte, reduceCtorEq, Nat.reduceEqDiff, Nat.reduceLT, Nat.reduceLeDiff, Nat.reduceAdd, Nat.reduceSub, Nat.reduceMul, Nat.reduceGT, Int.reduceNeg, Int.reduceToNat]) | ((with_reducible refine call_at M_P M_G (positive_spec _) ?_); simp only [go_sem, ↓reduceIte, reduceCtorEq, Nat.reduceEqDiff, Nat.reduceLT, Nat.reduceLeDiff, Nat.reduceAdd, Nat.reduceSub, Nat.reduceMul, Nat.reduceGT, Int.reduceNeg, Int.reduceToNat]) | ((with_reducible apply lend_at M_P M_G (role_spec c _) gpu (Flat.v _)); (exact ⟨.v _, fz_con rfl (by decide), trivial⟩); simp only [go_sem, ↓reduceIte, reduceCtorEq, Nat.reduceEqDiff, Nat.reduceLT, Nat.reduceLeDiff, Nat.reduceAdd, Nat.reduceSub, Nat.reduceMul, Nat.reduceGT, Int.reduceNeg, Int.reduceToNat]) | (with_reducible refine And.intro ?_ ?_) | ((with_reducible refine ite_cases ?_ ?_) <;> intro _))
  all_goals first
    | first | (simp [Es.act, Es.still, Es.ratio_beq, *]; done) | (simp [Es.act, Es.still, Es.ratio_beq, *]; omega) | (simp_all [Es.act, Es.still, Es.ratio_beq]; done) | (simp_all [Es.act, Es.still, Es.ratio_beq]; omega)

end Tryz
end Go.Proofs
end
section
namespace Go.Proofs
open Go Go.Abs
set_option linter.unusedSimpArgs false
set_option maxRecDepth 10000
theorem Fz_fn {s : S} {f : Fn} {ds ds' : List D} (h : FzL s ds ds') : Fz s (.fn f ds) (.fn f ds') := .fn f ds ds' h.len h.get
namespace Tryz
theorem indexC_spec (g : Nat) (caps : List D) (hc : callable prog g = true) (hpu : PuL caps) (p : Es.Cond → Bool) (l : List Es.Cond) (hl : l.length ≤ 9223372036854775807) (h : ∀ x ∈ l, APure M g (condD x :: caps) (.v (.bool (p x)))) :
    APure M 67 [slD 2 condC l, .fn (.func g) caps] (.v (.int .i64 (Es.index p l))) := by
  refine pure_of gpu func67 rfl results67 ntmps67 (by simp) ⟨pu_slD pu_condC _, Pu_fn hpu, trivial⟩ ?_
  intro b
  simp only [go_sem, ↓reduceIte, reduceCtorEq, Nat.reduceEqDiff, Nat.reduceLT, Nat.reduceLeDiff, Nat.reduceAdd, Nat.reduceSub, Nat.reduceMul, Nat.reduceGT, Int.reduceNeg, Int.reduceToNat]
  refine awp_count0 l.length (fun e0 s0 k e s => (e 0 = e0 0 ∧ e 1 = e0 1 ∧ e 7 = e0 7) ∧ e 8 = .v (.int .i64 k) ∧ s = s0 ∧ ∀ j : Nat, j < k → p (Es.at_ l j) = false) ⟨⟨rfl, rfl, rfl⟩, ?_, rfl, (by omega)⟩ ?_
  · simp only [go_sem, ↓reduceIte, reduceCtorEq, Nat.reduceEqDiff, Nat.reduceLT, Nat.reduceLeDiff, Nat.reduceAdd, Nat.reduceSub, Nat.reduceMul, Nat.reduceGT, Int.reduceNeg, Int.reduceToNat]; rfl
  rintro k e s hk ⟨⟨h0, h1, h7⟩, h8, rfl, hall⟩
  simp only [go_sem, ↓reduceIte, reduceCtorEq, Nat.reduceEqDiff, Nat.reduceLT, Nat.reduceLeDiff, Nat.reduceAdd, Nat.reduceSub, Nat.reduceMul, Nat.reduceGT, Int.reduceNeg, Int.reduceToNat] at h0 h1 h7
  simp only [go_sem, ↓reduceIte, reduceCtorEq, Nat.reduceEqDiff, Nat.reduceLT, Nat.reduceLeDiff, Nat.reduceAdd, Nat.reduceSub, Nat.reduceMul, Nat.reduceGT, Int.reduceNeg, Int.reduceToNat, h0, h1, h7, h8, hc]
  refine ite_cases (fun hlt => ?_) (fun hlt => ?_)
  · have hlt' : k < l.length := Es.len_lt.1 hlt
    refine ⟨⟨by omega, hlt⟩, ?_⟩
    refine call_at M_P M_G (h _ (Es.at_mem hlt')) ?_
    simp only [go_sem, ↓reduceIte, reduceCtorEq, Nat.reduceEqDiff, Nat.reduceLT, Nat.reduceLeDiff, Nat.reduceAdd, Nat.reduceSub, Nat.reduceMul, Nat.reduceGT, Int.reduceNeg, Int.reduceToNat, h0, h1, h7, h8]
    refine ite_cases (fun hp => ?_) (fun hp => ?_)
    · rw [Es.index_some hlt' hp hall]
    · refine ⟨hlt', ?_⟩
      simp only [go_sem, ↓reduceIte, reduceCtorEq, Nat.reduceEqDiff, Nat.reduceLT, Nat.reduceLeDiff, Nat.reduceAdd, Nat.reduceSub, Nat.reduceMul, Nat.reduceGT, Int.reduceNeg, Int.reduceToNat, h0, h1, h7, h8]
      refine ⟨by rw [wrap_i64 _ (by omega) (by omega)]; simp, fun j hj => ?_⟩
      rcases Nat.lt_or_ge j k with h | h
      · exact hall j h
      · have : j = k := by omega
        rw [this]; simpa using hp
  · have hkk : k = l.length := by simp only [Es.len] at hlt; omega
    rw [Es.index_none (hkk ▸ hall)]
theorem containsC_spec (g : Nat) (caps : List D) (hc : callable prog g = true) (hpu : PuL caps) (p : Es.Cond → Bool) (l : List Es.Cond) (hl : l.length ≤ 9223372036854775807) (h : ∀ x ∈ l, APure M g (condD x :: caps) (.v (.bool (p x)))) :
    APure M 51 [slD 2 condC l, .fn (.func g) caps] (.v (.bool (l.any p))) := by
  refine pure_of gpu func51 rfl results51 ntmps51 (by simp) ⟨pu_slD pu_condC _, Pu_fn hpu, trivial⟩ ?_
  intro b
  simp only [go_sem, ↓reduceIte, reduceCtorEq, Nat.reduceEqDiff, Nat.reduceLT, Nat.reduceLeDiff, Nat.reduceAdd, Nat.reduceSub, Nat.reduceMul, Nat.reduceGT, Int.reduceNeg, Int.reduceToNat]
  refine call_at M_P M_G (indexC_spec g caps hc hpu p l hl h) ?_
  simp only [go_sem, ↓reduceIte, reduceCtorEq, Nat.reduceEqDiff, Nat.reduceLT, Nat.reduceLeDiff, Nat.reduceAdd, Nat.reduceSub, Nat.reduceMul, Nat.reduceGT, Int.reduceNeg, Int.reduceToNat, Es.index_ge]
theorem indexI_spec (g : Nat) (caps : List D) (hc : callable prog g = true) (hpu : PuL caps) (p : Int → Bool) (l : List Int) (hl : l.length ≤ 9223372036854775807) (h : ∀ x ∈ l, APure M g (.v (.int .i64 x) :: caps) (.v (.bool (p x)))) :
    APure M 54 [slD 1 intC l, .fn (.func g) caps] (.v (.int .i64 (Es.index p l))) := by
  refine pure_of gpu func54 rfl results54 ntmps54 (by simp) ⟨pu_slD pu_intC _, Pu_fn hpu, trivial⟩ ?_
  intro b
  simp only [go_sem, ↓reduceIte, reduceCtorEq, Nat.reduceEqDiff, Nat.reduceLT, Nat.reduceLeDiff, Nat.reduceAdd, Nat.reduceSub, Nat.reduceMul, Nat.reduceGT, Int.reduceNeg, Int.reduceToNat]
  refine awp_count0 l.length (fun e0 s0 k e s => (e 0 = e0 0 ∧ e 1 = e0 1 ∧ e 7 = e0 7) ∧ e 8 = .v (.int .i64 k) ∧ s = s0 ∧ ∀ j : Nat, j < k → p (Es.at_ l j) = false) ⟨⟨rfl, rfl, rfl⟩, ?_, rfl, (by omega)⟩ ?_
  · simp only [go_sem, ↓reduceIte, reduceCtorEq, Nat.reduceEqDiff, Nat.reduceLT, Nat.reduceLeDiff, Nat.reduceAdd, Nat.reduceSub, Nat.reduceMul, Nat.reduceGT, Int.reduceNeg, Int.reduceToNat]; rfl
  rintro k e s hk ⟨⟨h0, h1, h7⟩, h8, rfl, hall⟩
  simp only [go_sem, ↓reduceIte, reduceCtorEq, Nat.reduceEqDiff, Nat.reduceLT, Nat.reduceLeDiff, Nat.reduceAdd, Nat.reduceSub, Nat.reduceMul, Nat.reduceGT, Int.reduceNeg, Int.reduceToNat] at h0 h1 h7
  simp only [go_sem, ↓reduceIte, reduceCtorEq, Nat.reduceEqDiff, Nat.reduceLT, Nat.reduceLeDiff, Nat.reduceAdd, Nat.reduceSub, Nat.reduceMul, Nat.reduceGT, Int.reduceNeg, Int.reduceToNat, h0, h1, h7, h8, hc]
  refine ite_cases (fun hlt => ?_) (fun hlt => ?_)
  · have hlt' : k < l.length := Es.len_lt.1 hlt
    refine ⟨⟨by omega, hlt⟩, ?_⟩
    refine call_at M_P M_G (h _ (Es.at_mem hlt')) ?_
    simp only [go_sem, ↓reduceIte, reduceCtorEq, Nat.reduceEqDiff, Nat.reduceLT, Nat.reduceLeDiff, Nat.reduceAdd, Nat.reduceSub, Nat.reduceMul, Nat.reduceGT, Int.reduceNeg, Int.reduceToNat, h0, h1, h7, h8]
    refine ite_cases (fun hp => ?_) (fun hp => ?_)
    · rw [Es.index_some hlt' hp hall]
    · refine ⟨hlt', ?_⟩
      simp only [go_sem, ↓reduceIte, reduceCtorEq, Nat.reduceEqDiff, Nat.reduceLT, Nat.reduceLeDiff, Nat.reduceAdd, Nat.reduceSub, Nat.reduceMul, Nat.reduceGT, Int.reduceNeg, Int.reduceToNat, h0, h1, h7, h8]
      refine ⟨by rw [wrap_i64 _ (by omega) (by omega)]; simp, fun j hj => ?_⟩
      rcases Nat.lt_or_ge j k with h | h
      · exact hall j h
      · have : j = k := by omega
        rw [this]; simpa using hp
  · have hkk : k = l.length := by simp only [Es.len] at hlt; omega
    rw [Es.index_none (hkk ▸ hall)]
theorem containsI_spec (g : Nat) (caps : List D) (hc : callable prog g = true) (hpu : PuL caps) (p : Int → Bool) (l : List Int) (hl : l.length ≤ 9223372036854775807) (h : ∀ x ∈ l, APure M g (.v (.int .i64 x) :: caps) (.v (.bool (p x)))) :
    APure M 29 [slD 1 intC l, .fn (.func g) caps] (.v (.bool (l.any p))) := by
  refine pure_of gpu func29 rfl results29 ntmps29 (by simp) ⟨pu_slD pu_intC _, Pu_fn hpu, trivial⟩ ?_
  intro b
  simp only [go_sem, ↓reduceIte, reduceCtorEq, Nat.reduceEqDiff, Nat.reduceLT, Nat.reduceLeDiff, Nat.reduceAdd, Nat.reduceSub, Nat.reduceMul, Nat.reduceGT, Int.reduceNeg, Int.reduceToNat]
  refine call_at M_P M_G (indexI_spec g caps hc hpu p l hl h) ?_
  simp only [go_sem, ↓reduceIte, reduceCtorEq, Nat.reduceEqDiff, Nat.reduceLT, Nat.reduceLeDiff, Nat.reduceAdd, Nat.reduceSub, Nat.reduceMul, Nat.reduceGT, Int.reduceNeg, Int.reduceToNat, Es.index_ge]

theorem ready1_spec (s : Es.State) (x : Es.Cond) (hx : 0 ≤ x.clause ∧ x.clause < Es.len s.marks) : APure M 55 [condD x, .rp 4 (staC s) 0] (.v (.bool (Es.fails s x))) := by
  refine pure_of gpu func55 rfl results55 ntmps55 (by simp) ⟨pu_condD _, pu_rp (pu_staC s), trivial⟩ ?_
  intro b
  simp only [go_sem, ↓reduceIte, reduceCtorEq, Nat.reduceEqDiff, Nat.reduceLT, Nat.reduceLeDiff, Nat.reduceAdd, Nat.reduceSub, Nat.reduceMul, Nat.reduceGT, Int.reduceNeg, Int.reduceToNat]
  refine ⟨hx, ?_⟩
  repeat' (first | (with_reducible refine And.intro ?_ ?_) | ((with_reducible refine ite_cases ?_ ?_) <;> intro _))
  all_goals first | (simp [Es.fails, *]; done) | (simp [Es.fails, *]; omega) | (simp_all [Es.fails]; done) | (simp_all [Es.fails]; omega)

theorem ready_spec (c : Es.Contract) (s : Es.State) (i : Int) (hi : 0 ≤ i ∧ i < Es.len s.marks) (hc : i < Es.len c.clauses) (hx : ∀ x ∈ (Es.at_ c.clauses i).start, 0 ≤ x.clause ∧ x.clause < Es.len s.marks) (hl : (Es.at_ c.clauses i).start.length ≤ 9223372036854775807) :
    APure M 32 [conD c, staD s, .v (.int .i64 i)] (.v (.bool (Es.ready c s i))) := by
  have hcall : callable prog 55 = true := by simp only [go_sem]
  have hcon := containsC_spec 55 [.rp 4 (staC s) 0] hcall ⟨pu_rp (pu_staC s), trivial⟩ (Es.fails s) (Es.at_ c.clauses i).start hl (fun x hm => ready1_spec s x (hx x hm))
  refine pure_of gpu func32 rfl results32 ntmps32 (by simp) ⟨pu_conD _, pu_staD _, .v _, trivial⟩ ?_
  intro b
  simp only [go_sem, ↓reduceIte, reduceCtorEq, Nat.reduceEqDiff, Nat.reduceLT, Nat.reduceLeDiff, Nat.reduceAdd, Nat.reduceSub, Nat.reduceMul, Nat.reduceGT, Int.reduceNeg, Int.reduceToNat]
  refine ⟨hi, ?_⟩
  repeat' (first | ((with_reducible apply lend_at M_P M_G (hcon) gpu (Flat.v _)); (exact ⟨(pu_slD pu_condC _).fz, Fz_fn ⟨fz_sta rfl (by decide), trivial⟩, trivial⟩); simp only [go_sem, ↓reduceIte, reduceCtorEq, Nat.reduceEqDiff, Nat.reduceLT, Nat.reduceLeDiff, Nat.reduceAdd, Nat.reduceSub, Nat.reduceMul, Nat.reduceGT, Int.reduceNeg, Int.reduceToNat]) | (with_reducible refine And.intro ?_ ?_) | ((with_reducible refine ite_cases ?_ ?_) <;> intro _))
  all_goals first
    | omega
    | first | (simp [Es.ready, *]; done) | (simp [Es.ready, *]; omega) | (simp_all [Es.ready]; done) | (simp_all [Es.ready]; omega)
end Tryz
end Go.Proofs
end
section
namespace Go.Proofs
open Go Go.Abs
set_option linter.unusedSimpArgs false
set_option maxRecDepth 10000
namespace Tryz
/-- What is said of a store in which one mark is written. -/
def Wrote (o : St) (nx fm : Nat) (ty : TypeId) (ms : List Es.Mark) (o' : St) (nx' : Nat) : Prop :=
  nx ≤ nx' ∧ o' fm 0 = some (.blk 5 ms.length ty (rowsOf mrkC ms)) ∧ ∀ f i, f < nx → ¬ (f = fm ∧ i = 0) → o' f i = o f i

theorem end_spec (X : D → Value → Prop) (N : Nat) (r : Option Nat) (b : Nat) (x : Es.Clause) (fm i : Nat) (ty : TypeId) (ms : List Es.Mark) (st : Int) (o : St) (nx : Nat) (K : D → S → Prop) (hf : fm < nx) (ho : o fm 0 = some (.blk 5 ms.length ty (rowsOf mrkC ms))) (hi : i < ms.length)
    (hk : ∀ o' nx', Wrote o nx fm ty (ms.set i { Es.at_ ms (i : Int) with status := st, left := 0, paused := false }) o' nx' → K (.tup []) ⟨o', nx'⟩) :
    ACall { P := prog, G := gl, X := X, N := N, r := r, b := b } 118 [clcD x (.mp fm 0 5 i 0), .v (.int .i64 st)] ⟨o, nx⟩ K := by
  refine acall_ofA (M := { P := prog, G := gl, X := X, N := N, r := r, b := b }) func118 rfl results118 ntmps118 (by simp) fun b => ?_
  simp only [go_sem, ↓reduceIte, reduceCtorEq, Nat.reduceEqDiff, Nat.reduceLT, Nat.reduceLeDiff, Nat.reduceAdd, Nat.reduceSub, Nat.reduceMul, Nat.reduceGT, Int.reduceNeg, Int.reduceToNat]
  have n0 : (fm = nx) = False := by simp only [eq_iff_iff, iff_false]; omega
  have n1 : (nx = fm) = False := by simp only [eq_iff_iff, iff_false]; omega
  refine awp_plan ((.op 0 (.op 1 (.op 2 (.op 4 (.op 6 (.op 7 (.op 8 (.alt 3 (.alt 5 (.op 9 (.op 10 (.op 11 (.op 12 (.op 13 (.op 14 (.op 15 .done))))))) (.alt 9 (.op 10 (.op 11 (.alt 5 (.op 12 (.op 13 (.op 14 (.op 15 .done)))) (.alt 12 (.op 5 (.op 13 (.op 14 (.op 15 .done)))) .dead)))) .dead)) (.alt 5 (.alt 3 (.op 9 (.op 10 (.op 11 (.op 12 (.op 13 (.op 14 (.op 15 .done))))))) (.alt 9 (.op 3 (.op 10 (.op 11 (.op 12 (.op 13 (.op 14 (.op 15 .done))))))) .dead)) (.alt 9 (.op 3 (.op 10 (.op 11 (.alt 5 (.op 12 (.op 13 (.op 14 (.op 15 .done)))) (.alt 12 (.op 5 (.op 13 (.op 14 (.op 15 .done)))) .dead))))) .dead))))))))))) [9, 12, 15] mix (by kernel_rfl) ?_
  simp only [go_sem, ↓reduceIte, reduceCtorEq, Nat.reduceEqDiff, Nat.reduceLT, Nat.reduceLeDiff, Nat.reduceAdd, Nat.reduceSub, Nat.reduceMul, Nat.reduceGT, Int.reduceNeg, Int.reduceToNat, ho, n0, n1, setC_mrk0, setC_mrk1, setC_mrk4, at_set, hi, List.length_set, List.set_set]
  have fin : ∀ B, K (.tup []) ⟨St.set (St.set o nx 0 B) fm 0 (some (.blk 5 ms.length ty (rowsOf mrkC (ms.set i { Es.at_ ms (i : Int) with status := st, left := 0, paused := false })))), nx + 1⟩ := fun B => hk _ _ ⟨by omega, by simp [St.set], fun f j hfj hne => by simp only [St.set]; rw [if_neg hne, if_neg (by omega)]⟩
  repeat' (first | (with_reducible refine And.intro ?_ ?_) | ((with_reducible refine ite_cases ?_ ?_) <;> intro _))
  all_goals first
    | exact fin _
theorem set_at {ms : List Es.Mark} {i : Nat} (hi : i < ms.length) : ms.set i (Es.at_ ms (i : Int)) = ms := by
  apply List.ext_getElem (by simp)
  intro n h1 h2
  rw [List.getElem_set]
  split
  · rename_i h; subst h; exact Es.at_nat hi
  · rfl
theorem wrote_same {o : St} {nx fm : Nat} {ty : TypeId} {ms : List Es.Mark} {B : Option SObj} (hf : fm < nx) (ho : o fm 0 = some (.blk 5 ms.length ty (rowsOf mrkC ms))) : Wrote o nx fm ty ms (St.set o nx 0 B) (nx + 1) :=
  ⟨by omega, by simp only [St.set]; rw [if_neg (by omega)]; exact ho, fun f j hfj hne => by simp only [St.set]; rw [if_neg (by omega)]⟩
theorem Wrote.box {o o' : St} {nx nx' fm : Nat} {ty : TypeId} {ms : List Es.Mark} {B : Option SObj} (hf : fm < nx) (h : Wrote (St.set o nx 0 B) (nx + 1) fm ty ms o' nx') : Wrote o nx fm ty ms o' nx' :=
  ⟨Nat.le_trans (Nat.le_succ _) h.1, h.2.1, fun f j hfj hne => by rw [h.2.2 f j (by omega) hne]; simp only [St.set]; rw [if_neg (by omega)]⟩
def ended (m : Es.Mark) (st : Int) : Es.Mark := { m with status := st, left := 0, paused := false }
theorem observed_spec (X : D → Value → Prop) (N : Nat) (r : Option Nat) (b : Nat) (x : Es.Clause) (fm i : Nat) (ty : TypeId) (ms : List Es.Mark) (o : St) (nx : Nat) (K : D → S → Prop) (hf : fm < nx) (ho : o fm 0 = some (.blk 5 ms.length ty (rowsOf mrkC ms))) (hi : i < ms.length)
    (hk : ∀ o' nx', Wrote o nx fm ty (ms.set i (ended (Es.at_ ms (i : Int)) 3)) o' nx' → K (.tup []) ⟨o', nx'⟩) :
    ACall { P := prog, G := gl, X := X, N := N, r := r, b := b } 99 [clcD x (.mp fm 0 5 i 0)] ⟨o, nx⟩ K := by
  refine acall_ofA (M := { P := prog, G := gl, X := X, N := N, r := r, b := b }) func99 rfl results99 ntmps99 (by simp) fun b => ?_
  simp only [go_sem, ↓reduceIte, reduceCtorEq, Nat.reduceEqDiff, Nat.reduceLT, Nat.reduceLeDiff, Nat.reduceAdd, Nat.reduceSub, Nat.reduceMul, Nat.reduceGT, Int.reduceNeg, Int.reduceToNat]
  have n0 : (fm = nx) = False := by simp only [eq_iff_iff, iff_false]; omega
  have n1 : (nx = fm) = False := by simp only [eq_iff_iff, iff_false]; omega
  refine end_spec _ _ _ _ x fm i ty ms 3 _ _ _ (by omega) (by simp only [go_sem, ↓reduceIte, reduceCtorEq, Nat.reduceEqDiff, Nat.reduceLT, Nat.reduceLeDiff, Nat.reduceAdd, Nat.reduceSub, Nat.reduceMul, Nat.reduceGT, Int.reduceNeg, Int.reduceToNat, ho, n0, n1]) hi fun o' nx' hw => ?_
  simp only [go_sem, ↓reduceIte, reduceCtorEq, Nat.reduceEqDiff, Nat.reduceLT, Nat.reduceLeDiff, Nat.reduceAdd, Nat.reduceSub, Nat.reduceMul, Nat.reduceGT, Int.reduceNeg, Int.reduceToNat]
  exact hk _ _ (Wrote.box hf hw)
theorem lapsed_spec (X : D → Value → Prop) (N : Nat) (r : Option Nat) (b : Nat) (x : Es.Clause) (fm i : Nat) (ty : TypeId) (ms : List Es.Mark) (o : St) (nx : Nat) (K : D → S → Prop) (hf : fm < nx) (ho : o fm 0 = some (.blk 5 ms.length ty (rowsOf mrkC ms))) (hi : i < ms.length)
    (hk : ∀ o' nx', Wrote o nx fm ty (ms.set i (ended (Es.at_ ms (i : Int)) 5)) o' nx' → K (.tup []) ⟨o', nx'⟩) :
    ACall { P := prog, G := gl, X := X, N := N, r := r, b := b } 100 [clcD x (.mp fm 0 5 i 0)] ⟨o, nx⟩ K := by
  refine acall_ofA (M := { P := prog, G := gl, X := X, N := N, r := r, b := b }) func100 rfl results100 ntmps100 (by simp) fun b => ?_
  simp only [go_sem, ↓reduceIte, reduceCtorEq, Nat.reduceEqDiff, Nat.reduceLT, Nat.reduceLeDiff, Nat.reduceAdd, Nat.reduceSub, Nat.reduceMul, Nat.reduceGT, Int.reduceNeg, Int.reduceToNat]
  have n0 : (fm = nx) = False := by simp only [eq_iff_iff, iff_false]; omega
  have n1 : (nx = fm) = False := by simp only [eq_iff_iff, iff_false]; omega
  refine end_spec _ _ _ _ x fm i ty ms 5 _ _ _ (by omega) (by simp only [go_sem, ↓reduceIte, reduceCtorEq, Nat.reduceEqDiff, Nat.reduceLT, Nat.reduceLeDiff, Nat.reduceAdd, Nat.reduceSub, Nat.reduceMul, Nat.reduceGT, Int.reduceNeg, Int.reduceToNat, ho, n0, n1]) hi fun o' nx' hw => ?_
  simp only [go_sem, ↓reduceIte, reduceCtorEq, Nat.reduceEqDiff, Nat.reduceLT, Nat.reduceLeDiff, Nat.reduceAdd, Nat.reduceSub, Nat.reduceMul, Nat.reduceGT, Int.reduceNeg, Int.reduceToNat]
  exact hk _ _ (Wrote.box hf hw)
theorem violated_spec (X : D → Value → Prop) (N : Nat) (r : Option Nat) (b : Nat) (x : Es.Clause) (fm i : Nat) (ty : TypeId) (ms : List Es.Mark) (o : St) (nx : Nat) (K : D → S → Prop) (hf : fm < nx) (ho : o fm 0 = some (.blk 5 ms.length ty (rowsOf mrkC ms))) (hi : i < ms.length)
    (hk : ∀ o' nx', Wrote o nx fm ty (ms.set i (if (Es.at_ ms (i : Int)).paused then Es.at_ ms (i : Int) else ended (Es.at_ ms (i : Int)) 4)) o' nx' → K (.tup []) ⟨o', nx'⟩) :
    ACall { P := prog, G := gl, X := X, N := N, r := r, b := b } 102 [clcD x (.mp fm 0 5 i 0)] ⟨o, nx⟩ K := by
  refine acall_ofA (M := { P := prog, G := gl, X := X, N := N, r := r, b := b }) func102 rfl results102 ntmps102 (by simp) fun b => ?_
  simp only [go_sem, ↓reduceIte, reduceCtorEq, Nat.reduceEqDiff, Nat.reduceLT, Nat.reduceLeDiff, Nat.reduceAdd, Nat.reduceSub, Nat.reduceMul, Nat.reduceGT, Int.reduceNeg, Int.reduceToNat]
  have n0 : (fm = nx) = False := by simp only [eq_iff_iff, iff_false]; omega
  have n1 : (nx = fm) = False := by simp only [eq_iff_iff, iff_false]; omega
  simp only [go_sem, ↓reduceIte, reduceCtorEq, Nat.reduceEqDiff, Nat.reduceLT, Nat.reduceLeDiff, Nat.reduceAdd, Nat.reduceSub, Nat.reduceMul, Nat.reduceGT, Int.reduceNeg, Int.reduceToNat, ho, n0, n1]
  refine ⟨hi, ?_⟩
  refine ite_cases (fun hp => ?_) (fun hp => ?_)
  · refine end_spec _ _ _ _ x fm i ty ms 4 _ _ _ (by omega) (by simp only [go_sem, ↓reduceIte, reduceCtorEq, Nat.reduceEqDiff, Nat.reduceLT, Nat.reduceLeDiff, Nat.reduceAdd, Nat.reduceSub, Nat.reduceMul, Nat.reduceGT, Int.reduceNeg, Int.reduceToNat, ho, n0, n1]) hi fun o' nx' hw => ?_
    simp only [go_sem, ↓reduceIte, reduceCtorEq, Nat.reduceEqDiff, Nat.reduceLT, Nat.reduceLeDiff, Nat.reduceAdd, Nat.reduceSub, Nat.reduceMul, Nat.reduceGT, Int.reduceNeg, Int.reduceToNat]
    have := Wrote.box hf hw
    exact hk _ _ (by rw [if_neg (by simpa using hp)]; exact this)
  · refine hk _ _ ?_
    rw [if_pos (by simpa using hp), set_at hi]
    exact wrote_same hf ho
def performed (x : Es.Clause) (m : Es.Mark) : Es.Mark := if m.got + 1 == x.need then ended { m with got := m.got + 1 } 3 else { m with got := m.got + 1 }
def overdue (x : Es.Clause) (m : Es.Mark) : Es.Mark := if m.status == 1 && decide (0 < x.grace) then { m with status := 2, left := x.grace } else ended m 4
theorem performed_spec (X : D → Value → Prop) (N : Nat) (r : Option Nat) (b : Nat) (x : Es.Clause) (fm i : Nat) (ty : TypeId) (ms : List Es.Mark) (o : St) (nx : Nat) (K : D → S → Prop) (hf : fm < nx) (ho : o fm 0 = some (.blk 5 ms.length ty (rowsOf mrkC ms))) (hi : i < ms.length) (hgot : 0 ≤ (Es.at_ ms (i : Int)).got ∧ (Es.at_ ms (i : Int)).got ≤ 9)
    (hk : ∀ o' nx', Wrote o nx fm ty (ms.set i (performed x (Es.at_ ms (i : Int)))) o' nx' → K (.tup []) ⟨o', nx'⟩) :
    ACall { P := prog, G := gl, X := X, N := N, r := r, b := b } 101 [clcD x (.mp fm 0 5 i 0)] ⟨o, nx⟩ K := by
  refine acall_ofA (M := { P := prog, G := gl, X := X, N := N, r := r, b := b }) func101 rfl results101 ntmps101 (by simp) fun b => ?_
  simp only [go_sem, ↓reduceIte, reduceCtorEq, Nat.reduceEqDiff, Nat.reduceLT, Nat.reduceLeDiff, Nat.reduceAdd, Nat.reduceSub, Nat.reduceMul, Nat.reduceGT, Int.reduceNeg, Int.reduceToNat]
  have n0 : (fm = nx) = False := by simp only [eq_iff_iff, iff_false]; omega
  have n1 : (nx = fm) = False := by simp only [eq_iff_iff, iff_false]; omega
  have hw : IntKind.i64.wrap ((Es.at_ ms (i : Int)).got + 1) = (Es.at_ ms (i : Int)).got + 1 := wrap_i64 _ (by omega) (by omega)
  simp only [go_sem, ↓reduceIte, reduceCtorEq, Nat.reduceEqDiff, Nat.reduceLT, Nat.reduceLeDiff, Nat.reduceAdd, Nat.reduceSub, Nat.reduceMul, Nat.reduceGT, Int.reduceNeg, Int.reduceToNat, ho, n0, n1, setC_mrk2, at_set, hi, List.length_set, List.set_set, hw]
  refine awp_plan ((.op 0 (.op 1 (.op 2 (.op 3 (.op 4 (.op 5 (.op 6 (.op 7 (.op 8 .done)))))))))) [] mix (by kernel_rfl) ?_
  simp only [go_sem, ↓reduceIte, reduceCtorEq, Nat.reduceEqDiff, Nat.reduceLT, Nat.reduceLeDiff, Nat.reduceAdd, Nat.reduceSub, Nat.reduceMul, Nat.reduceGT, Int.reduceNeg, Int.reduceToNat, ho, n0, n1, setC_mrk2, at_set, hi, List.length_set, List.set_set, hw]
  refine ite_cases (fun hc => ?_) (fun hc => ?_)
  · have hi' : i < (ms.set i { Es.at_ ms (i : Int) with got := (Es.at_ ms (i : Int)).got + 1 }).length := by simpa using hi
    refine end_spec _ _ _ _ x fm i ty (ms.set i { Es.at_ ms (i : Int) with got := (Es.at_ ms (i : Int)).got + 1 }) 3 _ _ _ (by omega) (by simp only [go_sem, ↓reduceIte, reduceCtorEq, Nat.reduceEqDiff, Nat.reduceLT, Nat.reduceLeDiff, Nat.reduceAdd, Nat.reduceSub, Nat.reduceMul, Nat.reduceGT, Int.reduceNeg, Int.reduceToNat, ho, n0, n1, List.length_set]) hi' fun o' nx' hw => ?_
    simp only [go_sem, ↓reduceIte, reduceCtorEq, Nat.reduceEqDiff, Nat.reduceLT, Nat.reduceLeDiff, Nat.reduceAdd, Nat.reduceSub, Nat.reduceMul, Nat.reduceGT, Int.reduceNeg, Int.reduceToNat]
    refine hk _ _ ⟨by have := hw.1; omega, ?_, fun f j hfj hne => ?_⟩
    · rw [show performed x (Es.at_ ms (i : Int)) = ended { Es.at_ ms (i : Int) with got := (Es.at_ ms (i : Int)).got + 1 } 3 from if_pos hc]
      have := hw.2.1
      rw [at_set hi, List.set_set] at this
      exact this
    · rw [hw.2.2 f j (by omega) hne]
      simp only [St.set]; rw [if_neg hne, if_neg (by omega)]
  · refine hk _ _ ⟨by omega, ?_, fun f j hfj hne => ?_⟩
    · rw [show performed x (Es.at_ ms (i : Int)) = { Es.at_ ms (i : Int) with got := (Es.at_ ms (i : Int)).got + 1 } from if_neg hc]
      simp [St.set]
    · simp only [St.set]; rw [if_neg hne, if_neg (by omega)]
theorem overdue_spec (X : D → Value → Prop) (N : Nat) (r : Option Nat) (b : Nat) (x : Es.Clause) (fm i : Nat) (ty : TypeId) (ms : List Es.Mark) (o : St) (nx : Nat) (K : D → S → Prop) (hf : fm < nx) (ho : o fm 0 = some (.blk 5 ms.length ty (rowsOf mrkC ms))) (hi : i < ms.length)
    (hk : ∀ o' nx', Wrote o nx fm ty (ms.set i (overdue x (Es.at_ ms (i : Int)))) o' nx' → K (.tup []) ⟨o', nx'⟩) :
    ACall { P := prog, G := gl, X := X, N := N, r := r, b := b } 98 [clcD x (.mp fm 0 5 i 0)] ⟨o, nx⟩ K := by
  refine acall_ofA (M := { P := prog, G := gl, X := X, N := N, r := r, b := b }) func98 rfl results98 ntmps98 (by simp) fun b => ?_
  simp only [go_sem, ↓reduceIte, reduceCtorEq, Nat.reduceEqDiff, Nat.reduceLT, Nat.reduceLeDiff, Nat.reduceAdd, Nat.reduceSub, Nat.reduceMul, Nat.reduceGT, Int.reduceNeg, Int.reduceToNat]
  have n0 : (fm = nx) = False := by simp only [eq_iff_iff, iff_false]; omega
  have n1 : (nx = fm) = False := by simp only [eq_iff_iff, iff_false]; omega
  simp only [go_sem, ↓reduceIte, reduceCtorEq, Nat.reduceEqDiff, Nat.reduceLT, Nat.reduceLeDiff, Nat.reduceAdd, Nat.reduceSub, Nat.reduceMul, Nat.reduceGT, Int.reduceNeg, Int.reduceToNat, ho, n0, n1]
  refine ⟨hi, ?_⟩
  have fin : ∀ B, ((Es.at_ ms (i : Int)).status == 1 && decide (0 < x.grace)) = true → K (.tup []) ⟨St.set (St.set o nx 0 B) fm 0 (some (.blk 5 ms.length ty (rowsOf mrkC (ms.set i { Es.at_ ms (i : Int) with status := 2, left := x.grace })))), nx + 1⟩ := fun B hc => hk _ _ ⟨by omega, by rw [show overdue x (Es.at_ ms (i : Int)) = _ from if_pos hc]; simp [St.set], fun f j hfj hne => by simp only [St.set]; rw [if_neg hne, if_neg (by omega)]⟩
  have fin2 : ∀ B, ¬ ((Es.at_ ms (i : Int)).status == 1 && decide (0 < x.grace)) = true → ∀ o' nx', Wrote (St.set o nx 0 B) (nx + 1) fm ty (ms.set i (ended (Es.at_ ms (i : Int)) 4)) o' nx' → K (.tup []) ⟨o', nx'⟩ := fun B hc o' nx' hw => hk _ _ (by rw [show overdue x (Es.at_ ms (i : Int)) = _ from if_neg hc]; exact Wrote.box hf hw)
  refine ite_cases (fun h1 => ?_) (fun h1 => ?_)
  · refine ite_cases (fun h2 => ?_) (fun h2 => ?_)
    · refine awp_plan ((.op 0 (.op 1 (.op 2 (.op 4 (.op 5 (.op 7 (.op 8 (.alt 3 (.alt 6 (.op 9 (.op 10 (.op 11 (.op 12 .done)))) (.alt 9 (.op 6 (.op 10 (.op 11 (.op 12 .done)))) .dead)) (.alt 6 (.alt 3 (.op 9 (.op 10 (.op 11 (.op 12 .done)))) (.alt 9 (.op 3 (.op 10 (.op 11 (.op 12 .done)))) .dead)) (.alt 9 (.op 3 (.op 6 (.op 10 (.op 11 (.op 12 .done))))) .dead))))))))))) [9, 12] mix (by kernel_rfl) ?_
      simp only [go_sem, ↓reduceIte, reduceCtorEq, Nat.reduceEqDiff, Nat.reduceLT, Nat.reduceLeDiff, Nat.reduceAdd, Nat.reduceSub, Nat.reduceMul, Nat.reduceGT, Int.reduceNeg, Int.reduceToNat, ho, n0, n1, setC_mrk0, setC_mrk1, at_set, hi, List.length_set, List.set_set]
      repeat' (first | (with_reducible refine And.intro ?_ ?_) | ((with_reducible refine ite_cases ?_ ?_) <;> intro _))
      all_goals exact fin _ (by simp [h1, h2])
    · refine end_spec _ _ _ _ x fm i ty ms 4 _ _ _ (by omega) (by simp only [go_sem, ↓reduceIte, reduceCtorEq, Nat.reduceEqDiff, Nat.reduceLT, Nat.reduceLeDiff, Nat.reduceAdd, Nat.reduceSub, Nat.reduceMul, Nat.reduceGT, Int.reduceNeg, Int.reduceToNat, ho, n0, n1]) hi fun o' nx' hw => ?_
      simp only [go_sem, ↓reduceIte, reduceCtorEq, Nat.reduceEqDiff, Nat.reduceLT, Nat.reduceLeDiff, Nat.reduceAdd, Nat.reduceSub, Nat.reduceMul, Nat.reduceGT, Int.reduceNeg, Int.reduceToNat]
      exact fin2 _ (by simp [h2]) _ _ hw
  · refine end_spec _ _ _ _ x fm i ty ms 4 _ _ _ (by omega) (by simp only [go_sem, ↓reduceIte, reduceCtorEq, Nat.reduceEqDiff, Nat.reduceLT, Nat.reduceLeDiff, Nat.reduceAdd, Nat.reduceSub, Nat.reduceMul, Nat.reduceGT, Int.reduceNeg, Int.reduceToNat, ho, n0, n1]) hi fun o' nx' hw => ?_
    simp only [go_sem, ↓reduceIte, reduceCtorEq, Nat.reduceEqDiff, Nat.reduceLT, Nat.reduceLeDiff, Nat.reduceAdd, Nat.reduceSub, Nat.reduceMul, Nat.reduceGT, Int.reduceNeg, Int.reduceToNat]
    exact fin2 _ (by simp [h1]) _ _ hw

/-- The methods, by the kind of a clause. -/
theorem counted_spec (k : Int) (hk : k = 1 ∨ k = 2 ∨ k = 3 ∨ k = 4) : APure M 82 [.v (.int .i64 k)] (.fn (.func (if k = 1 then 101 else if k = 2 then 102 else 99)) []) := by
  refine pure_of gpu func82 rfl results82 ntmps82 (by simp) ⟨.v _, trivial⟩ ?_
  intro b
  simp only [go_sem, ↓reduceIte, reduceCtorEq, Nat.reduceEqDiff, Nat.reduceLT, Nat.reduceLeDiff, Nat.reduceAdd, Nat.reduceSub, Nat.reduceMul, Nat.reduceGT, Int.reduceNeg, Int.reduceToNat]
  rcases hk with rfl | rfl | rfl | rfl
  all_goals simp only [go_sem, ↓reduceIte, reduceCtorEq, Nat.reduceEqDiff, Nat.reduceLT, Nat.reduceLeDiff, Nat.reduceAdd, Nat.reduceSub, Nat.reduceMul, Nat.reduceGT, Int.reduceNeg, Int.reduceToNat]
  all_goals exact ⟨⟨by omega, by omega⟩, Fz_fn trivial⟩
theorem elapsed_spec (k : Int) (hk : k = 1 ∨ k = 2 ∨ k = 3 ∨ k = 4) : APure M 80 [.v (.int .i64 k)] (.fn (.func (if k = 1 then 98 else if k = 2 then 99 else 100)) []) := by
  refine pure_of gpu func80 rfl results80 ntmps80 (by simp) ⟨.v _, trivial⟩ ?_
  intro b
  simp only [go_sem, ↓reduceIte, reduceCtorEq, Nat.reduceEqDiff, Nat.reduceLT, Nat.reduceLeDiff, Nat.reduceAdd, Nat.reduceSub, Nat.reduceMul, Nat.reduceGT, Int.reduceNeg, Int.reduceToNat]
  rcases hk with rfl | rfl | rfl | rfl
  all_goals simp only [go_sem, ↓reduceIte, reduceCtorEq, Nat.reduceEqDiff, Nat.reduceLT, Nat.reduceLeDiff, Nat.reduceAdd, Nat.reduceSub, Nat.reduceMul, Nat.reduceGT, Int.reduceNeg, Int.reduceToNat]
  all_goals exact ⟨⟨by omega, by omega⟩, Fz_fn trivial⟩
/-- The method for a clause whose days are over, whichever it is. -/
theorem aged_spec (X : D → Value → Prop) (N : Nat) (r : Option Nat) (b : Nat) (x : Es.Clause) (fm i : Nat) (ty : TypeId) (ms : List Es.Mark) (o : St) (nx : Nat) (K : D → S → Prop) (hkd : x.kind = 1 ∨ x.kind = 2 ∨ x.kind = 3 ∨ x.kind = 4) (hf : fm < nx) (ho : o fm 0 = some (.blk 5 ms.length ty (rowsOf mrkC ms))) (hi : i < ms.length)
    (hk : ∀ o' nx', Wrote o nx fm ty (ms.set i (Es.older x (Es.at_ ms (i : Int)))) o' nx' → K (.tup []) ⟨o', nx'⟩) :
    callable prog (if x.kind = 1 then 98 else if x.kind = 2 then 99 else 100) = true ∧
    ACall { P := prog, G := gl, X := X, N := N, r := r, b := b } (if x.kind = 1 then 98 else if x.kind = 2 then 99 else 100) [clcD x (.mp fm 0 5 i 0)] ⟨o, nx⟩ K := by
  by_cases h1 : x.kind = 1
  · simp only [if_pos h1]
    refine ⟨by simp only [go_sem], overdue_spec _ _ _ _ x fm i ty ms _ _ _ hf ho hi fun o' nx' hw => hk o' nx' ?_⟩
    rw [show Es.older x (Es.at_ ms (i : Int)) = overdue x (Es.at_ ms (i : Int)) by unfold Es.older overdue ended; rw [if_pos (by simpa using h1)]]
    exact hw
  · simp only [if_neg h1]
    by_cases h2 : x.kind = 2
    · simp only [if_pos h2]
      refine ⟨by simp only [go_sem], observed_spec _ _ _ _ x fm i ty ms _ _ _ hf ho hi fun o' nx' hw => hk o' nx' ?_⟩
      rw [show Es.older x (Es.at_ ms (i : Int)) = ended (Es.at_ ms (i : Int)) 3 by unfold Es.older ended; rw [if_neg (by simpa using h1), if_pos (by simpa using h2)]]
      exact hw
    · simp only [if_neg h2]
      refine ⟨by simp only [go_sem], lapsed_spec _ _ _ _ x fm i ty ms _ _ _ hf ho hi fun o' nx' hw => hk o' nx' ?_⟩
      rw [show Es.older x (Es.at_ ms (i : Int)) = ended (Es.at_ ms (i : Int)) 5 by unfold Es.older ended; rw [if_neg (by simpa using h1), if_neg (by simpa using h2)]]
      exact hw
/-- The method for an act that counts, whichever it is. -/
theorem acted_spec (X : D → Value → Prop) (N : Nat) (r : Option Nat) (b : Nat) (x : Es.Clause) (fm i : Nat) (ty : TypeId) (ms : List Es.Mark) (o : St) (nx : Nat) (K : D → S → Prop) (hf : fm < nx) (ho : o fm 0 = some (.blk 5 ms.length ty (rowsOf mrkC ms))) (hi : i < ms.length)
    (hgot : 0 ≤ (Es.at_ ms (i : Int)).got ∧ (Es.at_ ms (i : Int)).got ≤ 9)
    (hk : ∀ o' nx', Wrote o nx fm ty (ms.set i (Es.countedM x (Es.at_ ms (i : Int)))) o' nx' → K (.tup []) ⟨o', nx'⟩) :
    callable prog (if x.kind = 1 then 101 else if x.kind = 2 then 102 else 99) = true ∧
    ACall { P := prog, G := gl, X := X, N := N, r := r, b := b } (if x.kind = 1 then 101 else if x.kind = 2 then 102 else 99) [clcD x (.mp fm 0 5 i 0)] ⟨o, nx⟩ K := by
  by_cases h1 : x.kind = 1
  · simp only [if_pos h1]
    refine ⟨by simp only [go_sem], performed_spec _ _ _ _ x fm i ty ms _ _ _ hf ho hi hgot fun o' nx' hw => hk o' nx' ?_⟩
    rw [show Es.countedM x (Es.at_ ms (i : Int)) = performed x (Es.at_ ms (i : Int)) by unfold Es.countedM performed; rw [if_pos (by simpa using h1)]; rfl]
    exact hw
  · simp only [if_neg h1]
    by_cases h2 : x.kind = 2
    · simp only [if_pos h2]
      refine ⟨by simp only [go_sem], violated_spec _ _ _ _ x fm i ty ms _ _ _ hf ho hi fun o' nx' hw => hk o' nx' ?_⟩
      rw [show Es.countedM x (Es.at_ ms (i : Int)) = (if (Es.at_ ms (i : Int)).paused then Es.at_ ms (i : Int) else ended (Es.at_ ms (i : Int)) 4) by unfold Es.countedM; rw [if_neg (by simpa using h1), if_pos (by simpa using h2)]; rfl]
      exact hw
    · simp only [if_neg h2]
      refine ⟨by simp only [go_sem], observed_spec _ _ _ _ x fm i ty ms _ _ _ hf ho hi fun o' nx' hw => hk o' nx' ?_⟩
      rw [show Es.countedM x (Es.at_ ms (i : Int)) = ended (Es.at_ ms (i : Int)) 3 by unfold Es.countedM; rw [if_neg (by simpa using h1), if_neg (by simpa using h2)]; rfl]
      exact hw
theorem acted_spec' (X : D → Value → Prop) (N : Nat) (r : Option Nat) (b : Nat) (x : Es.Clause) (fm i n : Nat) (ty : TypeId) (ms : List Es.Mark) (o : St) (nx : Nat) (K : D → S → Prop) (ho : o fm 0 = some (.blk 5 n ty (rowsOf mrkC ms))) (hn : ms.length = n) (hf : fm < nx) (hi : i < n)
    (hgot : 0 ≤ (Es.at_ ms (i : Int)).got ∧ (Es.at_ ms (i : Int)).got ≤ 9)
    (hk : ∀ o' nx', Wrote o nx fm ty (ms.set i (Es.countedM x (Es.at_ ms (i : Int)))) o' nx' → K (.tup []) ⟨o', nx'⟩) :
    callable prog (if x.kind = 1 then 101 else if x.kind = 2 then 102 else 99) = true ∧
    ACall { P := prog, G := gl, X := X, N := N, r := r, b := b } (if x.kind = 1 then 101 else if x.kind = 2 then 102 else 99) [clcD x (.mp fm 0 5 i 0)] ⟨o, nx⟩ K := by
  subst hn; exact acted_spec X N r b x fm i ty ms o nx K hf ho hi hgot hk
end Tryz
end Go.Proofs
end
section
namespace Go.Proofs
open Go Go.Abs
set_option linter.unusedSimpArgs false
set_option maxRecDepth 10000
theorem acall_nil {M : Ctx} {f : FuncId} {args : List D} {s : S} {K : D → S → Prop} (k ty : Nat) (cell : Nat → Nat → D)
    (h : ACall M f args s fun d s' => K d s' ∨ (d = .v (.slice none 0 0) ∧ K (.ms s'.nx 0 k 0 0) (s'.push (.blk k 0 ty cell)))) : ACall M f args s K := by
  intro c vals h1 h2 h3 h4
  refine (h c vals h1 h2 h3 h4).mono ?_
  rintro x W' ⟨c', v, d, s', rfl, g2, g3, g4, g5, g6⟩
  rcases g6 with g6 | ⟨rfl, g6⟩
  · exact ⟨c', v, d, s', rfl, g2, g3, g4, g5, g6⟩
  · cases g5
    exact ⟨c', _, _, _, rfl, g2, g3, empty_ok g4 (.blk k 0 ty cell) rfl, .msnil _ _ _ _, g6⟩
/-- Nothing lies at or beyond the next name. -/
def WfO (o : St) (nx : Nat) : Prop := ∀ f i, nx ≤ f → o f i = none
theorem WfO.set {o : St} {nx nx' f : Nat} {i : Nat} {B : Option SObj} (h : WfO o nx) (hf : f < nx') (hn : nx ≤ nx') : WfO (St.set o f i B) nx' := fun f' i' hf' => by
  show (if f' = f ∧ i' = i then B else o f' i') = none
  rw [if_neg (by omega)]; exact h f' i' (by omega)
theorem keeps_of {o o' : St} {nx nx' : Nat} (h : WfO o nx) (k : SameB nx o o') : keeps ⟨o, nx⟩ ⟨o', nx'⟩ := fun f i B hB => by
  rcases Nat.lt_or_ge f nx with hl | hg
  · exact (k f i hl).trans hB
  · have := h f i hg
    change o f i = some B at hB
    rw [this] at hB; cases hB
namespace Tryz
theorem cloneI_spec (X : D → Value → Prop) (N : Nat) (r : Option Nat) (b : Nat) (l : List Int) (hl : l.length ≤ 1000000000) (o : St) (nx : Nat) (K : D → S → Prop) (hw : WfO o nx)
    (hk : ∀ o' nx' f ty, nx ≤ f → f < nx' → SameB nx o o' → WfO o' nx' → o' f 0 = some (.blk 1 l.length ty (rowsOf intC l)) → K (.ms f 0 1 0 l.length) ⟨o', nx'⟩) :
    ACall { P := prog, G := gl, X := X, N := N, r := r, b := b } 25 [slD 1 intC l] ⟨o, nx⟩ K := by
  refine acall_nil 1 0 (rowsOf intC l) ?_
  refine acall_ofA (M := { P := prog, G := gl, X := X, N := N, r := r, b := b }) func25 rfl results25 ntmps25 (by simp) fun b => ?_
  simp only [go_sem, ↓reduceIte, reduceCtorEq, Nat.reduceEqDiff, Nat.reduceLT, Nat.reduceLeDiff, Nat.reduceAdd, Nat.reduceSub, Nat.reduceMul, Nat.reduceGT, Int.reduceNeg, Int.reduceToNat]
  intro q hq
  refine ite_cases (fun h => ?_) (fun h => ?_)
  · have h0 := hq h
    refine .inr ?_
    have := hk (St.set o nx 0 (some (.blk 1 0 0 (rowsOf intC l)))) (nx + 1) nx 0 (Nat.le_refl _) (by omega) (SameB.set (SameB.refl _ _) (Nat.le_refl _) _ _) (hw.set (by omega) (by omega)) (by simp [St.set, h0])
    rw [h0] at this; exact this
  · refine ⟨⟨by omega, by omega⟩, ?_⟩
    have hc : ∀ cell, appC cell 0 (rowsOf intC l) = rowsOf intC l := fun cell => by funext r c; simp [appC]
    rw [hc, Nat.zero_add]
    exact hk _ _ (nx + 1) _ (by omega) (by omega) (SameB.set (SameB.set (SameB.refl _ _) (Nat.le_refl _) _ _) (by omega) _ _) ((hw.set (nx' := nx + 1) (by omega) (by omega)).set (by omega) (by omega)) (by simp [St.set]; rfl)
theorem cloneB_spec (X : D → Value → Prop) (N : Nat) (r : Option Nat) (b : Nat) (l : List Bool) (hl : l.length ≤ 1000000000) (o : St) (nx : Nat) (K : D → S → Prop) (hw : WfO o nx)
    (hk : ∀ o' nx' f ty, nx ≤ f → f < nx' → SameB nx o o' → WfO o' nx' → o' f 0 = some (.blk 1 l.length ty (rowsOf booC l)) → K (.ms f 0 1 0 l.length) ⟨o', nx'⟩) :
    ACall { P := prog, G := gl, X := X, N := N, r := r, b := b } 26 [slD 1 booC l] ⟨o, nx⟩ K := by
  refine acall_nil 1 0 (rowsOf booC l) ?_
  refine acall_ofA (M := { P := prog, G := gl, X := X, N := N, r := r, b := b }) func26 rfl results26 ntmps26 (by simp) fun b => ?_
  simp only [go_sem, ↓reduceIte, reduceCtorEq, Nat.reduceEqDiff, Nat.reduceLT, Nat.reduceLeDiff, Nat.reduceAdd, Nat.reduceSub, Nat.reduceMul, Nat.reduceGT, Int.reduceNeg, Int.reduceToNat]
  intro q hq
  refine ite_cases (fun h => ?_) (fun h => ?_)
  · have h0 := hq h
    refine .inr ?_
    have := hk (St.set o nx 0 (some (.blk 1 0 0 (rowsOf booC l)))) (nx + 1) nx 0 (Nat.le_refl _) (by omega) (SameB.set (SameB.refl _ _) (Nat.le_refl _) _ _) (hw.set (by omega) (by omega)) (by simp [St.set, h0])
    rw [h0] at this; exact this
  · refine ⟨⟨by omega, by omega⟩, ?_⟩
    have hc : ∀ cell, appC cell 0 (rowsOf booC l) = rowsOf booC l := fun cell => by funext r c; simp [appC]
    rw [hc, Nat.zero_add]
    exact hk _ _ (nx + 1) _ (by omega) (by omega) (SameB.set (SameB.set (SameB.refl _ _) (Nat.le_refl _) _ _) (by omega) _ _) ((hw.set (nx' := nx + 1) (by omega) (by omega)).set (by omega) (by omega)) (by simp [St.set]; rfl)
theorem cloneM_spec (X : D → Value → Prop) (N : Nat) (r : Option Nat) (b : Nat) (l : List Es.Mark) (hl : l.length ≤ 1000000000) (o : St) (nx : Nat) (K : D → S → Prop) (hw : WfO o nx)
    (hk : ∀ o' nx' f ty, nx ≤ f → f < nx' → SameB nx o o' → WfO o' nx' → o' f 0 = some (.blk 5 l.length ty (rowsOf mrkC l)) → K (.ms f 0 5 0 l.length) ⟨o', nx'⟩) :
    ACall { P := prog, G := gl, X := X, N := N, r := r, b := b } 77 [slD 5 mrkC l] ⟨o, nx⟩ K := by
  refine acall_nil 5 0 (rowsOf mrkC l) ?_
  refine acall_ofA (M := { P := prog, G := gl, X := X, N := N, r := r, b := b }) func77 rfl results77 ntmps77 (by simp) fun b => ?_
  simp only [go_sem, ↓reduceIte, reduceCtorEq, Nat.reduceEqDiff, Nat.reduceLT, Nat.reduceLeDiff, Nat.reduceAdd, Nat.reduceSub, Nat.reduceMul, Nat.reduceGT, Int.reduceNeg, Int.reduceToNat]
  intro q hq
  refine ite_cases (fun h => ?_) (fun h => ?_)
  · have h0 := hq h
    refine .inr ?_
    have := hk (St.set o nx 0 (some (.blk 5 0 0 (rowsOf mrkC l)))) (nx + 1) nx 0 (Nat.le_refl _) (by omega) (SameB.set (SameB.refl _ _) (Nat.le_refl _) _ _) (hw.set (by omega) (by omega)) (by simp [St.set, h0])
    rw [h0] at this; exact this
  · refine ⟨⟨by omega, by omega⟩, ?_⟩
    have hc : ∀ cell, appC cell 0 (rowsOf mrkC l) = rowsOf mrkC l := fun cell => by funext r c; simp [appC]
    rw [hc, Nat.zero_add]
    exact hk _ _ (nx + 1) _ (by omega) (by omega) (SameB.set (SameB.set (SameB.refl _ _) (Nat.le_refl _) _ _) (by omega) _ _) ((hw.set (nx' := nx + 1) (by omega) (by omega)).set (by omega) (by omega)) (by simp [St.set]; rfl)
end Tryz
end Go.Proofs
end
section
namespace Go.Proofs
open Go Go.Abs
set_option linter.unusedSimpArgs false
set_option maxRecDepth 10000
namespace Tryz
/-- A state whose parts can be changed. -/
def stO (day : Int) (fh nh fu nu fm nm : Nat) : D := .agg [.v (.int .i64 day), .ms fh 0 1 0 nh, .ms fu 0 1 0 nu, .ms fm 0 5 0 nm]
@[go_sem] theorem stO_fold (day : Int) (fh nh fu nu fm nm : Nat) : D.agg [.v (.int .i64 day), .ms fh 0 1 0 nh, .ms fu 0 1 0 nu, .ms fm 0 5 0 nm] = stO day fh nh fu nu fm nm := nr rfl
@[go_sem] theorem stO_cells (day : Int) (fh nh fu nu fm nm : Nat) : (stO day fh nh fu nu fm nm).cells? = some [.v (.int .i64 day), .ms fh 0 1 0 nh, .ms fu 0 1 0 nu, .ms fm 0 5 0 nm] := nr rfl
/-- The store holds a state's parts. -/
structure HasSt (o : St) (fh fu fm : Nat) (th tu tm : TypeId) (s : Es.State) : Prop where
  h : o fh 0 = some (.blk 1 s.holders.length th (rowsOf intC s.holders))
  u : o fu 0 = some (.blk 1 s.used.length tu (rowsOf booC s.used))
  m : o fm 0 = some (.blk 5 s.marks.length tm (rowsOf mrkC s.marks))
theorem HasSt.fz {o : St} {nx fh fu fm : Nat} {th tu tm : TypeId} {s : Es.State} (h : HasSt o fh fu fm th tu tm s) : Fz ⟨o, nx⟩ (stO s.day fh s.holders.length fu s.used.length fm s.marks.length) (staD s) :=
  Fz_agg ⟨.v _, fz_rows h.h rfl pu_intC, fz_rows h.u rfl pu_booC, fz_rows h.m rfl pu_mrkC, trivial⟩
structure Fine (c : Es.Contract) (s : Es.State) : Prop where
  len : s.marks.length = c.clauses.length
  cond : ∀ i : Nat, i < c.clauses.length → Es.len (Es.at_ c.clauses (i : Int)).start ≤ 8 ∧ ∀ y ∈ (Es.at_ c.clauses (i : Int)).start, 0 ≤ y.clause ∧ y.clause < Es.len c.clauses
  role : ∀ i : Nat, i < c.clauses.length → (Es.at_ c.clauses (i : Int)).kind ≠ 4 → 0 ≤ (Es.at_ c.clauses (i : Int)).role ∧ (Es.at_ c.clauses (i : Int)).role < Es.len s.holders
theorem setC_mrkA {ms : List Es.Mark} {r : Nat} (hr : r < ms.length) (a b d e : Int) (f : Bool) : setC (rowsOf mrkC ms) r 0 [.v (.int .i64 a), .v (.int .i64 b), .v (.int .i64 d), .v (.int .i64 e), .v (.bool f)] = rowsOf mrkC (ms.set r ⟨a, b, d, e, f⟩) := by
  funext r' c'
  simp only [setC, rowsOf, List.length_cons, List.length_nil]
  by_cases hrr : r' = r
  · subst hrr
    simp only [List.getD_eq_getElem?_getD, List.getElem?_set, hr, if_true, Option.getD_some, true_and]
    rcases c' with _ | _ | _ | _ | _ | c' <;> first | rfl | (rw [if_neg (by omega)]; rfl)
  · rw [if_neg (by omega)]
    simp only [List.getD_eq_getElem?_getD, List.getElem?_set, if_neg (Ne.symm hrr)]
/-- What holds of the store while clauses start. -/
structure BInv (o : St) (nx : Nat) (c : Es.Contract) (s : Es.State) (fh fu fm : Nat) (tm ct sx : TypeId) (ms : List Es.Mark) (st : S) : Prop where
  nxt : nx + 2 ≤ st.nx
  con : st.o nx 0 = some (.blk 7 1 ct (rowOf [.v (.int .i64 c.parties), slD 1 intC c.holders, slD 5 untC c.units, slD 7 actC c.acts, slD 16 clsC c.clauses, .v (.int .i64 c.days), slD 1 intC c.off]))
  sta : st.o (nx + 1) 0 = some (.blk 4 1 sx (rowOf [.v (.int .i64 s.day), .ms fh 0 1 0 s.holders.length, .ms fu 0 1 0 s.used.length, .ms fm 0 5 0 s.marks.length]))
  len : ms.length = s.marks.length
  mrk : st.o fm 0 = some (.blk 5 s.marks.length tm (rowsOf mrkC ms))
  old : ∀ f i, f < nx → ¬ (f = fm ∧ i = 0) → st.o f i = o f i
theorem begin_spec (X : D → Value → Prop) (N : Nat) (r : Option Nat) (b : Nat) (c : Es.Contract) (s : Es.State) (fh fu fm : Nat) (th tu tm : TypeId) (o : St) (nx : Nat) (K : D → S → Prop) (hs : HasSt o fh fu fm th tu tm s) (hx : fh < nx ∧ fu < nx ∧ fm < nx ∧ fh ≠ fm ∧ fu ≠ fm)
    (hF : Fine c s) (hl : c.clauses.length ≤ 400) (hk : ∀ o' nx', Wrote o nx fm tm (Es.begin_ c s).marks o' nx' → K (.tup []) ⟨o', nx'⟩) :
    ACall { P := prog, G := gl, X := X, N := N, r := r, b := b } 58 [conD c, stO s.day fh s.holders.length fu s.used.length fm s.marks.length] ⟨o, nx⟩ K := by
  refine acall_ofA (M := { P := prog, G := gl, X := X, N := N, r := r, b := b }) func58 rfl results58 ntmps58 (by simp) fun b => ?_
  simp only [go_sem, ↓reduceIte, reduceCtorEq, Nat.reduceEqDiff, Nat.reduceLT, Nat.reduceLeDiff, Nat.reduceAdd, Nat.reduceSub, Nat.reduceMul, Nat.reduceGT, Int.reduceNeg, Int.reduceToNat]
  have g1 : (nx = nx + 1) = False := by simp only [eq_iff_iff, iff_false]; omega
  refine awp_loopA (fun n e st => ∃ (ms : List Es.Mark) (q : Bool), e 2 = .mp nx 0 7 0 0 ∧ e 3 = .mp (nx + 1) 0 4 0 0 ∧ e 4 = .v (.bool q) ∧ BInv o nx c s fh fu fm tm 27 38 ms st ∧
      (if q = true then n = Es.idle ms + 1 ∧ Es.begin_ c { s with marks := ms } = Es.begin_ c s else n = 0 ∧ ms = (Es.begin_ c s).marks)) ?_ (n := Es.idle s.marks + 1) ?_
  · rintro n e ⟨o1, nx1⟩ ⟨ms, q, h2, h3, h4, hI, hq⟩
    have hb1 := hI.nxt
    have hb2 := hI.con
    have hb3 := hI.sta
    have hb4 := hI.mrk
    have hb5 := hI.len
    simp only at hb1 hb2 hb3 hb4
    cases q with
    | false =>
      simp only [Bool.false_eq_true, if_false] at hq
      obtain ⟨rfl, hms⟩ := hq
      simp only [go_sem, ↓reduceIte, reduceCtorEq, Nat.reduceEqDiff, Nat.reduceLT, Nat.reduceLeDiff, Nat.reduceAdd, Nat.reduceSub, Nat.reduceMul, Nat.reduceGT, Int.reduceNeg, Int.reduceToNat, h2, h3, h4]
      refine hk _ _ ⟨by omega, ?_, hI.old⟩
      rw [← hms, hb4, hb5]
    | true =>
      simp only [if_true] at hq
      obtain ⟨rfl, hbeg⟩ := hq
      simp only [go_sem, ↓reduceIte, reduceCtorEq, Nat.reduceEqDiff, Nat.reduceLT, Nat.reduceLeDiff, Nat.reduceAdd, Nat.reduceSub, Nat.reduceMul, Nat.reduceGT, Int.reduceNeg, Int.reduceToNat, h2, h3, h4, hb2, hb3]
      refine awp_count0 c.clauses.length (fun e0 s0 k e st => ∃ (ms1 : List Es.Mark) (q1 : Bool), Es.pass c { s with marks := ms } k = (ms1, q1) ∧ e 2 = e0 2 ∧ e 3 = e0 3 ∧ e 9 = e0 9 ∧ e 10 = e0 10 ∧ e 11 = .v (.int .i64 k) ∧ e 4 = .v (.bool q1) ∧ BInv o nx c s fh fu fm tm 27 38 ms1 st) ⟨ms, false, rfl, rfl, rfl, rfl, rfl, ?_, ?_, hI⟩ ?_
      · simp only [go_sem, ↓reduceIte, reduceCtorEq, Nat.reduceEqDiff, Nat.reduceLT, Nat.reduceLeDiff, Nat.reduceAdd, Nat.reduceSub, Nat.reduceMul, Nat.reduceGT, Int.reduceNeg, Int.reduceToNat]; rfl
      · simp only [go_sem, ↓reduceIte, reduceCtorEq, Nat.reduceEqDiff, Nat.reduceLT, Nat.reduceLeDiff, Nat.reduceAdd, Nat.reduceSub, Nat.reduceMul, Nat.reduceGT, Int.reduceNeg, Int.reduceToNat]
      rintro k e' ⟨o2, nx2⟩ hk2 ⟨ms1, q1, hp, a2, a3, a9, a10, a11, a4, hJ⟩
      simp only [go_sem, ↓reduceIte, reduceCtorEq, Nat.reduceEqDiff, Nat.reduceLT, Nat.reduceLeDiff, Nat.reduceAdd, Nat.reduceSub, Nat.reduceMul, Nat.reduceGT, Int.reduceNeg, Int.reduceToNat, h2, h3] at a2 a3 a9 a10
      have c1 := hJ.nxt
      have c2 := hJ.con
      have c3 := hJ.sta
      have c4 := hJ.mrk
      have c5 := hJ.len
      simp only at c1 c2 c3 c4
      have m0 : (nx = nx2) = False := by simp only [eq_iff_iff, iff_false]; omega
      have m1 : (nx + 1 = nx2) = False := by simp only [eq_iff_iff, iff_false]; omega
      have m2 : (fm = nx2) = False := by simp only [eq_iff_iff, iff_false]; omega
      have m3 : (nx2 = fm) = False := by simp only [eq_iff_iff, iff_false]; omega
      have m4 : (nx = fm) = False := by simp only [eq_iff_iff, iff_false]; omega
      have m5 : (nx + 1 = fm) = False := by simp only [eq_iff_iff, iff_false]; omega
      simp only [go_sem, ↓reduceIte, reduceCtorEq, Nat.reduceEqDiff, Nat.reduceLT, Nat.reduceLeDiff, Nat.reduceAdd, Nat.reduceSub, Nat.reduceMul, Nat.reduceGT, Int.reduceNeg, Int.reduceToNat, a2, a3, a9, a10, a11, a4, c2, c3, c4, m0, m1, m2, m3]
      refine ite_cases (fun hlt => ?_) (fun hlt => ?_)
      · have hlt' : k < c.clauses.length := Es.len_lt.1 hlt
        have hlm : k < ms1.length := by have := hF.len; omega
        refine ⟨⟨by omega, hlt⟩, ?_⟩
        have hst := hF.cond k hlt'
        have hml : Es.len ms1 = Es.len c.clauses := by have := hF.len; simp only [Es.len]; omega
        have hr := ready_spec c { s with marks := ms1 } k ⟨by omega, Es.len_lt.2 hlm⟩ hlt (fun x hx => by rw [show Es.len ({ s with marks := ms1 } : Es.State).marks = Es.len c.clauses from hml]; exact hst.2 x hx) (by have := hst.1; simp only [Es.len] at this; omega)
        have hold : ∀ f, f < nx → f ≠ fm → ∀ B, St.set o2 nx2 0 B f 0 = o f 0 := fun f hf hne B => by
          simp only [St.set]; rw [if_neg (by omega)]; exact hJ.old f 0 hf (by omega)
        have hH : ∀ B, HasSt (St.set o2 nx2 0 B) fh fu fm th tu tm { s with marks := ms1 } := fun B =>
          ⟨(hold fh hx.1 hx.2.2.2.1 B).trans hs.h, (hold fu hx.2.1 hx.2.2.2.2 B).trans hs.u, by simp only [St.set]; rw [if_neg (by omega), c4, c5]⟩
        refine lend_at M_P M_G hr gpu (.v _) ⟨(pu_conD _).fz, c5 ▸ (hH _).fz, .v _, trivial⟩ ?_
        simp only [go_sem, ↓reduceIte, reduceCtorEq, Nat.reduceEqDiff, Nat.reduceLT, Nat.reduceLeDiff, Nat.reduceAdd, Nat.reduceSub, Nat.reduceMul, Nat.reduceGT, Int.reduceNeg, Int.reduceToNat, a2, a3, a9, a10, a11, a4, c2, c3, c4, m0, m1, m2, m3]
        have hJ2 : ∀ B, BInv o nx c s fh fu fm tm 27 38 ms1 ⟨St.set o2 nx2 0 B, nx2 + 1⟩ := fun B => ⟨by simp only; omega, by simp only [St.set]; rw [if_neg (by omega)]; exact c2, by simp only [St.set]; rw [if_neg (by omega)]; exact c3, c5,
          by simp only [St.set]; rw [if_neg (by omega)]; exact c4, fun f j hf hne => by simp only [St.set]; rw [if_neg (by omega)]; exact hJ.old f j hf hne⟩
        refine ite_cases (fun hrd => ?_) (fun hrd => ?_)
        · refine ⟨hlt', ms1, q1, ?_, ?_⟩
          · rw [Es.pass_succ, hp]; unfold Es.stepB; rw [if_neg (by simpa using hrd)]
          · simp only [go_sem, ↓reduceIte, reduceCtorEq, Nat.reduceEqDiff, Nat.reduceLT, Nat.reduceLeDiff, Nat.reduceAdd, Nat.reduceSub, Nat.reduceMul, Nat.reduceGT, Int.reduceNeg, Int.reduceToNat, h2, h3, a2, a3, a9, a10, a11, a4]
            exact ⟨by rw [wrap_i64 _ (by omega) (by omega)]; simp, hJ2 _⟩
        · have hrd' : Es.ready c { s with marks := ms1 } k = true := by simpa using hrd
          have hlm' : k < s.marks.length := by omega
          simp only [Nat.zero_add, Int.toNat_natCast, setC_mrkA hlm]
          have hJ3 : ∀ B (m : Es.Mark), BInv o nx c s fh fu fm tm 27 38 (ms1.set k m) ⟨St.set (St.set o2 nx2 0 B) fm 0 (some (.blk 5 s.marks.length tm (rowsOf mrkC (ms1.set k m)))), nx2 + 1⟩ := fun B m => ⟨by simp only; omega,
            by simp only [St.set]; rw [if_neg (by omega), if_neg (by omega)]; exact c2, by simp only [St.set]; rw [if_neg (by omega), if_neg (by omega)]; exact c3, by simpa using c5,
            by simp [St.set], fun f j hf hne => by simp only [St.set]; rw [if_neg hne, if_neg (by omega)]; exact hJ.old f j hf hne⟩
          have hps : ∀ m, m = Es.startMark c { s with marks := ms } (k : Int) → Es.pass c { s with marks := ms } (k + 1) = (ms1.set k m, true) := fun m hm => by
            rw [Es.pass_succ, hp]; unfold Es.stepB; rw [if_pos hrd', hm]
          refine ⟨⟨by omega, by omega⟩, hlm', ?_⟩
          refine ite_cases (fun hkd => ?_) (fun hkd => ?_)
          · have hrole := hF.role k hlt' (by simpa using hkd)
            refine awp_plan ((.op 0 (.op 1 (.op 2 (.op 3 (.op 4 (.op 5 (.op 6 (.op 7 (.op 8 (.op 9 (.op 10 (.op 11 .done))))))))))))) [11] mix (by kernel_rfl) ?_
            have hoh : ∀ B B', St.set (St.set o2 nx2 0 B) fm 0 B' fh 0 = some (.blk 1 s.holders.length th (rowsOf intC s.holders)) := fun B B' => by
              simp only [St.set]; rw [if_neg (by omega), if_neg (by omega)]; exact (hJ.old fh 0 hx.1 (by omega)).trans hs.h
            have hlk : k < (ms1.set k ⟨1, (Es.at_ c.clauses (k : Int)).after, 0, -1, false⟩).length := by simpa using hlm
            simp only [go_sem, ↓reduceIte, reduceCtorEq, Nat.reduceEqDiff, Nat.reduceLT, Nat.reduceLeDiff, Nat.reduceAdd, Nat.reduceSub, Nat.reduceMul, Nat.reduceGT, Int.reduceNeg, Int.reduceToNat, a2, a3, a9, a10, a11, a4, c2, c3, c4, m0, m1, m2, m3, m4, m5, hoh, Nat.zero_add, Int.toNat_natCast]
            have hat : Es.at_ s.holders (((Es.at_ c.clauses (k : Int)).role.toNat : Nat) : Int) = Es.at_ s.holders (Es.at_ c.clauses (k : Int)).role := by
              generalize (Es.at_ c.clauses (k : Int)).role = rl
              unfold Es.at_; rw [Int.toNat_natCast]
            simp only [setC_mrk3 hlk, at_set hlm, List.set_set, hat]
            refine ⟨⟨hrole.1, by have := hrole.2; simp only [Es.len] at this; exact this⟩, by have := hrole.2; simp only [Es.len] at this; omega, ⟨by omega, by omega⟩, hlm', hlt', _, _, hps ⟨1, (Es.at_ c.clauses (k : Int)).after, 0, Es.at_ s.holders (Es.at_ c.clauses (k : Int)).role, false⟩ ?_, ?_⟩
            · unfold Es.startMark; rw [if_pos hkd]
            · simp only [go_sem, ↓reduceIte, reduceCtorEq, Nat.reduceEqDiff, Nat.reduceLT, Nat.reduceLeDiff, Nat.reduceAdd, Nat.reduceSub, Nat.reduceMul, Nat.reduceGT, Int.reduceNeg, Int.reduceToNat, h2, h3, a2, a3, a9, a10, a11, a4]
              exact ⟨by rw [wrap_i64 _ (by omega) (by omega)]; simp, hJ3 _ _⟩
          · refine ⟨hlt', _, _, hps ⟨1, (Es.at_ c.clauses (k : Int)).after, 0, -1, false⟩ ?_, ?_⟩
            · unfold Es.startMark; rw [if_neg hkd]
            · simp only [go_sem, ↓reduceIte, reduceCtorEq, Nat.reduceEqDiff, Nat.reduceLT, Nat.reduceLeDiff, Nat.reduceAdd, Nat.reduceSub, Nat.reduceMul, Nat.reduceGT, Int.reduceNeg, Int.reduceToNat, h2, h3, a2, a3, a9, a10, a11, a4]
              exact ⟨by rw [wrap_i64 _ (by omega) (by omega)]; simp, hJ3 _ _⟩
      · have hkk : k = c.clauses.length := by simp only [Es.len] at hlt; omega
        subst hkk
        have hpi := Es.pass_idle c { s with marks := ms } c.clauses.length (by have := hF.len; simp only; omega)
        rw [hp] at hpi
        cases q1 with
        | true =>
          refine ⟨Es.idle ms1 + 1, by have := hpi.2; simp only [if_true] at this; omega, ms1, true, ?_⟩
          simp only [go_sem, ↓reduceIte, reduceCtorEq, Nat.reduceEqDiff, Nat.reduceLT, Nat.reduceLeDiff, Nat.reduceAdd, Nat.reduceSub, Nat.reduceMul, Nat.reduceGT, Int.reduceNeg, Int.reduceToNat, h2, h3, a2, a3, a9, a10, a11, a4]
          refine ⟨hJ, ?_⟩
          have := Es.beginF_step (c := c) (s := { s with marks := ms }) (by have := hF.len; simp only; omega) (by rw [hp])
          rw [hp] at this
          rw [← hbeg, this]
        | false =>
          refine ⟨0, by omega, ms1, false, ?_⟩
          simp only [go_sem, ↓reduceIte, reduceCtorEq, Nat.reduceEqDiff, Nat.reduceLT, Nat.reduceLeDiff, Nat.reduceAdd, Nat.reduceSub, Nat.reduceMul, Nat.reduceGT, Int.reduceNeg, Int.reduceToNat, h2, h3, a2, a3, a9, a10, a11, a4]
          refine ⟨hJ, ?_⟩
          have := Es.begin_done (c := c) (s := { s with marks := ms }) (by rw [hp])
          rw [hp] at this
          rw [← hbeg, this]
  · refine ⟨s.marks, true, by simp only [go_sem, ↓reduceIte, reduceCtorEq, Nat.reduceEqDiff, Nat.reduceLT, Nat.reduceLeDiff, Nat.reduceAdd, Nat.reduceSub, Nat.reduceMul, Nat.reduceGT, Int.reduceNeg, Int.reduceToNat], by simp only [go_sem, ↓reduceIte, reduceCtorEq, Nat.reduceEqDiff, Nat.reduceLT, Nat.reduceLeDiff, Nat.reduceAdd, Nat.reduceSub, Nat.reduceMul, Nat.reduceGT, Int.reduceNeg, Int.reduceToNat], by simp only [go_sem, ↓reduceIte, reduceCtorEq, Nat.reduceEqDiff, Nat.reduceLT, Nat.reduceLeDiff, Nat.reduceAdd, Nat.reduceSub, Nat.reduceMul, Nat.reduceGT, Int.reduceNeg, Int.reduceToNat], ⟨by simp, ?_, ?_, rfl, ?_, ?_⟩, by simp⟩
    · simp only [St.set]; rw [if_neg (by omega), if_pos ⟨trivial, trivial⟩]
    · simp only [St.set]; rw [if_pos ⟨trivial, trivial⟩]
    · simp only [St.set]; rw [if_neg (by omega), if_neg (by omega)]; exact hs.m
    · intro f j hf hne
      simp only [St.set]; rw [if_neg (by omega), if_neg (by omega)]
end Tryz
end Go.Proofs
end
section
/-
  What the functions of migrate compute, as plain functions.
-/
namespace Es
def voidM (m : Mark) : Mark := if runs m || m.status == 0 then { m with status := 5, left := 0, paused := false } else m
/-- The mark of a clause that is replaced by another one. -/
def replaceM (hs : List Int) (x y : Clause) (m : Mark) : Mark :=
  if y.waived then voidM m
  else if !runs m then m
  else if x.kind != y.kind then ⟨1, y.after, 0, if y.kind == 4 then -1 else if x.kind == 4 then at_ hs y.role else m.bearer, false⟩
  else if y.kind == 1 && decide (y.need ≤ m.got) then ⟨3, 0, m.got, m.bearer, false⟩
  else if m.status == 1 then ⟨1, max 1 (m.left + y.after - x.after), m.got, m.bearer, m.paused && decide (0 ≤ y.pause)⟩
  else if y.grace == 0 then ⟨1, 1, m.got, m.bearer, m.paused && decide (0 ≤ y.pause)⟩
  else ⟨m.status, max 1 (m.left + y.grace - x.grace), m.got, m.bearer, m.paused && decide (0 ≤ y.pause)⟩
def spanM (n : Int) (x : Clause) (m : Mark) : Mark := if m.status == 1 then { m with left := max 1 (m.left + n - x.after) } else m
/-- What a patch does to the mark of a clause that it names. -/
def changeM (c : Contract) (p : Patch) (hs : List Int) (i : Int) (m : Mark) : Mark :=
  if p.kind == 2 then replaceM hs (at_ c.clauses i) p.new m else if p.kind == 5 then spanM p.days (at_ c.clauses i) m else voidM m
def markAt (c : Contract) (p : Patch) (hs : List Int) (ms : List Mark) (i : Int) : List Mark := ms.set i.toNat (changeM c p hs i (at_ ms i))
def marksF (c : Contract) (p : Patch) (s : State) : List Mark := p.clauses.foldl (markAt c p s.holders) s.marks
def marksP (c : Contract) (p : Patch) (s : State) : List Mark := if p.kind == 1 then marksF c p s ++ [⟨if p.new.waived then 5 else 0, 0, 0, -1, false⟩] else marksF c p s
def zeroSt : State := ⟨0, [], [], []⟩
def migrate (c : Contract) (p : Patch) (s : State) : State × Int :=
  if !sValid c s then (zeroSt, 1)
  else if !((applyP c p).2 == 0) then (zeroSt, (applyP c p).2)
  else (begin_ (applyP c p).1 { s with marks := marksP c p s }, 0)
/-- What amendments up to a day leave of the contract, of a state, and of the amendments. -/
def applyU (u : Int) : List Amend → Contract → Contract × List Amend
  | [], c => (c, [])
  | a :: l, c => if decide (a.day ≤ u) then applyU u l (if (applyP c a.patch).2 == 0 then (applyP c a.patch).1 else c) else (c, a :: l)
def applyS (u : Int) : List Amend → Contract → State → Contract × State × List Amend
  | [], c, s => (c, s, [])
  | a :: l, c, s => if decide (a.day ≤ u) then (if (applyP c a.patch).2 == 0 then applyS u l (applyP c a.patch).1 (migrate c a.patch s).1 else applyS u l c s) else (c, s, a :: l)
structure Stg where
  con : Contract
  st : State
  err : Int
instance : Inhabited Stg := ⟨⟨default, default, 0⟩⟩
/-- The stages after the first one; nothing follows a step that is refused. -/
def stagesF : Contract → State → List Amend → List Int → List Stg
  | _, _, _, [] => []
  | c, s, l, k :: tr =>
    if !((step c s k).2 == 0) then [⟨c, (step c s k).1, (step c s k).2⟩]
    else if k == -1 then
      ⟨(applyS (step c s k).1.day l c (step c s k).1).1, (applyS (step c s k).1.day l c (step c s k).1).2.1, 0⟩ :: stagesF (applyS (step c s k).1.day l c (step c s k).1).1 (applyS (step c s k).1.day l c (step c s k).1).2.1 (applyS (step c s k).1.day l c (step c s k).1).2.2 tr
    else ⟨c, (step c s k).1, 0⟩ :: stagesF c (step c s k).1 l tr
def stagesA (c : Contract) (l : List Amend) (tr : List Int) : List Stg :=
  ⟨(applyU 0 l c).1, (start (applyU 0 l c).1).1, (start (applyU 0 l c).1).2⟩ :: (if (start (applyU 0 l c).1).2 == 0 then stagesF (applyU 0 l c).1 (start (applyU 0 l c).1).1 (applyU 0 l c).2 tr else [])
/-- The amendments that are known, in the order. -/
def todoA (l : List Amend) (known : Int) : List Amend := (sortedA l).filter fun a => decide (a.known ≤ known)
/-- Contracts and states up to the first error. -/
def runG (c : Contract) (l : List Amend) (known : Int) (tr : List Int) : List Contract × List State × Int :=
  if !((start c).2 == 0) then ([], [], (start c).2)
  else if decide (60 < len l) || decide (4000 < len tr) then ([], [], 3)
  else match (stagesA c (todoA l known) tr).find? (fun z => z.err != 0) with
    | some z => ([], [], z.err)
    | none => ((stagesA c (todoA l known) tr).map (·.con), (stagesA c (todoA l known) tr).map (·.st), 0)
end Es
end
section
namespace Go.Proofs
open Go Go.Abs
set_option linter.unusedSimpArgs false
set_option linter.unusedVariables false
set_option maxRecDepth 10000
namespace Tryz
theorem mruns_spec (m : Es.Mark) : APure M 66 [mrkD m] (.v (.bool (Es.runs m))) := by
  refine pure_of gpu func66 rfl results66 ntmps66 (by simp) ⟨pu_mrkD _, trivial⟩ ?_
  intro b
  simp only [go_sem, ↓reduceIte, reduceCtorEq, Nat.reduceEqDiff, Nat.reduceLT, Nat.reduceLeDiff, Nat.reduceAdd, Nat.reduceSub, Nat.reduceMul, Nat.reduceGT, Int.reduceNeg, Int.reduceToNat]
  repeat' (first | (with_reducible refine And.intro ?_ ?_) | ((with_reducible refine ite_cases ?_ ?_) <;> intro _))
  all_goals first | (simp [Es.runs, *]; done) | (simp [Es.runs, *]; omega) | (simp_all [Es.runs]; done) | (simp_all [Es.runs]; omega)
theorem wrote_put {o : St} {nx fm i : Nat} {ty : TypeId} {ms : List Es.Mark} {m m' : Es.Mark} (hf : fm < nx) (hi : i < ms.length) (h : m = m') : Wrote o nx fm ty (ms.set i m') (St.set o fm 0 (some (.blk 5 ms.length ty (rowsOf mrkC (ms.set i m))))) nx := by
  subst h
  exact ⟨Nat.le_refl _, by simp [St.set], fun f j _ hne => by simp only [St.set]; rw [if_neg hne]⟩
theorem wrote_id {o : St} {nx fm i : Nat} {ty : TypeId} {ms : List Es.Mark} {m' : Es.Mark} (ho : o fm 0 = some (.blk 5 ms.length ty (rowsOf mrkC ms))) (hi : i < ms.length) (h : m' = Es.at_ ms (i : Int)) : Wrote o nx fm ty (ms.set i m') o nx := by
  subst h
  rw [set_at hi]
  exact ⟨Nat.le_refl _, ho, fun f j _ _ => rfl⟩
theorem void_spec (X : D → Value → Prop) (N : Nat) (r : Option Nat) (b : Nat) (fm i n : Nat) (ty : TypeId) (ms : List Es.Mark) (o : St) (nx : Nat) (K : D → S → Prop) (hf : fm < nx) (ho : o fm 0 = some (.blk 5 n ty (rowsOf mrkC ms))) (hn : n = ms.length) (hi : i < n)
    (hk : ∀ o' nx', Wrote o nx fm ty (ms.set i (Es.voidM (Es.at_ ms (i : Int)))) o' nx' → K (.tup []) ⟨o', nx'⟩) :
    ACall { P := prog, G := gl, X := X, N := N, r := r, b := b } 49 [.mp fm 0 5 i 0] ⟨o, nx⟩ K := by
  subst hn
  refine acall_ofA (M := { P := prog, G := gl, X := X, N := N, r := r, b := b }) func49 rfl results49 ntmps49 (by simp) fun b => ?_
  simp only [go_sem, ↓reduceIte, reduceCtorEq, Nat.reduceEqDiff, Nat.reduceLT, Nat.reduceLeDiff, Nat.reduceAdd, Nat.reduceSub, Nat.reduceMul, Nat.reduceGT, Int.reduceNeg, Int.reduceToNat]
  have n0 : (fm = nx) = False := by simp only [eq_iff_iff, iff_false]; omega
  have n1 : (nx = fm) = False := by simp only [eq_iff_iff, iff_false]; omega
  simp only [go_sem, ↓reduceIte, reduceCtorEq, Nat.reduceEqDiff, Nat.reduceLT, Nat.reduceLeDiff, Nat.reduceAdd, Nat.reduceSub, Nat.reduceMul, Nat.reduceGT, Int.reduceNeg, Int.reduceToNat, ho, n0, n1, setC_mrk0, setC_mrk1, setC_mrk4, at_set, hi, List.length_set, List.set_set]
  refine call_at M_P M_G (mruns_spec _) ?_
  simp only [go_sem, ↓reduceIte, reduceCtorEq, Nat.reduceEqDiff, Nat.reduceLT, Nat.reduceLeDiff, Nat.reduceAdd, Nat.reduceSub, Nat.reduceMul, Nat.reduceGT, Int.reduceNeg, Int.reduceToNat, ho, n0, n1, setC_mrk0, setC_mrk1, setC_mrk4, at_set, hi, List.length_set, List.set_set]
  repeat' (first | (with_reducible refine And.intro ?_ ?_) | ((with_reducible refine ite_cases ?_ ?_) <;> intro _))
  all_goals first
    | exact hk _ _ (wrote_put hf hi (by unfold Es.voidM; rw [if_pos (by simp_all)]))
    | exact hk _ _ (wrote_id ho hi (by unfold Es.voidM; rw [if_neg (by simp_all)]))
/-- A state whose marks alone can be changed. -/
def stM (day : Int) (hs : List Int) (us : List Bool) (fm n : Nat) : D := .agg [.v (.int .i64 day), slD 1 intC hs, slD 1 booC us, .ms fm 0 5 0 n]
@[go_sem] theorem stM_fold (day : Int) (hs : List Int) (us : List Bool) (fm n : Nat) : D.agg [.v (.int .i64 day), slD 1 intC hs, slD 1 booC us, .ms fm 0 5 0 n] = stM day hs us fm n := nr rfl
@[go_sem] theorem stM_cells (day : Int) (hs : List Int) (us : List Bool) (fm n : Nat) : (stM day hs us fm n).cells? = some [.v (.int .i64 day), slD 1 intC hs, slD 1 booC us, .ms fm 0 5 0 n] := nr rfl
set_option maxHeartbeats 2000000 in
theorem replace_spec (X : D → Value → Prop) (N : Nat) (r : Option Nat) (b : Nat) (day : Int) (hs : List Int) (us : List Bool) (x y : Es.Clause) (fm i n : Nat) (ty : TypeId) (ms : List Es.Mark) (o : St) (nx : Nat) (K : D → S → Prop) (hf : fm < nx) (ho : o fm 0 = some (.blk 5 n ty (rowsOf mrkC ms))) (hn : n = ms.length) (hi : i < n)
    (hr : y.waived = false → Es.runs (Es.at_ ms (i : Int)) = true → (y.kind ≠ 4 → 0 ≤ y.role ∧ y.role < Es.len hs) ∧ (0 ≤ (Es.at_ ms (i : Int)).left ∧ (Es.at_ ms (i : Int)).left ≤ 1000000) ∧ (0 ≤ y.after ∧ y.after ≤ 1000000) ∧ (0 ≤ x.after ∧ x.after ≤ 1000000) ∧ (0 ≤ y.grace ∧ y.grace ≤ 1000000) ∧ (0 ≤ x.grace ∧ x.grace ≤ 1000000))
    (hk : ∀ o' nx', Wrote o nx fm ty (ms.set i (Es.replaceM hs x y (Es.at_ ms (i : Int)))) o' nx' → K (.tup []) ⟨o', nx'⟩) :
    ACall { P := prog, G := gl, X := X, N := N, r := r, b := b } 46 [stM day hs us fm n, clsD x, clsD y, .mp fm 0 5 i 0] ⟨o, nx⟩ K := by
  subst hn
  refine acall_ofA (M := { P := prog, G := gl, X := X, N := N, r := r, b := b }) func46 rfl results46 ntmps46 (by simp) fun b => ?_
  simp only [go_sem, ↓reduceIte, reduceCtorEq, Nat.reduceEqDiff, Nat.reduceLT, Nat.reduceLeDiff, Nat.reduceAdd, Nat.reduceSub, Nat.reduceMul, Nat.reduceGT, Int.reduceNeg, Int.reduceToNat]
  have e0 : ∀ {a b : Nat}, a ≠ b → (a = b) = False := fun h => by simp [h]
  have z1 : (nx = nx + 1) = False := e0 (by omega); have z2 : (nx = nx + 1 + 1) = False := e0 (by omega); have z3 : (nx = fm) = False := e0 (by omega); have z4 : (nx + 1 = nx) = False := e0 (by omega); have z5 : (nx + 1 = nx + 1 + 1) = False := e0 (by omega); have z6 : (nx + 1 = fm) = False := e0 (by omega); have z7 : (nx + 1 + 1 = nx) = False := e0 (by omega); have z8 : (nx + 1 + 1 = nx + 1) = False := e0 (by omega); have z9 : (nx + 1 + 1 = fm) = False := e0 (by omega); have z10 : (fm = nx) = False := e0 (by omega); have z11 : (fm = nx + 1) = False := e0 (by omega); have z12 : (fm = nx + 1 + 1) = False := e0 (by omega)
  have hbox : ∀ {o' nx'} {B0 B1 B2 : Option SObj} {M}, Wrote (St.set (St.set (St.set o nx 0 B0) (nx + 1) 0 B1) (nx + 1 + 1) 0 B2) (nx + 1 + 1 + 1) fm ty M o' nx' → Wrote o nx fm ty M o' nx' := fun {o' nx'} {B0 B1 B2} {M} h => by
    refine ⟨by have := h.1; omega, h.2.1, fun f j hf' hne => ?_⟩
    rw [h.2.2 f j (by omega) hne]
    simp only [St.set]; rw [if_neg (by omega), if_neg (by omega), if_neg (by omega)]
  simp only [go_sem, ↓reduceIte, reduceCtorEq, Nat.reduceEqDiff, Nat.reduceLT, Nat.reduceLeDiff, Nat.reduceAdd, Nat.reduceSub, Nat.reduceMul, Nat.reduceGT, Int.reduceNeg, Int.reduceToNat, ho, z1, z2, z3, z4, z5, z6, z7, z8, z9, z10, z11, z12, setC_mrk0, setC_mrk1, setC_mrk4, at_set, hi, List.length_set, List.set_set]
  refine ite_cases (fun hw => ?_) (fun hw => ?_)
  · refine void_spec _ _ _ _ fm i _ ty ms _ _ _ (by omega) (by simp only [go_sem, ↓reduceIte, reduceCtorEq, Nat.reduceEqDiff, Nat.reduceLT, Nat.reduceLeDiff, Nat.reduceAdd, Nat.reduceSub, Nat.reduceMul, Nat.reduceGT, Int.reduceNeg, Int.reduceToNat, ho, z1, z2, z3, z4, z5, z6, z7, z8, z9, z10, z11, z12]) rfl hi fun o' nx' hw' => ?_
    simp only [go_sem, ↓reduceIte, reduceCtorEq, Nat.reduceEqDiff, Nat.reduceLT, Nat.reduceLeDiff, Nat.reduceAdd, Nat.reduceSub, Nat.reduceMul, Nat.reduceGT, Int.reduceNeg, Int.reduceToNat]
    refine hk _ _ ?_
    rw [show Es.replaceM hs x y (Es.at_ ms (i : Int)) = Es.voidM (Es.at_ ms (i : Int)) by unfold Es.replaceM; rw [if_pos hw]]
    exact hbox hw'
  refine call_at M_P M_G (mruns_spec _) ?_
  simp only [go_sem, ↓reduceIte, reduceCtorEq, Nat.reduceEqDiff, Nat.reduceLT, Nat.reduceLeDiff, Nat.reduceAdd, Nat.reduceSub, Nat.reduceMul, Nat.reduceGT, Int.reduceNeg, Int.reduceToNat, ho, z1, z2, z3, z4, z5, z6, z7, z8, z9, z10, z11, z12, setC_mrk0, setC_mrk1, setC_mrk4, at_set, hi, List.length_set, List.set_set]
  have hyw : y.waived = false := by simpa using hw
  have hfin : ∀ {B0 B1 B2 : Option SObj} {m}, m = Es.replaceM hs x y (Es.at_ ms (i : Int)) → K (.tup []) ⟨St.set (St.set (St.set (St.set o nx 0 B0) (nx + 1) 0 B1) (nx + 1 + 1) 0 B2) fm 0 (some (.blk 5 ms.length ty (rowsOf mrkC (ms.set i m)))), nx + 1 + 1 + 1⟩ := fun {B0 B1 B2} {m} h => by
    subst h
    exact hk _ _ ⟨by omega, by simp [St.set], fun f j hfj hne => by simp only [St.set]; rw [if_neg hne, if_neg (by omega), if_neg (by omega), if_neg (by omega)]⟩
  refine ite_cases (fun hru => ?_) (fun hru => ?_)
  · refine hk _ _ ⟨by omega, ?_, fun f j hfj hne => by simp only [St.set]; rw [if_neg (by omega), if_neg (by omega), if_neg (by omega)]⟩
    rw [show Es.replaceM hs x y (Es.at_ ms (i : Int)) = Es.at_ ms (i : Int) by unfold Es.replaceM; rw [if_neg (by simp [hyw]), if_pos hru], set_at hi]
    simp only [go_sem, ↓reduceIte, reduceCtorEq, Nat.reduceEqDiff, Nat.reduceLT, Nat.reduceLeDiff, Nat.reduceAdd, Nat.reduceSub, Nat.reduceMul, Nat.reduceGT, Int.reduceNeg, Int.reduceToNat, ho, z1, z2, z3, z4, z5, z6, z7, z8, z9, z10, z11, z12]
  have hru' : Es.runs (Es.at_ ms (i : Int)) = true := by simpa using hru
  obtain ⟨hrole, ⟨l0, l1⟩, ⟨a0, a1⟩, ⟨b0, b1⟩, ⟨c0, c1⟩, ⟨d0, d1⟩⟩ := hr hyw hru'
  have hst : (Es.at_ ms (i : Int)).status = 1 ∨ (Es.at_ ms (i : Int)).status = 2 := by simpa [Es.runs] using hru'
  have hR : Es.replaceM hs x y (Es.at_ ms (i : Int)) = if x.kind != y.kind then ⟨1, y.after, 0, if y.kind == 4 then -1 else if x.kind == 4 then Es.at_ hs y.role else (Es.at_ ms (i : Int)).bearer, false⟩
      else if y.kind == 1 && decide (y.need ≤ (Es.at_ ms (i : Int)).got) then ⟨3, 0, (Es.at_ ms (i : Int)).got, (Es.at_ ms (i : Int)).bearer, false⟩
      else if (Es.at_ ms (i : Int)).status == 1 then ⟨1, max 1 ((Es.at_ ms (i : Int)).left + y.after - x.after), (Es.at_ ms (i : Int)).got, (Es.at_ ms (i : Int)).bearer, (Es.at_ ms (i : Int)).paused && decide (0 ≤ y.pause)⟩
      else if y.grace == 0 then ⟨1, 1, (Es.at_ ms (i : Int)).got, (Es.at_ ms (i : Int)).bearer, (Es.at_ ms (i : Int)).paused && decide (0 ≤ y.pause)⟩
      else ⟨(Es.at_ ms (i : Int)).status, max 1 ((Es.at_ ms (i : Int)).left + y.grace - x.grace), (Es.at_ ms (i : Int)).got, (Es.at_ ms (i : Int)).bearer, (Es.at_ ms (i : Int)).paused && decide (0 ≤ y.pause)⟩ := by
    unfold Es.replaceM; rw [if_neg (by simp [hyw]), if_neg hru]
  clear hr
  have w1 : IntKind.i64.wrap ((Es.at_ ms (i : Int)).left + y.after) = (Es.at_ ms (i : Int)).left + y.after := wrap_i64 _ (by omega) (by omega)
  have w2 : IntKind.i64.wrap ((Es.at_ ms (i : Int)).left + y.after - x.after) = (Es.at_ ms (i : Int)).left + y.after - x.after := wrap_i64 _ (by omega) (by omega)
  have w3 : IntKind.i64.wrap ((Es.at_ ms (i : Int)).left + y.grace) = (Es.at_ ms (i : Int)).left + y.grace := wrap_i64 _ (by omega) (by omega)
  have w4 : IntKind.i64.wrap ((Es.at_ ms (i : Int)).left + y.grace - x.grace) = (Es.at_ ms (i : Int)).left + y.grace - x.grace := wrap_i64 _ (by omega) (by omega)
  refine ite_cases (fun hkd => ?_) (fun hkd => ?_)
  · have hy4 : y.kind ≠ 4 → 0 ≤ y.role ∧ y.role < Es.len hs := hrole
    simp only [setC_mrkA hi]
    repeat' (first | (with_reducible refine And.intro ?_ ?_) | ((with_reducible refine ite_cases ?_ ?_) <;> intro _))
    all_goals first
      | (refine hfin ?_; rw [hR, if_pos hkd]; simp_all; done)
      | (have := hy4 (by simpa using ‹¬ (y.kind == 4) = true›); omega)
  rw [if_neg hkd] at hR
  have hg : ms.getD i default = Es.at_ ms (i : Int) := by simp [Es.at_]
  refine awp_plan ((.op 0 (.op 1 (.op 2 (.op 3 (.op 4 (.op 5 (.op 6 (.op 7 (.op 8 (.op 9 (.op 10 (.op 11 (.op 12 .done)))))))))))))) [] mix (by kernel_rfl) ?_
  simp only [go_sem, ↓reduceIte, reduceCtorEq, Nat.reduceEqDiff, Nat.reduceLT, Nat.reduceLeDiff, Nat.reduceAdd, Nat.reduceSub, Nat.reduceMul, Nat.reduceGT, Int.reduceNeg, Int.reduceToNat, ho, z1, z2, z3, z4, z5, z6, z7, z8, z9, z10, z11, z12]
  repeat' (first | (with_reducible refine And.intro ?_ ?_) | ((with_reducible refine ite_cases ?_ ?_) <;> intro _))
  all_goals try (first | exact hi | omega)
  all_goals try with_reducible refine awp_plan (id := 18) ((.op 0 (.op 1 (.op 2 (.op 3 (.op 4 (.op 5 (.op 6 (.op 7 (.op 8 (.op 9 (.op 10 (.op 11 .done))))))))))))) [11] mix (by kernel_rfl) ?_
  all_goals try simp only [go_sem, ↓reduceIte, reduceCtorEq, Nat.reduceEqDiff, Nat.reduceLT, Nat.reduceLeDiff, Nat.reduceAdd, Nat.reduceSub, Nat.reduceMul, Nat.reduceGT, Int.reduceNeg, Int.reduceToNat, ho, z1, z2, z3, z4, z5, z6, z7, z8, z9, z10, z11, z12, setC_mrk0, setC_mrk1, setC_mrk4, setC_mrkA hi, at_set, hi, List.length_set, List.set_set, w1, w2, w3, w4]
  all_goals repeat' (first | (with_reducible refine And.intro ?_ ?_) | ((with_reducible refine ite_cases ?_ ?_) <;> intro _))
  all_goals try (first | exact hi | omega | (refine hfin ?_; rw [hR]; clear hfin hR hbox hk ho hrole hru hru' hf hi w1 w2 w3 w4 e0 z1 z2 z3 z4 z5 z6 z7 z8 z9 z10 z11 z12; simp only [hg] at *; clear hg; generalize Es.at_ ms (i : Int) = m at *; first | (simp_all; done) | (have hng : ¬ y.need ≤ m.got := (by assumption); simp_all only [Bool.not_eq_true, beq_iff_eq, bne_iff_ne, ne_eq, Bool.and_eq_true, decide_eq_true_eq, if_true, if_false, Bool.true_and, Bool.false_and]; simp_all; done) | (simp_all; omega)))
  all_goals try with_reducible refine awp_plan (id := 4) ((.op 0 (.op 1 (.op 2 (.op 3 (.op 4 (.op 5 (.op 6 (.op 7 (.op 8 (.op 9 (.op 10 (.op 11 (.op 12 (.op 13 (.op 14 .done)))))))))))))))) [14] mix (by kernel_rfl) ?_
  all_goals try simp only [go_sem, ↓reduceIte, reduceCtorEq, Nat.reduceEqDiff, Nat.reduceLT, Nat.reduceLeDiff, Nat.reduceAdd, Nat.reduceSub, Nat.reduceMul, Nat.reduceGT, Int.reduceNeg, Int.reduceToNat, ho, z1, z2, z3, z4, z5, z6, z7, z8, z9, z10, z11, z12, setC_mrk0, setC_mrk1, setC_mrk4, setC_mrkA hi, at_set, hi, List.length_set, List.set_set, w1, w2, w3, w4]
  all_goals repeat' (first | (with_reducible refine And.intro ?_ ?_) | ((with_reducible refine ite_cases ?_ ?_) <;> intro _))
  all_goals try (first | exact hi | omega | (refine hfin ?_; rw [hR]; clear hfin hR hbox hk ho hrole hru hru' hf hi w1 w2 w3 w4 e0 z1 z2 z3 z4 z5 z6 z7 z8 z9 z10 z11 z12; simp only [hg] at *; clear hg; generalize Es.at_ ms (i : Int) = m at *; first | (simp_all; done) | (have hng : ¬ y.need ≤ m.got := (by assumption); simp_all only [Bool.not_eq_true, beq_iff_eq, bne_iff_ne, ne_eq, Bool.and_eq_true, decide_eq_true_eq, if_true, if_false, Bool.true_and, Bool.false_and]; simp_all; done) | (simp_all; omega)))
  all_goals try with_reducible refine awp_plan (id := 2) ((.op 0 (.op 1 (.op 2 (.op 3 (.op 4 (.op 5 (.op 6 (.op 7 (.op 8 (.op 9 (.op 10 (.op 11 (.op 12 (.op 13 (.op 14 .done)))))))))))))))) [14] mix (by kernel_rfl) ?_
  all_goals try simp only [go_sem, ↓reduceIte, reduceCtorEq, Nat.reduceEqDiff, Nat.reduceLT, Nat.reduceLeDiff, Nat.reduceAdd, Nat.reduceSub, Nat.reduceMul, Nat.reduceGT, Int.reduceNeg, Int.reduceToNat, ho, z1, z2, z3, z4, z5, z6, z7, z8, z9, z10, z11, z12, setC_mrk0, setC_mrk1, setC_mrk4, setC_mrkA hi, at_set, hi, List.length_set, List.set_set, w1, w2, w3, w4]
  all_goals repeat' (first | (with_reducible refine And.intro ?_ ?_) | ((with_reducible refine ite_cases ?_ ?_) <;> intro _))
  all_goals try (first | exact hi | omega | (refine hfin ?_; rw [hR]; clear hfin hR hbox hk ho hrole hru hru' hf hi w1 w2 w3 w4 e0 z1 z2 z3 z4 z5 z6 z7 z8 z9 z10 z11 z12; simp only [hg] at *; clear hg; generalize Es.at_ ms (i : Int) = m at *; first | (simp_all; done) | (have hng : ¬ y.need ≤ m.got := (by assumption); simp_all only [Bool.not_eq_true, beq_iff_eq, bne_iff_ne, ne_eq, Bool.and_eq_true, decide_eq_true_eq, if_true, if_false, Bool.true_and, Bool.false_and]; simp_all; done) | (simp_all; omega)))
end Tryz
end Go.Proofs
end
section
namespace Go.Proofs
open Go Go.Abs
set_option linter.unusedSimpArgs false
set_option maxRecDepth 10000
namespace Tryz
theorem sclone_spec (X : D → Value → Prop) (N : Nat) (r : Option Nat) (b : Nat) (s : Es.State) (hl : s.holders.length ≤ 1000000000 ∧ s.used.length ≤ 1000000000 ∧ s.marks.length ≤ 1000000000) (o : St) (nx : Nat) (K : D → S → Prop) (hw : WfO o nx)
    (hk : ∀ o' nx' fh fu fm th tu tm, nx ≤ fh ∧ fh < nx' ∧ nx ≤ fu ∧ fu < nx' ∧ nx ≤ fm ∧ fm < nx' ∧ fh ≠ fm ∧ fu ≠ fm ∧ fh ≠ fu → SameB nx o o' → WfO o' nx' → HasSt o' fh fu fm th tu tm s →
      K (stO s.day fh s.holders.length fu s.used.length fm s.marks.length) ⟨o', nx'⟩) :
    ACall { P := prog, G := gl, X := X, N := N, r := r, b := b } 62 [staD s] ⟨o, nx⟩ K := by
  refine acall_ofA (M := { P := prog, G := gl, X := X, N := N, r := r, b := b }) func62 rfl results62 ntmps62 (by simp) fun b => ?_
  simp only [go_sem, ↓reduceIte, reduceCtorEq, Nat.reduceEqDiff, Nat.reduceLT, Nat.reduceLeDiff, Nat.reduceAdd, Nat.reduceSub, Nat.reduceMul, Nat.reduceGT, Int.reduceNeg, Int.reduceToNat]
  have g1 : (nx = nx + 1) = False := by simp only [eq_iff_iff, iff_false]; omega
  refine awp_plan ((.op 0 (.op 1 (.op 3 (.op 4 (.op 6 (.op 7 (.op 2 (.op 9 (.op 5 (.op 8 (.op 10 (.op 11 (.op 12 (.op 13 (.op 14 .done)))))))))))))))) [10, 12, 14] mix (by kernel_rfl) ?_
  simp only [go_sem, ↓reduceIte, reduceCtorEq, Nat.reduceEqDiff, Nat.reduceLT, Nat.reduceLeDiff, Nat.reduceAdd, Nat.reduceSub, Nat.reduceMul, Nat.reduceGT, Int.reduceNeg, Int.reduceToNat, g1]
  have hw0 : ∀ B B', WfO (St.set (St.set o nx 0 B) (nx + 1) 0 B') (nx + 1 + 1) := fun B B' => (hw.set (nx' := nx + 1) (by omega) (by omega)).set (by omega) (by omega)
  refine cloneI_spec _ _ _ _ s.holders hl.1 _ _ _ (hw0 _ _) fun o1 n1 f1 t1 p1 p1' q1 w1 r1 => ?_
  have a0 := q1 nx 0 (by omega)
  have a1 := q1 (nx + 1) 0 (by omega)
  simp only [go_sem, ↓reduceIte, reduceCtorEq, Nat.reduceEqDiff, Nat.reduceLT, Nat.reduceLeDiff, Nat.reduceAdd, Nat.reduceSub, Nat.reduceMul, Nat.reduceGT, Int.reduceNeg, Int.reduceToNat, g1] at a0 a1
  simp only [go_sem, ↓reduceIte, reduceCtorEq, Nat.reduceEqDiff, Nat.reduceLT, Nat.reduceLeDiff, Nat.reduceAdd, Nat.reduceSub, Nat.reduceMul, Nat.reduceGT, Int.reduceNeg, Int.reduceToNat, g1]
  refine ⟨keeps_of (hw0 _ _) q1, ?_⟩
  refine cloneB_spec _ _ _ _ s.used hl.2.1 _ _ _ w1 fun o2 n2 f2 t2 p2 p2' q2 w2 r2 => ?_
  simp only [go_sem, ↓reduceIte, reduceCtorEq, Nat.reduceEqDiff, Nat.reduceLT, Nat.reduceLeDiff, Nat.reduceAdd, Nat.reduceSub, Nat.reduceMul, Nat.reduceGT, Int.reduceNeg, Int.reduceToNat, g1]
  refine ⟨keeps_of w1 q2, ?_⟩
  refine cloneM_spec _ _ _ _ s.marks hl.2.2 _ _ _ w2 fun o3 n3 f3 t3 p3 p3' q3 w3 r3 => ?_
  have b0 := (q3 nx 0 (by omega)).trans ((q2 nx 0 (by omega)).trans a0)
  have b1 := (q3 (nx + 1) 0 (by omega)).trans ((q2 (nx + 1) 0 (by omega)).trans a1)
  have c1 := (q3 f1 0 (by omega)).trans ((q2 f1 0 (by omega)).trans r1)
  have c2 := (q3 f2 0 (by omega)).trans r2
  have g2 : (nx + 1 = nx) = False := by simp only [eq_iff_iff, iff_false]; omega
  simp only [go_sem, ↓reduceIte, reduceCtorEq, Nat.reduceEqDiff, Nat.reduceLT, Nat.reduceLeDiff, Nat.reduceAdd, Nat.reduceSub, Nat.reduceMul, Nat.reduceGT, Int.reduceNeg, Int.reduceToNat, g1, g2, b0, b1]
  refine ⟨keeps_of w2 q3, ?_⟩
  have hs3 : SameB nx o o3 := fun f i hf => by
    rw [q3 f i (by omega), q2 f i (by omega), q1 f i (by omega)]
    simp only [St.set]; rw [if_neg (by omega), if_neg (by omega)]
  refine hk _ _ f1 f2 f3 t1 t2 t3 (by omega) (SameB.set (SameB.set hs3 (by omega) _ _) (by omega) _ _) ((w3.set (nx' := n3) (by omega) (Nat.le_refl _)).set (by omega) (Nat.le_refl _)) ⟨?_, ?_, ?_⟩
  · simp only [St.set]; rw [if_neg (by omega), if_neg (by omega)]; exact c1
  · simp only [St.set]; rw [if_neg (by omega), if_neg (by omega)]; exact c2
  · simp only [St.set]; rw [if_neg (by omega), if_neg (by omega)]; exact r3
end Tryz
end Go.Proofs
end
section
namespace Go.Proofs
open Go Go.Abs
set_option linter.unusedSimpArgs false
set_option maxRecDepth 10000
namespace Tryz
theorem running_spec (X : D → Value → Prop) (N : Nat) (r : Option Nat) (b : Nat) (c : Es.Contract) (day : Int) (fh nh fu nu fm nm : Nat) (o : St) (nx : Nat) (K : D → S → Prop)
    (hk : K (.fn (.func 96) [.mp (nx + 1) 0 4 0 0, .mp nx 0 7 0 0])
      ⟨St.set (St.set o nx 0 (some (.blk 7 1 27 (rowOf [.v (.int .i64 c.parties), slD 1 intC c.holders, slD 5 untC c.units, slD 7 actC c.acts, slD 16 clsC c.clauses, .v (.int .i64 c.days), slD 1 intC c.off])))) (nx + 1) 0 (some (.blk 4 1 38 (rowOf [.v (.int .i64 day), .ms fh 0 1 0 nh, .ms fu 0 1 0 nu, .ms fm 0 5 0 nm]))), nx + 1 + 1⟩) :
    ACall { P := prog, G := gl, X := X, N := N, r := r, b := b } 79 [conD c, stO day fh nh fu nu fm nm] ⟨o, nx⟩ K := by
  refine acall_ofA (M := { P := prog, G := gl, X := X, N := N, r := r, b := b }) func79 rfl results79 ntmps79 (by simp) fun b => ?_
  simp only [go_sem, ↓reduceIte, reduceCtorEq, Nat.reduceEqDiff, Nat.reduceLT, Nat.reduceLeDiff, Nat.reduceAdd, Nat.reduceSub, Nat.reduceMul, Nat.reduceGT, Int.reduceNeg, Int.reduceToNat]
  exact hk
open Es (runs met met_succ met_length met_at)
theorem pu_clcD (x : Es.Clause) {p : D} (hp : Pu p) : Pu (clcD x p) := Pu_agg ⟨.v _, .v _, .v _, .v _, pu_slD pu_condC _, .v _, .v _, .v _, .v _, .v _, .v _, .v _, .v _, .v _, .v _, .v _, hp, trivial⟩
theorem fz_clcD {s : S} (x : Es.Clause) {p p' : D} (hp : Fz s p p') : Fz s (clcD x p) (clcD x p') := Fz_agg ⟨.v _, .v _, .v _, .v _, (pu_slD pu_condC _).fz, .v _, .v _, .v _, .v _, .v _, .v _, .v _, .v _, .v _, .v _, .v _, hp, trivial⟩
theorem runs_spec (x : Es.Clause) (m : Es.Mark) : APure M 97 [clcD x (.rp 5 (mrkC m) 0)] (.v (.bool (runs m))) := by
  refine pure_of gpu func97 rfl results97 ntmps97 (by simp) ⟨pu_clcD x (pu_rp (pu_mrkC m)), trivial⟩ ?_
  intro b
  simp only [go_sem, ↓reduceIte, reduceCtorEq, Nat.reduceEqDiff, Nat.reduceLT, Nat.reduceLeDiff, Nat.reduceAdd, Nat.reduceSub, Nat.reduceMul, Nat.reduceGT, Int.reduceNeg, Int.reduceToNat]
  repeat' (first | (with_reducible refine And.intro ?_ ?_) | ((with_reducible refine ite_cases ?_ ?_) <;> intro _))
  all_goals first | (simp [Es.runs, *]; done) | (simp [Es.runs, *]; omega) | (simp_all [Es.runs]; done) | (simp_all [Es.runs]; omega)
/-- A mark behind its pointer. -/
theorem fz_mrk {s : S} {fm i n : Nat} {ty : TypeId} {ms : List Es.Mark} (ho : s.o fm 0 = some (.blk 5 n ty (rowsOf mrkC ms))) (hi : i < n) : Fz s (.mp fm 0 5 i 0) (.rp 5 (mrkC (Es.at_ ms (i : Int))) 0) :=
  .mp fm 0 5 i 0 n ty _ _ ho hi fun j _ => (pu_mrkC _ j).fz
end Tryz
end Go.Proofs
end
section
namespace Go.Proofs
open Go Go.Abs
set_option linter.unusedSimpArgs false
set_option maxRecDepth 10000
/-- At the start of whatever is walked, nothing lies at or beyond the next name. -/
theorem awp_wf {M : Ctx} {c : Code} {Q : Exit → Env → S → Prop} {e : Env} {s : S} (h : WfO s.o s.nx → AWp M c Q e s) : AWp M c Q e s := fun cf a n hE hok =>
  h (fun f i hf => by
    cases hB : s.o f i with
    | none => rfl
    | some B => have := (hok.obj f i B hB).1; omega) cf a n hE hok
theorem acall_wf {M : Ctx} {f : FuncId} {args : List D} {s : S} {K : D → S → Prop} (h : WfO s.o s.nx → ACall M f args s K) : ACall M f args s K := fun c vals hok h2 h3 h4 =>
  h (fun f i hf => by
    cases hB : s.o f i with
    | none => rfl
    | some B => have := (hok.obj f i B hB).1; omega) c vals hok h2 h3 h4
namespace Tryz
open Es (runs met met_succ met_length met_at)
/-- What the caller of a loop over running clauses owns: J speaks of what lies below n0. -/
structure RunJ (c : Es.Contract) (day : Int) (fh nh fu nu fm n fc fs n0 : Nat) (tm : TypeId) (J : List Es.Mark → S → Prop) : Prop where
  mrk : ∀ ms st, J ms st → st.o fm 0 = some (.blk 5 n tm (rowsOf mrkC ms)) ∧ ms.length = n
  con : ∀ ms st, J ms st → st.o fc 0 = some (.blk 7 1 27 (rowOf [.v (.int .i64 c.parties), slD 1 intC c.holders, slD 5 untC c.units, slD 7 actC c.acts, slD 16 clsC c.clauses, .v (.int .i64 c.days), slD 1 intC c.off]))
  sta : ∀ ms st, J ms st → st.o fs 0 = some (.blk 4 1 38 (rowOf [.v (.int .i64 day), .ms fh 0 1 0 nh, .ms fu 0 1 0 nu, .ms fm 0 5 0 n]))
  nxt : ∀ ms st, J ms st → n0 ≤ st.nx
  same : ∀ ms st st', J ms st → st.nx ≤ st'.nx → SameB n0 st.o st'.o → J ms st'
  lt : fm < n0 ∧ fc < n0 ∧ fs < n0
theorem running1_spec (X : D → Value → Prop) (N : Nat) (r : Option Nat) (b : Nat) (l : Nat) (c : Es.Contract) (day : Int) (fh nh fu nu fm n fc fs n0 : Nat) (tm : TypeId) (J : List Es.Mark → S → Prop) (hJ : RunJ c day fh nh fu nu fm n fc fs n0 tm J)
    (hn : n = c.clauses.length) (hl : n ≤ 400) (g : Nat → Es.Mark → Es.Mark) (ms0 : List Es.Mark)
    (hY : ∀ (N : Nat) (b : Nat) (i : Nat) (st : S), i < n → J (met g ms0 i) st → runs (Es.at_ (met g ms0 i) (i : Int)) = true →
      ARound { P := prog, G := gl, X := X, N := N, r := none, b := b } l [clcD (Es.at_ c.clauses (i : Int)) (.mp fm 0 5 i 0)] st
        (fun d st' => d = .v (.bool true) ∧ J ((met g ms0 i).set i (g i (Es.at_ (met g ms0 i) (i : Int)))) st' ∧ st.nx ≤ st'.nx ∧ ∀ f j, n0 ≤ f → f < st.nx → st'.o f j = st.o f j))
    (st : S) (h0 : J ms0 st) (K : D → S → Prop) (hk : ∀ st', J (met g ms0 n) st' → K (.tup []) st') :
    ACall { P := prog, G := gl, X := X, N := N, r := r, b := b } 96 [.fn (.yield l) [], .mp fs 0 4 0 0, .mp fc 0 7 0 0] st K := by
  refine acall_ofA (M := { P := prog, G := gl, X := X, N := N, r := r, b := b }) func96 rfl results96 ntmps96 (by simp) fun b => ?_
  simp only [go_sem, ↓reduceIte, reduceCtorEq, Nat.reduceEqDiff, Nat.reduceLT, Nat.reduceLeDiff, Nat.reduceAdd, Nat.reduceSub, Nat.reduceMul, Nat.reduceGT, Int.reduceNeg, Int.reduceToNat]
  obtain ⟨o, nx⟩ := st
  have j1 := hJ.mrk _ _ h0
  have j2 := hJ.con _ _ h0
  have j3 := hJ.sta _ _ h0
  simp only at j1 j2 j3
  simp only [go_sem, ↓reduceIte, reduceCtorEq, Nat.reduceEqDiff, Nat.reduceLT, Nat.reduceLeDiff, Nat.reduceAdd, Nat.reduceSub, Nat.reduceMul, Nat.reduceGT, Int.reduceNeg, Int.reduceToNat, j1.1, j2, j3]
  refine awp_count0 n (fun e0 s0 k e st => (e 0 = e0 0 ∧ e 1 = e0 1 ∧ e 2 = e0 2 ∧ e 8 = e0 8) ∧ e 9 = .v (.int .i64 k) ∧ J (met g ms0 k) st) ⟨⟨rfl, rfl, rfl, rfl⟩, ?_, h0⟩ ?_
  · simp only [go_sem, ↓reduceIte, reduceCtorEq, Nat.reduceEqDiff, Nat.reduceLT, Nat.reduceLeDiff, Nat.reduceAdd, Nat.reduceSub, Nat.reduceMul, Nat.reduceGT, Int.reduceNeg, Int.reduceToNat]; rfl
  clear j1 j2 j3
  rintro k e ⟨o2, nx2⟩ hk2 ⟨⟨a0, a1, a2, a8⟩, a9, hk3⟩
  simp only [go_sem, ↓reduceIte, reduceCtorEq, Nat.reduceEqDiff, Nat.reduceLT, Nat.reduceLeDiff, Nat.reduceAdd, Nat.reduceSub, Nat.reduceMul, Nat.reduceGT, Int.reduceNeg, Int.reduceToNat] at a0 a1 a2 a8
  obtain ⟨j1, j1'⟩ := hJ.mrk _ _ hk3
  have j2 := hJ.con _ _ hk3
  have j3 := hJ.sta _ _ hk3
  have j4 := hJ.nxt _ _ hk3
  have j5 := hJ.lt
  simp only at j1 j2 j3 j4
  simp only [go_sem, ↓reduceIte, reduceCtorEq, Nat.reduceEqDiff, Nat.reduceLT, Nat.reduceLeDiff, Nat.reduceAdd, Nat.reduceSub, Nat.reduceMul, Nat.reduceGT, Int.reduceNeg, Int.reduceToNat, a0, a1, a2, a8, a9, j1, j2, j3]
  refine ite_cases (fun hlt => ?_) (fun hlt => ?_)
  · have hlt' : k < n := by omega
    have m1 : (fm = nx2) = False := by simp only [eq_iff_iff, iff_false]; omega
    have m2 : (fc = nx2) = False := by simp only [eq_iff_iff, iff_false]; omega
    have m3 : (fs = nx2) = False := by simp only [eq_iff_iff, iff_false]; omega
    refine awp_wf fun hw => ?_
    have hw0 : o2 nx2 0 = none := hw nx2 0 (Nat.le_refl _)
    refine awp_plan ((.op 0 (.op 1 (.op 2 (.op 3 (.op 4 (.op 5 (.op 6 (.op 7 (.op 8 (.op 9 (.op 10 (.op 11 .done))))))))))))) [11] mix (by kernel_rfl) ?_
    simp only [go_sem, ↓reduceIte, reduceCtorEq, Nat.reduceEqDiff, Nat.reduceLT, Nat.reduceLeDiff, Nat.reduceAdd, Nat.reduceSub, Nat.reduceMul, Nat.reduceGT, Int.reduceNeg, Int.reduceToNat, a0, a1, a2, a8, a9, j1, j2, j3, m1, m2, m3, Nat.zero_add, Int.toNat_natCast, hw0]
    refine ⟨⟨by omega, by simp only [Es.len]; omega⟩, ⟨by omega, by omega⟩, ?_⟩
    have hfm : ∀ B, St.set o2 nx2 0 B fm 0 = some (.blk 5 n tm (rowsOf mrkC (met g ms0 k))) := fun B => by
      simp only [St.set]; rw [if_neg (by omega)]; exact j1
    refine lend_at M_P M_G (runs_spec (Es.at_ c.clauses (k : Int)) (Es.at_ (met g ms0 k) (k : Int))) gpu (.v _) ⟨fz_clcD _ (fz_mrk (n := n) (hfm _) hlt'), trivial⟩ ?_
    simp only [go_sem, ↓reduceIte, reduceCtorEq, Nat.reduceEqDiff, Nat.reduceLT, Nat.reduceLeDiff, Nat.reduceAdd, Nat.reduceSub, Nat.reduceMul, Nat.reduceGT, Int.reduceNeg, Int.reduceToNat, a0, a1, a2, a8, a9, j1, j2, j3, m1, m2, m3]
    have hJ2 : ∀ B, J (met g ms0 k) ⟨St.set o2 nx2 0 B, nx2 + 1⟩ := fun B => hJ.same _ _ _ hk3 (Nat.le_succ nx2) (SameB.set (SameB.refl _ _) j4 _ _)
    refine ite_cases (fun hr => ?_) (fun hr => ?_)
    · refine (hY _ _ k _ hlt' (hJ2 _) hr).mono ?_
      rintro d ⟨o3, nx3⟩ ⟨rfl, hJ3, hn3, hs3⟩
      simp only [go_sem, ↓reduceIte, reduceCtorEq, Nat.reduceEqDiff, Nat.reduceLT, Nat.reduceLeDiff, Nat.reduceAdd, Nat.reduceSub, Nat.reduceMul, Nat.reduceGT, Int.reduceNeg, Int.reduceToNat, a0, a1, a2, a8, a9]
      refine ⟨hlt', ?_⟩
      simp only [go_sem, ↓reduceIte, reduceCtorEq, Nat.reduceEqDiff, Nat.reduceLT, Nat.reduceLeDiff, Nat.reduceAdd, Nat.reduceSub, Nat.reduceMul, Nat.reduceGT, Int.reduceNeg, Int.reduceToNat, a0, a1, a2, a8, a9]
      refine ⟨by rw [wrap_i64 _ (by omega) (by omega)]; simp, ?_⟩
      rw [met_succ, if_pos hr]; exact hJ3
    · refine ⟨hlt', ?_⟩
      simp only [go_sem, ↓reduceIte, reduceCtorEq, Nat.reduceEqDiff, Nat.reduceLT, Nat.reduceLeDiff, Nat.reduceAdd, Nat.reduceSub, Nat.reduceMul, Nat.reduceGT, Int.reduceNeg, Int.reduceToNat, a0, a1, a2, a8, a9]
      refine ⟨by rw [wrap_i64 _ (by omega) (by omega)]; simp, ?_⟩
      rw [met_succ, if_neg hr]; exact hJ2 _
  · have : k = n := by omega
    rw [this] at hk3
    exact hk _ hk3
end Tryz
end Go.Proofs
end
section
namespace Go.Proofs
open Go Go.Abs
set_option linter.unusedSimpArgs false
set_option linter.unusedVariables false
set_option maxRecDepth 10000
theorem around_ctx {P : Program} {G : Nat → Option D} {X : D → Value → Prop} {N N' : Nat} {r r' : Option Nat} {b b' : Nat} {l : Nat} {args : List D} {s : S} {K : D → S → Prop} (h : ARound { P := P, G := G, X := X, N := N, r := r, b := b } l args s K) :
    ARound { P := P, G := G, X := X, N := N', r := r', b := b' } l args s K := fun c vals h1 h2 h3 h4 => h c vals h1 ⟨h2.g, h2.x⟩ h3 h4
@[go_sem] theorem assignA_normal (K : Env → S → Prop) (e : Env) (s : S) : assignA K .normal e s = K e s := nr rfl
@[go_sem] theorem roundA_normal (f : Nat) (rd bz : SObj) (dn : Code → SObj) (K : D → S → Prop) (e : Env) (s : S) : roundA f rd bz dn K .normal e s = (s.o f 0 = some bz ∧ K (.v (.bool true)) (s.put f 0 rd)) := nr rfl
namespace Tryz
open Es (runs met met_succ met_length met_at)
theorem set_ne {o : St} {f i f' i' : Nat} {B : Option SObj} (h : f' ≠ f) : St.set o f i B f' i' = o f' i' := by simp only [St.set]; rw [if_neg (by omega)]
theorem set_eq {o : St} {f i : Nat} {B : Option SObj} : St.set o f i B f i = B := by simp only [St.set]; rw [if_pos ⟨trivial, trivial⟩]
theorem keeps_set {o : St} {nx nx' f i : Nat} {B : Option SObj} (h : o f i = none) : keeps ⟨o, nx⟩ ⟨St.set o f i B, nx'⟩ := fun f' i' B' hB => by
  show St.set o f i B f' i' = some B'
  simp only [St.set]
  split
  · rename_i hh; obtain ⟨rfl, rfl⟩ := hh; change o f' i' = some B' at hB; rw [h] at hB; cases hB
  · exact hB
/-- What a loop over running clauses keeps: but for marks, all is as at its start. -/
def LoopJ (o : St) (nb fm n : Nat) (tm : TypeId) (ms : List Es.Mark) (st : S) : Prop := Wrote o nb fm tm ms st.o st.nx ∧ ms.length = n
theorem LoopJ.at {o : St} {nb fm n : Nat} {tm : TypeId} {ms : List Es.Mark} {st : S} (h : LoopJ o nb fm n tm ms st) {f i : Nat} (hf : f < nb) (hne : ¬ (f = fm ∧ i = 0)) : st.o f i = o f i := h.1.2.2 f i hf hne
theorem loopJ {o : St} {nb fc fs fh nh fu nu fm n : Nat} {tm : TypeId} {c : Es.Contract} {day : Int} (hc : o fc 0 = some (.blk 7 1 27 (rowOf [.v (.int .i64 c.parties), slD 1 intC c.holders, slD 5 untC c.units, slD 7 actC c.acts, slD 16 clsC c.clauses, .v (.int .i64 c.days), slD 1 intC c.off])))
    (hs : o fs 0 = some (.blk 4 1 38 (rowOf [.v (.int .i64 day), .ms fh 0 1 0 nh, .ms fu 0 1 0 nu, .ms fm 0 5 0 n]))) (hl : fm < nb ∧ fc < nb ∧ fs < nb) (hne : fc ≠ fm ∧ fs ≠ fm) :
    RunJ c day fh nh fu nu fm n fc fs nb tm (LoopJ o nb fm n tm) where
  mrk ms st h := ⟨by rw [← h.2]; exact h.1.2.1, h.2⟩
  con ms st h := (h.at hl.2.1 (by omega)).trans hc
  sta ms st h := (h.at hl.2.2 (by omega)).trans hs
  nxt ms st h := h.1.1
  same ms st st' h hn hs := ⟨⟨Nat.le_trans h.1.1 hn, (hs fm 0 hl.1).trans h.1.2.1, fun f i hf hne => (hs f i hf).trans (h.1.2.2 f i hf hne)⟩, h.2⟩
  lt := hl
theorem loop_end {o o2 o3 : St} {nb nx2 n3 fr fm n : Nat} {tm : TypeId} {rd : SObj} {ms ms' : List Es.Mark} (h : LoopJ o nb fm n tm ms ⟨o2, nx2⟩) (hr : o fr 0 = some rd) (hf : fm < nb) (hfr : fr < nb) (hne : fr ≠ fm) (hn : nx2 ≤ n3)
    (hm : o3 fm 0 = some (.blk 5 n tm (rowsOf mrkC ms'))) (hl : ms'.length = n) (ho : ∀ f j, f < nx2 → ¬ (f = fm ∧ j = 0) → ¬ (f = fr ∧ j = 0) → o3 f j = o2 f j) :
    LoopJ o nb fm n tm ms' ⟨St.set o3 fr 0 (some rd), n3⟩ ∧ nx2 ≤ n3 ∧ ∀ f j, nb ≤ f → f < nx2 → St.set o3 fr 0 (some rd) f j = o2 f j := by
  have hx := h.1.1
  simp only at hx
  refine ⟨⟨⟨by simp only; omega, by simp only [St.set]; rw [if_neg (by omega), hl]; exact hm, fun f i hf' hne' => ?_⟩, hl⟩, hn, fun f j h1 h2 => ?_⟩
  · simp only [St.set]
    split
    · rename_i hh; obtain ⟨rfl, rfl⟩ := hh; exact hr.symm
    · rename_i hh; rw [ho f i (by omega) hne' hh]; exact h.1.2.2 f i hf' hne'
  · simp only [St.set]; rw [if_neg (by omega)]; exact ho f j h2 (by omega) (by omega)
/-- A loop over the clauses that run, with what a round does to a mark. -/
theorem run_loop {X : D → Value → Prop} {N b : Nat} {gop : Operand} {p : Tmp} {assign body : Code} {Q : Exit → Env → S → Prop} {e : Env} {o : St} {n1 : Nat} (c : Es.Contract) (day : Int) (fh nh fu nu fm n : Nat) (tm : TypeId) (g : Nat → Es.Mark → Es.Mark) (ms0 : List Es.Mark)
    (hp : p < N) (hg : ev gl e gop = .fn (.func 96) [.mp (n1 + 1) 0 4 0 0, .mp n1 0 7 0 0])
    (hcon : o n1 0 = some (.blk 7 1 27 (rowOf [.v (.int .i64 c.parties), slD 1 intC c.holders, slD 5 untC c.units, slD 7 actC c.acts, slD 16 clsC c.clauses, .v (.int .i64 c.days), slD 1 intC c.off])))
    (hsta : o (n1 + 1) 0 = some (.blk 4 1 38 (rowOf [.v (.int .i64 day), .ms fh 0 1 0 nh, .ms fu 0 1 0 nu, .ms fm 0 5 0 n])))
    (hf : fm < n1) (hn : n = c.clauses.length) (hl : n ≤ 400) (hms : ms0.length = n) (hmrk : o fm 0 = some (.blk 5 n tm (rowsOf mrkC ms0)))
    (hbody : ∀ (X2 : D → Value → Prop) (l i : Nat) (o2 : St) (nx2 : Nat) (rd bz : SObj) (R : Exit → Env → S → Prop), i < n → n1 + 3 ≤ nx2 → o2 fm 0 = some (.blk 5 n tm (rowsOf mrkC (met g ms0 i))) → o2 (n1 + 2) 0 = some rd →
      (∀ f j, f < n1 + 2 → ¬ (f = fm ∧ j = 0) → o2 f j = o f j) → runs (Es.at_ (met g ms0 i) (i : Int)) = true →
      (∀ (e' : Env) (o3 : St) (n3 : Nat), nx2 ≤ n3 → o3 (n1 + 2) 0 = some bz → o3 fm 0 = some (.blk 5 n tm (rowsOf mrkC ((met g ms0 i).set i (g i (Es.at_ (met g ms0 i) (i : Int)))))) →
        (∀ f j, f < nx2 → ¬ (f = fm ∧ j = 0) → ¬ (f = n1 + 2 ∧ j = 0) → o3 f j = o2 f j) → R .normal e' ⟨o3, n3⟩) →
      AWp { P := prog, G := gl, X := X2, N := N, r := some l, b := 0 } assign (assignA fun e' s' => s'.o (n1 + 2) 0 = some rd ∧ AWp { P := prog, G := gl, X := X2, N := N, r := some l, b := 0 } body R e' (s'.put (n1 + 2) 0 bz))
        (upd e p (clcD (Es.at_ c.clauses (i : Int)) (.mp fm 0 5 i 0))) ⟨o2, nx2⟩)
    (hend : ∀ o3 n3, Wrote o (n1 + 2) fm tm (met g ms0 n) o3 n3 → Q .normal e ⟨o3, n3⟩) :
    AWp { P := prog, G := gl, X := X, N := N, r := none, b := b } (.rangeFunc gop #[p] assign body) Q e ⟨o, n1 + 2⟩ := by
  refine awp_rangeFunc rfl (by simpa using hp) hg (by simp only [go_sem, ↓reduceIte, reduceCtorEq, Nat.reduceEqDiff, Nat.reduceLT, Nat.reduceLeDiff, Nat.reduceAdd, Nat.reduceSub, Nat.reduceMul, Nat.reduceGT, Int.reduceNeg, Int.reduceToNat]) ?_
  intro X2 l rd bz dn hround
  obtain ⟨oL, hoL⟩ : ∃ oL, oL = St.set o (n1 + 2) 0 (some rd) := ⟨_, rfl⟩
  have L1 : oL n1 0 = o n1 0 := by rw [hoL, set_ne (by omega)]
  have L2 : oL (n1 + 1) 0 = o (n1 + 1) 0 := by rw [hoL, set_ne (by omega)]
  have L3 : oL (n1 + 2) 0 = some rd := by rw [hoL, set_eq]
  refine running1_spec X2 _ _ _ l c day fh nh fu nu fm n n1 (n1 + 1) (n1 + 3) tm (LoopJ oL (n1 + 3) fm n tm) (loopJ (L1.trans hcon) (L2.trans hsta) (by omega) (by omega)) hn hl g ms0 ?_ _ ?_ _ ?_
  · intro N' b' i st hi hJ hr
    obtain ⟨o2, nx2⟩ := st
    have j1 := hJ.1.1
    have j2 := hJ.1.2.1
    have j3 := hJ.2
    simp only at j1 j2
    rw [j3] at j2
    have j4 : o2 (n1 + 2) 0 = some rd := (hJ.1.2.2 (n1 + 2) 0 (by omega) (by omega)).trans L3
    refine around_ctx (hround _ _ _ (by simp) j4 ?_)
    refine hbody X2 l i o2 nx2 rd bz _ hi j1 j2 j4 (fun f j h1 h2 => ?_) hr ?_
    · have e1 : o2 f j = oL f j := hJ.1.2.2 f j (by omega) h2
      rw [e1, hoL, set_ne (by omega)]
    · intro e' o3 n3 h1 h2 h3 h4
      refine ⟨h2, rfl, ?_⟩
      exact loop_end (fr := n1 + 2) hJ L3 (by omega) (by omega) (by omega) h1 h3 (by simpa using j3) h4
  · refine ⟨⟨Nat.le_refl _, ?_, fun f i _ _ => (by rw [hoL]; rfl)⟩, hms⟩
    rw [hms]
    simp only [S.push, St.set]; rw [if_neg (by omega)]; exact hmrk
  · intro st hJ
    obtain ⟨o3, n3⟩ := st
    have j1 := hJ.1.1
    simp only at j1
    refine .inl ⟨(hJ.1.2.2 (n1 + 2) 0 (by omega) (by omega)).trans L3, hend _ _ ⟨show n1 + 2 ≤ n3 by omega, ?_, fun f i h1 h2 => ?_⟩⟩
    · show St.set o3 (n1 + 2) 0 none fm 0 = _
      rw [set_ne (by omega)]; exact hJ.1.2.1
    · show St.set o3 (n1 + 2) 0 none f i = o f i
      rw [set_ne (by omega)]
      have e1 : o3 f i = oL f i := hJ.1.2.2 f i (by omega) h2
      rw [e1, hoL, set_ne (by omega)]
end Tryz
end Go.Proofs
end
section
namespace Go.Proofs
open Go Go.Abs
set_option linter.unusedSimpArgs false
set_option linter.unusedVariables false
set_option maxRecDepth 10000
namespace Tryz
/-- What must hold of a mark that a patch names. -/
structure ChgPre (c : Es.Contract) (p : Es.Patch) (hs : List Int) (i : Nat) (m : Es.Mark) : Prop where
  lt : i < c.clauses.length
  rep : p.kind = 2 → p.new.waived = false → Es.runs m = true → (p.new.kind ≠ 4 → 0 ≤ p.new.role ∧ p.new.role < Es.len hs) ∧ (0 ≤ m.left ∧ m.left ≤ 1000000) ∧ (0 ≤ p.new.after ∧ p.new.after ≤ 1000000) ∧ (0 ≤ (Es.at_ c.clauses (i : Int)).after ∧ (Es.at_ c.clauses (i : Int)).after ≤ 1000000) ∧ (0 ≤ p.new.grace ∧ p.new.grace ≤ 1000000) ∧ (0 ≤ (Es.at_ c.clauses (i : Int)).grace ∧ (Es.at_ c.clauses (i : Int)).grace ≤ 1000000)
  span : p.kind = 5 → m.status = 1 → (0 ≤ m.left ∧ m.left ≤ 1000000) ∧ (0 ≤ p.days ∧ p.days ≤ 1000000) ∧ (0 ≤ (Es.at_ c.clauses (i : Int)).after ∧ (Es.at_ c.clauses (i : Int)).after ≤ 1000000)
def boxC (c : Es.Contract) : SObj := .blk 7 1 27 (rowOf [.v (.int .i64 c.parties), slD 1 intC c.holders, slD 5 untC c.units, slD 7 actC c.acts, slD 16 clsC c.clauses, .v (.int .i64 c.days), slD 1 intC c.off])
theorem chg3_spec (X : D → Value → Prop) (N : Nat) (r : Option Nat) (b : Nat) (fk fm i n : Nat) (tk tm : TypeId) (ms : List Es.Mark) (o : St) (nx : Nat) (K : D → S → Prop) (hf : fm < nx) (hk1 : o fk 0 = some (.blk 1 1 tk (rowOf [.ms fm 0 5 0 n]))) (ho : o fm 0 = some (.blk 5 n tm (rowsOf mrkC ms))) (hn : n = ms.length) (hi : i < n)
    (hk : ∀ o' nx', Wrote o nx fm tm (ms.set i (Es.voidM (Es.at_ ms (i : Int)))) o' nx' → K (.tup []) ⟨o', nx'⟩) :
    ACall { P := prog, G := gl, X := X, N := N, r := r, b := b } 48 [.v (.int .i64 i), .mp fk 0 1 0 0] ⟨o, nx⟩ K := by
  subst hn
  refine acall_ofA (M := { P := prog, G := gl, X := X, N := N, r := r, b := b }) func48 rfl results48 ntmps48 (by simp) fun b => ?_
  simp only [go_sem, ↓reduceIte, reduceCtorEq, Nat.reduceEqDiff, Nat.reduceLT, Nat.reduceLeDiff, Nat.reduceAdd, Nat.reduceSub, Nat.reduceMul, Nat.reduceGT, Int.reduceNeg, Int.reduceToNat]
  simp only [go_sem, ↓reduceIte, reduceCtorEq, Nat.reduceEqDiff, Nat.reduceLT, Nat.reduceLeDiff, Nat.reduceAdd, Nat.reduceSub, Nat.reduceMul, Nat.reduceGT, Int.reduceNeg, Int.reduceToNat, ho, hk1, Nat.zero_add, Int.toNat_natCast]
  refine ⟨⟨by omega, by omega⟩, ?_⟩
  refine void_spec _ _ _ _ fm i _ tm ms _ _ _ hf ho rfl hi fun o' nx' hw => ?_
  simp only [go_sem, ↓reduceIte, reduceCtorEq, Nat.reduceEqDiff, Nat.reduceLT, Nat.reduceLeDiff, Nat.reduceAdd, Nat.reduceSub, Nat.reduceMul, Nat.reduceGT, Int.reduceNeg, Int.reduceToNat]
  exact hk _ _ hw
def boxP (p : Es.Patch) : SObj := .blk 19 1 34 (rowOf [.v (.int .i64 p.kind), slD 1 intC p.clauses, .v (.int .i64 p.new.kind), .v (.int .i64 p.new.role), .v (.int .i64 p.new.act), .v (.int .i64 p.new.need), slD 2 condC p.new.start, .v (.int .i64 p.new.after), .v (.int .i64 p.new.grace), .v (.bool p.new.business), .v (.bool p.new.final), .v (.int .i64 p.new.pause), .v (.int .i64 p.new.resume), .v (.int .i64 p.new.value.num), .v (.int .i64 p.new.value.den), .v (.int .i64 p.new.unit), .v (.int .i64 p.new.to), .v (.bool p.new.waived), .v (.int .i64 p.days)])
def boxS (day : Int) (hs : List Int) (us : List Bool) (fm n : Nat) : SObj := .blk 4 1 38 (rowOf [.v (.int .i64 day), slD 1 intC hs, slD 1 booC us, .ms fm 0 5 0 n])
theorem chg2_spec (X : D → Value → Prop) (N : Nat) (r : Option Nat) (b : Nat) (c : Es.Contract) (p : Es.Patch) (hs : List Int) (fk fp fc fm i n : Nat) (tk tm : TypeId) (ms : List Es.Mark) (o : St) (nx : Nat) (K : D → S → Prop) (hf : fm < nx) (hk1 : o fk 0 = some (.blk 1 1 tk (rowOf [.ms fm 0 5 0 n]))) (hk2 : o fp 0 = some (boxP p)) (hk3 : o fc 0 = some (boxC c)) (ho : o fm 0 = some (.blk 5 n tm (rowsOf mrkC ms))) (hn : n = ms.length) (hi : i < n)
    (h5 : p.kind = 5) (hp : ChgPre c p hs i (Es.at_ ms (i : Int)))
    (hk : ∀ o' nx', Wrote o nx fm tm (ms.set i (Es.spanM p.days (Es.at_ c.clauses (i : Int)) (Es.at_ ms (i : Int)))) o' nx' → K (.tup []) ⟨o', nx'⟩) :
    ACall { P := prog, G := gl, X := X, N := N, r := r, b := b } 47 [.v (.int .i64 i), .mp fk 0 1 0 0, .mp fp 0 19 0 0, .mp fc 0 7 0 0] ⟨o, nx⟩ K := by
  subst hn
  have hci := hp.lt
  have hsp := hp.span h5
  unfold boxP at hk2
  unfold boxC at hk3
  refine acall_ofA (M := { P := prog, G := gl, X := X, N := N, r := r, b := b }) func47 rfl results47 ntmps47 (by simp) fun b => ?_
  simp only [go_sem, ↓reduceIte, reduceCtorEq, Nat.reduceEqDiff, Nat.reduceLT, Nat.reduceLeDiff, Nat.reduceAdd, Nat.reduceSub, Nat.reduceMul, Nat.reduceGT, Int.reduceNeg, Int.reduceToNat]
  simp only [go_sem, ↓reduceIte, reduceCtorEq, Nat.reduceEqDiff, Nat.reduceLT, Nat.reduceLeDiff, Nat.reduceAdd, Nat.reduceSub, Nat.reduceMul, Nat.reduceGT, Int.reduceNeg, Int.reduceToNat, ho, hk1, hk2, hk3, Nat.zero_add, Int.toNat_natCast]
  refine ⟨⟨by omega, by omega⟩, hi, ite_cases (fun h1 => ?_) (fun h1 => ?_)⟩
  · obtain ⟨⟨l0, l1⟩, ⟨a0, a1⟩, ⟨b0, b1⟩⟩ := hsp (by simpa using h1)
    have w1 : IntKind.i64.wrap ((Es.at_ ms (i : Int)).left + p.days) = (Es.at_ ms (i : Int)).left + p.days := wrap_i64 _ (by omega) (by omega)
    have w2 : IntKind.i64.wrap ((Es.at_ ms (i : Int)).left + p.days - (Es.at_ c.clauses (i : Int)).after) = (Es.at_ ms (i : Int)).left + p.days - (Es.at_ c.clauses (i : Int)).after := wrap_i64 _ (by omega) (by omega)
    refine awp_plan ((.op 0 (.op 1 (.op 2 (.op 3 (.op 4 (.op 5 (.op 6 (.op 7 (.op 8 (.op 9 (.op 10 (.op 11 (.op 12 (.op 13 (.op 14 (.op 15 (.op 16 (.op 17 (.op 18 .done)))))))))))))))))))) [18] mix (by kernel_rfl) ?_
    simp only [go_sem, ↓reduceIte, reduceCtorEq, Nat.reduceEqDiff, Nat.reduceLT, Nat.reduceLeDiff, Nat.reduceAdd, Nat.reduceSub, Nat.reduceMul, Nat.reduceGT, Int.reduceNeg, Int.reduceToNat, ho, hk1, hk2, hk3, Nat.zero_add, Int.toNat_natCast, setC_mrk1, hi, w1, w2]
    exact ⟨⟨by omega, Es.len_lt.2 hci⟩, hk _ _ (wrote_put hf hi (by unfold Es.spanM; rw [if_pos h1]))⟩
  · exact hk _ _ (wrote_id ho hi (by unfold Es.spanM; rw [if_neg h1]))
theorem chg1_spec (X : D → Value → Prop) (N : Nat) (r : Option Nat) (b : Nat) (c : Es.Contract) (p : Es.Patch) (day : Int) (hs : List Int) (us : List Bool) (fs fk fp fc fm i n : Nat) (tk tm : TypeId) (ms : List Es.Mark) (o : St) (nx : Nat) (K : D → S → Prop) (hf : fm < nx) (hk1 : o fk 0 = some (.blk 1 1 tk (rowOf [.ms fm 0 5 0 n]))) (hk2 : o fp 0 = some (boxP p)) (hk3 : o fc 0 = some (boxC c)) (hk4 : o fs 0 = some (boxS day hs us fm n)) (ho : o fm 0 = some (.blk 5 n tm (rowsOf mrkC ms))) (hn : n = ms.length) (hi : i < n)
    (h2 : p.kind = 2) (hp : ChgPre c p hs i (Es.at_ ms (i : Int)))
    (hk : ∀ o' nx', Wrote o nx fm tm (ms.set i (Es.replaceM hs (Es.at_ c.clauses (i : Int)) p.new (Es.at_ ms (i : Int)))) o' nx' → K (.tup []) ⟨o', nx'⟩) :
    ACall { P := prog, G := gl, X := X, N := N, r := r, b := b } 45 [.v (.int .i64 i), .mp fs 0 4 0 0, .mp fc 0 7 0 0, .mp fp 0 19 0 0, .mp fk 0 1 0 0] ⟨o, nx⟩ K := by
  subst hn
  have hci := hp.lt
  have hsp := hp.rep h2
  unfold boxP at hk2
  unfold boxC at hk3
  unfold boxS at hk4
  refine acall_ofA (M := { P := prog, G := gl, X := X, N := N, r := r, b := b }) func45 rfl results45 ntmps45 (by simp) fun b => ?_
  simp only [go_sem, ↓reduceIte, reduceCtorEq, Nat.reduceEqDiff, Nat.reduceLT, Nat.reduceLeDiff, Nat.reduceAdd, Nat.reduceSub, Nat.reduceMul, Nat.reduceGT, Int.reduceNeg, Int.reduceToNat]
  refine awp_plan ((.op 0 (.op 1 (.op 2 (.op 3 (.op 4 (.op 5 (.op 6 (.op 7 (.op 8 (.op 9 (.op 10 (.op 11 .done))))))))))))) [11] mix (by kernel_rfl) ?_
  simp only [go_sem, ↓reduceIte, reduceCtorEq, Nat.reduceEqDiff, Nat.reduceLT, Nat.reduceLeDiff, Nat.reduceAdd, Nat.reduceSub, Nat.reduceMul, Nat.reduceGT, Int.reduceNeg, Int.reduceToNat, ho, hk1, hk2, hk3, hk4, Nat.zero_add, Int.toNat_natCast]
  refine ⟨⟨by omega, Es.len_lt.2 hci⟩, ⟨by omega, by omega⟩, ?_⟩
  refine replace_spec _ _ _ _ day hs us _ p.new fm i _ tm ms _ _ _ hf ho rfl hi hsp fun o' nx' hw => ?_
  simp only [go_sem, ↓reduceIte, reduceCtorEq, Nat.reduceEqDiff, Nat.reduceLT, Nat.reduceLeDiff, Nat.reduceAdd, Nat.reduceSub, Nat.reduceMul, Nat.reduceGT, Int.reduceNeg, Int.reduceToNat]
  exact hk _ _ hw
/-- What a closure that change returns does. -/
def ChgOk (c : Es.Contract) (p : Es.Patch) (hs : List Int) (fm n : Nat) (tm : TypeId) (d : D) (lo : Nat) (o : St) (nx : Nat) : Prop :=
  ∃ g caps, d = .fn (.func g) caps ∧ callable prog g = true ∧
    ∀ (X : D → Value → Prop) (N : Nat) (r : Option Nat) (b i : Nat) (ms : List Es.Mark) (o2 : St) (nx2 : Nat) (K : D → S → Prop), nx ≤ nx2 → (∀ f j, lo ≤ f → f < nx → o2 f j = o f j) → fm < nx2 → o2 fm 0 = some (.blk 5 n tm (rowsOf mrkC ms)) → n = ms.length → i < n →
      ChgPre c p hs i (Es.at_ ms (i : Int)) → (∀ o' nx', Wrote o2 nx2 fm tm (ms.set i (Es.changeM c p hs (i : Int) (Es.at_ ms (i : Int)))) o' nx' → K (.tup []) ⟨o', nx'⟩) →
      ACall { P := prog, G := gl, X := X, N := N, r := r, b := b } g (.v (.int .i64 i) :: caps) ⟨o2, nx2⟩ K
theorem change_spec (X : D → Value → Prop) (N : Nat) (r : Option Nat) (b : Nat) (c : Es.Contract) (p : Es.Patch) (day : Int) (hs : List Int) (us : List Bool) (fm n : Nat) (tm : TypeId) (o : St) (nx : Nat) (K : D → S → Prop) (hf : fm < nx)
    (hk : ∀ d o' nx', nx ≤ nx' → SameB nx o o' → ChgOk c p hs fm n tm d nx o' nx' → K d ⟨o', nx'⟩) :
    ACall { P := prog, G := gl, X := X, N := N, r := r, b := b } 24 [conD c, patD p, stM day hs us fm n] ⟨o, nx⟩ K := by
  refine acall_ofA (M := { P := prog, G := gl, X := X, N := N, r := r, b := b }) func24 rfl results24 ntmps24 (by simp) fun b => ?_
  simp only [go_sem, ↓reduceIte, reduceCtorEq, Nat.reduceEqDiff, Nat.reduceLT, Nat.reduceLeDiff, Nat.reduceAdd, Nat.reduceSub, Nat.reduceMul, Nat.reduceGT, Int.reduceNeg, Int.reduceToNat]
  have q1 : (nx = nx + 1) = False := by simp
  have q2 : (nx = nx + 2) = False := by simp
  have q3 : (nx = nx + 3) = False := by simp
  simp only [go_sem, ↓reduceIte, reduceCtorEq, Nat.reduceEqDiff, Nat.reduceLT, Nat.reduceLeDiff, Nat.reduceAdd, Nat.reduceSub, Nat.reduceMul, Nat.reduceGT, Int.reduceNeg, Int.reduceToNat, q1, q2, q3]
  have hsame : ∀ {B0 B1 B2 B3 : Option SObj}, SameB nx o (St.set (St.set (St.set (St.set o nx 0 B0) (nx + 1) 0 B1) (nx + 1 + 1) 0 B2) (nx + 1 + 1 + 1) 0 B3) := fun {B0 B1 B2 B3} => by
    refine SameB.set (SameB.set (SameB.set (SameB.set (SameB.refl _ _) ?_ _ _) ?_ _ _) ?_ _ _) ?_ _ _ <;> omega
  refine ite_cases (fun h2 => ?_) (fun h2 => ?_)
  · have h2' : p.kind = 2 := by simpa using h2
    refine hk _ _ _ (by omega) hsame ⟨45, _, rfl, by simp only [go_sem], ?_⟩
    intro X N r b i ms o2 nx2 K hn2 hold hfm ho hnm hi hp hk'
    refine chg1_spec _ _ _ _ c p day hs us _ _ _ _ fm i n 36 tm ms _ _ _ hfm ((hold _ _ (by omega) (by omega)).trans ?_) ((hold _ _ (by omega) (by omega)).trans ?_) ((hold _ _ (by omega) (by omega)).trans ?_) ((hold _ _ (by omega) (by omega)).trans ?_) ho hnm hi h2' hp ?_
    · exact St_set_self _ _ _ _
    · (repeat (refine (set_ne (by omega)).trans ?_)); exact St_set_self _ _ _ _
    · (repeat (refine (set_ne (by omega)).trans ?_)); exact St_set_self _ _ _ _
    · (repeat (refine (set_ne (by omega)).trans ?_)); exact St_set_self _ _ _ _
    · rwa [show Es.changeM c p hs (i : Int) (Es.at_ ms (i : Int)) = Es.replaceM hs (Es.at_ c.clauses (i : Int)) p.new (Es.at_ ms (i : Int)) by unfold Es.changeM; rw [if_pos h2]] at hk'
  refine ite_cases (fun h5 => ?_) (fun h5 => ?_)
  · have h5' : p.kind = 5 := by simpa using h5
    refine hk _ _ _ (by omega) hsame ⟨47, _, rfl, by simp only [go_sem], ?_⟩
    intro X N r b i ms o2 nx2 K hn2 hold hfm ho hnm hi hp hk'
    refine chg2_spec _ _ _ _ c p hs _ _ _ fm i n 36 tm ms _ _ _ hfm ((hold _ _ (by omega) (by omega)).trans ?_) ((hold _ _ (by omega) (by omega)).trans ?_) ((hold _ _ (by omega) (by omega)).trans ?_) ho hnm hi h5' hp ?_
    · exact St_set_self _ _ _ _
    · (repeat (refine (set_ne (by omega)).trans ?_)); exact St_set_self _ _ _ _
    · (repeat (refine (set_ne (by omega)).trans ?_)); exact St_set_self _ _ _ _
    · rwa [show Es.changeM c p hs (i : Int) (Es.at_ ms (i : Int)) = Es.spanM p.days (Es.at_ c.clauses (i : Int)) (Es.at_ ms (i : Int)) by unfold Es.changeM; rw [if_neg h2, if_pos h5]] at hk'
  · refine hk _ _ _ (by omega) hsame ⟨48, _, rfl, by simp only [go_sem], ?_⟩
    intro X N r b i ms o2 nx2 K hn2 hold hfm ho hnm hi hp hk'
    refine chg3_spec _ _ _ _ _ fm i n 36 tm ms _ _ _ hfm ((hold _ _ (by omega) (by omega)).trans ?_) ho hnm hi ?_
    · exact St_set_self _ _ _ _
    · rwa [show Es.changeM c p hs (i : Int) (Es.at_ ms (i : Int)) = Es.voidM (Es.at_ ms (i : Int)) by unfold Es.changeM; rw [if_neg h2, if_neg h5]] at hk'
end Tryz
end Go.Proofs
end
section
namespace Go.Proofs
open Go Go.Abs
set_option linter.unusedSimpArgs false
set_option linter.unusedVariables false
set_option maxRecDepth 10000
namespace Tryz
theorem mholds_spec (s : Es.State) (x : Es.Cond) (hx : 0 ≤ x.clause ∧ x.clause < Es.len s.marks) (hi : 1 ≤ x.is ∧ x.is ≤ 4) : APure M 50 [condD x, .rp 4 (staC s) 0] (.v (.bool (!Es.fails s x))) := by
  refine pure_of gpu func50 rfl results50 ntmps50 (by simp) ⟨pu_condD _, pu_rp (pu_staC s), trivial⟩ ?_
  intro b
  simp only [go_sem, ↓reduceIte, reduceCtorEq, Nat.reduceEqDiff, Nat.reduceLT, Nat.reduceLeDiff, Nat.reduceAdd, Nat.reduceSub, Nat.reduceMul, Nat.reduceGT, Int.reduceNeg, Int.reduceToNat]
  have w1 : IntKind.i64.wrap (x.is + 3) = x.is + 3 := wrap_i64 _ (by omega) (by omega)
  have w2 : IntKind.i64.wrap (x.is + 3 - 2) = x.is + 3 - 2 := wrap_i64 _ (by omega) (by omega)
  simp only [w1, w2]
  refine ⟨hx, ?_⟩
  rcases (show x.is = 1 ∨ x.is = 2 ∨ x.is = 3 ∨ x.is = 4 by omega) with h | h | h | h
  all_goals
    repeat' (first | (with_reducible refine And.intro ?_ ?_) | ((with_reducible refine ite_cases ?_ ?_) <;> intro _))
    all_goals first | (exfalso; simp_all; done) | (simp [Es.fails, h]; done) | (simp [Es.fails, h, bne]; done) | (simp_all [Es.fails]; done)
/-- The closure's box. -/
def hldC (s : Es.State) (c : Nat) : D := if c = 0 then .fn (.func 50) [.rp 4 (staC s) 0] else .any
theorem pu_hldC (s : Es.State) (c : Nat) : Pu (hldC s c) := by
  unfold hldC
  split
  · exact Pu_fn ⟨pu_rp (pu_staC s), trivial⟩
  · exact .any
theorem hldC_zero (s : Es.State) : hldC s 0 = .fn (.func 50) [.rp 4 (staC s) 0] := rfl
theorem mfails_spec (s : Es.State) (x : Es.Cond) (hx : 0 ≤ x.clause ∧ x.clause < Es.len s.marks) (hi : 1 ≤ x.is ∧ x.is ≤ 4) : APure M 52 [condD x, .rp 1 (hldC s) 0] (.v (.bool (Es.fails s x))) := by
  have hcall : callable prog 50 = true := by simp only [go_sem]
  refine pure_of gpu func52 rfl results52 ntmps52 (by simp) ⟨pu_condD _, pu_rp (pu_hldC s), trivial⟩ ?_
  intro b
  simp only [go_sem, ↓reduceIte, reduceCtorEq, Nat.reduceEqDiff, Nat.reduceLT, Nat.reduceLeDiff, Nat.reduceAdd, Nat.reduceSub, Nat.reduceMul, Nat.reduceGT, Int.reduceNeg, Int.reduceToNat]
  simp only [hldC_zero, go_sem, ↓reduceIte, reduceCtorEq, Nat.reduceEqDiff, Nat.reduceLT, Nat.reduceLeDiff, Nat.reduceAdd, Nat.reduceSub, Nat.reduceMul, Nat.reduceGT, Int.reduceNeg, Int.reduceToNat, hcall]
  refine call_at M_P M_G (mholds_spec s x hx hi) ?_
  simp only [go_sem, ↓reduceIte, reduceCtorEq, Nat.reduceEqDiff, Nat.reduceLT, Nat.reduceLeDiff, Nat.reduceAdd, Nat.reduceSub, Nat.reduceMul, Nat.reduceGT, Int.reduceNeg, Int.reduceToNat, Bool.not_not]
/-- What holds of the store while clauses start. -/
structure MInv (o : St) (nx : Nat) (c : Es.Contract) (s : Es.State) (fh fu fm : Nat) (tm : TypeId) (ms : List Es.Mark) (st : S) : Prop where
  nxt : nx + 3 ≤ st.nx
  con : st.o nx 0 = some (.blk 7 1 27 (rowOf [.v (.int .i64 c.parties), slD 1 intC c.holders, slD 5 untC c.units, slD 7 actC c.acts, slD 16 clsC c.clauses, .v (.int .i64 c.days), slD 1 intC c.off]))
  sta : st.o (nx + 1) 0 = some (.blk 4 1 38 (rowOf [.v (.int .i64 s.day), .ms fh 0 1 0 s.holders.length, .ms fu 0 1 0 s.used.length, .ms fm 0 5 0 s.marks.length]))
  hol : st.o (nx + 1 + 1) 0 = some (.blk 1 1 109 (rowOf [.fn (.func 50) [.mp (nx + 1) 0 4 0 0]]))
  len : ms.length = s.marks.length
  mrk : st.o fm 0 = some (.blk 5 s.marks.length tm (rowsOf mrkC ms))
  old : ∀ f i, f < nx → ¬ (f = fm ∧ i = 0) → st.o f i = o f i
theorem mbegin_spec (X : D → Value → Prop) (N : Nat) (r : Option Nat) (b : Nat) (c : Es.Contract) (s : Es.State) (fh fu fm : Nat) (th tu tm : TypeId) (o : St) (nx : Nat) (K : D → S → Prop) (hs : HasSt o fh fu fm th tu tm s) (hx : fh < nx ∧ fu < nx ∧ fm < nx ∧ fh ≠ fm ∧ fu ≠ fm)
    (hF : Fine c s) (hI4 : ∀ i : Nat, i < c.clauses.length → ∀ y ∈ (Es.at_ c.clauses (i : Int)).start, 1 ≤ y.is ∧ y.is ≤ 4) (hl : c.clauses.length ≤ 400) (hk : ∀ o' nx', Wrote o nx fm tm (Es.begin_ c s).marks o' nx' → K (.tup []) ⟨o', nx'⟩) :
    ACall { P := prog, G := gl, X := X, N := N, r := r, b := b } 27 [conD c, stO s.day fh s.holders.length fu s.used.length fm s.marks.length] ⟨o, nx⟩ K := by
  refine acall_ofA (M := { P := prog, G := gl, X := X, N := N, r := r, b := b }) func27 rfl results27 ntmps27 (by simp) fun b => ?_
  simp only [go_sem, ↓reduceIte, reduceCtorEq, Nat.reduceEqDiff, Nat.reduceLT, Nat.reduceLeDiff, Nat.reduceAdd, Nat.reduceSub, Nat.reduceMul, Nat.reduceGT, Int.reduceNeg, Int.reduceToNat]
  have g1 : (nx = nx + 1) = False := by simp only [eq_iff_iff, iff_false]; omega
  refine awp_loopA (fun n e st => ∃ (ms : List Es.Mark) (q : Bool), e 2 = .mp nx 0 7 0 0 ∧ e 3 = .mp (nx + 1) 0 4 0 0 ∧ e 4 = .mp (nx + 1 + 1) 0 1 0 0 ∧ e 5 = .v (.bool q) ∧ MInv o nx c s fh fu fm tm ms st ∧
      (if q = true then n = Es.idle ms + 1 ∧ Es.begin_ c { s with marks := ms } = Es.begin_ c s else n = 0 ∧ ms = (Es.begin_ c s).marks)) ?_ (n := Es.idle s.marks + 1) ?_
  · rintro n e ⟨o1, nx1⟩ ⟨ms, q, h2, h3, h4, h5, hI, hq⟩
    have hb1 := hI.nxt
    have hb2 := hI.con
    have hb3 := hI.sta
    have hb4 := hI.mrk
    have hb5 := hI.len
    simp only at hb1 hb2 hb3 hb4
    cases q with
    | false =>
      simp only [Bool.false_eq_true, if_false] at hq
      obtain ⟨rfl, hms⟩ := hq
      simp only [go_sem, ↓reduceIte, reduceCtorEq, Nat.reduceEqDiff, Nat.reduceLT, Nat.reduceLeDiff, Nat.reduceAdd, Nat.reduceSub, Nat.reduceMul, Nat.reduceGT, Int.reduceNeg, Int.reduceToNat, h2, h3, h4, h5]
      refine hk _ _ ⟨by omega, ?_, hI.old⟩
      rw [← hms, hb4, hb5]
    | true =>
      simp only [if_true] at hq
      obtain ⟨rfl, hbeg⟩ := hq
      simp only [go_sem, ↓reduceIte, reduceCtorEq, Nat.reduceEqDiff, Nat.reduceLT, Nat.reduceLeDiff, Nat.reduceAdd, Nat.reduceSub, Nat.reduceMul, Nat.reduceGT, Int.reduceNeg, Int.reduceToNat, h2, h3, h4, h5, hb2, hb3]
      refine awp_count0 c.clauses.length (fun e0 s0 k e st => ∃ (ms1 : List Es.Mark) (q1 : Bool), Es.pass c { s with marks := ms } k = (ms1, q1) ∧ e 2 = e0 2 ∧ e 3 = e0 3 ∧ e 4 = e0 4 ∧ e 11 = e0 11 ∧ e 12 = e0 12 ∧ e 13 = .v (.int .i64 k) ∧ e 5 = .v (.bool q1) ∧ MInv o nx c s fh fu fm tm ms1 st) ⟨ms, false, rfl, rfl, rfl, rfl, rfl, rfl, ?_, ?_, hI⟩ ?_
      · simp only [go_sem, ↓reduceIte, reduceCtorEq, Nat.reduceEqDiff, Nat.reduceLT, Nat.reduceLeDiff, Nat.reduceAdd, Nat.reduceSub, Nat.reduceMul, Nat.reduceGT, Int.reduceNeg, Int.reduceToNat]; rfl
      · simp only [go_sem, ↓reduceIte, reduceCtorEq, Nat.reduceEqDiff, Nat.reduceLT, Nat.reduceLeDiff, Nat.reduceAdd, Nat.reduceSub, Nat.reduceMul, Nat.reduceGT, Int.reduceNeg, Int.reduceToNat]
      rintro k e' ⟨o2, nx2⟩ hk2 ⟨ms1, q1, hp, a2, a3, a4, a11, a12, a13, a5, hJ⟩
      simp only [go_sem, ↓reduceIte, reduceCtorEq, Nat.reduceEqDiff, Nat.reduceLT, Nat.reduceLeDiff, Nat.reduceAdd, Nat.reduceSub, Nat.reduceMul, Nat.reduceGT, Int.reduceNeg, Int.reduceToNat, h2, h3, h4] at a2 a3 a4 a11 a12
      have c1 := hJ.nxt
      have c2 := hJ.con
      have c3 := hJ.sta
      have c4 := hJ.mrk
      have c5 := hJ.len
      have c6 := hJ.hol
      simp only at c1 c2 c3 c4 c6
      have e0 : ∀ {a b : Nat}, a ≠ b → (a = b) = False := fun h => by simp [h]
      have z1 : (nx = nx + 1) = False := e0 (by omega); have z2 : (nx = nx + 1 + 1) = False := e0 (by omega); have z3 : (nx = fm) = False := e0 (by omega); have z4 : (nx = nx2) = False := e0 (by omega); have z5 : (nx + 1 = nx) = False := e0 (by omega); have z6 : (nx + 1 = nx + 1 + 1) = False := e0 (by omega); have z7 : (nx + 1 = fm) = False := e0 (by omega); have z8 : (nx + 1 = nx2) = False := e0 (by omega); have z9 : (nx + 1 + 1 = nx) = False := e0 (by omega); have z10 : (nx + 1 + 1 = nx + 1) = False := e0 (by omega); have z11 : (nx + 1 + 1 = fm) = False := e0 (by omega); have z12 : (nx + 1 + 1 = nx2) = False := e0 (by omega); have z13 : (fm = nx) = False := e0 (by omega); have z14 : (fm = nx + 1) = False := e0 (by omega); have z15 : (fm = nx + 1 + 1) = False := e0 (by omega); have z16 : (fm = nx2) = False := e0 (by omega); have z17 : (nx2 = nx) = False := e0 (by omega); have z18 : (nx2 = nx + 1) = False := e0 (by omega); have z19 : (nx2 = nx + 1 + 1) = False := e0 (by omega); have z20 : (nx2 = fm) = False := e0 (by omega)
      simp only [go_sem, ↓reduceIte, reduceCtorEq, Nat.reduceEqDiff, Nat.reduceLT, Nat.reduceLeDiff, Nat.reduceAdd, Nat.reduceSub, Nat.reduceMul, Nat.reduceGT, Int.reduceNeg, Int.reduceToNat, a2, a3, a4, a11, a12, a13, a5, c2, c3, c4, c6, z1, z2, z3, z4, z5, z6, z7, z8, z9, z10, z11, z12, z13, z14, z15, z16, z17, z18, z19, z20]
      refine ite_cases (fun hlt => ?_) (fun hlt => ?_)
      · have hlt' : k < c.clauses.length := Es.len_lt.1 hlt
        have hlm : k < ms1.length := by have := hF.len; omega
        refine ⟨⟨by omega, hlt⟩, ?_⟩
        have hst := hF.cond k hlt'
        have hml : Es.len ms1 = Es.len c.clauses := by have := hF.len; simp only [Es.len]; omega
        have hcall2 : callable prog 52 = true := by simp only [go_sem]
        have hlm' : k < s.marks.length := by omega
        have hJ2 : ∀ B, MInv o nx c s fh fu fm tm ms1 ⟨St.set o2 nx2 0 B, nx2 + 1⟩ := fun B => ⟨by simp only; omega, by simp only [St.set]; rw [if_neg (by omega)]; exact c2, by simp only [St.set]; rw [if_neg (by omega)]; exact c3, by simp only [St.set]; rw [if_neg (by omega)]; exact c6, c5,
          by simp only [St.set]; rw [if_neg (by omega)]; exact c4, fun f j hf hne => by simp only [St.set]; rw [if_neg (by omega)]; exact hJ.old f j hf hne⟩
        have hrdy : Es.ready c { s with marks := ms1 } (k : Int) = (((Es.at_ ms1 (k : Int)).status == 0) && !(Es.at_ c.clauses (k : Int)).waived && !(Es.at_ c.clauses (k : Int)).start.any (Es.fails { s with marks := ms1 })) := rfl
        have hno : Es.ready c { s with marks := ms1 } (k : Int) = false → Es.pass c { s with marks := ms } (k + 1) = (ms1, q1) := fun h => by
          rw [Es.pass_succ, hp]; unfold Es.stepB; rw [if_neg (by rw [show Es.ready c { ({ s with marks := ms } : Es.State) with marks := (ms1, q1).1 } (k : Int) = Es.ready c { s with marks := ms1 } (k : Int) from rfl, h]; simp)]
        have hw1 : IntKind.i64.wrap ((k : Int) + 1) = ((k + 1 : Nat) : Int) := by rw [wrap_i64 _ (by omega) (by omega)]; simp
        simp only [Nat.zero_add, Int.toNat_natCast]
        refine ⟨⟨by omega, by omega⟩, hlm', ite_cases (fun hs0 => ?_) (fun hs0 => ?_)⟩
        · refine ite_cases (fun hwv => ?_) (fun hwv => ?_)
          · have hs0' : ((Es.at_ ms1 (k : Int)).status == 0) = true := by simp_all
            have hcon := containsC_spec 52 [.rp 1 (hldC { s with marks := ms1 }) 0] hcall2 ⟨pu_rp (pu_hldC _), trivial⟩ (Es.fails { s with marks := ms1 }) (Es.at_ c.clauses (k : Int)).start (by have := hst.1; simp only [Es.len] at this; omega) (fun x hm => mfails_spec { s with marks := ms1 } x (by rw [show Es.len ({ s with marks := ms1 } : Es.State).marks = Es.len c.clauses from hml]; exact hst.2 x hm) (hI4 k hlt' x hm))
            refine lend_at M_P M_G hcon gpu (.v _) ⟨(pu_slD pu_condC _).fz, Fz_fn ⟨.mp _ 0 1 0 0 1 109 _ _ ((set_ne (by omega)).trans c6) (by omega) fun j hj => ?_, trivial⟩, trivial⟩ ?_
            · obtain rfl : j = 0 := by omega
              refine Fz_fn ⟨.mp _ 0 4 0 0 1 38 _ _ ((set_ne (by omega)).trans c3) (by omega) fun j hj => ?_, trivial⟩
              rcases (show j = 0 ∨ j = 1 ∨ j = 2 ∨ j = 3 by omega) with rfl | rfl | rfl | rfl
              · exact .v _
              · exact fz_rows ((set_ne (by omega)).trans ((hJ.old fh 0 hx.1 (by omega)).trans hs.h)) rfl pu_intC
              · exact fz_rows ((set_ne (by omega)).trans ((hJ.old fu 0 hx.2.1 (by omega)).trans hs.u)) rfl pu_booC
              · exact fz_rows ((set_ne (by omega)).trans c4) c5.symm pu_mrkC
            simp only [go_sem, ↓reduceIte, reduceCtorEq, Nat.reduceEqDiff, Nat.reduceLT, Nat.reduceLeDiff, Nat.reduceAdd, Nat.reduceSub, Nat.reduceMul, Nat.reduceGT, Int.reduceNeg, Int.reduceToNat, a2, a3, a4, a11, a12, a13, a5, c2, c3, c4, c6, z1, z2, z3, z4, z5, z6, z7, z8, z9, z10, z11, z12, z13, z14, z15, z16, z17, z18, z19, z20]
            refine ite_cases (fun hany => ?_) (fun hany => ?_)
            · refine ⟨hlt', ms1, q1, hno (by rw [hrdy, hany]; simp), ?_⟩
              simp only [go_sem, ↓reduceIte, reduceCtorEq, Nat.reduceEqDiff, Nat.reduceLT, Nat.reduceLeDiff, Nat.reduceAdd, Nat.reduceSub, Nat.reduceMul, Nat.reduceGT, Int.reduceNeg, Int.reduceToNat, h2, h3, h4, a2, a3, a4, a11, a12, a13, a5, hw1]
              exact hJ2 _
            · have hrd' : Es.ready c { s with marks := ms1 } (k : Int) = true := by rw [hrdy]; simp_all
              simp only [Nat.zero_add, Int.toNat_natCast, setC_mrkA hlm]
              have hJ3 : ∀ B (m : Es.Mark), MInv o nx c s fh fu fm tm (ms1.set k m) ⟨St.set (St.set o2 nx2 0 B) fm 0 (some (.blk 5 s.marks.length tm (rowsOf mrkC (ms1.set k m)))), nx2 + 1⟩ := fun B m => ⟨by simp only; omega,
                by simp only [St.set]; rw [if_neg (by omega), if_neg (by omega)]; exact c2, by simp only [St.set]; rw [if_neg (by omega), if_neg (by omega)]; exact c3, by simp only [St.set]; rw [if_neg (by omega), if_neg (by omega)]; exact c6, by simpa using c5,
                by simp [St.set], fun f j hf hne => by simp only [St.set]; rw [if_neg hne, if_neg (by omega)]; exact hJ.old f j hf hne⟩
              have hps : ∀ m, m = Es.startMark c { s with marks := ms } (k : Int) → Es.pass c { s with marks := ms } (k + 1) = (ms1.set k m, true) := fun m hm => by
                rw [Es.pass_succ, hp]; unfold Es.stepB; rw [if_pos hrd', hm]
              refine ⟨⟨by omega, by omega⟩, hlm', ?_⟩
              refine ite_cases (fun hkd => ?_) (fun hkd => ?_)
              · have hrole := hF.role k hlt' (by simpa using hkd)
                refine awp_plan ((.op 0 (.op 1 (.op 2 (.op 3 (.op 4 (.op 5 (.op 6 (.op 7 (.op 8 (.op 9 (.op 10 (.op 11 .done))))))))))))) [11] mix (by kernel_rfl) ?_
                have hoh : ∀ B B', St.set (St.set o2 nx2 0 B) fm 0 B' fh 0 = some (.blk 1 s.holders.length th (rowsOf intC s.holders)) := fun B B' => by
                  simp only [St.set]; rw [if_neg (by omega), if_neg (by omega)]; exact (hJ.old fh 0 hx.1 (by omega)).trans hs.h
                have hlk : k < (ms1.set k ⟨1, (Es.at_ c.clauses (k : Int)).after, 0, -1, false⟩).length := by simpa using hlm
                have hat : Es.at_ s.holders (((Es.at_ c.clauses (k : Int)).role.toNat : Nat) : Int) = Es.at_ s.holders (Es.at_ c.clauses (k : Int)).role := by
                  generalize (Es.at_ c.clauses (k : Int)).role = rl
                  unfold Es.at_; rw [Int.toNat_natCast]
                simp only [go_sem, ↓reduceIte, reduceCtorEq, Nat.reduceEqDiff, Nat.reduceLT, Nat.reduceLeDiff, Nat.reduceAdd, Nat.reduceSub, Nat.reduceMul, Nat.reduceGT, Int.reduceNeg, Int.reduceToNat, a2, a3, a4, a11, a12, a13, a5, c2, c3, c4, c6, z1, z2, z3, z4, z5, z6, z7, z8, z9, z10, z11, z12, z13, z14, z15, z16, z17, z18, z19, z20, hoh, Nat.zero_add, Int.toNat_natCast]
                simp only [setC_mrk3 hlk, at_set hlm, List.set_set, hat]
                refine ⟨⟨hrole.1, by have := hrole.2; simp only [Es.len] at this; exact this⟩, by have := hrole.2; simp only [Es.len] at this; omega, ⟨by omega, by omega⟩, hlm', hlt', _, _, hps ⟨1, (Es.at_ c.clauses (k : Int)).after, 0, Es.at_ s.holders (Es.at_ c.clauses (k : Int)).role, false⟩ ?_, ?_⟩
                · unfold Es.startMark; rw [if_pos hkd]
                · simp only [go_sem, ↓reduceIte, reduceCtorEq, Nat.reduceEqDiff, Nat.reduceLT, Nat.reduceLeDiff, Nat.reduceAdd, Nat.reduceSub, Nat.reduceMul, Nat.reduceGT, Int.reduceNeg, Int.reduceToNat, h2, h3, h4, a2, a3, a4, a11, a12, a13, a5, hw1]
                  exact hJ3 _ _
              · refine ⟨hlt', _, _, hps ⟨1, (Es.at_ c.clauses (k : Int)).after, 0, -1, false⟩ ?_, ?_⟩
                · unfold Es.startMark; rw [if_neg hkd]
                · simp only [go_sem, ↓reduceIte, reduceCtorEq, Nat.reduceEqDiff, Nat.reduceLT, Nat.reduceLeDiff, Nat.reduceAdd, Nat.reduceSub, Nat.reduceMul, Nat.reduceGT, Int.reduceNeg, Int.reduceToNat, h2, h3, h4, a2, a3, a4, a11, a12, a13, a5, hw1]
                  exact hJ3 _ _
          · refine ⟨hlt', ms1, q1, hno (by rw [hrdy]; simp_all), ?_⟩
            simp only [go_sem, ↓reduceIte, reduceCtorEq, Nat.reduceEqDiff, Nat.reduceLT, Nat.reduceLeDiff, Nat.reduceAdd, Nat.reduceSub, Nat.reduceMul, Nat.reduceGT, Int.reduceNeg, Int.reduceToNat, h2, h3, h4, a2, a3, a4, a11, a12, a13, a5, hw1]
            exact hJ2 _
        · refine ⟨hlt', ms1, q1, hno (by rw [hrdy]; simp_all), ?_⟩
          simp only [go_sem, ↓reduceIte, reduceCtorEq, Nat.reduceEqDiff, Nat.reduceLT, Nat.reduceLeDiff, Nat.reduceAdd, Nat.reduceSub, Nat.reduceMul, Nat.reduceGT, Int.reduceNeg, Int.reduceToNat, h2, h3, h4, a2, a3, a4, a11, a12, a13, a5, hw1]
          exact hJ2 _
      · have hkk : k = c.clauses.length := by simp only [Es.len] at hlt; omega
        subst hkk
        have hpi := Es.pass_idle c { s with marks := ms } c.clauses.length (by have := hF.len; simp only; omega)
        rw [hp] at hpi
        cases q1 with
        | true =>
          refine ⟨Es.idle ms1 + 1, by have := hpi.2; simp only [if_true] at this; omega, ms1, true, ?_⟩
          simp only [go_sem, ↓reduceIte, reduceCtorEq, Nat.reduceEqDiff, Nat.reduceLT, Nat.reduceLeDiff, Nat.reduceAdd, Nat.reduceSub, Nat.reduceMul, Nat.reduceGT, Int.reduceNeg, Int.reduceToNat, h2, h3, h4, a2, a3, a4, a11, a12, a13, a5]
          refine ⟨hJ, ?_⟩
          have := Es.beginF_step (c := c) (s := { s with marks := ms }) (by have := hF.len; simp only; omega) (by rw [hp])
          rw [hp] at this
          rw [← hbeg, this]
        | false =>
          refine ⟨0, by omega, ms1, false, ?_⟩
          simp only [go_sem, ↓reduceIte, reduceCtorEq, Nat.reduceEqDiff, Nat.reduceLT, Nat.reduceLeDiff, Nat.reduceAdd, Nat.reduceSub, Nat.reduceMul, Nat.reduceGT, Int.reduceNeg, Int.reduceToNat, h2, h3, h4, a2, a3, a4, a11, a12, a13, a5]
          refine ⟨hJ, ?_⟩
          have := Es.begin_done (c := c) (s := { s with marks := ms }) (by rw [hp])
          rw [hp] at this
          rw [← hbeg, this]
  · refine ⟨s.marks, true, by simp only [go_sem, ↓reduceIte, reduceCtorEq, Nat.reduceEqDiff, Nat.reduceLT, Nat.reduceLeDiff, Nat.reduceAdd, Nat.reduceSub, Nat.reduceMul, Nat.reduceGT, Int.reduceNeg, Int.reduceToNat], by simp only [go_sem, ↓reduceIte, reduceCtorEq, Nat.reduceEqDiff, Nat.reduceLT, Nat.reduceLeDiff, Nat.reduceAdd, Nat.reduceSub, Nat.reduceMul, Nat.reduceGT, Int.reduceNeg, Int.reduceToNat], by simp only [go_sem, ↓reduceIte, reduceCtorEq, Nat.reduceEqDiff, Nat.reduceLT, Nat.reduceLeDiff, Nat.reduceAdd, Nat.reduceSub, Nat.reduceMul, Nat.reduceGT, Int.reduceNeg, Int.reduceToNat], by simp only [go_sem, ↓reduceIte, reduceCtorEq, Nat.reduceEqDiff, Nat.reduceLT, Nat.reduceLeDiff, Nat.reduceAdd, Nat.reduceSub, Nat.reduceMul, Nat.reduceGT, Int.reduceNeg, Int.reduceToNat], ⟨by simp, ?_, ?_, ?_, rfl, ?_, ?_⟩, by simp⟩
    · (repeat (refine (set_ne (by omega)).trans ?_)); exact St_set_self _ _ _ _
    · (repeat (refine (set_ne (by omega)).trans ?_)); exact St_set_self _ _ _ _
    · exact St_set_self _ _ _ _
    · (repeat (refine (set_ne (by omega)).trans ?_)); exact hs.m
    · intro f j hf hne
      (repeat (refine (set_ne (by omega)).trans ?_)); rfl
end Tryz
end Go.Proofs
end
section
namespace Go.Proofs
open Go Go.Abs
set_option linter.unusedSimpArgs false
set_option maxRecDepth 10000
namespace Tryz
theorem holder_spec (c : Es.Contract) (p : Int) : APure M 30 [.v (.int .i64 p), .rp 7 (conC c) 0] (.v (.bool (decide (p < 0) || decide (c.parties ≤ p)))) := by
  refine pure_of gpu func30 rfl results30 ntmps30 (by simp) ⟨.v _, pu_rp (pu_conC c), trivial⟩ ?_
  intro b
  simp only [go_sem, ↓reduceIte, reduceCtorEq, Nat.reduceEqDiff, Nat.reduceLT, Nat.reduceLeDiff, Nat.reduceAdd, Nat.reduceSub, Nat.reduceMul, Nat.reduceGT, Int.reduceNeg, Int.reduceToNat]
  repeat' (first | (with_reducible refine And.intro ?_ ?_) | ((with_reducible refine ite_cases ?_ ?_) <;> intro _))
  all_goals first | (simp [decide_eq_true_eq, *]; done) | (simp [decide_eq_true_eq, *]; omega) | (simp_all [decide_eq_true_eq]; done) | (simp_all [decide_eq_true_eq]; omega)
theorem isNaN_spec (n : Int) : APure M 117 [.v (.int .i64 n)] (.v (.bool false)) := by
  refine pure_of gpu func117 rfl results117 ntmps117 (by simp) ⟨.v _, trivial⟩ ?_
  intro b
  simp only [go_sem, ↓reduceIte, reduceCtorEq, Nat.reduceEqDiff, Nat.reduceLT, Nat.reduceLeDiff, Nat.reduceAdd, Nat.reduceSub, Nat.reduceMul, Nat.reduceGT, Int.reduceNeg, Int.reduceToNat]
  simp
theorem isNaN2_spec (n : Int) : APure M 95 [.v (.int .i64 n)] (.v (.bool false)) := by
  refine pure_of gpu func95 rfl results95 ntmps95 (by simp) ⟨.v _, trivial⟩ ?_
  intro b
  simp only [go_sem, ↓reduceIte, reduceCtorEq, Nat.reduceEqDiff, Nat.reduceLT, Nat.reduceLeDiff, Nat.reduceAdd, Nat.reduceSub, Nat.reduceMul, Nat.reduceGT, Int.reduceNeg, Int.reduceToNat]
  simp
theorem less_spec (a b : Int) : APure M 94 [.v (.int .i64 a), .v (.int .i64 b)] (.v (.bool (decide (a < b)))) := by
  refine pure_of gpu func94 rfl results94 ntmps94 (by simp) ⟨.v _, .v _, trivial⟩ ?_
  intro b
  simp only [go_sem, ↓reduceIte, reduceCtorEq, Nat.reduceEqDiff, Nat.reduceLT, Nat.reduceLeDiff, Nat.reduceAdd, Nat.reduceSub, Nat.reduceMul, Nat.reduceGT, Int.reduceNeg, Int.reduceToNat]
  repeat' (first | ((with_reducible refine call_at M_P M_G (isNaN_spec _) ?_); simp only [go_sem, ↓reduceIte, reduceCtorEq, Nat.reduceEqDiff, Nat.reduceLT, Nat.reduceLeDiff, Nat.reduceAdd, Nat.reduceSub, Nat.reduceMul, Nat.reduceGT, Int.reduceNeg, Int.reduceToNat]) | (with_reducible refine And.intro ?_ ?_) | ((with_reducible refine ite_cases ?_ ?_) <;> intro _))
theorem equalI_spec (l m : List Int) (hl : l.length ≤ 9223372036854775807) : APure M 36 [slD 1 intC l, slD 1 intC m] (.v (.bool (l == m))) := by
  refine pure_of gpu func36 rfl results36 ntmps36 (by simp) ⟨pu_slD pu_intC _, pu_slD pu_intC _, trivial⟩ ?_
  intro b
  simp only [go_sem, ↓reduceIte, reduceCtorEq, Nat.reduceEqDiff, Nat.reduceLT, Nat.reduceLeDiff, Nat.reduceAdd, Nat.reduceSub, Nat.reduceMul, Nat.reduceGT, Int.reduceNeg, Int.reduceToNat]
  refine ite_cases (fun hne => ?_) (fun hne => ?_)
  · have : l ≠ m := fun h => by rw [h] at hne; simp at hne
    simp [this]
  · have hlen : l.length = m.length := by simp [Es.len] at hne; omega
    refine awp_count0 l.length (fun e0 s0 k e s => (e 0 = e0 0 ∧ e 1 = e0 1 ∧ e 12 = e0 12) ∧ e 13 = .v (.int .i64 k) ∧ s = s0 ∧ ∀ j : Nat, j < k → Es.at_ l j = Es.at_ m j) ⟨⟨rfl, rfl, rfl⟩, ?_, rfl, (by omega)⟩ ?_
    · simp only [go_sem, ↓reduceIte, reduceCtorEq, Nat.reduceEqDiff, Nat.reduceLT, Nat.reduceLeDiff, Nat.reduceAdd, Nat.reduceSub, Nat.reduceMul, Nat.reduceGT, Int.reduceNeg, Int.reduceToNat]; rfl
    rintro k e s hk ⟨⟨h0, h1, h12⟩, h13, rfl, hall⟩
    simp only [go_sem, ↓reduceIte, reduceCtorEq, Nat.reduceEqDiff, Nat.reduceLT, Nat.reduceLeDiff, Nat.reduceAdd, Nat.reduceSub, Nat.reduceMul, Nat.reduceGT, Int.reduceNeg, Int.reduceToNat] at h0 h1 h12
    simp only [go_sem, ↓reduceIte, reduceCtorEq, Nat.reduceEqDiff, Nat.reduceLT, Nat.reduceLeDiff, Nat.reduceAdd, Nat.reduceSub, Nat.reduceMul, Nat.reduceGT, Int.reduceNeg, Int.reduceToNat, h0, h1, h12, h13]
    refine ite_cases (fun hlt => ?_) (fun hlt => ?_)
    · have hlt' : k < l.length := Es.len_lt.1 hlt
      refine awp_plan ((.op 0 (.op 1 (.op 2 (.op 3 (.op 4 (.op 5 (.op 6 (.op 7 (.op 8 .done)))))))))) [] mix (by kernel_rfl) ?_
      simp only [go_sem, ↓reduceIte, reduceCtorEq, Nat.reduceEqDiff, Nat.reduceLT, Nat.reduceLeDiff, Nat.reduceAdd, Nat.reduceSub, Nat.reduceMul, Nat.reduceGT, Int.reduceNeg, Int.reduceToNat, h0, h1, h12, h13]
      refine ⟨⟨by omega, hlt⟩, ⟨by omega, by simp only [Es.len] at hlt ⊢; omega⟩, ?_⟩
      refine ite_cases (fun hd => ?_) (fun hd => ?_)
      · have : l ≠ m := fun h => by rw [h] at hd; simp at hd
        simp [this]
      · refine ⟨hlt', ?_⟩
        simp only [go_sem, ↓reduceIte, reduceCtorEq, Nat.reduceEqDiff, Nat.reduceLT, Nat.reduceLeDiff, Nat.reduceAdd, Nat.reduceSub, Nat.reduceMul, Nat.reduceGT, Int.reduceNeg, Int.reduceToNat, h0, h1, h12, h13]
        refine ⟨by rw [wrap_i64 _ (by omega) (by omega)]; simp, fun j hj => ?_⟩
        rcases Nat.lt_or_ge j k with h | h
        · exact hall j h
        · have : j = k := by omega
          rw [this]; simpa using hd
    · have hkk : k = l.length := by simp only [Es.len] at hlt; omega
      have : l = m := by
        apply List.ext_getElem hlen
        intro j h1 h2
        have := hall j (by omega)
        rwa [Es.at_nat h1, Es.at_nat h2] at this
      simp [this]
theorem equalB_spec (l m : List Bool) (hl : l.length ≤ 9223372036854775807) : APure M 37 [slD 1 booC l, slD 1 booC m] (.v (.bool (l == m))) := by
  refine pure_of gpu func37 rfl results37 ntmps37 (by simp) ⟨pu_slD pu_booC _, pu_slD pu_booC _, trivial⟩ ?_
  intro b
  simp only [go_sem, ↓reduceIte, reduceCtorEq, Nat.reduceEqDiff, Nat.reduceLT, Nat.reduceLeDiff, Nat.reduceAdd, Nat.reduceSub, Nat.reduceMul, Nat.reduceGT, Int.reduceNeg, Int.reduceToNat]
  refine ite_cases (fun hne => ?_) (fun hne => ?_)
  · have : l ≠ m := fun h => by rw [h] at hne; simp at hne
    simp [this]
  · have hlen : l.length = m.length := by simp [Es.len] at hne; omega
    refine awp_count0 l.length (fun e0 s0 k e s => (e 0 = e0 0 ∧ e 1 = e0 1 ∧ e 12 = e0 12) ∧ e 13 = .v (.int .i64 k) ∧ s = s0 ∧ ∀ j : Nat, j < k → Es.at_ l j = Es.at_ m j) ⟨⟨rfl, rfl, rfl⟩, ?_, rfl, (by omega)⟩ ?_
    · simp only [go_sem, ↓reduceIte, reduceCtorEq, Nat.reduceEqDiff, Nat.reduceLT, Nat.reduceLeDiff, Nat.reduceAdd, Nat.reduceSub, Nat.reduceMul, Nat.reduceGT, Int.reduceNeg, Int.reduceToNat]; rfl
    rintro k e s hk ⟨⟨h0, h1, h12⟩, h13, rfl, hall⟩
    simp only [go_sem, ↓reduceIte, reduceCtorEq, Nat.reduceEqDiff, Nat.reduceLT, Nat.reduceLeDiff, Nat.reduceAdd, Nat.reduceSub, Nat.reduceMul, Nat.reduceGT, Int.reduceNeg, Int.reduceToNat] at h0 h1 h12
    simp only [go_sem, ↓reduceIte, reduceCtorEq, Nat.reduceEqDiff, Nat.reduceLT, Nat.reduceLeDiff, Nat.reduceAdd, Nat.reduceSub, Nat.reduceMul, Nat.reduceGT, Int.reduceNeg, Int.reduceToNat, h0, h1, h12, h13]
    refine ite_cases (fun hlt => ?_) (fun hlt => ?_)
    · have hlt' : k < l.length := Es.len_lt.1 hlt
      refine awp_plan ((.op 0 (.op 1 (.op 2 (.op 3 (.op 4 (.op 5 (.op 6 (.op 7 (.op 8 .done)))))))))) [] mix (by kernel_rfl) ?_
      simp only [go_sem, ↓reduceIte, reduceCtorEq, Nat.reduceEqDiff, Nat.reduceLT, Nat.reduceLeDiff, Nat.reduceAdd, Nat.reduceSub, Nat.reduceMul, Nat.reduceGT, Int.reduceNeg, Int.reduceToNat, h0, h1, h12, h13]
      refine ⟨⟨by omega, hlt⟩, ⟨by omega, by simp only [Es.len] at hlt ⊢; omega⟩, ?_⟩
      refine ite_cases (fun hd => ?_) (fun hd => ?_)
      · have : l ≠ m := fun h => by rw [h] at hd; simp at hd
        simp [this]
      · refine ⟨hlt', ?_⟩
        simp only [go_sem, ↓reduceIte, reduceCtorEq, Nat.reduceEqDiff, Nat.reduceLT, Nat.reduceLeDiff, Nat.reduceAdd, Nat.reduceSub, Nat.reduceMul, Nat.reduceGT, Int.reduceNeg, Int.reduceToNat, h0, h1, h12, h13]
        refine ⟨by rw [wrap_i64 _ (by omega) (by omega)]; simp, fun j hj => ?_⟩
        rcases Nat.lt_or_ge j k with h | h
        · exact hall j h
        · have : j = k := by omega
          rw [this]; simpa using hd
    · have hkk : k = l.length := by simp only [Es.len] at hlt; omega
      have : l = m := by
        apply List.ext_getElem hlen
        intro j h1 h2
        have := hall j (by omega)
        rwa [Es.at_nat h1, Es.at_nat h2] at this
      simp [this]
end Tryz
end Go.Proofs
end
section
namespace Go.Proofs
open Go Go.Abs
set_option linter.unusedSimpArgs false
set_option maxRecDepth 10000
namespace Tryz
theorem equalM_spec (l m : List Es.Mark) (hl : l.length ≤ 9223372036854775807) : APure M 38 [slD 5 mrkC l, slD 5 mrkC m] (.v (.bool (l == m))) := by
  refine pure_of gpu func38 rfl results38 ntmps38 (by simp) ⟨pu_slD pu_mrkC _, pu_slD pu_mrkC _, trivial⟩ ?_
  intro b
  simp only [go_sem, ↓reduceIte, reduceCtorEq, Nat.reduceEqDiff, Nat.reduceLT, Nat.reduceLeDiff, Nat.reduceAdd, Nat.reduceSub, Nat.reduceMul, Nat.reduceGT, Int.reduceNeg, Int.reduceToNat]
  refine ite_cases (fun hne => ?_) (fun hne => ?_)
  · have : l ≠ m := fun h => by rw [h] at hne; simp at hne
    simp [this]
  · have hlen : l.length = m.length := by simp [Es.len] at hne; omega
    refine awp_count0 l.length (fun e0 s0 k e s => (e 0 = e0 0 ∧ e 1 = e0 1 ∧ e 12 = e0 12) ∧ e 13 = .v (.int .i64 k) ∧ s = s0 ∧ ∀ j : Nat, j < k → Es.at_ l j = Es.at_ m j) ⟨⟨rfl, rfl, rfl⟩, ?_, rfl, (by omega)⟩ ?_
    · simp only [go_sem, ↓reduceIte, reduceCtorEq, Nat.reduceEqDiff, Nat.reduceLT, Nat.reduceLeDiff, Nat.reduceAdd, Nat.reduceSub, Nat.reduceMul, Nat.reduceGT, Int.reduceNeg, Int.reduceToNat]; rfl
    rintro k e s hk ⟨⟨h0, h1, h12⟩, h13, rfl, hall⟩
    simp only [go_sem, ↓reduceIte, reduceCtorEq, Nat.reduceEqDiff, Nat.reduceLT, Nat.reduceLeDiff, Nat.reduceAdd, Nat.reduceSub, Nat.reduceMul, Nat.reduceGT, Int.reduceNeg, Int.reduceToNat] at h0 h1 h12
    simp only [go_sem, ↓reduceIte, reduceCtorEq, Nat.reduceEqDiff, Nat.reduceLT, Nat.reduceLeDiff, Nat.reduceAdd, Nat.reduceSub, Nat.reduceMul, Nat.reduceGT, Int.reduceNeg, Int.reduceToNat, h0, h1, h12, h13]
    refine ite_cases (fun hlt => ?_) (fun hlt => ?_)
    · have hlt' : k < l.length := Es.len_lt.1 hlt
      refine awp_plan ((.op 0 (.op 1 (.op 2 (.op 3 (.op 4 (.op 5 (.op 6 (.op 7 (.op 8 .done)))))))))) [] mix (by kernel_rfl) ?_
      simp only [go_sem, ↓reduceIte, reduceCtorEq, Nat.reduceEqDiff, Nat.reduceLT, Nat.reduceLeDiff, Nat.reduceAdd, Nat.reduceSub, Nat.reduceMul, Nat.reduceGT, Int.reduceNeg, Int.reduceToNat, h0, h1, h12, h13, ← Es.mark_beq]
      refine ⟨⟨by omega, hlt⟩, ⟨by omega, by simp only [Es.len] at hlt ⊢; omega⟩, ?_⟩
      refine ite_cases (fun hd => ?_) (fun hd => ?_)
      · have : l ≠ m := fun h => by rw [h] at hd; simp at hd
        simp [this]
      · refine ⟨hlt', ?_⟩
        simp only [go_sem, ↓reduceIte, reduceCtorEq, Nat.reduceEqDiff, Nat.reduceLT, Nat.reduceLeDiff, Nat.reduceAdd, Nat.reduceSub, Nat.reduceMul, Nat.reduceGT, Int.reduceNeg, Int.reduceToNat, h0, h1, h12, h13]
        refine ⟨by rw [wrap_i64 _ (by omega) (by omega)]; simp, fun j hj => ?_⟩
        rcases Nat.lt_or_ge j k with h | h
        · exact hall j h
        · have : j = k := by omega
          rw [this]; simpa using hd
    · have hkk : k = l.length := by simp only [Es.len] at hlt; omega
      have : l = m := by
        apply List.ext_getElem hlen
        intro j h1 h2
        have := hall j (by omega)
        rwa [Es.at_nat h1, Es.at_nat h2] at this
      simp [this]

theorem same_spec (a b : Es.State) (ha : Es.SFits a) : APure M 18 [staD a, staD b] (.v (.bool (a.day == b.day && a.holders == b.holders && a.used == b.used && a.marks == b.marks))) := by
  refine pure_of gpu func18 rfl results18 ntmps18 (by simp) ⟨pu_staD _, pu_staD _, trivial⟩ ?_
  intro b
  simp only [go_sem, ↓reduceIte, reduceCtorEq, Nat.reduceEqDiff, Nat.reduceLT, Nat.reduceLeDiff, Nat.reduceAdd, Nat.reduceSub, Nat.reduceMul, Nat.reduceGT, Int.reduceNeg, Int.reduceToNat]
  repeat' (first | ((with_reducible refine call_at M_P M_G (equalI_spec _ _ ha.holders) ?_); simp only [go_sem, ↓reduceIte, reduceCtorEq, Nat.reduceEqDiff, Nat.reduceLT, Nat.reduceLeDiff, Nat.reduceAdd, Nat.reduceSub, Nat.reduceMul, Nat.reduceGT, Int.reduceNeg, Int.reduceToNat]) | ((with_reducible refine call_at M_P M_G (equalB_spec _ _ ha.used) ?_); simp only [go_sem, ↓reduceIte, reduceCtorEq, Nat.reduceEqDiff, Nat.reduceLT, Nat.reduceLeDiff, Nat.reduceAdd, Nat.reduceSub, Nat.reduceMul, Nat.reduceGT, Int.reduceNeg, Int.reduceToNat]) | ((with_reducible refine call_at M_P M_G (equalM_spec _ _ ha.marks) ?_); simp only [go_sem, ↓reduceIte, reduceCtorEq, Nat.reduceEqDiff, Nat.reduceLT, Nat.reduceLeDiff, Nat.reduceAdd, Nat.reduceSub, Nat.reduceMul, Nat.reduceGT, Int.reduceNeg, Int.reduceToNat]) | (with_reducible refine And.intro ?_ ?_) | ((with_reducible refine ite_cases ?_ ?_) <;> intro _))
  all_goals first | (simp [decide_eq_true_eq, *]; done) | (simp [decide_eq_true_eq, *]; omega) | (simp_all [decide_eq_true_eq]; done) | (simp_all [decide_eq_true_eq]; omega)

theorem doer_spec (c : Es.Contract) (s : Es.State) (a : Int) (h1 : 0 ≤ a ∧ a < Es.len c.acts) (h2 : (Es.at_ c.acts a).role ≠ -1 → 0 ≤ (Es.at_ c.acts a).role ∧ (Es.at_ c.acts a).role < Es.len s.holders) : APure M 81 [conD c, staD s, .v (.int .i64 a)] (.v (.int .i64 (if (Es.at_ c.acts a).role == -1 then -1 else Es.at_ s.holders (Es.at_ c.acts a).role))) := by
  refine pure_of gpu func81 rfl results81 ntmps81 (by simp) ⟨pu_conD _, pu_staD _, .v _, trivial⟩ ?_
  intro b
  simp only [go_sem, ↓reduceIte, reduceCtorEq, Nat.reduceEqDiff, Nat.reduceLT, Nat.reduceLeDiff, Nat.reduceAdd, Nat.reduceSub, Nat.reduceMul, Nat.reduceGT, Int.reduceNeg, Int.reduceToNat]
  refine ⟨h1, ?_⟩
  repeat' (first | (with_reducible refine And.intro ?_ ?_) | ((with_reducible refine ite_cases ?_ ?_) <;> intro _))
  · exact (h2 (bne_iff_ne.1 ‹_›)).1
  · exact (h2 (bne_iff_ne.1 ‹_›)).2
  · first | (simp [bne_iff_ne, *]; done) | (simp [bne_iff_ne, *]; omega) | (simp_all [bne_iff_ne]; done) | (simp_all [bne_iff_ne]; omega)
  · first | (simp [bne_iff_ne, *]; done) | (simp [bne_iff_ne, *]; omega) | (simp_all [bne_iff_ne]; done) | (simp_all [bne_iff_ne]; omega)
end Tryz
end Go.Proofs
end
