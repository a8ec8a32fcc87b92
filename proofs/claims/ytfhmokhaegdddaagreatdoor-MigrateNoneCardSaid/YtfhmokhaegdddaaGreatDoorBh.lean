/-
  Parts of an abstract machine over the model, of the program's data and of what its functions compute: the texts LawM F63 F21 F19 F22 F64 F65 F43 F46 F47, merged.
-/
import Derived.Test.YtfhmokhaegdddaaGreatDoorBg
set_option linter.unusedSimpArgs false
set_option linter.unusedVariables false
section
/-
  Plain laws of migrate: what a patch leaves of the marks is well-formed.
-/
namespace Es
theorem inOrder_lt {n : Int} {l : List Int} (h : inOrder n l = true) : ∀ b a : Nat, a < b → b < l.length → at_ l (a : Int) < at_ l (b : Int)
  | 0, a, h1, _ => by omega
  | b + 1, a, h1, h2 => by
    have hb := allN_iff.1 h (b + 1) h2
    simp only [inOrdB, Bool.and_eq_true, Bool.or_eq_true, decide_eq_true_eq] at hb
    have h3 : at_ l (b : Int) < at_ l ((b + 1 : Nat) : Int) := by
      rcases hb.2 with h4 | h4
      · omega
      · rwa [show (((b + 1 : Nat) : Int) - 1) = (b : Int) by omega] at h4
    rcases Nat.lt_or_ge a b with h5 | h5
    · have := inOrder_lt h b a h5 (by omega); omega
    · obtain rfl : a = b := by omega
      exact h3
theorem inOrder_pw {n : Int} {l : List Int} (h : inOrder n l = true) : l.Pairwise (· < ·) ∧ ∀ i ∈ l, 0 ≤ i ∧ i < n := by
  refine ⟨List.pairwise_iff_getElem.2 fun a b ha hb hab => ?_, fun i hi => ?_⟩
  · have := inOrder_lt h b a hab hb
    rwa [at_nat ha, at_nat hb] at this
  · obtain ⟨k, hk, rfl⟩ := List.mem_iff_getElem.1 hi
    have := inOrder_at h hk
    rwa [at_nat hk] at this
theorem at_setA {α : Type} [Inhabited α] {l : List α} {r j : Nat} (hr : r < l.length) (m : α) : at_ (l.set r m) (j : Int) = if r = j then m else at_ l (j : Int) := by
  by_cases h : r = j
  · subst h; simp [at_, List.getD, hr]
  · simp [at_, List.getD, h]
theorem fold_len {α : Type} [Inhabited α] (g : Int → α → α) : ∀ (l : List Int) (ms : List α), (l.foldl (fun ms i => ms.set i.toNat (g i (at_ ms i))) ms).length = ms.length
  | [], _ => rfl
  | i :: l, ms => by rw [List.foldl_cons, fold_len g l]; simp
theorem fold_at {α : Type} [Inhabited α] (g : Int → α → α) : ∀ (l : List Int) (ms : List α), l.Pairwise (· < ·) → (∀ i ∈ l, 0 ≤ i ∧ i < len ms) → ∀ j : Nat, at_ (l.foldl (fun ms i => ms.set i.toNat (g i (at_ ms i))) ms) (j : Int) = if (j : Int) ∈ l then g (j : Int) (at_ ms (j : Int)) else at_ ms (j : Int)
  | [], _, _, _, j => by simp
  | i :: l, ms, hp, hr, j => by
    obtain ⟨h1, h2⟩ := List.pairwise_cons.1 hp
    have hi := hr i (List.mem_cons_self ..)
    have hi' : i.toNat < ms.length := by have := hi.2; simp only [len] at this; omega
    rw [List.foldl_cons, fold_at g l _ h2 (fun k hk => by have := hr k (List.mem_cons_of_mem _ hk); simpa [len] using this) j]
    have ha := at_setA (j := j) hi' (g i (at_ ms i))
    rw [ha]
    by_cases hj : (j : Int) ∈ l
    · have := h1 _ hj
      rw [if_pos hj, if_pos (List.mem_cons_of_mem _ hj), if_neg (by omega)]
    · rw [if_neg hj]
      by_cases hij : i = (j : Int)
      · rw [if_pos (by omega), if_pos (by rw [hij]; exact List.mem_cons_self ..), hij]
      · rw [if_neg (by omega), if_neg (by intro hm; rcases List.mem_cons.1 hm with h | h; exact hij h.symm; exact hj h)]
theorem marksF_len (c : Contract) (p : Patch) (s : State) : (marksF c p s).length = s.marks.length := fold_len _ _ _
/-- What a patch that can be applied is. -/
structure Fine2 (c : Contract) (p : Patch) (s : State) : Prop where
  core : Core c s
  eq : (applyP c p).1 = changed c p
  valid : (valid2 (changed c p)).1 = 0
  kind : 1 ≤ p.kind ∧ p.kind ≤ 5
  pw : p.clauses.Pairwise (· < ·)
  rng : ∀ i ∈ p.clauses, 0 ≤ i ∧ i < len c.clauses
  none : p.kind = 1 → p.clauses = []
  days : p.kind = 5 → 1 ≤ p.days ∧ p.days ≤ 400
  few : p.clauses.length ≤ 400
theorem formed_iff {c : Contract} {p : Patch} (h : formed c p = true) : (1 ≤ p.kind ∧ p.kind ≤ 5) ∧ inOrder (len c.clauses) p.clauses = true ∧ (p.kind = 1 → p.clauses = []) ∧ (p.kind = 5 → 1 ≤ p.days ∧ p.days ≤ 400) ∧ p.clauses.length ≤ 400 := by
  unfold formed at h
  split at h
  · cases h
  rename_i h1
  split at h
  · cases h
  rename_i h2
  simp only [Bool.or_eq_true, not_or, Bool.not_eq_true', Bool.and_eq_false_iff, not_and, decide_eq_true_eq, Bool.not_eq_false, Bool.and_eq_true, decide_eq_false_iff_not, Decidable.not_not] at h1
  refine ⟨by omega, by simpa using h2, fun hk => ?_, fun hk => ?_, ?_⟩
  · have : mostOf p.kind = 0 := by rw [hk]; rfl
    have h3 := h1.1.2
    rw [this] at h3
    simp only [len] at h3
    exact List.eq_nil_of_length_eq_zero (by omega)
  · rw [if_pos (by simpa using hk)] at h
    simpa using h
  · have h3 := h1.1.2
    have h4 : mostOf p.kind ≤ 400 := by
      unfold mostOf
      split
      · omega
      · split <;> omega
    simp only [len] at h3
    omega
theorem fine2 {c : Contract} {p : Patch} {s : State} (hv : sValid c s = true) (h : (applyP c p).2 = 0) : Fine2 c p s := by
  obtain ⟨h1, h2, _, h4⟩ := applyP_ok h
  obtain ⟨g1, g2, g3, g4, g5⟩ := formed_iff h4
  obtain ⟨k1, k2⟩ := inOrder_pw g2
  exact ⟨(sValid_iff.1 hv).1, h1, h2, g1, k1, k2, g3, g4, g5⟩
variable {c : Contract} {p : Patch} {s : State}
theorem Fine2.mark (h : Fine2 c p s) (j : Nat) : at_ (marksF c p s) (j : Int) = if (j : Int) ∈ p.clauses then changeM c p s.holders (j : Int) (at_ s.marks (j : Int)) else at_ s.marks (j : Int) :=
  fold_at (changeM c p s.holders) p.clauses s.marks h.pw (fun i hi => by have := h.rng i hi; have hl := h.core.ml; simp only [len] at this ⊢; omega) j
theorem Fine2.clause (h : Fine2 c p s) (j : Nat) (hj : j < c.clauses.length) : at_ (changed c p).clauses (j : Int) = if (j : Int) ∈ p.clauses then change p (at_ c.clauses (j : Int)) else at_ c.clauses (j : Int) := by
  show at_ (changedL p c.clauses) (j : Int) = _
  unfold changedL
  by_cases hk : p.kind = 1
  · rw [if_pos (by simpa using hk), h.none hk]
    simp [at_, List.getD, List.getElem?_append_left hj]
  · rw [if_neg (by simpa using hk)]
    exact fold_at (fun _ => change p) p.clauses c.clauses h.pw h.rng j
theorem Fine2.clen (h : Fine2 c p s) : (changed c p).clauses.length = c.clauses.length + if p.kind = 1 then 1 else 0 := by
  show (changedL p c.clauses).length = _
  unfold changedL
  rw [changeF_len]
  by_cases hk : p.kind = 1
  · rw [if_pos (by simpa using hk), if_pos hk]; simp
  · rw [if_neg (by simpa using hk), if_neg hk]; rfl
theorem Fine2.last (h : Fine2 c p s) (hk : p.kind = 1) : at_ (changed c p).clauses ((c.clauses.length : Nat) : Int) = p.new := by
  show at_ (changedL p c.clauses) _ = _
  unfold changedL
  rw [if_pos (by simpa using hk), h.none hk]
  simp [at_, List.getD]
theorem Fine2.cok (h : Fine2 c p s) {j : Nat} (hj : j < (changed c p).clauses.length) : COk (changed c p) (at_ (changed c p).clauses (j : Int)) := (valid2_ok h.valid).clause j hj
theorem Fine2.new (h : Fine2 c p s) (h2 : p.kind = 2) {j : Nat} (hj : (j : Int) ∈ p.clauses) : COk (changed c p) p.new := by
  have hr := h.rng _ hj
  have hjl : j < c.clauses.length := by have := hr.2; simp only [len] at this; omega
  have := h.cok (j := j) (by rw [h.clen]; omega)
  rw [h.clause j hjl, if_pos hj] at this
  rwa [show change p (at_ c.clauses (j : Int)) = p.new by unfold change; rw [if_pos (by simpa using h2)]] at this
theorem Fine2.mlen (h : Fine2 c p s) : (marksP c p s).length = (changed c p).clauses.length := by
  have hm := h.core.ml
  rw [h.clen]
  unfold marksP
  by_cases hk : p.kind = 1
  · rw [if_pos (by simpa using hk), if_pos hk, List.length_append, marksF_len, hm]; rfl
  · rw [if_neg (by simpa using hk), if_neg hk, marksF_len, hm]; rfl
theorem Fine2.mark' (h : Fine2 c p s) (j : Nat) (hj : j < s.marks.length) : at_ (marksP c p s) (j : Int) = if (j : Int) ∈ p.clauses then changeM c p s.holders (j : Int) (at_ s.marks (j : Int)) else at_ s.marks (j : Int) := by
  rw [← h.mark j]
  unfold marksP
  split
  · have : j < (marksF c p s).length := by rw [marksF_len]; exact hj
    simp [at_, List.getD, List.getElem?_append_left this]
  · rfl
theorem Fine2.markN (h : Fine2 c p s) (hk : p.kind = 1) : at_ (marksP c p s) ((s.marks.length : Nat) : Int) = ⟨if p.new.waived then 5 else 0, 0, 0, -1, false⟩ := by
  unfold marksP
  rw [if_pos (by simpa using hk)]
  simp [at_, List.getD, marksF_len]
theorem wf_con {c d : Contract} (h : c.parties = d.parties) (x : Clause) (m : Mark) : wellFormed c x m = wellFormed d x m := by unfold wellFormed party; rw [h]
theorem wf_idle {x : Clause} {m : Mark} (h : m.status = 0) (hw : wellFormed c x m = true) : x.waived = false ∧ m = ⟨0, 0, 0, -1, false⟩ := by
  unfold wellFormed at hw
  rw [if_neg (by simp [h]), if_pos (by simp [h])] at hw
  simpa using hw
theorem voidM_wf {x y : Clause} {m : Mark} (hx : COk c x) (hw : wellFormed c x m = true) : wellFormed c y (voidM m) = true := by
  unfold voidM
  rcases wf_status hw with h | h | h
  · obtain ⟨_, rfl⟩ := wf_idle h hw
    show wellFormed c y ⟨5, 0, 0, -1, false⟩ = true
    exact End.wf ⟨.inr (.inr rfl), rfl, rfl, ⟨by simp, by simp⟩, .inr rfl⟩
  · rw [if_pos (by simp [runs_iff.2 h.st])]
    exact (h.toEnd hx (.inr (.inr rfl))).wf
  · have : ¬ (runs m || m.status == 0) = true := by
      have := h.st
      simp only [Bool.or_eq_true, runs_iff, beq_iff_eq]; omega
    rw [if_neg this]; exact h.wf
theorem replaceM_wf {c d : Contract} {hs : List Int} {x y : Clause} {m : Mark} (hx : COk c x) (hy : COk d y) (hd : c.parties = d.parties) (hh : y.kind ≠ 4 → 0 ≤ at_ hs y.role ∧ at_ hs y.role < c.parties) (hw : wellFormed c x m = true) : wellFormed c y (replaceM hs x y m) = true := by
  unfold replaceM
  split
  · exact voidM_wf hx hw
  rename_i hyw
  have hyw' : y.waived = false := by simpa using hyw
  have hya := hy.after
  have hyn := hy.need
  have hyg := hy.grace
  split
  · rename_i hr
    rcases wf_status hw with h | h | h
    · obtain ⟨_, rfl⟩ := wf_idle h hw
      unfold wellFormed; simp [hyw']
    · rw [runs_iff.2 h.st] at hr; cases hr
    · exact h.wf
  rename_i hr
  have hr' : runs m = true := by simpa using hr
  have hR := (wf_run (runs_iff.1 hr')).1 hw
  have hRg := hR.got
  have hRl := hR.left
  have hRb := hR.bearer
  have hRs := hR.st
  split
  · refine Run.wf ⟨.inl rfl, hyw', ?_, ⟨by simp only; omega, by simp⟩, fun hp => absurd hp (by simp), ?_⟩
    · by_cases h1 : y.kind = 1
      · rw [if_pos h1]; exact ⟨by simp, by simp only; omega⟩
      · rw [if_neg h1]
    · simp only
      by_cases h4 : y.kind = 4
      · exact .inl ⟨h4, by simp [h4]⟩
      · refine .inr ⟨h4, ?_⟩
        rw [if_neg (by simpa using h4)]
        split
        · exact hh h4
        · rename_i hx4
          simp only [beq_iff_eq] at hx4
          omega
  rename_i hk
  have hk' : x.kind = y.kind := by simpa using hk
  split
  · exact End.wf ⟨.inl rfl, rfl, rfl, hR.got9 hx, hR.bear⟩
  rename_i hg
  have hgot : if y.kind = 1 then 0 ≤ m.got ∧ m.got < y.need else m.got = 0 := by
    rw [hk'] at hRg
    split at hRg
    · rename_i h1
      rw [if_pos h1]
      simp only [h1, beq_self_eq_true, Bool.true_and, decide_eq_true_eq] at hg
      omega
    · rename_i h1; rw [if_neg h1]; exact hRg
  have hpau : (m.paused && decide (0 ≤ y.pause)) = true → 0 ≤ y.pause := fun h => by
    simp only [Bool.and_eq_true, decide_eq_true_eq] at h; exact h.2
  have hbear : (y.kind = 4 ∧ m.bearer = -1) ∨ (y.kind ≠ 4 ∧ 0 ≤ m.bearer ∧ m.bearer < c.parties) := by rw [← hk']; exact hRb
  split
  · rename_i h1
    simp only [beq_iff_eq] at h1
    rw [if_neg (by omega)] at hRl
    exact Run.wf ⟨.inl rfl, hyw', hgot, ⟨by simp only; omega, by simp only; rw [if_neg (by omega)]; omega⟩, hpau, hbear⟩
  rename_i h1
  simp only [beq_iff_eq] at h1
  have h2 : m.status = 2 := by omega
  split
  · exact Run.wf ⟨.inl rfl, hyw', hgot, ⟨by simp, by simp only; rw [if_neg (by omega)]; omega⟩, hpau, hbear⟩
  · rename_i hg0
    simp only [beq_iff_eq] at hg0
    rw [if_pos h2] at hRl
    exact Run.wf ⟨.inr h2, hyw', hgot, ⟨by simp only; omega, by simp only; rw [if_pos h2]; omega⟩, hpau, hbear⟩
theorem spanM_wf {x : Clause} {m : Mark} {n : Int} (hn : 1 ≤ n ∧ n ≤ 400) (hw : wellFormed c x m = true) : wellFormed c { x with after := n } (spanM n x m) = true := by
  unfold spanM
  rcases wf_status hw with h | h | h
  · obtain ⟨h1, rfl⟩ := wf_idle h hw
    rw [if_neg (by simp)]
    unfold wellFormed; simp [h1]
  · have hl := h.left
    have hst := h.st
    split
    · rename_i h1
      simp only [beq_iff_eq] at h1
      rw [if_neg (by omega)] at hl
      exact Run.wf ⟨.inl h1, h.waived, h.got, ⟨by simp only; omega, by simp only; rw [if_neg (by omega)]; omega⟩, h.paused, h.bearer⟩
    · rename_i h1
      simp only [beq_iff_eq] at h1
      rw [if_pos (by omega)] at hl
      exact Run.wf ⟨.inr (by omega), h.waived, h.got, ⟨by omega, by rw [if_pos (by omega)]; exact hl.2⟩, h.paused, h.bearer⟩
  · have := h.st
    rw [if_neg (by simp only [beq_iff_eq]; omega)]; exact h.wf
theorem Fine2.change_wf (h : Fine2 c p s) {j : Nat} (hj : (j : Int) ∈ p.clauses) (hjl : j < c.clauses.length) : wellFormed c (change p (at_ c.clauses (j : Int))) (changeM c p s.holders (j : Int) (at_ s.marks (j : Int))) = true := by
  have hw := h.core.marks j (by rw [h.core.ml]; exact hjl)
  have hx := (valid2_ok h.core.con).clause j hjl
  unfold change changeM
  split
  · rename_i h2
    have hy := h.new (by simpa using h2) hj
    refine replaceM_wf hx hy rfl (fun h4 => ?_) hw
    have := hy.role h4
    exact role_party (c := c) (s := s) h.core.hl h.core.holders this
  · split
    · rename_i h5
      exact spanM_wf (h.days (by simpa using h5)) hw
    · exact voidM_wf hx hw
theorem Fine2.core2 (h : Fine2 c p s) : Core (changed c p) { s with marks := marksP c p s } := by
  have hC := h.core
  refine ⟨h.valid, hC.day, hC.hl, hC.ul, h.mlen, hC.holders, hC.used, fun j hj => ?_⟩
  simp only at hj ⊢
  rw [wf_con (c := changed c p) (d := c) rfl]
  have hl := h.mlen
  have hcl := h.clen
  rcases Nat.lt_or_ge j c.clauses.length with hjl | hjl
  · rw [h.clause j hjl, h.mark' j (by rw [hC.ml]; exact hjl)]
    split
    · rename_i hm; exact h.change_wf hm hjl
    · exact hC.marks j (by rw [hC.ml]; exact hjl)
  · by_cases hk : p.kind = 1
    · rw [if_pos hk] at hcl
      obtain rfl : j = c.clauses.length := by omega
      rw [h.last hk]
      have := h.markN hk
      rw [hC.ml] at this
      rw [this]
      cases hw : p.new.waived with
      | true => exact End.wf ⟨.inr (.inr rfl), rfl, rfl, ⟨by simp, by simp⟩, .inr rfl⟩
      | false => unfold wellFormed; simp [hw]
    · rw [if_neg hk] at hcl; omega
theorem migrate_ok (hv : sValid c s = true) (h : (applyP c p).2 = 0) : migrate c p s = (begin_ (changed c p) { s with marks := marksP c p s }, 0) := by
  unfold migrate; rw [if_neg (by simp [hv]), if_neg (by simp [h]), (fine2 hv h).eq]
theorem migrate_bad (hv : sValid c s = false) : migrate c p s = (zeroSt, 1) := by unfold migrate; rw [if_pos (by simp [hv])]
theorem migrate_err (hv : sValid c s = true) (h : (applyP c p).2 ≠ 0) : migrate c p s = (zeroSt, (applyP c p).2) := by
  unfold migrate; rw [if_neg (by simp [hv]), if_pos (by simpa using h)]
theorem law_mstates (c : Contract) (p : Patch) (s : State) :
    (sValid c s = false ∧ (migrate c p s).2 = 1) ∨ (sValid c s = true ∧ (applyP c p).2 ≠ 0 ∧ (migrate c p s).2 = (applyP c p).2 ∧ len (migrate c p s).1.marks = 0) ∨
    (sValid c s = true ∧ (applyP c p).2 = 0 ∧ (migrate c p s).2 = 0 ∧ sValid (applyP c p).1 (migrate c p s).1 = true ∧ (migrate c p s).1.day = s.day ∧ (migrate c p s).1.holders = s.holders ∧ (migrate c p s).1.used = s.used) := by
  cases hv : sValid c s with
  | false => exact .inl ⟨rfl, by rw [migrate_bad hv]⟩
  | true =>
    by_cases ha : (applyP c p).2 = 0
    · have hF := fine2 hv ha
      have hml := hF.core2.ml
      rw [migrate_ok hv ha, hF.eq]
      exact .inr (.inr ⟨rfl, ha, rfl, hF.core2.begin, begin_day hml, begin_holders hml, begin_used hml⟩)
    · rw [migrate_err hv ha]
      exact .inr (.inl ⟨rfl, ha, rfl, rfl⟩)
/-- What became of the marks. -/
theorem migrate_marks (hv : sValid c s = true) (h : (applyP c p).2 = 0) : Began (changed c p) { s with marks := marksP c p s } (migrate c p s).1.marks := by
  have hF := fine2 hv h
  rw [migrate_ok hv h]
  obtain ⟨ms, h1, h2, _⟩ := begin_spec (c := changed c p) (s := { s with marks := marksP c p s }) hF.core2.ml
  rw [h1]; exact h2
theorem voidM_keeps {m : Mark} : ((voidM m).got = m.got ∧ (voidM m).bearer = m.bearer) ∧ (endedB m = true → voidM m = m) ∧ (runs m = true → (voidM m).status = 5) ∧ ((voidM m).status = 4 ↔ m.status = 4) ∧ (m.status ≠ 0 → (voidM m).status ≠ 0) := by
  unfold voidM endedB runs
  by_cases h : (m.status == 1 || m.status == 2 || m.status == 0) = true
  · rw [if_pos h]
    simp only [Bool.or_eq_true, beq_iff_eq] at h
    refine ⟨⟨rfl, rfl⟩, fun h2 => ?_, fun _ => rfl, ?_, fun _ => by simp⟩
    · simp only [Bool.or_eq_true, beq_iff_eq] at h2; omega
    · simp only; omega
  · rw [if_neg h]
    simp only [Bool.or_eq_true, beq_iff_eq, not_or] at h
    refine ⟨⟨rfl, rfl⟩, fun _ => rfl, fun h2 => ?_, Iff.rfl, fun h => h⟩
    simp only [Bool.or_eq_true, beq_iff_eq] at h2; omega
theorem replaceM_keeps {hs : List Int} {x y : Clause} {m : Mark} : (runs m = true → (y.kind = x.kind ∨ y.waived = true) → (replaceM hs x y m).got = m.got ∧ (replaceM hs x y m).bearer = m.bearer) ∧ (endedB m = true → replaceM hs x y m = m) ∧ ((replaceM hs x y m).status = 4 ↔ m.status = 4) ∧ (m.status ≠ 0 → (replaceM hs x y m).status ≠ 0) := by
  have hv := voidM_keeps (m := m)
  have he : endedB m = true → runs m = false := fun h => by
    simp only [endedB, Bool.or_eq_true, beq_iff_eq] at h
    simp only [runs, Bool.or_eq_false_iff, beq_eq_false_iff_ne]
    omega
  unfold replaceM
  split
  · exact ⟨fun _ _ => hv.1, hv.2.1, hv.2.2.2.1, hv.2.2.2.2⟩
  rename_i hw
  split
  · exact ⟨fun _ _ => ⟨rfl, rfl⟩, fun _ => rfl, Iff.rfl, fun h => h⟩
  rename_i hr
  have hr' : runs m = true := by simpa using hr
  have hst := runs_iff.1 hr'
  have hne : endedB m = true → False := fun h => by rw [he h] at hr'; cases hr'
  split
  · rename_i hk
    refine ⟨fun _ h => ?_, fun h => (hne h).elim, ?_, fun _ => by simp⟩
    · rcases h with h | h
      · rw [h] at hk; simp at hk
      · exact absurd h hw
    · simp only; omega
  split
  · exact ⟨fun _ _ => ⟨rfl, rfl⟩, fun h => (hne h).elim, by simp only; omega, fun _ => by simp⟩
  split
  · exact ⟨fun _ _ => ⟨rfl, rfl⟩, fun h => (hne h).elim, by simp only; omega, fun _ => by simp⟩
  split
  · exact ⟨fun _ _ => ⟨rfl, rfl⟩, fun h => (hne h).elim, by simp only; omega, fun _ => by simp⟩
  · exact ⟨fun _ _ => ⟨rfl, rfl⟩, fun h => (hne h).elim, Iff.rfl, fun h => h⟩
theorem spanM_keeps {n : Int} {x : Clause} {m : Mark} : ((spanM n x m).got = m.got ∧ (spanM n x m).bearer = m.bearer) ∧ (endedB m = true → spanM n x m = m) ∧ (spanM n x m).status = m.status := by
  unfold spanM
  split
  · rename_i h
    refine ⟨⟨rfl, rfl⟩, fun h2 => ?_, rfl⟩
    simp only [endedB, Bool.or_eq_true, beq_iff_eq] at h2 h
    omega
  · exact ⟨⟨rfl, rfl⟩, fun _ => rfl, rfl⟩
theorem changeM_keeps {c : Contract} {p : Patch} {hs : List Int} {i : Int} {m : Mark} : (runs m = true → (p.kind = 2 → p.new.kind = (at_ c.clauses i).kind ∨ p.new.waived = true) → (changeM c p hs i m).got = m.got ∧ (changeM c p hs i m).bearer = m.bearer) ∧ (endedB m = true → changeM c p hs i m = m) ∧ ((changeM c p hs i m).status = 4 ↔ m.status = 4) ∧ (m.status ≠ 0 → (changeM c p hs i m).status ≠ 0) := by
  unfold changeM
  split
  · rename_i h2
    have h := replaceM_keeps (hs := hs) (x := at_ c.clauses i) (y := p.new) (m := m)
    exact ⟨fun hr hk => h.1 hr (hk (by simpa using h2)), h.2⟩
  · split
    · have h := spanM_keeps (n := p.days) (x := at_ c.clauses i) (m := m)
      exact ⟨fun _ _ => h.1, h.2.1, by rw [h.2.2], fun hn => by rw [h.2.2]; exact hn⟩
    · have h := voidM_keeps (m := m)
      exact ⟨fun _ _ => h.1, h.2.1, h.2.2.2.1, h.2.2.2.2⟩
/-- The mark of an old clause after a patch. -/
structure Kept (c : Contract) (p : Patch) (i : Nat) (m0 m : Mark) : Prop where
  ended : endedB m0 = true → m = m0
  run : runs m0 = true → ((i : Int) ∈ p.clauses → p.kind = 2 → p.new.kind = (at_ c.clauses (i : Int)).kind ∨ p.new.waived = true) → m.got = m0.got ∧ m.bearer = m0.bearer
  other : (i : Int) ∉ p.clauses → m0.status ≠ 0 → m = m0
  fail : m.status = 4 ↔ m0.status = 4
  idle : m0.status ≠ 0 → m.status ≠ 0
theorem law_kept (hv : sValid c s = true) (h : (applyP c p).2 = 0) {i : Nat} (hi : i < s.marks.length) : Kept c p i (at_ s.marks (i : Int)) (at_ (migrate c p s).1.marks (i : Int)) := by
  have hF := fine2 hv h
  have hB := migrate_marks hv h
  have hm := hF.mark' i hi
  have hl : i < (marksP c p s).length := by rw [hF.mlen, hF.clen, ← hF.core.ml]; omega
  have hold := hB.old i hl
  have hnew := hB.new i hl
  simp only at hold hnew
  have hK := changeM_keeps (c := c) (p := p) (hs := s.holders) (i := (i : Int)) (m := at_ s.marks (i : Int))
  generalize at_ s.marks (i : Int) = m0 at *
  generalize at_ (migrate c p s).1.marks (i : Int) = m2 at *
  have he0 : endedB m0 = true → m0.status ≠ 0 := fun h => by
    simp only [endedB, Bool.or_eq_true, beq_iff_eq] at h; omega
  have hr0 : runs m0 = true → m0.status ≠ 0 := fun h => by
    have := runs_iff.1 h; omega
  have hkeep : m0.status ≠ 0 → m2 = at_ (marksP c p s) (i : Int) := fun hn => by
    refine hold ?_
    rw [hm]; split
    · exact hK.2.2.2 hn
    · exact hn
  refine ⟨fun he => ?_, fun hr hk => ?_, fun hn h0 => ?_, ?_, fun h0 => ?_⟩
  · rw [hkeep (he0 he), hm]
    split
    · exact hK.2.1 he
    · rfl
  · rw [hkeep (hr0 hr), hm]
    split
    · rename_i hin; exact hK.1 hr (hk hin)
    · exact ⟨rfl, rfl⟩
  · rw [hkeep h0, hm, if_neg hn]
  · by_cases h0 : m0.status = 0
    · refine ⟨fun h4 => ?_, fun h4 => by omega⟩
      by_cases h1 : (at_ (marksP c p s) (i : Int)).status = 0
      · rcases hnew h1 with h2 | ⟨h2, _⟩
        · rw [h2, h1] at h4; omega
        · rw [h2] at h4; simp [startMark] at h4
      · have h2 := hold h1
        rw [h2, hm] at h4
        split at h4
        · exact hK.2.2.1.1 h4
        · exact h4
    · rw [hkeep h0, hm]
      split
      · exact hK.2.2.1
      · exact Iff.rfl
  · rw [hkeep h0, hm]
    split
    · exact hK.2.2.2 h0
    · exact h0
theorem migrate_len (hv : sValid c s = true) (h : (applyP c p).2 = 0) : (migrate c p s).1.marks.length = s.marks.length + if p.kind = 1 then 1 else 0 := by
  have hF := fine2 hv h
  have hB := (migrate_marks hv h).len
  simp only at hB
  rw [hB, hF.mlen, hF.clen, hF.core.ml]
end Es
end
section
namespace Go.Proofs
open Go Go.Abs
set_option linter.unusedSimpArgs false
set_option linter.unusedVariables false
set_option maxRecDepth 10000
namespace Tryz
theorem take_mark {c : Es.Contract} {p : Es.Patch} {s : Es.State} (h : Es.Fine2 c p s) {k : Nat} (hk : k < p.clauses.length) : Es.at_ ((p.clauses.take k).foldl (Es.markAt c p s.holders) s.marks) (((Es.at_ p.clauses (k : Int)).toNat : Nat) : Int) = Es.at_ s.marks (Es.at_ p.clauses (k : Int)) := by
  have hi := h.rng _ (Es.at_mem hk)
  have hp := List.pairwise_iff_getElem.1 h.pw
  have hml := h.core.ml
  have := Es.fold_at (Es.changeM c p s.holders) (p.clauses.take k) s.marks (h.pw.sublist (List.take_sublist _ _)) (fun i hm => by
    have := h.rng i (List.mem_of_mem_take hm); simp only [Es.len] at this ⊢; omega) (Es.at_ p.clauses (k : Int)).toNat
  rw [Int.toNat_of_nonneg hi.1, if_neg ?_] at this
  · rw [Int.toNat_of_nonneg hi.1]; exact this
  · intro hm
    obtain ⟨j, hj, he⟩ := List.mem_iff_getElem.1 hm
    rw [List.length_take] at hj
    rw [List.getElem_take] at he
    have := hp j k (by omega) hk (by omega)
    rw [Es.at_nat hk] at he
    omega
theorem chgPre {c : Es.Contract} {p : Es.Patch} {s : Es.State} (h : Es.Fine2 c p s) {i : Nat} (hi : (i : Int) ∈ p.clauses) : ChgPre c p s.holders i (Es.at_ s.marks (i : Int)) := by
  have hr := h.rng _ hi
  have hil : i < c.clauses.length := by have := hr.2; simp only [Es.len] at this; omega
  have hx := (Es.valid2_ok h.core.con).clause i hil
  have hml := h.core.ml
  have hw := h.core.marks i (by omega)
  have hxa := hx.after
  have hxg := hx.grace
  refine ⟨hil, fun h2 hyw hru => ?_, fun h5 h1 => ?_⟩
  · have hy := h.new h2 hi
    have hR := (Es.wf_run (Es.runs_iff.1 hru)).1 hw
    have hl := hR.left
    have hya := hy.after
    have hyg := hy.grace
    refine ⟨fun h4 => ?_, ⟨by omega, ?_⟩, ⟨by omega, by omega⟩, ⟨by omega, by omega⟩, ⟨by omega, by omega⟩, ⟨by omega, by omega⟩⟩
    · have := hy.role h4
      have hh := h.core.hl
      simp only [Es.len] at this ⊢
      rw [hh]; exact this
    · split at hl <;> omega
  · have hR := (Es.wf_run (.inl h1)).1 hw
    have hl := hR.left
    have hd := h.days h5
    rw [if_neg (by omega)] at hl
    refine ⟨⟨by omega, by omega⟩, ⟨by omega, by omega⟩, ⟨by omega, by omega⟩⟩
theorem app_mrk {l : List Es.Mark} {n : Nat} {x : Es.Mark} {src : Nat → Nat → D} (hn : l.length = n) (hs : ∀ j, j < 5 → src 0 j = mrkC x j) : ∀ r c, r < n + 1 → c < 5 → appC (rowsOf mrkC l) n src r c = rowsOf mrkC (l ++ [x]) r c := by
  subst hn
  intro r c hr hc
  simp only [appC]
  by_cases h1 : r < l.length
  · rw [if_pos h1]; simp [rowsOf, List.getD_eq_getElem?_getD, h1, List.getElem?_append_left h1]
  · have : r = l.length := by omega
    subst this
    rw [if_neg h1, Nat.sub_self, hs c hc]; simp [rowsOf, List.getD_eq_getElem?_getD]
theorem mbegin_spec' (X : D → Value → Prop) (N : Nat) (r : Option Nat) (b : Nat) (c : Es.Contract) (s : Es.State) (fh fu fm nh nu nm : Nat) (d : Int) (th tu tm : TypeId) (o : St) (nx : Nat) (K : D → S → Prop) (hd : s.day = d) (h1 : s.holders.length = nh) (h2 : s.used.length = nu) (h3 : s.marks.length = nm) (hs : HasSt o fh fu fm th tu tm s) (hx : fh < nx ∧ fu < nx ∧ fm < nx ∧ fh ≠ fm ∧ fu ≠ fm)
    (hF : Fine c s) (hI4 : ∀ i : Nat, i < c.clauses.length → ∀ y ∈ (Es.at_ c.clauses (i : Int)).start, 1 ≤ y.is ∧ y.is ≤ 4) (hl : c.clauses.length ≤ 400) (hk : ∀ o' nx', Wrote o nx fm tm (Es.begin_ c s).marks o' nx' → K (.tup []) ⟨o', nx'⟩) :
    ACall { P := prog, G := gl, X := X, N := N, r := r, b := b } 27 [conD c, stO d fh nh fu nu fm nm] ⟨o, nx⟩ K := by
  subst hd h1 h2 h3; exact mbegin_spec X N r b c s fh fu fm th tu tm o nx K hs hx hF hI4 hl hk
theorem migrate_spec (c : Es.Contract) (p : Es.Patch) (s : Es.State) (hf : Es.Fits c) (hs : Es.SFits s) : APure M 12 [conD c, patD p, staD s] (resD2 (Es.migrate c p s)) := by
  refine pure_of gpu func12 rfl results12 ntmps12 (by simp) ⟨pu_conD _, pu_patD _, pu_staD _, trivial⟩ ?_
  intro b
  simp only [go_sem, ↓reduceIte, reduceCtorEq, Nat.reduceEqDiff, Nat.reduceLT, Nat.reduceLeDiff, Nat.reduceAdd, Nat.reduceSub, Nat.reduceMul, Nat.reduceGT, Int.reduceNeg, Int.reduceToNat]
  repeat' (first | ((with_reducible refine call_at M_P M_G (sValid_spec c s hf hs) ?_); simp only [go_sem, ↓reduceIte, reduceCtorEq, Nat.reduceEqDiff, Nat.reduceLT, Nat.reduceLeDiff, Nat.reduceAdd, Nat.reduceSub, Nat.reduceMul, Nat.reduceGT, Int.reduceNeg, Int.reduceToNat]) | ((with_reducible refine call_at M_P M_G (apply_spec c p hf) ?_); simp only [go_sem, ↓reduceIte, reduceCtorEq, Nat.reduceEqDiff, Nat.reduceLT, Nat.reduceLeDiff, Nat.reduceAdd, Nat.reduceSub, Nat.reduceMul, Nat.reduceGT, Int.reduceNeg, Int.reduceToNat]) | (with_reducible refine And.intro ?_ ?_) | ((with_reducible refine ite_cases ?_ ?_) <;> intro _))
  all_goals first
    | (rw [show Es.migrate c p s = (⟨0, [], [], []⟩, 1) by unfold Es.migrate; rw [if_pos (by simp_all)]; rfl]; exact Fz_tup ⟨fz_zero _, .v _, trivial⟩)
    | (rw [show Es.migrate c p s = (⟨0, [], [], []⟩, (Es.applyP c p).2) by unfold Es.migrate; rw [if_neg (by simp_all), if_pos (by simp_all)]; rfl]; exact Fz_tup ⟨fz_zero _, .v _, trivial⟩)
    | skip
  have hv : Es.sValid c s = true := by simp_all
  have hae : (Es.applyP c p).2 = 0 := by simp_all
  have hM : Es.migrate c p s = (Es.begin_ (Es.applyP c p).1 { s with marks := Es.marksP c p s }, 0) := by
    unfold Es.migrate; rw [if_neg (by simp [hv]), if_neg (by simp [hae])]
  obtain ⟨hd, hvd, hvc, hfm⟩ := Es.applyP_ok hae
  rw [hd] at hM
  simp only [hd]
  have hC := (Es.sValid_iff.1 hv).1
  have hV := Es.valid2_ok hC.con
  have hsm := hV.small
  have hsl := hC.hl
  have hsu := hC.ul
  have hsk := hC.ml
  refine awp_plan ((.op 0 (.op 1 (.op 2 (.op 3 (.op 5 (.op 6 (.op 4 (.op 7 (.op 8 (.op 9 .done))))))))))) [7, 9] mix (by kernel_rfl) ?_
  have hF := Es.fine2 hv hae
  have hw1 : IntKind.i64.wrap (Es.len s.marks + 1) = ((s.marks.length + 1 : Nat) : Int) := by rw [wrap_i64 _ (by simp only [Es.len]; omega) (by simp only [Es.len]; omega)]; simp [Es.len]
  have hc0 : ∀ cell, appC cell 0 (rowsOf mrkC s.marks) = rowsOf mrkC s.marks := fun cell => by funext r c; simp [appC]
  simp only [go_sem, ↓reduceIte, reduceCtorEq, Nat.reduceEqDiff, Nat.reduceLT, Nat.reduceLeDiff, Nat.reduceAdd, Nat.reduceSub, Nat.reduceMul, Nat.reduceGT, Int.reduceNeg, Int.reduceToNat, hw1, hc0, Nat.zero_add]
  refine ⟨⟨by omega, by omega⟩, ⟨by omega, by omega⟩, ?_⟩
  refine change_spec _ _ _ _ c p s.day s.holders s.used 6 s.marks.length 47 _ _ _ (by omega) fun d o1 n1 hn1 hsame hch => ?_
  have g0 := hsame 0 0 (by omega)
  have g1 := hsame 1 0 (by omega)
  have g2 := hsame 2 0 (by omega)
  have g3 := hsame 3 0 (by omega)
  have g4 := hsame 4 0 (by omega)
  have g6 := hsame 6 0 (by omega)
  simp only [go_sem, ↓reduceIte, reduceCtorEq, Nat.reduceEqDiff, Nat.reduceLT, Nat.reduceLeDiff, Nat.reduceAdd, Nat.reduceSub, Nat.reduceMul, Nat.reduceGT, Int.reduceNeg, Int.reduceToNat] at g0 g1 g2 g3 g4 g6
  obtain ⟨g, caps, rfl, hcall, hdo⟩ := hch
  simp only [go_sem, ↓reduceIte, reduceCtorEq, Nat.reduceEqDiff, Nat.reduceLT, Nat.reduceLeDiff, Nat.reduceAdd, Nat.reduceSub, Nat.reduceMul, Nat.reduceGT, Int.reduceNeg, Int.reduceToNat, g0, g1, g2, g3, g4, g6]
  have hfew := hF.few
  refine awp_count0 p.clauses.length (fun e0 s0 k e st => (e 3 = e0 3 ∧ e 4 = e0 4 ∧ e 5 = e0 5 ∧ e 6 = e0 6 ∧ e 8 = e0 8 ∧ e 10 = e0 10 ∧ e 43 = e0 43 ∧ e 44 = e0 44) ∧ e 45 = .v (.int .i64 k) ∧ n1 ≤ st.nx ∧ (∀ f j, f < n1 → ¬ (f = 6 ∧ j = 0) → st.o f j = o1 f j) ∧ st.o 6 0 = some (.blk 5 s.marks.length 47 (rowsOf mrkC ((p.clauses.take k).foldl (Es.markAt c p s.holders) s.marks)))) ⟨⟨rfl, rfl, rfl, rfl, rfl, rfl, rfl, rfl⟩, ?_, Nat.le_refl _, fun _ _ _ _ => rfl, ?_⟩ ?_
  · simp only [go_sem, ↓reduceIte, reduceCtorEq, Nat.reduceEqDiff, Nat.reduceLT, Nat.reduceLeDiff, Nat.reduceAdd, Nat.reduceSub, Nat.reduceMul, Nat.reduceGT, Int.reduceNeg, Int.reduceToNat]; rfl
  · simp only [g6, List.take_zero, List.foldl_nil]
  rintro k e ⟨o2, n2⟩ hk ⟨⟨a3, a4, a5, a6, a8, a10, a43, a44⟩, a45, hn2, hold, hm2⟩
  simp only [go_sem, ↓reduceIte, reduceCtorEq, Nat.reduceEqDiff, Nat.reduceLT, Nat.reduceLeDiff, Nat.reduceAdd, Nat.reduceSub, Nat.reduceMul, Nat.reduceGT, Int.reduceNeg, Int.reduceToNat] at a3 a4 a5 a6 a8 a10 a43 a44
  simp only at hn2 hold hm2
  have h0 := (hold 0 0 (by omega) (by omega)).trans g0
  have h1 := (hold 1 0 (by omega) (by omega)).trans g1
  have h2 := (hold 2 0 (by omega) (by omega)).trans g2
  have h3 := (hold 3 0 (by omega) (by omega)).trans g3
  have h4 := (hold 4 0 (by omega) (by omega)).trans g4
  have hlenk : ((p.clauses.take k).foldl (Es.markAt c p s.holders) s.marks).length = s.marks.length := Es.fold_len _ _ _
  have hw2 : IntKind.i64.wrap ((k : Int) + 1) = ((k + 1 : Nat) : Int) := by rw [wrap_i64 _ (by omega) (by omega)]; simp
  simp only [go_sem, ↓reduceIte, reduceCtorEq, Nat.reduceEqDiff, Nat.reduceLT, Nat.reduceLeDiff, Nat.reduceAdd, Nat.reduceSub, Nat.reduceMul, Nat.reduceGT, Int.reduceNeg, Int.reduceToNat, a3, a4, a5, a6, a8, a10, a43, a44, a45, h0, h1, h2, h3, h4, hm2]
  refine ite_cases (fun hlt => ?_) (fun hlt => ?_)
  · have hlt' : k < p.clauses.length := Es.len_lt.1 hlt
    have hi := hF.rng _ (Es.at_mem hlt')
    have htm := take_mark hF hlt'
    have hmem := Es.at_mem hlt'
    obtain ⟨i, hie⟩ : ∃ i : Nat, Es.at_ p.clauses (k : Int) = i := ⟨_, (Int.toNat_of_nonneg hi.1).symm⟩
    have hil : i < s.marks.length := by have := hi.2; simp only [Es.len] at this; omega
    rw [hie, Int.toNat_natCast] at htm
    rw [hie] at hmem
    refine ⟨⟨by omega, hlt⟩, ?_⟩
    simp only [hcall, hie]
    refine ⟨trivial, hdo _ _ _ _ i _ o2 n2 _ hn2 (fun f j h1 h2 => hold f j (by omega) (by omega)) (by omega) hm2 hlenk.symm hil ?_ fun o3 n3 hw3 => ?_⟩
    · rw [htm]
      exact chgPre hF hmem
    simp only [go_sem, ↓reduceIte, reduceCtorEq, Nat.reduceEqDiff, Nat.reduceLT, Nat.reduceLeDiff, Nat.reduceAdd, Nat.reduceSub, Nat.reduceMul, Nat.reduceGT, Int.reduceNeg, Int.reduceToNat, a3, a4, a5, a6, a8, a10, a43, a44, a45]
    refine ⟨hlt', ?_⟩
    simp only [go_sem, ↓reduceIte, reduceCtorEq, Nat.reduceEqDiff, Nat.reduceLT, Nat.reduceLeDiff, Nat.reduceAdd, Nat.reduceSub, Nat.reduceMul, Nat.reduceGT, Int.reduceNeg, Int.reduceToNat, a3, a4, a5, a6, a8, a10, a43, a44, a45, hw2]
    have hn3 := hw3.1
    refine ⟨by omega, fun f j h1 h2 => (hw3.2.2 f j (by omega) h2).trans (hold f j h1 h2), ?_⟩
    have := hw3.2.1
    rw [List.length_set, hlenk] at this
    rw [this, Es.take_at hlt', List.foldl_append]
    simp only [List.foldl_cons, List.foldl_nil, Es.markAt, hie, Int.toNat_natCast]
  · have hkk : k = p.clauses.length := by simp only [Es.len] at hlt; omega
    subst hkk
    rw [List.take_length] at hm2
    have e0 : ∀ {a b : Nat}, a ≠ b → (a = b) = False := fun h => by simp [h]
    have z1 : (0 = 1) = False := e0 (by omega); have z2 : (0 = 2) = False := e0 (by omega); have z3 : (0 = 3) = False := e0 (by omega); have z4 : (0 = 4) = False := e0 (by omega); have z5 : (0 = 6) = False := e0 (by omega); have z6 : (0 = n2) = False := e0 (by omega); have z7 : (0 = n2 + 1) = False := e0 (by omega); have z8 : (0 = n2 + 1 + 1) = False := e0 (by omega); have z9 : (1 = 0) = False := e0 (by omega); have z10 : (1 = 2) = False := e0 (by omega); have z11 : (1 = 3) = False := e0 (by omega); have z12 : (1 = 4) = False := e0 (by omega); have z13 : (1 = 6) = False := e0 (by omega); have z14 : (1 = n2) = False := e0 (by omega); have z15 : (1 = n2 + 1) = False := e0 (by omega); have z16 : (1 = n2 + 1 + 1) = False := e0 (by omega); have z17 : (2 = 0) = False := e0 (by omega); have z18 : (2 = 1) = False := e0 (by omega); have z19 : (2 = 3) = False := e0 (by omega); have z20 : (2 = 4) = False := e0 (by omega); have z21 : (2 = 6) = False := e0 (by omega); have z22 : (2 = n2) = False := e0 (by omega); have z23 : (2 = n2 + 1) = False := e0 (by omega); have z24 : (2 = n2 + 1 + 1) = False := e0 (by omega); have z25 : (3 = 0) = False := e0 (by omega); have z26 : (3 = 1) = False := e0 (by omega); have z27 : (3 = 2) = False := e0 (by omega); have z28 : (3 = 4) = False := e0 (by omega); have z29 : (3 = 6) = False := e0 (by omega); have z30 : (3 = n2) = False := e0 (by omega); have z31 : (3 = n2 + 1) = False := e0 (by omega); have z32 : (3 = n2 + 1 + 1) = False := e0 (by omega); have z33 : (4 = 0) = False := e0 (by omega); have z34 : (4 = 1) = False := e0 (by omega); have z35 : (4 = 2) = False := e0 (by omega); have z36 : (4 = 3) = False := e0 (by omega); have z37 : (4 = 6) = False := e0 (by omega); have z38 : (4 = n2) = False := e0 (by omega); have z39 : (4 = n2 + 1) = False := e0 (by omega); have z40 : (4 = n2 + 1 + 1) = False := e0 (by omega); have z41 : (6 = 0) = False := e0 (by omega); have z42 : (6 = 1) = False := e0 (by omega); have z43 : (6 = 2) = False := e0 (by omega); have z44 : (6 = 3) = False := e0 (by omega); have z45 : (6 = 4) = False := e0 (by omega); have z46 : (6 = n2) = False := e0 (by omega); have z47 : (6 = n2 + 1) = False := e0 (by omega); have z48 : (6 = n2 + 1 + 1) = False := e0 (by omega); have z49 : (n2 = 0) = False := e0 (by omega); have z50 : (n2 = 1) = False := e0 (by omega); have z51 : (n2 = 2) = False := e0 (by omega); have z52 : (n2 = 3) = False := e0 (by omega); have z53 : (n2 = 4) = False := e0 (by omega); have z54 : (n2 = 6) = False := e0 (by omega); have z55 : (n2 = n2 + 1) = False := e0 (by omega); have z56 : (n2 = n2 + 1 + 1) = False := e0 (by omega); have z57 : (n2 + 1 = 0) = False := e0 (by omega); have z58 : (n2 + 1 = 1) = False := e0 (by omega); have z59 : (n2 + 1 = 2) = False := e0 (by omega); have z60 : (n2 + 1 = 3) = False := e0 (by omega); have z61 : (n2 + 1 = 4) = False := e0 (by omega); have z62 : (n2 + 1 = 6) = False := e0 (by omega); have z63 : (n2 + 1 = n2) = False := e0 (by omega); have z64 : (n2 + 1 = n2 + 1 + 1) = False := e0 (by omega); have z65 : (n2 + 1 + 1 = 0) = False := e0 (by omega); have z66 : (n2 + 1 + 1 = 1) = False := e0 (by omega); have z67 : (n2 + 1 + 1 = 2) = False := e0 (by omega); have z68 : (n2 + 1 + 1 = 3) = False := e0 (by omega); have z69 : (n2 + 1 + 1 = 4) = False := e0 (by omega); have z70 : (n2 + 1 + 1 = 6) = False := e0 (by omega); have z71 : (n2 + 1 + 1 = n2) = False := e0 (by omega); have z72 : (n2 + 1 + 1 = n2 + 1) = False := e0 (by omega)
    simp only [go_sem, ↓reduceIte, reduceCtorEq, Nat.reduceEqDiff, Nat.reduceLT, Nat.reduceLeDiff, Nat.reduceAdd, Nat.reduceSub, Nat.reduceMul, Nat.reduceGT, Int.reduceNeg, Int.reduceToNat, a3, a4, a5, a6, a8, a10, a43, a44, a45, h0, h1, h2, h3, h4, hm2, z1, z2, z3, z4, z5, z6, z7, z8, z9, z10, z11, z12, z13, z14, z15, z16, z17, z18, z19, z20, z21, z22, z23, z24, z25, z26, z27, z28, z29, z30, z31, z32, z33, z34, z35, z36, z37, z38, z39, z40, z41, z42, z43, z44, z45, z46, z47, z48, z49, z50, z51, z52, z53, z54, z55, z56, z57, z58, z59, z60, z61, z62, z63, z64, z65, z66, z67, z68, z69, z70, z71, z72]
    refine ite_cases (fun hk1 => ?_) (fun hk1 => ?_)
    · refine ite_cases (fun hwv => ?_) (fun hwv => ?_)
      · refine ⟨⟨by omega, by omega⟩, ?_⟩
        refine awp_cells (f := n2 + 1 + 1) (k := 5) (n := s.marks.length + 1) (cell' := rowsOf mrkC (Es.marksF c p s ++ [⟨5, 0, 0, -1, false⟩])) (by simp only [go_sem, ↓reduceIte, reduceCtorEq, Nat.reduceEqDiff, Nat.reduceLT, Nat.reduceLeDiff, Nat.reduceAdd, Nat.reduceSub, Nat.reduceMul, Nat.reduceGT, Int.reduceNeg, Int.reduceToNat, h0, h1, h2, h3, h4, hm2, z1, z2, z3, z4, z5, z6, z7, z8, z9, z10, z11, z12, z13, z14, z15, z16, z17, z18, z19, z20, z21, z22, z23, z24, z25, z26, z27, z28, z29, z30, z31, z32, z33, z34, z35, z36, z37, z38, z39, z40, z41, z42, z43, z44, z45, z46, z47, z48, z49, z50, z51, z52, z53, z54, z55, z56, z57, z58, z59, z60, z61, z62, z63, z64, z65, z66, z67, z68, z69, z70, z71, z72]; rfl) (app_mrk (x := ⟨5, 0, 0, -1, false⟩) (Es.marksF_len c p s) fun j hj => ?_) ?_
        · rcases (show j = 0 ∨ j = 1 ∨ j = 2 ∨ j = 3 ∨ j = 4 by omega) with rfl | rfl | rfl | rfl | rfl <;> rfl
        refine awp_wf fun hwf => ?_
        simp only at hwf
        refine awp_plan ((.op 0 (.op 1 (.op 3 (.op 4 (.op 2 (.op 6 (.op 5 (.op 7 (.op 8 (.op 9 .done))))))))))) [7, 9] mix (by kernel_rfl) ?_
        simp only [go_sem, ↓reduceIte, reduceCtorEq, Nat.reduceEqDiff, Nat.reduceLT, Nat.reduceLeDiff, Nat.reduceAdd, Nat.reduceSub, Nat.reduceMul, Nat.reduceGT, Int.reduceNeg, Int.reduceToNat, a3, a4, a5, a6, a8, a10, a43, a44, a45, h0, h1, h2, h3, h4, hm2, z1, z2, z3, z4, z5, z6, z7, z8, z9, z10, z11, z12, z13, z14, z15, z16, z17, z18, z19, z20, z21, z22, z23, z24, z25, z26, z27, z28, z29, z30, z31, z32, z33, z34, z35, z36, z37, z38, z39, z40, z41, z42, z43, z44, z45, z46, z47, z48, z49, z50, z51, z52, z53, z54, z55, z56, z57, z58, z59, z60, z61, z62, z63, z64, z65, z66, z67, z68, z69, z70, z71, z72]
        refine cloneI_spec _ _ _ _ s.holders (by omega) _ _ _ hwf fun oA nA fA tA pA pA' qA wA rA => ?_
        have b2 := qA 2 0 (by omega)
        have b3 := qA 3 0 (by omega)
        have b4 := qA 4 0 (by omega)
        have b6 := qA (n2 + 1 + 1) 0 (by omega)
        simp only [go_sem, ↓reduceIte, reduceCtorEq, Nat.reduceEqDiff, Nat.reduceLT, Nat.reduceLeDiff, Nat.reduceAdd, Nat.reduceSub, Nat.reduceMul, Nat.reduceGT, Int.reduceNeg, Int.reduceToNat, h0, h1, h2, h3, h4, hm2, z1, z2, z3, z4, z5, z6, z7, z8, z9, z10, z11, z12, z13, z14, z15, z16, z17, z18, z19, z20, z21, z22, z23, z24, z25, z26, z27, z28, z29, z30, z31, z32, z33, z34, z35, z36, z37, z38, z39, z40, z41, z42, z43, z44, z45, z46, z47, z48, z49, z50, z51, z52, z53, z54, z55, z56, z57, z58, z59, z60, z61, z62, z63, z64, z65, z66, z67, z68, z69, z70, z71, z72] at b2 b3 b4 b6
        simp only [go_sem, ↓reduceIte, reduceCtorEq, Nat.reduceEqDiff, Nat.reduceLT, Nat.reduceLeDiff, Nat.reduceAdd, Nat.reduceSub, Nat.reduceMul, Nat.reduceGT, Int.reduceNeg, Int.reduceToNat, a3, a4, a5, a6, a8, a10, a43, a44, a45, b2, b3, b4]
        refine ⟨keeps_of hwf qA, ?_⟩
        refine cloneB_spec _ _ _ _ s.used (by omega) _ _ _ wA fun oB nB fB tB pB pB' qB wB rB => ?_
        have c2 := (qB 2 0 (by omega)).trans b2
        have c3 := (qB 3 0 (by omega)).trans b3
        have c4 := (qB 4 0 (by omega)).trans b4
        have c6 := (qB (n2 + 1 + 1) 0 (by omega)).trans b6
        have cA := (qB fA 0 (by omega)).trans rA
        simp only [go_sem, ↓reduceIte, reduceCtorEq, Nat.reduceEqDiff, Nat.reduceLT, Nat.reduceLeDiff, Nat.reduceAdd, Nat.reduceSub, Nat.reduceMul, Nat.reduceGT, Int.reduceNeg, Int.reduceToNat, a3, a4, a5, a6, a8, a10, a43, a44, a45, c2, c3, c4]
        refine ⟨keeps_of wA qB, ?_⟩
        have hmp : Es.marksP c p s = Es.marksF c p s ++ [⟨5, 0, 0, -1, false⟩] := by unfold Es.marksP; simp [hk1, hwv]
        have hnm : (Es.marksP c p s).length = s.marks.length + 1 := by rw [hmp]; simp [Es.marksF_len]
        refine mbegin_spec' _ _ _ _ (Es.changed c p) { s with marks := Es.marksP c p s } fA fB (n2 + 1 + 1) _ _ _ _ tA tB 47 _ _ _ rfl rfl rfl hnm ⟨?_, ?_, ?_⟩ (by omega) (fine_of hF.core2) (fun j hj => ?_) (by have := (Es.valid2_ok hvd).small; omega) fun o' n' hw => ?_
        · (repeat (refine (set_ne (by omega)).trans ?_)); exact cA
        · (repeat (refine (set_ne (by omega)).trans ?_)); exact rB
        · refine Eq.trans ?_ (show some (SObj.blk 5 (s.marks.length + 1) 47 (rowsOf mrkC (Es.marksF c p s ++ [⟨5, 0, 0, -1, false⟩]))) = some (SObj.blk 5 (Es.marksP c p s).length 47 (rowsOf mrkC (Es.marksP c p s))) by rw [hnm, hmp])
          (repeat (refine (set_ne (by omega)).trans ?_)); exact c6
        · have := (Es.clauseOk_start (Es.valid2_clause (c := Es.changed c p) (by simpa using hvd) hj)).2
          intro y hy
          have := this y hy
          simp only [Es.condOk, Es.within, Bool.and_eq_true, decide_eq_true_eq] at this
          exact this.2
        have hn' := hw.1
        have d2 := hw.2.2 2 0 (by omega) (by omega)
        have d3 := hw.2.2 3 0 (by omega) (by omega)
        simp only [go_sem, ↓reduceIte, reduceCtorEq, Nat.reduceEqDiff, Nat.reduceLT, Nat.reduceLeDiff, Nat.reduceAdd, Nat.reduceSub, Nat.reduceMul, Nat.reduceGT, Int.reduceNeg, Int.reduceToNat, c2, c3] at d2 d3
        simp only [go_sem, ↓reduceIte, reduceCtorEq, Nat.reduceEqDiff, Nat.reduceLT, Nat.reduceLeDiff, Nat.reduceAdd, Nat.reduceSub, Nat.reduceMul, Nat.reduceGT, Int.reduceNeg, Int.reduceToNat, a3, a4, a5, a6, a8, d2, d3]
        rw [hM]
        have hml := hF.core2.ml
        have hB : HasSt o' fA fB (n2 + 1 + 1) tA tB 47 (Es.begin_ (Es.changed c p) { s with marks := Es.marksP c p s }) := by
          rw [Es.begin_eq hml]
          refine ⟨(hw.2.2 fA 0 (by omega) (by omega)).trans ?_, (hw.2.2 fB 0 (by omega) (by omega)).trans ?_, hw.2.1⟩
          · (repeat (refine (set_ne (by omega)).trans ?_)); exact cA
          · (repeat (refine (set_ne (by omega)).trans ?_)); exact rB
        refine Fz_tup ⟨HasSt.fz' (hB.set (by omega) _ _) ?_ ?_ ?_ ?_, .v _, trivial⟩
        · exact Es.begin_day hml
        · exact congrArg List.length (Es.begin_holders hml)
        · exact congrArg List.length (Es.begin_used hml)
        · exact (Es.begin_len hml).trans hnm
      · refine ⟨⟨by omega, by omega⟩, ?_⟩
        refine awp_cells (f := n2 + 1 + 1) (k := 5) (n := s.marks.length + 1) (cell' := rowsOf mrkC (Es.marksF c p s ++ [⟨0, 0, 0, -1, false⟩])) (by simp only [go_sem, ↓reduceIte, reduceCtorEq, Nat.reduceEqDiff, Nat.reduceLT, Nat.reduceLeDiff, Nat.reduceAdd, Nat.reduceSub, Nat.reduceMul, Nat.reduceGT, Int.reduceNeg, Int.reduceToNat, h0, h1, h2, h3, h4, hm2, z1, z2, z3, z4, z5, z6, z7, z8, z9, z10, z11, z12, z13, z14, z15, z16, z17, z18, z19, z20, z21, z22, z23, z24, z25, z26, z27, z28, z29, z30, z31, z32, z33, z34, z35, z36, z37, z38, z39, z40, z41, z42, z43, z44, z45, z46, z47, z48, z49, z50, z51, z52, z53, z54, z55, z56, z57, z58, z59, z60, z61, z62, z63, z64, z65, z66, z67, z68, z69, z70, z71, z72]; rfl) (app_mrk (x := ⟨0, 0, 0, -1, false⟩) (Es.marksF_len c p s) fun j hj => ?_) ?_
        · rcases (show j = 0 ∨ j = 1 ∨ j = 2 ∨ j = 3 ∨ j = 4 by omega) with rfl | rfl | rfl | rfl | rfl <;> rfl
        refine awp_wf fun hwf => ?_
        simp only at hwf
        refine awp_plan ((.op 0 (.op 1 (.op 3 (.op 4 (.op 2 (.op 6 (.op 5 (.op 7 (.op 8 (.op 9 .done))))))))))) [7, 9] mix (by kernel_rfl) ?_
        simp only [go_sem, ↓reduceIte, reduceCtorEq, Nat.reduceEqDiff, Nat.reduceLT, Nat.reduceLeDiff, Nat.reduceAdd, Nat.reduceSub, Nat.reduceMul, Nat.reduceGT, Int.reduceNeg, Int.reduceToNat, a3, a4, a5, a6, a8, a10, a43, a44, a45, h0, h1, h2, h3, h4, hm2, z1, z2, z3, z4, z5, z6, z7, z8, z9, z10, z11, z12, z13, z14, z15, z16, z17, z18, z19, z20, z21, z22, z23, z24, z25, z26, z27, z28, z29, z30, z31, z32, z33, z34, z35, z36, z37, z38, z39, z40, z41, z42, z43, z44, z45, z46, z47, z48, z49, z50, z51, z52, z53, z54, z55, z56, z57, z58, z59, z60, z61, z62, z63, z64, z65, z66, z67, z68, z69, z70, z71, z72]
        refine cloneI_spec _ _ _ _ s.holders (by omega) _ _ _ hwf fun oA nA fA tA pA pA' qA wA rA => ?_
        have b2 := qA 2 0 (by omega)
        have b3 := qA 3 0 (by omega)
        have b4 := qA 4 0 (by omega)
        have b6 := qA (n2 + 1 + 1) 0 (by omega)
        simp only [go_sem, ↓reduceIte, reduceCtorEq, Nat.reduceEqDiff, Nat.reduceLT, Nat.reduceLeDiff, Nat.reduceAdd, Nat.reduceSub, Nat.reduceMul, Nat.reduceGT, Int.reduceNeg, Int.reduceToNat, h0, h1, h2, h3, h4, hm2, z1, z2, z3, z4, z5, z6, z7, z8, z9, z10, z11, z12, z13, z14, z15, z16, z17, z18, z19, z20, z21, z22, z23, z24, z25, z26, z27, z28, z29, z30, z31, z32, z33, z34, z35, z36, z37, z38, z39, z40, z41, z42, z43, z44, z45, z46, z47, z48, z49, z50, z51, z52, z53, z54, z55, z56, z57, z58, z59, z60, z61, z62, z63, z64, z65, z66, z67, z68, z69, z70, z71, z72] at b2 b3 b4 b6
        simp only [go_sem, ↓reduceIte, reduceCtorEq, Nat.reduceEqDiff, Nat.reduceLT, Nat.reduceLeDiff, Nat.reduceAdd, Nat.reduceSub, Nat.reduceMul, Nat.reduceGT, Int.reduceNeg, Int.reduceToNat, a3, a4, a5, a6, a8, a10, a43, a44, a45, b2, b3, b4]
        refine ⟨keeps_of hwf qA, ?_⟩
        refine cloneB_spec _ _ _ _ s.used (by omega) _ _ _ wA fun oB nB fB tB pB pB' qB wB rB => ?_
        have c2 := (qB 2 0 (by omega)).trans b2
        have c3 := (qB 3 0 (by omega)).trans b3
        have c4 := (qB 4 0 (by omega)).trans b4
        have c6 := (qB (n2 + 1 + 1) 0 (by omega)).trans b6
        have cA := (qB fA 0 (by omega)).trans rA
        simp only [go_sem, ↓reduceIte, reduceCtorEq, Nat.reduceEqDiff, Nat.reduceLT, Nat.reduceLeDiff, Nat.reduceAdd, Nat.reduceSub, Nat.reduceMul, Nat.reduceGT, Int.reduceNeg, Int.reduceToNat, a3, a4, a5, a6, a8, a10, a43, a44, a45, c2, c3, c4]
        refine ⟨keeps_of wA qB, ?_⟩
        have hmp : Es.marksP c p s = Es.marksF c p s ++ [⟨0, 0, 0, -1, false⟩] := by unfold Es.marksP; simp [hk1, hwv]
        have hnm : (Es.marksP c p s).length = s.marks.length + 1 := by rw [hmp]; simp [Es.marksF_len]
        refine mbegin_spec' _ _ _ _ (Es.changed c p) { s with marks := Es.marksP c p s } fA fB (n2 + 1 + 1) _ _ _ _ tA tB 47 _ _ _ rfl rfl rfl hnm ⟨?_, ?_, ?_⟩ (by omega) (fine_of hF.core2) (fun j hj => ?_) (by have := (Es.valid2_ok hvd).small; omega) fun o' n' hw => ?_
        · (repeat (refine (set_ne (by omega)).trans ?_)); exact cA
        · (repeat (refine (set_ne (by omega)).trans ?_)); exact rB
        · refine Eq.trans ?_ (show some (SObj.blk 5 (s.marks.length + 1) 47 (rowsOf mrkC (Es.marksF c p s ++ [⟨0, 0, 0, -1, false⟩]))) = some (SObj.blk 5 (Es.marksP c p s).length 47 (rowsOf mrkC (Es.marksP c p s))) by rw [hnm, hmp])
          (repeat (refine (set_ne (by omega)).trans ?_)); exact c6
        · have := (Es.clauseOk_start (Es.valid2_clause (c := Es.changed c p) (by simpa using hvd) hj)).2
          intro y hy
          have := this y hy
          simp only [Es.condOk, Es.within, Bool.and_eq_true, decide_eq_true_eq] at this
          exact this.2
        have hn' := hw.1
        have d2 := hw.2.2 2 0 (by omega) (by omega)
        have d3 := hw.2.2 3 0 (by omega) (by omega)
        simp only [go_sem, ↓reduceIte, reduceCtorEq, Nat.reduceEqDiff, Nat.reduceLT, Nat.reduceLeDiff, Nat.reduceAdd, Nat.reduceSub, Nat.reduceMul, Nat.reduceGT, Int.reduceNeg, Int.reduceToNat, c2, c3] at d2 d3
        simp only [go_sem, ↓reduceIte, reduceCtorEq, Nat.reduceEqDiff, Nat.reduceLT, Nat.reduceLeDiff, Nat.reduceAdd, Nat.reduceSub, Nat.reduceMul, Nat.reduceGT, Int.reduceNeg, Int.reduceToNat, a3, a4, a5, a6, a8, d2, d3]
        rw [hM]
        have hml := hF.core2.ml
        have hB : HasSt o' fA fB (n2 + 1 + 1) tA tB 47 (Es.begin_ (Es.changed c p) { s with marks := Es.marksP c p s }) := by
          rw [Es.begin_eq hml]
          refine ⟨(hw.2.2 fA 0 (by omega) (by omega)).trans ?_, (hw.2.2 fB 0 (by omega) (by omega)).trans ?_, hw.2.1⟩
          · (repeat (refine (set_ne (by omega)).trans ?_)); exact cA
          · (repeat (refine (set_ne (by omega)).trans ?_)); exact rB
        refine Fz_tup ⟨HasSt.fz' (hB.set (by omega) _ _) ?_ ?_ ?_ ?_, .v _, trivial⟩
        · exact Es.begin_day hml
        · exact congrArg List.length (Es.begin_holders hml)
        · exact congrArg List.length (Es.begin_used hml)
        · exact (Es.begin_len hml).trans hnm
    · skip
      refine awp_wf fun hwf => ?_
      simp only at hwf
      refine awp_plan ((.op 0 (.op 1 (.op 3 (.op 4 (.op 2 (.op 6 (.op 5 (.op 7 (.op 8 (.op 9 .done))))))))))) [7, 9] mix (by kernel_rfl) ?_
      simp only [go_sem, ↓reduceIte, reduceCtorEq, Nat.reduceEqDiff, Nat.reduceLT, Nat.reduceLeDiff, Nat.reduceAdd, Nat.reduceSub, Nat.reduceMul, Nat.reduceGT, Int.reduceNeg, Int.reduceToNat, a3, a4, a5, a6, a8, a10, a43, a44, a45, h0, h1, h2, h3, h4, hm2, z1, z2, z3, z4, z5, z6, z7, z8, z9, z10, z11, z12, z13, z14, z15, z16, z17, z18, z19, z20, z21, z22, z23, z24, z25, z26, z27, z28, z29, z30, z31, z32, z33, z34, z35, z36, z37, z38, z39, z40, z41, z42, z43, z44, z45, z46, z47, z48, z49, z50, z51, z52, z53, z54, z55, z56, z57, z58, z59, z60, z61, z62, z63, z64, z65, z66, z67, z68, z69, z70, z71, z72]
      refine cloneI_spec _ _ _ _ s.holders (by omega) _ _ _ hwf fun oA nA fA tA pA pA' qA wA rA => ?_
      have b2 := qA 2 0 (by omega)
      have b3 := qA 3 0 (by omega)
      have b4 := qA 4 0 (by omega)
      have b6 := qA (6) 0 (by omega)
      simp only [go_sem, ↓reduceIte, reduceCtorEq, Nat.reduceEqDiff, Nat.reduceLT, Nat.reduceLeDiff, Nat.reduceAdd, Nat.reduceSub, Nat.reduceMul, Nat.reduceGT, Int.reduceNeg, Int.reduceToNat, h0, h1, h2, h3, h4, hm2, z1, z2, z3, z4, z5, z6, z7, z8, z9, z10, z11, z12, z13, z14, z15, z16, z17, z18, z19, z20, z21, z22, z23, z24, z25, z26, z27, z28, z29, z30, z31, z32, z33, z34, z35, z36, z37, z38, z39, z40, z41, z42, z43, z44, z45, z46, z47, z48, z49, z50, z51, z52, z53, z54, z55, z56, z57, z58, z59, z60, z61, z62, z63, z64, z65, z66, z67, z68, z69, z70, z71, z72] at b2 b3 b4 b6
      simp only [go_sem, ↓reduceIte, reduceCtorEq, Nat.reduceEqDiff, Nat.reduceLT, Nat.reduceLeDiff, Nat.reduceAdd, Nat.reduceSub, Nat.reduceMul, Nat.reduceGT, Int.reduceNeg, Int.reduceToNat, a3, a4, a5, a6, a8, a10, a43, a44, a45, b2, b3, b4]
      refine ⟨keeps_of hwf qA, ?_⟩
      refine cloneB_spec _ _ _ _ s.used (by omega) _ _ _ wA fun oB nB fB tB pB pB' qB wB rB => ?_
      have c2 := (qB 2 0 (by omega)).trans b2
      have c3 := (qB 3 0 (by omega)).trans b3
      have c4 := (qB 4 0 (by omega)).trans b4
      have c6 := (qB (6) 0 (by omega)).trans b6
      have cA := (qB fA 0 (by omega)).trans rA
      simp only [go_sem, ↓reduceIte, reduceCtorEq, Nat.reduceEqDiff, Nat.reduceLT, Nat.reduceLeDiff, Nat.reduceAdd, Nat.reduceSub, Nat.reduceMul, Nat.reduceGT, Int.reduceNeg, Int.reduceToNat, a3, a4, a5, a6, a8, a10, a43, a44, a45, c2, c3, c4]
      refine ⟨keeps_of wA qB, ?_⟩
      have hmp : Es.marksP c p s = Es.marksF c p s := by unfold Es.marksP; simp [hk1]
      have hnm : (Es.marksP c p s).length = s.marks.length := by rw [hmp]; simp [Es.marksF_len]
      refine mbegin_spec' _ _ _ _ (Es.changed c p) { s with marks := Es.marksP c p s } fA fB (6) _ _ _ _ tA tB 47 _ _ _ rfl rfl rfl hnm ⟨?_, ?_, ?_⟩ (by omega) (fine_of hF.core2) (fun j hj => ?_) (by have := (Es.valid2_ok hvd).small; omega) fun o' n' hw => ?_
      · (repeat (refine (set_ne (by omega)).trans ?_)); exact cA
      · (repeat (refine (set_ne (by omega)).trans ?_)); exact rB
      · refine Eq.trans ?_ (show some (SObj.blk 5 (s.marks.length) 47 (rowsOf mrkC (Es.marksF c p s))) = some (SObj.blk 5 (Es.marksP c p s).length 47 (rowsOf mrkC (Es.marksP c p s))) by rw [hnm, hmp])
        (repeat (refine (set_ne (by omega)).trans ?_)); exact c6
      · have := (Es.clauseOk_start (Es.valid2_clause (c := Es.changed c p) (by simpa using hvd) hj)).2
        intro y hy
        have := this y hy
        simp only [Es.condOk, Es.within, Bool.and_eq_true, decide_eq_true_eq] at this
        exact this.2
      have hn' := hw.1
      have d2 := hw.2.2 2 0 (by omega) (by omega)
      have d3 := hw.2.2 3 0 (by omega) (by omega)
      simp only [go_sem, ↓reduceIte, reduceCtorEq, Nat.reduceEqDiff, Nat.reduceLT, Nat.reduceLeDiff, Nat.reduceAdd, Nat.reduceSub, Nat.reduceMul, Nat.reduceGT, Int.reduceNeg, Int.reduceToNat, c2, c3] at d2 d3
      simp only [go_sem, ↓reduceIte, reduceCtorEq, Nat.reduceEqDiff, Nat.reduceLT, Nat.reduceLeDiff, Nat.reduceAdd, Nat.reduceSub, Nat.reduceMul, Nat.reduceGT, Int.reduceNeg, Int.reduceToNat, a3, a4, a5, a6, a8, d2, d3]
      rw [hM]
      have hml := hF.core2.ml
      have hB : HasSt o' fA fB (6) tA tB 47 (Es.begin_ (Es.changed c p) { s with marks := Es.marksP c p s }) := by
        rw [Es.begin_eq hml]
        refine ⟨(hw.2.2 fA 0 (by omega) (by omega)).trans ?_, (hw.2.2 fB 0 (by omega) (by omega)).trans ?_, hw.2.1⟩
        · (repeat (refine (set_ne (by omega)).trans ?_)); exact cA
        · (repeat (refine (set_ne (by omega)).trans ?_)); exact rB
      refine Fz_tup ⟨HasSt.fz' (hB.set (by omega) _ _) ?_ ?_ ?_ ?_, .v _, trivial⟩
      · exact Es.begin_day hml
      · exact congrArg List.length (Es.begin_holders hml)
      · exact congrArg List.length (Es.begin_used hml)
      · exact (Es.begin_len hml).trans hnm
end Tryz
end Go.Proofs
end
section
namespace Go.Proofs
open Go Go.Abs
set_option linter.unusedSimpArgs false
set_option linter.unusedVariables false
set_option maxRecDepth 10000
namespace Tryz
theorem cloneI_spec2 (X : D → Value → Prop) (N : Nat) (r : Option Nat) (b : Nat) (l : List Int) (hl : l.length ≤ 1000000000) (hne : l.length ≠ 0) (o : St) (nx : Nat) (K : D → S → Prop)
    (hk : ∀ B ty, K (.ms (nx + 1) 0 1 0 l.length) ⟨St.set (St.set o nx 0 B) (nx + 1) 0 (some (.blk 1 l.length ty (rowsOf intC l))), nx + 1 + 1⟩) :
    ACall { P := prog, G := gl, X := X, N := N, r := r, b := b } 25 [slD 1 intC l] ⟨o, nx⟩ K := by
  refine acall_ofA (M := { P := prog, G := gl, X := X, N := N, r := r, b := b }) func25 rfl results25 ntmps25 (by simp) fun b => ?_
  simp only [go_sem, ↓reduceIte, reduceCtorEq, Nat.reduceEqDiff, Nat.reduceLT, Nat.reduceLeDiff, Nat.reduceAdd, Nat.reduceSub, Nat.reduceMul, Nat.reduceGT, Int.reduceNeg, Int.reduceToNat]
  intro q hq
  refine ite_cases (fun h => absurd (hq h) hne) (fun h => ?_)
  refine ⟨⟨by omega, by omega⟩, ?_⟩
  have hc : ∀ cell, appC cell 0 (rowsOf intC l) = rowsOf intC l := fun cell => by funext r c; simp [appC]
  rw [hc, Nat.zero_add]
  exact hk _ _
/-- The marks, when the first k have been laid. -/
def sm (c : Es.Contract) (k : Nat) : List Es.Mark := (List.range c.clauses.length).map fun (i : Nat) => if i < k then Es.mark0 (Es.at_ c.clauses (i : Int)) else ⟨0, 0, 0, 0, false⟩
theorem sm_length (c : Es.Contract) (k : Nat) : (sm c k).length = c.clauses.length := by simp [sm]
theorem sm_zero (c : Es.Contract) : sm c 0 = List.replicate c.clauses.length ⟨0, 0, 0, 0, false⟩ := by
  apply List.ext_getElem (by simp [sm])
  intro i h1 h2; simp [sm]
theorem sm_step {c : Es.Contract} {k : Nat} (hk : k < c.clauses.length) : (sm c k).set k (Es.mark0 (Es.at_ c.clauses (k : Int))) = sm c (k + 1) := by
  apply List.ext_getElem (by simp [sm])
  intro i h1 h2
  rw [List.getElem_set]
  simp only [sm, List.getElem_map, List.getElem_range]
  split
  · rename_i h; subst h; rw [if_pos (by omega)]
  · rename_i h
    by_cases hi : i < k
    · rw [if_pos hi, if_pos (by omega)]
    · rw [if_neg hi, if_neg (by omega)]
theorem sm_at {c : Es.Contract} {k : Nat} (hk : k < c.clauses.length) : Es.at_ (sm c k) (k : Int) = ⟨0, 0, 0, 0, false⟩ := by
  rw [Es.at_nat (by rw [sm_length]; exact hk)]; simp [sm]
theorem sm_end (c : Es.Contract) : sm c c.clauses.length = c.clauses.map Es.mark0 := by
  apply List.ext_getElem (by simp [sm])
  intro i h1 h2
  simp only [List.length_map] at h2
  simp only [sm, List.getElem_map, List.getElem_range]
  rw [if_pos h2, Es.at_nat h2]
/-- Where the parts of a first state lie. -/
structure StR (c : Es.Contract) (fh fu fm f4 : Nat) (th : TypeId) (cu cm : Nat → Nat → D) (e : Env) (st : S) : Prop where
  ne : 2 ≤ fh ∧ 2 ≤ fu ∧ 2 ≤ fm ∧ 2 ≤ f4 ∧ fh < st.nx ∧ fu < st.nx ∧ fm < st.nx ∧ f4 < st.nx ∧ fh ≠ fu ∧ fh ≠ fm ∧ fu ≠ fm ∧ f4 ≠ fh ∧ f4 ≠ fu ∧ f4 ≠ fm
  e1 : e 1 = .mp 0 0 7 0 0
  e2 : e 2 = .mp 1 0 4 0 0
  e4 : e 4 = .mp f4 0 4 0 0
  con : st.o 0 0 = some (.blk 7 1 27 (rowOf [.v (.int .i64 c.parties), slD 1 intC c.holders, slD 5 untC c.units, slD 7 actC c.acts, slD 16 clsC c.clauses, .v (.int .i64 c.days), slD 1 intC c.off]))
  res : st.o 1 0 = some (.blk 4 1 38 (rowOf [.v (.int .i64 0), .v (.slice none 0 0), .v (.slice none 0 0), .v (.slice none 0 0)]))
  sta : st.o f4 0 = some (.blk 4 1 38 (rowOf [.v (.int .i64 0), .ms fh 0 1 0 c.holders.length, .ms fu 0 1 0 c.acts.length, .ms fm 0 5 0 c.clauses.length]))
  h : st.o fh 0 = some (.blk 1 c.holders.length th (rowsOf intC c.holders))
  u : st.o fu 0 = some (.blk 1 c.acts.length 4 cu)
  m : st.o fm 0 = some (.blk 5 c.clauses.length 47 cm)
theorem start_spec (c : Es.Contract) (hf : Es.Fits c) : APure M 39 [conD c] (resD2 (Es.start c)) := by
  refine pure_of gpu func39 rfl results39 ntmps39 (by simp) ⟨pu_conD _, trivial⟩ ?_
  intro b
  simp only [go_sem, ↓reduceIte, reduceCtorEq, Nat.reduceEqDiff, Nat.reduceLT, Nat.reduceLeDiff, Nat.reduceAdd, Nat.reduceSub, Nat.reduceMul, Nat.reduceGT, Int.reduceNeg, Int.reduceToNat]
  repeat' (first | ((with_reducible refine call_at M_P M_G (valid_spec c hf) ?_); simp only [go_sem, ↓reduceIte, reduceCtorEq, Nat.reduceEqDiff, Nat.reduceLT, Nat.reduceLeDiff, Nat.reduceAdd, Nat.reduceSub, Nat.reduceMul, Nat.reduceGT, Int.reduceNeg, Int.reduceToNat]) | (with_reducible refine And.intro ?_ ?_) | ((with_reducible refine ite_cases ?_ ?_) <;> intro _))
  all_goals first
    | (rw [show Es.start c = (⟨0, [], [], []⟩, 1) by unfold Es.start; rw [if_pos (by simp_all)]]; exact Fz_tup ⟨fz_zero _, .v _, trivial⟩)
    | skip
  have hv : (Es.valid2 c).1 = 0 := by simp_all
  have hV := Es.valid2_ok hv
  have hsm := hV.small
  have hne := hV.hne
  have hst : Es.start c = (Es.begin_ c (Es.state0 c), 0) := by unfold Es.start; rw [if_neg (by simp [hv])]
  have hn1 : Es.len c.acts = (c.acts.length : Int) := rfl
  have hn2 : Es.len c.clauses = (c.clauses.length : Int) := rfl
  refine AWp.mono (Q := fun x e1 s1 => x = .normal ∧ ∃ fh fu fm f4 th, StR c fh fu fm f4 th (rowsOf booC (List.replicate c.acts.length false)) (rowsOf mrkC (List.replicate c.clauses.length ⟨0, 0, 0, 0, false⟩)) e1 s1) ?_ ?_
  · refine AWp.sim (Q := fun x e1 s1 => x = .normal ∧ ∃ fh fu fm f4 th, StR c fh fu fm f4 th (zeroRow [.bool false]) (zeroRow [.int .i64 0, .int .i64 0, .int .i64 0, .int .i64 0, .bool false]) e1 s1) ?_ ?sim
    case sim =>
      rintro x e1 ⟨o1, n1⟩ ⟨rfl, fh, fu, fm, f4, th, ⟨q0, k1, k2, k4, kc, kr, ks, kh, ku, km⟩⟩
      simp only at q0 kc kr ks kh ku km
      refine ⟨⟨St.set (St.set o1 fu 0 (some (.blk 1 c.acts.length 4 (rowsOf booC (List.replicate c.acts.length false))))) fm 0 (some (.blk 5 c.clauses.length 47 (rowsOf mrkC (List.replicate c.clauses.length ⟨0, 0, 0, 0, false⟩)))), n1⟩, fun cf hok => ?_, rfl, fh, fu, fm, f4, th, ⟨q0, k1, k2, k4, ?_, ?_, ?_, ?_, ?_, ?_⟩⟩
      · have h1 := cells_sim (s := ⟨o1, n1⟩) ku (cell' := rowsOf booC (List.replicate c.acts.length false)) (fun r j hr hj => by
          obtain rfl : j = 0 := by omega
          simp [zeroRow, rowsOf, List.getD, List.getElem?_replicate, hr, booC]) cf hok
        refine cells_sim (s := ⟨St.set o1 fu 0 _, n1⟩) (cell := zeroRow [.int .i64 0, .int .i64 0, .int .i64 0, .int .i64 0, .bool false]) ?_ (fun r j hr hj => ?_) cf h1
        · rw [show ({ o := St.set o1 fu 0 _, nx := n1 } : S).o fm 0 = St.set o1 fu 0 _ fm 0 from rfl, set_ne (by omega)]; exact km
        · have : j = 0 ∨ j = 1 ∨ j = 2 ∨ j = 3 ∨ j = 4 := by omega
          rcases this with rfl | rfl | rfl | rfl | rfl <;> simp [zeroRow, rowsOf, List.getD, List.getElem?_replicate, hr, mrkC]
      · dsimp only; rw [set_ne (by omega), set_ne (by omega)]; exact kc
      · dsimp only; rw [set_ne (by omega), set_ne (by omega)]; exact kr
      · dsimp only; rw [set_ne (by omega), set_ne (by omega)]; exact ks
      · dsimp only; rw [set_ne (by omega), set_ne (by omega)]; exact kh
      · dsimp only; rw [set_ne (by omega), set_eq]
      · dsimp only; rw [set_eq]
    refine awp_plan ((.op 0 (.op 1 (.op 3 (.op 4 (.op 5 (.op 7 (.op 8 (.op 9 (.alt 2 (.alt 6 (.alt 10 (.op 11 (.op 12 (.op 13 .done))) (.alt 12 (.op 10 (.op 11 (.op 13 .done))) .dead)) (.alt 10 (.alt 6 (.op 11 (.op 12 (.op 13 .done))) (.alt 12 (.op 6 (.op 11 (.op 13 .done))) .dead)) (.alt 12 (.alt 6 (.op 10 (.op 11 (.op 13 .done))) (.alt 10 (.op 6 (.op 11 (.op 13 .done))) .dead)) .dead))) (.alt 6 (.alt 2 (.alt 10 (.op 11 (.op 12 (.op 13 .done))) (.alt 12 (.op 10 (.op 11 (.op 13 .done))) .dead)) (.alt 10 (.alt 2 (.op 11 (.op 12 (.op 13 .done))) (.alt 12 (.op 2 (.op 11 (.op 13 .done))) .dead)) (.alt 12 (.alt 2 (.op 10 (.op 11 (.op 13 .done))) (.alt 10 (.op 2 (.op 11 (.op 13 .done))) .dead)) .dead))) (.alt 10 (.alt 2 (.alt 6 (.op 11 (.op 12 (.op 13 .done))) (.alt 12 (.op 6 (.op 11 (.op 13 .done))) .dead)) (.alt 6 (.alt 2 (.op 11 (.op 12 (.op 13 .done))) (.alt 12 (.op 2 (.op 11 (.op 13 .done))) .dead)) (.alt 12 (.alt 2 (.op 6 (.op 11 (.op 13 .done))) (.alt 6 (.op 2 (.op 11 (.op 13 .done))) .dead)) .dead))) (.alt 12 (.alt 2 (.alt 6 (.op 10 (.op 11 (.op 13 .done))) (.alt 10 (.op 6 (.op 11 (.op 13 .done))) .dead)) (.alt 6 (.alt 2 (.op 10 (.op 11 (.op 13 .done))) (.alt 10 (.op 2 (.op 11 (.op 13 .done))) .dead)) (.alt 10 (.alt 2 (.op 6 (.op 11 (.op 13 .done))) (.alt 6 (.op 2 (.op 11 (.op 13 .done))) .dead)) .dead))) .dead))))))))))))) [13] mix (by kernel_rfl) ?_
    simp only [go_sem, ↓reduceIte, reduceCtorEq, Nat.reduceEqDiff, Nat.reduceLT, Nat.reduceLeDiff, Nat.reduceAdd, Nat.reduceSub, Nat.reduceMul, Nat.reduceGT, Int.reduceNeg, Int.reduceToNat]
    repeat' (first
      | (with_reducible refine And.intro ?_ ?_)
      | (with_reducible refine cloneI_spec2 _ _ _ _ c.holders (by omega) hne _ _ _ ?_; intro B ty; simp only [go_sem, ↓reduceIte, reduceCtorEq, Nat.reduceEqDiff, Nat.reduceLT, Nat.reduceLeDiff, Nat.reduceAdd, Nat.reduceSub, Nat.reduceMul, Nat.reduceGT, Int.reduceNeg, Int.reduceToNat]))
    all_goals first
      | omega
      | (refine keeps_set ?_; rfl)
      | exact keeps_trans (b := ⟨_, 0⟩) (keeps_set rfl) (keeps_set rfl)
      | (refine ⟨_, _, _, _, _, ⟨?_, rfl, rfl, rfl, rfl, rfl, rfl, rfl, rfl, rfl⟩⟩
         dsimp only; omega)
  · rintro x e1 ⟨o1, n1⟩ ⟨rfl, fh, fu, fm, f4, th, ⟨q0, k1, k2, k4, kc, kr, ks, kh, ku, km⟩⟩
    simp only at q0 kc kr ks kh ku km
    simp only [thenA, go_sem, ↓reduceIte, reduceCtorEq, Nat.reduceEqDiff, Nat.reduceLT, Nat.reduceLeDiff, Nat.reduceAdd, Nat.reduceSub, Nat.reduceMul, Nat.reduceGT, Int.reduceNeg, Int.reduceToNat, k1, k2, k4, kc, kr, ks]
    have e0 : ∀ {a b : Nat}, a ≠ b → (a = b) = False := fun h => by simp [h]
    refine awp_count0 c.clauses.length (fun e0 s0 k e st => (e 1 = e0 1 ∧ e 2 = e0 2 ∧ e 4 = e0 4 ∧ e 24 = e0 24 ∧ e 25 = e0 25) ∧ e 26 = .v (.int .i64 k) ∧ Wrote o1 n1 fm 47 (sm c k) st.o st.nx) ⟨⟨rfl, rfl, rfl, rfl, rfl⟩, ?_, Nat.le_refl _, ?_, fun _ _ _ _ => rfl⟩ ?_
    · simp only [go_sem, ↓reduceIte, reduceCtorEq, Nat.reduceEqDiff, Nat.reduceLT, Nat.reduceLeDiff, Nat.reduceAdd, Nat.reduceSub, Nat.reduceMul, Nat.reduceGT, Int.reduceNeg, Int.reduceToNat]; rfl
    · rw [sm_length, sm_zero]; exact km
    rintro k e ⟨o2, n2⟩ hk ⟨⟨a1, a2, a4, a24, a25⟩, a26, hw⟩
    simp only [go_sem, ↓reduceIte, reduceCtorEq, Nat.reduceEqDiff, Nat.reduceLT, Nat.reduceLeDiff, Nat.reduceAdd, Nat.reduceSub, Nat.reduceMul, Nat.reduceGT, Int.reduceNeg, Int.reduceToNat, k1, k2, k4] at a1 a2 a4 a24 a25
    have hn2 := hw.1
    have hm2 := hw.2.1
    rw [sm_length] at hm2
    simp only at hn2 hm2
    have p0 : o2 0 0 = _ := (hw.2.2 0 0 (by omega) (by omega)).trans kc
    have p1 : o2 1 0 = _ := (hw.2.2 1 0 (by omega) (by omega)).trans kr
    have p4 : o2 f4 0 = _ := (hw.2.2 f4 0 (by omega) (by omega)).trans ks
    have u1 : (n2 = fm) = False := e0 (by omega); have u2 : (n2 = 0) = False := e0 (by omega); have u3 : (n2 = 1) = False := e0 (by omega); have u4 : (n2 = f4) = False := e0 (by omega); have u5 : (fm = n2) = False := e0 (by omega); have u6 : (fm = 0) = False := e0 (by omega); have u7 : (fm = 1) = False := e0 (by omega); have u8 : (fm = f4) = False := e0 (by omega); have u9 : (0 = n2) = False := e0 (by omega); have u10 : (0 = fm) = False := e0 (by omega); have u11 : (0 = 1) = False := e0 (by omega); have u12 : (0 = f4) = False := e0 (by omega); have u13 : (1 = n2) = False := e0 (by omega); have u14 : (1 = fm) = False := e0 (by omega); have u15 : (1 = 0) = False := e0 (by omega); have u16 : (1 = f4) = False := e0 (by omega); have u17 : (f4 = n2) = False := e0 (by omega); have u18 : (f4 = fm) = False := e0 (by omega); have u19 : (f4 = 0) = False := e0 (by omega); have u20 : (f4 = 1) = False := e0 (by omega)
    simp only [go_sem, ↓reduceIte, reduceCtorEq, Nat.reduceEqDiff, Nat.reduceLT, Nat.reduceLeDiff, Nat.reduceAdd, Nat.reduceSub, Nat.reduceMul, Nat.reduceGT, Int.reduceNeg, Int.reduceToNat, a1, a2, a4, a24, a25, a26, p0, p1, p4, hm2, u1, u2, u3, u4, u5, u6, u7, u8, u9, u10, u11, u12, u13, u14, u15, u16, u17, u18, u19, u20]
    refine ite_cases (fun hlt => ?_) (fun hlt => ?_)
    · have hlt' : k < c.clauses.length := Es.len_lt.1 hlt
      have him : k < (sm c k).length := by rw [sm_length]; exact hlt'
      simp only [go_sem, ↓reduceIte, reduceCtorEq, Nat.reduceEqDiff, Nat.reduceLT, Nat.reduceLeDiff, Nat.reduceAdd, Nat.reduceSub, Nat.reduceMul, Nat.reduceGT, Int.reduceNeg, Int.reduceToNat, setC_mrk3 him, setC_mrk0 (ms := (sm c k).set k _) (r := k) (by simpa using him), at_set him, List.set_set, sm_at hlt', Nat.zero_add, Int.toNat_natCast]
      have hfin : ∀ (B : Option SObj) (m' : Es.Mark), m' = Es.mark0 (Es.at_ c.clauses (k : Int)) → Wrote o1 n1 fm 47 (sm c (k + 1)) (St.set (St.set o2 n2 0 B) fm 0 (some (.blk 5 c.clauses.length 47 (rowsOf mrkC ((sm c k).set k m'))))) (n2 + 1) := fun B m' hm' => by
        refine ⟨by omega, ?_, fun f j h1 h2 => ?_⟩
        · rw [set_eq, hm', sm_step hlt', sm_length]
        · simp only [St.set]; rw [if_neg (by omega), if_neg (by omega)]; exact hw.2.2 f j h1 h2
      refine ⟨⟨by omega, hlt⟩, ⟨by omega, by omega⟩, hlt', ?_⟩
      refine ite_cases (fun hwv => ⟨⟨by omega, by omega⟩, hlt', hlt', ?_⟩) (fun hwv => ⟨hlt', ?_⟩)
      all_goals
        simp only [go_sem, ↓reduceIte, reduceCtorEq, Nat.reduceEqDiff, Nat.reduceLT, Nat.reduceLeDiff, Nat.reduceAdd, Nat.reduceSub, Nat.reduceMul, Nat.reduceGT, Int.reduceNeg, Int.reduceToNat, k1, k2, k4, a1, a2, a4, a24, a25, a26]
        exact ⟨by rw [wrap_i64 _ (by omega) (by omega)]; simp, hfin _ _ (by simp [Es.mark0, hwv])⟩
    · have hkk : k = c.clauses.length := by simp only [Es.len] at hlt; omega
      subst hkk
      rw [sm_end] at hm2
      have hC := Es.core_start hv
      have hH2 : HasSt o2 fh fu fm th 4 47 (Es.state0 c) := by
        refine ⟨(hw.2.2 fh 0 (by omega) (by omega)).trans kh, ?_, ?_⟩
        · have := (hw.2.2 fu 0 (by omega) (by omega)).trans ku
          simpa [Es.state0] using this
        · simpa [Es.state0] using hm2
      refine begin_spec' _ _ _ _ c (Es.state0 c) fh fu fm _ _ _ _ th _ _ _ _ _ rfl rfl (by simp [Es.state0]) (by simp [Es.state0]) hH2 (by omega) (fine_of hC) (by omega) fun o3 n3 hw3 => ?_
      have hn3 := hw3.1
      have q1 : o3 1 0 = _ := (hw3.2.2 1 0 (by omega) (by omega)).trans p1
      have q4 : o3 f4 0 = _ := (hw3.2.2 f4 0 (by omega) (by omega)).trans p4
      simp only [go_sem, ↓reduceIte, reduceCtorEq, Nat.reduceEqDiff, Nat.reduceLT, Nat.reduceLeDiff, Nat.reduceAdd, Nat.reduceSub, Nat.reduceMul, Nat.reduceGT, Int.reduceNeg, Int.reduceToNat, k1, k2, k4, a1, a2, a4, a24, a25, a26, q1, q4, u1, u2, u3, u4, u5, u6, u7, u8, u9, u10, u11, u12, u13, u14, u15, u16, u17, u18, u19, u20]
      rw [hst]
      have hHB := has_wrote hH2 hw3 (by omega)
      rw [← Es.begin_eq hC.ml] at hHB
      refine Fz_tup ⟨HasSt.fz' (hHB.set (by omega) _ _) ?_ ?_ ?_ ?_, .v _, trivial⟩
      · rw [Es.begin_day hC.ml]; rfl
      · rw [Es.begin_holders hC.ml]; rfl
      · rw [Es.begin_used hC.ml]; simp [Es.state0]
      · rw [Es.begin_len hC.ml]; simp [Es.state0]
end Tryz
end Go.Proofs
end
section
namespace Go.Proofs
open Go Go.Abs
set_option linter.unusedSimpArgs false
set_option linter.unusedVariables false
set_option maxRecDepth 10000
namespace Tryz
end Tryz
end Go.Proofs
end
section
namespace Go.Proofs
open Go Go.Abs
set_option linter.unusedSimpArgs false
set_option linter.unusedVariables false
set_option maxRecDepth 10000
namespace Tryz
@[go_sem] theorem resD2_eq (x : Es.State × Int) : resD2 x = .tup [staD x.1, .v (.int .i64 x.2)] := nr rfl
theorem few_spec (s : Es.State) : APure M 11 [staD s] (.v (.bool (Es.few s))) := by
  refine pure_of gpu func11 rfl results11 ntmps11 (by simp) ⟨pu_staD _, trivial⟩ ?_
  intro b
  simp only [go_sem, ↓reduceIte, reduceCtorEq, Nat.reduceEqDiff, Nat.reduceLT, Nat.reduceLeDiff, Nat.reduceAdd, Nat.reduceSub, Nat.reduceMul, Nat.reduceGT, Int.reduceNeg, Int.reduceToNat]
  repeat' (first | (with_reducible refine And.intro ?_ ?_) | ((with_reducible refine ite_cases ?_ ?_) <;> intro _))
  all_goals first | (simp [Es.few, *]; done) | (simp [Es.few, *]; omega) | (simp_all [Es.few]; done) | (simp_all [Es.few]; omega)
theorem ended_spec (m : Es.Mark) : APure M 13 [mrkD m] (.v (.bool (Es.endedB m))) := by
  refine pure_of gpu func13 rfl results13 ntmps13 (by simp) ⟨pu_mrkD _, trivial⟩ ?_
  intro b
  simp only [go_sem, ↓reduceIte, reduceCtorEq, Nat.reduceEqDiff, Nat.reduceLT, Nat.reduceLeDiff, Nat.reduceAdd, Nat.reduceSub, Nat.reduceMul, Nat.reduceGT, Int.reduceNeg, Int.reduceToNat]
  repeat' (first | (with_reducible refine And.intro ?_ ?_) | ((with_reducible refine ite_cases ?_ ?_) <;> intro _))
  all_goals first | (simp [Es.endedB, *]; done) | (simp [Es.endedB, *]; omega) | (simp_all [Es.endedB]; done) | (simp_all [Es.endedB]; omega)
theorem rruns_spec (m : Es.Mark) : APure M 14 [mrkD m] (.v (.bool (Es.runs m))) := by
  refine pure_of gpu func14 rfl results14 ntmps14 (by simp) ⟨pu_mrkD _, trivial⟩ ?_
  intro b
  simp only [go_sem, ↓reduceIte, reduceCtorEq, Nat.reduceEqDiff, Nat.reduceLT, Nat.reduceLeDiff, Nat.reduceAdd, Nat.reduceSub, Nat.reduceMul, Nat.reduceGT, Int.reduceNeg, Int.reduceToNat]
  repeat' (first | (with_reducible refine And.intro ?_ ?_) | ((with_reducible refine ite_cases ?_ ?_) <;> intro _))
  all_goals first | (simp [Es.runs, *]; done) | (simp [Es.runs, *]; omega) | (simp_all [Es.runs]; done) | (simp_all [Es.runs]; omega)
theorem small_spec (c : Es.Contract) (n : Int) (hf : Es.Fits c) : APure M 9 [conD c, .v (.int .i64 n)] (.v (.bool (Es.small c n))) := by
  refine pure_of gpu func9 rfl results9 ntmps9 (by simp) ⟨pu_conD _, .v _, trivial⟩ ?_
  intro b
  simp only [go_sem, ↓reduceIte, reduceCtorEq, Nat.reduceEqDiff, Nat.reduceLT, Nat.reduceLeDiff, Nat.reduceAdd, Nat.reduceSub, Nat.reduceMul, Nat.reduceGT, Int.reduceNeg, Int.reduceToNat]
  have hc := hf.clauses
  repeat' (first | (with_reducible refine And.intro ?_ ?_) | ((with_reducible refine ite_cases ?_ ?_) <;> intro _))
  all_goals first
    | (first | (simp [Es.small, *]; done) | (simp [Es.small, *]; omega) | (simp_all [Es.small]; done) | (simp_all [Es.small]; omega))
    | skip
  have hsm : Es.small c n = c.clauses.all fun x => decide (Es.len x.start ≤ 20) := by
    unfold Es.small; rw [if_neg (by simp_all)]
  rw [hsm]
  refine awp_count0 c.clauses.length (fun e0 s0 k e st => e 2 = e0 2 ∧ e 5 = .v (.int .i64 k) ∧ st = s0 ∧ ∀ x ∈ c.clauses.take k, decide (Es.len x.start ≤ 20) = true) ⟨rfl, ?_, rfl, by simp⟩ ?_
  · simp only [go_sem, ↓reduceIte, reduceCtorEq, Nat.reduceEqDiff, Nat.reduceLT, Nat.reduceLeDiff, Nat.reduceAdd, Nat.reduceSub, Nat.reduceMul, Nat.reduceGT, Int.reduceNeg, Int.reduceToNat]; rfl
  rintro k e st hk ⟨a2, a5, rfl, hall⟩
  simp only [go_sem, ↓reduceIte, reduceCtorEq, Nat.reduceEqDiff, Nat.reduceLT, Nat.reduceLeDiff, Nat.reduceAdd, Nat.reduceSub, Nat.reduceMul, Nat.reduceGT, Int.reduceNeg, Int.reduceToNat] at a2
  simp only [go_sem, ↓reduceIte, reduceCtorEq, Nat.reduceEqDiff, Nat.reduceLT, Nat.reduceLeDiff, Nat.reduceAdd, Nat.reduceSub, Nat.reduceMul, Nat.reduceGT, Int.reduceNeg, Int.reduceToNat, a2, a5]
  refine ite_cases (fun hlt => ?_) (fun hlt => ?_)
  · have hlt' : k < c.clauses.length := Es.len_lt.1 hlt
    refine ⟨⟨by omega, hlt⟩, ?_⟩
    refine ite_cases (fun h1 => ?_) (fun h1 => ?_)
    · rw [Es.all_bad (p := fun x => decide (Es.len x.start ≤ 20)) hlt' (by simp only [decide_eq_false_iff_not]; omega)]
    · refine ⟨hlt', ?_⟩
      simp only [go_sem, ↓reduceIte, reduceCtorEq, Nat.reduceEqDiff, Nat.reduceLT, Nat.reduceLeDiff, Nat.reduceAdd, Nat.reduceSub, Nat.reduceMul, Nat.reduceGT, Int.reduceNeg, Int.reduceToNat, a2, a5]
      exact ⟨by rw [wrap_i64 _ (by omega) (by omega)]; simp, fun x hx => of_decide_eq_true (Es.all_step (p := fun x => decide (Es.len x.start ≤ 20)) hlt' (fun x hx => by simpa using hall x hx) (by simp only [decide_eq_true_eq]; omega) x hx)⟩
  · rw [Es.all_end (p := fun x => decide (Es.len x.start ≤ 20)) hlt hk hall]
end Tryz
end Go.Proofs
end
section
namespace Go.Proofs
open Go Go.Abs
set_option linter.unusedSimpArgs false
set_option linter.unusedVariables false
set_option maxRecDepth 10000
@[go_sem] theorem aslice_slM {α : Type} [Inhabited α] (k' k : Nat) (f : α → Nat → D) (l : List α) (lo hi : Option D) (s : S) (K : D → S → Prop) : ASliceL (some k') (slD k f l) lo hi s K =
    ((k = k' ∧ 0 ≤ bnd lo 0 ∧ bnd lo 0 ≤ bnd hi l.length ∧ bnd hi l.length ≤ l.length) ∧ K (.sl k ((bnd hi l.length).toNat - (bnd lo 0).toNat) (shift (bnd lo 0).toNat (rowsOf f l))) s) := nr rfl
theorem sl_tail {α : Type} [Inhabited α] (k : Nat) (f : α → Nat → D) (x : α) (l : List α) : D.sl k l.length (shift 1 (rowsOf f (x :: l))) = slD k f l := by
  rw [slD_eq]
  congr 1
  funext r c
  simp [shift, rowsOf, List.getD, Nat.add_comm 1 r]
namespace Tryz
theorem fits_ok {c : Es.Contract} (h : (Es.valid2 c).1 = 0) : Es.Fits c := by
  have hV := Es.valid2_ok h
  have hs := hV.small
  have ho := Es.off_len c.off (-1) (by have := hV.pos; omega) hV.off
  exact ⟨by omega, by omega, by omega, by omega, by omega⟩
theorem fits_apply {c : Es.Contract} {p : Es.Patch} (h : (Es.applyP c p).2 = 0) : Es.Fits (Es.applyP c p).1 := by
  obtain ⟨h1, h2, _⟩ := Es.applyP_ok h
  rw [h1]; exact fits_ok h2
/-- What the contract and the amendments are, while amendments are applied. -/
structure ApI (o : St) (nx fl fc : Nat) (l : List Es.Amend) (c : Es.Contract) (st : S) : Prop where
  nxt : nx ≤ st.nx
  fits : Es.Fits c
  lst : st.o fl 0 = some (.blk 1 1 70 (rowOf [slD 22 amdC l]))
  con : st.o fc 0 = some (.blk 7 1 27 (rowOf [.v (.int .i64 c.parties), slD 1 intC c.holders, slD 5 untC c.units, slD 7 actC c.acts, slD 16 clsC c.clauses, .v (.int .i64 c.days), slD 1 intC c.off]))
theorem applyN_spec (X : D → Value → Prop) (N : Nat) (r : Option Nat) (b : Nat) (u : Int) (l : List Es.Amend) (c : Es.Contract) (fl fc : Nat) (o : St) (nx : Nat) (hx : fl < nx ∧ fc < nx ∧ fl ≠ fc) (hI : ApI o nx fl fc l c ⟨o, nx⟩) (K : D → S → Prop)
    (hk : ∀ o' nx', ApI o nx fl fc (Es.applyU u l c).2 (Es.applyU u l c).1 ⟨o', nx'⟩ → (∀ f j, f < nx → f ≠ fl → f ≠ fc → o' f j = o f j) → K (.tup []) ⟨o', nx'⟩) :
    ACall { P := prog, G := gl, X := X, N := N, r := r, b := b } 61 [.v (.pointer none), .v (.int .i64 u), .mp fl 0 1 0 0, .mp fc 0 7 0 0] ⟨o, nx⟩ K := by
  refine acall_ofA (M := { P := prog, G := gl, X := X, N := N, r := r, b := b }) func61 rfl results61 ntmps61 (by simp) fun b => ?_
  simp only [go_sem, ↓reduceIte, reduceCtorEq, Nat.reduceEqDiff, Nat.reduceLT, Nat.reduceLeDiff, Nat.reduceAdd, Nat.reduceSub, Nat.reduceMul, Nat.reduceGT, Int.reduceNeg, Int.reduceToNat]
  refine awp_loopA (fun n e st => ∃ (l' : List Es.Amend) (c' : Es.Contract), n = l'.length ∧ e 0 = .v (.pointer none) ∧ e 1 = .v (.int .i64 u) ∧ e 2 = .mp fl 0 1 0 0 ∧ e 3 = .mp fc 0 7 0 0 ∧ Es.applyU u l' c' = Es.applyU u l c ∧ ApI o nx fl fc l' c' st ∧ (∀ f j, f < nx → f ≠ fl → f ≠ fc → st.o f j = o f j)) ?_ (n := l.length) ⟨l, c, rfl, by simp only [go_sem, ↓reduceIte, reduceCtorEq, Nat.reduceEqDiff, Nat.reduceLT, Nat.reduceLeDiff, Nat.reduceAdd, Nat.reduceSub, Nat.reduceMul, Nat.reduceGT, Int.reduceNeg, Int.reduceToNat], by simp only [go_sem, ↓reduceIte, reduceCtorEq, Nat.reduceEqDiff, Nat.reduceLT, Nat.reduceLeDiff, Nat.reduceAdd, Nat.reduceSub, Nat.reduceMul, Nat.reduceGT, Int.reduceNeg, Int.reduceToNat], by simp only [go_sem, ↓reduceIte, reduceCtorEq, Nat.reduceEqDiff, Nat.reduceLT, Nat.reduceLeDiff, Nat.reduceAdd, Nat.reduceSub, Nat.reduceMul, Nat.reduceGT, Int.reduceNeg, Int.reduceToNat], by simp only [go_sem, ↓reduceIte, reduceCtorEq, Nat.reduceEqDiff, Nat.reduceLT, Nat.reduceLeDiff, Nat.reduceAdd, Nat.reduceSub, Nat.reduceMul, Nat.reduceGT, Int.reduceNeg, Int.reduceToNat], rfl, hI, fun _ _ _ _ _ => rfl⟩
  rintro n e ⟨o1, n1⟩ ⟨l', c', rfl, a0, a1, a2, a3, he, hJ, hold⟩
  have k1 := hJ.nxt
  have k2 := hJ.lst
  have k3 := hJ.con
  have kf := hJ.fits
  simp only at k1 k2 k3 hold
  have e0 : ∀ {a b : Nat}, a ≠ b → (a = b) = False := fun h => by simp [h]
  have z1 : (fl = fc) = False := e0 (by omega); have z2 : (fl = n1) = False := e0 (by omega); have z3 : (fl = n1 + 1) = False := e0 (by omega); have z4 : (fc = fl) = False := e0 (by omega); have z5 : (fc = n1) = False := e0 (by omega); have z6 : (fc = n1 + 1) = False := e0 (by omega); have z7 : (n1 = fl) = False := e0 (by omega); have z8 : (n1 = fc) = False := e0 (by omega); have z9 : (n1 = n1 + 1) = False := e0 (by omega); have z10 : (n1 + 1 = fl) = False := e0 (by omega); have z11 : (n1 + 1 = fc) = False := e0 (by omega); have z12 : (n1 + 1 = n1) = False := e0 (by omega)
  cases l' with
  | nil =>
    simp only [go_sem, ↓reduceIte, reduceCtorEq, Nat.reduceEqDiff, Nat.reduceLT, Nat.reduceLeDiff, Nat.reduceAdd, Nat.reduceSub, Nat.reduceMul, Nat.reduceGT, Int.reduceNeg, Int.reduceToNat, a0, a1, a2, a3, k2, k3, z1, z2, z3, z4, z5, z6, z7, z8, z9, z10, z11, z12]
    rw [if_neg (by simp [Es.len])]
    rw [show Es.applyU u [] c' = (c', []) from rfl] at he
    refine hk _ _ ?_ hold
    rw [← he]; exact hJ
  | cons x l' =>
    have hat : Es.at_ (x :: l') 0 = x := rfl
    have hln : ((l'.length + 1 : Nat) : Int).toNat - 1 = l'.length := by omega
    have htl := sl_tail 22 amdC x l'
    simp only [go_sem, ↓reduceIte, reduceCtorEq, Nat.reduceEqDiff, Nat.reduceLT, Nat.reduceLeDiff, Nat.reduceAdd, Nat.reduceSub, Nat.reduceMul, Nat.reduceGT, Int.reduceNeg, Int.reduceToNat, a0, a1, a2, a3, k2, k3, z1, z2, z3, z4, z5, z6, z7, z8, z9, z10, z11, z12, hat, List.length_cons, hln, htl]
    have hle : 0 < Es.len (x :: l') := by simp only [Es.len, List.length_cons]; omega
    refine ite_cases (fun _ => ?_) (fun h => absurd hle h)
    refine ⟨⟨by omega, hle⟩, ite_cases (fun hd => ?_) (fun hd => ?_)⟩
    · refine ⟨⟨by omega, hle⟩, ⟨by omega, by omega, by omega⟩, ?_⟩
      refine call_at M_P M_G (apply_spec c' x.patch kf) ?_
      simp only [go_sem, ↓reduceIte, reduceCtorEq, Nat.reduceEqDiff, Nat.reduceLT, Nat.reduceLeDiff, Nat.reduceAdd, Nat.reduceSub, Nat.reduceMul, Nat.reduceGT, Int.reduceNeg, Int.reduceToNat, a0, a1, a2, a3, k2, k3, z1, z2, z3, z4, z5, z6, z7, z8, z9, z10, z11, z12]
      refine ite_cases (fun hbad => ?_) (fun hbad => ?_)
      · refine ⟨l'.length, by omega, l', c', rfl, ?_⟩
        simp only [go_sem, ↓reduceIte, reduceCtorEq, Nat.reduceEqDiff, Nat.reduceLT, Nat.reduceLeDiff, Nat.reduceAdd, Nat.reduceSub, Nat.reduceMul, Nat.reduceGT, Int.reduceNeg, Int.reduceToNat, a0, a1, a2, a3, k2, k3, z1, z2, z3, z4, z5, z6, z7, z8, z9, z10, z11, z12]
        refine ⟨?_, ⟨by simp only; omega, kf, ?_, ?_⟩, fun f j h1 h2 h3 => ?_⟩
        · rw [← he, Es.applyU, if_pos (by simpa using hd), if_neg (by simpa using hbad)]
        · dsimp only; (repeat (refine (set_ne (by omega)).trans ?_)); exact St_set_self _ _ _ _
        · dsimp only; (repeat (refine (set_ne (by omega)).trans ?_)); exact k3
        · (repeat rw [if_neg (by omega)]); exact hold f j h1 h2 h3
      · refine ⟨l'.length, by omega, l', (Es.applyP c' x.patch).1, rfl, ?_⟩
        simp only [go_sem, ↓reduceIte, reduceCtorEq, Nat.reduceEqDiff, Nat.reduceLT, Nat.reduceLeDiff, Nat.reduceAdd, Nat.reduceSub, Nat.reduceMul, Nat.reduceGT, Int.reduceNeg, Int.reduceToNat, a0, a1, a2, a3, k2, k3, z1, z2, z3, z4, z5, z6, z7, z8, z9, z10, z11, z12]
        have hok : (Es.applyP c' x.patch).2 = 0 := by simpa using hbad
        refine ⟨?_, ⟨by simp only; omega, fits_apply hok, ?_, ?_⟩, fun f j h1 h2 h3 => ?_⟩
        · rw [← he, Es.applyU, if_pos (by simpa using hd), if_pos (by simpa using hok)]
        · dsimp only; (repeat (refine (set_ne (by omega)).trans ?_)); exact St_set_self _ _ _ _
        · dsimp only; (repeat (refine (set_ne (by omega)).trans ?_)); exact St_set_self _ _ _ _
        · (repeat rw [if_neg (by omega)]); exact hold f j h1 h2 h3
    · refine hk _ _ ?_ hold
      rw [Es.applyU, if_neg (by simpa using hd)] at he
      rw [← he]; exact hJ
theorem sfits_migrate (c : Es.Contract) (p : Es.Patch) (s : Es.State) : Es.SFits (Es.migrate c p s).1 := by
  by_cases hv : Es.sValid c s = true
  · by_cases ha : (Es.applyP c p).2 = 0
    · rw [Es.migrate_ok hv ha]
      exact Es.sfits_core (Es.sValid_iff.1 (Es.fine2 hv ha).core2.begin).1
    · unfold Es.migrate
      rw [if_neg (by simp [hv]), if_pos (by simpa using ha)]
      exact Es.sfits_nil
  · unfold Es.migrate
    rw [if_pos (by simpa using hv)]
    exact Es.sfits_nil
/-- The same with a state. -/
structure ApS (o : St) (nx fl fc fs : Nat) (l : List Es.Amend) (c : Es.Contract) (s : Es.State) (st : S) : Prop where
  ap : ApI o nx fl fc l c st
  sf : Es.SFits s
  sta : st.o fs 0 = some (.blk 4 1 38 (rowOf [.v (.int .i64 s.day), slD 1 intC s.holders, slD 1 booC s.used, slD 5 mrkC s.marks]))
theorem applyS_spec (X : D → Value → Prop) (N : Nat) (r : Option Nat) (b : Nat) (u : Int) (l : List Es.Amend) (c : Es.Contract) (s : Es.State) (fl fc fs : Nat) (o : St) (nx : Nat) (hx : fl < nx ∧ fc < nx ∧ fs < nx ∧ fl ≠ fc ∧ fl ≠ fs ∧ fc ≠ fs) (hI : ApS o nx fl fc fs l c s ⟨o, nx⟩) (K : D → S → Prop)
    (hk : ∀ o' nx', ApS o nx fl fc fs (Es.applyS u l c s).2.2 (Es.applyS u l c s).1 (Es.applyS u l c s).2.1 ⟨o', nx'⟩ → (∀ f j, f < nx → f ≠ fl → f ≠ fc → f ≠ fs → o' f j = o f j) → K (.tup []) ⟨o', nx'⟩) :
    ACall { P := prog, G := gl, X := X, N := N, r := r, b := b } 61 [.mp fs 0 4 0 0, .v (.int .i64 u), .mp fl 0 1 0 0, .mp fc 0 7 0 0] ⟨o, nx⟩ K := by
  refine acall_ofA (M := { P := prog, G := gl, X := X, N := N, r := r, b := b }) func61 rfl results61 ntmps61 (by simp) fun b => ?_
  simp only [go_sem, ↓reduceIte, reduceCtorEq, Nat.reduceEqDiff, Nat.reduceLT, Nat.reduceLeDiff, Nat.reduceAdd, Nat.reduceSub, Nat.reduceMul, Nat.reduceGT, Int.reduceNeg, Int.reduceToNat]
  refine awp_loopA (fun n e st => ∃ (l' : List Es.Amend) (c' : Es.Contract) (s' : Es.State), n = l'.length ∧ e 0 = .mp fs 0 4 0 0 ∧ e 1 = .v (.int .i64 u) ∧ e 2 = .mp fl 0 1 0 0 ∧ e 3 = .mp fc 0 7 0 0 ∧ Es.applyS u l' c' s' = Es.applyS u l c s ∧ ApS o nx fl fc fs l' c' s' st ∧ (∀ f j, f < nx → f ≠ fl → f ≠ fc → f ≠ fs → st.o f j = o f j)) ?_ (n := l.length) ⟨l, c, s, rfl, by simp only [go_sem, ↓reduceIte, reduceCtorEq, Nat.reduceEqDiff, Nat.reduceLT, Nat.reduceLeDiff, Nat.reduceAdd, Nat.reduceSub, Nat.reduceMul, Nat.reduceGT, Int.reduceNeg, Int.reduceToNat], by simp only [go_sem, ↓reduceIte, reduceCtorEq, Nat.reduceEqDiff, Nat.reduceLT, Nat.reduceLeDiff, Nat.reduceAdd, Nat.reduceSub, Nat.reduceMul, Nat.reduceGT, Int.reduceNeg, Int.reduceToNat], by simp only [go_sem, ↓reduceIte, reduceCtorEq, Nat.reduceEqDiff, Nat.reduceLT, Nat.reduceLeDiff, Nat.reduceAdd, Nat.reduceSub, Nat.reduceMul, Nat.reduceGT, Int.reduceNeg, Int.reduceToNat], by simp only [go_sem, ↓reduceIte, reduceCtorEq, Nat.reduceEqDiff, Nat.reduceLT, Nat.reduceLeDiff, Nat.reduceAdd, Nat.reduceSub, Nat.reduceMul, Nat.reduceGT, Int.reduceNeg, Int.reduceToNat], rfl, hI, fun _ _ _ _ _ _ => rfl⟩
  rintro n e ⟨o1, n1⟩ ⟨l', c', s', rfl, a0, a1, a2, a3, he, hJ, hold⟩
  have k1 := hJ.ap.nxt
  have k2 := hJ.ap.lst
  have k3 := hJ.ap.con
  have kf := hJ.ap.fits
  have k4 := hJ.sta
  have ksf := hJ.sf
  simp only at k1 k2 k3 k4 hold
  have e0 : ∀ {a b : Nat}, a ≠ b → (a = b) = False := fun h => by simp [h]
  have z1 : (fl = fc) = False := e0 (by omega); have z2 : (fl = fs) = False := e0 (by omega); have z3 : (fl = n1) = False := e0 (by omega); have z4 : (fl = n1 + 1) = False := e0 (by omega); have z5 : (fc = fl) = False := e0 (by omega); have z6 : (fc = fs) = False := e0 (by omega); have z7 : (fc = n1) = False := e0 (by omega); have z8 : (fc = n1 + 1) = False := e0 (by omega); have z9 : (fs = fl) = False := e0 (by omega); have z10 : (fs = fc) = False := e0 (by omega); have z11 : (fs = n1) = False := e0 (by omega); have z12 : (fs = n1 + 1) = False := e0 (by omega); have z13 : (n1 = fl) = False := e0 (by omega); have z14 : (n1 = fc) = False := e0 (by omega); have z15 : (n1 = fs) = False := e0 (by omega); have z16 : (n1 = n1 + 1) = False := e0 (by omega); have z17 : (n1 + 1 = fl) = False := e0 (by omega); have z18 : (n1 + 1 = fc) = False := e0 (by omega); have z19 : (n1 + 1 = fs) = False := e0 (by omega); have z20 : (n1 + 1 = n1) = False := e0 (by omega)
  cases l' with
  | nil =>
    simp only [go_sem, ↓reduceIte, reduceCtorEq, Nat.reduceEqDiff, Nat.reduceLT, Nat.reduceLeDiff, Nat.reduceAdd, Nat.reduceSub, Nat.reduceMul, Nat.reduceGT, Int.reduceNeg, Int.reduceToNat, a0, a1, a2, a3, k2, k3, k4, z1, z2, z3, z4, z5, z6, z7, z8, z9, z10, z11, z12, z13, z14, z15, z16, z17, z18, z19, z20]
    rw [if_neg (by simp [Es.len])]
    rw [show Es.applyS u [] c' s' = (c', s', []) from rfl] at he
    refine hk _ _ ?_ hold
    rw [← he]; exact hJ
  | cons x l' =>
    have hat : Es.at_ (x :: l') 0 = x := rfl
    have hln : ((l'.length + 1 : Nat) : Int).toNat - 1 = l'.length := by omega
    have htl := sl_tail 22 amdC x l'
    simp only [go_sem, ↓reduceIte, reduceCtorEq, Nat.reduceEqDiff, Nat.reduceLT, Nat.reduceLeDiff, Nat.reduceAdd, Nat.reduceSub, Nat.reduceMul, Nat.reduceGT, Int.reduceNeg, Int.reduceToNat, a0, a1, a2, a3, k2, k3, k4, z1, z2, z3, z4, z5, z6, z7, z8, z9, z10, z11, z12, z13, z14, z15, z16, z17, z18, z19, z20, hat, List.length_cons, hln, htl]
    have hle : 0 < Es.len (x :: l') := by simp only [Es.len, List.length_cons]; omega
    refine ite_cases (fun _ => ?_) (fun h => absurd hle h)
    refine ⟨⟨by omega, hle⟩, ite_cases (fun hd => ?_) (fun hd => ?_)⟩
    · refine ⟨⟨by omega, hle⟩, ⟨by omega, by omega, by omega⟩, ?_⟩
      refine call_at M_P M_G (apply_spec c' x.patch kf) ?_
      simp only [go_sem, ↓reduceIte, reduceCtorEq, Nat.reduceEqDiff, Nat.reduceLT, Nat.reduceLeDiff, Nat.reduceAdd, Nat.reduceSub, Nat.reduceMul, Nat.reduceGT, Int.reduceNeg, Int.reduceToNat, a0, a1, a2, a3, k2, k3, k4, z1, z2, z3, z4, z5, z6, z7, z8, z9, z10, z11, z12, z13, z14, z15, z16, z17, z18, z19, z20]
      refine ite_cases (fun hbad => ?_) (fun hbad => ?_)
      · refine ⟨l'.length, by omega, l', c', s', rfl, ?_⟩
        simp only [go_sem, ↓reduceIte, reduceCtorEq, Nat.reduceEqDiff, Nat.reduceLT, Nat.reduceLeDiff, Nat.reduceAdd, Nat.reduceSub, Nat.reduceMul, Nat.reduceGT, Int.reduceNeg, Int.reduceToNat, a0, a1, a2, a3, k2, k3, k4, z1, z2, z3, z4, z5, z6, z7, z8, z9, z10, z11, z12, z13, z14, z15, z16, z17, z18, z19, z20]
        refine ⟨?_, ⟨⟨by simp only; omega, kf, ?_, ?_⟩, ksf, ?_⟩, fun f j h1 h2 h3 h4 => ?_⟩
        · rw [← he, Es.applyS, if_pos (by simpa using hd), if_neg (by simpa using hbad)]
        · dsimp only; (repeat (refine (set_ne (by omega)).trans ?_)); exact St_set_self _ _ _ _
        · dsimp only; (repeat (refine (set_ne (by omega)).trans ?_)); exact k3
        · dsimp only; (repeat (refine (set_ne (by omega)).trans ?_)); exact k4
        · (repeat rw [if_neg (by omega)]); exact hold f j h1 h2 h3 h4
      · have hok : (Es.applyP c' x.patch).2 = 0 := by simpa using hbad
        refine awp_plan ((.op 0 (.op 1 (.op 2 (.op 3 (.op 4 (.op 5 (.op 6 (.op 7 (.op 8 (.op 9 (.op 10 (.op 11 .done))))))))))))) [11] mix (by kernel_rfl) ?_
        simp only [go_sem, ↓reduceIte, reduceCtorEq, Nat.reduceEqDiff, Nat.reduceLT, Nat.reduceLeDiff, Nat.reduceAdd, Nat.reduceSub, Nat.reduceMul, Nat.reduceGT, Int.reduceNeg, Int.reduceToNat, a0, a1, a2, a3, k2, k3, k4, z1, z2, z3, z4, z5, z6, z7, z8, z9, z10, z11, z12, z13, z14, z15, z16, z17, z18, z19, z20]
        refine call_at M_P M_G (migrate_spec c' x.patch s' kf ksf) ?_
        simp only [go_sem, ↓reduceIte, reduceCtorEq, Nat.reduceEqDiff, Nat.reduceLT, Nat.reduceLeDiff, Nat.reduceAdd, Nat.reduceSub, Nat.reduceMul, Nat.reduceGT, Int.reduceNeg, Int.reduceToNat, a0, a1, a2, a3, k2, k3, k4, z1, z2, z3, z4, z5, z6, z7, z8, z9, z10, z11, z12, z13, z14, z15, z16, z17, z18, z19, z20]
        refine ⟨l'.length, by omega, l', (Es.applyP c' x.patch).1, (Es.migrate c' x.patch s').1, rfl, ?_⟩
        simp only [go_sem, ↓reduceIte, reduceCtorEq, Nat.reduceEqDiff, Nat.reduceLT, Nat.reduceLeDiff, Nat.reduceAdd, Nat.reduceSub, Nat.reduceMul, Nat.reduceGT, Int.reduceNeg, Int.reduceToNat, a0, a1, a2, a3, k2, k3, k4, z1, z2, z3, z4, z5, z6, z7, z8, z9, z10, z11, z12, z13, z14, z15, z16, z17, z18, z19, z20]
        refine ⟨?_, ⟨⟨by simp only; omega, fits_apply hok, ?_, ?_⟩, sfits_migrate _ _ _, ?_⟩, fun f j h1 h2 h3 h4 => ?_⟩
        · rw [← he, Es.applyS, if_pos (by simpa using hd), if_pos (by simpa using hok)]
        · dsimp only; (repeat (refine (set_ne (by omega)).trans ?_)); exact St_set_self _ _ _ _
        · dsimp only; (repeat (refine (set_ne (by omega)).trans ?_)); exact St_set_self _ _ _ _
        · dsimp only; (repeat (refine (set_ne (by omega)).trans ?_)); exact St_set_self _ _ _ _
        · (repeat rw [if_neg (by omega)]); exact hold f j h1 h2 h3 h4
    · refine hk _ _ ?_ hold
      rw [Es.applyS, if_neg (by simpa using hd)] at he
      rw [← he]; exact hJ
end Tryz
end Go.Proofs
end
section
namespace Go.Proofs
open Go Go.Abs
set_option linter.unusedSimpArgs false
set_option linter.unusedVariables false
set_option maxRecDepth 10000
def stgL (c : Es.Contract) (s : Es.State) (e : Int) : List D := [.v (.int .i64 c.parties), slD 1 intC c.holders, slD 5 untC c.units, slD 7 actC c.acts, slD 16 clsC c.clauses, .v (.int .i64 c.days), slD 1 intC c.off, .v (.int .i64 s.day), slD 1 intC s.holders, slD 1 booC s.used, slD 5 mrkC s.marks, .v (.int .i64 e)]
def stgD (c : Es.Contract) (s : Es.State) (e : Int) : D := .agg (stgL c s e)
@[go_sem] theorem stgD_fold (c : Es.Contract) (s : Es.State) (e : Int) : D.agg [.v (.int .i64 c.parties), slD 1 intC c.holders, slD 5 untC c.units, slD 7 actC c.acts, slD 16 clsC c.clauses, .v (.int .i64 c.days), slD 1 intC c.off, .v (.int .i64 s.day), slD 1 intC s.holders, slD 1 booC s.used, slD 5 mrkC s.marks, .v (.int .i64 e)] = stgD c s e := nr rfl
@[go_sem] theorem stgD_cells (c : Es.Contract) (s : Es.State) (e : Int) : (stgD c s e).cells? = some (stgL c s e) := nr rfl
theorem stgL_eq (c : Es.Contract) (s : Es.State) (e : Int) : stgL c s e = [.v (.int .i64 c.parties), slD 1 intC c.holders, slD 5 untC c.units, slD 7 actC c.acts, slD 16 clsC c.clauses, .v (.int .i64 c.days), slD 1 intC c.off, .v (.int .i64 s.day), slD 1 intC s.holders, slD 1 booC s.used, slD 5 mrkC s.marks, .v (.int .i64 e)] := nr rfl
namespace Tryz
theorem stages_spec (X : D → Value → Prop) (N : Nat) (r : Option Nat) (b : Nat) (c : Es.Contract) (l : List Es.Amend) (tr : List Int) (o : St) (nx : Nat) (K : D → S → Prop)
    (hk : K (.fn (.func 60) [.mp (nx + 1) 0 1 0 0, .mp nx 0 7 0 0, .mp (nx + 1 + 1) 0 1 0 0])
      ⟨St.set (St.set (St.set o nx 0 (some (boxC c))) (nx + 1) 0 (some (.blk 1 1 70 (rowOf [slD 22 amdC l])))) (nx + 1 + 1) 0 (some (.blk 1 1 22 (rowOf [slD 1 intC tr]))), nx + 1 + 1 + 1⟩) :
    ACall { P := prog, G := gl, X := X, N := N, r := r, b := b } 41 [conD c, slD 22 amdC l, slD 1 intC tr] ⟨o, nx⟩ K := by
  refine acall_ofA (M := { P := prog, G := gl, X := X, N := N, r := r, b := b }) func41 rfl results41 ntmps41 (by simp) fun b => ?_
  simp only [go_sem, ↓reduceIte, reduceCtorEq, Nat.reduceEqDiff, Nat.reduceLT, Nat.reduceLeDiff, Nat.reduceAdd, Nat.reduceSub, Nat.reduceMul, Nat.reduceGT, Int.reduceNeg, Int.reduceToNat]
  exact hk
theorem stages1_spec (X : D → Value → Prop) (N : Nat) (r : Option Nat) (b : Nat) (y : Nat) (c : Es.Contract) (l : List Es.Amend) (tr : List Int) (htr : tr.length ≤ 1000000000) (fl fc ft : Nat) (o : St) (nx : Nat)
    (hx : fl < nx ∧ fc < nx ∧ ft < nx ∧ fl ≠ fc ∧ fl ≠ ft ∧ fc ≠ ft) (hA : ApI o nx fl fc l c ⟨o, nx⟩) (ho3 : o ft 0 = some (.blk 1 1 22 (rowOf [slD 1 intC tr])))
    (J : Nat → Nat → S → Prop) (Js : S → Prop)
    (hsame : ∀ i fs o nx o' nx', J i fs ⟨o, nx⟩ → nx ≤ nx' → (∀ f j, f < nx → f ≠ fl → f ≠ fc → f ≠ fs → o' f j = o f j) → J i fs ⟨o', nx'⟩)
    (h0 : ∀ fs o' nx', nx ≤ fs → fs < nx' → (∀ f j, f < nx → f ≠ fl → f ≠ fc → o' f j = o f j) → J 0 fs ⟨o', nx'⟩)
    (hY : ∀ (N : Nat) (b : Nat) (i fs : Nat) (z : Es.Stg) (o1 : St) (n1 : Nat), (Es.stagesA c l tr)[i]? = some z → nx ≤ fs → fs < n1 → J i fs ⟨o1, n1⟩ →
      ARound { P := prog, G := gl, X := X, N := N, r := none, b := b } y [stgD z.con z.st z.err] ⟨o1, n1⟩
        (fun d st' => n1 ≤ st'.nx ∧ (st'.o fl 0 = o1 fl 0 ∧ st'.o fc 0 = o1 fc 0 ∧ st'.o ft 0 = o1 ft 0 ∧ st'.o fs 0 = o1 fs 0) ∧ ((d = .v (.bool true) ∧ J (i + 1) fs st') ∨ (d = .v (.bool false) ∧ Js st'))))
    (K : D → S → Prop)
    (hk1 : ∀ fs o' nx', nx ≤ fs → J (Es.stagesA c l tr).length fs ⟨o', nx'⟩ → K (.tup []) ⟨o', nx'⟩) (hk2 : ∀ o' nx', Js ⟨o', nx'⟩ → K (.tup []) ⟨o', nx'⟩) :
    ACall { P := prog, G := gl, X := X, N := N, r := r, b := b } 60 [.fn (.yield y) [], .mp fl 0 1 0 0, .mp fc 0 7 0 0, .mp ft 0 1 0 0] ⟨o, nx⟩ K := by
  have hcall : callable prog 61 = true := by simp only [go_sem]
  refine acall_ofA (M := { P := prog, G := gl, X := X, N := N, r := r, b := b }) func60 rfl results60 ntmps60 (by simp) fun b => ?_
  simp only [go_sem, ↓reduceIte, reduceCtorEq, Nat.reduceEqDiff, Nat.reduceLT, Nat.reduceLeDiff, Nat.reduceAdd, Nat.reduceSub, Nat.reduceMul, Nat.reduceGT, Int.reduceNeg, Int.reduceToNat]
  refine applyN_spec _ _ _ _ 0 l c fl fc o nx ⟨hx.1, hx.2.1, hx.2.2.2.1⟩ hA _ fun o1 n1 hI hold => ?_
  have k1 := hI.nxt
  have k2 := hI.lst
  have k3 := hI.con
  simp only at k1 k2 k3
  simp only [go_sem, ↓reduceIte, reduceCtorEq, Nat.reduceEqDiff, Nat.reduceLT, Nat.reduceLeDiff, Nat.reduceAdd, Nat.reduceSub, Nat.reduceMul, Nat.reduceGT, Int.reduceNeg, Int.reduceToNat, k2, k3]
  refine call_at M_P M_G (start_spec (Es.applyU 0 l c).1 hI.fits) ?_
  have e0 : ∀ {a b : Nat}, a ≠ b → (a = b) = False := fun h => by simp [h]
  have z1 : (fl = fc) = False := e0 (by omega); have z2 : (fl = ft) = False := e0 (by omega); have z3 : (fl = n1) = False := e0 (by omega); have z4 : (fc = fl) = False := e0 (by omega); have z5 : (fc = ft) = False := e0 (by omega); have z6 : (fc = n1) = False := e0 (by omega); have z7 : (ft = fl) = False := e0 (by omega); have z8 : (ft = fc) = False := e0 (by omega); have z9 : (ft = n1) = False := e0 (by omega); have z10 : (n1 = fl) = False := e0 (by omega); have z11 : (n1 = fc) = False := e0 (by omega); have z12 : (n1 = ft) = False := e0 (by omega)
  simp only [go_sem, ↓reduceIte, reduceCtorEq, Nat.reduceEqDiff, Nat.reduceLT, Nat.reduceLeDiff, Nat.reduceAdd, Nat.reduceSub, Nat.reduceMul, Nat.reduceGT, Int.reduceNeg, Int.reduceToNat, k2, k3, z1, z2, z3, z4, z5, z6, z7, z8, z9, z10, z11, z12]
  have hf0 := hI.fits
  have hSA : Es.stagesA c l tr = ⟨(Es.applyU 0 l c).1, (Es.start (Es.applyU 0 l c).1).1, (Es.start (Es.applyU 0 l c).1).2⟩ :: (if (Es.start (Es.applyU 0 l c).1).2 == 0 then Es.stagesF (Es.applyU 0 l c).1 (Es.start (Es.applyU 0 l c).1).1 (Es.applyU 0 l c).2 tr else []) := rfl
  generalize Es.stagesA c l tr = items at *
  generalize (Es.applyU 0 l c).1 = c0 at *
  generalize (Es.applyU 0 l c).2 = l0 at *
  refine (hY _ _ 0 n1 ⟨c0, (Es.start c0).1, (Es.start c0).2⟩ _ _ (by rw [hSA]; rfl) k1 (by omega) (h0 n1 _ _ k1 (by omega) fun f j h1 h2 h3 => ?_)).mono ?_
  · rw [set_ne (by omega)]; exact hold f j h1 h2 h3
  rintro d ⟨o2, n2⟩ ⟨hn2, ⟨f1, f2, f3, f4⟩, hd⟩
  simp only at hn2 f1 f2 f3 f4
  rw [set_ne (by omega)] at f1 f2 f3
  rw [set_eq] at f4
  rw [k2] at f1
  rw [k3] at f2
  rw [hold ft 0 (by omega) (by omega) (by omega), ho3] at f3
  rcases hd with ⟨rfl, hJ⟩ | ⟨rfl, hJ⟩
  case inr =>
    simp only [go_sem, ↓reduceIte, reduceCtorEq, Nat.reduceEqDiff, Nat.reduceLT, Nat.reduceLeDiff, Nat.reduceAdd, Nat.reduceSub, Nat.reduceMul, Nat.reduceGT, Int.reduceNeg, Int.reduceToNat]
    exact hk2 _ _ hJ
  simp only [go_sem, ↓reduceIte, reduceCtorEq, Nat.reduceEqDiff, Nat.reduceLT, Nat.reduceLeDiff, Nat.reduceAdd, Nat.reduceSub, Nat.reduceMul, Nat.reduceGT, Int.reduceNeg, Int.reduceToNat, f1, f2, f3, f4]
  refine ite_cases (fun hbad => ?_) (fun hbad => ?_)
  · rw [if_neg (by simpa using hbad)] at hSA
    refine hk1 n1 _ _ k1 ?_
    rw [hSA]; exact hJ
  have hok : (Es.start c0).2 = 0 := by simpa using hbad
  rw [if_pos (by simpa using hok)] at hSA
  refine awp_count0 tr.length (fun e0 s0 k e st => (e 0 = e0 0 ∧ e 1 = e0 1 ∧ e 2 = e0 2 ∧ e 3 = e0 3 ∧ e 5 = e0 5 ∧ e 6 = e0 6 ∧ e 29 = e0 29 ∧ e 30 = e0 30) ∧ e 31 = .v (.int .i64 k) ∧
      (∃ (c' : Es.Contract) (s' : Es.State) (l' : List Es.Amend) (done : List Es.Stg), ApS o nx fl fc n1 l' c' s' st ∧ items = done ++ Es.stagesF c' s' l' (tr.drop k) ∧ done.length = k + 1) ∧ J (k + 1) n1 st ∧ st.o ft 0 = some (.blk 1 1 22 (rowOf [slD 1 intC tr])) ∧ n1 < st.nx)
    ⟨⟨rfl, rfl, rfl, rfl, rfl, rfl, rfl, rfl⟩, ?_, ⟨c0, (Es.start c0).1, l0, [⟨c0, (Es.start c0).1, (Es.start c0).2⟩], ⟨⟨by simp only; omega, hf0, f1, f2⟩, Es.sfits_start c0, f4⟩, hSA, rfl⟩, hJ, f3, by simp only; omega⟩ ?_
  · simp only [go_sem, ↓reduceIte, reduceCtorEq, Nat.reduceEqDiff, Nat.reduceLT, Nat.reduceLeDiff, Nat.reduceAdd, Nat.reduceSub, Nat.reduceMul, Nat.reduceGT, Int.reduceNeg, Int.reduceToNat]; rfl
  rintro k e ⟨o4, n4⟩ hkn ⟨⟨a0, a1, a2, a3, a5, a6, a29, a30⟩, a31, ⟨c', s', l', done, hS, hit, hdl⟩, hJ4, hft, hn4⟩
  simp only [go_sem, ↓reduceIte, reduceCtorEq, Nat.reduceEqDiff, Nat.reduceLT, Nat.reduceLeDiff, Nat.reduceAdd, Nat.reduceSub, Nat.reduceMul, Nat.reduceGT, Int.reduceNeg, Int.reduceToNat] at a0 a1 a2 a3 a5 a6 a29 a30
  have m1 := hS.ap.nxt
  have m2 := hS.ap.lst
  have m3 := hS.ap.con
  have mf := hS.ap.fits
  have m4 := hS.sta
  have ms := hS.sf
  simp only at m1 m2 m3 m4 hft hn4
  have hw : IntKind.i64.wrap ((k : Int) + 1) = ((k + 1 : Nat) : Int) := by rw [wrap_i64 _ (by omega) (by omega)]; simp
  have w1 : (fl = fc) = False := e0 (by omega); have w2 : (fl = ft) = False := e0 (by omega); have w3 : (fl = n1) = False := e0 (by omega); have w4 : (fc = fl) = False := e0 (by omega); have w5 : (fc = ft) = False := e0 (by omega); have w6 : (fc = n1) = False := e0 (by omega); have w7 : (ft = fl) = False := e0 (by omega); have w8 : (ft = fc) = False := e0 (by omega); have w9 : (ft = n1) = False := e0 (by omega); have w10 : (n1 = fl) = False := e0 (by omega); have w11 : (n1 = fc) = False := e0 (by omega); have w12 : (n1 = ft) = False := e0 (by omega)
  simp only [go_sem, ↓reduceIte, reduceCtorEq, Nat.reduceEqDiff, Nat.reduceLT, Nat.reduceLeDiff, Nat.reduceAdd, Nat.reduceSub, Nat.reduceMul, Nat.reduceGT, Int.reduceNeg, Int.reduceToNat, a0, a1, a2, a3, a5, a6, a29, a30, a31, m2, m3, m4, hft, w1, w2, w3, w4, w5, w6, w7, w8, w9, w10, w11, w12]
  refine ite_cases (fun hlt => ?_) (fun hlt => ?_)
  · have hlt' : k < tr.length := Es.len_lt.1 hlt
    refine ⟨⟨by omega, hlt⟩, ?_⟩
    refine call_at M_P M_G (step_spec c' s' (Es.at_ tr (k : Int)) mf ms) ?_
    have hdrop : tr.drop k = Es.at_ tr (k : Int) :: tr.drop (k + 1) := by
      rw [List.drop_eq_getElem_cons hlt', Es.at_nat hlt']
    rw [hdrop] at hit
    simp only [go_sem, ↓reduceIte, reduceCtorEq, Nat.reduceEqDiff, Nat.reduceLT, Nat.reduceLeDiff, Nat.reduceAdd, Nat.reduceSub, Nat.reduceMul, Nat.reduceGT, Int.reduceNeg, Int.reduceToNat, a0, a1, a2, a3, a5, a6, a29, a30, a31, m2, m3, m4, hft, w1, w2, w3, w4, w5, w6, w7, w8, w9, w10, w11, w12]
    have hset : ∀ {B : Option SObj}, (∀ f j, f < n4 → f ≠ fl → f ≠ fc → f ≠ n1 → St.set o4 n1 0 B f j = o4 f j) := fun {B} f j h1 h2 h3 h4 => set_ne h4
    refine ite_cases (fun hs0 => ?_) (fun hs0 => ?_)
    · have hs0' : (Es.step c' s' (Es.at_ tr (k : Int))).2 = 0 := by simpa using hs0
      refine ite_cases (fun hk1 => ?_) (fun hk1 => ?_)
      · rw [Es.stagesF, if_neg (by simp [hs0']), if_pos hk1] at hit
        refine applyS_spec _ _ _ _ (Es.step c' s' (Es.at_ tr (k : Int))).1.day l' c' (Es.step c' s' (Es.at_ tr (k : Int))).1 fl fc n1 _ _ (by omega) ⟨⟨Nat.le_refl _, mf, (set_ne (by omega)).trans m2, (set_ne (by omega)).trans m3⟩, Es.sfits_step _ _ _, set_eq⟩ _ fun o5 n5 hS5 hold5 => ?_
        have q1 := hS5.ap.nxt
        have q2 := hS5.ap.lst
        have q3 := hS5.ap.con
        have qf := hS5.ap.fits
        have q4 := hS5.sta
        have qs := hS5.sf
        simp only at q1 q2 q3 q4
        have qt := (hold5 ft 0 (by omega) (by omega) (by omega) (by omega)).trans ((set_ne (by omega)).trans hft)
        generalize Es.applyS (Es.step c' s' (Es.at_ tr (k : Int))).1.day l' c' (Es.step c' s' (Es.at_ tr (k : Int))).1 = ap at *
        simp only [go_sem, ↓reduceIte, reduceCtorEq, Nat.reduceEqDiff, Nat.reduceLT, Nat.reduceLeDiff, Nat.reduceAdd, Nat.reduceSub, Nat.reduceMul, Nat.reduceGT, Int.reduceNeg, Int.reduceToNat, a0, a1, a2, a3, a5, a6, a29, a30, a31, q2, q3, q4, qt, w1, w2, w3, w4, w5, w6, w7, w8, w9, w10, w11, w12, hs0']
        refine (hY _ _ (k + 1) n1 ⟨ap.1, ap.2.1, 0⟩ _ _ (by rw [hit, List.getElem?_append_right (by omega), hdl]; simp) k1 (by omega) (hsame _ _ _ _ _ _ hJ4 (by omega) fun f j h1 h2 h3 h4 => ?_)).mono ?_
        · rw [hold5 f j (by omega) h2 h3 h4]; exact set_ne h4
        rintro d ⟨o6, n6⟩ ⟨hn6, ⟨p1, p2, p3, p4⟩, hd⟩
        simp only at hn6 p1 p2 p3 p4
        rcases hd with ⟨rfl, hJ⟩ | ⟨rfl, hJ⟩
        · simp only [go_sem, ↓reduceIte, reduceCtorEq, Nat.reduceEqDiff, Nat.reduceLT, Nat.reduceLeDiff, Nat.reduceAdd, Nat.reduceSub, Nat.reduceMul, Nat.reduceGT, Int.reduceNeg, Int.reduceToNat, a0, a1, a2, a3, a5, a6, a29, a30, a31]
          refine ⟨hlt', ?_⟩
          simp only [go_sem, ↓reduceIte, reduceCtorEq, Nat.reduceEqDiff, Nat.reduceLT, Nat.reduceLeDiff, Nat.reduceAdd, Nat.reduceSub, Nat.reduceMul, Nat.reduceGT, Int.reduceNeg, Int.reduceToNat, a0, a1, a2, a3, a5, a6, a29, a30, a31, hw]
          refine ⟨⟨ap.1, ap.2.1, ap.2.2, done ++ [⟨ap.1, ap.2.1, 0⟩], ⟨⟨by simp only; omega, qf, p1.trans q2, p2.trans q3⟩, qs, p4.trans q4⟩, by rw [hit]; simp, by simp [hdl]⟩, hJ, p3.trans qt, by omega⟩
        · simp only [go_sem, ↓reduceIte, reduceCtorEq, Nat.reduceEqDiff, Nat.reduceLT, Nat.reduceLeDiff, Nat.reduceAdd, Nat.reduceSub, Nat.reduceMul, Nat.reduceGT, Int.reduceNeg, Int.reduceToNat]
          exact hk2 _ _ hJ
      · rw [Es.stagesF, if_neg (by simp [hs0']), if_neg hk1] at hit
        simp only [go_sem, ↓reduceIte, reduceCtorEq, Nat.reduceEqDiff, Nat.reduceLT, Nat.reduceLeDiff, Nat.reduceAdd, Nat.reduceSub, Nat.reduceMul, Nat.reduceGT, Int.reduceNeg, Int.reduceToNat, a0, a1, a2, a3, a5, a6, a29, a30, a31, m2, m3, m4, hft, w1, w2, w3, w4, w5, w6, w7, w8, w9, w10, w11, w12, hs0']
        refine (hY _ _ (k + 1) n1 ⟨c', (Es.step c' s' (Es.at_ tr (k : Int))).1, 0⟩ _ _ (by rw [hit, List.getElem?_append_right (by omega), hdl]; simp) k1 (by omega) (hsame _ _ _ _ _ _ hJ4 (by omega) hset)).mono ?_
        rintro d ⟨o6, n6⟩ ⟨hn6, ⟨p1, p2, p3, p4⟩, hd⟩
        simp only at hn6 p1 p2 p3 p4
        rw [set_ne (by omega)] at p1 p2 p3
        rw [set_eq] at p4
        rcases hd with ⟨rfl, hJ⟩ | ⟨rfl, hJ⟩
        · simp only [go_sem, ↓reduceIte, reduceCtorEq, Nat.reduceEqDiff, Nat.reduceLT, Nat.reduceLeDiff, Nat.reduceAdd, Nat.reduceSub, Nat.reduceMul, Nat.reduceGT, Int.reduceNeg, Int.reduceToNat, a0, a1, a2, a3, a5, a6, a29, a30, a31]
          refine ⟨hlt', ?_⟩
          simp only [go_sem, ↓reduceIte, reduceCtorEq, Nat.reduceEqDiff, Nat.reduceLT, Nat.reduceLeDiff, Nat.reduceAdd, Nat.reduceSub, Nat.reduceMul, Nat.reduceGT, Int.reduceNeg, Int.reduceToNat, a0, a1, a2, a3, a5, a6, a29, a30, a31, hw]
          refine ⟨⟨c', (Es.step c' s' (Es.at_ tr (k : Int))).1, l', done ++ [⟨c', (Es.step c' s' (Es.at_ tr (k : Int))).1, 0⟩], ⟨⟨by simp only; omega, mf, p1.trans m2, p2.trans m3⟩, Es.sfits_step _ _ _, p4⟩, by rw [hit]; simp, by simp [hdl]⟩, hJ, p3.trans hft, by omega⟩
        · simp only [go_sem, ↓reduceIte, reduceCtorEq, Nat.reduceEqDiff, Nat.reduceLT, Nat.reduceLeDiff, Nat.reduceAdd, Nat.reduceSub, Nat.reduceMul, Nat.reduceGT, Int.reduceNeg, Int.reduceToNat]
          exact hk2 _ _ hJ
    · have hs0' : ¬ (Es.step c' s' (Es.at_ tr (k : Int))).2 = 0 := by simpa using hs0
      rw [Es.stagesF, if_pos (by simpa using hs0')] at hit
      refine (hY _ _ (k + 1) n1 ⟨c', (Es.step c' s' (Es.at_ tr (k : Int))).1, (Es.step c' s' (Es.at_ tr (k : Int))).2⟩ _ _ (by rw [hit, List.getElem?_append_right (by omega), hdl]; simp) k1 (by omega) (hsame _ _ _ _ _ _ hJ4 (by omega) hset)).mono ?_
      rintro d ⟨o6, n6⟩ ⟨hn6, ⟨p1, p2, p3, p4⟩, hd⟩
      rcases hd with ⟨rfl, hJ⟩ | ⟨rfl, hJ⟩
      · simp only [go_sem, ↓reduceIte, reduceCtorEq, Nat.reduceEqDiff, Nat.reduceLT, Nat.reduceLeDiff, Nat.reduceAdd, Nat.reduceSub, Nat.reduceMul, Nat.reduceGT, Int.reduceNeg, Int.reduceToNat, a0, a1, a2, a3, a5, a6, a29, a30, a31]
        refine ite_cases (fun _ => ?_) (fun h => absurd hs0' (by simpa using h))
        refine hk1 n1 _ _ k1 ?_
        rw [hit, List.length_append, hdl]; exact hJ
      · simp only [go_sem, ↓reduceIte, reduceCtorEq, Nat.reduceEqDiff, Nat.reduceLT, Nat.reduceLeDiff, Nat.reduceAdd, Nat.reduceSub, Nat.reduceMul, Nat.reduceGT, Int.reduceNeg, Int.reduceToNat]
        exact hk2 _ _ hJ
  · have hkk : k = tr.length := by simp only [Es.len] at hlt; omega
    subst hkk
    refine hk1 n1 _ _ k1 ?_
    rw [hit, List.drop_length, List.length_append, hdl, show Es.stagesF c' s' l' [] = [] from rfl]
    exact hJ4
end Tryz
end Go.Proofs
end
section
namespace Go.Proofs
open Go Go.Abs
set_option linter.unusedSimpArgs false
set_option linter.unusedVariables false
set_option maxRecDepth 10000
namespace Tryz
def cmpI (a b : Int) : Int := if a < b then -1 else if b < a then 1 else 0
theorem compare_spec (a b : Int) : APure M 93 [.v (.int .i64 a), .v (.int .i64 b)] (.v (.int .i64 (cmpI a b))) := by
  refine pure_of gpu func93 rfl results93 ntmps93 (by simp) ⟨.v _, .v _, trivial⟩ ?_
  intro b
  simp only [go_sem, ↓reduceIte, reduceCtorEq, Nat.reduceEqDiff, Nat.reduceLT, Nat.reduceLeDiff, Nat.reduceAdd, Nat.reduceSub, Nat.reduceMul, Nat.reduceGT, Int.reduceNeg, Int.reduceToNat]
  repeat' (first | ((with_reducible refine call_at M_P M_G (isNaN_spec _) ?_); simp only [go_sem, ↓reduceIte, reduceCtorEq, Nat.reduceEqDiff, Nat.reduceLT, Nat.reduceLeDiff, Nat.reduceAdd, Nat.reduceSub, Nat.reduceMul, Nat.reduceGT, Int.reduceNeg, Int.reduceToNat]) | (with_reducible refine And.intro ?_ ?_) | ((with_reducible refine ite_cases ?_ ?_) <;> intro _))
  all_goals first | (simp [cmpI, *]; done) | (simp [cmpI, *]; omega) | (simp_all [cmpI]; done) | (simp_all [cmpI]; omega)
def orI (l : List Int) : Int := (l.find? (· != 0)).getD 0
theorem orI_at : ∀ {l : List Int} {k : Nat}, k < l.length → Es.at_ l (k : Int) ≠ 0 → (∀ j : Nat, j < k → Es.at_ l (j : Int) = 0) → orI l = Es.at_ l (k : Int)
  | [], _, h, _, _ => by simp at h
  | x :: l, 0, _, h, _ => by
    have h : x ≠ 0 := h
    have : (x != 0) = true := by simpa using h
    simp [orI, List.find?, this, Es.at_]
  | x :: l, k + 1, hk, h, hall => by
    have h0 : x = 0 := hall 0 (by omega)
    have ih := orI_at (l := l) (k := k) (by simpa using hk) (by simpa [Es.at_] using h) fun j hj => by simpa [Es.at_] using hall (j + 1) (by omega)
    subst h0
    have e : orI (0 :: l) = orI l := by simp [orI, List.find?]
    rw [e, ih]; simp [Es.at_]
theorem orI_end {l : List Int} (hall : ∀ j : Nat, j < l.length → Es.at_ l (j : Int) = 0) : orI l = 0 := by
  have : l.find? (· != 0) = none := by
    rw [List.find?_eq_none]
    intro x hx
    obtain ⟨j, hj, rfl⟩ := List.mem_iff_getElem.1 hx
    rw [← Es.at_nat hj, hall j hj]; simp
  unfold orI; rw [this]; rfl
theorem or_spec (l : List Int) (hl : l.length ≤ 9223372036854775807) : APure M 92 [slD 1 intC l] (.v (.int .i64 (orI l))) := by
  refine pure_of gpu func92 rfl results92 ntmps92 (by simp) ⟨pu_slD pu_intC _, trivial⟩ ?_
  intro b
  simp only [go_sem, ↓reduceIte, reduceCtorEq, Nat.reduceEqDiff, Nat.reduceLT, Nat.reduceLeDiff, Nat.reduceAdd, Nat.reduceSub, Nat.reduceMul, Nat.reduceGT, Int.reduceNeg, Int.reduceToNat]
  refine awp_count0 l.length (fun e0 s0 k e s => (e 3 = e0 3 ∧ e 6 = e0 6 ∧ e 7 = e0 7) ∧ e 8 = .v (.int .i64 k) ∧ s = s0 ∧ ∀ j : Nat, j < k → Es.at_ l j = 0) ⟨⟨rfl, rfl, rfl⟩, ?_, rfl, (by omega)⟩ ?_
  · simp only [go_sem, ↓reduceIte, reduceCtorEq, Nat.reduceEqDiff, Nat.reduceLT, Nat.reduceLeDiff, Nat.reduceAdd, Nat.reduceSub, Nat.reduceMul, Nat.reduceGT, Int.reduceNeg, Int.reduceToNat]; rfl
  rintro k e s hk ⟨⟨h3, h6, h7⟩, h8, rfl, hall⟩
  simp only [go_sem, ↓reduceIte, reduceCtorEq, Nat.reduceEqDiff, Nat.reduceLT, Nat.reduceLeDiff, Nat.reduceAdd, Nat.reduceSub, Nat.reduceMul, Nat.reduceGT, Int.reduceNeg, Int.reduceToNat] at h3 h6 h7
  simp only [go_sem, ↓reduceIte, reduceCtorEq, Nat.reduceEqDiff, Nat.reduceLT, Nat.reduceLeDiff, Nat.reduceAdd, Nat.reduceSub, Nat.reduceMul, Nat.reduceGT, Int.reduceNeg, Int.reduceToNat, h3, h6, h7, h8]
  refine ite_cases (fun hlt => ?_) (fun hlt => ?_)
  · have hlt' : k < l.length := Es.len_lt.1 hlt
    refine ⟨⟨by omega, hlt⟩, ?_⟩
    refine ite_cases (fun hp => ?_) (fun hp => ?_)
    · rw [orI_at hlt' (by simpa using hp) hall]
    · refine ⟨hlt', ?_⟩
      simp only [go_sem, ↓reduceIte, reduceCtorEq, Nat.reduceEqDiff, Nat.reduceLT, Nat.reduceLeDiff, Nat.reduceAdd, Nat.reduceSub, Nat.reduceMul, Nat.reduceGT, Int.reduceNeg, Int.reduceToNat, h3, h6, h7, h8]
      refine ⟨by rw [wrap_i64 _ (by omega) (by omega)]; simp, fun j hj => ?_⟩
      rcases Nat.lt_or_ge j k with h | h
      · exact hall j h
      · have : j = k := by omega
        rw [this]; simpa using hp
  · have hkk : k = l.length := by simp only [Es.len] at hlt; omega
    rw [orI_end (hkk ▸ hall)]
def cmpE (a b : Es.Amend × Nat) : Int := orI [cmpI a.1.day b.1.day, cmpI a.1.number b.1.number, cmpI a.2 b.2]
theorem orI3 (a b c : Int) : orI [a, b, c] = if a = 0 then (if b = 0 then c else b) else a := by
  have hz : ∀ (x : Int) (l : List Int), orI (x :: l) = if x = 0 then orI l else x := fun x l => by
    by_cases hx : x = 0
    · subst hx; simp [orI, List.find?]
    · have : (x != 0) = true := by simpa using hx
      simp [orI, List.find?, this, hx]
  rw [hz, hz, hz]
  by_cases hc : c = 0 <;> simp [hc, orI]
theorem cmpE_lt (a b : Es.Amend × Nat) : decide (cmpE a b < 0) = !Es.leP b a := by
  unfold cmpE
  rw [orI3]
  unfold cmpI
  rw [Bool.eq_iff_iff]
  simp only [Es.leP, Bool.not_eq_true', Bool.or_eq_false_iff, Bool.and_eq_false_iff, decide_eq_false_iff_not, decide_eq_true_eq, beq_eq_false_iff_ne]
  repeat' split
  all_goals omega
theorem order_spec (x y : Es.Amend × Nat) : APure M 76 [entD x, entD y] (.v (.int .i64 (cmpE x y))) := by
  refine pure_of gpu func76 rfl results76 ntmps76 (by simp) ⟨pu_entD x, pu_entD y, trivial⟩ ?_
  intro b
  simp only [go_sem, ↓reduceIte, reduceCtorEq, Nat.reduceEqDiff, Nat.reduceLT, Nat.reduceLeDiff, Nat.reduceAdd, Nat.reduceSub, Nat.reduceMul, Nat.reduceGT, Int.reduceNeg, Int.reduceToNat]
  refine awp_plan ((.op 0 (.op 1 (.op 2 (.op 3 (.op 4 (.op 5 (.op 7 (.op 8 (.op 9 (.op 10 (.op 11 (.op 12 (.op 14 (.op 15 (.op 16 (.op 17 (.op 6 (.op 13 (.op 18 (.op 19 (.op 20 (.op 21 .done))))))))))))))))))))))) [] mix (by kernel_rfl) ?_
  simp only [go_sem, ↓reduceIte, reduceCtorEq, Nat.reduceEqDiff, Nat.reduceLT, Nat.reduceLeDiff, Nat.reduceAdd, Nat.reduceSub, Nat.reduceMul, Nat.reduceGT, Int.reduceNeg, Int.reduceToNat]
  repeat' (first | ((with_reducible refine call_at M_P M_G (compare_spec _ _) ?_); simp only [go_sem, ↓reduceIte, reduceCtorEq, Nat.reduceEqDiff, Nat.reduceLT, Nat.reduceLeDiff, Nat.reduceAdd, Nat.reduceSub, Nat.reduceMul, Nat.reduceGT, Int.reduceNeg, Int.reduceToNat]) | (with_reducible refine And.intro ?_ ?_) | ((with_reducible refine ite_cases ?_ ?_) <;> intro _))
  refine lend_at M_P M_G (or_spec [cmpI x.1.day y.1.day, cmpI x.1.number y.1.number, cmpI x.2 y.2] (by simp)) gpu (.v _) ⟨fz_ms rfl rfl pu_intC fun r j hr hj => ?_, trivial⟩ ?_
  · obtain rfl : j = 0 := by omega
    have hr : r < 3 := hr
    rcases (show r = 0 ∨ r = 1 ∨ r = 2 by omega) with rfl | rfl | rfl <;> rfl
  simp only [go_sem, ↓reduceIte, reduceCtorEq, Nat.reduceEqDiff, Nat.reduceLT, Nat.reduceLeDiff, Nat.reduceAdd, Nat.reduceSub, Nat.reduceMul, Nat.reduceGT, Int.reduceNeg, Int.reduceToNat]
  rfl
end Tryz
end Go.Proofs
end
section
namespace Go.Proofs
open Go Go.Abs
set_option linter.unusedSimpArgs false
set_option linter.unusedVariables false
set_option maxRecDepth 10000
namespace Tryz
/-- A pass of the insertion sort under way: the element at place j is on its way to the left. -/
def Moving (l m : List (Es.Amend × Nat)) (i j : Nat) : Prop :=
  m.Perm l ∧ ∃ A x B C, m = A ++ x :: (B ++ C) ∧ A.length = j ∧ A.length + B.length = i ∧ Es.Sorted Es.leP (A ++ B) ∧ ∀ y ∈ B, Es.leP x y = true
theorem Moving.start {l m : List (Es.Amend × Nat)} {i : Nat} (hp : m.Perm l) (hs : Es.Sorted Es.leP (m.take i)) (hi : i < m.length) : Moving l m i i :=
  ⟨hp, m.take i, m[i], [], m.drop (i + 1), by rw [List.nil_append, List.getElem_cons_drop, List.take_append_drop], by rw [List.length_take]; omega, by rw [List.length_take, List.length_nil]; omega, by simpa using hs, fun y hy => by cases hy⟩
theorem Moving.step {l m : List (Es.Amend × Nat)} {i j : Nat} (h : Moving l m i (j + 1)) (hlt : Es.leP (Es.at_ m (j : Int)) (Es.at_ m ((j + 1 : Nat) : Int)) = false) : Moving l ((m.set (j + 1) (Es.at_ m (j : Int))).set j (Es.at_ m ((j + 1 : Nat) : Int))) i j := by
  obtain ⟨hp, A, x, B, C, rfl, hA, hB, hs, hx⟩ := h
  have hne : A ≠ [] := fun h => by subst h; simp at hA
  obtain ⟨A', y, rfl⟩ : ∃ A' y, A = A' ++ [y] := ⟨A.dropLast, A.getLast hne, (List.dropLast_concat_getLast hne).symm⟩
  have hA' : A'.length = j := by simpa using hA
  have e1 : Es.at_ ((A' ++ [y]) ++ x :: (B ++ C)) (j : Int) = y := by
    rw [Es.at_nat (by simp; omega)]
    simp only [List.append_assoc, List.cons_append, List.nil_append]
    rw [List.getElem_append_right (by omega)]; simp [hA']
  have e2 : Es.at_ ((A' ++ [y]) ++ x :: (B ++ C)) ((j + 1 : Nat) : Int) = x := by
    rw [Es.at_nat (by simp; omega), List.getElem_append_right (by simp; omega)]; simp [hA']
  rw [e1, e2] at hlt
  rw [e1, e2]
  have e3 : (((A' ++ [y]) ++ x :: (B ++ C)).set (j + 1) y).set j x = A' ++ x :: ((y :: B) ++ C) := by
    subst hA'
    simp [List.set_append_right, List.append_assoc]
  rw [e3]
  refine ⟨?_, A', x, y :: B, C, rfl, hA', by simp at hB ⊢; omega, by simpa using hs, fun z hz => ?_⟩
  · refine List.Perm.trans ?_ hp
    simp only [List.append_assoc, List.cons_append, List.nil_append]
    exact (List.Perm.swap y x _).append_left A'
  · rcases List.mem_cons.1 hz with rfl | hz
    · exact (Es.leP_total.total x z).resolve_right (by simp [hlt])
    · exact hx z hz
theorem Moving.done {l m : List (Es.Amend × Nat)} {i j : Nat} (h : Moving l m i j) (hd : j = 0 ∨ Es.leP (Es.at_ m ((j : Int) - 1)) (Es.at_ m (j : Int)) = true) : m.Perm l ∧ Es.Sorted Es.leP (m.take (i + 1)) := by
  obtain ⟨hp, A, x, B, C, rfl, hA, hB, hs, hx⟩ := h
  refine ⟨hp, ?_⟩
  have e : (A ++ x :: (B ++ C)).take (i + 1) = A ++ x :: B := by
    rw [show A ++ x :: (B ++ C) = (A ++ x :: B) ++ C by simp]
    rw [List.take_append_of_le_length (by simp only [List.length_append, List.length_cons]; omega), List.take_of_length_le (by simp only [List.length_append, List.length_cons]; omega)]
  rw [e]
  obtain ⟨h1, h2, h3⟩ := List.pairwise_append.1 hs
  refine List.pairwise_append.2 ⟨h1, List.pairwise_cons.2 ⟨hx, h2⟩, fun a ha b hb => ?_⟩
  rcases List.mem_cons.1 hb with rfl | hb
  · rcases hd with rfl | hd
    · rw [List.length_eq_zero_iff.1 hA] at ha; cases ha
    · have hne : A ≠ [] := fun h => by subst h; cases ha
      obtain ⟨A', y, rfl⟩ : ∃ A' y, A = A' ++ [y] := ⟨A.dropLast, A.getLast hne, (List.dropLast_concat_getLast hne).symm⟩
      have hj : j = A'.length + 1 := by simpa using hA.symm
      have e1 : Es.at_ ((A' ++ [y]) ++ b :: (B ++ C)) ((j : Int) - 1) = y := by
        rw [show (j : Int) - 1 = ((A'.length : Nat) : Int) by omega, Es.at_nat (by simp only [List.length_append, List.length_cons, List.length_nil]; omega)]
        simp only [List.append_assoc, List.cons_append, List.nil_append]
        rw [List.getElem_append_right (by omega)]; simp
      have e2 : Es.at_ ((A' ++ [y]) ++ b :: (B ++ C)) (j : Int) = b := by
        rw [Es.at_nat (by simp; omega), List.getElem_append_right (by simp; omega)]; simp [hj]
      rw [e1, e2] at hd
      rcases List.mem_append.1 ha with ha | ha
      · exact Es.leP_total.trans _ _ _ ((List.pairwise_append.1 h1).2.2 a ha y (by simp)) hd
      · simp only [List.mem_singleton] at ha; subst ha; exact hd
  · exact h3 a ha b hb
theorem cmpE_pos {a b : Es.Amend × Nat} (h : cmpE a b < 0) : Es.leP b a = false := by
  have := cmpE_lt a b
  rw [decide_eq_true h] at this
  simpa using this.symm
theorem cmpE_neg {a b : Es.Amend × Nat} (h : ¬ cmpE a b < 0) : Es.leP b a = true := by
  have := cmpE_lt a b
  rw [decide_eq_false h] at this
  simpa using this.symm
theorem insSort_spec (X : D → Value → Prop) (N : Nat) (r : Option Nat) (b : Nat) (f n : Nat) (ty : TypeId) (l : List (Es.Amend × Nat)) (o : St) (nx : Nat) (K : D → S → Prop) (ho : o f 0 = some (.blk 23 n ty (rowsOf entC l))) (hf : f < nx) (hn : l.length = n) (hb : n ≤ 1000000)
    (hk : ∀ o' nx' m, nx ≤ nx' → (∀ g j, g < nx → ¬ (g = f ∧ j = 0) → o' g j = o g j) → o' f 0 = some (.blk 23 n ty (rowsOf entC m)) → m.Perm l → Es.Sorted Es.leP m → K (.tup []) ⟨o', nx'⟩) :
    ACall { P := prog, G := gl, X := X, N := N, r := r, b := b } 107 [.ms f 0 23 0 n, .v (.int .i64 0), .v (.int .i64 n), .fn (.func 76) []] ⟨o, nx⟩ K := by
  refine acall_ofA (M := { P := prog, G := gl, X := X, N := N, r := r, b := b }) func107 rfl results107 ntmps107 (by simp) fun b => ?_
  simp only [go_sem, ↓reduceIte, reduceCtorEq, Nat.reduceEqDiff, Nat.reduceLT, Nat.reduceLeDiff, Nat.reduceAdd, Nat.reduceSub, Nat.reduceMul, Nat.reduceGT, Int.reduceNeg, Int.reduceToNat]
  have hl1 : Es.Sorted Es.leP (l.take (0 + 1)) := by
    cases l with
    | nil => exact .nil
    | cons x l => exact List.pairwise_singleton _ _
  refine awp_count0 n (fun e0 s0 k e s => (e 0 = e0 0 ∧ e 1 = e0 1 ∧ e 2 = e0 2 ∧ e 3 = e0 3) ∧ e 8 = .v (.int .i64 ((k : Int) + 1)) ∧ s0.nx ≤ s.nx ∧ (∀ gg j, gg < s0.nx → ¬ (gg = f ∧ j = 0) → s.o gg j = s0.o gg j) ∧ ∃ m, s.o f 0 = some (.blk 23 n ty (rowsOf entC m)) ∧ m.Perm l ∧ Es.Sorted Es.leP (m.take (k + 1))) ⟨⟨rfl, rfl, rfl, rfl⟩, ?_, Nat.le_refl _, fun _ _ _ _ => rfl, l, ho, .refl _, hl1⟩ ?_
  · first | (simp only [go_sem, ↓reduceIte, reduceCtorEq, Nat.reduceEqDiff, Nat.reduceLT, Nat.reduceLeDiff, Nat.reduceAdd, Nat.reduceSub, Nat.reduceMul, Nat.reduceGT, Int.reduceNeg, Int.reduceToNat]; done) | (simp only [go_sem, ↓reduceIte, reduceCtorEq, Nat.reduceEqDiff, Nat.reduceLT, Nat.reduceLeDiff, Nat.reduceAdd, Nat.reduceSub, Nat.reduceMul, Nat.reduceGT, Int.reduceNeg, Int.reduceToNat]; rfl)
  rintro k e ⟨o2, n2⟩ hkn ⟨⟨h0, h1, h2, h3⟩, h8, hn2, hold, m, hm, hp, hs⟩
  simp only at hn2 hold hm
  simp only [go_sem, ↓reduceIte, reduceCtorEq, Nat.reduceEqDiff, Nat.reduceLT, Nat.reduceLeDiff, Nat.reduceAdd, Nat.reduceSub, Nat.reduceMul, Nat.reduceGT, Int.reduceNeg, Int.reduceToNat] at h0 h1 h2 h3
  have hml : m.length = n := by rw [hp.length_eq]; exact hn
  simp only [go_sem, ↓reduceIte, reduceCtorEq, Nat.reduceEqDiff, Nat.reduceLT, Nat.reduceLeDiff, Nat.reduceAdd, Nat.reduceSub, Nat.reduceMul, Nat.reduceGT, Int.reduceNeg, Int.reduceToNat, h0, h1, h2, h3, h8]
  refine ite_cases (fun hlt => ?_) (fun hlt => ?_)
  · have hlt' : k + 1 < n := by omega
    refine awp_count0 (k + 1) (fun e0 s0 t e s => (e 0 = e0 0 ∧ e 1 = e0 1 ∧ e 2 = e0 2 ∧ e 3 = e0 3 ∧ e 8 = e0 8) ∧ e 9 = .v (.int .i64 ((k : Int) + 1 - t)) ∧ s0.nx ≤ s.nx ∧ (∀ gg j, gg < s0.nx → ¬ (gg = f ∧ j = 0) → s.o gg j = s0.o gg j) ∧ ∃ m, s.o f 0 = some (.blk 23 n ty (rowsOf entC m)) ∧ Moving l m (k + 1) (k + 1 - t)) ⟨⟨rfl, rfl, rfl, rfl, rfl⟩, ?_, Nat.le_refl _, fun _ _ _ _ => rfl, m, hm, Moving.start hp hs (by omega)⟩ ?_
    · first | (simp only [go_sem, ↓reduceIte, reduceCtorEq, Nat.reduceEqDiff, Nat.reduceLT, Nat.reduceLeDiff, Nat.reduceAdd, Nat.reduceSub, Nat.reduceMul, Nat.reduceGT, Int.reduceNeg, Int.reduceToNat]; done) | (simp only [go_sem, ↓reduceIte, reduceCtorEq, Nat.reduceEqDiff, Nat.reduceLT, Nat.reduceLeDiff, Nat.reduceAdd, Nat.reduceSub, Nat.reduceMul, Nat.reduceGT, Int.reduceNeg, Int.reduceToNat]; congr 2 <;> simp)
    rintro t e2 ⟨o3, n3⟩ ht ⟨⟨k0, k1, k2, k3, k8⟩, k9, kn, kold, m2, km, kM⟩
    simp only at kn kold km
    simp only [go_sem, ↓reduceIte, reduceCtorEq, Nat.reduceEqDiff, Nat.reduceLT, Nat.reduceLeDiff, Nat.reduceAdd, Nat.reduceSub, Nat.reduceMul, Nat.reduceGT, Int.reduceNeg, Int.reduceToNat, h0, h1, h2, h3, h8] at k0 k1 k2 k3 k8
    have hm2 : m2.length = n := by rw [kM.1.length_eq]; exact hn
    have hcl : callable prog 76 = true := by simp only [go_sem]
    have hcast : ((k + 1 - t : Nat) : Int) = (k : Int) + 1 - t := by omega
    have hw1 : IntKind.i64.wrap ((k : Int) + 1 - t - 1) = (k : Int) + 1 - t - 1 := wrap_i64 _ (by omega) (by omega)
    have hw2 : IntKind.i64.wrap ((k : Int) + 1 + 1) = (k : Int) + 1 + 1 := wrap_i64 _ (by omega) (by omega)
    simp only [go_sem, ↓reduceIte, reduceCtorEq, Nat.reduceEqDiff, Nat.reduceLT, Nat.reduceLeDiff, Nat.reduceAdd, Nat.reduceSub, Nat.reduceMul, Nat.reduceGT, Int.reduceNeg, Int.reduceToNat, k0, k1, k2, k3, k8, k9, km, hcl]
    refine awp_plan ((.op 0 (.op 1 (.op 2 (.op 3 (.op 4 (.op 5 (.op 6 (.op 7 (.op 8 (.op 9 (.op 10 (.op 11 (.op 12 (.op 13 (.op 14 (.op 15 (.op 16 .done)))))))))))))))))) [] mix (by kernel_rfl) ?_
    simp only [go_sem, ↓reduceIte, reduceCtorEq, Nat.reduceEqDiff, Nat.reduceLT, Nat.reduceLeDiff, Nat.reduceAdd, Nat.reduceSub, Nat.reduceMul, Nat.reduceGT, Int.reduceNeg, Int.reduceToNat, k0, k1, k2, k3, k8, k9, km, hcl, hw1]
    refine ite_cases (fun hj => ?_) (fun hj => ?_)
    · refine ⟨⟨by omega, by omega⟩, ?_⟩
      have q1 : 0 + ((k : Int) + 1 - t).toNat = k - t + 1 := by omega
      have q2 : 0 + ((k : Int) + 1 - t - 1).toNat = k - t := by omega
      have q3 : k + 1 - t = k - t + 1 := by omega
      rw [q3] at kM
      simp only [q1, q2]
      refine ⟨by omega, ⟨by omega, by omega⟩, by omega, ?_⟩
      refine call_at M_P M_G (order_spec _ _) ?_
      simp only [go_sem, ↓reduceIte, reduceCtorEq, Nat.reduceEqDiff, Nat.reduceLT, Nat.reduceLeDiff, Nat.reduceAdd, Nat.reduceSub, Nat.reduceMul, Nat.reduceGT, Int.reduceNeg, Int.reduceToNat, k0, k1, k2, k3, k8, k9, km, hcl, hw1]
      refine ite_cases (fun hc => ?_) (fun hc => ?_)
      · refine awp_plan ((.op 0 (.op 1 (.op 2 (.op 3 (.op 4 (.op 5 (.op 6 (.op 7 (.op 8 (.op 9 (.op 10 (.op 11 (.op 12 (.op 13 (.op 14 (.op 15 (.op 16 (.op 17 .done))))))))))))))))))) [15, 17] mix (by kernel_rfl) ?_
        have s1 := setC_ent (l := m2) (r := k - t + 1) (by omega) (Es.at_ m2 ((k - t : Nat) : Int)) (entD_cells _)
        have s2 := setC_ent (l := m2.set (k - t + 1) (Es.at_ m2 ((k - t : Nat) : Int))) (r := k - t) (by rw [List.length_set]; omega) (Es.at_ m2 ((k - t + 1 : Nat) : Int)) (entD_cells _)
        simp only [go_sem, ↓reduceIte, reduceCtorEq, Nat.reduceEqDiff, Nat.reduceLT, Nat.reduceLeDiff, Nat.reduceAdd, Nat.reduceSub, Nat.reduceMul, Nat.reduceGT, Int.reduceNeg, Int.reduceToNat, k0, k1, k2, k3, k8, k9, km, hcl, hw1, q1, q2, s1, s2]
        refine ⟨⟨by omega, by omega⟩, by omega, ⟨by omega, by omega⟩, by omega, ⟨by omega, by omega⟩, by omega, ⟨by omega, by omega⟩, by omega, ?_⟩
        refine ⟨by omega, ?_⟩
        simp only [go_sem, ↓reduceIte, reduceCtorEq, Nat.reduceEqDiff, Nat.reduceLT, Nat.reduceLeDiff, Nat.reduceAdd, Nat.reduceSub, Nat.reduceMul, Nat.reduceGT, Int.reduceNeg, Int.reduceToNat, k0, k1, k2, k3, k8, k9, h0, h1, h2, h3, h8, hw1]
        refine ⟨by congr 2; omega, by omega, fun gg j g1 g2 => ?_, _, rfl, ?_⟩
        · simp only [if_neg g2]; exact kold gg j g1 g2
        · rw [show k + 1 - (t + 1) = k - t by omega]
          exact kM.step (cmpE_pos (by simpa using hc))
      · obtain ⟨d1, d2⟩ := kM.done (.inr (by
          rw [show (((k - t + 1 : Nat)) : Int) - 1 = ((k - t : Nat) : Int) by omega]
          exact cmpE_neg (by simpa using hc)))
        refine ⟨by omega, ?_⟩
        simp only [go_sem, ↓reduceIte, reduceCtorEq, Nat.reduceEqDiff, Nat.reduceLT, Nat.reduceLeDiff, Nat.reduceAdd, Nat.reduceSub, Nat.reduceMul, Nat.reduceGT, Int.reduceNeg, Int.reduceToNat, k0, k1, k2, k3, k8, k9, h0, h1, h2, h3, h8, hw1, hw2]
        exact ⟨by first | rfl | (congr 2; omega), by omega, fun gg j g1 g2 => (kold gg j (by omega) g2).trans (hold gg j g1 g2), m2, km, d1, d2⟩
    · have q3 : k + 1 - t = 0 := by omega
      rw [q3] at kM
      obtain ⟨d1, d2⟩ := kM.done (.inl rfl)
      refine ⟨by omega, ?_⟩
      simp only [go_sem, ↓reduceIte, reduceCtorEq, Nat.reduceEqDiff, Nat.reduceLT, Nat.reduceLeDiff, Nat.reduceAdd, Nat.reduceSub, Nat.reduceMul, Nat.reduceGT, Int.reduceNeg, Int.reduceToNat, k0, k1, k2, k3, k8, k9, h0, h1, h2, h3, h8, hw1, hw2]
      exact ⟨by first | rfl | (congr 2; omega), by omega, fun gg j g1 g2 => (kold gg j (by omega) g2).trans (hold gg j g1 g2), m2, km, d1, d2⟩
  · have hkk : m.take (k + 1) = m := List.take_of_length_le (by omega)
    rw [hkk] at hs
    exact hk _ _ m hn2 hold hm hp hs
/-- How many bits a number has. -/
def bl (n : Nat) : Int := if n = 0 then 0 else (Nat.log2 n + 1 : Nat)
set_option maxRecDepth 100000 in
theorem len64_spec (n : Nat) (h : n < 256) : APure M 116 [.v (.int .u64 n)] (.v (.int .i64 (bl n))) := by
  refine pure_of gpu func116 rfl results116 ntmps116 (by simp) ⟨.v _, trivial⟩ ?_
  intro b
  simp only [go_sem, ↓reduceIte, reduceCtorEq, Nat.reduceEqDiff, Nat.reduceLT, Nat.reduceLeDiff, Nat.reduceAdd, Nat.reduceSub, Nat.reduceMul, Nat.reduceGT, Int.reduceNeg, Int.reduceToNat]
  rw [if_neg (by omega), if_neg (by omega), if_neg (by omega)]
  have hu : IntKind.u8.wrap (n : Int) = n := by simp [IntKind.wrap, IntKind.bits, IntKind.signed]; omega
  rw [hu]
  refine ⟨⟨by omega, ?_⟩, congrArg (Value.int IntKind.i64) ?_⟩
  · exact Int.lt_of_lt_of_le (by omega : (n : Int) < 256) (by decide +kernel)
  · rw [Int.toNat_natCast]
    clear hu
    revert n
    decide +kernel
theorem len_spec (n : Nat) (h : n < 256) : APure M 91 [.v (.int .u64 n)] (.v (.int .i64 (bl n))) := by
  refine pure_of gpu func91 rfl results91 ntmps91 (by simp) ⟨.v _, trivial⟩ ?_
  intro b
  simp only [go_sem, ↓reduceIte, reduceCtorEq, Nat.reduceEqDiff, Nat.reduceLT, Nat.reduceLeDiff, Nat.reduceAdd, Nat.reduceSub, Nat.reduceMul, Nat.reduceGT, Int.reduceNeg, Int.reduceToNat]
  repeat' (first | ((with_reducible refine call_at M_P M_G (len64_spec n h) ?_); simp only [go_sem, ↓reduceIte, reduceCtorEq, Nat.reduceEqDiff, Nat.reduceLT, Nat.reduceLeDiff, Nat.reduceAdd, Nat.reduceSub, Nat.reduceMul, Nat.reduceGT, Int.reduceNeg, Int.reduceToNat]) | (with_reducible refine And.intro ?_ ?_) | ((with_reducible refine ite_cases ?_ ?_) <;> intro _))
/-- A list of at most twelve entries is sorted by insertion alone. -/
theorem pdq12_spec (X : D → Value → Prop) (N : Nat) (r : Option Nat) (b : Nat) (f n : Nat) (v : Int) (ty : TypeId) (l : List (Es.Amend × Nat)) (o : St) (nx : Nat) (K : D → S → Prop) (ho : o f 0 = some (.blk 23 n ty (rowsOf entC l))) (hf : f < nx) (hn : l.length = n) (hb : n ≤ 12)
    (hk : ∀ o' nx' m, nx ≤ nx' → (∀ g j, g < nx → ¬ (g = f ∧ j = 0) → o' g j = o g j) → o' f 0 = some (.blk 23 n ty (rowsOf entC m)) → m.Perm l → Es.Sorted Es.leP m → K (.tup []) ⟨o', nx'⟩) :
    ACall { P := prog, G := gl, X := X, N := N, r := r, b := b } 90 [.ms f 0 23 0 n, .v (.int .i64 0), .v (.int .i64 n), .v (.int .i64 v), .fn (.func 76) []] ⟨o, nx⟩ K := by
  refine acall_ofA (M := { P := prog, G := gl, X := X, N := N, r := r, b := b }) func90 rfl results90 ntmps90 (by simp) fun b => ?_
  simp only [go_sem, ↓reduceIte, reduceCtorEq, Nat.reduceEqDiff, Nat.reduceLT, Nat.reduceLeDiff, Nat.reduceAdd, Nat.reduceSub, Nat.reduceMul, Nat.reduceGT, Int.reduceNeg, Int.reduceToNat]
  refine awp_count0 0 (fun e0 s0 k e s => e = e0 ∧ s = s0) ⟨rfl, rfl⟩ ?_
  rintro k e s hk' ⟨rfl, rfl⟩
  simp only [go_sem, ↓reduceIte, reduceCtorEq, Nat.reduceEqDiff, Nat.reduceLT, Nat.reduceLeDiff, Nat.reduceAdd, Nat.reduceSub, Nat.reduceMul, Nat.reduceGT, Int.reduceNeg, Int.reduceToNat]
  rw [if_pos (by rw [wrap_i64 _ (by omega) (by omega)]; omega)]
  refine insSort_spec _ _ _ _ f n ty l _ _ _ ho hf hn (by omega) fun o' nx' m h1 h2 h3 h4 h5 => ?_
  simp only [go_sem, ↓reduceIte, reduceCtorEq, Nat.reduceEqDiff, Nat.reduceLT, Nat.reduceLeDiff, Nat.reduceAdd, Nat.reduceSub, Nat.reduceMul, Nat.reduceGT, Int.reduceNeg, Int.reduceToNat]
  exact hk _ _ m h1 h2 h3 h4 h5
theorem sort12_spec (X : D → Value → Prop) (N : Nat) (r : Option Nat) (b : Nat) (f n : Nat) (ty : TypeId) (l : List (Es.Amend × Nat)) (o : St) (nx : Nat) (K : D → S → Prop) (ho : o f 0 = some (.blk 23 n ty (rowsOf entC l))) (hf : f < nx) (hn : l.length = n) (hb : n ≤ 12)
    (hk : ∀ o' nx' m, nx ≤ nx' → (∀ g j, g < nx → ¬ (g = f ∧ j = 0) → o' g j = o g j) → o' f 0 = some (.blk 23 n ty (rowsOf entC m)) → m.Perm l → Es.Sorted Es.leP m → K (.tup []) ⟨o', nx'⟩) :
    ACall { P := prog, G := gl, X := X, N := N, r := r, b := b } 75 [.ms f 0 23 0 n, .fn (.func 76) []] ⟨o, nx⟩ K := by
  refine acall_ofA (M := { P := prog, G := gl, X := X, N := N, r := r, b := b }) func75 rfl results75 ntmps75 (by simp) fun b => ?_
  simp only [go_sem, ↓reduceIte, reduceCtorEq, Nat.reduceEqDiff, Nat.reduceLT, Nat.reduceLeDiff, Nat.reduceAdd, Nat.reduceSub, Nat.reduceMul, Nat.reduceGT, Int.reduceNeg, Int.reduceToNat]
  have hu : IntKind.u64.wrap (n : Int) = n := by rw [wrap_u64]; omega
  rw [hu]
  refine call_at M_P M_G (len_spec n (by omega)) ?_
  simp only [go_sem, ↓reduceIte, reduceCtorEq, Nat.reduceEqDiff, Nat.reduceLT, Nat.reduceLeDiff, Nat.reduceAdd, Nat.reduceSub, Nat.reduceMul, Nat.reduceGT, Int.reduceNeg, Int.reduceToNat]
  refine pdq12_spec _ _ _ _ f n _ ty l _ _ _ ho hf hn hb fun o' nx' m h1 h2 h3 h4 h5 => ?_
  simp only [go_sem, ↓reduceIte, reduceCtorEq, Nat.reduceEqDiff, Nat.reduceLT, Nat.reduceLeDiff, Nat.reduceAdd, Nat.reduceSub, Nat.reduceMul, Nat.reduceGT, Int.reduceNeg, Int.reduceToNat]
  exact hk _ _ m h1 h2 h3 h4 h5
end Tryz
end Go.Proofs
end
section
namespace Go.Proofs
open Go Go.Abs
set_option linter.unusedSimpArgs false
set_option linter.unusedVariables false
set_option maxRecDepth 10000
namespace Tryz
theorem sorted_spec (l : List Es.Amend) (hl : l.length ≤ 12) : APure M 59 [slD 22 amdC l] (slD 23 entC (Es.sortedP l)) := by
  refine pure_of gpu func59 rfl results59 ntmps59 (by simp) ⟨pu_slD pu_amdC _, trivial⟩ ?_
  intro b
  simp only [go_sem, ↓reduceIte, reduceCtorEq, Nat.reduceEqDiff, Nat.reduceLT, Nat.reduceLeDiff, Nat.reduceAdd, Nat.reduceSub, Nat.reduceMul, Nat.reduceGT, Int.reduceNeg, Int.reduceToNat]
  refine awp_count0 l.length (fun e0 s0 k e s => (e 6 = e0 6 ∧ e 7 = e0 7) ∧ e 8 = .v (.int .i64 k) ∧ s0.nx ≤ s.nx ∧ OutL entC 23 120 0 s (e 3) (l.zipIdx.take k)) ⟨⟨rfl, rfl⟩, ?_, Nat.le_refl _, ?_⟩ ?_
  · simp only [go_sem, ↓reduceIte, reduceCtorEq, Nat.reduceEqDiff, Nat.reduceLT, Nat.reduceLeDiff, Nat.reduceAdd, Nat.reduceSub, Nat.reduceMul, Nat.reduceGT, Int.reduceNeg, Int.reduceToNat]; rfl
  · simp only [go_sem, ↓reduceIte, reduceCtorEq, Nat.reduceEqDiff, Nat.reduceLT, Nat.reduceLeDiff, Nat.reduceAdd, Nat.reduceSub, Nat.reduceMul, Nat.reduceGT, Int.reduceNeg, Int.reduceToNat]; exact OutL.nil
  rintro k e ⟨o, nx⟩ hk ⟨⟨h6, h7⟩, h8, hn, hO⟩
  simp only [go_sem, ↓reduceIte, reduceCtorEq, Nat.reduceEqDiff, Nat.reduceLT, Nat.reduceLeDiff, Nat.reduceAdd, Nat.reduceSub, Nat.reduceMul, Nat.reduceGT, Int.reduceNeg, Int.reduceToNat] at h6 h7
  have e0 : ∀ {a b : Nat}, a ≠ b → (a = b) = False := fun h => by simp [h]
  have hw : IntKind.i64.wrap ((k : Int) + 1) = (k : Int) + 1 := wrap_i64 _ (by omega) (by omega)
  simp only [go_sem, ↓reduceIte, reduceCtorEq, Nat.reduceEqDiff, Nat.reduceLT, Nat.reduceLeDiff, Nat.reduceAdd, Nat.reduceSub, Nat.reduceMul, Nat.reduceGT, Int.reduceNeg, Int.reduceToNat, h6, h7, h8]
  refine ite_cases (fun hlt => ?_) (fun hlt => ?_)
  · have hlt' : k < l.length := Es.len_lt.1 hlt
    refine ⟨⟨by omega, hlt⟩, ?_⟩
    have hz : l.zipIdx.take (k + 1) = l.zipIdx.take k ++ [(Es.at_ l (k : Int), k)] := by
      rw [List.take_succ_eq_append_getElem (by simpa using hlt')]; simp [Es.at_nat hlt']
    generalize hd : e 3 = d at hO
    rcases hO with ⟨hnil, rfl⟩ | ⟨g, cell, rfl, hg1, hg2, hg3, hg4⟩
    · simp only [go_sem, ↓reduceIte, reduceCtorEq, Nat.reduceEqDiff, Nat.reduceLT, Nat.reduceLeDiff, Nat.reduceAdd, Nat.reduceSub, Nat.reduceMul, Nat.reduceGT, Int.reduceNeg, Int.reduceToNat, h6, h7, h8, hd, hw]
      refine ⟨hlt', ?_⟩
      simp only [go_sem, ↓reduceIte, reduceCtorEq, Nat.reduceEqDiff, Nat.reduceLT, Nat.reduceLeDiff, Nat.reduceAdd, Nat.reduceSub, Nat.reduceMul, Nat.reduceGT, Int.reduceNeg, Int.reduceToNat, h6, h7, h8, hd, hw]
      refine ⟨by simp, ?_⟩
      rw [hz, hnil]
      refine OutL.one' (Nat.zero_le _) fun j hj => ?_
      rcases (show j = 0 ∨ j = 1 ∨ j = 2 ∨ j = 3 ∨ j = 4 ∨ j = 5 ∨ j = 6 ∨ j = 7 ∨ j = 8 ∨ j = 9 ∨ j = 10 ∨ j = 11 ∨ j = 12 ∨ j = 13 ∨ j = 14 ∨ j = 15 ∨ j = 16 ∨ j = 17 ∨ j = 18 ∨ j = 19 ∨ j = 20 ∨ j = 21 ∨ j = 22 by omega) with rfl | rfl | rfl | rfl | rfl | rfl | rfl | rfl | rfl | rfl | rfl | rfl | rfl | rfl | rfl | rfl | rfl | rfl | rfl | rfl | rfl | rfl | rfl <;> rfl
    · simp only at hg2 hg3
      have z1 : (g = nx) = False := e0 (by omega); have z2 : (g = nx + 1) = False := e0 (by omega); have z3 : (g = nx + 1 + 1) = False := e0 (by omega); have z4 : (nx = g) = False := e0 (by omega); have z5 : (nx = nx + 1) = False := e0 (by omega); have z6 : (nx = nx + 1 + 1) = False := e0 (by omega); have z7 : (nx + 1 = g) = False := e0 (by omega); have z8 : (nx + 1 = nx) = False := e0 (by omega); have z9 : (nx + 1 = nx + 1 + 1) = False := e0 (by omega); have z10 : (nx + 1 + 1 = g) = False := e0 (by omega); have z11 : (nx + 1 + 1 = nx) = False := e0 (by omega); have z12 : (nx + 1 + 1 = nx + 1) = False := e0 (by omega)
      simp only [go_sem, ↓reduceIte, reduceCtorEq, Nat.reduceEqDiff, Nat.reduceLT, Nat.reduceLeDiff, Nat.reduceAdd, Nat.reduceSub, Nat.reduceMul, Nat.reduceGT, Int.reduceNeg, Int.reduceToNat, h6, h7, h8, hd, hw, hg3, z1, z2, z3, z4, z5, z6, z7, z8, z9, z10, z11, z12]
      have hlk : (l.zipIdx.take k).length ≤ 12 := by rw [List.length_take]; omega
      refine ⟨⟨by omega, by omega⟩, ⟨hlt', ?_⟩⟩
      simp only [go_sem, ↓reduceIte, reduceCtorEq, Nat.reduceEqDiff, Nat.reduceLT, Nat.reduceLeDiff, Nat.reduceAdd, Nat.reduceSub, Nat.reduceMul, Nat.reduceGT, Int.reduceNeg, Int.reduceToNat, h6, h7, h8, hd, hw]
      refine ⟨by simp, ?_⟩
      rw [hz]
      refine OutL.more' (Nat.zero_le _) hg4 fun j hj => ?_
      rcases (show j = 0 ∨ j = 1 ∨ j = 2 ∨ j = 3 ∨ j = 4 ∨ j = 5 ∨ j = 6 ∨ j = 7 ∨ j = 8 ∨ j = 9 ∨ j = 10 ∨ j = 11 ∨ j = 12 ∨ j = 13 ∨ j = 14 ∨ j = 15 ∨ j = 16 ∨ j = 17 ∨ j = 18 ∨ j = 19 ∨ j = 20 ∨ j = 21 ∨ j = 22 by omega) with rfl | rfl | rfl | rfl | rfl | rfl | rfl | rfl | rfl | rfl | rfl | rfl | rfl | rfl | rfl | rfl | rfl | rfl | rfl | rfl | rfl | rfl | rfl <;> rfl
  · have hkk : k = l.length := by simp only [Es.len] at hlt; omega
    subst hkk
    have hz : l.zipIdx.take l.length = l.zipIdx := List.take_of_length_le (by simp)
    rw [hz] at hO
    generalize hd : e 3 = d at hO
    rcases hO with ⟨hnil, rfl⟩ | ⟨g, cell, rfl, hg1, hg2, hg3, hg4⟩
    · have hl0 : l = [] := by
        rw [← List.length_eq_zero_iff, ← List.length_zipIdx (i := 0), hnil]; rfl
      subst hl0
      simp only [go_sem, ↓reduceIte, reduceCtorEq, Nat.reduceEqDiff, Nat.reduceLT, Nat.reduceLeDiff, Nat.reduceAdd, Nat.reduceSub, Nat.reduceMul, Nat.reduceGT, Int.reduceNeg, Int.reduceToNat, h6, h7, h8, hd]
      refine acall_nilarg (k := 23) (args' := [.ms nx 0 23 0 0, .fn (.func 76) []]) 120 (rowsOf entC []) ⟨.inr ⟨rfl, rfl⟩, .inl rfl, trivial⟩ ?_
      refine sort12_spec _ _ _ _ nx 0 _ [] _ _ _ (St_set_self _ _ _ _) (by omega) rfl (by omega) fun o' nx' m h1 h2 h3 h4 h5 => ?_
      try simp only [go_sem, ↓reduceIte, reduceCtorEq, Nat.reduceEqDiff, Nat.reduceLT, Nat.reduceLeDiff, Nat.reduceAdd, Nat.reduceSub, Nat.reduceMul, Nat.reduceGT, Int.reduceNeg, Int.reduceToNat, h6, h7, h8, hd]
      exact .nil _ _
    · simp only at hg2 hg3
      have hlz : l.zipIdx.length = l.length := by simp
      try simp only [go_sem, ↓reduceIte, reduceCtorEq, Nat.reduceEqDiff, Nat.reduceLT, Nat.reduceLeDiff, Nat.reduceAdd, Nat.reduceSub, Nat.reduceMul, Nat.reduceGT, Int.reduceNeg, Int.reduceToNat, h6, h7, h8, hd]
      refine acall_cells hg3 hg4 ?_
      refine sort12_spec _ _ _ _ g _ _ l.zipIdx _ _ _ (St_set_self _ _ _ _) hg2 rfl (by omega) fun o' nx' m h1 h2 h3 h4 h5 => ?_
      try simp only [go_sem, ↓reduceIte, reduceCtorEq, Nat.reduceEqDiff, Nat.reduceLT, Nat.reduceLeDiff, Nat.reduceAdd, Nat.reduceSub, Nat.reduceMul, Nat.reduceGT, Int.reduceNeg, Int.reduceToNat, h6, h7, h8, hd]
      rw [Es.sortedP_unique h4 h5] at h3
      exact fz_rows h3 (by rw [← Es.sortedP_unique h4 h5]; exact h4.length_eq.symm) pu_entC
theorem order_spec' (l : List Es.Amend) (hl : l.length ≤ 12) : APure M 40 [slD 22 amdC l] (slD 1 intC (Es.orderA l)) := by
  refine pure_of gpu func40 rfl results40 ntmps40 (by simp) ⟨pu_slD pu_amdC _, trivial⟩ ?_
  intro b
  simp only [go_sem, ↓reduceIte, reduceCtorEq, Nat.reduceEqDiff, Nat.reduceLT, Nat.reduceLeDiff, Nat.reduceAdd, Nat.reduceSub, Nat.reduceMul, Nat.reduceGT, Int.reduceNeg, Int.reduceToNat]
  repeat' (first | ((with_reducible refine call_at M_P M_G (sorted_spec l hl) ?_); simp only [go_sem, ↓reduceIte, reduceCtorEq, Nat.reduceEqDiff, Nat.reduceLT, Nat.reduceLeDiff, Nat.reduceAdd, Nat.reduceSub, Nat.reduceMul, Nat.reduceGT, Int.reduceNeg, Int.reduceToNat]) | (with_reducible refine And.intro ?_ ?_) | ((with_reducible refine ite_cases ?_ ?_) <;> intro _))
  have hll : (Es.sortedP l).length = l.length := by simp [Es.sortedP, Es.isort_len]
  refine awp_count0 (Es.sortedP l).length (fun e0 s0 k e s => (e 7 = e0 7 ∧ e 8 = e0 8) ∧ e 9 = .v (.int .i64 k) ∧ s0.nx ≤ s.nx ∧ OutL intC 1 3 0 s (e 3) (((Es.sortedP l).take k).map fun x => (x.2 : Int))) ⟨⟨rfl, rfl⟩, ?_, Nat.le_refl _, ?_⟩ ?_
  · simp only [go_sem, ↓reduceIte, reduceCtorEq, Nat.reduceEqDiff, Nat.reduceLT, Nat.reduceLeDiff, Nat.reduceAdd, Nat.reduceSub, Nat.reduceMul, Nat.reduceGT, Int.reduceNeg, Int.reduceToNat]; rfl
  · simp only [go_sem, ↓reduceIte, reduceCtorEq, Nat.reduceEqDiff, Nat.reduceLT, Nat.reduceLeDiff, Nat.reduceAdd, Nat.reduceSub, Nat.reduceMul, Nat.reduceGT, Int.reduceNeg, Int.reduceToNat]; exact OutL.nil
  rintro k e ⟨o, nx⟩ hk ⟨⟨h7, h8⟩, h9, hn, hO⟩
  simp only [go_sem, ↓reduceIte, reduceCtorEq, Nat.reduceEqDiff, Nat.reduceLT, Nat.reduceLeDiff, Nat.reduceAdd, Nat.reduceSub, Nat.reduceMul, Nat.reduceGT, Int.reduceNeg, Int.reduceToNat] at h7 h8
  have e0 : ∀ {a b : Nat}, a ≠ b → (a = b) = False := fun h => by simp [h]
  have hw : IntKind.i64.wrap ((k : Int) + 1) = (k : Int) + 1 := wrap_i64 _ (by omega) (by omega)
  simp only [go_sem, ↓reduceIte, reduceCtorEq, Nat.reduceEqDiff, Nat.reduceLT, Nat.reduceLeDiff, Nat.reduceAdd, Nat.reduceSub, Nat.reduceMul, Nat.reduceGT, Int.reduceNeg, Int.reduceToNat, h9, h7, h8]
  refine ite_cases (fun hlt => ?_) (fun hlt => ?_)
  · have hlt' : k < (Es.sortedP l).length := Es.len_lt.1 hlt
    refine ⟨⟨by omega, hlt⟩, ?_⟩
    have hz : ((Es.sortedP l).take (k + 1)).map (fun x => (x.2 : Int)) = ((Es.sortedP l).take k).map (fun x => (x.2 : Int)) ++ [((Es.at_ (Es.sortedP l) (k : Int)).2 : Int)] := by
      rw [Es.take_at hlt', List.map_append]; rfl
    generalize hd : e 3 = d at hO
    rcases hO with ⟨hnil, rfl⟩ | ⟨g, cell, rfl, hg1, hg2, hg3, hg4⟩
    · simp only [go_sem, ↓reduceIte, reduceCtorEq, Nat.reduceEqDiff, Nat.reduceLT, Nat.reduceLeDiff, Nat.reduceAdd, Nat.reduceSub, Nat.reduceMul, Nat.reduceGT, Int.reduceNeg, Int.reduceToNat, h9, h7, h8, hd, hw]
      refine ⟨hlt', ?_⟩
      simp only [go_sem, ↓reduceIte, reduceCtorEq, Nat.reduceEqDiff, Nat.reduceLT, Nat.reduceLeDiff, Nat.reduceAdd, Nat.reduceSub, Nat.reduceMul, Nat.reduceGT, Int.reduceNeg, Int.reduceToNat, h9, h7, h8, hd, hw]
      refine ⟨by simp, ?_⟩
      rw [hz, hnil]
      refine OutL.one' (Nat.zero_le _) fun j hj => ?_
      rcases (show j = 0 by omega) with rfl <;> rfl
    · simp only at hg2 hg3
      have z1 : (g = nx) = False := e0 (by omega); have z2 : (g = nx + 1) = False := e0 (by omega); have z3 : (g = nx + 1 + 1) = False := e0 (by omega); have z4 : (nx = g) = False := e0 (by omega); have z5 : (nx = nx + 1) = False := e0 (by omega); have z6 : (nx = nx + 1 + 1) = False := e0 (by omega); have z7 : (nx + 1 = g) = False := e0 (by omega); have z8 : (nx + 1 = nx) = False := e0 (by omega); have z9 : (nx + 1 = nx + 1 + 1) = False := e0 (by omega); have z10 : (nx + 1 + 1 = g) = False := e0 (by omega); have z11 : (nx + 1 + 1 = nx) = False := e0 (by omega); have z12 : (nx + 1 + 1 = nx + 1) = False := e0 (by omega)
      have hlk : (((Es.sortedP l).take k).map fun x => (x.2 : Int)).length ≤ 12 := by rw [List.length_map, List.length_take]; omega
      simp only [go_sem, ↓reduceIte, reduceCtorEq, Nat.reduceEqDiff, Nat.reduceLT, Nat.reduceLeDiff, Nat.reduceAdd, Nat.reduceSub, Nat.reduceMul, Nat.reduceGT, Int.reduceNeg, Int.reduceToNat, h9, h7, h8, hd, hw, hg3, z1, z2, z3, z4, z5, z6, z7, z8, z9, z10, z11, z12]
      refine ⟨⟨by omega, by omega⟩, ⟨hlt', ?_⟩⟩
      simp only [go_sem, ↓reduceIte, reduceCtorEq, Nat.reduceEqDiff, Nat.reduceLT, Nat.reduceLeDiff, Nat.reduceAdd, Nat.reduceSub, Nat.reduceMul, Nat.reduceGT, Int.reduceNeg, Int.reduceToNat, h9, h7, h8, hd, hw]
      refine ⟨by simp, ?_⟩
      rw [hz]
      refine OutL.more' (Nat.zero_le _) hg4 fun j hj => ?_
      rcases (show j = 0 by omega) with rfl <;> rfl
  · have hkk : k = (Es.sortedP l).length := by simp only [Es.len] at hlt; omega
    subst hkk
    rw [List.take_length] at hO
    try simp only [go_sem, ↓reduceIte, reduceCtorEq, Nat.reduceEqDiff, Nat.reduceLT, Nat.reduceLeDiff, Nat.reduceAdd, Nat.reduceSub, Nat.reduceMul, Nat.reduceGT, Int.reduceNeg, Int.reduceToNat, h9, h7, h8]
    exact hO.fz (fun g _ _ => rfl) pu_intC
end Tryz
end Go.Proofs
end
